/- Part 3 of the proof: the engine, codes, walks and plain laws, each named where it stands. -/
import Derived.Test.YthnafimjdcihlaaGreatDoorZB
open Nat (reduceEqDiff reduceAdd reduceLeDiff reduceLT)
set_option linter.unusedVariables false
set_option linter.unusedSimpArgs false
set_option maxRecDepth 4000
set_option maxHeartbeats 8000000
namespace Go.AE.Y
open Go.Proofs.Tryz
def Qa4p:SC:=sR [mJ 7 0,mJ 8 1,bJ 9 .geq 7 8,mJ 10 9,gTm 11 10 0,gTm 12 10 2,gT 13 10 (.bin 0 .leq (.t 11) (.t 12)),pF 14 10 13,mJ 6 14] [6] .ret
def Qa9j:SC:=sR [fB 6 false] [0,1,2] Qa4p
theorem Qa9a:mFn prog Qw9 3 15 Qa9j Qaae=true:=by kernel_rfl
def Qis:List Item:=[oJ 8 7]
def Qyu:SC:=cT 8 (sR [fB 2 false] [2] .ret) .skip
def Qit:List Item:=[oJ 22 21]
def Qyv:SC:=cT 22 (sR [fB 2 false] [2] .ret) .skip
def Qyw:SC:=.reg [mJ 14 3,cJ 15 .add 14 1,mJ 3 15] [1,3]
def Qyx:SC:=.seq (.block 1 (sR (fJ 16 0 1::lJ 17 16::mJ 18 3::iJ 19 3 17 18::tJ 20 3 19::aJ 21 Qaqm [.t 20]::Qit) [1,3,22] Qyv)) Qyw
def Qwb:SC:=.seq (sR [mJ 9 3,fJ 10 0 1,lJ 11 10,nJ 12 11,bJ 13 .lss 9 12] [1,3,13] (cT 13 .skip (.exit 0))) Qyx
def Qiu:List Item:=[cJ 25 .leq 24 40,mJ 2 25]
def Qyy:SC:=sR (tJ 23 1 1::aJ 24 Qait [.t 23]::Qiu) [2] .ret
def Qyz:SC:=.seq (sR [zJ 3 0] [1,3] (bL 0 Qwb)) Qyy
def Qwa:SC:=.seq (sR (fJ 4 0 1::lJ 5 4::nJ 6 5::aJ 7 Qw9 [.t 6,kI 1,kI 4]::Qis) [1,8] Qyu) Qyz
def Q35:SC:=sR [vJ 1 0,fB 2 false] [1] Qwa
theorem Q1u:mFn prog Qfw 1 26 Q35 Qgm=true:=by kernel_rfl
def Qan4:List Item:=[oJ 17 16]
def Qa4u:SC:=cT 17 (sR [fB 2 false] [2] .ret) .skip
def Qa4v:SC:=.reg [mJ 9 3,cJ 10 .add 9 1,mJ 3 10] [1,3]
def Qa4w:SC:=.seq (.block 1 (sR (fJ 11 1 1::lJ 12 11::mJ 13 3::iJ 14 1 12 13::lJ 15 14::aJ 16 Qe8 [.t 15]::Qan4) [1,3,17] Qa4u)) Qa4v
def Qa1p:SC:=.seq (sR [mJ 4 3,fJ 5 1 1,lJ 6 5,nJ 7 6,bJ 8 .lss 4 7] [1,3,8] (cT 8 .skip (.exit 0))) Qa4w
def Qabo:List Item:=[pF 31 27 30,mJ 2 31]
def Qan5:List Item:=mJ 21 20::gTf 22 21 1 1::gTl 23 21 22::gT 24 21 (.len (.t 23))::gT 25 21 (.bin 0 .leq (.t 24) (kI 3))::pF 26 21 25::mJ 27 26::gTf 28 27 2 1::gTl 29 27 28::.e (some 30) (some (27,true)) (.call Qms [.t 29,kI 4])::Qabo
def Qa4x:SC:=sR (fJ 18 0 1::lJ 19 18::aJ 20 Qe8 [.t 19]::Qan5) [2] .ret
def Qa4y:SC:=.seq (sR [zJ 3 0] [1,3] (bL 0 Qa1p)) Qa4x
def Qa9k:SC:=sR [vJ 1 0,fB 2 false] [1] Qa4y
theorem Qa9b:mFn prog Qaqm 1 32 Qa9k Qgm=true:=by kernel_rfl
def Qah7:List Item:=[bJ 20 .add 12 19,mJ 3 20]
def Qa1j:SC:=.reg [mJ 10 4,cJ 11 .add 10 1,mJ 4 11] [1,3,4]
def Qa1k:SC:=.seq (.block 1 (.reg (mJ 12 3::fJ 13 0 1::lJ 14 13::mJ 15 4::iJ 16 3 14 15::fJ 17 2 16::lJ 18 17::aJ 19 Qmr [.t 18]::Qah7) [1,3,4])) Qa1j
def Qaw4:SC:=.seq (sR [mJ 5 4,fJ 6 0 1,lJ 7 6,nJ 8 7,bJ 9 .lss 5 8] [1,3,4,9] (cT 9 .skip (.exit 0))) Qa1k
def Qa1l:SC:=sR [mJ 21 3,mJ 2 21] [2] .ret
def Qa1m:SC:=.seq (sR [zJ 4 0] [1,3,4] (bL 0 Qaw4)) Qa1l
def Qa1n:SC:=sR [zJ 3 0] [1,3] Qa1m
def Qa7y:SC:=sR [vJ 1 0,zJ 2 0] [1] Qa1n
theorem Qa7r:mFn prog Qait 1 22 Qa7y Qgm=true:=by kernel_rfl
def Qmm:List Item:=[gT 13 10 (.not (.t 12)),pF 14 10 13,mJ 2 14]
def Qw6:List Item:=mJ 5 4::gTm 6 5 0::gT 7 5 (.lens (.t 6))::gT 8 5 (.bin 0 .leq (.t 7) (kI 4))::pF 9 5 8::mJ 10 9::gTm 11 10 0::.e (some 12) (some (10,true)) (.call Qais [.t 11])::Qmm
def Qalf:SC:=sR (mJ 3 0::aJ 4 Qair [.t 3,kI 1]::Qw6) [2] .ret
def Qat9:SC:=sR [fB 2 false] [0] Qalf
theorem Qara:mFn prog Qe8 1 15 Qat9 Qgm=true:=by kernel_rfl
def Q45:List Item:=[oJ 18 17]
def Qasx:SC:=cT 18 (sR [fB 4 false] [4] .ret) .skip
def Qasy:SC:=.reg [mJ 10 5,cJ 11 .add 10 1,mJ 5 11] [0,1,5]
def Qasz:SC:=.seq (.block 1 (sR (mJ 12 0::mJ 13 5::iJ 14 5 12 13::tJ 15 5 14::mJ 16 1::aJ 17 Q9p [.t 15,.t 16]::Q45) [0,1,5,18] Qasx)) Qasy
def Qan6:SC:=.seq (sR [mJ 6 5,mJ 7 0,nJ 8 7,bJ 9 .lss 6 8] [0,1,5,9] (cT 9 .skip (.exit 0))) Qasz
def Qas0:SC:=sR [fB 4 true] [4] .ret
def Qas1:SC:=.seq (sR [zJ 5 0] [0,1,5] (bL 0 Qan6)) Qas0
def Qa1q:SC:=sR [fB 4 false] [0,1] Qas1
theorem Qaz4:mFn prog Qms 2 19 Qa1q Qam8=true:=by kernel_rfl
def Q42:List Item:=[bJ 27 .add 20 26,mJ 3 27]
def Q43:List Item:=.chk 23 none (.iad 5 (.t 21) (.t 22))::hJ 25 24::bJ 20 .add 13 19::aJ 26 Qmr [.t 25]::Q42
def Qasj:SC:=.reg [mJ 11 4,cJ 12 .add 11 1,mJ 4 12] [0,3,4]
def Qask:SC:=.seq (.block 1 (.dreg 16 [0,1,2,3,4,5,8,9,10,11,12,6,10,12,7,13,14,15] ( mJ 13 3::mJ 14 0::mJ 15 4::iJ 16 5 14 15::fJ 17 3 16::lJ 18 17::mJ 21 0::mJ 22 4::iJ 23 5 21 22::fJ 24 4 23::lJ 25 24::aJ 19 Qmr [.t 18]::Q43) [0,3,4])) Qasj
def Qan3:SC:=.seq (sR [mJ 7 4,mJ 8 0,nJ 9 8,bJ 10 .lss 7 9] [0,3,4,10] (cT 10 .skip (.exit 0))) Qask
def Qasl:SC:=sR [mJ 28 3,mJ 2 28] [2] .ret
def Qasm:SC:=.seq (sR [zJ 4 0] [0,3,4] (bL 0 Qan3)) Qasl
def Qasn:SC:=sR [mJ 5 0,nJ 6 5,mJ 3 6] [0,3] Qasm
def Qa1o:SC:=sR [zJ 2 0] [0] Qasn
theorem Qaz3:mFn prog Qmr 1 29 Qa1o Qgm=true:=by kernel_rfl
def Qah3:List Item:=[mJ 16 1,bJ 17 .neq 15 16]
def Qa0z:SC:=cT 17 (sR [fB 4 false] [4] .ret) .skip
def Qa00:SC:=.reg [mJ 10 5,cJ 11 .add 10 1,mJ 5 11] [0,1,5]
def Qa01:SC:=.seq (.block 1 (sR (mJ 12 0::mJ 13 5::fI 14 (.idx (.t 12) (.t 13))::aJ 15 Q1f [.t 14]::Qah3) [0,1,5,17] Qa0z)) Qa00
def Qawo:SC:=.seq (sR [mJ 6 5,mJ 7 0,fI 8 (.lens (.t 7)),bJ 9 .lss 6 8] [0,1,5,9] (cT 9 .skip (.exit 0))) Qa01
def Qa02:SC:=sR [mJ 18 0,fI 19 (.lens (.t 18)),cJ 20 .gtr 19 0,mJ 4 20] [4] .ret
def Qa03:SC:=.seq (sR [zJ 5 0] [0,1,5] (bL 0 Qawo)) Qa02
def Qa7v:SC:=sR [fB 4 false] [0,1] Qa03
theorem Qa7o:mFn prog Qair 2 21 Qa7v Qam8=true:=by kernel_rfl
def Qah4:List Item:=[mJ 3 5]
def Qa05:SC:=cT 17 (sR [fB 2 true] [2] .ret) .skip
def Qa06:SC:=.reg [mJ 10 4,cJ 11 .add 10 1,mJ 4 11] [0,3,4]
def Qa07:SC:=.seq (.block 1 (sR [mJ 12 3,mJ 13 4,iJ 14 1 12 13,lJ 15 14,mJ 16 0,bJ 17 .eql 15 16] [0,3,4,17] Qa05)) Qa06
def Qawp:SC:=.seq (sR [mJ 6 4,mJ 7 3,nJ 8 7,bJ 9 .lss 6 8] [0,3,4,9] (cT 9 .skip (.exit 0))) Qa07
def Qa08:SC:=sR [fB 2 false] [2] .ret
def Qa09:SC:=.seq (sR [zJ 4 0] [0,3,4] (bL 0 Qawp)) Qa08
def Qa1a:SC:=sR (aJ 5 Ql6 []::Qah4) [0,3] Qa09
def Qa7w:SC:=sR [fB 2 false] [0] Qa1a
theorem Qa7p:mFn prog Qais 1 18 Qa7w Qgm=true:=by kernel_rfl
def Qpe:List Item:=[.chk 17 (some (15,false)) (.ld 1 false (.t 16)),.chk 18 (some (15,false)) (.len (.t 17)),gF 22 15 (.bin 0 .neq (.t 18) (.t 21)),pT 23 15 22]
def Qx2:List Item:=gF 13 9 (.not (.t 12))::pT 14 9 13::mJ 15 14::gFf 16 15 2 2::gFl 17 15 16::gF 18 15 (.len (.t 17))::gFf 19 15 0 2::gFl 20 15 19::.e (some 21) (some (15,false)) (.call Q9o [.t 20])::Qpe
def s_l3Stmt_2:SC:=cT 23 (sR [fB 4 false] [4] .ret) .skip
def Qabq:List Item:=[fI 36 (.bin 1 .neq (.t 32) (.t 35)),mJ 37 36,gFm 38 37 5,gF 39 37 (.not (.t 38)),gFm 40 37 39,gTf 41 40 1 2,gTl 42 40 41,gT 43 40 (.bin 0 .neq (.t 42) (.k (.c (.str [])))),gF 44 37 (.pick (.t 40) (.t 43) (.k (.c (.bool false)))),pT 45 37 44]
def Qaw8:SC:=cT 45 (sR [fB 4 false] [4] .ret) .skip
def Qabr:List Item:=[oJ 59 58]
def Qaw9:SC:=cT 59 (sR [fB 4 false] [4] .ret) .skip
def Qaxa:SC:=.reg [mJ 51 6,cJ 52 .add 51 1,mJ 6 52] [1,2,6]
def Qaxb:SC:=.seq (.block 1 (sR (fJ 53 2 2::lJ 54 53::mJ 55 6::iJ 56 4 54 55::tJ 57 4 56::aJ 58 Qjn [.t 57]::Qabr) [1,2,6,59] Qaw9)) Qaxa
def Qasw:SC:=.seq (sR [mJ 46 6,fJ 47 2 2,lJ 48 47,nJ 49 48,bJ 50 .lss 46 49] [1,2,6,50] (cT 50 .skip (.exit 0))) Qaxb
def Qaso:SC:=cT 70 (sR [fB 4 false] [4] .ret) .skip
def Qasp:SC:=cT 95 (sR [fB 4 false] [4] .ret) .skip
def Qs7:List Item:=[pF 107 101 106,mJ 4 107]
def Q44:List Item:=mJ 101 100::gTf 102 101 4 2::gTl 103 101 102::gTm 104 101 1::gT 105 101 (.bin 0 .sub (.t 104) (kI 1))::.e (some 106) (some (101,true)) (.call Qms [.t 103,.t 105])::Qs7
def Qasq:SC:=sR (fJ 96 3 2::lJ 97 96::mJ 98 1::cJ 99 .sub 98 1::aJ 100 Qms [.t 97,.t 99]::Q44) [4] .ret
def Qasr:SC:=.seq (sR [fJ 71 4 2,lJ 72 71,nJ 73 72,cJ 74 .gtr 73 0,mJ 75 74,gTf 76 75 0 2,gTl 77 75 76,gT 78 75 (.bin 0 .neq (.t 77) (kI 5)),pF 79 75 78,mJ 80 79,gFf 81 80 3 2,gFl 82 80 81,gF 83 80 (.len (.t 82)),gF 84 80 (.bin 0 .gtr (.t 83) (kI 0)),gFm 85 80 84,gTf 86 85 0 2,gTl 87 85 86,gT 88 85 (.bin 0 .neq (.t 87) (kI 5)),gF 89 80 (.pick (.t 85) (.t 88) (.k (.c (.bool false)))),gFm 90 80 89,gTf 91 90 0 2,gTl 92 90 91,gT 93 90 (.bin 0 .neq (.t 92) (kI 6)),gF 94 80 (.pick (.t 90) (.t 93) (.k (.c (.bool false)))),pT 95 80 94] [1,2,95] Qasp) Qasq
def Qass:SC:=.seq (sR [fJ 60 0 2,lJ 61 60,cJ 62 .eql 61 8,mJ 63 62,gTf 64 63 2 2,gTl 65 63 64,gT 66 63 (.iad 4 (.t 65) (kI 0)),gTf 67 63 0 66,gTl 68 63 67,gT 69 63 (.bin 0 .neq (.t 68) (kI 13)),pF 70 63 69] [1,2,70] Qaso) Qasr
def Qast:SC:=.seq (sR [zJ 6 0] [1,2,6] (bL 0 Qasw)) Qass
def Qasu:SC:=.seq (sR (mJ 32 5::fJ 33 1 2::lJ 34 33::aJ 35 Qe8 [.t 34]::Qabq) [1,2,45] Qaw8) Qast
def Qabp:SC:=sR [fJ 24 0 2,lJ 25 24,cJ 26 .eql 25 1,mJ 27 26,gFf 28 27 0 2,gFl 29 27 28,gF 30 27 (.bin 0 .eql (.t 29) (kI 2)),pT 31 27 30,mJ 5 31] [1,2,5] Qasu
def Qasv:SC:=.seq (.seq (.dreg 17 [0,1,2,3,4,5,6,7,8,9,10,11,12,13,14,10,11,15,16] ( mJ 7 1::cJ 8 .lss 7 1::mJ 9 8::gFf 10 9 0 2::gFl 11 9 10::.e (some 12) (some (9,false)) (.call Qw9 [.t 11,kI 1,kI 8])::Qx2) [1,2,23]) s_l3Stmt_2) Qabp
def Qa4z:SC:=sR [vJ 2 0,fB 4 false] [1,2] Qasv
theorem Qa4h:mFn prog Q9p 2 108 Qa4z Qam8=true:=by kernel_rfl
def Qat4:SC:=cT 20 (sR [mJ 21 5,mJ 4 21] [4] .ret) .skip
def Qat5:SC:=.reg [mJ 11 5,cJ 12 .add 11 1,mJ 5 12] [1,2,5]
def Qat6:SC:=.seq (.block 1 (sR [fJ 13 0 2,lJ 14 13,mJ 15 5,iJ 16 3 14 15,fJ 17 0 16,lJ 18 17,mJ 19 1,bJ 20 .eql 18 19] [1,2,5,20] Qat4)) Qat5
def Qapv:SC:=.seq (sR [mJ 6 5,fJ 7 0 2,lJ 8 7,nJ 9 8,bJ 10 .lss 6 9] [1,2,5,10] (cT 10 .skip (.exit 0))) Qat6
def Qat7:SC:=sR [zJ 4 (-1)] [4] .ret
def Qat8:SC:=.seq (sR [zJ 5 0] [1,2,5] (bL 0 Qapv)) Qat7
def Qa15:SC:=sR [vJ 2 0,zJ 4 0] [1,2] Qat8
theorem Qa0b:mFn prog Quu 2 22 Qa15 Qam8=true:=by kernel_rfl
def Q4y:List Item:=[cJ 20 .geq 19 0,mJ 17 20]
def Qars:SC:=cT 21 (sR [zJ 2 4] [2] .ret) .skip
def Qart:SC:=cT 17 (sR [zJ 2 3] [2] .ret) (sR [mJ 22 0,fI 23 (.bin 0 .eql (.t 22) (.k (.c (.int .u8 32)))),mJ 24 23,gFm 25 24 0,gF 26 24 (.bin 0 .eql (.t 25) (.k (.c (.int .u8 10)))),pT 27 24 26,mJ 21 27] [21] Qars)
def Qaru:SC:=cT 10 (sR [zJ 2 2] [2] .ret) (sR (mJ 18 0::eI 19 (.call Q1g [.k (.c (.str [40,41,123,125,59,44,43,45,42,47,37,60,61,38,33,64])),.t 18])::Q4y) [0,17] Qart)
def Qarv:SC:=cT 3 (sR [zJ 2 1] [2] .ret) (sR [mJ 11 0,fI 12 (.bin 0 .geq (.t 11) (.k (.c (.int .u8 48)))),mJ 13 12,gTm 14 13 0,gT 15 13 (.bin 0 .leq (.t 14) (.k (.c (.int .u8 57)))),pF 16 13 15,mJ 10 16] [0,10] Qaru)
def Qarw:SC:=sR [zJ 2 0] [2] .ret
def Qarx:SC:=.seq (.block 0 (sR [mJ 4 0,fI 5 (.bin 0 .geq (.t 4) (.k (.c (.int .u8 97)))),mJ 6 5,gTm 7 6 0,gT 8 6 (.bin 0 .leq (.t 7) (.k (.c (.int .u8 122)))),pF 9 6 8,mJ 3 9] [0,3] Qarv)) Qarw
def Qa04:SC:=sR [zJ 2 0] [0] Qarx
theorem Qazz:mFn prog Q1f 1 28 Qa04 Qgm=true:=by kernel_rfl
def Qacz:SC:=sR [fI 1 (.bsl 1 [.k (.c (.str [102,110])),.k (.c (.str [108,101,116])),.k (.c (.str [115,97,121])),.k (.c (.str [112,117,116])),.k (.c (.str [105,102])),.k (.c (.str [101,108,115,101])),.k (.c (.str [108,111,111,112])),.k (.c (.str [98,97,99,107])),.k (.c (.str [100,111]))]),mJ 0 1] [0] .ret
def Qalg:SC:=sR [fI 0 (.mv (.k (.c (.sl true 1 []))))] [] Qacz
def Qzw:List RS:=[.tmp 0]
theorem Qai9:mFn prog Ql6 0 2 Qalg Qzw=true:=by kernel_rfl
def Qaw5:SC:=cT 4 (sR [zJ 2 2] [2] .ret) .skip
def Qaw6:SC:=sR [zJ 2 1] [2] .ret
def Qaw7:SC:=.seq (sR [mJ 3 0,cJ 4 .eql 3 4] [4] Qaw5) Qaw6
def Qa4t:SC:=sR [zJ 2 0] [0] Qaw7
theorem Qa4g:mFn prog Q9o 1 5 Qa4t Qgm=true:=by kernel_rfl
def Qg2:List Item:=[gT 8 5 (.bin 0 .leq (.t 7) (kI 30)),pF 9 5 8,mJ 2 9]
def Qn5:List Item:=mJ 5 4::gT 6 5 (.ld 4 true (.t 1))::.e (some 7) (some (5,true)) (.call Qur [.t 6])::Qg2
def Q8m:SC:=sR (tJ 3 4 1::aJ 4 Qzf [.t 3,kI 6]::Qn5) [2] .ret
def Qahc:SC:=sR [vJ 1 0,fB 2 false] [1] Q8m
theorem Qadq:mFn prog Qjn 1 10 Qahc Qgm=true:=by kernel_rfl
def Qase:SC:=cT 16 (sR [mJ 17 5,mJ 4 17] [4] .ret) .skip
def Qasf:SC:=.reg [mJ 10 5,cJ 11 .add 10 1,mJ 5 11] [0,1,5]
def Qasg:SC:=.seq (.block 1 (sR [mJ 12 0,mJ 13 5,fI 14 (.idx (.t 12) (.t 13)),mJ 15 1,bJ 16 .eql 14 15] [0,1,5,16] Qase)) Qasf
def Qan2:SC:=.seq (sR [mJ 6 5,mJ 7 0,fI 8 (.lens (.t 7)),bJ 9 .lss 6 8] [0,1,5,9] (cT 9 .skip (.exit 0))) Qasg
def Qash:SC:=sR [zJ 4 (-1)] [4] .ret
def Qasi:SC:=.seq (sR [zJ 5 0] [0,1,5] (bL 0 Qan2)) Qash
def Qa1i:SC:=sR [zJ 4 0] [0,1] Qasi
theorem Qaz2:mFn prog Q1g 2 18 Qa1i Qam8=true:=by kernel_rfl
def Qabk:List Item:=[mJ 9 12,fI 13 (.ext (.t 9) 0),fI 14 (.ext (.t 9) 1),mJ 5 13,mJ 6 14]
def Qpd:List Item:=[gF 30 23 (.not (.t 29)),pT 31 23 30]
def Qx0:List Item:=gF 21 17 (.not (.t 20))::pT 22 17 21::mJ 23 22::gFf 24 23 3 2::gFl 25 23 24::gF 26 23 (.len (.t 25))::gFm 27 23 5::gFm 28 23 6::.e (some 29) (some (23,false)) (.call Qw9 [.t 26,.t 27,.t 28])::Qpd
def s_l2Form_3:SC:=cT 31 (sR [fB 4 false] [4] .ret) .skip
def Qx1:List Item:=[gF 58 54 (.not (.t 57)),pT 59 54 58,mJ 60 59,gFf 61 60 0 2,gFl 62 60 61,gF 63 60 (.bin 0 .neq (.t 62) (kI 1)),gFm 64 60 63,gTf 65 64 1 2,gTl 66 64 65,gT 67 64 (.bin 0 .neq (.t 66) (kI 0)),gF 68 60 (.pick (.t 64) (.t 67) (.k (.c (.bool false)))),pT 69 60 68]
def Qabl:List Item:=fI 44 (.bin 1 .neq (.t 40) (.t 43))::mJ 45 44::gFm 46 45 7::gF 47 45 (.not (.t 46))::gFm 48 45 47::gTf 49 48 2 2::gTl 50 48 49::gT 51 48 (.bin 0 .neq (.t 50) (.k (.c (.str []))))::gF 52 45 (.pick (.t 48) (.t 51) (.k (.c (.bool false))))::pT 53 45 52::mJ 54 53::gFf 55 54 1 2::gFl 56 54 55::.e (some 57) (some (54,false)) (.call Qw9 [.t 56,kI 0,kI 255])::Qx1
def s_l2Form_6:SC:=cT 69 (sR [fB 4 false] [4] .ret) .skip
def Qabm:List Item:=[oJ 85 84]
def Qaww:SC:=cT 85 (sR [fB 4 false] [4] .ret) .skip
def Qawx:SC:=.reg [mJ 75 8,cJ 76 .add 75 1,mJ 8 76] [1,2,8]
def Qarz:SC:=.seq (.block 1 (sR (fJ 77 3 2::lJ 78 77::mJ 79 8::iJ 80 4 78 79::tJ 81 4 80::mJ 82 1::cJ 83 .sub 82 1::aJ 84 Qzf [.t 81,.t 83]::Qabm) [1,2,8,85] Qaww)) Qawx
def Qanz:SC:=.seq (sR [mJ 70 8,fJ 71 3 2,lJ 72 71,nJ 73 72,bJ 74 .lss 70 73] [1,2,8,74] (cT 74 .skip (.exit 0))) Qarz
def Qar0:SC:=sR [fB 4 true] [4] .ret
def Qabi:SC:=.seq (sR [zJ 8 0] [1,2,8] (bL 0 Qanz)) Qar0
def Qar1:SC:=.seq (sR (mJ 40 7::fJ 41 2 2::lJ 42 41::aJ 43 Qe8 [.t 42]::Qabl) [1,2,69] s_l2Form_6) Qabi
def Qabj:SC:=sR [fJ 32 0 2,lJ 33 32,cJ 34 .eql 33 2,mJ 35 34,gFf 36 35 0 2,gFl 37 35 36,gF 38 35 (.bin 0 .eql (.t 37) (kI 13)),pT 39 35 38,mJ 7 39] [1,2,7] Qar1
def Qar2:SC:=.seq (sR (mJ 15 1::cJ 16 .lss 15 1::mJ 17 16::gFf 18 17 0 2::gFl 19 17 18::.e (some 20) (some (17,false)) (.call Qw9 [.t 19,kI 1,kI 13])::Qx0) [1,2,31] s_l2Form_3) Qabj
def Qar3:SC:=sR (fJ 10 0 2::lJ 11 10::aJ 12 Q9n [.t 11]::Qabk) [1,2,5,6] Qar2
def Qa4r:SC:=sR [vJ 2 0,fB 4 false] [1,2] Qar3
theorem Qa4e:mFn prog Qzf 2 86 Qa4r Qam8=true:=by kernel_rfl
def Q41:List Item:=[bJ 19 .add 12 18,mJ 3 19]
def Qar9:SC:=.reg [mJ 10 4,cJ 11 .add 10 1,mJ 4 11] [1,3,4]
def Qasa:SC:=.seq (.block 1 (.reg (mJ 12 3::fJ 13 3 1::lJ 14 13::mJ 15 4::iJ 16 4 14 15::tJ 17 4 16::aJ 18 Qur [.t 17]::Q41) [1,3,4])) Qar9
def Qan1:SC:=.seq (sR [mJ 5 4,fJ 6 3 1,lJ 7 6,nJ 8 7,bJ 9 .lss 5 8] [1,3,4,9] (cT 9 .skip (.exit 0))) Qasa
def Qasb:SC:=sR [mJ 20 3,mJ 2 20] [2] .ret
def Qasc:SC:=.seq (sR [zJ 4 0] [1,3,4] (bL 0 Qan1)) Qasb
def Qasd:SC:=sR [zJ 3 1] [1,3] Qasc
def Qa1h:SC:=sR [vJ 1 0,zJ 2 0] [1] Qasd
theorem Qaz1:mFn prog Qur 1 21 Qa1h Qgm=true:=by kernel_rfl
def Qawz:SC:=cT 5 .skip (.reg [cJ 7 .eql 4 2,mJ 5 7] [4,5])
def Qaw0:SC:=cT 8 .skip (.reg [cJ 10 .eql 4 12,mJ 8 10] [4,8])
def Qaw1:SC:=cT 11 (sR [zJ 2 0,zJ 3 3] [2,3] .ret) .skip
def Qah5:SC:=cT 8 (sR [zJ 2 1,zJ 3 1] [2,3] .ret) (sR [cJ 12 .eql 4 13,mJ 11 12] [11] Qaw1)
def Qah6:SC:=cT 5 (sR [zJ 2 0,zJ 3 0] [2,3] .ret) (.seq (sR [cJ 9 .eql 4 11,mJ 8 9] [4,8] Qaw0) Qah5)
def Qaw2:SC:=.block 0 (.seq (sR [cJ 6 .eql 4 1,mJ 5 6] [4,5] Qawz) Qah6)
def Q2q:SC:=sR [zJ 2 2,zJ 3 2] [2,3] .ret
def Qaw3:SC:=.seq (sR [mJ 4 0] [4] Qaw2) Q2q
def Qa4s:SC:=sR [zJ 2 0,zJ 3 0] [0] Qaw3
def Qzv:List RS:=[.tmp 2,.tmp 3]
theorem Qa4f:mFn prog Q9n 1 13 Qa4s Qzv=true:=by kernel_rfl
end Go.AE.Y

namespace Go.AE.Y
open Go.Proofs.Tryz
def Qcj:List Item:=[fI 8 (.ext (.t 7) 0)]
def Qf8:List Item:=[fI 10 (.ext (.t 9) 0),mJ 4 10]
def Qf9:List Item:=[mJ 3 14]
def Qqz:SC:=.reg (mJ 11 3::mJ 12 4::fI 13 (.bsl 1 [.t 12])::xJ 14 1 11 13::Qf9) [3,6]
def Qq0:SC:=.block 1 (sR (eI 9 (.ent (.t 6))::Qf8) [3,4,6] Qqz)
def Qpb:SC:=sR (eI 7 (.nxt (.t 6))::Qcj) [3,6,8] (cX 8 0 Qq0)
def Qq1:SC:=sR [mJ 17 3,mJ 2 17] [2] .ret
def Qq2:SC:=sR [mJ 15 3,aJ 16 Qmv [.t 15]] [3] Qq1
def Qq3:SC:=.seq (sR [mJ 5 0,eI 6 (.rng (.t 5))] [3,6] (bL 0 Qpb)) Qq2
def Qq4:SC:=sR [fI 3 (.mv (.k (.c (.sl true 1 []))))] [0,3] Qq3
def Qvw:SC:=sR [fI 2 (.mv (.k (.c (.sl true 1 []))))] [0] Qq4
theorem Qu1:mFn prog Qbo 1 18 Qvw Qgm=true:=by kernel_rfl
def Q5l:List Item:=[aJ 10 Qa8 [.t 5,kI 0,.t 6,.t 9]]
def Qat3:SC:=.reg (mJ 5 0::mJ 6 2::mJ 7 2::fI 8 (.cvt .u64 (.t 7))::aJ 9 Q9l [.t 8]::Q5l) []
def Qa14:SC:=sR [mJ 3 0,nJ 4 3,mJ 2 4] [0,2] Qat3
theorem Qa0a:mFn prog Qmv 1 11 Qa14 Qr8=true:=by kernel_rfl
def Qag3:SC:=cT 8 (sR [mJ 9 0,mJ 2 9] [2] .ret) .skip
def Qag4:SC:=.reg [mJ 52 3,cJ 53 .add 52 1,mJ 3 53] [0,3,4,5]
def Qag5:SC:=cT 44 (sR [mJ 45 0,mJ 46 3,mJ 47 4,mJ 48 5,iJ 49 1 47 48,lJ 50 49,iJ 51 1 45 46,sJ 1 51 50] [0,3,4,5] Qag4) .skip
def Qag6:SC:=.reg [mJ 33 5,cJ 34 .add 33 1,mJ 5 34] [0,3,4,5]
def Qag7:SC:=.seq (.block 3 (.seq (.dreg 10 [0,1,2,3,4,5,6,7,8,9] ( mJ 35 4::mJ 36 5::iJ 37 1 35 36::lJ 38 37::mJ 39 4::mJ 40 5::cJ 41 .sub 40 1::iJ 42 1 39 41::lJ 43 42::bJ 44 .neq 38 43::[]) [0,3,4,5,44]) Qag5)) Qag6
def Qacy:SC:=.seq (sR [mJ 29 5,mJ 30 4,nJ 31 30,bJ 32 .lss 29 31] [0,3,4,5,32] (cT 32 .skip (.exit 2))) Qag7
def Qag8:SC:=sR [mJ 57 0,mJ 58 3,fI 59 (.sli 1 (.t 57) none (some (.t 58))),mJ 2 59] [2] .ret
def Qag9:SC:=sR [mJ 54 0,mJ 55 3,fI 56 (.sli 1 (.t 54) (some (.t 55)) none),.e none none (.clrs 1 [.int .i64 0] (.t 56))] [0,3] Qag8
def Qaha:SC:=.seq (sR [zJ 5 1] [0,3,4,5] (bL 2 Qacy)) Qag9
def Qahb:SC:=cT 25 (sR [mJ 26 0,mJ 27 3,fI 28 (.sli 1 (.t 26) (some (.t 27)) none),mJ 4 28] [0,3,4] Qaha) .skip
def Qact:SC:=.reg [mJ 14 3,cJ 15 .add 14 1,mJ 3 15] [0,3]
def Qacu:SC:=.seq (.block 1 (.seq (.dreg 10 [0,1,2,3,4,5,6,7,8,9] ( mJ 16 0::mJ 17 3::iJ 18 1 16 17::lJ 19 18::mJ 20 0::mJ 21 3::cJ 22 .sub 21 1::iJ 23 1 20 22::lJ 24 23::bJ 25 .eql 19 24::[]) [0,3,25]) Qahb)) Qact
def Q8l:SC:=.seq (sR [mJ 10 3,mJ 11 0,nJ 12 11,bJ 13 .lss 10 12] [0,3,13] (cT 13 .skip (.exit 0))) Qacu
def Qacv:SC:=sR [mJ 60 0,mJ 2 60] [2] .ret
def Qacw:SC:=.seq (sR [zJ 3 1] [0,3] (bL 0 Q8l)) Qacv
def Qacx:SC:=.seq (sR [mJ 6 0,nJ 7 6,cJ 8 .lss 7 2] [0,8] Qag3) Qacw
def Qapu:SC:=sR [fI 2 (.mv (.k (.c (.sl true 1 []))))] [0] Qacx
theorem Qamz:mFn prog Qok 1 61 Qapu Qgm=true:=by kernel_rfl
def Qajx:SC:=sR [mJ 7 1,mJ 8 0,bJ 9 .leq 7 8,mJ 10 9,gTm 11 10 0,gTm 12 10 2,gT 13 10 (.bin 0 .leq (.t 11) (.t 12)),pF 14 10 13,mJ 6 14] [6] .ret
def Qarr:SC:=sR [fB 6 false] [0,1,2] Qajx
theorem Qaq3:mFn prog Qe5 3 15 Qarr Qaae=true:=by kernel_rfl
def Qtz:SC:=cT 23 (sR [mJ 24 0,mJ 25 1,mJ 26 2,aJ 27 Qbl [.t 24,.t 25,.t 26]] [] .ret) .skip
def Qt0:SC:=cT 29 (sR [mJ 30 0,mJ 31 1,mJ 32 2,aJ 33 Qry [.t 30,.t 31,.t 32]] [] .ret) .skip
def Qt1:SC:=.reg [mJ 40 3,cJ 41 .sub 40 1,mJ 3 41] [0,1,2,3,8,9,10]
def Qt2:SC:=cT 35 (sR [mJ 36 0,mJ 37 1,mJ 38 2,aJ 39 Qlf [.t 36,.t 37,.t 38]] [0,1,2,3,8,9,10] Qt1) .skip
def Qrs:List Item:=[mJ 42 46,fI 47 (.ext (.t 42) 0),fI 48 (.ext (.t 42) 1),mJ 11 47,mJ 12 48]
def Qt3:SC:=.reg [zJ 12 1] [0,1,2,3,8,9,10,11,12]
def Qt4:SC:=sR [mJ 55 2,cJ 56 .sub 55 1,mJ 57 11,mJ 58 1,bJ 59 .sub 57 58,bJ 60 .sub 56 59,mJ 11 60] [0,1,2,3,8,9,10,11] Qt3
def Qt5:SC:=cT 50 (sR [mJ 51 0,mJ 52 1,mJ 53 2,aJ 54 Ql5 [.t 51,.t 52,.t 53]] [0,1,2,3,8,9,10,11] Qt4) .skip
def Qt6:SC:=cT 68 (sR [mJ 69 0,mJ 70 1,mJ 71 2,aJ 72 Qft [.t 69,.t 70,.t 71]] [0,1,2,3,8,9,10,11,72] (cT 72 .ret .skip)) .skip
def Qrt:List Item:=[gT 86 75 (.not (.t 85)),pF 87 75 86]
def Qpl:List Item:=[mJ 13 92]
def Qq8:SC:=sR [mJ 93 13,mJ 1 93] [0,1,2,3,8,9] (.exit 1)
def Qq9:SC:=cT 87 (sR (mJ 88 0::mJ 89 1::mJ 90 2::mJ 91 11::aJ 92 Qjm [.t 88,.t 89,.t 90,.t 91]::Qpl) [0,2,3,8,9,13] Qq8) .skip
def Qpm:List Item:=[mJ 94 99,fI 100 (.ext (.t 94) 0),fI 101 (.ext (.t 94) 1),mJ 14 100,mJ 15 101]
def Qra:SC:=.reg [mJ 122 14,cJ 123 .add 122 1,mJ 1 123] [0,1,2,3,8,9]
def Qrb:SC:=sR [mJ 117 0,mJ 118 1,mJ 119 14,mJ 120 3,aJ 121 Qa8 [.t 117,.t 118,.t 119,.t 120]] [0,2,3,8,9,14] Qra
def Qrc:SC:=.reg [mJ 133 14,mJ 2 133] [0,1,2,3,8,9]
def Qrd:SC:=sR [mJ 127 0,mJ 128 14,cJ 129 .add 128 1,mJ 130 2,mJ 131 3,aJ 132 Qa8 [.t 127,.t 129,.t 130,.t 131]] [0,1,3,8,9,14] Qrc
def Qre:SC:=cT 113 (sR [mJ 114 16,mJ 115 18,bJ 116 .geq 114 115,mJ 8 116] [0,1,2,3,8,9,14] Qrb) (sR [mJ 124 17,mJ 125 18,bJ 126 .geq 124 125,mJ 8 126] [0,1,2,3,8,9,14] Qrd)
def Qrf:SC:=sR [mJ 111 16,mJ 112 17,bJ 113 .lss 111 112] [0,1,2,3,9,14,16,17,18,113] Qre
def Qrg:SC:=sR [mJ 109 10,cJ 110 .quo 109 8,mJ 18 110] [0,1,2,3,9,14,16,17,18] Qrf
def Qrh:SC:=sR [mJ 103 14,mJ 104 1,bJ 105 .sub 103 104,mJ 106 2,mJ 107 14,bJ 108 .sub 106 107,mJ 16 105,mJ 17 108] [0,1,2,3,9,10,14,16,17] Qrg
def Qri:SC:=sR [mJ 102 15,mJ 9 102] [0,1,2,3,9,10,14] Qrh
def Qrj:SC:=sR (mJ 95 0::mJ 96 1::mJ 97 2::mJ 98 11::aJ 99 Qql [.t 95,.t 96,.t 97,.t 98]::Qpm) [0,1,2,3,10,14,15] Qri
def Qrk:SC:=.seq (.seq (.dreg 15 [0,1,2,3,4,5,6,7,8,9,10,11,12,13,14] ( mJ 73 1::cJ 74 .gtr 73 0::mJ 75 74::gTm 76 75 0::gTm 77 75 1::gT 78 75 (.bin 0 .sub (.t 77) (kI 1))::gT 79 75 (.iad 1 (.t 76) (.t 78))::gTl 80 75 79::gTm 81 75 0::gTm 82 75 11::gT 83 75 (.iad 1 (.t 81) (.t 82))::gTl 84 75 83::.e (some 85) (some (75,true)) (.call Q9m [.t 80,.t 84])::Qrt) [0,1,2,3,8,9,10,11,87]) Qq9) Qrj
def Qrl:SC:=.seq (sR [mJ 61 8,mJ 62 61,gTm 63 62 9,pF 64 62 63,mJ 65 64,gTm 66 65 12,gT 67 65 (.bin 0 .eql (.t 66) (kI 1)),pF 68 65 67] [0,1,2,3,8,9,10,11,68] Qt6) Qrk
def Qrm:SC:=.seq (sR [mJ 49 12,cJ 50 .eql 49 2] [0,1,2,3,8,9,10,11,12,50] Qt5) Qrl
def Qrn:SC:=sR (mJ 43 0::mJ 44 1::mJ 45 2::aJ 46 Qmw [.t 43,.t 44,.t 45]::Qrs) [0,1,2,3,8,9,10,11,12] Qrm
def Qro:SC:=.seq (sR [mJ 34 8,oJ 35 34] [0,1,2,3,8,9,10,35] Qt2) Qrn
def Qrp:SC:=.seq (sR [mJ 28 3,cJ 29 .eql 28 0] [0,1,2,3,8,9,10,29] Qt0) Qro
def Qrq:SC:=.seq (sR [mJ 22 10,cJ 23 .leq 22 12] [0,1,2,3,8,9,10,23] Qtz) Qrp
def Qpn:SC:=.block 1 (sR [mJ 19 2,mJ 20 1,bJ 21 .sub 19 20,mJ 10 21] [0,1,2,3,8,9,10] Qrq)
def Qrr:SC:=sR [fB 9 true] [0,1,2,3,8,9] (bL 0 Qpn)
def Qyl:SC:=sR [fB 8 true] [0,1,2,3,8] Qrr
theorem Qxf:mFn prog Qa8 4 134 Qyl Qr8=true:=by kernel_rfl
def Qi3:List Item:=[pF 30 19 29]
def Qi4:List Item:=[iJ 48 1 35 37,sJ 1 48 46]
def Qk9:SC:=.reg [mJ 31 7,cJ 32 .sub 31 1,mJ 7 32] [0,1,2,6,7]
def Qla:SC:=.seq (.block 3 (.dreg 18 [0,1,2,3,4,5,6,7,8,9,10,11,12,13,14,15,16,17] ( mJ 33 0::mJ 34 7::mJ 35 0::mJ 36 7::cJ 37 .sub 36 1::mJ 38 0::mJ 39 7::cJ 40 .sub 39 1::iJ 41 1 38 40::lJ 42 41::mJ 43 0::mJ 44 7::iJ 45 1 43 44::lJ 46 45::iJ 47 1 33 34::sJ 1 47 42::Qi4) [0,1,2,6,7])) Qk9
def Qi5:SC:=.seq (.seq (.dreg 15 [0,1,2,3,4,5,6,7,8,9,10,11,12,13,14] ( mJ 16 7::mJ 17 1::bJ 18 .gtr 16 17::mJ 19 18::gTm 20 19 0::gTm 21 19 7::gT 22 19 (.iad 1 (.t 20) (.t 21))::gTl 23 19 22::gTm 24 19 0::gTm 25 19 7::gT 26 19 (.bin 0 .sub (.t 25) (kI 1))::gT 27 19 (.iad 1 (.t 24) (.t 26))::gTl 28 19 27::.e (some 29) (some (19,true)) (.call Q9m [.t 23,.t 28])::Qi3) [0,1,2,6,7,30]) (cT 30 .skip (.exit 2))) Qla
def Qlb:SC:=.reg [mJ 13 6,cJ 14 .add 13 1,mJ 6 14] [0,1,2,6]
def Qlc:SC:=.seq (.block 1 (sR [mJ 15 6,mJ 7 15] [0,1,2,6,7] (bL 2 Qi5))) Qlb
def Qi6:SC:=.seq (sR [mJ 10 6,mJ 11 2,bJ 12 .lss 10 11] [0,1,2,6,12] (cT 12 .skip (.exit 0))) Qlc
def Qml:SC:=sR [mJ 8 1,cJ 9 .add 8 1,mJ 6 9] [0,1,2,6] (bL 0 Qi6)
theorem Ql9:mFn prog Qbl 3 49 Qml Qr8=true:=by kernel_rfl
end Go.AE.Y

namespace Go.AE.Y
open Go.Proofs.Tryz
def Qwq:List Item:=[mJ 2 4]
def Qajp:SC:=sR (mJ 3 0::aJ 4 Qe5 [.t 3,kI 0,kI 255]::Qwq) [2] .ret
def Qarp:SC:=sR [fB 2 false] [0] Qajp
theorem Qaq1:mFn prog Qrw 1 5 Qarp Qgm=true:=by kernel_rfl
end Go.AE.Y

attribute [go_sem_proc] reduceIte reduceEqDiff reduceAdd reduceLeDiff reduceLT reduceCtorEq
namespace Go.AE.Y
open Go.Proofs.Tryz
theorem Qaj:prog.follows .mixedOrders=true:=by kernel_rfl
end Go.AE.Y

namespace Go.AE.Y
def dgT:Nat→Nat→List UInt8→List UInt8
 |0,_,s=>s
 |f+1,k,s=>if k=0 then s else dgT f (k / 10) (UInt8.ofNat (48+k % 10)::s)
def mkT (k:Nat):List UInt8:=if k=0 then [109,48]else 109::dgT 64 k []
mutual
def Ex.cnt:Ex→Nat
 |.mk _ _ _ kids=>3+Q9 kids
def Q9:List Ex→Nat
 |[]=>0
 |x::r=>x.cnt+Q9 r
end
mutual
def Ex.mark:Ex→Nat→Ex
 |.mk _ _ _ kids,k=>.mk k (k+1) (mkT (k+2)) (Qa3 kids (k+3))
def Qa3:List Ex→Nat→List Ex
 |[],_=>[]
 |x::r,k=>x.mark k::Qa3 r (k+x.cnt)
end
mutual
def St.mcnt:St→Nat
 |.mk _ _ args body els=>2+Q9 args+Q3 body+Q3 els
def Q3:List St→Nat
 |[]=>0
 |x::r=>x.mcnt+Q3 r
end
mutual
def St.mark:St→Nat→St
 |.mk _ _ args body els,k=>.mk k (mkT (k+1)) (Qa3 args (k+2)) (Qay body (k+2+Q9 args)) (Qay els (k+2+Q9 args+Q3 body))
def Qay:List St→Nat→List St
 |[],_=>[]
 |x::r,k=>x.mark k::Qay r (k+x.mcnt)
end
def Qas:List (List UInt8)→Nat→List (List UInt8)
 |[],_=>[]
 |_::r,k=>mkT k::Qas r (k+1)
def Fn.mcnt (f:Fn):Nat:=1+f.params.length+Q3 f.body
def Fn.mark (f:Fn)(k:Nat):Fn:=⟨mkT k,Qas f.params (k+1),Qay f.body (k+1+f.params.length)⟩
def Qae:List Fn→Nat
 |[]=>0
 |f::r=>f.mcnt+Qae r
def Qbc:List Fn→Nat→List Fn
 |[],_=>[]
 |f::r,k=>f.mark k::Qbc r (k+f.mcnt)
theorem Ex.cnt_eq (x:Ex):x.cnt=3+Q9 x.kids:=by cases x;simp only[Ex.cnt,Ex.kids]
theorem Ex.mark_eq (x:Ex)(k:Nat):x.mark k=.mk k (k+1) (mkT (k+2)) (Qa3 x.kids (k+3)):=by cases x;simp only[Ex.mark,Ex.kids]
theorem St.mcnt_eq (x:St):x.mcnt=2+Q9 x.args+Q3 x.body+Q3 x.els:=by cases x;simp only[St.mcnt,St.args,St.body,St.els]
theorem St.mark_eq (x:St)(k:Nat):x.mark k=.mk k (mkT (k+1)) (Qa3 x.args (k+2)) (Qay x.body (k+2+Q9 x.args)) (Qay x.els (k+2+Q9 x.args+Q3 x.body)):=by
 cases x;simp only[St.mark,St.args,St.body,St.els]
theorem Qun (a b:List Ex):Q9 (a++b)=Q9 a+Q9 b:=by
 induction a with
 |nil=>simp[Q9]
 |cons x r ih=>simp only[List.cons_append,Q9,ih];omega
theorem Q9i (a b:List Ex)(k:Nat):Qa3 (a++b) k=Qa3 a k++Qa3 b (k+Q9 a):=by
 induction a generalizing k with
 |nil=>simp[Qa3,Q9]
 |cons x r ih=>simp only[List.cons_append,Qa3,Q9,ih,Nat.add_assoc]
theorem Qpt (a b:List St):Q3 (a++b)=Q3 a+Q3 b:=by
 induction a with
 |nil=>simp[Q3]
 |cons x r ih=>simp only[List.cons_append,Q3,ih];omega
theorem Qac6 (a b:List St)(k:Nat):Qay (a++b) k=Qay a k++Qay b (k+Q3 a):=by
 induction a generalizing k with
 |nil=>simp[Qay,Q3]
 |cons x r ih=>simp only[List.cons_append,Qay,Q3,ih,Nat.add_assoc]
theorem Qom (a b:List Fn):Qae (a++b)=Qae a+Qae b:=by
 induction a with
 |nil=>simp[Qae]
 |cons x r ih=>simp only[List.cons_append,Qae,ih];omega
theorem Q9q (a b:List Fn)(k:Nat):Qbc (a++b) k=Qbc a k++Qbc b (k+Qae a):=by
 induction a generalizing k with
 |nil=>simp[Qbc,Qae]
 |cons x r ih=>simp only[List.cons_append,Qbc,Qae,ih,Nat.add_assoc]
theorem Qap2 (a b:List (List UInt8))(k:Nat):Qas (a++b) k=Qas a k++Qas b (k+a.length):=by
 induction a generalizing k with
 |nil=>simp[Qas]
 |cons x r ih=>simp only[List.cons_append,Qas,ih,List.length_cons];rw[show k+1+r.length=k+(r.length+1)by omega]
theorem Qoc (l:List Ex)(k:Nat):(Qa3 l k).length=l.length:=by
 induction l generalizing k with
 |nil=>rfl
 |cons x r ih=>simp only[Qa3,List.length_cons,ih]
theorem Qps (l:List St)(k:Nat):(Qay l k).length=l.length:=by
 induction l generalizing k with
 |nil=>rfl
 |cons x r ih=>simp only[Qay,List.length_cons,ih]
theorem Qug (l:List (List UInt8))(k:Nat):(Qas l k).length=l.length:=by
 induction l generalizing k with
 |nil=>rfl
 |cons x r ih=>simp only[Qas,List.length_cons,ih]
theorem Qol (l:List Fn)(k:Nat):(Qbc l k).length=l.length:=by
 induction l generalizing k with
 |nil=>rfl
 |cons x r ih=>simp only[Qbc,List.length_cons,ih]
mutual
theorem Ex.cnt_le:∀x:Ex,x.cnt≤3 * x.size
 |.mk _ _ _ kids=>by have:=Q9g kids;simp only[Ex.cnt,Ex.size];omega
theorem Q9g:∀l:List Ex,Q9 l≤3 * Qv l
 |[]=>by simp only[Q9];omega
 |x::r=>by have:=x.cnt_le;have:=Q9g r;simp only[Q9,Qv];omega
end
mutual
theorem St.mcnt_le:∀x:St,x.mcnt≤3 * x.size
 |.mk _ _ args body els=>by have:=Q9g args;have:=Quy body;have:=Quy els;simp only[St.mcnt,St.size];omega
theorem Quy:∀l:List St,Q3 l≤3 * Qg l
 |[]=>by simp only[Q3];omega
 |x::r=>by have:=x.mcnt_le;have:=Quy r;simp only[Q3,Qg];omega
end
def Qjo:List Fn→Nat
 |[]=>0
 |f::r=>1+f.params.length+Qg f.body+Qjo r
theorem Q1h:∀l:List Fn,Qae l≤3 * Qjo l
 |[]=>by simp only[Qae];omega
 |f::r=>by have:=Quy f.body;have:=Q1h r;simp only[Qae,Qjo,Fn.mcnt];omega
theorem Qays {l:List Ex}:∀r∈Q2 l,r.length=4:=by
 intro r hr;rw[Qjg]at hr;obtain⟨x,_,rfl⟩:=List.mem_map.1 hr;exact x.cells_len
theorem Qa2f {l:List St}:∀r∈Ql l,r.length=5:=by
 intro r hr;rw[Qhu]at hr;obtain⟨x,_,rfl⟩:=List.mem_map.1 hr;exact x.cells_len
theorem Qayz {l:List Fn}:∀r∈Qm l,r.length=3:=by
 intro r hr;obtain⟨x,_,rfl⟩:=List.mem_map.1 hr;exact x.cells_len
theorem Qalp {l:List (List UInt8)}:∀r∈Qy l,r.length=1:=by
 intro r hr;obtain⟨x,_,rfl⟩:=List.mem_map.1 hr;rfl
theorem Qayr (a b:List Ex):Q2 (a++b)=Q2 a++Q2 b:=by simp[Qjg]
theorem Qayx (a b:List Fn):Qm (a++b)=Qm a++Qm b:=by simp[Qm]
theorem Qaxo (a b:List (List UInt8)):Qy (a++b)=Qy a++Qy b:=by simp[Qy]
end Go.AE.Y

namespace Go.AE
theorem OwL.atoms:∀{cs:List C},(∀c∈cs,C.atom c=true)→OwL [] cs cs
 |[],_=>.nil
 |c::cs,h=>.atom (h c (by simp)) (OwL.atoms fun d hd=>h d (by simp[hd]))
end Go.AE
namespace Go.AE.Y
attribute [local go_sem] cond_true cond_false Bool.not_true Bool.not_false
open Go.Proofs.Tryz
variable {H H0 F:Heap}{K:V→Heap→Prop}{E B Lg:List (Nat×Obj)}{fns:List Fn}
theorem Qaxq (ss:List (List UInt8)):OwL [] (Qy ss).flatten (Qy ss).flatten:=OwL.atoms fun c hc=>by
 obtain⟨r,hr,hc⟩:=List.mem_flatten.1 hc
 obtain⟨x,_,rfl⟩:=List.mem_map.1 hr
 rw[List.mem_singleton.1 hc];rfl
theorem St.size_pos2 (x:St):1≤x.size:=by rw[x.size_eq];omega
abbrev sttO (x:St):Obj:=.st [.int .i64 x.op,.str x.name,.sl false 4 (Q2 x.args),.sl false 5 (Ql x.body),.sl false 5 (Ql x.els)]
abbrev exxO (x:Ex):Obj:=.st [.int .i64 x.op,.int .i64 x.n,.str x.name,.sl false 4 (Q2 x.kids)]
theorem Qauz {g:Ex→Ex}{f:Nat}{caps:List C}{l:List Ex}{fl:Bool}
  (hf:∀x∈l,∀(H1:Heap) (K':V→Heap→Prop),(∀m,H m≠.none→H1 m=H m)→(∀H2 L cs,Kn H1 H2 [] L→OwL L cs (g x).cells→K' (.ag cs) H2)→Qj prog f ([.ag x.cells]++caps.map .c) H1 K')
  (hK:∀H' L t,Kn H H' [] L→OwS L 4 (Q2 (l.map g)) t→K (.c t) H'):Qj prog Qa0 [.c (.sl fl 4 (Q2 l)),.c (.fn f caps)] H K:=by
 refine Qb Qaj Qhd ?_
 refine Qa ?_
 simp only[go_sem]
 refine Qa ?_
 simp only[go_sem]
 refine Qz ?_
 refine Qa ?_
 simp only[go_sem,Qi]
 intro hl
 simp only[LIM]at hl
 refine Qe (Qd (Qt (fun m e1 H1=>∃(i:Nat) (t:C) (Lg M:List (Nat×Obj)) (rows:List (List C)),m=l.length-i∧i≤l.length∧Gr Lg 4 rows t∧rows.length=i∧(∀r∈rows,r.length=4)∧OwL M rows.flatten (Q2 ((l.take i).map g)).flatten∧Kn H H1 [] (M++Lg)∧
  e1=[(1,.c (.fn f caps)),(5,.c t),(8,.c (.sl fl 4 (Q2 l))),(9,.c (.int .i64 l.length)),(10,.c (.int .i64 i))]) l.length ?_ ?_))
 ·exact⟨0,_,[],[],[],by omega,by omega,.nil 4,rfl,by simp,.nil,Kn.start0 H,rfl⟩
 ·rintro m e1 H1 ⟨i,t,Lg,M,rows,hm,hi,hgr,hrl,hr4,how,kn,rfl⟩
  have hto:=hgr.isOw
  refine Qa ?_
  simp only[go_sem,hto]
  refine Qe (Qc rfl ?_ ?_)
  ·intro hc
   have hlt:i<l.length:=by simpa using hc
   obtain⟨x,hx⟩:∃x,l[i]=x:=⟨_,rfl⟩
   have hxm:x∈l:=by rw[←hx];exact List.getElem_mem hlt
   have htk:Q2 ((l.take (i+1)).map g)=Q2 ((l.take i).map g)++[(g x).cells]:=by
    rw[Qe3,List.take_succ_eq_append_getElem hlt,hx];simp
   refine Qf ?_
   try simp only[go_sem]
   refine Qe (Qd ?_)
   refine Qa ?_
   simp only[go_sem,hto,hlt,Qi,Qag _ _ hlt,hx,x.cells_eq]
   intro x7 hx7 H3 h3
   have kn:Kn H H3 [] ([(x7,.st [.int .i64 0,.int .i64 0,.str [],.sl true 4 []])]++(M++Lg)):=(kn.al hx7 h3).perm List.perm_append_comm
   have g7:=kn.l 0 rfl
   simp only[go_sem,Qb3,g7,hto]
   intro H4 h4
   have kn:Kn H H4 [] ([(x7,exxO x)]++(M++Lg)):=kn.stL 0 rfl h4
   have g7:=kn.l 0 rfl
   refine Qn ?_
   simp only[go_sem,exxO,g7,hto]
   have hfx:=hf x hxm H4
   rw[x.cells_eq]at hfx
   refine hfx _ (fun m hm=>kn.chg m hm (by simp)) fun H5 L2 cs k2 ho=>?_
   have hcl:cs.length=4:=by rw[←ho.len,(g x).cells_len]
   have kn:=kn.comp0 k2
   have kn:Kn H H5 [] (([(x7,exxO x)]++(M++L2))++Lg):=kn.perm (by
    simp only[List.append_assoc]
    exact (List.Perm.append_left M List.perm_append_comm).append_left _)
   simp only[go_sem,Qb5,hto,hcl]
   refine kn.growR hgr (new:=[cs]) (.mk' _ true 4 _) (by simpa using ho.noOw) (by simp only[hrl,List.length_cons,List.length_nil,LIM];omega) fun t2 Lg2 H6 hgr2 hto2 kn=>?_
   simp only[go_sem,Qb4,hto2]
   refine Qn ?_
   simp only[go_sem,AE.X.next,hto2]
   refine⟨Qo (by omega) (by omega),l.length-(i+1),by omega,i+1,t2,Lg2,M++L2,rows++[cs],rfl,by omega,hgr2,by simp[hrl],?_,?_,kn.sub ?_,rfl⟩
   ·intro r hr
    rcases List.mem_append.1 hr with hr|hr
    ·exact hr4 r hr
    ·rw[List.mem_singleton.1 hr];exact hcl
   ·rw[htk]
    simp only[List.flatten_append,List.flatten_cons,List.flatten_nil,List.append_nil]
    exact how.app ho
   ·simp only[List.append_assoc];exact List.sublist_append_right _ _
  ·intro hc
   have hge:l.length≤i:=by simpa using hc
   rw[List.take_of_length_le hge]at how
   refine Qu ?_
   simp only[go_sem,AE.X.next]
   refine Qa ?_
   simp only[go_sem,hto]
   refine Qh ?_
   simp only[go_sem,Q0,Q6,Qam8,List.mem_singleton,forall_eq,RS.op,hto]
   exact hK _ _ _ (kn.perm List.perm_append_comm) (hgr.ows (by simp only[Qi,List.length_map];omega) hr4 Qays how)
theorem Qajb {g:St→St}{f:Nat}{caps:List C}{l:List St}{fl:Bool}
  (hf:∀x∈l,∀(H1:Heap) (K':V→Heap→Prop),(∀m,H m≠.none→H1 m=H m)→(∀H2 L cs,Kn H1 H2 [] L→OwL L cs (g x).cells→K' (.ag cs) H2)→Qj prog f ([.ag x.cells]++caps.map .c) H1 K')
  (hK:∀H' L t,Kn H H' [] L→OwS L 5 (Ql (l.map g)) t→K (.c t) H'):Qj prog Qaq [.c (.sl fl 5 (Ql l)),.c (.fn f caps)] H K:=by
 refine Qb Qaj Qhe ?_
 refine Qa ?_
 simp only[go_sem]
 refine Qa ?_
 simp only[go_sem]
 refine Qz ?_
 refine Qa ?_
 simp only[go_sem,Qw]
 intro hl
 simp only[LIM]at hl
 refine Qe (Qd (Qt (fun m e1 H1=>∃(i:Nat) (t:C) (Lg M:List (Nat×Obj)) (rows:List (List C)),m=l.length-i∧i≤l.length∧Gr Lg 5 rows t∧rows.length=i∧(∀r∈rows,r.length=5)∧OwL M rows.flatten (Ql ((l.take i).map g)).flatten∧Kn H H1 [] (M++Lg)∧
  e1=[(1,.c (.fn f caps)),(5,.c t),(8,.c (.sl fl 5 (Ql l))),(9,.c (.int .i64 l.length)),(10,.c (.int .i64 i))]) l.length ?_ ?_))
 ·exact⟨0,_,[],[],[],by omega,by omega,.nil 5,rfl,by simp,.nil,Kn.start0 H,rfl⟩
 ·rintro m e1 H1 ⟨i,t,Lg,M,rows,hm,hi,hgr,hrl,hr4,how,kn,rfl⟩
  have hto:=hgr.isOw
  refine Qa ?_
  simp only[go_sem,hto]
  refine Qe (Qc rfl ?_ ?_)
  ·intro hc
   have hlt:i<l.length:=by simpa using hc
   obtain⟨x,hx⟩:∃x,l[i]=x:=⟨_,rfl⟩
   have hxm:x∈l:=by rw[←hx];exact List.getElem_mem hlt
   have htk:Ql ((l.take (i+1)).map g)=Ql ((l.take i).map g)++[(g x).cells]:=by
    rw[Qn7,List.take_succ_eq_append_getElem hlt,hx];simp
   refine Qf ?_
   try simp only[go_sem]
   refine Qe (Qd ?_)
   refine Qa ?_
   simp only[go_sem,hto,hlt,Qw,Qar _ _ hlt,hx,x.cells_eq]
   intro x7 hx7 H3 h3
   have kn:Kn H H3 [] ([(x7,.st [.int .i64 0,.str [],.sl true 4 [],.sl true 5 [],.sl true 5 []])]++(M++Lg)):=(kn.al hx7 h3).perm List.perm_append_comm
   have g7:=kn.l 0 rfl
   simp only[go_sem,Qb6,g7,hto]
   intro H4 h4
   have kn:Kn H H4 [] ([(x7,sttO x)]++(M++Lg)):=kn.stL 0 rfl h4
   have g7:=kn.l 0 rfl
   refine Qn ?_
   simp only[go_sem,sttO,g7,hto]
   have hfx:=hf x hxm H4
   rw[x.cells_eq]at hfx
   refine hfx _ (fun m hm=>kn.chg m hm (by simp)) fun H5 L2 cs k2 ho=>?_
   have hcl:cs.length=5:=by rw[←ho.len,(g x).cells_len]
   have kn:=kn.comp0 k2
   have kn:Kn H H5 [] (([(x7,sttO x)]++(M++L2))++Lg):=kn.perm (by
    simp only[List.append_assoc]
    exact (List.Perm.append_left M List.perm_append_comm).append_left _)
   simp only[go_sem,Qb8,hto,hcl]
   refine kn.growR hgr (new:=[cs]) (.mk' _ true 5 _) (by simpa using ho.noOw) (by simp only[hrl,List.length_cons,List.length_nil,LIM];omega) fun t2 Lg2 H6 hgr2 hto2 kn=>?_
   simp only[go_sem,Qb7,hto2]
   refine Qn ?_
   simp only[go_sem,AE.X.next,hto2]
   refine⟨Qo (by omega) (by omega),l.length-(i+1),by omega,i+1,t2,Lg2,M++L2,rows++[cs],rfl,by omega,hgr2,by simp[hrl],?_,?_,kn.sub ?_,rfl⟩
   ·intro r hr
    rcases List.mem_append.1 hr with hr|hr
    ·exact hr4 r hr
    ·rw[List.mem_singleton.1 hr];exact hcl
   ·rw[htk]
    simp only[List.flatten_append,List.flatten_cons,List.flatten_nil,List.append_nil]
    exact how.app ho
   ·simp only[List.append_assoc];exact List.sublist_append_right _ _
  ·intro hc
   have hge:l.length≤i:=by simpa using hc
   rw[List.take_of_length_le hge]at how
   refine Qu ?_
   simp only[go_sem,AE.X.next]
   refine Qa ?_
   simp only[go_sem,hto]
   refine Qh ?_
   simp only[go_sem,Q0,Q6,Qam8,List.mem_singleton,forall_eq,RS.op,hto]
   exact hK _ _ _ (kn.perm List.perm_append_comm) (hgr.ows (by simp only[Qw,List.length_map];omega) hr4 Qa2f how)
theorem Qal1:∀(n:Nat) (x:Ex) {H:Heap} {K:V→Heap→Prop},x.size≤n→(∀H' L cs,Kn H H' [] L→OwL L cs x.cells→K (.ag cs) H')→Qj prog Qdd [.ag x.cells] H K:=by
 intro n
 induction n with
 |zero=>intro x H K h;have:=x.size_pos;omega
 |succ n ih=>
 intro x H K hn hK
 have hsz:=x.size_kids
 refine Qb Qaj Qwd ?_
 refine Qa ?_
 simp only[go_sem,x.cells_eq]
 intro x1 hx1 H1 h1
 have kn:=(Kn.start0 H).al hx1 h1
 simp only[go_sem,Qgu]
 intro x2 hx2 H2 h2
 have kn:=kn.al hx2 h2
 have g1:=kn.l 0 rfl
 refine Qa ?_
 simp only[go_sem,g1]
 refine Qauz (g:=id) (caps:=[]) (fun y hy H1 K' _ hK'=>ih y (by have:=Qad hy;omega) hK') fun H3 L t k2 ho=>?_
 rw[List.map_id]at ho
 have kn:=kn.comp0 k2
 have g1:=kn.l 0 rfl
 have hto:=ho.isOw
 simp only[go_sem,Qgv,g1,hto]
 intro H4 h4
 have kn:=kn.stL 0 rfl h4
 have g1:=kn.l 0 rfl
 have g2:=kn.l 1 rfl
 refine Qa ?_
 simp only[go_sem,g1,g2,hto]
 intro H5 h5
 have kn:=kn.stL 1 rfl h5
 have g2:=kn.l 1 rfl
 refine Qh ?_
 simp only[go_sem,Q0,Q6,Qmc,List.mem_singleton,forall_eq,RS.op,g2,hto]
 exact hK _ L _ (kn.sub (List.sublist_append_right [_,_] _)) (by rw[x.cells_eq];exact .atom rfl (.atom rfl (.atom rfl ho.one)))
theorem Qal2:∀(n:Nat) (x:St) {H:Heap} {K:V→Heap→Prop},x.size≤n→(∀H' L cs,Kn H H' [] L→OwL L cs x.cells→K (.ag cs) H')→Qj prog Qbx [.ag x.cells] H K:=by
 intro n
 induction n with
 |zero=>intro x H K h;have:=x.size_pos2;omega
 |succ n ih=>
 intro x H K hn hK
 have hsz:=x.size_eq
 refine Qb Qaj Qwe ?_
 refine Qa ?_
 simp only[go_sem,x.cells_eq]
 intro x1 hx1 H1 h1
 have kn:=(Kn.start0 H).al hx1 h1
 simp only[go_sem,Qgw]
 intro x2 hx2 H2 h2
 have kn:=kn.al hx2 h2
 have g1:=kn.l 0 rfl
 refine Qa ?_
 simp only[go_sem,g1]
 refine Qauz (g:=id) (caps:=[]) (fun y hy H1 K' _ hK'=>Qal1 y.size y (Nat.le_refl _) hK') fun H3 La ta k2 ha=>?_
 rw[List.map_id]at ha
 have kn:=kn.comp0 k2
 have g1:=kn.l 0 rfl
 have hta:=ha.isOw
 simp only[go_sem,Qgx,g1,hta]
 intro H4 h4
 have kn:=kn.stL 0 rfl h4
 have g1:=kn.l 0 rfl
 refine Qa ?_
 simp only[go_sem,g1,hta]
 refine Qajb (g:=id) (caps:=[]) (fun y hy H1 K' _ hK'=>ih y (by have:=Qai hy;omega) hK') fun H3 Lb tb k2 hb=>?_
 rw[List.map_id]at hb
 have kn:=kn.comp0 k2
 have g1:=kn.l 0 rfl
 have htb:=hb.isOw
 simp only[go_sem,Qgy,g1,hta,htb]
 intro H4 h4
 have kn:=kn.stL 0 rfl h4
 have g1:=kn.l 0 rfl
 refine Qa ?_
 simp only[go_sem,g1,hta,htb]
 refine Qajb (g:=id) (caps:=[]) (fun y hy H1 K' _ hK'=>ih y (by have:=Qai hy;omega) hK') fun H3 Lc tc k2 hc=>?_
 rw[List.map_id]at hc
 have kn:=kn.comp0 k2
 have g1:=kn.l 0 rfl
 have htc:=hc.isOw
 simp only[go_sem,Qgz,g1,hta,htb,htc]
 intro H4 h4
 have kn:=kn.stL 0 rfl h4
 have g1:=kn.l 0 rfl
 have g2:=kn.l 1 rfl
 refine Qa ?_
 simp only[go_sem,g1,g2,hta,htb,htc]
 intro H5 h5
 have kn:=kn.stL 1 rfl h5
 have g2:=kn.l 1 rfl
 refine Qh ?_
 simp only[go_sem,Q0,Q6,Qmd,List.mem_singleton,forall_eq,RS.op,g2,hta,htb,htc]
 refine hK _ (La++(Lb++Lc)) _ (kn.sub ?_) (by rw[x.cells_eq];exact .atom rfl (.atom rfl (ha.cons (hb.cons hc.one))))
 show (La++(Lb++Lc)).Sublist ((_::_::La)++Lb++Lc)
 rw[List.append_assoc]
 exact List.sublist_append_right [_,_] _
theorem Qaqa {fl:Bool}{ss:List (List UInt8)}(hl:ss.length≤2^38)(hK:∀H' L t,Kn H H' [] L→OwS L 1 (Qy ss) t→K (.c t) H'):Qj prog Qcs [.c (.sl fl 1 (Qy ss))] H K:=by
 refine Qb Qaj Qm2 ?_
 refine Qa ?_
 simp only[go_sem]
 refine Qz ?_
 refine Qa ?_
 simp only[go_sem]
 intro b hb
 refine Qe (Qc rfl ?_ ?_)
 ·intro hbt
  have hn:=hb hbt
  have hs:ss=[]:=by
   cases ss with
   |nil=>rfl
   |cons a r=>simp[Qy]at hn
  subst hs
  refine Qa ?_
  simp only[go_sem]
  refine Qh ?_
  simp only[go_sem,Q0,Q6,Qgm,List.mem_singleton,forall_eq,RS.op]
  exact hK _ [] _ (Kn.start0 H) (.inl ⟨rfl,rfl,rfl⟩)
 ·intro hbf
  refine Qf ?_
  simp only[go_sem]
  refine Qa ?_
  simp only[go_sem,Qr]
  refine⟨.inl trivial,Qd2 _,by simp only[LIM];omega,fun z hz H1 h1=>?_⟩
  have kn:=(Kn.start0 H).al hz h1
  simp only[go_sem,Qek]
  refine Qh ?_
  simp only[go_sem,Q0,Q6,Qgm,List.mem_singleton,forall_eq,RS.op]
  exact hK _ _ _ kn ((Gr.mk z 1 _ (by rw[Qr];omega)).ows rfl Qalp Qalp (Qaxq ss))
theorem Qavq {f:Fn}(hl:f.params.length≤2^38)(hK:∀H' L cs,Kn H H' [] L→OwL L cs f.cells→K (.ag cs) H'):Qj prog Qiw [.ag f.cells] H K:=by
 refine Qb Qaj Q4e ?_
 refine Qa ?_
 simp only[go_sem,Fn.cells]
 intro x1 hx1 H1 h1
 have kn:=(Kn.start0 H).al hx1 h1
 simp only[go_sem,Qj4]
 intro x2 hx2 H2 h2
 have kn:=kn.al hx2 h2
 have g1:=kn.l 0 rfl
 refine Qa ?_
 simp only[go_sem,g1]
 refine Qaqa hl fun H3 La ta k2 ha=>?_
 have kn:=kn.comp0 k2
 have g1:=kn.l 0 rfl
 have hta:=ha.isOw
 simp only[go_sem,Qj5,g1,hta]
 intro H4 h4
 have kn:=kn.stL 0 rfl h4
 have g1:=kn.l 0 rfl
 refine Qa ?_
 simp only[go_sem,g1,hta]
 refine Qajb (g:=id) (caps:=[]) (fun y hy H1 K' _ hK'=>Qal2 y.size y (Nat.le_refl _) hK') fun H3 Lb tb k2 hb=>?_
 rw[List.map_id]at hb
 have kn:=kn.comp0 k2
 have g1:=kn.l 0 rfl
 have htb:=hb.isOw
 simp only[go_sem,Qj6,g1,hta,htb]
 intro H4 h4
 have kn:=kn.stL 0 rfl h4
 have g1:=kn.l 0 rfl
 have g2:=kn.l 1 rfl
 refine Qa ?_
 simp only[go_sem,g1,g2,hta,htb]
 intro H5 h5
 have kn:=kn.stL 1 rfl h5
 have g2:=kn.l 1 rfl
 refine Qh ?_
 simp only[go_sem,Q0,Q6,Qr9,List.mem_singleton,forall_eq,RS.op,g2,hta,htb]
 exact hK _ (La++Lb) _ (kn.sub (List.sublist_append_right [_,_] _)) (.atom rfl (ha.cons hb.one))
theorem OwL.fn {L:List (Nat×Obj)}{cs:List C}{f:Fn}(h:OwL L cs f.cells):∃La Lb ta tb,cs=[.str f.name,ta,tb]∧L=La++Lb∧OwS La 1 (Qy f.params) ta∧OwS Lb 5 (Ql f.body) tb:=by
 obtain⟨c1,e1,h1⟩:=h.inv_atom rfl
 obtain⟨ta,c2,La,L2,e2,f2,ha,h2⟩:=h1.inv_sl
 obtain⟨tb,e3,hb⟩:=h2.inv_one
 exact⟨La,L2,ta,tb,by rw[e1,e2,e3],f2,ha,hb⟩
end Go.AE.Y

namespace Go.AE.Y
open Go.Proofs.Tryz
variable {H:Heap}{K:V→Heap→Prop}
theorem Qami {n lo hi:Int}(hK:K (.c (.bool (decide (lo≤n∧n≤hi)))) H):Qj prog Qw9 [.c (.int .i64 n),.c (.int .i64 lo),.c (.int .i64 hi)] H K:=by
 refine Qb Qaj Qa9a ?_
 refine Qa ?_
 simp only[go_sem]
 refine Qa ?_
 simp only[go_sem]
 refine Qh ?_
 simp only[go_sem,Q0,Q6,Qaae,List.mem_singleton,forall_eq,RS.op]
 have:(bif decide (lo≤n)then decide (n≤hi)else false)=decide (lo≤n∧n≤hi):=by
  by_cases h:lo≤n <;> simp[h]
 rw[this];exact hK
theorem Qazr {s:List UInt8}{b:UInt8}(hK:∀n:Int,K (.c (.int .i64 n)) H):Qj prog Q1g [.c (.str s),.c (.int .u8 b.toNat)] H K:=by
 refine Qb Qaj Qaz2 ?_
 refine Qa ?_
 simp only[go_sem]
 refine Qz ?_
 refine Qa ?_
 simp only[go_sem]
 refine Qe (Qd (Qt (fun n e1 H1=>∃i:Nat,n=s.length-i∧i≤s.length∧H1=H∧e1=[(0,.c (.str s)),(1,.c (.int .u8 b.toNat)),(5,.c (.int .i64 i))]) s.length ?_ ?_))
 ·exact⟨0,by omega,by omega,rfl,rfl⟩
 ·rintro n e1 H1 ⟨i,hn,hi,rfl,rfl⟩
  refine Qz ?_
  refine Qa ?_
  simp only[go_sem]
  intro hl
  simp only[LIM]at hl
  refine Qe (Qc rfl ?_ ?_)
  ·intro hc
   have hlt:i<s.length:=by simpa using hc
   refine Qf ?_
   simp only[go_sem]
   refine Qe (Qd ?_)
   refine Qa ?_
   simp only[go_sem,hlt]
   refine Qc rfl ?_ ?_
   ·intro hc2
    refine Qa ?_
    simp only[go_sem]
    refine Qh ?_
    simp only[go_sem,X.next,Q0,Q6,Qam8,List.mem_singleton,forall_eq,RS.op]
    exact hK _
   ·intro hc2
    refine Qf ?_
    simp only[go_sem]
    refine Qn ?_
    simp only[go_sem,X.next]
    exact⟨Qo (by omega) (by omega),s.length-(i+1),by omega,i+1,rfl,by omega,rfl⟩
  ·intro hc
   refine Qu ?_
   simp only[go_sem,X.next]
   refine Qa ?_
   simp only[go_sem]
   refine Qh ?_
   simp only[go_sem,Q0,Q6,Qam8,List.mem_singleton,forall_eq,RS.op]
   exact hK _
theorem Qa4a {op:Int}(hK:K (.c (.int .i64 (if op=4 then 2 else 1))) H):Qj prog Q9o [.c (.int .i64 op)] H K:=by
 refine Qb Qaj Qa4g ?_
 refine Qa ?_
 simp only[go_sem]
 refine Qz ?_
 refine Qa ?_
 simp only[go_sem]
 refine Qe (Qc rfl ?_ ?_)
 ·intro hc
  refine Qa ?_
  simp only[go_sem]
  refine Qh ?_
  simp only[go_sem,Q0,Q6,Qgm,List.mem_singleton,forall_eq,RS.op]
  rw[if_pos (by simpa using hc)]at hK;exact hK
 ·intro hc
  refine Qf ?_
  simp only[go_sem]
  refine Qa ?_
  simp only[go_sem]
  refine Qh ?_
  simp only[go_sem,Q0,Q6,Qgm,List.mem_singleton,forall_eq,RS.op]
  rw[if_neg (by simpa using hc)]at hK;exact hK
end Go.AE.Y

namespace Go.AE.Y
def keysL:List (List UInt8):=[[102,110],[108,101,116],[115,97,121],[112,117,116],[105,102],[101,108,115,101],[108,111,111,112],[98,97,99,107],[100,111]]
def Qce (b:UInt8):Bool:=decide (97≤b.toNat∧b.toNat≤122)
def Qc8 (s:List UInt8):Bool:=decide (1≤s.length∧s.length≤4)&&s.all Qce&&!keysL.contains s
def Qfa (op:Int):Int:=if op=1∨op=2∨op=13 then 0 else if op=11∨op=12 then 1 else 2
def Qe9 (op:Int):Int:=if op=1∨op=2 then 0 else if op=11∨op=12 then 1 else if op=13 then 3 else 2
def Qama (op n:Int)(name:List UInt8)(k:Nat):Bool:=
 decide (1≤op∧op≤13)&&decide (Qfa op≤(k:Int)∧(k:Int)≤Qe9 op)&&(decide (op=2∨op=13) == Qc8 name)&&(decide (op=2∨op=13) || decide (name=[]))&&
  decide (0≤n∧n≤255)&&(decide (op=1) || decide (n=0))
mutual
def Ex.form:Ex→Int→Bool
 |.mk op n name kids,d=>decide (1≤d)&&Qama op n name kids.length&&Q1d kids (d-1)
def Q1d:List Ex→Int→Bool
 |[],_=>true
 |x::r,d=>x.form d&&Q1d r d
end
theorem Ex.form_eq (x:Ex)(d:Int):x.form d=(decide (1≤d)&&Qama x.op x.n x.name x.kids.length&&Q1d x.kids (d-1)):=by
 cases x;simp only[Ex.form,Ex.op,Ex.n,Ex.name,Ex.kids]
theorem Q9h (l:List Ex)(d:Int):Q1d l d=l.all fun x=>x.form d:=by
 induction l with
 |nil=>simp[Q1d]
 |cons x r ih=>simp[Q1d,ih]
def Ex.valid (x:Ex):Bool:=x.form 6&&decide (x.size≤30)
def argN (op:Int):Nat:=if op=4 then 2 else 1
def Qaie (op:Int)(name:List UInt8)(args:List Ex)(nb ne:Nat):Bool:=
 decide (1≤op∧op≤8)&&decide (args.length=argN op)&&(decide (op=1∨op=2) == Qc8 name)&&(decide (op=1∨op=2) || decide (name=[]))&&args.all Ex.valid&&
  (!decide (op=8) || decide ((args.map Ex.op).getD 0 0=13))&&(decide (op=5) || decide (ne=0))&&(decide (op=5∨op=6) || decide (nb=0))
mutual
def St.form:St→Int→Bool
 |.mk op name args body els,d=>decide (1≤d)&&Qaie op name args body.length els.length&&Qa6 body (d-1)&&Qa6 els (d-1)
def Qa6:List St→Int→Bool
 |[],_=>true
 |x::r,d=>x.form d&&Qa6 r d
end
theorem St.form_eq (x:St)(d:Int):x.form d=(decide (1≤d)&&Qaie x.op x.name x.args x.body.length x.els.length&&Qa6 x.body (d-1)&&Qa6 x.els (d-1)):=by
 cases x;simp only[St.form,St.op,St.name,St.args,St.body,St.els]
theorem Qy4 (l:List St)(d:Int):Qa6 l d=l.all fun x=>x.form d:=by
 induction l with
 |nil=>simp[Qa6]
 |cons x r ih=>simp[Qa6,ih]
mutual
def St.cnt:St→Nat
 |.mk _ _ _ body els=>1+Qc7 body+Qc7 els
def Qc7:List St→Nat
 |[]=>0
 |x::r=>x.cnt+Qc7 r
end
theorem St.cnt_eq (x:St):x.cnt=1+Qc7 x.body+Qc7 x.els:=by cases x;simp only[St.cnt,St.body,St.els]
def Fn.form (f:Fn):Bool:=f.params.all Qc8&&Qc8 f.name&&decide (f.params.length≤3)&&Qa6 f.body 4
def Qd3:List Fn→Nat
 |[]=>0
 |f::r=>Qc7 f.body+Qd3 r
theorem Qal3 (a b:List Fn):Qd3 (a++b)=Qd3 a+Qd3 b:=by
 induction a with
 |nil=>simp[Qd3]
 |cons x r ih=>simp only[List.cons_append,Qd3,ih];omega
theorem Qahh {l:List Fn}{i:Nat}(h:i<l.length):Qd3 (l.take (i+1))=Qd3 (l.take i)+Qc7 (l[i]'h).body:=by
 rw[List.take_succ_eq_append_getElem h,Qal3];simp[Qd3]
def Qmb (l:List Fn):Bool:=decide (1≤l.length∧l.length≤4)&&l.all Fn.form&&decide (Qd3 l≤40)
mutual
def Ex.pre:Ex→List Ex
 |.mk op n name kids=>.mk op n name kids::Qaa kids
def Qaa:List Ex→List Ex
 |[]=>[]
 |x::r=>x.pre++Qaa r
end
theorem Ex.pre_eq (x:Ex):x.pre=x::Qaa x.kids:=by cases x;simp only[Ex.pre,Ex.kids]
theorem Qav0 (a b:List Ex):Qaa (a++b)=Qaa a++Qaa b:=by
 induction a with
 |nil=>simp[Qaa]
 |cons x r ih=>simp only[List.cons_append,Qaa,ih,List.append_assoc]
def Qle (l:List Fn)(s:List UInt8):Option Nat:=l.findIdx? fun f=>decide (f.name=s)
abbrev Vars:=List (List (List UInt8×Nat))
def Vars.find (v:Vars)(s:List UInt8):Option Nat:=(v.flatten.find? fun p=>decide (p.1=s)).map Prod.snd
def Qgl (v:Vars)(s:List UInt8):Bool:=(v.headD []).any fun p=>decide (p.1=s)
def Qr6 (v:Vars)(s:List UInt8)(n:Nat):Vars:=((s,n)::v.headD [])::v.tail
def Qcb (a b:Int):Int:=if a=0 then b else a
def Qd6 (fns:List Fn)(k:Nat)(v:Vars)(p:Ex):Int:=
 if p.op=2 then (if (v.find p.name).isSome then 0 else 3)
 else if p.op=13 then (match Qle (fns.take k) p.name with
  |none=>4
  |some j=>if ((fns[j]?.map fun f=>f.params.length).getD 0)=p.kids.length then 0 else 5)
 else 0
def Qat (fns:List Fn)(k:Nat)(v:Vars)(l:List Ex)(c:Int):Int:=l.foldl (fun c p=>Qcb c (Qd6 fns k v p)) c
structure Ck where
 v:Vars
 c:Int
 n:Nat
def stC (fns:List Fn)(k:Nat)(op:Int)(name:List UInt8)(args:List Ex)(s:Ck):Ck:=
 let c:=Qat fns k s.v (Qaa args) s.c
 if op=1 then ⟨Qr6 s.v name s.n,Qcb c (if Qgl s.v name then 2 else 0),s.n+1⟩
 else if op=2 then ⟨s.v,Qcb c (if (s.v.find name).isSome then 0 else 3),s.n⟩
 else ⟨s.v,c,s.n⟩
mutual
def St.ck (fns:List Fn)(k:Nat):St→Ck→Ck
 |.mk op name args body els,s=>
  let s1:=stC fns k op name args s
  let s2:=Qao fns k body ⟨[]::s1.v,s1.c,s1.n⟩
  let s3:=Qao fns k els ⟨[]::s1.v,s2.c,s2.n⟩
  ⟨s1.v,s3.c,s3.n⟩
def Qao (fns:List Fn)(k:Nat):List St→Ck→Ck
 |[],s=>s
 |x::r,s=>Qao fns k r (x.ck fns k s)
end
theorem St.ck_eq (fns:List Fn)(k:Nat)(x:St)(s:Ck):x.ck fns k s =
  ⟨(stC fns k x.op x.name x.args s).v,(Qao fns k x.els ⟨[]::(stC fns k x.op x.name x.args s).v,(Qao fns k x.body ⟨[]::(stC fns k x.op x.name x.args s).v,(stC fns k x.op x.name x.args s).c,(stC fns k x.op x.name x.args s).n⟩).c,
   (Qao fns k x.body ⟨[]::(stC fns k x.op x.name x.args s).v,(stC fns k x.op x.name x.args s).c,(stC fns k x.op x.name x.args s).n⟩).n⟩).c,
   (Qao fns k x.els ⟨[]::(stC fns k x.op x.name x.args s).v,(Qao fns k x.body ⟨[]::(stC fns k x.op x.name x.args s).v,(stC fns k x.op x.name x.args s).c,(stC fns k x.op x.name x.args s).n⟩).c,
   (Qao fns k x.body ⟨[]::(stC fns k x.op x.name x.args s).v,(stC fns k x.op x.name x.args s).c,(stC fns k x.op x.name x.args s).n⟩).n⟩).n⟩:=by
 cases x;simp only[St.ck,St.op,St.name,St.args,St.body,St.els]
theorem Qa2d (fns:List Fn)(k:Nat)(a b:List St)(s:Ck):Qao fns k (a++b) s=Qao fns k b (Qao fns k a s):=by
 induction a generalizing s with
 |nil=>simp[Qao]
 |cons x r ih=>simp only[List.cons_append,Qao,ih]
def Qxi (ps:List (List UInt8))(s:Ck):Ck:=ps.foldl (fun s p=>⟨Qr6 s.v p s.n,Qcb s.c (if Qgl s.v p then 2 else 0),s.n+1⟩) s
def fnCk (fns:List Fn)(k:Nat):Ck:=match fns[k]? with
 |some f=>Qao fns k f.body (Qxi f.params ⟨[[]],if Qle fns f.name=some k then 0 else 2,0⟩)
 |none=>⟨[],0,0⟩
def ckK (fns:List Fn)(k:Nat):Int:=(List.range k).foldl (fun c i=>Qcb c (fnCk fns i).c) 0
def Q5s (fns:List Fn):Int:=if Qmb fns=true then ckK fns fns.length else 1
def Qmp (fns:List Fn):Bool:=decide (Q5s fns=0)
end Go.AE.Y

namespace Go.AE.Y
open Go.Proofs.Tryz
variable {H:Heap}{K:V→Heap→Prop}
theorem Qav8 {b:UInt8}(hK:∀n:Int,decide (n=1)=Qce b→K (.c (.int .i64 n)) H):Qj prog Q1f [.c (.int .u8 b.toNat)] H K:=by
 refine Qb Qaj Qazz ?_
 have hs:(bif decide ((97:Int)≤(b.toNat:Int))then decide ((b.toNat:Int)≤122)else false)=Qce b:=by
  unfold Qce
  by_cases h:97≤b.toNat
  ·have h':(97:Int)≤(b.toNat:Int):=by omega
   simp only[h',decide_true,cond_true,h,true_and,decide_eq_decide];omega
  ·have h':¬(97:Int)≤(b.toNat:Int):=by omega
   simp[h',h]
 have ret:∀(n:Int) (e:Env),decide (n=1)=Qce b→lk 2 e=.c (.int .i64 n)→Q0 Qgm K .ret e H:=by
  intro n e h1 h2
  simp only[go_sem,Q0,Q6,Qgm,List.mem_singleton,forall_eq,RS.op,h2]
  exact hK n h1
 refine Qa ?_
 simp only[go_sem]
 refine Qe (Qd ?_)
 refine Qa ?_
 simp only[go_sem]
 refine Qc rfl ?_ ?_
 ·intro hc
  rw[hs]at hc
  refine Qa ?_
  simp only[go_sem]
  refine Qh ?_
  simp only[go_sem]
  exact ret 1 _ (by rw[hc];rfl) (by simp[lk])
 intro hc
 rw[hs]at hc
 refine Qa ?_
 simp only[go_sem]
 refine Qc rfl ?_ ?_
 ·intro _
  refine Qa ?_
  simp only[go_sem]
  refine Qh ?_
  simp only[go_sem]
  exact ret 2 _ (by rw[hc];rfl) (by simp[lk])
 intro _
 refine Qa ?_
 simp only[go_sem]
 refine Qazr fun n=>?_
 simp only[go_sem,Q4y]
 refine Qc rfl ?_ ?_
 ·intro _
  refine Qa ?_
  simp only[go_sem]
  refine Qh ?_
  simp only[go_sem]
  exact ret 3 _ (by rw[hc];rfl) (by simp[lk])
 intro _
 refine Qa ?_
 simp only[go_sem]
 refine Qc rfl ?_ ?_
 ·intro _
  refine Qa ?_
  simp only[go_sem]
  refine Qh ?_
  simp only[go_sem]
  exact ret 4 _ (by rw[hc];rfl) (by simp[lk])
 intro _
 refine Qf ?_
 simp only[go_sem]
 refine Qa ?_
 simp only[go_sem]
 refine Qh ?_
 exact ret 0 _ (by rw[hc];rfl) (by simp[lk])
theorem Qg5 {α:Type}{p:α→Bool}{l:List α}{i:Nat}(h:i<l.length):(l.take (i+1)).all p=((l.take i).all p&&p l[i]):=by
 rw[List.take_succ_eq_append_getElem h,List.all_append];simp
theorem Ql1 {α:Type}{p:α→Bool}{l:List α}{i:Nat}(h:i<l.length)(hp:p l[i]=false):l.all p=false:=by
 rw[List.all_eq_false];exact⟨l[i],List.getElem_mem h,by rw[hp];simp⟩
theorem Qa36 {s:List UInt8}(hK:K (.c (.bool (s.all Qce&&decide (0<s.length)))) H):Qj prog Qair [.c (.str s),.c (.int .i64 1)] H K:=by
 refine Qb Qaj Qa7o ?_
 have retf:∀(b:Bool) (e:Env),(s.all Qce&&decide (0<s.length))=b→lk 4 e=.c (.bool b)→Q0 Qam8 K .ret e H:=by
  intro b e h1 h3
  simp only[go_sem,Q0,Q6,Qam8,List.mem_singleton,forall_eq,RS.op,h3]
  rw[←h1];exact hK
 refine Qa ?_
 simp only[go_sem]
 refine Qz ?_
 refine Qa ?_
 simp only[go_sem]
 refine Qe (Qd (Qt (fun n e1 H1=>∃i:Nat,n=s.length-i∧i≤s.length∧H1=H∧(s.take i).all Qce=true∧e1=[(0,.c (.str s)),(1,.c (.int .i64 1)),(5,.c (.int .i64 i))]) s.length ?_ ?_))
 ·exact⟨0,by omega,by omega,rfl,rfl,rfl⟩
 ·rintro n e1 H1 ⟨i,hn,hi,rfl,hall,rfl⟩
  refine Qz ?_
  refine Qa ?_
  simp only[go_sem]
  intro hl
  simp only[LIM]at hl
  refine Qe (Qc rfl ?_ ?_)
  ·intro hc
   have hlt:i<s.length:=by simpa using hc
   have hg:s.getD i 0=s[i]:=by simp[List.getD_eq_getElem?_getD,hlt]
   refine Qf ?_
   simp only[go_sem]
   refine Qe (Qd ?_)
   refine Qa ?_
   simp only[go_sem,hlt,hg]
   refine Qav8 fun cl hcl=>?_
   simp only[go_sem,Qah3]
   refine Qc rfl ?_ ?_
   ·intro hc2
    have hf:Qce s[i]=false:=by
     rw[←hcl]
     cases hd:decide (cl=1)with
     |false=>rfl
     |true=>rw[hd]at hc2;simp at hc2
    refine Qa ?_
    simp only[go_sem]
    refine Qh ?_
    simp only[go_sem,X.next]
    exact retf false _ (by rw[Ql1 hlt hf];rfl) (by simp[lk])
   ·intro hc2
    have hf:Qce s[i]=true:=by
     rw[←hcl]
     cases hd:decide (cl=1)with
     |true=>rfl
     |false=>rw[hd]at hc2;simp at hc2
    refine Qf ?_
    simp only[go_sem]
    refine Qn ?_
    simp only[go_sem,X.next]
    exact⟨Qo (by omega) (by omega),s.length-(i+1),by omega,i+1,rfl,by omega,by rw[Qg5 hlt,hall,hf];rfl,rfl⟩
  ·intro hc
   have hge:s.length≤i:=by simpa using hc
   rw[List.take_of_length_le hge]at hall
   refine Qu ?_
   simp only[go_sem,X.next]
   refine Qa ?_
   simp only[go_sem]
   intro _
   refine Qh ?_
   exact retf (decide ((0:Int)<(s.length:Int))) _ (by rw[hall,Bool.true_and,decide_eq_decide];omega) (by simp[lk])
theorem Qaqb (hK:K (.c (.sl true 1 (Qy keysL))) H):Qj prog Ql6 [] H K:=by
 refine Qb Qaj Qai9 ?_
 refine Qa ?_
 simp only[go_sem]
 refine Qa ?_
 simp only[go_sem]
 refine Qh ?_
 simp only[go_sem,Q0,Q6,Qzw,List.mem_singleton,forall_eq,RS.op]
 exact hK
theorem Qa2z {α:Type}{p:α→Bool}{l:List α}{i:Nat}(h:i<l.length):(l.take (i+1)).any p=((l.take i).any p || p l[i]):=by
 rw[List.take_succ_eq_append_getElem h,List.any_append];simp
theorem Qal5 {l:List (List UInt8)}{s:List UInt8}:l.contains s=l.any fun x=>decide (x=s):=by
 rw[Bool.eq_iff_iff,List.contains_iff_mem,List.any_eq_true]
 constructor
 ·intro h;exact⟨s,h,by simp⟩
 ·rintro⟨x,hx,h⟩
  have:x=s:=by simpa using h
  rw[←this];exact hx
theorem Qa37 {s:List UInt8}(hK:K (.c (.bool (keysL.contains s))) H):Qj prog Qais [.c (.str s)] H K:=by
 refine Qb Qaj Qa7p ?_
 rw[Qal5]at hK
 generalize hks:keysL=ss at *
 have retf:∀(b:Bool) (e:Env),(ss.any fun x=>decide (x=s))=b→lk 2 e=.c (.bool b)→Q0 Qgm K .ret e H:=by
  intro b e h1 h3
  simp only[go_sem,Q0,Q6,Qgm,List.mem_singleton,forall_eq,RS.op,h3]
  rw[←h1];exact hK
 refine Qa ?_
 simp only[go_sem]
 refine Qa ?_
 simp only[go_sem]
 refine Qaqb ?_
 rw[hks]
 simp only[go_sem,Qah4]
 refine Qz ?_
 refine Qa ?_
 simp only[go_sem]
 refine Qe (Qd (Qt (fun n e1 H1=>∃i:Nat,n=ss.length-i∧i≤ss.length∧H1=H∧((ss.take i).any fun x=>decide (x=s))=false∧e1=[(0,.c (.str s)),(3,.c (.sl true 1 (Qy ss))),(4,.c (.int .i64 i))]) ss.length ?_ ?_))
 ·exact⟨0,by omega,by omega,rfl,rfl,rfl⟩
 ·rintro n e1 H1 ⟨i,hn,hi,rfl,hall,rfl⟩
  refine Qz ?_
  refine Qa ?_
  simp only[go_sem,Qr]
  intro hl
  simp only[LIM]at hl
  refine Qe (Qc rfl ?_ ?_)
  ·intro hc
   have hlt:i<ss.length:=by simpa using hc
   have hg:ss.getD i []=ss[i]:=by simp[List.getD_eq_getElem?_getD,hlt]
   refine Qf ?_
   simp only[go_sem]
   refine Qe (Qd ?_)
   refine Qa ?_
   simp only[go_sem,hlt,Qr,Qck _ _ hlt,hg]
   refine Qc rfl ?_ ?_
   ·intro hc2
    refine Qa ?_
    simp only[go_sem]
    refine Qh ?_
    simp only[go_sem,X.next]
    exact retf true _ (List.any_eq_true.2 ⟨ss[i],List.getElem_mem hlt,hc2⟩) (by simp[lk])
   ·intro hc2
    refine Qf ?_
    simp only[go_sem]
    refine Qn ?_
    simp only[go_sem,X.next]
    exact⟨Qo (by omega) (by omega),ss.length-(i+1),by omega,i+1,rfl,by omega,by rw[Qa2z hlt,hall,hc2];rfl,rfl⟩
  ·intro hc
   have hge:ss.length≤i:=by simpa using hc
   rw[List.take_of_length_le hge]at hall
   refine Qu ?_
   simp only[go_sem,X.next]
   refine Qa ?_
   simp only[go_sem]
   refine Qh ?_
   exact retf false _ hall (by simp[lk])
theorem Qy7 {s:List UInt8}(hK:K (.c (.bool (Qc8 s))) H):Qj prog Qe8 [.c (.str s)] H K:=by
 refine Qb Qaj Qara ?_
 refine Qa ?_
 simp only[go_sem]
 refine Qa ?_
 simp only[go_sem]
 refine Qa36 ?_
 simp only[go_sem,Qw6]
 intro hl
 have hle:decide ((s.length:Int)≤4)=decide (s.length≤4):=by rw[decide_eq_decide];omega
 have e0:Qc8 s=((s.all Qce&&decide (0<s.length))&&decide (s.length≤4)&&!keysL.contains s):=by
  unfold Qc8
  have:decide (1≤s.length∧s.length≤4)=(decide (0<s.length)&&decide (s.length≤4)):=by
   rw[Bool.eq_iff_iff];simp only[decide_eq_true_eq,Bool.and_eq_true];omega
  rw[this]
  cases s.all Qce <;> cases decide (0<s.length) <;> cases decide (s.length≤4) <;> rfl
 have e1:(bif (s.all Qce&&decide (0<s.length))then decide ((s.length:Int)≤4)else false)=((s.all Qce&&decide (0<s.length))&&decide (s.length≤4)):=by
  rw[hle];cases (s.all Qce&&decide (0<s.length)) <;> rfl
 refine⟨fun hb=>?_,fun hb=>?_⟩
 ·refine Qa37 ?_
  simp only[go_sem,Qmm]
  refine Qh ?_
  simp only[go_sem,Q0,Q6,Qgm,List.mem_singleton,forall_eq,RS.op]
  have:(bif (bif (s.all Qce&&decide (0<s.length))then decide ((s.length:Int)≤4)else false)then !keysL.contains s else false)=Qc8 s:=by
   rw[e1,e0];cases ((s.all Qce&&decide (0<s.length))&&decide (s.length≤4)) <;> rfl
  first|(rw[this];exact hK)|(rw[e0,←e1,hb];exact hK)
 ·simp only[go_sem,Qmm,hb]
  refine Qh ?_
  simp only[go_sem,Q0,Q6,Qgm,List.mem_singleton,forall_eq,RS.op]
  have hf:Qc8 s=false:=by
   rw[e0,←e1]
   have hb':=hb
   first|(rw[hb'];rfl)|(simp at hb';simp[hb'])
  rw[hf]at hK
  exact hK
end Go.AE.Y

namespace Go.AE.Y
open Go.Proofs.Tryz
variable {H:Heap}{K:V→Heap→Prop}
theorem Q4c {l:List Ex}{i:Nat}(h:i<l.length):Qv (l.take (i+1))=Qv (l.take i)+(l[i]'h).size:=by
 rw[List.take_succ_eq_append_getElem h,Qet];simp[Qv]
theorem Ql0 {l:List St}{i:Nat}(h:i<l.length):Qg (l.take (i+1))=Qg (l.take i)+(l[i]'h).size:=by
 rw[List.take_succ_eq_append_getElem h,Qy5];simp[Qg]
theorem Qjh (l:List Ex)(i:Nat):Qv (l.take i)≤Qv l:=by
 conv=>rhs;rw[←List.take_append_drop i l,Qet]
 omega
theorem Qca (l:List St)(i:Nat):Qg (l.take i)≤Qg l:=by
 conv=>rhs;rw[←List.take_append_drop i l,Qy5]
 omega
theorem St.size_pos (x:St):1≤x.size:=by rw[x.size_eq];omega
theorem Qg4 (l:List St):l.length≤Qg l:=by
 induction l with
 |nil=>simp
 |cons x r ih=>simp only[List.length_cons,Qg];have:=x.size_pos;omega
theorem Qazq:∀(n:Nat) (x:Ex) {H:Heap} {K:V→Heap→Prop},x.size≤n→x.size≤2^40→K (.c (.int .i64 x.size)) H→Qj prog Qur [.ag x.cells] H K:=by
 intro n
 induction n with
 |zero=>intro x _ _ h;have:=x.size_pos;omega
 |succ n ih=>
 intro x H K hn hb hK
 have hsz:=x.size_kids
 refine Qb Qaj Qaz1 ?_
 refine Qa ?_
 simp only[go_sem,x.cells_eq]
 refine Qa ?_
 simp only[go_sem]
 refine Qz ?_
 refine Qa ?_
 simp only[go_sem]
 refine Qe (Qd (Qt (fun n e1 H1=>∃i:Nat,n=x.kids.length-i∧i≤x.kids.length∧H1=H∧e1=[(1,.c (.pp [.int .i64 x.op,.int .i64 x.n,.str x.name,.sl false 4 (Q2 x.kids)])),(3,.c (.int .i64 ((1+Qv (x.kids.take i):Nat):Int))),(4,.c (.int .i64 i))]) x.kids.length ?_ ?_))
 ·exact⟨0,by omega,by omega,rfl,by simp[Qv]⟩
 ·rintro n e1 H1 ⟨i,hn,hi,rfl,rfl⟩
  refine Qz ?_
  refine Qa ?_
  simp only[go_sem,Qi]
  intro hl
  simp only[LIM]at hl
  refine Qe (Qc rfl ?_ ?_)
  ·intro hc
   have hlt:i<x.kids.length:=by simpa using hc
   have hm:=Qad (List.getElem_mem hlt)
   have htk:=Q4c hlt
   have htl:=Qjh x.kids (i+1)
   refine Qf ?_
   simp only[go_sem]
   refine Qe (Qd (Qn ?_))
   simp only[go_sem,hlt,Qi,Qag _ _ hlt,Ex.take4,Ex.allOw,Ex.cells_len]
   refine ih _ (by omega) (by omega) ?_
   simp only[go_sem,Q41]
   refine⟨Qo (by omega) (by omega),?_⟩
   refine Qn ?_
   simp only[go_sem,X.next]
   refine⟨Qo (by omega) (by omega),x.kids.length-(i+1),by omega,i+1,rfl,by omega,?_⟩
   rw[htk];simp;omega
  ·intro hc
   have hge:x.kids.length≤i:=by simpa using hc
   refine Qu ?_
   simp only[go_sem,X.next]
   refine Qa ?_
   simp only[go_sem]
   refine Qh ?_
   simp only[go_sem,Q0,Q6,Qgm,List.mem_singleton,forall_eq,RS.op]
   rw[List.take_of_length_le hge,←hsz];exact hK
end Go.AE.Y

namespace Go.AE.Y
open Go.Proofs.Tryz
variable {H:Heap}{K:V→Heap→Prop}
theorem Qazo {op:Int}(hK:K (.tup [.c (.int .i64 (Qfa op)),.c (.int .i64 (Qe9 op))]) H):Qj prog Q9n [.c (.int .i64 op)] H K:=by
 refine Qb Qaj Qa4f ?_
 refine Qa ?_
 simp only[go_sem]
 refine Qz ?_
 refine Qa ?_
 simp only[go_sem]
 have ret:∀(a b:Int) (e:Env),Qfa op=a→Qe9 op=b→lk 2 e=.c (.int .i64 a)→lk 3 e=.c (.int .i64 b)→Q0 Qzv K .ret e H:=by
  intro a b e h1 h2 h3 h4
  simp only[go_sem,Q0,Q6,Qzv,List.forall_mem_cons,RS.op,h3,h4]
  rw[h1,h2]at hK
  exact hK
 refine Qe (Qd ?_)
 refine Qz ?_
 refine Qa ?_
 simp only[go_sem]
 have r5:∀(b:Bool),b=decide (op=1∨op=2)→Qah prog Qah6 (X.inBlock 0 (X.sq prog Q2q (Q0 Qzv K))) [(4,.c (.int .i64 op)),(5,.c (.bool b))] H:=by
  intro b hb
  refine Qc rfl ?_ ?_
  ·intro hc
   rw[hb,decide_eq_true_eq]at hc
   refine Qa ?_
   simp only[go_sem]
   refine Qh ?_
   simp only[go_sem]
   exact ret 0 0 _ (by rw[Qfa,if_pos (by omega)]) (by rw[Qe9,if_pos hc]) (by simp[lk]) (by simp[lk])
  intro hc
  rw[hb,decide_eq_false_iff_not]at hc
  refine Qz ?_
  refine Qa ?_
  simp only[go_sem]
  have r8:∀(b:Bool),b=decide (op=11∨op=12)→Qah prog Qah5 (X.inBlock 0 (X.sq prog Q2q (Q0 Qzv K))) [(4,.c (.int .i64 op)),(8,.c (.bool b))] H:=by
   intro b hb2
   refine Qc rfl ?_ ?_
   ·intro hc2
    rw[hb2,decide_eq_true_eq]at hc2
    refine Qa ?_
    simp only[go_sem]
    refine Qh ?_
    simp only[go_sem]
    exact ret 1 1 _ (by rw[Qfa,if_neg (by omega),if_pos hc2]) (by rw[Qe9,if_neg hc,if_pos hc2]) (by simp[lk]) (by simp[lk])
   intro hc2
   rw[hb2,decide_eq_false_iff_not]at hc2
   refine Qa ?_
   simp only[go_sem]
   refine Qc rfl ?_ ?_
   ·intro hc3
    have hc3:op=13:=by simpa using hc3
    refine Qa ?_
    simp only[go_sem]
    refine Qh ?_
    simp only[go_sem]
    exact ret 0 3 _ (by rw[Qfa,if_pos (by omega)]) (by rw[Qe9,if_neg hc,if_neg hc2,if_pos hc3]) (by simp[lk]) (by simp[lk])
   ·intro hc3
    have hc3:¬op=13:=by simpa using hc3
    refine Qf ?_
    simp only[go_sem]
    refine Qa ?_
    simp only[go_sem]
    refine Qh ?_
    exact ret 2 2 _ (by rw[Qfa,if_neg (by omega),if_neg hc2]) (by rw[Qe9,if_neg hc,if_neg hc2,if_neg hc3]) (by simp[lk]) (by simp[lk])
  refine Qe (Qc rfl ?_ ?_)
  ·intro hc2
   have h11:op=11:=by simpa using hc2
   refine Qf ?_
   simp only[go_sem]
   exact r8 _ (by rw[hc2];symm;rw[decide_eq_true_eq];exact .inl h11)
  ·intro hc2
   have h11:¬op=11:=by simpa using hc2
   refine Qn ?_
   simp only[go_sem]
   exact r8 _ (by rw[decide_eq_decide];omega)
 refine Qe (Qc rfl ?_ ?_)
 ·intro hc
  have h1:op=1:=by simpa using hc
  refine Qf ?_
  simp only[go_sem]
  exact r5 _ (by rw[hc];symm;rw[decide_eq_true_eq];exact .inl h1)
 ·intro hc
  have h1:¬op=1:=by simpa using hc
  refine Qn ?_
  simp only[go_sem]
  exact r5 _ (by rw[decide_eq_decide];omega)
def exA (op:Int)(k:Nat)(d:Int):Bool:=decide (1≤d)&&decide (1≤op∧op≤13)&&decide (Qfa op≤(k:Int)∧(k:Int)≤Qe9 op)
def exB (op n:Int)(name:List UInt8):Bool:=(decide (op=2∨op=13) == Qc8 name)&&(decide (op=2∨op=13) || decide (name=[]))&&decide (0≤n∧n≤255)&&(decide (op=1) || decide (n=0))
theorem Qa66 (x:Ex)(d:Int):x.form d=(exA x.op x.kids.length d&&(exB x.op x.n x.name&&x.kids.all fun y=>y.form (d-1))):=by
 rw[x.form_eq,Qama,exA,exB,Q9h]
 simp only[Bool.and_assoc]
theorem Qhz (a b:Bool):(bif a then true else b)=(a || b):=by cases a <;> rfl
theorem Qd8 (a b:Bool):(bif a then b else false)=(a&&b):=by cases a <;> rfl
theorem Qavt {a b:Int}:decide (a<b) = !decide (b≤a):=by
 rw[Bool.eq_iff_iff];simp only[decide_eq_true_eq,Bool.not_eq_true',decide_eq_false_iff_not];omega
theorem Qazm:∀(n:Nat) (x:Ex) {H:Heap} {K:V→Heap→Prop} (deep:Int),x.size≤n→deep≤100→K (.c (.bool (x.form deep))) H→Qj prog Qzf [.ag x.cells,.c (.int .i64 deep)] H K:=by
 intro n
 induction n with
 |zero=>intro x _ _ _ h;have:=x.size_pos;omega
 |succ n ih=>
 intro x H K deep hn hd hK
 rw[Qa66]at hK
 have hsz:=x.size_kids
 refine Qb Qaj Qa4e ?_
 refine Qa ?_
 simp only[go_sem,x.cells_eq]
 refine Qa ?_
 simp only[go_sem]
 refine Qazo ?_
 simp only[go_sem,Qabk,List.getD_cons_zero,List.getD_cons_succ]
 refine Qz ?_
 refine Qa ?_
 simp only[go_sem]
 have retf:∀(b:Bool) (e:Env),(exA x.op x.kids.length deep&&(exB x.op x.n x.name&&x.kids.all fun y=>y.form (deep-1)))=b→lk 4 e=.c (.bool b)→Q0 Qam8 K .ret e H:=by
  intro b e h0 h1
  simp only[go_sem,Q0,Q6,Qam8,List.mem_singleton,forall_eq,RS.op,h1]
  rw[←h0];exact hK
 have rest:∀b:Bool,b = !exA x.op x.kids.length deep→Qah prog (s_l2Form_3.seq Qabj) (Q0 Qam8 K)
   [(1,.c (.int .i64 deep)),(2,.c (.pp [.int .i64 x.op,.int .i64 x.n,.str x.name,.sl false 4 (Q2 x.kids)])),(31,.c (.bool b))] H:=by
  intro b hb
  refine Qe (Qc rfl ?_ ?_)
  ·intro hc
   refine Qa ?_
   simp only[go_sem]
   refine Qh ?_
   simp only[go_sem]
   have hA:exA x.op x.kids.length deep=false:=by rw[hc]at hb;simpa using hb.symm
   exact retf false _ (by rw[hA];rfl) (by simp[lk])
  intro hc
  have hA:exA x.op x.kids.length deep=true:=by rw[hc]at hb;simpa using hb.symm
  have hdp:1≤deep:=by
   have:=hA
   simp only[exA,Bool.and_eq_true,decide_eq_true_eq]at this
   exact this.1.1
  rw[hA,Bool.true_and]at retf
  refine Qf ?_
  simp only[go_sem]
  refine Qa ?_
  simp only[go_sem]
  refine Qz ?_
  refine Qa ?_
  simp only[go_sem]
  refine Qy7 ?_
  simp only[go_sem,Qabl]
  have rest2:∀b:Bool,b = !exB x.op x.n x.name→Qah prog (s_l2Form_6.seq Qabi) (Q0 Qam8 K)
    [(1,.c (.int .i64 deep)),(2,.c (.pp [.int .i64 x.op,.int .i64 x.n,.str x.name,.sl false 4 (Q2 x.kids)])),(69,.c (.bool b))] H:=by
   intro b hb
   refine Qe (Qc rfl ?_ ?_)
   ·intro hc
    have hB:exB x.op x.n x.name=false:=by rw[hc]at hb;simpa using hb.symm
    refine Qa ?_
    simp only[go_sem]
    refine Qh ?_
    simp only[go_sem]
    exact retf false _ (by rw[hB];rfl) (by simp[lk])
   intro hc
   have hB:exB x.op x.n x.name=true:=by rw[hc]at hb;simpa using hb.symm
   rw[hB,Bool.true_and]at retf
   refine Qf ?_
   simp only[go_sem]
   refine Qz ?_
   refine Qa ?_
   simp only[go_sem]
   refine Qe (Qd (Qt (fun n e1 H1=>∃i:Nat,n=x.kids.length-i∧i≤x.kids.length∧H1=H∧((x.kids.take i).all fun y=>y.form (deep-1))=true∧e1=[(1,.c (.int .i64 deep)),(2,.c (.pp [.int .i64 x.op,.int .i64 x.n,.str x.name,.sl false 4 (Q2 x.kids)])),(8,.c (.int .i64 i))]) x.kids.length ?_ ?_))
   ·exact⟨0,by omega,by omega,rfl,rfl,rfl⟩
   ·rintro n e1 H1 ⟨i,hn,hi,rfl,hall,rfl⟩
    refine Qz ?_
    refine Qa ?_
    simp only[go_sem,Qi]
    intro hl
    simp only[LIM]at hl
    refine Qe (Qc rfl ?_ ?_)
    ·intro hc
     have hlt:i<x.kids.length:=by simpa using hc
     have hm:=Qad (List.getElem_mem hlt)
     refine Qf ?_
     simp only[go_sem]
     refine Qe (Qd ?_)
     refine Qa ?_
     simp only[go_sem,hlt,Qi,Qag _ _ hlt,Ex.take4,Ex.allOw,Ex.cells_len]
     refine⟨Qo (by omega) (by omega),?_⟩
     refine ih _ (deep-1) (by omega) (by omega) ?_
     simp only[go_sem,Qabm]
     refine Qc rfl ?_ ?_
     ·intro hc2
      refine Qa ?_
      simp only[go_sem]
      refine Qh ?_
      simp only[go_sem,X.next]
      exact retf false _ (Ql1 hlt (Qzs hc2)) (by simp[lk])
     ·intro hc2
      refine Qf ?_
      simp only[go_sem]
      refine Qn ?_
      simp only[go_sem,X.next]
      exact⟨Qo (by omega) (by omega),x.kids.length-(i+1),by omega,i+1,rfl,by omega,by rw[Qg5 hlt,hall,Qr2 hc2];rfl,rfl⟩
    ·intro hc
     have hge:x.kids.length≤i:=by simpa using hc
     rw[List.take_of_length_le hge]at hall
     refine Qu ?_
     simp only[go_sem,X.next]
     refine Qa ?_
     simp only[go_sem]
     refine Qh ?_
     exact retf true _ hall (by simp[lk])
  refine⟨fun hb1=>?_,fun hb1=>?_⟩
  ·refine Qami ?_
   simp only[go_sem,Qx1]
   refine rest2 _ ?_
   simp only[Qhz,Qd8,exB]
   by_cases h1:x.op=1 <;> by_cases h2:x.op=2 <;> by_cases h3:x.op=13 <;> cases Qc8 x.name <;> by_cases h4:x.name=[] <;> by_cases h5:(0≤x.n∧x.n≤255) <;> by_cases h6:x.n=0 <;> simp[h1,h2,h3,h4,h5,h6]
  ·replace hb1:=Qr2 hb1
   simp only[go_sem,Qx1,hb1]
   refine rest2 _ ?_
   simp only[Qhz,Qd8,exB]at hb1⊢
   revert hb1
   by_cases h1:x.op=1 <;> by_cases h2:x.op=2 <;> by_cases h3:x.op=13 <;> cases Qc8 x.name <;> by_cases h4:x.name=[] <;> by_cases h5:(0≤x.n∧x.n≤255) <;> by_cases h6:x.n=0 <;> simp[h1,h2,h3,h4,h5,h6]
 refine⟨fun hb1=>?_,fun hb1=>?_⟩
 ·replace hb1:=Qzs hb1
  have hdp:1≤deep:=by simp at hb1;omega
  refine Qami ?_
  simp only[go_sem,Qx0,hb1,Qi,cond_false]
  intro hl
  refine⟨fun hb2=>?_,fun hb2=>?_⟩
  ·refine Qami ?_
   simp only[go_sem,Qpd]
   refine rest _ ?_
   simp only[Qhz,exA]
   have hd1:decide (1≤deep)=true:=decide_eq_true hdp
   rw[hd1]
   cases decide (1≤x.op∧x.op≤13) <;> cases decide (Qfa x.op≤(x.kids.length:Int)∧(x.kids.length:Int)≤Qe9 x.op) <;> rfl
  ·replace hb2:=Qr2 hb2
   simp only[go_sem,Qpd,hb2]
   refine rest _ ?_
   have hop:decide (1≤x.op∧x.op≤13)=false:=by
    cases h:decide (1≤x.op∧x.op≤13)with
    |false=>rfl
    |true=>rw[h]at hb2;simp at hb2
   simp only[exA,hop,Bool.and_false,Bool.false_and,Bool.not_false]
 ·replace hb1:=Qr2 hb1
  simp only[go_sem,Qx0,Qpd,hb1,Qi,cond_true]
  refine rest _ ?_
  have hdp:decide (1≤deep)=false:=by
   rw[decide_eq_false_iff_not];simp at hb1;omega
  simp only[exA,hdp,Bool.false_and,Bool.not_false]
theorem Qalu {x:Ex}(hx:x.size≤2^40)(hK:K (.c (.bool x.valid)) H):Qj prog Qjn [.ag x.cells] H K:=by
 refine Qb Qaj Qadq ?_
 refine Qa ?_
 simp only[go_sem,Ex.ne_nil]
 refine Qa ?_
 simp only[go_sem,Ex.take4,Ex.allOw,Ex.cells_len]
 refine Qazm x.size x 6 (Nat.le_refl _) (by omega) ?_
 simp only[go_sem,Qn5,Ex.take4,Ex.allOw,Ex.cells_len]
 have e:decide ((x.size:Int)≤30)=decide (x.size≤30):=by rw[decide_eq_decide];omega
 refine⟨fun hb=>?_,fun hb=>?_⟩
 ·refine Qazq x.size x (Nat.le_refl _) hx ?_
  simp only[go_sem,Qg2]
  refine Qh ?_
  simp only[go_sem,Q0,Q6,Qgm,List.mem_singleton,forall_eq,RS.op]
  rw[Ex.valid,hb]at hK
  first|(rw[e];exact hK)|(rw[hb,e];exact hK)|(simp only[hb,e,cond_true];exact hK)
 ·simp only[go_sem,Qg2,hb]
  refine Qh ?_
  simp only[go_sem,Q0,Q6,Qgm,List.mem_singleton,forall_eq,RS.op]
  rw[Ex.valid,hb]at hK
  exact hK
end Go.AE.Y

namespace Go.AE.Y
open Go.Proofs.Tryz
variable {H:Heap}{K:V→Heap→Prop}
def St.raw (x:St):List C:=[.int .i64 x.op,.str x.name,.sl false 4 (Q2 x.args),.sl false 5 (Ql x.body),.sl false 5 (Ql x.els)]
def Q1:List Fn→Nat
 |[]=>0
 |f::r=>Qg f.body+Q1 r
theorem Qcd {l:List Fn}{f:Fn}(h:f∈l):Qg f.body≤Q1 l:=by
 induction l with
 |nil=>simp at h
 |cons g r ih=>
  simp only[Q1]
  rcases List.mem_cons.1 h with rfl|h
  ·omega
  ·have:=ih h;omega
theorem Q4i (a b:List Fn):Q1 (a++b)=Q1 a+Q1 b:=by
 induction a with
 |nil=>simp[Q1]
 |cons x r ih=>simp only[List.cons_append,Q1,ih];omega
theorem Qajh {l:List Fn}{i:Nat}(h:i<l.length):Q1 (l.take (i+1))=Q1 (l.take i)+Qg (l[i]'h).body:=by
 rw[List.take_succ_eq_append_getElem h,Q4i];simp[Q1]
theorem Qpy (l:List Fn)(i:Nat):Q1 (l.take i)≤Q1 l:=by
 conv=>rhs;rw[←List.take_append_drop i l,Q4i]
 omega
end Go.AE.Y

namespace Go.AE.Y
open Go.Proofs.Tryz
variable {H:Heap}{K:V→Heap→Prop}
mutual
theorem St.cnt_le:∀(x:St),x.cnt≤x.size
 |.mk op name args body els=>by
  have h1:=Quh body
  have h2:=Quh els
  simp only[St.cnt,St.size];omega
theorem Quh:∀(l:List St),Qc7 l≤Qg l
 |[]=>by simp[Qc7]
 |x::r=>by
  have h1:=St.cnt_le x
  have h2:=Quh r
  simp only[Qc7,Qg];omega
end
theorem Qaxr (l:List St):Qc7 l=l.length+(l.map fun x=>Qc7 x.body+Qc7 x.els).sum:=by
 induction l with
 |nil=>simp[Qc7]
 |cons x r ih=>simp only[Qc7,List.length_cons,List.map_cons,List.sum_cons,ih,x.cnt_eq];omega
def inC (l:List St):Nat:=(l.map fun x=>Qc7 x.body+Qc7 x.els).sum
theorem Qa3v {l:List St}{i:Nat}(h:i<l.length):inC (l.take (i+1))=inC (l.take i)+(Qc7 (l[i]'h).body+Qc7 (l[i]'h).els):=by
 rw[inC,inC,List.take_succ_eq_append_getElem h,List.map_append,List.sum_append];simp
theorem Qa83 (l:List St)(i:Nat):inC (l.take i)≤inC l:=by
 have:inC l=inC (l.take i)+inC (l.drop i):=by rw[inC,inC,inC,←List.sum_append,←List.map_append,List.take_append_drop]
 omega
theorem Qav9:∀(n:Nat) (l:List St) {fl:Bool} {H:Heap} {K:V→Heap→Prop},Qg l≤n→Qg l≤2^40→K (.c (.int .i64 (Qc7 l))) H→Qj prog Qmr [.c (.sl fl 5 (Ql l))] H K:=by
 intro n
 induction n using Nat.strongRecOn with
 |ind n ih=>
 intro l fl H K hn hb hK
 have hlen:=Qg4 l
 have htot:=Qaxr l
 have hcl:=Quh l
 change Qc7 l=l.length+inC l at htot
 refine Qb Qaj Qaz3 ?_
 refine Qa ?_
 simp only[go_sem]
 refine Qa ?_
 simp only[go_sem,Qw]
 intro hl
 refine Qz ?_
 refine Qa ?_
 simp only[go_sem]
 refine Qe (Qd (Qt (fun n e1 H1=>∃(i:Nat),n=l.length-i∧i≤l.length∧H1=H∧e1=[(0,.c (.sl fl 5 (Ql l))),(3,.c (.int .i64 ((l.length+inC (l.take i):Nat):Int))),(4,.c (.int .i64 i))]) l.length ?_ ?_))
 ·exact⟨0,by omega,by omega,rfl,rfl⟩
 ·rintro n e1 H1 ⟨i,hn1,hi,rfl,rfl⟩
  refine Qz ?_
  refine Qa ?_
  simp only[go_sem,Qw]
  simp only[LIM]at hl
  refine fun _=>?_
  refine Qe (Qc rfl ?_ ?_)
  ·intro hc
   have hlt:i<l.length:=by simpa using hc
   have hm:=Qai (List.getElem_mem hlt)
   have hse:=(l[i]'hlt).size_eq
   have hit:=Qa3v hlt
   have hil:=Qa83 l (i+1)
   refine Qf ?_
   simp only[go_sem]
   refine Qe (Qd (Qwc ?_))
   simp only[go_sem,hlt,Qw,Qar _ _ hlt,St.cells_eq]
   refine ih (Qg l[i].body) (by omega) l[i].body (Nat.le_refl _) (by omega) ?_
   simp only[go_sem,Q43,hlt,Qw,Qar _ _ hlt,St.cells_eq]
   refine⟨Qo (by omega) (by omega),?_⟩
   refine ih (Qg l[i].els) (by omega) l[i].els (Nat.le_refl _) (by omega) ?_
   simp only[go_sem,Q42]
   refine⟨Qo (by omega) (by omega),?_⟩
   refine Qn ?_
   simp only[go_sem,X.next]
   refine⟨Qo (by omega) (by omega),l.length-(i+1),by omega,i+1,rfl,by omega,?_⟩
   rw[hit]
   simp;omega
  ·intro hc
   have hge:l.length≤i:=by simpa using hc
   refine Qu ?_
   simp only[go_sem,X.next]
   refine Qa ?_
   simp only[go_sem]
   refine Qh ?_
   simp only[go_sem,Q0,Q6,Qgm,List.mem_singleton,forall_eq,RS.op]
   rw[List.take_of_length_le hge,←htot]
   exact hK
def stA (op:Int)(k:Nat)(d:Int):Bool:=decide (1≤d)&&decide (1≤op∧op≤8)&&decide (k=argN op)
def stB (op:Int)(name:List UInt8):Bool:=(decide (op=1∨op=2) == Qc8 name)&&(decide (op=1∨op=2) || decide (name=[]))
def stD (op:Int)(nb ne:Nat):Bool:=(decide (op=5) || decide (ne=0))&&(decide (op=5∨op=6) || decide (nb=0))
theorem Qbbf (x:St)(d:Int):x.form d=(stA x.op x.args.length d&&(stB x.op x.name&&(x.args.all Ex.valid&&((!decide (x.op=8) || decide ((x.args.map Ex.op).getD 0 0=13))&&(stD x.op x.body.length x.els.length&&(Qa6 x.body (d-1)&&Qa6 x.els (d-1))))))):=by
 rw[x.form_eq,Qaie,stA,stB,stD]
 simp only[Bool.and_assoc]
def Qa8j (n:Nat):Prop:=∀(x:St) (deep:Int) (H:Heap) (K:V→Heap→Prop),x.size≤n→x.size≤2^40→deep≤100→K (.c (.bool (x.form deep))) H→Qj prog Q9p [.ag x.cells,.c (.int .i64 deep)] H K
def Qax4 (n:Nat):Prop:=∀(l:List St) (deep:Int) (fl:Bool) (H:Heap) (K:V→Heap→Prop),Qg l≤n→Qg l≤2^40→deep≤100→K (.c (.bool (Qa6 l deep))) H→Qj prog Qms [.c (.sl fl 5 (Ql l)),.c (.int .i64 deep)] H K
theorem Qa2a {n:Nat}(hS:Qa8j n):Qax4 n:=by
 intro l deep fl H K hn hb hd hK
 rw[Qy4]at hK
 refine Qb Qaj Qaz4 ?_
 have retf:∀(b:Bool) (e:Env),(l.all fun x=>x.form deep)=b→lk 4 e=.c (.bool b)→Q0 Qam8 K .ret e H:=by
  intro b e h0 h1
  simp only[go_sem,Q0,Q6,Qam8,List.mem_singleton,forall_eq,RS.op,h1]
  rw[←h0];exact hK
 refine Qa ?_
 simp only[go_sem]
 refine Qz ?_
 refine Qa ?_
 simp only[go_sem]
 refine Qe (Qd (Qt (fun n e1 H1=>∃(i:Nat),n=l.length-i∧i≤l.length∧H1=H∧((l.take i).all fun x=>x.form deep)=true∧e1=[(0,.c (.sl fl 5 (Ql l))),(1,.c (.int .i64 deep)),(5,.c (.int .i64 i))]) l.length ?_ ?_))
 ·exact⟨0,by omega,by omega,rfl,rfl,rfl⟩
 ·rintro n e1 H1 ⟨i,hn1,hi,rfl,hall,rfl⟩
  refine Qz ?_
  refine Qa ?_
  simp only[go_sem,Qw]
  intro hl
  simp only[LIM]at hl
  refine Qe (Qc rfl ?_ ?_)
  ·intro hc
   have hlt:i<l.length:=by simpa using hc
   have hm:=Qai (List.getElem_mem hlt)
   refine Qf ?_
   simp only[go_sem]
   refine Qe (Qd ?_)
   refine Qa ?_
   simp only[go_sem,hlt,Qw,Qar _ _ hlt,St.take5,St.allOw,St.cells_len]
   refine hS _ deep _ _ (by omega) (by omega) hd ?_
   simp only[go_sem,Q45]
   refine Qc rfl ?_ ?_
   ·intro hc2
    refine Qa ?_
    simp only[go_sem]
    refine Qh ?_
    simp only[go_sem,X.next]
    exact retf false _ (Ql1 hlt (Qzs hc2)) (by simp[lk])
   ·intro hc2
    refine Qf ?_
    simp only[go_sem]
    refine Qn ?_
    simp only[go_sem,X.next]
    exact⟨Qo (by omega) (by omega),l.length-(i+1),by omega,i+1,rfl,by omega,by rw[Qg5 hlt,hall,Qr2 hc2];rfl,rfl⟩
  ·intro hc
   have hge:l.length≤i:=by simpa using hc
   rw[List.take_of_length_le hge]at hall
   refine Qu ?_
   simp only[go_sem,X.next]
   refine Qa ?_
   simp only[go_sem]
   refine Qh ?_
   exact retf true _ hall (by simp[lk])
theorem Qa5d {n:Nat}(hS:∀m,m<n→Qax4 m):Qa8j n:=by
 intro x deep H K hn hb hd hK
 rw[Qbbf]at hK
 have hsz:=x.size_eq
 refine Qb Qaj Qa4h ?_
 have retf:∀(b:Bool) (e:Env),(stA x.op x.args.length deep&&(stB x.op x.name&&(x.args.all Ex.valid&&((!decide (x.op=8) || decide ((x.args.map Ex.op).getD 0 0=13))&&(stD x.op x.body.length x.els.length&&(Qa6 x.body (deep-1)&&Qa6 x.els (deep-1)))))))=b→
   lk 4 e=.c (.bool b)→Q0 Qam8 K .ret e H:=by
  intro b e h0 h1
  simp only[go_sem,Q0,Q6,Qam8,List.mem_singleton,forall_eq,RS.op,h1]
  rw[←h0];exact hK
 refine Qa ?_
 simp only[go_sem,x.cells_eq]
 refine Qz ?_
 refine Qeo ?_
 simp only[go_sem]
 have rest:∀b:Bool,b = !stA x.op x.args.length deep→Qah prog (s_l3Stmt_2.seq Qabp) (Q0 Qam8 K)
   [(1,.c (.int .i64 deep)),(2,.c (.pp [.int .i64 x.op,.str x.name,.sl false 4 (Q2 x.args),.sl false 5 (Ql x.body),.sl false 5 (Ql x.els)])),(23,.c (.bool b))] H:=by
  intro b hb
  refine Qe (Qc rfl ?_ ?_)
  ·intro hc
   have hA:stA x.op x.args.length deep=false:=by rw[hc]at hb;simpa using hb.symm
   refine Qa ?_
   simp only[go_sem]
   refine Qh ?_
   simp only[go_sem]
   exact retf false _ (by rw[hA];rfl) (by simp[lk])
  intro hc
  have hA:stA x.op x.args.length deep=true:=by rw[hc]at hb;simpa using hb.symm
  rw[hA,Bool.true_and]at retf
  simp only[stA,Bool.and_eq_true,decide_eq_true_eq]at hA
  obtain⟨⟨hdp,_⟩,hal⟩:=hA
  have hap:0<x.args.length:=by rw[hal,argN];split <;> omega
  refine Qf ?_
  simp only[go_sem]
  refine Qa ?_
  simp only[go_sem]
  refine Qz ?_
  refine Qa ?_
  simp only[go_sem]
  refine Qy7 ?_
  simp only[go_sem,Qabq]
  refine Qe (Qc rfl ?_ ?_)
  ·intro hc
   have hB:stB x.op x.name=false:=by
    simp only[Qhz,Qd8]at hc
    simp only[stB]
    revert hc
    by_cases h1:x.op=1 <;> by_cases h2:x.op=2 <;> cases Qc8 x.name <;> by_cases h4:x.name=[] <;> simp[h1,h2,h4]
   refine Qa ?_
   simp only[go_sem]
   refine Qh ?_
   simp only[go_sem]
   exact retf false _ (by rw[hB];rfl) (by simp[lk])
  intro hc
  have hB:stB x.op x.name=true:=by
   simp only[Qhz,Qd8]at hc
   simp only[stB]
   revert hc
   by_cases h1:x.op=1 <;> by_cases h2:x.op=2 <;> cases Qc8 x.name <;> by_cases h4:x.name=[] <;> simp[h1,h2,h4]
  rw[hB,Bool.true_and]at retf
  refine Qf ?_
  simp only[go_sem]
  refine Qz ?_
  refine Qa ?_
  simp only[go_sem]
  refine Qe (Qd (Qt (fun n e1 H1=>∃(i:Nat),n=x.args.length-i∧i≤x.args.length∧H1=H∧(x.args.take i).all Ex.valid=true∧e1=[(1,.c (.int .i64 deep)),(2,.c (.pp [.int .i64 x.op,.str x.name,.sl false 4 (Q2 x.args),.sl false 5 (Ql x.body),.sl false 5 (Ql x.els)])),(6,.c (.int .i64 i))]) x.args.length ?_ ?_))
  ·exact⟨0,by omega,by omega,rfl,rfl,rfl⟩
  ·rintro n e1 H1 ⟨i,hn1,hi,rfl,hall,rfl⟩
   refine Qz ?_
   refine Qa ?_
   simp only[go_sem,Qi]
   intro hl
   simp only[LIM]at hl
   refine Qe (Qc rfl ?_ ?_)
   ·intro hc
    have hlt:i<x.args.length:=by simpa using hc
    have hm:=Qad (List.getElem_mem hlt)
    refine Qf ?_
    simp only[go_sem]
    refine Qe (Qd ?_)
    refine Qa ?_
    simp only[go_sem,hlt,Qi,Qag _ _ hlt,Ex.take4,Ex.allOw,Ex.cells_len]
    refine Qalu (by omega) ?_
    simp only[go_sem,Qabr]
    refine Qc rfl ?_ ?_
    ·intro hc2
     refine Qa ?_
     simp only[go_sem]
     refine Qh ?_
     simp only[go_sem,X.next]
     exact retf false _ (by rw[Ql1 hlt (Qzs hc2)];rfl) (by simp[lk])
    ·intro hc2
     refine Qf ?_
     simp only[go_sem]
     refine Qn ?_
     simp only[go_sem,X.next]
     exact⟨Qo (by omega) (by omega),x.args.length-(i+1),by omega,i+1,rfl,by omega,by rw[Qg5 hlt,hall,Qr2 hc2];rfl,rfl⟩
   ·intro hc
    have hge:x.args.length≤i:=by simpa using hc
    rw[List.take_of_length_le hge]at hall
    rw[hall,Bool.true_and]at retf
    have hg0:(x.args.map Ex.op).getD 0 0=x.args[0].op:=by simp[List.getD_eq_getElem?_getD,hap]
    refine Qu ?_
    simp only[go_sem,X.next]
    refine Qz ?_
    refine Qa ?_
    simp only[go_sem,hap,Qi,Qag _ _ hap,Ex.cells_eq]
    refine⟨fun _=>Int.le_refl _,?_⟩
    refine Qe (Qc rfl ?_ ?_)
    ·intro hc
     have hC:(!decide (x.op=8) || decide ((x.args.map Ex.op).getD 0 0=13))=false:=by
      rw[hg0]
      simp only[Qd8]at hc
      revert hc
      by_cases h1:x.op=8 <;> by_cases h2:x.args[0].op=13 <;> simp[h1,h2]
     refine Qa ?_
     simp only[go_sem]
     refine Qh ?_
     simp only[go_sem]
     exact retf false _ (by rw[hC];rfl) (by simp[lk])
    intro hc
    have hC:(!decide (x.op=8) || decide ((x.args.map Ex.op).getD 0 0=13))=true:=by
     rw[hg0]
     simp only[Qd8]at hc
     revert hc
     by_cases h1:x.op=8 <;> by_cases h2:x.args[0].op=13 <;> simp[h1,h2]
    rw[hC,Bool.true_and]at retf
    refine Qf ?_
    simp only[go_sem]
    refine Qz ?_
    refine Qa ?_
    simp only[go_sem,Qw]
    intros
    have eb:decide ((0:Int)<(x.body.length:Int)) = !decide (x.body.length=0):=by
     rw[Bool.eq_iff_iff];simp only[decide_eq_true_eq,Bool.not_eq_true',decide_eq_false_iff_not];omega
    have ee:decide ((0:Int)<(x.els.length:Int)) = !decide (x.els.length=0):=by
     rw[Bool.eq_iff_iff];simp only[decide_eq_true_eq,Bool.not_eq_true',decide_eq_false_iff_not];omega
    refine Qe (Qc rfl ?_ ?_)
    ·intro hc
     have hD:stD x.op x.body.length x.els.length=false:=by
      simp only[Qd8,Qhz,eb,ee]at hc
      simp only[stD]
      revert hc
      by_cases h1:x.op=5 <;> by_cases h2:x.op=6 <;> cases decide (x.body.length=0) <;> cases decide (x.els.length=0) <;> simp[h1,h2]
     refine Qa ?_
     simp only[go_sem]
     refine Qh ?_
     simp only[go_sem]
     exact retf false _ (by rw[hD];rfl) (by simp[lk])
    intro hc
    have hD:stD x.op x.body.length x.els.length=true:=by
     simp only[Qd8,Qhz,eb,ee]at hc
     simp only[stD]
     revert hc
     by_cases h1:x.op=5 <;> by_cases h2:x.op=6 <;> cases decide (x.body.length=0) <;> cases decide (x.els.length=0) <;> simp[h1,h2]
    rw[hD,Bool.true_and]at retf
    refine Qf ?_
    simp only[go_sem]
    refine Qa ?_
    simp only[go_sem]
    refine⟨Qo (by omega) (by omega),?_⟩
    refine hS (Qg x.body) (by omega) _ _ _ _ _ (Nat.le_refl _) (by omega) (by omega) ?_
    simp only[go_sem,Q44]
    refine⟨fun _=>Qo (by omega) (by omega),?_⟩
    refine⟨fun hb1=>?_,fun hb1=>?_⟩
    ·refine hS (Qg x.els) (by omega) _ _ _ _ _ (Nat.le_refl _) (by omega) (by omega) ?_
     simp only[go_sem,Qs7,hb1]
     refine Qh ?_
     exact retf _ _ (by rw[hb1,Bool.true_and]) (by simp[lk])
    ·simp only[go_sem,Qs7,hb1]
     refine Qh ?_
     exact retf false _ (by rw[hb1];rfl) (by simp[lk])
 refine⟨fun hb1=>?_,fun hb1=>?_⟩
 ·replace hb1:=Qzs hb1
  have hdp:1≤deep:=by simp at hb1;omega
  have hd1:decide (1≤deep)=true:=decide_eq_true hdp
  refine Qami ?_
  simp only[go_sem,Qx2,hb1,Qi,cond_false]
  refine⟨fun hb2=>?_,fun hb2=>?_⟩
  ·refine Qa4a ?_
   simp only[go_sem,Qpe,Qi]
   refine rest _ ?_
   have hln:decide ((x.args.length:Int)=if x.op=4 then 2 else 1)=decide (x.args.length=argN x.op):=by
    rw[decide_eq_decide,argN];split <;> omega
   simp only[stA,hd1,hln,Qhz]
   cases decide (1≤x.op∧x.op≤8) <;> cases decide (x.args.length=argN x.op) <;> rfl
  ·replace hb2:=Qr2 hb2
   simp only[go_sem,Qpe,hb2,Qi]
   refine rest _ ?_
   have hop:decide (1≤x.op∧x.op≤8)=false:=by
    cases h:decide (1≤x.op∧x.op≤8)with
    |false=>rfl
    |true=>rw[h]at hb2;simp at hb2
   simp only[stA,hop,Bool.and_false,Bool.false_and,Bool.not_false]
 ·replace hb1:=Qr2 hb1
  simp only[go_sem,Qx2,Qpe,hb1,Qi,cond_true]
  refine rest _ ?_
  have hdp:decide (1≤deep)=false:=by
   rw[decide_eq_false_iff_not];simp at hb1;omega
  simp only[stA,hdp,Bool.false_and,Bool.not_false]
theorem Qa5e (n:Nat):Qax4 n:=by
 induction n using Nat.strongRecOn with
 |ind n ih=>exact Qa2a (Qa5d ih)
theorem Qa7j {f:Fn}(hf:Qg f.body≤2^40)(hK:K (.c (.bool f.form)) H):Qj prog Qaqm [.ag f.cells] H K:=by
 refine Qb Qaj Qa9b ?_
 have e0:f.form=(f.params.all Qc8&&(Qc8 f.name&&(decide (f.params.length≤3)&&Qa6 f.body 4))):=by simp only[Fn.form,Bool.and_assoc]
 rw[e0]at hK
 have retf:∀(b:Bool) (e:Env),(f.params.all Qc8&&(Qc8 f.name&&(decide (f.params.length≤3)&&Qa6 f.body 4)))=b→lk 2 e=.c (.bool b)→Q0 Qgm K .ret e H:=by
  intro b e h0 h1
  simp only[go_sem,Q0,Q6,Qgm,List.mem_singleton,forall_eq,RS.op,h1]
  rw[←h0];exact hK
 refine Qa ?_
 simp only[go_sem,Fn.cells]
 refine Qz ?_
 refine Qa ?_
 simp only[go_sem]
 refine Qe (Qd (Qt (fun n e1 H1=>∃(i:Nat),n=f.params.length-i∧i≤f.params.length∧H1=H∧(f.params.take i).all Qc8=true∧e1=[(1,.c (.pp [.str f.name,.sl false 1 (Qy f.params),.sl false 5 (Ql f.body)])),(3,.c (.int .i64 i))]) f.params.length ?_ ?_))
 ·exact⟨0,by omega,by omega,rfl,rfl,rfl⟩
 ·rintro n e1 H1 ⟨i,hn1,hi,rfl,hall,rfl⟩
  refine Qz ?_
  refine Qa ?_
  simp only[go_sem,Qr]
  intro hl
  simp only[LIM]at hl
  refine Qe (Qc rfl ?_ ?_)
  ·intro hc
   have hlt:i<f.params.length:=by simpa using hc
   have hg:f.params.getD i []=f.params[i]:=by simp[List.getD_eq_getElem?_getD,hlt]
   refine Qf ?_
   simp only[go_sem]
   refine Qe (Qd ?_)
   refine Qa ?_
   simp only[go_sem,hlt,Qr,Qck _ _ hlt,hg]
   refine Qy7 ?_
   simp only[go_sem,Qan4]
   refine Qc rfl ?_ ?_
   ·intro hc2
    refine Qa ?_
    simp only[go_sem]
    refine Qh ?_
    simp only[go_sem,X.next]
    exact retf false _ (by rw[Ql1 hlt (Qzs hc2)];rfl) (by simp[lk])
   ·intro hc2
    refine Qf ?_
    simp only[go_sem]
    refine Qn ?_
    simp only[go_sem,X.next]
    exact⟨Qo (by omega) (by omega),f.params.length-(i+1),by omega,i+1,rfl,by omega,by rw[Qg5 hlt,hall,Qr2 hc2];rfl,rfl⟩
  ·intro hc
   have hge:f.params.length≤i:=by simpa using hc
   rw[List.take_of_length_le hge]at hall
   rw[hall,Bool.true_and]at retf
   refine Qu ?_
   simp only[go_sem,X.next]
   refine Qa ?_
   simp only[go_sem]
   refine Qy7 ?_
   simp only[go_sem,Qan5,Qr]
   intros
   have e3:decide ((f.params.length:Int)≤3)=decide (f.params.length≤3):=by rw[decide_eq_decide];omega
   refine⟨fun hb1=>?_,fun hb1=>?_⟩
   ·refine Qa5e _ _ _ _ _ _ (Nat.le_refl _) hf (by omega) ?_
    simp only[go_sem,Qabo,hb1]
    rw[Qd8,e3,Bool.and_eq_true]at hb1
    refine Qh ?_
    exact retf _ _ (by rw[hb1.1,hb1.2,Bool.true_and,Bool.true_and]) (by simp[lk])
   ·simp only[go_sem,Qabo,hb1]
    rw[Qd8,e3]at hb1
    refine Qh ?_
    exact retf false _ (by rw[←Bool.and_assoc,hb1];rfl) (by simp[lk])
theorem Qaul (l:List Fn):Qd3 l≤Q1 l:=by
 induction l with
 |nil=>simp[Qd3]
 |cons f r ih=>have:=Quh f.body;simp only[Qd3,Q1];omega
theorem Qa39 {l:List Fn}{fl:Bool}(hf:Q1 l≤2^40)(hK:K (.c (.int .i64 (Qd3 l))) H):Qj prog Qait [.ag [.sl fl 3 (Qm l)]] H K:=by
 refine Qb Qaj Qa7r ?_
 refine Qa ?_
 simp only[go_sem]
 refine Qa ?_
 simp only[go_sem]
 refine Qz ?_
 refine Qa ?_
 simp only[go_sem]
 refine Qe (Qd (Qt (fun n e1 H1=>∃(i:Nat),n=l.length-i∧i≤l.length∧H1=H∧e1=[(1,.c (.pp [.sl fl 3 (Qm l)])),(3,.c (.int .i64 (Qd3 (l.take i):Nat))),(4,.c (.int .i64 i))]) l.length ?_ ?_))
 ·exact⟨0,by omega,by omega,rfl,rfl⟩
 ·rintro n e1 H1 ⟨i,hn1,hi,rfl,rfl⟩
  refine Qz ?_
  refine Qa ?_
  simp only[go_sem,Qp]
  intro hl
  simp only[LIM]at hl
  refine Qe (Qc rfl ?_ ?_)
  ·intro hc
   have hlt:i<l.length:=by simpa using hc
   have hm:=Qcd (List.getElem_mem hlt)
   have htk:=Qahh hlt
   have htl:=Qpy l (i+1)
   have hct:=Qaul (l.take (i+1))
   refine Qf ?_
   simp only[go_sem]
   refine Qe (Qd (Qn ?_))
   simp only[go_sem,hlt,Qp,Qam _ _ hlt,Fn.cells]
   refine Qav9 _ _ (Nat.le_refl _) (by omega) ?_
   simp only[go_sem,Qah7]
   refine⟨Qo (by omega) (by omega),?_⟩
   refine Qn ?_
   simp only[go_sem,X.next]
   refine⟨Qo (by omega) (by omega),l.length-(i+1),by omega,i+1,rfl,by omega,?_⟩
   rw[htk];simp
  ·intro hc
   have hge:l.length≤i:=by simpa using hc
   refine Qu ?_
   simp only[go_sem,X.next]
   refine Qa ?_
   simp only[go_sem]
   refine Qh ?_
   simp only[go_sem,Q0,Q6,Qgm,List.mem_singleton,forall_eq,RS.op]
   rw[List.take_of_length_le hge]
   exact hK
theorem Q86 {l:List Fn}{fl:Bool}(hf:Q1 l≤2^40)(hK:K (.c (.bool (Qmb l))) H):Qj prog Qfw [.ag [.sl fl 3 (Qm l)]] H K:=by
 refine Qb Qaj Q1u ?_
 have e0:Qmb l=(decide (1≤l.length∧l.length≤4)&&(l.all Fn.form&&decide (Qd3 l≤40))):=by simp only[Qmb,Bool.and_assoc]
 rw[e0]at hK
 have retf:∀(b:Bool) (e:Env),(decide (1≤l.length∧l.length≤4)&&(l.all Fn.form&&decide (Qd3 l≤40)))=b→lk 2 e=.c (.bool b)→Q0 Qgm K .ret e H:=by
  intro b e h0 h1
  simp only[go_sem,Q0,Q6,Qgm,List.mem_singleton,forall_eq,RS.op,h1]
  rw[←h0];exact hK
 refine Qa ?_
 simp only[go_sem]
 refine Qz ?_
 refine Qa ?_
 simp only[go_sem,Qp]
 intro hl
 simp only[LIM]at hl
 refine Qami ?_
 simp only[go_sem,Qis]
 have e1:decide ((1:Int)≤(l.length:Int)∧(l.length:Int)≤4)=decide (1≤l.length∧l.length≤4):=by rw[decide_eq_decide];omega
 refine Qe (Qc rfl ?_ ?_)
 ·intro hc
  have hA:=Qzs hc
  rw[e1]at hA
  refine Qa ?_
  simp only[go_sem]
  refine Qh ?_
  simp only[go_sem]
  exact retf false _ (by rw[hA];rfl) (by simp[lk])
 intro hc
 have hA:=Qr2 hc
 rw[e1]at hA
 rw[hA,Bool.true_and]at retf
 refine Qf ?_
 simp only[go_sem]
 refine Qz ?_
 refine Qa ?_
 simp only[go_sem]
 refine Qe (Qd (Qt (fun n e1 H1=>∃(i:Nat),n=l.length-i∧i≤l.length∧H1=H∧(l.take i).all Fn.form=true∧e1=[(1,.c (.pp [.sl fl 3 (Qm l)])),(3,.c (.int .i64 i))]) l.length ?_ ?_))
 ·exact⟨0,by omega,by omega,rfl,rfl,rfl⟩
 ·rintro n e1 H1 ⟨i,hn1,hi,rfl,hall,rfl⟩
  refine Qz ?_
  refine Qa ?_
  simp only[go_sem,Qp]
  refine fun _=>?_
  refine Qe (Qc rfl ?_ ?_)
  ·intro hc
   have hlt:i<l.length:=by simpa using hc
   have hm:=Qcd (List.getElem_mem hlt)
   refine Qf ?_
   simp only[go_sem]
   refine Qe (Qd ?_)
   refine Qa ?_
   simp only[go_sem,hlt,Qp,Qam _ _ hlt,Fn.take3,Fn.allOw,Fn.cells_len]
   refine Qa7j (by omega) ?_
   simp only[go_sem,Qit]
   refine Qc rfl ?_ ?_
   ·intro hc2
    refine Qa ?_
    simp only[go_sem]
    refine Qh ?_
    simp only[go_sem,X.next]
    exact retf false _ (by rw[Ql1 hlt (Qzs hc2)];rfl) (by simp[lk])
   ·intro hc2
    refine Qf ?_
    simp only[go_sem]
    refine Qn ?_
    simp only[go_sem,X.next]
    exact⟨Qo (by omega) (by omega),l.length-(i+1),by omega,i+1,rfl,by omega,by rw[Qg5 hlt,hall,Qr2 hc2];rfl,rfl⟩
  ·intro hc
   have hge:l.length≤i:=by simpa using hc
   rw[List.take_of_length_le hge]at hall
   rw[hall,Bool.true_and]at retf
   refine Qu ?_
   simp only[go_sem,X.next]
   refine Qa ?_
   simp only[go_sem]
   refine Qa39 hf ?_
   simp only[go_sem,Qiu]
   refine Qh ?_
   exact retf (decide ((Qd3 l:Int)≤40)) _ (by rw[decide_eq_decide];omega) (by simp[lk])
end Go.AE.Y

namespace Go.AE.Y
attribute [local go_sem] cond_true cond_false Bool.not_true Bool.not_false
open Go.Proofs.Tryz
variable {H:Heap}{K:V→Heap→Prop}
def levN (op:Int):Int:=if op=10 then 1 else if op=8∨op=9 then 2 else if op=3∨op=4 then 3 else if op=5∨op=6∨op=7 then 4 else 0
structure GK (H:Heap):Prop where
 keys:H Qfx=.gl Qfx (keysL.map C.str)
 sign:∃ks rows,H Qa1=.gl Qa1 [.cm true ks rows]∧∀op:Int,Qjt 0 (.int .i64 op) ((ks.zip rows).map fun e=>(e.1,V.ag e.2))∧
  ∃sg,(Qel (.int .i64 op) ((ks.zip rows).map fun e=>(e.1,V.ag e.2))).getD (.ag [.str [],.int .i64 0])=.ag [.str sg,.int .i64 (levN op)]
theorem GK.upd {H':Heap}{U:List (Nat×Obj)}(g:GK H)(hu:Upd H H' U)(h1:Qfx∉U.map Prod.fst)(h2:Qa1∉U.map Prod.fst):GK H':=by
 obtain⟨ks,rows,h3,h4⟩:=g.sign
 exact⟨(hu.2 _ (by rw[g.keys];nofun) h1).trans g.keys,ks,rows,(hu.2 _ (by rw[h3];nofun) h2).trans h3,h4⟩
theorem GK.upd0 {H':Heap}(g:GK H)(hu:Upd H H' []):GK H':=g.upd hu (by simp) (by simp)
theorem GK.kn {H':Heap}{L:List (Nat×Obj)}(g:GK H)(kn:Kn H H' [] L):GK H':=by
 obtain⟨ks,rows,h3,h4⟩:=g.sign
 exact⟨(kn.chg _ (by rw[g.keys];nofun) (by simp)).trans g.keys,ks,rows,(kn.chg _ (by rw[h3];nofun) (by simp)).trans h3,h4⟩
theorem Qax2 {r:Int}(hK:K (.c (.bool (decide (r<97) || decide (122<r)))) H):Qj prog Qbv [.c (.int .i32 r)] H K:=by
 refine Qb Qaj Qadh ?_
 refine Qa ?_
 simp only[go_sem]
 refine Qa ?_
 simp only[go_sem]
 refine Qh ?_
 simp only[go_sem,Q0,Q6,Qgm,List.mem_singleton,forall_eq,RS.op]
 have:(bif decide (r<97)then true else decide (122<r))=(decide (r<97) || decide (122<r)):=by cases decide (r<97) <;> rfl
 first|exact hK|(rw[this];exact hK)|(simpa[this]using hK)
theorem Qamh {s:List UInt8}(hK:∀(r:Int) (H':Heap),Upd H H' []→decide (r<0)=s.all Qce→K (.c (.int .i64 r)) H') :
  Qj prog Qeb [.c (.str s),.c (.fn Qbv []),.c (.bool true)] H K:=by
 refine Q8 ?_
 refine Qb Qaj Qxh ?_
 have retf:∀(r:Int) (e:Env) (H':Heap) (L:List (Nat×Obj)),decide (r<0)=s.all Qce→Kn H H' [] L→lk 6 e=.c (.int .i64 r)→Q0 Qaae (unK H K) .ret e H':=by
  intro r e H' L hr kn h3
  simp only[go_sem,Q0,Q6,Qaae,List.mem_singleton,forall_eq,RS.op,h3]
  exact⟨_,.c _ _ (Qk rfl),hK _ _ kn.fin hr⟩
 refine Qa ?_
 simp only[go_sem]
 refine Qz ?_
 refine Qa ?_
 simp only[go_sem]
 intro i hi H1 h1
 have kn:=(Kn.start0 H).al hi h1
 refine Qe (Qd (Qt (fun m e1 H1=>∃(q:Nat),m=s.length-q∧Kn H H1 [] [(i,.sit s q)]∧(∀x∈s.take q,Qce x=true)∧
  lk 1 e1=.c (.fn Qbv [])∧lk 2 e1=.c (.bool true)∧lk 10 e1=.c (.itr i)) s.length ?_ ?_))
 ·exact⟨0,by omega,kn,by simp,rfl,rfl,rfl⟩
 ·clear kn
  rintro m e1 H2 ⟨q,hm,kn,hall,l1,l2,l10⟩
  have hit:=kn.l 0 rfl
  refine Qa ?_
  simp only[go_sem,l1,l2,l10,hit]
  refine⟨fun hle=>?_,fun c wd hlt hw h1 h2 H3 h3=>?_⟩
  ·simp only[go_sem,Qcr,l1,l2,l10,List.getD_cons_zero]
   refine Qe (Qc rfl (fun h=>by cases h) (fun _=>?_))
   refine Qu ?_
   simp only[go_sem,AE.X.next]
   refine Qa ?_
   simp only[go_sem]
   refine Qh ?_
   rw[List.take_of_length_le hle]at hall
   exact retf (-1) _ _ _ (by rw[List.all_eq_true.2 hall];rfl) kn (by simp[lk])
  ·have kn:=kn.stL 0 rfl h3
   have hbe:s.getD q 0=s[q]:=by simp[List.getD_eq_getElem?_getD,hlt]
   rw[hbe]at h1 h2
   simp only[go_sem,Qcr,l1,l2,l10,List.getD_cons_zero,List.getD_cons_succ]
   refine Qe (Qc rfl (fun _=>?_) (fun h=>by cases h))
   refine Qf ?_
   try simp only[go_sem]
   refine Qd ?_
   refine Qa ?_
   simp only[go_sem,List.getD_cons_zero,List.getD_cons_succ]
   refine Qa ?_
   simp only[go_sem]
   refine Qax2 ?_
   have hs:(decide (c<97) || decide (122<c)) = !Qce s[q]:=by
    rw[Bool.eq_iff_iff,Qce]
    simp only[Bool.or_eq_true,decide_eq_true_eq,Bool.not_eq_true',decide_eq_false_iff_not]
    rcases Nat.lt_or_ge s[q].toNat 128 with h|h
    ·have:=(h1 h).1
     omega
    ·have:=h2 h
     omega
   rw[hs]
   simp only[go_sem,Qgg]
   refine Qc rfl ?_ ?_
   ·intro hc
    have hb:Qce s[q]=false:=by simpa using hc
    refine Qa ?_
    simp only[go_sem]
    refine Qh ?_
    simp only[go_sem,AE.X.next]
    refine retf (q:Int) _ _ _ ?_ kn (by simp[lk])
    rw[decide_eq_false (by omega)]
    symm
    rw[List.all_eq_false]
    exact⟨_,List.getElem_mem hlt,by rw[hb];simp⟩
   ·intro hc
    have hb:Qce s[q]=true:=by simpa using hc
    refine Qf ?_
    try simp only[go_sem]
    have hw1:wd=1:=by
     rcases Nat.lt_or_ge s[q].toNat 128 with h|h
     ·exact (h1 h).2
     ·exfalso
      rw[Qce,decide_eq_true_eq]at hb
      omega
    subst hw1
    show ∃m,_
    refine⟨s.length-(q+1),by omega,q+1,rfl,kn,fun x hx=>?_,rfl,rfl,rfl⟩
    rw[List.take_succ_eq_append_getElem hlt]at hx
    rcases List.mem_append.1 hx with h|h
    ·exact hall x h
    ·rw[List.mem_singleton]at h;rw[h];exact hb
theorem Qalv {s:List UInt8}(hK:∀(r:Int) (H':Heap),Upd H H' []→decide (r<0)=s.all Qce→K (.c (.int .i64 r)) H') :
  Qj prog Qea [.c (.str s),.c (.fn Qbv [])] H K:=by
 refine Qb Qaj Qxg ?_
 refine Qa ?_
 simp only[go_sem]
 refine Qa ?_
 simp only[go_sem]
 refine Qamh fun r H' hu hr=>?_
 simp only[go_sem,Qgf]
 refine Qh ?_
 simp only[go_sem,Q0,Q6,Qam8,List.mem_singleton,forall_eq,RS.op]
 exact hK _ _ hu hr
theorem Qavm {f:Bool}{ss:List (List UInt8)}{v:List UInt8}(hK:∀r:Int,decide (0≤r)=ss.contains v→K (.c (.int .i64 r)) H) :
  Qj prog Qfs [.c (.sl f 1 (Qy ss)),.c (.str v)] H K:=by
 refine Qb Qaj Q1r ?_
 refine Qa ?_
 simp only[go_sem]
 refine Qz ?_
 refine Qa ?_
 simp only[go_sem,Qr]
 intro hl
 simp only[LIM]at hl
 refine Qe (Qd (Qt (fun m e1 H1=>∃(i:Nat),m=ss.length-i∧i≤ss.length∧H1=H∧v∉ss.take i∧e1=[(0,.c (.sl f 1 (Qy ss))),(1,.c (.str v)),(7,.c (.int .i64 ss.length)),(8,.c (.int .i64 i))]) ss.length ?_ ?_))
 ·exact⟨0,by omega,by omega,rfl,by simp,rfl⟩
 ·rintro m e1 H1 ⟨i,hm,hi,rfl,hno,rfl⟩
  refine Qa ?_
  simp only[go_sem]
  refine Qe (Qc rfl ?_ ?_)
  ·intro hc
   have hlt:i<ss.length:=by simpa using hc
   have hgd:ss.getD i []=ss[i]:=by simp[List.getD_eq_getElem?_getD,hlt]
   refine Qf ?_
   simp only[go_sem]
   refine Qe (Qd ?_)
   refine Qa ?_
   simp only[go_sem]
   refine Qa ?_
   simp only[go_sem,hlt,Qr,Qck _ _ hlt]
   refine Qc rfl ?_ ?_
   ·intro hc2
    have hv:v=ss[i]:=by first|simpa using hc2|(rw[←hgd];simpa using hc2)
    refine Qa ?_
    simp only[go_sem]
    refine Qh ?_
    simp only[go_sem,AE.X.next,Q0,Q6,Qam8,List.mem_singleton,forall_eq,RS.op]
    refine hK _ ?_
    have:v∈ss:=by rw[hv];exact List.getElem_mem hlt
    rw[List.contains_iff_mem.2 this];simp
   ·intro hc2
    have hv:¬v=ss[i]:=by first|simpa using hc2|(rw[←hgd];simpa using hc2)
    refine Qf ?_
    simp only[go_sem]
    refine Qn ?_
    simp only[go_sem,AE.X.next]
    refine⟨Qo (by omega) (by omega),ss.length-(i+1),by omega,i+1,rfl,by omega,?_,rfl⟩
    rw[List.take_succ_eq_append_getElem hlt]
    simp only[List.mem_append,List.mem_singleton,not_or]
    exact⟨hno,hv⟩
  ·intro hc
   have hge:ss.length≤i:=by simpa using hc
   rw[List.take_of_length_le hge]at hno
   refine Qu ?_
   simp only[go_sem,AE.X.next]
   refine Qa ?_
   simp only[go_sem]
   refine Qh ?_
   simp only[go_sem,Q0,Q6,Qam8,List.mem_singleton,forall_eq,RS.op]
   refine hK _ ?_
   have:ss.contains v=false:=by
    cases hc:ss.contains v with
    |false=>rfl
    |true=>exact absurd (List.contains_iff_mem.1 hc) hno
   rw[this];rfl
theorem Qaik {f:Bool}{ss:List (List UInt8)}{v:List UInt8}(hK:K (.c (.bool (ss.contains v))) H) :
  Qj prog Qdi [.c (.sl f 1 (Qy ss)),.c (.str v)] H K:=by
 refine Qb Qaj Qu2 ?_
 refine Qa ?_
 simp only[go_sem]
 refine Qa ?_
 simp only[go_sem]
 refine Qavm fun r hr=>?_
 simp only[go_sem,Qga]
 refine Qh ?_
 simp only[go_sem,Q0,Q6,Qam8,List.mem_singleton,forall_eq,RS.op]
 rw[hr];exact hK
theorem Quw {n lo hi:Int}(hK:K (.c (.bool (decide (lo≤n)&&decide (n≤hi)))) H):Qj prog Qe5 [.c (.int .i64 n),.c (.int .i64 lo),.c (.int .i64 hi)] H K:=by
 refine Qb Qaj Qaq3 ?_
 refine Qa ?_
 simp only[go_sem]
 refine Qa ?_
 simp only[go_sem]
 refine Qh ?_
 simp only[go_sem,Q0,Q6,Qaae,List.mem_singleton,forall_eq,RS.op]
 have:(bif decide (lo≤n)then decide (n≤hi)else false)=(decide (lo≤n)&&decide (n≤hi)):=by cases decide (lo≤n) <;> rfl
 first|exact hK|(rw[this];exact hK)|(simpa[this]using hK)
theorem Qmz {s:List UInt8}(g:GK H)(hK:∀H',Upd H H' []→K (.c (.bool (Qc8 s))) H'):Qj prog Qdb [.c (.str s)] H K:=by
 refine Q8 ?_
 refine Qb Qaj Qaq0 ?_
 have retf:∀(b:Bool) (e:Env) (H':Heap) (L:List (Nat×Obj)),b=Qc8 s→Kn H H' [] L→lk 2 e=.c (.bool b)→Q0 Qgm (unK H K) .ret e H':=by
  rintro b e H' L rfl kn h3
  simp only[go_sem,Q0,Q6,Qgm,List.mem_singleton,forall_eq,RS.op,h3]
  exact⟨_,.c _ _ (Qk rfl),hK _ kn.fin⟩
 have kn:=Kn.start0 H
 refine Qa ?_
 simp only[go_sem]
 refine Qa ?_
 simp only[go_sem]
 try intro _
 refine Quw ?_
 by_cases hl:1≤s.length∧s.length≤4
 ·have hd:(decide ((1:Int)≤(s.length:Int))&&decide ((s.length:Int)≤4))=true:=by simp;omega
  simp only[go_sem,Qmj,hd]
  refine Qalv fun r H1 hu hr=>?_
  have kn:=kn.call0 hu
  have g1:=g.upd0 hu
  cases hsm:s.all Qce with
  |false=>
   rw[hsm]at hr
   simp only[go_sem,Qhb,Qha,hr]
   refine Qh ?_
   exact retf false _ _ _ (by rw[Qc8,hsm];simp) kn (by simp[lk])
  |true=>
   rw[hsm]at hr
   have hk:=g1.keys
   simp only[go_sem,Qhb,hr,hk]
   refine⟨⟨by decide,by simp only[LIM];omega⟩,?_⟩
   have e:List.map (fun c=>[c]) (List.take 9 (List.map C.str keysL))=Qy keysL:=rfl
   rw[e]
   refine Qaik ?_
   simp only[go_sem,Qha]
   refine Qh ?_
   exact retf _ _ _ _ (by rw[Qc8,hsm,decide_eq_true hl];simp) kn rfl
 ·have hd:(decide ((1:Int)≤(s.length:Int))&&decide ((s.length:Int)≤4))=false:=by
   rw[Bool.and_eq_false_iff,decide_eq_false_iff_not,decide_eq_false_iff_not];omega
  simp only[go_sem,Qmj,Qhb,Qha,hd]
  refine Qh ?_
  exact retf false _ _ _ (by rw[Qc8,decide_eq_false hl];simp) kn (by simp[lk])
end Go.AE.Y

namespace Go.AE.Y
attribute [local go_sem] cond_true cond_false Bool.not_true Bool.not_false
open Go.Proofs.Tryz
variable {H:Heap}{K:V→Heap→Prop}
def levO (op:Int):Int:=if 0<levN op then levN op else if op=11∨op=12 then 5 else 6
theorem Qazv {op:Int}(g:GK H)(hK:K (.c (.int .i64 (levO op))) H):Qj prog Qog [.c (.int .i64 op)] H K:=by
 obtain⟨ks,rows,hs,hl⟩:=g.sign
 obtain⟨ho,sg,hf⟩:=hl op
 have ret:∀(n:Int) (e:Env),n=levO op→lk 2 e=.c (.int .i64 n)→Q0 Qgm K .ret e H:=by
  rintro n e rfl h3
  simp only[go_sem,Q0,Q6,Qgm,List.mem_singleton,forall_eq,RS.op,h3]
  exact hK
 refine Qb Qaj Qamq ?_
 refine Qa ?_
 simp only[go_sem]
 refine Qe (Qd ?_)
 refine Qa ?_
 simp only[go_sem,hs,Q4,Qr3,hf,eq_true ho,List.drop_succ_cons,List.drop_zero]
 refine Qc rfl ?_ ?_
 ·intro hc
  have h0:0<levN op:=of_decide_eq_true hc
  refine Qa ?_
  simp only[go_sem,hs,Q4,Qr3,hf,eq_true ho,List.drop_succ_cons,List.drop_zero]
  refine Qh ?_
  simp only[go_sem,AE.X.next]
  exact ret _ _ (by rw[levO,if_pos h0]) (by simp[lk])
 ·intro hc
  have h0:¬0<levN op:=of_decide_eq_false hc
  refine Qa ?_
  simp only[go_sem,Qhz]
  refine Qc rfl ?_ ?_
  ·intro hc2
   have h1:op=11∨op=12:=by simpa using hc2
   refine Qa ?_
   simp only[go_sem]
   refine Qh ?_
   simp only[go_sem,AE.X.next]
   exact ret _ _ (by rw[levO,if_neg h0,if_pos h1]) (by simp[lk])
  ·intro hc2
   have h1:¬(op=11∨op=12):=by simpa using hc2
   refine Qf ?_
   simp only[go_sem,AE.X.next]
   refine Qa ?_
   simp only[go_sem]
   refine Qh ?_
   exact ret _ _ (by rw[levO,if_neg h0,if_neg h1]) (by simp[lk])
theorem Qa87 {op:Int}:levO op<6↔3≤op∧op≤12:=by
 by_cases h:3≤op∧op≤12
 ·simp only[h,and_self,iff_true]
  rw[levO,levN]
  obtain⟨h1,h2⟩:=h
  rcases (by omega:op=3∨op=4∨op=5∨op=6∨op=7∨op=8∨op=9∨op=10∨op=11∨op=12)with rfl|rfl|rfl|rfl|rfl|rfl|rfl|rfl|rfl|rfl <;> decide
 ·simp only[h,iff_false]
  have h0:levN op=0:=by rw[levN,if_neg (by omega),if_neg (by omega),if_neg (by omega),if_neg (by omega)]
  rw[levO,h0,if_neg (by omega),if_neg (by omega)]
  omega
theorem lev_pos {op:Int}:0<levN op↔3≤op∧op≤10:=by
 by_cases h:3≤op∧op≤10
 ·simp only[h,and_self,iff_true]
  obtain⟨h1,h2⟩:=h
  rcases (by omega:op=3∨op=4∨op=5∨op=6∨op=7∨op=8∨op=9∨op=10)with rfl|rfl|rfl|rfl|rfl|rfl|rfl|rfl <;> decide
 ·simp only[h,iff_false]
  rw[levN,if_neg (by omega),if_neg (by omega),if_neg (by omega),if_neg (by omega)]
  omega
def hd1 (op n:Int)(name:List UInt8):Bool:=decide (1≤op∧op≤13)&&(!decide (op=1) || (decide (0≤n∧n≤255)&&decide (name=[])))&&(!decide (op=2∨op=13) || (Qc8 name&&decide (n=0)))
theorem Qam1:Qc8 []=false:=by decide
theorem Qa68 (op n:Int)(name:List UInt8)(k:Nat):Qama op n name k =
  (hd1 op n name&&(!decide (levO op<6) || (decide (n=0)&&decide (name=[])))&&(decide (Qfa op≤(k:Int))&&decide ((k:Int)≤Qe9 op))):=by
 have hl:decide (levO op<6)=decide (3≤op∧op≤12):=by rw[decide_eq_decide];exact Qa87
 rw[Qama,hd1,hl,Bool.eq_iff_iff]
 simp only[Bool.and_eq_true,Bool.or_eq_true,decide_eq_true_eq,beq_iff_eq,Bool.not_eq_true',decide_eq_false_iff_not]
 by_cases hn:name=[]
 ·subst hn
  simp only[Qam1,decide_eq_false_iff_not]
  constructor
  ·rintro⟨⟨⟨⟨⟨h1,h2⟩,h3⟩,h4⟩,h5⟩,h6⟩
   refine⟨⟨⟨⟨h1,?_⟩,?_⟩,?_⟩,h2⟩
   ·exact .inr ⟨h5,trivial⟩
   ·exact .inl h3
   ·rcases h6 with h6|h6
    ·exact .inl (by omega)
    ·exact .inr ⟨h6,trivial⟩
  ·rintro⟨⟨⟨⟨h1,h2⟩,h3⟩,h4⟩,h5⟩
   have h3:¬(op=2∨op=13):=by
    rcases h3 with h3|⟨h3,_⟩
    ·exact h3
    ·cases h3
   refine⟨⟨⟨⟨⟨h1,h5⟩,h3⟩,.inr trivial⟩,?_⟩,?_⟩
   ·rcases h2 with h2|⟨h2,_⟩
    ·rcases h4 with h4|⟨h4,_⟩ <;> omega
    ·exact h2
   ·rcases h4 with h4|⟨h4,_⟩
    ·exact .inl (by omega)
    ·exact .inr h4
 ·simp only[hn,and_false,or_false]
  constructor
  ·rintro⟨⟨⟨⟨⟨h1,h2⟩,h3⟩,h4⟩,h5⟩,h6⟩
   rw[decide_eq_true h4]at h3
   refine⟨⟨⟨⟨h1,by omega⟩,?_⟩,by omega⟩,h2⟩
   exact .inr ⟨h3.symm,by omega⟩
  ·rintro⟨⟨⟨⟨h1,h2⟩,h3⟩,h4⟩,h5⟩
   have h6:op=2∨op=13:=by omega
   rcases h3 with h3|⟨h3,h7⟩
   ·exact absurd h6 h3
   ·exact⟨⟨⟨⟨⟨h1,h5⟩,by rw[h3];simp[h6]⟩,h6⟩,by omega⟩,.inr h7⟩
end Go.AE.Y

namespace Go.AE.Y
attribute [local go_sem] cond_true cond_false Bool.not_true Bool.not_false
open Go.Proofs.Tryz
variable {H H0:Heap}{K:V→Heap→Prop}
theorem Qa3s {n:Int}(hK:K (.c (.bool (decide (0≤n)&&decide (n≤255)))) H):Qj prog Qrw [.c (.int .i64 n)] H K:=by
 refine Qb Qaj Qaq1 ?_
 refine Qa ?_
 simp only[go_sem]
 refine Qa ?_
 simp only[go_sem]
 refine Quw ?_
 simp only[go_sem,Qwq]
 refine Qh ?_
 simp only[go_sem,Q0,Q6,Qgm,List.mem_singleton,forall_eq,RS.op]
 exact hK
def SzOk (x:Ex)(most:Int)(n d:Int)(ok:Bool):Prop:=ok=(x.form most&&decide (x.size≤30))∧(ok=true→n=x.size∧0≤d∧d≤1000+most)
def Qa8h (n:Nat):Prop:=∀(x:Ex) {H:Heap} {K:V→Heap→Prop} (most:Int),x.size≤n→x.size≤2^40→most≤100→GK H→
 (∀(n d:Int) (ok:Bool) H',Upd H H' []→SzOk x most n d ok→K (.tup [.c (.int .i64 n),.c (.int .i64 d),.c (.bool ok)]) H')→Qj prog Qg7 [.ag x.cells,.c (.int .i64 most)] H K
theorem Qa5l {x:Ex}{most:Int}{Q:X→Env→Heap→Prop}(kn:Kn H0 H [] [])(g:GK H)
  (hf:∀e' H',hd1 x.op x.n x.name=false→Kn H0 H' [] []→lk 4 e'=.c (.int .i64 0)→lk 5 e'=.c (.int .i64 0)→lk 6 e'=.c (.bool false)→Q .ret e' H')
  (hn:∀e' H',hd1 x.op x.n x.name=true→Kn H0 H' [] []→lk 1 e'=.c (.int .i64 most)→lk 2 e'=.c (.pp [.int .i64 x.op,.int .i64 x.n,.str x.name,.sl false 4 (Q2 x.kids)])→lk 7 e'=.c (.int .i64 (Qfa x.op))→lk 8 e'=.c (.int .i64 (Qe9 x.op))→Q .nrm e' H') :
  Qah prog Qp5 Q [(1,.c (.int .i64 most)),(2,.c (.pp [.int .i64 x.op,.int .i64 x.n,.str x.name,.sl false 4 (Q2 x.kids)])),(7,.c (.int .i64 0)),(8,.c (.int .i64 0)),(16,.c (.bool (decide (x.op=1))))] H:=by
 have ret:∀(e:Env) (H':Heap),hd1 x.op x.n x.name=false→Kn H0 H' [] []→Qah prog (.seq (.reg (
   .f (some 4) none (.mv (.k (.c (.int .i64 0))))::
   .f (some 5) none (.mv (.k (.c (.int .i64 0))))::
   .f (some 6) none (.mv (.k (.c (.bool false))))::
   []) [4,5,6]) .ret) Q e H':=by
  intro e H' h kn
  refine Qa ?_
  simp only[go_sem]
  refine Qh ?_
  exact hf _ _ h kn (by simp[lk]) (by simp[lk]) (by simp[lk])
 obtain⟨ks,rows,hs,hl⟩:=g.sign
 obtain⟨ho,sg,hfd⟩:=hl x.op
 refine Qc rfl ?_ ?_
 ·intro hc
  have h1:x.op=1:=by simpa using hc
  refine Qa ?_
  simp only[go_sem]
  refine Qa3s ?_
  simp only[go_sem,Qp7,Qhz]
  refine Qc rfl ?_ ?_
  ·intro hc2
   refine ret _ _ ?_ kn
   rw[hd1,h1]
   revert hc2
   by_cases ha:0≤x.n <;> by_cases hb:x.n≤255 <;> by_cases hn:x.name=[] <;> simp[ha,hb,hn]
  ·intro hc2
   refine Qf ?_
   have hk1:Qfa x.op=0:=by rw[h1];rfl
   have hk2:Qe9 x.op=0:=by rw[h1];rfl
   refine hn _ H ?_ kn (by simp[lk]) (by simp[lk]) (by rw[hk1];simp[lk]) (by rw[hk2];simp[lk])
   rw[hd1,h1]
   revert hc2
   by_cases ha:0≤x.n <;> by_cases hb:x.n≤255 <;> by_cases hn:x.name=[] <;> simp[ha,hb,hn]
 intro hc
 have h1:¬x.op=1:=by simpa using hc
 refine Qa ?_
 simp only[go_sem]
 refine Qc rfl ?_ ?_
 ·intro hc2
  have h2:x.op=2:=by simpa using hc2
  refine Qa ?_
  simp only[go_sem]
  refine Qmz g fun H1 hu=>?_
  have kn:=kn.call0 hu
  simp only[go_sem,Qp8,Qhz]
  refine Qc rfl ?_ ?_
  ·intro hc3
   refine ret _ _ ?_ kn
   rw[hd1,h2]
   revert hc3
   cases Qc8 x.name <;> by_cases hb:x.n=0 <;> simp[hb]
  ·intro hc3
   refine Qf ?_
   have hk1:Qfa x.op=0:=by rw[h2];rfl
   have hk2:Qe9 x.op=0:=by rw[h2];rfl
   refine hn _ H1 ?_ kn (by simp[lk]) (by simp[lk]) (by rw[hk1];simp[lk]) (by rw[hk2];simp[lk])
   rw[hd1,h2]
   revert hc3
   cases Qc8 x.name <;> by_cases hb:x.n=0 <;> simp[hb]
 intro hc2
 have h2:¬x.op=2:=by simpa using hc2
 refine Qa ?_
 simp only[go_sem]
 refine Qc rfl ?_ ?_
 ·intro hc3
  have h3:x.op=13:=by simpa using hc3
  refine Qa ?_
  simp only[go_sem]
  refine Qa ?_
  simp only[go_sem]
  refine Qmz g fun H1 hu=>?_
  have kn:=kn.call0 hu
  simp only[go_sem,Qp9,Qhz]
  refine Qc rfl ?_ ?_
  ·intro hc4
   refine ret _ _ ?_ kn
   rw[hd1,h3]
   revert hc4
   cases Qc8 x.name <;> by_cases hb:x.n=0 <;> simp[hb]
  ·intro hc4
   refine Qf ?_
   have hk1:Qfa x.op=0:=by rw[h3];rfl
   have hk2:Qe9 x.op=3:=by rw[h3];rfl
   refine hn _ H1 ?_ kn (by simp[lk]) (by simp[lk]) (by rw[hk1];simp[lk]) (by rw[hk2];simp[lk])
   rw[hd1,h3]
   revert hc4
   cases Qc8 x.name <;> by_cases hb:x.n=0 <;> simp[hb]
 intro hc3
 have h3:¬x.op=13:=by simpa using hc3
 refine Qa ?_
 simp only[go_sem,hs,Q4,Qr3,hfd,eq_true ho,List.drop_succ_cons,List.drop_zero]
 have hh:∀(h:3≤x.op∧x.op≤12),hd1 x.op x.n x.name=true:=fun h=>by
  rw[hd1,decide_eq_true (by omega:1≤x.op∧x.op≤13),decide_eq_false (by omega:¬x.op=1),decide_eq_false (by omega:¬(x.op=2∨x.op=13))];rfl
 refine Qc rfl ?_ ?_
 ·intro hc4
  have h4:=lev_pos.1 (of_decide_eq_true hc4)
  refine Qn ?_
  simp only[go_sem]
  have hk1:Qfa x.op=2:=by rw[Qfa,if_neg (by omega),if_neg (by omega)]
  have hk2:Qe9 x.op=2:=by rw[Qe9,if_neg (by omega),if_neg (by omega),if_neg (by omega)]
  exact hn _ H (hh (by omega)) kn (by simp[lk]) (by simp[lk]) (by rw[hk1];simp[lk]) (by rw[hk2];simp[lk])
 intro hc4
 have h4:¬(3≤x.op∧x.op≤10):=fun h=>absurd (lev_pos.2 h) (of_decide_eq_false hc4)
 refine Qa ?_
 simp only[go_sem,Qhz]
 refine Qc rfl ?_ ?_
 ·intro hc5
  have h5:x.op=11∨x.op=12:=by simpa using hc5
  refine Qn ?_
  simp only[go_sem]
  have hk1:Qfa x.op=1:=by rw[Qfa,if_neg (by omega),if_pos h5]
  have hk2:Qe9 x.op=1:=by rw[Qe9,if_neg (by omega),if_pos h5]
  exact hn _ H (hh (by omega)) kn (by simp[lk]) (by simp[lk]) (by rw[hk1];simp[lk]) (by rw[hk2];simp[lk])
 ·intro hc5
  have h5:¬(x.op=11∨x.op=12):=by simpa using hc5
  refine ret _ _ ?_ kn
  rw[hd1,decide_eq_false (by omega:¬(1≤x.op∧x.op≤13))];rfl
theorem Qa76 {S:Nat→Bool}(n d:Int)(b:Bool):FrzV H S (.tup [.c (.int .i64 n),.c (.int .i64 d),.c (.bool b)]) (.tup [.c (.int .i64 n),.c (.int .i64 d),.c (.bool b)]):=by
 refine .tup _ _ rfl fun j x x' h1 h2=>?_
 match j with
 |0=>simp at h1 h2;subst h1;subst h2;exact .c _ _ (Qk rfl)
 |1=>simp at h1 h2;subst h1;subst h2;exact .c _ _ (Qk rfl)
 |2=>simp at h1 h2;subst h1;subst h2;exact .c _ _ (Qk rfl)
theorem Qavz:∀n,Qa8h n:=by
 intro n
 induction n with
 |zero=>intro x _ _ _ h;have:=x.size_pos;omega
 |succ n ih=>
 intro x H K most hn hs40 hmost g hK
 have g0:=g
 have hsz:=x.size_kids
 refine Q8 ?_
 refine Qb Qaj Qai4 ?_
 have ret:∀(n d:Int) (ok:Bool) (e:Env) (H':Heap) (L:List (Nat×Obj)),SzOk x most n d ok→Kn H H' [] L→lk 4 e=.c (.int .i64 n)→lk 5 e=.c (.int .i64 d)→lk 6 e=.c (.bool ok)→Q0 Qf2 (unK H K) .ret e H':=by
  intro n d ok e H' L hf kn h4 h5 h6
  simp only[go_sem,Q0,Q6,Qf2,List.forall_mem_cons,List.not_mem_nil,RS.op,h4,h5,h6]
  exact⟨fun _=>trivial,_,Qa76 n d ok,hK n d ok _ kn.fin hf⟩
 have retf:∀(e:Env) (H':Heap) (L:List (Nat×Obj)),(x.form most&&decide (x.size≤30))=false→Kn H H' [] L→lk 4 e=.c (.int .i64 0)→lk 5 e=.c (.int .i64 0)→lk 6 e=.c (.bool false)→Q0 Qf2 (unK H K) .ret e H':=by
  intro e H' L hf kn h4 h5 h6
  exact ret 0 0 false e H' L ⟨hf.symm,nofun⟩ kn h4 h5 h6
 have hfe:=x.form_eq most
 rw[Qa68,Q9h]at hfe
 refine Qa ?_
 simp only[go_sem,x.cells_eq]
 refine Qa ?_
 simp only[go_sem]
 refine Qe (Qd ?_)
 refine Qa ?_
 simp only[go_sem]
 refine Qa5l (Kn.start0 H) g (fun e' H' hh kn h4 h5 h6=>?_) (fun e' H' hh kn l1 l2 l7 l8=>?_)
 ·simp only[go_sem,AE.X.next]
  exact retf _ _ _ (by rw[hfe,hh];simp) kn h4 h5 h6
 simp only[go_sem,AE.X.next]
 rw[hh]at hfe
 have g:=g.kn kn
 refine Qz ?_
 refine Qa ?_
 simp only[go_sem,l1,l2,l7,l8]
 obtain⟨P,hP⟩:∃P,(decide (1≤most)&&((!decide (levO x.op<6) || (decide (x.n=0)&&decide (x.name=[])))&&(decide (Qfa x.op≤(x.kids.length:Int))&&decide ((x.kids.length:Int)≤Qe9 x.op))))=P:=⟨_,rfl⟩
 have hfe2:x.form most=(P&&x.kids.all fun y=>y.form (most-1)):=by rw[hfe,←hP];simp only[Bool.true_and,Bool.and_assoc]
 have rest:∀b:Bool,b = !P→Qah prog (s_im_exprSize_14.seq Qp6) (Q0 Qf2 (unK H K))
   [(1,.c (.int .i64 most)),(2,.c (.pp [.int .i64 x.op,.int .i64 x.n,.str x.name,.sl false 4 (Q2 x.kids)])),(97,.c (.bool b))] H':=by
  intro b hb
  refine Qe (Qc rfl ?_ ?_)
  ·intro hc
   have hA:P=false:=by rw[hc]at hb;simpa using hb.symm
   refine Qa ?_
   simp only[go_sem]
   refine Qh ?_
   simp only[go_sem,AE.X.next]
   exact retf _ _ _ (by rw[hfe2,hA];rfl) kn (by simp[lk]) (by simp[lk]) (by simp[lk])
  intro hc
  have hA:P=true:=by rw[hc]at hb;simpa using hb.symm
  have hm1:1≤most:=by
   rw[hA,Bool.and_eq_true,decide_eq_true_eq]at hP;exact hP.1
  rw[hA,Bool.true_and]at hfe2
  refine Qf ?_
  try simp only[go_sem]
  refine Qa ?_
  simp only[go_sem]
  refine Qz ?_
  refine Qa ?_
  simp only[go_sem,Qi]
  intro hl
  simp only[LIM]at hl
  refine Qe (Qd (Qt (fun m e1 H1=>∃(i:Nat) (d:Int),m=x.kids.length-i∧i≤x.kids.length∧Kn H H1 [] []∧((x.kids.take i).all fun y=>y.form (most-1))=true∧1≤d∧d≤1000+most∧
   e1=[(1,.c (.int .i64 most)),(9,.c (.int .i64 (1+Qv (x.kids.take i):Nat))),(10,.c (.int .i64 d)),(99,.c (.sl false 4 (Q2 x.kids))),(100,.c (.int .i64 x.kids.length)),(101,.c (.int .i64 i))]) x.kids.length ?_ ?_))
  ·exact⟨0,1,by omega,by omega,kn,rfl,by omega,by omega,by simp[Qv]⟩
  ·clear kn g
   rintro m e1 H2 ⟨i,d,hm,hi,kn,hall,hd0,hd1',rfl⟩
   have g:=(‹GK H› : GK H).kn kn
   refine Qa ?_
   simp only[go_sem]
   refine Qe (Qc rfl ?_ ?_)
   ·intro hc
    have hlt:i<x.kids.length:=by simpa using hc
    have hm:=Qad (List.getElem_mem hlt)
    refine Qf ?_
    try simp only[go_sem]
    refine Qe (Qd ?_)
    refine Qa ?_
    simp only[go_sem,hlt,Qi,Qag _ _ hlt,x.kids[i].cells_eq]
    intro x12 hx12 H3 h3
    have kn:=kn.al hx12 h3
    have g12:=kn.l 0 rfl
    simp only[go_sem,Qna,g12]
    intro H4 h4
    have kn:Kn H H4 [] [(x12,.st [.int .i64 x.kids[i].op,.int .i64 x.kids[i].n,.str x.kids[i].name,.sl false 4 (Q2 x.kids[i].kids)])]:=kn.stL 0 rfl h4
    have g:=g0.kn kn
    clear g12
    have g12:=kn.l 0 rfl
    refine Qa ?_
    simp only[go_sem,g12]
    refine⟨Qo (by omega) (by omega),?_⟩
    have hih:=@ih x.kids[i]
    rw[x.kids[i].cells_eq]at hih
    refine hih (most-1) (by omega) (by omega) (by omega) g fun n' d' ok H5 hu hso=>?_
    have kn:=Kn.drop (A:=[]) (kn.call0 hu)
    obtain⟨hso1,hso2⟩:=hso
    simp only[go_sem,Qnb,List.getD_cons_zero,List.getD_cons_succ]
    refine Qz ?_
    refine Qa ?_
    simp only[go_sem]
    have hel:=Q4c hlt
    have hle:=Qjh x.kids (i+1)
    refine Qe (Qc rfl ?_ ?_)
    ·intro hc2
     have hok:ok=false:=by simpa using hc2
     refine Qa ?_
     simp only[go_sem]
     refine Qh ?_
     simp only[go_sem,AE.X.next]
     refine retf _ _ _ ?_ kn (by simp[lk]) (by simp[lk]) (by simp[lk])
     rw[hok]at hso1
     rcases Bool.and_eq_false_iff.1 hso1.symm with h|h
     ·rw[hfe2,Ql1 hlt h];rfl
     ·rw[decide_eq_false_iff_not]at h
      rw[decide_eq_false (by omega),Bool.and_false]
    ·intro hc2
     have hok:ok=true:=by simpa using hc2
     obtain⟨hn',hd2,hd3⟩:=hso2 hok
     rw[hok]at hso1
     have hso1:=hso1.symm
     rw[Bool.and_eq_true,decide_eq_true_eq]at hso1
     obtain⟨hs1,hs2⟩:=hso1
     have hin:Qv (x.kids.take i)≤Qv x.kids:=Qjh x.kids i
     refine Qf ?_
     try simp only[go_sem]
     refine Qa ?_
     simp only[go_sem]
     refine⟨Qo (by omega) (by omega),?_⟩
     refine Qn ?_
     simp only[go_sem,AE.X.next]
     refine⟨Qo (by omega) (by omega),?_⟩
     refine Qn ?_
     simp only[go_sem,AE.X.next]
     refine⟨Qo (by omega) (by omega),x.kids.length-(i+1),by omega,i+1,(if d'+1 > d then d'+1 else d),rfl,by omega,kn,by rw[Qg5 hlt,hall,hs1];rfl,by split <;> omega,by split <;> omega,?_⟩
     rw[show (((1+Qv (x.kids.take i):Nat):Int)+n')=((1+Qv (x.kids.take (i+1)):Nat):Int)by omega]
     rfl
   ·intro hc
    have hge:x.kids.length≤i:=by simpa using hc
    rw[List.take_of_length_le hge]at hall
    rw[List.take_of_length_le hge]
    refine Qu ?_
    simp only[go_sem,AE.X.next]
    refine Qa ?_
    simp only[go_sem]
    refine Qh ?_
    refine ret _ d _ _ _ _ ⟨?_,fun _=>⟨by rw[hsz],by omega,hd1'⟩⟩ kn (by simp[lk]) (by simp[lk]) rfl
    rw[hfe2,hall,hsz,Bool.true_and,decide_eq_decide]
    omega
 refine Qazv g ?_
 simp only[go_sem,Qm9,l1,l2,l7,l8,Qhz]
 intro hl
 refine⟨fun hb=>?_,fun hb=>?_⟩
 ·have hb:=Qzs hb
  refine Quw ?_
  simp only[go_sem,Qg0,hb,l1,l2,l7,l8,Qhz,Qi]
  try intro _
  refine rest _ ?_
  rw[←hP,Qavt (a:=most)]
  revert hb
  simp only[Qd8]
  cases decide (levO x.op<6) <;> cases decide (x.n=0) <;> cases decide (x.name=[]) <;> cases decide (Qfa x.op≤(x.kids.length:Int)) <;> cases decide ((x.kids.length:Int)≤Qe9 x.op) <;> cases decide ((1:Int)≤most) <;> simp
 ·have hb:=Qr2 hb
  simp only[go_sem,Qg0,hb,l1,l2,l7,l8,Qhz]
  try intro _
  refine rest _ ?_
  rw[←hP]
  revert hb
  simp only[Qd8]
  cases decide (levO x.op<6) <;> cases decide (x.n=0) <;> cases decide (x.name=[]) <;> simp
theorem Qzm {x:Ex}(hx:x.size≤2^40)(g:GK H)(hK:∀H',Upd H H' []→K (.c (.bool x.valid)) H'):Qj prog Qjj [.ag x.cells] H K:=by
 refine Qb Qaj Qadg ?_
 refine Qa ?_
 simp only[go_sem,x.cells_eq]
 refine Qa ?_
 simp only[go_sem]
 have h:=@Qavz x.size x
 rw[x.cells_eq]at h
 refine h 6 (Nat.le_refl _) hx (by omega) g fun n d ok H' hu hso=>?_
 simp only[go_sem,Qm8,List.getD_cons_zero,List.getD_cons_succ]
 refine Qa ?_
 simp only[go_sem]
 refine Qh ?_
 simp only[go_sem,Q0,Q6,Qgm,List.mem_singleton,forall_eq,RS.op]
 rw[hso.1]
 exact hK _ hu
end Go.AE.Y

namespace Go.AE.Y
attribute [local go_sem] cond_true cond_false Bool.not_true Bool.not_false
open Go.Proofs.Tryz
variable {H H0:Heap}{K:V→Heap→Prop}
def acN (op:Int):Int:=if 1≤op∧op≤8 then (argN op:Int)else -1
theorem Qavo {op:Int}(hK:K (.tup [.c (.int .i64 (acN op)),.c (.bool (decide (op=1∨op=2))),.c (.bool (decide (op=5∨op=6))),.c (.bool (decide (op=5)))]) H):Qj prog Ql4 [.c (.int .i64 op)] H K:=by
 refine Qb Qaj Qai3 ?_
 have ret:∀(n:Int) (a b c:Bool) (e:Env),n=acN op→a=decide (op=1∨op=2)→b=decide (op=5∨op=6)→c=decide (op=5)→lk 2 e=.c (.int .i64 n)→lk 3 e=.c (.bool a)→lk 4 e=.c (.bool b)→lk 5 e=.c (.bool c)→Q0 Qfz K .ret e H:=by
  intro n a b c e h1 h2 h3 h4 l2 l3 l4 l5
  subst h1;subst h2;subst h3;subst h4
  simp only[go_sem,Q0,Q6,Qfz,List.forall_mem_cons,List.not_mem_nil,RS.op,l2,l3,l4,l5]
  exact⟨fun _=>trivial,hK⟩
 have fin:∀(n:Int) (a b c:Bool) (e:Env) (Q:X→Env→Heap→Prop),(∀e,lk 2 e=.c (.int .i64 n)→lk 3 e=.c (.bool a)→lk 4 e=.c (.bool b)→lk 5 e=.c (.bool c)→Q .ret e H)→Qah prog (.seq (.reg (
  .f (some 2) none (.mv (.k (.c (.int .i64 n))))::
  .f (some 3) none (.mv (.k (.c (.bool a))))::
  .f (some 4) none (.mv (.k (.c (.bool b))))::
  .f (some 5) none (.mv (.k (.c (.bool c))))::
  []) [2,3,4,5]) .ret) Q e H:=by
  intro n a b c e Q hq
  refine Qa ?_
  simp only[go_sem]
  refine Qh ?_
  exact hq _ (by simp[lk]) (by simp[lk]) (by simp[lk]) (by simp[lk])
 refine Qa ?_
 simp only[go_sem]
 refine Qz ?_
 refine Qa ?_
 simp only[go_sem]
 refine Qe (Qd ?_)
 refine Qz ?_
 refine Qa ?_
 simp only[go_sem]
 have one:∀(e:Env),(op=1∨op=2)→Qah prog Qsk (X.inBlock 0 (X.sq prog Qj3 (Q0 Qfz K))) ((6,.c (.int .i64 op))::(7,.c (.bool true))::e) H:=by
  intro e h
  refine Qc rfl (fun _=>?_) (fun h=>by cases h)
  refine fin 1 true false false _ _ fun e l2 l3 l4 l5=>?_
  simp only[go_sem,AE.X.next]
  exact ret _ _ _ _ e (by rw[acN,if_pos (by omega),argN,if_neg (by omega)];rfl) (by rw[decide_eq_true h]) (by symm;rw[decide_eq_false_iff_not];omega) (by symm;rw[decide_eq_false_iff_not];omega) l2 l3 l4 l5
 refine Qe (Qc rfl ?_ ?_)
 ·intro hc
  refine Qf ?_
  simp only[go_sem]
  have h1:op=1:=by simpa using hc
  rw[hc]
  exact one [] (.inl h1)
 intro hc
 have h1:¬op=1:=by simpa using hc
 refine Qn ?_
 simp only[go_sem]
 by_cases h2:op=2
 ·rw[decide_eq_true h2]
  exact one [] (.inr h2)
 rw[decide_eq_false h2]
 refine Qc rfl (fun h=>by cases h) (fun _=>?_)
 refine Qz ?_
 refine Qa ?_
 simp only[go_sem]
 have two:∀(b:Bool),b=decide (op=3∨op=7∨op=8)→Qah prog Qsj (X.inBlock 0 (X.sq prog Qj3 (Q0 Qfz K))) [(6,.c (.int .i64 op)),(10,.c (.bool b))] H:=by
  intro b hb
  refine Qc rfl (fun hc=>?_) (fun hc=>?_)
  ·rw[hb,decide_eq_true_eq]at hc
   refine fin 1 false false false _ _ fun e l2 l3 l4 l5=>?_
   simp only[go_sem,AE.X.next]
   exact ret _ _ _ _ e (by rw[acN,if_pos (by omega),argN,if_neg (by omega)];rfl) (by symm;rw[decide_eq_false_iff_not];omega) (by symm;rw[decide_eq_false_iff_not];omega) (by symm;rw[decide_eq_false_iff_not];omega) l2 l3 l4 l5
  rw[hb,decide_eq_false_iff_not]at hc
  refine Qa ?_
  simp only[go_sem]
  refine Qc rfl (fun hc4=>?_) (fun hc4=>?_)
  ·have h4:op=4:=by simpa using hc4
   refine fin 2 false false false _ _ fun e l2 l3 l4 l5=>?_
   simp only[go_sem,AE.X.next]
   exact ret _ _ _ _ e (by rw[h4];rfl) (by rw[h4];rfl) (by rw[h4];rfl) (by rw[h4];rfl) l2 l3 l4 l5
  have h4:¬op=4:=by simpa using hc4
  refine Qa ?_
  simp only[go_sem]
  refine Qc rfl (fun hc5=>?_) (fun hc5=>?_)
  ·have h5:op=5:=by simpa using hc5
   refine fin 1 false true true _ _ fun e l2 l3 l4 l5=>?_
   simp only[go_sem,AE.X.next]
   exact ret _ _ _ _ e (by rw[h5];rfl) (by rw[h5];rfl) (by rw[h5];rfl) (by rw[h5];rfl) l2 l3 l4 l5
  have h5:¬op=5:=by simpa using hc5
  refine Qa ?_
  simp only[go_sem]
  refine Qc rfl (fun hc6=>?_) (fun hc6=>?_)
  ·have h6:op=6:=by simpa using hc6
   refine fin 1 false true false _ _ fun e l2 l3 l4 l5=>?_
   simp only[go_sem,AE.X.next]
   exact ret _ _ _ _ e (by rw[h6];rfl) (by rw[h6];rfl) (by rw[h6];rfl) (by rw[h6];rfl) l2 l3 l4 l5
  have h6:¬op=6:=by simpa using hc6
  refine Qf ?_
  simp only[go_sem,AE.X.next]
  refine fin (-1) false false false _ _ fun e l2 l3 l4 l5=>?_
  exact ret _ _ _ _ e (by rw[acN,if_neg (by omega)]) (by symm;rw[decide_eq_false_iff_not];omega) (by symm;rw[decide_eq_false_iff_not];omega) (by symm;rw[decide_eq_false_iff_not];omega) l2 l3 l4 l5
 refine Qe (Qc rfl ?_ ?_)
 ·intro hc3
  have h3:op=3:=by simpa using hc3
  refine Qf ?_
  simp only[go_sem]
  exact two _ (by rw[decide_eq_decide];omega)
 intro hc3
 have h3:¬op=3:=by simpa using hc3
 refine Qa ?_
 simp only[go_sem]
 refine Qc rfl ?_ ?_
 ·intro hc7
  have h7:op=7:=by simpa using hc7
  refine Qf ?_
  simp only[go_sem]
  exact two _ (by rw[decide_eq_decide];omega)
 intro hc7
 have h7:¬op=7:=by simpa using hc7
 refine Qn ?_
 simp only[go_sem]
 exact two _ (by rw[decide_eq_decide];omega)
def badS (op:Int)(name:List UInt8)(args:List Ex)(nb ne:Nat)(nest:Int):Bool:=
 decide (4<nest) || (!decide ((args.length:Int)=acN op) || ((decide (op=1∨op=2)&&!Qc8 name) || ((!decide (op=1∨op=2)&&!decide (name=[])) || ((!decide (op=5∨op=6)&&decide (0<nb)) || ((!decide (op=5)&&decide (0<ne)) ||
  (decide (op=8)&&!decide ((args.map Ex.op).getD 0 0=13)))))))
theorem acN_eq {op:Int}{k:Nat}:(k:Int)=acN op↔(1≤op∧op≤8)∧k=argN op:=by
 rw[acN]
 split <;> omega
theorem Qa6e (op:Int)(name:List UInt8)(args:List Ex)(nb ne:Nat)(nest:Int):(decide (1≤5-nest)&&Qaie op name args nb ne)=(!badS op name args nb ne nest&&args.all Ex.valid):=by
 have e1:decide (1≤5-nest) = !decide (4<nest):=by rw[Bool.eq_iff_iff];simp;omega
 have e2:decide ((args.length:Int)=acN op)=(decide (1≤op∧op≤8)&&decide (args.length=argN op)):=by rw[Bool.eq_iff_iff];simp only[Bool.and_eq_true,decide_eq_true_eq];exact acN_eq
 have e3:decide (ne=0) = !decide (0<ne):=by rw[Bool.eq_iff_iff];simp
 have e4:decide (nb=0) = !decide (0<nb):=by rw[Bool.eq_iff_iff];simp
 have e5:(decide (op=1∨op=2) == Qc8 name)=true→decide (op=1∨op=2)=false→name=[]→True:=fun _ _ _=>trivial
 rw[Qaie,badS,e1,e2,e3,e4]
 by_cases hn:name=[]
 ·subst hn
  rw[Qam1]
  cases decide (4<nest) <;> cases decide (1≤op∧op≤8) <;> cases decide (args.length=argN op) <;> cases decide (op=1∨op=2) <;> cases decide (0<ne) <;> cases decide (0<nb) <;> cases decide (op=5) <;> cases decide (op=5∨op=6) <;> cases decide (op=8) <;> cases decide ((args.map Ex.op).getD 0 0=13) <;> cases args.all Ex.valid <;> rfl
 ·rw[decide_eq_false hn]
  cases decide (4<nest) <;> cases decide (1≤op∧op≤8) <;> cases decide (args.length=argN op) <;> cases decide (op=1∨op=2) <;> cases Qc8 name <;> cases decide (0<ne) <;> cases decide (0<nb) <;> cases decide (op=5) <;> cases decide (op=5∨op=6) <;> cases decide (op=8) <;> cases decide ((args.map Ex.op).getD 0 0=13) <;> cases args.all Ex.valid <;> rfl
end Go.AE.Y

namespace Go.AE.Y
attribute [local go_sem] cond_true cond_false Bool.not_true Bool.not_false
open Go.Proofs.Tryz
variable {H H0:Heap}{K:V→Heap→Prop}
theorem dpos (n:Nat):decide ((0:Int)<(n:Int))=decide (0<n):=by rw[decide_eq_decide];omega
theorem Qa72 {x:St}{nest:Int}{Q:X→Env→Heap→Prop}(kn:Kn H0 H [] [])(g:GK H)
  (hn:∀e' H' b,b=badS x.op x.name x.args x.body.length x.els.length nest→Kn H0 H' [] []→lk 1 e'=.c (.int .i64 nest)→lk 2 e'=.c (.pp [.int .i64 x.op,.str x.name,.sl false 4 (Q2 x.args),.sl false 5 (Ql x.body),.sl false 5 (Ql x.els)])→lk 19 e'=.c (.bool b)→Q .nrm e' H') :
  Qah prog Qz5 Q [(1,.c (.int .i64 nest)),(2,.c (.pp [.int .i64 x.op,.str x.name,.sl false 4 (Q2 x.args),.sl false 5 (Ql x.body),.sl false 5 (Ql x.els)])),(5,.c (.int .i64 (acN x.op))),(6,.c (.bool (decide (x.op=1∨x.op=2)))),(7,.c (.bool (decide (x.op=5∨x.op=6)))),(8,.c (.bool (decide (x.op=5)))),(19,.c (.bool (decide (4<nest))))] H:=by
 refine Qc rfl (fun hc=>?_) (fun hc=>?_)
 ·rw[hc]
  refine Qf ?_
  exact hn _ _ true (by simp only[badS,hc,Bool.true_or]) kn (by simp[lk]) (by simp[lk]) (by simp[lk])
 refine Qa ?_
 simp only[go_sem,Qi]
 intro _
 refine Qc rfl (fun hc1=>?_) (fun hc1=>?_)
 ·rw[hc1]
  refine Qf ?_
  exact hn _ _ true (by simp only[badS,hc,hc1,Bool.true_or,Bool.false_or]) kn (by simp[lk]) (by simp[lk]) (by simp[lk])
 have hl:=acN_eq.1 (show (x.args.length:Int)=acN x.op by simpa using hc1)
 have rest:∀(b:Bool) (H1:Heap),b=(decide (x.op=1∨x.op=2)&&!Qc8 x.name)→Kn H0 H1 [] []→Qah prog Qz4 Q [(1,.c (.int .i64 nest)),(2,.c (.pp [.int .i64 x.op,.str x.name,.sl false 4 (Q2 x.args),.sl false 5 (Ql x.body),.sl false 5 (Ql x.els)])),(6,.c (.bool (decide (x.op=1∨x.op=2)))),(7,.c (.bool (decide (x.op=5∨x.op=6)))),(8,.c (.bool (decide (x.op=5)))),(19,.c (.bool b))] H1:=by
  intro b H1 hb kn
  refine Qc rfl (fun hc2=>?_) (fun hc2=>?_)
  ·rw[hc2]at hb
   rw[hc2]
   refine Qf ?_
   exact hn _ _ true (by simp only[badS,hc,hc1,←hb,Bool.true_or,Bool.false_or]) kn (by simp[lk]) (by simp[lk]) (by simp[lk])
  rw[hc2]at hb
  refine Qa ?_
  simp only[go_sem,Qd8]
  refine Qc rfl (fun hc3=>?_) (fun hc3=>?_)
  ·rw[hc3]
   refine Qf ?_
   exact hn _ _ true (by simp only[badS,hc,hc1,←hb,hc3,Bool.true_or,Bool.false_or]) kn (by simp[lk]) (by simp[lk]) (by simp[lk])
  refine Qa ?_
  simp only[go_sem,Qd8,Qw]
  try intro _
  refine Qc rfl (fun hc4=>?_) (fun hc4=>?_)
  ·rw[hc4]
   rw[dpos]at hc4
   refine Qf ?_
   exact hn _ _ true (by simp only[badS,hc,hc1,←hb,hc3,hc4,Bool.true_or,Bool.false_or]) kn (by simp[lk]) (by simp[lk]) (by simp[lk])
  rw[dpos]at hc4
  refine Qa ?_
  simp only[go_sem,Qd8,Qw]
  try intro _
  refine Qc rfl (fun hc5=>?_) (fun hc5=>?_)
  ·rw[hc5]
   rw[dpos]at hc5
   refine Qf ?_
   exact hn _ _ true (by simp only[badS,hc,hc1,←hb,hc3,hc4,hc5,Bool.true_or,Bool.false_or]) kn (by simp[lk]) (by simp[lk]) (by simp[lk])
  rw[dpos]at hc5
  refine Qn ?_
  have h1:0<x.args.length:=by rw[hl.2,argN];split <;> omega
  have hg0:=Qag x.args 0 h1
  obtain⟨a,ea⟩:∃a,x.args[0]=a:=⟨_,rfl⟩
  rw[ea]at hg0
  have eo:(x.args.map Ex.op).getD 0 0=a.op:=by rw[←ea];simp[List.getD_eq_getElem?_getD,h1]
  simp only[go_sem,Qd8,Qi,h1,hg0,a.cells_eq]
  first
   |refine⟨fun _=>by omega,?_⟩
   |skip
  refine hn _ _ (decide (x.op=8)&&!decide (a.op=13)) ?_ kn (by simp[lk]) (by simp[lk]) (by simp[lk])
  simp only[badS,hc,hc1,←hb,hc3,hc4,hc5,eo,Bool.true_or,Bool.false_or,Bool.true_and]
 by_cases hnm:x.op=1∨x.op=2
 ·have hd:decide (x.op=1∨x.op=2)=true:=decide_eq_true hnm
  rw[hd]at rest
  refine Qa ?_
  simp only[go_sem,hd]
  refine Qmz g fun H1 hu=>?_
  simp only[go_sem,Qmk]
  exact rest _ _ rfl (kn.call0 hu)
 ·have hd:decide (x.op=1∨x.op=2)=false:=decide_eq_false hnm
  rw[hd]at rest
  refine Qa ?_
  simp only[go_sem,hd,Qmk]
  exact rest _ _ rfl kn
theorem Qaim {fl:Bool}{l:List St}{f:Nat}{caps:List C}{p:St→Bool}
  (hf:∀(x:St) (H1:Heap) (K':V→Heap→Prop),x∈l→Kn H H1 [] []→(∀H2,Upd H1 H2 []→K' (.c (.bool (p x))) H2)→Qj prog f ([.ag x.cells]++caps.map .c) H1 K')
  (hK:∀(r:Int) (H':Heap),Upd H H' []→decide (0≤r)=l.any p→K (.c (.int .i64 r)) H') :
  Qj prog Qd9 [.c (.sl fl 5 (Ql l)),.c (.fn f caps)] H K:=by
 refine Q8 ?_
 refine Qb Qaj Qxe ?_
 refine Qa ?_
 simp only[go_sem]
 refine Qz ?_
 refine Qa ?_
 simp only[go_sem,Qw]
 intro hl
 simp only[LIM]at hl
 refine Qe (Qd (Qt (fun m e1 H1=>∃(i:Nat),m=l.length-i∧i≤l.length∧Kn H H1 [] []∧(∀x∈l.take i,p x=false)∧e1=[(0,.c (.sl fl 5 (Ql l))),(1,.c (.fn f caps)),(7,.c (.int .i64 l.length)),(8,.c (.int .i64 i))]) l.length ?_ ?_))
 ·exact⟨0,by omega,by omega,Kn.start0 H,by simp,rfl⟩
 ·rintro m e1 H1 ⟨i,hm,hi,kn,hall,rfl⟩
  refine Qa ?_
  simp only[go_sem]
  refine Qe (Qc rfl ?_ ?_)
  ·intro hc
   have hlt:i<l.length:=by simpa using hc
   refine Qf ?_
   simp only[go_sem]
   refine Qe (Qd ?_)
   refine Qa ?_
   simp only[go_sem]
   refine Qa ?_
   simp only[go_sem,hlt,Qw,Qar _ _ hlt,St.take5,St.allOw,St.cells_len]
   refine hf _ _ _ (List.getElem_mem hlt) kn fun H2 hu=>?_
   have kn:=kn.call0 hu
   refine Qc rfl ?_ ?_
   ·intro hc2
    refine Qa ?_
    simp only[go_sem]
    refine Qh ?_
    simp only[go_sem,X.next,Q0,Q6,Qam8,List.mem_singleton,forall_eq,RS.op]
    refine⟨_,.c _ _ (Qk rfl),hK _ _ kn.fin ?_⟩
    have:l.any p=true:=List.any_eq_true.2 ⟨_,List.getElem_mem hlt,hc2⟩
    rw[this];simp
   ·intro hc2
    refine Qf ?_
    simp only[go_sem]
    refine Qn ?_
    simp only[go_sem,X.next]
    refine⟨Qo (by omega) (by omega),l.length-(i+1),by omega,i+1,rfl,by omega,kn,?_,rfl⟩
    rw[List.take_succ_eq_append_getElem hlt]
    intro x hx
    rcases List.mem_append.1 hx with hx|hx
    ·exact hall x hx
    ·simp only[List.mem_singleton]at hx;subst hx;exact hc2
  ·intro hc
   have hge:l.length≤i:=by simpa using hc
   rw[List.take_of_length_le hge]at hall
   refine Qu ?_
   simp only[go_sem,X.next]
   refine Qa ?_
   simp only[go_sem]
   refine Qh ?_
   simp only[go_sem,Q0,Q6,Qam8,List.mem_singleton,forall_eq,RS.op]
   refine⟨_,.c _ _ (Qk rfl),hK _ _ kn.fin ?_⟩
   have:l.any p=false:=by
    cases hc:l.any p with
    |false=>rfl
    |true=>obtain⟨x,hx,hp⟩:=List.any_eq_true.1 hc;rw[hall x hx]at hp;exact absurd hp (by simp)
   rw[this];rfl
theorem Q5m {fl:Bool}{l:List St}{f:Nat}{caps:List C}{p:St→Bool}
  (hf:∀(x:St) (H1:Heap) (K':V→Heap→Prop),x∈l→Kn H H1 [] []→(∀H2,Upd H1 H2 []→K' (.c (.bool (p x))) H2)→Qj prog f ([.ag x.cells]++caps.map .c) H1 K')
  (hK:∀(H':Heap),Upd H H' []→K (.c (.bool (l.any p))) H') :
  Qj prog Qch [.c (.sl fl 5 (Ql l)),.c (.fn f caps)] H K:=by
 refine Qb Qaj Qqn ?_
 refine Qa ?_
 simp only[go_sem]
 refine Qa ?_
 simp only[go_sem]
 refine Qaim hf fun r H' hu hr=>?_
 simp only[go_sem,Qep]
 refine Qh ?_
 simp only[go_sem,Q0,Q6,Qam8,List.mem_singleton,forall_eq,RS.op]
 rw[hr];exact hK _ hu
def StOk (n:Nat):Prop:=∀(x:St) (nest:Int) (H:Heap) (K:V→Heap→Prop),x.size≤n→x.size≤2^40→0≤nest→nest≤100→GK H→(∀H',Upd H H' []→K (.c (.bool (x.form (5-nest)))) H')→Qj prog Qrx [.ag x.cells,.c (.int .i64 nest)] H K
def BlOk (n:Nat):Prop:=∀(l:List St) (nest:Int) (fl:Bool) (H:Heap) (K:V→Heap→Prop),Qg l≤n→Qg l≤2^40→0≤nest→nest≤100→GK H→(∀H',Upd H H' []→K (.c (.bool (Qa6 l (5-nest)))) H')→
 Qj prog Qfl [.c (.sl fl 5 (Ql l)),.c (.int .i64 nest)] H K
theorem Qaya {n:Nat}(hS:StOk n):BlOk n:=by
 intro l nest fl H K hn hb h0 hm g hK
 refine Q8 ?_
 refine Qb Qaj Qamn ?_
 refine Qa ?_
 simp only[go_sem]
 refine Qa ?_
 simp only[go_sem]
 have kn:=Kn.start0 H
 refine Q5m (p:=fun s=>!s.form (5-nest)) (fun x H1 K' hx kn hK'=>?_) fun H1 hu=>?_
 ·have hm2:=Qai hx
  refine Qb Qaj Q9v ?_
  refine Qa ?_
  simp only[go_sem,x.cells_eq]
  refine Qa ?_
  simp only[go_sem]
  have h:=hS x nest
  rw[x.cells_eq]at h
  refine h _ _ (by omega) (by omega) h0 hm (g.kn kn) fun H2 hu=>?_
  simp only[go_sem,Qls]
  refine Qh ?_
  simp only[go_sem,Q0,Q6,Q4l,List.mem_singleton,forall_eq,RS.op]
  exact hK' _ hu
 have kn:=kn.call0 hu
 simp only[go_sem,Qsl]
 refine Qh ?_
 simp only[go_sem,Q0,Q6,Qam8,List.mem_singleton,forall_eq,RS.op]
 refine⟨_,.c _ _ (Qk rfl),?_⟩
 have e:(!l.any fun s=>!s.form (5-nest))=Qa6 l (5-nest):=by rw[Qy4,List.all_eq_not_any_not]
 rw[e]
 exact hK _ kn.fin
theorem Qa9w:∀n,StOk n:=by
 intro n
 induction n with
 |zero=>intro x nest H K hx;have:=x.size_eq;omega
 |succ n ih=>
 have hB:=Qaya ih
 intro x nest H K hn hb h0 hm g hK
 have hse:=x.size_eq
 have g0:=g
 refine Q8 ?_
 refine Qb Qaj Qaq2 ?_
 have hfe:x.form (5-nest)=(!badS x.op x.name x.args x.body.length x.els.length nest&&x.args.all Ex.valid&&(Qa6 x.body (5-(nest+1))&&Qa6 x.els (5-(nest+1)))):=by
  rw[x.form_eq,Qa6e,show 5-nest-1=5-(nest+1)by omega,Bool.and_assoc]
 have retf:∀(b:Bool) (e:Env) (H':Heap) (L:List (Nat×Obj)),x.form (5-nest)=b→Kn H H' [] L→lk 4 e=.c (.bool b)→Q0 Qam8 (unK H K) .ret e H':=by
  intro b e H' L hf kn h4
  simp only[go_sem,Q0,Q6,Qam8,List.mem_singleton,forall_eq,RS.op,h4]
  refine⟨_,.c _ _ (Qk rfl),?_⟩
  rw[←hf];exact hK _ kn.fin
 have kn:=Kn.start0 H
 refine Qa ?_
 simp only[go_sem,x.cells_eq]
 refine Qa ?_
 simp only[go_sem]
 refine Qavo ?_
 simp only[go_sem,Qwr,List.getD_cons_zero,List.getD_cons_succ]
 refine Qe (Qd ?_)
 refine Qz ?_
 refine Qa ?_
 simp only[go_sem]
 refine Qe (Qa72 kn g fun e' H1 b hbad kn l1 l2 l19=>?_)
 clear g
 have g:=g0.kn kn
 simp only[go_sem]
 rw[←hbad]at hfe
 refine Qc (by simp only[go_sem,l19];rfl) (fun hc=>?_) (fun hc=>?_)
 ·refine Qa ?_
  simp only[go_sem]
  refine Qh ?_
  simp only[go_sem,AE.X.next]
  exact retf false _ _ _ (by rw[hfe,hc];rfl) kn (by simp[lk])
 have hn4:nest≤4:=by
  rw[hc,badS]at hbad
  have:=(Bool.or_eq_false_iff.1 hbad.symm).1
  simpa using this
 rw[hc,Bool.not_false,Bool.true_and]at hfe
 refine Qf ?_
 simp only[go_sem,AE.X.next]
 refine Qz ?_
 refine Qa ?_
 simp only[go_sem,l1,l2,Qi]
 intro hl
 simp only[LIM]at hl
 refine Qe (Qd (Qt (fun m e1 H1=>∃(i:Nat),m=x.args.length-i∧i≤x.args.length∧Kn H H1 [] []∧((x.args.take i).all Ex.valid)=true∧
  e1=[(1,.c (.int .i64 nest)),(2,.c (.pp [.int .i64 x.op,.str x.name,.sl false 4 (Q2 x.args),.sl false 5 (Ql x.body),.sl false 5 (Ql x.els)])),(69,.c (.sl false 4 (Q2 x.args))),(70,.c (.int .i64 x.args.length)),(71,.c (.int .i64 i))]) x.args.length ?_ ?_))
 ·exact⟨0,by omega,by omega,kn,rfl,rfl⟩
 ·clear kn g
  rintro m e1 H2 ⟨i,hm,hi,kn,hall,rfl⟩
  have g:=g0.kn kn
  refine Qa ?_
  simp only[go_sem]
  refine Qe (Qc rfl ?_ ?_)
  ·intro hc
   have hlt:i<x.args.length:=by simpa using hc
   have hm:=Qad (List.getElem_mem hlt)
   refine Qf ?_
   try simp only[go_sem]
   refine Qe (Qd ?_)
   refine Qa ?_
   simp only[go_sem,hlt,Qi,Qag _ _ hlt,x.args[i].cells_eq]
   intro x10 hx10 H3 h3
   have kn:=kn.al hx10 h3
   have g12:=kn.l 0 rfl
   simp only[go_sem,Qws,g12]
   intro H4 h4
   have kn:Kn H H4 [] [(x10,.st [.int .i64 x.args[i].op,.int .i64 x.args[i].n,.str x.args[i].name,.sl false 4 (Q2 x.args[i].kids)])]:=kn.stL 0 rfl h4
   clear g12
   have g:=g0.kn kn
   have g12:=kn.l 0 rfl
   refine Qa ?_
   simp only[go_sem,g12]
   have hev:=@Qzm H4
   have hev2:=fun K=>@Qzm H4 K x.args[i]
   simp only[x.args[i].cells_eq]at hev2
   refine hev2 _ (by omega) g fun H5 hu=>?_
   have kn:=Kn.drop (A:=[]) (kn.call0 hu)
   simp only[go_sem,Qs5]
   refine Qc rfl ?_ ?_
   ·intro hc2
    refine Qa ?_
    simp only[go_sem]
    refine Qh ?_
    simp only[go_sem,AE.X.next]
    exact retf false _ _ _ (by rw[hfe,Ql1 hlt (Qzs hc2)];rfl) kn (by simp[lk])
   ·intro hc2
    refine Qf ?_
    try simp only[go_sem]
    refine Qn ?_
    simp only[go_sem,AE.X.next]
    exact⟨Qo (by omega) (by omega),x.args.length-(i+1),by omega,i+1,rfl,by omega,kn,by rw[Qg5 hlt,hall,Qr2 hc2];rfl,rfl⟩
  ·intro hc
   have hge:x.args.length≤i:=by simpa using hc
   rw[List.take_of_length_le hge]at hall
   rw[hall,Bool.true_and]at hfe
   refine Qu ?_
   simp only[go_sem,AE.X.next]
   refine Qa ?_
   simp only[go_sem]
   refine⟨Qo (by omega) (by omega),?_⟩
   refine hB x.body (nest+1) _ _ _ (by omega) (by omega) (by omega) (by omega) g fun H3 hu=>?_
   have kn:=kn.call0 hu
   have g:=g0.kn kn
   cases hb1:Qa6 x.body (5-(nest+1))with
   |false=>
    simp only[go_sem,Qj8,Qj7]
    refine Qh ?_
    exact retf false _ _ _ (by rw[hfe,hb1];rfl) kn (by simp[lk])
   |true=>
    simp only[go_sem,Qj8]
    refine⟨Qo (by omega) (by omega),?_⟩
    refine hB x.els (nest+1) _ _ _ (by omega) (by omega) (by omega) (by omega) g fun H4 hu=>?_
    have kn:=kn.call0 hu
    simp only[go_sem,Qj7]
    refine Qh ?_
    exact retf _ _ _ _ (by rw[hfe,hb1];rfl) kn rfl
theorem Qa8k (n:Nat):BlOk n:=Qaya (Qa9w n)
end Go.AE.Y

namespace Go.AE.Y
attribute [local go_sem] cond_true cond_false Bool.not_true Bool.not_false
open Go.Proofs.Tryz
variable {H H0:Heap}{K:V→Heap→Prop}{E E' L:List (Nat×Obj)}
end Go.AE.Y
namespace Go.AE
open Go.AE.Y
open Go.Proofs.Tryz
variable {H H0:Heap}{K:V→Heap→Prop}{E E' L:List (Nat×Obj)}
theorem Kn.callAll {H':Heap}(kn:Kn H0 H E L)(hu:Upd H H' E')(hn:E'.map Prod.fst=E.map Prod.fst)(hne:∀p∈E',p.2≠.none):Kn H0 H' E' L:=by
 refine kn.callg hu hn rfl (fun p hp=>?_) (fun m hm=>?_)
 ·rcases List.mem_append.1 hp with h|h
  ·exact⟨hne p h,.inl h⟩
  ·refine⟨(kn.get p (List.mem_append_right _ h)).2,.inr ⟨List.mem_append_right _ h,fun hm=>?_⟩⟩
   rw[hn]at hm
   obtain⟨q,hq,hqp⟩:=List.mem_map.1 hm
   exact kn.ext q hq (by rw[hqp];exact kn.loc p h)
 ·exact .inl (by rw[←hn];exact List.mem_map.2 ⟨m,hm,rfl⟩)
end Go.AE
namespace Go.AE.Y
open Go.Proofs.Tryz
variable {H H0:Heap}{K:V→Heap→Prop}{E E' L:List (Nat×Obj)}
mutual
def St.vis {α:Type}(step:α→St→Int→α):St→Int→α→α
 |.mk op name args body els,n,a=>Qbk step els (n+1) (Qbk step body (n+1) (step a (.mk op name args body els) n))
def Qbk {α:Type}(step:α→St→Int→α):List St→Int→α→α
 |[],_,a=>a
 |x::r,n,a=>Qbk step r n (x.vis step n a)
end
theorem St.vis_eq {α:Type}(step:α→St→Int→α)(x:St)(n:Int)(a:α):x.vis step n a=Qbk step x.els (n+1) (Qbk step x.body (n+1) (step a x n)):=by
 cases x;simp only[St.vis,St.body,St.els]
theorem Qaxt {α:Type}(step:α→St→Int→α)(l r:List St)(n:Int)(a:α):Qbk step (l++r) n a=Qbk step r n (Qbk step l n a):=by
 induction l generalizing a with
 |nil=>simp[Qbk]
 |cons x l ih=>simp only[List.cons_append,Qbk,ih]
theorem Qaub {α:Type}(step:α→St→Int→α){l:List St}{i:Nat}(h:i<l.length)(n:Int)(a:α):Qbk step (l.take (i+1)) n a=(l[i]).vis step n (Qbk step (l.take i) n a):=by
 rw[List.take_succ_eq_append_getElem h,Qaxt];simp[Qbk]
structure VisOk {α:Type}(ob:α→List (Nat×Obj))(step:α→St→Int→α)(ok:α→Prop)(mu:α→Nat)(f:Nat)(caps:List C):Prop where
 nm:∀a b,(ob a).map Prod.fst=(ob b).map Prod.fst
 nd:∀a,((ob a).map Prod.fst).Nodup
 ne:∀a,∀p∈ob a,p.2≠.none
 st:∀a s n,ok a→ok (step a s n)
 ms:∀a s n,mu (step a s n)≤mu a+s.size-(Qg s.body+Qg s.els)
 c:∀(a:α) (s:St) (n:Int) (H:Heap) (K:V→Heap→Prop),ok a→mu a≤2^41→0≤n→(n≤2^41)→s.size≤2^40→(∀p∈ob a,H p.1=p.2)→(∀H',Upd H H' (ob (step a s n))→K (.tup []) H')→Qj prog f ([.ag s.cells,.c (.int .i64 n)]++caps.map .c) H K
mutual
theorem St.vis_ok {α:Type}{step:α→St→Int→α}{ok:α→Prop}(hs:∀a s n,ok a→ok (step a s n)):∀(x:St) (n:Int) (a:α),ok a→ok (x.vis step n a)
 |.mk op name args body els,n,a,h=>by
  simp only[St.vis]
  exact Quj hs els _ _ (Quj hs body _ _ (hs _ _ _ h))
theorem Quj {α:Type}{step:α→St→Int→α}{ok:α→Prop}(hs:∀a s n,ok a→ok (step a s n)):∀(l:List St) (n:Int) (a:α),ok a→ok (Qbk step l n a)
 |[],_,a,h=>by simpa[Qbk]using h
 |x::r,n,a,h=>by
  simp only[Qbk]
  exact Quj hs r _ _ (St.vis_ok hs x _ _ h)
end
mutual
theorem St.vis_mu {α:Type}{step:α→St→Int→α}{mu:α→Nat}(hs:∀a s n,mu (step a s n)≤mu a+s.size-(Qg s.body+Qg s.els)):∀(x:St) (n:Int) (a:α),mu (x.vis step n a)≤mu a+x.size
 |.mk op name args body els,n,a=>by
  simp only[St.vis]
  have h1:=hs a (.mk op name args body els) n
  have h2:=Qui hs body (n+1) (step a (.mk op name args body els) n)
  have h3:=Qui hs els (n+1) (Qbk step body (n+1) (step a (.mk op name args body els) n))
  have h4:=St.size_eq (.mk op name args body els)
  simp only[St.body,St.els,St.args]at h1 h4
  omega
theorem Qui {α:Type}{step:α→St→Int→α}{mu:α→Nat}(hs:∀a s n,mu (step a s n)≤mu a+s.size-(Qg s.body+Qg s.els)):∀(l:List St) (n:Int) (a:α),mu (Qbk step l n a)≤mu a+Qg l
 |[],_,a=>by simp[Qbk,Qg]
 |x::r,n,a=>by
  simp only[Qbk,Qg]
  have h1:=St.vis_mu hs x n a
  have h2:=Qui hs r n (x.vis step n a)
  omega
end
theorem Qazd {α:Type}{ob:α→List (Nat×Obj)}{step:α→St→Int→α}{ok:α→Prop}{mu:α→Nat}{f:Nat}{caps:List C}(hv:VisOk ob step ok mu f caps) :
  ∀(n:Nat) (l:List St) (nest:Int) (fl:Bool) (a:α) (H:Heap) (K:V→Heap→Prop),Qg l≤n→Qg l≤2^40→0≤nest→nest+n≤2^41→ok a→mu a+n≤2^41→(∀p∈ob a,H p.1=p.2)→(∀H',Upd H H' (ob (Qbk step l nest a))→K (.tup []) H')→
   Qj prog Qeu [.c (.sl fl 5 (Ql l)),.c (.int .i64 nest),.c (.fn f caps)] H K:=by
 intro n
 induction n using Nat.strongRecOn with
 |_ n ih=>
 intro l nest fl a H K hn hb h0 hm ha hmu hh hK
 refine Q8 ?_
 refine Qb Qaj Qahv ?_
 refine Qa ?_
 simp only[go_sem,Qw]
 intro hl
 simp only[LIM]at hl
 have hne:=hv.ne a
 have kn:Kn H H (ob a) []:=.startE (fun p hp=>⟨hh p hp,hne p hp⟩) (hv.nd a)
 refine Qd (Qt (fun m e1 H1=>∃(i:Nat),m=l.length-i∧i≤l.length∧Kn H H1 (ob (Qbk step (l.take i) nest a)) []∧
  e1=[(1,.c (.int .i64 nest)),(2,.c (.fn f caps)),(8,.c (.sl fl 5 (Ql l))),(9,.c (.int .i64 l.length)),(10,.c (.int .i64 i))]) l.length ?_ ?_)
 ·exact⟨0,by omega,by omega,by simpa[Qbk]using kn,rfl⟩
 ·clear kn
  rintro m e1 H1 ⟨i,hm1,hi,kn,rfl⟩
  obtain⟨a1,ha1⟩:∃a1,Qbk step (l.take i) nest a=a1:=⟨_,rfl⟩
  have hok1:ok a1:=by rw[←ha1];exact Quj hv.st _ _ _ ha
  have hmu1:=Qui hv.ms (l.take i) nest a
  have hsl:=Qca l i
  rw[ha1]at kn hmu1
  refine Qa ?_
  simp only[go_sem]
  refine Qe (Qc rfl ?_ ?_)
  ·intro hc
   have hlt:i<l.length:=by simpa using hc
   have hms:=Qai (List.getElem_mem hlt)
   have hst:=Ql0 hlt
   have hsl2:=Qca l (i+1)
   obtain⟨x,hx⟩:∃x,l[i]=x:=⟨_,rfl⟩
   rw[hx]at hms hst
   have hse:=x.size_eq
   have htk:=Qaub step hlt nest a
   rw[ha1,hx]at htk
   refine Qf ?_
   try simp only[go_sem]
   refine Qe (Qd ?_)
   refine Qa ?_
   simp only[go_sem,hlt,Qw,Qar _ _ hlt,hx,x.cells_eq]
   intro x7 hx7 H3 h3
   have kn:=kn.al hx7 h3
   have g7:=kn.l 0 rfl
   simp only[go_sem,Qpc,g7]
   intro H4 h4
   have kn:Kn H H4 (ob a1) [(x7,.st [.int .i64 x.op,.str x.name,.sl false 4 (Q2 x.args),.sl false 5 (Ql x.body),.sl false 5 (Ql x.els)])]:=kn.stL 0 rfl h4
   clear g7
   have g7:=kn.l 0 rfl
   refine Qa ?_
   simp only[go_sem,g7]
   have hvc:=hv.c a1 x nest
   rw[x.cells_eq]at hvc
   refine hvc _ _ hok1 (by omega) h0 (by omega) (by omega) (fun p hp=>(kn.get p (List.mem_append_left _ hp)).1) fun H5 hu=>?_
   have kn:=kn.callAll hu (hv.nm _ _) (hv.ne _)
   have g7:=kn.l 0 rfl
   have hok2:=hv.st a1 x nest hok1
   have hmu2:=hv.ms a1 x nest
   have hmu3:=Qui hv.ms x.body (nest+1) (step a1 x nest)
   simp only[go_sem]
   refine Qa ?_
   simp only[go_sem,g7]
   refine⟨Qo (by omega) (by omega),?_⟩
   refine ih (Qg x.body) (by omega) x.body (nest+1) _ _ _ _ (Nat.le_refl _) (by omega) (by omega) (by omega) hok2 (by omega) (fun p hp=>(kn.get p (List.mem_append_left _ hp)).1) fun H6 hu=>?_
   have kn:=kn.callAll hu (hv.nm _ _) (hv.ne _)
   have g7:=kn.l 0 rfl
   have hok3:=Quj hv.st x.body (nest+1) _ hok2
   simp only[go_sem]
   refine Qn ?_
   simp only[go_sem,g7]
   refine⟨Qo (by omega) (by omega),?_⟩
   refine ih (Qg x.els) (by omega) x.els (nest+1) _ _ _ _ (Nat.le_refl _) (by omega) (by omega) (by omega) hok3 (by omega) (fun p hp=>(kn.get p (List.mem_append_left _ hp)).1) fun H7 hu=>?_
   have kn:=Kn.drop (A:=[]) (kn.callAll hu (hv.nm _ _) (hv.ne _))
   simp only[go_sem]
   refine Qn ?_
   simp only[go_sem,X.next]
   refine⟨Qo (by omega) (by omega),l.length-(i+1),by omega,i+1,rfl,by omega,?_,rfl⟩
   rw[htk,x.vis_eq]
   exact kn
  ·intro hc
   have hge:l.length≤i:=by simpa using hc
   rw[List.take_of_length_le hge]at ha1
   refine Qu ?_
   simp only[go_sem,X.next,Q0,Q6,Qr8]
   refine⟨.tup [],.tup _ _ rfl fun j x x' h=>by simp at h,hK _ ?_⟩
   rw[ha1]
   exact kn.fin
end Go.AE.Y

namespace Go.AE.Y
attribute [local go_sem] cond_true cond_false Bool.not_true Bool.not_false
open Go.Proofs.Tryz
variable {H H0:Heap}{K:V→Heap→Prop}{E E' L:List (Nat×Obj)}
def Q92 (p:Int×Int)(s:St)(n:Int):Int×Int:=(p.1+1,if n > p.2 then n else p.2)
mutual
theorem St.ms_fst:∀(x:St) (n:Int) (p:Int×Int),(x.vis Q92 n p).1=p.1+x.cnt
 |.mk op name args body els,n,p=>by
  simp only[St.vis,St.cnt]
  rw[Q00 els,Q00 body,Q92]
  simp only[]
  omega
theorem Q00:∀(l:List St) (n:Int) (p:Int×Int),(Qbk Q92 l n p).1=p.1+Qc7 l
 |[],_,p=>by simp[Qbk,Qc7]
 |x::r,n,p=>by
  simp only[Qbk,Qc7]
  rw[Q00 r,St.ms_fst x]
  omega
end
def msOb (x2 x3:Nat)(p:Int×Int):List (Nat×Obj):=[(x2,.st [.int .i64 p.1]),(x3,.st [.int .i64 p.2])]
theorem Qa9d {x2 x3:Nat}(hne:x2≠x3):VisOk (msOb x2 x3) Q92 (fun p=>0≤p.1) (fun p=>p.1.toNat) Qhv [.ptr x2 0,.ptr x3 0]:=by
 refine⟨fun _ _=>rfl,fun _=>by simp[msOb,hne],fun a p hp=>?_,fun a s n h=>?_,fun a s n=>?_,fun a s n H K ha hmu h0 hn hs hh hK=>?_⟩
 ·simp only[msOb,List.mem_cons,List.not_mem_nil,or_false]at hp
  rcases hp with rfl|rfl <;> nofun
 ·show 0≤a.1+1
  omega
 ·show (a.1+1).toNat≤_
  have:=s.size_eq
  omega
 ·have h2:H x2=.st [.int .i64 a.1]:=hh (x2,_) (by simp[msOb])
  have h3:H x3=.st [.int .i64 a.2]:=hh (x3,_) (by simp[msOb])
  refine Qb Qaj Q9y ?_
  have kn:=Kn.start2 h2 (by nofun) h3 (by nofun) hne
  refine Qa ?_
  simp only[go_sem,s.cells_eq]
  refine Qa ?_
  simp only[go_sem,h2]
  refine⟨Qo (by omega) (by omega),fun H1 h1=>?_⟩
  have kn:=kn.stE 0 rfl h1
  have g3:=kn.e 1 rfl
  refine Qn ?_
  simp only[go_sem,g3]
  intro H2 hh2
  have kn:=kn.stE 1 rfl hh2
  simp only[Q0,Q6,Qr8,go_sem]
  exact hK _ ⟨fun p hp=>(kn.get p (List.mem_append_left _ hp)).1,fun m h1 h2=>kn.chg m h1 h2⟩
end Go.AE.Y
namespace Go.AE
open Go.AE.Y
open Go.Proofs.Tryz
variable {H H0:Heap}{K:V→Heap→Prop}{E E' L:List (Nat×Obj)}
theorem Kn.callLs {H':Heap}{L' M:List (Nat×Obj)}(kn:Kn H0 H E (L++M))(hu:Upd H H' L')(hn:L'.map Prod.fst=L.map Prod.fst)(hne:∀p∈L',p.2≠.none):Kn H0 H' E (L'++M):=by
 have hloc:∀m,m∈L'.map Prod.fst→H0 m=.none:=fun m h=>by
  rw[hn]at h
  obtain⟨q,hq,rfl⟩:=List.mem_map.1 h
  exact kn.loc q (List.mem_append_left _ hq)
 refine kn.callg hu rfl (by rw[List.map_append,List.map_append,hn]) (fun p hp=>?_) (fun m hm=>.inr (by rw[List.map_append,←hn];exact List.mem_append_left _ (List.mem_map.2 ⟨m,hm,rfl⟩)))
 rcases List.mem_append.1 hp with h|h
 ·exact⟨(kn.get p (List.mem_append_left _ h)).2,.inr ⟨List.mem_append_left _ h,fun hm=>kn.ext p h (hloc _ hm)⟩⟩
 rcases List.mem_append.1 h with h|h
 ·exact⟨hne p h,.inl h⟩
 ·refine⟨(kn.get p (List.mem_append_right _ (List.mem_append_right _ h))).2,.inr ⟨List.mem_append_right _ (List.mem_append_right _ h),fun hm=>?_⟩⟩
  rw[hn]at hm
  have hd:=kn.dL
  rw[List.map_append,List.nodup_append]at hd
  exact hd.2.2 _ hm _ (List.mem_map.2 ⟨p,h,rfl⟩) rfl
end Go.AE
namespace Go.AE.Y
open Go.Proofs.Tryz
variable {H H0:Heap}{K:V→Heap→Prop}{E E' L:List (Nat×Obj)}
theorem Qa5o {S:Nat→Bool}(n d:Int):FrzV H S (.tup [.c (.int .i64 n),.c (.int .i64 d)]) (.tup [.c (.int .i64 n),.c (.int .i64 d)]):=by
 refine .tup _ _ rfl fun j x x' h1 h2=>?_
 match j with
 |0=>simp at h1 h2;subst h1;subst h2;exact .c _ _ (Qk rfl)
 |1=>simp at h1 h2;subst h1;subst h2;exact .c _ _ (Qk rfl)
end Go.AE.Y
namespace Go.AE
open Go.AE.Y
open Go.Proofs.Tryz
variable {H H0:Heap}{K:V→Heap→Prop}{E E' L:List (Nat×Obj)}
theorem Kn.lm2 {x:Nat×Obj}(kn:Kn H0 H E L)(h:x∈L):H x.1=x.2:=(kn.get x (List.mem_append_right _ h)).1
end Go.AE
namespace Go.AE.Y
open Go.Proofs.Tryz
variable {H H0:Heap}{K:V→Heap→Prop}{E E' L:List (Nat×Obj)}
theorem Qa0f {l:List Fn}{fl:Bool}(hf:Q1 l≤2^40)(hK:∀(d:Int) H',Upd H H' []→K (.tup [.c (.int .i64 (Qd3 l)),.c (.int .i64 d)]) H'):Qj prog Qoh [.ag [.sl fl 3 (Qm l)]] H K:=by
 refine Q8 ?_
 refine Qb Qaj Qamr ?_
 refine Qa ?_
 simp only[go_sem]
 intro x2 hx2 H1 h1
 have kn:=(Kn.start0 H).al hx2 h1
 simp only[go_sem,Qs2]
 intro x3 hx3 H2 h2
 have kn:=kn.al hx3 h2
 have hne:x2≠x3:=kn.neL 0 1 rfl rfl (by omega)
 have kn:Kn H H2 [] (msOb x2 x3 (0,0)):=kn
 refine Qz ?_
 refine Qa ?_
 simp only[go_sem,Qp]
 intro hl
 simp only[LIM]at hl
 refine Qe (Qd (Qt (fun m e1 H1=>∃(i:Nat) (d:Int),m=l.length-i∧i≤l.length∧Kn H H1 [] (msOb x2 x3 ((Qd3 (l.take i):Int),d))∧
  e1=[(2,.c (.ptr x2 0)),(3,.c (.ptr x3 0)),(7,.c (.sl fl 3 (Qm l))),(8,.c (.int .i64 l.length)),(9,.c (.int .i64 i))]) l.length ?_ ?_))
 ·exact⟨0,0,by omega,by omega,kn,rfl⟩
 ·clear kn
  rintro m e1 H3 ⟨i,d,hm,hi,kn,rfl⟩
  refine Qa ?_
  simp only[go_sem]
  refine Qe (Qc rfl ?_ ?_)
  ·intro hc
   have hlt:i<l.length:=by simpa using hc
   have hm:=Qcd (List.getElem_mem hlt)
   have htk:=Qahh hlt
   have hpt:=Qajh hlt
   have htl:=Qpy l (i+1)
   have hct:=Qaul (l.take i)
   refine Qf ?_
   try simp only[go_sem]
   refine Qe (Qd ?_)
   refine Qa ?_
   simp only[go_sem,hlt,Qp,Qam _ _ hlt,Fn.cells]
   intro x5 hx5 H4 h4
   have kn:=kn.al hx5 h4
   have g5:=kn.l 2 rfl
   simp only[go_sem,Qs3,g5]
   intro H5 h5
   have kn:Kn H H5 [] (msOb x2 x3 ((Qd3 (l.take i):Int),d)++[(x5,_)]):=kn.stL 2 rfl h5
   have g5:=kn.l 2 rfl
   refine Qn ?_
   simp only[go_sem,g5]
   refine Qazd (Qa9d hne) (Qg l[i].body) l[i].body 1 _ ((Qd3 (l.take i):Int),d) _ _ (Nat.le_refl _) (by omega) (by omega) (by omega) (by show (0:Int)≤_;omega) (by show (Qd3 (l.take i):Int).toNat+_≤_;omega) (fun p hp=>kn.lm2 (List.mem_append_left _ hp)) fun H6 hu=>?_
   have kn:=Kn.drop (A:=msOb x2 x3 (Qbk Q92 l[i].body 1 ((Qd3 (l.take i):Int),d))) (kn.callLs hu rfl ((Qa9d hne).ne _))
   have hfs:=Q00 l[i].body 1 ((Qd3 (l.take i):Int),d)
   simp only[go_sem]
   refine Qn ?_
   simp only[go_sem,AE.X.next]
   refine⟨Qo (by omega) (by omega),l.length-(i+1),by omega,i+1,(Qbk Q92 l[i].body 1 ((Qd3 (l.take i):Int),d)).2,rfl,by omega,?_,rfl⟩
   have e:((Qd3 (l.take (i+1)):Int))=(Qbk Q92 l[i].body 1 ((Qd3 (l.take i):Int),d)).1:=by rw[hfs,htk];simp
   rw[e]
   exact kn
  ·intro hc
   have hge:l.length≤i:=by simpa using hc
   rw[List.take_of_length_le hge]at kn
   have g2:=kn.l 0 rfl
   have g3:=kn.l 1 rfl
   refine Qu ?_
   simp only[go_sem,AE.X.next]
   refine Qeo ?_
   simp only[go_sem,g2,g3]
   intro H4 h4
   have kn:=kn.stL 0 rfl h4
   have g3:=kn.l 1 rfl
   simp only[go_sem,Qs4,g3]
   intro H5 h5
   have kn:=kn.stL 1 rfl h5
   have g2:=kn.l 0 rfl
   have g3:=kn.l 1 rfl
   refine Qh ?_
   simp only[go_sem,Q0,Q6,Q4p,List.forall_mem_cons,List.not_mem_nil,RS.op,g2,g3]
   exact⟨fun _=>trivial,_,Qa5o _ _,hK d _ kn.fin⟩
end Go.AE.Y

namespace Go.AE.Y
attribute [local go_sem] cond_true cond_false Bool.not_true Bool.not_false
open Go.Proofs.Tryz
variable {H H0:Heap}{K:V→Heap→Prop}{E E' L:List (Nat×Obj)}
theorem Qadd {fl:Bool}{l:List (List UInt8)}{f:Nat}{caps:List C}{p:List UInt8→Bool}
  (hf:∀(x:List UInt8) (H1:Heap) (K':V→Heap→Prop),x∈l→Kn H H1 [] []→(∀H2,Upd H1 H2 []→K' (.c (.bool (p x))) H2)→Qj prog f ([.c (.str x)]++caps.map .c) H1 K')
  (hK:∀(r:Int) (H':Heap),Upd H H' []→decide (0≤r)=l.any p→K (.c (.int .i64 r)) H') :
  Qj prog Qcq [.c (.sl fl 1 (Qy l)),.c (.fn f caps)] H K:=by
 refine Q8 ?_
 refine Qb Qaj Qr1 ?_
 refine Qa ?_
 simp only[go_sem]
 refine Qz ?_
 refine Qa ?_
 simp only[go_sem,Qr]
 intro hl
 simp only[LIM]at hl
 refine Qe (Qd (Qt (fun m e1 H1=>∃(i:Nat),m=l.length-i∧i≤l.length∧Kn H H1 [] []∧(∀x∈l.take i,p x=false)∧e1=[(0,.c (.sl fl 1 (Qy l))),(1,.c (.fn f caps)),(7,.c (.int .i64 l.length)),(8,.c (.int .i64 i))]) l.length ?_ ?_))
 ·exact⟨0,by omega,by omega,Kn.start0 H,by simp,rfl⟩
 ·rintro m e1 H1 ⟨i,hm,hi,kn,hall,rfl⟩
  refine Qa ?_
  simp only[go_sem]
  refine Qe (Qc rfl ?_ ?_)
  ·intro hc
   have hlt:i<l.length:=by simpa using hc
   have hgd:l.getD i []=l[i]:=by simp[List.getD_eq_getElem?_getD,hlt]
   refine Qf ?_
   simp only[go_sem]
   refine Qe (Qd ?_)
   refine Qa ?_
   simp only[go_sem]
   refine Qa ?_
   simp only[go_sem,hlt,Qr,Qck _ _ hlt,hgd]
   refine hf _ _ _ (List.getElem_mem hlt) kn fun H2 hu=>?_
   have kn:=kn.call0 hu
   refine Qc rfl ?_ ?_
   ·intro hc2
    refine Qa ?_
    simp only[go_sem]
    refine Qh ?_
    simp only[go_sem,X.next,Q0,Q6,Qam8,List.mem_singleton,forall_eq,RS.op]
    refine⟨_,.c _ _ (Qk rfl),hK _ _ kn.fin ?_⟩
    have:l.any p=true:=List.any_eq_true.2 ⟨_,List.getElem_mem hlt,hc2⟩
    rw[this];simp
   ·intro hc2
    refine Qf ?_
    simp only[go_sem]
    refine Qn ?_
    simp only[go_sem,X.next]
    refine⟨Qo (by omega) (by omega),l.length-(i+1),by omega,i+1,rfl,by omega,kn,?_,rfl⟩
    rw[List.take_succ_eq_append_getElem hlt]
    intro x hx
    rcases List.mem_append.1 hx with hx|hx
    ·exact hall x hx
    ·simp only[List.mem_singleton]at hx;subst hx;exact hc2
  ·intro hc
   have hge:l.length≤i:=by simpa using hc
   rw[List.take_of_length_le hge]at hall
   refine Qu ?_
   simp only[go_sem,X.next]
   refine Qa ?_
   simp only[go_sem]
   refine Qh ?_
   simp only[go_sem,Q0,Q6,Qam8,List.mem_singleton,forall_eq,RS.op]
   refine⟨_,.c _ _ (Qk rfl),hK _ _ kn.fin ?_⟩
   have:l.any p=false:=by
    cases hc:l.any p with
    |false=>rfl
    |true=>obtain⟨x,hx,hp⟩:=List.any_eq_true.1 hc;rw[hall x hx]at hp;exact absurd hp (by simp)
   rw[this];rfl
theorem Q05 {fl:Bool}{l:List (List UInt8)}{f:Nat}{caps:List C}{p:List UInt8→Bool}
  (hf:∀(x:List UInt8) (H1:Heap) (K':V→Heap→Prop),x∈l→Kn H H1 [] []→(∀H2,Upd H1 H2 []→K' (.c (.bool (p x))) H2)→Qj prog f ([.c (.str x)]++caps.map .c) H1 K')
  (hK:∀(H':Heap),Upd H H' []→K (.c (.bool (l.any p))) H') :
  Qj prog Qbs [.c (.sl fl 1 (Qy l)),.c (.fn f caps)] H K:=by
 refine Qb Qaj Qm3 ?_
 refine Qa ?_
 simp only[go_sem]
 refine Qa ?_
 simp only[go_sem]
 refine Qadd hf fun r H' hu hr=>?_
 simp only[go_sem,Qd1]
 refine Qh ?_
 simp only[go_sem,Q0,Q6,Qam8,List.mem_singleton,forall_eq,RS.op]
 rw[hr];exact hK _ hu
theorem Qa98 {s:List UInt8}(g:GK H)(hK:∀H',Upd H H' []→K (.c (.bool (!Qc8 s))) H'):Qj prog Qdc [.c (.str s)] H K:=by
 refine Qb Qaj Quz ?_
 refine Qa ?_
 simp only[go_sem]
 refine Qa ?_
 simp only[go_sem]
 refine Qmz g fun H1 hu=>?_
 simp only[go_sem,Qf5]
 refine Qh ?_
 simp only[go_sem,Q0,Q6,Qgm,List.mem_singleton,forall_eq,RS.op]
 exact hK _ hu
theorem Q5n {l:List Fn}{fl:Bool}(hf:Q1 l≤2^40)(g:GK H)(hK:∀H',Upd H H' []→K (.c (.bool (Qmb l))) H'):Qj prog Qfk [.ag [.sl fl 3 (Qm l)]] H K:=by
 refine Q8 ?_
 have g0:=g
 refine Qb Qaj Q1n ?_
 have retf:∀(b:Bool) (e:Env) (H':Heap) (L:List (Nat×Obj)),Qmb l=b→Kn H H' [] L→lk 2 e=.c (.bool b)→Q0 Qgm (unK H K) .ret e H':=by
  intro b e H' L hf kn h4
  simp only[go_sem,Q0,Q6,Qgm,List.mem_singleton,forall_eq,RS.op,h4]
  refine⟨_,.c _ _ (Qk rfl),?_⟩
  rw[←hf];exact hK _ kn.fin
 have kn:=Kn.start0 H
 refine Qa ?_
 simp only[go_sem]
 refine Qz ?_
 refine Qa ?_
 simp only[go_sem,Qp]
 intro hl
 simp only[LIM]at hl
 refine Quw ?_
 simp only[go_sem,Qif]
 have hw:(decide ((1:Int)≤(l.length:Int))&&decide ((l.length:Int)≤4))=decide (1≤l.length∧l.length≤4):=by rw[Bool.eq_iff_iff];simp;omega
 rw[hw]
 refine Qe (Qc rfl ?_ ?_)
 ·intro hc
  have hc:=Qzs hc
  refine Qa ?_
  simp only[go_sem]
  refine Qh ?_
  simp only[go_sem,AE.X.next]
  exact retf false _ _ _ (by rw[Qmb,hc];rfl) kn (by simp[lk])
 intro hc
 have hlen:=Qr2 hc
 refine Qf ?_
 try simp only[go_sem]
 refine Qz ?_
 refine Qa ?_
 simp only[go_sem,Qp]
 intro _
 refine Qe (Qd (Qt (fun m e1 H1=>∃(i:Nat),m=l.length-i∧i≤l.length∧Kn H H1 [] []∧((l.take i).all Fn.form)=true∧
  e1=[(1,.c (.pp [.sl fl 3 (Qm l)])),(13,.c (.sl fl 3 (Qm l))),(14,.c (.int .i64 l.length)),(15,.c (.int .i64 i))]) l.length ?_ ?_))
 ·exact⟨0,by omega,by omega,kn,rfl,rfl⟩
 ·clear kn g
  rintro m e1 H2 ⟨i,hm,hi,kn,hall,rfl⟩
  have g:=g0.kn kn
  refine Qa ?_
  simp only[go_sem]
  refine Qe (Qc rfl ?_ ?_)
  ·intro hc
   have hlt:i<l.length:=by simpa using hc
   have hms:=Qcd (List.getElem_mem hlt)
   obtain⟨f,hfe⟩:∃f,l[i]=f:=⟨_,rfl⟩
   rw[hfe]at hms
   refine Qf ?_
   try simp only[go_sem]
   refine Qe (Qd ?_)
   refine Qa ?_
   simp only[go_sem,hlt,Qp,Qam _ _ hlt,hfe,Fn.cells]
   intro x4 hx4 H4 h4
   have kn:=kn.al hx4 h4
   have g4:=kn.l 0 rfl
   simp only[go_sem,Qig,g4]
   intro H5 h5
   have kn:=kn.stL 0 rfl h5
   have g:=g0.kn kn
   have g4:=kn.l 0 rfl
   have nx:∀(b:Bool) (H6:Heap) (L:List (Nat×Obj)),b = !f.form→Kn H H6 [] L→Qah prog Qj1 (X.inBlock 1 (X.sq prog Qj2 (X.next (fun e2 H2=>∃m_1,m_1<m∧∃i,m_1=l.length-i∧i≤l.length∧Kn H H2 [] []∧((l.take i).all Fn.form)=true∧
     e2=[(1,.c (.pp [.sl fl 3 (Qm l)])),(13,.c (.sl fl 3 (Qm l))),(14,.c (.int .i64 l.length)),(15,.c (.int .i64 i))]) (X.inBlock 0 (X.sq prog Qie (Q0 Qgm (unK H K)))))))
     [(1,.c (.pp [.sl fl 3 (Qm l)])),(13,.c (.sl fl 3 (Qm l))),(14,.c (.int .i64 l.length)),(15,.c (.int .i64 i)),(39,.c (.bool b))] H6:=by
    intro b H6 L hb kn
    refine Qc rfl (fun hc2=>?_) (fun hc2=>?_)
    ·rw[hc2]at hb
     refine Qa ?_
     simp only[go_sem]
     refine Qh ?_
     simp only[go_sem,AE.X.next]
     refine retf false _ _ _ ?_ kn (by simp[lk])
     rw[Qmb,Ql1 hlt (by rw[hfe];exact Qzs hb.symm)];simp
    ·rw[hc2]at hb
     refine Qf ?_
     try simp only[go_sem]
     refine Qn ?_
     simp only[go_sem,AE.X.next]
     exact⟨Qo (by omega) (by omega),l.length-(i+1),by omega,i+1,rfl,by omega,Kn.drop (A:=[]) kn,by rw[Qg5 hlt,hall,hfe,Qr2 hb.symm];rfl,rfl⟩
   refine Qa ?_
   simp only[go_sem,g4]
   refine Qmz g fun H6 hu=>?_
   have kn:=kn.call0 hu
   have g:=g0.kn kn
   have g4:=kn.l 0 rfl
   cases h1:Qc8 f.name with
   |false=>
    simp only[go_sem,Qbu,Qba,Qa9,g4,Qr]
    exact nx true _ _ (by rw[Fn.form,h1];simp) kn
   |true=>
    by_cases h2:3<f.params.length
    ·have hd2:decide ((3:Int)<(f.params.length:Int))=true:=decide_eq_true (by omega)
     simp only[go_sem,Qbu,Qba,Qa9,g4,hd2,Qr]
     try intro _
     exact nx true _ _ (by rw[Fn.form,decide_eq_false (by omega:¬f.params.length≤3)];simp) kn
    ·have hd2:decide ((3:Int)<(f.params.length:Int))=false:=decide_eq_false (by omega)
     simp only[go_sem,Qbu,g4,hd2,Qr]
     try intro _
     refine Q05 (p:=fun s=>!Qc8 s) (fun s H7 K' hs kn2 hK'=>Qa98 (g.kn kn2) hK') fun H7 hu=>?_
     have kn:=kn.call0 hu
     have g:=g0.kn kn
     have g4:=kn.l 0 rfl
     have ea:(f.params.any fun s=>!Qc8 s) = !f.params.all Qc8:=by rw[List.all_eq_not_any_not];simp
     rw[ea]
     cases h3:f.params.all Qc8 with
     |false=>
      simp only[go_sem,Qba,Qa9,g4]
      exact nx true _ _ (by rw[Fn.form,h3];rfl) kn
     |true=>
      simp only[go_sem,Qba,g4]
      refine Qa8k (Qg f.body) f.body 1 _ _ _ (Nat.le_refl _) (by omega) (by omega) (by omega) g fun H8 hu=>?_
      have kn:=kn.call0 hu
      simp only[go_sem,Qa9]
      refine nx _ _ _ ?_ kn
      rw[Fn.form,h1,h3,decide_eq_true (by omega:f.params.length≤3)];rfl
  ·intro hc
   have hge:l.length≤i:=by simpa using hc
   rw[List.take_of_length_le hge]at hall
   refine Qu ?_
   simp only[go_sem,AE.X.next]
   refine Qa ?_
   simp only[go_sem]
   refine Qa0f hf fun d H3 hu=>?_
   have kn:=kn.call0 hu
   simp only[go_sem,Qhj,List.getD_cons_zero,List.getD_cons_succ]
   refine Qa ?_
   simp only[go_sem]
   refine Qh ?_
   refine retf _ _ _ _ ?_ kn rfl
   rw[Qmb,hlen,hall,Bool.true_and,Bool.true_and,decide_eq_decide];omega
end Go.AE.Y

namespace Go.AE.Y
attribute [local go_sem] cond_true cond_false Bool.not_true Bool.not_false
open Go.Proofs.Tryz
variable {H H0:Heap}{K:V→Heap→Prop}{E E' L:List (Nat×Obj)}
structure ExVis {α:Type}(ob:α→List (Nat×Obj))(step:α→Ex→α)(ok:α→Prop)(f:Nat)(caps:List C):Prop where
 nm:∀a b,(ob a).map Prod.fst=(ob b).map Prod.fst
 nd:∀a,((ob a).map Prod.fst).Nodup
 ne:∀a,∀p∈ob a,p.2≠.none
 st:∀a s,ok a→ok (step a s)
 c:∀(a:α) (s:Ex) (H:Heap) (K:V→Heap→Prop),ok a→s.size≤2^40→(∀p∈ob a,H p.1=p.2)→(∀H',Upd H H' (ob (step a s))→K (.tup []) H')→Qj prog f ([.ag s.cells]++caps.map .c) H K
theorem Qauq {α:Type}{step:α→Ex→α}{ok:α→Prop}(hs:∀a s,ok a→ok (step a s)):∀(l:List Ex) (a:α),ok a→ok (l.foldl step a)
 |[],_,h=>h
 |x::r,a,h=>Qauq hs r _ (hs _ _ h)
theorem Qda {l:List Ex}{i:Nat}(h:i<l.length):Qaa (l.take (i+1))=Qaa (l.take i)++(l[i]).pre:=by
 rw[List.take_succ_eq_append_getElem h,Qav0];simp[Qaa]
theorem Qazc {α:Type}{ob:α→List (Nat×Obj)}{step:α→Ex→α}{ok:α→Prop}{f:Nat}{caps:List C}(hv:ExVis ob step ok f caps) :
  ∀(n:Nat) (x:Ex) (a:α) (H:Heap) (K:V→Heap→Prop),x.size≤n→x.size≤2^40→ok a→(∀p∈ob a,H p.1=p.2)→(∀H',Upd H H' (ob (x.pre.foldl step a))→K (.tup []) H')→
   Qj prog Qgh [.ag x.cells,.c (.fn f caps)] H K:=by
 intro n
 induction n with
 |zero=>intro x a H K h;have:=x.size_pos;omega
 |succ n ih=>
 intro x a H K hn hb ha hh hK
 have hsz:=x.size_kids
 refine Q8 ?_
 refine Qb Qaj Qahu ?_
 refine Qa ?_
 simp only[go_sem,x.cells_eq]
 refine Qa ?_
 simp only[go_sem]
 have kn:Kn H H (ob a) []:=.startE (fun p hp=>⟨hh p hp,hv.ne a p hp⟩) (hv.nd a)
 have hvc:=hv.c a x
 rw[x.cells_eq]at hvc
 refine hvc _ _ ha hb hh fun H1 hu=>?_
 have kn:=kn.callAll hu (hv.nm _ _) (hv.ne _)
 have hok1:=hv.st a x ha
 simp only[go_sem]
 refine Qa ?_
 simp only[go_sem,Qi]
 intro hl
 simp only[LIM]at hl
 refine Qd (Qt (fun m e1 H1=>∃(i:Nat),m=x.kids.length-i∧i≤x.kids.length∧Kn H H1 (ob ((Qaa (x.kids.take i)).foldl step (step a x))) []∧
  e1=[(1,.c (.fn f caps)),(10,.c (.sl false 4 (Q2 x.kids))),(11,.c (.int .i64 x.kids.length)),(12,.c (.int .i64 i))]) x.kids.length ?_ ?_)
 ·exact⟨0,by omega,by omega,by simpa[Qaa]using kn,rfl⟩
 ·clear kn
  rintro m e1 H2 ⟨i,hm1,hi,kn,rfl⟩
  obtain⟨a1,ha1⟩:∃a1,(Qaa (x.kids.take i)).foldl step (step a x)=a1:=⟨_,rfl⟩
  have hok2:ok a1:=by rw[←ha1];exact Qauq hv.st _ _ hok1
  rw[ha1]at kn
  refine Qa ?_
  simp only[go_sem]
  refine Qe (Qc rfl ?_ ?_)
  ·intro hc
   have hlt:i<x.kids.length:=by simpa using hc
   have hms:=Qad (List.getElem_mem hlt)
   obtain⟨y,hy⟩:∃y,x.kids[i]=y:=⟨_,rfl⟩
   have htk:=Qda hlt
   rw[hy]at hms htk
   refine Qf ?_
   try simp only[go_sem]
   refine Qe (Qd ?_)
   refine Qa ?_
   simp only[go_sem,hlt,Qi,Qag _ _ hlt,hy,y.cells_eq]
   intro x5 hx5 H3 h3
   have kn:=kn.al hx5 h3
   have g5:=kn.l 0 rfl
   simp only[go_sem,Qpa,g5]
   intro H4 h4
   have kn:=kn.stL 0 rfl h4
   have g5:=kn.l 0 rfl
   refine Qn ?_
   simp only[go_sem,g5]
   have hih:=fun K=>ih y a1 H4 K
   rw[y.cells_eq]at hih
   refine hih _ (by omega) (by omega) hok2 (fun p hp=>(kn.get p (List.mem_append_left _ hp)).1) fun H5 hu=>?_
   have kn:=Kn.drop (A:=[]) (kn.callAll hu (hv.nm _ _) (hv.ne _))
   simp only[go_sem]
   refine Qn ?_
   simp only[go_sem,AE.X.next]
   refine⟨Qo (by omega) (by omega),x.kids.length-(i+1),by omega,i+1,rfl,by omega,?_,rfl⟩
   rw[htk,List.foldl_append,ha1]
   exact kn
  ·intro hc
   have hge:x.kids.length≤i:=by simpa using hc
   rw[List.take_of_length_le hge]at ha1
   refine Qu ?_
   simp only[go_sem,AE.X.next,Q0,Q6,Qr8]
   refine⟨.tup [],.tup _ _ rfl fun j x x' h=>by simp at h,hK _ ?_⟩
   rw[x.pre_eq,List.foldl_cons,ha1]
   exact kn.fin
end Go.AE.Y

namespace Go.AE.Y
theorem Qa5a (fns:List Fn)(k:Nat)(op:Int)(name:List UInt8)(args:List Ex)(s:Ck){b:List (List UInt8×Nat)}{r:Vars}(h:s.v=b::r):∃b',(stC fns k op name args s).v=b'::r:=by
 simp only[stC]
 split
 ·exact⟨(name,s.n)::b,by simp[Qr6,h]⟩
 ·split
  ·exact⟨b,h⟩
  ·exact⟨b,h⟩
theorem Qaif {l:List St}{i:Nat}(fns:List Fn)(k:Nat)(h:i<l.length)(s:Ck):Qao fns k (l.take (i+1)) s=(l[i]).ck fns k (Qao fns k (l.take i) s):=by
 rw[List.take_succ_eq_append_getElem h,Qa2d];simp[Qao]
end Go.AE.Y

namespace Go.AE.Y
variable {g:Nat→List Nat}{xs:List Nat}{S S' S1:List Bool}{o o' o1:List Nat}
def cnt (S:List Bool):Nat:=S.count true
end Go.AE.Y

namespace Go.AE.Y
attribute [local instance] Classical.propDecidable
variable {g:Nat→List Nat}{A B:Nat→Prop}{x y z:Nat}
variable {xs:List Nat}{S S' S1:List Bool}{o o' o1:List Nat}
theorem Qalw:∀{l k:List Nat},l.Pairwise (· < ·)→k.Pairwise (· < ·)→(∀x,x∈l↔x∈k)→l=k
 |[],[],_,_,_=>rfl
 |[],b::k,_,_,h=>by have:=(h b).2 List.mem_cons_self;simp at this
 |a::l,[],_,_,h=>by have:=(h a).1 List.mem_cons_self;simp at this
 |a::l,b::k,h1,h2,h=>by
  rw[List.pairwise_cons]at h1 h2
  have hab:a=b:=by
   rcases List.mem_cons.1 ((h a).1 List.mem_cons_self)with e|e
   ·exact e
   ·rcases List.mem_cons.1 ((h b).2 List.mem_cons_self)with e'|e'
    ·exact e'.symm
    ·have:=h1.1 b e';have:=h2.1 a e;omega
  subst hab
  congr 1
  refine Qalw h1.2 h2.2 fun x=>⟨fun hx=>?_,fun hx=>?_⟩
  ·rcases List.mem_cons.1 ((h x).1 (List.mem_cons_of_mem _ hx))with e|e
   ·subst e;have:=h1.1 x hx;omega
   ·exact e
  ·rcases List.mem_cons.1 ((h x).2 (List.mem_cons_of_mem _ hx))with e|e
   ·subst e;have:=h2.1 x hx;omega
   ·exact e
variable {n h:Nat}
end Go.AE.Y

namespace Go.AE.Y
attribute [local instance] Classical.propDecidable
structure Flo where
 n:Nat
 nx:Nat→List Nat
 on:Nat→List Nat
 ins:Nat→List (Option Nat×List Nat)
 ph:Nat→List Nat
 ea:Nat→Nat→List Nat
abbrev RS':=Nat→Prop
variable {F:Flo}
def Flo.fits (F:Flo):Prop:=∀b,b<F.n→∀m∈F.nx b,m<F.n
variable {I J:Nat→RS'}
noncomputable def ascL (R:Nat)(S:RS'):List Nat:=(List.range R).filter fun r=>decide (S r)
theorem ascL_mem {R:Nat}{S:RS'}{r:Nat}:r∈ascL R S↔r<R∧S r:=by simp[ascL]
theorem Qain {R:Nat}{S:RS'}:(ascL R S).Pairwise (· < ·):=List.Pairwise.filter _ List.pairwise_lt_range
theorem Qax8 {R:Nat}{S:RS'}:(ascL R S).length≤R:=by
 have:=List.length_filter_le (fun r=>decide (S r)) (List.range R)
 simpa[ascL]using this
theorem Qajf {a:List Nat}(ha:a.Nodup):∀{b:List Nat},(∀x∈a,x∈b)→a.length≤b.length:=by
 induction a with
 |nil=>intro b _;simp
 |cons x a ih=>
  intro b h
  have hx:=h x List.mem_cons_self
  have hn:=List.nodup_cons.1 ha
  have:=ih hn.2 (b:=b.erase x) fun y hy=>(List.mem_erase_of_ne (fun he=>by subst he;exact hn.1 hy)).2 (h y (List.mem_cons_of_mem _ hy))
  rw[List.length_erase_of_mem hx]at this
  have hp:=List.length_pos_of_mem hx
  simp only[List.length_cons];omega
theorem Qam4 {a:List Nat}{R:Nat}(ha:a.Nodup)(h:∀x∈a,x<R):a.length≤R:=by
 have:=Qajf ha (b:=List.range R) fun x hx=>List.mem_range.2 (h x hx)
 simpa using this
end Go.AE.Y

namespace Go.AE.Y
attribute [local instance] Classical.propDecidable
mutual
def St.pre:St→List Ex
 |.mk _ _ args body els=>Qaa args++Qa5 body++Qa5 els
def Qa5:List St→List Ex
 |[]=>[]
 |x::r=>x.pre++Qa5 r
end
theorem St.pre_eq (x:St):x.pre=Qaa x.args++Qa5 x.body++Qa5 x.els:=by cases x;simp only[St.pre,St.args,St.body,St.els]
theorem Qaxs (a b:List St):Qa5 (a++b)=Qa5 a++Qa5 b:=by
 induction a with
 |nil=>simp[Qa5]
 |cons x r ih=>simp only[List.cons_append,Qa5,ih,List.append_assoc]
theorem fst0_zero {a b:Int}:Qcb a b=0↔a=0∧b=0:=by
 unfold Qcb;split <;> omega
theorem Qaus (a b c:Int):Qcb (Qcb a b) c=Qcb a (Qcb b c):=by
 unfold Qcb
 by_cases h:a=0 <;> simp[h]
theorem Qahr (a:Int):Qcb a 0=a:=by unfold Qcb;split <;> omega
theorem partsC_zero {fns:List Fn}{k:Nat}{v:Vars}{l:List Ex}{c:Int}:Qat fns k v l c=0↔c=0∧∀e∈l,Qd6 fns k v e=0:=by
 induction l generalizing c with
 |nil=>simp[Qat]
 |cons x r ih=>
  have:Qat fns k v (x::r) c=Qat fns k v r (Qcb c (Qd6 fns k v x)):=rfl
  rw[this,ih,fst0_zero]
  simp only[List.mem_cons,forall_eq_or_imp,and_assoc]
theorem Qam6 {fns gns:List Fn}{k m:Nat}{v:Vars}{l:List Ex}(h:∀e∈l,Qd6 fns k v e=Qd6 gns m v e)(c:Int):Qat fns k v l c=Qat gns m v l c:=by
 induction l generalizing c with
 |nil=>rfl
 |cons x r ih=>
  show Qat fns k v r (Qcb c (Qd6 fns k v x))=Qat gns m v r (Qcb c (Qd6 gns m v x))
  rw[h x List.mem_cons_self]
  exact ih (fun e he=>h e (List.mem_cons_of_mem _ he)) _
def calC (fns:List Fn)(k:Nat)(p:Ex):Int:=match Qle (fns.take k) p.name with
 |none=>4
 |some j=>if ((fns[j]?.map fun f=>f.params.length).getD 0)=p.kids.length then 0 else 5
theorem Q1v {fns:List Fn}{k:Nat}{v:Vars}{p:Ex}(h:p.op=13):Qd6 fns k v p=calC fns k p:=by
 rw[Qd6,if_neg (by omega),if_pos h];rfl
theorem Qarh {fns gns:List Fn}{k m:Nat}{v:Vars}{p:Ex}(h:¬p.op=13):Qd6 fns k v p=Qd6 gns m v p:=by
 unfold Qd6
 simp only[h,if_false]
theorem Qa5b {fns:List Fn}{k:Nat}{op:Int}{name:List UInt8}{args:List Ex}{s:Ck}(h:(stC fns k op name args s).c=0):s.c=0∧∀e∈Qaa args,e.op=13→calC fns k e=0:=by
 have h2:Qat fns k s.v (Qaa args) s.c=0:=by
  unfold stC at h
  simp only at h
  split at h
  ·exact (fst0_zero.1 h).1
  ·split at h
   ·exact (fst0_zero.1 h).1
   ·exact h
 obtain⟨h3,h4⟩:=partsC_zero.1 h2
 exact⟨h3,fun e he ho=>by rw[←Q1v (v:=s.v) ho];exact h4 e he⟩
mutual
theorem St.ck_zero {fns:List Fn}{k:Nat}:∀(x:St) {s:Ck},(x.ck fns k s).c=0→s.c=0∧∀e∈x.pre,e.op=13→calC fns k e=0
 |.mk op name args body els,s,h=>by
  simp only[St.ck]at h
  obtain⟨h1,h2⟩:=Qjd els h
  obtain⟨h3,h4⟩:=Qjd body h1
  obtain⟨h5,h6⟩:=Qa5b h3
  refine⟨h5,fun e he ho=>?_⟩
  simp only[St.pre,List.mem_append]at he
  rcases he with (he|he)|he
  ·exact h6 e he ho
  ·exact h4 e he ho
  ·exact h2 e he ho
theorem Qjd {fns:List Fn}{k:Nat}:∀(l:List St) {s:Ck},(Qao fns k l s).c=0→s.c=0∧∀e∈Qa5 l,e.op=13→calC fns k e=0
 |[],s,h=>⟨h,by simp[Qa5]⟩
 |x::r,s,h=>by
  simp only[Qao]at h
  obtain⟨h1,h2⟩:=Qjd r h
  obtain⟨h3,h4⟩:=St.ck_zero x h1
  refine⟨h3,fun e he ho=>?_⟩
  simp only[Qa5,List.mem_append]at he
  rcases he with he|he
  ·exact h4 e he ho
  ·exact h2 e he ho
end
theorem Qa19 {fns gns:List Fn}{k m:Nat}{op:Int}{name:List UInt8}{args:List Ex}{s:Ck}(h:∀e∈Qaa args,e.op=13→calC fns k e=calC gns m e):stC fns k op name args s=stC gns m op name args s:=by
 have:Qat fns k s.v (Qaa args) s.c=Qat gns m s.v (Qaa args) s.c:=Qam6 (fun e he=>by
  by_cases ho:e.op=13
  ·rw[Q1v ho,Q1v ho];exact h e he ho
  ·exact Qarh ho) _
 unfold stC
 rw[this]
mutual
theorem St.ck_congr {fns gns:List Fn}{k m:Nat}:∀(x:St) {s:Ck},(∀e∈x.pre,e.op=13→calC fns k e=calC gns m e)→x.ck fns k s=x.ck gns m s
 |.mk op name args body els,s,h=>by
  simp only[St.pre,List.mem_append]at h
  simp only[St.ck]
  rw[Qa19 (fns:=fns) (gns:=gns) (m:=m) fun e he ho=>h e (.inl (.inl he)) ho]
  rw[Qpr body fun e he ho=>h e (.inl (.inr he)) ho]
  rw[Qpr els fun e he ho=>h e (.inr he) ho]
theorem Qpr {fns gns:List Fn}{k m:Nat}:∀(l:List St) {s:Ck},(∀e∈Qa5 l,e.op=13→calC fns k e=calC gns m e)→Qao fns k l s=Qao gns m l s
 |[],s,h=>rfl
 |x::r,s,h=>by
  simp only[Qa5,List.mem_append]at h
  simp only[Qao]
  rw[St.ck_congr x fun e he ho=>h e (.inl he) ho]
  exact Qpr r fun e he ho=>h e (.inr he) ho
end
theorem Qa0o {ps:List (List UInt8)}{s:Ck}(h:(Qxi ps s).c=0):s.c=0:=by
 induction ps generalizing s with
 |nil=>exact h
 |cons p r ih=>
  have:Qxi (p::r) s=Qxi r ⟨Qr6 s.v p s.n,Qcb s.c (if Qgl s.v p then 2 else 0),s.n+1⟩:=rfl
  rw[this]at h
  exact (fst0_zero.1 (ih h)).1
theorem Qaho {fns:List Fn}:∀(l:List Nat) (c:Int),l.foldl (fun c i=>Qcb c (fnCk fns i).c) c=0↔c=0∧∀i∈l,(fnCk fns i).c=0
 |[],c=>by simp
 |x::r,c=>by
  rw[List.foldl_cons,Qaho r,fst0_zero]
  simp only[List.mem_cons,forall_eq_or_imp,and_assoc]
theorem Qauk {fns:List Fn}{k:Nat}:ckK fns k=0↔∀i,i<k→(fnCk fns i).c=0:=by
 rw[ckK,Qaho];simp
structure FineP (fns:List Fn):Prop where
 v:Qmb fns=true
 c:∀k (h:k<fns.length),(Qao fns k fns[k].body (Qxi fns[k].params ⟨[[]],0,0⟩)).c=0
 ix:∀k (h:k<fns.length),Qle fns fns[k].name=some k
theorem fine_iff {fns:List Fn}:Qmp fns=true↔FineP fns:=by
 rw[Qmp,decide_eq_true_eq,Q5s]
 constructor
 ·intro h
  split at h
  ·rename_i hv
   rw[Qauk]at h
   have h1:∀k (hk:k<fns.length),(if Qle fns fns[k].name=some k then (0:Int)else 2)=0∧(Qao fns k fns[k].body (Qxi fns[k].params ⟨[[]],if Qle fns fns[k].name=some k then 0 else 2,0⟩)).c=0:=fun k hk=>by
    have:=h k hk
    rw[fnCk,List.getElem?_eq_getElem hk]at this
    exact⟨Qa0o (Qjd _ this).1,this⟩
   have h2:∀k (hk:k<fns.length),Qle fns fns[k].name=some k:=fun k hk=>by
    have:=(h1 k hk).1
    split at this
    ·assumption
    ·simp at this
   refine⟨hv,fun k hk=>?_,h2⟩
   have:=(h1 k hk).2
   rw[if_pos (h2 k hk)]at this
   exact this
  ·simp at h
 ·intro h
  rw[if_pos h.v,Qauk]
  intro k hk
  rw[fnCk,List.getElem?_eq_getElem hk]
  simp only[]
  rw[if_pos (h.ix k hk)]
  exact h.c k hk
theorem FineP.len {fns:List Fn}(h:FineP fns):0<fns.length∧fns.length≤4:=by
 have:=h.v
 simp only[Qmb,Bool.and_eq_true,decide_eq_true_eq]at this
 omega
theorem Qzd {l:List Fn}{s:List UInt8}{j:Nat}(h:Qle l s=some j):∃hj:j<l.length,l[j].name=s∧∀i (hi:i<j),l[i].name≠s:=by
 rw[Qle,List.findIdx?_eq_some_iff_getElem]at h
 obtain⟨hj,h1,h2⟩:=h
 exact⟨hj,by simpa using h1,fun i hi=>by simpa using h2 i hi⟩
theorem Qaql {l:List Fn}{s:List UInt8}{j:Nat}(hj:j<l.length)(h1:l[j].name=s)(h2:∀i (hi:i<j),l[i].name≠s):Qle l s=some j:=by
 rw[Qle,List.findIdx?_eq_some_iff_getElem]
 exact⟨hj,by simpa using h1,fun i hi=>by simpa using h2 i hi⟩
theorem FineP.inj {fns:List Fn}(h:FineP fns){i j:Nat}(hi:i<fns.length)(hj:j<fns.length)(he:fns[i].name=fns[j].name):i=j:=by
 have h1:=h.ix i hi
 rw[he,h.ix j hj]at h1
 exact (Option.some.inj h1).symm
theorem FineP.call {fns:List Fn}(h:FineP fns){k:Nat}(hk:k<fns.length){e:Ex}(he:e∈Qa5 fns[k].body)(ho:e.op=13) :
  ∃j,∃hj:j<k,∃hl:j<fns.length,fns[j].name=e.name∧fns[j].params.length=e.kids.length:=by
 have:=(Qjd _ (h.c k hk)).2 e he ho
 unfold calC at this
 cases hx:Qle (fns.take k) e.name with
 |none=>rw[hx]at this;simp at this
 |some j=>
  rw[hx]at this
  obtain⟨hj,h1,_⟩:=Qzd hx
  rw[List.length_take]at hj
  have hl:j<fns.length:=by omega
  refine⟨j,by omega,hl,by simpa using h1,?_⟩
  simp only[List.getElem?_eq_getElem hl,Option.map_some,Option.getD_some]at this
  split at this
  ·assumption
  ·simp at this
def Cls (fns:List Fn)(k j:Nat):Prop:=∃(hk:k<fns.length) (hj:j<fns.length),∃e∈Qa5 fns[k].body,e.op=13∧e.name=fns[j].name
inductive NdF (fns:List Fn):Nat→Prop
 |top:NdF fns (fns.length-1)
 |to {k j:Nat}:NdF fns k→Cls fns k j→NdF fns j
noncomputable def Qmo (fns:List Fn)(k:Nat):List Nat:=ascL fns.length (Cls fns k)
noncomputable def Qfy (fns:List Fn):List Nat:=ascL fns.length (NdF fns)
theorem FineP.cls_lt {fns:List Fn}(h:FineP fns){k j:Nat}(hc:Cls fns k j):j<k:=by
 obtain⟨hk,hj,e,he,ho,hn⟩:=hc
 obtain⟨j',h1,h2,h3,_⟩:=h.call hk he ho
 have:=h.inj h2 hj (h3.trans hn)
 omega
theorem FineP.nd_lt {fns:List Fn}(h:FineP fns){k:Nat}(hn:NdF fns k):k<fns.length:=by
 have:=h.len
 cases hn with
 |top=>omega
 |to _ hc=>obtain⟨_,hj,_⟩:=hc;exact hj
theorem FineP.need_mem {fns:List Fn}(h:FineP fns){k:Nat}:k∈Qfy fns↔NdF fns k:=by
 rw[Qfy,ascL_mem]
 exact⟨fun x=>x.2,fun x=>⟨h.nd_lt x,x⟩⟩
def Q1e (fns:List Fn)(k:Nat):Fn:=(fns[k]?).getD ⟨[],[],[]⟩
theorem Qji {fns:List Fn}{k:Nat}(h:k<fns.length):Q1e fns k=fns[k]:=by simp[Q1e,h]
noncomputable def Ql2 (fns:List Fn):List Fn:=(Qfy fns).map (Q1e fns)
theorem Q9d (fns:List Fn):(Ql2 fns).length=(Qfy fns).length:=by simp[Ql2]
theorem Qoo (fns:List Fn):(Qfy fns).Pairwise (· < ·):=Qain
theorem Qzb {fns:List Fn}(h:FineP fns){i:Nat}(hi:i<(Ql2 fns).length):∃hn:i<(Qfy fns).length,∃hk:(Qfy fns)[i]<fns.length,(Ql2 fns)[i]=fns[(Qfy fns)[i]]:=by
 have hn:i<(Qfy fns).length:=by rw[←Q9d];exact hi
 have hk:(Qfy fns)[i]<fns.length:=h.nd_lt (h.need_mem.1 (List.getElem_mem hn))
 refine⟨hn,hk,?_⟩
 simp only[Ql2,List.getElem_map]
 exact Qji hk
theorem Qa0k {fns:List Fn}(h:FineP fns):0<(Qfy fns).length∧∀(hn:(Qfy fns).length-1<(Qfy fns).length),(Qfy fns)[(Qfy fns).length-1]=fns.length-1:=by
 have hm:fns.length-1∈Qfy fns:=h.need_mem.2 .top
 obtain⟨i,hi,he⟩:=List.mem_iff_getElem.1 hm
 refine⟨by omega,fun hn=>?_⟩
 have hl:=h.nd_lt (h.need_mem.1 (List.getElem_mem hn))
 by_cases hii:i=(Qfy fns).length-1
 ·subst hii;exact he
 ·have:=List.pairwise_iff_getElem.1 (Qoo fns) i ((Qfy fns).length-1) hi hn (by omega)
  omega
theorem Qal4 {fns:List Fn}:∀(l:List Nat) (n:Nat),l.Pairwise (· < ·)→(∀x∈l,n≤x∧x<fns.length)→Qd3 (l.map (Q1e fns))≤Qd3 (fns.drop n)
 |[],n,_,_=>by simp[Qd3]
 |x::r,n,hp,hx=>by
  obtain⟨h1,h2⟩:=hx x List.mem_cons_self
  have hp2:=List.pairwise_cons.1 hp
  have ih:=Qal4 (fns:=fns) r (x+1) hp2.2 fun y hy=>⟨hp2.1 y hy,(hx y (List.mem_cons_of_mem _ hy)).2⟩
  have e1:fns.drop x=fns[x]::fns.drop (x+1):=(List.getElem_cons_drop h2).symm
  have e2:Qd3 (fns.drop x)≤Qd3 (fns.drop n):=by
   have:fns.drop n=(fns.drop n).take (x-n)++fns.drop x:=by
    conv=>lhs;rw[←List.take_append_drop (x-n) (fns.drop n)]
    rw[List.drop_drop];congr 2;omega
   rw[this,Qal3];omega
  rw[e1]at e2
  simp only[List.map_cons,Qd3,Qji h2]at e2⊢
  omega
theorem Qavv {fns:List Fn}(h:FineP fns):FineP (Ql2 fns):=by
 obtain⟨hl0,hl4⟩:=h.len
 have hnl:=(Qa0k h).1
 have hle:(Qfy fns).length≤fns.length:=Qax8
 have hv:=h.v
 simp only[Qmb,Bool.and_eq_true,decide_eq_true_eq,List.all_eq_true]at hv
 have hix:∀k (hk:k<(Ql2 fns).length),Qle (Ql2 fns) (Ql2 fns)[k].name=some k:=by
  intro k hk
  refine Qaql hk rfl fun i hi=>?_
  obtain⟨a1,a2,a3⟩:=Qzb h (show i<(Ql2 fns).length by omega)
  obtain⟨b1,b2,b3⟩:=Qzb h hk
  rw[a3,b3]
  intro he
  have:=h.inj a2 b2 he
  have h3:=List.pairwise_iff_getElem.1 (Qoo fns) i k a1 b1 hi
  omega
 refine⟨?_,fun k hk=>?_,hix⟩
 ·simp only[Qmb,Bool.and_eq_true,decide_eq_true_eq,List.all_eq_true]
  refine⟨⟨by rw[Q9d];omega,fun f hf=>?_⟩,?_⟩
  ·obtain⟨i,hi,rfl⟩:=List.getElem_of_mem hf
   obtain⟨_,a2,a3⟩:=Qzb h hi
   rw[a3];exact hv.1.2 _ (List.getElem_mem a2)
  ·have:=Qal4 (fns:=fns) (Qfy fns) 0 (Qoo fns) fun x hx=>⟨Nat.zero_le _,h.nd_lt (h.need_mem.1 hx)⟩
   rw[List.drop_zero]at this
   exact Nat.le_trans this hv.2
 ·obtain⟨b1,b2,b3⟩:=Qzb h hk
  rw[b3]
  have hc:=h.c _ b2
  rw[Qpr (gns:=fns) (m:=(Qfy fns)[k])]
  ·exact hc
  ·intro e he ho
   have h0:=(Qjd _ hc).2 e he ho
   rw[h0]
   obtain⟨j,hj,hjl,hn,hp⟩:=h.call b2 he ho
   have hnd:NdF fns j:=.to (h.need_mem.1 (List.getElem_mem b1)) ⟨b2,hjl,e,he,ho,hn.symm⟩
   obtain⟨i,hi,hie⟩:=List.mem_iff_getElem.1 (h.need_mem.2 hnd)
   have hik:i<k:=by
    rcases Nat.lt_or_ge i k with h'|h'
    ·exact h'
    ·exfalso
     rcases Nat.lt_or_ge k i with h''|h''
     ·have:=List.pairwise_iff_getElem.1 (Qoo fns) k i b1 hi h''
      omega
     ·have:i=k:=by omega
      subst this;omega
   have hid:i<(Ql2 fns).length:=by rw[Q9d];exact hi
   obtain⟨_,c2,c3⟩:=Qzb h hid
   have hin:(Ql2 fns)[i]=fns[j]:=by rw[c3];congr 1
   have:Qle ((Ql2 fns).take k) e.name=some i:=by
    refine Qaql (by rw[List.length_take];omega) (by rw[List.getElem_take,hin,hn]) fun m hm=>?_
    rw[List.getElem_take]
    intro he2
    have h5:=hix i hid
    rw[hin,hn,←he2]at h5
    rw[hix m (by omega)]at h5
    have:=Option.some.inj h5
    omega
   rw[calC,this]
   simp only[List.getElem?_eq_getElem hid,Option.map_some,Option.getD_some,hin,hp,if_true]
end Go.AE.Y

namespace Go.AE.Y
theorem Qam7 (fns:List Fn)(k:Nat)(v:Vars)(a:Int):∀(l:List Ex) (c:Int),Qat fns k v l (Qcb a c)=Qcb a (Qat fns k v l c)
 |[],c=>rfl
 |x::r,c=>by
  show Qat fns k v r (Qcb (Qcb a c) (Qd6 fns k v x))=Qcb a (Qat fns k v r (Qcb c (Qd6 fns k v x)))
  rw[Qaus,Qam7 fns k v a r]
theorem Qa9v (fns:List Fn)(k:Nat)(op:Int)(name:List UInt8)(args:List Ex)(a:Int)(s:Ck) :
  stC fns k op name args ⟨s.v,Qcb a s.c,s.n⟩=⟨(stC fns k op name args s).v,Qcb a (stC fns k op name args s).c,(stC fns k op name args s).n⟩:=by
 simp only[stC,Qam7]
 split
 ·simp only[Qaus]
 ·split
  ·simp only[Qaus]
  ·rfl
mutual
theorem St.ck_sh (fns:List Fn)(k:Nat)(a:Int):∀(x:St) (s:Ck),x.ck fns k ⟨s.v,Qcb a s.c,s.n⟩=⟨(x.ck fns k s).v,Qcb a (x.ck fns k s).c,(x.ck fns k s).n⟩
 |.mk op name args body els,s=>by
  simp only[St.ck,Qa9v]
  have h1:=Q83 fns k a body ⟨[]::(stC fns k op name args s).v,(stC fns k op name args s).c,(stC fns k op name args s).n⟩
  simp only at h1
  rw[h1]
  have h2:=Q83 fns k a els ⟨[]::(stC fns k op name args s).v,(Qao fns k body ⟨[]::(stC fns k op name args s).v,(stC fns k op name args s).c,(stC fns k op name args s).n⟩).c,(Qao fns k body ⟨[]::(stC fns k op name args s).v,(stC fns k op name args s).c,(stC fns k op name args s).n⟩).n⟩
  simp only at h2
  rw[h2]
theorem Q83 (fns:List Fn)(k:Nat)(a:Int):∀(l:List St) (s:Ck),Qao fns k l ⟨s.v,Qcb a s.c,s.n⟩=⟨(Qao fns k l s).v,Qcb a (Qao fns k l s).c,(Qao fns k l s).n⟩
 |[],s=>by simp only[Qao]
 |x::r,s=>by
  simp only[Qao]
  rw[St.ck_sh fns k a x s]
  exact Q83 fns k a r (x.ck fns k s)
end
theorem Qa0n (a:Int):∀(ps:List (List UInt8)) (s:Ck),Qxi ps ⟨s.v,Qcb a s.c,s.n⟩=⟨(Qxi ps s).v,Qcb a (Qxi ps s).c,(Qxi ps s).n⟩
 |[],s=>rfl
 |p::r,s=>by
  show Qxi r ⟨Qr6 s.v p s.n,Qcb (Qcb a s.c) (if Qgl s.v p then 2 else 0),s.n+1⟩=_
  rw[Qaus]
  exact Qa0n a r ⟨Qr6 s.v p s.n,Qcb s.c (if Qgl s.v p then 2 else 0),s.n+1⟩
theorem Qam5 {ps:List (List UInt8)}{j:Nat}(h:j<ps.length)(s:Ck):Qxi (ps.take (j+1)) s =
  ⟨Qr6 (Qxi (ps.take j) s).v ps[j] (Qxi (ps.take j) s).n,Qcb (Qxi (ps.take j) s).c (if Qgl (Qxi (ps.take j) s).v ps[j]then 2 else 0),(Qxi (ps.take j) s).n+1⟩:=by
 rw[List.take_succ_eq_append_getElem h]
 simp only[Qxi,List.foldl_append,List.foldl_cons,List.foldl_nil]
 rfl
def ixC (fns:List Fn)(k:Nat)(name:List UInt8):Int:=if Qle fns name=some k then 0 else 2
theorem Qa64 {fns:List Fn}{k:Nat}(h:k<fns.length)(a:Int) :
  (Qao fns k fns[k].body (Qxi fns[k].params ⟨[[]],Qcb a (ixC fns k fns[k].name),0⟩)).c=Qcb a (fnCk fns k).c:=by
 have h1:=Qa0n a fns[k].params ⟨[[]],ixC fns k fns[k].name,0⟩
 simp only at h1
 rw[h1]
 have h2:=Q83 fns k a fns[k].body (Qxi fns[k].params ⟨[[]],ixC fns k fns[k].name,0⟩)
 rw[h2,fnCk,List.getElem?_eq_getElem h]
 rfl
theorem Qaio (fns:List Fn)(k:Nat):ckK fns (k+1)=Qcb (ckK fns k) (fnCk fns k).c:=by
 rw[ckK,ckK,List.range_succ,List.foldl_append];rfl
theorem Qa65 {l:List Fn}{i:Nat}(h:i<l.length):∃j,Qle l l[i].name=some j∧j≤i:=by
 cases hx:Qle l l[i].name with
 |none=>
  rw[Qle,List.findIdx?_eq_none_iff]at hx
  have:=hx l[i] (List.getElem_mem h)
  simp at this
 |some j=>
  refine⟨j,rfl,?_⟩
  obtain⟨hj,h1,h2⟩:=Qzd hx
  rcases Nat.lt_or_ge i j with hlt|hge
  ·exact absurd rfl (h2 i hlt)
  ·exact hge
end Go.AE.Y

namespace Go.AE.Y
def vT:Vars→List (List UInt8×Nat×Nat)
 |[]=>[]
 |b::r=>b.map (fun p=>(p.1,p.2,r.length))++vT r
def row3 (x:List UInt8×Nat×Nat):List C:=[.str x.1,.int .i64 x.2.1,.int .i64 x.2.2]
def Qa7 (v:Vars):List (List C):=((vT v).map row3).reverse
theorem Qul (v:Vars):(Qa7 v).length=(vT v).length:=by simp[Qa7]
theorem Qn8 (v:Vars):Qa7 ([]::v)=Qa7 v:=by simp[Qa7,vT]
theorem Qadc (s:List UInt8)(n:Nat)(b:List (List UInt8×Nat))(r:Vars):Qa7 (((s,n)::b)::r)=Qa7 (b::r)++[row3 (s,n,r.length)]:=by simp[Qa7,vT]
theorem Qaxx (b:List (List UInt8×Nat))(r:Vars):(Qa7 (b::r)).take (Qa7 r).length=Qa7 r:=by
 simp[Qa7,vT]
theorem Qa5x (b:List (List UInt8×Nat))(r:Vars):(Qa7 r).length≤(Qa7 (b::r)).length:=by simp[Qa7,vT]
theorem Qaij (v:Vars){i:Nat}(h:i<(vT v).length):(Qa7 v).getD i []=row3 ((vT v)[(vT v).length-1-i]'(by omega)):=by
 have hi:i<(Qa7 v).length:=by rw[Qul];exact h
 rw[List.getD_eq_getElem?_getD,List.getElem?_eq_getElem hi,Option.getD_some]
 simp[Qa7]
theorem Qa95:∀(v:Vars),∀x∈vT v,x.2.2<v.length
 |[],x,h=>by simp[vT]at h
 |b::r,x,h=>by
  simp only[vT,List.mem_append,List.mem_map]at h
  rcases h with ⟨p,_,rfl⟩|h
  ·simp
  ·have:=Qa95 r x h;simp only[List.length_cons];omega
theorem Qa8e (v:Vars)(s:List UInt8):v.find s=((vT v).find? fun x=>decide (x.1=s)).map fun x=>x.2.1:=by
 induction v with
 |nil=>rfl
 |cons b r ih=>
  have h1:Vars.find (b::r) s=((b.find? fun p=>decide (p.1=s)).map Prod.snd).or (Vars.find r s):=by
   rw[Vars.find,Vars.find,List.flatten_cons,List.find?_append]
   cases b.find? fun p=>decide (p.1=s) <;> rfl
  rw[h1,ih,vT,List.find?_append,List.find?_map]
  have h2:((fun x:List UInt8×Nat×Nat=>decide (x.1=s)) ∘ fun p:List UInt8×Nat=>(p.1,p.2,r.length))=fun p=>decide (p.1=s):=rfl
  rw[h2]
  cases b.find? fun p=>decide (p.1=s) <;> rfl
theorem Qa96 (b:List (List UInt8×Nat))(r:Vars)(s:List UInt8):Qgl (b::r) s=(((vT (b::r)).find? fun x=>decide (x.1=s)).map fun x=>decide (x.2.2=r.length)).getD false:=by
 rw[vT,List.find?_append,List.find?_map]
 have h2:((fun x:List UInt8×Nat×Nat=>decide (x.1=s)) ∘ fun p:List UInt8×Nat=>(p.1,p.2,r.length))=fun p=>decide (p.1=s):=rfl
 rw[h2,Qgl,List.headD_cons]
 cases hb:b.find? fun p=>decide (p.1=s)with
 |some p=>
  have h1:=List.find?_some hb
  have h3:=List.mem_of_find?_eq_some hb
  have:(b.any fun p=>decide (p.1=s))=true:=List.any_eq_true.2 ⟨p,h3,h1⟩
  rw[this];simp
 |none=>
  have:(b.any fun p=>decide (p.1=s))=false:=by
   rw[List.find?_eq_none]at hb
   rw[List.any_eq_false]
   exact hb
  rw[this]
  cases hr:(vT r).find? fun x=>decide (x.1=s)with
  |none=>rfl
  |some x=>
   have:=Qa95 r x (List.mem_of_find?_eq_some hr)
   have hne:¬x.2.2=r.length:=by omega
   simp[hne]
theorem Qa62 {α:Type}{l:List α}{p:α→Bool}{k:Nat}(hk:k<l.length)(h:p l[k]=true)(hn:∀x∈l.take k,¬p x=true):l.find? p=some l[k]:=by
 rw[List.find?_eq_some_iff_getElem]
 refine⟨h,k,hk,rfl,fun j hj=>?_⟩
 have:=hn l[j] (by rw[List.mem_take_iff_getElem];exact⟨j,by omega,rfl⟩)
 simpa using this
end Go.AE.Y
namespace Go.AE.Y
theorem Qayw (l:List Fn)(k:Nat)(s:List UInt8):Qle (l.take k) s=match Qle l s with
  |some j=>if j<k then some j else none
  |none=>none:=by
 cases h:Qle l s with
 |none=>
  rw[Qle,List.findIdx?_eq_none_iff]at h⊢
  exact fun f hf=>h f (List.mem_of_mem_take hf)
 |some j=>
  obtain⟨hj,h1,h2⟩:=Qzd h
  by_cases hk:j<k
  ·simp only[hk,if_true]
   exact Qaql (by rw[List.length_take];omega) (by rw[List.getElem_take];exact h1) fun i hi=>by rw[List.getElem_take];exact h2 i hi
  ·simp only[hk,if_false]
   rw[Qle,List.findIdx?_eq_none_iff]
   intro f hf
   obtain⟨i,hi,rfl⟩:=List.mem_take_iff_getElem.1 hf
   have:=h2 i (by omega)
   simpa using this
theorem Qau3 (fns:List Fn)(k:Nat)(v:Vars)(p:Ex):Qd6 fns k v p =
  if p.op=2 then (if (v.find p.name).isSome then 0 else 3)
  else if p.op=13 then (match Qle fns p.name with
   |none=>4
   |some j=>if k≤j then 4 else if ((fns[j]?.map fun f=>f.params.length).getD 0)=p.kids.length then 0 else 5)
  else 0:=by
 rw[Qd6]
 split
 ·rfl
 ·split
  ·rw[Qayw]
   cases h:Qle fns p.name with
   |none=>rfl
   |some j=>
    simp only[]
    by_cases hk:j<k
    ·have:¬k≤j:=by omega
     simp only[hk,if_true,this,if_false]
    ·have:k≤j:=by omega
     simp only[hk,if_false,this,if_true]
  ·rfl
end Go.AE.Y
namespace Go.AE.Y
theorem Qa9u (fns:List Fn)(k:Nat)(op:Int)(name:List UInt8)(args:List Ex)(s:Ck):s.n≤(stC fns k op name args s).n∧(stC fns k op name args s).n≤s.n+1:=by
 simp only[stC]
 split
 ·exact⟨by simp,by simp⟩
 ·split <;> exact⟨by simp,by simp⟩
mutual
theorem St.ck_n (fns:List Fn)(k:Nat):∀(x:St) (s:Ck),s.n≤(x.ck fns k s).n∧(x.ck fns k s).n≤s.n+x.size
 |.mk op name args body els,s=>by
  simp only[St.ck,St.size]
  have h1:=Qa9u fns k op name args s
  have h2:=Qy3 fns k body ⟨[]::(stC fns k op name args s).v,(stC fns k op name args s).c,(stC fns k op name args s).n⟩
  have h3:=Qy3 fns k els ⟨[]::(stC fns k op name args s).v,(Qao fns k body ⟨[]::(stC fns k op name args s).v,(stC fns k op name args s).c,(stC fns k op name args s).n⟩).c,(Qao fns k body ⟨[]::(stC fns k op name args s).v,(stC fns k op name args s).c,(stC fns k op name args s).n⟩).n⟩
  simp only at h2 h3
  omega
theorem Qy3 (fns:List Fn)(k:Nat):∀(l:List St) (s:Ck),s.n≤(Qao fns k l s).n∧(Qao fns k l s).n≤s.n+Qg l
 |[],s=>by simp[Qao]
 |x::r,s=>by
  simp only[Qao,Qg]
  have h1:=St.ck_n fns k x s
  have h2:=Qy3 fns k r (x.ck fns k s)
  omega
end
theorem Qa49 (fns:List Fn)(k:Nat)(op:Int)(name:List UInt8)(args:List Ex)(s:Ck){b:List (List UInt8×Nat)}{r:Vars}(hv:s.v=b::r)(h:(Qa7 (b::r)).length≤s.n):(Qa7 (stC fns k op name args s).v).length≤(stC fns k op name args s).n:=by
 simp only[stC]
 split
 ·simp only[Qr6,hv,List.headD_cons,List.tail_cons,Qadc,List.length_append,List.length_singleton];omega
 ·split
  ·simp only[hv];exact h
  ·simp only[hv];exact h
end Go.AE.Y
namespace Go.AE.Y
theorem Qa25 (fns:List Fn){i:Nat}{c:Int}(h:ckK fns i=c)(hc:c≠0):∀n,i≤n→ckK fns n=c:=by
 intro n hn
 induction n with
 |zero=>have:i=0:=by omega
        subst this;exact h
 |succ n ih=>
  rcases Nat.lt_or_ge i (n+1)with hlt|hge
  ·rw[Qaio,ih (by omega),Qcb,if_neg hc]
  ·have:i=n+1:=by omega
   subst this;exact h
end Go.AE.Y

namespace Go.AE.Y
attribute [local instance] Classical.propDecidable
variable {g:Nat→List Nat}{a:Int}{n:Nat}{S:List Bool}{T:List Nat}{b:Nat}
end Go.AE.Y

namespace Go.AE.Y
variable {ns:List Int}{n:Int}{at':Nat}
end Go.AE.Y

namespace Go.AE.Y
structure Cmp (ns R:List Int)(k j:Nat):Prop where
 len:R.length=ns.length
 kj:k<j
 jn:j≤ns.length
 asc:(R.take k).Pairwise (· < ·)
 mem:∀x,x∈R.take k↔x∈ns.take j
 same:∀i,j≤i+1→R.getD i 0=ns.getD i 0
variable {ns R:List Int}{k j:Nat}
theorem take_mem {l:List Int}{j:Nat}{x:Int}:x∈l.take j↔∃i,i<j∧i<l.length∧l.getD i 0=x:=by
 constructor
 ·intro h
  obtain⟨i,hi,rfl⟩:=List.mem_iff_getElem.1 h
  rw[List.length_take]at hi
  refine⟨i,by omega,by omega,?_⟩
  rw[List.getElem_take,List.getD_eq_getElem?_getD,List.getElem?_eq_getElem (by omega)];rfl
 ·rintro⟨i,h1,h2,rfl⟩
  rw[List.getD_eq_getElem?_getD,List.getElem?_eq_getElem h2]
  exact List.mem_iff_getElem.2 ⟨i,by rw[List.length_take];omega,by rw[List.getElem_take];rfl⟩
theorem Qg3 {ns:List Int}(h:ns.Pairwise (·≤·)){a b:Nat}(hab:a≤b)(hb:b<ns.length):ns.getD a 0≤ns.getD b 0:=by
 rcases Nat.lt_or_ge a b with h1|h1
 ·have:=List.pairwise_iff_getElem.1 h a b (by omega) hb h1
  simpa[List.getD_eq_getElem?_getD,hb,show a<ns.length by omega]using this
 ·have:a=b:=by omega
  subst this;exact Int.le_refl _
theorem Cmp.start (hs:ns.Pairwise (·≤·))(hk0:0<k)(hk:k<ns.length)(hne:∀i,0<i→i<k→ns.getD i 0≠ns.getD (i-1) 0)(he:ns.getD k 0=ns.getD (k-1) 0):Cmp ns ns k (k+1):=by
 refine⟨rfl,by omega,by omega,?_,fun x=>?_,fun i _=>rfl⟩
 ·rw[List.pairwise_iff_getElem]
  intro a b ha hb hab
  rw[List.length_take]at ha hb
  rw[List.getElem_take,List.getElem_take]
  have h1:=Qg3 hs (a:=a) (b:=b-1) (by omega) (by omega)
  have h2:=Qg3 hs (a:=b-1) (b:=b) (by omega) (by omega)
  have h3:=hne b (by omega) (by omega)
  have e1:ns.getD a 0=ns[a]:=by simp[List.getD_eq_getElem?_getD,show a<ns.length by omega]
  have e2:ns.getD b 0=ns[b]:=by simp[List.getD_eq_getElem?_getD,show b<ns.length by omega]
  rw[e1]at h1;rw[e2]at h2 h3
  omega
 ·rw[take_mem,take_mem]
  constructor
  ·rintro⟨i,h1,h2,h3⟩;exact⟨i,by omega,h2,h3⟩
  ·rintro⟨i,h1,h2,h3⟩
   by_cases h:i<k
   ·exact⟨i,h,h2,h3⟩
   ·have:i=k:=by omega
    subst this
    exact⟨i-1,by omega,by omega,by rw[←he];exact h3⟩
theorem Cmp.eq (c:Cmp ns R k j)(hj:j<ns.length)(he:ns.getD j 0=ns.getD (j-1) 0):Cmp ns R k (j+1):=by
 have:=c.kj
 refine⟨c.len,by omega,by omega,c.asc,fun x=>?_,fun i hi=>c.same i (by omega)⟩
 rw[c.mem,take_mem,take_mem]
 constructor
 ·rintro⟨i,h1,h2,h3⟩;exact⟨i,by omega,h2,h3⟩
 ·rintro⟨i,h1,h2,h3⟩
  by_cases h:i<j
  ·exact⟨i,h,h2,h3⟩
  ·have:i=j:=by omega
   subst this
   exact⟨i-1,by omega,by omega,by rw[←he];exact h3⟩
theorem Cmp.ne (c:Cmp ns R k j)(hs:ns.Pairwise (·≤·))(hj:j<ns.length)(he:ns.getD j 0≠ns.getD (j-1) 0):Cmp ns (R.set k (ns.getD j 0)) (k+1) (j+1):=by
 have hkj:=c.kj
 have hkl:k<R.length:=by rw[c.len];omega
 have htk:(R.set k (ns.getD j 0)).take (k+1)=R.take k++[ns.getD j 0]:=by
  rw[List.take_succ_eq_append_getElem (by rw[List.length_set];exact hkl),List.getElem_set_self]
  congr 1
  rw[List.take_set_of_le (Nat.le_refl _)]
 refine⟨by rw[List.length_set];exact c.len,by omega,by omega,?_,fun x=>?_,fun i hi=>?_⟩
 ·rw[htk,List.pairwise_append]
  refine⟨c.asc,by simp,fun a ha b hb=>?_⟩
  simp at hb;subst hb
  obtain⟨i,h1,h2,rfl⟩:=take_mem.1 ((c.mem a).1 ha)
  have h3:=Qg3 hs (a:=i) (b:=j-1) (by omega) (by omega)
  have h4:=Qg3 hs (a:=j-1) (b:=j) (by omega) hj
  simp only[List.getD_eq_getElem?_getD]at *
  omega
 ·rw[htk,List.mem_append,c.mem,take_mem,take_mem]
  simp only[List.mem_singleton]
  constructor
  ·rintro (⟨i,h1,h2,h3⟩|rfl)
   ·exact⟨i,by omega,h2,h3⟩
   ·exact⟨j,by omega,hj,rfl⟩
  ·rintro⟨i,h1,h2,h3⟩
   by_cases h:i<j
   ·exact .inl ⟨i,h,h2,h3⟩
   ·have:i=j:=by omega
    subst this;exact .inr h3.symm
 ·have:k≠i:=by omega
  rw[←c.same i (by omega)]
  simp[List.getD_eq_getElem?_getD,this]
theorem Qalx (hs:ns.Pairwise (·≤·))(hne:∀i,0<i→i<ns.length→ns.getD i 0≠ns.getD (i-1) 0):ns.Pairwise (· < ·):=by
 rw[List.pairwise_iff_getElem]
 intro a b ha hb hab
 have h1:=Qg3 hs (a:=a) (b:=b-1) (by omega) (by omega)
 have h2:=Qg3 hs (a:=b-1) (b:=b) (by omega) (by omega)
 have h3:=hne b (by omega) (by omega)
 have e1:ns.getD a 0=ns[a]:=by simp[List.getD_eq_getElem?_getD,ha]
 have e2:ns.getD b 0=ns[b]:=by simp[List.getD_eq_getElem?_getD,hb]
 rw[e1]at h1;rw[e2]at h2 h3
 omega
def srt (ns:List Int):List Int:=ns.mergeSort fun x y=>decide (x≤y)
theorem Qa17 (ns:List Int):(srt ns).length=ns.length:=List.length_mergeSort _
theorem Qac4 (ns:List Int)(x:Int):x∈srt ns↔x∈ns:=(List.mergeSort_perm ns _).mem_iff
theorem Qaid (ns:List Int):(srt ns).Pairwise (·≤·):=by
 have:=List.pairwise_mergeSort (le:=fun x y:Int=>decide (x≤y)) (by simp only[decide_eq_true_eq];omega) (by simp only[Bool.or_eq_true,decide_eq_true_eq];omega) ns
 exact this.imp (by simp)
theorem Qa18 {ns:List Int}(h:ns.Nodup):(srt ns).Pairwise (· < ·):=by
 have h1:=Qaid ns
 have h2:(srt ns).Nodup:=(List.mergeSort_perm ns _).nodup_iff.2 h
 exact h1.imp₂ (fun a b hab hne=>by omega) h2
end Go.AE.Y

namespace Go.AE.Y
attribute [local instance] Classical.propDecidable
mutual
theorem Ex.pre_len:∀(x:Ex),x.pre.length=x.size
 |.mk op n name kids=>by simp only[Ex.pre,Ex.size,List.length_cons,Qe4 kids];omega
theorem Qe4:∀(l:List Ex),(Qaa l).length=Qv l
 |[]=>rfl
 |x::r=>by simp only[Qaa,Qv,List.length_append,Ex.pre_len x,Qe4 r]
end
mutual
theorem St.pre_len:∀(x:St),x.pre.length≤x.size
 |.mk op name args body els=>by
  have h1:=Qfh body
  have h2:=Qfh els
  simp only[St.pre,St.size,List.length_append,Qe4];omega
theorem Qfh:∀(l:List St),(Qa5 l).length≤Qg l
 |[]=>by simp[Qa5,Qg]
 |x::r=>by
  have h1:=St.pre_len x
  have h2:=Qfh r
  simp only[Qa5,Qg,List.length_append];omega
end
theorem Qac7 {l:List St}{i:Nat}(h:i<l.length):Qa5 (l.take (i+1))=Qa5 (l.take i)++(l[i]).pre:=by
 rw[List.take_succ_eq_append_getElem h,Qaxs];simp[Qa5]
def ixI:Option Nat→Int
 |none=>-1
 |some j=>j
def clI (fns:List Fn)(e:Ex):List Int:=if e.op=13 then [ixI (Qle fns e.name)]else []
def clL (fns:List Fn)(l:List Ex):List Int:=l.flatMap (clI fns)
theorem Q9c (fns:List Fn)(a b:List Ex):clL fns (a++b)=clL fns a++clL fns b:=by simp[clL]
theorem Q1c (fns:List Fn)(l:List Ex):(clL fns l).length≤l.length:=by
 induction l with
 |nil=>simp[clL]
 |cons x r ih=>
  have:(clI fns x).length≤1:=by rw[clI];split <;> simp
  simp only[clL,List.flatMap_cons,List.length_append,List.length_cons]at ih⊢
  omega
theorem Qayg {fns:List Fn}(h:FineP fns){k:Nat}(hk:k<fns.length){ns:List Int}(hs:ns.Pairwise (· < ·))(hm:∀x,x∈ns↔x∈clL fns (Qa5 fns[k].body)):ns=(Qmo fns k).map Int.ofNat:=by
 have hmem:∀x:Int,x∈ns↔∃j:Nat,x=j∧Cls fns k j:=by
  intro x
  rw[hm,clL,List.mem_flatMap]
  constructor
  ·rintro⟨e,he,hx⟩
   rw[clI]at hx
   split at hx
   ·rename_i ho
    obtain⟨j,hj,hl,hn,_⟩:=h.call hk he ho
    have hi:=h.ix j hl
    rw[hn]at hi
    rw[hi,List.mem_singleton]at hx
    exact⟨j,hx,hk,hl,e,he,ho,hn.symm⟩
   ·simp at hx
  ·rintro⟨j,rfl,hk',hl,e,he,ho,hn⟩
   refine⟨e,he,?_⟩
   rw[clI,if_pos ho,hn,h.ix j hl]
   simp[ixI]
 have hpos:∀x∈ns,0≤x:=fun x hx=>by
  obtain⟨j,rfl,_⟩:=(hmem x).1 hx
  omega
 have e1:ns=(ns.map Int.toNat).map Int.ofNat:=by
  rw[List.map_map]
  conv=>lhs;rw[←List.map_id ns]
  refine List.map_congr_left fun x hx=>?_
  exact (Int.toNat_of_nonneg (hpos x hx)).symm
 rw[e1]
 congr 1
 refine Qalw ?_ Qain fun x=>?_
 ·rw[List.pairwise_map]
  exact hs.imp_of_mem fun {a b} ha hb hab=>by
   have:=hpos a ha
   omega
 ·rw[Qmo,ascL_mem,List.mem_map]
  constructor
  ·rintro⟨y,hy,rfl⟩
   obtain⟨j,rfl,hc⟩:=(hmem y).1 hy
   obtain⟨_,hj,_⟩:=id hc
   exact⟨by simpa using hj,by simpa using hc⟩
  ·rintro⟨_,hc⟩
   exact⟨(x:Int),(hmem _).2 ⟨x,rfl,hc⟩,by simp⟩
end Go.AE.Y

namespace Go.AE.Y
attribute [local go_sem] cond_true cond_false Bool.not_true Bool.not_false
open Go.Proofs.Tryz
variable {H H0:Heap}{K:V→Heap→Prop}{E E' L:List (Nat×Obj)}
theorem Qayv {l:List Fn}{s:List UInt8}(h:∀f∈l,¬f.name=s):Qle l s=none:=by
 rw[Qle,List.findIdx?_eq_none_iff]
 exact fun f hf=>by simpa using h f hf
theorem Qayu {l:List Fn}{s:List UInt8}{i:Nat}(hi:i<l.length)(h:l[i].name=s)(hn:∀f∈l.take i,¬f.name=s):Qle l s=some i:=by
 rw[Qle,List.findIdx?_eq_some_iff_getElem]
 refine⟨hi,by simpa using h,fun j hj=>?_⟩
 have:=hn l[j] (by rw[List.mem_take_iff_getElem];exact⟨j,by omega,rfl⟩)
 simpa using this
theorem Qa58 {f:Fn}{s:List UInt8}(hK:K (.c (.bool (decide (f.name=s)))) H):Qj prog Qfj [.ag f.cells,.c (.pp [.str s])] H K:=by
 refine Qb Qaj Qamm ?_
 refine Qa ?_
 simp only[go_sem,Fn.cells]
 refine Qa ?_
 simp only[go_sem]
 refine Qh ?_
 simp only[go_sem,Q0,Q6,Q4l,List.mem_singleton,forall_eq,RS.op]
 exact hK
theorem Qail {fl:Bool}{l:List Fn}{s:List UInt8}(hK:K (.c (.int .i64 (ixI (Qle l s)))) H) :
  Qj prog Qfr [.c (.sl fl 3 (Qm l)),.c (.fn Qfj [.pp [.str s]])] H K:=by
 refine Qb Qaj Q1q ?_
 refine Qa ?_
 simp only[go_sem]
 refine Qz ?_
 refine Qa ?_
 simp only[go_sem,Qp]
 intro hl
 simp only[LIM]at hl
 refine Qe (Qd (Qt (fun m e1 H1=>∃(i:Nat),m=l.length-i∧i≤l.length∧H1=H∧(∀f∈l.take i,¬f.name=s)∧e1=[(0,.c (.sl fl 3 (Qm l))),(1,.c (.fn Qfj [.pp [.str s]])),(7,.c (.int .i64 l.length)),(8,.c (.int .i64 i))]) l.length ?_ ?_))
 ·exact⟨0,by omega,by omega,rfl,by simp,rfl⟩
 ·rintro m e1 H1 ⟨i,hm,hi,rfl,hall,rfl⟩
  refine Qa ?_
  simp only[go_sem]
  refine Qe (Qc rfl ?_ ?_)
  ·intro hc
   have hlt:i<l.length:=by simpa using hc
   refine Qf ?_
   simp only[go_sem]
   refine Qe (Qd ?_)
   refine Qa ?_
   simp only[go_sem]
   refine Qa ?_
   simp only[go_sem,hlt,Qp,Qam _ _ hlt,Fn.take3,Fn.allOw,Fn.cells_len]
   refine Qa58 ?_
   refine Qc rfl ?_ ?_
   ·intro hc2
    have hn:l[i].name=s:=by simpa using hc2
    refine Qa ?_
    simp only[go_sem]
    refine Qh ?_
    simp only[go_sem,X.next,Q0,Q6,Qam8,List.mem_singleton,forall_eq,RS.op]
    rw[Qayu hlt hn hall]at hK
    exact hK
   ·intro hc2
    have hn:¬l[i].name=s:=by simpa using hc2
    refine Qf ?_
    simp only[go_sem]
    refine Qn ?_
    simp only[go_sem,X.next]
    refine⟨Qo (by omega) (by omega),l.length-(i+1),by omega,i+1,rfl,by omega,?_,rfl⟩
    rw[List.take_succ_eq_append_getElem hlt]
    intro x hx
    rcases List.mem_append.1 hx with hx|hx
    ·exact hall x hx
    ·simp only[List.mem_singleton]at hx;subst hx;exact hn
  ·intro hc
   have hge:l.length≤i:=by simpa using hc
   rw[List.take_of_length_le hge]at hall
   refine Qu ?_
   simp only[go_sem,X.next]
   refine Qa ?_
   simp only[go_sem]
   refine Qh ?_
   simp only[go_sem,Q0,Q6,Qam8,List.mem_singleton,forall_eq,RS.op]
   rw[Qayv hall]at hK
   exact hK
theorem Qaiy {fl:Bool}{l:List Fn}{s:List UInt8}(hK:K (.c (.int .i64 (ixI (Qle l s)))) H):Qj prog Qmq [.ag [.sl fl 3 (Qm l)],.c (.str s)] H K:=by
 refine Qb Qaj Qazx ?_
 refine Qa ?_
 simp only[go_sem]
 refine Qa ?_
 simp only[go_sem]
 refine Qail ?_
 simp only[go_sem,Q4w]
 refine Qh ?_
 simp only[go_sem,Q0,Q6,Qam8,List.mem_singleton,forall_eq,RS.op]
 exact hK
def scC:List Nat→C
 |[]=>.pnil
 |l::r=>.pp [.mp l,scC r]
structure MapOk (val:Nat→Int)(es:List (C×V))(b:List (List UInt8×Nat)):Prop where
 ky:∀e∈es,∃s,e.1=.str s
 fd:∀s,Qel (.str s) es=(b.find? fun p=>decide (p.1=s)).map fun p=>V.c (.int .i64 (val p.2))
def ScOk (val:Nat→Int)(H:Heap):List Nat→Vars→Prop
 |[],[]=>True
 |l::ls,b::v=>(∃n es,H l=.map n es∧MapOk val es b)∧ScOk val H ls v
 |_,_=>False
theorem Qaxy (b:List (List UInt8×Nat))(v:Vars)(s:List UInt8):Vars.find (b::v) s=((b.find? fun p=>decide (p.1=s)).map Prod.snd).or (Vars.find v s):=by
 rw[Vars.find,Vars.find,List.flatten_cons,List.find?_append]
 cases b.find? fun p=>decide (p.1=s) <;> rfl
def valO (val:Nat→Int):Option Nat→Int
 |none=>0
 |some n=>val n
theorem Qava {val:Nat→Int}{ls:List Nat}{v:Vars}{s:List UInt8}(h:ScOk val H ls v)(hK:K (.tup [.c (.int .i64 (valO val (v.find s))),.c (.bool (v.find s).isSome)]) H) :
  Qj prog Qer [.c (scC ls),.c (.str s)] H K:=by
 refine Qb Qaj Q9z ?_
 have ret:∀(n:Int) (b:Bool) (e:Env),n=valO val (v.find s)→b=(v.find s).isSome→lk 4 e=.c (.int .i64 n)→lk 5 e=.c (.bool b)→Q0 Qjv K .ret e H:=by
  rintro n b e rfl rfl h4 h5
  simp only[go_sem,Q0,Q6,Qjv,List.forall_mem_cons,List.not_mem_nil,RS.op,h4,h5]
  exact⟨fun _=>trivial,hK⟩
 refine Qa ?_
 simp only[go_sem]
 refine Qe (Qd (Qt (fun m e1 H1=>∃(ls':List Nat) (v':Vars),m=ls'.length∧H1=H∧ScOk val H ls' v'∧v.find s=v'.find s∧e1=[(0,.c (scC ls')),(1,.c (.str s))]) ls.length ?_ ?_))
 ·exact⟨ls,v,rfl,rfl,h,rfl,rfl⟩
 ·rintro m e1 H1 ⟨ls',v',hm,rfl,hs,hf,rfl⟩
  refine Qz ?_
  refine Qa ?_
  cases ls' with
  |nil=>
   cases v' with
   |cons b v'=>exact hs.elim
   |nil=>
    simp only[go_sem,scC,C.isPtr,or_true,true_or,true_and]
    refine Qe (Qc rfl (fun h=>by cases h) (fun _=>?_))
    refine Qu ?_
    simp only[go_sem,X.next]
    refine Qa ?_
    simp only[go_sem]
    refine Qh ?_
    exact ret 0 false _ (by rw[hf];rfl) (by rw[hf];rfl) (by simp[lk]) (by simp[lk])
  |cons l r=>
   cases v' with
   |nil=>exact hs.elim
   |cons b v'=>
    obtain⟨⟨n,es,hl,hm2⟩,hs⟩:=hs
    have hfd:=hm2.fd s
    have hky:=eq_true hm2.ky
    rw[Qaxy]at hf
    simp only[go_sem,scC,C.isPtr,or_true,true_or,true_and]
    refine Qe (Qc rfl (fun _=>?_) (fun h=>by cases h))
    refine Qf ?_
    simp only[go_sem]
    refine Qe (Qd ?_)
    refine Qa ?_
    simp only[go_sem,C.isPtr,Qr3,Qjt,Q4,hl,hfd,hky,List.getD_cons_zero,List.getD_cons_succ]
    cases hb:b.find? fun p=>decide (p.1=s)with
    |none=>
     rw[hb]at hf
     simp only[Option.map_none,Option.getD_none,Option.isSome_none,go_sem]
     refine Qa ?_
     simp only[go_sem]
     refine Qc rfl (fun h=>by cases h) (fun _=>?_)
     refine Qf ?_
     try simp only[go_sem]
     refine Qn ?_
     simp only[go_sem,X.next]
     have how:(scC r).isOw=false:=by cases r <;> rfl
     refine⟨by rw[how];rfl,r.length,by rw[List.length_cons]at hm;omega,r,v',rfl,hs,?_,rfl⟩
     rw[hf];rfl
    |some x=>
     rw[hb]at hf
     simp only[Option.map_some,Option.getD_some,Option.isSome_some,go_sem]
     refine Qa ?_
     simp only[go_sem]
     refine Qc rfl (fun _=>?_) (fun h=>by cases h)
     refine Qa ?_
     simp only[go_sem]
     refine Qh ?_
     simp only[go_sem,X.next]
     exact ret (val x.2) true _ (by rw[hf];rfl) (by rw[hf];rfl) (by simp[lk]) (by simp[lk])
theorem Q9j {c:Nat}{l at':C}{code n:Int}(hH:H c=.st [l,at',.int .i64 code])(hK:∀H',Upd H H' [(c,.st [l,at',.int .i64 (Qcb code n)])]→K (.tup []) H') :
  Qj prog Qak [.c (.ptr c 0),.c (.int .i64 n)] H K:=by
 refine Qb Qaj Q1p ?_
 have kn:=Kn.start1 hH (by nofun)
 refine Qa ?_
 simp only[go_sem,hH]
 refine Qc rfl (fun hc=>?_) (fun hc=>?_)
 ·have h0:code=0:=by simpa using hc
  refine Qn ?_
  simp only[go_sem,hH]
  intro H1 h1
  have kn:=kn.stE 0 rfl h1
  simp only[Q0,Q6,Qr8,go_sem]
  refine hK _ ⟨fun p hp=>?_,fun m h1 h2=>kn.chg m h1 h2⟩
  rw[Qcb,if_pos h0]at hp
  exact (kn.get p (List.mem_append_left _ hp)).1
 ·have h0:¬code=0:=by simpa using hc
  refine Qf ?_
  simp only[Q0,Q6,Qr8,go_sem]
  refine hK _ ⟨fun p hp=>?_,fun m h1 h2=>rfl⟩
  rw[Qcb,if_neg h0]at hp
  simp only[List.mem_singleton]at hp
  rw[hp];exact hH
end Go.AE.Y

namespace Go.AE.Y
attribute [local go_sem] cond_true cond_false Bool.not_true Bool.not_false
open Go.Proofs.Tryz
variable {H H0:Heap}{K:V→Heap→Prop}{E E' L:List (Nat×Obj)}
abbrev ScD:=List (Nat×Nat×List (C×V))
def ScD.ob (sc:ScD):List (Nat×Obj):=sc.map fun x=>(x.1,.map x.2.1 x.2.2)
def ScD.ls (sc:ScD):List Nat:=sc.map Prod.fst
def ScD.ok (val:Nat→Int):ScD→Vars→Prop
 |[],[]=>True
 |x::r,b::v=>MapOk val x.2.2 b∧ScD.ok val r v
 |_,_=>False
theorem ScD.scOk {val:Nat→Int}:∀{sc:ScD} {v:Vars},ScD.ok val sc v→(∀p∈sc.ob,H p.1=p.2)→ScOk val H sc.ls v
 |[],[],_,_=>trivial
 |[],_::_,h,_=>h.elim
 |_::_,[],h,_=>h.elim
 |x::r,b::v,h,hh=>⟨⟨x.2.1,x.2.2,hh (x.1,.map x.2.1 x.2.2) (by simp[ScD.ob]),h.1⟩,ScD.scOk h.2 fun p hp=>hh p (by simp only[ScD.ob,List.map_cons,List.mem_cons]at hp⊢;exact .inr hp)⟩
def Qpv (c:Nat)(fl:Bool)(l:List Fn)(k:Nat)(sc:ScD)(code:Int):List (Nat×Obj):=(c,.st [.sl fl 3 (Qm l),.int .i64 k,.int .i64 code])::sc.ob
theorem Qa3i {c:Nat}{fl:Bool}{l:List Fn}{k:Nat}{sc:ScD}{v:Vars}{val:Nat→Int}{code:Int}{p:Ex}(hk:k≤l.length)(hn:((c::sc.ls)).Nodup)(hs:ScD.ok val sc v)
  (hh:∀q∈Qpv c fl l k sc code,H q.1=q.2) (hK:∀H',Upd H H' (Qpv c fl l k sc (Qcb code (Qd6 l k v p)))→K (.tup []) H') :
  Qj prog Qbn [.ag p.cells,.c (.pp [scC sc.ls]),.c (.pp [.ptr c 0])] H K:=by
 have hsc:=ScD.scOk hs fun q hq=>hh q (List.mem_cons_of_mem _ hq)
 have hc:H c=.st [.sl fl 3 (Qm l),.int .i64 k,.int .i64 code]:=hh (c,_) (by simp[Qpv])
 have how:(scC sc.ls).isOw=false:=by cases sc.ls <;> rfl
 have keep:∀H',Upd H H' [(c,.st [.sl fl 3 (Qm l),.int .i64 k,.int .i64 (Qcb code (Qd6 l k v p))])]→K (.tup []) H':=by
  intro H' hu
  refine hK _ ⟨fun q hq=>?_,fun m h1 h2=>?_⟩
  ·rcases List.mem_cons.1 hq with rfl|hq
   ·exact hu.1 _ (by simp)
   ·have h1:=hh q (List.mem_cons_of_mem _ hq)
    rw[hu.2 q.1 (by rw[h1];obtain⟨x,_,rfl⟩:=List.mem_map.1 hq;nofun) ?_,h1]
    simp only[List.map_cons,List.map_nil,List.mem_singleton]
    intro e
    have hm:q.1∈sc.ls:=by
     obtain⟨x,hx,rfl⟩:=List.mem_map.1 hq
     exact List.mem_map.2 ⟨x,hx,rfl⟩
    rw[e]at hm
    exact (List.nodup_cons.1 hn).1 hm
  ·refine hu.2 m h1 ?_
   simp only[List.map_cons,List.map_nil,List.mem_singleton]
   intro e
   exact h2 (by rw[e];simp[Qpv])
 have same:Qd6 l k v p=0→K (.tup []) H:=by
  intro h0
  refine keep H ⟨fun q hq=>?_,fun m h1 h2=>rfl⟩
  simp only[List.mem_singleton]at hq
  rw[hq,h0,hc,Qcb]
  by_cases hz:code=0
  ·rw[if_pos hz,hz]
  ·rw[if_neg hz]
 refine Qb Qaj Qu0 ?_
 refine Qa ?_
 simp only[go_sem,p.cells_eq]
 refine Qa ?_
 simp only[go_sem,how]
 refine Qd ?_
 refine Qa ?_
 simp only[go_sem,how]
 have done:∀(H':Heap) (e:Env),K (.tup []) H'→Q0 Qr8 K .nrm e H':=by
  intro H' e h
  simp only[Q0,Q6,Qr8,go_sem]
  exact h
 refine Qc rfl ?_ ?_
 ·intro hc2
  have h2:p.op=2:=by simpa using hc2
  have hpc:Qd6 l k v p=if (v.find p.name).isSome then 0 else 3:=by rw[Qd6,if_pos h2]
  refine Qa ?_
  simp only[go_sem,how]
  refine Qava hsc ?_
  simp only[go_sem,Qf6,List.getD_cons_zero,List.getD_cons_succ]
  refine Qa ?_
  simp only[go_sem]
  refine Qc rfl ?_ ?_
  ·intro hc3
   have hf:(v.find p.name).isSome=false:=by simpa using hc3
   rw[hf]at hpc
   refine Qn ?_
   simp only[go_sem]
   refine Q9j hc fun H' hu=>?_
   simp only[go_sem,X.next]
   rw[hpc]at keep
   exact done _ _ (keep _ hu)
  ·intro hc3
   have hf:(v.find p.name).isSome=true:=by simpa using hc3
   rw[hf]at hpc
   refine Qf ?_
   simp only[go_sem,X.next]
   exact done _ _ (same (by rw[hpc];rfl))
 intro hc2
 have h2:¬p.op=2:=by simpa using hc2
 refine Qa ?_
 simp only[go_sem,how]
 refine Qc rfl ?_ ?_
 ·intro hc3
  have h3:p.op=13:=by simpa using hc3
  refine Qeo ?_
  simp only[go_sem,hc,Qp]
  refine⟨⟨by omega,by omega⟩,?_⟩
  have etk:List.take k (Qm l)=Qm (l.take k):=by simp only[Qm,List.map_take]
  rw[etk]
  refine Qaiy ?_
  simp only[go_sem,Qf7]
  refine Qa ?_
  simp only[go_sem]
  cases hx:Qle (l.take k) p.name with
  |none=>
   have hpc:Qd6 l k v p=4:=by rw[Qd6,if_neg h2,if_pos h3,hx]
   rw[hpc]at keep
   refine Qc rfl (fun _=>?_) (fun h=>by simp[ixI]at h)
   refine Qn ?_
   simp only[go_sem]
   refine Q9j hc fun H' hu=>?_
   simp only[go_sem,X.next]
   exact done _ _ (keep _ hu)
  |some j=>
   have hj:j<l.length:=by
    rw[Qle,List.findIdx?_eq_some_iff_getElem]at hx
    obtain⟨h,_⟩:=hx
    rw[List.length_take]at h;omega
   have hpc:Qd6 l k v p=if (l[j]).params.length=p.kids.length then 0 else 5:=by rw[Qd6,if_neg h2,if_pos h3,hx];simp[hj]
   refine Qc rfl (fun h=>by have:=of_decide_eq_true h;simp only[ixI]at this;omega) (fun _=>?_)
   refine Qeo ?_
   simp only[go_sem,hc,ixI,hj,Qp,Qam _ _ hj,Fn.cells,Qr,Qi]
   refine Qc rfl ?_ ?_
   ·intro hc4
    have hne:¬l[j].params.length=p.kids.length:=by
     have h:=Qzs hc4
     rw[decide_eq_false_iff_not]at h;omega
    rw[if_neg hne]at hpc
    rw[hpc]at keep
    refine Qn ?_
    simp only[go_sem]
    refine Q9j hc fun H' hu=>?_
    simp only[go_sem,X.next]
    exact done _ _ (keep _ hu)
   ·intro hc4
    have he:l[j].params.length=p.kids.length:=by
     have h:=Qr2 hc4
     rw[decide_eq_true_eq]at h;omega
    rw[if_pos he]at hpc
    refine Qf ?_
    simp only[go_sem,X.next]
    exact done _ _ (same hpc)
 ·intro hc3
  have h3:¬p.op=13:=by simpa using hc3
  refine Qf ?_
  simp only[go_sem,X.next]
  exact done _ _ (same (by rw[Qd6,if_neg h2,if_neg h3]))
end Go.AE.Y

namespace Go.AE.Y
attribute [local go_sem] cond_true cond_false Bool.not_true Bool.not_false
open Go.Proofs.Tryz
variable {H H0:Heap}{K:V→Heap→Prop}{E E' L:List (Nat×Obj)}
theorem Qbab {c:Nat}{fl:Bool}{l:List Fn}{k:Nat}{sc:ScD}{v:Vars}{val:Nat→Int}(hk:k≤l.length)(hn:((c::sc.ls)).Nodup)(hs:ScD.ok val sc v) :
  ExVis (Qpv c fl l k sc) (fun code p=>Qcb code (Qd6 l k v p)) (fun _=>True) Qbn [.pp [scC sc.ls],.pp [.ptr c 0]]:=by
 refine⟨fun _ _=>rfl,fun a=>?_,fun a p hp=>?_,fun _ _ h=>h,fun a s H K _ _ hh hK=>Qa3i hk hn hs hh hK⟩
 ·have e:(Qpv c fl l k sc a).map Prod.fst=c::sc.ls:=by simp only[Qpv,ScD.ob,ScD.ls,List.map_cons,List.map_map];rfl
  rw[e];exact hn
 ·rcases List.mem_cons.1 hp with rfl|hp
  ·nofun
  ·obtain⟨x,_,rfl⟩:=List.mem_map.1 hp;nofun
theorem Qa24 {c:Nat}{fl:Bool}{l:List Fn}{k:Nat}{sc:ScD}{v:Vars}{val:Nat→Int}{code:Int}{x:Ex}(hk:k≤l.length)(hn:((c::sc.ls)).Nodup)(hs:ScD.ok val sc v)(hx:x.size≤2^40)
  (hh:∀q∈Qpv c fl l k sc code,H q.1=q.2) (hK:∀H',Upd H H' (Qpv c fl l k sc (Qat l k v x.pre code))→K (.tup []) H') :
  Qj prog Qfm [.c (.ptr c 0),.ag x.cells,.c (scC sc.ls)] H K:=by
 have how:(scC sc.ls).isOw=false:=by cases sc.ls <;> rfl
 refine Qb Qaj Q1o ?_
 refine Qa ?_
 simp only[go_sem,x.cells_eq,how]
 refine Qn ?_
 simp only[go_sem,how]
 have h:=fun K=>Qazc (Qbab (fl:=fl) hk hn hs) x.size x code H K
 rw[x.cells_eq]at h
 refine h _ (Nat.le_refl _) hx trivial hh fun H' hu=>?_
 simp only[Q0,Q6,Qr8,go_sem]
 exact hK _ hu
end Go.AE.Y

namespace Go.AE.Y
theorem Qamb (s t:List UInt8)(v:V):∀(es:List (C×V)),(∀e∈es,∃s,e.1=.str s)→Qel (.str t) (Q04 (.str s) v es)=if s=t then some v else Qel (.str t) es
 |[],_=>by
  simp only[Q04,Qel,Qev]
  by_cases h:s=t
  ·subst h;simp
  ·have h':¬t=s:=fun e=>h e.symm
   simp[h,h']
 |e::es,hk=>by
  obtain⟨k,hk1⟩:=hk e (by simp)
  obtain⟨e1,e2⟩:=e
  simp only at hk1
  subst hk1
  have ih:=Qamb s t v es fun x hx=>hk x (List.mem_cons_of_mem _ hx)
  simp only[Q04,Qev]
  by_cases h:s=k
  ·subst h
   simp only[decide_true,if_true,Qel,Qev]
   by_cases h2:s=t
   ·subst h2;simp
   ·have h':¬t=s:=fun e=>h2 e.symm
    simp[h2,h']
  ·simp only[h,decide_false,Bool.false_eq_true,if_false,Qel,Qev]
   rw[ih]
   by_cases h2:t=k
   ·subst h2
    simp[h]
   ·simp[h2]
theorem Qap7 (s:List UInt8)(v:V):∀(es:List (C×V)),(∀e∈es,∃s,e.1=.str s)→∀e∈Q04 (.str s) v es,∃s,e.1=.str s
 |[],_,e,he=>by simp only[Q04,List.mem_singleton]at he;subst he;exact⟨s,rfl⟩
 |x::es,hk,e,he=>by
  simp only[Q04]at he
  split at he
  ·rcases List.mem_cons.1 he with rfl|he
   ·exact⟨s,rfl⟩
   ·exact hk e (List.mem_cons_of_mem _ he)
  ·rcases List.mem_cons.1 he with rfl|he
   ·exact hk _ (by simp)
   ·exact Qap7 s v es (fun y hy=>hk y (List.mem_cons_of_mem _ hy)) e he
theorem MapOk.put {val:Nat→Int}{es:List (C×V)}{b:List (List UInt8×Nat)}(h:MapOk val es b)(s:List UInt8)(n:Nat):MapOk val (Q04 (.str s) (.c (.int .i64 (val n))) es) ((s,n)::b):=by
 refine⟨Qap7 s _ es h.ky,fun t=>?_⟩
 rw[Qamb s t _ es h.ky,List.find?_cons]
 by_cases e:s=t
 ·subst e;simp
 ·simp[e,h.fd t]
theorem MapOk.nil (val:Nat→Int):MapOk val [] []:=⟨by simp,fun s=>rfl⟩
end Go.AE.Y

namespace Go.AE.Y
attribute [local go_sem] cond_true cond_false Bool.not_true Bool.not_false
open Go.Proofs.Tryz
variable {H H0:Heap}{K:V→Heap→Prop}{E E' L:List (Nat×Obj)}
theorem Qali {sc:C}(how:sc.isOw=false)(hK:∀lm n H',H lm=.none→H'=H.set lm (.map n [])→K (.c (.pp [.mp lm,sc])) H'):Qj prog Qcm [.c sc] H K:=by
 refine Qb Qaj Q90 ?_
 refine Qa ?_
 simp only[go_sem]
 refine Qa ?_
 simp only[go_sem]
 intro lm hlm H1 h1
 simp only[go_sem,Qlv,how]
 refine Qh ?_
 simp only[go_sem,Q0,Q6,Qgm,List.mem_singleton,forall_eq,RS.op,how]
 exact hK lm _ H1 hlm h1
end Go.AE.Y

namespace Go.AE.Y
attribute [local go_sem] cond_true cond_false Bool.not_true Bool.not_false
open Go.Proofs.Tryz
variable {H H0:Heap}{K:V→Heap→Prop}{E E' L:List (Nat×Obj)}
theorem Q1w (fns:List Fn)(k:Nat)(v:Vars)(a b:List Ex)(c:Int):Qat fns k v (a++b) c=Qat fns k v b (Qat fns k v a c):=by rw[Qat,List.foldl_append];rfl
theorem Qayf (c:Nat)(fl:Bool)(l:List Fn)(k:Nat)(sc:ScD)(x y:Int):(Qpv c fl l k sc x).map Prod.fst=(Qpv c fl l k sc y).map Prod.fst:=rfl
theorem Qaqd (c:Nat)(fl:Bool)(l:List Fn)(k:Nat)(sc:ScD)(x:Int):∀p∈Qpv c fl l k sc x,p.2≠.none:=by
 intro p hp
 rcases List.mem_cons.1 hp with rfl|hp
 ·nofun
 ·obtain⟨x,_,rfl⟩:=List.mem_map.1 hp;nofun
theorem Qa23 {c x7 N i:Nat}{fl f5:Bool}{l:List Fn}{k:Nat}{sc:ScD}{v:Vars}{val:Nat→Int}{code:Int}{x:St}{sts:List St}{L:List (Nat×Obj)}{Q:X→Env→Heap→Prop}
  (hk:k≤l.length) (hn:((c::sc.ls)).Nodup) (hs:ScD.ok val sc v) (hx:x.size≤2^40)
  (kn:Kn H0 H (Qpv c fl l k sc code) [(x7,.st [.int .i64 x.op,.str x.name,.sl false 4 (Q2 x.args),.sl false 5 (Ql x.body),.sl false 5 (Ql x.els)])])
  (hQ:∀H',Kn H0 H' (Qpv c fl l k sc (Qat l k v (Qaa x.args) code)) [(x7,.st [.int .i64 x.op,.str x.name,.sl false 4 (Q2 x.args),.sl false 5 (Ql x.body),.sl false 5 (Ql x.els)])]→
   ∀e',lk 0 e'=.c (.ptr c 0)→lk 2 e'=.c (scC sc.ls)→lk 7 e'=.c (.ptr x7 0)→lk 14 e'=.c (.sl f5 5 (Ql sts))→lk 15 e'=.c (.int .i64 N)→lk 16 e'=.c (.int .i64 i)→Qah prog Qdp Q e' H') :
  Qah prog Qhm Q [(0,.c (.ptr c 0)),(2,.c (scC sc.ls)),(7,.c (.ptr x7 0)),(14,.c (.sl f5 5 (Ql sts))),(15,.c (.int .i64 N)),(16,.c (.int .i64 i))] H:=by
 have how:(scC sc.ls).isOw=false:=by cases sc.ls <;> rfl
 have hse:=x.size_eq
 have g7:=kn.l 0 rfl
 refine Qz ?_
 refine Qa ?_
 simp only[go_sem,g7,how,Qi]
 intro hl
 simp only[LIM]at hl
 refine Qe (Qd (Qt (fun m e1 H1=>∃(j:Nat),m=x.args.length-j∧j≤x.args.length∧Kn H0 H1 (Qpv c fl l k sc (Qat l k v (Qaa (x.args.take j)) code)) [(x7,.st [.int .i64 x.op,.str x.name,.sl false 4 (Q2 x.args),.sl false 5 (Ql x.body),.sl false 5 (Ql x.els)])]∧
  e1=[(0,.c (.ptr c 0)),(2,.c (scC sc.ls)),(7,.c (.ptr x7 0)),(14,.c (.sl f5 5 (Ql sts))),(15,.c (.int .i64 N)),(16,.c (.int .i64 i)),(21,.c (.sl false 4 (Q2 x.args))),(22,.c (.int .i64 x.args.length)),(23,.c (.int .i64 j))]) x.args.length ?_ ?_))
 ·exact⟨0,by omega,by omega,by simpa[Qaa,Qat]using kn,rfl⟩
 ·clear kn
  rintro m e1 H1 ⟨j,hm,hj,kn,rfl⟩
  refine Qa ?_
  simp only[go_sem,how]
  refine Qe (Qc rfl ?_ ?_)
  ·intro hc
   have hlt:j<x.args.length:=by simpa using hc
   have hms:=Qad (List.getElem_mem hlt)
   obtain⟨y,hy⟩:∃y,x.args[j]=y:=⟨_,rfl⟩
   have htk:=Qda hlt
   rw[hy]at hms htk
   refine Qf ?_
   try simp only[go_sem]
   refine Qe (Qd ?_)
   refine Qa ?_
   simp only[go_sem,how,hlt,Qi,Qag _ _ hlt,hy,y.cells_eq]
   intro x9 hx9 H3 h3
   have kn:=kn.al hx9 h3
   have g9:=kn.l 1 rfl
   simp only[go_sem,Qhp,g9,how]
   intro H4 h4
   have kn:=kn.stL 1 rfl h4
   have g9:=kn.l 1 rfl
   refine Qn ?_
   simp only[go_sem,g9,how]
   have h:=fun K=>Qa24 (H:=H4) (K:=K) (fl:=fl) (x:=y) (code:=Qat l k v (Qaa (x.args.take j)) code) hk hn hs (by omega) (fun p hp=>(kn.get p (List.mem_append_left _ hp)).1)
   rw[y.cells_eq]at h
   refine h _ fun H5 hu=>?_
   have kn:=Kn.drop (A:=[(x7,_)]) (kn.callAll hu (Qayf _ _ _ _ _ _ _) (Qaqd _ _ _ _ _ _))
   simp only[go_sem,how]
   refine Qn ?_
   simp only[go_sem,AE.X.next,how]
   refine⟨Qo (by omega) (by omega),x.args.length-(j+1),by omega,j+1,rfl,by omega,?_,rfl⟩
   rw[htk,Q1w]
   exact kn
  ·intro hc
   have hge:x.args.length≤j:=by simpa using hc
   rw[List.take_of_length_le hge]at kn
   refine Qu ?_
   simp only[go_sem,AE.X.next]
   exact hQ _ kn _ rfl rfl rfl rfl rfl rfl
end Go.AE.Y

namespace Go.AE.Y
attribute [local go_sem] cond_true cond_false Bool.not_true Bool.not_false
open Go.Proofs.Tryz
variable {H H0:Heap}{K:V→Heap→Prop}{E E' L:List (Nat×Obj)}
def Qada (op:Int)(name:List UInt8)(x:Nat×Nat×List (C×V)):Nat×Nat×List (C×V):=if op=1 then (x.1,x.2.1+1,Q04 (.str name) (.c (.int .i64 0)) x.2.2)else x
def opC (v:Vars)(op:Int)(name:List UInt8)(c:Int):Int:=if op=1 then Qcb c (if Qgl v name then 2 else 0)else if op=2 then Qcb c (if (v.find name).isSome then 0 else 3)else c
theorem Qaiv (c:Int):Qcb c 0=c:=by rw[Qcb];split <;> simp_all
theorem Qaut {val:Nat→Int}{es:List (C×V)}{b:List (List UInt8×Nat)}(h:MapOk val es b)(r:Vars)(s:List UInt8):(Qel (.str s) es).isSome=Qgl (b::r) s:=by
 rw[h.fd s,Qgl,Option.isSome_map,List.headD_cons,Bool.eq_iff_iff,List.find?_isSome,List.any_eq_true]
theorem Qaip (c:Nat)(fl:Bool)(l:List Fn)(k:Nat)(sc:ScD)(x:Int):(Qpv c fl l k sc x).map Prod.fst=c::sc.ls:=by simp only[Qpv,ScD.ob,ScD.ls,List.map_cons,List.map_map];rfl
theorem Qa56 (l:List Fn)(k:Nat)(op:Int)(name:List UInt8)(args:List Ex)(s:Ck):(stC l k op name args s).c=opC s.v op name (Qat l k s.v (Qaa args) s.c):=by
 simp only[stC,opC]
 split
 ·rfl
 ·split <;> rfl
theorem Qa5r {es:List (C×V)}{b:List (List UInt8×Nat)}{r:Vars}(h:MapOk (fun _=>0) es b)(l:List Fn)(k:Nat)(op:Int)(name:List UInt8)(args:List Ex)(s:Ck)(hv:s.v=b::r)(l0 n0:Nat) :
  ∃b',(stC l k op name args s).v=b'::r∧MapOk (fun _=>0) (Qada op name (l0,n0,es)).2.2 b':=by
 simp only[stC,Qada]
 split
 ·exact⟨(name,s.n)::b,by simp[Qr6,hv],h.put name s.n⟩
 ·split
  ·exact⟨b,hv,h⟩
  ·exact⟨b,hv,h⟩
theorem Qa2m (op:Int)(name:List UInt8)(l0 n0:Nat)(es:List (C×V)):(Qada op name (l0,n0,es)).2.2.length≤es.length+1:=by
 have hu:∀(es:List (C×V)),(Q04 (.str name) (.c (.int .i64 0)) es).length≤es.length+1:=by
  intro es
  induction es with
  |nil=>simp[Q04]
  |cons e es ih=>
   simp only[Q04]
   split
   ·simp
   ·simp only[List.length_cons];omega
 simp only[Qada]
 split
 ·exact hu es
 ·exact Nat.le_succ _
abbrev stO (x:St):Obj:=.st [.int .i64 x.op,.str x.name,.sl false 4 (Q2 x.args),.sl false 5 (Ql x.body),.sl false 5 (Ql x.els)]
theorem Qa6i {c x7 N i l0 n0:Nat}{fl f5:Bool}{l:List Fn}{k:Nat}{es0:List (C×V)}{rest:ScD}{b:List (List UInt8×Nat)}{r:Vars}{code:Int}{x:St}{sts:List St}{Q:X→Env→Heap→Prop}{e:Env}
  (hn:(c::l0::rest.ls).Nodup) (hs:ScD.ok (fun _=>0) ((l0,n0,es0)::rest) (b::r)) (hlen:es0.length+1≤LIM)
  (kn:Kn H0 H (Qpv c fl l k ((l0,n0,es0)::rest) code) [(x7,stO x)])
  (f0:lk 0 e=.c (.ptr c 0)) (f2:lk 2 e=.c (scC (l0::rest.ls))) (f7:lk 7 e=.c (.ptr x7 0)) (f14:lk 14 e=.c (.sl f5 5 (Ql sts))) (f15:lk 15 e=.c (.int .i64 N)) (f16:lk 16 e=.c (.int .i64 i))
  (hQ:∀H',Kn H0 H' (Qpv c fl l k (Qada x.op x.name (l0,n0,es0)::rest) (opC (b::r) x.op x.name code)) [(x7,stO x)]→
   ∀e',lk 0 e'=.c (.ptr c 0)→lk 2 e'=.c (scC (l0::rest.ls))→lk 7 e'=.c (.ptr x7 0)→lk 14 e'=.c (.sl f5 5 (Ql sts))→lk 15 e'=.c (.int .i64 N)→lk 16 e'=.c (.int .i64 i)→Qah prog Qdo Q e' H') :
  Qah prog Qdp Q e H:=by
 have how:(scC (l0::rest.ls)).isOw=false:=rfl
 have how2:(scC rest.ls).isOw=false:=by cases rest.ls <;> rfl
 have hm:=hs.1
 have hky:=eq_true hm.ky
 have hv:(Qel (.str x.name) es0).getD (.c (.int .i64 0))=.c (.int .i64 0):=by
  rw[hm.fd]
  cases b.find? fun p=>decide (p.1=x.name) <;> rfl
 have hin:=Qaut hm r x.name
 have g7:=kn.l 0 rfl
 have gc:=kn.e 0 rfl
 have g1:=kn.e 1 rfl
 refine Qz ?_
 refine Qa ?_
 simp only[go_sem,f0,f2,f7,f14,f15,f16,g7,how]
 refine Qe (Qd ?_)
 refine Qa ?_
 simp only[go_sem,how]
 refine Qc rfl ?_ ?_
 ·intro hc
  have h1:x.op=1:=by simpa using hc
  have eT:Qada x.op x.name (l0,n0,es0)=(l0,n0+1,Q04 (.str x.name) (.c (.int .i64 0)) es0):=by simp only[Qada,if_pos h1]
  have eC:opC (b::r) x.op x.name code=Qcb code (if Qgl (b::r) x.name then 2 else 0):=by simp only[opC,if_pos h1]
  rw[eT,eC]at hQ
  have tail:∀(H1:Heap) (e1:Env),Kn H0 H1 (Qpv c fl l k ((l0,n0,es0)::rest) (Qcb code (if Qgl (b::r) x.name then 2 else 0))) [(x7,stO x)]→
    lk 0 e1=.c (.ptr c 0)→lk 2 e1=.c (.pp [.mp l0,scC rest.ls])→lk 7 e1=.c (.ptr x7 0)→lk 14 e1=.c (.sl f5 5 (Ql sts))→lk 15 e1=.c (.int .i64 N)→lk 16 e1=.c (.int .i64 i)→
    Qah prog Qih (X.inBlock 4 (X.sq prog Qdo Q)) e1 H1:=by
   intro H1 e1 kn a0 a2 a7 a14 a15 a16
   have g7:=kn.l 0 rfl
   have g1:=kn.e 1 rfl
   refine Qwc ?_
   simp only[go_sem,a0,a2,a7,a14,a15,a16,g7,g1,Qjt,hky,how2]
   refine⟨by omega,?_⟩
   intro H2 h2
   have kn:Kn H0 H2 (Qpv c fl l k ((l0,n0+1,Q04 (.str x.name) (.c (.int .i64 0)) es0)::rest) (Qcb code (if Qgl (b::r) x.name then 2 else 0))) [(x7,stO x)]:=kn.stE 1 rfl h2
   try simp only[go_sem,X.next,how2]
   exact hQ _ kn _ rfl rfl rfl rfl rfl rfl
  refine Qz ?_
  refine Qeo ?_
  simp only[go_sem,scC,g7,g1,Qr3,Qjt,Q4,hky,hv,hin,how2,List.getD_cons_zero,List.getD_cons_succ]
  refine Qe ?_
  refine Qa ?_
  simp only[go_sem,how2]
  refine Qc rfl ?_ ?_
  ·intro hc2
   have hi:Qgl (b::r) x.name=true:=by simpa using hc2
   rw[hi]at tail
   refine Qn ?_
   simp only[go_sem,how2]
   refine Q9j gc fun H2 hu=>?_
   have kn:=kn.callE 0 rfl hu (by nofun)
   simp only[go_sem,X.next,how2]
   exact tail _ _ kn rfl rfl rfl rfl rfl rfl
  ·intro hc2
   have hi:Qgl (b::r) x.name=false:=by simpa using hc2
   rw[hi]at tail
   refine Qf ?_
   simp only[go_sem,X.next,how2]
   refine tail _ _ ?_ rfl rfl rfl rfl rfl rfl
   have:Qcb code (if false=true then 2 else 0)=code:=Qaiv code
   rw[this];exact kn
 intro hc
 have h1:¬x.op=1:=by simpa using hc
 have eT:Qada x.op x.name (l0,n0,es0)=(l0,n0,es0):=by simp only[Qada,if_neg h1]
 rw[eT]at hQ
 refine Qa ?_
 simp only[go_sem,how]
 refine Qc rfl ?_ ?_
 ·intro hc2
  have h2:x.op=2:=by simpa using hc2
  have eC:opC (b::r) x.op x.name code=Qcb code (if (Vars.find (b::r) x.name).isSome then 0 else 3):=by simp only[opC,if_neg h1,if_pos h2]
  rw[eC]at hQ
  refine Qa ?_
  simp only[go_sem,g7,how]
  refine Qava (ScD.scOk hs fun q hq=>(kn.get q (List.mem_append_left _ (List.mem_cons_of_mem _ hq))).1) ?_
  simp only[go_sem,Qhq,List.getD_cons_zero,List.getD_cons_succ,how]
  refine Qa ?_
  simp only[go_sem,how]
  refine Qc rfl ?_ ?_
  ·intro hc3
   have hf:(Vars.find (b::r) x.name).isSome=false:=by simpa using hc3
   rw[hf]at hQ
   refine Qn ?_
   simp only[go_sem,how]
   refine Q9j gc fun H2 hu=>?_
   have kn:=kn.callE 0 rfl hu (by nofun)
   simp only[go_sem,X.next,how]
   exact hQ _ kn _ rfl rfl rfl rfl rfl rfl
  ·intro hc3
   have hf:(Vars.find (b::r) x.name).isSome=true:=by simpa using hc3
   rw[hf]at hQ
   refine Qf ?_
   simp only[go_sem,X.next,how]
   refine hQ _ ?_ _ rfl rfl rfl rfl rfl rfl
   have:Qcb code (if true=true then 0 else 3)=code:=Qaiv code
   rw[this];exact kn
 ·intro hc2
  have h2:¬x.op=2:=by simpa using hc2
  have eC:opC (b::r) x.op x.name code=code:=by simp only[opC,if_neg h1,if_neg h2]
  rw[eC]at hQ
  refine Qf ?_
  simp only[go_sem,X.next,how]
  exact hQ _ kn _ rfl rfl rfl rfl rfl rfl
end Go.AE.Y

namespace Go.AE.Y
attribute [local go_sem] cond_true cond_false Bool.not_true Bool.not_false
open Go.Proofs.Tryz
variable {H H0:Heap}{K:V→Heap→Prop}{E E' L:List (Nat×Obj)}
theorem Qa53 {c lm n1 n2:Nat}{es1 es2:List (C×V)}{fl:Bool}{l:List Fn}{k:Nat}{sc:ScD}{x y:Int}{p:Nat×Obj}{H':Heap}
  (kn:Kn H0 H (Qpv c fl l k sc x) [p,(lm,.map n1 es1)]) (hu:Upd H H' (Qpv c fl l k ((lm,n2,es2)::sc) y)):Kn H0 H' (Qpv c fl l k sc y) [p]:=by
 refine Kn.drop (A:=[p]) (B:=[(lm,.map n2 es2)]) ?_
 have hlm:lm∉(Qpv c fl l k sc x).map Prod.fst:=fun h=>by
  obtain⟨q,hq,e⟩:=List.mem_map.1 h
  exact kn.ext q hq (by rw[e];exact kn.free 1 rfl)
 have hp:p.1≠lm:=kn.neL 0 1 (l:=p.1) (o:=p.2) rfl rfl (by omega)
 have hpE:p.1∉(Qpv c fl l k sc x).map Prod.fst:=fun h=>by
  obtain⟨q,hq,e⟩:=List.mem_map.1 h
  exact kn.ext q hq (by rw[e];exact kn.loc p (by simp))
 refine kn.callg (E2:=Qpv c fl l k sc y) (L2:=[p,(lm,.map n2 es2)]) hu (Qayf _ _ _ _ _ _ _) rfl (fun q hq=>?_) (fun u hu=>?_)
 ·rcases List.mem_append.1 hq with hq|hq
  ·refine⟨Qaqd _ _ _ _ _ _ q hq,.inl ?_⟩
   rcases List.mem_cons.1 hq with rfl|hq
   ·exact List.mem_cons_self
   ·exact List.mem_cons_of_mem _ (List.mem_cons_of_mem _ hq)
  ·rcases List.mem_cons.1 hq with rfl|hq
   ·refine⟨(kn.get q (by simp)).2,.inr ⟨by simp,?_⟩⟩
    rw[Qaip]at hpE⊢
    simp only[ScD.ls,List.map_cons,List.mem_cons,not_or]at hpE⊢
    exact⟨hpE.1,hp,hpE.2⟩
   ·simp only[List.mem_singleton]at hq
    subst hq
    exact⟨by nofun,.inl (List.mem_cons_of_mem _ List.mem_cons_self)⟩
 ·rcases List.mem_cons.1 hu with rfl|hu
  ·exact .inl List.mem_cons_self
  ·rcases List.mem_cons.1 hu with rfl|hu
   ·exact .inr (by simp)
   ·exact .inl (List.mem_cons_of_mem _ (List.mem_map_of_mem (f:=Prod.fst) hu))
theorem Qa51 {c lm n1:Nat}{fl:Bool}{l:List Fn}{k:Nat}{sc:ScD}{x:Int}{p:Nat×Obj}
  (kn:Kn H0 H (Qpv c fl l k sc x) [p,(lm,.map n1 [])]):∀q∈Qpv c fl l k ((lm,n1,[])::sc) x,H q.1=q.2:=by
 intro q hq
 rcases List.mem_cons.1 hq with rfl|hq
 ·exact kn.e 0 rfl
 ·rcases List.mem_cons.1 hq with rfl|hq
  ·exact kn.l 1 rfl
  ·exact (kn.get q (List.mem_append_left _ (List.mem_cons_of_mem _ hq))).1
theorem Qa52 {c lm n1:Nat}{fl:Bool}{l:List Fn}{k:Nat}{sc:ScD}{x:Int}{p:Nat×Obj}
  (kn:Kn H0 H (Qpv c fl l k sc x) [p,(lm,.map n1 [])]):(c::lm::sc.ls).Nodup:=by
 have hlm:lm∉(Qpv c fl l k sc x).map Prod.fst:=fun h=>by
  obtain⟨q,hq,e⟩:=List.mem_map.1 h
  exact kn.ext q hq (by rw[e];exact kn.free 1 rfl)
 have hd:=kn.dE
 rw[Qaip]at hd hlm
 simp only[List.nodup_cons,List.mem_cons,not_or]at hd hlm⊢
 exact⟨⟨fun e=>hlm.1 e.symm,hd.1⟩,hlm.2,hd.2⟩
theorem Qa5c {x:St}{d:Int}(h:x.form d=true):Qa6 x.body (d-1)=true∧Qa6 x.els (d-1)=true∧(¬(x.op=5∨x.op=6)→x.body=[]∧x.els=[]):=by
 rw[x.form_eq,Qaie]at h
 simp only[Bool.and_eq_true,Bool.or_eq_true,decide_eq_true_eq]at h
 obtain⟨⟨⟨_,⟨⟨_,h5⟩,h6⟩⟩,hb⟩,he⟩:=h
 refine⟨hb,he,fun hn=>⟨List.eq_nil_of_length_eq_zero ?_,List.eq_nil_of_length_eq_zero ?_⟩⟩
 ·rcases h6 with h6|h6
  ·exact (hn h6).elim
  ·exact h6
 ·rcases h5 with h5|h5
  ·exact (hn (.inl h5)).elim
  ·exact h5
theorem Qaye {c:Nat}{fl:Bool}{l:List Fn}{k:Nat}(hk:k≤l.length):∀(n:Nat) (sts:List St) (d:Int) (f5:Bool) (l0 n0:Nat) (es0:List (C×V)) (rest:ScD) (b:List (List UInt8×Nat)) (r:Vars) (s:Ck) (H:Heap) (K:V→Heap→Prop),
  Qg sts≤n→Qg sts≤2^38→Qa6 sts d=true→(c::l0::rest.ls).Nodup→s.v=b::r→ScD.ok (fun _=>0) ((l0,n0,es0)::rest) (b::r)→es0.length+sts.length≤LIM→
  (∀q∈Qpv c fl l k ((l0,n0,es0)::rest) s.c,H q.1=q.2)→
  (∀H' n' es' b',(Qao l k sts s).v=b'::r→MapOk (fun _=>0) es' b'→Upd H H' (Qpv c fl l k ((l0,n',es')::rest) (Qao l k sts s).c)→K (.tup []) H')→
  Qj prog Qbh [.c (.ptr c 0),.c (.sl f5 5 (Ql sts)),.c (scC (l0::rest.ls))] H K:=by
 intro n
 induction n using Nat.strongRecOn with
 |_ n ih=>
 intro sts d f5 l0 n0 es0 rest b r s H K hn hb hf hnd hsv hsc hle hh hK
 have how:(scC (l0::rest.ls)).isOw=false:=rfl
 rw[Qy4,List.all_eq_true]at hf
 refine Q8 ?_
 refine Qb Qaj Qzq ?_
 refine Qa ?_
 simp only[go_sem,how,Qw]
 intro hl
 simp only[LIM]at hl hle
 have kn:Kn H H (Qpv c fl l k ((l0,n0,es0)::rest) s.c) []:=.startE (fun p hp=>⟨hh p hp,Qaqd _ _ _ _ _ _ p hp⟩) (by rw[Qaip];exact hnd)
 refine Qd (Qt (fun m e1 H1=>∃(i n':Nat) (es':List (C×V)) (bi:List (List UInt8×Nat)),m=sts.length-i∧i≤sts.length∧(Qao l k (sts.take i) s).v=bi::r∧MapOk (fun _=>0) es' bi∧es'.length≤es0.length+i∧
  Kn H H1 (Qpv c fl l k ((l0,n',es')::rest) (Qao l k (sts.take i) s).c) []∧
  e1=[(0,.c (.ptr c 0)),(2,.c (scC (l0::rest.ls))),(14,.c (.sl f5 5 (Ql sts))),(15,.c (.int .i64 sts.length)),(16,.c (.int .i64 i))]) sts.length ?_ ?_)
 ·exact⟨0,n0,es0,b,by omega,by omega,by simpa[Qao]using hsv,hsc.1,by omega,by simpa[Qao]using kn,rfl⟩
 ·clear kn
  rintro m e1 H1 ⟨i,n',es',bi,hm,hi,hvi,hmi,hei,kn,rfl⟩
  obtain⟨si,hsi⟩:∃si,Qao l k (sts.take i) s=si:=⟨_,rfl⟩
  rw[hsi]at hvi kn
  refine Qa ?_
  simp only[go_sem,how]
  refine Qe (Qc rfl ?_ ?_)
  ·intro hc
   have hlt:i<sts.length:=by simpa using hc
   have hms:=Qai (List.getElem_mem hlt)
   obtain⟨x,hx⟩:∃x,sts[i]=x:=⟨_,rfl⟩
   have htk:=Qaif l k hlt s
   have hfx:=hf sts[i] (List.getElem_mem hlt)
   rw[hx]at hms hfx
   rw[hsi,hx]at htk
   have hse:=x.size_eq
   have hbl:=Qg4 x.body
   have hel:=Qg4 x.els
   obtain⟨fb,fe,fn⟩:=Qa5c hfx
   have hsci:ScD.ok (fun _=>0) ((l0,n',es')::rest) (bi::r):=⟨hmi,hsc.2⟩
   refine Qf ?_
   try simp only[go_sem]
   refine Qe (Qd ?_)
   refine Qa ?_
   simp only[go_sem,how,hlt,Qw,Qar _ _ hlt,hx,x.cells_eq]
   intro x7 hx7 H3 h3
   have kn:=kn.al hx7 h3
   have g7:=kn.l 0 rfl
   simp only[go_sem,Qho,g7,how]
   intro H4 h4
   have kn:Kn H H4 (Qpv c fl l k ((l0,n',es')::rest) si.c) [(x7,stO x)]:=kn.stL 0 rfl h4
   clear g7
   refine Qa23 (L:=[]) (sc:=(l0,n',es')::rest) (v:=bi::r) hk hnd hsci (by omega) kn (fun H5 kn e5 f0 f2 f7 f14 f15 f16=>?_)
   clear h4 h3
   refine Qa6i hnd hsci (by simp only[LIM];omega) kn f0 f2 f7 f14 f15 f16 (fun H6 kn e6 f0 f2 f7 f14 f15 f16=>?_)
   obtain⟨b1,hv1,hm1⟩:=Qa5r hmi l k x.op x.name x.args si hvi l0 n'
   have hl1:=Qa2m x.op x.name l0 n' es'
   have hc1:=Qa56 l k x.op x.name x.args si
   rw[hvi]at hc1
   rw[←hc1]at kn
   obtain⟨es1,n1,ht⟩:∃es1 n1,Qada x.op x.name (l0,n',es')=(l0,n1,es1):=by
    simp only[Qada];split <;> exact⟨_,_,rfl⟩
   rw[ht]at kn hm1 hl1
   simp only at hl1
   have hck:=x.ck_eq l k si
   obtain⟨s1,hs1⟩:∃s1,stC l k x.op x.name x.args si=s1:=⟨_,rfl⟩
   rw[hs1]at kn hv1 hck
   rw[hv1]at hck
   have hsc1:ScD.ok (fun _=>0) ((l0,n1,es1)::rest) (b1::r):=⟨hm1,hsc.2⟩
   have g7:=kn.l 0 rfl
   have fin:∀(H':Heap) (e':Env),Kn H H' (Qpv c fl l k ((l0,n1,es1)::rest) (x.ck l k si).c) []→lk 0 e'=.c (.ptr c 0)→lk 2 e'=.c (scC (l0::rest.ls))→lk 14 e'=.c (.sl f5 5 (Ql sts))→lk 15 e'=.c (.int .i64 sts.length)→lk 16 e'=.c (.int .i64 i)→
     Qah prog Qhn (X.next (fun e2 H2=>∃m',m'<m∧∃(i n':Nat) (es':List (C×V)) (bi:List (List UInt8×Nat)),m'=sts.length-i∧i≤sts.length∧(Qao l k (sts.take i) s).v=bi::r∧MapOk (fun _=>0) es' bi∧es'.length≤es0.length+i∧
      Kn H H2 (Qpv c fl l k ((l0,n',es')::rest) (Qao l k (sts.take i) s).c) []∧
      e2=[(0,.c (.ptr c 0)),(2,.c (scC (l0::rest.ls))),(14,.c (.sl f5 5 (Ql sts))),(15,.c (.int .i64 sts.length)),(16,.c (.int .i64 i))]) (X.inBlock 0 (Q0 Qr8 (unK H K)))) e' H':=by
    intro H' e' kn f0 f2 f14 f15 f16
    refine Qn ?_
    simp only[go_sem,f0,f2,f14,f15,f16,how,AE.X.next]
    refine⟨Qo (by omega) (by omega),sts.length-(i+1),by omega,i+1,n1,es1,b1,rfl,by omega,?_,hm1,by omega,?_,rfl⟩
    ·rw[htk,hck]
    ·rw[htk];exact kn
   refine Qa ?_
   simp only[go_sem,f0,f2,f7,f14,f15,f16,g7,how]
   refine Qc rfl ?_ ?_
   ·intro hc2
    refine Qeo ?_
    simp only[go_sem,f0,f2,f7,f14,f15,f16,g7,how]
    refine Qali how (fun lm nn H7 hlm h7=>?_)
    have kn:=kn.al hlm h7
    have g7:=kn.l 0 rfl
    simp only[go_sem,Qgd,g7,how]
    have hih:=ih (Qg x.body) (by omega) x.body (d-1) false lm nn [] ((l0,n1,es1)::rest) [] (b1::r) ⟨[]::b1::r,s1.c,s1.n⟩ H7
    refine hih _ (Nat.le_refl _) (by omega) fb (Qa52 kn) rfl ⟨.nil _,hsc1⟩ (by simp only[List.length_nil,LIM];omega) (Qa51 kn) (fun H8 n8 es8 b8 _ _ hu=>?_)
    have kn:=Qa53 kn hu
    have g7:=kn.l 0 rfl
    simp only[go_sem,how]
    refine Qwc ?_
    simp only[go_sem,g7,how]
    refine Qali how (fun lm nn H9 hlm h9=>?_)
    have kn:=kn.al hlm h9
    have g7:=kn.l 0 rfl
    simp only[go_sem,Qge,g7,how]
    obtain⟨s2,hs2⟩:∃s2,Qao l k x.body ⟨[]::b1::r,s1.c,s1.n⟩=s2:=⟨_,rfl⟩
    rw[hs2]at kn hck
    have hih:=ih (Qg x.els) (by omega) x.els (d-1) false lm nn [] ((l0,n1,es1)::rest) [] (b1::r) ⟨[]::b1::r,s2.c,s2.n⟩ H9
    refine hih _ (Nat.le_refl _) (by omega) fe (Qa52 kn) rfl ⟨.nil _,hsc1⟩ (by simp only[List.length_nil,LIM];omega) (Qa51 kn) (fun H10 n10 es10 b10 _ _ hu=>?_)
    have kn:=Kn.drop (A:=[]) (Qa53 kn hu)
    simp only[go_sem,AE.X.next,how]
    refine fin _ _ ?_ rfl rfl rfl rfl rfl
    rw[hck];exact kn
   ·intro hc2
    have hno:¬(x.op=5∨x.op=6):=by
     intro h
     rcases h with h|h <;> simp[h]at hc2
    obtain⟨eb,ee⟩:=fn hno
    rw[eb,ee]at hck
    simp only[Qao]at hck
    refine Qf ?_
    simp only[go_sem,AE.X.next,how]
    refine fin _ _ ?_ rfl rfl rfl rfl rfl
    rw[hck]
    exact Kn.drop (A:=[]) kn
  ·intro hc
   have hge:sts.length≤i:=by simpa using hc
   rw[List.take_of_length_le hge]at hsi
   refine Qu ?_
   simp only[go_sem,AE.X.next,Q0,Q6,Qr8]
   refine⟨.tup [],.tup _ _ rfl fun j x x' h=>by simp at h,hK _ n' es' bi (by rw[hsi];exact hvi) hmi ?_⟩
   rw[hsi]
   exact kn.fin
end Go.AE.Y

namespace Go.AE.Y
attribute [local go_sem] cond_true cond_false Bool.not_true Bool.not_false
open Go.Proofs.Tryz
variable {H H0:Heap}{K:V→Heap→Prop}{E E' L:List (Nat×Obj)}
abbrev fnO (f:Fn):Obj:=.st [.str f.name,.sl false 1 (Qy f.params),.sl false 5 (Ql f.body)]
abbrev ckO (fl:Bool)(l:List Fn)(k:Int)(code:Int):Obj:=.st [.sl fl 3 (Qm l),.int .i64 k,.int .i64 code]
theorem Qavi (s:List UInt8)(v:V):∀(es:List (C×V)),(Q04 (.str s) v es).length≤es.length+1
 |[]=>by simp[Q04]
 |e::es=>by
  have:=Qavi s v es
  simp only[Q04]
  split
  ·simp
  ·simp only[List.length_cons];omega
theorem Qa8m {c x5 N i:Nat}{fl:Bool}{l:List Fn}{a:Int}{e:Env}{Q:X→Env→Heap→Prop}(hi:i<l.length)(hf:l[i].form=true)(hs:Qg l[i].body≤2^38)
  (kn:Kn H0 H [] [(c,ckO fl l i a),(x5,fnO l[i])])
  (f1:lk 1 e=.c (.pp [.sl fl 3 (Qm l)])) (f3:lk 3 e=.c (.ptr c 0)) (f4:lk 4 e=.c (.int .i64 i)) (f5:lk 5 e=.c (.ptr x5 0)) (f18:lk 18 e=.c (.sl fl 3 (Qm l))) (f19:lk 19 e=.c (.int .i64 N)) (f20:lk 20 e=.c (.int .i64 i))
  (hQ:∀H',Kn H0 H' [] [(c,ckO fl l i (Qcb a (fnCk l i).c))]→∀e',lk 1 e'=.c (.pp [.sl fl 3 (Qm l)])→lk 3 e'=.c (.ptr c 0)→lk 18 e'=.c (.sl fl 3 (Qm l))→lk 19 e'=.c (.int .i64 N)→lk 20 e'=.c (.int .i64 i)→Q .nrm e' H') :
  Qah prog Qh8 Q e H:=by
 rw[←Qa64 hi a]at hQ
 obtain⟨f,hfe⟩:∃f,l[i]=f:=⟨_,rfl⟩
 obtain⟨j0,hj0,hji⟩:=Qa65 hi
 rw[hfe]at hf hs hQ kn hj0
 have g5:=kn.l 1 rfl
 have hfp:f.params.length≤3∧Qa6 f.body 4=true:=by
  rw[Fn.form]at hf
  simp only[Bool.and_eq_true,decide_eq_true_eq]at hf
  exact⟨hf.1.2,hf.2⟩
 have two:∀(H1:Heap) (e1:Env),Kn H0 H1 [] [(c,ckO fl l i (Qcb a (ixC l i f.name))),(x5,fnO f)]→lk 1 e1=.c (.pp [.sl fl 3 (Qm l)])→lk 3 e1=.c (.ptr c 0)→lk 5 e1=.c (.ptr x5 0)→lk 18 e1=.c (.sl fl 3 (Qm l))→lk 19 e1=.c (.int .i64 N)→lk 20 e1=.c (.int .i64 i)→
   Qah prog Qh7 Q e1 H1:=by
  intro H1 e1 kn f1 f3 f5 f18 f19 f20
  refine Qa ?_
  simp only[go_sem,f1,f3,f5,f18,f19,f20]
  refine Qali (sc:=.pnil) rfl (fun lm nn H2 hlm h2=>?_)
  have kn:=kn.al hlm h2
  have g5:=kn.l 1 rfl
  simp only[go_sem,Qid,f1,f3,f5,f18,f19,f20]
  refine Qz ?_
  refine Qa ?_
  simp only[go_sem,g5,Qr]
  intro hl
  simp only[LIM]at hl
  obtain⟨s0,hs0⟩:∃s0:Ck,(⟨[[]],Qcb a (ixC l i f.name),0⟩:Ck)=s0:=⟨_,rfl⟩
  have hs0v:s0.v=[[]]:=by rw[←hs0]
  have hs0c:Qcb a (ixC l i f.name)=s0.c:=by rw[←hs0]
  rw[hs0]at hQ
  rw[hs0c]at kn
  refine Qe (Qd (Qt (fun m e2 H3=>∃(j n':Nat) (es':List (C×V)) (bj:List (List UInt8×Nat)),m=f.params.length-j∧j≤f.params.length∧(Qxi (f.params.take j) s0).v=[bj]∧MapOk (fun _=>0) es' bj∧es'.length≤j∧
   Kn H0 H3 [] [(c,ckO fl l i (Qxi (f.params.take j) s0).c),(x5,fnO f),(lm,.map n' es')]∧
   e2=[(1,.c (.pp [.sl fl 3 (Qm l)])),(3,.c (.ptr c 0)),(5,.c (.ptr x5 0)),(6,.c (.pp [.mp lm,.pnil])),(18,.c (.sl fl 3 (Qm l))),(19,.c (.int .i64 N)),(20,.c (.int .i64 i)),(39,.c (.sl false 1 (Qy f.params))),(40,.c (.int .i64 f.params.length)),(41,.c (.int .i64 j))]) f.params.length ?_ ?_))
  ·exact⟨0,nn,[],[],by omega,by omega,hs0v,.nil _,by simp,kn,rfl⟩
  ·clear kn
   rintro m e2 H3 ⟨j,n',es',bj,hm,hj,hvj,hmj,hej,kn,rfl⟩
   obtain⟨sj,hsj⟩:∃sj,Qxi (f.params.take j) s0=sj:=⟨_,rfl⟩
   rw[hsj]at hvj kn
   refine Qa ?_
   simp only[go_sem]
   refine Qe (Qc rfl ?_ ?_)
   ·intro hc
    have hlt:j<f.params.length:=by simpa using hc
    obtain⟨p,hp⟩:∃p,f.params[j]=p:=⟨_,rfl⟩
    have hpd:f.params.getD j []=p:=by simp[List.getD_eq_getElem?_getD,hlt,hp]
    have htk:=Qam5 hlt s0
    rw[hsj,hp]at htk
    have hky:=eq_true hmj.ky
    have hv:(Qel (.str p) es').getD (.c (.int .i64 0))=.c (.int .i64 0):=by
     rw[hmj.fd]
     cases bj.find? fun q=>decide (q.1=p) <;> rfl
    have hin:=Qaut hmj [] p
    have gl:=kn.l 2 rfl
    have gc:=kn.l 0 rfl
    refine Qf ?_
    try simp only[go_sem]
    refine Qe (Qd ?_)
    refine Qa ?_
    simp only[go_sem,hlt,Qr,Qck _ _ hlt,hpd]
    have tail:∀(H4:Heap) (e3:Env),Kn H0 H4 [] [(c,ckO fl l i (Qcb sj.c (if Qgl [bj] p then 2 else 0))),(x5,fnO f),(lm,.map n' es')]→
      lk 1 e3=.c (.pp [.sl fl 3 (Qm l)])→lk 3 e3=.c (.ptr c 0)→lk 5 e3=.c (.ptr x5 0)→lk 6 e3=.c (.pp [.mp lm,.pnil])→lk 8 e3=.c (.str p)→lk 18 e3=.c (.sl fl 3 (Qm l))→lk 19 e3=.c (.int .i64 N)→lk 20 e3=.c (.int .i64 i)→
      lk 39 e3=.c (.sl false 1 (Qy f.params))→lk 40 e3=.c (.int .i64 f.params.length)→lk 41 e3=.c (.int .i64 j)→
      Qah prog Qjz (X.inBlock 3 (X.sq prog Qh5 (X.next (fun e2 H3=>∃m',m'<m∧∃(j n':Nat) (es':List (C×V)) (bj:List (List UInt8×Nat)),m'=f.params.length-j∧j≤f.params.length∧(Qxi (f.params.take j) s0).v=[bj]∧MapOk (fun _=>0) es' bj∧es'.length≤j∧
       Kn H0 H3 [] [(c,ckO fl l i (Qxi (f.params.take j) s0).c),(x5,fnO f),(lm,.map n' es')]∧
       e2=[(1,.c (.pp [.sl fl 3 (Qm l)])),(3,.c (.ptr c 0)),(5,.c (.ptr x5 0)),(6,.c (.pp [.mp lm,.pnil])),(18,.c (.sl fl 3 (Qm l))),(19,.c (.int .i64 N)),(20,.c (.int .i64 i)),(39,.c (.sl false 1 (Qy f.params))),(40,.c (.int .i64 f.params.length)),(41,.c (.int .i64 j))]) (X.inBlock 2 (X.sq prog Qh6 Q))))) e3 H4:=by
     intro H4 e3 kn f1 f3 f5 f6 f8 f18 f19 f20 f39 f40 f41
     have gl:=kn.l 2 rfl
     refine Qn ?_
     simp only[go_sem,f1,f3,f5,f6,f8,f18,f19,f20,f39,f40,f41,gl,Qjt,hky]
     refine⟨by simp only[LIM];omega,?_⟩
     intro H5 h5
     have kn:=kn.stL 2 rfl h5
     try simp only[go_sem,AE.X.next]
     refine Qn ?_
     simp only[go_sem,AE.X.next]
     have hl2:=Qavi p (.c (.int .i64 0)) es'
     refine⟨Qo (by omega) (by omega),f.params.length-(j+1),by omega,j+1,n'+1,Q04 (.str p) (.c (.int .i64 0)) es',(p,sj.n)::bj,rfl,by omega,?_,hmj.put p sj.n,by omega,?_,rfl⟩
     ·rw[htk];simp[Qr6,hvj]
     ·rw[htk,hvj];exact kn
    refine Qz ?_
    refine Qa ?_
    simp only[go_sem,gl,Qr3,Qjt,Q4,hky,hv,hin,List.getD_cons_zero,List.getD_cons_succ]
    refine Qe ?_
    refine Qa ?_
    simp only[go_sem]
    refine Qc rfl ?_ ?_
    ·intro hc2
     have hi2:Qgl [bj] p=true:=by simpa using hc2
     rw[hi2]at tail
     refine Qn ?_
     simp only[go_sem]
     refine Q9j gc fun H6 hu=>?_
     have kn:=kn.callL 0 rfl hu (by nofun)
     simp only[go_sem,AE.X.next]
     exact tail _ _ kn rfl rfl rfl rfl rfl rfl rfl rfl rfl rfl rfl
    ·intro hc2
     have hi2:Qgl [bj] p=false:=by simpa using hc2
     rw[hi2]at tail
     refine Qf ?_
     simp only[go_sem,AE.X.next]
     refine tail _ _ ?_ rfl rfl rfl rfl rfl rfl rfl rfl rfl rfl rfl
     have:Qcb sj.c (if false=true then 2 else 0)=sj.c:=Qaiv sj.c
     rw[this];exact kn
   ·intro hc
    have hge:f.params.length≤j:=by simpa using hc
    rw[List.take_of_length_le hge]at hsj
    rw[hsj]at hQ
    have g5:=kn.l 1 rfl
    refine Qu ?_
    simp only[go_sem,AE.X.next]
    refine Qn ?_
    simp only[go_sem,g5]
    have knp:Kn H0 H3 [] [(c,ckO fl l i sj.c),(lm,.map n' es'),(x5,fnO f)]:=kn.perm (.cons _ (.swap _ _ _))
    have hb:=Qaye (c:=c) (fl:=fl) (l:=l) (k:=i) (by omega) (Qg f.body) f.body 4 false lm n' es' [] bj [] sj H3
    refine hb _ (Nat.le_refl _) hs hfp.2 ?_ hvj ⟨hmj,trivial⟩ ?_ ?_ (fun H6 n6 es6 b6 hv6 hm6 hu=>?_)
    ·have:=knp.dL
     simp only[List.map_cons,List.map_nil,List.nodup_cons,List.mem_cons,List.not_mem_nil,or_false,not_or]at this⊢
     exact⟨⟨this.1.1,by simp[ScD.ls]⟩,by simp[ScD.ls],by simp[ScD.ls]⟩
    ·have:=Qg4 f.body
     simp only[LIM];omega
    ·intro q hq
     rcases List.mem_cons.1 hq with rfl|hq
     ·exact knp.l 0 rfl
     ·rcases List.mem_cons.1 hq with rfl|hq
      ·exact knp.l 1 rfl
      ·exact absurd hq (by simp[ScD.ob])
    ·have kn:=Kn.drop (A:=[(c,ckO fl l i (Qao l i f.body sj).c)]) (Kn.callLs (L:=[(c,ckO fl l i sj.c),(lm,.map n' es')]) (L':=[(c,ckO fl l i (Qao l i f.body sj).c),(lm,.map n6 es6)]) (M:=[(x5,fnO f)]) knp hu rfl (by
      intro p hp
      simp only[List.mem_cons,List.not_mem_nil,or_false]at hp
      rcases hp with rfl|rfl <;> nofun))
     simp only[go_sem]
     exact hQ _ kn _ rfl rfl rfl rfl rfl
 have hlt:decide (ixI (Qle l f.name)<(i:Int)) = !decide (Qle l f.name=some i):=by
  rw[hj0]
  simp only[ixI,Option.some.injEq]
  by_cases h:j0=i
  ·simp[h]
  ·have:(j0:Int)<i:=by omega
   simp[h,this]
 refine Qz ?_
 refine Qa ?_
 simp only[go_sem,f1,f3,f4,f5,f18,f19,f20,g5]
 refine Qaiy ?_
 simp only[go_sem,Qic,f1,f3,f4,f5,f18,f19,f20,hlt]
 refine Qe (Qc rfl ?_ ?_)
 ·intro hc
  have hne:¬Qle l f.name=some i:=by simpa using hc
  rw[ixC,if_neg hne]at two
  refine Qn ?_
  simp only[go_sem]
  refine Q9j (kn.l 0 rfl) fun H6 hu=>?_
  have kn:=kn.callL 0 rfl hu (by nofun)
  simp only[go_sem,AE.X.next]
  exact two _ _ kn rfl rfl rfl rfl rfl rfl
 ·intro hc
  have heq:Qle l f.name=some i:=by simpa using hc
  rw[ixC,if_pos heq,Qaiv]at two
  refine Qf ?_
  simp only[go_sem,AE.X.next]
  exact two _ _ kn rfl rfl rfl rfl rfl rfl
theorem Qaza {l:List Fn}{fl:Bool}(hf:Q1 l≤2^38)(g:GK H)(hK:∀H',Upd H H' []→K (.c (.int .i64 (Q5s l))) H'):Qj prog Qfi [.ag [.sl fl 3 (Qm l)]] H K:=by
 refine Q8 ?_
 refine Qb Qaj Q1m ?_
 have retf:∀(b:Int) (e:Env) (H':Heap) (L:List (Nat×Obj)),Q5s l=b→Kn H H' [] L→lk 2 e=.c (.int .i64 b)→Q0 Qgm (unK H K) .ret e H':=by
  intro b e H' L hf kn h4
  simp only[go_sem,Q0,Q6,Qgm,List.mem_singleton,forall_eq,RS.op,h4]
  refine⟨_,.c _ _ (Qk rfl),?_⟩
  rw[←hf];exact hK _ kn.fin
 have kn:=Kn.start0 H
 refine Qa ?_
 simp only[go_sem]
 refine Qz ?_
 refine Qa ?_
 simp only[go_sem]
 refine Q5n (by omega) g fun H1 hu=>?_
 have kn:=kn.call0 hu
 simp only[go_sem,Qh9]
 refine Qe (Qc rfl ?_ ?_)
 ·intro hc
  have hb:Qmb l=false:=by simpa using hc
  refine Qa ?_
  simp only[go_sem]
  refine Qh ?_
  simp only[go_sem,AE.X.next]
  exact retf 1 _ _ _ (by rw[Q5s,hb];rfl) kn rfl
 intro hc
 have hb:Qmb l=true:=by simpa using hc
 have hpc:Q5s l=ckK l l.length:=by rw[Q5s,if_pos hb]
 have hv:=hb
 simp only[Qmb,Bool.and_eq_true,decide_eq_true_eq,List.all_eq_true]at hv
 refine Qf ?_
 try simp only[go_sem]
 refine Qa ?_
 simp only[go_sem]
 intro c hc0 H2 h2
 have kn:=kn.al hc0 h2
 simp only[go_sem,Qia]
 refine Qz ?_
 refine Qa ?_
 simp only[go_sem,Qp]
 intro hl
 simp only[LIM]at hl
 refine Qe (Qd (Qt (fun m e1 H1=>∃(i:Nat) (at_:Int),m=l.length-i∧i≤l.length∧Kn H H1 [] [(c,ckO fl l at_ (ckK l i))]∧
  e1=[(1,.c (.pp [.sl fl 3 (Qm l)])),(3,.c (.ptr c 0)),(18,.c (.sl fl 3 (Qm l))),(19,.c (.int .i64 l.length)),(20,.c (.int .i64 i))]) l.length ?_ ?_))
 ·exact⟨0,0,by omega,by omega,kn,rfl⟩
 ·clear kn
  rintro m e1 H3 ⟨i,at_,hm,hi,kn,rfl⟩
  refine Qa ?_
  simp only[go_sem]
  refine Qe (Qc rfl ?_ ?_)
  ·intro hc
   have hlt:i<l.length:=by simpa using hc
   have hms:=Qcd (List.getElem_mem hlt)
   have hfm:=hv.1.2 _ (List.getElem_mem hlt)
   have hsu:=Qaio l i
   refine Qf ?_
   try simp only[go_sem]
   refine Qe (Qd ?_)
   refine Qa ?_
   simp only[go_sem,hlt,Qp,Qam _ _ hlt,Fn.cells]
   intro x5 hx5 H4 h4
   have kn:=kn.al hx5 h4
   have g5:=kn.l 1 rfl
   simp only[go_sem,Qib,g5]
   intro H5 h5
   have kn:=kn.stL 1 rfl h5
   have gc:=kn.l 0 rfl
   refine Qa ?_
   simp only[go_sem,gc]
   intro H6 h6
   have kn:Kn H H6 [] [(c,ckO fl l i (ckK l i)),(x5,fnO l[i])]:=kn.stL 0 rfl h6
   refine Qa8m hlt hfm (by omega) kn rfl rfl rfl rfl rfl rfl rfl (fun H7 kn e7 f1 f3 f18 f19 f20=>?_)
   simp only[go_sem,AE.X.next]
   refine Qn ?_
   simp only[go_sem,AE.X.next,f1,f3,f18,f19,f20]
   refine⟨Qo (by omega) (by omega),l.length-(i+1),by omega,i+1,i,rfl,by omega,?_,rfl⟩
   rw[hsu];exact kn
  ·intro hc
   have hge:l.length≤i:=by simpa using hc
   have hil:i=l.length:=by omega
   subst hil
   have gc:=kn.l 0 rfl
   refine Qu ?_
   simp only[go_sem,AE.X.next]
   refine Qa ?_
   simp only[go_sem,gc]
   refine Qh ?_
   exact retf _ _ _ _ hpc kn rfl
theorem Qaix {l:List Fn}{fl:Bool}(hf:Q1 l≤2^38)(g:GK H)(hK:∀H',Upd H H' []→K (.c (.bool (Qmp l))) H'):Qj prog Qup [.ag [.sl fl 3 (Qm l)]] H K:=by
 refine Qb Qaj Qazy ?_
 refine Qa ?_
 simp only[go_sem]
 refine Qa ?_
 simp only[go_sem]
 refine Qaza hf g fun H1 hu=>?_
 simp only[go_sem,Q4x]
 refine Qh ?_
 simp only[go_sem,Q0,Q6,Qgm,List.mem_singleton,forall_eq,RS.op]
 exact hK _ hu
end Go.AE.Y

namespace Go.AE
variable {H0 H H' F:Heap}{E L B A M:List (Nat×Obj)}{sz:Nat}{rows:List (List C)}{c:C}{Lg:List (Nat×Obj)}
def Gp (Lg:List (Nat×Obj))(sz:Nat)(rows:List (List C))(c:C):Prop:=
 (c=.sl true sz []∧rows=[]∧Lg=[])∨∃y R,c=.vsl y sz 0 rows.length∧Lg=[(y,.vec sz R)]∧R.take rows.length=rows
theorem Gp.nil (sz:Nat):Gp [] sz [] (.sl true sz []):=.inl ⟨rfl,rfl,rfl⟩
theorem Gp.isOw (h:Gp Lg sz rows c):c.isOw=false:=by rcases h with ⟨rfl,_⟩|⟨y,R,rfl,_⟩ <;> rfl
theorem Gp.slc (h:Gp Lg sz rows c)(hg:∀p∈Lg,H p.1=p.2):Slc H sz rows c:=by
 rcases h with ⟨rfl,rfl,rfl⟩|⟨y,R,rfl,rfl,hR⟩
 ·exact .mk' H true sz []
 ·have hy:H y=.vec sz R:=hg (y,.vec sz R) (by simp)
  have hle:rows.length≤R.length:=by
   have:=congrArg List.length hR
   rw[List.length_take]at this;omega
  exact⟨by simp[okSl,hy,hle],rfl,by simp[rowsOf,hy,hR],rfl⟩
theorem Gp.ne (h:Gp Lg sz rows c):∀p∈Lg,p.2≠.none:=by
 rcases h with ⟨_,_,rfl⟩|⟨y,R,_,rfl,_⟩
 ·simp
 ·intro p hp;simp only[List.mem_singleton]at hp;subst hp;nofun
theorem Kn.growP {K:V→Heap→Prop}{new:List (List C)}{b:C}(kn:Kn H0 H E (B++Lg))(hc:Gp Lg sz rows c)(hb:Slc H sz new b)
  (h1:∀r∈new,noOw r=true) (h2:rows.length+new.length≤LIM)
  (h:∀t Lg' H',Gp Lg' sz (rows++new) t→Kn H0 H' E (B++Lg')→K (.c t) H'):appQ H sz c b K:=by
 refine⟨hb.ok,hb.sz,?_⟩
 rcases hc with ⟨rfl,rfl,rfl⟩|⟨y,R,rfl,rfl,hR⟩
 ·simp only[hb.rows,hb.len,List.nil_append,List.length_nil,Nat.zero_add]
  refine⟨trivial,.inl trivial,h1,by simpa using h2,fun l hl H' hH'=>?_⟩
  rw[List.append_nil]at kn
  exact h _ _ H' (.inr ⟨l,new,by simp,rfl,List.take_length⟩) (kn.al hl hH')
 ·have hle:rows.length≤R.length:=by
   have:=congrArg List.length hR
   rw[List.length_take]at this;omega
  have hy:H y=.vec sz R:=(kn.get (y,.vec sz R) (by simp)).1
  simp only[hy,hb.rows,hb.len,List.drop_zero,hR]
  refine⟨trivial,trivial,by omega,h1,h2,fun l' hl' H' hH'=>?_⟩
  refine h _ [(l',.vec sz (rows++new))] H' (.inr ⟨l',rows++new,by simp,rfl,List.take_length⟩) ?_
  have:=kn.ap B.length (y:=y) (o:=.vec sz R) (by simp) hl' hH'
  simpa using this
theorem Gp.cut (h:Gp Lg sz rows c){k:Nat}(hk:k≤rows.length):Gp Lg sz (rows.take k) (sliC none (some (k:Int)) c):=by
 rcases h with ⟨rfl,rfl,rfl⟩|⟨y,R,rfl,rfl,hR⟩
 ·refine .inl ⟨?_,by simp,rfl⟩
  simp[sliC]
 ·refine .inr ⟨y,R,?_,rfl,?_⟩
  ·simp only[sliC,Option.getD_none,Option.getD_some,List.length_take,Int.toNat_natCast,Int.toNat_zero,Nat.zero_add,Nat.sub_zero]
   rw[Nat.min_eq_left hk]
  ·rw[List.length_take,Nat.min_eq_left hk,←hR,List.take_take,Nat.min_eq_left hk]
theorem Kn.side (kn:Kn F H [] (A++M)):∃F',Kn F' H [] A∧∀(A':List (Nat×Obj)) (H':Heap),Kn F' H' [] A'→Kn F H' [] (A'++M):=by
 have hnd:=kn.dL
 rw[List.map_append]at hnd
 obtain⟨d1,d2,d3⟩:=List.nodup_append.1 hnd
 obtain⟨F',hF'⟩:∃F':Heap,F'=fun m=>if m∈M.map Prod.fst then H m else F m:=⟨_,rfl⟩
 have hin:∀m,m∈M.map Prod.fst→F' m=H m:=fun m hm=>by rw[hF'];exact if_pos hm
 have hout:∀m,m∉M.map Prod.fst→F' m=F m:=fun m hm=>by rw[hF'];exact if_neg hm
 have hM:∀p∈M,F' p.1=p.2∧p.2≠.none:=fun p hp=>by
  have:=kn.get p (by simp[hp])
  rw[hin p.1 (Qdk hp)];exact this
 refine⟨F',⟨fun p hp=>kn.get p (by simp only[List.nil_append]at hp⊢;exact List.mem_append_left _ hp),by simp,fun p hp=>?_,by simp,d1,fun m hm _=>?_⟩,fun A' H' k=>?_⟩
 ·rw[hout p.1 fun h=>d3 _ (Qdk hp) _ h rfl]
  exact kn.loc p (List.mem_append_left _ hp)
 ·by_cases h:m∈M.map Prod.fst
  ·rw[hin m h]
  ·rw[hout m h]at hm⊢
   exact kn.chg m hm (by simp)
 ·have hA:∀p∈A',p.1∉M.map Prod.fst:=fun p hp h=>by
   obtain⟨q,hq,e⟩:=List.mem_map.1 h
   have h1:=k.loc p hp
   rw[←e,(hM q hq).1]at h1
   exact (hM q hq).2 h1
  refine⟨fun p hp=>?_,by simp,fun p hp=>?_,by simp,?_,fun m hm _=>?_⟩
  ·simp only[List.nil_append]at hp
   rcases List.mem_append.1 hp with hp|hp
   ·exact k.get p (by simpa using hp)
   ·obtain⟨h1,h2⟩:=hM p hp
    refine⟨?_,h2⟩
    rw[k.chg p.1 (by rw[h1];exact h2) (by simp),h1]
  ·rcases List.mem_append.1 hp with hp|hp
   ·rw[←hout p.1 (hA p hp)];exact k.loc p hp
   ·exact kn.loc p (List.mem_append_right _ hp)
  ·rw[List.map_append]
   refine List.nodup_append.2 ⟨k.dL,d2,fun a ha b hb hab=>?_⟩
   obtain⟨p,hp,rfl⟩:=List.mem_map.1 ha
   exact hA p hp (hab▸hb)
  ·have hmM:m∉M.map Prod.fst:=fun h=>by
    obtain⟨q,hq,rfl⟩:=List.mem_map.1 h
    exact hm (kn.loc q (List.mem_append_right _ hq))
   have:=k.chg m (by rw[hout m hmM];exact hm) (by simp)
   rw[this,hout m hmM]
end Go.AE
namespace Go.AE.Y
attribute [local go_sem] cond_true cond_false Bool.not_true Bool.not_false
open Go.Proofs.Tryz
variable {H H0:Heap}{K:V→Heap→Prop}{E E' L:List (Nat×Obj)}
abbrev wO (fl:Bool)(fns:List Fn)(k:Nat)(vc:C)(cnt:Nat)(code:Int):Obj:=.st [.sl fl 3 (Qm fns),.int .i64 k,vc,.int .i64 cnt,.int .i64 code]
theorem Qauw {n:Nat}(hK:∀s,K (.c (.str s)) H):Qj prog Qzi [.c (.int .i64 n)] H K:=by
 refine Qb Qaj Qa4k ?_
 have e1:((n:Int).tmod 26)=((n % 26:Nat):Int):=rfl
 have h1:n % 26<26:=Nat.mod_lt _ (by omega)
 refine Qa ?_
 simp only[go_sem]
 refine Qa ?_
 simp only[go_sem,e1]
 generalize n % 26=q at *
 refine⟨by decide,?_⟩
 refine Qa ?_
 simp only[go_sem]
 refine⟨Qo (by omega) (by omega),⟨by omega,by omega⟩,?_,?_⟩
 ·simp only[LIM,List.length_drop,List.length_take,List.length_cons,List.length_nil];omega
 refine Qh ?_
 simp only[go_sem,Q0,Q6,Qgm,List.mem_singleton,forall_eq,RS.op]
 exact hK _
theorem Q03 {w k cnt:Nat}{fl:Bool}{fns:List Fn}{vc:C}{code n:Int}(how:vc.isOw=false)(hH:H w=wO fl fns k vc cnt code)(hK:∀H',Upd H H' [(w,wO fl fns k vc cnt (Qcb code n))]→K (.tup []) H') :
  Qj prog Qbq [.c (.ptr w 0),.c (.int .i64 n)] H K:=by
 refine Qb Qaj Qai6 ?_
 have kn:=Kn.start1 hH (by nofun)
 refine Qa ?_
 simp only[go_sem,hH,how]
 refine Qc rfl (fun hc=>?_) (fun hc=>?_)
 ·have h0:code=0:=by simpa using hc
  refine Qn ?_
  simp only[go_sem,hH,how]
  intro H1 h1
  have kn:=kn.stE 0 rfl h1
  simp only[Q0,Q6,Qr8,go_sem]
  refine hK _ ⟨fun p hp=>?_,fun m h1 h2=>kn.chg m h1 h2⟩
  rw[Qcb,if_pos h0]at hp
  exact (kn.get p (List.mem_append_left _ hp)).1
 ·have h0:¬code=0:=by simpa using hc
  refine Qf ?_
  simp only[Q0,Q6,Qr8,go_sem]
  refine hK _ ⟨fun p hp=>?_,fun m h1 h2=>rfl⟩
  rw[Qcb,if_neg h0]at hp
  simp only[List.mem_singleton]at hp
  rw[hp];exact hH
def Qa8i (v:Vars)(s:List UInt8)(r:Int):Prop:=
 (r=-1∧((vT v).find? fun x=>decide (x.1=s))=none)∨∃(i:Nat) (x:List UInt8×Nat×Nat),r=i∧i<(vT v).length∧(Qa7 v).getD i []=row3 x∧((vT v).find? fun x=>decide (x.1=s))=some x
theorem Qavj {w k cnt:Nat}{fl:Bool}{fns:List Fn}{vc:C}{code:Int}{v:Vars}{s:List UInt8}(how:vc.isOw=false)(hH:H w=wO fl fns k vc cnt code)(hg:Slc H 3 (Qa7 v) vc)
  (hK:∀r,Qa8i v s r→K (.c (.int .i64 r)) H):Qj prog Qg9 [.c (.ptr w 0),.c (.str s)] H K:=by
 have hok:=eq_true hg.ok
 have hrw:=hg.rows
 have hln:=hg.len
 have hsz:=hg.sz
 rw[Qul]at hln
 refine Qb Qaj Qai7 ?_
 have retf:∀(n:Int) (e:Env),Qa8i v s n→lk 4 e=.c (.int .i64 n)→Q0 Qam8 K .ret e H:=by
  intro b e hf h1
  simp only[go_sem,Q0,Q6,Qam8,List.mem_singleton,forall_eq,RS.op,h1]
  exact hK _ hf
 refine Qa ?_
 simp only[go_sem]
 refine Qz ?_
 refine Qa ?_
 simp only[go_sem,hH,how,hok,hln]
 intro hl
 simp only[LIM]at hl
 refine⟨Qo (by omega) (by omega),?_⟩
 refine Qe (Qd (Qt (fun n e1 H1=>∃(j:Nat),n=j∧j≤(vT v).length∧H1=H∧(∀x∈(vT v).take ((vT v).length-j),¬decide (x.1=s)=true)∧e1=[(0,.c (.ptr w 0)),(1,.c (.str s)),(5,.c (.int .i64 ((j:Int)-1)))]) (vT v).length ?_ ?_))
 ·exact⟨(vT v).length,rfl,by omega,rfl,by simp,rfl⟩
 ·rintro n e1 H1 ⟨j,hnj,hj,rfl,hall,rfl⟩
  refine Qz ?_
  refine Qa ?_
  simp only[go_sem]
  refine Qe (Qc rfl ?_ ?_)
  ·intro hc
   have hj1:1≤j:=by simp at hc;omega
   obtain⟨i,rfl⟩:∃i,j=i+1:=⟨j-1,by omega⟩
   have e1:(((i+1:Nat):Int)-1)=(i:Int):=by omega
   have hlt:i<(vT v).length:=by omega
   have hk:(vT v).length-1-i<(vT v).length:=by omega
   have hr:=Qaij v hlt
   have ek:(vT v).length-(i+1)=(vT v).length-1-i:=by omega
   obtain⟨x,hx⟩:∃x,(vT v)[(vT v).length-1-i]=x:=⟨_,rfl⟩
   rw[hx]at hr
   have hr2:=hr
   rw[row3]at hr2
   rw[e1]at hc⊢
   refine Qf ?_
   simp only[go_sem]
   refine Qe (Qd ?_)
   refine Qa ?_
   simp only[go_sem,hH,how,hok,hln,hrw,hsz,hlt,hr2]
   refine Qc rfl ?_ ?_
   ·intro hc2
    refine Qa ?_
    simp only[go_sem]
    refine Qh ?_
    simp only[go_sem,AE.X.next]
    refine retf _ _ (.inr ⟨i,x,rfl,hlt,hr,?_⟩) rfl
    have:=Qa62 (p:=fun x:List UInt8×Nat×Nat=>decide (x.1=s)) hk (by rw[hx];exact hc2) (by rw[←ek];exact hall)
    rw[this,hx]
   ·intro hc2
    refine Qf ?_
    simp only[go_sem]
    refine Qn ?_
    simp only[go_sem,AE.X.next]
    refine⟨Qo (by omega) (by omega),i,by omega,i,rfl,by omega,?_,rfl⟩
    have e2:(vT v).length-i=(vT v).length-1-i+1:=by omega
    rw[e2,List.take_succ_eq_append_getElem hk]
    intro y hy
    rcases List.mem_append.1 hy with hy|hy
    ·rw[←ek]at hy;exact hall y hy
    ·simp only[List.mem_singleton]at hy
     rw[hy,hx]
     intro h;rw[h]at hc2;cases hc2
  ·intro hc
   have hj0:j=0:=by simp at hc;omega
   subst hj0
   refine Qu ?_
   simp only[go_sem,AE.X.next]
   refine Qa ?_
   simp only[go_sem]
   refine Qh ?_
   refine retf (-1) _ (.inl ⟨rfl,?_⟩) rfl
   rw[List.find?_eq_none]
   simpa using hall
theorem Qa2w {w k cnt:Nat}{fl:Bool}{fns:List Fn}{vc:C}{code:Int}{v:Vars}{s:List UInt8}(how:vc.isOw=false)(hH:H w=wO fl fns k vc cnt code)(hg:Slc H 3 (Qa7 v) vc)
  (hK:∀t H',Upd H H' [(w,wO fl fns k vc cnt (Qcb code (if (v.find s).isSome then 0 else 3)))]→K (.c (.str t)) H'):Qj prog Qiy [.c (.ptr w 0),.c (.str s)] H K:=by
 have hok:=eq_true hg.ok
 have hrw:=hg.rows
 have hln:=hg.len
 have hsz:=hg.sz
 rw[Qul]at hln
 refine Qb Qaj Qamt ?_
 have retf:∀(t:List UInt8) (e:Env) (H':Heap),Upd H H' [(w,wO fl fns k vc cnt (Qcb code (if (v.find s).isSome then 0 else 3)))]→lk 4 e=.c (.str t)→Q0 Qam8 K .ret e H':=by
  intro b e H' hu h1
  simp only[go_sem,Q0,Q6,Qam8,List.mem_singleton,forall_eq,RS.op,h1]
  exact hK _ _ hu
 refine Qa ?_
 simp only[go_sem]
 refine Qa ?_
 simp only[go_sem]
 refine Qavj how hH hg fun r hr=>?_
 simp only[go_sem,Qtc]
 refine Qz ?_
 refine Qa ?_
 simp only[go_sem]
 have hvf:=Qa8e v s
 rcases hr with ⟨rfl,hf⟩|⟨i,x,rfl,hlt,hrow,hf⟩
 ·rw[hf]at hvf
  rw[hvf]at retf
  refine Qe (Qc rfl (fun _=>?_) (fun h=>by cases h))
  refine Qa ?_
  simp only[go_sem]
  refine Q03 how hH fun H1 hu=>?_
  simp only[go_sem]
  refine Qa ?_
  simp only[go_sem]
  refine Qh ?_
  simp only[go_sem,AE.X.next]
  exact retf _ _ _ hu rfl
 ·rw[hf]at hvf
  rw[hvf]at retf
  have hr2:=hrow
  rw[row3]at hr2
  refine Qe (Qc rfl (fun h=>by have:=of_decide_eq_true h;omega) (fun _=>?_))
  refine Qf ?_
  try simp only[go_sem]
  refine Qa ?_
  simp only[go_sem,hH,how,hok,hln,hrw,hsz,hlt,hr2]
  refine Qauw fun t=>?_
  simp only[go_sem,Qtd]
  refine Qh ?_
  refine retf t _ _ ⟨fun q hq=>?_,fun m h1 h2=>rfl⟩ rfl
  simp only[List.mem_singleton]at hq
  rw[hq]
  have e0:Qcb code (if (Option.map (fun x:List UInt8×Nat×Nat=>x.2.1) (some x)).isSome=true then 0 else 3)=code:=Qahr code
  rw[e0];exact hH
theorem Qa2u {F:Heap}{w k cnt:Nat}{fl:Bool}{fns:List Fn}{vc:C}{code:Int}{b:List (List UInt8×Nat)}{r:Vars}{s:List UInt8}{Lg:List (Nat×Obj)}(hg:Gp Lg 3 (Qa7 (b::r)) vc)
  (kn:Kn F H [] ((w,wO fl fns k vc cnt code)::Lg)) (hc:cnt≤2^40) (hl:(Qa7 (b::r)).length+1≤LIM)
  (hK:∀t H' vc' Lg',Gp Lg' 3 (Qa7 (((s,cnt)::b)::r)) vc'→Kn F H' [] ((w,wO fl fns k vc' (cnt+1) (Qcb code (if Qgl (b::r) s then 2 else 0)))::Lg')→K (.c (.str t)) H') :
  Qj prog Qix [.c (.ptr w 0),.c (.str s),.c (.int .i64 r.length)] H K:=by
 have how:=hg.isOw
 have hH:=kn.l 0 rfl
 have hs:=hg.slc fun p hp=>(kn.get p (by simp[hp])).1
 have hok:=eq_true hs.ok
 have hrw:=hs.rows
 have hln:=hs.len
 have hsz:=hs.sz
 rw[Qul]at hln
 refine Qb Qaj Qams ?_
 have tail:∀(code':Int) (H1:Heap) (e1:Env),code'=Qcb code (if Qgl (b::r) s then 2 else 0)→Kn F H1 [] ((w,wO fl fns k vc cnt code')::Lg)→lk 0 e1=.c (.ptr w 0)→lk 1 e1=.c (.str s)→lk 2 e1=.c (.int .i64 r.length)→
   Qah prog Qwt (Q0 Qaae K) e1 H1:=by
  intro code' H1 e1 hcode kn f0 f1 f2
  subst hcode
  have hH:=kn.l 0 rfl
  refine Qeo ?_
  simp only[go_sem,f0,f1,f2,hH,how]
  refine Kn.growP (B:=[(w,wO fl fns k vc cnt (Qcb code (if Qgl (b::r) s then 2 else 0)))]) kn hg (.mk' _ true 3 _) (by simp[noOw,C.isOw]) (by simpa using hl) fun t Lg' H2 hg' kn=>?_
  have how':=hg'.isOw
  have hH:=kn.l 0 rfl
  simp only[go_sem,Qta,hH,how',f0,f1,f2]
  intro H3 h3
  have kn:=kn.stL 0 rfl h3
  have hH:=kn.l 0 rfl
  refine Qa ?_
  simp only[go_sem,hH,how',f0,f1,f2]
  refine⟨Qo (by omega) (by omega),?_⟩
  intro H4 h4
  have kn:=kn.stL 0 rfl h4
  have hH:=kn.l 0 rfl
  refine Qa ?_
  simp only[go_sem,hH,how',f0,f1,f2]
  refine⟨Qo (by omega) (by omega),?_⟩
  have en:((cnt:Int)+1-1)=((cnt:Nat):Int):=by omega
  try rw[en]
  refine Qauw fun t'=>?_
  simp only[go_sem,Qtb]
  refine Qh ?_
  simp only[go_sem,Q0,Q6,Qaae,List.mem_singleton,forall_eq,RS.op]
  exact hK t' _ t Lg' (by rw[Qadc];exact hg') kn
 refine Qa ?_
 simp only[go_sem]
 refine Qa ?_
 simp only[go_sem]
 refine Qavj how hH hs fun n hn=>?_
 simp only[go_sem,Qs9]
 refine Qz ?_
 have htop:=Qa96 b r s
 rcases hn with ⟨rfl,hf⟩|⟨i,x,rfl,hlt,hrow,hf⟩
 ·rw[hf]at htop
  have hm1:decide ((0:Int)≤-1)=false:=by decide
  have tn:Int.toNat (-1)=0:=rfl
  have ht0:Qgl (b::r) s=false:=by rw[htop];rfl
  rw[ht0]at tail
  obtain⟨ro,hro,hcase⟩:∃ro,(Qa7 (b::r)).getD 0 []=ro∧(ro=[]∨∃a m n,ro=[.str a,.int .i64 m,.int .i64 n]):=by
   refine⟨_,rfl,?_⟩
   rcases Nat.eq_zero_or_pos (vT (b::r)).length with h0|h0
   ·refine .inl ?_
    have:Qa7 (b::r)=[]:=List.eq_nil_of_length_eq_zero (by rw[Qul];exact h0)
    rw[this];rfl
   ·exact .inr ⟨_,_,_,Qaij _ h0⟩
  refine Qa ?_
  rcases hcase with rfl|⟨a,m,n,rfl⟩
  ·simp only[go_sem,hm1,hH,how,hok,hln,hrw,hsz,hro,tn,List.headD_nil]
   refine Qe (Qc rfl (fun h=>by cases h) (fun _=>?_))
   refine Qf ?_
   simp only[go_sem]
   exact tail code _ _ (Qahr code).symm kn rfl rfl rfl
  ·simp only[go_sem,hm1,hH,how,hok,hln,hrw,hsz,hro,tn]
   refine Qe (Qc rfl (fun h=>by cases h) (fun _=>?_))
   refine Qf ?_
   simp only[go_sem]
   exact tail code _ _ (Qahr code).symm kn rfl rfl rfl
 ·rw[hf]at htop
  have hr2:=hrow
  rw[row3]at hr2
  have hge:decide ((0:Int)≤(i:Int))=true:=decide_eq_true (by omega)
  refine Qa ?_
  simp only[go_sem,hge,hH,how,hok,hln,hrw,hsz,hlt,hr2]
  have he:decide (((x.2.2:Nat):Int)=((r.length:Nat):Int))=decide (x.2.2=r.length):=by rw[decide_eq_decide];omega
  simp only[Option.map_some,Option.getD_some]at htop
  rw[←htop]at he
  rw[he]
  refine Qe (Qc rfl (fun hc2=>?_) (fun hc2=>?_))
  ·refine Qn ?_
   simp only[go_sem]
   refine Q03 how hH fun H1 hu=>?_
   have kn:=kn.callL 0 rfl hu (by nofun)
   simp only[go_sem,AE.X.next]
   refine tail _ _ _ ?_ kn rfl rfl rfl
   have:Qgl (b::r) s=true:=by simpa using hc2
   rw[this];rfl
  ·refine Qf ?_
   simp only[go_sem,AE.X.next]
   refine tail code _ _ ?_ kn rfl rfl rfl
   have:Qgl (b::r) s=false:=by simpa using hc2
   rw[this];exact (Qahr code).symm
end Go.AE.Y

namespace Go.AE.Y
attribute [local go_sem] cond_true cond_false Bool.not_true Bool.not_false
open Go.Proofs.Tryz
variable {H H0:Heap}{K:V→Heap→Prop}{E E' L:List (Nat×Obj)}
theorem Qavc {l:List Fn}{fl:Bool}{name:List UInt8}(hK:K (.c (.int .i64 (ixI (Qle l name)))) H):Qj prog Quu [.ag [.sl fl 3 (Qm l)],.c (.str name)] H K:=by
 refine Qb Qaj Qa0b ?_
 have retf:∀(n:Int) (e:Env),n=ixI (Qle l name)→lk 4 e=.c (.int .i64 n)→Q0 Qam8 K .ret e H:=by
  intro b e hn h1
  simp only[go_sem,Q0,Q6,Qam8,List.mem_singleton,forall_eq,RS.op,h1]
  rw[hn];exact hK
 refine Qa ?_
 simp only[go_sem]
 refine Qz ?_
 refine Qa ?_
 simp only[go_sem]
 refine Qe (Qd (Qt (fun n e1 H1=>∃(i:Nat),n=l.length-i∧i≤l.length∧H1=H∧(∀f∈l.take i,¬f.name=name)∧e1=[(1,.c (.str name)),(2,.c (.pp [.sl fl 3 (Qm l)])),(5,.c (.int .i64 i))]) l.length ?_ ?_))
 ·exact⟨0,by omega,by omega,rfl,by simp,rfl⟩
 ·rintro n e1 H1 ⟨i,hn1,hi,rfl,hall,rfl⟩
  refine Qz ?_
  refine Qa ?_
  simp only[go_sem,Qp]
  intro hl
  simp only[LIM]at hl
  refine Qe (Qc rfl ?_ ?_)
  ·intro hc
   have hlt:i<l.length:=by simpa using hc
   refine Qf ?_
   simp only[go_sem]
   refine Qe (Qd ?_)
   refine Qa ?_
   simp only[go_sem,hlt,Qp,Qam _ _ hlt,Fn.cells]
   refine Qc rfl ?_ ?_
   ·intro hc2
    have hnm:l[i].name=name:=by simpa using hc2
    refine Qa ?_
    simp only[go_sem]
    refine Qh ?_
    simp only[go_sem,AE.X.next]
    exact retf i _ (by rw[Qayu hlt hnm hall];rfl) rfl
   ·intro hc2
    have hnm:¬l[i].name=name:=by simpa using hc2
    refine Qf ?_
    simp only[go_sem]
    refine Qn ?_
    simp only[go_sem,AE.X.next]
    refine⟨Qo (by omega) (by omega),l.length-(i+1),by omega,i+1,rfl,by omega,?_,rfl⟩
    rw[List.take_succ_eq_append_getElem hlt]
    intro x hx
    rcases List.mem_append.1 hx with hx|hx
    ·exact hall x hx
    ·simp only[List.mem_singleton]at hx;subst hx;exact hnm
  ·intro hc
   have hge:l.length≤i:=by simpa using hc
   rw[List.take_of_length_le hge]at hall
   refine Qu ?_
   simp only[go_sem,AE.X.next]
   refine Qa ?_
   simp only[go_sem]
   refine Qh ?_
   exact retf (-1) _ (by rw[Qayv hall];rfl) rfl
abbrev exO (op n:Int)(nm:List UInt8)(kc:C):Obj:=.st [.int .i64 op,.int .i64 n,.str nm,kc]
theorem Qa5y {w k cnt:Nat}{fl:Bool}{fns:List Fn}{vc:C}{Lg:List (Nat×Obj)}{v:Vars}(hg:Gp Lg 3 (Qa7 v) vc):∀(n:Nat) (x:Ex) (code:Int) (H:Heap) (K:V→Heap→Prop),
  x.size≤n→x.size≤2^38→((w::Lg.map Prod.fst).Nodup)→(∀p∈(w,wO fl fns k vc cnt code)::Lg,H p.1=p.2)→
  (∀(y:Ex) H',Upd H H' ((w,wO fl fns k vc cnt (Qat fns k v x.pre code))::Lg)→K (.ag y.cells) H')→Qj prog Qg8 [.c (.ptr w 0),.ag x.cells] H K:=by
 have how:=hg.isOw
 intro n
 induction n with
 |zero=>intro x code H K h;have:=x.size_pos;omega
 |succ n ih=>
 intro x code H K hn hb hnd hh hK
 have hsz:=x.size_kids
 have hne:∀c,∀p∈(w,wO fl fns k vc cnt c)::Lg,p.2≠.none:=by
  intro c p hp
  rcases List.mem_cons.1 hp with rfl|hp
  ·nofun
  ·exact hg.ne p hp
 have kn:Kn H H ((w,wO fl fns k vc cnt code)::Lg) []:=.startE (fun p hp=>⟨hh p hp,hne _ p hp⟩) hnd
 refine Q8 ?_
 refine Qb Qaj Qai5 ?_
 refine Qa ?_
 simp only[go_sem,x.cells_eq]
 intro x3 hx3 H1 h1
 have kn:=kn.al hx3 h1
 simp only[go_sem,Qqb]
 intro x4 hx4 H2 h2
 have kn:Kn H H2 ((w,wO fl fns k vc cnt code)::Lg) [(x3,exO x.op x.n x.name (.sl false 4 (Q2 x.kids))),(x4,exO 0 0 [] (.sl true 4 []))]:=kn.al hx4 h2
 try simp only[go_sem]
 have three:∀(H1:Heap) (e1:Env) (nm:List UInt8),Kn H H1 ((w,wO fl fns k vc cnt (Qcb code (Qd6 fns k v x)))::Lg) [(x3,exO x.op x.n nm (.sl false 4 (Q2 x.kids))),(x4,exO 0 0 [] (.sl true 4 []))]→
   lk 0 e1=.c (.ptr w 0)→lk 3 e1=.c (.ptr x3 0)→lk 4 e1=.c (.ptr x4 0)→Qah prog Qhx (Q0 Qf4 (unK H K)) e1 H1:=by
  intro H1 e1 nm kn f0 f3 f4
  refine Qa ?_
  simp only[go_sem,f0,f3,f4]
  refine Qz ?_
  refine Qa ?_
  simp only[go_sem]
  refine Qe (Qd (Qt (fun m e2 H2=>∃(j:Nat) (ks:List Ex) (Lk:List (Nat×Obj)) (t:C),m=x.kids.length-j∧j≤x.kids.length∧Gr Lk 4 (Q2 ks) t∧ks.length=j∧
   Kn H H2 ((w,wO fl fns k vc cnt (Qat fns k v (Qaa (x.kids.take j)) (Qcb code (Qd6 fns k v x))))::Lg) ([(x3,exO x.op x.n nm (.sl false 4 (Q2 x.kids))),(x4,exO 0 0 [] (.sl true 4 []))]++Lk)∧
   e2=[(0,.c (.ptr w 0)),(3,.c (.ptr x3 0)),(4,.c (.ptr x4 0)),(6,.c t),(7,.c (.int .i64 j))]) x.kids.length ?_ ?_))
  ·exact⟨0,[],[],.sl true 4 [],by omega,by omega,.nil 4,rfl,by simpa[Qaa,Qat]using kn,rfl⟩
  ·clear kn f0 f3 f4
   rintro m e2 H2 ⟨j,ks,Lk,t,hm,hj,hgk,hks,kn,rfl⟩
   have hto:=hgk.isOw
   have g3:=kn.l 0 rfl
   refine Qz ?_
   refine Qa ?_
   simp only[go_sem,g3,hto,Qi]
   intro hl
   simp only[LIM]at hl
   refine Qe (Qc rfl ?_ ?_)
   ·intro hc
    have hlt:j<x.kids.length:=by simpa using hc
    have hms:=Qad (List.getElem_mem hlt)
    obtain⟨y,hy⟩:∃y,x.kids[j]=y:=⟨_,rfl⟩
    have htk:=Qda hlt
    rw[hy]at hms htk
    refine Qf ?_
    try simp only[go_sem]
    refine Qe (Qd ?_)
    refine Qn ?_
    simp only[go_sem,g3,hto,hlt,Qi,Qag _ _ hlt,hy,y.cells_eq]
    have hih:=fun K=>ih y (Qat fns k v (Qaa (x.kids.take j)) (Qcb code (Qd6 fns k v x))) H2 K
    rw[y.cells_eq]at hih
    refine hih _ (by omega) (by omega) hnd (fun p hp=>(kn.get p (List.mem_append_left _ hp)).1) fun z H5 hu=>?_
    have kn:=kn.callAll hu rfl (hne _)
    simp only[go_sem,Qqf,hto,z.cells_len]
    refine kn.growR hgk (.mk' _ true 4 _) (by simpa using z.noOw) (by simp only[Qi,List.length_cons,List.length_nil,LIM];omega) fun t' Lk' H6 hg' hto' kn=>?_
    rw[Qe3]at hg'
    simp only[go_sem,Qqe,hto']
    refine Qn ?_
    simp only[go_sem,AE.X.next,hto']
    refine⟨Qo (by omega) (by omega),x.kids.length-(j+1),by omega,j+1,ks++[z],Lk',t',rfl,by omega,hg',by simp[hks],?_,rfl⟩
    rw[htk,Q1w]
    exact kn
   ·intro hc
    have hge:x.kids.length≤j:=by simpa using hc
    rw[List.take_of_length_le hge]at kn
    refine Qu ?_
    simp only[go_sem,AE.X.next]
    refine Qa ?_
    simp only[go_sem,g3,hto]
    intro H3 h3
    have kn:=kn.stL 0 rfl h3
    have g3:=kn.l 0 rfl
    have g4:=kn.l 1 rfl
    refine Qa ?_
    simp only[go_sem,g3,g4,hto]
    intro H4 h4
    have kn:=kn.stL 1 rfl h4
    have g4:=kn.l 1 rfl
    refine Qh ?_
    simp only[go_sem,Q0,Q6,Qf4,List.mem_singleton,forall_eq,RS.op,g4,hto]
    refine⟨.ag (Ex.mk x.op x.n nm ks).cells,?_,hK (Ex.mk x.op x.n nm ks) _ ?_⟩
    ·rw[Ex.cells_eq]
     exact (FrzL.cons (Qk rfl) (.cons (Qk rfl) (.cons (Qk rfl) (.cons (hgk.frz (B:=[_,_]) kn (Qe2 _)) .nil)))).ag
    ·rw[x.pre_eq]
     exact kn.fin
 have two:∀(H1:Heap) (e1:Env) (nm:List UInt8) (code1:Int),(x.op=2→code1=Qcb code (Qd6 fns k v x))→(¬x.op=2→code1=code∧nm=x.name)→Kn H H1 ((w,wO fl fns k vc cnt code1)::Lg) [(x3,exO x.op x.n nm (.sl false 4 (Q2 x.kids))),(x4,exO 0 0 [] (.sl true 4 []))]→
   lk 0 e1=.c (.ptr w 0)→lk 3 e1=.c (.ptr x3 0)→lk 4 e1=.c (.ptr x4 0)→Qah prog Qqa (Q0 Qf4 (unK H K)) e1 H1:=by
  intro H1 e1 nm code1 hc1 hc2 kn f0 f3 f4
  have g3:=kn.l 0 rfl
  have gw:=kn.e 0 rfl
  refine Qz ?_
  refine Qa ?_
  simp only[go_sem,f0,f3,f4,g3]
  refine Qe (Qc rfl ?_ ?_)
  ·intro hc
   have h13:x.op=13:=by simpa using hc
   have h2:¬x.op=2:=by omega
   obtain⟨ec,en⟩:=hc2 h2
   rw[ec,en]at kn
   rw[ec]at gw
   rw[en]at g3
   have hpc:=Qau3 fns k v x
   rw[if_neg h2,if_pos h13]at hpc
   refine Qeo ?_
   simp only[go_sem,g3,gw,how]
   refine Qavc ?_
   simp only[go_sem,Qqd]
   have bad:∀(e2:Env),Qd6 fns k v x=4→lk 0 e2=.c (.ptr w 0)→lk 3 e2=.c (.ptr x3 0)→lk 4 e2=.c (.ptr x4 0)→lk 35 e2=.c (.bool true)→Qah prog Qs8 (X.sq prog Qhx (Q0 Qf4 (unK H K))) e2 H1:=by
    intro e2 hp f0 f3 f4 f35
    refine Qc (c:=true) f35 (fun _=>?_) (fun h=>by cases h)
    refine Qn ?_
    simp only[go_sem,f0,f3,f4]
    refine Q03 how gw fun H3 hu=>?_
    have kn:=kn.callE 0 rfl hu (by nofun)
    rw[←hp]at kn
    simp only[go_sem,AE.X.next]
    exact three _ _ _ kn rfl rfl rfl
   cases hx:Qle fns x.name with
   |none=>
    rw[hx]at hpc
    refine Qa ?_
    simp only[go_sem,ixI,gw,how]
    exact bad _ hpc rfl rfl rfl rfl
   |some j=>
    rw[hx]at hpc
    obtain⟨hj,_,_⟩:=Qzd hx
    simp only[hj,List.getElem?_eq_getElem,Option.map_some,Option.getD_some]at hpc
    have hd0:decide ((j:Int)<0)=false:=decide_eq_false (by omega)
    refine Qa ?_
    simp only[go_sem,ixI,gw,how,hd0]
    by_cases hkj:k≤j
    ·have hd:decide ((k:Int)≤(j:Int))=true:=decide_eq_true (by omega)
     rw[if_pos hkj]at hpc
     refine bad _ hpc rfl rfl rfl ?_
     simp[lk,hkj]
    ·have hd:decide ((k:Int)≤(j:Int))=false:=decide_eq_false (by omega)
     rw[if_neg hkj]at hpc
     refine Qc (c:=false) (by simp[Opd.raw,lk];omega) (fun h=>by cases h) (fun _=>?_)
     refine Qeo ?_
     simp only[go_sem,g3,gw,how,hj,Qp,Qam _ _ hj,Fn.cells,Qr,Qi]
     refine Qc rfl ?_ ?_
     ·intro hc4
      have hne:¬fns[j].params.length=x.kids.length:=by
       have h:=Qzs hc4
       rw[decide_eq_false_iff_not]at h;omega
      rw[if_neg hne]at hpc
      refine Qn ?_
      simp only[go_sem]
      refine Q03 how gw fun H3 hu=>?_
      have kn:=kn.callE 0 rfl hu (by nofun)
      rw[←hpc]at kn
      simp only[go_sem,AE.X.next]
      exact three _ _ _ kn rfl rfl rfl
     ·intro hc4
      have he:fns[j].params.length=x.kids.length:=by
       have h:=Qr2 hc4
       rw[decide_eq_true_eq]at h;omega
      rw[if_pos he]at hpc
      refine Qf ?_
      simp only[go_sem,AE.X.next]
      refine three _ _ x.name ?_ rfl rfl rfl
      rw[hpc,Qahr];exact kn
  ·intro hc
   have h13:¬x.op=13:=by simpa using hc
   refine Qf ?_
   simp only[go_sem,AE.X.next]
   refine three _ _ nm ?_ rfl rfl rfl
   by_cases h2:x.op=2
   ·rw[←hc1 h2];exact kn
   ·obtain⟨ec,_⟩:=hc2 h2
    rw[ec]at kn
    have hpc:=Qau3 fns k v x
    rw[if_neg h2,if_neg h13]at hpc
    rw[hpc,Qahr];exact kn
 have g3:=kn.l 0 rfl
 have gw:=kn.e 0 rfl
 refine Qz ?_
 refine Qa ?_
 simp only[go_sem,g3]
 refine Qe (Qc rfl ?_ ?_)
 ·intro hc
  have h2:x.op=2:=by simpa using hc
  have hpc:Qd6 fns k v x=if (v.find x.name).isSome then 0 else 3:=by rw[Qd6,if_pos h2]
  refine Qn ?_
  simp only[go_sem,g3]
  refine Qa2w how gw (hg.slc fun p hp=>(kn.get p (by simp[hp])).1) fun t H3 hu=>?_
  have kn:=kn.callE 0 rfl hu (by nofun)
  have g3:=kn.l 0 rfl
  simp only[go_sem,Qqc,g3]
  intro H4 h4
  have kn:=kn.stL 0 rfl h4
  try simp only[go_sem,AE.X.next]
  exact two _ _ t _ (fun _=>by rw[hpc]) (fun h=>absurd h2 h) kn rfl rfl rfl
 ·intro hc
  have h2:¬x.op=2:=by simpa using hc
  refine Qf ?_
  simp only[go_sem,AE.X.next]
  exact two _ _ x.name code (fun h=>absurd h h2) (fun _=>⟨rfl,rfl⟩) kn rfl rfl rfl
end Go.AE.Y

namespace Go.AE.Y
structure Blk where
 ic:C
 irows:List (List C)
 lg:List (Nat×Obj)
 jump:Int
 on:Int
 nfl:Bool
 next:List Int
def Blk.row (b:Blk):List C:=[.sl true 2 [],b.ic,.int .i64 b.jump,.int .i64 b.on,.sl b.nfl 1 (Qq b.next)]
structure LS where
 fns:List Fn
 pfl:Bool
 params:Int
 regs:Int
 bc:C
 lb:List (Nat×Obj)
 blocks:List Blk
 at_:Nat
 vc:C
 lv:List (Nat×Obj)
 vars:List (List C)
 next:Int
def LS.o (s:LS):Obj:=.st [.sl s.pfl 3 (Qm s.fns),.int .i64 s.params,.int .i64 s.regs,s.bc,.int .i64 s.at_,s.vc,.int .i64 s.next,.sl true 1 []]
structure LS.ok (s:LS)(N:Nat):Prop where
 r0:0≤s.regs
 r1:s.regs≤N
 n0:0≤s.next
 n1:s.next≤N
 b1:s.blocks.length≤N
 i1:∀b∈s.blocks,b.irows.length≤N
 v1:s.vars.length≤N
theorem LS.ok.mono {s:LS}{N M:Nat}(h:s.ok N)(hm:N≤M):s.ok M:=
 ⟨h.r0,by have:=h.r1;omega,h.n0,by have:=h.n1;omega,by have:=h.b1;omega,fun b hb=>by have:=h.i1 b hb;omega,by have:=h.v1;omega⟩
variable {F H H':Heap}{w:Nat}{s:LS}
end Go.AE.Y

namespace Go.AE
variable {H0 H H' F:Heap}{E L B A:List (Nat×Obj)}
theorem Kn.frz1 {z:Nat}{o:Obj}(kn:Kn H0 H E (B++[(z,o)])):Kn H0 (H.frz fun m=>m == z) E B:=by
 have hzf:H0 z=.none:=kn.loc (z,o) (by simp)
 have hnd:=kn.dL
 rw[List.map_append]at hnd
 have hne:∀p∈B,p.1≠z:=fun p hp hh=>(List.nodup_append.1 hnd).2.2 _ (Qdk hp) z (by simp) hh
 have hneE:∀p∈E,p.1≠z:=fun p hp hh=>kn.ext p hp (hh▸hzf)
 refine⟨fun p hp=>?_,kn.ext,fun p hp=>kn.loc p (List.mem_append_left _ hp),kn.dE,(List.nodup_append.1 hnd).1,fun m hm hx=>?_⟩
 ·have:p.1≠z:=by
   rcases List.mem_append.1 hp with h|h
   ·exact hneE p h
   ·exact hne p h
  have h2:(H.frz fun m=>m == z) p.1=H p.1:=by simp[Heap.frz,this]
  rw[h2]
  refine kn.get p ?_
  rcases List.mem_append.1 hp with h|h
  ·exact List.mem_append_left _ h
  ·exact List.mem_append_right _ (List.mem_append_left _ h)
 ·have:m≠z:=fun h=>hm (h▸hzf)
  have h2:(H.frz fun m=>m == z) m=H m:=by simp[Heap.frz,this]
  rw[h2];exact kn.chg m hm hx
theorem Gr.freeze {Lg:List (Nat×Obj)}{sz:Nat}{rows:List (List C)}{c:C}(h:Gr Lg sz rows c)(kn:Kn H0 H E (B++Lg))(hr:∀r∈rows,noOw r=true) :
  ∃S H2,FrzC H S c (.sl false sz rows)∧FrzH H S H2∧Kn H0 H2 E B:=by
 rcases h with ⟨rfl,rfl,rfl⟩|⟨y,rfl,rfl⟩
 ·refine⟨fun _=>false,H,Y.FrzR.nil.sl,fun m=>.inr ⟨rfl,.same _⟩,by simpa using kn⟩
 ·exact⟨fun m=>m == y,_,(Y.FrzR.same hr).vsl (by simp) (kn.get (y,.vec sz rows) (by simp)).1 rfl,Qaur _ _,kn.frz1⟩
end Go.AE
namespace Go.AE.Y
variable {F H H':Heap}{w:Nat}{s:LS}{Lg:List (Nat×Obj)}{sz:Nat}{rows:List (List C)}{c:C}
end Go.AE.Y

