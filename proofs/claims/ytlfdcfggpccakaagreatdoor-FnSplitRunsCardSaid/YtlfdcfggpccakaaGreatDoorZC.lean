/- Part 3 of the proof: the engine, codes, walks and plain laws, each named where it stands. -/
import Derived.Test.YtlfdcfggpccakaaGreatDoorZB
open Nat (reduceEqDiff reduceAdd reduceLeDiff reduceLT)
set_option linter.unusedVariables false
set_option linter.unusedSimpArgs false
set_option maxRecDepth 4000
namespace Go.AE.Y
open Go.Proofs.Tryz
def Qoh:List Item:=[cJ 8 .geq 7 0,mJ 4 8]
def Qae1:SC:=sR (mJ 5 0::mJ 6 1::aJ 7 Qlx [.t 5,.t 6]::Qoh) [4] .ret
def Qaoj:SC:=sR [fB 4 false] [0,1] Qae1
def Qy1:List RS:=[.tmp 4]
theorem Qalu:mFn prog Qe3 2 9 Qaoj Qy1=true:=by kernel_rfl
def Qa9g:SC:=cT 17 (sR [mJ 18 5,mJ 4 18] [4] .ret) .skip
def Qa9h:SC:=.reg [mJ 10 5,cJ 11 .add 10 1,mJ 5 11] [0,1,5]
def Qa9i:SC:=.seq (.block 1 (sR [mJ 12 0,mJ 13 5,iJ 14 1 12 13,lJ 15 14,mJ 16 1,bJ 17 .eql 15 16] [0,1,5,17] Qa9g)) Qa9h
def Qa38:SC:=.seq (sR [mJ 6 5,mJ 7 0,nJ 8 7,bJ 9 .lss 6 8] [0,1,5,9] (cT 9 .skip (.exit 0))) Qa9i
def Qa9j:SC:=sR [zJ 4 (-1)] [4] .ret
def Qa9k:SC:=.seq (sR [zJ 5 0] [0,1,5] (bL 0 Qa38)) Qa9j
def Qbig:SC:=sR [zJ 4 0] [0,1] Qa9k
def Qavs:List RS:=[.tmp 4]
theorem Qbhv:mFn prog Qak2 2 19 Qbig Qavs=true:=by kernel_rfl
def Q3b:List Item:=[mJ 3 5]
def Q3c:List Item:=[mJ 2 9]
def Qav2:SC:=sR (mJ 8 3::aJ 9 Qlv [.t 8]::Q3c) [2] .ret
def Qav3:SC:=sR [mJ 6 3,aJ 7 Que [.t 6]] [3] Qav2
def Qav4:SC:=sR (mJ 4 0::aJ 5 Qci [.t 4]::Q3b) [3] Qav3
def Qa9e:SC:=sR [fI 2 (.mv (.k (.c (.sl true 1 []))))] [0] Qav4
def Qaqb:List RS:=[.tmp 2]
theorem Qa76:mFn prog Q0g 1 10 Qa9e Qaqb=true:=by kernel_rfl
def Qaw8:SC:=cT 5 (.reg [mJ 6 0,fI 7 (.sli 1 (.t 6) none (some (kI 2000))),mJ 0 7] [0]) .skip
def Q3w:List Item:=[mJ 2 10]
def Qaa0:SC:=sR (mJ 8 0::fI 9 (.bld [.sl true 1 [],.int .i64 0] [(0,1,.t 8)])::eI 10 (.boxm (.t 9))::Q3w) [2] .ret
def Qaw9:SC:=.seq (sR [mJ 3 0,nJ 4 3,cJ 5 .gtr 4 2000] [0,5] Qaw8) Qaa0
def Qa93:SC:=sR [fI 2 (.mv (.k (.c .pnil)))] [0] Qaw9
def Q9e:List RS:=[.tmp 2]
theorem Qa8f:mFn prog Q0m 1 11 Qa93 Q9e=true:=by kernel_rfl
def Qat1:SC:=cT 16 (sR [mJ 17 5,mJ 4 17] [4] .ret) .skip
def Qat2:SC:=sR [mJ 11 1,mJ 12 0,mJ 13 5,iJ 14 1 12 13,lJ 15 14,bJ 16 .eql 11 15] [0,1,5,7,8,16] Qat1
def Qat3:SC:=.reg [cJ 18 .add 8 1,mJ 8 18] [0,1,7,8]
def Qat4:SC:=.seq (.block 1 (sR [mJ 10 8,mJ 5 10] [0,1,5,7,8] Qat2)) Qat3
def Qaol:SC:=sR [bJ 9 .lss 8 7] [0,1,7,8,9] (cX 9 0 Qat4)
def Qat5:SC:=sR [zJ 4 (-1)] [4] .ret
def Qat6:SC:=.seq (sR [mJ 6 0,nJ 7 6,zJ 8 0] [0,1,7,8] (bL 0 Qaol)) Qat5
def Qa6a:SC:=sR [zJ 4 0] [0,1] Qat6
def Q06:List RS:=[.tmp 4]
theorem Qa3q:mFn prog Qlx 2 19 Qa6a Q06=true:=by kernel_rfl
def Qqi:List Item:=[oJ 14 13]
def Qafx:SC:=cT 14 (sR [fI 4 (.mv (.k (.c (.sl true 1 []))))] [4] .ret) .skip
def Qqj:List Item:=[mJ 6 20,sJ 5 7 22]
def Qqk:List Item:=[mJ 5 30]
def Qafy:SC:=cT 26 (.reg (mJ 27 5::mJ 28 6::fI 29 (.bsl 1 [.t 28])::xJ 30 1 27 29::Qqk) [1,5,16,17,18]) .skip
def Qafz:SC:=sR [fJ 23 4 7,lJ 24 23,mJ 25 1,aJ 26 Qe3 [.t 24,.t 25]] [1,5,6,16,17,18,26] Qafy
def Qaf0:SC:=.reg [cJ 31 .add 18 1,mJ 18 31] [1,5,16,17,18]
def Qaf1:SC:=.seq (.block 1 (sR (mJ 20 18::iJ 21 5 16 18::tJ 22 5 21::eI 7 (.alloc [.sl true 2 [],.sl true 4 [],.int .i64 0,.int .i64 0,.sl true 1 []])::Qqj) [1,5,6,7,16,17,18] Qafz)) Qaf0
def Q9u:SC:=sR [bJ 19 .lss 18 17] [1,5,16,17,18,19] (cX 19 0 Qaf1)
def Qaf2:SC:=sR [mJ 32 5,mJ 4 32] [4] .ret
def Q9r:SC:=.seq (sR [fJ 15 2 2,lJ 16 15,nJ 17 16,zJ 18 0] [1,5,16,17,18] (bL 0 Q9u)) Qaf2
def Q9s:SC:=.seq (sR (mJ 8 1::fJ 9 2 2::lJ 10 9::nJ 11 10::cJ 12 .sub 11 1::aJ 13 Qaq [.t 8,kI 0,.t 12]::Qqi) [1,2,5,14] Qafx) Q9r
def Q9t:SC:=sR [fI 5 (.mv (.k (.c (.sl true 1 []))))] [1,2,5] Q9s
def Qaqk:SC:=sR [vJ 2 0,fI 4 (.mv (.k (.c (.sl true 1 []))))] [1,2] Q9t
def Qp7:List RS:=[.tmp 4]
theorem Qapk:mFn prog Qb0 2 33 Qaqk Qp7=true:=by kernel_rfl
def Qga:List Item:=[cJ 8 .geq 7 0,mJ 4 8]
def Qx5:SC:=sR (mJ 5 0::mJ 6 1::aJ 7 Qhb [.t 5,.t 6]::Qga) [4] .ret
def Q2f:SC:=sR [fB 4 false] [0,1] Qx5
def Qkj:List RS:=[.tmp 4]
theorem Q0x:mFn prog Qa8 2 9 Q2f Qkj=true:=by kernel_rfl
def Qatp:SC:=cT 4 (sR [fI 2 (.mv (.k (.c (.sl true 1 []))))] [2] .ret) .skip
def Qz2:List Item:=[mJ 2 7]
def Qatq:SC:=sR (fI 5 (.bsl 1 [])::mJ 6 0::xJ 7 1 5 6::Qz2) [2] .ret
def Qatr:SC:=.seq (sR [mJ 3 0,eI 4 (.nilq (.t 3))] [0,4] Qatp) Qatq
def Qa58:SC:=sR [fI 2 (.mv (.k (.c (.sl true 1 []))))] [0] Qatr
def Q05:List RS:=[.tmp 2]
theorem Qa3o:mFn prog Qci 1 8 Qa58 Q05=true:=by kernel_rfl
def Q41:List Item:=[aJ 10 Qa9 [.t 5,kI 0,.t 6,.t 9]]
def Qaz9:SC:=.reg (mJ 5 0::mJ 6 2::mJ 7 2::fI 8 (.cvt .u64 (.t 7))::aJ 9 Q75 [.t 8]::Q41) []
def Qbas:SC:=sR [mJ 3 0,nJ 4 3,mJ 2 4] [0,2] Qaz9
def Qaqi:List RS:=[]
theorem Qa8m:mFn prog Que 1 11 Qbas Qaqi=true:=by kernel_rfl
def Qaja:SC:=cT 8 (sR [mJ 9 0,mJ 2 9] [2] .ret) .skip
def Qajb:SC:=.reg [mJ 52 3,cJ 53 .add 52 1,mJ 3 53] [0,3,4,5]
def Qajc:SC:=cT 44 (sR [mJ 45 0,mJ 46 3,mJ 47 4,mJ 48 5,iJ 49 1 47 48,lJ 50 49,iJ 51 1 45 46,sJ 1 51 50] [0,3,4,5] Qajb) .skip
def Qajd:SC:=.reg [mJ 33 5,cJ 34 .add 33 1,mJ 5 34] [0,3,4,5]
def Qaje:SC:=.seq (.block 3 (.seq (.dreg 10 [0,1,2,3,4,5,6,7,8,9] ( mJ 35 4::mJ 36 5::iJ 37 1 35 36::lJ 38 37::mJ 39 4::mJ 40 5::cJ 41 .sub 40 1::iJ 42 1 39 41::lJ 43 42::bJ 44 .neq 38 43::[]) [0,3,4,5,44]) Qajc)) Qajd
def Qae0:SC:=.seq (sR [mJ 29 5,mJ 30 4,nJ 31 30,bJ 32 .lss 29 31] [0,3,4,5,32] (cT 32 .skip (.exit 2))) Qaje
def Qajf:SC:=sR [mJ 57 0,mJ 58 3,fI 59 (.sli 1 (.t 57) none (some (.t 58))),mJ 2 59] [2] .ret
def Qajg:SC:=sR [mJ 54 0,mJ 55 3,fI 56 (.sli 1 (.t 54) (some (.t 55)) none),.e none none (.clrs 1 [.int .i64 0] (.t 56))] [0,3] Qajf
def Qajh:SC:=.seq (sR [zJ 5 1] [0,3,4,5] (bL 2 Qae0)) Qajg
def Qaji:SC:=cT 25 (sR [mJ 26 0,mJ 27 3,fI 28 (.sli 1 (.t 26) (some (.t 27)) none),mJ 4 28] [0,3,4] Qajh) .skip
def Qaev:SC:=.reg [mJ 14 3,cJ 15 .add 14 1,mJ 3 15] [0,3]
def Qaew:SC:=.seq (.block 1 (.seq (.dreg 10 [0,1,2,3,4,5,6,7,8,9] ( mJ 16 0::mJ 17 3::iJ 18 1 16 17::lJ 19 18::mJ 20 0::mJ 21 3::cJ 22 .sub 21 1::iJ 23 1 20 22::lJ 24 23::bJ 25 .eql 19 24::[]) [0,3,25]) Qaji)) Qaev
def Q60:SC:=.seq (sR [mJ 10 3,mJ 11 0,nJ 12 11,bJ 13 .lss 10 12] [0,3,13] (cT 13 .skip (.exit 0))) Qaew
def Qaex:SC:=sR [mJ 60 0,mJ 2 60] [2] .ret
def Qaey:SC:=.seq (sR [zJ 3 1] [0,3] (bL 0 Q60)) Qaex
def Qaez:SC:=.seq (sR [mJ 6 0,nJ 7 6,cJ 8 .lss 7 2] [0,8] Qaja) Qaey
def Qats:SC:=sR [fI 2 (.mv (.k (.c (.sl true 1 []))))] [0] Qaez
def Qin:List RS:=[.tmp 2]
theorem Qap2:mFn prog Qlv 1 61 Qats Qin=true:=by kernel_rfl
def Qam2:SC:=sR [mJ 7 1,mJ 8 0,bJ 9 .leq 7 8,mJ 10 9,gTm 11 10 0,gTm 12 10 2,gT 13 10 (.bin 0 .leq (.t 11) (.t 12)),pF 14 10 13,mJ 6 14] [6] .ret
def Qav9:SC:=sR [fB 6 false] [0,1,2] Qam2
def Q9b:List RS:=[.tmp 6]
theorem Qavh:mFn prog Qaq 3 15 Qav9 Q9b=true:=by kernel_rfl
def Q61:SC:=cT 16 (sR [mJ 17 5,mJ 4 17] [4] .ret) .skip
def Q62:SC:=sR [mJ 11 1,mJ 12 0,mJ 13 5,iJ 14 1 12 13,lJ 15 14,eI 16 (.callv (.t 11) [.t 15])] [0,1,5,7,8,16] Q61
def Q63:SC:=.reg [cJ 18 .add 8 1,mJ 8 18] [0,1,7,8]
def Q64:SC:=.seq (.block 1 (sR [mJ 10 8,mJ 5 10] [0,1,5,7,8] Q62)) Q63
def Q2g:SC:=sR [bJ 9 .lss 8 7] [0,1,7,8,9] (cX 9 0 Q64)
def Q65:SC:=sR [zJ 4 (-1)] [4] .ret
def Q66:SC:=.seq (sR [mJ 6 0,nJ 7 6,zJ 8 0] [0,1,7,8] (bL 0 Q2g)) Q65
def Qajj:SC:=sR [zJ 4 0] [0,1] Q66
def Qjk:List RS:=[.tmp 4]
theorem Qaft:mFn prog Qhb 2 19 Qajj Qjk=true:=by kernel_rfl
def Qty:SC:=cT 23 (sR [mJ 24 0,mJ 25 1,mJ 26 2,aJ 27 Qbm [.t 24,.t 25,.t 26]] [] .ret) .skip
def Qtz:SC:=cT 29 (sR [mJ 30 0,mJ 31 1,mJ 32 2,aJ 33 Qpt [.t 30,.t 31,.t 32]] [] .ret) .skip
def Qt0:SC:=.reg [mJ 40 3,cJ 41 .sub 40 1,mJ 3 41] [0,1,2,3,8,9,10]
def Qt1:SC:=cT 35 (sR [mJ 36 0,mJ 37 1,mJ 38 2,aJ 39 Qh5 [.t 36,.t 37,.t 38]] [0,1,2,3,8,9,10] Qt0) .skip
def Qpc:List Item:=[mJ 42 46,fI 47 (.ext (.t 42) 0),fI 48 (.ext (.t 42) 1),mJ 11 47,mJ 12 48]
def Qt2:SC:=.reg [zJ 12 1] [0,1,2,3,8,9,10,11,12]
def Qt3:SC:=sR [mJ 55 2,cJ 56 .sub 55 1,mJ 57 11,mJ 58 1,bJ 59 .sub 57 58,bJ 60 .sub 56 59,mJ 11 60] [0,1,2,3,8,9,10,11] Qt2
def Qt4:SC:=cT 50 (sR [mJ 51 0,mJ 52 1,mJ 53 2,aJ 54 Qjb [.t 51,.t 52,.t 53]] [0,1,2,3,8,9,10,11] Qt3) .skip
def Qt5:SC:=cT 68 (sR [mJ 69 0,mJ 70 1,mJ 71 2,aJ 72 Qdr [.t 69,.t 70,.t 71]] [0,1,2,3,8,9,10,11,72] (cT 72 .ret .skip)) .skip
def Qpd:List Item:=[gT 86 75 (.not (.t 85)),pF 87 75 86]
def Qmm:List Item:=[mJ 13 92]
def Qos:SC:=sR [mJ 93 13,mJ 1 93] [0,1,2,3,8,9] (.exit 1)
def Qot:SC:=cT 87 (sR (mJ 88 0::mJ 89 1::mJ 90 2::mJ 91 11::aJ 92 Qhc [.t 88,.t 89,.t 90,.t 91]::Qmm) [0,2,3,8,9,13] Qos) .skip
def Qmn:List Item:=[mJ 94 99,fI 100 (.ext (.t 94) 0),fI 101 (.ext (.t 94) 1),mJ 14 100,mJ 15 101]
def Qou:SC:=.reg [mJ 122 14,cJ 123 .add 122 1,mJ 1 123] [0,1,2,3,8,9]
def Qov:SC:=sR [mJ 117 0,mJ 118 1,mJ 119 14,mJ 120 3,aJ 121 Qa9 [.t 117,.t 118,.t 119,.t 120]] [0,2,3,8,9,14] Qou
def Qow:SC:=.reg [mJ 133 14,mJ 2 133] [0,1,2,3,8,9]
def Qox:SC:=sR [mJ 127 0,mJ 128 14,cJ 129 .add 128 1,mJ 130 2,mJ 131 3,aJ 132 Qa9 [.t 127,.t 129,.t 130,.t 131]] [0,1,3,8,9,14] Qow
def Qoy:SC:=cT 113 (sR [mJ 114 16,mJ 115 18,bJ 116 .geq 114 115,mJ 8 116] [0,1,2,3,8,9,14] Qov) (sR [mJ 124 17,mJ 125 18,bJ 126 .geq 124 125,mJ 8 126] [0,1,2,3,8,9,14] Qox)
def Qoz:SC:=sR [mJ 111 16,mJ 112 17,bJ 113 .lss 111 112] [0,1,2,3,9,14,16,17,18,113] Qoy
def Qo0:SC:=sR [mJ 109 10,cJ 110 .quo 109 8,mJ 18 110] [0,1,2,3,9,14,16,17,18] Qoz
def Qo1:SC:=sR [mJ 103 14,mJ 104 1,bJ 105 .sub 103 104,mJ 106 2,mJ 107 14,bJ 108 .sub 106 107,mJ 16 105,mJ 17 108] [0,1,2,3,9,10,14,16,17] Qo0
def Qo2:SC:=sR [mJ 102 15,mJ 9 102] [0,1,2,3,9,10,14] Qo1
def Qo3:SC:=sR (mJ 95 0::mJ 96 1::mJ 97 2::mJ 98 11::aJ 99 Qok [.t 95,.t 96,.t 97,.t 98]::Qmn) [0,1,2,3,10,14,15] Qo2
def Qo4:SC:=.seq (.seq (.dreg 15 [0,1,2,3,4,5,6,7,8,9,10,11,12,13,14] ( mJ 73 1::cJ 74 .gtr 73 0::mJ 75 74::gTm 76 75 0::gTm 77 75 1::gT 78 75 (.bin 0 .sub (.t 77) (kI 1))::gT 79 75 (.iad 1 (.t 76) (.t 78))::gTl 80 75 79::gTm 81 75 0::gTm 82 75 11::gT 83 75 (.iad 1 (.t 81) (.t 82))::gTl 84 75 83::.e (some 85) (some (75,true)) (.call Q76 [.t 80,.t 84])::Qpd) [0,1,2,3,8,9,10,11,87]) Qot) Qo3
def Qo5:SC:=.seq (sR [mJ 61 8,mJ 62 61,gTm 63 62 9,pF 64 62 63,mJ 65 64,gTm 66 65 12,gT 67 65 (.bin 0 .eql (.t 66) (kI 1)),pF 68 65 67] [0,1,2,3,8,9,10,11,68] Qt5) Qo4
def Qo6:SC:=.seq (sR [mJ 49 12,cJ 50 .eql 49 2] [0,1,2,3,8,9,10,11,12,50] Qt4) Qo5
def Qo7:SC:=sR (mJ 43 0::mJ 44 1::mJ 45 2::aJ 46 Qj3 [.t 43,.t 44,.t 45]::Qpc) [0,1,2,3,8,9,10,11,12] Qo6
def Qo8:SC:=.seq (sR [mJ 34 8,oJ 35 34] [0,1,2,3,8,9,10,35] Qt1) Qo7
def Qo9:SC:=.seq (sR [mJ 28 3,cJ 29 .eql 28 0] [0,1,2,3,8,9,10,29] Qtz) Qo8
def Qpa:SC:=.seq (sR [mJ 22 10,cJ 23 .leq 22 12] [0,1,2,3,8,9,10,23] Qty) Qo9
def Qmo:SC:=.block 1 (sR [mJ 19 2,mJ 20 1,bJ 21 .sub 19 20,mJ 10 21] [0,1,2,3,8,9,10] Qpa)
def Qpb:SC:=sR [fB 9 true] [0,1,2,3,8,9] (bL 0 Qmo)
def Qx6:SC:=sR [fB 8 true] [0,1,2,3,8] Qpb
def Qhk:List RS:=[]
theorem Qxi:mFn prog Qa9 4 134 Qx6 Qhk=true:=by kernel_rfl
def Qgp:List Item:=[pF 30 19 29]
def Qgq:List Item:=[iJ 48 1 35 37,sJ 1 48 46]
def Qhx:SC:=.reg [mJ 31 7,cJ 32 .sub 31 1,mJ 7 32] [0,1,2,6,7]
def Qhy:SC:=.seq (.block 3 (.dreg 18 [0,1,2,3,4,5,6,7,8,9,10,11,12,13,14,15,16,17] ( mJ 33 0::mJ 34 7::mJ 35 0::mJ 36 7::cJ 37 .sub 36 1::mJ 38 0::mJ 39 7::cJ 40 .sub 39 1::iJ 41 1 38 40::lJ 42 41::mJ 43 0::mJ 44 7::iJ 45 1 43 44::lJ 46 45::iJ 47 1 33 34::sJ 1 47 42::Qgq) [0,1,2,6,7])) Qhx
def Qgr:SC:=.seq (.seq (.dreg 15 [0,1,2,3,4,5,6,7,8,9,10,11,12,13,14] ( mJ 16 7::mJ 17 1::bJ 18 .gtr 16 17::mJ 19 18::gTm 20 19 0::gTm 21 19 7::gT 22 19 (.iad 1 (.t 20) (.t 21))::gTl 23 19 22::gTm 24 19 0::gTm 25 19 7::gT 26 19 (.bin 0 .sub (.t 25) (kI 1))::gT 27 19 (.iad 1 (.t 24) (.t 26))::gTl 28 19 27::.e (some 29) (some (19,true)) (.call Q76 [.t 23,.t 28])::Qgp) [0,1,2,6,7,30]) (cT 30 .skip (.exit 2))) Qhy
def Qhz:SC:=.reg [mJ 13 6,cJ 14 .add 13 1,mJ 6 14] [0,1,2,6]
def Qh0:SC:=.seq (.block 1 (sR [mJ 15 6,mJ 7 15] [0,1,2,6,7] (bL 2 Qgr))) Qhz
def Qgs:SC:=.seq (sR [mJ 10 6,mJ 11 2,bJ 12 .lss 10 11] [0,1,2,6,12] (cT 12 .skip (.exit 0))) Qh0
def Qjv:SC:=sR [mJ 8 1,cJ 9 .add 8 1,mJ 6 9] [0,1,2,6] (bL 0 Qgs)
def Qc2:List RS:=[]
theorem Qjf:mFn prog Qbm 3 49 Qjv Qc2=true:=by kernel_rfl
end Go.AE.Y

namespace Go.AE.Y
open Go.Proofs.Tryz
def Qkl:List Item:=[oJ 10 9]
def Q5b:SC:=cT 10 (sR [fB 2 false] [2] .ret) .skip
def Qkm:List Item:=[mJ 4 16,sJ 3 5 18]
def Qkn:List Item:=[oJ 22 21]
def Q5c:SC:=cT 22 (sR [fB 2 false] [2] .ret) .skip
def Qko:List Item:=[bJ 26 .add 23 25,mJ 3 26]
def Q5d:SC:=.reg (mJ 23 3::tJ 24 3 5::aJ 25 Qg2 [.t 24]::Qko) [1,3,12,13,14]
def Q5e:SC:=.seq (sR (tJ 19 1 1::mJ 20 4::aJ 21 Qpl [.t 19,.t 20]::Qkn) [1,3,5,12,13,14,22] Q5c) Q5d
def Q5f:SC:=.reg [cJ 27 .add 14 1,mJ 14 27] [1,3,12,13,14]
def Q5g:SC:=.seq (.block 1 (sR (mJ 16 14::iJ 17 3 12 14::tJ 18 3 17::eI 5 (.alloc [.int .i64 0,.int .i64 0,.sl true 5 []])::Qkm) [1,3,4,5,12,13,14] Q5e)) Q5f
def Qy4:SC:=sR [bJ 15 .lss 14 13] [1,3,12,13,14,15] (cX 15 0 Q5g)
def Q1b:SC:=sR [mJ 28 3,cJ 29 .leq 28 800,mJ 2 29] [2] .ret
def Q1c:SC:=.seq (sR [fJ 11 0 1,lJ 12 11,nJ 13 12,zJ 14 0] [1,3,12,13,14] (bL 0 Qy4)) Q1b
def Q1d:SC:=sR [zJ 3 0] [1,3] Q1c
def Q1e:SC:=.seq (sR (fJ 6 0 1::lJ 7 6::nJ 8 7::aJ 9 Qaq [.t 8,kI 1,kI 4]::Qkl) [1,10] Q5b) Q1d
def Qaf6:SC:=sR [vJ 1 0,fB 2 false] [1] Q1e
def Qjh:List RS:=[.tmp 2]
theorem Qafh:mFn prog Qbg 1 30 Qaf6 Qjh=true:=by kernel_rfl
def Qm6:List Item:=[hJ 4 3,fI 8 (.bld [.int .i64 0,.sl true 1 []] [(0,1,.t 4),(1,1,.t 7)]),sJ 2 2 8]
def Q96:SC:=.seq (.dreg 7 [0,1,2,3,4,1,5,6] ( fJ 3 0 1::lJ 4 3::fJ 5 1 1::lJ 6 5::aJ 7 Qci [.t 6]::Qm6) [2]) .ret
def Qamg:SC:=sR [vJ 1 0,eI 2 (.alloc [.int .i64 0,.sl true 1 []])] [1,2] Q96
def Qyo:List RS:=[.cell 2 2 true]
theorem Qalj:mFn prog Qcz 1 9 Qamg Qyo=true:=by kernel_rfl
def Qkq:List Item:=[sJ 5 5 12]
def Q5k:SC:=.reg [mJ 13 3,fJ 14 0 5,lJ 15 14,nJ 16 15,fJ 17 1 5,lJ 18 17,nJ 19 18,bJ 20 .add 16 19,bJ 21 .add 13 20,mJ 3 21] [3,7,8,9]
def Q5l:SC:=.reg [cJ 22 .add 9 1,mJ 9 22] [3,7,8,9]
def Q5m:SC:=.seq (.block 1 (sR (iJ 11 5 7 9::tJ 12 5 11::eI 5 (.alloc [.sl true 2 [],.sl true 4 [],.int .i64 0,.int .i64 0,.sl true 1 []])::Qkq) [3,5,7,8,9] Q5k)) Q5l
def Q1i:SC:=sR [bJ 10 .lss 9 8] [3,7,8,9,10] (cX 10 0 Q5m)
def Q5n:SC:=sR [mJ 23 3,mJ 2 23] [2] .ret
def Q5o:SC:=.seq (sR [fJ 6 2 1,lJ 7 6,nJ 8 7,zJ 9 0] [3,7,8,9] (bL 0 Q1i)) Q5n
def Q5p:SC:=sR [zJ 3 0] [1,3] Q5o
def Qaf9:SC:=sR [vJ 1 0,zJ 2 0] [1] Q5p
def Qvr:List RS:=[.tmp 2]
theorem Qafj:mFn prog Qg2 1 24 Qaf9 Qvr=true:=by kernel_rfl
def Qv5:List Item:=[sJ 3 5 16]
def Qe5:List Item:=[gF 35 30 (.not (.t 34)),pT 36 30 35]
def Qe6:List Item:=gF 28 21 (.not (.t 27))::pT 29 21 28::mJ 30 29::gFf 31 30 2 5::gFl 32 30 31::gF 33 30 (.len (.t 32))::.e (some 34) (some (30,false)) (.call Qaq [.t 33,kI 1,kI 160])::Qe5
def Qjn:List Item:=oJ 20 19::mJ 21 20::gFf 22 21 0 5::gFl 23 21 22::gFf 24 21 1 5::gFl 25 21 24::gF 26 21 (.mn (kI 3) (.t 25))::.e (some 27) (some (21,false)) (.call Qaq [.t 23,kI 0,.t 26])::Qe6
def s_im_codeOk_4:SC:=cT 36 (sR [fB 4 false] [4] .ret) .skip
def Qv6:List Item:=[sJ 1 6 37]
def Qv7:List Item:=[mJ 7 43,sJ 5 8 45]
def Qc4:List Item:=[gF 69 65 (.not (.t 68)),gFm 70 65 69,gTf 71 70 3 8,gTl 72 70 71,gT 73 70 (.bin 0 .neq (.t 72) (kI 0)),gF 74 65 (.pick (.t 70) (.t 73) (.k (.c (.bool false)))),pT 75 65 74]
def Qc5:List Item:=gT 62 57 (.not (.t 61))::gF 63 53 (.pick (.t 57) (.t 62) (.k (.c (.bool false))))::pT 64 53 63::mJ 65 64::gFf 66 65 2 8::gFl 67 65 66::.e (some 68) (some (65,false)) (.call Qid [.t 67])::Qc4
def Qe7:List Item:=gFm 57 53 56::gTl 58 57 6::gTf 59 57 3 8::gTl 60 57 59::.e (some 61) (some (57,true)) (.callv (.t 58) [.t 60])::Qc5
def Qhr:List Item:=hJ 47 46::.chk 48 none (.len (.t 47))::bJ 52 .neq 48 51::mJ 53 52::gFf 54 53 2 8::gFl 55 53 54::.e (some 56) (some (53,false)) (.call Qid [.t 55])::Qe7
def s_im_codeOk_11:SC:=cT 75 (sR [fB 4 false] [4] .ret) .skip
def Qhs:List Item:=[pT 85 80 84]
def Qht:List Item:=mJ 80 79::gFf 81 80 1 8::gFl 82 80 81::gF 83 80 (.mkf Qg4 [.t 2,.t 3])::.e (some 84) (some (80,false)) (.call Qcb [.t 82,.t 83])::Qhs
def s_im_codeOk_14:SC:=cT 85 (sR [fB 4 false] [4] .ret) .skip
def Qqs:List Item:=[nJ 89 88,mJ 9 89]
def Qqt:List Item:=[sJ 2 11 96]
def Qcl:List Item:=[pT 118 113 117]
def Qcm:List Item:=gF 104 99 (.not (.t 103))::pT 105 99 104::mJ 106 105::gFf 107 106 1 11::gFl 108 106 107::gF 109 106 (.len (.t 108))::gFm 110 106 9::gF 111 106 (.bin 0 .neq (.t 109) (.t 110))::pT 112 106 111::mJ 113 112::gFf 114 113 1 11::gFl 115 113 114::gF 116 113 (.mkf Qg5 [.t 6])::.e (some 117) (some (113,false)) (.call Qa8 [.t 115,.t 116])::Qcl
def Qv1:SC:=cT 118 (sR [fB 4 false] [4] .ret) .skip
def Qaga:SC:=sR (mJ 97 7::cJ 98 .eql 97 0::mJ 99 98::gFl 100 99 6::gFf 101 99 0 11::gFl 102 99 101::.e (some 103) (some (99,false)) (.callv (.t 100) [.t 102])::Qcm) [2,3,5,6,7,9,39,40,41,91,92,93,118] Qv1
def Qv2:SC:=.reg [cJ 119 .add 93 1,mJ 93 119] [2,3,5,6,7,9,39,40,41,91,92,93]
def Qagb:SC:=.seq (.block 3 (sR (iJ 95 2 91 93::tJ 96 2 95::eI 11 (.alloc [.int .i64 0,.sl true 1 []])::Qqt) [2,3,5,6,7,9,11,39,40,41,91,92,93] Qaga)) Qv2
def Q97:SC:=sR [bJ 94 .lss 93 92] [2,3,5,6,7,9,39,40,41,91,92,93,94] (cX 94 2 Qagb)
def Qagc:SC:=sR [fJ 90 0 8,lJ 91 90,nJ 92 91,zJ 93 0] [2,3,5,6,7,9,39,40,41,91,92,93] (bL 2 Q97)
def Qjm:SC:=sR (tJ 86 3 5::mJ 87 7::aJ 88 Qb0 [.t 86,.t 87]::Qqs) [2,3,5,6,7,8,9,39,40,41] Qagc
def Qv3:SC:=.seq (sR (fJ 76 4 8::lJ 77 76::fI 78 (.mkf Qg3 [.t 5])::aJ 79 Qa8 [.t 77,.t 78]::Qht) [2,3,5,6,7,8,39,40,41,85] s_im_codeOk_14) Qjm
def Qagd:SC:=.seq (.seq (.dreg 30 [0,1,2,3,4,5,1,2,6,7,8,9,10,11,12,13,14,15,16,17,18,19,20,21,22,23,24,25,26,27,28,29] ( fJ 46 4 8::lJ 47 46::nJ 48 47::fJ 49 2 8::lJ 50 49::aJ 51 Qg6 [.t 50]::Qhr) [2,3,5,6,7,8,39,40,41,75]) s_im_codeOk_11) Qv3
def Qage:SC:=.reg [cJ 120 .add 41 1,mJ 41 120] [2,3,5,6,39,40,41]
def Qagf:SC:=.seq (.block 1 (sR (mJ 43 41::iJ 44 5 39 41::tJ 45 5 44::eI 8 (.alloc [.sl true 2 [],.sl true 4 [],.int .i64 0,.int .i64 0,.sl true 1 []])::Qv7) [2,3,5,6,7,8,39,40,41] Qagd)) Qage
def Q98:SC:=sR [bJ 42 .lss 41 40] [2,3,5,6,39,40,41,42] (cX 42 0 Qagf)
def Qagg:SC:=sR [fB 4 true] [4] .ret
def Qagh:SC:=.seq (sR [fJ 38 2 5,lJ 39 38,nJ 40 39,zJ 41 0] [2,3,5,6,39,40,41] (bL 0 Q98)) Qagg
def Qv4:SC:=sR (fI 37 (.mkf Qae [.t 5])::eI 6 (.alloc [.fnil])::Qv6) [2,3,5,6] Qagh
def Qagi:SC:=.seq (sR (fJ 17 1 5::lJ 18 17::aJ 19 Qaq [.t 18,kI 0,kI 300]::Qjn) [2,3,5,36] s_im_codeOk_4) Qv4
def Qagj:SC:=sR (fJ 12 0 2::lJ 13 12::lJ 14 3::iJ 15 3 13 14::tJ 16 3 15::eI 5 (.alloc [.int .i64 0,.int .i64 0,.sl true 5 []])::Qv5) [2,3,5] Qagi
def Qav0:SC:=sR [vJ 2 0,vJ 3 1,fB 4 false] [2,3] Qagj
def Qhf:List RS:=[.tmp 4]
theorem Qavc:mFn prog Qpl 2 121 Qav0 Qhf=true:=by kernel_rfl
def Qkr:List Item:=[mJ 3 8]
def Q5q:SC:=sR (mJ 4 0::fJ 5 1 1::lJ 6 5::cJ 7 .sub 6 1::aJ 8 Qaq [.t 4,kI 0,.t 7]::Qkr) [3] .ret
def Qagk:SC:=sR [fB 3 false] [0,1] Q5q
def Qvs:List RS:=[.tmp 3]
theorem Qafk:mFn prog Qae 2 9 Qagk Qvs=true:=by kernel_rfl
def Qks:List Item:=[oJ 10 9,mJ 3 10]
def Q5r:SC:=sR (mJ 4 0::fJ 5 2 1::lJ 6 5::nJ 7 6::cJ 8 .sub 7 1::aJ 9 Qaq [.t 4,kI 1,.t 8]::Qks) [3] .ret
def Qagl:SC:=sR [fB 3 false] [0,1] Q5r
def Qvt:List RS:=[.tmp 3]
theorem Qafl:mFn prog Qg3 2 11 Qagl Qvt=true:=by kernel_rfl
def Qkt:List Item:=[oJ 9 8,mJ 4 9]
def Q5s:SC:=sR (tJ 5 1 1::lJ 6 2::tJ 7 4 3::aJ 8 Qxb [.t 5,.t 6,.t 7]::Qkt) [4] .ret
def Qagm:SC:=sR [vJ 3 0,fB 4 false] [1,2,3] Q5s
def Qvu:List RS:=[.tmp 4]
theorem Qafm:mFn prog Qg4 3 10 Qagm Qvu=true:=by kernel_rfl
def Qku:List Item:=[oJ 7 6,mJ 3 7]
def Q5t:SC:=sR (lJ 4 1::mJ 5 0::eI 6 (.callv (.t 4) [.t 5])::Qku) [3] .ret
def Qagn:SC:=sR [fB 3 false] [0,1] Q5t
def Qvv:List RS:=[.tmp 3]
theorem Qafn:mFn prog Qg5 2 8 Qagn Qvv=true:=by kernel_rfl
def Qago:SC:=cT 6 .skip (.reg [cJ 10 .eql 3 13,mJ 6 10] [6])
def Qagp:SC:=cT 6 .skip (sR [cJ 9 .eql 3 11,mJ 6 9] [3,6] Qago)
def Qagq:SC:=cT 6 .skip (sR [cJ 8 .eql 3 10,mJ 6 8] [3,6] Qagp)
def Qv8:SC:=cT 6 (sR [zJ 2 1] [2] .ret) .skip
def Qagr:SC:=cT 4 (sR [zJ 2 0] [2] .ret) (.seq (sR [cJ 7 .eql 3 2,mJ 6 7] [3,6] Qagq) Qv8)
def Qags:SC:=.block 0 (sR [cJ 5 .eql 3 1,mJ 4 5] [3,4] Qagr)
def Qv9:SC:=sR [zJ 2 2] [2] .ret
def Qagt:SC:=.seq (sR [mJ 3 0] [3] Qags) Qv9
def Qaqu:SC:=sR [zJ 2 0] [0] Qagt
def Qik:List RS:=[.tmp 2]
theorem Qapn:mFn prog Qlj 1 11 Qaqu Qik=true:=by kernel_rfl
def Qzf:List Item:=[sJ 3 7 13]
def Qzg:List Item:=[sJ 1 8 14]
def Ql5:List Item:=[pT 24 19 23]
def Qzh:List Item:=oJ 18 17::mJ 19 18::gFf 20 19 2 5::gFl 21 19 20::gF 22 19 (.mkf Qi6 [.t 8])::.e (some 23) (some (19,false)) (.call Qa8 [.t 21,.t 22])::Ql5
def s_im_insOk_4:SC:=cT 24 (sR [fB 6 false] [6] .ret) .skip
def Qgm:List Item:=[gF 39 35 (.not (.t 38)),gFm 40 35 39,gTf 41 40 1 5,gTl 42 40 41,gT 43 40 (.bin 0 .neq (.t 42) (kI (-1))),gF 44 35 (.pick (.t 40) (.t 43) (.k (.c (.bool false)))),pT 45 35 44]
def Qgn:List Item:=gT 33 28 (.not (.t 32))::pF 34 28 33::mJ 35 34::gFf 36 35 0 5::gFl 37 35 36::.e (some 38) (some (35,false)) (.call Qub [.t 37])::Qgm
def Ql6:List Item:=mJ 28 27::gTl 29 28 8::gTf 30 28 1 5::gTl 31 28 30::.e (some 32) (some (28,true)) (.callv (.t 29) [.t 31])::Qgn
def s_im_insOk_8:SC:=cT 45 (sR [fB 6 false] [6] .ret) .skip
def Ql7:List Item:=[pF 58 54 57,mJ 6 58]
def Qe8:List Item:=[mJ 66 65,gTf 67 66 2 5,gTl 68 66 67,gT 69 66 (.len (.t 68)),gTf 70 66 0 3,gTl 71 66 70,gTf 72 66 3 5,gTl 73 66 72,gT 74 66 (.iad 3 (.t 71) (.t 73)),gTf 75 66 0 74,gTl 76 66 75,gT 77 66 (.bin 0 .eql (.t 69) (.t 76)),pF 78 66 77,mJ 6 78]
def Qamh:SC:=cT 59 (.seq (.dreg 19 [0,1,2,3,4,5,6,7,8,9,10,11,12,13,14,15,16,17,18] ( fJ 61 3 5::lJ 62 61::mJ 63 1::cJ 64 .sub 63 1::aJ 65 Qaq [.t 62,kI 0,.t 64]::Qe8) [6]) .ret) .skip
def Qami:SC:=cT 48 (sR (fJ 50 2 5::lJ 51 50::nJ 52 51::cJ 53 .eql 52 0::mJ 54 53::gTf 55 54 3 5::gTl 56 54 55::.e (some 57) (some (54,true)) (.call Qic [.t 56])::Ql7) [6] .ret) (sR [cJ 60 .eql 47 14,mJ 59 60] [1,3,5,59] Qamh)
def Qamj:SC:=.block 0 (sR [cJ 49 .eql 47 1,mJ 48 49] [1,3,5,47,48] Qami)
def Qjo:List Item:=[.chk 84 (some (82,true)) (.ld 1 false (.t 83)),.chk 85 (some (82,true)) (.len (.t 84)),gT 89 82 (.bin 0 .eql (.t 85) (.t 88)),pF 90 82 89,mJ 6 90]
def Qamk:SC:=.seq (.dreg 13 [0,1,2,3,4,5,6,7,8,9,5,6,10,11,12] ( fJ 79 3 5::lJ 80 79::cJ 81 .eql 80 0::mJ 82 81::gTf 83 82 2 5::gTl 84 82 83::gT 85 82 (.len (.t 84))::gTf 86 82 0 5::gTl 87 82 86::.e (some 88) (some (82,true)) (.call Qlj [.t 87])::Qjo) [6]) .ret
def Qzd:SC:=.seq (sR [fJ 46 0 5,lJ 47 46] [1,3,5,47] Qamj) Qamk
def Qze:SC:=.seq (sR (fJ 25 0 5::lJ 26 25::aJ 27 Qub [.t 26]::Ql6) [1,3,5,45] s_im_insOk_8) Qzd
def Qaml:SC:=.seq (sR (fJ 15 0 5::lJ 16 15::aJ 17 Qlk [.t 16]::Qzh) [1,3,5,8,24] s_im_insOk_4) Qze
def Qamm:SC:=sR (fI 14 (.mkf Qc0 [.t 7])::eI 8 (.alloc [.fnil])::Qzg) [1,3,5,8] Qaml
def Qamn:SC:=sR (fJ 9 0 3::lJ 10 9::mJ 11 1::iJ 12 3 10 11::tJ 13 3 12::eI 7 (.alloc [.int .i64 0,.int .i64 0,.sl true 5 []])::Qzf) [1,3,5,7] Qamm
def Qa36:SC:=sR [vJ 3 0,vJ 5 2,fB 6 false] [1,3,5] Qamn
def Qkd:List RS:=[.tmp 6]
theorem Qa3i:mFn prog Qxb 3 91 Qa36 Qkd=true:=by kernel_rfl
def Qm7:List Item:=[mJ 3 8]
def Q99:SC:=sR (mJ 4 0::fJ 5 1 1::lJ 6 5::cJ 7 .sub 6 1::aJ 8 Qaq [.t 4,kI 0,.t 7]::Qm7) [3] .ret
def Qamo:SC:=sR [fB 3 false] [0,1] Q99
def Qyp:List RS:=[.tmp 3]
theorem Qalk:mFn prog Qc0 2 9 Qamo Qyp=true:=by kernel_rfl
def Qm8:List Item:=[oJ 7 6,mJ 3 7]
def Qaaa:SC:=sR (lJ 4 1::mJ 5 0::eI 6 (.callv (.t 4) [.t 5])::Qm8) [3] .ret
def Qamp:SC:=sR [fB 3 false] [0,1] Qaaa
def Qyq:List RS:=[.tmp 3]
theorem Qall:mFn prog Qi6 2 8 Qamp Qyq=true:=by kernel_rfl
def Qwa:List Item:=[mJ 2 4]
def Qamq:SC:=sR (mJ 3 0::aJ 4 Qaq [.t 3,kI 0,kI 255]::Qwa) [2] .ret
def Qav1:SC:=sR [fB 2 false] [0] Qamq
def Q87:List RS:=[.tmp 2]
theorem Qavd:mFn prog Qic 1 5 Qav1 Q87=true:=by kernel_rfl
def Qzi:List Item:=[mJ 2 4]
def Qaqv:SC:=sR (mJ 3 0::aJ 4 Qaq [.t 3,kI 1,kI 14]::Qzi) [2] .ret
def Qa37:SC:=sR [fB 2 false] [0] Qaqv
def Qakb:List RS:=[.tmp 2]
theorem Qa3j:mFn prog Qlk 1 5 Qa37 Qakb=true:=by kernel_rfl
def Qcq:List Item:=[sJ 5 7 13]
def Qcr:List Item:=[mJ 5 19]
def Qcs:List Item:=fI 18 (.bsl 5 [.t 17])::xJ 19 5 14 18::Qcr
def Qjp:SC:=.reg (mJ 14 5::mJ 15 1::tJ 16 5 7::eI 17 (.callv (.t 15) [.t 16])::Qcs) [1,5,8,9,10]
def Qjq:SC:=.reg [cJ 20 .add 10 1,mJ 10 20] [1,5,8,9,10]
def Qjr:SC:=.seq (.block 1 (sR (iJ 12 5 8 10::tJ 13 5 12::eI 7 (.alloc [.sl true 2 [],.sl true 4 [],.int .i64 0,.int .i64 0,.sl true 1 []])::Qcq) [1,5,7,8,9,10] Qjp)) Qjq
def Qh9:SC:=sR [bJ 11 .lss 10 9] [1,5,8,9,10,11] (cX 11 0 Qjr)
def Qjs:SC:=sR [mJ 21 5,mJ 4 21] [4] .ret
def Qjt:SC:=.seq (sR [mJ 8 0,nJ 9 8,zJ 10 0] [1,5,8,9,10] (bL 0 Qh9)) Qjs
def Qju:SC:=sR [fI 5 (.mv (.k (.c (.sl true 5 []))))] [0,1,5] Qjt
def Ql8:SC:=sR [fI 4 (.mv (.k (.c (.sl true 5 []))))] [0,1] Qju
def Qdx:List RS:=[.tmp 4]
theorem Qly:mFn prog Qbu 2 22 Ql8 Qdx=true:=by kernel_rfl
def Qdk:List Item:=[sJ 3 7 13]
def Qdl:List Item:=[mJ 5 19]
def Qdm:List Item:=fI 18 (.bsl 3 [.t 17])::xJ 19 3 14 18::Qdl
def Ql9:SC:=.reg (mJ 14 5::mJ 15 1::tJ 16 3 7::eI 17 (.callv (.t 15) [.t 16])::Qdm) [1,5,8,9,10]
def Qma:SC:=.reg [cJ 20 .add 10 1,mJ 10 20] [1,5,8,9,10]
def Qmb:SC:=.seq (.block 1 (sR (iJ 12 3 8 10::tJ 13 3 12::eI 7 (.alloc [.int .i64 0,.int .i64 0,.sl true 5 []])::Qdk) [1,5,7,8,9,10] Ql9)) Qma
def Qkv:SC:=sR [bJ 11 .lss 10 9] [1,5,8,9,10,11] (cX 11 0 Qmb)
def Qmc:SC:=sR [mJ 21 5,mJ 4 21] [4] .ret
def Qmd:SC:=.seq (sR [mJ 8 0,nJ 9 8,zJ 10 0] [1,5,8,9,10] (bL 0 Qkv)) Qmc
def Qme:SC:=sR [fI 5 (.mv (.k (.c (.sl true 3 []))))] [0,1,5] Qmd
def Qqu:SC:=sR [fI 4 (.mv (.k (.c (.sl true 3 []))))] [0,1] Qme
def Qfd:List RS:=[.tmp 4]
theorem Qpx:mFn prog Qca 2 22 Qqu Qfd=true:=by kernel_rfl
def Qd0:List Item:=[sJ 4 7 13]
def Qd1:List Item:=[mJ 5 19]
def Qd2:List Item:=fI 18 (.bsl 4 [.t 17])::xJ 19 4 14 18::Qd1
def Qqv:SC:=.reg (mJ 14 5::mJ 15 1::tJ 16 4 7::eI 17 (.callv (.t 15) [.t 16])::Qd2) [1,5,8,9,10]
def Qqw:SC:=.reg [cJ 20 .add 10 1,mJ 10 20] [1,5,8,9,10]
def Qqx:SC:=.seq (.block 1 (sR (iJ 12 4 8 10::tJ 13 4 12::eI 7 (.alloc [.int .i64 0,.int .i64 0,.sl true 1 [],.int .i64 0])::Qd0) [1,5,7,8,9,10] Qqv)) Qqw
def Qom:SC:=sR [bJ 11 .lss 10 9] [1,5,8,9,10,11] (cX 11 0 Qqx)
def Qqy:SC:=sR [mJ 21 5,mJ 4 21] [4] .ret
def Qqz:SC:=.seq (sR [mJ 8 0,nJ 9 8,zJ 10 0] [1,5,8,9,10] (bL 0 Qom)) Qqy
def Qq0:SC:=sR [fI 5 (.mv (.k (.c (.sl true 4 []))))] [0,1,5] Qqz
def Qxo:SC:=sR [fI 4 (.mv (.k (.c (.sl true 4 []))))] [0,1] Qq0
def Qhg:List RS:=[.tmp 4]
theorem Qxe:mFn prog Qct 2 22 Qxo Qhg=true:=by kernel_rfl
def Qd3:List Item:=[sJ 2 7 13]
def Qd4:List Item:=[mJ 5 19]
def Qd5:List Item:=fI 18 (.bsl 2 [.t 17])::xJ 19 2 14 18::Qd4
def Qq1:SC:=.reg (mJ 14 5::mJ 15 1::tJ 16 2 7::eI 17 (.callv (.t 15) [.t 16])::Qd5) [1,5,8,9,10]
def Qq2:SC:=.reg [cJ 20 .add 10 1,mJ 10 20] [1,5,8,9,10]
def Qq3:SC:=.seq (.block 1 (sR (iJ 12 2 8 10::tJ 13 2 12::eI 7 (.alloc [.int .i64 0,.sl true 1 []])::Qd3) [1,5,7,8,9,10] Qq1)) Qq2
def Qon:SC:=sR [bJ 11 .lss 10 9] [1,5,8,9,10,11] (cX 11 0 Qq3)
def Qq4:SC:=sR [mJ 21 5,mJ 4 21] [4] .ret
def Qq5:SC:=.seq (sR [mJ 8 0,nJ 9 8,zJ 10 0] [1,5,8,9,10] (bL 0 Qon)) Qq4
def Qq6:SC:=sR [fI 5 (.mv (.k (.c (.sl true 2 []))))] [0,1,5] Qq5
def Qxp:SC:=sR [fI 4 (.mv (.k (.c (.sl true 2 []))))] [0,1] Qq6
def Qhh:List RS:=[.tmp 4]
theorem Qxf:mFn prog Qcu 2 22 Qxp Qhh=true:=by kernel_rfl
def Q5u:SC:=cT 8 (sR [zJ 2 0] [2] .ret) .skip
def Q5v:SC:=cT 6 (sR [zJ 2 2] [2] .ret) (sR [cJ 9 .eql 3 3,mJ 8 9] [8] Q5u)
def Q5w:SC:=cT 4 (sR [zJ 2 1] [2] .ret) (sR [cJ 7 .eql 3 2,mJ 6 7] [3,6] Q5v)
def Q5x:SC:=.block 0 (sR [cJ 5 .eql 3 1,mJ 4 5] [3,4] Q5w)
def Q5y:SC:=sR [zJ 2 (-1)] [2] .ret
def Q5z:SC:=.seq (sR [mJ 3 0] [3] Q5x) Q5y
def Qagu:SC:=sR [zJ 2 0] [0] Q5z
def Qji:List RS:=[.tmp 2]
theorem Qafo:mFn prog Qg6 1 10 Qagu Qji=true:=by kernel_rfl
def Qrj:List Item:=[fB 5 false]
def Qrk:List Item:=[oJ 8 7]
def Qrl:List Item:=[fB 5 false]
def Qagw:SC:=cT 8 (sR (fI 9 (.bld [.sl true 3 []] [])::sJ 1 4 9::Qrl) [4,5] .ret) .skip
def Qrm:List Item:=[fB 5 true]
def Qrn:List Item:=fI 14 (.bld [.sl true 3 []] [(0,1,.t 13)])::sJ 1 4 14::Qrm
def Qagx:SC:=sR (fJ 10 0 2::lJ 11 10::mJ 12 1::aJ 13 Qca [.t 11,.t 12]::Qrn) [4,5] .ret
def Qagy:SC:=.seq (sR (tJ 6 1 2::aJ 7 Qbg [.t 6]::Qrk) [1,2,4,8] Qagw) Qagx
def Qaqw:SC:=sR (vJ 2 0::eI 4 (.alloc [.sl true 3 []])::Qrj) [1,2,4] Qagy
def Qqc:List RS:=[.cell 4 1 true,.tmp 5]
theorem Qapo:mFn prog Qll 2 15 Qaqw Qqc=true:=by kernel_rfl
def Q3d:List Item:=[mJ 5 4,gTm 6 5 0,gT 7 5 (.bin 0 .neq (.t 6) (kI 12)),pF 8 5 7,mJ 9 8,gTm 10 9 0,gT 11 9 (.bin 0 .neq (.t 10) (kI 13)),pF 12 9 11,mJ 2 12]
def Qav6:SC:=sR (mJ 3 0::aJ 4 Qlk [.t 3]::Q3d) [2] .ret
def Qa9f:SC:=sR [fB 2 false] [0] Qav6
def Qaqc:List RS:=[.tmp 2]
theorem Qa77:mFn prog Qub 1 13 Qa9f Qaqc=true:=by kernel_rfl
def Qam1:SC:=sR [mJ 3 0,cJ 4 .eql 3 2,mJ 5 4,gFm 6 5 0,gF 7 5 (.bin 0 .eql (.t 6) (kI 3)),pT 8 5 7,mJ 2 8] [2] .ret
def Qav8:SC:=sR [fB 2 false] [0] Qam1
def Q9a:List RS:=[.tmp 2]
theorem Qavg:mFn prog Qid 1 9 Qav8 Q9a=true:=by kernel_rfl
def Qdn:List Item:=[cJ 8 .geq 7 0,mJ 4 8]
def Qml:SC:=sR (mJ 5 0::mJ 6 1::aJ 7 Qdc [.t 5,.t 6]::Qdn) [4] .ret
def Qtw:SC:=sR [fB 4 false] [0,1] Qml
def Qff:List RS:=[.tmp 4]
theorem Qpz:mFn prog Qcb 2 9 Qtw Qff=true:=by kernel_rfl
def Qvg:SC:=cT 16 (sR [mJ 17 5,mJ 4 17] [4] .ret) .skip
def Qvh:SC:=sR [mJ 11 1,mJ 12 0,mJ 13 5,iJ 14 4 12 13,tJ 15 4 14,eI 16 (.callv (.t 11) [.t 15])] [0,1,5,7,8,16] Qvg
def Qvi:SC:=.reg [cJ 18 .add 8 1,mJ 8 18] [0,1,7,8]
def Qvj:SC:=.seq (.block 1 (sR [mJ 10 8,mJ 5 10] [0,1,5,7,8] Qvh)) Qvi
def Qtx:SC:=sR [bJ 9 .lss 8 7] [0,1,7,8,9] (cX 9 0 Qvj)
def Qvk:SC:=sR [zJ 4 (-1)] [4] .ret
def Qvl:SC:=.seq (sR [mJ 6 0,nJ 7 6,zJ 8 0] [0,1,7,8] (bL 0 Qtx)) Qvk
def Qz3:SC:=sR [zJ 4 0] [0,1] Qvl
def Qdy:List RS:=[.tmp 4]
theorem Qym:mFn prog Qdc 2 19 Qz3 Qdy=true:=by kernel_rfl
end Go.AE.Y

attribute [go_sem_proc] reduceIte reduceEqDiff reduceAdd reduceLeDiff reduceLT reduceCtorEq
namespace Go.AE.Y
open Go.Proofs.Tryz
theorem Qak:prog.follows .mixedOrders=true:=by kernel_rfl
theorem Qbib (l : Nat) (fl : Bool) (bs : List UInt8) (k : Nat) (n : Int) (H : Heap) (K : V → Heap → Prop)
   (hH : H l = .st [.sl fl 1 (Qbl bs), .int .i64 k]) (hp' : k ≤ 2^40)
   (hK : ∀ v : Int, (if n < 1 then v = 0 else 0 ≤ v ∧ v < n) → K (.c (.int .i64 v)) (H.set l (.st [.sl fl 1 (Qbl bs), .int .i64 ((k + 1 : Nat) : Int)]))) :
   Qp prog Qn [.c (.ptr l 0), .c (.int .i64 n)] H K := by
  refine Qd Qak Qapr ?_
  refine Qa ?_
  simp only [go_sem, Qap, Qgf, reduceIte, Nat.reduceEqDiff, Nat.reduceAdd]
  refine Qa ?_
  simp only [go_sem, Qap, Qgf, reduceIte, Nat.reduceEqDiff, Nat.reduceAdd, Nat.reduceLeDiff, Nat.reduceLT, hH]
  refine ⟨Qs (by omega) (by omega), fun H2 hH2' => ?_⟩
  have hH2 : H2 l = .st [C.sl fl 1 (Qbl bs), C.int IntKind.i64 (k + 1)] := by rw [hH2']; exact Heap.set_same _ _ _
  have hK2 : ∀ v : Int, (if n < 1 then v = 0 else 0 ≤ v ∧ v < n) → K (.c (.int .i64 v)) H2 := by
    intro v hv; rw [hH2']; exact hK v hv
  clear hK
  refine Q6 ?_
  refine Qa ?_
  simp only [go_sem, Qap, Qgf, reduceIte, Nat.reduceEqDiff, Nat.reduceAdd, Nat.reduceLeDiff, hH2]
  intro _
  refine Qh (Qe rfl ?_ ?_)
  · intro hc
    refine Qa ?_
    simp only [go_sem, reduceIte, Nat.reduceEqDiff]
    refine Qk ?_
    simp only [go_sem, Q3, Q9, Qil, reduceIte, List.mem_singleton, forall_eq, RS.op]
    refine hK2 0 ?_
    split <;> omega
  · intro hc
    refine Qi ?_
    simp only [go_sem]
    have hn : 1 ≤ n ∧ bs.length ≠ 0 := by
      simp only [cond_eq_ite] at hc
      split at hc
      · simp at hc
      · simp at hc; simp_all
    refine Qa ?_
    simp only [go_sem, Qap, Qgf, reduceIte, Nat.reduceEqDiff, Nat.reduceAdd, Nat.reduceLeDiff, hH2]
    refine ⟨Qs (by omega) (by omega), ?_⟩
    refine Q6 ?_
    refine Qa ?_
    simp only [go_sem, Qap, Qgf, reduceIte, Nat.reduceEqDiff, Nat.reduceAdd, Nat.reduceLeDiff, hH2]
    intro hl
    refine Qh (Qe rfl ?_ ?_)
    · intro hc2
      have hk : k < bs.length := by simpa using hc2
      refine Qa ?_
      simp only [go_sem, Qap, Qgf, reduceIte, Nat.reduceEqDiff, Nat.reduceAdd, Nat.reduceLeDiff, hH2, hk, Q2u]
      refine ⟨by omega, ?_⟩
      refine Qk ?_
      simp only [go_sem, Q3, Q9, Qil, reduceIte, List.mem_singleton, forall_eq, RS.op]
      refine hK2 _ ?_
      rw [if_neg (by omega)]
      exact ⟨Int.tmod_nonneg _ (by omega), Int.tmod_lt_of_pos _ (by omega)⟩
    · intro hc2
      refine Qi ?_
      simp only [go_sem]
      refine Qag ?_
      have e1 : ((k : Int).tmod (bs.length : Int)) = ((k % bs.length : Nat) : Int) := rfl
      have e2 : (((k : Int) * 7 + 3).tmod (bs.length : Int)) = (((k * 7 + 3) % bs.length : Nat) : Int) := rfl
      have h1 : k % bs.length < bs.length := Nat.mod_lt _ (by omega)
      have h2 : (k * 7 + 3) % bs.length < bs.length := Nat.mod_lt _ (by omega)
      simp only [go_sem, Qap, Qgf, reduceIte, Nat.reduceEqDiff, Nat.reduceAdd, Nat.reduceLeDiff, hH2, e1, e2, h1, h2, Q2u]
      have e3 : (k : Int).tdiv (bs.length : Int) = ((k / bs.length : Nat) : Int) := rfl
      have h3 : k / bs.length ≤ k := Nat.div_le_self _ _
      rw [e3]
      have h4 := (bs.getD (k % bs.length) 0).toNat_lt
      have h5 := (bs.getD ((k * 7 + 3) % bs.length) 0).toNat_lt
      generalize (bs.getD (k % bs.length) 0).toNat = b1 at *
      generalize (bs.getD ((k * 7 + 3) % bs.length) 0).toNat = b2 at *
      generalize k / bs.length = d at *
      clear e1 e2 h1 h2 e3
      refine ⟨by omega, Qs (by omega) (by omega), Qs (by omega) (by omega), Qs (by omega) (by omega), by omega, Qs (by omega) (by omega), Qs (by omega) (by omega),
        Qs (by omega) (by omega), Qs (by omega) (by omega), ⟨by omega, Qs (by omega) (by omega)⟩, Qs (by omega) (by omega), Qs (by omega) (by omega), ?_⟩
      have hx : 0 ≤ (b1 : Int) * 131 + b2 * 1117 + k * 29 + d * 53 := by omega
      have hx' : (b1 : Int) * 131 + b2 * 1117 + k * 29 + d * 53 < 2 ^ 62 := by omega
      generalize (b1 : Int) * 131 + b2 * 1117 + k * 29 + d * 53 = x at *
      refine Qa ?_
      simp only [go_sem, Qap, Qgf, reduceIte, Nat.reduceEqDiff, Nat.reduceAdd, Nat.reduceLeDiff]
      have hq : 0 ≤ x.tdiv 64 := Int.tdiv_nonneg hx (by omega)
      have hq' : x.tdiv 64 ≤ x := by have := Int.tdiv_le_self (a := x) 64 hx; exact this
      refine ⟨⟨by omega, Qs (by omega) (by omega)⟩, ?_⟩
      have hy := Qbja hx hq hx' (by omega)
      generalize Qa2p .xor .i64 x (x.tdiv 64) = y at *
      refine Qa ?_
      simp only [go_sem, Qap, Qgf, reduceIte, Nat.reduceEqDiff, Nat.reduceAdd, Nat.reduceLeDiff]
      refine ⟨by omega, ?_⟩
      refine Qk ?_
      simp only [go_sem, Q3, Q9, Qil, reduceIte, List.mem_singleton, forall_eq, RS.op]
      refine hK2 _ ?_
      rw [if_neg (by omega)]
      exact ⟨Int.tmod_nonneg _ (by omega), Int.tmod_lt_of_pos _ (by omega)⟩
theorem Qa6 {R:Rdr}{k:Nat}{n:Int}{H:Heap}{K:V→Heap→Prop}(hH:H R.l=R.o k)(hk:k≤2^40)
  (hK:∀(v:Int) (H':Heap),(if n<1 then v=0 else 0≤v∧v<n)→Upd H H' [(R.l,R.o (k+1))]→K (.c (.int .i64 v)) H') :
  Qp prog Qn [.c (.ptr R.l 0),.c (.int .i64 n)] H K:=
 Qbib R.l R.fl R.bs k n H K hH hk fun v hv=>hK v _ hv ⟨by simp[Heap.set_same,Rdr.o],fun m _ hm=>Heap.set_other _ _ (by simpa using hm)⟩
theorem Qka {R:Rdr}{k:Nat}{fl:Bool}{ns:List Int}{H:Heap}{K:V→Heap→Prop}(hH:H R.l=R.o k)(hk:k≤2^40)(hns:0<ns.length)
  (hK:∀(v:Int) (H':Heap),v∈ns→Upd H H' [(R.l,R.o (k+1))]→K (.c (.int .i64 v)) H') :
  Qp prog Q8 [.c (.ptr R.l 0),.c (.sl fl 1 (Qb ns))] H K:=by
 refine Qd Qak Qavi ?_
 refine Qa ?_
 simp only[go_sem]
 refine Qa ?_
 simp only[go_sem,Qc]
 intro hl
 refine Qa6 hH hk fun v H' hv hu=>?_
 rw[if_neg (by omega)]at hv
 obtain⟨i,rfl⟩:=Int.eq_ofNat_of_zero_le hv.1
 have hi:i<ns.length:=by omega
 simp only[go_sem,Qwr,Qc,Qm,hi]
 refine Qk ?_
 simp only[go_sem,Q3,Q9,Q9f,reduceIte,List.mem_singleton,forall_eq,RS.op]
 refine hK _ H' ?_ hu
 rw[List.getD_eq_getElem?_getD,List.getElem?_eq_getElem hi];exact List.getElem_mem hi
theorem of_c {R:Rdr}{k:Nat}{fl:Bool}{ss:List (List UInt8)}{H:Heap}{K:V→Heap→Prop}(hH:H R.l=R.o k)(hk:k≤2^40)(hns:0<ss.length)
  (hK:∀(v:List UInt8) (H':Heap),v∈ss→Upd H H' [(R.l,R.o (k+1))]→K (.c (.str v)) H') :
  Qp prog Qha [.c (.ptr R.l 0),.c (.sl fl 1 (Qbd ss))] H K:=by
 refine Qd Qak Qa3m ?_
 refine Qa ?_
 simp only[go_sem]
 refine Qa ?_
 simp only[go_sem,Qam]
 intro hl
 refine Qa6 hH hk fun v H' hv hu=>?_
 rw[if_neg (by omega)]at hv
 obtain⟨i,rfl⟩:=Int.eq_ofNat_of_zero_le hv.1
 have hi:i<ss.length:=by omega
 simp only[go_sem,Qzu,Qam,Qh1,hi]
 refine Qk ?_
 simp only[go_sem,Q3,Q9,Qakd,reduceIte,List.mem_singleton,forall_eq,RS.op]
 refine hK _ H' ?_ hu
 rw[List.getD_eq_getElem?_getD,List.getElem?_eq_getElem hi];exact List.getElem_mem hi
theorem Qbcu {R:Rdr}{k:Nat}{fl:Bool}{ss:List (List UInt8)}{H:Heap}{K:V→Heap→Prop}(hH:H R.l=R.o k)(hk:k+2≤2^40)
  (hK:∀(x:Ex) (H':Heap) (k':Nat),k<k'→k'≤k+2→Upd H H' [(R.l,R.o k')]→x.ok→x.size=1→K (.ag x.cells) H') :
  Qp prog Q79 [.c (.ptr R.l 0),.c (.sl fl 1 (Qbd ss))] H K:=by
 refine Qz ?_
 refine Qd Qak Qbc9 ?_
 refine Qa ?_
 simp only[go_sem]
 intro x hx H1 h1
 have kn:=(Kn.start1 hH (R.o_ne k)).al hx h1
 refine Q6 ?_
 refine Qa ?_
 simp only[go_sem,Qam]
 intro hl
 have rest:∀(b:Bool) (H2:Heap) (k2:Nat),k≤k2→k2≤k+1→Kn H H2 [(R.l,R.o k2)] [(x,.st [.int .i64 0,.int .i64 0,.str [],.sl true 4 []])]→(b=false→0<ss.length)→
   Qad prog (s_l2Leaf_2.seq Qakj) (Q3 Q7s (unK H K)) [(0,V.c (C.ptr R.l 0)),(1,V.c (C.sl fl 1 (Qbd ss))),(4,V.c (C.ptr x 0)),(12,V.c (.bool b))] H2:=by
  intro b H2 k2 hk1 hk2 kn hb
  refine Qh (Qe rfl ?_ ?_)
  ·intro hb'
   refine Qa ?_
   simp only[go_sem]
   refine Qka (ns:=[0,1,2,3,5,7,15,16,100,255]) (kn.e 0 rfl) (by omega) (by simp) fun v H3 hv hu=>?_
   have kn:=kn.callE 0 rfl hu (R.o_ne _)
   have hx3:=kn.l 0 rfl
   simp only[go_sem,Qaay,hx3]
   intro H4 h4
   have kn:=kn.stL 0 rfl h4
   have hx4:=kn.l 0 rfl
   refine Qk ?_
   simp only[go_sem,Q3,Q9,Q7s,reduceIte,List.mem_singleton,forall_eq,RS.op,hx4]
   refine⟨_,(Ex.mk 1 v [] []).frz,hK _ _ (k2+1) (by omega) (by omega) kn.fin ?_ ?_⟩
   ·simp[Ex.ok,Qdq]
   ·simp[Ex.size,Qac]
  ·intro hb'
   refine Qi ?_
   simp only[go_sem]
   refine Qa ?_
   simp only[go_sem]
   refine of_c (kn.e 0 rfl) (by omega) (hb hb') fun v H3 hv hu=>?_
   have kn:=kn.callE 0 rfl hu (R.o_ne _)
   have hx3:=kn.l 0 rfl
   simp only[go_sem,Qaaz,hx3]
   intro H4 h4
   have kn:=kn.stL 0 rfl h4
   have hx4:=kn.l 0 rfl
   refine Qk ?_
   simp only[go_sem,Q3,Q9,Q7s,reduceIte,List.mem_singleton,forall_eq,RS.op,hx4]
   refine⟨_,(Ex.mk 2 0 v []).frz,hK _ _ (k2+1) (by omega) (by omega) kn.fin ?_ ?_⟩
   ·simp[Ex.ok,Qdq]
   ·simp[Ex.size,Qac]
 refine⟨fun hb=>?_,fun hb=>?_⟩
 ·refine Qa6 (kn.e 0 rfl) (by omega) fun v H2 hv hu=>?_
  have kn:=kn.callE 0 rfl hu (R.o_ne _)
  simp only[go_sem,Qx1]
  refine rest _ H2 (k+1) (by omega) (by omega) kn ?_
  intro h
  have:¬ss.length=0:=by simpa using hb
  omega
 ·have hb2:decide ((ss.length:Int)=0)=true:=by simpa using hb
  simp only[go_sem,Qx1,hb2]
  exact rest true H1 k (by omega) (by omega) kn (fun h=>by simp at h)
end Go.AE.Y

namespace Go.AE.Y
open Go.Proofs.Tryz
variable {H:Heap}{K:V→Heap→Prop}
theorem Qdv {n lo hi:Int}(hK:K (.c (.bool (decide (lo≤n∧n≤hi)))) H):Qp prog Qbp [.c (.int .i64 n),.c (.int .i64 lo),.c (.int .i64 hi)] H K:=by
 refine Qd Qak Qbkd ?_
 refine Qa ?_
 simp only[go_sem]
 refine Qa ?_
 simp only[go_sem]
 refine Qk ?_
 simp only[go_sem,Q3,Q9,Qbf5,reduceIte,List.mem_singleton,forall_eq,RS.op]
 have:(bif decide (lo≤n)then decide (n≤hi)else false)=decide (lo≤n∧n≤hi):=by
  by_cases h:lo≤n <;> simp[h]
 rw[this];exact hK
theorem Qa72 {b:Bool}(hK:K (.c (.int .i64 (if b then 1 else 0))) H):Qp prog Q0n [.c (.bool b)] H K:=by
 refine Qd Qak Qa8i ?_
 refine Qa ?_
 simp only[go_sem]
 refine Q6 ?_
 refine Qa ?_
 simp only[go_sem]
 refine Qh (Qe rfl ?_ ?_)
 ·intro hc;subst hc
  refine Qa ?_
  simp only[go_sem]
  refine Qk ?_
  simp only[go_sem,Q3,Q9,Q9i,reduceIte,List.mem_singleton,forall_eq,RS.op]
  exact hK
 ·intro hc;subst hc
  refine Qi ?_
  simp only[go_sem]
  refine Qa ?_
  simp only[go_sem]
  refine Qk ?_
  simp only[go_sem,Q3,Q9,Q9i,reduceIte,List.mem_singleton,forall_eq,RS.op]
  exact hK
theorem Qa7z {s:List UInt8}{b:UInt8}(hK:∀n:Int,K (.c (.int .i64 n)) H):Qp prog Q0l [.c (.str s),.c (.int .u8 b.toNat)] H K:=by
 refine Qd Qak Qa8e ?_
 refine Qa ?_
 simp only[go_sem]
 refine Q6 ?_
 refine Qa ?_
 simp only[go_sem]
 refine Qh (Qg (Qy (fun n e1 H1=>∃i:Nat,n=s.length-i∧i≤s.length∧H1=H∧e1=[(0,.c (.str s)),(1,.c (.int .u8 b.toNat)),(5,.c (.int .i64 i))]) s.length ?_ ?_))
 ·exact⟨0,by omega,by omega,rfl,rfl⟩
 ·rintro n e1 H1 ⟨i,hn,hi,rfl,rfl⟩
  refine Q6 ?_
  refine Qa ?_
  simp only[go_sem]
  intro hl
  simp only[LIM]at hl
  refine Qh (Qe rfl ?_ ?_)
  ·intro hc
   have hlt:i<s.length:=by simpa using hc
   refine Qi ?_
   simp only[go_sem]
   refine Qh (Qg ?_)
   refine Qa ?_
   simp only[go_sem,hlt]
   refine Qe rfl ?_ ?_
   ·intro hc2
    refine Qa ?_
    simp only[go_sem]
    refine Qk ?_
    simp only[go_sem,X.next,Q3,Q9,Q9d,reduceIte,List.mem_singleton,forall_eq,RS.op]
    exact hK _
   ·intro hc2
    refine Qi ?_
    simp only[go_sem]
    refine Qt ?_
    simp only[go_sem,X.next]
    exact⟨Qs (by omega) (by omega),s.length-(i+1),by omega,i+1,rfl,by omega,rfl⟩
  ·intro hc
   refine Q0 ?_
   simp only[go_sem,X.next]
   refine Qa ?_
   simp only[go_sem]
   refine Qk ?_
   simp only[go_sem,Q3,Q9,Q9d,reduceIte,List.mem_singleton,forall_eq,RS.op]
   exact hK _
theorem Qa7x {b:UInt8}(hK:∀n:Int,K (.c (.int .i64 n)) H):Qp prog Q0k [.c (.int .u8 b.toNat)] H K:=by
 refine Qd Qak Qa8c ?_
 refine Qa ?_
 simp only[go_sem]
 refine Qh (Qg ?_)
 refine Qa ?_
 simp only[go_sem]
 refine Qe rfl ?_ ?_
 ·intro hc
  refine Qa ?_
  simp only[go_sem]
  refine Qk ?_
  simp only[go_sem,Q3,Q9,Qkh,reduceIte,List.mem_singleton,forall_eq,RS.op]
  exact hK _
 intro hc
 refine Qa ?_
 simp only[go_sem]
 refine Qe rfl ?_ ?_
 ·intro hc
  refine Qa ?_
  simp only[go_sem]
  refine Qk ?_
  simp only[go_sem,Q3,Q9,Qkh,reduceIte,List.mem_singleton,forall_eq,RS.op]
  exact hK _
 intro hc
 refine Qa ?_
 simp only[go_sem]
 refine Qa7z fun n=>?_
 simp only[go_sem,Q3u]
 refine Qe rfl ?_ ?_
 ·intro hc
  refine Qa ?_
  simp only[go_sem]
  refine Qk ?_
  simp only[go_sem,Q3,Q9,Qkh,reduceIte,List.mem_singleton,forall_eq,RS.op]
  exact hK _
 intro hc
 refine Qa ?_
 simp only[go_sem]
 refine Qe rfl ?_ ?_
 ·intro hc
  refine Qa ?_
  simp only[go_sem]
  refine Qk ?_
  simp only[go_sem,Q3,Q9,Qkh,reduceIte,List.mem_singleton,forall_eq,RS.op]
  exact hK _
 intro hc
 refine Qi ?_
 simp only[go_sem]
 refine Qa ?_
 simp only[go_sem]
 refine Qk ?_
 simp only[go_sem,Q3,Q9,Qkh,reduceIte,List.mem_singleton,forall_eq,RS.op]
 exact hK _
theorem Qbhl {s:List UInt8}{k:Int}(hK:∀b:Bool,K (.c (.bool b)) H):Qp prog Qak3 [.c (.str s),.c (.int .i64 k)] H K:=by
 refine Qd Qak Qbhw ?_
 refine Qa ?_
 simp only[go_sem]
 refine Q6 ?_
 refine Qa ?_
 simp only[go_sem]
 refine Qh (Qg (Qy (fun n e1 H1=>∃i:Nat,n=s.length-i∧i≤s.length∧H1=H∧e1=[(0,.c (.str s)),(1,.c (.int .i64 k)),(5,.c (.int .i64 i))]) s.length ?_ ?_))
 ·exact⟨0,by omega,by omega,rfl,rfl⟩
 ·rintro n e1 H1 ⟨i,hn,hi,rfl,rfl⟩
  refine Q6 ?_
  refine Qa ?_
  simp only[go_sem]
  intro hl
  simp only[LIM]at hl
  refine Qh (Qe rfl ?_ ?_)
  ·intro hc
   have hlt:i<s.length:=by simpa using hc
   refine Qi ?_
   simp only[go_sem]
   refine Qh (Qg ?_)
   refine Qa ?_
   simp only[go_sem,hlt]
   refine Qa7x fun cl=>?_
   simp only[go_sem,Qakf]
   refine Qe rfl ?_ ?_
   ·intro hc2
    refine Qa ?_
    simp only[go_sem]
    refine Qk ?_
    simp only[go_sem,X.next,Q3,Q9,Qavt,reduceIte,List.mem_singleton,forall_eq,RS.op]
    exact hK _
   ·intro hc2
    refine Qi ?_
    simp only[go_sem]
    refine Qt ?_
    simp only[go_sem,X.next]
    exact⟨Qs (by omega) (by omega),s.length-(i+1),by omega,i+1,rfl,by omega,rfl⟩
  ·intro hc
   refine Q0 ?_
   simp only[go_sem,X.next]
   refine Qa ?_
   simp only[go_sem]
   intro _
   refine Qk ?_
   simp only[go_sem,Q3,Q9,Qavt,reduceIte,List.mem_singleton,forall_eq,RS.op]
   exact hK _
theorem Qa2j (hK:∀ss:List (List UInt8),K (.c (.sl true 1 (Qbd ss))) H):Qp prog Qjc [] H K:=by
 refine Qd Qak Qalv ?_
 refine Qa ?_
 simp only[go_sem]
 refine Qa ?_
 simp only[go_sem]
 refine Qk ?_
 simp only[go_sem,Q3,Q9,Qy2,reduceIte,List.mem_singleton,forall_eq,RS.op]
 exact hK [[102,110],[108,101,116],[115,97,121],[112,117,116],[105,102],[101,108,115,101],[108,111,111,112],[98,97,99,107],[100,111]]
theorem Qbhm {s:List UInt8}(hK:∀b:Bool,K (.c (.bool b)) H):Qp prog Qak4 [.c (.str s)] H K:=by
 refine Qd Qak Qbhx ?_
 refine Qa ?_
 simp only[go_sem]
 refine Qa ?_
 simp only[go_sem]
 refine Qa2j fun ss=>?_
 simp only[go_sem,Qakg]
 refine Q6 ?_
 refine Qa ?_
 simp only[go_sem]
 refine Qh (Qg (Qy (fun n e1 H1=>∃i:Nat,n=ss.length-i∧i≤ss.length∧H1=H∧e1=[(0,.c (.str s)),(3,.c (.sl true 1 (Qbd ss))),(4,.c (.int .i64 i))]) ss.length ?_ ?_))
 ·exact⟨0,by omega,by omega,rfl,rfl⟩
 ·rintro n e1 H1 ⟨i,hn,hi,rfl,rfl⟩
  refine Q6 ?_
  refine Qa ?_
  simp only[go_sem,Qam]
  intro hl
  simp only[LIM]at hl
  refine Qh (Qe rfl ?_ ?_)
  ·intro hc
   have hlt:i<ss.length:=by simpa using hc
   refine Qi ?_
   simp only[go_sem]
   refine Qh (Qg ?_)
   refine Qa ?_
   simp only[go_sem,hlt,Qam,Qh1 _ _ hlt]
   refine Qe rfl ?_ ?_
   ·intro hc2
    refine Qa ?_
    simp only[go_sem]
    refine Qk ?_
    simp only[go_sem,X.next,Q3,Q9,Qavu,reduceIte,List.mem_singleton,forall_eq,RS.op]
    exact hK _
   ·intro hc2
    refine Qi ?_
    simp only[go_sem]
    refine Qt ?_
    simp only[go_sem,X.next]
    exact⟨Qs (by omega) (by omega),ss.length-(i+1),by omega,i+1,rfl,by omega,rfl⟩
  ·intro hc
   refine Q0 ?_
   simp only[go_sem,X.next]
   refine Qa ?_
   simp only[go_sem]
   refine Qk ?_
   simp only[go_sem,Q3,Q9,Qavu,reduceIte,List.mem_singleton,forall_eq,RS.op]
   exact hK _
theorem Q7i {s:List UInt8}(hK:∀b:Bool,K (.c (.bool b)) H):Qp prog Qdf [.c (.str s)] H K:=by
 refine Qd Qak Qavn ?_
 refine Qa ?_
 simp only[go_sem]
 refine Qa ?_
 simp only[go_sem]
 refine Qbhl fun b=>?_
 simp only[go_sem,Qw4]
 intro hl
 refine⟨fun hb=>?_,fun hb=>?_⟩
 ·refine Qbhm fun b2=>?_
  simp only[go_sem,Qjw]
  refine Qk ?_
  simp only[go_sem,Q3,Q9,Qxm,reduceIte,List.mem_singleton,forall_eq,RS.op]
  exact hK _
 ·simp only[go_sem,Qjw,hb]
  refine Qk ?_
  simp only[go_sem,Q3,Q9,Qxm,reduceIte,List.mem_singleton,forall_eq,RS.op]
  exact hK _
theorem Qbct {op:Int}(hK:∀a b:Int,K (.tup [.c (.int .i64 a),.c (.int .i64 b)]) H):Qp prog Q78 [.c (.int .i64 op)] H K:=by
 refine Qd Qak Qbc8 ?_
 refine Qa ?_
 simp only[go_sem]
 refine Q6 ?_
 refine Qa ?_
 simp only[go_sem]
 have ret:∀(a b:Int) (e:Env),lk 2 e=.c (.int .i64 a)→lk 3 e=.c (.int .i64 b)→Q3 Qyv K .ret e H:=by
  intro a b e h1 h2
  simp only[go_sem,Q3,Q9,Qyv,List.forall_mem_cons,RS.op,h1,h2]
  exact hK _ _
 refine Qh (Qg ?_)
 refine Q6 ?_
 refine Qa ?_
 simp only[go_sem]
 have r5:∀(b:Bool),Qad prog Qaki (X.inBlock 0 (X.sq prog Q2a (Q3 Qyv K))) [(4,.c (.int .i64 op)),(5,.c (.bool b))] H:=by
  intro b
  refine Qe rfl ?_ ?_
  ·intro hc
   refine Qa ?_
   simp only[go_sem]
   refine Qk ?_
   simp only[go_sem]
   exact ret 0 0 _ (by simp[lk]) (by simp[lk])
  intro hc
  refine Q6 ?_
  refine Qa ?_
  simp only[go_sem]
  have r8:∀(b:Bool),Qad prog Qakh (X.inBlock 0 (X.sq prog Q2a (Q3 Qyv K))) [(4,.c (.int .i64 op)),(8,.c (.bool b))] H:=by
   intro b
   refine Qe rfl ?_ ?_
   ·intro hc
    refine Qa ?_
    simp only[go_sem]
    refine Qk ?_
    simp only[go_sem]
    exact ret 1 1 _ (by simp[lk]) (by simp[lk])
   intro hc
   refine Qa ?_
   simp only[go_sem]
   refine Qe rfl ?_ ?_
   ·intro hc
    refine Qa ?_
    simp only[go_sem]
    refine Qk ?_
    simp only[go_sem]
    exact ret 0 3 _ (by simp[lk]) (by simp[lk])
   ·intro hc
    refine Qi ?_
    simp only[go_sem]
    refine Qa ?_
    simp only[go_sem]
    refine Qk ?_
    exact ret 2 2 _ (by simp[lk]) (by simp[lk])
  refine Qh (Qe rfl ?_ ?_)
  ·intro hc
   refine Qi ?_
   simp only[go_sem]
   exact r8 _
  ·intro hc
   refine Qt ?_
   simp only[go_sem]
   exact r8 _
 refine Qh (Qe rfl ?_ ?_)
 ·intro hc
  refine Qi ?_
  simp only[go_sem]
  exact r5 _
 ·intro hc
  refine Qt ?_
  simp only[go_sem]
  exact r5 _
theorem Qbcv {op:Int}(hK:K (.c (.int .i64 (if op=4 then 2 else 1))) H):Qp prog Q8a [.c (.int .i64 op)] H K:=by
 refine Qd Qak Qbda ?_
 refine Qa ?_
 simp only[go_sem]
 refine Q6 ?_
 refine Qa ?_
 simp only[go_sem]
 refine Qh (Qe rfl ?_ ?_)
 ·intro hc
  refine Qa ?_
  simp only[go_sem]
  refine Qk ?_
  simp only[go_sem,Q3,Q9,Qal1,reduceIte,List.mem_singleton,forall_eq,RS.op]
  rw[if_pos (by simpa using hc)]at hK;exact hK
 ·intro hc
  refine Qi ?_
  simp only[go_sem]
  refine Qa ?_
  simp only[go_sem]
  refine Qk ?_
  simp only[go_sem,Q3,Q9,Qal1,reduceIte,List.mem_singleton,forall_eq,RS.op]
  rw[if_neg (by simpa using hc)]at hK;exact hK
end Go.AE.Y

namespace Go.AE.Y
open Go.Proofs.Tryz
variable {H:Heap}{K:V→Heap→Prop}
end Go.AE.Y
namespace Go.AE
open Go.AE.Y
open Go.Proofs.Tryz
variable {H:Heap}{K:V→Heap→Prop}
theorem Slc.keep {H':Heap}{sz:Nat}{rows:List (List C)}{b:C}{E L:List (Nat×Obj)}(h:Slc H sz rows b)(kn:Kn H H' E L)(hE:∀l a c d,b=.vsl l a c d→l∉E.map Prod.fst):Slc H' sz rows b:=by
 obtain⟨h1,h2,h3,h4⟩:=h
 cases b with
 |sl fl z rs=>exact⟨trivial,h2,h3,h4⟩
 |vsl l z st n=>
  simp only[Go.AE.okSl]at h1
  cases ho:H l with
  |vec y rs=>
   have:=kn.chg l (by rw[ho];simp) (hE l z st n rfl)
   refine⟨?_,h2,?_,h4⟩
   ·simp only[Go.AE.okSl,this];exact h1
   ·simp only[Go.AE.rowsOf,this];exact h3
  |_=>rw[ho]at h1;exact h1.elim
 |_=>exact h1.elim
end Go.AE
namespace Go.AE.Y
open Go.Proofs.Tryz
variable {H:Heap}{K:V→Heap→Prop}
end Go.AE.Y
namespace Go.AE
open Go.AE.Y
open Go.Proofs.Tryz
variable {H:Heap}{K:V→Heap→Prop}
theorem Slc.keep0 {H':Heap}{sz:Nat}{rows:List (List C)}{b:C}{L:List (Nat×Obj)}(h:Slc H sz rows b)(kn:Kn H H' [] L):Slc H' sz rows b:=h.keep kn (by simp)
end Go.AE
namespace Go.AE.Y
open Go.Proofs.Tryz
variable {H:Heap}{K:V→Heap→Prop}
def Q1 (nx:Nat→List Int)(b:Int)(n:Nat):List Int:=((List.range n).filter fun i=>(nx i).contains b).map Int.ofNat
theorem Qii (nx:Nat→List Int)(b:Int)(n:Nat):Q1 nx b (n+1)=Q1 nx b n++if (nx n).contains b then [(n:Int)]else []:=by
 simp only[Q1,List.range_succ,List.filter_append,List.map_append]
 congr 1
 cases h:(nx n).contains b
 ·simp only[List.filter_cons,h,List.filter_nil];rfl
 ·simp only[List.filter_cons,h,List.filter_nil,if_true];rfl
theorem Qbq (nx:Nat→List Int)(b:Int)(n:Nat):(Q1 nx b n).length≤n:=by
 simp only[Q1,List.length_map]
 exact Nat.le_trans (List.length_filter_le _ _) (by simp)
set_option maxHeartbeats 1000000 in
theorem Qj5 {p rg:Int}{bc:C}{rows:List (List C)}{nx:Nat→List Int}{b:Int}(hs:Slc H 5 rows bc)(how:bc.isOw=false)
  (hx:∀i,i<rows.length→∃a1 a2 a3 a4 fl,rows.getD i []=[a1,a2,a3,a4,.sl fl 1 (Qb (nx i))])
  (hK:∀H',Upd H H' []→K (.c (.sl false 1 (Qb (Q1 nx b rows.length)))) H'):Qp prog Qde [.ag [.int .i64 p,.int .i64 rg,bc],.c (.int .i64 b)] H K:=by
 refine Qz ?_
 refine Qd Qak Qa8l ?_
 refine Qa ?_
 simp only[go_sem]
 refine Qa ?_
 simp only[go_sem]
 refine Q6 ?_
 refine Qa ?_
 simp only[go_sem]
 have hlen:=hs.len
 have hesz:=hs.sz
 refine Qh (Qg (Qy (fun n e1 H1=>∃(i:Nat) (c:C) (Lg:List (Nat×Obj)),n=rows.length-i∧i≤rows.length∧Gr Lg 1 (Qb (Q1 nx b i)) c∧Kn H H1 [] ([]++Lg)∧
  e1=[(1,.c (.int .i64 b)),(2,.c (.pp [.int .i64 p,.int .i64 rg,bc])),(5,.c c),(6,.c (.int .i64 i))]) rows.length ?_ ?_))
 ·exact⟨0,_,[],by omega,by omega,.nil 1,Kn.start0 H,rfl⟩
 ·rintro n e1 H1 ⟨i,c,Lg,hn1,hi,hgr,kn,rfl⟩
  have hs1:=hs.keep0 kn
  have hok1:=eq_true hs1.ok
  have hrw1:=hs1.rows
  refine Q6 ?_
  refine Qa ?_
  simp only[go_sem,how,hok1,hlen]
  intro hl
  simp only[LIM]at hl
  refine Qh (Qe rfl ?_ ?_)
  ·intro hc
   have hlt:i<rows.length:=by simpa using hc
   obtain⟨a1,a2,a3,a4,fl,hrow⟩:=hx i hlt
   refine Qi ?_
   simp only[go_sem]
   have turn:∀(e:Env) (H2:Heap) (c':C) (Lg':List (Nat×Obj)),lk 1 e=.c (.int .i64 b)→lk 2 e=.c (.pp [.int .i64 p,.int .i64 rg,bc])→lk 5 e=.c c'→lk 6 e=.c (.int .i64 i)→
     Gr Lg' 1 (Qb (Q1 nx b (i+1))) c'→Kn H H2 [] ([]++Lg')→
     Qad prog Qacx (X.next (fun e2 H2=>∃m,m<n∧∃(i:Nat) (c:C) (Lg:List (Nat×Obj)),m=rows.length-i∧i≤rows.length∧Gr Lg 1 (Qb (Q1 nx b i)) c∧Kn H H2 [] ([]++Lg)∧
      e2=[(1,.c (.int .i64 b)),(2,.c (.pp [.int .i64 p,.int .i64 rg,bc])),(5,.c c),(6,.c (.int .i64 i))]) (X.inBlock 0 (X.sq prog Qacy (Q3 Q9k (unK H K))))) e H2:=by
    intro e H2 c' Lg' l1 l2 l5 l6 hg' kn'
    refine Qt ?_
    simp only[go_sem,l1,l2,l5,l6,X.next]
    exact⟨Qs (by omega) (by omega),rows.length-(i+1),by omega,i+1,c',Lg',rfl,by omega,hg',by simpa using kn',rfl⟩
   refine Qh (Qg ?_)
   refine Qa ?_
   simp only[go_sem]
   refine Qg (Qy (fun n e1 H2=>∃(k:Nat),n=(nx i).length-k∧k≤(nx i).length∧b∉(nx i).take k∧H2=H1∧e1=[(1,.c (.int .i64 b)),(2,.c (.pp [.int .i64 p,.int .i64 rg,bc])),(5,.c c),(6,.c (.int .i64 i)),(7,.c (.int .i64 k))]) (nx i).length ?_ ?_)
   ·exact⟨0,by omega,by omega,by simp,rfl,rfl⟩
   ·rintro n e1 H2 ⟨k,hn2,hk,hno,rfl,rfl⟩
    refine Q6 ?_
    refine Qa ?_
    simp only[go_sem,how,hok1,hlen,hesz,hrw1,hlt,hrow,Qc]
    intro hl2
    simp only[LIM]at hl2
    refine Qh (Qe rfl ?_ ?_)
    ·intro hc
     have hlt2:k<(nx i).length:=by simpa using hc
     have hgd:(nx i).getD k 0=(nx i)[k]:=by simp[List.getD_eq_getElem?_getD,hlt2]
     refine Qi ?_
     simp only[go_sem]
     refine Qh (Qg ?_)
     refine Qa ?_
     simp only[go_sem,how,hok1,hlen,hesz,hrw1,hlt,hrow,hlt2,Qc,Qm _ _ hlt2,hgd]
     refine Qe rfl ?_ ?_
     ·intro hc2
      have hb:(nx i)[k]=b:=by simpa using hc2
      have hcon:(nx i).contains b=true:=by rw[List.contains_iff_mem,←hb];exact List.getElem_mem hlt2
      refine Qa ?_
      simp only[go_sem]
      have hpl:=Qbq nx b i
      refine kn.grow (B:=[]) (new:=Qb [(i:Int)]) hgr (.mk' _ _ _ _) (Qo _) (by simp only[Qc,LIM,List.length_cons,List.length_nil];omega) fun y' H3 kn=>?_
      simp only[go_sem,Q4q]
      refine Q0 ?_
      have hib:((2:Nat) == 3)=false:=rfl
      rw[Qbcf hib]
      simp only[go_sem,X.next]
      refine turn _ _ _ _ (by simp[lk]) (by simp[lk]) (by simp[lk];rfl) (by simp[lk]) ?_ kn
      rw[Qii,hcon,if_pos rfl,Qa2]
      exact .mk _ _ _ (by simp)
     ·intro hc2
      have hb:¬(nx i)[k]=b:=by simpa using hc2
      refine Qi ?_
      simp only[go_sem]
      refine Qt ?_
      simp only[go_sem,X.next]
      refine⟨Qs (by omega) (by omega),(nx i).length-(k+1),by omega,k+1,rfl,by omega,?_,rfl⟩
      rw[List.take_succ_eq_append_getElem hlt2]
      simp only[List.mem_append,List.mem_singleton,not_or]
      exact⟨hno,fun h=>hb h.symm⟩
    ·intro hc
     have hge:(nx i).length≤k:=by simpa using hc
     rw[List.take_of_length_le hge]at hno
     have hcon:(nx i).contains b=false:=by
      cases hcc:(nx i).contains b with
      |false=>rfl
      |true=>exact absurd (List.contains_iff_mem.1 hcc) hno
     refine Q0 ?_
     simp only[go_sem,X.next]
     refine turn _ _ _ _ (by simp[lk]) (by simp[lk]) (by simp[lk];rfl) (by simp[lk]) ?_ kn
     rw[Qii,hcon]
     simpa using hgr
  ·intro hc
   have hge:i=rows.length:=by have:rows.length≤i:=(by simpa using hc);omega
   subst hge
   refine Q0 ?_
   simp only[go_sem,X.next]
   refine Qa ?_
   simp only[go_sem]
   refine Qk ?_
   simp only[go_sem,Q3,Q9,Q9k,reduceIte,List.mem_singleton,forall_eq,RS.op]
   exact⟨_,.c _ _ (hgr.frz kn (Qo _)),hK _ kn.fin⟩
end Go.AE.Y

namespace Go.AE.Y
open Go.Proofs.Tryz
variable {H:Heap}{K:V→Heap→Prop}
def Qgx (op:Int):Int:=if op=1 then 0 else if op=2∨op=10∨op=11∨op=13 then 1 else if (3≤op∧op≤9)∨op=12 then 2 else -1
theorem Qa1b {op:Int}(hK:K (.c (.int .i64 (Qgx op))) H):Qp prog Qpp [.c (.int .i64 op)] H K:=by
 refine Qd Qak Qbde ?_
 have retf:∀(n:Int) (e:Env),Qgx op=n→lk 2 e=.c (.int .i64 n)→Q3 Qal3 K .ret e H:=by
  intro b e h1 h3
  simp only[go_sem,Q3,Q9,Qal3,List.mem_singleton,forall_eq,RS.op,h3]
  rw[←h1];exact hK
 refine Qa ?_
 simp only[go_sem]
 refine Qh (Qg ?_)
 refine Qa ?_
 simp only[go_sem]
 refine Qe rfl ?_ ?_
 ·intro hc
  refine Qa ?_
  simp only[go_sem]
  refine Qk ?_
  simp only[go_sem]
  exact retf 0 _ (by simp only[decide_eq_true_eq]at hc;simp[Qgx,hc]) (by simp[lk])
 intro hc1
 refine Qa ?_
 simp only[go_sem]
 refine Qe rfl ?_ ?_
 ·intro hc
  refine Qa ?_
  simp only[go_sem]
  refine Qk ?_
  simp only[go_sem]
  exact retf 1 _ (by simp at hc1 hc;rw[Qgx,if_neg hc1,if_pos (by omega)]) (by simp[lk])
 intro hc2
 refine Qa ?_
 simp only[go_sem]
 refine Qdv ?_
 simp only[go_sem,Qab8]
 refine Qe rfl ?_ ?_
 ·intro hc
  refine Qa ?_
  simp only[go_sem]
  refine Qk ?_
  simp only[go_sem]
  exact retf 2 _ (by simp at hc1 hc2 hc;rw[Qgx,if_neg hc1,if_neg (by omega),if_pos (by omega)]) (by simp[lk])
 ·intro hc
  refine Qi ?_
  simp only[go_sem]
  refine Qa ?_
  simp only[go_sem]
  refine Qk ?_
  exact retf (-1) _ (by simp at hc1 hc2 hc;rw[Qgx,if_neg hc1,if_neg (by omega),if_neg (by omega)]) (by simp[lk])
theorem argsN_in {op:Int}:-1≤Qgx op∧Qgx op≤2:=by
 rw[Qgx];split
 ·omega
 ·split
  ·omega
  ·split <;> omega
theorem Qa73 {op:Int}(hK:∀n:Int,-1≤n→n≤2→K (.c (.int .i64 n)) H):Qp prog Qpp [.c (.int .i64 op)] H K:=Qa1b (hK _ argsN_in.1 argsN_in.2)
def Qhe (op:Int):Bool:=decide (1≤op∧op≤14)&&!decide (op=12)&&!decide (op=13)
theorem Q8l {op:Int}(hK:K (.c (.bool (Qhe op))) H):Qp prog Qj2 [.c (.int .i64 op)] H K:=by
 refine Qd Qak Qa8k ?_
 refine Qa ?_
 simp only[go_sem]
 refine Qa ?_
 simp only[go_sem]
 refine Qdv ?_
 simp only[go_sem,Q4p]
 refine Qk ?_
 simp only[go_sem,Q3,Q9,Qaqg,reduceIte,List.mem_singleton,forall_eq,RS.op]
 have:∀a b c:Bool,(bif bif a then b else false then c else false)=(a&&b&&c):=by decide
 rw[this];exact hK
def Qqh (rg:Int)(l:List Int):Bool:=l.all fun x=>decide (0≤x∧x≤rg-1)
theorem Qa3x {rg:Int}{l:List Int}{i:Nat}(hi:i<l.length):Qqh rg (l.take (i+1))=(Qqh rg (l.take i)&&decide (0≤l.getD i 0∧l.getD i 0≤rg-1)):=by
 have e:l.getD i 0=l[i]:=by simp[List.getD_eq_getElem?_getD,hi]
 rw[Qqh,List.take_succ_eq_append_getElem hi,List.all_append,e];simp[Qqh]
theorem Qa88 {rg:Int}{l:List Int}{i:Nat}(hi:i<l.length)(h:decide (0≤l.getD i 0∧l.getD i 0≤rg-1)=false):Qqh rg l=false:=by
 have e:l.getD i 0=l[i]:=by simp[List.getD_eq_getElem?_getD,hi]
 cases hc:Qqh rg l with
 |false=>rfl
 |true=>
  rw[Qqh,List.all_eq_true]at hc
  have:=hc _ (List.getElem_mem hi)
  rw[e]at h
  rw[h]at this;exact absurd this (by simp)
theorem Qa1d {p rg:Int}{bc:C}{fl:Bool}{l:List Int}(hr:-(2^62)≤rg)(hr2:rg≤2^62)(hK:K (.c (.bool (Qqh rg l))) H) :
  Qp prog Qyi [.ag [.int .i64 p,.int .i64 rg,bc],.c (.sl fl 1 (Qb l))] H K:=by
 refine Qd Qak Qbdi ?_
 have retf:∀(b:Bool) (e:Env),Qqh rg l=b→lk 4 e=.c (.bool b)→Q3 Qal4 K .ret e H:=by
  intro b e h1 h3
  simp only[go_sem,Q3,Q9,Qal4,List.mem_singleton,forall_eq,RS.op,h3]
  rw[←h1];exact hK
 refine Qa ?_
 simp only[go_sem]
 refine Q6 ?_
 refine Qa ?_
 simp only[go_sem]
 refine Qh (Qg (Qy (fun n e1 H1=>∃(i:Nat),n=l.length-i∧i≤l.length∧H1=H∧Qqh rg (l.take i)=true∧e1=[(1,.c (.sl fl 1 (Qb l))),(2,.c (.pp [.int .i64 p,.int .i64 rg,bc])),(5,.c (.int .i64 i))]) l.length ?_ ?_))
 ·exact⟨0,by omega,by omega,rfl,rfl,rfl⟩
 ·rintro n e1 H1 ⟨i,hn1,hi,rfl,hall,rfl⟩
  refine Q6 ?_
  refine Qa ?_
  simp only[go_sem,Qc]
  intro hl
  simp only[LIM]at hl
  refine Qh (Qe rfl ?_ ?_)
  ·intro hc
   have hlt:i<l.length:=by simpa using hc
   refine Qi ?_
   simp only[go_sem]
   refine Qh (Qg ?_)
   refine Qag ?_
   simp only[go_sem,hlt,Qc,Qm _ _ hlt]
   refine⟨Qs (by omega) (by omega),?_⟩
   refine Qdv ?_
   simp only[go_sem,Qacz]
   refine Qe rfl ?_ ?_
   ·intro hc2
    refine Qa ?_
    simp only[go_sem]
    refine Qk ?_
    simp only[go_sem,X.next]
    exact retf false _ (Qa88 hlt (Qxk hc2)) (by simp[lk])
   ·intro hc2
    refine Qi ?_
    simp only[go_sem]
    refine Qt ?_
    simp only[go_sem,X.next]
    exact⟨Qs (by omega) (by omega),l.length-(i+1),by omega,i+1,rfl,by omega,by rw[Qa3x hlt,hall,Qh7 hc2];rfl,rfl⟩
  ·intro hc
   have hge:l.length≤i:=by simpa using hc
   rw[List.take_of_length_le hge]at hall
   refine Q0 ?_
   simp only[go_sem,X.next]
   refine Qa ?_
   simp only[go_sem]
   refine Qk ?_
   exact retf true _ hall (by simp[lk])
def rgOf (cs:List CodeD)(k:Nat):Int:=(cs[k]?.map CodeD.regs).getD 0
def pmOf (cs:List CodeD)(k:Nat):Int:=(cs[k]?.map CodeD.params).getD 0
theorem Q9p {cs:List CodeD}{k:Nat}(h:k<cs.length):rgOf cs k=cs[k].regs:=by simp[rgOf,h]
theorem Q00 {cs:List CodeD}{k:Nat}(h:k<cs.length):pmOf cs k=cs[k].params:=by simp[pmOf,h]
def insH (rg:Int)(x:InsD):Bool:=decide (1≤x.op∧x.op≤14)&&Qqh rg x.args
def insT (rg:Int)(x:InsD):Bool:=if Qhe x.op then decide (0≤x.to∧x.to≤rg-1)else decide (x.to=-1)
def insL (cs:List CodeD)(k:Nat)(x:InsD):Bool:=
 if x.op=14 then decide (0≤x.n∧x.n≤(k:Int)-1)&&decide ((x.args.length:Int)=pmOf cs x.n.toNat)
 else decide ((x.args.length:Int)=Qgx x.op)&&decide (0≤x.n∧x.n≤255)&&(decide (x.n=0) || decide (x.op=1))
def Q45 (cs:List CodeD)(k:Nat)(x:InsD):Bool:=insH (rgOf cs k) x&&insT (rgOf cs k) x&&insL cs k x
set_option maxHeartbeats 1000000 in
theorem Qbho {cs:List CodeD}{fl:Bool}{k:Nat}{x:InsD}(hk:k<cs.length)(hr:0≤cs[k].regs)(hr2:cs[k].regs≤300)(hcl:cs.length≤100)(hK:∀(H':Heap),Upd H H' []→K (.c (.bool (Q45 cs k x))) H') :
  Qp prog Qak6 [.ag [.sl fl 3 (Ql cs)],.c (.int .i64 k),.ag x.cells] H K:=by
 refine Qz ?_
 refine Qd Qak Qbhz ?_
 refine Qa ?_
 simp only[go_sem,InsD.cells]
 refine Qa ?_
 simp only[go_sem,hk,Q4,Qaj _ _ hk,CodeD.cells]
 intro x7 hx7 H1 h1
 have kn:=(Kn.start0 H).al hx7 h1
 have hx71:=kn.l 0 rfl
 simp only[go_sem,Qakn,hx71]
 intro H2 h2
 have kn:=kn.stL 0 rfl h2
 have hx72:=kn.l 0 rfl
 have hrg:=Q9p hk
 have retf:∀(b:Bool) (e:Env),Q45 cs k x=b→lk 6 e=.c (.bool b)→Q3 Q9j (unK H K) .ret e H2:=by
  intro b e h1 h3
  simp only[go_sem,Q3,Q9,Q9j,List.mem_singleton,forall_eq,RS.op,h3]
  rw[←h1];exact⟨_,.c _ _ (Qf rfl),hK _ kn.fin⟩
 refine Q6 ?_
 refine Qa ?_
 simp only[go_sem]
 refine Qdv ?_
 simp only[go_sem,Qako,hx72]
 have rest:∀(E1:Env) (b:Bool),insH cs[k].regs x=(!b)→lk 1 E1=.c (.int .i64 k)→lk 3 E1=.c (.pp [.sl fl 3 (Ql cs)])→lk 5 E1=.c (.pp [.int .i64 x.op,.int .i64 x.to,.sl false 1 (Qb x.args),.int .i64 x.n])→lk 7 E1=.c (.ptr x7 0)→lk 23 E1=.c (.bool b)→
   Qad prog (s_l7Ins_3.seq Qakm) (Q3 Q9j (unK H K)) E1 H2:=by
  intro E1 b hb l1 l3 l5 l7 l23
  refine Qh (Qe l23 ?_ ?_)
  ·intro hc
   refine Qa ?_
   simp only[go_sem]
   refine Qk ?_
   simp only[go_sem]
   exact retf false _ (by rw[Q45,hrg,hb,hc];rfl) (by simp[lk])
  intro hc
  rw[hc]at hb
  refine Qi ?_
  simp only[go_sem]
  refine Q6 ?_
  refine Qag ?_
  simp only[go_sem,l1,l3,l5,l7,hx72]
  refine⟨Qs (by omega) (by omega),?_⟩
  refine Q8l ?_
  simp only[go_sem,Qakq,l1,l3,l5,l7,hx72]
  refine Qdv ?_
  simp only[go_sem,Qakp,l1,l3,l5,l7,hx72]
  have rest2:∀(E1:Env) (b:Bool),insT cs[k].regs x=(!b)→lk 1 E1=.c (.int .i64 k)→lk 3 E1=.c (.pp [.sl fl 3 (Ql cs)])→lk 5 E1=.c (.pp [.int .i64 x.op,.int .i64 x.to,.sl false 1 (Qb x.args),.int .i64 x.n])→lk 44 E1=.c (.bool b)→
    Qad prog (s_l7Ins_7.seq Qakl) (Q3 Q9j (unK H K)) E1 H2:=by
   intro E1 b hb2 l1 l3 l5 l44
   refine Qh (Qe l44 ?_ ?_)
   ·intro hc
    refine Qa ?_
    simp only[go_sem]
    refine Qk ?_
    simp only[go_sem]
    exact retf false _ (by rw[Q45,hrg,hb2,hc];simp) (by simp[lk])
   intro hc
   rw[hc]at hb2
   have hG:Q45 cs k x=insL cs k x:=by rw[Q45,hrg,hb,hb2];rfl
   refine Qi ?_
   simp only[go_sem]
   refine Q6 ?_
   refine Qa ?_
   simp only[go_sem,l1,l3,l5]
   refine Qh (Qe rfl ?_ ?_)
   ·intro hc
    have hop:x.op=14:=of_decide_eq_true hc
    rw[insL,if_pos hop]at hG
    refine Qag ?_
    simp only[go_sem]
    refine⟨Qs (by omega) (by omega),?_⟩
    refine Qdv ?_
    by_cases hin:0≤x.n∧x.n≤(k:Int)-1
    ·obtain⟨m,hm⟩:=Int.eq_ofNat_of_zero_le hin.1
     have hmk:m<cs.length:=by omega
     have hin':(0≤(m:Int)∧(m:Int)≤(k:Int)-1)=True:=eq_true (by rw[←hm];exact hin)
     simp only[go_sem,Quo,hm,hin',hmk,decide_true,Q4,Qaj _ _ hmk,CodeD.cells,Qc]
     refine Qk ?_
     refine retf _ _ ?_ (by simp[lk];rfl)
     rw[hG,hm,Int.toNat_natCast,Q00 hmk]
     simp only[hin',decide_true,Bool.true_and]
     simp[show ((m:Int)≤(k:Int)-1) from by omega]
    ·have hin':decide (0≤x.n∧x.n≤(k:Int)-1)=false:=by simpa using hin
     by_cases hm:x.n.toNat<cs.length
     ·simp only[go_sem,Quo,hin',Qaj _ _ hm,CodeD.cells]
      refine Qk ?_
      exact retf false _ (by rw[hG,hin'];rfl) (by simp[lk])
     ·have hgd:(Ql cs).getD x.n.toNat []=[]:=by
       rw[List.getD_eq_getElem?_getD,List.getElem?_eq_none (by rw[Q4];omega)];rfl
      simp only[go_sem,Quo,hin',hgd,List.take_nil,List.headD_nil]
      refine Qk ?_
      exact retf false _ (by rw[hG,hin'];rfl) (by simp[lk])
   ·intro hc
    have hop:¬x.op=14:=of_decide_eq_false hc
    rw[insL,if_neg hop]at hG
    refine Qi ?_
    simp only[go_sem]
    refine Qag ?_
    simp only[go_sem]
    refine Qa1b ?_
    simp only[go_sem,Qacw]
    refine⟨fun hb=>?_,fun hb=>?_⟩
    ·refine Qdv ?_
     simp only[go_sem,Qx3]
     refine Qk ?_
     refine retf _ _ ?_ (by simp[lk];rfl)
     have hb':(x.args.length:Int)=Qgx x.op:=by simpa[Qc]using hb
     rw[hG];simp[hb',Qc]
    ·simp only[go_sem,Qx3,hb]
     refine Qk ?_
     refine retf _ _ ?_ (by simp[lk];rfl)
     have hb':¬(x.args.length:Int)=Qgx x.op:=by simpa[Qc]using hb
     rw[hG];simp[hb']
  refine⟨fun hb=>?_,fun hb=>?_⟩
  ·refine Q8l ?_
   simp only[go_sem,Q2d,l1,l3,l5,l7]
   refine rest2 _ _ ?_ (by simp[lk]) (by simp[lk]) (by simp[lk]) (by simp[lk];rfl)
   cases hmk:Qhe x.op with
   |true=>simp[insT,hmk]
   |false=>by_cases h:x.to=-1 <;> simp[insT,hmk,h]
  ·replace hb:=Qh7 hb
   simp only[go_sem,Q2d,l1,l3,l5,l7,hb]
   refine rest2 _ true ?_ (by simp[lk]) (by simp[lk]) (by simp[lk]) (by simp[lk])
   cases hmk:Qhe x.op with
   |true=>simp[hmk]at hb;simp[insT,hmk];omega
   |false=>simp[hmk]at hb;simp[insT,hmk];omega
 refine⟨fun hb=>?_,fun hb=>?_⟩
 ·refine Qa1d (by omega) (by omega) ?_
  simp only[go_sem,Q2c]
  refine rest _ _ ?_ (by simp[lk]) (by simp[lk]) (by simp[lk]) (by simp[lk]) (by simp[lk];rfl)
  simp[insH]
 ·replace hb:=Qh7 hb
  simp only[go_sem,Q2c,hb]
  refine rest _ true ?_ (by simp[lk]) (by simp[lk]) (by simp[lk]) (by simp[lk]) (by simp[lk])
  rw[insH,Qxk hb];rfl
end Go.AE.Y

namespace Go.AE.Y
open Go.Proofs.Tryz
variable {H:Heap}{K:V→Heap→Prop}
theorem InsD.take4 (x:InsD):x.cells.take 4=x.cells:=rfl
theorem InsD.allOw (x:InsD):(x.cells.all fun c=>!c.isOw)=true:=rfl
theorem InsD.len4 (x:InsD):x.cells.length=4:=rfl
theorem Qbgl (l:List BlkD)(i:Nat)(h:i<(Qr l).length):∃a1 a2 a3 a4 fl,(Qr l).getD i []=[a1,a2,a3,a4,.sl fl 1 (Qb ((l.map BlkD.next).getD i []))]:=by
 rw[Qq]at h
 rw[Qan _ _ h]
 have:(l.map BlkD.next).getD i []=l[i].next:=by simp[List.getD_eq_getElem?_getD,h]
 exact⟨.sl false 2 (Qw l[i].phis),.sl false 4 (Qav l[i].ins),.int .i64 l[i].jump,.int .i64 l[i].on,false,by rw[this];rfl⟩
set_option maxHeartbeats 3000000 in
theorem Q7j {α:Type}{p:α→Bool}{l:List α}{i:Nat}(hi:i<l.length):(l.take (i+1)).all p=((l.take i).all p&&p l[i]):=by
 rw[List.take_succ_eq_append_getElem hi,List.all_append];simp
theorem Qaky {α:Type}{p:α→Bool}{l:List α}{i:Nat}(hi:i<l.length)(h:p l[i]=false):l.all p=false:=by
 cases hc:l.all p with
 |false=>rfl
 |true=>rw[List.all_eq_true.1 hc _ (List.getElem_mem hi)]at h;exact absurd h (by simp)
def Qj9 (j:Int):Int:=if j=1 then 1 else if j=2 then 2 else if j=3 then 0 else -1
def Qol (rg:Int)(y:BlkD):Bool:=decide ((y.next.length:Int)=Qj9 y.jump)&&if y.jump=1 then decide (y.on=0)else decide (0≤y.on∧y.on≤rg-1)
def Q48 (n:Nat)(x:Int):Bool:=decide (1≤x∧x≤(n:Int)-1)
def phiG (rg:Int)(np b:Nat)(x:PhiD):Bool:=!decide (b=0)&&decide ((x.args.length:Int)=np)&&Qqh rg x.args&&decide (0≤x.to∧x.to≤rg-1)
def Q44 (cs:List CodeD)(k b:Nat)(q:CodeD)(y:BlkD):Bool:=
 Qol q.regs y&&y.next.all (Q48 (Qr q.blocks).length)&&y.ins.all (Q45 cs k)&&y.phis.all (phiG q.regs (Q1 (fun i=>(q.blocks.map BlkD.next).getD i []) (b:Int) (Qr q.blocks).length).length b)
theorem Qa6v {cs:List CodeD}{k b:Nat}{q:CodeD}{y:BlkD}(h:Q44 cs k b q y=true):y.next.length≤2:=by
 simp only[Q44,Qol,Bool.and_eq_true,decide_eq_true_eq]at h
 have:=h.1.1.1.1
 rw[Qj9]at this
 split at this
 ·omega
 ·split at this
  ·omega
  ·split at this <;> omega
set_option maxHeartbeats 1000000 in
theorem Qa74 {cs:List CodeD}{fl:Bool}{k b:Nat}(hk:k<cs.length)(hbk:b<cs[k].blocks.length)(hr:0≤cs[k].regs)(hr2:cs[k].regs≤300)(hcl:cs.length≤100)(hbl:cs[k].blocks.length≤200)(hK:∀(H':Heap),Upd H H' []→K (.c (.bool (Q44 cs k b cs[k] cs[k].blocks[b]))) H') :
  Qp prog Q0o [.ag [.sl fl 3 (Ql cs)],.c (.int .i64 k),.c (.int .i64 b)] H K:=by
 refine Qz ?_
 refine Qd Qak Qa8j ?_
 have retf:∀(v:Bool) (e:Env) (H':Heap) (L:List (Nat×Obj)),Q44 cs k b cs[k] cs[k].blocks[b]=v→Kn H H' [] L→lk 6 e=.c (.bool v)→Q3 Qki (unK H K) .ret e H':=by
  intro v e H' L hb kn h3
  simp only[go_sem,Q3,Q9,Qki,List.mem_singleton,forall_eq,RS.op,h3]
  rw[←hb];exact⟨_,.c _ _ (Qf rfl),hK _ kn.fin⟩
 refine Qa ?_
 simp only[go_sem]
 refine Qa ?_
 simp only[go_sem,hk,Q4,Qaj _ _ hk,CodeD.cells]
 intro x7 hx7 H1 h1
 have kn:=(Kn.start0 H).al hx7 h1
 have hx71:=kn.l 0 rfl
 simp only[go_sem,Q4g,hx71]
 intro H2 h2
 have kn:=kn.stL 0 rfl h2
 have hx72:=kn.l 0 rfl
 refine Qa ?_
 simp only[go_sem,hx72,hbk,Qq,Qan _ _ hbk,BlkD.cells]
 obtain⟨y,hy⟩:∃y,cs[k].blocks[b]=y:=⟨_,rfl⟩
 rw[hy]
 intro x8 hx8 H3 h3
 have kn:=kn.al hx8 h3
 have hx83:=kn.l 1 rfl
 simp only[go_sem,Q4h,hx83]
 intro H4 h4
 have kn:Kn H H4 [] [(x7,.st [.int .i64 cs[k].params,.int .i64 cs[k].regs,.sl false 5 (Qr cs[k].blocks)]),(x8,.st [.sl false 2 (Qw y.phis),.sl false 4 (Qav y.ins),.int .i64 y.jump,.int .i64 y.on,.sl false 1 (Qb y.next)])]:=kn.stL 1 rfl h4
 obtain⟨q,hq⟩:∃q,cs[k]=q:=⟨_,rfl⟩
 have hGe:Q44 cs k b cs[k] cs[k].blocks[b]=Q44 cs k b q y:=by rw[hy,hq]
 rw[hGe]at retf
 rw[hq]at kn hr hr2 hbk hbl
 generalize hnp:(Q1 (fun i=>(q.blocks.map BlkD.next).getD i []) (b:Int) (Qr q.blocks).length).length=np
 have hGd:Q44 cs k b q y=(Qol q.regs y&&y.next.all (Q48 (Qr q.blocks).length)&&y.ins.all (Q45 cs k)&&y.phis.all (phiG q.regs np b)):=by rw[Q44,hnp]
 refine Qa ?_
 simp only[go_sem]
 have hx74:=kn.l 0 rfl
 have hx84:=kn.l 1 rfl
 refine Q6 ?_
 refine Qa ?_
 simp only[go_sem,hx84]
 have rest31:∀(want:Int) (E1:Env),Qj9 y.jump=want→(y.jump=1→y.on=0)→lk 1 E1=.c (.int .i64 k)→lk 2 E1=.c (.int .i64 b)→lk 3 E1=.c (.pp [.sl fl 3 (Ql cs)])→lk 7 E1=.c (.ptr x7 0)→lk 8 E1=.c (.ptr x8 0)→lk 9 E1=.c (.int .i64 want)→
   Qad prog Q4f (Q3 Qki (unK H K)) E1 H4:=by
  intro want E1 hw hjo l1 l2 l3 l7 l8 l9
  refine Q6 ?_
  refine Qa ?_
  simp only[go_sem,l1,l2,l3,l7,l8,l9,hx74,hx84,Qc]
  intro hnl
  simp only[LIM]at hnl
  refine⟨fun _=>Qs (by omega) (by omega),?_⟩
  have rest8:∀(b1:Bool) (E1:Env),Qol q.regs y=(!b1)→lk 1 E1=.c (.int .i64 k)→lk 2 E1=.c (.int .i64 b)→lk 3 E1=.c (.pp [.sl fl 3 (Ql cs)])→lk 7 E1=.c (.ptr x7 0)→lk 8 E1=.c (.ptr x8 0)→lk 53 E1=.c (.bool b1)→
    Qad prog (s_l7Block_8.seq Q4e) (Q3 Qki (unK H K)) E1 H4:=by
   intro b1 E1 hn2 l1 l2 l3 l7 l8 l53
   refine Qh (Qe l53 ?_ ?_)
   ·intro hc
    refine Qa ?_
    simp only[go_sem]
    refine Qk ?_
    simp only[go_sem]
    exact retf false _ _ _ (by rw[hGd,hn2,hc];simp) kn (by simp[lk])
   intro hbf
   rw[hbf]at hn2
   refine Qi ?_
   simp only[go_sem]
   refine Q6 ?_
   refine Qa ?_
   simp only[go_sem,l1,l2,l3,l7,l8]
   refine Qh (Qg (Qy (fun n e1 H1=>∃(i:Nat),n=y.next.length-i∧i≤y.next.length∧H1=H4∧(y.next.take i).all (Q48 (Qr q.blocks).length)=true∧e1=[(1,.c (.int .i64 k)),(2,.c (.int .i64 b)),(3,.c (.pp [.sl fl 3 (Ql cs)])),(7,.c (.ptr x7 0)),(8,.c (.ptr x8 0)),(10,.c (.int .i64 i))]) y.next.length ?_ ?_))
   ·exact⟨0,by omega,by omega,rfl,rfl,rfl⟩
   ·rintro n e1 H1 ⟨i,hn1,hi,rfl,hall1,rfl⟩
    refine Q6 ?_
    refine Qa ?_
    simp only[go_sem,hx84,Qc]
    refine fun _=>?_
    refine Qh (Qe rfl ?_ ?_)
    ·intro hc
     have hlt:i<y.next.length:=by simpa using hc
     have hgd:y.next.getD i 0=y.next[i]:=by simp[List.getD_eq_getElem?_getD,hlt]
     have hng:Q48 (Qr q.blocks).length y.next[i]=decide (1≤y.next.getD i 0∧y.next.getD i 0≤(q.blocks.length:Int)-1):=by rw[hgd,Q48,Qq]
     refine Qi ?_
     simp only[go_sem]
     refine Qh (Qg ?_)
     refine Qag ?_
     simp only[go_sem,hx84,hx74,hlt,Qc,Qm _ _ hlt,Qq]
     refine⟨Qs (by omega) (by omega),?_⟩
     refine Qdv ?_
     simp only[go_sem,Q4i]
     refine Qe rfl ?_ ?_
     ·intro hc2
      refine Qa ?_
      simp only[go_sem]
      refine Qk ?_
      simp only[go_sem,X.next]
      exact retf false _ _ _ (by rw[hGd,Qaky hlt (by rw[hng];exact Qxk hc2)];simp) kn (by simp[lk])
     ·intro hc2
      refine Qi ?_
      simp only[go_sem]
      refine Qt ?_
      simp only[go_sem,X.next]
      exact⟨Qs (by omega) (by omega),y.next.length-(i+1),by omega,i+1,rfl,by omega,by rw[Q7j hlt,←Qq q.blocks,hall1,hng,Qh7 hc2];rfl,rfl⟩
    ·intro hc
     have hge:y.next.length≤i:=by simpa using hc
     rw[List.take_of_length_le hge]at hall1
     refine Q0 ?_
     simp only[go_sem,X.next]
     refine Q6 ?_
     refine Qa ?_
     simp only[go_sem]
     refine Qh (Qg (Qy (fun n e1 H1=>∃(i:Nat),n=y.ins.length-i∧i≤y.ins.length∧Kn H H1 [] [(x7,.st [.int .i64 q.params,.int .i64 q.regs,.sl false 5 (Qr q.blocks)]),(x8,.st [.sl false 2 (Qw y.phis),.sl false 4 (Qav y.ins),.int .i64 y.jump,.int .i64 y.on,.sl false 1 (Qb y.next)])]∧(y.ins.take i).all (Q45 cs k)=true∧
      e1=[(1,.c (.int .i64 k)),(2,.c (.int .i64 b)),(3,.c (.pp [.sl fl 3 (Ql cs)])),(7,.c (.ptr x7 0)),(8,.c (.ptr x8 0)),(11,.c (.int .i64 i))]) y.ins.length ?_ ?_))
     ·exact⟨0,by omega,by omega,kn,rfl,rfl⟩
     ·rintro n e1 H5 ⟨i,hn1,hi,kn,hall2,rfl⟩
      have hx75:=kn.l 0 rfl
      have hx85:=kn.l 1 rfl
      refine Q6 ?_
      refine Qa ?_
      simp only[go_sem,hx85,Qat]
      intro hil
      simp only[LIM]at hil
      refine Qh (Qe rfl ?_ ?_)
      ·intro hc
       have hlt:i<y.ins.length:=by simpa using hc
       refine Qi ?_
       simp only[go_sem]
       refine Qh (Qg ?_)
       refine Qag ?_
       simp only[go_sem,hx85,hx75,hlt,Qat,Qen _ _ hlt,InsD.take4,InsD.allOw,InsD.len4]
       refine Qbho hk (by rw[hq];omega) (by rw[hq];omega) hcl fun H6 hu=>?_
       have kn:=kn.call0 hu
       simp only[go_sem,Qz0]
       refine Qe rfl ?_ ?_
       ·intro hc2
        refine Qa ?_
        simp only[go_sem]
        refine Qk ?_
        simp only[go_sem,X.next]
        exact retf false _ _ _ (by rw[hGd,Qaky hlt (Qxk hc2)];simp) kn (by simp[lk])
       ·intro hc2
        refine Qi ?_
        simp only[go_sem]
        refine Qt ?_
        simp only[go_sem,X.next]
        exact⟨Qs (by omega) (by omega),y.ins.length-(i+1),by omega,i+1,rfl,by omega,kn,by rw[Q7j hlt,hall2,Qh7 hc2];rfl,rfl⟩
      ·intro hc
       have hge:y.ins.length≤i:=by simpa using hc
       rw[List.take_of_length_le hge]at hall2
       refine Q0 ?_
       simp only[go_sem,X.next]
       refine Qa ?_
       simp only[go_sem,hx75]
       refine Qj5 (rows:=Qr q.blocks) (nx:=fun i=>(q.blocks.map BlkD.next).getD i []) (.mk' _ _ _ _) rfl (Qbgl q.blocks) fun H6 hu=>?_
       have kn:=kn.call0 hu
       simp only[go_sem,Qz1]
       refine Q6 ?_
       refine Qa ?_
       simp only[go_sem]
       obtain⟨ps,hps⟩:∃ps,Q1 (fun i=>(q.blocks.map BlkD.next).getD i []) (b:Int) (Qr q.blocks).length=ps:=⟨_,rfl⟩
       rw[hps]
       rw[hps]at hnp
       have hx76:=kn.l 0 rfl
       have hx86:=kn.l 1 rfl
       refine Qh (Qg (Qy (fun n e1 H1=>∃(i:Nat),n=y.phis.length-i∧i≤y.phis.length∧H1=H6∧(y.phis.take i).all (phiG q.regs np b)=true∧
        e1=[(2,.c (.int .i64 b)),(7,.c (.ptr x7 0)),(8,.c (.ptr x8 0)),(12,.c (.sl false 1 (Qb ps))),(13,.c (.int .i64 i))]) y.phis.length ?_ ?_))
       ·exact⟨0,by omega,by omega,rfl,rfl,rfl⟩
       ·rintro n e1 H7 ⟨i,hn1,hi,rfl,hall3,rfl⟩
        refine Q6 ?_
        refine Qa ?_
        simp only[go_sem,hx86,Qv]
        intro hpl
        simp only[LIM]at hpl
        refine Qh (Qe rfl ?_ ?_)
        ·intro hc
         have hlt:i<y.phis.length:=by simpa using hc
         refine Qi ?_
         simp only[go_sem]
         refine Qh (Qg ?_)
         have fin:∀(b3:Bool) (E1:Env),phiG q.regs np b y.phis[i]=(!b3)→lk 2 E1=.c (.int .i64 b)→lk 7 E1=.c (.ptr x7 0)→lk 8 E1=.c (.ptr x8 0)→lk 12 E1=.c (.sl false 1 (Qb ps))→lk 13 E1=.c (.int .i64 i)→lk 135 E1=.c (.bool b3)→
           Qad prog Q4b (X.inBlock 6 (X.sq prog Q4c (X.next (fun e2 H2=>∃m,m<n∧∃(i:Nat),m=y.phis.length-i∧i≤y.phis.length∧H2=H7∧(y.phis.take i).all (phiG q.regs np b)=true∧
            e2=[(2,.c (.int .i64 b)),(7,.c (.ptr x7 0)),(8,.c (.ptr x8 0)),(12,.c (.sl false 1 (Qb ps))),(13,.c (.int .i64 i))]) (X.inBlock 5 (X.sq prog Q4d (Q3 Qki (unK H K))))))) E1 H7:=by
          intro b3 E1 hph l2 l7 l8 l12 l13 l135
          refine Qe l135 ?_ ?_
          ·intro hc2
           refine Qa ?_
           simp only[go_sem]
           refine Qk ?_
           simp only[go_sem,X.next]
           exact retf false _ _ _ (by rw[hGd,Qaky hlt (by rw[hph,hc2];rfl)];simp) kn (by simp[lk])
          ·intro hc2
           refine Qi ?_
           simp only[go_sem]
           refine Qt ?_
           simp only[go_sem,X.next,l2,l7,l8,l12,l13]
           exact⟨Qs (by omega) (by omega),y.phis.length-(i+1),by omega,i+1,rfl,by omega,by rw[Q7j hlt,hall3,hph,hc2];rfl,rfl⟩
         refine Qag ?_
         simp only[go_sem,hx86,hx76,hlt,Qv,Qay _ _ hlt,PhiD.cells,Qc]
         refine⟨fun hb1=>?_,fun hb1=>?_⟩
         ·refine Qa1d (by omega) (by omega) ?_
          simp only[go_sem,Qmk,hx86,hx76,hlt,Qv,Qay _ _ hlt,PhiD.cells]
          refine⟨fun _=>Qs (by omega) (by omega),?_⟩
          refine⟨fun hb2=>?_,fun hb2=>?_⟩
          ·refine Qdv ?_
           simp only[go_sem,Qgo]
           refine fin _ _ ?_ (by simp[lk]) (by simp[lk]) (by simp[lk]) (by simp[lk]) (by simp[lk]) (by simp[lk];rfl)
           simp[phiG,←hnp]
          ·replace hb2:=Qh7 hb2
           simp only[go_sem,Qgo,hb2]
           refine fin true _ ?_ (by simp[lk]) (by simp[lk]) (by simp[lk]) (by simp[lk]) (by simp[lk]) (by simp[lk])
           subst hnp
           simp at hb2
           simp[phiG]
           intro h1 h2 h3
           simp[h1,h2,h3]at hb2
         ·replace hb1:=Qh7 hb1
          simp only[go_sem,Qmk,Qgo,hb1,hx86,hx76,hlt,Qv,Qay _ _ hlt,PhiD.cells]
          refine fin true _ ?_ (by simp[lk]) (by simp[lk]) (by simp[lk]) (by simp[lk]) (by simp[lk]) (by simp[lk])
          subst hnp
          simp at hb1
          simp[phiG]
          intro h1 h2 h3
          simp[h1,h2]at hb1
        ·intro hc
         have hge:y.phis.length≤i:=by simpa using hc
         rw[List.take_of_length_le hge]at hall3
         refine Q0 ?_
         simp only[go_sem,X.next]
         refine Qa ?_
         simp only[go_sem]
         refine Qk ?_
         exact retf true _ _ _ (by rw[hGd,hn2,hall1,hall2,hall3];rfl) kn (by simp[lk])
  refine⟨fun hb1=>?_,fun hb1=>?_⟩
  ·refine Qdv ?_
   simp only[go_sem,Qiy,hb1,l1,l2,l3,l7,l8]
   refine rest8 _ _ ?_ (by simp[lk]) (by simp[lk]) (by simp[lk]) (by simp[lk]) (by simp[lk]) (by simp[lk];rfl)
   by_cases hlw:(y.next.length:Int)=want
   ·by_cases hj:y.jump=1
    ·simp[hlw,hj]at hb1
    ·simp[Qol,hw,hlw,hj]
   ·simp[hlw]at hb1
  ·by_cases hlw:(y.next.length:Int)=want
   ·by_cases hj:y.jump=1
    ·simp only[go_sem,Qiy,hlw,hj,l1,l2,l3,l7,l8,decide_true,decide_false,cond_true,cond_false]
     have hw1:Qj9 1=want:=by rw[←hj];exact hw
     refine rest8 _ _ ?_ (by simp[lk]) (by simp[lk]) (by simp[lk]) (by simp[lk]) (by simp[lk]) (by simp[lk];rfl)
     simp[Qol,hw1,hlw,hj,hjo hj]
    ·simp[hlw,hj]at hb1
   ·simp only[go_sem,Qiy,hlw,l1,l2,l3,l7,l8,decide_true,decide_false,cond_true,cond_false]
    by_cases hj:y.jump=1
    ·simp only[go_sem,hj,decide_true,decide_false,cond_true,cond_false]
     exact rest8 true _ (by simp[Qol,hw,hlw]) (by simp[lk]) (by simp[lk]) (by simp[lk]) (by simp[lk]) (by simp[lk]) (by simp[lk])
    ·simp only[go_sem,hj,decide_true,decide_false,cond_true,cond_false]
     exact rest8 true _ (by simp[Qol,hw,hlw]) (by simp[lk]) (by simp[lk]) (by simp[lk]) (by simp[lk]) (by simp[lk]) (by simp[lk])
 refine Qh (Qg ?_)
 refine Qa ?_
 simp only[go_sem]
 refine Qe rfl ?_ ?_
 ·intro hc
  refine Qa ?_
  simp only[go_sem,hx84]
  refine Qe rfl ?_ ?_
  ·intro hc2
   refine Qa ?_
   simp only[go_sem]
   refine Qk ?_
   simp only[go_sem]
   exact retf false _ _ _ (by simp at hc hc2;rw[hGd];simp[Qol,hc,hc2]) kn (by simp[lk])
  ·intro hc2
   refine Qi ?_
   simp only[go_sem]
   exact rest31 1 _ (by simp at hc;simp[Qj9,hc]) (fun _=>by simpa using hc2) (by simp[lk]) (by simp[lk]) (by simp[lk]) (by simp[lk]) (by simp[lk]) (by simp[lk])
 intro hc1
 refine Qa ?_
 simp only[go_sem]
 refine Qe rfl ?_ ?_
 ·intro hc
  refine Qt ?_
  simp only[go_sem]
  exact rest31 2 _ (by simp at hc;simp[Qj9,hc]) (fun h=>by simp at hc1;exact absurd h hc1) (by simp[lk]) (by simp[lk]) (by simp[lk]) (by simp[lk]) (by simp[lk]) (by simp[lk])
 intro hc2
 refine Qa ?_
 simp only[go_sem]
 refine Qe rfl ?_ ?_
 ·intro hc
  refine Qt ?_
  simp only[go_sem]
  exact rest31 0 _ (by simp at hc;simp[Qj9,hc]) (fun h=>by simp at hc1;exact absurd h hc1) (by simp[lk]) (by simp[lk]) (by simp[lk]) (by simp[lk]) (by simp[lk]) (by simp[lk])
 ·intro hc
  refine Qa ?_
  simp only[go_sem]
  refine Qk ?_
  simp only[go_sem]
  exact retf false _ _ _ (by simp at hc1 hc2 hc;rw[hGd];simp[Qol,Qj9,hc1,hc2,hc]) kn (by simp[lk])
end Go.AE.Y

namespace Go.AE.Y
open Go.Proofs.Tryz
variable {H:Heap}{K:V→Heap→Prop}
set_option maxHeartbeats 3000000 in
theorem Qald {b:BlkD}(hb:b.sg)(hK:∀(o:OBlk) (H':Heap),Kn H H' [] o.lg→o.ok→o.d=b→(∀p∈o.phis,p.own)→K (.ag o.row) H'):Qp prog Qi9 [.ag b.cells] H K:=by
 have hbn:=hb.n
 have hbi:=hb.i
 have hbp:=hb.p
 refine Qdo ?_
 refine Qd Qak Qalp ?_
 refine Qa ?_
 simp only[go_sem,BlkD.cells]
 intro x2 hx2 H1 h1
 have kn:=(Kn.start0 H).al hx2 h1
 refine Qag ?_
 simp only[go_sem,Qc,List.nil_append,Nat.zero_add]
 refine⟨.inl trivial,Qo _,by simp only[LIM];omega,fun y hy H2 h2=>?_⟩
 have kn:=kn.al hy h2
 simp only[go_sem,Qns]
 intro x3 hx3 H3 h3
 have kn:=kn.al hx3 h3
 have hx33:=kn.l 2 rfl
 simp only[go_sem,Qnr,hx33]
 intro H4 h4
 have kn:=kn.stL 2 rfl h4
 obtain⟨nx,hnx⟩:∃nx:OInts,nx=⟨b.next,y⟩:=⟨_,rfl⟩
 have hnc:C.vsl y 1 0 b.next.length=nx.c:=by rw[hnx];rfl
 have hnl:[(y,Obj.vec 1 (Qb b.next))]=nx.lg:=by rw[hnx];rfl
 rw[hnc]at kn
 have kn:Kn H H4 [] ([(x2,.st [.sl true 2 [],.sl true 4 [],.int .i64 0,.int .i64 0,.sl true 1 []]),(x3,.st [.sl true 2 [],.sl true 4 [],.int .i64 b.jump,.int .i64 b.on,nx.c])]++nx.lg):=kn.perm (by
  rw[←hnl]
  exact .cons _ (.swap _ _ _))
 refine Q6 ?_
 refine Qa ?_
 simp only[go_sem]
 refine Qh (Qg (Qy (fun n e1 H1=>∃(i:Nat) (ps:List OPhi) (pc:C) (pl:List (Nat×Obj)),n=b.phis.length-i∧i≤b.phis.length∧ps.map OPhi.d=b.phis.take i∧(∀p∈ps,p.own)∧Gr pl 2 (ps.map OPhi.row) pc∧
  Kn H H1 [] (([(x2,.st [.sl true 2 [],.sl true 4 [],.int .i64 0,.int .i64 0,.sl true 1 []]),(x3,.st [pc,.sl true 4 [],.int .i64 b.jump,.int .i64 b.on,nx.c])]++(nx.lg++ps.flatMap OPhi.lg))++pl)∧
  e1=[(1,.c (.pp [.sl false 2 (Qw b.phis),.sl false 4 (Qav b.ins),.int .i64 b.jump,.int .i64 b.on,.sl false 1 (Qb b.next)])),(2,.c (.ptr x2 0)),(3,.c (.ptr x3 0)),(4,.c (.int .i64 i))]) b.phis.length ?_ ?_))
 ·exact⟨0,[],_,[],by omega,by omega,rfl,by simp,.nil 2,by simpa using kn,rfl⟩
 ·rintro n e1 H1 ⟨i,ps,pc,pl,hn1,hi,hpsd,hpsok,hgr,kn,rfl⟩
  have hpsl:ps.length=i:=by have:=congrArg List.length hpsd;rw[List.length_map,List.length_take]at this;omega
  have hpcow:=hgr.isOw
  refine Q6 ?_
  refine Qa ?_
  simp only[go_sem,Qv]
  intro hl
  refine Qh (Qe rfl ?_ ?_)
  ·intro hc
   have hlt:i<b.phis.length:=by simpa using hc
   have hpa:=hb.pa _ (List.getElem_mem hlt)
   have hx31:=kn.l 1 rfl
   refine Qi ?_
   simp only[go_sem]
   refine Qh (Qg (Qbf ?_))
   simp only[go_sem,hx31,hpcow,hlt,Qv,Qay _ _ hlt,PhiD.cells,Qc,List.nil_append,Nat.zero_add]
   refine⟨.inl trivial,Qo _,by simp only[LIM];omega,fun a ha H5 h5=>?_⟩
   have kn:=kn.al ha h5
   have hx35:=kn.l 1 rfl
   simp only[go_sem,Qnu,hx35,hpcow,hlt,Qv,Qay _ _ hlt,PhiD.cells]
   obtain⟨o,ho⟩:∃o:OPhi,o=⟨b.phis[i].to,b.phis[i].args,.vsl a 1 0 b.phis[i].args.length,[(a,.vec 1 (Qb b.phis[i].args))]⟩:=⟨_,rfl⟩
   have hoow:o.own:=by rw[ho];exact⟨a,rfl,rfl⟩
   have hook:o.ok:=.inl hoow
   have hor:[C.int IntKind.i64 b.phis[i].to,C.vsl a 1 0 b.phis[i].args.length]=o.row:=by rw[ho];rfl
   have hol:[(a,Obj.vec 1 (Qb b.phis[i].args))]=o.lg:=by rw[ho]
   rw[hor]
   rw[hol]at kn
   have kn:=kn.perm Qap7
   refine kn.grow (new:=[o.row]) hgr (.mk' _ _ _ _) (by intro r hr;simp only[List.mem_singleton]at hr;subst hr;exact o.noOw hook) (by simp only[List.length_map,List.length_cons,List.length_nil,LIM];omega) fun z H6 kn=>?_
   have kn:Kn H H6 [] (([(x2,.st [.sl true 2 [],.sl true 4 [],.int .i64 0,.int .i64 0,.sl true 1 []]),(x3,.st [pc,.sl true 4 [],.int .i64 b.jump,.int .i64 b.on,nx.c])]++(nx.lg++(ps++[o]).flatMap OPhi.lg))++[(z,.vec 2 ((ps++[o]).map OPhi.row))]):=by
    simpa[List.flatMap_append,List.append_assoc]using kn
   have hx36:=kn.l 1 rfl
   simp only[go_sem,Qnt,hx36]
   intro H7 h7
   have kn:=kn.stL 1 rfl h7
   refine Qt ?_
   simp only[go_sem,X.next]
   simp only[LIM]at hl
   refine⟨Qs (by omega) (by omega),b.phis.length-(i+1),by omega,i+1,ps++[o],_,_,rfl,by omega,by rw[List.map_append,hpsd,List.take_succ_eq_append_getElem hlt,ho];rfl,fun p hp=>?_,?_,kn,rfl⟩
   ·rcases List.mem_append.1 hp with h|h
    ·exact hpsok p h
    ·simp only[List.mem_singleton]at h;subst h;exact hoow
   ·exact .mk _ _ _ (by simp)
  ·intro hc
   have hpsd':ps.map OPhi.d=b.phis:=by rw[hpsd,List.take_of_length_le (by simpa using hc)]
   refine Q0 ?_
   simp only[go_sem,X.next]
   refine Q6 ?_
   refine Qa ?_
   simp only[go_sem]
   refine Qh (Qg (Qy (fun n e1 H1=>∃(i:Nat) (is:List OIns) (ic:C) (il:List (Nat×Obj)),n=b.ins.length-i∧i≤b.ins.length∧is.map OIns.d=b.ins.take i∧(∀x∈is,x.a.ns.length≤1000000)∧Gr il 4 (is.map OIns.row) ic∧
    Kn H H1 [] (([(x2,.st [.sl true 2 [],.sl true 4 [],.int .i64 0,.int .i64 0,.sl true 1 []]),(x3,.st [pc,ic,.int .i64 b.jump,.int .i64 b.on,nx.c])]++(nx.lg++(ps.flatMap OPhi.lg++(pl++is.flatMap OIns.lg))))++il)∧
    e1=[(1,.c (.pp [.sl false 2 (Qw b.phis),.sl false 4 (Qav b.ins),.int .i64 b.jump,.int .i64 b.on,.sl false 1 (Qb b.next)])),(2,.c (.ptr x2 0)),(3,.c (.ptr x3 0)),(5,.c (.int .i64 i))]) b.ins.length ?_ ?_))
   ·exact⟨0,[],_,[],by omega,by omega,rfl,by simp,.nil 4,by simpa[List.append_assoc]using kn,rfl⟩
   ·rintro n e1 H1 ⟨i,is,ic,il,hn1,hi,hisd,hisa,hgi,kn,rfl⟩
    have hisl:is.length=i:=by have:=congrArg List.length hisd;rw[List.length_map,List.length_take]at this;omega
    have hicow:=hgi.isOw
    refine Q6 ?_
    refine Qa ?_
    simp only[go_sem,Qat]
    intro hl
    refine Qh (Qe rfl ?_ ?_)
    ·intro hc
     have hlt:i<b.ins.length:=by simpa using hc
     have hia:=hb.ia _ (List.getElem_mem hlt)
     refine Qi ?_
     simp only[go_sem]
     refine Qh (Qg ?_)
     refine Qa ?_
     simp only[go_sem,hlt,Qat,Qen _ _ hlt,InsD.cells]
     intro x6 hx6 H5 h5
     have kn:=kn.al hx6 h5
     have kn:=kn.perm (List.perm_append_comm (l₁:=_) (l₂:=[(x6,_)]))
     have hx65:=kn.l 0 rfl
     simp only[go_sem,Qnv,hx65]
     intro H6 h6
     have kn:=kn.stL 0 rfl h6
     have hx66:=kn.l 0 rfl
     have hx36:=kn.l 2 rfl
     refine Qbf ?_
     simp only[go_sem,hx66,hx36,hicow,Qc,List.nil_append,Nat.zero_add]
     refine⟨.inl trivial,Qo _,by simp only[LIM];omega,fun a ha H7 h7=>?_⟩
     have kn:=kn.al ha h7
     have hx67:=kn.l 0 rfl
     have hx37:=kn.l 2 rfl
     simp only[go_sem,Qnx,hx67,hx37,hicow]
     obtain⟨o,ho⟩:∃o:OIns,o=⟨b.ins[i].op,b.ins[i].to,⟨b.ins[i].args,a⟩,b.ins[i].n⟩:=⟨_,rfl⟩
     have hor:[C.int IntKind.i64 b.ins[i].op,C.int IntKind.i64 b.ins[i].to,C.vsl a 1 0 b.ins[i].args.length,C.int IntKind.i64 b.ins[i].n]=o.row:=by rw[ho];rfl
     have hol:[(a,Obj.vec 1 (Qb b.ins[i].args))]=o.lg:=by rw[ho];rfl
     rw[hor]
     rw[hol]at kn
     have kn:Kn H H7 [] ((([(x2,.st [.sl true 2 [],.sl true 4 [],.int .i64 0,.int .i64 0,.sl true 1 []]),(x3,.st [pc,ic,.int .i64 b.jump,.int .i64 b.on,nx.c])]++(nx.lg++(ps.flatMap OPhi.lg++(pl++is.flatMap OIns.lg))))++il)++o.lg):=by
      have kn:=kn.perm (List.perm_append_comm (l₁:=[(x6,_)]) (l₂:=_))
      exact kn.drop
     have kn:=kn.perm Qap7
     refine kn.grow (new:=[o.row]) hgi (.mk' _ _ _ _) (by simp[o.noOw]) (by simp only[List.length_map,List.length_cons,List.length_nil,LIM];omega) fun z H8 kn=>?_
     have kn:Kn H H8 [] (([(x2,.st [.sl true 2 [],.sl true 4 [],.int .i64 0,.int .i64 0,.sl true 1 []]),(x3,.st [pc,ic,.int .i64 b.jump,.int .i64 b.on,nx.c])]++(nx.lg++(ps.flatMap OPhi.lg++(pl++(is++[o]).flatMap OIns.lg))))++[(z,.vec 4 ((is++[o]).map OIns.row))]):=by
      simpa[List.flatMap_append,List.append_assoc]using kn
     have hx38:=kn.l 1 rfl
     simp only[go_sem,Qnw,hx38]
     intro H9 h9
     have kn:=kn.stL 1 rfl h9
     refine Qt ?_
     simp only[go_sem,X.next]
     simp only[LIM]at hl
     refine⟨Qs (by omega) (by omega),b.ins.length-(i+1),by omega,i+1,is++[o],_,_,rfl,by omega,by rw[List.map_append,hisd,List.take_succ_eq_append_getElem hlt,ho];rfl,fun x hx=>?_,?_,kn,rfl⟩
     ·rcases List.mem_append.1 hx with hx|hx
      ·exact hisa x hx
      ·simp only[List.mem_singleton]at hx
       rw[hx,ho];exact hia
     ·exact .mk _ _ _ (by simp)
    ·intro hc
     have hisd':is.map OIns.d=b.ins:=by rw[hisd,List.take_of_length_le (by simpa using hc)]
     have hx21:=kn.l 0 rfl
     have hx31:=kn.l 1 rfl
     refine Q0 ?_
     simp only[go_sem,X.next]
     have hnow:nx.c.isOw=false:=rfl
     refine Qa ?_
     simp only[go_sem,hx21,hx31,hpcow,hicow,hnow]
     intro H5 h5
     have kn:=kn.stL 0 rfl h5
     have hx25:=kn.l 0 rfl
     refine Qk ?_
     simp only[go_sem,Q3,Q9,Qyx,reduceIte,List.mem_singleton,forall_eq,RS.op,hx25,hpcow,hicow,hnow]
     obtain⟨o,ho⟩:∃o:OBlk,o=⟨ps,pc,pl,is,ic,il,b.jump,b.on,nx⟩:=⟨_,rfl⟩
     have hok:o.ok:=by rw[ho];exact⟨hgr,hgi,fun p hp=>.inl (hpsok p hp)⟩
     have hod:o.d=b:=by
      rw[ho]
      show BlkD.mk (ps.map OPhi.d) (is.map OIns.d) b.jump b.on nx.ns=b
      rw[hpsd',hisd',hnx]
     have kn:Kn H H5 [] ([(x2,.st [pc,ic,.int .i64 b.jump,.int .i64 b.on,nx.c]),(x3,.st [pc,ic,.int .i64 b.jump,.int .i64 b.on,nx.c])]++o.lg):=by
      rw[ho];simpa[OBlk.lg,List.append_assoc]using kn
     refine⟨unx H o.lg,.ag o.row,H5.frz (unx H o.lg),?_,Qc8 _ _,hK o _ kn.finK hok hod (by rw[ho];exact hpsok)⟩
     rw[ho]
     exact FrzL.ag (.cons (.same _ hpcow) (.cons (.same _ hicow) (.cons (Qf rfl) (.cons (Qf rfl) (.cons (.same _ hnow) .nil)))))
end Go.AE.Y

namespace Go.AE.Y
open Go.Proofs.Tryz
variable {H:Heap}{K:V→Heap→Prop}
theorem BlkD.take5 (x:BlkD):x.cells.take 5=x.cells:=rfl
theorem BlkD.allOw (x:BlkD):(x.cells.all fun c=>!c.isOw)=true:=rfl
theorem BlkD.len5 (x:BlkD):x.cells.length=5:=rfl
theorem CodeD.take3 (x:CodeD):x.cells.take 3=x.cells:=rfl
theorem CodeD.allOw (x:CodeD):(x.cells.all fun c=>!c.isOw)=true:=rfl
theorem CodeD.len3 (x:CodeD):x.cells.length=3:=rfl
theorem OBlk.len5 (x:OBlk):x.row.length=5:=rfl
theorem OCode.len3 (x:OCode):x.row.length=3:=rfl
set_option maxHeartbeats 2000000 in
theorem Qa1c {q:CodeD}(hq:q.sg)(hK:∀(o:OCode) (H':Heap),Kn H H' [] o.lg→o.ok→o.d=q→(∀b∈o.blocks,∀p∈b.phis,p.own)→K (.ag o.row) H'):Qp prog Qpq [.ag q.cells] H K:=by
 have hqb:=hq.b
 refine Qdo ?_
 refine Qd Qak Qbdh ?_
 refine Qa ?_
 simp only[go_sem,CodeD.cells]
 intro x2 hx2 H1 h1
 have kn:=(Kn.start0 H).al hx2 h1
 refine Qa ?_
 simp only[go_sem]
 intro x3 hx3 H2 h2
 have kn:=kn.al hx3 h2
 have hx32:=kn.l 1 rfl
 simp only[go_sem,Qact,hx32]
 intro H3 h3
 have kn:=kn.stL 1 rfl h3
 refine Q6 ?_
 refine Qa ?_
 simp only[go_sem]
 refine Qh (Qg (Qy (fun n e1 H1=>∃(i:Nat) (os:List OBlk) (bc:C) (bl:List (Nat×Obj)),n=q.blocks.length-i∧i≤q.blocks.length∧os.map OBlk.d=q.blocks.take i∧(∀o∈os,o.ok∧∀p∈o.phis,p.own)∧Gr bl 5 (os.map OBlk.row) bc∧
  Kn H H1 [] (([(x2,.st [.int .i64 0,.int .i64 0,.sl true 5 []]),(x3,.st [.int .i64 q.params,.int .i64 q.regs,bc])]++os.flatMap OBlk.lg)++bl)∧
  e1=[(1,.c (.pp [.int .i64 q.params,.int .i64 q.regs,.sl false 5 (Qr q.blocks)])),(2,.c (.ptr x2 0)),(3,.c (.ptr x3 0)),(4,.c (.int .i64 i))]) q.blocks.length ?_ ?_))
 ·exact⟨0,[],_,[],by omega,by omega,rfl,by simp,.nil 5,by simpa using kn,rfl⟩
 ·rintro n e1 H1 ⟨i,os,bc,bl,hn1,hi,hod,hok,hgr,kn,rfl⟩
  have hol:os.length=i:=by have:=congrArg List.length hod;rw[List.length_map,List.length_take]at this;omega
  have hbow:=hgr.isOw
  have hx31:=kn.l 1 rfl
  refine Q6 ?_
  refine Qa ?_
  simp only[go_sem,Qq]
  intro hl
  simp only[LIM]at hl
  refine Qh (Qe rfl ?_ ?_)
  ·intro hc
   have hlt:i<q.blocks.length:=by simpa using hc
   refine Qi ?_
   simp only[go_sem]
   refine Qh (Qg (Qbf ?_))
   simp only[go_sem,hx31,hbow,hlt,Qq,Qan _ _ hlt,BlkD.take5,BlkD.allOw,BlkD.len5]
   refine Qald (hq.bs _ (List.getElem_mem hlt)) fun o H4 k2 hoo hbd hoow=>?_
   have kn:=kn.comp0 k2
   have hx34:=kn.l 1 rfl
   simp only[go_sem,Qacv,hx34,hbow,o.len5]
   have kn:=kn.perm Qap7
   refine kn.grow (new:=[o.row]) hgr (.mk' _ _ _ _) (by intro r hr;simp only[List.mem_singleton]at hr;subst hr;exact o.noOw hoo) (by simp only[List.length_map,List.length_cons,List.length_nil,LIM];omega) fun z H5 kn=>?_
   have kn:Kn H H5 [] (([(x2,.st [.int .i64 0,.int .i64 0,.sl true 5 []]),(x3,.st [.int .i64 q.params,.int .i64 q.regs,bc])]++(os++[o]).flatMap OBlk.lg)++[(z,.vec 5 ((os++[o]).map OBlk.row))]):=by
    simpa[List.flatMap_append,List.append_assoc]using kn
   have hx35:=kn.l 1 rfl
   simp only[go_sem,Qacu,hx35]
   intro H6 h6
   have kn:=kn.stL 1 rfl h6
   refine Qt ?_
   simp only[go_sem,X.next]
   refine⟨Qs (by omega) (by omega),q.blocks.length-(i+1),by omega,i+1,os++[o],_,_,rfl,by omega,by rw[List.map_append,hod,List.take_succ_eq_append_getElem hlt,List.map_cons,List.map_nil,hbd],fun o' ho'=>?_,.mk _ _ _ (by simp),kn,rfl⟩
   rcases List.mem_append.1 ho' with h|h
   ·exact hok o' h
   ·simp at h;subst h;exact⟨hoo,hoow⟩
  ·intro hc
   have hge:q.blocks.length≤i:=by simpa using hc
   have hx21:=kn.l 0 rfl
   refine Q0 ?_
   simp only[go_sem,X.next]
   refine Qa ?_
   simp only[go_sem,hx31,hx21,hbow]
   intro H4 h4
   have kn:=kn.stL 0 rfl h4
   have hx24:=kn.l 0 rfl
   refine Qk ?_
   simp only[go_sem,Q3,Q9,Qa1r,reduceIte,List.mem_singleton,forall_eq,RS.op,hx24,hbow]
   obtain⟨o,ho⟩:∃o:OCode,o=⟨q.params,q.regs,os,bc,bl⟩:=⟨_,rfl⟩
   have hod:o.d=q:=by
    rw[ho]
    show CodeD.mk q.params q.regs (os.map OBlk.d)=q
    rw[hod,List.take_of_length_le hge]
   have how':∀b∈o.blocks,∀p∈b.phis,p.own:=by rw[ho];exact fun b hb=>(hok b hb).2
   have hok:o.ok:=by rw[ho];exact⟨hgr,fun b hb=>(hok b hb).1⟩
   have kn:Kn H H4 [] ([(x2,.st [.int .i64 q.params,.int .i64 q.regs,bc]),(x3,.st [.int .i64 q.params,.int .i64 q.regs,bc])]++o.lg):=by
    rw[ho];simpa[OCode.lg,List.append_assoc]using kn
   refine⟨unx H o.lg,.ag o.row,H4.frz (unx H o.lg),?_,Qc8 _ _,hK o _ kn.finK hok hod how'⟩
   rw[ho]
   exact FrzL.ag (.cons (Qf rfl) (.cons (Qf rfl) (.cons (.same _ hbow) .nil)))
theorem Qbcz {q:CodeD}(hq:q.sm)(hK:∀(o:OCode) (H':Heap),Kn H H' [] o.lg→o.ok→o.d=q→o.sm 1000→K (.ag o.row) H'):Qp prog Qpq [.ag q.cells] H K:=
 Qa1c hq.sg fun o H' k1 k2 k3 _=>hK o H' k1 k2 k3 (by rw[←k3]at hq;exact hq.o)
set_option maxHeartbeats 2000000 in
theorem Qaph {cs:List CodeD}{fl:Bool}(hs:∀c∈cs,c.sm)(hl:cs.length≤1000000)
  (hK:∀(us:List OCode) (cc:C) (cl:List (Nat×Obj)) (H':Heap),Kn H H' [] (us.flatMap OCode.lg++cl)→Gr cl 3 (us.map OCode.row) cc→(∀u∈us,u.ok∧u.sm 1000)→us.length=cs.length→K (.ag [cc]) H') :
  Qp prog Qlr [.ag [.sl fl 3 (Ql cs)]] H K:=by
 refine Qdo ?_
 refine Qd Qak Qapw ?_
 refine Qa ?_
 simp only[go_sem]
 intro x2 hx2 H1 h1
 have kn:=(Kn.start0 H).al hx2 h1
 refine Qa ?_
 simp only[go_sem]
 intro x3 hx3 H2 h2
 have kn:=kn.al hx3 h2
 have hx32:=kn.l 1 rfl
 simp only[go_sem,Qte,hx32]
 intro H3 h3
 have kn:=kn.stL 1 rfl h3
 refine Q6 ?_
 refine Qa ?_
 simp only[go_sem]
 refine Qh (Qg (Qy (fun n e1 H1=>∃(i:Nat) (os:List OCode) (bc:C) (bl:List (Nat×Obj)),n=cs.length-i∧i≤cs.length∧os.length=i∧(∀o∈os,o.ok∧o.sm 1000)∧Gr bl 3 (os.map OCode.row) bc∧
  Kn H H1 [] (([(x2,.st [.sl true 3 []]),(x3,.st [bc])]++os.flatMap OCode.lg)++bl)∧
  e1=[(1,.c (.pp [.sl fl 3 (Ql cs)])),(2,.c (.ptr x2 0)),(3,.c (.ptr x3 0)),(4,.c (.int .i64 i))]) cs.length ?_ ?_))
 ·exact⟨0,[],_,[],by omega,by omega,rfl,by simp,.nil 3,by simpa using kn,rfl⟩
 ·rintro n e1 H1 ⟨i,os,bc,bl,hn1,hi,hol,hok,hgr,kn,rfl⟩
  have hbow:=hgr.isOw
  have hx31:=kn.l 1 rfl
  refine Q6 ?_
  refine Qa ?_
  simp only[go_sem,Q4]
  intro _
  refine Qh (Qe rfl ?_ ?_)
  ·intro hc
   have hlt:i<cs.length:=by simpa using hc
   refine Qi ?_
   simp only[go_sem]
   refine Qh (Qg (Qbf ?_))
   simp only[go_sem,hx31,hbow,hlt,Q4,Qaj _ _ hlt,CodeD.take3,CodeD.allOw,CodeD.len3]
   refine Qbcz (hs _ (List.getElem_mem hlt)) fun o H4 k2 hoo _ hob=>?_
   have kn:=kn.comp0 k2
   have hx34:=kn.l 1 rfl
   simp only[go_sem,Qtg,hx34,hbow,o.len3]
   have kn:=kn.perm Qap7
   refine kn.grow (new:=[o.row]) hgr (.mk' _ _ _ _) (by intro r hr;simp only[List.mem_singleton]at hr;subst hr;exact o.noOw hoo) (by simp only[List.length_map,List.length_cons,List.length_nil,LIM];omega) fun z H5 kn=>?_
   have kn:Kn H H5 [] (([(x2,.st [.sl true 3 []]),(x3,.st [bc])]++(os++[o]).flatMap OCode.lg)++[(z,.vec 3 ((os++[o]).map OCode.row))]):=by
    simpa[List.flatMap_append,List.append_assoc]using kn
   have hx35:=kn.l 1 rfl
   simp only[go_sem,Qtf,hx35]
   intro H6 h6
   have kn:=kn.stL 1 rfl h6
   refine Qt ?_
   simp only[go_sem,X.next]
   refine⟨Qs (by omega) (by omega),cs.length-(i+1),by omega,i+1,os++[o],_,_,rfl,by omega,by simp[hol],fun o' ho'=>?_,.mk _ _ _ (by simp),kn,rfl⟩
   rcases List.mem_append.1 ho' with h|h
   ·exact hok o' h
   ·simp at h;subst h;exact⟨hoo,hob⟩
  ·intro hc
   have hge:cs.length≤i:=by simpa using hc
   have hx21:=kn.l 0 rfl
   refine Q0 ?_
   simp only[go_sem,X.next]
   refine Qa ?_
   simp only[go_sem,hx31,hx21,hbow]
   intro H4 h4
   have kn:=kn.stL 0 rfl h4
   have hx24:=kn.l 0 rfl
   refine Qk ?_
   simp only[go_sem,Q3,Q9,Q26,reduceIte,List.mem_singleton,forall_eq,RS.op,hx24,hbow]
   have kn:Kn H H4 [] ([(x2,.st [bc]),(x3,.st [bc])]++(os.flatMap OCode.lg++bl)):=by
    simpa[List.append_assoc]using kn
   exact⟨unx H _,.ag [bc],H4.frz (unx H _),FrzL.ag (.cons (.same _ hbow) .nil),Qc8 _ _,hK os bc bl _ kn.finK hgr hok (by omega)⟩
end Go.AE.Y

namespace Go.AE.Y
open Go.Proofs.Tryz
variable {H:Heap}{K:V→Heap→Prop}
structure CRd (H:Heap)(R:Rdr)(cc:C)(rows:List (List C)):Prop where
 s:Slc H 3 rows cc
 ow:cc.isOw=false
 ne:∀l a c d,cc=.vsl l a c d→l≠R.l
 r:∀i,i<rows.length→∃(p:Int) (c1 c2:C),rows.getD i []=[.int .i64 p,c1,c2]∧0≤p∧p≤3
theorem CRd.keep {R:Rdr}{cc:C}{rows:List (List C)}{o:Obj}{H':Heap}{L:List (Nat×Obj)}(h:CRd H R cc rows)(kn:Kn H H' [(R.l,o)] L):CRd H' R cc rows:=
 ⟨h.s.keep kn (fun l a c d hh=>by simpa using h.ne l a c d hh),h.ow,h.ne,h.r⟩
theorem Qa75 {R:Rdr}{k b n:Nat}(hH:H R.l=R.o k)(hk:k+2≤2^40)(hb:b≤1000)(hn:n≤1000)
  (hK:∀(v:Int) (H':Heap) (k':Nat),k<k'→k'≤k+2→Upd H H' [(R.l,R.o k')]→K (.c (.int .i64 v)) H') :
  Qp prog Q8g [.c (.ptr R.l 0),.c (.int .i64 b),.c (.int .i64 n)] H K:=by
 refine Qz ?_
 refine Qd Qak Qbkf ?_
 have kn:=Kn.start1 hH (R.o_ne k)
 refine Qa ?_
 simp only[go_sem]
 refine Q6 ?_
 refine Qa ?_
 simp only[go_sem]
 refine⟨Qs (by omega) (by omega),?_⟩
 have rest:∀(v:Bool) (H2:Heap) (k2:Nat),k≤k2→k2≤k+1→Kn H H2 [(R.l,R.o k2)] []→
   Qad prog (s_l7To_2.seq Qa1w) (Q3 Qa1s (unK H K)) [(0,.c (.ptr R.l 0)),(1,.c (.int .i64 b)),(2,.c (.int .i64 n)),(15,.c (.bool v))] H2:=by
  intro v H2 k2 hk1 hk2 kn
  have pv:∀m v:Int,m≤1000→(if m<1 then v=0 else 0≤v∧v<m)→0≤v∧v≤1000:=by
   intro m v hm hv
   split at hv <;> omega
  refine Qh (Qe rfl ?_ ?_)
  ·intro hc
   refine Qa ?_
   simp only[go_sem]
   refine⟨Qs (by omega) (by omega),Qs (by omega) (by omega),Qs (by omega) (by omega),?_⟩
   refine Qa6 (kn.e 0 rfl) (by omega) fun v H3 hv hu=>?_
   have kn:=kn.callE 0 rfl hu (R.o_ne _)
   have hv:=pv _ _ (by omega) hv
   simp only[go_sem,Qas6]
   refine⟨Qs (by omega) (by omega),?_⟩
   refine Qk ?_
   simp only[go_sem,Q3,Q9,Qa1s,reduceIte,List.mem_singleton,forall_eq,RS.op]
   exact⟨_,.c _ _ (Qf rfl),hK _ _ (k2+1) (by omega) (by omega) kn.fin⟩
  ·intro hc
   refine Qi ?_
   simp only[go_sem]
   refine Qa ?_
   simp only[go_sem]
   refine⟨Qs (by omega) (by omega),?_⟩
   refine Qa6 (kn.e 0 rfl) (by omega) fun v H3 hv hu=>?_
   have kn:=kn.callE 0 rfl hu (R.o_ne _)
   have hv:=pv _ _ (by omega) hv
   simp only[go_sem,Qas7]
   refine⟨Qs (by omega) (by omega),?_⟩
   refine Qk ?_
   simp only[go_sem,Q3,Q9,Qa1s,reduceIte,List.mem_singleton,forall_eq,RS.op]
   exact⟨_,.c _ _ (Qf rfl),hK _ _ (k2+1) (by omega) (by omega) kn.fin⟩
 refine⟨fun hb1=>?_,fun hb1=>?_⟩
 ·refine Qa6 (kn.e 0 rfl) (by omega) fun v H3 hv hu=>?_
  have kn:=kn.callE 0 rfl hu (R.o_ne _)
  simp only[go_sem,Qadd,hb1]
  exact rest _ _ (k+1) (by omega) (by omega) kn
 ·simp only[go_sem,Qadd,hb1]
  exact rest _ _ k (by omega) (by omega) kn
set_option maxHeartbeats 2000000 in
theorem Qbc0 {R:Rdr}{k:Nat}{cc:C}{rows:List (List C)}{regs:Int}(hH:H R.l=R.o k)(hk:k+9≤2^40)(hc:CRd H R cc rows)
  (hK:∀(x:InsD) (H':Heap) (k':Nat),k<k'→k'≤k+9→Upd H H' [(R.l,R.o k')]→x.args.length≤3→K (.ag x.cells) H') :
  Qp prog Q8f [.c (.ptr R.l 0),.ag [cc],.c (.int .i64 regs)] H K:=by
 refine Qz ?_
 refine Qd Qak Qbdj ?_
 have how:=hc.ow
 have hlen:=hc.s.len
 have hesz:=hc.s.sz
 refine Qa ?_
 simp only[go_sem,how]
 intro x6 hx6 H1 h1
 have kn:=(Kn.start1 hH (R.o_ne k)).al hx6 h1
 refine Qa ?_
 simp only[go_sem]
 refine Qka (ns:=[1,1,2,3,4,5,8,9,10,13,3,6,7,11,12,14]) (kn.e 0 rfl) (by omega) (by simp) fun op H2 hop hu=>?_
 have kn:=kn.callE 0 rfl hu (R.o_ne _)
 simp only[go_sem,Qac8]
 refine Qa ?_
 simp only[go_sem]
 refine Qa6 (kn.e 0 rfl) (by omega) fun to H3 hto hu=>?_
 have kn:=kn.callE 0 rfl hu (R.o_ne _)
 simp only[go_sem,Qac9,Qx4]
 intro x8 hx8 H4 h4
 have kn:=kn.al hx8 h4
 have hx84:=kn.l 1 rfl
 simp only[go_sem,Qx4,hx84]
 intro H5 h5
 have kn:=kn.stL 1 rfl h5
 refine Qa ?_
 simp only[go_sem]
 refine Qa73 fun many hm1 hm2=>?_
 simp only[go_sem,Qada]
 have args:∀(many:Int) (to n:Int) (H6:Heap) (k6:Nat),many≤3→k<k6→k6≤k+4→Kn H H6 [(R.l,R.o k6)] [(x6,.st [.int .i64 0,.int .i64 0,.sl true 1 [],.int .i64 0]),(x8,.st [.int .i64 op,.int .i64 to,.sl true 1 [],.int .i64 n])]→
   Qad prog Qac5 (Q3 Qul (unK H K)) [(0,.c (.ptr R.l 0)),(2,.c (.int .i64 regs)),(6,.c (.ptr x6 0)),(8,.c (.ptr x8 0)),(9,.c (.int .i64 many))] H6:=by
  intro many to n H6 k6 hmany hk1 hk2 kn
  refine Q6 ?_
  refine Qa ?_
  simp only[go_sem]
  refine Qh (Qg (Qy (fun m e1 H1=>∃(i:Nat) (ns:List Int) (ac:C) (al:List (Nat×Obj)),m=3-i∧i≤3∧ns.length=i∧Gr al 1 (Qb ns) ac∧
   Kn H H1 [(R.l,R.o (k6+i))] ([(x6,.st [.int .i64 0,.int .i64 0,.sl true 1 [],.int .i64 0]),(x8,.st [.int .i64 op,.int .i64 to,ac,.int .i64 n])]++al)∧
   e1=[(0,.c (.ptr R.l 0)),(2,.c (.int .i64 regs)),(6,.c (.ptr x6 0)),(8,.c (.ptr x8 0)),(9,.c (.int .i64 many)),(10,.c (.int .i64 i))]) 3 ?_ ?_))
  ·exact⟨0,[],_,[],by omega,by omega,rfl,.nil 1,by simpa using kn,rfl⟩
  ·rintro m e1 H7 ⟨i,ns,ac,al,hm,hi,hns,hgr,kn,rfl⟩
   have hacow:=hgr.isOw
   have hx8:=kn.l 1 rfl
   refine Q6 ?_
   refine Qa ?_
   simp only[go_sem]
   refine Qh (Qe rfl ?_ ?_)
   ·intro hc
    have hlt:(i:Int)<many:=by simpa using hc
    refine Qi ?_
    simp only[go_sem]
    refine Qh (Qg ?_)
    refine Qbf ?_
    simp only[go_sem,hx8,hacow]
    refine Qa6 (kn.e 0 rfl) (by omega) fun v H8 hv hu=>?_
    have kn:=kn.callE 0 rfl hu (R.o_ne _)
    have hx8:=kn.l 1 rfl
    simp only[go_sem,Q4u,hx8,hacow]
    refine kn.grow (new:=Qb [v]) hgr (.mk' _ _ _ _) (Qo _) (by simp only[Qc,LIM,List.length_cons,List.length_nil];omega) fun y H9 kn=>?_
    have hx8:=kn.l 1 rfl
    simp only[go_sem,Q4t,hx8]
    intro H10 h10
    have kn:=kn.stL 1 rfl h10
    refine Qt ?_
    simp only[go_sem,X.next]
    refine⟨Qs (by omega) (by omega),3-(i+1),by omega,i+1,ns++[v],_,_,rfl,by omega,by simp[hns],?_,kn,rfl⟩
    rw[←Qa2]
    exact .mk _ _ _ (by simp[Qa2,Qc])
   ·intro hc
    refine Q0 ?_
    simp only[go_sem,X.next]
    have hx6:=kn.l 0 rfl
    refine Qa ?_
    simp only[go_sem,hx8,hx6,hacow]
    intro H8 h8
    have kn:Kn H H8 [(R.l,R.o (k6+i))] ([(x6,.st [.int .i64 op,.int .i64 to,ac,.int .i64 n]),(x8,.st [.int .i64 op,.int .i64 to,ac,.int .i64 n])]++al):=kn.stL 0 rfl h8
    have hx6:=kn.l 0 rfl
    refine Qk ?_
    simp only[go_sem,Q3,Q9,Qul,reduceIte,List.mem_singleton,forall_eq,RS.op,hx6,hacow]
    exact⟨.ag (InsD.mk op to ns n).cells,FrzL.ag (.cons (Qf rfl) (.cons (Qf rfl) (.cons (hgr.frz kn (Qo _)) (.cons (Qf rfl) .nil)))),hK ⟨op,to,ns,n⟩ _ (k6+i) (by omega) (by omega) kn.fin (by show ns.length≤3;omega)⟩
 have rest:∀(many n:Int) (H6:Heap) (k6:Nat) (E1:Env),lk 0 E1=.c (.ptr R.l 0)→lk 2 E1=.c (.int .i64 regs)→lk 6 E1=.c (.ptr x6 0)→lk 7 E1=.c (.int .i64 op)→lk 8 E1=.c (.ptr x8 0)→lk 9 E1=.c (.int .i64 many)→many≤3→k<k6→k6≤k+3→Kn H H6 [(R.l,R.o k6)] [(x6,.st [.int .i64 0,.int .i64 0,.sl true 1 [],.int .i64 0]),(x8,.st [.int .i64 op,.int .i64 to,.sl true 1 [],.int .i64 n])]→
   Qad prog Qac7 (Q3 Qul (unK H K)) E1 H6:=by
  intro many n H6 k6 E1 l0 l2 l6 l7 l8 l9 hmany hk1 hk2 kn
  have rest2:∀(n:Int) (H6:Heap) (k6:Nat) (E1:Env),lk 0 E1=.c (.ptr R.l 0)→lk 2 E1=.c (.int .i64 regs)→lk 6 E1=.c (.ptr x6 0)→lk 7 E1=.c (.int .i64 op)→lk 8 E1=.c (.ptr x8 0)→lk 9 E1=.c (.int .i64 many)→k<k6→k6≤k+4→Kn H H6 [(R.l,R.o k6)] [(x6,.st [.int .i64 0,.int .i64 0,.sl true 1 [],.int .i64 0]),(x8,.st [.int .i64 op,.int .i64 to,.sl true 1 [],.int .i64 n])]→
    Qad prog Qac6 (Q3 Qul (unK H K)) E1 H6:=by
   intro n H6 k6 E1 l0 l2 l6 l7 l8 l9 hk1 hk2 kn
   refine Q6 ?_
   refine Qa ?_
   simp only[go_sem]
   simp only[l7,true_and]
   refine Q8l ?_
   simp only[go_sem,Q4s,l0,l2,l6,l7,l8,l9]
   refine Qh (Qe rfl ?_ ?_)
   ·intro hc
    have hx8:=kn.l 1 rfl
    refine Qt ?_
    simp only[go_sem,hx8]
    intro H7 h7
    have kn:=kn.stL 1 rfl h7
    exact args many (-1) n H7 k6 hmany hk1 hk2 kn
   ·intro hc
    refine Qi ?_
    simp only[go_sem]
    exact args many to n H6 k6 hmany hk1 hk2 kn
  refine Q6 ?_
  refine Qa ?_
  simp only[go_sem,l0,l2,l6,l7,l8,l9]
  refine Qh (Qe rfl ?_ ?_)
  ·intro hc
   refine Qt ?_
   simp only[go_sem]
   refine Qka (ns:=[0,1,2,3,15,16,255]) (kn.e 0 rfl) (by omega) (by simp) fun n2 H7 hn2 hu=>?_
   have kn:=kn.callE 0 rfl hu (R.o_ne _)
   have hx8:=kn.l 1 rfl
   simp only[go_sem,Q4r,hx8]
   intro H8 h8
   have kn:=kn.stL 1 rfl h8
   exact rest2 n2 H8 (k6+1) _ (by simp[lk]) (by simp[lk]) (by simp[lk]) (by simp[lk]) (by simp[lk]) (by simp[lk]) (by omega) (by omega) kn
  ·intro hc
   refine Qi ?_
   simp only[go_sem]
   exact rest2 n H6 k6 _ (by simp[lk]) (by simp[lk]) (by simp[lk]) (by simp[lk]) (by simp[lk]) (by simp[lk]) (by omega) (by omega) kn
 refine Q6 ?_
 refine Qa ?_
 simp only[go_sem]
 refine Qh (Qe rfl ?_ ?_)
 ·intro hop14
  have hc5:=hc.keep kn
  have hok5:=eq_true hc5.s.ok
  refine Q6 ?_
  refine Qa ?_
  simp only[go_sem,how,hlen,hok5]
  intro hl
  refine Qh (Qe rfl ?_ ?_)
  ·intro h0
   refine Qa ?_
   simp only[go_sem]
   refine Qa6 (kn.e 0 rfl) (by omega) fun v H6 hv hu=>?_
   have kn:=kn.callE 0 rfl hu (R.o_ne _)
   have hx6:=kn.l 0 rfl
   simp only[go_sem,Qadb,hx6]
   intro H7 h7
   have kn:=kn.stL 0 rfl h7
   have hx6:=kn.l 0 rfl
   refine Qk ?_
   simp only[go_sem,Q3,Q9,Qul,reduceIte,List.mem_singleton,forall_eq,RS.op,hx6]
   exact⟨.ag (InsD.mk 13 (-1) [v] 0).cells,FrzL.ag (.cons (Qf rfl) (.cons (Qf rfl) (.cons (FrzR.same (Qo [v])).sl (.cons (Qf rfl) .nil)))),hK ⟨13,-1,[v],0⟩ _ (k+3) (by omega) (by omega) kn.fin (by simp)⟩
  ·intro h0
   have hpos:0<rows.length:=by
    have:¬rows.length=0:=by simpa using h0
    omega
   refine Qi ?_
   simp only[go_sem]
   refine Qa ?_
   simp only[go_sem,how,hlen,hok5]
   intro _
   refine Qa6 (kn.e 0 rfl) (by omega) fun v H6 hv hu=>?_
   have kn:=kn.callE 0 rfl hu (R.o_ne _)
   rw[if_neg (by omega)]at hv
   obtain⟨i,rfl⟩:=Int.eq_ofNat_of_zero_le hv.1
   have hi:i<rows.length:=by omega
   obtain⟨p,c1,c2,hrow,hp0,hp3⟩:=hc.r i hi
   have hx8:=kn.l 1 rfl
   simp only[go_sem,Qadc,hx8]
   intro H7 h7
   have kn:=kn.stL 1 rfl h7
   have hx8:=kn.l 1 rfl
   have hc7:=hc.keep kn
   have hok7:=eq_true hc7.s.ok
   have hrw7:=hc7.s.rows
   refine Qt ?_
   simp only[go_sem,how,hlen,hok7,hrw7,hesz,hx8,hi,hrow]
   exact rest p i H7 (k+3) _ (by simp[lk]) (by simp[lk]) (by simp[lk]) (by simp[lk]) (by simp[lk]) (by simp[lk]) (by omega) (by omega) (by omega) kn
 ·intro hop14
  refine Qi ?_
  simp only[go_sem]
  exact rest many 0 H5 (k+2) _ (by simp[lk]) (by simp[lk]) (by simp[lk]) (by simp[lk]) (by simp[lk]) (by simp[lk]) (by omega) (by omega) (by omega) kn
end Go.AE.Y

namespace Go.AE.Y
open Go.Proofs.Tryz
variable {H:Heap}{K:V→Heap→Prop}
theorem Qbh9 {α:Type}{a M b c:List α}:(a++(M++b)++c).Perm (((M++c)++b)++a):=by
 refine List.perm_append_comm.trans ?_
 refine (List.Perm.append_left _ (List.perm_append_comm (l₁:=a))).trans ?_
 rw[←List.append_assoc]
 refine .append_right _ ?_
 rw[←List.append_assoc]
 exact .append_right _ List.perm_append_comm
def EnvA (R:Rdr)(cc:C)(x4 x5 x8 n b:Nat)(e:Env):Prop:=
 lk 0 e=.c (.ptr R.l 0)∧lk 3 e=.c (.pp [cc])∧lk 4 e=.c (.ptr x4 0)∧lk 5 e=.c (.ptr x5 0)∧lk 6 e=.c (.int .i64 n)∧lk 7 e=.c (.int .i64 b)∧lk 8 e=.c (.ptr x8 0)
set_option maxHeartbeats 4000000 in
theorem Qbcy {R:Rdr}{k:Nat}{cc:C}{rows:List (List C)}(hH:H R.l=R.o k)(hk:k+1000≤2^40)(hc:CRd H R cc rows)
  (hK:∀(o:UCode) (H':Heap) (k':Nat),k<k'→k'≤k+1000→Kn H H' [(R.l,R.o k')] o.lg→o.ok→o.sm 0→K (.ag o.row) H') :
  Qp prog Q8e [.c (.ptr R.l 0),.ag [cc]] H K:=by
 refine Qdo ?_
 refine Qd Qak Qbdg ?_
 have how:=hc.ow
 refine Qa ?_
 simp only[go_sem,how]
 intro x4 hx4 H1 h1
 have kn:=(Kn.start1 hH (R.o_ne k)).al hx4 h1
 refine Qa ?_
 simp only[go_sem]
 refine Qka (ns:=[1,0,2,3]) (kn.e 0 rfl) (by omega) (by simp) fun p H2 hp hu=>?_
 have kn:=kn.callE 0 rfl hu (R.o_ne _)
 have hp:0≤p∧p≤3:=by simp at hp;omega
 simp only[go_sem,Qacj]
 intro x5 hx5 H3 h3
 have kn:=kn.al hx5 h3
 have hx53:=kn.l 1 rfl
 simp only[go_sem,Qaci,hx53]
 intro H4 h4
 have kn:=kn.stL 1 rfl h4
 have hx54:=kn.l 1 rfl
 refine Qag ?_
 simp only[go_sem,hx54]
 refine⟨Qs (by omega) (by omega),?_⟩
 refine Qa6 (kn.e 0 rfl) (by omega) fun q H5 hq hu=>?_
 have kn:=kn.callE 0 rfl hu (R.o_ne _)
 have hx55:=kn.l 1 rfl
 rw[if_neg (by omega)]at hq
 simp only[go_sem,Qack,hx55]
 refine⟨Qs (by omega) (by omega),?_⟩
 intro H6 h6
 have kn:=kn.stL 1 rfl h6
 obtain⟨rg,hrg⟩:∃rg,p+2+q=rg:=⟨_,rfl⟩
 rw[hrg]at kn
 refine Qa ?_
 simp only[go_sem]
 refine Qka (ns:=[3,5,2,1,7,4]) (kn.e 0 rfl) (by omega) (by simp) fun n0 H7 hn0 hu=>?_
 have kn:=kn.callE 0 rfl hu (R.o_ne _)
 simp only[go_sem,Qacl]
 obtain⟨n,rfl,hn1,hn7⟩:∃n:Nat,n0=n∧1≤n∧n≤7:=⟨n0.toNat,by simp at hn0;omega⟩
 refine Q6 ?_
 refine Qa ?_
 simp only[go_sem]
 refine Qh (Qg (Qy (fun m e1 H1=>∃(b k1:Nat) (bs:List UBlk) (bc:C) (bl:List (Nat×Obj)),m=n-b∧b≤n∧bs.length=b∧k<k1∧k1≤k+3+50 * b∧(∀o∈bs,o.ok∧o.sm 0)∧Gr bl 5 (bs.map UBlk.row) bc∧
  Kn H H1 [(R.l,R.o k1)] (([(x4,.st [.int .i64 0,.int .i64 0,.sl true 5 []]),(x5,.st [.int .i64 p,.int .i64 rg,bc])]++bs.flatMap UBlk.lg)++bl)∧
  e1=[(0,.c (.ptr R.l 0)),(3,.c (.pp [cc])),(4,.c (.ptr x4 0)),(5,.c (.ptr x5 0)),(6,.c (.int .i64 n)),(7,.c (.int .i64 b))]) n ?_ ?_))
 ·exact⟨0,k+1+1+1,[],_,[],by omega,by omega,rfl,by omega,by omega,by simp,.nil 5,by simpa using kn,rfl⟩
 ·rintro m e1 H8 ⟨b,k1,bs,bc,bl,hm,hb,hbs,hk1,hk2,hok,hgr,kn,rfl⟩
  have hbow:=hgr.isOw
  refine Q6 ?_
  refine Qa ?_
  simp only[go_sem]
  refine Qh (Qe rfl ?_ ?_)
  ·intro hc1
   have hlt:b<n:=by simpa using hc1
   refine Qi ?_
   simp only[go_sem]
   refine Qh (Qg ?_)
   refine Qa ?_
   simp only[go_sem]
   intro x8 hx8 H9 h9
   have kn:=kn.al hx8 h9
   have kn:=kn.perm List.perm_append_comm
   have hx89:=kn.l 0 rfl
   simp only[go_sem,Qacm,hx89]
   intro H10 h10
   have kn:=kn.stL 0 rfl h10
   refine Q6 ?_
   refine Qa ?_
   simp only[go_sem]
   refine Qka (ns:=[1,2,0,3,4]) (kn.e 0 rfl) (by omega) (by simp) fun i0 H11 hi0 hu=>?_
   have kn:=kn.callE 0 rfl hu (R.o_ne _)
   simp only[go_sem,Qacn]
   obtain⟨i,rfl,hi4⟩:∃i:Nat,i0=i∧i≤4:=⟨i0.toNat,by simp at hi0;omega⟩
   refine Qh (Qg (Qy (fun m e1 H1=>∃(t k2:Nat) (ds:List InsD) (ic:C) (il:List (Nat×Obj)),m=t∧t+ds.length=i∧k1<k2∧k2≤k1+1+9 * ds.length∧(∀d∈ds,d.args.length≤3)∧Gr il 4 (Qav ds) ic∧
    Kn H H1 [(R.l,R.o k2)] (([(x8,.st [.sl true 2 [],ic,.int .i64 0,.int .i64 0,.sl true 1 []])]++(([(x4,.st [.int .i64 0,.int .i64 0,.sl true 5 []]),(x5,.st [.int .i64 p,.int .i64 rg,bc])]++bs.flatMap UBlk.lg)++bl))++il)∧
    e1=[(0,.c (.ptr R.l 0)),(3,.c (.pp [cc])),(4,.c (.ptr x4 0)),(5,.c (.ptr x5 0)),(6,.c (.int .i64 n)),(7,.c (.int .i64 b)),(8,.c (.ptr x8 0)),(9,.c (.int .i64 t))]) i ?_ ?_))
   ·refine⟨i,k1+1,[],_,[],rfl,rfl,by omega,by simp,by simp,.nil 4,by simpa using kn,rfl⟩
   ·rintro m2 e1 H12 ⟨t,k2,ds,ic,il,hm2,ht,hk3,hk4,hds,hgi,kn,rfl⟩
    have hicow:=hgi.isOw
    have hx8:=kn.l 0 rfl
    have hx5:=kn.l 2 rfl
    refine Q6 ?_
    refine Qa ?_
    simp only[go_sem]
    refine Qh (Qe rfl ?_ ?_)
    ·intro hc2
     have ht0:0<t:=by simpa using hc2
     refine Qi ?_
     simp only[go_sem]
     refine Qh (Qg ?_)
     refine Qbf ?_
     simp only[go_sem,hx8,hx5,hicow,hbow,how]
     refine Qbc0 (kn.e 0 rfl) (by omega) (hc.keep kn) fun d H13 k3 hk5 hk6 hu hd=>?_
     have kn:=kn.callE 0 rfl hu (R.o_ne _)
     have hx8:=kn.l 0 rfl
     simp only[go_sem,Qacp,hx8,hicow,InsD.take4,InsD.allOw,InsD.len4]
     refine kn.grow (new:=[d.cells]) hgi (.mk' _ _ _ _) (by intro r hr;simp only[List.mem_singleton]at hr;subst hr;rfl) (by simp only[Qat,LIM,List.length_cons,List.length_nil];omega) fun y H14 kn=>?_
     have hx8:=kn.l 0 rfl
     simp only[go_sem,Qaco,hx8]
     intro H15 h15
     have kn:=kn.stL 0 rfl h15
     refine Qt ?_
     simp only[go_sem,X.next]
     refine⟨Qs (by omega) (by omega),t-1,by omega,t-1,k3,ds++[d],_,_,rfl,by simp;omega,by omega,by simp;omega,fun d' hd'=>?_,?_,kn,?_⟩
     ·rcases List.mem_append.1 hd' with h|h
      ·exact hds _ h
      ·simp only[List.mem_singleton]at h;subst h;exact hd
     ·rw[Qa29];exact .mk _ _ _ (by simp[Qat])
     ·have:(t:Int)-1=((t-1:Nat):Int):=by omega
      rw[this]
    ·intro hc2
     have ht0:t=0:=by have:¬0<t:=(by simpa using hc2);omega
     refine Q0 ?_
     simp only[go_sem,X.next]
     refine Qa ?_
     simp only[go_sem,hx5,hbow]
     refine Qa6 (kn.e 0 rfl) (by omega) fun on H13 hon hu=>?_
     have kn:=kn.callE 0 rfl hu (R.o_ne _)
     have hx8:=kn.l 0 rfl
     simp only[go_sem,Q4j,hx8,hicow]
     intro H14 h14
     have kn:=kn.stL 0 rfl h14
     refine Qa ?_
     simp only[go_sem]
     refine Qka (ns:=[2,1,2,1,3]) (kn.e 0 rfl) (by omega) (by simp) fun jump H15 hjump hu=>?_
     have kn:=kn.callE 0 rfl hu (R.o_ne _)
     have hx8:=kn.l 0 rfl
     simp only[go_sem,Q4k,hx8,hicow]
     intro H16 h16
     have kn:=kn.stL 0 rfl h16
     refine Qw6 (fun e2 H2=>∃(k2:Nat) (jump:Int),k1<k2∧k2≤k1+40∧Kn H H2 [(R.l,R.o k2)] (([(x8,.st [.sl true 2 [],ic,.int .i64 jump,.int .i64 on,.sl true 1 []])]++(([(x4,.st [.int .i64 0,.int .i64 0,.sl true 5 []]),(x5,.st [.int .i64 p,.int .i64 rg,bc])]++bs.flatMap UBlk.lg)++bl))++il)∧EnvA R cc x4 x5 x8 n b e2) ?_ ?_
     ·intro Q hn _ _
      have rest:∀(v:Bool) (H2:Heap) (k2:Nat),k1<k2→k2≤k1+40→Kn H H2 [(R.l,R.o k2)] (([(x8,.st [.sl true 2 [],ic,.int .i64 jump,.int .i64 on,.sl true 1 []])]++(([(x4,.st [.int .i64 0,.int .i64 0,.sl true 5 []]),(x5,.st [.int .i64 p,.int .i64 rg,bc])]++bs.flatMap UBlk.lg)++bl))++il)→
        Qad prog Qach Q [(0,.c (.ptr R.l 0)),(3,.c (.pp [cc])),(4,.c (.ptr x4 0)),(5,.c (.ptr x5 0)),(6,.c (.int .i64 n)),(7,.c (.int .i64 b)),(8,.c (.ptr x8 0)),(68,.c (.bool v))] H2:=by
       intro v H2 k2 hk1 hk2 kn
       refine Qe rfl ?_ ?_
       ·intro hc
        have hx8:=kn.l 0 rfl
        refine Qt ?_
        simp only[go_sem,hx8,hicow]
        intro H3 h3
        have kn:=kn.stL 0 rfl h3
        exact hn _ _ ⟨k2,3,hk1,hk2,kn,rfl,rfl,rfl,rfl,rfl,rfl,rfl⟩
       ·intro hc
        refine Qi ?_
        exact hn _ _ ⟨k2,jump,hk1,hk2,kn,rfl,rfl,rfl,rfl,rfl,rfl,rfl⟩
      refine Qa ?_
      simp only[go_sem]
      refine⟨fun _=>Qs (by omega) (by omega),?_⟩
      refine⟨fun hb1=>?_,fun hb1=>?_⟩
      ·refine Qa6 (kn.e 0 rfl) (by omega) fun v H17 hv hu=>?_
       have kn:=kn.callE 0 rfl hu (R.o_ne _)
       simp only[go_sem,Qiz,hb1]
       exact rest _ _ _ (by omega) (by omega) kn
      ·by_cases h1:(n:Int)=1
       ·have hd:=decide_eq_true h1
        have hd2:decide ((b:Int)=n-1)=true:=decide_eq_true (by omega)
        simp only[go_sem,Qiz,hd,hd2,Bool.not_true,cond_true,cond_false]
        exact rest true _ _ (by omega) (by omega) kn
       ·have h2:¬(b:Int)=n-1:=by simpa[h1]using hb1
        simp only[go_sem,Qiz,hb1,h1,h2,decide_false,Bool.not_false,cond_true,cond_false]
        exact rest false _ _ (by omega) (by omega) kn
     rintro e2 H17 ⟨k3,jump,hk5,hk6,kn,l0,l3,l4,l5,l6,l7,l8⟩
     refine Qw6 (fun e2 H2=>∃(k2:Nat) (jump on:Int) (nfl:Bool) (next:List Int),next.length≤2∧k1<k2∧k2≤k1+50∧Kn H H2 [(R.l,R.o k2)] (([(x8,.st [.sl true 2 [],ic,.int .i64 jump,.int .i64 on,.sl nfl 1 (Qb next)])]++(([(x4,.st [.int .i64 0,.int .i64 0,.sl true 5 []]),(x5,.st [.int .i64 p,.int .i64 rg,bc])]++bs.flatMap UBlk.lg)++bl))++il)∧EnvA R cc x4 x5 x8 n b e2) ?_ ?_
     ·intro Q hn _ _
      have hx8:=kn.l 0 rfl
      refine Qa ?_
      simp only[go_sem,hx8,l0,l3,l4,l5,l6,l7,l8,hicow]
      refine Qg ?_
      refine Qa ?_
      simp only[go_sem]
      refine Qe rfl ?_ ?_
      ·intro hc
       refine Qa ?_
       simp only[go_sem,hx8,hicow]
       intro H18 h18
       have kn:=kn.stL 0 rfl h18
       refine Qt ?_
       simp only[go_sem]
       refine Qa75 (kn.e 0 rfl) (by omega) (by omega) (by omega) fun v1 H19 k4 hk7 hk8 hu=>?_
       have kn:=kn.callE 0 rfl hu (R.o_ne _)
       have hx8:=kn.l 0 rfl
       simp only[go_sem,Q4l,hx8,hicow]
       intro H20 h20
       have kn:=kn.stL 0 rfl h20
       exact hn _ _ ⟨k4,jump,0,true,[v1],by simp,by omega,by omega,kn,rfl,rfl,rfl,rfl,rfl,rfl,rfl⟩
      ·intro hc
       refine Qa ?_
       simp only[go_sem]
       refine Qe rfl ?_ ?_
       ·intro hc
        refine Qt ?_
        simp only[go_sem]
        refine Qa75 (kn.e 0 rfl) (by omega) (by omega) (by omega) fun v1 H19 k4 hk7 hk8 hu=>?_
        have kn:=kn.callE 0 rfl hu (R.o_ne _)
        simp only[go_sem,Q4n]
        refine Qa75 (kn.e 0 rfl) (by omega) (by omega) (by omega) fun v2 H20 k5 hk9 hk10 hu=>?_
        have kn:=kn.callE 0 rfl hu (R.o_ne _)
        have hx8:=kn.l 0 rfl
        simp only[go_sem,Q4m,hx8,hicow]
        intro H21 h21
        have kn:=kn.stL 0 rfl h21
        exact hn _ _ ⟨k5,jump,on,true,[v1,v2],by simp,by omega,by omega,kn,rfl,rfl,rfl,rfl,rfl,rfl,rfl⟩
       ·intro hc
        refine Qi ?_
        exact hn _ _ ⟨k3,jump,on,true,[],by simp,by omega,by omega,kn,rfl,rfl,rfl,rfl,rfl,rfl,rfl⟩
     rintro e3 H18 ⟨k4,jump,on,nfl,next,hnx,hk7,hk8,kn,l0,l3,l4,l5,l6,l7,l8⟩
     have hx8:=kn.l 0 rfl
     have hx5:=kn.l 2 rfl
     refine Qt ?_
     simp only[go_sem,hx8,hx5,l0,l3,l4,l5,l6,l7,l8,hicow,hbow]
     obtain⟨o,ho⟩:∃o:UBlk,o=⟨[],.sl true 2 [],[],ds,ic,il,jump,on,nfl,next⟩:=⟨_,rfl⟩
     have hor:[C.sl true 2 [],ic,C.int IntKind.i64 jump,C.int IntKind.i64 on,C.sl nfl 1 (Qb next)]=o.row:=by rw[ho];rfl
     have hol:o.lg=il:=by rw[ho];simp[UBlk.lg]
     have hook:o.ok:=by rw[ho];exact⟨.nil 2,hgi,by simp⟩
     have hosm:o.sm 0:=by rw[ho];exact⟨hnx,by show ds.length≤_;omega,by simp,fun d hd=>by have:=hds d hd;omega,by simp⟩
     rw[hor]
     have kn:=(kn.perm Qbh9).drop
     refine kn.grow (new:=[o.row]) hgr (.mk' _ _ _ _) (by intro r hr;simp only[List.mem_singleton]at hr;subst hr;exact o.noOw hook) (by simp only[List.length_map,List.length_cons,List.length_nil,LIM];omega) fun z H19 kn=>?_
     have kn:Kn H H19 [(R.l,R.o k4)] (([(x4,.st [.int .i64 0,.int .i64 0,.sl true 5 []]),(x5,.st [.int .i64 p,.int .i64 rg,bc])]++(bs++[o]).flatMap UBlk.lg)++[(z,.vec 5 ((bs++[o]).map UBlk.row))]):=by
      simpa[List.flatMap_append,List.append_assoc,hol]using kn
     have hx5:=kn.l 1 rfl
     simp only[go_sem,Q4o,hx5,l0,l3,l4,l5,l6,l7,hbow]
     intro H20 h20
     have kn:=kn.stL 1 rfl h20
     refine Qt ?_
     simp only[go_sem,X.next]
     refine⟨Qs (by omega) (by omega),n-(b+1),by omega,b+1,k4,bs++[o],_,_,rfl,by omega,by simp[hbs],by omega,by omega,fun o' ho'=>?_,.mk _ _ _ (by simp),kn,rfl⟩
     rcases List.mem_append.1 ho' with h|h
     ·exact hok o' h
     ·simp only[List.mem_singleton]at h;subst h;exact⟨hook,hosm⟩
  ·intro hc1
   have hbn:b=n:=by have:¬b<n:=(by simpa using hc1);omega
   have hx4:=kn.l 0 rfl
   have hx5:=kn.l 1 rfl
   refine Q0 ?_
   simp only[go_sem,X.next]
   refine Qa ?_
   simp only[go_sem,hx5,hx4,hbow]
   intro H9 h9
   have kn:=kn.stL 0 rfl h9
   have hx4:=kn.l 0 rfl
   refine Qk ?_
   simp only[go_sem,Q3,Q9,Qa1q,reduceIte,List.mem_singleton,forall_eq,RS.op,hx4,hbow]
   obtain⟨o,ho⟩:∃o:UCode,o=⟨p,rg,bs,bc,bl⟩:=⟨_,rfl⟩
   have hook:o.ok:=by rw[ho];exact⟨hgr,fun b hb=>(hok b hb).1,hp.1,hp.2⟩
   have hosm:o.sm 0:=by rw[ho];exact⟨by show 0<bs.length;omega,by show bs.length≤_;omega,fun b hb=>(hok b hb).2⟩
   have kn:Kn H H9 [(R.l,R.o k1)] ([(x4,.st [.int .i64 p,.int .i64 rg,bc]),(x5,.st [.int .i64 p,.int .i64 rg,bc])]++o.lg):=by
    rw[ho];simpa[UCode.lg,List.append_assoc]using kn
   refine⟨unx H o.lg,.ag o.row,H9.frz (unx H o.lg),?_,Qc8 _ _,hK o _ k1 hk1 (by omega) kn.finK hook hosm⟩
   rw[ho]
   exact FrzL.ag (.cons (Qf rfl) (.cons (Qf rfl) (.cons (.same _ hbow) .nil)))
end Go.AE.Y

namespace Go.AE.Y
open Go.Proofs.Tryz
variable {H:Heap}{K:V→Heap→Prop}
end Go.AE.Y
namespace Go.AE
open Go.AE.Y
open Go.Proofs.Tryz
variable {H:Heap}{K:V→Heap→Prop}
theorem Gr.slc {H0 H:Heap}{E B Lg:List (Nat×Obj)}{sz:Nat}{rows:List (List C)}{c:C}(h:Gr Lg sz rows c)(kn:Kn H0 H E (B++Lg)):Slc H sz rows c:=by
 obtain⟨h1,h2⟩:=h.get kn
 exact⟨h1,h.elemSz,h2,h.lenC⟩
end Go.AE
namespace Go.AE.Y
open Go.Proofs.Tryz
variable {H:Heap}{K:V→Heap→Prop}
end Go.AE.Y
namespace Go.AE
open Go.AE.Y
open Go.Proofs.Tryz
variable {H:Heap}{K:V→Heap→Prop}
theorem Gr.ne {H0 H:Heap}{E B Lg:List (Nat×Obj)}{sz:Nat}{rows:List (List C)}{c:C}{r:Nat}{o:Obj}(h:Gr Lg sz rows c)(kn:Kn H0 H E (B++Lg))(hr:(r,o)∈E):∀l a d n,c=.vsl l a d n→l≠r:=by
 intro l a d n hc hh
 rcases h with ⟨h1,_⟩|⟨y,h1,h2⟩
 ·rw[h1]at hc;simp at hc
 ·rw[h1]at hc
  have hy:y=l:=by injection hc
  have:=kn.loc (y,.vec sz rows) (by rw[h2];simp)
  exact kn.ext (r,o) hr (by rw[←hh,←hy];exact this)
end Go.AE
namespace Go.AE.Y
open Go.Proofs.Tryz
variable {H:Heap}{K:V→Heap→Prop}
end Go.AE.Y
namespace Go.AE
open Go.AE.Y
open Go.Proofs.Tryz
variable {H:Heap}{K:V→Heap→Prop}
theorem Gr.slcM {H0 H:Heap}{E L Lg:List (Nat×Obj)}{sz:Nat}{rows:List (List C)}{c:C}(h:Gr Lg sz rows c)(kn:Kn H0 H E L)(hm:∀p∈Lg,p∈L):Slc H sz rows c:=by
 rcases h with ⟨h1,h2,h3⟩|⟨y,h1,h2⟩
 ·rw[h1,h2];exact .mk' _ _ _ _
 ·have hy:H y=.vec sz rows:=(kn.get (y,.vec sz rows) (List.mem_append_right _ (hm _ (by rw[h2];simp)))).1
  rw[h1];exact⟨by simp[Go.AE.okSl,hy],rfl,by simp[Go.AE.rowsOf,hy],rfl⟩
end Go.AE
namespace Go.AE.Y
open Go.Proofs.Tryz
variable {H:Heap}{K:V→Heap→Prop}
theorem Qbjm {H0 H:Heap}{B cl:List (Nat×Obj)}{R:Rdr}{o:Obj}{us:List UCode}{cc:C}(hg:Gr cl 3 (us.map UCode.row) cc)(kn:Kn H0 H [(R.l,o)] (B++cl))(hu:∀u∈us,u.ok):CRd H R cc (us.map UCode.row):=by
 refine⟨hg.slc kn,hg.isOw,hg.ne kn (o:=o) (by simp),fun i hi=>?_⟩
 rw[List.length_map]at hi
 refine⟨us[i].params,.int .i64 us[i].regs,us[i].bc,by simp[List.getD_eq_getElem?_getD,hi,UCode.row],(hu _ (List.getElem_mem hi)).p0,(hu _ (List.getElem_mem hi)).p1⟩
set_option maxHeartbeats 4000000 in
theorem Qa1e {R:Rdr}{k:Nat}(hH:H R.l=R.o k)(hk:k+10000≤2^40)
  (hK:∀(cs:List CodeD) (H':Heap) (k':Nat),k<k'→k'≤k+10000→Upd H H' [(R.l,R.o k')]→0<cs.length→cs.length≤3→(∀c∈cs,c.sm)→K (.ag [.sl false 3 (Ql cs)]) H') :
  Qp prog Qyj [.c (.ptr R.l 0)] H K:=by
 refine Qz ?_
 refine Qd Qak Qbdk ?_
 refine Qa ?_
 simp only[go_sem]
 intro x2 hx2 H1 h1
 have kn:=(Kn.start1 hH (R.o_ne k)).al hx2 h1
 refine Qa ?_
 simp only[go_sem]
 intro x3 hx3 H2 h2
 have kn:=kn.al hx3 h2
 have hx32:=kn.l 1 rfl
 simp only[go_sem,Qade,hx32]
 intro H3 h3
 have kn:=kn.stL 1 rfl h3
 refine Q6 ?_
 refine Qa ?_
 simp only[go_sem]
 refine Qka (ns:=[1,2,1,3]) (kn.e 0 rfl) (by omega) (by simp) fun i0 H4 hi0 hu=>?_
 have kn:=kn.callE 0 rfl hu (R.o_ne _)
 simp only[go_sem,Qadf]
 obtain⟨i,rfl,hi1,hi3⟩:∃i:Nat,i0=i∧1≤i∧i≤3:=⟨i0.toNat,by simp at hi0;omega⟩
 refine Qh (Qg (Qy (fun m e1 H1=>∃(t k1:Nat) (us:List UCode) (cc:C) (cl:List (Nat×Obj)),m=t∧t+us.length=i∧k<k1∧k1≤k+1+1000 * us.length∧(∀u∈us,u.ok∧u.sm 0)∧Gr cl 3 (us.map UCode.row) cc∧
  Kn H H1 [(R.l,R.o k1)] (([(x2,.st [.sl true 3 []]),(x3,.st [cc])]++us.flatMap UCode.lg)++cl)∧
  e1=[(0,.c (.ptr R.l 0)),(2,.c (.ptr x2 0)),(3,.c (.ptr x3 0)),(4,.c (.int .i64 t))]) i ?_ ?_))
 ·exact⟨i,k+1,[],_,[],rfl,rfl,by omega,by simp,by simp,.nil 3,by simpa using kn,rfl⟩
 ·rintro m e1 H5 ⟨t,k1,us,cc,cl,hm,ht,hk1,hk2,hok,hgr,kn,rfl⟩
  have hcow:=hgr.isOw
  have hx3:=kn.l 1 rfl
  refine Q6 ?_
  refine Qa ?_
  simp only[go_sem]
  refine Qh (Qe rfl ?_ ?_)
  ·intro hc
   have ht0:0<t:=by simpa using hc
   refine Qi ?_
   simp only[go_sem]
   refine Qh (Qg (Qbf ?_))
   simp only[go_sem,hx3,hcow]
   refine Qbcy (kn.e 0 rfl) (by omega) (Qbjm hgr kn fun u hu=>(hok u hu).1) fun o H6 k2 hk3 hk4 kn2 hoo hos=>?_
   have kn:=kn.compE 0 rfl kn2
   have hx3:=kn.l 1 rfl
   simp only[go_sem,Qadh,hx3,hcow,o.len3]
   have kn:=kn.perm Qap7
   refine kn.grow (new:=[o.row]) hgr (.mk' _ _ _ _) (by intro r hr;simp only[List.mem_singleton]at hr;subst hr;exact o.noOw hoo) (by simp only[List.length_map,List.length_cons,List.length_nil,LIM];omega) fun z H7 kn=>?_
   have kn:Kn H H7 [(R.l,R.o k2)] (([(x2,.st [.sl true 3 []]),(x3,.st [cc])]++(us++[o]).flatMap UCode.lg)++[(z,.vec 3 ((us++[o]).map UCode.row))]):=by
    simpa[List.flatMap_append,List.append_assoc]using kn
   have hx3:=kn.l 1 rfl
   simp only[go_sem,Qadg,hx3]
   intro H8 h8
   have kn:=kn.stL 1 rfl h8
   refine Qt ?_
   simp only[go_sem,X.next]
   refine⟨Qs (by omega) (by omega),t-1,by omega,t-1,k2,us++[o],_,_,rfl,by simp;omega,by omega,by simp;omega,fun o' ho'=>?_,.mk _ _ _ (by simp),kn,?_⟩
   ·rcases List.mem_append.1 ho' with h|h
    ·exact hok o' h
    ·simp only[List.mem_singleton]at h;subst h;exact⟨hoo,hos⟩
   ·have:(t:Int)-1=((t-1:Nat):Int):=by omega
    rw[this]
  ·intro hc
   have ht0:t=0:=by have:¬0<t:=(by simpa using hc);omega
   refine Q0 ?_
   simp only[go_sem,X.next]
   refine Q6 ?_
   refine Qa ?_
   simp only[go_sem]
   refine Qka (ns:=[0,0,1,3]) (kn.e 0 rfl) (by omega) (by simp) fun j0 H6 hj0 hu=>?_
   have kn:=kn.callE 0 rfl hu (R.o_ne _)
   simp only[go_sem,Qadi]
   obtain⟨j,rfl,hj3⟩:∃j:Nat,j0=j∧j≤3:=⟨j0.toNat,by simp at hj0;omega⟩
   have hcl:0<us.length:=by omega
   have hcl3:us.length≤3:=by omega
   refine Qh (Qg (Qy (fun m e1 H1=>∃(t k2 N:Nat) (us:List UCode),m=t∧t+N=j∧us.length=i∧k<k2∧k2≤k1+1+200 * N∧(∀u∈us,u.ok∧u.sm N)∧Gr cl 3 (us.map UCode.row) cc∧
    Kn H H1 [(R.l,R.o k2)] (([(x2,.st [.sl true 3 []]),(x3,.st [cc])]++us.flatMap UCode.lg)++cl)∧
    e1=[(0,.c (.ptr R.l 0)),(2,.c (.ptr x2 0)),(3,.c (.ptr x3 0)),(5,.c (.int .i64 t))]) j ?_ ?_))
   ·exact⟨j,k1+1,0,us,rfl,rfl,by omega,by omega,by omega,hok,hgr,kn,rfl⟩
   ·rintro m e1 H7 ⟨t,k2,N,us,hm,ht,hui,hk3,hk4,hok,hgr,kn,rfl⟩
    have hx3:=kn.l 1 rfl
    refine Q6 ?_
    refine Qa ?_
    simp only[go_sem]
    refine Qh (Qe rfl ?_ ?_)
    ·intro hc
     have ht0:0<t:=by simpa using hc
     refine Qi ?_
     simp only[go_sem]
     have hmem:∀p∈cl,p∈(([(x2,.st [.sl true 3 []]),(x3,.st [cc])]++us.flatMap UCode.lg)++cl):=fun p hp=>by simp[hp]
     refine Qw6 (fun e2 H2=>∃(k3:Nat) (us:List UCode),us.length=i∧k<k3∧k3≤k2+200∧(∀u∈us,u.ok∧u.sm (N+1))∧Gr cl 3 (us.map UCode.row) cc∧
      Kn H H2 [(R.l,R.o k3)] (([(x2,.st [.sl true 3 []]),(x3,.st [cc])]++us.flatMap UCode.lg)++cl)∧lk 0 e2=.c (.ptr R.l 0)∧lk 2 e2=.c (.ptr x2 0)∧lk 3 e2=.c (.ptr x3 0)∧lk 5 e2=.c (.int .i64 t)) ?_ ?_
     ·intro Q hn _ _
      have hs:=hgr.slc kn
      have hsok:=eq_true hs.ok
      have hlen:=hs.len
      have hsz:=hs.sz
      rw[List.length_map]at hlen
      refine Qg ?_
      refine Qag ?_
      simp only[go_sem,hx3,hcow,hsok,hlen]
      refine Qa6 (kn.e 0 rfl) (by omega) fun v H8 hv hu=>?_
      have kn:=kn.callE 0 rfl hu (R.o_ne _)
      rw[if_neg (by omega)]at hv
      obtain⟨ci,rfl⟩:=Int.eq_ofNat_of_zero_le hv.1
      have hci:ci<us.length:=by omega
      have hx3:=kn.l 1 rfl
      have hs:=hgr.slc kn
      have hsok:=eq_true hs.ok
      simp only[go_sem,Qadj,hx3,hcow,hsok,hlen,hsz,hci]
      obtain⟨u,hu⟩:∃u,us[ci]=u:=⟨_,rfl⟩
      obtain⟨huok,husm⟩:=hok _ (List.getElem_mem hci)
      rw[hu]at huok husm
      have hrow:(us.map UCode.row).getD ci []=[.int .i64 u.params,.int .i64 u.regs,u.bc]:=by rw[←hu];simp[List.getD_eq_getElem?_getD,hci,UCode.row]
      have hub0:=husm.b0
      have hub1:=husm.b
      obtain⟨yb,hbc,hbl⟩:=UCode.bvec huok hub0
      have hblow:=huok.b.isOw
      have hblen:=huok.b.lenC
      rw[List.length_map]at hblen
      have hrws:=hs.rows
      have hmemb:∀p∈u.bl,p∈(([(x2,.st [.sl true 3 []]),(x3,.st [cc])]++us.flatMap UCode.lg)++cl):=fun p hp=>by
       have:p∈us.flatMap UCode.lg:=List.mem_flatMap.2 ⟨u,by rw[←hu];exact List.getElem_mem hci,List.mem_append_right _ hp⟩
       simp[this]
      have hbok:=eq_true (huok.b.slcM kn hmemb).ok
      refine Qa ?_
      simp only[go_sem,hx3,hcow,hsok,hlen,hsz,hci,hrws,hrow,hblow,hblen,hbok]
      intro _
      refine Qa6 (kn.e 0 rfl) (by omega) fun v H9 hv hu9=>?_
      have kn:=kn.callE 0 rfl hu9 (R.o_ne _)
      rw[if_neg (by omega)]at hv
      obtain⟨bi,rfl⟩:=Int.eq_ofNat_of_zero_le hv.1
      have hbi:bi<u.blocks.length:=by omega
      have hsok:=eq_true (hgr.slcM kn hmem).ok
      have hrws:=(hgr.slcM kn hmem).rows
      simp only[go_sem,Qadk]
      refine Qa ?_
      simp only[go_sem,hcow,hsok,hlen,hsz,hci,hrws,hrow,hblow]
      refine Qa6 (kn.e 0 rfl) (by omega) fun to H10 _ hu10=>?_
      have kn:=kn.callE 0 rfl hu10 (R.o_ne _)
      simp only[go_sem,Q4w]
      intro x8 hx8 H11 h11
      have kn:=kn.al hx8 h11
      have kn:=kn.perm List.perm_append_comm
      have hx8:=kn.l 0 rfl
      simp only[go_sem,Q4v,hx8]
      intro H12 h12
      have kn:Kn H H12 [(R.l,R.o (k2+1+1+1))] ([(x8,.st [.int .i64 to,.sl true 1 []])]++(([(x2,.st [.sl true 3 []]),(x3,.st [cc])]++us.flatMap UCode.lg)++cl)):=kn.stL 0 rfl h12
      have hmem2:∀p∈cl,p∈([(x8,Obj.st [.int .i64 to,.sl true 1 []])]++(([(x2,.st [.sl true 3 []]),(x3,.st [cc])]++us.flatMap UCode.lg)++cl)):=fun p hp=>List.mem_append_right _ (hmem p hp)
      have hsok:=eq_true (hgr.slcM kn hmem2).ok
      have hrws:=(hgr.slcM kn hmem2).rows
      have hbs:=huok.b.slcM kn (fun p hp=>List.mem_append_right _ (hmemb p hp))
      refine Q6 ?_
      refine Qa ?_
      simp only[go_sem,hcow,hsok,hlen,hsz,hci,hrws,hrow,hblow]
      refine Qj5 (rows:=u.blocks.map UBlk.row) (nx:=fun i=>(u.blocks.map UBlk.next).getD i []) hbs hblow (fun i hi=>?_) fun H13 hu13=>?_
      ·rw[List.length_map]at hi
       refine⟨u.blocks[i].pc,u.blocks[i].ic,.int .i64 u.blocks[i].jump,.int .i64 u.blocks[i].on,u.blocks[i].nfl,?_⟩
       simp[List.getD_eq_getElem?_getD,hi,UBlk.row]
      have kn:=kn.call0 hu13
      obtain⟨ps,hps⟩:∃ps,Q1 (fun i=>(u.blocks.map UBlk.next).getD i []) (bi:Int) (u.blocks.map UBlk.row).length=ps:=⟨_,rfl⟩
      have hpsl:ps.length≤160:=by
       have:=Qbq (fun i=>(u.blocks.map UBlk.next).getD i []) (bi:Int) (u.blocks.map UBlk.row).length
       rw[hps,List.length_map]at this;omega
      rw[hps]
      simp only[go_sem,Q4x,Qc]
      intro _
      refine Qh (Qg (Qy (fun m e1 H1=>∃(q:Nat) (ns:List Int) (ac:C) (al:List (Nat×Obj)),m=ps.length-q∧q≤ps.length∧ns.length=q∧Gr al 1 (Qb ns) ac∧
       Kn H H1 [(R.l,R.o (k2+1+1+1+q))] (([(x8,.st [.int .i64 to,ac])]++(([(x2,.st [.sl true 3 []]),(x3,.st [cc])]++us.flatMap UCode.lg)++cl))++al)∧
       e1=[(0,.c (.ptr R.l 0)),(2,.c (.ptr x2 0)),(3,.c (.ptr x3 0)),(5,.c (.int .i64 t)),(6,.c (cc.ep 3 ci 0)),(7,.c (.int .i64 bi)),(8,.c (.ptr x8 0)),(59,.c (.int .i64 ps.length)),(60,.c (.int .i64 q))]) ps.length ?_ ?_))
      ·exact⟨0,[],_,[],by omega,by omega,rfl,.nil 1,by simpa using kn,rfl⟩
      ·rintro m2 e1 H14 ⟨q,ns,ac,al,hm2,hq,hns,hga,kn,rfl⟩
       have hacow:=hga.isOw
       have hx8:=kn.l 0 rfl
       have hmem3:∀p∈cl,p∈(([(x8,Obj.st [.int .i64 to,ac])]++(([(x2,.st [.sl true 3 []]),(x3,.st [cc])]++us.flatMap UCode.lg)++cl))++al):=fun p hp=>List.mem_append_left _ (List.mem_append_right _ (hmem p hp))
       have hsok:=eq_true (hgr.slcM kn hmem3).ok
       have hrws:=(hgr.slcM kn hmem3).rows
       refine Qa ?_
       simp only[go_sem]
       refine Qh (Qe rfl ?_ ?_)
       ·intro hc
        have hlt:q<ps.length:=by simpa using hc
        refine Qi ?_
        simp only[go_sem]
        refine Qh (Qg (Qbf ?_))
        simp only[go_sem,hx8,hacow,hcow,hsok,hlen,hsz,hci,hrws,hrow,hblow]
        refine Qa6 (kn.e 0 rfl) (by omega) fun v H15 _ hu15=>?_
        have kn:=kn.callE 0 rfl hu15 (R.o_ne _)
        have hx8:=kn.l 0 rfl
        simp only[go_sem,Q4z,hx8,hacow]
        refine kn.grow (new:=Qb [v]) hga (.mk' _ _ _ _) (Qo _) (by simp only[Qc,LIM,List.length_cons,List.length_nil];omega) fun y H16 kn=>?_
        have hx8:=kn.l 0 rfl
        simp only[go_sem,Q4y,hx8]
        intro H17 h17
        have kn:=kn.stL 0 rfl h17
        refine Qt ?_
        simp only[go_sem,X.next]
        refine⟨Qs (by omega) (by omega),ps.length-(q+1),by omega,q+1,ns++[v],_,_,rfl,by omega,by simp[hns],?_,kn,rfl⟩
        rw[←Qa2]
        exact .mk _ _ _ (by simp[Qa2,Qc])
       ·intro hc
        have hqp:q=ps.length:=by have:¬q<ps.length:=(by simpa using hc);omega
        refine Q0 ?_
        simp only[go_sem,X.next]
        refine Qa ?_
        simp only[go_sem]
        refine Qe rfl ?_ ?_
        ·intro hc
         obtain⟨blk,hblk⟩:∃blk,u.blocks[bi]=blk:=⟨_,rfl⟩
         have hbok2:=huok.bs _ (List.getElem_mem hbi)
         have hbsm2:=husm.bs _ (List.getElem_mem hbi)
         rw[hblk]at hbok2 hbsm2
         have hbp:=hbsm2.p
         have hbr:(u.blocks.map UBlk.row).getD bi []=[blk.pc,blk.ic,.int .i64 blk.jump,.int .i64 blk.on,.sl blk.nfl 1 (Qb blk.next)]:=by rw[←hblk];simp[List.getD_eq_getElem?_getD,hbi,UBlk.row]
         have hpcow:=hbok2.p.isOw
         have hbl5:(u.blocks.map UBlk.row).length=u.blocks.length:=by simp
         have kn:Kn H H14 [(R.l,R.o (k2+1+1+1+q))] (([(yb,.vec 5 (u.blocks.map UBlk.row))]++([(x8,.st [.int .i64 to,ac])]++([(x2,.st [.sl true 3 []]),(x3,.st [cc])]++(blk.core++(al++(Qaox us ci bi hci++cl))))))++blk.pl):=kn.perm (Qj fun f hf h0 hc1 hp=>by
          have h1:=hp _ _ (Qbft us ci bi hci (by rw[hu];exact hbi))
          subst hu
          rw[hblk,hbl]at h1
          simp only[hf]at h1⊢
          omega)
         have hyb:=kn.l 0 rfl
         have hx8:=kn.l 1 rfl
         have hmem4:∀p∈cl,p∈(([(yb,Obj.vec 5 (u.blocks.map UBlk.row))]++([(x8,Obj.st [.int .i64 to,ac])]++([(x2,Obj.st [.sl true 3 []]),(x3,Obj.st [cc])]++(blk.core++(al++(Qaox us ci bi hci++cl))))))++blk.pl):=fun p hp=>by simp[hp]
         have hsok:=eq_true (hgr.slcM kn hmem4).ok
         have hrws:=(hgr.slcM kn hmem4).rows
         obtain⟨ph,hph⟩:∃ph:UPhi,ph=⟨to,ns,ac,al⟩:=⟨_,rfl⟩
         have hphr:[C.int IntKind.i64 to,ac]=ph.row:=by rw[hph];rfl
         have hphl:ph.al=al:=by rw[hph]
         have hphg:Gr ph.al 1 (Qb ph.ns) ph.ac:=by rw[hph];exact hga
         rw[hbc]at hrow hblow hblen
         have hgp:=hbok2.p
         have htk:List.take u.blocks.length (u.blocks.map UBlk.row)=u.blocks.map UBlk.row:=List.take_of_length_le (by simp)
         refine Qbf ?_
         simp only[go_sem,hx8,hacow,hcow,hsok,hlen,hsz,hci,hrws,hrow,hyb,hbi,hbl5,htk,hbr,hpcow,List.drop_zero,List.take_length,Nat.zero_add]
         rw[hphr]
         refine kn.grow (new:=[ph.row]) hgp (.mk' _ _ _ _) (by intro r hr;simp only[List.mem_singleton]at hr;subst hr;exact ph.noOw hphg) (by simp only[List.length_map,List.length_cons,List.length_nil,LIM];omega) fun z H15 kn=>?_
         have kn:Kn H H15 [(R.l,R.o (k2+1+1+1+q))] ([(yb,.vec 5 (u.blocks.map UBlk.row))]++(([(x8,.st [.int .i64 to,ac])]++([(x2,.st [.sl true 3 []]),(x3,.st [cc])]++(blk.core++(al++(Qaox us ci bi hci++cl)))))++[(z,.vec 2 ((blk.phis++[ph]).map UPhi.row))])):=by
          simpa[List.append_assoc]using kn
         have hyb:=kn.l 0 rfl
         have hmem5:∀p∈cl,p∈([(yb,Obj.vec 5 (u.blocks.map UBlk.row))]++(([(x8,Obj.st [.int .i64 to,ac])]++([(x2,Obj.st [.sl true 3 []]),(x3,Obj.st [cc])]++(blk.core++(al++(Qaox us ci bi hci++cl)))))++[(z,.vec 2 ((blk.phis++[ph]).map UPhi.row))])):=fun p hp=>by simp[hp]
         have hsok:=eq_true (hgr.slcM kn hmem5).ok
         have hrws:=(hgr.slcM kn hmem5).rows
         simp only[go_sem,Q40,hcow,hsok,hlen,hsz,hci,hrws,hrow,hyb,hbi,hbl5,htk,hbr,hpcow,List.drop_zero,Nat.zero_add]
         intro H16 h16
         obtain⟨b',hb'⟩:∃b':UBlk,b'={ blk with phis:=blk.phis++[ph],pc:=.vsl z 2 0 ((blk.phis.map UPhi.row).length+1),pl:=[(z,.vec 2 ((blk.phis++[ph]).map UPhi.row))] }:=⟨_,rfl⟩
         have hbr':[C.vsl z 2 0 ((blk.phis.map UPhi.row).length+1),blk.ic,C.int IntKind.i64 blk.jump,C.int IntKind.i64 blk.on,C.sl blk.nfl 1 (Qb blk.next)]=b'.row:=by rw[hb'];rfl
         have hbset:(u.blocks.map UBlk.row).set bi b'.row=(u.blocks.set bi b').map UBlk.row:=by rw[List.map_set]
         rw[hbr',hbset]at h16
         have kn:=kn.stL 0 rfl h16
         have hbok':b'.ok:=by
          rw[hb']
          refine⟨.mk _ _ _ (by simp),hbok2.i,fun p hp=>?_⟩
          rcases List.mem_append.1 hp with h|h
          ·exact hbok2.a p h
          ·simp only[List.mem_singleton]at h;subst h;exact hphg
         have hbsm':b'.sm (N+1):=by
          rw[hb']
          refine⟨hbsm2.n,hbsm2.i,by simp;omega,hbsm2.ia,fun p hp=>?_⟩
          rcases List.mem_append.1 hp with h|h
          ·exact hbsm2.pa p h
          ·simp only[List.mem_singleton]at h;subst h;rw[hph];show ns.length≤1000;omega
         obtain⟨u',hu'⟩:∃u',u'=u.put bi b' [(yb,.vec 5 ((u.blocks.set bi b').map UBlk.row))]:=⟨_,rfl⟩
         have huok':u'.ok:=by rw[hu'];exact UCode.put_ok huok hbok' hbl
         have husm':u'.sm (N+1):=by rw[hu'];exact UCode.put_sm husm hbsm'
         have hkn:Kn H H16 [(R.l,R.o (k2+1+1+1+q))] ((([(x2,.st [.sl true 3 []]),(x3,.st [cc])]++(us.set ci u').flatMap UCode.lg)++cl)++[(x8,.st [.int .i64 to,ac])]):=kn.perm (Qj fun f hf h0 hc1 hp=>by
          have h1:=hp _ _ (Qbi7 us ci bi hci (by rw[hu];exact hbi) b' [(yb,.vec 5 ((u.blocks.set bi b').map UBlk.row))])
          rw[hu,←hu']at h1
          have h2:b'.core=blk.core++al:=by rw[hb',UBlk.core_snoc,hphl]
          have h3:b'.pl=[(z,.vec 2 ((blk.phis++[ph]).map UPhi.row))]:=by rw[hb']
          rw[h2,h3]at h1
          simp only[List.cons_append,List.nil_append,List.set_cons_zero,hf,hc1 _ (_::_),hc1 _ (_++_)]at h1⊢
          omega)
         refine hn _ _ ⟨k2+1+1+1+q,us.set ci u',by simpa using hui,by omega,by omega,fun v hv=>?_,?_,hkn.drop,rfl,rfl,rfl,rfl⟩
         ·rcases List.mem_or_eq_of_mem_set hv with hv|rfl
          ·exact⟨(hok v hv).1,(hok v hv).2.mono (by omega)⟩
          ·exact⟨huok',husm'⟩
         ·rw[Qbi8 us ci hci u' (by rw[hu',UCode.put_row,hu])];exact hgr
        ·intro hc
         refine Qi ?_
         simp only[go_sem]
         refine hn _ _ ⟨k2+1+1+1+q,us,hui,by omega,by omega,fun u hu=>⟨(hok u hu).1,(hok u hu).2.mono (by omega)⟩,hgr,?_,rfl,rfl,rfl,rfl⟩
         have kn:=kn.drop
         exact (kn.perm List.perm_append_comm).drop
     rintro e2 H8 ⟨k3,us,hui,hk5,hk6,hok,hgr,kn,l0,l2,l3,l5⟩
     refine Qt ?_
     simp only[go_sem,X.next,l0,l2,l3,l5]
     refine⟨Qs (by omega) (by omega),t-1,by omega,t-1,k3,N+1,us,rfl,by omega,hui,hk5,by omega,hok,hgr,kn,?_⟩
     have:(t:Int)-1=((t-1:Nat):Int):=by omega
     rw[this]
    ·intro hc
     refine Q0 ?_
     simp only[go_sem,X.next]
     have hx2:=kn.l 0 rfl
     refine Qa ?_
     simp only[go_sem,hx2,hx3,hcow]
     intro H8 h8
     have kn:=kn.stL 0 rfl h8
     have hx2:=kn.l 0 rfl
     refine Qk ?_
     simp only[go_sem,Q3,Q9,Qa1t,reduceIte,List.mem_singleton,forall_eq,RS.op,hx2,hcow]
     have hheld:Held H8 (un H) (us.flatMap UCode.lg++cl):=fun p hp=>by
      have hp2:p∈(([(x2,Obj.st [cc]),(x3,Obj.st [cc])]++us.flatMap UCode.lg)++cl):=by
       rcases List.mem_append.1 hp with h|h
       ·simp[h]
       ·simp[h]
      exact⟨(kn.get p (List.mem_append_right _ hp2)).1,Qh4 (kn.loc p hp2)⟩
     obtain⟨cs,hf,hcn,hcs⟩:=UCodes.frz (N:=N) (by omega) hgr hok hheld
     exact⟨_,FrzL.ag (.cons hf .nil),hK cs _ k2 hk3 (by omega) kn.fin (by omega) (by omega) hcs⟩
end Go.AE.Y

namespace Go.AE.Y
open Go.Proofs.Tryz
variable {H:Heap}{K:V→Heap→Prop}
end Go.AE.Y
namespace Go.AE
open Go.AE.Y
open Go.Proofs.Tryz
variable {H:Heap}{K:V→Heap→Prop}
theorem Kn.lm {H0 H:Heap}{E L:List (Nat×Obj)}{x:Nat}{o:Obj}(kn:Kn H0 H E L)(h:(x,o)∈L):H x=o:=(kn.get (x,o) (List.mem_append_right _ h)).1
end Go.AE
namespace Go.AE.Y
open Go.Proofs.Tryz
variable {H:Heap}{K:V→Heap→Prop}
set_option maxHeartbeats 4000000 in
theorem Qbcx {R:Rdr}{k:Nat}(hH:H R.l=R.o k)(hk:k+20000≤2^40)
  (hK:∀(cs:List CodeD) (H':Heap) (k':Nat),k<k'→k'≤k+20000→Upd H H' [(R.l,R.o k')]→0<cs.length→cs.length≤3→(∀c∈cs,c.gd)→K (.ag [.sl false 3 (Ql cs)]) H') :
  Qp prog Q8d [.c (.ptr R.l 0)] H K:=by
 refine Qz ?_
 refine Qd Qak Qbdf ?_
 refine Qa ?_
 simp only[go_sem]
 intro x2 hx2 H1 h1
 have kn:=(Kn.start1 hH (R.o_ne k)).al hx2 h1
 refine Qa ?_
 simp only[go_sem]
 refine Qa1e (kn.e 0 rfl) (by omega) fun cs H2 k1 hk1 hk2 hu hcs0 hcs3 hsm=>?_
 have kn:=kn.callE 0 rfl hu (R.o_ne _)
 simp only[go_sem,Qacb]
 refine Qaph hsm (by omega) fun us cc cl H3 k2 hgr hok hul=>?_
 have kn:=kn.comp0 k2
 have hcow:=hgr.isOw
 simp only[go_sem,Qaca,hcow]
 intro x3 hx3 H4 h4
 have kn:=kn.al hx3 h4
 have kn:=kn.perm List.perm_append_comm
 have hx3:=kn.l 0 rfl
 simp only[go_sem,Qab9,hx3,hcow]
 intro H5 h5
 have kn:=kn.stL 0 rfl h5
 have kn:Kn H H5 [(R.l,R.o k1)] (([(x2,.st [.sl true 3 []]),(x3,.st [cc])]++us.flatMap OCode.lg)++cl):=kn.perm (Qj fun f hf h0 hc1 hp=>by
  simp only[List.cons_append,List.nil_append,List.set_cons_zero,hf,hc1 _ (_::_),hc1 _ (_++_),hc1 _ (List.flatMap _ _)]
  omega)
 have hx3:=kn.l 1 rfl
 have hs:=hgr.slc kn
 have hsok:=eq_true hs.ok
 have hlen:=hs.len
 have hsz:=hs.sz
 rw[List.length_map]at hlen
 refine Qag ?_
 simp only[go_sem,hx3,hcow,hsok,hlen]
 refine Qa6 (kn.e 0 rfl) (by omega) fun v H6 hv hu=>?_
 have kn:=kn.callE 0 rfl hu (R.o_ne _)
 rw[if_neg (by omega)]at hv
 obtain⟨ci,rfl⟩:=Int.eq_ofNat_of_zero_le hv.1
 have hci:ci<us.length:=by omega
 have hx3:=kn.l 1 rfl
 have hs:=hgr.slc kn
 have hsok:=eq_true hs.ok
 have hrws:=hs.rows
 simp only[go_sem,Qacc,hx3,hcow,hsok,hlen,hsz,hci]
 obtain⟨u,hu⟩:∃u,us[ci]=u:=⟨_,rfl⟩
 obtain⟨huok,husm⟩:=hok _ (List.getElem_mem hci)
 rw[hu]at huok husm
 have hrow:(us.map OCode.row).getD ci []=[.int .i64 u.params,.int .i64 u.regs,u.bc]:=by rw[←hu];simp[List.getD_eq_getElem?_getD,hci,OCode.row]
 have hub0:=husm.b0
 have hub1:=husm.b
 obtain⟨yb,hbc,hbl⟩:=OCode.bvec huok hub0
 have hblow:(C.vsl yb 5 0 u.blocks.length).isOw=false:=rfl
 have hblen:lenC (C.vsl yb 5 0 u.blocks.length)=u.blocks.length:=rfl
 rw[hbc]at hrow
 have hybm:(yb,Obj.vec 5 (u.blocks.map OBlk.row))∈(([(x2,Obj.st [.sl true 3 []]),(x3,.st [cc])]++us.flatMap OCode.lg)++cl):=by
  have:(yb,Obj.vec 5 (u.blocks.map OBlk.row))∈us.flatMap OCode.lg:=List.mem_flatMap.2 ⟨u,by rw[←hu];exact List.getElem_mem hci,List.mem_append_right _ (by rw[hbl];simp)⟩
  simp[this]
 have hyb:=kn.lm hybm
 have hbl5:(u.blocks.map OBlk.row).length=u.blocks.length:=by simp
 have htk:List.take u.blocks.length (u.blocks.map OBlk.row)=u.blocks.map OBlk.row:=List.take_of_length_le (by simp)
 refine Qag ?_
 simp only[go_sem,hcow,hsok,hlen,hsz,hci,hrws,hrow,hyb,hbl5,Nat.zero_add,Nat.le_refl]
 refine Qa6 (kn.e 0 rfl) (by omega) fun v H7 hv hu7=>?_
 have kn:=kn.callE 0 rfl hu7 (R.o_ne _)
 rw[if_neg (by omega)]at hv
 obtain⟨bi,rfl⟩:=Int.eq_ofNat_of_zero_le hv.1
 have hbi:bi<u.blocks.length:=by omega
 have hs:=hgr.slc kn
 have hsok:=eq_true hs.ok
 have hrws:=hs.rows
 have hyb:=kn.lm hybm
 simp only[go_sem,Qacd,hcow,hsok,hlen,hsz,hci,hrws,hrow,hyb,hbl5,hbi,Nat.zero_add,Nat.le_refl]
 refine Qag ?_
 simp only[go_sem,hcow,hsok,hlen,hsz,hci,hrws,hrow,hyb,hbl5,hbi,Nat.zero_add,Nat.le_refl]
 refine Qka (ns:=[-1,u.regs,u.blocks.length,0,1]) (kn.e 0 rfl) (by omega) (by simp) fun bad H8 _ hu8=>?_
 have kn:=kn.callE 0 rfl hu8 (R.o_ne _)
 simp only[go_sem,Qace]
 refine Q6 ?_
 refine Qa ?_
 simp only[go_sem]
 refine Qa6 (kn.e 0 rfl) (by omega) fun kind H9 _ hu9=>?_
 have kn:=kn.callE 0 rfl hu9 (R.o_ne _)
 refine Qw6 (fun e2 H2=>∃(k3:Nat) (us:List OCode) (cl:List (Nat×Obj)),us.length=cs.length∧k<k3∧k3≤k+20000∧(∀u∈us,u.ok∧u.sm 1001)∧Gr cl 3 (us.map OCode.row) cc∧
   Kn H H2 [(R.l,R.o k3)] (([(x2,.st [.sl true 3 []]),(x3,.st [cc])]++us.flatMap OCode.lg)++cl)∧lk 2 e2=.c (.ptr x2 0)∧lk 3 e2=.c (.ptr x3 0)) ?_ ?_
 ·intro Q hn _ _
  have hull:us.length=cs.length:=hul
  have knO:=kn
  obtain⟨blk,hblk⟩:∃blk,u.blocks[bi]=blk:=⟨_,rfl⟩
  have hbok:=huok.bs _ (List.getElem_mem hbi)
  have hbsm:=husm.bs _ (List.getElem_mem hbi)
  rw[hblk]at hbok hbsm
  have hbr:(u.blocks.map OBlk.row).getD bi []=[blk.pc,blk.ic,.int .i64 blk.jump,.int .i64 blk.on,.vsl blk.nx.y 1 0 blk.nx.ns.length]:=by rw[←hblk];simp[List.getD_eq_getElem?_getD,hbi,OBlk.row,OInts.c]
  have hpcow:=hbok.p.isOw
  have hicow:=hbok.i.isOw
  have kn:=Qa2o kn hci hu hbi hblk hbl
  have hset:∀b':OBlk,(u.blocks.map OBlk.row).set bi b'.row=(u.blocks.set bi b').map OBlk.row:=fun b'=>(List.map_set).symm
  have hdone:∀(b':OBlk) (H2:Heap) (k3:Nat) (e2:Env),b'.ok→b'.sm 1001→k<k3→k3≤k+20000→Kn H H2 [(R.l,R.o k3)] ([(yb,.vec 5 ((u.blocks.set bi b').map OBlk.row))]++(b'.lg++(Qafb us ci bi hci++([(x2,Obj.st [.sl true 3 []]),(x3,.st [cc])]++cl))))→
    lk 2 e2=.c (.ptr x2 0)→lk 3 e2=.c (.ptr x3 0)→Q .nrm e2 H2:=by
   intro b' H2 k3 e2 h1 h2 h3 h4 kn l2 l3
   obtain⟨us',g1,g2,g3,g4⟩:=Qa6t (N:=1000) hci hu hbi hbl hok h1 h2 hgr kn
   exact hn _ _ ⟨k3,us',cl,by omega,h3,h4,g3,g2,g4,l2,l3⟩
  have hsame:∀e2:Env,lk 2 e2=.c (.ptr x2 0)→lk 3 e2=.c (.ptr x3 0)→Q .nrm e2 H9:=fun e2 l2 l3=>
   hn _ _ ⟨_,us,cl,hul,by omega,by omega,fun u hu=>⟨(hok u hu).1,(hok u hu).2.mono (by omega)⟩,hgr,knO,l2,l3⟩
  refine Qg ?_
  refine Qa ?_
  simp only[go_sem]
  have hsok:=eq_true (hgr.slcM kn (fun p hp=>by simp[hp])).ok
  have hrws:=(hgr.slcM kn (fun p hp=>by simp[hp])).rows
  have hyb:=kn.l 0 rfl
  refine Qe rfl ?_ ?_
  ·intro hc
   refine Qt ?_
   simp only[go_sem]
   refine Qa6 (kn.e 0 rfl) (by omega) fun v H10 _ hu10=>?_
   have kn:=kn.callE 0 rfl hu10 (R.o_ne _)
   have hyb:=kn.l 0 rfl
   simp only[go_sem,Qacf,hyb,hbl5,htk,hbi,hbr,hpcow,hicow,Qbr,List.drop_zero,Nat.zero_add,Nat.le_refl]
   intro H11 h11
   have hb':[blk.pc,blk.ic,C.int IntKind.i64 v,C.int IntKind.i64 blk.on,C.vsl blk.nx.y 1 0 blk.nx.ns.length]=({ blk with jump:=v }:OBlk).row:=rfl
   rw[hb',hset]at h11
   exact hdone { blk with jump:=v } _ _ _ ⟨hbok.p,hbok.i,hbok.a⟩ ⟨hbsm.n,hbsm.i,by have:=hbsm.p;show blk.phis.length≤_;omega,fun x hx=>by have:=hbsm.ia x hx;omega⟩ (by omega) (by omega) (kn.stL 0 rfl h11) (by simp[lk]) (by simp[lk])
  intro hc0
  refine Qa ?_
  simp only[go_sem]
  refine Qe rfl ?_ ?_
  ·intro hc
   have hny:H9 blk.nx.y=.vec 1 (Qb blk.nx.ns):=kn.l 1 rfl
   have htk2:List.take blk.nx.ns.length (Qb blk.nx.ns)=Qb blk.nx.ns:=List.take_of_length_le (by simp[Qc])
   refine Qa ?_
   simp only[go_sem,hyb,hbl5,htk,hbi,hbr,hpcow,hicow,Qbr,List.drop_zero,Nat.zero_add,Nat.le_refl,hny,Qc]
   intro _
   refine Qe rfl ?_ ?_
   ·intro hc2
    have hn0:0<blk.nx.ns.length:=by simpa using hc2
    have hg1:=Qm blk.nx.ns 0 hn0
    refine Qt ?_
    simp only[go_sem,hyb,hbl5,htk,hbi,hbr,hpcow,hicow,Qbr,List.drop_zero,Nat.zero_add,Nat.le_refl,hny,hn0,hg1,htk2,Qc]
    refine⟨by omega,fun H11 h11=>?_⟩
    have hs1:(Qb blk.nx.ns).set 0 [C.int IntKind.i64 bad]=Qb (blk.nx.ns.set 0 bad):=by simp[Qb,List.map_set]
    rw[hs1]at h11
    have kn:Kn H H11 [(R.l,R.o (k1+1+1+1+1))] ([(yb,.vec 5 (u.blocks.map OBlk.row))]++(OBlk.lg { blk with nx:=⟨blk.nx.ns.set 0 bad,blk.nx.y⟩ }++(Qafb us ci bi hci++([(x2,Obj.st [.sl true 3 []]),(x3,.st [cc])]++cl)))):=kn.stL 1 rfl h11
    refine hdone { blk with nx:=⟨blk.nx.ns.set 0 bad,blk.nx.y⟩ } _ (k1+1+1+1+1) _ ⟨hbok.p,hbok.i,hbok.a⟩ ⟨by simpa using hbsm.n,hbsm.i,by have:=hbsm.p;show blk.phis.length≤_;omega,fun x hx=>by have:=hbsm.ia x hx;omega⟩ (by omega) (by omega) ?_ (by simp[lk]) (by simp[lk])
    rw[Q7k hbi (by rw[hblk];simp[OBlk.row,OInts.c])]
    exact kn
   ·intro hc2
    refine Qi ?_
    exact hsame _ (by simp[lk]) (by simp[lk])
  intro hc1
  refine Qa ?_
  simp only[go_sem]
  refine Qe rfl ?_ ?_
  ·intro hc
   refine Qt ?_
   simp only[go_sem,hyb,hbl5,htk,hbi,hbr,hpcow,hicow,Qbr,List.drop_zero,Nat.zero_add,Nat.le_refl]
   intro H11 h11
   have hb':[blk.pc,blk.ic,C.int IntKind.i64 blk.jump,C.int IntKind.i64 bad,C.vsl blk.nx.y 1 0 blk.nx.ns.length]=({ blk with on:=bad }:OBlk).row:=rfl
   rw[hb',hset]at h11
   exact hdone { blk with on:=bad } _ _ _ ⟨hbok.p,hbok.i,hbok.a⟩ ⟨hbsm.n,hbsm.i,by have:=hbsm.p;show blk.phis.length≤_;omega,fun x hx=>by have:=hbsm.ia x hx;omega⟩ (by omega) (by omega) (kn.stL 0 rfl h11) (by simp[lk]) (by simp[lk])
  intro hc2
  refine Qa ?_
  simp only[go_sem]
  have hilen:lenC blk.ic=blk.ins.length:=by rw[hbok.i.lenC];simp
  have hiok:okSl H9 blk.ic=True:=eq_true (hbok.i.slcM kn (fun p hp=>by simp[OBlk.lg,hp])).ok
  refine Qe rfl ?_ ?_
  ·intro hc
   refine Qa ?_
   simp only[go_sem,hyb,hbl5,htk,hbi,hbr,hpcow,hicow,Qbr,List.drop_zero,Nat.zero_add,Nat.le_refl,hilen,hiok]
   intro _
   refine Qe rfl ?_ ?_
   ·intro hc2
    have hn0:0<blk.ins.length:=by simpa using hc2
    obtain⟨yi,hic,hil⟩:=OBlk.ivec hbok hn0
    rw[hic]at hbr
    have knI:=Qak9 kn hil
    have hyi:=knI.l 0 rfl
    obtain⟨x,hx⟩:∃x,blk.ins[0]=x:=⟨_,rfl⟩
    have hxr:(blk.ins.map OIns.row).getD 0 []=[.int .i64 x.op,.int .i64 x.to,.vsl x.a.y 1 0 x.a.ns.length,.int .i64 x.n]:=by rw[←hx];simp[List.getD_eq_getElem?_getD,hn0,OIns.row,OInts.c]
    have hil4:(blk.ins.map OIns.row).length=blk.ins.length:=by simp
    have htk4:List.take blk.ins.length (blk.ins.map OIns.row)=blk.ins.map OIns.row:=List.take_of_length_le (by simp)
    have hxa:x.a.ns.length≤1000:=hbsm.ia x (by rw[←hx];exact List.getElem_mem hn0)
    refine Qt ?_
    simp only[go_sem,hyb,hbl5,htk,hbi,hbr,hpcow,hicow,Qbr,List.drop_zero,Nat.zero_add,Nat.le_refl,hyi,hn0,hxr,hil4,htk4]
    refine⟨by omega,fun H12 h12=>?_⟩
    have hr':[C.int IntKind.i64 x.op,C.int IntKind.i64 bad,C.vsl x.a.y 1 0 x.a.ns.length,C.int IntKind.i64 x.n]=({ x with to:=bad }:OIns).row:=rfl
    rw[hr',←List.map_set]at h12
    have knD:=Qa7k (b:=blk) (is:=blk.ins.set 0 { x with to:=bad }) (knI.stL 0 rfl h12) (Q2v hn0 (by rw[hx];rfl))
    refine hdone _ _ (k1+1+1+1+1) _ (OBlk.ins_ok (i:=0) (x':={ x with to:=bad }) hbok hic) (OBlk.ins_sm (i:=0) (x':={ x with to:=bad }) hbsm (by show x.a.ns.length≤_;omega)) (by omega) (by omega) ?_ (by simp[lk]) (by simp[lk])
    rw[Q7k hbi (by rw[hblk];rfl)]
    exact knD
   ·intro hc2
    refine Qi ?_
    exact hsame _ (by simp[lk]) (by simp[lk])
  intro hc3
  refine Qa ?_
  simp only[go_sem]
  refine Qe rfl ?_ ?_
  ·intro hc
   refine Qa ?_
   simp only[go_sem,hyb,hbl5,htk,hbi,hbr,hpcow,hicow,Qbr,List.drop_zero,Nat.zero_add,Nat.le_refl,hilen,hiok]
   intro _
   refine Qe rfl ?_ ?_
   ·intro hc2
    have hn0:0<blk.ins.length:=by simpa using hc2
    obtain⟨yi,hic,hil⟩:=OBlk.ivec hbok hn0
    rw[hic]at hbr
    have knI:=Qak9 kn hil
    have hyi:=knI.l 0 rfl
    obtain⟨x,hx⟩:∃x,blk.ins[0]=x:=⟨_,rfl⟩
    have hxr:(blk.ins.map OIns.row).getD 0 []=[.int .i64 x.op,.int .i64 x.to,.vsl x.a.y 1 0 x.a.ns.length,.int .i64 x.n]:=by rw[←hx];simp[List.getD_eq_getElem?_getD,hn0,OIns.row,OInts.c]
    have hil4:(blk.ins.map OIns.row).length=blk.ins.length:=by simp
    have htk4:List.take blk.ins.length (blk.ins.map OIns.row)=blk.ins.map OIns.row:=List.take_of_length_le (by simp)
    have hxa:x.a.ns.length≤1000:=hbsm.ia x (by rw[←hx];exact List.getElem_mem hn0)
    refine Qbf ?_
    have knA:Kn H H9 [(R.l,R.o (k1+1+1+1+1))] ([(x.a.y,.vec 1 (Qb x.a.ns))]++([(yi,.vec 4 (blk.ins.map OIns.row))]++([(yb,.vec 5 (u.blocks.map OBlk.row))]++(blk.nx.lg++(blk.phis.flatMap OPhi.lg++(blk.pl++((blk.ins.eraseIdx 0).flatMap OIns.lg++(Qafb us ci bi hci++([(x2,Obj.st [.sl true 3 []]),(x3,.st [cc])]++cl))))))))):=knI.perm (Qj fun f hf h0 hc1 hp=>by
     have h1:=hp _ _ (Qi4 OIns.lg blk.ins 0 hn0)
     rw[hx]at h1
     have h2:x.lg=[(x.a.y,.vec 1 (Qb x.a.ns))]:=rfl
     rw[h2]at h1
     simp only[hf]at h1⊢
     omega)
    have hxy:=knA.l 0 rfl
    have htk1:List.take x.a.ns.length (Qb x.a.ns)=Qb x.a.ns:=List.take_of_length_le (by simp[Qc])
    simp only[go_sem,hyb,hbl5,htk,hbi,hbr,hpcow,hicow,Qbr,List.drop_zero,Nat.zero_add,Nat.le_refl,hyi,hn0,hxr,hil4,htk4,hxy,Qc,htk1]
    refine⟨by omega,by simp only[LIM];omega,fun y' hy' H10 h10=>?_⟩
    have knA:=knA.ap 0 rfl hy' h10
    have hyi:=knA.l 1 rfl
    have hyb:=knA.l 2 rfl
    simp only[go_sem,Qacg,hyb,hbl5,htk,hbi,hbr,hpcow,hicow,Qbr,List.drop_zero,Nat.zero_add,Nat.le_refl,hyi,hn0,hxr,hil4,htk4]
    refine⟨by omega,fun H12 h12=>?_⟩
    obtain⟨x',hx'⟩:∃x':OIns,x'={ x with a:=⟨x.a.ns++[bad],y'⟩ }:=⟨_,rfl⟩
    have hr':[C.int IntKind.i64 x.op,C.int IntKind.i64 x.to,C.vsl y' 1 0 (x.a.ns.length+1),C.int IntKind.i64 x.n]=x'.row:=by rw[hx'];simp[OIns.row,OInts.c]
    have hl':x'.lg=[(y',.vec 1 (Qb x.a.ns++[[.int .i64 bad]]))]:=by rw[hx'];simp[OIns.lg,OInts.lg,Qb]
    rw[hr',←List.map_set]at h12
    have knA:=knA.stL 1 rfl h12
    refine hdone _ _ (k1+1+1+1+1) _ (OBlk.ins_ok (i:=0) (x':=x') hbok hic) (OBlk.ins_sm (i:=0) (x':=x') hbsm (by rw[hx'];simp;omega)) (by omega) (by omega) ?_ (by simp[lk]) (by simp[lk])
    rw[Q7k hbi (by rw[hblk];rfl)]
    refine knA.perm (Qj fun f hf h0 hc1 hp=>?_)
    have h1:=hp _ _ (Qgg OIns.lg blk.ins 0 x' hn0)
    rw[hl']at h1
    simp only[OBlk.lg,List.cons_append,List.nil_append,List.set_cons_zero,List.set_cons_succ,hf,hc1 _ (_::_),hc1 _ (_++_),hc1 _ (List.flatMap _ _)]at h1⊢
    omega
   ·intro hc2
    refine Qi ?_
    exact hsame _ (by simp[lk]) (by simp[lk])
  intro hc4
  refine Qa ?_
  simp only[go_sem]
  refine Qe rfl ?_ ?_
  ·intro hc
   refine Qt ?_
   simp only[go_sem,hyb,hbl5,htk,hbi,hbr,hpcow,hicow,Qbr,List.drop_zero,Nat.zero_add,Nat.le_refl]
   have knP:Kn H H9 [(R.l,R.o (k1+1+1+1+1))] (([(yb,.vec 5 (u.blocks.map OBlk.row))]++(blk.nx.lg++(blk.phis.flatMap OPhi.lg++(blk.ins.flatMap OIns.lg++(blk.il++(Qafb us ci bi hci++([(x2,Obj.st [.sl true 3 []]),(x3,.st [cc])]++cl)))))))++blk.pl):=kn.perm (Qj fun f hf h0 hc1 hp=>by
    simp only[OBlk.lg,hf]
    omega)
   obtain⟨ph,hph⟩:∃ph:OPhi,ph=⟨0,[bad],.sl true 1 (Qb [bad]),[]⟩:=⟨_,rfl⟩
   have hphr:[C.int IntKind.i64 0,C.sl true 1 [[C.int IntKind.i64 bad]]]=ph.row:=by rw[hph];rfl
   have hphok:ph.ok:=by rw[hph];exact .inr ⟨true,rfl,rfl⟩
   have hphl:ph.lg=[]:=by rw[hph]
   have hpl:=hbsm.p
   rw[hphr]
   refine knP.grow (new:=[ph.row]) hbok.p (.mk' _ _ _ _) (by intro r hr;simp only[List.mem_singleton]at hr;subst hr;exact ph.noOw hphok) (by simp only[List.length_map,List.length_cons,List.length_nil,LIM];omega) fun z H10 knP=>?_
   have hyb:=knP.l 0 rfl
   simp only[go_sem,Q38,hyb,hbl5,htk,hbi,hbr,hpcow,hicow,Qbr,List.drop_zero,Nat.zero_add,Nat.le_refl]
   intro H11 h11
   obtain⟨b',hb'⟩:∃b':OBlk,b'={ blk with phis:=blk.phis++[ph],pc:=.vsl z 2 0 ((blk.phis.map OPhi.row).length+1),pl:=[(z,.vec 2 ((blk.phis++[ph]).map OPhi.row))] }:=⟨_,rfl⟩
   have hbr':[C.vsl z 2 0 ((blk.phis.map OPhi.row).length+1),blk.ic,C.int IntKind.i64 blk.jump,C.int IntKind.i64 blk.on,C.vsl blk.nx.y 1 0 blk.nx.ns.length]=b'.row:=by rw[hb'];rfl
   rw[hbr',hset]at h11
   have knP:=knP.stL 0 rfl h11
   have hbok':b'.ok:=by
    rw[hb']
    refine⟨.mk _ _ _ (by simp),hbok.i,fun p hp=>?_⟩
    rcases List.mem_append.1 hp with h|h
    ·exact hbok.a p h
    ·simp only[List.mem_singleton]at h;subst h;exact hphok
   have hbsm':b'.sm 1001:=by
    rw[hb']
    exact⟨hbsm.n,hbsm.i,by simp;omega,fun x hx=>by have:=hbsm.ia x hx;omega⟩
   refine hdone b' _ (k1+1+1+1+1) _ hbok' hbsm' (by omega) (by omega) ?_ (by simp[lk]) (by simp[lk])
   have hbl':b'.lg=blk.nx.lg++(blk.phis.flatMap OPhi.lg++([(z,.vec 2 ((blk.phis++[ph]).map OPhi.row))]++(blk.ins.flatMap OIns.lg++blk.il))):=by
    rw[hb'];simp[OBlk.lg,List.flatMap_append,hphl]
   rw[hbl']
   have hmm:blk.phis.map OPhi.row++[ph.row]=(blk.phis++[ph]).map OPhi.row:=by simp
   rw[hmm]at knP
   refine knP.perm (Qj fun f hf h0 hc1 hp=>?_)
   simp only[List.cons_append,List.nil_append,List.set_cons_zero,List.set_cons_succ,hf,hc1 _ (_::_),hc1 _ (_++_),hc1 _ (List.flatMap _ _)]
   omega
  intro hc5
  refine Qa ?_
  simp only[go_sem]
  refine Qe rfl ?_ ?_
  ·intro hc
   refine Qbf ?_
   simp only[go_sem,hcow,hsok,hlen,hsz,hci,hrws,hrow]
   refine Qa6 (kn.e 0 rfl) (by omega) fun v H10 hv hu10=>?_
   have knO:=knO.callE 0 rfl hu10 (R.o_ne _)
   obtain⟨yc,hcc,hcl⟩:∃yc,cc=.vsl yc 3 0 us.length∧cl=[(yc,.vec 3 (us.map OCode.row))]:=by
    rcases hgr with ⟨h1,h2,h3⟩|⟨y,h1,h2⟩
    ·rw[List.map_eq_nil_iff]at h2;rw[h2]at hci;simp at hci
    ·exact⟨y,by rw[h1];simp,h2⟩
   have hyc:H10 yc=.vec 3 (us.map OCode.row):=knO.lm (by rw[hcl];simp)
   have hul3:(us.map OCode.row).length=us.length:=by simp
   have htk3:List.take us.length (us.map OCode.row)=us.map OCode.row:=List.take_of_length_le (by simp)
   have hbcow:=huok.b.isOw
   simp only[go_sem,Q39,hcc,hyc,hul3,htk3,hci,hrow,Qbr,List.drop_zero,Nat.zero_add,Nat.le_refl]
   have hp0:=husm.p0
   have hp1:=husm.p1
   rw[if_neg (by omega)]at hv
   refine⟨Qs (by omega) (by omega),fun H11 h11=>?_⟩
   obtain⟨u',hu'⟩:∃u':OCode,u'={ u with regs:=u.params+v }:=⟨_,rfl⟩
   have hur:[C.int IntKind.i64 u.params,C.int IntKind.i64 (u.params+v),C.vsl yb 5 0 u.blocks.length]=u'.row:=by rw[hu',←hbc];rfl
   have hul':u'.lg=u.lg:=by rw[hu'];rfl
   have huok':u'.ok:=by rw[hu'];exact⟨huok.b,huok.bs⟩
   have husm':u'.sm 1000:=by rw[hu'];exact⟨husm.b0,husm.b,husm.bs,husm.p0,husm.p1⟩
   rw[hur,←List.map_set]at h11
   have knF:Kn H H10 [(R.l,R.o (k1+1+1+1+1+1))] ([(yc,.vec 3 (us.map OCode.row))]++([(x2,Obj.st [.sl true 3 []]),(x3,.st [cc])]++us.flatMap OCode.lg)):=by
    rw[hcl]at knO
    exact knO.perm List.perm_append_comm
   have knF:=knF.stL 0 rfl h11
   refine hn _ _ ⟨k1+1+1+1+1+1,us.set ci u',[(yc,.vec 3 ((us.set ci u').map OCode.row))],by simpa using hul,by omega,by omega,fun w hw=>?_,?_,?_,by simp[lk],by simp[lk]⟩
   ·rcases List.mem_or_eq_of_mem_set hw with hw|rfl
    ·exact⟨(hok w hw).1,(hok w hw).2.mono (by omega)⟩
    ·exact⟨huok',husm'.mono (by omega)⟩
   ·rw[hcc];exact .mk _ _ _ (by simp)
   ·refine knF.perm (Qj fun f hf h0 hc1 hp=>?_)
    have h1:=hp _ _ (Qgg OCode.lg us ci u' hci)
    have h2:=hp _ _ (Qi4 OCode.lg us ci hci)
    rw[hul']at h1
    rw[hu]at h2
    simp only[List.cons_append,List.nil_append,List.set_cons_zero,hf,hc1 _ (_::_),hc1 _ (_++_),hc1 _ (List.flatMap _ _)]at h1 h2⊢
    omega
  intro hc6
  refine Qa ?_
  simp only[go_sem]
  refine Qe rfl ?_ ?_
  ·intro hc
   refine Qa ?_
   simp only[go_sem,hyb,hbl5,htk,hbi,hbr,hpcow,hicow,Qbr,List.drop_zero,Nat.zero_add,Nat.le_refl,hilen,hiok]
   intro _
   refine Qe rfl ?_ ?_
   ·intro hc2
    have hn0:0<blk.ins.length:=by simpa using hc2
    obtain⟨yi,hic,hil⟩:=OBlk.ivec hbok hn0
    rw[hic]at hbr
    have knI:=Qak9 kn hil
    have hyi:=knI.l 0 rfl
    obtain⟨x,hx⟩:∃x,blk.ins[0]=x:=⟨_,rfl⟩
    have hxr:(blk.ins.map OIns.row).getD 0 []=[.int .i64 x.op,.int .i64 x.to,.vsl x.a.y 1 0 x.a.ns.length,.int .i64 x.n]:=by rw[←hx];simp[List.getD_eq_getElem?_getD,hn0,OIns.row,OInts.c]
    have hil4:(blk.ins.map OIns.row).length=blk.ins.length:=by simp
    have htk4:List.take blk.ins.length (blk.ins.map OIns.row)=blk.ins.map OIns.row:=List.take_of_length_le (by simp)
    have hxa:x.a.ns.length≤1000:=hbsm.ia x (by rw[←hx];exact List.getElem_mem hn0)
    refine Qbf ?_
    simp only[go_sem,hyb,hbl5,htk,hbi,hbr,hpcow,hicow,Qbr,List.drop_zero,Nat.zero_add,Nat.le_refl,hyi,hn0,hxr,hil4,htk4]
    refine Qka (ns:=[256,-1,1]) (knI.e 0 rfl) (by omega) (by simp) fun v H10 hv hu10=>?_
    have knI:=knI.callE 0 rfl hu10 (R.o_ne _)
    have hyi:=knI.l 0 rfl
    have hyb:=knI.l 1 rfl
    simp only[go_sem,Q4a,hyb,hbl5,htk,hbi,hbr,hpcow,hicow,Qbr,List.drop_zero,Nat.zero_add,Nat.le_refl,hyi,hn0,hxr,hil4,htk4]
    refine⟨by omega,fun H12 h12=>?_⟩
    have hr':[C.int IntKind.i64 x.op,C.int IntKind.i64 x.to,C.vsl x.a.y 1 0 x.a.ns.length,C.int IntKind.i64 v]=({ x with n:=v }:OIns).row:=rfl
    rw[hr',←List.map_set]at h12
    have knD:=Qa7k (b:=blk) (is:=blk.ins.set 0 { x with n:=v }) (knI.stL 0 rfl h12) (Q2v hn0 (by rw[hx];rfl))
    refine hdone _ _ (k1+1+1+1+1+1) _ (OBlk.ins_ok (i:=0) (x':={ x with n:=v }) hbok hic) (OBlk.ins_sm (i:=0) (x':={ x with n:=v }) hbsm (by show x.a.ns.length≤_;omega)) (by omega) (by omega) ?_ (by simp[lk]) (by simp[lk])
    rw[Q7k hbi (by rw[hblk];rfl)]
    exact knD
   ·intro hc2
    refine Qi ?_
    exact hsame _ (by simp[lk]) (by simp[lk])
  ·intro hc
   refine Qi ?_
   exact hsame _ (by simp[lk]) (by simp[lk])
 ·rintro e2 H10 ⟨k3,us,cl,hul,hk3,hk4,hok,hgr,kn,l2,l3⟩
  have hx2:=kn.l 0 rfl
  have hx3:=kn.l 1 rfl
  refine Qa ?_
  simp only[go_sem,hx2,hx3,hcow,l2,l3]
  intro H8 h8
  have kn:=kn.stL 0 rfl h8
  have hx2:=kn.l 0 rfl
  refine Qk ?_
  simp only[go_sem,Q3,Q9,Qa1p,reduceIte,List.mem_singleton,forall_eq,RS.op,hx2,hcow]
  have hheld:Held H8 (un H) (us.flatMap OCode.lg++cl):=fun p hp=>by
   have hp2:p∈(([(x2,Obj.st [cc]),(x3,Obj.st [cc])]++us.flatMap OCode.lg)++cl):=by
    rcases List.mem_append.1 hp with h|h
    ·simp[h]
    ·simp[h]
   exact⟨(kn.get p (List.mem_append_right _ hp2)).1,Qh4 (kn.loc p hp2)⟩
  obtain⟨cs,hf,hcn,hcs⟩:=OCodes.frz (N:=1001) (by omega) hgr hok hheld
  exact⟨_,FrzL.ag (.cons hf .nil),hK cs _ k3 hk3 (by omega) kn.fin (by omega) (by omega) hcs⟩
end Go.AE.Y

namespace Go.AE.Y
open Go.Proofs.Tryz
theorem Qala {R : Rdr} {fl : Bool} {ss : List (List UInt8)} : ∀ (d : Nat) {k : Nat} {H : Heap} {K : V → Heap → Prop} (deep : Int), deep ≤ d → H R.l = R.o k → k + 6 * 2^d ≤ 2^40 →
    (∀ (x : Ex) (H' : Heap) (k' : Nat), k < k' → k' + 3 ≤ k + 6 * 2^d → Upd H H' [(R.l, R.o k')] → x.ok → k + x.size ≤ k' → K (.ag x.cells) H') →
    Qp prog Qfa [.c (.ptr R.l 0), .c (.sl fl 1 (Qbd ss)), .c (.int .i64 deep)] H K := by
  intro d
  induction d using Nat.strongRecOn with
  | ind d ih =>
  intro k H K deep hd hH hk hK
  have hp1 : 1 ≤ 2^d := Nat.one_le_two_pow
  have hp0 : d < 2^d := Nat.lt_two_pow_self
  refine Qz ?_
  refine Qd Qak Qbc6 ?_
  refine Qa ?_
  simp only [go_sem]
  intro x hx H1 h1
  have kn := (Kn.start1 hH (R.o_ne k)).al hx h1
  refine Q6 ?_
  refine Qa ?_
  simp only [go_sem]
  have rest : ∀ (b : Bool) (H2 : Heap) (k2 : Nat), k ≤ k2 → k2 ≤ k + 1 → Kn H H2 [(R.l, R.o k2)] [(x, .st [.int .i64 0, .int .i64 0, .str [], .sl true 4 []])] → (b = false → 2 ≤ deep) →
      Qad prog (s_l2Expr_2.seq Qaal) (Q3 Q7r (unK H K))
       [(0, V.c (C.ptr R.l 0)), (1, V.c (C.sl fl 1 (Qbd ss))), (2, .c (.int .i64 deep)), (6, V.c (C.ptr x 0)), (14, V.c (.bool b))] H2 := by
    intro b H2 k2 hk1 hk2 kn hb
    have fin : ∀ (op n : Int) (name : List UInt8) (fl : Bool) (kids : List Ex) (H3 : Heap) (k3 : Nat) (o : Obj), k < k3 → k3 + 3 ≤ k + 6 * 2^d → Kn H H3 [(R.l, R.o k3)] [(x, .st [.int .i64 op, .int .i64 n, .str name, .sl fl 4 (Qbk kids)])] →
        (op = 10 → kids.length = 2) → Qdq kids → k + 1 + Qac kids ≤ k3 →
        Q9 Q7r [(6, V.c (C.ptr x 0))] H3 (unK H K) := by
      intro op n name fl kids H3 k3 o g1 g2 kn g3 g4 g5
      have hx3 := kn.l 0 rfl
      simp only [go_sem, Q9, Q7r, reduceIte, List.mem_singleton, forall_eq, RS.op, hx3]
      refine ⟨_, (Ex.mk op n name kids).frz, hK _ _ k3 g1 g2 kn.fin ?_ ?_⟩
      · simp only [Ex.ok]; exact ⟨g3, g4⟩
      · simp only [Ex.size]; omega
    refine Qh (Qe rfl ?_ ?_)
    · intro hb'
      refine Qa ?_
      simp only [go_sem]
      refine Qbcu (kn.e 0 rfl) (by omega) fun y H3 k3 g1 g2 hu hok hsz => ?_
      have kn := kn.callE 0 rfl hu (R.o_ne _)
      have hx3 := kn.l 0 rfl
      simp only [go_sem, Qaam, hx3, y.cells_eq]
      intro H4 h4
      have kn := kn.stL 0 rfl h4
      refine Qk ?_
      simp only [go_sem, Q3]
      refine fin _ _ _ _ _ _ k3 .none (by omega) (by omega) kn (Ex.ok_and hok) (Ex.ok_kids hok) ?_
      have := y.size_kids; omega
    · intro hb'
      have hdp := hb hb'
      have hp : 2^d = 2 * 2^(d-1) := by rw [← Nat.pow_succ']; congr 1; omega
      have hp2 : 1 ≤ 2^(d-1) := Nat.one_le_two_pow
      have ihd := fun {k H K} => @ih (d-1) (by omega) k H K
      generalize 2^(d-1) = e at *
      refine Qi ?_
      simp only [go_sem]
      refine Q6 ?_
      refine Qa ?_
      simp only [go_sem]
      refine Qa6 (kn.e 0 rfl) (by omega) fun v H3 hv hu => ?_
      have kn := kn.callE 0 rfl hu (R.o_ne _)
      simp only [go_sem, Qaan]
      refine Qh (Qe rfl ?_ ?_)
      · intro hc
        refine Qa ?_
        simp only [go_sem]
        refine Qka (ns := [11, 12, 11]) (kn.e 0 rfl) (by omega) (by simp) fun op H4 hop hu => ?_
        have kn := kn.callE 0 rfl hu (R.o_ne _)
        simp only [go_sem, Qaap]
        refine ⟨Qs (by omega) (by omega), ?_⟩
        refine ihd (deep - 1) (by omega) (kn.e 0 rfl) (by omega) fun y H5 k5 g1 g2 hu hok hsz => ?_
        have kn := kn.callE 0 rfl hu (R.o_ne _)
        have hx5 := kn.l 0 rfl
        simp only [go_sem, Qaao, hx5, y.cells_len]
        intro H6 h6
        have kn := kn.stL 0 rfl h6
        refine Qk ?_
        simp only [go_sem, Q3]
        refine fin op 0 [] true [y] _ k5 .none (by omega) (by omega) kn (fun h => ?_) ⟨hok, trivial⟩ ?_
        · subst h; simp at hop
        · simp only [Qac]; omega
      · intro hc
        refine Qi ?_
        simp only [go_sem]
        refine Qa ?_
        simp only [go_sem]
        refine Qka (ns := [3, 3, 4, 5, 6, 7, 8, 9, 10]) (kn.e 0 rfl) (by omega) (by simp) fun op H4 hop hu => ?_
        have kn := kn.callE 0 rfl hu (R.o_ne _)
        simp only [go_sem, Qaaq]
        refine Qa ?_
        simp only [go_sem]
        refine ⟨Qs (by omega) (by omega), ?_⟩
        refine ihd (deep - 1) (by omega) (kn.e 0 rfl) (by omega) fun y H5 k5 g1 g2 hu hok hsz => ?_
        have kn := kn.callE 0 rfl hu (R.o_ne _)
        simp only [go_sem, Qaas]
        refine ⟨Qs (by omega) (by omega), ?_⟩
        refine ihd (deep - 1) (by omega) (kn.e 0 rfl) (by omega) fun z H6 k6 g3 g4 hu hok2 hsz2 => ?_
        have kn := kn.callE 0 rfl hu (R.o_ne _)
        have hx5 := kn.l 0 rfl
        simp only [go_sem, Qaar, hx5, y.cells_len, z.cells_len]
        intro H7 h7
        have kn := kn.stL 0 rfl h7
        refine Qk ?_
        simp only [go_sem, Q3]
        refine fin op 0 [] true [y, z] _ k6 .none (by omega) (by omega) kn (fun h => rfl) ⟨hok, hok2, trivial⟩ ?_
        simp only [Qac]; omega
  refine ⟨fun hb => ?_, fun hb => ?_⟩
  · refine Qa6 (kn.e 0 rfl) (by omega) fun v H2 hv hu => ?_
    have kn := kn.callE 0 rfl hu (R.o_ne _)
    simp only [go_sem, Qxy]
    refine rest _ H2 (k + 1) (by omega) (by omega) kn ?_
    intro h
    have : ¬ deep < 2 := by simpa using hb
    omega
  · have hb2 : decide (deep < 2) = true := by simpa using hb
    simp only [go_sem, Qxy, hb2]
    exact rest true H1 k (by omega) (by omega) kn (fun h => by simp at h)
end Go.AE.Y

namespace Go.AE.Y
open Go.Proofs.Tryz
theorem Qalb {R:Rdr}{gl k:Nat}{s:GS}{H:Heap}{K:V→Heap→Prop}(hR:H R.l=R.o k)(hG:H gl=s.o R)(hne:R.l≠gl)(hs:s.ok k)(hk:k+2≤2^30)
  (hK:∀(name:List UInt8) (H':Heap) (k':Nat),k+1≤k'→k'≤k+2→Upd H H' [(R.l,R.o k'),(gl,GS.o { s with next:=s.next+1 } R)]→K (.c (.str name)) H') :
  Qp prog Qi8 [.c (.ptr gl 0)] H K:=by
 have h0:=hs.n0
 have h1':=hs.n1
 refine Qz ?_
 refine Qd Qak Qalo ?_
 refine Qa ?_
 simp only[go_sem]
 refine Qa ?_
 simp only[go_sem,hG,GS.o]
 refine⟨Qs (by omega) (by omega),fun H1 h1=>?_⟩
 have kn:Kn H H1 [(R.l,R.o k),(gl,GS.o { s with next:=s.next+1 } R)] []:=(Kn.start2 hR (R.o_ne k) hG (s.o_ne R) hne).stE 1 rfl h1
 have hG1:=kn.e 1 rfl
 refine Q6 ?_
 refine Qa ?_
 simp only[go_sem,hG1,GS.o]
 refine Qa6 (kn.e 0 rfl) (by omega) fun v H2 hv hu=>?_
 have kn:=kn.callE 0 rfl hu (R.o_ne _)
 have hG2:=kn.e 1 rfl
 simp only[go_sem,Qnj,hG2,GS.o]
 intro hl
 refine Qh (Qe rfl ?_ ?_)
 ·intro hc
  have hv0:0<s.vars.length:=by
   rw[Qam]at hc
   cases h:decide (v=0) <;> rw[h]at hc <;> simp_all
  refine Qag ?_
  simp only[go_sem,hG2,GS.o]
  refine of_c (kn.e 0 rfl) (by omega) hv0 fun name H3 hn hu=>?_
  have kn:=kn.callE 0 rfl hu (R.o_ne _)
  simp only[go_sem,Qnk]
  refine Qk ?_
  simp only[go_sem,Q3,Q9,Ql2,reduceIte,List.mem_singleton,forall_eq,RS.op]
  exact⟨_,.c _ _ (Qf rfl),hK _ _ (k+1+1) (by omega) (by omega) kn.fin⟩
 ·intro hc
  refine Qi ?_
  simp only[go_sem]
  refine Qag ?_
  have e1:0≤(s.next+1).tmod 24:=Int.tmod_nonneg _ (by omega)
  have e2:(s.next+1).tmod 24<24:=Int.tmod_lt_of_pos _ (by omega)
  simp only[go_sem,hG2,GS.o]
  refine⟨by omega,by omega,Qs (by omega) (by omega),by omega,?_⟩
  refine Qk ?_
  simp only[go_sem,Q3,Q9,Ql2,reduceIte,List.mem_singleton,forall_eq,RS.op]
  exact⟨_,.c _ _ (Qf rfl),hK _ _ (k+1) (by omega) (by omega) kn.fin⟩
theorem Q8k {R:Rdr}{gl k:Nat}{s:GS}{x:Ex}{fl:Bool}{H:Heap}{K:V→Heap→Prop}(hR:H R.l=R.o k)(hG:H gl=s.o R)(hne:R.l≠gl)(hs:s.ok k)(hk:k+2≤2^30)
  (hK:∀(name:List UInt8) (H':Heap) (k':Nat),k+1≤k'→k'≤k+2→Upd H H' [(R.l,R.o k'),(gl,GS.o { s with next:=s.next+1,vars:=s.vars++[name],vfl:=false } R)]→K (.ag (St.mk 1 name [x] [] []).cells) H') :
  Qp prog Qie [.c (.ptr gl 0),.ag [.int .i64 x.op,.int .i64 x.n,.str x.name,.sl fl 4 (Qbk x.kids)]] H K:=by
 have hv:=hs.v
 refine Qdo ?_
 refine Qd Qak Qavj ?_
 refine Qa ?_
 simp only[go_sem,x.cells_eq]
 intro y hy H1 h1
 have kn:=(Kn.start2 hR (R.o_ne k) hG (s.o_ne R) hne).al hy h1
 refine Qa ?_
 simp only[go_sem]
 refine Qalb (kn.e 0 rfl) (kn.e 1 rfl) hne hs hk fun name H2 k' g1 g2 hu=>?_
 have kn:=kn.callEE 0 1 rfl rfl (by decide) hu (R.o_ne _) (GS.o_ne _ _)
 have hG2:=kn.e 1 rfl
 simp only[go_sem,Qws]
 refine Qa ?_
 have hL:s.vars.length≤LIM:=by simp only[LIM];omega
 have hL1:s.vars.length+1≤LIM:=by simp only[LIM];omega
 simp only[go_sem,hG2,GS.o,Qam,Qakv,Nat.zero_add,List.nil_append,hL]
 refine⟨.inl trivial,Qmt _,?_⟩
 intro z hz H3 h3
 have kn:=kn.al hz h3
 have hz3:=kn.l 1 rfl
 have hG3:=kn.e 1 rfl
 simp only[go_sem,Qwu,hz3,hG3,GS.o,Qam,Qa0n,hL1,List.take_length,List.take_of_length_le]
 refine⟨by omega,fun z' hz' H4 h4=>?_⟩
 have kn:=kn.ap 1 rfl hz' h4
 have hG4:=kn.e 1 rfl
 simp only[go_sem,Qwt,hG4,GS.o]
 intro H5 h5
 have kn:=kn.stE 1 rfl h5
 have hy5:=kn.l 0 rfl
 refine Qa ?_
 simp only[go_sem,hy5]
 intro H6 h6
 have kn:=kn.stL 0 rfl h6
 have hy6:=kn.l 0 rfl
 refine Qk ?_
 simp only[go_sem,Q3,Q9,Q9g,reduceIte,List.mem_singleton,forall_eq,RS.op,hy6]
 refine⟨un H,(.ag (St.mk 1 name [x] [] []).cells),(H6.frz (un H)).set gl (GS.o { s with next:=s.next+1,vars:=s.vars++[name],vfl:=false } R),?_,?_,hK name _ k' g1 g2 (kn.fin.set2 hne)⟩
 ·simp only[St.cells,Qbk,Qau,x.cells_eq]
  exact (FrzL.cons (Qf rfl) (.cons (Qf rfl) (.cons (FrzR.cons (.cons (Qf rfl) (.cons (Qf rfl) (.cons (Qf rfl) (.cons (FrzR.same (Qjy _)).sl .nil)))) .nil).sl (.cons (FrzR.nil).sl (.cons (FrzR.nil).sl .nil))))).ag
 ·refine (Qc8 _ _).set (Qa0r (kn.usedE 1 rfl)) ?_
  rw[kn.e 1 rfl]
  refine FrzKL.st (.same (.same (.cons rfl ?_ (.same (.same .nil)))))
  exact Qak8 (kn.un 1 rfl) (kn.l 1 rfl) (by simp[Qbd]) (noOw_mem (Qmt _))
end Go.AE.Y

namespace Go.AE.Y
open Go.Proofs.Tryz
theorem Qby {R : Rdr} {gl k : Nat} {s : GS} {H : Heap} {K : V → Heap → Prop} (deep : Int) (hd : deep ≤ 3) (hR : H R.l = R.o k) (hG : H gl = s.o R) (hne : R.l ≠ gl) (hs : s.ok k) (hF : FnsOk H R gl s) (hk : k + 200 ≤ 2^30)
    (hK : ∀ (x : Ex) (H' : Heap) (k' : Nat), k < k' → k' ≤ k + 200 → Upd H H' [(R.l, R.o k')] → x.ok → k + x.size ≤ k' → K (.ag x.cells) H') :
    Qp prog Qa3 [.c (.ptr gl 0), .c (.int .i64 deep)] H K := by
  have hfl := hs.fn
  refine Qz ?_
  refine Qd Qak Qapt ?_
  refine Qa ?_
  simp only [go_sem]
  intro x4 hx4 H1 h1
  have kn := (Kn.start2 hR (R.o_ne k) hG (s.o_ne R) hne).al hx4 h1
  have hG1 := kn.e 1 rfl
  refine Qag ?_
  simp only [go_sem, hG1, GS.o]
  refine Qala 3 deep (by omega) (kn.e 0 rfl) (by omega) fun e H2 k2 g1 g2 hu heok hesz => ?_
  have kn := kn.callE 0 rfl hu (R.o_ne _)
  have hG2 := kn.e 1 rfl
  simp only [go_sem, Qsn]
  intro x5 hx5 H3 h3
  have kn := kn.al hx5 h3
  have hG3 := kn.e 1 rfl
  have hx53 := kn.l 1 rfl
  simp only [go_sem, Qsm, hG3, hx53, GS.o, e.cells_len, e.cells_eq]
  intro H4 h4
  have kn := kn.stL 1 rfl h4
  have hG4 := kn.e 1 rfl
  refine Q6 ?_
  refine Qa ?_
  simp only [go_sem, hG4, GS.o, hF.ow, hF.ok kn, hF.len]
  intro hl
  have fin : ∀ (op n : Int) (name : List UInt8) (c : C) (kids : List Ex) (H3 : Heap) (k3 : Nat) (L : List (Nat × Obj)), k < k3 → k3 ≤ k + 200 → Kn H H3 [(R.l, R.o k3), (gl, s.o R)] L →
      L[0]? = some (x4, .st [.int .i64 op, .int .i64 n, .str name, c]) → c.isOw = false → FrzC H3 (un H) c (.sl false 4 (Qbk kids)) → (Ex.mk op n name kids).ok → k + (Ex.mk op n name kids).size ≤ k3 →
      Q9 Qim [(4, V.c (C.ptr x4 0))] H3 (unK H K) := by
    intro op n name c kids H3 k3 L g1 g2 kn g3 hno g4 g5 g6
    have hx3 := kn.l 0 g3
    simp only [go_sem, Q9, Qim, reduceIte, List.mem_singleton, forall_eq, RS.op, hx3, hno]
    refine ⟨(.ag (Ex.mk op n name kids).cells), ?_, hK _ _ k3 g1 g2 (kn.fin.drop2 hG) g5 g6⟩
    rw [Ex.cells_eq]
    exact (FrzL.cons (Qf rfl) (.cons (Qf rfl) (.cons (Qf rfl) (.cons g4 .nil)))).ag
  have rest : ∀ (b : Bool) (H2 : Heap) (k3 : Nat), k2 ≤ k3 → k3 ≤ k2 + 1 → Kn H H2 [(R.l, R.o k3), (gl, s.o R)] [(x4, .st [.int .i64 0, .int .i64 0, .str [], .sl true 4 []]), (x5, .st [.int .i64 e.op, .int .i64 e.n, .str e.name, .sl false 4 (Qbk e.kids)])] →
      (b = false → 0 < s.fns.length) →
      Qad prog (s_l3Gen_expr_3.seq Qsl) (Q3 Qim (unK H K))
       [(0, V.c (C.ptr gl 0)), (4, V.c (C.ptr x4 0)), (5, V.c (C.ptr x5 0)), (32, .c (.bool b))] H2 := by
    intro b H2 k3 g3 g4 kn hb
    have hx52 := kn.l 1 rfl
    have hx42 := kn.l 0 rfl
    refine Qh (Qe rfl ?_ ?_)
    · intro hb'
      refine Qa ?_
      simp only [go_sem, hx52, hx42]
      intro H3 h3
      have kn := kn.stL 0 rfl h3
      refine Qk ?_
      simp only [go_sem, Q3]
      cases e with
      | mk op n name kids => exact fin op n name _ kids H3 k3 _ (by omega) (by omega) kn rfl rfl (Qau6 (noOw_mem (Qjy _))) heok (by omega)
    · intro hb'
      have hfn := hb hb'
      refine Qi ?_
      simp only [go_sem]
      have hG3 := kn.e 1 rfl
      refine Qag ?_
      simp only [go_sem, hG3, GS.o, hF.ow, hF.ok kn, hF.len]
      refine Qa6 (kn.e 0 rfl) (by omega) fun v H3 hv hu => ?_
      have kn := kn.callE 0 rfl hu (R.o_ne _)
      rw [if_neg (by omega)] at hv
      obtain ⟨i, rfl⟩ := Int.eq_ofNat_of_zero_le hv.1
      have hi : i < s.fns.length := by omega
      have hG4 := kn.e 1 rfl
      simp only [go_sem, Qsp, hG4, GS.o, hF.ow, hF.ok kn, hF.len, hF.rows kn, hF.esz, hi, Qgu _ _ hi, Fn.cells]
      intro x6 hx6 H4 h4
      have kn := kn.al hx6 h4
      have hG5 := kn.e 1 rfl
      have hx64 := kn.l 2 rfl
      simp only [go_sem, Qso, hG5, hx64, GS.o, hF.ow, hF.ok kn, hF.len, hF.rows kn, hF.esz, hi, Qgu _ _ hi, Fn.cells]
      have hpar := hs.f _ (List.getElem_mem hi)
      generalize s.fns[i] = f at *
      intro H5 h5
      have kn := kn.stL 2 rfl h5
      have hx65 := kn.l 2 rfl
      refine Qa ?_
      simp only [go_sem, hx65]
      intro x7 hx7 H6 h6
      have kn := kn.al hx7 h6
      have hx67 := kn.l 2 rfl
      have hx77 := kn.l 3 rfl
      simp only [go_sem, Qsq, hx67, hx77]
      intro H7 h7
      have kn := kn.stL 3 rfl h7
      refine Q6 ?_
      refine Qa ?_
      simp only [go_sem]
      refine Qh (Qg (Qy (fun n e1 H1 => ∃ (i k4 : Nat) (kids : List Ex) (c : C) (Lg : List (Nat × Obj)), n = f.params.length - i ∧ i ≤ f.params.length ∧ k4 ≤ k3 + 1 + 21 * i ∧ k3 + 1 + Qac kids ≤ k4 ∧ Qdq kids ∧ kids.length = i ∧
        Gr Lg 4 (Qbk kids) c ∧ Kn H H1 [(R.l, R.o k4), (gl, s.o R)] ([(x4, .st [.int .i64 0, .int .i64 0, .str [], .sl true 4 []]), (x5, .st [.int .i64 e.op, .int .i64 e.n, .str e.name, .sl false 4 (Qbk e.kids)]),
          (x6, .st [.str f.name, .sl false 1 (Qbd f.params), .sl false 5 (Qau f.body)]), (x7, .st [.int .i64 13, .int .i64 0, .str f.name, c])] ++ Lg) ∧
        e1 = [(0, V.c (C.ptr gl 0)), (4, V.c (C.ptr x4 0)), (6, V.c (C.ptr x6 0)), (7, V.c (C.ptr x7 0)), (8, V.c (C.int IntKind.i64 i))]) f.params.length ?_ ?_))
      · exact ⟨0, k3 + 1, [], _, [], by omega, by omega, by omega, by simp [Qac], trivial, rfl, .nil 4, kn, rfl⟩
      · rintro n e1 H1 ⟨i, k4, kids, c, Lg, hn, hi1, hk4, hksz, hkok, hkl, hgr, kn, rfl⟩
        have hx61 := kn.l 2 rfl
        have hx71 := kn.l 3 rfl
        have hG1 := kn.e 1 rfl
        refine Q6 ?_
        refine Qa ?_
        simp only [go_sem, hx61, Qam]
        intro hpl
        refine Qh (Qe rfl ?_ ?_)
        · intro hc
          have hlt : i < f.params.length := by simpa using hc
          refine Qi ?_
          simp only [go_sem]
          refine Qh (Qg (Qbf ?_))
          have hcow := hgr.isOw
          simp only [go_sem, hx71, hG1, GS.o, hcow]
          refine Qala 2 2 (by omega) (kn.e 0 rfl) (by omega) fun z H2 k5 g5 g6 hu hok hsz => ?_
          have kn := kn.callE 0 rfl hu (R.o_ne _)
          have hx72 := kn.l 3 rfl
          simp only [go_sem, Qss, hx72, hcow, z.cells_len]
          refine kn.grow (new := [z.cells]) hgr (.mk' _ _ _ _) (by simp [z.noOw]) (by simp only [Qax, List.length_cons, List.length_nil, LIM]; omega) fun y' H3 kn => ?_
          have hx73 := kn.l 3 rfl
          simp only [go_sem, Qsr, hx73]
          intro H4 h4
          have kn := kn.stL 3 rfl h4
          refine Qt ?_
          simp only [go_sem]
          refine ⟨Qs (by omega) (by omega), ?_⟩
          refine ⟨f.params.length - (i + 1), by omega, i + 1, k5, kids ++ [z], _, _, rfl, by omega, by omega, ?_, Qa7b hkok ⟨hok, trivial⟩, by simp [hkl], ?_, kn, ?_⟩
          · simp only [Qw8, Qac]; omega
          · rw [← Qa20]; exact .mk _ _ _ (by simp)
          · simp
        · intro hc
          have hge : f.params.length ≤ i := by simpa using hc
          refine Q0 ?_
          simp only [go_sem, X.next]
          refine Q6 ?_
          refine Qa ?_
          simp only [go_sem, hG1, GS.o]
          refine Qa6 (kn.e 0 rfl) (by omega) fun v H2 hv hu => ?_
          have kn := kn.callE 0 rfl hu (R.o_ne _)
          have hx72 := kn.l 3 rfl
          have hx42 := kn.l 0 rfl
          have hcow := hgr.isOw
          have hG2 := kn.e 1 rfl
          simp only [go_sem, Qng]
          refine Qh (Qe rfl ?_ ?_)
          · intro hc
            refine Qa ?_
            simp only [go_sem, hx72, hx42, hcow]
            intro H3 h3
            have kn := kn.stL 0 rfl h3
            refine Qk ?_
            simp only [go_sem, Q3]
            refine fin 13 0 f.name c kids H3 (k4 + 1) _ (by omega) (by omega) kn rfl hcow (hgr.frz (B := [_, _, _, _]) kn (Qjy _)) ?_ ?_
            · simp only [Ex.ok]; exact ⟨fun h => by simp at h, hkok⟩
            · simp only [Ex.size]; omega
          · intro hc
            refine Qi ?_
            simp only [go_sem]
            refine Qag ?_
            simp only [go_sem, hx72, hG2, hcow, GS.o]
            refine Qka (ns := [3, 4, 8, 10]) (kn.e 0 rfl) (by omega) (by simp) fun op H3 hop hu => ?_
            have kn := kn.callE 0 rfl hu (R.o_ne _)
            have hx73 := kn.l 3 rfl
            have hG3 := kn.e 1 rfl
            simp only [go_sem, Qni, hx73, hG3, hcow, GS.o]
            refine Qala 2 2 (by omega) (kn.e 0 rfl) (by omega) fun z H4 k5 g5 g6 hu hok hsz => ?_
            have kn := kn.callE 0 rfl hu (R.o_ne _)
            have hx74 := kn.l 3 rfl
            have hx44 := kn.l 0 rfl
            simp only [go_sem, Qnh, hx74, hx44, hcow, z.cells_len]
            intro H5 h5
            have kn := kn.stL 0 rfl h5
            refine Qk ?_
            simp only [go_sem, Q3]
            refine fin op 0 [] _ [Ex.mk 13 0 f.name kids, z] H5 k5 _ (by omega) (by omega) kn rfl rfl ?_ ?_ ?_
            · refine FrzR.sl (.cons ?_ (.cons (.same z.noOw) .nil))
              rw [Ex.cells_eq]
              exact .cons (Qf rfl) (.cons (Qf rfl) (.cons (Qf rfl) (.cons (hgr.frz (B := [_, _, _, _]) kn (Qjy _)) .nil)))
            · simp only [Ex.ok, Qdq]; exact ⟨fun h => rfl, ⟨fun h => by simp at h, hkok⟩, hok, trivial⟩
            · simp only [Ex.size, Qac]; omega
  refine ⟨fun hb => ?_, fun hb => ?_⟩
  · refine Qa6 (kn.e 0 rfl) (by omega) fun v H5 hv hu => ?_
    have kn := kn.callE 0 rfl hu (R.o_ne _)
    simp only [go_sem, Qhv]
    refine rest _ H5 (k2 + 1) (by omega) (by omega) kn ?_
    intro h
    have : ¬ s.fns.length = 0 := by simpa using hb
    omega
  · have hb2 : decide ((s.fns.length : Int) = 0) = true := by simpa using hb
    simp only [go_sem, Qhv, hb2]
    exact rest true H4 k2 (by omega) (by omega) kn (fun h => by simp at h)
end Go.AE.Y

namespace Go.AE.Y
open Go.Proofs.Tryz
theorem Q2w {R:Rdr}{gl k:Nat}{s:GS}{H:Heap}{K:V→Heap→Prop}(hR:H R.l=R.o k)(hG:H gl=s.o R)(hne:R.l≠gl)(hs:s.ok k)(hF:FnsOk H R gl s)(hk:k+201≤2^30)
  (hK:∀(x:Ex) (H':Heap) (k':Nat),k<k'→k'≤k+201→Upd H H' [(R.l,R.o k')]→x.ok→2 * k+x.size≤2 * k'→K (.ag x.cells) H') :
  Qp prog Qgi [.c (.ptr gl 0)] H K:=by
 refine Qz ?_
 refine Qd Qak Qaps ?_
 refine Qa ?_
 simp only[go_sem]
 intro x2 hx2 H1 h1
 have kn:=(Kn.start2 hR (R.o_ne k) hG (s.o_ne R) hne).al hx2 h1
 have hG1:=kn.e 1 rfl
 refine Qag ?_
 simp only[go_sem,hG1,GS.o]
 refine Qby 2 (by omega) (kn.e 0 rfl) (kn.e 1 rfl) hne hs (hF.keep kn rfl rfl) (by omega) fun e H2 k2 g1 g2 hu heok hesz=>?_
 have kn:=kn.callE 0 rfl hu (R.o_ne _)
 have hG2:=kn.e 1 rfl
 simp only[go_sem,Qsk,hG2,GS.o]
 refine Qka (ns:=[16,16,16,8,17,0]) (kn.e 0 rfl) (by omega) (by simp) fun v H3 hv hu=>?_
 have kn:=kn.callE 0 rfl hu (R.o_ne _)
 have hx23:=kn.l 0 rfl
 simp only[go_sem,Qsj,hx23,e.cells_len]
 intro H4 h4
 have kn:=kn.stL 0 rfl h4
 have hx24:=kn.l 0 rfl
 refine Qk ?_
 simp only[go_sem,Q3,Q9,Q24,reduceIte,List.mem_singleton,forall_eq,RS.op,hx24]
 refine⟨(.ag (Ex.mk 7 0 [] [e,Ex.mk 1 v [] []]).cells),?_,hK _ _ (k2+1) (by omega) (by omega) (kn.fin.drop2 hG) ?_ ?_⟩
 ·rw[Ex.cells_eq (Ex.mk 7 0 [] _)]
  refine FrzL.ag ?_
  refine .cons (Qf rfl) (.cons (Qf rfl) (.cons (Qf rfl) (.cons (FrzR.sl (.cons (.same e.noOw) (.cons ?_ .nil))) .nil)))
  simp only[Ex.cells,Qbk]
  exact .cons (Qf rfl) (.cons (Qf rfl) (.cons (Qf rfl) (.cons (FrzR.nil).sl .nil)))
 ·simp only[Ex.ok,Qdq];exact⟨fun h=>rfl,heok,⟨fun h=>by simp at h,trivial⟩,trivial⟩
 ·simp only[Ex.size,Qac];omega
def Qbge (d:Nat):Prop:=∀(R:Rdr) (gl k:Nat) (s:GS) (H:Heap) (K:V→Heap→Prop) (deep:Int),deep≤d→H R.l=R.o k→H gl=s.o R→R.l≠gl→s.ok k→FnsOk H R gl s→k+500 * 10^d≤2^30→
  (∀(l:List St) (s':GS) (H':Heap) (k':Nat),k<k'→k'≤k+500 * 10^d→Upd H H' [(R.l,R.o k'),(gl,s'.o R)]→s'.ok k'→s.left+4 * (k:Int)≤s'.left+4 * (k':Int)→s'.fns=s.fns→s'.ffl=s.ffl→l.length≤2→Qcp l→4 * k+Qx l≤4 * k'→K (.c (.sl false 5 (Qau l))) H')→
  Qp prog Qlq [.c (.ptr gl 0),.c (.int .i64 deep)] H K
def Q7x (d:Nat):Prop:=∀(R:Rdr) (gl k:Nat) (s:GS) (H:Heap) (K:V→Heap→Prop) (deep:Int),deep≤d→H R.l=R.o k→H gl=s.o R→R.l≠gl→s.ok k→FnsOk H R gl s→k+2001 * 10^d≤2^30→
  (∀(l:List St) (c:C) (Lg:List (Nat×Obj)) (s':GS) (H':Heap) (k':Nat),k<k'→k'≤k+2001 * 10^d→Upd H H' [(R.l,R.o k'),(gl,s'.o R)]→Gr Lg 5 (Qau l) c→New H H' Lg→s'.ok k'→s.left+4 * (k:Int)≤s'.left+4 * (k':Int)→s'.fns=s.fns→s'.ffl=s.ffl→
   l.length≤8→Qcp l→4 * k+Qx l≤4 * k'→K (.c c) H')→
  Qp prog Qb7 [.c (.ptr gl 0),.c (.int .i64 deep)] H K
theorem Qa0x {d:Nat}(hS:Qbge d):Q7x d:=by
 intro R gl k s H K deep hd hR hG hne hs hF hk hK
 have hp0:d<10^d:=Nat.lt_pow_self (by omega)
 generalize hpe:10^d=e at *
 have hS':=hS
 simp only[Qbge]at hS'
 rw[hpe]at hS'
 generalize hM:500 * e=M at *
 refine Qdo ?_
 refine Qd Qak Qaln ?_
 refine Qa ?_
 simp only[go_sem]
 refine Qa ?_
 simp only[go_sem,hG,GS.o]
 refine Qa ?_
 simp only[go_sem]
 refine Q6 ?_
 refine Qa ?_
 simp only[go_sem,hG,GS.o]
 have kn:=Kn.start2 hR (R.o_ne k) hG (s.o_ne R) hne
 refine Qka (ns:=[2,3,1,4]) hR (by omega) (by simp) fun v H1 hv hu=>?_
 have kn:=kn.callE 0 rfl hu (R.o_ne _)
 simp only[go_sem,Qnd]
 have hv4:1≤v∧v≤4:=by simp at hv;omega
 refine Qh (Qg (Qy (fun n e1 H1=>∃(j k4:Nat) (l:List St) (c:C) (Lg:List (Nat×Obj)) (s':GS),n=v.toNat-j∧(j:Int)≤v∧k+1≤k4∧k4≤k+1+M * j∧4 * k+Qx l≤4 * k4∧Qcp l∧l.length≤2 * j∧
    Gr Lg 5 (Qau l) c∧s'.ok k4∧s.left+4 * (k:Int)≤s'.left+4 * (k4:Int)∧s'.fns=s.fns∧s'.ffl=s.ffl∧Kn H H1 [(R.l,R.o k4),(gl,s'.o R)] ([]++Lg)∧
    e1=[(0,V.c (C.ptr gl 0)),(1,.c (.int .i64 deep)),(5,.c (.sl s.vfl 1 (Qbd s.vars))),(6,.c c),(7,V.c (C.int IntKind.i64 (v-j)))]) v.toNat ?_ ?_))
 ·exact⟨0,k+1,[],_,[],s,by omega,by omega,by omega,by omega,by simp only[Qx];omega,trivial,by simp,.nil 5,hs.mono (by omega),by omega,rfl,rfl,kn,by simp⟩
 ·rintro n e1 H1 ⟨j,k4,l,c,Lg,s',hn,hj,hk4,hk4',hsz,hok,hll,hgr,hs',hlf,hf1,hf2,kn,rfl⟩
  have hG1:=kn.e 1 rfl
  have hMj:M * j≤M * 4:=Nat.mul_le_mul_left _ (by omega)
  refine Q6 ?_
  refine Qa ?_
  simp only[go_sem,hG1,GS.o]
  refine Qh (Qe rfl ?_ ?_)
  ·intro hc
   have hi:(j:Int)<v:=by
    cases h:decide (0<v-(j:Int))with
    |true=>have:0<v-(j:Int):=by simpa using h
           omega
    |false=>rw[h]at hc;simp at hc
   have hM1:M * (j+1)=M * j+M:=Nat.mul_succ _ _
   have hM2:M * (j+1)≤M * 4:=Nat.mul_le_mul_left _ (by omega)
   refine Qi ?_
   simp only[go_sem]
   refine Qh (Qg (Qt ?_))
   simp only[go_sem]
   refine hS' _ _ _ _ _ _ deep hd (kn.e 0 rfl) (kn.e 1 rfl) hne hs' (hF.keep kn hf1 hf2) (by omega) fun l2 s2 H2 k5 g1 g2 hu g3 glf g4 g5 g6 g7 g8=>?_
   have kn:=kn.callEE 0 1 rfl rfl (by decide) hu (R.o_ne _) (GS.o_ne _ _)
   simp only[go_sem,Qnf]
   refine kn.grow hgr (.mk' _ _ _ (Qau l2)) (Qgw _) (by simp only[Qa1,LIM];omega) fun y' H3 kn=>?_
   simp only[go_sem,Qne]
   refine Qt ?_
   simp only[go_sem]
   refine⟨Qs (by omega) (by omega),?_⟩
   simp only[X.next]
   refine⟨v.toNat-(j+1),by omega,j+1,k5,l++l2,.vsl y' 5 0 ((Qau l).length+(Qau l2).length),_,s2,rfl,by omega,by omega,by omega,?_,Qae9 hok g7,by simp;omega,?_,g3,by omega,g4.trans hf1,g5.trans hf2,kn,?_⟩
   ·rw[Qh2];omega
   ·rw[Qae8];exact .mk _ _ _ (by simp[Qa1])
   ·have:v-((j+1:Nat):Int)=v-j-1:=by omega
    rw[this]
  ·intro hc
   refine Q0 ?_
   simp only[go_sem,X.next]
   refine Qa ?_
   simp only[go_sem,hG1,GS.o]
   intro H2 h2
   have kn:Kn H H2 [(R.l,R.o k4),(gl,GS.o { s' with vars:=s.vars,vfl:=s.vfl } R)] ([]++Lg):=kn.stE 1 rfl h2
   refine Qa ?_
   simp only[go_sem]
   refine Qk ?_
   simp only[go_sem,Q3,Q9,Qyw,reduceIte,List.mem_singleton,forall_eq,RS.op]
   refine⟨unx H Lg,_,H2.frz (unx H Lg),.c _ _ (.same _ hgr.isOw),Qc8 _ _,?_⟩
   refine hK l c Lg _ _ k4 (by omega) (by omega) kn.finx.1 hgr kn.finx.2 ⟨hs'.n0,hs'.n1,hs'.l0,hs'.l1,?_,hs'.f,hs'.fn⟩ (by show _≤s'.left+_;omega) hf1 hf2 (by omega) hok hsz
   have:=hs.v
   show s.vars.length≤_
   omega
end Go.AE.Y

namespace Go.AE.Y
open Go.Proofs.Tryz
def Qbgd (d:Nat):Prop:=∀(R:Rdr) (gl k:Nat) (s:GS) (H:Heap) (K:V→Heap→Prop) (deep:Int),deep≤d+1→2≤deep→H R.l=R.o k→H gl=s.o R→R.l≠gl→s.ok k→FnsOk H R gl s→k+2001 * 10^d+10≤2^30→
  (∀(l:List St) (s':GS) (H':Heap) (k':Nat),k+2<k'→k'≤k+2001 * 10^d+3→Upd H H' [(R.l,R.o k'),(gl,s'.o R)]→s'.ok k'→s.left+4 * (k:Int)≤s'.left+4 * (k':Int)→s'.fns=s.fns→s'.ffl=s.ffl→l.length≤2→Qcp l→4 * k+Qx l≤4 * k'→K (.c (.sl false 5 (Qau l))) H')→
  Qp prog Qlp [.c (.ptr gl 0),.c (.int .i64 deep)] H K
theorem Qbhs {d:Nat}(hB:Q7x d):Qbgd d:=by
 intro R gl k s H K deep hd hd2 hR hG hne hs hF hk hK
 have hp0:d<10^d:=Nat.lt_pow_self (by omega)
 have hB':=hB
 simp only[Q7x]at hB'
 generalize hpe:10^d=e at *
 refine Qz ?_
 refine Qd Qak Qapu ?_
 refine Qa ?_
 simp only[go_sem]
 refine Qa ?_
 simp only[go_sem,hG,GS.o]
 have kn:=Kn.start2 hR (R.o_ne k) hG (s.o_ne R) hne
 refine Qka (ns:=[2,3,1,0,5]) hR (by omega) (by simp) fun v H1 hv hu=>?_
 have kn:=kn.callE 0 rfl hu (R.o_ne _)
 simp only[go_sem,Qsw]
 refine Q8k (x:=Ex.mk 1 v [] []) (fl:=true) (kn.e 0 rfl) (kn.e 1 rfl) hne (hs.mono (Nat.le_succ k)) (by omega) fun name H2 k2 g1 g2 hu=>?_
 have kn:=kn.callEE 0 1 rfl rfl (by decide) hu (R.o_ne _) (GS.o_ne _ _)
 simp only[go_sem,Qsv]
 intro x5 hx5 H3 h3
 have kn:=kn.al hx5 h3
 have hx53:=kn.l 0 rfl
 simp only[go_sem,Qsu,hx53,St.cells_len,St.cells]
 intro H4 h4
 have kn:=kn.stL 0 rfl h4
 have hx54:=kn.l 0 rfl
 refine Qa ?_
 simp only[go_sem,hx54]
 intro x6 hx6 H5 h5
 have kn:=kn.al hx6 h5
 have hx65:=kn.l 1 rfl
 simp only[go_sem,Qsx,hx65]
 intro H6 h6
 have kn:=kn.stL 1 rfl h6
 refine Qa ?_
 simp only[go_sem]
 refine⟨Qs (by omega) (by omega),?_⟩
 have hs2:GS.ok { s with next:=s.next+1,vars:=s.vars++[name],vfl:=false } k2:=by
  refine⟨?_,?_,?_,hs.l1,?_,hs.f,hs.fn⟩
  ·have:=hs.n0;show -1≤s.next+1;omega
  ·have:=hs.n1;show s.next+1≤_;omega
  ·have:=hs.l0;show _≤s.left;omega
  ·have:=hs.v;show (s.vars++[name]).length≤_;simp;omega
 refine hB' _ _ _ _ _ _ (deep-1) (by omega) (kn.e 0 rfl) (kn.e 1 rfl) hne hs2 (hF.keep kn rfl rfl) (by omega) fun l c Lg s3 H7 k3 g3 g4 hu hgr hnew hs3 glf g5 g6 g7 g8 g9=>?_
 have kn0:=kn
 have kn:=kn.callEE 0 1 rfl rfl (by decide) hu (R.o_ne _) (GS.o_ne _ _)
 have kn:=kn0.addGr kn rfl rfl hgr hnew
 have hx57:=kn.l 0 rfl
 have hx67:=kn.l 1 rfl
 simp only[go_sem,Qsy]
 refine Qa ?_
 simp only[go_sem,hx57,hx67]
 intro x8 hx8 H8 h8
 have kn:=kn.al hx8 h8
 have kn:=kn.perm (L':=[(x5,_),(x6,_),(x8,_)]++Lg) (by
  simp only[List.set,List.nil_append,List.cons_append,List.append_assoc]
  refine .cons _ (.cons _ ?_)
  exact List.perm_append_comm)
 have hx88:=kn.l 2 rfl
 simp only[go_sem,Qsz,hx88]
 intro H9 h9
 have kn:=kn.stL 2 rfl h9
 have hG9:=kn.e 1 rfl
 refine Qa ?_
 simp only[go_sem,hG9,GS.o]
 have hl0:=hs3.l0
 have hl1:=hs3.l1
 refine⟨Qs (by omega) (by omega),fun H10 h10=>?_⟩
 have kn:Kn H H10 [(R.l,R.o k3),(gl,GS.o { s3 with left:=s3.left-2 } R)] ([(x5,_),(x6,_),(x8,_)]++Lg):=kn.stE 1 rfl h10
 have hx5a:=kn.l 0 rfl
 have hx6a:=kn.l 1 rfl
 have hx8a:=kn.l 2 rfl
 refine Qag ?_
 simp only[go_sem,hx5a,hx6a,hx8a]
 refine kn.grow hgr (.mk' _ _ _ _) (by intro r hr;simp only[List.mem_singleton]at hr;subst hr;rfl) (by simp only[Qa1,LIM,List.length_cons,List.length_nil];omega) fun y' H11 kn=>?_
 have hx5b:=kn.l 0 rfl
 have hx6b:=kn.l 1 rfl
 have hyb:=kn.l 3 rfl
 simp only[go_sem,Qs0,hx5b,hx6b]
 refine Qk ?_
 simp only[go_sem,Q3,Q9,Q25,reduceIte,List.mem_singleton,forall_eq,RS.op]
 have hok1:GS.ok { s3 with left:=s3.left-2 } k3:=⟨hs3.n0,hs3.n1,by show _≤s3.left-2;have:=hs.l0;simp only at glf;omega,by show s3.left-2≤100;omega,hs3.v,hs3.f,hs3.fn⟩
 refine⟨.c (.sl false 5 (Qau [St.mk 1 name [Ex.mk 1 v [] []] [] [],St.mk 6 [] [Ex.mk 2 0 name []] (l++[St.mk 2 name [Ex.mk 4 0 [] [Ex.mk 2 0 name [],Ex.mk 1 1 [] []]] [] []]) []])),.c _ _ ?_,hK _ _ _ k3 (by omega) (by omega) kn.fin hok1 (by show _≤s3.left-2+_;simp only at glf;omega) g5 g6 (by simp) ?_ ?_⟩
 ·simp only[Qau,St.cells,Qbk,Ex.cells,←Qae8]
  repeat' first|exact FrzL.nil|exact FrzR.nil|exact Qf rfl|exact FrzL.same (Ex.noOw _)|exact FrzL.same (St.noOw _)|refine FrzL.cons ?_ ?_|refine FrzR.cons ?_ ?_|refine FrzR.sl ?_
  refine FrzR.vsl (kn.un 3 rfl) hyb (by simp) (.app (.same (Qgw _)) ?_)
  repeat' first|exact FrzL.nil|exact FrzR.nil|exact Qf rfl|exact FrzL.same (Ex.noOw _)|exact FrzL.same (St.noOw _)|refine FrzL.cons ?_ ?_|refine FrzR.cons ?_ ?_|refine FrzR.sl ?_
 ·simp only[Qcp,St.ok,Qdq,Ex.ok]
  refine⟨⟨by simp,⟨⟨fun h=>by simp at h,trivial⟩,trivial⟩,trivial,trivial⟩,⟨by simp,⟨⟨fun h=>by simp at h,trivial⟩,trivial⟩,Qae9 g8 ?_,trivial⟩,trivial⟩
  simp[Qcp,St.ok,Qdq,Ex.ok]
 ·simp only[Qx,St.size,Qh2,Qac,Ex.size];omega
end Go.AE.Y

namespace Go.AE.Y
open Go.Proofs.Tryz
theorem Qbkm {A L1 L2:List (Nat×Obj)}:(A++L1++L2).Perm (A++L2++L1):=by
 rw[List.append_assoc,List.append_assoc]
 exact .append_left _ List.perm_append_comm
set_option maxHeartbeats 2000000 in
theorem Qbav {d : Nat} (hB : ∀ d', d = d' + 1 → Q7x d') : Qbge d := by
  intro R gl k s H K deep hd hR hG hne hs hF hk hK
  have hp0 : d < 10^d := Nat.lt_pow_self (by omega)
  have hex : ∃ e, 10^d = e ∧ ∀ d', d = d' + 1 → 10 * 10^d' = e := ⟨10^d, rfl, fun d' h => by rw [h, Nat.pow_succ]; omega⟩
  obtain ⟨e, hpe, he'⟩ := hex
  rw [hpe] at hp0 hk hK
  have hl0 := hs.l0
  have hl1 := hs.l1
  refine Qz ?_
  refine Qd Qak Qapv ?_
  refine Qa ?_
  simp only [go_sem]
  refine Qa ?_
  simp only [go_sem, hG, GS.o]
  refine ⟨Qs (by omega) (by omega), fun H1 h1 => ?_⟩
  have kn : Kn H H1 [(R.l, R.o k), (gl, GS.o { s with left := s.left - 1 } R)] [] := (Kn.start2 hR (R.o_ne k) hG (s.o_ne R) hne).stE 1 rfl h1
  have hs1 : GS.ok { s with left := s.left - 1 } (k + 1) := ⟨hs.n0, by have := hs.n1; show s.next ≤ _; omega, by show _ ≤ s.left - 1; omega, by show s.left - 1 ≤ 100; omega, by have := hs.v; show s.vars.length ≤ _; omega, hs.f, hs.fn⟩
  have hlr : s.left ≤ ({ s with left := s.left - 1 } : GS).left + 1 := by show s.left ≤ s.left - 1 + 1; omega
  have hfn : ({ s with left := s.left - 1 } : GS).fns = s.fns := rfl
  have hff : ({ s with left := s.left - 1 } : GS).ffl = s.ffl := rfl
  have hF1 : FnsOk H R gl { s with left := s.left - 1 } := ⟨hF.1, hF.2⟩
  generalize ({ s with left := s.left - 1 } : GS) = s1 at *
  have hG1 := kn.e 1 rfl
  refine Qa ?_
  simp only [go_sem, hG1, GS.o]
  refine Qa6 (kn.e 0 rfl) (by omega) fun v H2 hv hu => ?_
  have kn : Kn H H2 [(R.l, R.o (k + 1)), (gl, s1.o R)] [] := kn.callE 0 rfl hu (R.o_ne _)
  have hG2 := kn.e 1 rfl
  simp only [go_sem, Qs3]
  have fin : ∀ (l : List St) (c : C) (s' : GS) (H3 : Heap) (k3 : Nat) (L : List (Nat × Obj)), k < k3 → k3 ≤ k + 500 * e → Kn H H3 [(R.l, R.o k3), (gl, s'.o R)] L → FrzC H3 (un H) c (.sl false 5 (Qau l)) →
      s'.ok k3 → s1.left + 4 * ((k + 1 : Nat) : Int) ≤ s'.left + 4 * (k3 : Int) → s'.fns = s1.fns → s'.ffl = s1.ffl → l.length ≤ 2 → Qcp l → 4 * k + Qx l ≤ 4 * k3 → ∃ x', FrzV H3 (un H) (.c c) x' ∧ K x' (H3.frz (un H)) := by
    intro l c s' H3 k3 L g1 g2 kn g3 g4 g5 g6 g7 g8 g9 g10
    exact ⟨_, .c _ _ g3, hK l s' _ k3 g1 g2 kn.fin g4 (by omega) (g6.trans hfn) (g7.trans hff) g8 g9 g10⟩
  refine Qh (Qg ?_)
  refine Qa ?_
  simp only [go_sem, hG2, GS.o, Qam]
  intro hvl
  refine Qe rfl ?_ ?_
  ·
    intro hc
    have hv0 : 0 < s1.vars.length := by
      cases h : decide (v < 3) with
      | true => rw [h] at hc; simp at hc; omega
      | false => rw [h] at hc; simp at hc
    refine Qag ?_
    simp only [go_sem, hG2, GS.o]
    refine of_c (kn.e 0 rfl) (by omega) hv0 fun name H3 hn hu => ?_
    have kn := kn.callE 0 rfl hu (R.o_ne _)
    simp only [go_sem, Qs5]
    refine Qby 3 (by omega) (kn.e 0 rfl) (kn.e 1 rfl) hne (hs1.mono (by omega)) (hF1.keep kn rfl rfl) (by omega) fun x H4 k4 g1 g2 hu g3 g4 => ?_
    have kn := kn.callE 0 rfl hu (R.o_ne _)
    simp only [go_sem, Qs4, x.cells_len]
    refine Qk ?_
    simp only [go_sem, Q3, Q9, Qa7, reduceIte, List.mem_singleton, forall_eq, RS.op]
    refine fin [St.mk 2 name [x] [] []] _ s1 H4 k4 _ (by omega) (by omega) kn ?_ (hs1.mono (by omega)) (by omega) rfl rfl (by simp) ?_ ?_
    · simp only [Qau, St.cells, Qbk]
      repeat' first | exact FrzL.nil | exact FrzR.nil | exact Qf rfl | exact FrzL.same (Ex.noOw _) | exact FrzL.same (St.noOw _) | refine FrzL.cons ?_ ?_ | refine FrzR.cons ?_ ?_ | refine FrzR.sl ?_
    · simp only [Qcp, St.ok, Qdq]; exact ⟨⟨by simp, ⟨g3, trivial⟩, trivial, trivial⟩, trivial⟩
    · simp only [Qx, St.size, Qac]; omega
  intro hc0
  refine Qa ?_
  simp only [go_sem]
  refine Qe rfl ?_ ?_
  ·
    intro hc
    refine Qa ?_
    simp only [go_sem]
    refine Qby 3 (by omega) (kn.e 0 rfl) (kn.e 1 rfl) hne (hs1.mono (by omega)) (hF1.keep kn rfl rfl) (by omega) fun x H4 k4 g1 g2 hu g3 g4 => ?_
    have kn := kn.callE 0 rfl hu (R.o_ne _)
    simp only [go_sem, Qs7, x.cells_eq]
    refine Q8k (x := x) (kn.e 0 rfl) (kn.e 1 rfl) hne (hs1.mono (by omega)) (by omega) fun name H5 k5 g5 g6 hu => ?_
    have kn := kn.callEE 0 1 rfl rfl (by decide) hu (R.o_ne _) (GS.o_ne _ _)
    simp only [go_sem, Qs6, St.cells_len]
    refine Qk ?_
    simp only [go_sem, Q3, Q9, Qa7, reduceIte, List.mem_singleton, forall_eq, RS.op]
    have h0 := hs1.n0
    have h1 := hs1.n1
    have h2 := hs1.l0
    have h3 := hs1.v
    refine fin [St.mk 1 name [x] [] []] _ _ H5 k5 _ (by omega) (by omega) kn ?_ ⟨?_, ?_, ?_, hs1.l1, ?_, hs1.f, hs1.fn⟩ (by show _ ≤ s1.left + _; omega) rfl rfl (by simp) ?_ ?_
    · simp only [Qau]
      repeat' first | exact FrzL.nil | exact FrzR.nil | exact Qf rfl | exact FrzL.same (Ex.noOw _) | exact FrzL.same (St.noOw _) | refine FrzL.cons ?_ ?_ | refine FrzR.cons ?_ ?_ | refine FrzR.sl ?_
    · show -1 ≤ s1.next + 1; omega
    · show s1.next + 1 ≤ _; omega
    · show _ ≤ s1.left; omega
    · show (s1.vars ++ [name]).length ≤ _; simp; omega
    · simp only [Qcp, St.ok, Qdq]; exact ⟨⟨by simp, ⟨g3, trivial⟩, trivial, trivial⟩, trivial⟩
    · simp only [Qx, St.size, Qac]; omega
  intro hc1
  refine Qa ?_
  simp only [go_sem]
  refine Qe rfl ?_ ?_
  ·
    intro hc
    refine Qa ?_
    simp only [go_sem]
    refine Qby 3 (by omega) (kn.e 0 rfl) (kn.e 1 rfl) hne (hs1.mono (by omega)) (hF1.keep kn rfl rfl) (by omega) fun x H4 k4 g1 g2 hu g3 g4 => ?_
    have kn := kn.callE 0 rfl hu (R.o_ne _)
    simp only [go_sem, Qs8, x.cells_len]
    refine Qk ?_
    simp only [go_sem, Q3, Q9, Qa7, reduceIte, List.mem_singleton, forall_eq, RS.op]
    refine fin [St.mk 3 [] [x] [] []] _ s1 H4 k4 _ (by omega) (by omega) kn ?_ (hs1.mono (by omega)) (by omega) rfl rfl (by simp) ?_ ?_
    · simp only [Qau, St.cells, Qbk]
      repeat' first | exact FrzL.nil | exact FrzR.nil | exact Qf rfl | exact FrzL.same (Ex.noOw _) | exact FrzL.same (St.noOw _) | refine FrzL.cons ?_ ?_ | refine FrzR.cons ?_ ?_ | refine FrzR.sl ?_
    · simp only [Qcp, St.ok, Qdq]; exact ⟨⟨by simp, ⟨g3, trivial⟩, trivial, trivial⟩, trivial⟩
    · simp only [Qx, St.size, Qac]; omega
  intro hc2
  have hdp : 2 ≤ deep := by
    cases h : decide (v < 7) with
    | true => rw [h] at hc2; simp at hc2
    | false => rw [h] at hc2; simp at hc2; omega
  obtain ⟨d', hdd⟩ : ∃ d', d = d' + 1 := ⟨d - 1, by omega⟩
  have hB0 : Q7x d' := hB d' hdd
  have hL0 : Qbgd d' := Qbhs hB0
  have hB' := hB0
  have hL' := hL0
  simp only [Q7x, Qbgd] at hB' hL'
  have he1 := he' d' hdd
  have hp1 : d' < 10^d' := Nat.lt_pow_self (by omega)
  generalize 10^d' = e1 at *
  refine Qa ?_
  simp only [go_sem]
  refine Qe rfl ?_ ?_
  ·
    intro hc
    refine Qa ?_
    simp only [go_sem]
    refine Q2w (kn.e 0 rfl) (kn.e 1 rfl) hne (hs1.mono (by omega)) (hF1.keep kn rfl rfl) (by omega) fun x H4 k4 g1 g2 hu g3 g4 => ?_
    have kn := kn.callE 0 rfl hu (R.o_ne _)
    simp only [go_sem, Qta, x.cells_len]
    refine Qby 2 (by omega) (kn.e 0 rfl) (kn.e 1 rfl) hne (hs1.mono (by omega)) (hF1.keep kn rfl rfl) (by omega) fun y H5 k5 g5 g6 hu g7 g8 => ?_
    have kn := kn.callE 0 rfl hu (R.o_ne _)
    simp only [go_sem, Qs9, x.cells_len, y.cells_len]
    refine Qk ?_
    simp only [go_sem, Q3, Q9, Qa7, reduceIte, List.mem_singleton, forall_eq, RS.op]
    refine fin [St.mk 4 [] [x, y] [] []] _ s1 H5 k5 _ (by omega) (by omega) kn ?_ (hs1.mono (by omega)) (by omega) rfl rfl (by simp) ?_ ?_
    · simp only [Qau, St.cells, Qbk]
      repeat' first | exact FrzL.nil | exact FrzR.nil | exact Qf rfl | exact FrzL.same (Ex.noOw _) | exact FrzL.same (St.noOw _) | refine FrzL.cons ?_ ?_ | refine FrzR.cons ?_ ?_ | refine FrzR.sl ?_
    · simp only [Qcp, St.ok, Qdq]; exact ⟨⟨by simp, ⟨g3, g7, trivial⟩, trivial, trivial⟩, trivial⟩
    · simp only [Qx, St.size, Qac]; omega
  intro hc3
  refine Qa ?_
  simp only [go_sem]
  refine Qe rfl ?_ ?_
  ·
    intro hc
    refine Qa ?_
    simp only [go_sem]
    refine Q2w (kn.e 0 rfl) (kn.e 1 rfl) hne (hs1.mono (by omega)) (hF1.keep kn rfl rfl) (by omega) fun x H4 k4 g1 g2 hu g3 g4 => ?_
    have kn := kn.callE 0 rfl hu (R.o_ne _)
    simp only [go_sem, Qtb, x.cells_len]
    refine Qk ?_
    simp only [go_sem, Q3, Q9, Qa7, reduceIte, List.mem_singleton, forall_eq, RS.op]
    refine fin [St.mk 3 [] [Ex.mk 12 0 [] [x]] [] []] _ s1 H4 k4 _ (by omega) (by omega) kn ?_ (hs1.mono (by omega)) (by omega) rfl rfl (by simp) ?_ ?_
    · rw [Qau, Qau, St.cells, Qbk, Qbk, Ex.cells_eq (Ex.mk 12 0 [] _)]
      simp only [Qau, Qbk, Ex.kids, Ex.op, Ex.n, Ex.name]
      repeat' first | exact FrzL.nil | exact FrzR.nil | exact Qf rfl | exact FrzL.same (Ex.noOw _) | exact FrzL.same (St.noOw _) | refine FrzL.cons ?_ ?_ | refine FrzR.cons ?_ ?_ | refine FrzR.sl ?_
    · simp only [Qcp, St.ok, Qdq, Ex.ok]; exact ⟨⟨by simp, ⟨⟨fun h => by simp at h, g3, trivial⟩, trivial⟩, trivial, trivial⟩, trivial⟩
    · simp only [Qx, St.size, Qac, Ex.size]; omega
  intro hc4
  refine Qa ?_
  simp only [go_sem]
  refine Qe rfl ?_ ?_
  ·
    intro hc
    refine Qa ?_
    simp only [go_sem]
    refine Qby 3 (by omega) (kn.e 0 rfl) (kn.e 1 rfl) hne (hs1.mono (by omega)) (hF1.keep kn rfl rfl) (by omega) fun x H4 k4 g1 g2 hu g3 g4 => ?_
    have kn := kn.callE 0 rfl hu (R.o_ne _)
    simp only [go_sem, Qnm, x.cells_len]
    refine ⟨Qs (by omega) (by omega), ?_⟩
    refine hB' _ _ _ _ _ _ (deep - 1) (by omega) (kn.e 0 rfl) (kn.e 1 rfl) hne (hs1.mono (by omega)) (hF1.keep kn rfl rfl) (by omega) fun b1 c1 L1 s2 H5 k5 g5 g6 hu hg1 hnew hs2 glf g7 g8 g9 g10 g11 => ?_
    have kn0 := kn
    have kn := kn.callEE 0 1 rfl rfl (by decide) hu (R.o_ne _) (GS.o_ne _ _)
    have kn := kn0.addGr kn rfl rfl hg1 hnew
    have hc1ow := hg1.isOw
    simp only [go_sem, Qnl]
    intro x6 hx6 H6 h6
    have kn := kn.al hx6 h6
    have kn := kn.perm (L' := [(x6, _)] ++ L1) List.perm_append_comm
    have hx66 := kn.l 0 rfl
    simp only [go_sem, Qtc, hx66]
    intro H7 h7
    have kn : Kn H H7 [(R.l, R.o k5), (gl, s2.o R)] ([(x6, _)] ++ L1) := kn.stL 0 rfl h7
    have hG7 := kn.e 1 rfl
    refine Q6 ?_
    refine Qa ?_
    simp only [go_sem, hG7, GS.o]
    refine Qa6 (kn.e 0 rfl) (by omega) fun v2 H8 hv2 hu => ?_
    have kn : Kn H H8 [(R.l, R.o (k5 + 1)), (gl, s2.o R)] ([(x6, _)] ++ L1) := kn.callE 0 rfl hu (R.o_ne _)
    simp only [go_sem, Qnn]
    have rest : ∀ (E1 : Env) (hE : lk 6 E1 = V.c (C.ptr x6 0)) (c2 : C) (b2 : List St) (L2 : List (Nat × Obj)) (s3 : GS) (H9 : Heap) (k6 : Nat), k5 + 1 ≤ k6 → k6 ≤ k5 + 1 + 2001 * e1 → Gr L2 5 (Qau b2) c2 →
        Kn H H9 [(R.l, R.o k6), (gl, s3.o R)] ([(x6, .st [.int .i64 5, .str [], .sl true 4 [x.cells], c1, c2])] ++ L1 ++ L2) → s3.ok k6 → s2.left + 4 * ((k5 + 1 : Nat) : Int) ≤ s3.left + 4 * (k6 : Int) → s3.fns = s2.fns → s3.ffl = s2.ffl → Qcp b2 → 4 * (k5 + 1) + Qx b2 ≤ 4 * k6 →
        Qad prog Qs1 (X.inBlock 0 (X.sq prog Qhw (Q3 Qa7 (unK H K)))) E1 H9 := by
      intro E1 hE c2 b2 L2 s3 H9 k6 e1 e2 hg2 kn e3 e4 e5 e6 e7 e8
      have hx69 := kn.l 0 rfl
      have hc2ow := hg2.isOw
      refine Qa ?_
      simp only [go_sem, hE, hx69, hc1ow, hc2ow]
      refine Qk ?_
      simp only [go_sem, Q3, Q9, Qa7, reduceIte, List.mem_singleton, forall_eq, RS.op]
      refine fin [St.mk 5 [] [x] b1 b2] _ s3 H9 k6 _ (by omega) (by omega) kn ?_ e3 (by omega) (e5.trans g7) (e6.trans g8) (by simp) ?_ ?_
      · simp only [Qau, St.cells, Qbk]
        repeat' first | exact FrzL.nil | exact FrzR.nil | exact Qf rfl | exact FrzL.same (Ex.noOw _) | exact FrzL.same (St.noOw _) | refine FrzL.cons ?_ ?_ | refine FrzR.cons ?_ ?_ | refine FrzR.sl ?_
        · exact hg1.frz (kn.perm Qbkm) (Qgw _)
        · exact hg2.frz kn (Qgw _)
      · simp only [Qcp, St.ok, Qdq]; exact ⟨⟨by simp, ⟨g3, trivial⟩, g10, e7⟩, trivial⟩
      · simp only [Qx, St.size, Qac]; omega
    refine Qh (Qe rfl ?_ ?_)
    · intro hc'
      refine Qt ?_
      simp only [go_sem]
      refine ⟨Qs (by omega) (by omega), ?_⟩
      refine hB' _ _ _ _ _ _ (deep - 1) (by omega) (kn.e 0 rfl) (kn.e 1 rfl) hne (hs2.mono (by omega)) (hF1.keep kn g7 g8) (by omega) fun b2 c2 L2 s3 H9 k6 q1 q2 hu hg2 hnew hs3 q3 q4 q5 q6 q7 q8 => ?_
      have kn0 := kn
      have kn := kn.callEE 0 1 rfl rfl (by decide) hu (R.o_ne _) (GS.o_ne _ _)
      have kn := kn0.addGr kn rfl rfl hg2 hnew
      have hx69 := kn.l 0 rfl
      simp only [go_sem, Qno, hx69]
      intro H10 h10
      have kn : Kn H H10 [(R.l, R.o k6), (gl, s3.o R)] ([(x6, _)] ++ L1 ++ L2) := kn.stL 0 rfl h10
      exact rest _ (by simp [lk]) c2 b2 L2 s3 H10 k6 (by omega) (by omega) hg2 kn hs3 (by omega) q4 q5 q7 (by omega)
    · intro hc'
      refine Qi ?_
      simp only [go_sem]
      exact rest _ (by simp [lk]) _ [] [] s2 H8 (k5 + 1) (by omega) (by omega) (.nil 5) (by rw [List.append_nil]; exact kn) (hs2.mono (by omega)) (by omega) rfl rfl trivial (by simp only [Qx]; omega)
  · intro hc5
    refine Qa ?_
    simp only [go_sem, hG2, GS.o]
    have rest : ∀ (b : Bool) (H3 : Heap) (k3 : Nat), k + 1 ≤ k3 → k3 ≤ k + 2 → Kn H H3 [(R.l, R.o k3), (gl, s1.o R)] [] →
        Qad prog Qs2 (X.inBlock 0 (X.sq prog Qhw (Q3 Qa7 (unK H K))))
         [(0, V.c (C.ptr gl 0)), (1, .c (.int .i64 deep)), (109, .c (.bool b))] H3 := by
      intro b H3 k3 e3 e4 kn
      refine Qe rfl ?_ ?_
      · intro hb
        refine Qa ?_
        simp only [go_sem]
        refine Qby 2 (by omega) (kn.e 0 rfl) (kn.e 1 rfl) hne (hs1.mono (by omega)) (hF1.keep kn rfl rfl) (by omega) fun x H4 k4 g1 g2 hu g3 g4 => ?_
        have kn := kn.callE 0 rfl hu (R.o_ne _)
        simp only [go_sem, Qnp, x.cells_len]
        refine Qk ?_
        simp only [go_sem, Q3, Q9, Qa7, reduceIte, List.mem_singleton, forall_eq, RS.op]
        refine fin [St.mk 7 [] [x] [] []] _ s1 H4 k4 _ (by omega) (by omega) kn ?_ (hs1.mono (by omega)) (by omega) rfl rfl (by simp) ?_ ?_
        · simp only [Qau, St.cells, Qbk]
          repeat' first | exact FrzL.nil | exact FrzR.nil | exact Qf rfl | exact FrzL.same (Ex.noOw _) | exact FrzL.same (St.noOw _) | refine FrzL.cons ?_ ?_ | refine FrzR.cons ?_ ?_ | refine FrzR.sl ?_
        · simp only [Qcp, St.ok, Qdq]; exact ⟨⟨by simp, ⟨g3, trivial⟩, trivial, trivial⟩, trivial⟩
        · simp only [Qx, St.size, Qac]; omega
      · intro hb
        refine Qi ?_
        simp only [go_sem]
        refine Qa ?_
        simp only [go_sem]
        refine hL' _ _ _ _ _ _ deep (by omega) hdp (kn.e 0 rfl) (kn.e 1 rfl) hne (hs1.mono (by omega)) (hF1.keep kn rfl rfl) (by omega) fun l s2 H4 k4 g1 g2 hu g3 g4 g5 g6 g7 g8 g9 => ?_
        have kn := kn.callEE 0 1 rfl rfl (by decide) hu (R.o_ne _) (GS.o_ne _ _)
        simp only [go_sem, Qnq]
        refine Qk ?_
        simp only [go_sem, Q3, Q9, Qa7, reduceIte, List.mem_singleton, forall_eq, RS.op]
        exact fin l _ s2 H4 k4 _ (by omega) (by omega) kn (Qf rfl) g3 (by omega) g5 g6 g7 g8 (by omega)
    refine ⟨fun hb => ?_, fun hb => ?_⟩
    · refine Qa6 (kn.e 0 rfl) (by omega) fun v2 H3 hv2 hu => ?_
      have kn := kn.callE 0 rfl hu (R.o_ne _)
      simp only [go_sem, Qfy]
      exact rest _ H3 (k + 1 + 1) (by omega) (by omega) kn
    · simp only [go_sem, Qfy, hb]
      exact rest _ H2 (k + 1) (by omega) (by omega) kn
theorem Qbgm (d:Nat):Q7x d:=by
 induction d with
 |zero=>exact Qa0x (Qbav (fun d' h=>absurd h (by omega)))
 |succ d ih=>exact Qa0x (Qbav (fun d' h=>by
   have:d'=d:=by omega
   rw[this];exact ih))
end Go.AE.Y

namespace Go.AE.Y
open Go.Proofs.Tryz
set_option maxHeartbeats 1000000 in
theorem Qaj2 {R:Rdr}{gl k:Nat}{s:GS}{name:List UInt8}{params:Int}{H:Heap}{K:V→Heap→Prop}(hp0:0≤params)(hp3:params≤3)(hR:H R.l=R.o k)(hG:H gl=s.o R)(hne:R.l≠gl)(hs:s.ok k)(hF:FnsOk H R gl s)(hk:k+2001300≤2^30)
  (hK:∀(f:Fn) (s':GS) (H':Heap) (k':Nat),k<k'→k'≤k+2001300→Upd H H' [(R.l,R.o k'),(gl,s'.o R)]→s'.ok k'→s'.fns=s.fns→s'.ffl=s.ffl→f.params.length≤3→Qcp f.body→4 * k+Qx f.body≤4 * k'→K (.ag f.cells) H') :
  Qp prog Qlo [.c (.ptr gl 0),.c (.str name),.c (.int .i64 params)] H K:=by
 obtain⟨np,rfl⟩:=Int.eq_ofNat_of_zero_le hp0
 refine Qz ?_
 refine Qd Qak Qa3n ?_
 refine Qa ?_
 simp only[go_sem]
 intro x6 hx6 H1 h1
 have kn:=(Kn.start2 hR (R.o_ne k) hG (s.o_ne R) hne).al hx6 h1
 have hG1:=kn.e 1 rfl
 refine Qa ?_
 have etk:List.take np [[C.str [97]],[C.str [98]],[C.str [99]]]=Qbd (List.take np [[97],[98],[99]]):=by simp[Qbd,List.map_take]
 simp only[go_sem,hG1,GS.o,etk]
 refine⟨⟨by omega,by omega⟩,fun H2 h2=>?_⟩
 have kn:Kn H H2 [(R.l,R.o k),(gl,GS.o { s with vars:=List.take np [[97],[98],[99]],vfl:=false } R)] [(x6,_)]:=kn.stE 1 rfl h2
 have hG2:=kn.e 1 rfl
 refine Qa ?_
 simp only[go_sem,hG2,GS.o]
 refine⟨Qs (by omega) (by omega),fun H3 h3=>?_⟩
 have kn:Kn H H3 [(R.l,R.o k),(gl,GS.o { s with vars:=List.take np [[97],[98],[99]],vfl:=false,next:=(np:Int)-1 } R)] [(x6,_)]:=kn.stE 1 rfl h3
 have hs1:GS.ok { s with vars:=List.take np [[97],[98],[99]],vfl:=false,next:=(np:Int)-1 } k:=
  ⟨by show -1≤(np:Int)-1;omega,by show (np:Int)-1≤_;omega,hs.l0,hs.l1,by show (List.take np _).length≤_;simp;omega,hs.f,hs.fn⟩
 have hvl:(List.take np [[97],[98],[99]]:List (List UInt8)).length≤3:=by simp;omega
 have hfn:GS.fns { s with vars:=List.take np [[97],[98],[99]],vfl:=false,next:=(np:Int)-1 }=s.fns:=rfl
 have hff:GS.ffl { s with vars:=List.take np [[97],[98],[99]],vfl:=false,next:=(np:Int)-1 }=s.ffl:=rfl
 have hvv:GS.vars { s with vars:=List.take np [[97],[98],[99]],vfl:=false,next:=(np:Int)-1 }=List.take np [[97],[98],[99]]:=rfl
 rw[←hvv]at hvl
 have hF1:FnsOk H R gl { s with vars:=List.take np [[97],[98],[99]],vfl:=false,next:=(np:Int)-1 }:=⟨hF.1,hF.2⟩
 generalize ({ s with vars:=List.take np [[97],[98],[99]],vfl:=false,next:=(np:Int)-1 }:GS)=s1 at *
 have hG3:=kn.e 1 rfl
 refine Qa ?_
 have hL:s1.vars.length≤LIM:=by simp only[LIM];omega
 simp only[go_sem,hG3,GS.o,Qam,Nat.zero_add,List.nil_append,hL]
 refine⟨.inl trivial,Qmt _,fun y hy H4 h4=>?_⟩
 have kn:=kn.al hy h4
 simp only[go_sem,Qzw]
 intro x7 hx7 H5 h5
 have kn:=kn.al hx7 h5
 have hx75:=kn.l 2 rfl
 simp only[go_sem,Qzv,hx75]
 intro H6 h6
 have kn:Kn H H6 [(R.l,R.o k),(gl,s1.o R)] [(x6,_),(y,_),(x7,_)]:=kn.stL 2 rfl h6
 refine Qa ?_
 simp only[go_sem]
 refine Qbgm 3 _ _ _ _ _ _ 3 (by omega) (kn.e 0 rfl) (kn.e 1 rfl) hne hs1 (hF1.keep kn rfl rfl) (by omega) fun l c Lg s2 H7 k2 g1 g2 hu hgr hnew hs2 glf g3 g4 g5 g6 g7=>?_
 have kn0:=kn
 have kn:=kn.callEE 0 1 rfl rfl (by decide) hu (R.o_ne _) (GS.o_ne _ _)
 have kn:=kn0.addGr kn rfl rfl hgr hnew
 have hx77:=kn.l 2 rfl
 simp only[go_sem,Qzx,hx77]
 intro H8 h8
 have kn:Kn H H8 [(R.l,R.o k2),(gl,s2.o R)] ([(x6,.st [.str [],.sl true 1 [],.sl true 5 []]),(y,.vec 1 (Qbd s1.vars)),(x7,.st [.str name,.vsl y 1 0 s1.vars.length,c])]++Lg):=kn.stL 2 rfl h8
 have hG8:=kn.e 1 rfl
 refine Q6 ?_
 refine Qa ?_
 simp only[go_sem,hG8,GS.o]
 have hcow:=hgr.isOw
 have rest:∀(E1:Env) (hE6:lk 6 E1=V.c (C.ptr x6 0)) (hE7:lk 7 E1=V.c (C.ptr x7 0)) (l2:List St) (c2:C) (rws:List (List C)) (L2:List (Nat×Obj)) (s3:GS) (H9:Heap) (k3:Nat),k<k3→k3≤k+2001300→
   Kn H H9 [(R.l,R.o k3),(gl,s3.o R)] ([(x6,.st [.str [],.sl true 1 [],.sl true 5 []]),(y,.vec 1 (Qbd s1.vars)),(x7,.st [.str name,.vsl y 1 0 s1.vars.length,c2])]++L2)→Gr L2 5 rws c2→(∀H',FrzR H' (un H) rws (Qau l2))→
   s3.ok k3→s3.fns=s1.fns→s3.ffl=s1.ffl→Qcp l2→4 * k+Qx l2≤4 * k3→Qad prog Qst (Q3 Quk (unK H K)) E1 H9:=by
  intro E1 hE6 hE7 l2 c2 rws L2 s3 H9 k3 e1 e2 kn hg2 hfr e3 e4 e5 e6 e7
  have hx69:=kn.l 0 rfl
  have hx79:=kn.l 2 rfl
  have hcow:=hg2.isOw
  refine Qa ?_
  simp only[go_sem,hE6,hE7,hx69,hx79,hcow]
  intro H10 h10
  have kn:=kn.stL 0 rfl h10
  have hx6a:=kn.l 0 rfl
  have hya:=kn.l 1 rfl
  refine Qk ?_
  simp only[go_sem,Q3,Q9,Quk,reduceIte,List.mem_singleton,forall_eq,RS.op,hx6a,hcow]
  refine⟨(.ag (Fn.mk name s1.vars l2).cells),?_,hK _ s3 _ k3 e1 e2 kn.fin e3 (e4.trans hfn) (e5.trans hff) hvl e6 e7⟩
  refine FrzL.ag (.cons (Qf rfl) (.cons ?_ (.cons ?_ .nil)))
  ·exact Qak8 (kn.un 1 rfl) hya (by simp[Qbd]) (noOw_mem (Qmt _))
  ·exact hg2.frzR (B:=[_,_,_]) kn (hfr _)
 have tl:∀(b:Bool) (H9:Heap) (k3:Nat),k2≤k3→k3≤k2+1→(b=true→0<s2.left)→Kn H H9 [(R.l,R.o k3),(gl,s2.o R)] ([(x6,.st [.str [],.sl true 1 [],.sl true 5 []]),(y,.vec 1 (Qbd s1.vars)),(x7,.st [.str name,.vsl y 1 0 s1.vars.length,c])]++Lg)→
   Qad prog (s_l3Gen_fn_7.seq Qst) (Q3 Quk (unK H K)) [(0,V.c (C.ptr gl 0)),(6,V.c (C.ptr x6 0)),(7,V.c (C.ptr x7 0)),(42,.c (.bool b))] H9:=by
  intro b H9 k3 e1 e2 hb kn
  have hG9:=kn.e 1 rfl
  refine Qh (Qe rfl ?_ ?_)
  ·intro hc
   have hlp:=hb hc
   have hl1:=hs2.l1
   refine Qa ?_
   simp only[go_sem,hG9,GS.o]
   refine⟨Qs (by omega) (by omega),fun H10 h10=>?_⟩
   have kn:Kn H H10 [(R.l,R.o k3),(gl,GS.o { s2 with left:=s2.left-1 } R)] ([(x6,_),(y,_),(x7,_)]++Lg):=kn.stE 1 rfl h10
   have hs3:GS.ok { s2 with left:=s2.left-1 } k3:=⟨hs2.n0,by have:=hs2.n1;show s2.next≤_;omega,by show _≤s2.left-1;omega,by show s2.left-1≤100;omega,by have:=hs2.v;show s2.vars.length≤_;omega,hs2.f,hs2.fn⟩
   have hx7a:=kn.l 2 rfl
   refine Qbf ?_
   simp only[go_sem,hx7a,hcow]
   refine Qby 2 (by omega) (kn.e 0 rfl) (kn.e 1 rfl) hne hs3 (hF1.keep kn g3 g4) (by omega) fun x H11 k4 q1 q2 hu q3 q4=>?_
   have kn:=kn.callE 0 rfl hu (R.o_ne _)
   have hx7b:=kn.l 2 rfl
   simp only[go_sem,Qzz,hx7b,hcow,x.cells_len]
   refine kn.grow (B:=[_,_,_]) hgr (.mk' _ _ _ _) (by intro r hr;simp only[List.mem_singleton]at hr;subst hr;rfl) (by simp only[Qa1,LIM,List.length_cons,List.length_nil];omega) fun y' H12 kn=>?_
   have hx7c:=kn.l 2 rfl
   simp only[go_sem,Qzy,hx7c]
   intro H13 h13
   have kn:=kn.stL 2 rfl h13
   refine rest _ (by simp[lk]) (by simp[lk]) (l++[St.mk 7 [] [x] [] []]) _ _ _ _ H13 k4 (by omega) (by omega) kn (.mk _ _ _ (by simp[Qa1])) (fun H'=>?_) (hs3.mono (by omega)) g3 g4 (Qae9 g6 ?_) ?_
   ·rw[←Qae8]
    refine .app (.same (Qgw _)) ?_
    simp only[Qau,St.cells,Qbk]
    repeat' first|exact FrzL.nil|exact FrzR.nil|exact Qf rfl|exact FrzL.same (Ex.noOw _)|exact FrzL.same (St.noOw _)|refine FrzL.cons ?_ ?_|refine FrzR.cons ?_ ?_|refine FrzR.sl ?_
   ·simp only[Qcp,St.ok,Qdq];exact⟨⟨by simp,⟨q3,trivial⟩,trivial,trivial⟩,trivial⟩
   ·simp only[Qh2,Qx,St.size,Qac];omega
  ·intro hc
   refine Qi ?_
   simp only[go_sem]
   exact rest _ (by simp[lk]) (by simp[lk]) l c _ Lg s2 H9 k3 (by omega) (by omega) kn hgr (fun H'=>.same (Qgw _)) (hs2.mono (by omega)) g3 g4 g6 (by omega)
 refine⟨fun hb=>?_,fun hb=>?_⟩
 ·refine Qa6 (kn.e 0 rfl) (by omega) fun v H9 hv hu=>?_
  have kn:=kn.callE 0 rfl hu (R.o_ne _)
  simp only[go_sem,Qmi,hb]
  exact tl _ H9 (k2+1) (by omega) (by omega) (fun _=>by simpa using hb) kn
 ·simp only[go_sem,Qmi,hb]
  exact tl false H8 k2 (by omega) (by omega) (fun h=>by simp at h) kn
end Go.AE.Y

namespace Go.AE.Y
open Go.Proofs.Tryz
variable {H:Heap}{K:V→Heap→Prop}
theorem Qph {l:List Ex}{i:Nat}(h:i<l.length):Qac (l.take (i+1))=Qac (l.take i)+(l[i]'h).size:=by
 rw[List.take_succ_eq_append_getElem h,Qw8];simp[Qac]
theorem Qt8 {l:List St}{i:Nat}(h:i<l.length):Qx (l.take (i+1))=Qx (l.take i)+(l[i]'h).size:=by
 rw[List.take_succ_eq_append_getElem h,Qh2];simp[Qx]
theorem Qgz (l:List Ex)(i:Nat):Qac (l.take i)≤Qac l:=by
 conv=>rhs;rw[←List.take_append_drop i l,Qw8]
 omega
theorem Qh3 (l:List St)(i:Nat):Qx (l.take i)≤Qx l:=by
 conv=>rhs;rw[←List.take_append_drop i l,Qh2]
 omega
theorem St.size_pos (x:St):1≤x.size:=by rw[x.size_eq];omega
theorem Qafa (l:List St):l.length≤Qx l:=by
 induction l with
 |nil=>simp
 |cons x r ih=>simp only[List.length_cons,Qx];have:=x.size_pos;omega
theorem Qa7y:∀(n:Nat) (x:Ex) {H:Heap} {K:V→Heap→Prop},x.size≤n→x.size≤2^40→K (.c (.int .i64 x.size)) H→Qp prog Qud [.ag x.cells] H K:=by
 intro n
 induction n with
 |zero=>intro x _ _ h;have:=x.size_pos;omega
 |succ n ih=>
 intro x H K hn hb hK
 have hsz:=x.size_kids
 refine Qd Qak Qa8d ?_
 refine Qa ?_
 simp only[go_sem,x.cells_eq]
 refine Qa ?_
 simp only[go_sem]
 refine Q6 ?_
 refine Qa ?_
 simp only[go_sem]
 refine Qh (Qg (Qy (fun n e1 H1=>∃i:Nat,n=x.kids.length-i∧i≤x.kids.length∧H1=H∧e1=[(1,.c (.pp [.int .i64 x.op,.int .i64 x.n,.str x.name,.sl false 4 (Qbk x.kids)])),(3,.c (.int .i64 ((1+Qac (x.kids.take i):Nat):Int))),(4,.c (.int .i64 i))]) x.kids.length ?_ ?_))
 ·exact⟨0,by omega,by omega,rfl,by simp[Qac]⟩
 ·rintro n e1 H1 ⟨i,hn,hi,rfl,rfl⟩
  refine Q6 ?_
  refine Qa ?_
  simp only[go_sem,Qax]
  intro hl
  simp only[LIM]at hl
  refine Qh (Qe rfl ?_ ?_)
  ·intro hc
   have hlt:i<x.kids.length:=by simpa using hc
   have hm:=Qel (List.getElem_mem hlt)
   have htk:=Qph hlt
   have htl:=Qgz x.kids (i+1)
   refine Qi ?_
   simp only[go_sem]
   refine Qh (Qg (Qt ?_))
   simp only[go_sem,hlt,Qax,Qek _ _ hlt,Ex.take4,Ex.allOw,Ex.cells_len]
   refine ih _ (by omega) (by omega) ?_
   simp only[go_sem,Q3v]
   refine⟨Qs (by omega) (by omega),?_⟩
   refine Qt ?_
   simp only[go_sem,X.next]
   refine⟨Qs (by omega) (by omega),x.kids.length-(i+1),by omega,i+1,rfl,by omega,?_⟩
   rw[htk];simp;omega
  ·intro hc
   have hge:x.kids.length≤i:=by simpa using hc
   refine Q0 ?_
   simp only[go_sem,X.next]
   refine Qa ?_
   simp only[go_sem]
   refine Qk ?_
   simp only[go_sem,Q3,Q9,Qaqe,reduceIte,List.mem_singleton,forall_eq,RS.op]
   rw[List.take_of_length_le hge,←hsz];exact hK
theorem Qbcs:∀(n:Nat) (x:Ex) {H:Heap} {K:V→Heap→Prop} (deep:Int),x.size≤n→deep≤100→(∀b:Bool,K (.c (.bool b)) H)→Qp prog Qyh [.ag x.cells,.c (.int .i64 deep)] H K:=by
 intro n
 induction n with
 |zero=>intro x _ _ _ h;have:=x.size_pos;omega
 |succ n ih=>
 intro x H K deep hn hd hK
 have hsz:=x.size_kids
 refine Qd Qak Qbc7 ?_
 refine Qa ?_
 simp only[go_sem,x.cells_eq]
 refine Qa ?_
 simp only[go_sem]
 refine Qbct fun lo hi=>?_
 simp only[go_sem,Qaav,List.getD_cons_zero,List.getD_cons_succ]
 refine Q6 ?_
 refine Qa ?_
 simp only[go_sem]
 have retf:∀(b:Bool) (e:Env),lk 4 e=.c (.bool b)→Q3 Qyu K .ret e H:=by
  intro b e h1
  simp only[go_sem,Q3,Q9,Qyu,List.mem_singleton,forall_eq,RS.op,h1]
  exact hK _
 have rest:∀b:Bool,(b=false→1≤deep)→Qad prog (s_l2Form_3.seq Qaau) (Q3 Qyu K)
   [(1,.c (.int .i64 deep)),(2,.c (.pp [.int .i64 x.op,.int .i64 x.n,.str x.name,.sl false 4 (Qbk x.kids)])),(31,.c (.bool b))] H:=by
  intro b hb
  refine Qh (Qe rfl ?_ ?_)
  ·intro hc
   refine Qa ?_
   simp only[go_sem]
   refine Qk ?_
   simp only[go_sem]
   exact retf false _ (by simp[lk])
  intro hc
  have hdp:=hb hc
  refine Qi ?_
  simp only[go_sem]
  refine Qa ?_
  simp only[go_sem]
  refine Q6 ?_
  refine Qa ?_
  simp only[go_sem]
  refine Q7i fun b1=>?_
  simp only[go_sem,Qaaw]
  have rest2:∀b:Bool,Qad prog (s_l2Form_6.seq Qaat) (Q3 Qyu K)
    [(1,.c (.int .i64 deep)),(2,.c (.pp [.int .i64 x.op,.int .i64 x.n,.str x.name,.sl false 4 (Qbk x.kids)])),(69,.c (.bool b))] H:=by
   intro b
   refine Qh (Qe rfl ?_ ?_)
   ·intro hc
    refine Qa ?_
    simp only[go_sem]
    refine Qk ?_
    simp only[go_sem]
    exact retf false _ (by simp[lk])
   intro hc
   refine Qi ?_
   simp only[go_sem]
   refine Q6 ?_
   refine Qa ?_
   simp only[go_sem]
   refine Qh (Qg (Qy (fun n e1 H1=>∃i:Nat,n=x.kids.length-i∧i≤x.kids.length∧H1=H∧e1=[(1,.c (.int .i64 deep)),(2,.c (.pp [.int .i64 x.op,.int .i64 x.n,.str x.name,.sl false 4 (Qbk x.kids)])),(8,.c (.int .i64 i))]) x.kids.length ?_ ?_))
   ·exact⟨0,by omega,by omega,rfl,rfl⟩
   ·rintro n e1 H1 ⟨i,hn,hi,rfl,rfl⟩
    refine Q6 ?_
    refine Qa ?_
    simp only[go_sem,Qax]
    intro hl
    simp only[LIM]at hl
    refine Qh (Qe rfl ?_ ?_)
    ·intro hc
     have hlt:i<x.kids.length:=by simpa using hc
     have hm:=Qel (List.getElem_mem hlt)
     refine Qi ?_
     simp only[go_sem]
     refine Qh (Qg ?_)
     refine Qa ?_
     simp only[go_sem,hlt,Qax,Qek _ _ hlt,Ex.take4,Ex.allOw,Ex.cells_len]
     refine⟨Qs (by omega) (by omega),?_⟩
     refine ih _ (deep-1) (by omega) (by omega) fun b2=>?_
     simp only[go_sem,Qaax]
     refine Qe rfl ?_ ?_
     ·intro hc2
      refine Qa ?_
      simp only[go_sem]
      refine Qk ?_
      simp only[go_sem,X.next]
      exact retf false _ (by simp[lk])
     ·intro hc2
      refine Qi ?_
      simp only[go_sem]
      refine Qt ?_
      simp only[go_sem,X.next]
      exact⟨Qs (by omega) (by omega),x.kids.length-(i+1),by omega,i+1,rfl,by omega,rfl⟩
    ·intro hc
     refine Q0 ?_
     simp only[go_sem,X.next]
     refine Qa ?_
     simp only[go_sem]
     refine Qk ?_
     exact retf true _ (by simp[lk])
  refine⟨fun hb1=>?_,fun hb1=>?_⟩
  ·refine Qdv ?_
   simp only[go_sem,Qx0]
   exact rest2 _
  ·replace hb1:=Qh7 hb1
   simp only[go_sem,Qx0,hb1]
   exact rest2 _
 refine⟨fun hb1=>?_,fun hb1=>?_⟩
 ·replace hb1:=Qxk hb1
  have hdp:1≤deep:=by simp at hb1;omega
  refine Qdv ?_
  simp only[go_sem,Qxz,hb1,Qax,cond_false]
  intro hl
  refine⟨fun hb2=>?_,fun hb2=>?_⟩
  ·refine Qdv ?_
   simp only[go_sem,Qmh]
   exact rest _ (fun _=>hdp)
  ·replace hb2:=Qh7 hb2
   simp only[go_sem,Qmh,hb2]
   exact rest _ (fun _=>hdp)
 ·replace hb1:=Qh7 hb1
  simp only[go_sem,Qxz,Qmh,hb1,Qax,cond_true]
  exact rest _ (fun h=>by simp at h)
theorem Qauj {x:Ex}(hx:x.size≤2^40)(hK:∀b:Bool,K (.c (.bool b)) H):Qp prog Qhd [.ag x.cells] H K:=by
 refine Qd Qak Qafu ?_
 refine Qa ?_
 simp only[go_sem,Ex.ne_nil]
 refine Qa ?_
 simp only[go_sem,Ex.take4,Ex.allOw,Ex.cells_len]
 refine Qbcs x.size x 6 (Nat.le_refl _) (by omega) fun b=>?_
 simp only[go_sem,Qk8,Ex.take4,Ex.allOw,Ex.cells_len]
 refine⟨fun hb=>?_,fun hb=>?_⟩
 ·refine Qa7y x.size x (Nat.le_refl _) hx ?_
  simp only[go_sem,Qeu]
  refine Qk ?_
  simp only[go_sem,Q3,Q9,Qjl,reduceIte,List.mem_singleton,forall_eq,RS.op]
  exact hK _
 ·simp only[go_sem,Qeu,hb]
  refine Qk ?_
  simp only[go_sem,Q3,Q9,Qjl,reduceIte,List.mem_singleton,forall_eq,RS.op]
  exact hK _
end Go.AE.Y

namespace Go.AE.Y
open Go.Proofs.Tryz
variable {H:Heap}{K:V→Heap→Prop}
def St.raw (x:St):List C:=[.int .i64 x.op,.str x.name,.sl false 4 (Qbk x.args),.sl false 5 (Qau x.body),.sl false 5 (Qau x.els)]
theorem Qa71:∀(n:Nat) (l:List St) {fl:Bool} {H:Heap} {K:V→Heap→Prop},Qx l≤n→Qx l≤2^40→(∀v:Nat,v≤Qx l→K (.c (.int .i64 v)) H)→Qp prog Qj0 [.c (.sl fl 5 (Qau l))] H K:=by
 intro n
 induction n using Nat.strongRecOn with
 |ind n ih=>
 intro l fl H K hn hb hK
 have hlen:=Qafa l
 refine Qd Qak Qa8g ?_
 refine Qa ?_
 simp only[go_sem]
 refine Qa ?_
 simp only[go_sem,Qa1]
 intro hl
 refine Q6 ?_
 refine Qa ?_
 simp only[go_sem]
 refine Qh (Qg (Qy (fun n e1 H1=>∃(i v:Nat),n=l.length-i∧i≤l.length∧v≤(l.length-i)+Qx (l.take i)∧H1=H∧e1=[(0,.c (.sl fl 5 (Qau l))),(3,.c (.int .i64 v)),(4,.c (.int .i64 i))]) l.length ?_ ?_))
 ·exact⟨0,l.length,by omega,by omega,by omega,rfl,rfl⟩
 ·rintro n e1 H1 ⟨i,v,hn1,hi,hv,rfl,rfl⟩
  refine Q6 ?_
  refine Qa ?_
  simp only[go_sem,Qa1]
  simp only[LIM]at hl
  refine fun _=>?_
  refine Qh (Qe rfl ?_ ?_)
  ·intro hc
   have hlt:i<l.length:=by simpa using hc
   have hm:=Qmu (List.getElem_mem hlt)
   have htk:=Qt8 hlt
   have htl:=Qh3 l (i+1)
   have hse:=(l[i]'hlt).size_eq
   refine Qi ?_
   simp only[go_sem]
   refine Qh (Qg (Qbf ?_))
   simp only[go_sem,hlt,Qa1,Qe0 _ _ hlt,St.cells_eq]
   refine ih (Qx l[i].body) (by omega) l[i].body (Nat.le_refl _) (by omega) fun a ha=>?_
   simp only[go_sem,Q3y,hlt,Qa1,Qe0 _ _ hlt,St.cells_eq]
   refine⟨Qs (by omega) (by omega),?_⟩
   refine ih (Qx l[i].els) (by omega) l[i].els (Nat.le_refl _) (by omega) fun c hc=>?_
   simp only[go_sem,Q3x]
   refine⟨Qs (by omega) (by omega),?_⟩
   refine Qt ?_
   simp only[go_sem,X.next]
   refine⟨Qs (by omega) (by omega),l.length-(i+1),by omega,i+1,v+a+c,rfl,by omega,by omega,rfl⟩
  ·intro hc
   have hge:l.length≤i:=by simpa using hc
   refine Q0 ?_
   simp only[go_sem,X.next]
   refine Qa ?_
   simp only[go_sem]
   refine Qk ?_
   simp only[go_sem,Q3,Q9,Qaqf,reduceIte,List.mem_singleton,forall_eq,RS.op]
   rw[List.take_of_length_le hge]at hv
   exact hK v (by omega)
def Qbjh (n:Nat):Prop:=∀(x:St) (deep:Int) (H:Heap) (K:V→Heap→Prop),x.size≤n→x.size≤2^40→deep≤100→(∀b:Bool,K (.c (.bool b)) H)→Qp prog Q8c [.ag x.cells,.c (.int .i64 deep)] H K
def Qa6n (n:Nat):Prop:=∀(l:List St) (deep:Int) (fl:Bool) (H:Heap) (K:V→Heap→Prop),Qx l≤n→Qx l≤2^40→deep≤100→(∀b:Bool,K (.c (.bool b)) H)→Qp prog Qj1 [.c (.sl fl 5 (Qau l)),.c (.int .i64 deep)] H K
theorem Qbfi {n:Nat}(hS:Qbjh n):Qa6n n:=by
 intro l deep fl H K hn hb hd hK
 refine Qd Qak Qa8h ?_
 have retf:∀(b:Bool) (e:Env),lk 4 e=.c (.bool b)→Q3 Q9h K .ret e H:=by
  intro b e h1
  simp only[go_sem,Q3,Q9,Q9h,List.mem_singleton,forall_eq,RS.op,h1]
  exact hK _
 refine Qa ?_
 simp only[go_sem]
 refine Q6 ?_
 refine Qa ?_
 simp only[go_sem]
 refine Qh (Qg (Qy (fun n e1 H1=>∃(i:Nat),n=l.length-i∧i≤l.length∧H1=H∧e1=[(0,.c (.sl fl 5 (Qau l))),(1,.c (.int .i64 deep)),(5,.c (.int .i64 i))]) l.length ?_ ?_))
 ·exact⟨0,by omega,by omega,rfl,rfl⟩
 ·rintro n e1 H1 ⟨i,hn1,hi,rfl,rfl⟩
  refine Q6 ?_
  refine Qa ?_
  simp only[go_sem,Qa1]
  intro hl
  simp only[LIM]at hl
  refine Qh (Qe rfl ?_ ?_)
  ·intro hc
   have hlt:i<l.length:=by simpa using hc
   have hm:=Qmu (List.getElem_mem hlt)
   refine Qi ?_
   simp only[go_sem]
   refine Qh (Qg ?_)
   refine Qa ?_
   simp only[go_sem,hlt,Qa1,Qe0 _ _ hlt,St.take5,St.allOw,St.cells_len]
   refine hS _ deep _ _ (by omega) (by omega) hd fun b=>?_
   simp only[go_sem,Q37]
   refine Qe rfl ?_ ?_
   ·intro hc2
    refine Qa ?_
    simp only[go_sem]
    refine Qk ?_
    simp only[go_sem,X.next]
    exact retf false _ (by simp[lk])
   ·intro hc2
    refine Qi ?_
    simp only[go_sem]
    refine Qt ?_
    simp only[go_sem,X.next]
    exact⟨Qs (by omega) (by omega),l.length-(i+1),by omega,i+1,rfl,by omega,rfl⟩
  ·intro hc
   refine Q0 ?_
   simp only[go_sem,X.next]
   refine Qa ?_
   simp only[go_sem]
   refine Qk ?_
   exact retf true _ (by simp[lk])
theorem Qbiw {n:Nat}(hS:∀m,m<n→Qa6n m):Qbjh n:=by
 intro x deep H K hn hb hd hK
 have hsz:=x.size_eq
 refine Qd Qak Qbdc ?_
 have retf:∀(b:Bool) (e:Env),lk 4 e=.c (.bool b)→Q3 Q7t K .ret e H:=by
  intro b e h1
  simp only[go_sem,Q3,Q9,Q7t,List.mem_singleton,forall_eq,RS.op,h1]
  exact hK _
 refine Qa ?_
 simp only[go_sem,x.cells_eq]
 refine Q6 ?_
 refine Qag ?_
 simp only[go_sem]
 have rest:∀b:Bool,(b=false→1≤deep∧x.args.length=if x.op=4 then 2 else 1)→Qad prog (s_l3Stmt_2.seq Qab5) (Q3 Q7t K)
   [(1,.c (.int .i64 deep)),(2,.c (.pp [.int .i64 x.op,.str x.name,.sl false 4 (Qbk x.args),.sl false 5 (Qau x.body),.sl false 5 (Qau x.els)])),(23,.c (.bool b))] H:=by
  intro b hb
  refine Qh (Qe rfl ?_ ?_)
  ·intro hc
   refine Qa ?_
   simp only[go_sem]
   refine Qk ?_
   simp only[go_sem]
   exact retf false _ (by simp[lk])
  intro hc
  obtain⟨hdp,hal⟩:=hb hc
  have hap:0<x.args.length:=by rw[hal];split <;> omega
  refine Qi ?_
  simp only[go_sem]
  refine Qa ?_
  simp only[go_sem]
  refine Q6 ?_
  refine Qa ?_
  simp only[go_sem]
  refine Q7i fun b1=>?_
  simp only[go_sem,Qab6]
  refine Qh (Qe rfl ?_ ?_)
  ·intro hc
   refine Qa ?_
   simp only[go_sem]
   refine Qk ?_
   simp only[go_sem]
   exact retf false _ (by simp[lk])
  intro hc
  refine Qi ?_
  simp only[go_sem]
  refine Q6 ?_
  refine Qa ?_
  simp only[go_sem]
  refine Qh (Qg (Qy (fun n e1 H1=>∃(i:Nat),n=x.args.length-i∧i≤x.args.length∧H1=H∧e1=[(1,.c (.int .i64 deep)),(2,.c (.pp [.int .i64 x.op,.str x.name,.sl false 4 (Qbk x.args),.sl false 5 (Qau x.body),.sl false 5 (Qau x.els)])),(6,.c (.int .i64 i))]) x.args.length ?_ ?_))
  ·exact⟨0,by omega,by omega,rfl,rfl⟩
  ·rintro n e1 H1 ⟨i,hn1,hi,rfl,rfl⟩
   refine Q6 ?_
   refine Qa ?_
   simp only[go_sem,Qax]
   intro hl
   simp only[LIM]at hl
   refine Qh (Qe rfl ?_ ?_)
   ·intro hc
    have hlt:i<x.args.length:=by simpa using hc
    have hm:=Qel (List.getElem_mem hlt)
    refine Qi ?_
    simp only[go_sem]
    refine Qh (Qg ?_)
    refine Qa ?_
    simp only[go_sem,hlt,Qax,Qek _ _ hlt,Ex.take4,Ex.allOw,Ex.cells_len]
    refine Qauj (by omega) fun b=>?_
    simp only[go_sem,Qab7]
    refine Qe rfl ?_ ?_
    ·intro hc2
     refine Qa ?_
     simp only[go_sem]
     refine Qk ?_
     simp only[go_sem,X.next]
     exact retf false _ (by simp[lk])
    ·intro hc2
     refine Qi ?_
     simp only[go_sem]
     refine Qt ?_
     simp only[go_sem,X.next]
     exact⟨Qs (by omega) (by omega),x.args.length-(i+1),by omega,i+1,rfl,by omega,rfl⟩
   ·intro hc
    refine Q0 ?_
    simp only[go_sem,X.next]
    refine Q6 ?_
    refine Qa ?_
    simp only[go_sem,hap,Qax,Qek _ _ hap,Ex.cells_eq]
    refine⟨fun _=>Int.le_refl _,?_⟩
    refine Qh (Qe rfl ?_ ?_)
    ·intro hc
     refine Qa ?_
     simp only[go_sem]
     refine Qk ?_
     simp only[go_sem]
     exact retf false _ (by simp[lk])
    intro hc
    refine Qi ?_
    simp only[go_sem]
    refine Q6 ?_
    refine Qa ?_
    simp only[go_sem,Qa1]
    intros
    refine Qh (Qe rfl ?_ ?_)
    ·intro hc
     refine Qa ?_
     simp only[go_sem]
     refine Qk ?_
     simp only[go_sem]
     exact retf false _ (by simp[lk])
    intro hc
    refine Qi ?_
    simp only[go_sem]
    refine Qa ?_
    simp only[go_sem]
    refine⟨Qs (by omega) (by omega),?_⟩
    refine hS (Qx x.body) (by omega) _ _ _ _ _ (Nat.le_refl _) (by omega) (by omega) fun b1=>?_
    simp only[go_sem,Q36]
    refine⟨fun _=>Qs (by omega) (by omega),?_⟩
    refine⟨fun hb1=>?_,fun hb1=>?_⟩
    ·refine hS (Qx x.els) (by omega) _ _ _ _ _ (Nat.le_refl _) (by omega) (by omega) fun b2=>?_
     simp only[go_sem,Qtd]
     refine Qk ?_
     exact retf _ _ (by simp[lk];rfl)
    ·simp only[go_sem,Qtd,hb1]
     refine Qk ?_
     exact retf false _ (by simp[lk])
 refine⟨fun hb1=>?_,fun hb1=>?_⟩
 ·replace hb1:=Qxk hb1
  have hdp:1≤deep:=by simp at hb1;omega
  refine Qdv ?_
  simp only[go_sem,Qx2,hb1,Qax,cond_false]
  refine⟨fun hb2=>?_,fun hb2=>?_⟩
  ·refine Qbcv ?_
   simp only[go_sem,Qmj,Qax]
   refine rest _ (fun h=>⟨hdp,?_⟩)
   have h1:(x.args.length:Int)=if x.op=4 then 2 else 1:=by
    cases h2:decide (1≤x.op∧x.op≤8) <;> rw[h2]at h <;> simp_all
   by_cases h4:x.op=4
   ·rw[if_pos h4]at h1⊢;omega
   ·rw[if_neg h4]at h1⊢;omega
  ·replace hb2:=Qh7 hb2
   simp only[go_sem,Qmj,hb2,Qax]
   exact rest _ (fun h=>by simp at h)
 ·replace hb1:=Qh7 hb1
  simp only[go_sem,Qx2,Qmj,hb1,Qax,cond_true]
  exact rest _ (fun h=>by simp at h)
theorem Qbix (n:Nat):Qa6n n:=by
 induction n using Nat.strongRecOn with
 |ind n ih=>exact Qbfi (Qbiw ih)
theorem Qbj9 {f:Fn}(hf:Qx f.body≤2^40)(hK:∀b:Bool,K (.c (.bool b)) H):Qp prog Qau0 [.ag f.cells] H K:=by
 refine Qd Qak Qbke ?_
 have retf:∀(b:Bool) (e:Env),lk 2 e=.c (.bool b)→Q3 Qa85 K .ret e H:=by
  intro b e h1
  simp only[go_sem,Q3,Q9,Qa85,List.mem_singleton,forall_eq,RS.op,h1]
  exact hK _
 refine Qa ?_
 simp only[go_sem,Fn.cells]
 refine Q6 ?_
 refine Qa ?_
 simp only[go_sem]
 refine Qh (Qg (Qy (fun n e1 H1=>∃(i:Nat),n=f.params.length-i∧i≤f.params.length∧H1=H∧e1=[(1,.c (.pp [.str f.name,.sl false 1 (Qbd f.params),.sl false 5 (Qau f.body)])),(3,.c (.int .i64 i))]) f.params.length ?_ ?_))
 ·exact⟨0,by omega,by omega,rfl,rfl⟩
 ·rintro n e1 H1 ⟨i,hn1,hi,rfl,rfl⟩
  refine Q6 ?_
  refine Qa ?_
  simp only[go_sem,Qam]
  intro hl
  simp only[LIM]at hl
  refine Qh (Qe rfl ?_ ?_)
  ·intro hc
   have hlt:i<f.params.length:=by simpa using hc
   refine Qi ?_
   simp only[go_sem]
   refine Qh (Qg ?_)
   refine Qa ?_
   simp only[go_sem,hlt,Qam,Qh1 _ _ hlt]
   refine Q7i fun b=>?_
   simp only[go_sem,Qasa]
   refine Qe rfl ?_ ?_
   ·intro hc2
    refine Qa ?_
    simp only[go_sem]
    refine Qk ?_
    simp only[go_sem,X.next]
    exact retf false _ (by simp[lk])
   ·intro hc2
    refine Qi ?_
    simp only[go_sem]
    refine Qt ?_
    simp only[go_sem,X.next]
    exact⟨Qs (by omega) (by omega),f.params.length-(i+1),by omega,i+1,rfl,by omega,rfl⟩
  ·intro hc
   refine Q0 ?_
   simp only[go_sem,X.next]
   refine Qa ?_
   simp only[go_sem]
   refine Q7i fun b=>?_
   simp only[go_sem,Qasb,Qam]
   intros
   refine⟨fun hb1=>?_,fun hb1=>?_⟩
   ·refine Qbix _ _ _ _ _ _ (Nat.le_refl _) hf (by omega) fun b2=>?_
    simp only[go_sem,Qaa1]
    refine Qk ?_
    exact retf _ _ (by simp[lk];rfl)
   ·simp only[go_sem,Qaa1,hb1]
    refine Qk ?_
    exact retf false _ (by simp[lk])
def Qaz:List Fn→Nat
 |[]=>0
 |f::r=>Qx f.body+Qaz r
theorem Qp4 {l:List Fn}{f:Fn}(h:f∈l):Qx f.body≤Qaz l:=by
 induction l with
 |nil=>simp at h
 |cons g r ih=>
  simp only[Qaz]
  rcases List.mem_cons.1 h with rfl|h
  ·omega
  ·have:=ih h;omega
theorem Qij (a b:List Fn):Qaz (a++b)=Qaz a+Qaz b:=by
 induction a with
 |nil=>simp[Qaz]
 |cons x r ih=>simp only[List.cons_append,Qaz,ih];omega
theorem Qalz {l:List Fn}{i:Nat}(h:i<l.length):Qaz (l.take (i+1))=Qaz (l.take i)+Qx (l[i]'h).body:=by
 rw[List.take_succ_eq_append_getElem h,Qij];simp[Qaz]
theorem Q49 (l:List Fn)(i:Nat):Qaz (l.take i)≤Qaz l:=by
 conv=>rhs;rw[←List.take_append_drop i l,Qij]
 omega
theorem Qbhn {l:List Fn}{fl:Bool}(hf:Qaz l≤2^40)(hK:∀n:Int,K (.c (.int .i64 n)) H):Qp prog Qak5 [.ag [.sl fl 3 (Qb2 l)]] H K:=by
 refine Qd Qak Qbhy ?_
 refine Qa ?_
 simp only[go_sem]
 refine Qa ?_
 simp only[go_sem]
 refine Q6 ?_
 refine Qa ?_
 simp only[go_sem]
 refine Qh (Qg (Qy (fun n e1 H1=>∃(i v:Nat),n=l.length-i∧i≤l.length∧v≤Qaz (l.take i)∧H1=H∧e1=[(1,.c (.pp [.sl fl 3 (Qb2 l)])),(3,.c (.int .i64 v)),(4,.c (.int .i64 i))]) l.length ?_ ?_))
 ·exact⟨0,0,by omega,by omega,by omega,rfl,rfl⟩
 ·rintro n e1 H1 ⟨i,v,hn1,hi,hv,rfl,rfl⟩
  refine Q6 ?_
  refine Qa ?_
  simp only[go_sem,Qba]
  intro hl
  simp only[LIM]at hl
  refine Qh (Qe rfl ?_ ?_)
  ·intro hc
   have hlt:i<l.length:=by simpa using hc
   have hm:=Qp4 (List.getElem_mem hlt)
   have htk:=Qalz hlt
   have htl:=Q49 l (i+1)
   refine Qi ?_
   simp only[go_sem]
   refine Qh (Qg (Qt ?_))
   simp only[go_sem,hlt,Qba,Qgu _ _ hlt,Fn.cells]
   refine Qa71 _ _ (Nat.le_refl _) (by omega) fun c hc=>?_
   simp only[go_sem,Qakk]
   refine⟨Qs (by omega) (by omega),?_⟩
   refine Qt ?_
   simp only[go_sem,X.next]
   exact⟨Qs (by omega) (by omega),l.length-(i+1),by omega,i+1,v+c,rfl,by omega,by omega,rfl⟩
  ·intro hc
   refine Q0 ?_
   simp only[go_sem,X.next]
   refine Qa ?_
   simp only[go_sem]
   refine Qk ?_
   simp only[go_sem,Q3,Q9,Qa84,reduceIte,List.mem_singleton,forall_eq,RS.op]
   exact hK _
theorem Qafc {l:List Fn}{fl:Bool}(hf:Qaz l≤2^40)(hK:∀b:Bool,K (.c (.bool b)) H):Qp prog Qds [.ag [.sl fl 3 (Qb2 l)]] H K:=by
 refine Qd Qak Q0y ?_
 have retf:∀(b:Bool) (e:Env),lk 2 e=.c (.bool b)→Q3 Qep K .ret e H:=by
  intro b e h1
  simp only[go_sem,Q3,Q9,Qep,List.mem_singleton,forall_eq,RS.op,h1]
  exact hK _
 refine Qa ?_
 simp only[go_sem]
 refine Q6 ?_
 refine Qa ?_
 simp only[go_sem,Qba]
 intro hl
 simp only[LIM]at hl
 refine Qdv ?_
 simp only[go_sem,Qgb]
 refine Qh (Qe rfl ?_ ?_)
 ·intro hc
  refine Qa ?_
  simp only[go_sem]
  refine Qk ?_
  simp only[go_sem]
  exact retf false _ (by simp[lk])
 intro hc
 refine Qi ?_
 simp only[go_sem]
 refine Q6 ?_
 refine Qa ?_
 simp only[go_sem]
 refine Qh (Qg (Qy (fun n e1 H1=>∃(i:Nat),n=l.length-i∧i≤l.length∧H1=H∧e1=[(1,.c (.pp [.sl fl 3 (Qb2 l)])),(3,.c (.int .i64 i))]) l.length ?_ ?_))
 ·exact⟨0,by omega,by omega,rfl,rfl⟩
 ·rintro n e1 H1 ⟨i,hn1,hi,rfl,rfl⟩
  refine Q6 ?_
  refine Qa ?_
  simp only[go_sem,Qba]
  refine fun _=>?_
  refine Qh (Qe rfl ?_ ?_)
  ·intro hc
   have hlt:i<l.length:=by simpa using hc
   have hm:=Qp4 (List.getElem_mem hlt)
   refine Qi ?_
   simp only[go_sem]
   refine Qh (Qg ?_)
   refine Qa ?_
   simp only[go_sem,hlt,Qba,Qgu _ _ hlt,Fn.take3,Fn.allOw,Fn.cells_len]
   refine Qbj9 (by omega) fun b=>?_
   simp only[go_sem,Qgc]
   refine Qe rfl ?_ ?_
   ·intro hc2
    refine Qa ?_
    simp only[go_sem]
    refine Qk ?_
    simp only[go_sem,X.next]
    exact retf false _ (by simp[lk])
   ·intro hc2
    refine Qi ?_
    simp only[go_sem]
    refine Qt ?_
    simp only[go_sem,X.next]
    exact⟨Qs (by omega) (by omega),l.length-(i+1),by omega,i+1,rfl,by omega,rfl⟩
  ·intro hc
   refine Q0 ?_
   simp only[go_sem,X.next]
   refine Qa ?_
   simp only[go_sem]
   refine Qbhn hf fun n=>?_
   simp only[go_sem,Qgd]
   refine Qk ?_
   exact retf _ _ (by simp[lk];rfl)
end Go.AE.Y

namespace Go.AE.Y
open Go.Proofs.Tryz
structure PrOk (l:List Fn):Prop where
 pos:0<l.length
 par:∀f∈l,f.params.length≤3
 ok:∀f∈l,Qcp f.body
 size:Qaz l≤2^34
 len:l.length≤4
end Go.AE.Y
namespace Go.AE
open Go.AE.Y
open Go.Proofs.Tryz
theorem Kn.perm4 {H0 H:Heap}{E:List (Nat×Obj)}{a b c d:Nat×Obj}(kn:Kn H0 H E [a,b,c,d]):Kn H0 H E [a,b,d]:=
 Kn.drop (A:=[a,b,d]) (B:=[c]) (kn.perm (.cons _ (.cons _ (.swap _ _ _))))
end Go.AE
namespace Go.AE.Y
open Go.Proofs.Tryz
set_option maxHeartbeats 2000000 in
theorem Qbcw {R:Rdr}{k:Nat}{H:Heap}{K:V→Heap→Prop}(hR:H R.l=R.o k)(hk:k+7000000≤2^30)
  (hK:∀(l:List Fn) (H':Heap) (k':Nat),k<k'→k'≤k+7000000→Upd H H' [(R.l,R.o k')]→PrOk l→K (.ag [.sl false 3 (Qb2 l)]) H') :
  Qp prog Q8b [.c (.ptr R.l 0)] H K:=by
 refine Qz ?_
 refine Qd Qak Qbdb ?_
 refine Qa ?_
 simp only[go_sem]
 intro x2 hx2 H1 h1
 have kn:=(Kn.start1 hR (R.o_ne k)).al hx2 h1
 refine Qa ?_
 simp only[go_sem]
 refine Qka (ns:=[14,20,8,26]) (kn.e 0 rfl) (by omega) (by simp) fun v H2 hv hu=>?_
 have kn:=kn.callE 0 rfl hu (R.o_ne _)
 simp only[go_sem,Qabz]
 intro gl hgl H3 h3
 have kn:Kn H H3 [(R.l,R.o (k+1))] [(x2,.st [.sl true 3 []]),(gl,GS.o ⟨[],(.sl true 3 [],[]),[],true,0,v⟩ R)]:=kn.al hgl h3
 have hv26:0≤v∧v≤26:=by simp at hv;omega
 simp only[go_sem,Qaby]
 have hne:R.l≠gl:=kn.ne 0 1 rfl rfl
 refine Q6 ?_
 refine Qa ?_
 simp only[go_sem]
 refine Qka (ns:=[0,1,1,2]) (kn.e 0 rfl) (by omega) (by simp) fun cnt H4 hcnt hu=>?_
 have kn:=kn.callE 0 rfl hu (R.o_ne _)
 have hc2:0≤cnt∧cnt≤2:=by simp at hcnt;omega
 simp only[go_sem,Qab0]
 obtain⟨M,hM⟩:∃M:Nat,M=2001301:=⟨_,rfl⟩
 refine Qh (Qg (Qy (fun n e1 H1=>∃(j k4:Nat) (s:GS),n=cnt.toNat-j∧(j:Int)≤cnt∧s.fns.length=j∧k+2≤k4∧k4≤k+2+M * j∧s.ok k4∧(∀f∈s.fns,Qcp f.body)∧4 * k+Qaz s.fns≤4 * k4∧
   Gr s.ffl.2 3 (Qb2 s.fns) s.ffl.1∧Kn H H1 [(R.l,R.o k4)] ([(x2,.st [.sl true 3 []]),(gl,s.o R)]++s.ffl.2)∧
   e1=[(0,.c (.ptr R.l 0)),(2,.c (.ptr x2 0)),(3,.c (.ptr gl 0)),(4,.c (.int .i64 (cnt-j)))]) cnt.toNat ?_ ?_))
 ·refine⟨0,k+2,⟨[],(.sl true 3 [],[]),[],true,0,v⟩,by omega,by omega,rfl,by omega,by omega,⟨?_,?_,?_,?_,by simp,by simp,by simp⟩,by simp,by simp only[Qaz];omega,.nil 3,kn,by simp⟩
  ·show -1≤(0:Int);omega
  ·show (0:Int)≤_;omega
  ·show _≤v;omega
  ·show v≤100;omega
 ·rintro n e1 H1 ⟨j,k4,s,hn,hj,hfl,hk4,hk4',hs,hfok,hsz,hgr,kn,rfl⟩
  have hMj:M * j≤M * 2:=Nat.mul_le_mul_left _ (by omega)
  have hM1:M * (j+1)=M * j+M:=Nat.mul_succ _ _
  have hG1:=kn.l 1 rfl
  have hfow:=hgr.isOw
  have hflen:=hgr.lenC
  rw[Qba]at hflen
  refine Q6 ?_
  refine Qa ?_
  simp only[go_sem]
  refine Qh (Qe rfl ?_ ?_)
  ·intro hc
   have hi:(j:Int)<cnt:=by simp at hc;omega
   refine Qi ?_
   simp only[go_sem]
   refine Qh (Qg ?_)
   have hfok':=(hgr.okSl (B:=[_,_]) kn)
   have eg:List.getD [[C.str [102]],[C.str [103]],[C.str [104]]] s.fns.length []=[.str (List.getD [[102],[103],[104]] s.fns.length [])]:=Qh1 [[102],[103],[104]] _ (by simp;omega)
   have hl3:s.fns.length<3:=by omega
   refine Qag ?_
   simp only[go_sem,hG1,GS.o,hfow,hflen,eq_true hfok',eg,hl3]
   refine Qa6 (kn.e 0 rfl) (by omega) fun p H2 hp hu=>?_
   have kn:Kn H H2 [(R.l,R.o (k4+1))] ([(x2,.st [.sl true 3 []]),(gl,s.o R)]++s.ffl.2):=kn.callE 0 rfl hu (R.o_ne _)
   rw[if_neg (by omega)]at hp
   have hG2:=kn.l 1 rfl
   have hfok2:=(hgr.okSl (B:=[_,_]) kn)
   simp only[go_sem,Qab3,hG2,GS.o,hfow,hflen,eq_true hfok2,eg,hl3]
   have hF:FnsOk H2 R gl s:=⟨hgr,fun q hq=>by
    have h1:=kn.get q (List.mem_append_right _ (List.mem_append_right _ hq))
    refine⟨h1.1,fun hh=>?_,fun hh=>?_⟩
    ·exact kn.usedE 0 rfl (hh▸kn.loc q (List.mem_append_right _ hq))
    ·have:=kn.dL
     rw[List.map_append]at this
     exact (List.nodup_append.1 this).2.2 gl (by simp) q.1 (Qbw hq) hh.symm⟩
   refine Qaj2 hp.1 (by omega) (kn.e 0 rfl) (kn.l 1 rfl) hne (hs.mono (Nat.le_succ k4)) hF (by omega) fun f s2 H5 k5 g1 g2 hu hs2 g3 g4 g5 g6 g7=>?_
   have kn:=kn.callEL 0 1 rfl rfl hu (R.o_ne _) (GS.o_ne _ _)
   have kn:Kn H H5 [(R.l,R.o k5)] ([(x2,.st [.sl true 3 []]),(gl,s2.o R)]++s.ffl.2):=kn
   simp only[go_sem,Qab2]
   intro x5 hx5 H6 h6
   have kn:=kn.al hx5 h6
   have kn:=kn.perm (L':=[(x2,_),(gl,_),(x5,_)]++s.ffl.2) (by
    simp only[List.cons_append,List.nil_append,List.append_assoc]
    exact .cons _ (.cons _ List.perm_append_comm))
   have hG6:=kn.l 1 rfl
   have hx56:=kn.l 2 rfl
   have hfok6:=(hgr.okSl (B:=[_,_,_]) kn)
   simp only[go_sem,Qab1,hG6,hx56,GS.o,g3,g4,hfow,hflen,eq_true hfok6,eg,hl3,Fn.cells]
   intro H7 h7
   have kn:Kn H H7 [(R.l,R.o k5)] ([(x2,_),(gl,_),(x5,_)]++s.ffl.2):=kn.stL 2 rfl h7
   have hG7:=kn.l 1 rfl
   have hx57:=kn.l 2 rfl
   refine Qbf ?_
   simp only[go_sem,hG7,hx57,GS.o,g4,hfow]
   refine kn.grow (B:=[_,_,_]) (new:=[f.cells]) hgr (.mk' _ _ _ _) (by simp[f.noOw]) (by simp only[Qba,LIM,List.length_cons,List.length_nil];omega) fun z H8 kn=>?_
   have hG8:=kn.l 1 rfl
   simp only[go_sem,Qab4,hG8,GS.o]
   intro H9 h9
   have kn:=kn.stL 1 rfl h9
   obtain⟨s9,hs9⟩:∃s9:GS,s9=GS.mk (s.fns++[f]) (C.vsl z 3 0 ((Qb2 s.fns).length+1),[(z,Obj.vec 3 (Qb2 s.fns++[f.cells]))]) s2.vars s2.vfl s2.next s2.left:=⟨_,rfl⟩
   have ho9:s9.o R=.st [C.ptr R.l 0,C.vsl z 3 0 ((Qb2 s.fns).length+1),C.sl s2.vfl 1 (Qbd s2.vars),C.int IntKind.i64 s2.next,C.int IntKind.i64 s2.left]:=by rw[hs9];rfl
   rw[←ho9]at kn
   have kn:Kn H H9 [(R.l,R.o k5)] [(x2,_),(gl,s9.o R),(x5,_),(z,_)]:=kn
   have kn:=kn.perm4
   refine Qt ?_
   simp only[go_sem,X.next]
   have hkb:k5≤k+2+M * (j+1):=by rw[hM1];omega
   refine⟨Qs (by omega) (by omega),cnt.toNat-(j+1),by omega,j+1,k5,s9,rfl,by omega,by simp[hs9,hfl],by omega,hkb,?_,?_,?_,?_,by rw[hs9]at kn⊢;exact kn,?_⟩
   ·subst hs9;refine⟨hs2.n0,hs2.n1,hs2.l0,hs2.l1,hs2.v,fun f' hf'=>?_,by simp;omega⟩
    rcases List.mem_append.1 hf' with h|h
    ·exact hs.f f' h
    ·simp at h;subst h;exact g5
   ·subst hs9;intro f' hf'
    rcases List.mem_append.1 hf' with h|h
    ·exact hfok f' h
    ·simp at h;subst h;exact g6
   ·subst hs9;simp only[Qij,Qaz];omega
   ·subst hs9;show Gr [(z,Obj.vec 3 (Qb2 s.fns++[f.cells]))] 3 (Qb2 (s.fns++[f])) _;rw[Qajy];exact .mk _ _ _ (by simp[Qba])
   ·have:cnt-((j+1:Nat):Int)=cnt-j-1:=by omega
    rw[this]
  ·intro hc
   refine Q0 ?_
   simp only[go_sem,X.next]
   have hkE:k4≤k+4002604:=by omega
   refine Qa ?_
   simp only[go_sem]
   refine Qka (ns:=[0,1,2,1]) (kn.e 0 rfl) (by omega) (by simp) fun p H2 hp hu=>?_
   have kn:Kn H H2 [(R.l,R.o (k4+1))] ([(x2,.st [.sl true 3 []]),(gl,s.o R)]++s.ffl.2):=kn.callE 0 rfl hu (R.o_ne _)
   have hp2:0≤p∧p≤3:=by simp at hp;omega
   simp only[go_sem,Q31]
   have hF:FnsOk H2 R gl s:=⟨hgr,fun q hq=>by
    have h1:=kn.get q (List.mem_append_right _ (List.mem_append_right _ hq))
    refine⟨h1.1,fun hh=>?_,fun hh=>?_⟩
    ·exact kn.usedE 0 rfl (hh▸kn.loc q (List.mem_append_right _ hq))
    ·have:=kn.dL
     rw[List.map_append]at this
     exact (List.nodup_append.1 this).2.2 gl (by simp) q.1 (Qbw hq) hh.symm⟩
   refine Qaj2 hp2.1 hp2.2 (kn.e 0 rfl) (kn.l 1 rfl) hne (hs.mono (Nat.le_succ k4)) hF (by omega) fun f s2 H5 k5 g1 g2 hu hs2 g3 g4 g5 g6 g7=>?_
   have kn:=kn.callEL 0 1 rfl rfl hu (R.o_ne _) (GS.o_ne _ _)
   have kn:Kn H H5 [(R.l,R.o k5)] ([(x2,.st [.sl true 3 []]),(gl,s2.o R)]++s.ffl.2):=kn
   simp only[go_sem,Q30]
   intro x6 hx6 H6 h6
   have kn:=kn.al hx6 h6
   have kn:=kn.perm (L':=[(x2,_),(gl,_),(x6,_)]++s.ffl.2) (by
    simp only[List.cons_append,List.nil_append,List.append_assoc]
    exact .cons _ (.cons _ List.perm_append_comm))
   have hx66:=kn.l 2 rfl
   simp only[go_sem,Q3z,hx66,Fn.cells]
   intro H7 h7
   have kn:Kn H H7 [(R.l,R.o k5)] ([(x2,_),(gl,_),(x6,_)]++s.ffl.2):=kn.stL 2 rfl h7
   have hG7:=kn.l 1 rfl
   have hx67:=kn.l 2 rfl
   have hfok7:=hgr.okSl (B:=[_,_,_]) kn
   have hrows7:=hgr.rowsOf (B:=[_,_,_]) kn
   have hesz:=hgr.elemSz
   have hL:s.fns.length≤LIM:=by simp only[LIM];omega
   refine Qag ?_
   simp only[go_sem,hG7,hx67,GS.o,g4,hfow,hflen,eq_true hfok7,hrows7,hesz,hL,Nat.zero_add]
   refine⟨.inl trivial,Qajx _,fun y hy H8 h8=>?_⟩
   have kn:=kn.al hy h8
   have kn:=kn.perm (L':=([(x2,_),(gl,_),(x6,_)]++[(y,_)])++s.ffl.2) Qbkm
   have kn:=kn.drop
   have hx68:=kn.l 2 rfl
   have kn:Kn H H8 [(R.l,R.o k5)] [(x2,_),(gl,_),(x6,_),(y,_)]:=kn
   have hy8:=kn.l 3 rfl
   have etk:List.take s.fns.length (Qb2 s.fns)=Qb2 s.fns:=List.take_of_length_le (by rw[Qba];omega)
   simp only[go_sem,Q34,hx68,hy8,Qba,etk]
   refine⟨by omega,by simp only[LIM];omega,fun z hz H9 h9=>?_⟩
   have kn:Kn H H9 [(R.l,R.o k5)] [(x2,_),(gl,_),(x6,_),(z,.vec 3 (Qb2 s.fns++[f.cells]))]:=kn.ap 3 rfl hz h9
   simp only[go_sem,Q33]
   intro x7 hx7 H10 h10
   have kn:=kn.al hx7 h10
   have hG10:=kn.l 1 rfl
   have hx6a:=kn.l 2 rfl
   have hx7a:=kn.l 4 rfl
   have kn:Kn H H10 [(R.l,R.o k5)] [(x2,_),(gl,_),(x6,_),(z,_),(x7,_)]:=kn
   simp only[go_sem,Q32,hG10,hx6a,hx7a,GS.o,g4,hfow]
   intro H11 h11
   have kn:=kn.stL 4 rfl h11
   have kn:Kn H H11 [(R.l,R.o k5)] ([(x2,.st [.sl true 3 []]),(x7,.st [.vsl z 3 0 (s.fns.length+1)])]++[(z,.vec 3 (Qb2 s.fns++[f.cells]))]):=
    (kn.perm (L':=([(x2,_),(x7,_)]++[(z,_)])++[(gl,_),(x6,_)]) (by
     simp only[List.set,List.cons_append,List.nil_append]
     refine .cons _ ?_
     refine .trans (.cons _ (.cons _ (.swap _ _ _))) ?_
     refine .trans (.cons _ (.swap _ _ _)) ?_
     refine .trans (.swap _ _ _) ?_
     refine .cons _ ?_
     refine .trans (.cons _ (.swap _ _ _)) ?_
     exact .swap _ _ _)).drop
   have hz11:=kn.l 2 rfl
   have hx711:=kn.l 1 rfl
   obtain⟨hfz,kn⟩:=kn.freeze 1 rfl (og':=.st [.sl false 3 (Qb2 (s.fns++[f]))]) (FrzKL.st (.cons rfl (by
    rw[←Qajy]
    exact Qak8 (by simp) hz11 (by simp[Qba]) (noOw_mem (Qbdt (Qajx _) (by simp[f.noOw])))) .nil)) (by simp)
   refine Q6 ?_
   refine c_gh (Qdg _ (fun t=>?_) hfz) (e':=[(2,V.c (C.ptr x2 0)),(7,V.c (C.ptr x7 0))]) ?_
   ·simp only[lk]
    split
    ·exact .c _ _ (.same _ rfl)
    ·split
     ·exact .c _ _ (.same _ rfl)
     ·exact .unk _
   generalize ((H11.frz fun m=>m == z).set x7 (Obj.st [C.sl false 3 (Qb2 (s.fns++[f]))]))=H12 at *
   have hx7b:=kn.l 1 rfl
   have hx2b:=kn.l 0 rfl
   have hpr:Qaz (s.fns++[f])≤2^34:=by rw[Qij];simp only[Qaz];omega
   refine Qa ?_
   simp only[go_sem,hx7b]
   refine Qafc (by omega) fun b=>?_
   simp only[go_sem,Q35]
   refine Qh (Qe rfl ?_ ?_)
   ·intro hc
    refine Qa ?_
    simp only[go_sem,hx2b]
    intro H13 h13
    have kn:=kn.stL 0 rfl h13
    have hx2c:=kn.l 0 rfl
    refine Qk ?_
    simp only[go_sem,Q3,Q9,Qal2,reduceIte,List.mem_singleton,forall_eq,RS.op,hx2c]
    refine⟨.ag [.sl false 3 (Qb2 [Fn.mk [109] [] [St.mk 3 [] [Ex.mk 1 1 [] []] [] []]])],FrzL.ag ?_,hK _ _ k5 (by omega) (by omega) kn.fin ⟨by simp,by simp,?_,?_,by simp⟩⟩
    ·simp only[Qb2,List.map_cons,List.map_nil,Fn.cells,Qakv,Qau,St.cells,Qbk,Ex.cells]
     repeat' first|exact FrzL.nil|exact FrzR.nil|exact Qf rfl|exact FrzL.same (Ex.noOw _)|exact FrzL.same (St.noOw _)|refine FrzL.cons ?_ ?_|refine FrzR.cons ?_ ?_|refine FrzR.sl ?_
    ·intro f hf
     simp at hf;subst hf
     simp[Qcp,St.ok,Qdq,Ex.ok]
    ·simp[Qaz,Qx,St.size,Qac,Ex.size]
   ·intro hc
    refine Qi ?_
    simp only[go_sem]
    refine Qa ?_
    simp only[go_sem,hx2b,hx7b]
    intro H13 h13
    have kn:=kn.stL 0 rfl h13
    have hx2c:=kn.l 0 rfl
    refine Qk ?_
    simp only[go_sem,Q3,Q9,Qal2,reduceIte,List.mem_singleton,forall_eq,RS.op,hx2c]
    refine⟨.ag [.sl false 3 (Qb2 (s.fns++[f]))],FrzL.ag (.cons (Qf rfl) .nil),hK _ _ k5 (by omega) (by omega) kn.fin ⟨by simp,?_,?_,hpr,by simp;omega⟩⟩
    ·intro f' hf'
     rcases List.mem_append.1 hf' with h|h
     ·exact hs.f f' h
     ·simp at h;subst h;exact g5
    ·intro f' hf'
     rcases List.mem_append.1 hf' with h|h
     ·exact hfok f' h
     ·simp at h;subst h;exact g6
end Go.AE.Y

namespace Go.AE.Y
open Go.Proofs.Tryz
variable {F H:Heap}{w:Nat}{s:LS}{K:V→Heap→Prop}
structure LStep (s s':LS)(d:Nat):Prop where
 bl:s.blocks.length≤s'.blocks.length
 ok:∀N,s.ok N→s'.ok (N+d)
 vl:s.vars.length≤s'.vars.length
 at_:s.at_<s.blocks.length→s'.at_<s'.blocks.length
 fn:s'.fns=s.fns∧s'.pfl=s.pfl
theorem LStep.trans {s s' s'':LS}{d e:Nat}(h:LStep s s' d)(k:LStep s' s'' e):LStep s s'' (d+e):=
 ⟨Nat.le_trans h.bl k.bl,fun N hN=>by rw[←Nat.add_assoc];exact k.ok _ (h.ok N hN),Nat.le_trans h.vl k.vl,fun ha=>k.at_ (h.at_ ha),k.fn.1.trans h.fn.1,k.fn.2.trans h.fn.2⟩
theorem LStep.refl (s:LS):LStep s s 0:=⟨Nat.le_refl _,fun N h=>h,Nat.le_refl _,fun h=>h,rfl,rfl⟩
theorem LStep.mono {s s':LS}{d e:Nat}(h:LStep s s' d)(hd:d≤e):LStep s s' e:=⟨h.bl,fun N hN=>(h.ok N hN).mono (by omega),h.vl,h.at_,h.fn⟩
theorem Qpu {N:Nat}(h:LInv F H w s)(hok:s.ok N)(hN:N+1≤2^38)(hK:∀(s':LS) (H':Heap),LInv F H' w s'→LStep s s' 1→K (.c (.int .i64 s.regs)) H') :
  Qp prog Qaw [.c (.ptr w 0)] H K:=by
 have hw:=h.hw
 have h0:=hok.r0
 have h1:=hok.r1
 refine Qd Qak Qals ?_
 refine Qa ?_
 simp only[go_sem]
 refine Qa ?_
 simp only[go_sem,hw,LS.o]
 refine⟨Qs (by omega) (by omega),fun H1 h1'=>?_⟩
 have h':LInv F H1 w { s with regs:=s.regs+1 }:=h.setw h1' rfl rfl rfl rfl h.gv h.rv
 have hw1:=h'.hw
 refine Qa ?_
 simp only[go_sem,hw1,LS.o]
 refine⟨Qs (by omega) (by omega),?_⟩
 refine Qk ?_
 simp only[go_sem,Q3,Q9,Qy0,reduceIte,List.mem_singleton,forall_eq,RS.op]
 refine hK _ H1 h' ⟨Nat.le_refl _,fun M hM=>⟨?_,?_,hM.n0,?_,?_,?_,?_⟩,Nat.le_refl _,fun h=>h,rfl,rfl⟩
 ·have:=hM.r0;show 0≤s.regs+1;omega
 ·have:=hM.r1;show s.regs+1≤_;omega
 ·have:=hM.n1;show s.next≤_;omega
 ·have:=hM.b1;show s.blocks.length≤_;omega
 ·intro b hb;have:=hM.i1 b hb;omega
 ·have:=hM.v1;show s.vars.length≤_;omega
theorem Qao0 {N:Nat}(h:LInv F H w s)(hok:s.ok N)(hN:N+1≤2^38)(hK:∀(s':LS) (H':Heap),LInv F H' w s'→LStep s s' 1→s.blocks.length<s'.blocks.length→s'.at_=s.at_→K (.c (.int .i64 s.blocks.length)) H') :
  Qp prog Qai [.c (.ptr w 0)] H K:=by
 have hw:=h.hw
 have hb1:=hok.b1
 have hbow:=h.gb.isOw
 refine Qd Qak Qalr ?_
 refine Qa ?_
 simp only[go_sem]
 refine Qa ?_
 simp only[go_sem,hw,LS.o,hbow]
 refine h.addBlk (b:=⟨.sl true 4 [],[],[],0,0,true,[]⟩) (by simp only[LIM];omega) rfl rfl rfl fun y H1 hw1 cont=>?_
 simp only[go_sem,Qn3,hw1,LS.o]
 intro H2 h2
 have h':=cont H2 h2
 have hw2:=h'.hw
 obtain⟨y2,hv1,hv2,hv3⟩:=h'.bvec (by simp)
 simp only[C.vsl.injEq]at hv1
 obtain⟨rfl,_⟩:=hv1
 refine Qa ?_
 simp only[go_sem,hw2,LS.o,hv3,List.length_map,List.length_append]
 refine⟨by omega,fun hl=>⟨Qs (by omega) (by omega),?_⟩⟩
 refine Qk ?_
 simp only[go_sem,Q3,Q9,Qyz,reduceIte,List.mem_singleton,forall_eq,RS.op]
 have e1:(((s.blocks.length+1:Nat):Int)-1)=s.blocks.length:=by omega
 rw[e1]
 refine hK _ H2 h' ⟨by simp,fun M hM=>⟨hM.r0,?_,hM.n0,?_,?_,?_,?_⟩,Nat.le_refl _,fun ha=>by simp;show s.at_<_;omega,rfl,rfl⟩ (by simp) rfl
 ·have:=hM.r1;show s.regs≤_;omega
 ·have:=hM.n1;show s.next≤_;omega
 ·have:=hM.b1;simp;omega
 ·intro b hb
  rcases List.mem_append.1 hb with hb|hb
  ·have:=hM.i1 b hb;omega
  ·simp at hb;subst hb;simp
 ·have:=hM.v1;show s.vars.length≤_;omega
theorem Qge {N:Nat}(h:LInv F H w s)(hok:s.ok N)(hN:N+1≤2^38)(hK:∀(s':LS) (H':Heap),LInv F H' w s'→LStep s s' 1→s.blocks.length<s'.blocks.length→K (.c (.int .i64 s.blocks.length)) H') :
  Qp prog Qai [.c (.ptr w 0)] H K:=Qao0 h hok hN fun s' H' a b c _=>hK s' H' a b c
theorem Q02 {N:Nat}{op to n:Int}{fl:Bool}{args:List Int}(h:LInv F H w s)(hat:s.at_<s.blocks.length)(hok:s.ok N)(hN:N+1≤2^38)
  (hK:∀(s':LS) (H':Heap),LInv F H' w s'→LStep s s' 1→K (.c (.int .i64 to)) H') :
  Qp prog Qao [.c (.ptr w 0),.c (.int .i64 op),.c (.int .i64 to),.c (.int .i64 n),.c (.sl fl 1 (Qb args))] H K:=by
 have hw:=h.hw
 obtain⟨y,hbc,hlb,hy⟩:=h.bvec (by omega)
 have hm:=List.getElem_mem hat
 have hi1:=hok.i1 _ hm
 have hiow:=(h.gi _ hm).isOw
 have hg1:List.getD (List.map Blk.row s.blocks) s.at_ []=s.blocks[s.at_].row:=by simp[List.getD_eq_getElem?_getD,hat]
 have hg2:List.getD (List.take s.blocks.length (List.map Blk.row s.blocks)) s.at_ []=s.blocks[s.at_].row:=by
  rw[List.take_of_length_le (by simp)];exact hg1
 refine Qd Qak Qavl ?_
 refine Qa ?_
 simp only[go_sem]
 refine Qag ?_
 simp only[go_sem,hw,LS.o,hbc,hy,hat,Nat.zero_add,List.length_map]
 refine Qa ?_
 simp only[go_sem,hw,LS.o,hbc,hy,hat,hg2,Blk.row,hiow,Nat.zero_add,List.length_map]
 refine h.addIns hat hbc hlb ⟨op,to,n,fl,args,rfl⟩ (by simp only[LIM];omega) fun z H1 hw1 hy1 cont=>?_
 simp only[go_sem,Qw3,hy1,hg1,hat,Blk.row,Nat.zero_add,List.length_map]
 intro H2 h2
 obtain⟨b',hb',h'⟩:=cont H2 h2
 refine Qa ?_
 simp only[go_sem]
 refine Qk ?_
 simp only[go_sem,Q3,Q9,Q9m,reduceIte,List.mem_singleton,forall_eq,RS.op]
 refine hK _ H2 h' ⟨by simp,fun M hM=>⟨hM.r0,?_,hM.n0,?_,?_,?_,?_⟩,Nat.le_refl _,fun ha=>by simp;show s.at_<_;omega,rfl,rfl⟩
 ·have:=hM.r1;show s.regs≤_;omega
 ·have:=hM.n1;show s.next≤_;omega
 ·have:=hM.b1;simp;omega
 ·intro b hb
  rcases Qeo hb with rfl|hb
  ·have:=hM.i1 _ hm;omega
  ·have:=hM.i1 b hb;omega
 ·have:=hM.v1;show s.vars.length≤_;omega
theorem Qvp {N:Nat}{kind on:Int}{at':Nat}{fl:Bool}{next:List Int}(h:LInv F H w s)(hat:s.at_<s.blocks.length)(hat':at'<s.blocks.length)
  (hK:∀(s':LS) (H':Heap),LInv F H' w s'→LStep s s' 0→K (.tup []) H') :
  Qp prog Qar [.c (.ptr w 0),.c (.int .i64 kind),.c (.int .i64 on),.c (.sl fl 1 (Qb next)),.c (.int .i64 at')] H K:=by
 have hw:=h.hw
 obtain⟨y,hbc,hlb,hy⟩:=h.bvec (by omega)
 have hm:=List.getElem_mem hat
 have hg1:List.getD (List.map Blk.row s.blocks) s.at_ []=s.blocks[s.at_].row:=by simp[List.getD_eq_getElem?_getD,hat]
 refine Qd Qak Qapz ?_
 refine Qag ?_
 simp only[go_sem,hw,LS.o,hbc,hy,hat,Nat.zero_add,List.length_map]
 refine Qa ?_
 simp only[go_sem,hy,hg1,hat,Blk.row,Nat.zero_add,List.length_map]
 intro H1 h1
 have h1:H1=H.set y (.vec 5 ((s.blocks.set s.at_ { s.blocks[s.at_]with jump:=kind }).map Blk.row)):=by rw[h1,←Q8x];rfl
 have hv:=h.setBlk hat hbc hlb h1 rfl rfl rfl
 obtain⟨b1,hb1,hb1l,hb1i⟩:∃b1:Blk,b1={ s.blocks[s.at_]with jump:=kind }∧b1.irows=s.blocks[s.at_].irows∧b1.ic=s.blocks[s.at_].ic:=⟨_,rfl,rfl,rfl⟩
 rw[←hb1]at hv h1
 have hy1:H1 y=.vec 5 ((s.blocks.set s.at_ b1).map Blk.row):=by rw[h1];exact Heap.set_same _ _ _
 have hg2:List.getD ((s.blocks.set s.at_ b1).map Blk.row) s.at_ []=b1.row:=by simp[List.getD_eq_getElem?_getD,hat]
 refine Qa ?_
 simp only[go_sem,hy1,hg2,hat,Blk.row,Nat.zero_add,List.length_map,List.length_set]
 intro H2 h2
 have h2:H2=H1.set y (.vec 5 (((s.blocks.set s.at_ b1).set s.at_ { b1 with on:=on }).map Blk.row)):=by rw[h2];simp only[List.map_set];rfl
 have hv:=hv.setBlk (i:=s.at_) (b':={ b1 with on:=on }) (by simpa using hat) (by simpa using hbc) (by rfl) h2 (by simp) (by simp) (by simp)
 simp only[List.set_set]at hv h2
 obtain⟨b2,hb2,hb2i⟩:∃b2:Blk,b2={ b1 with on:=on }∧b2.irows=b1.irows:=⟨_,rfl,rfl⟩
 rw[←hb2]at hv h2
 have hy2:H2 y=.vec 5 ((s.blocks.set s.at_ b2).map Blk.row):=by rw[h2];exact Heap.set_same _ _ _
 have hg3:List.getD ((s.blocks.set s.at_ b2).map Blk.row) s.at_ []=b2.row:=by simp[List.getD_eq_getElem?_getD,hat]
 refine Qa ?_
 simp only[go_sem,hy2,hg3,hat,Blk.row,Nat.zero_add,List.length_map,List.length_set]
 intro H3 h3
 have h3:H3=H2.set y (.vec 5 (((s.blocks.set s.at_ b2).set s.at_ { b2 with next:=next,nfl:=fl }).map Blk.row)):=by rw[h3];simp only[List.map_set];rfl
 have hv:=hv.setBlk (i:=s.at_) (b':={ b2 with next:=next,nfl:=fl }) (by simpa using hat) (by simpa using hbc) (by rfl) h3 (by simp) (by simp) (by simp)
 simp only[List.set_set]at hv
 have hw3:=hv.hw
 refine Qt ?_
 simp only[go_sem,hw3,LS.o]
 intro H4 h4
 have h':=hv.setw (s':={ s with lb:=[(y,.vec 5 ((s.blocks.set s.at_ { b2 with next:=next,nfl:=fl }).map Blk.row))],blocks:=s.blocks.set s.at_ { b2 with next:=next,nfl:=fl },at_:=at' }) h4 rfl rfl rfl rfl hv.gv hv.rv
 simp only[Q3,Q9,Q28]
 refine⟨by simp,hK _ H4 h' ⟨by simp,fun M hM=>⟨hM.r0,hM.r1,hM.n0,hM.n1,?_,?_,hM.v1⟩,Nat.le_refl _,fun ha=>by simpa using hat',rfl,rfl⟩⟩
 ·have:=hM.b1;simpa using this
 ·intro b hb
  rcases Qeo hb with rfl|hb
  ·show b2.irows.length≤_
   rw[hb2i,hb1l];exact hM.i1 _ hm
  ·exact hM.i1 b hb
end Go.AE.Y

namespace Go.AE.Y
open Go.Proofs.Tryz
variable {F H:Heap}{w:Nat}{s:LS}{K:V→Heap→Prop}
theorem Qbje {l:List Fn}{fl:Bool}{name:List UInt8}(hK:∀n:Int,K (.c (.int .i64 n)) H):Qp prog Q0q [.ag [.sl fl 3 (Qb2 l)],.c (.str name)] H K:=by
 refine Qd Qak Qa8n ?_
 have retf:∀(n:Int) (e:Env),lk 4 e=.c (.int .i64 n)→Q3 Q9n K .ret e H:=by
  intro b e h1
  simp only[go_sem,Q3,Q9,Q9n,List.mem_singleton,forall_eq,RS.op,h1]
  exact hK _
 refine Qa ?_
 simp only[go_sem]
 refine Q6 ?_
 refine Qa ?_
 simp only[go_sem]
 refine Qh (Qg (Qy (fun n e1 H1=>∃(i:Nat),n=l.length-i∧i≤l.length∧H1=H∧e1=[(1,.c (.str name)),(2,.c (.pp [.sl fl 3 (Qb2 l)])),(5,.c (.int .i64 i))]) l.length ?_ ?_))
 ·exact⟨0,by omega,by omega,rfl,rfl⟩
 ·rintro n e1 H1 ⟨i,hn1,hi,rfl,rfl⟩
  refine Q6 ?_
  refine Qa ?_
  simp only[go_sem,Qba]
  intro hl
  simp only[LIM]at hl
  refine Qh (Qe rfl ?_ ?_)
  ·intro hc
   have hlt:i<l.length:=by simpa using hc
   refine Qi ?_
   simp only[go_sem]
   refine Qh (Qg ?_)
   refine Qa ?_
   simp only[go_sem,hlt,Qba,Qgu _ _ hlt,Fn.cells]
   refine Qe rfl ?_ ?_
   ·intro hc2
    refine Qa ?_
    simp only[go_sem]
    refine Qk ?_
    simp only[go_sem,X.next]
    exact retf _ _ (by simp[lk];rfl)
   ·intro hc2
    refine Qi ?_
    simp only[go_sem]
    refine Qt ?_
    simp only[go_sem,X.next]
    exact⟨Qs (by omega) (by omega),l.length-(i+1),by omega,i+1,rfl,by omega,rfl⟩
  ·intro hc
   refine Q0 ?_
   simp only[go_sem,X.next]
   refine Qa ?_
   simp only[go_sem]
   refine Qk ?_
   exact retf _ _ (by simp[lk];rfl)
theorem Qbko {name:List UInt8}(h:LInv F H w s)(hK:∀n:Int,K (.c (.int .i64 n)) H):Qp prog Qif [.c (.ptr w 0),.c (.str name)] H K:=by
 have hw:=h.hw
 obtain⟨hv1,hv2⟩:=h.vget
 have hvl:=h.gv.lenC
 have hve:=h.gv.elemSz
 have hvo:=h.gv.isOw
 refine Qd Qak Qavm ?_
 have retf:∀(n:Int) (e:Env),lk 4 e=.c (.int .i64 n)→Q3 Qxl K .ret e H:=by
  intro b e h1
  simp only[go_sem,Q3,Q9,Qxl,List.mem_singleton,forall_eq,RS.op,h1]
  exact hK _
 refine Qa ?_
 simp only[go_sem]
 refine Q6 ?_
 refine Qa ?_
 simp only[go_sem,hw,LS.o,hv1,hvl,hvo]
 intro hl
 simp only[LIM]at hl
 refine⟨Qs (by omega) (by omega),?_⟩
 refine Qh (Qg (Qy (fun n e1 H1=>∃(j:Nat),n=j∧j≤s.vars.length∧H1=H∧e1=[(0,.c (.ptr w 0)),(1,.c (.str name)),(5,.c (.int .i64 ((j:Int)-1)))]) s.vars.length ?_ ?_))
 ·exact⟨s.vars.length,rfl,by omega,rfl,rfl⟩
 ·rintro n e1 H1 ⟨j,hnj,hj,rfl,rfl⟩
  refine Q6 ?_
  refine Qa ?_
  simp only[go_sem]
  refine Qh (Qe rfl ?_ ?_)
  ·intro hc
   have hj1:1≤j:=by simp at hc;omega
   obtain⟨i,rfl⟩:∃i,j=i+1:=⟨j-1,by omega⟩
   have e1:(((i+1:Nat):Int)-1)=(i:Int):=by omega
   have hlt:i<s.vars.length:=by omega
   obtain⟨nm,a,b,hr⟩:=h.rv _ (List.getElem_mem hlt)
   have hr':List.getD s.vars i []=[.str nm,.int .i64 a,.int .i64 b]:=by rw[←hr];simp[List.getD_eq_getElem?_getD,hlt]
   rw[e1]at hc⊢
   refine Qi ?_
   simp only[go_sem]
   refine Qh (Qg ?_)
   refine Qa ?_
   simp only[go_sem,hw,LS.o,hv1,hv2,hvl,hvo,hve,hlt,hr']
   refine Qe rfl ?_ ?_
   ·intro hc2
    refine Qa ?_
    simp only[go_sem,hw,LS.o,hv1,hv2,hvl,hvo,hve,hlt,hr']
    refine Qk ?_
    simp only[go_sem,X.next]
    exact retf _ _ (by simp[lk];rfl)
   ·intro hc2
    refine Qi ?_
    simp only[go_sem]
    refine Qt ?_
    simp only[go_sem,X.next]
    exact⟨Qs (by omega) (by omega),i,by omega,i,rfl,by omega,rfl⟩
  ·intro hc
   refine Q0 ?_
   simp only[go_sem,X.next]
   refine Qa ?_
   simp only[go_sem]
   refine Qk ?_
   exact retf _ _ (by simp[lk];rfl)
def Qbbp (n:Nat):Prop:=∀(x:Ex) (F H:Heap) (w:Nat) (s:LS) (N:Nat) (K:V→Heap→Prop),x.size≤n→x.ok→LInv F H w s→s.at_<s.blocks.length→s.ok N→N+10 * x.size≤2^38→
  (∀(v:Int) (s':LS) (H':Heap),LInv F H' w s'→LStep s s' (10 * x.size)→K (.c (.int .i64 v)) H')→Qp prog Qb1 [.c (.ptr w 0),.ag x.cells] H K
def AndL (n:Nat):Prop:=∀(x:Ex) (F H:Heap) (w:Nat) (s:LS) (N:Nat) (K:V→Heap→Prop),x.size≤n→x.ok→x.op=10→LInv F H w s→s.at_<s.blocks.length→s.ok N→N+10 * x.size≤2^38→
  (∀(v:Int) (s':LS) (H':Heap),LInv F H' w s'→LStep s s' (10 * x.size)→K (.c (.int .i64 v)) H')→Qp prog Qps [.c (.ptr w 0),.ag x.cells] H K
theorem Qbji {n:Nat}(hE:∀m,m<n→Qbbp m):AndL n:=by
 intro x F H w s N K hn hok hop h hat hsok hN hK
 have hsz:=x.size_kids
 have hk2:=Ex.ok_and hok hop
 have hkok:=Ex.ok_kids hok
 obtain⟨a,b,hab⟩:∃a b,x.kids=[a,b]:=by
  match hx:x.kids,hk2 with
  |[a,b],_=>exact⟨a,b,rfl⟩
 rw[hab]at hsz hkok
 simp only[Qac,Qdq]at hsz hkok
 refine Qd Qak Qavk ?_
 refine Qa ?_
 simp only[go_sem,x.cells_eq]
 refine Qa ?_
 simp only[go_sem,hab,Qbk,Ex.take4,Ex.allOw,Ex.cells_len,List.getD_cons_zero]
 refine⟨by omega,?_⟩
 refine hE a.size (by omega) a F H w s N _ (Nat.le_refl _) hkok.1 h hat hsok (by omega) fun va s1 H1 h1 st1=>?_
 simp only[go_sem,Qwv]
 refine Qa ?_
 simp only[go_sem]
 refine Qpu h1 (st1.ok _ hsok) (by omega) fun s2 H2 h2 st2=>?_
 have st2:=st1.trans st2
 simp only[go_sem,Qwx]
 refine Q02 (args:=[]) h2 (st2.at_ hat) (st2.ok _ hsok) (by omega) fun s3 H3 h3 st3=>?_
 have st3:=st2.trans st3
 simp only[go_sem,Qww]
 refine Qa ?_
 simp only[go_sem]
 refine Qge h3 (st3.ok _ hsok) (by omega) fun s4 H4 h4 st4 hb4=>?_
 have st4':=st4
 have st4:=st3.trans st4
 simp only[go_sem,Qwy]
 refine Qa ?_
 simp only[go_sem]
 refine Qge h4 (st4.ok _ hsok) (by omega) fun s5 H5 h5 st5 hb5=>?_
 have st5:=st4.trans st5
 simp only[go_sem,Qwz]
 refine Qa ?_
 simp only[go_sem]
 refine Qvp (next:=[(s3.blocks.length:Int),(s4.blocks.length:Int)]) (N:=0) h5 (st5.at_ hat) (by omega) fun s6 H6 h6 st6=>?_
 have hb6:=st6.bl
 have st6:=st5.trans st6
 refine Qa ?_
 simp only[go_sem,hab,Qbk,Ex.take4,Ex.allOw,Ex.cells_len,List.getD_cons_zero,List.getD_cons_succ]
 refine⟨by omega,?_⟩
 refine hE b.size (by omega) b F H6 w s6 _ _ (Nat.le_refl _) hkok.2.1 h6 (st6.at_ hat) (st6.ok _ hsok) (by omega) fun vb s7 H7 h7 st7=>?_
 have hb7:=st7.bl
 have st7:=st6.trans st7
 simp only[go_sem,Qw0]
 refine Qa ?_
 simp only[go_sem]
 refine Qpu h7 (st7.ok _ hsok) (by omega) fun s8 H8 h8 st8=>?_
 have hb8:=st8.bl
 have st8:=st7.trans st8
 simp only[go_sem,Qw2]
 refine Q02 (args:=[vb]) h8 (st8.at_ hat) (st8.ok _ hsok) (by omega) fun s9 H9 h9 st9=>?_
 have hb9:=st9.bl
 have st9:=st8.trans st9
 simp only[go_sem,Qw1]
 refine Qa ?_
 simp only[go_sem]
 refine Q02 (args:=[s7.regs]) h9 (st9.at_ hat) (st9.ok _ hsok) (by omega) fun s10 H10 h10 st10=>?_
 have hb10:=st10.bl
 have st10:=st9.trans st10
 refine Qa ?_
 simp only[go_sem]
 refine Qvp (next:=[(s4.blocks.length:Int)]) (N:=0) h10 (st10.at_ hat) (by omega) fun s11 H11 h11 st11=>?_
 have st11:=st10.trans st11
 refine Qa ?_
 simp only[go_sem]
 refine Qk ?_
 simp only[go_sem,Q3,Q9,Q9l,reduceIte,List.mem_singleton,forall_eq,RS.op]
 exact hK _ s11 H11 h11 (st11.mono (by omega))
end Go.AE.Y

namespace Go.AE.Y
open Go.Proofs.Tryz
variable {F H:Heap}{w:Nat}{s:LS}{K:V→Heap→Prop}
set_option maxHeartbeats 2000000 in
theorem Qbg4 {n:Nat}(hA:AndL n)(hE:∀m,m<n→Qbbp m):Qbbp n:=by
 intro x F H w s N K hn hok h hat hsok hN hK
 have hsz:=x.size_kids
 have hkok:=Ex.ok_kids hok
 refine Qd Qak Qapy ?_
 have retf:∀(v:Int) (e:Env) (s':LS) (H':Heap),LInv F H' w s'→LStep s s' (10 * x.size)→lk 4 e=.c (.int .i64 v)→Q3 Qqe K .ret e H':=by
  intro v e s' H' a1 a2 h1
  simp only[go_sem,Q3,Q9,Qqe,List.mem_singleton,forall_eq,RS.op,h1]
  exact hK _ _ _ a1 a2
 refine Qa ?_
 simp only[go_sem,x.cells_eq]
 refine Q6 ?_
 refine Qa ?_
 simp only[go_sem]
 refine Qh (Qg ?_)
 refine Qa ?_
 simp only[go_sem]
 refine Qe rfl ?_ ?_
 ·intro hc
  refine Qag ?_
  simp only[go_sem]
  refine Qpu h hsok (by omega) fun s1 H1 h1 st1=>?_
  simp only[go_sem,Qtj]
  refine Q02 (args:=[]) h1 (st1.at_ hat) (st1.ok _ hsok) (by omega) fun s2 H2 h2 st2=>?_
  simp only[go_sem,Qti]
  refine Qk ?_
  simp only[go_sem]
  exact retf _ _ s2 H2 h2 ((st1.trans st2).mono (by omega)) (by simp[lk];rfl)
 intro hc1
 refine Qa ?_
 simp only[go_sem]
 refine Qe rfl ?_ ?_
 ·intro hc
  refine Qa ?_
  simp only[go_sem]
  refine Qbko h fun v=>?_
  simp only[go_sem,Qtk]
  refine Qk ?_
  simp only[go_sem]
  exact retf _ _ s H h ((LStep.refl s).mono (by omega)) (by simp[lk];rfl)
 intro hc2
 refine Qa ?_
 simp only[go_sem]
 refine Qe rfl ?_ ?_
 ·intro hc
  have hop:x.op=10:=by simpa using hc
  refine Qa ?_
  simp only[go_sem]
  rw[←x.cells_eq]
  refine hA x F H w s N _ hn hok hop h hat hsok hN fun v s1 H1 h1 st1=>?_
  simp only[go_sem,Qtl]
  refine Qk ?_
  simp only[go_sem]
  exact retf _ _ s1 H1 h1 st1 (by simp[lk];rfl)
 intro hc3
 refine Qi ?_
 simp only[go_sem]
 refine Qa ?_
 simp only[go_sem]
 refine Q6 ?_
 refine Qa ?_
 simp only[go_sem]
 refine Qh (Qg (Qy (fun n e1 H1=>∃(i:Nat) (ars:List Int) (c:C) (Lg:List (Nat×Obj)) (s':LS),n=x.kids.length-i∧i≤x.kids.length∧ars.length=i∧Gr Lg 1 (Qb ars) c∧LInv F H1 w s'∧Kn F H1 [] (s'.L w++Lg)∧
  LStep s s' (10 * Qac (x.kids.take i))∧e1=[(0,.c (.ptr w 0)),(3,.c (.pp [.int .i64 x.op,.int .i64 x.n,.str x.name,.sl false 4 (Qbk x.kids)])),(5,.c c),(6,.c (.int .i64 i))]) x.kids.length ?_ ?_))
 ·exact⟨0,[],_,[],s,by omega,by omega,rfl,.nil 1,h,by simpa using h.kn,(LStep.refl s).mono (by omega),rfl⟩
 ·rintro n e1 H1 ⟨i,ars,c,Lg,s1,hn1,hi,hasl,hgr,h1,kn,st1,rfl⟩
  refine Q6 ?_
  refine Qa ?_
  simp only[go_sem,Qax]
  intro hl
  simp only[LIM]at hl
  refine Qh (Qe rfl ?_ ?_)
  ·intro hc
   have hlt:i<x.kids.length:=by simpa using hc
   have hm:=Qel (List.getElem_mem hlt)
   have htk:=Qph hlt
   have htl:=Qgz x.kids (i+1)
   refine Qi ?_
   simp only[go_sem]
   refine Qh (Qg (Qt ?_))
   simp only[go_sem,hlt,Qax,Qek _ _ hlt,Ex.take4,Ex.allOw,Ex.cells_len]
   obtain⟨F',hf,back⟩:=h1.beside kn hgr
   refine hE x.kids[i].size (by omega) _ F' H1 w s1 _ _ (Nat.le_refl _) (Q73 hkok _ (List.getElem_mem hlt)) hf (st1.at_ hat) (st1.ok _ hsok) (by omega) fun v s2 H2 h2 st2=>?_
   obtain⟨h2,kn⟩:=back s2 H2 h2
   simp only[go_sem,Qtn]
   refine kn.grow (new:=Qb [v]) hgr (.mk' _ _ _ _) (Qo _) (by simp only[Qc,hasl,List.length_cons,List.length_nil,LIM];omega) fun y' H3 kn=>?_
   simp only[go_sem,Qtm]
   refine Qt ?_
   simp only[go_sem,X.next]
   refine⟨Qs (by omega) (by omega),x.kids.length-(i+1),by omega,i+1,ars++[v],_,_,s2,rfl,by omega,by simp[hasl],.mk y' 1 (Qb (ars++[v])) (n:=(Qb ars).length+(Qb [v]).length) (by simp[Qb]),h2.re kn.drop,by rw[Qa2];exact kn,(st1.trans st2).mono (by rw[htk];omega),by simp[Qb]⟩
  ·intro hc
   have hge:x.kids.length≤i:=by simpa using hc
   rw[List.take_of_length_le hge]at st1
   refine Q0 ?_
   simp only[go_sem,X.next]
   refine Q6 ?_
   refine Q6 ?_
   obtain⟨S,H2,f1,f2,kn2⟩:=hgr.freeze kn (Qo _)
   have h2:=h1.re kn2
   refine c_gh (Qdg S (fun t=>?_) f2) (e':=[(0,.c (.ptr w 0)),(3,.c (.pp [.int .i64 x.op,.int .i64 x.n,.str x.name,.sl false 4 (Qbk x.kids)])),(5,.c (.sl false 1 (Qb ars)))]) ?_
   ·simp only[lk]
    split
    ·exact .c _ _ (.same _ rfl)
    ·split
     ·exact .c _ _ (.same _ rfl)
     ·split
      ·exact .c _ _ f1
      ·exact .unk _
   refine Qa ?_
   simp only[go_sem]
   refine Qh (Qg ?_)
   refine Qa ?_
   simp only[go_sem]
   refine Qe rfl ?_ ?_
   ·intro hc
    refine Qa ?_
    simp only[go_sem]
    refine Qpu h2 (st1.ok _ hsok) (by omega) fun s3 H3 h3 st3=>?_
    have st3:=st1.trans st3
    simp only[go_sem,Qn5]
    refine Q02 h3 (st3.at_ hat) (st3.ok _ hsok) (by omega) fun s4 H4 h4 st4=>?_
    simp only[go_sem,Qn4]
    refine Qk ?_
    simp only[go_sem]
    exact retf _ _ s4 H4 h4 ((st3.trans st4).mono (by omega)) (by simp[lk];rfl)
   intro hc4
   refine Qa ?_
   simp only[go_sem]
   refine Qe rfl ?_ ?_
   ·intro hc
    refine Qa ?_
    simp only[go_sem]
    refine Qpu h2 (st1.ok _ hsok) (by omega) fun s3 H3 h3 st3=>?_
    have st3:=st1.trans st3
    simp only[go_sem,Qn7]
    refine Q02 h3 (st3.at_ hat) (st3.ok _ hsok) (by omega) fun s4 H4 h4 st4=>?_
    simp only[go_sem,Qn6]
    refine Qk ?_
    simp only[go_sem]
    exact retf _ _ s4 H4 h4 ((st3.trans st4).mono (by omega)) (by simp[lk];rfl)
   intro hc5
   refine Qa ?_
   simp only[go_sem]
   refine Qe rfl ?_ ?_
   ·intro hc
    have hw2:=h2.hw
    refine Qag ?_
    simp only[go_sem,hw2,LS.o]
    refine Qpu h2 (st1.ok _ hsok) (by omega) fun s3 H3 h3 st3=>?_
    have hw3:=h3.hw
    have hfn:=st3.fn
    have st3:=st1.trans st3
    simp only[go_sem,Qoa,hw3,LS.o,hfn.1,hfn.2]
    refine Qbje fun q=>?_
    simp only[go_sem,Qn9]
    refine Q02 h3 (st3.at_ hat) (st3.ok _ hsok) (by omega) fun s4 H4 h4 st4=>?_
    simp only[go_sem,Qn8]
    refine Qk ?_
    simp only[go_sem]
    exact retf _ _ s4 H4 h4 ((st3.trans st4).mono (by omega)) (by simp[lk];rfl)
   intro hc6
   refine Qi ?_
   simp only[go_sem]
   refine Qag ?_
   simp only[go_sem]
   refine Qpu h2 (st1.ok _ hsok) (by omega) fun s3 H3 h3 st3=>?_
   have st3:=st1.trans st3
   simp only[go_sem,Qoc]
   refine Q02 h3 (st3.at_ hat) (st3.ok _ hsok) (by omega) fun s4 H4 h4 st4=>?_
   simp only[go_sem,Qob]
   refine Qk ?_
   exact retf _ _ s4 H4 h4 ((st3.trans st4).mono (by omega)) (by simp[lk];rfl)
theorem Qbjw (n:Nat):Qbbp n:=by
 induction n using Nat.strongRecOn with
 |ind n ih=>exact Qbg4 (Qbji ih) ih
end Go.AE.Y

namespace Go.AE.Y
open Go.Proofs.Tryz
variable {F H:Heap}{w:Nat}{s:LS}{K:V→Heap→Prop}
theorem Qbc1:∀(n:Nat) (l:List St) {fl:Bool} {H:Heap} {K:V→Heap→Prop},Qx l≤n→Qx l≤2^40→(∀v:Nat,v≤Qx l→K (.c (.int .i64 v)) H)→Qp prog Qpr [.c (.sl fl 5 (Qau l))] H K:=by
 intro n
 induction n using Nat.strongRecOn with
 |ind n ih=>
 intro l fl H K hn hb hK
 have hlen:=Qafa l
 refine Qd Qak Qbdl ?_
 refine Qa ?_
 simp only[go_sem]
 refine Qa ?_
 simp only[go_sem]
 refine Q6 ?_
 refine Qa ?_
 simp only[go_sem]
 refine Qh (Qg (Qy (fun n e1 H1=>∃(i v:Nat),n=l.length-i∧i≤l.length∧v≤Qx (l.take i)∧H1=H∧e1=[(0,.c (.sl fl 5 (Qau l))),(3,.c (.int .i64 v)),(4,.c (.int .i64 i))]) l.length ?_ ?_))
 ·exact⟨0,0,by omega,by omega,by omega,rfl,rfl⟩
 ·rintro n e1 H1 ⟨i,v,hn1,hi,hv,rfl,rfl⟩
  refine Q6 ?_
  refine Qa ?_
  simp only[go_sem,Qa1]
  intro hl
  simp only[LIM]at hl
  refine Qh (Qe rfl ?_ ?_)
  ·intro hc
   have hlt:i<l.length:=by simpa using hc
   have hm:=Qmu (List.getElem_mem hlt)
   have htk:=Qt8 hlt
   have htl:=Qh3 l (i+1)
   have hse:=(l[i]'hlt).size_eq
   refine Qi ?_
   simp only[go_sem]
   refine Qh (Qg (Qbf ?_))
   simp only[go_sem,hlt,Qa1,Qe0 _ _ hlt,St.cells_eq]
   refine Qa72 ?_
   obtain⟨t,ht,ht1⟩:∃t:Nat,(if decide (l[i].op=1)=true then (1:Int)else 0)=t∧t≤1:=by
    by_cases h:l[i].op=1
    ·exact⟨1,by simp[h],Nat.le_refl _⟩
    ·exact⟨0,by simp[h],by omega⟩
   simp only[go_sem,Qadn,hlt,Qa1,Qe0 _ _ hlt,St.cells_eq,ht]
   refine⟨Qs (by omega) (by omega),?_⟩
   refine ih (Qx l[i].body) (by omega) l[i].body (Nat.le_refl _) (by omega) fun a ha=>?_
   simp only[go_sem,Qadm,hlt,Qa1,Qe0 _ _ hlt,St.cells_eq]
   refine⟨Qs (by omega) (by omega),?_⟩
   refine ih (Qx l[i].els) (by omega) l[i].els (Nat.le_refl _) (by omega) fun c hc=>?_
   simp only[go_sem,Qadl]
   refine⟨Qs (by omega) (by omega),?_⟩
   refine Qt ?_
   simp only[go_sem,X.next]
   refine⟨Qs (by omega) (by omega),l.length-(i+1),by omega,i+1,v+t+a+c,rfl,by omega,by omega,rfl⟩
  ·intro hc
   have hge:l.length≤i:=by simpa using hc
   refine Q0 ?_
   simp only[go_sem,X.next]
   refine Qa ?_
   simp only[go_sem]
   refine Qk ?_
   simp only[go_sem,Q3,Q9,Qa1u,reduceIte,List.mem_singleton,forall_eq,RS.op]
   rw[List.take_of_length_le hge]at hv
   exact hK v (by omega)
def Qbjg (n:Nat):Prop:=∀(x:St) (F H:Heap) (w:Nat) (s:LS) (N:Nat) (K:V→Heap→Prop),x.size≤n→x.ok→LInv F H w s→s.at_<s.blocks.length→s.ok N→N+10 * x.size≤2^38→
  (∀(s':LS) (H':Heap),LInv F H' w s'→LStep s s' (10 * x.size)→K (.tup []) H')→Qp prog Qlu [.c (.ptr w 0),.ag x.cells] H K
def Qbln (n:Nat):Prop:=∀(x:St) (F H:Heap) (w:Nat) (s:LS) (N:Nat) (K:V→Heap→Prop),x.size≤n→x.ok→LInv F H w s→s.at_<s.blocks.length→s.ok N→N+10 * x.size≤2^38→
  (∀(s':LS) (H':Heap),LInv F H' w s'→LStep s s' (10 * x.size)→K (.tup []) H')→Qp prog Qlt [.c (.ptr w 0),.ag x.cells] H K
def Qa0t (n:Nat):Prop:=∀(l:List St) (fl:Bool) (F H:Heap) (w:Nat) (s:LS) (N:Nat) (K:V→Heap→Prop),Qx l≤n→Qcp l→LInv F H w s→s.at_<s.blocks.length→s.ok N→N+10 * Qx l≤2^38→
  (∀(s':LS) (H':Heap),LInv F H' w s'→LStep s s' (10 * Qx l)→K (.tup []) H')→Qp prog Qb8 [.c (.ptr w 0),.c (.sl fl 5 (Qau l))] H K
theorem Qba9 {n:Nat}(hS:Qbjg n):Qa0t n:=by
 intro l fl F H w s N K hn hok h hat hsok hN hK
 have hw:=h.hw
 obtain⟨hv1,hv2⟩:=h.vget
 have hvl:=h.gv.lenC
 have hvo:=h.gv.isOw
 refine Qd Qak Qalt ?_
 refine Qa ?_
 simp only[go_sem,hw,LS.o,hv1,hvl,hvo]
 intro hvlim
 refine Q6 ?_
 refine Qa ?_
 simp only[go_sem]
 refine Qh (Qg (Qy (fun n e1 H1=>∃(i:Nat) (s':LS),n=l.length-i∧i≤l.length∧LInv F H1 w s'∧LStep s s' (10 * Qx (l.take i))∧e1=[(0,.c (.ptr w 0)),(1,.c (.sl fl 5 (Qau l))),(4,.c (.int .i64 s.vars.length)),(5,.c (.int .i64 i))]) l.length ?_ ?_))
 ·exact⟨0,s,by omega,by omega,h,(LStep.refl s).mono (by omega),rfl⟩
 ·rintro n e1 H1 ⟨i,s1,hn1,hi,h1,st1,rfl⟩
  refine Q6 ?_
  refine Qa ?_
  simp only[go_sem,Qa1]
  intro hl
  simp only[LIM]at hl
  refine Qh (Qe rfl ?_ ?_)
  ·intro hc
   have hlt:i<l.length:=by simpa using hc
   have hm:=Qmu (List.getElem_mem hlt)
   have htk:=Qt8 hlt
   have htl:=Qh3 l (i+1)
   refine Qi ?_
   simp only[go_sem]
   refine Qh (Qg (Qt ?_))
   simp only[go_sem,hlt,Qa1,Qe0 _ _ hlt,St.take5,St.allOw,St.cells_len]
   refine hS l[i] F H1 w s1 _ _ (by omega) (Qbbd hok _ (List.getElem_mem hlt)) h1 (st1.at_ hat) (st1.ok _ hsok) (by omega) fun s2 H2 h2 st2=>?_
   refine Qt ?_
   simp only[go_sem,X.next]
   exact⟨Qs (by omega) (by omega),l.length-(i+1),by omega,i+1,s2,rfl,by omega,h2,(st1.trans st2).mono (by rw[htk];omega),rfl⟩
  ·intro hc
   have hge:l.length≤i:=by simpa using hc
   rw[List.take_of_length_le hge]at st1
   have hw1:=h1.hw
   obtain⟨hv1',hv2'⟩:=h1.vget
   have hvl':=h1.gv.lenC
   have hvo':=h1.gv.isOw
   have hve':=h1.gv.elemSz
   have hvle:=st1.vl
   have hrv:∀r∈s1.vars.take s.vars.length,VarRow r:=fun r hr=>h1.rv r (List.mem_of_mem_take hr)
   have fin:∀(H2:Heap) (c:C),H2=H1.set w (LS.o { s1 with vc:=c })→VGr s1.lv (s1.vars.take s.vars.length) c→Q3 Ql3 K .nrm [] H2:=by
    intro H2 c h2 hg
    simp only[Q3,Q9,Ql3]
    refine⟨by simp,hK { s1 with vc:=c,vars:=s1.vars.take s.vars.length } H2 (h1.setw h2 rfl rfl rfl rfl hg hrv) ⟨st1.bl,fun M hM=>?_,by simp;omega,st1.at_,st1.fn⟩⟩
    have:=st1.ok M hM
    exact⟨this.r0,this.r1,this.n0,this.n1,this.b1,this.i1,by have:=this.v1;simp;omega⟩
   refine Q0 ?_
   simp only[go_sem,X.next]
   refine Qt ?_
   rcases h1.gv with ⟨g1,g2,g3⟩|⟨y,all,k,g1,g2,g3,g4⟩
   ·have hz:s.vars.length=0:=by rw[g2]at hvle;simpa using hvle
    simp only[go_sem,hw1,LS.o,g1,hz,List.take_nil,List.drop_nil]
    refine⟨⟨by omega,by omega⟩,fun H2 h2=>?_⟩
    refine fin H2 (.sl true 3 []) h2 (.inl ⟨rfl,by rw[g2];simp,g3⟩)
   ·rw[g1]at hv1' hvl'
    have hk:k=s1.vars.length:=by simpa[lenC]using hvl'
    simp only[go_sem]at hv1'
    simp only[go_sem,hw1,LS.o,g1,hv1']
    refine⟨⟨by omega,by omega⟩,fun H2 h2=>?_⟩
    refine fin H2 (.vsl y 3 0 (s.vars.length-0)) h2 (.inr ⟨y,all,s.vars.length-0,rfl,by omega,?_,g4⟩)
    rw[g3,List.take_take];congr 1;omega
end Go.AE.Y

