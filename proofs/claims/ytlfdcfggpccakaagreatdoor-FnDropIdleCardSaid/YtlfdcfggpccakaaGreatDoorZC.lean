/- Part 3 of the proof: the engine, codes, walks and plain laws, each named where it stands. -/
import Derived.Test.YtlfdcfggpccakaaGreatDoorZB
open Nat (reduceEqDiff reduceAdd reduceLeDiff reduceLT)
set_option linter.unusedVariables false
set_option linter.unusedSimpArgs false
set_option maxRecDepth 4000
open Int renaming eq_ofNat_of_zero_le->Jn,tmod_lt_of_pos->Jz,tmod_nonneg->J3
open List renaming mem_singleton->Ja,getD_eq_getElem?_getD->Jb,getElem_mem->Jc,take_of_length_le->Jd,mem_append_right->Je,perm_append_comm->Jf,append_assoc->Jg,take_succ_eq_append_getElem->Jh,length_cons->Jj,length_map->Jk,mem_append->Jm,length_nil->Jo,drop_zero->Jp,nil_append->Jq,cons_append->Jr,flatMap_append->Js,set_cons_zero->Jt,map_append->Ju,map_set->Jv,take_append_drop->Jw,mem_or_eq_of_mem_set->J0,getElem?_eq_getElem->J1,length_take->J2,contains_iff_mem->J4,set_cons_succ->J5,nodup_append->J7,all_eq_true->J8,filter_cons->J9,mem_flatMap->Jaa,take_length->Jab,all_append->Jac,filter_nil->Jad,map_cons->Jaf,map_nil->Jag
open Nat renaming zero_add->Ji,le_refl->Jl,lt_pow_self->Jx,mul_le_mul_left->Jy,one_le_two_pow->J6,le_succ->Jae,mul_succ->Jah
namespace Go.AE.Y
open Go.Proofs.Tryz
def Qav0:SC:=cT 22 (sR [fB 4 false] [4] .ret) .skip
def Qav1:SC:=.seq (.dreg 9 [0,1,2,3,4,5,6,7,8] ( mJ 14 0::mJ 15 5::iJ 16 1 14 15::lJ 17 16::mJ 18 1::mJ 19 5::iJ 20 1 18 19::lJ 21 20::bJ 22 .neq 17 21::[]) [0,1,10,11,22]) Qav0
def Qav2:SC:=.reg [cJ 23 .add 11 1,mJ 11 23] [0,1,10,11]
def Qav3:SC:=.seq (.block 1 (sR [mJ 13 11,mJ 5 13] [0,1,5,10,11] Qav1)) Qav2
def Qaqj:SC:=sR [bJ 12 .lss 11 10] [0,1,10,11,12] (cX 12 0 Qav3)
def Qav4:SC:=sR [mJ 24 0,nJ 25 24,mJ 26 1,nJ 27 26,bJ 28 .eql 25 27,mJ 4 28] [4] .ret
def Qav5:SC:=.seq (sR [mJ 6 0,nJ 7 6,mJ 8 1,nJ 9 8,fI 10 (.mn (.t 7) (.t 9)),zJ 11 0] [0,1,10,11] (bL 0 Qaqj)) Qav4
def Qbat:SC:=sR [fB 4 false] [0,1] Qav5
def Q1d:List RS:=[.tmp 4]
theorem Qa5d:mFn prog Qke 2 29 Qbat Q1d=true:=by kernel_rfl
def Qa2s:SC:=cT 15 (sR [fB 4 true] [4] .ret) .skip
def Qa2t:SC:=sR [mJ 13 6,mJ 14 1,bJ 15 .eql 13 14] [1,7,8,9,15] Qa2s
def Qa2u:SC:=.reg [cJ 16 .add 9 1,mJ 9 16] [1,7,8,9]
def Qa2v:SC:=.seq (.block 1 (sR [iJ 11 1 7 9,lJ 12 11,mJ 6 12] [1,6,7,8,9] Qa2t)) Qa2u
def Qavz:SC:=sR [bJ 10 .lss 9 8] [1,7,8,9,10] (cX 10 0 Qa2v)
def Qa2w:SC:=sR [fB 4 false] [4] .ret
def Qa2x:SC:=.seq (sR [mJ 7 0,nJ 8 7,zJ 9 0] [1,7,8,9] (bL 0 Qavz)) Qa2w
def Qbg8:SC:=sR [fB 4 false] [0,1] Qa2x
def Q51:List RS:=[.tmp 4]
theorem Qber:mFn prog Q0z 2 17 Qbg8 Q51=true:=by kernel_rfl
def Qqz:List Item:=[cJ 8 .geq 7 0,mJ 4 8]
def Qal4:SC:=sR (mJ 5 0::mJ 6 1::aJ 7 Qiz [.t 5,.t 6]::Qqz) [4] .ret
def Qav7:SC:=sR [fB 4 false] [0,1] Qal4
def Q29:List RS:=[.tmp 4]
theorem Qate:mFn prog Qlb 2 9 Qav7 Q29=true:=by kernel_rfl
def Qbkw:SC:=cT 17 (sR [mJ 18 5,mJ 4 18] [4] .ret) .skip
def Qbkx:SC:=.reg [mJ 10 5,cJ 11 .add 10 1,mJ 5 11] [0,1,5]
def Qbky:SC:=.seq (.block 1 (sR [mJ 12 0,mJ 13 5,iJ 14 1 12 13,lJ 15 14,mJ 16 1,bJ 17 .eql 15 16] [0,1,5,17] Qbkw)) Qbkx
def Qbe7:SC:=.seq (sR [mJ 6 5,mJ 7 0,nJ 8 7,bJ 9 .lss 6 8] [0,1,5,9] (cT 9 .skip (.exit 0))) Qbky
def Qbkz:SC:=sR [zJ 4 (-1)] [4] .ret
def Qbk0:SC:=.seq (sR [zJ 5 0] [0,1,5] (bL 0 Qbe7)) Qbkz
def Qbun:SC:=sR [zJ 4 0] [0,1] Qbk0
def Qa5m:List RS:=[.tmp 4]
theorem Qbt4:mFn prog Qadt 2 19 Qbun Qa5m=true:=by kernel_rfl
def Q8l:List Item:=[mJ 3 5]
def Q8m:List Item:=[mJ 2 9]
def Qa5x:SC:=sR (mJ 8 3::aJ 9 Qn4 [.t 8]::Q8m) [2] .ret
def Qa5y:SC:=sR [mJ 6 3,aJ 7 Ql8 [.t 6]] [3] Qa5x
def Qa5z:SC:=sR (mJ 4 0::aJ 5 Qc6 [.t 4]::Q8l) [3] Qa5y
def Qbku:SC:=sR [fI 2 (.mv (.k (.c (.sl true 1 []))))] [0] Qa5z
def Qax6:List RS:=[.tmp 2]
theorem Qbjj:mFn prog Q48 1 10 Qbku Qax6=true:=by kernel_rfl
def Qa7s:SC:=cT 5 (.reg [mJ 6 0,fI 7 (.sli 1 (.t 6) none (some (kI 2000))),mJ 0 7] [0]) .skip
def Q9z:List Item:=[mJ 2 10]
def Qahx:SC:=sR (mJ 8 0::fI 9 (.bld [.sl true 1 [],.int .i64 0] [(0,1,.t 8)])::eI 10 (.boxm (.t 9))::Q9z) [2] .ret
def Qa7t:SC:=.seq (sR [mJ 3 0,nJ 4 3,cJ 5 .gtr 4 2000] [0,5] Qa7s) Qahx
def Qblq:SC:=sR [fI 2 (.mv (.k (.c .pnil)))] [0] Qa7t
def Qafu:List RS:=[.tmp 2]
theorem Qbjz:mFn prog Qxw 1 11 Qblq Qafu=true:=by kernel_rfl
def Qa3p:SC:=cT 16 (sR [mJ 17 5,mJ 4 17] [4] .ret) .skip
def Qa3q:SC:=sR [mJ 11 1,mJ 12 0,mJ 13 5,iJ 14 1 12 13,lJ 15 14,bJ 16 .eql 11 15] [0,1,5,7,8,16] Qa3p
def Qa3r:SC:=.reg [cJ 18 .add 8 1,mJ 8 18] [0,1,7,8]
def Qa3s:SC:=.seq (.block 1 (sR [mJ 10 8,mJ 5 10] [0,1,5,7,8] Qa3q)) Qa3r
def Qav9:SC:=sR [bJ 9 .lss 8 7] [0,1,7,8,9] (cX 9 0 Qa3s)
def Qa3t:SC:=sR [zJ 4 (-1)] [4] .ret
def Qa3u:SC:=.seq (sR [mJ 6 0,nJ 7 6,zJ 8 0] [0,1,7,8] (bL 0 Qav9)) Qa3t
def Qbhb:SC:=sR [zJ 4 0] [0,1] Qa3u
def Q53:List RS:=[.tmp 4]
theorem Qbeu:mFn prog Qiz 2 19 Qbhb Q53=true:=by kernel_rfl
def Qts:List Item:=[oJ 14 13]
def Qam2:SC:=cT 14 (sR [fI 4 (.mv (.k (.c (.sl true 1 []))))] [4] .ret) .skip
def Qtt:List Item:=[mJ 6 20,sJ 5 7 22]
def Qtu:List Item:=[mJ 5 30]
def Qam3:SC:=cT 26 (.reg (mJ 27 5::mJ 28 6::fI 29 (.bsl 1 [.t 28])::xJ 30 1 27 29::Qtu) [1,5,16,17,18]) .skip
def Qam4:SC:=sR [fJ 23 4 7,lJ 24 23,mJ 25 1,aJ 26 Qlb [.t 24,.t 25]] [1,5,6,16,17,18,26] Qam3
def Qam5:SC:=.reg [cJ 31 .add 18 1,mJ 18 31] [1,5,16,17,18]
def Qam6:SC:=.seq (.block 1 (sR (mJ 20 18::iJ 21 5 16 18::tJ 22 5 21::eI 7 (.alloc [.sl true 2 [],.sl true 4 [],.int .i64 0,.int .i64 0,.sl true 1 []])::Qtt) [1,5,6,7,16,17,18] Qam4)) Qam5
def Qagi:SC:=sR [bJ 19 .lss 18 17] [1,5,16,17,18,19] (cX 19 0 Qam6)
def Qam7:SC:=sR [mJ 32 5,mJ 4 32] [4] .ret
def Qagf:SC:=.seq (sR [fJ 15 2 2,lJ 16 15,nJ 17 16,zJ 18 0] [1,5,16,17,18] (bL 0 Qagi)) Qam7
def Qagg:SC:=.seq (sR (mJ 8 1::fJ 9 2 2::lJ 10 9::nJ 11 10::cJ 12 .sub 11 1::aJ 13 Qar [.t 8,kI 0,.t 12]::Qts) [1,2,5,14] Qam2) Qagf
def Qagh:SC:=sR [fI 5 (.mv (.k (.c (.sl true 1 []))))] [1,2,5] Qagg
def Qayo:SC:=sR [vJ 2 0,fI 4 (.mv (.k (.c (.sl true 1 []))))] [1,2] Qagh
def Qtj:List RS:=[.tmp 4]
theorem Qaxk:mFn prog Qeq 2 33 Qayo Qtj=true:=by kernel_rfl
def Qhx:List Item:=[cJ 8 .geq 7 0,mJ 4 8]
def Q16:SC:=sR (mJ 5 0::mJ 6 1::aJ 7 Qi0 [.t 5,.t 6]::Qhx) [4] .ret
def Q7j:SC:=sR [fB 4 false] [0,1] Q16
def Qmn:List RS:=[.tmp 4]
theorem Q5t:mFn prog Qbk 2 9 Q7j Qmn=true:=by kernel_rfl
def Qcm:List Item:=[fI 8 (.ext (.t 7) 0)]
def Qe2:List Item:=[fI 10 (.ext (.t 9) 0),mJ 4 10]
def Qe3:List Item:=[mJ 3 14]
def Qrf:SC:=.reg (mJ 11 3::mJ 12 4::fI 13 (.bsl 1 [.t 12])::xJ 14 1 11 13::Qe3) [3,6]
def Qrg:SC:=.block 1 (sR (eI 9 (.ent (.t 6))::Qe2) [3,4,6] Qrf)
def Qop:SC:=sR (eI 7 (.nxt (.t 6))::Qcm) [3,6,8] (cX 8 0 Qrg)
def Qrh:SC:=sR [mJ 17 3,mJ 2 17] [2] .ret
def Qri:SC:=sR [mJ 15 3,aJ 16 Ql8 [.t 15]] [3] Qrh
def Qrj:SC:=.seq (sR [mJ 5 0,eI 6 (.rng (.t 5))] [3,6] (bL 0 Qop)) Qri
def Qrk:SC:=sR [fI 3 (.mv (.k (.c (.sl true 1 []))))] [0,3] Qrj
def Qy1:SC:=sR [fI 2 (.mv (.k (.c (.sl true 1 []))))] [0] Qrk
def Qhn:List RS:=[.tmp 2]
theorem Qyc:mFn prog Qc4 1 18 Qy1 Qhn=true:=by kernel_rfl
def Qa3d:SC:=cT 4 (sR [fI 2 (.mv (.k (.c (.sl true 1 []))))] [2] .ret) .skip
def Q4r:List Item:=[mJ 2 7]
def Qa3e:SC:=sR (fI 5 (.bsl 1 [])::mJ 6 0::xJ 7 1 5 6::Q4r) [2] .ret
def Qa3f:SC:=.seq (sR [mJ 3 0,eI 4 (.nilq (.t 3))] [0,4] Qa3d) Qa3e
def Qbg9:SC:=sR [fI 2 (.mv (.k (.c (.sl true 1 []))))] [0] Qa3f
def Q52:List RS:=[.tmp 2]
theorem Qbes:mFn prog Qc6 1 8 Qbg9 Q52=true:=by kernel_rfl
def Qaa4:List Item:=[aJ 10 Qbo [.t 5,kI 0,.t 6,.t 9]]
def Qbau:SC:=.reg (mJ 5 0::mJ 6 2::mJ 7 2::fI 8 (.cvt .u64 (.t 7))::aJ 9 Qaei [.t 8]::Qaa4) []
def Qbmh:SC:=sR [mJ 3 0,nJ 4 3,mJ 2 4] [0,2] Qbau
def Qayk:List RS:=[]
theorem Qbj6:mFn prog Ql8 1 11 Qbmh Qayk=true:=by kernel_rfl
def Qaqk:SC:=cT 8 (sR [mJ 9 0,mJ 2 9] [2] .ret) .skip
def Qaql:SC:=.reg [mJ 52 3,cJ 53 .add 52 1,mJ 3 53] [0,3,4,5]
def Qaqm:SC:=cT 44 (sR [mJ 45 0,mJ 46 3,mJ 47 4,mJ 48 5,iJ 49 1 47 48,lJ 50 49,iJ 51 1 45 46,sJ 1 51 50] [0,3,4,5] Qaql) .skip
def Qaqn:SC:=.reg [mJ 33 5,cJ 34 .add 33 1,mJ 5 34] [0,3,4,5]
def Qaqo:SC:=.seq (.block 3 (.seq (.dreg 10 [0,1,2,3,4,5,6,7,8,9] ( mJ 35 4::mJ 36 5::iJ 37 1 35 36::lJ 38 37::mJ 39 4::mJ 40 5::cJ 41 .sub 40 1::iJ 42 1 39 41::lJ 43 42::bJ 44 .neq 38 43::[]) [0,3,4,5,44]) Qaqm)) Qaqn
def Qal3:SC:=.seq (sR [mJ 29 5,mJ 30 4,nJ 31 30,bJ 32 .lss 29 31] [0,3,4,5,32] (cT 32 .skip (.exit 2))) Qaqo
def Qaqp:SC:=sR [mJ 57 0,mJ 58 3,fI 59 (.sli 1 (.t 57) none (some (.t 58))),mJ 2 59] [2] .ret
def Qaqq:SC:=sR [mJ 54 0,mJ 55 3,fI 56 (.sli 1 (.t 54) (some (.t 55)) none),.e none none (.clrs 1 [.int .i64 0] (.t 56))] [0,3] Qaqp
def Qaqr:SC:=.seq (sR [zJ 5 1] [0,3,4,5] (bL 2 Qal3)) Qaqq
def Qaqs:SC:=cT 25 (sR [mJ 26 0,mJ 27 3,fI 28 (.sli 1 (.t 26) (some (.t 27)) none),mJ 4 28] [0,3,4] Qaqr) .skip
def Qaly:SC:=.reg [mJ 14 3,cJ 15 .add 14 1,mJ 3 15] [0,3]
def Qalz:SC:=.seq (.block 1 (.seq (.dreg 10 [0,1,2,3,4,5,6,7,8,9] ( mJ 16 0::mJ 17 3::iJ 18 1 16 17::lJ 19 18::mJ 20 0::mJ 21 3::cJ 22 .sub 21 1::iJ 23 1 20 22::lJ 24 23::bJ 25 .eql 19 24::[]) [0,3,25]) Qaqs)) Qaly
def Qac6:SC:=.seq (sR [mJ 10 3,mJ 11 0,nJ 12 11,bJ 13 .lss 10 12] [0,3,13] (cT 13 .skip (.exit 0))) Qalz
def Qal0:SC:=sR [mJ 60 0,mJ 2 60] [2] .ret
def Qal1:SC:=.seq (sR [zJ 3 1] [0,3] (bL 0 Qac6)) Qal0
def Qal2:SC:=.seq (sR [mJ 6 0,nJ 7 6,cJ 8 .lss 7 2] [0,8] Qaqk) Qal1
def Qa3g:SC:=sR [fI 2 (.mv (.k (.c (.sl true 1 []))))] [0] Qal2
def Qkm:List RS:=[.tmp 2]
theorem Qax2:mFn prog Qn4 1 61 Qa3g Qkm=true:=by kernel_rfl
def Qaun:SC:=sR [mJ 7 1,mJ 8 0,bJ 9 .leq 7 8,mJ 10 9,gTm 11 10 0,gTm 12 10 2,gT 13 10 (.bin 0 .leq (.t 11) (.t 12)),pF 14 10 13,mJ 6 14] [6] .ret
def Qa52:SC:=sR [fB 6 false] [0,1,2] Qaun
def Qafp:List RS:=[.tmp 6]
theorem Qa46:mFn prog Qar 3 15 Qa52 Qafp=true:=by kernel_rfl
def Qac7:SC:=cT 16 (sR [mJ 17 5,mJ 4 17] [4] .ret) .skip
def Qac8:SC:=sR [mJ 11 1,mJ 12 0,mJ 13 5,iJ 14 1 12 13,lJ 15 14,eI 16 (.callv (.t 11) [.t 15])] [0,1,5,7,8,16] Qac7
def Qac9:SC:=.reg [cJ 18 .add 8 1,mJ 8 18] [0,1,7,8]
def Qada:SC:=.seq (.block 1 (sR [mJ 10 8,mJ 5 10] [0,1,5,7,8] Qac8)) Qac9
def Q7k:SC:=sR [bJ 9 .lss 8 7] [0,1,7,8,9] (cX 9 0 Qada)
def Qadb:SC:=sR [zJ 4 (-1)] [4] .ret
def Qadc:SC:=.seq (sR [mJ 6 0,nJ 7 6,zJ 8 0] [0,1,7,8] (bL 0 Q7k)) Qadb
def Qaqt:SC:=sR [zJ 4 0] [0,1] Qadc
def Qlj:List RS:=[.tmp 4]
theorem Qamy:mFn prog Qi0 2 19 Qaqt Qlj=true:=by kernel_rfl
def Qxf:SC:=cT 23 (sR [mJ 24 0,mJ 25 1,mJ 26 2,aJ 27 Qb0 [.t 24,.t 25,.t 26]] [] .ret) .skip
def Qxg:SC:=cT 29 (sR [mJ 30 0,mJ 31 1,mJ 32 2,aJ 33 Qs1 [.t 30,.t 31,.t 32]] [] .ret) .skip
def Qxh:SC:=.reg [mJ 40 3,cJ 41 .sub 40 1,mJ 3 41] [0,1,2,3,8,9,10]
def Qxi:SC:=cT 35 (sR [mJ 36 0,mJ 37 1,mJ 38 2,aJ 39 Qj3 [.t 36,.t 37,.t 38]] [0,1,2,3,8,9,10] Qxh) .skip
def Qsb:List Item:=[mJ 42 46,fI 47 (.ext (.t 42) 0),fI 48 (.ext (.t 42) 1),mJ 11 47,mJ 12 48]
def Qxj:SC:=.reg [zJ 12 1] [0,1,2,3,8,9,10,11,12]
def Qxk:SC:=sR [mJ 55 2,cJ 56 .sub 55 1,mJ 57 11,mJ 58 1,bJ 59 .sub 57 58,bJ 60 .sub 56 59,mJ 11 60] [0,1,2,3,8,9,10,11] Qxj
def Qxl:SC:=cT 50 (sR [mJ 51 0,mJ 52 1,mJ 53 2,aJ 54 Qlc [.t 51,.t 52,.t 53]] [0,1,2,3,8,9,10,11] Qxk) .skip
def Qxm:SC:=cT 68 (sR [mJ 69 0,mJ 70 1,mJ 71 2,aJ 72 Qer [.t 69,.t 70,.t 71]] [0,1,2,3,8,9,10,11,72] (cT 72 .ret .skip)) .skip
def Qsc:List Item:=[gT 86 75 (.not (.t 85)),pF 87 75 86]
def Qov:List Item:=[mJ 13 92]
def Qrr:SC:=sR [mJ 93 13,mJ 1 93] [0,1,2,3,8,9] (.exit 1)
def Qrs:SC:=cT 87 (sR (mJ 88 0::mJ 89 1::mJ 90 2::mJ 91 11::aJ 92 Qi1 [.t 88,.t 89,.t 90,.t 91]::Qov) [0,2,3,8,9,13] Qrr) .skip
def Qow:List Item:=[mJ 94 99,fI 100 (.ext (.t 94) 0),fI 101 (.ext (.t 94) 1),mJ 14 100,mJ 15 101]
def Qrt:SC:=.reg [mJ 122 14,cJ 123 .add 122 1,mJ 1 123] [0,1,2,3,8,9]
def Qru:SC:=sR [mJ 117 0,mJ 118 1,mJ 119 14,mJ 120 3,aJ 121 Qbo [.t 117,.t 118,.t 119,.t 120]] [0,2,3,8,9,14] Qrt
def Qrv:SC:=.reg [mJ 133 14,mJ 2 133] [0,1,2,3,8,9]
def Qrw:SC:=sR [mJ 127 0,mJ 128 14,cJ 129 .add 128 1,mJ 130 2,mJ 131 3,aJ 132 Qbo [.t 127,.t 129,.t 130,.t 131]] [0,1,3,8,9,14] Qrv
def Qrx:SC:=cT 113 (sR [mJ 114 16,mJ 115 18,bJ 116 .geq 114 115,mJ 8 116] [0,1,2,3,8,9,14] Qru) (sR [mJ 124 17,mJ 125 18,bJ 126 .geq 124 125,mJ 8 126] [0,1,2,3,8,9,14] Qrw)
def Qry:SC:=sR [mJ 111 16,mJ 112 17,bJ 113 .lss 111 112] [0,1,2,3,9,14,16,17,18,113] Qrx
def Qrz:SC:=sR [mJ 109 10,cJ 110 .quo 109 8,mJ 18 110] [0,1,2,3,9,14,16,17,18] Qry
def Qr0:SC:=sR [mJ 103 14,mJ 104 1,bJ 105 .sub 103 104,mJ 106 2,mJ 107 14,bJ 108 .sub 106 107,mJ 16 105,mJ 17 108] [0,1,2,3,9,10,14,16,17] Qrz
def Qr1:SC:=sR [mJ 102 15,mJ 9 102] [0,1,2,3,9,10,14] Qr0
def Qr2:SC:=sR (mJ 95 0::mJ 96 1::mJ 97 2::mJ 98 11::aJ 99 Qq6 [.t 95,.t 96,.t 97,.t 98]::Qow) [0,1,2,3,10,14,15] Qr1
def Qr3:SC:=.seq (.seq (.dreg 15 [0,1,2,3,4,5,6,7,8,9,10,11,12,13,14] ( mJ 73 1::cJ 74 .gtr 73 0::mJ 75 74::gTm 76 75 0::gTm 77 75 1::gT 78 75 (.bin 0 .sub (.t 77) (kI 1))::gT 79 75 (.iad 1 (.t 76) (.t 78))::gTl 80 75 79::gTm 81 75 0::gTm 82 75 11::gT 83 75 (.iad 1 (.t 81) (.t 82))::gTl 84 75 83::.e (some 85) (some (75,true)) (.call Qaej [.t 80,.t 84])::Qsc) [0,1,2,3,8,9,10,11,87]) Qrs) Qr2
def Qr4:SC:=.seq (sR [mJ 61 8,mJ 62 61,gTm 63 62 9,pF 64 62 63,mJ 65 64,gTm 66 65 12,gT 67 65 (.bin 0 .eql (.t 66) (kI 1)),pF 68 65 67] [0,1,2,3,8,9,10,11,68] Qxm) Qr3
def Qr5:SC:=.seq (sR [mJ 49 12,cJ 50 .eql 49 2] [0,1,2,3,8,9,10,11,12,50] Qxl) Qr4
def Qr6:SC:=sR (mJ 43 0::mJ 44 1::mJ 45 2::aJ 46 Ql9 [.t 43,.t 44,.t 45]::Qsb) [0,1,2,3,8,9,10,11,12] Qr5
def Qr7:SC:=.seq (sR [mJ 34 8,oJ 35 34] [0,1,2,3,8,9,10,35] Qxi) Qr6
def Qr8:SC:=.seq (sR [mJ 28 3,cJ 29 .eql 28 0] [0,1,2,3,8,9,10,29] Qxg) Qr7
def Qr9:SC:=.seq (sR [mJ 22 10,cJ 23 .leq 22 12] [0,1,2,3,8,9,10,23] Qxf) Qr8
def Qox:SC:=.block 1 (sR [mJ 19 2,mJ 20 1,bJ 21 .sub 19 20,mJ 10 21] [0,1,2,3,8,9,10] Qr9)
def Qsa:SC:=sR [fB 9 true] [0,1,2,3,8,9] (bL 0 Qox)
def Q18:SC:=sR [fB 8 true] [0,1,2,3,8] Qsa
def Qjc:List RS:=[]
theorem Q05:mFn prog Qbo 4 134 Q18 Qjc=true:=by kernel_rfl
def Qif:List Item:=[pF 30 19 29]
def Qig:List Item:=[iJ 48 1 35 37,sJ 1 48 46]
def Qjs:SC:=.reg [mJ 31 7,cJ 32 .sub 31 1,mJ 7 32] [0,1,2,6,7]
def Qjt:SC:=.seq (.block 3 (.dreg 18 [0,1,2,3,4,5,6,7,8,9,10,11,12,13,14,15,16,17] ( mJ 33 0::mJ 34 7::mJ 35 0::mJ 36 7::cJ 37 .sub 36 1::mJ 38 0::mJ 39 7::cJ 40 .sub 39 1::iJ 41 1 38 40::lJ 42 41::mJ 43 0::mJ 44 7::iJ 45 1 43 44::lJ 46 45::iJ 47 1 33 34::sJ 1 47 42::Qig) [0,1,2,6,7])) Qjs
def Qih:SC:=.seq (.seq (.dreg 15 [0,1,2,3,4,5,6,7,8,9,10,11,12,13,14] ( mJ 16 7::mJ 17 1::bJ 18 .gtr 16 17::mJ 19 18::gTm 20 19 0::gTm 21 19 7::gT 22 19 (.iad 1 (.t 20) (.t 21))::gTl 23 19 22::gTm 24 19 0::gTm 25 19 7::gT 26 19 (.bin 0 .sub (.t 25) (kI 1))::gT 27 19 (.iad 1 (.t 24) (.t 26))::gTl 28 19 27::.e (some 29) (some (19,true)) (.call Qaej [.t 23,.t 28])::Qif) [0,1,2,6,7,30]) (cT 30 .skip (.exit 2))) Qjt
def Qju:SC:=.reg [mJ 13 6,cJ 14 .add 13 1,mJ 6 14] [0,1,2,6]
def Qjv:SC:=.seq (.block 1 (sR [mJ 15 6,mJ 7 15] [0,1,2,6,7] (bL 2 Qih))) Qju
def Qii:SC:=.seq (sR [mJ 10 6,mJ 11 2,bJ 12 .lss 10 11] [0,1,2,6,12] (cT 12 .skip (.exit 0))) Qjv
def Qlw:SC:=sR [mJ 8 1,cJ 9 .add 8 1,mJ 6 9] [0,1,2,6] (bL 0 Qii)
def Qdu:List RS:=[]
theorem Qlg:mFn prog Qb0 3 49 Qlw Qdu=true:=by kernel_rfl
def Qpc:List Item:=[fB 3 false]
def Qpd:List Item:=[mJ 3 7]
def Qpe:List Item:=fI 6 (.ext (.t 5) 0)::fI 7 (.ext (.t 5) 1)::sJ 1 2 6::Qpd
def Qaf6:SC:=sR (tJ 4 1 1::eI 5 (.call Qnu [.t 4,.k (.c (.fn Qcr []))])::Qpe) [2,3] .ret
def Qatq:SC:=sR (vJ 1 0::eI 2 (.alloc [.sl true 3 []])::Qpc) [1,2] Qaf6
def Q2w:List RS:=[.cell 2 1 true,.tmp 3]
theorem Qasy:mFn prog Qk4 1 8 Qatq Q2w=true:=by kernel_rfl
def Qpf:List Item:=[oJ 8 7]
def Qaf7:SC:=cT 8 (sR [zJ 2 (-1)] [2] .ret) .skip
def Qpg:List Item:=[sJ 3 5 15]
def Qph:List Item:=[bJ 19 .add 16 18,mJ 3 19]
def Qaf8:SC:=.reg (mJ 16 3::tJ 17 3 5::aJ 18 Qcd [.t 17]::Qph) [3,10,11,12]
def Qaf9:SC:=.reg [cJ 20 .add 12 1,mJ 12 20] [3,10,11,12]
def Qaga:SC:=.seq (.block 1 (sR (iJ 14 3 10 12::tJ 15 3 14::eI 5 (.alloc [.int .i64 0,.int .i64 0,.sl true 5 []])::Qpg) [3,5,10,11,12] Qaf8)) Qaf9
def Qabj:SC:=sR [bJ 13 .lss 12 11] [3,10,11,12,13] (cX 13 0 Qaga)
def Qagb:SC:=sR [mJ 21 3,mJ 2 21] [2] .ret
def Qagc:SC:=.seq (sR [fJ 9 0 1,lJ 10 9,nJ 11 10,zJ 12 0] [3,10,11,12] (bL 0 Qabj)) Qagb
def Qabh:SC:=sR [zJ 3 0] [1,3] Qagc
def Qabi:SC:=.seq (sR (tJ 6 1 1::aJ 7 Qbb [.t 6]::Qpf) [1,8] Qaf7) Qabh
def Qatr:SC:=sR [vJ 1 0,zJ 2 0] [1] Qabi
def Qn9:List RS:=[.tmp 2]
theorem Qasz:mFn prog Qgp 1 22 Qatr Qn9=true:=by kernel_rfl
def Qb3:List Item:=[gF 41 26 (.not (.t 40)),pT 42 26 41]
def Qb4:List Item:=gF 24 13 (.not (.t 23))::pT 25 13 24::mJ 26 25::gFm 27 26 3::gFf 28 26 0 4::gFl 29 26 28::gFm 30 26 1::gF 31 26 (.iad 3 (.t 29) (.t 30))::gFf 32 26 2 31::gFl 33 26 32::gFm 34 26 2::gF 35 26 (.iad 5 (.t 33) (.t 34))::gFf 36 26 1 35::gFl 37 26 36::gF 38 26 (.len (.t 37))::gF 39 26 (.bin 0 .sub (.t 38) (kI 1))::.e (some 40) (some (26,false)) (.call Qar [.t 27,kI (-1),.t 39])::Qb3
def Qc2:List Item:=oJ 12 11::mJ 13 12::gFm 14 13 2::gFf 15 13 0 4::gFl 16 13 15::gFm 17 13 1::gF 18 13 (.iad 3 (.t 16) (.t 17))::gFf 19 13 2 18::gFl 20 13 19::gF 21 13 (.len (.t 20))::gF 22 13 (.bin 0 .sub (.t 21) (kI 1))::.e (some 23) (some (13,false)) (.call Qar [.t 14,kI 0,.t 22])::Qb4
def Q56:SC:=cT 42 (sR [fI 8 (.mv (.k (.c (.sl true 1 []))))] [8] .ret) .skip
def Qkn:List Item:=[mJ 8 52]
def Qko:List Item:=aJ 52 Qc4 [.t 51]::Qkn
def Qkp:List Item:=mJ 49 2::mJ 50 3::aJ 51 Qbv [.t 48,.t 49,.t 50]::Qko
def Q57:SC:=sR (fJ 43 0 4::lJ 44 43::mJ 45 1::iJ 46 3 44 45::tJ 47 3 46::aJ 48 Qka [.t 47]::Qkp) [8] .ret
def Q58:SC:=.seq (sR (tJ 9 1 4::mJ 10 1::aJ 11 Qsv [.t 9,.t 10]::Qc2) [1,2,3,4,42] Q56) Q57
def Qagd:SC:=sR [vJ 4 0,fI 8 (.mv (.k (.c (.sl true 1 []))))] [1,2,3,4] Q58
def Qex:List RS:=[.tmp 8]
theorem Qs8:mFn prog Qdy 4 53 Qagd Qex=true:=by kernel_rfl
def Qzs:List Item:=[oJ 6 5]
def Qats:SC:=cT 6 (sR [zJ 2 (-1)] [2] .ret) .skip
def Qatt:SC:=sR [fJ 7 1 1,lJ 8 7,mJ 2 8] [2] .ret
def Qatu:SC:=.seq (sR (fJ 3 0 1::lJ 4 3::aJ 5 Ql1 [.t 4]::Qzs) [1,6] Qats) Qatt
def Qa5s:SC:=sR [vJ 1 0,zJ 2 0] [1] Qatu
def Q1a:List RS:=[.tmp 2]
theorem Qa40:mFn prog Qss 1 9 Qa5s Q1a=true:=by kernel_rfl
def Qmq:List Item:=[oJ 10 9]
def Qabl:SC:=cT 10 (sR [fB 2 false] [2] .ret) .skip
def Qmr:List Item:=[mJ 4 16,sJ 3 5 18]
def Qms:List Item:=[oJ 22 21]
def Qabm:SC:=cT 22 (sR [fB 2 false] [2] .ret) .skip
def Qmt:List Item:=[bJ 26 .add 23 25,mJ 3 26]
def Qabn:SC:=.reg (mJ 23 3::tJ 24 3 5::aJ 25 Qcd [.t 24]::Qmt) [1,3,12,13,14]
def Qabo:SC:=.seq (sR (tJ 19 1 1::mJ 20 4::aJ 21 Qsw [.t 19,.t 20]::Qms) [1,3,5,12,13,14,22] Qabm) Qabn
def Qabp:SC:=.reg [cJ 27 .add 14 1,mJ 14 27] [1,3,12,13,14]
def Qabq:SC:=.seq (.block 1 (sR (mJ 16 14::iJ 17 3 12 14::tJ 18 3 17::eI 5 (.alloc [.int .i64 0,.int .i64 0,.sl true 5 []])::Qmr) [1,3,4,5,12,13,14] Qabo)) Qabp
def Q3d:SC:=sR [bJ 15 .lss 14 13] [1,3,12,13,14,15] (cX 15 0 Qabq)
def Q6c:SC:=sR [mJ 28 3,cJ 29 .leq 28 800,mJ 2 29] [2] .ret
def Q6d:SC:=.seq (sR [fJ 11 0 1,lJ 12 11,nJ 13 12,zJ 14 0] [1,3,12,13,14] (bL 0 Q3d)) Q6c
def Q6e:SC:=sR [zJ 3 0] [1,3] Q6d
def Q6f:SC:=.seq (sR (fJ 6 0 1::lJ 7 6::nJ 8 7::aJ 9 Qar [.t 8,kI 1,kI 4]::Qmq) [1,10] Qabl) Q6e
def Qanb:SC:=sR [vJ 1 0,fB 2 false] [1] Q6f
def Qlh:List RS:=[.tmp 2]
theorem Qamo:mFn prog Qbb 1 30 Qanb Qlh=true:=by kernel_rfl
def Qpo:List Item:=[hJ 4 3,fI 8 (.bld [.int .i64 0,.sl true 1 []] [(0,1,.t 4),(1,1,.t 7)]),sJ 2 2 8]
def Qagt:SC:=.seq (.dreg 7 [0,1,2,3,4,1,5,6] ( fJ 3 0 1::lJ 4 3::fJ 5 1 1::lJ 6 5::aJ 7 Qc6 [.t 6]::Qpo) [2]) .ret
def Qat5:SC:=sR [vJ 1 0,eI 2 (.alloc [.int .i64 0,.sl true 1 []])] [1,2] Qagt
def Q2x:List RS:=[.cell 2 2 true]
theorem Qas2:mFn prog Qdr 1 9 Qat5 Q2x=true:=by kernel_rfl
def Qll:List Item:=[pF 14 7 13,mJ 4 14]
def Qlm:List Item:=mJ 7 6::gTm 8 7 1::gTf 9 7 0 2::gTl 10 7 9::gT 11 7 (.len (.t 10))::gT 12 7 (.bin 0 .sub (.t 11) (kI 1))::.e (some 13) (some (7,true)) (.call Qar [.t 8,kI 0,.t 12])::Qll
def Qat6:SC:=sR (tJ 5 1 2::aJ 6 Qbb [.t 5]::Qlm) [4] .ret
def Qa5t:SC:=sR [vJ 2 0,fB 4 false] [1,2] Qat6
def Q1b:List RS:=[.tmp 4]
theorem Qa41:mFn prog Qsv 2 15 Qa5t Q1b=true:=by kernel_rfl
def Qmv:List Item:=[sJ 5 5 12]
def Qabu:SC:=.reg [mJ 13 3,fJ 14 0 5,lJ 15 14,nJ 16 15,fJ 17 1 5,lJ 18 17,nJ 19 18,bJ 20 .add 16 19,bJ 21 .add 13 20,mJ 3 21] [3,7,8,9]
def Qabv:SC:=.reg [cJ 22 .add 9 1,mJ 9 22] [3,7,8,9]
def Qabw:SC:=.seq (.block 1 (sR (iJ 11 5 7 9::tJ 12 5 11::eI 5 (.alloc [.sl true 2 [],.sl true 4 [],.int .i64 0,.int .i64 0,.sl true 1 []])::Qmv) [3,5,7,8,9] Qabu)) Qabv
def Q6j:SC:=sR [bJ 10 .lss 9 8] [3,7,8,9,10] (cX 10 0 Qabw)
def Qabx:SC:=sR [mJ 23 3,mJ 2 23] [2] .ret
def Qaby:SC:=.seq (sR [fJ 6 2 1,lJ 7 6,nJ 8 7,zJ 9 0] [3,7,8,9] (bL 0 Q6j)) Qabx
def Qabz:SC:=sR [zJ 3 0] [1,3] Qaby
def Qane:SC:=sR [vJ 1 0,zJ 2 0] [1] Qabz
def Qzk:List RS:=[.tmp 2]
theorem Qamq:mFn prog Qcd 1 24 Qane Qzk=true:=by kernel_rfl
def Qzy:List Item:=[sJ 3 5 16]
def Qgs:List Item:=[gF 35 30 (.not (.t 34)),pT 36 30 35]
def Qgt:List Item:=gF 28 21 (.not (.t 27))::pT 29 21 28::mJ 30 29::gFf 31 30 2 5::gFl 32 30 31::gF 33 30 (.len (.t 32))::.e (some 34) (some (30,false)) (.call Qar [.t 33,kI 1,kI 160])::Qgs
def Qlo:List Item:=oJ 20 19::mJ 21 20::gFf 22 21 0 5::gFl 23 21 22::gFf 24 21 1 5::gFl 25 21 24::gF 26 21 (.mn (kI 3) (.t 25))::.e (some 27) (some (21,false)) (.call Qar [.t 23,kI 0,.t 26])::Qgt
def s_im_codeOk_4:SC:=cT 36 (sR [fB 4 false] [4] .ret) .skip
def Qzz:List Item:=[sJ 1 6 37]
def Qz0:List Item:=[mJ 7 43,sJ 5 8 45]
def Qdw:List Item:=[gF 69 65 (.not (.t 68)),gFm 70 65 69,gTf 71 70 3 8,gTl 72 70 71,gT 73 70 (.bin 0 .neq (.t 72) (kI 0)),gF 74 65 (.pick (.t 70) (.t 73) (.k (.c (.bool false)))),pT 75 65 74]
def Qdx:List Item:=gT 62 57 (.not (.t 61))::gF 63 53 (.pick (.t 57) (.t 62) (.k (.c (.bool false))))::pT 64 53 63::mJ 65 64::gFf 66 65 2 8::gFl 67 65 66::.e (some 68) (some (65,false)) (.call Qgy [.t 67])::Qdw
def Qgu:List Item:=gFm 57 53 56::gTl 58 57 6::gTf 59 57 3 8::gTl 60 57 59::.e (some 61) (some (57,true)) (.callv (.t 58) [.t 60])::Qdx
def Qji:List Item:=hJ 47 46::.chk 48 none (.len (.t 47))::bJ 52 .neq 48 51::mJ 53 52::gFf 54 53 2 8::gFl 55 53 54::.e (some 56) (some (53,false)) (.call Qgy [.t 55])::Qgu
def s_im_codeOk_11:SC:=cT 75 (sR [fB 4 false] [4] .ret) .skip
def Qjj:List Item:=[pT 85 80 84]
def Qjk:List Item:=mJ 80 79::gFf 81 80 1 8::gFl 82 80 81::gF 83 80 (.mkf Qiu [.t 2,.t 3])::.e (some 84) (some (80,false)) (.call Qcw [.t 82,.t 83])::Qjj
def s_im_codeOk_14:SC:=cT 85 (sR [fB 4 false] [4] .ret) .skip
def Qt2:List Item:=[nJ 89 88,mJ 9 89]
def Qt3:List Item:=[sJ 2 11 96]
def Qda:List Item:=[pT 118 113 117]
def Qdb:List Item:=gF 104 99 (.not (.t 103))::pT 105 99 104::mJ 106 105::gFf 107 106 1 11::gFl 108 106 107::gF 109 106 (.len (.t 108))::gFm 110 106 9::gF 111 106 (.bin 0 .neq (.t 109) (.t 110))::pT 112 106 111::mJ 113 112::gFf 114 113 1 11::gFl 115 113 114::gF 116 113 (.mkf Qiv [.t 6])::.e (some 117) (some (113,false)) (.call Qbk [.t 115,.t 116])::Qda
def Qzu:SC:=cT 118 (sR [fB 4 false] [4] .ret) .skip
def Qanf:SC:=sR (mJ 97 7::cJ 98 .eql 97 0::mJ 99 98::gFl 100 99 6::gFf 101 99 0 11::gFl 102 99 101::.e (some 103) (some (99,false)) (.callv (.t 100) [.t 102])::Qdb) [2,3,5,6,7,9,39,40,41,91,92,93,118] Qzu
def Qzv:SC:=.reg [cJ 119 .add 93 1,mJ 93 119] [2,3,5,6,7,9,39,40,41,91,92,93]
def Qang:SC:=.seq (.block 3 (sR (iJ 95 2 91 93::tJ 96 2 95::eI 11 (.alloc [.int .i64 0,.sl true 1 []])::Qt3) [2,3,5,6,7,9,11,39,40,41,91,92,93] Qanf)) Qzv
def Qagu:SC:=sR [bJ 94 .lss 93 92] [2,3,5,6,7,9,39,40,41,91,92,93,94] (cX 94 2 Qang)
def Qanh:SC:=sR [fJ 90 0 8,lJ 91 90,nJ 92 91,zJ 93 0] [2,3,5,6,7,9,39,40,41,91,92,93] (bL 2 Qagu)
def Qln:SC:=sR (tJ 86 3 5::mJ 87 7::aJ 88 Qeq [.t 86,.t 87]::Qt2) [2,3,5,6,7,8,9,39,40,41] Qanh
def Qzw:SC:=.seq (sR (fJ 76 4 8::lJ 77 76::fI 78 (.mkf Qit [.t 5])::aJ 79 Qbk [.t 77,.t 78]::Qjk) [2,3,5,6,7,8,39,40,41,85] s_im_codeOk_14) Qln
def Qani:SC:=.seq (.seq (.dreg 30 [0,1,2,3,4,5,1,2,6,7,8,9,10,11,12,13,14,15,16,17,18,19,20,21,22,23,24,25,26,27,28,29] ( fJ 46 4 8::lJ 47 46::nJ 48 47::fJ 49 2 8::lJ 50 49::aJ 51 Qix [.t 50]::Qji) [2,3,5,6,7,8,39,40,41,75]) s_im_codeOk_11) Qzw
def Qanj:SC:=.reg [cJ 120 .add 41 1,mJ 41 120] [2,3,5,6,39,40,41]
def Qank:SC:=.seq (.block 1 (sR (mJ 43 41::iJ 44 5 39 41::tJ 45 5 44::eI 8 (.alloc [.sl true 2 [],.sl true 4 [],.int .i64 0,.int .i64 0,.sl true 1 []])::Qz0) [2,3,5,6,7,8,39,40,41] Qani)) Qanj
def Qagv:SC:=sR [bJ 42 .lss 41 40] [2,3,5,6,39,40,41,42] (cX 42 0 Qank)
def Qanl:SC:=sR [fB 4 true] [4] .ret
def Qanm:SC:=.seq (sR [fJ 38 2 5,lJ 39 38,nJ 40 39,zJ 41 0] [2,3,5,6,39,40,41] (bL 0 Qagv)) Qanl
def Qzx:SC:=sR (fI 37 (.mkf Qap [.t 5])::eI 6 (.alloc [.fnil])::Qzz) [2,3,5,6] Qanm
def Qann:SC:=.seq (sR (fJ 17 1 5::lJ 18 17::aJ 19 Qar [.t 18,kI 0,kI 300]::Qlo) [2,3,5,36] s_im_codeOk_4) Qzx
def Qano:SC:=sR (fJ 12 0 2::lJ 13 12::lJ 14 3::iJ 15 3 13 14::tJ 16 3 15::eI 5 (.alloc [.int .i64 0,.int .i64 0,.sl true 5 []])::Qzy) [2,3,5] Qann
def Qa5u:SC:=sR [vJ 2 0,vJ 3 1,fB 4 false] [2,3] Qano
def Qi8:List RS:=[.tmp 4]
theorem Qa42:mFn prog Qsw 2 121 Qa5u Qi8=true:=by kernel_rfl
def Qmw:List Item:=[mJ 3 8]
def Qab0:SC:=sR (mJ 4 0::fJ 5 1 1::lJ 6 5::cJ 7 .sub 6 1::aJ 8 Qar [.t 4,kI 0,.t 7]::Qmw) [3] .ret
def Qanp:SC:=sR [fB 3 false] [0,1] Qab0
def Qzl:List RS:=[.tmp 3]
theorem Qamr:mFn prog Qap 2 9 Qanp Qzl=true:=by kernel_rfl
def Qmx:List Item:=[oJ 10 9,mJ 3 10]
def Qab1:SC:=sR (mJ 4 0::fJ 5 2 1::lJ 6 5::nJ 7 6::cJ 8 .sub 7 1::aJ 9 Qar [.t 4,kI 1,.t 8]::Qmx) [3] .ret
def Qanq:SC:=sR [fB 3 false] [0,1] Qab1
def Qzm:List RS:=[.tmp 3]
theorem Qams:mFn prog Qit 2 11 Qanq Qzm=true:=by kernel_rfl
def Qmy:List Item:=[oJ 9 8,mJ 4 9]
def Qab2:SC:=sR (tJ 5 1 1::lJ 6 2::tJ 7 4 3::aJ 8 Q0x [.t 5,.t 6,.t 7]::Qmy) [4] .ret
def Qanr:SC:=sR [vJ 3 0,fB 4 false] [1,2,3] Qab2
def Qzn:List RS:=[.tmp 4]
theorem Qamt:mFn prog Qiu 3 10 Qanr Qzn=true:=by kernel_rfl
def Qmz:List Item:=[oJ 7 6,mJ 3 7]
def Qab3:SC:=sR (lJ 4 1::mJ 5 0::eI 6 (.callv (.t 4) [.t 5])::Qmz) [3] .ret
def Qans:SC:=sR [fB 3 false] [0,1] Qab3
def Qzo:List RS:=[.tmp 3]
theorem Qamu:mFn prog Qiv 2 8 Qans Qzo=true:=by kernel_rfl
def Q3p:SC:=sR [lJ 4 1,fJ 5 0 2,lJ 6 5,fI 7 (.lup 0 (.c (.bool false)) (.t 4) (.t 6)),oJ 8 7,mJ 3 8] [3] .ret
def Qab5:SC:=sR [vJ 2 0,fB 3 false] [1,2] Q3p
def Qo8:List RS:=[.tmp 3]
theorem Qabb:mFn prog Qa5 2 9 Qab5 Qo8=true:=by kernel_rfl
def Qagw:SC:=cT 4 .skip (.reg [cJ 12 .eql 3 9,mJ 4 12] [4])
def Qagx:SC:=cT 4 .skip (sR [cJ 11 .eql 3 8,mJ 4 11] [3,4] Qagw)
def Qagy:SC:=cT 4 .skip (sR [cJ 10 .eql 3 5,mJ 4 10] [3,4] Qagx)
def Qagz:SC:=cT 4 .skip (sR [cJ 9 .eql 3 4,mJ 4 9] [3,4] Qagy)
def Qag0:SC:=cT 4 .skip (sR [cJ 8 .eql 3 3,mJ 4 8] [3,4] Qagz)
def Qag1:SC:=cT 4 .skip (sR [cJ 7 .eql 3 10,mJ 4 7] [3,4] Qag0)
def Qag2:SC:=cT 4 .skip (sR [cJ 6 .eql 3 2,mJ 4 6] [3,4] Qag1)
def Qt4:SC:=cT 4 (sR [fB 2 true] [2] .ret) .skip
def Qag3:SC:=.block 0 (.seq (sR [cJ 5 .eql 3 1,mJ 4 5] [3,4] Qag2) Qt4)
def Qt5:SC:=sR [fB 2 false] [2] .ret
def Qab6:SC:=.seq (sR [mJ 3 0] [3] Qag3) Qt5
def Qat7:SC:=sR [fB 2 false] [0] Qab6
def Qia:List RS:=[.tmp 2]
theorem Qas3:mFn prog Qk5 1 13 Qat7 Qia=true:=by kernel_rfl
def Qanu:SC:=cT 6 .skip (.reg [cJ 10 .eql 3 13,mJ 6 10] [6])
def Qanv:SC:=cT 6 .skip (sR [cJ 9 .eql 3 11,mJ 6 9] [3,6] Qanu)
def Qanw:SC:=cT 6 .skip (sR [cJ 8 .eql 3 10,mJ 6 8] [3,6] Qanv)
def Qz1:SC:=cT 6 (sR [zJ 2 1] [2] .ret) .skip
def Qanx:SC:=cT 4 (sR [zJ 2 0] [2] .ret) (.seq (sR [cJ 7 .eql 3 2,mJ 6 7] [3,6] Qanw) Qz1)
def Qany:SC:=.block 0 (sR [cJ 5 .eql 3 1,mJ 4 5] [3,4] Qanx)
def Qz2:SC:=sR [zJ 2 2] [2] .ret
def Qanz:SC:=.seq (sR [mJ 3 0] [3] Qany) Qz2
def Qayy:SC:=sR [zJ 2 0] [0] Qanz
def Qkj:List RS:=[.tmp 2]
theorem Qaxn:mFn prog Qns 1 11 Qayy Qkj=true:=by kernel_rfl
def Q3s:List Item:=[sJ 3 7 13]
def Q3t:List Item:=[sJ 1 8 14]
def Qoe:List Item:=[pT 24 19 23]
def Q3u:List Item:=oJ 18 17::mJ 19 18::gFf 20 19 2 5::gFl 21 19 20::gF 22 19 (.mkf Qk6 [.t 8])::.e (some 23) (some (19,false)) (.call Qbk [.t 21,.t 22])::Qoe
def s_im_insOk_4:SC:=cT 24 (sR [fB 6 false] [6] .ret) .skip
def Qic:List Item:=[gF 39 35 (.not (.t 38)),gFm 40 35 39,gTf 41 40 1 5,gTl 42 40 41,gT 43 40 (.bin 0 .neq (.t 42) (kI (-1))),gF 44 35 (.pick (.t 40) (.t 43) (.k (.c (.bool false)))),pT 45 35 44]
def Qid:List Item:=gT 33 28 (.not (.t 32))::pF 34 28 33::mJ 35 34::gFf 36 35 0 5::gFl 37 35 36::.e (some 38) (some (35,false)) (.call Ql1 [.t 37])::Qic
def Qof:List Item:=mJ 28 27::gTl 29 28 8::gTf 30 28 1 5::gTl 31 28 30::.e (some 32) (some (28,true)) (.callv (.t 29) [.t 31])::Qid
def s_im_insOk_8:SC:=cT 45 (sR [fB 6 false] [6] .ret) .skip
def Qog:List Item:=[pF 58 54 57,mJ 6 58]
def Qgv:List Item:=[mJ 66 65,gTf 67 66 2 5,gTl 68 66 67,gT 69 66 (.len (.t 68)),gTf 70 66 0 3,gTl 71 66 70,gTf 72 66 3 5,gTl 73 66 72,gT 74 66 (.iad 3 (.t 71) (.t 73)),gTf 75 66 0 74,gTl 76 66 75,gT 77 66 (.bin 0 .eql (.t 69) (.t 76)),pF 78 66 77,mJ 6 78]
def Qat8:SC:=cT 59 (.seq (.dreg 19 [0,1,2,3,4,5,6,7,8,9,10,11,12,13,14,15,16,17,18] ( fJ 61 3 5::lJ 62 61::mJ 63 1::cJ 64 .sub 63 1::aJ 65 Qar [.t 62,kI 0,.t 64]::Qgv) [6]) .ret) .skip
def Qat9:SC:=cT 48 (sR (fJ 50 2 5::lJ 51 50::nJ 52 51::cJ 53 .eql 52 0::mJ 54 53::gTf 55 54 3 5::gTl 56 54 55::.e (some 57) (some (54,true)) (.call Qj9 [.t 56])::Qog) [6] .ret) (sR [cJ 60 .eql 47 14,mJ 59 60] [1,3,5,59] Qat8)
def Qaua:SC:=.block 0 (sR [cJ 49 .eql 47 1,mJ 48 49] [1,3,5,47,48] Qat9)
def Qlp:List Item:=[.chk 84 (some (82,true)) (.ld 1 false (.t 83)),.chk 85 (some (82,true)) (.len (.t 84)),gT 89 82 (.bin 0 .eql (.t 85) (.t 88)),pF 90 82 89,mJ 6 90]
def Qaub:SC:=.seq (.dreg 13 [0,1,2,3,4,5,6,7,8,9,5,6,10,11,12] ( fJ 79 3 5::lJ 80 79::cJ 81 .eql 80 0::mJ 82 81::gTf 83 82 2 5::gTl 84 82 83::gT 85 82 (.len (.t 84))::gTf 86 82 0 5::gTl 87 82 86::.e (some 88) (some (82,true)) (.call Qns [.t 87])::Qlp) [6]) .ret
def Q3q:SC:=.seq (sR [fJ 46 0 5,lJ 47 46] [1,3,5,47] Qaua) Qaub
def Q3r:SC:=.seq (sR (fJ 25 0 5::lJ 26 25::aJ 27 Ql1 [.t 26]::Qof) [1,3,5,45] s_im_insOk_8) Q3q
def Qauc:SC:=.seq (sR (fJ 15 0 5::lJ 16 15::aJ 17 Qnt [.t 16]::Q3u) [1,3,5,8,24] s_im_insOk_4) Q3r
def Qaud:SC:=sR (fI 14 (.mkf Qds [.t 7])::eI 8 (.alloc [.fnil])::Q3t) [1,3,5,8] Qauc
def Qaue:SC:=sR (fJ 9 0 3::lJ 10 9::mJ 11 1::iJ 12 3 10 11::tJ 13 3 12::eI 7 (.alloc [.int .i64 0,.int .i64 0,.sl true 5 []])::Q3s) [1,3,5,7] Qaud
def Qbe5:SC:=sR [vJ 3 0,vJ 5 2,fB 6 false] [1,3,5] Qaue
def Qmh:List RS:=[.tmp 6]
theorem Qbem:mFn prog Q0x 3 91 Qbe5 Qmh=true:=by kernel_rfl
def Qpp:List Item:=[mJ 3 8]
def Qag4:SC:=sR (mJ 4 0::fJ 5 1 1::lJ 6 5::cJ 7 .sub 6 1::aJ 8 Qar [.t 4,kI 0,.t 7]::Qpp) [3] .ret
def Qauf:SC:=sR [fB 3 false] [0,1] Qag4
def Q2y:List RS:=[.tmp 3]
theorem Qas4:mFn prog Qds 2 9 Qauf Q2y=true:=by kernel_rfl
def Qpq:List Item:=[oJ 7 6,mJ 3 7]
def Qag5:SC:=sR (lJ 4 1::mJ 5 0::eI 6 (.callv (.t 4) [.t 5])::Qpq) [3] .ret
def Qaug:SC:=sR [fB 3 false] [0,1] Qag5
def Q2z:List RS:=[.tmp 3]
theorem Qas5:mFn prog Qk6 2 8 Qaug Q2z=true:=by kernel_rfl
def Qz3:List Item:=[mJ 2 4]
def Qauh:SC:=sR (mJ 3 0::aJ 4 Qar [.t 3,kI 0,kI 255]::Qz3) [2] .ret
def Qa5v:SC:=sR [fB 2 false] [0] Qauh
def Qafm:List RS:=[.tmp 2]
theorem Qa43:mFn prog Qj9 1 5 Qa5v Qafm=true:=by kernel_rfl
def Q3v:List Item:=[mJ 2 4]
def Qayz:SC:=sR (mJ 3 0::aJ 4 Qar [.t 3,kI 1,kI 14]::Q3v) [2] .ret
def Qbe6:SC:=sR [fB 2 false] [0] Qayz
def Qari:List RS:=[.tmp 2]
theorem Qben:mFn prog Qnt 1 5 Qbe6 Qari=true:=by kernel_rfl
def Qz4:List Item:=[mJ 3 16]
def Qz5:List Item:=.chk 10 none (.ld 3 true (.t 1))::fI 15 (.bld [.int .i64 0,.int .i64 0,.sl true 5 [],.sl true 1 [],.sl true 1 []] [(0,3,.t 10),(3,1,.t 14)])::eI 16 (.boxm (.t 15))::Qz4
def Qz6:List Item:=[kJ 33 23,fJ 34 4 33,sJ 1 34 32]
def Qz7:List Item:=hJ 27 26::fI 31 (.bsl 1 [.t 30])::xJ 32 1 27 31::Qz6
def Qaui:SC:=.dreg 13 [0,1,2,3,4,5,6,7,4,8,9,10,11,12] ( mJ 23 3::mJ 24 3::kJ 25 24::fJ 26 4 25::lJ 27 26::tJ 28 3 1::mJ 29 4::aJ 30 Qeq [.t 28,.t 29]::Qz7) [1,3,19,20]
def Qauj:SC:=.reg [cJ 35 .add 20 1,mJ 20 35] [1,3,19,20]
def Qauk:SC:=.seq (.block 1 (sR [mJ 22 20,mJ 4 22] [1,3,4,19,20] Qaui)) Qauj
def Qaoe:SC:=sR [bJ 21 .lss 20 19] [1,3,19,20,21] (cX 21 0 Qauk)
def Qz8:List Item:=[mJ 7 47]
def Qz9:List Item:=[sJ 2 9 58]
def Qan0:SC:=.reg [mJ 59 7,fJ 60 0 9,lJ 61 60,.e none none (.del 0 (.t 59) (.t 61))] [1,3,5,6,7,53,54,55]
def Qan1:SC:=.reg [cJ 62 .add 55 1,mJ 55 62] [1,3,5,6,7,53,54,55]
def Qan2:SC:=.seq (.block 7 (sR (iJ 57 2 53 55::tJ 58 2 57::eI 9 (.alloc [.int .i64 0,.sl true 1 []])::Qz9) [1,3,5,6,7,9,53,54,55] Qan0)) Qan1
def Qag6:SC:=sR [bJ 56 .lss 55 54] [1,3,5,6,7,53,54,55,56] (cX 56 6 Qan2)
def Qt6:List Item:=[fB 5 true]
def Qan3:SC:=cT 73 (.reg (mJ 74 3::kJ 75 74::fJ 76 3 75::lJ 77 76::mJ 78 6::mJ 79 7::iJ 80 1 77 78::sJ 1 80 79::Qt6) [1,3,5,6]) .skip
def Qan4:SC:=.seq (.dreg 11 [0,1,2,3,4,5,6,7,8,9,10] ( mJ 63 7::fI 64 (.lenm (.t 63))::mJ 65 3::kJ 66 65::fJ 67 3 66::lJ 68 67::mJ 69 6::iJ 70 1 68 69::lJ 71 70::fI 72 (.lenm (.t 71))::bJ 73 .neq 64 72::[]) [1,3,5,6,7,73]) Qan3
def Qan5:SC:=.seq (sR [fJ 48 2 1,lJ 49 48,mJ 50 6,iJ 51 5 49 50,fJ 52 0 51,lJ 53 52,nJ 54 53,zJ 55 0] [1,3,5,6,7,53,54,55] (bL 6 Qag6)) Qan4
def Qan6:SC:=.reg [mJ 43 6,cJ 44 .sub 43 1,mJ 6 44] [1,3,5,6]
def Qan7:SC:=.seq (.block 5 (sR (mJ 45 3::mJ 46 6::aJ 47 Qbv [.t 45,.t 46,kI (-1)]::Qz8) [1,3,5,6,7] Qan5)) Qan6
def Qag7:SC:=.seq (sR [mJ 41 6,cJ 42 .geq 41 0] [1,3,5,6,42] (cT 42 .skip (.exit 4))) Qan7
def Qan8:SC:=sR [fJ 37 2 1,lJ 38 37,nJ 39 38,cJ 40 .sub 39 1,mJ 6 40] [1,3,5,6] (bL 4 Qag7)
def Qan9:SC:=.block 3 (sR [fB 5 false] [1,3,5] Qan8)
def Qag8:SC:=.seq (sR [mJ 36 5] [1,3,36] (cT 36 .skip (.exit 2))) Qan9
def Qaoa:SC:=sR [mJ 81 3,mJ 2 81] [2] .ret
def Qaob:SC:=.seq (sR [fB 5 true] [1,3,5] (bL 2 Qag8)) Qaoa
def Qaoc:SC:=.seq (sR [fJ 17 2 1,lJ 18 17,nJ 19 18,zJ 20 0] [1,3,19,20] (bL 0 Qaoe)) Qaob
def Qaod:SC:=.seq (.dreg 8 [0,1,2,3,4,0,5,6,7] ( tJ 10 3 1::fJ 11 2 1::lJ 12 11::nJ 13 12::eI 14 (.mks 1 [.mnil] (.t 13))::Qz5) [1,3]) Qaoc
def Qa5w:SC:=sR [vJ 1 0,fI 2 (.mv (.k (.c .pnil)))] [1] Qaod
def Qafn:List RS:=[.tmp 2]
theorem Qa44:mFn prog Qka 1 82 Qa5w Qafn=true:=by kernel_rfl
def Qjl:List Item:=[mJ 7 13]
def Qjm:List Item:=[sJ 5 8 21]
def Q3w:SC:=cT 24 (.reg [mJ 25 7,fJ 26 3 8,lJ 27 26,.e none none (.upd 0 (.t 25) (.t 27) (.k (.c (.bool true))))] [2,7,8]) .skip
def Qjn:List Item:=[mJ 10 42]
def Q3x:SC:=cT 44 (.reg [mJ 45 7,mJ 46 10,.e none none (.del 0 (.t 45) (.t 46))] [2,7,8,9]) .skip
def Q3y:SC:=sR [mJ 43 10,cJ 44 .geq 43 0] [2,7,8,9,10,44] Q3x
def Q3z:SC:=.reg [mJ 47 7,fJ 48 1 8,lJ 49 48,mJ 50 9,iJ 51 4 49 50,fJ 52 2 51,lJ 53 52,aJ 54 Qgb [.t 47,.t 53]] [2,7,8,9]
def Q30:SC:=.reg [mJ 35 9,cJ 36 .sub 35 1,mJ 9 36] [2,7,8,9]
def Q31:SC:=.seq (.block 1 (.seq (sR (fJ 37 1 8::lJ 38 37::mJ 39 9::iJ 40 4 38 39::tJ 41 4 40::aJ 42 Qss [.t 41]::Qjn) [2,7,8,9,10] Q3y) Q3z)) Q30
def Q1m:SC:=.seq (sR [mJ 32 9,mJ 33 2,bJ 34 .gtr 32 33] [2,7,8,9,34] (cT 34 .skip (.exit 0))) Q31
def Q1h:SC:=sR [mJ 55 7,mJ 6 55] [6] .ret
def Q1i:SC:=.seq (sR [fJ 28 1 8,lJ 29 28,nJ 30 29,cJ 31 .sub 30 1,mJ 9 31] [2,7,8,9] (bL 0 Q1m)) Q1h
def Q1j:SC:=.seq (sR [fJ 22 2 8,lJ 23 22,aJ 24 Qgy [.t 23]] [2,7,8,24] Q3w) Q1i
def Q1k:SC:=sR (mJ 14 0::kJ 15 14::fJ 16 0 15::fJ 17 2 16::lJ 18 17::mJ 19 1::iJ 20 5 18 19::tJ 21 5 20::eI 8 (.alloc [.sl true 2 [],.sl true 4 [],.int .i64 0,.int .i64 0,.sl true 1 []])::Qjm) [2,7,8] Q1j
def Q1l:SC:=sR (mJ 11 0::mJ 12 1::aJ 13 Qiw [.t 11,.t 12]::Qjl) [0,1,2,7] Q1k
def Qab7:SC:=sR [fI 6 (.mv (.k (.c .mnil)))] [0,1,2] Q1l
def Qo9:List RS:=[.tmp 6]
theorem Qabc:mFn prog Qbv 3 56 Qab7 Qo9=true:=by kernel_rfl
def Qjo:List Item:=[sJ 4 7 19]
def Qd9:List Item:=[.chk 29 (some (23,true)) (.ld 1 false (.t 28)),gT 30 23 (.lup 0 (.c (.bool false)) (.t 27) (.t 29)),gT 31 23 (.not (.t 30)),pF 32 23 31,mJ 6 32]
def Qea:List Item:=mJ 23 22::gTm 24 23 0::gTm 25 23 1::gTm 26 23 2::gTf 28 23 1 7::gTl 29 23 28::.e (some 27) (some (23,true)) (.call Qbv [.t 24,.t 25,.t 26])::Qd9
def Q32:SC:=.seq (.dreg 14 [0,1,2,3,4,5,6,8,9,7,9,10,11,12,13] ( fJ 20 0 7::lJ 21 20::aJ 22 Qk5 [.t 21]::Qea) [6]) .ret
def Q33:SC:=sR (mJ 8 0::kJ 9 8::fJ 10 0 9::fJ 11 2 10::lJ 12 11::mJ 13 1::iJ 14 5 12 13::fJ 15 1 14::lJ 16 15::mJ 17 2::iJ 18 4 16 17::tJ 19 4 18::eI 7 (.alloc [.int .i64 0,.int .i64 0,.sl true 1 [],.int .i64 0])::Qjo) [0,1,2,7] Q32
def Qab8:SC:=sR [fB 6 false] [0,1,2] Q33
def Qhj:List RS:=[.tmp 6]
theorem Qabd:mFn prog Qga 3 33 Qab8 Qhj=true:=by kernel_rfl
def Qm9:List Item:=[mJ 5 12]
def Qna:List Item:=[nJ 23 22,zJ 24 0]
def Qdf:List Item:=[fI 37 (.ext (.t 36) 0)]
def Qnb:List Item:=[fI 39 (.ext (.t 38) 0),mJ 8 39]
def Qab9:SC:=.reg [mJ 40 5,mJ 41 8,.e none none (.upd 0 (.t 40) (.t 41) (.k (.c (.bool true))))] [0,1,5,7,22,23,24,35]
def Qaca:SC:=.block 3 (sR (eI 38 (.ent (.t 35))::Qnb) [0,1,5,7,8,22,23,24,35] Qab9)
def Q69:SC:=sR (eI 36 (.nxt (.t 35))::Qdf) [0,1,5,7,22,23,24,35,37] (cX 37 2 Qaca)
def Qnc:List Item:=[mJ 9 50]
def Qnd:List Item:=[sJ 2 11 64]
def Qacb:SC:=.reg [mJ 65 5,fJ 66 1 11,lJ 67 66,mJ 68 9,iJ 69 1 67 68,lJ 70 69,.e none none (.upd 0 (.t 65) (.t 70) (.k (.c (.bool true))))] [0,1,5,9,22,23,24,59,60,61]
def Q6z:SC:=.reg [cJ 71 .add 61 1,mJ 61 71] [0,1,5,9,22,23,24,59,60,61]
def Q60:SC:=.seq (.block 5 (sR (iJ 63 2 59 61::tJ 64 2 63::eI 11 (.alloc [.int .i64 0,.sl true 1 []])::Qnd) [0,1,5,9,11,22,23,24,59,60,61] Qacb)) Q6z
def Q34:SC:=sR [bJ 62 .lss 61 60] [0,1,5,9,22,23,24,59,60,61,62] (cX 62 4 Q60)
def Q61:SC:=sR [mJ 51 0,kJ 52 51,fJ 53 0 52,fJ 54 2 53,lJ 55 54,mJ 56 7,iJ 57 5 55 56,fJ 58 0 57,lJ 59 58,nJ 60 59,zJ 61 0] [0,1,5,9,22,23,24,59,60,61] (bL 4 Q34)
def Q62:SC:=sR (mJ 42 0::kJ 43 42::fJ 44 4 43::lJ 45 44::mJ 46 7::iJ 47 1 45 46::lJ 48 47::mJ 49 1::aJ 50 Qiz [.t 48,.t 49]::Qnc) [0,1,5,7,9,22,23,24] Q61
def Q63:SC:=.seq (sR [mJ 28 0,kJ 29 28,fJ 30 3 29,lJ 31 30,mJ 32 7,iJ 33 1 31 32,lJ 34 33,eI 35 (.rng (.t 34))] [0,1,5,7,22,23,24,35] (bL 2 Q69)) Q62
def Q64:SC:=.reg [cJ 72 .add 24 1,mJ 24 72] [0,1,5,22,23,24]
def Q65:SC:=.seq (.block 1 (sR [iJ 26 1 22 24,lJ 27 26,mJ 7 27] [0,1,5,7,22,23,24] Q63)) Q64
def Q35:SC:=sR [bJ 25 .lss 24 23] [0,1,5,22,23,24,25] (cX 25 0 Q65)
def Q66:SC:=sR [mJ 73 5,mJ 4 73] [4] .ret
def Q67:SC:=.seq (sR (mJ 13 0::kJ 14 13::fJ 15 0 14::fJ 16 2 15::lJ 17 16::mJ 18 1::iJ 19 5 17 18::fJ 20 4 19::lJ 21 20::aJ 22 Q48 [.t 21]::Qna) [0,1,5,22,23,24] (bL 0 Q35)) Q66
def Q68:SC:=sR (eI 12 (.mkm)::Qm9) [0,1,5] Q67
def Qaof:SC:=sR [fI 4 (.mv (.k (.c .mnil)))] [0,1] Q68
def Qzq:List RS:=[.tmp 4]
theorem Qamw:mFn prog Qiw 2 74 Qaof Qzq=true:=by kernel_rfl
def Qdi:List Item:=[sJ 5 7 13]
def Qdj:List Item:=[mJ 5 19]
def Qdk:List Item:=fI 18 (.bsl 5 [.t 17])::xJ 19 5 14 18::Qdj
def Qlq:SC:=.reg (mJ 14 5::mJ 15 1::tJ 16 5 7::eI 17 (.callv (.t 15) [.t 16])::Qdk) [1,5,8,9,10]
def Qlr:SC:=.reg [cJ 20 .add 10 1,mJ 10 20] [1,5,8,9,10]
def Qls:SC:=.seq (.block 1 (sR (iJ 12 5 8 10::tJ 13 5 12::eI 7 (.alloc [.sl true 2 [],.sl true 4 [],.int .i64 0,.int .i64 0,.sl true 1 []])::Qdi) [1,5,7,8,9,10] Qlq)) Qlr
def Qj5:SC:=sR [bJ 11 .lss 10 9] [1,5,8,9,10,11] (cX 11 0 Qls)
def Qlt:SC:=sR [mJ 21 5,mJ 4 21] [4] .ret
def Qlu:SC:=.seq (sR [mJ 8 0,nJ 9 8,zJ 10 0] [1,5,8,9,10] (bL 0 Qj5)) Qlt
def Qlv:SC:=sR [fI 5 (.mv (.k (.c (.sl true 5 []))))] [0,1,5] Qlu
def Qoh:SC:=sR [fI 4 (.mv (.k (.c (.sl true 5 []))))] [0,1] Qlv
def Qey:List RS:=[.tmp 4]
theorem Qn6:mFn prog Qce 2 22 Qoh Qey=true:=by kernel_rfl
def Qei:List Item:=[sJ 3 7 13]
def Qej:List Item:=[mJ 5 19]
def Qek:List Item:=fI 18 (.bsl 3 [.t 17])::xJ 19 3 14 18::Qej
def Qoi:SC:=.reg (mJ 14 5::mJ 15 1::tJ 16 3 7::eI 17 (.callv (.t 15) [.t 16])::Qek) [1,5,8,9,10]
def Qoj:SC:=.reg [cJ 20 .add 10 1,mJ 10 20] [1,5,8,9,10]
def Qok:SC:=.seq (.block 1 (sR (iJ 12 3 8 10::tJ 13 3 12::eI 7 (.alloc [.int .i64 0,.int .i64 0,.sl true 5 []])::Qei) [1,5,7,8,9,10] Qoi)) Qoj
def Qne:SC:=sR [bJ 11 .lss 10 9] [1,5,8,9,10,11] (cX 11 0 Qok)
def Qol:SC:=sR [mJ 21 5,mJ 4 21] [4] .ret
def Qom:SC:=.seq (sR [mJ 8 0,nJ 9 8,zJ 10 0] [1,5,8,9,10] (bL 0 Qne)) Qol
def Qon:SC:=sR [fI 5 (.mv (.k (.c (.sl true 3 []))))] [0,1,5] Qom
def Qt7:SC:=sR [fI 4 (.mv (.k (.c (.sl true 3 []))))] [0,1] Qon
def Qg2:List RS:=[.tmp 4]
theorem Qs9:mFn prog Qcv 2 22 Qt7 Qg2=true:=by kernel_rfl
def Qfd:List Item:=[sJ 4 7 13]
def Qfe:List Item:=[mJ 5 19]
def Qff:List Item:=fI 18 (.bsl 4 [.t 17])::xJ 19 4 14 18::Qfe
def Qt8:SC:=.reg (mJ 14 5::mJ 15 1::tJ 16 4 7::eI 17 (.callv (.t 15) [.t 16])::Qff) [1,5,8,9,10]
def Qt9:SC:=.reg [cJ 20 .add 10 1,mJ 10 20] [1,5,8,9,10]
def Qua:SC:=.seq (.block 1 (sR (iJ 12 4 8 10::tJ 13 4 12::eI 7 (.alloc [.int .i64 0,.int .i64 0,.sl true 1 [],.int .i64 0])::Qfd) [1,5,7,8,9,10] Qt8)) Qt9
def Qra:SC:=sR [bJ 11 .lss 10 9] [1,5,8,9,10,11] (cX 11 0 Qua)
def Qub:SC:=sR [mJ 21 5,mJ 4 21] [4] .ret
def Quc:SC:=.seq (sR [mJ 8 0,nJ 9 8,zJ 10 0] [1,5,8,9,10] (bL 0 Qra)) Qub
def Qud:SC:=sR [fI 5 (.mv (.k (.c (.sl true 4 []))))] [0,1,5] Quc
def Q1n:SC:=sR [fI 4 (.mv (.k (.c (.sl true 4 []))))] [0,1] Qud
def Qi9:List RS:=[.tmp 4]
theorem Q01:mFn prog Qdl 2 22 Q1n Qi9=true:=by kernel_rfl
def Qfg:List Item:=[sJ 2 7 13]
def Qfh:List Item:=[mJ 5 19]
def Qfi:List Item:=fI 18 (.bsl 2 [.t 17])::xJ 19 2 14 18::Qfh
def Que:SC:=.reg (mJ 14 5::mJ 15 1::tJ 16 2 7::eI 17 (.callv (.t 15) [.t 16])::Qfi) [1,5,8,9,10]
def Quf:SC:=.reg [cJ 20 .add 10 1,mJ 10 20] [1,5,8,9,10]
def Qug:SC:=.seq (.block 1 (sR (iJ 12 2 8 10::tJ 13 2 12::eI 7 (.alloc [.int .i64 0,.sl true 1 []])::Qfg) [1,5,7,8,9,10] Que)) Quf
def Qrb:SC:=sR [bJ 11 .lss 10 9] [1,5,8,9,10,11] (cX 11 0 Qug)
def Quh:SC:=sR [mJ 21 5,mJ 4 21] [4] .ret
def Qui:SC:=.seq (sR [mJ 8 0,nJ 9 8,zJ 10 0] [1,5,8,9,10] (bL 0 Qrb)) Quh
def Quj:SC:=sR [fI 5 (.mv (.k (.c (.sl true 2 []))))] [0,1,5] Qui
def Q1o:SC:=sR [fI 4 (.mv (.k (.c (.sl true 2 []))))] [0,1] Quj
def Qja:List RS:=[.tmp 4]
theorem Q02:mFn prog Qdm 2 22 Q1o Qja=true:=by kernel_rfl
def Qacc:SC:=cT 8 (sR [zJ 2 0] [2] .ret) .skip
def Qacd:SC:=cT 6 (sR [zJ 2 2] [2] .ret) (sR [cJ 9 .eql 3 3,mJ 8 9] [8] Qacc)
def Qace:SC:=cT 4 (sR [zJ 2 1] [2] .ret) (sR [cJ 7 .eql 3 2,mJ 6 7] [3,6] Qacd)
def Qacf:SC:=.block 0 (sR [cJ 5 .eql 3 1,mJ 4 5] [3,4] Qace)
def Qacg:SC:=sR [zJ 2 (-1)] [2] .ret
def Qach:SC:=.seq (sR [mJ 3 0] [3] Qacf) Qacg
def Qaog:SC:=sR [zJ 2 0] [0] Qach
def Qli:List RS:=[.tmp 2]
theorem Qamx:mFn prog Qix 1 10 Qaog Qli=true:=by kernel_rfl
def Quq:List Item:=[fB 5 false]
def Qur:List Item:=[oJ 8 7]
def Qus:List Item:=[fB 5 false]
def Qaoh:SC:=cT 8 (sR (fI 9 (.bld [.sl true 3 []] [])::sJ 1 4 9::Qus) [4,5] .ret) .skip
def Qut:List Item:=[fB 5 true]
def Quu:List Item:=fI 14 (.bld [.sl true 3 []] [(0,1,.t 13)])::sJ 1 4 14::Qut
def Qaoi:SC:=sR (fJ 10 0 2::lJ 11 10::mJ 12 1::aJ 13 Qcv [.t 11,.t 12]::Quu) [4,5] .ret
def Qaoj:SC:=.seq (sR (tJ 6 1 2::aJ 7 Qbb [.t 6]::Qur) [1,2,4,8] Qaoh) Qaoi
def Qay0:SC:=sR (vJ 2 0::eI 4 (.alloc [.sl true 3 []])::Quq) [1,2,4] Qaoj
def Qtn:List RS:=[.cell 4 1 true,.tmp 5]
theorem Qaxo:mFn prog Qnu 2 15 Qay0 Qtn=true:=by kernel_rfl
def Q36:SC:=.reg [mJ 13 0,mJ 14 6,.e none none (.upd 0 (.t 13) (.t 14) (.k (.c (.bool true))))] [0,7,8,9]
def Q37:SC:=.reg [cJ 15 .add 9 1,mJ 9 15] [0,7,8,9]
def Q38:SC:=.seq (.block 1 (sR [iJ 11 1 7 9,lJ 12 11,mJ 6 12] [0,6,7,8,9] Q36)) Q37
def Q1q:SC:=sR [bJ 10 .lss 9 8] [0,7,8,9,10] (cX 10 0 Q38)
def Q39:SC:=sR [mJ 16 0,mJ 4 16] [4] .ret
def Q4a:SC:=.seq (sR [mJ 7 1,nJ 8 7,zJ 9 0] [0,7,8,9] (bL 0 Q1q)) Q39
def Qaci:SC:=sR [fI 4 (.mv (.k (.c .mnil)))] [0,1] Q4a
def Qpa:List RS:=[.tmp 4]
theorem Qabe:mFn prog Qgb 2 17 Qaci Qpa=true:=by kernel_rfl
def Q8n:List Item:=[mJ 5 4,gTm 6 5 0,gT 7 5 (.bin 0 .neq (.t 6) (kI 12)),pF 8 5 7,mJ 9 8,gTm 10 9 0,gT 11 9 (.bin 0 .neq (.t 10) (kI 13)),pF 12 9 11,mJ 2 12]
def Qa50:SC:=sR (mJ 3 0::aJ 4 Qnt [.t 3]::Q8n) [2] .ret
def Qbkv:SC:=sR [fB 2 false] [0] Qa50
def Qax7:List RS:=[.tmp 2]
theorem Qbjk:mFn prog Ql1 1 13 Qbkv Qax7=true:=by kernel_rfl
def Qaum:SC:=sR [mJ 3 0,cJ 4 .eql 3 2,mJ 5 4,gFm 6 5 0,gF 7 5 (.bin 0 .eql (.t 6) (kI 3)),pT 8 5 7,mJ 2 8] [2] .ret
def Qa51:SC:=sR [fB 2 false] [0] Qaum
def Qafo:List RS:=[.tmp 2]
theorem Qa45:mFn prog Qgy 1 9 Qa51 Qafo=true:=by kernel_rfl
def Q0a:List Item:=[mJ 9 20]
def Q0b:List Item:=[sJ 5 10 25]
def Qaus:SC:=cT 28 (.reg [mJ 29 9,fJ 30 3 10,lJ 31 30,iJ 32 1 29 31,.e none none (.sto 1 (.t 32) (.k (.c (.bool true))))] [3,9,10]) .skip
def Q0c:List Item:=[mJ 12 47]
def Qaut:SC:=cT 49 (.reg [mJ 50 9,mJ 51 12,iJ 52 1 50 51,.e none none (.sto 1 (.t 52) (.k (.c (.bool false))))] [3,9,10,11]) .skip
def Qauu:SC:=.reg [mJ 62 13,cJ 63 .add 62 1,mJ 13 63] [3,9,10,11,13]
def Qauv:SC:=.seq (.block 3 (.reg [mJ 64 9,fJ 65 1 10,lJ 66 65,mJ 67 11,iJ 68 4 66 67,fJ 69 2 68,lJ 70 69,mJ 71 13,iJ 72 1 70 71,lJ 73 72,iJ 74 1 64 73,.e none none (.sto 1 (.t 74) (.k (.c (.bool true))))] [3,9,10,11,13])) Qauu
def Qao0:SC:=.seq (sR [mJ 53 13,fJ 54 1 10,lJ 55 54,mJ 56 11,iJ 57 4 55 56,fJ 58 2 57,lJ 59 58,nJ 60 59,bJ 61 .lss 53 60] [3,9,10,11,13,61] (cT 61 .skip (.exit 2))) Qauv
def Qauw:SC:=sR [zJ 13 0] [3,9,10,11,13] (bL 2 Qao0)
def Qaux:SC:=.seq (sR [mJ 48 12,cJ 49 .geq 48 0] [3,9,10,11,12,49] Qaut) Qauw
def Qaot:SC:=.reg [mJ 40 11,cJ 41 .sub 40 1,mJ 11 41] [3,9,10,11]
def Qaou:SC:=.seq (.block 1 (sR (fJ 42 1 10::lJ 43 42::mJ 44 11::iJ 45 4 43 44::tJ 46 4 45::aJ 47 Qs2 [.t 46]::Q0c) [3,9,10,11,12] Qaux)) Qaot
def Qahg:SC:=.seq (sR [mJ 37 11,mJ 38 3,bJ 39 .gtr 37 38] [3,9,10,11,39] (cT 39 .skip (.exit 0))) Qaou
def Qaov:SC:=sR [mJ 75 9,mJ 8 75] [8] .ret
def Qaow:SC:=.seq (sR [fJ 33 1 10,lJ 34 33,nJ 35 34,cJ 36 .sub 35 1,mJ 11 36] [3,9,10,11] (bL 0 Qahg)) Qaov
def Qaox:SC:=.seq (sR [fJ 26 2 10,lJ 27 26,cJ 28 .neq 27 1] [3,9,10,28] Qaus) Qaow
def Qaoy:SC:=sR (fJ 21 2 4::lJ 22 21::mJ 23 2::iJ 24 5 22 23::tJ 25 5 24::eI 10 (.alloc [.sl true 2 [],.sl true 4 [],.int .i64 0,.int .i64 0,.sl true 1 []])::Q0b) [3,9,10] Qaox
def Qaoz:SC:=sR (fI 14 (.bsl 1 [])::fJ 15 1 5::lJ 16 15::mJ 17 2::iJ 18 1 16 17::lJ 19 18::xJ 20 1 14 19::Q0a) [2,3,4,9] Qaoy
def Qa6d:SC:=sR [vJ 4 0,vJ 5 1,fI 8 (.mv (.k (.c (.sl true 1 []))))] [2,3,4,5] Qaoz
def Qafs:List RS:=[.tmp 8]
theorem Qa47:mFn prog Qc5 4 76 Qa6d Qafs=true:=by kernel_rfl
def Q83:List Item:=[zJ 3 0]
def Q84:List Item:=[sJ 1 4 6]
def Q85:List Item:=eI 4 (.alloc [.sl true 3 []])::Q84
def Q86:List Item:=[mJ 3 21]
def Q87:List Item:=.chk 7 none (.ld 1 true (.t 4))::sJ 1 2 7::Q86
def Qa6e:SC:=.seq (.dreg 17 [0,1,2,3,4,5,6,7,8,9,10,11,12,13,14,0,15,16] ( tJ 7 1 4::mJ 8 0::fJ 9 0 4::lJ 10 9::nJ 11 10::cJ 12 .sub 11 1::fJ 13 0 4::lJ 14 13::nJ 15 14::cJ 16 .sub 15 1::fJ 17 0 4::lJ 18 17::nJ 19 18::fI 20 (.bsl 1 [.t 12,kI 0,.t 16,kI (-1),.t 19])::aJ 21 Qac [.t 8,.t 20]::Q87) [2,3]) .ret
def Qa6f:SC:=sR (mJ 5 0::aJ 6 Qxt [.t 5]::Q85) [0,2,4] Qa6e
def Qbk5:SC:=sR (eI 2 (.alloc [.sl true 3 []])::Q83) [0,2] Qa6f
def Qax9:List RS:=[.cell 2 1 true,.tmp 3]
theorem Qbjp:mFn prog Q5c 1 22 Qbk5 Qax9=true:=by kernel_rfl
def Q9d:List Item:=[mJ 9 20]
def Q9e:List Item:=[mJ 10 25]
def Q9f:List Item:=mJ 24 2::aJ 25 Qadt [.t 23,.t 24]::Q9e
def Qa6j:SC:=.reg [mJ 35 11,cJ 36 .add 35 1,mJ 11 36] [2,3,4,5,9,10,11]
def Qa6k:SC:=.seq (.block 1 (.reg [mJ 37 9,fJ 38 2 4,lJ 39 38,mJ 40 3,iJ 41 5 39 40,fJ 42 0 41,lJ 43 42,mJ 44 11,iJ 45 2 43 44,fJ 46 1 45,lJ 47 46,mJ 48 10,iJ 49 1 47 48,lJ 50 49,iJ 51 1 37 50,.e none none (.sto 1 (.t 51) (.k (.c (.bool true))))] [2,3,4,5,9,10,11])) Qa6j
def Qaz4:SC:=.seq (sR [mJ 26 11,fJ 27 2 4,lJ 28 27,mJ 29 3,iJ 30 5 28 29,fJ 31 0 30,lJ 32 31,nJ 33 32,bJ 34 .lss 26 33] [2,3,4,5,9,10,11,34] (cT 34 .skip (.exit 0))) Qa6k
def Qahh:SC:=.reg [fJ 74 1 5,lJ 75 74,mJ 76 2,iJ 77 1 75 76,lJ 78 77,mJ 79 13,iJ 80 1 78 79,.e none none (.sto 1 (.t 80) (.k (.c (.bool true))))] [2,4,5,9,12,13]
def Qa6l:SC:=cT 61 (sR [mJ 62 12,mJ 63 62,gFf 64 63 1 5,gFl 65 63 64,gFm 66 63 2,gF 67 63 (.iad 1 (.t 65) (.t 66)),gFl 68 63 67,gFm 69 63 13,gF 70 63 (.iad 1 (.t 68) (.t 69)),gFl 71 63 70,gF 72 63 (.not (.t 71)),pT 73 63 72,mJ 12 73] [2,4,5,9,12,13] Qahh) .skip
def Qa6m:SC:=.reg [mJ 56 13,cJ 57 .add 56 1,mJ 13 57] [2,4,5,9,12,13]
def Qa6n:SC:=.seq (.block 3 (sR [mJ 58 9,mJ 59 13,iJ 60 1 58 59,lJ 61 60] [2,4,5,9,12,13,61] Qa6l)) Qa6m
def Qauy:SC:=.seq (sR [mJ 52 13,fJ 53 1 4,lJ 54 53,bJ 55 .lss 52 54] [2,4,5,9,12,13,55] (cT 55 .skip (.exit 2))) Qa6n
def Qazy:SC:=sR [mJ 81 12,mJ 8 81] [8] .ret
def Qazz:SC:=.seq (sR [zJ 13 0] [2,4,5,9,12,13] (bL 2 Qauy)) Qazy
def Qaz0:SC:=sR [fB 12 false] [2,4,5,9,12] Qazz
def Qaz1:SC:=.seq (sR [zJ 11 0] [2,3,4,5,9,10,11] (bL 0 Qaz4)) Qaz0
def Qaz2:SC:=sR (tJ 21 3 4::mJ 22 3::aJ 23 Ql7 [.t 21,.t 22]::Q9f) [2,3,4,5,9,10] Qaz1
def Qaz3:SC:=sR (fI 14 (.bsl 1 [])::fJ 15 0 5::lJ 16 15::mJ 17 3::iJ 18 1 16 17::lJ 19 18::xJ 20 1 14 19::Q9d) [2,3,4,5,9] Qaz2
def Qbk7:SC:=sR [vJ 4 0,vJ 5 1,fB 8 false] [2,3,4,5] Qaz3
def Qayb:List RS:=[.tmp 8]
theorem Qbjr:mFn prog Q5e 4 82 Qbk7 Qayb=true:=by kernel_rfl
def Q1x:List Item:=[pF 14 7 13,mJ 4 14]
def Q1y:List Item:=mJ 7 6::gTm 8 7 1::gTf 9 7 0 2::gTl 10 7 9::gT 11 7 (.len (.t 10))::gT 12 7 (.bin 0 .sub (.t 11) (kI 1))::.e (some 13) (some (7,true)) (.call Qbm [.t 8,kI 0,.t 12])::Q1x
def Qbe8:SC:=sR (tJ 5 1 2::aJ 6 Qbw [.t 5]::Q1y) [4] .ret
def Qbpz:SC:=sR [vJ 2 0,fB 4 false] [1,2] Qbe8
def Qatj:List RS:=[.tmp 4]
theorem Qboz:mFn prog Qaek 2 15 Qbpz Qatj=true:=by kernel_rfl
def Q9g:List Item:=[sJ 4 9 30]
def Qvq:List Item:=[.chk 41 (some (34,true)) (.ld 1 false (.t 40)),gT 42 34 (.iad 1 (.t 39) (.t 41)),gTl 43 34 42,gT 44 34 (.not (.t 43)),pF 45 34 44]
def Qvr:List Item:=mJ 34 33::gT 35 34 (.ld 3 true (.t 3))::gT 36 34 (.ld 2 true (.t 4))::gTm 37 34 2::gTm 38 34 8::gTf 40 34 1 9::gTl 41 34 40::.e (some 39) (some (34,true)) (.call Qc5 [.t 35,.t 36,.t 37,.t 38])::Qvq
def Q9h:List Item:=[mJ 7 49]
def Qa6o:SC:=cT 45 (.reg (mJ 46 7::mJ 47 8::fI 48 (.bsl 1 [.t 47])::xJ 49 1 46 48::Q9h) [2,3,4,7,8]) .skip
def Qa6p:SC:=.seq (.dreg 15 [0,1,2,3,4,5,6,7,9,10,8,10,11,12,13,14] ( fJ 31 0 9::lJ 32 31::aJ 33 Q0y [.t 32]::Qvr) [2,3,4,7,8,45]) Qa6o
def Qa6q:SC:=.reg [mJ 20 8,cJ 21 .add 20 1,mJ 8 21] [2,3,4,7,8]
def Qa6r:SC:=.seq (.block 1 (sR (fJ 22 2 3::lJ 23 22::mJ 24 2::iJ 25 5 23 24::fJ 26 1 25::lJ 27 26::mJ 28 8::iJ 29 4 27 28::tJ 30 4 29::eI 9 (.alloc [.int .i64 0,.int .i64 0,.sl true 1 [],.int .i64 0])::Q9g) [2,3,4,7,8,9] Qa6p)) Qa6q
def Qaz7:SC:=.seq (sR [mJ 11 8,fJ 12 2 3,lJ 13 12,mJ 14 2,iJ 15 5 13 14,fJ 16 1 15,lJ 17 16,nJ 18 17,bJ 19 .lss 11 18] [2,3,4,7,8,19] (cT 19 .skip (.exit 0))) Qa6r
def Qa6s:SC:=sR [mJ 50 7,mJ 6 50] [6] .ret
def Qaz5:SC:=.seq (sR [zJ 8 0] [2,3,4,7,8] (bL 0 Qaz7)) Qa6s
def Qaz6:SC:=sR [fI 10 (.bsl 1 []),mJ 7 10] [2,3,4,7] Qaz5
def Qbk8:SC:=sR [vJ 3 0,vJ 4 1,fI 6 (.mv (.k (.c (.sl true 1 []))))] [2,3,4] Qaz6
def Qayc:List RS:=[.tmp 6]
theorem Qbjs:mFn prog Q5f 3 51 Qbk8 Qayc=true:=by kernel_rfl
def Q9i:List Item:=[mJ 3 19]
def Qa6t:SC:=cT 15 (.reg (mJ 16 3::mJ 17 4::fI 18 (.bsl 1 [.t 17])::xJ 19 1 16 18::Q9i) [0,3,4]) .skip
def Qa6u:SC:=.reg [mJ 10 4,cJ 11 .add 10 1,mJ 4 11] [0,3,4]
def Qa6v:SC:=.seq (.block 1 (sR [mJ 12 0,mJ 13 4,iJ 14 1 12 13,lJ 15 14] [0,3,4,15] Qa6t)) Qa6u
def Qaz8:SC:=.seq (sR [mJ 6 4,mJ 7 0,nJ 8 7,bJ 9 .lss 6 8] [0,3,4,9] (cT 9 .skip (.exit 0))) Qa6v
def Qa6w:SC:=sR [mJ 20 3,mJ 2 20] [2] .ret
def Qa6x:SC:=.seq (sR [zJ 4 0] [0,3,4] (bL 0 Qaz8)) Qa6w
def Qa6y:SC:=sR [fI 5 (.bsl 1 []),mJ 3 5] [0,3] Qa6x
def Qbk9:SC:=sR [fI 2 (.mv (.k (.c (.sl true 1 []))))] [0] Qa6y
def Qayd:List RS:=[.tmp 2]
theorem Qbjt:mFn prog Q5g 1 21 Qbk9 Qayd=true:=by kernel_rfl
def Q9j:List Item:=[sJ 2 3 12]
def Q9k:List Item:=[fJ 28 0 3,sJ 1 28 27]
def Q9l:List Item:=hJ 22 21::fI 26 (.bsl 1 [.t 25])::xJ 27 1 22 26::Q9k
def Q9m:List Item:=[fJ 36 1 3,sJ 1 36 35]
def Q9n:List Item:=hJ 30 29::fI 34 (.bsl 1 [.t 33])::xJ 35 1 30 34::Q9m
def Qa6z:SC:=.dreg 9 [0,1,2,3,4,1,5,6,7,8] ( fJ 29 1 3::lJ 30 29::fJ 31 1 1::lJ 32 31::eI 33 (.mks 1 [.bool false] (.t 32))::Q9n) [1,2,3,4,5]
def Qa60:SC:=.reg [mJ 19 5,cJ 20 .add 19 1,mJ 5 20] [1,2,3,4,5]
def Qa61:SC:=.seq (.block 1 (.seq (.dreg 9 [0,1,2,3,4,1,5,6,7,8] ( fJ 21 0 3::lJ 22 21::fJ 23 1 1::lJ 24 23::eI 25 (.mks 1 [.bool false] (.t 24))::Q9l) [1,2,3,4,5]) Qa6z)) Qa60
def Qa0s:SC:=.seq (sR [mJ 16 5,mJ 17 4,bJ 18 .lss 16 17] [1,2,3,4,5,18] (cT 18 .skip (.exit 0))) Qa61
def Qvs:List Item:=[mJ 68 67,gFm 69 68 6,pT 70 68 69,mJ 6 70]
def Qaz9:SC:=.reg [mJ 53 8,cJ 54 .add 53 1,mJ 8 54] [1,2,3,4,6,7,8]
def Qa0a:SC:=.seq (.block 7 (.dreg 17 [0,1,2,3,4,5,6,7,8,9,10,11,12,13,14,15,16] ( tJ 55 3 1::tJ 56 2 3::mJ 57 7::fJ 58 2 1::lJ 59 58::mJ 60 7::iJ 61 5 59 60::fJ 62 4 61::lJ 63 62::mJ 64 8::iJ 65 1 63 64::lJ 66 65::aJ 67 Q5e [.t 55,.t 56,.t 57,.t 66]::Qvs) [1,2,3,4,6,7,8])) Qaz9
def Qauz:SC:=.seq (sR [mJ 44 8,fJ 45 2 1,lJ 46 45,mJ 47 7,iJ 48 5 46 47,fJ 49 4 48,lJ 50 49,nJ 51 50,bJ 52 .lss 44 51] [1,2,3,4,6,7,8,52] (cT 52 .skip (.exit 6))) Qa0a
def Q4e:List Item:=[mJ 9 74]
def Qa0b:SC:=.reg [mJ 84 10,cJ 85 .add 84 1,mJ 10 85] [1,2,3,4,6,7,9,10]
def Qa0c:SC:=.seq (.block 9 (.reg [mJ 86 9,fJ 87 2 1,lJ 88 87,mJ 89 7,iJ 90 5 88 89,fJ 91 0 90,lJ 92 91,mJ 93 10,iJ 94 2 92 93,fJ 95 0 94,lJ 96 95,iJ 97 1 86 96,.e none none (.sto 1 (.t 97) (.k (.c (.bool false))))] [1,2,3,4,6,7,9,10])) Qa0b
def Qau0:SC:=.seq (sR [mJ 75 10,fJ 76 2 1,lJ 77 76,mJ 78 7,iJ 79 5 77 78,fJ 80 0 79,lJ 81 80,nJ 82 81,bJ 83 .lss 75 82] [1,2,3,4,6,7,9,10,83] (cT 83 .skip (.exit 8))) Qa0c
def Qa0d:SC:=.reg [mJ 102 11,cJ 103 .add 102 1,mJ 11 103] [1,2,3,4,6,7,9,11]
def Qa0e:SC:=.seq (.block 11 (.dreg 17 [0,1,2,3,4,5,6,7,8,9,10,11,12,13,14,15,16] ( mJ 104 6::mJ 105 104::gFm 106 105 9::gFm 107 105 11::gF 108 105 (.iad 1 (.t 106) (.t 107))::gFl 109 105 108::gFf 110 105 0 3::gFl 111 105 110::gFm 112 105 7::gF 113 105 (.iad 1 (.t 111) (.t 112))::gFl 114 105 113::gFm 115 105 11::gF 116 105 (.iad 1 (.t 114) (.t 115))::gFl 117 105 116::gF 118 105 (.bin 1 .neq (.t 109) (.t 117))::pT 119 105 118::mJ 6 119::[]) [1,2,3,4,6,7,9,11])) Qa0d
def Qau1:SC:=.seq (sR [mJ 98 11,fJ 99 1 1,lJ 100 99,bJ 101 .lss 98 100] [1,2,3,4,6,7,9,11,101] (cT 101 .skip (.exit 10))) Qa0e
def Qa0f:SC:=.reg [fJ 120 0 3,lJ 121 120,mJ 122 7,mJ 123 9,iJ 124 1 121 122,sJ 1 124 123] [1,2,3,4,6,7]
def Qa0g:SC:=.seq (sR [zJ 11 0] [1,2,3,4,6,7,9,11] (bL 10 Qau1)) Qa0f
def Qa0h:SC:=.seq (sR [zJ 10 0] [1,2,3,4,6,7,9,10] (bL 8 Qau0)) Qa0g
def Qa0i:SC:=sR (tJ 71 3 1::tJ 72 2 3::mJ 73 7::aJ 74 Qc5 [.t 71,.t 72,.t 73,kI (-1)]::Q4e) [1,2,3,4,6,7,9] Qa0h
def Qa0j:SC:=.reg [mJ 42 7,cJ 43 .sub 42 1,mJ 7 43] [1,2,3,4,6,7]
def Qa0k:SC:=.seq (.block 5 (.seq (sR [zJ 8 0] [1,2,3,4,6,7,8] (bL 6 Qauz)) Qa0i)) Qa0j
def Qau2:SC:=.seq (sR [mJ 40 7,cJ 41 .geq 40 0] [1,2,3,4,6,7,41] (cT 41 .skip (.exit 4))) Qa0k
def Qa0l:SC:=sR [mJ 38 4,cJ 39 .sub 38 1,mJ 7 39] [1,2,3,4,6,7] (bL 4 Qau2)
def Qa0m:SC:=.block 3 (sR [fB 6 false] [1,2,3,4,6] Qa0l)
def Qau3:SC:=.seq (sR [mJ 37 6] [1,2,3,4,37] (cT 37 .skip (.exit 2))) Qa0m
def Qa0n:SC:=sR [tJ 125 2 3,sJ 2 2 125] [2] .ret
def Qa0o:SC:=.seq (sR [fB 6 true] [1,2,3,4,6] (bL 2 Qau3)) Qa0n
def Qa0p:SC:=.seq (sR [zJ 5 0] [1,2,3,4,5] (bL 0 Qa0s)) Qa0o
def Qa0q:SC:=sR [fJ 13 2 1,lJ 14 13,nJ 15 14,mJ 4 15] [1,2,3,4] Qa0p
def Qa0r:SC:=sR (fI 12 (.bld [.sl true 1 [],.sl true 1 []] [])::eI 3 (.alloc [.sl true 1 [],.sl true 1 []])::Q9j) [1,2,3] Qa0q
def Qbla:SC:=sR [vJ 1 0,eI 2 (.alloc [.sl true 1 [],.sl true 1 []])] [1,2] Qa0r
def Qaye:List RS:=[.cell 2 2 true]
theorem Qbju:mFn prog Ql3 1 126 Qbla Qaye=true:=by kernel_rfl
def Q4i:List Item:=[mJ 5 4,gTm 6 5 0,gT 7 5 (.bin 0 .neq (.t 6) (kI 6)),pF 8 5 7,mJ 9 8,gTm 10 9 0,gT 11 9 (.bin 0 .neq (.t 10) (kI 7)),pF 12 9 11,mJ 2 12]
def Qa1b:SC:=sR (mJ 3 0::aJ 4 Qaeu [.t 3]::Q4i) [2] .ret
def Qbe9:SC:=sR [fB 2 false] [0] Qa1b
def Qarj:List RS:=[.tmp 2]
theorem Qbeo:mFn prog Q0y 1 13 Qbe9 Qarj=true:=by kernel_rfl
def Qaki:List Item:=[mJ 2 4]
def Qbgx:SC:=sR (mJ 3 0::aJ 4 Qbm [.t 3,kI 1,kI 10]::Qaki) [2] .ret
def Qbqm:SC:=sR [fB 2 false] [0] Qbgx
def Qbcf:List RS:=[.tmp 2]
theorem Qbpf:mFn prog Qaeu 1 5 Qbqm Qbcf=true:=by kernel_rfl
def Qel:List Item:=[cJ 8 .geq 7 0,mJ 4 8]
def Qou:SC:=sR (mJ 5 0::mJ 6 1::aJ 7 Qd5 [.t 5,.t 6]::Qel) [4] .ret
def Qw6:SC:=sR [fB 4 false] [0,1] Qou
def Qg4:List RS:=[.tmp 4]
theorem Qtb:mFn prog Qcw 2 9 Qw6 Qg4=true:=by kernel_rfl
def Qft:List Item:=[mJ 5 10]
def Qw7:SC:=cT 12 (sR [mJ 13 0,mJ 4 13] [4] .ret) .skip
def Qfu:List Item:=[sJ 2 7 25]
def Qfv:List Item:=[oJ 29 28]
def Qw8:SC:=.reg [mJ 34 5,cJ 35 .add 34 1,mJ 5 35] [0,1,5,6]
def Qw9:SC:=cT 29 (sR [mJ 30 0,mJ 31 5,tJ 32 2 7,iJ 33 2 30 31,sJ 2 33 32] [0,1,5,6] Qw8) .skip
def Qxa:SC:=sR (mJ 26 1::tJ 27 2 7::eI 28 (.callv (.t 26) [.t 27])::Qfv) [0,1,5,6,7,29] Qw9
def Qxb:SC:=.reg [mJ 20 6,cJ 21 .add 20 1,mJ 6 21] [0,1,5,6]
def Qxc:SC:=.seq (.block 1 (sR (mJ 22 0::mJ 23 6::iJ 24 2 22 23::tJ 25 2 24::eI 7 (.alloc [.int .i64 0,.sl true 1 []])::Qfu) [0,1,5,6,7] Qxa)) Qxb
def Qrq:SC:=.seq (sR [mJ 16 6,mJ 17 0,nJ 18 17,bJ 19 .lss 16 18] [0,1,5,6,19] (cT 19 .skip (.exit 0))) Qxc
def Qrl:SC:=sR [mJ 39 0,mJ 40 5,fI 41 (.sli 2 (.t 39) none (some (.t 40))),mJ 4 41] [4] .ret
def Qrm:SC:=sR [mJ 36 0,mJ 37 5,fI 38 (.sli 2 (.t 36) (some (.t 37)) none),.e none none (.clrs 2 [.int .i64 0,.sl true 1 []] (.t 38))] [0,5] Qrl
def Qrn:SC:=.seq (sR [mJ 14 5,cJ 15 .add 14 1,mJ 6 15] [0,1,5,6] (bL 0 Qrq)) Qrm
def Qro:SC:=.seq (sR [mJ 11 5,cJ 12 .eql 11 (-1)] [0,1,5,12] Qw7) Qrn
def Qrp:SC:=sR (mJ 8 0::mJ 9 1::aJ 10 Qd6 [.t 8,.t 9]::Qft) [0,1,5] Qro
def Q17:SC:=sR [fI 4 (.mv (.k (.c (.sl true 2 []))))] [0,1] Qrp
def Qd8:List RS:=[.tmp 4]
theorem Q04:mFn prog Qdo 2 42 Q17 Qd8=true:=by kernel_rfl
def Qy2:SC:=cT 16 (sR [mJ 17 5,mJ 4 17] [4] .ret) .skip
def Qy3:SC:=sR [mJ 11 1,mJ 12 0,mJ 13 5,iJ 14 4 12 13,tJ 15 4 14,eI 16 (.callv (.t 11) [.t 15])] [0,1,5,7,8,16] Qy2
def Qy4:SC:=.reg [cJ 18 .add 8 1,mJ 8 18] [0,1,7,8]
def Qy5:SC:=.seq (.block 1 (sR [mJ 10 8,mJ 5 10] [0,1,5,7,8] Qy3)) Qy4
def Qxd:SC:=sR [bJ 9 .lss 8 7] [0,1,7,8,9] (cX 9 0 Qy5)
def Qy6:SC:=sR [zJ 4 (-1)] [4] .ret
def Qy7:SC:=.seq (sR [mJ 6 0,nJ 7 6,zJ 8 0] [0,1,7,8] (bL 0 Qxd)) Qy6
def Q4s:SC:=sR [zJ 4 0] [0,1] Qy7
def Qez:List RS:=[.tmp 4]
theorem Q2r:mFn prog Qd5 2 19 Q4s Qez=true:=by kernel_rfl
def Qy8:SC:=cT 16 (sR [mJ 17 5,mJ 4 17] [4] .ret) .skip
def Qy9:SC:=sR [mJ 11 1,mJ 12 0,mJ 13 5,iJ 14 2 12 13,tJ 15 2 14,eI 16 (.callv (.t 11) [.t 15])] [0,1,5,7,8,16] Qy8
def Qza:SC:=.reg [cJ 18 .add 8 1,mJ 8 18] [0,1,7,8]
def Qzb:SC:=.seq (.block 1 (sR [mJ 10 8,mJ 5 10] [0,1,5,7,8] Qy9)) Qza
def Qxe:SC:=sR [bJ 9 .lss 8 7] [0,1,7,8,9] (cX 9 0 Qzb)
def Qzc:SC:=sR [zJ 4 (-1)] [4] .ret
def Qzd:SC:=.seq (sR [mJ 6 0,nJ 7 6,zJ 8 0] [0,1,7,8] (bL 0 Qxe)) Qzc
def Q4t:SC:=sR [zJ 4 0] [0,1] Qzd
def Qe0:List RS:=[.tmp 4]
theorem Q2s:mFn prog Qd6 2 19 Q4t Qe0=true:=by kernel_rfl
def Qawd:SC:=cT 5 (sR [fJ 6 1 1,lJ 7 6,mJ 2 7] [2] .ret) .skip
def Qawe:SC:=sR [zJ 2 (-1)] [2] .ret
def Qawf:SC:=.seq (sR [fJ 3 0 1,lJ 4 3,aJ 5 Qik [.t 4]] [1,5] Qawd) Qawe
def Qba1:SC:=sR [vJ 1 0,zJ 2 0] [1] Qawf
def Q1f:List RS:=[.tmp 2]
theorem Qa5f:mFn prog Qs2 1 8 Qba1 Q1f=true:=by kernel_rfl
end Go.AE.Y
attribute [go_sem_proc] reduceIte reduceEqDiff reduceAdd reduceLeDiff reduceLT reduceCtorEq
namespace Go.AE.Y
open Go.Proofs.Tryz
theorem Qal:prog.follows .mixedOrders=true:=by kernel_rfl
theorem Qbuj (l : Nat) (fl : Bool) (bs : List UInt8) (k : Nat) (n : Int) (H : Heap) (K : V → Heap → Prop)
   (hH : H l = .st [.sl fl 1 (Qbs bs), .int .i64 k]) (hp' : k ≤ 2^40)
   (hK : ∀ v : Int, (if n < 1 then v = 0 else 0 ≤ v ∧ v < n) → K (.c (.int .i64 v)) (H.set l (.st [.sl fl 1 (Qbs bs), .int .i64 ((k + 1 : Nat) : Int)]))) :
   Qr prog Qq [.c (.ptr l 0), .c (.int .i64 n)] H K := by
  refine Qc Qal Qaxr ?_;refine Qa ?_;simp only [go_sem, Qa0, Qh4, reduceIte, Nat.reduceEqDiff, Nat.reduceAdd];refine Qa ?_;simp only [go_sem, Qa0, Qh4, reduceIte, Nat.reduceEqDiff, Nat.reduceAdd, Nat.reduceLeDiff, Nat.reduceLT, hH];refine ⟨Qs (by omega) (by omega), fun H2 hH2' => ?_⟩;have hH2 : H2 l = .st [C.sl fl 1 (Qbs bs), C.int IntKind.i64 (k + 1)] := by rw [hH2']; exact Heap.set_same _ _ _
  have hK2 : ∀ v : Int, (if n < 1 then v = 0 else 0 ≤ v ∧ v < n) → K (.c (.int .i64 v)) H2 := by
    intro v hv; rw [hH2']; exact hK v hv
  clear hK;refine Qaa ?_;refine Qa ?_;simp only [go_sem, Qa0, Qh4, reduceIte, Nat.reduceEqDiff, Nat.reduceAdd, Nat.reduceLeDiff, hH2];intro _;refine Qh (Qd rfl ?_ ?_)
  · intro hc;refine Qa ?_;simp only [go_sem, reduceIte, Nat.reduceEqDiff];refine Qk ?_;simp only [go_sem, Q5, Qae, Qkk, reduceIte, Ja, forall_eq, RS.op];refine hK2 0 ?_;split <;> omega
  · intro hc;refine Qg ?_;simp only [go_sem];have hn : 1 ≤ n ∧ bs.length ≠ 0 := by
      simp only [cond_eq_ite] at hc;split at hc
      · simp at hc
      · simp at hc; simp_all
    refine Qa ?_;simp only [go_sem, Qa0, Qh4, reduceIte, Nat.reduceEqDiff, Nat.reduceAdd, Nat.reduceLeDiff, hH2];refine ⟨Qs (by omega) (by omega), ?_⟩;refine Qaa ?_;refine Qa ?_;simp only [go_sem, Qa0, Qh4, reduceIte, Nat.reduceEqDiff, Nat.reduceAdd, Nat.reduceLeDiff, hH2];intro hl;refine Qh (Qd rfl ?_ ?_)
    · intro hc2;have hk : k < bs.length := (by simpa using hc2);refine Qa ?_;simp only [go_sem, Qa0, Qh4, reduceIte, Nat.reduceEqDiff, Nat.reduceAdd, Nat.reduceLeDiff, hH2, hk, Q73];refine ⟨by omega, ?_⟩;refine Qk ?_;simp only [go_sem, Q5, Qae, Qkk, reduceIte, Ja, forall_eq, RS.op];refine hK2 _ ?_;rw [if_neg (by omega)];exact ⟨J3 _ (by omega), Jz _ (by omega)⟩
    · intro hc2;refine Qg ?_;simp only [go_sem];refine Qaj ?_;have e1 : ((k : Int).tmod (bs.length : Int)) = ((k % bs.length : Nat) : Int) := rfl;have e2 : (((k : Int) * 7 + 3).tmod (bs.length : Int)) = (((k * 7 + 3) % bs.length : Nat) : Int) := rfl;have h1 : k % bs.length < bs.length := Nat.mod_lt _ (by omega);have h2 : (k * 7 + 3) % bs.length < bs.length := Nat.mod_lt _ (by omega);simp only [go_sem, Qa0, Qh4, reduceIte, Nat.reduceEqDiff, Nat.reduceAdd, Nat.reduceLeDiff, hH2, e1, e2, h1, h2, Q73];have e3 : (k : Int).tdiv (bs.length : Int) = ((k / bs.length : Nat) : Int) := rfl;have h3 : k / bs.length ≤ k := Nat.div_le_self _ _;rw [e3];have h4 := (bs.getD (k % bs.length) 0).toNat_lt;have h5 := (bs.getD ((k * 7 + 3) % bs.length) 0).toNat_lt;generalize (bs.getD (k % bs.length) 0).toNat = b1 at *;generalize (bs.getD ((k * 7 + 3) % bs.length) 0).toNat = b2 at *;generalize k / bs.length = d at *;clear e1 e2 h1 h2 e3;refine ⟨by omega, Qs (by omega) (by omega), Qs (by omega) (by omega), Qs (by omega) (by omega), by omega, Qs (by omega) (by omega), Qs (by omega) (by omega),
        Qs (by omega) (by omega), Qs (by omega) (by omega), ⟨by omega, Qs (by omega) (by omega)⟩, Qs (by omega) (by omega), Qs (by omega) (by omega), ?_⟩
      have hx : 0 ≤ (b1 : Int) * 131 + b2 * 1117 + k * 29 + d * 53 := (by omega);have hx' : (b1 : Int) * 131 + b2 * 1117 + k * 29 + d * 53 < 2 ^ 62 := (by omega);generalize (b1 : Int) * 131 + b2 * 1117 + k * 29 + d * 53 = x at *;refine Qa ?_;simp only [go_sem, Qa0, Qh4, reduceIte, Nat.reduceEqDiff, Nat.reduceAdd, Nat.reduceLeDiff];have hq : 0 ≤ x.tdiv 64 := Int.tdiv_nonneg hx (by omega);have hq' : x.tdiv 64 ≤ x := (by have := Int.tdiv_le_self (a := x) 64 hx; exact this);refine ⟨⟨by omega, Qs (by omega) (by omega)⟩, ?_⟩;have hy := Qbvb hx hq hx' (by omega);generalize Qbdr .xor .i64 x (x.tdiv 64) = y at *;refine Qa ?_;simp only [go_sem, Qa0, Qh4, reduceIte, Nat.reduceEqDiff, Nat.reduceAdd, Nat.reduceLeDiff];refine ⟨by omega, ?_⟩;refine Qk ?_;simp only [go_sem, Q5, Qae, Qkk, reduceIte, Ja, forall_eq, RS.op];refine hK2 _ ?_;rw [if_neg (by omega)];exact ⟨J3 _ (by omega), Jz _ (by omega)⟩
theorem Qa8 {R:Rdr}{k:Nat}{n:Int}{H:Heap}{K:V→Heap→Prop}(hH:H R.l=R.o k)(hk:k≤2^40)
  (hK:∀(v:Int) (H':Heap),(if n<1 then v=0 else 0≤v∧v<n)→Upd H H' [(R.l,R.o (k+1))]→K (.c (.int .i64 v)) H') :
  Qr prog Qq [.c (.ptr R.l 0),.c (.int .i64 n)] H K:=
 Qbuj R.l R.fl R.bs k n H K hH hk fun v hv=>hK v _ hv ⟨by simp[Heap.set_same,Rdr.o],fun m _ hm=>Heap.set_other _ _ (by simpa using hm)⟩
theorem Qi5 {R:Rdr}{k:Nat}{fl:Bool}{ns:List Int}{H:Heap}{K:V→Heap→Prop}(hH:H R.l=R.o k)(hk:k≤2^40)(hns:0<ns.length)
  (hK:∀(v:Int) (H':Heap),v∈ns→Upd H H' [(R.l,R.o (k+1))]→K (.c (.int .i64 v)) H') :
  Qr prog Qac [.c (.ptr R.l 0),.c (.sl fl 1 (Qb ns))] H K:=by
 refine Qc Qal Qa48 ?_;refine Qa ?_;simp only[go_sem];refine Qa ?_;simp only[go_sem,Qf];intro hl;refine Qa8 hH hk fun v H' hv hu=>?_;rw[if_neg (by omega)]at hv;obtain⟨i,rfl⟩:=Jn hv.1;have hi:i<ns.length:=by omega
 simp only[go_sem,Q0d,Qf,Qu,hi];refine Qk ?_;simp only[go_sem,Q5,Qae,Qafv,reduceIte,Ja,forall_eq,RS.op];refine hK _ H' ?_ hu;rw[Jb,J1 hi];exact Jc hi
theorem of_c {R:Rdr}{k:Nat}{fl:Bool}{ss:List (List UInt8)}{H:Heap}{K:V→Heap→Prop}(hH:H R.l=R.o k)(hk:k≤2^40)(hns:0<ss.length)
  (hK:∀(v:List UInt8) (H':Heap),v∈ss→Upd H H' [(R.l,R.o (k+1))]→K (.c (.str v)) H') :
  Qr prog Qiy [.c (.ptr R.l 0),.c (.sl fl 1 (Qbu ss))] H K:=by
 refine Qc Qal Qbep ?_;refine Qa ?_;simp only[go_sem];refine Qa ?_;simp only[go_sem,Qaz];intro hl;refine Qa8 hH hk fun v H' hv hu=>?_;rw[if_neg (by omega)]at hv;obtain⟨i,rfl⟩:=Jn hv.1;have hi:i<ss.length:=by omega
 simp only[go_sem,Q4j,Qaz,Qjy,hi];refine Qk ?_;simp only[go_sem,Q5,Qae,Qark,reduceIte,Ja,forall_eq,RS.op];refine hK _ H' ?_ hu;rw[Jb,J1 hi];exact Jc hi
theorem Qbok {R:Rdr}{k:Nat}{fl:Bool}{ss:List (List UInt8)}{H:Heap}{K:V→Heap→Prop}(hH:H R.l=R.o k)(hk:k+2≤2^40)
  (hK:∀(x:Ex) (H':Heap) (k':Nat),k<k'→k'≤k+2→Upd H H' [(R.l,R.o k')]→x.ok→x.size=1→K (.ag x.cells) H') :
  Qr prog Qaem [.c (.ptr R.l 0),.c (.sl fl 1 (Qbu ss))] H K:=by
 refine Q3 ?_;refine Qc Qal Qbo3 ?_;refine Qa ?_;simp only[go_sem];intro x hx H1 h1;have kn:=(Kn.start1 hH (R.o_ne k)).al hx h1;refine Qaa ?_;refine Qa ?_;simp only[go_sem,Qaz];intro hl;have rest:∀(b:Bool) (H2:Heap) (k2:Nat),k≤k2→k2≤k+1→Kn H H2 [(R.l,R.o k2)] [(x,.st [.int .i64 0,.int .i64 0,.str [],.sl true 4 []])]→(b=false→0<ss.length)→
   Qam prog (s_l2Leaf_2.seq Qarq) (Q5 Qady (unK H K)) [(0,V.c (C.ptr R.l 0)),(1,V.c (C.sl fl 1 (Qbu ss))),(4,V.c (C.ptr x 0)),(12,V.c (.bool b))] H2:=by
  intro b H2 k2 hk1 hk2 kn hb;refine Qh (Qd rfl ?_ ?_)
  ·intro hb';refine Qa ?_;simp only[go_sem];refine Qi5 (ns:=[0,1,2,3,5,7,15,16,100,255]) (kn.e 0 rfl) (by omega) (by simp) fun v H3 hv hu=>?_;have kn:=kn.callE 0 rfl hu (R.o_ne _);have hx3:=kn.l 0 rfl;simp only[go_sem,Qahv,hx3];intro H4 h4;have kn:=kn.stL 0 rfl h4;have hx4:=kn.l 0 rfl;refine Qk ?_;simp only[go_sem,Q5,Qae,Qady,reduceIte,Ja,forall_eq,RS.op,hx4];refine⟨_,(Ex.mk 1 v [] []).frz,hK _ _ (k2+1) (by omega) (by omega) kn.fin ?_ ?_⟩
   ·simp[Ex.ok,Qep]
   ·simp[Ex.size,Qan]
  ·intro hb';refine Qg ?_;simp only[go_sem];refine Qa ?_;simp only[go_sem];refine of_c (kn.e 0 rfl) (by omega) (hb hb') fun v H3 hv hu=>?_;have kn:=kn.callE 0 rfl hu (R.o_ne _);have hx3:=kn.l 0 rfl;simp only[go_sem,Qahw,hx3];intro H4 h4;have kn:=kn.stL 0 rfl h4;have hx4:=kn.l 0 rfl;refine Qk ?_;simp only[go_sem,Q5,Qae,Qady,reduceIte,Ja,forall_eq,RS.op,hx4];refine⟨_,(Ex.mk 2 0 v []).frz,hK _ _ (k2+1) (by omega) (by omega) kn.fin ?_ ?_⟩
   ·simp[Ex.ok,Qep]
   ·simp[Ex.size,Qan]
 refine⟨fun hb=>?_,fun hb=>?_⟩
 ·refine Qa8 (kn.e 0 rfl) (by omega) fun v H2 hv hu=>?_;have kn:=kn.callE 0 rfl hu (R.o_ne _);simp only[go_sem,Q12];refine rest _ H2 (k+1) (by omega) (by omega) kn ?_;intro h;have:¬ss.length=0:=by simpa using hb
  omega
 ·have hb2:decide ((ss.length:Int)=0)=true:=by simpa using hb
  simp only[go_sem,Q12,hb2];exact rest true H1 k (by omega) (by omega) kn (fun h=>by simp at h)
variable {H:Heap}{K:V→Heap→Prop}
theorem Qc8 {n lo hi:Int}(hK:K (.c (.bool (decide (lo≤n∧n≤hi)))) H):Qr prog Qbm [.c (.int .i64 n),.c (.int .i64 lo),.c (.int .i64 hi)] H K:=by
 refine Qc Qal Qbwc ?_;refine Qa ?_;simp only[go_sem];refine Qa ?_;simp only[go_sem];refine Qk ?_;simp only[go_sem,Q5,Qae,Qbr9,reduceIte,Ja,forall_eq,RS.op];have:(bif decide (lo≤n)then decide (n≤hi)else false)=decide (lo≤n∧n≤hi):=by
  by_cases h:lo≤n <;> simp[h]
 rw[this];exact hK
theorem Qbjd {b:Bool}(hK:K (.c (.int .i64 (if b then 1 else 0))) H):Qr prog Q5j [.c (.bool b)] H K:=by
 refine Qc Qal Qbj2 ?_;refine Qa ?_;simp only[go_sem];refine Qaa ?_;refine Qa ?_;simp only[go_sem];refine Qh (Qd rfl ?_ ?_)
 ·intro hc;subst hc;refine Qa ?_;simp only[go_sem];refine Qk ?_;simp only[go_sem,Q5,Qae,Qafy,reduceIte,Ja,forall_eq,RS.op];exact hK
 ·intro hc;subst hc;refine Qg ?_;simp only[go_sem];refine Qa ?_;simp only[go_sem];refine Qk ?_;simp only[go_sem,Q5,Qae,Qafy,reduceIte,Ja,forall_eq,RS.op];exact hK
theorem Qbjb {s:List UInt8}{b:UInt8}(hK:∀n:Int,K (.c (.int .i64 n)) H):Qr prog Q5i [.c (.str s),.c (.int .u8 b.toNat)] H K:=by
 refine Qc Qal Qbjy ?_;refine Qa ?_;simp only[go_sem];refine Qaa ?_;refine Qa ?_;simp only[go_sem];refine Qh (Qe (Qx (fun n e1 H1=>∃i:Nat,n=s.length-i∧i≤s.length∧H1=H∧e1=[(0,.c (.str s)),(1,.c (.int .u8 b.toNat)),(5,.c (.int .i64 i))]) s.length ?_ ?_))
 ·exact⟨0,by omega,by omega,rfl,rfl⟩
 ·rintro n e1 H1 ⟨i,hn,hi,rfl,rfl⟩;refine Qaa ?_;refine Qa ?_;simp only[go_sem];intro hl;simp only[LIM]at hl;refine Qh (Qd rfl ?_ ?_)
  ·intro hc;have hlt:i<s.length:=by simpa using hc
   refine Qg ?_;simp only[go_sem];refine Qh (Qe ?_);refine Qa ?_;simp only[go_sem,hlt];refine Qd rfl ?_ ?_
   ·intro hc2;refine Qa ?_;simp only[go_sem];refine Qk ?_;simp only[go_sem,X.next,Q5,Qae,Qaft,reduceIte,Ja,forall_eq,RS.op];exact hK _
   ·intro hc2;refine Qg ?_;simp only[go_sem];refine Qt ?_;simp only[go_sem,X.next];exact⟨Qs (by omega) (by omega),s.length-(i+1),by omega,i+1,rfl,by omega,rfl⟩
  ·intro hc;refine Qw ?_;simp only[go_sem,X.next];refine Qa ?_;simp only[go_sem];refine Qk ?_;simp only[go_sem,Q5,Qae,Qaft,reduceIte,Ja,forall_eq,RS.op];exact hK _
theorem Qbi9 {b:UInt8}(hK:∀n:Int,K (.c (.int .i64 n)) H):Qr prog Q5h [.c (.int .u8 b.toNat)] H K:=by
 refine Qc Qal Qbjw ?_;refine Qa ?_;simp only[go_sem];refine Qh (Qe ?_);refine Qa ?_;simp only[go_sem];refine Qd rfl ?_ ?_
 ·intro hc;refine Qa ?_;simp only[go_sem];refine Qk ?_;simp only[go_sem,Q5,Qae,Qml,reduceIte,Ja,forall_eq,RS.op];exact hK _
 intro hc;refine Qa ?_;simp only[go_sem];refine Qd rfl ?_ ?_
 ·intro hc;refine Qa ?_;simp only[go_sem];refine Qk ?_;simp only[go_sem,Q5,Qae,Qml,reduceIte,Ja,forall_eq,RS.op];exact hK _
 intro hc;refine Qa ?_;simp only[go_sem];refine Qbjb fun n=>?_;simp only[go_sem,Q9x];refine Qd rfl ?_ ?_
 ·intro hc;refine Qa ?_;simp only[go_sem];refine Qk ?_;simp only[go_sem,Q5,Qae,Qml,reduceIte,Ja,forall_eq,RS.op];exact hK _
 intro hc;refine Qa ?_;simp only[go_sem];refine Qd rfl ?_ ?_
 ·intro hc;refine Qa ?_;simp only[go_sem];refine Qk ?_;simp only[go_sem,Q5,Qae,Qml,reduceIte,Ja,forall_eq,RS.op];exact hK _
 intro hc;refine Qg ?_;simp only[go_sem];refine Qa ?_;simp only[go_sem];refine Qk ?_;simp only[go_sem,Q5,Qae,Qml,reduceIte,Ja,forall_eq,RS.op];exact hK _
theorem Qbtp {s:List UInt8}{k:Int}(hK:∀b:Bool,K (.c (.bool b)) H):Qr prog Qasb [.c (.str s),.c (.int .i64 k)] H K:=by
 refine Qc Qal Qbt5 ?_;refine Qa ?_;simp only[go_sem];refine Qaa ?_;refine Qa ?_;simp only[go_sem];refine Qh (Qe (Qx (fun n e1 H1=>∃i:Nat,n=s.length-i∧i≤s.length∧H1=H∧e1=[(0,.c (.str s)),(1,.c (.int .i64 k)),(5,.c (.int .i64 i))]) s.length ?_ ?_))
 ·exact⟨0,by omega,by omega,rfl,rfl⟩
 ·rintro n e1 H1 ⟨i,hn,hi,rfl,rfl⟩;refine Qaa ?_;refine Qa ?_;simp only[go_sem];intro hl;simp only[LIM]at hl;refine Qh (Qd rfl ?_ ?_)
  ·intro hc;have hlt:i<s.length:=by simpa using hc
   refine Qg ?_;simp only[go_sem];refine Qh (Qe ?_);refine Qa ?_;simp only[go_sem,hlt];refine Qbi9 fun cl=>?_;simp only[go_sem,Qarm];refine Qd rfl ?_ ?_
   ·intro hc2;refine Qa ?_;simp only[go_sem];refine Qk ?_;simp only[go_sem,X.next,Q5,Qae,Qa5n,reduceIte,Ja,forall_eq,RS.op];exact hK _
   ·intro hc2;refine Qg ?_;simp only[go_sem];refine Qt ?_;simp only[go_sem,X.next];exact⟨Qs (by omega) (by omega),s.length-(i+1),by omega,i+1,rfl,by omega,rfl⟩
  ·intro hc;refine Qw ?_;simp only[go_sem,X.next];refine Qa ?_;simp only[go_sem];intro _;refine Qk ?_;simp only[go_sem,Q5,Qae,Qa5n,reduceIte,Ja,forall_eq,RS.op];exact hK _
theorem Qbdm (hK:∀ss:List (List UInt8),K (.c (.sl true 1 (Qbu ss))) H):Qr prog Qle [] H K:=by
 refine Qc Qal Qatg ?_;refine Qa ?_;simp only[go_sem];refine Qa ?_;simp only[go_sem];refine Qk ?_;simp only[go_sem,Q5,Qae,Q3b,reduceIte,Ja,forall_eq,RS.op];exact hK [[102,110],[108,101,116],[115,97,121],[112,117,116],[105,102],[101,108,115,101],[108,111,111,112],[98,97,99,107],[100,111]]
theorem Qbtq {s:List UInt8}(hK:∀b:Bool,K (.c (.bool b)) H):Qr prog Qasc [.c (.str s)] H K:=by
 refine Qc Qal Qbt6 ?_;refine Qa ?_;simp only[go_sem];refine Qa ?_;simp only[go_sem];refine Qbdm fun ss=>?_;simp only[go_sem,Qarn];refine Qaa ?_;refine Qa ?_;simp only[go_sem];refine Qh (Qe (Qx (fun n e1 H1=>∃i:Nat,n=ss.length-i∧i≤ss.length∧H1=H∧e1=[(0,.c (.str s)),(3,.c (.sl true 1 (Qbu ss))),(4,.c (.int .i64 i))]) ss.length ?_ ?_))
 ·exact⟨0,by omega,by omega,rfl,rfl⟩
 ·rintro n e1 H1 ⟨i,hn,hi,rfl,rfl⟩;refine Qaa ?_;refine Qa ?_;simp only[go_sem,Qaz];intro hl;simp only[LIM]at hl;refine Qh (Qd rfl ?_ ?_)
  ·intro hc;have hlt:i<ss.length:=by simpa using hc
   refine Qg ?_;simp only[go_sem];refine Qh (Qe ?_);refine Qa ?_;simp only[go_sem,hlt,Qaz,Qjy _ _ hlt];refine Qd rfl ?_ ?_
   ·intro hc2;refine Qa ?_;simp only[go_sem];refine Qk ?_;simp only[go_sem,X.next,Q5,Qae,Qa5o,reduceIte,Ja,forall_eq,RS.op];exact hK _
   ·intro hc2;refine Qg ?_;simp only[go_sem];refine Qt ?_;simp only[go_sem,X.next];exact⟨Qs (by omega) (by omega),ss.length-(i+1),by omega,i+1,rfl,by omega,rfl⟩
  ·intro hc;refine Qw ?_;simp only[go_sem,X.next];refine Qa ?_;simp only[go_sem];refine Qk ?_;simp only[go_sem,Q5,Qae,Qa5o,reduceIte,Ja,forall_eq,RS.op];exact hK _
theorem Qado {s:List UInt8}(hK:∀b:Bool,K (.c (.bool b)) H):Qr prog Qec [.c (.str s)] H K:=by
 refine Qc Qal Qa5e ?_;refine Qa ?_;simp only[go_sem];refine Qa ?_;simp only[go_sem];refine Qbtp fun b=>?_;simp only[go_sem,Q0q];intro hl;refine⟨fun hb=>?_,fun hb=>?_⟩
 ·refine Qbtq fun b2=>?_;simp only[go_sem,Qlx];refine Qk ?_;simp only[go_sem,Q5,Qae,Q1e,reduceIte,Ja,forall_eq,RS.op];exact hK _
 ·simp only[go_sem,Qlx,hb];refine Qk ?_;simp only[go_sem,Q5,Qae,Q1e,reduceIte,Ja,forall_eq,RS.op];exact hK _
theorem Qboj {op:Int}(hK:∀a b:Int,K (.tup [.c (.int .i64 a),.c (.int .i64 b)]) H):Qr prog Qael [.c (.int .i64 op)] H K:=by
 refine Qc Qal Qbo2 ?_;refine Qa ?_;simp only[go_sem];refine Qaa ?_;refine Qa ?_;simp only[go_sem];have ret:∀(a b:Int) (e:Env),lk 2 e=.c (.int .i64 a)→lk 3 e=.c (.int .i64 b)→Q5 Q23 K .ret e H:=by
  intro a b e h1 h2;simp only[go_sem,Q5,Qae,Q23,List.forall_mem_cons,RS.op,h1,h2];exact hK _ _
 refine Qh (Qe ?_);refine Qaa ?_;refine Qa ?_;simp only[go_sem];have r5:∀(b:Bool),Qam prog Qarp (X.inBlock 0 (X.sq prog Q7e (Q5 Q23 K))) [(4,.c (.int .i64 op)),(5,.c (.bool b))] H:=by
  intro b;refine Qd rfl ?_ ?_
  ·intro hc;refine Qa ?_;simp only[go_sem];refine Qk ?_;simp only[go_sem];exact ret 0 0 _ (by simp[lk]) (by simp[lk])
  intro hc;refine Qaa ?_;refine Qa ?_;simp only[go_sem];have r8:∀(b:Bool),Qam prog Qaro (X.inBlock 0 (X.sq prog Q7e (Q5 Q23 K))) [(4,.c (.int .i64 op)),(8,.c (.bool b))] H:=by
   intro b;refine Qd rfl ?_ ?_
   ·intro hc;refine Qa ?_;simp only[go_sem];refine Qk ?_;simp only[go_sem];exact ret 1 1 _ (by simp[lk]) (by simp[lk])
   intro hc;refine Qa ?_;simp only[go_sem];refine Qd rfl ?_ ?_
   ·intro hc;refine Qa ?_;simp only[go_sem];refine Qk ?_;simp only[go_sem];exact ret 0 3 _ (by simp[lk]) (by simp[lk])
   ·intro hc;refine Qg ?_;simp only[go_sem];refine Qa ?_;simp only[go_sem];refine Qk ?_;exact ret 2 2 _ (by simp[lk]) (by simp[lk])
  refine Qh (Qd rfl ?_ ?_)
  ·intro hc;refine Qg ?_;simp only[go_sem];exact r8 _
  ·intro hc;refine Qt ?_;simp only[go_sem];exact r8 _
 refine Qh (Qd rfl ?_ ?_)
 ·intro hc;refine Qg ?_;simp only[go_sem];exact r5 _
 ·intro hc;refine Qt ?_;simp only[go_sem];exact r5 _
theorem Qbol {op:Int}(hK:K (.c (.int .i64 (if op=4 then 2 else 1))) H):Qr prog Qaen [.c (.int .i64 op)] H K:=by
 refine Qc Qal Qbo4 ?_;refine Qa ?_;simp only[go_sem];refine Qaa ?_;refine Qa ?_;simp only[go_sem];refine Qh (Qd rfl ?_ ?_)
 ·intro hc;refine Qa ?_;simp only[go_sem];refine Qk ?_;simp only[go_sem,Q5,Qae,Qatk,reduceIte,Ja,forall_eq,RS.op];rw[if_pos (by simpa using hc)]at hK;exact hK
 ·intro hc;refine Qg ?_;simp only[go_sem];refine Qa ?_;simp only[go_sem];refine Qk ?_;simp only[go_sem,Q5,Qae,Qatk,reduceIte,Ja,forall_eq,RS.op];rw[if_neg (by simpa using hc)]at hK;exact hK
end Go.AE.Y
namespace Go.AE
open Go.AE.Y
open Go.Proofs.Tryz
variable {H:Heap}{K:V→Heap→Prop}
theorem Slc.keep {H':Heap}{sz:Nat}{rows:List (List C)}{b:C}{E L:List (Nat×Obj)}(h:Slc H sz rows b)(kn:Kn H H' E L)(hE:∀l a c d,b=.vsl l a c d→l∉E.map Prod.fst):Slc H' sz rows b:=by
 obtain⟨h1,h2,h3,h4⟩:=h
 cases b with
 |sl fl z rs=>exact⟨trivial,h2,h3,h4⟩
 |vsl l z st n=>
  simp only[Go.AE.okSl]at h1
  cases ho:H l with
  |vec y rs=>
   have:=kn.chg l (by rw[ho];simp) (hE l z st n rfl);refine⟨?_,h2,?_,h4⟩
   ·simp only[Go.AE.okSl,this];exact h1
   ·simp only[Go.AE.rowsOf,this];exact h3
  |_=>rw[ho]at h1;exact h1.elim
 |_=>exact h1.elim
theorem Slc.keep0 {H':Heap}{sz:Nat}{rows:List (List C)}{b:C}{L:List (Nat×Obj)}(h:Slc H sz rows b)(kn:Kn H H' [] L):Slc H' sz rows b:=h.keep kn (by simp)
end Go.AE
namespace Go.AE.Y
open Go.Proofs.Tryz
variable {H:Heap}{K:V→Heap→Prop}
def Qav (nx:Nat→List Int)(b:Int)(n:Nat):List Int:=((List.range n).filter fun i=>(nx i).contains b).map Int.ofNat
theorem Qkh (nx:Nat→List Int)(b:Int)(n:Nat):Qav nx b (n+1)=Qav nx b n++if (nx n).contains b then [(n:Int)]else []:=by
 simp only[Qav,List.range_succ,List.filter_append,Ju];congr 1;cases h:(nx n).contains b
 ·simp only[J9,h,Jad];rfl
 ·simp only[J9,h,Jad,if_true];rfl
theorem Qi7 (nx:Nat→List Int)(b:Int)(n:Nat):(Qav nx b n).length≤n:=by
 simp only[Qav,Jk];exact Nat.le_trans (List.length_filter_le _ _) (by simp)
set_option maxHeartbeats 1000000 in
theorem Qae3 {p rg:Int}{bc:C}{rows:List (List C)}{nx:Nat→List Int}{b:Int}(hs:Slc H 5 rows bc)(how:bc.isOw=false)
  (hx:∀i,i<rows.length→∃a1 a2 a3 a4 fl,rows.getD i []=[a1,a2,a3,a4,.sl fl 1 (Qb (nx i))])
  (hK:∀H',Upd H H' []→K (.c (.sl false 1 (Qb (Qav nx b rows.length)))) H'):Qr prog Ql7 [.ag [.int .i64 p,.int .i64 rg,bc],.c (.int .i64 b)] H K:=by
 refine Q3 ?_;refine Qc Qal Qbj5 ?_;refine Qa ?_;simp only[go_sem];refine Qa ?_;simp only[go_sem];refine Qaa ?_;refine Qa ?_;simp only[go_sem];have hlen:=hs.len;have hesz:=hs.sz;refine Qh (Qe (Qx (fun n e1 H1=>∃(i:Nat) (c:C) (Lg:List (Nat×Obj)),n=rows.length-i∧i≤rows.length∧Gr Lg 1 (Qb (Qav nx b i)) c∧Kn H H1 [] ([]++Lg)∧
  e1=[(1,.c (.int .i64 b)),(2,.c (.pp [.int .i64 p,.int .i64 rg,bc])),(5,.c c),(6,.c (.int .i64 i))]) rows.length ?_ ?_))
 ·exact⟨0,_,[],by omega,by omega,.nil 1,Kn.start0 H,rfl⟩
 ·rintro n e1 H1 ⟨i,c,Lg,hn1,hi,hgr,kn,rfl⟩;have hs1:=hs.keep0 kn;have hok1:=eq_true hs1.ok;have hrw1:=hs1.rows;refine Qaa ?_;refine Qa ?_;simp only[go_sem,how,hok1,hlen];intro hl;simp only[LIM]at hl;refine Qh (Qd rfl ?_ ?_)
  ·intro hc;have hlt:i<rows.length:=by simpa using hc
   obtain⟨a1,a2,a3,a4,fl,hrow⟩:=hx i hlt;refine Qg ?_;simp only[go_sem];have turn:∀(e:Env) (H2:Heap) (c':C) (Lg':List (Nat×Obj)),lk 1 e=.c (.int .i64 b)→lk 2 e=.c (.pp [.int .i64 p,.int .i64 rg,bc])→lk 5 e=.c c'→lk 6 e=.c (.int .i64 i)→
     Gr Lg' 1 (Qb (Qav nx b (i+1))) c'→Kn H H2 [] ([]++Lg')→
     Qam prog Qaju (X.next (fun e2 H2=>∃m,m<n∧∃(i:Nat) (c:C) (Lg:List (Nat×Obj)),m=rows.length-i∧i≤rows.length∧Gr Lg 1 (Qb (Qav nx b i)) c∧Kn H H2 [] ([]++Lg)∧
      e2=[(1,.c (.int .i64 b)),(2,.c (.pp [.int .i64 p,.int .i64 rg,bc])),(5,.c c),(6,.c (.int .i64 i))]) (X.inBlock 0 (X.sq prog Qajv (Q5 Qaf0 (unK H K))))) e H2:=by
    intro e H2 c' Lg' l1 l2 l5 l6 hg' kn';refine Qt ?_;simp only[go_sem,l1,l2,l5,l6,X.next];exact⟨Qs (by omega) (by omega),rows.length-(i+1),by omega,i+1,c',Lg',rfl,by omega,hg',by simpa using kn',rfl⟩
   refine Qh (Qe ?_);refine Qa ?_;simp only[go_sem];refine Qe (Qx (fun n e1 H2=>∃(k:Nat),n=(nx i).length-k∧k≤(nx i).length∧b∉(nx i).take k∧H2=H1∧e1=[(1,.c (.int .i64 b)),(2,.c (.pp [.int .i64 p,.int .i64 rg,bc])),(5,.c c),(6,.c (.int .i64 i)),(7,.c (.int .i64 k))]) (nx i).length ?_ ?_)
   ·exact⟨0,by omega,by omega,by simp,rfl,rfl⟩
   ·rintro n e1 H2 ⟨k,hn2,hk,hno,rfl,rfl⟩;refine Qaa ?_;refine Qa ?_;simp only[go_sem,how,hok1,hlen,hesz,hrw1,hlt,hrow,Qf];intro hl2;simp only[LIM]at hl2;refine Qh (Qd rfl ?_ ?_)
    ·intro hc;have hlt2:k<(nx i).length:=(by simpa using hc);have hgd:(nx i).getD k 0=(nx i)[k]:=(by simp[Jb,hlt2]);refine Qg ?_;simp only[go_sem];refine Qh (Qe ?_);refine Qa ?_;simp only[go_sem,how,hok1,hlen,hesz,hrw1,hlt,hrow,hlt2,Qf,Qu _ _ hlt2,hgd];refine Qd rfl ?_ ?_
     ·intro hc2;have hb:(nx i)[k]=b:=(by simpa using hc2);have hcon:(nx i).contains b=true:=(by rw[J4,←hb];exact Jc hlt2);refine Qa ?_;simp only[go_sem];have hpl:=Qi7 nx b i;refine kn.grow (B:=[]) (new:=Qb [(i:Int)]) hgr (.mk' _ _ _ _) (Qz _) (by simp only[Qf,LIM,Jj,Jo];omega) fun y' H3 kn=>?_;simp only[go_sem,Qaat];refine Qw ?_;have hib:((2:Nat) == 3)=false:=rfl;rw[Qbnv hib];simp only[go_sem,X.next];refine turn _ _ _ _ (by simp[lk]) (by simp[lk]) (by simp[lk];rfl) (by simp[lk]) ?_ kn;rw[Qkh,hcon,if_pos rfl,Qb1];exact .mk _ _ _ (by simp)
     ·intro hc2;have hb:¬(nx i)[k]=b:=(by simpa using hc2);refine Qg ?_;simp only[go_sem];refine Qt ?_;simp only[go_sem,X.next];refine⟨Qs (by omega) (by omega),(nx i).length-(k+1),by omega,k+1,rfl,by omega,?_,rfl⟩;rw[Jh hlt2];simp only[Jm,Ja,not_or];exact⟨hno,fun h=>hb h.symm⟩
    ·intro hc;have hge:(nx i).length≤k:=(by simpa using hc);rw[Jd hge]at hno;have hcon:(nx i).contains b=false:=by
      cases hcc:(nx i).contains b with
      |false=>rfl
      |true=>exact absurd (J4.1 hcc) hno
     refine Qw ?_;simp only[go_sem,X.next];refine turn _ _ _ _ (by simp[lk]) (by simp[lk]) (by simp[lk];rfl) (by simp[lk]) ?_ kn;rw[Qkh,hcon];simpa using hgr
  ·intro hc;have hge:i=rows.length:=by have:rows.length≤i:=(by simpa using hc);omega
   subst hge;refine Qw ?_;simp only[go_sem,X.next];refine Qa ?_;simp only[go_sem];refine Qk ?_;simp only[go_sem,Q5,Qae,Qaf0,reduceIte,Ja,forall_eq,RS.op];exact⟨_,.c _ _ (hgr.frz kn (Qz _)),hK _ kn.fin⟩
def Qgx (op:Int):Int:=if op=1 then 0 else if op=2∨op=10∨op=11∨op=13 then 1 else if (3≤op∧op≤9)∨op=12 then 2 else -1
theorem Qbbv {op:Int}(hK:K (.c (.int .i64 (Qgx op))) H):Qr prog Qsy [.c (.int .i64 op)] H K:=by
 refine Qc Qal Qbo8 ?_;have retf:∀(n:Int) (e:Env),Qgx op=n→lk 2 e=.c (.int .i64 n)→Q5 Qatm K .ret e H:=by
  intro b e h1 h3;simp only[go_sem,Q5,Qae,Qatm,Ja,forall_eq,RS.op,h3];rw[←h1];exact hK
 refine Qa ?_;simp only[go_sem];refine Qh (Qe ?_);refine Qa ?_;simp only[go_sem];refine Qd rfl ?_ ?_
 ·intro hc;refine Qa ?_;simp only[go_sem];refine Qk ?_;simp only[go_sem];exact retf 0 _ (by simp only[decide_eq_true_eq]at hc;simp[Qgx,hc]) (by simp[lk])
 intro hc1;refine Qa ?_;simp only[go_sem];refine Qd rfl ?_ ?_
 ·intro hc;refine Qa ?_;simp only[go_sem];refine Qk ?_;simp only[go_sem];exact retf 1 _ (by simp at hc1 hc;rw[Qgx,if_neg hc1,if_pos (by omega)]) (by simp[lk])
 intro hc2;refine Qa ?_;simp only[go_sem];refine Qc8 ?_;simp only[go_sem,Qai5];refine Qd rfl ?_ ?_
 ·intro hc;refine Qa ?_;simp only[go_sem];refine Qk ?_;simp only[go_sem];exact retf 2 _ (by simp at hc1 hc2 hc;rw[Qgx,if_neg hc1,if_neg (by omega),if_pos (by omega)]) (by simp[lk])
 ·intro hc;refine Qg ?_;simp only[go_sem];refine Qa ?_;simp only[go_sem];refine Qk ?_;exact retf (-1) _ (by simp at hc1 hc2 hc;rw[Qgx,if_neg hc1,if_neg (by omega),if_neg (by omega)]) (by simp[lk])
theorem argsN_in {op:Int}:-1≤Qgx op∧Qgx op≤2:=by
 rw[Qgx];split
 ·omega
 ·split
  ·omega
  ·split <;> omega
theorem Qbje {op:Int}(hK:∀n:Int,-1≤n→n≤2→K (.c (.int .i64 n)) H):Qr prog Qsy [.c (.int .i64 op)] H K:=Qbbv (hK _ argsN_in.1 argsN_in.2)
def Qb9 (op:Int):Bool:=decide (1≤op∧op≤14)&&!decide (op=12)&&!decide (op=13)
theorem Q2p {op:Int}(hK:K (.c (.bool (Qb9 op))) H):Qr prog Qik [.c (.int .i64 op)] H K:=by
 refine Qc Qal Qbj4 ?_;refine Qa ?_;simp only[go_sem];refine Qa ?_;simp only[go_sem];refine Qc8 ?_;simp only[go_sem,Qaas];refine Qk ?_;simp only[go_sem,Q5,Qae,Qayi,reduceIte,Ja,forall_eq,RS.op];have:∀a b c:Bool,(bif bif a then b else false then c else false)=(a&&b&&c):=by decide
 rw[this];exact hK
def Qq9 (rg:Int)(l:List Int):Bool:=l.all fun x=>decide (0≤x∧x≤rg-1)
theorem Qbez {rg:Int}{l:List Int}{i:Nat}(hi:i<l.length):Qq9 rg (l.take (i+1))=(Qq9 rg (l.take i)&&decide (0≤l.getD i 0∧l.getD i 0≤rg-1)):=by
 have e:l.getD i 0=l[i]:=by simp[Jb,hi]
 rw[Qq9,Jh hi,Jac,e];simp[Qq9]
theorem Qbkp {rg:Int}{l:List Int}{i:Nat}(hi:i<l.length)(h:decide (0≤l.getD i 0∧l.getD i 0≤rg-1)=false):Qq9 rg l=false:=by
 have e:l.getD i 0=l[i]:=by simp[Jb,hi]
 cases hc:Qq9 rg l with
 |false=>rfl
 |true=>
  rw[Qq9,J8]at hc;have:=hc _ (Jc hi);rw[e]at h;rw[h]at this;exact absurd this (by simp)
theorem Qbbx {p rg:Int}{bc:C}{fl:Bool}{l:List Int}(hr:-(2^62)≤rg)(hr2:rg≤2^62)(hK:K (.c (.bool (Qq9 rg l))) H) :
  Qr prog Q2l [.ag [.int .i64 p,.int .i64 rg,bc],.c (.sl fl 1 (Qb l))] H K:=by
 refine Qc Qal Qbpc ?_;have retf:∀(b:Bool) (e:Env),Qq9 rg l=b→lk 4 e=.c (.bool b)→Q5 Qatn K .ret e H:=by
  intro b e h1 h3;simp only[go_sem,Q5,Qae,Qatn,Ja,forall_eq,RS.op,h3];rw[←h1];exact hK
 refine Qa ?_;simp only[go_sem];refine Qaa ?_;refine Qa ?_;simp only[go_sem];refine Qh (Qe (Qx (fun n e1 H1=>∃(i:Nat),n=l.length-i∧i≤l.length∧H1=H∧Qq9 rg (l.take i)=true∧e1=[(1,.c (.sl fl 1 (Qb l))),(2,.c (.pp [.int .i64 p,.int .i64 rg,bc])),(5,.c (.int .i64 i))]) l.length ?_ ?_))
 ·exact⟨0,by omega,by omega,rfl,rfl,rfl⟩
 ·rintro n e1 H1 ⟨i,hn1,hi,rfl,hall,rfl⟩;refine Qaa ?_;refine Qa ?_;simp only[go_sem,Qf];intro hl;simp only[LIM]at hl;refine Qh (Qd rfl ?_ ?_)
  ·intro hc;have hlt:i<l.length:=by simpa using hc
   refine Qg ?_;simp only[go_sem];refine Qh (Qe ?_);refine Qaj ?_;simp only[go_sem,hlt,Qf,Qu _ _ hlt];refine⟨Qs (by omega) (by omega),?_⟩;refine Qc8 ?_;simp only[go_sem,Qajw];refine Qd rfl ?_ ?_
   ·intro hc2;refine Qa ?_;simp only[go_sem];refine Qk ?_;simp only[go_sem,X.next];exact retf false _ (Qbkp hlt (Qtc hc2)) (by simp[lk])
   ·intro hc2;refine Qg ?_;simp only[go_sem];refine Qt ?_;simp only[go_sem,X.next];exact⟨Qs (by omega) (by omega),l.length-(i+1),by omega,i+1,rfl,by omega,by rw[Qbez hlt,hall,Qh8 hc2];rfl,rfl⟩
  ·intro hc;have hge:l.length≤i:=by simpa using hc
   rw[Jd hge]at hall;refine Qw ?_;simp only[go_sem,X.next];refine Qa ?_;simp only[go_sem];refine Qk ?_;exact retf true _ hall (by simp[lk])
def rgOf (cs:List CodeD)(k:Nat):Int:=(cs[k]?.map CodeD.regs).getD 0
def pmOf (cs:List CodeD)(k:Nat):Int:=(cs[k]?.map CodeD.params).getD 0
theorem Qtr {cs:List CodeD}{k:Nat}(h:k<cs.length):rgOf cs k=cs[k].regs:=by simp[rgOf,h]
theorem Qtf {cs:List CodeD}{k:Nat}(h:k<cs.length):pmOf cs k=cs[k].params:=by simp[pmOf,h]
def insH (rg:Int)(x:InsD):Bool:=decide (1≤x.op∧x.op≤14)&&Qq9 rg x.args
def insT (rg:Int)(x:InsD):Bool:=if Qb9 x.op then decide (0≤x.to∧x.to≤rg-1)else decide (x.to=-1)
def insL (cs:List CodeD)(k:Nat)(x:InsD):Bool:=
 if x.op=14 then decide (0≤x.n∧x.n≤(k:Int)-1)&&decide ((x.args.length:Int)=pmOf cs x.n.toNat)
 else decide ((x.args.length:Int)=Qgx x.op)&&decide (0≤x.n∧x.n≤255)&&(decide (x.n=0) || decide (x.op=1))
def Qx0 (cs:List CodeD)(k:Nat)(x:InsD):Bool:=insH (rgOf cs k) x&&insT (rgOf cs k) x&&insL cs k x
set_option maxHeartbeats 1000000 in
theorem Qbts {cs:List CodeD}{fl:Bool}{k:Nat}{x:InsD}(hk:k<cs.length)(hr:0≤cs[k].regs)(hr2:cs[k].regs≤300)(hcl:cs.length≤100)(hK:∀(H':Heap),Upd H H' []→K (.c (.bool (Qx0 cs k x))) H') :
  Qr prog Qase [.ag [.sl fl 3 (Qj cs)],.c (.int .i64 k),.ag x.cells] H K:=by
 refine Q3 ?_;refine Qc Qal Qbt8 ?_;refine Qa ?_;simp only[go_sem,InsD.cells];refine Qa ?_;simp only[go_sem,hk,Qo,Q0 _ _ hk,CodeD.cells];intro x7 hx7 H1 h1;have kn:=(Kn.start0 H).al hx7 h1;have hx71:=kn.l 0 rfl;simp only[go_sem,Qaru,hx71];intro H2 h2;have kn:=kn.stL 0 rfl h2;have hx72:=kn.l 0 rfl;have hrg:=Qtr hk;have retf:∀(b:Bool) (e:Env),Qx0 cs k x=b→lk 6 e=.c (.bool b)→Q5 Qafz (unK H K) .ret e H2:=by
  intro b e h1 h3;simp only[go_sem,Q5,Qae,Qafz,Ja,forall_eq,RS.op,h3];rw[←h1];exact⟨_,.c _ _ (Qi rfl),hK _ kn.fin⟩
 refine Qaa ?_;refine Qa ?_;simp only[go_sem];refine Qc8 ?_;simp only[go_sem,Qarv,hx72];have rest:∀(E1:Env) (b:Bool),insH cs[k].regs x=(!b)→lk 1 E1=.c (.int .i64 k)→lk 3 E1=.c (.pp [.sl fl 3 (Qj cs)])→lk 5 E1=.c (.pp [.int .i64 x.op,.int .i64 x.to,.sl false 1 (Qb x.args),.int .i64 x.n])→lk 7 E1=.c (.ptr x7 0)→lk 23 E1=.c (.bool b)→
   Qam prog (s_l7Ins_3.seq Qart) (Q5 Qafz (unK H K)) E1 H2:=by
  intro E1 b hb l1 l3 l5 l7 l23;refine Qh (Qd l23 ?_ ?_)
  ·intro hc;refine Qa ?_;simp only[go_sem];refine Qk ?_;simp only[go_sem];exact retf false _ (by rw[Qx0,hrg,hb,hc];rfl) (by simp[lk])
  intro hc;rw[hc]at hb;refine Qg ?_;simp only[go_sem];refine Qaa ?_;refine Qaj ?_;simp only[go_sem,l1,l3,l5,l7,hx72];refine⟨Qs (by omega) (by omega),?_⟩;refine Q2p ?_;simp only[go_sem,Qarx,l1,l3,l5,l7,hx72];refine Qc8 ?_;simp only[go_sem,Qarw,l1,l3,l5,l7,hx72];have rest2:∀(E1:Env) (b:Bool),insT cs[k].regs x=(!b)→lk 1 E1=.c (.int .i64 k)→lk 3 E1=.c (.pp [.sl fl 3 (Qj cs)])→lk 5 E1=.c (.pp [.int .i64 x.op,.int .i64 x.to,.sl false 1 (Qb x.args),.int .i64 x.n])→lk 44 E1=.c (.bool b)→
    Qam prog (s_l7Ins_7.seq Qars) (Q5 Qafz (unK H K)) E1 H2:=by
   intro E1 b hb2 l1 l3 l5 l44;refine Qh (Qd l44 ?_ ?_)
   ·intro hc;refine Qa ?_;simp only[go_sem];refine Qk ?_;simp only[go_sem];exact retf false _ (by rw[Qx0,hrg,hb2,hc];simp) (by simp[lk])
   intro hc;rw[hc]at hb2;have hG:Qx0 cs k x=insL cs k x:=by rw[Qx0,hrg,hb,hb2];rfl
   refine Qg ?_;simp only[go_sem];refine Qaa ?_;refine Qa ?_;simp only[go_sem,l1,l3,l5];refine Qh (Qd rfl ?_ ?_)
   ·intro hc;have hop:x.op=14:=of_decide_eq_true hc;rw[insL,if_pos hop]at hG;refine Qaj ?_;simp only[go_sem];refine⟨Qs (by omega) (by omega),?_⟩;refine Qc8 ?_;by_cases hin:0≤x.n∧x.n≤(k:Int)-1
    ·obtain⟨m,hm⟩:=Jn hin.1;have hmk:m<cs.length:=(by omega);have hin':(0≤(m:Int)∧(m:Int)≤(k:Int)-1)=True:=eq_true (by rw[←hm];exact hin);simp only[go_sem,Qx8,hm,hin',hmk,decide_true,Qo,Q0 _ _ hmk,CodeD.cells,Qf];refine Qk ?_;refine retf _ _ ?_ (by simp[lk];rfl);rw[hG,hm,Int.toNat_natCast,Qtf hmk];simp only[hin',decide_true,Bool.true_and];simp[show ((m:Int)≤(k:Int)-1) from by omega]
    ·have hin':decide (0≤x.n∧x.n≤(k:Int)-1)=false:=(by simpa using hin);by_cases hm:x.n.toNat<cs.length
     ·simp only[go_sem,Qx8,hin',Q0 _ _ hm,CodeD.cells];refine Qk ?_;exact retf false _ (by rw[hG,hin'];rfl) (by simp[lk])
     ·have hgd:(Qj cs).getD x.n.toNat []=[]:=by
       rw[Jb,List.getElem?_eq_none (by rw[Qo];omega)];rfl
      simp only[go_sem,Qx8,hin',hgd,List.take_nil,List.headD_nil];refine Qk ?_;exact retf false _ (by rw[hG,hin'];rfl) (by simp[lk])
   ·intro hc;have hop:¬x.op=14:=of_decide_eq_false hc;rw[insL,if_neg hop]at hG;refine Qg ?_;simp only[go_sem];refine Qaj ?_;simp only[go_sem];refine Qbbv ?_;simp only[go_sem,Qajt];refine⟨fun hb=>?_,fun hb=>?_⟩
    ·refine Qc8 ?_;simp only[go_sem,Q14];refine Qk ?_;refine retf _ _ ?_ (by simp[lk];rfl);have hb':(x.args.length:Int)=Qgx x.op:=(by simpa[Qf]using hb);rw[hG];simp[hb',Qf]
    ·simp only[go_sem,Q14,hb];refine Qk ?_;refine retf _ _ ?_ (by simp[lk];rfl);have hb':¬(x.args.length:Int)=Qgx x.op:=(by simpa[Qf]using hb);rw[hG];simp[hb']
  refine⟨fun hb=>?_,fun hb=>?_⟩
  ·refine Q2p ?_;simp only[go_sem,Q7h,l1,l3,l5,l7];refine rest2 _ _ ?_ (by simp[lk]) (by simp[lk]) (by simp[lk]) (by simp[lk];rfl)
   cases hmk:Qb9 x.op with
   |true=>simp[insT,hmk]
   |false=>by_cases h:x.to=-1 <;> simp[insT,hmk,h]
  ·replace hb:=Qh8 hb;simp only[go_sem,Q7h,l1,l3,l5,l7,hb];refine rest2 _ true ?_ (by simp[lk]) (by simp[lk]) (by simp[lk]) (by simp[lk])
   cases hmk:Qb9 x.op with
   |true=>simp[hmk]at hb;simp[insT,hmk];omega
   |false=>simp[hmk]at hb;simp[insT,hmk];omega
 refine⟨fun hb=>?_,fun hb=>?_⟩
 ·refine Qbbx (by omega) (by omega) ?_;simp only[go_sem,Q7g];refine rest _ _ ?_ (by simp[lk]) (by simp[lk]) (by simp[lk]) (by simp[lk]) (by simp[lk];rfl);simp[insH]
 ·replace hb:=Qh8 hb;simp only[go_sem,Q7g,hb];refine rest _ true ?_ (by simp[lk]) (by simp[lk]) (by simp[lk]) (by simp[lk]) (by simp[lk]);rw[insH,Qtc hb];rfl
theorem InsD.take4 (x:InsD):x.cells.take 4=x.cells:=rfl
theorem InsD.allOw (x:InsD):(x.cells.all fun c=>!c.isOw)=true:=rfl
theorem InsD.len4 (x:InsD):x.cells.length=4:=rfl
theorem Qbsn (l:List BlkD)(i:Nat)(h:i<(Qn l).length):∃a1 a2 a3 a4 fl,(Qn l).getD i []=[a1,a2,a3,a4,.sl fl 1 (Qb ((l.map BlkD.next).getD i []))]:=by
 rw[Ql]at h;rw[Q1 _ _ h];have:(l.map BlkD.next).getD i []=l[i].next:=by simp[Jb,h]
 exact⟨.sl false 2 (Q7 l[i].phis),.sl false 4 (Qag l[i].ins),.int .i64 l[i].jump,.int .i64 l[i].on,false,by rw[this];rfl⟩
set_option maxHeartbeats 3000000 in
theorem Qadp {α:Type}{p:α→Bool}{l:List α}{i:Nat}(hi:i<l.length):(l.take (i+1)).all p=((l.take i).all p&&p l[i]):=by
 rw[Jh hi,Jac];simp
theorem Qar6 {α:Type}{p:α→Bool}{l:List α}{i:Nat}(hi:i<l.length)(h:p l[i]=false):l.all p=false:=by
 cases hc:l.all p with
 |false=>rfl
 |true=>rw[J8.1 hc _ (Jc hi)]at h;exact absurd h (by simp)
def Qme (j:Int):Int:=if j=1 then 1 else if j=2 then 2 else if j=3 then 0 else -1
def Qq7 (rg:Int)(y:BlkD):Bool:=decide ((y.next.length:Int)=Qme y.jump)&&if y.jump=1 then decide (y.on=0)else decide (0≤y.on∧y.on≤rg-1)
def Qabf (n:Nat)(x:Int):Bool:=decide (1≤x∧x≤(n:Int)-1)
def phiG (rg:Int)(np b:Nat)(x:PhiD):Bool:=!decide (b=0)&&decide ((x.args.length:Int)=np)&&Qq9 rg x.args&&decide (0≤x.to∧x.to≤rg-1)
def Qsn (cs:List CodeD)(k b:Nat)(q:CodeD)(y:BlkD):Bool:=
 Qq7 q.regs y&&y.next.all (Qabf (Qn q.blocks).length)&&y.ins.all (Qx0 cs k)&&y.phis.all (phiG q.regs (Qav (fun i=>(q.blocks.map BlkD.next).getD i []) (b:Int) (Qn q.blocks).length).length b)
theorem Qbhu {cs:List CodeD}{k b:Nat}{q:CodeD}{y:BlkD}(h:Qsn cs k b q y=true):y.next.length≤2:=by
 simp only[Qsn,Qq7,Bool.and_eq_true,decide_eq_true_eq]at h;have:=h.1.1.1.1;rw[Qme]at this;split at this
 ·omega
 ·split at this
  ·omega
  ·split at this <;> omega
set_option maxHeartbeats 1000000 in
theorem Qbjf {cs:List CodeD}{fl:Bool}{k b:Nat}(hk:k<cs.length)(hbk:b<cs[k].blocks.length)(hr:0≤cs[k].regs)(hr2:cs[k].regs≤300)(hcl:cs.length≤100)(hbl:cs[k].blocks.length≤200)(hK:∀(H':Heap),Upd H H' []→K (.c (.bool (Qsn cs k b cs[k] cs[k].blocks[b]))) H') :
  Qr prog Q5k [.ag [.sl fl 3 (Qj cs)],.c (.int .i64 k),.c (.int .i64 b)] H K:=by
 refine Q3 ?_;refine Qc Qal Qbj3 ?_;have retf:∀(v:Bool) (e:Env) (H':Heap) (L:List (Nat×Obj)),Qsn cs k b cs[k] cs[k].blocks[b]=v→Kn H H' [] L→lk 6 e=.c (.bool v)→Q5 Qmm (unK H K) .ret e H':=by
  intro v e H' L hb kn h3;simp only[go_sem,Q5,Qae,Qmm,Ja,forall_eq,RS.op,h3];rw[←hb];exact⟨_,.c _ _ (Qi rfl),hK _ kn.fin⟩
 refine Qa ?_;simp only[go_sem];refine Qa ?_;simp only[go_sem,hk,Qo,Q0 _ _ hk,CodeD.cells];intro x7 hx7 H1 h1;have kn:=(Kn.start0 H).al hx7 h1;have hx71:=kn.l 0 rfl;simp only[go_sem,Qaaj,hx71];intro H2 h2;have kn:=kn.stL 0 rfl h2;have hx72:=kn.l 0 rfl;refine Qa ?_;simp only[go_sem,hx72,hbk,Ql,Q1 _ _ hbk,BlkD.cells];obtain⟨y,hy⟩:∃y,cs[k].blocks[b]=y:=⟨_,rfl⟩;rw[hy];intro x8 hx8 H3 h3;have kn:=kn.al hx8 h3;have hx83:=kn.l 1 rfl;simp only[go_sem,Qaak,hx83];intro H4 h4;have kn:Kn H H4 [] [(x7,.st [.int .i64 cs[k].params,.int .i64 cs[k].regs,.sl false 5 (Qn cs[k].blocks)]),(x8,.st [.sl false 2 (Q7 y.phis),.sl false 4 (Qag y.ins),.int .i64 y.jump,.int .i64 y.on,.sl false 1 (Qb y.next)])]:=kn.stL 1 rfl h4;obtain⟨q,hq⟩:∃q,cs[k]=q:=⟨_,rfl⟩;have hGe:Qsn cs k b cs[k] cs[k].blocks[b]=Qsn cs k b q y:=by rw[hy,hq]
 rw[hGe]at retf;rw[hq]at kn hr hr2 hbk hbl;generalize hnp:(Qav (fun i=>(q.blocks.map BlkD.next).getD i []) (b:Int) (Qn q.blocks).length).length=np;have hGd:Qsn cs k b q y=(Qq7 q.regs y&&y.next.all (Qabf (Qn q.blocks).length)&&y.ins.all (Qx0 cs k)&&y.phis.all (phiG q.regs np b)):=by rw[Qsn,hnp]
 refine Qa ?_;simp only[go_sem];have hx74:=kn.l 0 rfl;have hx84:=kn.l 1 rfl;refine Qaa ?_;refine Qa ?_;simp only[go_sem,hx84];have rest31:∀(want:Int) (E1:Env),Qme y.jump=want→(y.jump=1→y.on=0)→lk 1 E1=.c (.int .i64 k)→lk 2 E1=.c (.int .i64 b)→lk 3 E1=.c (.pp [.sl fl 3 (Qj cs)])→lk 7 E1=.c (.ptr x7 0)→lk 8 E1=.c (.ptr x8 0)→lk 9 E1=.c (.int .i64 want)→
   Qam prog Qaai (Q5 Qmm (unK H K)) E1 H4:=by
  intro want E1 hw hjo l1 l2 l3 l7 l8 l9;refine Qaa ?_;refine Qa ?_;simp only[go_sem,l1,l2,l3,l7,l8,l9,hx74,hx84,Qf];intro hnl;simp only[LIM]at hnl;refine⟨fun _=>Qs (by omega) (by omega),?_⟩;have rest8:∀(b1:Bool) (E1:Env),Qq7 q.regs y=(!b1)→lk 1 E1=.c (.int .i64 k)→lk 2 E1=.c (.int .i64 b)→lk 3 E1=.c (.pp [.sl fl 3 (Qj cs)])→lk 7 E1=.c (.ptr x7 0)→lk 8 E1=.c (.ptr x8 0)→lk 53 E1=.c (.bool b1)→
    Qam prog (s_l7Block_8.seq Qaah) (Q5 Qmm (unK H K)) E1 H4:=by
   intro b1 E1 hn2 l1 l2 l3 l7 l8 l53;refine Qh (Qd l53 ?_ ?_)
   ·intro hc;refine Qa ?_;simp only[go_sem];refine Qk ?_;simp only[go_sem];exact retf false _ _ _ (by rw[hGd,hn2,hc];simp) kn (by simp[lk])
   intro hbf;rw[hbf]at hn2;refine Qg ?_;simp only[go_sem];refine Qaa ?_;refine Qa ?_;simp only[go_sem,l1,l2,l3,l7,l8];refine Qh (Qe (Qx (fun n e1 H1=>∃(i:Nat),n=y.next.length-i∧i≤y.next.length∧H1=H4∧(y.next.take i).all (Qabf (Qn q.blocks).length)=true∧e1=[(1,.c (.int .i64 k)),(2,.c (.int .i64 b)),(3,.c (.pp [.sl fl 3 (Qj cs)])),(7,.c (.ptr x7 0)),(8,.c (.ptr x8 0)),(10,.c (.int .i64 i))]) y.next.length ?_ ?_))
   ·exact⟨0,by omega,by omega,rfl,rfl,rfl⟩
   ·rintro n e1 H1 ⟨i,hn1,hi,rfl,hall1,rfl⟩;refine Qaa ?_;refine Qa ?_;simp only[go_sem,hx84,Qf];refine fun _=>?_;refine Qh (Qd rfl ?_ ?_)
    ·intro hc;have hlt:i<y.next.length:=(by simpa using hc);have hgd:y.next.getD i 0=y.next[i]:=(by simp[Jb,hlt]);have hng:Qabf (Qn q.blocks).length y.next[i]=decide (1≤y.next.getD i 0∧y.next.getD i 0≤(q.blocks.length:Int)-1):=(by rw[hgd,Qabf,Ql]);refine Qg ?_;simp only[go_sem];refine Qh (Qe ?_);refine Qaj ?_;simp only[go_sem,hx84,hx74,hlt,Qf,Qu _ _ hlt,Ql];refine⟨Qs (by omega) (by omega),?_⟩;refine Qc8 ?_;simp only[go_sem,Qaal];refine Qd rfl ?_ ?_
     ·intro hc2;refine Qa ?_;simp only[go_sem];refine Qk ?_;simp only[go_sem,X.next];exact retf false _ _ _ (by rw[hGd,Qar6 hlt (by rw[hng];exact Qtc hc2)];simp) kn (by simp[lk])
     ·intro hc2;refine Qg ?_;simp only[go_sem];refine Qt ?_;simp only[go_sem,X.next];exact⟨Qs (by omega) (by omega),y.next.length-(i+1),by omega,i+1,rfl,by omega,by rw[Qadp hlt,←Ql q.blocks,hall1,hng,Qh8 hc2];rfl,rfl⟩
    ·intro hc;have hge:y.next.length≤i:=(by simpa using hc);rw[Jd hge]at hall1;refine Qw ?_;simp only[go_sem,X.next];refine Qaa ?_;refine Qa ?_;simp only[go_sem];refine Qh (Qe (Qx (fun n e1 H1=>∃(i:Nat),n=y.ins.length-i∧i≤y.ins.length∧Kn H H1 [] [(x7,.st [.int .i64 q.params,.int .i64 q.regs,.sl false 5 (Qn q.blocks)]),(x8,.st [.sl false 2 (Q7 y.phis),.sl false 4 (Qag y.ins),.int .i64 y.jump,.int .i64 y.on,.sl false 1 (Qb y.next)])]∧(y.ins.take i).all (Qx0 cs k)=true∧
      e1=[(1,.c (.int .i64 k)),(2,.c (.int .i64 b)),(3,.c (.pp [.sl fl 3 (Qj cs)])),(7,.c (.ptr x7 0)),(8,.c (.ptr x8 0)),(11,.c (.int .i64 i))]) y.ins.length ?_ ?_))
     ·exact⟨0,by omega,by omega,kn,rfl,rfl⟩
     ·rintro n e1 H5 ⟨i,hn1,hi,kn,hall2,rfl⟩;have hx75:=kn.l 0 rfl;have hx85:=kn.l 1 rfl;refine Qaa ?_;refine Qa ?_;simp only[go_sem,hx85,Q4];intro hil;simp only[LIM]at hil;refine Qh (Qd rfl ?_ ?_)
      ·intro hc;have hlt:i<y.ins.length:=(by simpa using hc);refine Qg ?_;simp only[go_sem];refine Qh (Qe ?_);refine Qaj ?_;simp only[go_sem,hx85,hx75,hlt,Q4,Qbd _ _ hlt,InsD.take4,InsD.allOw,InsD.len4];refine Qbts hk (by rw[hq];omega) (by rw[hq];omega) hcl fun H6 hu=>?_;have kn:=kn.call0 hu;simp only[go_sem,Q4p];refine Qd rfl ?_ ?_
       ·intro hc2;refine Qa ?_;simp only[go_sem];refine Qk ?_;simp only[go_sem,X.next];exact retf false _ _ _ (by rw[hGd,Qar6 hlt (Qtc hc2)];simp) kn (by simp[lk])
       ·intro hc2;refine Qg ?_;simp only[go_sem];refine Qt ?_;simp only[go_sem,X.next];exact⟨Qs (by omega) (by omega),y.ins.length-(i+1),by omega,i+1,rfl,by omega,kn,by rw[Qadp hlt,hall2,Qh8 hc2];rfl,rfl⟩
      ·intro hc;have hge:y.ins.length≤i:=(by simpa using hc);rw[Jd hge]at hall2;refine Qw ?_;simp only[go_sem,X.next];refine Qa ?_;simp only[go_sem,hx75];refine Qae3 (rows:=Qn q.blocks) (nx:=fun i=>(q.blocks.map BlkD.next).getD i []) (.mk' _ _ _ _) rfl (Qbsn q.blocks) fun H6 hu=>?_;have kn:=kn.call0 hu;simp only[go_sem,Q4q];refine Qaa ?_;refine Qa ?_;simp only[go_sem];obtain⟨ps,hps⟩:∃ps,Qav (fun i=>(q.blocks.map BlkD.next).getD i []) (b:Int) (Qn q.blocks).length=ps:=⟨_,rfl⟩;rw[hps];rw[hps]at hnp;have hx76:=kn.l 0 rfl;have hx86:=kn.l 1 rfl;refine Qh (Qe (Qx (fun n e1 H1=>∃(i:Nat),n=y.phis.length-i∧i≤y.phis.length∧H1=H6∧(y.phis.take i).all (phiG q.regs np b)=true∧
        e1=[(2,.c (.int .i64 b)),(7,.c (.ptr x7 0)),(8,.c (.ptr x8 0)),(12,.c (.sl false 1 (Qb ps))),(13,.c (.int .i64 i))]) y.phis.length ?_ ?_))
       ·exact⟨0,by omega,by omega,rfl,rfl,rfl⟩
       ·rintro n e1 H7 ⟨i,hn1,hi,rfl,hall3,rfl⟩;refine Qaa ?_;refine Qa ?_;simp only[go_sem,hx86,Qv];intro hpl;simp only[LIM]at hpl;refine Qh (Qd rfl ?_ ?_)
        ·intro hc;have hlt:i<y.phis.length:=(by simpa using hc);refine Qg ?_;simp only[go_sem];refine Qh (Qe ?_);have fin:∀(b3:Bool) (E1:Env),phiG q.regs np b y.phis[i]=(!b3)→lk 2 E1=.c (.int .i64 b)→lk 7 E1=.c (.ptr x7 0)→lk 8 E1=.c (.ptr x8 0)→lk 12 E1=.c (.sl false 1 (Qb ps))→lk 13 E1=.c (.int .i64 i)→lk 135 E1=.c (.bool b3)→
           Qam prog Qaae (X.inBlock 6 (X.sq prog Qaaf (X.next (fun e2 H2=>∃m,m<n∧∃(i:Nat),m=y.phis.length-i∧i≤y.phis.length∧H2=H7∧(y.phis.take i).all (phiG q.regs np b)=true∧
            e2=[(2,.c (.int .i64 b)),(7,.c (.ptr x7 0)),(8,.c (.ptr x8 0)),(12,.c (.sl false 1 (Qb ps))),(13,.c (.int .i64 i))]) (X.inBlock 5 (X.sq prog Qaag (Q5 Qmm (unK H K))))))) E1 H7:=by
          intro b3 E1 hph l2 l7 l8 l12 l13 l135;refine Qd l135 ?_ ?_
          ·intro hc2;refine Qa ?_;simp only[go_sem];refine Qk ?_;simp only[go_sem,X.next];exact retf false _ _ _ (by rw[hGd,Qar6 hlt (by rw[hph,hc2];rfl)];simp) kn (by simp[lk])
          ·intro hc2;refine Qg ?_;simp only[go_sem];refine Qt ?_;simp only[go_sem,X.next,l2,l7,l8,l12,l13];exact⟨Qs (by omega) (by omega),y.phis.length-(i+1),by omega,i+1,rfl,by omega,by rw[Qadp hlt,hall3,hph,hc2];rfl,rfl⟩
         refine Qaj ?_;simp only[go_sem,hx86,hx76,hlt,Qv,Qau _ _ hlt,PhiD.cells,Qf];refine⟨fun hb1=>?_,fun hb1=>?_⟩
         ·refine Qbbx (by omega) (by omega) ?_;simp only[go_sem,Qot,hx86,hx76,hlt,Qv,Qau _ _ hlt,PhiD.cells];refine⟨fun _=>Qs (by omega) (by omega),?_⟩;refine⟨fun hb2=>?_,fun hb2=>?_⟩
          ·refine Qc8 ?_;simp only[go_sem,Qie];refine fin _ _ ?_ (by simp[lk]) (by simp[lk]) (by simp[lk]) (by simp[lk]) (by simp[lk]) (by simp[lk];rfl);simp[phiG,←hnp]
          ·replace hb2:=Qh8 hb2;simp only[go_sem,Qie,hb2];refine fin true _ ?_ (by simp[lk]) (by simp[lk]) (by simp[lk]) (by simp[lk]) (by simp[lk]) (by simp[lk]);subst hnp;simp at hb2;simp[phiG];intro h1 h2 h3;simp[h1,h2,h3]at hb2
         ·replace hb1:=Qh8 hb1;simp only[go_sem,Qot,Qie,hb1,hx86,hx76,hlt,Qv,Qau _ _ hlt,PhiD.cells];refine fin true _ ?_ (by simp[lk]) (by simp[lk]) (by simp[lk]) (by simp[lk]) (by simp[lk]) (by simp[lk]);subst hnp;simp at hb1;simp[phiG];intro h1 h2 h3;simp[h1,h2]at hb1
        ·intro hc;have hge:y.phis.length≤i:=(by simpa using hc);rw[Jd hge]at hall3;refine Qw ?_;simp only[go_sem,X.next];refine Qa ?_;simp only[go_sem];refine Qk ?_;exact retf true _ _ _ (by rw[hGd,hn2,hall1,hall2,hall3];rfl) kn (by simp[lk])
  refine⟨fun hb1=>?_,fun hb1=>?_⟩
  ·refine Qc8 ?_;simp only[go_sem,Qky,hb1,l1,l2,l3,l7,l8];refine rest8 _ _ ?_ (by simp[lk]) (by simp[lk]) (by simp[lk]) (by simp[lk]) (by simp[lk]) (by simp[lk];rfl);by_cases hlw:(y.next.length:Int)=want
   ·by_cases hj:y.jump=1
    ·simp[hlw,hj]at hb1
    ·simp[Qq7,hw,hlw,hj]
   ·simp[hlw]at hb1
  ·by_cases hlw:(y.next.length:Int)=want
   ·by_cases hj:y.jump=1
    ·simp only[go_sem,Qky,hlw,hj,l1,l2,l3,l7,l8,decide_true,decide_false,cond_true,cond_false];have hw1:Qme 1=want:=(by rw[←hj];exact hw);refine rest8 _ _ ?_ (by simp[lk]) (by simp[lk]) (by simp[lk]) (by simp[lk]) (by simp[lk]) (by simp[lk];rfl);simp[Qq7,hw1,hlw,hj,hjo hj]
    ·simp[hlw,hj]at hb1
   ·simp only[go_sem,Qky,hlw,l1,l2,l3,l7,l8,decide_true,decide_false,cond_true,cond_false];by_cases hj:y.jump=1
    ·simp only[go_sem,hj,decide_true,decide_false,cond_true,cond_false];exact rest8 true _ (by simp[Qq7,hw,hlw]) (by simp[lk]) (by simp[lk]) (by simp[lk]) (by simp[lk]) (by simp[lk]) (by simp[lk])
    ·simp only[go_sem,hj,decide_true,decide_false,cond_true,cond_false];exact rest8 true _ (by simp[Qq7,hw,hlw]) (by simp[lk]) (by simp[lk]) (by simp[lk]) (by simp[lk]) (by simp[lk]) (by simp[lk])
 refine Qh (Qe ?_);refine Qa ?_;simp only[go_sem];refine Qd rfl ?_ ?_
 ·intro hc;refine Qa ?_;simp only[go_sem,hx84];refine Qd rfl ?_ ?_
  ·intro hc2;refine Qa ?_;simp only[go_sem];refine Qk ?_;simp only[go_sem];exact retf false _ _ _ (by simp at hc hc2;rw[hGd];simp[Qq7,hc,hc2]) kn (by simp[lk])
  ·intro hc2;refine Qg ?_;simp only[go_sem];exact rest31 1 _ (by simp at hc;simp[Qme,hc]) (fun _=>by simpa using hc2) (by simp[lk]) (by simp[lk]) (by simp[lk]) (by simp[lk]) (by simp[lk]) (by simp[lk])
 intro hc1;refine Qa ?_;simp only[go_sem];refine Qd rfl ?_ ?_
 ·intro hc;refine Qt ?_;simp only[go_sem];exact rest31 2 _ (by simp at hc;simp[Qme,hc]) (fun h=>by simp at hc1;exact absurd h hc1) (by simp[lk]) (by simp[lk]) (by simp[lk]) (by simp[lk]) (by simp[lk]) (by simp[lk])
 intro hc2;refine Qa ?_;simp only[go_sem];refine Qd rfl ?_ ?_
 ·intro hc;refine Qt ?_;simp only[go_sem];exact rest31 0 _ (by simp at hc;simp[Qme,hc]) (fun h=>by simp at hc1;exact absurd h hc1) (by simp[lk]) (by simp[lk]) (by simp[lk]) (by simp[lk]) (by simp[lk]) (by simp[lk])
 ·intro hc;refine Qa ?_;simp only[go_sem];refine Qk ?_;simp only[go_sem];exact retf false _ _ _ (by simp at hc1 hc2 hc;rw[hGd];simp[Qq7,Qme,hc1,hc2,hc]) kn (by simp[lk])
set_option maxHeartbeats 3000000 in
theorem Qast {b:BlkD}(hb:b.sg)(hK:∀(o:OBlk) (H':Heap),Kn H H' [] o.lg→o.ok→o.d=b→(∀p∈o.phis,p.own)→K (.ag o.row) H'):Qr prog Qk9 [.ag b.cells] H K:=by
 have hbn:=hb.n;have hbi:=hb.i;have hbp:=hb.p;refine Qem ?_;refine Qc Qal Qas9 ?_;refine Qa ?_;simp only[go_sem,BlkD.cells];intro x2 hx2 H1 h1;have kn:=(Kn.start0 H).al hx2 h1;refine Qaj ?_;simp only[go_sem,Qf,Jq,Ji];refine⟨.inl trivial,Qz _,by simp only[LIM];omega,fun y hy H2 h2=>?_⟩;have kn:=kn.al hy h2;simp only[go_sem,Qqa];intro x3 hx3 H3 h3;have kn:=kn.al hx3 h3;have hx33:=kn.l 2 rfl;simp only[go_sem,Qp9,hx33];intro H4 h4;have kn:=kn.stL 2 rfl h4;obtain⟨nx,hnx⟩:∃nx:OInts,nx=⟨b.next,y⟩:=⟨_,rfl⟩;have hnc:C.vsl y 1 0 b.next.length=nx.c:=by rw[hnx];rfl
 have hnl:[(y,Obj.vec 1 (Qb b.next))]=nx.lg:=by rw[hnx];rfl
 rw[hnc]at kn;have kn:Kn H H4 [] ([(x2,.st [.sl true 2 [],.sl true 4 [],.int .i64 0,.int .i64 0,.sl true 1 []]),(x3,.st [.sl true 2 [],.sl true 4 [],.int .i64 b.jump,.int .i64 b.on,nx.c])]++nx.lg):=kn.perm (by
  rw[←hnl];exact .cons _ (.swap _ _ _))
 refine Qaa ?_;refine Qa ?_;simp only[go_sem];refine Qh (Qe (Qx (fun n e1 H1=>∃(i:Nat) (ps:List OPhi) (pc:C) (pl:List (Nat×Obj)),n=b.phis.length-i∧i≤b.phis.length∧ps.map OPhi.d=b.phis.take i∧(∀p∈ps,p.own)∧Gr pl 2 (ps.map OPhi.row) pc∧
  Kn H H1 [] (([(x2,.st [.sl true 2 [],.sl true 4 [],.int .i64 0,.int .i64 0,.sl true 1 []]),(x3,.st [pc,.sl true 4 [],.int .i64 b.jump,.int .i64 b.on,nx.c])]++(nx.lg++ps.flatMap OPhi.lg))++pl)∧
  e1=[(1,.c (.pp [.sl false 2 (Q7 b.phis),.sl false 4 (Qag b.ins),.int .i64 b.jump,.int .i64 b.on,.sl false 1 (Qb b.next)])),(2,.c (.ptr x2 0)),(3,.c (.ptr x3 0)),(4,.c (.int .i64 i))]) b.phis.length ?_ ?_))
 ·exact⟨0,[],_,[],by omega,by omega,rfl,by simp,.nil 2,by simpa using kn,rfl⟩
 ·rintro n e1 H1 ⟨i,ps,pc,pl,hn1,hi,hpsd,hpsok,hgr,kn,rfl⟩;have hpsl:ps.length=i:=by have:=congrArg List.length hpsd;rw[Jk,J2]at this;omega
  have hpcow:=hgr.isOw;refine Qaa ?_;refine Qa ?_;simp only[go_sem,Qv];intro hl;refine Qh (Qd rfl ?_ ?_)
  ·intro hc;have hlt:i<b.phis.length:=by simpa using hc
   have hpa:=hb.pa _ (Jc hlt);have hx31:=kn.l 1 rfl;refine Qg ?_;simp only[go_sem];refine Qh (Qe (Qbn ?_));simp only[go_sem,hx31,hpcow,hlt,Qv,Qau _ _ hlt,PhiD.cells,Qf,Jq,Ji];refine⟨.inl trivial,Qz _,by simp only[LIM];omega,fun a ha H5 h5=>?_⟩;have kn:=kn.al ha h5;have hx35:=kn.l 1 rfl;simp only[go_sem,Qqc,hx35,hpcow,hlt,Qv,Qau _ _ hlt,PhiD.cells];obtain⟨o,ho⟩:∃o:OPhi,o=⟨b.phis[i].to,b.phis[i].args,.vsl a 1 0 b.phis[i].args.length,[(a,.vec 1 (Qb b.phis[i].args))]⟩:=⟨_,rfl⟩;have hoow:o.own:=by rw[ho];exact⟨a,rfl,rfl⟩
   have hook:o.ok:=.inl hoow;have hor:[C.int IntKind.i64 b.phis[i].to,C.vsl a 1 0 b.phis[i].args.length]=o.row:=by rw[ho];rfl
   have hol:[(a,Obj.vec 1 (Qb b.phis[i].args))]=o.lg:=by rw[ho]
   rw[hor];rw[hol]at kn;have kn:=kn.perm Qax5;refine kn.grow (new:=[o.row]) hgr (.mk' _ _ _ _) (by intro r hr;simp only[Ja]at hr;subst hr;exact o.noOw hook) (by simp only[Jk,Jj,Jo,LIM];omega) fun z H6 kn=>?_;have kn:Kn H H6 [] (([(x2,.st [.sl true 2 [],.sl true 4 [],.int .i64 0,.int .i64 0,.sl true 1 []]),(x3,.st [pc,.sl true 4 [],.int .i64 b.jump,.int .i64 b.on,nx.c])]++(nx.lg++(ps++[o]).flatMap OPhi.lg))++[(z,.vec 2 ((ps++[o]).map OPhi.row))]):=by
    simpa[Js,Jg]using kn
   have hx36:=kn.l 1 rfl;simp only[go_sem,Qqb,hx36];intro H7 h7;have kn:=kn.stL 1 rfl h7;refine Qt ?_;simp only[go_sem,X.next];simp only[LIM]at hl;refine⟨Qs (by omega) (by omega),b.phis.length-(i+1),by omega,i+1,ps++[o],_,_,rfl,by omega,by rw[Ju,hpsd,Jh hlt,ho];rfl,fun p hp=>?_,?_,kn,rfl⟩
   ·rcases Jm.1 hp with h|h
    ·exact hpsok p h
    ·simp only[Ja]at h;subst h;exact hoow
   ·exact .mk _ _ _ (by simp)
  ·intro hc;have hpsd':ps.map OPhi.d=b.phis:=by rw[hpsd,Jd (by simpa using hc)]
   refine Qw ?_;simp only[go_sem,X.next];refine Qaa ?_;refine Qa ?_;simp only[go_sem];refine Qh (Qe (Qx (fun n e1 H1=>∃(i:Nat) (is:List OIns) (ic:C) (il:List (Nat×Obj)),n=b.ins.length-i∧i≤b.ins.length∧is.map OIns.d=b.ins.take i∧(∀x∈is,x.a.ns.length≤1000000)∧Gr il 4 (is.map OIns.row) ic∧
    Kn H H1 [] (([(x2,.st [.sl true 2 [],.sl true 4 [],.int .i64 0,.int .i64 0,.sl true 1 []]),(x3,.st [pc,ic,.int .i64 b.jump,.int .i64 b.on,nx.c])]++(nx.lg++(ps.flatMap OPhi.lg++(pl++is.flatMap OIns.lg))))++il)∧
    e1=[(1,.c (.pp [.sl false 2 (Q7 b.phis),.sl false 4 (Qag b.ins),.int .i64 b.jump,.int .i64 b.on,.sl false 1 (Qb b.next)])),(2,.c (.ptr x2 0)),(3,.c (.ptr x3 0)),(5,.c (.int .i64 i))]) b.ins.length ?_ ?_))
   ·exact⟨0,[],_,[],by omega,by omega,rfl,by simp,.nil 4,by simpa[Jg]using kn,rfl⟩
   ·rintro n e1 H1 ⟨i,is,ic,il,hn1,hi,hisd,hisa,hgi,kn,rfl⟩;have hisl:is.length=i:=(by have:=congrArg List.length hisd;rw[Jk,J2]at this;omega);have hicow:=hgi.isOw;refine Qaa ?_;refine Qa ?_;simp only[go_sem,Q4];intro hl;refine Qh (Qd rfl ?_ ?_)
    ·intro hc;have hlt:i<b.ins.length:=(by simpa using hc);have hia:=hb.ia _ (Jc hlt);refine Qg ?_;simp only[go_sem];refine Qh (Qe ?_);refine Qa ?_;simp only[go_sem,hlt,Q4,Qbd _ _ hlt,InsD.cells];intro x6 hx6 H5 h5;have kn:=kn.al hx6 h5;have kn:=kn.perm (Jf (l₁:=_) (l₂:=[(x6,_)]));have hx65:=kn.l 0 rfl;simp only[go_sem,Qqd,hx65];intro H6 h6;have kn:=kn.stL 0 rfl h6;have hx66:=kn.l 0 rfl;have hx36:=kn.l 2 rfl;refine Qbn ?_;simp only[go_sem,hx66,hx36,hicow,Qf,Jq,Ji];refine⟨.inl trivial,Qz _,by simp only[LIM];omega,fun a ha H7 h7=>?_⟩;have kn:=kn.al ha h7;have hx67:=kn.l 0 rfl;have hx37:=kn.l 2 rfl;simp only[go_sem,Qqf,hx67,hx37,hicow];obtain⟨o,ho⟩:∃o:OIns,o=⟨b.ins[i].op,b.ins[i].to,⟨b.ins[i].args,a⟩,b.ins[i].n⟩:=⟨_,rfl⟩;have hor:[C.int IntKind.i64 b.ins[i].op,C.int IntKind.i64 b.ins[i].to,C.vsl a 1 0 b.ins[i].args.length,C.int IntKind.i64 b.ins[i].n]=o.row:=(by rw[ho];rfl);have hol:[(a,Obj.vec 1 (Qb b.ins[i].args))]=o.lg:=(by rw[ho];rfl);rw[hor];rw[hol]at kn;have kn:Kn H H7 [] ((([(x2,.st [.sl true 2 [],.sl true 4 [],.int .i64 0,.int .i64 0,.sl true 1 []]),(x3,.st [pc,ic,.int .i64 b.jump,.int .i64 b.on,nx.c])]++(nx.lg++(ps.flatMap OPhi.lg++(pl++is.flatMap OIns.lg))))++il)++o.lg):=by
      have kn:=kn.perm (Jf (l₁:=[(x6,_)]) (l₂:=_));exact kn.drop
     have kn:=kn.perm Qax5;refine kn.grow (new:=[o.row]) hgi (.mk' _ _ _ _) (by simp[o.noOw]) (by simp only[Jk,Jj,Jo,LIM];omega) fun z H8 kn=>?_;have kn:Kn H H8 [] (([(x2,.st [.sl true 2 [],.sl true 4 [],.int .i64 0,.int .i64 0,.sl true 1 []]),(x3,.st [pc,ic,.int .i64 b.jump,.int .i64 b.on,nx.c])]++(nx.lg++(ps.flatMap OPhi.lg++(pl++(is++[o]).flatMap OIns.lg))))++[(z,.vec 4 ((is++[o]).map OIns.row))]):=by
      simpa[Js,Jg]using kn
     have hx38:=kn.l 1 rfl;simp only[go_sem,Qqe,hx38];intro H9 h9;have kn:=kn.stL 1 rfl h9;refine Qt ?_;simp only[go_sem,X.next];simp only[LIM]at hl;refine⟨Qs (by omega) (by omega),b.ins.length-(i+1),by omega,i+1,is++[o],_,_,rfl,by omega,by rw[Ju,hisd,Jh hlt,ho];rfl,fun x hx=>?_,?_,kn,rfl⟩
     ·rcases Jm.1 hx with hx|hx
      ·exact hisa x hx
      ·simp only[Ja]at hx;rw[hx,ho];exact hia
     ·exact .mk _ _ _ (by simp)
    ·intro hc;have hisd':is.map OIns.d=b.ins:=(by rw[hisd,Jd (by simpa using hc)]);have hx21:=kn.l 0 rfl;have hx31:=kn.l 1 rfl;refine Qw ?_;simp only[go_sem,X.next];have hnow:nx.c.isOw=false:=rfl;refine Qa ?_;simp only[go_sem,hx21,hx31,hpcow,hicow,hnow];intro H5 h5;have kn:=kn.stL 0 rfl h5;have hx25:=kn.l 0 rfl;refine Qk ?_;simp only[go_sem,Q5,Qae,Q25,reduceIte,Ja,forall_eq,RS.op,hx25,hpcow,hicow,hnow];obtain⟨o,ho⟩:∃o:OBlk,o=⟨ps,pc,pl,is,ic,il,b.jump,b.on,nx⟩:=⟨_,rfl⟩;have hok:o.ok:=(by rw[ho];exact⟨hgr,hgi,fun p hp=>.inl (hpsok p hp)⟩);have hod:o.d=b:=by
      rw[ho];show BlkD.mk (ps.map OPhi.d) (is.map OIns.d) b.jump b.on nx.ns=b;rw[hpsd',hisd',hnx]
     have kn:Kn H H5 [] ([(x2,.st [pc,ic,.int .i64 b.jump,.int .i64 b.on,nx.c]),(x3,.st [pc,ic,.int .i64 b.jump,.int .i64 b.on,nx.c])]++o.lg):=by
      rw[ho];simpa[OBlk.lg,Jg]using kn
     refine⟨unx H o.lg,.ag o.row,H5.frz (unx H o.lg),?_,Qd1 _ _,hK o _ kn.finK hok hod (by rw[ho];exact hpsok)⟩;rw[ho];exact FrzL.ag (.cons (.same _ hpcow) (.cons (.same _ hicow) (.cons (Qi rfl) (.cons (Qi rfl) (.cons (.same _ hnow) .nil)))))
theorem BlkD.take5 (x:BlkD):x.cells.take 5=x.cells:=rfl
theorem BlkD.allOw (x:BlkD):(x.cells.all fun c=>!c.isOw)=true:=rfl
theorem BlkD.len5 (x:BlkD):x.cells.length=5:=rfl
theorem CodeD.take3 (x:CodeD):x.cells.take 3=x.cells:=rfl
theorem CodeD.allOw (x:CodeD):(x.cells.all fun c=>!c.isOw)=true:=rfl
theorem CodeD.len3 (x:CodeD):x.cells.length=3:=rfl
theorem OBlk.len5 (x:OBlk):x.row.length=5:=rfl
theorem OCode.len3 (x:OCode):x.row.length=3:=rfl
set_option maxHeartbeats 2000000 in
theorem Qbbw {q:CodeD}(hq:q.sg)(hK:∀(o:OCode) (H':Heap),Kn H H' [] o.lg→o.ok→o.d=q→(∀b∈o.blocks,∀p∈b.phis,p.own)→K (.ag o.row) H'):Qr prog Ql6 [.ag q.cells] H K:=by
 have hqb:=hq.b;refine Qem ?_;refine Qc Qal Qbpb ?_;refine Qa ?_;simp only[go_sem,CodeD.cells];intro x2 hx2 H1 h1;have kn:=(Kn.start0 H).al hx2 h1;refine Qa ?_;simp only[go_sem];intro x3 hx3 H2 h2;have kn:=kn.al hx3 h2;have hx32:=kn.l 1 rfl;simp only[go_sem,Qajq,hx32];intro H3 h3;have kn:=kn.stL 1 rfl h3;refine Qaa ?_;refine Qa ?_;simp only[go_sem];refine Qh (Qe (Qx (fun n e1 H1=>∃(i:Nat) (os:List OBlk) (bc:C) (bl:List (Nat×Obj)),n=q.blocks.length-i∧i≤q.blocks.length∧os.map OBlk.d=q.blocks.take i∧(∀o∈os,o.ok∧∀p∈o.phis,p.own)∧Gr bl 5 (os.map OBlk.row) bc∧
  Kn H H1 [] (([(x2,.st [.int .i64 0,.int .i64 0,.sl true 5 []]),(x3,.st [.int .i64 q.params,.int .i64 q.regs,bc])]++os.flatMap OBlk.lg)++bl)∧
  e1=[(1,.c (.pp [.int .i64 q.params,.int .i64 q.regs,.sl false 5 (Qn q.blocks)])),(2,.c (.ptr x2 0)),(3,.c (.ptr x3 0)),(4,.c (.int .i64 i))]) q.blocks.length ?_ ?_))
 ·exact⟨0,[],_,[],by omega,by omega,rfl,by simp,.nil 5,by simpa using kn,rfl⟩
 ·rintro n e1 H1 ⟨i,os,bc,bl,hn1,hi,hod,hok,hgr,kn,rfl⟩;have hol:os.length=i:=by have:=congrArg List.length hod;rw[Jk,J2]at this;omega
  have hbow:=hgr.isOw;have hx31:=kn.l 1 rfl;refine Qaa ?_;refine Qa ?_;simp only[go_sem,Ql];intro hl;simp only[LIM]at hl;refine Qh (Qd rfl ?_ ?_)
  ·intro hc;have hlt:i<q.blocks.length:=by simpa using hc
   refine Qg ?_;simp only[go_sem];refine Qh (Qe (Qbn ?_));simp only[go_sem,hx31,hbow,hlt,Ql,Q1 _ _ hlt,BlkD.take5,BlkD.allOw,BlkD.len5];refine Qast (hq.bs _ (Jc hlt)) fun o H4 k2 hoo hbd hoow=>?_;have kn:=kn.comp0 k2;have hx34:=kn.l 1 rfl;simp only[go_sem,Qajs,hx34,hbow,o.len5];have kn:=kn.perm Qax5;refine kn.grow (new:=[o.row]) hgr (.mk' _ _ _ _) (by intro r hr;simp only[Ja]at hr;subst hr;exact o.noOw hoo) (by simp only[Jk,Jj,Jo,LIM];omega) fun z H5 kn=>?_;have kn:Kn H H5 [] (([(x2,.st [.int .i64 0,.int .i64 0,.sl true 5 []]),(x3,.st [.int .i64 q.params,.int .i64 q.regs,bc])]++(os++[o]).flatMap OBlk.lg)++[(z,.vec 5 ((os++[o]).map OBlk.row))]):=by
    simpa[Js,Jg]using kn
   have hx35:=kn.l 1 rfl;simp only[go_sem,Qajr,hx35];intro H6 h6;have kn:=kn.stL 1 rfl h6;refine Qt ?_;simp only[go_sem,X.next];refine⟨Qs (by omega) (by omega),q.blocks.length-(i+1),by omega,i+1,os++[o],_,_,rfl,by omega,by rw[Ju,hod,Jh hlt,Jaf,Jag,hbd],fun o' ho'=>?_,.mk _ _ _ (by simp),kn,rfl⟩;rcases Jm.1 ho' with h|h
   ·exact hok o' h
   ·simp at h;subst h;exact⟨hoo,hoow⟩
  ·intro hc;have hge:q.blocks.length≤i:=by simpa using hc
   have hx21:=kn.l 0 rfl;refine Qw ?_;simp only[go_sem,X.next];refine Qa ?_;simp only[go_sem,hx31,hx21,hbow];intro H4 h4;have kn:=kn.stL 0 rfl h4;have hx24:=kn.l 0 rfl;refine Qk ?_;simp only[go_sem,Q5,Qae,Qbcc,reduceIte,Ja,forall_eq,RS.op,hx24,hbow];obtain⟨o,ho⟩:∃o:OCode,o=⟨q.params,q.regs,os,bc,bl⟩:=⟨_,rfl⟩;have hod:o.d=q:=by
    rw[ho];show CodeD.mk q.params q.regs (os.map OBlk.d)=q;rw[hod,Jd hge]
   have how':∀b∈o.blocks,∀p∈b.phis,p.own:=by rw[ho];exact fun b hb=>(hok b hb).2
   have hok:o.ok:=by rw[ho];exact⟨hgr,fun b hb=>(hok b hb).1⟩
   have kn:Kn H H4 [] ([(x2,.st [.int .i64 q.params,.int .i64 q.regs,bc]),(x3,.st [.int .i64 q.params,.int .i64 q.regs,bc])]++o.lg):=by
    rw[ho];simpa[OCode.lg,Jg]using kn
   refine⟨unx H o.lg,.ag o.row,H4.frz (unx H o.lg),?_,Qd1 _ _,hK o _ kn.finK hok hod how'⟩;rw[ho];exact FrzL.ag (.cons (Qi rfl) (.cons (Qi rfl) (.cons (.same _ hbow) .nil)))
theorem Qbop {q:CodeD}(hq:q.sm)(hK:∀(o:OCode) (H':Heap),Kn H H' [] o.lg→o.ok→o.d=q→o.sm 1000→K (.ag o.row) H'):Qr prog Ql6 [.ag q.cells] H K:=
 Qbbw hq.sg fun o H' k1 k2 k3 _=>hK o H' k1 k2 k3 (by rw[←k3]at hq;exact hq.o)
set_option maxHeartbeats 2000000 in
theorem Qaxh {cs:List CodeD}{fl:Bool}(hs:∀c∈cs,c.sm)(hl:cs.length≤1000000)
  (hK:∀(us:List OCode) (cc:C) (cl:List (Nat×Obj)) (H':Heap),Kn H H' [] (us.flatMap OCode.lg++cl)→Gr cl 3 (us.map OCode.row) cc→(∀u∈us,u.ok∧u.sm 1000)→us.length=cs.length→K (.ag [cc]) H') :
  Qr prog Qn0 [.ag [.sl fl 3 (Qj cs)]] H K:=by
 refine Qem ?_;refine Qc Qal Qaxw ?_;refine Qa ?_;simp only[go_sem];intro x2 hx2 H1 h1;have kn:=(Kn.start0 H).al hx2 h1;refine Qa ?_;simp only[go_sem];intro x3 hx3 H2 h2;have kn:=kn.al hx3 h2;have hx32:=kn.l 1 rfl;simp only[go_sem,Qwo,hx32];intro H3 h3;have kn:=kn.stL 1 rfl h3;refine Qaa ?_;refine Qa ?_;simp only[go_sem];refine Qh (Qe (Qx (fun n e1 H1=>∃(i:Nat) (os:List OCode) (bc:C) (bl:List (Nat×Obj)),n=cs.length-i∧i≤cs.length∧os.length=i∧(∀o∈os,o.ok∧o.sm 1000)∧Gr bl 3 (os.map OCode.row) bc∧
  Kn H H1 [] (([(x2,.st [.sl true 3 []]),(x3,.st [bc])]++os.flatMap OCode.lg)++bl)∧
  e1=[(1,.c (.pp [.sl fl 3 (Qj cs)])),(2,.c (.ptr x2 0)),(3,.c (.ptr x3 0)),(4,.c (.int .i64 i))]) cs.length ?_ ?_))
 ·exact⟨0,[],_,[],by omega,by omega,rfl,by simp,.nil 3,by simpa using kn,rfl⟩
 ·rintro n e1 H1 ⟨i,os,bc,bl,hn1,hi,hol,hok,hgr,kn,rfl⟩;have hbow:=hgr.isOw;have hx31:=kn.l 1 rfl;refine Qaa ?_;refine Qa ?_;simp only[go_sem,Qo];intro _;refine Qh (Qd rfl ?_ ?_)
  ·intro hc;have hlt:i<cs.length:=by simpa using hc
   refine Qg ?_;simp only[go_sem];refine Qh (Qe (Qbn ?_));simp only[go_sem,hx31,hbow,hlt,Qo,Q0 _ _ hlt,CodeD.take3,CodeD.allOw,CodeD.len3];refine Qbop (hs _ (Jc hlt)) fun o H4 k2 hoo _ hob=>?_;have kn:=kn.comp0 k2;have hx34:=kn.l 1 rfl;simp only[go_sem,Qwq,hx34,hbow,o.len3];have kn:=kn.perm Qax5;refine kn.grow (new:=[o.row]) hgr (.mk' _ _ _ _) (by intro r hr;simp only[Ja]at hr;subst hr;exact o.noOw hoo) (by simp only[Jk,Jj,Jo,LIM];omega) fun z H5 kn=>?_;have kn:Kn H H5 [] (([(x2,.st [.sl true 3 []]),(x3,.st [bc])]++(os++[o]).flatMap OCode.lg)++[(z,.vec 3 ((os++[o]).map OCode.row))]):=by
    simpa[Js,Jg]using kn
   have hx35:=kn.l 1 rfl;simp only[go_sem,Qwp,hx35];intro H6 h6;have kn:=kn.stL 1 rfl h6;refine Qt ?_;simp only[go_sem,X.next];refine⟨Qs (by omega) (by omega),cs.length-(i+1),by omega,i+1,os++[o],_,_,rfl,by omega,by simp[hol],fun o' ho'=>?_,.mk _ _ _ (by simp),kn,rfl⟩;rcases Jm.1 ho' with h|h
   ·exact hok o' h
   ·simp at h;subst h;exact⟨hoo,hob⟩
  ·intro hc;have hge:cs.length≤i:=by simpa using hc
   have hx21:=kn.l 0 rfl;refine Qw ?_;simp only[go_sem,X.next];refine Qa ?_;simp only[go_sem,hx31,hx21,hbow];intro H4 h4;have kn:=kn.stL 0 rfl h4;have hx24:=kn.l 0 rfl;refine Qk ?_;simp only[go_sem,Q5,Qae,Q8g,reduceIte,Ja,forall_eq,RS.op,hx24,hbow];have kn:Kn H H4 [] ([(x2,.st [bc]),(x3,.st [bc])]++(os.flatMap OCode.lg++bl)):=by
    simpa[Jg]using kn
   exact⟨unx H _,.ag [bc],H4.frz (unx H _),FrzL.ag (.cons (.same _ hbow) .nil),Qd1 _ _,hK os bc bl _ kn.finK hgr hok (by omega)⟩
structure CRd (H:Heap)(R:Rdr)(cc:C)(rows:List (List C)):Prop where
 s:Slc H 3 rows cc
 ow:cc.isOw=false
 ne:∀l a c d,cc=.vsl l a c d→l≠R.l
 r:∀i,i<rows.length→∃(p:Int) (c1 c2:C),rows.getD i []=[.int .i64 p,c1,c2]∧0≤p∧p≤3
theorem CRd.keep {R:Rdr}{cc:C}{rows:List (List C)}{o:Obj}{H':Heap}{L:List (Nat×Obj)}(h:CRd H R cc rows)(kn:Kn H H' [(R.l,o)] L):CRd H' R cc rows:=
 ⟨h.s.keep kn (fun l a c d hh=>by simpa using h.ne l a c d hh),h.ow,h.ne,h.r⟩
theorem Qbjg {R:Rdr}{k b n:Nat}(hH:H R.l=R.o k)(hk:k+2≤2^40)(hb:b≤1000)(hn:n≤1000)
  (hK:∀(v:Int) (H':Heap) (k':Nat),k<k'→k'≤k+2→Upd H H' [(R.l,R.o k')]→K (.c (.int .i64 v)) H') :
  Qr prog Qaet [.c (.ptr R.l 0),.c (.int .i64 b),.c (.int .i64 n)] H K:=by
 refine Q3 ?_;refine Qc Qal Qbwe ?_;have kn:=Kn.start1 hH (R.o_ne k);refine Qa ?_;simp only[go_sem];refine Qaa ?_;refine Qa ?_;simp only[go_sem];refine⟨Qs (by omega) (by omega),?_⟩;have rest:∀(v:Bool) (H2:Heap) (k2:Nat),k≤k2→k2≤k+1→Kn H H2 [(R.l,R.o k2)] []→
   Qam prog (s_l7To_2.seq Qbck) (Q5 Qbcd (unK H K)) [(0,.c (.ptr R.l 0)),(1,.c (.int .i64 b)),(2,.c (.int .i64 n)),(15,.c (.bool v))] H2:=by
  intro v H2 k2 hk1 hk2 kn;have pv:∀m v:Int,m≤1000→(if m<1 then v=0 else 0≤v∧v<m)→0≤v∧v≤1000:=by
   intro m v hm hv;split at hv <;> omega
  refine Qh (Qd rfl ?_ ?_)
  ·intro hc;refine Qa ?_;simp only[go_sem];refine⟨Qs (by omega) (by omega),Qs (by omega) (by omega),Qs (by omega) (by omega),?_⟩;refine Qa8 (kn.e 0 rfl) (by omega) fun v H3 hv hu=>?_;have kn:=kn.callE 0 rfl hu (R.o_ne _);have hv:=pv _ _ (by omega) hv;simp only[go_sem,Qa2e];refine⟨Qs (by omega) (by omega),?_⟩;refine Qk ?_;simp only[go_sem,Q5,Qae,Qbcd,reduceIte,Ja,forall_eq,RS.op];exact⟨_,.c _ _ (Qi rfl),hK _ _ (k2+1) (by omega) (by omega) kn.fin⟩
  ·intro hc;refine Qg ?_;simp only[go_sem];refine Qa ?_;simp only[go_sem];refine⟨Qs (by omega) (by omega),?_⟩;refine Qa8 (kn.e 0 rfl) (by omega) fun v H3 hv hu=>?_;have kn:=kn.callE 0 rfl hu (R.o_ne _);have hv:=pv _ _ (by omega) hv;simp only[go_sem,Qa2f];refine⟨Qs (by omega) (by omega),?_⟩;refine Qk ?_;simp only[go_sem,Q5,Qae,Qbcd,reduceIte,Ja,forall_eq,RS.op];exact⟨_,.c _ _ (Qi rfl),hK _ _ (k2+1) (by omega) (by omega) kn.fin⟩
 refine⟨fun hb1=>?_,fun hb1=>?_⟩
 ·refine Qa8 (kn.e 0 rfl) (by omega) fun v H3 hv hu=>?_;have kn:=kn.callE 0 rfl hu (R.o_ne _);simp only[go_sem,Qaka,hb1];exact rest _ _ (k+1) (by omega) (by omega) kn
 ·simp only[go_sem,Qaka,hb1];exact rest _ _ k (by omega) (by omega) kn
set_option maxHeartbeats 2000000 in
theorem Qbor {R:Rdr}{k:Nat}{cc:C}{rows:List (List C)}{regs:Int}(hH:H R.l=R.o k)(hk:k+9≤2^40)(hc:CRd H R cc rows)
  (hK:∀(x:InsD) (H':Heap) (k':Nat),k<k'→k'≤k+9→Upd H H' [(R.l,R.o k')]→x.args.length≤3→K (.ag x.cells) H') :
  Qr prog Qaes [.c (.ptr R.l 0),.ag [cc],.c (.int .i64 regs)] H K:=by
 refine Q3 ?_;refine Qc Qal Qbpd ?_;have how:=hc.ow;have hlen:=hc.s.len;have hesz:=hc.s.sz;refine Qa ?_;simp only[go_sem,how];intro x6 hx6 H1 h1;have kn:=(Kn.start1 hH (R.o_ne k)).al hx6 h1;refine Qa ?_;simp only[go_sem];refine Qi5 (ns:=[1,1,2,3,4,5,8,9,10,13,3,6,7,11,12,14]) (kn.e 0 rfl) (by omega) (by simp) fun op H2 hop hu=>?_;have kn:=kn.callE 0 rfl hu (R.o_ne _);simp only[go_sem,Qaj5];refine Qa ?_;simp only[go_sem];refine Qa8 (kn.e 0 rfl) (by omega) fun to H3 hto hu=>?_;have kn:=kn.callE 0 rfl hu (R.o_ne _);simp only[go_sem,Qaj6,Q15];intro x8 hx8 H4 h4;have kn:=kn.al hx8 h4;have hx84:=kn.l 1 rfl;simp only[go_sem,Q15,hx84];intro H5 h5;have kn:=kn.stL 1 rfl h5;refine Qa ?_;simp only[go_sem];refine Qbje fun many hm1 hm2=>?_;simp only[go_sem,Qaj7];have args:∀(many:Int) (to n:Int) (H6:Heap) (k6:Nat),many≤3→k<k6→k6≤k+4→Kn H H6 [(R.l,R.o k6)] [(x6,.st [.int .i64 0,.int .i64 0,.sl true 1 [],.int .i64 0]),(x8,.st [.int .i64 op,.int .i64 to,.sl true 1 [],.int .i64 n])]→
   Qam prog Qaj2 (Q5 Qx5 (unK H K)) [(0,.c (.ptr R.l 0)),(2,.c (.int .i64 regs)),(6,.c (.ptr x6 0)),(8,.c (.ptr x8 0)),(9,.c (.int .i64 many))] H6:=by
  intro many to n H6 k6 hmany hk1 hk2 kn;refine Qaa ?_;refine Qa ?_;simp only[go_sem];refine Qh (Qe (Qx (fun m e1 H1=>∃(i:Nat) (ns:List Int) (ac:C) (al:List (Nat×Obj)),m=3-i∧i≤3∧ns.length=i∧Gr al 1 (Qb ns) ac∧
   Kn H H1 [(R.l,R.o (k6+i))] ([(x6,.st [.int .i64 0,.int .i64 0,.sl true 1 [],.int .i64 0]),(x8,.st [.int .i64 op,.int .i64 to,ac,.int .i64 n])]++al)∧
   e1=[(0,.c (.ptr R.l 0)),(2,.c (.int .i64 regs)),(6,.c (.ptr x6 0)),(8,.c (.ptr x8 0)),(9,.c (.int .i64 many)),(10,.c (.int .i64 i))]) 3 ?_ ?_))
  ·exact⟨0,[],_,[],by omega,by omega,rfl,.nil 1,by simpa using kn,rfl⟩
  ·rintro m e1 H7 ⟨i,ns,ac,al,hm,hi,hns,hgr,kn,rfl⟩;have hacow:=hgr.isOw;have hx8:=kn.l 1 rfl;refine Qaa ?_;refine Qa ?_;simp only[go_sem];refine Qh (Qd rfl ?_ ?_)
   ·intro hc;have hlt:(i:Int)<many:=(by simpa using hc);refine Qg ?_;simp only[go_sem];refine Qh (Qe ?_);refine Qbn ?_;simp only[go_sem,hx8,hacow];refine Qa8 (kn.e 0 rfl) (by omega) fun v H8 hv hu=>?_;have kn:=kn.callE 0 rfl hu (R.o_ne _);have hx8:=kn.l 1 rfl;simp only[go_sem,Qaax,hx8,hacow];refine kn.grow (new:=Qb [v]) hgr (.mk' _ _ _ _) (Qz _) (by simp only[Qf,LIM,Jj,Jo];omega) fun y H9 kn=>?_;have hx8:=kn.l 1 rfl;simp only[go_sem,Qaaw,hx8];intro H10 h10;have kn:=kn.stL 1 rfl h10;refine Qt ?_;simp only[go_sem,X.next];refine⟨Qs (by omega) (by omega),3-(i+1),by omega,i+1,ns++[v],_,_,rfl,by omega,by simp[hns],?_,kn,rfl⟩;rw[←Qb1];exact .mk _ _ _ (by simp[Qb1,Qf])
   ·intro hc;refine Qw ?_;simp only[go_sem,X.next];have hx6:=kn.l 0 rfl;refine Qa ?_;simp only[go_sem,hx8,hx6,hacow];intro H8 h8;have kn:Kn H H8 [(R.l,R.o (k6+i))] ([(x6,.st [.int .i64 op,.int .i64 to,ac,.int .i64 n]),(x8,.st [.int .i64 op,.int .i64 to,ac,.int .i64 n])]++al):=kn.stL 0 rfl h8;have hx6:=kn.l 0 rfl;refine Qk ?_;simp only[go_sem,Q5,Qae,Qx5,reduceIte,Ja,forall_eq,RS.op,hx6,hacow];exact⟨.ag (InsD.mk op to ns n).cells,FrzL.ag (.cons (Qi rfl) (.cons (Qi rfl) (.cons (hgr.frz kn (Qz _)) (.cons (Qi rfl) .nil)))),hK ⟨op,to,ns,n⟩ _ (k6+i) (by omega) (by omega) kn.fin (by show ns.length≤3;omega)⟩
 have rest:∀(many n:Int) (H6:Heap) (k6:Nat) (E1:Env),lk 0 E1=.c (.ptr R.l 0)→lk 2 E1=.c (.int .i64 regs)→lk 6 E1=.c (.ptr x6 0)→lk 7 E1=.c (.int .i64 op)→lk 8 E1=.c (.ptr x8 0)→lk 9 E1=.c (.int .i64 many)→many≤3→k<k6→k6≤k+3→Kn H H6 [(R.l,R.o k6)] [(x6,.st [.int .i64 0,.int .i64 0,.sl true 1 [],.int .i64 0]),(x8,.st [.int .i64 op,.int .i64 to,.sl true 1 [],.int .i64 n])]→
   Qam prog Qaj4 (Q5 Qx5 (unK H K)) E1 H6:=by
  intro many n H6 k6 E1 l0 l2 l6 l7 l8 l9 hmany hk1 hk2 kn;have rest2:∀(n:Int) (H6:Heap) (k6:Nat) (E1:Env),lk 0 E1=.c (.ptr R.l 0)→lk 2 E1=.c (.int .i64 regs)→lk 6 E1=.c (.ptr x6 0)→lk 7 E1=.c (.int .i64 op)→lk 8 E1=.c (.ptr x8 0)→lk 9 E1=.c (.int .i64 many)→k<k6→k6≤k+4→Kn H H6 [(R.l,R.o k6)] [(x6,.st [.int .i64 0,.int .i64 0,.sl true 1 [],.int .i64 0]),(x8,.st [.int .i64 op,.int .i64 to,.sl true 1 [],.int .i64 n])]→
    Qam prog Qaj3 (Q5 Qx5 (unK H K)) E1 H6:=by
   intro n H6 k6 E1 l0 l2 l6 l7 l8 l9 hk1 hk2 kn;refine Qaa ?_;refine Qa ?_;simp only[go_sem];simp only[l7,true_and];refine Q2p ?_;simp only[go_sem,Qaav,l0,l2,l6,l7,l8,l9];refine Qh (Qd rfl ?_ ?_)
   ·intro hc;have hx8:=kn.l 1 rfl;refine Qt ?_;simp only[go_sem,hx8];intro H7 h7;have kn:=kn.stL 1 rfl h7;exact args many (-1) n H7 k6 hmany hk1 hk2 kn
   ·intro hc;refine Qg ?_;simp only[go_sem];exact args many to n H6 k6 hmany hk1 hk2 kn
  refine Qaa ?_;refine Qa ?_;simp only[go_sem,l0,l2,l6,l7,l8,l9];refine Qh (Qd rfl ?_ ?_)
  ·intro hc;refine Qt ?_;simp only[go_sem];refine Qi5 (ns:=[0,1,2,3,15,16,255]) (kn.e 0 rfl) (by omega) (by simp) fun n2 H7 hn2 hu=>?_;have kn:=kn.callE 0 rfl hu (R.o_ne _);have hx8:=kn.l 1 rfl;simp only[go_sem,Qaau,hx8];intro H8 h8;have kn:=kn.stL 1 rfl h8;exact rest2 n2 H8 (k6+1) _ (by simp[lk]) (by simp[lk]) (by simp[lk]) (by simp[lk]) (by simp[lk]) (by simp[lk]) (by omega) (by omega) kn
  ·intro hc;refine Qg ?_;simp only[go_sem];exact rest2 n H6 k6 _ (by simp[lk]) (by simp[lk]) (by simp[lk]) (by simp[lk]) (by simp[lk]) (by simp[lk]) (by omega) (by omega) kn
 refine Qaa ?_;refine Qa ?_;simp only[go_sem];refine Qh (Qd rfl ?_ ?_)
 ·intro hop14;have hc5:=hc.keep kn;have hok5:=eq_true hc5.s.ok;refine Qaa ?_;refine Qa ?_;simp only[go_sem,how,hlen,hok5];intro hl;refine Qh (Qd rfl ?_ ?_)
  ·intro h0;refine Qa ?_;simp only[go_sem];refine Qa8 (kn.e 0 rfl) (by omega) fun v H6 hv hu=>?_;have kn:=kn.callE 0 rfl hu (R.o_ne _);have hx6:=kn.l 0 rfl;simp only[go_sem,Qaj8,hx6];intro H7 h7;have kn:=kn.stL 0 rfl h7;have hx6:=kn.l 0 rfl;refine Qk ?_;simp only[go_sem,Q5,Qae,Qx5,reduceIte,Ja,forall_eq,RS.op,hx6];exact⟨.ag (InsD.mk 13 (-1) [v] 0).cells,FrzL.ag (.cons (Qi rfl) (.cons (Qi rfl) (.cons (FrzR.same (Qz [v])).sl (.cons (Qi rfl) .nil)))),hK ⟨13,-1,[v],0⟩ _ (k+3) (by omega) (by omega) kn.fin (by simp)⟩
  ·intro h0;have hpos:0<rows.length:=by
    have:¬rows.length=0:=(by simpa using h0);omega
   refine Qg ?_;simp only[go_sem];refine Qa ?_;simp only[go_sem,how,hlen,hok5];intro _;refine Qa8 (kn.e 0 rfl) (by omega) fun v H6 hv hu=>?_;have kn:=kn.callE 0 rfl hu (R.o_ne _);rw[if_neg (by omega)]at hv;obtain⟨i,rfl⟩:=Jn hv.1;have hi:i<rows.length:=by omega
   obtain⟨p,c1,c2,hrow,hp0,hp3⟩:=hc.r i hi;have hx8:=kn.l 1 rfl;simp only[go_sem,Qaj9,hx8];intro H7 h7;have kn:=kn.stL 1 rfl h7;have hx8:=kn.l 1 rfl;have hc7:=hc.keep kn;have hok7:=eq_true hc7.s.ok;have hrw7:=hc7.s.rows;refine Qt ?_;simp only[go_sem,how,hlen,hok7,hrw7,hesz,hx8,hi,hrow];exact rest p i H7 (k+3) _ (by simp[lk]) (by simp[lk]) (by simp[lk]) (by simp[lk]) (by simp[lk]) (by simp[lk]) (by omega) (by omega) (by omega) kn
 ·intro hop14;refine Qg ?_;simp only[go_sem];exact rest many 0 H5 (k+2) _ (by simp[lk]) (by simp[lk]) (by simp[lk]) (by simp[lk]) (by simp[lk]) (by simp[lk]) (by omega) (by omega) (by omega) kn
theorem Qbuh {α:Type}{a M b c:List α}:(a++(M++b)++c).Perm (((M++c)++b)++a):=by
 refine Jf.trans ?_;refine (List.Perm.append_left _ (Jf (l₁:=a))).trans ?_;rw[←Jg];refine .append_right _ ?_;rw[←Jg];exact .append_right _ Jf
def EnvA (R:Rdr)(cc:C)(x4 x5 x8 n b:Nat)(e:Env):Prop:=
 lk 0 e=.c (.ptr R.l 0)∧lk 3 e=.c (.pp [cc])∧lk 4 e=.c (.ptr x4 0)∧lk 5 e=.c (.ptr x5 0)∧lk 6 e=.c (.int .i64 n)∧lk 7 e=.c (.int .i64 b)∧lk 8 e=.c (.ptr x8 0)
set_option maxHeartbeats 4000000 in
theorem Qboo {R:Rdr}{k:Nat}{cc:C}{rows:List (List C)}(hH:H R.l=R.o k)(hk:k+1000≤2^40)(hc:CRd H R cc rows)
  (hK:∀(o:UCode) (H':Heap) (k':Nat),k<k'→k'≤k+1000→Kn H H' [(R.l,R.o k')] o.lg→o.ok→o.sm 0→K (.ag o.row) H') :
  Qr prog Qaer [.c (.ptr R.l 0),.ag [cc]] H K:=by
 refine Qem ?_;refine Qc Qal Qbpa ?_;have how:=hc.ow;refine Qa ?_;simp only[go_sem,how];intro x4 hx4 H1 h1;have kn:=(Kn.start1 hH (R.o_ne k)).al hx4 h1;refine Qa ?_;simp only[go_sem];refine Qi5 (ns:=[1,0,2,3]) (kn.e 0 rfl) (by omega) (by simp) fun p H2 hp hu=>?_;have kn:=kn.callE 0 rfl hu (R.o_ne _);have hp:0≤p∧p≤3:=by simp at hp;omega
 simp only[go_sem,Qajg];intro x5 hx5 H3 h3;have kn:=kn.al hx5 h3;have hx53:=kn.l 1 rfl;simp only[go_sem,Qajf,hx53];intro H4 h4;have kn:=kn.stL 1 rfl h4;have hx54:=kn.l 1 rfl;refine Qaj ?_;simp only[go_sem,hx54];refine⟨Qs (by omega) (by omega),?_⟩;refine Qa8 (kn.e 0 rfl) (by omega) fun q H5 hq hu=>?_;have kn:=kn.callE 0 rfl hu (R.o_ne _);have hx55:=kn.l 1 rfl;rw[if_neg (by omega)]at hq;simp only[go_sem,Qajh,hx55];refine⟨Qs (by omega) (by omega),?_⟩;intro H6 h6;have kn:=kn.stL 1 rfl h6;obtain⟨rg,hrg⟩:∃rg,p+2+q=rg:=⟨_,rfl⟩;rw[hrg]at kn;refine Qa ?_;simp only[go_sem];refine Qi5 (ns:=[3,5,2,1,7,4]) (kn.e 0 rfl) (by omega) (by simp) fun n0 H7 hn0 hu=>?_;have kn:=kn.callE 0 rfl hu (R.o_ne _);simp only[go_sem,Qaji];obtain⟨n,rfl,hn1,hn7⟩:∃n:Nat,n0=n∧1≤n∧n≤7:=⟨n0.toNat,by simp at hn0;omega⟩;refine Qaa ?_;refine Qa ?_;simp only[go_sem];refine Qh (Qe (Qx (fun m e1 H1=>∃(b k1:Nat) (bs:List UBlk) (bc:C) (bl:List (Nat×Obj)),m=n-b∧b≤n∧bs.length=b∧k<k1∧k1≤k+3+50 * b∧(∀o∈bs,o.ok∧o.sm 0)∧Gr bl 5 (bs.map UBlk.row) bc∧
  Kn H H1 [(R.l,R.o k1)] (([(x4,.st [.int .i64 0,.int .i64 0,.sl true 5 []]),(x5,.st [.int .i64 p,.int .i64 rg,bc])]++bs.flatMap UBlk.lg)++bl)∧
  e1=[(0,.c (.ptr R.l 0)),(3,.c (.pp [cc])),(4,.c (.ptr x4 0)),(5,.c (.ptr x5 0)),(6,.c (.int .i64 n)),(7,.c (.int .i64 b))]) n ?_ ?_))
 ·exact⟨0,k+1+1+1,[],_,[],by omega,by omega,rfl,by omega,by omega,by simp,.nil 5,by simpa using kn,rfl⟩
 ·rintro m e1 H8 ⟨b,k1,bs,bc,bl,hm,hb,hbs,hk1,hk2,hok,hgr,kn,rfl⟩;have hbow:=hgr.isOw;refine Qaa ?_;refine Qa ?_;simp only[go_sem];refine Qh (Qd rfl ?_ ?_)
  ·intro hc1;have hlt:b<n:=by simpa using hc1
   refine Qg ?_;simp only[go_sem];refine Qh (Qe ?_);refine Qa ?_;simp only[go_sem];intro x8 hx8 H9 h9;have kn:=kn.al hx8 h9;have kn:=kn.perm Jf;have hx89:=kn.l 0 rfl;simp only[go_sem,Qajj,hx89];intro H10 h10;have kn:=kn.stL 0 rfl h10;refine Qaa ?_;refine Qa ?_;simp only[go_sem];refine Qi5 (ns:=[1,2,0,3,4]) (kn.e 0 rfl) (by omega) (by simp) fun i0 H11 hi0 hu=>?_;have kn:=kn.callE 0 rfl hu (R.o_ne _);simp only[go_sem,Qajk];obtain⟨i,rfl,hi4⟩:∃i:Nat,i0=i∧i≤4:=⟨i0.toNat,by simp at hi0;omega⟩;refine Qh (Qe (Qx (fun m e1 H1=>∃(t k2:Nat) (ds:List InsD) (ic:C) (il:List (Nat×Obj)),m=t∧t+ds.length=i∧k1<k2∧k2≤k1+1+9 * ds.length∧(∀d∈ds,d.args.length≤3)∧Gr il 4 (Qag ds) ic∧
    Kn H H1 [(R.l,R.o k2)] (([(x8,.st [.sl true 2 [],ic,.int .i64 0,.int .i64 0,.sl true 1 []])]++(([(x4,.st [.int .i64 0,.int .i64 0,.sl true 5 []]),(x5,.st [.int .i64 p,.int .i64 rg,bc])]++bs.flatMap UBlk.lg)++bl))++il)∧
    e1=[(0,.c (.ptr R.l 0)),(3,.c (.pp [cc])),(4,.c (.ptr x4 0)),(5,.c (.ptr x5 0)),(6,.c (.int .i64 n)),(7,.c (.int .i64 b)),(8,.c (.ptr x8 0)),(9,.c (.int .i64 t))]) i ?_ ?_))
   ·refine⟨i,k1+1,[],_,[],rfl,rfl,by omega,by simp,by simp,.nil 4,by simpa using kn,rfl⟩
   ·rintro m2 e1 H12 ⟨t,k2,ds,ic,il,hm2,ht,hk3,hk4,hds,hgi,kn,rfl⟩;have hicow:=hgi.isOw;have hx8:=kn.l 0 rfl;have hx5:=kn.l 2 rfl;refine Qaa ?_;refine Qa ?_;simp only[go_sem];refine Qh (Qd rfl ?_ ?_)
    ·intro hc2;have ht0:0<t:=(by simpa using hc2);refine Qg ?_;simp only[go_sem];refine Qh (Qe ?_);refine Qbn ?_;simp only[go_sem,hx8,hx5,hicow,hbow,how];refine Qbor (kn.e 0 rfl) (by omega) (hc.keep kn) fun d H13 k3 hk5 hk6 hu hd=>?_;have kn:=kn.callE 0 rfl hu (R.o_ne _);have hx8:=kn.l 0 rfl;simp only[go_sem,Qajm,hx8,hicow,InsD.take4,InsD.allOw,InsD.len4];refine kn.grow (new:=[d.cells]) hgi (.mk' _ _ _ _) (by intro r hr;simp only[Ja]at hr;subst hr;rfl) (by simp only[Q4,LIM,Jj,Jo];omega) fun y H14 kn=>?_;have hx8:=kn.l 0 rfl;simp only[go_sem,Qajl,hx8];intro H15 h15;have kn:=kn.stL 0 rfl h15;refine Qt ?_;simp only[go_sem,X.next];refine⟨Qs (by omega) (by omega),t-1,by omega,t-1,k3,ds++[d],_,_,rfl,by simp;omega,by omega,by simp;omega,fun d' hd'=>?_,?_,kn,?_⟩
     ·rcases Jm.1 hd' with h|h
      ·exact hds _ h
      ·simp only[Ja]at h;subst h;exact hd
     ·rw[Qbee];exact .mk _ _ _ (by simp[Q4])
     ·have:(t:Int)-1=((t-1:Nat):Int):=(by omega);rw[this]
    ·intro hc2;have ht0:t=0:=(by have:¬0<t:=(by simpa using hc2);omega);refine Qw ?_;simp only[go_sem,X.next];refine Qa ?_;simp only[go_sem,hx5,hbow];refine Qa8 (kn.e 0 rfl) (by omega) fun on H13 hon hu=>?_;have kn:=kn.callE 0 rfl hu (R.o_ne _);have hx8:=kn.l 0 rfl;simp only[go_sem,Qaam,hx8,hicow];intro H14 h14;have kn:=kn.stL 0 rfl h14;refine Qa ?_;simp only[go_sem];refine Qi5 (ns:=[2,1,2,1,3]) (kn.e 0 rfl) (by omega) (by simp) fun jump H15 hjump hu=>?_;have kn:=kn.callE 0 rfl hu (R.o_ne _);have hx8:=kn.l 0 rfl;simp only[go_sem,Qaan,hx8,hicow];intro H16 h16;have kn:=kn.stL 0 rfl h16;refine Qd3 (fun e2 H2=>∃(k2:Nat) (jump:Int),k1<k2∧k2≤k1+40∧Kn H H2 [(R.l,R.o k2)] (([(x8,.st [.sl true 2 [],ic,.int .i64 jump,.int .i64 on,.sl true 1 []])]++(([(x4,.st [.int .i64 0,.int .i64 0,.sl true 5 []]),(x5,.st [.int .i64 p,.int .i64 rg,bc])]++bs.flatMap UBlk.lg)++bl))++il)∧EnvA R cc x4 x5 x8 n b e2) ?_ ?_
     ·intro Q hn _ _;have rest:∀(v:Bool) (H2:Heap) (k2:Nat),k1<k2→k2≤k1+40→Kn H H2 [(R.l,R.o k2)] (([(x8,.st [.sl true 2 [],ic,.int .i64 jump,.int .i64 on,.sl true 1 []])]++(([(x4,.st [.int .i64 0,.int .i64 0,.sl true 5 []]),(x5,.st [.int .i64 p,.int .i64 rg,bc])]++bs.flatMap UBlk.lg)++bl))++il)→
        Qam prog Qaje Q [(0,.c (.ptr R.l 0)),(3,.c (.pp [cc])),(4,.c (.ptr x4 0)),(5,.c (.ptr x5 0)),(6,.c (.int .i64 n)),(7,.c (.int .i64 b)),(8,.c (.ptr x8 0)),(68,.c (.bool v))] H2:=by
       intro v H2 k2 hk1 hk2 kn;refine Qd rfl ?_ ?_
       ·intro hc;have hx8:=kn.l 0 rfl;refine Qt ?_;simp only[go_sem,hx8,hicow];intro H3 h3;have kn:=kn.stL 0 rfl h3;exact hn _ _ ⟨k2,3,hk1,hk2,kn,rfl,rfl,rfl,rfl,rfl,rfl,rfl⟩
       ·intro hc;refine Qg ?_;exact hn _ _ ⟨k2,jump,hk1,hk2,kn,rfl,rfl,rfl,rfl,rfl,rfl,rfl⟩
      refine Qa ?_;simp only[go_sem];refine⟨fun _=>Qs (by omega) (by omega),?_⟩;refine⟨fun hb1=>?_,fun hb1=>?_⟩
      ·refine Qa8 (kn.e 0 rfl) (by omega) fun v H17 hv hu=>?_;have kn:=kn.callE 0 rfl hu (R.o_ne _);simp only[go_sem,Qkz,hb1];exact rest _ _ _ (by omega) (by omega) kn
      ·by_cases h1:(n:Int)=1
       ·have hd:=decide_eq_true h1;have hd2:decide ((b:Int)=n-1)=true:=decide_eq_true (by omega);simp only[go_sem,Qkz,hd,hd2,Bool.not_true,cond_true,cond_false];exact rest true _ _ (by omega) (by omega) kn
       ·have h2:¬(b:Int)=n-1:=(by simpa[h1]using hb1);simp only[go_sem,Qkz,hb1,h1,h2,decide_false,Bool.not_false,cond_true,cond_false];exact rest false _ _ (by omega) (by omega) kn
     rintro e2 H17 ⟨k3,jump,hk5,hk6,kn,l0,l3,l4,l5,l6,l7,l8⟩;refine Qd3 (fun e2 H2=>∃(k2:Nat) (jump on:Int) (nfl:Bool) (next:List Int),next.length≤2∧k1<k2∧k2≤k1+50∧Kn H H2 [(R.l,R.o k2)] (([(x8,.st [.sl true 2 [],ic,.int .i64 jump,.int .i64 on,.sl nfl 1 (Qb next)])]++(([(x4,.st [.int .i64 0,.int .i64 0,.sl true 5 []]),(x5,.st [.int .i64 p,.int .i64 rg,bc])]++bs.flatMap UBlk.lg)++bl))++il)∧EnvA R cc x4 x5 x8 n b e2) ?_ ?_
     ·intro Q hn _ _;have hx8:=kn.l 0 rfl;refine Qa ?_;simp only[go_sem,hx8,l0,l3,l4,l5,l6,l7,l8,hicow];refine Qe ?_;refine Qa ?_;simp only[go_sem];refine Qd rfl ?_ ?_
      ·intro hc;refine Qa ?_;simp only[go_sem,hx8,hicow];intro H18 h18;have kn:=kn.stL 0 rfl h18;refine Qt ?_;simp only[go_sem];refine Qbjg (kn.e 0 rfl) (by omega) (by omega) (by omega) fun v1 H19 k4 hk7 hk8 hu=>?_;have kn:=kn.callE 0 rfl hu (R.o_ne _);have hx8:=kn.l 0 rfl;simp only[go_sem,Qaao,hx8,hicow];intro H20 h20;have kn:=kn.stL 0 rfl h20;exact hn _ _ ⟨k4,jump,0,true,[v1],by simp,by omega,by omega,kn,rfl,rfl,rfl,rfl,rfl,rfl,rfl⟩
      ·intro hc;refine Qa ?_;simp only[go_sem];refine Qd rfl ?_ ?_
       ·intro hc;refine Qt ?_;simp only[go_sem];refine Qbjg (kn.e 0 rfl) (by omega) (by omega) (by omega) fun v1 H19 k4 hk7 hk8 hu=>?_;have kn:=kn.callE 0 rfl hu (R.o_ne _);simp only[go_sem,Qaaq];refine Qbjg (kn.e 0 rfl) (by omega) (by omega) (by omega) fun v2 H20 k5 hk9 hk10 hu=>?_;have kn:=kn.callE 0 rfl hu (R.o_ne _);have hx8:=kn.l 0 rfl;simp only[go_sem,Qaap,hx8,hicow];intro H21 h21;have kn:=kn.stL 0 rfl h21;exact hn _ _ ⟨k5,jump,on,true,[v1,v2],by simp,by omega,by omega,kn,rfl,rfl,rfl,rfl,rfl,rfl,rfl⟩
       ·intro hc;refine Qg ?_;exact hn _ _ ⟨k3,jump,on,true,[],by simp,by omega,by omega,kn,rfl,rfl,rfl,rfl,rfl,rfl,rfl⟩
     rintro e3 H18 ⟨k4,jump,on,nfl,next,hnx,hk7,hk8,kn,l0,l3,l4,l5,l6,l7,l8⟩;have hx8:=kn.l 0 rfl;have hx5:=kn.l 2 rfl;refine Qt ?_;simp only[go_sem,hx8,hx5,l0,l3,l4,l5,l6,l7,l8,hicow,hbow];obtain⟨o,ho⟩:∃o:UBlk,o=⟨[],.sl true 2 [],[],ds,ic,il,jump,on,nfl,next⟩:=⟨_,rfl⟩;have hor:[C.sl true 2 [],ic,C.int IntKind.i64 jump,C.int IntKind.i64 on,C.sl nfl 1 (Qb next)]=o.row:=(by rw[ho];rfl);have hol:o.lg=il:=(by rw[ho];simp[UBlk.lg]);have hook:o.ok:=(by rw[ho];exact⟨.nil 2,hgi,by simp⟩);have hosm:o.sm 0:=(by rw[ho];exact⟨hnx,by show ds.length≤_;omega,by simp,fun d hd=>by have:=hds d hd;omega,by simp⟩);rw[hor];have kn:=(kn.perm Qbuh).drop;refine kn.grow (new:=[o.row]) hgr (.mk' _ _ _ _) (by intro r hr;simp only[Ja]at hr;subst hr;exact o.noOw hook) (by simp only[Jk,Jj,Jo,LIM];omega) fun z H19 kn=>?_;have kn:Kn H H19 [(R.l,R.o k4)] (([(x4,.st [.int .i64 0,.int .i64 0,.sl true 5 []]),(x5,.st [.int .i64 p,.int .i64 rg,bc])]++(bs++[o]).flatMap UBlk.lg)++[(z,.vec 5 ((bs++[o]).map UBlk.row))]):=by
      simpa[Js,Jg,hol]using kn
     have hx5:=kn.l 1 rfl;simp only[go_sem,Qaar,hx5,l0,l3,l4,l5,l6,l7,hbow];intro H20 h20;have kn:=kn.stL 1 rfl h20;refine Qt ?_;simp only[go_sem,X.next];refine⟨Qs (by omega) (by omega),n-(b+1),by omega,b+1,k4,bs++[o],_,_,rfl,by omega,by simp[hbs],by omega,by omega,fun o' ho'=>?_,.mk _ _ _ (by simp),kn,rfl⟩;rcases Jm.1 ho' with h|h
     ·exact hok o' h
     ·simp only[Ja]at h;subst h;exact⟨hook,hosm⟩
  ·intro hc1;have hbn:b=n:=by have:¬b<n:=(by simpa using hc1);omega
   have hx4:=kn.l 0 rfl;have hx5:=kn.l 1 rfl;refine Qw ?_;simp only[go_sem,X.next];refine Qa ?_;simp only[go_sem,hx5,hx4,hbow];intro H9 h9;have kn:=kn.stL 0 rfl h9;have hx4:=kn.l 0 rfl;refine Qk ?_;simp only[go_sem,Q5,Qae,Qbcb,reduceIte,Ja,forall_eq,RS.op,hx4,hbow];obtain⟨o,ho⟩:∃o:UCode,o=⟨p,rg,bs,bc,bl⟩:=⟨_,rfl⟩;have hook:o.ok:=by rw[ho];exact⟨hgr,fun b hb=>(hok b hb).1,hp.1,hp.2⟩
   have hosm:o.sm 0:=by rw[ho];exact⟨by show 0<bs.length;omega,by show bs.length≤_;omega,fun b hb=>(hok b hb).2⟩
   have kn:Kn H H9 [(R.l,R.o k1)] ([(x4,.st [.int .i64 p,.int .i64 rg,bc]),(x5,.st [.int .i64 p,.int .i64 rg,bc])]++o.lg):=by
    rw[ho];simpa[UCode.lg,Jg]using kn
   refine⟨unx H o.lg,.ag o.row,H9.frz (unx H o.lg),?_,Qd1 _ _,hK o _ k1 hk1 (by omega) kn.finK hook hosm⟩;rw[ho];exact FrzL.ag (.cons (Qi rfl) (.cons (Qi rfl) (.cons (.same _ hbow) .nil)))
end Go.AE.Y
namespace Go.AE
open Go.AE.Y
open Go.Proofs.Tryz
variable {H:Heap}{K:V→Heap→Prop}
theorem Gr.slc {H0 H:Heap}{E B Lg:List (Nat×Obj)}{sz:Nat}{rows:List (List C)}{c:C}(h:Gr Lg sz rows c)(kn:Kn H0 H E (B++Lg)):Slc H sz rows c:=by
 obtain⟨h1,h2⟩:=h.get kn;exact⟨h1,h.elemSz,h2,h.lenC⟩
theorem Gr.ne {H0 H:Heap}{E B Lg:List (Nat×Obj)}{sz:Nat}{rows:List (List C)}{c:C}{r:Nat}{o:Obj}(h:Gr Lg sz rows c)(kn:Kn H0 H E (B++Lg))(hr:(r,o)∈E):∀l a d n,c=.vsl l a d n→l≠r:=by
 intro l a d n hc hh;rcases h with ⟨h1,_⟩|⟨y,h1,h2⟩
 ·rw[h1]at hc;simp at hc
 ·rw[h1]at hc;have hy:y=l:=by injection hc
  have:=kn.loc (y,.vec sz rows) (by rw[h2];simp);exact kn.ext (r,o) hr (by rw[←hh,←hy];exact this)
theorem Gr.slcM {H0 H:Heap}{E L Lg:List (Nat×Obj)}{sz:Nat}{rows:List (List C)}{c:C}(h:Gr Lg sz rows c)(kn:Kn H0 H E L)(hm:∀p∈Lg,p∈L):Slc H sz rows c:=by
 rcases h with ⟨h1,h2,h3⟩|⟨y,h1,h2⟩
 ·rw[h1,h2];exact .mk' _ _ _ _
 ·have hy:H y=.vec sz rows:=(kn.get (y,.vec sz rows) (Je _ (hm _ (by rw[h2];simp)))).1;rw[h1];exact⟨by simp[Go.AE.okSl,hy],rfl,by simp[Go.AE.rowsOf,hy],rfl⟩
end Go.AE
namespace Go.AE.Y
open Go.Proofs.Tryz
variable {H:Heap}{K:V→Heap→Prop}
theorem Qbvn {H0 H:Heap}{B cl:List (Nat×Obj)}{R:Rdr}{o:Obj}{us:List UCode}{cc:C}(hg:Gr cl 3 (us.map UCode.row) cc)(kn:Kn H0 H [(R.l,o)] (B++cl))(hu:∀u∈us,u.ok):CRd H R cc (us.map UCode.row):=by
 refine⟨hg.slc kn,hg.isOw,hg.ne kn (o:=o) (by simp),fun i hi=>?_⟩;rw[Jk]at hi;refine⟨us[i].params,.int .i64 us[i].regs,us[i].bc,by simp[Jb,hi,UCode.row],(hu _ (Jc hi)).p0,(hu _ (Jc hi)).p1⟩
set_option maxHeartbeats 4000000 in
theorem Qbby {R:Rdr}{k:Nat}(hH:H R.l=R.o k)(hk:k+10000≤2^40)
  (hK:∀(cs:List CodeD) (H':Heap) (k':Nat),k<k'→k'≤k+10000→Upd H H' [(R.l,R.o k')]→0<cs.length→cs.length≤3→(∀c∈cs,c.sm)→K (.ag [.sl false 3 (Qj cs)]) H') :
  Qr prog Q2m [.c (.ptr R.l 0)] H K:=by
 refine Q3 ?_;refine Qc Qal Qbpe ?_;refine Qa ?_;simp only[go_sem];intro x2 hx2 H1 h1;have kn:=(Kn.start1 hH (R.o_ne k)).al hx2 h1;refine Qa ?_;simp only[go_sem];intro x3 hx3 H2 h2;have kn:=kn.al hx3 h2;have hx32:=kn.l 1 rfl;simp only[go_sem,Qakb,hx32];intro H3 h3;have kn:=kn.stL 1 rfl h3;refine Qaa ?_;refine Qa ?_;simp only[go_sem];refine Qi5 (ns:=[1,2,1,3]) (kn.e 0 rfl) (by omega) (by simp) fun i0 H4 hi0 hu=>?_;have kn:=kn.callE 0 rfl hu (R.o_ne _);simp only[go_sem,Qakc];obtain⟨i,rfl,hi1,hi3⟩:∃i:Nat,i0=i∧1≤i∧i≤3:=⟨i0.toNat,by simp at hi0;omega⟩;refine Qh (Qe (Qx (fun m e1 H1=>∃(t k1:Nat) (us:List UCode) (cc:C) (cl:List (Nat×Obj)),m=t∧t+us.length=i∧k<k1∧k1≤k+1+1000 * us.length∧(∀u∈us,u.ok∧u.sm 0)∧Gr cl 3 (us.map UCode.row) cc∧
  Kn H H1 [(R.l,R.o k1)] (([(x2,.st [.sl true 3 []]),(x3,.st [cc])]++us.flatMap UCode.lg)++cl)∧
  e1=[(0,.c (.ptr R.l 0)),(2,.c (.ptr x2 0)),(3,.c (.ptr x3 0)),(4,.c (.int .i64 t))]) i ?_ ?_))
 ·exact⟨i,k+1,[],_,[],rfl,rfl,by omega,by simp,by simp,.nil 3,by simpa using kn,rfl⟩
 ·rintro m e1 H5 ⟨t,k1,us,cc,cl,hm,ht,hk1,hk2,hok,hgr,kn,rfl⟩;have hcow:=hgr.isOw;have hx3:=kn.l 1 rfl;refine Qaa ?_;refine Qa ?_;simp only[go_sem];refine Qh (Qd rfl ?_ ?_)
  ·intro hc;have ht0:0<t:=by simpa using hc
   refine Qg ?_;simp only[go_sem];refine Qh (Qe (Qbn ?_));simp only[go_sem,hx3,hcow];refine Qboo (kn.e 0 rfl) (by omega) (Qbvn hgr kn fun u hu=>(hok u hu).1) fun o H6 k2 hk3 hk4 kn2 hoo hos=>?_;have kn:=kn.compE 0 rfl kn2;have hx3:=kn.l 1 rfl;simp only[go_sem,Qake,hx3,hcow,o.len3];have kn:=kn.perm Qax5;refine kn.grow (new:=[o.row]) hgr (.mk' _ _ _ _) (by intro r hr;simp only[Ja]at hr;subst hr;exact o.noOw hoo) (by simp only[Jk,Jj,Jo,LIM];omega) fun z H7 kn=>?_;have kn:Kn H H7 [(R.l,R.o k2)] (([(x2,.st [.sl true 3 []]),(x3,.st [cc])]++(us++[o]).flatMap UCode.lg)++[(z,.vec 3 ((us++[o]).map UCode.row))]):=by
    simpa[Js,Jg]using kn
   have hx3:=kn.l 1 rfl;simp only[go_sem,Qakd,hx3];intro H8 h8;have kn:=kn.stL 1 rfl h8;refine Qt ?_;simp only[go_sem,X.next];refine⟨Qs (by omega) (by omega),t-1,by omega,t-1,k2,us++[o],_,_,rfl,by simp;omega,by omega,by simp;omega,fun o' ho'=>?_,.mk _ _ _ (by simp),kn,?_⟩
   ·rcases Jm.1 ho' with h|h
    ·exact hok o' h
    ·simp only[Ja]at h;subst h;exact⟨hoo,hos⟩
   ·have:(t:Int)-1=((t-1:Nat):Int):=(by omega);rw[this]
  ·intro hc;have ht0:t=0:=by have:¬0<t:=(by simpa using hc);omega
   refine Qw ?_;simp only[go_sem,X.next];refine Qaa ?_;refine Qa ?_;simp only[go_sem];refine Qi5 (ns:=[0,0,1,3]) (kn.e 0 rfl) (by omega) (by simp) fun j0 H6 hj0 hu=>?_;have kn:=kn.callE 0 rfl hu (R.o_ne _);simp only[go_sem,Qakf];obtain⟨j,rfl,hj3⟩:∃j:Nat,j0=j∧j≤3:=⟨j0.toNat,by simp at hj0;omega⟩;have hcl:0<us.length:=by omega
   have hcl3:us.length≤3:=by omega
   refine Qh (Qe (Qx (fun m e1 H1=>∃(t k2 N:Nat) (us:List UCode),m=t∧t+N=j∧us.length=i∧k<k2∧k2≤k1+1+200 * N∧(∀u∈us,u.ok∧u.sm N)∧Gr cl 3 (us.map UCode.row) cc∧
    Kn H H1 [(R.l,R.o k2)] (([(x2,.st [.sl true 3 []]),(x3,.st [cc])]++us.flatMap UCode.lg)++cl)∧
    e1=[(0,.c (.ptr R.l 0)),(2,.c (.ptr x2 0)),(3,.c (.ptr x3 0)),(5,.c (.int .i64 t))]) j ?_ ?_))
   ·exact⟨j,k1+1,0,us,rfl,rfl,by omega,by omega,by omega,hok,hgr,kn,rfl⟩
   ·rintro m e1 H7 ⟨t,k2,N,us,hm,ht,hui,hk3,hk4,hok,hgr,kn,rfl⟩;have hx3:=kn.l 1 rfl;refine Qaa ?_;refine Qa ?_;simp only[go_sem];refine Qh (Qd rfl ?_ ?_)
    ·intro hc;have ht0:0<t:=(by simpa using hc);refine Qg ?_;simp only[go_sem];have hmem:∀p∈cl,p∈(([(x2,.st [.sl true 3 []]),(x3,.st [cc])]++us.flatMap UCode.lg)++cl):=fun p hp=>(by simp[hp]);refine Qd3 (fun e2 H2=>∃(k3:Nat) (us:List UCode),us.length=i∧k<k3∧k3≤k2+200∧(∀u∈us,u.ok∧u.sm (N+1))∧Gr cl 3 (us.map UCode.row) cc∧
      Kn H H2 [(R.l,R.o k3)] (([(x2,.st [.sl true 3 []]),(x3,.st [cc])]++us.flatMap UCode.lg)++cl)∧lk 0 e2=.c (.ptr R.l 0)∧lk 2 e2=.c (.ptr x2 0)∧lk 3 e2=.c (.ptr x3 0)∧lk 5 e2=.c (.int .i64 t)) ?_ ?_
     ·intro Q hn _ _;have hs:=hgr.slc kn;have hsok:=eq_true hs.ok;have hlen:=hs.len;have hsz:=hs.sz;rw[Jk]at hlen;refine Qe ?_;refine Qaj ?_;simp only[go_sem,hx3,hcow,hsok,hlen];refine Qa8 (kn.e 0 rfl) (by omega) fun v H8 hv hu=>?_;have kn:=kn.callE 0 rfl hu (R.o_ne _);rw[if_neg (by omega)]at hv;obtain⟨ci,rfl⟩:=Jn hv.1;have hci:ci<us.length:=(by omega);have hx3:=kn.l 1 rfl;have hs:=hgr.slc kn;have hsok:=eq_true hs.ok;simp only[go_sem,Qakg,hx3,hcow,hsok,hlen,hsz,hci];obtain⟨u,hu⟩:∃u,us[ci]=u:=⟨_,rfl⟩;obtain⟨huok,husm⟩:=hok _ (Jc hci);rw[hu]at huok husm;have hrow:(us.map UCode.row).getD ci []=[.int .i64 u.params,.int .i64 u.regs,u.bc]:=(by rw[←hu];simp[Jb,hci,UCode.row]);have hub0:=husm.b0;have hub1:=husm.b;obtain⟨yb,hbc,hbl⟩:=UCode.bvec huok hub0;have hblow:=huok.b.isOw;have hblen:=huok.b.lenC;rw[Jk]at hblen;have hrws:=hs.rows;have hmemb:∀p∈u.bl,p∈(([(x2,.st [.sl true 3 []]),(x3,.st [cc])]++us.flatMap UCode.lg)++cl):=fun p hp=>by
       have:p∈us.flatMap UCode.lg:=Jaa.2 ⟨u,by rw[←hu];exact Jc hci,Je _ hp⟩;simp[this]
      have hbok:=eq_true (huok.b.slcM kn hmemb).ok;refine Qa ?_;simp only[go_sem,hx3,hcow,hsok,hlen,hsz,hci,hrws,hrow,hblow,hblen,hbok];intro _;refine Qa8 (kn.e 0 rfl) (by omega) fun v H9 hv hu9=>?_;have kn:=kn.callE 0 rfl hu9 (R.o_ne _);rw[if_neg (by omega)]at hv;obtain⟨bi,rfl⟩:=Jn hv.1;have hbi:bi<u.blocks.length:=(by omega);have hsok:=eq_true (hgr.slcM kn hmem).ok;have hrws:=(hgr.slcM kn hmem).rows;simp only[go_sem,Qakh];refine Qa ?_;simp only[go_sem,hcow,hsok,hlen,hsz,hci,hrws,hrow,hblow];refine Qa8 (kn.e 0 rfl) (by omega) fun to H10 _ hu10=>?_;have kn:=kn.callE 0 rfl hu10 (R.o_ne _);simp only[go_sem,Qaaz];intro x8 hx8 H11 h11;have kn:=kn.al hx8 h11;have kn:=kn.perm Jf;have hx8:=kn.l 0 rfl;simp only[go_sem,Qaay,hx8];intro H12 h12;have kn:Kn H H12 [(R.l,R.o (k2+1+1+1))] ([(x8,.st [.int .i64 to,.sl true 1 []])]++(([(x2,.st [.sl true 3 []]),(x3,.st [cc])]++us.flatMap UCode.lg)++cl)):=kn.stL 0 rfl h12;have hmem2:∀p∈cl,p∈([(x8,Obj.st [.int .i64 to,.sl true 1 []])]++(([(x2,.st [.sl true 3 []]),(x3,.st [cc])]++us.flatMap UCode.lg)++cl)):=fun p hp=>Je _ (hmem p hp);have hsok:=eq_true (hgr.slcM kn hmem2).ok;have hrws:=(hgr.slcM kn hmem2).rows;have hbs:=huok.b.slcM kn (fun p hp=>Je _ (hmemb p hp));refine Qaa ?_;refine Qa ?_;simp only[go_sem,hcow,hsok,hlen,hsz,hci,hrws,hrow,hblow];refine Qae3 (rows:=u.blocks.map UBlk.row) (nx:=fun i=>(u.blocks.map UBlk.next).getD i []) hbs hblow (fun i hi=>?_) fun H13 hu13=>?_
      ·rw[Jk]at hi;refine⟨u.blocks[i].pc,u.blocks[i].ic,.int .i64 u.blocks[i].jump,.int .i64 u.blocks[i].on,u.blocks[i].nfl,?_⟩;simp[Jb,hi,UBlk.row]
      have kn:=kn.call0 hu13;obtain⟨ps,hps⟩:∃ps,Qav (fun i=>(u.blocks.map UBlk.next).getD i []) (bi:Int) (u.blocks.map UBlk.row).length=ps:=⟨_,rfl⟩;have hpsl:ps.length≤160:=by
       have:=Qi7 (fun i=>(u.blocks.map UBlk.next).getD i []) (bi:Int) (u.blocks.map UBlk.row).length;rw[hps,Jk]at this;omega
      rw[hps];simp only[go_sem,Qaa0,Qf];intro _;refine Qh (Qe (Qx (fun m e1 H1=>∃(q:Nat) (ns:List Int) (ac:C) (al:List (Nat×Obj)),m=ps.length-q∧q≤ps.length∧ns.length=q∧Gr al 1 (Qb ns) ac∧
       Kn H H1 [(R.l,R.o (k2+1+1+1+q))] (([(x8,.st [.int .i64 to,ac])]++(([(x2,.st [.sl true 3 []]),(x3,.st [cc])]++us.flatMap UCode.lg)++cl))++al)∧
       e1=[(0,.c (.ptr R.l 0)),(2,.c (.ptr x2 0)),(3,.c (.ptr x3 0)),(5,.c (.int .i64 t)),(6,.c (cc.ep 3 ci 0)),(7,.c (.int .i64 bi)),(8,.c (.ptr x8 0)),(59,.c (.int .i64 ps.length)),(60,.c (.int .i64 q))]) ps.length ?_ ?_))
      ·exact⟨0,[],_,[],by omega,by omega,rfl,.nil 1,by simpa using kn,rfl⟩
      ·rintro m2 e1 H14 ⟨q,ns,ac,al,hm2,hq,hns,hga,kn,rfl⟩;have hacow:=hga.isOw;have hx8:=kn.l 0 rfl;have hmem3:∀p∈cl,p∈(([(x8,Obj.st [.int .i64 to,ac])]++(([(x2,.st [.sl true 3 []]),(x3,.st [cc])]++us.flatMap UCode.lg)++cl))++al):=fun p hp=>List.mem_append_left _ (Je _ (hmem p hp));have hsok:=eq_true (hgr.slcM kn hmem3).ok;have hrws:=(hgr.slcM kn hmem3).rows;refine Qa ?_;simp only[go_sem];refine Qh (Qd rfl ?_ ?_)
       ·intro hc;have hlt:q<ps.length:=(by simpa using hc);refine Qg ?_;simp only[go_sem];refine Qh (Qe (Qbn ?_));simp only[go_sem,hx8,hacow,hcow,hsok,hlen,hsz,hci,hrws,hrow,hblow];refine Qa8 (kn.e 0 rfl) (by omega) fun v H15 _ hu15=>?_;have kn:=kn.callE 0 rfl hu15 (R.o_ne _);have hx8:=kn.l 0 rfl;simp only[go_sem,Qaa2,hx8,hacow];refine kn.grow (new:=Qb [v]) hga (.mk' _ _ _ _) (Qz _) (by simp only[Qf,LIM,Jj,Jo];omega) fun y H16 kn=>?_;have hx8:=kn.l 0 rfl;simp only[go_sem,Qaa1,hx8];intro H17 h17;have kn:=kn.stL 0 rfl h17;refine Qt ?_;simp only[go_sem,X.next];refine⟨Qs (by omega) (by omega),ps.length-(q+1),by omega,q+1,ns++[v],_,_,rfl,by omega,by simp[hns],?_,kn,rfl⟩;rw[←Qb1];exact .mk _ _ _ (by simp[Qb1,Qf])
       ·intro hc;have hqp:q=ps.length:=(by have:¬q<ps.length:=(by simpa using hc);omega);refine Qw ?_;simp only[go_sem,X.next];refine Qa ?_;simp only[go_sem];refine Qd rfl ?_ ?_
        ·intro hc;obtain⟨blk,hblk⟩:∃blk,u.blocks[bi]=blk:=⟨_,rfl⟩;have hbok2:=huok.bs _ (Jc hbi);have hbsm2:=husm.bs _ (Jc hbi);rw[hblk]at hbok2 hbsm2;have hbp:=hbsm2.p;have hbr:(u.blocks.map UBlk.row).getD bi []=[blk.pc,blk.ic,.int .i64 blk.jump,.int .i64 blk.on,.sl blk.nfl 1 (Qb blk.next)]:=(by rw[←hblk];simp[Jb,hbi,UBlk.row]);have hpcow:=hbok2.p.isOw;have hbl5:(u.blocks.map UBlk.row).length=u.blocks.length:=(by simp);have kn:Kn H H14 [(R.l,R.o (k2+1+1+1+q))] (([(yb,.vec 5 (u.blocks.map UBlk.row))]++([(x8,.st [.int .i64 to,ac])]++([(x2,.st [.sl true 3 []]),(x3,.st [cc])]++(blk.core++(al++(Qawq us ci bi hci++cl))))))++blk.pl):=kn.perm (Qp fun f hf h0 hc1 hp=>by
          have h1:=hp _ _ (Qbrz us ci bi hci (by rw[hu];exact hbi));subst hu;rw[hblk,hbl]at h1;simp only[hf]at h1⊢;omega)
         have hyb:=kn.l 0 rfl;have hx8:=kn.l 1 rfl;have hmem4:∀p∈cl,p∈(([(yb,Obj.vec 5 (u.blocks.map UBlk.row))]++([(x8,Obj.st [.int .i64 to,ac])]++([(x2,Obj.st [.sl true 3 []]),(x3,Obj.st [cc])]++(blk.core++(al++(Qawq us ci bi hci++cl))))))++blk.pl):=fun p hp=>(by simp[hp]);have hsok:=eq_true (hgr.slcM kn hmem4).ok;have hrws:=(hgr.slcM kn hmem4).rows;obtain⟨ph,hph⟩:∃ph:UPhi,ph=⟨to,ns,ac,al⟩:=⟨_,rfl⟩;have hphr:[C.int IntKind.i64 to,ac]=ph.row:=(by rw[hph];rfl);have hphl:ph.al=al:=(by rw[hph]);have hphg:Gr ph.al 1 (Qb ph.ns) ph.ac:=(by rw[hph];exact hga);rw[hbc]at hrow hblow hblen;have hgp:=hbok2.p;have htk:List.take u.blocks.length (u.blocks.map UBlk.row)=u.blocks.map UBlk.row:=Jd (by simp);refine Qbn ?_;simp only[go_sem,hx8,hacow,hcow,hsok,hlen,hsz,hci,hrws,hrow,hyb,hbi,hbl5,htk,hbr,hpcow,Jp,Jab,Ji];rw[hphr];refine kn.grow (new:=[ph.row]) hgp (.mk' _ _ _ _) (by intro r hr;simp only[Ja]at hr;subst hr;exact ph.noOw hphg) (by simp only[Jk,Jj,Jo,LIM];omega) fun z H15 kn=>?_;have kn:Kn H H15 [(R.l,R.o (k2+1+1+1+q))] ([(yb,.vec 5 (u.blocks.map UBlk.row))]++(([(x8,.st [.int .i64 to,ac])]++([(x2,.st [.sl true 3 []]),(x3,.st [cc])]++(blk.core++(al++(Qawq us ci bi hci++cl)))))++[(z,.vec 2 ((blk.phis++[ph]).map UPhi.row))])):=by
          simpa[Jg]using kn
         have hyb:=kn.l 0 rfl;have hmem5:∀p∈cl,p∈([(yb,Obj.vec 5 (u.blocks.map UBlk.row))]++(([(x8,Obj.st [.int .i64 to,ac])]++([(x2,Obj.st [.sl true 3 []]),(x3,Obj.st [cc])]++(blk.core++(al++(Qawq us ci bi hci++cl)))))++[(z,.vec 2 ((blk.phis++[ph]).map UPhi.row))])):=fun p hp=>(by simp[hp]);have hsok:=eq_true (hgr.slcM kn hmem5).ok;have hrws:=(hgr.slcM kn hmem5).rows;simp only[go_sem,Qaa3,hcow,hsok,hlen,hsz,hci,hrws,hrow,hyb,hbi,hbl5,htk,hbr,hpcow,Jp,Ji];intro H16 h16;obtain⟨b',hb'⟩:∃b':UBlk,b'={ blk with phis:=blk.phis++[ph],pc:=.vsl z 2 0 ((blk.phis.map UPhi.row).length+1),pl:=[(z,.vec 2 ((blk.phis++[ph]).map UPhi.row))] }:=⟨_,rfl⟩;have hbr':[C.vsl z 2 0 ((blk.phis.map UPhi.row).length+1),blk.ic,C.int IntKind.i64 blk.jump,C.int IntKind.i64 blk.on,C.sl blk.nfl 1 (Qb blk.next)]=b'.row:=(by rw[hb'];rfl);have hbset:(u.blocks.map UBlk.row).set bi b'.row=(u.blocks.set bi b').map UBlk.row:=(by rw[Jv]);rw[hbr',hbset]at h16;have kn:=kn.stL 0 rfl h16;have hbok':b'.ok:=by
          rw[hb'];refine⟨.mk _ _ _ (by simp),hbok2.i,fun p hp=>?_⟩;rcases Jm.1 hp with h|h
          ·exact hbok2.a p h
          ·simp only[Ja]at h;subst h;exact hphg
         have hbsm':b'.sm (N+1):=by
          rw[hb'];refine⟨hbsm2.n,hbsm2.i,by simp;omega,hbsm2.ia,fun p hp=>?_⟩;rcases Jm.1 hp with h|h
          ·exact hbsm2.pa p h
          ·simp only[Ja]at h;subst h;rw[hph];show ns.length≤1000;omega
         obtain⟨u',hu'⟩:∃u',u'=u.put bi b' [(yb,.vec 5 ((u.blocks.set bi b').map UBlk.row))]:=⟨_,rfl⟩;have huok':u'.ok:=(by rw[hu'];exact UCode.put_ok huok hbok' hbl);have husm':u'.sm (N+1):=(by rw[hu'];exact UCode.put_sm husm hbsm');have hkn:Kn H H16 [(R.l,R.o (k2+1+1+1+q))] ((([(x2,.st [.sl true 3 []]),(x3,.st [cc])]++(us.set ci u').flatMap UCode.lg)++cl)++[(x8,.st [.int .i64 to,ac])]):=kn.perm (Qp fun f hf h0 hc1 hp=>by
          have h1:=hp _ _ (Qbu8 us ci bi hci (by rw[hu];exact hbi) b' [(yb,.vec 5 ((u.blocks.set bi b').map UBlk.row))]);rw[hu,←hu']at h1;have h2:b'.core=blk.core++al:=(by rw[hb',UBlk.core_snoc,hphl]);have h3:b'.pl=[(z,.vec 2 ((blk.phis++[ph]).map UPhi.row))]:=(by rw[hb']);rw[h2,h3]at h1;simp only[Jr,Jq,Jt,hf,hc1 _ (_::_),hc1 _ (_++_)]at h1⊢;omega)
         refine hn _ _ ⟨k2+1+1+1+q,us.set ci u',by simpa using hui,by omega,by omega,fun v hv=>?_,?_,hkn.drop,rfl,rfl,rfl,rfl⟩
         ·rcases J0 hv with hv|rfl
          ·exact⟨(hok v hv).1,(hok v hv).2.mono (by omega)⟩
          ·exact⟨huok',husm'⟩
         ·rw[Qbu9 us ci hci u' (by rw[hu',UCode.put_row,hu])];exact hgr
        ·intro hc;refine Qg ?_;simp only[go_sem];refine hn _ _ ⟨k2+1+1+1+q,us,hui,by omega,by omega,fun u hu=>⟨(hok u hu).1,(hok u hu).2.mono (by omega)⟩,hgr,?_,rfl,rfl,rfl,rfl⟩;have kn:=kn.drop;exact (kn.perm Jf).drop
     rintro e2 H8 ⟨k3,us,hui,hk5,hk6,hok,hgr,kn,l0,l2,l3,l5⟩;refine Qt ?_;simp only[go_sem,X.next,l0,l2,l3,l5];refine⟨Qs (by omega) (by omega),t-1,by omega,t-1,k3,N+1,us,rfl,by omega,hui,hk5,by omega,hok,hgr,kn,?_⟩;have:(t:Int)-1=((t-1:Nat):Int):=(by omega);rw[this]
    ·intro hc;refine Qw ?_;simp only[go_sem,X.next];have hx2:=kn.l 0 rfl;refine Qa ?_;simp only[go_sem,hx2,hx3,hcow];intro H8 h8;have kn:=kn.stL 0 rfl h8;have hx2:=kn.l 0 rfl;refine Qk ?_;simp only[go_sem,Q5,Qae,Qbce,reduceIte,Ja,forall_eq,RS.op,hx2,hcow];have hheld:Held H8 (un H) (us.flatMap UCode.lg++cl):=fun p hp=>by
      have hp2:p∈(([(x2,Obj.st [cc]),(x3,Obj.st [cc])]++us.flatMap UCode.lg)++cl):=by
       rcases Jm.1 hp with h|h
       ·simp[h]
       ·simp[h]
      exact⟨(kn.get p (Je _ hp2)).1,Qj1 (kn.loc p hp2)⟩
     obtain⟨cs,hf,hcn,hcs⟩:=UCodes.frz (N:=N) (by omega) hgr hok hheld;exact⟨_,FrzL.ag (.cons hf .nil),hK cs _ k2 hk3 (by omega) kn.fin (by omega) (by omega) hcs⟩
end Go.AE.Y
namespace Go.AE
open Go.AE.Y
open Go.Proofs.Tryz
variable {H:Heap}{K:V→Heap→Prop}
theorem Kn.lm {H0 H:Heap}{E L:List (Nat×Obj)}{x:Nat}{o:Obj}(kn:Kn H0 H E L)(h:(x,o)∈L):H x=o:=(kn.get (x,o) (Je _ h)).1
end Go.AE
namespace Go.AE.Y
open Go.Proofs.Tryz
variable {H:Heap}{K:V→Heap→Prop}
set_option maxHeartbeats 4000000 in
theorem Qbon {R:Rdr}{k:Nat}(hH:H R.l=R.o k)(hk:k+20000≤2^40)
  (hK:∀(cs:List CodeD) (H':Heap) (k':Nat),k<k'→k'≤k+20000→Upd H H' [(R.l,R.o k')]→0<cs.length→cs.length≤3→(∀c∈cs,c.gd)→K (.ag [.sl false 3 (Qj cs)]) H') :
  Qr prog Qaeq [.c (.ptr R.l 0)] H K:=by
 refine Q3 ?_;refine Qc Qal Qbo9 ?_;refine Qa ?_;simp only[go_sem];intro x2 hx2 H1 h1;have kn:=(Kn.start1 hH (R.o_ne k)).al hx2 h1;refine Qa ?_;simp only[go_sem];refine Qbby (kn.e 0 rfl) (by omega) fun cs H2 k1 hk1 hk2 hu hcs0 hcs3 hsm=>?_;have kn:=kn.callE 0 rfl hu (R.o_ne _);simp only[go_sem,Qai8];refine Qaxh hsm (by omega) fun us cc cl H3 k2 hgr hok hul=>?_;have kn:=kn.comp0 k2;have hcow:=hgr.isOw;simp only[go_sem,Qai7,hcow];intro x3 hx3 H4 h4;have kn:=kn.al hx3 h4;have kn:=kn.perm Jf;have hx3:=kn.l 0 rfl;simp only[go_sem,Qai6,hx3,hcow];intro H5 h5;have kn:=kn.stL 0 rfl h5;have kn:Kn H H5 [(R.l,R.o k1)] (([(x2,.st [.sl true 3 []]),(x3,.st [cc])]++us.flatMap OCode.lg)++cl):=kn.perm (Qp fun f hf h0 hc1 hp=>by
  simp only[Jr,Jq,Jt,hf,hc1 _ (_::_),hc1 _ (_++_),hc1 _ (List.flatMap _ _)];omega)
 have hx3:=kn.l 1 rfl;have hs:=hgr.slc kn;have hsok:=eq_true hs.ok;have hlen:=hs.len;have hsz:=hs.sz;rw[Jk]at hlen;refine Qaj ?_;simp only[go_sem,hx3,hcow,hsok,hlen];refine Qa8 (kn.e 0 rfl) (by omega) fun v H6 hv hu=>?_;have kn:=kn.callE 0 rfl hu (R.o_ne _);rw[if_neg (by omega)]at hv;obtain⟨ci,rfl⟩:=Jn hv.1;have hci:ci<us.length:=by omega
 have hx3:=kn.l 1 rfl;have hs:=hgr.slc kn;have hsok:=eq_true hs.ok;have hrws:=hs.rows;simp only[go_sem,Qai9,hx3,hcow,hsok,hlen,hsz,hci];obtain⟨u,hu⟩:∃u,us[ci]=u:=⟨_,rfl⟩;obtain⟨huok,husm⟩:=hok _ (Jc hci);rw[hu]at huok husm;have hrow:(us.map OCode.row).getD ci []=[.int .i64 u.params,.int .i64 u.regs,u.bc]:=by rw[←hu];simp[Jb,hci,OCode.row]
 have hub0:=husm.b0;have hub1:=husm.b;obtain⟨yb,hbc,hbl⟩:=OCode.bvec huok hub0;have hblow:(C.vsl yb 5 0 u.blocks.length).isOw=false:=rfl;have hblen:lenC (C.vsl yb 5 0 u.blocks.length)=u.blocks.length:=rfl;rw[hbc]at hrow;have hybm:(yb,Obj.vec 5 (u.blocks.map OBlk.row))∈(([(x2,Obj.st [.sl true 3 []]),(x3,.st [cc])]++us.flatMap OCode.lg)++cl):=by
  have:(yb,Obj.vec 5 (u.blocks.map OBlk.row))∈us.flatMap OCode.lg:=Jaa.2 ⟨u,by rw[←hu];exact Jc hci,Je _ (by rw[hbl];simp)⟩;simp[this]
 have hyb:=kn.lm hybm;have hbl5:(u.blocks.map OBlk.row).length=u.blocks.length:=by simp
 have htk:List.take u.blocks.length (u.blocks.map OBlk.row)=u.blocks.map OBlk.row:=Jd (by simp);refine Qaj ?_;simp only[go_sem,hcow,hsok,hlen,hsz,hci,hrws,hrow,hyb,hbl5,Ji,Jl];refine Qa8 (kn.e 0 rfl) (by omega) fun v H7 hv hu7=>?_;have kn:=kn.callE 0 rfl hu7 (R.o_ne _);rw[if_neg (by omega)]at hv;obtain⟨bi,rfl⟩:=Jn hv.1;have hbi:bi<u.blocks.length:=by omega
 have hs:=hgr.slc kn;have hsok:=eq_true hs.ok;have hrws:=hs.rows;have hyb:=kn.lm hybm;simp only[go_sem,Qaja,hcow,hsok,hlen,hsz,hci,hrws,hrow,hyb,hbl5,hbi,Ji,Jl];refine Qaj ?_;simp only[go_sem,hcow,hsok,hlen,hsz,hci,hrws,hrow,hyb,hbl5,hbi,Ji,Jl];refine Qi5 (ns:=[-1,u.regs,u.blocks.length,0,1]) (kn.e 0 rfl) (by omega) (by simp) fun bad H8 _ hu8=>?_;have kn:=kn.callE 0 rfl hu8 (R.o_ne _);simp only[go_sem,Qajb];refine Qaa ?_;refine Qa ?_;simp only[go_sem];refine Qa8 (kn.e 0 rfl) (by omega) fun kind H9 _ hu9=>?_;have kn:=kn.callE 0 rfl hu9 (R.o_ne _);refine Qd3 (fun e2 H2=>∃(k3:Nat) (us:List OCode) (cl:List (Nat×Obj)),us.length=cs.length∧k<k3∧k3≤k+20000∧(∀u∈us,u.ok∧u.sm 1001)∧Gr cl 3 (us.map OCode.row) cc∧
   Kn H H2 [(R.l,R.o k3)] (([(x2,.st [.sl true 3 []]),(x3,.st [cc])]++us.flatMap OCode.lg)++cl)∧lk 2 e2=.c (.ptr x2 0)∧lk 3 e2=.c (.ptr x3 0)) ?_ ?_
 ·intro Q hn _ _;have hull:us.length=cs.length:=hul;have knO:=kn;obtain⟨blk,hblk⟩:∃blk,u.blocks[bi]=blk:=⟨_,rfl⟩;have hbok:=huok.bs _ (Jc hbi);have hbsm:=husm.bs _ (Jc hbi);rw[hblk]at hbok hbsm;have hbr:(u.blocks.map OBlk.row).getD bi []=[blk.pc,blk.ic,.int .i64 blk.jump,.int .i64 blk.on,.vsl blk.nx.y 1 0 blk.nx.ns.length]:=by rw[←hblk];simp[Jb,hbi,OBlk.row,OInts.c]
  have hpcow:=hbok.p.isOw;have hicow:=hbok.i.isOw;have kn:=Qbdq kn hci hu hbi hblk hbl;have hset:∀b':OBlk,(u.blocks.map OBlk.row).set bi b'.row=(u.blocks.set bi b').map OBlk.row:=fun b'=>(Jv).symm;have hdone:∀(b':OBlk) (H2:Heap) (k3:Nat) (e2:Env),b'.ok→b'.sm 1001→k<k3→k3≤k+20000→Kn H H2 [(R.l,R.o k3)] ([(yb,.vec 5 ((u.blocks.set bi b').map OBlk.row))]++(b'.lg++(Qamh us ci bi hci++([(x2,Obj.st [.sl true 3 []]),(x3,.st [cc])]++cl))))→
    lk 2 e2=.c (.ptr x2 0)→lk 3 e2=.c (.ptr x3 0)→Q .nrm e2 H2:=by
   intro b' H2 k3 e2 h1 h2 h3 h4 kn l2 l3;obtain⟨us',g1,g2,g3,g4⟩:=Qbhs (N:=1000) hci hu hbi hbl hok h1 h2 hgr kn;exact hn _ _ ⟨k3,us',cl,by omega,h3,h4,g3,g2,g4,l2,l3⟩
  have hsame:∀e2:Env,lk 2 e2=.c (.ptr x2 0)→lk 3 e2=.c (.ptr x3 0)→Q .nrm e2 H9:=fun e2 l2 l3=>
   hn _ _ ⟨_,us,cl,hul,by omega,by omega,fun u hu=>⟨(hok u hu).1,(hok u hu).2.mono (by omega)⟩,hgr,knO,l2,l3⟩
  refine Qe ?_;refine Qa ?_;simp only[go_sem];have hsok:=eq_true (hgr.slcM kn (fun p hp=>by simp[hp])).ok;have hrws:=(hgr.slcM kn (fun p hp=>by simp[hp])).rows;have hyb:=kn.l 0 rfl;refine Qd rfl ?_ ?_
  ·intro hc;refine Qt ?_;simp only[go_sem];refine Qa8 (kn.e 0 rfl) (by omega) fun v H10 _ hu10=>?_;have kn:=kn.callE 0 rfl hu10 (R.o_ne _);have hyb:=kn.l 0 rfl;simp only[go_sem,Qajc,hyb,hbl5,htk,hbi,hbr,hpcow,hicow,Qca,Jp,Ji,Jl];intro H11 h11;have hb':[blk.pc,blk.ic,C.int IntKind.i64 v,C.int IntKind.i64 blk.on,C.vsl blk.nx.y 1 0 blk.nx.ns.length]=({ blk with jump:=v }:OBlk).row:=rfl;rw[hb',hset]at h11;exact hdone { blk with jump:=v } _ _ _ ⟨hbok.p,hbok.i,hbok.a⟩ ⟨hbsm.n,hbsm.i,by have:=hbsm.p;show blk.phis.length≤_;omega,fun x hx=>by have:=hbsm.ia x hx;omega⟩ (by omega) (by omega) (kn.stL 0 rfl h11) (by simp[lk]) (by simp[lk])
  intro hc0;refine Qa ?_;simp only[go_sem];refine Qd rfl ?_ ?_
  ·intro hc;have hny:H9 blk.nx.y=.vec 1 (Qb blk.nx.ns):=kn.l 1 rfl;have htk2:List.take blk.nx.ns.length (Qb blk.nx.ns)=Qb blk.nx.ns:=Jd (by simp[Qf]);refine Qa ?_;simp only[go_sem,hyb,hbl5,htk,hbi,hbr,hpcow,hicow,Qca,Jp,Ji,Jl,hny,Qf];intro _;refine Qd rfl ?_ ?_
   ·intro hc2;have hn0:0<blk.nx.ns.length:=(by simpa using hc2);have hg1:=Qu blk.nx.ns 0 hn0;refine Qt ?_;simp only[go_sem,hyb,hbl5,htk,hbi,hbr,hpcow,hicow,Qca,Jp,Ji,Jl,hny,hn0,hg1,htk2,Qf];refine⟨by omega,fun H11 h11=>?_⟩;have hs1:(Qb blk.nx.ns).set 0 [C.int IntKind.i64 bad]=Qb (blk.nx.ns.set 0 bad):=(by simp[Qb,Jv]);rw[hs1]at h11;have kn:Kn H H11 [(R.l,R.o (k1+1+1+1+1))] ([(yb,.vec 5 (u.blocks.map OBlk.row))]++(OBlk.lg { blk with nx:=⟨blk.nx.ns.set 0 bad,blk.nx.y⟩ }++(Qamh us ci bi hci++([(x2,Obj.st [.sl true 3 []]),(x3,.st [cc])]++cl)))):=kn.stL 1 rfl h11;refine hdone { blk with nx:=⟨blk.nx.ns.set 0 bad,blk.nx.y⟩ } _ (k1+1+1+1+1) _ ⟨hbok.p,hbok.i,hbok.a⟩ ⟨by simpa using hbsm.n,hbsm.i,by have:=hbsm.p;show blk.phis.length≤_;omega,fun x hx=>by have:=hbsm.ia x hx;omega⟩ (by omega) (by omega) ?_ (by simp[lk]) (by simp[lk]);rw[Qadr hbi (by rw[hblk];simp[OBlk.row,OInts.c])];exact kn
   ·intro hc2;refine Qg ?_;exact hsame _ (by simp[lk]) (by simp[lk])
  intro hc1;refine Qa ?_;simp only[go_sem];refine Qd rfl ?_ ?_
  ·intro hc;refine Qt ?_;simp only[go_sem,hyb,hbl5,htk,hbi,hbr,hpcow,hicow,Qca,Jp,Ji,Jl];intro H11 h11;have hb':[blk.pc,blk.ic,C.int IntKind.i64 blk.jump,C.int IntKind.i64 bad,C.vsl blk.nx.y 1 0 blk.nx.ns.length]=({ blk with on:=bad }:OBlk).row:=rfl;rw[hb',hset]at h11;exact hdone { blk with on:=bad } _ _ _ ⟨hbok.p,hbok.i,hbok.a⟩ ⟨hbsm.n,hbsm.i,by have:=hbsm.p;show blk.phis.length≤_;omega,fun x hx=>by have:=hbsm.ia x hx;omega⟩ (by omega) (by omega) (kn.stL 0 rfl h11) (by simp[lk]) (by simp[lk])
  intro hc2;refine Qa ?_;simp only[go_sem];have hilen:lenC blk.ic=blk.ins.length:=by rw[hbok.i.lenC];simp
  have hiok:okSl H9 blk.ic=True:=eq_true (hbok.i.slcM kn (fun p hp=>by simp[OBlk.lg,hp])).ok;refine Qd rfl ?_ ?_
  ·intro hc;refine Qa ?_;simp only[go_sem,hyb,hbl5,htk,hbi,hbr,hpcow,hicow,Qca,Jp,Ji,Jl,hilen,hiok];intro _;refine Qd rfl ?_ ?_
   ·intro hc2;have hn0:0<blk.ins.length:=(by simpa using hc2);obtain⟨yi,hic,hil⟩:=OBlk.ivec hbok hn0;rw[hic]at hbr;have knI:=Qask kn hil;have hyi:=knI.l 0 rfl;obtain⟨x,hx⟩:∃x,blk.ins[0]=x:=⟨_,rfl⟩;have hxr:(blk.ins.map OIns.row).getD 0 []=[.int .i64 x.op,.int .i64 x.to,.vsl x.a.y 1 0 x.a.ns.length,.int .i64 x.n]:=(by rw[←hx];simp[Jb,hn0,OIns.row,OInts.c]);have hil4:(blk.ins.map OIns.row).length=blk.ins.length:=(by simp);have htk4:List.take blk.ins.length (blk.ins.map OIns.row)=blk.ins.map OIns.row:=Jd (by simp);have hxa:x.a.ns.length≤1000:=hbsm.ia x (by rw[←hx];exact Jc hn0);refine Qt ?_;simp only[go_sem,hyb,hbl5,htk,hbi,hbr,hpcow,hicow,Qca,Jp,Ji,Jl,hyi,hn0,hxr,hil4,htk4];refine⟨by omega,fun H12 h12=>?_⟩;have hr':[C.int IntKind.i64 x.op,C.int IntKind.i64 bad,C.vsl x.a.y 1 0 x.a.ns.length,C.int IntKind.i64 x.n]=({ x with to:=bad }:OIns).row:=rfl;rw[hr',←Jv]at h12;have knD:=Qbih (b:=blk) (is:=blk.ins.set 0 { x with to:=bad }) (knI.stL 0 rfl h12) (Q75 hn0 (by rw[hx];rfl));refine hdone _ _ (k1+1+1+1+1) _ (OBlk.ins_ok (i:=0) (x':={ x with to:=bad }) hbok hic) (OBlk.ins_sm (i:=0) (x':={ x with to:=bad }) hbsm (by show x.a.ns.length≤_;omega)) (by omega) (by omega) ?_ (by simp[lk]) (by simp[lk]);rw[Qadr hbi (by rw[hblk];rfl)];exact knD
   ·intro hc2;refine Qg ?_;exact hsame _ (by simp[lk]) (by simp[lk])
  intro hc3;refine Qa ?_;simp only[go_sem];refine Qd rfl ?_ ?_
  ·intro hc;refine Qa ?_;simp only[go_sem,hyb,hbl5,htk,hbi,hbr,hpcow,hicow,Qca,Jp,Ji,Jl,hilen,hiok];intro _;refine Qd rfl ?_ ?_
   ·intro hc2;have hn0:0<blk.ins.length:=(by simpa using hc2);obtain⟨yi,hic,hil⟩:=OBlk.ivec hbok hn0;rw[hic]at hbr;have knI:=Qask kn hil;have hyi:=knI.l 0 rfl;obtain⟨x,hx⟩:∃x,blk.ins[0]=x:=⟨_,rfl⟩;have hxr:(blk.ins.map OIns.row).getD 0 []=[.int .i64 x.op,.int .i64 x.to,.vsl x.a.y 1 0 x.a.ns.length,.int .i64 x.n]:=(by rw[←hx];simp[Jb,hn0,OIns.row,OInts.c]);have hil4:(blk.ins.map OIns.row).length=blk.ins.length:=(by simp);have htk4:List.take blk.ins.length (blk.ins.map OIns.row)=blk.ins.map OIns.row:=Jd (by simp);have hxa:x.a.ns.length≤1000:=hbsm.ia x (by rw[←hx];exact Jc hn0);refine Qbn ?_;have knA:Kn H H9 [(R.l,R.o (k1+1+1+1+1))] ([(x.a.y,.vec 1 (Qb x.a.ns))]++([(yi,.vec 4 (blk.ins.map OIns.row))]++([(yb,.vec 5 (u.blocks.map OBlk.row))]++(blk.nx.lg++(blk.phis.flatMap OPhi.lg++(blk.pl++((blk.ins.eraseIdx 0).flatMap OIns.lg++(Qamh us ci bi hci++([(x2,Obj.st [.sl true 3 []]),(x3,.st [cc])]++cl))))))))):=knI.perm (Qp fun f hf h0 hc1 hp=>by
     have h1:=hp _ _ (Qiq OIns.lg blk.ins 0 hn0);rw[hx]at h1;have h2:x.lg=[(x.a.y,.vec 1 (Qb x.a.ns))]:=rfl;rw[h2]at h1;simp only[hf]at h1⊢;omega)
    have hxy:=knA.l 0 rfl;have htk1:List.take x.a.ns.length (Qb x.a.ns)=Qb x.a.ns:=Jd (by simp[Qf]);simp only[go_sem,hyb,hbl5,htk,hbi,hbr,hpcow,hicow,Qca,Jp,Ji,Jl,hyi,hn0,hxr,hil4,htk4,hxy,Qf,htk1];refine⟨by omega,by simp only[LIM];omega,fun y' hy' H10 h10=>?_⟩;have knA:=knA.ap 0 rfl hy' h10;have hyi:=knA.l 1 rfl;have hyb:=knA.l 2 rfl;simp only[go_sem,Qajd,hyb,hbl5,htk,hbi,hbr,hpcow,hicow,Qca,Jp,Ji,Jl,hyi,hn0,hxr,hil4,htk4];refine⟨by omega,fun H12 h12=>?_⟩;obtain⟨x',hx'⟩:∃x':OIns,x'={ x with a:=⟨x.a.ns++[bad],y'⟩ }:=⟨_,rfl⟩;have hr':[C.int IntKind.i64 x.op,C.int IntKind.i64 x.to,C.vsl y' 1 0 (x.a.ns.length+1),C.int IntKind.i64 x.n]=x'.row:=(by rw[hx'];simp[OIns.row,OInts.c]);have hl':x'.lg=[(y',.vec 1 (Qb x.a.ns++[[.int .i64 bad]]))]:=(by rw[hx'];simp[OIns.lg,OInts.lg,Qb]);rw[hr',←Jv]at h12;have knA:=knA.stL 1 rfl h12;refine hdone _ _ (k1+1+1+1+1) _ (OBlk.ins_ok (i:=0) (x':=x') hbok hic) (OBlk.ins_sm (i:=0) (x':=x') hbsm (by rw[hx'];simp;omega)) (by omega) (by omega) ?_ (by simp[lk]) (by simp[lk]);rw[Qadr hbi (by rw[hblk];rfl)];refine knA.perm (Qp fun f hf h0 hc1 hp=>?_);have h1:=hp _ _ (Qgo OIns.lg blk.ins 0 x' hn0);rw[hl']at h1;simp only[OBlk.lg,Jr,Jq,Jt,J5,hf,hc1 _ (_::_),hc1 _ (_++_),hc1 _ (List.flatMap _ _)]at h1⊢;omega
   ·intro hc2;refine Qg ?_;exact hsame _ (by simp[lk]) (by simp[lk])
  intro hc4;refine Qa ?_;simp only[go_sem];refine Qd rfl ?_ ?_
  ·intro hc;refine Qt ?_;simp only[go_sem,hyb,hbl5,htk,hbi,hbr,hpcow,hicow,Qca,Jp,Ji,Jl];have knP:Kn H H9 [(R.l,R.o (k1+1+1+1+1))] (([(yb,.vec 5 (u.blocks.map OBlk.row))]++(blk.nx.lg++(blk.phis.flatMap OPhi.lg++(blk.ins.flatMap OIns.lg++(blk.il++(Qamh us ci bi hci++([(x2,Obj.st [.sl true 3 []]),(x3,.st [cc])]++cl)))))))++blk.pl):=kn.perm (Qp fun f hf h0 hc1 hp=>by
    simp only[OBlk.lg,hf];omega)
   obtain⟨ph,hph⟩:∃ph:OPhi,ph=⟨0,[bad],.sl true 1 (Qb [bad]),[]⟩:=⟨_,rfl⟩;have hphr:[C.int IntKind.i64 0,C.sl true 1 [[C.int IntKind.i64 bad]]]=ph.row:=by rw[hph];rfl
   have hphok:ph.ok:=by rw[hph];exact .inr ⟨true,rfl,rfl⟩
   have hphl:ph.lg=[]:=by rw[hph]
   have hpl:=hbsm.p;rw[hphr];refine knP.grow (new:=[ph.row]) hbok.p (.mk' _ _ _ _) (by intro r hr;simp only[Ja]at hr;subst hr;exact ph.noOw hphok) (by simp only[Jk,Jj,Jo,LIM];omega) fun z H10 knP=>?_;have hyb:=knP.l 0 rfl;simp only[go_sem,Qaab,hyb,hbl5,htk,hbi,hbr,hpcow,hicow,Qca,Jp,Ji,Jl];intro H11 h11;obtain⟨b',hb'⟩:∃b':OBlk,b'={ blk with phis:=blk.phis++[ph],pc:=.vsl z 2 0 ((blk.phis.map OPhi.row).length+1),pl:=[(z,.vec 2 ((blk.phis++[ph]).map OPhi.row))] }:=⟨_,rfl⟩;have hbr':[C.vsl z 2 0 ((blk.phis.map OPhi.row).length+1),blk.ic,C.int IntKind.i64 blk.jump,C.int IntKind.i64 blk.on,C.vsl blk.nx.y 1 0 blk.nx.ns.length]=b'.row:=by rw[hb'];rfl
   rw[hbr',hset]at h11;have knP:=knP.stL 0 rfl h11;have hbok':b'.ok:=by
    rw[hb'];refine⟨.mk _ _ _ (by simp),hbok.i,fun p hp=>?_⟩;rcases Jm.1 hp with h|h
    ·exact hbok.a p h
    ·simp only[Ja]at h;subst h;exact hphok
   have hbsm':b'.sm 1001:=by
    rw[hb'];exact⟨hbsm.n,hbsm.i,by simp;omega,fun x hx=>by have:=hbsm.ia x hx;omega⟩
   refine hdone b' _ (k1+1+1+1+1) _ hbok' hbsm' (by omega) (by omega) ?_ (by simp[lk]) (by simp[lk]);have hbl':b'.lg=blk.nx.lg++(blk.phis.flatMap OPhi.lg++([(z,.vec 2 ((blk.phis++[ph]).map OPhi.row))]++(blk.ins.flatMap OIns.lg++blk.il))):=by
    rw[hb'];simp[OBlk.lg,Js,hphl]
   rw[hbl'];have hmm:blk.phis.map OPhi.row++[ph.row]=(blk.phis++[ph]).map OPhi.row:=by simp
   rw[hmm]at knP;refine knP.perm (Qp fun f hf h0 hc1 hp=>?_);simp only[Jr,Jq,Jt,J5,hf,hc1 _ (_::_),hc1 _ (_++_),hc1 _ (List.flatMap _ _)];omega
  intro hc5;refine Qa ?_;simp only[go_sem];refine Qd rfl ?_ ?_
  ·intro hc;refine Qbn ?_;simp only[go_sem,hcow,hsok,hlen,hsz,hci,hrws,hrow];refine Qa8 (kn.e 0 rfl) (by omega) fun v H10 hv hu10=>?_;have knO:=knO.callE 0 rfl hu10 (R.o_ne _);obtain⟨yc,hcc,hcl⟩:∃yc,cc=.vsl yc 3 0 us.length∧cl=[(yc,.vec 3 (us.map OCode.row))]:=by
    rcases hgr with ⟨h1,h2,h3⟩|⟨y,h1,h2⟩
    ·rw[List.map_eq_nil_iff]at h2;rw[h2]at hci;simp at hci
    ·exact⟨y,by rw[h1];simp,h2⟩
   have hyc:H10 yc=.vec 3 (us.map OCode.row):=knO.lm (by rw[hcl];simp);have hul3:(us.map OCode.row).length=us.length:=by simp
   have htk3:List.take us.length (us.map OCode.row)=us.map OCode.row:=Jd (by simp);have hbcow:=huok.b.isOw;simp only[go_sem,Qaac,hcc,hyc,hul3,htk3,hci,hrow,Qca,Jp,Ji,Jl];have hp0:=husm.p0;have hp1:=husm.p1;rw[if_neg (by omega)]at hv;refine⟨Qs (by omega) (by omega),fun H11 h11=>?_⟩;obtain⟨u',hu'⟩:∃u':OCode,u'={ u with regs:=u.params+v }:=⟨_,rfl⟩;have hur:[C.int IntKind.i64 u.params,C.int IntKind.i64 (u.params+v),C.vsl yb 5 0 u.blocks.length]=u'.row:=by rw[hu',←hbc];rfl
   have hul':u'.lg=u.lg:=by rw[hu'];rfl
   have huok':u'.ok:=by rw[hu'];exact⟨huok.b,huok.bs⟩
   have husm':u'.sm 1000:=by rw[hu'];exact⟨husm.b0,husm.b,husm.bs,husm.p0,husm.p1⟩
   rw[hur,←Jv]at h11;have knF:Kn H H10 [(R.l,R.o (k1+1+1+1+1+1))] ([(yc,.vec 3 (us.map OCode.row))]++([(x2,Obj.st [.sl true 3 []]),(x3,.st [cc])]++us.flatMap OCode.lg)):=by
    rw[hcl]at knO;exact knO.perm Jf
   have knF:=knF.stL 0 rfl h11;refine hn _ _ ⟨k1+1+1+1+1+1,us.set ci u',[(yc,.vec 3 ((us.set ci u').map OCode.row))],by simpa using hul,by omega,by omega,fun w hw=>?_,?_,?_,by simp[lk],by simp[lk]⟩
   ·rcases J0 hw with hw|rfl
    ·exact⟨(hok w hw).1,(hok w hw).2.mono (by omega)⟩
    ·exact⟨huok',husm'.mono (by omega)⟩
   ·rw[hcc];exact .mk _ _ _ (by simp)
   ·refine knF.perm (Qp fun f hf h0 hc1 hp=>?_);have h1:=hp _ _ (Qgo OCode.lg us ci u' hci);have h2:=hp _ _ (Qiq OCode.lg us ci hci);rw[hul']at h1;rw[hu]at h2;simp only[Jr,Jq,Jt,hf,hc1 _ (_::_),hc1 _ (_++_),hc1 _ (List.flatMap _ _)]at h1 h2⊢;omega
  intro hc6;refine Qa ?_;simp only[go_sem];refine Qd rfl ?_ ?_
  ·intro hc;refine Qa ?_;simp only[go_sem,hyb,hbl5,htk,hbi,hbr,hpcow,hicow,Qca,Jp,Ji,Jl,hilen,hiok];intro _;refine Qd rfl ?_ ?_
   ·intro hc2;have hn0:0<blk.ins.length:=(by simpa using hc2);obtain⟨yi,hic,hil⟩:=OBlk.ivec hbok hn0;rw[hic]at hbr;have knI:=Qask kn hil;have hyi:=knI.l 0 rfl;obtain⟨x,hx⟩:∃x,blk.ins[0]=x:=⟨_,rfl⟩;have hxr:(blk.ins.map OIns.row).getD 0 []=[.int .i64 x.op,.int .i64 x.to,.vsl x.a.y 1 0 x.a.ns.length,.int .i64 x.n]:=(by rw[←hx];simp[Jb,hn0,OIns.row,OInts.c]);have hil4:(blk.ins.map OIns.row).length=blk.ins.length:=(by simp);have htk4:List.take blk.ins.length (blk.ins.map OIns.row)=blk.ins.map OIns.row:=Jd (by simp);have hxa:x.a.ns.length≤1000:=hbsm.ia x (by rw[←hx];exact Jc hn0);refine Qbn ?_;simp only[go_sem,hyb,hbl5,htk,hbi,hbr,hpcow,hicow,Qca,Jp,Ji,Jl,hyi,hn0,hxr,hil4,htk4];refine Qi5 (ns:=[256,-1,1]) (knI.e 0 rfl) (by omega) (by simp) fun v H10 hv hu10=>?_;have knI:=knI.callE 0 rfl hu10 (R.o_ne _);have hyi:=knI.l 0 rfl;have hyb:=knI.l 1 rfl;simp only[go_sem,Qaad,hyb,hbl5,htk,hbi,hbr,hpcow,hicow,Qca,Jp,Ji,Jl,hyi,hn0,hxr,hil4,htk4];refine⟨by omega,fun H12 h12=>?_⟩;have hr':[C.int IntKind.i64 x.op,C.int IntKind.i64 x.to,C.vsl x.a.y 1 0 x.a.ns.length,C.int IntKind.i64 v]=({ x with n:=v }:OIns).row:=rfl;rw[hr',←Jv]at h12;have knD:=Qbih (b:=blk) (is:=blk.ins.set 0 { x with n:=v }) (knI.stL 0 rfl h12) (Q75 hn0 (by rw[hx];rfl));refine hdone _ _ (k1+1+1+1+1+1) _ (OBlk.ins_ok (i:=0) (x':={ x with n:=v }) hbok hic) (OBlk.ins_sm (i:=0) (x':={ x with n:=v }) hbsm (by show x.a.ns.length≤_;omega)) (by omega) (by omega) ?_ (by simp[lk]) (by simp[lk]);rw[Qadr hbi (by rw[hblk];rfl)];exact knD
   ·intro hc2;refine Qg ?_;exact hsame _ (by simp[lk]) (by simp[lk])
  ·intro hc;refine Qg ?_;exact hsame _ (by simp[lk]) (by simp[lk])
 ·rintro e2 H10 ⟨k3,us,cl,hul,hk3,hk4,hok,hgr,kn,l2,l3⟩;have hx2:=kn.l 0 rfl;have hx3:=kn.l 1 rfl;refine Qa ?_;simp only[go_sem,hx2,hx3,hcow,l2,l3];intro H8 h8;have kn:=kn.stL 0 rfl h8;have hx2:=kn.l 0 rfl;refine Qk ?_;simp only[go_sem,Q5,Qae,Qbca,reduceIte,Ja,forall_eq,RS.op,hx2,hcow];have hheld:Held H8 (un H) (us.flatMap OCode.lg++cl):=fun p hp=>by
   have hp2:p∈(([(x2,Obj.st [cc]),(x3,Obj.st [cc])]++us.flatMap OCode.lg)++cl):=by
    rcases Jm.1 hp with h|h
    ·simp[h]
    ·simp[h]
   exact⟨(kn.get p (Je _ hp2)).1,Qj1 (kn.loc p hp2)⟩
  obtain⟨cs,hf,hcn,hcs⟩:=OCodes.frz (N:=1001) (by omega) hgr hok hheld;exact⟨_,FrzL.ag (.cons hf .nil),hK cs _ k3 hk3 (by omega) kn.fin (by omega) (by omega) hcs⟩
end Go.AE.Y
namespace Go.AE.Y
open Go.Proofs.Tryz
theorem Qasq {R : Rdr} {fl : Bool} {ss : List (List UInt8)} : ∀ (d : Nat) {k : Nat} {H : Heap} {K : V → Heap → Prop} (deep : Int), deep ≤ d → H R.l = R.o k → k + 6 * 2^d ≤ 2^40 →
    (∀ (x : Ex) (H' : Heap) (k' : Nat), k < k' → k' + 3 ≤ k + 6 * 2^d → Upd H H' [(R.l, R.o k')] → x.ok → k + x.size ≤ k' → K (.ag x.cells) H') →
    Qr prog Qgz [.c (.ptr R.l 0), .c (.sl fl 1 (Qbu ss)), .c (.int .i64 deep)] H K := by
  intro d
  induction d using Nat.strongRecOn with
  | ind d ih =>
  intro k H K deep hd hH hk hK;have hp1 : 1 ≤ 2^d := J6;have hp0 : d < 2^d := Nat.lt_two_pow_self;refine Q3 ?_;refine Qc Qal Qbo0 ?_;refine Qa ?_;simp only [go_sem];intro x hx H1 h1;have kn := (Kn.start1 hH (R.o_ne k)).al hx h1;refine Qaa ?_;refine Qa ?_;simp only [go_sem];have rest : ∀ (b : Bool) (H2 : Heap) (k2 : Nat), k ≤ k2 → k2 ≤ k + 1 → Kn H H2 [(R.l, R.o k2)] [(x, .st [.int .i64 0, .int .i64 0, .str [], .sl true 4 []])] → (b = false → 2 ≤ deep) →
      Qam prog (s_l2Expr_2.seq Qahi) (Q5 Qadx (unK H K))
       [(0, V.c (C.ptr R.l 0)), (1, V.c (C.sl fl 1 (Qbu ss))), (2, .c (.int .i64 deep)), (6, V.c (C.ptr x 0)), (14, V.c (.bool b))] H2 := by
    intro b H2 k2 hk1 hk2 kn hb;have fin : ∀ (op n : Int) (name : List UInt8) (fl : Bool) (kids : List Ex) (H3 : Heap) (k3 : Nat) (o : Obj), k < k3 → k3 + 3 ≤ k + 6 * 2^d → Kn H H3 [(R.l, R.o k3)] [(x, .st [.int .i64 op, .int .i64 n, .str name, .sl fl 4 (Qbz kids)])] →
        (op = 10 → kids.length = 2) → Qep kids → k + 1 + Qan kids ≤ k3 →
        Qae Qadx [(6, V.c (C.ptr x 0))] H3 (unK H K) := by
      intro op n name fl kids H3 k3 o g1 g2 kn g3 g4 g5;have hx3 := kn.l 0 rfl;simp only [go_sem, Qae, Qadx, reduceIte, Ja, forall_eq, RS.op, hx3];refine ⟨_, (Ex.mk op n name kids).frz, hK _ _ k3 g1 g2 kn.fin ?_ ?_⟩
      · simp only [Ex.ok]; exact ⟨g3, g4⟩
      · simp only [Ex.size]; omega
    refine Qh (Qd rfl ?_ ?_)
    · intro hb';refine Qa ?_;simp only [go_sem];refine Qbok (kn.e 0 rfl) (by omega) fun y H3 k3 g1 g2 hu hok hsz => ?_;have kn := kn.callE 0 rfl hu (R.o_ne _);have hx3 := kn.l 0 rfl;simp only [go_sem, Qahj, hx3, y.cells_eq];intro H4 h4;have kn := kn.stL 0 rfl h4;refine Qk ?_;simp only [go_sem, Q5];refine fin _ _ _ _ _ _ k3 .none (by omega) (by omega) kn (Ex.ok_and hok) (Ex.ok_kids hok) ?_;have := y.size_kids; omega
    · intro hb';have hdp := hb hb';have hp : 2^d = 2 * 2^(d-1) := (by rw [← Nat.pow_succ']; congr 1; omega);have hp2 : 1 ≤ 2^(d-1) := J6;have ihd := fun {k H K} => @ih (d-1) (by omega) k H K;generalize 2^(d-1) = e at *;refine Qg ?_;simp only [go_sem];refine Qaa ?_;refine Qa ?_;simp only [go_sem];refine Qa8 (kn.e 0 rfl) (by omega) fun v H3 hv hu => ?_;have kn := kn.callE 0 rfl hu (R.o_ne _);simp only [go_sem, Qahk];refine Qh (Qd rfl ?_ ?_)
      · intro hc;refine Qa ?_;simp only [go_sem];refine Qi5 (ns := [11, 12, 11]) (kn.e 0 rfl) (by omega) (by simp) fun op H4 hop hu => ?_;have kn := kn.callE 0 rfl hu (R.o_ne _);simp only [go_sem, Qahm];refine ⟨Qs (by omega) (by omega), ?_⟩;refine ihd (deep - 1) (by omega) (kn.e 0 rfl) (by omega) fun y H5 k5 g1 g2 hu hok hsz => ?_;have kn := kn.callE 0 rfl hu (R.o_ne _);have hx5 := kn.l 0 rfl;simp only [go_sem, Qahl, hx5, y.cells_len];intro H6 h6;have kn := kn.stL 0 rfl h6;refine Qk ?_;simp only [go_sem, Q5];refine fin op 0 [] true [y] _ k5 .none (by omega) (by omega) kn (fun h => ?_) ⟨hok, trivial⟩ ?_
        · subst h; simp at hop
        · simp only [Qan]; omega
      · intro hc;refine Qg ?_;simp only [go_sem];refine Qa ?_;simp only [go_sem];refine Qi5 (ns := [3, 3, 4, 5, 6, 7, 8, 9, 10]) (kn.e 0 rfl) (by omega) (by simp) fun op H4 hop hu => ?_;have kn := kn.callE 0 rfl hu (R.o_ne _);simp only [go_sem, Qahn];refine Qa ?_;simp only [go_sem];refine ⟨Qs (by omega) (by omega), ?_⟩;refine ihd (deep - 1) (by omega) (kn.e 0 rfl) (by omega) fun y H5 k5 g1 g2 hu hok hsz => ?_;have kn := kn.callE 0 rfl hu (R.o_ne _);simp only [go_sem, Qahp];refine ⟨Qs (by omega) (by omega), ?_⟩;refine ihd (deep - 1) (by omega) (kn.e 0 rfl) (by omega) fun z H6 k6 g3 g4 hu hok2 hsz2 => ?_;have kn := kn.callE 0 rfl hu (R.o_ne _);have hx5 := kn.l 0 rfl;simp only [go_sem, Qaho, hx5, y.cells_len, z.cells_len];intro H7 h7;have kn := kn.stL 0 rfl h7;refine Qk ?_;simp only [go_sem, Q5];refine fin op 0 [] true [y, z] _ k6 .none (by omega) (by omega) kn (fun h => rfl) ⟨hok, hok2, trivial⟩ ?_;simp only [Qan]; omega
  refine ⟨fun hb => ?_, fun hb => ?_⟩
  · refine Qa8 (kn.e 0 rfl) (by omega) fun v H2 hv hu => ?_;have kn := kn.callE 0 rfl hu (R.o_ne _);simp only [go_sem, Q1z];refine rest _ H2 (k + 1) (by omega) (by omega) kn ?_;intro h;have : ¬ deep < 2 := (by simpa using hb);omega
  · have hb2 : decide (deep < 2) = true := (by simpa using hb);simp only [go_sem, Q1z, hb2];exact rest true H1 k (by omega) (by omega) kn (fun h => by simp at h)
theorem Qasr {R:Rdr}{gl k:Nat}{s:GS}{H:Heap}{K:V→Heap→Prop}(hR:H R.l=R.o k)(hG:H gl=s.o R)(hne:R.l≠gl)(hs:s.ok k)(hk:k+2≤2^30)
  (hK:∀(name:List UInt8) (H':Heap) (k':Nat),k+1≤k'→k'≤k+2→Upd H H' [(R.l,R.o k'),(gl,GS.o { s with next:=s.next+1 } R)]→K (.c (.str name)) H') :
  Qr prog Qk8 [.c (.ptr gl 0)] H K:=by
 have h0:=hs.n0;have h1':=hs.n1;refine Q3 ?_;refine Qc Qal Qas8 ?_;refine Qa ?_;simp only[go_sem];refine Qa ?_;simp only[go_sem,hG,GS.o];refine⟨Qs (by omega) (by omega),fun H1 h1=>?_⟩;have kn:Kn H H1 [(R.l,R.o k),(gl,GS.o { s with next:=s.next+1 } R)] []:=(Kn.start2 hR (R.o_ne k) hG (s.o_ne R) hne).stE 1 rfl h1;have hG1:=kn.e 1 rfl;refine Qaa ?_;refine Qa ?_;simp only[go_sem,hG1,GS.o];refine Qa8 (kn.e 0 rfl) (by omega) fun v H2 hv hu=>?_;have kn:=kn.callE 0 rfl hu (R.o_ne _);have hG2:=kn.e 1 rfl;simp only[go_sem,Qp1,hG2,GS.o];intro hl;refine Qh (Qd rfl ?_ ?_)
 ·intro hc;have hv0:0<s.vars.length:=by
   rw[Qaz]at hc;cases h:decide (v=0) <;> rw[h]at hc <;> simp_all
  refine Qaj ?_;simp only[go_sem,hG2,GS.o];refine of_c (kn.e 0 rfl) (by omega) hv0 fun name H3 hn hu=>?_;have kn:=kn.callE 0 rfl hu (R.o_ne _);simp only[go_sem,Qp2];refine Qk ?_;simp only[go_sem,Q5,Qae,Qob,reduceIte,Ja,forall_eq,RS.op];exact⟨_,.c _ _ (Qi rfl),hK _ _ (k+1+1) (by omega) (by omega) kn.fin⟩
 ·intro hc;refine Qg ?_;simp only[go_sem];refine Qaj ?_;have e1:0≤(s.next+1).tmod 24:=J3 _ (by omega);have e2:(s.next+1).tmod 24<24:=Jz _ (by omega);simp only[go_sem,hG2,GS.o];refine⟨by omega,by omega,Qs (by omega) (by omega),by omega,?_⟩;refine Qk ?_;simp only[go_sem,Q5,Qae,Qob,reduceIte,Ja,forall_eq,RS.op];exact⟨_,.c _ _ (Qi rfl),hK _ _ (k+1) (by omega) (by omega) kn.fin⟩
theorem Qae2 {R:Rdr}{gl k:Nat}{s:GS}{x:Ex}{fl:Bool}{H:Heap}{K:V→Heap→Prop}(hR:H R.l=R.o k)(hG:H gl=s.o R)(hne:R.l≠gl)(hs:s.ok k)(hk:k+2≤2^30)
  (hK:∀(name:List UInt8) (H':Heap) (k':Nat),k+1≤k'→k'≤k+2→Upd H H' [(R.l,R.o k'),(gl,GS.o { s with next:=s.next+1,vars:=s.vars++[name],vfl:=false } R)]→K (.ag (St.mk 1 name [x] [] []).cells) H') :
  Qr prog Qkb [.c (.ptr gl 0),.ag [.int .i64 x.op,.int .i64 x.n,.str x.name,.sl fl 4 (Qbz x.kids)]] H K:=by
 have hv:=hs.v;refine Qem ?_;refine Qc Qal Qa49 ?_;refine Qa ?_;simp only[go_sem,x.cells_eq];intro y hy H1 h1;have kn:=(Kn.start2 hR (R.o_ne k) hG (s.o_ne R) hne).al hy h1;refine Qa ?_;simp only[go_sem];refine Qasr (kn.e 0 rfl) (kn.e 1 rfl) hne hs hk fun name H2 k' g1 g2 hu=>?_;have kn:=kn.callEE 0 1 rfl rfl (by decide) hu (R.o_ne _) (GS.o_ne _ _);have hG2:=kn.e 1 rfl;simp only[go_sem,Q0e];refine Qa ?_;have hL:s.vars.length≤LIM:=by simp only[LIM];omega
 have hL1:s.vars.length+1≤LIM:=by simp only[LIM];omega
 simp only[go_sem,hG2,GS.o,Qaz,Qar2,Ji,Jq,hL];refine⟨.inl trivial,Qo1 _,?_⟩;intro z hz H3 h3;have kn:=kn.al hz h3;have hz3:=kn.l 1 rfl;have hG3:=kn.e 1 rfl;simp only[go_sem,Q0g,hz3,hG3,GS.o,Qaz,Qba5,hL1,Jab,Jd];refine⟨by omega,fun z' hz' H4 h4=>?_⟩;have kn:=kn.ap 1 rfl hz' h4;have hG4:=kn.e 1 rfl;simp only[go_sem,Q0f,hG4,GS.o];intro H5 h5;have kn:=kn.stE 1 rfl h5;have hy5:=kn.l 0 rfl;refine Qa ?_;simp only[go_sem,hy5];intro H6 h6;have kn:=kn.stL 0 rfl h6;have hy6:=kn.l 0 rfl;refine Qk ?_;simp only[go_sem,Q5,Qae,Qafw,reduceIte,Ja,forall_eq,RS.op,hy6];refine⟨un H,(.ag (St.mk 1 name [x] [] []).cells),(H6.frz (un H)).set gl (GS.o { s with next:=s.next+1,vars:=s.vars++[name],vfl:=false } R),?_,?_,hK name _ k' g1 g2 (kn.fin.set2 hne)⟩
 ·simp only[St.cells,Qbz,Qa7,x.cells_eq];exact (FrzL.cons (Qi rfl) (.cons (Qi rfl) (.cons (FrzR.cons (.cons (Qi rfl) (.cons (Qi rfl) (.cons (Qi rfl) (.cons (FrzR.same (Ql0 _)).sl .nil)))) .nil).sl (.cons (FrzR.nil).sl (.cons (FrzR.nil).sl .nil))))).ag
 ·refine (Qd1 _ _).set (Qba8 (kn.usedE 1 rfl)) ?_;rw[kn.e 1 rfl];refine FrzKL.st (.same (.same (.cons rfl ?_ (.same (.same .nil)))));exact Qasi (kn.un 1 rfl) (kn.l 1 rfl) (by simp[Qbu]) (noOw_mem (Qo1 _))
theorem Qcf {R : Rdr} {gl k : Nat} {s : GS} {H : Heap} {K : V → Heap → Prop} (deep : Int) (hd : deep ≤ 3) (hR : H R.l = R.o k) (hG : H gl = s.o R) (hne : R.l ≠ gl) (hs : s.ok k) (hF : FnsOk H R gl s) (hk : k + 200 ≤ 2^30)
    (hK : ∀ (x : Ex) (H' : Heap) (k' : Nat), k < k' → k' ≤ k + 200 → Upd H H' [(R.l, R.o k')] → x.ok → k + x.size ≤ k' → K (.ag x.cells) H') :
    Qr prog Qbh [.c (.ptr gl 0), .c (.int .i64 deep)] H K := by
  have hfl := hs.fn;refine Q3 ?_;refine Qc Qal Qaxt ?_;refine Qa ?_;simp only [go_sem];intro x4 hx4 H1 h1;have kn := (Kn.start2 hR (R.o_ne k) hG (s.o_ne R) hne).al hx4 h1;have hG1 := kn.e 1 rfl;refine Qaj ?_;simp only [go_sem, hG1, GS.o];refine Qasq 3 deep (by omega) (kn.e 0 rfl) (by omega) fun e H2 k2 g1 g2 hu heok hesz => ?_;have kn := kn.callE 0 rfl hu (R.o_ne _);have hG2 := kn.e 1 rfl;simp only [go_sem, Qvx];intro x5 hx5 H3 h3;have kn := kn.al hx5 h3;have hG3 := kn.e 1 rfl;have hx53 := kn.l 1 rfl;simp only [go_sem, Qvw, hG3, hx53, GS.o, e.cells_len, e.cells_eq];intro H4 h4;have kn := kn.stL 1 rfl h4;have hG4 := kn.e 1 rfl;refine Qaa ?_;refine Qa ?_;simp only [go_sem, hG4, GS.o, hF.ow, hF.ok kn, hF.len];intro hl;have fin : ∀ (op n : Int) (name : List UInt8) (c : C) (kids : List Ex) (H3 : Heap) (k3 : Nat) (L : List (Nat × Obj)), k < k3 → k3 ≤ k + 200 → Kn H H3 [(R.l, R.o k3), (gl, s.o R)] L →
      L[0]? = some (x4, .st [.int .i64 op, .int .i64 n, .str name, c]) → c.isOw = false → FrzC H3 (un H) c (.sl false 4 (Qbz kids)) → (Ex.mk op n name kids).ok → k + (Ex.mk op n name kids).size ≤ k3 →
      Qae Qkl [(4, V.c (C.ptr x4 0))] H3 (unK H K) := by
    intro op n name c kids H3 k3 L g1 g2 kn g3 hno g4 g5 g6;have hx3 := kn.l 0 g3;simp only [go_sem, Qae, Qkl, reduceIte, Ja, forall_eq, RS.op, hx3, hno];refine ⟨(.ag (Ex.mk op n name kids).cells), ?_, hK _ _ k3 g1 g2 (kn.fin.drop2 hG) g5 g6⟩;rw [Ex.cells_eq];exact (FrzL.cons (Qi rfl) (.cons (Qi rfl) (.cons (Qi rfl) (.cons g4 .nil)))).ag
  have rest : ∀ (b : Bool) (H2 : Heap) (k3 : Nat), k2 ≤ k3 → k3 ≤ k2 + 1 → Kn H H2 [(R.l, R.o k3), (gl, s.o R)] [(x4, .st [.int .i64 0, .int .i64 0, .str [], .sl true 4 []]), (x5, .st [.int .i64 e.op, .int .i64 e.n, .str e.name, .sl false 4 (Qbz e.kids)])] →
      (b = false → 0 < s.fns.length) →
      Qam prog (s_l3Gen_expr_3.seq Qvv) (Q5 Qkl (unK H K))
       [(0, V.c (C.ptr gl 0)), (4, V.c (C.ptr x4 0)), (5, V.c (C.ptr x5 0)), (32, .c (.bool b))] H2 := by
    intro b H2 k3 g3 g4 kn hb;have hx52 := kn.l 1 rfl;have hx42 := kn.l 0 rfl;refine Qh (Qd rfl ?_ ?_)
    · intro hb';refine Qa ?_;simp only [go_sem, hx52, hx42];intro H3 h3;have kn := kn.stL 0 rfl h3;refine Qk ?_;simp only [go_sem, Q5]
      cases e with
      | mk op n name kids => exact fin op n name _ kids H3 k3 _ (by omega) (by omega) kn rfl rfl (Q5m (noOw_mem (Ql0 _))) heok (by omega)
    · intro hb';have hfn := hb hb';refine Qg ?_;simp only [go_sem];have hG3 := kn.e 1 rfl;refine Qaj ?_;simp only [go_sem, hG3, GS.o, hF.ow, hF.ok kn, hF.len];refine Qa8 (kn.e 0 rfl) (by omega) fun v H3 hv hu => ?_;have kn := kn.callE 0 rfl hu (R.o_ne _);rw [if_neg (by omega)] at hv;obtain ⟨i, rfl⟩ := Jn hv.1;have hi : i < s.fns.length := (by omega);have hG4 := kn.e 1 rfl;simp only [go_sem, Qvz, hG4, GS.o, hF.ow, hF.ok kn, hF.len, hF.rows kn, hF.esz, hi, Qil _ _ hi, Fn.cells];intro x6 hx6 H4 h4;have kn := kn.al hx6 h4;have hG5 := kn.e 1 rfl;have hx64 := kn.l 2 rfl;simp only [go_sem, Qvy, hG5, hx64, GS.o, hF.ow, hF.ok kn, hF.len, hF.rows kn, hF.esz, hi, Qil _ _ hi, Fn.cells];have hpar := hs.f _ (Jc hi);generalize s.fns[i] = f at *;intro H5 h5;have kn := kn.stL 2 rfl h5;have hx65 := kn.l 2 rfl;refine Qa ?_;simp only [go_sem, hx65];intro x7 hx7 H6 h6;have kn := kn.al hx7 h6;have hx67 := kn.l 2 rfl;have hx77 := kn.l 3 rfl;simp only [go_sem, Qv0, hx67, hx77];intro H7 h7;have kn := kn.stL 3 rfl h7;refine Qaa ?_;refine Qa ?_;simp only [go_sem];refine Qh (Qe (Qx (fun n e1 H1 => ∃ (i k4 : Nat) (kids : List Ex) (c : C) (Lg : List (Nat × Obj)), n = f.params.length - i ∧ i ≤ f.params.length ∧ k4 ≤ k3 + 1 + 21 * i ∧ k3 + 1 + Qan kids ≤ k4 ∧ Qep kids ∧ kids.length = i ∧
        Gr Lg 4 (Qbz kids) c ∧ Kn H H1 [(R.l, R.o k4), (gl, s.o R)] ([(x4, .st [.int .i64 0, .int .i64 0, .str [], .sl true 4 []]), (x5, .st [.int .i64 e.op, .int .i64 e.n, .str e.name, .sl false 4 (Qbz e.kids)]),
          (x6, .st [.str f.name, .sl false 1 (Qbu f.params), .sl false 5 (Qa7 f.body)]), (x7, .st [.int .i64 13, .int .i64 0, .str f.name, c])] ++ Lg) ∧
        e1 = [(0, V.c (C.ptr gl 0)), (4, V.c (C.ptr x4 0)), (6, V.c (C.ptr x6 0)), (7, V.c (C.ptr x7 0)), (8, V.c (C.int IntKind.i64 i))]) f.params.length ?_ ?_))
      · exact ⟨0, k3 + 1, [], _, [], by omega, by omega, by omega, by simp [Qan], trivial, rfl, .nil 4, kn, rfl⟩
      · rintro n e1 H1 ⟨i, k4, kids, c, Lg, hn, hi1, hk4, hksz, hkok, hkl, hgr, kn, rfl⟩;have hx61 := kn.l 2 rfl;have hx71 := kn.l 3 rfl;have hG1 := kn.e 1 rfl;refine Qaa ?_;refine Qa ?_;simp only [go_sem, hx61, Qaz];intro hpl;refine Qh (Qd rfl ?_ ?_)
        · intro hc;have hlt : i < f.params.length := (by simpa using hc);refine Qg ?_;simp only [go_sem];refine Qh (Qe (Qbn ?_));have hcow := hgr.isOw;simp only [go_sem, hx71, hG1, GS.o, hcow];refine Qasq 2 2 (by omega) (kn.e 0 rfl) (by omega) fun z H2 k5 g5 g6 hu hok hsz => ?_;have kn := kn.callE 0 rfl hu (R.o_ne _);have hx72 := kn.l 3 rfl;simp only [go_sem, Qv2, hx72, hcow, z.cells_len];refine kn.grow (new := [z.cells]) hgr (.mk' _ _ _ _) (by simp [z.noOw]) (by simp only [Qba, Jj, Jo, LIM]; omega) fun y' H3 kn => ?_;have hx73 := kn.l 3 rfl;simp only [go_sem, Qv1, hx73];intro H4 h4;have kn := kn.stL 3 rfl h4;refine Qt ?_;simp only [go_sem];refine ⟨Qs (by omega) (by omega), ?_⟩;refine ⟨f.params.length - (i + 1), by omega, i + 1, k5, kids ++ [z], _, _, rfl, by omega, by omega, ?_, Qbh5 hkok ⟨hok, trivial⟩, by simp [hkl], ?_, kn, ?_⟩
          · simp only [Q0u, Qan]; omega
          · rw [← Qbd3]; exact .mk _ _ _ (by simp)
          · simp
        · intro hc;have hge : f.params.length ≤ i := (by simpa using hc);refine Qw ?_;simp only [go_sem, X.next];refine Qaa ?_;refine Qa ?_;simp only [go_sem, hG1, GS.o];refine Qa8 (kn.e 0 rfl) (by omega) fun v H2 hv hu => ?_;have kn := kn.callE 0 rfl hu (R.o_ne _);have hx72 := kn.l 3 rfl;have hx42 := kn.l 0 rfl;have hcow := hgr.isOw;have hG2 := kn.e 1 rfl;simp only [go_sem, Qpy];refine Qh (Qd rfl ?_ ?_)
          · intro hc;refine Qa ?_;simp only [go_sem, hx72, hx42, hcow];intro H3 h3;have kn := kn.stL 0 rfl h3;refine Qk ?_;simp only [go_sem, Q5];refine fin 13 0 f.name c kids H3 (k4 + 1) _ (by omega) (by omega) kn rfl hcow (hgr.frz (B := [_, _, _, _]) kn (Ql0 _)) ?_ ?_
            · simp only [Ex.ok]; exact ⟨fun h => by simp at h, hkok⟩
            · simp only [Ex.size]; omega
          · intro hc;refine Qg ?_;simp only [go_sem];refine Qaj ?_;simp only [go_sem, hx72, hG2, hcow, GS.o];refine Qi5 (ns := [3, 4, 8, 10]) (kn.e 0 rfl) (by omega) (by simp) fun op H3 hop hu => ?_;have kn := kn.callE 0 rfl hu (R.o_ne _);have hx73 := kn.l 3 rfl;have hG3 := kn.e 1 rfl;simp only [go_sem, Qp0, hx73, hG3, hcow, GS.o];refine Qasq 2 2 (by omega) (kn.e 0 rfl) (by omega) fun z H4 k5 g5 g6 hu hok hsz => ?_;have kn := kn.callE 0 rfl hu (R.o_ne _);have hx74 := kn.l 3 rfl;have hx44 := kn.l 0 rfl;simp only [go_sem, Qpz, hx74, hx44, hcow, z.cells_len];intro H5 h5;have kn := kn.stL 0 rfl h5;refine Qk ?_;simp only [go_sem, Q5];refine fin op 0 [] _ [Ex.mk 13 0 f.name kids, z] H5 k5 _ (by omega) (by omega) kn rfl rfl ?_ ?_ ?_
            · refine FrzR.sl (.cons ?_ (.cons (.same z.noOw) .nil));rw [Ex.cells_eq];exact .cons (Qi rfl) (.cons (Qi rfl) (.cons (Qi rfl) (.cons (hgr.frz (B := [_, _, _, _]) kn (Ql0 _)) .nil)))
            · simp only [Ex.ok, Qep]; exact ⟨fun h => rfl, ⟨fun h => by simp at h, hkok⟩, hok, trivial⟩
            · simp only [Ex.size, Qan]; omega
  refine ⟨fun hb => ?_, fun hb => ?_⟩
  · refine Qa8 (kn.e 0 rfl) (by omega) fun v H5 hv hu => ?_;have kn := kn.callE 0 rfl hu (R.o_ne _);simp only [go_sem, Qjq];refine rest _ H5 (k2 + 1) (by omega) (by omega) kn ?_;intro h;have : ¬ s.fns.length = 0 := (by simpa using hb);omega
  · have hb2 : decide ((s.fns.length : Int) = 0) = true := (by simpa using hb);simp only [go_sem, Qjq, hb2];exact rest true H4 k2 (by omega) (by omega) kn (fun h => by simp at h)
theorem Q76 {R:Rdr}{gl k:Nat}{s:GS}{H:Heap}{K:V→Heap→Prop}(hR:H R.l=R.o k)(hG:H gl=s.o R)(hne:R.l≠gl)(hs:s.ok k)(hF:FnsOk H R gl s)(hk:k+201≤2^30)
  (hK:∀(x:Ex) (H':Heap) (k':Nat),k<k'→k'≤k+201→Upd H H' [(R.l,R.o k')]→x.ok→2 * k+x.size≤2 * k'→K (.ag x.cells) H') :
  Qr prog Qh6 [.c (.ptr gl 0)] H K:=by
 refine Q3 ?_;refine Qc Qal Qaxs ?_;refine Qa ?_;simp only[go_sem];intro x2 hx2 H1 h1;have kn:=(Kn.start2 hR (R.o_ne k) hG (s.o_ne R) hne).al hx2 h1;have hG1:=kn.e 1 rfl;refine Qaj ?_;simp only[go_sem,hG1,GS.o];refine Qcf 2 (by omega) (kn.e 0 rfl) (kn.e 1 rfl) hne hs (hF.keep kn rfl rfl) (by omega) fun e H2 k2 g1 g2 hu heok hesz=>?_;have kn:=kn.callE 0 rfl hu (R.o_ne _);have hG2:=kn.e 1 rfl;simp only[go_sem,Qvu,hG2,GS.o];refine Qi5 (ns:=[16,16,16,8,17,0]) (kn.e 0 rfl) (by omega) (by simp) fun v H3 hv hu=>?_;have kn:=kn.callE 0 rfl hu (R.o_ne _);have hx23:=kn.l 0 rfl;simp only[go_sem,Qvt,hx23,e.cells_len];intro H4 h4;have kn:=kn.stL 0 rfl h4;have hx24:=kn.l 0 rfl;refine Qk ?_;simp only[go_sem,Q5,Qae,Q8e,reduceIte,Ja,forall_eq,RS.op,hx24];refine⟨(.ag (Ex.mk 7 0 [] [e,Ex.mk 1 v [] []]).cells),?_,hK _ _ (k2+1) (by omega) (by omega) (kn.fin.drop2 hG) ?_ ?_⟩
 ·rw[Ex.cells_eq (Ex.mk 7 0 [] _)];refine FrzL.ag ?_;refine .cons (Qi rfl) (.cons (Qi rfl) (.cons (Qi rfl) (.cons (FrzR.sl (.cons (.same e.noOw) (.cons ?_ .nil))) .nil)));simp only[Ex.cells,Qbz];exact .cons (Qi rfl) (.cons (Qi rfl) (.cons (Qi rfl) (.cons (FrzR.nil).sl .nil)))
 ·simp only[Ex.ok,Qep];exact⟨fun h=>rfl,heok,⟨fun h=>by simp at h,trivial⟩,trivial⟩
 ·simp only[Ex.size,Qan];omega
def Qbsf (d:Nat):Prop:=∀(R:Rdr) (gl k:Nat) (s:GS) (H:Heap) (K:V→Heap→Prop) (deep:Int),deep≤d→H R.l=R.o k→H gl=s.o R→R.l≠gl→s.ok k→FnsOk H R gl s→k+500 * 10^d≤2^30→
  (∀(l:List St) (s':GS) (H':Heap) (k':Nat),k<k'→k'≤k+500 * 10^d→Upd H H' [(R.l,R.o k'),(gl,s'.o R)]→s'.ok k'→s.left+4 * (k:Int)≤s'.left+4 * (k':Int)→s'.fns=s.fns→s'.ffl=s.ffl→l.length≤2→Qdh l→4 * k+Q8 l≤4 * k'→K (.c (.sl false 5 (Qa7 l))) H')→
  Qr prog Qnz [.c (.ptr gl 0),.c (.int .i64 deep)] H K
def Qad5 (d:Nat):Prop:=∀(R:Rdr) (gl k:Nat) (s:GS) (H:Heap) (K:V→Heap→Prop) (deep:Int),deep≤d→H R.l=R.o k→H gl=s.o R→R.l≠gl→s.ok k→FnsOk H R gl s→k+2001 * 10^d≤2^30→
  (∀(l:List St) (c:C) (Lg:List (Nat×Obj)) (s':GS) (H':Heap) (k':Nat),k<k'→k'≤k+2001 * 10^d→Upd H H' [(R.l,R.o k'),(gl,s'.o R)]→Gr Lg 5 (Qa7 l) c→New H H' Lg→s'.ok k'→s.left+4 * (k:Int)≤s'.left+4 * (k':Int)→s'.fns=s.fns→s'.ffl=s.ffl→
   l.length≤8→Qdh l→4 * k+Q8 l≤4 * k'→K (.c c) H')→
  Qr prog Qcs [.c (.ptr gl 0),.c (.int .i64 deep)] H K
theorem Qbbe {d:Nat}(hS:Qbsf d):Qad5 d:=by
 intro R gl k s H K deep hd hR hG hne hs hF hk hK;have hp0:d<10^d:=Jx (by omega);generalize hpe:10^d=e at *;have hS':=hS;simp only[Qbsf]at hS';rw[hpe]at hS';generalize hM:500 * e=M at *;refine Qem ?_;refine Qc Qal Qas7 ?_;refine Qa ?_;simp only[go_sem];refine Qa ?_;simp only[go_sem,hG,GS.o];refine Qa ?_;simp only[go_sem];refine Qaa ?_;refine Qa ?_;simp only[go_sem,hG,GS.o];have kn:=Kn.start2 hR (R.o_ne k) hG (s.o_ne R) hne;refine Qi5 (ns:=[2,3,1,4]) hR (by omega) (by simp) fun v H1 hv hu=>?_;have kn:=kn.callE 0 rfl hu (R.o_ne _);simp only[go_sem,Qpv];have hv4:1≤v∧v≤4:=by simp at hv;omega
 refine Qh (Qe (Qx (fun n e1 H1=>∃(j k4:Nat) (l:List St) (c:C) (Lg:List (Nat×Obj)) (s':GS),n=v.toNat-j∧(j:Int)≤v∧k+1≤k4∧k4≤k+1+M * j∧4 * k+Q8 l≤4 * k4∧Qdh l∧l.length≤2 * j∧
    Gr Lg 5 (Qa7 l) c∧s'.ok k4∧s.left+4 * (k:Int)≤s'.left+4 * (k4:Int)∧s'.fns=s.fns∧s'.ffl=s.ffl∧Kn H H1 [(R.l,R.o k4),(gl,s'.o R)] ([]++Lg)∧
    e1=[(0,V.c (C.ptr gl 0)),(1,.c (.int .i64 deep)),(5,.c (.sl s.vfl 1 (Qbu s.vars))),(6,.c c),(7,V.c (C.int IntKind.i64 (v-j)))]) v.toNat ?_ ?_))
 ·exact⟨0,k+1,[],_,[],s,by omega,by omega,by omega,by omega,by simp only[Q8];omega,trivial,by simp,.nil 5,hs.mono (by omega),by omega,rfl,rfl,kn,by simp⟩
 ·rintro n e1 H1 ⟨j,k4,l,c,Lg,s',hn,hj,hk4,hk4',hsz,hok,hll,hgr,hs',hlf,hf1,hf2,kn,rfl⟩;have hG1:=kn.e 1 rfl;have hMj:M * j≤M * 4:=Jy _ (by omega);refine Qaa ?_;refine Qa ?_;simp only[go_sem,hG1,GS.o];refine Qh (Qd rfl ?_ ?_)
  ·intro hc;have hi:(j:Int)<v:=by
    cases h:decide (0<v-(j:Int))with
    |true=>have:0<v-(j:Int):=by simpa using h
           omega
    |false=>rw[h]at hc;simp at hc
   have hM1:M * (j+1)=M * j+M:=Jah _ _;have hM2:M * (j+1)≤M * 4:=Jy _ (by omega);refine Qg ?_;simp only[go_sem];refine Qh (Qe (Qt ?_));simp only[go_sem];refine hS' _ _ _ _ _ _ deep hd (kn.e 0 rfl) (kn.e 1 rfl) hne hs' (hF.keep kn hf1 hf2) (by omega) fun l2 s2 H2 k5 g1 g2 hu g3 glf g4 g5 g6 g7 g8=>?_;have kn:=kn.callEE 0 1 rfl rfl (by decide) hu (R.o_ne _) (GS.o_ne _ _);simp only[go_sem,Qpx];refine kn.grow hgr (.mk' _ _ _ (Qa7 l2)) (Qin _) (by simp only[Qbg,LIM];omega) fun y' H3 kn=>?_;simp only[go_sem,Qpw];refine Qt ?_;simp only[go_sem];refine⟨Qs (by omega) (by omega),?_⟩;simp only[X.next];refine⟨v.toNat-(j+1),by omega,j+1,k5,l++l2,.vsl y' 5 0 ((Qa7 l).length+(Qa7 l2).length),_,s2,rfl,by omega,by omega,by omega,?_,Qamd hok g7,by simp;omega,?_,g3,by omega,g4.trans hf1,g5.trans hf2,kn,?_⟩
   ·rw[Qjz];omega
   ·rw[Qamc];exact .mk _ _ _ (by simp[Qbg])
   ·have:v-((j+1:Nat):Int)=v-j-1:=(by omega);rw[this]
  ·intro hc;refine Qw ?_;simp only[go_sem,X.next];refine Qa ?_;simp only[go_sem,hG1,GS.o];intro H2 h2;have kn:Kn H H2 [(R.l,R.o k4),(gl,GS.o { s' with vars:=s.vars,vfl:=s.vfl } R)] ([]++Lg):=kn.stE 1 rfl h2;refine Qa ?_;simp only[go_sem];refine Qk ?_;simp only[go_sem,Q5,Qae,Q24,reduceIte,Ja,forall_eq,RS.op];refine⟨unx H Lg,_,H2.frz (unx H Lg),.c _ _ (.same _ hgr.isOw),Qd1 _ _,?_⟩;refine hK l c Lg _ _ k4 (by omega) (by omega) kn.finx.1 hgr kn.finx.2 ⟨hs'.n0,hs'.n1,hs'.l0,hs'.l1,?_,hs'.f,hs'.fn⟩ (by show _≤s'.left+_;omega) hf1 hf2 (by omega) hok hsz;have:=hs.v;show s.vars.length≤_;omega
def Qbse (d:Nat):Prop:=∀(R:Rdr) (gl k:Nat) (s:GS) (H:Heap) (K:V→Heap→Prop) (deep:Int),deep≤d+1→2≤deep→H R.l=R.o k→H gl=s.o R→R.l≠gl→s.ok k→FnsOk H R gl s→k+2001 * 10^d+10≤2^30→
  (∀(l:List St) (s':GS) (H':Heap) (k':Nat),k+2<k'→k'≤k+2001 * 10^d+3→Upd H H' [(R.l,R.o k'),(gl,s'.o R)]→s'.ok k'→s.left+4 * (k:Int)≤s'.left+4 * (k':Int)→s'.fns=s.fns→s'.ffl=s.ffl→l.length≤2→Qdh l→4 * k+Q8 l≤4 * k'→K (.c (.sl false 5 (Qa7 l))) H')→
  Qr prog Qny [.c (.ptr gl 0),.c (.int .i64 deep)] H K
theorem Qbtw {d:Nat}(hB:Qad5 d):Qbse d:=by
 intro R gl k s H K deep hd hd2 hR hG hne hs hF hk hK;have hp0:d<10^d:=Jx (by omega);have hB':=hB;simp only[Qad5]at hB';generalize hpe:10^d=e at *;refine Q3 ?_;refine Qc Qal Qaxu ?_;refine Qa ?_;simp only[go_sem];refine Qa ?_;simp only[go_sem,hG,GS.o];have kn:=Kn.start2 hR (R.o_ne k) hG (s.o_ne R) hne;refine Qi5 (ns:=[2,3,1,0,5]) hR (by omega) (by simp) fun v H1 hv hu=>?_;have kn:=kn.callE 0 rfl hu (R.o_ne _);simp only[go_sem,Qv6];refine Qae2 (x:=Ex.mk 1 v [] []) (fl:=true) (kn.e 0 rfl) (kn.e 1 rfl) hne (hs.mono (Jae k)) (by omega) fun name H2 k2 g1 g2 hu=>?_;have kn:=kn.callEE 0 1 rfl rfl (by decide) hu (R.o_ne _) (GS.o_ne _ _);simp only[go_sem,Qv5];intro x5 hx5 H3 h3;have kn:=kn.al hx5 h3;have hx53:=kn.l 0 rfl;simp only[go_sem,Qv4,hx53,St.cells_len,St.cells];intro H4 h4;have kn:=kn.stL 0 rfl h4;have hx54:=kn.l 0 rfl;refine Qa ?_;simp only[go_sem,hx54];intro x6 hx6 H5 h5;have kn:=kn.al hx6 h5;have hx65:=kn.l 1 rfl;simp only[go_sem,Qv7,hx65];intro H6 h6;have kn:=kn.stL 1 rfl h6;refine Qa ?_;simp only[go_sem];refine⟨Qs (by omega) (by omega),?_⟩;have hs2:GS.ok { s with next:=s.next+1,vars:=s.vars++[name],vfl:=false } k2:=by
  refine⟨?_,?_,?_,hs.l1,?_,hs.f,hs.fn⟩
  ·have:=hs.n0;show -1≤s.next+1;omega
  ·have:=hs.n1;show s.next+1≤_;omega
  ·have:=hs.l0;show _≤s.left;omega
  ·have:=hs.v;show (s.vars++[name]).length≤_;simp;omega
 refine hB' _ _ _ _ _ _ (deep-1) (by omega) (kn.e 0 rfl) (kn.e 1 rfl) hne hs2 (hF.keep kn rfl rfl) (by omega) fun l c Lg s3 H7 k3 g3 g4 hu hgr hnew hs3 glf g5 g6 g7 g8 g9=>?_;have kn0:=kn;have kn:=kn.callEE 0 1 rfl rfl (by decide) hu (R.o_ne _) (GS.o_ne _ _);have kn:=kn0.addGr kn rfl rfl hgr hnew;have hx57:=kn.l 0 rfl;have hx67:=kn.l 1 rfl;simp only[go_sem,Qv8];refine Qa ?_;simp only[go_sem,hx57,hx67];intro x8 hx8 H8 h8;have kn:=kn.al hx8 h8;have kn:=kn.perm (L':=[(x5,_),(x6,_),(x8,_)]++Lg) (by
  simp only[List.set,Jq,Jr,Jg];refine .cons _ (.cons _ ?_);exact Jf)
 have hx88:=kn.l 2 rfl;simp only[go_sem,Qv9,hx88];intro H9 h9;have kn:=kn.stL 2 rfl h9;have hG9:=kn.e 1 rfl;refine Qa ?_;simp only[go_sem,hG9,GS.o];have hl0:=hs3.l0;have hl1:=hs3.l1;refine⟨Qs (by omega) (by omega),fun H10 h10=>?_⟩;have kn:Kn H H10 [(R.l,R.o k3),(gl,GS.o { s3 with left:=s3.left-2 } R)] ([(x5,_),(x6,_),(x8,_)]++Lg):=kn.stE 1 rfl h10;have hx5a:=kn.l 0 rfl;have hx6a:=kn.l 1 rfl;have hx8a:=kn.l 2 rfl;refine Qaj ?_;simp only[go_sem,hx5a,hx6a,hx8a];refine kn.grow hgr (.mk' _ _ _ _) (by intro r hr;simp only[Ja]at hr;subst hr;rfl) (by simp only[Qbg,LIM,Jj,Jo];omega) fun y' H11 kn=>?_;have hx5b:=kn.l 0 rfl;have hx6b:=kn.l 1 rfl;have hyb:=kn.l 3 rfl;simp only[go_sem,Qwa,hx5b,hx6b];refine Qk ?_;simp only[go_sem,Q5,Qae,Q8f,reduceIte,Ja,forall_eq,RS.op];have hok1:GS.ok { s3 with left:=s3.left-2 } k3:=⟨hs3.n0,hs3.n1,by show _≤s3.left-2;have:=hs.l0;simp only at glf;omega,by show s3.left-2≤100;omega,hs3.v,hs3.f,hs3.fn⟩;refine⟨.c (.sl false 5 (Qa7 [St.mk 1 name [Ex.mk 1 v [] []] [] [],St.mk 6 [] [Ex.mk 2 0 name []] (l++[St.mk 2 name [Ex.mk 4 0 [] [Ex.mk 2 0 name [],Ex.mk 1 1 [] []]] [] []]) []])),.c _ _ ?_,hK _ _ _ k3 (by omega) (by omega) kn.fin hok1 (by show _≤s3.left-2+_;simp only at glf;omega) g5 g6 (by simp) ?_ ?_⟩
 ·simp only[Qa7,St.cells,Qbz,Ex.cells,←Qamc]
  repeat' first|exact FrzL.nil|exact FrzR.nil|exact Qi rfl|exact FrzL.same (Ex.noOw _)|exact FrzL.same (St.noOw _)|refine FrzL.cons ?_ ?_|refine FrzR.cons ?_ ?_|refine FrzR.sl ?_
  refine FrzR.vsl (kn.un 3 rfl) hyb (by simp) (.app (.same (Qin _)) ?_)
  repeat' first|exact FrzL.nil|exact FrzR.nil|exact Qi rfl|exact FrzL.same (Ex.noOw _)|exact FrzL.same (St.noOw _)|refine FrzL.cons ?_ ?_|refine FrzR.cons ?_ ?_|refine FrzR.sl ?_
 ·simp only[Qdh,St.ok,Qep,Ex.ok];refine⟨⟨by simp,⟨⟨fun h=>by simp at h,trivial⟩,trivial⟩,trivial,trivial⟩,⟨by simp,⟨⟨fun h=>by simp at h,trivial⟩,trivial⟩,Qamd g8 ?_,trivial⟩,trivial⟩;simp[Qdh,St.ok,Qep,Ex.ok]
 ·simp only[Q8,St.size,Qjz,Qan,Ex.size];omega
theorem Qbwk {A L1 L2:List (Nat×Obj)}:(A++L1++L2).Perm (A++L2++L1):=by
 rw[Jg,Jg];exact .append_left _ Jf
set_option maxHeartbeats 2000000 in
theorem Qbmk {d : Nat} (hB : ∀ d', d = d' + 1 → Qad5 d') : Qbsf d := by
  intro R gl k s H K deep hd hR hG hne hs hF hk hK;have hp0 : d < 10^d := Jx (by omega);have hex : ∃ e, 10^d = e ∧ ∀ d', d = d' + 1 → 10 * 10^d' = e := ⟨10^d, rfl, fun d' h => by rw [h, Nat.pow_succ]; omega⟩;obtain ⟨e, hpe, he'⟩ := hex;rw [hpe] at hp0 hk hK;have hl0 := hs.l0;have hl1 := hs.l1;refine Q3 ?_;refine Qc Qal Qaxv ?_;refine Qa ?_;simp only [go_sem];refine Qa ?_;simp only [go_sem, hG, GS.o];refine ⟨Qs (by omega) (by omega), fun H1 h1 => ?_⟩;have kn : Kn H H1 [(R.l, R.o k), (gl, GS.o { s with left := s.left - 1 } R)] [] := (Kn.start2 hR (R.o_ne k) hG (s.o_ne R) hne).stE 1 rfl h1;have hs1 : GS.ok { s with left := s.left - 1 } (k + 1) := ⟨hs.n0, by have := hs.n1; show s.next ≤ _; omega, by show _ ≤ s.left - 1; omega, by show s.left - 1 ≤ 100; omega, by have := hs.v; show s.vars.length ≤ _; omega, hs.f, hs.fn⟩;have hlr : s.left ≤ ({ s with left := s.left - 1 } : GS).left + 1 := by show s.left ≤ s.left - 1 + 1; omega
  have hfn : ({ s with left := s.left - 1 } : GS).fns = s.fns := rfl;have hff : ({ s with left := s.left - 1 } : GS).ffl = s.ffl := rfl;have hF1 : FnsOk H R gl { s with left := s.left - 1 } := ⟨hF.1, hF.2⟩;generalize ({ s with left := s.left - 1 } : GS) = s1 at *;have hG1 := kn.e 1 rfl;refine Qa ?_;simp only [go_sem, hG1, GS.o];refine Qa8 (kn.e 0 rfl) (by omega) fun v H2 hv hu => ?_;have kn : Kn H H2 [(R.l, R.o (k + 1)), (gl, s1.o R)] [] := kn.callE 0 rfl hu (R.o_ne _);have hG2 := kn.e 1 rfl;simp only [go_sem, Qwd];have fin : ∀ (l : List St) (c : C) (s' : GS) (H3 : Heap) (k3 : Nat) (L : List (Nat × Obj)), k < k3 → k3 ≤ k + 500 * e → Kn H H3 [(R.l, R.o k3), (gl, s'.o R)] L → FrzC H3 (un H) c (.sl false 5 (Qa7 l)) →
      s'.ok k3 → s1.left + 4 * ((k + 1 : Nat) : Int) ≤ s'.left + 4 * (k3 : Int) → s'.fns = s1.fns → s'.ffl = s1.ffl → l.length ≤ 2 → Qdh l → 4 * k + Q8 l ≤ 4 * k3 → ∃ x', FrzV H3 (un H) (.c c) x' ∧ K x' (H3.frz (un H)) := by
    intro l c s' H3 k3 L g1 g2 kn g3 g4 g5 g6 g7 g8 g9 g10;exact ⟨_, .c _ _ g3, hK l s' _ k3 g1 g2 kn.fin g4 (by omega) (g6.trans hfn) (g7.trans hff) g8 g9 g10⟩
  refine Qh (Qe ?_);refine Qa ?_;simp only [go_sem, hG2, GS.o, Qaz];intro hvl;refine Qd rfl ?_ ?_
  ·
    intro hc;have hv0 : 0 < s1.vars.length := by
      cases h : decide (v < 3) with
      | true => rw [h] at hc; simp at hc; omega
      | false => rw [h] at hc; simp at hc
    refine Qaj ?_;simp only [go_sem, hG2, GS.o];refine of_c (kn.e 0 rfl) (by omega) hv0 fun name H3 hn hu => ?_;have kn := kn.callE 0 rfl hu (R.o_ne _);simp only [go_sem, Qwf];refine Qcf 3 (by omega) (kn.e 0 rfl) (kn.e 1 rfl) hne (hs1.mono (by omega)) (hF1.keep kn rfl rfl) (by omega) fun x H4 k4 g1 g2 hu g3 g4 => ?_;have kn := kn.callE 0 rfl hu (R.o_ne _);simp only [go_sem, Qwe, x.cells_len];refine Qk ?_;simp only [go_sem, Q5, Qae, Qbj, reduceIte, Ja, forall_eq, RS.op];refine fin [St.mk 2 name [x] [] []] _ s1 H4 k4 _ (by omega) (by omega) kn ?_ (hs1.mono (by omega)) (by omega) rfl rfl (by simp) ?_ ?_
    · simp only [Qa7, St.cells, Qbz]
      repeat' first | exact FrzL.nil | exact FrzR.nil | exact Qi rfl | exact FrzL.same (Ex.noOw _) | exact FrzL.same (St.noOw _) | refine FrzL.cons ?_ ?_ | refine FrzR.cons ?_ ?_ | refine FrzR.sl ?_
    · simp only [Qdh, St.ok, Qep]; exact ⟨⟨by simp, ⟨g3, trivial⟩, trivial, trivial⟩, trivial⟩
    · simp only [Q8, St.size, Qan]; omega
  intro hc0;refine Qa ?_;simp only [go_sem];refine Qd rfl ?_ ?_
  ·
    intro hc;refine Qa ?_;simp only [go_sem];refine Qcf 3 (by omega) (kn.e 0 rfl) (kn.e 1 rfl) hne (hs1.mono (by omega)) (hF1.keep kn rfl rfl) (by omega) fun x H4 k4 g1 g2 hu g3 g4 => ?_;have kn := kn.callE 0 rfl hu (R.o_ne _);simp only [go_sem, Qwh, x.cells_eq];refine Qae2 (x := x) (kn.e 0 rfl) (kn.e 1 rfl) hne (hs1.mono (by omega)) (by omega) fun name H5 k5 g5 g6 hu => ?_;have kn := kn.callEE 0 1 rfl rfl (by decide) hu (R.o_ne _) (GS.o_ne _ _);simp only [go_sem, Qwg, St.cells_len];refine Qk ?_;simp only [go_sem, Q5, Qae, Qbj, reduceIte, Ja, forall_eq, RS.op];have h0 := hs1.n0;have h1 := hs1.n1;have h2 := hs1.l0;have h3 := hs1.v;refine fin [St.mk 1 name [x] [] []] _ _ H5 k5 _ (by omega) (by omega) kn ?_ ⟨?_, ?_, ?_, hs1.l1, ?_, hs1.f, hs1.fn⟩ (by show _ ≤ s1.left + _; omega) rfl rfl (by simp) ?_ ?_
    · simp only [Qa7]
      repeat' first | exact FrzL.nil | exact FrzR.nil | exact Qi rfl | exact FrzL.same (Ex.noOw _) | exact FrzL.same (St.noOw _) | refine FrzL.cons ?_ ?_ | refine FrzR.cons ?_ ?_ | refine FrzR.sl ?_
    · show -1 ≤ s1.next + 1; omega
    · show s1.next + 1 ≤ _; omega
    · show _ ≤ s1.left; omega
    · show (s1.vars ++ [name]).length ≤ _; simp; omega
    · simp only [Qdh, St.ok, Qep]; exact ⟨⟨by simp, ⟨g3, trivial⟩, trivial, trivial⟩, trivial⟩
    · simp only [Q8, St.size, Qan]; omega
  intro hc1;refine Qa ?_;simp only [go_sem];refine Qd rfl ?_ ?_
  ·
    intro hc;refine Qa ?_;simp only [go_sem];refine Qcf 3 (by omega) (kn.e 0 rfl) (kn.e 1 rfl) hne (hs1.mono (by omega)) (hF1.keep kn rfl rfl) (by omega) fun x H4 k4 g1 g2 hu g3 g4 => ?_;have kn := kn.callE 0 rfl hu (R.o_ne _);simp only [go_sem, Qwi, x.cells_len];refine Qk ?_;simp only [go_sem, Q5, Qae, Qbj, reduceIte, Ja, forall_eq, RS.op];refine fin [St.mk 3 [] [x] [] []] _ s1 H4 k4 _ (by omega) (by omega) kn ?_ (hs1.mono (by omega)) (by omega) rfl rfl (by simp) ?_ ?_
    · simp only [Qa7, St.cells, Qbz]
      repeat' first | exact FrzL.nil | exact FrzR.nil | exact Qi rfl | exact FrzL.same (Ex.noOw _) | exact FrzL.same (St.noOw _) | refine FrzL.cons ?_ ?_ | refine FrzR.cons ?_ ?_ | refine FrzR.sl ?_
    · simp only [Qdh, St.ok, Qep]; exact ⟨⟨by simp, ⟨g3, trivial⟩, trivial, trivial⟩, trivial⟩
    · simp only [Q8, St.size, Qan]; omega
  intro hc2;have hdp : 2 ≤ deep := by
    cases h : decide (v < 7) with
    | true => rw [h] at hc2; simp at hc2
    | false => rw [h] at hc2; simp at hc2; omega
  obtain ⟨d', hdd⟩ : ∃ d', d = d' + 1 := ⟨d - 1, by omega⟩;have hB0 : Qad5 d' := hB d' hdd;have hL0 : Qbse d' := Qbtw hB0;have hB' := hB0;have hL' := hL0;simp only [Qad5, Qbse] at hB' hL';have he1 := he' d' hdd;have hp1 : d' < 10^d' := Jx (by omega);generalize 10^d' = e1 at *;refine Qa ?_;simp only [go_sem];refine Qd rfl ?_ ?_
  ·
    intro hc;refine Qa ?_;simp only [go_sem];refine Q76 (kn.e 0 rfl) (kn.e 1 rfl) hne (hs1.mono (by omega)) (hF1.keep kn rfl rfl) (by omega) fun x H4 k4 g1 g2 hu g3 g4 => ?_;have kn := kn.callE 0 rfl hu (R.o_ne _);simp only [go_sem, Qwk, x.cells_len];refine Qcf 2 (by omega) (kn.e 0 rfl) (kn.e 1 rfl) hne (hs1.mono (by omega)) (hF1.keep kn rfl rfl) (by omega) fun y H5 k5 g5 g6 hu g7 g8 => ?_;have kn := kn.callE 0 rfl hu (R.o_ne _);simp only [go_sem, Qwj, x.cells_len, y.cells_len];refine Qk ?_;simp only [go_sem, Q5, Qae, Qbj, reduceIte, Ja, forall_eq, RS.op];refine fin [St.mk 4 [] [x, y] [] []] _ s1 H5 k5 _ (by omega) (by omega) kn ?_ (hs1.mono (by omega)) (by omega) rfl rfl (by simp) ?_ ?_
    · simp only [Qa7, St.cells, Qbz]
      repeat' first | exact FrzL.nil | exact FrzR.nil | exact Qi rfl | exact FrzL.same (Ex.noOw _) | exact FrzL.same (St.noOw _) | refine FrzL.cons ?_ ?_ | refine FrzR.cons ?_ ?_ | refine FrzR.sl ?_
    · simp only [Qdh, St.ok, Qep]; exact ⟨⟨by simp, ⟨g3, g7, trivial⟩, trivial, trivial⟩, trivial⟩
    · simp only [Q8, St.size, Qan]; omega
  intro hc3;refine Qa ?_;simp only [go_sem];refine Qd rfl ?_ ?_
  ·
    intro hc;refine Qa ?_;simp only [go_sem];refine Q76 (kn.e 0 rfl) (kn.e 1 rfl) hne (hs1.mono (by omega)) (hF1.keep kn rfl rfl) (by omega) fun x H4 k4 g1 g2 hu g3 g4 => ?_;have kn := kn.callE 0 rfl hu (R.o_ne _);simp only [go_sem, Qwl, x.cells_len];refine Qk ?_;simp only [go_sem, Q5, Qae, Qbj, reduceIte, Ja, forall_eq, RS.op];refine fin [St.mk 3 [] [Ex.mk 12 0 [] [x]] [] []] _ s1 H4 k4 _ (by omega) (by omega) kn ?_ (hs1.mono (by omega)) (by omega) rfl rfl (by simp) ?_ ?_
    · rw [Qa7, Qa7, St.cells, Qbz, Qbz, Ex.cells_eq (Ex.mk 12 0 [] _)];simp only [Qa7, Qbz, Ex.kids, Ex.op, Ex.n, Ex.name]
      repeat' first | exact FrzL.nil | exact FrzR.nil | exact Qi rfl | exact FrzL.same (Ex.noOw _) | exact FrzL.same (St.noOw _) | refine FrzL.cons ?_ ?_ | refine FrzR.cons ?_ ?_ | refine FrzR.sl ?_
    · simp only [Qdh, St.ok, Qep, Ex.ok]; exact ⟨⟨by simp, ⟨⟨fun h => by simp at h, g3, trivial⟩, trivial⟩, trivial, trivial⟩, trivial⟩
    · simp only [Q8, St.size, Qan, Ex.size]; omega
  intro hc4;refine Qa ?_;simp only [go_sem];refine Qd rfl ?_ ?_
  ·
    intro hc;refine Qa ?_;simp only [go_sem];refine Qcf 3 (by omega) (kn.e 0 rfl) (kn.e 1 rfl) hne (hs1.mono (by omega)) (hF1.keep kn rfl rfl) (by omega) fun x H4 k4 g1 g2 hu g3 g4 => ?_;have kn := kn.callE 0 rfl hu (R.o_ne _);simp only [go_sem, Qp4, x.cells_len];refine ⟨Qs (by omega) (by omega), ?_⟩;refine hB' _ _ _ _ _ _ (deep - 1) (by omega) (kn.e 0 rfl) (kn.e 1 rfl) hne (hs1.mono (by omega)) (hF1.keep kn rfl rfl) (by omega) fun b1 c1 L1 s2 H5 k5 g5 g6 hu hg1 hnew hs2 glf g7 g8 g9 g10 g11 => ?_;have kn0 := kn;have kn := kn.callEE 0 1 rfl rfl (by decide) hu (R.o_ne _) (GS.o_ne _ _);have kn := kn0.addGr kn rfl rfl hg1 hnew;have hc1ow := hg1.isOw;simp only [go_sem, Qp3];intro x6 hx6 H6 h6;have kn := kn.al hx6 h6;have kn := kn.perm (L' := [(x6, _)] ++ L1) Jf;have hx66 := kn.l 0 rfl;simp only [go_sem, Qwm, hx66];intro H7 h7;have kn : Kn H H7 [(R.l, R.o k5), (gl, s2.o R)] ([(x6, _)] ++ L1) := kn.stL 0 rfl h7;have hG7 := kn.e 1 rfl;refine Qaa ?_;refine Qa ?_;simp only [go_sem, hG7, GS.o];refine Qa8 (kn.e 0 rfl) (by omega) fun v2 H8 hv2 hu => ?_;have kn : Kn H H8 [(R.l, R.o (k5 + 1)), (gl, s2.o R)] ([(x6, _)] ++ L1) := kn.callE 0 rfl hu (R.o_ne _);simp only [go_sem, Qp5];have rest : ∀ (E1 : Env) (hE : lk 6 E1 = V.c (C.ptr x6 0)) (c2 : C) (b2 : List St) (L2 : List (Nat × Obj)) (s3 : GS) (H9 : Heap) (k6 : Nat), k5 + 1 ≤ k6 → k6 ≤ k5 + 1 + 2001 * e1 → Gr L2 5 (Qa7 b2) c2 →
        Kn H H9 [(R.l, R.o k6), (gl, s3.o R)] ([(x6, .st [.int .i64 5, .str [], .sl true 4 [x.cells], c1, c2])] ++ L1 ++ L2) → s3.ok k6 → s2.left + 4 * ((k5 + 1 : Nat) : Int) ≤ s3.left + 4 * (k6 : Int) → s3.fns = s2.fns → s3.ffl = s2.ffl → Qdh b2 → 4 * (k5 + 1) + Q8 b2 ≤ 4 * k6 →
        Qam prog Qwb (X.inBlock 0 (X.sq prog Qjr (Q5 Qbj (unK H K)))) E1 H9 := by
      intro E1 hE c2 b2 L2 s3 H9 k6 e1 e2 hg2 kn e3 e4 e5 e6 e7 e8;have hx69 := kn.l 0 rfl;have hc2ow := hg2.isOw;refine Qa ?_;simp only [go_sem, hE, hx69, hc1ow, hc2ow];refine Qk ?_;simp only [go_sem, Q5, Qae, Qbj, reduceIte, Ja, forall_eq, RS.op];refine fin [St.mk 5 [] [x] b1 b2] _ s3 H9 k6 _ (by omega) (by omega) kn ?_ e3 (by omega) (e5.trans g7) (e6.trans g8) (by simp) ?_ ?_
      · simp only [Qa7, St.cells, Qbz]
        repeat' first | exact FrzL.nil | exact FrzR.nil | exact Qi rfl | exact FrzL.same (Ex.noOw _) | exact FrzL.same (St.noOw _) | refine FrzL.cons ?_ ?_ | refine FrzR.cons ?_ ?_ | refine FrzR.sl ?_
        · exact hg1.frz (kn.perm Qbwk) (Qin _)
        · exact hg2.frz kn (Qin _)
      · simp only [Qdh, St.ok, Qep]; exact ⟨⟨by simp, ⟨g3, trivial⟩, g10, e7⟩, trivial⟩
      · simp only [Q8, St.size, Qan]; omega
    refine Qh (Qd rfl ?_ ?_)
    · intro hc';refine Qt ?_;simp only [go_sem];refine ⟨Qs (by omega) (by omega), ?_⟩;refine hB' _ _ _ _ _ _ (deep - 1) (by omega) (kn.e 0 rfl) (kn.e 1 rfl) hne (hs2.mono (by omega)) (hF1.keep kn g7 g8) (by omega) fun b2 c2 L2 s3 H9 k6 q1 q2 hu hg2 hnew hs3 q3 q4 q5 q6 q7 q8 => ?_;have kn0 := kn;have kn := kn.callEE 0 1 rfl rfl (by decide) hu (R.o_ne _) (GS.o_ne _ _);have kn := kn0.addGr kn rfl rfl hg2 hnew;have hx69 := kn.l 0 rfl;simp only [go_sem, Qp6, hx69];intro H10 h10;have kn : Kn H H10 [(R.l, R.o k6), (gl, s3.o R)] ([(x6, _)] ++ L1 ++ L2) := kn.stL 0 rfl h10;exact rest _ (by simp [lk]) c2 b2 L2 s3 H10 k6 (by omega) (by omega) hg2 kn hs3 (by omega) q4 q5 q7 (by omega)
    · intro hc';refine Qg ?_;simp only [go_sem];exact rest _ (by simp [lk]) _ [] [] s2 H8 (k5 + 1) (by omega) (by omega) (.nil 5) (by rw [List.append_nil]; exact kn) (hs2.mono (by omega)) (by omega) rfl rfl trivial (by simp only [Q8]; omega)
  · intro hc5;refine Qa ?_;simp only [go_sem, hG2, GS.o];have rest : ∀ (b : Bool) (H3 : Heap) (k3 : Nat), k + 1 ≤ k3 → k3 ≤ k + 2 → Kn H H3 [(R.l, R.o k3), (gl, s1.o R)] [] →
        Qam prog Qwc (X.inBlock 0 (X.sq prog Qjr (Q5 Qbj (unK H K))))
         [(0, V.c (C.ptr gl 0)), (1, .c (.int .i64 deep)), (109, .c (.bool b))] H3 := by
      intro b H3 k3 e3 e4 kn;refine Qd rfl ?_ ?_
      · intro hb;refine Qa ?_;simp only [go_sem];refine Qcf 2 (by omega) (kn.e 0 rfl) (kn.e 1 rfl) hne (hs1.mono (by omega)) (hF1.keep kn rfl rfl) (by omega) fun x H4 k4 g1 g2 hu g3 g4 => ?_;have kn := kn.callE 0 rfl hu (R.o_ne _);simp only [go_sem, Qp7, x.cells_len];refine Qk ?_;simp only [go_sem, Q5, Qae, Qbj, reduceIte, Ja, forall_eq, RS.op];refine fin [St.mk 7 [] [x] [] []] _ s1 H4 k4 _ (by omega) (by omega) kn ?_ (hs1.mono (by omega)) (by omega) rfl rfl (by simp) ?_ ?_
        · simp only [Qa7, St.cells, Qbz]
          repeat' first | exact FrzL.nil | exact FrzR.nil | exact Qi rfl | exact FrzL.same (Ex.noOw _) | exact FrzL.same (St.noOw _) | refine FrzL.cons ?_ ?_ | refine FrzR.cons ?_ ?_ | refine FrzR.sl ?_
        · simp only [Qdh, St.ok, Qep]; exact ⟨⟨by simp, ⟨g3, trivial⟩, trivial, trivial⟩, trivial⟩
        · simp only [Q8, St.size, Qan]; omega
      · intro hb;refine Qg ?_;simp only [go_sem];refine Qa ?_;simp only [go_sem];refine hL' _ _ _ _ _ _ deep (by omega) hdp (kn.e 0 rfl) (kn.e 1 rfl) hne (hs1.mono (by omega)) (hF1.keep kn rfl rfl) (by omega) fun l s2 H4 k4 g1 g2 hu g3 g4 g5 g6 g7 g8 g9 => ?_;have kn := kn.callEE 0 1 rfl rfl (by decide) hu (R.o_ne _) (GS.o_ne _ _);simp only [go_sem, Qp8];refine Qk ?_;simp only [go_sem, Q5, Qae, Qbj, reduceIte, Ja, forall_eq, RS.op];exact fin l _ s2 H4 k4 _ (by omega) (by omega) kn (Qi rfl) g3 (by omega) g5 g6 g7 g8 (by omega)
    refine ⟨fun hb => ?_, fun hb => ?_⟩
    · refine Qa8 (kn.e 0 rfl) (by omega) fun v2 H3 hv2 hu => ?_;have kn := kn.callE 0 rfl hu (R.o_ne _);simp only [go_sem, Qhk];exact rest _ H3 (k + 1 + 1) (by omega) (by omega) kn
    · simp only [go_sem, Qhk, hb];exact rest _ H2 (k + 1) (by omega) (by omega) kn
theorem Qbso (d:Nat):Qad5 d:=by
 induction d with
 |zero=>exact Qbbe (Qbmk (fun d' h=>absurd h (by omega)))
 |succ d ih=>exact Qbbe (Qbmk (fun d' h=>by
   have:d'=d:=by omega
   rw[this];exact ih))
set_option maxHeartbeats 1000000 in
theorem Qaq9 {R:Rdr}{gl k:Nat}{s:GS}{name:List UInt8}{params:Int}{H:Heap}{K:V→Heap→Prop}(hp0:0≤params)(hp3:params≤3)(hR:H R.l=R.o k)(hG:H gl=s.o R)(hne:R.l≠gl)(hs:s.ok k)(hF:FnsOk H R gl s)(hk:k+2001300≤2^30)
  (hK:∀(f:Fn) (s':GS) (H':Heap) (k':Nat),k<k'→k'≤k+2001300→Upd H H' [(R.l,R.o k'),(gl,s'.o R)]→s'.ok k'→s'.fns=s.fns→s'.ffl=s.ffl→f.params.length≤3→Qdh f.body→4 * k+Q8 f.body≤4 * k'→K (.ag f.cells) H') :
  Qr prog Qnx [.c (.ptr gl 0),.c (.str name),.c (.int .i64 params)] H K:=by
 obtain⟨np,rfl⟩:=Jn hp0;refine Q3 ?_;refine Qc Qal Qbeq ?_;refine Qa ?_;simp only[go_sem];intro x6 hx6 H1 h1;have kn:=(Kn.start2 hR (R.o_ne k) hG (s.o_ne R) hne).al hx6 h1;have hG1:=kn.e 1 rfl;refine Qa ?_;have etk:List.take np [[C.str [97]],[C.str [98]],[C.str [99]]]=Qbu (List.take np [[97],[98],[99]]):=by simp[Qbu,List.map_take]
 simp only[go_sem,hG1,GS.o,etk];refine⟨⟨by omega,by omega⟩,fun H2 h2=>?_⟩;have kn:Kn H H2 [(R.l,R.o k),(gl,GS.o { s with vars:=List.take np [[97],[98],[99]],vfl:=false } R)] [(x6,_)]:=kn.stE 1 rfl h2;have hG2:=kn.e 1 rfl;refine Qa ?_;simp only[go_sem,hG2,GS.o];refine⟨Qs (by omega) (by omega),fun H3 h3=>?_⟩;have kn:Kn H H3 [(R.l,R.o k),(gl,GS.o { s with vars:=List.take np [[97],[98],[99]],vfl:=false,next:=(np:Int)-1 } R)] [(x6,_)]:=kn.stE 1 rfl h3;have hs1:GS.ok { s with vars:=List.take np [[97],[98],[99]],vfl:=false,next:=(np:Int)-1 } k:=
  ⟨by show -1≤(np:Int)-1;omega,by show (np:Int)-1≤_;omega,hs.l0,hs.l1,by show (List.take np _).length≤_;simp;omega,hs.f,hs.fn⟩
 have hvl:(List.take np [[97],[98],[99]]:List (List UInt8)).length≤3:=by simp;omega
 have hfn:GS.fns { s with vars:=List.take np [[97],[98],[99]],vfl:=false,next:=(np:Int)-1 }=s.fns:=rfl;have hff:GS.ffl { s with vars:=List.take np [[97],[98],[99]],vfl:=false,next:=(np:Int)-1 }=s.ffl:=rfl;have hvv:GS.vars { s with vars:=List.take np [[97],[98],[99]],vfl:=false,next:=(np:Int)-1 }=List.take np [[97],[98],[99]]:=rfl;rw[←hvv]at hvl;have hF1:FnsOk H R gl { s with vars:=List.take np [[97],[98],[99]],vfl:=false,next:=(np:Int)-1 }:=⟨hF.1,hF.2⟩;generalize ({ s with vars:=List.take np [[97],[98],[99]],vfl:=false,next:=(np:Int)-1 }:GS)=s1 at *;have hG3:=kn.e 1 rfl;refine Qa ?_;have hL:s1.vars.length≤LIM:=by simp only[LIM];omega
 simp only[go_sem,hG3,GS.o,Qaz,Ji,Jq,hL];refine⟨.inl trivial,Qo1 _,fun y hy H4 h4=>?_⟩;have kn:=kn.al hy h4;simp only[go_sem,Q4l];intro x7 hx7 H5 h5;have kn:=kn.al hx7 h5;have hx75:=kn.l 2 rfl;simp only[go_sem,Q4k,hx75];intro H6 h6;have kn:Kn H H6 [(R.l,R.o k),(gl,s1.o R)] [(x6,_),(y,_),(x7,_)]:=kn.stL 2 rfl h6;refine Qa ?_;simp only[go_sem];refine Qbso 3 _ _ _ _ _ _ 3 (by omega) (kn.e 0 rfl) (kn.e 1 rfl) hne hs1 (hF1.keep kn rfl rfl) (by omega) fun l c Lg s2 H7 k2 g1 g2 hu hgr hnew hs2 glf g3 g4 g5 g6 g7=>?_;have kn0:=kn;have kn:=kn.callEE 0 1 rfl rfl (by decide) hu (R.o_ne _) (GS.o_ne _ _);have kn:=kn0.addGr kn rfl rfl hgr hnew;have hx77:=kn.l 2 rfl;simp only[go_sem,Q4m,hx77];intro H8 h8;have kn:Kn H H8 [(R.l,R.o k2),(gl,s2.o R)] ([(x6,.st [.str [],.sl true 1 [],.sl true 5 []]),(y,.vec 1 (Qbu s1.vars)),(x7,.st [.str name,.vsl y 1 0 s1.vars.length,c])]++Lg):=kn.stL 2 rfl h8;have hG8:=kn.e 1 rfl;refine Qaa ?_;refine Qa ?_;simp only[go_sem,hG8,GS.o];have hcow:=hgr.isOw;have rest:∀(E1:Env) (hE6:lk 6 E1=V.c (C.ptr x6 0)) (hE7:lk 7 E1=V.c (C.ptr x7 0)) (l2:List St) (c2:C) (rws:List (List C)) (L2:List (Nat×Obj)) (s3:GS) (H9:Heap) (k3:Nat),k<k3→k3≤k+2001300→
   Kn H H9 [(R.l,R.o k3),(gl,s3.o R)] ([(x6,.st [.str [],.sl true 1 [],.sl true 5 []]),(y,.vec 1 (Qbu s1.vars)),(x7,.st [.str name,.vsl y 1 0 s1.vars.length,c2])]++L2)→Gr L2 5 rws c2→(∀H',FrzR H' (un H) rws (Qa7 l2))→
   s3.ok k3→s3.fns=s1.fns→s3.ffl=s1.ffl→Qdh l2→4 * k+Q8 l2≤4 * k3→Qam prog Qv3 (Q5 Qx4 (unK H K)) E1 H9:=by
  intro E1 hE6 hE7 l2 c2 rws L2 s3 H9 k3 e1 e2 kn hg2 hfr e3 e4 e5 e6 e7;have hx69:=kn.l 0 rfl;have hx79:=kn.l 2 rfl;have hcow:=hg2.isOw;refine Qa ?_;simp only[go_sem,hE6,hE7,hx69,hx79,hcow];intro H10 h10;have kn:=kn.stL 0 rfl h10;have hx6a:=kn.l 0 rfl;have hya:=kn.l 1 rfl;refine Qk ?_;simp only[go_sem,Q5,Qae,Qx4,reduceIte,Ja,forall_eq,RS.op,hx6a,hcow];refine⟨(.ag (Fn.mk name s1.vars l2).cells),?_,hK _ s3 _ k3 e1 e2 kn.fin e3 (e4.trans hfn) (e5.trans hff) hvl e6 e7⟩;refine FrzL.ag (.cons (Qi rfl) (.cons ?_ (.cons ?_ .nil)))
  ·exact Qasi (kn.un 1 rfl) hya (by simp[Qbu]) (noOw_mem (Qo1 _))
  ·exact hg2.frzR (B:=[_,_,_]) kn (hfr _)
 have tl:∀(b:Bool) (H9:Heap) (k3:Nat),k2≤k3→k3≤k2+1→(b=true→0<s2.left)→Kn H H9 [(R.l,R.o k3),(gl,s2.o R)] ([(x6,.st [.str [],.sl true 1 [],.sl true 5 []]),(y,.vec 1 (Qbu s1.vars)),(x7,.st [.str name,.vsl y 1 0 s1.vars.length,c])]++Lg)→
   Qam prog (s_l3Gen_fn_7.seq Qv3) (Q5 Qx4 (unK H K)) [(0,V.c (C.ptr gl 0)),(6,V.c (C.ptr x6 0)),(7,V.c (C.ptr x7 0)),(42,.c (.bool b))] H9:=by
  intro b H9 k3 e1 e2 hb kn;have hG9:=kn.e 1 rfl;refine Qh (Qd rfl ?_ ?_)
  ·intro hc;have hlp:=hb hc;have hl1:=hs2.l1;refine Qa ?_;simp only[go_sem,hG9,GS.o];refine⟨Qs (by omega) (by omega),fun H10 h10=>?_⟩;have kn:Kn H H10 [(R.l,R.o k3),(gl,GS.o { s2 with left:=s2.left-1 } R)] ([(x6,_),(y,_),(x7,_)]++Lg):=kn.stE 1 rfl h10;have hs3:GS.ok { s2 with left:=s2.left-1 } k3:=⟨hs2.n0,by have:=hs2.n1;show s2.next≤_;omega,by show _≤s2.left-1;omega,by show s2.left-1≤100;omega,by have:=hs2.v;show s2.vars.length≤_;omega,hs2.f,hs2.fn⟩;have hx7a:=kn.l 2 rfl;refine Qbn ?_;simp only[go_sem,hx7a,hcow];refine Qcf 2 (by omega) (kn.e 0 rfl) (kn.e 1 rfl) hne hs3 (hF1.keep kn g3 g4) (by omega) fun x H11 k4 q1 q2 hu q3 q4=>?_;have kn:=kn.callE 0 rfl hu (R.o_ne _);have hx7b:=kn.l 2 rfl;simp only[go_sem,Q4o,hx7b,hcow,x.cells_len];refine kn.grow (B:=[_,_,_]) hgr (.mk' _ _ _ _) (by intro r hr;simp only[Ja]at hr;subst hr;rfl) (by simp only[Qbg,LIM,Jj,Jo];omega) fun y' H12 kn=>?_;have hx7c:=kn.l 2 rfl;simp only[go_sem,Q4n,hx7c];intro H13 h13;have kn:=kn.stL 2 rfl h13;refine rest _ (by simp[lk]) (by simp[lk]) (l++[St.mk 7 [] [x] [] []]) _ _ _ _ H13 k4 (by omega) (by omega) kn (.mk _ _ _ (by simp[Qbg])) (fun H'=>?_) (hs3.mono (by omega)) g3 g4 (Qamd g6 ?_) ?_
   ·rw[←Qamc];refine .app (.same (Qin _)) ?_;simp only[Qa7,St.cells,Qbz]
    repeat' first|exact FrzL.nil|exact FrzR.nil|exact Qi rfl|exact FrzL.same (Ex.noOw _)|exact FrzL.same (St.noOw _)|refine FrzL.cons ?_ ?_|refine FrzR.cons ?_ ?_|refine FrzR.sl ?_
   ·simp only[Qdh,St.ok,Qep];exact⟨⟨by simp,⟨q3,trivial⟩,trivial,trivial⟩,trivial⟩
   ·simp only[Qjz,Q8,St.size,Qan];omega
  ·intro hc;refine Qg ?_;simp only[go_sem];exact rest _ (by simp[lk]) (by simp[lk]) l c _ Lg s2 H9 k3 (by omega) (by omega) kn hgr (fun H'=>.same (Qin _)) (hs2.mono (by omega)) g3 g4 g6 (by omega)
 refine⟨fun hb=>?_,fun hb=>?_⟩
 ·refine Qa8 (kn.e 0 rfl) (by omega) fun v H9 hv hu=>?_;have kn:=kn.callE 0 rfl hu (R.o_ne _);simp only[go_sem,Qor,hb];exact tl _ H9 (k2+1) (by omega) (by omega) (fun _=>by simpa using hb) kn
 ·simp only[go_sem,Qor,hb];exact tl false H8 k2 (by omega) (by omega) (fun h=>by simp at h) kn
variable {H:Heap}{K:V→Heap→Prop}
theorem Qsr {l:List Ex}{i:Nat}(h:i<l.length):Qan (l.take (i+1))=Qan (l.take i)+(l[i]'h).size:=by
 rw[Jh h,Q0u];simp[Qan]
theorem Qxp {l:List St}{i:Nat}(h:i<l.length):Q8 (l.take (i+1))=Q8 (l.take i)+(l[i]'h).size:=by
 rw[Jh h,Qjz];simp[Q8]
theorem Qip (l:List Ex)(i:Nat):Qan (l.take i)≤Qan l:=by
 conv=>rhs;rw[←Jw i l,Q0u]
 omega
theorem Qj0 (l:List St)(i:Nat):Q8 (l.take i)≤Q8 l:=by
 conv=>rhs;rw[←Jw i l,Qjz]
 omega
theorem St.size_pos (x:St):1≤x.size:=by rw[x.size_eq];omega
theorem Qame (l:List St):l.length≤Q8 l:=by
 induction l with
 |nil=>simp
 |cons x r ih=>simp only[Jj,Q8];have:=x.size_pos;omega
theorem Qbja:∀(n:Nat) (x:Ex) {H:Heap} {K:V→Heap→Prop},x.size≤n→x.size≤2^40→K (.c (.int .i64 x.size)) H→Qr prog Qxv [.ag x.cells] H K:=by
 intro n
 induction n with
 |zero=>intro x _ _ h;have:=x.size_pos;omega
 |succ n ih=>
 intro x H K hn hb hK;have hsz:=x.size_kids;refine Qc Qal Qbjx ?_;refine Qa ?_;simp only[go_sem,x.cells_eq];refine Qa ?_;simp only[go_sem];refine Qaa ?_;refine Qa ?_;simp only[go_sem];refine Qh (Qe (Qx (fun n e1 H1=>∃i:Nat,n=x.kids.length-i∧i≤x.kids.length∧H1=H∧e1=[(1,.c (.pp [.int .i64 x.op,.int .i64 x.n,.str x.name,.sl false 4 (Qbz x.kids)])),(3,.c (.int .i64 ((1+Qan (x.kids.take i):Nat):Int))),(4,.c (.int .i64 i))]) x.kids.length ?_ ?_))
 ·exact⟨0,by omega,by omega,rfl,by simp[Qan]⟩
 ·rintro n e1 H1 ⟨i,hn,hi,rfl,rfl⟩;refine Qaa ?_;refine Qa ?_;simp only[go_sem,Qba];intro hl;simp only[LIM]at hl;refine Qh (Qd rfl ?_ ?_)
  ·intro hc;have hlt:i<x.kids.length:=by simpa using hc
   have hm:=Qf8 (Jc hlt);have htk:=Qsr hlt;have htl:=Qip x.kids (i+1);refine Qg ?_;simp only[go_sem];refine Qh (Qe (Qt ?_));simp only[go_sem,hlt,Qba,Qf7 _ _ hlt,Ex.take4,Ex.allOw,Ex.cells_len];refine ih _ (by omega) (by omega) ?_;simp only[go_sem,Q9y];refine⟨Qs (by omega) (by omega),?_⟩;refine Qt ?_;simp only[go_sem,X.next];refine⟨Qs (by omega) (by omega),x.kids.length-(i+1),by omega,i+1,rfl,by omega,?_⟩;rw[htk];simp;omega
  ·intro hc;have hge:x.kids.length≤i:=by simpa using hc
   refine Qw ?_;simp only[go_sem,X.next];refine Qa ?_;simp only[go_sem];refine Qk ?_;simp only[go_sem,Q5,Qae,Qayg,reduceIte,Ja,forall_eq,RS.op];rw[Jd hge,←hsz];exact hK
theorem Qboi:∀(n:Nat) (x:Ex) {H:Heap} {K:V→Heap→Prop} (deep:Int),x.size≤n→deep≤100→(∀b:Bool,K (.c (.bool b)) H)→Qr prog Q2k [.ag x.cells,.c (.int .i64 deep)] H K:=by
 intro n
 induction n with
 |zero=>intro x _ _ _ h;have:=x.size_pos;omega
 |succ n ih=>
 intro x H K deep hn hd hK;have hsz:=x.size_kids;refine Qc Qal Qbo1 ?_;refine Qa ?_;simp only[go_sem,x.cells_eq];refine Qa ?_;simp only[go_sem];refine Qboj fun lo hi=>?_;simp only[go_sem,Qahs,List.getD_cons_zero,List.getD_cons_succ];refine Qaa ?_;refine Qa ?_;simp only[go_sem];have retf:∀(b:Bool) (e:Env),lk 4 e=.c (.bool b)→Q5 Q22 K .ret e H:=by
  intro b e h1;simp only[go_sem,Q5,Qae,Q22,Ja,forall_eq,RS.op,h1];exact hK _
 have rest:∀b:Bool,(b=false→1≤deep)→Qam prog (s_l2Form_3.seq Qahr) (Q5 Q22 K)
   [(1,.c (.int .i64 deep)),(2,.c (.pp [.int .i64 x.op,.int .i64 x.n,.str x.name,.sl false 4 (Qbz x.kids)])),(31,.c (.bool b))] H:=by
  intro b hb;refine Qh (Qd rfl ?_ ?_)
  ·intro hc;refine Qa ?_;simp only[go_sem];refine Qk ?_;simp only[go_sem];exact retf false _ (by simp[lk])
  intro hc;have hdp:=hb hc;refine Qg ?_;simp only[go_sem];refine Qa ?_;simp only[go_sem];refine Qaa ?_;refine Qa ?_;simp only[go_sem];refine Qado fun b1=>?_;simp only[go_sem,Qaht];have rest2:∀b:Bool,Qam prog (s_l2Form_6.seq Qahq) (Q5 Q22 K)
    [(1,.c (.int .i64 deep)),(2,.c (.pp [.int .i64 x.op,.int .i64 x.n,.str x.name,.sl false 4 (Qbz x.kids)])),(69,.c (.bool b))] H:=by
   intro b;refine Qh (Qd rfl ?_ ?_)
   ·intro hc;refine Qa ?_;simp only[go_sem];refine Qk ?_;simp only[go_sem];exact retf false _ (by simp[lk])
   intro hc;refine Qg ?_;simp only[go_sem];refine Qaa ?_;refine Qa ?_;simp only[go_sem];refine Qh (Qe (Qx (fun n e1 H1=>∃i:Nat,n=x.kids.length-i∧i≤x.kids.length∧H1=H∧e1=[(1,.c (.int .i64 deep)),(2,.c (.pp [.int .i64 x.op,.int .i64 x.n,.str x.name,.sl false 4 (Qbz x.kids)])),(8,.c (.int .i64 i))]) x.kids.length ?_ ?_))
   ·exact⟨0,by omega,by omega,rfl,rfl⟩
   ·rintro n e1 H1 ⟨i,hn,hi,rfl,rfl⟩;refine Qaa ?_;refine Qa ?_;simp only[go_sem,Qba];intro hl;simp only[LIM]at hl;refine Qh (Qd rfl ?_ ?_)
    ·intro hc;have hlt:i<x.kids.length:=(by simpa using hc);have hm:=Qf8 (Jc hlt);refine Qg ?_;simp only[go_sem];refine Qh (Qe ?_);refine Qa ?_;simp only[go_sem,hlt,Qba,Qf7 _ _ hlt,Ex.take4,Ex.allOw,Ex.cells_len];refine⟨Qs (by omega) (by omega),?_⟩;refine ih _ (deep-1) (by omega) (by omega) fun b2=>?_;simp only[go_sem,Qahu];refine Qd rfl ?_ ?_
     ·intro hc2;refine Qa ?_;simp only[go_sem];refine Qk ?_;simp only[go_sem,X.next];exact retf false _ (by simp[lk])
     ·intro hc2;refine Qg ?_;simp only[go_sem];refine Qt ?_;simp only[go_sem,X.next];exact⟨Qs (by omega) (by omega),x.kids.length-(i+1),by omega,i+1,rfl,by omega,rfl⟩
    ·intro hc;refine Qw ?_;simp only[go_sem,X.next];refine Qa ?_;simp only[go_sem];refine Qk ?_;exact retf true _ (by simp[lk])
  refine⟨fun hb1=>?_,fun hb1=>?_⟩
  ·refine Qc8 ?_;simp only[go_sem,Q11];exact rest2 _
  ·replace hb1:=Qh8 hb1;simp only[go_sem,Q11,hb1];exact rest2 _
 refine⟨fun hb1=>?_,fun hb1=>?_⟩
 ·replace hb1:=Qtc hb1;have hdp:1≤deep:=by simp at hb1;omega
  refine Qc8 ?_;simp only[go_sem,Q10,hb1,Qba,cond_false];intro hl;refine⟨fun hb2=>?_,fun hb2=>?_⟩
  ·refine Qc8 ?_;simp only[go_sem,Qoq];exact rest _ (fun _=>hdp)
  ·replace hb2:=Qh8 hb2;simp only[go_sem,Qoq,hb2];exact rest _ (fun _=>hdp)
 ·replace hb1:=Qh8 hb1;simp only[go_sem,Q10,Qoq,hb1,Qba,cond_true];exact rest _ (fun h=>by simp at h)
theorem Qa4b {x:Ex}(hx:x.size≤2^40)(hK:∀b:Bool,K (.c (.bool b)) H):Qr prog Qi2 [.ag x.cells] H K:=by
 refine Qc Qal Qamz ?_;refine Qa ?_;simp only[go_sem,Ex.ne_nil];refine Qa ?_;simp only[go_sem,Ex.take4,Ex.allOw,Ex.cells_len];refine Qboi x.size x 6 (Jl _) (by omega) fun b=>?_;simp only[go_sem,Qnf,Ex.take4,Ex.allOw,Ex.cells_len];refine⟨fun hb=>?_,fun hb=>?_⟩
 ·refine Qbja x.size x (Jl _) hx ?_;simp only[go_sem,Qgg];refine Qk ?_;simp only[go_sem,Q5,Qae,Qlk,reduceIte,Ja,forall_eq,RS.op];exact hK _
 ·simp only[go_sem,Qgg,hb];refine Qk ?_;simp only[go_sem,Q5,Qae,Qlk,reduceIte,Ja,forall_eq,RS.op];exact hK _
def St.raw (x:St):List C:=[.int .i64 x.op,.str x.name,.sl false 4 (Qbz x.args),.sl false 5 (Qa7 x.body),.sl false 5 (Qa7 x.els)]
theorem Qbjc:∀(n:Nat) (l:List St) {fl:Bool} {H:Heap} {K:V→Heap→Prop},Q8 l≤n→Q8 l≤2^40→(∀v:Nat,v≤Q8 l→K (.c (.int .i64 v)) H)→Qr prog Ql4 [.c (.sl fl 5 (Qa7 l))] H K:=by
 intro n
 induction n using Nat.strongRecOn with
 |ind n ih=>
 intro l fl H K hn hb hK;have hlen:=Qame l;refine Qc Qal Qbj0 ?_;refine Qa ?_;simp only[go_sem];refine Qa ?_;simp only[go_sem,Qbg];intro hl;refine Qaa ?_;refine Qa ?_;simp only[go_sem];refine Qh (Qe (Qx (fun n e1 H1=>∃(i v:Nat),n=l.length-i∧i≤l.length∧v≤(l.length-i)+Q8 (l.take i)∧H1=H∧e1=[(0,.c (.sl fl 5 (Qa7 l))),(3,.c (.int .i64 v)),(4,.c (.int .i64 i))]) l.length ?_ ?_))
 ·exact⟨0,l.length,by omega,by omega,by omega,rfl,rfl⟩
 ·rintro n e1 H1 ⟨i,v,hn1,hi,hv,rfl,rfl⟩;refine Qaa ?_;refine Qa ?_;simp only[go_sem,Qbg];simp only[LIM]at hl;refine fun _=>?_;refine Qh (Qd rfl ?_ ?_)
  ·intro hc;have hlt:i<l.length:=by simpa using hc
   have hm:=Qo2 (Jc hlt);have htk:=Qxp hlt;have htl:=Qj0 l (i+1);have hse:=(l[i]'hlt).size_eq;refine Qg ?_;simp only[go_sem];refine Qh (Qe (Qbn ?_));simp only[go_sem,hlt,Qbg,Qgm _ _ hlt,St.cells_eq];refine ih (Q8 l[i].body) (by omega) l[i].body (Jl _) (by omega) fun a ha=>?_;simp only[go_sem,Q91,hlt,Qbg,Qgm _ _ hlt,St.cells_eq];refine⟨Qs (by omega) (by omega),?_⟩;refine ih (Q8 l[i].els) (by omega) l[i].els (Jl _) (by omega) fun c hc=>?_;simp only[go_sem,Q90];refine⟨Qs (by omega) (by omega),?_⟩;refine Qt ?_;simp only[go_sem,X.next];refine⟨Qs (by omega) (by omega),l.length-(i+1),by omega,i+1,v+a+c,rfl,by omega,by omega,rfl⟩
  ·intro hc;have hge:l.length≤i:=by simpa using hc
   refine Qw ?_;simp only[go_sem,X.next];refine Qa ?_;simp only[go_sem];refine Qk ?_;simp only[go_sem,Q5,Qae,Qayh,reduceIte,Ja,forall_eq,RS.op];rw[Jd hge]at hv;exact hK v (by omega)
def Qbvh (n:Nat):Prop:=∀(x:St) (deep:Int) (H:Heap) (K:V→Heap→Prop),x.size≤n→x.size≤2^40→deep≤100→(∀b:Bool,K (.c (.bool b)) H)→Qr prog Qaep [.ag x.cells,.c (.int .i64 deep)] H K
def Qbhn (n:Nat):Prop:=∀(l:List St) (deep:Int) (fl:Bool) (H:Heap) (K:V→Heap→Prop),Q8 l≤n→Q8 l≤2^40→deep≤100→(∀b:Bool,K (.c (.bool b)) H)→Qr prog Ql5 [.c (.sl fl 5 (Qa7 l)),.c (.int .i64 deep)] H K
theorem Qbrn {n:Nat}(hS:Qbvh n):Qbhn n:=by
 intro l deep fl H K hn hb hd hK;refine Qc Qal Qbj1 ?_;have retf:∀(b:Bool) (e:Env),lk 4 e=.c (.bool b)→Q5 Qafx K .ret e H:=by
  intro b e h1;simp only[go_sem,Q5,Qae,Qafx,Ja,forall_eq,RS.op,h1];exact hK _
 refine Qa ?_;simp only[go_sem];refine Qaa ?_;refine Qa ?_;simp only[go_sem];refine Qh (Qe (Qx (fun n e1 H1=>∃(i:Nat),n=l.length-i∧i≤l.length∧H1=H∧e1=[(0,.c (.sl fl 5 (Qa7 l))),(1,.c (.int .i64 deep)),(5,.c (.int .i64 i))]) l.length ?_ ?_))
 ·exact⟨0,by omega,by omega,rfl,rfl⟩
 ·rintro n e1 H1 ⟨i,hn1,hi,rfl,rfl⟩;refine Qaa ?_;refine Qa ?_;simp only[go_sem,Qbg];intro hl;simp only[LIM]at hl;refine Qh (Qd rfl ?_ ?_)
  ·intro hc;have hlt:i<l.length:=by simpa using hc
   have hm:=Qo2 (Jc hlt);refine Qg ?_;simp only[go_sem];refine Qh (Qe ?_);refine Qa ?_;simp only[go_sem,hlt,Qbg,Qgm _ _ hlt,St.take5,St.allOw,St.cells_len];refine hS _ deep _ _ (by omega) (by omega) hd fun b=>?_;simp only[go_sem,Qaaa];refine Qd rfl ?_ ?_
   ·intro hc2;refine Qa ?_;simp only[go_sem];refine Qk ?_;simp only[go_sem,X.next];exact retf false _ (by simp[lk])
   ·intro hc2;refine Qg ?_;simp only[go_sem];refine Qt ?_;simp only[go_sem,X.next];exact⟨Qs (by omega) (by omega),l.length-(i+1),by omega,i+1,rfl,by omega,rfl⟩
  ·intro hc;refine Qw ?_;simp only[go_sem,X.next];refine Qa ?_;simp only[go_sem];refine Qk ?_;exact retf true _ (by simp[lk])
theorem Qbuy {n:Nat}(hS:∀m,m<n→Qbhn m):Qbvh n:=by
 intro x deep H K hn hb hd hK;have hsz:=x.size_eq;refine Qc Qal Qbo6 ?_;have retf:∀(b:Bool) (e:Env),lk 4 e=.c (.bool b)→Q5 Qadz K .ret e H:=by
  intro b e h1;simp only[go_sem,Q5,Qae,Qadz,Ja,forall_eq,RS.op,h1];exact hK _
 refine Qa ?_;simp only[go_sem,x.cells_eq];refine Qaa ?_;refine Qaj ?_;simp only[go_sem];have rest:∀b:Bool,(b=false→1≤deep∧x.args.length=if x.op=4 then 2 else 1)→Qam prog (s_l3Stmt_2.seq Qai2) (Q5 Qadz K)
   [(1,.c (.int .i64 deep)),(2,.c (.pp [.int .i64 x.op,.str x.name,.sl false 4 (Qbz x.args),.sl false 5 (Qa7 x.body),.sl false 5 (Qa7 x.els)])),(23,.c (.bool b))] H:=by
  intro b hb;refine Qh (Qd rfl ?_ ?_)
  ·intro hc;refine Qa ?_;simp only[go_sem];refine Qk ?_;simp only[go_sem];exact retf false _ (by simp[lk])
  intro hc;obtain⟨hdp,hal⟩:=hb hc;have hap:0<x.args.length:=by rw[hal];split <;> omega
  refine Qg ?_;simp only[go_sem];refine Qa ?_;simp only[go_sem];refine Qaa ?_;refine Qa ?_;simp only[go_sem];refine Qado fun b1=>?_;simp only[go_sem,Qai3];refine Qh (Qd rfl ?_ ?_)
  ·intro hc;refine Qa ?_;simp only[go_sem];refine Qk ?_;simp only[go_sem];exact retf false _ (by simp[lk])
  intro hc;refine Qg ?_;simp only[go_sem];refine Qaa ?_;refine Qa ?_;simp only[go_sem];refine Qh (Qe (Qx (fun n e1 H1=>∃(i:Nat),n=x.args.length-i∧i≤x.args.length∧H1=H∧e1=[(1,.c (.int .i64 deep)),(2,.c (.pp [.int .i64 x.op,.str x.name,.sl false 4 (Qbz x.args),.sl false 5 (Qa7 x.body),.sl false 5 (Qa7 x.els)])),(6,.c (.int .i64 i))]) x.args.length ?_ ?_))
  ·exact⟨0,by omega,by omega,rfl,rfl⟩
  ·rintro n e1 H1 ⟨i,hn1,hi,rfl,rfl⟩;refine Qaa ?_;refine Qa ?_;simp only[go_sem,Qba];intro hl;simp only[LIM]at hl;refine Qh (Qd rfl ?_ ?_)
   ·intro hc;have hlt:i<x.args.length:=(by simpa using hc);have hm:=Qf8 (Jc hlt);refine Qg ?_;simp only[go_sem];refine Qh (Qe ?_);refine Qa ?_;simp only[go_sem,hlt,Qba,Qf7 _ _ hlt,Ex.take4,Ex.allOw,Ex.cells_len];refine Qa4b (by omega) fun b=>?_;simp only[go_sem,Qai4];refine Qd rfl ?_ ?_
    ·intro hc2;refine Qa ?_;simp only[go_sem];refine Qk ?_;simp only[go_sem,X.next];exact retf false _ (by simp[lk])
    ·intro hc2;refine Qg ?_;simp only[go_sem];refine Qt ?_;simp only[go_sem,X.next];exact⟨Qs (by omega) (by omega),x.args.length-(i+1),by omega,i+1,rfl,by omega,rfl⟩
   ·intro hc;refine Qw ?_;simp only[go_sem,X.next];refine Qaa ?_;refine Qa ?_;simp only[go_sem,hap,Qba,Qf7 _ _ hap,Ex.cells_eq];refine⟨fun _=>Int.le_refl _,?_⟩;refine Qh (Qd rfl ?_ ?_)
    ·intro hc;refine Qa ?_;simp only[go_sem];refine Qk ?_;simp only[go_sem];exact retf false _ (by simp[lk])
    intro hc;refine Qg ?_;simp only[go_sem];refine Qaa ?_;refine Qa ?_;simp only[go_sem,Qbg]
    intros
    refine Qh (Qd rfl ?_ ?_)
    ·intro hc;refine Qa ?_;simp only[go_sem];refine Qk ?_;simp only[go_sem];exact retf false _ (by simp[lk])
    intro hc;refine Qg ?_;simp only[go_sem];refine Qa ?_;simp only[go_sem];refine⟨Qs (by omega) (by omega),?_⟩;refine hS (Q8 x.body) (by omega) _ _ _ _ _ (Jl _) (by omega) (by omega) fun b1=>?_;simp only[go_sem,Q99];refine⟨fun _=>Qs (by omega) (by omega),?_⟩;refine⟨fun hb1=>?_,fun hb1=>?_⟩
    ·refine hS (Q8 x.els) (by omega) _ _ _ _ _ (Jl _) (by omega) (by omega) fun b2=>?_;simp only[go_sem,Qwn];refine Qk ?_;exact retf _ _ (by simp[lk];rfl)
    ·simp only[go_sem,Qwn,hb1];refine Qk ?_;exact retf false _ (by simp[lk])
 refine⟨fun hb1=>?_,fun hb1=>?_⟩
 ·replace hb1:=Qtc hb1;have hdp:1≤deep:=by simp at hb1;omega
  refine Qc8 ?_;simp only[go_sem,Q13,hb1,Qba,cond_false];refine⟨fun hb2=>?_,fun hb2=>?_⟩
  ·refine Qbol ?_;simp only[go_sem,Qos,Qba];refine rest _ (fun h=>⟨hdp,?_⟩);have h1:(x.args.length:Int)=if x.op=4 then 2 else 1:=by
    cases h2:decide (1≤x.op∧x.op≤8) <;> rw[h2]at h <;> simp_all
   by_cases h4:x.op=4
   ·rw[if_pos h4]at h1⊢;omega
   ·rw[if_neg h4]at h1⊢;omega
  ·replace hb2:=Qh8 hb2;simp only[go_sem,Qos,hb2,Qba];exact rest _ (fun h=>by simp at h)
 ·replace hb1:=Qh8 hb1;simp only[go_sem,Q13,Qos,hb1,Qba,cond_true];exact rest _ (fun h=>by simp at h)
theorem Qbuz (n:Nat):Qbhn n:=by
 induction n using Nat.strongRecOn with
 |ind n ih=>exact Qbrn (Qbuy ih)
theorem Qbv6 {f:Fn}(hf:Q8 f.body≤2^40)(hK:∀b:Bool,K (.c (.bool b)) H):Qr prog Qa4t [.ag f.cells] H K:=by
 refine Qc Qal Qbwd ?_;have retf:∀(b:Bool) (e:Env),lk 2 e=.c (.bool b)→Q5 Qbkm K .ret e H:=by
  intro b e h1;simp only[go_sem,Q5,Qae,Qbkm,Ja,forall_eq,RS.op,h1];exact hK _
 refine Qa ?_;simp only[go_sem,Fn.cells];refine Qaa ?_;refine Qa ?_;simp only[go_sem];refine Qh (Qe (Qx (fun n e1 H1=>∃(i:Nat),n=f.params.length-i∧i≤f.params.length∧H1=H∧e1=[(1,.c (.pp [.str f.name,.sl false 1 (Qbu f.params),.sl false 5 (Qa7 f.body)])),(3,.c (.int .i64 i))]) f.params.length ?_ ?_))
 ·exact⟨0,by omega,by omega,rfl,rfl⟩
 ·rintro n e1 H1 ⟨i,hn1,hi,rfl,rfl⟩;refine Qaa ?_;refine Qa ?_;simp only[go_sem,Qaz];intro hl;simp only[LIM]at hl;refine Qh (Qd rfl ?_ ?_)
  ·intro hc;have hlt:i<f.params.length:=by simpa using hc
   refine Qg ?_;simp only[go_sem];refine Qh (Qe ?_);refine Qa ?_;simp only[go_sem,hlt,Qaz,Qjy _ _ hlt];refine Qado fun b=>?_;simp only[go_sem,Qa1i];refine Qd rfl ?_ ?_
   ·intro hc2;refine Qa ?_;simp only[go_sem];refine Qk ?_;simp only[go_sem,X.next];exact retf false _ (by simp[lk])
   ·intro hc2;refine Qg ?_;simp only[go_sem];refine Qt ?_;simp only[go_sem,X.next];exact⟨Qs (by omega) (by omega),f.params.length-(i+1),by omega,i+1,rfl,by omega,rfl⟩
  ·intro hc;refine Qw ?_;simp only[go_sem,X.next];refine Qa ?_;simp only[go_sem];refine Qado fun b=>?_;simp only[go_sem,Qa1j,Qaz]
   intros
   refine⟨fun hb1=>?_,fun hb1=>?_⟩
   ·refine Qbuz _ _ _ _ _ _ (Jl _) hf (by omega) fun b2=>?_;simp only[go_sem,Qahy];refine Qk ?_;exact retf _ _ (by simp[lk];rfl)
   ·simp only[go_sem,Qahy,hb1];refine Qk ?_;exact retf false _ (by simp[lk])
def Qbc:List Fn→Nat
 |[]=>0
 |f::r=>Q8 f.body+Qbc r
theorem Qtg {l:List Fn}{f:Fn}(h:f∈l):Q8 f.body≤Qbc l:=by
 induction l with
 |nil=>simp at h
 |cons g r ih=>
  simp only[Qbc];rcases List.mem_cons.1 h with rfl|h
  ·omega
  ·have:=ih h;omega
theorem Qki (a b:List Fn):Qbc (a++b)=Qbc a+Qbc b:=by
 induction a with
 |nil=>simp[Qbc]
 |cons x r ih=>simp only[Jr,Qbc,ih];omega
theorem Qath {l:List Fn}{i:Nat}(h:i<l.length):Qbc (l.take (i+1))=Qbc (l.take i)+Q8 (l[i]'h).body:=by
 rw[Jh h,Qki];simp[Qbc]
theorem Qabg (l:List Fn)(i:Nat):Qbc (l.take i)≤Qbc l:=by
 conv=>rhs;rw[←Jw i l,Qki]
 omega
theorem Qbtr {l:List Fn}{fl:Bool}(hf:Qbc l≤2^40)(hK:∀n:Int,K (.c (.int .i64 n)) H):Qr prog Qasd [.ag [.sl fl 3 (Qcj l)]] H K:=by
 refine Qc Qal Qbt7 ?_;refine Qa ?_;simp only[go_sem];refine Qa ?_;simp only[go_sem];refine Qaa ?_;refine Qa ?_;simp only[go_sem];refine Qh (Qe (Qx (fun n e1 H1=>∃(i v:Nat),n=l.length-i∧i≤l.length∧v≤Qbc (l.take i)∧H1=H∧e1=[(1,.c (.pp [.sl fl 3 (Qcj l)])),(3,.c (.int .i64 v)),(4,.c (.int .i64 i))]) l.length ?_ ?_))
 ·exact⟨0,0,by omega,by omega,by omega,rfl,rfl⟩
 ·rintro n e1 H1 ⟨i,v,hn1,hi,hv,rfl,rfl⟩;refine Qaa ?_;refine Qa ?_;simp only[go_sem,Qbp];intro hl;simp only[LIM]at hl;refine Qh (Qd rfl ?_ ?_)
  ·intro hc;have hlt:i<l.length:=by simpa using hc
   have hm:=Qtg (Jc hlt);have htk:=Qath hlt;have htl:=Qabg l (i+1);refine Qg ?_;simp only[go_sem];refine Qh (Qe (Qt ?_));simp only[go_sem,hlt,Qbp,Qil _ _ hlt,Fn.cells];refine Qbjc _ _ (Jl _) (by omega) fun c hc=>?_;simp only[go_sem,Qarr];refine⟨Qs (by omega) (by omega),?_⟩;refine Qt ?_;simp only[go_sem,X.next];exact⟨Qs (by omega) (by omega),l.length-(i+1),by omega,i+1,v+c,rfl,by omega,by omega,rfl⟩
  ·intro hc;refine Qw ?_;simp only[go_sem,X.next];refine Qa ?_;simp only[go_sem];refine Qk ?_;simp only[go_sem,Q5,Qae,Qbkl,reduceIte,Ja,forall_eq,RS.op];exact hK _
theorem Qami {l:List Fn}{fl:Bool}(hf:Qbc l≤2^40)(hK:∀b:Bool,K (.c (.bool b)) H):Qr prog Qet [.ag [.sl fl 3 (Qcj l)]] H K:=by
 refine Qc Qal Q5v ?_;have retf:∀(b:Bool) (e:Env),lk 2 e=.c (.bool b)→Q5 Qgf K .ret e H:=by
  intro b e h1;simp only[go_sem,Q5,Qae,Qgf,Ja,forall_eq,RS.op,h1];exact hK _
 refine Qa ?_;simp only[go_sem];refine Qaa ?_;refine Qa ?_;simp only[go_sem,Qbp];intro hl;simp only[LIM]at hl;refine Qc8 ?_;simp only[go_sem,Qh0];refine Qh (Qd rfl ?_ ?_)
 ·intro hc;refine Qa ?_;simp only[go_sem];refine Qk ?_;simp only[go_sem];exact retf false _ (by simp[lk])
 intro hc;refine Qg ?_;simp only[go_sem];refine Qaa ?_;refine Qa ?_;simp only[go_sem];refine Qh (Qe (Qx (fun n e1 H1=>∃(i:Nat),n=l.length-i∧i≤l.length∧H1=H∧e1=[(1,.c (.pp [.sl fl 3 (Qcj l)])),(3,.c (.int .i64 i))]) l.length ?_ ?_))
 ·exact⟨0,by omega,by omega,rfl,rfl⟩
 ·rintro n e1 H1 ⟨i,hn1,hi,rfl,rfl⟩;refine Qaa ?_;refine Qa ?_;simp only[go_sem,Qbp];refine fun _=>?_;refine Qh (Qd rfl ?_ ?_)
  ·intro hc;have hlt:i<l.length:=by simpa using hc
   have hm:=Qtg (Jc hlt);refine Qg ?_;simp only[go_sem];refine Qh (Qe ?_);refine Qa ?_;simp only[go_sem,hlt,Qbp,Qil _ _ hlt,Fn.take3,Fn.allOw,Fn.cells_len];refine Qbv6 (by omega) fun b=>?_;simp only[go_sem,Qh1];refine Qd rfl ?_ ?_
   ·intro hc2;refine Qa ?_;simp only[go_sem];refine Qk ?_;simp only[go_sem,X.next];exact retf false _ (by simp[lk])
   ·intro hc2;refine Qg ?_;simp only[go_sem];refine Qt ?_;simp only[go_sem,X.next];exact⟨Qs (by omega) (by omega),l.length-(i+1),by omega,i+1,rfl,by omega,rfl⟩
  ·intro hc;refine Qw ?_;simp only[go_sem,X.next];refine Qa ?_;simp only[go_sem];refine Qbtr hf fun n=>?_;simp only[go_sem,Qh2];refine Qk ?_;exact retf _ _ (by simp[lk];rfl)
end Go.AE.Y
namespace Go.AE.Y
open Go.Proofs.Tryz
structure PrOk (l:List Fn):Prop where
 pos:0<l.length
 par:∀f∈l,f.params.length≤3
 ok:∀f∈l,Qdh f.body
 size:Qbc l≤2^34
 len:l.length≤4
end Go.AE.Y
namespace Go.AE
open Go.AE.Y
open Go.Proofs.Tryz
theorem Kn.perm4 {H0 H:Heap}{E:List (Nat×Obj)}{a b c d:Nat×Obj}(kn:Kn H0 H E [a,b,c,d]):Kn H0 H E [a,b,d]:=
 Kn.drop (A:=[a,b,d]) (B:=[c]) (kn.perm (.cons _ (.cons _ (.swap _ _ _))))
end Go.AE
namespace Go.AE.Y
open Go.Proofs.Tryz
set_option maxHeartbeats 2000000 in
theorem Qbom {R:Rdr}{k:Nat}{H:Heap}{K:V→Heap→Prop}(hR:H R.l=R.o k)(hk:k+7000000≤2^30)
  (hK:∀(l:List Fn) (H':Heap) (k':Nat),k<k'→k'≤k+7000000→Upd H H' [(R.l,R.o k')]→PrOk l→K (.ag [.sl false 3 (Qcj l)]) H') :
  Qr prog Qaeo [.c (.ptr R.l 0)] H K:=by
 refine Q3 ?_;refine Qc Qal Qbo5 ?_;refine Qa ?_;simp only[go_sem];intro x2 hx2 H1 h1;have kn:=(Kn.start1 hR (R.o_ne k)).al hx2 h1;refine Qa ?_;simp only[go_sem];refine Qi5 (ns:=[14,20,8,26]) (kn.e 0 rfl) (by omega) (by simp) fun v H2 hv hu=>?_;have kn:=kn.callE 0 rfl hu (R.o_ne _);simp only[go_sem,Qaiw];intro gl hgl H3 h3;have kn:Kn H H3 [(R.l,R.o (k+1))] [(x2,.st [.sl true 3 []]),(gl,GS.o ⟨[],(.sl true 3 [],[]),[],true,0,v⟩ R)]:=kn.al hgl h3;have hv26:0≤v∧v≤26:=by simp at hv;omega
 simp only[go_sem,Qaiv];have hne:R.l≠gl:=kn.ne 0 1 rfl rfl;refine Qaa ?_;refine Qa ?_;simp only[go_sem];refine Qi5 (ns:=[0,1,1,2]) (kn.e 0 rfl) (by omega) (by simp) fun cnt H4 hcnt hu=>?_;have kn:=kn.callE 0 rfl hu (R.o_ne _);have hc2:0≤cnt∧cnt≤2:=by simp at hcnt;omega
 simp only[go_sem,Qaix];obtain⟨M,hM⟩:∃M:Nat,M=2001301:=⟨_,rfl⟩;refine Qh (Qe (Qx (fun n e1 H1=>∃(j k4:Nat) (s:GS),n=cnt.toNat-j∧(j:Int)≤cnt∧s.fns.length=j∧k+2≤k4∧k4≤k+2+M * j∧s.ok k4∧(∀f∈s.fns,Qdh f.body)∧4 * k+Qbc s.fns≤4 * k4∧
   Gr s.ffl.2 3 (Qcj s.fns) s.ffl.1∧Kn H H1 [(R.l,R.o k4)] ([(x2,.st [.sl true 3 []]),(gl,s.o R)]++s.ffl.2)∧
   e1=[(0,.c (.ptr R.l 0)),(2,.c (.ptr x2 0)),(3,.c (.ptr gl 0)),(4,.c (.int .i64 (cnt-j)))]) cnt.toNat ?_ ?_))
 ·refine⟨0,k+2,⟨[],(.sl true 3 [],[]),[],true,0,v⟩,by omega,by omega,rfl,by omega,by omega,⟨?_,?_,?_,?_,by simp,by simp,by simp⟩,by simp,by simp only[Qbc];omega,.nil 3,kn,by simp⟩
  ·show -1≤(0:Int);omega
  ·show (0:Int)≤_;omega
  ·show _≤v;omega
  ·show v≤100;omega
 ·rintro n e1 H1 ⟨j,k4,s,hn,hj,hfl,hk4,hk4',hs,hfok,hsz,hgr,kn,rfl⟩;have hMj:M * j≤M * 2:=Jy _ (by omega);have hM1:M * (j+1)=M * j+M:=Jah _ _;have hG1:=kn.l 1 rfl;have hfow:=hgr.isOw;have hflen:=hgr.lenC;rw[Qbp]at hflen;refine Qaa ?_;refine Qa ?_;simp only[go_sem];refine Qh (Qd rfl ?_ ?_)
  ·intro hc;have hi:(j:Int)<cnt:=by simp at hc;omega
   refine Qg ?_;simp only[go_sem];refine Qh (Qe ?_);have hfok':=(hgr.okSl (B:=[_,_]) kn);have eg:List.getD [[C.str [102]],[C.str [103]],[C.str [104]]] s.fns.length []=[.str (List.getD [[102],[103],[104]] s.fns.length [])]:=Qjy [[102],[103],[104]] _ (by simp;omega);have hl3:s.fns.length<3:=by omega
   refine Qaj ?_;simp only[go_sem,hG1,GS.o,hfow,hflen,eq_true hfok',eg,hl3];refine Qa8 (kn.e 0 rfl) (by omega) fun p H2 hp hu=>?_;have kn:Kn H H2 [(R.l,R.o (k4+1))] ([(x2,.st [.sl true 3 []]),(gl,s.o R)]++s.ffl.2):=kn.callE 0 rfl hu (R.o_ne _);rw[if_neg (by omega)]at hp;have hG2:=kn.l 1 rfl;have hfok2:=(hgr.okSl (B:=[_,_]) kn);simp only[go_sem,Qai0,hG2,GS.o,hfow,hflen,eq_true hfok2,eg,hl3];have hF:FnsOk H2 R gl s:=⟨hgr,fun q hq=>by
    have h1:=kn.get q (Je _ (Je _ hq));refine⟨h1.1,fun hh=>?_,fun hh=>?_⟩
    ·exact kn.usedE 0 rfl (hh▸kn.loc q (Je _ hq))
    ·have:=kn.dL;rw[Ju]at this;exact (J7.1 this).2.2 gl (by simp) q.1 (Qa6 hq) hh.symm⟩
   refine Qaq9 hp.1 (by omega) (kn.e 0 rfl) (kn.l 1 rfl) hne (hs.mono (Jae k4)) hF (by omega) fun f s2 H5 k5 g1 g2 hu hs2 g3 g4 g5 g6 g7=>?_;have kn:=kn.callEL 0 1 rfl rfl hu (R.o_ne _) (GS.o_ne _ _);have kn:Kn H H5 [(R.l,R.o k5)] ([(x2,.st [.sl true 3 []]),(gl,s2.o R)]++s.ffl.2):=kn;simp only[go_sem,Qaiz];intro x5 hx5 H6 h6;have kn:=kn.al hx5 h6;have kn:=kn.perm (L':=[(x2,_),(gl,_),(x5,_)]++s.ffl.2) (by
    simp only[Jr,Jq,Jg];exact .cons _ (.cons _ Jf))
   have hG6:=kn.l 1 rfl;have hx56:=kn.l 2 rfl;have hfok6:=(hgr.okSl (B:=[_,_,_]) kn);simp only[go_sem,Qaiy,hG6,hx56,GS.o,g3,g4,hfow,hflen,eq_true hfok6,eg,hl3,Fn.cells];intro H7 h7;have kn:Kn H H7 [(R.l,R.o k5)] ([(x2,_),(gl,_),(x5,_)]++s.ffl.2):=kn.stL 2 rfl h7;have hG7:=kn.l 1 rfl;have hx57:=kn.l 2 rfl;refine Qbn ?_;simp only[go_sem,hG7,hx57,GS.o,g4,hfow];refine kn.grow (B:=[_,_,_]) (new:=[f.cells]) hgr (.mk' _ _ _ _) (by simp[f.noOw]) (by simp only[Qbp,LIM,Jj,Jo];omega) fun z H8 kn=>?_;have hG8:=kn.l 1 rfl;simp only[go_sem,Qai1,hG8,GS.o];intro H9 h9;have kn:=kn.stL 1 rfl h9;obtain⟨s9,hs9⟩:∃s9:GS,s9=GS.mk (s.fns++[f]) (C.vsl z 3 0 ((Qcj s.fns).length+1),[(z,Obj.vec 3 (Qcj s.fns++[f.cells]))]) s2.vars s2.vfl s2.next s2.left:=⟨_,rfl⟩;have ho9:s9.o R=.st [C.ptr R.l 0,C.vsl z 3 0 ((Qcj s.fns).length+1),C.sl s2.vfl 1 (Qbu s2.vars),C.int IntKind.i64 s2.next,C.int IntKind.i64 s2.left]:=by rw[hs9];rfl
   rw[←ho9]at kn;have kn:Kn H H9 [(R.l,R.o k5)] [(x2,_),(gl,s9.o R),(x5,_),(z,_)]:=kn;have kn:=kn.perm4;refine Qt ?_;simp only[go_sem,X.next];have hkb:k5≤k+2+M * (j+1):=by rw[hM1];omega
   refine⟨Qs (by omega) (by omega),cnt.toNat-(j+1),by omega,j+1,k5,s9,rfl,by omega,by simp[hs9,hfl],by omega,hkb,?_,?_,?_,?_,by rw[hs9]at kn⊢;exact kn,?_⟩
   ·subst hs9;refine⟨hs2.n0,hs2.n1,hs2.l0,hs2.l1,hs2.v,fun f' hf'=>?_,by simp;omega⟩;rcases Jm.1 hf' with h|h
    ·exact hs.f f' h
    ·simp at h;subst h;exact g5
   ·subst hs9;intro f' hf';rcases Jm.1 hf' with h|h
    ·exact hfok f' h
    ·simp at h;subst h;exact g6
   ·subst hs9;simp only[Qki,Qbc];omega
   ·subst hs9;show Gr [(z,Obj.vec 3 (Qcj s.fns++[f.cells]))] 3 (Qcj (s.fns++[f])) _;rw[Qaq7];exact .mk _ _ _ (by simp[Qbp])
   ·have:cnt-((j+1:Nat):Int)=cnt-j-1:=(by omega);rw[this]
  ·intro hc;refine Qw ?_;simp only[go_sem,X.next];have hkE:k4≤k+4002604:=by omega
   refine Qa ?_;simp only[go_sem];refine Qi5 (ns:=[0,1,2,1]) (kn.e 0 rfl) (by omega) (by simp) fun p H2 hp hu=>?_;have kn:Kn H H2 [(R.l,R.o (k4+1))] ([(x2,.st [.sl true 3 []]),(gl,s.o R)]++s.ffl.2):=kn.callE 0 rfl hu (R.o_ne _);have hp2:0≤p∧p≤3:=by simp at hp;omega
   simp only[go_sem,Q94];have hF:FnsOk H2 R gl s:=⟨hgr,fun q hq=>by
    have h1:=kn.get q (Je _ (Je _ hq));refine⟨h1.1,fun hh=>?_,fun hh=>?_⟩
    ·exact kn.usedE 0 rfl (hh▸kn.loc q (Je _ hq))
    ·have:=kn.dL;rw[Ju]at this;exact (J7.1 this).2.2 gl (by simp) q.1 (Qa6 hq) hh.symm⟩
   refine Qaq9 hp2.1 hp2.2 (kn.e 0 rfl) (kn.l 1 rfl) hne (hs.mono (Jae k4)) hF (by omega) fun f s2 H5 k5 g1 g2 hu hs2 g3 g4 g5 g6 g7=>?_;have kn:=kn.callEL 0 1 rfl rfl hu (R.o_ne _) (GS.o_ne _ _);have kn:Kn H H5 [(R.l,R.o k5)] ([(x2,.st [.sl true 3 []]),(gl,s2.o R)]++s.ffl.2):=kn;simp only[go_sem,Q93];intro x6 hx6 H6 h6;have kn:=kn.al hx6 h6;have kn:=kn.perm (L':=[(x2,_),(gl,_),(x6,_)]++s.ffl.2) (by
    simp only[Jr,Jq,Jg];exact .cons _ (.cons _ Jf))
   have hx66:=kn.l 2 rfl;simp only[go_sem,Q92,hx66,Fn.cells];intro H7 h7;have kn:Kn H H7 [(R.l,R.o k5)] ([(x2,_),(gl,_),(x6,_)]++s.ffl.2):=kn.stL 2 rfl h7;have hG7:=kn.l 1 rfl;have hx67:=kn.l 2 rfl;have hfok7:=hgr.okSl (B:=[_,_,_]) kn;have hrows7:=hgr.rowsOf (B:=[_,_,_]) kn;have hesz:=hgr.elemSz;have hL:s.fns.length≤LIM:=by simp only[LIM];omega
   refine Qaj ?_;simp only[go_sem,hG7,hx67,GS.o,g4,hfow,hflen,eq_true hfok7,hrows7,hesz,hL,Ji];refine⟨.inl trivial,Qaq6 _,fun y hy H8 h8=>?_⟩;have kn:=kn.al hy h8;have kn:=kn.perm (L':=([(x2,_),(gl,_),(x6,_)]++[(y,_)])++s.ffl.2) Qbwk;have kn:=kn.drop;have hx68:=kn.l 2 rfl;have kn:Kn H H8 [(R.l,R.o k5)] [(x2,_),(gl,_),(x6,_),(y,_)]:=kn;have hy8:=kn.l 3 rfl;have etk:List.take s.fns.length (Qcj s.fns)=Qcj s.fns:=Jd (by rw[Qbp];omega);simp only[go_sem,Q97,hx68,hy8,Qbp,etk];refine⟨by omega,by simp only[LIM];omega,fun z hz H9 h9=>?_⟩;have kn:Kn H H9 [(R.l,R.o k5)] [(x2,_),(gl,_),(x6,_),(z,.vec 3 (Qcj s.fns++[f.cells]))]:=kn.ap 3 rfl hz h9;simp only[go_sem,Q96];intro x7 hx7 H10 h10;have kn:=kn.al hx7 h10;have hG10:=kn.l 1 rfl;have hx6a:=kn.l 2 rfl;have hx7a:=kn.l 4 rfl;have kn:Kn H H10 [(R.l,R.o k5)] [(x2,_),(gl,_),(x6,_),(z,_),(x7,_)]:=kn;simp only[go_sem,Q95,hG10,hx6a,hx7a,GS.o,g4,hfow];intro H11 h11;have kn:=kn.stL 4 rfl h11;have kn:Kn H H11 [(R.l,R.o k5)] ([(x2,.st [.sl true 3 []]),(x7,.st [.vsl z 3 0 (s.fns.length+1)])]++[(z,.vec 3 (Qcj s.fns++[f.cells]))]):=
    (kn.perm (L':=([(x2,_),(x7,_)]++[(z,_)])++[(gl,_),(x6,_)]) (by
     simp only[List.set,Jr,Jq];refine .cons _ ?_;refine .trans (.cons _ (.cons _ (.swap _ _ _))) ?_;refine .trans (.cons _ (.swap _ _ _)) ?_;refine .trans (.swap _ _ _) ?_;refine .cons _ ?_;refine .trans (.cons _ (.swap _ _ _)) ?_;exact .swap _ _ _)).drop
   have hz11:=kn.l 2 rfl;have hx711:=kn.l 1 rfl;obtain⟨hfz,kn⟩:=kn.freeze 1 rfl (og':=.st [.sl false 3 (Qcj (s.fns++[f]))]) (FrzKL.st (.cons rfl (by
    rw[←Qaq7];exact Qasi (by simp) hz11 (by simp[Qbp]) (noOw_mem (Qbpm (Qaq6 _) (by simp[f.noOw])))) .nil)) (by simp)
   refine Qaa ?_;refine c_gh (Qgc _ (fun t=>?_) hfz) (e':=[(2,V.c (C.ptr x2 0)),(7,V.c (C.ptr x7 0))]) ?_
   ·simp only[lk];split
    ·exact .c _ _ (.same _ rfl)
    ·split
     ·exact .c _ _ (.same _ rfl)
     ·exact .unk _
   generalize ((H11.frz fun m=>m == z).set x7 (Obj.st [C.sl false 3 (Qcj (s.fns++[f]))]))=H12 at *;have hx7b:=kn.l 1 rfl;have hx2b:=kn.l 0 rfl;have hpr:Qbc (s.fns++[f])≤2^34:=by rw[Qki];simp only[Qbc];omega
   refine Qa ?_;simp only[go_sem,hx7b];refine Qami (by omega) fun b=>?_;simp only[go_sem,Q98];refine Qh (Qd rfl ?_ ?_)
   ·intro hc;refine Qa ?_;simp only[go_sem,hx2b];intro H13 h13;have kn:=kn.stL 0 rfl h13;have hx2c:=kn.l 0 rfl;refine Qk ?_;simp only[go_sem,Q5,Qae,Qatl,reduceIte,Ja,forall_eq,RS.op,hx2c];refine⟨.ag [.sl false 3 (Qcj [Fn.mk [109] [] [St.mk 3 [] [Ex.mk 1 1 [] []] [] []]])],FrzL.ag ?_,hK _ _ k5 (by omega) (by omega) kn.fin ⟨by simp,by simp,?_,?_,by simp⟩⟩
    ·simp only[Qcj,Jaf,Jag,Fn.cells,Qar2,Qa7,St.cells,Qbz,Ex.cells]
     repeat' first|exact FrzL.nil|exact FrzR.nil|exact Qi rfl|exact FrzL.same (Ex.noOw _)|exact FrzL.same (St.noOw _)|refine FrzL.cons ?_ ?_|refine FrzR.cons ?_ ?_|refine FrzR.sl ?_
    ·intro f hf;simp at hf;subst hf;simp[Qdh,St.ok,Qep,Ex.ok]
    ·simp[Qbc,Q8,St.size,Qan,Ex.size]
   ·intro hc;refine Qg ?_;simp only[go_sem];refine Qa ?_;simp only[go_sem,hx2b,hx7b];intro H13 h13;have kn:=kn.stL 0 rfl h13;have hx2c:=kn.l 0 rfl;refine Qk ?_;simp only[go_sem,Q5,Qae,Qatl,reduceIte,Ja,forall_eq,RS.op,hx2c];refine⟨.ag [.sl false 3 (Qcj (s.fns++[f]))],FrzL.ag (.cons (Qi rfl) .nil),hK _ _ k5 (by omega) (by omega) kn.fin ⟨by simp,?_,?_,hpr,by simp;omega⟩⟩
    ·intro f' hf';rcases Jm.1 hf' with h|h
     ·exact hs.f f' h
     ·simp at h;subst h;exact g5
    ·intro f' hf';rcases Jm.1 hf' with h|h
     ·exact hfok f' h
     ·simp at h;subst h;exact g6
end Go.AE.Y
