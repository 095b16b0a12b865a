/- Part 3 of the proof: the engine, codes, walks and plain laws, each named where it stands. -/
import Derived.Test.YtklkchlmmdjpaaaGreatZB
open Nat (reduceEqDiff reduceAdd reduceLeDiff reduceLT)
set_option linter.unusedVariables false
set_option linter.unusedSimpArgs false
set_option maxRecDepth 4000
open Int renaming eq_ofNat_of_zero_le->Jn,tmod_lt_of_pos->Jz,tmod_nonneg->J3
open List renaming mem_singleton->Ja,getD_eq_getElem?_getD->Jb,getElem_mem->Jc,take_of_length_le->Jd,mem_append_right->Je,perm_append_comm->Jf,take_succ_eq_append_getElem->Jg,append_assoc->Ji,length_cons->Jj,length_map->Jk,mem_append->Jl,length_nil->Jo,drop_zero->Jp,nil_append->Jq,cons_append->Jr,flatMap_append->Js,set_cons_zero->Jt,map_append->Ju,map_set->Jv,take_append_drop->Jw,mem_or_eq_of_mem_set->J0,getElem?_eq_getElem->J1,length_take->J2,contains_iff_mem->J4,nodup_append->J6,all_eq_true->J7,filter_cons->J8,mem_flatMap->J9,all_append->Jaa,filter_nil->Jab,map_cons->Jad,map_nil->Jae
open Nat renaming zero_add->Jh,le_refl->Jm,lt_pow_self->Jx,mul_le_mul_left->Jy,one_le_two_pow->J5,le_succ->Jac,mul_succ->Jaf
namespace Go.AE.Y
open Go.Proofs.Tryz
def Qml:List Item:=[oJ 5 4]
def Qacb:SC:=cT 5 (sR [fI 2 (.mv (.k (.c (.sl true 1 []))))] [2] .ret) .skip
def Qmm:List Item:=[mJ 2 8]
def Qmn:List Item:=aJ 8 OZ [.t 7]::Qmm
def Qacc:SC:=sR (tJ 6 3 1::aJ 7 Px [.t 6]::Qmn) [2] .ret
def Qacd:SC:=.seq (sR (tJ 3 3 1::aJ 4 PB [.t 3]::Qml) [1,5] Qacb) Qacc
def Qaob:SC:=sR [vJ 1 0,fI 2 (.mv (.k (.c (.sl true 1 []))))] [1] Qacd
abbrev S3:List RS:=[.tmp 2]
theorem Qanl:mFn prog Ta 1 9 Qaob S3=true:=ZH
def Qxq:List Item:=[oJ 10 9]
def Qavi:SC:=cT 10 (sR [fI 2 (.mv (.k (.c .pnil)))] [2] .ret) .skip
def Qxr:List Item:=[mJ 3 15]
def Qxs:List Item:=.chk 11 none (.ld 3 true (.t 1))::fI 14 (.bld [.int .i64 0,.int .i64 0,.sl true 5 [],.sl true 1 [],.sl true 1 []] [(0,3,.t 11),(4,1,.t 13)])::eI 15 (.boxm (.t 14))::Qxr
def Qxt:List Item:=[mJ 5 25]
def Qxu:List Item:=[mJ 6 35]
def Qavj:SC:=.reg [mJ 41 5,mJ 42 7,mJ 43 3,kJ 44 43,fJ 45 4 44,lJ 46 45,mJ 47 7,iJ 48 1 46 47,lJ 49 48,mJ 50 49,gTm 51 50 6,gTm 52 50 7,gT 53 50 (.iad 1 (.t 51) (.t 52)),gTl 54 50 53,gT 55 50 (.not (.t 54)),pF 56 50 55,iJ 57 1 41 42,sJ 1 57 56] [1,3,5,6,18,19,37,38]
def Qavk:SC:=.reg [cJ 58 .add 38 1,mJ 38 58] [1,3,5,6,18,19,37,38]
def Qavl:SC:=.seq (.block 3 (sR [mJ 40 38,mJ 7 40] [1,3,5,6,7,18,19,37,38] Qavj)) Qavk
def Qao2:SC:=sR [bJ 39 .lss 38 37] [1,3,5,6,18,19,37,38,39] (cX 39 2 Qavl)
def Qaos:SC:=sR [mJ 36 5,nJ 37 36,zJ 38 0] [1,3,5,6,18,19,37,38] (bL 2 Qao2)
def Qaot:SC:=cT 32 (sR (tJ 33 3 1::mJ 34 4::aJ 35 PV [.t 33,.t 34]::Qxu) [1,3,5,6,18,19] Qaos) .skip
def Qth:List Item:=[kJ 67 59,fJ 68 3 67,sJ 1 68 66]
def Qxp:SC:=.reg (mJ 59 3::mJ 60 3::kJ 61 60::fJ 62 3 61::lJ 63 62::mJ 64 5::fI 65 (.aH 1 [.t 64])::xJ 66 1 63 65::Qth) [1,3,18,19]
def Qaou:SC:=.seq (sR [mJ 26 3,kJ 27 26,fJ 28 4 27,lJ 29 28,mJ 30 4,iJ 31 1 29 30,lJ 32 31] [1,3,4,5,18,19,32] Qaot) Qxp
def Qaov:SC:=sR (fJ 22 2 1::lJ 23 22::nJ 24 23::eI 25 (.mks 1 [.bool false] (.t 24))::Qxt) [1,3,4,5,18,19] Qaou
def Qaow:SC:=.reg [cJ 69 .add 19 1,mJ 19 69] [1,3,18,19]
def Qaox:SC:=.seq (.block 1 (sR [mJ 21 19,mJ 4 21] [1,3,4,18,19] Qaov)) Qaow
def Qaht:SC:=sR [bJ 20 .lss 19 18] [1,3,18,19,20] (cX 20 0 Qaox)
def Qaoy:SC:=sR [mJ 70 3,mJ 2 70] [2] .ret
def Qaoz:SC:=.seq (sR [fJ 16 2 1,lJ 17 16,nJ 18 17,zJ 19 0] [1,3,18,19] (bL 0 Qaht)) Qaoy
def Qao0:SC:=.seq (.a7 6 [0,1,2,0,3,4,5] ( tJ 11 3 1::tJ 12 3 1::aJ 13 PV [.t 12,kI (-1)]::Qxs) [1,3]) Qaoz
def Qao1:SC:=.seq (sR (tJ 8 3 1::aJ 9 PB [.t 8]::Qxq) [1,10] Qavi) Qao0
def Qa95:SC:=sR [vJ 1 0,fI 2 (.mv (.k (.c .pnil)))] [1] Qao1
abbrev Rm:List RS:=[.tmp 2]
theorem Qa88:mFn prog RH 1 71 Qa95 Rm=true:=ZH
def Qqq:List Item:=[cJ 8 .geq 7 0,mJ 4 8]
def Qamz:SC:=sR (mJ 5 0::mJ 6 1::aJ 7 Pp [.t 5,.t 6]::Qqq) [4] .ret
def Qayw:SC:=sR [fB 4 false] [0,1] Qamz
abbrev Q15:List RS:=[.tmp 4]
theorem Qauy:mFn prog S6 2 9 Qayw Q15=true:=ZH
def Qboy:SC:=cT 17 (sR [mJ 18 5,mJ 4 18] [4] .ret) .skip
def Qboz:SC:=.reg [mJ 10 5,cJ 11 .add 10 1,mJ 5 11] [0,1,5]
def Qbo0:SC:=.seq (.block 1 (sR [mJ 12 0,mJ 13 5,iJ 14 1 12 13,lJ 15 14,mJ 16 1,bJ 17 .eql 15 16] [0,1,5,17] Qboy)) Qboz
def Qbjj:SC:=.seq (sR [mJ 6 5,mJ 7 0,nJ 8 7,bJ 9 .lss 6 8] [0,1,5,9] (cT 9 .skip (.exit 0))) Qbo0
def Qbo1:SC:=sR [zJ 4 (-1)] [4] .ret
def Qbo2:SC:=.seq (sR [zJ 5 0] [0,1,5] (bL 0 Qbjj)) Qbo1
def VX:SC:=sR [zJ 4 0] [0,1] Qbo2
abbrev FN:List RS:=[.tmp 4]
theorem XS:mFn prog FY 2 19 VX FN=true:=ZH
def Q9u:List Item:=[mJ 5 15]
def Q9v:List Item:=[mJ 7 26]
def Qba3:SC:=.reg [mJ 36 7,mJ 37 6,iJ 38 1 36 37,.e none none (.sto 1 (.t 38) (.k (.c (.bool false))))] [1,3,4,5,6,7]
def Qba4:SC:=cT 31 (sR [tJ 32 3 1,mJ 33 7,fI 34 (.aH 1 []),aJ 35 Gu [.t 32,kI 0,.t 33,.t 34]] [1,3,4,5,6,7] Qba3) (.reg [mJ 39 7,mJ 40 6,iJ 41 1 39 40,.e none none (.sto 1 (.t 41) (.k (.c (.bool false))))] [1,3,4,5,6,7])
def Q9w:List Item:=[mJ 8 43]
def Qba5:SC:=.reg [mJ 47 9,cJ 48 .add 47 1,mJ 9 48] [1,3,4,5,6,7,8,9]
def Qba6:SC:=.seq (.block 3 (.reg [mJ 49 8,mJ 50 9,mJ 51 5,mJ 52 6,iJ 53 1 51 52,lJ 54 53,mJ 55 54,gTm 56 55 5,gTm 57 55 9,gT 58 55 (.iad 1 (.t 56) (.t 57)),gTl 59 55 58,pF 60 55 59,mJ 61 60,gTm 62 61 7,gTm 63 61 9,gT 64 61 (.iad 1 (.t 62) (.t 63)),gTl 65 61 64,gT 66 61 (.not (.t 65)),pF 67 61 66,iJ 68 1 49 50,sJ 1 68 67] [1,3,4,5,6,7,8,9])) Qba5
def Qa3n:SC:=.seq (sR [mJ 44 9,mJ 45 3,bJ 46 .lss 44 45] [1,3,4,5,6,7,8,9,46] (cT 46 .skip (.exit 2))) Qba6
def Q9x:List Item:=[mJ 4 72]
def Qba7:SC:=.reg (mJ 69 4::mJ 70 8::fI 71 (.aH 1 [.t 70])::xJ 72 1 69 71::Q9x) [1,3,4,5,6]
def Qa3c:SC:=.seq (sR [zJ 9 0] [1,3,4,5,6,7,8,9] (bL 2 Qa3n)) Qba7
def Q9t:SC:=sR (mJ 42 3::eI 43 (.mks 1 [.bool false] (.t 42))::Q9w) [1,3,4,5,6,7,8] Qa3c
def Qa3d:SC:=.seq (sR [mJ 30 6,cJ 31 .neq 30 0] [1,3,4,5,6,7,31] Qba4) Q9t
def Qa3e:SC:=sR [mJ 27 7,mJ 28 6,iJ 29 1 27 28,.e none none (.sto 1 (.t 29) (.k (.c (.bool true))))] [1,3,4,5,6,7] Qa3d
def Qa3f:SC:=.reg [mJ 23 6,cJ 24 .add 23 1,mJ 6 24] [1,3,4,5,6]
def Qa3g:SC:=.seq (.block 1 (sR (mJ 25 3::eI 26 (.mks 1 [.bool false] (.t 25))::Q9v) [1,3,4,5,6,7] Qa3e)) Qa3f
def Qawu:SC:=.seq (sR [mJ 20 6,mJ 21 3,bJ 22 .lss 20 21] [1,3,4,5,6,22] (cT 22 .skip (.exit 0))) Qa3g
def Qa3h:SC:=sR [mJ 73 4,mJ 2 73] [2] .ret
def Qa3i:SC:=.seq (sR [zJ 6 0] [1,3,4,5,6] (bL 0 Qawu)) Qa3h
def Qa3j:SC:=sR [tJ 16 3 1,mJ 17 5,fI 18 (.aH 1 []),aJ 19 Gu [.t 16,kI 0,.t 17,.t 18]] [1,3,4,5] Qa3i
def Qa3k:SC:=sR (mJ 14 3::eI 15 (.mks 1 [.bool false] (.t 14))::Q9u) [1,3,4,5] Qa3j
def Qa3l:SC:=sR [fI 13 (.aH 1 []),mJ 4 13] [1,3,4] Qa3k
def Qa3m:SC:=sR [fJ 10 2 1,lJ 11 10,nJ 12 11,mJ 3 12] [1,3] Qa3l
def Qbpa:SC:=sR [vJ 1 0,fI 2 (.mv (.k (.c (.sl true 1 []))))] [1] Qa3m
abbrev O1:List RS:=[.tmp 2]
theorem Qbnt:mFn prog Hf 1 74 Qbpa O1=true:=ZH
def SK:List Item:=[gT 12 7 (.not (.t 11)),pF 13 7 12,mJ 2 13]
def Qao3:SC:=sR (fJ 3 2 1::lJ 4 3::nJ 5 4::cJ 6 .gtr 5 0::mJ 7 6::gTf 8 7 2 1::gTl 9 7 8::gT 10 7 (.mkf Qo3 [.t 1])::.e (some 11) (some (7,true)) (.call TJ [.t 9,.t 10])::SK) [2] .ret
def Qa1c:SC:=sR [vJ 1 0,fB 2 false] [1] Qao3
abbrev RL:List RS:=[.tmp 2]
theorem Qa0b:mFn prog PB 1 14 Qa1c RL=true:=ZH
def Q82:List Item:=[mJ 3 5]
def Q83:List Item:=[mJ 2 9]
def Qa98:SC:=sR (mJ 8 3::aJ 9 Si [.t 8]::Q83) [2] .ret
def Qa99:SC:=sR [mJ 6 3,aJ 7 Hc [.t 6]] [3] Qa98
def Qbaa:SC:=sR (mJ 4 0::aJ 5 Rr [.t 4]::Q82) [3] Qa99
def Qbow:SC:=sR [fI 2 (.mv (.k (.c (.sl true 1 []))))] [0] Qbaa
abbrev O7:List RS:=[.tmp 2]
theorem Qbnk:mFn prog OZ 1 10 Qbow O7=true:=ZH
def Qya:List Item:=[sJ 1 4 9]
def Qyb:List Item:=eI 4 (.alloc [.sl true 1 []])::Qya
def Qav6:SC:=sR [lJ 13 3,mJ 2 13] [2] .ret
def Qav7:SC:=sR [lJ 11 5,eI 12 (.bB (.t 11) [kI 0])] [3] Qav6
def Qav8:SC:=sR [fI 10 (.mkf HB [.t 4,.t 1,.t 5,.t 3]),sJ 1 5 10] [3,5] Qav7
def Qav9:SC:=sR [eI 5 (.alloc [.fnil])] [1,3,4,5] Qav8
def Qawa:SC:=sR (fJ 6 2 1::lJ 7 6::nJ 8 7::eI 9 (.mks 1 [.bool false] (.t 8))::Qyb) [1,3,4] Qav9
def Qawb:SC:=sR [eI 3 (.alloc [.sl true 1 []])] [1,3] Qawa
def Qbae:SC:=sR [vJ 1 0,fI 2 (.mv (.k (.c (.sl true 1 []))))] [1] Qawb
abbrev MB:List RS:=[.tmp 2]
theorem Qa9d:mFn prog Px 1 14 Qbae MB=true:=ZH
def Qbcs:SC:=cT 5 (.reg [mJ 6 0,fI 7 (.sli 1 (.t 6) none (some (kI 2000))),mJ 0 7] [0]) .skip
def N7:List Item:=[mJ 2 10]
def Mp:SC:=sR (mJ 8 0::fI 9 (.bld [.sl true 1 [],.int .i64 0] [(0,1,.t 8)])::eI 10 (.boxm (.t 9))::N7) [2] .ret
def Qbct:SC:=.seq (sR [mJ 3 0,nJ 4 3,cJ 5 .gtr 4 2000] [0,5] Qbcs) Mp
def Qbp1:SC:=sR [fI 2 (.mv (.k (.c .pnil)))] [0] Qbct
abbrev Fs:List RS:=[.tmp 2]
theorem Qbn4:mFn prog Q6a 1 11 Qbp1 Fs=true:=ZH
def Qfk:List Item:=[mJ 5 11]
def Qfl:List Item:=[mJ 6 46]
def Qtk:SC:=.reg (mJ 39 6::fJ 40 2 2::lJ 41 40::mJ 42 7::iJ 43 5 41 42::fJ 44 4 43::lJ 45 44::xJ 46 1 39 45::Qfl) [1,2,5,6]
def Qtl:SC:=sR [mJ 36 5,mJ 37 7,iJ 38 1 36 37,.e none none (.sto 1 (.t 38) (.k (.c (.bool true))))] [1,2,5,6,7] Qtk
def Qtm:SC:=.seq (sR [mJ 27 7,mJ 28 1,bJ 29 .eql 27 28,mJ 30 29,gFm 31 30 5,gFm 32 30 7,gF 33 30 (.iad 1 (.t 31) (.t 32)),gFl 34 30 33,pT 35 30 34] [1,2,5,6,7,35] (cT 35 (.exit 1) .skip)) Qtl
def Qtn:SC:=sR [mJ 22 6,mJ 23 6,nJ 24 23,cJ 25 .sub 24 1,fI 26 (.sli 1 (.t 22) none (some (.t 25))),mJ 6 26] [1,2,5,6,7] Qtm
def Qto:SC:=.block 1 (sR [mJ 16 6,mJ 17 6,nJ 18 17,cJ 19 .sub 18 1,iJ 20 1 16 19,lJ 21 20,mJ 7 21] [1,2,5,6,7] Qtn)
def Qq1:SC:=.seq (sR [mJ 13 6,nJ 14 13,cJ 15 .gtr 14 0] [1,2,5,6,15] (cT 15 .skip (.exit 0))) Qto
def Qtp:SC:=sR [mJ 47 5,mJ 4 47] [4] .ret
def Qtq:SC:=sR [eI 12 (.bslm 1 [kI 0]),mJ 6 12] [1,2,5,6] (.seq (bL 0 Qq1) Qtp)
def Qq0:SC:=sR (fJ 8 2 2::lJ 9 8::nJ 10 9::eI 11 (.mks 1 [.bool false] (.t 10))::Qfk) [1,2,5] Qtq
def Qzz:SC:=sR [vJ 2 0,fI 4 (.mv (.k (.c (.sl true 1 []))))] [1,2] Qq0
abbrev Qim:List RS:=[.tmp 4]
theorem Qzf:mFn prog PV 2 48 Qzz Qim=true:=ZH
def Qa7k:SC:=cT 16 (sR [mJ 17 5,mJ 4 17] [4] .ret) .skip
def Qa7l:SC:=sR [mJ 11 1,mJ 12 0,mJ 13 5,iJ 14 1 12 13,lJ 15 14,bJ 16 .eql 11 15] [0,1,5,7,8,16] Qa7k
def Qa7m:SC:=.reg [cJ 18 .add 8 1,mJ 8 18] [0,1,7,8]
def Qa7n:SC:=.seq (.block 1 (sR [mJ 10 8,mJ 5 10] [0,1,5,7,8] Qa7l)) Qa7m
def Qayx:SC:=sR [bJ 9 .lss 8 7] [0,1,7,8,9] (cX 9 0 Qa7n)
def Qa7o:SC:=sR [zJ 4 (-1)] [4] .ret
def Qa7p:SC:=.seq (sR [mJ 6 0,nJ 7 6,zJ 8 0] [0,1,7,8] (bL 0 Qayx)) Qa7o
def Qbls:SC:=sR [zJ 4 0] [0,1] Qa7p
abbrev Q6v:List RS:=[.tmp 4]
theorem Qbi0:mFn prog Pp 2 19 Qbls Q6v=true:=ZH
def Qtc:List Item:=[oJ 14 13]
def Qan5:SC:=cT 14 (sR [fI 4 (.mv (.k (.c (.sl true 1 []))))] [4] .ret) .skip
def Qtd:List Item:=[mJ 6 20,sJ 5 7 22]
def Qte:List Item:=[mJ 5 30]
def Qan6:SC:=cT 26 (.reg (mJ 27 5::mJ 28 6::fI 29 (.aH 1 [.t 28])::xJ 30 1 27 29::Qte) [1,5,16,17,18]) .skip
def Qan7:SC:=sR [fJ 23 4 7,lJ 24 23,mJ 25 1,aJ 26 S6 [.t 24,.t 25]] [1,5,6,16,17,18,26] Qan6
def Qan8:SC:=.reg [cJ 31 .add 18 1,mJ 18 31] [1,5,16,17,18]
def Qan9:SC:=.seq (.block 1 (sR (mJ 20 18::iJ 21 5 16 18::tJ 22 5 21::eI 7 (.alloc [.sl true 2 [],.sl true 4 [],.int .i64 0,.int .i64 0,.sl true 1 []])::Qtd) [1,5,6,7,16,17,18] Qan7)) Qan8
def Qahq:SC:=sR [bJ 19 .lss 18 17] [1,5,16,17,18,19] (cX 19 0 Qan9)
def Qaoa:SC:=sR [mJ 32 5,mJ 4 32] [4] .ret
def Qahn:SC:=.seq (sR [fJ 15 2 2,lJ 16 15,nJ 17 16,zJ 18 0] [1,5,16,17,18] (bL 0 Qahq)) Qaoa
def Qaho:SC:=.seq (sR (mJ 8 1::fJ 9 2 2::lJ 10 9::nJ 11 10::cJ 12 .sub 11 1::aJ 13 B3 [.t 8,kI 0,.t 12]::Qtc) [1,2,5,14] Qan5) Qahn
def Qahp:SC:=sR [fI 5 (.mv (.k (.c (.sl true 1 []))))] [1,2,5] Qaho
def Qa1b:SC:=sR [vJ 2 0,fI 4 (.mv (.k (.c (.sl true 1 []))))] [1,2] Qahp
abbrev RM:List RS:=[.tmp 4]
theorem Qa0a:mFn prog G0 2 33 Qa1b RM=true:=ZH
def Qg6:List Item:=[cJ 8 .geq 7 0,mJ 4 8]
def Q0x:SC:=sR (mJ 5 0::mJ 6 1::aJ 7 SS [.t 5,.t 6]::Qg6) [4] .ret
def Q72:SC:=sR [fB 4 false] [0,1] Q0x
abbrev Qmj:List RS:=[.tmp 4]
theorem Q6k:mFn prog EH 2 9 Q72 Qmj=true:=ZH
def PX:List Item:=[fI 8 (.ext (.t 7) 0)]
def Qfb:List Item:=[fI 10 (.ext (.t 9) 0),mJ 4 10]
def Qfc:List Item:=[mJ 3 14]
def Qq2:SC:=.reg (mJ 11 3::mJ 12 4::fI 13 (.aH 1 [.t 12])::xJ 14 1 11 13::Qfc) [3,6]
def Qq3:SC:=.block 1 (sR (eI 9 (.ent (.t 6))::Qfb) [3,4,6] Qq2)
def Qon:SC:=sR (eI 7 (.nxt (.t 6))::PX) [3,6,8] (cX 8 0 Qq3)
def Qq4:SC:=sR [mJ 17 3,mJ 2 17] [2] .ret
def Qq5:SC:=sR [mJ 15 3,aJ 16 Hc [.t 15]] [3] Qq4
def Qq6:SC:=.seq (sR [mJ 5 0,eI 6 (.rng (.t 5))] [3,6] (bL 0 Qon)) Qq5
def Qq7:SC:=sR [fI 3 (.mv (.k (.c (.sl true 1 []))))] [0,3] Qq6
def Qwh:SC:=sR [fI 2 (.mv (.k (.c (.sl true 1 []))))] [0] Qq7
abbrev TC:List RS:=[.tmp 2]
theorem Qgz:mFn prog Ip 1 18 Qwh TC=true:=ZH
def TF:List Item:=[pF 14 10 13,mJ 15 14,gTm 16 15 0,gT 17 15 (.nck (.t 16)),gTf 18 15 3 17,gTl 19 15 18,gTm 20 15 1,gT 21 15 (.iad 1 (.t 19) (.t 20)),gTl 22 15 21,gTm 23 15 2,gT 24 15 (.iad 1 (.t 22) (.t 23)),gTl 25 15 24,pF 26 15 25,mJ 6 26]
def Qfj:List Item:=mJ 10 9::gTm 11 10 0::gTm 12 10 2::.e (some 13) (some (10,true)) (.call PK [.t 11,.t 12])::TF
def Qti:SC:=sR (mJ 7 0::mJ 8 1::aJ 9 PK [.t 7,.t 8]::Qfj) [6] .ret
def Qzs:SC:=sR [fB 6 false] [0,1,2] Qti
abbrev T4:List RS:=[.tmp 6]
theorem Qze:mFn prog TE 3 27 Qzs T4=true:=ZH
def Q9g:List Item:=[oJ 37 36]
def Qban:SC:=cT 37 (sR [fB 2 false] [2] .ret) .skip
def Qbao:SC:=.reg [mJ 21 4,cJ 22 .add 21 1,mJ 4 22] [1,3,4]
def Qbap:SC:=.seq (.block 3 (.seq (.a7 15 [0,1,2,3,4,5,6,7,8,9,10,11,12,13,14] ( fJ 23 2 1::lJ 24 23::mJ 25 3::iJ 26 5 24 25::fJ 27 4 26::lJ 28 27::mJ 29 4::iJ 30 1 28 29::lJ 31 30::fJ 32 2 1::lJ 33 32::nJ 34 33::cJ 35 .sub 34 1::aJ 36 AM [.t 31,kI 0,.t 35]::Q9g) [1,3,4,37]) Qban)) Qbao
def Qa1n:SC:=.seq (sR [mJ 12 4,fJ 13 2 1,lJ 14 13,mJ 15 3,iJ 16 5 14 15,fJ 17 4 16,lJ 18 17,nJ 19 18,bJ 20 .lss 12 19] [1,3,4,20] (cT 20 .skip (.exit 2))) Qbap
def Qbaq:SC:=.reg [mJ 10 3,cJ 11 .add 10 1,mJ 3 11] [1,3]
def Qbar:SC:=.seq (.block 1 (sR [zJ 4 0] [1,3,4] (bL 2 Qa1n))) Qbaq
def Qa1o:SC:=.seq (sR [mJ 5 3,fJ 6 2 1,lJ 7 6,nJ 8 7,bJ 9 .lss 5 8] [1,3,9] (cT 9 .skip (.exit 0))) Qbar
def Qbas:SC:=sR [fJ 38 2 1,lJ 39 38,nJ 40 39,cJ 41 .gtr 40 0,mJ 2 41] [2] .ret
def Qbat:SC:=.seq (sR [zJ 3 0] [1,3] (bL 0 Qa1o)) Qbas
def Qbo6:SC:=sR [vJ 1 0,fB 2 false] [1] Qbat
abbrev Fj:List RS:=[.tmp 2]
theorem Qbnp:mFn prog Q51 1 42 Qbo6 Fj=true:=ZH
def Qa6t:SC:=.block 1 (.reg [mJ 19 5,cJ 20 .add 19 1,mJ 5 20] [0,1,5])
def Qayh:SC:=.seq (sR [mJ 7 5,mJ 8 0,nJ 9 8,bJ 10 .lss 7 9,mJ 11 10,gTm 12 11 0,gTm 13 11 5,gT 14 11 (.iad 1 (.t 12) (.t 13)),gTl 15 11 14,gTm 16 11 1,gT 17 11 (.bin 0 .lss (.t 15) (.t 16)),pF 18 11 17] [0,1,5,18] (cT 18 .skip (.exit 0))) Qa6t
def Qa6u:SC:=cT 32 (sR [mJ 33 0,mJ 4 33] [4] .ret) .skip
def Q4u:List Item:=[mJ 6 38]
def Q4v:List Item:=[mJ 4 46]
def Q4w:List Item:=.chk 45 none (.sli 1 (.t 43) (some (.t 44)) none)::xJ 46 1 42 45::Q4v
def Qa6v:SC:=.seq (.a7 9 [0,1,2,4,5,6,3,6,7,8] ( mJ 39 6::mJ 40 1::fI 41 (.aH 1 [.t 40])::mJ 43 0::mJ 44 5::fI 45 (.sli 1 (.t 43) (some (.t 44)) none)::xJ 42 1 39 41::Q4w) [4]) .ret
def Nn:SC:=sR (fI 34 (.aH 1 [])::mJ 35 0::mJ 36 5::fI 37 (.sli 1 (.t 35) none (some (.t 36)))::xJ 38 1 34 37::Q4u) [0,1,5,6] Qa6v
def Nm:SC:=.seq (sR [mJ 21 5,mJ 22 0,nJ 23 22,bJ 24 .lss 21 23,mJ 25 24,gTm 26 25 0,gTm 27 25 5,gT 28 25 (.iad 1 (.t 26) (.t 27)),gTl 29 25 28,gTm 30 25 1,gT 31 25 (.bin 0 .eql (.t 29) (.t 30)),pF 32 25 31] [0,1,5,32] Qa6u) Nn
def Qa6w:SC:=sR [zJ 5 0] [0,1,5] (.seq (bL 0 Qayh) Nm)
def Qbk5:SC:=sR [fI 4 (.mv (.k (.c (.sl true 1 []))))] [0,1] Qa6w
abbrev GV:List RS:=[.tmp 4]
theorem Qbiy:mFn prog Gt 2 47 Qbk5 GV=true:=ZH
def Q3u:List Item:=[mJ 3 49]
def Qa26:SC:=cT 36 (.a7 14 [0,1,2,3,4,5,6,7,8,9,10,11,12,13] ( tJ 37 3 4::fJ 38 2 4::lJ 39 38::mJ 40 1::iJ 41 5 39 40::fJ 42 4 41::lJ 43 42::mJ 44 9::iJ 45 1 43 44::lJ 46 45::mJ 47 2::mJ 48 3::aJ 49 Gu [.t 37,.t 46,.t 47,.t 48]::Q3u) [1,2,3,4,9]) .skip
def Qa27:SC:=.reg [mJ 22 9,cJ 23 .add 22 1,mJ 9 23] [1,2,3,4,9]
def Qa28:SC:=.seq (.block 1 (sR [mJ 24 2,fJ 25 2 4,lJ 26 25,mJ 27 1,iJ 28 5 26 27,fJ 29 4 28,lJ 30 29,mJ 31 9,iJ 32 1 30 31,lJ 33 32,iJ 34 1 24 33,lJ 35 34,oJ 36 35] [1,2,3,4,9,36] Qa26)) Qa27
def Qawt:SC:=.seq (sR [mJ 13 9,fJ 14 2 4,lJ 15 14,mJ 16 1,iJ 17 5 15 16,fJ 18 4 17,lJ 19 18,nJ 20 19,bJ 21 .lss 13 20] [1,2,3,4,9,21] (cT 21 .skip (.exit 0))) Qa28
def Q3v:List Item:=[mJ 8 53]
def Qa29:SC:=sR (mJ 50 3::mJ 51 1::fI 52 (.aH 1 [.t 51])::xJ 53 1 50 52::Q3v) [8] .ret
def Qa3a:SC:=.seq (sR [zJ 9 0] [1,2,3,4,9] (bL 0 Qawt)) Qa29
def Qa3b:SC:=sR [mJ 10 2,mJ 11 1,iJ 12 1 10 11,.e none none (.sto 1 (.t 12) (.k (.c (.bool true))))] [1,2,3,4] Qa3a
def Qbjm:SC:=sR [vJ 4 0,fI 8 (.mv (.k (.c (.sl true 1 []))))] [1,2,3,4] Qa3b
abbrev Ld:List RS:=[.tmp 8]
theorem Qbir:mFn prog Gu 4 54 Qbjm Ld=true:=ZH
def Qdm:List Item:=[cJ 8 .geq 7 0,mJ 4 8]
def Qlw:SC:=sR (mJ 5 0::mJ 6 1::aJ 7 TL [.t 5,.t 6]::Qdm) [4] .ret
def Qos:SC:=sR [fB 4 false] [0,1] Qlw
abbrev Qe9:List RS:=[.tmp 4]
theorem Qn8:mFn prog TJ 2 9 Qos Qe9=true:=ZH
def Qkg:List Item:=[mJ 3 7]
def Q63:SC:=sR (fJ 4 4 2::lJ 5 4::fI 6 (.mkf Qh8 [.t 1])::aJ 7 EH [.t 5,.t 6]::Qkg) [3] .ret
def Qahv:SC:=sR [vJ 2 0,fB 3 false] [1,2] Q63
abbrev Qs3:List RS:=[.tmp 3]
theorem Qagb:mFn prog Qo3 2 8 Qahv Qs3=true:=ZH
def Qa7g:SC:=cT 4 (sR [fI 2 (.mv (.k (.c (.sl true 1 []))))] [2] .ret) .skip
def Q5d:List Item:=[mJ 2 7]
def Qa7h:SC:=sR (fI 5 (.aH 1 [])::mJ 6 0::xJ 7 1 5 6::Q5d) [2] .ret
def Qa7i:SC:=.seq (sR [mJ 3 0,eI 4 (.nilq (.t 3))] [0,4] Qa7g) Qa7h
def Qblr:SC:=sR [fI 2 (.mv (.k (.c (.sl true 1 []))))] [0] Qa7i
abbrev Q6u:List RS:=[.tmp 2]
theorem Qbiz:mFn prog Rr 1 8 Qblr Q6u=true:=ZH
def MY:List Item:=[aJ 10 HU [.t 5,kI 0,.t 6,.t 9]]
def Qbfs:SC:=.reg (mJ 5 0::mJ 6 2::mJ 7 2::fI 8 (.cvt .u64 (.t 7))::aJ 9 MR [.t 8]::MY) []
def Qbqp:SC:=sR [mJ 3 0,nJ 4 3,mJ 2 4] [0,2] Qbfs
abbrev OD:List RS:=[]
theorem Qbob:mFn prog Hc 1 11 Qbqp OD=true:=ZH
def Qarx:SC:=cT 8 (sR [mJ 9 0,mJ 2 9] [2] .ret) .skip
def Qary:SC:=.reg [mJ 52 3,cJ 53 .add 52 1,mJ 3 53] [0,3,4,5]
def Qarz:SC:=cT 44 (sR [mJ 45 0,mJ 46 3,mJ 47 4,mJ 48 5,iJ 49 1 47 48,lJ 50 49,iJ 51 1 45 46,sJ 1 51 50] [0,3,4,5] Qary) .skip
def Qar0:SC:=.reg [mJ 33 5,cJ 34 .add 33 1,mJ 5 34] [0,3,4,5]
def Qar1:SC:=.seq (.block 3 (.seq (.a7 10 [0,1,2,3,4,5,6,7,8,9] ( mJ 35 4::mJ 36 5::iJ 37 1 35 36::lJ 38 37::mJ 39 4::mJ 40 5::cJ 41 .sub 40 1::iJ 42 1 39 41::lJ 43 42::bJ 44 .neq 38 43::[]) [0,3,4,5,44]) Qarz)) Qar0
def Qamy:SC:=.seq (sR [mJ 29 5,mJ 30 4,nJ 31 30,bJ 32 .lss 29 31] [0,3,4,5,32] (cT 32 .skip (.exit 2))) Qar1
def Qar2:SC:=sR [mJ 57 0,mJ 58 3,fI 59 (.sli 1 (.t 57) none (some (.t 58))),mJ 2 59] [2] .ret
def Qar3:SC:=sR [mJ 54 0,mJ 55 3,fI 56 (.sli 1 (.t 54) (some (.t 55)) none),.e none none (.clrs 1 [.int .i64 0] (.t 56))] [0,3] Qar2
def Qar4:SC:=.seq (sR [zJ 5 1] [0,3,4,5] (bL 2 Qamy)) Qar3
def Qar5:SC:=cT 25 (sR [mJ 26 0,mJ 27 3,fI 28 (.sli 1 (.t 26) (some (.t 27)) none),mJ 4 28] [0,3,4] Qar4) .skip
def Qamt:SC:=.reg [mJ 14 3,cJ 15 .add 14 1,mJ 3 15] [0,3]
def Qamu:SC:=.seq (.block 1 (.seq (.a7 10 [0,1,2,3,4,5,6,7,8,9] ( mJ 16 0::mJ 17 3::iJ 18 1 16 17::lJ 19 18::mJ 20 0::mJ 21 3::cJ 22 .sub 21 1::iJ 23 1 20 22::lJ 24 23::bJ 25 .eql 19 24::[]) [0,3,25]) Qar5)) Qamt
def Qaeg:SC:=.seq (sR [mJ 10 3,mJ 11 0,nJ 12 11,bJ 13 .lss 10 12] [0,3,13] (cT 13 .skip (.exit 0))) Qamu
def Qamv:SC:=sR [mJ 60 0,mJ 2 60] [2] .ret
def Qamw:SC:=.seq (sR [zJ 3 1] [0,3] (bL 0 Qaeg)) Qamv
def Qamx:SC:=.seq (sR [mJ 6 0,nJ 7 6,cJ 8 .lss 7 2] [0,8] Qarx) Qamw
def Qa7j:SC:=sR [fI 2 (.mv (.k (.c (.sl true 1 []))))] [0] Qamx
abbrev Pt:List RS:=[.tmp 2]
theorem Qa0m:mFn prog Si 1 61 Qa7j Pt=true:=ZH
def Qadl:SC:=cT 26 (.reg [lJ 27 3,mJ 28 7,eI 29 (.bB (.t 27) [.t 28])] [0,1,3,4,16,17,18]) .skip
def Qadm:SC:=sR [lJ 22 1,mJ 23 7,iJ 24 1 22 23,lJ 25 24,oJ 26 25] [0,1,3,4,7,16,17,18,26] Qadl
def Qadn:SC:=.reg [cJ 30 .add 18 1,mJ 18 30] [0,1,3,4,16,17,18]
def Qado:SC:=.seq (.block 1 (sR [iJ 20 1 16 18,lJ 21 20,mJ 7 21] [0,1,3,4,7,16,17,18] Qadm)) Qadn
def Q7n:SC:=sR [bJ 19 .lss 18 17] [0,1,3,4,16,17,18,19] (cX 19 0 Qado)
def Qm9:List Item:=[sJ 1 4 34]
def Qadp:SC:=.reg (lJ 31 4::mJ 32 0::fI 33 (.aH 1 [.t 32])::xJ 34 1 31 33::Qm9) []
def Qadq:SC:=.seq (sR [fJ 11 2 2,lJ 12 11,mJ 13 0,iJ 14 5 12 13,fJ 15 4 14,lJ 16 15,nJ 17 16,zJ 18 0] [0,1,3,4,16,17,18] (bL 0 Q7n)) Qadp
def Qap2:SC:=sR [lJ 8 1,mJ 9 0,iJ 10 1 8 9,.e none none (.sto 1 (.t 10) (.k (.c (.bool true))))] [0,1,2,3,4] Qadq
abbrev Qxc:List RS:=[]
theorem Qanv:mFn prog HB 5 35 Qap2 Qxc=true:=ZH
def Qawc:SC:=sR [mJ 7 1,mJ 8 0,bJ 9 .leq 7 8,mJ 10 9,gTm 11 10 0,gTm 12 10 2,gT 13 10 (.bin 0 .leq (.t 11) (.t 12)),pF 14 10 13,mJ 6 14] [6] .ret
def Qbaf:SC:=sR [fB 6 false] [0,1,2] Qawc
abbrev MA:List RS:=[.tmp 6]
theorem Qa9e:mFn prog B3 3 15 Qbaf MA=true:=ZH
def Qaeh:SC:=cT 16 (sR [mJ 17 5,mJ 4 17] [4] .ret) .skip
def Qaei:SC:=sR [mJ 11 1,mJ 12 0,mJ 13 5,iJ 14 1 12 13,lJ 15 14,eI 16 (.bB (.t 11) [.t 15])] [0,1,5,7,8,16] Qaeh
def Qaej:SC:=.reg [cJ 18 .add 8 1,mJ 8 18] [0,1,7,8]
def Qaek:SC:=.seq (.block 1 (sR [mJ 10 8,mJ 5 10] [0,1,5,7,8] Qaei)) Qaej
def Q73:SC:=sR [bJ 9 .lss 8 7] [0,1,7,8,9] (cX 9 0 Qaek)
def Qael:SC:=sR [zJ 4 (-1)] [4] .ret
def Qaem:SC:=.seq (sR [mJ 6 0,nJ 7 6,zJ 8 0] [0,1,7,8] (bL 0 Q73)) Qael
def Qar6:SC:=sR [zJ 4 0] [0,1] Qaem
abbrev Sy:List RS:=[.tmp 4]
theorem Qanx:mFn prog SS 2 19 Qar6 Sy=true:=ZH
def Qpg:List Item:=[pF 16 7 15,mJ 17 16,gTm 18 17 0,gT 19 17 (.nck (.t 18)),gTf 20 17 4 19,gTl 21 17 20,gTm 22 17 1,gT 23 17 (.iad 1 (.t 21) (.t 22)),gTl 24 17 23,pF 25 17 24,mJ 4 25]
def Qahu:SC:=sR (mJ 5 0::fI 6 (.bin 2 .neq (.t 5) (.k (.c .pnil)))::mJ 7 6::gTm 8 7 1::gTm 9 7 0::gT 10 7 (.nck (.t 9))::gTf 11 7 4 10::gTl 12 7 11::gT 13 7 (.len (.t 12))::gT 14 7 (.bin 0 .sub (.t 13) (kI 1))::.e (some 15) (some (7,true)) (.call B3 [.t 8,kI 0,.t 14])::Qpg) [4] .ret
def Qavm:SC:=sR [fB 4 false] [0,1] Qahu
abbrev Q1r:List RS:=[.tmp 4]
theorem Qaum:mFn prog PK 2 26 Qavm Q1r=true:=ZH
def Qq9:SC:=cT 16 (sR [mJ 17 5,mJ 4 17] [4] .ret) .skip
def Qra:SC:=sR [mJ 11 1,mJ 12 0,mJ 13 5,iJ 14 5 12 13,tJ 15 5 14,eI 16 (.bB (.t 11) [.t 15])] [0,1,5,7,8,16] Qq9
def Qrb:SC:=.reg [cJ 18 .add 8 1,mJ 8 18] [0,1,7,8]
def Qrc:SC:=.seq (.block 1 (sR [mJ 10 8,mJ 5 10] [0,1,5,7,8] Qra)) Qrb
def Qou:SC:=sR [bJ 9 .lss 8 7] [0,1,7,8,9] (cX 9 0 Qrc)
def Qrd:SC:=sR [zJ 4 (-1)] [4] .ret
def Qre:SC:=.seq (sR [mJ 6 0,nJ 7 6,zJ 8 0] [0,1,7,8] (bL 0 Qou)) Qrd
def Qwn:SC:=sR [zJ 4 0] [0,1] Qre
abbrev TB:List RS:=[.tmp 4]
theorem Qwb:mFn prog TL 2 19 Qwn TB=true:=ZH
def Qgl:List Item:=[oJ 10 9,mJ 3 10]
def Qwc:SC:=sR (mJ 4 0::fJ 5 2 1::lJ 6 5::nJ 7 6::cJ 8 .sub 7 1::aJ 9 B3 [.t 4,kI 0,.t 8]::Qgl) [3] .ret
def Q2a:SC:=sR [fB 3 false] [0,1] Qwc
abbrev Qj7:List RS:=[.tmp 3]
theorem Q1l:mFn prog Qh8 2 11 Q2a Qj7=true:=ZH
def Qva:SC:=cT 23 (sR [mJ 24 0,mJ 25 1,mJ 26 2,aJ 27 Qb4 [.t 24,.t 25,.t 26]] [] .ret) .skip
def Qvb:SC:=cT 29 (sR [mJ 30 0,mJ 31 1,mJ 32 2,aJ 33 Qsk [.t 30,.t 31,.t 32]] [] .ret) .skip
def Qvc:SC:=.reg [mJ 40 3,cJ 41 .sub 40 1,mJ 3 41] [0,1,2,3,8,9,10]
def Qvd:SC:=cT 35 (sR [mJ 36 0,mJ 37 1,mJ 38 2,aJ 39 Qjs [.t 36,.t 37,.t 38]] [0,1,2,3,8,9,10] Qvc) .skip
def Qr0:List Item:=[mJ 42 46,fI 47 (.ext (.t 42) 0),fI 48 (.ext (.t 42) 1),mJ 11 47,mJ 12 48]
def Qve:SC:=.reg [zJ 12 1] [0,1,2,3,8,9,10,11,12]
def Qvf:SC:=sR [mJ 55 2,cJ 56 .sub 55 1,mJ 57 11,mJ 58 1,bJ 59 .sub 57 58,bJ 60 .sub 56 59,mJ 11 60] [0,1,2,3,8,9,10,11] Qve
def Qvg:SC:=cT 50 (sR [mJ 51 0,mJ 52 1,mJ 53 2,aJ 54 Qk7 [.t 51,.t 52,.t 53]] [0,1,2,3,8,9,10,11] Qvf) .skip
def Qvh:SC:=cT 68 (sR [mJ 69 0,mJ 70 1,mJ 71 2,aJ 72 Qey [.t 69,.t 70,.t 71]] [0,1,2,3,8,9,10,11,72] (cT 72 .ret .skip)) .skip
def Qr1:List Item:=[gT 86 75 (.not (.t 85)),pF 87 75 86]
def Qov:List Item:=[mJ 13 92]
def Qrg:SC:=sR [mJ 93 13,mJ 1 93] [0,1,2,3,8,9] (.exit 1)
def Qrh:SC:=cT 87 (sR (mJ 88 0::mJ 89 1::mJ 90 2::mJ 91 11::aJ 92 Qif [.t 88,.t 89,.t 90,.t 91]::Qov) [0,2,3,8,9,13] Qrg) .skip
def Qow:List Item:=[mJ 94 99,fI 100 (.ext (.t 94) 0),fI 101 (.ext (.t 94) 1),mJ 14 100,mJ 15 101]
def Qri:SC:=.reg [mJ 122 14,cJ 123 .add 122 1,mJ 1 123] [0,1,2,3,8,9]
def Qrj:SC:=sR [mJ 117 0,mJ 118 1,mJ 119 14,mJ 120 3,aJ 121 HU [.t 117,.t 118,.t 119,.t 120]] [0,2,3,8,9,14] Qri
def Qrk:SC:=.reg [mJ 133 14,mJ 2 133] [0,1,2,3,8,9]
def Qrl:SC:=sR [mJ 127 0,mJ 128 14,cJ 129 .add 128 1,mJ 130 2,mJ 131 3,aJ 132 HU [.t 127,.t 129,.t 130,.t 131]] [0,1,3,8,9,14] Qrk
def Qrm:SC:=cT 113 (sR [mJ 114 16,mJ 115 18,bJ 116 .geq 114 115,mJ 8 116] [0,1,2,3,8,9,14] Qrj) (sR [mJ 124 17,mJ 125 18,bJ 126 .geq 124 125,mJ 8 126] [0,1,2,3,8,9,14] Qrl)
def Qrn:SC:=sR [mJ 111 16,mJ 112 17,bJ 113 .lss 111 112] [0,1,2,3,9,14,16,17,18,113] Qrm
def Qro:SC:=sR [mJ 109 10,cJ 110 .quo 109 8,mJ 18 110] [0,1,2,3,9,14,16,17,18] Qrn
def Qrp:SC:=sR [mJ 103 14,mJ 104 1,bJ 105 .sub 103 104,mJ 106 2,mJ 107 14,bJ 108 .sub 106 107,mJ 16 105,mJ 17 108] [0,1,2,3,9,10,14,16,17] Qro
def Qrq:SC:=sR [mJ 102 15,mJ 9 102] [0,1,2,3,9,10,14] Qrp
def Qrr:SC:=sR (mJ 95 0::mJ 96 1::mJ 97 2::mJ 98 11::aJ 99 Qqv [.t 95,.t 96,.t 97,.t 98]::Qow) [0,1,2,3,10,14,15] Qrq
def Qrs:SC:=.seq (.seq (.a7 15 [0,1,2,3,4,5,6,7,8,9,10,11,12,13,14] ( mJ 73 1::cJ 74 .gtr 73 0::mJ 75 74::gTm 76 75 0::gTm 77 75 1::gT 78 75 (.bin 0 .sub (.t 77) (kI 1))::gT 79 75 (.iad 1 (.t 76) (.t 78))::gTl 80 75 79::gTm 81 75 0::gTm 82 75 11::gT 83 75 (.iad 1 (.t 81) (.t 82))::gTl 84 75 83::.e (some 85) (some (75,true)) (.call MQ [.t 80,.t 84])::Qr1) [0,1,2,3,8,9,10,11,87]) Qrh) Qrr
def Qrt:SC:=.seq (sR [mJ 61 8,mJ 62 61,gTm 63 62 9,pF 64 62 63,mJ 65 64,gTm 66 65 12,gT 67 65 (.bin 0 .eql (.t 66) (kI 1)),pF 68 65 67] [0,1,2,3,8,9,10,11,68] Qvh) Qrs
def Qru:SC:=.seq (sR [mJ 49 12,cJ 50 .eql 49 2] [0,1,2,3,8,9,10,11,12,50] Qvg) Qrt
def Qrv:SC:=sR (mJ 43 0::mJ 44 1::mJ 45 2::aJ 46 Ql7 [.t 43,.t 44,.t 45]::Qr0) [0,1,2,3,8,9,10,11,12] Qru
def Qrw:SC:=.seq (sR [mJ 34 8,oJ 35 34] [0,1,2,3,8,9,10,35] Qvd) Qrv
def Qrx:SC:=.seq (sR [mJ 28 3,cJ 29 .eql 28 0] [0,1,2,3,8,9,10,29] Qvb) Qrw
def Qry:SC:=.seq (sR [mJ 22 10,cJ 23 .leq 22 12] [0,1,2,3,8,9,10,23] Qva) Qrx
def Qox:SC:=.block 1 (sR [mJ 19 2,mJ 20 1,bJ 21 .sub 19 20,mJ 10 21] [0,1,2,3,8,9,10] Qry)
def Qrz:SC:=sR [fB 9 true] [0,1,2,3,8,9] (bL 0 Qox)
def Q0z:SC:=sR [fB 8 true] [0,1,2,3,8] Qrz
abbrev Qip:List RS:=[]
theorem Qzh:mFn prog HU 4 134 Q0z Qip=true:=ZH
def Qhr:List Item:=[pF 30 19 29]
def Qhs:List Item:=[iJ 48 1 35 37,sJ 1 48 46]
def Qjj:SC:=.reg [mJ 31 7,cJ 32 .sub 31 1,mJ 7 32] [0,1,2,6,7]
def Qjk:SC:=.seq (.block 3 (.a7 18 [0,1,2,3,4,5,6,7,8,9,10,11,12,13,14,15,16,17] ( mJ 33 0::mJ 34 7::mJ 35 0::mJ 36 7::cJ 37 .sub 36 1::mJ 38 0::mJ 39 7::cJ 40 .sub 39 1::iJ 41 1 38 40::lJ 42 41::mJ 43 0::mJ 44 7::iJ 45 1 43 44::lJ 46 45::iJ 47 1 33 34::sJ 1 47 42::Qhs) [0,1,2,6,7])) Qjj
def Qht:SC:=.seq (.seq (.a7 15 [0,1,2,3,4,5,6,7,8,9,10,11,12,13,14] ( mJ 16 7::mJ 17 1::bJ 18 .gtr 16 17::mJ 19 18::gTm 20 19 0::gTm 21 19 7::gT 22 19 (.iad 1 (.t 20) (.t 21))::gTl 23 19 22::gTm 24 19 0::gTm 25 19 7::gT 26 19 (.bin 0 .sub (.t 25) (kI 1))::gT 27 19 (.iad 1 (.t 24) (.t 26))::gTl 28 19 27::.e (some 29) (some (19,true)) (.call MQ [.t 23,.t 28])::Qhr) [0,1,2,6,7,30]) (cT 30 .skip (.exit 2))) Qjk
def Qjl:SC:=.reg [mJ 13 6,cJ 14 .add 13 1,mJ 6 14] [0,1,2,6]
def Qjm:SC:=.seq (.block 1 (sR [mJ 15 6,mJ 7 15] [0,1,2,6,7] (bL 2 Qht))) Qjl
def Qhu:SC:=.seq (sR [mJ 10 6,mJ 11 2,bJ 12 .lss 10 11] [0,1,2,6,12] (cT 12 .skip (.exit 0))) Qjm
def Qlx:SC:=sR [mJ 8 1,cJ 9 .add 8 1,mJ 6 9] [0,1,2,6] (bL 0 Qhu)
abbrev Qd0:List RS:=[]
theorem Qla:mFn prog Qb4 3 49 Qlx Qd0=true:=ZH
def Qs9:List Item:=[oJ 8 7]
def Qan2:SC:=cT 8 (sR [fI 4 (.mv (.k (.c (.sl true 1 []))))] [4] .ret) .skip
def Qta:List Item:=[mJ 4 18]
def Qtb:List Item:=kJ 15 14::fJ 16 3 15::lJ 17 16::eI 18 (.call TK [.t 17,.k (.c (.fn PT []))])::Qta
def Qan3:SC:=sR (fJ 9 0 2::lJ 10 9::mJ 11 1::iJ 12 3 10 11::tJ 13 3 12::aJ 14 RF [.t 13]::Qtb) [4] .ret
def Qan4:SC:=.seq (sR (tJ 5 1 2::mJ 6 1::aJ 7 Py [.t 5,.t 6]::Qs9) [1,2,8] Qan2) Qan3
def Qa1a:SC:=sR [vJ 2 0,fI 4 (.mv (.k (.c (.sl true 1 []))))] [1,2] Qan4
abbrev R6:List RS:=[.tmp 4]
theorem Qaz9:mFn prog Sg 2 19 Qa1a R6=true:=ZH
def Qkf:List Item:=[mJ 2 4]
def Q6x:SC:=sR (mJ 3 0::aJ 4 Ip [.t 3]::Qkf) [2] .ret
def Qahj:SC:=sR [fI 2 (.mv (.k (.c (.sl true 1 []))))] [0] Q6x
abbrev Qs0:List RS:=[.tmp 2]
theorem Qaga:mFn prog PT 1 5 Qahj Qs0=true:=ZH
def Qxf:List Item:=[oJ 6 5]
def Qava:SC:=cT 6 (sR [zJ 2 (-1)] [2] .ret) .skip
def Qavb:SC:=sR [fJ 7 1 1,lJ 8 7,mJ 2 8] [2] .ret
def Qavc:SC:=.seq (sR (fJ 3 0 1::lJ 4 3::aJ 5 Hh [.t 4]::Qxf) [1,6] Qava) Qavb
def Qa91:SC:=sR [vJ 1 0,zJ 2 0] [1] Qavc
abbrev Rp:List RS:=[.tmp 2]
theorem Qa84:mFn prog Pz 1 9 Qa91 Rp=true:=ZH
def Qmo:List Item:=[oJ 10 9]
def Qace:SC:=cT 10 (sR [fB 2 false] [2] .ret) .skip
def Qmp:List Item:=[mJ 4 16,sJ 3 5 18]
def Qmq:List Item:=[oJ 22 21]
def Qacf:SC:=cT 22 (sR [fB 2 false] [2] .ret) .skip
def Qmr:List Item:=[bJ 26 .add 23 25,mJ 3 26]
def Qacg:SC:=.reg (mJ 23 3::tJ 24 3 5::aJ 25 SZ [.t 24]::Qmr) [1,3,12,13,14]
def Qach:SC:=.seq (sR (tJ 19 1 1::mJ 20 4::aJ 21 RN [.t 19,.t 20]::Qmq) [1,3,5,12,13,14,22] Qacf) Qacg
def Qaci:SC:=.reg [cJ 27 .add 14 1,mJ 14 27] [1,3,12,13,14]
def Qacj:SC:=.seq (.block 1 (sR (mJ 16 14::iJ 17 3 12 14::tJ 18 3 17::eI 5 (.alloc [.int .i64 0,.int .i64 0,.sl true 5 []])::Qmp) [1,3,4,5,12,13,14] Qach)) Qaci
def Q19:SC:=sR [bJ 15 .lss 14 13] [1,3,12,13,14,15] (cX 15 0 Qacj)
def Q6y:SC:=sR [mJ 28 3,cJ 29 .leq 28 800,mJ 2 29] [2] .ret
def Q6z:SC:=.seq (sR [fJ 11 0 1,lJ 12 11,nJ 13 12,zJ 14 0] [1,3,12,13,14] (bL 0 Q19)) Q6y
def Q60:SC:=sR [zJ 3 0] [1,3] Q6z
def Q61:SC:=.seq (sR (fJ 6 0 1::lJ 7 6::nJ 8 7::aJ 9 B3 [.t 8,kI 1,kI 4]::Qmo) [1,10] Qace) Q60
def Qaoc:SC:=sR [vJ 1 0,fB 2 false] [1] Q61
abbrev S0:List RS:=[.tmp 2]
theorem Qanm:mFn prog PL 1 30 Qaoc S0=true:=ZH
def Sw:List Item:=[pF 14 7 13,mJ 4 14]
def Sv:List Item:=mJ 7 6::gTm 8 7 1::gTf 9 7 0 2::gTl 10 7 9::gT 11 7 (.len (.t 10))::gT 12 7 (.bin 0 .sub (.t 11) (kI 1))::.e (some 13) (some (7,true)) (.call B3 [.t 8,kI 0,.t 12])::Sw
def Qavh:SC:=sR (tJ 5 1 2::aJ 6 PL [.t 5]::Sv) [4] .ret
def Qa93:SC:=sR [vJ 2 0,fB 4 false] [1,2] Qavh
abbrev Rn:List RS:=[.tmp 4]
theorem Qa86:mFn prog Py 2 15 Qa93 Rn=true:=ZH
def Qms:List Item:=[sJ 5 5 12]
def Qack:SC:=.reg [mJ 13 3,fJ 14 0 5,lJ 15 14,nJ 16 15,fJ 17 1 5,lJ 18 17,nJ 19 18,bJ 20 .add 16 19,bJ 21 .add 13 20,mJ 3 21] [3,7,8,9]
def Qacl:SC:=.reg [cJ 22 .add 9 1,mJ 9 22] [3,7,8,9]
def Qacm:SC:=.seq (.block 1 (sR (iJ 11 5 7 9::tJ 12 5 11::eI 5 (.alloc [.sl true 2 [],.sl true 4 [],.int .i64 0,.int .i64 0,.sl true 1 []])::Qms) [3,5,7,8,9] Qack)) Qacl
def Q62:SC:=sR [bJ 10 .lss 9 8] [3,7,8,9,10] (cX 10 0 Qacm)
def Qacn:SC:=sR [mJ 23 3,mJ 2 23] [2] .ret
def Qaco:SC:=.seq (sR [fJ 6 2 1,lJ 7 6,nJ 8 7,zJ 9 0] [3,7,8,9] (bL 0 Q62)) Qacn
def Qacp:SC:=sR [zJ 3 0] [1,3] Qaco
def Qaod:SC:=sR [vJ 1 0,zJ 2 0] [1] Qacp
abbrev Qw5:List RS:=[.tmp 2]
theorem Qann:mFn prog SZ 1 24 Qaod Qw5=true:=ZH
def Qxm:List Item:=[sJ 3 5 16]
def PG:List Item:=[gF 35 30 (.not (.t 34)),pT 36 30 35]
def PF:List Item:=gF 28 21 (.not (.t 27))::pT 29 21 28::mJ 30 29::gFf 31 30 2 5::gFl 32 30 31::gF 33 30 (.len (.t 32))::.e (some 34) (some (30,false)) (.call B3 [.t 33,kI 1,kI 160])::PG
def Ss:List Item:=oJ 20 19::mJ 21 20::gFf 22 21 0 5::gFl 23 21 22::gFf 24 21 1 5::gFl 25 21 24::gF 26 21 (.mn (kI 3) (.t 25))::.e (some 27) (some (21,false)) (.call B3 [.t 23,kI 0,.t 26])::PF
def s_im_codeOk_4:SC:=cT 36 (sR [fB 4 false] [4] .ret) .skip
def Qxn:List Item:=[sJ 1 6 37]
def Qxo:List Item:=[mJ 7 43,sJ 5 8 45]
def Hw:List Item:=[gF 69 65 (.not (.t 68)),gFm 70 65 69,gTf 71 70 3 8,gTl 72 70 71,gT 73 70 (.bin 0 .neq (.t 72) (kI 0)),gF 74 65 (.pick (.t 70) (.t 73) (.k (.c (.bool false)))),pT 75 65 74]
def Hv:List Item:=gT 62 57 (.not (.t 61))::gF 63 53 (.pick (.t 57) (.t 62) (.k (.c (.bool false))))::pT 64 53 63::mJ 65 64::gFf 66 65 2 8::gFl 67 65 66::.e (some 68) (some (65,false)) (.call Eo [.t 67])::Hw
def PE:List Item:=gFm 57 53 56::gTl 58 57 6::gTf 59 57 3 8::gTl 60 57 59::.e (some 61) (some (57,true)) (.bB (.t 58) [.t 60])::Hv
def SN:List Item:=hJ 47 46::.chk 48 none (.len (.t 47))::bJ 52 .neq 48 51::mJ 53 52::gFf 54 53 2 8::gFl 55 53 54::.e (some 56) (some (53,false)) (.call Eo [.t 55])::PE
def s_im_codeOk_11:SC:=cT 75 (sR [fB 4 false] [4] .ret) .skip
def SM:List Item:=[pT 85 80 84]
def SL:List Item:=mJ 80 79::gFf 81 80 1 8::gFl 82 80 81::gF 83 80 (.mkf SX [.t 2,.t 3])::.e (some 84) (some (80,false)) (.call TG [.t 82,.t 83])::SM
def s_im_codeOk_14:SC:=cT 85 (sR [fB 4 false] [4] .ret) .skip
def Qtf:List Item:=[nJ 89 88,mJ 9 89]
def Qtg:List Item:=[sJ 2 11 96]
def HA:List Item:=[pT 118 113 117]
def Hz:List Item:=gF 104 99 (.not (.t 103))::pT 105 99 104::mJ 106 105::gFf 107 106 1 11::gFl 108 106 107::gF 109 106 (.len (.t 108))::gFm 110 106 9::gF 111 106 (.bin 0 .neq (.t 109) (.t 110))::pT 112 106 111::mJ 113 112::gFf 114 113 1 11::gFl 115 113 114::gF 116 113 (.mkf SW [.t 6])::.e (some 117) (some (113,false)) (.call EH [.t 115,.t 116])::HA
def Qxi:SC:=cT 118 (sR [fB 4 false] [4] .ret) .skip
def Qaoe:SC:=sR (mJ 97 7::cJ 98 .eql 97 0::mJ 99 98::gFl 100 99 6::gFf 101 99 0 11::gFl 102 99 101::.e (some 103) (some (99,false)) (.bB (.t 100) [.t 102])::Hz) [2,3,5,6,7,9,39,40,41,91,92,93,118] Qxi
def Qxj:SC:=.reg [cJ 119 .add 93 1,mJ 93 119] [2,3,5,6,7,9,39,40,41,91,92,93]
def Qaof:SC:=.seq (.block 3 (sR (iJ 95 2 91 93::tJ 96 2 95::eI 11 (.alloc [.int .i64 0,.sl true 1 []])::Qtg) [2,3,5,6,7,9,11,39,40,41,91,92,93] Qaoe)) Qxj
def Qahr:SC:=sR [bJ 94 .lss 93 92] [2,3,5,6,7,9,39,40,41,91,92,93,94] (cX 94 2 Qaof)
def Qaog:SC:=sR [fJ 90 0 8,lJ 91 90,nJ 92 91,zJ 93 0] [2,3,5,6,7,9,39,40,41,91,92,93] (bL 2 Qahr)
def Su:SC:=sR (tJ 86 3 5::mJ 87 7::aJ 88 G0 [.t 86,.t 87]::Qtf) [2,3,5,6,7,8,9,39,40,41] Qaog
def Qxk:SC:=.seq (sR (fJ 76 4 8::lJ 77 76::fI 78 (.mkf SY [.t 5])::aJ 79 EH [.t 77,.t 78]::SL) [2,3,5,6,7,8,39,40,41,85] s_im_codeOk_14) Su
def Qaoh:SC:=.seq (.seq (.a7 30 [0,1,2,3,4,5,1,2,6,7,8,9,10,11,12,13,14,15,16,17,18,19,20,21,22,23,24,25,26,27,28,29] ( fJ 46 4 8::lJ 47 46::nJ 48 47::fJ 49 2 8::lJ 50 49::aJ 51 SU [.t 50]::SN) [2,3,5,6,7,8,39,40,41,75]) s_im_codeOk_11) Qxk
def Qaoi:SC:=.reg [cJ 120 .add 41 1,mJ 41 120] [2,3,5,6,39,40,41]
def Qaoj:SC:=.seq (.block 1 (sR (mJ 43 41::iJ 44 5 39 41::tJ 45 5 44::eI 8 (.alloc [.sl true 2 [],.sl true 4 [],.int .i64 0,.int .i64 0,.sl true 1 []])::Qxo) [2,3,5,6,7,8,39,40,41] Qaoh)) Qaoi
def Qahs:SC:=sR [bJ 42 .lss 41 40] [2,3,5,6,39,40,41,42] (cX 42 0 Qaoj)
def Qaok:SC:=sR [fB 4 true] [4] .ret
def Qaol:SC:=.seq (sR [fJ 38 2 5,lJ 39 38,nJ 40 39,zJ 41 0] [2,3,5,6,39,40,41] (bL 0 Qahs)) Qaok
def Qxl:SC:=sR (fI 37 (.mkf Cj [.t 5])::eI 6 (.alloc [.fnil])::Qxn) [2,3,5,6] Qaol
def Qaom:SC:=.seq (sR (fJ 17 1 5::lJ 18 17::aJ 19 B3 [.t 18,kI 0,kI 300]::Ss) [2,3,5,36] s_im_codeOk_4) Qxl
def Qaon:SC:=sR (fJ 12 0 2::lJ 13 12::lJ 14 3::iJ 15 3 13 14::tJ 16 3 15::eI 5 (.alloc [.int .i64 0,.int .i64 0,.sl true 5 []])::Qxm) [2,3,5] Qaom
def Qa94:SC:=sR [vJ 2 0,vJ 3 1,fB 4 false] [2,3] Qaon
abbrev Hl:List RS:=[.tmp 4]
theorem Qa87:mFn prog RN 2 121 Qa94 Hl=true:=ZH
def Qmt:List Item:=[mJ 3 8]
def Qacq:SC:=sR (mJ 4 0::fJ 5 1 1::lJ 6 5::cJ 7 .sub 6 1::aJ 8 B3 [.t 4,kI 0,.t 7]::Qmt) [3] .ret
def Qaoo:SC:=sR [fB 3 false] [0,1] Qacq
abbrev Qw6:List RS:=[.tmp 3]
theorem Qano:mFn prog Cj 2 9 Qaoo Qw6=true:=ZH
def Qmu:List Item:=[oJ 10 9,mJ 3 10]
def Qacr:SC:=sR (mJ 4 0::fJ 5 2 1::lJ 6 5::nJ 7 6::cJ 8 .sub 7 1::aJ 9 B3 [.t 4,kI 1,.t 8]::Qmu) [3] .ret
def Qaop:SC:=sR [fB 3 false] [0,1] Qacr
abbrev Qw7:List RS:=[.tmp 3]
theorem Qanp:mFn prog SY 2 11 Qaop Qw7=true:=ZH
def Qmv:List Item:=[oJ 9 8,mJ 4 9]
def Qacs:SC:=sR (tJ 5 1 1::lJ 6 2::tJ 7 4 3::aJ 8 Rw [.t 5,.t 6,.t 7]::Qmv) [4] .ret
def Qaoq:SC:=sR [vJ 3 0,fB 4 false] [1,2,3] Qacs
abbrev Qw8:List RS:=[.tmp 4]
theorem Qanq:mFn prog SX 3 10 Qaoq Qw8=true:=ZH
def Qmw:List Item:=[oJ 7 6,mJ 3 7]
def Qact:SC:=sR (lJ 4 1::mJ 5 0::eI 6 (.bB (.t 4) [.t 5])::Qmw) [3] .ret
def Qaor:SC:=sR [fB 3 false] [0,1] Qact
abbrev Qw9:List RS:=[.tmp 3]
theorem Qanr:mFn prog SW 2 8 Qaor Qw9=true:=ZH
def Qao4:SC:=cT 6 .skip (.reg [cJ 10 .eql 3 13,mJ 6 10] [6])
def Qao5:SC:=cT 6 .skip (sR [cJ 9 .eql 3 11,mJ 6 9] [3,6] Qao4)
def Qao6:SC:=cT 6 .skip (sR [cJ 8 .eql 3 10,mJ 6 8] [3,6] Qao5)
def Qxv:SC:=cT 6 (sR [zJ 2 1] [2] .ret) .skip
def Qao7:SC:=cT 4 (sR [zJ 2 0] [2] .ret) (.seq (sR [cJ 7 .eql 3 2,mJ 6 7] [3,6] Qao6) Qxv)
def Qao8:SC:=.block 0 (sR [cJ 5 .eql 3 1,mJ 4 5] [3,4] Qao7)
def Qxw:SC:=sR [zJ 2 2] [2] .ret
def Qao9:SC:=.seq (sR [mJ 3 0] [3] Qao8) Qxw
def Qa1d:SC:=sR [zJ 2 0] [0] Qao9
abbrev P0:List RS:=[.tmp 2]
theorem Qa0c:mFn prog Sf 1 11 Qa1d P0=true:=ZH
def Q2d:List Item:=[sJ 3 7 13]
def Q2e:List Item:=[sJ 1 8 14]
def RX:List Item:=[pT 24 19 23]
def Q2f:List Item:=oJ 18 17::mJ 19 18::gFf 20 19 2 5::gFl 21 19 20::gF 22 19 (.mkf SA [.t 8])::.e (some 23) (some (19,false)) (.call EH [.t 21,.t 22])::RX
def s_im_insOk_4:SC:=cT 24 (sR [fB 6 false] [6] .ret) .skip
def P8:List Item:=[gF 39 35 (.not (.t 38)),gFm 40 35 39,gTf 41 40 1 5,gTl 42 40 41,gT 43 40 (.bin 0 .neq (.t 42) (kI (-1))),gF 44 35 (.pick (.t 40) (.t 43) (.k (.c (.bool false)))),pT 45 35 44]
def P7:List Item:=gT 33 28 (.not (.t 32))::pF 34 28 33::mJ 35 34::gFf 36 35 0 5::gFl 37 35 36::.e (some 38) (some (35,false)) (.call Hh [.t 37])::P8
def RV:List Item:=mJ 28 27::gTl 29 28 8::gTf 30 28 1 5::gTl 31 28 30::.e (some 32) (some (28,true)) (.bB (.t 29) [.t 31])::P7
def s_im_insOk_8:SC:=cT 45 (sR [fB 6 false] [6] .ret) .skip
def RU:List Item:=[pF 58 54 57,mJ 6 58]
def PD:List Item:=[mJ 66 65,gTf 67 66 2 5,gTl 68 66 67,gT 69 66 (.len (.t 68)),gTf 70 66 0 3,gTl 71 66 70,gTf 72 66 3 5,gTl 73 66 72,gT 74 66 (.iad 3 (.t 71) (.t 73)),gTf 75 66 0 74,gTl 76 66 75,gT 77 66 (.bin 0 .eql (.t 69) (.t 76)),pF 78 66 77,mJ 6 78]
def Qavn:SC:=cT 59 (.seq (.a7 19 [0,1,2,3,4,5,6,7,8,9,10,11,12,13,14,15,16,17,18] ( fJ 61 3 5::lJ 62 61::mJ 63 1::cJ 64 .sub 63 1::aJ 65 B3 [.t 62,kI 0,.t 64]::PD) [6]) .ret) .skip
def Qavo:SC:=cT 48 (sR (fJ 50 2 5::lJ 51 50::nJ 52 51::cJ 53 .eql 52 0::mJ 54 53::gTf 55 54 3 5::gTl 56 54 55::.e (some 57) (some (54,true)) (.call RG [.t 56])::RU) [6] .ret) (sR [cJ 60 .eql 47 14,mJ 59 60] [1,3,5,59] Qavn)
def Qavp:SC:=.block 0 (sR [cJ 49 .eql 47 1,mJ 48 49] [1,3,5,47,48] Qavo)
def Sr:List Item:=[.chk 84 (some (82,true)) (.ld 1 false (.t 83)),.chk 85 (some (82,true)) (.len (.t 84)),gT 89 82 (.bin 0 .eql (.t 85) (.t 88)),pF 90 82 89,mJ 6 90]
def Qavq:SC:=.seq (.a7 13 [0,1,2,3,4,5,6,7,8,9,5,6,10,11,12] ( fJ 79 3 5::lJ 80 79::cJ 81 .eql 80 0::mJ 82 81::gTf 83 82 2 5::gTl 84 82 83::gT 85 82 (.len (.t 84))::gTf 86 82 0 5::gTl 87 82 86::.e (some 88) (some (82,true)) (.call Sf [.t 87])::Sr) [6]) .ret
def Q2b:SC:=.seq (sR [fJ 46 0 5,lJ 47 46] [1,3,5,47] Qavp) Qavq
def Q2c:SC:=.seq (sR (fJ 25 0 5::lJ 26 25::aJ 27 Hh [.t 26]::RV) [1,3,5,45] s_im_insOk_8) Q2b
def Qavr:SC:=.seq (sR (fJ 15 0 5::lJ 16 15::aJ 17 Pm [.t 16]::Q2f) [1,3,5,8,24] s_im_insOk_4) Q2c
def Qavs:SC:=sR (fI 14 (.mkf Ht [.t 7])::eI 8 (.alloc [.fnil])::Q2e) [1,3,5,8] Qavr
def Qavt:SC:=sR (fJ 9 0 3::lJ 10 9::mJ 11 1::iJ 12 3 10 11::tJ 13 3 12::eI 7 (.alloc [.int .i64 0,.int .i64 0,.sl true 5 []])::Q2d) [1,3,5,7] Qavs
def Qbjg:SC:=sR [vJ 3 0,vJ 5 2,fB 6 false] [1,3,5] Qavt
abbrev GW:List RS:=[.tmp 6]
theorem Qbim:mFn prog Rw 3 91 Qbjg GW=true:=ZH
def Qph:List Item:=[mJ 3 8]
def Qahw:SC:=sR (mJ 4 0::fJ 5 1 1::lJ 6 5::cJ 7 .sub 6 1::aJ 8 B3 [.t 4,kI 0,.t 7]::Qph) [3] .ret
def Qavu:SC:=sR [fB 3 false] [0,1] Qahw
abbrev Q1s:List RS:=[.tmp 3]
theorem Qaun:mFn prog Ht 2 9 Qavu Q1s=true:=ZH
def Qpi:List Item:=[oJ 7 6,mJ 3 7]
def Qahx:SC:=sR (lJ 4 1::mJ 5 0::eI 6 (.bB (.t 4) [.t 5])::Qpi) [3] .ret
def Qavv:SC:=sR [fB 3 false] [0,1] Qahx
abbrev Q1t:List RS:=[.tmp 3]
theorem Qauo:mFn prog SA 2 8 Qavv Q1t=true:=ZH
def Qxx:List Item:=[mJ 2 4]
def Qavw:SC:=sR (mJ 3 0::aJ 4 B3 [.t 3,kI 0,kI 255]::Qxx) [2] .ret
def Qa96:SC:=sR [fB 2 false] [0] Qavw
abbrev MF:List RS:=[.tmp 2]
theorem Qa89:mFn prog RG 1 5 Qa96 MF=true:=ZH
def Q2g:List Item:=[mJ 2 4]
def Qa1e:SC:=sR (mJ 3 0::aJ 4 B3 [.t 3,kI 1,kI 14]::Q2g) [2] .ret
def Qbjh:SC:=sR [fB 2 false] [0] Qa1e
abbrev K9:List RS:=[.tmp 2]
theorem Qbin:mFn prog Pm 1 5 Qbjh K9=true:=ZH
def Qxy:List Item:=[mJ 3 16]
def Qxz:List Item:=.chk 10 none (.ld 3 true (.t 1))::fI 15 (.bld [.int .i64 0,.int .i64 0,.sl true 5 [],.sl true 1 [],.sl true 1 []] [(0,3,.t 10),(3,1,.t 14)])::eI 16 (.boxm (.t 15))::Qxy
def Qx0:List Item:=[kJ 33 23,fJ 34 4 33,sJ 1 34 32]
def Qx1:List Item:=hJ 27 26::fI 31 (.aH 1 [.t 30])::xJ 32 1 27 31::Qx0
def Qavx:SC:=.a7 13 [0,1,2,3,4,5,6,7,4,8,9,10,11,12] ( mJ 23 3::mJ 24 3::kJ 25 24::fJ 26 4 25::lJ 27 26::tJ 28 3 1::mJ 29 4::aJ 30 G0 [.t 28,.t 29]::Qx1) [1,3,19,20]
def Qavy:SC:=.reg [cJ 35 .add 20 1,mJ 20 35] [1,3,19,20]
def Qavz:SC:=.seq (.block 1 (sR [mJ 22 20,mJ 4 22] [1,3,4,19,20] Qavx)) Qavy
def Qapo:SC:=sR [bJ 21 .lss 20 19] [1,3,19,20,21] (cX 21 0 Qavz)
def Qx2:List Item:=[mJ 7 47]
def Qx3:List Item:=[sJ 2 9 58]
def Qapa:SC:=.reg [mJ 59 7,fJ 60 0 9,lJ 61 60,.e none none (.del 0 (.t 59) (.t 61))] [1,3,5,6,7,53,54,55]
def Qapb:SC:=.reg [cJ 62 .add 55 1,mJ 55 62] [1,3,5,6,7,53,54,55]
def Qapc:SC:=.seq (.block 7 (sR (iJ 57 2 53 55::tJ 58 2 57::eI 9 (.alloc [.int .i64 0,.sl true 1 []])::Qx3) [1,3,5,6,7,9,53,54,55] Qapa)) Qapb
def Qahy:SC:=sR [bJ 56 .lss 55 54] [1,3,5,6,7,53,54,55,56] (cX 56 6 Qapc)
def Qtj:List Item:=[fB 5 true]
def Qapd:SC:=cT 73 (.reg (mJ 74 3::kJ 75 74::fJ 76 3 75::lJ 77 76::mJ 78 6::mJ 79 7::iJ 80 1 77 78::sJ 1 80 79::Qtj) [1,3,5,6]) .skip
def Qape:SC:=.seq (.a7 11 [0,1,2,3,4,5,6,7,8,9,10] ( mJ 63 7::fI 64 (.lenm (.t 63))::mJ 65 3::kJ 66 65::fJ 67 3 66::lJ 68 67::mJ 69 6::iJ 70 1 68 69::lJ 71 70::fI 72 (.lenm (.t 71))::bJ 73 .neq 64 72::[]) [1,3,5,6,7,73]) Qapd
def Qapf:SC:=.seq (sR [fJ 48 2 1,lJ 49 48,mJ 50 6,iJ 51 5 49 50,fJ 52 0 51,lJ 53 52,nJ 54 53,zJ 55 0] [1,3,5,6,7,53,54,55] (bL 6 Qahy)) Qape
def Qapg:SC:=.reg [mJ 43 6,cJ 44 .sub 43 1,mJ 6 44] [1,3,5,6]
def Qaph:SC:=.seq (.block 5 (sR (mJ 45 3::mJ 46 6::aJ 47 To [.t 45,.t 46,kI (-1)]::Qx2) [1,3,5,6,7] Qapf)) Qapg
def Qahz:SC:=.seq (sR [mJ 41 6,cJ 42 .geq 41 0] [1,3,5,6,42] (cT 42 .skip (.exit 4))) Qaph
def Qapi:SC:=sR [fJ 37 2 1,lJ 38 37,nJ 39 38,cJ 40 .sub 39 1,mJ 6 40] [1,3,5,6] (bL 4 Qahz)
def Qapj:SC:=.block 3 (sR [fB 5 false] [1,3,5] Qapi)
def Qah0:SC:=.seq (sR [mJ 36 5] [1,3,36] (cT 36 .skip (.exit 2))) Qapj
def Qapk:SC:=sR [mJ 81 3,mJ 2 81] [2] .ret
def Qapl:SC:=.seq (sR [fB 5 true] [1,3,5] (bL 2 Qah0)) Qapk
def Qapm:SC:=.seq (sR [fJ 17 2 1,lJ 18 17,nJ 19 18,zJ 20 0] [1,3,19,20] (bL 0 Qapo)) Qapl
def Qapn:SC:=.seq (.a7 8 [0,1,2,3,4,0,5,6,7] ( tJ 10 3 1::fJ 11 2 1::lJ 12 11::nJ 13 12::eI 14 (.mks 1 [.mnil] (.t 13))::Qxz) [1,3]) Qapm
def Qa97:SC:=sR [vJ 1 0,fI 2 (.mv (.k (.c .pnil)))] [1] Qapn
abbrev ME:List RS:=[.tmp 2]
theorem Qa9a:mFn prog RF 1 82 Qa97 ME=true:=ZH
def Qiv:List Item:=[mJ 7 13]
def Qiw:List Item:=[sJ 5 8 21]
def Q2h:SC:=cT 24 (.reg [mJ 25 7,fJ 26 3 8,lJ 27 26,.e none none (.upd 0 (.t 25) (.t 27) (.k (.c (.bool true))))] [2,7,8]) .skip
def Qix:List Item:=[mJ 10 42]
def Q2i:SC:=cT 44 (.reg [mJ 45 7,mJ 46 10,.e none none (.del 0 (.t 45) (.t 46))] [2,7,8,9]) .skip
def Q2j:SC:=sR [mJ 43 10,cJ 44 .geq 43 0] [2,7,8,9,10,44] Q2i
def Q2k:SC:=.reg [mJ 47 7,fJ 48 1 8,lJ 49 48,mJ 50 9,iJ 51 4 49 50,fJ 52 2 51,lJ 53 52,aJ 54 Tn [.t 47,.t 53]] [2,7,8,9]
def Q2l:SC:=.reg [mJ 35 9,cJ 36 .sub 35 1,mJ 9 36] [2,7,8,9]
def Q2m:SC:=.seq (.block 1 (.seq (sR (fJ 37 1 8::lJ 38 37::mJ 39 9::iJ 40 4 38 39::tJ 41 4 40::aJ 42 Pz [.t 41]::Qix) [2,7,8,9,10] Q2j) Q2k)) Q2l
def Qzy:SC:=.seq (sR [mJ 32 9,mJ 33 2,bJ 34 .gtr 32 33] [2,7,8,9,34] (cT 34 .skip (.exit 0))) Q2m
def Qzt:SC:=sR [mJ 55 7,mJ 6 55] [6] .ret
def Qzu:SC:=.seq (sR [fJ 28 1 8,lJ 29 28,nJ 30 29,cJ 31 .sub 30 1,mJ 9 31] [2,7,8,9] (bL 0 Qzy)) Qzt
def Qzv:SC:=.seq (sR [fJ 22 2 8,lJ 23 22,aJ 24 Eo [.t 23]] [2,7,8,24] Q2h) Qzu
def Qzw:SC:=sR (mJ 14 0::kJ 15 14::fJ 16 0 15::fJ 17 2 16::lJ 18 17::mJ 19 1::iJ 20 5 18 19::tJ 21 5 20::eI 8 (.alloc [.sl true 2 [],.sl true 4 [],.int .i64 0,.int .i64 0,.sl true 1 []])::Qiw) [2,7,8] Qzv
def Qzx:SC:=sR (mJ 11 0::mJ 12 1::aJ 13 SV [.t 11,.t 12]::Qiv) [0,1,2,7] Qzw
def Qacu:SC:=sR [fI 6 (.mv (.k (.c .mnil)))] [0,1,2] Qzx
abbrev Qo8:List RS:=[.tmp 6]
theorem Qab3:mFn prog To 3 56 Qacu Qo8=true:=ZH
def Qmx:List Item:=[mJ 5 12]
def Qmy:List Item:=[nJ 23 22,zJ 24 0]
def PO:List Item:=[fI 37 (.ext (.t 36) 0)]
def Qmz:List Item:=[fI 39 (.ext (.t 38) 0),mJ 8 39]
def Qacv:SC:=.reg [mJ 40 5,mJ 41 8,.e none none (.upd 0 (.t 40) (.t 41) (.k (.c (.bool true))))] [0,1,5,7,22,23,24,35]
def Qacw:SC:=.block 3 (sR (eI 38 (.ent (.t 35))::Qmz) [0,1,5,7,8,22,23,24,35] Qacv)
def Q7e:SC:=sR (eI 36 (.nxt (.t 35))::PO) [0,1,5,7,22,23,24,35,37] (cX 37 2 Qacw)
def Qm0:List Item:=[mJ 9 50]
def Qm1:List Item:=[sJ 2 11 64]
def Qacx:SC:=.reg [mJ 65 5,fJ 66 1 11,lJ 67 66,mJ 68 9,iJ 69 1 67 68,lJ 70 69,.e none none (.upd 0 (.t 65) (.t 70) (.k (.c (.bool true))))] [0,1,5,9,22,23,24,59,60,61]
def Q64:SC:=.reg [cJ 71 .add 61 1,mJ 61 71] [0,1,5,9,22,23,24,59,60,61]
def Q65:SC:=.seq (.block 5 (sR (iJ 63 2 59 61::tJ 64 2 63::eI 11 (.alloc [.int .i64 0,.sl true 1 []])::Qm1) [0,1,5,9,11,22,23,24,59,60,61] Qacx)) Q64
def Q2n:SC:=sR [bJ 62 .lss 61 60] [0,1,5,9,22,23,24,59,60,61,62] (cX 62 4 Q65)
def Q66:SC:=sR [mJ 51 0,kJ 52 51,fJ 53 0 52,fJ 54 2 53,lJ 55 54,mJ 56 7,iJ 57 5 55 56,fJ 58 0 57,lJ 59 58,nJ 60 59,zJ 61 0] [0,1,5,9,22,23,24,59,60,61] (bL 4 Q2n)
def Q67:SC:=sR (mJ 42 0::kJ 43 42::fJ 44 4 43::lJ 45 44::mJ 46 7::iJ 47 1 45 46::lJ 48 47::mJ 49 1::aJ 50 Pp [.t 48,.t 49]::Qm0) [0,1,5,7,9,22,23,24] Q66
def Q68:SC:=.seq (sR [mJ 28 0,kJ 29 28,fJ 30 3 29,lJ 31 30,mJ 32 7,iJ 33 1 31 32,lJ 34 33,eI 35 (.rng (.t 34))] [0,1,5,7,22,23,24,35] (bL 2 Q7e)) Q67
def Q69:SC:=.reg [cJ 72 .add 24 1,mJ 24 72] [0,1,5,22,23,24]
def Q7a:SC:=.seq (.block 1 (sR [iJ 26 1 22 24,lJ 27 26,mJ 7 27] [0,1,5,7,22,23,24] Q68)) Q69
def Q2o:SC:=sR [bJ 25 .lss 24 23] [0,1,5,22,23,24,25] (cX 25 0 Q7a)
def Q7b:SC:=sR [mJ 73 5,mJ 4 73] [4] .ret
def Q7c:SC:=.seq (sR (mJ 13 0::kJ 14 13::fJ 15 0 14::fJ 16 2 15::lJ 17 16::mJ 18 1::iJ 19 5 17 18::fJ 20 4 19::lJ 21 20::aJ 22 OZ [.t 21]::Qmy) [0,1,5,22,23,24] (bL 0 Q2o)) Q7b
def Q7d:SC:=sR (eI 12 (.mkm)::Qmx) [0,1,5] Q7c
def Qapp:SC:=sR [fI 4 (.mv (.k (.c .mnil)))] [0,1] Q7d
abbrev Qxa:List RS:=[.tmp 4]
theorem Qans:mFn prog SV 2 74 Qapp Qxa=true:=ZH
def Qdk:List Item:=[mJ 5 19]
def Qdl:List Item:=fI 18 (.aH 1 [.t 17])::xJ 19 1 14 18::Qdk
def Qln:SC:=.reg (mJ 14 5::mJ 15 1::mJ 16 7::eI 17 (.bB (.t 15) [.t 16])::Qdl) [1,5,8,9,10]
def Qlo:SC:=.reg [cJ 20 .add 10 1,mJ 10 20] [1,5,8,9,10]
def Qlp:SC:=.seq (.block 1 (sR [iJ 12 1 8 10,lJ 13 12,mJ 7 13] [1,5,7,8,9,10] Qln)) Qlo
def Qjt:SC:=sR [bJ 11 .lss 10 9] [1,5,8,9,10,11] (cX 11 0 Qlp)
def Qlq:SC:=sR [mJ 21 5,mJ 4 21] [4] .ret
def Qlr:SC:=.seq (sR [mJ 8 0,nJ 9 8,zJ 10 0] [1,5,8,9,10] (bL 0 Qjt)) Qlq
def Qls:SC:=sR [fI 5 (.mv (.k (.c (.sl true 1 []))))] [0,1,5] Qlr
def Qol:SC:=sR [fI 4 (.mv (.k (.c (.sl true 1 []))))] [0,1] Qls
abbrev Qe6:List RS:=[.tmp 4]
theorem Qn7:mFn prog TK 2 22 Qol Qe6=true:=ZH
def Qacy:SC:=cT 8 (sR [zJ 2 0] [2] .ret) .skip
def Qacz:SC:=cT 6 (sR [zJ 2 2] [2] .ret) (sR [cJ 9 .eql 3 3,mJ 8 9] [8] Qacy)
def Qac0:SC:=cT 4 (sR [zJ 2 1] [2] .ret) (sR [cJ 7 .eql 3 2,mJ 6 7] [3,6] Qacz)
def Qac1:SC:=.block 0 (sR [cJ 5 .eql 3 1,mJ 4 5] [3,4] Qac0)
def Qac2:SC:=sR [zJ 2 (-1)] [2] .ret
def Qac3:SC:=.seq (sR [mJ 3 0] [3] Qac1) Qac2
def Qapq:SC:=sR [zJ 2 0] [0] Qac3
abbrev Sz:List RS:=[.tmp 2]
theorem Qant:mFn prog SU 1 10 Qapq Sz=true:=ZH
def Q2q:SC:=.reg [mJ 13 0,mJ 14 6,.e none none (.upd 0 (.t 13) (.t 14) (.k (.c (.bool true))))] [0,7,8,9]
def Q2r:SC:=.reg [cJ 15 .add 9 1,mJ 9 15] [0,7,8,9]
def Q2s:SC:=.seq (.block 1 (sR [iJ 11 1 7 9,lJ 12 11,mJ 6 12] [0,6,7,8,9] Q2q)) Q2r
def Qz0:SC:=sR [bJ 10 .lss 9 8] [0,7,8,9,10] (cX 10 0 Q2s)
def Q2t:SC:=sR [mJ 16 0,mJ 4 16] [4] .ret
def Q2u:SC:=.seq (sR [mJ 7 1,nJ 8 7,zJ 9 0] [0,7,8,9] (bL 0 Qz0)) Q2t
def Qadh:SC:=sR [fI 4 (.mv (.k (.c .mnil)))] [0,1] Q2u
abbrev Qo9:List RS:=[.tmp 4]
theorem Qab4:mFn prog Tn 2 17 Qadh Qo9=true:=ZH
def Q84:List Item:=[mJ 5 4,gTm 6 5 0,gT 7 5 (.bin 0 .neq (.t 6) (kI 12)),pF 8 5 7,mJ 9 8,gTm 10 9 0,gT 11 9 (.bin 0 .neq (.t 10) (kI 13)),pF 12 9 11,mJ 2 12]
def Qbab:SC:=sR (mJ 3 0::aJ 4 Pm [.t 3]::Q84) [2] .ret
def Qbox:SC:=sR [fB 2 false] [0] Qbab
abbrev O6:List RS:=[.tmp 2]
theorem Qbnl:mFn prog Hh 1 13 Qbox O6=true:=ZH
def Qav5:SC:=sR [mJ 3 0,cJ 4 .eql 3 2,mJ 5 4,gFm 6 5 0,gF 7 5 (.bin 0 .eql (.t 6) (kI 3)),pT 8 5 7,mJ 2 8] [2] .ret
def Qbad:SC:=sR [fB 2 false] [0] Qav5
abbrev MC:List RS:=[.tmp 2]
theorem Qa9c:mFn prog Eo 1 9 Qbad MC=true:=ZH
def Qyd:List Item:=[mJ 9 20]
def Qye:List Item:=[sJ 5 10 25]
def Qaw1:SC:=cT 28 (.reg [mJ 29 9,fJ 30 3 10,lJ 31 30,iJ 32 1 29 31,.e none none (.sto 1 (.t 32) (.k (.c (.bool true))))] [3,9,10]) .skip
def Qyf:List Item:=[mJ 12 47]
def Qaw2:SC:=cT 49 (.reg [mJ 50 9,mJ 51 12,iJ 52 1 50 51,.e none none (.sto 1 (.t 52) (.k (.c (.bool false))))] [3,9,10,11]) .skip
def Qaw3:SC:=.reg [mJ 62 13,cJ 63 .add 62 1,mJ 13 63] [3,9,10,11,13]
def Qaw4:SC:=.seq (.block 3 (.reg [mJ 64 9,fJ 65 1 10,lJ 66 65,mJ 67 11,iJ 68 4 66 67,fJ 69 2 68,lJ 70 69,mJ 71 13,iJ 72 1 70 71,lJ 73 72,iJ 74 1 64 73,.e none none (.sto 1 (.t 74) (.k (.c (.bool true))))] [3,9,10,11,13])) Qaw3
def Qaqc:SC:=.seq (sR [mJ 53 13,fJ 54 1 10,lJ 55 54,mJ 56 11,iJ 57 4 55 56,fJ 58 2 57,lJ 59 58,nJ 60 59,bJ 61 .lss 53 60] [3,9,10,11,13,61] (cT 61 .skip (.exit 2))) Qaw4
def Qaw5:SC:=sR [zJ 13 0] [3,9,10,11,13] (bL 2 Qaqc)
def Qaw6:SC:=.seq (sR [mJ 48 12,cJ 49 .geq 48 0] [3,9,10,11,12,49] Qaw2) Qaw5
def Qap5:SC:=.reg [mJ 40 11,cJ 41 .sub 40 1,mJ 11 41] [3,9,10,11]
def Qap6:SC:=.seq (.block 1 (sR (fJ 42 1 10::lJ 43 42::mJ 44 11::iJ 45 4 43 44::tJ 46 4 45::aJ 47 P4 [.t 46]::Qyf) [3,9,10,11,12] Qaw6)) Qap5
def Qaid:SC:=.seq (sR [mJ 37 11,mJ 38 3,bJ 39 .gtr 37 38] [3,9,10,11,39] (cT 39 .skip (.exit 0))) Qap6
def Qap7:SC:=sR [mJ 75 9,mJ 8 75] [8] .ret
def Qap8:SC:=.seq (sR [fJ 33 1 10,lJ 34 33,nJ 35 34,cJ 36 .sub 35 1,mJ 11 36] [3,9,10,11] (bL 0 Qaid)) Qap7
def Qap9:SC:=.seq (sR [fJ 26 2 10,lJ 27 26,cJ 28 .neq 27 1] [3,9,10,28] Qaw1) Qap8
def Qaqa:SC:=sR (fJ 21 2 4::lJ 22 21::mJ 23 2::iJ 24 5 22 23::tJ 25 5 24::eI 10 (.alloc [.sl true 2 [],.sl true 4 [],.int .i64 0,.int .i64 0,.sl true 1 []])::Qye) [3,9,10] Qap9
def Qaqb:SC:=sR (fI 14 (.aH 1 [])::fJ 15 1 5::lJ 16 15::mJ 17 2::iJ 18 1 16 17::lJ 19 18::xJ 20 1 14 19::Qyd) [2,3,4,9] Qaqa
def Qbbe:SC:=sR [vJ 4 0,vJ 5 1,fI 8 (.mv (.k (.c (.sl true 1 []))))] [2,3,4,5] Qaqb
abbrev MP:List RS:=[.tmp 8]
theorem Qa9g:mFn prog RC 4 76 Qbbe MP=true:=ZH
def Q9z:List Item:=[mJ 9 20]
def Q90:List Item:=[mJ 10 25]
def Q91:List Item:=mJ 24 2::aJ 25 FY [.t 23,.t 24]::Q90
def Qbbf:SC:=.reg [mJ 35 11,cJ 36 .add 35 1,mJ 11 36] [2,3,4,5,9,10,11]
def Qbbg:SC:=.seq (.block 1 (.reg [mJ 37 9,fJ 38 2 4,lJ 39 38,mJ 40 3,iJ 41 5 39 40,fJ 42 0 41,lJ 43 42,mJ 44 11,iJ 45 2 43 44,fJ 46 1 45,lJ 47 46,mJ 48 10,iJ 49 1 47 48,lJ 50 49,iJ 51 1 37 50,.e none none (.sto 1 (.t 51) (.k (.c (.bool true))))] [2,3,4,5,9,10,11])) Qbbf
def Qa32:SC:=.seq (sR [mJ 26 11,fJ 27 2 4,lJ 28 27,mJ 29 3,iJ 30 5 28 29,fJ 31 0 30,lJ 32 31,nJ 33 32,bJ 34 .lss 26 33] [2,3,4,5,9,10,11,34] (cT 34 .skip (.exit 0))) Qbbg
def M5:SC:=.reg [fJ 74 1 5,lJ 75 74,mJ 76 2,iJ 77 1 75 76,lJ 78 77,mJ 79 13,iJ 80 1 78 79,.e none none (.sto 1 (.t 80) (.k (.c (.bool true))))] [2,4,5,9,12,13]
def Qbbh:SC:=cT 61 (sR [mJ 62 12,mJ 63 62,gFf 64 63 1 5,gFl 65 63 64,gFm 66 63 2,gF 67 63 (.iad 1 (.t 65) (.t 66)),gFl 68 63 67,gFm 69 63 13,gF 70 63 (.iad 1 (.t 68) (.t 69)),gFl 71 63 70,gF 72 63 (.not (.t 71)),pT 73 63 72,mJ 12 73] [2,4,5,9,12,13] M5) .skip
def Qbbi:SC:=.reg [mJ 56 13,cJ 57 .add 56 1,mJ 13 57] [2,4,5,9,12,13]
def Qbbj:SC:=.seq (.block 3 (sR [mJ 58 9,mJ 59 13,iJ 60 1 58 59,lJ 61 60] [2,4,5,9,12,13,61] Qbbh)) Qbbi
def Qaw7:SC:=.seq (sR [mJ 52 13,fJ 53 1 4,lJ 54 53,bJ 55 .lss 52 54] [2,4,5,9,12,13,55] (cT 55 .skip (.exit 2))) Qbbj
def Qa3w:SC:=sR [mJ 81 12,mJ 8 81] [8] .ret
def Qa3x:SC:=.seq (sR [zJ 13 0] [2,4,5,9,12,13] (bL 2 Qaw7)) Qa3w
def Qa3y:SC:=sR [fB 12 false] [2,4,5,9,12] Qa3x
def Qa3z:SC:=.seq (sR [zJ 11 0] [2,3,4,5,9,10,11] (bL 0 Qa32)) Qa3y
def Qa30:SC:=sR (tJ 21 3 4::mJ 22 3::aJ 23 Cv [.t 21,.t 22]::Q91) [2,3,4,5,9,10] Qa3z
def Qa31:SC:=sR (fI 14 (.aH 1 [])::fJ 15 0 5::lJ 16 15::mJ 17 3::iJ 18 1 16 17::lJ 19 18::xJ 20 1 14 19::Q9z) [2,3,4,5,9] Qa30
def Qbpc:SC:=sR [vJ 4 0,vJ 5 1,fB 8 false] [2,3,4,5] Qa31
abbrev Oz:List RS:=[.tmp 8]
theorem Qbnv:mFn prog Q54 4 82 Qbpc Oz=true:=ZH
def Q92:List Item:=[sJ 2 3 12]
def Q93:List Item:=[fJ 28 0 3,sJ 1 28 27]
def Q94:List Item:=hJ 22 21::fI 26 (.aH 1 [.t 25])::xJ 27 1 22 26::Q93
def Q95:List Item:=[fJ 36 1 3,sJ 1 36 35]
def Q96:List Item:=hJ 30 29::fI 34 (.aH 1 [.t 33])::xJ 35 1 30 34::Q95
def Qbbk:SC:=.a7 9 [0,1,2,3,4,1,5,6,7,8] ( fJ 29 1 3::lJ 30 29::fJ 31 1 1::lJ 32 31::eI 33 (.mks 1 [.bool false] (.t 32))::Q96) [1,2,3,4,5]
def Qbbl:SC:=.reg [mJ 19 5,cJ 20 .add 19 1,mJ 5 20] [1,2,3,4,5]
def Qbbm:SC:=.seq (.block 1 (.seq (.a7 9 [0,1,2,3,4,1,5,6,7,8] ( fJ 21 0 3::lJ 22 21::fJ 23 1 1::lJ 24 23::eI 25 (.mks 1 [.bool false] (.t 24))::Q94) [1,2,3,4,5]) Qbbk)) Qbbl
def Qa4m:SC:=.seq (sR [mJ 16 5,mJ 17 4,bJ 18 .lss 16 17] [1,2,3,4,5,18] (cT 18 .skip (.exit 0))) Qbbm
def R4:List Item:=[mJ 68 67,gFm 69 68 6,pT 70 68 69,mJ 6 70]
def Qa33:SC:=.reg [mJ 53 8,cJ 54 .add 53 1,mJ 8 54] [1,2,3,4,6,7,8]
def Qa34:SC:=.seq (.block 7 (.a7 17 [0,1,2,3,4,5,6,7,8,9,10,11,12,13,14,15,16] ( tJ 55 3 1::tJ 56 2 3::mJ 57 7::fJ 58 2 1::lJ 59 58::mJ 60 7::iJ 61 5 59 60::fJ 62 4 61::lJ 63 62::mJ 64 8::iJ 65 1 63 64::lJ 66 65::aJ 67 Q54 [.t 55,.t 56,.t 57,.t 66]::R4) [1,2,3,4,6,7,8])) Qa33
def Qaw8:SC:=.seq (sR [mJ 44 8,fJ 45 2 1,lJ 46 45,mJ 47 7,iJ 48 5 46 47,fJ 49 4 48,lJ 50 49,nJ 51 50,bJ 52 .lss 44 51] [1,2,3,4,6,7,8,52] (cT 52 .skip (.exit 6))) Qa34
def Q3z:List Item:=[mJ 9 74]
def Qa35:SC:=.reg [mJ 84 10,cJ 85 .add 84 1,mJ 10 85] [1,2,3,4,6,7,9,10]
def Qa36:SC:=.seq (.block 9 (.reg [mJ 86 9,fJ 87 2 1,lJ 88 87,mJ 89 7,iJ 90 5 88 89,fJ 91 0 90,lJ 92 91,mJ 93 10,iJ 94 2 92 93,fJ 95 0 94,lJ 96 95,iJ 97 1 86 96,.e none none (.sto 1 (.t 97) (.k (.c (.bool false))))] [1,2,3,4,6,7,9,10])) Qa35
def Qaw9:SC:=.seq (sR [mJ 75 10,fJ 76 2 1,lJ 77 76,mJ 78 7,iJ 79 5 77 78,fJ 80 0 79,lJ 81 80,nJ 82 81,bJ 83 .lss 75 82] [1,2,3,4,6,7,9,10,83] (cT 83 .skip (.exit 8))) Qa36
def Qa37:SC:=.reg [mJ 102 11,cJ 103 .add 102 1,mJ 11 103] [1,2,3,4,6,7,9,11]
def Qa38:SC:=.seq (.block 11 (.a7 17 [0,1,2,3,4,5,6,7,8,9,10,11,12,13,14,15,16] ( mJ 104 6::mJ 105 104::gFm 106 105 9::gFm 107 105 11::gF 108 105 (.iad 1 (.t 106) (.t 107))::gFl 109 105 108::gFf 110 105 0 3::gFl 111 105 110::gFm 112 105 7::gF 113 105 (.iad 1 (.t 111) (.t 112))::gFl 114 105 113::gFm 115 105 11::gF 116 105 (.iad 1 (.t 114) (.t 115))::gFl 117 105 116::gF 118 105 (.bin 1 .neq (.t 109) (.t 117))::pT 119 105 118::mJ 6 119::[]) [1,2,3,4,6,7,9,11])) Qa37
def Qaxa:SC:=.seq (sR [mJ 98 11,fJ 99 1 1,lJ 100 99,bJ 101 .lss 98 100] [1,2,3,4,6,7,9,11,101] (cT 101 .skip (.exit 10))) Qa38
def Qa39:SC:=.reg [fJ 120 0 3,lJ 121 120,mJ 122 7,mJ 123 9,iJ 124 1 121 122,sJ 1 124 123] [1,2,3,4,6,7]
def Qa4a:SC:=.seq (sR [zJ 11 0] [1,2,3,4,6,7,9,11] (bL 10 Qaxa)) Qa39
def Qa4b:SC:=.seq (sR [zJ 10 0] [1,2,3,4,6,7,9,10] (bL 8 Qaw9)) Qa4a
def Qa4c:SC:=sR (tJ 71 3 1::tJ 72 2 3::mJ 73 7::aJ 74 RC [.t 71,.t 72,.t 73,kI (-1)]::Q3z) [1,2,3,4,6,7,9] Qa4b
def Qa4d:SC:=.reg [mJ 42 7,cJ 43 .sub 42 1,mJ 7 43] [1,2,3,4,6,7]
def Qa4e:SC:=.seq (.block 5 (.seq (sR [zJ 8 0] [1,2,3,4,6,7,8] (bL 6 Qaw8)) Qa4c)) Qa4d
def Qaxb:SC:=.seq (sR [mJ 40 7,cJ 41 .geq 40 0] [1,2,3,4,6,7,41] (cT 41 .skip (.exit 4))) Qa4e
def Qa4f:SC:=sR [mJ 38 4,cJ 39 .sub 38 1,mJ 7 39] [1,2,3,4,6,7] (bL 4 Qaxb)
def Qa4g:SC:=.block 3 (sR [fB 6 false] [1,2,3,4,6] Qa4f)
def Qaxc:SC:=.seq (sR [mJ 37 6] [1,2,3,4,37] (cT 37 .skip (.exit 2))) Qa4g
def Qa4h:SC:=sR [tJ 125 2 3,sJ 2 2 125] [2] .ret
def Qa4i:SC:=.seq (sR [fB 6 true] [1,2,3,4,6] (bL 2 Qaxc)) Qa4h
def Qa4j:SC:=.seq (sR [zJ 5 0] [1,2,3,4,5] (bL 0 Qa4m)) Qa4i
def Qa4k:SC:=sR [fJ 13 2 1,lJ 14 13,nJ 15 14,mJ 4 15] [1,2,3,4] Qa4j
def Qa4l:SC:=sR (fI 12 (.bld [.sl true 1 [],.sl true 1 []] [])::eI 3 (.alloc [.sl true 1 [],.sl true 1 []])::Q92) [1,2,3] Qa4k
def Qbpd:SC:=sR [vJ 1 0,eI 2 (.alloc [.sl true 1 [],.sl true 1 []])] [1,2] Qa4l
abbrev Oy:List RS:=[.cell 2 2 true]
theorem Qbnw:mFn prog OW 1 126 Qbpd Oy=true:=ZH
def Qeq:List Item:=[cJ 8 .geq 7 0,mJ 4 8]
def Qot:SC:=sR (mJ 5 0::mJ 6 1::aJ 7 T5 [.t 5,.t 6]::Qeq) [4] .ret
def Qu2:SC:=sR [fB 4 false] [0,1] Qot
abbrev Qgk:List RS:=[.tmp 4]
theorem Qst:mFn prog TG 2 9 Qu2 Qgk=true:=ZH
def Qwo:SC:=cT 16 (sR [mJ 17 5,mJ 4 17] [4] .ret) .skip
def Qwp:SC:=sR [mJ 11 1,mJ 12 0,mJ 13 5,iJ 14 4 12 13,tJ 15 4 14,eI 16 (.bB (.t 11) [.t 15])] [0,1,5,7,8,16] Qwo
def Qwq:SC:=.reg [cJ 18 .add 8 1,mJ 8 18] [0,1,7,8]
def Qwr:SC:=.seq (.block 1 (sR [mJ 10 8,mJ 5 10] [0,1,5,7,8] Qwp)) Qwq
def Qu9:SC:=sR [bJ 9 .lss 8 7] [0,1,7,8,9] (cX 9 0 Qwr)
def Qws:SC:=sR [zJ 4 (-1)] [4] .ret
def Qwt:SC:=.seq (sR [mJ 6 0,nJ 7 6,zJ 8 0] [0,1,7,8] (bL 0 Qu9)) Qws
def Q5f:SC:=sR [zJ 4 0] [0,1] Qwt
abbrev Tr:List RS:=[.tmp 4]
theorem Q1p:mFn prog T5 2 19 Q5f Tr=true:=ZH
def Qay1:SC:=cT 5 (sR [fJ 6 1 1,lJ 7 6,mJ 2 7] [2] .ret) .skip
def Qay2:SC:=sR [zJ 2 (-1)] [2] .ret
def Qay3:SC:=.seq (sR [fJ 3 0 1,lJ 4 3,aJ 5 Eh [.t 4]] [1,5] Qay1) Qay2
def Qbfz:SC:=sR [vJ 1 0,zJ 2 0] [1] Qay3
abbrev Rj:List RS:=[.tmp 2]
theorem Qa9o:mFn prog P4 1 8 Qbfz Rj=true:=ZH
end Go.AE.Y
attribute [go_sem_proc] reduceIte reduceEqDiff reduceAdd reduceLeDiff reduceLT reduceCtorEq
namespace Go.AE.Y
open Go.Proofs.Tryz
theorem Ab:prog.follows .mixedOrders=true:=ZH
theorem VZ (l : Nat) (fl : Bool) (bs : List UInt8) (k : Nat) (n : Int) (H : Heap) (K : V -> Heap -> Prop)
   (hH : H l = .st [.sl fl 1 (Bb bs), .int .i64 k]) (bX : k <= 2^40)
   (hK : ∀ v : Int, (if n < 1 then v = 0 else 0 <= v /\ v < n) -> K (.c (.int .i64 v)) (H.set l (.st [.sl fl 1 (Bb bs), .int .i64 ((k + 1 : Nat) : Int)]))) :
   Qv prog Qr [.c (.ptr l 0), .c (.int .i64 n)] H K := by
  refine Qc Ab Qa0d ?_;refine Qa ?_;simp only [go_sem, Nat.reduceEqDiff, Nat.reduceAdd];refine Qa ?_;simp only [go_sem, Nat.reduceEqDiff, Nat.reduceAdd, Nat.reduceLT, hH];refine ⟨Qo, λH2 sO => ?_⟩;have sP : H2 l = .st [C.sl fl 1 (Bb bs), C.int IntKind.i64 (k + 1)] := by rw [sO]; exact Heap.aC _ _ _
  have xj : ∀ v : Int, (if n < 1 then v = 0 else 0 <= v /\ v < n) -> K (.c (.int .i64 v)) H2 := by
    intro v hv; rw [sO]; exact hK v hv
  clear hK;refine Q3 (Qa ?_);simp only [go_sem, C8, Nat.reduceEqDiff, Nat.reduceAdd, Nat.reduceLeDiff, sP];intro _;refine Wv ?_ ?_
  · intro hc;refine Qa ?_;simp only [go_sem, Nat.reduceEqDiff];refine Qk ?_;simp only [go_sem, Q4, Aa, Pv, Ja, forall_eq, RS.op];refine xj 0 ?_;split <;> omega
  · intro hc;refine Qh ?_;simp only [go_sem];have hn : 1 <= n /\ bs.length ≠ 0 := by
      simp only [cond_eq_ite] at hc;split at hc
      · simp at hc
      · simp at hc; simp_all
    refine Qa ?_;simp only [go_sem, Nat.reduceEqDiff, Nat.reduceAdd, sP];refine ⟨Qo, ?_⟩;refine Q3 (Qa ?_);simp only [go_sem, C8, Nat.reduceEqDiff, Nat.reduceAdd, Nat.reduceLeDiff, sP];intro hl;refine Wv ?_ ?_
    · intro ao;have hk : k < bs.length := ZI;refine Qa ?_;simp only [go_sem, C8, IL, Nat.reduceEqDiff, Nat.reduceAdd, Nat.reduceLeDiff, sP, hk, Q8p];refine ⟨ZD, ?_⟩;refine Qk ?_;simp only [go_sem, Q4, Aa, Pv, Ja, forall_eq, RS.op];refine xj _ ?_;rw [if_neg ZD];exact ⟨J3 _ ZD, Jz _ ZD⟩
    · intro ao;refine Qh ?_;simp only [go_sem];refine Aj ?_;have e1 : ((k : Int).tmod (bs.length : Int)) = ((k % bs.length : Nat) : Int) := rfl;have e2 : (((k : Int) * 7 + 3).tmod (bs.length : Int)) = (((k * 7 + 3) % bs.length : Nat) : Int) := rfl;have h1 : k % bs.length < bs.length := Nat.mod_lt _ ZD;have h2 : (k * 7 + 3) % bs.length < bs.length := Nat.mod_lt _ ZD;simp only [go_sem, C8, IL, Nat.reduceEqDiff, Nat.reduceAdd, Nat.reduceLeDiff, sP, e1, e2, h1, h2, Q8p];have e3 : (k : Int).tdiv (bs.length : Int) = ((k / bs.length : Nat) : Int) := rfl;have h3 : k / bs.length <= k := Nat.div_le_self _ _;rw [e3];have h4 := (bs.getD (k % bs.length) 0).toNat_lt;have h5 := (bs.getD ((k * 7 + 3) % bs.length) 0).toNat_lt;generalize (bs.getD (k % bs.length) 0).toNat = b1 at *;generalize (bs.getD ((k * 7 + 3) % bs.length) 0).toNat = b2 at *;generalize k / bs.length = d at *;clear e1 e2 h1 h2 e3;refine ⟨ZD, Qo, Qo, Qo, by omega, Qo, Qo,
        Qo, Qo, ⟨ZD, Qo⟩, Qo, Qo, ?_⟩
      have hx : 0 <= (b1 : Int) * 131 + b2 * 1117 + k * 29 + d * 53 := ZD;have dv : (b1 : Int) * 131 + b2 * 1117 + k * 29 + d * 53 < 2 ^ 62 := ZD;generalize (b1 : Int) * 131 + b2 * 1117 + k * 29 + d * 53 = x at *;refine Qa ?_;simp only [go_sem, Nat.reduceEqDiff];have hq : 0 <= x.tdiv 64 := Int.tdiv_nonneg hx ZD;have xT : x.tdiv 64 <= x := (by have := Int.tdiv_le_self (a := x) 64 hx; exact this);refine ⟨⟨ZD, Qo⟩, ?_⟩;have hy := V8 hx hq dv ZD;generalize Cd .xor .i64 x (x.tdiv 64) = y at *;refine Qa ?_;simp only [go_sem, Nat.reduceEqDiff];refine ⟨ZD, ?_⟩;refine Qk ?_;simp only [go_sem, Q4, Aa, Pv, Ja, forall_eq, RS.op];refine xj _ ?_;rw [if_neg ZD];exact ⟨J3 _ ZD, Jz _ ZD⟩
theorem Au {R:Rdr}{k:Nat}{n:Int}{H:Heap}{K:V->Heap->Prop}(hH:H R.l=R.o k)(hk:k<=2^40)
  (hK:∀(v:Int) (H':Heap),(if n<1 then v=0 else 0<=v/\v<n)->Upd H H' [(R.l,R.o (k+1))]->K (.c (.int .i64 v)) H') :
  Qv prog Qr [.c (.ptr R.l 0),.c (.int .i64 n)] H K:=
 VZ R.l R.fl R.bs k n H K hH hk λv hv=>hK v _ hv ⟨by simp[Heap.aC,Rdr.o],λm _ hm=>Heap.af _ _ (by simpa using hm)⟩
theorem Ba {R:Rdr}{k:Nat}{fl:Bool}{ns:List Int}{H:Heap}{K:V->Heap->Prop}(hH:H R.l=R.o k)(hk:k<=2^40)(dq:0<ns.length)
  (hK:∀(v:Int) (H':Heap),v∈ns->Upd H H' [(R.l,R.o (k+1))]->K (.c (.int .i64 v)) H') :
  Qv prog AT [.c (.ptr R.l 0),.c (.sl fl 1 (Qb ns))] H K:=by
 refine Qc Ab Qa9i ?_;refine Wj ?_;simp only[go_sem,Qe];intro hl;refine Au hH hk λv H' hv hu=>?_;rw[if_neg ZD]at hv;obtain⟨i,rfl⟩:=Jn hv.1;have hi:i<ns.length:=ZD
 simp only[go_sem,Qyp,Qe,Qn,hi];refine Zc ?_;refine hK _ H' ?_ hu;rw[Jb,J1 hi];exact Jc hi
theorem of_c {R:Rdr}{k:Nat}{fl:Bool}{ss:List (List UInt8)}{H:Heap}{K:V->Heap->Prop}(hH:H R.l=R.o k)(hk:k<=2^40)(dq:0<ss.length)
  (hK:∀(v:List UInt8) (H':Heap),v∈ss->Upd H H' [(R.l,R.o (k+1))]->K (.c (.str v)) H') :
  Qv prog Hm [.c (.ptr R.l 0),.c (.sl fl 1 (A5 ss))] H K:=by
 refine Qc Ab Qbiw ?_;refine Wj ?_;simp only[go_sem,Bc];intro hl;refine Au hH hk λv H' hv hu=>?_;rw[if_neg ZD]at hv;obtain⟨i,rfl⟩:=Jn hv.1;have hi:i<ss.length:=ZD
 simp only[go_sem,Q4m,Bc,Hj,hi];refine Zc ?_;refine hK _ H' ?_ hu;rw[Jb,J1 hi];exact Jc hi
theorem Qbsq {R:Rdr}{k:Nat}{fl:Bool}{ss:List (List UInt8)}{H:Heap}{K:V->Heap->Prop}(hH:H R.l=R.o k)(hk:k+2<=2^40)
  (hK:∀(x:Ex) (H':Heap) (k':Nat),k<k'->k'<=k+2->Upd H H' [(R.l,R.o k')]->x.ok->x.size=1->K (.ag x.cells) H') :
  Qv prog F3 [.c (.ptr R.l 0),.c (.sl fl 1 (A5 ss))] H K:=by
 refine Q0 ?_;refine Qc Ab Qbs6 ?_;refine Za ?_;intro x hx H1 h1;have kn:=(Kn.start1 hH (R.aj k)).al hx h1;refine Q3 (Qa ?_);simp only[go_sem,Bc];intro hl;have rest:∀(b:Bool) (H2:Heap) (k2:Nat),k<=k2->k2<=k+1->Kn H H2 [(R.l,R.o k2)] [(x,.st [.int .i64 0,.int .i64 0,.str [],.sl true 4 []])]->(b=false->0<ss.length)->
   Ad prog (s_l2Leaf_2.seq K2) (Q4 DF (unK H K)) [(0,V.c (C.ptr R.l 0)),(1,V.c (C.sl fl 1 (A5 ss))),(4,V.c (C.ptr x 0)),(12,V.c (.bool b))] H2:=by
  intro b H2 k2 gr dK kn hb;refine Wv ?_ ?_
  ·intro aU;refine Za ?_;refine Ba (ns:=[0,1,2,3,5,7,15,16,100,255]) (kn.e 0 rfl) ZD ZF λv H3 hv hu=>?_;have kn:=kn.am 0 rfl hu (R.aj _);have aF:=kn.l 0 rfl;simp only[go_sem,Mr,aF];intro H4 h4;have kn:=kn.aB 0 rfl h4;have bO:=kn.l 0 rfl;refine Zj bO ?_;refine⟨_,(Ex.mk 1 v [] []).frz,hK _ _ (k2+1) ZD ZD kn.fin ?_ ?_⟩
   ·simp[Ex.ok,A9]
   ·simp[Ex.size,As]
  ·intro aU;refine Zd ?_;refine Za ?_;refine of_c (kn.e 0 rfl) ZD (hb aU) λv H3 hv hu=>?_;have kn:=kn.am 0 rfl hu (R.aj _);have aF:=kn.l 0 rfl;simp only[go_sem,Mq,aF];intro H4 h4;have kn:=kn.aB 0 rfl h4;have bO:=kn.l 0 rfl;refine Zj bO ?_;refine⟨_,(Ex.mk 2 0 v []).frz,hK _ _ (k2+1) ZD ZD kn.fin ?_ ?_⟩
   ·simp[Ex.ok,A9]
   ·simp[Ex.size,As]
 refine⟨λhb=>?_,λhb=>?_⟩
 ·refine Au (kn.e 0 rfl) ZD λv H2 hv hu=>?_;have kn:=kn.am 0 rfl hu (R.aj _);simp only[go_sem,Q0s];refine rest _ H2 (k+1) ZD ZD kn ?_;intro h;have:¬ss.length=0:=ZW
  omega
 ·have cI:decide ((ss.length:Int)=0)=true:=ZW
  simp only[go_sem,Q0s,cI];exact rest true H1 k ZD ZD kn (λh=>ZK)
variable {H:Heap}{K:V->Heap->Prop}
theorem AW {n lo hi:Int}(hK:K (.c (.bool (decide (lo<=n/\n<=hi)))) H):Qv prog AM [.c (.int .i64 n),.c (.int .i64 lo),.c (.int .i64 hi)] H K:=by
 refine Qc Ab VI ?_;refine Wd ?_;refine Zc ?_;have:(bif decide (lo<=n)then decide (n<=hi)else false)=decide (lo<=n/\n<=hi):=by
  by_cases h:lo<=n <;> simp[h]
 rw[this];exact hK
theorem Qbne {b:Bool}(hK:K (.c (.int .i64 (if b then 1 else 0))) H):Qv prog Q6b [.c (.bool b)] H K:=by
 refine Qc Ab Qbn7 ?_;refine Wf ?_;refine Wv ?_ ?_
 ·intro hc;subst hc;refine Wr ?_;exact hK
 ·intro hc;subst hc;refine Zd ?_;refine Wr ?_;exact hK
theorem Qbnb {s:List UInt8}{b:UInt8}(hK:∀n:Int,K (.c (.int .i64 n)) H):Qv prog Q59 [.c (.str s),.c (.int .u8 b.toNat)] H K:=by
 refine Qc Ab Qbn3 ?_;refine Wf ?_;refine Qg (Qd (Qs (λn e1 H1=>∃i:Nat,n=s.length-i/\i<=s.length/\H1=H/\e1=[(0,.c (.str s)),(1,.c (.int .u8 b.toNat)),(5,.c (.int .i64 i))]) s.length ?_ ?_))
 ·exact⟨0,ZD,ZD,rfl,rfl⟩
 ·rintro n e1 H1 ⟨i,hn,hi,rfl,rfl⟩;refine Wa ?_;intro hl;simp only[LIM]at hl;refine Wv ?_ ?_
  ·intro hc;have ae:i<s.length:=ZG
   refine Wb ?_;refine Zh ae ?_;refine Ww ?_ ?_
   ·intro ao;refine Za ?_;refine Zm ?_;exact hK _
   ·intro ao;refine Wl ?_;exact⟨Qo,s.length-(i+1),ZD,i+1,rfl,ZD,rfl⟩
  ·intro hc;refine Wn ?_;exact hK _
theorem Qbm9 {b:UInt8}(hK:∀n:Int,K (.c (.int .i64 n)) H):Qv prog Q58 [.c (.int .u8 b.toNat)] H K:=by
 refine Qc Ab Qbn1 ?_;refine Za ?_;refine Wm ?_;refine Ww ?_ ?_
 ·intro hc;refine Wr ?_;exact hK _
 intro hc;refine Za ?_;refine Ww ?_ ?_
 ·intro hc;refine Wr ?_;exact hK _
 intro hc;refine Za ?_;refine Qbnb λn=>?_;simp only[go_sem,N9];refine Ww ?_ ?_
 ·intro hc;refine Wr ?_;exact hK _
 intro hc;refine Za ?_;refine Ww ?_ ?_
 ·intro hc;refine Wr ?_;exact hK _
 intro hc;refine Zd ?_;refine Wr ?_;exact hK _
theorem Xy {s:List UInt8}{k:Int}(hK:∀b:Bool,K (.c (.bool b)) H):Qv prog EY [.c (.str s),.c (.int .i64 k)] H K:=by
 refine Qc Ab XQ ?_;refine Wf ?_;refine Qg (Qd (Qs (λn e1 H1=>∃i:Nat,n=s.length-i/\i<=s.length/\H1=H/\e1=[(0,.c (.str s)),(1,.c (.int .i64 k)),(5,.c (.int .i64 i))]) s.length ?_ ?_))
 ·exact⟨0,ZD,ZD,rfl,rfl⟩
 ·rintro n e1 H1 ⟨i,hn,hi,rfl,rfl⟩;refine Wa ?_;intro hl;simp only[LIM]at hl;refine Wv ?_ ?_
  ·intro hc;have ae:i<s.length:=ZG
   refine Wb ?_;refine Zh ae ?_;refine Qbm9 λcl=>?_;simp only[go_sem,K6];refine Ww ?_ ?_
   ·intro ao;refine Za ?_;refine Zm ?_;exact hK _
   ·intro ao;refine Wl ?_;exact⟨Qo,s.length-(i+1),ZD,i+1,rfl,ZD,rfl⟩
  ·intro hc;refine Wc ?_;intro _;refine Zc ?_;exact hK _
theorem Qbho (hK:∀ss:List (List UInt8),K (.c (.sl true 1 (A5 ss))) H):Qv prog S5 [] H K:=by
 refine Qc Ab Qau0 ?_;refine Wd ?_;refine Zc ?_;exact hK [[102,110],[108,101,116],[115,97,121],[112,117,116],[105,102],[101,108,115,101],[108,111,111,112],[98,97,99,107],[100,111]]
theorem Xx {s:List UInt8}(hK:∀b:Bool,K (.c (.bool b)) H):Qv prog EX [.c (.str s)] H K:=by
 refine Qc Ab Xl ?_;refine Wd ?_;refine Qbho λss=>?_;simp only[go_sem,K5];refine Wa ?_;refine Qg (Qd (Qs (λn e1 H1=>∃i:Nat,n=ss.length-i/\i<=ss.length/\H1=H/\e1=[(0,.c (.str s)),(3,.c (.sl true 1 (A5 ss))),(4,.c (.int .i64 i))]) ss.length ?_ ?_))
 ·exact⟨0,ZD,ZD,rfl,rfl⟩
 ·rintro n e1 H1 ⟨i,hn,hi,rfl,rfl⟩;refine Q3 (Qa ?_);simp only[go_sem,Bc];intro hl;simp only[LIM]at hl;refine Wv ?_ ?_
  ·intro hc;have ae:i<ss.length:=ZG
   refine Wq ?_;simp only[go_sem,ae,Bc,Hj _ _ ae];refine Ww ?_ ?_
   ·intro ao;refine Za ?_;refine Zm ?_;exact hK _
   ·intro ao;refine Wl ?_;exact⟨Qo,ss.length-(i+1),ZD,i+1,rfl,ZD,rfl⟩
  ·intro hc;refine Wn ?_;exact hK _
theorem DB {s:List UInt8}(hK:∀b:Bool,K (.c (.bool b)) H):Qv prog Gy [.c (.str s)] H K:=by
 refine Qc Ab Qa9n ?_;refine Wd ?_;refine Xy λb=>?_;simp only[go_sem,Qy2];intro hl;refine⟨λhb=>?_,λhb=>?_⟩
 ·refine Xx λb2=>?_;simp only[go_sem,Sn];refine Zc ?_;exact hK _
 ·simp only[go_sem,Sn,hb];refine Zc ?_;exact hK _
theorem Qbsp {op:Int}(hK:∀a b:Int,K (.tup [.c (.int .i64 a),.c (.int .i64 b)]) H):Qv prog F4 [.c (.int .i64 op)] H K:=by
 refine Qc Ab Qbs5 ?_;refine Wf ?_;have ret:∀(a b:Int) (e:Env),lk 2 e=.c (.int .i64 a)->lk 3 e=.c (.int .i64 b)->Q4 OK K .ret e H:=by
  intro a b e h1 h2;simp only[go_sem,Q4,Aa,List.forall_mem_cons,RS.op,h1,h2];exact hK _ _
 refine Qg (Qd ?_);refine Wa ?_;have r5:∀(b:Bool),Ad prog K3 (X.inBlock 0 (X.sq prog Q7w (Q4 OK K))) [(4,.c (.int .i64 op)),(5,.c (.bool b))] H:=by
  intro b;refine Ww ?_ ?_
  ·intro hc;refine We ?_;exact ret 0 0 _ ZE ZE
  intro hc;refine Wa ?_;have r8:∀(b:Bool),Ad prog K4 (X.inBlock 0 (X.sq prog Q7w (Q4 OK K))) [(4,.c (.int .i64 op)),(8,.c (.bool b))] H:=by
   intro b;refine Ww ?_ ?_
   ·intro hc;refine We ?_;exact ret 1 1 _ ZE ZE
   intro hc;refine Za ?_;refine Ww ?_ ?_
   ·intro hc;refine We ?_;exact ret 0 3 _ ZE ZE
   ·intro hc;refine Zd ?_;refine Za ?_;refine Qk ?_;exact ret 2 2 _ ZE ZE
  refine Wv ?_ ?_
  ·intro hc;refine Zd ?_;exact r8 _
  ·intro hc;refine Zi ?_;exact r8 _
 refine Wv ?_ ?_
 ·intro hc;refine Zd ?_;exact r5 _
 ·intro hc;refine Zi ?_;exact r5 _
theorem Qbsr {op:Int}(hK:K (.c (.int .i64 (if op=4 then 2 else 1))) H):Qv prog F2 [.c (.int .i64 op)] H K:=by
 refine Qc Ab Qbs7 ?_;refine Wf ?_;refine Wv ?_ ?_
 ·intro hc;refine Wr ?_;rw[if_pos ZG]at hK;exact hK
 ·intro hc;refine Zd ?_;refine Wr ?_;rw[if_neg ZG]at hK;exact hK
end Go.AE.Y
namespace Go.AE
open Go.AE.Y
open Go.Proofs.Tryz
variable {H:Heap}{K:V->Heap->Prop}
theorem Slc.keep {H':Heap}{sz:Nat}{rows:List (List C)}{b:C}{E L:List (Nat×Obj)}(h:Slc H sz rows b)(kn:Kn H H' E L)(hE:∀l a c d,b=.ah l a c d->l∉E.map Prod.fst):Slc H' sz rows b:=by
 obtain⟨h1,h2,h3,h4⟩:=h
 cases b with
 |sl fl z rs=>exact⟨trivial,h2,h3,h4⟩
 |ah l z st n=>
  simp only[Go.AE.aZ]at h1
  cases ho:H l with
  |vec y rs=>
   have:=kn.chg l (by rw[ho];simp) (hE l z st n rfl);refine⟨?_,h2,?_,h4⟩
   ·simp only[Go.AE.aZ,this];exact h1
   ·simp only[Go.AE.rowsOf,this];exact h3
  |_=>rw[ho]at h1;exact h1.elim
 |_=>exact h1.elim
theorem Slc.keep0 {H':Heap}{sz:Nat}{rows:List (List C)}{b:C}{L:List (Nat×Obj)}(h:Slc H sz rows b)(kn:Kn H H' [] L):Slc H' sz rows b:=h.keep kn ZF
end Go.AE
namespace Go.AE.Y
open Go.Proofs.Tryz
variable {H:Heap}{K:V->Heap->Prop}
def Qz (nx:Nat->List Int)(b:Int)(n:Nat):List Int:=((List.range n).filter λi=>(nx i).contains b).map Int.ofNat
theorem P3 (nx:Nat->List Int)(b:Int)(n:Nat):Qz nx b (n+1)=Qz nx b n++if (nx n).contains b then [(n:Int)]else []:=by
 simp only[Qz,List.range_succ,List.filter_append,Ju];congr 1;cases h:(nx n).contains b
 ·simp only[J8,h,Jab];rfl
 ·simp only[J8,h,Jab,if_true];rfl
theorem Ct (nx:Nat->List Int)(b:Int)(n:Nat):(Qz nx b n).length<=n:=by
 simp only[Qz,Jk];exact Nat.le_trans (List.length_filter_le _ _) ZF
set_option maxHeartbeats 1000000 in
theorem Qbik {p rg:Int}{bc:C}{rows:List (List C)}{nx:Nat->List Int}{b:Int}(hs:Slc H 5 rows bc)(bM:bc.ai=false)
  (hx:∀i,i<rows.length->∃a1 a2 a3 a4 a5,rows.getD i []=[a1,a2,a3,a4,a5]/\a5.ai=false/\Slc H 1 (Qb (nx i)) a5)
  (hK:∀H',Upd H H' []->K (.c (.sl false 1 (Qb (Qz nx b rows.length)))) H'):Qv prog Cv [.ag [.int .i64 p,.int .i64 rg,bc],.c (.int .i64 b)] H K:=by
 refine Q0 ?_;refine Qc Ab Qboa ?_;refine Wd ?_;refine Wa ?_;have ak:=hs.len;have gY:=hs.sz;refine Qg (Qd (Qs (λn e1 H1=>∃(i:Nat) (c:C) (Lg:List (Nat×Obj)),n=rows.length-i/\i<=rows.length/\Gr Lg 1 (Qb (Qz nx b i)) c/\Kn H H1 [] ([]++Lg)/\
  e1=[(1,.c (.int .i64 b)),(2,.c (.pp [.int .i64 p,.int .i64 rg,bc])),(5,.c c),(6,.c (.int .i64 i))]) rows.length ?_ ?_))
 ·exact⟨0,_,[],ZD,ZD,.nil 1,Kn.ar H,rfl⟩
 ·rintro n e1 H1 ⟨i,c,Lg,dz,hi,aq,kn,rfl⟩;have di:=hs.keep0 kn;have dR:=eq_true di.ok;have jt:=di.rows;refine Q3 (Qa ?_);simp only[go_sem,bM,dR,ak];intro hl;simp only[LIM]at hl;refine Wv ?_ ?_
  ·intro hc;have ae:i<rows.length:=ZG
   obtain⟨a1,a2,a3,a4,a5,a8,o5,n5⟩:=hx i ae;have n5:=n5.keep0 kn;have iL:=eq_true n5.ok;have nH:=n5.len;have uE:=n5.sz;have uH:=n5.rows;refine Zd ?_;have turn:∀(e:Env) (H2:Heap) (c':C) (Lg':List (Nat×Obj)),lk 1 e=.c (.int .i64 b)->lk 2 e=.c (.pp [.int .i64 p,.int .i64 rg,bc])->lk 5 e=.c c'->lk 6 e=.c (.int .i64 i)->
     Gr Lg' 1 (Qb (Qz nx b (i+1))) c'->Kn H H2 [] ([]++Lg')->
     Ad prog L4 (X.next (λe2 H2=>∃m,m<n/\∃(i:Nat) (c:C) (Lg:List (Nat×Obj)),m=rows.length-i/\i<=rows.length/\Gr Lg 1 (Qb (Qz nx b i)) c/\Kn H H2 [] ([]++Lg)/\
      e2=[(1,.c (.int .i64 b)),(2,.c (.pp [.int .i64 p,.int .i64 rg,bc])),(5,.c c),(6,.c (.int .i64 i))]) (X.inBlock 0 (X.sq prog L3 (Q4 Fi (unK H K))))) e H2:=by
    intro e H2 c' Lg' l1 l2 l5 l6 kY kn';refine Qp ?_;simp only[go_sem,l1,l2,l5,l6,X.next];exact⟨Qo,rows.length-(i+1),ZD,i+1,c',Lg',rfl,ZD,kY,by simpa using kn',rfl⟩
   refine Wm ?_;refine Qd (Qs (λn e1 H2=>∃(k:Nat),n=(nx i).length-k/\k<=(nx i).length/\b∉(nx i).take k/\H2=H1/\e1=[(1,.c (.int .i64 b)),(2,.c (.pp [.int .i64 p,.int .i64 rg,bc])),(5,.c c),(6,.c (.int .i64 i)),(7,.c (.int .i64 k))]) (nx i).length ?_ ?_)
   ·exact⟨0,ZD,ZD,ZF,rfl,rfl⟩
   ·rintro n e1 H2 ⟨k,mH,hk,bR,rfl,rfl⟩;refine Q3 (Qa ?_);simp only[go_sem,bM,dR,ak,gY,jt,ae,a8,o5,iL,nH,Qe];intro ft;simp only[LIM]at ft;refine Wv ?_ ?_
    ·intro hc;have aI:k<(nx i).length:=ZG;have bQ:(nx i).getD k 0=(nx i)[k]:=(by simp[Jb,aI]);refine Wq ?_;simp only[go_sem,bM,dR,ak,gY,jt,ae,a8,o5,iL,nH,uE,uH,aI,Qe,Qn _ _ aI,bQ];refine Ww ?_ ?_
     ·intro ao;have hb:(nx i)[k]=b:=ZI;have gA:(nx i).contains b=true:=(by rw[J4,<-hb];exact Jc aI);refine Za ?_;have cP:=Ct nx b i;refine kn.grow (B:=[]) (new:=Qb [(i:Int)]) aq (.mk' _ _ _ _) (Qy _) Zaz λy' H3 kn=>?_;simp only[go_sem,Nk];refine Qq ?_;have tu:((2:Nat) == 3)=false:=rfl;rw[Qbr5 tu];simp only[go_sem,X.next];refine turn _ _ _ _ ZE ZE ZL ZE ?_ kn;rw[P3,gA,if_pos rfl,CO];exact .mk _ _ _ ZF
     ·intro ao;have hb:¬(nx i)[k]=b:=ZI;refine Wl ?_;refine⟨Qo,(nx i).length-(k+1),ZD,k+1,rfl,ZD,?_,rfl⟩;rw[Jg aI];simp only[Jl,Ja,not_or];exact⟨bR,λh=>hb h.symm⟩
    ·intro hc;have aY:(nx i).length<=k:=ZG;rw[Jd aY]at bR;have gA:(nx i).contains b=false:=by
      cases jB:(nx i).contains b with
      |false=>rfl
      |true=>exact absurd (J4.1 jB) bR
     refine Zb ?_;refine turn _ _ _ _ ZE ZE ZL ZE ?_ kn;rw[P3,gA];simpa using aq
  ·intro hc;have aY:i=rows.length:=by have:rows.length<=i:=ZG;omega
   subst aY;refine Wn ?_;exact⟨_,.c _ _ (aq.frz kn (Qy _)),hK _ kn.fin⟩
theorem CY {p rg:Int}{bc:C}{rows:List (List C)}{nx:Nat->List Int}{b:Int}(hs:Slc H 5 rows bc)(bM:bc.ai=false)
  (hx:∀i,i<rows.length->∃a1 a2 a3 a4 fl,rows.getD i []=[a1,a2,a3,a4,.sl fl 1 (Qb (nx i))])
  (hK:∀H',Upd H H' []->K (.c (.sl false 1 (Qb (Qz nx b rows.length)))) H'):Qv prog Cv [.ag [.int .i64 p,.int .i64 rg,bc],.c (.int .i64 b)] H K:=
 Qbik hs bM (λi hi=>by
  obtain⟨a1,a2,a3,a4,fl,h⟩:=hx i hi;exact⟨a1,a2,a3,a4,_,h,rfl,.mk' _ _ _ _⟩) hK
def Bx (op:Int):Int:=if op=1 then 0 else if op=2\/op=10\/op=11\/op=13 then 1 else if (3<=op/\op<=9)\/op=12 then 2 else -1
theorem I8 {op:Int}(hK:K (.c (.int .i64 (Bx op))) H):Qv prog GP [.c (.int .i64 op)] H K:=by
 refine Qc Ab Qbta ?_;have retf:∀(n:Int) (e:Env),Bx op=n->lk 2 e=.c (.int .i64 n)->Q4 EO K .ret e H:=by
  intro b e h1 h3;simp only[go_sem,Q4,Aa,Ja,forall_eq,RS.op,h3];rw[<-h1];exact hK
 refine Za ?_;refine Wm ?_;refine Ww ?_ ?_
 ·intro hc;refine We ?_;exact retf 0 _ (by simp only[decide_eq_true_eq]at hc;simp[Bx,hc]) ZE
 intro bF;refine Za ?_;refine Ww ?_ ?_
 ·intro hc;refine We ?_;exact retf 1 _ (by simp at bF hc;rw[Bx,if_neg bF,if_pos (by omega)]) ZE
 intro ao;refine Za ?_;refine AW ?_;simp only[go_sem,Ml];refine Ww ?_ ?_
 ·intro hc;refine We ?_;exact retf 2 _ (by simp at bF ao hc;rw[Bx,if_neg bF,if_neg (by omega),if_pos (by omega)]) ZE
 ·intro hc;refine Zd ?_;refine Za ?_;refine Qk ?_;exact retf (-1) _ (by simp at bF ao hc;rw[Bx,if_neg bF,if_neg (by omega),if_neg (by omega)]) ZE
theorem argsN_in {op:Int}:-1<=Bx op/\Bx op<=2:=by
 rw[Bx];split
 ·omega
 ·split
  ·omega
  ·split <;> omega
theorem Qbnf {op:Int}(hK:∀n:Int,-1<=n->n<=2->K (.c (.int .i64 n)) H):Qv prog GP [.c (.int .i64 op)] H K:=I8 (hK _ argsN_in.1 argsN_in.2)
def AK (op:Int):Bool:=decide (1<=op/\op<=14)&&!decide (op=12)&&!decide (op=13)
theorem GM {op:Int}(hK:K (.c (.bool (AK op))) H):Qv prog Eh [.c (.int .i64 op)] H K:=by
 refine Qc Ab Qbn9 ?_;refine Wd ?_;refine AW ?_;simp only[go_sem,Nl];refine Zc ?_;have:∀a b c:Bool,(bif bif a then b else false then c else false)=(a&&b&&c):=ZR
 rw[this];exact hK
def Bw (rg:Int)(l:List Int):Bool:=l.all λx=>decide (0<=x/\x<=rg-1)
theorem Qbjb {rg:Int}{l:List Int}{i:Nat}(hi:i<l.length):Bw rg (l.take (i+1))=(Bw rg (l.take i)&&decide (0<=l.getD i 0/\l.getD i 0<=rg-1)):=by
 have e:l.getD i 0=l[i]:=by simp[Jb,hi]
 rw[Bw,Jg hi,Jaa,e];simp[Bw]
theorem Qbot {rg:Int}{l:List Int}{i:Nat}(hi:i<l.length)(h:decide (0<=l.getD i 0/\l.getD i 0<=rg-1)=false):Bw rg l=false:=by
 have e:l.getD i 0=l[i]:=by simp[Jb,hi]
 cases hc:Bw rg l with
 |false=>rfl
 |true=>
  rw[Bw,J7]at hc;have:=hc _ (Jc hi);rw[e]at h;rw[h]at this;exact absurd this ZF
theorem I7 {p rg:Int}{bc:C}{fl:Bool}{l:List Int}(hr:-(2^62)<=rg)(fD:rg<=2^62)(hK:K (.c (.bool (Bw rg l))) H) :
  Qv prog Rf [.ag [.int .i64 p,.int .i64 rg,bc],.c (.sl fl 1 (Qb l))] H K:=by
 refine Qc Ab Qbte ?_;have retf:∀(b:Bool) (e:Env),Bw rg l=b->lk 4 e=.c (.bool b)->Q4 EN K .ret e H:=by
  intro b e h1 h3;simp only[go_sem,Q4,Aa,Ja,forall_eq,RS.op,h3];rw[<-h1];exact hK
 refine Wf ?_;refine Qg (Qd (Qs (λn e1 H1=>∃(i:Nat),n=l.length-i/\i<=l.length/\H1=H/\Bw rg (l.take i)=true/\e1=[(1,.c (.sl fl 1 (Qb l))),(2,.c (.pp [.int .i64 p,.int .i64 rg,bc])),(5,.c (.int .i64 i))]) l.length ?_ ?_))
 ·exact⟨0,ZD,ZD,rfl,rfl,rfl⟩
 ·rintro n e1 H1 ⟨i,dz,hi,rfl,bg,rfl⟩;refine Q3 (Qa ?_);simp only[go_sem,Qe];intro hl;simp only[LIM]at hl;refine Wv ?_ ?_
  ·intro hc;have ae:i<l.length:=ZG
   refine Wb ?_;refine Aj ?_;simp only[go_sem,ae,Qe,Qn _ _ ae];refine⟨Qo,?_⟩;refine AW ?_;simp only[go_sem,Lz];refine Ww ?_ ?_
   ·intro ao;refine Wi ?_;exact retf false _ (Qbot ae (Bf ao)) ZE
   ·intro ao;refine Wl ?_;exact⟨Qo,l.length-(i+1),ZD,i+1,rfl,ZD,by rw[Qbjb ae,bg,A8 ao];rfl,rfl⟩
  ·intro hc;have aY:l.length<=i:=ZG
   rw[Jd aY]at bg;refine Wc ?_;refine Qk ?_;exact retf true _ bg ZE
def rgOf (cs:List CodeD)(k:Nat):Int:=(cs[k]?.map CodeD.ab).getD 0
def pmOf (cs:List CodeD)(k:Nat):Int:=(cs[k]?.map CodeD.params).getD 0
theorem FO {cs:List CodeD}{k:Nat}(h:k<cs.length):rgOf cs k=cs[k].ab:=by simp[rgOf,h]
theorem D2 {cs:List CodeD}{k:Nat}(h:k<cs.length):pmOf cs k=cs[k].params:=by simp[pmOf,h]
def insH (rg:Int)(x:InsD):Bool:=decide (1<=x.op/\x.op<=14)&&Bw rg x.args
def insT (rg:Int)(x:InsD):Bool:=if AK x.op then decide (0<=x.to/\x.to<=rg-1)else decide (x.to=-1)
def insL (cs:List CodeD)(k:Nat)(x:InsD):Bool:=
 if x.op=14 then decide (0<=x.n/\x.n<=(k:Int)-1)&&decide ((x.args.length:Int)=pmOf cs x.n.toNat)
 else decide ((x.args.length:Int)=Bx x.op)&&decide (0<=x.n/\x.n<=255)&&(decide (x.n=0) || decide (x.op=1))
def insG (cs:List CodeD)(k:Nat)(x:InsD):Bool:=insH (rgOf cs k) x&&insT (rgOf cs k) x&&insL cs k x
set_option maxHeartbeats 1000000 in
theorem XZ {cs:List CodeD}{fl:Bool}{k:Nat}{x:InsD}(hk:k<cs.length)(hr:0<=cs[k].ab)(fD:cs[k].ab<=300)(cB:cs.length<=100)(hK:∀(H':Heap),Upd H H' []->K (.c (.bool (insG cs k x))) H') :
  Qv prog EV [.ag [.sl fl 3 (Qw cs)],.c (.int .i64 k),.ag x.cells] H K:=by
 refine Q0 ?_;refine Qc Ab Xj ?_;refine ZA ?_;refine Qa ?_;simp only[go_sem,hk,Q6,Bd _ _ hk,CodeD.cells];intro x7 dW H1 h1;have kn:=(Kn.ar H).al dW h1;have ke:=kn.l 0 rfl;simp only[go_sem,Ky,ke];intro H2 h2;have kn:=kn.aB 0 rfl h2;have f9:=kn.l 0 rfl;have iC:=FO hk;have retf:∀(b:Bool) (e:Env),insG cs k x=b->lk 6 e=.c (.bool b)->Q4 CC (unK H K) .ret e H2:=by
  intro b e h1 h3;simp only[go_sem,Q4,Aa,Ja,forall_eq,RS.op,h3];rw[<-h1];exact⟨_,.c _ _ (Qi rfl),hK _ kn.fin⟩
 refine Wa ?_;refine AW ?_;simp only[go_sem,Kx,f9];have rest:∀(E1:Env) (b:Bool),insH cs[k].ab x=(!b)->lk 1 E1=.c (.int .i64 k)->lk 3 E1=.c (.pp [.sl fl 3 (Qw cs)])->lk 5 E1=.c (.pp [.int .i64 x.op,.int .i64 x.to,.sl false 1 (Qb x.args),.int .i64 x.n])->lk 7 E1=.c (.ptr x7 0)->lk 23 E1=.c (.bool b)->
   Ad prog (s_l7Ins_3.seq Kz) (Q4 CC (unK H K)) E1 H2:=by
  intro E1 b hb l1 l3 l5 l7 l23;refine Qg (Qf l23 ?_ ?_)
  ·intro hc;refine We ?_;exact retf false _ (by rw[insG,iC,hb,hc];rfl) ZE
  intro hc;rw[hc]at hb;refine Zd ?_;refine Q3 (Aj ?_);simp only[go_sem,l5,l7,f9];refine⟨Qo,?_⟩;refine GM ?_;simp only[go_sem,Kv,f9];refine AW ?_;simp only[go_sem,Kw,l5];have rest2:∀(E1:Env) (b:Bool),insT cs[k].ab x=(!b)->lk 1 E1=.c (.int .i64 k)->lk 3 E1=.c (.pp [.sl fl 3 (Qw cs)])->lk 5 E1=.c (.pp [.int .i64 x.op,.int .i64 x.to,.sl false 1 (Qb x.args),.int .i64 x.n])->lk 44 E1=.c (.bool b)->
    Ad prog (s_l7Ins_7.seq K0) (Q4 CC (unK H K)) E1 H2:=by
   intro E1 b cI l1 l3 l5 l44;refine Qg (Qf l44 ?_ ?_)
   ·intro hc;refine We ?_;exact retf false _ (by rw[insG,iC,cI,hc];simp) ZE
   intro hc;rw[hc]at cI;have hG:insG cs k x=insL cs k x:=by rw[insG,iC,hb,cI];rfl
   refine Zd ?_;refine Q3 (Qa ?_);simp only[go_sem,l1,l3,l5];refine Wv ?_ ?_
   ·intro hc;have bP:x.op=14:=of_decide_eq_true hc;rw[insL,if_pos bP]at hG;refine ZB ?_;refine⟨Qo,?_⟩;refine AW ?_;by_cases cV:0<=x.n/\x.n<=(k:Int)-1
    ·obtain⟨m,hm⟩:=Jn cV.1;have cF:m<cs.length:=ZD;have gx:(0<=(m:Int)/\(m:Int)<=(k:Int)-1)=True:=eq_true (by rw[<-hm];exact cV);simp only[go_sem,Pb,hm,cF,Q6,Bd _ _ cF,CodeD.cells,Qe];refine Qk ?_;refine retf _ _ ?_ ZL;rw[hG,hm,Int.toNat_natCast,D2 cF];simp only[gx,decide_true,Bool.true_and];simp[show ((m:Int)<=(k:Int)-1) from by omega]
    ·have gx:decide (0<=x.n/\x.n<=(k:Int)-1)=false:=(by simpa using cV);by_cases hm:x.n.toNat<cs.length
     ·simp only[go_sem,Pb,gx,Bd _ _ hm,CodeD.cells];refine Qk ?_;exact retf false _ (by rw[hG,gx];rfl) ZE
     ·have bQ:(Qw cs).getD x.n.toNat []=[]:=by
       rw[Jb,List.getElem?_eq_none (by rw[Q6];omega)];rfl
      simp only[go_sem,Pb,gx,bQ,List.take_nil,List.headD_nil];refine Qk ?_;exact retf false _ (by rw[hG,gx];rfl) ZE
   ·intro hc;have bP:¬x.op=14:=of_decide_eq_false hc;rw[insL,if_neg bP]at hG;refine Zd ?_;refine ZB ?_;refine I8 ?_;simp only[go_sem,L5];refine⟨λhb=>?_,λhb=>?_⟩
    ·refine AW ?_;simp only[go_sem,Q0u];refine Qk ?_;refine retf _ _ ?_ ZL;have aU:(x.args.length:Int)=Bx x.op:=(by simpa[Qe]using hb);rw[hG];simp[aU,Qe]
    ·simp only[go_sem,Q0u,hb];refine Qk ?_;refine retf _ _ ?_ ZL;have aU:¬(x.args.length:Int)=Bx x.op:=(by simpa[Qe]using hb);rw[hG];simp[aU]
  refine⟨λhb=>?_,λhb=>?_⟩
  ·refine GM ?_;simp only[go_sem,Q7z,l1,l3,l5];refine rest2 _ _ ?_ ZE ZE ZE ZL
   cases cF:AK x.op with
   |true=>simp[insT,cF]
   |false=>by_cases h:x.to=-1 <;> simp[insT,cF,h]
  ·replace hb:=A8 hb;simp only[go_sem,Q7z,l1,l3,l5,hb];refine rest2 _ true ?_ ZE ZE ZE ZE
   cases cF:AK x.op with
   |true=>simp[cF]at hb;simp[insT,cF];omega
   |false=>simp[cF]at hb;simp[insT,cF];omega
 refine⟨λhb=>?_,λhb=>?_⟩
 ·refine I7 ZD ZD ?_;simp only[go_sem,Q7y];refine rest _ _ ?_ ZE ZE ZE ZE ZL;simp[insH]
 ·replace hb:=A8 hb;simp only[go_sem,Q7y,hb];refine rest _ true ?_ ZE ZE ZE ZE ZE;rw[insH,Bf hb];rfl
theorem InsD.cK (x:InsD):x.cells.take 4=x.cells:=rfl
theorem InsD.bt (x:InsD):(x.cells.all λc=>!c.ai)=true:=rfl
theorem InsD.len4 (x:InsD):x.cells.length=4:=rfl
theorem Yf (l:List BlkD)(i:Nat)(h:i<(Ql l).length):∃a1 a2 a3 a4 fl,(Ql l).getD i []=[a1,a2,a3,a4,.sl fl 1 (Qb ((l.map BlkD.next).getD i []))]:=by
 rw[Qj]at h;rw[Q9 _ _ h];have:(l.map BlkD.next).getD i []=l[i].next:=by simp[Jb,h]
 exact⟨.sl false 2 (Q8 l[i].aa),.sl false 4 (Af l[i].ins),.int .i64 l[i].jump,.int .i64 l[i].on,false,by rw[this];rfl⟩
set_option maxHeartbeats 3000000 in
theorem DA {α:Type}{p:α->Bool}{l:List α}{i:Nat}(hi:i<l.length):(l.take (i+1)).all p=((l.take i).all p&&p l[i]):=by
 rw[Jg hi,Jaa];simp
theorem D3 {α:Type}{p:α->Bool}{l:List α}{i:Nat}(hi:i<l.length)(h:p l[i]=false):l.all p=false:=by
 cases hc:l.all p with
 |false=>rfl
 |true=>rw[J7.1 hc _ (Jc hi)]at h;exact absurd h ZF
def Bm (j:Int):Int:=if j=1 then 1 else if j=2 then 2 else if j=3 then 0 else -1
def B7 (rg:Int)(y:BlkD):Bool:=decide ((y.next.length:Int)=Bm y.jump)&&if y.jump=1 then decide (y.on=0)else decide (0<=y.on/\y.on<=rg-1)
def AC (n:Nat)(x:Int):Bool:=decide (1<=x/\x<=(n:Int)-1)
def phiG (rg:Int)(np b:Nat)(x:PhiD):Bool:=!decide (b=0)&&decide ((x.args.length:Int)=np)&&Bw rg x.args&&decide (0<=x.to/\x.to<=rg-1)
def blkG (cs:List CodeD)(k b:Nat)(q:CodeD)(y:BlkD):Bool:=
 B7 q.ab y&&y.next.all (AC (Ql q.blocks).length)&&y.ins.all (insG cs k)&&y.aa.all (phiG q.ab (Qz (λi=>(q.blocks.map BlkD.next).getD i []) (b:Int) (Ql q.blocks).length).length b)
theorem Ki {cs:List CodeD}{k b:Nat}{q:CodeD}{y:BlkD}(h:blkG cs k b q y=true):y.next.length<=2:=by
 simp only[blkG,B7,Bool.and_eq_true,decide_eq_true_eq]at h;have:=h.1.1.1.1;rw[Bm]at this;split at this
 ·omega
 ·split at this
  ·omega
  ·split at this <;> omega
set_option maxHeartbeats 1000000 in
theorem Qbng {cs:List CodeD}{fl:Bool}{k b:Nat}(hk:k<cs.length)(tB:b<cs[k].blocks.length)(hr:0<=cs[k].ab)(fD:cs[k].ab<=300)(cB:cs.length<=100)(bG:cs[k].blocks.length<=200)(hK:∀(H':Heap),Upd H H' []->K (.c (.bool (blkG cs k b cs[k] cs[k].blocks[b]))) H') :
  Qv prog Q6c [.ag [.sl fl 3 (Qw cs)],.c (.int .i64 k),.c (.int .i64 b)] H K:=by
 refine Q0 ?_;refine Qc Ab Qbn8 ?_;have retf:∀(v:Bool) (e:Env) (H':Heap) (L:List (Nat×Obj)),blkG cs k b cs[k] cs[k].blocks[b]=v->Kn H H' [] L->lk 6 e=.c (.bool v)->Q4 Ge (unK H K) .ret e H':=by
  intro v e H' L hb kn h3;simp only[go_sem,Q4,Aa,Ja,forall_eq,RS.op,h3];rw[<-hb];exact⟨_,.c _ _ (Qi rfl),hK _ kn.fin⟩
 refine Wj ?_;simp only[go_sem,hk,Q6,Bd _ _ hk,CodeD.cells];intro x7 dW H1 h1;have kn:=(Kn.ar H).al dW h1;have ke:=kn.l 0 rfl;simp only[go_sem,Nw,ke];intro H2 h2;have kn:=kn.aB 0 rfl h2;have f9:=kn.l 0 rfl;refine Qa ?_;simp only[go_sem,f9,tB,Qj,Q9 _ _ tB,BlkD.cells];obtain⟨y,hy⟩:∃y,cs[k].blocks[b]=y:=⟨_,rfl⟩;rw[hy];intro x8 aS H3 h3;have kn:=kn.al aS h3;have tZ:=kn.l 1 rfl;simp only[go_sem,Nv,tZ];intro H4 h4;have kn:Kn H H4 [] [(x7,.st [.int .i64 cs[k].params,.int .i64 cs[k].ab,.sl false 5 (Ql cs[k].blocks)]),(x8,.st [.sl false 2 (Q8 y.aa),.sl false 4 (Af y.ins),.int .i64 y.jump,.int .i64 y.on,.sl false 1 (Qb y.next)])]:=kn.aB 1 rfl h4;obtain⟨q,hq⟩:∃q,cs[k]=q:=⟨_,rfl⟩;have hGe:blkG cs k b cs[k] cs[k].blocks[b]=blkG cs k b q y:=by rw[hy,hq]
 rw[hGe]at retf;rw[hq]at kn hr fD tB bG;generalize kN:(Qz (λi=>(q.blocks.map BlkD.next).getD i []) (b:Int) (Ql q.blocks).length).length=np;have jj:blkG cs k b q y=(B7 q.ab y&&y.next.all (AC (Ql q.blocks).length)&&y.ins.all (insG cs k)&&y.aa.all (phiG q.ab np b)):=by rw[blkG,kN]
 refine Za ?_;have lZ:=kn.l 0 rfl;have i7:=kn.l 1 rfl;refine Q3 (Qa ?_);simp only[go_sem,i7];have rest31:∀(want:Int) (E1:Env),Bm y.jump=want->(y.jump=1->y.on=0)->lk 1 E1=.c (.int .i64 k)->lk 2 E1=.c (.int .i64 b)->lk 3 E1=.c (.pp [.sl fl 3 (Qw cs)])->lk 7 E1=.c (.ptr x7 0)->lk 8 E1=.c (.ptr x8 0)->lk 9 E1=.c (.int .i64 want)->
   Ad prog Nx (Q4 Ge (unK H K)) E1 H4:=by
  intro want E1 hw hjo l1 l2 l3 l7 l8 l9;refine Q3 (Qa ?_);simp only[go_sem,l7,l8,l9,lZ,i7,Qe];intro cC;simp only[LIM]at cC;refine⟨λ_=>Qo,?_⟩;have rest8:∀(b1:Bool) (E1:Env),B7 q.ab y=(!b1)->lk 1 E1=.c (.int .i64 k)->lk 2 E1=.c (.int .i64 b)->lk 3 E1=.c (.pp [.sl fl 3 (Qw cs)])->lk 7 E1=.c (.ptr x7 0)->lk 8 E1=.c (.ptr x8 0)->lk 53 E1=.c (.bool b1)->
    Ad prog (s_l7Block_8.seq NR) (Q4 Ge (unK H K)) E1 H4:=by
   intro b1 E1 mH l1 l2 l3 l7 l8 l53;refine Qg (Qf l53 ?_ ?_)
   ·intro hc;refine We ?_;exact retf false _ _ _ (by rw[jj,mH,hc];simp) kn ZE
   intro qs;rw[qs]at mH;refine Zd ?_;refine Q3 (Qa ?_);simp only[go_sem,l1,l2,l3,l7,l8];refine Qg (Qd (Qs (λn e1 H1=>∃(i:Nat),n=y.next.length-i/\i<=y.next.length/\H1=H4/\(y.next.take i).all (AC (Ql q.blocks).length)=true/\e1=[(1,.c (.int .i64 k)),(2,.c (.int .i64 b)),(3,.c (.pp [.sl fl 3 (Qw cs)])),(7,.c (.ptr x7 0)),(8,.c (.ptr x8 0)),(10,.c (.int .i64 i))]) y.next.length ?_ ?_))
   ·exact⟨0,ZD,ZD,rfl,rfl,rfl⟩
   ·rintro n e1 H1 ⟨i,dz,hi,rfl,lx,rfl⟩;refine Q3 (Qa ?_);simp only[go_sem,i7,Qe];refine λ_=>?_;refine Wv ?_ ?_
    ·intro hc;have ae:i<y.next.length:=ZG;have bQ:y.next.getD i 0=y.next[i]:=(by simp[Jb,ae]);have tf:AC (Ql q.blocks).length y.next[i]=decide (1<=y.next.getD i 0/\y.next.getD i 0<=(q.blocks.length:Int)-1):=(by rw[bQ,AC,Qj]);refine Wb ?_;refine Aj ?_;simp only[go_sem,i7,lZ,ae,Qe,Qn _ _ ae,Qj];refine⟨Qo,?_⟩;refine AW ?_;simp only[go_sem,Nu];refine Ww ?_ ?_
     ·intro ao;refine Wi ?_;exact retf false _ _ _ (by rw[jj,D3 ae (by rw[tf];exact Bf ao)];simp) kn ZE
     ·intro ao;refine Wl ?_;exact⟨Qo,y.next.length-(i+1),ZD,i+1,rfl,ZD,by rw[DA ae,<-Qj q.blocks,lx,tf,A8 ao];rfl,rfl⟩
    ·intro hc;have aY:y.next.length<=i:=ZG;rw[Jd aY]at lx;refine Zb ?_;refine Wa ?_;refine Qg (Qd (Qs (λn e1 H1=>∃(i:Nat),n=y.ins.length-i/\i<=y.ins.length/\Kn H H1 [] [(x7,.st [.int .i64 q.params,.int .i64 q.ab,.sl false 5 (Ql q.blocks)]),(x8,.st [.sl false 2 (Q8 y.aa),.sl false 4 (Af y.ins),.int .i64 y.jump,.int .i64 y.on,.sl false 1 (Qb y.next)])]/\(y.ins.take i).all (insG cs k)=true/\
      e1=[(1,.c (.int .i64 k)),(2,.c (.int .i64 b)),(3,.c (.pp [.sl fl 3 (Qw cs)])),(7,.c (.ptr x7 0)),(8,.c (.ptr x8 0)),(11,.c (.int .i64 i))]) y.ins.length ?_ ?_))
     ·exact⟨0,ZD,ZD,kn,rfl,rfl⟩
     ·rintro n e1 H5 ⟨i,dz,hi,kn,dc,rfl⟩;have ou:=kn.l 0 rfl;have qC:=kn.l 1 rfl;refine Q3 (Qa ?_);simp only[go_sem,qC,A0];intro ck;simp only[LIM]at ck;refine Wv ?_ ?_
      ·intro hc;have ae:i<y.ins.length:=ZG;refine Wb ?_;refine Aj ?_;simp only[go_sem,qC,ae,A0,BR _ _ ae,InsD.cK,InsD.bt,InsD.len4];refine XZ hk (by rw[hq];omega) (by rw[hq];omega) cB λH6 hu=>?_;have kn:=kn.aw hu;simp only[go_sem,Q4s];refine Ww ?_ ?_
       ·intro ao;refine Wi ?_;exact retf false _ _ _ (by rw[jj,D3 ae (Bf ao)];simp) kn ZE
       ·intro ao;refine Wl ?_;exact⟨Qo,y.ins.length-(i+1),ZD,i+1,rfl,ZD,kn,by rw[DA ae,dc,A8 ao];rfl,rfl⟩
      ·intro hc;have aY:y.ins.length<=i:=ZG;rw[Jd aY]at dc;refine Zb ?_;refine Zh ou ?_;refine CY (rows:=Ql q.blocks) (nx:=λi=>(q.blocks.map BlkD.next).getD i []) (.mk' _ _ _ _) rfl (Yf q.blocks) λH6 hu=>?_;have kn:=kn.aw hu;simp only[go_sem,Q4t];refine Wa ?_;obtain⟨ps,iE⟩:∃ps,Qz (λi=>(q.blocks.map BlkD.next).getD i []) (b:Int) (Ql q.blocks).length=ps:=⟨_,rfl⟩;rw[iE];rw[iE]at kN;have ot:=kn.l 0 rfl;have lX:=kn.l 1 rfl;refine Qg (Qd (Qs (λn e1 H1=>∃(i:Nat),n=y.aa.length-i/\i<=y.aa.length/\H1=H6/\(y.aa.take i).all (phiG q.ab np b)=true/\
        e1=[(2,.c (.int .i64 b)),(7,.c (.ptr x7 0)),(8,.c (.ptr x8 0)),(12,.c (.sl false 1 (Qb ps))),(13,.c (.int .i64 i))]) y.aa.length ?_ ?_))
       ·exact⟨0,ZD,ZD,rfl,rfl,rfl⟩
       ·rintro n e1 H7 ⟨i,dz,hi,rfl,lw,rfl⟩;refine Q3 (Qa ?_);simp only[go_sem,lX,Q5];intro cP;simp only[LIM]at cP;refine Wv ?_ ?_
        ·intro hc;have ae:i<y.aa.length:=ZG;refine Wb ?_;have fin:∀(b3:Bool) (E1:Env),phiG q.ab np b y.aa[i]=(!b3)->lk 2 E1=.c (.int .i64 b)->lk 7 E1=.c (.ptr x7 0)->lk 8 E1=.c (.ptr x8 0)->lk 12 E1=.c (.sl false 1 (Qb ps))->lk 13 E1=.c (.int .i64 i)->lk 135 E1=.c (.bool b3)->
           Ad prog NU (X.inBlock 6 (X.sq prog NT (X.next (λe2 H2=>∃m,m<n/\∃(i:Nat),m=y.aa.length-i/\i<=y.aa.length/\H2=H7/\(y.aa.take i).all (phiG q.ab np b)=true/\
            e2=[(2,.c (.int .i64 b)),(7,.c (.ptr x7 0)),(8,.c (.ptr x8 0)),(12,.c (.sl false 1 (Qb ps))),(13,.c (.int .i64 i))]) (X.inBlock 5 (X.sq prog NS (Q4 Ge (unK H K))))))) E1 H7:=by
          intro b3 E1 dB l2 l7 l8 l12 l13 l135;refine Qf l135 ?_ ?_
          ·intro ao;refine Wi ?_;exact retf false _ _ _ (by rw[jj,D3 ae (by rw[dB,ao];rfl)];simp) kn ZE
          ·intro ao;refine Zd ?_;refine Qp ?_;simp only[go_sem,X.next,l2,l7,l8,l12,l13];exact⟨Qo,y.aa.length-(i+1),ZD,i+1,rfl,ZD,by rw[DA ae,lw,dB,ao];rfl,rfl⟩
         refine Aj ?_;simp only[go_sem,lX,ot,ae,Q5,Br _ _ ae,PhiD.cells,Qe];refine⟨λbf=>?_,λbf=>?_⟩
         ·refine I7 ZD ZD ?_;simp only[go_sem,RQ,lX,ot,ae,Q5,Br _ _ ae,PhiD.cells];refine⟨λ_=>Qo,?_⟩;refine⟨λcI=>?_,λcI=>?_⟩
          ·refine AW ?_;simp only[go_sem,P6];refine fin _ _ ?_ ZE ZE ZE ZE ZE ZL;simp[phiG,<-kN]
          ·replace cI:=A8 cI;simp only[go_sem,P6,cI];refine fin true _ ?_ ZE ZE ZE ZE ZE ZE;subst kN;simp at cI;simp[phiG];intro h1 h2 h3;simp[h1,h2,h3]at cI
         ·replace bf:=A8 bf;simp only[go_sem,RQ,P6,bf,lX,ot,ae,Q5,Br _ _ ae,PhiD.cells];refine fin true _ ?_ ZE ZE ZE ZE ZE ZE;subst kN;simp at bf;simp[phiG];intro h1 h2 h3;simp[h1,h2]at bf
        ·intro hc;have aY:y.aa.length<=i:=ZG;rw[Jd aY]at lw;refine Wc ?_;refine Qk ?_;exact retf true _ _ _ (by rw[jj,mH,lx,dc,lw];rfl) kn ZE
  refine⟨λbf=>?_,λbf=>?_⟩
  ·refine AW ?_;simp only[go_sem,Pr,bf,l1,l2,l3,l7,l8];refine rest8 _ _ ?_ ZE ZE ZE ZE ZE ZL;by_cases kT:(y.next.length:Int)=want
   ·by_cases hj:y.jump=1
    ·simp[kT,hj]at bf
    ·simp[B7,hw,kT,hj]
   ·simp[kT]at bf
  ·by_cases kT:(y.next.length:Int)=want
   ·by_cases hj:y.jump=1
    ·simp only[go_sem,Pr,kT,hj,l1,l2,l3,l7,l8,decide_true,cond_false];have fQ:Bm 1=want:=(by rw[<-hj];exact hw);refine rest8 _ _ ?_ ZE ZE ZE ZE ZE ZL;simp[B7,fQ,kT,hj,hjo hj]
    ·simp[kT,hj]at bf
   ·simp only[go_sem,Pr,kT,l1,l2,l3,l7,l8,decide_false,cond_true];by_cases hj:y.jump=1
    ·simp only[go_sem,hj,decide_true];exact rest8 true _ (by simp[B7,hw,kT]) ZE ZE ZE ZE ZE ZE
    ·simp only[go_sem,hj,decide_false];exact rest8 true _ (by simp[B7,hw,kT]) ZE ZE ZE ZE ZE ZE
 refine Wm ?_;refine Ww ?_ ?_
 ·intro hc;refine Zh i7 ?_;refine Ww ?_ ?_
  ·intro ao;refine We ?_;exact retf false _ _ _ (by simp at hc ao;rw[jj];simp[B7,hc,ao]) kn ZE
  ·intro ao;refine Zd ?_;exact rest31 1 _ Zad (λ_=>ZI) ZE ZE ZE ZE ZE ZE
 intro bF;refine Za ?_;refine Ww ?_ ?_
 ·intro hc;refine Zi ?_;exact rest31 2 _ Zad (λh=>by simp at bF;exact absurd h bF) ZE ZE ZE ZE ZE ZE
 intro ao;refine Za ?_;refine Ww ?_ ?_
 ·intro hc;refine Zi ?_;exact rest31 0 _ Zad (λh=>by simp at bF;exact absurd h bF) ZE ZE ZE ZE ZE ZE
 ·intro hc;refine We ?_;exact retf false _ _ _ (by simp at bF ao hc;rw[jj];simp[B7,Bm,bF,ao,hc]) kn ZE
set_option maxHeartbeats 3000000 in
theorem Q1j {b:BlkD}(hb:b.sg)(hK:∀(o:OBlk) (H':Heap),Kn H H' [] o.lg->o.ok->o.d=b->(∀p∈o.aa,p.own)->K (.ag o.row) H'):Qv prog PI [.ag b.cells] H K:=by
 have cM:=hb.n;have bA:=hb.i;have wF:=hb.p;refine CX ?_;refine Qc Ab Qaut ?_;refine Qa ?_;simp only[go_sem,BlkD.cells];intro x2 aW H1 h1;have kn:=(Kn.ar H).al aW h1;refine Aj ?_;simp only[go_sem,Qe,Jq,Jh];refine⟨.inl trivial,Qy _,by simp only[LIM];omega,λy hy H2 h2=>?_⟩;have kn:=kn.al hy h2;simp only[go_sem,Qp6];intro x3 aF H3 h3;have kn:=kn.al aF h3;have uo:=kn.l 2 rfl;simp only[go_sem,Qp5,uo];intro H4 h4;have kn:=kn.aB 2 rfl h4;obtain⟨nx,fd⟩:∃nx:OInts,nx=⟨b.next,y⟩:=⟨_,rfl⟩;have tg:C.ah y 1 0 b.next.length=nx.c:=by rw[fd];rfl
 have cC:[(y,Obj.vec 1 (Qb b.next))]=nx.lg:=by rw[fd];rfl
 rw[tg]at kn;have kn:Kn H H4 [] ([(x2,.st [.sl true 2 [],.sl true 4 [],.int .i64 0,.int .i64 0,.sl true 1 []]),(x3,.st [.sl true 2 [],.sl true 4 [],.int .i64 b.jump,.int .i64 b.on,nx.c])]++nx.lg):=kn.perm (by
  rw[<-cC];exact .cons _ (.swap _ _ _))
 refine Wa ?_;refine Qg (Qd (Qs (λn e1 H1=>∃(i:Nat) (ps:List OPhi) (pc:C) (pl:List (Nat×Obj)),n=b.aa.length-i/\i<=b.aa.length/\ps.map OPhi.d=b.aa.take i/\(∀p∈ps,p.own)/\Gr pl 2 (ps.map OPhi.row) pc/\
  Kn H H1 [] (([(x2,.st [.sl true 2 [],.sl true 4 [],.int .i64 0,.int .i64 0,.sl true 1 []]),(x3,.st [pc,.sl true 4 [],.int .i64 b.jump,.int .i64 b.on,nx.c])]++(nx.lg++ps.flatMap OPhi.lg))++pl)/\
  e1=[(1,.c (.pp [.sl false 2 (Q8 b.aa),.sl false 4 (Af b.ins),.int .i64 b.jump,.int .i64 b.on,.sl false 1 (Qb b.next)])),(2,.c (.ptr x2 0)),(3,.c (.ptr x3 0)),(4,.c (.int .i64 i))]) b.aa.length ?_ ?_))
 ·exact⟨0,[],_,[],ZD,ZD,rfl,ZF,.nil 2,ZO,rfl⟩
 ·rintro n e1 H1 ⟨i,ps,pc,pl,dz,hi,oQ,kD,aq,kn,rfl⟩;have uS:ps.length=i:=by have:=congrArg List.length oQ;rw[Jk,J2]at this;omega
  have ef:=aq.ai;refine Q3 (Qa ?_);simp only[go_sem,Q5];intro hl;refine Wv ?_ ?_
  ·intro hc;have ae:i<b.aa.length:=ZG
   have xX:=hb.pa _ (Jc ae);have dP:=kn.l 1 rfl;refine Wo ?_;simp only[go_sem,dP,ef,ae,Q5,Br _ _ ae,PhiD.cells,Qe,Jq,Jh];refine⟨.inl trivial,Qy _,by simp only[LIM];omega,λa ha H5 h5=>?_⟩;have kn:=kn.al ha h5;have gc:=kn.l 1 rfl;simp only[go_sem,Qp8,gc,ef,ae,Q5,Br _ _ ae,PhiD.cells];obtain⟨o,ho⟩:∃o:OPhi,o=⟨b.aa[i].to,b.aa[i].args,.ah a 1 0 b.aa[i].args.length,[(a,.vec 1 (Qb b.aa[i].args))]⟩:=⟨_,rfl⟩;have mu:o.own:=by rw[ho];exact⟨a,rfl,rfl⟩
   have jz:o.ok:=.inl mu;have iI:[C.int IntKind.i64 b.aa[i].to,C.ah a 1 0 b.aa[i].args.length]=o.row:=Zbj
   have dJ:[(a,Obj.vec 1 (Qb b.aa[i].args))]=o.lg:=by rw[ho]
   rw[iI];rw[dJ]at kn;have kn:=kn.perm BI;refine kn.grow (new:=[o.row]) aq (.mk' _ _ _ _) (by intro r hr;simp only[Ja]at hr;subst hr;exact o.an jz) ZS λz H6 kn=>?_;have kn:Kn H H6 [] (([(x2,.st [.sl true 2 [],.sl true 4 [],.int .i64 0,.int .i64 0,.sl true 1 []]),(x3,.st [pc,.sl true 4 [],.int .i64 b.jump,.int .i64 b.on,nx.c])]++(nx.lg++(ps++[o]).flatMap OPhi.lg))++[(z,.vec 2 ((ps++[o]).map OPhi.row))]):=by
    simpa[Js,Ji]using kn
   have o0:=kn.l 1 rfl;simp only[go_sem,Qp7,o0];intro H7 h7;have kn:=kn.aB 1 rfl h7;refine Zg ?_;simp only[LIM]at hl;refine⟨Qo,b.aa.length-(i+1),ZD,i+1,ps++[o],_,_,rfl,ZD,by rw[Ju,oQ,Jg ae,ho];rfl,λp hp=>?_,?_,kn,rfl⟩
   ·rcases Jl.1 hp with h|h
    ·exact kD p h
    ·simp only[Ja]at h;subst h;exact mu
   ·exact .mk _ _ _ ZF
  ·intro hc;have rl:ps.map OPhi.d=b.aa:=by rw[oQ,Jd ZG]
   refine Zb ?_;refine Wa ?_;refine Qg (Qd (Qs (λn e1 H1=>∃(i:Nat) (is:List OIns) (ic:C) (il:List (Nat×Obj)),n=b.ins.length-i/\i<=b.ins.length/\is.map OIns.d=b.ins.take i/\(∀x∈is,x.a.ns.length<=1000000)/\Gr il 4 (is.map OIns.row) ic/\
    Kn H H1 [] (([(x2,.st [.sl true 2 [],.sl true 4 [],.int .i64 0,.int .i64 0,.sl true 1 []]),(x3,.st [pc,ic,.int .i64 b.jump,.int .i64 b.on,nx.c])]++(nx.lg++(ps.flatMap OPhi.lg++(pl++is.flatMap OIns.lg))))++il)/\
    e1=[(1,.c (.pp [.sl false 2 (Q8 b.aa),.sl false 4 (Af b.ins),.int .i64 b.jump,.int .i64 b.on,.sl false 1 (Qb b.next)])),(2,.c (.ptr x2 0)),(3,.c (.ptr x3 0)),(5,.c (.int .i64 i))]) b.ins.length ?_ ?_))
   ·exact⟨0,[],_,[],ZD,ZD,rfl,ZF,.nil 4,by simpa[Ji]using kn,rfl⟩
   ·rintro n e1 H1 ⟨i,is,ic,il,dz,hi,pt,we,jS,kn,rfl⟩;have hisl:is.length=i:=(by have:=congrArg List.length pt;rw[Jk,J2]at this;omega);have cA:=jS.ai;refine Q3 (Qa ?_);simp only[go_sem,A0];intro hl;refine Wv ?_ ?_
    ·intro hc;have ae:i<b.ins.length:=ZG;have hia:=hb.ia _ (Jc ae);refine Wq ?_;simp only[go_sem,ae,A0,BR _ _ ae,InsD.cells];intro x6 ba H5 h5;have kn:=kn.al ba h5;have kn:=kn.perm (Jf (l₁:=_) (l₂:=[(x6,_)]));have km:=kn.l 0 rfl;simp only[go_sem,Qp9,km];intro H6 h6;have kn:=kn.aB 0 rfl h6;have ki:=kn.l 0 rfl;have o0:=kn.l 2 rfl;refine Aw ?_;simp only[go_sem,ki,o0,cA,Qe,Jq,Jh];refine⟨.inl trivial,Qy _,by simp only[LIM];omega,λa ha H7 h7=>?_⟩;have kn:=kn.al ha h7;have jp:=kn.l 0 rfl;have um:=kn.l 2 rfl;simp only[go_sem,Qqb,jp,um,cA];obtain⟨o,ho⟩:∃o:OIns,o=⟨b.ins[i].op,b.ins[i].to,⟨b.ins[i].args,a⟩,b.ins[i].n⟩:=⟨_,rfl⟩;have iI:[C.int IntKind.i64 b.ins[i].op,C.int IntKind.i64 b.ins[i].to,C.ah a 1 0 b.ins[i].args.length,C.int IntKind.i64 b.ins[i].n]=o.row:=Zbj;have dJ:[(a,Obj.vec 1 (Qb b.ins[i].args))]=o.lg:=Zbj;rw[iI];rw[dJ]at kn;have kn:Kn H H7 [] ((([(x2,.st [.sl true 2 [],.sl true 4 [],.int .i64 0,.int .i64 0,.sl true 1 []]),(x3,.st [pc,ic,.int .i64 b.jump,.int .i64 b.on,nx.c])]++(nx.lg++(ps.flatMap OPhi.lg++(pl++is.flatMap OIns.lg))))++il)++o.lg):=by
      have kn:=kn.perm (Jf (l₁:=[(x6,_)]) (l₂:=_));exact kn.drop
     have kn:=kn.perm BI;refine kn.grow (new:=[o.row]) jS (.mk' _ _ _ _) (by simp[o.an]) ZS λz H8 kn=>?_;have kn:Kn H H8 [] (([(x2,.st [.sl true 2 [],.sl true 4 [],.int .i64 0,.int .i64 0,.sl true 1 []]),(x3,.st [pc,ic,.int .i64 b.jump,.int .i64 b.on,nx.c])]++(nx.lg++(ps.flatMap OPhi.lg++(pl++(is++[o]).flatMap OIns.lg))))++[(z,.vec 4 ((is++[o]).map OIns.row))]):=by
      simpa[Js,Ji]using kn
     have ul:=kn.l 1 rfl;simp only[go_sem,Qqa,ul];intro H9 h9;have kn:=kn.aB 1 rfl h9;refine Zg ?_;simp only[LIM]at hl;refine⟨Qo,b.ins.length-(i+1),ZD,i+1,is++[o],_,_,rfl,ZD,by rw[Ju,pt,Jg ae,ho];rfl,λx hx=>?_,?_,kn,rfl⟩
     ·rcases Jl.1 hx with hx|hx
      ·exact we x hx
      ·simp only[Ja]at hx;rw[hx,ho];exact hia
     ·exact .mk _ _ _ ZF
    ·intro hc;have rT:is.map OIns.d=b.ins:=(by rw[pt,Jd (by simpa using hc)]);have gf:=kn.l 0 rfl;have dP:=kn.l 1 rfl;refine Zb ?_;have oV:nx.c.ai=false:=rfl;refine Qa ?_;simp only[go_sem,gf,dP,ef,cA,oV];intro H5 h5;have kn:=kn.aB 0 rfl h5;have uq:=kn.l 0 rfl;refine Qk ?_;simp only[go_sem,Q4,Aa,Ja,forall_eq,RS.op,uq,ef,cA,oV];obtain⟨o,ho⟩:∃o:OBlk,o=⟨ps,pc,pl,is,ic,il,b.jump,b.on,nx⟩:=⟨_,rfl⟩;have ay:o.ok:=(by rw[ho];exact⟨aq,jS,λp hp=>.inl (kD p hp)⟩);have eZ:o.d=b:=by
      rw[ho];show BlkD.mk (ps.map OPhi.d) (is.map OIns.d) b.jump b.on nx.ns=b;rw[rl,rT,fd]
     have kn:Kn H H5 [] ([(x2,.st [pc,ic,.int .i64 b.jump,.int .i64 b.on,nx.c]),(x3,.st [pc,ic,.int .i64 b.jump,.int .i64 b.on,nx.c])]++o.lg):=by
      rw[ho];simpa[OBlk.lg,Ji]using kn
     refine⟨unx H o.lg,.ag o.row,H5.frz (unx H o.lg),?_,CL _ _,hK o _ kn.finK ay eZ (by rw[ho];exact kD)⟩;rw[ho];exact FrzL.ag (.cons (.same _ ef) (.cons (.same _ cA) (.cons (Qi rfl) (.cons (Qi rfl) (.cons (.same _ oV) .nil)))))
theorem BlkD.take5 (x:BlkD):x.cells.take 5=x.cells:=rfl
theorem BlkD.bt (x:BlkD):(x.cells.all λc=>!c.ai)=true:=rfl
theorem BlkD.len5 (x:BlkD):x.cells.length=5:=rfl
theorem CodeD.take3 (x:CodeD):x.cells.take 3=x.cells:=rfl
theorem CodeD.bt (x:CodeD):(x.cells.all λc=>!c.ai)=true:=rfl
theorem CodeD.len3 (x:CodeD):x.cells.length=3:=rfl
theorem OBlk.len5 (x:OBlk):x.row.length=5:=rfl
theorem OCode.len3 (x:OCode):x.row.length=3:=rfl
set_option maxHeartbeats 2000000 in
theorem DI {q:CodeD}(hq:q.sg)(hK:∀(o:OCode) (H':Heap),Kn H H' [] o.lg->o.ok->o.d=q->(∀b∈o.blocks,∀p∈b.aa,p.own)->K (.ag o.row) H'):Qv prog Gh [.ag q.cells] H K:=by
 have hqb:=hq.b;refine CX ?_;refine Qc Ab Qbtd ?_;refine Zz ?_;intro x2 aW H1 h1;have kn:=(Kn.ar H).al aW h1;refine Za ?_;intro x3 aF H2 h2;have kn:=kn.al aF h2;have ge:=kn.l 1 rfl;simp only[go_sem,L8,ge];intro H3 h3;have kn:=kn.aB 1 rfl h3;refine Wa ?_;refine Qg (Qd (Qs (λn e1 H1=>∃(i:Nat) (os:List OBlk) (bc:C) (bl:List (Nat×Obj)),n=q.blocks.length-i/\i<=q.blocks.length/\os.map OBlk.d=q.blocks.take i/\(∀o∈os,o.ok/\∀p∈o.aa,p.own)/\Gr bl 5 (os.map OBlk.row) bc/\
  Kn H H1 [] (([(x2,.st [.int .i64 0,.int .i64 0,.sl true 5 []]),(x3,.st [.int .i64 q.params,.int .i64 q.ab,bc])]++os.flatMap OBlk.lg)++bl)/\
  e1=[(1,.c (.pp [.int .i64 q.params,.int .i64 q.ab,.sl false 5 (Ql q.blocks)])),(2,.c (.ptr x2 0)),(3,.c (.ptr x3 0)),(4,.c (.int .i64 i))]) q.blocks.length ?_ ?_))
 ·exact⟨0,[],_,[],ZD,ZD,rfl,ZF,.nil 5,ZO,rfl⟩
 ·rintro n e1 H1 ⟨i,os,bc,bl,dz,hi,eZ,ay,aq,kn,rfl⟩;have dJ:os.length=i:=by have:=congrArg List.length eZ;rw[Jk,J2]at this;omega
  have cw:=aq.ai;have dP:=kn.l 1 rfl;refine Q3 (Qa ?_);simp only[go_sem,Qj];intro hl;simp only[LIM]at hl;refine Wv ?_ ?_
  ·intro hc;have ae:i<q.blocks.length:=ZG
   refine Wo ?_;simp only[go_sem,dP,cw,ae,Qj,Q9 _ _ ae,BlkD.take5,BlkD.bt,BlkD.len5];refine Q1j (hq.bs _ (Jc ae)) λo H4 k2 fT pN mu=>?_;have kn:=kn.comp0 k2;have i8:=kn.l 1 rfl;simp only[go_sem,L6,i8,cw,o.len5];have kn:=kn.perm BI;refine kn.grow (new:=[o.row]) aq (.mk' _ _ _ _) (by intro r hr;simp only[Ja]at hr;subst hr;exact o.an fT) ZS λz H5 kn=>?_;have kn:Kn H H5 [] (([(x2,.st [.int .i64 0,.int .i64 0,.sl true 5 []]),(x3,.st [.int .i64 q.params,.int .i64 q.ab,bc])]++(os++[o]).flatMap OBlk.lg)++[(z,.vec 5 ((os++[o]).map OBlk.row))]):=by
    simpa[Js,Ji]using kn
   have gc:=kn.l 1 rfl;simp only[go_sem,L7,gc];intro H6 h6;have kn:=kn.aB 1 rfl h6;refine Zg ?_;refine⟨Qo,q.blocks.length-(i+1),ZD,i+1,os++[o],_,_,rfl,ZD,by rw[Ju,eZ,Jg ae,Jad,Jae,pN],λo' eQ=>?_,.mk _ _ _ ZF,kn,rfl⟩;rcases Jl.1 eQ with h|h
   ·exact ay o' h
   ·simp at h;subst h;exact⟨fT,mu⟩
  ·intro hc;have aY:q.blocks.length<=i:=ZG
   have gf:=kn.l 0 rfl;refine Zb ?_;refine Zo dP gf cw ?_;intro H4 h4;have kn:=kn.aB 0 rfl h4;have i9:=kn.l 0 rfl;refine Zp i9 cw ?_;obtain⟨o,ho⟩:∃o:OCode,o=⟨q.params,q.ab,os,bc,bl⟩:=⟨_,rfl⟩;have eZ:o.d=q:=by
    rw[ho];show CodeD.mk q.params q.ab (os.map OBlk.d)=q;rw[eZ,Jd aY]
   have vg:∀b∈o.blocks,∀p∈b.aa,p.own:=by rw[ho];exact λb hb=>(ay b hb).2
   have ay:o.ok:=by rw[ho];exact⟨aq,λb hb=>(ay b hb).1⟩
   have kn:Kn H H4 [] ([(x2,.st [.int .i64 q.params,.int .i64 q.ab,bc]),(x3,.st [.int .i64 q.params,.int .i64 q.ab,bc])]++o.lg):=by
    rw[ho];simpa[OCode.lg,Ji]using kn
   refine⟨unx H o.lg,.ag o.row,H4.frz (unx H o.lg),?_,CL _ _,hK o _ kn.finK ay eZ vg⟩;rw[ho];exact FrzL.ag (.cons (Qi rfl) (.cons (Qi rfl) (.cons (.same _ cw) .nil)))
theorem Qbsv {q:CodeD}(hq:q.sm)(hK:∀(o:OCode) (H':Heap),Kn H H' [] o.lg->o.ok->o.d=q->o.sm 1000->K (.ag o.row) H'):Qv prog Gh [.ag q.cells] H K:=
 DI hq.sg λo H' k1 k2 k3 _=>hK o H' k1 k2 k3 (by rw[<-k3]at hq;exact hq.o)
set_option maxHeartbeats 2000000 in
theorem Qaz6 {cs:List CodeD}{fl:Bool}(hs:∀c∈cs,c.sm)(hl:cs.length<=1000000)
  (hK:∀(us:List OCode) (cc:C) (cl:List (Nat×Obj)) (H':Heap),Kn H H' [] (us.flatMap OCode.lg++cl)->Gr cl 3 (us.map OCode.row) cc->(∀u∈us,u.ok/\u.sm 1000)->us.length=cs.length->K (.ag [cc]) H') :
  Qv prog Hr [.ag [.sl fl 3 (Qw cs)]] H K:=by
 refine CX ?_;refine Qc Ab Q8s ?_;refine Za ?_;intro x2 aW H1 h1;have kn:=(Kn.ar H).al aW h1;refine Za ?_;intro x3 aF H2 h2;have kn:=kn.al aF h2;have ge:=kn.l 1 rfl;simp only[go_sem,SH,ge];intro H3 h3;have kn:=kn.aB 1 rfl h3;refine Wa ?_;refine Qg (Qd (Qs (λn e1 H1=>∃(i:Nat) (os:List OCode) (bc:C) (bl:List (Nat×Obj)),n=cs.length-i/\i<=cs.length/\os.length=i/\(∀o∈os,o.ok/\o.sm 1000)/\Gr bl 3 (os.map OCode.row) bc/\
  Kn H H1 [] (([(x2,.st [.sl true 3 []]),(x3,.st [bc])]++os.flatMap OCode.lg)++bl)/\
  e1=[(1,.c (.pp [.sl fl 3 (Qw cs)])),(2,.c (.ptr x2 0)),(3,.c (.ptr x3 0)),(4,.c (.int .i64 i))]) cs.length ?_ ?_))
 ·exact⟨0,[],_,[],ZD,ZD,rfl,ZF,.nil 3,ZO,rfl⟩
 ·rintro n e1 H1 ⟨i,os,bc,bl,dz,hi,dJ,ay,aq,kn,rfl⟩;have cw:=aq.ai;have dP:=kn.l 1 rfl;refine Q3 (Qa ?_);simp only[go_sem,Q6];intro _;refine Wv ?_ ?_
  ·intro hc;have ae:i<cs.length:=ZG
   refine Wo ?_;simp only[go_sem,dP,cw,ae,Q6,Bd _ _ ae,CodeD.take3,CodeD.bt,CodeD.len3];refine Qbsv (hs _ (Jc ae)) λo H4 k2 fT _ aX=>?_;have kn:=kn.comp0 k2;have i8:=kn.l 1 rfl;simp only[go_sem,SF,i8,cw,o.len3];have kn:=kn.perm BI;refine kn.grow (new:=[o.row]) aq (.mk' _ _ _ _) (by intro r hr;simp only[Ja]at hr;subst hr;exact o.an fT) ZS λz H5 kn=>?_;have kn:Kn H H5 [] (([(x2,.st [.sl true 3 []]),(x3,.st [bc])]++(os++[o]).flatMap OCode.lg)++[(z,.vec 3 ((os++[o]).map OCode.row))]):=by
    simpa[Js,Ji]using kn
   have gc:=kn.l 1 rfl;simp only[go_sem,SG,gc];intro H6 h6;have kn:=kn.aB 1 rfl h6;refine Zg ?_;refine⟨Qo,cs.length-(i+1),ZD,i+1,os++[o],_,_,rfl,ZD,by simp[dJ],λo' eQ=>?_,.mk _ _ _ ZF,kn,rfl⟩;rcases Jl.1 eQ with h|h
   ·exact ay o' h
   ·simp at h;subst h;exact⟨fT,aX⟩
  ·intro hc;have aY:cs.length<=i:=ZG
   have gf:=kn.l 0 rfl;refine Zb ?_;refine Zo dP gf cw ?_;intro H4 h4;have kn:=kn.aB 0 rfl h4;have i9:=kn.l 0 rfl;refine Zp i9 cw ?_;have kn:Kn H H4 [] ([(x2,.st [bc]),(x3,.st [bc])]++(os.flatMap OCode.lg++bl)):=by
    simpa[Ji]using kn
   exact⟨unx H _,.ag [bc],H4.frz (unx H _),FrzL.ag (.cons (.same _ cw) .nil),CL _ _,hK os bc bl _ kn.finK aq ay ZD⟩
structure CRd (H:Heap)(R:Rdr)(cc:C)(rows:List (List C)):Prop where
 s:Slc H 3 rows cc
 ow:cc.ai=false
 ne:∀l a c d,cc=.ah l a c d->l≠R.l
 r:∀i,i<rows.length->∃(p:Int) (c1 c2:C),rows.getD i []=[.int .i64 p,c1,c2]/\0<=p/\p<=3
theorem CRd.keep {R:Rdr}{cc:C}{rows:List (List C)}{o:Obj}{H':Heap}{L:List (Nat×Obj)}(h:CRd H R cc rows)(kn:Kn H H' [(R.l,o)] L):CRd H' R cc rows:=
 ⟨h.s.keep kn (λl a c d hh=>by simpa using h.ne l a c d hh),h.ow,h.ne,h.r⟩
theorem EA {R:Rdr}{k b n:Nat}(hH:H R.l=R.o k)(hk:k+2<=2^40)(hb:b<=1000)(hn:n<=1000)
  (hK:∀(v:Int) (H':Heap) (k':Nat),k<k'->k'<=k+2->Upd H H' [(R.l,R.o k')]->K (.c (.int .i64 v)) H') :
  Qv prog CE [.c (.ptr R.l 0),.c (.int .i64 b),.c (.int .i64 n)] H K:=by
 refine Q0 ?_;refine Qc Ab VG ?_;have kn:=Kn.start1 hH (R.aj k);refine Wf ?_;refine⟨Qo,?_⟩;have rest:∀(v:Bool) (H2:Heap) (k2:Nat),k<=k2->k2<=k+1->Kn H H2 [(R.l,R.o k2)] []->
   Ad prog (s_l7To_2.seq Iz) (Q4 Do (unK H K)) [(0,.c (.ptr R.l 0)),(1,.c (.int .i64 b)),(2,.c (.int .i64 n)),(15,.c (.bool v))] H2:=by
  intro v H2 k2 gr dK kn;have pv:∀m v:Int,m<=1000->(if m<1 then v=0 else 0<=v/\v<m)->0<=v/\v<=1000:=by
   intro m v hm hv;split at hv <;> omega
  refine Wv ?_ ?_
  ·intro hc;refine Za ?_;refine⟨Qo,Qo,Qo,?_⟩;refine Au (kn.e 0 rfl) ZD λv H3 hv hu=>?_;have kn:=kn.am 0 rfl hu (R.aj _);have hv:=pv _ _ ZD hv;simp only[go_sem,Ou];refine⟨Qo,?_⟩;refine Zc ?_;exact⟨_,.c _ _ (Qi rfl),hK _ _ (k2+1) ZD ZD kn.fin⟩
  ·intro hc;refine Zd ?_;refine Za ?_;refine⟨Qo,?_⟩;refine Au (kn.e 0 rfl) ZD λv H3 hv hu=>?_;have kn:=kn.am 0 rfl hu (R.aj _);have hv:=pv _ _ ZD hv;simp only[go_sem,Ot];refine⟨Qo,?_⟩;refine Zc ?_;exact⟨_,.c _ _ (Qi rfl),hK _ _ (k2+1) ZD ZD kn.fin⟩
 refine⟨λbf=>?_,λbf=>?_⟩
 ·refine Au (kn.e 0 rfl) ZD λv H3 hv hu=>?_;have kn:=kn.am 0 rfl hu (R.aj _);simp only[go_sem,Fe,bf];exact rest _ _ (k+1) ZD ZD kn
 ·simp only[go_sem,Fe,bf];exact rest _ _ k ZD ZD kn
set_option maxHeartbeats 2000000 in
theorem Qbsw {R:Rdr}{k:Nat}{cc:C}{rows:List (List C)}{ab:Int}(hH:H R.l=R.o k)(hk:k+9<=2^40)(hc:CRd H R cc rows)
  (hK:∀(x:InsD) (H':Heap) (k':Nat),k<k'->k'<=k+9->Upd H H' [(R.l,R.o k')]->x.args.length<=3->K (.ag x.cells) H') :
  Qv prog Fx [.c (.ptr R.l 0),.ag [cc],.c (.int .i64 ab)] H K:=by
 refine Q0 ?_;refine Qc Ab Qbtf ?_;have bM:=hc.ow;have ak:=hc.s.len;have gY:=hc.s.sz;refine Za ?_;intro x6 ba H1 h1;have kn:=(Kn.start1 hH (R.aj k)).al ba h1;refine Za ?_;refine Ba (ns:=[1,1,2,3,4,5,8,9,10,13,3,6,7,11,12,14]) (kn.e 0 rfl) ZD ZF λop H2 bP hu=>?_;have kn:=kn.am 0 rfl hu (R.aj _);simp only[go_sem,Lv];refine Za ?_;refine Au (kn.e 0 rfl) ZD λto H3 hto hu=>?_;have kn:=kn.am 0 rfl hu (R.aj _);simp only[go_sem,LX,Lu];intro x8 aS H4 h4;have kn:=kn.al aS h4;have i7:=kn.l 1 rfl;simp only[go_sem,i7];intro H5 h5;have kn:=kn.aB 1 rfl h5;refine Za ?_;refine Qbnf λmany vA eK=>?_;simp only[go_sem,LW];have args:∀(many:Int) (to n:Int) (H6:Heap) (k6:Nat),many<=3->k<k6->k6<=k+4->Kn H H6 [(R.l,R.o k6)] [(x6,.st [.int .i64 0,.int .i64 0,.sl true 1 [],.int .i64 0]),(x8,.st [.int .i64 op,.int .i64 to,.sl true 1 [],.int .i64 n])]->
   Ad prog Ly (Q4 Gb (unK H K)) [(0,.c (.ptr R.l 0)),(2,.c (.int .i64 ab)),(6,.c (.ptr x6 0)),(8,.c (.ptr x8 0)),(9,.c (.int .i64 many))] H6:=by
  intro many to n H6 k6 kS gr dK kn;refine Wa ?_;refine Qg (Qd (Qs (λm e1 H1=>∃(i:Nat) (ns:List Int) (ac:C) (al:List (Nat×Obj)),m=3-i/\i<=3/\ns.length=i/\Gr al 1 (Qb ns) ac/\
   Kn H H1 [(R.l,R.o (k6+i))] ([(x6,.st [.int .i64 0,.int .i64 0,.sl true 1 [],.int .i64 0]),(x8,.st [.int .i64 op,.int .i64 to,ac,.int .i64 n])]++al)/\
   e1=[(0,.c (.ptr R.l 0)),(2,.c (.int .i64 ab)),(6,.c (.ptr x6 0)),(8,.c (.ptr x8 0)),(9,.c (.int .i64 many)),(10,.c (.int .i64 i))]) 3 ?_ ?_))
  ·exact⟨0,[],_,[],ZD,ZD,rfl,.nil 1,ZO,rfl⟩
  ·rintro m e1 H7 ⟨i,ns,ac,al,hm,hi,dq,aq,kn,rfl⟩;have eT:=aq.ai;have aS:=kn.l 1 rfl;refine Wa ?_;refine Wv ?_ ?_
   ·intro hc;have ae:(i:Int)<many:=ZG;refine Wb ?_;refine Aw ?_;simp only[go_sem,aS,eT];refine Au (kn.e 0 rfl) ZD λv H8 hv hu=>?_;have kn:=kn.am 0 rfl hu (R.aj _);have aS:=kn.l 1 rfl;simp only[go_sem,Ng,aS,eT];refine kn.grow (new:=Qb [v]) aq (.mk' _ _ _ _) (Qy _) Zaz λy H9 kn=>?_;have aS:=kn.l 1 rfl;simp only[go_sem,Nh,aS];intro H10 dg;have kn:=kn.aB 1 rfl dg;refine Zg ?_;refine⟨Qo,3-(i+1),ZD,i+1,ns++[v],_,_,rfl,ZD,by simp[dq],?_,kn,rfl⟩;rw[<-CO];exact .mk _ _ _ (by simp[CO,Qe])
   ·intro hc;refine Zb ?_;have ba:=kn.l 0 rfl;refine Zo aS ba eT ?_;intro H8 h8;have kn:Kn H H8 [(R.l,R.o (k6+i))] ([(x6,.st [.int .i64 op,.int .i64 to,ac,.int .i64 n]),(x8,.st [.int .i64 op,.int .i64 to,ac,.int .i64 n])]++al):=kn.aB 0 rfl h8;have ba:=kn.l 0 rfl;refine Zp ba eT ?_;exact⟨.ag (InsD.mk op to ns n).cells,FrzL.ag (.cons (Qi rfl) (.cons (Qi rfl) (.cons (aq.frz kn (Qy _)) (.cons (Qi rfl) .nil)))),hK ⟨op,to,ns,n⟩ _ (k6+i) ZD ZD kn.fin (by show ns.length<=3;omega)⟩
 have rest:∀(many n:Int) (H6:Heap) (k6:Nat) (E1:Env),lk 0 E1=.c (.ptr R.l 0)->lk 2 E1=.c (.int .i64 ab)->lk 6 E1=.c (.ptr x6 0)->lk 7 E1=.c (.int .i64 op)->lk 8 E1=.c (.ptr x8 0)->lk 9 E1=.c (.int .i64 many)->many<=3->k<k6->k6<=k+3->Kn H H6 [(R.l,R.o k6)] [(x6,.st [.int .i64 0,.int .i64 0,.sl true 1 [],.int .i64 0]),(x8,.st [.int .i64 op,.int .i64 to,.sl true 1 [],.int .i64 n])]->
   Ad prog Lw (Q4 Gb (unK H K)) E1 H6:=by
  intro many n H6 k6 E1 l0 l2 l6 l7 l8 l9 kS gr dK kn;have rest2:∀(n:Int) (H6:Heap) (k6:Nat) (E1:Env),lk 0 E1=.c (.ptr R.l 0)->lk 2 E1=.c (.int .i64 ab)->lk 6 E1=.c (.ptr x6 0)->lk 7 E1=.c (.int .i64 op)->lk 8 E1=.c (.ptr x8 0)->lk 9 E1=.c (.int .i64 many)->k<k6->k6<=k+4->Kn H H6 [(R.l,R.o k6)] [(x6,.st [.int .i64 0,.int .i64 0,.sl true 1 [],.int .i64 0]),(x8,.st [.int .i64 op,.int .i64 to,.sl true 1 [],.int .i64 n])]->
    Ad prog Lx (Q4 Gb (unK H K)) E1 H6:=by
   intro n H6 k6 E1 l0 l2 l6 l7 l8 l9 gr dK kn;refine Wa ?_;simp only[l7,true_and];refine GM ?_;simp only[go_sem,Ni,l0,l2,l6,l8,l9];refine Wv ?_ ?_
   ·intro hc;have aS:=kn.l 1 rfl;refine Zv aS ?_;intro H7 h7;have kn:=kn.aB 1 rfl h7;exact args many (-1) n H7 k6 kS gr dK kn
   ·intro hc;refine Zd ?_;exact args many to n H6 k6 kS gr dK kn
  refine Q3 (Qa ?_);simp only[go_sem,l0,l2,l6,l7,l8,l9];refine Wv ?_ ?_
  ·intro hc;refine Zi ?_;refine Ba (ns:=[0,1,2,3,15,16,255]) (kn.e 0 rfl) ZD ZF λn2 H7 mH hu=>?_;have kn:=kn.am 0 rfl hu (R.aj _);have aS:=kn.l 1 rfl;simp only[go_sem,Nj,aS];intro H8 h8;have kn:=kn.aB 1 rfl h8;exact rest2 n2 H8 (k6+1) _ ZE ZE ZE ZE ZE ZE ZD ZD kn
  ·intro hc;refine Zd ?_;exact rest2 n H6 k6 _ ZE ZE ZE ZE ZE ZE ZD ZD kn
 refine Wa ?_;refine Wv ?_ ?_
 ·intro n9;have iS:=hc.keep kn;have iL:=eq_true iS.s.ok;refine Q3 (Qa ?_);simp only[go_sem,bM,ak,iL];intro hl;refine Wv ?_ ?_
  ·intro h0;refine Za ?_;refine Au (kn.e 0 rfl) ZD λv H6 hv hu=>?_;have kn:=kn.am 0 rfl hu (R.aj _);have ba:=kn.l 0 rfl;simp only[go_sem,LV,ba];intro H7 h7;have kn:=kn.aB 0 rfl h7;have ba:=kn.l 0 rfl;refine Zj ba ?_;exact⟨.ag (InsD.mk 13 (-1) [v] 0).cells,FrzL.ag (.cons (Qi rfl) (.cons (Qi rfl) (.cons (FrzR.same (Qy [v])).sl (.cons (Qi rfl) .nil)))),hK ⟨13,-1,[v],0⟩ _ (k+3) ZD ZD kn.fin ZF⟩
  ·intro h0;have kE:0<rows.length:=by
    have:¬rows.length=0:=(by simpa using h0);omega
   refine Zd ?_;refine Zo bM ak iL ?_;intro _;refine Au (kn.e 0 rfl) ZD λv H6 hv hu=>?_;have kn:=kn.am 0 rfl hu (R.aj _);rw[if_neg ZD]at hv;obtain⟨i,rfl⟩:=Jn hv.1;have hi:i<rows.length:=ZD
   obtain⟨p,c1,c2,a8,iG,hp3⟩:=hc.r i hi;have aS:=kn.l 1 rfl;simp only[go_sem,LU,aS];intro H7 h7;have kn:=kn.aB 1 rfl h7;have aS:=kn.l 1 rfl;have yA:=hc.keep kn;have vk:=eq_true yA.s.ok;have uG:=yA.s.rows;refine Qp ?_;simp only[go_sem,bM,ak,vk,uG,gY,aS,hi,a8];exact rest p i H7 (k+3) _ ZE ZE ZE ZE ZE ZE ZD ZD ZD kn
 ·intro n9;refine Zd ?_;exact rest many 0 H5 (k+2) _ ZE ZE ZE ZE ZE ZE ZD ZD ZD kn
theorem Xb {α:Type}{a M b c:List α}:(a++(M++b)++c).Perm (((M++c)++b)++a):=by
 refine Jf.trans ?_;refine (List.Perm.append_left _ (Jf (l₁:=a))).trans ?_;rw[<-Ji];refine .append_right _ ?_;rw[<-Ji];exact .append_right _ Jf
def EnvA (R:Rdr)(cc:C)(x4 x5 x8 n b:Nat)(e:Env):Prop:=
 lk 0 e=.c (.ptr R.l 0)/\lk 3 e=.c (.pp [cc])/\lk 4 e=.c (.ptr x4 0)/\lk 5 e=.c (.ptr x5 0)/\lk 6 e=.c (.int .i64 n)/\lk 7 e=.c (.int .i64 b)/\lk 8 e=.c (.ptr x8 0)
set_option maxHeartbeats 4000000 in
theorem Qbsu {R:Rdr}{k:Nat}{cc:C}{rows:List (List C)}(hH:H R.l=R.o k)(hk:k+1000<=2^40)(hc:CRd H R cc rows)
  (hK:∀(o:UCode) (H':Heap) (k':Nat),k<k'->k'<=k+1000->Kn H H' [(R.l,R.o k')] o.lg->o.ok->o.sm 0->K (.ag o.row) H') :
  Qv prog Fy [.c (.ptr R.l 0),.ag [cc]] H K:=by
 refine CX ?_;refine Qc Ab Qbtc ?_;have bM:=hc.ow;refine Za ?_;intro x4 bO H1 h1;have kn:=(Kn.start1 hH (R.aj k)).al bO h1;refine Za ?_;refine Ba (ns:=[1,0,2,3]) (kn.e 0 rfl) ZD ZF λp H2 hp hu=>?_;have kn:=kn.am 0 rfl hu (R.aj _);have hp:0<=p/\p<=3:=by simp at hp;omega
 simp only[go_sem,LF];intro x5 bm H3 h3;have kn:=kn.al bm h3;have dZ:=kn.l 1 rfl;simp only[go_sem,LH,dZ];intro H4 h4;have kn:=kn.aB 1 rfl h4;have fA:=kn.l 1 rfl;refine Aj ?_;simp only[go_sem,fA];refine⟨Qo,?_⟩;refine Au (kn.e 0 rfl) ZD λq H5 hq hu=>?_;have kn:=kn.am 0 rfl hu (R.aj _);have ma:=kn.l 1 rfl;rw[if_neg ZD]at hq;simp only[go_sem,LE,ma];refine⟨Qo,?_⟩;intro H6 h6;have kn:=kn.aB 1 rfl h6;obtain⟨rg,iC⟩:∃rg,p+2+q=rg:=⟨_,rfl⟩;rw[iC]at kn;refine Za ?_;refine Ba (ns:=[3,5,2,1,7,4]) (kn.e 0 rfl) ZD ZF λn0 H7 bY hu=>?_;have kn:=kn.am 0 rfl hu (R.aj _);simp only[go_sem,LD];obtain⟨n,rfl,dz,hn7⟩:∃n:Nat,n0=n/\1<=n/\n<=7:=⟨n0.toNat,by simp at bY;omega⟩;refine Wa ?_;refine Qg (Qd (Qs (λm e1 H1=>∃(b k1:Nat) (bs:List UBlk) (bc:C) (bl:List (Nat×Obj)),m=n-b/\b<=n/\bs.length=b/\k<k1/\k1<=k+3+50 * b/\(∀o∈bs,o.ok/\o.sm 0)/\Gr bl 5 (bs.map UBlk.row) bc/\
  Kn H H1 [(R.l,R.o k1)] (([(x4,.st [.int .i64 0,.int .i64 0,.sl true 5 []]),(x5,.st [.int .i64 p,.int .i64 rg,bc])]++bs.flatMap UBlk.lg)++bl)/\
  e1=[(0,.c (.ptr R.l 0)),(3,.c (.pp [cc])),(4,.c (.ptr x4 0)),(5,.c (.ptr x5 0)),(6,.c (.int .i64 n)),(7,.c (.int .i64 b))]) n ?_ ?_))
 ·exact⟨0,k+1+1+1,[],_,[],ZD,ZD,rfl,ZD,ZD,ZF,.nil 5,ZO,rfl⟩
 ·rintro m e1 H8 ⟨b,k1,bs,bc,bl,hm,hb,fO,gr,dK,ay,aq,kn,rfl⟩;have cw:=aq.ai;refine Wa ?_;refine Wv ?_ ?_
  ·intro bF;have ae:b<n:=ZaV
   refine Wb ?_;refine Za ?_;intro x8 aS H9 h9;have kn:=kn.al aS h9;have kn:=kn.perm Jf;have tX:=kn.l 0 rfl;simp only[go_sem,LC,tX];intro H10 dg;have kn:=kn.aB 0 rfl dg;refine Wa ?_;refine Ba (ns:=[1,2,0,3,4]) (kn.e 0 rfl) ZD ZF λi0 H11 jR hu=>?_;have kn:=kn.am 0 rfl hu (R.aj _);simp only[go_sem,LB];obtain⟨i,rfl,hi4⟩:∃i:Nat,i0=i/\i<=4:=⟨i0.toNat,by simp at jR;omega⟩;refine Qg (Qd (Qs (λm e1 H1=>∃(t k2:Nat) (ds:List InsD) (ic:C) (il:List (Nat×Obj)),m=t/\t+ds.length=i/\k1<k2/\k2<=k1+1+9 * ds.length/\(∀d∈ds,d.args.length<=3)/\Gr il 4 (Af ds) ic/\
    Kn H H1 [(R.l,R.o k2)] (([(x8,.st [.sl true 2 [],ic,.int .i64 0,.int .i64 0,.sl true 1 []])]++(([(x4,.st [.int .i64 0,.int .i64 0,.sl true 5 []]),(x5,.st [.int .i64 p,.int .i64 rg,bc])]++bs.flatMap UBlk.lg)++bl))++il)/\
    e1=[(0,.c (.ptr R.l 0)),(3,.c (.pp [cc])),(4,.c (.ptr x4 0)),(5,.c (.ptr x5 0)),(6,.c (.int .i64 n)),(7,.c (.int .i64 b)),(8,.c (.ptr x8 0)),(9,.c (.int .i64 t))]) i ?_ ?_))
   ·refine⟨i,k1+1,[],_,[],rfl,rfl,ZD,ZF,ZF,.nil 4,ZO,rfl⟩
   ·rintro m2 e1 H12 ⟨t,k2,ds,ic,il,eK,ht,j5,iO,lf,jS,kn,rfl⟩;have cA:=jS.ai;have aS:=kn.l 0 rfl;have bm:=kn.l 2 rfl;refine Wa ?_;refine Wv ?_ ?_
    ·intro ao;have sX:0<t:=ZI;refine Wb ?_;refine Aw ?_;simp only[go_sem,aS,bm,cA,bM];refine Qbsw (kn.e 0 rfl) ZD (hc.keep kn) λd H13 k3 vS ym hu hd=>?_;have kn:=kn.am 0 rfl hu (R.aj _);have aS:=kn.l 0 rfl;simp only[go_sem,L9,aS,cA,InsD.len4];refine kn.grow (new:=[d.cells]) jS (.mk' _ _ _ _) (by intro r hr;simp only[Ja]at hr;subst hr;rfl) (by simp only[A0,LIM,Jj,Jo];omega) λy H14 kn=>?_;have aS:=kn.l 0 rfl;simp only[go_sem,LA,aS];intro H15 nZ;have kn:=kn.aB 0 rfl nZ;refine Zg ?_;refine⟨Qo,t-1,ZD,t-1,k3,ds++[d],_,_,rfl,by simp;omega,ZD,by simp;omega,λd' cY=>?_,?_,kn,?_⟩
     ·rcases Jl.1 cY with h|h
      ·exact lf _ h
      ·simp only[Ja]at h;subst h;exact hd
     ·rw[Qbh8];exact .mk _ _ _ (by simp[A0])
     ·have:(t:Int)-1=((t-1:Nat):Int):=ZD;rw[this]
    ·intro ao;have sX:t=0:=(by have:¬0<t:=(by simpa using ao);omega);refine Zb ?_;refine Zh bm ?_;refine Au (kn.e 0 rfl) ZD λon H13 lF hu=>?_;have kn:=kn.am 0 rfl hu (R.aj _);have aS:=kn.l 0 rfl;simp only[go_sem,Nt,aS];intro H14 sU;have kn:=kn.aB 0 rfl sU;refine Za ?_;refine Ba (ns:=[2,1,2,1,3]) (kn.e 0 rfl) ZD ZF λjump H15 yn hu=>?_;have kn:=kn.am 0 rfl hu (R.aj _);have aS:=kn.l 0 rfl;simp only[go_sem,Ns,aS];intro H16 nl;have kn:=kn.aB 0 rfl nl;refine Az (λe2 H2=>∃(k2:Nat) (jump:Int),k1<k2/\k2<=k1+40/\Kn H H2 [(R.l,R.o k2)] (([(x8,.st [.sl true 2 [],ic,.int .i64 jump,.int .i64 on,.sl true 1 []])]++(([(x4,.st [.int .i64 0,.int .i64 0,.sl true 5 []]),(x5,.st [.int .i64 p,.int .i64 rg,bc])]++bs.flatMap UBlk.lg)++bl))++il)/\EnvA R cc x4 x5 x8 n b e2) ?_ ?_
     ·intro Q hn _ _;have rest:∀(v:Bool) (H2:Heap) (k2:Nat),k1<k2->k2<=k1+40->Kn H H2 [(R.l,R.o k2)] (([(x8,.st [.sl true 2 [],ic,.int .i64 jump,.int .i64 on,.sl true 1 []])]++(([(x4,.st [.int .i64 0,.int .i64 0,.sl true 5 []]),(x5,.st [.int .i64 p,.int .i64 rg,bc])]++bs.flatMap UBlk.lg)++bl))++il)->
        Ad prog LJ Q [(0,.c (.ptr R.l 0)),(3,.c (.pp [cc])),(4,.c (.ptr x4 0)),(5,.c (.ptr x5 0)),(6,.c (.int .i64 n)),(7,.c (.int .i64 b)),(8,.c (.ptr x8 0)),(68,.c (.bool v))] H2:=by
       intro v H2 k2 gr dK kn;refine Ww ?_ ?_
       ·intro hc;have aS:=kn.l 0 rfl;refine Zv aS ?_;intro H3 h3;have kn:=kn.aB 0 rfl h3;exact hn _ _ ⟨k2,3,gr,dK,kn,rfl,rfl,rfl,rfl,rfl,rfl,rfl⟩
       ·intro hc;refine Qh ?_;exact hn _ _ ⟨k2,jump,gr,dK,kn,rfl,rfl,rfl,rfl,rfl,rfl,rfl⟩
      refine Za ?_;refine⟨λ_=>Qo,?_⟩;refine⟨λbf=>?_,λbf=>?_⟩
      ·refine Au (kn.e 0 rfl) ZD λv H17 hv hu=>?_;have kn:=kn.am 0 rfl hu (R.aj _);simp only[go_sem,Pq,bf];exact rest _ _ _ ZD ZD kn
      ·by_cases h1:(n:Int)=1
       ·have hd:=decide_eq_true h1;have cD:decide ((b:Int)=n-1)=true:=decide_eq_true ZD;simp only[go_sem,Pq,hd,cD,Bool.not_true];exact rest true _ _ ZD ZD kn
       ·have h2:¬(b:Int)=n-1:=(by simpa[h1]using bf);simp only[go_sem,Pq,h1,h2,decide_false,Bool.not_false,cond_false];exact rest false _ _ ZD ZD kn
     rintro e2 H17 ⟨k3,jump,vS,ym,kn,l0,l3,l4,l5,l6,l7,l8⟩;refine Az (λe2 H2=>∃(k2:Nat) (jump on:Int) (nfl:Bool) (next:List Int),next.length<=2/\k1<k2/\k2<=k1+50/\Kn H H2 [(R.l,R.o k2)] (([(x8,.st [.sl true 2 [],ic,.int .i64 jump,.int .i64 on,.sl nfl 1 (Qb next)])]++(([(x4,.st [.int .i64 0,.int .i64 0,.sl true 5 []]),(x5,.st [.int .i64 p,.int .i64 rg,bc])]++bs.flatMap UBlk.lg)++bl))++il)/\EnvA R cc x4 x5 x8 n b e2) ?_ ?_
     ·intro Q hn _ _;have aS:=kn.l 0 rfl;refine Qa ?_;simp only[go_sem,aS,l0,l3,l4,l5,l6,l7,l8];refine Wp ?_;refine Ww ?_ ?_
      ·intro hc;refine Zh aS ?_;intro H18 xw;have kn:=kn.aB 0 rfl xw;refine Zi ?_;refine EA (kn.e 0 rfl) ZD ZD ZD λv1 H19 k4 yl yk hu=>?_;have kn:=kn.am 0 rfl hu (R.aj _);have aS:=kn.l 0 rfl;simp only[go_sem,Nr,aS];intro H20 qx;have kn:=kn.aB 0 rfl qx;exact hn _ _ ⟨k4,jump,0,true,[v1],ZF,ZD,ZD,kn,rfl,rfl,rfl,rfl,rfl,rfl,rfl⟩
      ·intro hc;refine Za ?_;refine Ww ?_ ?_
       ·intro hc;refine Zi ?_;refine EA (kn.e 0 rfl) ZD ZD ZD λv1 H19 k4 yl yk hu=>?_;have kn:=kn.am 0 rfl hu (R.aj _);simp only[go_sem,Np];refine EA (kn.e 0 rfl) ZD ZD ZD λv2 H20 k5 hk9 hk10 hu=>?_;have kn:=kn.am 0 rfl hu (R.aj _);have aS:=kn.l 0 rfl;simp only[go_sem,Nq,aS];intro H21 h21;have kn:=kn.aB 0 rfl h21;exact hn _ _ ⟨k5,jump,on,true,[v1,v2],ZF,ZD,ZD,kn,rfl,rfl,rfl,rfl,rfl,rfl,rfl⟩
       ·intro hc;refine Qh ?_;exact hn _ _ ⟨k3,jump,on,true,[],ZF,ZD,ZD,kn,rfl,rfl,rfl,rfl,rfl,rfl,rfl⟩
     rintro e3 H18 ⟨k4,jump,on,nfl,next,fd,yl,yk,kn,l0,l3,l4,l5,l6,l7,l8⟩;have aS:=kn.l 0 rfl;have bm:=kn.l 2 rfl;refine Qp ?_;simp only[go_sem,aS,bm,l5,l8,cA,cw];obtain⟨o,ho⟩:∃o:UBlk,o=⟨[],.sl true 2 [],[],ds,ic,il,jump,on,nfl,next⟩:=⟨_,rfl⟩;have iI:[C.sl true 2 [],ic,C.int IntKind.i64 jump,C.int IntKind.i64 on,C.sl nfl 1 (Qb next)]=o.row:=Zbj;have dJ:o.lg=il:=(by rw[ho];simp[UBlk.lg]);have jz:o.ok:=(by rw[ho];exact⟨.nil 2,jS,ZF⟩);have oS:o.sm 0:=(by rw[ho];exact⟨fd,by show ds.length<=_;omega,ZF,λd hd=>by have:=lf d hd;omega,ZF⟩);rw[iI];have kn:=(kn.perm Xb).drop;refine kn.grow (new:=[o.row]) aq (.mk' _ _ _ _) (by intro r hr;simp only[Ja]at hr;subst hr;exact o.an jz) ZS λz H19 kn=>?_;have kn:Kn H H19 [(R.l,R.o k4)] (([(x4,.st [.int .i64 0,.int .i64 0,.sl true 5 []]),(x5,.st [.int .i64 p,.int .i64 rg,bc])]++(bs++[o]).flatMap UBlk.lg)++[(z,.vec 5 ((bs++[o]).map UBlk.row))]):=by
      simpa[Js,Ji,dJ]using kn
     have bm:=kn.l 1 rfl;simp only[go_sem,No,bm,l0,l3,l4,l5,l6,l7];intro H20 qx;have kn:=kn.aB 1 rfl qx;refine Zg ?_;refine⟨Qo,n-(b+1),ZD,b+1,k4,bs++[o],_,_,rfl,ZD,by simp[fO],ZD,ZD,λo' eQ=>?_,.mk _ _ _ ZF,kn,rfl⟩;rcases Jl.1 eQ with h|h
     ·exact ay o' h
     ·simp only[Ja]at h;subst h;exact⟨jz,oS⟩
  ·intro bF;have cM:b=n:=by have:¬b<n:=ZaV;omega
   have bO:=kn.l 0 rfl;have bm:=kn.l 1 rfl;refine Zb ?_;refine Zo bm bO cw ?_;intro H9 h9;have kn:=kn.aB 0 rfl h9;have bO:=kn.l 0 rfl;refine Zp bO cw ?_;obtain⟨o,ho⟩:∃o:UCode,o=⟨p,rg,bs,bc,bl⟩:=⟨_,rfl⟩;have jz:o.ok:=by rw[ho];exact⟨aq,λb hb=>(ay b hb).1,hp.1,hp.2⟩
   have oS:o.sm 0:=by rw[ho];exact⟨by show 0<bs.length;omega,by show bs.length<=_;omega,λb hb=>(ay b hb).2⟩
   have kn:Kn H H9 [(R.l,R.o k1)] ([(x4,.st [.int .i64 p,.int .i64 rg,bc]),(x5,.st [.int .i64 p,.int .i64 rg,bc])]++o.lg):=by
    rw[ho];simpa[UCode.lg,Ji]using kn
   refine⟨unx H o.lg,.ag o.row,H9.frz (unx H o.lg),?_,CL _ _,hK o _ k1 gr ZD kn.finK jz oS⟩;rw[ho];exact FrzL.ag (.cons (Qi rfl) (.cons (Qi rfl) (.cons (.same _ cw) .nil)))
end Go.AE.Y
namespace Go.AE
open Go.AE.Y
open Go.Proofs.Tryz
variable {H:Heap}{K:V->Heap->Prop}
theorem Gr.slc {H0 H:Heap}{E B Lg:List (Nat×Obj)}{sz:Nat}{rows:List (List C)}{c:C}(h:Gr Lg sz rows c)(kn:Kn H0 H E (B++Lg)):Slc H sz rows c:=by
 obtain⟨h1,h2⟩:=h.get kn;exact⟨h1,h.aN,h2,h.ax⟩
theorem Gr.ne {H0 H:Heap}{E B Lg:List (Nat×Obj)}{sz:Nat}{rows:List (List C)}{c:C}{r:Nat}{o:Obj}(h:Gr Lg sz rows c)(kn:Kn H0 H E (B++Lg))(hr:(r,o)∈E):∀l a d n,c=.ah l a d n->l≠r:=by
 intro l a d n hc hh;rcases h with ⟨h1,_⟩|⟨y,h1,h2⟩
 ·rw[h1]at hc;simp at hc
 ·rw[h1]at hc;have hy:y=l:=by injection hc
  have:=kn.loc (y,.vec sz rows) Zan;exact kn.ext (r,o) hr (by rw[<-hh,<-hy];exact this)
theorem Gr.slcM {H0 H:Heap}{E L Lg:List (Nat×Obj)}{sz:Nat}{rows:List (List C)}{c:C}(h:Gr Lg sz rows c)(kn:Kn H0 H E L)(hm:∀p∈Lg,p∈L):Slc H sz rows c:=by
 rcases h with ⟨h1,h2,h3⟩|⟨y,h1,h2⟩
 ·rw[h1,h2];exact .mk' _ _ _ _
 ·have hy:H y=.vec sz rows:=(kn.get (y,.vec sz rows) (Je _ (hm _ Zan))).1;rw[h1];exact⟨by simp[Go.AE.aZ,hy],rfl,by simp[Go.AE.rowsOf,hy],rfl⟩
end Go.AE
namespace Go.AE.Y
open Go.Proofs.Tryz
variable {H:Heap}{K:V->Heap->Prop}
theorem V3 {H0 H:Heap}{B cl:List (Nat×Obj)}{R:Rdr}{o:Obj}{us:List UCode}{cc:C}(hg:Gr cl 3 (us.map UCode.row) cc)(kn:Kn H0 H [(R.l,o)] (B++cl))(hu:∀u∈us,u.ok):CRd H R cc (us.map UCode.row):=by
 refine⟨hg.slc kn,hg.ai,hg.ne kn (o:=o) ZF,λi hi=>?_⟩;rw[Jk]at hi;refine⟨us[i].params,.int .i64 us[i].ab,us[i].bc,by simp[Jb,hi,UCode.row],(hu _ (Jc hi)).p0,(hu _ (Jc hi)).p1⟩
set_option maxHeartbeats 4000000 in
theorem I6 {R:Rdr}{k:Nat}(hH:H R.l=R.o k)(hk:k+10000<=2^40)
  (hK:∀(cs:List CodeD) (H':Heap) (k':Nat),k<k'->k'<=k+10000->Upd H H' [(R.l,R.o k')]->0<cs.length->cs.length<=3->(∀c∈cs,c.sm)->K (.ag [.sl false 3 (Qw cs)]) H') :
  Qv prog Re [.c (.ptr R.l 0)] H K:=by
 refine Q0 ?_;refine Qc Ab Qbtg ?_;refine Za ?_;intro x2 aW H1 h1;have kn:=(Kn.start1 hH (R.aj k)).al aW h1;refine Za ?_;intro x3 aF H2 h2;have kn:=kn.al aF h2;have ge:=kn.l 1 rfl;simp only[go_sem,LT,ge];intro H3 h3;have kn:=kn.aB 1 rfl h3;refine Wa ?_;refine Ba (ns:=[1,2,1,3]) (kn.e 0 rfl) ZD ZF λi0 H4 jR hu=>?_;have kn:=kn.am 0 rfl hu (R.aj _);simp only[go_sem,LR];obtain⟨i,rfl,wm,hi3⟩:∃i:Nat,i0=i/\1<=i/\i<=3:=⟨i0.toNat,by simp at jR;omega⟩;refine Qg (Qd (Qs (λm e1 H1=>∃(t k1:Nat) (us:List UCode) (cc:C) (cl:List (Nat×Obj)),m=t/\t+us.length=i/\k<k1/\k1<=k+1+1000 * us.length/\(∀u∈us,u.ok/\u.sm 0)/\Gr cl 3 (us.map UCode.row) cc/\
  Kn H H1 [(R.l,R.o k1)] (([(x2,.st [.sl true 3 []]),(x3,.st [cc])]++us.flatMap UCode.lg)++cl)/\
  e1=[(0,.c (.ptr R.l 0)),(2,.c (.ptr x2 0)),(3,.c (.ptr x3 0)),(4,.c (.int .i64 t))]) i ?_ ?_))
 ·exact⟨i,k+1,[],_,[],rfl,rfl,ZD,ZF,ZF,.nil 3,ZO,rfl⟩
 ·rintro m e1 H5 ⟨t,k1,us,cc,cl,hm,ht,gr,dK,ay,aq,kn,rfl⟩;have b9:=aq.ai;have aF:=kn.l 1 rfl;refine Wa ?_;refine Wv ?_ ?_
  ·intro hc;have sX:0<t:=ZG
   refine Wo ?_;simp only[go_sem,aF,b9];refine Qbsu (kn.e 0 rfl) ZD (V3 aq kn λu hu=>(ay u hu).1) λo H6 k2 j5 iO kn2 fT mt=>?_;have kn:=kn.compE 0 rfl kn2;have aF:=kn.l 1 rfl;simp only[go_sem,LP,aF,b9,o.len3];have kn:=kn.perm BI;refine kn.grow (new:=[o.row]) aq (.mk' _ _ _ _) (by intro r hr;simp only[Ja]at hr;subst hr;exact o.an fT) ZS λz H7 kn=>?_;have kn:Kn H H7 [(R.l,R.o k2)] (([(x2,.st [.sl true 3 []]),(x3,.st [cc])]++(us++[o]).flatMap UCode.lg)++[(z,.vec 3 ((us++[o]).map UCode.row))]):=by
    simpa[Js,Ji]using kn
   have aF:=kn.l 1 rfl;simp only[go_sem,LQ,aF];intro H8 h8;have kn:=kn.aB 1 rfl h8;refine Zg ?_;refine⟨Qo,t-1,ZD,t-1,k2,us++[o],_,_,rfl,by simp;omega,ZD,by simp;omega,λo' eQ=>?_,.mk _ _ _ ZF,kn,?_⟩
   ·rcases Jl.1 eQ with h|h
    ·exact ay o' h
    ·simp only[Ja]at h;subst h;exact⟨fT,mt⟩
   ·have:(t:Int)-1=((t-1:Nat):Int):=ZD;rw[this]
  ·intro hc;have sX:t=0:=by have:¬0<t:=ZG;omega
   refine Zb ?_;refine Wa ?_;refine Ba (ns:=[0,0,1,3]) (kn.e 0 rfl) ZD ZF λj0 H6 jQ hu=>?_;have kn:=kn.am 0 rfl hu (R.aj _);simp only[go_sem,LN];obtain⟨j,rfl,hj3⟩:∃j:Nat,j0=j/\j<=3:=⟨j0.toNat,by simp at jQ;omega⟩;have cB:0<us.length:=ZD
   have hcl3:us.length<=3:=ZD
   refine Qg (Qd (Qs (λm e1 H1=>∃(t k2 N:Nat) (us:List UCode),m=t/\t+N=j/\us.length=i/\k<k2/\k2<=k1+1+200 * N/\(∀u∈us,u.ok/\u.sm N)/\Gr cl 3 (us.map UCode.row) cc/\
    Kn H H1 [(R.l,R.o k2)] (([(x2,.st [.sl true 3 []]),(x3,.st [cc])]++us.flatMap UCode.lg)++cl)/\
    e1=[(0,.c (.ptr R.l 0)),(2,.c (.ptr x2 0)),(3,.c (.ptr x3 0)),(5,.c (.int .i64 t))]) j ?_ ?_))
   ·exact⟨j,k1+1,0,us,rfl,rfl,ZD,ZD,ZD,ay,aq,kn,rfl⟩
   ·rintro m e1 H7 ⟨t,k2,N,us,hm,ht,sV,j5,iO,ay,aq,kn,rfl⟩;have aF:=kn.l 1 rfl;refine Wa ?_;refine Wv ?_ ?_
    ·intro hc;have sX:0<t:=ZG;refine Zd ?_;have bz:∀p∈cl,p∈(([(x2,.st [.sl true 3 []]),(x3,.st [cc])]++us.flatMap UCode.lg)++cl):=λp hp=>Za2;refine Az (λe2 H2=>∃(k3:Nat) (us:List UCode),us.length=i/\k<k3/\k3<=k2+200/\(∀u∈us,u.ok/\u.sm (N+1))/\Gr cl 3 (us.map UCode.row) cc/\
      Kn H H2 [(R.l,R.o k3)] (([(x2,.st [.sl true 3 []]),(x3,.st [cc])]++us.flatMap UCode.lg)++cl)/\lk 0 e2=.c (.ptr R.l 0)/\lk 2 e2=.c (.ptr x2 0)/\lk 3 e2=.c (.ptr x3 0)/\lk 5 e2=.c (.int .i64 t)) ?_ ?_
     ·intro Q hn _ _;have hs:=aq.slc kn;have aE:=eq_true hs.ok;have ak:=hs.len;have bj:=hs.sz;rw[Jk]at ak;refine Qd (Aj ?_);simp only[go_sem,aF,b9,aE,ak];refine Au (kn.e 0 rfl) ZD λv H8 hv hu=>?_;have kn:=kn.am 0 rfl hu (R.aj _);rw[if_neg ZD]at hv;obtain⟨ci,rfl⟩:=Jn hv.1;have cn:ci<us.length:=ZD;have aF:=kn.l 1 rfl;have hs:=aq.slc kn;have aE:=eq_true hs.ok;simp only[go_sem,Lt,aF,b9,aE,ak,bj,cn];obtain⟨u,hu⟩:∃u,us[ci]=u:=⟨_,rfl⟩;obtain⟨dh,dw⟩:=ay _ (Jc cn);rw[hu]at dh dw;have a8:(us.map UCode.row).getD ci []=[.int .i64 u.params,.int .i64 u.ab,u.bc]:=(by rw[<-hu];simp[Jb,cn,UCode.row]);have kx:=dw.b0;have qQ:=dw.b;obtain⟨yb,db,bG⟩:=UCode.bvec dh kx;have fW:=dh.b.ai;have hD:=dh.b.ax;rw[Jk]at hD;have ce:=hs.rows;have nA:∀p∈u.bl,p∈(([(x2,.st [.sl true 3 []]),(x3,.st [cc])]++us.flatMap UCode.lg)++cl):=λp hp=>by
       have:p∈us.flatMap UCode.lg:=J9.2 ⟨u,by rw[<-hu];exact Jc cn,Je _ hp⟩;simp[this]
      have bn:=eq_true (dh.b.slcM kn nA).ok;refine Qa ?_;simp only[go_sem,aE,ak,bj,cn,ce,a8,fW,hD,bn];intro _;refine Au (kn.e 0 rfl) ZD λv H9 hv qg=>?_;have kn:=kn.am 0 rfl qg (R.aj _);rw[if_neg ZD]at hv;obtain⟨bi,rfl⟩:=Jn hv.1;have bA:bi<u.blocks.length:=ZD;have aE:=eq_true (aq.slcM kn bz).ok;have ce:=(aq.slcM kn bz).rows;simp only[go_sem,Ls];refine Qa ?_;simp only[go_sem,aE,ak,bj,cn,ce,a8];refine Au (kn.e 0 rfl) ZD λto H10 _ fh=>?_;have kn:=kn.am 0 rfl fh (R.aj _);simp only[go_sem,Nd];intro x8 aS H11 dG;have kn:=kn.al aS dG;have kn:=kn.perm Jf;have aS:=kn.l 0 rfl;simp only[go_sem,Nf,aS];intro H12 f0;have kn:Kn H H12 [(R.l,R.o (k2+1+1+1))] ([(x8,.st [.int .i64 to,.sl true 1 []])]++(([(x2,.st [.sl true 3 []]),(x3,.st [cc])]++us.flatMap UCode.lg)++cl)):=kn.aB 0 rfl f0;have gU:∀p∈cl,p∈([(x8,Obj.st [.int .i64 to,.sl true 1 []])]++(([(x2,.st [.sl true 3 []]),(x3,.st [cc])]++us.flatMap UCode.lg)++cl)):=λp hp=>Je _ (bz p hp);have aE:=eq_true (aq.slcM kn gU).ok;have ce:=(aq.slcM kn gU).rows;have fO:=dh.b.slcM kn (λp hp=>Je _ (nA p hp));refine Q3 (Qa ?_);simp only[go_sem,aE,ak,bj,cn,ce,a8,fW];refine CY (rows:=u.blocks.map UBlk.row) (nx:=λi=>(u.blocks.map UBlk.next).getD i []) fO fW (λi hi=>?_) λH13 u9=>?_
      ·rw[Jk]at hi;refine⟨u.blocks[i].pc,u.blocks[i].ic,.int .i64 u.blocks[i].jump,.int .i64 u.blocks[i].on,u.blocks[i].nfl,?_⟩;simp[Jb,hi,UBlk.row]
      have kn:=kn.aw u9;obtain⟨ps,iE⟩:∃ps,Qz (λi=>(u.blocks.map UBlk.next).getD i []) (bi:Int) (u.blocks.map UBlk.row).length=ps:=⟨_,rfl⟩;have uS:ps.length<=160:=by
       have:=Ct (λi=>(u.blocks.map UBlk.next).getD i []) (bi:Int) (u.blocks.map UBlk.row).length;rw[iE,Jk]at this;omega
      rw[iE];simp only[go_sem,Nc,Qe];intro _;refine Qg (Qd (Qs (λm e1 H1=>∃(q:Nat) (ns:List Int) (ac:C) (al:List (Nat×Obj)),m=ps.length-q/\q<=ps.length/\ns.length=q/\Gr al 1 (Qb ns) ac/\
       Kn H H1 [(R.l,R.o (k2+1+1+1+q))] (([(x8,.st [.int .i64 to,ac])]++(([(x2,.st [.sl true 3 []]),(x3,.st [cc])]++us.flatMap UCode.lg)++cl))++al)/\
       e1=[(0,.c (.ptr R.l 0)),(2,.c (.ptr x2 0)),(3,.c (.ptr x3 0)),(5,.c (.int .i64 t)),(6,.c (cc.ep 3 ci 0)),(7,.c (.int .i64 bi)),(8,.c (.ptr x8 0)),(59,.c (.int .i64 ps.length)),(60,.c (.int .i64 q))]) ps.length ?_ ?_))
      ·exact⟨0,[],_,[],ZD,ZD,rfl,.nil 1,ZO,rfl⟩
      ·rintro m2 e1 H14 ⟨q,ns,ac,al,eK,hq,dq,wq,kn,rfl⟩;have eT:=wq.ai;have aS:=kn.l 0 rfl;have nD:∀p∈cl,p∈(([(x8,Obj.st [.int .i64 to,ac])]++(([(x2,.st [.sl true 3 []]),(x3,.st [cc])]++us.flatMap UCode.lg)++cl))++al):=λp hp=>List.mem_append_left _ (Je _ (bz p hp));have aE:=eq_true (aq.slcM kn nD).ok;have ce:=(aq.slcM kn nD).rows;refine Za ?_;refine Wv ?_ ?_
       ·intro hc;have ae:q<ps.length:=ZG;refine Wo ?_;simp only[go_sem,aS,eT,aE,ak,bj,cn,ce,a8];refine Au (kn.e 0 rfl) ZD λv H15 _ u7=>?_;have kn:=kn.am 0 rfl u7 (R.aj _);have aS:=kn.l 0 rfl;simp only[go_sem,Na,aS,eT];refine kn.grow (new:=Qb [v]) wq (.mk' _ _ _ _) (Qy _) Zaz λy H16 kn=>?_;have aS:=kn.l 0 rfl;simp only[go_sem,Nb,aS];intro H17 h17;have kn:=kn.aB 0 rfl h17;refine Zg ?_;refine⟨Qo,ps.length-(q+1),ZD,q+1,ns++[v],_,_,rfl,ZD,by simp[dq],?_,kn,rfl⟩;rw[<-CO];exact .mk _ _ _ (by simp[CO,Qe])
       ·intro hc;have hqp:q=ps.length:=(by have:¬q<ps.length:=(by simpa using hc);omega);refine Wc ?_;refine Ww ?_ ?_
        ·intro hc;obtain⟨blk,cH⟩:∃blk,u.blocks[bi]=blk:=⟨_,rfl⟩;have gZ:=dh.bs _ (Jc bA);have fV:=dw.bs _ (Jc bA);rw[cH]at gZ fV;have wF:=fV.p;have du:(u.blocks.map UBlk.row).getD bi []=[blk.pc,blk.ic,.int .i64 blk.jump,.int .i64 blk.on,.sl blk.nfl 1 (Qb blk.next)]:=(by rw[<-cH];simp[Jb,bA,UBlk.row]);have ef:=gZ.p.ai;have bI:(u.blocks.map UBlk.row).length=u.blocks.length:=ZF;have kn:Kn H H14 [(R.l,R.o (k2+1+1+1+q))] (([(yb,.vec 5 (u.blocks.map UBlk.row))]++([(x8,.st [.int .i64 to,ac])]++([(x2,.st [.sl true 3 []]),(x3,.st [cc])]++(blk.core++(al++(Bz us ci bi cn++cl))))))++blk.pl):=kn.perm (Qt λf hf h0 bF hp=>by
          have h1:=hp _ _ (YQ us ci bi cn (by rw[hu];exact bA));subst hu;rw[cH,bG]at h1;simp only[hf]at h1⊢;omega)
         have cd:=kn.l 0 rfl;have aS:=kn.l 1 rfl;have nC:∀p∈cl,p∈(([(yb,Obj.vec 5 (u.blocks.map UBlk.row))]++([(x8,Obj.st [.int .i64 to,ac])]++([(x2,Obj.st [.sl true 3 []]),(x3,Obj.st [cc])]++(blk.core++(al++(Bz us ci bi cn++cl))))))++blk.pl):=λp hp=>Za2;have aE:=eq_true (aq.slcM kn nC).ok;have ce:=(aq.slcM kn nC).rows;obtain⟨ph,dB⟩:∃ph:UPhi,ph=⟨to,ns,ac,al⟩:=⟨_,rfl⟩;have oR:[C.int IntKind.i64 to,ac]=ph.row:=(by rw[dB];rfl);have mj:ph.al=al:=(by rw[dB]);have ro:Gr ph.al 1 (Qb ph.ns) ph.ac:=(by rw[dB];exact wq);rw[db]at a8 fW hD;have tv:=gZ.p;have b8:List.take u.blocks.length (u.blocks.map UBlk.row)=u.blocks.map UBlk.row:=Jd ZF;refine Aw ?_;simp only[go_sem,aS,eT,aE,ak,bj,cn,ce,a8,cd,bA,bI,b8,du,ef,Jp,Jh];rw[oR];refine kn.grow (new:=[ph.row]) tv (.mk' _ _ _ _) (by intro r hr;simp only[Ja]at hr;subst hr;exact ph.an ro) ZS λz H15 kn=>?_;have kn:Kn H H15 [(R.l,R.o (k2+1+1+1+q))] ([(yb,.vec 5 (u.blocks.map UBlk.row))]++(([(x8,.st [.int .i64 to,ac])]++([(x2,.st [.sl true 3 []]),(x3,.st [cc])]++(blk.core++(al++(Bz us ci bi cn++cl)))))++[(z,.vec 2 ((blk.aa++[ph]).map UPhi.row))])):=by
          simpa[Ji]using kn
         have cd:=kn.l 0 rfl;have nB:∀p∈cl,p∈([(yb,Obj.vec 5 (u.blocks.map UBlk.row))]++(([(x8,Obj.st [.int .i64 to,ac])]++([(x2,Obj.st [.sl true 3 []]),(x3,Obj.st [cc])]++(blk.core++(al++(Bz us ci bi cn++cl)))))++[(z,.vec 2 ((blk.aa++[ph]).map UPhi.row))])):=λp hp=>Za2;have aE:=eq_true (aq.slcM kn nB).ok;have ce:=(aq.slcM kn nB).rows;simp only[go_sem,MZ,aE,ak,bj,cn,ce,a8,cd,bA,bI,du,Jp,Jh];intro H16 nl;obtain⟨b',aU⟩:∃b':UBlk,b'={ blk with aa:=blk.aa++[ph],pc:=.ah z 2 0 ((blk.aa.map UPhi.row).length+1),pl:=[(z,.vec 2 ((blk.aa++[ph]).map UPhi.row))] }:=⟨_,rfl⟩;have pL:[C.ah z 2 0 ((blk.aa.map UPhi.row).length+1),blk.ic,C.int IntKind.i64 blk.jump,C.int IntKind.i64 blk.on,C.sl blk.nfl 1 (Qb blk.next)]=b'.row:=(by rw[aU];rfl);have s0:(u.blocks.map UBlk.row).set bi b'.row=(u.blocks.set bi b').map UBlk.row:=(by rw[Jv]);rw[pL,s0]at nl;have kn:=kn.aB 0 rfl nl;have lq:b'.ok:=by
          rw[aU];refine⟨.mk _ _ _ ZF,gZ.i,λp hp=>?_⟩;rcases Jl.1 hp with h|h
          ·exact gZ.a p h
          ·simp only[Ja]at h;subst h;exact ro
         have lp:b'.sm (N+1):=by
          rw[aU];refine⟨fV.n,fV.i,by simp;omega,fV.ia,λp hp=>?_⟩;rcases Jl.1 hp with h|h
          ·exact fV.pa p h
          ·simp only[Ja]at h;subst h;rw[dB];show ns.length<=1000;omega
         obtain⟨u',gM⟩:∃u',u'=u.put bi b' [(yb,.vec 5 ((u.blocks.set bi b').map UBlk.row))]:=⟨_,rfl⟩;have ku:u'.ok:=(by rw[gM];exact UCode.put_ok dh lq bG);have kr:u'.sm (N+1):=(by rw[gM];exact UCode.put_sm dw lp);have rN:Kn H H16 [(R.l,R.o (k2+1+1+1+q))] ((([(x2,.st [.sl true 3 []]),(x3,.st [cc])]++(us.set ci u').flatMap UCode.lg)++cl)++[(x8,.st [.int .i64 to,ac])]):=kn.perm (Qt λf hf h0 bF hp=>by
          have h1:=hp _ _ (VD us ci bi cn (by rw[hu];exact bA) b' [(yb,.vec 5 ((u.blocks.set bi b').map UBlk.row))]);rw[hu,<-gM]at h1;have h2:b'.core=blk.core++al:=(by rw[aU,UBlk.core_snoc,mj]);have h3:b'.pl=[(z,.vec 2 ((blk.aa++[ph]).map UPhi.row))]:=(by rw[aU]);rw[h2,h3]at h1;simp only[Jr,Jq,Jt,hf,bF _ (_::_),bF _ (_++_)]at h1⊢;omega)
         refine hn _ _ ⟨k2+1+1+1+q,us.set ci u',by simpa using sV,ZD,ZD,λv hv=>?_,?_,rN.drop,rfl,rfl,rfl,rfl⟩
         ·rcases J0 hv with hv|rfl
          ·exact⟨(ay v hv).1,(ay v hv).2.mono ZD⟩
          ·exact⟨ku,kr⟩
         ·rw[VC us ci cn u' (by rw[gM,UCode.put_row,hu])];exact aq
        ·intro hc;refine Zd ?_;refine hn _ _ ⟨k2+1+1+1+q,us,sV,ZD,ZD,λu hu=>⟨(ay u hu).1,(ay u hu).2.mono ZD⟩,aq,?_,rfl,rfl,rfl,rfl⟩;have kn:=kn.drop;exact (kn.perm Jf).drop
     rintro e2 H8 ⟨k3,us,sV,vS,ym,ay,aq,kn,l0,l2,l3,l5⟩;refine Qp ?_;simp only[go_sem,X.next,l0,l2,l3,l5];refine⟨Qo,t-1,ZD,t-1,k3,N+1,us,rfl,ZD,sV,vS,ZD,ay,aq,kn,?_⟩;have:(t:Int)-1=((t-1:Nat):Int):=ZD;rw[this]
    ·intro hc;refine Zb ?_;have aW:=kn.l 0 rfl;refine Zo aW aF b9 ?_;intro H8 h8;have kn:=kn.aB 0 rfl h8;have aW:=kn.l 0 rfl;refine Zp aW b9 ?_;have fv:Held H8 (un H) (us.flatMap UCode.lg++cl):=λp hp=>by
      have ej:p∈(([(x2,Obj.st [cc]),(x3,Obj.st [cc])]++us.flatMap UCode.lg)++cl):=by
       rcases Jl.1 hp with h|h
       ·simp[h]
       ·simp[h]
      exact⟨(kn.get p (Je _ ej)).1,BE (kn.loc p ej)⟩
     obtain⟨cs,hf,wA,iu⟩:=UCodes.frz (N:=N) ZD aq ay fv;exact⟨_,FrzL.ag (.cons hf .nil),hK cs _ k2 j5 ZD kn.fin ZD ZD iu⟩
end Go.AE.Y
namespace Go.AE
open Go.AE.Y
open Go.Proofs.Tryz
variable {H:Heap}{K:V->Heap->Prop}
theorem Kn.lm {H0 H:Heap}{E L:List (Nat×Obj)}{x:Nat}{o:Obj}(kn:Kn H0 H E L)(h:(x,o)∈L):H x=o:=(kn.get (x,o) (Je _ h)).1
end Go.AE
namespace Go.AE.Y
open Go.Proofs.Tryz
variable {H:Heap}{K:V->Heap->Prop}
set_option maxHeartbeats 4000000 in
theorem Qbst {R:Rdr}{k:Nat}(hH:H R.l=R.o k)(hk:k+20000<=2^40)
  (hK:∀(cs:List CodeD) (H':Heap) (k':Nat),k<k'->k'<=k+20000->Upd H H' [(R.l,R.o k')]->0<cs.length->cs.length<=3->(∀c∈cs,c.gd)->K (.ag [.sl false 3 (Qw cs)]) H') :
  Qv prog Fz [.c (.ptr R.l 0)] H K:=by
 refine Q0 ?_;refine Qc Ab Qbtb ?_;refine Za ?_;intro x2 aW H1 h1;have kn:=(Kn.start1 hH (R.aj k)).al aW h1;refine Za ?_;refine I6 (kn.e 0 rfl) ZD λcs H2 k1 gr dK hu j9 so fy=>?_;have kn:=kn.am 0 rfl hu (R.aj _);simp only[go_sem,Mi];refine Qaz6 fy ZD λus cc cl H3 k2 aq ay me=>?_;have kn:=kn.comp0 k2;have b9:=aq.ai;simp only[go_sem,Mj];intro x3 aF H4 h4;have kn:=kn.al aF h4;have kn:=kn.perm Jf;have aF:=kn.l 0 rfl;simp only[go_sem,Mk,aF];intro H5 h5;have kn:=kn.aB 0 rfl h5;have kn:Kn H H5 [(R.l,R.o k1)] (([(x2,.st [.sl true 3 []]),(x3,.st [cc])]++us.flatMap OCode.lg)++cl):=kn.perm (Qt λf hf h0 bF hp=>by
  simp only[Jr,Jq,Jt,hf,bF _ (_::_),bF _ (_++_)];omega)
 have aF:=kn.l 1 rfl;have hs:=aq.slc kn;have aE:=eq_true hs.ok;have ak:=hs.len;have bj:=hs.sz;rw[Jk]at ak;refine Aj ?_;simp only[go_sem,aF,b9,aE,ak];refine Au (kn.e 0 rfl) ZD λv H6 hv hu=>?_;have kn:=kn.am 0 rfl hu (R.aj _);rw[if_neg ZD]at hv;obtain⟨ci,rfl⟩:=Jn hv.1;have cn:ci<us.length:=ZD
 have aF:=kn.l 1 rfl;have hs:=aq.slc kn;have aE:=eq_true hs.ok;have ce:=hs.rows;simp only[go_sem,Mh,aF,b9,aE,ak,bj,cn];obtain⟨u,hu⟩:∃u,us[ci]=u:=⟨_,rfl⟩;obtain⟨dh,dw⟩:=ay _ (Jc cn);rw[hu]at dh dw;have a8:(us.map OCode.row).getD ci []=[.int .i64 u.params,.int .i64 u.ab,u.bc]:=by rw[<-hu];simp[Jb,cn,OCode.row]
 have kx:=dw.b0;have qQ:=dw.b;obtain⟨yb,db,bG⟩:=OCode.bvec dh kx;have fW:(C.ah yb 5 0 u.blocks.length).ai=false:=rfl;have hD:ax (C.ah yb 5 0 u.blocks.length)=u.blocks.length:=rfl;rw[db]at a8;have jl:(yb,Obj.vec 5 (u.blocks.map OBlk.row))∈(([(x2,Obj.st [.sl true 3 []]),(x3,.st [cc])]++us.flatMap OCode.lg)++cl):=by
  have:(yb,Obj.vec 5 (u.blocks.map OBlk.row))∈us.flatMap OCode.lg:=J9.2 ⟨u,by rw[<-hu];exact Jc cn,Je _ (by rw[bG];simp)⟩;simp[this]
 have cd:=kn.lm jl;have bI:(u.blocks.map OBlk.row).length=u.blocks.length:=ZF
 have b8:List.take u.blocks.length (u.blocks.map OBlk.row)=u.blocks.map OBlk.row:=Jd ZF;refine Aj ?_;simp only[go_sem,aE,ak,bj,cn,ce,a8,cd,bI,Jh,Jm];refine Au (kn.e 0 rfl) ZD λv H7 hv u6=>?_;have kn:=kn.am 0 rfl u6 (R.aj _);rw[if_neg ZD]at hv;obtain⟨bi,rfl⟩:=Jn hv.1;have bA:bi<u.blocks.length:=ZD
 have hs:=aq.slc kn;have aE:=eq_true hs.ok;have ce:=hs.rows;have cd:=kn.lm jl;simp only[go_sem,Mg,aE,ak,bj,cn,ce,a8,cd,bI,bA,Jh,Jm];refine Aj ?_;simp only[go_sem,aE,ak,bj,cn,ce,a8,cd,bI,Jh,Jm];refine Ba (ns:=[-1,u.ab,u.blocks.length,0,1]) (kn.e 0 rfl) ZD ZF λbad H8 _ u5=>?_;have kn:=kn.am 0 rfl u5 (R.aj _);simp only[go_sem,Mf];refine Wa ?_;refine Au (kn.e 0 rfl) ZD λkind H9 _ qg=>?_;have kn:=kn.am 0 rfl qg (R.aj _);refine Az (λe2 H2=>∃(k3:Nat) (us:List OCode) (cl:List (Nat×Obj)),us.length=cs.length/\k<k3/\k3<=k+20000/\(∀u∈us,u.ok/\u.sm 1001)/\Gr cl 3 (us.map OCode.row) cc/\
   Kn H H2 [(R.l,R.o k3)] (([(x2,.st [.sl true 3 []]),(x3,.st [cc])]++us.flatMap OCode.lg)++cl)/\lk 2 e2=.c (.ptr x2 0)/\lk 3 e2=.c (.ptr x3 0)) ?_ ?_
 ·intro Q hn _ _;have hull:us.length=cs.length:=me;have knO:=kn;obtain⟨blk,cH⟩:∃blk,u.blocks[bi]=blk:=⟨_,rfl⟩;have bn:=dh.bs _ (Jc bA);have cr:=dw.bs _ (Jc bA);rw[cH]at bn cr;have du:(u.blocks.map OBlk.row).getD bi []=[blk.pc,blk.ic,.int .i64 blk.jump,.int .i64 blk.on,.ah blk.nx.y 1 0 blk.nx.ns.length]:=by rw[<-cH];simp[Jb,bA,OBlk.row,OInts.c]
  have ef:=bn.p.ai;have cA:=bn.i.ai;have kn:=KU kn cn hu bA cH bG;have bK:∀b':OBlk,(u.blocks.map OBlk.row).set bi b'.row=(u.blocks.set bi b').map OBlk.row:=λb'=>(Jv).symm;have cS:∀(b':OBlk) (H2:Heap) (k3:Nat) (e2:Env),b'.ok->b'.sm 1001->k<k3->k3<=k+20000->Kn H H2 [(R.l,R.o k3)] ([(yb,.vec 5 ((u.blocks.set bi b').map OBlk.row))]++(b'.lg++(Cm us ci bi cn++([(x2,Obj.st [.sl true 3 []]),(x3,.st [cc])]++cl))))->
    lk 2 e2=.c (.ptr x2 0)->lk 3 e2=.c (.ptr x3 0)->Q .nrm e2 H2:=by
   intro b' H2 k3 e2 h1 h2 h3 h4 kn l2 l3;obtain⟨us',g1,g2,g3,g4⟩:=Qbl7 (N:=1000) cn hu bA bG ay h1 h2 aq kn;exact hn _ _ ⟨k3,us',cl,ZD,h3,h4,g3,g2,g4,l2,l3⟩
  have gP:∀e2:Env,lk 2 e2=.c (.ptr x2 0)->lk 3 e2=.c (.ptr x3 0)->Q .nrm e2 H9:=λe2 l2 l3=>
   hn _ _ ⟨_,us,cl,me,ZD,ZD,λu hu=>⟨(ay u hu).1,(ay u hu).2.mono ZD⟩,aq,knO,l2,l3⟩
  refine Wp ?_;have aE:=eq_true (aq.slcM kn (λp hp=>Za2)).ok;have ce:=(aq.slcM kn (λp hp=>Za2)).rows;have cd:=kn.l 0 rfl;refine Ww ?_ ?_
  ·intro hc;refine Zi ?_;refine Au (kn.e 0 rfl) ZD λv H10 _ fh=>?_;have kn:=kn.am 0 rfl fh (R.aj _);have cd:=kn.l 0 rfl;simp only[go_sem,LM,cd,bI,bA,du,Jp,Jh,Jm];intro H11 dG;have aU:[blk.pc,blk.ic,C.int IntKind.i64 v,C.int IntKind.i64 blk.on,C.ah blk.nx.y 1 0 blk.nx.ns.length]=({ blk with jump:=v }:OBlk).row:=rfl;rw[aU,bK]at dG;exact cS { blk with jump:=v } _ _ _ ⟨bn.p,bn.i,bn.a⟩ ⟨cr.n,cr.i,by have:=cr.p;show blk.aa.length<=_;omega,λx hx=>by have:=cr.ia x hx;omega,λx hx=>by have:=cr.pa x hx;omega⟩ ZD ZD (kn.aB 0 rfl dG) ZE ZE
  intro de;refine Za ?_;refine Ww ?_ ?_
  ·intro hc;have te:H9 blk.nx.y=.vec 1 (Qb blk.nx.ns):=kn.l 1 rfl;have eW:List.take blk.nx.ns.length (Qb blk.nx.ns)=Qb blk.nx.ns:=Jd (by simp[Qe]);refine Qa ?_;simp only[go_sem,cd,bI,b8,bA,du,BB,Jp,Jh,Jm,te,Qe];intro _;refine Ww ?_ ?_
   ·intro ao;have bY:0<blk.nx.ns.length:=ZI;have iQ:=Qn blk.nx.ns 0 bY;refine Qp ?_;simp only[go_sem,cd,bI,b8,bA,du,BB,Jp,Jh,Jm,te,bY,iQ,Qe];refine⟨ZD,λH11 dG=>?_⟩;have di:(Qb blk.nx.ns).set 0 [C.int IntKind.i64 bad]=Qb (blk.nx.ns.set 0 bad):=(by simp[Qb,Jv]);rw[di]at dG;have kn:Kn H H11 [(R.l,R.o (k1+1+1+1+1))] ([(yb,.vec 5 (u.blocks.map OBlk.row))]++(OBlk.lg { blk with nx:=⟨blk.nx.ns.set 0 bad,blk.nx.y⟩ }++(Cm us ci bi cn++([(x2,Obj.st [.sl true 3 []]),(x3,.st [cc])]++cl)))):=kn.aB 1 rfl dG;refine cS { blk with nx:=⟨blk.nx.ns.set 0 bad,blk.nx.y⟩ } _ (k1+1+1+1+1) _ ⟨bn.p,bn.i,bn.a⟩ ⟨by simpa using cr.n,cr.i,by have:=cr.p;show blk.aa.length<=_;omega,λx hx=>by have:=cr.ia x hx;omega,λx hx=>by have:=cr.pa x hx;omega⟩ ZD ZD ?_ ZE ZE;rw[OS bA (by rw[cH];simp[OBlk.row,OInts.c])];exact kn
   ·intro ao;refine Qh ?_;exact gP _ ZE ZE
  intro bF;refine Za ?_;refine Ww ?_ ?_
  ·intro hc;refine Qp ?_;simp only[go_sem,cd,bI,bA,du,Jp,Jh,Jm];intro H11 dG;have aU:[blk.pc,blk.ic,C.int IntKind.i64 blk.jump,C.int IntKind.i64 bad,C.ah blk.nx.y 1 0 blk.nx.ns.length]=({ blk with on:=bad }:OBlk).row:=rfl;rw[aU,bK]at dG;exact cS { blk with on:=bad } _ _ _ ⟨bn.p,bn.i,bn.a⟩ ⟨cr.n,cr.i,by have:=cr.p;show blk.aa.length<=_;omega,λx hx=>by have:=cr.ia x hx;omega,λx hx=>by have:=cr.pa x hx;omega⟩ ZD ZD (kn.aB 0 rfl dG) ZE ZE
  intro ao;refine Za ?_;have dM:ax blk.ic=blk.ins.length:=by rw[bn.i.ax];simp
  have fL:aZ H9 blk.ic=True:=eq_true (bn.i.slcM kn (λp hp=>by simp[OBlk.lg,hp])).ok;refine Ww ?_ ?_
  ·intro hc;refine Qa ?_;simp only[go_sem,cd,bI,b8,bA,du,cA,Jp,Jh,Jm,dM,fL];intro _;refine Ww ?_ ?_
   ·intro ao;have bY:0<blk.ins.length:=ZI;obtain⟨yi,fM,ck⟩:=OBlk.ivec bn bY;rw[fM]at du;have knI:=D8 kn ck;have cU:=knI.l 0 rfl;obtain⟨x,hx⟩:∃x,blk.ins[0]=x:=⟨_,rfl⟩;have jo:(blk.ins.map OIns.row).getD 0 []=[.int .i64 x.op,.int .i64 x.to,.ah x.a.y 1 0 x.a.ns.length,.int .i64 x.n]:=Zap;have dU:(blk.ins.map OIns.row).length=blk.ins.length:=ZF;have fC:List.take blk.ins.length (blk.ins.map OIns.row)=blk.ins.map OIns.row:=Jd ZF;have jJ:x.a.ns.length<=1000:=cr.ia x ZaX;refine Qp ?_;simp only[go_sem,cd,bI,b8,bA,du,BB,Jp,Jh,Jm,cU,bY,jo,dU];refine⟨ZD,λH12 f0=>?_⟩;have bh:[C.int IntKind.i64 x.op,C.int IntKind.i64 bad,C.ah x.a.y 1 0 x.a.ns.length,C.int IntKind.i64 x.n]=({ x with to:=bad }:OIns).row:=rfl;rw[bh,<-Jv]at f0;have knD:=FP (b:=blk) (is:=blk.ins.set 0 { x with to:=bad }) (knI.aB 0 rfl f0) (R9 bY (by rw[hx];rfl));refine cS _ _ (k1+1+1+1+1) _ (OBlk.ins_ok (i:=0) (x':={ x with to:=bad }) bn fM) (OBlk.ins_sm (i:=0) (x':={ x with to:=bad }) cr (by show x.a.ns.length<=_;omega)) ZD ZD ?_ ZE ZE;rw[OS bA Zbk];exact knD
   ·intro ao;refine Qh ?_;exact gP _ ZE ZE
  intro bk;refine Za ?_;refine Ww ?_ ?_
  ·intro hc;refine Qa ?_;simp only[go_sem,cd,bI,b8,bA,du,cA,Jp,Jh,Jm,dM,fL];intro _;refine Ww ?_ ?_
   ·intro ao;have bY:0<blk.ins.length:=ZI;obtain⟨yi,fM,ck⟩:=OBlk.ivec bn bY;rw[fM]at du;have knI:=D8 kn ck;have cU:=knI.l 0 rfl;obtain⟨x,hx⟩:∃x,blk.ins[0]=x:=⟨_,rfl⟩;have jo:(blk.ins.map OIns.row).getD 0 []=[.int .i64 x.op,.int .i64 x.to,.ah x.a.y 1 0 x.a.ns.length,.int .i64 x.n]:=Zap;have dU:(blk.ins.map OIns.row).length=blk.ins.length:=ZF;have fC:List.take blk.ins.length (blk.ins.map OIns.row)=blk.ins.map OIns.row:=Jd ZF;have jJ:x.a.ns.length<=1000:=cr.ia x ZaX;refine Aw ?_;have knA:Kn H H9 [(R.l,R.o (k1+1+1+1+1))] ([(x.a.y,.vec 1 (Qb x.a.ns))]++([(yi,.vec 4 (blk.ins.map OIns.row))]++([(yb,.vec 5 (u.blocks.map OBlk.row))]++(blk.nx.lg++(blk.aa.flatMap OPhi.lg++(blk.pl++((blk.ins.eraseIdx 0).flatMap OIns.lg++(Cm us ci bi cn++([(x2,Obj.st [.sl true 3 []]),(x3,.st [cc])]++cl))))))))):=knI.perm (Qt λf hf h0 bF hp=>by
     have h1:=hp _ _ (Cr OIns.lg blk.ins 0 bY);rw[hx]at h1;have h2:x.lg=[(x.a.y,.vec 1 (Qb x.a.ns))]:=rfl;rw[h2]at h1;simp only[hf]at h1⊢;omega)
    have ka:=knA.l 0 rfl;have oC:List.take x.a.ns.length (Qb x.a.ns)=Qb x.a.ns:=Jd (by simp[Qe]);simp only[go_sem,cd,bI,b8,bA,du,BB,Jp,Jh,Jm,cU,bY,jo,dU,fC,ka,Qe,oC];refine⟨ZD,by simp only[LIM];omega,λy' dO H10 dg=>?_⟩;have knA:=knA.ap 0 rfl dO dg;have cU:=knA.l 1 rfl;have cd:=knA.l 2 rfl;simp only[go_sem,LL,cd,bI,b8,bA,du,BB,Jp,Jh,Jm,cU,bY,jo,dU];refine⟨ZD,λH12 f0=>?_⟩;obtain⟨x',dv⟩:∃x':OIns,x'={ x with a:=⟨x.a.ns++[bad],y'⟩ }:=⟨_,rfl⟩;have bh:[C.int IntKind.i64 x.op,C.int IntKind.i64 x.to,C.ah y' 1 0 (x.a.ns.length+1),C.int IntKind.i64 x.n]=x'.row:=(by rw[dv];simp[OIns.row,OInts.c]);have cZ:x'.lg=[(y',.vec 1 (Qb x.a.ns++[[.int .i64 bad]]))]:=(by rw[dv];simp[OIns.lg,OInts.lg,Qb]);rw[bh,<-Jv]at f0;have knA:=knA.aB 1 rfl f0;refine cS _ _ (k1+1+1+1+1) _ (OBlk.ins_ok (i:=0) (x':=x') bn fM) (OBlk.ins_sm (i:=0) (x':=x') cr (by rw[dv];simp;omega)) ZD ZD ?_ ZE ZE;rw[OS bA Zbk];refine knA.perm (Qt λf hf h0 bF hp=>?_);have h1:=hp _ _ (C1 OIns.lg blk.ins 0 x' bY);rw[cZ]at h1;simp only[OBlk.lg,Jr,Jq,Jt,List.set_cons_succ,hf,bF _ (_::_),bF _ (_++_),bF _ (List.flatMap _ _)]at h1⊢;omega
   ·intro ao;refine Qh ?_;exact gP _ ZE ZE
  intro bN;refine Za ?_;refine Ww ?_ ?_
  ·intro hc;refine Qp ?_;simp only[go_sem,cd,bI,b8,bA,du,ef,Jp,Jh,Jm];have knP:Kn H H9 [(R.l,R.o (k1+1+1+1+1))] (([(yb,.vec 5 (u.blocks.map OBlk.row))]++(blk.nx.lg++(blk.aa.flatMap OPhi.lg++(blk.ins.flatMap OIns.lg++(blk.il++(Cm us ci bi cn++([(x2,Obj.st [.sl true 3 []]),(x3,.st [cc])]++cl)))))))++blk.pl):=kn.perm (Qt λf hf h0 bF hp=>by
    simp only[OBlk.lg,hf];omega)
   obtain⟨ph,dB⟩:∃ph:OPhi,ph=⟨0,[bad],.sl true 1 (Qb [bad]),[]⟩:=⟨_,rfl⟩;have oR:[C.int IntKind.i64 0,C.sl true 1 [[C.int IntKind.i64 bad]]]=ph.row:=by rw[dB];rfl
   have n7:ph.ok:=by rw[dB];exact .inr ⟨true,rfl,rfl⟩
   have mj:ph.lg=[]:=by rw[dB]
   have cP:=cr.p;rw[oR];refine knP.grow (new:=[ph.row]) bn.p (.mk' _ _ _ _) (by intro r hr;simp only[Ja]at hr;subst hr;exact ph.an n7) ZS λz H10 knP=>?_;have cd:=knP.l 0 rfl;simp only[go_sem,NX,cd,bI,bA,du,Jp,Jh,Jm];intro H11 dG;obtain⟨b',aU⟩:∃b':OBlk,b'={ blk with aa:=blk.aa++[ph],pc:=.ah z 2 0 ((blk.aa.map OPhi.row).length+1),pl:=[(z,.vec 2 ((blk.aa++[ph]).map OPhi.row))] }:=⟨_,rfl⟩;have pL:[C.ah z 2 0 ((blk.aa.map OPhi.row).length+1),blk.ic,C.int IntKind.i64 blk.jump,C.int IntKind.i64 blk.on,C.ah blk.nx.y 1 0 blk.nx.ns.length]=b'.row:=by rw[aU];rfl
   rw[pL,bK]at dG;have knP:=knP.aB 0 rfl dG;have lq:b'.ok:=by
    rw[aU];refine⟨.mk _ _ _ ZF,bn.i,λp hp=>?_⟩;rcases Jl.1 hp with h|h
    ·exact bn.a p h
    ·simp only[Ja]at h;subst h;exact n7
   have lp:b'.sm 1001:=by
    rw[aU];refine⟨cr.n,cr.i,by simp;omega,λx hx=>by have:=cr.ia x hx;omega,λx hx=>?_⟩;rcases Jl.1 hx with h|h
    ·have:=cr.pa x h;omega
    ·simp only[Ja]at h;rw[h,dB];simp
   refine cS b' _ (k1+1+1+1+1) _ lq lp ZD ZD ?_ ZE ZE;have wI:b'.lg=blk.nx.lg++(blk.aa.flatMap OPhi.lg++([(z,.vec 2 ((blk.aa++[ph]).map OPhi.row))]++(blk.ins.flatMap OIns.lg++blk.il))):=by
    rw[aU];simp[OBlk.lg,Js,mj]
   rw[wI];have eB:blk.aa.map OPhi.row++[ph.row]=(blk.aa++[ph]).map OPhi.row:=ZF
   rw[eB]at knP;refine knP.perm (Qt λf hf h0 bF hp=>?_);simp only[Jr,Jq,Jt,hf,bF _ (_::_),bF _ (_++_)];omega
  intro iS;refine Za ?_;refine Ww ?_ ?_
  ·intro hc;refine Aw ?_;simp only[go_sem,aE,ak,bj,cn,ce,a8];refine Au (kn.e 0 rfl) ZD λv H10 hv fh=>?_;have knO:=knO.am 0 rfl fh (R.aj _);obtain⟨yc,jB,cB⟩:∃yc,cc=.ah yc 3 0 us.length/\cl=[(yc,.vec 3 (us.map OCode.row))]:=by
    rcases aq with ⟨h1,h2,h3⟩|⟨y,h1,h2⟩
    ·rw[List.map_eq_nil_iff]at h2;rw[h2]at cn;simp at cn
    ·exact⟨y,by rw[h1];simp,h2⟩
   have bV:H10 yc=.vec 3 (us.map OCode.row):=knO.lm (by rw[cB];simp);have u0:(us.map OCode.row).length=us.length:=ZF
   have ky:List.take us.length (us.map OCode.row)=us.map OCode.row:=Jd ZF;have yD:=dh.b.ai;simp only[go_sem,NW,jB,bV,u0,ky,cn,a8,Jp,Jh,Jm];have iG:=dw.p0;have ql:=dw.p1;rw[if_neg ZD]at hv;refine⟨Qo,λH11 dG=>?_⟩;obtain⟨u',gM⟩:∃u':OCode,u'={ u with ab:=u.params+v }:=⟨_,rfl⟩;have hur:[C.int IntKind.i64 u.params,C.int IntKind.i64 (u.params+v),C.ah yb 5 0 u.blocks.length]=u'.row:=by rw[gM,<-db];rfl
   have u4:u'.lg=u.lg:=by rw[gM];rfl
   have ku:u'.ok:=by rw[gM];exact⟨dh.b,dh.bs⟩
   have kr:u'.sm 1000:=by rw[gM];exact⟨dw.b0,dw.b,dw.bs,dw.p0,dw.p1⟩
   rw[hur,<-Jv]at dG;have knF:Kn H H10 [(R.l,R.o (k1+1+1+1+1+1))] ([(yc,.vec 3 (us.map OCode.row))]++([(x2,Obj.st [.sl true 3 []]),(x3,.st [cc])]++us.flatMap OCode.lg)):=by
    rw[cB]at knO;exact knO.perm Jf
   have knF:=knF.aB 0 rfl dG;refine hn _ _ ⟨k1+1+1+1+1+1,us.set ci u',[(yc,.vec 3 ((us.set ci u').map OCode.row))],by simpa using me,ZD,ZD,λw hw=>?_,?_,?_,ZE,ZE⟩
   ·rcases J0 hw with hw|rfl
    ·exact⟨(ay w hw).1,(ay w hw).2.mono ZD⟩
    ·exact⟨ku,kr.mono ZD⟩
   ·rw[jB];exact .mk _ _ _ ZF
   ·refine knF.perm (Qt λf hf h0 bF hp=>?_);have h1:=hp _ _ (C1 OCode.lg us ci u' cn);have h2:=hp _ _ (Cr OCode.lg us ci cn);rw[u4]at h1;rw[hu]at h2;simp only[Jr,Jq,Jt,hf,bF _ (_::_),bF _ (_++_),bF _ (List.flatMap _ _)]at h1 h2⊢;omega
  intro yB;refine Za ?_;refine Ww ?_ ?_
  ·intro hc;refine Qa ?_;simp only[go_sem,cd,bI,b8,bA,du,cA,Jp,Jh,Jm,dM,fL];intro _;refine Ww ?_ ?_
   ·intro ao;have bY:0<blk.ins.length:=ZI;obtain⟨yi,fM,ck⟩:=OBlk.ivec bn bY;rw[fM]at du;have knI:=D8 kn ck;have cU:=knI.l 0 rfl;obtain⟨x,hx⟩:∃x,blk.ins[0]=x:=⟨_,rfl⟩;have jo:(blk.ins.map OIns.row).getD 0 []=[.int .i64 x.op,.int .i64 x.to,.ah x.a.y 1 0 x.a.ns.length,.int .i64 x.n]:=Zap;have dU:(blk.ins.map OIns.row).length=blk.ins.length:=ZF;have fC:List.take blk.ins.length (blk.ins.map OIns.row)=blk.ins.map OIns.row:=Jd ZF;have jJ:x.a.ns.length<=1000:=cr.ia x ZaX;refine Aw ?_;simp only[go_sem,cd,bI,b8,bA,du,BB,Jp,Jh,Jm];refine Ba (ns:=[256,-1,1]) (knI.e 0 rfl) ZD ZF λv H10 hv fh=>?_;have knI:=knI.am 0 rfl fh (R.aj _);have cU:=knI.l 0 rfl;have cd:=knI.l 1 rfl;simp only[go_sem,NV,cd,bI,b8,bA,du,BB,Jp,Jh,Jm,cU,bY,jo,dU];refine⟨ZD,λH12 f0=>?_⟩;have bh:[C.int IntKind.i64 x.op,C.int IntKind.i64 x.to,C.ah x.a.y 1 0 x.a.ns.length,C.int IntKind.i64 v]=({ x with n:=v }:OIns).row:=rfl;rw[bh,<-Jv]at f0;have knD:=FP (b:=blk) (is:=blk.ins.set 0 { x with n:=v }) (knI.aB 0 rfl f0) (R9 bY (by rw[hx];rfl));refine cS _ _ (k1+1+1+1+1+1) _ (OBlk.ins_ok (i:=0) (x':={ x with n:=v }) bn fM) (OBlk.ins_sm (i:=0) (x':={ x with n:=v }) cr (by show x.a.ns.length<=_;omega)) ZD ZD ?_ ZE ZE;rw[OS bA Zbk];exact knD
   ·intro ao;refine Qh ?_;exact gP _ ZE ZE
  ·intro hc;refine Qh ?_;exact gP _ ZE ZE
 ·rintro e2 H10 ⟨k3,us,cl,me,j5,iO,ay,aq,kn,l2,l3⟩;have aW:=kn.l 0 rfl;have aF:=kn.l 1 rfl;refine Qa ?_;simp only[go_sem,aW,aF,b9,l2,l3];intro H8 h8;have kn:=kn.aB 0 rfl h8;have aW:=kn.l 0 rfl;refine Zp aW b9 ?_;have fv:Held H8 (un H) (us.flatMap OCode.lg++cl):=λp hp=>by
   have ej:p∈(([(x2,Obj.st [cc]),(x3,Obj.st [cc])]++us.flatMap OCode.lg)++cl):=by
    rcases Jl.1 hp with h|h
    ·simp[h]
    ·simp[h]
   exact⟨(kn.get p (Je _ ej)).1,BE (kn.loc p ej)⟩
  obtain⟨cs,hf,wA,iu⟩:=OCodes.frz (N:=1001) ZD aq ay fv;exact⟨_,FrzL.ag (.cons hf .nil),hK cs _ k3 j5 ZD kn.fin ZD ZD iu⟩
end Go.AE.Y
namespace Go.AE.Y
open Go.Proofs.Tryz
theorem EL {R : Rdr} {fl : Bool} {ss : List (List UInt8)} : ∀ (d : Nat) {k : Nat} {H : Heap} {K : V -> Heap -> Prop} (deep : Int), deep <= d -> H R.l = R.o k -> k + 6 * 2^d <= 2^40 ->
    (∀ (x : Ex) (H' : Heap) (k' : Nat), k < k' -> k' + 3 <= k + 6 * 2^d -> Upd H H' [(R.l, R.o k')] -> x.ok -> k + x.size <= k' -> K (.ag x.cells) H') ->
    Qv prog DR [.c (.ptr R.l 0), .c (.sl fl 1 (A5 ss)), .c (.int .i64 deep)] H K := by
  intro d
  induction d using Nat.strongRecOn with
  | ind d ih =>
  intro k H K deep hd hH hk hK;have ql : 1 <= 2^d := J5;have iG : d < 2^d := Nat.lt_two_pow_self;refine Q0 ?_;refine Qc Ab Qbs3 ?_;refine Qa ?_;simp only [go_sem];intro x hx H1 h1;have kn := (Kn.start1 hH (R.aj k)).al hx h1;refine Q3 (Qa ?_);simp only [go_sem];have rest : ∀ (b : Bool) (H2 : Heap) (k2 : Nat), k <= k2 -> k2 <= k + 1 -> Kn H H2 [(R.l, R.o k2)] [(x, .st [.int .i64 0, .int .i64 0, .str [], .sl true 4 []])] -> (b = false -> 2 <= deep) ->
      Ad prog (s_l2Expr_2.seq M4) (Q4 DG (unK H K))
       [(0, V.c (C.ptr R.l 0)), (1, V.c (C.sl fl 1 (A5 ss))), (2, .c (.int .i64 deep)), (6, V.c (C.ptr x 0)), (14, V.c (.bool b))] H2 := by
    intro b H2 k2 gr dK kn hb;have fin : ∀ (op n : Int) (name : List UInt8) (fl : Bool) (kids : List Ex) (H3 : Heap) (k3 : Nat) (o : Obj), k < k3 -> k3 + 3 <= k + 6 * 2^d -> Kn H H3 [(R.l, R.o k3)] [(x, .st [.int .i64 op, .int .i64 n, .str name, .sl fl 4 (Ap kids)])] ->
        (op = 10 -> kids.length = 2) -> A9 kids -> k + 1 + As kids <= k3 ->
        Aa DG [(6, V.c (C.ptr x 0))] H3 (unK H K) := by
      intro op n name fl kids H3 k3 o g1 g2 kn g3 g4 g5;have aF := kn.l 0 rfl;simp only [go_sem, Aa, DG, Ja, forall_eq, RS.op, aF];refine ⟨_, (Ex.mk op n name kids).frz, hK _ _ k3 g1 g2 kn.fin ?_ ?_⟩
      · simp only [Ex.ok]; exact ⟨g3, g4⟩
      · simp only [Ex.size]; omega
    refine Wv ?_ ?_
    · intro aU;refine Qa ?_;simp only [go_sem];refine Qbsq (kn.e 0 rfl) ZD λy H3 k3 g1 g2 hu ay bj => ?_;have kn := kn.am 0 rfl hu (R.aj _);have aF := kn.l 0 rfl;simp only [go_sem, M3, aF, y.aD];intro H4 h4;have kn := kn.aB 0 rfl h4;refine Qk ?_;simp only [go_sem, Q4];refine fin _ _ _ _ _ _ k3 .none ZD ZD kn (Ex.ok_and ay) (Ex.ok_kids ay) ?_;have := y.size_kids; omega
    · intro aU;have mX := hb aU;have hp : 2^d = 2 * 2^(d-1) := (by rw [<- Nat.pow_succ']; congr 1; omega);have ej : 1 <= 2^(d-1) := J5;have ihd := λ{k H K} => @ih (d-1) ZD k H K;generalize 2^(d-1) = e at *;refine Qh ?_;simp only [go_sem];refine Q3 (Qa ?_);simp only [go_sem];refine Au (kn.e 0 rfl) ZD λv H3 hv hu => ?_;have kn := kn.am 0 rfl hu (R.aj _);simp only [go_sem, M2];refine Wv ?_ ?_
      · intro hc;refine Qa ?_;simp only [go_sem];refine Ba (ns := [11, 12, 11]) (kn.e 0 rfl) ZD ZF λop H4 bP hu => ?_;have kn := kn.am 0 rfl hu (R.aj _);simp only [go_sem, M0];refine ⟨Qo, ?_⟩;refine ihd (deep - 1) ZD (kn.e 0 rfl) ZD λy H5 k5 g1 g2 hu ay bj => ?_;have kn := kn.am 0 rfl hu (R.aj _);have bm := kn.l 0 rfl;simp only [go_sem, M1, bm, y.au];intro H6 h6;have kn := kn.aB 0 rfl h6;refine Qk ?_;simp only [go_sem, Q4];refine fin op 0 [] true [y] _ k5 .none ZD ZD kn (λh => ?_) ⟨ay, trivial⟩ ?_
        · subst h; simp at bP
        · simp only [As]; omega
      · intro hc;refine Qh ?_;simp only [go_sem];refine Qa ?_;simp only [go_sem];refine Ba (ns := [3, 3, 4, 5, 6, 7, 8, 9, 10]) (kn.e 0 rfl) ZD ZF λop H4 bP hu => ?_;have kn := kn.am 0 rfl hu (R.aj _);simp only [go_sem, Mz];refine Qa ?_;simp only [go_sem];refine ⟨Qo, ?_⟩;refine ihd (deep - 1) ZD (kn.e 0 rfl) ZD λy H5 k5 g1 g2 hu ay bj => ?_;have kn := kn.am 0 rfl hu (R.aj _);simp only [go_sem, Mx];refine ⟨Qo, ?_⟩;refine ihd (deep - 1) ZD (kn.e 0 rfl) ZD λz H6 k6 g3 g4 hu fk hsz2 => ?_;have kn := kn.am 0 rfl hu (R.aj _);have bm := kn.l 0 rfl;simp only [go_sem, My, bm, y.au, z.au];intro H7 h7;have kn := kn.aB 0 rfl h7;refine Qk ?_;simp only [go_sem, Q4];refine fin op 0 [] true [y, z] _ k6 .none ZD ZD kn (λh => rfl) ⟨ay, fk, trivial⟩ ?_;simp only [As]; omega
  refine ⟨λhb => ?_, λhb => ?_⟩
  · refine Au (kn.e 0 rfl) ZD λv H2 hv hu => ?_;have kn := kn.am 0 rfl hu (R.aj _);simp only [go_sem, Q0p];refine rest _ H2 (k + 1) ZD ZD kn ?_;intro h;have : ¬ deep < 2 := ZW;omega
  · have cI : decide (deep < 2) = true := ZW;simp only [go_sem, Q0p, cI];exact rest true H1 k ZD ZD kn (λh => by simp at h)
theorem Qaug {R:Rdr}{gl k:Nat}{s:GS}{H:Heap}{K:V->Heap->Prop}(hR:H R.l=R.o k)(hG:H gl=s.o R)(be:R.l≠gl)(hs:s.ok k)(hk:k+2<=2^30)
  (hK:∀(name:List UInt8) (H':Heap) (k':Nat),k+1<=k'->k'<=k+2->Upd H H' [(R.l,R.o k'),(gl,GS.o { s with next:=s.next+1 } R)]->K (.c (.str name)) H') :
  Qv prog S8 [.c (.ptr gl 0)] H K:=by
 have h0:=hs.n0;have pY:=hs.n1;refine Q0 ?_;refine Qc Ab Qaus ?_;refine Za ?_;refine Zw hG ?_;refine⟨Qo,λH1 h1=>?_⟩;have kn:Kn H H1 [(R.l,R.o k),(gl,GS.o { s with next:=s.next+1 } R)] []:=(Kn.start2 hR (R.aj k) hG (s.aj R) be).stE 1 rfl h1;have ig:=kn.e 1 rfl;refine Q3 (Qa ?_);simp only[go_sem,ig,GS.o];refine Au (kn.e 0 rfl) ZD λv H2 hv hu=>?_;have kn:=kn.am 0 rfl hu (R.aj _);have fX:=kn.e 1 rfl;simp only[go_sem,Qpx,fX,GS.o];intro hl;refine Wv ?_ ?_
 ·intro hc;have ez:0<s.vars.length:=by
   rw[Bc]at hc;cases h:decide (v=0) <;> rw[h]at hc <;> simp_all
  refine Aj ?_;simp only[go_sem,fX,GS.o];refine of_c (kn.e 0 rfl) ZD ez λname H3 hn hu=>?_;have kn:=kn.am 0 rfl hu (R.aj _);simp only[go_sem,Qpy];refine Zc ?_;exact⟨_,.c _ _ (Qi rfl),hK _ _ (k+1+1) ZD ZD kn.fin⟩
 ·intro hc;refine Zd ?_;refine Aj ?_;have e1:0<=(s.next+1).tmod 24:=J3 _ ZD;have e2:(s.next+1).tmod 24<24:=Jz _ ZD;simp only[go_sem,fX,GS.o];refine⟨ZD,ZD,Qo,ZD,?_⟩;refine Zc ?_;exact⟨_,.c _ _ (Qi rfl),hK _ _ (k+1) ZD ZD kn.fin⟩
theorem MU {R:Rdr}{gl k:Nat}{s:GS}{x:Ex}{fl:Bool}{H:Heap}{K:V->Heap->Prop}(hR:H R.l=R.o k)(hG:H gl=s.o R)(be:R.l≠gl)(hs:s.ok k)(hk:k+2<=2^30)
  (hK:∀(name:List UInt8) (H':Heap) (k':Nat),k+1<=k'->k'<=k+2->Upd H H' [(R.l,R.o k'),(gl,GS.o { s with next:=s.next+1,vars:=s.vars++[name],vfl:=false } R)]->K (.ag (St.mk 1 name [x] [] []).cells) H') :
  Qv prog Pw [.c (.ptr gl 0),.ag [.int .i64 x.op,.int .i64 x.n,.str x.name,.sl fl 4 (Ap x.kids)]] H K:=by
 have hv:=hs.v;refine CX ?_;refine Qc Ab Qa9j ?_;refine Za ?_;intro y hy H1 h1;have kn:=(Kn.start2 hR (R.aj k) hG (s.aj R) be).al hy h1;refine Za ?_;refine Qaug (kn.e 0 rfl) (kn.e 1 rfl) be hs hk λname H2 k' g1 g2 hu=>?_;have kn:=kn.callEE 0 1 rfl rfl ZR hu (R.aj _) (GS.aj _ _);have fX:=kn.e 1 rfl;simp only[go_sem,Qyq];refine Qa ?_;have hL:s.vars.length<=LIM:=ZU
 have hL1:s.vars.length+1<=LIM:=ZU
 simp only[go_sem,fX,GS.o,Bc,Jh,Jq,hL];refine⟨.inl trivial,Pf _,?_⟩;intro z hz H3 h3;have kn:=kn.al hz h3;have tO:=kn.l 1 rfl;have nY:=kn.e 1 rfl;simp only[go_sem,Qys,tO,Bc,Qbf3,hL1,Jd];refine⟨ZD,λz' dl H4 h4=>?_⟩;have kn:=kn.ap 1 rfl dl h4;have sS:=kn.e 1 rfl;simp only[go_sem,Qyr,sS,GS.o];intro H5 h5;have kn:=kn.stE 1 rfl h5;have hy5:=kn.l 0 rfl;refine Zh hy5 ?_;intro H6 h6;have kn:=kn.aB 0 rfl h6;have hy6:=kn.l 0 rfl;refine Zj hy6 ?_;refine⟨un H,(.ag (St.mk 1 name [x] [] []).cells),(H6.frz (un H)).set gl (GS.o { s with next:=s.next+1,vars:=s.vars++[name],vfl:=false } R),?_,?_,hK name _ k' g1 g2 (kn.fin.set2 be)⟩
 ·simp only[St.cells,Ap,Ak,x.aD];exact (FrzL.cons (Qi rfl) (.cons (Qi rfl) (.cons (FrzR.cons (.cons (Qi rfl) (.cons (Qi rfl) (.cons (Qi rfl) (.cons (FrzR.same (Ha _)).sl .nil)))) .nil).sl (.cons (FrzR.nil).sl (.cons (FrzR.nil).sl .nil))))).ag
 ·refine (CL _ _).set (EE (kn.usedE 1 rfl)) ?_;rw[kn.e 1 rfl];refine FrzKL.st (.same (.same (.cons rfl ?_ (.same (.same .nil)))));exact EM (kn.un 1 rfl) (kn.l 1 rfl) (by simp[A5]) (noOw_mem (Pf _))
theorem DU {R : Rdr} {gl k : Nat} {s : GS} {H : Heap} {K : V -> Heap -> Prop} (deep : Int) (hd : deep <= 3) (hR : H R.l = R.o k) (hG : H gl = s.o R) (be : R.l ≠ gl) (hs : s.ok k) (hF : FnsOk H R gl s) (hk : k + 200 <= 2^30)
    (hK : ∀ (x : Ex) (H' : Heap) (k' : Nat), k < k' -> k' <= k + 200 -> Upd H H' [(R.l, R.o k')] -> x.ok -> k + x.size <= k' -> K (.ag x.cells) H') :
    Qv prog CP [.c (.ptr gl 0), .c (.int .i64 deep)] H K := by
  have fz := hs.fn;refine Q0 ?_;refine Qc Ab Qa0f ?_;refine Qa ?_;simp only [go_sem];intro x4 bO H1 h1;have kn := (Kn.start2 hR (R.aj k) hG (s.aj R) be).al bO h1;have ig := kn.e 1 rfl;refine Aj ?_;simp only [go_sem, ig, GS.o];refine EL 3 deep ZD (kn.e 0 rfl) ZD λe H2 k2 g1 g2 hu pE gY => ?_;have kn := kn.am 0 rfl hu (R.aj _);have fX := kn.e 1 rfl;simp only [go_sem, Qtx];intro x5 bm H3 h3;have kn := kn.al bm h3;have nY := kn.e 1 rfl;have dZ := kn.l 1 rfl;simp only [go_sem, Qtw, nY, dZ, GS.o, e.aD];intro H4 h4;have kn := kn.aB 1 rfl h4;have sS := kn.e 1 rfl;refine Q3 (Qa ?_);simp only [go_sem, sS, GS.o, hF.ow, hF.ok kn, hF.len];intro hl;have fin : ∀ (op n : Int) (name : List UInt8) (c : C) (kids : List Ex) (H3 : Heap) (k3 : Nat) (L : List (Nat × Obj)), k < k3 -> k3 <= k + 200 -> Kn H H3 [(R.l, R.o k3), (gl, s.o R)] L ->
      L[0]? = some (x4, .st [.int .i64 op, .int .i64 n, .str name, c]) -> c.ai = false -> FrzC H3 (un H) c (.sl false 4 (Ap kids)) -> (Ex.mk op n name kids).ok -> k + (Ex.mk op n name kids).size <= k3 ->
      Aa Pu [(4, V.c (C.ptr x4 0))] H3 (unK H K) := by
    intro op n name c kids H3 k3 L g1 g2 kn g3 bR g4 g5 g6;have aF := kn.l 0 g3;simp only [go_sem, Aa, Pu, Ja, forall_eq, RS.op, aF, bR];refine ⟨(.ag (Ex.mk op n name kids).cells), ?_, hK _ _ k3 g1 g2 (kn.fin.drop2 hG) g5 g6⟩;rw [Ex.aD];exact (FrzL.cons (Qi rfl) (.cons (Qi rfl) (.cons (Qi rfl) (.cons g4 .nil)))).ag
  have rest : ∀ (b : Bool) (H2 : Heap) (k3 : Nat), k2 <= k3 -> k3 <= k2 + 1 -> Kn H H2 [(R.l, R.o k3), (gl, s.o R)] [(x4, .st [.int .i64 0, .int .i64 0, .str [], .sl true 4 []]), (x5, .st [.int .i64 e.op, .int .i64 e.n, .str e.name, .sl false 4 (Ap e.kids)])] ->
      (b = false -> 0 < s.fns.length) ->
      Ad prog (s_l3Gen_expr_3.seq Qtv) (Q4 Pu (unK H K))
       [(0, V.c (C.ptr gl 0)), (4, V.c (C.ptr x4 0)), (5, V.c (C.ptr x5 0)), (32, .c (.bool b))] H2 := by
    intro b H2 k3 g3 g4 kn hb;have ko := kn.l 1 rfl;have oz := kn.l 0 rfl;refine Wv ?_ ?_
    · intro aU;refine Qa ?_;simp only [go_sem, ko, oz];intro H3 h3;have kn := kn.aB 0 rfl h3;refine Qk ?_;simp only [go_sem, Q4]
      cases e with
      | mk op n name kids => exact fin op n name _ kids H3 k3 _ ZD ZD kn rfl rfl (D0 (noOw_mem (Ha _))) pE ZD
    · intro aU;have iR := hb aU;refine Qh ?_;simp only [go_sem];have nY := kn.e 1 rfl;refine Aj ?_;simp only [go_sem, nY, GS.o, hF.ow, hF.ok kn, hF.len];refine Au (kn.e 0 rfl) ZD λv H3 hv hu => ?_;have kn := kn.am 0 rfl hu (R.aj _);rw [if_neg ZD] at hv;obtain ⟨i, rfl⟩ := Jn hv.1;have hi : i < s.fns.length := ZD;have sS := kn.e 1 rfl;simp only [go_sem, Qtz, sS, GS.o, hF.ow, hF.ok kn, hF.len, hF.rows kn, hF.esz, hi, Gl _ _ hi, Fn.cells];intro x6 ba H4 h4;have kn := kn.al ba h4;have hG5 := kn.e 1 rfl;have ud := kn.l 2 rfl;simp only [go_sem, Qty, hG5, ud, GS.o, hF.ow, hF.ok kn, hF.len, hF.rows kn, hF.esz, hi, Gl _ _ hi, Fn.cells];have fj := hs.f _ (Jc hi);generalize s.fns[i] = f at *;intro H5 h5;have kn := kn.aB 2 rfl h5;have km := kn.l 2 rfl;refine Qa ?_;simp only [go_sem, km];intro x7 dW H6 h6;have kn := kn.al dW h6;have jp := kn.l 2 rfl;have oq := kn.l 3 rfl;simp only [go_sem, Qt0, oq];intro H7 h7;have kn := kn.aB 3 rfl h7;refine Q3 (Qa ?_);simp only [go_sem];refine Qg (Qd (Qs (λn e1 H1 => ∃ (i k4 : Nat) (kids : List Ex) (c : C) (Lg : List (Nat × Obj)), n = f.params.length - i /\ i <= f.params.length /\ k4 <= k3 + 1 + 21 * i /\ k3 + 1 + As kids <= k4 /\ A9 kids /\ kids.length = i /\
        Gr Lg 4 (Ap kids) c /\ Kn H H1 [(R.l, R.o k4), (gl, s.o R)] ([(x4, .st [.int .i64 0, .int .i64 0, .str [], .sl true 4 []]), (x5, .st [.int .i64 e.op, .int .i64 e.n, .str e.name, .sl false 4 (Ap e.kids)]),
          (x6, .st [.str f.name, .sl false 1 (A5 f.params), .sl false 5 (Ak f.body)]), (x7, .st [.int .i64 13, .int .i64 0, .str f.name, c])] ++ Lg) /\
        e1 = [(0, V.c (C.ptr gl 0)), (4, V.c (C.ptr x4 0)), (6, V.c (C.ptr x6 0)), (7, V.c (C.ptr x7 0)), (8, V.c (C.int IntKind.i64 i))]) f.params.length ?_ ?_))
      · exact ⟨0, k3 + 1, [], _, [], by omega, by omega, by omega, by simp [As], trivial, rfl, .nil 4, kn, rfl⟩
      · rintro n e1 H1 ⟨i, k4, kids, c, Lg, hn, wm, iO, hksz, fG, dd, aq, kn, rfl⟩;have ue := kn.l 2 rfl;have ke := kn.l 3 rfl;have ig := kn.e 1 rfl;refine Q3 (Qa ?_);simp only [go_sem, ue, Bc];intro cP;refine Wv ?_ ?_
        · intro hc;have ae : i < f.params.length := ZG;refine Qh ?_;simp only [go_sem];refine Qg (Qd (Aw ?_));have b9 := aq.ai;simp only [go_sem, ke, ig, GS.o, b9];refine EL 2 2 ZD (kn.e 0 rfl) ZD λz H2 k5 g5 g6 hu ay bj => ?_;have kn := kn.am 0 rfl hu (R.aj _);have f9 := kn.l 3 rfl;simp only [go_sem, Qt2, f9, b9, z.au];refine kn.grow (new := [z.cells]) aq (.mk' _ _ _ _) (by simp [z.an]) (by simp only [Bi, Jj, Jo, LIM]; omega) λy' H3 kn => ?_;have ov := kn.l 3 rfl;simp only [go_sem, Qt1, ov];intro H4 h4;have kn := kn.aB 3 rfl h4;refine Qp ?_;simp only [go_sem];refine ⟨Qo, ?_⟩;refine ⟨f.params.length - (i + 1), by omega, i + 1, k5, kids ++ [z], _, _, rfl, by omega, by omega, ?_, Qbmj fG ⟨ay, trivial⟩, by simp [dd], ?_, kn, ?_⟩
          · simp only [Ry, As]; omega
          · rw [<- Qbh0]; exact .mk _ _ _ ZF
          · simp
        · intro hc;have aY : f.params.length <= i := ZG;refine Qq ?_;simp only [go_sem, X.next];refine Q3 (Qa ?_);simp only [go_sem, ig, GS.o];refine Au (kn.e 0 rfl) ZD λv H2 hv hu => ?_;have kn := kn.am 0 rfl hu (R.aj _);have f9 := kn.l 3 rfl;have oz := kn.l 0 rfl;have b9 := aq.ai;have fX := kn.e 1 rfl;simp only [go_sem, Qpu];refine Wv ?_ ?_
          · intro hc;refine Qa ?_;simp only [go_sem, f9, oz, b9];intro H3 h3;have kn := kn.aB 0 rfl h3;refine Qk ?_;simp only [go_sem, Q4];refine fin 13 0 f.name c kids H3 (k4 + 1) _ ZD ZD kn rfl b9 (aq.frz (B := [_, _, _, _]) kn (Ha _)) ?_ ?_
            · simp only [Ex.ok]; exact ⟨λh => by simp at h, fG⟩
            · simp only [Ex.size]; omega
          · intro hc;refine Qh ?_;simp only [go_sem];refine Aj ?_;simp only [go_sem, f9, fX, b9, GS.o];refine Ba (ns := [3, 4, 8, 10]) (kn.e 0 rfl) ZD ZF λop H3 bP hu => ?_;have kn := kn.am 0 rfl hu (R.aj _);have ov := kn.l 3 rfl;have nY := kn.e 1 rfl;simp only [go_sem, Qpw, ov, nY, b9, GS.o];refine EL 2 2 ZD (kn.e 0 rfl) ZD λz H4 k5 g5 g6 hu ay bj => ?_;have kn := kn.am 0 rfl hu (R.aj _);have lZ := kn.l 3 rfl;have uk := kn.l 0 rfl;simp only [go_sem, Qpv, lZ, uk, b9, z.au];intro H5 h5;have kn := kn.aB 0 rfl h5;refine Qk ?_;simp only [go_sem, Q4];refine fin op 0 [] _ [Ex.mk 13 0 f.name kids, z] H5 k5 _ ZD ZD kn rfl rfl ?_ ?_ ?_
            · refine FrzR.sl (.cons ?_ (.cons (.same z.an) .nil));rw [Ex.aD];exact .cons (Qi rfl) (.cons (Qi rfl) (.cons (Qi rfl) (.cons (aq.frz (B := [_, _, _, _]) kn (Ha _)) .nil)))
            · simp only [Ex.ok, A9]; exact ⟨λh => rfl, ⟨λh => by simp at h, fG⟩, ay, trivial⟩
            · simp only [Ex.size, As]; omega
  refine ⟨λhb => ?_, λhb => ?_⟩
  · refine Au (kn.e 0 rfl) ZD λv H5 hv hu => ?_;have kn := kn.am 0 rfl hu (R.aj _);simp only [go_sem, SJ];refine rest _ H5 (k2 + 1) ZD ZD kn ?_;intro h;have : ¬ s.fns.length = 0 := ZW;omega
  · have cI : decide ((s.fns.length : Int) = 0) = true := ZW;simp only [go_sem, SJ, cI];exact rest true H4 k2 ZD ZD kn (λh => by simp at h)
theorem Q8r {R:Rdr}{gl k:Nat}{s:GS}{H:Heap}{K:V->Heap->Prop}(hR:H R.l=R.o k)(hG:H gl=s.o R)(be:R.l≠gl)(hs:s.ok k)(hF:FnsOk H R gl s)(hk:k+201<=2^30)
  (hK:∀(x:Ex) (H':Heap) (k':Nat),k<k'->k'<=k+201->Upd H H' [(R.l,R.o k')]->x.ok->2 * k+x.size<=2 * k'->K (.ag x.cells) H') :
  Qv prog PA [.c (.ptr gl 0)] H K:=by
 refine Q0 ?_;refine Qc Ab Qa0e ?_;refine Za ?_;intro x2 aW H1 h1;have kn:=(Kn.start2 hR (R.aj k) hG (s.aj R) be).al aW h1;have ig:=kn.e 1 rfl;refine Aj ?_;simp only[go_sem,ig,GS.o];refine DU 2 ZD (kn.e 0 rfl) (kn.e 1 rfl) be hs (hF.keep kn rfl rfl) ZD λe H2 k2 g1 g2 hu pE gY=>?_;have kn:=kn.am 0 rfl hu (R.aj _);have fX:=kn.e 1 rfl;simp only[go_sem,Qtu,fX,GS.o];refine Ba (ns:=[16,16,16,8,17,0]) (kn.e 0 rfl) ZD ZF λv H3 hv hu=>?_;have kn:=kn.am 0 rfl hu (R.aj _);have ur:=kn.l 0 rfl;simp only[go_sem,Qtt,ur,e.au];intro H4 h4;have kn:=kn.aB 0 rfl h4;have i9:=kn.l 0 rfl;refine Zj i9 ?_;refine⟨(.ag (Ex.mk 7 0 [] [e,Ex.mk 1 v [] []]).cells),?_,hK _ _ (k2+1) ZD ZD (kn.fin.drop2 hG) ?_ ?_⟩
 ·rw[Ex.aD (Ex.mk 7 0 [] _)];refine FrzL.ag ?_;refine .cons (Qi rfl) (.cons (Qi rfl) (.cons (Qi rfl) (.cons (FrzR.sl (.cons (.same e.an) (.cons ?_ .nil))) .nil)));simp only[Ex.cells,Ap];exact .cons (Qi rfl) (.cons (Qi rfl) (.cons (Qi rfl) (.cons (FrzR.nil).sl .nil)))
 ·simp only[Ex.ok,A9];exact⟨λh=>rfl,pE,⟨λh=>ZK,trivial⟩,trivial⟩
 ·simp only[Ex.size,As];omega
def Ew (d:Nat):Prop:=∀(R:Rdr) (gl k:Nat) (s:GS) (H:Heap) (K:V->Heap->Prop) (deep:Int),deep<=d->H R.l=R.o k->H gl=s.o R->R.l≠gl->s.ok k->FnsOk H R gl s->k+500 * 10^d<=2^30->
  (∀(l:List St) (s':GS) (H':Heap) (k':Nat),k<k'->k'<=k+500 * 10^d->Upd H H' [(R.l,R.o k'),(gl,s'.o R)]->s'.ok k'->s.left+4 * (k:Int)<=s'.left+4 * (k':Int)->s'.fns=s.fns->s'.ffl=s.ffl->l.length<=2->A2 l->4 * k+Ah l<=4 * k'->K (.c (.sl false 5 (Ak l))) H')->
  Qv prog Sl [.c (.ptr gl 0),.c (.int .i64 deep)] H K
def BJ (d:Nat):Prop:=∀(R:Rdr) (gl k:Nat) (s:GS) (H:Heap) (K:V->Heap->Prop) (deep:Int),deep<=d->H R.l=R.o k->H gl=s.o R->R.l≠gl->s.ok k->FnsOk H R gl s->k+2001 * 10^d<=2^30->
  (∀(l:List St) (c:C) (Lg:List (Nat×Obj)) (s':GS) (H':Heap) (k':Nat),k<k'->k'<=k+2001 * 10^d->Upd H H' [(R.l,R.o k'),(gl,s'.o R)]->Gr Lg 5 (Ak l) c->New H H' Lg->s'.ok k'->s.left+4 * (k:Int)<=s'.left+4 * (k':Int)->s'.fns=s.fns->s'.ffl=s.ffl->
   l.length<=8->A2 l->4 * k+Ah l<=4 * k'->K (.c c) H')->
  Qv prog G6 [.c (.ptr gl 0),.c (.int .i64 deep)] H K
theorem IM {d:Nat}(hS:Ew d):BJ d:=by
 intro R gl k s H K deep hd hR hG be hs hF hk hK;have iG:d<10^d:=Jx ZD;generalize kG:10^d=e at *;have nj:=hS;simp only[Ew]at nj;rw[kG]at nj;generalize hM:500 * e=M at *;refine CX ?_;refine Qc Ab Qaur ?_;refine Za ?_;refine Zw hG ?_;refine Wg ?_;simp only[go_sem,hG,GS.o];have kn:=Kn.start2 hR (R.aj k) hG (s.aj R) be;refine Ba (ns:=[2,3,1,4]) hR ZD ZF λv H1 hv hu=>?_;have kn:=kn.am 0 rfl hu (R.aj _);simp only[go_sem,Qpr];have hv4:1<=v/\v<=4:=by simp at hv;omega
 refine Qg (Qd (Qs (λn e1 H1=>∃(j k4:Nat) (l:List St) (c:C) (Lg:List (Nat×Obj)) (s':GS),n=v.toNat-j/\(j:Int)<=v/\k+1<=k4/\k4<=k+1+M * j/\4 * k+Ah l<=4 * k4/\A2 l/\l.length<=2 * j/\
    Gr Lg 5 (Ak l) c/\s'.ok k4/\s.left+4 * (k:Int)<=s'.left+4 * (k4:Int)/\s'.fns=s.fns/\s'.ffl=s.ffl/\Kn H H1 [(R.l,R.o k4),(gl,s'.o R)] ([]++Lg)/\
    e1=[(0,V.c (C.ptr gl 0)),(1,.c (.int .i64 deep)),(5,.c (.sl s.vfl 1 (A5 s.vars))),(6,.c c),(7,V.c (C.int IntKind.i64 (v-j)))]) v.toNat ?_ ?_))
 ·exact⟨0,k+1,[],_,[],s,ZD,ZD,ZD,ZD,by simp only[Ah];omega,trivial,ZF,.nil 5,hs.mono ZD,ZD,rfl,rfl,kn,ZF⟩
 ·rintro n e1 H1 ⟨j,k4,l,c,Lg,s',hn,hj,iO,vT,bj,ay,lI,aq,eX,hlf,pB,nO,kn,rfl⟩;have ig:=kn.e 1 rfl;have hMj:M * j<=M * 4:=Jy _ ZD;refine Q3 (Qa ?_);simp only[go_sem,ig,GS.o];refine Wv ?_ ?_
  ·intro hc;have hi:(j:Int)<v:=by
    cases h:decide (0<v-(j:Int))with
    |true=>have:0<v-(j:Int):=by simpa using h
           omega
    |false=>rw[h]at hc;simp at hc
   have yR:M * (j+1)=M * j+M:=Jaf _ _;have yQ:M * (j+1)<=M * 4:=Jy _ ZD;refine Zd ?_;refine Qg (Qd (Qp ?_));simp only[go_sem];refine nj _ _ _ _ _ _ deep hd (kn.e 0 rfl) (kn.e 1 rfl) be eX (hF.keep kn pB nO) ZD λl2 s2 H2 k5 g1 g2 hu g3 glf g4 g5 g6 g7 g8=>?_;have kn:=kn.callEE 0 1 rfl rfl ZR hu (R.aj _) (GS.aj _ _);simp only[go_sem,Qpt];refine kn.grow aq (.mk' _ _ _ (Ak l2)) (Gn _) (by simp only[Bp,LIM];omega) λy' H3 kn=>?_;simp only[go_sem,Qps];refine Zi ?_;refine⟨Qo,?_⟩;simp only[X.next];refine⟨v.toNat-(j+1),ZD,j+1,k5,l++l2,.ah y' 5 0 ((Ak l).length+(Ak l2).length),_,s2,rfl,ZD,ZD,ZD,?_,Fb ay g7,by simp;omega,?_,g3,ZD,g4.trans pB,g5.trans nO,kn,?_⟩
   ·rw[Hi];omega
   ·rw[Fc];exact .mk _ _ _ (by simp[Bp])
   ·have:v-((j+1:Nat):Int)=v-j-1:=ZD;rw[this]
  ·intro hc;refine Zb ?_;refine Zw ig ?_;intro H2 h2;have kn:Kn H H2 [(R.l,R.o k4),(gl,GS.o { s' with vars:=s.vars,vfl:=s.vfl } R)] ([]++Lg):=kn.stE 1 rfl h2;refine Wr ?_;refine⟨unx H Lg,_,H2.frz (unx H Lg),.c _ _ (.same _ aq.ai),CL _ _,?_⟩;refine hK l c Lg _ _ k4 ZD ZD kn.finx.1 aq kn.finx.2 ⟨eX.n0,eX.n1,eX.l0,eX.l1,?_,eX.f,eX.fn⟩ (by show _<=s'.left+_;omega) pB nO ZD ay bj;have:=hs.v;show s.vars.length<=_;omega
def Ey (d:Nat):Prop:=∀(R:Rdr) (gl k:Nat) (s:GS) (H:Heap) (K:V->Heap->Prop) (deep:Int),deep<=d+1->2<=deep->H R.l=R.o k->H gl=s.o R->R.l≠gl->s.ok k->FnsOk H R gl s->k+2001 * 10^d+10<=2^30->
  (∀(l:List St) (s':GS) (H':Heap) (k':Nat),k+2<k'->k'<=k+2001 * 10^d+3->Upd H H' [(R.l,R.o k'),(gl,s'.o R)]->s'.ok k'->s.left+4 * (k:Int)<=s'.left+4 * (k':Int)->s'.fns=s.fns->s'.ffl=s.ffl->l.length<=2->A2 l->4 * k+Ah l<=4 * k'->K (.c (.sl false 5 (Ak l))) H')->
  Qv prog Sm [.c (.ptr gl 0),.c (.int .i64 deep)] H K
theorem XX {d:Nat}(hB:BJ d):Ey d:=by
 intro R gl k s H K deep hd cD hR hG be hs hF hk hK;have iG:d<10^d:=Jx ZD;have qw:=hB;simp only[BJ]at qw;generalize kG:10^d=e at *;refine Q0 ?_;refine Qc Ab Qa0g ?_;refine Za ?_;refine Zw hG ?_;have kn:=Kn.start2 hR (R.aj k) hG (s.aj R) be;refine Ba (ns:=[2,3,1,0,5]) hR ZD ZF λv H1 hv hu=>?_;have kn:=kn.am 0 rfl hu (R.aj _);simp only[go_sem,Qt6];refine MU (x:=Ex.mk 1 v [] []) (fl:=true) (kn.e 0 rfl) (kn.e 1 rfl) be (hs.mono (Jac k)) ZD λname H2 k2 g1 g2 hu=>?_;have kn:=kn.callEE 0 1 rfl rfl ZR hu (R.aj _) (GS.aj _ _);simp only[go_sem,Qt5];intro x5 bm H3 h3;have kn:=kn.al bm h3;have dZ:=kn.l 0 rfl;simp only[go_sem,Qt4,dZ,St.cells];intro H4 h4;have kn:=kn.aB 0 rfl h4;have fA:=kn.l 0 rfl;refine Zh fA ?_;intro x6 ba H5 h5;have kn:=kn.al ba h5;have km:=kn.l 1 rfl;simp only[go_sem,Qt7,km];intro H6 h6;have kn:=kn.aB 1 rfl h6;refine Za ?_;refine⟨Qo,?_⟩;have dQ:GS.ok { s with next:=s.next+1,vars:=s.vars++[name],vfl:=false } k2:=by
  refine⟨?_,?_,?_,hs.l1,?_,hs.f,hs.fn⟩
  ·have:=hs.n0;show -1<=s.next+1;omega
  ·have:=hs.n1;show s.next+1<=_;omega
  ·have:=hs.l0;show _<=s.left;omega
  ·have:=hs.v;show (s.vars++[name]).length<=_;simp;omega
 refine qw _ _ _ _ _ _ (deep-1) ZD (kn.e 0 rfl) (kn.e 1 rfl) be dQ (hF.keep kn rfl rfl) ZD λl c Lg s3 H7 k3 g3 g4 hu aq dS jK glf g5 g6 g7 g8 g9=>?_;have kn0:=kn;have kn:=kn.callEE 0 1 rfl rfl ZR hu (R.aj _) (GS.aj _ _);have kn:=kn0.addGr kn rfl rfl aq dS;have ox:=kn.l 0 rfl;have jp:=kn.l 1 rfl;simp only[go_sem,Qt8];refine Zn ox jp ?_;intro x8 aS H8 h8;have kn:=kn.al aS h8;have kn:=kn.perm (L':=[(x5,_),(x6,_),(x8,_)]++Lg) (by
  simp only[List.set,Jq,Jr];refine .cons _ (.cons _ ?_);exact Jf)
 have tY:=kn.l 2 rfl;simp only[go_sem,Qt9,tY];intro H9 h9;have kn:=kn.aB 2 rfl h9;have xo:=kn.e 1 rfl;refine Zw xo ?_;have gp:=jK.l0;have mL:=jK.l1;refine⟨Qo,λH10 dg=>?_⟩;have kn:Kn H H10 [(R.l,R.o k3),(gl,GS.o { s3 with left:=s3.left-2 } R)] ([(x5,_),(x6,_),(x8,_)]++Lg):=kn.stE 1 rfl dg;have ug:=kn.l 0 rfl;have kg:=kn.l 1 rfl;have tW:=kn.l 2 rfl;refine Aj ?_;simp only[go_sem,ug,kg,tW];refine kn.grow aq (.mk' _ _ _ _) (by intro r hr;simp only[Ja]at hr;subst hr;rfl) (by simp only[Bp,LIM,Jj,Jo];omega) λy' H11 kn=>?_;have uf:=kn.l 0 rfl;have kf:=kn.l 1 rfl;have cd:=kn.l 3 rfl;simp only[go_sem,Qua,uf,kf];refine Zc ?_;have dR:GS.ok { s3 with left:=s3.left-2 } k3:=⟨jK.n0,jK.n1,by show _<=s3.left-2;have:=hs.l0;simp only at glf;omega,by show s3.left-2<=100;omega,jK.v,jK.f,jK.fn⟩;refine⟨.c (.sl false 5 (Ak [St.mk 1 name [Ex.mk 1 v [] []] [] [],St.mk 6 [] [Ex.mk 2 0 name []] (l++[St.mk 2 name [Ex.mk 4 0 [] [Ex.mk 2 0 name [],Ex.mk 1 1 [] []]] [] []]) []])),.c _ _ ?_,hK _ _ _ k3 ZD ZD kn.fin dR (by show _<=s3.left-2+_;simp only at glf;omega) g5 g6 ZF ?_ ?_⟩
 ·simp only[Ak,St.cells,Ap,Ex.cells,<-Fc]
  repeat' first|exact FrzL.nil|exact FrzR.nil|exact Qi rfl|exact FrzL.same (Ex.an _)|exact FrzL.same (St.an _)|refine FrzL.cons ?_ ?_|refine FrzR.cons ?_ ?_|refine FrzR.sl ?_
  refine FrzR.ah (kn.un 3 rfl) cd ZF (.app (.same (Gn _)) ?_)
  repeat' first|exact FrzL.nil|exact FrzR.nil|exact Qi rfl|exact FrzL.same (Ex.an _)|exact FrzL.same (St.an _)|refine FrzL.cons ?_ ?_|refine FrzR.cons ?_ ?_|refine FrzR.sl ?_
 ·simp only[A2,St.ok,A9,Ex.ok];refine⟨⟨ZF,⟨⟨λh=>ZK,trivial⟩,trivial⟩,trivial,trivial⟩,⟨ZF,⟨⟨λh=>ZK,trivial⟩,trivial⟩,Fb g8 ?_,trivial⟩,trivial⟩;simp[A2,St.ok,A9,Ex.ok]
 ·simp only[Ah,St.size,Hi,As,Ex.size];omega
theorem HD {A L1 L2:List (Nat×Obj)}:(A++L1++L2).Perm (A++L2++L1):=by
 rw[Ji,Ji];exact .append_left _ Jf
set_option maxHeartbeats 2000000 in
theorem HV {d : Nat} (hB : ∀ d', d = d' + 1 -> BJ d') : Ew d := by
  intro R gl k s H K deep hd hR hG be hs hF hk hK;have iG : d < 10^d := Jx ZD;have jh : ∃ e, 10^d = e /\ ∀ d', d = d' + 1 -> 10 * 10^d' = e := ⟨10^d, rfl, λd' h => by rw [h, Nat.pow_succ]; omega⟩;obtain ⟨e, kG, he'⟩ := jh;rw [kG] at iG hk hK;have gp := hs.l0;have mL := hs.l1;refine Q0 ?_;refine Qc Ab Qa0h ?_;refine Qa ?_;simp only [go_sem];refine Qa ?_;simp only [go_sem, hG, GS.o];refine ⟨Qo, λH1 h1 => ?_⟩;have kn : Kn H H1 [(R.l, R.o k), (gl, GS.o { s with left := s.left - 1 } R)] [] := (Kn.start2 hR (R.aj k) hG (s.aj R) be).stE 1 rfl h1;have di : GS.ok { s with left := s.left - 1 } (k + 1) := ⟨hs.n0, by have := hs.n1; show s.next <= _; omega, by show _ <= s.left - 1; omega, by show s.left - 1 <= 100; omega, by have := hs.v; show s.vars.length <= _; omega, hs.f, hs.fn⟩;have rF : s.left <= ({ s with left := s.left - 1 } : GS).left + 1 := by show s.left <= s.left - 1 + 1; omega
  have iR : ({ s with left := s.left - 1 } : GS).fns = s.fns := rfl;have qp : ({ s with left := s.left - 1 } : GS).ffl = s.ffl := rfl;have jk : FnsOk H R gl { s with left := s.left - 1 } := ⟨hF.1, hF.2⟩;generalize ({ s with left := s.left - 1 } : GS) = s1 at *;have ig := kn.e 1 rfl;refine Qa ?_;simp only [go_sem, ig, GS.o];refine Au (kn.e 0 rfl) ZD λv H2 hv hu => ?_;have kn : Kn H H2 [(R.l, R.o (k + 1)), (gl, s1.o R)] [] := kn.am 0 rfl hu (R.aj _);have fX := kn.e 1 rfl;simp only [go_sem, Qud];have fin : ∀ (l : List St) (c : C) (s' : GS) (H3 : Heap) (k3 : Nat) (L : List (Nat × Obj)), k < k3 -> k3 <= k + 500 * e -> Kn H H3 [(R.l, R.o k3), (gl, s'.o R)] L -> FrzC H3 (un H) c (.sl false 5 (Ak l)) ->
      s'.ok k3 -> s1.left + 4 * ((k + 1 : Nat) : Int) <= s'.left + 4 * (k3 : Int) -> s'.fns = s1.fns -> s'.ffl = s1.ffl -> l.length <= 2 -> A2 l -> 4 * k + Ah l <= 4 * k3 -> ∃ x', FrzV H3 (un H) (.c c) x' /\ K x' (H3.frz (un H)) := by
    intro l c s' H3 k3 L g1 g2 kn g3 g4 g5 g6 g7 g8 g9 g10;exact ⟨_, .c _ _ g3, hK l s' _ k3 g1 g2 kn.fin g4 ZD (g6.trans iR) (g7.trans qp) g8 g9 g10⟩
  refine Wh ?_;simp only [go_sem, fX, GS.o, Bc];intro b6;refine Ww ?_ ?_
  ·
    intro hc;have ez : 0 < s1.vars.length := by
      cases h : decide (v < 3) with
      | true => rw [h] at hc; simp at hc; omega
      | false => rw [h] at hc; simp at hc
    refine Aj ?_;simp only [go_sem, fX, GS.o];refine of_c (kn.e 0 rfl) ZD ez λname H3 hn hu => ?_;have kn := kn.am 0 rfl hu (R.aj _);simp only [go_sem, Quf];refine DU 3 ZD (kn.e 0 rfl) (kn.e 1 rfl) be (di.mono ZD) (jk.keep kn rfl rfl) ZD λx H4 k4 g1 g2 hu g3 g4 => ?_;have kn := kn.am 0 rfl hu (R.aj _);simp only [go_sem, Que, x.au];refine Qk ?_;simp only [go_sem, Q4, Aa, C7, Ja, forall_eq, RS.op];refine fin [St.mk 2 name [x] [] []] _ s1 H4 k4 _ ZD ZD kn ?_ (di.mono ZD) ZD rfl rfl ZF ?_ ?_
    · simp only [Ak, St.cells, Ap]
      repeat' first | exact FrzL.nil | exact FrzR.nil | exact Qi rfl | exact FrzL.same (Ex.an _) | exact FrzL.same (St.an _) | refine FrzL.cons ?_ ?_ | refine FrzR.cons ?_ ?_ | refine FrzR.sl ?_
    · simp only [A2, St.ok, A9]; exact ⟨⟨ZF, ⟨g3, trivial⟩, trivial, trivial⟩, trivial⟩
    · simp only [Ah, St.size, As]; omega
  intro de;refine Qa ?_;simp only [go_sem];refine Ww ?_ ?_
  ·
    intro hc;refine Qa ?_;simp only [go_sem];refine DU 3 ZD (kn.e 0 rfl) (kn.e 1 rfl) be (di.mono ZD) (jk.keep kn rfl rfl) ZD λx H4 k4 g1 g2 hu g3 g4 => ?_;have kn := kn.am 0 rfl hu (R.aj _);simp only [go_sem, Quh, x.aD];refine MU (x := x) (kn.e 0 rfl) (kn.e 1 rfl) be (di.mono ZD) ZD λname H5 k5 g5 g6 hu => ?_;have kn := kn.callEE 0 1 rfl rfl ZR hu (R.aj _) (GS.aj _ _);simp only [go_sem, Qug, St.au];refine Qk ?_;simp only [go_sem, Q4, Aa, C7, Ja, forall_eq, RS.op];have h0 := di.n0;have h1 := di.n1;have h2 := di.l0;have h3 := di.v;refine fin [St.mk 1 name [x] [] []] _ _ H5 k5 _ ZD ZD kn ?_ ⟨?_, ?_, ?_, di.l1, ?_, di.f, di.fn⟩ (by show _ <= s1.left + _; omega) rfl rfl ZF ?_ ?_
    · simp only [Ak]
      repeat' first | exact FrzL.nil | exact FrzR.nil | exact Qi rfl | exact FrzL.same (Ex.an _) | exact FrzL.same (St.an _) | refine FrzL.cons ?_ ?_ | refine FrzR.cons ?_ ?_ | refine FrzR.sl ?_
    · show -1 <= s1.next + 1; omega
    · show s1.next + 1 <= _; omega
    · show _ <= s1.left; omega
    · show (s1.vars ++ [name]).length <= _; simp; omega
    · simp only [A2, St.ok, A9]; exact ⟨⟨ZF, ⟨g3, trivial⟩, trivial, trivial⟩, trivial⟩
    · simp only [Ah, St.size, As]; omega
  intro bF;refine Qa ?_;simp only [go_sem];refine Ww ?_ ?_
  ·
    intro hc;refine Qa ?_;simp only [go_sem];refine DU 3 ZD (kn.e 0 rfl) (kn.e 1 rfl) be (di.mono ZD) (jk.keep kn rfl rfl) ZD λx H4 k4 g1 g2 hu g3 g4 => ?_;have kn := kn.am 0 rfl hu (R.aj _);simp only [go_sem, Qui, x.au];refine Qk ?_;simp only [go_sem, Q4, Aa, C7, Ja, forall_eq, RS.op];refine fin [St.mk 3 [] [x] [] []] _ s1 H4 k4 _ ZD ZD kn ?_ (di.mono ZD) ZD rfl rfl ZF ?_ ?_
    · simp only [Ak, St.cells, Ap]
      repeat' first | exact FrzL.nil | exact FrzR.nil | exact Qi rfl | exact FrzL.same (Ex.an _) | exact FrzL.same (St.an _) | refine FrzL.cons ?_ ?_ | refine FrzR.cons ?_ ?_ | refine FrzR.sl ?_
    · simp only [A2, St.ok, A9]; exact ⟨⟨ZF, ⟨g3, trivial⟩, trivial, trivial⟩, trivial⟩
    · simp only [Ah, St.size, As]; omega
  intro ao;have mX : 2 <= deep := by
    cases h : decide (v < 7) with
    | true => rw [h] at ao; simp at ao
    | false => rw [h] at ao; simp at ao; omega
  obtain ⟨d', y4⟩ : ∃ d', d = d' + 1 := ⟨d - 1, by omega⟩;have za : BJ d' := hB d' y4;have hL0 : Ey d' := XX za;have qw := za;have yW := hL0;simp only [BJ, Ey] at qw yW;have tx := he' d' y4;have ql : d' < 10^d' := Jx ZD;generalize 10^d' = e1 at *;refine Qa ?_;simp only [go_sem];refine Ww ?_ ?_
  ·
    intro hc;refine Qa ?_;simp only [go_sem];refine Q8r (kn.e 0 rfl) (kn.e 1 rfl) be (di.mono ZD) (jk.keep kn rfl rfl) ZD λx H4 k4 g1 g2 hu g3 g4 => ?_;have kn := kn.am 0 rfl hu (R.aj _);simp only [go_sem, Quk];refine DU 2 ZD (kn.e 0 rfl) (kn.e 1 rfl) be (di.mono ZD) (jk.keep kn rfl rfl) ZD λy H5 k5 g5 g6 hu g7 g8 => ?_;have kn := kn.am 0 rfl hu (R.aj _);simp only [go_sem, Quj, x.au, y.au];refine Qk ?_;simp only [go_sem, Q4, Aa, C7, Ja, forall_eq, RS.op];refine fin [St.mk 4 [] [x, y] [] []] _ s1 H5 k5 _ ZD ZD kn ?_ (di.mono ZD) ZD rfl rfl ZF ?_ ?_
    · simp only [Ak, St.cells, Ap]
      repeat' first | exact FrzL.nil | exact FrzR.nil | exact Qi rfl | exact FrzL.same (Ex.an _) | exact FrzL.same (St.an _) | refine FrzL.cons ?_ ?_ | refine FrzR.cons ?_ ?_ | refine FrzR.sl ?_
    · simp only [A2, St.ok, A9]; exact ⟨⟨ZF, ⟨g3, g7, trivial⟩, trivial, trivial⟩, trivial⟩
    · simp only [Ah, St.size, As]; omega
  intro bk;refine Qa ?_;simp only [go_sem];refine Ww ?_ ?_
  ·
    intro hc;refine Qa ?_;simp only [go_sem];refine Q8r (kn.e 0 rfl) (kn.e 1 rfl) be (di.mono ZD) (jk.keep kn rfl rfl) ZD λx H4 k4 g1 g2 hu g3 g4 => ?_;have kn := kn.am 0 rfl hu (R.aj _);simp only [go_sem, Qul, x.au];refine Qk ?_;simp only [go_sem, Q4, Aa, C7, Ja, forall_eq, RS.op];refine fin [St.mk 3 [] [Ex.mk 12 0 [] [x]] [] []] _ s1 H4 k4 _ ZD ZD kn ?_ (di.mono ZD) ZD rfl rfl ZF ?_ ?_
    · rw [Ak, Ak, St.cells, Ap, Ap, Ex.aD (Ex.mk 12 0 [] _)];simp only [Ak, Ap, Ex.kids, Ex.op, Ex.n, Ex.name]
      repeat' first | exact FrzL.nil | exact FrzR.nil | exact Qi rfl | exact FrzL.same (Ex.an _) | exact FrzL.same (St.an _) | refine FrzL.cons ?_ ?_ | refine FrzR.cons ?_ ?_ | refine FrzR.sl ?_
    · simp only [A2, St.ok, A9, Ex.ok]; exact ⟨⟨ZF, ⟨⟨λh => by simp at h, g3, trivial⟩, trivial⟩, trivial, trivial⟩, trivial⟩
    · simp only [Ah, St.size, As, Ex.size]; omega
  intro bN;refine Qa ?_;simp only [go_sem];refine Ww ?_ ?_
  ·
    intro hc;refine Qa ?_;simp only [go_sem];refine DU 3 ZD (kn.e 0 rfl) (kn.e 1 rfl) be (di.mono ZD) (jk.keep kn rfl rfl) ZD λx H4 k4 g1 g2 hu g3 g4 => ?_;have kn := kn.am 0 rfl hu (R.aj _);simp only [go_sem, Qp0, x.au];refine ⟨Qo, ?_⟩;refine qw _ _ _ _ _ _ (deep - 1) ZD (kn.e 0 rfl) (kn.e 1 rfl) be (di.mono ZD) (jk.keep kn rfl rfl) ZD λb1 c1 L1 s2 H5 k5 g5 g6 hu iQ dS dQ glf g7 g8 g9 g10 g11 => ?_;have kn0 := kn;have kn := kn.callEE 0 1 rfl rfl ZR hu (R.aj _) (GS.aj _ _);have kn := kn0.addGr kn rfl rfl iQ dS;have sy := iQ.ai;simp only [go_sem, Qpz];intro x6 ba H6 h6;have kn := kn.al ba h6;have kn := kn.perm (L' := [(x6, _)] ++ L1) Jf;have ki := kn.l 0 rfl;simp only [go_sem, Qum, ki];intro H7 h7;have kn : Kn H H7 [(R.l, R.o k5), (gl, s2.o R)] ([(x6, _)] ++ L1) := kn.aB 0 rfl h7;have sQ := kn.e 1 rfl;refine Q3 (Qa ?_);simp only [go_sem, sQ, GS.o];refine Au (kn.e 0 rfl) ZD λv2 H8 ny hu => ?_;have kn : Kn H H8 [(R.l, R.o (k5 + 1)), (gl, s2.o R)] ([(x6, _)] ++ L1) := kn.am 0 rfl hu (R.aj _);simp only [go_sem, Qp1];have rest : ∀ (E1 : Env) (hE : lk 6 E1 = V.c (C.ptr x6 0)) (c2 : C) (b2 : List St) (L2 : List (Nat × Obj)) (s3 : GS) (H9 : Heap) (k6 : Nat), k5 + 1 <= k6 -> k6 <= k5 + 1 + 2001 * e1 -> Gr L2 5 (Ak b2) c2 ->
        Kn H H9 [(R.l, R.o k6), (gl, s3.o R)] ([(x6, .st [.int .i64 5, .str [], .sl true 4 [x.cells], c1, c2])] ++ L1 ++ L2) -> s3.ok k6 -> s2.left + 4 * ((k5 + 1 : Nat) : Int) <= s3.left + 4 * (k6 : Int) -> s3.fns = s2.fns -> s3.ffl = s2.ffl -> A2 b2 -> 4 * (k5 + 1) + Ah b2 <= 4 * k6 ->
        Ad prog Qub (X.inBlock 0 (X.sq prog SI (Q4 C7 (unK H K)))) E1 H9 := by
      intro E1 hE c2 b2 L2 s3 H9 k6 e1 e2 eC kn e3 e4 e5 e6 e7 e8;have kh := kn.l 0 rfl;have sx := eC.ai;refine Qa ?_;simp only [go_sem, hE, kh, sy, sx];refine Qk ?_;simp only [go_sem, Q4, Aa, C7, Ja, forall_eq, RS.op];refine fin [St.mk 5 [] [x] b1 b2] _ s3 H9 k6 _ ZD ZD kn ?_ e3 ZD (e5.trans g7) (e6.trans g8) ZF ?_ ?_
      · simp only [Ak, St.cells, Ap]
        repeat' first | exact FrzL.nil | exact FrzR.nil | exact Qi rfl | exact FrzL.same (Ex.an _) | exact FrzL.same (St.an _) | refine FrzL.cons ?_ ?_ | refine FrzR.cons ?_ ?_ | refine FrzR.sl ?_
        · exact iQ.frz (kn.perm HD) (Gn _)
        · exact eC.frz kn (Gn _)
      · simp only [A2, St.ok, A9]; exact ⟨⟨ZF, ⟨g3, trivial⟩, g10, e7⟩, trivial⟩
      · simp only [Ah, St.size, As]; omega
    refine Wv ?_ ?_
    · intro cq;refine Qp ?_;simp only [go_sem];refine ⟨Qo, ?_⟩;refine qw _ _ _ _ _ _ (deep - 1) ZD (kn.e 0 rfl) (kn.e 1 rfl) be (dQ.mono ZD) (jk.keep kn g7 g8) ZD λb2 c2 L2 s3 H9 k6 q1 q2 hu eC dS jK q3 q4 q5 q6 q7 q8 => ?_;have kn0 := kn;have kn := kn.callEE 0 1 rfl rfl ZR hu (R.aj _) (GS.aj _ _);have kn := kn0.addGr kn rfl rfl eC dS;have kh := kn.l 0 rfl;simp only [go_sem, Qp2, kh];intro H10 dg;have kn : Kn H H10 [(R.l, R.o k6), (gl, s3.o R)] ([(x6, _)] ++ L1 ++ L2) := kn.aB 0 rfl dg;exact rest _ (by simp [lk]) c2 b2 L2 s3 H10 k6 ZD ZD eC kn jK ZD q4 q5 q7 ZD
    · intro cq;refine Qh ?_;simp only [go_sem];exact rest _ (by simp [lk]) _ [] [] s2 H8 (k5 + 1) ZD ZD (.nil 5) (by rw [List.append_nil]; exact kn) (dQ.mono ZD) ZD rfl rfl trivial (by simp only [Ah]; omega)
  · intro iS;refine Qa ?_;simp only [go_sem, fX, GS.o];have rest : ∀ (b : Bool) (H3 : Heap) (k3 : Nat), k + 1 <= k3 -> k3 <= k + 2 -> Kn H H3 [(R.l, R.o k3), (gl, s1.o R)] [] ->
        Ad prog Quc (X.inBlock 0 (X.sq prog SI (Q4 C7 (unK H K))))
         [(0, V.c (C.ptr gl 0)), (1, .c (.int .i64 deep)), (109, .c (.bool b))] H3 := by
      intro b H3 k3 e3 e4 kn;refine Ww ?_ ?_
      · intro hb;refine Qa ?_;simp only [go_sem];refine DU 2 ZD (kn.e 0 rfl) (kn.e 1 rfl) be (di.mono ZD) (jk.keep kn rfl rfl) ZD λx H4 k4 g1 g2 hu g3 g4 => ?_;have kn := kn.am 0 rfl hu (R.aj _);simp only [go_sem, Qp3, x.au];refine Qk ?_;simp only [go_sem, Q4, Aa, C7, Ja, forall_eq, RS.op];refine fin [St.mk 7 [] [x] [] []] _ s1 H4 k4 _ ZD ZD kn ?_ (di.mono ZD) ZD rfl rfl ZF ?_ ?_
        · simp only [Ak, St.cells, Ap]
          repeat' first | exact FrzL.nil | exact FrzR.nil | exact Qi rfl | exact FrzL.same (Ex.an _) | exact FrzL.same (St.an _) | refine FrzL.cons ?_ ?_ | refine FrzR.cons ?_ ?_ | refine FrzR.sl ?_
        · simp only [A2, St.ok, A9]; exact ⟨⟨ZF, ⟨g3, trivial⟩, trivial, trivial⟩, trivial⟩
        · simp only [Ah, St.size, As]; omega
      · intro hb;refine Qh ?_;simp only [go_sem];refine Qa ?_;simp only [go_sem];refine yW _ _ _ _ _ _ deep ZD mX (kn.e 0 rfl) (kn.e 1 rfl) be (di.mono ZD) (jk.keep kn rfl rfl) ZD λl s2 H4 k4 g1 g2 hu g3 g4 g5 g6 g7 g8 g9 => ?_;have kn := kn.callEE 0 1 rfl rfl ZR hu (R.aj _) (GS.aj _ _);simp only [go_sem, Qp4];refine Qk ?_;simp only [go_sem, Q4, Aa, C7, Ja, forall_eq, RS.op];exact fin l _ s2 H4 k4 _ ZD ZD kn (Qi rfl) g3 ZD g5 g6 g7 g8 ZD
    refine ⟨λhb => ?_, λhb => ?_⟩
    · refine Au (kn.e 0 rfl) ZD λv2 H3 ny hu => ?_;have kn := kn.am 0 rfl hu (R.aj _);simp only [go_sem, Td];exact rest _ H3 (k + 1 + 1) ZD ZD kn
    · simp only [go_sem, Td, hb];exact rest _ H2 (k + 1) ZD ZD kn
theorem Ye (d:Nat):BJ d:=by
 induction d with
 |zero=>exact IM (HV (λd' h=>absurd h ZD))
 |succ d ih=>exact IM (HV (λd' h=>by
   have:d'=d:=ZD
   rw[this];exact ih))
set_option maxHeartbeats 1000000 in
theorem KH {R:Rdr}{gl k:Nat}{s:GS}{name:List UInt8}{params:Int}{H:Heap}{K:V->Heap->Prop}(iG:0<=params)(hp3:params<=3)(hR:H R.l=R.o k)(hG:H gl=s.o R)(be:R.l≠gl)(hs:s.ok k)(hF:FnsOk H R gl s)(hk:k+2001300<=2^30)
  (hK:∀(f:Fn) (s':GS) (H':Heap) (k':Nat),k<k'->k'<=k+2001300->Upd H H' [(R.l,R.o k'),(gl,s'.o R)]->s'.ok k'->s'.fns=s.fns->s'.ffl=s.ffl->f.params.length<=3->A2 f.body->4 * k+Ah f.body<=4 * k'->K (.ag f.cells) H') :
  Qv prog Pj [.c (.ptr gl 0),.c (.str name),.c (.int .i64 params)] H K:=by
 obtain⟨np,rfl⟩:=Jn iG;refine Q0 ?_;refine Qc Ab Qbix ?_;refine Za ?_;intro x6 ba H1 h1;have kn:=(Kn.start2 hR (R.aj k) hG (s.aj R) be).al ba h1;have ig:=kn.e 1 rfl;refine Qa ?_;have etk:List.take np [[C.str [97]],[C.str [98]],[C.str [99]]]=A5 (List.take np [[97],[98],[99]]):=by simp[A5,List.map_take]
 simp only[go_sem,ig,GS.o,etk];refine⟨⟨ZD,ZD⟩,λH2 h2=>?_⟩;have kn:Kn H H2 [(R.l,R.o k),(gl,GS.o { s with vars:=List.take np [[97],[98],[99]],vfl:=false } R)] [(x6,_)]:=kn.stE 1 rfl h2;have fX:=kn.e 1 rfl;refine Zw fX ?_;refine⟨Qo,λH3 h3=>?_⟩;have kn:Kn H H3 [(R.l,R.o k),(gl,GS.o { s with vars:=List.take np [[97],[98],[99]],vfl:=false,next:=(np:Int)-1 } R)] [(x6,_)]:=kn.stE 1 rfl h3;have di:GS.ok { s with vars:=List.take np [[97],[98],[99]],vfl:=false,next:=(np:Int)-1 } k:=
  ⟨by show -1<=(np:Int)-1;omega,by show (np:Int)-1<=_;omega,hs.l0,hs.l1,by show (List.take np _).length<=_;simp;omega,hs.f,hs.fn⟩
 have b6:(List.take np [[97],[98],[99]]:List (List UInt8)).length<=3:=ZJ
 have iR:GS.fns { s with vars:=List.take np [[97],[98],[99]],vfl:=false,next:=(np:Int)-1 }=s.fns:=rfl;have qp:GS.ffl { s with vars:=List.take np [[97],[98],[99]],vfl:=false,next:=(np:Int)-1 }=s.ffl:=rfl;have nu:GS.vars { s with vars:=List.take np [[97],[98],[99]],vfl:=false,next:=(np:Int)-1 }=List.take np [[97],[98],[99]]:=rfl;rw[<-nu]at b6;have jk:FnsOk H R gl { s with vars:=List.take np [[97],[98],[99]],vfl:=false,next:=(np:Int)-1 }:=⟨hF.1,hF.2⟩;generalize ({ s with vars:=List.take np [[97],[98],[99]],vfl:=false,next:=(np:Int)-1 }:GS)=s1 at *;have nY:=kn.e 1 rfl;refine Qa ?_;have hL:s1.vars.length<=LIM:=ZU
 simp only[go_sem,nY,GS.o,Bc,Jh,Jq,hL];refine⟨.inl trivial,Pf _,λy hy H4 h4=>?_⟩;have kn:=kn.al hy h4;simp only[go_sem,Q4o];intro x7 dW H5 h5;have kn:=kn.al dW h5;have ou:=kn.l 2 rfl;simp only[go_sem,Q4n,ou];intro H6 h6;have kn:Kn H H6 [(R.l,R.o k),(gl,s1.o R)] [(x6,_),(y,_),(x7,_)]:=kn.aB 2 rfl h6;refine Za ?_;refine Ye 3 _ _ _ _ _ _ 3 ZD (kn.e 0 rfl) (kn.e 1 rfl) be di (jk.keep kn rfl rfl) ZD λl c Lg s2 H7 k2 g1 g2 hu aq dS dQ glf g3 g4 g5 g6 g7=>?_;have kn0:=kn;have kn:=kn.callEE 0 1 rfl rfl ZR hu (R.aj _) (GS.aj _ _);have kn:=kn0.addGr kn rfl rfl aq dS;have oq:=kn.l 2 rfl;simp only[go_sem,Q4p,oq];intro H8 h8;have kn:Kn H H8 [(R.l,R.o k2),(gl,s2.o R)] ([(x6,.st [.str [],.sl true 1 [],.sl true 5 []]),(y,.vec 1 (A5 s1.vars)),(x7,.st [.str name,.ah y 1 0 s1.vars.length,c])]++Lg):=kn.aB 2 rfl h8;have xp:=kn.e 1 rfl;refine Q3 (Qa ?_);simp only[go_sem,xp,GS.o];have b9:=aq.ai;have rest:∀(E1:Env) (yY:lk 6 E1=V.c (C.ptr x6 0)) (yX:lk 7 E1=V.c (C.ptr x7 0)) (l2:List St) (c2:C) (rws:List (List C)) (L2:List (Nat×Obj)) (s3:GS) (H9:Heap) (k3:Nat),k<k3->k3<=k+2001300->
   Kn H H9 [(R.l,R.o k3),(gl,s3.o R)] ([(x6,.st [.str [],.sl true 1 [],.sl true 5 []]),(y,.vec 1 (A5 s1.vars)),(x7,.st [.str name,.ah y 1 0 s1.vars.length,c2])]++L2)->Gr L2 5 rws c2->(∀H',FrzR H' (un H) rws (Ak l2))->
   s3.ok k3->s3.fns=s1.fns->s3.ffl=s1.ffl->A2 l2->4 * k+Ah l2<=4 * k3->Ad prog R5 (Q4 Pc (unK H K)) E1 H9:=by
  intro E1 yY yX l2 c2 rws L2 s3 H9 k3 e1 e2 kn eC gz e3 e4 e5 e6 e7;have kh:=kn.l 0 rfl;have ub:=kn.l 2 rfl;have b9:=eC.ai;refine Qa ?_;simp only[go_sem,yY,yX,kh,ub,b9];intro H10 dg;have kn:=kn.aB 0 rfl dg;have kg:=kn.l 0 rfl;have cW:=kn.l 1 rfl;refine Zp kg b9 ?_;refine⟨(.ag (Fn.mk name s1.vars l2).cells),?_,hK _ s3 _ k3 e1 e2 kn.fin e3 (e4.trans iR) (e5.trans qp) b6 e6 e7⟩;refine FrzL.ag (.cons (Qi rfl) (.cons ?_ (.cons ?_ .nil)))
  ·exact EM (kn.un 1 rfl) cW (by simp[A5]) (noOw_mem (Pf _))
  ·exact eC.frzR (B:=[_,_,_]) kn (gz _)
 have tl:∀(b:Bool) (H9:Heap) (k3:Nat),k2<=k3->k3<=k2+1->(b=true->0<s2.left)->Kn H H9 [(R.l,R.o k3),(gl,s2.o R)] ([(x6,.st [.str [],.sl true 1 [],.sl true 5 []]),(y,.vec 1 (A5 s1.vars)),(x7,.st [.str name,.ah y 1 0 s1.vars.length,c])]++Lg)->
   Ad prog (s_l3Gen_fn_7.seq R5) (Q4 Pc (unK H K)) [(0,V.c (C.ptr gl 0)),(6,V.c (C.ptr x6 0)),(7,V.c (C.ptr x7 0)),(42,.c (.bool b))] H9:=by
  intro b H9 k3 e1 e2 hb kn;have xo:=kn.e 1 rfl;refine Wv ?_ ?_
  ·intro hc;have hlp:=hb hc;have mL:=dQ.l1;refine Zw xo ?_;refine⟨Qo,λH10 dg=>?_⟩;have kn:Kn H H10 [(R.l,R.o k3),(gl,GS.o { s2 with left:=s2.left-1 } R)] ([(x6,_),(y,_),(x7,_)]++Lg):=kn.stE 1 rfl dg;have jK:GS.ok { s2 with left:=s2.left-1 } k3:=⟨dQ.n0,by have:=dQ.n1;show s2.next<=_;omega,by show _<=s2.left-1;omega,by show s2.left-1<=100;omega,by have:=dQ.v;show s2.vars.length<=_;omega,dQ.f,dQ.fn⟩;have om:=kn.l 2 rfl;refine Aw ?_;simp only[go_sem,om,b9];refine DU 2 ZD (kn.e 0 rfl) (kn.e 1 rfl) be jK (jk.keep kn g3 g4) ZD λx H11 k4 q1 q2 hu q3 q4=>?_;have kn:=kn.am 0 rfl hu (R.aj _);have lY:=kn.l 2 rfl;simp only[go_sem,Q4r,lY,b9,x.au];refine kn.grow (B:=[_,_,_]) aq (.mk' _ _ _ _) (by intro r hr;simp only[Ja]at hr;subst hr;rfl) (by simp only[Bp,LIM,Jj,Jo];omega) λy' H12 kn=>?_;have ua:=kn.l 2 rfl;simp only[go_sem,Q4q,ua];intro H13 pX;have kn:=kn.aB 2 rfl pX;refine rest _ ZE ZE (l++[St.mk 7 [] [x] [] []]) _ _ _ _ H13 k4 ZD ZD kn (.mk _ _ _ (by simp[Bp])) (λH'=>?_) (jK.mono ZD) g3 g4 (Fb g6 ?_) ?_
   ·rw[<-Fc];refine .app (.same (Gn _)) ?_;simp only[Ak,St.cells,Ap]
    repeat' first|exact FrzL.nil|exact FrzR.nil|exact Qi rfl|exact FrzL.same (Ex.an _)|exact FrzL.same (St.an _)|refine FrzL.cons ?_ ?_|refine FrzR.cons ?_ ?_|refine FrzR.sl ?_
   ·simp only[A2,St.ok,A9];exact⟨⟨ZF,⟨q3,trivial⟩,trivial,trivial⟩,trivial⟩
   ·simp only[Hi,Ah,St.size,As];omega
  ·intro hc;refine Zd ?_;exact rest _ ZE ZE l c _ Lg s2 H9 k3 ZD ZD kn aq (λH'=>.same (Gn _)) (dQ.mono ZD) g3 g4 g6 ZD
 refine⟨λhb=>?_,λhb=>?_⟩
 ·refine Au (kn.e 0 rfl) ZD λv H9 hv hu=>?_;have kn:=kn.am 0 rfl hu (R.aj _);simp only[go_sem,RR,hb];exact tl _ H9 (k2+1) ZD ZD (λ_=>ZW) kn
 ·simp only[go_sem,RR,hb];exact tl false H8 k2 ZD ZD (λh=>ZK) kn
variable {H:Heap}{K:V->Heap->Prop}
theorem RP {l:List Ex}{i:Nat}(h:i<l.length):As (l.take (i+1))=As (l.take i)+(l[i]'h).size:=by
 rw[Jg h,Ry];simp[As]
theorem R0 {l:List St}{i:Nat}(h:i<l.length):Ah (l.take (i+1))=Ah (l.take i)+(l[i]'h).size:=by
 rw[Jg h,Hi];simp[Ah]
theorem Tb (l:List Ex)(i:Nat):As (l.take i)<=As l:=by
 conv=>rhs;rw[<-Jw i l,Ry]
 omega
theorem SE (l:List St)(i:Nat):Ah (l.take i)<=Ah l:=by
 conv=>rhs;rw[<-Jw i l,Hi]
 omega
theorem St.size_pos (x:St):1<=x.size:=by rw[x.size_eq];omega
theorem Lj (l:List St):l.length<=Ah l:=by
 induction l with
 |nil=>simp
 |cons x r ih=>simp only[Jj,Ah];have:=x.size_pos;omega
theorem Qbna:∀(n:Nat) (x:Ex) {H:Heap} {K:V->Heap->Prop},x.size<=n->x.size<=2^40->K (.c (.int .i64 x.size)) H->Qv prog OT [.ag x.cells] H K:=by
 intro n
 induction n with
 |zero=>intro x _ _ h;have:=x.size_pos;omega
 |succ n ih=>
 intro x H K hn hb hK;have bj:=x.size_kids;refine Qc Ab Qbn2 ?_;refine Zx ?_;refine Wf ?_;refine Qg (Qd (Qs (λn e1 H1=>∃i:Nat,n=x.kids.length-i/\i<=x.kids.length/\H1=H/\e1=[(1,.c (.pp [.int .i64 x.op,.int .i64 x.n,.str x.name,.sl false 4 (Ap x.kids)])),(3,.c (.int .i64 ((1+As (x.kids.take i):Nat):Int))),(4,.c (.int .i64 i))]) x.kids.length ?_ ?_))
 ·exact⟨0,ZD,ZD,rfl,by simp[As]⟩
 ·rintro n e1 H1 ⟨i,hn,hi,rfl,rfl⟩;refine Q3 (Qa ?_);simp only[go_sem,Bi];intro hl;simp only[LIM]at hl;refine Wv ?_ ?_
  ·intro hc;have ae:i<x.kids.length:=ZG
   have hm:=Gv (Jc ae);have b8:=RP ae;have qh:=Tb x.kids (i+1);refine Zd ?_;refine Qg (Qd (Qp ?_));simp only[go_sem,ae,Bi,Ei _ _ ae,Ex.cK,Ex.bt,Ex.au];refine ih _ ZD ZD ?_;simp only[go_sem,N8];refine⟨Qo,?_⟩;refine Zg ?_;refine⟨Qo,x.kids.length-(i+1),ZD,i+1,rfl,ZD,?_⟩;rw[b8];simp;omega
  ·intro hc;have aY:x.kids.length<=i:=ZG
   refine Wn ?_;rw[Jd aY,<-bj];exact hK
theorem Qbso:∀(n:Nat) (x:Ex) {H:Heap} {K:V->Heap->Prop} (deep:Int),x.size<=n->deep<=100->(∀b:Bool,K (.c (.bool b)) H)->Qv prog Rg [.ag x.cells,.c (.int .i64 deep)] H K:=by
 intro n
 induction n with
 |zero=>intro x _ _ _ h;have:=x.size_pos;omega
 |succ n ih=>
 intro x H K deep hn hd hK;have bj:=x.size_kids;refine Qc Ab Qbs4 ?_;refine Zx ?_;refine Za ?_;refine Qbsp λlo hi=>?_;simp only[go_sem,Mu,List.getD_cons_zero,List.getD_cons_succ];refine Wa ?_;have retf:∀(b:Bool) (e:Env),lk 4 e=.c (.bool b)->Q4 OL K .ret e H:=by
  intro b e h1;simp only[go_sem,Q4,Aa,Ja,forall_eq,RS.op,h1];exact hK _
 have rest:∀b:Bool,(b=false->1<=deep)->Ad prog (s_l2Form_3.seq Mv) (Q4 OL K)
   [(1,.c (.int .i64 deep)),(2,.c (.pp [.int .i64 x.op,.int .i64 x.n,.str x.name,.sl false 4 (Ap x.kids)])),(31,.c (.bool b))] H:=by
  intro b hb;refine Wv ?_ ?_
  ·intro hc;refine We ?_;exact retf false _ ZE
  intro hc;have mX:=hb hc;refine Zd ?_;refine Wf ?_;refine DB λb1=>?_;simp only[go_sem,Mt];have rest2:∀b:Bool,Ad prog (s_l2Form_6.seq Mw) (Q4 OL K)
    [(1,.c (.int .i64 deep)),(2,.c (.pp [.int .i64 x.op,.int .i64 x.n,.str x.name,.sl false 4 (Ap x.kids)])),(69,.c (.bool b))] H:=by
   intro b;refine Wv ?_ ?_
   ·intro hc;refine We ?_;exact retf false _ ZE
   intro hc;refine Zd ?_;refine Wa ?_;refine Qg (Qd (Qs (λn e1 H1=>∃i:Nat,n=x.kids.length-i/\i<=x.kids.length/\H1=H/\e1=[(1,.c (.int .i64 deep)),(2,.c (.pp [.int .i64 x.op,.int .i64 x.n,.str x.name,.sl false 4 (Ap x.kids)])),(8,.c (.int .i64 i))]) x.kids.length ?_ ?_))
   ·exact⟨0,ZD,ZD,rfl,rfl⟩
   ·rintro n e1 H1 ⟨i,hn,hi,rfl,rfl⟩;refine Q3 (Qa ?_);simp only[go_sem,Bi];intro hl;simp only[LIM]at hl;refine Wv ?_ ?_
    ·intro hc;have ae:i<x.kids.length:=ZG;have hm:=Gv (Jc ae);refine Wq ?_;simp only[go_sem,ae,Bi,Ei _ _ ae,Ex.cK,Ex.bt,Ex.au];refine⟨Qo,?_⟩;refine ih _ (deep-1) ZD ZD λb2=>?_;simp only[go_sem,Ms];refine Ww ?_ ?_
     ·intro ao;refine Wi ?_;exact retf false _ ZE
     ·intro ao;refine Wl ?_;exact⟨Qo,x.kids.length-(i+1),ZD,i+1,rfl,ZD,rfl⟩
    ·intro hc;refine Wc ?_;refine Qk ?_;exact retf true _ ZE
  refine⟨λbf=>?_,λbf=>?_⟩
  ·refine AW ?_;simp only[go_sem,Q0r];exact rest2 _
  ·replace bf:=A8 bf;simp only[go_sem,Q0r,bf];exact rest2 _
 refine⟨λbf=>?_,λbf=>?_⟩
 ·replace bf:=Bf bf;have mX:1<=deep:=by simp at bf;omega
  refine AW ?_;simp only[go_sem,Q0q,bf,Bi,cond_false];intro hl;refine⟨λcI=>?_,λcI=>?_⟩
  ·refine AW ?_;simp only[go_sem,Ph];exact rest _ (λ_=>mX)
  ·replace cI:=A8 cI;simp only[go_sem,Ph,cI];exact rest _ (λ_=>mX)
 ·replace bf:=A8 bf;simp only[go_sem,Q0q,Ph,bf,Bi,cond_true];exact rest _ (λh=>ZK)
theorem Qa74 {x:Ex}(hx:x.size<=2^40)(hK:∀b:Bool,K (.c (.bool b)) H):Qv prog SR [.ag x.cells] H K:=by
 refine Qc Ab Qany ?_;refine Qa ?_;simp only[go_sem,Ex.ne_nil];refine Qa ?_;simp only[go_sem,Ex.cK,Ex.bt,Ex.au];refine Qbso x.size x 6 (Jm _) ZD λb=>?_;simp only[go_sem,Qnh,Ex.cK,Ex.bt,Ex.au];refine⟨λhb=>?_,λhb=>?_⟩
 ·refine Qbna x.size x (Jm _) hx ?_;simp only[go_sem,Tl];refine Zc ?_;exact hK _
 ·simp only[go_sem,Tl,hb];refine Zc ?_;exact hK _
def St.raw (x:St):List C:=[.int .i64 x.op,.str x.name,.sl false 4 (Ap x.args),.sl false 5 (Ak x.body),.sl false 5 (Ak x.els)]
theorem Qbnd:∀(n:Nat) (l:List St) {fl:Bool} {H:Heap} {K:V->Heap->Prop},Ah l<=n->Ah l<=2^40->(∀v:Nat,v<=Ah l->K (.c (.int .i64 v)) H)->Qv prog He [.c (.sl fl 5 (Ak l))] H K:=by
 intro n
 induction n using Nat.strongRecOn with
 |ind n ih=>
 intro l fl H K hn hb hK;have ak:=Lj l;refine Qc Ab Qbn5 ?_;refine Wj ?_;simp only[go_sem,Bp];intro hl;refine Wa ?_;refine Qg (Qd (Qs (λn e1 H1=>∃(i v:Nat),n=l.length-i/\i<=l.length/\v<=(l.length-i)+Ah (l.take i)/\H1=H/\e1=[(0,.c (.sl fl 5 (Ak l))),(3,.c (.int .i64 v)),(4,.c (.int .i64 i))]) l.length ?_ ?_))
 ·exact⟨0,l.length,ZD,ZD,ZD,rfl,rfl⟩
 ·rintro n e1 H1 ⟨i,v,dz,hi,hv,rfl,rfl⟩;refine Q3 (Qa ?_);simp only[go_sem,Bp];simp only[LIM]at hl;refine λ_=>?_;refine Wv ?_ ?_
  ·intro hc;have ae:i<l.length:=ZG
   have hm:=Pi (Jc ae);have b8:=R0 ae;have qh:=SE l (i+1);have hse:=(l[i]'ae).size_eq;refine Wo ?_;simp only[go_sem,ae,Bp,Ej _ _ ae,St.aD];refine ih (Ah l[i].body) ZD l[i].body (Jm _) ZD λa ha=>?_;simp only[go_sem,N5,ae,Bp,Ej _ _ ae,St.aD];refine⟨Qo,?_⟩;refine ih (Ah l[i].els) ZD l[i].els (Jm _) ZD λc hc=>?_;simp only[go_sem,N6];refine⟨Qo,?_⟩;refine Zg ?_;refine⟨Qo,l.length-(i+1),ZD,i+1,v+a+c,rfl,ZD,ZD,rfl⟩
  ·intro hc;have aY:l.length<=i:=ZG
   refine Wn ?_;rw[Jd aY]at hv;exact hK v ZD
def HI (n:Nat):Prop:=∀(x:St) (deep:Int) (H:Heap) (K:V->Heap->Prop),x.size<=n->x.size<=2^40->deep<=100->(∀b:Bool,K (.c (.bool b)) H)->Qv prog F0 [.ag x.cells,.c (.int .i64 deep)] H K
def EC (n:Nat):Prop:=∀(l:List St) (deep:Int) (fl:Bool) (H:Heap) (K:V->Heap->Prop),Ah l<=n->Ah l<=2^40->deep<=100->(∀b:Bool,K (.c (.bool b)) H)->Qv prog Hd [.c (.sl fl 5 (Ak l)),.c (.int .i64 deep)] H K
theorem Y2 {n:Nat}(hS:HI n):EC n:=by
 intro l deep fl H K hn hb hd hK;refine Qc Ab Qbn6 ?_;have retf:∀(b:Bool) (e:Env),lk 4 e=.c (.bool b)->Q4 Fq K .ret e H:=by
  intro b e h1;simp only[go_sem,Q4,Aa,Ja,forall_eq,RS.op,h1];exact hK _
 refine Wf ?_;refine Qg (Qd (Qs (λn e1 H1=>∃(i:Nat),n=l.length-i/\i<=l.length/\H1=H/\e1=[(0,.c (.sl fl 5 (Ak l))),(1,.c (.int .i64 deep)),(5,.c (.int .i64 i))]) l.length ?_ ?_))
 ·exact⟨0,ZD,ZD,rfl,rfl⟩
 ·rintro n e1 H1 ⟨i,dz,hi,rfl,rfl⟩;refine Q3 (Qa ?_);simp only[go_sem,Bp];intro hl;simp only[LIM]at hl;refine Wv ?_ ?_
  ·intro hc;have ae:i<l.length:=ZG
   have hm:=Pi (Jc ae);refine Wq ?_;simp only[go_sem,ae,Bp,Ej _ _ ae,St.take5,St.bt,St.au];refine hS _ deep _ _ ZD ZD hd λb=>?_;simp only[go_sem,NY];refine Ww ?_ ?_
   ·intro ao;refine Wi ?_;exact retf false _ ZE
   ·intro ao;refine Wl ?_;exact⟨Qo,l.length-(i+1),ZD,i+1,rfl,ZD,rfl⟩
  ·intro hc;refine Wc ?_;refine Qk ?_;exact retf true _ ZE
theorem Xu {n:Nat}(hS:∀m,m<n->EC m):HI n:=by
 intro x deep H K hn hb hd hK;have bj:=x.size_eq;refine Qc Ab Qbs9 ?_;have retf:∀(b:Bool) (e:Env),lk 4 e=.c (.bool b)->Q4 DE K .ret e H:=by
  intro b e h1;simp only[go_sem,Q4,Aa,Ja,forall_eq,RS.op,h1];exact hK _
 refine Zx ?_;refine Q3 (Aj ?_);simp only[go_sem];have rest:∀b:Bool,(b=false->1<=deep/\x.args.length=if x.op=4 then 2 else 1)->Ad prog (s_l3Stmt_2.seq Mo) (Q4 DE K)
   [(1,.c (.int .i64 deep)),(2,.c (.pp [.int .i64 x.op,.str x.name,.sl false 4 (Ap x.args),.sl false 5 (Ak x.body),.sl false 5 (Ak x.els)])),(23,.c (.bool b))] H:=by
  intro b hb;refine Wv ?_ ?_
  ·intro hc;refine We ?_;exact retf false _ ZE
  intro hc;obtain⟨mX,dk⟩:=hb hc;have jG:0<x.args.length:=by rw[dk];split <;> omega
  refine Zd ?_;refine Wf ?_;refine DB λb1=>?_;simp only[go_sem,Mn];refine Wv ?_ ?_
  ·intro hc;refine We ?_;exact retf false _ ZE
  intro hc;refine Zd ?_;refine Wa ?_;refine Qg (Qd (Qs (λn e1 H1=>∃(i:Nat),n=x.args.length-i/\i<=x.args.length/\H1=H/\e1=[(1,.c (.int .i64 deep)),(2,.c (.pp [.int .i64 x.op,.str x.name,.sl false 4 (Ap x.args),.sl false 5 (Ak x.body),.sl false 5 (Ak x.els)])),(6,.c (.int .i64 i))]) x.args.length ?_ ?_))
  ·exact⟨0,ZD,ZD,rfl,rfl⟩
  ·rintro n e1 H1 ⟨i,dz,hi,rfl,rfl⟩;refine Q3 (Qa ?_);simp only[go_sem,Bi];intro hl;simp only[LIM]at hl;refine Wv ?_ ?_
   ·intro hc;have ae:i<x.args.length:=ZG;have hm:=Gv (Jc ae);refine Wq ?_;simp only[go_sem,ae,Bi,Ei _ _ ae,Ex.cK,Ex.bt,Ex.au];refine Qa74 ZD λb=>?_;simp only[go_sem,Mm];refine Ww ?_ ?_
    ·intro ao;refine Wi ?_;exact retf false _ ZE
    ·intro ao;refine Wl ?_;exact⟨Qo,x.args.length-(i+1),ZD,i+1,rfl,ZD,rfl⟩
   ·intro hc;refine Zb ?_;refine Q3 (Qa ?_);simp only[go_sem,jG,Bi,Ei _ _ jG,Ex.aD];refine⟨λ_=>Int.le_refl _,?_⟩;refine Wv ?_ ?_
    ·intro hc;refine We ?_;exact retf false _ ZE
    intro hc;refine Zd ?_;refine Q3 (Qa ?_);simp only[go_sem,Bp]
    intros
    refine Wv ?_ ?_
    ·intro hc;refine We ?_;exact retf false _ ZE
    intro hc;refine Zd ?_;refine Za ?_;refine⟨Qo,?_⟩;refine hS (Ah x.body) ZD _ _ _ _ _ (Jm _) ZD ZD λb1=>?_;simp only[go_sem,NZ];refine⟨λ_=>Qo,?_⟩;refine⟨λbf=>?_,λbf=>?_⟩
    ·refine hS (Ah x.els) ZD _ _ _ _ _ (Jm _) ZD ZD λb2=>?_;simp only[go_sem,R3];refine Qk ?_;exact retf _ _ ZL
    ·simp only[go_sem,R3,bf];refine Qk ?_;exact retf false _ ZE
 refine⟨λbf=>?_,λbf=>?_⟩
 ·replace bf:=Bf bf;have mX:1<=deep:=by simp at bf;omega
  refine AW ?_;simp only[go_sem,Q0t,bf,Bi,cond_false];refine⟨λcI=>?_,λcI=>?_⟩
  ·refine Qbsr ?_;simp only[go_sem,Pg,Bi];refine rest _ (λh=>⟨mX,?_⟩);have h1:(x.args.length:Int)=if x.op=4 then 2 else 1:=by
    cases h2:decide (1<=x.op/\x.op<=8) <;> rw[h2]at h <;> simp_all
   by_cases h4:x.op=4
   ·rw[if_pos h4]at h1⊢;omega
   ·rw[if_neg h4]at h1⊢;omega
  ·replace cI:=A8 cI;simp only[go_sem,Pg,cI,Bi];exact rest _ (λh=>ZK)
 ·replace bf:=A8 bf;simp only[go_sem,Q0t,Pg,bf,Bi,cond_true];exact rest _ (λh=>ZK)
theorem Xt (n:Nat):EC n:=by
 induction n using Nat.strongRecOn with
 |ind n ih=>exact Y2 (Xu ih)
theorem VM {f:Fn}(hf:Ah f.body<=2^40)(hK:∀b:Bool,K (.c (.bool b)) H):Qv prog FV [.ag f.cells] H K:=by
 refine Qc Ab VH ?_;have retf:∀(b:Bool) (e:Env),lk 2 e=.c (.bool b)->Q4 E6 K .ret e H:=by
  intro b e h1;simp only[go_sem,Q4,Aa,Ja,forall_eq,RS.op,h1];exact hK _
 refine Qa ?_;simp only[go_sem,Fn.cells];refine Wa ?_;refine Qg (Qd (Qs (λn e1 H1=>∃(i:Nat),n=f.params.length-i/\i<=f.params.length/\H1=H/\e1=[(1,.c (.pp [.str f.name,.sl false 1 (A5 f.params),.sl false 5 (Ak f.body)])),(3,.c (.int .i64 i))]) f.params.length ?_ ?_))
 ·exact⟨0,ZD,ZD,rfl,rfl⟩
 ·rintro n e1 H1 ⟨i,dz,hi,rfl,rfl⟩;refine Q3 (Qa ?_);simp only[go_sem,Bc];intro hl;simp only[LIM]at hl;refine Wv ?_ ?_
  ·intro hc;have ae:i<f.params.length:=ZG
   refine Wq ?_;simp only[go_sem,ae,Bc,Hj _ _ ae];refine DB λb=>?_;simp only[go_sem,Ow];refine Ww ?_ ?_
   ·intro ao;refine Wi ?_;exact retf false _ ZE
   ·intro ao;refine Wl ?_;exact⟨Qo,f.params.length-(i+1),ZD,i+1,rfl,ZD,rfl⟩
  ·intro hc;refine Wc ?_;refine DB λb=>?_;simp only[go_sem,Ov,Bc]
   intros
   refine⟨λbf=>?_,λbf=>?_⟩
   ·refine Xt _ _ _ _ _ _ (Jm _) hf ZD λb2=>?_;simp only[go_sem,Ff];refine Qk ?_;exact retf _ _ ZL
   ·simp only[go_sem,Ff,bf];refine Qk ?_;exact retf false _ ZE
def AL:List Fn->Nat
 |[]=>0
 |f::r=>Ah f.body+AL r
theorem R8 {l:List Fn}{f:Fn}(h:f∈l):Ah f.body<=AL l:=by
 induction l with
 |nil=>simp at h
 |cons g r ih=>
  simp only[AL];rcases List.mem_cons.1 h with rfl|h
  ·omega
  ·have:=ih h;omega
theorem P2 (a b:List Fn):AL (a++b)=AL a+AL b:=by
 induction a with
 |nil=>simp[AL]
 |cons x r ih=>simp only[Jr,AL,ih];omega
theorem Qau2 {l:List Fn}{i:Nat}(h:i<l.length):AL (l.take (i+1))=AL (l.take i)+Ah (l[i]'h).body:=by
 rw[Jg h,P2];simp[AL]
theorem Qab8 (l:List Fn)(i:Nat):AL (l.take i)<=AL l:=by
 conv=>rhs;rw[<-Jw i l,P2]
 omega
theorem Xw {l:List Fn}{fl:Bool}(hf:AL l<=2^40)(hK:∀n:Int,K (.c (.int .i64 n)) H):Qv prog EW [.ag [.sl fl 3 (Av l)]] H K:=by
 refine Qc Ab Xk ?_;refine Wd ?_;refine Wa ?_;refine Qg (Qd (Qs (λn e1 H1=>∃(i v:Nat),n=l.length-i/\i<=l.length/\v<=AL (l.take i)/\H1=H/\e1=[(1,.c (.pp [.sl fl 3 (Av l)])),(3,.c (.int .i64 v)),(4,.c (.int .i64 i))]) l.length ?_ ?_))
 ·exact⟨0,0,ZD,ZD,ZD,rfl,rfl⟩
 ·rintro n e1 H1 ⟨i,v,dz,hi,hv,rfl,rfl⟩;refine Q3 (Qa ?_);simp only[go_sem,BC];intro hl;simp only[LIM]at hl;refine Wv ?_ ?_
  ·intro hc;have ae:i<l.length:=ZG
   have hm:=R8 (Jc ae);have b8:=Qau2 ae;have qh:=Qab8 l (i+1);refine Zd ?_;refine Qg (Qd (Qp ?_));simp only[go_sem,ae,BC,Gl _ _ ae,Fn.cells];refine Qbnd _ _ (Jm _) ZD λc hc=>?_;simp only[go_sem,K1];refine⟨Qo,?_⟩;refine Zg ?_;exact⟨Qo,l.length-(i+1),ZD,i+1,v+c,rfl,ZD,ZD,rfl⟩
  ·intro hc;refine Wn ?_;exact hK _
theorem Qanh {l:List Fn}{fl:Bool}(hf:AL l<=2^40)(hK:∀b:Bool,K (.c (.bool b)) H):Qv prog T9 [.ag [.sl fl 3 (Av l)]] H K:=by
 refine Qc Ab Q6m ?_;have retf:∀(b:Bool) (e:Env),lk 2 e=.c (.bool b)->Q4 Tm K .ret e H:=by
  intro b e h1;simp only[go_sem,Q4,Aa,Ja,forall_eq,RS.op,h1];exact hK _
 refine Wg ?_;simp only[go_sem,BC];intro hl;simp only[LIM]at hl;refine AW ?_;simp only[go_sem,Qhf];refine Wv ?_ ?_
 ·intro hc;refine We ?_;exact retf false _ ZE
 intro hc;refine Zd ?_;refine Wa ?_;refine Qg (Qd (Qs (λn e1 H1=>∃(i:Nat),n=l.length-i/\i<=l.length/\H1=H/\e1=[(1,.c (.pp [.sl fl 3 (Av l)])),(3,.c (.int .i64 i))]) l.length ?_ ?_))
 ·exact⟨0,ZD,ZD,rfl,rfl⟩
 ·rintro n e1 H1 ⟨i,dz,hi,rfl,rfl⟩;refine Q3 (Qa ?_);simp only[go_sem,BC];refine λ_=>?_;refine Wv ?_ ?_
  ·intro hc;have ae:i<l.length:=ZG
   have hm:=R8 (Jc ae);refine Wq ?_;simp only[go_sem,ae,BC,Gl _ _ ae,Fn.take3,Fn.bt,Fn.au];refine VM ZD λb=>?_;simp only[go_sem,Qhg];refine Ww ?_ ?_
   ·intro ao;refine Wi ?_;exact retf false _ ZE
   ·intro ao;refine Wl ?_;exact⟨Qo,l.length-(i+1),ZD,i+1,rfl,ZD,rfl⟩
  ·intro hc;refine Wc ?_;refine Xw hf λn=>?_;simp only[go_sem,Qhh];refine Qk ?_;exact retf _ _ ZL
end Go.AE.Y
namespace Go.AE.Y
open Go.Proofs.Tryz
structure PrOk (l:List Fn):Prop where
 pos:0<l.length
 par:∀f∈l,f.params.length<=3
 ok:∀f∈l,A2 f.body
 size:AL l<=2^34
 len:l.length<=4
end Go.AE.Y
namespace Go.AE
open Go.AE.Y
open Go.Proofs.Tryz
theorem Kn.perm4 {H0 H:Heap}{E:List (Nat×Obj)}{a b c d:Nat×Obj}(kn:Kn H0 H E [a,b,c,d]):Kn H0 H E [a,b,d]:=
 Kn.drop (A:=[a,b,d]) (B:=[c]) (kn.perm (.cons _ (.cons _ (.swap _ _ _))))
end Go.AE
namespace Go.AE.Y
open Go.Proofs.Tryz
set_option maxHeartbeats 2000000 in
theorem Qbss {R:Rdr}{k:Nat}{H:Heap}{K:V->Heap->Prop}(hR:H R.l=R.o k)(hk:k+7000000<=2^30)
  (hK:∀(l:List Fn) (H':Heap) (k':Nat),k<k'->k'<=k+7000000->Upd H H' [(R.l,R.o k')]->PrOk l->K (.ag [.sl false 3 (Av l)]) H') :
  Qv prog F1 [.c (.ptr R.l 0)] H K:=by
 refine Q0 ?_;refine Qc Ab Qbs8 ?_;refine Za ?_;intro x2 aW H1 h1;have kn:=(Kn.start1 hR (R.aj k)).al aW h1;refine Za ?_;refine Ba (ns:=[14,20,8,26]) (kn.e 0 rfl) ZD ZF λv H2 hv hu=>?_;have kn:=kn.am 0 rfl hu (R.aj _);simp only[go_sem,Md];intro gl fe H3 h3;have kn:Kn H H3 [(R.l,R.o (k+1))] [(x2,.st [.sl true 3 []]),(gl,GS.o ⟨[],(.sl true 3 [],[]),[],true,0,v⟩ R)]:=kn.al fe h3;have hv26:0<=v/\v<=26:=by simp at hv;omega
 simp only[go_sem,Me];have be:R.l≠gl:=kn.ne 0 1 rfl rfl;refine Wa ?_;refine Ba (ns:=[0,1,1,2]) (kn.e 0 rfl) ZD ZF λcnt H4 w9 hu=>?_;have kn:=kn.am 0 rfl hu (R.aj _);have ao:0<=cnt/\cnt<=2:=by simp at w9;omega
 simp only[go_sem,Mc];obtain⟨M,hM⟩:∃M:Nat,M=2001301:=⟨_,rfl⟩;refine Qg (Qd (Qs (λn e1 H1=>∃(j k4:Nat) (s:GS),n=cnt.toNat-j/\(j:Int)<=cnt/\s.fns.length=j/\k+2<=k4/\k4<=k+2+M * j/\s.ok k4/\(∀f∈s.fns,A2 f.body)/\4 * k+AL s.fns<=4 * k4/\
   Gr s.ffl.2 3 (Av s.fns) s.ffl.1/\Kn H H1 [(R.l,R.o k4)] ([(x2,.st [.sl true 3 []]),(gl,s.o R)]++s.ffl.2)/\
   e1=[(0,.c (.ptr R.l 0)),(2,.c (.ptr x2 0)),(3,.c (.ptr gl 0)),(4,.c (.int .i64 (cnt-j)))]) cnt.toNat ?_ ?_))
 ·refine⟨0,k+2,⟨[],(.sl true 3 [],[]),[],true,0,v⟩,ZD,ZD,rfl,ZD,ZD,⟨?_,?_,?_,?_,ZF,ZF,ZF⟩,ZF,by simp only[AL];omega,.nil 3,kn,ZF⟩
  ·show -1<=(0:Int);omega
  ·show (0:Int)<=_;omega
  ·show _<=v;omega
  ·show v<=100;omega
 ·rintro n e1 H1 ⟨j,k4,s,hn,hj,fz,iO,vT,hs,sh,bj,aq,kn,rfl⟩;have hMj:M * j<=M * 2:=Jy _ ZD;have yR:M * (j+1)=M * j+M:=Jaf _ _;have ig:=kn.l 1 rfl;have j7:=aq.ai;have gW:=aq.ax;rw[BC]at gW;refine Wa ?_;refine Wv ?_ ?_
  ·intro hc;have hi:(j:Int)<cnt:=Za7
   refine Wb ?_;have sf:=(aq.aZ (B:=[_,_]) kn);have eg:List.getD [[C.str [102]],[C.str [103]],[C.str [104]]] s.fns.length []=[.str (List.getD [[102],[103],[104]] s.fns.length [])]:=Hj [[102],[103],[104]] _ ZJ;have qn:s.fns.length<3:=ZD
   refine Aj ?_;simp only[go_sem,ig,GS.o,j7,gW,eq_true sf,eg,qn];refine Au (kn.e 0 rfl) ZD λp H2 hp hu=>?_;have kn:Kn H H2 [(R.l,R.o (k4+1))] ([(x2,.st [.sl true 3 []]),(gl,s.o R)]++s.ffl.2):=kn.am 0 rfl hu (R.aj _);rw[if_neg ZD]at hp;have fX:=kn.l 1 rfl;have sd:=(aq.aZ (B:=[_,_]) kn);simp only[go_sem,LZ,fX,GS.o,j7,gW,eq_true sd,eg,qn];have hF:FnsOk H2 R gl s:=⟨aq,λq hq=>by
    have h1:=kn.get q (Je _ (Je _ hq));refine⟨h1.1,λhh=>?_,λhh=>?_⟩
    ·exact kn.usedE 0 rfl (hh▸kn.loc q (Je _ hq))
    ·have:=kn.dL;rw[Ju]at this;exact (J6.1 this).2.2 gl ZF q.1 (Ax hq) hh.symm⟩
   refine KH hp.1 ZD (kn.e 0 rfl) (kn.l 1 rfl) be (hs.mono (Jac k4)) hF ZD λf s2 H5 k5 g1 g2 hu dQ g3 g4 g5 g6 g7=>?_;have kn:=kn.callEL 0 1 rfl rfl hu (R.aj _) (GS.aj _ _);have kn:Kn H H5 [(R.l,R.o k5)] ([(x2,.st [.sl true 3 []]),(gl,s2.o R)]++s.ffl.2):=kn;simp only[go_sem,Ma];intro x5 bm H6 h6;have kn:=kn.al bm h6;have kn:=kn.perm (L':=[(x2,_),(gl,_),(x5,_)]++s.ffl.2) (by
    simp only[Jr,Jq];exact .cons _ (.cons _ Jf))
   have hG6:=kn.l 1 rfl;have uh:=kn.l 2 rfl;have sc:=(aq.aZ (B:=[_,_,_]) kn);simp only[go_sem,Mb,hG6,uh,GS.o,g4,j7,gW,eq_true sc,eg,qn,Fn.cells];intro H7 h7;have kn:Kn H H7 [(R.l,R.o k5)] ([(x2,_),(gl,_),(x5,_)]++s.ffl.2):=kn.aB 2 rfl h7;have sQ:=kn.l 1 rfl;have ox:=kn.l 2 rfl;refine Aw ?_;simp only[go_sem,sQ,ox,GS.o,g4,j7];refine kn.grow (B:=[_,_,_]) (new:=[f.cells]) aq (.mk' _ _ _ _) (by simp[f.an]) (by simp only[BC,LIM,Jj,Jo];omega) λz H8 kn=>?_;have xp:=kn.l 1 rfl;simp only[go_sem,LY,xp,GS.o];intro H9 h9;have kn:=kn.aB 1 rfl h9;obtain⟨s9,oI⟩:∃s9:GS,s9=GS.mk (s.fns++[f]) (C.ah z 3 0 ((Av s.fns).length+1),[(z,Obj.vec 3 (Av s.fns++[f.cells]))]) s2.vars s2.vfl s2.next s2.left:=⟨_,rfl⟩;have td:s9.o R=.st [C.ptr R.l 0,C.ah z 3 0 ((Av s.fns).length+1),C.sl s2.vfl 1 (A5 s2.vars),C.int IntKind.i64 s2.next,C.int IntKind.i64 s2.left]:=by rw[oI];rfl
   rw[<-td]at kn;have kn:Kn H H9 [(R.l,R.o k5)] [(x2,_),(gl,s9.o R),(x5,_),(z,_)]:=kn;have kn:=kn.perm4;refine Zg ?_;have iq:k5<=k+2+M * (j+1):=by rw[yR];omega
   refine⟨Qo,cnt.toNat-(j+1),ZD,j+1,k5,s9,rfl,ZD,by simp[oI,fz],ZD,iq,?_,?_,?_,?_,by rw[oI]at kn⊢;exact kn,?_⟩
   ·subst oI;refine⟨dQ.n0,dQ.n1,dQ.l0,dQ.l1,dQ.v,λf' pC=>?_,by simp;omega⟩;rcases Jl.1 pC with h|h
    ·exact hs.f f' h
    ·simp at h;subst h;exact g5
   ·subst oI;intro f' pC;rcases Jl.1 pC with h|h
    ·exact sh f' h
    ·simp at h;subst h;exact g6
   ·subst oI;simp only[P2,AL];omega
   ·subst oI;show Gr [(z,Obj.vec 3 (Av s.fns++[f.cells]))] 3 (Av (s.fns++[f])) _;rw[KM];exact .mk _ _ _ (by simp[BC])
   ·have:cnt-((j+1:Nat):Int)=cnt-j-1:=ZD;rw[this]
  ·intro hc;refine Zb ?_;have hkE:k4<=k+4002604:=ZD
   refine Za ?_;refine Ba (ns:=[0,1,2,1]) (kn.e 0 rfl) ZD ZF λp H2 hp hu=>?_;have kn:Kn H H2 [(R.l,R.o (k4+1))] ([(x2,.st [.sl true 3 []]),(gl,s.o R)]++s.ffl.2):=kn.am 0 rfl hu (R.aj _);have ej:0<=p/\p<=3:=by simp at hp;omega
   simp only[go_sem,N2];have hF:FnsOk H2 R gl s:=⟨aq,λq hq=>by
    have h1:=kn.get q (Je _ (Je _ hq));refine⟨h1.1,λhh=>?_,λhh=>?_⟩
    ·exact kn.usedE 0 rfl (hh▸kn.loc q (Je _ hq))
    ·have:=kn.dL;rw[Ju]at this;exact (J6.1 this).2.2 gl ZF q.1 (Ax hq) hh.symm⟩
   refine KH ej.1 ej.2 (kn.e 0 rfl) (kn.l 1 rfl) be (hs.mono (Jac k4)) hF ZD λf s2 H5 k5 g1 g2 hu dQ g3 g4 g5 g6 g7=>?_;have kn:=kn.callEL 0 1 rfl rfl hu (R.aj _) (GS.aj _ _);have kn:Kn H H5 [(R.l,R.o k5)] ([(x2,.st [.sl true 3 []]),(gl,s2.o R)]++s.ffl.2):=kn;simp only[go_sem,N3];intro x6 ba H6 h6;have kn:=kn.al ba h6;have kn:=kn.perm (L':=[(x2,_),(gl,_),(x6,_)]++s.ffl.2) (by
    simp only[Jr,Jq];exact .cons _ (.cons _ Jf))
   have ki:=kn.l 2 rfl;simp only[go_sem,N4,ki,Fn.cells];intro H7 h7;have kn:Kn H H7 [(R.l,R.o k5)] ([(x2,_),(gl,_),(x6,_)]++s.ffl.2):=kn.aB 2 rfl h7;have sQ:=kn.l 1 rfl;have jp:=kn.l 2 rfl;have sb:=aq.aZ (B:=[_,_,_]) kn;have oK:=aq.rowsOf (B:=[_,_,_]) kn;have gY:=aq.aN;have hL:s.fns.length<=LIM:=ZU
   refine Aj ?_;simp only[go_sem,sQ,jp,GS.o,g4,j7,gW,eq_true sb,oK,gY,hL,Jh];refine⟨.inl trivial,KN _,λy hy H8 h8=>?_⟩;have kn:=kn.al hy h8;have kn:=kn.perm (L':=([(x2,_),(gl,_),(x6,_)]++[(y,_)])++s.ffl.2) HD;have kn:=kn.drop;have uc:=kn.l 2 rfl;have kn:Kn H H8 [(R.l,R.o k5)] [(x2,_),(gl,_),(x6,_),(y,_)]:=kn;have hy8:=kn.l 3 rfl;have etk:List.take s.fns.length (Av s.fns)=Av s.fns:=Jd (by rw[BC];omega);simp only[go_sem,Nz,uc,hy8,BC,etk];refine⟨ZD,by simp only[LIM];omega,λz hz H9 h9=>?_⟩;have kn:Kn H H9 [(R.l,R.o k5)] [(x2,_),(gl,_),(x6,_),(z,.vec 3 (Av s.fns++[f.cells]))]:=kn.ap 3 rfl hz h9;simp only[go_sem,N0];intro x7 dW H10 dg;have kn:=kn.al dW dg;have xq:=kn.l 1 rfl;have kg:=kn.l 2 rfl;have om:=kn.l 4 rfl;have kn:Kn H H10 [(R.l,R.o k5)] [(x2,_),(gl,_),(x6,_),(z,_),(x7,_)]:=kn;simp only[go_sem,N1,xq,kg,om,GS.o,g4,j7];intro H11 dG;have kn:=kn.aB 4 rfl dG;have kn:Kn H H11 [(R.l,R.o k5)] ([(x2,.st [.sl true 3 []]),(x7,.st [.ah z 3 0 (s.fns.length+1)])]++[(z,.vec 3 (Av s.fns++[f.cells]))]):=
    (kn.perm (L':=([(x2,_),(x7,_)]++[(z,_)])++[(gl,_),(x6,_)]) (by
     simp only[List.set,Jr,Jq];refine .cons _ ?_;refine .trans (.cons _ (.cons _ (.swap _ _ _))) ?_;refine .trans (.cons _ (.swap _ _ _)) ?_;refine .trans (.swap _ _ _) ?_;refine .cons _ ?_;refine .trans (.cons _ (.swap _ _ _)) ?_;exact .swap _ _ _)).drop
   have tP:=kn.l 2 rfl;have xD:=kn.l 1 rfl;obtain⟨ir,kn⟩:=kn.freeze 1 rfl (og':=.st [.sl false 3 (Av (s.fns++[f]))]) (FrzKL.st (.cons rfl (by
    rw[<-KM];exact EM ZF tP (by simp[BC]) (noOw_mem (Qbtn (KN _) (by simp[f.an])))) .nil)) ZF
   refine Q3 (c_gh (Gk _ (λt=>?_) ir) (e':=[(2,V.c (C.ptr x2 0)),(7,V.c (C.ptr x7 0))]) ?_)
   ·simp only[lk];split
    ·exact .c _ _ (.same _ rfl)
    ·split
     ·exact .c _ _ (.same _ rfl)
     ·exact .unk _
   generalize ((H11.frz λm=>m == z).set x7 (Obj.st [C.sl false 3 (Av (s.fns++[f]))]))=H12 at *;have lY:=kn.l 1 rfl;have qE:=kn.l 0 rfl;have gm:AL (s.fns++[f])<=2^34:=by rw[P2];simp only[AL];omega
   refine Zh lY ?_;refine Qanh ZD λb=>?_;simp only[go_sem,Oa];refine Wv ?_ ?_
   ·intro hc;refine Zh qE ?_;intro H13 pX;have kn:=kn.aB 0 rfl pX;have o6:=kn.l 0 rfl;refine Zj o6 ?_;refine⟨.ag [.sl false 3 (Av [Fn.mk [109] [] [St.mk 3 [] [Ex.mk 1 1 [] []] [] []]])],FrzL.ag ?_,hK _ _ k5 ZD ZD kn.fin ⟨ZF,ZF,?_,?_,ZF⟩⟩
    ·simp only[Av,Jad,Jae,Fn.cells,Qblt,Ak,St.cells,Ap,Ex.cells]
     repeat' first|exact FrzL.nil|exact FrzR.nil|exact Qi rfl|exact FrzL.same (Ex.an _)|exact FrzL.same (St.an _)|refine FrzL.cons ?_ ?_|refine FrzR.cons ?_ ?_|refine FrzR.sl ?_
    ·intro f hf;simp at hf;subst hf;simp[A2,St.ok,A9,Ex.ok]
    ·simp[AL,Ah,St.size,As,Ex.size]
   ·intro hc;refine Zd ?_;refine Zn qE lY ?_;intro H13 pX;have kn:=kn.aB 0 rfl pX;have o6:=kn.l 0 rfl;refine Zj o6 ?_;refine⟨.ag [.sl false 3 (Av (s.fns++[f]))],FrzL.ag (.cons (Qi rfl) .nil),hK _ _ k5 ZD ZD kn.fin ⟨ZF,?_,?_,gm,by simp;omega⟩⟩
    ·intro f' pC;rcases Jl.1 pC with h|h
     ·exact hs.f f' h
     ·simp at h;subst h;exact g5
    ·intro f' pC;rcases Jl.1 pC with h|h
     ·exact sh f' h
     ·simp at h;subst h;exact g6
end Go.AE.Y
