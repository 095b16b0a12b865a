/- Part 3 of the proof: the engine, codes, walks and plain laws, each named where it stands. -/
import Derived.Test.YtlfdcfggpccakaaGreatDoorZB
open Nat (reduceEqDiff reduceAdd reduceLeDiff reduceLT)
set_option linter.unusedVariables false
set_option linter.unusedSimpArgs false
set_option maxRecDepth 4000
open Int renaming eq_ofNat_of_zero_le->Jo,tmod_lt_of_pos->J0,tmod_nonneg->J4
open List renaming mem_singleton->Ja,getD_eq_getElem?_getD->Jb,getElem_mem->Jc,take_of_length_le->Jd,length_map->Je,mem_append_right->Jh,perm_append_comm->Ji,take_succ_eq_append_getElem->Jj,length_cons->Jk,append_assoc->Jl,mem_append->Jm,length_nil->Jn,drop_zero->Jp,nil_append->Jq,cons_append->Jr,flatMap_append->Js,map_set->Jt,set_cons_zero->Ju,map_append->Jv,take_append_drop->Jw,getD_cons_zero->Jx,mem_or_eq_of_mem_set->J1,getElem?_eq_getElem->J2,length_take->J3,contains_iff_mem->J5,getD_cons_succ->J6,nodup_append->J8,all_eq_true->Jaa,filter_cons->Jab,mem_flatMap->Jac,all_append->Jad,filter_nil->Jae,length_set->Jaf,map_cons->Jah,take_nil->Jai,map_nil->Jaj,set_set->Jak
open Nat renaming le_refl->Jf,zero_add->Jg,lt_pow_self->Jy,mul_le_mul_left->Jz,one_le_two_pow->J7,le_trans->J9,le_succ->Jag,mul_succ->Jal
namespace Go.AE.Y
open Go.Proofs.Tryz
def Qm4:List Item:=[oJ 10 9]
def Qadr:SC:=cT 10 (sR [fB 2 false] [2] .ret) .skip
def Qm5:List Item:=[mJ 4 16,sJ 3 5 18]
def Qm6:List Item:=[oJ 22 21]
def Qads:SC:=cT 22 (sR [fB 2 false] [2] .ret) .skip
def Qm7:List Item:=[bJ 26 .add 23 25,mJ 3 26]
def Qadt:SC:=.reg (mJ 23 3::tJ 24 3 5::aJ 25 TV [.t 24]::Qm7) [1,3,12,13,14]
def Qadu:SC:=.seq (sR (tJ 19 1 1::mJ 20 4::aJ 21 ST [.t 19,.t 20]::Qm6) [1,3,5,12,13,14,22] Qads) Qadt
def Qadv:SC:=.reg [cJ 27 .add 14 1,mJ 14 27] [1,3,12,13,14]
def Qadw:SC:=.seq (.block 1 (sR (mJ 16 14::iJ 17 3 12 14::tJ 18 3 17::eI 5 (.alloc [.int .i64 0,.int .i64 0,.sl true 5 []])::Qm5) [1,3,4,5,12,13,14] Qadu)) Qadv
def Q30:SC:=sR [bJ 15 .lss 14 13] [1,3,12,13,14,15] (cX 15 0 Qadw)
def Q7u:SC:=sR [mJ 28 3,cJ 29 .leq 28 800,mJ 2 29] [2] .ret
def Q7v:SC:=.seq (sR [fJ 11 0 1,lJ 12 11,nJ 13 12,zJ 14 0] [1,3,12,13,14] (bL 0 Q30)) Q7u
def Q7w:SC:=sR [zJ 3 0] [1,3] Q7v
def Q7x:SC:=.seq (sR (fJ 6 0 1::lJ 7 6::nJ 8 7::aJ 9 Cd [.t 8,kI 1,kI 4]::Qm4) [1,10] Qadr) Q7w
def Qaph:SC:=sR [vJ 1 0,fB 2 false] [1] Q7x
abbrev T3:List RS:=[.tmp 2]
theorem Qaor:mFn prog GY 1 30 Qaph T3=true:=ZB
def Qpq:List Item:=[hJ 4 3,fI 8 (.bld [.int .i64 0,.sl true 1 []] [(0,1,.t 4),(1,1,.t 7)]),sJ 2 2 8]
def Qai9:SC:=.seq (.aA 7 [0,1,2,3,4,1,5,6] ( fJ 3 0 1::lJ 4 3::fJ 5 1 1::lJ 6 5::aJ 7 Ez [.t 6]::Qpq) [2]) .ret
def Qav0:SC:=sR [vJ 1 0,eI 2 (.alloc [.int .i64 0,.sl true 1 []])] [1,2] Qai9
abbrev Q3i:List RS:=[.cell 2 2 true]
theorem Qauy:mFn prog GX 1 9 Qav0 Q3i=true:=ZB
def Qm9:List Item:=[sJ 5 5 12]
def Qad0:SC:=.reg [mJ 13 3,fJ 14 0 5,lJ 15 14,nJ 16 15,fJ 17 1 5,lJ 18 17,nJ 19 18,bJ 20 .add 16 19,bJ 21 .add 13 20,mJ 3 21] [3,7,8,9]
def Qad1:SC:=.reg [cJ 22 .add 9 1,mJ 9 22] [3,7,8,9]
def Qad2:SC:=.seq (.block 1 (sR (iJ 11 5 7 9::tJ 12 5 11::eI 5 (.alloc [.sl true 2 [],.sl true 4 [],.int .i64 0,.int .i64 0,.sl true 1 []])::Qm9) [3,5,7,8,9] Qad0)) Qad1
def Q8c:SC:=sR [bJ 10 .lss 9 8] [3,7,8,9,10] (cX 10 0 Qad2)
def Qad3:SC:=sR [mJ 23 3,mJ 2 23] [2] .ret
def Qad4:SC:=.seq (sR [fJ 6 2 1,lJ 7 6,nJ 8 7,zJ 9 0] [3,7,8,9] (bL 0 Q8c)) Qad3
def Qad5:SC:=sR [zJ 3 0] [1,3] Qad4
def Qapq:SC:=sR [vJ 1 0,zJ 2 0] [1] Qad5
abbrev Qzj:List RS:=[.tmp 2]
theorem Qaot:mFn prog TV 1 24 Qapq Qzj=true:=ZB
def Qzx:List Item:=[sJ 3 5 16]
def Sk:List Item:=[gF 35 30 (.not (.t 34)),pT 36 30 35]
def Sj:List Item:=gF 28 21 (.not (.t 27))::pT 29 21 28::mJ 30 29::gFf 31 30 2 5::gFl 32 30 31::gF 33 30 (.len (.t 32))::.e (some 34) (some (30,false)) (.call Cd [.t 33,kI 1,kI 160])::Sk
def Tv:List Item:=oJ 20 19::mJ 21 20::gFf 22 21 0 5::gFl 23 21 22::gFf 24 21 1 5::gFl 25 21 24::gF 26 21 (.mn (kI 3) (.t 25))::.e (some 27) (some (21,false)) (.call Cd [.t 23,kI 0,.t 26])::Sj
def s_im_codeOk_4:SC:=cT 36 (sR [fB 4 false] [4] .ret) .skip
def Qzy:List Item:=[sJ 1 6 37]
def Qzz:List Item:=[mJ 7 43,sJ 5 8 45]
def HR:List Item:=[gF 69 65 (.not (.t 68)),gFm 70 65 69,gTf 71 70 3 8,gTl 72 70 71,gT 73 70 (.bin 0 .neq (.t 72) (kI 0)),gF 74 65 (.pick (.t 70) (.t 73) (.k (.c (.bool false)))),pT 75 65 74]
def HQ:List Item:=gT 62 57 (.not (.t 61))::gF 63 53 (.pick (.t 57) (.t 62) (.k (.c (.bool false))))::pT 64 53 63::mJ 65 64::gFf 66 65 2 8::gFl 67 65 66::.e (some 68) (some (65,false)) (.call RU [.t 67])::HR
def Si:List Item:=gFm 57 53 56::gTl 58 57 6::gTf 59 57 3 8::gTl 60 57 59::.e (some 61) (some (57,true)) (.ba (.t 58) [.t 60])::HQ
def TL:List Item:=hJ 47 46::.chk 48 none (.len (.t 47))::bJ 52 .neq 48 51::mJ 53 52::gFf 54 53 2 8::gFl 55 53 54::.e (some 56) (some (53,false)) (.call RU [.t 55])::Si
def s_im_codeOk_11:SC:=cT 75 (sR [fB 4 false] [4] .ret) .skip
def TK:List Item:=[pT 85 80 84]
def TJ:List Item:=mJ 80 79::gFf 81 80 1 8::gFl 82 80 81::gF 83 80 (.mkf TS [.t 2,.t 3])::.e (some 84) (some (80,false)) (.call V3 [.t 82,.t 83])::TK
def s_im_codeOk_14:SC:=cT 85 (sR [fB 4 false] [4] .ret) .skip
def Qt5:List Item:=[nJ 89 88,mJ 9 89]
def Qt6:List Item:=[sJ 2 11 96]
def HX:List Item:=[pT 118 113 117]
def HW:List Item:=gF 104 99 (.not (.t 103))::pT 105 99 104::mJ 106 105::gFf 107 106 1 11::gFl 108 106 107::gF 109 106 (.len (.t 108))::gFm 110 106 9::gF 111 106 (.bin 0 .neq (.t 109) (.t 110))::pT 112 106 111::mJ 113 112::gFf 114 113 1 11::gFl 115 113 114::gF 116 113 (.mkf TR [.t 6])::.e (some 117) (some (113,false)) (.call GZ [.t 115,.t 116])::HX
def Qzt:SC:=cT 118 (sR [fB 4 false] [4] .ret) .skip
def Qapr:SC:=sR (mJ 97 7::cJ 98 .eql 97 0::mJ 99 98::gFl 100 99 6::gFf 101 99 0 11::gFl 102 99 101::.e (some 103) (some (99,false)) (.ba (.t 100) [.t 102])::HW) [2,3,5,6,7,9,39,40,41,91,92,93,118] Qzt
def Qzu:SC:=.reg [cJ 119 .add 93 1,mJ 93 119] [2,3,5,6,7,9,39,40,41,91,92,93]
def Qaps:SC:=.seq (.block 3 (sR (iJ 95 2 91 93::tJ 96 2 95::eI 11 (.alloc [.int .i64 0,.sl true 1 []])::Qt6) [2,3,5,6,7,9,11,39,40,41,91,92,93] Qapr)) Qzu
def Qaje:SC:=sR [bJ 94 .lss 93 92] [2,3,5,6,7,9,39,40,41,91,92,93,94] (cX 94 2 Qaps)
def Qapt:SC:=sR [fJ 90 0 8,lJ 91 90,nJ 92 91,zJ 93 0] [2,3,5,6,7,9,39,40,41,91,92,93] (bL 2 Qaje)
def Tw:SC:=sR (tJ 86 3 5::mJ 87 7::aJ 88 HP [.t 86,.t 87]::Qt5) [2,3,5,6,7,8,9,39,40,41] Qapt
def Qzv:SC:=.seq (sR (fJ 76 4 8::lJ 77 76::fI 78 (.mkf TU [.t 5])::aJ 79 GZ [.t 77,.t 78]::TJ) [2,3,5,6,7,8,39,40,41,85] s_im_codeOk_14) Tw
def Qapu:SC:=.seq (.seq (.aA 30 [0,1,2,3,4,5,1,2,6,7,8,9,10,11,12,13,14,15,16,17,18,19,20,21,22,23,24,25,26,27,28,29] ( fJ 46 4 8::lJ 47 46::nJ 48 47::fJ 49 2 8::lJ 50 49::aJ 51 TQ [.t 50]::TL) [2,3,5,6,7,8,39,40,41,75]) s_im_codeOk_11) Qzv
def Qapv:SC:=.reg [cJ 120 .add 41 1,mJ 41 120] [2,3,5,6,39,40,41]
def Qapw:SC:=.seq (.block 1 (sR (mJ 43 41::iJ 44 5 39 41::tJ 45 5 44::eI 8 (.alloc [.sl true 2 [],.sl true 4 [],.int .i64 0,.int .i64 0,.sl true 1 []])::Qzz) [2,3,5,6,7,8,39,40,41] Qapu)) Qapv
def Qajf:SC:=sR [bJ 42 .lss 41 40] [2,3,5,6,39,40,41,42] (cX 42 0 Qapw)
def Qapx:SC:=sR [fB 4 true] [4] .ret
def Qapy:SC:=.seq (sR [fJ 38 2 5,lJ 39 38,nJ 40 39,zJ 41 0] [2,3,5,6,39,40,41] (bL 0 Qajf)) Qapx
def Qzw:SC:=sR (fI 37 (.mkf Cx [.t 5])::eI 6 (.alloc [.fnil])::Qzy) [2,3,5,6] Qapy
def Qapz:SC:=.seq (sR (fJ 17 1 5::lJ 18 17::aJ 19 Cd [.t 18,kI 0,kI 300]::Tv) [2,3,5,36] s_im_codeOk_4) Qzw
def Qap0:SC:=sR (fJ 12 0 2::lJ 13 12::lJ 14 3::iJ 15 3 13 14::tJ 16 3 15::eI 5 (.alloc [.int .i64 0,.int .i64 0,.sl true 5 []])::Qzx) [2,3,5] Qapz
def Qa94:SC:=sR [vJ 2 0,vJ 3 1,fB 4 false] [2,3] Qap0
abbrev HM:List RS:=[.tmp 4]
theorem Qa9d:mFn prog ST 2 121 Qa94 HM=true:=ZB
def Qna:List Item:=[mJ 3 8]
def Qad6:SC:=sR (mJ 4 0::fJ 5 1 1::lJ 6 5::cJ 7 .sub 6 1::aJ 8 Cd [.t 4,kI 0,.t 7]::Qna) [3] .ret
def Qap1:SC:=sR [fB 3 false] [0,1] Qad6
abbrev Qzk:List RS:=[.tmp 3]
theorem Qaou:mFn prog Cx 2 9 Qap1 Qzk=true:=ZB
def Qnb:List Item:=[oJ 10 9,mJ 3 10]
def Qad7:SC:=sR (mJ 4 0::fJ 5 2 1::lJ 6 5::nJ 7 6::cJ 8 .sub 7 1::aJ 9 Cd [.t 4,kI 1,.t 8]::Qnb) [3] .ret
def Qap2:SC:=sR [fB 3 false] [0,1] Qad7
abbrev Qzl:List RS:=[.tmp 3]
theorem Qaov:mFn prog TU 2 11 Qap2 Qzl=true:=ZB
def Qnc:List Item:=[oJ 9 8,mJ 4 9]
def Qad8:SC:=sR (tJ 5 1 1::lJ 6 2::tJ 7 4 3::aJ 8 Q01 [.t 5,.t 6,.t 7]::Qnc) [4] .ret
def Qap3:SC:=sR [vJ 3 0,fB 4 false] [1,2,3] Qad8
abbrev Qzm:List RS:=[.tmp 4]
theorem Qaow:mFn prog TS 3 10 Qap3 Qzm=true:=ZB
def Qnd:List Item:=[oJ 7 6,mJ 3 7]
def Qad9:SC:=sR (lJ 4 1::mJ 5 0::eI 6 (.ba (.t 4) [.t 5])::Qnd) [3] .ret
def Qap4:SC:=sR [fB 3 false] [0,1] Qad9
abbrev Qzn:List RS:=[.tmp 3]
theorem Qaox:mFn prog TR 2 8 Qap4 Qzn=true:=ZB
def Qap5:SC:=cT 6 .skip (.reg [cJ 10 .eql 3 13,mJ 6 10] [6])
def Qap6:SC:=cT 6 .skip (sR [cJ 9 .eql 3 11,mJ 6 9] [3,6] Qap5)
def Qap7:SC:=cT 6 .skip (sR [cJ 8 .eql 3 10,mJ 6 8] [3,6] Qap6)
def Qz0:SC:=cT 6 (sR [zJ 2 1] [2] .ret) .skip
def Qap8:SC:=cT 4 (sR [zJ 2 0] [2] .ret) (.seq (sR [cJ 7 .eql 3 2,mJ 6 7] [3,6] Qap7) Qz0)
def Qap9:SC:=.block 0 (sR [cJ 5 .eql 3 1,mJ 4 5] [3,4] Qap8)
def Qz1:SC:=sR [zJ 2 2] [2] .ret
def Qaqa:SC:=.seq (sR [mJ 3 0] [3] Qap9) Qz1
def Qa1m:SC:=sR [zJ 2 0] [0] Qaqa
abbrev RN:List RS:=[.tmp 2]
theorem Qaz9:mFn prog Tn 1 11 Qa1m RN=true:=ZB
def Q4i:List Item:=[sJ 3 7 13]
def Q4j:List Item:=[sJ 1 8 14]
def Ta:List Item:=[pT 24 19 23]
def Q4k:List Item:=oJ 18 17::mJ 19 18::gFf 20 19 2 5::gFl 21 19 20::gF 22 19 (.mkf TB [.t 8])::.e (some 23) (some (19,false)) (.call GZ [.t 21,.t 22])::Ta
def s_im_insOk_4:SC:=cT 24 (sR [fB 6 false] [6] .ret) .skip
def Sb:List Item:=[gF 39 35 (.not (.t 38)),gFm 40 35 39,gTf 41 40 1 5,gTl 42 40 41,gT 43 40 (.bin 0 .neq (.t 42) (kI (-1))),gF 44 35 (.pick (.t 40) (.t 43) (.k (.c (.bool false)))),pT 45 35 44]
def Sa:List Item:=gT 33 28 (.not (.t 32))::pF 34 28 33::mJ 35 34::gFf 36 35 0 5::gFl 37 35 36::.e (some 38) (some (35,false)) (.call R8 [.t 37])::Sb
def SZ:List Item:=mJ 28 27::gTl 29 28 8::gTf 30 28 1 5::gTl 31 28 30::.e (some 32) (some (28,true)) (.ba (.t 29) [.t 31])::Sa
def s_im_insOk_8:SC:=cT 45 (sR [fB 6 false] [6] .ret) .skip
def SY:List Item:=[pF 58 54 57,mJ 6 58]
def Sh:List Item:=[mJ 66 65,gTf 67 66 2 5,gTl 68 66 67,gT 69 66 (.len (.t 68)),gTf 70 66 0 3,gTl 71 66 70,gTf 72 66 3 5,gTl 73 66 72,gT 74 66 (.iad 3 (.t 71) (.t 73)),gTf 75 66 0 74,gTl 76 66 75,gT 77 66 (.bin 0 .eql (.t 69) (.t 76)),pF 78 66 77,mJ 6 78]
def Qav1:SC:=cT 59 (.seq (.aA 19 [0,1,2,3,4,5,6,7,8,9,10,11,12,13,14,15,16,17,18] ( fJ 61 3 5::lJ 62 61::mJ 63 1::cJ 64 .sub 63 1::aJ 65 Cd [.t 62,kI 0,.t 64]::Sh) [6]) .ret) .skip
def Qav2:SC:=cT 48 (sR (fJ 50 2 5::lJ 51 50::nJ 52 51::cJ 53 .eql 52 0::mJ 54 53::gTf 55 54 3 5::gTl 56 54 55::.e (some 57) (some (54,true)) (.call RV [.t 56])::SY) [6] .ret) (sR [cJ 60 .eql 47 14,mJ 59 60] [1,3,5,59] Qav1)
def Qav3:SC:=.block 0 (sR [cJ 49 .eql 47 1,mJ 48 49] [1,3,5,47,48] Qav2)
def Tu:List Item:=[.chk 84 (some (82,true)) (.ld 1 false (.t 83)),.chk 85 (some (82,true)) (.len (.t 84)),gT 89 82 (.bin 0 .eql (.t 85) (.t 88)),pF 90 82 89,mJ 6 90]
def Qav4:SC:=.seq (.aA 13 [0,1,2,3,4,5,6,7,8,9,5,6,10,11,12] ( fJ 79 3 5::lJ 80 79::cJ 81 .eql 80 0::mJ 82 81::gTf 83 82 2 5::gTl 84 82 83::gT 85 82 (.len (.t 84))::gTf 86 82 0 5::gTl 87 82 86::.e (some 88) (some (82,true)) (.call Tn [.t 87])::Tu) [6]) .ret
def Q4g:SC:=.seq (sR [fJ 46 0 5,lJ 47 46] [1,3,5,47] Qav3) Qav4
def Q4h:SC:=.seq (sR (fJ 25 0 5::lJ 26 25::aJ 27 R8 [.t 26]::SZ) [1,3,5,45] s_im_insOk_8) Q4g
def Qav5:SC:=.seq (sR (fJ 15 0 5::lJ 16 15::aJ 17 RD [.t 16]::Q4k) [1,3,5,8,24] s_im_insOk_4) Q4h
def Qav6:SC:=sR (fI 14 (.mkf HT [.t 7])::eI 8 (.alloc [.fnil])::Q4j) [1,3,5,8] Qav5
def Qav7:SC:=sR (fJ 9 0 3::lJ 10 9::mJ 11 1::iJ 12 3 10 11::tJ 13 3 12::eI 7 (.alloc [.int .i64 0,.int .i64 0,.sl true 5 []])::Q4i) [1,3,5,7] Qav6
def Qbjy:SC:=sR [vJ 3 0,vJ 5 2,fB 6 false] [1,3,5] Qav7
abbrev Hu:List RS:=[.tmp 6]
theorem Qbi9:mFn prog Q01 3 91 Qbjy Hu=true:=ZB
def Qpr:List Item:=[mJ 3 8]
def Qajg:SC:=sR (mJ 4 0::fJ 5 1 1::lJ 6 5::cJ 7 .sub 6 1::aJ 8 Cd [.t 4,kI 0,.t 7]::Qpr) [3] .ret
def Qav8:SC:=sR [fB 3 false] [0,1] Qajg
abbrev Q3j:List RS:=[.tmp 3]
theorem Qauz:mFn prog HT 2 9 Qav8 Q3j=true:=ZB
def Qps:List Item:=[oJ 7 6,mJ 3 7]
def Qajh:SC:=sR (lJ 4 1::mJ 5 0::eI 6 (.ba (.t 4) [.t 5])::Qps) [3] .ret
def Qav9:SC:=sR [fB 3 false] [0,1] Qajh
abbrev Q3k:List RS:=[.tmp 3]
theorem Qau0:mFn prog TB 2 8 Qav9 Q3k=true:=ZB
def Qz2:List Item:=[mJ 2 4]
def Qawa:SC:=sR (mJ 3 0::aJ 4 Cd [.t 3,kI 0,kI 255]::Qz2) [2] .ret
def Qa95:SC:=sR [fB 2 false] [0] Qawa
abbrev Nx:List RS:=[.tmp 2]
theorem Qa9e:mFn prog RV 1 5 Qa95 Nx=true:=ZB
def Q4l:List Item:=[mJ 2 4]
def Qa1n:SC:=sR (mJ 3 0::aJ 4 Cd [.t 3,kI 1,kI 14]::Q4l) [2] .ret
def Qbjz:SC:=sR [fB 2 false] [0] Qa1n
abbrev Lt:List RS:=[.tmp 2]
theorem Qbja:mFn prog RD 1 5 Qbjz Lt=true:=ZB
def Qdg:List Item:=[sJ 5 7 13]
def Qdh:List Item:=[mJ 5 19]
def Qdi:List Item:=fI 18 (.aG 5 [.t 17])::xJ 19 5 14 18::Qdh
def Qlx:SC:=.reg (mJ 14 5::mJ 15 1::tJ 16 5 7::eI 17 (.ba (.t 15) [.t 16])::Qdi) [1,5,8,9,10]
def Qly:SC:=.reg [cJ 20 .add 10 1,mJ 10 20] [1,5,8,9,10]
def Qlz:SC:=.seq (.block 1 (sR (iJ 12 5 8 10::tJ 13 5 12::eI 7 (.alloc [.sl true 2 [],.sl true 4 [],.int .i64 0,.int .i64 0,.sl true 1 []])::Qdg) [1,5,7,8,9,10] Qlx)) Qly
def Qj3:SC:=sR [bJ 11 .lss 10 9] [1,5,8,9,10,11] (cX 11 0 Qlz)
def Ql0:SC:=sR [mJ 21 5,mJ 4 21] [4] .ret
def Ql1:SC:=.seq (sR [mJ 8 0,nJ 9 8,zJ 10 0] [1,5,8,9,10] (bL 0 Qj3)) Ql0
def Ql2:SC:=sR [fI 5 (.mv (.k (.c (.sl true 5 []))))] [0,1,5] Ql1
def Qov:SC:=sR [fI 4 (.mv (.k (.c (.sl true 5 []))))] [0,1] Ql2
abbrev Qen:List RS:=[.tmp 4]
theorem Qon:mFn prog V5 2 22 Qov Qen=true:=ZB
def Qe3:List Item:=[sJ 4 7 13]
def Qe4:List Item:=[mJ 5 19]
def Qe5:List Item:=fI 18 (.aG 4 [.t 17])::xJ 19 4 14 18::Qe4
def Qt9:SC:=.reg (mJ 14 5::mJ 15 1::tJ 16 4 7::eI 17 (.ba (.t 15) [.t 16])::Qe5) [1,5,8,9,10]
def Qua:SC:=.reg [cJ 20 .add 10 1,mJ 10 20] [1,5,8,9,10]
def Qub:SC:=.seq (.block 1 (sR (iJ 12 4 8 10::tJ 13 4 12::eI 7 (.alloc [.int .i64 0,.int .i64 0,.sl true 1 [],.int .i64 0])::Qe3) [1,5,7,8,9,10] Qt9)) Qua
def Qrb:SC:=sR [bJ 11 .lss 10 9] [1,5,8,9,10,11] (cX 11 0 Qub)
def Quc:SC:=sR [mJ 21 5,mJ 4 21] [4] .ret
def Qud:SC:=.seq (sR [mJ 8 0,nJ 9 8,zJ 10 0] [1,5,8,9,10] (bL 0 Qrb)) Quc
def Que:SC:=sR [fI 5 (.mv (.k (.c (.sl true 4 []))))] [0,1,5] Qud
def Q1n:SC:=sR [fI 4 (.mv (.k (.c (.sl true 4 []))))] [0,1] Que
abbrev Qi5:List RS:=[.tmp 4]
theorem Q06:mFn prog Vw 2 22 Q1n Qi5=true:=ZB
def Qe6:List Item:=[sJ 2 7 13]
def Qe7:List Item:=[mJ 5 19]
def Qe8:List Item:=fI 18 (.aG 2 [.t 17])::xJ 19 2 14 18::Qe7
def Quf:SC:=.reg (mJ 14 5::mJ 15 1::tJ 16 2 7::eI 17 (.ba (.t 15) [.t 16])::Qe8) [1,5,8,9,10]
def Qug:SC:=.reg [cJ 20 .add 10 1,mJ 10 20] [1,5,8,9,10]
def Quh:SC:=.seq (.block 1 (sR (iJ 12 2 8 10::tJ 13 2 12::eI 7 (.alloc [.int .i64 0,.sl true 1 []])::Qe6) [1,5,7,8,9,10] Quf)) Qug
def Qri:SC:=sR [bJ 11 .lss 10 9] [1,5,8,9,10,11] (cX 11 0 Quh)
def Qui:SC:=sR [mJ 21 5,mJ 4 21] [4] .ret
def Quj:SC:=.seq (sR [mJ 8 0,nJ 9 8,zJ 10 0] [1,5,8,9,10] (bL 0 Qri)) Qui
def Quk:SC:=sR [fI 5 (.mv (.k (.c (.sl true 2 []))))] [0,1,5] Quj
def Q1o:SC:=sR [fI 4 (.mv (.k (.c (.sl true 2 []))))] [0,1] Quk
abbrev Qi6:List RS:=[.tmp 4]
theorem Q07:mFn prog Sy 2 22 Q1o Qi6=true:=ZB
def Qaeb:SC:=cT 8 (sR [zJ 2 0] [2] .ret) .skip
def Qaec:SC:=cT 6 (sR [zJ 2 2] [2] .ret) (sR [cJ 9 .eql 3 3,mJ 8 9] [8] Qaeb)
def Qaed:SC:=cT 4 (sR [zJ 2 1] [2] .ret) (sR [cJ 7 .eql 3 2,mJ 6 7] [3,6] Qaec)
def Qaee:SC:=.block 0 (sR [cJ 5 .eql 3 1,mJ 4 5] [3,4] Qaed)
def Qaef:SC:=sR [zJ 2 (-1)] [2] .ret
def Qaeg:SC:=.seq (sR [mJ 3 0] [3] Qaee) Qaef
def Qaqb:SC:=sR [zJ 2 0] [0] Qaeg
abbrev T2:List RS:=[.tmp 2]
theorem Qaoy:mFn prog TQ 1 10 Qaqb T2=true:=ZB
def Pl:List Item:=[mJ 5 4,gTm 6 5 0,gT 7 5 (.bin 0 .neq (.t 6) (kI 12)),pF 8 5 7,mJ 9 8,gTm 10 9 0,gT 11 9 (.bin 0 .neq (.t 10) (kI 13)),pF 12 9 11,mJ 2 12]
def Qa96:SC:=sR (mJ 3 0::aJ 4 RD [.t 3]::Pl) [2] .ret
def Qbqb:SC:=sR [fB 2 false] [0] Qa96
abbrev Rd:List RS:=[.tmp 2]
theorem Qbok:mFn prog R8 1 13 Qbqb Rd=true:=ZB
def Qawc:SC:=sR [mJ 3 0,cJ 4 .eql 3 2,mJ 5 4,gFm 6 5 0,gF 7 5 (.bin 0 .eql (.t 6) (kI 3)),pT 8 5 7,mJ 2 8] [2] .ret
def Qa97:SC:=sR [fB 2 false] [0] Qawc
abbrev Nw:List RS:=[.tmp 2]
theorem Qa9f:mFn prog RU 1 9 Qa97 Nw=true:=ZB
def Qz4:List Item:=[mJ 9 20]
def Qz5:List Item:=[sJ 5 10 25]
def Qaw2:SC:=cT 28 (.reg [mJ 29 9,fJ 30 3 10,lJ 31 30,iJ 32 1 29 31,.e none none (.sto 1 (.t 32) (.k (.c (.bool true))))] [3,9,10]) .skip
def Qz6:List Item:=[mJ 12 47]
def Qaw3:SC:=cT 49 (.reg [mJ 50 9,mJ 51 12,iJ 52 1 50 51,.e none none (.sto 1 (.t 52) (.k (.c (.bool false))))] [3,9,10,11]) .skip
def Qaw4:SC:=.reg [mJ 62 13,cJ 63 .add 62 1,mJ 13 63] [3,9,10,11,13]
def Qaw5:SC:=.seq (.block 3 (.reg [mJ 64 9,fJ 65 1 10,lJ 66 65,mJ 67 11,iJ 68 4 66 67,fJ 69 2 68,lJ 70 69,mJ 71 13,iJ 72 1 70 71,lJ 73 72,iJ 74 1 64 73,.e none none (.sto 1 (.t 74) (.k (.c (.bool true))))] [3,9,10,11,13])) Qaw4
def Qaqu:SC:=.seq (sR [mJ 53 13,fJ 54 1 10,lJ 55 54,mJ 56 11,iJ 57 4 55 56,fJ 58 2 57,lJ 59 58,nJ 60 59,bJ 61 .lss 53 60] [3,9,10,11,13,61] (cT 61 .skip (.exit 2))) Qaw5
def Qaw6:SC:=sR [zJ 13 0] [3,9,10,11,13] (bL 2 Qaqu)
def Qaw7:SC:=.seq (sR [mJ 48 12,cJ 49 .geq 48 0] [3,9,10,11,12,49] Qaw3) Qaw6
def Qaqn:SC:=.reg [mJ 40 11,cJ 41 .sub 40 1,mJ 11 41] [3,9,10,11]
def Qaqo:SC:=.seq (.block 1 (sR (fJ 42 1 10::lJ 43 42::mJ 44 11::iJ 45 4 43 44::tJ 46 4 45::aJ 47 RQ [.t 46]::Qz6) [3,9,10,11,12] Qaw7)) Qaqn
def Qajv:SC:=.seq (sR [mJ 37 11,mJ 38 3,bJ 39 .gtr 37 38] [3,9,10,11,39] (cT 39 .skip (.exit 0))) Qaqo
def Qaqp:SC:=sR [mJ 75 9,mJ 8 75] [8] .ret
def Qaqq:SC:=.seq (sR [fJ 33 1 10,lJ 34 33,nJ 35 34,cJ 36 .sub 35 1,mJ 11 36] [3,9,10,11] (bL 0 Qajv)) Qaqp
def Qaqr:SC:=.seq (sR [fJ 26 2 10,lJ 27 26,cJ 28 .neq 27 1] [3,9,10,28] Qaw2) Qaqq
def Qaqs:SC:=sR (fJ 21 2 4::lJ 22 21::mJ 23 2::iJ 24 5 22 23::tJ 25 5 24::eI 10 (.alloc [.sl true 2 [],.sl true 4 [],.int .i64 0,.int .i64 0,.sl true 1 []])::Qz5) [3,9,10] Qaqr
def Qaqt:SC:=sR (fI 14 (.aG 1 [])::fJ 15 1 5::lJ 16 15::mJ 17 2::iJ 18 1 16 17::lJ 19 18::xJ 20 1 14 19::Qz4) [2,3,4,9] Qaqs
def Qba7:SC:=sR [vJ 4 0,vJ 5 1,fI 8 (.mv (.k (.c (.sl true 1 []))))] [2,3,4,5] Qaqt
abbrev Nt:List RS:=[.tmp 8]
theorem Qa9i:mFn prog SR 4 76 Qba7 Nt=true:=ZB
def OE:List Item:=[mJ 9 20]
def OD:List Item:=[mJ 10 25]
def OC:List Item:=mJ 24 2::aJ 25 En [.t 23,.t 24]::OD
def Qba8:SC:=.reg [mJ 35 11,cJ 36 .add 35 1,mJ 11 36] [2,3,4,5,9,10,11]
def Qba9:SC:=.seq (.block 1 (.reg [mJ 37 9,fJ 38 2 4,lJ 39 38,mJ 40 3,iJ 41 5 39 40,fJ 42 0 41,lJ 43 42,mJ 44 11,iJ 45 2 43 44,fJ 46 1 45,lJ 47 46,mJ 48 10,iJ 49 1 47 48,lJ 50 49,iJ 51 1 37 50,.e none none (.sto 1 (.t 51) (.k (.c (.bool true))))] [2,3,4,5,9,10,11])) Qba8
def Qa4c:SC:=.seq (sR [mJ 26 11,fJ 27 2 4,lJ 28 27,mJ 29 3,iJ 30 5 28 29,fJ 31 0 30,lJ 32 31,nJ 33 32,bJ 34 .lss 26 33] [2,3,4,5,9,10,11,34] (cT 34 .skip (.exit 0))) Qba9
def MT:SC:=.reg [fJ 74 1 5,lJ 75 74,mJ 76 2,iJ 77 1 75 76,lJ 78 77,mJ 79 13,iJ 80 1 78 79,.e none none (.sto 1 (.t 80) (.k (.c (.bool true))))] [2,4,5,9,12,13]
def Qbba:SC:=cT 61 (sR [mJ 62 12,mJ 63 62,gFf 64 63 1 5,gFl 65 63 64,gFm 66 63 2,gF 67 63 (.iad 1 (.t 65) (.t 66)),gFl 68 63 67,gFm 69 63 13,gF 70 63 (.iad 1 (.t 68) (.t 69)),gFl 71 63 70,gF 72 63 (.not (.t 71)),pT 73 63 72,mJ 12 73] [2,4,5,9,12,13] MT) .skip
def Qbbb:SC:=.reg [mJ 56 13,cJ 57 .add 56 1,mJ 13 57] [2,4,5,9,12,13]
def Qbbc:SC:=.seq (.block 3 (sR [mJ 58 9,mJ 59 13,iJ 60 1 58 59,lJ 61 60] [2,4,5,9,12,13,61] Qbba)) Qbbb
def Qaw8:SC:=.seq (sR [mJ 52 13,fJ 53 1 4,lJ 54 53,bJ 55 .lss 52 54] [2,4,5,9,12,13,55] (cT 55 .skip (.exit 2))) Qbbc
def Qa36:SC:=sR [mJ 81 12,mJ 8 81] [8] .ret
def Qa37:SC:=.seq (sR [zJ 13 0] [2,4,5,9,12,13] (bL 2 Qaw8)) Qa36
def Qa38:SC:=sR [fB 12 false] [2,4,5,9,12] Qa37
def Qa39:SC:=.seq (sR [zJ 11 0] [2,3,4,5,9,10,11] (bL 0 Qa4c)) Qa38
def Qa4a:SC:=sR (tJ 21 3 4::mJ 22 3::aJ 23 C8 [.t 21,.t 22]::OC) [2,3,4,5,9,10] Qa39
def Qa4b:SC:=sR (fI 14 (.aG 1 [])::fJ 15 0 5::lJ 16 15::mJ 17 3::iJ 18 1 16 17::lJ 19 18::xJ 20 1 14 19::OE) [2,3,4,5,9] Qa4a
def Qbqq:SC:=sR [vJ 4 0,vJ 5 1,fB 8 false] [2,3,4,5] Qa4b
abbrev PX:List RS:=[.tmp 8]
theorem Qbou:mFn prog Q6v 4 82 Qbqq PX=true:=ZB
def Q1w:List Item:=[pF 14 7 13,mJ 4 14]
def Q1x:List Item:=mJ 7 6::gTm 8 7 1::gTf 9 7 0 2::gTl 10 7 9::gT 11 7 (.len (.t 10))::gT 12 7 (.bin 0 .sub (.t 11) (kI 1))::.e (some 13) (some (7,true)) (.call AJ [.t 8,kI 0,.t 12])::Q1w
def Qbj5:SC:=sR (tJ 5 1 2::aJ 6 DC [.t 5]::Q1x) [4] .ret
def YO:SC:=sR [vJ 2 0,fB 4 false] [1,2] Qbj5
abbrev Ft:List RS:=[.tmp 4]
theorem Qbug:mFn prog FS 2 15 YO Ft=true:=ZB
def OB:List Item:=[mJ 3 19]
def Qbbd:SC:=cT 15 (.reg (mJ 16 3::mJ 17 4::fI 18 (.aG 1 [.t 17])::xJ 19 1 16 18::OB) [0,3,4]) .skip
def Qbbe:SC:=.reg [mJ 10 4,cJ 11 .add 10 1,mJ 4 11] [0,3,4]
def Qbbf:SC:=.seq (.block 1 (sR [mJ 12 0,mJ 13 4,iJ 14 1 12 13,lJ 15 14] [0,3,4,15] Qbbd)) Qbbe
def Qa4d:SC:=.seq (sR [mJ 6 4,mJ 7 0,nJ 8 7,bJ 9 .lss 6 8] [0,3,4,9] (cT 9 .skip (.exit 0))) Qbbf
def Qbbg:SC:=sR [mJ 20 3,mJ 2 20] [2] .ret
def Qbbh:SC:=.seq (sR [zJ 4 0] [0,3,4] (bL 0 Qa4d)) Qbbg
def Qbbi:SC:=sR [fI 5 (.aG 1 []),mJ 3 5] [0,3] Qbbh
def Qbqr:SC:=sR [fI 2 (.mv (.k (.c (.sl true 1 []))))] [0] Qbbi
abbrev PW:List RS:=[.tmp 2]
theorem Qbov:mFn prog Q6w 1 21 Qbqr PW=true:=ZB
def OA:List Item:=[sJ 2 3 12]
def O9:List Item:=[fJ 28 0 3,sJ 1 28 27]
def O8:List Item:=hJ 22 21::fI 26 (.aG 1 [.t 25])::xJ 27 1 22 26::O9
def O7:List Item:=[fJ 36 1 3,sJ 1 36 35]
def O6:List Item:=hJ 30 29::fI 34 (.aG 1 [.t 33])::xJ 35 1 30 34::O7
def Qbbj:SC:=.aA 9 [0,1,2,3,4,1,5,6,7,8] ( fJ 29 1 3::lJ 30 29::fJ 31 1 1::lJ 32 31::eI 33 (.mks 1 [.bool false] (.t 32))::O6) [1,2,3,4,5]
def Qbbk:SC:=.reg [mJ 19 5,cJ 20 .add 19 1,mJ 5 20] [1,2,3,4,5]
def Qbbl:SC:=.seq (.block 1 (.seq (.aA 9 [0,1,2,3,4,1,5,6,7,8] ( fJ 21 0 3::lJ 22 21::fJ 23 1 1::lJ 24 23::eI 25 (.mks 1 [.bool false] (.t 24))::O8) [1,2,3,4,5]) Qbbj)) Qbbk
def Qa4x:SC:=.seq (sR [mJ 16 5,mJ 17 4,bJ 18 .lss 16 17] [1,2,3,4,5,18] (cT 18 .skip (.exit 0))) Qbbl
def SJ:List Item:=[mJ 68 67,gFm 69 68 6,pT 70 68 69,mJ 6 70]
def Qa4e:SC:=.reg [mJ 53 8,cJ 54 .add 53 1,mJ 8 54] [1,2,3,4,6,7,8]
def Qa4f:SC:=.seq (.block 7 (.aA 17 [0,1,2,3,4,5,6,7,8,9,10,11,12,13,14,15,16] ( tJ 55 3 1::tJ 56 2 3::mJ 57 7::fJ 58 2 1::lJ 59 58::mJ 60 7::iJ 61 5 59 60::fJ 62 4 61::lJ 63 62::mJ 64 8::iJ 65 1 63 64::lJ 66 65::aJ 67 Q6v [.t 55,.t 56,.t 57,.t 66]::SJ) [1,2,3,4,6,7,8])) Qa4e
def Qaw9:SC:=.seq (sR [mJ 44 8,fJ 45 2 1,lJ 46 45,mJ 47 7,iJ 48 5 46 47,fJ 49 4 48,lJ 50 49,nJ 51 50,bJ 52 .lss 44 51] [1,2,3,4,6,7,8,52] (cT 52 .skip (.exit 6))) Qa4f
def Q43:List Item:=[mJ 9 74]
def Qa4g:SC:=.reg [mJ 84 10,cJ 85 .add 84 1,mJ 10 85] [1,2,3,4,6,7,9,10]
def Qa4h:SC:=.seq (.block 9 (.reg [mJ 86 9,fJ 87 2 1,lJ 88 87,mJ 89 7,iJ 90 5 88 89,fJ 91 0 90,lJ 92 91,mJ 93 10,iJ 94 2 92 93,fJ 95 0 94,lJ 96 95,iJ 97 1 86 96,.e none none (.sto 1 (.t 97) (.k (.c (.bool false))))] [1,2,3,4,6,7,9,10])) Qa4g
def Qaxa:SC:=.seq (sR [mJ 75 10,fJ 76 2 1,lJ 77 76,mJ 78 7,iJ 79 5 77 78,fJ 80 0 79,lJ 81 80,nJ 82 81,bJ 83 .lss 75 82] [1,2,3,4,6,7,9,10,83] (cT 83 .skip (.exit 8))) Qa4h
def Qa4i:SC:=.reg [mJ 102 11,cJ 103 .add 102 1,mJ 11 103] [1,2,3,4,6,7,9,11]
def Qa4j:SC:=.seq (.block 11 (.aA 17 [0,1,2,3,4,5,6,7,8,9,10,11,12,13,14,15,16] ( mJ 104 6::mJ 105 104::gFm 106 105 9::gFm 107 105 11::gF 108 105 (.iad 1 (.t 106) (.t 107))::gFl 109 105 108::gFf 110 105 0 3::gFl 111 105 110::gFm 112 105 7::gF 113 105 (.iad 1 (.t 111) (.t 112))::gFl 114 105 113::gFm 115 105 11::gF 116 105 (.iad 1 (.t 114) (.t 115))::gFl 117 105 116::gF 118 105 (.bin 1 .neq (.t 109) (.t 117))::pT 119 105 118::mJ 6 119::[]) [1,2,3,4,6,7,9,11])) Qa4i
def Qaxb:SC:=.seq (sR [mJ 98 11,fJ 99 1 1,lJ 100 99,bJ 101 .lss 98 100] [1,2,3,4,6,7,9,11,101] (cT 101 .skip (.exit 10))) Qa4j
def Qa4k:SC:=.reg [fJ 120 0 3,lJ 121 120,mJ 122 7,mJ 123 9,iJ 124 1 121 122,sJ 1 124 123] [1,2,3,4,6,7]
def Qa4l:SC:=.seq (sR [zJ 11 0] [1,2,3,4,6,7,9,11] (bL 10 Qaxb)) Qa4k
def Qa4m:SC:=.seq (sR [zJ 10 0] [1,2,3,4,6,7,9,10] (bL 8 Qaxa)) Qa4l
def Qa4n:SC:=sR (tJ 71 3 1::tJ 72 2 3::mJ 73 7::aJ 74 SR [.t 71,.t 72,.t 73,kI (-1)]::Q43) [1,2,3,4,6,7,9] Qa4m
def Qa4o:SC:=.reg [mJ 42 7,cJ 43 .sub 42 1,mJ 7 43] [1,2,3,4,6,7]
def Qa4p:SC:=.seq (.block 5 (.seq (sR [zJ 8 0] [1,2,3,4,6,7,8] (bL 6 Qaw9)) Qa4n)) Qa4o
def Qaxc:SC:=.seq (sR [mJ 40 7,cJ 41 .geq 40 0] [1,2,3,4,6,7,41] (cT 41 .skip (.exit 4))) Qa4p
def Qa4q:SC:=sR [mJ 38 4,cJ 39 .sub 38 1,mJ 7 39] [1,2,3,4,6,7] (bL 4 Qaxc)
def Qa4r:SC:=.block 3 (sR [fB 6 false] [1,2,3,4,6] Qa4q)
def Qaxd:SC:=.seq (sR [mJ 37 6] [1,2,3,4,37] (cT 37 .skip (.exit 2))) Qa4r
def Qa4s:SC:=sR [tJ 125 2 3,sJ 2 2 125] [2] .ret
def Qa4t:SC:=.seq (sR [fB 6 true] [1,2,3,4,6] (bL 2 Qaxd)) Qa4s
def Qa4u:SC:=.seq (sR [zJ 5 0] [1,2,3,4,5] (bL 0 Qa4x)) Qa4t
def Qa4v:SC:=sR [fJ 13 2 1,lJ 14 13,nJ 15 14,mJ 4 15] [1,2,3,4] Qa4u
def Qa4w:SC:=sR (fI 12 (.bld [.sl true 1 [],.sl true 1 []] [])::eI 3 (.alloc [.sl true 1 [],.sl true 1 []])::OA) [1,2,3] Qa4v
def Qbqs:SC:=sR [vJ 1 0,eI 2 (.alloc [.sl true 1 [],.sl true 1 []])] [1,2] Qa4w
abbrev PV:List RS:=[.cell 2 2 true]
theorem Qbow:mFn prog Rz 1 126 Qbqs PV=true:=ZB
def Qee:List Item:=[cJ 8 .geq 7 0,mJ 4 8]
def Qo4:SC:=sR (mJ 5 0::mJ 6 1::aJ 7 V2 [.t 5,.t 6]::Qee) [4] .ret
def Qw1:SC:=sR [fB 4 false] [0,1] Qo4
abbrev Qgj:List RS:=[.tmp 4]
theorem Qta:mFn prog V3 2 9 Qw1 Qgj=true:=ZB
def Qy5:SC:=cT 16 (sR [mJ 17 5,mJ 4 17] [4] .ret) .skip
def Qy6:SC:=sR [mJ 11 1,mJ 12 0,mJ 13 5,iJ 14 4 12 13,tJ 15 4 14,eI 16 (.ba (.t 11) [.t 15])] [0,1,5,7,8,16] Qy5
def Qy7:SC:=.reg [cJ 18 .add 8 1,mJ 8 18] [0,1,7,8]
def Qy8:SC:=.seq (.block 1 (sR [mJ 10 8,mJ 5 10] [0,1,5,7,8] Qy6)) Qy7
def Qw2:SC:=sR [bJ 9 .lss 8 7] [0,1,7,8,9] (cX 9 0 Qy8)
def Qy9:SC:=sR [zJ 4 (-1)] [4] .ret
def Qza:SC:=.seq (sR [mJ 6 0,nJ 7 6,zJ 8 0] [0,1,7,8] (bL 0 Qw2)) Qy9
def Q5z:SC:=sR [zJ 4 0] [0,1] Qza
abbrev Vs:List RS:=[.tmp 4]
theorem Q3f:mFn prog V2 2 19 Q5z Vs=true:=ZB
def Qayu:SC:=cT 5 (sR [fJ 6 1 1,lJ 7 6,mJ 2 7] [2] .ret) .skip
def Qayv:SC:=sR [zJ 2 (-1)] [2] .ret
def Qayw:SC:=.seq (sR [fJ 3 0 1,lJ 4 3,aJ 5 Eu [.t 4]] [1,5] Qayu) Qayv
def Qbf4:SC:=sR [vJ 1 0,zJ 2 0] [1] Qayw
abbrev Q1e:List RS:=[.tmp 2]
theorem Qa9r:mFn prog RQ 1 8 Qbf4 Q1e=true:=ZB
end Go.AE.Y
attribute [go_sem_proc] reduceIte reduceEqDiff reduceAdd reduceLeDiff reduceLT reduceCtorEq
namespace Go.AE.Y
open Go.Proofs.Tryz
theorem Ab:prog.follows .mixedOrders=true:=ZB
theorem Xc (l : Nat) (fl : Bool) (bs : List UInt8) (k : Nat) (n : Int) (H : Heap) (K : V → Heap → Prop)
   (hH : H l = .st [.sl fl 1 (AT bs), .int .i64 k]) (cg : k ≤ 2^40)
   (hK : ∀ v : Int, (if n < 1 then v = 0 else 0 ≤ v ∧ v < n) → K (.c (.int .i64 v)) (H.set l (.st [.sl fl 1 (AT bs), .int .i64 ((k + 1 : Nat) : Int)]))) :
   Qs prog Qv [.c (.ptr l 0), .c (.int .i64 n)] H K := by
  refine Qc Ab Qa0c ?_;refine Qa ?_;simp only [go_sem, Nat.reduceEqDiff, Nat.reduceAdd];refine Qa ?_;simp only [go_sem, Nat.reduceEqDiff, Nat.reduceAdd, Nat.reduceLT, hH];refine ⟨Qr, fun H2 sQ => ?_⟩;have sS : H2 l = .st [C.sl fl 1 (AT bs), C.int IntKind.i64 (k + 1)] := by rw [sQ]; exact Heap.aE _ _ _
  have xF : ∀ v : Int, (if n < 1 then v = 0 else 0 ≤ v ∧ v < n) → K (.c (.int .i64 v)) H2 := by
    intro v hv; rw [sQ]; exact hK v hv
  clear hK;refine Q1 (Qa ?_);simp only [go_sem, C9, Nat.reduceEqDiff, Nat.reduceAdd, Nat.reduceLeDiff, sS];intro _;refine Wu ?_ ?_
  · intro hc;refine Qa ?_;simp only [go_sem, Nat.reduceEqDiff];refine Ql ?_;simp only [go_sem, Q6, Aa, RM, Ja, forall_eq, RS.op];refine xF 0 ?_;split <;> omega
  · intro hc;refine Qi ?_;simp only [go_sem];have hn : 1 ≤ n ∧ bs.length ≠ 0 := by
      simp only [cond_eq_ite] at hc;split at hc
      · simp at hc
      · simp at hc; simp_all
    refine Qa ?_;simp only [go_sem, Nat.reduceEqDiff, Nat.reduceAdd, sS];refine ⟨Qr, ?_⟩;refine Q1 (Qa ?_);simp only [go_sem, C9, Nat.reduceEqDiff, Nat.reduceAdd, Nat.reduceLeDiff, sS];intro hl;refine Wu ?_ ?_
    · intro aC;have hk : k < bs.length := ZC;refine Qa ?_;simp only [go_sem, C9, Kr, Nat.reduceEqDiff, Nat.reduceAdd, Nat.reduceLeDiff, sS, hk, Q9u];refine ⟨Zx, ?_⟩;refine Ql ?_;simp only [go_sem, Q6, Aa, RM, Ja, forall_eq, RS.op];refine xF _ ?_;rw [if_neg Zx];exact ⟨J4 _ Zx, J0 _ Zx⟩
    · intro aC;refine Qi ?_;simp only [go_sem];refine Aj ?_;have e1 : ((k : Int).tmod (bs.length : Int)) = ((k % bs.length : Nat) : Int) := rfl;have e2 : (((k : Int) * 7 + 3).tmod (bs.length : Int)) = (((k * 7 + 3) % bs.length : Nat) : Int) := rfl;have h1 : k % bs.length < bs.length := Nat.mod_lt _ Zx;have h2 : (k * 7 + 3) % bs.length < bs.length := Nat.mod_lt _ Zx;simp only [go_sem, C9, Kr, Nat.reduceEqDiff, Nat.reduceAdd, Nat.reduceLeDiff, sS, e1, e2, h1, h2, Q9u];have e3 : (k : Int).tdiv (bs.length : Int) = ((k / bs.length : Nat) : Int) := rfl;have h3 : k / bs.length ≤ k := Nat.div_le_self _ _;rw [e3];have h4 := (bs.getD (k % bs.length) 0).toNat_lt;have h5 := (bs.getD ((k * 7 + 3) % bs.length) 0).toNat_lt;generalize (bs.getD (k % bs.length) 0).toNat = b1 at *;generalize (bs.getD ((k * 7 + 3) % bs.length) 0).toNat = b2 at *;generalize k / bs.length = d at *;clear e1 e2 h1 h2 e3;refine ⟨Zx, Qr, Qr, Qr, by omega, Qr, Qr,
        Qr, Qr, ⟨Zx, Qr⟩, Qr, Qr, ?_⟩
      have hx : 0 ≤ (b1 : Int) * 131 + b2 * 1117 + k * 29 + d * 53 := Zx;have fN : (b1 : Int) * 131 + b2 * 1117 + k * 29 + d * 53 < 2 ^ 62 := Zx;generalize (b1 : Int) * 131 + b2 * 1117 + k * 29 + d * 53 = x at *;refine Qa ?_;simp only [go_sem, Nat.reduceEqDiff];have hq : 0 ≤ x.tdiv 64 := Int.tdiv_nonneg hx Zx;have yt : x.tdiv 64 ≤ x := (by have := Int.tdiv_le_self (a := x) 64 hx; exact this);refine ⟨⟨Zx, Qr⟩, ?_⟩;have hy := Qb0z hx hq fN Zx;generalize Cp .xor .i64 x (x.tdiv 64) = y at *;refine Qa ?_;simp only [go_sem, Nat.reduceEqDiff];refine ⟨Zx, ?_⟩;refine Ql ?_;simp only [go_sem, Q6, Aa, RM, Ja, forall_eq, RS.op];refine xF _ ?_;rw [if_neg Zx];exact ⟨J4 _ Zx, J0 _ Zx⟩
theorem A5 {R:Rdr}{k:Nat}{n:Int}{H:Heap}{K:V→Heap→Prop}(hH:H R.l=R.o k)(hk:k≤2^40)
  (hK:∀(v:Int) (H':Heap),(if n<1 then v=0 else 0≤v∧v<n)→Upd H H' [(R.l,R.o (k+1))]→K (.c (.int .i64 v)) H') :
  Qs prog Qv [.c (.ptr R.l 0),.c (.int .i64 n)] H K:=
 Xc R.l R.fl R.bs k n H K hH hk fun v hv=>hK v _ hv ⟨by simp[Heap.aE,Rdr.o],fun m _ hm=>Heap.ai _ _ (by simpa using hm)⟩
theorem Bf {R:Rdr}{k:Nat}{fl:Bool}{ns:List Int}{H:Heap}{K:V→Heap→Prop}(hH:H R.l=R.o k)(hk:k≤2^40)(cP:0<ns.length)
  (hK:∀(v:Int) (H':Heap),v∈ns→Upd H H' [(R.l,R.o (k+1))]→K (.c (.int .i64 v)) H') :
  Qs prog AV [.c (.ptr R.l 0),.c (.sl fl 1 (Qb ns))] H K:=by
 refine Qc Ab Qa9l ?_;refine Wg ?_;simp only[go_sem,Qf];intro hl;refine A5 hH hk fun v H' hv hu=>?_;rw[if_neg Zx]at hv;obtain⟨i,rfl⟩:=Jo hv.1;have hi:i<ns.length:=Zx
 simp only[go_sem,Q0i,Qf,Qn,hi];refine Zb ?_;refine hK _ H' ?_ hu;rw[Jb,J2 hi];exact Jc hi
theorem of_c {R:Rdr}{k:Nat}{fl:Bool}{ss:List (List UInt8)}{H:Heap}{K:V→Heap→Prop}(hH:H R.l=R.o k)(hk:k≤2^40)(cP:0<ss.length)
  (hK:∀(v:List UInt8) (H':Heap),v∈ss→Upd H H' [(R.l,R.o (k+1))]→K (.c (.str v)) H') :
  Qs prog HJ [.c (.ptr R.l 0),.c (.sl fl 1 (A8 ss))] H K:=by
 refine Qc Ab Qbjg ?_;refine Wg ?_;simp only[go_sem,Bj];intro hl;refine A5 hH hk fun v H' hv hu=>?_;rw[if_neg Zx]at hv;obtain⟨i,rfl⟩:=Jo hv.1;have hi:i<ss.length:=Zx
 simp only[go_sem,Q5n,Bj,HH,hi];refine Zb ?_;refine hK _ H' ?_ hu;rw[Jb,J2 hi];exact Jc hi
theorem Qbt4 {R:Rdr}{k:Nat}{fl:Bool}{ss:List (List UInt8)}{H:Heap}{K:V→Heap→Prop}(hH:H R.l=R.o k)(hk:k+2≤2^40)
  (hK:∀(x:Ex) (H':Heap) (k':Nat),k<k'→k'≤k+2→Upd H H' [(R.l,R.o k')]→x.ok→x.size=1→K (.ag x.cells) H') :
  Qs prog Gj [.c (.ptr R.l 0),.c (.sl fl 1 (A8 ss))] H K:=by
 refine Qx ?_;refine Qc Ab Qbuk ?_;refine Za ?_;intro x hx H1 h1;have kn:=(Kn.start1 hH (R.aj k)).al hx h1;refine Q1 (Qa ?_);simp only[go_sem,Bj];intro hl;have rest:∀(b:Bool) (H2:Heap) (k2:Nat),k≤k2→k2≤k+1→Kn H H2 [(R.l,R.o k2)] [(x,.st [.int .i64 0,.int .i64 0,.str [],.sl true 4 []])]→(b=false→0<ss.length)→
   Ac prog (s_l2Leaf_2.seq Lc) (Q6 DN (unK H K)) [(0,V.c (C.ptr R.l 0)),(1,V.c (C.sl fl 1 (A8 ss))),(4,V.c (C.ptr x 0)),(12,V.c (.bool b))] H2:=by
  intro b H2 k2 fT fA kn hb;refine Wu ?_ ?_
  ·intro aZ;refine Za ?_;refine Bf (ns:=[0,1,2,3,5,7,15,16,100,255]) (kn.e 0 rfl) Zx Zz fun v H3 hv hu=>?_;have kn:=kn.an 0 rfl hu (R.aj _);have aP:=kn.l 0 rfl;simp only[go_sem,MP,aP];intro H4 h4;have kn:=kn.aB 0 rfl h4;have br:=kn.l 0 rfl;refine Zg br ?_;refine⟨_,(Ex.mk 1 v [] []).frz,hK _ _ (k2+1) Zx Zx kn.fin ?_ ?_⟩
   ·simp[Ex.ok,A9]
   ·simp[Ex.size,At]
  ·intro aZ;refine Ze ?_;refine Za ?_;refine of_c (kn.e 0 rfl) Zx (hb aZ) fun v H3 hv hu=>?_;have kn:=kn.an 0 rfl hu (R.aj _);have aP:=kn.l 0 rfl;simp only[go_sem,MO,aP];intro H4 h4;have kn:=kn.aB 0 rfl h4;have br:=kn.l 0 rfl;refine Zg br ?_;refine⟨_,(Ex.mk 2 0 v []).frz,hK _ _ (k2+1) Zx Zx kn.fin ?_ ?_⟩
   ·simp[Ex.ok,A9]
   ·simp[Ex.size,At]
 refine⟨fun hb=>?_,fun hb=>?_⟩
 ·refine A5 (kn.e 0 rfl) Zx fun v H2 hv hu=>?_;have kn:=kn.an 0 rfl hu (R.aj _);simp only[go_sem,Q2k];refine rest _ H2 (k+1) Zx Zx kn ?_;intro h;have:¬ss.length=0:=ZQ
  omega
 ·have bX:decide ((ss.length:Int)=0)=true:=ZQ
  simp only[go_sem,Q2k,bX];exact rest true H1 k Zx Zx kn (fun h=>ZF)
variable {H:Heap}{K:V→Heap→Prop}
theorem AS {n lo hi:Int}(hK:K (.c (.bool (decide (lo≤n∧n≤hi)))) H):Qs prog AJ [.c (.int .i64 n),.c (.int .i64 lo),.c (.int .i64 hi)] H K:=by
 refine Qc Ab Qb1x ?_;refine Wb ?_;refine Zb ?_;have:(bif decide (lo≤n)then decide (n≤hi)else false)=decide (lo≤n∧n≤hi):=by
  by_cases h:lo≤n <;> simp[h]
 rw[this];exact hK
theorem Qboe {b:Bool}(hK:K (.c (.int .i64 (if b then 1 else 0))) H):Qs prog Q65 [.c (.bool b)] H K:=by
 refine Qc Ab Qbo8 ?_;refine Wf ?_;refine Wu ?_ ?_
 ·intro hc;subst hc;refine Wm ?_;exact hK
 ·intro hc;subst hc;refine Ze ?_;refine Wm ?_;exact hK
theorem Qbob {s:List UInt8}{b:UInt8}(hK:∀n:Int,K (.c (.int .i64 n)) H):Qs prog Q63 [.c (.str s),.c (.int .u8 b.toNat)] H K:=by
 refine Qc Ab Qbo4 ?_;refine Wf ?_;refine Qh (Qd (Qw (fun n e1 H1=>∃i:Nat,n=s.length-i∧i≤s.length∧H1=H∧e1=[(0,.c (.str s)),(1,.c (.int .u8 b.toNat)),(5,.c (.int .i64 i))]) s.length ?_ ?_))
 ·exact⟨0,Zx,Zx,rfl,rfl⟩
 ·rintro n e1 H1 ⟨i,hn,hi,rfl,rfl⟩;refine Wa ?_;intro hl;simp only[LIM]at hl;refine Wu ?_ ?_
  ·intro hc;have ae:i<s.length:=ZA
   refine Wd ?_;refine Zi ae ?_;refine Wv ?_ ?_
   ·intro aC;refine Za ?_;refine Zm ?_;exact hK _
   ·intro aC;refine Wl ?_;exact⟨Qr,s.length-(i+1),Zx,i+1,rfl,Zx,rfl⟩
  ·intro hc;refine Wh ?_;exact hK _
theorem Qbn9 {b:UInt8}(hK:∀n:Int,K (.c (.int .i64 n)) H):Qs prog Q62 [.c (.int .u8 b.toNat)] H K:=by
 refine Qc Ab Qbo2 ?_;refine Za ?_;refine Wi ?_;refine Wv ?_ ?_
 ·intro hc;refine Wm ?_;exact hK _
 intro hc;refine Za ?_;refine Wv ?_ ?_
 ·intro hc;refine Wm ?_;exact hK _
 intro hc;refine Za ?_;refine Qbob fun n=>?_;simp only[go_sem,OK];refine Wv ?_ ?_
 ·intro hc;refine Wm ?_;exact hK _
 intro hc;refine Za ?_;refine Wv ?_ ?_
 ·intro hc;refine Wm ?_;exact hK _
 intro hc;refine Ze ?_;refine Wm ?_;exact hK _
theorem VV {s:List UInt8}{k:Int}(hK:∀b:Bool,K (.c (.bool b)) H):Qs prog F3 [.c (.str s),.c (.int .i64 k)] H K:=by
 refine Qc Ab VL ?_;refine Wf ?_;refine Qh (Qd (Qw (fun n e1 H1=>∃i:Nat,n=s.length-i∧i≤s.length∧H1=H∧e1=[(0,.c (.str s)),(1,.c (.int .i64 k)),(5,.c (.int .i64 i))]) s.length ?_ ?_))
 ·exact⟨0,Zx,Zx,rfl,rfl⟩
 ·rintro n e1 H1 ⟨i,hn,hi,rfl,rfl⟩;refine Wa ?_;intro hl;simp only[LIM]at hl;refine Wu ?_ ?_
  ·intro hc;have ae:i<s.length:=ZA
   refine Wd ?_;refine Zi ae ?_;refine Qbn9 fun cl=>?_;simp only[go_sem,Lj];refine Wv ?_ ?_
   ·intro aC;refine Za ?_;refine Zm ?_;exact hK _
   ·intro aC;refine Wl ?_;exact⟨Qr,s.length-(i+1),Zx,i+1,rfl,Zx,rfl⟩
  ·intro hc;refine Wc ?_;intro _;refine Zb ?_;exact hK _
theorem Qbh7 (hK:∀ss:List (List UInt8),K (.c (.sl true 1 (A8 ss))) H):Qs prog T5 [] H K:=by
 refine Qc Ab Qavb ?_;refine Wb ?_;refine Zb ?_;exact hK [[102,110],[108,101,116],[115,97,121],[112,117,116],[105,102],[101,108,115,101],[108,111,111,112],[98,97,99,107],[100,111]]
theorem VU {s:List UInt8}(hK:∀b:Bool,K (.c (.bool b)) H):Qs prog F2 [.c (.str s)] H K:=by
 refine Qc Ab VK ?_;refine Wb ?_;refine Qbh7 fun ss=>?_;simp only[go_sem,Lh];refine Wa ?_;refine Qh (Qd (Qw (fun n e1 H1=>∃i:Nat,n=ss.length-i∧i≤ss.length∧H1=H∧e1=[(0,.c (.str s)),(3,.c (.sl true 1 (A8 ss))),(4,.c (.int .i64 i))]) ss.length ?_ ?_))
 ·exact⟨0,Zx,Zx,rfl,rfl⟩
 ·rintro n e1 H1 ⟨i,hn,hi,rfl,rfl⟩;refine Q1 (Qa ?_);simp only[go_sem,Bj];intro hl;simp only[LIM]at hl;refine Wu ?_ ?_
  ·intro hc;have ae:i<ss.length:=ZA
   refine Wo ?_;simp only[go_sem,ae,Bj,HH _ _ ae];refine Wv ?_ ?_
   ·intro aC;refine Za ?_;refine Zm ?_;exact hK _
   ·intro aC;refine Wl ?_;exact⟨Qr,ss.length-(i+1),Zx,i+1,rfl,Zx,rfl⟩
  ·intro hc;refine Wh ?_;exact hK _
theorem DV {s:List UInt8}(hK:∀b:Bool,K (.c (.bool b)) H):Qs prog GQ [.c (.str s)] H K:=by
 refine Qc Ab Qa9q ?_;refine Wb ?_;refine VV fun b=>?_;simp only[go_sem,Q0v];intro hl;refine⟨fun hb=>?_,fun hb=>?_⟩
 ·refine VU fun b2=>?_;simp only[go_sem,TD];refine Zb ?_;exact hK _
 ·simp only[go_sem,TD,hb];refine Zb ?_;exact hK _
theorem Qbt3 {op:Int}(hK:∀a b:Int,K (.tup [.c (.int .i64 a),.c (.int .i64 b)]) H):Qs prog Gk [.c (.int .i64 op)] H K:=by
 refine Qc Ab Qbuj ?_;refine Wf ?_;have ret:∀(a b:Int) (e:Env),lk 2 e=.c (.int .i64 a)→lk 3 e=.c (.int .i64 b)→Q6 Ro K .ret e H:=by
  intro a b e h1 h2;simp only[go_sem,Q6,Aa,List.forall_mem_cons,RS.op,h1,h2];exact hK _ _
 refine Qh (Qd ?_);refine Wa ?_;have r5:∀(b:Bool),Ac prog Ld (X.inBlock 0 (X.sq prog Q8p (Q6 Ro K))) [(4,.c (.int .i64 op)),(5,.c (.bool b))] H:=by
  intro b;refine Wv ?_ ?_
  ·intro hc;refine We ?_;exact ret 0 0 _ Zy Zy
  intro hc;refine Wa ?_;have r8:∀(b:Bool),Ac prog Lf (X.inBlock 0 (X.sq prog Q8p (Q6 Ro K))) [(4,.c (.int .i64 op)),(8,.c (.bool b))] H:=by
   intro b;refine Wv ?_ ?_
   ·intro hc;refine We ?_;exact ret 1 1 _ Zy Zy
   intro hc;refine Za ?_;refine Wv ?_ ?_
   ·intro hc;refine We ?_;exact ret 0 3 _ Zy Zy
   ·intro hc;refine Ze ?_;refine Za ?_;refine Ql ?_;exact ret 2 2 _ Zy Zy
  refine Wu ?_ ?_
  ·intro hc;refine Ze ?_;exact r8 _
  ·intro hc;refine Zh ?_;exact r8 _
 refine Wu ?_ ?_
 ·intro hc;refine Ze ?_;exact r5 _
 ·intro hc;refine Zh ?_;exact r5 _
theorem Qbt5 {op:Int}(hK:K (.c (.int .i64 (if op=4 then 2 else 1))) H):Qs prog Gi [.c (.int .i64 op)] H K:=by
 refine Qc Ab Qbul ?_;refine Wf ?_;refine Wu ?_ ?_
 ·intro hc;refine Wm ?_;rw[if_pos ZA]at hK;exact hK
 ·intro hc;refine Ze ?_;refine Wm ?_;rw[if_neg ZA]at hK;exact hK
end Go.AE.Y
namespace Go.AE
open Go.AE.Y
open Go.Proofs.Tryz
variable {H:Heap}{K:V→Heap→Prop}
theorem Slc.keep {H':Heap}{sz:Nat}{rows:List (List C)}{b:C}{E L:List (Nat×Obj)}(h:Slc H sz rows b)(kn:Kn H H' E L)(hE:∀l a c d,b=.af l a c d→l∉E.map Prod.fst):Slc H' sz rows b:=by
 obtain⟨h1,h2,h3,h4⟩:=h
 cases b with
 |sl fl z rs=>exact⟨trivial,h2,h3,h4⟩
 |af l z st n=>
  simp only[Go.AE.bh]at h1
  cases ho:H l with
  |vec y rs=>
   have:=kn.chg l (by rw[ho];simp) (hE l z st n rfl);refine⟨?_,h2,?_,h4⟩
   ·simp only[Go.AE.bh,this];exact h1
   ·simp only[Go.AE.rowsOf,this];exact h3
  |_=>rw[ho]at h1;exact h1.elim
 |_=>exact h1.elim
theorem Slc.keep0 {H':Heap}{sz:Nat}{rows:List (List C)}{b:C}{L:List (Nat×Obj)}(h:Slc H sz rows b)(kn:Kn H H' [] L):Slc H' sz rows b:=h.keep kn Zz
end Go.AE
namespace Go.AE.Y
open Go.Proofs.Tryz
variable {H:Heap}{K:V→Heap→Prop}
def Am (nx:Nat→List Int)(b:Int)(n:Nat):List Int:=((List.range n).filter fun i=>(nx i).contains b).map Int.ofNat
theorem RP (nx:Nat→List Int)(b:Int)(n:Nat):Am nx b (n+1)=Am nx b n++if (nx n).contains b then [(n:Int)]else []:=by
 simp only[Am,List.range_succ,List.filter_append,Jv];congr 1;cases h:(nx n).contains b
 ·simp only[Jab,h,Jae];rfl
 ·simp only[Jab,h,Jae,if_true];rfl
theorem El (nx:Nat→List Int)(b:Int)(n:Nat):(Am nx b n).length≤n:=by
 simp only[Am,Je];exact J9 (List.length_filter_le _ _) Zz
set_option maxHeartbeats 1000000 in
theorem Qbi7 {p rg:Int}{bc:C}{rows:List (List C)}{nx:Nat→List Int}{b:Int}(hs:Slc H 5 rows bc)(b8:bc.ah=false)
  (hx:∀i,i<rows.length→∃a1 a2 a3 a4 a5,rows.getD i []=[a1,a2,a3,a4,a5]∧a5.ah=false∧Slc H 1 (Qb (nx i)) a5)
  (hK:∀H',Upd H H' []→K (.c (.sl false 1 (Qb (Am nx b rows.length)))) H'):Qs prog C8 [.ag [.int .i64 p,.int .i64 rg,bc],.c (.int .i64 b)] H K:=by
 refine Qx ?_;refine Qc Ab Qbpb ?_;refine Wb ?_;refine Wa ?_;have am:=hs.len;have gU:=hs.sz;refine Qh (Qd (Qw (fun n e1 H1=>∃(i:Nat) (c:C) (Lg:List (Nat×Obj)),n=rows.length-i∧i≤rows.length∧Gr Lg 1 (Qb (Am nx b i)) c∧Kn H H1 [] ([]++Lg)∧
  e1=[(1,.c (.int .i64 b)),(2,.c (.pp [.int .i64 p,.int .i64 rg,bc])),(5,.c c),(6,.c (.int .i64 i))]) rows.length ?_ ?_))
 ·exact⟨0,_,[],Zx,Zx,.nil 1,Kn.aq H,rfl⟩
 ·rintro n e1 H1 ⟨i,c,Lg,dk,hi,ao,kn,rfl⟩;have db:=hs.keep0 kn;have fp:=eq_true db.ok;have jl:=db.rows;refine Q1 (Qa ?_);simp only[go_sem,b8,fp,am];intro hl;simp only[LIM]at hl;refine Wu ?_ ?_
  ·intro hc;have ae:i<rows.length:=ZA
   obtain⟨a1,a2,a3,a4,a5,aK,o5,mX⟩:=hx i ae;have mX:=mX.keep0 kn;have iB:=eq_true mX.ok;have nr:=mX.len;have uQ:=mX.sz;have uW:=mX.rows;refine Ze ?_;have turn:∀(e:Env) (H2:Heap) (c':C) (Lg':List (Nat×Obj)),lk 1 e=.c (.int .i64 b)→lk 2 e=.c (.pp [.int .i64 p,.int .i64 rg,bc])→lk 5 e=.c c'→lk 6 e=.c (.int .i64 i)→
     Gr Lg' 1 (Qb (Am nx b (i+1))) c'→Kn H H2 [] ([]++Lg')→
     Ac prog Mo (X.next (fun e2 H2=>∃m,m<n∧∃(i:Nat) (c:C) (Lg:List (Nat×Obj)),m=rows.length-i∧i≤rows.length∧Gr Lg 1 (Qb (Am nx b i)) c∧Kn H H2 [] ([]++Lg)∧
      e2=[(1,.c (.int .i64 b)),(2,.c (.pp [.int .i64 p,.int .i64 rg,bc])),(5,.c c),(6,.c (.int .i64 i))]) (X.inBlock 0 (X.sq prog Mn (Q6 FC (unK H K))))) e H2:=by
    intro e H2 c' Lg' l1 l2 l5 l6 kL kn';refine Qp ?_;simp only[go_sem,l1,l2,l5,l6,X.next];exact⟨Qr,rows.length-(i+1),Zx,i+1,c',Lg',rfl,Zx,kL,by simpa using kn',rfl⟩
   refine Wi ?_;refine Qd (Qw (fun n e1 H2=>∃(k:Nat),n=(nx i).length-k∧k≤(nx i).length∧b∉(nx i).take k∧H2=H1∧e1=[(1,.c (.int .i64 b)),(2,.c (.pp [.int .i64 p,.int .i64 rg,bc])),(5,.c c),(6,.c (.int .i64 i)),(7,.c (.int .i64 k))]) (nx i).length ?_ ?_)
   ·exact⟨0,Zx,Zx,Zz,rfl,rfl⟩
   ·rintro n e1 H2 ⟨k,jr,hk,cd,rfl,rfl⟩;refine Q1 (Qa ?_);simp only[go_sem,b8,fp,am,gU,jl,ae,aK,o5,iB,nr,Qf];intro ig;simp only[LIM]at ig;refine Wu ?_ ?_
    ·intro hc;have aT:k<(nx i).length:=ZA;have bG:(nx i).getD k 0=(nx i)[k]:=(by simp[Jb,aT]);refine Wo ?_;simp only[go_sem,b8,fp,am,gU,jl,ae,aK,o5,iB,nr,uQ,uW,aT,Qf,Qn _ _ aT,bG];refine Wv ?_ ?_
     ·intro aC;have hb:(nx i)[k]=b:=ZC;have fX:(nx i).contains b=true:=(by rw[J5,←hb];exact Jc aT);refine Za ?_;have dH:=El nx b i;refine kn.grow (B:=[]) (new:=Qb [(i:Int)]) ao (.mk' _ _ _ _) (Qq _) Zas fun y' H3 kn=>?_;simp only[go_sem,Oi];refine Qu ?_;have tI:((2:Nat) == 3)=false:=rfl;rw[Qbto tI];simp only[go_sem,X.next];refine turn _ _ _ _ Zy Zy ZE Zy ?_ kn;rw[RP,fX,if_pos rfl,Cb];exact .mk _ _ _ Zz
     ·intro aC;have hb:¬(nx i)[k]=b:=ZC;refine Wl ?_;refine⟨Qr,(nx i).length-(k+1),Zx,k+1,rfl,Zx,?_,rfl⟩;rw[Jj aT];simp only[Jm,Ja,not_or];exact⟨cd,fun h=>hb h.symm⟩
    ·intro hc;have bd:(nx i).length≤k:=ZA;rw[Jd bd]at cd;have fX:(nx i).contains b=false:=by
      cases jc:(nx i).contains b with
      |false=>rfl
      |true=>exact absurd (J5.1 jc) cd
     refine Zc ?_;refine turn _ _ _ _ Zy Zy ZE Zy ?_ kn;rw[RP,fX];simpa using ao
  ·intro hc;have bd:i=rows.length:=by have:rows.length≤i:=ZA;omega
   subst bd;refine Wh ?_;exact⟨_,.c _ _ (ao.frz kn (Qq _)),hK _ kn.fin⟩
theorem Eg {p rg:Int}{bc:C}{rows:List (List C)}{nx:Nat→List Int}{b:Int}(hs:Slc H 5 rows bc)(b8:bc.ah=false)
  (hx:∀i,i<rows.length→∃a1 a2 a3 a4 fl,rows.getD i []=[a1,a2,a3,a4,.sl fl 1 (Qb (nx i))])
  (hK:∀H',Upd H H' []→K (.c (.sl false 1 (Qb (Am nx b rows.length)))) H'):Qs prog C8 [.ag [.int .i64 p,.int .i64 rg,bc],.c (.int .i64 b)] H K:=
 Qbi7 hs b8 (fun i hi=>by
  obtain⟨a1,a2,a3,a4,fl,h⟩:=hx i hi;exact⟨a1,a2,a3,a4,_,h,rfl,.mk' _ _ _ _⟩) hK
def AL (op:Int):Int:=if op=1 then 0 else if op=2∨op=10∨op=11∨op=13 then 1 else if (3≤op∧op≤9)∨op=12 then 2 else -1
theorem K3 {op:Int}(hK:K (.c (.int .i64 (AL op))) H):Qs prog Hl [.c (.int .i64 op)] H K:=by
 refine Qc Ab Qbup ?_;have retf:∀(n:Int) (e:Env),AL op=n→lk 2 e=.c (.int .i64 n)→Q6 Fp K .ret e H:=by
  intro b e h1 h3;simp only[go_sem,Q6,Aa,Ja,forall_eq,RS.op,h3];rw[←h1];exact hK
 refine Za ?_;refine Wi ?_;refine Wv ?_ ?_
 ·intro hc;refine We ?_;exact retf 0 _ (by simp only[decide_eq_true_eq]at hc;simp[AL,hc]) Zy
 intro bF;refine Za ?_;refine Wv ?_ ?_
 ·intro hc;refine We ?_;exact retf 1 _ (by simp at bF hc;rw[AL,if_neg bF,if_pos (by omega)]) Zy
 intro aC;refine Za ?_;refine AS ?_;simp only[go_sem,M5];refine Wv ?_ ?_
 ·intro hc;refine We ?_;exact retf 2 _ (by simp at bF aC hc;rw[AL,if_neg bF,if_neg (by omega),if_pos (by omega)]) Zy
 ·intro hc;refine Ze ?_;refine Za ?_;refine Ql ?_;exact retf (-1) _ (by simp at bF aC hc;rw[AL,if_neg bF,if_neg (by omega),if_neg (by omega)]) Zy
theorem argsN_in {op:Int}:-1≤AL op∧AL op≤2:=by
 rw[AL];split
 ·omega
 ·split
  ·omega
  ·split <;> omega
theorem Qbof {op:Int}(hK:∀n:Int,-1≤n→n≤2→K (.c (.int .i64 n)) H):Qs prog Hl [.c (.int .i64 op)] H K:=K3 (hK _ argsN_in.1 argsN_in.2)
def Bh (op:Int):Bool:=decide (1≤op∧op≤14)&&!decide (op=12)&&!decide (op=13)
theorem Hq {op:Int}(hK:K (.c (.bool (Bh op))) H):Qs prog Eu [.c (.int .i64 op)] H K:=by
 refine Qc Ab Qbpa ?_;refine Wb ?_;refine AS ?_;simp only[go_sem,Oj];refine Zb ?_;have:∀a b c:Bool,(bif bif a then b else false then c else false)=(a&&b&&c):=ZK
 rw[this];exact hK
def B2 (rg:Int)(l:List Int):Bool:=l.all fun x=>decide (0≤x∧x≤rg-1)
theorem Qbjs {rg:Int}{l:List Int}{i:Nat}(hi:i<l.length):B2 rg (l.take (i+1))=(B2 rg (l.take i)&&decide (0≤l.getD i 0∧l.getD i 0≤rg-1)):=by
 have e:l.getD i 0=l[i]:=Za1
 rw[B2,Jj hi,Jad,e];simp[B2]
theorem Qbp4 {rg:Int}{l:List Int}{i:Nat}(hi:i<l.length)(h:decide (0≤l.getD i 0∧l.getD i 0≤rg-1)=false):B2 rg l=false:=by
 have e:l.getD i 0=l[i]:=Za1
 cases hc:B2 rg l with
 |false=>rfl
 |true=>
  rw[B2,Jaa]at hc;have:=hc _ (Jc hi);rw[e]at h;rw[h]at this;exact absurd this Zz
theorem K2 {p rg:Int}{bc:C}{fl:Bool}{l:List Int}(hr:-(2^62)≤rg)(eE:rg≤2^62)(hK:K (.c (.bool (B2 rg l))) H) :
  Qs prog SB [.ag [.int .i64 p,.int .i64 rg,bc],.c (.sl fl 1 (Qb l))] H K:=by
 refine Qc Ab Qbut ?_;have retf:∀(b:Bool) (e:Env),B2 rg l=b→lk 4 e=.c (.bool b)→Q6 Fo K .ret e H:=by
  intro b e h1 h3;simp only[go_sem,Q6,Aa,Ja,forall_eq,RS.op,h3];rw[←h1];exact hK
 refine Wf ?_;refine Qh (Qd (Qw (fun n e1 H1=>∃(i:Nat),n=l.length-i∧i≤l.length∧H1=H∧B2 rg (l.take i)=true∧e1=[(1,.c (.sl fl 1 (Qb l))),(2,.c (.pp [.int .i64 p,.int .i64 rg,bc])),(5,.c (.int .i64 i))]) l.length ?_ ?_))
 ·exact⟨0,Zx,Zx,rfl,rfl,rfl⟩
 ·rintro n e1 H1 ⟨i,dk,hi,rfl,cq,rfl⟩;refine Q1 (Qa ?_);simp only[go_sem,Qf];intro hl;simp only[LIM]at hl;refine Wu ?_ ?_
  ·intro hc;have ae:i<l.length:=ZA
   refine Wd ?_;refine Aj ?_;simp only[go_sem,ae,Qf,Qn _ _ ae];refine⟨Qr,?_⟩;refine AS ?_;simp only[go_sem,Mm];refine Wv ?_ ?_
   ·intro aC;refine Wp ?_;exact retf false _ (Qbp4 ae (B4 aC)) Zy
   ·intro aC;refine Wl ?_;exact⟨Qr,l.length-(i+1),Zx,i+1,rfl,Zx,by rw[Qbjs ae,cq,AD aC];rfl,rfl⟩
  ·intro hc;have bd:l.length≤i:=ZA
   rw[Jd bd]at cq;refine Wc ?_;refine Ql ?_;exact retf true _ cq Zy
def rgOf (cs:List CodeD)(k:Nat):Int:=(cs[k]?.map CodeD.ab).getD 0
def pmOf (cs:List CodeD)(k:Nat):Int:=(cs[k]?.map CodeD.params).getD 0
theorem CK {cs:List CodeD}{k:Nat}(h:k<cs.length):rgOf cs k=cs[k].ab:=by simp[rgOf,h]
theorem Hb {cs:List CodeD}{k:Nat}(h:k<cs.length):pmOf cs k=cs[k].params:=by simp[pmOf,h]
def insH (rg:Int)(x:InsD):Bool:=decide (1≤x.op∧x.op≤14)&&B2 rg x.args
def insT (rg:Int)(x:InsD):Bool:=if Bh x.op then decide (0≤x.to∧x.to≤rg-1)else decide (x.to=-1)
def insL (cs:List CodeD)(k:Nat)(x:InsD):Bool:=
 if x.op=14 then decide (0≤x.n∧x.n≤(k:Int)-1)&&decide ((x.args.length:Int)=pmOf cs x.n.toNat)
 else decide ((x.args.length:Int)=AL x.op)&&decide (0≤x.n∧x.n≤255)&&(decide (x.n=0) || decide (x.op=1))
def AC (cs:List CodeD)(k:Nat)(x:InsD):Bool:=insH (rgOf cs k) x&&insT (rgOf cs k) x&&insL cs k x
set_option maxHeartbeats 1000000 in
theorem VS {cs:List CodeD}{fl:Bool}{k:Nat}{x:InsD}(hk:k<cs.length)(hr:0≤cs[k].ab)(eE:cs[k].ab≤300)(cm:cs.length≤100)(hK:∀(H':Heap),Upd H H' []→K (.c (.bool (AC cs k x))) H') :
  Qs prog F0 [.ag [.sl fl 3 (Qk cs)],.c (.int .i64 k),.ag x.cells] H K:=by
 refine Qx ?_;refine Qc Ab VI ?_;refine Zu ?_;refine Qa ?_;simp only[go_sem,hk,Q0,Bc _ _ hk,CodeD.cells];intro x7 bC H1 h1;have kn:=(Kn.aq H).al bC h1;have jI:=kn.l 0 rfl;simp only[go_sem,KY,jI];intro H2 h2;have kn:=kn.aB 0 rfl h2;have fj:=kn.l 0 rfl;have gM:=CK hk;have retf:∀(b:Bool) (e:Env),AC cs k x=b→lk 6 e=.c (.bool b)→Q6 CL (unK H K) .ret e H2:=by
  intro b e h1 h3;simp only[go_sem,Q6,Aa,Ja,forall_eq,RS.op,h3];rw[←h1];exact⟨_,.c _ _ (Qg rfl),hK _ kn.fin⟩
 refine Wa ?_;refine AS ?_;simp only[go_sem,KX,fj];have rest:∀(E1:Env) (b:Bool),insH cs[k].ab x=(!b)→lk 1 E1=.c (.int .i64 k)→lk 3 E1=.c (.pp [.sl fl 3 (Qk cs)])→lk 5 E1=.c (.pp [.int .i64 x.op,.int .i64 x.to,.sl false 1 (Qb x.args),.int .i64 x.n])→lk 7 E1=.c (.ptr x7 0)→lk 23 E1=.c (.bool b)→
   Ac prog (s_l7Ins_3.seq KZ) (Q6 CL (unK H K)) E1 H2:=by
  intro E1 b hb l1 l3 l5 l7 l23;refine Qh (Qe l23 ?_ ?_)
  ·intro hc;refine We ?_;exact retf false _ (by rw[AC,gM,hb,hc];rfl) Zy
  intro hc;rw[hc]at hb;refine Ze ?_;refine Q1 (Aj ?_);simp only[go_sem,l5,l7,fj];refine⟨Qr,?_⟩;refine Hq ?_;simp only[go_sem,KV,fj];refine AS ?_;simp only[go_sem,KW,l5];have rest2:∀(E1:Env) (b:Bool),insT cs[k].ab x=(!b)→lk 1 E1=.c (.int .i64 k)→lk 3 E1=.c (.pp [.sl fl 3 (Qk cs)])→lk 5 E1=.c (.pp [.int .i64 x.op,.int .i64 x.to,.sl false 1 (Qb x.args),.int .i64 x.n])→lk 44 E1=.c (.bool b)→
    Ac prog (s_l7Ins_7.seq La) (Q6 CL (unK H K)) E1 H2:=by
   intro E1 b bX l1 l3 l5 l44;refine Qh (Qe l44 ?_ ?_)
   ·intro hc;refine We ?_;exact retf false _ (by rw[AC,gM,bX,hc];simp) Zy
   intro hc;rw[hc]at bX;have hG:AC cs k x=insL cs k x:=by rw[AC,gM,hb,bX];rfl
   refine Ze ?_;refine Q1 (Qa ?_);simp only[go_sem,l1,l3,l5];refine Wu ?_ ?_
   ·intro hc;have bA:x.op=14:=of_decide_eq_true hc;rw[insL,if_pos bA]at hG;refine Zv ?_;refine⟨Qr,?_⟩;refine AS ?_;by_cases dm:0≤x.n∧x.n≤(k:Int)-1
    ·obtain⟨m,hm⟩:=Jo dm.1;have dd:m<cs.length:=Zx;have fU:(0≤(m:Int)∧(m:Int)≤(k:Int)-1)=True:=eq_true (by rw[←hm];exact dm);simp only[go_sem,Rt,hm,dd,Q0,Bc _ _ dd,CodeD.cells,Qf];refine Ql ?_;refine retf _ _ ?_ ZE;rw[hG,hm,Int.toNat_natCast,Hb dd];simp only[fU,decide_true,Bool.true_and];simp[show ((m:Int)≤(k:Int)-1) from by omega]
    ·have fU:decide (0≤x.n∧x.n≤(k:Int)-1)=false:=(by simpa using dm);by_cases hm:x.n.toNat<cs.length
     ·simp only[go_sem,Rt,fU,Bc _ _ hm,CodeD.cells];refine Ql ?_;exact retf false _ (by rw[hG,fU];rfl) Zy
     ·have bG:(Qk cs).getD x.n.toNat []=[]:=by
       rw[Jb,List.getElem?_eq_none (by rw[Q0];omega)];rfl
      simp only[go_sem,Rt,fU,bG,Jai,List.headD_nil];refine Ql ?_;exact retf false _ (by rw[hG,fU];rfl) Zy
   ·intro hc;have bA:¬x.op=14:=of_decide_eq_false hc;rw[insL,if_neg bA]at hG;refine Ze ?_;refine Zv ?_;refine K3 ?_;simp only[go_sem,MG];refine⟨fun hb=>?_,fun hb=>?_⟩
    ·refine AS ?_;simp only[go_sem,Q2m];refine Ql ?_;refine retf _ _ ?_ ZE;have aZ:(x.args.length:Int)=AL x.op:=(by simpa[Qf]using hb);rw[hG];simp[aZ,Qf]
    ·simp only[go_sem,Q2m,hb];refine Ql ?_;refine retf _ _ ?_ ZE;have aZ:¬(x.args.length:Int)=AL x.op:=(by simpa[Qf]using hb);rw[hG];simp[aZ]
  refine⟨fun hb=>?_,fun hb=>?_⟩
  ·refine Hq ?_;simp only[go_sem,Q8s,l1,l3,l5];refine rest2 _ _ ?_ Zy Zy Zy ZE
   cases dd:Bh x.op with
   |true=>simp[insT,dd]
   |false=>by_cases h:x.to=-1 <;> simp[insT,dd,h]
  ·replace hb:=AD hb;simp only[go_sem,Q8s,l1,l3,l5,hb];refine rest2 _ true ?_ Zy Zy Zy Zy
   cases dd:Bh x.op with
   |true=>simp[dd]at hb;simp[insT,dd];omega
   |false=>simp[dd]at hb;simp[insT,dd];omega
 refine⟨fun hb=>?_,fun hb=>?_⟩
 ·refine K2 Zx Zx ?_;simp only[go_sem,Q8r];refine rest _ _ ?_ Zy Zy Zy Zy ZE;simp[insH]
 ·replace hb:=AD hb;simp only[go_sem,Q8r,hb];refine rest _ true ?_ Zy Zy Zy Zy Zy;rw[insH,B4 hb];rfl
theorem InsD.cn (x:InsD):x.cells.take 4=x.cells:=rfl
theorem InsD.bv (x:InsD):(x.cells.all fun c=>!c.ah)=true:=rfl
theorem InsD.len4 (x:InsD):x.cells.length=4:=rfl
theorem XX (l:List BlkD)(i:Nat)(h:i<(Qo l).length):∃a1 a2 a3 a4 fl,(Qo l).getD i []=[a1,a2,a3,a4,.sl fl 1 (Qb ((l.map BlkD.next).getD i []))]:=by
 rw[Qm]at h;rw[Q9 _ _ h];have:(l.map BlkD.next).getD i []=l[i].next:=by simp[Jb,h]
 exact⟨.sl false 2 (Ae l[i].aa),.sl false 4 (Af l[i].ins),.int .i64 l[i].jump,.int .i64 l[i].on,false,by rw[this];rfl⟩
set_option maxHeartbeats 3000000 in
theorem DU {α:Type}{p:α→Bool}{l:List α}{i:Nat}(hi:i<l.length):(l.take (i+1)).all p=((l.take i).all p&&p l[i]):=by
 rw[Jj hi,Jad];simp
theorem DL {α:Type}{p:α→Bool}{l:List α}{i:Nat}(hi:i<l.length)(h:p l[i]=false):l.all p=false:=by
 cases hc:l.all p with
 |false=>rfl
 |true=>rw[Jaa.1 hc _ (Jc hi)]at h;exact absurd h Zz
def Bg (j:Int):Int:=if j=1 then 1 else if j=2 then 2 else if j=3 then 0 else -1
def B5 (rg:Int)(y:BlkD):Bool:=decide ((y.next.length:Int)=Bg y.jump)&&if y.jump=1 then decide (y.on=0)else decide (0≤y.on∧y.on≤rg-1)
def AB (n:Nat)(x:Int):Bool:=decide (1≤x∧x≤(n:Int)-1)
def phiG (rg:Int)(np b:Nat)(x:PhiD):Bool:=!decide (b=0)&&decide ((x.args.length:Int)=np)&&B2 rg x.args&&decide (0≤x.to∧x.to≤rg-1)
def blkG (cs:List CodeD)(k b:Nat)(q:CodeD)(y:BlkD):Bool:=
 B5 q.ab y&&y.next.all (AB (Qo q.blocks).length)&&y.ins.all (AC cs k)&&y.aa.all (phiG q.ab (Am (fun i=>(q.blocks.map BlkD.next).getD i []) (b:Int) (Qo q.blocks).length).length b)
theorem Qbmq {cs:List CodeD}{k b:Nat}{q:CodeD}{y:BlkD}(h:blkG cs k b q y=true):y.next.length≤2:=by
 simp only[blkG,B5,Bool.and_eq_true,decide_eq_true_eq]at h;have:=h.1.1.1.1;rw[Bg]at this;split at this
 ·omega
 ·split at this
  ·omega
  ·split at this <;> omega
set_option maxHeartbeats 1000000 in
theorem Qbog {cs:List CodeD}{fl:Bool}{k b:Nat}(hk:k<cs.length)(nE:b<cs[k].blocks.length)(hr:0≤cs[k].ab)(eE:cs[k].ab≤300)(cm:cs.length≤100)(bB:cs[k].blocks.length≤200)(hK:∀(H':Heap),Upd H H' []→K (.c (.bool (blkG cs k b cs[k] cs[k].blocks[b]))) H') :
  Qs prog Q66 [.ag [.sl fl 3 (Qk cs)],.c (.int .i64 k),.c (.int .i64 b)] H K:=by
 refine Qx ?_;refine Qc Ab Qbo9 ?_;have retf:∀(v:Bool) (e:Env) (H':Heap) (L:List (Nat×Obj)),blkG cs k b cs[k] cs[k].blocks[b]=v→Kn H H' [] L→lk 6 e=.c (.bool v)→Q6 GD (unK H K) .ret e H':=by
  intro v e H' L hb kn h3;simp only[go_sem,Q6,Aa,Ja,forall_eq,RS.op,h3];rw[←hb];exact⟨_,.c _ _ (Qg rfl),hK _ kn.fin⟩
 refine Wg ?_;simp only[go_sem,hk,Q0,Bc _ _ hk,CodeD.cells];intro x7 bC H1 h1;have kn:=(Kn.aq H).al bC h1;have jI:=kn.l 0 rfl;simp only[go_sem,NK,jI];intro H2 h2;have kn:=kn.aB 0 rfl h2;have fj:=kn.l 0 rfl;refine Qa ?_;simp only[go_sem,fj,nE,Qm,Q9 _ _ nE,BlkD.cells];obtain⟨y,hy⟩:∃y,cs[k].blocks[b]=y:=⟨_,rfl⟩;rw[hy];intro x8 aV H3 h3;have kn:=kn.al aV h3;have ui:=kn.l 1 rfl;simp only[go_sem,NJ,ui];intro H4 h4;have kn:Kn H H4 [] [(x7,.st [.int .i64 cs[k].params,.int .i64 cs[k].ab,.sl false 5 (Qo cs[k].blocks)]),(x8,.st [.sl false 2 (Ae y.aa),.sl false 4 (Af y.ins),.int .i64 y.jump,.int .i64 y.on,.sl false 1 (Qb y.next)])]:=kn.aB 1 rfl h4;obtain⟨q,hq⟩:∃q,cs[k]=q:=⟨_,rfl⟩;have hGe:blkG cs k b cs[k] cs[k].blocks[b]=blkG cs k b q y:=by rw[hy,hq]
 rw[hGe]at retf;rw[hq]at kn hr eE nE bB;generalize kq:(Am (fun i=>(q.blocks.map BlkD.next).getD i []) (b:Int) (Qo q.blocks).length).length=np;have jg:blkG cs k b q y=(B5 q.ab y&&y.next.all (AB (Qo q.blocks).length)&&y.ins.all (AC cs k)&&y.aa.all (phiG q.ab np b)):=by rw[blkG,kq]
 refine Za ?_;have lC:=kn.l 0 rfl;have iq:=kn.l 1 rfl;refine Q1 (Qa ?_);simp only[go_sem,iq];have rest31:∀(want:Int) (E1:Env),Bg y.jump=want→(y.jump=1→y.on=0)→lk 1 E1=.c (.int .i64 k)→lk 2 E1=.c (.int .i64 b)→lk 3 E1=.c (.pp [.sl fl 3 (Qk cs)])→lk 7 E1=.c (.ptr x7 0)→lk 8 E1=.c (.ptr x8 0)→lk 9 E1=.c (.int .i64 want)→
   Ac prog NL (Q6 GD (unK H K)) E1 H4:=by
  intro want E1 hw nv l1 l2 l3 l7 l8 l9;refine Q1 (Qa ?_);simp only[go_sem,l7,l8,l9,lC,iq,Qf];intro ce;simp only[LIM]at ce;refine⟨fun _=>Qr,?_⟩;have rest8:∀(b1:Bool) (E1:Env),B5 q.ab y=(!b1)→lk 1 E1=.c (.int .i64 k)→lk 2 E1=.c (.int .i64 b)→lk 3 E1=.c (.pp [.sl fl 3 (Qk cs)])→lk 7 E1=.c (.ptr x7 0)→lk 8 E1=.c (.ptr x8 0)→lk 53 E1=.c (.bool b1)→
    Ac prog (s_l7Block_8.seq NM) (Q6 GD (unK H K)) E1 H4:=by
   intro b1 E1 jr l1 l2 l3 l7 l8 l53;refine Qh (Qe l53 ?_ ?_)
   ·intro hc;refine We ?_;exact retf false _ _ _ (by rw[jg,jr,hc];simp) kn Zy
   intro qw;rw[qw]at jr;refine Ze ?_;refine Q1 (Qa ?_);simp only[go_sem,l1,l2,l3,l7,l8];refine Qh (Qd (Qw (fun n e1 H1=>∃(i:Nat),n=y.next.length-i∧i≤y.next.length∧H1=H4∧(y.next.take i).all (AB (Qo q.blocks).length)=true∧e1=[(1,.c (.int .i64 k)),(2,.c (.int .i64 b)),(3,.c (.pp [.sl fl 3 (Qk cs)])),(7,.c (.ptr x7 0)),(8,.c (.ptr x8 0)),(10,.c (.int .i64 i))]) y.next.length ?_ ?_))
   ·exact⟨0,Zx,Zx,rfl,rfl,rfl⟩
   ·rintro n e1 H1 ⟨i,dk,hi,rfl,kV,rfl⟩;refine Q1 (Qa ?_);simp only[go_sem,iq,Qf];refine fun _=>?_;refine Wu ?_ ?_
    ·intro hc;have ae:i<y.next.length:=ZA;have bG:y.next.getD i 0=y.next[i]:=ZX;have qm:AB (Qo q.blocks).length y.next[i]=decide (1≤y.next.getD i 0∧y.next.getD i 0≤(q.blocks.length:Int)-1):=(by rw[bG,AB,Qm]);refine Wd ?_;refine Aj ?_;simp only[go_sem,iq,lC,ae,Qf,Qn _ _ ae,Qm];refine⟨Qr,?_⟩;refine AS ?_;simp only[go_sem,NI];refine Wv ?_ ?_
     ·intro aC;refine Wp ?_;exact retf false _ _ _ (by rw[jg,DL ae (by rw[qm];exact B4 aC)];simp) kn Zy
     ·intro aC;refine Wl ?_;exact⟨Qr,y.next.length-(i+1),Zx,i+1,rfl,Zx,by rw[DU ae,←Qm q.blocks,kV,qm,AD aC];rfl,rfl⟩
    ·intro hc;have bd:y.next.length≤i:=ZA;rw[Jd bd]at kV;refine Zc ?_;refine Wa ?_;refine Qh (Qd (Qw (fun n e1 H1=>∃(i:Nat),n=y.ins.length-i∧i≤y.ins.length∧Kn H H1 [] [(x7,.st [.int .i64 q.params,.int .i64 q.ab,.sl false 5 (Qo q.blocks)]),(x8,.st [.sl false 2 (Ae y.aa),.sl false 4 (Af y.ins),.int .i64 y.jump,.int .i64 y.on,.sl false 1 (Qb y.next)])]∧(y.ins.take i).all (AC cs k)=true∧
      e1=[(1,.c (.int .i64 k)),(2,.c (.int .i64 b)),(3,.c (.pp [.sl fl 3 (Qk cs)])),(7,.c (.ptr x7 0)),(8,.c (.ptr x8 0)),(11,.c (.int .i64 i))]) y.ins.length ?_ ?_))
     ·exact⟨0,Zx,Zx,kn,rfl,rfl⟩
     ·rintro n e1 H5 ⟨i,dk,hi,kn,fd,rfl⟩;have nS:=kn.l 0 rfl;have qK:=kn.l 1 rfl;refine Q1 (Qa ?_);simp only[go_sem,qK,Ax];intro ck;simp only[LIM]at ck;refine Wu ?_ ?_
      ·intro hc;have ae:i<y.ins.length:=ZA;refine Wd ?_;refine Aj ?_;simp only[go_sem,qK,ae,Ax,B0 _ _ ae,InsD.cn,InsD.bv,InsD.len4];refine VS hk (by rw[hq];omega) (by rw[hq];omega) cm fun H6 hu=>?_;have kn:=kn.aw hu;simp only[go_sem,Q5t];refine Wv ?_ ?_
       ·intro aC;refine Wp ?_;exact retf false _ _ _ (by rw[jg,DL ae (B4 aC)];simp) kn Zy
       ·intro aC;refine Wl ?_;exact⟨Qr,y.ins.length-(i+1),Zx,i+1,rfl,Zx,kn,by rw[DU ae,fd,AD aC];rfl,rfl⟩
      ·intro hc;have bd:y.ins.length≤i:=ZA;rw[Jd bd]at fd;refine Zc ?_;refine Zi nS ?_;refine Eg (rows:=Qo q.blocks) (nx:=fun i=>(q.blocks.map BlkD.next).getD i []) (.mk' _ _ _ _) rfl (XX q.blocks) fun H6 hu=>?_;have kn:=kn.aw hu;simp only[go_sem,Q5u];refine Wa ?_;obtain⟨ps,i7⟩:∃ps,Am (fun i=>(q.blocks.map BlkD.next).getD i []) (b:Int) (Qo q.blocks).length=ps:=⟨_,rfl⟩;rw[i7];rw[i7]at kq;have nR:=kn.l 0 rfl;have lA:=kn.l 1 rfl;refine Qh (Qd (Qw (fun n e1 H1=>∃(i:Nat),n=y.aa.length-i∧i≤y.aa.length∧H1=H6∧(y.aa.take i).all (phiG q.ab np b)=true∧
        e1=[(2,.c (.int .i64 b)),(7,.c (.ptr x7 0)),(8,.c (.ptr x8 0)),(12,.c (.sl false 1 (Qb ps))),(13,.c (.int .i64 i))]) y.aa.length ?_ ?_))
       ·exact⟨0,Zx,Zx,rfl,rfl,rfl⟩
       ·rintro n e1 H7 ⟨i,dk,hi,rfl,kU,rfl⟩;refine Q1 (Qa ?_);simp only[go_sem,lA,Q7];intro dH;simp only[LIM]at dH;refine Wu ?_ ?_
        ·intro hc;have ae:i<y.aa.length:=ZA;refine Wd ?_;have fin:∀(b3:Bool) (E1:Env),phiG q.ab np b y.aa[i]=(!b3)→lk 2 E1=.c (.int .i64 b)→lk 7 E1=.c (.ptr x7 0)→lk 8 E1=.c (.ptr x8 0)→lk 12 E1=.c (.sl false 1 (Qb ps))→lk 13 E1=.c (.int .i64 i)→lk 135 E1=.c (.bool b3)→
           Ac prog NP (X.inBlock 6 (X.sq prog NO (X.next (fun e2 H2=>∃m,m<n∧∃(i:Nat),m=y.aa.length-i∧i≤y.aa.length∧H2=H7∧(y.aa.take i).all (phiG q.ab np b)=true∧
            e2=[(2,.c (.int .i64 b)),(7,.c (.ptr x7 0)),(8,.c (.ptr x8 0)),(12,.c (.sl false 1 (Qb ps))),(13,.c (.int .i64 i))]) (X.inBlock 5 (X.sq prog NN (Q6 GD (unK H K))))))) E1 H7:=by
          intro b3 E1 eG l2 l7 l8 l12 l13 l135;refine Qe l135 ?_ ?_
          ·intro aC;refine Wp ?_;exact retf false _ _ _ (by rw[jg,DL ae (by rw[eG,aC];rfl)];simp) kn Zy
          ·intro aC;refine Ze ?_;refine Qp ?_;simp only[go_sem,X.next,l2,l7,l8,l12,l13];exact⟨Qr,y.aa.length-(i+1),Zx,i+1,rfl,Zx,by rw[DU ae,kU,eG,aC];rfl,rfl⟩
         refine Aj ?_;simp only[go_sem,lA,nR,ae,Q7,BL _ _ ae,PhiD.cells,Qf];refine⟨fun bj=>?_,fun bj=>?_⟩
         ·refine K2 Zx Zx ?_;simp only[go_sem,Tq,lA,nR,ae,Q7,BL _ _ ae,PhiD.cells];refine⟨fun _=>Qr,?_⟩;refine⟨fun bX=>?_,fun bX=>?_⟩
          ·refine AS ?_;simp only[go_sem,RZ];refine fin _ _ ?_ Zy Zy Zy Zy Zy ZE;simp[phiG,←kq]
          ·replace bX:=AD bX;simp only[go_sem,RZ,bX];refine fin true _ ?_ Zy Zy Zy Zy Zy Zy;subst kq;simp at bX;simp[phiG];intro h1 h2 h3;simp[h1,h2,h3]at bX
         ·replace bj:=AD bj;simp only[go_sem,Tq,RZ,bj,lA,nR,ae,Q7,BL _ _ ae,PhiD.cells];refine fin true _ ?_ Zy Zy Zy Zy Zy Zy;subst kq;simp at bj;simp[phiG];intro h1 h2 h3;simp[h1,h2]at bj
        ·intro hc;have bd:y.aa.length≤i:=ZA;rw[Jd bd]at kU;refine Wc ?_;refine Ql ?_;exact retf true _ _ _ (by rw[jg,jr,kV,fd,kU];rfl) kn Zy
  refine⟨fun bj=>?_,fun bj=>?_⟩
  ·refine AS ?_;simp only[go_sem,RJ,bj,l1,l2,l3,l7,l8];refine rest8 _ _ ?_ Zy Zy Zy Zy Zy ZE;by_cases ky:(y.next.length:Int)=want
   ·by_cases hj:y.jump=1
    ·simp[ky,hj]at bj
    ·simp[B5,hw,ky,hj]
   ·simp[ky]at bj
  ·by_cases ky:(y.next.length:Int)=want
   ·by_cases hj:y.jump=1
    ·simp only[go_sem,RJ,ky,hj,l1,l2,l3,l7,l8,decide_true,cond_false];have fy:Bg 1=want:=(by rw[←hj];exact hw);refine rest8 _ _ ?_ Zy Zy Zy Zy Zy ZE;simp[B5,fy,ky,hj,nv hj]
    ·simp[ky,hj]at bj
   ·simp only[go_sem,RJ,ky,l1,l2,l3,l7,l8,decide_false,cond_true];by_cases hj:y.jump=1
    ·simp only[go_sem,hj,decide_true];exact rest8 true _ (by simp[B5,hw,ky]) Zy Zy Zy Zy Zy Zy
    ·simp only[go_sem,hj,decide_false];exact rest8 true _ (by simp[B5,hw,ky]) Zy Zy Zy Zy Zy Zy
 refine Wi ?_;refine Wv ?_ ?_
 ·intro hc;refine Zi iq ?_;refine Wv ?_ ?_
  ·intro aC;refine We ?_;exact retf false _ _ _ (by simp at hc aC;rw[jg];simp[B5,hc,aC]) kn Zy
  ·intro aC;refine Ze ?_;exact rest31 1 _ ZW (fun _=>ZC) Zy Zy Zy Zy Zy Zy
 intro bF;refine Za ?_;refine Wv ?_ ?_
 ·intro hc;refine Zh ?_;exact rest31 2 _ ZW (fun h=>by simp at bF;exact absurd h bF) Zy Zy Zy Zy Zy Zy
 intro aC;refine Za ?_;refine Wv ?_ ?_
 ·intro hc;refine Zh ?_;exact rest31 0 _ ZW (fun h=>by simp at bF;exact absurd h bF) Zy Zy Zy Zy Zy Zy
 ·intro hc;refine We ?_;exact retf false _ _ _ (by simp at bF aC hc;rw[jg];simp[B5,Bg,bF,aC,hc]) kn Zy
set_option maxHeartbeats 3000000 in
theorem Q3d {b:BlkD}(hb:b.sg)(hK:∀(o:OBlk) (H':Heap),Kn H H' [] o.lg→o.ok→o.d=b→(∀p∈o.aa,p.own)→K (.ag o.row) H'):Qs prog Sm [.ag b.cells] H K:=by
 have dt:=hb.n;have cf:=hb.i;have qu:=hb.p;refine De ?_;refine Qc Ab Qau5 ?_;refine Qa ?_;simp only[go_sem,BlkD.cells];intro x2 aI H1 h1;have kn:=(Kn.aq H).al aI h1;refine Aj ?_;simp only[go_sem,Qf,Jq,Jg];refine⟨.inl trivial,Qq _,by simp only[LIM];omega,fun y hy H2 h2=>?_⟩;have kn:=kn.al hy h2;simp only[go_sem,Qqe];intro x3 aP H3 h3;have kn:=kn.al aP h3;have uz:=kn.l 2 rfl;simp only[go_sem,Qqd,uz];intro H4 h4;have kn:=kn.aB 2 rfl h4;obtain⟨nx,eW⟩:∃nx:OInts,nx=⟨b.next,y⟩:=⟨_,rfl⟩;have tz:C.af y 1 0 b.next.length=nx.c:=by rw[eW];rfl
 have ce:[(y,Obj.vec 1 (Qb b.next))]=nx.lg:=by rw[eW];rfl
 rw[tz]at kn;have kn:Kn H H4 [] ([(x2,.st [.sl true 2 [],.sl true 4 [],.int .i64 0,.int .i64 0,.sl true 1 []]),(x3,.st [.sl true 2 [],.sl true 4 [],.int .i64 b.jump,.int .i64 b.on,nx.c])]++nx.lg):=kn.perm (by
  rw[←ce];exact .cons _ (.swap _ _ _))
 refine Wa ?_;refine Qh (Qd (Qw (fun n e1 H1=>∃(i:Nat) (ps:List OPhi) (pc:C) (pl:List (Nat×Obj)),n=b.aa.length-i∧i≤b.aa.length∧ps.map OPhi.d=b.aa.take i∧(∀p∈ps,p.own)∧Gr pl 2 (ps.map OPhi.row) pc∧
  Kn H H1 [] (([(x2,.st [.sl true 2 [],.sl true 4 [],.int .i64 0,.int .i64 0,.sl true 1 []]),(x3,.st [pc,.sl true 4 [],.int .i64 b.jump,.int .i64 b.on,nx.c])]++(nx.lg++ps.flatMap OPhi.lg))++pl)∧
  e1=[(1,.c (.pp [.sl false 2 (Ae b.aa),.sl false 4 (Af b.ins),.int .i64 b.jump,.int .i64 b.on,.sl false 1 (Qb b.next)])),(2,.c (.ptr x2 0)),(3,.c (.ptr x3 0)),(4,.c (.int .i64 i))]) b.aa.length ?_ ?_))
 ·exact⟨0,[],_,[],Zx,Zx,rfl,Zz,.nil 2,ZH,rfl⟩
 ·rintro n e1 H1 ⟨i,ps,pc,pl,dk,hi,oK,kf,ao,kn,rfl⟩;have vo:ps.length=i:=by have:=congrArg List.length oK;rw[Je,J3]at this;omega
  have dU:=ao.ah;refine Q1 (Qa ?_);simp only[go_sem,Q7];intro hl;refine Wu ?_ ?_
  ·intro hc;have ae:i<b.aa.length:=ZA
   have vy:=hb.pa _ (Jc ae);have eK:=kn.l 1 rfl;refine Wn ?_;simp only[go_sem,eK,dU,ae,Q7,BL _ _ ae,PhiD.cells,Qf,Jq,Jg];refine⟨.inl trivial,Qq _,by simp only[LIM];omega,fun a ha H5 h5=>?_⟩;have kn:=kn.al ha h5;have ir:=kn.l 1 rfl;simp only[go_sem,Qqg,ir,dU,ae,Q7,BL _ _ ae,PhiD.cells];obtain⟨o,ho⟩:∃o:OPhi,o=⟨b.aa[i].to,b.aa[i].args,.af a 1 0 b.aa[i].args.length,[(a,.vec 1 (Qb b.aa[i].args))]⟩:=⟨_,rfl⟩;have lR:o.own:=by rw[ho];exact⟨a,rfl,rfl⟩
   have jq:o.ok:=.inl lR;have jp:[C.int IntKind.i64 b.aa[i].to,C.af a 1 0 b.aa[i].args.length]=o.row:=Zal
   have em:[(a,Obj.vec 1 (Qb b.aa[i].args))]=o.lg:=by rw[ho]
   rw[jp];rw[em]at kn;have kn:=kn.perm Cs;refine kn.grow (new:=[o.row]) ao (.mk' _ _ _ _) (by intro r hr;simp only[Ja]at hr;subst hr;exact o.ak jq) ZJ fun z H6 kn=>?_;have kn:Kn H H6 [] (([(x2,.st [.sl true 2 [],.sl true 4 [],.int .i64 0,.int .i64 0,.sl true 1 []]),(x3,.st [pc,.sl true 4 [],.int .i64 b.jump,.int .i64 b.on,nx.c])]++(nx.lg++(ps++[o]).flatMap OPhi.lg))++[(z,.vec 2 ((ps++[o]).map OPhi.row))]):=by
    simpa[Js,Jl]using kn
   have nX:=kn.l 1 rfl;simp only[go_sem,Qqf,nX];intro H7 h7;have kn:=kn.aB 1 rfl h7;refine Zf ?_;simp only[LIM]at hl;refine⟨Qr,b.aa.length-(i+1),Zx,i+1,ps++[o],_,_,rfl,Zx,by rw[Jv,oK,Jj ae,ho];rfl,fun p hp=>?_,?_,kn,rfl⟩
   ·rcases Jm.1 hp with h|h
    ·exact kf p h
    ·simp only[Ja]at h;subst h;exact lR
   ·exact .mk _ _ _ Zz
  ·intro hc;have rp:ps.map OPhi.d=b.aa:=by rw[oK,Jd ZA]
   refine Zc ?_;refine Wa ?_;refine Qh (Qd (Qw (fun n e1 H1=>∃(i:Nat) (is:List OIns) (ic:C) (il:List (Nat×Obj)),n=b.ins.length-i∧i≤b.ins.length∧is.map OIns.d=b.ins.take i∧(∀x∈is,x.a.ns.length≤1000000)∧Gr il 4 (is.map OIns.row) ic∧
    Kn H H1 [] (([(x2,.st [.sl true 2 [],.sl true 4 [],.int .i64 0,.int .i64 0,.sl true 1 []]),(x3,.st [pc,ic,.int .i64 b.jump,.int .i64 b.on,nx.c])]++(nx.lg++(ps.flatMap OPhi.lg++(pl++is.flatMap OIns.lg))))++il)∧
    e1=[(1,.c (.pp [.sl false 2 (Ae b.aa),.sl false 4 (Af b.ins),.int .i64 b.jump,.int .i64 b.on,.sl false 1 (Qb b.next)])),(2,.c (.ptr x2 0)),(3,.c (.ptr x3 0)),(5,.c (.int .i64 i))]) b.ins.length ?_ ?_))
   ·exact⟨0,[],_,[],Zx,Zx,rfl,Zz,.nil 4,by simpa[Jl]using kn,rfl⟩
   ·rintro n e1 H1 ⟨i,is,ic,il,dk,hi,pg,ww,dK,kn,rfl⟩;have hisl:is.length=i:=(by have:=congrArg List.length pg;rw[Je,J3]at this;omega);have cZ:=dK.ah;refine Q1 (Qa ?_);simp only[go_sem,Ax];intro hl;refine Wu ?_ ?_
    ·intro hc;have ae:i<b.ins.length:=ZA;have hia:=hb.ia _ (Jc ae);refine Wo ?_;simp only[go_sem,ae,Ax,B0 _ _ ae,InsD.cells];intro x6 aY H5 h5;have kn:=kn.al aY h5;have kn:=kn.perm (Ji (l₁:=_) (l₂:=[(x6,_)]));have jN:=kn.l 0 rfl;simp only[go_sem,Qqh,jN];intro H6 h6;have kn:=kn.aB 0 rfl h6;have jM:=kn.l 0 rfl;have nX:=kn.l 2 rfl;refine Au ?_;simp only[go_sem,jM,nX,cZ,Qf,Jq,Jg];refine⟨.inl trivial,Qq _,by simp only[LIM];omega,fun a ha H7 h7=>?_⟩;have kn:=kn.al ha h7;have jk:=kn.l 0 rfl;have uy:=kn.l 2 rfl;simp only[go_sem,Qqj,jk,uy,cZ];obtain⟨o,ho⟩:∃o:OIns,o=⟨b.ins[i].op,b.ins[i].to,⟨b.ins[i].args,a⟩,b.ins[i].n⟩:=⟨_,rfl⟩;have jp:[C.int IntKind.i64 b.ins[i].op,C.int IntKind.i64 b.ins[i].to,C.af a 1 0 b.ins[i].args.length,C.int IntKind.i64 b.ins[i].n]=o.row:=Zal;have em:[(a,Obj.vec 1 (Qb b.ins[i].args))]=o.lg:=Zal;rw[jp];rw[em]at kn;have kn:Kn H H7 [] ((([(x2,.st [.sl true 2 [],.sl true 4 [],.int .i64 0,.int .i64 0,.sl true 1 []]),(x3,.st [pc,ic,.int .i64 b.jump,.int .i64 b.on,nx.c])]++(nx.lg++(ps.flatMap OPhi.lg++(pl++is.flatMap OIns.lg))))++il)++o.lg):=by
      have kn:=kn.perm (Ji (l₁:=[(x6,_)]) (l₂:=_));exact kn.drop
     have kn:=kn.perm Cs;refine kn.grow (new:=[o.row]) dK (.mk' _ _ _ _) (by simp[o.ak]) ZJ fun z H8 kn=>?_;have kn:Kn H H8 [] (([(x2,.st [.sl true 2 [],.sl true 4 [],.int .i64 0,.int .i64 0,.sl true 1 []]),(x3,.st [pc,ic,.int .i64 b.jump,.int .i64 b.on,nx.c])]++(nx.lg++(ps.flatMap OPhi.lg++(pl++(is++[o]).flatMap OIns.lg))))++[(z,.vec 4 ((is++[o]).map OIns.row))]):=by
      simpa[Js,Jl]using kn
     have ux:=kn.l 1 rfl;simp only[go_sem,Qqi,ux];intro H9 h9;have kn:=kn.aB 1 rfl h9;refine Zf ?_;simp only[LIM]at hl;refine⟨Qr,b.ins.length-(i+1),Zx,i+1,is++[o],_,_,rfl,Zx,by rw[Jv,pg,Jj ae,ho];rfl,fun x hx=>?_,?_,kn,rfl⟩
     ·rcases Jm.1 hx with hx|hx
      ·exact ww x hx
      ·simp only[Ja]at hx;rw[hx,ho];exact hia
     ·exact .mk _ _ _ Zz
    ·intro hc;have rS:is.map OIns.d=b.ins:=(by rw[pg,Jd (by simpa using hc)]);have iv:=kn.l 0 rfl;have eK:=kn.l 1 rfl;refine Zc ?_;have oT:nx.c.ah=false:=rfl;refine Qa ?_;simp only[go_sem,iv,eK,dU,cZ,oT];intro H5 h5;have kn:=kn.aB 0 rfl h5;have u5:=kn.l 0 rfl;refine Ql ?_;simp only[go_sem,Q6,Aa,Ja,forall_eq,RS.op,u5,dU,cZ,oT];obtain⟨o,ho⟩:∃o:OBlk,o=⟨ps,pc,pl,is,ic,il,b.jump,b.on,nx⟩:=⟨_,rfl⟩;have au:o.ok:=(by rw[ho];exact⟨ao,dK,fun p hp=>.inl (kf p hp)⟩);have eN:o.d=b:=by
      rw[ho];show BlkD.mk (ps.map OPhi.d) (is.map OIns.d) b.jump b.on nx.ns=b;rw[rp,rS,eW]
     have kn:Kn H H5 [] ([(x2,.st [pc,ic,.int .i64 b.jump,.int .i64 b.on,nx.c]),(x3,.st [pc,ic,.int .i64 b.jump,.int .i64 b.on,nx.c])]++o.lg):=by
      rw[ho];simpa[OBlk.lg,Jl]using kn
     refine⟨unx H o.lg,.ag o.row,H5.frz (unx H o.lg),?_,C7 _ _,hK o _ kn.finK au eN (by rw[ho];exact kf)⟩;rw[ho];exact FrzL.ag (.cons (.same _ dU) (.cons (.same _ cZ) (.cons (Qg rfl) (.cons (Qg rfl) (.cons (.same _ oT) .nil)))))
theorem BlkD.take5 (x:BlkD):x.cells.take 5=x.cells:=rfl
theorem BlkD.bv (x:BlkD):(x.cells.all fun c=>!c.ah)=true:=rfl
theorem BlkD.len5 (x:BlkD):x.cells.length=5:=rfl
theorem CodeD.take3 (x:CodeD):x.cells.take 3=x.cells:=rfl
theorem CodeD.bv (x:CodeD):(x.cells.all fun c=>!c.ah)=true:=rfl
theorem CodeD.len3 (x:CodeD):x.cells.length=3:=rfl
theorem OBlk.len5 (x:OBlk):x.row.length=5:=rfl
theorem OCode.len3 (x:OCode):x.row.length=3:=rfl
set_option maxHeartbeats 2000000 in
theorem DQ {q:CodeD}(hq:q.sg)(hK:∀(o:OCode) (H':Heap),Kn H H' [] o.lg→o.ok→o.d=q→(∀b∈o.blocks,∀p∈b.aa,p.own)→K (.ag o.row) H'):Qs prog Eo [.ag q.cells] H K:=by
 have tr:=hq.b;refine De ?_;refine Qc Ab Qbus ?_;refine Qa ?_;simp only[go_sem,CodeD.cells];intro x2 aI H1 h1;have kn:=(Kn.aq H).al aI h1;refine Za ?_;intro x3 aP H2 h2;have kn:=kn.al aP h2;have iu:=kn.l 1 rfl;simp only[go_sem,MJ,iu];intro H3 h3;have kn:=kn.aB 1 rfl h3;refine Wa ?_;refine Qh (Qd (Qw (fun n e1 H1=>∃(i:Nat) (os:List OBlk) (bc:C) (bl:List (Nat×Obj)),n=q.blocks.length-i∧i≤q.blocks.length∧os.map OBlk.d=q.blocks.take i∧(∀o∈os,o.ok∧∀p∈o.aa,p.own)∧Gr bl 5 (os.map OBlk.row) bc∧
  Kn H H1 [] (([(x2,.st [.int .i64 0,.int .i64 0,.sl true 5 []]),(x3,.st [.int .i64 q.params,.int .i64 q.ab,bc])]++os.flatMap OBlk.lg)++bl)∧
  e1=[(1,.c (.pp [.int .i64 q.params,.int .i64 q.ab,.sl false 5 (Qo q.blocks)])),(2,.c (.ptr x2 0)),(3,.c (.ptr x3 0)),(4,.c (.int .i64 i))]) q.blocks.length ?_ ?_))
 ·exact⟨0,[],_,[],Zx,Zx,rfl,Zz,.nil 5,ZH,rfl⟩
 ·rintro n e1 H1 ⟨i,os,bc,bl,dk,hi,eN,au,ao,kn,rfl⟩;have em:os.length=i:=by have:=congrArg List.length eN;rw[Je,J3]at this;omega
  have cQ:=ao.ah;have eK:=kn.l 1 rfl;refine Q1 (Qa ?_);simp only[go_sem,Qm];intro hl;simp only[LIM]at hl;refine Wu ?_ ?_
  ·intro hc;have ae:i<q.blocks.length:=ZA
   refine Wn ?_;simp only[go_sem,eK,cQ,ae,Qm,Q9 _ _ ae,BlkD.take5,BlkD.bv,BlkD.len5];refine Q3d (hq.bs _ (Jc ae)) fun o H4 k2 f0 pL lR=>?_;have kn:=kn.comp0 k2;have jQ:=kn.l 1 rfl;simp only[go_sem,MH,jQ,cQ,o.len5];have kn:=kn.perm Cs;refine kn.grow (new:=[o.row]) ao (.mk' _ _ _ _) (by intro r hr;simp only[Ja]at hr;subst hr;exact o.ak f0) ZJ fun z H5 kn=>?_;have kn:Kn H H5 [] (([(x2,.st [.int .i64 0,.int .i64 0,.sl true 5 []]),(x3,.st [.int .i64 q.params,.int .i64 q.ab,bc])]++(os++[o]).flatMap OBlk.lg)++[(z,.vec 5 ((os++[o]).map OBlk.row))]):=by
    simpa[Js,Jl]using kn
   have ir:=kn.l 1 rfl;simp only[go_sem,MI,ir];intro H6 h6;have kn:=kn.aB 1 rfl h6;refine Zf ?_;refine⟨Qr,q.blocks.length-(i+1),Zx,i+1,os++[o],_,_,rfl,Zx,by rw[Jv,eN,Jj ae,Jah,Jaj,pL],fun o' eQ=>?_,.mk _ _ _ Zz,kn,rfl⟩;rcases Jm.1 eQ with h|h
   ·exact au o' h
   ·simp at h;subst h;exact⟨f0,lR⟩
  ·intro hc;have bd:q.blocks.length≤i:=ZA
   have iv:=kn.l 0 rfl;refine Zc ?_;refine Zp eK iv cQ ?_;intro H4 h4;have kn:=kn.aB 0 rfl h4;have jR:=kn.l 0 rfl;refine Zn jR cQ ?_;obtain⟨o,ho⟩:∃o:OCode,o=⟨q.params,q.ab,os,bc,bl⟩:=⟨_,rfl⟩;have eN:o.d=q:=by
    rw[ho];show CodeD.mk q.params q.ab (os.map OBlk.d)=q;rw[eN,Jd bd]
   have v6:∀b∈o.blocks,∀p∈b.aa,p.own:=by rw[ho];exact fun b hb=>(au b hb).2
   have au:o.ok:=by rw[ho];exact⟨ao,fun b hb=>(au b hb).1⟩
   have kn:Kn H H4 [] ([(x2,.st [.int .i64 q.params,.int .i64 q.ab,bc]),(x3,.st [.int .i64 q.params,.int .i64 q.ab,bc])]++o.lg):=by
    rw[ho];simpa[OCode.lg,Jl]using kn
   refine⟨unx H o.lg,.ag o.row,H4.frz (unx H o.lg),?_,C7 _ _,hK o _ kn.finK au eN v6⟩;rw[ho];exact FrzL.ag (.cons (Qg rfl) (.cons (Qg rfl) (.cons (.same _ cQ) .nil)))
theorem Qbt9 {q:CodeD}(hq:q.sm)(hK:∀(o:OCode) (H':Heap),Kn H H' [] o.lg→o.ok→o.d=q→o.sm 1000→K (.ag o.row) H'):Qs prog Eo [.ag q.cells] H K:=
 DQ hq.sg fun o H' k1 k2 k3 _=>hK o H' k1 k2 k3 (by rw[←k3]at hq;exact hq.o)
set_option maxHeartbeats 2000000 in
theorem Qaz1 {cs:List CodeD}{fl:Bool}(hs:∀c∈cs,c.sm)(hl:cs.length≤1000000)
  (hK:∀(us:List OCode) (cc:C) (cl:List (Nat×Obj)) (H':Heap),Kn H H' [] (us.flatMap OCode.lg++cl)→Gr cl 3 (us.map OCode.row) cc→(∀u∈us,u.ok∧u.sm 1000)→us.length=cs.length→K (.ag [cc]) H') :
  Qs prog Ti [.ag [.sl fl 3 (Qk cs)]] H K:=by
 refine De ?_;refine Qc Ab Qa0h ?_;refine Za ?_;intro x2 aI H1 h1;have kn:=(Kn.aq H).al aI h1;refine Za ?_;intro x3 aP H2 h2;have kn:=kn.al aP h2;have iu:=kn.l 1 rfl;simp only[go_sem,Qwj,iu];intro H3 h3;have kn:=kn.aB 1 rfl h3;refine Wa ?_;refine Qh (Qd (Qw (fun n e1 H1=>∃(i:Nat) (os:List OCode) (bc:C) (bl:List (Nat×Obj)),n=cs.length-i∧i≤cs.length∧os.length=i∧(∀o∈os,o.ok∧o.sm 1000)∧Gr bl 3 (os.map OCode.row) bc∧
  Kn H H1 [] (([(x2,.st [.sl true 3 []]),(x3,.st [bc])]++os.flatMap OCode.lg)++bl)∧
  e1=[(1,.c (.pp [.sl fl 3 (Qk cs)])),(2,.c (.ptr x2 0)),(3,.c (.ptr x3 0)),(4,.c (.int .i64 i))]) cs.length ?_ ?_))
 ·exact⟨0,[],_,[],Zx,Zx,rfl,Zz,.nil 3,ZH,rfl⟩
 ·rintro n e1 H1 ⟨i,os,bc,bl,dk,hi,em,au,ao,kn,rfl⟩;have cQ:=ao.ah;have eK:=kn.l 1 rfl;refine Q1 (Qa ?_);simp only[go_sem,Q0];intro _;refine Wu ?_ ?_
  ·intro hc;have ae:i<cs.length:=ZA
   refine Wn ?_;simp only[go_sem,eK,cQ,ae,Q0,Bc _ _ ae,CodeD.take3,CodeD.bv,CodeD.len3];refine Qbt9 (hs _ (Jc ae)) fun o H4 k2 f0 _ bn=>?_;have kn:=kn.comp0 k2;have jQ:=kn.l 1 rfl;simp only[go_sem,Qwl,jQ,cQ,o.len3];have kn:=kn.perm Cs;refine kn.grow (new:=[o.row]) ao (.mk' _ _ _ _) (by intro r hr;simp only[Ja]at hr;subst hr;exact o.ak f0) ZJ fun z H5 kn=>?_;have kn:Kn H H5 [] (([(x2,.st [.sl true 3 []]),(x3,.st [bc])]++(os++[o]).flatMap OCode.lg)++[(z,.vec 3 ((os++[o]).map OCode.row))]):=by
    simpa[Js,Jl]using kn
   have ir:=kn.l 1 rfl;simp only[go_sem,Qwk,ir];intro H6 h6;have kn:=kn.aB 1 rfl h6;refine Zf ?_;refine⟨Qr,cs.length-(i+1),Zx,i+1,os++[o],_,_,rfl,Zx,by simp[em],fun o' eQ=>?_,.mk _ _ _ Zz,kn,rfl⟩;rcases Jm.1 eQ with h|h
   ·exact au o' h
   ·simp at h;subst h;exact⟨f0,bn⟩
  ·intro hc;have bd:cs.length≤i:=ZA
   have iv:=kn.l 0 rfl;refine Zc ?_;refine Zp eK iv cQ ?_;intro H4 h4;have kn:=kn.aB 0 rfl h4;have jR:=kn.l 0 rfl;refine Zn jR cQ ?_;have kn:Kn H H4 [] ([(x2,.st [bc]),(x3,.st [bc])]++(os.flatMap OCode.lg++bl)):=by
    simpa[Jl]using kn
   exact⟨unx H _,.ag [bc],H4.frz (unx H _),FrzL.ag (.cons (.same _ cQ) .nil),C7 _ _,hK os bc bl _ kn.finK ao au Zx⟩
structure CRd (H:Heap)(R:Rdr)(cc:C)(rows:List (List C)):Prop where
 s:Slc H 3 rows cc
 ow:cc.ah=false
 ne:∀l a c d,cc=.af l a c d→l≠R.l
 r:∀i,i<rows.length→∃(p:Int) (c1 c2:C),rows.getD i []=[.int .i64 p,c1,c2]∧0≤p∧p≤3
theorem CRd.keep {R:Rdr}{cc:C}{rows:List (List C)}{o:Obj}{H':Heap}{L:List (Nat×Obj)}(h:CRd H R cc rows)(kn:Kn H H' [(R.l,o)] L):CRd H' R cc rows:=
 ⟨h.s.keep kn (fun l a c d hh=>by simpa using h.ne l a c d hh),h.ow,h.ne,h.r⟩
theorem EP {R:Rdr}{k b n:Nat}(hH:H R.l=R.o k)(hk:k+2≤2^40)(hb:b≤1000)(hn:n≤1000)
  (hK:∀(v:Int) (H':Heap) (k':Nat),k<k'→k'≤k+2→Upd H H' [(R.l,R.o k')]→K (.c (.int .i64 v)) H') :
  Qs prog CT [.c (.ptr R.l 0),.c (.int .i64 b),.c (.int .i64 n)] H K:=by
 refine Qx ?_;refine Qc Ab Qb1z ?_;have kn:=Kn.start1 hH (R.aj k);refine Wf ?_;refine⟨Qr,?_⟩;have rest:∀(v:Bool) (H2:Heap) (k2:Nat),k≤k2→k2≤k+1→Kn H H2 [(R.l,R.o k2)] []→
   Ac prog (s_l7To_2.seq IM) (Q6 D5 (unK H K)) [(0,.c (.ptr R.l 0)),(1,.c (.int .i64 b)),(2,.c (.int .i64 n)),(15,.c (.bool v))] H2:=by
  intro v H2 k2 fT fA kn;have pv:∀m v:Int,m≤1000→(if m<1 then v=0 else 0≤v∧v<m)→0≤v∧v≤1000:=by
   intro m v hm hv;split at hv <;> omega
  refine Wu ?_ ?_
  ·intro hc;refine Za ?_;refine⟨Qr,Qr,Qr,?_⟩;refine A5 (kn.e 0 rfl) Zx fun v H3 hv hu=>?_;have kn:=kn.an 0 rfl hu (R.aj _);have hv:=pv _ _ Zx hv;simp only[go_sem,PO];refine⟨Qr,?_⟩;refine Zb ?_;exact⟨_,.c _ _ (Qg rfl),hK _ _ (k2+1) Zx Zx kn.fin⟩
  ·intro hc;refine Ze ?_;refine Za ?_;refine⟨Qr,?_⟩;refine A5 (kn.e 0 rfl) Zx fun v H3 hv hu=>?_;have kn:=kn.an 0 rfl hu (R.aj _);have hv:=pv _ _ Zx hv;simp only[go_sem,PN];refine⟨Qr,?_⟩;refine Zb ?_;exact⟨_,.c _ _ (Qg rfl),hK _ _ (k2+1) Zx Zx kn.fin⟩
 refine⟨fun bj=>?_,fun bj=>?_⟩
 ·refine A5 (kn.e 0 rfl) Zx fun v H3 hv hu=>?_;have kn:=kn.an 0 rfl hu (R.aj _);simp only[go_sem,F9,bj];exact rest _ _ (k+1) Zx Zx kn
 ·simp only[go_sem,F9,bj];exact rest _ _ k Zx Zx kn
set_option maxHeartbeats 2000000 in
theorem Qbua {R:Rdr}{k:Nat}{cc:C}{rows:List (List C)}{ab:Int}(hH:H R.l=R.o k)(hk:k+9≤2^40)(hc:CRd H R cc rows)
  (hK:∀(x:InsD) (H':Heap) (k':Nat),k<k'→k'≤k+9→Upd H H' [(R.l,R.o k')]→x.args.length≤3→K (.ag x.cells) H') :
  Qs prog Gd [.c (.ptr R.l 0),.ag [cc],.c (.int .i64 ab)] H K:=by
 refine Qx ?_;refine Qc Ab Qbuu ?_;have b8:=hc.ow;have am:=hc.s.len;have gU:=hc.s.sz;refine Za ?_;intro x6 aY H1 h1;have kn:=(Kn.start1 hH (R.aj k)).al aY h1;refine Za ?_;refine Bf (ns:=[1,1,2,3,4,5,8,9,10,13,3,6,7,11,12,14]) (kn.e 0 rfl) Zx Zz fun op H2 bA hu=>?_;have kn:=kn.an 0 rfl hu (R.aj _);simp only[go_sem,Mi];refine Za ?_;refine A5 (kn.e 0 rfl) Zx fun to H3 iO hu=>?_;have kn:=kn.an 0 rfl hu (R.aj _);simp only[go_sem,Mg,Mh];intro x8 aV H4 h4;have kn:=kn.al aV h4;have iq:=kn.l 1 rfl;simp only[go_sem,iq];intro H5 h5;have kn:=kn.aB 1 rfl h5;refine Za ?_;refine Qbof fun many qo eo=>?_;simp only[go_sem,Mf];have args:∀(many:Int) (to n:Int) (H6:Heap) (k6:Nat),many≤3→k<k6→k6≤k+4→Kn H H6 [(R.l,R.o k6)] [(x6,.st [.int .i64 0,.int .i64 0,.sl true 1 [],.int .i64 0]),(x8,.st [.int .i64 op,.int .i64 to,.sl true 1 [],.int .i64 n])]→
   Ac prog Ml (Q6 G6 (unK H K)) [(0,.c (.ptr R.l 0)),(2,.c (.int .i64 ab)),(6,.c (.ptr x6 0)),(8,.c (.ptr x8 0)),(9,.c (.int .i64 many))] H6:=by
  intro many to n H6 k6 kw fT fA kn;refine Wa ?_;refine Qh (Qd (Qw (fun m e1 H1=>∃(i:Nat) (ns:List Int) (ac:C) (al:List (Nat×Obj)),m=3-i∧i≤3∧ns.length=i∧Gr al 1 (Qb ns) ac∧
   Kn H H1 [(R.l,R.o (k6+i))] ([(x6,.st [.int .i64 0,.int .i64 0,.sl true 1 [],.int .i64 0]),(x8,.st [.int .i64 op,.int .i64 to,ac,.int .i64 n])]++al)∧
   e1=[(0,.c (.ptr R.l 0)),(2,.c (.int .i64 ab)),(6,.c (.ptr x6 0)),(8,.c (.ptr x8 0)),(9,.c (.int .i64 many)),(10,.c (.int .i64 i))]) 3 ?_ ?_))
  ·exact⟨0,[],_,[],Zx,Zx,rfl,.nil 1,ZH,rfl⟩
  ·rintro m e1 H7 ⟨i,ns,ac,al,hm,hi,cP,ao,kn,rfl⟩;have eJ:=ao.ah;have aV:=kn.l 1 rfl;refine Wa ?_;refine Wu ?_ ?_
   ·intro hc;have ae:(i:Int)<many:=ZA;refine Wd ?_;refine Au ?_;simp only[go_sem,aV,eJ];refine A5 (kn.e 0 rfl) Zx fun v H8 hv hu=>?_;have kn:=kn.an 0 rfl hu (R.aj _);have aV:=kn.l 1 rfl;simp only[go_sem,Oe,aV,eJ];refine kn.grow (new:=Qb [v]) ao (.mk' _ _ _ _) (Qq _) Zas fun y H9 kn=>?_;have aV:=kn.l 1 rfl;simp only[go_sem,Of,aV];intro H10 cS;have kn:=kn.aB 1 rfl cS;refine Zf ?_;refine⟨Qr,3-(i+1),Zx,i+1,ns++[v],_,_,rfl,Zx,by simp[cP],?_,kn,rfl⟩;rw[←Cb];exact .mk _ _ _ (by simp[Cb,Qf])
   ·intro hc;refine Zc ?_;have aY:=kn.l 0 rfl;refine Zp aV aY eJ ?_;intro H8 h8;have kn:Kn H H8 [(R.l,R.o (k6+i))] ([(x6,.st [.int .i64 op,.int .i64 to,ac,.int .i64 n]),(x8,.st [.int .i64 op,.int .i64 to,ac,.int .i64 n])]++al):=kn.aB 0 rfl h8;have aY:=kn.l 0 rfl;refine Zn aY eJ ?_;exact⟨.ag (InsD.mk op to ns n).cells,FrzL.ag (.cons (Qg rfl) (.cons (Qg rfl) (.cons (ao.frz kn (Qq _)) (.cons (Qg rfl) .nil)))),hK ⟨op,to,ns,n⟩ _ (k6+i) Zx Zx kn.fin (by show ns.length≤3;omega)⟩
 have rest:∀(many n:Int) (H6:Heap) (k6:Nat) (E1:Env),lk 0 E1=.c (.ptr R.l 0)→lk 2 E1=.c (.int .i64 ab)→lk 6 E1=.c (.ptr x6 0)→lk 7 E1=.c (.int .i64 op)→lk 8 E1=.c (.ptr x8 0)→lk 9 E1=.c (.int .i64 many)→many≤3→k<k6→k6≤k+3→Kn H H6 [(R.l,R.o k6)] [(x6,.st [.int .i64 0,.int .i64 0,.sl true 1 [],.int .i64 0]),(x8,.st [.int .i64 op,.int .i64 to,.sl true 1 [],.int .i64 n])]→
   Ac prog Mj (Q6 G6 (unK H K)) E1 H6:=by
  intro many n H6 k6 E1 l0 l2 l6 l7 l8 l9 kw fT fA kn;have rest2:∀(n:Int) (H6:Heap) (k6:Nat) (E1:Env),lk 0 E1=.c (.ptr R.l 0)→lk 2 E1=.c (.int .i64 ab)→lk 6 E1=.c (.ptr x6 0)→lk 7 E1=.c (.int .i64 op)→lk 8 E1=.c (.ptr x8 0)→lk 9 E1=.c (.int .i64 many)→k<k6→k6≤k+4→Kn H H6 [(R.l,R.o k6)] [(x6,.st [.int .i64 0,.int .i64 0,.sl true 1 [],.int .i64 0]),(x8,.st [.int .i64 op,.int .i64 to,.sl true 1 [],.int .i64 n])]→
    Ac prog Mk (Q6 G6 (unK H K)) E1 H6:=by
   intro n H6 k6 E1 l0 l2 l6 l7 l8 l9 fT fA kn;refine Wa ?_;simp only[l7,true_and];refine Hq ?_;simp only[go_sem,Og,l0,l2,l6,l8,l9];refine Wu ?_ ?_
   ·intro hc;have aV:=kn.l 1 rfl;refine Zq aV ?_;intro H7 h7;have kn:=kn.aB 1 rfl h7;exact args many (-1) n H7 k6 kw fT fA kn
   ·intro hc;refine Ze ?_;exact args many to n H6 k6 kw fT fA kn
  refine Q1 (Qa ?_);simp only[go_sem,l0,l2,l6,l7,l8,l9];refine Wu ?_ ?_
  ·intro hc;refine Zh ?_;refine Bf (ns:=[0,1,2,3,15,16,255]) (kn.e 0 rfl) Zx Zz fun n2 H7 jr hu=>?_;have kn:=kn.an 0 rfl hu (R.aj _);have aV:=kn.l 1 rfl;simp only[go_sem,Oh,aV];intro H8 h8;have kn:=kn.aB 1 rfl h8;exact rest2 n2 H8 (k6+1) _ Zy Zy Zy Zy Zy Zy Zx Zx kn
  ·intro hc;refine Ze ?_;exact rest2 n H6 k6 _ Zy Zy Zy Zy Zy Zy Zx Zx kn
 refine Wa ?_;refine Wu ?_ ?_
 ·intro nf;have pH:=hc.keep kn;have iB:=eq_true pH.s.ok;refine Q1 (Qa ?_);simp only[go_sem,b8,am,iB];intro hl;refine Wu ?_ ?_
  ·intro h0;refine Za ?_;refine A5 (kn.e 0 rfl) Zx fun v H6 hv hu=>?_;have kn:=kn.an 0 rfl hu (R.aj _);have aY:=kn.l 0 rfl;simp only[go_sem,Me,aY];intro H7 h7;have kn:=kn.aB 0 rfl h7;have aY:=kn.l 0 rfl;refine Zg aY ?_;exact⟨.ag (InsD.mk 13 (-1) [v] 0).cells,FrzL.ag (.cons (Qg rfl) (.cons (Qg rfl) (.cons (FrzR.same (Qq [v])).sl (.cons (Qg rfl) .nil)))),hK ⟨13,-1,[v],0⟩ _ (k+3) Zx Zx kn.fin Zz⟩
  ·intro h0;have kh:0<rows.length:=by
    have:¬rows.length=0:=(by simpa using h0);omega
   refine Ze ?_;refine Zp b8 am iB ?_;intro _;refine A5 (kn.e 0 rfl) Zx fun v H6 hv hu=>?_;have kn:=kn.an 0 rfl hu (R.aj _);rw[if_neg Zx]at hv;obtain⟨i,rfl⟩:=Jo hv.1;have hi:i<rows.length:=Zx
   obtain⟨p,c1,c2,aK,jA,hp3⟩:=hc.r i hi;have aV:=kn.l 1 rfl;simp only[go_sem,Md,aV];intro H7 h7;have kn:=kn.aB 1 rfl h7;have aV:=kn.l 1 rfl;have yW:=hc.keep kn;have v8:=eq_true yW.s.ok;have uV:=yW.s.rows;refine Qp ?_;simp only[go_sem,b8,am,v8,uV,gU,aV,hi,aK];exact rest p i H7 (k+3) _ Zy Zy Zy Zy Zy Zy Zx Zx Zx kn
 ·intro nf;refine Ze ?_;exact rest many 0 H5 (k+2) _ Zy Zy Zy Zy Zy Zy Zx Zx Zx kn
theorem Xe {α:Type}{a M b c:List α}:(a++(M++b)++c).Perm (((M++c)++b)++a):=by
 refine Ji.trans ?_;refine (List.Perm.append_left _ (Ji (l₁:=a))).trans ?_;rw[←Jl];refine .append_right _ ?_;rw[←Jl];exact .append_right _ Ji
def EnvA (R:Rdr)(cc:C)(x4 x5 x8 n b:Nat)(e:Env):Prop:=
 lk 0 e=.c (.ptr R.l 0)∧lk 3 e=.c (.pp [cc])∧lk 4 e=.c (.ptr x4 0)∧lk 5 e=.c (.ptr x5 0)∧lk 6 e=.c (.int .i64 n)∧lk 7 e=.c (.int .i64 b)∧lk 8 e=.c (.ptr x8 0)
set_option maxHeartbeats 4000000 in
theorem Qbt8 {R:Rdr}{k:Nat}{cc:C}{rows:List (List C)}(hH:H R.l=R.o k)(hk:k+1000≤2^40)(hc:CRd H R cc rows)
  (hK:∀(o:UCode) (H':Heap) (k':Nat),k<k'→k'≤k+1000→Kn H H' [(R.l,R.o k')] o.lg→o.ok→o.sm 0→K (.ag o.row) H') :
  Qs prog Ge [.c (.ptr R.l 0),.ag [cc]] H K:=by
 refine De ?_;refine Qc Ab Qbur ?_;have b8:=hc.ow;refine Za ?_;intro x4 br H1 h1;have kn:=(Kn.start1 hH (R.aj k)).al br h1;refine Za ?_;refine Bf (ns:=[1,0,2,3]) (kn.e 0 rfl) Zx Zz fun p H2 hp hu=>?_;have kn:=kn.an 0 rfl hu (R.aj _);have hp:0≤p∧p≤3:=by simp at hp;omega
 simp only[go_sem,Mu];intro x5 bf H3 h3;have kn:=kn.al bf h3;have dR:=kn.l 1 rfl;simp only[go_sem,Mv,dR];intro H4 h4;have kn:=kn.aB 1 rfl h4;have fk:=kn.l 1 rfl;refine Aj ?_;simp only[go_sem,fk];refine⟨Qr,?_⟩;refine A5 (kn.e 0 rfl) Zx fun q H5 hq hu=>?_;have kn:=kn.an 0 rfl hu (R.aj _);have lD:=kn.l 1 rfl;rw[if_neg Zx]at hq;simp only[go_sem,Mt,lD];refine⟨Qr,?_⟩;intro H6 h6;have kn:=kn.aB 1 rfl h6;obtain⟨rg,gM⟩:∃rg,p+2+q=rg:=⟨_,rfl⟩;rw[gM]at kn;refine Za ?_;refine Bf (ns:=[3,5,2,1,7,4]) (kn.e 0 rfl) Zx Zz fun n0 H7 cC hu=>?_;have kn:=kn.an 0 rfl hu (R.aj _);simp only[go_sem,Ms];obtain⟨n,rfl,dk,hn7⟩:∃n:Nat,n0=n∧1≤n∧n≤7:=⟨n0.toNat,by simp at cC;omega⟩;refine Wa ?_;refine Qh (Qd (Qw (fun m e1 H1=>∃(b k1:Nat) (bs:List UBlk) (bc:C) (bl:List (Nat×Obj)),m=n-b∧b≤n∧bs.length=b∧k<k1∧k1≤k+3+50 * b∧(∀o∈bs,o.ok∧o.sm 0)∧Gr bl 5 (bs.map UBlk.row) bc∧
  Kn H H1 [(R.l,R.o k1)] (([(x4,.st [.int .i64 0,.int .i64 0,.sl true 5 []]),(x5,.st [.int .i64 p,.int .i64 rg,bc])]++bs.flatMap UBlk.lg)++bl)∧
  e1=[(0,.c (.ptr R.l 0)),(3,.c (.pp [cc])),(4,.c (.ptr x4 0)),(5,.c (.ptr x5 0)),(6,.c (.int .i64 n)),(7,.c (.int .i64 b))]) n ?_ ?_))
 ·exact⟨0,k+1+1+1,[],_,[],Zx,Zx,rfl,Zx,Zx,Zz,.nil 5,ZH,rfl⟩
 ·rintro m e1 H8 ⟨b,k1,bs,bc,bl,hm,hb,jy,fT,fA,au,ao,kn,rfl⟩;have cQ:=ao.ah;refine Wa ?_;refine Wu ?_ ?_
  ·intro bF;have ae:b<n:=Zap
   refine Wd ?_;refine Za ?_;intro x8 aV H9 h9;have kn:=kn.al aV h9;have kn:=kn.perm Ji;have ug:=kn.l 0 rfl;simp only[go_sem,Mr,ug];intro H10 cS;have kn:=kn.aB 0 rfl cS;refine Wa ?_;refine Bf (ns:=[1,2,0,3,4]) (kn.e 0 rfl) Zx Zz fun i0 H11 mh hu=>?_;have kn:=kn.an 0 rfl hu (R.aj _);simp only[go_sem,MM];obtain⟨i,rfl,hi4⟩:∃i:Nat,i0=i∧i≤4:=⟨i0.toNat,by simp at mh;omega⟩;refine Qh (Qd (Qw (fun m e1 H1=>∃(t k2:Nat) (ds:List InsD) (ic:C) (il:List (Nat×Obj)),m=t∧t+ds.length=i∧k1<k2∧k2≤k1+1+9 * ds.length∧(∀d∈ds,d.args.length≤3)∧Gr il 4 (Af ds) ic∧
    Kn H H1 [(R.l,R.o k2)] (([(x8,.st [.sl true 2 [],ic,.int .i64 0,.int .i64 0,.sl true 1 []])]++(([(x4,.st [.int .i64 0,.int .i64 0,.sl true 5 []]),(x5,.st [.int .i64 p,.int .i64 rg,bc])]++bs.flatMap UBlk.lg)++bl))++il)∧
    e1=[(0,.c (.ptr R.l 0)),(3,.c (.pp [cc])),(4,.c (.ptr x4 0)),(5,.c (.ptr x5 0)),(6,.c (.int .i64 n)),(7,.c (.int .i64 b)),(8,.c (.ptr x8 0)),(9,.c (.int .i64 t))]) i ?_ ?_))
   ·refine⟨i,k1+1,[],_,[],rfl,rfl,Zx,Zz,Zz,.nil 4,ZH,rfl⟩
   ·rintro m2 e1 H12 ⟨t,k2,ds,ic,il,eo,ht,gu,f9,iH,dK,kn,rfl⟩;have cZ:=dK.ah;have aV:=kn.l 0 rfl;have bf:=kn.l 2 rfl;refine Wa ?_;refine Wu ?_ ?_
    ·intro aC;have tk:0<t:=ZC;refine Wd ?_;refine Au ?_;simp only[go_sem,aV,bf,cZ,b8];refine Qbua (kn.e 0 rfl) Zx (hc.keep kn) fun d H13 k3 wn yG hu hd=>?_;have kn:=kn.an 0 rfl hu (R.aj _);have aV:=kn.l 0 rfl;simp only[go_sem,MK,aV,cZ,InsD.len4];refine kn.grow (new:=[d.cells]) dK (.mk' _ _ _ _) (by intro r hr;simp only[Ja]at hr;subst hr;rfl) (by simp only[Ax,LIM,Jk,Jn];omega) fun y H14 kn=>?_;have aV:=kn.l 0 rfl;simp only[go_sem,ML,aV];intro H15 xR;have kn:=kn.aB 0 rfl xR;refine Zf ?_;refine⟨Qr,t-1,Zx,t-1,k3,ds++[d],_,_,rfl,by simp;omega,Zx,by simp;omega,fun d' fh=>?_,?_,kn,?_⟩
     ·rcases Jm.1 fh with h|h
      ·exact iH _ h
      ·simp only[Ja]at h;subst h;exact hd
     ·rw[Qbiz];exact .mk _ _ _ (by simp[Ax])
     ·have:(t:Int)-1=((t-1:Nat):Int):=Zx;rw[this]
    ·intro aC;have tk:t=0:=(by have:¬0<t:=(by simpa using aC);omega);refine Zc ?_;refine Zi bf ?_;refine A5 (kn.e 0 rfl) Zx fun on H13 v7 hu=>?_;have kn:=kn.an 0 rfl hu (R.aj _);have aV:=kn.l 0 rfl;simp only[go_sem,NH,aV];intro H14 dG;have kn:=kn.aB 0 rfl dG;refine Za ?_;refine Bf (ns:=[2,1,2,1,3]) (kn.e 0 rfl) Zx Zz fun jump H15 yI hu=>?_;have kn:=kn.an 0 rfl hu (R.aj _);have aV:=kn.l 0 rfl;simp only[go_sem,NG,aV];intro H16 ip;have kn:=kn.aB 0 rfl ip;refine A4 (fun e2 H2=>∃(k2:Nat) (jump:Int),k1<k2∧k2≤k1+40∧Kn H H2 [(R.l,R.o k2)] (([(x8,.st [.sl true 2 [],ic,.int .i64 jump,.int .i64 on,.sl true 1 []])]++(([(x4,.st [.int .i64 0,.int .i64 0,.sl true 5 []]),(x5,.st [.int .i64 p,.int .i64 rg,bc])]++bs.flatMap UBlk.lg)++bl))++il)∧EnvA R cc x4 x5 x8 n b e2) ?_ ?_
     ·intro Q hn _ _;have rest:∀(v:Bool) (H2:Heap) (k2:Nat),k1<k2→k2≤k1+40→Kn H H2 [(R.l,R.o k2)] (([(x8,.st [.sl true 2 [],ic,.int .i64 jump,.int .i64 on,.sl true 1 []])]++(([(x4,.st [.int .i64 0,.int .i64 0,.sl true 5 []]),(x5,.st [.int .i64 p,.int .i64 rg,bc])]++bs.flatMap UBlk.lg)++bl))++il)→
        Ac prog Mw Q [(0,.c (.ptr R.l 0)),(3,.c (.pp [cc])),(4,.c (.ptr x4 0)),(5,.c (.ptr x5 0)),(6,.c (.int .i64 n)),(7,.c (.int .i64 b)),(8,.c (.ptr x8 0)),(68,.c (.bool v))] H2:=by
       intro v H2 k2 fT fA kn;refine Wv ?_ ?_
       ·intro hc;have aV:=kn.l 0 rfl;refine Zq aV ?_;intro H3 h3;have kn:=kn.aB 0 rfl h3;exact hn _ _ ⟨k2,3,fT,fA,kn,rfl,rfl,rfl,rfl,rfl,rfl,rfl⟩
       ·intro hc;refine Qi ?_;exact hn _ _ ⟨k2,jump,fT,fA,kn,rfl,rfl,rfl,rfl,rfl,rfl,rfl⟩
      refine Za ?_;refine⟨fun _=>Qr,?_⟩;refine⟨fun bj=>?_,fun bj=>?_⟩
      ·refine A5 (kn.e 0 rfl) Zx fun v H17 hv hu=>?_;have kn:=kn.an 0 rfl hu (R.aj _);simp only[go_sem,RI,bj];exact rest _ _ _ Zx Zx kn
      ·by_cases h1:(n:Int)=1
       ·have hd:=decide_eq_true h1;have dF:decide ((b:Int)=n-1)=true:=decide_eq_true Zx;simp only[go_sem,RI,hd,dF,Bool.not_true];exact rest true _ _ Zx Zx kn
       ·have h2:¬(b:Int)=n-1:=(by simpa[h1]using bj);simp only[go_sem,RI,h1,h2,decide_false,Bool.not_false,cond_false];exact rest false _ _ Zx Zx kn
     rintro e2 H17 ⟨k3,jump,wn,yG,kn,l0,l3,l4,l5,l6,l7,l8⟩;refine A4 (fun e2 H2=>∃(k2:Nat) (jump on:Int) (nfl:Bool) (next:List Int),next.length≤2∧k1<k2∧k2≤k1+50∧Kn H H2 [(R.l,R.o k2)] (([(x8,.st [.sl true 2 [],ic,.int .i64 jump,.int .i64 on,.sl nfl 1 (Qb next)])]++(([(x4,.st [.int .i64 0,.int .i64 0,.sl true 5 []]),(x5,.st [.int .i64 p,.int .i64 rg,bc])]++bs.flatMap UBlk.lg)++bl))++il)∧EnvA R cc x4 x5 x8 n b e2) ?_ ?_
     ·intro Q hn _ _;have aV:=kn.l 0 rfl;refine Qa ?_;simp only[go_sem,aV,l0,l3,l4,l5,l6,l7,l8];refine Ws ?_;refine Wv ?_ ?_
      ·intro hc;refine Zi aV ?_;intro H18 sW;have kn:=kn.aB 0 rfl sW;refine Zh ?_;refine EP (kn.e 0 rfl) Zx Zx Zx fun v1 H19 k4 yF yE hu=>?_;have kn:=kn.an 0 rfl hu (R.aj _);have aV:=kn.l 0 rfl;simp only[go_sem,NF,aV];intro H20 qB;have kn:=kn.aB 0 rfl qB;exact hn _ _ ⟨k4,jump,0,true,[v1],Zz,Zx,Zx,kn,rfl,rfl,rfl,rfl,rfl,rfl,rfl⟩
      ·intro hc;refine Za ?_;refine Wv ?_ ?_
       ·intro hc;refine Zh ?_;refine EP (kn.e 0 rfl) Zx Zx Zx fun v1 H19 k4 yF yE hu=>?_;have kn:=kn.an 0 rfl hu (R.aj _);simp only[go_sem,ND];refine EP (kn.e 0 rfl) Zx Zx Zx fun v2 H20 k5 hk9 hk10 hu=>?_;have kn:=kn.an 0 rfl hu (R.aj _);have aV:=kn.l 0 rfl;simp only[go_sem,NE,aV];intro H21 h21;have kn:=kn.aB 0 rfl h21;exact hn _ _ ⟨k5,jump,on,true,[v1,v2],Zz,Zx,Zx,kn,rfl,rfl,rfl,rfl,rfl,rfl,rfl⟩
       ·intro hc;refine Qi ?_;exact hn _ _ ⟨k3,jump,on,true,[],Zz,Zx,Zx,kn,rfl,rfl,rfl,rfl,rfl,rfl,rfl⟩
     rintro e3 H18 ⟨k4,jump,on,nfl,next,eW,yF,yE,kn,l0,l3,l4,l5,l6,l7,l8⟩;have aV:=kn.l 0 rfl;have bf:=kn.l 2 rfl;refine Qp ?_;simp only[go_sem,aV,bf,l5,l8,cZ,cQ];obtain⟨o,ho⟩:∃o:UBlk,o=⟨[],.sl true 2 [],[],ds,ic,il,jump,on,nfl,next⟩:=⟨_,rfl⟩;have jp:[C.sl true 2 [],ic,C.int IntKind.i64 jump,C.int IntKind.i64 on,C.sl nfl 1 (Qb next)]=o.row:=Zal;have em:o.lg=il:=(by rw[ho];simp[UBlk.lg]);have jq:o.ok:=(by rw[ho];exact⟨.nil 2,dK,Zz⟩);have oN:o.sm 0:=(by rw[ho];exact⟨eW,by show ds.length≤_;omega,Zz,fun d hd=>by have:=iH d hd;omega,Zz⟩);rw[jp];have kn:=(kn.perm Xe).drop;refine kn.grow (new:=[o.row]) ao (.mk' _ _ _ _) (by intro r hr;simp only[Ja]at hr;subst hr;exact o.ak jq) ZJ fun z H19 kn=>?_;have kn:Kn H H19 [(R.l,R.o k4)] (([(x4,.st [.int .i64 0,.int .i64 0,.sl true 5 []]),(x5,.st [.int .i64 p,.int .i64 rg,bc])]++(bs++[o]).flatMap UBlk.lg)++[(z,.vec 5 ((bs++[o]).map UBlk.row))]):=by
      simpa[Js,Jl,em]using kn
     have bf:=kn.l 1 rfl;simp only[go_sem,NB,bf,l0,l3,l4,l5,l6,l7];intro H20 qB;have kn:=kn.aB 1 rfl qB;refine Zf ?_;refine⟨Qr,n-(b+1),Zx,b+1,k4,bs++[o],_,_,rfl,Zx,by simp[jy],Zx,Zx,fun o' eQ=>?_,.mk _ _ _ Zz,kn,rfl⟩;rcases Jm.1 eQ with h|h
     ·exact au o' h
     ·simp only[Ja]at h;subst h;exact⟨jq,oN⟩
  ·intro bF;have dt:b=n:=by have:¬b<n:=Zap;omega
   have br:=kn.l 0 rfl;have bf:=kn.l 1 rfl;refine Zc ?_;refine Zp bf br cQ ?_;intro H9 h9;have kn:=kn.aB 0 rfl h9;have br:=kn.l 0 rfl;refine Zn br cQ ?_;obtain⟨o,ho⟩:∃o:UCode,o=⟨p,rg,bs,bc,bl⟩:=⟨_,rfl⟩;have jq:o.ok:=by rw[ho];exact⟨ao,fun b hb=>(au b hb).1,hp.1,hp.2⟩
   have oN:o.sm 0:=by rw[ho];exact⟨by show 0<bs.length;omega,by show bs.length≤_;omega,fun b hb=>(au b hb).2⟩
   have kn:Kn H H9 [(R.l,R.o k1)] ([(x4,.st [.int .i64 p,.int .i64 rg,bc]),(x5,.st [.int .i64 p,.int .i64 rg,bc])]++o.lg):=by
    rw[ho];simpa[UCode.lg,Jl]using kn
   refine⟨unx H o.lg,.ag o.row,H9.frz (unx H o.lg),?_,C7 _ _,hK o _ k1 fT Zx kn.finK jq oN⟩;rw[ho];exact FrzL.ag (.cons (Qg rfl) (.cons (Qg rfl) (.cons (.same _ cQ) .nil)))
end Go.AE.Y
namespace Go.AE
open Go.AE.Y
open Go.Proofs.Tryz
variable {H:Heap}{K:V→Heap→Prop}
theorem Gr.slc {H0 H:Heap}{E B Lg:List (Nat×Obj)}{sz:Nat}{rows:List (List C)}{c:C}(h:Gr Lg sz rows c)(kn:Kn H0 H E (B++Lg)):Slc H sz rows c:=by
 obtain⟨h1,h2⟩:=h.get kn;exact⟨h1,h.aO,h2,h.ay⟩
theorem Gr.ne {H0 H:Heap}{E B Lg:List (Nat×Obj)}{sz:Nat}{rows:List (List C)}{c:C}{r:Nat}{o:Obj}(h:Gr Lg sz rows c)(kn:Kn H0 H E (B++Lg))(hr:(r,o)∈E):∀l a d n,c=.af l a d n→l≠r:=by
 intro l a d n hc hh;rcases h with ⟨h1,_⟩|⟨y,h1,h2⟩
 ·rw[h1]at hc;simp at hc
 ·rw[h1]at hc;have hy:y=l:=by injection hc
  have:=kn.loc (y,.vec sz rows) ZZ;exact kn.ext (r,o) hr (by rw[←hh,←hy];exact this)
theorem Gr.slcM {H0 H:Heap}{E L Lg:List (Nat×Obj)}{sz:Nat}{rows:List (List C)}{c:C}(h:Gr Lg sz rows c)(kn:Kn H0 H E L)(hm:∀p∈Lg,p∈L):Slc H sz rows c:=by
 rcases h with ⟨h1,h2,h3⟩|⟨y,h1,h2⟩
 ·rw[h1,h2];exact .mk' _ _ _ _
 ·have hy:H y=.vec sz rows:=(kn.get (y,.vec sz rows) (Jh _ (hm _ ZZ))).1;rw[h1];exact⟨by simp[Go.AE.bh,hy],rfl,by simp[Go.AE.rowsOf,hy],rfl⟩
end Go.AE
namespace Go.AE.Y
open Go.Proofs.Tryz
variable {H:Heap}{K:V→Heap→Prop}
theorem Qb1d {H0 H:Heap}{B cl:List (Nat×Obj)}{R:Rdr}{o:Obj}{us:List UCode}{cc:C}(hg:Gr cl 3 (us.map UCode.row) cc)(kn:Kn H0 H [(R.l,o)] (B++cl))(hu:∀u∈us,u.ok):CRd H R cc (us.map UCode.row):=by
 refine⟨hg.slc kn,hg.ah,hg.ne kn (o:=o) Zz,fun i hi=>?_⟩;rw[Je]at hi;refine⟨us[i].params,.int .i64 us[i].ab,us[i].bc,by simp[Jb,hi,UCode.row],(hu _ (Jc hi)).p0,(hu _ (Jc hi)).p1⟩
set_option maxHeartbeats 4000000 in
theorem K1 {R:Rdr}{k:Nat}(hH:H R.l=R.o k)(hk:k+10000≤2^40)
  (hK:∀(cs:List CodeD) (H':Heap) (k':Nat),k<k'→k'≤k+10000→Upd H H' [(R.l,R.o k')]→0<cs.length→cs.length≤3→(∀c∈cs,c.sm)→K (.ag [.sl false 3 (Qk cs)]) H') :
  Qs prog SA [.c (.ptr R.l 0)] H K:=by
 refine Qx ?_;refine Qc Ab Qbuv ?_;refine Za ?_;intro x2 aI H1 h1;have kn:=(Kn.start1 hH (R.aj k)).al aI h1;refine Za ?_;intro x3 aP H2 h2;have kn:=kn.al aP h2;have iu:=kn.l 1 rfl;simp only[go_sem,Mc,iu];intro H3 h3;have kn:=kn.aB 1 rfl h3;refine Wa ?_;refine Bf (ns:=[1,2,1,3]) (kn.e 0 rfl) Zx Zz fun i0 H4 mh hu=>?_;have kn:=kn.an 0 rfl hu (R.aj _);simp only[go_sem,Mb];obtain⟨i,rfl,ny,hi3⟩:∃i:Nat,i0=i∧1≤i∧i≤3:=⟨i0.toNat,by simp at mh;omega⟩;refine Qh (Qd (Qw (fun m e1 H1=>∃(t k1:Nat) (us:List UCode) (cc:C) (cl:List (Nat×Obj)),m=t∧t+us.length=i∧k<k1∧k1≤k+1+1000 * us.length∧(∀u∈us,u.ok∧u.sm 0)∧Gr cl 3 (us.map UCode.row) cc∧
  Kn H H1 [(R.l,R.o k1)] (([(x2,.st [.sl true 3 []]),(x3,.st [cc])]++us.flatMap UCode.lg)++cl)∧
  e1=[(0,.c (.ptr R.l 0)),(2,.c (.ptr x2 0)),(3,.c (.ptr x3 0)),(4,.c (.int .i64 t))]) i ?_ ?_))
 ·exact⟨i,k+1,[],_,[],rfl,rfl,Zx,Zz,Zz,.nil 3,ZH,rfl⟩
 ·rintro m e1 H5 ⟨t,k1,us,cc,cl,hm,ht,fT,fA,au,ao,kn,rfl⟩;have bH:=ao.ah;have aP:=kn.l 1 rfl;refine Wa ?_;refine Wu ?_ ?_
  ·intro hc;have tk:0<t:=ZA
   refine Wn ?_;simp only[go_sem,aP,bH];refine Qbt8 (kn.e 0 rfl) Zx (Qb1d ao kn fun u hu=>(au u hu).1) fun o H6 k2 gu f9 kn2 f0 lQ=>?_;have kn:=kn.compE 0 rfl kn2;have aP:=kn.l 1 rfl;simp only[go_sem,LZ,aP,bH,o.len3];have kn:=kn.perm Cs;refine kn.grow (new:=[o.row]) ao (.mk' _ _ _ _) (by intro r hr;simp only[Ja]at hr;subst hr;exact o.ak f0) ZJ fun z H7 kn=>?_;have kn:Kn H H7 [(R.l,R.o k2)] (([(x2,.st [.sl true 3 []]),(x3,.st [cc])]++(us++[o]).flatMap UCode.lg)++[(z,.vec 3 ((us++[o]).map UCode.row))]):=by
    simpa[Js,Jl]using kn
   have aP:=kn.l 1 rfl;simp only[go_sem,Ma,aP];intro H8 h8;have kn:=kn.aB 1 rfl h8;refine Zf ?_;refine⟨Qr,t-1,Zx,t-1,k2,us++[o],_,_,rfl,by simp;omega,Zx,by simp;omega,fun o' eQ=>?_,.mk _ _ _ Zz,kn,?_⟩
   ·rcases Jm.1 eQ with h|h
    ·exact au o' h
    ·simp only[Ja]at h;subst h;exact⟨f0,lQ⟩
   ·have:(t:Int)-1=((t-1:Nat):Int):=Zx;rw[this]
  ·intro hc;have tk:t=0:=by have:¬0<t:=ZA;omega
   refine Zc ?_;refine Wa ?_;refine Bf (ns:=[0,0,1,3]) (kn.e 0 rfl) Zx Zz fun j0 H6 jB hu=>?_;have kn:=kn.an 0 rfl hu (R.aj _);simp only[go_sem,LY];obtain⟨j,rfl,nw⟩:∃j:Nat,j0=j∧j≤3:=⟨j0.toNat,by simp at jB;omega⟩;have cm:0<us.length:=Zx
   have hcl3:us.length≤3:=Zx
   refine Qh (Qd (Qw (fun m e1 H1=>∃(t k2 N:Nat) (us:List UCode),m=t∧t+N=j∧us.length=i∧k<k2∧k2≤k1+1+200 * N∧(∀u∈us,u.ok∧u.sm N)∧Gr cl 3 (us.map UCode.row) cc∧
    Kn H H1 [(R.l,R.o k2)] (([(x2,.st [.sl true 3 []]),(x3,.st [cc])]++us.flatMap UCode.lg)++cl)∧
    e1=[(0,.c (.ptr R.l 0)),(2,.c (.ptr x2 0)),(3,.c (.ptr x3 0)),(5,.c (.int .i64 t))]) j ?_ ?_))
   ·exact⟨j,k1+1,0,us,rfl,rfl,Zx,Zx,Zx,au,ao,kn,rfl⟩
   ·rintro m e1 H7 ⟨t,k2,N,us,hm,ht,te,gu,f9,au,ao,kn,rfl⟩;have aP:=kn.l 1 rfl;refine Wa ?_;refine Wu ?_ ?_
    ·intro hc;have tk:0<t:=ZA;refine Ze ?_;have bZ:∀p∈cl,p∈(([(x2,.st [.sl true 3 []]),(x3,.st [cc])]++us.flatMap UCode.lg)++cl):=fun p hp=>ZaI;refine A4 (fun e2 H2=>∃(k3:Nat) (us:List UCode),us.length=i∧k<k3∧k3≤k2+200∧(∀u∈us,u.ok∧u.sm (N+1))∧Gr cl 3 (us.map UCode.row) cc∧
      Kn H H2 [(R.l,R.o k3)] (([(x2,.st [.sl true 3 []]),(x3,.st [cc])]++us.flatMap UCode.lg)++cl)∧lk 0 e2=.c (.ptr R.l 0)∧lk 2 e2=.c (.ptr x2 0)∧lk 3 e2=.c (.ptr x3 0)∧lk 5 e2=.c (.int .i64 t)) ?_ ?_
     ·intro Q hn _ _;have hs:=ao.slc kn;have aN:=eq_true hs.ok;have am:=hs.len;have bz:=hs.sz;rw[Je]at am;refine Qd (Aj ?_);simp only[go_sem,aP,bH,aN,am];refine A5 (kn.e 0 rfl) Zx fun v H8 hv hu=>?_;have kn:=kn.an 0 rfl hu (R.aj _);rw[if_neg Zx]at hv;obtain⟨ci,rfl⟩:=Jo hv.1;have dg:ci<us.length:=Zx;have aP:=kn.l 1 rfl;have hs:=ao.slc kn;have aN:=eq_true hs.ok;simp only[go_sem,LX,aP,bH,aN,am,bz,dg];obtain⟨u,hu⟩:∃u,us[ci]=u:=⟨_,rfl⟩;obtain⟨dP,dy⟩:=au _ (Jc dg);rw[hu]at dP dy;have aK:(us.map UCode.row).getD ci []=[.int .i64 u.params,.int .i64 u.ab,u.bc]:=(by rw[←hu];simp[Jb,dg,UCode.row]);have oq:=dy.b0;have uI:=dy.b;obtain⟨yb,dv,bB⟩:=UCode.bvec dP oq;have gW:=dP.b.ah;have jd:=dP.b.ay;rw[Je]at jd;have dj:=hs.rows;have ng:∀p∈u.bl,p∈(([(x2,.st [.sl true 3 []]),(x3,.st [cc])]++us.flatMap UCode.lg)++cl):=fun p hp=>by
       have:p∈us.flatMap UCode.lg:=Jac.2 ⟨u,by rw[←hu];exact Jc dg,Jh _ hp⟩;simp[this]
      have b6:=eq_true (dP.b.slcM kn ng).ok;refine Qa ?_;simp only[go_sem,aN,am,bz,dg,dj,aK,gW,jd,b6];intro _;refine A5 (kn.e 0 rfl) Zx fun v H9 hv uJ=>?_;have kn:=kn.an 0 rfl uJ (R.aj _);rw[if_neg Zx]at hv;obtain⟨bi,rfl⟩:=Jo hv.1;have cf:bi<u.blocks.length:=Zx;have aN:=eq_true (ao.slcM kn bZ).ok;have dj:=(ao.slcM kn bZ).rows;simp only[go_sem,LW];refine Qa ?_;simp only[go_sem,aN,am,bz,dg,dj,aK];refine A5 (kn.e 0 rfl) Zx fun to H10 _ iz=>?_;have kn:=kn.an 0 rfl iz (R.aj _);simp only[go_sem,Oc];intro x8 aV H11 dY;have kn:=kn.al aV dY;have kn:=kn.perm Ji;have aV:=kn.l 0 rfl;simp only[go_sem,Od,aV];intro H12 fe;have kn:Kn H H12 [(R.l,R.o (k2+1+1+1))] ([(x8,.st [.int .i64 to,.sl true 1 []])]++(([(x2,.st [.sl true 3 []]),(x3,.st [cc])]++us.flatMap UCode.lg)++cl)):=kn.aB 0 rfl fe;have nk:∀p∈cl,p∈([(x8,Obj.st [.int .i64 to,.sl true 1 []])]++(([(x2,.st [.sl true 3 []]),(x3,.st [cc])]++us.flatMap UCode.lg)++cl)):=fun p hp=>Jh _ (bZ p hp);have aN:=eq_true (ao.slcM kn nk).ok;have dj:=(ao.slcM kn nk).rows;have jy:=dP.b.slcM kn (fun p hp=>Jh _ (ng p hp));refine Q1 (Qa ?_);simp only[go_sem,aN,am,bz,dg,dj,aK,gW];refine Eg (rows:=u.blocks.map UBlk.row) (nx:=fun i=>(u.blocks.map UBlk.next).getD i []) jy gW (fun i hi=>?_) fun H13 uL=>?_
      ·rw[Je]at hi;refine⟨u.blocks[i].pc,u.blocks[i].ic,.int .i64 u.blocks[i].jump,.int .i64 u.blocks[i].on,u.blocks[i].nfl,?_⟩;simp[Jb,hi,UBlk.row]
      have kn:=kn.aw uL;obtain⟨ps,i7⟩:∃ps,Am (fun i=>(u.blocks.map UBlk.next).getD i []) (bi:Int) (u.blocks.map UBlk.row).length=ps:=⟨_,rfl⟩;have vo:ps.length≤160:=by
       have:=El (fun i=>(u.blocks.map UBlk.next).getD i []) (bi:Int) (u.blocks.map UBlk.row).length;rw[i7,Je]at this;omega
      rw[i7];simp only[go_sem,Ob,Qf];intro _;refine Qh (Qd (Qw (fun m e1 H1=>∃(q:Nat) (ns:List Int) (ac:C) (al:List (Nat×Obj)),m=ps.length-q∧q≤ps.length∧ns.length=q∧Gr al 1 (Qb ns) ac∧
       Kn H H1 [(R.l,R.o (k2+1+1+1+q))] (([(x8,.st [.int .i64 to,ac])]++(([(x2,.st [.sl true 3 []]),(x3,.st [cc])]++us.flatMap UCode.lg)++cl))++al)∧
       e1=[(0,.c (.ptr R.l 0)),(2,.c (.ptr x2 0)),(3,.c (.ptr x3 0)),(5,.c (.int .i64 t)),(6,.c (cc.ep 3 ci 0)),(7,.c (.int .i64 bi)),(8,.c (.ptr x8 0)),(59,.c (.int .i64 ps.length)),(60,.c (.int .i64 q))]) ps.length ?_ ?_))
      ·exact⟨0,[],_,[],Zx,Zx,rfl,.nil 1,ZH,rfl⟩
      ·rintro m2 e1 H14 ⟨q,ns,ac,al,eo,hq,cP,wE,kn,rfl⟩;have eJ:=wE.ah;have aV:=kn.l 0 rfl;have nj:∀p∈cl,p∈(([(x8,Obj.st [.int .i64 to,ac])]++(([(x2,.st [.sl true 3 []]),(x3,.st [cc])]++us.flatMap UCode.lg)++cl))++al):=fun p hp=>List.mem_append_left _ (Jh _ (bZ p hp));have aN:=eq_true (ao.slcM kn nj).ok;have dj:=(ao.slcM kn nj).rows;refine Za ?_;refine Wu ?_ ?_
       ·intro hc;have ae:q<ps.length:=ZA;refine Wn ?_;simp only[go_sem,aV,eJ,aN,am,bz,dg,dj,aK];refine A5 (kn.e 0 rfl) Zx fun v H15 _ uK=>?_;have kn:=kn.an 0 rfl uK (R.aj _);have aV:=kn.l 0 rfl;simp only[go_sem,N8,aV,eJ];refine kn.grow (new:=Qb [v]) wE (.mk' _ _ _ _) (Qq _) Zas fun y H16 kn=>?_;have aV:=kn.l 0 rfl;simp only[go_sem,N9,aV];intro H17 xQ;have kn:=kn.aB 0 rfl xQ;refine Zf ?_;refine⟨Qr,ps.length-(q+1),Zx,q+1,ns++[v],_,_,rfl,Zx,by simp[cP],?_,kn,rfl⟩;rw[←Cb];exact .mk _ _ _ (by simp[Cb,Qf])
       ·intro hc;have hqp:q=ps.length:=(by have:¬q<ps.length:=(by simpa using hc);omega);refine Wc ?_;refine Wv ?_ ?_
        ·intro hc;obtain⟨blk,cM⟩:∃blk,u.blocks[bi]=blk:=⟨_,rfl⟩;have gV:=dP.bs _ (Jc cf);have fE:=dy.bs _ (Jc cf);rw[cM]at gV fE;have qu:=fE.p;have fi:(u.blocks.map UBlk.row).getD bi []=[blk.pc,blk.ic,.int .i64 blk.jump,.int .i64 blk.on,.sl blk.nfl 1 (Qb blk.next)]:=(by rw[←cM];simp[Jb,cf,UBlk.row]);have dU:=gV.p.ah;have da:(u.blocks.map UBlk.row).length=u.blocks.length:=Zz;have kn:Kn H H14 [(R.l,R.o (k2+1+1+1+q))] (([(yb,.vec 5 (u.blocks.map UBlk.row))]++([(x8,.st [.int .i64 to,ac])]++([(x2,.st [.sl true 3 []]),(x3,.st [cc])]++(blk.core++(al++(BB us ci bi dg++cl))))))++blk.pl):=kn.perm (Qj fun f hf h0 bF hp=>by
          have h1:=hp _ _ (Y4 us ci bi dg (by rw[hu];exact cf));subst hu;rw[cM,bB]at h1;simp only[hf]at h1⊢;omega)
         have cF:=kn.l 0 rfl;have aV:=kn.l 1 rfl;have ni:∀p∈cl,p∈(([(yb,Obj.vec 5 (u.blocks.map UBlk.row))]++([(x8,Obj.st [.int .i64 to,ac])]++([(x2,Obj.st [.sl true 3 []]),(x3,Obj.st [cc])]++(blk.core++(al++(BB us ci bi dg++cl))))))++blk.pl):=fun p hp=>ZaI;have aN:=eq_true (ao.slcM kn ni).ok;have dj:=(ao.slcM kn ni).rows;obtain⟨ph,eG⟩:∃ph:UPhi,ph=⟨to,ns,ac,al⟩:=⟨_,rfl⟩;have oL:[C.int IntKind.i64 to,ac]=ph.row:=(by rw[eG];rfl);have lN:ph.al=al:=(by rw[eG]);have rt:Gr ph.al 1 (Qb ph.ns) ph.ac:=(by rw[eG];exact wE);rw[dv]at aK gW jd;have kH:=gV.p;have bN:List.take u.blocks.length (u.blocks.map UBlk.row)=u.blocks.map UBlk.row:=Jd Zz;refine Au ?_;simp only[go_sem,aV,eJ,aN,am,bz,dg,dj,aK,cF,cf,da,bN,fi,dU,Jp,Jg];rw[oL];refine kn.grow (new:=[ph.row]) kH (.mk' _ _ _ _) (by intro r hr;simp only[Ja]at hr;subst hr;exact ph.ak rt) ZJ fun z H15 kn=>?_;have kn:Kn H H15 [(R.l,R.o (k2+1+1+1+q))] ([(yb,.vec 5 (u.blocks.map UBlk.row))]++(([(x8,.st [.int .i64 to,ac])]++([(x2,.st [.sl true 3 []]),(x3,.st [cc])]++(blk.core++(al++(BB us ci bi dg++cl)))))++[(z,.vec 2 ((blk.aa++[ph]).map UPhi.row))])):=by
          simpa[Jl]using kn
         have cF:=kn.l 0 rfl;have nh:∀p∈cl,p∈([(yb,Obj.vec 5 (u.blocks.map UBlk.row))]++(([(x8,Obj.st [.int .i64 to,ac])]++([(x2,Obj.st [.sl true 3 []]),(x3,Obj.st [cc])]++(blk.core++(al++(BB us ci bi dg++cl)))))++[(z,.vec 2 ((blk.aa++[ph]).map UPhi.row))])):=fun p hp=>ZaI;have aN:=eq_true (ao.slcM kn nh).ok;have dj:=(ao.slcM kn nh).rows;simp only[go_sem,N7,aN,am,bz,dg,dj,aK,cF,cf,da,fi,Jp,Jg];intro H16 ip;obtain⟨b',aZ⟩:∃b':UBlk,b'={ blk with aa:=blk.aa++[ph],pc:=.af z 2 0 ((blk.aa.map UPhi.row).length+1),pl:=[(z,.vec 2 ((blk.aa++[ph]).map UPhi.row))] }:=⟨_,rfl⟩;have pJ:[C.af z 2 0 ((blk.aa.map UPhi.row).length+1),blk.ic,C.int IntKind.i64 blk.jump,C.int IntKind.i64 blk.on,C.sl blk.nfl 1 (Qb blk.next)]=b'.row:=(by rw[aZ];rfl);have sA:(u.blocks.map UBlk.row).set bi b'.row=(u.blocks.set bi b').map UBlk.row:=(by rw[Jt]);rw[pJ,sA]at ip;have kn:=kn.aB 0 rfl ip;have kS:b'.ok:=by
          rw[aZ];refine⟨.mk _ _ _ Zz,gV.i,fun p hp=>?_⟩;rcases Jm.1 hp with h|h
          ·exact gV.a p h
          ·simp only[Ja]at h;subst h;exact rt
         have kR:b'.sm (N+1):=by
          rw[aZ];refine⟨fE.n,fE.i,by simp;omega,fE.ia,fun p hp=>?_⟩;rcases Jm.1 hp with h|h
          ·exact fE.pa p h
          ·simp only[Ja]at h;subst h;rw[eG];show ns.length≤1000;omega
         obtain⟨u',gE⟩:∃u',u'=u.put bi b' [(yb,.vec 5 ((u.blocks.set bi b').map UBlk.row))]:=⟨_,rfl⟩;have jW:u'.ok:=(by rw[gE];exact UCode.put_ok dP kS bB);have jV:u'.sm (N+1):=(by rw[gE];exact UCode.put_sm dy kR);have md:Kn H H16 [(R.l,R.o (k2+1+1+1+q))] ((([(x2,.st [.sl true 3 []]),(x3,.st [cc])]++(us.set ci u').flatMap UCode.lg)++cl)++[(x8,.st [.int .i64 to,ac])]):=kn.perm (Qj fun f hf h0 bF hp=>by
          have h1:=hp _ _ (Qb0x us ci bi dg (by rw[hu];exact cf) b' [(yb,.vec 5 ((u.blocks.set bi b').map UBlk.row))]);rw[hu,←gE]at h1;have h2:b'.core=blk.core++al:=(by rw[aZ,UBlk.core_snoc,lN]);have h3:b'.pl=[(z,.vec 2 ((blk.aa++[ph]).map UPhi.row))]:=(by rw[aZ]);rw[h2,h3]at h1;simp only[Jr,Jq,Ju,hf,bF _ (_::_),bF _ (_++_)]at h1⊢;omega)
         refine hn _ _ ⟨k2+1+1+1+q,us.set ci u',by simpa using te,Zx,Zx,fun v hv=>?_,?_,md.drop,rfl,rfl,rfl,rfl⟩
         ·rcases J1 hv with hv|rfl
          ·exact⟨(au v hv).1,(au v hv).2.mono Zx⟩
          ·exact⟨jW,jV⟩
         ·rw[Qb0y us ci dg u' (by rw[gE,UCode.put_row,hu])];exact ao
        ·intro hc;refine Ze ?_;refine hn _ _ ⟨k2+1+1+1+q,us,te,Zx,Zx,fun u hu=>⟨(au u hu).1,(au u hu).2.mono Zx⟩,ao,?_,rfl,rfl,rfl,rfl⟩;have kn:=kn.drop;exact (kn.perm Ji).drop
     rintro e2 H8 ⟨k3,us,te,wn,yG,au,ao,kn,l0,l2,l3,l5⟩;refine Qp ?_;simp only[go_sem,X.next,l0,l2,l3,l5];refine⟨Qr,t-1,Zx,t-1,k3,N+1,us,rfl,Zx,te,wn,Zx,au,ao,kn,?_⟩;have:(t:Int)-1=((t-1:Nat):Int):=Zx;rw[this]
    ·intro hc;refine Zc ?_;have aI:=kn.l 0 rfl;refine Zp aI aP bH ?_;intro H8 h8;have kn:=kn.aB 0 rfl h8;have aI:=kn.l 0 rfl;refine Zn aI bH ?_;have gR:Held H8 (un H) (us.flatMap UCode.lg++cl):=fun p hp=>by
      have fz:p∈(([(x2,Obj.st [cc]),(x3,Obj.st [cc])]++us.flatMap UCode.lg)++cl):=by
       rcases Jm.1 hp with h|h
       ·simp[h]
       ·simp[h]
      exact⟨(kn.get p (Jh _ fz)).1,BN (kn.loc p fz)⟩
     obtain⟨cs,hf,hcn,jE⟩:=UCodes.frz (N:=N) Zx ao au gR;exact⟨_,FrzL.ag (.cons hf .nil),hK cs _ k2 gu Zx kn.fin Zx Zx jE⟩
end Go.AE.Y
namespace Go.AE
open Go.AE.Y
open Go.Proofs.Tryz
variable {H:Heap}{K:V→Heap→Prop}
theorem Kn.lm {H0 H:Heap}{E L:List (Nat×Obj)}{x:Nat}{o:Obj}(kn:Kn H0 H E L)(h:(x,o)∈L):H x=o:=(kn.get (x,o) (Jh _ h)).1
end Go.AE
namespace Go.AE.Y
open Go.Proofs.Tryz
variable {H:Heap}{K:V→Heap→Prop}
set_option maxHeartbeats 4000000 in
theorem Qbt7 {R:Rdr}{k:Nat}(hH:H R.l=R.o k)(hk:k+20000≤2^40)
  (hK:∀(cs:List CodeD) (H':Heap) (k':Nat),k<k'→k'≤k+20000→Upd H H' [(R.l,R.o k')]→0<cs.length→cs.length≤3→(∀c∈cs,c.gd)→K (.ag [.sl false 3 (Qk cs)]) H') :
  Qs prog Gf [.c (.ptr R.l 0)] H K:=by
 refine Qx ?_;refine Qc Ab Qbuq ?_;refine Za ?_;intro x2 aI H1 h1;have kn:=(Kn.start1 hH (R.aj k)).al aI h1;refine Za ?_;refine K1 (kn.e 0 rfl) Zx fun cs H2 k1 fT fA hu kO sn ll=>?_;have kn:=kn.an 0 rfl hu (R.aj _);simp only[go_sem,M2];refine Qaz1 ll Zx fun us cc cl H3 k2 ao au mU=>?_;have kn:=kn.comp0 k2;have bH:=ao.ah;simp only[go_sem,M3];intro x3 aP H4 h4;have kn:=kn.al aP h4;have kn:=kn.perm Ji;have aP:=kn.l 0 rfl;simp only[go_sem,M4,aP];intro H5 h5;have kn:=kn.aB 0 rfl h5;have kn:Kn H H5 [(R.l,R.o k1)] (([(x2,.st [.sl true 3 []]),(x3,.st [cc])]++us.flatMap OCode.lg)++cl):=kn.perm (Qj fun f hf h0 bF hp=>by
  simp only[Jr,Jq,Ju,hf,bF _ (_::_),bF _ (_++_)];omega)
 have aP:=kn.l 1 rfl;have hs:=ao.slc kn;have aN:=eq_true hs.ok;have am:=hs.len;have bz:=hs.sz;rw[Je]at am;refine Aj ?_;simp only[go_sem,aP,bH,aN,am];refine A5 (kn.e 0 rfl) Zx fun v H6 hv hu=>?_;have kn:=kn.an 0 rfl hu (R.aj _);rw[if_neg Zx]at hv;obtain⟨ci,rfl⟩:=Jo hv.1;have dg:ci<us.length:=Zx
 have aP:=kn.l 1 rfl;have hs:=ao.slc kn;have aN:=eq_true hs.ok;have dj:=hs.rows;simp only[go_sem,M1,aP,bH,aN,am,bz,dg];obtain⟨u,hu⟩:∃u,us[ci]=u:=⟨_,rfl⟩;obtain⟨dP,dy⟩:=au _ (Jc dg);rw[hu]at dP dy;have aK:(us.map OCode.row).getD ci []=[.int .i64 u.params,.int .i64 u.ab,u.bc]:=by rw[←hu];simp[Jb,dg,OCode.row]
 have oq:=dy.b0;have uI:=dy.b;obtain⟨yb,dv,bB⟩:=OCode.bvec dP oq;have gW:(C.af yb 5 0 u.blocks.length).ah=false:=rfl;have jd:ay (C.af yb 5 0 u.blocks.length)=u.blocks.length:=rfl;rw[dv]at aK;have qG:(yb,Obj.vec 5 (u.blocks.map OBlk.row))∈(([(x2,Obj.st [.sl true 3 []]),(x3,.st [cc])]++us.flatMap OCode.lg)++cl):=by
  have:(yb,Obj.vec 5 (u.blocks.map OBlk.row))∈us.flatMap OCode.lg:=Jac.2 ⟨u,by rw[←hu];exact Jc dg,Jh _ (by rw[bB];simp)⟩;simp[this]
 have cF:=kn.lm qG;have da:(u.blocks.map OBlk.row).length=u.blocks.length:=Zz
 have bN:List.take u.blocks.length (u.blocks.map OBlk.row)=u.blocks.map OBlk.row:=Jd Zz;refine Aj ?_;simp only[go_sem,aN,am,bz,dg,dj,aK,cF,da,Jg,Jf];refine A5 (kn.e 0 rfl) Zx fun v H7 hv hu7=>?_;have kn:=kn.an 0 rfl hu7 (R.aj _);rw[if_neg Zx]at hv;obtain⟨bi,rfl⟩:=Jo hv.1;have cf:bi<u.blocks.length:=Zx
 have hs:=ao.slc kn;have aN:=eq_true hs.ok;have dj:=hs.rows;have cF:=kn.lm qG;simp only[go_sem,M0,aN,am,bz,dg,dj,aK,cF,da,cf,Jg,Jf];refine Aj ?_;simp only[go_sem,aN,am,bz,dg,dj,aK,cF,da,Jg,Jf];refine Bf (ns:=[-1,u.ab,u.blocks.length,0,1]) (kn.e 0 rfl) Zx Zz fun bad H8 _ hu8=>?_;have kn:=kn.an 0 rfl hu8 (R.aj _);simp only[go_sem,Mz];refine Wa ?_;refine A5 (kn.e 0 rfl) Zx fun kind H9 _ uJ=>?_;have kn:=kn.an 0 rfl uJ (R.aj _);refine A4 (fun e2 H2=>∃(k3:Nat) (us:List OCode) (cl:List (Nat×Obj)),us.length=cs.length∧k<k3∧k3≤k+20000∧(∀u∈us,u.ok∧u.sm 1001)∧Gr cl 3 (us.map OCode.row) cc∧
   Kn H H2 [(R.l,R.o k3)] (([(x2,.st [.sl true 3 []]),(x3,.st [cc])]++us.flatMap OCode.lg)++cl)∧lk 2 e2=.c (.ptr x2 0)∧lk 3 e2=.c (.ptr x3 0)) ?_ ?_
 ·intro Q hn _ _;have hull:us.length=cs.length:=mU;have knO:=kn;obtain⟨blk,cM⟩:∃blk,u.blocks[bi]=blk:=⟨_,rfl⟩;have b6:=dP.bs _ (Jc cf);have cL:=dy.bs _ (Jc cf);rw[cM]at b6 cL;have fi:(u.blocks.map OBlk.row).getD bi []=[blk.pc,blk.ic,.int .i64 blk.jump,.int .i64 blk.on,.af blk.nx.y 1 0 blk.nx.ns.length]:=by rw[←cM];simp[Jb,cf,OBlk.row,OInts.c]
  have dU:=b6.p.ah;have cZ:=b6.i.ah;have kn:=Qbid kn dg hu cf cM bB;have bY:∀b':OBlk,(u.blocks.map OBlk.row).set bi b'.row=(u.blocks.set bi b').map OBlk.row:=fun b'=>(Jt).symm;have cK:∀(b':OBlk) (H2:Heap) (k3:Nat) (e2:Env),b'.ok→b'.sm 1001→k<k3→k3≤k+20000→Kn H H2 [(R.l,R.o k3)] ([(yb,.vec 5 ((u.blocks.set bi b').map OBlk.row))]++(b'.lg++(Ba us ci bi dg++([(x2,Obj.st [.sl true 3 []]),(x3,.st [cc])]++cl))))→
    lk 2 e2=.c (.ptr x2 0)→lk 3 e2=.c (.ptr x3 0)→Q .nrm e2 H2:=by
   intro b' H2 k3 e2 h1 h2 h3 h4 kn l2 l3;obtain⟨us',g1,g2,g3,g4⟩:=Qbmo (N:=1000) dg hu cf bB au h1 h2 ao kn;exact hn _ _ ⟨k3,us',cl,Zx,h3,h4,g3,g2,g4,l2,l3⟩
  have cV:∀e2:Env,lk 2 e2=.c (.ptr x2 0)→lk 3 e2=.c (.ptr x3 0)→Q .nrm e2 H9:=fun e2 l2 l3=>
   hn _ _ ⟨_,us,cl,mU,Zx,Zx,fun u hu=>⟨(au u hu).1,(au u hu).2.mono Zx⟩,ao,knO,l2,l3⟩
  refine Ws ?_;have aN:=eq_true (ao.slcM kn (fun p hp=>ZaI)).ok;have dj:=(ao.slcM kn (fun p hp=>ZaI)).rows;have cF:=kn.l 0 rfl;refine Wv ?_ ?_
  ·intro hc;refine Zh ?_;refine A5 (kn.e 0 rfl) Zx fun v H10 _ iz=>?_;have kn:=kn.an 0 rfl iz (R.aj _);have cF:=kn.l 0 rfl;simp only[go_sem,My,cF,da,cf,fi,Jp,Jg,Jf];intro H11 dY;have aZ:[blk.pc,blk.ic,C.int IntKind.i64 v,C.int IntKind.i64 blk.on,C.af blk.nx.y 1 0 blk.nx.ns.length]=({ blk with jump:=v }:OBlk).row:=rfl;rw[aZ,bY]at dY;exact cK { blk with jump:=v } _ _ _ ⟨b6.p,b6.i,b6.a⟩ ⟨cL.n,cL.i,by have:=cL.p;show blk.aa.length≤_;omega,fun x hx=>by have:=cL.ia x hx;omega⟩ Zx Zx (kn.aB 0 rfl dY) Zy Zy
  intro cR;refine Za ?_;refine Wv ?_ ?_
  ·intro hc;have tx:H9 blk.nx.y=.vec 1 (Qb blk.nx.ns):=kn.l 1 rfl;have ey:List.take blk.nx.ns.length (Qb blk.nx.ns)=Qb blk.nx.ns:=Jd (by simp[Qf]);refine Qa ?_;simp only[go_sem,cF,da,bN,cf,fi,Eb,Jp,Jg,Jf,tx,Qf];intro _;refine Wv ?_ ?_
   ·intro aC;have cC:0<blk.nx.ns.length:=ZC;have gy:=Qn blk.nx.ns 0 cC;refine Qp ?_;simp only[go_sem,cF,da,bN,cf,fi,Eb,Jp,Jg,Jf,tx,cC,gy,Qf];refine⟨Zx,fun H11 dY=>?_⟩;have db:(Qb blk.nx.ns).set 0 [C.int IntKind.i64 bad]=Qb (blk.nx.ns.set 0 bad):=(by simp[Qb,Jt]);rw[db]at dY;have kn:Kn H H11 [(R.l,R.o (k1+1+1+1+1))] ([(yb,.vec 5 (u.blocks.map OBlk.row))]++(OBlk.lg { blk with nx:=⟨blk.nx.ns.set 0 bad,blk.nx.y⟩ }++(Ba us ci bi dg++([(x2,Obj.st [.sl true 3 []]),(x3,.st [cc])]++cl)))):=kn.aB 1 rfl dY;refine cK { blk with nx:=⟨blk.nx.ns.set 0 bad,blk.nx.y⟩ } _ (k1+1+1+1+1) _ ⟨b6.p,b6.i,b6.a⟩ ⟨by simpa using cL.n,cL.i,by have:=cL.p;show blk.aa.length≤_;omega,fun x hx=>by have:=cL.ia x hx;omega⟩ Zx Zx ?_ Zy Zy;rw[DT cf (by rw[cM];simp[OBlk.row,OInts.c])];exact kn
   ·intro aC;refine Qi ?_;exact cV _ Zy Zy
  intro bF;refine Za ?_;refine Wv ?_ ?_
  ·intro hc;refine Qp ?_;simp only[go_sem,cF,da,cf,fi,Jp,Jg,Jf];intro H11 dY;have aZ:[blk.pc,blk.ic,C.int IntKind.i64 blk.jump,C.int IntKind.i64 bad,C.af blk.nx.y 1 0 blk.nx.ns.length]=({ blk with on:=bad }:OBlk).row:=rfl;rw[aZ,bY]at dY;exact cK { blk with on:=bad } _ _ _ ⟨b6.p,b6.i,b6.a⟩ ⟨cL.n,cL.i,by have:=cL.p;show blk.aa.length≤_;omega,fun x hx=>by have:=cL.ia x hx;omega⟩ Zx Zx (kn.aB 0 rfl dY) Zy Zy
  intro aC;refine Za ?_;have fC:ay blk.ic=blk.ins.length:=by rw[b6.i.ay];simp
  have js:bh H9 blk.ic=True:=eq_true (b6.i.slcM kn (fun p hp=>by simp[OBlk.lg,hp])).ok;refine Wv ?_ ?_
  ·intro hc;refine Qa ?_;simp only[go_sem,cF,da,bN,cf,fi,cZ,Jp,Jg,Jf,fC,js];intro _;refine Wv ?_ ?_
   ·intro aC;have cC:0<blk.ins.length:=ZC;obtain⟨yi,gx,ck⟩:=OBlk.ivec b6 cC;rw[gx]at fi;have knI:=Fy kn ck;have hY:=knI.l 0 rfl;obtain⟨x,hx⟩:∃x,blk.ins[0]=x:=⟨_,rfl⟩;have qb:(blk.ins.map OIns.row).getD 0 []=[.int .i64 x.op,.int .i64 x.to,.af x.a.y 1 0 x.a.ns.length,.int .i64 x.n]:=Zag;have jt:(blk.ins.map OIns.row).length=blk.ins.length:=Zz;have ou:List.take blk.ins.length (blk.ins.map OIns.row)=blk.ins.map OIns.row:=Jd Zz;have lj:x.a.ns.length≤1000:=cL.ia x ZaP;refine Qp ?_;simp only[go_sem,cF,da,bN,cf,fi,Eb,Jp,Jg,Jf,hY,cC,qb,jt];refine⟨Zx,fun H12 fe=>?_⟩;have be:[C.int IntKind.i64 x.op,C.int IntKind.i64 bad,C.af x.a.y 1 0 x.a.ns.length,C.int IntKind.i64 x.n]=({ x with to:=bad }:OIns).row:=rfl;rw[be,←Jt]at fe;have knD:=I7 (b:=blk) (is:=blk.ins.set 0 { x with to:=bad }) (knI.aB 0 rfl fe) (Q9x cC (by rw[hx];rfl));refine cK _ _ (k1+1+1+1+1) _ (OBlk.ins_ok (i:=0) (x':={ x with to:=bad }) b6 gx) (OBlk.ins_sm (i:=0) (x':={ x with to:=bad }) cL (by show x.a.ns.length≤_;omega)) Zx Zx ?_ Zy Zy;rw[DT cf (by rw[cM];rfl)];exact knD
   ·intro aC;refine Qi ?_;exact cV _ Zy Zy
  intro bI;refine Za ?_;refine Wv ?_ ?_
  ·intro hc;refine Qa ?_;simp only[go_sem,cF,da,bN,cf,fi,cZ,Jp,Jg,Jf,fC,js];intro _;refine Wv ?_ ?_
   ·intro aC;have cC:0<blk.ins.length:=ZC;obtain⟨yi,gx,ck⟩:=OBlk.ivec b6 cC;rw[gx]at fi;have knI:=Fy kn ck;have hY:=knI.l 0 rfl;obtain⟨x,hx⟩:∃x,blk.ins[0]=x:=⟨_,rfl⟩;have qb:(blk.ins.map OIns.row).getD 0 []=[.int .i64 x.op,.int .i64 x.to,.af x.a.y 1 0 x.a.ns.length,.int .i64 x.n]:=Zag;have jt:(blk.ins.map OIns.row).length=blk.ins.length:=Zz;have ou:List.take blk.ins.length (blk.ins.map OIns.row)=blk.ins.map OIns.row:=Jd Zz;have lj:x.a.ns.length≤1000:=cL.ia x ZaP;refine Au ?_;have knA:Kn H H9 [(R.l,R.o (k1+1+1+1+1))] ([(x.a.y,.vec 1 (Qb x.a.ns))]++([(yi,.vec 4 (blk.ins.map OIns.row))]++([(yb,.vec 5 (u.blocks.map OBlk.row))]++(blk.nx.lg++(blk.aa.flatMap OPhi.lg++(blk.pl++((blk.ins.eraseIdx 0).flatMap OIns.lg++(Ba us ci bi dg++([(x2,Obj.st [.sl true 3 []]),(x3,.st [cc])]++cl))))))))):=knI.perm (Qj fun f hf h0 bF hp=>by
     have h1:=hp _ _ (Db OIns.lg blk.ins 0 cC);rw[hx]at h1;have h2:x.lg=[(x.a.y,.vec 1 (Qb x.a.ns))]:=rfl;rw[h2]at h1;simp only[hf]at h1⊢;omega)
    have nO:=knA.l 0 rfl;have uN:List.take x.a.ns.length (Qb x.a.ns)=Qb x.a.ns:=Jd (by simp[Qf]);simp only[go_sem,cF,da,bN,cf,fi,Eb,Jp,Jg,Jf,hY,cC,qb,jt,ou,nO,Qf,uN];refine⟨Zx,by simp only[LIM];omega,fun y' iM H10 cS=>?_⟩;have knA:=knA.ap 0 rfl iM cS;have hY:=knA.l 1 rfl;have cF:=knA.l 2 rfl;simp only[go_sem,Mx,cF,da,bN,cf,fi,Eb,Jp,Jg,Jf,hY,cC,qb,jt];refine⟨Zx,fun H12 fe=>?_⟩;obtain⟨x',fN⟩:∃x':OIns,x'={ x with a:=⟨x.a.ns++[bad],y'⟩ }:=⟨_,rfl⟩;have be:[C.int IntKind.i64 x.op,C.int IntKind.i64 x.to,C.af y' 1 0 (x.a.ns.length+1),C.int IntKind.i64 x.n]=x'.row:=(by rw[fN];simp[OIns.row,OInts.c]);have du:x'.lg=[(y',.vec 1 (Qb x.a.ns++[[.int .i64 bad]]))]:=(by rw[fN];simp[OIns.lg,OInts.lg,Qb]);rw[be,←Jt]at fe;have knA:=knA.aB 1 rfl fe;refine cK _ _ (k1+1+1+1+1) _ (OBlk.ins_ok (i:=0) (x':=x') b6 gx) (OBlk.ins_sm (i:=0) (x':=x') cL (by rw[fN];simp;omega)) Zx Zx ?_ Zy Zy;rw[DT cf (by rw[cM];rfl)];refine knA.perm (Qj fun f hf h0 bF hp=>?_);have h1:=hp _ _ (Dm OIns.lg blk.ins 0 x' cC);rw[du]at h1;simp only[OBlk.lg,Jr,Jq,Ju,List.set_cons_succ,hf,bF _ (_::_),bF _ (_++_),bF _ (List.flatMap _ _)]at h1⊢;omega
   ·intro aC;refine Qi ?_;exact cV _ Zy Zy
  intro dq;refine Za ?_;refine Wv ?_ ?_
  ·intro hc;refine Qp ?_;simp only[go_sem,cF,da,bN,cf,fi,dU,Jp,Jg,Jf];have knP:Kn H H9 [(R.l,R.o (k1+1+1+1+1))] (([(yb,.vec 5 (u.blocks.map OBlk.row))]++(blk.nx.lg++(blk.aa.flatMap OPhi.lg++(blk.ins.flatMap OIns.lg++(blk.il++(Ba us ci bi dg++([(x2,Obj.st [.sl true 3 []]),(x3,.st [cc])]++cl)))))))++blk.pl):=kn.perm (Qj fun f hf h0 bF hp=>by
    simp only[OBlk.lg,hf];omega)
   obtain⟨ph,eG⟩:∃ph:OPhi,ph=⟨0,[bad],.sl true 1 (Qb [bad]),[]⟩:=⟨_,rfl⟩;have oL:[C.int IntKind.i64 0,C.sl true 1 [[C.int IntKind.i64 bad]]]=ph.row:=by rw[eG];rfl
   have na:ph.ok:=by rw[eG];exact .inr ⟨true,rfl,rfl⟩
   have lN:ph.lg=[]:=by rw[eG]
   have dH:=cL.p;rw[oL];refine knP.grow (new:=[ph.row]) b6.p (.mk' _ _ _ _) (by intro r hr;simp only[Ja]at hr;subst hr;exact ph.ak na) ZJ fun z H10 knP=>?_;have cF:=knP.l 0 rfl;simp only[go_sem,NS,cF,da,cf,fi,Jp,Jg,Jf];intro H11 dY;obtain⟨b',aZ⟩:∃b':OBlk,b'={ blk with aa:=blk.aa++[ph],pc:=.af z 2 0 ((blk.aa.map OPhi.row).length+1),pl:=[(z,.vec 2 ((blk.aa++[ph]).map OPhi.row))] }:=⟨_,rfl⟩;have pJ:[C.af z 2 0 ((blk.aa.map OPhi.row).length+1),blk.ic,C.int IntKind.i64 blk.jump,C.int IntKind.i64 blk.on,C.af blk.nx.y 1 0 blk.nx.ns.length]=b'.row:=by rw[aZ];rfl
   rw[pJ,bY]at dY;have knP:=knP.aB 0 rfl dY;have kS:b'.ok:=by
    rw[aZ];refine⟨.mk _ _ _ Zz,b6.i,fun p hp=>?_⟩;rcases Jm.1 hp with h|h
    ·exact b6.a p h
    ·simp only[Ja]at h;subst h;exact na
   have kR:b'.sm 1001:=by
    rw[aZ];exact⟨cL.n,cL.i,by simp;omega,fun x hx=>by have:=cL.ia x hx;omega⟩
   refine cK b' _ (k1+1+1+1+1) _ kS kR Zx Zx ?_ Zy Zy;have wZ:b'.lg=blk.nx.lg++(blk.aa.flatMap OPhi.lg++([(z,.vec 2 ((blk.aa++[ph]).map OPhi.row))]++(blk.ins.flatMap OIns.lg++blk.il))):=by
    rw[aZ];simp[OBlk.lg,Js,lN]
   rw[wZ];have dV:blk.aa.map OPhi.row++[ph.row]=(blk.aa++[ph]).map OPhi.row:=Zz
   rw[dV]at knP;refine knP.perm (Qj fun f hf h0 bF hp=>?_);simp only[Jr,Jq,Ju,hf,bF _ (_::_),bF _ (_++_)];omega
  intro pH;refine Za ?_;refine Wv ?_ ?_
  ·intro hc;refine Au ?_;simp only[go_sem,aN,am,bz,dg,dj,aK];refine A5 (kn.e 0 rfl) Zx fun v H10 hv iz=>?_;have knO:=knO.an 0 rfl iz (R.aj _);obtain⟨yc,jc,cm⟩:∃yc,cc=.af yc 3 0 us.length∧cl=[(yc,.vec 3 (us.map OCode.row))]:=by
    rcases ao with ⟨h1,h2,h3⟩|⟨y,h1,h2⟩
    ·rw[List.map_eq_nil_iff]at h2;rw[h2]at dg;simp at dg
    ·exact⟨y,by rw[h1];simp,h2⟩
   have cE:H10 yc=.vec 3 (us.map OCode.row):=knO.lm (by rw[cm];simp);have uG:(us.map OCode.row).length=us.length:=Zz
   have gG:List.take us.length (us.map OCode.row)=us.map OCode.row:=Jd Zz;have yZ:=dP.b.ah;simp only[go_sem,NR,jc,cE,uG,gG,dg,aK,Jp,Jg,Jf];have jA:=dy.p0;have qk:=dy.p1;rw[if_neg Zx]at hv;refine⟨Qr,fun H11 dY=>?_⟩;obtain⟨u',gE⟩:∃u':OCode,u'={ u with ab:=u.params+v }:=⟨_,rfl⟩;have hur:[C.int IntKind.i64 u.params,C.int IntKind.i64 (u.params+v),C.af yb 5 0 u.blocks.length]=u'.row:=by rw[gE,←dv];rfl
   have uH:u'.lg=u.lg:=by rw[gE];rfl
   have jW:u'.ok:=by rw[gE];exact⟨dP.b,dP.bs⟩
   have jV:u'.sm 1000:=by rw[gE];exact⟨dy.b0,dy.b,dy.bs,dy.p0,dy.p1⟩
   rw[hur,←Jt]at dY;have knF:Kn H H10 [(R.l,R.o (k1+1+1+1+1+1))] ([(yc,.vec 3 (us.map OCode.row))]++([(x2,Obj.st [.sl true 3 []]),(x3,.st [cc])]++us.flatMap OCode.lg)):=by
    rw[cm]at knO;exact knO.perm Ji
   have knF:=knF.aB 0 rfl dY;refine hn _ _ ⟨k1+1+1+1+1+1,us.set ci u',[(yc,.vec 3 ((us.set ci u').map OCode.row))],by simpa using mU,Zx,Zx,fun w hw=>?_,?_,?_,Zy,Zy⟩
   ·rcases J1 hw with hw|rfl
    ·exact⟨(au w hw).1,(au w hw).2.mono Zx⟩
    ·exact⟨jW,jV.mono Zx⟩
   ·rw[jc];exact .mk _ _ _ Zz
   ·refine knF.perm (Qj fun f hf h0 bF hp=>?_);have h1:=hp _ _ (Dm OCode.lg us ci u' dg);have h2:=hp _ _ (Db OCode.lg us ci dg);rw[uH]at h1;rw[hu]at h2;simp only[Jr,Jq,Ju,hf,bF _ (_::_),bF _ (_++_),bF _ (List.flatMap _ _)]at h1 h2⊢;omega
  intro yX;refine Za ?_;refine Wv ?_ ?_
  ·intro hc;refine Qa ?_;simp only[go_sem,cF,da,bN,cf,fi,cZ,Jp,Jg,Jf,fC,js];intro _;refine Wv ?_ ?_
   ·intro aC;have cC:0<blk.ins.length:=ZC;obtain⟨yi,gx,ck⟩:=OBlk.ivec b6 cC;rw[gx]at fi;have knI:=Fy kn ck;have hY:=knI.l 0 rfl;obtain⟨x,hx⟩:∃x,blk.ins[0]=x:=⟨_,rfl⟩;have qb:(blk.ins.map OIns.row).getD 0 []=[.int .i64 x.op,.int .i64 x.to,.af x.a.y 1 0 x.a.ns.length,.int .i64 x.n]:=Zag;have jt:(blk.ins.map OIns.row).length=blk.ins.length:=Zz;have ou:List.take blk.ins.length (blk.ins.map OIns.row)=blk.ins.map OIns.row:=Jd Zz;have lj:x.a.ns.length≤1000:=cL.ia x ZaP;refine Au ?_;simp only[go_sem,cF,da,bN,cf,fi,Eb,Jp,Jg,Jf];refine Bf (ns:=[256,-1,1]) (knI.e 0 rfl) Zx Zz fun v H10 hv iz=>?_;have knI:=knI.an 0 rfl iz (R.aj _);have hY:=knI.l 0 rfl;have cF:=knI.l 1 rfl;simp only[go_sem,NQ,cF,da,bN,cf,fi,Eb,Jp,Jg,Jf,hY,cC,qb,jt];refine⟨Zx,fun H12 fe=>?_⟩;have be:[C.int IntKind.i64 x.op,C.int IntKind.i64 x.to,C.af x.a.y 1 0 x.a.ns.length,C.int IntKind.i64 v]=({ x with n:=v }:OIns).row:=rfl;rw[be,←Jt]at fe;have knD:=I7 (b:=blk) (is:=blk.ins.set 0 { x with n:=v }) (knI.aB 0 rfl fe) (Q9x cC (by rw[hx];rfl));refine cK _ _ (k1+1+1+1+1+1) _ (OBlk.ins_ok (i:=0) (x':={ x with n:=v }) b6 gx) (OBlk.ins_sm (i:=0) (x':={ x with n:=v }) cL (by show x.a.ns.length≤_;omega)) Zx Zx ?_ Zy Zy;rw[DT cf (by rw[cM];rfl)];exact knD
   ·intro aC;refine Qi ?_;exact cV _ Zy Zy
  ·intro hc;refine Qi ?_;exact cV _ Zy Zy
 ·rintro e2 H10 ⟨k3,us,cl,mU,gu,f9,au,ao,kn,l2,l3⟩;have aI:=kn.l 0 rfl;have aP:=kn.l 1 rfl;refine Qa ?_;simp only[go_sem,aI,aP,bH,l2,l3];intro H8 h8;have kn:=kn.aB 0 rfl h8;have aI:=kn.l 0 rfl;refine Zn aI bH ?_;have gR:Held H8 (un H) (us.flatMap OCode.lg++cl):=fun p hp=>by
   have fz:p∈(([(x2,Obj.st [cc]),(x3,Obj.st [cc])]++us.flatMap OCode.lg)++cl):=by
    rcases Jm.1 hp with h|h
    ·simp[h]
    ·simp[h]
   exact⟨(kn.get p (Jh _ fz)).1,BN (kn.loc p fz)⟩
  obtain⟨cs,hf,hcn,jE⟩:=OCodes.frz (N:=1001) Zx ao au gR;exact⟨_,FrzL.ag (.cons hf .nil),hK cs _ k3 gu Zx kn.fin Zx Zx jE⟩
end Go.AE.Y
namespace Go.AE.Y
open Go.Proofs.Tryz
theorem Fw {R : Rdr} {fl : Bool} {ss : List (List UInt8)} : ∀ (d : Nat) {k : Nat} {H : Heap} {K : V → Heap → Prop} (deep : Int), deep ≤ d → H R.l = R.o k → k + 6 * 2^d ≤ 2^40 →
    (∀ (x : Ex) (H' : Heap) (k' : Nat), k < k' → k' + 3 ≤ k + 6 * 2^d → Upd H H' [(R.l, R.o k')] → x.ok → k + x.size ≤ k' → K (.ag x.cells) H') →
    Qs prog Eh [.c (.ptr R.l 0), .c (.sl fl 1 (A8 ss)), .c (.int .i64 deep)] H K := by
  intro d
  induction d using Nat.strongRecOn with
  | ind d ih =>
  intro k H K deep hd hH hk hK;have qk : 1 ≤ 2^d := J7;have jA : d < 2^d := Nat.lt_two_pow_self;refine Qx ?_;refine Qc Ab Qbuh ?_;refine Qa ?_;simp only [go_sem];intro x hx H1 h1;have kn := (Kn.start1 hH (R.aj k)).al hx h1;refine Q1 (Qa ?_);simp only [go_sem];have rest : ∀ (b : Bool) (H2 : Heap) (k2 : Nat), k ≤ k2 → k2 ≤ k + 1 → Kn H H2 [(R.l, R.o k2)] [(x, .st [.int .i64 0, .int .i64 0, .str [], .sl true 4 []])] → (b = false → 2 ≤ deep) →
      Ac prog (s_l2Expr_2.seq MS) (Q6 DO (unK H K))
       [(0, V.c (C.ptr R.l 0)), (1, V.c (C.sl fl 1 (A8 ss))), (2, .c (.int .i64 deep)), (6, V.c (C.ptr x 0)), (14, V.c (.bool b))] H2 := by
    intro b H2 k2 fT fA kn hb;have fin : ∀ (op n : Int) (name : List UInt8) (fl : Bool) (kids : List Ex) (H3 : Heap) (k3 : Nat) (o : Obj), k < k3 → k3 + 3 ≤ k + 6 * 2^d → Kn H H3 [(R.l, R.o k3)] [(x, .st [.int .i64 op, .int .i64 n, .str name, .sl fl 4 (Ap kids)])] →
        (op = 10 → kids.length = 2) → A9 kids → k + 1 + At kids ≤ k3 →
        Aa DO [(6, V.c (C.ptr x 0))] H3 (unK H K) := by
      intro op n name fl kids H3 k3 o g1 g2 kn g3 g4 g5;have aP := kn.l 0 rfl;simp only [go_sem, Aa, DO, Ja, forall_eq, RS.op, aP];refine ⟨_, (Ex.mk op n name kids).frz, hK _ _ k3 g1 g2 kn.fin ?_ ?_⟩
      · simp only [Ex.ok]; exact ⟨g3, g4⟩
      · simp only [Ex.size]; omega
    refine Wu ?_ ?_
    · intro aZ;refine Qa ?_;simp only [go_sem];refine Qbt4 (kn.e 0 rfl) Zx fun y H3 k3 g1 g2 hu au bz => ?_;have kn := kn.an 0 rfl hu (R.aj _);have aP := kn.l 0 rfl;simp only [go_sem, MR, aP, y.aF];intro H4 h4;have kn := kn.aB 0 rfl h4;refine Ql ?_;simp only [go_sem, Q6];refine fin _ _ _ _ _ _ k3 .none Zx Zx kn (Ex.ok_and au) (Ex.ok_kids au) ?_;have := y.size_kids; omega
    · intro aZ;have mq := hb aZ;have hp : 2^d = 2 * 2^(d-1) := (by rw [← Nat.pow_succ']; congr 1; omega);have fz : 1 ≤ 2^(d-1) := J7;have ihd := fun {k H K} => @ih (d-1) Zx k H K;generalize 2^(d-1) = e at *;refine Qi ?_;simp only [go_sem];refine Q1 (Qa ?_);simp only [go_sem];refine A5 (kn.e 0 rfl) Zx fun v H3 hv hu => ?_;have kn := kn.an 0 rfl hu (R.aj _);simp only [go_sem, Ng];refine Wu ?_ ?_
      · intro hc;refine Qa ?_;simp only [go_sem];refine Bf (ns := [11, 12, 11]) (kn.e 0 rfl) Zx Zz fun op H4 bA hu => ?_;have kn := kn.an 0 rfl hu (R.aj _);simp only [go_sem, Nc];refine ⟨Qr, ?_⟩;refine ihd (deep - 1) Zx (kn.e 0 rfl) Zx fun y H5 k5 g1 g2 hu au bz => ?_;have kn := kn.an 0 rfl hu (R.aj _);have bf := kn.l 0 rfl;simp only [go_sem, Nf, bf, y.ax];intro H6 h6;have kn := kn.aB 0 rfl h6;refine Ql ?_;simp only [go_sem, Q6];refine fin op 0 [] true [y] _ k5 .none Zx Zx kn (fun h => ?_) ⟨au, trivial⟩ ?_
        · subst h; simp at bA
        · simp only [At]; omega
      · intro hc;refine Qi ?_;simp only [go_sem];refine Qa ?_;simp only [go_sem];refine Bf (ns := [3, 3, 4, 5, 6, 7, 8, 9, 10]) (kn.e 0 rfl) Zx Zz fun op H4 bA hu => ?_;have kn := kn.an 0 rfl hu (R.aj _);simp only [go_sem, Nb];refine Qa ?_;simp only [go_sem];refine ⟨Qr, ?_⟩;refine ihd (deep - 1) Zx (kn.e 0 rfl) Zx fun y H5 k5 g1 g2 hu au bz => ?_;have kn := kn.an 0 rfl hu (R.aj _);simp only [go_sem, MZ];refine ⟨Qr, ?_⟩;refine ihd (deep - 1) Zx (kn.e 0 rfl) Zx fun z H6 k6 g3 g4 hu eM hsz2 => ?_;have kn := kn.an 0 rfl hu (R.aj _);have bf := kn.l 0 rfl;simp only [go_sem, Na, bf, y.ax, z.ax];intro H7 h7;have kn := kn.aB 0 rfl h7;refine Ql ?_;simp only [go_sem, Q6];refine fin op 0 [] true [y, z] _ k6 .none Zx Zx kn (fun h => rfl) ⟨au, eM, trivial⟩ ?_;simp only [At]; omega
  refine ⟨fun hb => ?_, fun hb => ?_⟩
  · refine A5 (kn.e 0 rfl) Zx fun v H2 hv hu => ?_;have kn := kn.an 0 rfl hu (R.aj _);simp only [go_sem, Q2h];refine rest _ H2 (k + 1) Zx Zx kn ?_;intro h;have : ¬ deep < 2 := ZQ;omega
  · have bX : decide (deep < 2) = true := ZQ;simp only [go_sem, Q2h, bX];exact rest true H1 k Zx Zx kn (fun h => by simp at h)
theorem Qaup {R:Rdr}{gl k:Nat}{s:GS}{H:Heap}{K:V→Heap→Prop}(hR:H R.l=R.o k)(hG:H gl=s.o R)(bx:R.l≠gl)(hs:s.ok k)(hk:k+2≤2^30)
  (hK:∀(name:List UInt8) (H':Heap) (k':Nat),k+1≤k'→k'≤k+2→Upd H H' [(R.l,R.o k'),(gl,GS.o { s with next:=s.next+1 } R)]→K (.c (.str name)) H') :
  Qs prog T8 [.c (.ptr gl 0)] H K:=by
 have h0:=hs.n0;have pV:=hs.n1;refine Qx ?_;refine Qc Ab Qau4 ?_;refine Za ?_;refine Zr hG ?_;refine⟨Qr,fun H1 h1=>?_⟩;have kn:Kn H H1 [(R.l,R.o k),(gl,GS.o { s with next:=s.next+1 } R)] []:=(Kn.start2 hR (R.aj k) hG (s.aj R) bx).stE 1 rfl h1;have hD:=kn.e 1 rfl;refine Q1 (Qa ?_);simp only[go_sem,hD,GS.o];refine A5 (kn.e 0 rfl) Zx fun v H2 hv hu=>?_;have kn:=kn.an 0 rfl hu (R.aj _);have fH:=kn.e 1 rfl;simp only[go_sem,Qp5,fH,GS.o];intro hl;refine Wu ?_ ?_
 ·intro hc;have mT:0<s.vars.length:=by
   rw[Bj]at hc;cases h:decide (v=0) <;> rw[h]at hc <;> simp_all
  refine Aj ?_;simp only[go_sem,fH,GS.o];refine of_c (kn.e 0 rfl) Zx mT fun name H3 hn hu=>?_;have kn:=kn.an 0 rfl hu (R.aj _);simp only[go_sem,Qp6];refine Zb ?_;exact⟨_,.c _ _ (Qg rfl),hK _ _ (k+1+1) Zx Zx kn.fin⟩
 ·intro hc;refine Ze ?_;refine Aj ?_;have e1:0≤(s.next+1).tmod 24:=J4 _ Zx;have e2:(s.next+1).tmod 24<24:=J0 _ Zx;simp only[go_sem,fH,GS.o];refine⟨Zx,Zx,Qr,Zx,?_⟩;refine Zb ?_;exact⟨_,.c _ _ (Qg rfl),hK _ _ (k+1) Zx Zx kn.fin⟩
theorem Nr {R:Rdr}{gl k:Nat}{s:GS}{x:Ex}{fl:Bool}{H:Heap}{K:V→Heap→Prop}(hR:H R.l=R.o k)(hG:H gl=s.o R)(bx:R.l≠gl)(hs:s.ok k)(hk:k+2≤2^30)
  (hK:∀(name:List UInt8) (H':Heap) (k':Nat),k+1≤k'→k'≤k+2→Upd H H' [(R.l,R.o k'),(gl,GS.o { s with next:=s.next+1,vars:=s.vars++[name],vfl:=false } R)]→K (.ag (St.mk 1 name [x] [] []).cells) H') :
  Qs prog RT [.c (.ptr gl 0),.ag [.int .i64 x.op,.int .i64 x.n,.str x.name,.sl fl 4 (Ap x.kids)]] H K:=by
 have hv:=hs.v;refine De ?_;refine Qc Ab Qa9m ?_;refine Za ?_;intro y hy H1 h1;have kn:=(Kn.start2 hR (R.aj k) hG (s.aj R) bx).al hy h1;refine Za ?_;refine Qaup (kn.e 0 rfl) (kn.e 1 rfl) bx hs hk fun name H2 k' g1 g2 hu=>?_;have kn:=kn.callEE 0 1 rfl rfl ZK hu (R.aj _) (GS.aj _ _);have fH:=kn.e 1 rfl;simp only[go_sem,Q0j];refine Qa ?_;have hL:s.vars.length≤LIM:=ZM
 have xE:s.vars.length+1≤LIM:=ZM
 simp only[go_sem,fH,GS.o,Bj,Jg,Jq,hL];refine⟨.inl trivial,RA _,?_⟩;intro z hz H3 h3;have kn:=kn.al hz h3;have hz3:=kn.l 1 rfl;have nH:=kn.e 1 rfl;simp only[go_sem,Q0l,hz3,Bj,Qbga,xE,Jd];refine⟨Zx,fun z' gc H4 h4=>?_⟩;have kn:=kn.ap 1 rfl gc h4;have sU:=kn.e 1 rfl;simp only[go_sem,Q0k,sU,GS.o];intro H5 h5;have kn:=kn.stE 1 rfl h5;have hy5:=kn.l 0 rfl;refine Zi hy5 ?_;intro H6 h6;have kn:=kn.aB 0 rfl h6;have hy6:=kn.l 0 rfl;refine Zg hy6 ?_;refine⟨un H,(.ag (St.mk 1 name [x] [] []).cells),(H6.frz (un H)).set gl (GS.o { s with next:=s.next+1,vars:=s.vars++[name],vfl:=false } R),?_,?_,hK name _ k' g1 g2 (kn.fin.set2 bx)⟩
 ·simp only[St.cells,Ap,Ak,x.aF];exact (FrzL.cons (Qg rfl) (.cons (Qg rfl) (.cons (FrzR.cons (.cons (Qg rfl) (.cons (Qg rfl) (.cons (Qg rfl) (.cons (FrzR.same (HF _)).sl .nil)))) .nil).sl (.cons (FrzR.nil).sl (.cons (FrzR.nil).sl .nil))))).ag
 ·refine (C7 _ _).set (EZ (kn.usedE 1 rfl)) ?_;rw[kn.e 1 rfl];refine FrzKL.st (.same (.same (.cons rfl ?_ (.same (.same .nil)))));exact Fz (kn.un 1 rfl) (kn.l 1 rfl) (by simp[A8]) (noOw_mem (RA _))
theorem Ek {R : Rdr} {gl k : Nat} {s : GS} {H : Heap} {K : V → Heap → Prop} (deep : Int) (hd : deep ≤ 3) (hR : H R.l = R.o k) (hG : H gl = s.o R) (bx : R.l ≠ gl) (hs : s.ok k) (hF : FnsOk H R gl s) (hk : k + 200 ≤ 2^30)
    (hK : ∀ (x : Ex) (H' : Heap) (k' : Nat), k < k' → k' ≤ k + 200 → Upd H H' [(R.l, R.o k')] → x.ok → k + x.size ≤ k' → K (.ag x.cells) H') :
    Qs prog Dh [.c (.ptr gl 0), .c (.int .i64 deep)] H K := by
  have gA := hs.fn;refine Qx ?_;refine Qc Ab Qa0e ?_;refine Qa ?_;simp only [go_sem];intro x4 br H1 h1;have kn := (Kn.start2 hR (R.aj k) hG (s.aj R) bx).al br h1;have hD := kn.e 1 rfl;refine Aj ?_;simp only [go_sem, hD, GS.o];refine Fw 3 deep Zx (kn.e 0 rfl) Zx fun e H2 k2 g1 g2 hu px gU => ?_;have kn := kn.an 0 rfl hu (R.aj _);have fH := kn.e 1 rfl;simp only [go_sem, Qvs];intro x5 bf H3 h3;have kn := kn.al bf h3;have nH := kn.e 1 rfl;have dR := kn.l 1 rfl;simp only [go_sem, Qvr, nH, dR, GS.o, e.aF];intro H4 h4;have kn := kn.aB 1 rfl h4;have sU := kn.e 1 rfl;refine Q1 (Qa ?_);simp only [go_sem, sU, GS.o, hF.ow, hF.ok kn, hF.len];intro hl;have fin : ∀ (op n : Int) (name : List UInt8) (c : C) (kids : List Ex) (H3 : Heap) (k3 : Nat) (L : List (Nat × Obj)), k < k3 → k3 ≤ k + 200 → Kn H H3 [(R.l, R.o k3), (gl, s.o R)] L →
      L[0]? = some (x4, .st [.int .i64 op, .int .i64 n, .str name, c]) → c.ah = false → FrzC H3 (un H) c (.sl false 4 (Ap kids)) → (Ex.mk op n name kids).ok → k + (Ex.mk op n name kids).size ≤ k3 →
      Aa RL [(4, V.c (C.ptr x4 0))] H3 (unK H K) := by
    intro op n name c kids H3 k3 L g1 g2 kn g3 cd g4 g5 g6;have aP := kn.l 0 g3;simp only [go_sem, Aa, RL, Ja, forall_eq, RS.op, aP, cd];refine ⟨(.ag (Ex.mk op n name kids).cells), ?_, hK _ _ k3 g1 g2 (kn.fin.drop2 hG) g5 g6⟩;rw [Ex.aF];exact (FrzL.cons (Qg rfl) (.cons (Qg rfl) (.cons (Qg rfl) (.cons g4 .nil)))).ag
  have rest : ∀ (b : Bool) (H2 : Heap) (k3 : Nat), k2 ≤ k3 → k3 ≤ k2 + 1 → Kn H H2 [(R.l, R.o k3), (gl, s.o R)] [(x4, .st [.int .i64 0, .int .i64 0, .str [], .sl true 4 []]), (x5, .st [.int .i64 e.op, .int .i64 e.n, .str e.name, .sl false 4 (Ap e.kids)])] →
      (b = false → 0 < s.fns.length) →
      Ac prog (s_l3Gen_expr_3.seq Qvq) (Q6 RL (unK H K))
       [(0, V.c (C.ptr gl 0)), (4, V.c (C.ptr x4 0)), (5, V.c (C.ptr x5 0)), (32, .c (.bool b))] H2 := by
    intro b H2 k3 g3 g4 kn hb;have jO := kn.l 1 rfl;have nW := kn.l 0 rfl;refine Wu ?_ ?_
    · intro aZ;refine Qa ?_;simp only [go_sem, jO, nW];intro H3 h3;have kn := kn.aB 0 rfl h3;refine Ql ?_;simp only [go_sem, Q6]
      cases e with
      | mk op n name kids => exact fin op n name _ kids H3 k3 _ Zx Zx kn rfl rfl (Da (noOw_mem (HF _))) px Zx
    · intro aZ;have fW := hb aZ;refine Qi ?_;simp only [go_sem];have nH := kn.e 1 rfl;refine Aj ?_;simp only [go_sem, nH, GS.o, hF.ow, hF.ok kn, hF.len];refine A5 (kn.e 0 rfl) Zx fun v H3 hv hu => ?_;have kn := kn.an 0 rfl hu (R.aj _);rw [if_neg Zx] at hv;obtain ⟨i, rfl⟩ := Jo hv.1;have hi : i < s.fns.length := Zx;have sU := kn.e 1 rfl;simp only [go_sem, Qvu, sU, GS.o, hF.ow, hF.ok kn, hF.len, hF.rows kn, hF.esz, hi, GK _ _ hi, Fn.cells];intro x6 aY H4 h4;have kn := kn.al aY h4;have hG5 := kn.e 1 rfl;have um := kn.l 2 rfl;simp only [go_sem, Qvt, hG5, um, GS.o, hF.ow, hF.ok kn, hF.len, hF.rows kn, hF.esz, hi, GK _ _ hi, Fn.cells];have eV := hs.f _ (Jc hi);generalize s.fns[i] = f at *;intro H5 h5;have kn := kn.aB 2 rfl h5;have jN := kn.l 2 rfl;refine Qa ?_;simp only [go_sem, jN];intro x7 bC H6 h6;have kn := kn.al bC h6;have jk := kn.l 2 rfl;have nQ := kn.l 3 rfl;simp only [go_sem, Qvv, nQ];intro H7 h7;have kn := kn.aB 3 rfl h7;refine Q1 (Qa ?_);simp only [go_sem];refine Qh (Qd (Qw (fun n e1 H1 => ∃ (i k4 : Nat) (kids : List Ex) (c : C) (Lg : List (Nat × Obj)), n = f.params.length - i ∧ i ≤ f.params.length ∧ k4 ≤ k3 + 1 + 21 * i ∧ k3 + 1 + At kids ≤ k4 ∧ A9 kids ∧ kids.length = i ∧
        Gr Lg 4 (Ap kids) c ∧ Kn H H1 [(R.l, R.o k4), (gl, s.o R)] ([(x4, .st [.int .i64 0, .int .i64 0, .str [], .sl true 4 []]), (x5, .st [.int .i64 e.op, .int .i64 e.n, .str e.name, .sl false 4 (Ap e.kids)]),
          (x6, .st [.str f.name, .sl false 1 (A8 f.params), .sl false 5 (Ak f.body)]), (x7, .st [.int .i64 13, .int .i64 0, .str f.name, c])] ++ Lg) ∧
        e1 = [(0, V.c (C.ptr gl 0)), (4, V.c (C.ptr x4 0)), (6, V.c (C.ptr x6 0)), (7, V.c (C.ptr x7 0)), (8, V.c (C.int IntKind.i64 i))]) f.params.length ?_ ?_))
      · exact ⟨0, k3 + 1, [], _, [], by omega, by omega, by omega, by simp [At], trivial, rfl, .nil 4, kn, rfl⟩
      · rintro n e1 H1 ⟨i, k4, kids, c, Lg, hn, ny, f9, hksz, fq, cO, ao, kn, rfl⟩;have uo := kn.l 2 rfl;have jI := kn.l 3 rfl;have hD := kn.e 1 rfl;refine Q1 (Qa ?_);simp only [go_sem, uo, Bj];intro dH;refine Wu ?_ ?_
        · intro hc;have ae : i < f.params.length := ZA;refine Qi ?_;simp only [go_sem];refine Qh (Qd (Au ?_));have bH := ao.ah;simp only [go_sem, jI, hD, GS.o, bH];refine Fw 2 2 Zx (kn.e 0 rfl) Zx fun z H2 k5 g5 g6 hu au bz => ?_;have kn := kn.an 0 rfl hu (R.aj _);have fj := kn.l 3 rfl;simp only [go_sem, Qvx, fj, bH, z.ax];refine kn.grow (new := [z.cells]) ao (.mk' _ _ _ _) (by simp [z.ak]) (by simp only [Bk, Jk, Jn, LIM]; omega) fun y' H3 kn => ?_;have nT := kn.l 3 rfl;simp only [go_sem, Qvw, nT];intro H4 h4;have kn := kn.aB 3 rfl h4;refine Qp ?_;simp only [go_sem];refine ⟨Qr, ?_⟩;refine ⟨f.params.length - (i + 1), by omega, i + 1, k5, kids ++ [z], _, _, rfl, by omega, by omega, ?_, Qbm8 fq ⟨au, trivial⟩, by simp [cO], ?_, kn, ?_⟩
          · simp only [Q0z, At]; omega
          · rw [← Qbit]; exact .mk _ _ _ Zz
          · simp
        · intro hc;have bd : f.params.length ≤ i := ZA;refine Qu ?_;simp only [go_sem, X.next];refine Q1 (Qa ?_);simp only [go_sem, hD, GS.o];refine A5 (kn.e 0 rfl) Zx fun v H2 hv hu => ?_;have kn := kn.an 0 rfl hu (R.aj _);have fj := kn.l 3 rfl;have nW := kn.l 0 rfl;have bH := ao.ah;have fH := kn.e 1 rfl;simp only [go_sem, Qp2];refine Wu ?_ ?_
          · intro hc;refine Qa ?_;simp only [go_sem, fj, nW, bH];intro H3 h3;have kn := kn.aB 0 rfl h3;refine Ql ?_;simp only [go_sem, Q6];refine fin 13 0 f.name c kids H3 (k4 + 1) _ Zx Zx kn rfl bH (ao.frz (B := [_, _, _, _]) kn (HF _)) ?_ ?_
            · simp only [Ex.ok]; exact ⟨fun h => by simp at h, fq⟩
            · simp only [Ex.size]; omega
          · intro hc;refine Qi ?_;simp only [go_sem];refine Aj ?_;simp only [go_sem, fj, fH, bH, GS.o];refine Bf (ns := [3, 4, 8, 10]) (kn.e 0 rfl) Zx Zz fun op H3 bA hu => ?_;have kn := kn.an 0 rfl hu (R.aj _);have nT := kn.l 3 rfl;have nH := kn.e 1 rfl;simp only [go_sem, Qp4, nT, nH, bH, GS.o];refine Fw 2 2 Zx (kn.e 0 rfl) Zx fun z H4 k5 g5 g6 hu au bz => ?_;have kn := kn.an 0 rfl hu (R.aj _);have lC := kn.l 3 rfl;have uw := kn.l 0 rfl;simp only [go_sem, Qp3, lC, uw, bH, z.ax];intro H5 h5;have kn := kn.aB 0 rfl h5;refine Ql ?_;simp only [go_sem, Q6];refine fin op 0 [] _ [Ex.mk 13 0 f.name kids, z] H5 k5 _ Zx Zx kn rfl rfl ?_ ?_ ?_
            · refine FrzR.sl (.cons ?_ (.cons (.same z.ak) .nil));rw [Ex.aF];exact .cons (Qg rfl) (.cons (Qg rfl) (.cons (Qg rfl) (.cons (ao.frz (B := [_, _, _, _]) kn (HF _)) .nil)))
            · simp only [Ex.ok, A9]; exact ⟨fun h => rfl, ⟨fun h => by simp at h, fq⟩, au, trivial⟩
            · simp only [Ex.size, At]; omega
  refine ⟨fun hb => ?_, fun hb => ?_⟩
  · refine A5 (kn.e 0 rfl) Zx fun v H5 hv hu => ?_;have kn := kn.an 0 rfl hu (R.aj _);simp only [go_sem, TH];refine rest _ H5 (k2 + 1) Zx Zx kn ?_;intro h;have : ¬ s.fns.length = 0 := ZQ;omega
  · have bX : decide ((s.fns.length : Int) = 0) = true := ZQ;simp only [go_sem, TH, bX];exact rest true H4 k2 Zx Zx kn (fun h => by simp at h)
theorem Q9y {R:Rdr}{gl k:Nat}{s:GS}{H:Heap}{K:V→Heap→Prop}(hR:H R.l=R.o k)(hG:H gl=s.o R)(bx:R.l≠gl)(hs:s.ok k)(hF:FnsOk H R gl s)(hk:k+201≤2^30)
  (hK:∀(x:Ex) (H':Heap) (k':Nat),k<k'→k'≤k+201→Upd H H' [(R.l,R.o k')]→x.ok→2 * k+x.size≤2 * k'→K (.ag x.cells) H') :
  Qs prog Se [.c (.ptr gl 0)] H K:=by
 refine Qx ?_;refine Qc Ab Qa0d ?_;refine Za ?_;intro x2 aI H1 h1;have kn:=(Kn.start2 hR (R.aj k) hG (s.aj R) bx).al aI h1;have hD:=kn.e 1 rfl;refine Aj ?_;simp only[go_sem,hD,GS.o];refine Ek 2 Zx (kn.e 0 rfl) (kn.e 1 rfl) bx hs (hF.keep kn rfl rfl) Zx fun e H2 k2 g1 g2 hu px gU=>?_;have kn:=kn.an 0 rfl hu (R.aj _);have fH:=kn.e 1 rfl;simp only[go_sem,Qvp,fH,GS.o];refine Bf (ns:=[16,16,16,8,17,0]) (kn.e 0 rfl) Zx Zz fun v H3 hv hu=>?_;have kn:=kn.an 0 rfl hu (R.aj _);have u6:=kn.l 0 rfl;simp only[go_sem,Qvo,u6,e.ax];intro H4 h4;have kn:=kn.aB 0 rfl h4;have jR:=kn.l 0 rfl;refine Zg jR ?_;refine⟨(.ag (Ex.mk 7 0 [] [e,Ex.mk 1 v [] []]).cells),?_,hK _ _ (k2+1) Zx Zx (kn.fin.drop2 hG) ?_ ?_⟩
 ·rw[Ex.aF (Ex.mk 7 0 [] _)];refine FrzL.ag ?_;refine .cons (Qg rfl) (.cons (Qg rfl) (.cons (Qg rfl) (.cons (FrzR.sl (.cons (.same e.ak) (.cons ?_ .nil))) .nil)));simp only[Ex.cells,Ap];exact .cons (Qg rfl) (.cons (Qg rfl) (.cons (Qg rfl) (.cons (FrzR.nil).sl .nil)))
 ·simp only[Ex.ok,A9];exact⟨fun h=>rfl,px,⟨fun h=>ZF,trivial⟩,trivial⟩
 ·simp only[Ex.size,At];omega
def EB (d:Nat):Prop:=∀(R:Rdr) (gl k:Nat) (s:GS) (H:Heap) (K:V→Heap→Prop) (deep:Int),deep≤d→H R.l=R.o k→H gl=s.o R→R.l≠gl→s.ok k→FnsOk H R gl s→k+500 * 10^d≤2^30→
  (∀(l:List St) (s':GS) (H':Heap) (k':Nat),k<k'→k'≤k+500 * 10^d→Upd H H' [(R.l,R.o k'),(gl,s'.o R)]→s'.ok k'→s.left+4 * (k:Int)≤s'.left+4 * (k':Int)→s'.fns=s.fns→s'.ffl=s.ffl→l.length≤2→A7 l→4 * k+Q8 l≤4 * k'→K (.c (.sl false 5 (Ak l))) H')→
  Qs prog Tj [.c (.ptr gl 0),.c (.int .i64 deep)] H K
def BS (d:Nat):Prop:=∀(R:Rdr) (gl k:Nat) (s:GS) (H:Heap) (K:V→Heap→Prop) (deep:Int),deep≤d→H R.l=R.o k→H gl=s.o R→R.l≠gl→s.ok k→FnsOk H R gl s→k+2001 * 10^d≤2^30→
  (∀(l:List St) (c:C) (Lg:List (Nat×Obj)) (s':GS) (H':Heap) (k':Nat),k<k'→k'≤k+2001 * 10^d→Upd H H' [(R.l,R.o k'),(gl,s'.o R)]→Gr Lg 5 (Ak l) c→New H H' Lg→s'.ok k'→s.left+4 * (k:Int)≤s'.left+4 * (k':Int)→s'.fns=s.fns→s'.ffl=s.ffl→
   l.length≤8→A7 l→4 * k+Q8 l≤4 * k'→K (.c c) H')→
  Qs prog GW [.c (.ptr gl 0),.c (.int .i64 deep)] H K
theorem Ks {d:Nat}(hS:EB d):BS d:=by
 intro R gl k s H K deep hd hR hG bx hs hF hk hK;have jA:d<10^d:=Jy Zx;generalize qj:10^d=e at *;have mB:=hS;simp only[EB]at mB;rw[qj]at mB;generalize hM:500 * e=M at *;refine De ?_;refine Qc Ab Qau3 ?_;refine Za ?_;refine Zr hG ?_;refine Wj ?_;simp only[go_sem,hG,GS.o];have kn:=Kn.start2 hR (R.aj k) hG (s.aj R) bx;refine Bf (ns:=[2,3,1,4]) hR Zx Zz fun v H1 hv hu=>?_;have kn:=kn.an 0 rfl hu (R.aj _);simp only[go_sem,Qpz];have hv4:1≤v∧v≤4:=by simp at hv;omega
 refine Qh (Qd (Qw (fun n e1 H1=>∃(j k4:Nat) (l:List St) (c:C) (Lg:List (Nat×Obj)) (s':GS),n=v.toNat-j∧(j:Int)≤v∧k+1≤k4∧k4≤k+1+M * j∧4 * k+Q8 l≤4 * k4∧A7 l∧l.length≤2 * j∧
    Gr Lg 5 (Ak l) c∧s'.ok k4∧s.left+4 * (k:Int)≤s'.left+4 * (k4:Int)∧s'.fns=s.fns∧s'.ffl=s.ffl∧Kn H H1 [(R.l,R.o k4),(gl,s'.o R)] ([]++Lg)∧
    e1=[(0,V.c (C.ptr gl 0)),(1,.c (.int .i64 deep)),(5,.c (.sl s.vfl 1 (A8 s.vars))),(6,.c c),(7,V.c (C.int IntKind.i64 (v-j)))]) v.toNat ?_ ?_))
 ·exact⟨0,k+1,[],_,[],s,Zx,Zx,Zx,Zx,by simp only[Q8];omega,trivial,Zz,.nil 5,hs.mono Zx,Zx,rfl,rfl,kn,Zz⟩
 ·rintro n e1 H1 ⟨j,k4,l,c,Lg,s',hn,hj,f9,wo,bz,au,k9,ao,gJ,hlf,kN,iZ,kn,rfl⟩;have hD:=kn.e 1 rfl;have hMj:M * j≤M * 4:=Jz _ Zx;refine Q1 (Qa ?_);simp only[go_sem,hD,GS.o];refine Wu ?_ ?_
  ·intro hc;have hi:(j:Int)<v:=by
    cases h:decide (0<v-(j:Int))with
    |true=>have:0<v-(j:Int):=by simpa using h
           omega
    |false=>rw[h]at hc;simp at hc
   have zv:M * (j+1)=M * j+M:=Jal _ _;have zu:M * (j+1)≤M * 4:=Jz _ Zx;refine Ze ?_;refine Qh (Qd (Qp ?_));simp only[go_sem];refine mB _ _ _ _ _ _ deep hd (kn.e 0 rfl) (kn.e 1 rfl) bx gJ (hF.keep kn kN iZ) Zx fun l2 s2 H2 k5 g1 g2 hu g3 glf g4 g5 g6 g7 g8=>?_;have kn:=kn.callEE 0 1 rfl rfl ZK hu (R.aj _) (GS.aj _ _);simp only[go_sem,Qp1];refine kn.grow ao (.mk' _ _ _ (Ak l2)) (GI _) (by simp only[Bw,LIM];omega) fun y' H3 kn=>?_;simp only[go_sem,Qp0];refine Zh ?_;refine⟨Qr,?_⟩;simp only[X.next];refine⟨v.toNat-(j+1),Zx,j+1,k5,l++l2,.af y' 5 0 ((Ak l).length+(Ak l2).length),_,s2,rfl,Zx,Zx,Zx,?_,F5 au g7,by simp;omega,?_,g3,Zx,g4.trans kN,g5.trans iZ,kn,?_⟩
   ·rw[HG];omega
   ·rw[F6];exact .mk _ _ _ (by simp[Bw])
   ·have:v-((j+1:Nat):Int)=v-j-1:=Zx;rw[this]
  ·intro hc;refine Zc ?_;refine Zr hD ?_;intro H2 h2;have kn:Kn H H2 [(R.l,R.o k4),(gl,GS.o { s' with vars:=s.vars,vfl:=s.vfl } R)] ([]++Lg):=kn.stE 1 rfl h2;refine Wm ?_;refine⟨unx H Lg,_,H2.frz (unx H Lg),.c _ _ (.same _ ao.ah),C7 _ _,?_⟩;refine hK l c Lg _ _ k4 Zx Zx kn.finx.1 ao kn.finx.2 ⟨gJ.n0,gJ.n1,gJ.l0,gJ.l1,?_,gJ.f,gJ.fn⟩ (by show _≤s'.left+_;omega) kN iZ Zx au bz;have:=hs.v;show s.vars.length≤_;omega
def EC (d:Nat):Prop:=∀(R:Rdr) (gl k:Nat) (s:GS) (H:Heap) (K:V→Heap→Prop) (deep:Int),deep≤d+1→2≤deep→H R.l=R.o k→H gl=s.o R→R.l≠gl→s.ok k→FnsOk H R gl s→k+2001 * 10^d+10≤2^30→
  (∀(l:List St) (s':GS) (H':Heap) (k':Nat),k+2<k'→k'≤k+2001 * 10^d+3→Upd H H' [(R.l,R.o k'),(gl,s'.o R)]→s'.ok k'→s.left+4 * (k:Int)≤s'.left+4 * (k':Int)→s'.fns=s.fns→s'.ffl=s.ffl→l.length≤2→A7 l→4 * k+Q8 l≤4 * k'→K (.c (.sl false 5 (Ak l))) H')→
  Qs prog Tk [.c (.ptr gl 0),.c (.int .i64 deep)] H K
theorem VQ {d:Nat}(hB:BS d):EC d:=by
 intro R gl k s H K deep hd dF hR hG bx hs hF hk hK;have jA:d<10^d:=Jy Zx;have qA:=hB;simp only[BS]at qA;generalize qj:10^d=e at *;refine Qx ?_;refine Qc Ab Qa0f ?_;refine Za ?_;refine Zr hG ?_;have kn:=Kn.start2 hR (R.aj k) hG (s.aj R) bx;refine Bf (ns:=[2,3,1,0,5]) hR Zx Zz fun v H1 hv hu=>?_;have kn:=kn.an 0 rfl hu (R.aj _);simp only[go_sem,Qv1];refine Nr (x:=Ex.mk 1 v [] []) (fl:=true) (kn.e 0 rfl) (kn.e 1 rfl) bx (hs.mono (Jag k)) Zx fun name H2 k2 g1 g2 hu=>?_;have kn:=kn.callEE 0 1 rfl rfl ZK hu (R.aj _) (GS.aj _ _);simp only[go_sem,Qv0];intro x5 bf H3 h3;have kn:=kn.al bf h3;have dR:=kn.l 0 rfl;simp only[go_sem,Qvz,dR,St.cells];intro H4 h4;have kn:=kn.aB 0 rfl h4;have fk:=kn.l 0 rfl;refine Zi fk ?_;intro x6 aY H5 h5;have kn:=kn.al aY h5;have jN:=kn.l 1 rfl;simp only[go_sem,Qv2,jN];intro H6 h6;have kn:=kn.aB 1 rfl h6;refine Za ?_;refine⟨Qr,?_⟩;have dS:GS.ok { s with next:=s.next+1,vars:=s.vars++[name],vfl:=false } k2:=by
  refine⟨?_,?_,?_,hs.l1,?_,hs.f,hs.fn⟩
  ·have:=hs.n0;show -1≤s.next+1;omega
  ·have:=hs.n1;show s.next+1≤_;omega
  ·have:=hs.l0;show _≤s.left;omega
  ·have:=hs.v;show (s.vars++[name]).length≤_;simp;omega
 refine qA _ _ _ _ _ _ (deep-1) Zx (kn.e 0 rfl) (kn.e 1 rfl) bx dS (hF.keep kn rfl rfl) Zx fun l c Lg s3 H7 k3 g3 g4 hu ao ez j9 glf g5 g6 g7 g8 g9=>?_;have kn0:=kn;have kn:=kn.callEE 0 1 rfl rfl ZK hu (R.aj _) (GS.aj _ _);have kn:=kn0.addGr kn rfl rfl ao ez;have nU:=kn.l 0 rfl;have jk:=kn.l 1 rfl;simp only[go_sem,Qv3];refine Zl nU jk ?_;intro x8 aV H8 h8;have kn:=kn.al aV h8;have kn:=kn.perm (L':=[(x5,_),(x6,_),(x8,_)]++Lg) (by
  simp only[List.set,Jq,Jr];refine .cons _ (.cons _ ?_);exact Ji)
 have uh:=kn.l 2 rfl;simp only[go_sem,Qv4,uh];intro H9 h9;have kn:=kn.aB 2 rfl h9;have xK:=kn.e 1 rfl;refine Zr xK ?_;have iU:=j9.l0;have iT:=j9.l1;refine⟨Qr,fun H10 cS=>?_⟩;have kn:Kn H H10 [(R.l,R.o k3),(gl,GS.o { s3 with left:=s3.left-2 } R)] ([(x5,_),(x6,_),(x8,_)]++Lg):=kn.stE 1 rfl cS;have ur:=kn.l 0 rfl;have jK:=kn.l 1 rfl;have uf:=kn.l 2 rfl;refine Aj ?_;simp only[go_sem,ur,jK,uf];refine kn.grow ao (.mk' _ _ _ _) (by intro r hr;simp only[Ja]at hr;subst hr;rfl) (by simp only[Bw,LIM,Jk,Jn];omega) fun y' H11 kn=>?_;have uq:=kn.l 0 rfl;have jJ:=kn.l 1 rfl;have cF:=kn.l 3 rfl;simp only[go_sem,Qv5,uq,jJ];refine Zb ?_;have fp:GS.ok { s3 with left:=s3.left-2 } k3:=⟨j9.n0,j9.n1,by show _≤s3.left-2;have:=hs.l0;simp only at glf;omega,by show s3.left-2≤100;omega,j9.v,j9.f,j9.fn⟩;refine⟨.c (.sl false 5 (Ak [St.mk 1 name [Ex.mk 1 v [] []] [] [],St.mk 6 [] [Ex.mk 2 0 name []] (l++[St.mk 2 name [Ex.mk 4 0 [] [Ex.mk 2 0 name [],Ex.mk 1 1 [] []]] [] []]) []])),.c _ _ ?_,hK _ _ _ k3 Zx Zx kn.fin fp (by show _≤s3.left-2+_;simp only at glf;omega) g5 g6 Zz ?_ ?_⟩
 ·simp only[Ak,St.cells,Ap,Ex.cells,←F6]
  repeat' first|exact FrzL.nil|exact FrzR.nil|exact Qg rfl|exact FrzL.same (Ex.ak _)|exact FrzL.same (St.ak _)|refine FrzL.cons ?_ ?_|refine FrzR.cons ?_ ?_|refine FrzR.sl ?_
  refine FrzR.af (kn.un 3 rfl) cF Zz (.app (.same (GI _)) ?_)
  repeat' first|exact FrzL.nil|exact FrzR.nil|exact Qg rfl|exact FrzL.same (Ex.ak _)|exact FrzL.same (St.ak _)|refine FrzL.cons ?_ ?_|refine FrzR.cons ?_ ?_|refine FrzR.sl ?_
 ·simp only[A7,St.ok,A9,Ex.ok];refine⟨⟨Zz,⟨⟨fun h=>ZF,trivial⟩,trivial⟩,trivial,trivial⟩,⟨Zz,⟨⟨fun h=>ZF,trivial⟩,trivial⟩,F5 g8 ?_,trivial⟩,trivial⟩;simp[A7,St.ok,A9,Ex.ok]
 ·simp only[Q8,St.size,HG,At,Ex.size];omega
theorem KB {A L1 L2:List (Nat×Obj)}:(A++L1++L2).Perm (A++L2++L1):=by
 rw[Jl,Jl];exact .append_left _ Ji
set_option maxHeartbeats 2000000 in
theorem Iu {d : Nat} (hB : ∀ d', d = d' + 1 → BS d') : EB d := by
  intro R gl k s H K deep hd hR hG bx hs hF hk hK;have jA : d < 10^d := Jy Zx;have ja : ∃ e, 10^d = e ∧ ∀ d', d = d' + 1 → 10 * 10^d' = e := ⟨10^d, rfl, fun d' h => by rw [h, Nat.pow_succ]; omega⟩;obtain ⟨e, qj, he'⟩ := ja;rw [qj] at jA hk hK;have iU := hs.l0;have iT := hs.l1;refine Qx ?_;refine Qc Ab Qa0g ?_;refine Qa ?_;simp only [go_sem];refine Qa ?_;simp only [go_sem, hG, GS.o];refine ⟨Qr, fun H1 h1 => ?_⟩;have kn : Kn H H1 [(R.l, R.o k), (gl, GS.o { s with left := s.left - 1 } R)] [] := (Kn.start2 hR (R.aj k) hG (s.aj R) bx).stE 1 rfl h1;have db : GS.ok { s with left := s.left - 1 } (k + 1) := ⟨hs.n0, by have := hs.n1; show s.next ≤ _; omega, by show _ ≤ s.left - 1; omega, by show s.left - 1 ≤ 100; omega, by have := hs.v; show s.vars.length ≤ _; omega, hs.f, hs.fn⟩;have tD : s.left ≤ ({ s with left := s.left - 1 } : GS).left + 1 := by show s.left ≤ s.left - 1 + 1; omega
  have fW : ({ s with left := s.left - 1 } : GS).fns = s.fns := rfl;have qs : ({ s with left := s.left - 1 } : GS).ffl = s.ffl := rfl;have jh : FnsOk H R gl { s with left := s.left - 1 } := ⟨hF.1, hF.2⟩;generalize ({ s with left := s.left - 1 } : GS) = s1 at *;have hD := kn.e 1 rfl;refine Qa ?_;simp only [go_sem, hD, GS.o];refine A5 (kn.e 0 rfl) Zx fun v H2 hv hu => ?_;have kn : Kn H H2 [(R.l, R.o (k + 1)), (gl, s1.o R)] [] := kn.an 0 rfl hu (R.aj _);have fH := kn.e 1 rfl;simp only [go_sem, Qv8];have fin : ∀ (l : List St) (c : C) (s' : GS) (H3 : Heap) (k3 : Nat) (L : List (Nat × Obj)), k < k3 → k3 ≤ k + 500 * e → Kn H H3 [(R.l, R.o k3), (gl, s'.o R)] L → FrzC H3 (un H) c (.sl false 5 (Ak l)) →
      s'.ok k3 → s1.left + 4 * ((k + 1 : Nat) : Int) ≤ s'.left + 4 * (k3 : Int) → s'.fns = s1.fns → s'.ffl = s1.ffl → l.length ≤ 2 → A7 l → 4 * k + Q8 l ≤ 4 * k3 → ∃ x', FrzV H3 (un H) (.c c) x' ∧ K x' (H3.frz (un H)) := by
    intro l c s' H3 k3 L g1 g2 kn g3 g4 g5 g6 g7 g8 g9 g10;exact ⟨_, .c _ _ g3, hK l s' _ k3 g1 g2 kn.fin g4 Zx (g6.trans fW) (g7.trans qs) g8 g9 g10⟩
  refine Wk ?_;simp only [go_sem, fH, GS.o, Bj];intro bQ;refine Wv ?_ ?_
  ·
    intro hc;have mT : 0 < s1.vars.length := by
      cases h : decide (v < 3) with
      | true => rw [h] at hc; simp at hc; omega
      | false => rw [h] at hc; simp at hc
    refine Aj ?_;simp only [go_sem, fH, GS.o];refine of_c (kn.e 0 rfl) Zx mT fun name H3 hn hu => ?_;have kn := kn.an 0 rfl hu (R.aj _);simp only [go_sem, Qwa];refine Ek 3 Zx (kn.e 0 rfl) (kn.e 1 rfl) bx (db.mono Zx) (jh.keep kn rfl rfl) Zx fun x H4 k4 g1 g2 hu g3 g4 => ?_;have kn := kn.an 0 rfl hu (R.aj _);simp only [go_sem, Qv9, x.ax];refine Ql ?_;simp only [go_sem, Q6, Aa, CB, Ja, forall_eq, RS.op];refine fin [St.mk 2 name [x] [] []] _ s1 H4 k4 _ Zx Zx kn ?_ (db.mono Zx) Zx rfl rfl Zz ?_ ?_
    · simp only [Ak, St.cells, Ap]
      repeat' first | exact FrzL.nil | exact FrzR.nil | exact Qg rfl | exact FrzL.same (Ex.ak _) | exact FrzL.same (St.ak _) | refine FrzL.cons ?_ ?_ | refine FrzR.cons ?_ ?_ | refine FrzR.sl ?_
    · simp only [A7, St.ok, A9]; exact ⟨⟨Zz, ⟨g3, trivial⟩, trivial, trivial⟩, trivial⟩
    · simp only [Q8, St.size, At]; omega
  intro cR;refine Qa ?_;simp only [go_sem];refine Wv ?_ ?_
  ·
    intro hc;refine Qa ?_;simp only [go_sem];refine Ek 3 Zx (kn.e 0 rfl) (kn.e 1 rfl) bx (db.mono Zx) (jh.keep kn rfl rfl) Zx fun x H4 k4 g1 g2 hu g3 g4 => ?_;have kn := kn.an 0 rfl hu (R.aj _);simp only [go_sem, Qwc, x.aF];refine Nr (x := x) (kn.e 0 rfl) (kn.e 1 rfl) bx (db.mono Zx) Zx fun name H5 k5 g5 g6 hu => ?_;have kn := kn.callEE 0 1 rfl rfl ZK hu (R.aj _) (GS.aj _ _);simp only [go_sem, Qwb, St.ax];refine Ql ?_;simp only [go_sem, Q6, Aa, CB, Ja, forall_eq, RS.op];have h0 := db.n0;have h1 := db.n1;have h2 := db.l0;have h3 := db.v;refine fin [St.mk 1 name [x] [] []] _ _ H5 k5 _ Zx Zx kn ?_ ⟨?_, ?_, ?_, db.l1, ?_, db.f, db.fn⟩ (by show _ ≤ s1.left + _; omega) rfl rfl Zz ?_ ?_
    · simp only [Ak]
      repeat' first | exact FrzL.nil | exact FrzR.nil | exact Qg rfl | exact FrzL.same (Ex.ak _) | exact FrzL.same (St.ak _) | refine FrzL.cons ?_ ?_ | refine FrzR.cons ?_ ?_ | refine FrzR.sl ?_
    · show -1 ≤ s1.next + 1; omega
    · show s1.next + 1 ≤ _; omega
    · show _ ≤ s1.left; omega
    · show (s1.vars ++ [name]).length ≤ _; simp; omega
    · simp only [A7, St.ok, A9]; exact ⟨⟨Zz, ⟨g3, trivial⟩, trivial, trivial⟩, trivial⟩
    · simp only [Q8, St.size, At]; omega
  intro bF;refine Qa ?_;simp only [go_sem];refine Wv ?_ ?_
  ·
    intro hc;refine Qa ?_;simp only [go_sem];refine Ek 3 Zx (kn.e 0 rfl) (kn.e 1 rfl) bx (db.mono Zx) (jh.keep kn rfl rfl) Zx fun x H4 k4 g1 g2 hu g3 g4 => ?_;have kn := kn.an 0 rfl hu (R.aj _);simp only [go_sem, Qwd, x.ax];refine Ql ?_;simp only [go_sem, Q6, Aa, CB, Ja, forall_eq, RS.op];refine fin [St.mk 3 [] [x] [] []] _ s1 H4 k4 _ Zx Zx kn ?_ (db.mono Zx) Zx rfl rfl Zz ?_ ?_
    · simp only [Ak, St.cells, Ap]
      repeat' first | exact FrzL.nil | exact FrzR.nil | exact Qg rfl | exact FrzL.same (Ex.ak _) | exact FrzL.same (St.ak _) | refine FrzL.cons ?_ ?_ | refine FrzR.cons ?_ ?_ | refine FrzR.sl ?_
    · simp only [A7, St.ok, A9]; exact ⟨⟨Zz, ⟨g3, trivial⟩, trivial, trivial⟩, trivial⟩
    · simp only [Q8, St.size, At]; omega
  intro aC;have mq : 2 ≤ deep := by
    cases h : decide (v < 7) with
    | true => rw [h] at aC; simp at aC
    | false => rw [h] at aC; simp at aC; omega
  obtain ⟨d', tO⟩ : ∃ d', d = d' + 1 := ⟨d - 1, by omega⟩;have zB : BS d' := hB d' tO;have hL0 : EC d' := VQ zB;have qA := zB;have zz := hL0;simp only [BS, EC] at qA zz;have tN := he' d' tO;have qk : d' < 10^d' := Jy Zx;generalize 10^d' = e1 at *;refine Qa ?_;simp only [go_sem];refine Wv ?_ ?_
  ·
    intro hc;refine Qa ?_;simp only [go_sem];refine Q9y (kn.e 0 rfl) (kn.e 1 rfl) bx (db.mono Zx) (jh.keep kn rfl rfl) Zx fun x H4 k4 g1 g2 hu g3 g4 => ?_;have kn := kn.an 0 rfl hu (R.aj _);simp only [go_sem, Qwf];refine Ek 2 Zx (kn.e 0 rfl) (kn.e 1 rfl) bx (db.mono Zx) (jh.keep kn rfl rfl) Zx fun y H5 k5 g5 g6 hu g7 g8 => ?_;have kn := kn.an 0 rfl hu (R.aj _);simp only [go_sem, Qwe, x.ax, y.ax];refine Ql ?_;simp only [go_sem, Q6, Aa, CB, Ja, forall_eq, RS.op];refine fin [St.mk 4 [] [x, y] [] []] _ s1 H5 k5 _ Zx Zx kn ?_ (db.mono Zx) Zx rfl rfl Zz ?_ ?_
    · simp only [Ak, St.cells, Ap]
      repeat' first | exact FrzL.nil | exact FrzR.nil | exact Qg rfl | exact FrzL.same (Ex.ak _) | exact FrzL.same (St.ak _) | refine FrzL.cons ?_ ?_ | refine FrzR.cons ?_ ?_ | refine FrzR.sl ?_
    · simp only [A7, St.ok, A9]; exact ⟨⟨Zz, ⟨g3, g7, trivial⟩, trivial, trivial⟩, trivial⟩
    · simp only [Q8, St.size, At]; omega
  intro bI;refine Qa ?_;simp only [go_sem];refine Wv ?_ ?_
  ·
    intro hc;refine Qa ?_;simp only [go_sem];refine Q9y (kn.e 0 rfl) (kn.e 1 rfl) bx (db.mono Zx) (jh.keep kn rfl rfl) Zx fun x H4 k4 g1 g2 hu g3 g4 => ?_;have kn := kn.an 0 rfl hu (R.aj _);simp only [go_sem, Qwg, x.ax];refine Ql ?_;simp only [go_sem, Q6, Aa, CB, Ja, forall_eq, RS.op];refine fin [St.mk 3 [] [Ex.mk 12 0 [] [x]] [] []] _ s1 H4 k4 _ Zx Zx kn ?_ (db.mono Zx) Zx rfl rfl Zz ?_ ?_
    · rw [Ak, Ak, St.cells, Ap, Ap, Ex.aF (Ex.mk 12 0 [] _)];simp only [Ak, Ap, Ex.kids, Ex.op, Ex.n, Ex.name]
      repeat' first | exact FrzL.nil | exact FrzR.nil | exact Qg rfl | exact FrzL.same (Ex.ak _) | exact FrzL.same (St.ak _) | refine FrzL.cons ?_ ?_ | refine FrzR.cons ?_ ?_ | refine FrzR.sl ?_
    · simp only [A7, St.ok, A9, Ex.ok]; exact ⟨⟨Zz, ⟨⟨fun h => by simp at h, g3, trivial⟩, trivial⟩, trivial, trivial⟩, trivial⟩
    · simp only [Q8, St.size, At, Ex.size]; omega
  intro dq;refine Qa ?_;simp only [go_sem];refine Wv ?_ ?_
  ·
    intro hc;refine Qa ?_;simp only [go_sem];refine Ek 3 Zx (kn.e 0 rfl) (kn.e 1 rfl) bx (db.mono Zx) (jh.keep kn rfl rfl) Zx fun x H4 k4 g1 g2 hu g3 g4 => ?_;have kn := kn.an 0 rfl hu (R.aj _);simp only [go_sem, Qp8, x.ax];refine ⟨Qr, ?_⟩;refine qA _ _ _ _ _ _ (deep - 1) Zx (kn.e 0 rfl) (kn.e 1 rfl) bx (db.mono Zx) (jh.keep kn rfl rfl) Zx fun b1 c1 L1 s2 H5 k5 g5 g6 hu gy ez dS glf g7 g8 g9 g10 g11 => ?_;have kn0 := kn;have kn := kn.callEE 0 1 rfl rfl ZK hu (R.aj _) (GS.aj _ _);have kn := kn0.addGr kn rfl rfl gy ez;have s0 := gy.ah;simp only [go_sem, Qp7];intro x6 aY H6 h6;have kn := kn.al aY h6;have kn := kn.perm (L' := [(x6, _)] ++ L1) Ji;have jM := kn.l 0 rfl;simp only [go_sem, Qwh, jM];intro H7 h7;have kn : Kn H H7 [(R.l, R.o k5), (gl, s2.o R)] ([(x6, _)] ++ L1) := kn.aB 0 rfl h7;have sT := kn.e 1 rfl;refine Q1 (Qa ?_);simp only [go_sem, sT, GS.o];refine A5 (kn.e 0 rfl) Zx fun v2 H8 ge hu => ?_;have kn : Kn H H8 [(R.l, R.o (k5 + 1)), (gl, s2.o R)] ([(x6, _)] ++ L1) := kn.an 0 rfl hu (R.aj _);simp only [go_sem, Qp9];have rest : ∀ (E1 : Env) (hE : lk 6 E1 = V.c (C.ptr x6 0)) (c2 : C) (b2 : List St) (L2 : List (Nat × Obj)) (s3 : GS) (H9 : Heap) (k6 : Nat), k5 + 1 ≤ k6 → k6 ≤ k5 + 1 + 2001 * e1 → Gr L2 5 (Ak b2) c2 →
        Kn H H9 [(R.l, R.o k6), (gl, s3.o R)] ([(x6, .st [.int .i64 5, .str [], .sl true 4 [x.cells], c1, c2])] ++ L1 ++ L2) → s3.ok k6 → s2.left + 4 * ((k5 + 1 : Nat) : Int) ≤ s3.left + 4 * (k6 : Int) → s3.fns = s2.fns → s3.ffl = s2.ffl → A7 b2 → 4 * (k5 + 1) + Q8 b2 ≤ 4 * k6 →
        Ac prog Qv6 (X.inBlock 0 (X.sq prog TG (Q6 CB (unK H K)))) E1 H9 := by
      intro E1 hE c2 b2 L2 s3 H9 k6 e1 e2 dD kn e3 e4 e5 e6 e7 e8;have jL := kn.l 0 rfl;have sy := dD.ah;refine Qa ?_;simp only [go_sem, hE, jL, s0, sy];refine Ql ?_;simp only [go_sem, Q6, Aa, CB, Ja, forall_eq, RS.op];refine fin [St.mk 5 [] [x] b1 b2] _ s3 H9 k6 _ Zx Zx kn ?_ e3 Zx (e5.trans g7) (e6.trans g8) Zz ?_ ?_
      · simp only [Ak, St.cells, Ap]
        repeat' first | exact FrzL.nil | exact FrzR.nil | exact Qg rfl | exact FrzL.same (Ex.ak _) | exact FrzL.same (St.ak _) | refine FrzL.cons ?_ ?_ | refine FrzR.cons ?_ ?_ | refine FrzR.sl ?_
        · exact gy.frz (kn.perm KB) (GI _)
        · exact dD.frz kn (GI _)
      · simp only [A7, St.ok, A9]; exact ⟨⟨Zz, ⟨g3, trivial⟩, g10, e7⟩, trivial⟩
      · simp only [Q8, St.size, At]; omega
    refine Wu ?_ ?_
    · intro cz;refine Qp ?_;simp only [go_sem];refine ⟨Qr, ?_⟩;refine qA _ _ _ _ _ _ (deep - 1) Zx (kn.e 0 rfl) (kn.e 1 rfl) bx (dS.mono Zx) (jh.keep kn g7 g8) Zx fun b2 c2 L2 s3 H9 k6 q1 q2 hu dD ez j9 q3 q4 q5 q6 q7 q8 => ?_;have kn0 := kn;have kn := kn.callEE 0 1 rfl rfl ZK hu (R.aj _) (GS.aj _ _);have kn := kn0.addGr kn rfl rfl dD ez;have jL := kn.l 0 rfl;simp only [go_sem, Qqa, jL];intro H10 cS;have kn : Kn H H10 [(R.l, R.o k6), (gl, s3.o R)] ([(x6, _)] ++ L1 ++ L2) := kn.aB 0 rfl cS;exact rest _ (by simp [lk]) c2 b2 L2 s3 H10 k6 Zx Zx dD kn j9 Zx q4 q5 q7 Zx
    · intro cz;refine Qi ?_;simp only [go_sem];exact rest _ (by simp [lk]) _ [] [] s2 H8 (k5 + 1) Zx Zx (.nil 5) (by rw [List.append_nil]; exact kn) (dS.mono Zx) Zx rfl rfl trivial (by simp only [Q8]; omega)
  · intro pH;refine Qa ?_;simp only [go_sem, fH, GS.o];have rest : ∀ (b : Bool) (H3 : Heap) (k3 : Nat), k + 1 ≤ k3 → k3 ≤ k + 2 → Kn H H3 [(R.l, R.o k3), (gl, s1.o R)] [] →
        Ac prog Qv7 (X.inBlock 0 (X.sq prog TG (Q6 CB (unK H K))))
         [(0, V.c (C.ptr gl 0)), (1, .c (.int .i64 deep)), (109, .c (.bool b))] H3 := by
      intro b H3 k3 e3 e4 kn;refine Wv ?_ ?_
      · intro hb;refine Qa ?_;simp only [go_sem];refine Ek 2 Zx (kn.e 0 rfl) (kn.e 1 rfl) bx (db.mono Zx) (jh.keep kn rfl rfl) Zx fun x H4 k4 g1 g2 hu g3 g4 => ?_;have kn := kn.an 0 rfl hu (R.aj _);simp only [go_sem, Qqb, x.ax];refine Ql ?_;simp only [go_sem, Q6, Aa, CB, Ja, forall_eq, RS.op];refine fin [St.mk 7 [] [x] [] []] _ s1 H4 k4 _ Zx Zx kn ?_ (db.mono Zx) Zx rfl rfl Zz ?_ ?_
        · simp only [Ak, St.cells, Ap]
          repeat' first | exact FrzL.nil | exact FrzR.nil | exact Qg rfl | exact FrzL.same (Ex.ak _) | exact FrzL.same (St.ak _) | refine FrzL.cons ?_ ?_ | refine FrzR.cons ?_ ?_ | refine FrzR.sl ?_
        · simp only [A7, St.ok, A9]; exact ⟨⟨Zz, ⟨g3, trivial⟩, trivial, trivial⟩, trivial⟩
        · simp only [Q8, St.size, At]; omega
      · intro hb;refine Qi ?_;simp only [go_sem];refine Qa ?_;simp only [go_sem];refine zz _ _ _ _ _ _ deep Zx mq (kn.e 0 rfl) (kn.e 1 rfl) bx (db.mono Zx) (jh.keep kn rfl rfl) Zx fun l s2 H4 k4 g1 g2 hu g3 g4 g5 g6 g7 g8 g9 => ?_;have kn := kn.callEE 0 1 rfl rfl ZK hu (R.aj _) (GS.aj _ _);simp only [go_sem, Qqc];refine Ql ?_;simp only [go_sem, Q6, Aa, CB, Ja, forall_eq, RS.op];exact fin l _ s2 H4 k4 _ Zx Zx kn (Qg rfl) g3 Zx g5 g6 g7 g8 Zx
    refine ⟨fun hb => ?_, fun hb => ?_⟩
    · refine A5 (kn.e 0 rfl) Zx fun v2 H3 ge hu => ?_;have kn := kn.an 0 rfl hu (R.aj _);simp only [go_sem, Ve];exact rest _ H3 (k + 1 + 1) Zx Zx kn
    · simp only [go_sem, Ve, hb];exact rest _ H2 (k + 1) Zx Zx kn
theorem XW (d:Nat):BS d:=by
 induction d with
 |zero=>exact Ks (Iu (fun d' h=>absurd h Zx))
 |succ d ih=>exact Ks (Iu (fun d' h=>by
   have:d'=d:=Zx
   rw[this];exact ih))
set_option maxHeartbeats 1000000 in
theorem LJ {R:Rdr}{gl k:Nat}{s:GS}{name:List UInt8}{params:Int}{H:Heap}{K:V→Heap→Prop}(jA:0≤params)(hp3:params≤3)(hR:H R.l=R.o k)(hG:H gl=s.o R)(bx:R.l≠gl)(hs:s.ok k)(hF:FnsOk H R gl s)(hk:k+2001300≤2^30)
  (hK:∀(f:Fn) (s':GS) (H':Heap) (k':Nat),k<k'→k'≤k+2001300→Upd H H' [(R.l,R.o k'),(gl,s'.o R)]→s'.ok k'→s'.fns=s.fns→s'.ffl=s.ffl→f.params.length≤3→A7 f.body→4 * k+Q8 f.body≤4 * k'→K (.ag f.cells) H') :
  Qs prog RC [.c (.ptr gl 0),.c (.str name),.c (.int .i64 params)] H K:=by
 obtain⟨np,rfl⟩:=Jo jA;refine Qx ?_;refine Qc Ab Qbjh ?_;refine Za ?_;intro x6 aY H1 h1;have kn:=(Kn.start2 hR (R.aj k) hG (s.aj R) bx).al aY h1;have hD:=kn.e 1 rfl;refine Qa ?_;have etk:List.take np [[C.str [97]],[C.str [98]],[C.str [99]]]=A8 (List.take np [[97],[98],[99]]):=by simp[A8,List.map_take]
 simp only[go_sem,hD,GS.o,etk];refine⟨⟨Zx,Zx⟩,fun H2 h2=>?_⟩;have kn:Kn H H2 [(R.l,R.o k),(gl,GS.o { s with vars:=List.take np [[97],[98],[99]],vfl:=false } R)] [(x6,_)]:=kn.stE 1 rfl h2;have fH:=kn.e 1 rfl;refine Zr fH ?_;refine⟨Qr,fun H3 h3=>?_⟩;have kn:Kn H H3 [(R.l,R.o k),(gl,GS.o { s with vars:=List.take np [[97],[98],[99]],vfl:=false,next:=(np:Int)-1 } R)] [(x6,_)]:=kn.stE 1 rfl h3;have db:GS.ok { s with vars:=List.take np [[97],[98],[99]],vfl:=false,next:=(np:Int)-1 } k:=
  ⟨by show -1≤(np:Int)-1;omega,by show (np:Int)-1≤_;omega,hs.l0,hs.l1,by show (List.take np _).length≤_;simp;omega,hs.f,hs.fn⟩
 have bQ:(List.take np [[97],[98],[99]]:List (List UInt8)).length≤3:=ZD
 have fW:GS.fns { s with vars:=List.take np [[97],[98],[99]],vfl:=false,next:=(np:Int)-1 }=s.fns:=rfl;have qs:GS.ffl { s with vars:=List.take np [[97],[98],[99]],vfl:=false,next:=(np:Int)-1 }=s.ffl:=rfl;have j8:GS.vars { s with vars:=List.take np [[97],[98],[99]],vfl:=false,next:=(np:Int)-1 }=List.take np [[97],[98],[99]]:=rfl;rw[←j8]at bQ;have jh:FnsOk H R gl { s with vars:=List.take np [[97],[98],[99]],vfl:=false,next:=(np:Int)-1 }:=⟨hF.1,hF.2⟩;generalize ({ s with vars:=List.take np [[97],[98],[99]],vfl:=false,next:=(np:Int)-1 }:GS)=s1 at *;have nH:=kn.e 1 rfl;refine Qa ?_;have hL:s1.vars.length≤LIM:=ZM
 simp only[go_sem,nH,GS.o,Bj,Jg,Jq,hL];refine⟨.inl trivial,RA _,fun y hy H4 h4=>?_⟩;have kn:=kn.al hy h4;simp only[go_sem,Q5p];intro x7 bC H5 h5;have kn:=kn.al bC h5;have nS:=kn.l 2 rfl;simp only[go_sem,Q5o,nS];intro H6 h6;have kn:Kn H H6 [(R.l,R.o k),(gl,s1.o R)] [(x6,_),(y,_),(x7,_)]:=kn.aB 2 rfl h6;refine Za ?_;refine XW 3 _ _ _ _ _ _ 3 Zx (kn.e 0 rfl) (kn.e 1 rfl) bx db (jh.keep kn rfl rfl) Zx fun l c Lg s2 H7 k2 g1 g2 hu ao ez dS glf g3 g4 g5 g6 g7=>?_;have kn0:=kn;have kn:=kn.callEE 0 1 rfl rfl ZK hu (R.aj _) (GS.aj _ _);have kn:=kn0.addGr kn rfl rfl ao ez;have nQ:=kn.l 2 rfl;simp only[go_sem,Q5q,nQ];intro H8 h8;have kn:Kn H H8 [(R.l,R.o k2),(gl,s2.o R)] ([(x6,.st [.str [],.sl true 1 [],.sl true 5 []]),(y,.vec 1 (A8 s1.vars)),(x7,.st [.str name,.af y 1 0 s1.vars.length,c])]++Lg):=kn.aB 2 rfl h8;have xL:=kn.e 1 rfl;refine Q1 (Qa ?_);simp only[go_sem,xL,GS.o];have bH:=ao.ah;have rest:∀(E1:Env) (z8:lk 6 E1=V.c (C.ptr x6 0)) (z7:lk 7 E1=V.c (C.ptr x7 0)) (l2:List St) (c2:C) (rws:List (List C)) (L2:List (Nat×Obj)) (s3:GS) (H9:Heap) (k3:Nat),k<k3→k3≤k+2001300→
   Kn H H9 [(R.l,R.o k3),(gl,s3.o R)] ([(x6,.st [.str [],.sl true 1 [],.sl true 5 []]),(y,.vec 1 (A8 s1.vars)),(x7,.st [.str name,.af y 1 0 s1.vars.length,c2])]++L2)→Gr L2 5 rws c2→(∀H',FrzR H' (un H) rws (Ak l2))→
   s3.ok k3→s3.fns=s1.fns→s3.ffl=s1.ffl→A7 l2→4 * k+Q8 l2≤4 * k3→Ac prog SH (Q6 Ru (unK H K)) E1 H9:=by
  intro E1 z8 z7 l2 c2 rws L2 s3 H9 k3 e1 e2 kn dD eS e3 e4 e5 e6 e7;have jL:=kn.l 0 rfl;have uk:=kn.l 2 rfl;have bH:=dD.ah;refine Qa ?_;simp only[go_sem,z8,z7,jL,uk,bH];intro H10 cS;have kn:=kn.aB 0 rfl cS;have jK:=kn.l 0 rfl;have dZ:=kn.l 1 rfl;refine Zn jK bH ?_;refine⟨(.ag (Fn.mk name s1.vars l2).cells),?_,hK _ s3 _ k3 e1 e2 kn.fin e3 (e4.trans fW) (e5.trans qs) bQ e6 e7⟩;refine FrzL.ag (.cons (Qg rfl) (.cons ?_ (.cons ?_ .nil)))
  ·exact Fz (kn.un 1 rfl) dZ (by simp[A8]) (noOw_mem (RA _))
  ·exact dD.frzR (B:=[_,_,_]) kn (eS _)
 have tl:∀(b:Bool) (H9:Heap) (k3:Nat),k2≤k3→k3≤k2+1→(b=true→0<s2.left)→Kn H H9 [(R.l,R.o k3),(gl,s2.o R)] ([(x6,.st [.str [],.sl true 1 [],.sl true 5 []]),(y,.vec 1 (A8 s1.vars)),(x7,.st [.str name,.af y 1 0 s1.vars.length,c])]++Lg)→
   Ac prog (s_l3Gen_fn_7.seq SH) (Q6 Ru (unK H K)) [(0,V.c (C.ptr gl 0)),(6,V.c (C.ptr x6 0)),(7,V.c (C.ptr x7 0)),(42,.c (.bool b))] H9:=by
  intro b H9 k3 e1 e2 hb kn;have xK:=kn.e 1 rfl;refine Wu ?_ ?_
  ·intro hc;have yB:=hb hc;have iT:=dS.l1;refine Zr xK ?_;refine⟨Qr,fun H10 cS=>?_⟩;have kn:Kn H H10 [(R.l,R.o k3),(gl,GS.o { s2 with left:=s2.left-1 } R)] ([(x6,_),(y,_),(x7,_)]++Lg):=kn.stE 1 rfl cS;have j9:GS.ok { s2 with left:=s2.left-1 } k3:=⟨dS.n0,by have:=dS.n1;show s2.next≤_;omega,by show _≤s2.left-1;omega,by show s2.left-1≤100;omega,by have:=dS.v;show s2.vars.length≤_;omega,dS.f,dS.fn⟩;have nP:=kn.l 2 rfl;refine Au ?_;simp only[go_sem,nP,bH];refine Ek 2 Zx (kn.e 0 rfl) (kn.e 1 rfl) bx j9 (jh.keep kn g3 g4) Zx fun x H11 k4 q1 q2 hu q3 q4=>?_;have kn:=kn.an 0 rfl hu (R.aj _);have lB:=kn.l 2 rfl;simp only[go_sem,Q5s,lB,bH,x.ax];refine kn.grow (B:=[_,_,_]) ao (.mk' _ _ _ _) (by intro r hr;simp only[Ja]at hr;subst hr;rfl) (by simp only[Bw,LIM,Jk,Jn];omega) fun y' H12 kn=>?_;have uj:=kn.l 2 rfl;simp only[go_sem,Q5r,uj];intro H13 kY;have kn:=kn.aB 2 rfl kY;refine rest _ Zy Zy (l++[St.mk 7 [] [x] [] []]) _ _ _ _ H13 k4 Zx Zx kn (.mk _ _ _ (by simp[Bw])) (fun H'=>?_) (j9.mono Zx) g3 g4 (F5 g6 ?_) ?_
   ·rw[←F6];refine .app (.same (GI _)) ?_;simp only[Ak,St.cells,Ap]
    repeat' first|exact FrzL.nil|exact FrzR.nil|exact Qg rfl|exact FrzL.same (Ex.ak _)|exact FrzL.same (St.ak _)|refine FrzL.cons ?_ ?_|refine FrzR.cons ?_ ?_|refine FrzR.sl ?_
   ·simp only[A7,St.ok,A9];exact⟨⟨Zz,⟨q3,trivial⟩,trivial,trivial⟩,trivial⟩
   ·simp only[HG,Q8,St.size,At];omega
  ·intro hc;refine Ze ?_;exact rest _ Zy Zy l c _ Lg s2 H9 k3 Zx Zx kn ao (fun H'=>.same (GI _)) (dS.mono Zx) g3 g4 g6 Zx
 refine⟨fun hb=>?_,fun hb=>?_⟩
 ·refine A5 (kn.e 0 rfl) Zx fun v H9 hv hu=>?_;have kn:=kn.an 0 rfl hu (R.aj _);simp only[go_sem,Tr,hb];exact tl _ H9 (k2+1) Zx Zx (fun _=>ZQ) kn
 ·simp only[go_sem,Tr,hb];exact tl false H8 k2 Zx Zx (fun h=>ZF) kn
variable {H:Heap}{K:V→Heap→Prop}
theorem SV {l:List Ex}{i:Nat}(h:i<l.length):At (l.take (i+1))=At (l.take i)+(l[i]'h).size:=by
 rw[Jj h,Q0z];simp[At]
theorem SF {l:List St}{i:Nat}(h:i<l.length):Q8 (l.take (i+1))=Q8 (l.take i)+(l[i]'h).size:=by
 rw[Jj h,HG];simp[Q8]
theorem TY (l:List Ex)(i:Nat):At (l.take i)≤At l:=by
 conv=>rhs;rw[←Jw i l,Q0z]
 omega
theorem TF (l:List St)(i:Nat):Q8 (l.take i)≤Q8 l:=by
 conv=>rhs;rw[←Jw i l,HG]
 omega
theorem St.size_pos (x:St):1≤x.size:=by rw[x.size_eq];omega
theorem LP (l:List St):l.length≤Q8 l:=by
 induction l with
 |nil=>simp
 |cons x r ih=>simp only[Jk,Q8];have:=x.size_pos;omega
theorem Qboa:∀(n:Nat) (x:Ex) {H:Heap} {K:V→Heap→Prop},x.size≤n→x.size≤2^40→K (.c (.int .i64 x.size)) H→Qs prog Ry [.ag x.cells] H K:=by
 intro n
 induction n with
 |zero=>intro x _ _ h;have:=x.size_pos;omega
 |succ n ih=>
 intro x H K hn hb hK;have bz:=x.size_kids;refine Qc Ab Qbo3 ?_;refine Zs ?_;refine Wf ?_;refine Qh (Qd (Qw (fun n e1 H1=>∃i:Nat,n=x.kids.length-i∧i≤x.kids.length∧H1=H∧e1=[(1,.c (.pp [.int .i64 x.op,.int .i64 x.n,.str x.name,.sl false 4 (Ap x.kids)])),(3,.c (.int .i64 ((1+At (x.kids.take i):Nat):Int))),(4,.c (.int .i64 i))]) x.kids.length ?_ ?_))
 ·exact⟨0,Zx,Zx,rfl,by simp[At]⟩
 ·rintro n e1 H1 ⟨i,hn,hi,rfl,rfl⟩;refine Q1 (Qa ?_);simp only[go_sem,Bk];intro hl;simp only[LIM]at hl;refine Wu ?_ ?_
  ·intro hc;have ae:i<x.kids.length:=ZA
   have hm:=GP (Jc ae);have bN:=SV ae;have lH:=TY x.kids (i+1);refine Ze ?_;refine Qh (Qd (Qp ?_));simp only[go_sem,ae,Bk,Ev _ _ ae,Ex.cn,Ex.bv,Ex.ax];refine ih _ Zx Zx ?_;simp only[go_sem,OJ];refine⟨Qr,?_⟩;refine Zf ?_;refine⟨Qr,x.kids.length-(i+1),Zx,i+1,rfl,Zx,?_⟩;rw[bN];simp;omega
  ·intro hc;have bd:x.kids.length≤i:=ZA
   refine Wh ?_;rw[Jd bd,←bz];exact hK
theorem Qbt2:∀(n:Nat) (x:Ex) {H:Heap} {K:V→Heap→Prop} (deep:Int),x.size≤n→deep≤100→(∀b:Bool,K (.c (.bool b)) H)→Qs prog SD [.ag x.cells,.c (.int .i64 deep)] H K:=by
 intro n
 induction n with
 |zero=>intro x _ _ _ h;have:=x.size_pos;omega
 |succ n ih=>
 intro x H K deep hn hd hK;have bz:=x.size_kids;refine Qc Ab Qbui ?_;refine Zs ?_;refine Za ?_;refine Qbt3 fun lo hi=>?_;simp only[go_sem,MW,Jx,J6];refine Wa ?_;have retf:∀(b:Bool) (e:Env),lk 4 e=.c (.bool b)→Q6 Rp K .ret e H:=by
  intro b e h1;simp only[go_sem,Q6,Aa,Ja,forall_eq,RS.op,h1];exact hK _
 have rest:∀b:Bool,(b=false→1≤deep)→Ac prog (s_l2Form_3.seq MX) (Q6 Rp K)
   [(1,.c (.int .i64 deep)),(2,.c (.pp [.int .i64 x.op,.int .i64 x.n,.str x.name,.sl false 4 (Ap x.kids)])),(31,.c (.bool b))] H:=by
  intro b hb;refine Wu ?_ ?_
  ·intro hc;refine We ?_;exact retf false _ Zy
  intro hc;have mq:=hb hc;refine Ze ?_;refine Wf ?_;refine DV fun b1=>?_;simp only[go_sem,MV];have rest2:∀b:Bool,Ac prog (s_l2Form_6.seq MY) (Q6 Rp K)
    [(1,.c (.int .i64 deep)),(2,.c (.pp [.int .i64 x.op,.int .i64 x.n,.str x.name,.sl false 4 (Ap x.kids)])),(69,.c (.bool b))] H:=by
   intro b;refine Wu ?_ ?_
   ·intro hc;refine We ?_;exact retf false _ Zy
   intro hc;refine Ze ?_;refine Wa ?_;refine Qh (Qd (Qw (fun n e1 H1=>∃i:Nat,n=x.kids.length-i∧i≤x.kids.length∧H1=H∧e1=[(1,.c (.int .i64 deep)),(2,.c (.pp [.int .i64 x.op,.int .i64 x.n,.str x.name,.sl false 4 (Ap x.kids)])),(8,.c (.int .i64 i))]) x.kids.length ?_ ?_))
   ·exact⟨0,Zx,Zx,rfl,rfl⟩
   ·rintro n e1 H1 ⟨i,hn,hi,rfl,rfl⟩;refine Q1 (Qa ?_);simp only[go_sem,Bk];intro hl;simp only[LIM]at hl;refine Wu ?_ ?_
    ·intro hc;have ae:i<x.kids.length:=ZA;have hm:=GP (Jc ae);refine Wo ?_;simp only[go_sem,ae,Bk,Ev _ _ ae,Ex.cn,Ex.bv,Ex.ax];refine⟨Qr,?_⟩;refine ih _ (deep-1) Zx Zx fun b2=>?_;simp only[go_sem,MQ];refine Wv ?_ ?_
     ·intro aC;refine Wp ?_;exact retf false _ Zy
     ·intro aC;refine Wl ?_;exact⟨Qr,x.kids.length-(i+1),Zx,i+1,rfl,Zx,rfl⟩
    ·intro hc;refine Wc ?_;refine Ql ?_;exact retf true _ Zy
  refine⟨fun bj=>?_,fun bj=>?_⟩
  ·refine AS ?_;simp only[go_sem,Q2j];exact rest2 _
  ·replace bj:=AD bj;simp only[go_sem,Q2j,bj];exact rest2 _
 refine⟨fun bj=>?_,fun bj=>?_⟩
 ·replace bj:=B4 bj;have mq:1≤deep:=by simp at bj;omega
  refine AS ?_;simp only[go_sem,Q2i,bj,Bk,cond_false];intro hl;refine⟨fun bX=>?_,fun bX=>?_⟩
  ·refine AS ?_;simp only[go_sem,RG];exact rest _ (fun _=>mq)
  ·replace bX:=AD bX;simp only[go_sem,RG,bX];exact rest _ (fun _=>mq)
 ·replace bj:=AD bj;simp only[go_sem,Q2i,RG,bj,Bk,cond_true];exact rest _ (fun h=>ZF)
theorem Qa8h {x:Ex}(hx:x.size≤2^40)(hK:∀b:Bool,K (.c (.bool b)) H):Qs prog TM [.ag x.cells] H K:=by
 refine Qc Ab Qao2 ?_;refine Qa ?_;simp only[go_sem,Ex.ne_nil];refine Qa ?_;simp only[go_sem,Ex.cn,Ex.bv,Ex.ax];refine Qbt2 x.size x 6 (Jf _) Zx fun b=>?_;simp only[go_sem,Qnt,Ex.cn,Ex.bv,Ex.ax];refine⟨fun hb=>?_,fun hb=>?_⟩
 ·refine Qboa x.size x (Jf _) hx ?_;simp only[go_sem,Vj];refine Zb ?_;exact hK _
 ·simp only[go_sem,Vj,hb];refine Zb ?_;exact hK _
def St.raw (x:St):List C:=[.int .i64 x.op,.str x.name,.sl false 4 (Ap x.args),.sl false 5 (Ak x.body),.sl false 5 (Ak x.els)]
theorem Qbod:∀(n:Nat) (l:List St) {fl:Bool} {H:Heap} {K:V→Heap→Prop},Q8 l≤n→Q8 l≤2^40→(∀v:Nat,v≤Q8 l→K (.c (.int .i64 v)) H)→Qs prog HC [.c (.sl fl 5 (Ak l))] H K:=by
 intro n
 induction n using Nat.strongRecOn with
 |ind n ih=>
 intro l fl H K hn hb hK;have am:=LP l;refine Qc Ab Qbo6 ?_;refine Wg ?_;simp only[go_sem,Bw];intro hl;refine Wa ?_;refine Qh (Qd (Qw (fun n e1 H1=>∃(i v:Nat),n=l.length-i∧i≤l.length∧v≤(l.length-i)+Q8 (l.take i)∧H1=H∧e1=[(0,.c (.sl fl 5 (Ak l))),(3,.c (.int .i64 v)),(4,.c (.int .i64 i))]) l.length ?_ ?_))
 ·exact⟨0,l.length,Zx,Zx,Zx,rfl,rfl⟩
 ·rintro n e1 H1 ⟨i,v,dk,hi,hv,rfl,rfl⟩;refine Q1 (Qa ?_);simp only[go_sem,Bw];simp only[LIM]at hl;refine fun _=>?_;refine Wu ?_ ?_
  ·intro hc;have ae:i<l.length:=ZA
   have hm:=R9 (Jc ae);have bN:=SF ae;have lH:=TF l (i+1);have hse:=(l[i]'ae).size_eq;refine Wn ?_;simp only[go_sem,ae,Bw,Ey _ _ ae,St.aF];refine ih (Q8 l[i].body) Zx l[i].body (Jf _) Zx fun a ha=>?_;simp only[go_sem,OG,ae,Bw,Ey _ _ ae,St.aF];refine⟨Qr,?_⟩;refine ih (Q8 l[i].els) Zx l[i].els (Jf _) Zx fun c hc=>?_;simp only[go_sem,OH];refine⟨Qr,?_⟩;refine Zf ?_;refine⟨Qr,l.length-(i+1),Zx,i+1,v+a+c,rfl,Zx,Zx,rfl⟩
  ·intro hc;have bd:l.length≤i:=ZA
   refine Wh ?_;rw[Jd bd]at hv;exact hK v Zx
def KD (n:Nat):Prop:=∀(x:St) (deep:Int) (H:Heap) (K:V→Heap→Prop),x.size≤n→x.size≤2^40→deep≤100→(∀b:Bool,K (.c (.bool b)) H)→Qs prog Gg [.ag x.cells,.c (.int .i64 deep)] H K
def EW (n:Nat):Prop:=∀(l:List St) (deep:Int) (fl:Bool) (H:Heap) (K:V→Heap→Prop),Q8 l≤n→Q8 l≤2^40→deep≤100→(∀b:Bool,K (.c (.bool b)) H)→Qs prog HB [.c (.sl fl 5 (Ak l)),.c (.int .i64 deep)] H K
theorem Yi {n:Nat}(hS:KD n):EW n:=by
 intro l deep fl H K hn hb hd hK;refine Qc Ab Qbo7 ?_;have retf:∀(b:Bool) (e:Env),lk 4 e=.c (.bool b)→Q6 FE K .ret e H:=by
  intro b e h1;simp only[go_sem,Q6,Aa,Ja,forall_eq,RS.op,h1];exact hK _
 refine Wf ?_;refine Qh (Qd (Qw (fun n e1 H1=>∃(i:Nat),n=l.length-i∧i≤l.length∧H1=H∧e1=[(0,.c (.sl fl 5 (Ak l))),(1,.c (.int .i64 deep)),(5,.c (.int .i64 i))]) l.length ?_ ?_))
 ·exact⟨0,Zx,Zx,rfl,rfl⟩
 ·rintro n e1 H1 ⟨i,dk,hi,rfl,rfl⟩;refine Q1 (Qa ?_);simp only[go_sem,Bw];intro hl;simp only[LIM]at hl;refine Wu ?_ ?_
  ·intro hc;have ae:i<l.length:=ZA
   have hm:=R9 (Jc ae);refine Wo ?_;simp only[go_sem,ae,Bw,Ey _ _ ae,St.take5,St.bv,St.ax];refine hS _ deep _ _ Zx Zx hd fun b=>?_;simp only[go_sem,NT];refine Wv ?_ ?_
   ·intro aC;refine Wp ?_;exact retf false _ Zy
   ·intro aC;refine Wl ?_;exact⟨Qr,l.length-(i+1),Zx,i+1,rfl,Zx,rfl⟩
  ·intro hc;refine Wc ?_;refine Ql ?_;exact retf true _ Zy
theorem Qb0l {n:Nat}(hS:∀m,m<n→EW m):KD n:=by
 intro x deep H K hn hb hd hK;have bz:=x.size_eq;refine Qc Ab Qbun ?_;have retf:∀(b:Bool) (e:Env),lk 4 e=.c (.bool b)→Q6 DM K .ret e H:=by
  intro b e h1;simp only[go_sem,Q6,Aa,Ja,forall_eq,RS.op,h1];exact hK _
 refine Zs ?_;refine Q1 (Aj ?_);simp only[go_sem];have rest:∀b:Bool,(b=false→1≤deep∧x.args.length=if x.op=4 then 2 else 1)→Ac prog (s_l3Stmt_2.seq M8) (Q6 DM K)
   [(1,.c (.int .i64 deep)),(2,.c (.pp [.int .i64 x.op,.str x.name,.sl false 4 (Ap x.args),.sl false 5 (Ak x.body),.sl false 5 (Ak x.els)])),(23,.c (.bool b))] H:=by
  intro b hb;refine Wu ?_ ?_
  ·intro hc;refine We ?_;exact retf false _ Zy
  intro hc;obtain⟨mq,dM⟩:=hb hc;have j4:0<x.args.length:=by rw[dM];split <;> omega
  refine Ze ?_;refine Wf ?_;refine DV fun b1=>?_;simp only[go_sem,M7];refine Wu ?_ ?_
  ·intro hc;refine We ?_;exact retf false _ Zy
  intro hc;refine Ze ?_;refine Wa ?_;refine Qh (Qd (Qw (fun n e1 H1=>∃(i:Nat),n=x.args.length-i∧i≤x.args.length∧H1=H∧e1=[(1,.c (.int .i64 deep)),(2,.c (.pp [.int .i64 x.op,.str x.name,.sl false 4 (Ap x.args),.sl false 5 (Ak x.body),.sl false 5 (Ak x.els)])),(6,.c (.int .i64 i))]) x.args.length ?_ ?_))
  ·exact⟨0,Zx,Zx,rfl,rfl⟩
  ·rintro n e1 H1 ⟨i,dk,hi,rfl,rfl⟩;refine Q1 (Qa ?_);simp only[go_sem,Bk];intro hl;simp only[LIM]at hl;refine Wu ?_ ?_
   ·intro hc;have ae:i<x.args.length:=ZA;have hm:=GP (Jc ae);refine Wo ?_;simp only[go_sem,ae,Bk,Ev _ _ ae,Ex.cn,Ex.bv,Ex.ax];refine Qa8h Zx fun b=>?_;simp only[go_sem,M6];refine Wv ?_ ?_
    ·intro aC;refine Wp ?_;exact retf false _ Zy
    ·intro aC;refine Wl ?_;exact⟨Qr,x.args.length-(i+1),Zx,i+1,rfl,Zx,rfl⟩
   ·intro hc;refine Zc ?_;refine Q1 (Qa ?_);simp only[go_sem,j4,Bk,Ev _ _ j4,Ex.aF];refine⟨fun _=>Int.le_refl _,?_⟩;refine Wu ?_ ?_
    ·intro hc;refine We ?_;exact retf false _ Zy
    intro hc;refine Ze ?_;refine Q1 (Qa ?_);simp only[go_sem,Bw]
    intros
    refine Wu ?_ ?_
    ·intro hc;refine We ?_;exact retf false _ Zy
    intro hc;refine Ze ?_;refine Za ?_;refine⟨Qr,?_⟩;refine hS (Q8 x.body) Zx _ _ _ _ _ (Jf _) Zx Zx fun b1=>?_;simp only[go_sem,NU];refine⟨fun _=>Qr,?_⟩;refine⟨fun bj=>?_,fun bj=>?_⟩
    ·refine hS (Q8 x.els) Zx _ _ _ _ _ (Jf _) Zx Zx fun b2=>?_;simp only[go_sem,SG];refine Ql ?_;exact retf _ _ ZE
    ·simp only[go_sem,SG,bj];refine Ql ?_;exact retf false _ Zy
 refine⟨fun bj=>?_,fun bj=>?_⟩
 ·replace bj:=B4 bj;have mq:1≤deep:=by simp at bj;omega
  refine AS ?_;simp only[go_sem,Q2l,bj,Bk,cond_false];refine⟨fun bX=>?_,fun bX=>?_⟩
  ·refine Qbt5 ?_;simp only[go_sem,RE,Bk];refine rest _ (fun h=>⟨mq,?_⟩);have h1:(x.args.length:Int)=if x.op=4 then 2 else 1:=by
    cases h2:decide (1≤x.op∧x.op≤8) <;> rw[h2]at h <;> simp_all
   by_cases h4:x.op=4
   ·rw[if_pos h4]at h1⊢;omega
   ·rw[if_neg h4]at h1⊢;omega
  ·replace bX:=AD bX;simp only[go_sem,RE,bX,Bk];exact rest _ (fun h=>ZF)
 ·replace bj:=AD bj;simp only[go_sem,Q2l,RE,bj,Bk,cond_true];exact rest _ (fun h=>ZF)
theorem Qb0m (n:Nat):EW n:=by
 induction n using Nat.strongRecOn with
 |ind n ih=>exact Yi (Qb0l ih)
theorem Qb1t {f:Fn}(hf:Q8 f.body≤2^40)(hK:∀b:Bool,K (.c (.bool b)) H):Qs prog Gt [.ag f.cells] H K:=by
 refine Qc Ab Qb1y ?_;have retf:∀(b:Bool) (e:Env),lk 2 e=.c (.bool b)→Q6 EO K .ret e H:=by
  intro b e h1;simp only[go_sem,Q6,Aa,Ja,forall_eq,RS.op,h1];exact hK _
 refine Qa ?_;simp only[go_sem,Fn.cells];refine Wa ?_;refine Qh (Qd (Qw (fun n e1 H1=>∃(i:Nat),n=f.params.length-i∧i≤f.params.length∧H1=H∧e1=[(1,.c (.pp [.str f.name,.sl false 1 (A8 f.params),.sl false 5 (Ak f.body)])),(3,.c (.int .i64 i))]) f.params.length ?_ ?_))
 ·exact⟨0,Zx,Zx,rfl,rfl⟩
 ·rintro n e1 H1 ⟨i,dk,hi,rfl,rfl⟩;refine Q1 (Qa ?_);simp only[go_sem,Bj];intro hl;simp only[LIM]at hl;refine Wu ?_ ?_
  ·intro hc;have ae:i<f.params.length:=ZA
   refine Wo ?_;simp only[go_sem,ae,Bj,HH _ _ ae];refine DV fun b=>?_;simp only[go_sem,PQ];refine Wv ?_ ?_
   ·intro aC;refine Wp ?_;exact retf false _ Zy
   ·intro aC;refine Wl ?_;exact⟨Qr,f.params.length-(i+1),Zx,i+1,rfl,Zx,rfl⟩
  ·intro hc;refine Wc ?_;refine DV fun b=>?_;simp only[go_sem,PP,Bj]
   intros
   refine⟨fun bj=>?_,fun bj=>?_⟩
   ·refine Qb0m _ _ _ _ _ _ (Jf _) hf Zx fun b2=>?_;simp only[go_sem,FA];refine Ql ?_;exact retf _ _ ZE
   ·simp only[go_sem,FA,bj];refine Ql ?_;exact retf false _ Zy
def AM:List Fn→Nat
 |[]=>0
 |f::r=>Q8 f.body+AM r
theorem SO {l:List Fn}{f:Fn}(h:f∈l):Q8 f.body≤AM l:=by
 induction l with
 |nil=>simp at h
 |cons g r ih=>
  simp only[AM];rcases List.mem_cons.1 h with rfl|h
  ·omega
  ·have:=ih h;omega
theorem RO (a b:List Fn):AM (a++b)=AM a+AM b:=by
 induction a with
 |nil=>simp[AM]
 |cons x r ih=>simp only[Jr,AM,ih];omega
theorem Qavg {l:List Fn}{i:Nat}(h:i<l.length):AM (l.take (i+1))=AM (l.take i)+Q8 (l[i]'h).body:=by
 rw[Jj h,RO];simp[AM]
theorem Qadm (l:List Fn)(i:Nat):AM (l.take i)≤AM l:=by
 conv=>rhs;rw[←Jw i l,RO]
 omega
theorem VT {l:List Fn}{fl:Bool}(hf:AM l≤2^40)(hK:∀n:Int,K (.c (.int .i64 n)) H):Qs prog F1 [.ag [.sl fl 3 (Az l)]] H K:=by
 refine Qc Ab VJ ?_;refine Wb ?_;refine Wa ?_;refine Qh (Qd (Qw (fun n e1 H1=>∃(i v:Nat),n=l.length-i∧i≤l.length∧v≤AM (l.take i)∧H1=H∧e1=[(1,.c (.pp [.sl fl 3 (Az l)])),(3,.c (.int .i64 v)),(4,.c (.int .i64 i))]) l.length ?_ ?_))
 ·exact⟨0,0,Zx,Zx,Zx,rfl,rfl⟩
 ·rintro n e1 H1 ⟨i,v,dk,hi,hv,rfl,rfl⟩;refine Q1 (Qa ?_);simp only[go_sem,BK];intro hl;simp only[LIM]at hl;refine Wu ?_ ?_
  ·intro hc;have ae:i<l.length:=ZA
   have hm:=SO (Jc ae);have bN:=Qavg ae;have lH:=Qadm l (i+1);refine Ze ?_;refine Qh (Qd (Qp ?_));simp only[go_sem,ae,BK,GK _ _ ae,Fn.cells];refine Qbod _ _ (Jf _) Zx fun c hc=>?_;simp only[go_sem,Lb];refine⟨Qr,?_⟩;refine Zf ?_;exact⟨Qr,l.length-(i+1),Zx,i+1,v+c,rfl,Zx,Zx,rfl⟩
  ·intro hc;refine Wh ?_;exact hK _
theorem Qaom {l:List Fn}{fl:Bool}(hf:AM l≤2^40)(hK:∀b:Bool,K (.c (.bool b)) H):Qs prog Vt [.ag [.sl fl 3 (Az l)]] H K:=by
 refine Qc Ab Q7e ?_;have retf:∀(b:Bool) (e:Env),lk 2 e=.c (.bool b)→Q6 Vk K .ret e H:=by
  intro b e h1;simp only[go_sem,Q6,Aa,Ja,forall_eq,RS.op,h1];exact hK _
 refine Wj ?_;simp only[go_sem,BK];intro hl;simp only[LIM]at hl;refine AS ?_;simp only[go_sem,Qhu];refine Wu ?_ ?_
 ·intro hc;refine We ?_;exact retf false _ Zy
 intro hc;refine Ze ?_;refine Wa ?_;refine Qh (Qd (Qw (fun n e1 H1=>∃(i:Nat),n=l.length-i∧i≤l.length∧H1=H∧e1=[(1,.c (.pp [.sl fl 3 (Az l)])),(3,.c (.int .i64 i))]) l.length ?_ ?_))
 ·exact⟨0,Zx,Zx,rfl,rfl⟩
 ·rintro n e1 H1 ⟨i,dk,hi,rfl,rfl⟩;refine Q1 (Qa ?_);simp only[go_sem,BK];refine fun _=>?_;refine Wu ?_ ?_
  ·intro hc;have ae:i<l.length:=ZA
   have hm:=SO (Jc ae);refine Wo ?_;simp only[go_sem,ae,BK,GK _ _ ae,Fn.take3,Fn.bv,Fn.ax];refine Qb1t Zx fun b=>?_;simp only[go_sem,Qhv];refine Wv ?_ ?_
   ·intro aC;refine Wp ?_;exact retf false _ Zy
   ·intro aC;refine Wl ?_;exact⟨Qr,l.length-(i+1),Zx,i+1,rfl,Zx,rfl⟩
  ·intro hc;refine Wc ?_;refine VT hf fun n=>?_;simp only[go_sem,Qhw];refine Ql ?_;exact retf _ _ ZE
end Go.AE.Y
namespace Go.AE.Y
open Go.Proofs.Tryz
structure PrOk (l:List Fn):Prop where
 pos:0<l.length
 par:∀f∈l,f.params.length≤3
 ok:∀f∈l,A7 f.body
 size:AM l≤2^34
 len:l.length≤4
end Go.AE.Y
namespace Go.AE
open Go.AE.Y
open Go.Proofs.Tryz
theorem Kn.perm4 {H0 H:Heap}{E:List (Nat×Obj)}{a b c d:Nat×Obj}(kn:Kn H0 H E [a,b,c,d]):Kn H0 H E [a,b,d]:=
 Kn.drop (A:=[a,b,d]) (B:=[c]) (kn.perm (.cons _ (.cons _ (.swap _ _ _))))
end Go.AE
namespace Go.AE.Y
open Go.Proofs.Tryz
set_option maxHeartbeats 2000000 in
theorem Qbt6 {R:Rdr}{k:Nat}{H:Heap}{K:V→Heap→Prop}(hR:H R.l=R.o k)(hk:k+7000000≤2^30)
  (hK:∀(l:List Fn) (H':Heap) (k':Nat),k<k'→k'≤k+7000000→Upd H H' [(R.l,R.o k')]→PrOk l→K (.ag [.sl false 3 (Az l)]) H') :
  Qs prog Gh [.c (.ptr R.l 0)] H K:=by
 refine Qx ?_;refine Qc Ab Qbum ?_;refine Za ?_;intro x2 aI H1 h1;have kn:=(Kn.start1 hR (R.aj k)).al aI h1;refine Za ?_;refine Bf (ns:=[14,20,8,26]) (kn.e 0 rfl) Zx Zz fun v H2 hv hu=>?_;have kn:=kn.an 0 rfl hu (R.aj _);simp only[go_sem,ME];intro gl dX H3 h3;have kn:Kn H H3 [(R.l,R.o (k+1))] [(x2,.st [.sl true 3 []]),(gl,GS.o ⟨[],(.sl true 3 [],[]),[],true,0,v⟩ R)]:=kn.al dX h3;have hv26:0≤v∧v≤26:=by simp at hv;omega
 simp only[go_sem,MF];have bx:R.l≠gl:=kn.ne 0 1 rfl rfl;refine Wa ?_;refine Bf (ns:=[0,1,1,2]) (kn.e 0 rfl) Zx Zz fun cnt H4 wT hu=>?_;have kn:=kn.an 0 rfl hu (R.aj _);have aC:0≤cnt∧cnt≤2:=by simp at wT;omega
 simp only[go_sem,MD];obtain⟨M,hM⟩:∃M:Nat,M=2001301:=⟨_,rfl⟩;refine Qh (Qd (Qw (fun n e1 H1=>∃(j k4:Nat) (s:GS),n=cnt.toNat-j∧(j:Int)≤cnt∧s.fns.length=j∧k+2≤k4∧k4≤k+2+M * j∧s.ok k4∧(∀f∈s.fns,A7 f.body)∧4 * k+AM s.fns≤4 * k4∧
   Gr s.ffl.2 3 (Az s.fns) s.ffl.1∧Kn H H1 [(R.l,R.o k4)] ([(x2,.st [.sl true 3 []]),(gl,s.o R)]++s.ffl.2)∧
   e1=[(0,.c (.ptr R.l 0)),(2,.c (.ptr x2 0)),(3,.c (.ptr gl 0)),(4,.c (.int .i64 (cnt-j)))]) cnt.toNat ?_ ?_))
 ·refine⟨0,k+2,⟨[],(.sl true 3 [],[]),[],true,0,v⟩,Zx,Zx,rfl,Zx,Zx,⟨?_,?_,?_,?_,Zz,Zz,Zz⟩,Zz,by simp only[AM];omega,.nil 3,kn,Zz⟩
  ·show -1≤(0:Int);omega
  ·show (0:Int)≤_;omega
  ·show _≤v;omega
  ·show v≤100;omega
 ·rintro n e1 H1 ⟨j,k4,s,hn,hj,gA,f9,wo,hs,sf,bz,ao,kn,rfl⟩;have hMj:M * j≤M * 2:=Jz _ Zx;have zv:M * (j+1)=M * j+M:=Jal _ _;have hD:=kn.l 1 rfl;have jv:=ao.ah;have gS:=ao.ay;rw[BK]at gS;refine Wa ?_;refine Wu ?_ ?_
  ·intro hc;have hi:(j:Int)<cnt:=by simp at hc;omega
   refine Wd ?_;have sd:=(ao.bh (B:=[_,_]) kn);have eg:List.getD [[C.str [102]],[C.str [103]],[C.str [104]]] s.fns.length []=[.str (List.getD [[102],[103],[104]] s.fns.length [])]:=HH [[102],[103],[104]] _ ZD;have qq:s.fns.length<3:=Zx
   refine Aj ?_;simp only[go_sem,hD,GS.o,jv,gS,eq_true sd,eg,qq];refine A5 (kn.e 0 rfl) Zx fun p H2 hp hu=>?_;have kn:Kn H H2 [(R.l,R.o (k4+1))] ([(x2,.st [.sl true 3 []]),(gl,s.o R)]++s.ffl.2):=kn.an 0 rfl hu (R.aj _);rw[if_neg Zx]at hp;have fH:=kn.l 1 rfl;have sb:=(ao.bh (B:=[_,_]) kn);simp only[go_sem,MA,fH,GS.o,jv,gS,eq_true sb,eg,qq];have hF:FnsOk H2 R gl s:=⟨ao,fun q hq=>by
    have h1:=kn.get q (Jh _ (Jh _ hq));refine⟨h1.1,fun hh=>?_,fun hh=>?_⟩
    ·exact kn.usedE 0 rfl (hh▸kn.loc q (Jh _ hq))
    ·have:=kn.dL;rw[Jv]at this;exact (J8.1 this).2.2 gl Zz q.1 (A1 hq) hh.symm⟩
   refine LJ hp.1 Zx (kn.e 0 rfl) (kn.l 1 rfl) bx (hs.mono (Jag k4)) hF Zx fun f s2 H5 k5 g1 g2 hu dS g3 g4 g5 g6 g7=>?_;have kn:=kn.callEL 0 1 rfl rfl hu (R.aj _) (GS.aj _ _);have kn:Kn H H5 [(R.l,R.o k5)] ([(x2,.st [.sl true 3 []]),(gl,s2.o R)]++s.ffl.2):=kn;simp only[go_sem,MB];intro x5 bf H6 h6;have kn:=kn.al bf h6;have kn:=kn.perm (L':=[(x2,_),(gl,_),(x5,_)]++s.ffl.2) (by
    simp only[Jr,Jq];exact .cons _ (.cons _ Ji))
   have hG6:=kn.l 1 rfl;have ut:=kn.l 2 rfl;have sa:=(ao.bh (B:=[_,_,_]) kn);simp only[go_sem,MC,hG6,ut,GS.o,g4,jv,gS,eq_true sa,eg,qq,Fn.cells];intro H7 h7;have kn:Kn H H7 [(R.l,R.o k5)] ([(x2,_),(gl,_),(x5,_)]++s.ffl.2):=kn.aB 2 rfl h7;have sT:=kn.l 1 rfl;have nU:=kn.l 2 rfl;refine Au ?_;simp only[go_sem,sT,nU,GS.o,g4,jv];refine kn.grow (B:=[_,_,_]) (new:=[f.cells]) ao (.mk' _ _ _ _) (by simp[f.ak]) (by simp only[BK,LIM,Jk,Jn];omega) fun z H8 kn=>?_;have xL:=kn.l 1 rfl;simp only[go_sem,M9,xL,GS.o];intro H9 h9;have kn:=kn.aB 1 rfl h9;obtain⟨s9,o8⟩:∃s9:GS,s9=GS.mk (s.fns++[f]) (C.af z 3 0 ((Az s.fns).length+1),[(z,Obj.vec 3 (Az s.fns++[f.cells]))]) s2.vars s2.vfl s2.next s2.left:=⟨_,rfl⟩;have tw:s9.o R=.st [C.ptr R.l 0,C.af z 3 0 ((Az s.fns).length+1),C.sl s2.vfl 1 (A8 s2.vars),C.int IntKind.i64 s2.next,C.int IntKind.i64 s2.left]:=by rw[o8];rfl
   rw[←tw]at kn;have kn:Kn H H9 [(R.l,R.o k5)] [(x2,_),(gl,s9.o R),(x5,_),(z,_)]:=kn;have kn:=kn.perm4;refine Zf ?_;have gr:k5≤k+2+M * (j+1):=by rw[zv];omega
   refine⟨Qr,cnt.toNat-(j+1),Zx,j+1,k5,s9,rfl,Zx,by simp[o8,gA],Zx,gr,?_,?_,?_,?_,by rw[o8]at kn⊢;exact kn,?_⟩
   ·subst o8;refine⟨dS.n0,dS.n1,dS.l0,dS.l1,dS.v,fun f' pu=>?_,by simp;omega⟩;rcases Jm.1 pu with h|h
    ·exact hs.f f' h
    ·simp at h;subst h;exact g5
   ·subst o8;intro f' pu;rcases Jm.1 pu with h|h
    ·exact sf f' h
    ·simp at h;subst h;exact g6
   ·subst o8;simp only[RO,AM];omega
   ·subst o8;show Gr [(z,Obj.vec 3 (Az s.fns++[f.cells]))] 3 (Az (s.fns++[f])) _;rw[L5];exact .mk _ _ _ (by simp[BK])
   ·have:cnt-((j+1:Nat):Int)=cnt-j-1:=Zx;rw[this]
  ·intro hc;refine Zc ?_;have hkE:k4≤k+4002604:=Zx
   refine Za ?_;refine Bf (ns:=[0,1,2,1]) (kn.e 0 rfl) Zx Zz fun p H2 hp hu=>?_;have kn:Kn H H2 [(R.l,R.o (k4+1))] ([(x2,.st [.sl true 3 []]),(gl,s.o R)]++s.ffl.2):=kn.an 0 rfl hu (R.aj _);have fz:0≤p∧p≤3:=by simp at hp;omega
   simp only[go_sem,NZ];have hF:FnsOk H2 R gl s:=⟨ao,fun q hq=>by
    have h1:=kn.get q (Jh _ (Jh _ hq));refine⟨h1.1,fun hh=>?_,fun hh=>?_⟩
    ·exact kn.usedE 0 rfl (hh▸kn.loc q (Jh _ hq))
    ·have:=kn.dL;rw[Jv]at this;exact (J8.1 this).2.2 gl Zz q.1 (A1 hq) hh.symm⟩
   refine LJ fz.1 fz.2 (kn.e 0 rfl) (kn.l 1 rfl) bx (hs.mono (Jag k4)) hF Zx fun f s2 H5 k5 g1 g2 hu dS g3 g4 g5 g6 g7=>?_;have kn:=kn.callEL 0 1 rfl rfl hu (R.aj _) (GS.aj _ _);have kn:Kn H H5 [(R.l,R.o k5)] ([(x2,.st [.sl true 3 []]),(gl,s2.o R)]++s.ffl.2):=kn;simp only[go_sem,Oa];intro x6 aY H6 h6;have kn:=kn.al aY h6;have kn:=kn.perm (L':=[(x2,_),(gl,_),(x6,_)]++s.ffl.2) (by
    simp only[Jr,Jq];exact .cons _ (.cons _ Ji))
   have jM:=kn.l 2 rfl;simp only[go_sem,OF,jM,Fn.cells];intro H7 h7;have kn:Kn H H7 [(R.l,R.o k5)] ([(x2,_),(gl,_),(x6,_)]++s.ffl.2):=kn.aB 2 rfl h7;have sT:=kn.l 1 rfl;have jk:=kn.l 2 rfl;have rZ:=ao.bh (B:=[_,_,_]) kn;have oD:=ao.rowsOf (B:=[_,_,_]) kn;have gU:=ao.aO;have hL:s.fns.length≤LIM:=ZM
   refine Aj ?_;simp only[go_sem,sT,jk,GS.o,g4,jv,gS,eq_true rZ,oD,gU,hL,Jg];refine⟨.inl trivial,L6 _,fun y hy H8 h8=>?_⟩;have kn:=kn.al hy h8;have kn:=kn.perm (L':=([(x2,_),(gl,_),(x6,_)]++[(y,_)])++s.ffl.2) KB;have kn:=kn.drop;have ul:=kn.l 2 rfl;have kn:Kn H H8 [(R.l,R.o k5)] [(x2,_),(gl,_),(x6,_),(y,_)]:=kn;have hy8:=kn.l 3 rfl;have etk:List.take s.fns.length (Az s.fns)=Az s.fns:=Jd (by rw[BK];omega);simp only[go_sem,NW,ul,hy8,BK,etk];refine⟨Zx,by simp only[LIM];omega,fun z hz H9 h9=>?_⟩;have kn:Kn H H9 [(R.l,R.o k5)] [(x2,_),(gl,_),(x6,_),(z,.vec 3 (Az s.fns++[f.cells]))]:=kn.ap 3 rfl hz h9;simp only[go_sem,NX];intro x7 bC H10 cS;have kn:=kn.al bC cS;have xM:=kn.l 1 rfl;have jK:=kn.l 2 rfl;have nP:=kn.l 4 rfl;have kn:Kn H H10 [(R.l,R.o k5)] [(x2,_),(gl,_),(x6,_),(z,_),(x7,_)]:=kn;simp only[go_sem,NY,xM,jK,nP,GS.o,g4,jv];intro H11 dY;have kn:=kn.aB 4 rfl dY;have kn:Kn H H11 [(R.l,R.o k5)] ([(x2,.st [.sl true 3 []]),(x7,.st [.af z 3 0 (s.fns.length+1)])]++[(z,.vec 3 (Az s.fns++[f.cells]))]):=
    (kn.perm (L':=([(x2,_),(x7,_)]++[(z,_)])++[(gl,_),(x6,_)]) (by
     simp only[List.set,Jr,Jq];refine .cons _ ?_;refine .trans (.cons _ (.cons _ (.swap _ _ _))) ?_;refine .trans (.cons _ (.swap _ _ _)) ?_;refine .trans (.swap _ _ _) ?_;refine .cons _ ?_;refine .trans (.cons _ (.swap _ _ _)) ?_;exact .swap _ _ _)).drop
   have tX:=kn.l 2 rfl;have xZ:=kn.l 1 rfl;obtain⟨ik,kn⟩:=kn.freeze 1 rfl (og':=.st [.sl false 3 (Az (s.fns++[f]))]) (FrzKL.st (.cons rfl (by
    rw[←L5];exact Fz Zz tX (by simp[BK]) (noOw_mem (Qbu4 (L6 _) (by simp[f.ak])))) .nil)) Zz
   refine Q1 (c_gh (Et _ (fun t=>?_) ik) (e':=[(2,V.c (C.ptr x2 0)),(7,V.c (C.ptr x7 0))]) ?_)
   ·simp only[lk];split
    ·exact .c _ _ (.same _ rfl)
    ·split
     ·exact .c _ _ (.same _ rfl)
     ·exact .unk _
   generalize ((H11.frz fun m=>m == z).set x7 (Obj.st [C.sl false 3 (Az (s.fns++[f]))]))=H12 at *;have lB:=kn.l 1 rfl;have qM:=kn.l 0 rfl;have lp:AM (s.fns++[f])≤2^34:=by rw[RO];simp only[AM];omega
   refine Zi lB ?_;refine Qaom Zx fun b=>?_;simp only[go_sem,NV];refine Wu ?_ ?_
   ·intro hc;refine Zi qM ?_;intro H13 kY;have kn:=kn.aB 0 rfl kY;have nY:=kn.l 0 rfl;refine Zg nY ?_;refine⟨.ag [.sl false 3 (Az [Fn.mk [109] [] [St.mk 3 [] [Ex.mk 1 1 [] []] [] []]])],FrzL.ag ?_,hK _ _ k5 Zx Zx kn.fin ⟨Zz,Zz,?_,?_,Zz⟩⟩
    ·simp only[Az,Jah,Jaj,Fn.cells,Qbma,Ak,St.cells,Ap,Ex.cells]
     repeat' first|exact FrzL.nil|exact FrzR.nil|exact Qg rfl|exact FrzL.same (Ex.ak _)|exact FrzL.same (St.ak _)|refine FrzL.cons ?_ ?_|refine FrzR.cons ?_ ?_|refine FrzR.sl ?_
    ·intro f hf;simp at hf;subst hf;simp[A7,St.ok,A9,Ex.ok]
    ·simp[AM,Q8,St.size,At,Ex.size]
   ·intro hc;refine Ze ?_;refine Zl qM lB ?_;intro H13 kY;have kn:=kn.aB 0 rfl kY;have nY:=kn.l 0 rfl;refine Zg nY ?_;refine⟨.ag [.sl false 3 (Az (s.fns++[f]))],FrzL.ag (.cons (Qg rfl) .nil),hK _ _ k5 Zx Zx kn.fin ⟨Zz,?_,?_,lp,by simp;omega⟩⟩
    ·intro f' pu;rcases Jm.1 pu with h|h
     ·exact hs.f f' h
     ·simp at h;subst h;exact g5
    ·intro f' pu;rcases Jm.1 pu with h|h
     ·exact sf f' h
     ·simp at h;subst h;exact g6
variable {F H:Heap}{w:Nat}{s:LS}{K:V→Heap→Prop}
structure LStep (s s':LS)(d:Nat):Prop where
 bl:s.blocks.length≤s'.blocks.length
 ok:∀N,s.ok N→s'.ok (N+d)
 vl:s.vars.length≤s'.vars.length
 at_:s.at_<s.blocks.length→s'.at_<s'.blocks.length
 fn:s'.fns=s.fns∧s'.pfl=s.pfl
theorem LStep.trans {s s' s'':LS}{d e:Nat}(h:LStep s s' d)(k:LStep s' s'' e):LStep s s'' (d+e):=
 ⟨J9 h.bl k.bl,fun N hN=>by rw[←Nat.add_assoc];exact k.ok _ (h.ok N hN),J9 h.vl k.vl,fun ha=>k.at_ (h.at_ ha),k.fn.1.trans h.fn.1,k.fn.2.trans h.fn.2⟩
theorem LStep.refl (s:LS):LStep s s 0:=⟨Jf _,fun N h=>h,Jf _,fun h=>h,rfl,rfl⟩
theorem LStep.mono {s s':LS}{d e:Nat}(h:LStep s s' d)(hd:d≤e):LStep s s' e:=⟨h.bl,fun N hN=>(h.ok N hN).mono Zx,h.vl,h.at_,h.fn⟩
theorem Ea {N:Nat}(h:LInv F H w s)(au:s.ok N)(hN:N+1≤2^38)(hK:∀(s':LS) (H':Heap),LInv F H' w s'→LStep s s' 1→K (.c (.int .i64 s.ab)) H') :
  Qs prog Dk [.c (.ptr w 0)] H K:=by
 have hw:=h.hw;have h0:=au.r0;have h1:=au.r1;refine Qc Ab Qau8 ?_;refine Wg ?_;simp only[go_sem,hw,LS.o];refine⟨Qr,fun H1 pV=>?_⟩;have h':LInv F H1 w { s with ab:=s.ab+1 }:=h.setw pV rfl rfl rfl rfl h.gv h.rv;have fy:=h'.hw;refine Qa ?_;simp only[go_sem,fy,LS.o];refine⟨Qr,?_⟩;refine Zb ?_;refine hK _ H1 h' ⟨Jf _,fun M hM=>⟨?_,?_,hM.n0,?_,?_,?_,?_⟩,Jf _,fun h=>h,rfl,rfl⟩
 ·have:=hM.r0;show 0≤s.ab+1;omega
 ·have:=hM.r1;show s.ab+1≤_;omega
 ·have:=hM.n1;show s.next≤_;omega
 ·have:=hM.b1;show s.blocks.length≤_;omega
 ·intro b hb;have:=hM.i1 b hb;omega
 ·have:=hM.v1;show s.vars.length≤_;omega
theorem KO {N:Nat}(h:LInv F H w s)(au:s.ok N)(hN:N+1≤2^38)(hK:∀(s':LS) (H':Heap),LInv F H' w s'→LStep s s' 1→s.blocks.length<s'.blocks.length→s'.at_=s.at_→K (.c (.int .i64 s.blocks.length)) H') :
  Qs prog Cr [.c (.ptr w 0)] H K:=by
 have hw:=h.hw;have bj:=au.b1;have cQ:=h.gb.ah;refine Qc Ab Qau7 ?_;refine Wg ?_;simp only[go_sem,hw,LS.o,cQ];refine h.addBlk (b:=⟨.sl true 4 [],[],[],0,0,true,[]⟩) ZM rfl rfl rfl fun y H1 fy cont=>?_;simp only[go_sem,Qqp,fy,LS.o];intro H2 h2;have h':=cont H2 h2;have lE:=h'.hw;obtain⟨y2,mS,ge,hv3⟩:=h'.bvec Zz;simp only[C.af.injEq]at mS;obtain⟨rfl,_⟩:=mS;refine Qa ?_;simp only[go_sem,lE,LS.o,hv3,Je,List.length_append];refine⟨Zx,fun hl=>⟨Qr,?_⟩⟩;refine Zb ?_;have e1:(((s.blocks.length+1:Nat):Int)-1)=s.blocks.length:=Zx
 rw[e1];refine hK _ H2 h' ⟨Zz,fun M hM=>⟨hM.r0,?_,hM.n0,?_,?_,?_,?_⟩,Jf _,fun ha=>by simp;show s.at_<_;omega,rfl,rfl⟩ Zz rfl
 ·have:=hM.r1;show s.ab≤_;omega
 ·have:=hM.n1;show s.next≤_;omega
 ·have:=hM.b1;simp;omega
 ·intro b hb;rcases Jm.1 hb with hb|hb
  ·have:=hM.i1 b hb;omega
  ·simp at hb;subst hb;simp
 ·have:=hM.v1;show s.vars.length≤_;omega
theorem Dn {N:Nat}(h:LInv F H w s)(au:s.ok N)(hN:N+1≤2^38)(hK:∀(s':LS) (H':Heap),LInv F H' w s'→LStep s s' 1→s.blocks.length<s'.blocks.length→K (.c (.int .i64 s.blocks.length)) H') :
  Qs prog Cr [.c (.ptr w 0)] H K:=KO h au hN fun s' H' a b c _=>hK s' H' a b c
theorem Cz {N:Nat}{op to n:Int}{fl:Bool}{args:List Int}(h:LInv F H w s)(b7:s.at_<s.blocks.length)(au:s.ok N)(hN:N+1≤2^38)
  (hK:∀(s':LS) (H':Heap),LInv F H' w s'→LStep s s' 1→K (.c (.int .i64 to)) H') :
  Qs prog BP [.c (.ptr w 0),.c (.int .i64 op),.c (.int .i64 to),.c (.int .i64 n),.c (.sl fl 1 (Qb args))] H K:=by
 have hw:=h.hw;obtain⟨y,dv,nt,hy⟩:=h.bvec Zx;have hm:=Jc b7;have ny:=au.i1 _ hm;have wx:=(h.gi _ hm).ah;have gy:List.getD (List.map Blk.row s.blocks) s.at_ []=s.blocks[s.at_].row:=Za2
 have dD:List.getD (List.take s.blocks.length (List.map Blk.row s.blocks)) s.at_ []=s.blocks[s.at_].row:=by
  rw[Jd Zz];exact gy
 refine Qc Ab Qa9o ?_;refine Za ?_;refine Aj ?_;simp only[go_sem,hw,LS.o,dv,hy,b7,Jg,Je];refine Qa ?_;simp only[go_sem,hy,b7,dD,Blk.row,wx,Jg,Je];refine h.addIns b7 dv nt ⟨op,to,n,fl,args,rfl⟩ ZM fun z H1 fy qI cont=>?_;simp only[go_sem,Q0u,qI,gy,b7,Blk.row,Jg,Je];intro H2 h2;obtain⟨b',aZ,h'⟩:=cont H2 h2;refine Wm ?_;refine hK _ H2 h' ⟨Zz,fun M hM=>⟨hM.r0,?_,hM.n0,?_,?_,?_,?_⟩,Jf _,fun ha=>by simp;show s.at_<_;omega,rfl,rfl⟩
 ·have:=hM.r1;show s.ab≤_;omega
 ·have:=hM.n1;show s.next≤_;omega
 ·have:=hM.b1;simp;omega
 ·intro b hb;rcases GM hb with rfl|hb
  ·have:=hM.i1 _ hm;omega
  ·have:=hM.i1 b hb;omega
 ·have:=hM.v1;show s.vars.length≤_;omega
theorem CX {N:Nat}{kind on:Int}{at':Nat}{fl:Bool}{next:List Int}(h:LInv F H w s)(b7:s.at_<s.blocks.length)(xh:at'<s.blocks.length)
  (hK:∀(s':LS) (H':Heap),LInv F H' w s'→LStep s s' 0→K (.tup []) H') :
  Qs prog C4 [.c (.ptr w 0),.c (.int .i64 kind),.c (.int .i64 on),.c (.sl fl 1 (Qb next)),.c (.int .i64 at')] H K:=by
 have hw:=h.hw;obtain⟨y,dv,nt,hy⟩:=h.bvec Zx;have hm:=Jc b7;have gy:List.getD (List.map Blk.row s.blocks) s.at_ []=s.blocks[s.at_].row:=Za2
 refine Qc Ab Qa0k ?_;refine Aj ?_;simp only[go_sem,hw,LS.o,dv,hy,b7,Jg,Je];refine Qa ?_;simp only[go_sem,hy,gy,b7,Blk.row,Jg,Je];intro H1 h1;have h1:H1=H.set y (.vec 5 ((s.blocks.set s.at_ { s.blocks[s.at_]with jump:=kind }).map Blk.row)):=by rw[h1,←No];rfl
 have hv:=h.setBlk b7 dv nt h1 rfl rfl rfl;obtain⟨b1,bj,fZ,hb1i⟩:∃b1:Blk,b1={ s.blocks[s.at_]with jump:=kind }∧b1.aX=s.blocks[s.at_].aX∧b1.ic=s.blocks[s.at_].ic:=⟨_,rfl,rfl,rfl⟩;rw[←bj]at hv h1;have qI:H1 y=.vec 5 ((s.blocks.set s.at_ b1).map Blk.row):=by rw[h1];exact Heap.aE _ _ _
 have dD:List.getD ((s.blocks.set s.at_ b1).map Blk.row) s.at_ []=b1.row:=Za2
 refine Qa ?_;simp only[go_sem,qI,dD,b7,Blk.row,Jg,Je,Jaf];intro H2 h2;have h2:H2=H1.set y (.vec 5 (((s.blocks.set s.at_ b1).set s.at_ { b1 with on:=on }).map Blk.row)):=by rw[h2];simp only[Jt];rfl
 have hv:=hv.setBlk (i:=s.at_) (b':={ b1 with on:=on }) (by simpa using b7) (by simpa using dv) (by rfl) h2 Zz Zz Zz;simp only[Jak]at hv h2;obtain⟨b2,bX,xg⟩:∃b2:Blk,b2={ b1 with on:=on }∧b2.aX=b1.aX:=⟨_,rfl,rfl⟩;rw[←bX]at hv h2;have ji:H2 y=.vec 5 ((s.blocks.set s.at_ b2).map Blk.row):=by rw[h2];exact Heap.aE _ _ _
 have wF:List.getD ((s.blocks.set s.at_ b2).map Blk.row) s.at_ []=b2.row:=Za2
 refine Qa ?_;simp only[go_sem,ji,wF,b7,Blk.row,Jg,Je,Jaf];intro H3 h3;have h3:H3=H2.set y (.vec 5 (((s.blocks.set s.at_ b2).set s.at_ { b2 with next:=next,nfl:=fl }).map Blk.row)):=by rw[h3];simp only[Jt];rfl
 have hv:=hv.setBlk (i:=s.at_) (b':={ b2 with next:=next,nfl:=fl }) (by simpa using b7) (by simpa using dv) (by rfl) h3 Zz Zz Zz;simp only[Jak]at hv;have qO:=hv.hw;refine Qp ?_;simp only[go_sem,qO,LS.o];intro H4 h4;have h':=hv.setw (s':={ s with lb:=[(y,.vec 5 ((s.blocks.set s.at_ { b2 with next:=next,nfl:=fl }).map Blk.row))],blocks:=s.blocks.set s.at_ { b2 with next:=next,nfl:=fl },at_:=at' }) h4 rfl rfl rfl rfl hv.gv hv.rv;simp only[Q6,Aa,Po];refine⟨Zz,hK _ H4 h' ⟨Zz,fun M hM=>⟨hM.r0,hM.r1,hM.n0,hM.n1,?_,?_,hM.v1⟩,Jf _,fun ha=>by simpa using xh,rfl,rfl⟩⟩
 ·have:=hM.b1;simpa using this
 ·intro b hb;rcases GM hb with rfl|hb
  ·show b2.aX.length≤_;rw[xg,fZ];exact hM.i1 _ hm
  ·exact hM.i1 b hb
theorem Qb05 {l:List Fn}{fl:Bool}{name:List UInt8}(hK:∀n:Int,K (.c (.int .i64 n)) H):Qs prog Q67 [.ag [.sl fl 3 (Az l)],.c (.str name)] H K:=by
 refine Qc Ab Qbpd ?_;have retf:∀(n:Int) (e:Env),lk 4 e=.c (.int .i64 n)→Q6 FB K .ret e H:=by
  intro b e h1;simp only[go_sem,Q6,Aa,Ja,forall_eq,RS.op,h1];exact hK _
 refine Wf ?_;refine Qh (Qd (Qw (fun n e1 H1=>∃(i:Nat),n=l.length-i∧i≤l.length∧H1=H∧e1=[(1,.c (.str name)),(2,.c (.pp [.sl fl 3 (Az l)])),(5,.c (.int .i64 i))]) l.length ?_ ?_))
 ·exact⟨0,Zx,Zx,rfl,rfl⟩
 ·rintro n e1 H1 ⟨i,dk,hi,rfl,rfl⟩;refine Q1 (Qa ?_);simp only[go_sem,BK];intro hl;simp only[LIM]at hl;refine Wu ?_ ?_
  ·intro hc;have ae:i<l.length:=ZA
   refine Wo ?_;simp only[go_sem,ae,BK,GK _ _ ae,Fn.cells];refine Wv ?_ ?_
   ·intro aC;refine Wp ?_;exact retf _ _ ZE
   ·intro aC;refine Wl ?_;exact⟨Qr,l.length-(i+1),Zx,i+1,rfl,Zx,rfl⟩
  ·intro hc;refine Wc ?_;refine Ql ?_;exact retf _ _ ZE
theorem KA {name:List UInt8}(h:LInv F H w s)(hK:∀n:Int,K (.c (.int .i64 n)) H):Qs prog RR [.c (.ptr w 0),.c (.str name)] H K:=by
 have hw:=h.hw;obtain⟨mS,ge⟩:=h.vget;have bQ:=h.gv.ay;have td:=h.gv.aO;have jU:=h.gv.ah;refine Qc Ab Qa9p ?_;have retf:∀(n:Int) (e:Env),lk 4 e=.c (.int .i64 n)→Q6 Q1c K .ret e H:=by
  intro b e h1;simp only[go_sem,Q6,Aa,Ja,forall_eq,RS.op,h1];exact hK _
 refine Wj ?_;simp only[go_sem,hw,LS.o,mS,bQ,jU];intro hl;simp only[LIM]at hl;refine⟨Qr,?_⟩;refine Qh (Qd (Qw (fun n e1 H1=>∃(j:Nat),n=j∧j≤s.vars.length∧H1=H∧e1=[(0,.c (.ptr w 0)),(1,.c (.str name)),(5,.c (.int .i64 ((j:Int)-1)))]) s.vars.length ?_ ?_))
 ·exact⟨s.vars.length,rfl,Zx,rfl,rfl⟩
 ·rintro n e1 H1 ⟨j,y5,hj,rfl,rfl⟩;refine Wa ?_;refine Wu ?_ ?_
  ·intro hc;have hj1:1≤j:=by simp at hc;omega
   obtain⟨i,rfl⟩:∃i,j=i+1:=⟨j-1,Zx⟩;have e1:(((i+1:Nat):Int)-1)=(i:Int):=Zx
   have ae:i<s.vars.length:=Zx
   obtain⟨nm,a,b,hr⟩:=h.rv _ (Jc ae);have be:List.getD s.vars i []=[.str nm,.int .i64 a,.int .i64 b]:=by rw[←hr];simp[Jb,ae]
   rw[e1]at hc⊢;refine Wo ?_;simp only[go_sem,hw,LS.o,mS,ge,bQ,jU,td,ae,be];refine Wv ?_ ?_
   ·intro aC;refine Qa ?_;simp only[go_sem,hw,LS.o,mS,ge,bQ,jU,td,ae,be];refine Zo ?_;exact retf _ _ ZE
   ·intro aC;refine Wl ?_;exact⟨Qr,i,Zx,i,rfl,Zx,rfl⟩
  ·intro hc;refine Wc ?_;refine Ql ?_;exact retf _ _ ZE
def D2 (n:Nat):Prop:=∀(x:Ex) (F H:Heap) (w:Nat) (s:LS) (N:Nat) (K:V→Heap→Prop),x.size≤n→x.ok→LInv F H w s→s.at_<s.blocks.length→s.ok N→N+10 * x.size≤2^38→
  (∀(v:Int) (s':LS) (H':Heap),LInv F H' w s'→LStep s s' (10 * x.size)→K (.c (.int .i64 v)) H')→Qs prog E3 [.c (.ptr w 0),.ag x.cells] H K
def AndL (n:Nat):Prop:=∀(x:Ex) (F H:Heap) (w:Nat) (s:LS) (N:Nat) (K:V→Heap→Prop),x.size≤n→x.ok→x.op=10→LInv F H w s→s.at_<s.blocks.length→s.ok N→N+10 * x.size≤2^38→
  (∀(v:Int) (s':LS) (H':Heap),LInv F H' w s'→LStep s s' (10 * x.size)→K (.c (.int .i64 v)) H')→Qs prog SX [.c (.ptr w 0),.ag x.cells] H K
theorem Qb09 {n:Nat}(hE:∀m,m<n→D2 m):AndL n:=by
 intro x F H w s N K hn au bA h b7 aN hN hK;have bz:=x.size_kids;have fA:=Ex.ok_and au bA;have fq:=Ex.ok_kids au;obtain⟨a,b,dw⟩:∃a b,x.kids=[a,b]:=by
  match hx:x.kids,fA with
  |[a,b],_=>exact⟨a,b,rfl⟩
 rw[dw]at bz fq;simp only[At,A9]at bz fq;refine Qc Ab Qa9n ?_;refine Zs ?_;refine Qa ?_;simp only[go_sem,dw,Ap,Ex.cn,Ex.bv,Ex.ax,Jx];refine⟨Zx,?_⟩;refine hE a.size Zx a F H w s N _ (Jf _) fq.1 h b7 aN Zx fun va s1 H1 h1 st1=>?_;simp only[go_sem,Q0m];refine Za ?_;refine Ea h1 (st1.ok _ aN) Zx fun s2 H2 h2 st2=>?_;have st2:=st1.trans st2;simp only[go_sem,Q0o];refine Cz (args:=[]) h2 (st2.at_ b7) (st2.ok _ aN) Zx fun s3 H3 h3 st3=>?_;have st3:=st2.trans st3;simp only[go_sem,Q0n];refine Za ?_;refine Dn h3 (st3.ok _ aN) Zx fun s4 H4 h4 st4 ze=>?_;have st4':=st4;have st4:=st3.trans st4;simp only[go_sem,Q0p];refine Za ?_;refine Dn h4 (st4.ok _ aN) Zx fun s5 H5 h5 st5 zd=>?_;have st5:=st4.trans st5;simp only[go_sem,Q0q];refine Za ?_;refine CX (next:=[(s3.blocks.length:Int),(s4.blocks.length:Int)]) (N:=0) h5 (st5.at_ b7) Zx fun s6 H6 h6 st6=>?_;have zc:=st6.bl;have st6:=st5.trans st6;refine Qa ?_;simp only[go_sem,Ex.cn,Ex.bv,Ex.ax,Jx,J6];refine⟨Zx,?_⟩;refine hE b.size Zx b F H6 w s6 _ _ (Jf _) fq.2.1 h6 (st6.at_ b7) (st6.ok _ aN) Zx fun vb s7 H7 h7 st7=>?_;have za:=st7.bl;have st7:=st6.trans st7;simp only[go_sem,Q0r];refine Za ?_;refine Ea h7 (st7.ok _ aN) Zx fun s8 H8 h8 st8=>?_;have hb8:=st8.bl;have st8:=st7.trans st8;simp only[go_sem,Q0t];refine Cz (args:=[vb]) h8 (st8.at_ b7) (st8.ok _ aN) Zx fun s9 H9 h9 st9=>?_;have hb9:=st9.bl;have st9:=st8.trans st9;simp only[go_sem,Q0s];refine Za ?_;refine Cz (args:=[s7.ab]) h9 (st9.at_ b7) (st9.ok _ aN) Zx fun s10 H10 cS st10=>?_;have hb10:=st10.bl;have st10:=st9.trans st10;refine Za ?_;refine CX (next:=[(s4.blocks.length:Int)]) (N:=0) cS (st10.at_ b7) Zx fun s11 H11 dY st11=>?_;have st11:=st10.trans st11;refine Wm ?_;exact hK _ s11 H11 dY (st11.mono Zx)
set_option maxHeartbeats 2000000 in
theorem Xm {n:Nat}(hA:AndL n)(hE:∀m,m<n→D2 m):D2 n:=by
 intro x F H w s N K hn au h b7 aN hN hK;have bz:=x.size_kids;have fq:=Ex.ok_kids au;refine Qc Ab Qa0j ?_;have retf:∀(v:Int) (e:Env) (s':LS) (H':Heap),LInv F H' w s'→LStep s s' (10 * x.size)→lk 4 e=.c (.int .i64 v)→Q6 SL K .ret e H':=by
  intro v e s' H' a1 a2 h1;simp only[go_sem,Q6,Aa,Ja,forall_eq,RS.op,h1];exact hK _ _ _ a1 a2
 refine Zs ?_;refine Wa ?_;refine Wi ?_;refine Wv ?_ ?_
 ·intro hc;refine Zv ?_;refine Ea h aN Zx fun s1 H1 h1 st1=>?_;simp only[go_sem,Qwo];refine Cz (args:=[]) h1 (st1.at_ b7) (st1.ok _ aN) Zx fun s2 H2 h2 st2=>?_;simp only[go_sem,Qwn];refine Zk ?_;exact retf _ _ s2 H2 h2 ((st1.trans st2).mono Zx) ZE
 intro bF;refine Za ?_;refine Wv ?_ ?_
 ·intro hc;refine Za ?_;refine KA h fun v=>?_;simp only[go_sem,Qwp];refine Zk ?_;exact retf _ _ s H h ((LStep.refl s).mono Zx) ZE
 intro aC;refine Za ?_;refine Wv ?_ ?_
 ·intro hc;have bA:x.op=10:=ZA
  refine Za ?_;rw[←x.aF];refine hA x F H w s N _ hn au bA h b7 aN hN fun v s1 H1 h1 st1=>?_;simp only[go_sem,Qwq];refine Zk ?_;exact retf _ _ s1 H1 h1 st1 ZE
 intro bI;refine Ze ?_;refine Wf ?_;refine Qh (Qd (Qw (fun n e1 H1=>∃(i:Nat) (ars:List Int) (c:C) (Lg:List (Nat×Obj)) (s':LS),n=x.kids.length-i∧i≤x.kids.length∧ars.length=i∧Gr Lg 1 (Qb ars) c∧LInv F H1 w s'∧Kn F H1 [] (s'.L w++Lg)∧
  LStep s s' (10 * At (x.kids.take i))∧e1=[(0,.c (.ptr w 0)),(3,.c (.pp [.int .i64 x.op,.int .i64 x.n,.str x.name,.sl false 4 (Ap x.kids)])),(5,.c c),(6,.c (.int .i64 i))]) x.kids.length ?_ ?_))
 ·exact⟨0,[],_,[],s,Zx,Zx,rfl,.nil 1,h,by simpa using h.kn,(LStep.refl s).mono Zx,rfl⟩
 ·rintro n e1 H1 ⟨i,ars,c,Lg,s1,dk,hi,mA,ao,h1,kn,st1,rfl⟩;refine Q1 (Qa ?_);simp only[go_sem,Bk];intro hl;simp only[LIM]at hl;refine Wu ?_ ?_
  ·intro hc;have ae:i<x.kids.length:=ZA
   have hm:=GP (Jc ae);have bN:=SV ae;have lH:=TY x.kids (i+1);refine Ze ?_;refine Qh (Qd (Qp ?_));simp only[go_sem,ae,Bk,Ev _ _ ae,Ex.cn,Ex.bv,Ex.ax];obtain⟨F',hf,back⟩:=h1.beside kn ao;refine hE x.kids[i].size Zx _ F' H1 w s1 _ _ (Jf _) (FW fq _ (Jc ae)) hf (st1.at_ b7) (st1.ok _ aN) Zx fun v s2 H2 h2 st2=>?_;obtain⟨h2,kn⟩:=back s2 H2 h2;simp only[go_sem,Qws];refine kn.grow (new:=Qb [v]) ao (.mk' _ _ _ _) (Qq _) (by simp only[Qf,mA,Jk,Jn,LIM];omega) fun y' H3 kn=>?_;simp only[go_sem,Qwr];refine Zf ?_;refine⟨Qr,x.kids.length-(i+1),Zx,i+1,ars++[v],_,_,s2,rfl,Zx,by simp[mA],.mk y' 1 (Qb (ars++[v])) (n:=(Qb ars).length+(Qb [v]).length) Zae,h2.re kn.drop,by rw[Cb];exact kn,(st1.trans st2).mono (by rw[bN];omega),Zae⟩
  ·intro hc;have bd:x.kids.length≤i:=ZA
   rw[Jd bd]at st1;refine Zc ?_;refine Q1 (Q1 ?_);obtain⟨S,H2,f1,f2,kn2⟩:=ao.freeze kn (Qq _);have h2:=h1.re kn2;refine c_gh (Et S (fun t=>?_) f2) (e':=[(0,.c (.ptr w 0)),(3,.c (.pp [.int .i64 x.op,.int .i64 x.n,.str x.name,.sl false 4 (Ap x.kids)])),(5,.c (.sl false 1 (Qb ars)))]) ?_
   ·simp only[lk];split
    ·exact .c _ _ (.same _ rfl)
    ·split
     ·exact .c _ _ (.same _ rfl)
     ·split
      ·exact .c _ _ f1
      ·exact .unk _
   refine Za ?_;refine Wi ?_;refine Wv ?_ ?_
   ·intro hc;refine Za ?_;refine Ea h2 (st1.ok _ aN) Zx fun s3 H3 h3 st3=>?_;have st3:=st1.trans st3;simp only[go_sem,Qqr];refine Cz h3 (st3.at_ b7) (st3.ok _ aN) Zx fun s4 H4 h4 st4=>?_;simp only[go_sem,Qqq];refine Zk ?_;exact retf _ _ s4 H4 h4 ((st3.trans st4).mono Zx) ZE
   intro dq;refine Za ?_;refine Wv ?_ ?_
   ·intro hc;refine Za ?_;refine Ea h2 (st1.ok _ aN) Zx fun s3 H3 h3 st3=>?_;have st3:=st1.trans st3;simp only[go_sem,Qqt];refine Cz h3 (st3.at_ b7) (st3.ok _ aN) Zx fun s4 H4 h4 st4=>?_;simp only[go_sem,Qqs];refine Zk ?_;exact retf _ _ s4 H4 h4 ((st3.trans st4).mono Zx) ZE
   intro pH;refine Za ?_;refine Wv ?_ ?_
   ·intro hc;have lE:=h2.hw;refine Aj ?_;simp only[go_sem,lE,LS.o];refine Ea h2 (st1.ok _ aN) Zx fun s3 H3 h3 st3=>?_;have qO:=h3.hw;have fW:=st3.fn;have st3:=st1.trans st3;simp only[go_sem,Qqw,qO,LS.o,fW.1,fW.2];refine Qb05 fun q=>?_;simp only[go_sem,Qqv];refine Cz h3 (st3.at_ b7) (st3.ok _ aN) Zx fun s4 H4 h4 st4=>?_;simp only[go_sem,Qqu];refine Zk ?_;exact retf _ _ s4 H4 h4 ((st3.trans st4).mono Zx) ZE
   intro yX;refine Ze ?_;refine Zv ?_;refine Ea h2 (st1.ok _ aN) Zx fun s3 H3 h3 st3=>?_;have st3:=st1.trans st3;simp only[go_sem,Qqy];refine Cz h3 (st3.at_ b7) (st3.ok _ aN) Zx fun s4 H4 h4 st4=>?_;simp only[go_sem,Qqx];refine Ql ?_;exact retf _ _ s4 H4 h4 ((st3.trans st4).mono Zx) ZE
theorem K7 (n:Nat):D2 n:=by
 induction n using Nat.strongRecOn with
 |ind n ih=>exact Xm (Qb09 ih) ih
theorem Qbub:∀(n:Nat) (l:List St) {fl:Bool} {H:Heap} {K:V→Heap→Prop},Q8 l≤n→Q8 l≤2^40→(∀v:Nat,v≤Q8 l→K (.c (.int .i64 v)) H)→Qs prog Hk [.c (.sl fl 5 (Ak l))] H K:=by
 intro n
 induction n using Nat.strongRecOn with
 |ind n ih=>
 intro l fl H K hn hb hK;have am:=LP l;refine Qc Ab Qbuw ?_;refine Wb ?_;refine Wa ?_;refine Qh (Qd (Qw (fun n e1 H1=>∃(i v:Nat),n=l.length-i∧i≤l.length∧v≤Q8 (l.take i)∧H1=H∧e1=[(0,.c (.sl fl 5 (Ak l))),(3,.c (.int .i64 v)),(4,.c (.int .i64 i))]) l.length ?_ ?_))
 ·exact⟨0,0,Zx,Zx,Zx,rfl,rfl⟩
 ·rintro n e1 H1 ⟨i,v,dk,hi,hv,rfl,rfl⟩;refine Q1 (Qa ?_);simp only[go_sem,Bw];intro hl;simp only[LIM]at hl;refine Wu ?_ ?_
  ·intro hc;have ae:i<l.length:=ZA
   have hm:=R9 (Jc ae);have bN:=SF ae;have lH:=TF l (i+1);have hse:=(l[i]'ae).size_eq;refine Wn ?_;simp only[go_sem,ae,Bw,Ey _ _ ae,St.aF];refine Qboe ?_;obtain⟨t,ht,tj⟩:∃t:Nat,(if decide (l[i].op=1)=true then (1:Int)else 0)=t∧t≤1:=by
    by_cases h:l[i].op=1
    ·exact⟨1,ZaY,Jf _⟩
    ·exact⟨0,ZaY,Zx⟩
   simp only[go_sem,Mp,ae,Bw,Ey _ _ ae,St.aF,ht];refine⟨Qr,?_⟩;refine ih (Q8 l[i].body) Zx l[i].body (Jf _) Zx fun a ha=>?_;simp only[go_sem,Mq,ae,Bw,Ey _ _ ae,St.aF];refine⟨Qr,?_⟩;refine ih (Q8 l[i].els) Zx l[i].els (Jf _) Zx fun c hc=>?_;simp only[go_sem,LV];refine⟨Qr,?_⟩;refine Zf ?_;refine⟨Qr,l.length-(i+1),Zx,i+1,v+t+a+c,rfl,Zx,Zx,rfl⟩
  ·intro hc;have bd:l.length≤i:=ZA
   refine Wh ?_;rw[Jd bd]at hv;exact hK v Zx
def KE (n:Nat):Prop:=∀(x:St) (F H:Heap) (w:Nat) (s:LS) (N:Nat) (K:V→Heap→Prop),x.size≤n→x.ok→LInv F H w s→s.at_<s.blocks.length→s.ok N→N+10 * x.size≤2^38→
  (∀(s':LS) (H':Heap),LInv F H' w s'→LStep s s' (10 * x.size)→K (.tup []) H')→Qs prog Tf [.c (.ptr w 0),.ag x.cells] H K
def Qb2z (n:Nat):Prop:=∀(x:St) (F H:Heap) (w:Nat) (s:LS) (N:Nat) (K:V→Heap→Prop),x.size≤n→x.ok→LInv F H w s→s.at_<s.blocks.length→s.ok N→N+10 * x.size≤2^38→
  (∀(s':LS) (H':Heap),LInv F H' w s'→LStep s s' (10 * x.size)→K (.tup []) H')→Qs prog Tg [.c (.ptr w 0),.ag x.cells] H K
def DA (n:Nat):Prop:=∀(l:List St) (fl:Bool) (F H:Heap) (w:Nat) (s:LS) (N:Nat) (K:V→Heap→Prop),Q8 l≤n→A7 l→LInv F H w s→s.at_<s.blocks.length→s.ok N→N+10 * Q8 l≤2^38→
  (∀(s':LS) (H':Heap),LInv F H' w s'→LStep s s' (10 * Q8 l)→K (.tup []) H')→Qs prog GV [.c (.ptr w 0),.c (.sl fl 5 (Ak l))] H K
theorem Qbr9 {n:Nat}(hS:KE n):DA n:=by
 intro l fl F H w s N K hn au h b7 aN hN hK;have hw:=h.hw;obtain⟨mS,ge⟩:=h.vget;have bQ:=h.gv.ay;have jU:=h.gv.ah;refine Qc Ab Qau9 ?_;refine Qa ?_;simp only[go_sem,hw,LS.o,mS,bQ,jU];intro yl;refine Wa ?_;refine Qh (Qd (Qw (fun n e1 H1=>∃(i:Nat) (s':LS),n=l.length-i∧i≤l.length∧LInv F H1 w s'∧LStep s s' (10 * Q8 (l.take i))∧e1=[(0,.c (.ptr w 0)),(1,.c (.sl fl 5 (Ak l))),(4,.c (.int .i64 s.vars.length)),(5,.c (.int .i64 i))]) l.length ?_ ?_))
 ·exact⟨0,s,Zx,Zx,h,(LStep.refl s).mono Zx,rfl⟩
 ·rintro n e1 H1 ⟨i,s1,dk,hi,h1,st1,rfl⟩;refine Q1 (Qa ?_);simp only[go_sem,Bw];intro hl;simp only[LIM]at hl;refine Wu ?_ ?_
  ·intro hc;have ae:i<l.length:=ZA
   have hm:=R9 (Jc ae);have bN:=SF ae;have lH:=TF l (i+1);refine Ze ?_;refine Qh (Qd (Qp ?_));simp only[go_sem,ae,Bw,Ey _ _ ae,St.take5,St.bv,St.ax];refine hS l[i] F H1 w s1 _ _ Zx (Qbsd au _ (Jc ae)) h1 (st1.at_ b7) (st1.ok _ aN) Zx fun s2 H2 h2 st2=>?_;refine Zf ?_;exact⟨Qr,l.length-(i+1),Zx,i+1,s2,rfl,Zx,h2,(st1.trans st2).mono (by rw[bN];omega),rfl⟩
  ·intro hc;have bd:l.length≤i:=ZA
   rw[Jd bd]at st1;have fy:=h1.hw;obtain⟨ol,hv2'⟩:=h1.vget;have ew:=h1.gv.ay;have hvo':=h1.gv.ah;have hve':=h1.gv.aO;have qS:=st1.vl;have uX:∀r∈s1.vars.take s.vars.length,VarRow r:=fun r hr=>h1.rv r (List.mem_of_mem_take hr);have fin:∀(H2:Heap) (c:C),H2=H1.set w (LS.o { s1 with vc:=c })→VGr s1.lv (s1.vars.take s.vars.length) c→Q6 Tc K .nrm [] H2:=by
    intro H2 c h2 hg;simp only[Q6,Aa,Tc];refine⟨Zz,hK { s1 with vc:=c,vars:=s1.vars.take s.vars.length } H2 (h1.setw h2 rfl rfl rfl rfl hg uX) ⟨st1.bl,fun M hM=>?_,by simp;omega,st1.at_,st1.fn⟩⟩;have:=st1.ok M hM;exact⟨this.r0,this.r1,this.n0,this.n1,this.b1,this.i1,by have:=this.v1;simp;omega⟩
   refine Zc ?_;refine Qp ?_;rcases h1.gv with ⟨g1,g2,g3⟩|⟨y,all,k,g1,g2,g3,g4⟩
   ·have hz:s.vars.length=0:=(by rw[g2]at qS;simpa using qS);simp only[go_sem,fy,LS.o,g1,hz,Jai,List.drop_nil];refine⟨⟨Zx,Zx⟩,fun H2 h2=>?_⟩;refine fin H2 (.sl true 3 []) h2 (.inl ⟨rfl,by rw[g2];simp,g3⟩)
   ·rw[g1]at ol ew;have hk:k=s1.vars.length:=(by simpa[ay]using ew);simp only[go_sem]at ol;simp only[go_sem,fy,LS.o,g1,ol];refine⟨⟨Zx,Zx⟩,fun H2 h2=>?_⟩;refine fin H2 (.af y 3 0 (s.vars.length-0)) h2 (.inr ⟨y,all,s.vars.length-0,rfl,Zx,?_,g4⟩);rw[g3,List.take_take];congr 1;omega
end Go.AE.Y
