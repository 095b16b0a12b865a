/- Part 3 of the proof: the engine, codes, walks and plain laws, each named where it stands. -/
import Derived.Test.YtldooelffjcbmaaGreatZB
open Nat (reduceEqDiff reduceAdd reduceLeDiff reduceLT)
set_option linter.unusedVariables false
set_option linter.unusedSimpArgs false
set_option maxRecDepth 4000
open Int renaming eq_ofNat_of_zero_le->Jo,tmod_lt_of_pos->J0,tmod_nonneg->J4
open List renaming mem_singleton->Ja,getD_eq_getElem?_getD->Jb,getElem_mem->Jc,take_of_length_le->Jd,length_map->Je,mem_append_right->Jh,perm_append_comm->Ji,append_assoc->Jj,take_succ_eq_append_getElem->Jk,length_cons->Jl,mem_append->Jm,length_nil->Jn,drop_zero->Jp,nil_append->Jq,cons_append->Jr,flatMap_append->Js,map_set->Jt,set_cons_zero->Ju,map_append->Jv,take_append_drop->Jw,getD_cons_zero->Jx,mem_or_eq_of_mem_set->J1,getElem?_eq_getElem->J2,length_take->J3,contains_iff_mem->J5,getD_cons_succ->J6,set_cons_succ->J7,nodup_append->J9,all_eq_true->Jab,filter_cons->Jac,mem_flatMap->Jad,take_length->Jae,all_append->Jaf,filter_nil->Jag,length_set->Jah,map_cons->Jaj,take_nil->Jak,map_nil->Jal,set_set->Jam
open Nat renaming le_refl->Jf,zero_add->Jg,lt_pow_self->Jy,mul_le_mul_left->Jz,one_le_two_pow->J8,le_trans->Jaa,le_succ->Jai,mul_succ->Jan
namespace Go.AE.Y
open Go.Proofs.Tryz
def Qma:List Item:=[oJ 10 9]
def Qabr:SC:=cT 10 (sR [fB 2 false] [2] .ret) .skip
def Qmb:List Item:=[mJ 4 16,sJ 3 5 18]
def Qmc:List Item:=[oJ 22 21]
def Qabs:SC:=cT 22 (sR [fB 2 false] [2] .ret) .skip
def Qmd:List Item:=[bJ 26 .add 23 25,mJ 3 26]
def Qabt:SC:=.reg (mJ 23 3::tJ 24 3 5::aJ 25 Qia [.t 24]::Qmd) [1,3,12,13,14]
def Qabu:SC:=.seq (sR (tJ 19 1 1::mJ 20 4::aJ 21 Qr5 [.t 19,.t 20]::Qmc) [1,3,5,12,13,14,22] Qabs) Qabt
def Qabv:SC:=.reg [cJ 27 .add 14 1,mJ 14 27] [1,3,12,13,14]
def Qabw:SC:=.seq (.block 1 (sR (mJ 16 14::iJ 17 3 12 14::tJ 18 3 17::eI 5 (.alloc [.int .i64 0,.int .i64 0,.sl true 5 []])::Qmb) [1,3,4,5,12,13,14] Qabu)) Qabv
def Q2g:SC:=sR [bJ 15 .lss 14 13] [1,3,12,13,14,15] (cX 15 0 Qabw)
def Q50:SC:=sR [mJ 28 3,cJ 29 .leq 28 800,mJ 2 29] [2] .ret
def Q51:SC:=.seq (sR [fJ 11 0 1,lJ 12 11,nJ 13 12,zJ 14 0] [1,3,12,13,14] (bL 0 Q2g)) Q50
def Q52:SC:=sR [zJ 3 0] [1,3] Q51
def Q53:SC:=.seq (sR (fJ 6 0 1::lJ 7 6::nJ 8 7::aJ 9 Qa4 [.t 8,kI 1,kI 4]::Qma) [1,10] Qabr) Q52
def Qamv:SC:=sR [vJ 1 0,fB 2 false] [1] Q53
def Qk0:List RS:=[.tmp 2]
theorem Qal7:mFn prog Qeu 1 30 Qamv Qk0=true:=by kernel_rfl
def Qo3:List Item:=[hJ 4 3,fI 8 (.bld [.int .i64 0,.sl true 1 []] [(0,1,.t 4),(1,1,.t 7)]),sJ 2 2 8]
def Qagu:SC:=.seq (.dreg 7 [0,1,2,3,4,1,5,6] ( fJ 3 0 1::lJ 4 3::fJ 5 1 1::lJ 6 5::aJ 7 Qii [.t 6]::Qo3) [2]) .ret
def Qasq:SC:=sR [vJ 1 0,eI 2 (.alloc [.int .i64 0,.sl true 1 []])] [1,2] Qagu
def Q1v:List RS:=[.cell 2 2 true]
theorem Qar1:mFn prog Qcj 1 9 Qasq Q1v=true:=by kernel_rfl
def Qmf:List Item:=[sJ 5 5 12]
def Qab0:SC:=.reg [mJ 13 3,fJ 14 0 5,lJ 15 14,nJ 16 15,fJ 17 1 5,lJ 18 17,nJ 19 18,bJ 20 .add 16 19,bJ 21 .add 13 20,mJ 3 21] [3,7,8,9]
def Qab1:SC:=.reg [cJ 22 .add 9 1,mJ 9 22] [3,7,8,9]
def Qab2:SC:=.seq (.block 1 (sR (iJ 11 5 7 9::tJ 12 5 11::eI 5 (.alloc [.sl true 2 [],.sl true 4 [],.int .i64 0,.int .i64 0,.sl true 1 []])::Qmf) [3,5,7,8,9] Qab0)) Qab1
def Q6h:SC:=sR [bJ 10 .lss 9 8] [3,7,8,9,10] (cX 10 0 Qab2)
def Qab3:SC:=sR [mJ 23 3,mJ 2 23] [2] .ret
def Qab4:SC:=.seq (sR [fJ 6 2 1,lJ 7 6,nJ 8 7,zJ 9 0] [3,7,8,9] (bL 0 Q6h)) Qab3
def Qab5:SC:=sR [zJ 3 0] [1,3] Qab4
def Qam3:SC:=sR [vJ 1 0,zJ 2 0] [1] Qab5
def Qxq:List RS:=[.tmp 2]
theorem Qal9:mFn prog Qia 1 24 Qam3 Qxq=true:=by kernel_rfl
def Qx4:List Item:=[sJ 3 5 16]
def Qgf:List Item:=[gF 35 30 (.not (.t 34)),pT 36 30 35]
def Qgg:List Item:=gF 28 21 (.not (.t 27))::pT 29 21 28::mJ 30 29::gFf 31 30 2 5::gFl 32 30 31::gF 33 30 (.len (.t 32))::.e (some 34) (some (30,false)) (.call Qa4 [.t 33,kI 1,kI 160])::Qgf
def Qk6:List Item:=oJ 20 19::mJ 21 20::gFf 22 21 0 5::gFl 23 21 22::gFf 24 21 1 5::gFl 25 21 24::gF 26 21 (.mn (kI 3) (.t 25))::.e (some 27) (some (21,false)) (.call Qa4 [.t 23,kI 0,.t 26])::Qgg
def s_im_codeOk_4:SC:=cT 36 (sR [fB 4 false] [4] .ret) .skip
def Qx5:List Item:=[sJ 1 6 37]
def Qx6:List Item:=[mJ 7 43,sJ 5 8 45]
def Qdr:List Item:=[gF 69 65 (.not (.t 68)),gFm 70 65 69,gTf 71 70 3 8,gTl 72 70 71,gT 73 70 (.bin 0 .neq (.t 72) (kI 0)),gF 74 65 (.pick (.t 70) (.t 73) (.k (.c (.bool false)))),pT 75 65 74]
def Qds:List Item:=gT 62 57 (.not (.t 61))::gF 63 53 (.pick (.t 57) (.t 62) (.k (.c (.bool false))))::pT 64 53 63::mJ 65 64::gFf 66 65 2 8::gFl 67 65 66::.e (some 68) (some (65,false)) (.call Qjs [.t 67])::Qdr
def Qgh:List Item:=gFm 57 53 56::gTl 58 57 6::gTf 59 57 3 8::gTl 60 57 59::.e (some 61) (some (57,true)) (.callv (.t 58) [.t 60])::Qds
def Qi3:List Item:=hJ 47 46::.chk 48 none (.len (.t 47))::bJ 52 .neq 48 51::mJ 53 52::gFf 54 53 2 8::gFl 55 53 54::.e (some 56) (some (53,false)) (.call Qjs [.t 55])::Qgh
def s_im_codeOk_11:SC:=cT 75 (sR [fB 4 false] [4] .ret) .skip
def Qi4:List Item:=[pT 85 80 84]
def Qi5:List Item:=mJ 80 79::gFf 81 80 1 8::gFl 82 80 81::gF 83 80 (.mkf Qic [.t 2,.t 3])::.e (some 84) (some (80,false)) (.call Qco [.t 82,.t 83])::Qi4
def s_im_codeOk_14:SC:=cT 85 (sR [fB 4 false] [4] .ret) .skip
def Qs6:List Item:=[nJ 89 88,mJ 9 89]
def Qs7:List Item:=[sJ 2 11 96]
def Qcy:List Item:=[pT 118 113 117]
def Qcz:List Item:=gF 104 99 (.not (.t 103))::pT 105 99 104::mJ 106 105::gFf 107 106 1 11::gFl 108 106 107::gF 109 106 (.len (.t 108))::gFm 110 106 9::gF 111 106 (.bin 0 .neq (.t 109) (.t 110))::pT 112 106 111::mJ 113 112::gFf 114 113 1 11::gFl 115 113 114::gF 116 113 (.mkf Qid [.t 6])::.e (some 117) (some (113,false)) (.call Qb0 [.t 115,.t 116])::Qcy
def Qx0:SC:=cT 118 (sR [fB 4 false] [4] .ret) .skip
def Qam4:SC:=sR (mJ 97 7::cJ 98 .eql 97 0::mJ 99 98::gFl 100 99 6::gFf 101 99 0 11::gFl 102 99 101::.e (some 103) (some (99,false)) (.callv (.t 100) [.t 102])::Qcz) [2,3,5,6,7,9,39,40,41,91,92,93,118] Qx0
def Qx1:SC:=.reg [cJ 119 .add 93 1,mJ 93 119] [2,3,5,6,7,9,39,40,41,91,92,93]
def Qam5:SC:=.seq (.block 3 (sR (iJ 95 2 91 93::tJ 96 2 95::eI 11 (.alloc [.int .i64 0,.sl true 1 []])::Qs7) [2,3,5,6,7,9,11,39,40,41,91,92,93] Qam4)) Qx1
def Qagz:SC:=sR [bJ 94 .lss 93 92] [2,3,5,6,7,9,39,40,41,91,92,93,94] (cX 94 2 Qam5)
def Qam6:SC:=sR [fJ 90 0 8,lJ 91 90,nJ 92 91,zJ 93 0] [2,3,5,6,7,9,39,40,41,91,92,93] (bL 2 Qagz)
def Qk5:SC:=sR (tJ 86 3 5::mJ 87 7::aJ 88 Qnr [.t 86,.t 87]::Qs6) [2,3,5,6,7,8,9,39,40,41] Qam6
def Qx2:SC:=.seq (sR (fJ 76 4 8::lJ 77 76::fI 78 (.mkf Qib [.t 5])::aJ 79 Qb0 [.t 77,.t 78]::Qi5) [2,3,5,6,7,8,39,40,41,85] s_im_codeOk_14) Qk5
def Qam7:SC:=.seq (.seq (.dreg 30 [0,1,2,3,4,5,1,2,6,7,8,9,10,11,12,13,14,15,16,17,18,19,20,21,22,23,24,25,26,27,28,29] ( fJ 46 4 8::lJ 47 46::nJ 48 47::fJ 49 2 8::lJ 50 49::aJ 51 Qie [.t 50]::Qi3) [2,3,5,6,7,8,39,40,41,75]) s_im_codeOk_11) Qx2
def Qam8:SC:=.reg [cJ 120 .add 41 1,mJ 41 120] [2,3,5,6,39,40,41]
def Qam9:SC:=.seq (.block 1 (sR (mJ 43 41::iJ 44 5 39 41::tJ 45 5 44::eI 8 (.alloc [.sl true 2 [],.sl true 4 [],.int .i64 0,.int .i64 0,.sl true 1 []])::Qx6) [2,3,5,6,7,8,39,40,41] Qam7)) Qam8
def Qag0:SC:=sR [bJ 42 .lss 41 40] [2,3,5,6,39,40,41,42] (cX 42 0 Qam9)
def Qana:SC:=sR [fB 4 true] [4] .ret
def Qanb:SC:=.seq (sR [fJ 38 2 5,lJ 39 38,nJ 40 39,zJ 41 0] [2,3,5,6,39,40,41] (bL 0 Qag0)) Qana
def Qx3:SC:=sR (fI 37 (.mkf Qan [.t 5])::eI 6 (.alloc [.fnil])::Qx5) [2,3,5,6] Qanb
def Qanc:SC:=.seq (sR (fJ 17 1 5::lJ 18 17::aJ 19 Qa4 [.t 18,kI 0,kI 300]::Qk6) [2,3,5,36] s_im_codeOk_4) Qx3
def Qand:SC:=sR (fJ 12 0 2::lJ 13 12::lJ 14 3::iJ 15 3 13 14::tJ 16 3 15::eI 5 (.alloc [.int .i64 0,.int .i64 0,.sl true 5 []])::Qx4) [2,3,5] Qanc
def Qa54:SC:=sR [vJ 2 0,vJ 3 1,fB 4 false] [2,3] Qand
def Qir:List RS:=[.tmp 4]
theorem Qa5b:mFn prog Qr5 2 121 Qa54 Qir=true:=by kernel_rfl
def Qmg:List Item:=[mJ 3 8]
def Qab6:SC:=sR (mJ 4 0::fJ 5 1 1::lJ 6 5::cJ 7 .sub 6 1::aJ 8 Qa4 [.t 4,kI 0,.t 7]::Qmg) [3] .ret
def Qane:SC:=sR [fB 3 false] [0,1] Qab6
def Qxr:List RS:=[.tmp 3]
theorem Qama:mFn prog Qan 2 9 Qane Qxr=true:=by kernel_rfl
def Qmh:List Item:=[oJ 10 9,mJ 3 10]
def Qab7:SC:=sR (mJ 4 0::fJ 5 2 1::lJ 6 5::nJ 7 6::cJ 8 .sub 7 1::aJ 9 Qa4 [.t 4,kI 1,.t 8]::Qmh) [3] .ret
def Qanf:SC:=sR [fB 3 false] [0,1] Qab7
def Qxs:List RS:=[.tmp 3]
theorem Qamb:mFn prog Qib 2 11 Qanf Qxs=true:=by kernel_rfl
def Qmi:List Item:=[oJ 9 8,mJ 4 9]
def Qab8:SC:=sR (tJ 5 1 1::lJ 6 2::tJ 7 4 3::aJ 8 Qy9 [.t 5,.t 6,.t 7]::Qmi) [4] .ret
def Qang:SC:=sR [vJ 3 0,fB 4 false] [1,2,3] Qab8
def Qxt:List RS:=[.tmp 4]
theorem Qamc:mFn prog Qic 3 10 Qang Qxt=true:=by kernel_rfl
def Qmj:List Item:=[oJ 7 6,mJ 3 7]
def Qab9:SC:=sR (lJ 4 1::mJ 5 0::eI 6 (.callv (.t 4) [.t 5])::Qmj) [3] .ret
def Qanh:SC:=sR [fB 3 false] [0,1] Qab9
def Qxu:List RS:=[.tmp 3]
theorem Qamd:mFn prog Qid 2 8 Qanh Qxu=true:=by kernel_rfl
def Qani:SC:=cT 6 .skip (.reg [cJ 10 .eql 3 13,mJ 6 10] [6])
def Qanj:SC:=cT 6 .skip (sR [cJ 9 .eql 3 11,mJ 6 9] [3,6] Qani)
def Qank:SC:=cT 6 .skip (sR [cJ 8 .eql 3 10,mJ 6 8] [3,6] Qanj)
def Qx7:SC:=cT 6 (sR [zJ 2 1] [2] .ret) .skip
def Qanl:SC:=cT 4 (sR [zJ 2 0] [2] .ret) (.seq (sR [cJ 7 .eql 3 2,mJ 6 7] [3,6] Qank) Qx7)
def Qanm:SC:=.block 0 (sR [cJ 5 .eql 3 1,mJ 4 5] [3,4] Qanl)
def Qx8:SC:=sR [zJ 2 2] [2] .ret
def Qann:SC:=.seq (sR [mJ 3 0] [3] Qanm) Qx8
def Qaxv:SC:=sR [zJ 2 0] [0] Qann
def Qj1:List RS:=[.tmp 2]
theorem Qawq:mFn prog Qnt 1 11 Qaxv Qj1=true:=by kernel_rfl
def Q2u:List Item:=[sJ 3 7 13]
def Q2v:List Item:=[sJ 1 8 14]
def Qn9:List Item:=[pT 24 19 23]
def Q2w:List Item:=oJ 18 17::mJ 19 18::gFf 20 19 2 5::gFl 21 19 20::gF 22 19 (.mkf Qkq [.t 8])::.e (some 23) (some (19,false)) (.call Qb0 [.t 21,.t 22])::Qn9
def s_im_insOk_4:SC:=cT 24 (sR [fB 6 false] [6] .ret) .skip
def Qhr:List Item:=[gF 39 35 (.not (.t 38)),gFm 40 35 39,gTf 41 40 1 5,gTl 42 40 41,gT 43 40 (.bin 0 .neq (.t 42) (kI (-1))),gF 44 35 (.pick (.t 40) (.t 43) (.k (.c (.bool false)))),pT 45 35 44]
def Qhs:List Item:=gT 33 28 (.not (.t 32))::pF 34 28 33::mJ 35 34::gFf 36 35 0 5::gFl 37 35 36::.e (some 38) (some (35,false)) (.call Qv0 [.t 37])::Qhr
def Qoa:List Item:=mJ 28 27::gTl 29 28 8::gTf 30 28 1 5::gTl 31 28 30::.e (some 32) (some (28,true)) (.callv (.t 29) [.t 31])::Qhs
def s_im_insOk_8:SC:=cT 45 (sR [fB 6 false] [6] .ret) .skip
def Qob:List Item:=[pF 58 54 57,mJ 6 58]
def Qgi:List Item:=[mJ 66 65,gTf 67 66 2 5,gTl 68 66 67,gT 69 66 (.len (.t 68)),gTf 70 66 0 3,gTl 71 66 70,gTf 72 66 3 5,gTl 73 66 72,gT 74 66 (.iad 3 (.t 71) (.t 73)),gTf 75 66 0 74,gTl 76 66 75,gT 77 66 (.bin 0 .eql (.t 69) (.t 76)),pF 78 66 77,mJ 6 78]
def Qasr:SC:=cT 59 (.seq (.dreg 19 [0,1,2,3,4,5,6,7,8,9,10,11,12,13,14,15,16,17,18] ( fJ 61 3 5::lJ 62 61::mJ 63 1::cJ 64 .sub 63 1::aJ 65 Qa4 [.t 62,kI 0,.t 64]::Qgi) [6]) .ret) .skip
def Qass:SC:=cT 48 (sR (fJ 50 2 5::lJ 51 50::nJ 52 51::cJ 53 .eql 52 0::mJ 54 53::gTf 55 54 3 5::gTl 56 54 55::.e (some 57) (some (54,true)) (.call Qr6 [.t 56])::Qob) [6] .ret) (sR [cJ 60 .eql 47 14,mJ 59 60] [1,3,5,59] Qasr)
def Qast:SC:=.block 0 (sR [cJ 49 .eql 47 1,mJ 48 49] [1,3,5,47,48] Qass)
def Qk7:List Item:=[.chk 84 (some (82,true)) (.ld 1 false (.t 83)),.chk 85 (some (82,true)) (.len (.t 84)),gT 89 82 (.bin 0 .eql (.t 85) (.t 88)),pF 90 82 89,mJ 6 90]
def Qasu:SC:=.seq (.dreg 13 [0,1,2,3,4,5,6,7,8,9,5,6,10,11,12] ( fJ 79 3 5::lJ 80 79::cJ 81 .eql 80 0::mJ 82 81::gTf 83 82 2 5::gTl 84 82 83::gT 85 82 (.len (.t 84))::gTf 86 82 0 5::gTl 87 82 86::.e (some 88) (some (82,true)) (.call Qnt [.t 87])::Qk7) [6]) .ret
def Q2s:SC:=.seq (sR [fJ 46 0 5,lJ 47 46] [1,3,5,47] Qast) Qasu
def Q2t:SC:=.seq (sR (fJ 25 0 5::lJ 26 25::aJ 27 Qv0 [.t 26]::Qoa) [1,3,5,45] s_im_insOk_8) Q2s
def Qasv:SC:=.seq (sR (fJ 15 0 5::lJ 16 15::aJ 17 Qnu [.t 16]::Q2w) [1,3,5,8,24] s_im_insOk_4) Q2t
def Qasw:SC:=sR (fI 14 (.mkf Qdl [.t 7])::eI 8 (.alloc [.fnil])::Q2v) [1,3,5,8] Qasv
def Qasx:SC:=sR (fJ 9 0 3::lJ 10 9::mJ 11 1::iJ 12 3 10 11::tJ 13 3 12::eI 7 (.alloc [.int .i64 0,.int .i64 0,.sl true 5 []])::Q2u) [1,3,5,7] Qasw
def Qbe9:SC:=sR [vJ 3 0,vJ 5 2,fB 6 false] [1,3,5] Qasx
def Qlv:List RS:=[.tmp 6]
theorem Qbel:mFn prog Qy9 3 91 Qbe9 Qlv=true:=by kernel_rfl
def Qo4:List Item:=[mJ 3 8]
def Qag1:SC:=sR (mJ 4 0::fJ 5 1 1::lJ 6 5::cJ 7 .sub 6 1::aJ 8 Qa4 [.t 4,kI 0,.t 7]::Qo4) [3] .ret
def Qasy:SC:=sR [fB 3 false] [0,1] Qag1
def Q1w:List RS:=[.tmp 3]
theorem Qar2:mFn prog Qdl 2 9 Qasy Q1w=true:=by kernel_rfl
def Qo5:List Item:=[oJ 7 6,mJ 3 7]
def Qag2:SC:=sR (lJ 4 1::mJ 5 0::eI 6 (.callv (.t 4) [.t 5])::Qo5) [3] .ret
def Qasz:SC:=sR [fB 3 false] [0,1] Qag2
def Q1x:List RS:=[.tmp 3]
theorem Qar3:mFn prog Qkq 2 8 Qasz Q1x=true:=by kernel_rfl
def Qx9:List Item:=[mJ 2 4]
def Qas0:SC:=sR (mJ 3 0::aJ 4 Qa4 [.t 3,kI 0,kI 255]::Qx9) [2] .ret
def Qa55:SC:=sR [fB 2 false] [0] Qas0
def Qaf0:List RS:=[.tmp 2]
theorem Qa5c:mFn prog Qr6 1 5 Qa55 Qaf0=true:=by kernel_rfl
def Q2x:List Item:=[mJ 2 4]
def Qaxw:SC:=sR (mJ 3 0::aJ 4 Qa4 [.t 3,kI 1,kI 14]::Q2x) [2] .ret
def Qbfa:SC:=sR [fB 2 false] [0] Qaxw
def Qaqm:List RS:=[.tmp 2]
theorem Qbem:mFn prog Qnu 1 5 Qbfa Qaqm=true:=by kernel_rfl
def Qdd:List Item:=[sJ 5 7 13]
def Qde:List Item:=[mJ 5 19]
def Qdf:List Item:=fI 18 (.bsl 5 [.t 17])::xJ 19 5 14 18::Qde
def Qk8:SC:=.reg (mJ 14 5::mJ 15 1::tJ 16 5 7::eI 17 (.callv (.t 15) [.t 16])::Qdf) [1,5,8,9,10]
def Qk9:SC:=.reg [cJ 20 .add 10 1,mJ 10 20] [1,5,8,9,10]
def Qla:SC:=.seq (.block 1 (sR (iJ 12 5 8 10::tJ 13 5 12::eI 7 (.alloc [.sl true 2 [],.sl true 4 [],.int .i64 0,.int .i64 0,.sl true 1 []])::Qdd) [1,5,7,8,9,10] Qk8)) Qk9
def Qjp:SC:=sR [bJ 11 .lss 10 9] [1,5,8,9,10,11] (cX 11 0 Qla)
def Qlb:SC:=sR [mJ 21 5,mJ 4 21] [4] .ret
def Qlc:SC:=.seq (sR [mJ 8 0,nJ 9 8,zJ 10 0] [1,5,8,9,10] (bL 0 Qjp)) Qlb
def Qld:SC:=sR [fI 5 (.mv (.k (.c (.sl true 5 []))))] [0,1,5] Qlc
def Qoc:SC:=sR [fI 4 (.mv (.k (.c (.sl true 5 []))))] [0,1] Qld
def Qe2:List RS:=[.tmp 4]
theorem Qn5:mFn prog Qb9 2 22 Qoc Qe2=true:=by kernel_rfl
def Qfn:List Item:=[sJ 4 7 13]
def Qfo:List Item:=[mJ 5 19]
def Qfp:List Item:=fI 18 (.bsl 4 [.t 17])::xJ 19 4 14 18::Qfo
def Qta:SC:=.reg (mJ 14 5::mJ 15 1::tJ 16 4 7::eI 17 (.callv (.t 15) [.t 16])::Qfp) [1,5,8,9,10]
def Qtb:SC:=.reg [cJ 20 .add 10 1,mJ 10 20] [1,5,8,9,10]
def Qtc:SC:=.seq (.block 1 (sR (iJ 12 4 8 10::tJ 13 4 12::eI 7 (.alloc [.int .i64 0,.int .i64 0,.sl true 1 [],.int .i64 0])::Qfn) [1,5,7,8,9,10] Qta)) Qtb
def Qql:SC:=sR [bJ 11 .lss 10 9] [1,5,8,9,10,11] (cX 11 0 Qtc)
def Qtd:SC:=sR [mJ 21 5,mJ 4 21] [4] .ret
def Qte:SC:=.seq (sR [mJ 8 0,nJ 9 8,zJ 10 0] [1,5,8,9,10] (bL 0 Qql)) Qtd
def Qtf:SC:=sR [fI 5 (.mv (.k (.c (.sl true 4 []))))] [0,1,5] Qte
def Qzx:SC:=sR [fI 4 (.mv (.k (.c (.sl true 4 []))))] [0,1] Qtf
def Qit:List RS:=[.tmp 4]
theorem Qze:mFn prog Qdg 2 22 Qzx Qit=true:=by kernel_rfl
def Qfq:List Item:=[sJ 2 7 13]
def Qfr:List Item:=[mJ 5 19]
def Qfs:List Item:=fI 18 (.bsl 2 [.t 17])::xJ 19 2 14 18::Qfr
def Qtg:SC:=.reg (mJ 14 5::mJ 15 1::tJ 16 2 7::eI 17 (.callv (.t 15) [.t 16])::Qfs) [1,5,8,9,10]
def Qth:SC:=.reg [cJ 20 .add 10 1,mJ 10 20] [1,5,8,9,10]
def Qti:SC:=.seq (.block 1 (sR (iJ 12 2 8 10::tJ 13 2 12::eI 7 (.alloc [.int .i64 0,.sl true 1 []])::Qfq) [1,5,7,8,9,10] Qtg)) Qth
def Qqs:SC:=sR [bJ 11 .lss 10 9] [1,5,8,9,10,11] (cX 11 0 Qti)
def Qtj:SC:=sR [mJ 21 5,mJ 4 21] [4] .ret
def Qtk:SC:=.seq (sR [mJ 8 0,nJ 9 8,zJ 10 0] [1,5,8,9,10] (bL 0 Qqs)) Qtj
def Qtl:SC:=sR [fI 5 (.mv (.k (.c (.sl true 2 []))))] [0,1,5] Qtk
def Qzy:SC:=sR [fI 4 (.mv (.k (.c (.sl true 2 []))))] [0,1] Qtl
def Qiu:List RS:=[.tmp 4]
theorem Qzf:mFn prog Qb4 2 22 Qzy Qiu=true:=by kernel_rfl
def Qacb:SC:=cT 8 (sR [zJ 2 0] [2] .ret) .skip
def Qacc:SC:=cT 6 (sR [zJ 2 2] [2] .ret) (sR [cJ 9 .eql 3 3,mJ 8 9] [8] Qacb)
def Qacd:SC:=cT 4 (sR [zJ 2 1] [2] .ret) (sR [cJ 7 .eql 3 2,mJ 6 7] [3,6] Qacc)
def Qace:SC:=.block 0 (sR [cJ 5 .eql 3 1,mJ 4 5] [3,4] Qacd)
def Qacf:SC:=sR [zJ 2 (-1)] [2] .ret
def Qacg:SC:=.seq (sR [mJ 3 0] [3] Qace) Qacf
def Qano:SC:=sR [zJ 2 0] [0] Qacg
def Qk1:List RS:=[.tmp 2]
theorem Qame:mFn prog Qie 1 10 Qano Qk1=true:=by kernel_rfl
def Q8d:List Item:=[mJ 5 4,gTm 6 5 0,gT 7 5 (.bin 0 .neq (.t 6) (kI 12)),pF 8 5 7,mJ 9 8,gTm 10 9 0,gT 11 9 (.bin 0 .neq (.t 10) (kI 13)),pF 12 9 11,mJ 2 12]
def Qa56:SC:=sR (mJ 3 0::aJ 4 Qnu [.t 3]::Q8d) [2] .ret
def Qbld:SC:=sR [fB 2 false] [0] Qa56
def Qaw9:List RS:=[.tmp 2]
theorem Qbjo:mFn prog Qv0 1 13 Qbld Qaw9=true:=by kernel_rfl
def Qas2:SC:=sR [mJ 3 0,cJ 4 .eql 3 2,mJ 5 4,gFm 6 5 0,gF 7 5 (.bin 0 .eql (.t 6) (kI 3)),pT 8 5 7,mJ 2 8] [2] .ret
def Qa57:SC:=sR [fB 2 false] [0] Qas2
def Qaf1:List RS:=[.tmp 2]
theorem Qa5d:mFn prog Qjs 1 9 Qa57 Qaf1=true:=by kernel_rfl
def Qyb:List Item:=[mJ 9 20]
def Qyc:List Item:=[sJ 5 10 25]
def Qats:SC:=cT 28 (.reg [mJ 29 9,fJ 30 3 10,lJ 31 30,iJ 32 1 29 31,.e none none (.sto 1 (.t 32) (.k (.c (.bool true))))] [3,9,10]) .skip
def Qyd:List Item:=[mJ 12 47]
def Qatt:SC:=cT 49 (.reg [mJ 50 9,mJ 51 12,iJ 52 1 50 51,.e none none (.sto 1 (.t 52) (.k (.c (.bool false))))] [3,9,10,11]) .skip
def Qatu:SC:=.reg [mJ 62 13,cJ 63 .add 62 1,mJ 13 63] [3,9,10,11,13]
def Qatv:SC:=.seq (.block 3 (.reg [mJ 64 9,fJ 65 1 10,lJ 66 65,mJ 67 11,iJ 68 4 66 67,fJ 69 2 68,lJ 70 69,mJ 71 13,iJ 72 1 70 71,lJ 73 72,iJ 74 1 64 73,.e none none (.sto 1 (.t 74) (.k (.c (.bool true))))] [3,9,10,11,13])) Qatu
def Qan1:SC:=.seq (sR [mJ 53 13,fJ 54 1 10,lJ 55 54,mJ 56 11,iJ 57 4 55 56,fJ 58 2 57,lJ 59 58,nJ 60 59,bJ 61 .lss 53 60] [3,9,10,11,13,61] (cT 61 .skip (.exit 2))) Qatv
def Qatw:SC:=sR [zJ 13 0] [3,9,10,11,13] (bL 2 Qan1)
def Qatx:SC:=.seq (sR [mJ 48 12,cJ 49 .geq 48 0] [3,9,10,11,12,49] Qatt) Qatw
def Qanu:SC:=.reg [mJ 40 11,cJ 41 .sub 40 1,mJ 11 41] [3,9,10,11]
def Qanv:SC:=.seq (.block 1 (sR (fJ 42 1 10::lJ 43 42::mJ 44 11::iJ 45 4 43 44::tJ 46 4 45::aJ 47 Qjv [.t 46]::Qyd) [3,9,10,11,12] Qatx)) Qanu
def Qahb:SC:=.seq (sR [mJ 37 11,mJ 38 3,bJ 39 .gtr 37 38] [3,9,10,11,39] (cT 39 .skip (.exit 0))) Qanv
def Qanw:SC:=sR [mJ 75 9,mJ 8 75] [8] .ret
def Qanx:SC:=.seq (sR [fJ 33 1 10,lJ 34 33,nJ 35 34,cJ 36 .sub 35 1,mJ 11 36] [3,9,10,11] (bL 0 Qahb)) Qanw
def Qany:SC:=.seq (sR [fJ 26 2 10,lJ 27 26,cJ 28 .neq 27 1] [3,9,10,28] Qats) Qanx
def Qanz:SC:=sR (fJ 21 2 4::lJ 22 21::mJ 23 2::iJ 24 5 22 23::tJ 25 5 24::eI 10 (.alloc [.sl true 2 [],.sl true 4 [],.int .i64 0,.int .i64 0,.sl true 1 []])::Qyc) [3,9,10] Qany
def Qan0:SC:=sR (fI 14 (.bsl 1 [])::fJ 15 1 5::lJ 16 15::mJ 17 2::iJ 18 1 16 17::lJ 19 18::xJ 20 1 14 19::Qyb) [2,3,4,9] Qanz
def Qa67:SC:=sR [vJ 4 0,vJ 5 1,fI 8 (.mv (.k (.c (.sl true 1 []))))] [2,3,4,5] Qan0
def Qaf6:List RS:=[.tmp 8]
theorem Qa5g:mFn prog Qr8 4 76 Qa67 Qaf6=true:=by kernel_rfl
def Q88:List Item:=[mJ 9 20]
def Q89:List Item:=[mJ 10 25]
def Q9a:List Item:=mJ 24 2::aJ 25 Qnv [.t 23,.t 24]::Q89
def Qa68:SC:=.reg [mJ 35 11,cJ 36 .add 35 1,mJ 11 36] [2,3,4,5,9,10,11]
def Qa69:SC:=.seq (.block 1 (.reg [mJ 37 9,fJ 38 2 4,lJ 39 38,mJ 40 3,iJ 41 5 39 40,fJ 42 0 41,lJ 43 42,mJ 44 11,iJ 45 2 43 44,fJ 46 1 45,lJ 47 46,mJ 48 10,iJ 49 1 47 48,lJ 50 49,iJ 51 1 37 50,.e none none (.sto 1 (.t 51) (.k (.c (.bool true))))] [2,3,4,5,9,10,11])) Qa68
def Qa0l:SC:=.seq (sR [mJ 26 11,fJ 27 2 4,lJ 28 27,mJ 29 3,iJ 30 5 28 29,fJ 31 0 30,lJ 32 31,nJ 33 32,bJ 34 .lss 26 33] [2,3,4,5,9,10,11,34] (cT 34 .skip (.exit 0))) Qa69
def Qahc:SC:=.reg [fJ 74 1 5,lJ 75 74,mJ 76 2,iJ 77 1 75 76,lJ 78 77,mJ 79 13,iJ 80 1 78 79,.e none none (.sto 1 (.t 80) (.k (.c (.bool true))))] [2,4,5,9,12,13]
def Qa7a:SC:=cT 61 (sR [mJ 62 12,mJ 63 62,gFf 64 63 1 5,gFl 65 63 64,gFm 66 63 2,gF 67 63 (.iad 1 (.t 65) (.t 66)),gFl 68 63 67,gFm 69 63 13,gF 70 63 (.iad 1 (.t 68) (.t 69)),gFl 71 63 70,gF 72 63 (.not (.t 71)),pT 73 63 72,mJ 12 73] [2,4,5,9,12,13] Qahc) .skip
def Qa7b:SC:=.reg [mJ 56 13,cJ 57 .add 56 1,mJ 13 57] [2,4,5,9,12,13]
def Qa7c:SC:=.seq (.block 3 (sR [mJ 58 9,mJ 59 13,iJ 60 1 58 59,lJ 61 60] [2,4,5,9,12,13,61] Qa7a)) Qa7b
def Qaty:SC:=.seq (sR [mJ 52 13,fJ 53 1 4,lJ 54 53,bJ 55 .lss 52 54] [2,4,5,9,12,13,55] (cT 55 .skip (.exit 2))) Qa7c
def Qa0f:SC:=sR [mJ 81 12,mJ 8 81] [8] .ret
def Qa0g:SC:=.seq (sR [zJ 13 0] [2,4,5,9,12,13] (bL 2 Qaty)) Qa0f
def Qa0h:SC:=sR [fB 12 false] [2,4,5,9,12] Qa0g
def Qa0i:SC:=.seq (sR [zJ 11 0] [2,3,4,5,9,10,11] (bL 0 Qa0l)) Qa0h
def Qa0j:SC:=sR (tJ 21 3 4::mJ 22 3::aJ 23 Qcl [.t 21,.t 22]::Q9a) [2,3,4,5,9,10] Qa0i
def Qa0k:SC:=sR (fI 14 (.bsl 1 [])::fJ 15 0 5::lJ 16 15::mJ 17 3::iJ 18 1 16 17::lJ 19 18::xJ 20 1 14 19::Q88) [2,3,4,5,9] Qa0j
def Qbls:SC:=sR [vJ 4 0,vJ 5 1,fB 8 false] [2,3,4,5] Qa0k
def Qaxf:List RS:=[.tmp 8]
theorem Qbjy:mFn prog Q47 4 82 Qbls Qaxf=true:=by kernel_rfl
def Qzz:List Item:=[pF 14 7 13,mJ 4 14]
def Qz0:List Item:=mJ 7 6::gTm 8 7 1::gTf 9 7 0 2::gTl 10 7 9::gT 11 7 (.len (.t 10))::gT 12 7 (.bin 0 .sub (.t 11) (kI 1))::.e (some 13) (some (7,true)) (.call Qbq [.t 8,kI 0,.t 12])::Qzz
def Qbfg:SC:=sR (tJ 5 1 2::aJ 6 Qba [.t 5]::Qz0) [4] .ret
def Qbp9:SC:=sR [vJ 2 0,fB 4 false] [1,2] Qbfg
def Qask:List RS:=[.tmp 4]
theorem Qbo7:mFn prog Qaez 2 15 Qbp9 Qask=true:=by kernel_rfl
def Q9b:List Item:=[mJ 3 19]
def Qa7d:SC:=cT 15 (.reg (mJ 16 3::mJ 17 4::fI 18 (.bsl 1 [.t 17])::xJ 19 1 16 18::Q9b) [0,3,4]) .skip
def Qa7e:SC:=.reg [mJ 10 4,cJ 11 .add 10 1,mJ 4 11] [0,3,4]
def Qa7f:SC:=.seq (.block 1 (sR [mJ 12 0,mJ 13 4,iJ 14 1 12 13,lJ 15 14] [0,3,4,15] Qa7d)) Qa7e
def Qa0m:SC:=.seq (sR [mJ 6 4,mJ 7 0,nJ 8 7,bJ 9 .lss 6 8] [0,3,4,9] (cT 9 .skip (.exit 0))) Qa7f
def Qa7g:SC:=sR [mJ 20 3,mJ 2 20] [2] .ret
def Qa7h:SC:=.seq (sR [zJ 4 0] [0,3,4] (bL 0 Qa0m)) Qa7g
def Qa7i:SC:=sR [fI 5 (.bsl 1 []),mJ 3 5] [0,3] Qa7h
def Qblt:SC:=sR [fI 2 (.mv (.k (.c (.sl true 1 []))))] [0] Qa7i
def Qaxg:List RS:=[.tmp 2]
theorem Qbjz:mFn prog Q48 1 21 Qblt Qaxg=true:=by kernel_rfl
def Q9c:List Item:=[sJ 2 3 12]
def Q9d:List Item:=[fJ 28 0 3,sJ 1 28 27]
def Q9e:List Item:=hJ 22 21::fI 26 (.bsl 1 [.t 25])::xJ 27 1 22 26::Q9d
def Q9f:List Item:=[fJ 36 1 3,sJ 1 36 35]
def Q9g:List Item:=hJ 30 29::fI 34 (.bsl 1 [.t 33])::xJ 35 1 30 34::Q9f
def Qa7j:SC:=.dreg 9 [0,1,2,3,4,1,5,6,7,8] ( fJ 29 1 3::lJ 30 29::fJ 31 1 1::lJ 32 31::eI 33 (.mks 1 [.bool false] (.t 32))::Q9g) [1,2,3,4,5]
def Qa7k:SC:=.reg [mJ 19 5,cJ 20 .add 19 1,mJ 5 20] [1,2,3,4,5]
def Qa7l:SC:=.seq (.block 1 (.seq (.dreg 9 [0,1,2,3,4,1,5,6,7,8] ( fJ 21 0 3::lJ 22 21::fJ 23 1 1::lJ 24 23::eI 25 (.mks 1 [.bool false] (.t 24))::Q9e) [1,2,3,4,5]) Qa7j)) Qa7k
def Qa06:SC:=.seq (sR [mJ 16 5,mJ 17 4,bJ 18 .lss 16 17] [1,2,3,4,5,18] (cT 18 .skip (.exit 0))) Qa7l
def Qto:List Item:=[mJ 68 67,gFm 69 68 6,pT 70 68 69,mJ 6 70]
def Qa0n:SC:=.reg [mJ 53 8,cJ 54 .add 53 1,mJ 8 54] [1,2,3,4,6,7,8]
def Qa0o:SC:=.seq (.block 7 (.dreg 17 [0,1,2,3,4,5,6,7,8,9,10,11,12,13,14,15,16] ( tJ 55 3 1::tJ 56 2 3::mJ 57 7::fJ 58 2 1::lJ 59 58::mJ 60 7::iJ 61 5 59 60::fJ 62 4 61::lJ 63 62::mJ 64 8::iJ 65 1 63 64::lJ 66 65::aJ 67 Q47 [.t 55,.t 56,.t 57,.t 66]::Qto) [1,2,3,4,6,7,8])) Qa0n
def Qatz:SC:=.seq (sR [mJ 44 8,fJ 45 2 1,lJ 46 45,mJ 47 7,iJ 48 5 46 47,fJ 49 4 48,lJ 50 49,nJ 51 50,bJ 52 .lss 44 51] [1,2,3,4,6,7,8,52] (cT 52 .skip (.exit 6))) Qa0o
def Q3e:List Item:=[mJ 9 74]
def Qa0p:SC:=.reg [mJ 84 10,cJ 85 .add 84 1,mJ 10 85] [1,2,3,4,6,7,9,10]
def Qa0q:SC:=.seq (.block 9 (.reg [mJ 86 9,fJ 87 2 1,lJ 88 87,mJ 89 7,iJ 90 5 88 89,fJ 91 0 90,lJ 92 91,mJ 93 10,iJ 94 2 92 93,fJ 95 0 94,lJ 96 95,iJ 97 1 86 96,.e none none (.sto 1 (.t 97) (.k (.c (.bool false))))] [1,2,3,4,6,7,9,10])) Qa0p
def Qat0:SC:=.seq (sR [mJ 75 10,fJ 76 2 1,lJ 77 76,mJ 78 7,iJ 79 5 77 78,fJ 80 0 79,lJ 81 80,nJ 82 81,bJ 83 .lss 75 82] [1,2,3,4,6,7,9,10,83] (cT 83 .skip (.exit 8))) Qa0q
def Qa0r:SC:=.reg [mJ 102 11,cJ 103 .add 102 1,mJ 11 103] [1,2,3,4,6,7,9,11]
def Qa0s:SC:=.seq (.block 11 (.dreg 17 [0,1,2,3,4,5,6,7,8,9,10,11,12,13,14,15,16] ( mJ 104 6::mJ 105 104::gFm 106 105 9::gFm 107 105 11::gF 108 105 (.iad 1 (.t 106) (.t 107))::gFl 109 105 108::gFf 110 105 0 3::gFl 111 105 110::gFm 112 105 7::gF 113 105 (.iad 1 (.t 111) (.t 112))::gFl 114 105 113::gFm 115 105 11::gF 116 105 (.iad 1 (.t 114) (.t 115))::gFl 117 105 116::gF 118 105 (.bin 1 .neq (.t 109) (.t 117))::pT 119 105 118::mJ 6 119::[]) [1,2,3,4,6,7,9,11])) Qa0r
def Qat1:SC:=.seq (sR [mJ 98 11,fJ 99 1 1,lJ 100 99,bJ 101 .lss 98 100] [1,2,3,4,6,7,9,11,101] (cT 101 .skip (.exit 10))) Qa0s
def Qa0t:SC:=.reg [fJ 120 0 3,lJ 121 120,mJ 122 7,mJ 123 9,iJ 124 1 121 122,sJ 1 124 123] [1,2,3,4,6,7]
def Qa0u:SC:=.seq (sR [zJ 11 0] [1,2,3,4,6,7,9,11] (bL 10 Qat1)) Qa0t
def Qa0v:SC:=.seq (sR [zJ 10 0] [1,2,3,4,6,7,9,10] (bL 8 Qat0)) Qa0u
def Qa0w:SC:=sR (tJ 71 3 1::tJ 72 2 3::mJ 73 7::aJ 74 Qr8 [.t 71,.t 72,.t 73,kI (-1)]::Q3e) [1,2,3,4,6,7,9] Qa0v
def Qa0x:SC:=.reg [mJ 42 7,cJ 43 .sub 42 1,mJ 7 43] [1,2,3,4,6,7]
def Qa0y:SC:=.seq (.block 5 (.seq (sR [zJ 8 0] [1,2,3,4,6,7,8] (bL 6 Qatz)) Qa0w)) Qa0x
def Qat2:SC:=.seq (sR [mJ 40 7,cJ 41 .geq 40 0] [1,2,3,4,6,7,41] (cT 41 .skip (.exit 4))) Qa0y
def Qa0z:SC:=sR [mJ 38 4,cJ 39 .sub 38 1,mJ 7 39] [1,2,3,4,6,7] (bL 4 Qat2)
def Qa00:SC:=.block 3 (sR [fB 6 false] [1,2,3,4,6] Qa0z)
def Qat3:SC:=.seq (sR [mJ 37 6] [1,2,3,4,37] (cT 37 .skip (.exit 2))) Qa00
def Qa01:SC:=sR [tJ 125 2 3,sJ 2 2 125] [2] .ret
def Qa02:SC:=.seq (sR [fB 6 true] [1,2,3,4,6] (bL 2 Qat3)) Qa01
def Qa03:SC:=.seq (sR [zJ 5 0] [1,2,3,4,5] (bL 0 Qa06)) Qa02
def Qa04:SC:=sR [fJ 13 2 1,lJ 14 13,nJ 15 14,mJ 4 15] [1,2,3,4] Qa03
def Qa05:SC:=sR (fI 12 (.bld [.sl true 1 [],.sl true 1 []] [])::eI 3 (.alloc [.sl true 1 [],.sl true 1 []])::Q9c) [1,2,3] Qa04
def Qblu:SC:=sR [vJ 1 0,eI 2 (.alloc [.sl true 1 [],.sl true 1 []])] [1,2] Qa05
def Qaxh:List RS:=[.cell 2 2 true]
theorem Qbj0:mFn prog Qv5 1 126 Qblu Qaxh=true:=by kernel_rfl
def Qep:List Item:=[cJ 8 .geq 7 0,mJ 4 8]
def Qol:SC:=sR (mJ 5 0::mJ 6 1::aJ 7 Qd5 [.t 5,.t 6]::Qep) [4] .ret
def Qu4:SC:=sR [fB 4 false] [0,1] Qol
def Qgm:List RS:=[.tmp 4]
theorem Qso:mFn prog Qco 2 9 Qu4 Qgm=true:=by kernel_rfl
def Qxc:SC:=cT 16 (sR [mJ 17 5,mJ 4 17] [4] .ret) .skip
def Qxd:SC:=sR [mJ 11 1,mJ 12 0,mJ 13 5,iJ 14 4 12 13,tJ 15 4 14,eI 16 (.callv (.t 11) [.t 15])] [0,1,5,7,8,16] Qxc
def Qxe:SC:=.reg [cJ 18 .add 8 1,mJ 8 18] [0,1,7,8]
def Qxf:SC:=.seq (.block 1 (sR [mJ 10 8,mJ 5 10] [0,1,5,7,8] Qxd)) Qxe
def Qvj:SC:=sR [bJ 9 .lss 8 7] [0,1,7,8,9] (cX 9 0 Qxf)
def Qxg:SC:=sR [zJ 4 (-1)] [4] .ret
def Qxh:SC:=.seq (sR [mJ 6 0,nJ 7 6,zJ 8 0] [0,1,7,8] (bL 0 Qvj)) Qxg
def Q4c:SC:=sR [zJ 4 0] [0,1] Qxh
def Qe3:List RS:=[.tmp 4]
theorem Q1r:mFn prog Qd5 2 19 Q4c Qe3=true:=by kernel_rfl
def Qavj:SC:=cT 5 (sR [fJ 6 1 1,lJ 7 6,mJ 2 7] [2] .ret) .skip
def Qavk:SC:=sR [zJ 2 (-1)] [2] .ret
def Qavl:SC:=.seq (sR [fJ 3 0 1,lJ 4 3,aJ 5 Qf1 [.t 4]] [1,5] Qavj) Qavk
def Qbb4:SC:=sR [vJ 1 0,zJ 2 0] [1] Qavl
def Qzm:List RS:=[.tmp 2]
theorem Qa5p:mFn prog Qjv 1 8 Qbb4 Qzm=true:=by kernel_rfl
end Go.AE.Y
attribute [go_sem_proc] reduceIte reduceEqDiff reduceAdd reduceLeDiff reduceLT reduceCtorEq
namespace Go.AE.Y
open Go.Proofs.Tryz
theorem Qam:prog.follows .mixedOrders=true:=by kernel_rfl
theorem Qbtz (l : Nat) (fl : Bool) (bs : List UInt8) (k : Nat) (n : Int) (H : Heap) (K : V → Heap → Prop)
   (hH : H l = .st [.sl fl 1 (Qb8 bs), .int .i64 k]) (hp' : k ≤ 2^40)
   (hK : ∀ v : Int, (if n < 1 then v = 0 else 0 ≤ v ∧ v < n) → K (.c (.int .i64 v)) (H.set l (.st [.sl fl 1 (Qb8 bs), .int .i64 ((k + 1 : Nat) : Int)]))) :
   Qu prog Qr [.c (.ptr l 0), .c (.int .i64 n)] H K := by
  refine Qb Qam Qawt ?_;refine Qa ?_;simp only [go_sem, Qaz, Qhn, reduceIte, Nat.reduceEqDiff, Nat.reduceAdd];refine Qa ?_;simp only [go_sem, Qaz, Qhn, reduceIte, Nat.reduceEqDiff, Nat.reduceAdd, Nat.reduceLeDiff, Nat.reduceLT, hH];refine ⟨Qp (by omega) (by omega), fun H2 hH2' => ?_⟩;have hH2 : H2 l = .st [C.sl fl 1 (Qb8 bs), C.int IntKind.i64 (k + 1)] := by rw [hH2']; exact Heap.set_same _ _ _
  have hK2 : ∀ v : Int, (if n < 1 then v = 0 else 0 ≤ v ∧ v < n) → K (.c (.int .i64 v)) H2 := by
    intro v hv; rw [hH2']; exact hK v hv
  clear hK;refine Q5 ?_;refine Qa ?_;simp only [go_sem, Qaz, Qhn, reduceIte, Nat.reduceEqDiff, Nat.reduceAdd, Nat.reduceLeDiff, hH2];intro _;refine Qh (Qd rfl ?_ ?_)
  · intro hc;refine Qa ?_;simp only [go_sem, reduceIte, Nat.reduceEqDiff];refine Qk ?_;simp only [go_sem, Q7, Qad, Qj2, reduceIte, Ja, forall_eq, RS.op];refine hK2 0 ?_;split <;> omega
  · intro hc;refine Qi ?_;simp only [go_sem];have hn : 1 ≤ n ∧ bs.length ≠ 0 := by
      simp only [cond_eq_ite] at hc;split at hc
      · simp at hc
      · simp at hc; simp_all
    refine Qa ?_;simp only [go_sem, Qaz, Qhn, reduceIte, Nat.reduceEqDiff, Nat.reduceAdd, Nat.reduceLeDiff, hH2];refine ⟨Qp (by omega) (by omega), ?_⟩;refine Q5 ?_;refine Qa ?_;simp only [go_sem, Qaz, Qhn, reduceIte, Nat.reduceEqDiff, Nat.reduceAdd, Nat.reduceLeDiff, hH2];intro hl;refine Qh (Qd rfl ?_ ?_)
    · intro hc2;have hk : k < bs.length := (by simpa using hc2);refine Qa ?_;simp only [go_sem, Qaz, Qhn, reduceIte, Nat.reduceEqDiff, Nat.reduceAdd, Nat.reduceLeDiff, hH2, hk, Q7w];refine ⟨by omega, ?_⟩;refine Qk ?_;simp only [go_sem, Q7, Qad, Qj2, reduceIte, Ja, forall_eq, RS.op];refine hK2 _ ?_;rw [if_neg (by omega)];exact ⟨J4 _ (by omega), J0 _ (by omega)⟩
    · intro hc2;refine Qi ?_;simp only [go_sem];refine Qak ?_;have e1 : ((k : Int).tmod (bs.length : Int)) = ((k % bs.length : Nat) : Int) := rfl;have e2 : (((k : Int) * 7 + 3).tmod (bs.length : Int)) = (((k * 7 + 3) % bs.length : Nat) : Int) := rfl;have h1 : k % bs.length < bs.length := Nat.mod_lt _ (by omega);have h2 : (k * 7 + 3) % bs.length < bs.length := Nat.mod_lt _ (by omega);simp only [go_sem, Qaz, Qhn, reduceIte, Nat.reduceEqDiff, Nat.reduceAdd, Nat.reduceLeDiff, hH2, e1, e2, h1, h2, Q7w];have e3 : (k : Int).tdiv (bs.length : Int) = ((k / bs.length : Nat) : Int) := rfl;have h3 : k / bs.length ≤ k := Nat.div_le_self _ _;rw [e3];have h4 := (bs.getD (k % bs.length) 0).toNat_lt;have h5 := (bs.getD ((k * 7 + 3) % bs.length) 0).toNat_lt;generalize (bs.getD (k % bs.length) 0).toNat = b1 at *;generalize (bs.getD ((k * 7 + 3) % bs.length) 0).toNat = b2 at *;generalize k / bs.length = d at *;clear e1 e2 h1 h2 e3;refine ⟨by omega, Qp (by omega) (by omega), Qp (by omega) (by omega), Qp (by omega) (by omega), by omega, Qp (by omega) (by omega), Qp (by omega) (by omega),
        Qp (by omega) (by omega), Qp (by omega) (by omega), ⟨by omega, Qp (by omega) (by omega)⟩, Qp (by omega) (by omega), Qp (by omega) (by omega), ?_⟩
      have hx : 0 ≤ (b1 : Int) * 131 + b2 * 1117 + k * 29 + d * 53 := (by omega);have hx' : (b1 : Int) * 131 + b2 * 1117 + k * 29 + d * 53 < 2 ^ 62 := (by omega);generalize (b1 : Int) * 131 + b2 * 1117 + k * 29 + d * 53 = x at *;refine Qa ?_;simp only [go_sem, Qaz, Qhn, reduceIte, Nat.reduceEqDiff, Nat.reduceAdd, Nat.reduceLeDiff];have hq : 0 ≤ x.tdiv 64 := Int.tdiv_nonneg hx (by omega);have hq' : x.tdiv 64 ≤ x := (by have := Int.tdiv_le_self (a := x) 64 hx; exact this);refine ⟨⟨by omega, Qp (by omega) (by omega)⟩, ?_⟩;have hy := Qbuk hx hq hx' (by omega);generalize Qbdt .xor .i64 x (x.tdiv 64) = y at *;refine Qa ?_;simp only [go_sem, Qaz, Qhn, reduceIte, Nat.reduceEqDiff, Nat.reduceAdd, Nat.reduceLeDiff];refine ⟨by omega, ?_⟩;refine Qk ?_;simp only [go_sem, Q7, Qad, Qj2, reduceIte, Ja, forall_eq, RS.op];refine hK2 _ ?_;rw [if_neg (by omega)];exact ⟨J4 _ (by omega), J0 _ (by omega)⟩
theorem Qbd {R:Rdr}{k:Nat}{n:Int}{H:Heap}{K:V→Heap→Prop}(hH:H R.l=R.o k)(hk:k≤2^40)
  (hK:∀(v:Int) (H':Heap),(if n<1 then v=0 else 0≤v∧v<n)→Upd H H' [(R.l,R.o (k+1))]→K (.c (.int .i64 v)) H') :
  Qu prog Qr [.c (.ptr R.l 0),.c (.int .i64 n)] H K:=
 Qbtz R.l R.fl R.bs k n H K hH hk fun v hv=>hK v _ hv ⟨by simp[Heap.set_same,Rdr.o],fun m _ hm=>Heap.set_other _ _ (by simpa using hm)⟩
theorem Qls {R:Rdr}{k:Nat}{fl:Bool}{ns:List Int}{H:Heap}{K:V→Heap→Prop}(hH:H R.l=R.o k)(hk:k≤2^40)(hns:0<ns.length)
  (hK:∀(v:Int) (H':Heap),v∈ns→Upd H H' [(R.l,R.o (k+1))]→K (.c (.int .i64 v)) H') :
  Qu prog Qae [.c (.ptr R.l 0),.c (.sl fl 1 (Qe ns))] H K:=by
 refine Qb Qam Qa5j ?_;refine Qa ?_;simp only[go_sem];refine Qa ?_;simp only[go_sem,Qg];intro hl;refine Qbd hH hk fun v H' hv hu=>?_;rw[if_neg (by omega)]at hv;obtain⟨i,rfl⟩:=Jo hv.1;have hi:i<ns.length:=by omega
 simp only[go_sem,Qyp,Qg,Q0,hi];refine Qk ?_;simp only[go_sem,Q7,Qad,Qagd,reduceIte,Ja,forall_eq,RS.op];refine hK _ H' ?_ hu;rw[Jb,J2 hi];exact Jc hi
theorem of_c {R:Rdr}{k:Nat}{fl:Bool}{ss:List (List UInt8)}{H:Heap}{K:V→Heap→Prop}(hH:H R.l=R.o k)(hk:k≤2^40)(hns:0<ss.length)
  (hK:∀(v:List UInt8) (H':Heap),v∈ss→Upd H H' [(R.l,R.o (k+1))]→K (.c (.str v)) H') :
  Qu prog Qig [.c (.ptr R.l 0),.c (.sl fl 1 (Qbs ss))] H K:=by
 refine Qb Qam Qbes ?_;refine Qa ?_;simp only[go_sem];refine Qa ?_;simp only[go_sem,Qav];intro hl;refine Qbd hH hk fun v H' hv hu=>?_;rw[if_neg (by omega)]at hv;obtain⟨i,rfl⟩:=Jo hv.1;have hi:i<ss.length:=by omega
 simp only[go_sem,Q3y,Qav,Qjj,hi];refine Qk ?_;simp only[go_sem,Q7,Qad,Qaqs,reduceIte,Ja,forall_eq,RS.op];refine hK _ H' ?_ hu;rw[Jb,J2 hi];exact Jc hi
theorem Qbov {R:Rdr}{k:Nat}{fl:Bool}{ss:List (List UInt8)}{H:Heap}{K:V→Heap→Prop}(hH:H R.l=R.o k)(hk:k+2≤2^40)
  (hK:∀(x:Ex) (H':Heap) (k':Nat),k<k'→k'≤k+2→Upd H H' [(R.l,R.o k')]→x.ok→x.size=1→K (.ag x.cells) H') :
  Qu prog Qae1 [.c (.ptr R.l 0),.c (.sl fl 1 (Qbs ss))] H K:=by
 refine Qt ?_;refine Qb Qam Qbpb ?_;refine Qa ?_;simp only[go_sem];intro x hx H1 h1;have kn:=(Kn.start1 hH (R.o_ne k)).al hx h1;refine Q5 ?_;refine Qa ?_;simp only[go_sem,Qav];intro hl;have rest:∀(b:Bool) (H2:Heap) (k2:Nat),k≤k2→k2≤k+1→Kn H H2 [(R.l,R.o k2)] [(x,.st [.int .i64 0,.int .i64 0,.str [],.sl true 4 []])]→(b=false→0<ss.length)→
   Qah prog (s_l2Leaf_2.seq Qaqz) (Q7 Qaea fun x H'=>∃x',FrzV H' (un H) x x'∧K x' (H'.frz (un H))) [(0,V.c (C.ptr R.l 0)),(1,V.c (C.sl fl 1 (Qbs ss))),(4,V.c (C.ptr x 0)),(12,V.c (.bool b))] H2:=by
  intro b H2 k2 hk1 hk2 kn hb;refine Qh (Qd rfl ?_ ?_)
  ·intro hb';refine Qa ?_;simp only[go_sem];refine Qls (ns:=[0,1,2,3,5,7,15,16,100,255]) (kn.e 0 rfl) (by omega) (by simp) fun v H3 hv hu=>?_;have kn:=kn.callE 0 rfl hu (R.o_ne _);have hx3:=kn.l 0 rfl;simp only[go_sem,Qahr,hx3];intro H4 h4;have kn:=kn.stL 0 rfl h4;have hx4:=kn.l 0 rfl;refine Qk ?_;simp only[go_sem,Q7,Qad,Qaea,reduceIte,Ja,forall_eq,RS.op,hx4];refine⟨_,(Ex.mk 1 v [] []).frz,hK _ _ (k2+1) (by omega) (by omega) kn.fin ?_ ?_⟩
   ·simp[Ex.ok,Qes]
   ·simp[Ex.size,Qal]
  ·intro hb';refine Qi ?_;simp only[go_sem];refine Qa ?_;simp only[go_sem];refine of_c (kn.e 0 rfl) (by omega) (hb hb') fun v H3 hv hu=>?_;have kn:=kn.callE 0 rfl hu (R.o_ne _);have hx3:=kn.l 0 rfl;simp only[go_sem,Qahs,hx3];intro H4 h4;have kn:=kn.stL 0 rfl h4;have hx4:=kn.l 0 rfl;refine Qk ?_;simp only[go_sem,Q7,Qad,Qaea,reduceIte,Ja,forall_eq,RS.op,hx4];refine⟨_,(Ex.mk 2 0 v []).frz,hK _ _ (k2+1) (by omega) (by omega) kn.fin ?_ ?_⟩
   ·simp[Ex.ok,Qes]
   ·simp[Ex.size,Qal]
 refine⟨fun hb=>?_,fun hb=>?_⟩
 ·refine Qbd (kn.e 0 rfl) (by omega) fun v H2 hv hu=>?_;have kn:=kn.callE 0 rfl hu (R.o_ne _);simp only[go_sem,Q0n];refine rest _ H2 (k+1) (by omega) (by omega) kn ?_;intro h;have:¬ss.length=0:=by simpa using hb
  omega
 ·have hb2:decide ((ss.length:Int)=0)=true:=by simpa using hb
  simp only[go_sem,Q0n,hb2];exact rest true H1 k (by omega) (by omega) kn (fun h=>by simp at h)
variable {H:Heap}{K:V→Heap→Prop}
theorem Qdc {n lo hi:Int}(hK:K (.c (.bool (decide (lo≤n∧n≤hi)))) H):Qu prog Qbq [.c (.int .i64 n),.c (.int .i64 lo),.c (.int .i64 hi)] H K:=by
 refine Qb Qam Qbve ?_;refine Qa ?_;simp only[go_sem];refine Qa ?_;simp only[go_sem];refine Qk ?_;simp only[go_sem,Q7,Qad,Qbrt,reduceIte,Ja,forall_eq,RS.op];have:(bif decide (lo≤n)then decide (n≤hi)else false)=decide (lo≤n∧n≤hi):=by
  by_cases h:lo≤n <;> simp[h]
 rw[this];exact hK
theorem Qbji {b:Bool}(hK:K (.c (.int .i64 (if b then 1 else 0))) H):Qu prog Q5h [.c (.bool b)] H K:=by
 refine Qb Qam Qbkc ?_;refine Qa ?_;simp only[go_sem];refine Q5 ?_;refine Qa ?_;simp only[go_sem];refine Qh (Qd rfl ?_ ?_)
 ·intro hc;subst hc;refine Qa ?_;simp only[go_sem];refine Qk ?_;simp only[go_sem,Q7,Qad,Qagg,reduceIte,Ja,forall_eq,RS.op];exact hK
 ·intro hc;subst hc;refine Qi ?_;simp only[go_sem];refine Qa ?_;simp only[go_sem];refine Qk ?_;simp only[go_sem,Q7,Qad,Qagg,reduceIte,Ja,forall_eq,RS.op];exact hK
theorem Qbjf {s:List UInt8}{b:UInt8}(hK:∀n:Int,K (.c (.int .i64 n)) H):Qu prog Q5f [.c (.str s),.c (.int .u8 b.toNat)] H K:=by
 refine Qb Qam Qbj8 ?_;refine Qa ?_;simp only[go_sem];refine Q5 ?_;refine Qa ?_;simp only[go_sem];refine Qh (Qc (Qv (fun n e1 H1=>∃i:Nat,n=s.length-i∧i≤s.length∧H1=H∧e1=[(0,.c (.str s)),(1,.c (.int .u8 b.toNat)),(5,.c (.int .i64 i))]) s.length ?_ ?_))
 ·exact⟨0,by omega,by omega,rfl,rfl⟩
 ·rintro n e1 H1 ⟨i,hn,hi,rfl,rfl⟩;refine Q5 ?_;refine Qa ?_;simp only[go_sem];intro hl;simp only[LIM]at hl;refine Qh (Qd rfl ?_ ?_)
  ·intro hc;have hlt:i<s.length:=by simpa using hc
   refine Qi ?_;simp only[go_sem];refine Qh (Qc ?_);refine Qa ?_;simp only[go_sem,hlt];refine Qd rfl ?_ ?_
   ·intro hc2;refine Qa ?_;simp only[go_sem];refine Qk ?_;simp only[go_sem,X.next,Q7,Qad,Qagb,reduceIte,Ja,forall_eq,RS.op];exact hK _
   ·intro hc2;refine Qi ?_;simp only[go_sem];refine Qq ?_;simp only[go_sem,X.next];exact⟨Qp (by omega) (by omega),s.length-(i+1),by omega,i+1,rfl,by omega,rfl⟩
  ·intro hc;refine Qs ?_;simp only[go_sem,X.next];refine Qa ?_;simp only[go_sem];refine Qk ?_;simp only[go_sem,Q7,Qad,Qagb,reduceIte,Ja,forall_eq,RS.op];exact hK _
theorem Qbjd {b:UInt8}(hK:∀n:Int,K (.c (.int .i64 n)) H):Qu prog Q5e [.c (.int .u8 b.toNat)] H K:=by
 refine Qb Qam Qbj6 ?_;refine Qa ?_;simp only[go_sem];refine Qh (Qc ?_);refine Qa ?_;simp only[go_sem];refine Qd rfl ?_ ?_
 ·intro hc;refine Qa ?_;simp only[go_sem];refine Qk ?_;simp only[go_sem,Q7,Qad,Qlw,reduceIte,Ja,forall_eq,RS.op];exact hK _
 intro hc;refine Qa ?_;simp only[go_sem];refine Qd rfl ?_ ?_
 ·intro hc;refine Qa ?_;simp only[go_sem];refine Qk ?_;simp only[go_sem,Q7,Qad,Qlw,reduceIte,Ja,forall_eq,RS.op];exact hK _
 intro hc;refine Qa ?_;simp only[go_sem];refine Qbjf fun n=>?_;simp only[go_sem,Q92];refine Qd rfl ?_ ?_
 ·intro hc;refine Qa ?_;simp only[go_sem];refine Qk ?_;simp only[go_sem,Q7,Qad,Qlw,reduceIte,Ja,forall_eq,RS.op];exact hK _
 intro hc;refine Qa ?_;simp only[go_sem];refine Qd rfl ?_ ?_
 ·intro hc;refine Qa ?_;simp only[go_sem];refine Qk ?_;simp only[go_sem,Q7,Qad,Qlw,reduceIte,Ja,forall_eq,RS.op];exact hK _
 intro hc;refine Qi ?_;simp only[go_sem];refine Qa ?_;simp only[go_sem];refine Qk ?_;simp only[go_sem,Q7,Qad,Qlw,reduceIte,Ja,forall_eq,RS.op];exact hK _
theorem Qbs8 {s:List UInt8}{k:Int}(hK:∀b:Bool,K (.c (.bool b)) H):Qu prog Qari [.c (.str s),.c (.int .i64 k)] H K:=by
 refine Qb Qam Qbtj ?_;refine Qa ?_;simp only[go_sem];refine Q5 ?_;refine Qa ?_;simp only[go_sem];refine Qh (Qc (Qv (fun n e1 H1=>∃i:Nat,n=s.length-i∧i≤s.length∧H1=H∧e1=[(0,.c (.str s)),(1,.c (.int .i64 k)),(5,.c (.int .i64 i))]) s.length ?_ ?_))
 ·exact⟨0,by omega,by omega,rfl,rfl⟩
 ·rintro n e1 H1 ⟨i,hn,hi,rfl,rfl⟩;refine Q5 ?_;refine Qa ?_;simp only[go_sem];intro hl;simp only[LIM]at hl;refine Qh (Qd rfl ?_ ?_)
  ·intro hc;have hlt:i<s.length:=by simpa using hc
   refine Qi ?_;simp only[go_sem];refine Qh (Qc ?_);refine Qa ?_;simp only[go_sem,hlt];refine Qbjd fun cl=>?_;simp only[go_sem,Qaqv];refine Qd rfl ?_ ?_
   ·intro hc2;refine Qa ?_;simp only[go_sem];refine Qk ?_;simp only[go_sem,X.next,Q7,Qad,Qa5z,reduceIte,Ja,forall_eq,RS.op];exact hK _
   ·intro hc2;refine Qi ?_;simp only[go_sem];refine Qq ?_;simp only[go_sem,X.next];exact⟨Qp (by omega) (by omega),s.length-(i+1),by omega,i+1,rfl,by omega,rfl⟩
  ·intro hc;refine Qs ?_;simp only[go_sem,X.next];refine Qa ?_;simp only[go_sem];intro _;refine Qk ?_;simp only[go_sem,Q7,Qad,Qa5z,reduceIte,Ja,forall_eq,RS.op];exact hK _
theorem Qbdp (hK:∀ss:List (List UInt8),K (.c (.sl true 1 (Qbs ss))) H):Qu prog Qkw [] H K:=by
 refine Qb Qam Qase ?_;refine Qa ?_;simp only[go_sem];refine Qa ?_;simp only[go_sem];refine Qk ?_;simp only[go_sem,Q7,Qad,Q2b,reduceIte,Ja,forall_eq,RS.op];exact hK [[102,110],[108,101,116],[115,97,121],[112,117,116],[105,102],[101,108,115,101],[108,111,111,112],[98,97,99,107],[100,111]]
theorem Qbs9 {s:List UInt8}(hK:∀b:Bool,K (.c (.bool b)) H):Qu prog Qarj [.c (.str s)] H K:=by
 refine Qb Qam Qbtk ?_;refine Qa ?_;simp only[go_sem];refine Qa ?_;simp only[go_sem];refine Qbdp fun ss=>?_;simp only[go_sem,Qaqw];refine Q5 ?_;refine Qa ?_;simp only[go_sem];refine Qh (Qc (Qv (fun n e1 H1=>∃i:Nat,n=ss.length-i∧i≤ss.length∧H1=H∧e1=[(0,.c (.str s)),(3,.c (.sl true 1 (Qbs ss))),(4,.c (.int .i64 i))]) ss.length ?_ ?_))
 ·exact⟨0,by omega,by omega,rfl,rfl⟩
 ·rintro n e1 H1 ⟨i,hn,hi,rfl,rfl⟩;refine Q5 ?_;refine Qa ?_;simp only[go_sem,Qav];intro hl;simp only[LIM]at hl;refine Qh (Qd rfl ?_ ?_)
  ·intro hc;have hlt:i<ss.length:=by simpa using hc
   refine Qi ?_;simp only[go_sem];refine Qh (Qc ?_);refine Qa ?_;simp only[go_sem,hlt,Qav,Qjj _ _ hlt];refine Qd rfl ?_ ?_
   ·intro hc2;refine Qa ?_;simp only[go_sem];refine Qk ?_;simp only[go_sem,X.next,Q7,Qad,Qa50,reduceIte,Ja,forall_eq,RS.op];exact hK _
   ·intro hc2;refine Qi ?_;simp only[go_sem];refine Qq ?_;simp only[go_sem,X.next];exact⟨Qp (by omega) (by omega),ss.length-(i+1),by omega,i+1,rfl,by omega,rfl⟩
  ·intro hc;refine Qs ?_;simp only[go_sem,X.next];refine Qa ?_;simp only[go_sem];refine Qk ?_;simp only[go_sem,Q7,Qad,Qa50,reduceIte,Ja,forall_eq,RS.op];exact hK _
theorem Qad3 {s:List UInt8}(hK:∀b:Bool,K (.c (.bool b)) H):Qu prog Qef [.c (.str s)] H K:=by
 refine Qb Qam Qa5o ?_;refine Qa ?_;simp only[go_sem];refine Qa ?_;simp only[go_sem];refine Qbs8 fun b=>?_;simp only[go_sem,Qy2];intro hl;refine⟨fun hb=>?_,fun hb=>?_⟩
 ·refine Qbs9 fun b2=>?_;simp only[go_sem,Qlf];refine Qk ?_;simp only[go_sem,Q7,Qad,Qzl,reduceIte,Ja,forall_eq,RS.op];exact hK _
 ·simp only[go_sem,Qlf,hb];refine Qk ?_;simp only[go_sem,Q7,Qad,Qzl,reduceIte,Ja,forall_eq,RS.op];exact hK _
theorem Qbou {op:Int}(hK:∀a b:Int,K (.tup [.c (.int .i64 a),.c (.int .i64 b)]) H):Qu prog Qae0 [.c (.int .i64 op)] H K:=by
 refine Qb Qam Qbpa ?_;refine Qa ?_;simp only[go_sem];refine Q5 ?_;refine Qa ?_;simp only[go_sem];have ret:∀(a b:Int) (e:Env),lk 2 e=.c (.int .i64 a)→lk 3 e=.c (.int .i64 b)→Q7 Q13 K .ret e H:=by
  intro a b e h1 h2;simp only[go_sem,Q7,Qad,Q13,List.forall_mem_cons,RS.op,h1,h2];exact hK _ _
 refine Qh (Qc ?_);refine Q5 ?_;refine Qa ?_;simp only[go_sem];have r5:∀(b:Bool),Qah prog Qaqy (X.inBlock 0 (X.sq prog Q6q (Q7 Q13 K))) [(4,.c (.int .i64 op)),(5,.c (.bool b))] H:=by
  intro b;refine Qd rfl ?_ ?_
  ·intro hc;refine Qa ?_;simp only[go_sem];refine Qk ?_;simp only[go_sem];exact ret 0 0 _ (by simp[lk]) (by simp[lk])
  intro hc;refine Q5 ?_;refine Qa ?_;simp only[go_sem];have r8:∀(b:Bool),Qah prog Qaqx (X.inBlock 0 (X.sq prog Q6q (Q7 Q13 K))) [(4,.c (.int .i64 op)),(8,.c (.bool b))] H:=by
   intro b;refine Qd rfl ?_ ?_
   ·intro hc;refine Qa ?_;simp only[go_sem];refine Qk ?_;simp only[go_sem];exact ret 1 1 _ (by simp[lk]) (by simp[lk])
   intro hc;refine Qa ?_;simp only[go_sem];refine Qd rfl ?_ ?_
   ·intro hc;refine Qa ?_;simp only[go_sem];refine Qk ?_;simp only[go_sem];exact ret 0 3 _ (by simp[lk]) (by simp[lk])
   ·intro hc;refine Qi ?_;simp only[go_sem];refine Qa ?_;simp only[go_sem];refine Qk ?_;exact ret 2 2 _ (by simp[lk]) (by simp[lk])
  refine Qh (Qd rfl ?_ ?_)
  ·intro hc;refine Qi ?_;simp only[go_sem];exact r8 _
  ·intro hc;refine Qq ?_;simp only[go_sem];exact r8 _
 refine Qh (Qd rfl ?_ ?_)
 ·intro hc;refine Qi ?_;simp only[go_sem];exact r5 _
 ·intro hc;refine Qq ?_;simp only[go_sem];exact r5 _
theorem Qbow {op:Int}(hK:K (.c (.int .i64 (if op=4 then 2 else 1))) H):Qu prog Qae2 [.c (.int .i64 op)] H K:=by
 refine Qb Qam Qbpc ?_;refine Qa ?_;simp only[go_sem];refine Q5 ?_;refine Qa ?_;simp only[go_sem];refine Qh (Qd rfl ?_ ?_)
 ·intro hc;refine Qa ?_;simp only[go_sem];refine Qk ?_;simp only[go_sem,Q7,Qad,Qasl,reduceIte,Ja,forall_eq,RS.op];rw[if_pos (by simpa using hc)]at hK;exact hK
 ·intro hc;refine Qi ?_;simp only[go_sem];refine Qa ?_;simp only[go_sem];refine Qk ?_;simp only[go_sem,Q7,Qad,Qasl,reduceIte,Ja,forall_eq,RS.op];rw[if_neg (by simpa using hc)]at hK;exact hK
end Go.AE.Y
namespace Go.AE
open Go.AE.Y
open Go.Proofs.Tryz
variable {H:Heap}{K:V→Heap→Prop}
theorem Slc.keep {H':Heap}{sz:Nat}{rows:List (List C)}{b:C}{E L:List (Nat×Obj)}(h:Slc H sz rows b)(kn:Kn H H' E L)(hE:∀l a c d,b=.vsl l a c d→l∉E.map Prod.fst):Slc H' sz rows b:=by
 obtain⟨h1,h2,h3,h4⟩:=h
 cases b with
 |sl fl z rs=>exact⟨trivial,h2,h3,h4⟩
 |vsl l z st n=>
  simp only[Go.AE.okSl]at h1
  cases ho:H l with
  |vec y rs=>
   have:=kn.chg l (by rw[ho];simp) (hE l z st n rfl);refine⟨?_,h2,?_,h4⟩
   ·simp only[Go.AE.okSl,this];exact h1
   ·simp only[Go.AE.rowsOf,this];exact h3
  |_=>rw[ho]at h1;exact h1.elim
 |_=>exact h1.elim
theorem Slc.keep0 {H':Heap}{sz:Nat}{rows:List (List C)}{b:C}{L:List (Nat×Obj)}(h:Slc H sz rows b)(kn:Kn H H' [] L):Slc H' sz rows b:=h.keep kn (by simp)
end Go.AE
namespace Go.AE.Y
open Go.Proofs.Tryz
variable {H:Heap}{K:V→Heap→Prop}
def Qac (nx:Nat→List Int)(b:Int)(n:Nat):List Int:=((List.range n).filter fun i=>(nx i).contains b).map Int.ofNat
theorem Qjy (nx:Nat→List Int)(b:Int)(n:Nat):Qac nx b (n+1)=Qac nx b n++if (nx n).contains b then [(n:Int)]else []:=by
 simp only[Qac,List.range_succ,List.filter_append,Jv];congr 1;cases h:(nx n).contains b
 ·simp only[Jac,h,Jag];rfl
 ·simp only[Jac,h,Jag,if_true];rfl
theorem Qcw (nx:Nat→List Int)(b:Int)(n:Nat):(Qac nx b n).length≤n:=by
 simp only[Qac,Je];exact Jaa (List.length_filter_le _ _) (by simp)
set_option maxHeartbeats 1000000 in
theorem Qgl {p rg:Int}{bc:C}{rows:List (List C)}{nx:Nat→List Int}{b:Int}(hs:Slc H 5 rows bc)(how:bc.isOw=false)
  (hx:∀i,i<rows.length→∃a1 a2 a3 a4 fl,rows.getD i []=[a1,a2,a3,a4,.sl fl 1 (Qe (nx i))])
  (hK:∀H',Upd H H' []→K (.c (.sl false 1 (Qe (Qac nx b rows.length)))) H'):Qu prog Qcl [.ag [.int .i64 p,.int .i64 rg,bc],.c (.int .i64 b)] H K:=by
 refine Qt ?_;refine Qb Qam Qbkf ?_;refine Qa ?_;simp only[go_sem];refine Qa ?_;simp only[go_sem];refine Q5 ?_;refine Qa ?_;simp only[go_sem];have hlen:=hs.len;have hesz:=hs.sz;refine Qh (Qc (Qv (fun n e1 H1=>∃(i:Nat) (c:C) (Lg:List (Nat×Obj)),n=rows.length-i∧i≤rows.length∧Gr Lg 1 (Qe (Qac nx b i)) c∧Kn H H1 [] ([]++Lg)∧
  e1=[(1,.c (.int .i64 b)),(2,.c (.pp [.int .i64 p,.int .i64 rg,bc])),(5,.c c),(6,.c (.int .i64 i))]) rows.length ?_ ?_))
 ·exact⟨0,_,[],by omega,by omega,.nil 1,Kn.start0 H,rfl⟩
 ·rintro n e1 H1 ⟨i,c,Lg,hn1,hi,hgr,kn,rfl⟩;have hs1:=hs.keep0 kn;have hok1:=eq_true hs1.ok;have hrw1:=hs1.rows;refine Q5 ?_;refine Qa ?_;simp only[go_sem,how,hok1,hlen];intro hl;simp only[LIM]at hl;refine Qh (Qd rfl ?_ ?_)
  ·intro hc;have hlt:i<rows.length:=by simpa using hc
   obtain⟨a1,a2,a3,a4,fl,hrow⟩:=hx i hlt;refine Qi ?_;simp only[go_sem];have turn:∀(e:Env) (H2:Heap) (c':C) (Lg':List (Nat×Obj)),lk 1 e=.c (.int .i64 b)→lk 2 e=.c (.pp [.int .i64 p,.int .i64 rg,bc])→lk 5 e=.c c'→lk 6 e=.c (.int .i64 i)→
     Gr Lg' 1 (Qe (Qac nx b (i+1))) c'→Kn H H2 [] ([]++Lg')→
     Qah prog Qajq (X.next (fun e2 H2=>∃m,m<n∧∃(i:Nat) (c:C) (Lg:List (Nat×Obj)),m=rows.length-i∧i≤rows.length∧Gr Lg 1 (Qe (Qac nx b i)) c∧Kn H H2 [] ([]++Lg)∧
      e2=[(1,.c (.int .i64 b)),(2,.c (.pp [.int .i64 p,.int .i64 rg,bc])),(5,.c c),(6,.c (.int .i64 i))]) (X.inBlock 0 (X.sq prog Qajr (Q7 Qagi fun x H'=>∃x',FrzV H' (un H) x x'∧K x' (H'.frz (un H)))))) e H2:=by
    intro e H2 c' Lg' l1 l2 l5 l6 hg' kn';refine Qq ?_;simp only[go_sem,l1,l2,l5,l6,X.next];exact⟨Qp (by omega) (by omega),rows.length-(i+1),by omega,i+1,c',Lg',rfl,by omega,hg',by simpa using kn',rfl⟩
   refine Qh (Qc ?_);refine Qa ?_;simp only[go_sem];refine Qc (Qv (fun n e1 H2=>∃(k:Nat),n=(nx i).length-k∧k≤(nx i).length∧b∉(nx i).take k∧H2=H1∧e1=[(1,.c (.int .i64 b)),(2,.c (.pp [.int .i64 p,.int .i64 rg,bc])),(5,.c c),(6,.c (.int .i64 i)),(7,.c (.int .i64 k))]) (nx i).length ?_ ?_)
   ·exact⟨0,by omega,by omega,by simp,rfl,rfl⟩
   ·rintro n e1 H2 ⟨k,hn2,hk,hno,rfl,rfl⟩;refine Q5 ?_;refine Qa ?_;simp only[go_sem,how,hok1,hlen,hesz,hrw1,hlt,hrow,Qg];intro hl2;simp only[LIM]at hl2;refine Qh (Qd rfl ?_ ?_)
    ·intro hc;have hlt2:k<(nx i).length:=(by simpa using hc);have hgd:(nx i).getD k 0=(nx i)[k]:=(by simp[Jb,hlt2]);refine Qi ?_;simp only[go_sem];refine Qh (Qc ?_);refine Qa ?_;simp only[go_sem,how,hok1,hlen,hesz,hrw1,hlt,hrow,hlt2,Qg,Q0 _ _ hlt2,hgd];refine Qd rfl ?_ ?_
     ·intro hc2;have hb:(nx i)[k]=b:=(by simpa using hc2);have hcon:(nx i).contains b=true:=(by rw[J5,←hb];exact Jc hlt2);refine Qa ?_;simp only[go_sem];have hpl:=Qcw nx b i;refine kn.grow (B:=[]) (new:=Qe [(i:Int)]) hgr (.mk' _ _ _ _) (Qw _) (by simp only[Qg,LIM,Jl,Jn];omega) fun y' H3 kn=>?_;simp only[go_sem,Qaa0];refine Qs ?_;have hib:((2:Nat) == 3)=false:=rfl;rw[Qbof hib];simp only[go_sem,X.next];refine turn _ _ _ _ (by simp[lk]) (by simp[lk]) (by simp[lk];rfl) (by simp[lk]) ?_ kn;rw[Qjy,hcon,if_pos rfl,Qcn];exact .mk _ _ _ (by simp)
     ·intro hc2;have hb:¬(nx i)[k]=b:=(by simpa using hc2);refine Qi ?_;simp only[go_sem];refine Qq ?_;simp only[go_sem,X.next];refine⟨Qp (by omega) (by omega),(nx i).length-(k+1),by omega,k+1,rfl,by omega,?_,rfl⟩;rw[Jk hlt2];simp only[Jm,Ja,not_or];exact⟨hno,fun h=>hb h.symm⟩
    ·intro hc;have hge:(nx i).length≤k:=(by simpa using hc);rw[Jd hge]at hno;have hcon:(nx i).contains b=false:=by
      cases hcc:(nx i).contains b with
      |false=>rfl
      |true=>exact absurd (J5.1 hcc) hno
     refine Qs ?_;simp only[go_sem,X.next];refine turn _ _ _ _ (by simp[lk]) (by simp[lk]) (by simp[lk];rfl) (by simp[lk]) ?_ kn;rw[Qjy,hcon];simpa using hgr
  ·intro hc;have hge:i=rows.length:=by have:rows.length≤i:=(by simpa using hc);omega
   subst hge;refine Qs ?_;simp only[go_sem,X.next];refine Qa ?_;simp only[go_sem];refine Qk ?_;simp only[go_sem,Q7,Qad,Qagi,reduceIte,Ja,forall_eq,RS.op];exact⟨_,.c _ _ (hgr.frz kn (Qw _)),hK _ kn.fin⟩
def Qy5 (op:Int):Int:=if op=1 then 0 else if op=2∨op=10∨op=11∨op=13 then 1 else if (3≤op∧op≤9)∨op=12 then 2 else -1
theorem Qbcu {op:Int}(hK:K (.c (.int .i64 (Qy5 op))) H):Qu prog Qsc [.c (.int .i64 op)] H K:=by
 refine Qb Qam Qbpg ?_;have retf:∀(n:Int) (e:Env),Qy5 op=n→lk 2 e=.c (.int .i64 n)→Q7 Qasn K .ret e H:=by
  intro b e h1 h3;simp only[go_sem,Q7,Qad,Qasn,Ja,forall_eq,RS.op,h3];rw[←h1];exact hK
 refine Qa ?_;simp only[go_sem];refine Qh (Qc ?_);refine Qa ?_;simp only[go_sem];refine Qd rfl ?_ ?_
 ·intro hc;refine Qa ?_;simp only[go_sem];refine Qk ?_;simp only[go_sem];exact retf 0 _ (by simp only[decide_eq_true_eq]at hc;simp[Qy5,hc]) (by simp[lk])
 intro hc1;refine Qa ?_;simp only[go_sem];refine Qd rfl ?_ ?_
 ·intro hc;refine Qa ?_;simp only[go_sem];refine Qk ?_;simp only[go_sem];exact retf 1 _ (by simp at hc1 hc;rw[Qy5,if_neg hc1,if_pos (by omega)]) (by simp[lk])
 intro hc2;refine Qa ?_;simp only[go_sem];refine Qdc ?_;simp only[go_sem,Qai1];refine Qd rfl ?_ ?_
 ·intro hc;refine Qa ?_;simp only[go_sem];refine Qk ?_;simp only[go_sem];exact retf 2 _ (by simp at hc1 hc2 hc;rw[Qy5,if_neg hc1,if_neg (by omega),if_pos (by omega)]) (by simp[lk])
 ·intro hc;refine Qi ?_;simp only[go_sem];refine Qa ?_;simp only[go_sem];refine Qk ?_;exact retf (-1) _ (by simp at hc1 hc2 hc;rw[Qy5,if_neg hc1,if_neg (by omega),if_neg (by omega)]) (by simp[lk])
theorem argsN_in {op:Int}:-1≤Qy5 op∧Qy5 op≤2:=by
 rw[Qy5];split
 ·omega
 ·split
  ·omega
  ·split <;> omega
theorem Qbjj {op:Int}(hK:∀n:Int,-1≤n→n≤2→K (.c (.int .i64 n)) H):Qu prog Qsc [.c (.int .i64 op)] H K:=Qbcu (hK _ argsN_in.1 argsN_in.2)
def Qfi (op:Int):Bool:=decide (1≤op∧op≤14)&&!decide (op=12)&&!decide (op=13)
theorem Qsm {op:Int}(hK:K (.c (.bool (Qfi op))) H):Qu prog Qf1 [.c (.int .i64 op)] H K:=by
 refine Qb Qam Qbke ?_;refine Qa ?_;simp only[go_sem];refine Qa ?_;simp only[go_sem];refine Qdc ?_;simp only[go_sem,Qaaz];refine Qk ?_;simp only[go_sem,Q7,Qad,Qaxm,reduceIte,Ja,forall_eq,RS.op];have:∀a b c:Bool,(bif bif a then b else false then c else false)=(a&&b&&c):=by decide
 rw[this];exact hK
def Qsy (rg:Int)(l:List Int):Bool:=l.all fun x=>decide (0≤x∧x≤rg-1)
theorem Qbe4 {rg:Int}{l:List Int}{i:Nat}(hi:i<l.length):Qsy rg (l.take (i+1))=(Qsy rg (l.take i)&&decide (0≤l.getD i 0∧l.getD i 0≤rg-1)):=by
 have e:l.getD i 0=l[i]:=by simp[Jb,hi]
 rw[Qsy,Jk hi,Jaf,e];simp[Qsy]
theorem Qbk7 {rg:Int}{l:List Int}{i:Nat}(hi:i<l.length)(h:decide (0≤l.getD i 0∧l.getD i 0≤rg-1)=false):Qsy rg l=false:=by
 have e:l.getD i 0=l[i]:=by simp[Jb,hi]
 cases hc:Qsy rg l with
 |false=>rfl
 |true=>
  rw[Qsy,Jab]at hc;have:=hc _ (Jc hi);rw[e]at h;rw[h]at this;exact absurd this (by simp)
theorem Qbcv {p rg:Int}{bc:C}{fl:Bool}{l:List Int}(hr:-(2^62)≤rg)(hr2:rg≤2^62)(hK:K (.c (.bool (Qsy rg l))) H) :
  Qu prog Q1e [.ag [.int .i64 p,.int .i64 rg,bc],.c (.sl fl 1 (Qe l))] H K:=by
 refine Qb Qam Qbpk ?_;have retf:∀(b:Bool) (e:Env),Qsy rg l=b→lk 4 e=.c (.bool b)→Q7 Qaso K .ret e H:=by
  intro b e h1 h3;simp only[go_sem,Q7,Qad,Qaso,Ja,forall_eq,RS.op,h3];rw[←h1];exact hK
 refine Qa ?_;simp only[go_sem];refine Q5 ?_;refine Qa ?_;simp only[go_sem];refine Qh (Qc (Qv (fun n e1 H1=>∃(i:Nat),n=l.length-i∧i≤l.length∧H1=H∧Qsy rg (l.take i)=true∧e1=[(1,.c (.sl fl 1 (Qe l))),(2,.c (.pp [.int .i64 p,.int .i64 rg,bc])),(5,.c (.int .i64 i))]) l.length ?_ ?_))
 ·exact⟨0,by omega,by omega,rfl,rfl,rfl⟩
 ·rintro n e1 H1 ⟨i,hn1,hi,rfl,hall,rfl⟩;refine Q5 ?_;refine Qa ?_;simp only[go_sem,Qg];intro hl;simp only[LIM]at hl;refine Qh (Qd rfl ?_ ?_)
  ·intro hc;have hlt:i<l.length:=by simpa using hc
   refine Qi ?_;simp only[go_sem];refine Qh (Qc ?_);refine Qak ?_;simp only[go_sem,hlt,Qg,Q0 _ _ hlt];refine⟨Qp (by omega) (by omega),?_⟩;refine Qdc ?_;simp only[go_sem,Qajs];refine Qd rfl ?_ ?_
   ·intro hc2;refine Qa ?_;simp only[go_sem];refine Qk ?_;simp only[go_sem,X.next];exact retf false _ (Qbk7 hlt (Qsp hc2)) (by simp[lk])
   ·intro hc2;refine Qi ?_;simp only[go_sem];refine Qq ?_;simp only[go_sem,X.next];exact⟨Qp (by omega) (by omega),l.length-(i+1),by omega,i+1,rfl,by omega,by rw[Qbe4 hlt,hall,Qfg hc2];rfl,rfl⟩
  ·intro hc;have hge:l.length≤i:=by simpa using hc
   rw[Jd hge]at hall;refine Qs ?_;simp only[go_sem,X.next];refine Qa ?_;simp only[go_sem];refine Qk ?_;exact retf true _ hall (by simp[lk])
def rgOf (cs:List CodeD)(k:Nat):Int:=(cs[k]?.map CodeD.regs).getD 0
def pmOf (cs:List CodeD)(k:Nat):Int:=(cs[k]?.map CodeD.params).getD 0
theorem Qzn {cs:List CodeD}{k:Nat}(h:k<cs.length):rgOf cs k=cs[k].regs:=by simp[rgOf,h]
theorem Qzi {cs:List CodeD}{k:Nat}(h:k<cs.length):pmOf cs k=cs[k].params:=by simp[pmOf,h]
def insH (rg:Int)(x:InsD):Bool:=decide (1≤x.op∧x.op≤14)&&Qsy rg x.args
def insT (rg:Int)(x:InsD):Bool:=if Qfi x.op then decide (0≤x.to∧x.to≤rg-1)else decide (x.to=-1)
def insL (cs:List CodeD)(k:Nat)(x:InsD):Bool:=
 if x.op=14 then decide (0≤x.n∧x.n≤(k:Int)-1)&&decide ((x.args.length:Int)=pmOf cs x.n.toNat)
 else decide ((x.args.length:Int)=Qy5 x.op)&&decide (0≤x.n∧x.n≤255)&&(decide (x.n=0) || decide (x.op=1))
def insG (cs:List CodeD)(k:Nat)(x:InsD):Bool:=insH (rgOf cs k) x&&insT (rgOf cs k) x&&insL cs k x
set_option maxHeartbeats 1000000 in
theorem Qbtb {cs:List CodeD}{fl:Bool}{k:Nat}{x:InsD}(hk:k<cs.length)(hr:0≤cs[k].regs)(hr2:cs[k].regs≤300)(hcl:cs.length≤100)(hK:∀(H':Heap),Upd H H' []→K (.c (.bool (insG cs k x))) H') :
  Qu prog Qarl [.ag [.sl fl 3 (Ql cs)],.c (.int .i64 k),.ag x.cells] H K:=by
 refine Qt ?_;refine Qb Qam Qbtm ?_;refine Qa ?_;simp only[go_sem,InsD.cells];refine Qa ?_;simp only[go_sem,hk,Qx,Qaf _ _ hk,CodeD.cells];intro x7 hx7 H1 h1;have kn:=(Kn.start0 H).al hx7 h1;have hx71:=kn.l 0 rfl;simp only[go_sem,Qaq3,hx71];intro H2 h2;have kn:=kn.stL 0 rfl h2;have hx72:=kn.l 0 rfl;have hrg:=Qzn hk;have retf:∀(b:Bool) (e:Env),insG cs k x=b→lk 6 e=.c (.bool b)→Q7 Qagh (fun x H'=>∃x',FrzV H' (un H) x x'∧K x' (H'.frz (un H))) .ret e H2:=by
  intro b e h1 h3;simp only[go_sem,Q7,Qad,Qagh,Ja,forall_eq,RS.op,h3];rw[←h1];exact⟨_,.c _ _ (Qf rfl),hK _ kn.fin⟩
 refine Q5 ?_;refine Qa ?_;simp only[go_sem];refine Qdc ?_;simp only[go_sem,Qaq4,hx72];have rest:∀(E1:Env) (b:Bool),insH cs[k].regs x=(!b)→lk 1 E1=.c (.int .i64 k)→lk 3 E1=.c (.pp [.sl fl 3 (Ql cs)])→lk 5 E1=.c (.pp [.int .i64 x.op,.int .i64 x.to,.sl false 1 (Qe x.args),.int .i64 x.n])→lk 7 E1=.c (.ptr x7 0)→lk 23 E1=.c (.bool b)→
   Qah prog (s_l7Ins_3.seq Qaq2) (Q7 Qagh (fun x H'=>∃x',FrzV H' (un H) x x'∧K x' (H'.frz (un H)))) E1 H2:=by
  intro E1 b hb l1 l3 l5 l7 l23;refine Qh (Qd l23 ?_ ?_)
  ·intro hc;refine Qa ?_;simp only[go_sem];refine Qk ?_;simp only[go_sem];exact retf false _ (by rw[insG,hrg,hb,hc];rfl) (by simp[lk])
  intro hc;rw[hc]at hb;refine Qi ?_;simp only[go_sem];refine Q5 ?_;refine Qak ?_;simp only[go_sem,l1,l3,l5,l7,hx72];refine⟨Qp (by omega) (by omega),?_⟩;refine Qsm ?_;simp only[go_sem,Qaq6,l1,l3,l5,l7,hx72];refine Qdc ?_;simp only[go_sem,Qaq5,l1,l3,l5,l7,hx72];have rest2:∀(E1:Env) (b:Bool),insT cs[k].regs x=(!b)→lk 1 E1=.c (.int .i64 k)→lk 3 E1=.c (.pp [.sl fl 3 (Ql cs)])→lk 5 E1=.c (.pp [.int .i64 x.op,.int .i64 x.to,.sl false 1 (Qe x.args),.int .i64 x.n])→lk 44 E1=.c (.bool b)→
    Qah prog (s_l7Ins_7.seq Qaq1) (Q7 Qagh (fun x H'=>∃x',FrzV H' (un H) x x'∧K x' (H'.frz (un H)))) E1 H2:=by
   intro E1 b hb2 l1 l3 l5 l44;refine Qh (Qd l44 ?_ ?_)
   ·intro hc;refine Qa ?_;simp only[go_sem];refine Qk ?_;simp only[go_sem];exact retf false _ (by rw[insG,hrg,hb2,hc];simp) (by simp[lk])
   intro hc;rw[hc]at hb2;have hG:insG cs k x=insL cs k x:=by rw[insG,hrg,hb,hb2];rfl
   refine Qi ?_;simp only[go_sem];refine Q5 ?_;refine Qa ?_;simp only[go_sem,l1,l3,l5];refine Qh (Qd rfl ?_ ?_)
   ·intro hc;have hop:x.op=14:=of_decide_eq_true hc;rw[insL,if_pos hop]at hG;refine Qak ?_;simp only[go_sem];refine⟨Qp (by omega) (by omega),?_⟩;refine Qdc ?_;by_cases hin:0≤x.n∧x.n≤(k:Int)-1
    ·obtain⟨m,hm⟩:=Jo hin.1;have hmk:m<cs.length:=(by omega);have hin':(0≤(m:Int)∧(m:Int)≤(k:Int)-1)=True:=eq_true (by rw[←hm];exact hin);simp only[go_sem,Qwf,hm,hin',hmk,decide_true,Qx,Qaf _ _ hmk,CodeD.cells,Qg];refine Qk ?_;refine retf _ _ ?_ (by simp[lk];rfl);rw[hG,hm,Int.toNat_natCast,Qzi hmk];simp only[hin',decide_true,Bool.true_and];simp[show ((m:Int)≤(k:Int)-1) from by omega]
    ·have hin':decide (0≤x.n∧x.n≤(k:Int)-1)=false:=(by simpa using hin);by_cases hm:x.n.toNat<cs.length
     ·simp only[go_sem,Qwf,hin',Qaf _ _ hm,CodeD.cells];refine Qk ?_;exact retf false _ (by rw[hG,hin'];rfl) (by simp[lk])
     ·have hgd:(Ql cs).getD x.n.toNat []=[]:=by
       rw[Jb,List.getElem?_eq_none (by rw[Qx];omega)];rfl
      simp only[go_sem,Qwf,hin',hgd,Jak,List.headD_nil];refine Qk ?_;exact retf false _ (by rw[hG,hin'];rfl) (by simp[lk])
   ·intro hc;have hop:¬x.op=14:=of_decide_eq_false hc;rw[insL,if_neg hop]at hG;refine Qi ?_;simp only[go_sem];refine Qak ?_;simp only[go_sem];refine Qbcu ?_;simp only[go_sem,Qajp];refine⟨fun hb=>?_,fun hb=>?_⟩
    ·refine Qdc ?_;simp only[go_sem,Q0p];refine Qk ?_;refine retf _ _ ?_ (by simp[lk];rfl);have hb':(x.args.length:Int)=Qy5 x.op:=(by simpa[Qg]using hb);rw[hG];simp[hb',Qg]
    ·simp only[go_sem,Q0p,hb];refine Qk ?_;refine retf _ _ ?_ (by simp[lk];rfl);have hb':¬(x.args.length:Int)=Qy5 x.op:=(by simpa[Qg]using hb);rw[hG];simp[hb']
  refine⟨fun hb=>?_,fun hb=>?_⟩
  ·refine Qsm ?_;simp only[go_sem,Q6t,l1,l3,l5,l7];refine rest2 _ _ ?_ (by simp[lk]) (by simp[lk]) (by simp[lk]) (by simp[lk];rfl)
   cases hmk:Qfi x.op with
   |true=>simp[insT,hmk]
   |false=>by_cases h:x.to=-1 <;> simp[insT,hmk,h]
  ·replace hb:=Qfg hb;simp only[go_sem,Q6t,l1,l3,l5,l7,hb];refine rest2 _ true ?_ (by simp[lk]) (by simp[lk]) (by simp[lk]) (by simp[lk])
   cases hmk:Qfi x.op with
   |true=>simp[hmk]at hb;simp[insT,hmk];omega
   |false=>simp[hmk]at hb;simp[insT,hmk];omega
 refine⟨fun hb=>?_,fun hb=>?_⟩
 ·refine Qbcv (by omega) (by omega) ?_;simp only[go_sem,Q6s];refine rest _ _ ?_ (by simp[lk]) (by simp[lk]) (by simp[lk]) (by simp[lk]) (by simp[lk];rfl);simp[insH]
 ·replace hb:=Qfg hb;simp only[go_sem,Q6s,hb];refine rest _ true ?_ (by simp[lk]) (by simp[lk]) (by simp[lk]) (by simp[lk]) (by simp[lk]);rw[insH,Qsp hb];rfl
theorem InsD.take4 (x:InsD):x.cells.take 4=x.cells:=rfl
theorem InsD.allOw (x:InsD):(x.cells.all fun c=>!c.isOw)=true:=rfl
theorem InsD.len4 (x:InsD):x.cells.length=4:=rfl
theorem Qbsa (l:List BlkD)(i:Nat)(h:i<(Qm l).length):∃a1 a2 a3 a4 fl,(Qm l).getD i []=[a1,a2,a3,a4,.sl fl 1 (Qe ((l.map BlkD.next).getD i []))]:=by
 rw[Qj]at h;rw[Q9 _ _ h];have:(l.map BlkD.next).getD i []=l[i].next:=by simp[Jb,h]
 exact⟨.sl false 2 (Qab l[i].phis),.sl false 4 (Qap l[i].ins),.int .i64 l[i].jump,.int .i64 l[i].on,false,by rw[this];rfl⟩
set_option maxHeartbeats 3000000 in
theorem Qad4 {α:Type}{p:α→Bool}{l:List α}{i:Nat}(hi:i<l.length):(l.take (i+1)).all p=((l.take i).all p&&p l[i]):=by
 rw[Jk hi,Jaf];simp
theorem Qard {α:Type}{p:α→Bool}{l:List α}{i:Nat}(hi:i<l.length)(h:p l[i]=false):l.all p=false:=by
 cases hc:l.all p with
 |false=>rfl
 |true=>rw[Jab.1 hc _ (Jc hi)]at h;exact absurd h (by simp)
def Qqj (j:Int):Int:=if j=1 then 1 else if j=2 then 2 else if j=3 then 0 else -1
def Qsl (rg:Int)(y:BlkD):Bool:=decide ((y.next.length:Int)=Qqj y.jump)&&if y.jump=1 then decide (y.on=0)else decide (0≤y.on∧y.on≤rg-1)
def Qabk (n:Nat)(x:Int):Bool:=decide (1≤x∧x≤(n:Int)-1)
def phiG (rg:Int)(np b:Nat)(x:PhiD):Bool:=!decide (b=0)&&decide ((x.args.length:Int)=np)&&Qsy rg x.args&&decide (0≤x.to∧x.to≤rg-1)
def blkG (cs:List CodeD)(k b:Nat)(q:CodeD)(y:BlkD):Bool:=
 Qsl q.regs y&&y.next.all (Qabk (Qm q.blocks).length)&&y.ins.all (insG cs k)&&y.phis.all (phiG q.regs (Qac (fun i=>(q.blocks.map BlkD.next).getD i []) (b:Int) (Qm q.blocks).length).length b)
theorem Qbhw {cs:List CodeD}{k b:Nat}{q:CodeD}{y:BlkD}(h:blkG cs k b q y=true):y.next.length≤2:=by
 simp only[blkG,Qsl,Bool.and_eq_true,decide_eq_true_eq]at h;have:=h.1.1.1.1;rw[Qqj]at this;split at this
 ·omega
 ·split at this
  ·omega
  ·split at this <;> omega
set_option maxHeartbeats 1000000 in
theorem Qbjk {cs:List CodeD}{fl:Bool}{k b:Nat}(hk:k<cs.length)(hbk:b<cs[k].blocks.length)(hr:0≤cs[k].regs)(hr2:cs[k].regs≤300)(hcl:cs.length≤100)(hbl:cs[k].blocks.length≤200)(hK:∀(H':Heap),Upd H H' []→K (.c (.bool (blkG cs k b cs[k] cs[k].blocks[b]))) H') :
  Qu prog Q5i [.ag [.sl fl 3 (Ql cs)],.c (.int .i64 k),.c (.int .i64 b)] H K:=by
 refine Qt ?_;refine Qb Qam Qbkd ?_;have retf:∀(v:Bool) (e:Env) (H':Heap) (L:List (Nat×Obj)),blkG cs k b cs[k] cs[k].blocks[b]=v→Kn H H' [] L→lk 6 e=.c (.bool v)→Q7 Qlx (fun x H'=>∃x',FrzV H' (un H) x x'∧K x' (H'.frz (un H))) .ret e H':=by
  intro v e H' L hb kn h3;simp only[go_sem,Q7,Qad,Qlx,Ja,forall_eq,RS.op,h3];rw[←hb];exact⟨_,.c _ _ (Qf rfl),hK _ kn.fin⟩
 refine Qa ?_;simp only[go_sem];refine Qa ?_;simp only[go_sem,hk,Qx,Qaf _ _ hk,CodeD.cells];intro x7 hx7 H1 h1;have kn:=(Kn.start0 H).al hx7 h1;have hx71:=kn.l 0 rfl;simp only[go_sem,Qaao,hx71];intro H2 h2;have kn:=kn.stL 0 rfl h2;have hx72:=kn.l 0 rfl;refine Qa ?_;simp only[go_sem,hx72,hbk,Qj,Q9 _ _ hbk,BlkD.cells];obtain⟨y,hy⟩:∃y,cs[k].blocks[b]=y:=⟨_,rfl⟩;rw[hy];intro x8 hx8 H3 h3;have kn:=kn.al hx8 h3;have hx83:=kn.l 1 rfl;simp only[go_sem,Qaap,hx83];intro H4 h4;have kn:Kn H H4 [] [(x7,.st [.int .i64 cs[k].params,.int .i64 cs[k].regs,.sl false 5 (Qm cs[k].blocks)]),(x8,.st [.sl false 2 (Qab y.phis),.sl false 4 (Qap y.ins),.int .i64 y.jump,.int .i64 y.on,.sl false 1 (Qe y.next)])]:=kn.stL 1 rfl h4;obtain⟨q,hq⟩:∃q,cs[k]=q:=⟨_,rfl⟩;have hGe:blkG cs k b cs[k] cs[k].blocks[b]=blkG cs k b q y:=by rw[hy,hq]
 rw[hGe]at retf;rw[hq]at kn hr hr2 hbk hbl;generalize hnp:(Qac (fun i=>(q.blocks.map BlkD.next).getD i []) (b:Int) (Qm q.blocks).length).length=np;have hGd:blkG cs k b q y=(Qsl q.regs y&&y.next.all (Qabk (Qm q.blocks).length)&&y.ins.all (insG cs k)&&y.phis.all (phiG q.regs np b)):=by rw[blkG,hnp]
 refine Qa ?_;simp only[go_sem];have hx74:=kn.l 0 rfl;have hx84:=kn.l 1 rfl;refine Q5 ?_;refine Qa ?_;simp only[go_sem,hx84];have rest31:∀(want:Int) (E1:Env),Qqj y.jump=want→(y.jump=1→y.on=0)→lk 1 E1=.c (.int .i64 k)→lk 2 E1=.c (.int .i64 b)→lk 3 E1=.c (.pp [.sl fl 3 (Ql cs)])→lk 7 E1=.c (.ptr x7 0)→lk 8 E1=.c (.ptr x8 0)→lk 9 E1=.c (.int .i64 want)→
   Qah prog Qaan (Q7 Qlx (fun x H'=>∃x',FrzV H' (un H) x x'∧K x' (H'.frz (un H)))) E1 H4:=by
  intro want E1 hw hjo l1 l2 l3 l7 l8 l9;refine Q5 ?_;refine Qa ?_;simp only[go_sem,l1,l2,l3,l7,l8,l9,hx74,hx84,Qg];intro hnl;simp only[LIM]at hnl;refine⟨fun _=>Qp (by omega) (by omega),?_⟩;have rest8:∀(b1:Bool) (E1:Env),Qsl q.regs y=(!b1)→lk 1 E1=.c (.int .i64 k)→lk 2 E1=.c (.int .i64 b)→lk 3 E1=.c (.pp [.sl fl 3 (Ql cs)])→lk 7 E1=.c (.ptr x7 0)→lk 8 E1=.c (.ptr x8 0)→lk 53 E1=.c (.bool b1)→
    Qah prog (s_l7Block_8.seq Qaam) (Q7 Qlx (fun x H'=>∃x',FrzV H' (un H) x x'∧K x' (H'.frz (un H)))) E1 H4:=by
   intro b1 E1 hn2 l1 l2 l3 l7 l8 l53;refine Qh (Qd l53 ?_ ?_)
   ·intro hc;refine Qa ?_;simp only[go_sem];refine Qk ?_;simp only[go_sem];exact retf false _ _ _ (by rw[hGd,hn2,hc];simp) kn (by simp[lk])
   intro hbf;rw[hbf]at hn2;refine Qi ?_;simp only[go_sem];refine Q5 ?_;refine Qa ?_;simp only[go_sem,l1,l2,l3,l7,l8];refine Qh (Qc (Qv (fun n e1 H1=>∃(i:Nat),n=y.next.length-i∧i≤y.next.length∧H1=H4∧(y.next.take i).all (Qabk (Qm q.blocks).length)=true∧e1=[(1,.c (.int .i64 k)),(2,.c (.int .i64 b)),(3,.c (.pp [.sl fl 3 (Ql cs)])),(7,.c (.ptr x7 0)),(8,.c (.ptr x8 0)),(10,.c (.int .i64 i))]) y.next.length ?_ ?_))
   ·exact⟨0,by omega,by omega,rfl,rfl,rfl⟩
   ·rintro n e1 H1 ⟨i,hn1,hi,rfl,hall1,rfl⟩;refine Q5 ?_;refine Qa ?_;simp only[go_sem,hx84,Qg];refine fun _=>?_;refine Qh (Qd rfl ?_ ?_)
    ·intro hc;have hlt:i<y.next.length:=(by simpa using hc);have hgd:y.next.getD i 0=y.next[i]:=(by simp[Jb,hlt]);have hng:Qabk (Qm q.blocks).length y.next[i]=decide (1≤y.next.getD i 0∧y.next.getD i 0≤(q.blocks.length:Int)-1):=(by rw[hgd,Qabk,Qj]);refine Qi ?_;simp only[go_sem];refine Qh (Qc ?_);refine Qak ?_;simp only[go_sem,hx84,hx74,hlt,Qg,Q0 _ _ hlt,Qj];refine⟨Qp (by omega) (by omega),?_⟩;refine Qdc ?_;simp only[go_sem,Qaaq];refine Qd rfl ?_ ?_
     ·intro hc2;refine Qa ?_;simp only[go_sem];refine Qk ?_;simp only[go_sem,X.next];exact retf false _ _ _ (by rw[hGd,Qard hlt (by rw[hng];exact Qsp hc2)];simp) kn (by simp[lk])
     ·intro hc2;refine Qi ?_;simp only[go_sem];refine Qq ?_;simp only[go_sem,X.next];exact⟨Qp (by omega) (by omega),y.next.length-(i+1),by omega,i+1,rfl,by omega,by rw[Qad4 hlt,←Qj q.blocks,hall1,hng,Qfg hc2];rfl,rfl⟩
    ·intro hc;have hge:y.next.length≤i:=(by simpa using hc);rw[Jd hge]at hall1;refine Qs ?_;simp only[go_sem,X.next];refine Q5 ?_;refine Qa ?_;simp only[go_sem];refine Qh (Qc (Qv (fun n e1 H1=>∃(i:Nat),n=y.ins.length-i∧i≤y.ins.length∧Kn H H1 [] [(x7,.st [.int .i64 q.params,.int .i64 q.regs,.sl false 5 (Qm q.blocks)]),(x8,.st [.sl false 2 (Qab y.phis),.sl false 4 (Qap y.ins),.int .i64 y.jump,.int .i64 y.on,.sl false 1 (Qe y.next)])]∧(y.ins.take i).all (insG cs k)=true∧
      e1=[(1,.c (.int .i64 k)),(2,.c (.int .i64 b)),(3,.c (.pp [.sl fl 3 (Ql cs)])),(7,.c (.ptr x7 0)),(8,.c (.ptr x8 0)),(11,.c (.int .i64 i))]) y.ins.length ?_ ?_))
     ·exact⟨0,by omega,by omega,kn,rfl,rfl⟩
     ·rintro n e1 H5 ⟨i,hn1,hi,kn,hall2,rfl⟩;have hx75:=kn.l 0 rfl;have hx85:=kn.l 1 rfl;refine Q5 ?_;refine Qa ?_;simp only[go_sem,hx85,Qaa];intro hil;simp only[LIM]at hil;refine Qh (Qd rfl ?_ ?_)
      ·intro hc;have hlt:i<y.ins.length:=(by simpa using hc);refine Qi ?_;simp only[go_sem];refine Qh (Qc ?_);refine Qak ?_;simp only[go_sem,hx85,hx75,hlt,Qaa,Qay _ _ hlt,InsD.take4,InsD.allOw,InsD.len4];refine Qbtb hk (by rw[hq];omega) (by rw[hq];omega) hcl fun H6 hu=>?_;have kn:=kn.call0 hu;simp only[go_sem,Q34];refine Qd rfl ?_ ?_
       ·intro hc2;refine Qa ?_;simp only[go_sem];refine Qk ?_;simp only[go_sem,X.next];exact retf false _ _ _ (by rw[hGd,Qard hlt (Qsp hc2)];simp) kn (by simp[lk])
       ·intro hc2;refine Qi ?_;simp only[go_sem];refine Qq ?_;simp only[go_sem,X.next];exact⟨Qp (by omega) (by omega),y.ins.length-(i+1),by omega,i+1,rfl,by omega,kn,by rw[Qad4 hlt,hall2,Qfg hc2];rfl,rfl⟩
      ·intro hc;have hge:y.ins.length≤i:=(by simpa using hc);rw[Jd hge]at hall2;refine Qs ?_;simp only[go_sem,X.next];refine Qa ?_;simp only[go_sem,hx75];refine Qgl (rows:=Qm q.blocks) (nx:=fun i=>(q.blocks.map BlkD.next).getD i []) (.mk' _ _ _ _) rfl (Qbsa q.blocks) fun H6 hu=>?_;have kn:=kn.call0 hu;simp only[go_sem,Q35];refine Q5 ?_;refine Qa ?_;simp only[go_sem];obtain⟨ps,hps⟩:∃ps,Qac (fun i=>(q.blocks.map BlkD.next).getD i []) (b:Int) (Qm q.blocks).length=ps:=⟨_,rfl⟩;rw[hps];rw[hps]at hnp;have hx76:=kn.l 0 rfl;have hx86:=kn.l 1 rfl;refine Qh (Qc (Qv (fun n e1 H1=>∃(i:Nat),n=y.phis.length-i∧i≤y.phis.length∧H1=H6∧(y.phis.take i).all (phiG q.regs np b)=true∧
        e1=[(2,.c (.int .i64 b)),(7,.c (.ptr x7 0)),(8,.c (.ptr x8 0)),(12,.c (.sl false 1 (Qe ps))),(13,.c (.int .i64 i))]) y.phis.length ?_ ?_))
       ·exact⟨0,by omega,by omega,rfl,rfl,rfl⟩
       ·rintro n e1 H7 ⟨i,hn1,hi,rfl,hall3,rfl⟩;refine Q5 ?_;refine Qa ?_;simp only[go_sem,hx86,Q6];intro hpl;simp only[LIM]at hpl;refine Qh (Qd rfl ?_ ?_)
        ·intro hc;have hlt:i<y.phis.length:=(by simpa using hc);refine Qi ?_;simp only[go_sem];refine Qh (Qc ?_);have fin:∀(b3:Bool) (E1:Env),phiG q.regs np b y.phis[i]=(!b3)→lk 2 E1=.c (.int .i64 b)→lk 7 E1=.c (.ptr x7 0)→lk 8 E1=.c (.ptr x8 0)→lk 12 E1=.c (.sl false 1 (Qe ps))→lk 13 E1=.c (.int .i64 i)→lk 135 E1=.c (.bool b3)→
           Qah prog Qaaj (X.inBlock 6 (X.sq prog Qaak (X.next (fun e2 H2=>∃m,m<n∧∃(i:Nat),m=y.phis.length-i∧i≤y.phis.length∧H2=H7∧(y.phis.take i).all (phiG q.regs np b)=true∧
            e2=[(2,.c (.int .i64 b)),(7,.c (.ptr x7 0)),(8,.c (.ptr x8 0)),(12,.c (.sl false 1 (Qe ps))),(13,.c (.int .i64 i))]) (X.inBlock 5 (X.sq prog Qaal (Q7 Qlx (fun x H'=>∃x',FrzV H' (un H) x x'∧K x' (H'.frz (un H))))))))) E1 H7:=by
          intro b3 E1 hph l2 l7 l8 l12 l13 l135;refine Qd l135 ?_ ?_
          ·intro hc2;refine Qa ?_;simp only[go_sem];refine Qk ?_;simp only[go_sem,X.next];exact retf false _ _ _ (by rw[hGd,Qard hlt (by rw[hph,hc2];rfl)];simp) kn (by simp[lk])
          ·intro hc2;refine Qi ?_;simp only[go_sem];refine Qq ?_;simp only[go_sem,X.next,l2,l7,l8,l12,l13];exact⟨Qp (by omega) (by omega),y.phis.length-(i+1),by omega,i+1,rfl,by omega,by rw[Qad4 hlt,hall3,hph,hc2];rfl,rfl⟩
         refine Qak ?_;simp only[go_sem,hx86,hx76,hlt,Q6,Qa0 _ _ hlt,PhiD.cells,Qg];refine⟨fun hb1=>?_,fun hb1=>?_⟩
         ·refine Qbcv (by omega) (by omega) ?_;simp only[go_sem,Qoj,hx86,hx76,hlt,Q6,Qa0 _ _ hlt,PhiD.cells];refine⟨fun _=>Qp (by omega) (by omega),?_⟩;refine⟨fun hb2=>?_,fun hb2=>?_⟩
          ·refine Qdc ?_;simp only[go_sem,Qht];refine fin _ _ ?_ (by simp[lk]) (by simp[lk]) (by simp[lk]) (by simp[lk]) (by simp[lk]) (by simp[lk];rfl);simp[phiG,←hnp]
          ·replace hb2:=Qfg hb2;simp only[go_sem,Qht,hb2];refine fin true _ ?_ (by simp[lk]) (by simp[lk]) (by simp[lk]) (by simp[lk]) (by simp[lk]) (by simp[lk]);subst hnp;simp at hb2;simp[phiG];intro h1 h2 h3;simp[h1,h2,h3]at hb2
         ·replace hb1:=Qfg hb1;simp only[go_sem,Qoj,Qht,hb1,hx86,hx76,hlt,Q6,Qa0 _ _ hlt,PhiD.cells];refine fin true _ ?_ (by simp[lk]) (by simp[lk]) (by simp[lk]) (by simp[lk]) (by simp[lk]) (by simp[lk]);subst hnp;simp at hb1;simp[phiG];intro h1 h2 h3;simp[h1,h2]at hb1
        ·intro hc;have hge:y.phis.length≤i:=(by simpa using hc);rw[Jd hge]at hall3;refine Qs ?_;simp only[go_sem,X.next];refine Qa ?_;simp only[go_sem];refine Qk ?_;exact retf true _ _ _ (by rw[hGd,hn2,hall1,hall2,hall3];rfl) kn (by simp[lk])
  refine⟨fun hb1=>?_,fun hb1=>?_⟩
  ·refine Qdc ?_;simp only[go_sem,Qkd,hb1,l1,l2,l3,l7,l8];refine rest8 _ _ ?_ (by simp[lk]) (by simp[lk]) (by simp[lk]) (by simp[lk]) (by simp[lk]) (by simp[lk];rfl);by_cases hlw:(y.next.length:Int)=want
   ·by_cases hj:y.jump=1
    ·simp[hlw,hj]at hb1
    ·simp[Qsl,hw,hlw,hj]
   ·simp[hlw]at hb1
  ·by_cases hlw:(y.next.length:Int)=want
   ·by_cases hj:y.jump=1
    ·simp only[go_sem,Qkd,hlw,hj,l1,l2,l3,l7,l8,decide_true,decide_false,cond_true,cond_false];have hw1:Qqj 1=want:=(by rw[←hj];exact hw);refine rest8 _ _ ?_ (by simp[lk]) (by simp[lk]) (by simp[lk]) (by simp[lk]) (by simp[lk]) (by simp[lk];rfl);simp[Qsl,hw1,hlw,hj,hjo hj]
    ·simp[hlw,hj]at hb1
   ·simp only[go_sem,Qkd,hlw,l1,l2,l3,l7,l8,decide_true,decide_false,cond_true,cond_false];by_cases hj:y.jump=1
    ·simp only[go_sem,hj,decide_true,decide_false,cond_true,cond_false];exact rest8 true _ (by simp[Qsl,hw,hlw]) (by simp[lk]) (by simp[lk]) (by simp[lk]) (by simp[lk]) (by simp[lk]) (by simp[lk])
    ·simp only[go_sem,hj,decide_true,decide_false,cond_true,cond_false];exact rest8 true _ (by simp[Qsl,hw,hlw]) (by simp[lk]) (by simp[lk]) (by simp[lk]) (by simp[lk]) (by simp[lk]) (by simp[lk])
 refine Qh (Qc ?_);refine Qa ?_;simp only[go_sem];refine Qd rfl ?_ ?_
 ·intro hc;refine Qa ?_;simp only[go_sem,hx84];refine Qd rfl ?_ ?_
  ·intro hc2;refine Qa ?_;simp only[go_sem];refine Qk ?_;simp only[go_sem];exact retf false _ _ _ (by simp at hc hc2;rw[hGd];simp[Qsl,hc,hc2]) kn (by simp[lk])
  ·intro hc2;refine Qi ?_;simp only[go_sem];exact rest31 1 _ (by simp at hc;simp[Qqj,hc]) (fun _=>by simpa using hc2) (by simp[lk]) (by simp[lk]) (by simp[lk]) (by simp[lk]) (by simp[lk]) (by simp[lk])
 intro hc1;refine Qa ?_;simp only[go_sem];refine Qd rfl ?_ ?_
 ·intro hc;refine Qq ?_;simp only[go_sem];exact rest31 2 _ (by simp at hc;simp[Qqj,hc]) (fun h=>by simp at hc1;exact absurd h hc1) (by simp[lk]) (by simp[lk]) (by simp[lk]) (by simp[lk]) (by simp[lk]) (by simp[lk])
 intro hc2;refine Qa ?_;simp only[go_sem];refine Qd rfl ?_ ?_
 ·intro hc;refine Qq ?_;simp only[go_sem];exact rest31 0 _ (by simp at hc;simp[Qqj,hc]) (fun h=>by simp at hc1;exact absurd h hc1) (by simp[lk]) (by simp[lk]) (by simp[lk]) (by simp[lk]) (by simp[lk]) (by simp[lk])
 ·intro hc;refine Qa ?_;simp only[go_sem];refine Qk ?_;simp only[go_sem];exact retf false _ _ _ (by simp at hc1 hc2 hc;rw[hGd];simp[Qsl,Qqj,hc1,hc2,hc]) kn (by simp[lk])
set_option maxHeartbeats 3000000 in
theorem Q1n {b:BlkD}(hb:b.sg)(hK:∀(o:OBlk) (H':Heap),Kn H H' [] o.lg→o.ok→o.d=b→(∀p∈o.phis,p.own)→K (.ag o.row) H'):Qu prog Qgd [.ag b.cells] H K:=by
 have hbn:=hb.n;have hbi:=hb.i;have hbp:=hb.p;refine Qdj ?_;refine Qb Qam Qar8 ?_;refine Qa ?_;simp only[go_sem,BlkD.cells];intro x2 hx2 H1 h1;have kn:=(Kn.start0 H).al hx2 h1;refine Qak ?_;simp only[go_sem,Qg,Jq,Jg];refine⟨.inl trivial,Qw _,by simp only[LIM];omega,fun y hy H2 h2=>?_⟩;have kn:=kn.al hy h2;simp only[go_sem,Qpo];intro x3 hx3 H3 h3;have kn:=kn.al hx3 h3;have hx33:=kn.l 2 rfl;simp only[go_sem,Qpn,hx33];intro H4 h4;have kn:=kn.stL 2 rfl h4;obtain⟨nx,hnx⟩:∃nx:OInts,nx=⟨b.next,y⟩:=⟨_,rfl⟩;have hnc:C.vsl y 1 0 b.next.length=nx.c:=by rw[hnx];rfl
 have hnl:[(y,Obj.vec 1 (Qe b.next))]=nx.lg:=by rw[hnx];rfl
 rw[hnc]at kn;have kn:Kn H H4 [] ([(x2,.st [.sl true 2 [],.sl true 4 [],.int .i64 0,.int .i64 0,.sl true 1 []]),(x3,.st [.sl true 2 [],.sl true 4 [],.int .i64 b.jump,.int .i64 b.on,nx.c])]++nx.lg):=kn.perm (by
  rw[←hnl];exact .cons _ (.swap _ _ _))
 refine Q5 ?_;refine Qa ?_;simp only[go_sem];refine Qh (Qc (Qv (fun n e1 H1=>∃(i:Nat) (ps:List OPhi) (pc:C) (pl:List (Nat×Obj)),n=b.phis.length-i∧i≤b.phis.length∧ps.map OPhi.d=b.phis.take i∧(∀p∈ps,p.own)∧Gr pl 2 (ps.map OPhi.row) pc∧
  Kn H H1 [] (([(x2,.st [.sl true 2 [],.sl true 4 [],.int .i64 0,.int .i64 0,.sl true 1 []]),(x3,.st [pc,.sl true 4 [],.int .i64 b.jump,.int .i64 b.on,nx.c])]++(nx.lg++ps.flatMap OPhi.lg))++pl)∧
  e1=[(1,.c (.pp [.sl false 2 (Qab b.phis),.sl false 4 (Qap b.ins),.int .i64 b.jump,.int .i64 b.on,.sl false 1 (Qe b.next)])),(2,.c (.ptr x2 0)),(3,.c (.ptr x3 0)),(4,.c (.int .i64 i))]) b.phis.length ?_ ?_))
 ·exact⟨0,[],_,[],by omega,by omega,rfl,by simp,.nil 2,by simpa using kn,rfl⟩
 ·rintro n e1 H1 ⟨i,ps,pc,pl,hn1,hi,hpsd,hpsok,hgr,kn,rfl⟩;have hpsl:ps.length=i:=by have:=congrArg List.length hpsd;rw[Je,J3]at this;omega
  have hpcow:=hgr.isOw;refine Q5 ?_;refine Qa ?_;simp only[go_sem,Q6];intro hl;refine Qh (Qd rfl ?_ ?_)
  ·intro hc;have hlt:i<b.phis.length:=by simpa using hc
   have hpa:=hb.pa _ (Jc hlt);have hx31:=kn.l 1 rfl;refine Qi ?_;simp only[go_sem];refine Qh (Qc (Qbh ?_));simp only[go_sem,hx31,hpcow,hlt,Q6,Qa0 _ _ hlt,PhiD.cells,Qg,Jq,Jg];refine⟨.inl trivial,Qw _,by simp only[LIM];omega,fun a ha H5 h5=>?_⟩;have kn:=kn.al ha h5;have hx35:=kn.l 1 rfl;simp only[go_sem,Qpq,hx35,hpcow,hlt,Q6,Qa0 _ _ hlt,PhiD.cells];obtain⟨o,ho⟩:∃o:OPhi,o=⟨b.phis[i].to,b.phis[i].args,.vsl a 1 0 b.phis[i].args.length,[(a,.vec 1 (Qe b.phis[i].args))]⟩:=⟨_,rfl⟩;have hoow:o.own:=by rw[ho];exact⟨a,rfl,rfl⟩
   have hook:o.ok:=.inl hoow;have hor:[C.int IntKind.i64 b.phis[i].to,C.vsl a 1 0 b.phis[i].args.length]=o.row:=by rw[ho];rfl
   have hol:[(a,Obj.vec 1 (Qe b.phis[i].args))]=o.lg:=by rw[ho]
   rw[hor];rw[hol]at kn;have kn:=kn.perm Qaqk;refine kn.grow (new:=[o.row]) hgr (.mk' _ _ _ _) (by intro r hr;simp only[Ja]at hr;subst hr;exact o.noOw hook) (by simp only[Je,Jl,Jn,LIM];omega) fun z H6 kn=>?_;have kn:Kn H H6 [] (([(x2,.st [.sl true 2 [],.sl true 4 [],.int .i64 0,.int .i64 0,.sl true 1 []]),(x3,.st [pc,.sl true 4 [],.int .i64 b.jump,.int .i64 b.on,nx.c])]++(nx.lg++(ps++[o]).flatMap OPhi.lg))++[(z,.vec 2 ((ps++[o]).map OPhi.row))]):=by
    simpa[Js,Jj]using kn
   have hx36:=kn.l 1 rfl;simp only[go_sem,Qpp,hx36];intro H7 h7;have kn:=kn.stL 1 rfl h7;refine Qq ?_;simp only[go_sem,X.next];simp only[LIM]at hl;refine⟨Qp (by omega) (by omega),b.phis.length-(i+1),by omega,i+1,ps++[o],_,_,rfl,by omega,by rw[Jv,hpsd,Jk hlt,ho];rfl,fun p hp=>?_,?_,kn,rfl⟩
   ·rcases Jm.1 hp with h|h
    ·exact hpsok p h
    ·simp only[Ja]at h;subst h;exact hoow
   ·exact .mk _ _ _ (by simp)
  ·intro hc;have hpsd':ps.map OPhi.d=b.phis:=by rw[hpsd,Jd (by simpa using hc)]
   refine Qs ?_;simp only[go_sem,X.next];refine Q5 ?_;refine Qa ?_;simp only[go_sem];refine Qh (Qc (Qv (fun n e1 H1=>∃(i:Nat) (is:List OIns) (ic:C) (il:List (Nat×Obj)),n=b.ins.length-i∧i≤b.ins.length∧is.map OIns.d=b.ins.take i∧(∀x∈is,x.a.ns.length≤1000000)∧Gr il 4 (is.map OIns.row) ic∧
    Kn H H1 [] (([(x2,.st [.sl true 2 [],.sl true 4 [],.int .i64 0,.int .i64 0,.sl true 1 []]),(x3,.st [pc,ic,.int .i64 b.jump,.int .i64 b.on,nx.c])]++(nx.lg++(ps.flatMap OPhi.lg++(pl++is.flatMap OIns.lg))))++il)∧
    e1=[(1,.c (.pp [.sl false 2 (Qab b.phis),.sl false 4 (Qap b.ins),.int .i64 b.jump,.int .i64 b.on,.sl false 1 (Qe b.next)])),(2,.c (.ptr x2 0)),(3,.c (.ptr x3 0)),(5,.c (.int .i64 i))]) b.ins.length ?_ ?_))
   ·exact⟨0,[],_,[],by omega,by omega,rfl,by simp,.nil 4,by simpa[Jj]using kn,rfl⟩
   ·rintro n e1 H1 ⟨i,is,ic,il,hn1,hi,hisd,hisa,hgi,kn,rfl⟩;have hisl:is.length=i:=(by have:=congrArg List.length hisd;rw[Je,J3]at this;omega);have hicow:=hgi.isOw;refine Q5 ?_;refine Qa ?_;simp only[go_sem,Qaa];intro hl;refine Qh (Qd rfl ?_ ?_)
    ·intro hc;have hlt:i<b.ins.length:=(by simpa using hc);have hia:=hb.ia _ (Jc hlt);refine Qi ?_;simp only[go_sem];refine Qh (Qc ?_);refine Qa ?_;simp only[go_sem,hlt,Qaa,Qay _ _ hlt,InsD.cells];intro x6 hx6 H5 h5;have kn:=kn.al hx6 h5;have kn:=kn.perm (Ji (l₁:=_) (l₂:=[(x6,_)]));have hx65:=kn.l 0 rfl;simp only[go_sem,Qpr,hx65];intro H6 h6;have kn:=kn.stL 0 rfl h6;have hx66:=kn.l 0 rfl;have hx36:=kn.l 2 rfl;refine Qbh ?_;simp only[go_sem,hx66,hx36,hicow,Qg,Jq,Jg];refine⟨.inl trivial,Qw _,by simp only[LIM];omega,fun a ha H7 h7=>?_⟩;have kn:=kn.al ha h7;have hx67:=kn.l 0 rfl;have hx37:=kn.l 2 rfl;simp only[go_sem,Qpt,hx67,hx37,hicow];obtain⟨o,ho⟩:∃o:OIns,o=⟨b.ins[i].op,b.ins[i].to,⟨b.ins[i].args,a⟩,b.ins[i].n⟩:=⟨_,rfl⟩;have hor:[C.int IntKind.i64 b.ins[i].op,C.int IntKind.i64 b.ins[i].to,C.vsl a 1 0 b.ins[i].args.length,C.int IntKind.i64 b.ins[i].n]=o.row:=(by rw[ho];rfl);have hol:[(a,Obj.vec 1 (Qe b.ins[i].args))]=o.lg:=(by rw[ho];rfl);rw[hor];rw[hol]at kn;have kn:Kn H H7 [] ((([(x2,.st [.sl true 2 [],.sl true 4 [],.int .i64 0,.int .i64 0,.sl true 1 []]),(x3,.st [pc,ic,.int .i64 b.jump,.int .i64 b.on,nx.c])]++(nx.lg++(ps.flatMap OPhi.lg++(pl++is.flatMap OIns.lg))))++il)++o.lg):=by
      have kn:=kn.perm (Ji (l₁:=[(x6,_)]) (l₂:=_));exact kn.drop
     have kn:=kn.perm Qaqk;refine kn.grow (new:=[o.row]) hgi (.mk' _ _ _ _) (by simp[o.noOw]) (by simp only[Je,Jl,Jn,LIM];omega) fun z H8 kn=>?_;have kn:Kn H H8 [] (([(x2,.st [.sl true 2 [],.sl true 4 [],.int .i64 0,.int .i64 0,.sl true 1 []]),(x3,.st [pc,ic,.int .i64 b.jump,.int .i64 b.on,nx.c])]++(nx.lg++(ps.flatMap OPhi.lg++(pl++(is++[o]).flatMap OIns.lg))))++[(z,.vec 4 ((is++[o]).map OIns.row))]):=by
      simpa[Js,Jj]using kn
     have hx38:=kn.l 1 rfl;simp only[go_sem,Qps,hx38];intro H9 h9;have kn:=kn.stL 1 rfl h9;refine Qq ?_;simp only[go_sem,X.next];simp only[LIM]at hl;refine⟨Qp (by omega) (by omega),b.ins.length-(i+1),by omega,i+1,is++[o],_,_,rfl,by omega,by rw[Jv,hisd,Jk hlt,ho];rfl,fun x hx=>?_,?_,kn,rfl⟩
     ·rcases Jm.1 hx with hx|hx
      ·exact hisa x hx
      ·simp only[Ja]at hx;rw[hx,ho];exact hia
     ·exact .mk _ _ _ (by simp)
    ·intro hc;have hisd':is.map OIns.d=b.ins:=(by rw[hisd,Jd (by simpa using hc)]);have hx21:=kn.l 0 rfl;have hx31:=kn.l 1 rfl;refine Qs ?_;simp only[go_sem,X.next];have hnow:nx.c.isOw=false:=rfl;refine Qa ?_;simp only[go_sem,hx21,hx31,hpcow,hicow,hnow];intro H5 h5;have kn:=kn.stL 0 rfl h5;have hx25:=kn.l 0 rfl;refine Qk ?_;simp only[go_sem,Q7,Qad,Q15,reduceIte,Ja,forall_eq,RS.op,hx25,hpcow,hicow,hnow];obtain⟨o,ho⟩:∃o:OBlk,o=⟨ps,pc,pl,is,ic,il,b.jump,b.on,nx⟩:=⟨_,rfl⟩;have hok:o.ok:=(by rw[ho];exact⟨hgr,hgi,fun p hp=>.inl (hpsok p hp)⟩);have hod:o.d=b:=by
      rw[ho];show BlkD.mk (ps.map OPhi.d) (is.map OIns.d) b.jump b.on nx.ns=b;rw[hpsd',hisd',hnx]
     have kn:Kn H H5 [] ([(x2,.st [pc,ic,.int .i64 b.jump,.int .i64 b.on,nx.c]),(x3,.st [pc,ic,.int .i64 b.jump,.int .i64 b.on,nx.c])]++o.lg):=by
      rw[ho];simpa[OBlk.lg,Jj]using kn
     refine⟨unx H o.lg,.ag o.row,H5.frz (unx H o.lg),?_,Qe0 _ _,hK o _ kn.finK hok hod (by rw[ho];exact hpsok)⟩;rw[ho];exact FrzL.ag (.cons (.same _ hpcow) (.cons (.same _ hicow) (.cons (Qf rfl) (.cons (Qf rfl) (.cons (.same _ hnow) .nil)))))
theorem BlkD.take5 (x:BlkD):x.cells.take 5=x.cells:=rfl
theorem BlkD.allOw (x:BlkD):(x.cells.all fun c=>!c.isOw)=true:=rfl
theorem BlkD.len5 (x:BlkD):x.cells.length=5:=rfl
theorem CodeD.take3 (x:CodeD):x.cells.take 3=x.cells:=rfl
theorem CodeD.allOw (x:CodeD):(x.cells.all fun c=>!c.isOw)=true:=rfl
theorem CodeD.len3 (x:CodeD):x.cells.length=3:=rfl
theorem OBlk.len5 (x:OBlk):x.row.length=5:=rfl
theorem OCode.len3 (x:OCode):x.row.length=3:=rfl
set_option maxHeartbeats 2000000 in
theorem Qad7 {q:CodeD}(hq:q.sg)(hK:∀(o:OCode) (H':Heap),Kn H H' [] o.lg→o.ok→o.d=q→(∀b∈o.blocks,∀p∈b.phis,p.own)→K (.ag o.row) H'):Qu prog Qih [.ag q.cells] H K:=by
 have hqb:=hq.b;refine Qdj ?_;refine Qb Qam Qbpj ?_;refine Qa ?_;simp only[go_sem,CodeD.cells];intro x2 hx2 H1 h1;have kn:=(Kn.start0 H).al hx2 h1;refine Qa ?_;simp only[go_sem];intro x3 hx3 H2 h2;have kn:=kn.al hx3 h2;have hx32:=kn.l 1 rfl;simp only[go_sem,Qajm,hx32];intro H3 h3;have kn:=kn.stL 1 rfl h3;refine Q5 ?_;refine Qa ?_;simp only[go_sem];refine Qh (Qc (Qv (fun n e1 H1=>∃(i:Nat) (os:List OBlk) (bc:C) (bl:List (Nat×Obj)),n=q.blocks.length-i∧i≤q.blocks.length∧os.map OBlk.d=q.blocks.take i∧(∀o∈os,o.ok∧∀p∈o.phis,p.own)∧Gr bl 5 (os.map OBlk.row) bc∧
  Kn H H1 [] (([(x2,.st [.int .i64 0,.int .i64 0,.sl true 5 []]),(x3,.st [.int .i64 q.params,.int .i64 q.regs,bc])]++os.flatMap OBlk.lg)++bl)∧
  e1=[(1,.c (.pp [.int .i64 q.params,.int .i64 q.regs,.sl false 5 (Qm q.blocks)])),(2,.c (.ptr x2 0)),(3,.c (.ptr x3 0)),(4,.c (.int .i64 i))]) q.blocks.length ?_ ?_))
 ·exact⟨0,[],_,[],by omega,by omega,rfl,by simp,.nil 5,by simpa using kn,rfl⟩
 ·rintro n e1 H1 ⟨i,os,bc,bl,hn1,hi,hod,hok,hgr,kn,rfl⟩;have hol:os.length=i:=by have:=congrArg List.length hod;rw[Je,J3]at this;omega
  have hbow:=hgr.isOw;have hx31:=kn.l 1 rfl;refine Q5 ?_;refine Qa ?_;simp only[go_sem,Qj];intro hl;simp only[LIM]at hl;refine Qh (Qd rfl ?_ ?_)
  ·intro hc;have hlt:i<q.blocks.length:=by simpa using hc
   refine Qi ?_;simp only[go_sem];refine Qh (Qc (Qbh ?_));simp only[go_sem,hx31,hbow,hlt,Qj,Q9 _ _ hlt,BlkD.take5,BlkD.allOw,BlkD.len5];refine Q1n (hq.bs _ (Jc hlt)) fun o H4 k2 hoo hbd hoow=>?_;have kn:=kn.comp0 k2;have hx34:=kn.l 1 rfl;simp only[go_sem,Qajo,hx34,hbow,o.len5];have kn:=kn.perm Qaqk;refine kn.grow (new:=[o.row]) hgr (.mk' _ _ _ _) (by intro r hr;simp only[Ja]at hr;subst hr;exact o.noOw hoo) (by simp only[Je,Jl,Jn,LIM];omega) fun z H5 kn=>?_;have kn:Kn H H5 [] (([(x2,.st [.int .i64 0,.int .i64 0,.sl true 5 []]),(x3,.st [.int .i64 q.params,.int .i64 q.regs,bc])]++(os++[o]).flatMap OBlk.lg)++[(z,.vec 5 ((os++[o]).map OBlk.row))]):=by
    simpa[Js,Jj]using kn
   have hx35:=kn.l 1 rfl;simp only[go_sem,Qajn,hx35];intro H6 h6;have kn:=kn.stL 1 rfl h6;refine Qq ?_;simp only[go_sem,X.next];refine⟨Qp (by omega) (by omega),q.blocks.length-(i+1),by omega,i+1,os++[o],_,_,rfl,by omega,by rw[Jv,hod,Jk hlt,Jaj,Jal,hbd],fun o' ho'=>?_,.mk _ _ _ (by simp),kn,rfl⟩;rcases Jm.1 ho' with h|h
   ·exact hok o' h
   ·simp at h;subst h;exact⟨hoo,hoow⟩
  ·intro hc;have hge:q.blocks.length≤i:=by simpa using hc
   have hx21:=kn.l 0 rfl;refine Qs ?_;simp only[go_sem,X.next];refine Qa ?_;simp only[go_sem,hx31,hx21,hbow];intro H4 h4;have kn:=kn.stL 0 rfl h4;have hx24:=kn.l 0 rfl;refine Qk ?_;simp only[go_sem,Q7,Qad,Qbc9,reduceIte,Ja,forall_eq,RS.op,hx24,hbow];obtain⟨o,ho⟩:∃o:OCode,o=⟨q.params,q.regs,os,bc,bl⟩:=⟨_,rfl⟩;have hod:o.d=q:=by
    rw[ho];show CodeD.mk q.params q.regs (os.map OBlk.d)=q;rw[hod,Jd hge]
   have how':∀b∈o.blocks,∀p∈b.phis,p.own:=by rw[ho];exact fun b hb=>(hok b hb).2
   have hok:o.ok:=by rw[ho];exact⟨hgr,fun b hb=>(hok b hb).1⟩
   have kn:Kn H H4 [] ([(x2,.st [.int .i64 q.params,.int .i64 q.regs,bc]),(x3,.st [.int .i64 q.params,.int .i64 q.regs,bc])]++o.lg):=by
    rw[ho];simpa[OCode.lg,Jj]using kn
   refine⟨unx H o.lg,.ag o.row,H4.frz (unx H o.lg),?_,Qe0 _ _,hK o _ kn.finK hok hod how'⟩;rw[ho];exact FrzL.ag (.cons (Qf rfl) (.cons (Qf rfl) (.cons (.same _ hbow) .nil)))
theorem Qbo0 {q:CodeD}(hq:q.sm)(hK:∀(o:OCode) (H':Heap),Kn H H' [] o.lg→o.ok→o.d=q→o.sm 1000→K (.ag o.row) H'):Qu prog Qih [.ag q.cells] H K:=
 Qad7 hq.sg fun o H' k1 k2 k3 _=>hK o H' k1 k2 k3 (by rw[←k3]at hq;exact hq.o)
set_option maxHeartbeats 2000000 in
theorem Qawl {cs:List CodeD}{fl:Bool}(hs:∀c∈cs,c.sm)(hl:cs.length≤1000000)
  (hK:∀(us:List OCode) (cc:C) (cl:List (Nat×Obj)) (H':Heap),Kn H H' [] (us.flatMap OCode.lg++cl)→Gr cl 3 (us.map OCode.row) cc→(∀u∈us,u.ok∧u.sm 1000)→us.length=cs.length→K (.ag [cc]) H') :
  Qu prog Qn0 [.ag [.sl fl 3 (Ql cs)]] H K:=by
 refine Qdj ?_;refine Qb Qam Qawy ?_;refine Qa ?_;simp only[go_sem];intro x2 hx2 H1 h1;have kn:=(Kn.start0 H).al hx2 h1;refine Qa ?_;simp only[go_sem];intro x3 hx3 H2 h2;have kn:=kn.al hx3 h2;have hx32:=kn.l 1 rfl;simp only[go_sem,Qul,hx32];intro H3 h3;have kn:=kn.stL 1 rfl h3;refine Q5 ?_;refine Qa ?_;simp only[go_sem];refine Qh (Qc (Qv (fun n e1 H1=>∃(i:Nat) (os:List OCode) (bc:C) (bl:List (Nat×Obj)),n=cs.length-i∧i≤cs.length∧os.length=i∧(∀o∈os,o.ok∧o.sm 1000)∧Gr bl 3 (os.map OCode.row) bc∧
  Kn H H1 [] (([(x2,.st [.sl true 3 []]),(x3,.st [bc])]++os.flatMap OCode.lg)++bl)∧
  e1=[(1,.c (.pp [.sl fl 3 (Ql cs)])),(2,.c (.ptr x2 0)),(3,.c (.ptr x3 0)),(4,.c (.int .i64 i))]) cs.length ?_ ?_))
 ·exact⟨0,[],_,[],by omega,by omega,rfl,by simp,.nil 3,by simpa using kn,rfl⟩
 ·rintro n e1 H1 ⟨i,os,bc,bl,hn1,hi,hol,hok,hgr,kn,rfl⟩;have hbow:=hgr.isOw;have hx31:=kn.l 1 rfl;refine Q5 ?_;refine Qa ?_;simp only[go_sem,Qx];intro _;refine Qh (Qd rfl ?_ ?_)
  ·intro hc;have hlt:i<cs.length:=by simpa using hc
   refine Qi ?_;simp only[go_sem];refine Qh (Qc (Qbh ?_));simp only[go_sem,hx31,hbow,hlt,Qx,Qaf _ _ hlt,CodeD.take3,CodeD.allOw,CodeD.len3];refine Qbo0 (hs _ (Jc hlt)) fun o H4 k2 hoo _ hob=>?_;have kn:=kn.comp0 k2;have hx34:=kn.l 1 rfl;simp only[go_sem,Qun,hx34,hbow,o.len3];have kn:=kn.perm Qaqk;refine kn.grow (new:=[o.row]) hgr (.mk' _ _ _ _) (by intro r hr;simp only[Ja]at hr;subst hr;exact o.noOw hoo) (by simp only[Je,Jl,Jn,LIM];omega) fun z H5 kn=>?_;have kn:Kn H H5 [] (([(x2,.st [.sl true 3 []]),(x3,.st [bc])]++(os++[o]).flatMap OCode.lg)++[(z,.vec 3 ((os++[o]).map OCode.row))]):=by
    simpa[Js,Jj]using kn
   have hx35:=kn.l 1 rfl;simp only[go_sem,Qum,hx35];intro H6 h6;have kn:=kn.stL 1 rfl h6;refine Qq ?_;simp only[go_sem,X.next];refine⟨Qp (by omega) (by omega),cs.length-(i+1),by omega,i+1,os++[o],_,_,rfl,by omega,by simp[hol],fun o' ho'=>?_,.mk _ _ _ (by simp),kn,rfl⟩;rcases Jm.1 ho' with h|h
   ·exact hok o' h
   ·simp at h;subst h;exact⟨hoo,hob⟩
  ·intro hc;have hge:cs.length≤i:=by simpa using hc
   have hx21:=kn.l 0 rfl;refine Qs ?_;simp only[go_sem,X.next];refine Qa ?_;simp only[go_sem,hx31,hx21,hbow];intro H4 h4;have kn:=kn.stL 0 rfl h4;have hx24:=kn.l 0 rfl;refine Qk ?_;simp only[go_sem,Q7,Qad,Q78,reduceIte,Ja,forall_eq,RS.op,hx24,hbow];have kn:Kn H H4 [] ([(x2,.st [bc]),(x3,.st [bc])]++(os.flatMap OCode.lg++bl)):=by
    simpa[Jj]using kn
   exact⟨unx H _,.ag [bc],H4.frz (unx H _),FrzL.ag (.cons (.same _ hbow) .nil),Qe0 _ _,hK os bc bl _ kn.finK hgr hok (by omega)⟩
structure CRd (H:Heap)(R:Rdr)(cc:C)(rows:List (List C)):Prop where
 s:Slc H 3 rows cc
 ow:cc.isOw=false
 ne:∀l a c d,cc=.vsl l a c d→l≠R.l
 r:∀i,i<rows.length→∃(p:Int) (c1 c2:C),rows.getD i []=[.int .i64 p,c1,c2]∧0≤p∧p≤3
theorem CRd.keep {R:Rdr}{cc:C}{rows:List (List C)}{o:Obj}{H':Heap}{L:List (Nat×Obj)}(h:CRd H R cc rows)(kn:Kn H H' [(R.l,o)] L):CRd H' R cc rows:=
 ⟨h.s.keep kn (fun l a c d hh=>by simpa using h.ne l a c d hh),h.ow,h.ne,h.r⟩
theorem Qbjl {R:Rdr}{k b n:Nat}(hH:H R.l=R.o k)(hk:k+2≤2^40)(hb:b≤1000)(hn:n≤1000)
  (hK:∀(v:Int) (H':Heap) (k':Nat),k<k'→k'≤k+2→Upd H H' [(R.l,R.o k')]→K (.c (.int .i64 v)) H') :
  Qu prog Qae8 [.c (.ptr R.l 0),.c (.int .i64 b),.c (.int .i64 n)] H K:=by
 refine Qt ?_;refine Qb Qam Qbvg ?_;have kn:=Kn.start1 hH (R.o_ne k);refine Qa ?_;simp only[go_sem];refine Q5 ?_;refine Qa ?_;simp only[go_sem];refine⟨Qp (by omega) (by omega),?_⟩;have rest:∀(v:Bool) (H2:Heap) (k2:Nat),k≤k2→k2≤k+1→Kn H H2 [(R.l,R.o k2)] []→
   Qah prog (s_l7To_2.seq Qbdh) (Q7 Qbda fun x H'=>∃x',FrzV H' (un H) x x'∧K x' (H'.frz (un H))) [(0,.c (.ptr R.l 0)),(1,.c (.int .i64 b)),(2,.c (.int .i64 n)),(15,.c (.bool v))] H2:=by
  intro v H2 k2 hk1 hk2 kn;have pv:∀m v:Int,m≤1000→(if m<1 then v=0 else 0≤v∧v<m)→0≤v∧v≤1000:=by
   intro m v hm hv;split at hv <;> omega
  refine Qh (Qd rfl ?_ ?_)
  ·intro hc;refine Qa ?_;simp only[go_sem];refine⟨Qp (by omega) (by omega),Qp (by omega) (by omega),Qp (by omega) (by omega),?_⟩;refine Qbd (kn.e 0 rfl) (by omega) fun v H3 hv hu=>?_;have kn:=kn.callE 0 rfl hu (R.o_ne _);have hv:=pv _ _ (by omega) hv;simp only[go_sem,Qa3b];refine⟨Qp (by omega) (by omega),?_⟩;refine Qk ?_;simp only[go_sem,Q7,Qad,Qbda,reduceIte,Ja,forall_eq,RS.op];exact⟨_,.c _ _ (Qf rfl),hK _ _ (k2+1) (by omega) (by omega) kn.fin⟩
  ·intro hc;refine Qi ?_;simp only[go_sem];refine Qa ?_;simp only[go_sem];refine⟨Qp (by omega) (by omega),?_⟩;refine Qbd (kn.e 0 rfl) (by omega) fun v H3 hv hu=>?_;have kn:=kn.callE 0 rfl hu (R.o_ne _);have hv:=pv _ _ (by omega) hv;simp only[go_sem,Qa3c];refine⟨Qp (by omega) (by omega),?_⟩;refine Qk ?_;simp only[go_sem,Q7,Qad,Qbda,reduceIte,Ja,forall_eq,RS.op];exact⟨_,.c _ _ (Qf rfl),hK _ _ (k2+1) (by omega) (by omega) kn.fin⟩
 refine⟨fun hb1=>?_,fun hb1=>?_⟩
 ·refine Qbd (kn.e 0 rfl) (by omega) fun v H3 hv hu=>?_;have kn:=kn.callE 0 rfl hu (R.o_ne _);simp only[go_sem,Qaj6,hb1];exact rest _ _ (k+1) (by omega) (by omega) kn
 ·simp only[go_sem,Qaj6,hb1];exact rest _ _ k (by omega) (by omega) kn
set_option maxHeartbeats 2000000 in
theorem Qbo1 {R:Rdr}{k:Nat}{cc:C}{rows:List (List C)}{regs:Int}(hH:H R.l=R.o k)(hk:k+9≤2^40)(hc:CRd H R cc rows)
  (hK:∀(x:InsD) (H':Heap) (k':Nat),k<k'→k'≤k+9→Upd H H' [(R.l,R.o k')]→x.args.length≤3→K (.ag x.cells) H') :
  Qu prog Qae7 [.c (.ptr R.l 0),.ag [cc],.c (.int .i64 regs)] H K:=by
 refine Qt ?_;refine Qb Qam Qbpl ?_;have how:=hc.ow;have hlen:=hc.s.len;have hesz:=hc.s.sz;refine Qa ?_;simp only[go_sem,how];intro x6 hx6 H1 h1;have kn:=(Kn.start1 hH (R.o_ne k)).al hx6 h1;refine Qa ?_;simp only[go_sem];refine Qls (ns:=[1,1,2,3,4,5,8,9,10,13,3,6,7,11,12,14]) (kn.e 0 rfl) (by omega) (by simp) fun op H2 hop hu=>?_;have kn:=kn.callE 0 rfl hu (R.o_ne _);simp only[go_sem,Qaj1];refine Qa ?_;simp only[go_sem];refine Qbd (kn.e 0 rfl) (by omega) fun to H3 hto hu=>?_;have kn:=kn.callE 0 rfl hu (R.o_ne _);simp only[go_sem,Qaj2,Q0q];intro x8 hx8 H4 h4;have kn:=kn.al hx8 h4;have hx84:=kn.l 1 rfl;simp only[go_sem,Q0q,hx84];intro H5 h5;have kn:=kn.stL 1 rfl h5;refine Qa ?_;simp only[go_sem];refine Qbjj fun many hm1 hm2=>?_;simp only[go_sem,Qaj3];have args:∀(many:Int) (to n:Int) (H6:Heap) (k6:Nat),many≤3→k<k6→k6≤k+4→Kn H H6 [(R.l,R.o k6)] [(x6,.st [.int .i64 0,.int .i64 0,.sl true 1 [],.int .i64 0]),(x8,.st [.int .i64 op,.int .i64 to,.sl true 1 [],.int .i64 n])]→
   Qah prog Qajy (Q7 Qwd fun x H'=>∃x',FrzV H' (un H) x x'∧K x' (H'.frz (un H))) [(0,.c (.ptr R.l 0)),(2,.c (.int .i64 regs)),(6,.c (.ptr x6 0)),(8,.c (.ptr x8 0)),(9,.c (.int .i64 many))] H6:=by
  intro many to n H6 k6 hmany hk1 hk2 kn;refine Q5 ?_;refine Qa ?_;simp only[go_sem];refine Qh (Qc (Qv (fun m e1 H1=>∃(i:Nat) (ns:List Int) (ac:C) (al:List (Nat×Obj)),m=3-i∧i≤3∧ns.length=i∧Gr al 1 (Qe ns) ac∧
   Kn H H1 [(R.l,R.o (k6+i))] ([(x6,.st [.int .i64 0,.int .i64 0,.sl true 1 [],.int .i64 0]),(x8,.st [.int .i64 op,.int .i64 to,ac,.int .i64 n])]++al)∧
   e1=[(0,.c (.ptr R.l 0)),(2,.c (.int .i64 regs)),(6,.c (.ptr x6 0)),(8,.c (.ptr x8 0)),(9,.c (.int .i64 many)),(10,.c (.int .i64 i))]) 3 ?_ ?_))
  ·exact⟨0,[],_,[],by omega,by omega,rfl,.nil 1,by simpa using kn,rfl⟩
  ·rintro m e1 H7 ⟨i,ns,ac,al,hm,hi,hns,hgr,kn,rfl⟩;have hacow:=hgr.isOw;have hx8:=kn.l 1 rfl;refine Q5 ?_;refine Qa ?_;simp only[go_sem];refine Qh (Qd rfl ?_ ?_)
   ·intro hc;have hlt:(i:Int)<many:=(by simpa using hc);refine Qi ?_;simp only[go_sem];refine Qh (Qc ?_);refine Qbh ?_;simp only[go_sem,hx8,hacow];refine Qbd (kn.e 0 rfl) (by omega) fun v H8 hv hu=>?_;have kn:=kn.callE 0 rfl hu (R.o_ne _);have hx8:=kn.l 1 rfl;simp only[go_sem,Qaa4,hx8,hacow];refine kn.grow (new:=Qe [v]) hgr (.mk' _ _ _ _) (Qw _) (by simp only[Qg,LIM,Jl,Jn];omega) fun y H9 kn=>?_;have hx8:=kn.l 1 rfl;simp only[go_sem,Qaa3,hx8];intro H10 h10;have kn:=kn.stL 1 rfl h10;refine Qq ?_;simp only[go_sem,X.next];refine⟨Qp (by omega) (by omega),3-(i+1),by omega,i+1,ns++[v],_,_,rfl,by omega,by simp[hns],?_,kn,rfl⟩;rw[←Qcn];exact .mk _ _ _ (by simp[Qcn,Qg])
   ·intro hc;refine Qs ?_;simp only[go_sem,X.next];have hx6:=kn.l 0 rfl;refine Qa ?_;simp only[go_sem,hx8,hx6,hacow];intro H8 h8;have kn:Kn H H8 [(R.l,R.o (k6+i))] ([(x6,.st [.int .i64 op,.int .i64 to,ac,.int .i64 n]),(x8,.st [.int .i64 op,.int .i64 to,ac,.int .i64 n])]++al):=kn.stL 0 rfl h8;have hx6:=kn.l 0 rfl;refine Qk ?_;simp only[go_sem,Q7,Qad,Qwd,reduceIte,Ja,forall_eq,RS.op,hx6,hacow];exact⟨.ag (InsD.mk op to ns n).cells,FrzL.ag (.cons (Qf rfl) (.cons (Qf rfl) (.cons (hgr.frz kn (Qw _)) (.cons (Qf rfl) .nil)))),hK ⟨op,to,ns,n⟩ _ (k6+i) (by omega) (by omega) kn.fin (by show ns.length≤3;omega)⟩
 have rest:∀(many n:Int) (H6:Heap) (k6:Nat) (E1:Env),lk 0 E1=.c (.ptr R.l 0)→lk 2 E1=.c (.int .i64 regs)→lk 6 E1=.c (.ptr x6 0)→lk 7 E1=.c (.int .i64 op)→lk 8 E1=.c (.ptr x8 0)→lk 9 E1=.c (.int .i64 many)→many≤3→k<k6→k6≤k+3→Kn H H6 [(R.l,R.o k6)] [(x6,.st [.int .i64 0,.int .i64 0,.sl true 1 [],.int .i64 0]),(x8,.st [.int .i64 op,.int .i64 to,.sl true 1 [],.int .i64 n])]→
   Qah prog Qaj0 (Q7 Qwd fun x H'=>∃x',FrzV H' (un H) x x'∧K x' (H'.frz (un H))) E1 H6:=by
  intro many n H6 k6 E1 l0 l2 l6 l7 l8 l9 hmany hk1 hk2 kn;have rest2:∀(n:Int) (H6:Heap) (k6:Nat) (E1:Env),lk 0 E1=.c (.ptr R.l 0)→lk 2 E1=.c (.int .i64 regs)→lk 6 E1=.c (.ptr x6 0)→lk 7 E1=.c (.int .i64 op)→lk 8 E1=.c (.ptr x8 0)→lk 9 E1=.c (.int .i64 many)→k<k6→k6≤k+4→Kn H H6 [(R.l,R.o k6)] [(x6,.st [.int .i64 0,.int .i64 0,.sl true 1 [],.int .i64 0]),(x8,.st [.int .i64 op,.int .i64 to,.sl true 1 [],.int .i64 n])]→
    Qah prog Qajz (Q7 Qwd fun x H'=>∃x',FrzV H' (un H) x x'∧K x' (H'.frz (un H))) E1 H6:=by
   intro n H6 k6 E1 l0 l2 l6 l7 l8 l9 hk1 hk2 kn;refine Q5 ?_;refine Qa ?_;simp only[go_sem];simp only[l7,true_and];refine Qsm ?_;simp only[go_sem,Qaa2,l0,l2,l6,l7,l8,l9];refine Qh (Qd rfl ?_ ?_)
   ·intro hc;have hx8:=kn.l 1 rfl;refine Qq ?_;simp only[go_sem,hx8];intro H7 h7;have kn:=kn.stL 1 rfl h7;exact args many (-1) n H7 k6 hmany hk1 hk2 kn
   ·intro hc;refine Qi ?_;simp only[go_sem];exact args many to n H6 k6 hmany hk1 hk2 kn
  refine Q5 ?_;refine Qa ?_;simp only[go_sem,l0,l2,l6,l7,l8,l9];refine Qh (Qd rfl ?_ ?_)
  ·intro hc;refine Qq ?_;simp only[go_sem];refine Qls (ns:=[0,1,2,3,15,16,255]) (kn.e 0 rfl) (by omega) (by simp) fun n2 H7 hn2 hu=>?_;have kn:=kn.callE 0 rfl hu (R.o_ne _);have hx8:=kn.l 1 rfl;simp only[go_sem,Qaa1,hx8];intro H8 h8;have kn:=kn.stL 1 rfl h8;exact rest2 n2 H8 (k6+1) _ (by simp[lk]) (by simp[lk]) (by simp[lk]) (by simp[lk]) (by simp[lk]) (by simp[lk]) (by omega) (by omega) kn
  ·intro hc;refine Qi ?_;simp only[go_sem];exact rest2 n H6 k6 _ (by simp[lk]) (by simp[lk]) (by simp[lk]) (by simp[lk]) (by simp[lk]) (by simp[lk]) (by omega) (by omega) kn
 refine Q5 ?_;refine Qa ?_;simp only[go_sem];refine Qh (Qd rfl ?_ ?_)
 ·intro hop14;have hc5:=hc.keep kn;have hok5:=eq_true hc5.s.ok;refine Q5 ?_;refine Qa ?_;simp only[go_sem,how,hlen,hok5];intro hl;refine Qh (Qd rfl ?_ ?_)
  ·intro h0;refine Qa ?_;simp only[go_sem];refine Qbd (kn.e 0 rfl) (by omega) fun v H6 hv hu=>?_;have kn:=kn.callE 0 rfl hu (R.o_ne _);have hx6:=kn.l 0 rfl;simp only[go_sem,Qaj4,hx6];intro H7 h7;have kn:=kn.stL 0 rfl h7;have hx6:=kn.l 0 rfl;refine Qk ?_;simp only[go_sem,Q7,Qad,Qwd,reduceIte,Ja,forall_eq,RS.op,hx6];exact⟨.ag (InsD.mk 13 (-1) [v] 0).cells,FrzL.ag (.cons (Qf rfl) (.cons (Qf rfl) (.cons (FrzR.same (Qw [v])).sl (.cons (Qf rfl) .nil)))),hK ⟨13,-1,[v],0⟩ _ (k+3) (by omega) (by omega) kn.fin (by simp)⟩
  ·intro h0;have hpos:0<rows.length:=by
    have:¬rows.length=0:=(by simpa using h0);omega
   refine Qi ?_;simp only[go_sem];refine Qa ?_;simp only[go_sem,how,hlen,hok5];intro _;refine Qbd (kn.e 0 rfl) (by omega) fun v H6 hv hu=>?_;have kn:=kn.callE 0 rfl hu (R.o_ne _);rw[if_neg (by omega)]at hv;obtain⟨i,rfl⟩:=Jo hv.1;have hi:i<rows.length:=by omega
   obtain⟨p,c1,c2,hrow,hp0,hp3⟩:=hc.r i hi;have hx8:=kn.l 1 rfl;simp only[go_sem,Qaj5,hx8];intro H7 h7;have kn:=kn.stL 1 rfl h7;have hx8:=kn.l 1 rfl;have hc7:=hc.keep kn;have hok7:=eq_true hc7.s.ok;have hrw7:=hc7.s.rows;refine Qq ?_;simp only[go_sem,how,hlen,hok7,hrw7,hesz,hx8,hi,hrow];exact rest p i H7 (k+3) _ (by simp[lk]) (by simp[lk]) (by simp[lk]) (by simp[lk]) (by simp[lk]) (by simp[lk]) (by omega) (by omega) (by omega) kn
 ·intro hop14;refine Qi ?_;simp only[go_sem];exact rest many 0 H5 (k+2) _ (by simp[lk]) (by simp[lk]) (by simp[lk]) (by simp[lk]) (by simp[lk]) (by simp[lk]) (by omega) (by omega) (by omega) kn
theorem Qbty {α:Type}{a M b c:List α}:(a++(M++b)++c).Perm (((M++c)++b)++a):=by
 refine Ji.trans ?_;refine (List.Perm.append_left _ (Ji (l₁:=a))).trans ?_;rw[←Jj];refine .append_right _ ?_;rw[←Jj];exact .append_right _ Ji
def EnvA (R:Rdr)(cc:C)(x4 x5 x8 n b:Nat)(e:Env):Prop:=
 lk 0 e=.c (.ptr R.l 0)∧lk 3 e=.c (.pp [cc])∧lk 4 e=.c (.ptr x4 0)∧lk 5 e=.c (.ptr x5 0)∧lk 6 e=.c (.int .i64 n)∧lk 7 e=.c (.int .i64 b)∧lk 8 e=.c (.ptr x8 0)
set_option maxHeartbeats 4000000 in
theorem Qboz {R:Rdr}{k:Nat}{cc:C}{rows:List (List C)}(hH:H R.l=R.o k)(hk:k+1000≤2^40)(hc:CRd H R cc rows)
  (hK:∀(o:UCode) (H':Heap) (k':Nat),k<k'→k'≤k+1000→Kn H H' [(R.l,R.o k')] o.lg→o.ok→o.sm 0→K (.ag o.row) H') :
  Qu prog Qae6 [.c (.ptr R.l 0),.ag [cc]] H K:=by
 refine Qdj ?_;refine Qb Qam Qbpi ?_;have how:=hc.ow;refine Qa ?_;simp only[go_sem,how];intro x4 hx4 H1 h1;have kn:=(Kn.start1 hH (R.o_ne k)).al hx4 h1;refine Qa ?_;simp only[go_sem];refine Qls (ns:=[1,0,2,3]) (kn.e 0 rfl) (by omega) (by simp) fun p H2 hp hu=>?_;have kn:=kn.callE 0 rfl hu (R.o_ne _);have hp:0≤p∧p≤3:=by simp at hp;omega
 simp only[go_sem,Qajc];intro x5 hx5 H3 h3;have kn:=kn.al hx5 h3;have hx53:=kn.l 1 rfl;simp only[go_sem,Qajb,hx53];intro H4 h4;have kn:=kn.stL 1 rfl h4;have hx54:=kn.l 1 rfl;refine Qak ?_;simp only[go_sem,hx54];refine⟨Qp (by omega) (by omega),?_⟩;refine Qbd (kn.e 0 rfl) (by omega) fun q H5 hq hu=>?_;have kn:=kn.callE 0 rfl hu (R.o_ne _);have hx55:=kn.l 1 rfl;rw[if_neg (by omega)]at hq;simp only[go_sem,Qajd,hx55];refine⟨Qp (by omega) (by omega),?_⟩;intro H6 h6;have kn:=kn.stL 1 rfl h6;obtain⟨rg,hrg⟩:∃rg,p+2+q=rg:=⟨_,rfl⟩;rw[hrg]at kn;refine Qa ?_;simp only[go_sem];refine Qls (ns:=[3,5,2,1,7,4]) (kn.e 0 rfl) (by omega) (by simp) fun n0 H7 hn0 hu=>?_;have kn:=kn.callE 0 rfl hu (R.o_ne _);simp only[go_sem,Qaje];obtain⟨n,rfl,hn1,hn7⟩:∃n:Nat,n0=n∧1≤n∧n≤7:=⟨n0.toNat,by simp at hn0;omega⟩;refine Q5 ?_;refine Qa ?_;simp only[go_sem];refine Qh (Qc (Qv (fun m e1 H1=>∃(b k1:Nat) (bs:List UBlk) (bc:C) (bl:List (Nat×Obj)),m=n-b∧b≤n∧bs.length=b∧k<k1∧k1≤k+3+50 * b∧(∀o∈bs,o.ok∧o.sm 0)∧Gr bl 5 (bs.map UBlk.row) bc∧
  Kn H H1 [(R.l,R.o k1)] (([(x4,.st [.int .i64 0,.int .i64 0,.sl true 5 []]),(x5,.st [.int .i64 p,.int .i64 rg,bc])]++bs.flatMap UBlk.lg)++bl)∧
  e1=[(0,.c (.ptr R.l 0)),(3,.c (.pp [cc])),(4,.c (.ptr x4 0)),(5,.c (.ptr x5 0)),(6,.c (.int .i64 n)),(7,.c (.int .i64 b))]) n ?_ ?_))
 ·exact⟨0,k+1+1+1,[],_,[],by omega,by omega,rfl,by omega,by omega,by simp,.nil 5,by simpa using kn,rfl⟩
 ·rintro m e1 H8 ⟨b,k1,bs,bc,bl,hm,hb,hbs,hk1,hk2,hok,hgr,kn,rfl⟩;have hbow:=hgr.isOw;refine Q5 ?_;refine Qa ?_;simp only[go_sem];refine Qh (Qd rfl ?_ ?_)
  ·intro hc1;have hlt:b<n:=by simpa using hc1
   refine Qi ?_;simp only[go_sem];refine Qh (Qc ?_);refine Qa ?_;simp only[go_sem];intro x8 hx8 H9 h9;have kn:=kn.al hx8 h9;have kn:=kn.perm Ji;have hx89:=kn.l 0 rfl;simp only[go_sem,Qajf,hx89];intro H10 h10;have kn:=kn.stL 0 rfl h10;refine Q5 ?_;refine Qa ?_;simp only[go_sem];refine Qls (ns:=[1,2,0,3,4]) (kn.e 0 rfl) (by omega) (by simp) fun i0 H11 hi0 hu=>?_;have kn:=kn.callE 0 rfl hu (R.o_ne _);simp only[go_sem,Qajg];obtain⟨i,rfl,hi4⟩:∃i:Nat,i0=i∧i≤4:=⟨i0.toNat,by simp at hi0;omega⟩;refine Qh (Qc (Qv (fun m e1 H1=>∃(t k2:Nat) (ds:List InsD) (ic:C) (il:List (Nat×Obj)),m=t∧t+ds.length=i∧k1<k2∧k2≤k1+1+9 * ds.length∧(∀d∈ds,d.args.length≤3)∧Gr il 4 (Qap ds) ic∧
    Kn H H1 [(R.l,R.o k2)] (([(x8,.st [.sl true 2 [],ic,.int .i64 0,.int .i64 0,.sl true 1 []])]++(([(x4,.st [.int .i64 0,.int .i64 0,.sl true 5 []]),(x5,.st [.int .i64 p,.int .i64 rg,bc])]++bs.flatMap UBlk.lg)++bl))++il)∧
    e1=[(0,.c (.ptr R.l 0)),(3,.c (.pp [cc])),(4,.c (.ptr x4 0)),(5,.c (.ptr x5 0)),(6,.c (.int .i64 n)),(7,.c (.int .i64 b)),(8,.c (.ptr x8 0)),(9,.c (.int .i64 t))]) i ?_ ?_))
   ·refine⟨i,k1+1,[],_,[],rfl,rfl,by omega,by simp,by simp,.nil 4,by simpa using kn,rfl⟩
   ·rintro m2 e1 H12 ⟨t,k2,ds,ic,il,hm2,ht,hk3,hk4,hds,hgi,kn,rfl⟩;have hicow:=hgi.isOw;have hx8:=kn.l 0 rfl;have hx5:=kn.l 2 rfl;refine Q5 ?_;refine Qa ?_;simp only[go_sem];refine Qh (Qd rfl ?_ ?_)
    ·intro hc2;have ht0:0<t:=(by simpa using hc2);refine Qi ?_;simp only[go_sem];refine Qh (Qc ?_);refine Qbh ?_;simp only[go_sem,hx8,hx5,hicow,hbow,how];refine Qbo1 (kn.e 0 rfl) (by omega) (hc.keep kn) fun d H13 k3 hk5 hk6 hu hd=>?_;have kn:=kn.callE 0 rfl hu (R.o_ne _);have hx8:=kn.l 0 rfl;simp only[go_sem,Qaji,hx8,hicow,InsD.take4,InsD.allOw,InsD.len4];refine kn.grow (new:=[d.cells]) hgi (.mk' _ _ _ _) (by intro r hr;simp only[Ja]at hr;subst hr;rfl) (by simp only[Qaa,LIM,Jl,Jn];omega) fun y H14 kn=>?_;have hx8:=kn.l 0 rfl;simp only[go_sem,Qajh,hx8];intro H15 h15;have kn:=kn.stL 0 rfl h15;refine Qq ?_;simp only[go_sem,X.next];refine⟨Qp (by omega) (by omega),t-1,by omega,t-1,k3,ds++[d],_,_,rfl,by simp;omega,by omega,by simp;omega,fun d' hd'=>?_,?_,kn,?_⟩
     ·rcases Jm.1 hd' with h|h
      ·exact hds _ h
      ·simp only[Ja]at h;subst h;exact hd
     ·rw[Qbeb];exact .mk _ _ _ (by simp[Qaa])
     ·have:(t:Int)-1=((t-1:Nat):Int):=(by omega);rw[this]
    ·intro hc2;have ht0:t=0:=(by have:¬0<t:=(by simpa using hc2);omega);refine Qs ?_;simp only[go_sem,X.next];refine Qa ?_;simp only[go_sem,hx5,hbow];refine Qbd (kn.e 0 rfl) (by omega) fun on H13 hon hu=>?_;have kn:=kn.callE 0 rfl hu (R.o_ne _);have hx8:=kn.l 0 rfl;simp only[go_sem,Qaar,hx8,hicow];intro H14 h14;have kn:=kn.stL 0 rfl h14;refine Qa ?_;simp only[go_sem];refine Qls (ns:=[2,1,2,1,3]) (kn.e 0 rfl) (by omega) (by simp) fun jump H15 hjump hu=>?_;have kn:=kn.callE 0 rfl hu (R.o_ne _);have hx8:=kn.l 0 rfl;simp only[go_sem,Qaas,hx8,hicow];intro H16 h16;have kn:=kn.stL 0 rfl h16;refine Qcq (fun e2 H2=>∃(k2:Nat) (jump:Int),k1<k2∧k2≤k1+40∧Kn H H2 [(R.l,R.o k2)] (([(x8,.st [.sl true 2 [],ic,.int .i64 jump,.int .i64 on,.sl true 1 []])]++(([(x4,.st [.int .i64 0,.int .i64 0,.sl true 5 []]),(x5,.st [.int .i64 p,.int .i64 rg,bc])]++bs.flatMap UBlk.lg)++bl))++il)∧EnvA R cc x4 x5 x8 n b e2) ?_ ?_
     ·intro Q hn _ _;have rest:∀(v:Bool) (H2:Heap) (k2:Nat),k1<k2→k2≤k1+40→Kn H H2 [(R.l,R.o k2)] (([(x8,.st [.sl true 2 [],ic,.int .i64 jump,.int .i64 on,.sl true 1 []])]++(([(x4,.st [.int .i64 0,.int .i64 0,.sl true 5 []]),(x5,.st [.int .i64 p,.int .i64 rg,bc])]++bs.flatMap UBlk.lg)++bl))++il)→
        Qah prog Qaja Q [(0,.c (.ptr R.l 0)),(3,.c (.pp [cc])),(4,.c (.ptr x4 0)),(5,.c (.ptr x5 0)),(6,.c (.int .i64 n)),(7,.c (.int .i64 b)),(8,.c (.ptr x8 0)),(68,.c (.bool v))] H2:=by
       intro v H2 k2 hk1 hk2 kn;refine Qd rfl ?_ ?_
       ·intro hc;have hx8:=kn.l 0 rfl;refine Qq ?_;simp only[go_sem,hx8,hicow];intro H3 h3;have kn:=kn.stL 0 rfl h3;exact hn _ _ ⟨k2,3,hk1,hk2,kn,rfl,rfl,rfl,rfl,rfl,rfl,rfl⟩
       ·intro hc;refine Qi ?_;exact hn _ _ ⟨k2,jump,hk1,hk2,kn,rfl,rfl,rfl,rfl,rfl,rfl,rfl⟩
      refine Qa ?_;simp only[go_sem];refine⟨fun _=>Qp (by omega) (by omega),?_⟩;refine⟨fun hb1=>?_,fun hb1=>?_⟩
      ·refine Qbd (kn.e 0 rfl) (by omega) fun v H17 hv hu=>?_;have kn:=kn.callE 0 rfl hu (R.o_ne _);simp only[go_sem,Qke,hb1];exact rest _ _ _ (by omega) (by omega) kn
      ·by_cases h1:(n:Int)=1
       ·have hd:=decide_eq_true h1;have hd2:decide ((b:Int)=n-1)=true:=decide_eq_true (by omega);simp only[go_sem,Qke,hd,hd2,Bool.not_true,cond_true,cond_false];exact rest true _ _ (by omega) (by omega) kn
       ·have h2:¬(b:Int)=n-1:=(by simpa[h1]using hb1);simp only[go_sem,Qke,hb1,h1,h2,decide_false,Bool.not_false,cond_true,cond_false];exact rest false _ _ (by omega) (by omega) kn
     rintro e2 H17 ⟨k3,jump,hk5,hk6,kn,l0,l3,l4,l5,l6,l7,l8⟩;refine Qcq (fun e2 H2=>∃(k2:Nat) (jump on:Int) (nfl:Bool) (next:List Int),next.length≤2∧k1<k2∧k2≤k1+50∧Kn H H2 [(R.l,R.o k2)] (([(x8,.st [.sl true 2 [],ic,.int .i64 jump,.int .i64 on,.sl nfl 1 (Qe next)])]++(([(x4,.st [.int .i64 0,.int .i64 0,.sl true 5 []]),(x5,.st [.int .i64 p,.int .i64 rg,bc])]++bs.flatMap UBlk.lg)++bl))++il)∧EnvA R cc x4 x5 x8 n b e2) ?_ ?_
     ·intro Q hn _ _;have hx8:=kn.l 0 rfl;refine Qa ?_;simp only[go_sem,hx8,l0,l3,l4,l5,l6,l7,l8,hicow];refine Qc ?_;refine Qa ?_;simp only[go_sem];refine Qd rfl ?_ ?_
      ·intro hc;refine Qa ?_;simp only[go_sem,hx8,hicow];intro H18 h18;have kn:=kn.stL 0 rfl h18;refine Qq ?_;simp only[go_sem];refine Qbjl (kn.e 0 rfl) (by omega) (by omega) (by omega) fun v1 H19 k4 hk7 hk8 hu=>?_;have kn:=kn.callE 0 rfl hu (R.o_ne _);have hx8:=kn.l 0 rfl;simp only[go_sem,Qaat,hx8,hicow];intro H20 h20;have kn:=kn.stL 0 rfl h20;exact hn _ _ ⟨k4,jump,0,true,[v1],by simp,by omega,by omega,kn,rfl,rfl,rfl,rfl,rfl,rfl,rfl⟩
      ·intro hc;refine Qa ?_;simp only[go_sem];refine Qd rfl ?_ ?_
       ·intro hc;refine Qq ?_;simp only[go_sem];refine Qbjl (kn.e 0 rfl) (by omega) (by omega) (by omega) fun v1 H19 k4 hk7 hk8 hu=>?_;have kn:=kn.callE 0 rfl hu (R.o_ne _);simp only[go_sem,Qaav];refine Qbjl (kn.e 0 rfl) (by omega) (by omega) (by omega) fun v2 H20 k5 hk9 hk10 hu=>?_;have kn:=kn.callE 0 rfl hu (R.o_ne _);have hx8:=kn.l 0 rfl;simp only[go_sem,Qaau,hx8,hicow];intro H21 h21;have kn:=kn.stL 0 rfl h21;exact hn _ _ ⟨k5,jump,on,true,[v1,v2],by simp,by omega,by omega,kn,rfl,rfl,rfl,rfl,rfl,rfl,rfl⟩
       ·intro hc;refine Qi ?_;exact hn _ _ ⟨k3,jump,on,true,[],by simp,by omega,by omega,kn,rfl,rfl,rfl,rfl,rfl,rfl,rfl⟩
     rintro e3 H18 ⟨k4,jump,on,nfl,next,hnx,hk7,hk8,kn,l0,l3,l4,l5,l6,l7,l8⟩;have hx8:=kn.l 0 rfl;have hx5:=kn.l 2 rfl;refine Qq ?_;simp only[go_sem,hx8,hx5,l0,l3,l4,l5,l6,l7,l8,hicow,hbow];obtain⟨o,ho⟩:∃o:UBlk,o=⟨[],.sl true 2 [],[],ds,ic,il,jump,on,nfl,next⟩:=⟨_,rfl⟩;have hor:[C.sl true 2 [],ic,C.int IntKind.i64 jump,C.int IntKind.i64 on,C.sl nfl 1 (Qe next)]=o.row:=(by rw[ho];rfl);have hol:o.lg=il:=(by rw[ho];simp[UBlk.lg]);have hook:o.ok:=(by rw[ho];exact⟨.nil 2,hgi,by simp⟩);have hosm:o.sm 0:=(by rw[ho];exact⟨hnx,by show ds.length≤_;omega,by simp,fun d hd=>by have:=hds d hd;omega,by simp⟩);rw[hor];have kn:=(kn.perm Qbty).drop;refine kn.grow (new:=[o.row]) hgr (.mk' _ _ _ _) (by intro r hr;simp only[Ja]at hr;subst hr;exact o.noOw hook) (by simp only[Je,Jl,Jn,LIM];omega) fun z H19 kn=>?_;have kn:Kn H H19 [(R.l,R.o k4)] (([(x4,.st [.int .i64 0,.int .i64 0,.sl true 5 []]),(x5,.st [.int .i64 p,.int .i64 rg,bc])]++(bs++[o]).flatMap UBlk.lg)++[(z,.vec 5 ((bs++[o]).map UBlk.row))]):=by
      simpa[Js,Jj,hol]using kn
     have hx5:=kn.l 1 rfl;simp only[go_sem,Qaaw,hx5,l0,l3,l4,l5,l6,l7,hbow];intro H20 h20;have kn:=kn.stL 1 rfl h20;refine Qq ?_;simp only[go_sem,X.next];refine⟨Qp (by omega) (by omega),n-(b+1),by omega,b+1,k4,bs++[o],_,_,rfl,by omega,by simp[hbs],by omega,by omega,fun o' ho'=>?_,.mk _ _ _ (by simp),kn,rfl⟩;rcases Jm.1 ho' with h|h
     ·exact hok o' h
     ·simp only[Ja]at h;subst h;exact⟨hook,hosm⟩
  ·intro hc1;have hbn:b=n:=by have:¬b<n:=(by simpa using hc1);omega
   have hx4:=kn.l 0 rfl;have hx5:=kn.l 1 rfl;refine Qs ?_;simp only[go_sem,X.next];refine Qa ?_;simp only[go_sem,hx5,hx4,hbow];intro H9 h9;have kn:=kn.stL 0 rfl h9;have hx4:=kn.l 0 rfl;refine Qk ?_;simp only[go_sem,Q7,Qad,Qbc8,reduceIte,Ja,forall_eq,RS.op,hx4,hbow];obtain⟨o,ho⟩:∃o:UCode,o=⟨p,rg,bs,bc,bl⟩:=⟨_,rfl⟩;have hook:o.ok:=by rw[ho];exact⟨hgr,fun b hb=>(hok b hb).1,hp.1,hp.2⟩
   have hosm:o.sm 0:=by rw[ho];exact⟨by show 0<bs.length;omega,by show bs.length≤_;omega,fun b hb=>(hok b hb).2⟩
   have kn:Kn H H9 [(R.l,R.o k1)] ([(x4,.st [.int .i64 p,.int .i64 rg,bc]),(x5,.st [.int .i64 p,.int .i64 rg,bc])]++o.lg):=by
    rw[ho];simpa[UCode.lg,Jj]using kn
   refine⟨unx H o.lg,.ag o.row,H9.frz (unx H o.lg),?_,Qe0 _ _,hK o _ k1 hk1 (by omega) kn.finK hook hosm⟩;rw[ho];exact FrzL.ag (.cons (Qf rfl) (.cons (Qf rfl) (.cons (.same _ hbow) .nil)))
end Go.AE.Y
namespace Go.AE
open Go.AE.Y
open Go.Proofs.Tryz
variable {H:Heap}{K:V→Heap→Prop}
theorem Gr.slc {H0 H:Heap}{E B Lg:List (Nat×Obj)}{sz:Nat}{rows:List (List C)}{c:C}(h:Gr Lg sz rows c)(kn:Kn H0 H E (B++Lg)):Slc H sz rows c:=by
 obtain⟨h1,h2⟩:=h.get kn;exact⟨h1,h.elemSz,h2,h.lenC⟩
theorem Gr.ne {H0 H:Heap}{E B Lg:List (Nat×Obj)}{sz:Nat}{rows:List (List C)}{c:C}{r:Nat}{o:Obj}(h:Gr Lg sz rows c)(kn:Kn H0 H E (B++Lg))(hr:(r,o)∈E):∀l a d n,c=.vsl l a d n→l≠r:=by
 intro l a d n hc hh;rcases h with ⟨h1,_⟩|⟨y,h1,h2⟩
 ·rw[h1]at hc;simp at hc
 ·rw[h1]at hc;have hy:y=l:=by injection hc
  have:=kn.loc (y,.vec sz rows) (by rw[h2];simp);exact kn.ext (r,o) hr (by rw[←hh,←hy];exact this)
theorem Gr.slcM {H0 H:Heap}{E L Lg:List (Nat×Obj)}{sz:Nat}{rows:List (List C)}{c:C}(h:Gr Lg sz rows c)(kn:Kn H0 H E L)(hm:∀p∈Lg,p∈L):Slc H sz rows c:=by
 rcases h with ⟨h1,h2,h3⟩|⟨y,h1,h2⟩
 ·rw[h1,h2];exact .mk' _ _ _ _
 ·have hy:H y=.vec sz rows:=(kn.get (y,.vec sz rows) (Jh _ (hm _ (by rw[h2];simp)))).1;rw[h1];exact⟨by simp[Go.AE.okSl,hy],rfl,by simp[Go.AE.rowsOf,hy],rfl⟩
end Go.AE
namespace Go.AE.Y
open Go.Proofs.Tryz
variable {H:Heap}{K:V→Heap→Prop}
theorem Qbuv {H0 H:Heap}{B cl:List (Nat×Obj)}{R:Rdr}{o:Obj}{us:List UCode}{cc:C}(hg:Gr cl 3 (us.map UCode.row) cc)(kn:Kn H0 H [(R.l,o)] (B++cl))(hu:∀u∈us,u.ok):CRd H R cc (us.map UCode.row):=by
 refine⟨hg.slc kn,hg.isOw,hg.ne kn (o:=o) (by simp),fun i hi=>?_⟩;rw[Je]at hi;refine⟨us[i].params,.int .i64 us[i].regs,us[i].bc,by simp[Jb,hi,UCode.row],(hu _ (Jc hi)).p0,(hu _ (Jc hi)).p1⟩
set_option maxHeartbeats 4000000 in
theorem Qbcw {R:Rdr}{k:Nat}(hH:H R.l=R.o k)(hk:k+10000≤2^40)
  (hK:∀(cs:List CodeD) (H':Heap) (k':Nat),k<k'→k'≤k+10000→Upd H H' [(R.l,R.o k')]→0<cs.length→cs.length≤3→(∀c∈cs,c.sm)→K (.ag [.sl false 3 (Ql cs)]) H') :
  Qu prog Q1f [.c (.ptr R.l 0)] H K:=by
 refine Qt ?_;refine Qb Qam Qbpm ?_;refine Qa ?_;simp only[go_sem];intro x2 hx2 H1 h1;have kn:=(Kn.start1 hH (R.o_ne k)).al hx2 h1;refine Qa ?_;simp only[go_sem];intro x3 hx3 H2 h2;have kn:=kn.al hx3 h2;have hx32:=kn.l 1 rfl;simp only[go_sem,Qaj7,hx32];intro H3 h3;have kn:=kn.stL 1 rfl h3;refine Q5 ?_;refine Qa ?_;simp only[go_sem];refine Qls (ns:=[1,2,1,3]) (kn.e 0 rfl) (by omega) (by simp) fun i0 H4 hi0 hu=>?_;have kn:=kn.callE 0 rfl hu (R.o_ne _);simp only[go_sem,Qaj8];obtain⟨i,rfl,hi1,hi3⟩:∃i:Nat,i0=i∧1≤i∧i≤3:=⟨i0.toNat,by simp at hi0;omega⟩;refine Qh (Qc (Qv (fun m e1 H1=>∃(t k1:Nat) (us:List UCode) (cc:C) (cl:List (Nat×Obj)),m=t∧t+us.length=i∧k<k1∧k1≤k+1+1000 * us.length∧(∀u∈us,u.ok∧u.sm 0)∧Gr cl 3 (us.map UCode.row) cc∧
  Kn H H1 [(R.l,R.o k1)] (([(x2,.st [.sl true 3 []]),(x3,.st [cc])]++us.flatMap UCode.lg)++cl)∧
  e1=[(0,.c (.ptr R.l 0)),(2,.c (.ptr x2 0)),(3,.c (.ptr x3 0)),(4,.c (.int .i64 t))]) i ?_ ?_))
 ·exact⟨i,k+1,[],_,[],rfl,rfl,by omega,by simp,by simp,.nil 3,by simpa using kn,rfl⟩
 ·rintro m e1 H5 ⟨t,k1,us,cc,cl,hm,ht,hk1,hk2,hok,hgr,kn,rfl⟩;have hcow:=hgr.isOw;have hx3:=kn.l 1 rfl;refine Q5 ?_;refine Qa ?_;simp only[go_sem];refine Qh (Qd rfl ?_ ?_)
  ·intro hc;have ht0:0<t:=by simpa using hc
   refine Qi ?_;simp only[go_sem];refine Qh (Qc (Qbh ?_));simp only[go_sem,hx3,hcow];refine Qboz (kn.e 0 rfl) (by omega) (Qbuv hgr kn fun u hu=>(hok u hu).1) fun o H6 k2 hk3 hk4 kn2 hoo hos=>?_;have kn:=kn.compE 0 rfl kn2;have hx3:=kn.l 1 rfl;simp only[go_sem,Qaka,hx3,hcow,o.len3];have kn:=kn.perm Qaqk;refine kn.grow (new:=[o.row]) hgr (.mk' _ _ _ _) (by intro r hr;simp only[Ja]at hr;subst hr;exact o.noOw hoo) (by simp only[Je,Jl,Jn,LIM];omega) fun z H7 kn=>?_;have kn:Kn H H7 [(R.l,R.o k2)] (([(x2,.st [.sl true 3 []]),(x3,.st [cc])]++(us++[o]).flatMap UCode.lg)++[(z,.vec 3 ((us++[o]).map UCode.row))]):=by
    simpa[Js,Jj]using kn
   have hx3:=kn.l 1 rfl;simp only[go_sem,Qaj9,hx3];intro H8 h8;have kn:=kn.stL 1 rfl h8;refine Qq ?_;simp only[go_sem,X.next];refine⟨Qp (by omega) (by omega),t-1,by omega,t-1,k2,us++[o],_,_,rfl,by simp;omega,by omega,by simp;omega,fun o' ho'=>?_,.mk _ _ _ (by simp),kn,?_⟩
   ·rcases Jm.1 ho' with h|h
    ·exact hok o' h
    ·simp only[Ja]at h;subst h;exact⟨hoo,hos⟩
   ·have:(t:Int)-1=((t-1:Nat):Int):=(by omega);rw[this]
  ·intro hc;have ht0:t=0:=by have:¬0<t:=(by simpa using hc);omega
   refine Qs ?_;simp only[go_sem,X.next];refine Q5 ?_;refine Qa ?_;simp only[go_sem];refine Qls (ns:=[0,0,1,3]) (kn.e 0 rfl) (by omega) (by simp) fun j0 H6 hj0 hu=>?_;have kn:=kn.callE 0 rfl hu (R.o_ne _);simp only[go_sem,Qakb];obtain⟨j,rfl,hj3⟩:∃j:Nat,j0=j∧j≤3:=⟨j0.toNat,by simp at hj0;omega⟩;have hcl:0<us.length:=by omega
   have hcl3:us.length≤3:=by omega
   refine Qh (Qc (Qv (fun m e1 H1=>∃(t k2 N:Nat) (us:List UCode),m=t∧t+N=j∧us.length=i∧k<k2∧k2≤k1+1+200 * N∧(∀u∈us,u.ok∧u.sm N)∧Gr cl 3 (us.map UCode.row) cc∧
    Kn H H1 [(R.l,R.o k2)] (([(x2,.st [.sl true 3 []]),(x3,.st [cc])]++us.flatMap UCode.lg)++cl)∧
    e1=[(0,.c (.ptr R.l 0)),(2,.c (.ptr x2 0)),(3,.c (.ptr x3 0)),(5,.c (.int .i64 t))]) j ?_ ?_))
   ·exact⟨j,k1+1,0,us,rfl,rfl,by omega,by omega,by omega,hok,hgr,kn,rfl⟩
   ·rintro m e1 H7 ⟨t,k2,N,us,hm,ht,hui,hk3,hk4,hok,hgr,kn,rfl⟩;have hx3:=kn.l 1 rfl;refine Q5 ?_;refine Qa ?_;simp only[go_sem];refine Qh (Qd rfl ?_ ?_)
    ·intro hc;have ht0:0<t:=(by simpa using hc);refine Qi ?_;simp only[go_sem];have hmem:∀p∈cl,p∈(([(x2,.st [.sl true 3 []]),(x3,.st [cc])]++us.flatMap UCode.lg)++cl):=fun p hp=>(by simp[hp]);refine Qcq (fun e2 H2=>∃(k3:Nat) (us:List UCode),us.length=i∧k<k3∧k3≤k2+200∧(∀u∈us,u.ok∧u.sm (N+1))∧Gr cl 3 (us.map UCode.row) cc∧
      Kn H H2 [(R.l,R.o k3)] (([(x2,.st [.sl true 3 []]),(x3,.st [cc])]++us.flatMap UCode.lg)++cl)∧lk 0 e2=.c (.ptr R.l 0)∧lk 2 e2=.c (.ptr x2 0)∧lk 3 e2=.c (.ptr x3 0)∧lk 5 e2=.c (.int .i64 t)) ?_ ?_
     ·intro Q hn _ _;have hs:=hgr.slc kn;have hsok:=eq_true hs.ok;have hlen:=hs.len;have hsz:=hs.sz;rw[Je]at hlen;refine Qc ?_;refine Qak ?_;simp only[go_sem,hx3,hcow,hsok,hlen];refine Qbd (kn.e 0 rfl) (by omega) fun v H8 hv hu=>?_;have kn:=kn.callE 0 rfl hu (R.o_ne _);rw[if_neg (by omega)]at hv;obtain⟨ci,rfl⟩:=Jo hv.1;have hci:ci<us.length:=(by omega);have hx3:=kn.l 1 rfl;have hs:=hgr.slc kn;have hsok:=eq_true hs.ok;simp only[go_sem,Qakc,hx3,hcow,hsok,hlen,hsz,hci];obtain⟨u,hu⟩:∃u,us[ci]=u:=⟨_,rfl⟩;obtain⟨huok,husm⟩:=hok _ (Jc hci);rw[hu]at huok husm;have hrow:(us.map UCode.row).getD ci []=[.int .i64 u.params,.int .i64 u.regs,u.bc]:=(by rw[←hu];simp[Jb,hci,UCode.row]);have hub0:=husm.b0;have hub1:=husm.b;obtain⟨yb,hbc,hbl⟩:=UCode.bvec huok hub0;have hblow:=huok.b.isOw;have hblen:=huok.b.lenC;rw[Je]at hblen;have hrws:=hs.rows;have hmemb:∀p∈u.bl,p∈(([(x2,.st [.sl true 3 []]),(x3,.st [cc])]++us.flatMap UCode.lg)++cl):=fun p hp=>by
       have:p∈us.flatMap UCode.lg:=Jad.2 ⟨u,by rw[←hu];exact Jc hci,Jh _ hp⟩;simp[this]
      have hbok:=eq_true (huok.b.slcM kn hmemb).ok;refine Qa ?_;simp only[go_sem,hx3,hcow,hsok,hlen,hsz,hci,hrws,hrow,hblow,hblen,hbok];intro _;refine Qbd (kn.e 0 rfl) (by omega) fun v H9 hv hu9=>?_;have kn:=kn.callE 0 rfl hu9 (R.o_ne _);rw[if_neg (by omega)]at hv;obtain⟨bi,rfl⟩:=Jo hv.1;have hbi:bi<u.blocks.length:=(by omega);have hsok:=eq_true (hgr.slcM kn hmem).ok;have hrws:=(hgr.slcM kn hmem).rows;simp only[go_sem,Qakd];refine Qa ?_;simp only[go_sem,hcow,hsok,hlen,hsz,hci,hrws,hrow,hblow];refine Qbd (kn.e 0 rfl) (by omega) fun to H10 _ hu10=>?_;have kn:=kn.callE 0 rfl hu10 (R.o_ne _);simp only[go_sem,Qaa6];intro x8 hx8 H11 h11;have kn:=kn.al hx8 h11;have kn:=kn.perm Ji;have hx8:=kn.l 0 rfl;simp only[go_sem,Qaa5,hx8];intro H12 h12;have kn:Kn H H12 [(R.l,R.o (k2+1+1+1))] ([(x8,.st [.int .i64 to,.sl true 1 []])]++(([(x2,.st [.sl true 3 []]),(x3,.st [cc])]++us.flatMap UCode.lg)++cl)):=kn.stL 0 rfl h12;have hmem2:∀p∈cl,p∈([(x8,Obj.st [.int .i64 to,.sl true 1 []])]++(([(x2,.st [.sl true 3 []]),(x3,.st [cc])]++us.flatMap UCode.lg)++cl)):=fun p hp=>Jh _ (hmem p hp);have hsok:=eq_true (hgr.slcM kn hmem2).ok;have hrws:=(hgr.slcM kn hmem2).rows;have hbs:=huok.b.slcM kn (fun p hp=>Jh _ (hmemb p hp));refine Q5 ?_;refine Qa ?_;simp only[go_sem,hcow,hsok,hlen,hsz,hci,hrws,hrow,hblow];refine Qgl (rows:=u.blocks.map UBlk.row) (nx:=fun i=>(u.blocks.map UBlk.next).getD i []) hbs hblow (fun i hi=>?_) fun H13 hu13=>?_
      ·rw[Je]at hi;refine⟨u.blocks[i].pc,u.blocks[i].ic,.int .i64 u.blocks[i].jump,.int .i64 u.blocks[i].on,u.blocks[i].nfl,?_⟩;simp[Jb,hi,UBlk.row]
      have kn:=kn.call0 hu13;obtain⟨ps,hps⟩:∃ps,Qac (fun i=>(u.blocks.map UBlk.next).getD i []) (bi:Int) (u.blocks.map UBlk.row).length=ps:=⟨_,rfl⟩;have hpsl:ps.length≤160:=by
       have:=Qcw (fun i=>(u.blocks.map UBlk.next).getD i []) (bi:Int) (u.blocks.map UBlk.row).length;rw[hps,Je]at this;omega
      rw[hps];simp only[go_sem,Qaa7,Qg];intro _;refine Qh (Qc (Qv (fun m e1 H1=>∃(q:Nat) (ns:List Int) (ac:C) (al:List (Nat×Obj)),m=ps.length-q∧q≤ps.length∧ns.length=q∧Gr al 1 (Qe ns) ac∧
       Kn H H1 [(R.l,R.o (k2+1+1+1+q))] (([(x8,.st [.int .i64 to,ac])]++(([(x2,.st [.sl true 3 []]),(x3,.st [cc])]++us.flatMap UCode.lg)++cl))++al)∧
       e1=[(0,.c (.ptr R.l 0)),(2,.c (.ptr x2 0)),(3,.c (.ptr x3 0)),(5,.c (.int .i64 t)),(6,.c (cc.ep 3 ci 0)),(7,.c (.int .i64 bi)),(8,.c (.ptr x8 0)),(59,.c (.int .i64 ps.length)),(60,.c (.int .i64 q))]) ps.length ?_ ?_))
      ·exact⟨0,[],_,[],by omega,by omega,rfl,.nil 1,by simpa using kn,rfl⟩
      ·rintro m2 e1 H14 ⟨q,ns,ac,al,hm2,hq,hns,hga,kn,rfl⟩;have hacow:=hga.isOw;have hx8:=kn.l 0 rfl;have hmem3:∀p∈cl,p∈(([(x8,Obj.st [.int .i64 to,ac])]++(([(x2,.st [.sl true 3 []]),(x3,.st [cc])]++us.flatMap UCode.lg)++cl))++al):=fun p hp=>List.mem_append_left _ (Jh _ (hmem p hp));have hsok:=eq_true (hgr.slcM kn hmem3).ok;have hrws:=(hgr.slcM kn hmem3).rows;refine Qa ?_;simp only[go_sem];refine Qh (Qd rfl ?_ ?_)
       ·intro hc;have hlt:q<ps.length:=(by simpa using hc);refine Qi ?_;simp only[go_sem];refine Qh (Qc (Qbh ?_));simp only[go_sem,hx8,hacow,hcow,hsok,hlen,hsz,hci,hrws,hrow,hblow];refine Qbd (kn.e 0 rfl) (by omega) fun v H15 _ hu15=>?_;have kn:=kn.callE 0 rfl hu15 (R.o_ne _);have hx8:=kn.l 0 rfl;simp only[go_sem,Qaa9,hx8,hacow];refine kn.grow (new:=Qe [v]) hga (.mk' _ _ _ _) (Qw _) (by simp only[Qg,LIM,Jl,Jn];omega) fun y H16 kn=>?_;have hx8:=kn.l 0 rfl;simp only[go_sem,Qaa8,hx8];intro H17 h17;have kn:=kn.stL 0 rfl h17;refine Qq ?_;simp only[go_sem,X.next];refine⟨Qp (by omega) (by omega),ps.length-(q+1),by omega,q+1,ns++[v],_,_,rfl,by omega,by simp[hns],?_,kn,rfl⟩;rw[←Qcn];exact .mk _ _ _ (by simp[Qcn,Qg])
       ·intro hc;have hqp:q=ps.length:=(by have:¬q<ps.length:=(by simpa using hc);omega);refine Qs ?_;simp only[go_sem,X.next];refine Qa ?_;simp only[go_sem];refine Qd rfl ?_ ?_
        ·intro hc;obtain⟨blk,hblk⟩:∃blk,u.blocks[bi]=blk:=⟨_,rfl⟩;have hbok2:=huok.bs _ (Jc hbi);have hbsm2:=husm.bs _ (Jc hbi);rw[hblk]at hbok2 hbsm2;have hbp:=hbsm2.p;have hbr:(u.blocks.map UBlk.row).getD bi []=[blk.pc,blk.ic,.int .i64 blk.jump,.int .i64 blk.on,.sl blk.nfl 1 (Qe blk.next)]:=(by rw[←hblk];simp[Jb,hbi,UBlk.row]);have hpcow:=hbok2.p.isOw;have hbl5:(u.blocks.map UBlk.row).length=u.blocks.length:=(by simp);have kn:Kn H H14 [(R.l,R.o (k2+1+1+1+q))] (([(yb,.vec 5 (u.blocks.map UBlk.row))]++([(x8,.st [.int .i64 to,ac])]++([(x2,.st [.sl true 3 []]),(x3,.st [cc])]++(blk.core++(al++(Qavy us ci bi hci++cl))))))++blk.pl):=kn.perm (Qn fun f hf h0 hc1 hp=>by
          have h1:=hp _ _ (Qbrf us ci bi hci (by rw[hu];exact hbi));subst hu;rw[hblk,hbl]at h1;simp only[hf]at h1⊢;omega)
         have hyb:=kn.l 0 rfl;have hx8:=kn.l 1 rfl;have hmem4:∀p∈cl,p∈(([(yb,Obj.vec 5 (u.blocks.map UBlk.row))]++([(x8,Obj.st [.int .i64 to,ac])]++([(x2,Obj.st [.sl true 3 []]),(x3,Obj.st [cc])]++(blk.core++(al++(Qavy us ci bi hci++cl))))))++blk.pl):=fun p hp=>(by simp[hp]);have hsok:=eq_true (hgr.slcM kn hmem4).ok;have hrws:=(hgr.slcM kn hmem4).rows;obtain⟨ph,hph⟩:∃ph:UPhi,ph=⟨to,ns,ac,al⟩:=⟨_,rfl⟩;have hphr:[C.int IntKind.i64 to,ac]=ph.row:=(by rw[hph];rfl);have hphl:ph.al=al:=(by rw[hph]);have hphg:Gr ph.al 1 (Qe ph.ns) ph.ac:=(by rw[hph];exact hga);rw[hbc]at hrow hblow hblen;have hgp:=hbok2.p;have htk:List.take u.blocks.length (u.blocks.map UBlk.row)=u.blocks.map UBlk.row:=Jd (by simp);refine Qbh ?_;simp only[go_sem,hx8,hacow,hcow,hsok,hlen,hsz,hci,hrws,hrow,hyb,hbi,hbl5,htk,hbr,hpcow,Jp,Jae,Jg];rw[hphr];refine kn.grow (new:=[ph.row]) hgp (.mk' _ _ _ _) (by intro r hr;simp only[Ja]at hr;subst hr;exact ph.noOw hphg) (by simp only[Je,Jl,Jn,LIM];omega) fun z H15 kn=>?_;have kn:Kn H H15 [(R.l,R.o (k2+1+1+1+q))] ([(yb,.vec 5 (u.blocks.map UBlk.row))]++(([(x8,.st [.int .i64 to,ac])]++([(x2,.st [.sl true 3 []]),(x3,.st [cc])]++(blk.core++(al++(Qavy us ci bi hci++cl)))))++[(z,.vec 2 ((blk.phis++[ph]).map UPhi.row))])):=by
          simpa[Jj]using kn
         have hyb:=kn.l 0 rfl;have hmem5:∀p∈cl,p∈([(yb,Obj.vec 5 (u.blocks.map UBlk.row))]++(([(x8,Obj.st [.int .i64 to,ac])]++([(x2,Obj.st [.sl true 3 []]),(x3,Obj.st [cc])]++(blk.core++(al++(Qavy us ci bi hci++cl)))))++[(z,.vec 2 ((blk.phis++[ph]).map UPhi.row))])):=fun p hp=>(by simp[hp]);have hsok:=eq_true (hgr.slcM kn hmem5).ok;have hrws:=(hgr.slcM kn hmem5).rows;simp only[go_sem,Qaba,hcow,hsok,hlen,hsz,hci,hrws,hrow,hyb,hbi,hbl5,htk,hbr,hpcow,Jp,Jg];intro H16 h16;obtain⟨b',hb'⟩:∃b':UBlk,b'={ blk with phis:=blk.phis++[ph],pc:=.vsl z 2 0 ((blk.phis.map UPhi.row).length+1),pl:=[(z,.vec 2 ((blk.phis++[ph]).map UPhi.row))] }:=⟨_,rfl⟩;have hbr':[C.vsl z 2 0 ((blk.phis.map UPhi.row).length+1),blk.ic,C.int IntKind.i64 blk.jump,C.int IntKind.i64 blk.on,C.sl blk.nfl 1 (Qe blk.next)]=b'.row:=(by rw[hb'];rfl);have hbset:(u.blocks.map UBlk.row).set bi b'.row=(u.blocks.set bi b').map UBlk.row:=(by rw[Jt]);rw[hbr',hbset]at h16;have kn:=kn.stL 0 rfl h16;have hbok':b'.ok:=by
          rw[hb'];refine⟨.mk _ _ _ (by simp),hbok2.i,fun p hp=>?_⟩;rcases Jm.1 hp with h|h
          ·exact hbok2.a p h
          ·simp only[Ja]at h;subst h;exact hphg
         have hbsm':b'.sm (N+1):=by
          rw[hb'];refine⟨hbsm2.n,hbsm2.i,by simp;omega,hbsm2.ia,fun p hp=>?_⟩;rcases Jm.1 hp with h|h
          ·exact hbsm2.pa p h
          ·simp only[Ja]at h;subst h;rw[hph];show ns.length≤1000;omega
         obtain⟨u',hu'⟩:∃u',u'=u.put bi b' [(yb,.vec 5 ((u.blocks.set bi b').map UBlk.row))]:=⟨_,rfl⟩;have huok':u'.ok:=(by rw[hu'];exact UCode.put_ok huok hbok' hbl);have husm':u'.sm (N+1):=(by rw[hu'];exact UCode.put_sm husm hbsm');have hkn:Kn H H16 [(R.l,R.o (k2+1+1+1+q))] ((([(x2,.st [.sl true 3 []]),(x3,.st [cc])]++(us.set ci u').flatMap UCode.lg)++cl)++[(x8,.st [.int .i64 to,ac])]):=kn.perm (Qn fun f hf h0 hc1 hp=>by
          have h1:=hp _ _ (Qbuh us ci bi hci (by rw[hu];exact hbi) b' [(yb,.vec 5 ((u.blocks.set bi b').map UBlk.row))]);rw[hu,←hu']at h1;have h2:b'.core=blk.core++al:=(by rw[hb',UBlk.core_snoc,hphl]);have h3:b'.pl=[(z,.vec 2 ((blk.phis++[ph]).map UPhi.row))]:=(by rw[hb']);rw[h2,h3]at h1;simp only[Jr,Jq,Ju,hf,hc1 _ (_::_),hc1 _ (_++_)]at h1⊢;omega)
         refine hn _ _ ⟨k2+1+1+1+q,us.set ci u',by simpa using hui,by omega,by omega,fun v hv=>?_,?_,hkn.drop,rfl,rfl,rfl,rfl⟩
         ·rcases J1 hv with hv|rfl
          ·exact⟨(hok v hv).1,(hok v hv).2.mono (by omega)⟩
          ·exact⟨huok',husm'⟩
         ·rw[Qbui us ci hci u' (by rw[hu',UCode.put_row,hu])];exact hgr
        ·intro hc;refine Qi ?_;simp only[go_sem];refine hn _ _ ⟨k2+1+1+1+q,us,hui,by omega,by omega,fun u hu=>⟨(hok u hu).1,(hok u hu).2.mono (by omega)⟩,hgr,?_,rfl,rfl,rfl,rfl⟩;have kn:=kn.drop;exact (kn.perm Ji).drop
     rintro e2 H8 ⟨k3,us,hui,hk5,hk6,hok,hgr,kn,l0,l2,l3,l5⟩;refine Qq ?_;simp only[go_sem,X.next,l0,l2,l3,l5];refine⟨Qp (by omega) (by omega),t-1,by omega,t-1,k3,N+1,us,rfl,by omega,hui,hk5,by omega,hok,hgr,kn,?_⟩;have:(t:Int)-1=((t-1:Nat):Int):=(by omega);rw[this]
    ·intro hc;refine Qs ?_;simp only[go_sem,X.next];have hx2:=kn.l 0 rfl;refine Qa ?_;simp only[go_sem,hx2,hx3,hcow];intro H8 h8;have kn:=kn.stL 0 rfl h8;have hx2:=kn.l 0 rfl;refine Qk ?_;simp only[go_sem,Q7,Qad,Qbdb,reduceIte,Ja,forall_eq,RS.op,hx2,hcow];have hheld:Held H8 (un H) (us.flatMap UCode.lg++cl):=fun p hp=>by
      have hp2:p∈(([(x2,Obj.st [cc]),(x3,Obj.st [cc])]++us.flatMap UCode.lg)++cl):=by
       rcases Jm.1 hp with h|h
       ·simp[h]
       ·simp[h]
      exact⟨(kn.get p (Jh _ hp2)).1,Qeb (kn.loc p hp2)⟩
     obtain⟨cs,hf,hcn,hcs⟩:=UCodes.frz (N:=N) (by omega) hgr hok hheld;exact⟨_,FrzL.ag (.cons hf .nil),hK cs _ k2 hk3 (by omega) kn.fin (by omega) (by omega) hcs⟩
end Go.AE.Y
namespace Go.AE
open Go.AE.Y
open Go.Proofs.Tryz
variable {H:Heap}{K:V→Heap→Prop}
theorem Kn.lm {H0 H:Heap}{E L:List (Nat×Obj)}{x:Nat}{o:Obj}(kn:Kn H0 H E L)(h:(x,o)∈L):H x=o:=(kn.get (x,o) (Jh _ h)).1
end Go.AE
namespace Go.AE.Y
open Go.Proofs.Tryz
variable {H:Heap}{K:V→Heap→Prop}
set_option maxHeartbeats 4000000 in
theorem Qboy {R:Rdr}{k:Nat}(hH:H R.l=R.o k)(hk:k+20000≤2^40)
  (hK:∀(cs:List CodeD) (H':Heap) (k':Nat),k<k'→k'≤k+20000→Upd H H' [(R.l,R.o k')]→0<cs.length→cs.length≤3→(∀c∈cs,c.gd)→K (.ag [.sl false 3 (Ql cs)]) H') :
  Qu prog Qae5 [.c (.ptr R.l 0)] H K:=by
 refine Qt ?_;refine Qb Qam Qbph ?_;refine Qa ?_;simp only[go_sem];intro x2 hx2 H1 h1;have kn:=(Kn.start1 hH (R.o_ne k)).al hx2 h1;refine Qa ?_;simp only[go_sem];refine Qbcw (kn.e 0 rfl) (by omega) fun cs H2 k1 hk1 hk2 hu hcs0 hcs3 hsm=>?_;have kn:=kn.callE 0 rfl hu (R.o_ne _);simp only[go_sem,Qai4];refine Qawl hsm (by omega) fun us cc cl H3 k2 hgr hok hul=>?_;have kn:=kn.comp0 k2;have hcow:=hgr.isOw;simp only[go_sem,Qai3,hcow];intro x3 hx3 H4 h4;have kn:=kn.al hx3 h4;have kn:=kn.perm Ji;have hx3:=kn.l 0 rfl;simp only[go_sem,Qai2,hx3,hcow];intro H5 h5;have kn:=kn.stL 0 rfl h5;have kn:Kn H H5 [(R.l,R.o k1)] (([(x2,.st [.sl true 3 []]),(x3,.st [cc])]++us.flatMap OCode.lg)++cl):=kn.perm (Qn fun f hf h0 hc1 hp=>by
  simp only[Jr,Jq,Ju,hf,hc1 _ (_::_),hc1 _ (_++_),hc1 _ (List.flatMap _ _)];omega)
 have hx3:=kn.l 1 rfl;have hs:=hgr.slc kn;have hsok:=eq_true hs.ok;have hlen:=hs.len;have hsz:=hs.sz;rw[Je]at hlen;refine Qak ?_;simp only[go_sem,hx3,hcow,hsok,hlen];refine Qbd (kn.e 0 rfl) (by omega) fun v H6 hv hu=>?_;have kn:=kn.callE 0 rfl hu (R.o_ne _);rw[if_neg (by omega)]at hv;obtain⟨ci,rfl⟩:=Jo hv.1;have hci:ci<us.length:=by omega
 have hx3:=kn.l 1 rfl;have hs:=hgr.slc kn;have hsok:=eq_true hs.ok;have hrws:=hs.rows;simp only[go_sem,Qai5,hx3,hcow,hsok,hlen,hsz,hci];obtain⟨u,hu⟩:∃u,us[ci]=u:=⟨_,rfl⟩;obtain⟨huok,husm⟩:=hok _ (Jc hci);rw[hu]at huok husm;have hrow:(us.map OCode.row).getD ci []=[.int .i64 u.params,.int .i64 u.regs,u.bc]:=by rw[←hu];simp[Jb,hci,OCode.row]
 have hub0:=husm.b0;have hub1:=husm.b;obtain⟨yb,hbc,hbl⟩:=OCode.bvec huok hub0;have hblow:(C.vsl yb 5 0 u.blocks.length).isOw=false:=rfl;have hblen:lenC (C.vsl yb 5 0 u.blocks.length)=u.blocks.length:=rfl;rw[hbc]at hrow;have hybm:(yb,Obj.vec 5 (u.blocks.map OBlk.row))∈(([(x2,Obj.st [.sl true 3 []]),(x3,.st [cc])]++us.flatMap OCode.lg)++cl):=by
  have:(yb,Obj.vec 5 (u.blocks.map OBlk.row))∈us.flatMap OCode.lg:=Jad.2 ⟨u,by rw[←hu];exact Jc hci,Jh _ (by rw[hbl];simp)⟩;simp[this]
 have hyb:=kn.lm hybm;have hbl5:(u.blocks.map OBlk.row).length=u.blocks.length:=by simp
 have htk:List.take u.blocks.length (u.blocks.map OBlk.row)=u.blocks.map OBlk.row:=Jd (by simp);refine Qak ?_;simp only[go_sem,hcow,hsok,hlen,hsz,hci,hrws,hrow,hyb,hbl5,Jg,Jf];refine Qbd (kn.e 0 rfl) (by omega) fun v H7 hv hu7=>?_;have kn:=kn.callE 0 rfl hu7 (R.o_ne _);rw[if_neg (by omega)]at hv;obtain⟨bi,rfl⟩:=Jo hv.1;have hbi:bi<u.blocks.length:=by omega
 have hs:=hgr.slc kn;have hsok:=eq_true hs.ok;have hrws:=hs.rows;have hyb:=kn.lm hybm;simp only[go_sem,Qai6,hcow,hsok,hlen,hsz,hci,hrws,hrow,hyb,hbl5,hbi,Jg,Jf];refine Qak ?_;simp only[go_sem,hcow,hsok,hlen,hsz,hci,hrws,hrow,hyb,hbl5,hbi,Jg,Jf];refine Qls (ns:=[-1,u.regs,u.blocks.length,0,1]) (kn.e 0 rfl) (by omega) (by simp) fun bad H8 _ hu8=>?_;have kn:=kn.callE 0 rfl hu8 (R.o_ne _);simp only[go_sem,Qai7];refine Q5 ?_;refine Qa ?_;simp only[go_sem];refine Qbd (kn.e 0 rfl) (by omega) fun kind H9 _ hu9=>?_;have kn:=kn.callE 0 rfl hu9 (R.o_ne _);refine Qcq (fun e2 H2=>∃(k3:Nat) (us:List OCode) (cl:List (Nat×Obj)),us.length=cs.length∧k<k3∧k3≤k+20000∧(∀u∈us,u.ok∧u.sm 1001)∧Gr cl 3 (us.map OCode.row) cc∧
   Kn H H2 [(R.l,R.o k3)] (([(x2,.st [.sl true 3 []]),(x3,.st [cc])]++us.flatMap OCode.lg)++cl)∧lk 2 e2=.c (.ptr x2 0)∧lk 3 e2=.c (.ptr x3 0)) ?_ ?_
 ·intro Q hn _ _;have hull:us.length=cs.length:=hul;have knO:=kn;obtain⟨blk,hblk⟩:∃blk,u.blocks[bi]=blk:=⟨_,rfl⟩;have hbok:=huok.bs _ (Jc hbi);have hbsm:=husm.bs _ (Jc hbi);rw[hblk]at hbok hbsm;have hbr:(u.blocks.map OBlk.row).getD bi []=[blk.pc,blk.ic,.int .i64 blk.jump,.int .i64 blk.on,.vsl blk.nx.y 1 0 blk.nx.ns.length]:=by rw[←hblk];simp[Jb,hbi,OBlk.row,OInts.c]
  have hpcow:=hbok.p.isOw;have hicow:=hbok.i.isOw;have kn:=Qbds kn hci hu hbi hblk hbl;have hset:∀b':OBlk,(u.blocks.map OBlk.row).set bi b'.row=(u.blocks.set bi b').map OBlk.row:=fun b'=>(Jt).symm;have hdone:∀(b':OBlk) (H2:Heap) (k3:Nat) (e2:Env),b'.ok→b'.sm 1001→k<k3→k3≤k+20000→Kn H H2 [(R.l,R.o k3)] ([(yb,.vec 5 ((u.blocks.set bi b').map OBlk.row))]++(b'.lg++(Qal0 us ci bi hci++([(x2,Obj.st [.sl true 3 []]),(x3,.st [cc])]++cl))))→
    lk 2 e2=.c (.ptr x2 0)→lk 3 e2=.c (.ptr x3 0)→Q .nrm e2 H2:=by
   intro b' H2 k3 e2 h1 h2 h3 h4 kn l2 l3;obtain⟨us',g1,g2,g3,g4⟩:=Qbhu (N:=1000) hci hu hbi hbl hok h1 h2 hgr kn;exact hn _ _ ⟨k3,us',cl,by omega,h3,h4,g3,g2,g4,l2,l3⟩
  have hsame:∀e2:Env,lk 2 e2=.c (.ptr x2 0)→lk 3 e2=.c (.ptr x3 0)→Q .nrm e2 H9:=fun e2 l2 l3=>
   hn _ _ ⟨_,us,cl,hul,by omega,by omega,fun u hu=>⟨(hok u hu).1,(hok u hu).2.mono (by omega)⟩,hgr,knO,l2,l3⟩
  refine Qc ?_;refine Qa ?_;simp only[go_sem];have hsok:=eq_true (hgr.slcM kn (fun p hp=>by simp[hp])).ok;have hrws:=(hgr.slcM kn (fun p hp=>by simp[hp])).rows;have hyb:=kn.l 0 rfl;refine Qd rfl ?_ ?_
  ·intro hc;refine Qq ?_;simp only[go_sem];refine Qbd (kn.e 0 rfl) (by omega) fun v H10 _ hu10=>?_;have kn:=kn.callE 0 rfl hu10 (R.o_ne _);have hyb:=kn.l 0 rfl;simp only[go_sem,Qai8,hyb,hbl5,htk,hbi,hbr,hpcow,hicow,Qb5,Jp,Jg,Jf];intro H11 h11;have hb':[blk.pc,blk.ic,C.int IntKind.i64 v,C.int IntKind.i64 blk.on,C.vsl blk.nx.y 1 0 blk.nx.ns.length]=({ blk with jump:=v }:OBlk).row:=rfl;rw[hb',hset]at h11;exact hdone { blk with jump:=v } _ _ _ ⟨hbok.p,hbok.i,hbok.a⟩ ⟨hbsm.n,hbsm.i,by have:=hbsm.p;show blk.phis.length≤_;omega,fun x hx=>by have:=hbsm.ia x hx;omega⟩ (by omega) (by omega) (kn.stL 0 rfl h11) (by simp[lk]) (by simp[lk])
  intro hc0;refine Qa ?_;simp only[go_sem];refine Qd rfl ?_ ?_
  ·intro hc;have hny:H9 blk.nx.y=.vec 1 (Qe blk.nx.ns):=kn.l 1 rfl;have htk2:List.take blk.nx.ns.length (Qe blk.nx.ns)=Qe blk.nx.ns:=Jd (by simp[Qg]);refine Qa ?_;simp only[go_sem,hyb,hbl5,htk,hbi,hbr,hpcow,hicow,Qb5,Jp,Jg,Jf,hny,Qg];intro _;refine Qd rfl ?_ ?_
   ·intro hc2;have hn0:0<blk.nx.ns.length:=(by simpa using hc2);have hg1:=Q0 blk.nx.ns 0 hn0;refine Qq ?_;simp only[go_sem,hyb,hbl5,htk,hbi,hbr,hpcow,hicow,Qb5,Jp,Jg,Jf,hny,hn0,hg1,htk2,Qg];refine⟨by omega,fun H11 h11=>?_⟩;have hs1:(Qe blk.nx.ns).set 0 [C.int IntKind.i64 bad]=Qe (blk.nx.ns.set 0 bad):=(by simp[Qe,Jt]);rw[hs1]at h11;have kn:Kn H H11 [(R.l,R.o (k1+1+1+1+1))] ([(yb,.vec 5 (u.blocks.map OBlk.row))]++(OBlk.lg { blk with nx:=⟨blk.nx.ns.set 0 bad,blk.nx.y⟩ }++(Qal0 us ci bi hci++([(x2,Obj.st [.sl true 3 []]),(x3,.st [cc])]++cl)))):=kn.stL 1 rfl h11;refine hdone { blk with nx:=⟨blk.nx.ns.set 0 bad,blk.nx.y⟩ } _ (k1+1+1+1+1) _ ⟨hbok.p,hbok.i,hbok.a⟩ ⟨by simpa using hbsm.n,hbsm.i,by have:=hbsm.p;show blk.phis.length≤_;omega,fun x hx=>by have:=hbsm.ia x hx;omega⟩ (by omega) (by omega) ?_ (by simp[lk]) (by simp[lk]);rw[Qad5 hbi (by rw[hblk];simp[OBlk.row,OInts.c])];exact kn
   ·intro hc2;refine Qi ?_;exact hsame _ (by simp[lk]) (by simp[lk])
  intro hc1;refine Qa ?_;simp only[go_sem];refine Qd rfl ?_ ?_
  ·intro hc;refine Qq ?_;simp only[go_sem,hyb,hbl5,htk,hbi,hbr,hpcow,hicow,Qb5,Jp,Jg,Jf];intro H11 h11;have hb':[blk.pc,blk.ic,C.int IntKind.i64 blk.jump,C.int IntKind.i64 bad,C.vsl blk.nx.y 1 0 blk.nx.ns.length]=({ blk with on:=bad }:OBlk).row:=rfl;rw[hb',hset]at h11;exact hdone { blk with on:=bad } _ _ _ ⟨hbok.p,hbok.i,hbok.a⟩ ⟨hbsm.n,hbsm.i,by have:=hbsm.p;show blk.phis.length≤_;omega,fun x hx=>by have:=hbsm.ia x hx;omega⟩ (by omega) (by omega) (kn.stL 0 rfl h11) (by simp[lk]) (by simp[lk])
  intro hc2;refine Qa ?_;simp only[go_sem];have hilen:lenC blk.ic=blk.ins.length:=by rw[hbok.i.lenC];simp
  have hiok:okSl H9 blk.ic=True:=eq_true (hbok.i.slcM kn (fun p hp=>by simp[OBlk.lg,hp])).ok;refine Qd rfl ?_ ?_
  ·intro hc;refine Qa ?_;simp only[go_sem,hyb,hbl5,htk,hbi,hbr,hpcow,hicow,Qb5,Jp,Jg,Jf,hilen,hiok];intro _;refine Qd rfl ?_ ?_
   ·intro hc2;have hn0:0<blk.ins.length:=(by simpa using hc2);obtain⟨yi,hic,hil⟩:=OBlk.ivec hbok hn0;rw[hic]at hbr;have knI:=Qarp kn hil;have hyi:=knI.l 0 rfl;obtain⟨x,hx⟩:∃x,blk.ins[0]=x:=⟨_,rfl⟩;have hxr:(blk.ins.map OIns.row).getD 0 []=[.int .i64 x.op,.int .i64 x.to,.vsl x.a.y 1 0 x.a.ns.length,.int .i64 x.n]:=(by rw[←hx];simp[Jb,hn0,OIns.row,OInts.c]);have hil4:(blk.ins.map OIns.row).length=blk.ins.length:=(by simp);have htk4:List.take blk.ins.length (blk.ins.map OIns.row)=blk.ins.map OIns.row:=Jd (by simp);have hxa:x.a.ns.length≤1000:=hbsm.ia x (by rw[←hx];exact Jc hn0);refine Qq ?_;simp only[go_sem,hyb,hbl5,htk,hbi,hbr,hpcow,hicow,Qb5,Jp,Jg,Jf,hyi,hn0,hxr,hil4,htk4];refine⟨by omega,fun H12 h12=>?_⟩;have hr':[C.int IntKind.i64 x.op,C.int IntKind.i64 bad,C.vsl x.a.y 1 0 x.a.ns.length,C.int IntKind.i64 x.n]=({ x with to:=bad }:OIns).row:=rfl;rw[hr',←Jt]at h12;have knD:=Qbio (b:=blk) (is:=blk.ins.set 0 { x with to:=bad }) (knI.stL 0 rfl h12) (Q7y hn0 (by rw[hx];rfl));refine hdone _ _ (k1+1+1+1+1) _ (OBlk.ins_ok (i:=0) (x':={ x with to:=bad }) hbok hic) (OBlk.ins_sm (i:=0) (x':={ x with to:=bad }) hbsm (by show x.a.ns.length≤_;omega)) (by omega) (by omega) ?_ (by simp[lk]) (by simp[lk]);rw[Qad5 hbi (by rw[hblk];rfl)];exact knD
   ·intro hc2;refine Qi ?_;exact hsame _ (by simp[lk]) (by simp[lk])
  intro hc3;refine Qa ?_;simp only[go_sem];refine Qd rfl ?_ ?_
  ·intro hc;refine Qa ?_;simp only[go_sem,hyb,hbl5,htk,hbi,hbr,hpcow,hicow,Qb5,Jp,Jg,Jf,hilen,hiok];intro _;refine Qd rfl ?_ ?_
   ·intro hc2;have hn0:0<blk.ins.length:=(by simpa using hc2);obtain⟨yi,hic,hil⟩:=OBlk.ivec hbok hn0;rw[hic]at hbr;have knI:=Qarp kn hil;have hyi:=knI.l 0 rfl;obtain⟨x,hx⟩:∃x,blk.ins[0]=x:=⟨_,rfl⟩;have hxr:(blk.ins.map OIns.row).getD 0 []=[.int .i64 x.op,.int .i64 x.to,.vsl x.a.y 1 0 x.a.ns.length,.int .i64 x.n]:=(by rw[←hx];simp[Jb,hn0,OIns.row,OInts.c]);have hil4:(blk.ins.map OIns.row).length=blk.ins.length:=(by simp);have htk4:List.take blk.ins.length (blk.ins.map OIns.row)=blk.ins.map OIns.row:=Jd (by simp);have hxa:x.a.ns.length≤1000:=hbsm.ia x (by rw[←hx];exact Jc hn0);refine Qbh ?_;have knA:Kn H H9 [(R.l,R.o (k1+1+1+1+1))] ([(x.a.y,.vec 1 (Qe x.a.ns))]++([(yi,.vec 4 (blk.ins.map OIns.row))]++([(yb,.vec 5 (u.blocks.map OBlk.row))]++(blk.nx.lg++(blk.phis.flatMap OPhi.lg++(blk.pl++((blk.ins.eraseIdx 0).flatMap OIns.lg++(Qal0 us ci bi hci++([(x2,Obj.st [.sl true 3 []]),(x3,.st [cc])]++cl))))))))):=knI.perm (Qn fun f hf h0 hc1 hp=>by
     have h1:=hp _ _ (Qkp OIns.lg blk.ins 0 hn0);rw[hx]at h1;have h2:x.lg=[(x.a.y,.vec 1 (Qe x.a.ns))]:=rfl;rw[h2]at h1;simp only[hf]at h1⊢;omega)
    have hxy:=knA.l 0 rfl;have htk1:List.take x.a.ns.length (Qe x.a.ns)=Qe x.a.ns:=Jd (by simp[Qg]);simp only[go_sem,hyb,hbl5,htk,hbi,hbr,hpcow,hicow,Qb5,Jp,Jg,Jf,hyi,hn0,hxr,hil4,htk4,hxy,Qg,htk1];refine⟨by omega,by simp only[LIM];omega,fun y' hy' H10 h10=>?_⟩;have knA:=knA.ap 0 rfl hy' h10;have hyi:=knA.l 1 rfl;have hyb:=knA.l 2 rfl;simp only[go_sem,Qai9,hyb,hbl5,htk,hbi,hbr,hpcow,hicow,Qb5,Jp,Jg,Jf,hyi,hn0,hxr,hil4,htk4];refine⟨by omega,fun H12 h12=>?_⟩;obtain⟨x',hx'⟩:∃x':OIns,x'={ x with a:=⟨x.a.ns++[bad],y'⟩ }:=⟨_,rfl⟩;have hr':[C.int IntKind.i64 x.op,C.int IntKind.i64 x.to,C.vsl y' 1 0 (x.a.ns.length+1),C.int IntKind.i64 x.n]=x'.row:=(by rw[hx'];simp[OIns.row,OInts.c]);have hl':x'.lg=[(y',.vec 1 (Qe x.a.ns++[[.int .i64 bad]]))]:=(by rw[hx'];simp[OIns.lg,OInts.lg,Qe]);rw[hr',←Jt]at h12;have knA:=knA.stL 1 rfl h12;refine hdone _ _ (k1+1+1+1+1) _ (OBlk.ins_ok (i:=0) (x':=x') hbok hic) (OBlk.ins_sm (i:=0) (x':=x') hbsm (by rw[hx'];simp;omega)) (by omega) (by omega) ?_ (by simp[lk]) (by simp[lk]);rw[Qad5 hbi (by rw[hblk];rfl)];refine knA.perm (Qn fun f hf h0 hc1 hp=>?_);have h1:=hp _ _ (Qho OIns.lg blk.ins 0 x' hn0);rw[hl']at h1;simp only[OBlk.lg,Jr,Jq,Ju,J7,hf,hc1 _ (_::_),hc1 _ (_++_),hc1 _ (List.flatMap _ _)]at h1⊢;omega
   ·intro hc2;refine Qi ?_;exact hsame _ (by simp[lk]) (by simp[lk])
  intro hc4;refine Qa ?_;simp only[go_sem];refine Qd rfl ?_ ?_
  ·intro hc;refine Qq ?_;simp only[go_sem,hyb,hbl5,htk,hbi,hbr,hpcow,hicow,Qb5,Jp,Jg,Jf];have knP:Kn H H9 [(R.l,R.o (k1+1+1+1+1))] (([(yb,.vec 5 (u.blocks.map OBlk.row))]++(blk.nx.lg++(blk.phis.flatMap OPhi.lg++(blk.ins.flatMap OIns.lg++(blk.il++(Qal0 us ci bi hci++([(x2,Obj.st [.sl true 3 []]),(x3,.st [cc])]++cl)))))))++blk.pl):=kn.perm (Qn fun f hf h0 hc1 hp=>by
    simp only[OBlk.lg,hf];omega)
   obtain⟨ph,hph⟩:∃ph:OPhi,ph=⟨0,[bad],.sl true 1 (Qe [bad]),[]⟩:=⟨_,rfl⟩;have hphr:[C.int IntKind.i64 0,C.sl true 1 [[C.int IntKind.i64 bad]]]=ph.row:=by rw[hph];rfl
   have hphok:ph.ok:=by rw[hph];exact .inr ⟨true,rfl,rfl⟩
   have hphl:ph.lg=[]:=by rw[hph]
   have hpl:=hbsm.p;rw[hphr];refine knP.grow (new:=[ph.row]) hbok.p (.mk' _ _ _ _) (by intro r hr;simp only[Ja]at hr;subst hr;exact ph.noOw hphok) (by simp only[Je,Jl,Jn,LIM];omega) fun z H10 knP=>?_;have hyb:=knP.l 0 rfl;simp only[go_sem,Qaag,hyb,hbl5,htk,hbi,hbr,hpcow,hicow,Qb5,Jp,Jg,Jf];intro H11 h11;obtain⟨b',hb'⟩:∃b':OBlk,b'={ blk with phis:=blk.phis++[ph],pc:=.vsl z 2 0 ((blk.phis.map OPhi.row).length+1),pl:=[(z,.vec 2 ((blk.phis++[ph]).map OPhi.row))] }:=⟨_,rfl⟩;have hbr':[C.vsl z 2 0 ((blk.phis.map OPhi.row).length+1),blk.ic,C.int IntKind.i64 blk.jump,C.int IntKind.i64 blk.on,C.vsl blk.nx.y 1 0 blk.nx.ns.length]=b'.row:=by rw[hb'];rfl
   rw[hbr',hset]at h11;have knP:=knP.stL 0 rfl h11;have hbok':b'.ok:=by
    rw[hb'];refine⟨.mk _ _ _ (by simp),hbok.i,fun p hp=>?_⟩;rcases Jm.1 hp with h|h
    ·exact hbok.a p h
    ·simp only[Ja]at h;subst h;exact hphok
   have hbsm':b'.sm 1001:=by
    rw[hb'];exact⟨hbsm.n,hbsm.i,by simp;omega,fun x hx=>by have:=hbsm.ia x hx;omega⟩
   refine hdone b' _ (k1+1+1+1+1) _ hbok' hbsm' (by omega) (by omega) ?_ (by simp[lk]) (by simp[lk]);have hbl':b'.lg=blk.nx.lg++(blk.phis.flatMap OPhi.lg++([(z,.vec 2 ((blk.phis++[ph]).map OPhi.row))]++(blk.ins.flatMap OIns.lg++blk.il))):=by
    rw[hb'];simp[OBlk.lg,Js,hphl]
   rw[hbl'];have hmm:blk.phis.map OPhi.row++[ph.row]=(blk.phis++[ph]).map OPhi.row:=by simp
   rw[hmm]at knP;refine knP.perm (Qn fun f hf h0 hc1 hp=>?_);simp only[Jr,Jq,Ju,J7,hf,hc1 _ (_::_),hc1 _ (_++_),hc1 _ (List.flatMap _ _)];omega
  intro hc5;refine Qa ?_;simp only[go_sem];refine Qd rfl ?_ ?_
  ·intro hc;refine Qbh ?_;simp only[go_sem,hcow,hsok,hlen,hsz,hci,hrws,hrow];refine Qbd (kn.e 0 rfl) (by omega) fun v H10 hv hu10=>?_;have knO:=knO.callE 0 rfl hu10 (R.o_ne _);obtain⟨yc,hcc,hcl⟩:∃yc,cc=.vsl yc 3 0 us.length∧cl=[(yc,.vec 3 (us.map OCode.row))]:=by
    rcases hgr with ⟨h1,h2,h3⟩|⟨y,h1,h2⟩
    ·rw[List.map_eq_nil_iff]at h2;rw[h2]at hci;simp at hci
    ·exact⟨y,by rw[h1];simp,h2⟩
   have hyc:H10 yc=.vec 3 (us.map OCode.row):=knO.lm (by rw[hcl];simp);have hul3:(us.map OCode.row).length=us.length:=by simp
   have htk3:List.take us.length (us.map OCode.row)=us.map OCode.row:=Jd (by simp);have hbcow:=huok.b.isOw;simp only[go_sem,Qaah,hcc,hyc,hul3,htk3,hci,hrow,Qb5,Jp,Jg,Jf];have hp0:=husm.p0;have hp1:=husm.p1;rw[if_neg (by omega)]at hv;refine⟨Qp (by omega) (by omega),fun H11 h11=>?_⟩;obtain⟨u',hu'⟩:∃u':OCode,u'={ u with regs:=u.params+v }:=⟨_,rfl⟩;have hur:[C.int IntKind.i64 u.params,C.int IntKind.i64 (u.params+v),C.vsl yb 5 0 u.blocks.length]=u'.row:=by rw[hu',←hbc];rfl
   have hul':u'.lg=u.lg:=by rw[hu'];rfl
   have huok':u'.ok:=by rw[hu'];exact⟨huok.b,huok.bs⟩
   have husm':u'.sm 1000:=by rw[hu'];exact⟨husm.b0,husm.b,husm.bs,husm.p0,husm.p1⟩
   rw[hur,←Jt]at h11;have knF:Kn H H10 [(R.l,R.o (k1+1+1+1+1+1))] ([(yc,.vec 3 (us.map OCode.row))]++([(x2,Obj.st [.sl true 3 []]),(x3,.st [cc])]++us.flatMap OCode.lg)):=by
    rw[hcl]at knO;exact knO.perm Ji
   have knF:=knF.stL 0 rfl h11;refine hn _ _ ⟨k1+1+1+1+1+1,us.set ci u',[(yc,.vec 3 ((us.set ci u').map OCode.row))],by simpa using hul,by omega,by omega,fun w hw=>?_,?_,?_,by simp[lk],by simp[lk]⟩
   ·rcases J1 hw with hw|rfl
    ·exact⟨(hok w hw).1,(hok w hw).2.mono (by omega)⟩
    ·exact⟨huok',husm'.mono (by omega)⟩
   ·rw[hcc];exact .mk _ _ _ (by simp)
   ·refine knF.perm (Qn fun f hf h0 hc1 hp=>?_);have h1:=hp _ _ (Qho OCode.lg us ci u' hci);have h2:=hp _ _ (Qkp OCode.lg us ci hci);rw[hul']at h1;rw[hu]at h2;simp only[Jr,Jq,Ju,hf,hc1 _ (_::_),hc1 _ (_++_),hc1 _ (List.flatMap _ _)]at h1 h2⊢;omega
  intro hc6;refine Qa ?_;simp only[go_sem];refine Qd rfl ?_ ?_
  ·intro hc;refine Qa ?_;simp only[go_sem,hyb,hbl5,htk,hbi,hbr,hpcow,hicow,Qb5,Jp,Jg,Jf,hilen,hiok];intro _;refine Qd rfl ?_ ?_
   ·intro hc2;have hn0:0<blk.ins.length:=(by simpa using hc2);obtain⟨yi,hic,hil⟩:=OBlk.ivec hbok hn0;rw[hic]at hbr;have knI:=Qarp kn hil;have hyi:=knI.l 0 rfl;obtain⟨x,hx⟩:∃x,blk.ins[0]=x:=⟨_,rfl⟩;have hxr:(blk.ins.map OIns.row).getD 0 []=[.int .i64 x.op,.int .i64 x.to,.vsl x.a.y 1 0 x.a.ns.length,.int .i64 x.n]:=(by rw[←hx];simp[Jb,hn0,OIns.row,OInts.c]);have hil4:(blk.ins.map OIns.row).length=blk.ins.length:=(by simp);have htk4:List.take blk.ins.length (blk.ins.map OIns.row)=blk.ins.map OIns.row:=Jd (by simp);have hxa:x.a.ns.length≤1000:=hbsm.ia x (by rw[←hx];exact Jc hn0);refine Qbh ?_;simp only[go_sem,hyb,hbl5,htk,hbi,hbr,hpcow,hicow,Qb5,Jp,Jg,Jf,hyi,hn0,hxr,hil4,htk4];refine Qls (ns:=[256,-1,1]) (knI.e 0 rfl) (by omega) (by simp) fun v H10 hv hu10=>?_;have knI:=knI.callE 0 rfl hu10 (R.o_ne _);have hyi:=knI.l 0 rfl;have hyb:=knI.l 1 rfl;simp only[go_sem,Qaai,hyb,hbl5,htk,hbi,hbr,hpcow,hicow,Qb5,Jp,Jg,Jf,hyi,hn0,hxr,hil4,htk4];refine⟨by omega,fun H12 h12=>?_⟩;have hr':[C.int IntKind.i64 x.op,C.int IntKind.i64 x.to,C.vsl x.a.y 1 0 x.a.ns.length,C.int IntKind.i64 v]=({ x with n:=v }:OIns).row:=rfl;rw[hr',←Jt]at h12;have knD:=Qbio (b:=blk) (is:=blk.ins.set 0 { x with n:=v }) (knI.stL 0 rfl h12) (Q7y hn0 (by rw[hx];rfl));refine hdone _ _ (k1+1+1+1+1+1) _ (OBlk.ins_ok (i:=0) (x':={ x with n:=v }) hbok hic) (OBlk.ins_sm (i:=0) (x':={ x with n:=v }) hbsm (by show x.a.ns.length≤_;omega)) (by omega) (by omega) ?_ (by simp[lk]) (by simp[lk]);rw[Qad5 hbi (by rw[hblk];rfl)];exact knD
   ·intro hc2;refine Qi ?_;exact hsame _ (by simp[lk]) (by simp[lk])
  ·intro hc;refine Qi ?_;exact hsame _ (by simp[lk]) (by simp[lk])
 ·rintro e2 H10 ⟨k3,us,cl,hul,hk3,hk4,hok,hgr,kn,l2,l3⟩;have hx2:=kn.l 0 rfl;have hx3:=kn.l 1 rfl;refine Qa ?_;simp only[go_sem,hx2,hx3,hcow,l2,l3];intro H8 h8;have kn:=kn.stL 0 rfl h8;have hx2:=kn.l 0 rfl;refine Qk ?_;simp only[go_sem,Q7,Qad,Qbc7,reduceIte,Ja,forall_eq,RS.op,hx2,hcow];have hheld:Held H8 (un H) (us.flatMap OCode.lg++cl):=fun p hp=>by
   have hp2:p∈(([(x2,Obj.st [cc]),(x3,Obj.st [cc])]++us.flatMap OCode.lg)++cl):=by
    rcases Jm.1 hp with h|h
    ·simp[h]
    ·simp[h]
   exact⟨(kn.get p (Jh _ hp2)).1,Qeb (kn.loc p hp2)⟩
  obtain⟨cs,hf,hcn,hcs⟩:=OCodes.frz (N:=1001) (by omega) hgr hok hheld;exact⟨_,FrzL.ag (.cons hf .nil),hK cs _ k3 hk3 (by omega) kn.fin (by omega) (by omega) hcs⟩
end Go.AE.Y
namespace Go.AE.Y
open Go.Proofs.Tryz
theorem Qaru {R : Rdr} {fl : Bool} {ss : List (List UInt8)} : ∀ (d : Nat) {k : Nat} {H : Heap} {K : V → Heap → Prop} (deep : Int), deep ≤ d → H R.l = R.o k → k + 6 * 2^d ≤ 2^40 →
    (∀ (x : Ex) (H' : Heap) (k' : Nat), k < k' → k' + 3 ≤ k + 6 * 2^d → Upd H H' [(R.l, R.o k')] → x.ok → k + x.size ≤ k' → K (.ag x.cells) H') →
    Qu prog Qgk [.c (.ptr R.l 0), .c (.sl fl 1 (Qbs ss)), .c (.int .i64 deep)] H K := by
  intro d
  induction d using Nat.strongRecOn with
  | ind d ih =>
  intro k H K deep hd hH hk hK;have hp1 : 1 ≤ 2^d := J8;have hp0 : d < 2^d := Nat.lt_two_pow_self;refine Qt ?_;refine Qb Qam Qbo8 ?_;refine Qa ?_;simp only [go_sem];intro x hx H1 h1;have kn := (Kn.start1 hH (R.o_ne k)).al hx h1;refine Q5 ?_;refine Qa ?_;simp only [go_sem];have rest : ∀ (b : Bool) (H2 : Heap) (k2 : Nat), k ≤ k2 → k2 ≤ k + 1 → Kn H H2 [(R.l, R.o k2)] [(x, .st [.int .i64 0, .int .i64 0, .str [], .sl true 4 []])] → (b = false → 2 ≤ deep) →
      Qah prog (s_l2Expr_2.seq Qahe) (Q7 Qad9 fun x H' => ∃ x', FrzV H' (un H) x x' ∧ K x' (H'.frz (un H)))
       [(0, V.c (C.ptr R.l 0)), (1, V.c (C.sl fl 1 (Qbs ss))), (2, .c (.int .i64 deep)), (6, V.c (C.ptr x 0)), (14, V.c (.bool b))] H2 := by
    intro b H2 k2 hk1 hk2 kn hb;have fin : ∀ (op n : Int) (name : List UInt8) (fl : Bool) (kids : List Ex) (H3 : Heap) (k3 : Nat) (o : Obj), k < k3 → k3 + 3 ≤ k + 6 * 2^d → Kn H H3 [(R.l, R.o k3)] [(x, .st [.int .i64 op, .int .i64 n, .str name, .sl fl 4 (Qbv kids)])] →
        (op = 10 → kids.length = 2) → Qes kids → k + 1 + Qal kids ≤ k3 →
        Qad Qad9 [(6, V.c (C.ptr x 0))] H3 fun x H' => ∃ x', FrzV H' (un H) x x' ∧ K x' (H'.frz (un H)) := by
      intro op n name fl kids H3 k3 o g1 g2 kn g3 g4 g5;have hx3 := kn.l 0 rfl;simp only [go_sem, Qad, Qad9, reduceIte, Ja, forall_eq, RS.op, hx3];refine ⟨_, (Ex.mk op n name kids).frz, hK _ _ k3 g1 g2 kn.fin ?_ ?_⟩
      · simp only [Ex.ok]; exact ⟨g3, g4⟩
      · simp only [Ex.size]; omega
    refine Qh (Qd rfl ?_ ?_)
    · intro hb';refine Qa ?_;simp only [go_sem];refine Qbov (kn.e 0 rfl) (by omega) fun y H3 k3 g1 g2 hu hok hsz => ?_;have kn := kn.callE 0 rfl hu (R.o_ne _);have hx3 := kn.l 0 rfl;simp only [go_sem, Qahf, hx3, y.cells_eq];intro H4 h4;have kn := kn.stL 0 rfl h4;refine Qk ?_;simp only [go_sem, Q7];refine fin _ _ _ _ _ _ k3 .none (by omega) (by omega) kn (Ex.ok_and hok) (Ex.ok_kids hok) ?_;have := y.size_kids; omega
    · intro hb';have hdp := hb hb';have hp : 2^d = 2 * 2^(d-1) := (by rw [← Nat.pow_succ']; congr 1; omega);have hp2 : 1 ≤ 2^(d-1) := J8;have ihd := fun {k H K} => @ih (d-1) (by omega) k H K;generalize 2^(d-1) = e at *;refine Qi ?_;simp only [go_sem];refine Q5 ?_;refine Qa ?_;simp only [go_sem];refine Qbd (kn.e 0 rfl) (by omega) fun v H3 hv hu => ?_;have kn := kn.callE 0 rfl hu (R.o_ne _);simp only [go_sem, Qahg];refine Qh (Qd rfl ?_ ?_)
      · intro hc;refine Qa ?_;simp only [go_sem];refine Qls (ns := [11, 12, 11]) (kn.e 0 rfl) (by omega) (by simp) fun op H4 hop hu => ?_;have kn := kn.callE 0 rfl hu (R.o_ne _);simp only [go_sem, Qahi];refine ⟨Qp (by omega) (by omega), ?_⟩;refine ihd (deep - 1) (by omega) (kn.e 0 rfl) (by omega) fun y H5 k5 g1 g2 hu hok hsz => ?_;have kn := kn.callE 0 rfl hu (R.o_ne _);have hx5 := kn.l 0 rfl;simp only [go_sem, Qahh, hx5, y.cells_len];intro H6 h6;have kn := kn.stL 0 rfl h6;refine Qk ?_;simp only [go_sem, Q7];refine fin op 0 [] true [y] _ k5 .none (by omega) (by omega) kn (fun h => ?_) ⟨hok, trivial⟩ ?_
        · subst h; simp at hop
        · simp only [Qal]; omega
      · intro hc;refine Qi ?_;simp only [go_sem];refine Qa ?_;simp only [go_sem];refine Qls (ns := [3, 3, 4, 5, 6, 7, 8, 9, 10]) (kn.e 0 rfl) (by omega) (by simp) fun op H4 hop hu => ?_;have kn := kn.callE 0 rfl hu (R.o_ne _);simp only [go_sem, Qahj];refine Qa ?_;simp only [go_sem];refine ⟨Qp (by omega) (by omega), ?_⟩;refine ihd (deep - 1) (by omega) (kn.e 0 rfl) (by omega) fun y H5 k5 g1 g2 hu hok hsz => ?_;have kn := kn.callE 0 rfl hu (R.o_ne _);simp only [go_sem, Qahl];refine ⟨Qp (by omega) (by omega), ?_⟩;refine ihd (deep - 1) (by omega) (kn.e 0 rfl) (by omega) fun z H6 k6 g3 g4 hu hok2 hsz2 => ?_;have kn := kn.callE 0 rfl hu (R.o_ne _);have hx5 := kn.l 0 rfl;simp only [go_sem, Qahk, hx5, y.cells_len, z.cells_len];intro H7 h7;have kn := kn.stL 0 rfl h7;refine Qk ?_;simp only [go_sem, Q7];refine fin op 0 [] true [y, z] _ k6 .none (by omega) (by omega) kn (fun h => rfl) ⟨hok, hok2, trivial⟩ ?_;simp only [Qal]; omega
  refine ⟨fun hb => ?_, fun hb => ?_⟩
  · refine Qbd (kn.e 0 rfl) (by omega) fun v H2 hv hu => ?_;have kn := kn.callE 0 rfl hu (R.o_ne _);simp only [go_sem, Q0k];refine rest _ H2 (k + 1) (by omega) (by omega) kn ?_;intro h;have : ¬ deep < 2 := (by simpa using hb);omega
  · have hb2 : decide (deep < 2) = true := (by simpa using hb);simp only [go_sem, Q0k, hb2];exact rest true H1 k (by omega) (by omega) kn (fun h => by simp at h)
theorem Qarv {R:Rdr}{gl k:Nat}{s:GS}{H:Heap}{K:V→Heap→Prop}(hR:H R.l=R.o k)(hG:H gl=s.o R)(hne:R.l≠gl)(hs:s.ok k)(hk:k+2≤2^30)
  (hK:∀(name:List UInt8) (H':Heap) (k':Nat),k+1≤k'→k'≤k+2→Upd H H' [(R.l,R.o k'),(gl,GS.o { s with next:=s.next+1 } R)]→K (.c (.str name)) H') :
  Qu prog Qks [.c (.ptr gl 0)] H K:=by
 have h0:=hs.n0;have h1':=hs.n1;refine Qt ?_;refine Qb Qam Qar7 ?_;refine Qa ?_;simp only[go_sem];refine Qa ?_;simp only[go_sem,hG,GS.o];refine⟨Qp (by omega) (by omega),fun H1 h1=>?_⟩;have kn:Kn H H1 [(R.l,R.o k),(gl,GS.o { s with next:=s.next+1 } R)] []:=(Kn.start2 hR (R.o_ne k) hG (s.o_ne R) hne).stE 1 rfl h1;have hG1:=kn.e 1 rfl;refine Q5 ?_;refine Qa ?_;simp only[go_sem,hG1,GS.o];refine Qbd (kn.e 0 rfl) (by omega) fun v H2 hv hu=>?_;have kn:=kn.callE 0 rfl hu (R.o_ne _);have hG2:=kn.e 1 rfl;simp only[go_sem,Qpf,hG2,GS.o];intro hl;refine Qh (Qd rfl ?_ ?_)
 ·intro hc;have hv0:0<s.vars.length:=by
   rw[Qav]at hc;cases h:decide (v=0) <;> rw[h]at hc <;> simp_all
  refine Qak ?_;simp only[go_sem,hG2,GS.o];refine of_c (kn.e 0 rfl) (by omega) hv0 fun name H3 hn hu=>?_;have kn:=kn.callE 0 rfl hu (R.o_ne _);simp only[go_sem,Qpg];refine Qk ?_;simp only[go_sem,Q7,Qad,Qn7,reduceIte,Ja,forall_eq,RS.op];exact⟨_,.c _ _ (Qf rfl),hK _ _ (k+1+1) (by omega) (by omega) kn.fin⟩
 ·intro hc;refine Qi ?_;simp only[go_sem];refine Qak ?_;have e1:0≤(s.next+1).tmod 24:=J4 _ (by omega);have e2:(s.next+1).tmod 24<24:=J0 _ (by omega);simp only[go_sem,hG2,GS.o];refine⟨by omega,by omega,Qp (by omega) (by omega),by omega,?_⟩;refine Qk ?_;simp only[go_sem,Q7,Qad,Qn7,reduceIte,Ja,forall_eq,RS.op];exact⟨_,.c _ _ (Qf rfl),hK _ _ (k+1) (by omega) (by omega) kn.fin⟩
theorem Qafe {R:Rdr}{gl k:Nat}{s:GS}{x:Ex}{fl:Bool}{H:Heap}{K:V→Heap→Prop}(hR:H R.l=R.o k)(hG:H gl=s.o R)(hne:R.l≠gl)(hs:s.ok k)(hk:k+2≤2^30)
  (hK:∀(name:List UInt8) (H':Heap) (k':Nat),k+1≤k'→k'≤k+2→Upd H H' [(R.l,R.o k'),(gl,GS.o { s with next:=s.next+1,vars:=s.vars++[name],vfl:=false } R)]→K (.ag (St.mk 1 name [x] [] []).cells) H') :
  Qu prog Qjt [.c (.ptr gl 0),.ag [.int .i64 x.op,.int .i64 x.n,.str x.name,.sl fl 4 (Qbv x.kids)]] H K:=by
 have hv:=hs.v;refine Qdj ?_;refine Qb Qam Qa5k ?_;refine Qa ?_;simp only[go_sem,x.cells_eq];intro y hy H1 h1;have kn:=(Kn.start2 hR (R.o_ne k) hG (s.o_ne R) hne).al hy h1;refine Qa ?_;simp only[go_sem];refine Qarv (kn.e 0 rfl) (kn.e 1 rfl) hne hs hk fun name H2 k' g1 g2 hu=>?_;have kn:=kn.callEE 0 1 rfl rfl (by decide) hu (R.o_ne _) (GS.o_ne _ _);have hG2:=kn.e 1 rfl;simp only[go_sem,Qyq];refine Qa ?_;have hL:s.vars.length≤LIM:=by simp only[LIM];omega
 have hL1:s.vars.length+1≤LIM:=by simp only[LIM];omega
 simp only[go_sem,hG2,GS.o,Qav,Qarb,Jg,Jq,hL];refine⟨.inl trivial,Qov _,?_⟩;intro z hz H3 h3;have kn:=kn.al hz h3;have hz3:=kn.l 1 rfl;have hG3:=kn.e 1 rfl;simp only[go_sem,Qys,hz3,hG3,GS.o,Qav,Qbca,hL1,Jae,Jd];refine⟨by omega,fun z' hz' H4 h4=>?_⟩;have kn:=kn.ap 1 rfl hz' h4;have hG4:=kn.e 1 rfl;simp only[go_sem,Qyr,hG4,GS.o];intro H5 h5;have kn:=kn.stE 1 rfl h5;have hy5:=kn.l 0 rfl;refine Qa ?_;simp only[go_sem,hy5];intro H6 h6;have kn:=kn.stL 0 rfl h6;have hy6:=kn.l 0 rfl;refine Qk ?_;simp only[go_sem,Q7,Qad,Qage,reduceIte,Ja,forall_eq,RS.op,hy6];refine⟨un H,(.ag (St.mk 1 name [x] [] []).cells),(H6.frz (un H)).set gl (GS.o { s with next:=s.next+1,vars:=s.vars++[name],vfl:=false } R),?_,?_,hK name _ k' g1 g2 (kn.fin.set2 hne)⟩
 ·simp only[St.cells,Qbv,Qa6,x.cells_eq];exact (FrzL.cons (Qf rfl) (.cons (Qf rfl) (.cons (FrzR.cons (.cons (Qf rfl) (.cons (Qf rfl) (.cons (Qf rfl) (.cons (FrzR.same (Qlh _)).sl .nil)))) .nil).sl (.cons (FrzR.nil).sl (.cons (FrzR.nil).sl .nil))))).ag
 ·refine (Qe0 _ _).set (Qbcc (kn.usedE 1 rfl)) ?_;rw[kn.e 1 rfl];refine FrzKL.st (.same (.same (.cons rfl ?_ (.same (.same .nil)))));exact Qaro (kn.un 1 rfl) (kn.l 1 rfl) (by simp[Qbs]) (noOw_mem (Qov _))
theorem Qcc {R : Rdr} {gl k : Nat} {s : GS} {H : Heap} {K : V → Heap → Prop} (deep : Int) (hd : deep ≤ 3) (hR : H R.l = R.o k) (hG : H gl = s.o R) (hne : R.l ≠ gl) (hs : s.ok k) (hF : FnsOk H R gl s) (hk : k + 200 ≤ 2^30)
    (hK : ∀ (x : Ex) (H' : Heap) (k' : Nat), k < k' → k' ≤ k + 200 → Upd H H' [(R.l, R.o k')] → x.ok → k + x.size ≤ k' → K (.ag x.cells) H') :
    Qu prog Qbj [.c (.ptr gl 0), .c (.int .i64 deep)] H K := by
  have hfl := hs.fn;refine Qt ?_;refine Qb Qam Qawv ?_;refine Qa ?_;simp only [go_sem];intro x4 hx4 H1 h1;have kn := (Kn.start2 hR (R.o_ne k) hG (s.o_ne R) hne).al hx4 h1;have hG1 := kn.e 1 rfl;refine Qak ?_;simp only [go_sem, hG1, GS.o];refine Qaru 3 deep (by omega) (kn.e 0 rfl) (by omega) fun e H2 k2 g1 g2 hu heok hesz => ?_;have kn := kn.callE 0 rfl hu (R.o_ne _);have hG2 := kn.e 1 rfl;simp only [go_sem, Qtu];intro x5 hx5 H3 h3;have kn := kn.al hx5 h3;have hG3 := kn.e 1 rfl;have hx53 := kn.l 1 rfl;simp only [go_sem, Qtt, hG3, hx53, GS.o, e.cells_len, e.cells_eq];intro H4 h4;have kn := kn.stL 1 rfl h4;have hG4 := kn.e 1 rfl;refine Q5 ?_;refine Qa ?_;simp only [go_sem, hG4, GS.o, hF.ow, hF.ok kn, hF.len];intro hl;have fin : ∀ (op n : Int) (name : List UInt8) (c : C) (kids : List Ex) (H3 : Heap) (k3 : Nat) (L : List (Nat × Obj)), k < k3 → k3 ≤ k + 200 → Kn H H3 [(R.l, R.o k3), (gl, s.o R)] L →
      L[0]? = some (x4, .st [.int .i64 op, .int .i64 n, .str name, c]) → c.isOw = false → FrzC H3 (un H) c (.sl false 4 (Qbv kids)) → (Ex.mk op n name kids).ok → k + (Ex.mk op n name kids).size ≤ k3 →
      Qad Qj3 [(4, V.c (C.ptr x4 0))] H3 fun x H' => ∃ x', FrzV H' (un H) x x' ∧ K x' (H'.frz (un H)) := by
    intro op n name c kids H3 k3 L g1 g2 kn g3 hno g4 g5 g6;have hx3 := kn.l 0 g3;simp only [go_sem, Qad, Qj3, reduceIte, Ja, forall_eq, RS.op, hx3, hno];refine ⟨(.ag (Ex.mk op n name kids).cells), ?_, hK _ _ k3 g1 g2 (kn.fin.drop2 hG) g5 g6⟩;rw [Ex.cells_eq];exact (FrzL.cons (Qf rfl) (.cons (Qf rfl) (.cons (Qf rfl) (.cons g4 .nil)))).ag
  have rest : ∀ (b : Bool) (H2 : Heap) (k3 : Nat), k2 ≤ k3 → k3 ≤ k2 + 1 → Kn H H2 [(R.l, R.o k3), (gl, s.o R)] [(x4, .st [.int .i64 0, .int .i64 0, .str [], .sl true 4 []]), (x5, .st [.int .i64 e.op, .int .i64 e.n, .str e.name, .sl false 4 (Qbv e.kids)])] →
      (b = false → 0 < s.fns.length) →
      Qah prog (s_l3Gen_expr_3.seq Qts) (Q7 Qj3 fun x H' => ∃ x', FrzV H' (un H) x x' ∧ K x' (H'.frz (un H)))
       [(0, V.c (C.ptr gl 0)), (4, V.c (C.ptr x4 0)), (5, V.c (C.ptr x5 0)), (32, .c (.bool b))] H2 := by
    intro b H2 k3 g3 g4 kn hb;have hx52 := kn.l 1 rfl;have hx42 := kn.l 0 rfl;refine Qh (Qd rfl ?_ ?_)
    · intro hb';refine Qa ?_;simp only [go_sem, hx52, hx42];intro H3 h3;have kn := kn.stL 0 rfl h3;refine Qk ?_;simp only [go_sem, Q7]
      cases e with
      | mk op n name kids => exact fin op n name _ kids H3 k3 _ (by omega) (by omega) kn rfl rfl (Qgy (noOw_mem (Qlh _))) heok (by omega)
    · intro hb';have hfn := hb hb';refine Qi ?_;simp only [go_sem];have hG3 := kn.e 1 rfl;refine Qak ?_;simp only [go_sem, hG3, GS.o, hF.ow, hF.ok kn, hF.len];refine Qbd (kn.e 0 rfl) (by omega) fun v H3 hv hu => ?_;have kn := kn.callE 0 rfl hu (R.o_ne _);rw [if_neg (by omega)] at hv;obtain ⟨i, rfl⟩ := Jo hv.1;have hi : i < s.fns.length := (by omega);have hG4 := kn.e 1 rfl;simp only [go_sem, Qtw, hG4, GS.o, hF.ow, hF.ok kn, hF.len, hF.rows kn, hF.esz, hi, Qh0 _ _ hi, Fn.cells];intro x6 hx6 H4 h4;have kn := kn.al hx6 h4;have hG5 := kn.e 1 rfl;have hx64 := kn.l 2 rfl;simp only [go_sem, Qtv, hG5, hx64, GS.o, hF.ow, hF.ok kn, hF.len, hF.rows kn, hF.esz, hi, Qh0 _ _ hi, Fn.cells];have hpar := hs.f _ (Jc hi);generalize s.fns[i] = f at *;intro H5 h5;have kn := kn.stL 2 rfl h5;have hx65 := kn.l 2 rfl;refine Qa ?_;simp only [go_sem, hx65];intro x7 hx7 H6 h6;have kn := kn.al hx7 h6;have hx67 := kn.l 2 rfl;have hx77 := kn.l 3 rfl;simp only [go_sem, Qtx, hx67, hx77];intro H7 h7;have kn := kn.stL 3 rfl h7;refine Q5 ?_;refine Qa ?_;simp only [go_sem];refine Qh (Qc (Qv (fun n e1 H1 => ∃ (i k4 : Nat) (kids : List Ex) (c : C) (Lg : List (Nat × Obj)), n = f.params.length - i ∧ i ≤ f.params.length ∧ k4 ≤ k3 + 1 + 21 * i ∧ k3 + 1 + Qal kids ≤ k4 ∧ Qes kids ∧ kids.length = i ∧
        Gr Lg 4 (Qbv kids) c ∧ Kn H H1 [(R.l, R.o k4), (gl, s.o R)] ([(x4, .st [.int .i64 0, .int .i64 0, .str [], .sl true 4 []]), (x5, .st [.int .i64 e.op, .int .i64 e.n, .str e.name, .sl false 4 (Qbv e.kids)]),
          (x6, .st [.str f.name, .sl false 1 (Qbs f.params), .sl false 5 (Qa6 f.body)]), (x7, .st [.int .i64 13, .int .i64 0, .str f.name, c])] ++ Lg) ∧
        e1 = [(0, V.c (C.ptr gl 0)), (4, V.c (C.ptr x4 0)), (6, V.c (C.ptr x6 0)), (7, V.c (C.ptr x7 0)), (8, V.c (C.int IntKind.i64 i))]) f.params.length ?_ ?_))
      · exact ⟨0, k3 + 1, [], _, [], by omega, by omega, by omega, by simp [Qal], trivial, rfl, .nil 4, kn, rfl⟩
      · rintro n e1 H1 ⟨i, k4, kids, c, Lg, hn, hi1, hk4, hksz, hkok, hkl, hgr, kn, rfl⟩;have hx61 := kn.l 2 rfl;have hx71 := kn.l 3 rfl;have hG1 := kn.e 1 rfl;refine Q5 ?_;refine Qa ?_;simp only [go_sem, hx61, Qav];intro hpl;refine Qh (Qd rfl ?_ ?_)
        · intro hc;have hlt : i < f.params.length := (by simpa using hc);refine Qi ?_;simp only [go_sem];refine Qh (Qc (Qbh ?_));have hcow := hgr.isOw;simp only [go_sem, hx71, hG1, GS.o, hcow];refine Qaru 2 2 (by omega) (kn.e 0 rfl) (by omega) fun z H2 k5 g5 g6 hu hok hsz => ?_;have kn := kn.callE 0 rfl hu (R.o_ne _);have hx72 := kn.l 3 rfl;simp only [go_sem, Qtz, hx72, hcow, z.cells_len];refine kn.grow (new := [z.cells]) hgr (.mk' _ _ _ _) (by simp [z.noOw]) (by simp only [Qa8, Jl, Jn, LIM]; omega) fun y' H3 kn => ?_;have hx73 := kn.l 3 rfl;simp only [go_sem, Qty, hx73];intro H4 h4;have kn := kn.stL 3 rfl h4;refine Qq ?_;simp only [go_sem];refine ⟨Qp (by omega) (by omega), ?_⟩;refine ⟨f.params.length - (i + 1), by omega, i + 1, k5, kids ++ [z], _, _, rfl, by omega, by omega, ?_, Qbif hkok ⟨hok, trivial⟩, by simp [hkl], ?_, kn, ?_⟩
          · simp only [Qy7, Qal]; omega
          · rw [← Qbd5]; exact .mk _ _ _ (by simp)
          · simp
        · intro hc;have hge : f.params.length ≤ i := (by simpa using hc);refine Qs ?_;simp only [go_sem, X.next];refine Q5 ?_;refine Qa ?_;simp only [go_sem, hG1, GS.o];refine Qbd (kn.e 0 rfl) (by omega) fun v H2 hv hu => ?_;have kn := kn.callE 0 rfl hu (R.o_ne _);have hx72 := kn.l 3 rfl;have hx42 := kn.l 0 rfl;have hcow := hgr.isOw;have hG2 := kn.e 1 rfl;simp only [go_sem, Qpc];refine Qh (Qd rfl ?_ ?_)
          · intro hc;refine Qa ?_;simp only [go_sem, hx72, hx42, hcow];intro H3 h3;have kn := kn.stL 0 rfl h3;refine Qk ?_;simp only [go_sem, Q7];refine fin 13 0 f.name c kids H3 (k4 + 1) _ (by omega) (by omega) kn rfl hcow (hgr.frz (B := [_, _, _, _]) kn (Qlh _)) ?_ ?_
            · simp only [Ex.ok]; exact ⟨fun h => by simp at h, hkok⟩
            · simp only [Ex.size]; omega
          · intro hc;refine Qi ?_;simp only [go_sem];refine Qak ?_;simp only [go_sem, hx72, hG2, hcow, GS.o];refine Qls (ns := [3, 4, 8, 10]) (kn.e 0 rfl) (by omega) (by simp) fun op H3 hop hu => ?_;have kn := kn.callE 0 rfl hu (R.o_ne _);have hx73 := kn.l 3 rfl;have hG3 := kn.e 1 rfl;simp only [go_sem, Qpe, hx73, hG3, hcow, GS.o];refine Qaru 2 2 (by omega) (kn.e 0 rfl) (by omega) fun z H4 k5 g5 g6 hu hok hsz => ?_;have kn := kn.callE 0 rfl hu (R.o_ne _);have hx74 := kn.l 3 rfl;have hx44 := kn.l 0 rfl;simp only [go_sem, Qpd, hx74, hx44, hcow, z.cells_len];intro H5 h5;have kn := kn.stL 0 rfl h5;refine Qk ?_;simp only [go_sem, Q7];refine fin op 0 [] _ [Ex.mk 13 0 f.name kids, z] H5 k5 _ (by omega) (by omega) kn rfl rfl ?_ ?_ ?_
            · refine FrzR.sl (.cons ?_ (.cons (.same z.noOw) .nil));rw [Ex.cells_eq];exact .cons (Qf rfl) (.cons (Qf rfl) (.cons (Qf rfl) (.cons (hgr.frz (B := [_, _, _, _]) kn (Qlh _)) .nil)))
            · simp only [Ex.ok, Qes]; exact ⟨fun h => rfl, ⟨fun h => by simp at h, hkok⟩, hok, trivial⟩
            · simp only [Ex.size, Qal]; omega
  refine ⟨fun hb => ?_, fun hb => ?_⟩
  · refine Qbd (kn.e 0 rfl) (by omega) fun v H5 hv hu => ?_;have kn := kn.callE 0 rfl hu (R.o_ne _);simp only [go_sem, Qja];refine rest _ H5 (k2 + 1) (by omega) (by omega) kn ?_;intro h;have : ¬ s.fns.length = 0 := (by simpa using hb);omega
  · have hb2 : decide ((s.fns.length : Int) = 0) = true := (by simpa using hb);simp only [go_sem, Qja, hb2];exact rest true H4 k2 (by omega) (by omega) kn (fun h => by simp at h)
theorem Q7z {R:Rdr}{gl k:Nat}{s:GS}{H:Heap}{K:V→Heap→Prop}(hR:H R.l=R.o k)(hG:H gl=s.o R)(hne:R.l≠gl)(hs:s.ok k)(hF:FnsOk H R gl s)(hk:k+201≤2^30)
  (hK:∀(x:Ex) (H':Heap) (k':Nat),k<k'→k'≤k+201→Upd H H' [(R.l,R.o k')]→x.ok→2 * k+x.size≤2 * k'→K (.ag x.cells) H') :
  Qu prog Qhp [.c (.ptr gl 0)] H K:=by
 refine Qt ?_;refine Qb Qam Qawu ?_;refine Qa ?_;simp only[go_sem];intro x2 hx2 H1 h1;have kn:=(Kn.start2 hR (R.o_ne k) hG (s.o_ne R) hne).al hx2 h1;have hG1:=kn.e 1 rfl;refine Qak ?_;simp only[go_sem,hG1,GS.o];refine Qcc 2 (by omega) (kn.e 0 rfl) (kn.e 1 rfl) hne hs (hF.keep kn rfl rfl) (by omega) fun e H2 k2 g1 g2 hu heok hesz=>?_;have kn:=kn.callE 0 rfl hu (R.o_ne _);have hG2:=kn.e 1 rfl;simp only[go_sem,Qtr,hG2,GS.o];refine Qls (ns:=[16,16,16,8,17,0]) (kn.e 0 rfl) (by omega) (by simp) fun v H3 hv hu=>?_;have kn:=kn.callE 0 rfl hu (R.o_ne _);have hx23:=kn.l 0 rfl;simp only[go_sem,Qtq,hx23,e.cells_len];intro H4 h4;have kn:=kn.stL 0 rfl h4;have hx24:=kn.l 0 rfl;refine Qk ?_;simp only[go_sem,Q7,Qad,Q76,reduceIte,Ja,forall_eq,RS.op,hx24];refine⟨(.ag (Ex.mk 7 0 [] [e,Ex.mk 1 v [] []]).cells),?_,hK _ _ (k2+1) (by omega) (by omega) (kn.fin.drop2 hG) ?_ ?_⟩
 ·rw[Ex.cells_eq (Ex.mk 7 0 [] _)];refine FrzL.ag ?_;refine .cons (Qf rfl) (.cons (Qf rfl) (.cons (Qf rfl) (.cons (FrzR.sl (.cons (.same e.noOw) (.cons ?_ .nil))) .nil)));simp only[Ex.cells,Qbv];exact .cons (Qf rfl) (.cons (Qf rfl) (.cons (Qf rfl) (.cons (FrzR.nil).sl .nil)))
 ·simp only[Ex.ok,Qes];exact⟨fun h=>rfl,heok,⟨fun h=>by simp at h,trivial⟩,trivial⟩
 ·simp only[Ex.size,Qal];omega
def Qbr1 (d:Nat):Prop:=∀(R:Rdr) (gl k:Nat) (s:GS) (H:Heap) (K:V→Heap→Prop) (deep:Int),deep≤d→H R.l=R.o k→H gl=s.o R→R.l≠gl→s.ok k→FnsOk H R gl s→k+500 * 10^d≤2^30→
  (∀(l:List St) (s':GS) (H':Heap) (k':Nat),k<k'→k'≤k+500 * 10^d→Upd H H' [(R.l,R.o k'),(gl,s'.o R)]→s'.ok k'→s.left+4 * (k:Int)≤s'.left+4 * (k':Int)→s'.fns=s.fns→s'.ffl=s.ffl→l.length≤2→Qdb l→4 * k+Q8 l≤4 * k'→K (.c (.sl false 5 (Qa6 l))) H')→
  Qu prog Qnz [.c (.ptr gl 0),.c (.int .i64 deep)] H K
def Qaee (d:Nat):Prop:=∀(R:Rdr) (gl k:Nat) (s:GS) (H:Heap) (K:V→Heap→Prop) (deep:Int),deep≤d→H R.l=R.o k→H gl=s.o R→R.l≠gl→s.ok k→FnsOk H R gl s→k+2001 * 10^d≤2^30→
  (∀(l:List St) (c:C) (Lg:List (Nat×Obj)) (s':GS) (H':Heap) (k':Nat),k<k'→k'≤k+2001 * 10^d→Upd H H' [(R.l,R.o k'),(gl,s'.o R)]→Gr Lg 5 (Qa6 l) c→New H H' Lg→s'.ok k'→s.left+4 * (k:Int)≤s'.left+4 * (k':Int)→s'.fns=s.fns→s'.ffl=s.ffl→
   l.length≤8→Qdb l→4 * k+Q8 l≤4 * k'→K (.c c) H')→
  Qu prog Qck [.c (.ptr gl 0),.c (.int .i64 deep)] H K
theorem Qbch {d:Nat}(hS:Qbr1 d):Qaee d:=by
 intro R gl k s H K deep hd hR hG hne hs hF hk hK;have hp0:d<10^d:=Jy (by omega);generalize hpe:10^d=e at *;have hS':=hS;simp only[Qbr1]at hS';rw[hpe]at hS';generalize hM:500 * e=M at *;refine Qdj ?_;refine Qb Qam Qar6 ?_;refine Qa ?_;simp only[go_sem];refine Qa ?_;simp only[go_sem,hG,GS.o];refine Qa ?_;simp only[go_sem];refine Q5 ?_;refine Qa ?_;simp only[go_sem,hG,GS.o];have kn:=Kn.start2 hR (R.o_ne k) hG (s.o_ne R) hne;refine Qls (ns:=[2,3,1,4]) hR (by omega) (by simp) fun v H1 hv hu=>?_;have kn:=kn.callE 0 rfl hu (R.o_ne _);simp only[go_sem,Qo9];have hv4:1≤v∧v≤4:=by simp at hv;omega
 refine Qh (Qc (Qv (fun n e1 H1=>∃(j k4:Nat) (l:List St) (c:C) (Lg:List (Nat×Obj)) (s':GS),n=v.toNat-j∧(j:Int)≤v∧k+1≤k4∧k4≤k+1+M * j∧4 * k+Q8 l≤4 * k4∧Qdb l∧l.length≤2 * j∧
    Gr Lg 5 (Qa6 l) c∧s'.ok k4∧s.left+4 * (k:Int)≤s'.left+4 * (k4:Int)∧s'.fns=s.fns∧s'.ffl=s.ffl∧Kn H H1 [(R.l,R.o k4),(gl,s'.o R)] ([]++Lg)∧
    e1=[(0,V.c (C.ptr gl 0)),(1,.c (.int .i64 deep)),(5,.c (.sl s.vfl 1 (Qbs s.vars))),(6,.c c),(7,V.c (C.int IntKind.i64 (v-j)))]) v.toNat ?_ ?_))
 ·exact⟨0,k+1,[],_,[],s,by omega,by omega,by omega,by omega,by simp only[Q8];omega,trivial,by simp,.nil 5,hs.mono (by omega),by omega,rfl,rfl,kn,by simp⟩
 ·rintro n e1 H1 ⟨j,k4,l,c,Lg,s',hn,hj,hk4,hk4',hsz,hok,hll,hgr,hs',hlf,hf1,hf2,kn,rfl⟩;have hG1:=kn.e 1 rfl;have hMj:M * j≤M * 4:=Jz _ (by omega);refine Q5 ?_;refine Qa ?_;simp only[go_sem,hG1,GS.o];refine Qh (Qd rfl ?_ ?_)
  ·intro hc;have hi:(j:Int)<v:=by
    cases h:decide (0<v-(j:Int))with
    |true=>have:0<v-(j:Int):=by simpa using h
           omega
    |false=>rw[h]at hc;simp at hc
   have hM1:M * (j+1)=M * j+M:=Jan _ _;have hM2:M * (j+1)≤M * 4:=Jz _ (by omega);refine Qi ?_;simp only[go_sem];refine Qh (Qc (Qq ?_));simp only[go_sem];refine hS' _ _ _ _ _ _ deep hd (kn.e 0 rfl) (kn.e 1 rfl) hne hs' (hF.keep kn hf1 hf2) (by omega) fun l2 s2 H2 k5 g1 g2 hu g3 glf g4 g5 g6 g7 g8=>?_;have kn:=kn.callEE 0 1 rfl rfl (by decide) hu (R.o_ne _) (GS.o_ne _ _);simp only[go_sem,Qpb];refine kn.grow hgr (.mk' _ _ _ (Qa6 l2)) (Qh4 _) (by simp only[Qbe,LIM];omega) fun y' H3 kn=>?_;simp only[go_sem,Qpa];refine Qq ?_;simp only[go_sem];refine⟨Qp (by omega) (by omega),?_⟩;simp only[X.next];refine⟨v.toNat-(j+1),by omega,j+1,k5,l++l2,.vsl y' 5 0 ((Qa6 l).length+(Qa6 l2).length),_,s2,rfl,by omega,by omega,by omega,?_,Qaly hok g7,by simp;omega,?_,g3,by omega,g4.trans hf1,g5.trans hf2,kn,?_⟩
   ·rw[Qjk];omega
   ·rw[Qalx];exact .mk _ _ _ (by simp[Qbe])
   ·have:v-((j+1:Nat):Int)=v-j-1:=(by omega);rw[this]
  ·intro hc;refine Qs ?_;simp only[go_sem,X.next];refine Qa ?_;simp only[go_sem,hG1,GS.o];intro H2 h2;have kn:Kn H H2 [(R.l,R.o k4),(gl,GS.o { s' with vars:=s.vars,vfl:=s.vfl } R)] ([]++Lg):=kn.stE 1 rfl h2;refine Qa ?_;simp only[go_sem];refine Qk ?_;simp only[go_sem,Q7,Qad,Q14,reduceIte,Ja,forall_eq,RS.op];refine⟨unx H Lg,_,H2.frz (unx H Lg),.c _ _ (.same _ hgr.isOw),Qe0 _ _,?_⟩;refine hK l c Lg _ _ k4 (by omega) (by omega) kn.finx.1 hgr kn.finx.2 ⟨hs'.n0,hs'.n1,hs'.l0,hs'.l1,?_,hs'.f,hs'.fn⟩ (by show _≤s'.left+_;omega) hf1 hf2 (by omega) hok hsz;have:=hs.v;show s.vars.length≤_;omega
def Qbrz (d:Nat):Prop:=∀(R:Rdr) (gl k:Nat) (s:GS) (H:Heap) (K:V→Heap→Prop) (deep:Int),deep≤d+1→2≤deep→H R.l=R.o k→H gl=s.o R→R.l≠gl→s.ok k→FnsOk H R gl s→k+2001 * 10^d+10≤2^30→
  (∀(l:List St) (s':GS) (H':Heap) (k':Nat),k+2<k'→k'≤k+2001 * 10^d+3→Upd H H' [(R.l,R.o k'),(gl,s'.o R)]→s'.ok k'→s.left+4 * (k:Int)≤s'.left+4 * (k':Int)→s'.fns=s.fns→s'.ffl=s.ffl→l.length≤2→Qdb l→4 * k+Q8 l≤4 * k'→K (.c (.sl false 5 (Qa6 l))) H')→
  Qu prog Qny [.c (.ptr gl 0),.c (.int .i64 deep)] H K
theorem Qbtd {d:Nat}(hB:Qaee d):Qbrz d:=by
 intro R gl k s H K deep hd hd2 hR hG hne hs hF hk hK;have hp0:d<10^d:=Jy (by omega);have hB':=hB;simp only[Qaee]at hB';generalize hpe:10^d=e at *;refine Qt ?_;refine Qb Qam Qaww ?_;refine Qa ?_;simp only[go_sem];refine Qa ?_;simp only[go_sem,hG,GS.o];have kn:=Kn.start2 hR (R.o_ne k) hG (s.o_ne R) hne;refine Qls (ns:=[2,3,1,0,5]) hR (by omega) (by simp) fun v H1 hv hu=>?_;have kn:=kn.callE 0 rfl hu (R.o_ne _);simp only[go_sem,Qt3];refine Qafe (x:=Ex.mk 1 v [] []) (fl:=true) (kn.e 0 rfl) (kn.e 1 rfl) hne (hs.mono (Jai k)) (by omega) fun name H2 k2 g1 g2 hu=>?_;have kn:=kn.callEE 0 1 rfl rfl (by decide) hu (R.o_ne _) (GS.o_ne _ _);simp only[go_sem,Qt2];intro x5 hx5 H3 h3;have kn:=kn.al hx5 h3;have hx53:=kn.l 0 rfl;simp only[go_sem,Qt1,hx53,St.cells_len,St.cells];intro H4 h4;have kn:=kn.stL 0 rfl h4;have hx54:=kn.l 0 rfl;refine Qa ?_;simp only[go_sem,hx54];intro x6 hx6 H5 h5;have kn:=kn.al hx6 h5;have hx65:=kn.l 1 rfl;simp only[go_sem,Qt4,hx65];intro H6 h6;have kn:=kn.stL 1 rfl h6;refine Qa ?_;simp only[go_sem];refine⟨Qp (by omega) (by omega),?_⟩;have hs2:GS.ok { s with next:=s.next+1,vars:=s.vars++[name],vfl:=false } k2:=by
  refine⟨?_,?_,?_,hs.l1,?_,hs.f,hs.fn⟩
  ·have:=hs.n0;show -1≤s.next+1;omega
  ·have:=hs.n1;show s.next+1≤_;omega
  ·have:=hs.l0;show _≤s.left;omega
  ·have:=hs.v;show (s.vars++[name]).length≤_;simp;omega
 refine hB' _ _ _ _ _ _ (deep-1) (by omega) (kn.e 0 rfl) (kn.e 1 rfl) hne hs2 (hF.keep kn rfl rfl) (by omega) fun l c Lg s3 H7 k3 g3 g4 hu hgr hnew hs3 glf g5 g6 g7 g8 g9=>?_;have kn0:=kn;have kn:=kn.callEE 0 1 rfl rfl (by decide) hu (R.o_ne _) (GS.o_ne _ _);have kn:=kn0.addGr kn rfl rfl hgr hnew;have hx57:=kn.l 0 rfl;have hx67:=kn.l 1 rfl;simp only[go_sem,Qt5];refine Qa ?_;simp only[go_sem,hx57,hx67];intro x8 hx8 H8 h8;have kn:=kn.al hx8 h8;have kn:=kn.perm (L':=[(x5,_),(x6,_),(x8,_)]++Lg) (by
  simp only[List.set,Jq,Jr,Jj];refine .cons _ (.cons _ ?_);exact Ji)
 have hx88:=kn.l 2 rfl;simp only[go_sem,Qt6,hx88];intro H9 h9;have kn:=kn.stL 2 rfl h9;have hG9:=kn.e 1 rfl;refine Qa ?_;simp only[go_sem,hG9,GS.o];have hl0:=hs3.l0;have hl1:=hs3.l1;refine⟨Qp (by omega) (by omega),fun H10 h10=>?_⟩;have kn:Kn H H10 [(R.l,R.o k3),(gl,GS.o { s3 with left:=s3.left-2 } R)] ([(x5,_),(x6,_),(x8,_)]++Lg):=kn.stE 1 rfl h10;have hx5a:=kn.l 0 rfl;have hx6a:=kn.l 1 rfl;have hx8a:=kn.l 2 rfl;refine Qak ?_;simp only[go_sem,hx5a,hx6a,hx8a];refine kn.grow hgr (.mk' _ _ _ _) (by intro r hr;simp only[Ja]at hr;subst hr;rfl) (by simp only[Qbe,LIM,Jl,Jn];omega) fun y' H11 kn=>?_;have hx5b:=kn.l 0 rfl;have hx6b:=kn.l 1 rfl;have hyb:=kn.l 3 rfl;simp only[go_sem,Qt7,hx5b,hx6b];refine Qk ?_;simp only[go_sem,Q7,Qad,Q77,reduceIte,Ja,forall_eq,RS.op];have hok1:GS.ok { s3 with left:=s3.left-2 } k3:=⟨hs3.n0,hs3.n1,by show _≤s3.left-2;have:=hs.l0;simp only at glf;omega,by show s3.left-2≤100;omega,hs3.v,hs3.f,hs3.fn⟩;refine⟨.c (.sl false 5 (Qa6 [St.mk 1 name [Ex.mk 1 v [] []] [] [],St.mk 6 [] [Ex.mk 2 0 name []] (l++[St.mk 2 name [Ex.mk 4 0 [] [Ex.mk 2 0 name [],Ex.mk 1 1 [] []]] [] []]) []])),.c _ _ ?_,hK _ _ _ k3 (by omega) (by omega) kn.fin hok1 (by show _≤s3.left-2+_;simp only at glf;omega) g5 g6 (by simp) ?_ ?_⟩
 ·simp only[Qa6,St.cells,Qbv,Ex.cells,←Qalx]
  repeat' first|exact FrzL.nil|exact FrzR.nil|exact Qf rfl|exact FrzL.same (Ex.noOw _)|exact FrzL.same (St.noOw _)|refine FrzL.cons ?_ ?_|refine FrzR.cons ?_ ?_|refine FrzR.sl ?_
  refine FrzR.vsl (kn.un 3 rfl) hyb (by simp) (.app (.same (Qh4 _)) ?_)
  repeat' first|exact FrzL.nil|exact FrzR.nil|exact Qf rfl|exact FrzL.same (Ex.noOw _)|exact FrzL.same (St.noOw _)|refine FrzL.cons ?_ ?_|refine FrzR.cons ?_ ?_|refine FrzR.sl ?_
 ·simp only[Qdb,St.ok,Qes,Ex.ok];refine⟨⟨by simp,⟨⟨fun h=>by simp at h,trivial⟩,trivial⟩,trivial,trivial⟩,⟨by simp,⟨⟨fun h=>by simp at h,trivial⟩,trivial⟩,Qaly g8 ?_,trivial⟩,trivial⟩;simp[Qdb,St.ok,Qes,Ex.ok]
 ·simp only[Q8,St.size,Qjk,Qal,Ex.size];omega
theorem Qbvo {A L1 L2:List (Nat×Obj)}:(A++L1++L2).Perm (A++L2++L1):=by
 rw[Jj,Jj];exact .append_left _ Ji
set_option maxHeartbeats 2000000 in
theorem Qbm9 {d : Nat} (hB : ∀ d', d = d' + 1 → Qaee d') : Qbr1 d := by
  intro R gl k s H K deep hd hR hG hne hs hF hk hK;have hp0 : d < 10^d := Jy (by omega);have hex : ∃ e, 10^d = e ∧ ∀ d', d = d' + 1 → 10 * 10^d' = e := ⟨10^d, rfl, fun d' h => by rw [h, Nat.pow_succ]; omega⟩;obtain ⟨e, hpe, he'⟩ := hex;rw [hpe] at hp0 hk hK;have hl0 := hs.l0;have hl1 := hs.l1;refine Qt ?_;refine Qb Qam Qawx ?_;refine Qa ?_;simp only [go_sem];refine Qa ?_;simp only [go_sem, hG, GS.o];refine ⟨Qp (by omega) (by omega), fun H1 h1 => ?_⟩;have kn : Kn H H1 [(R.l, R.o k), (gl, GS.o { s with left := s.left - 1 } R)] [] := (Kn.start2 hR (R.o_ne k) hG (s.o_ne R) hne).stE 1 rfl h1;have hs1 : GS.ok { s with left := s.left - 1 } (k + 1) := ⟨hs.n0, by have := hs.n1; show s.next ≤ _; omega, by show _ ≤ s.left - 1; omega, by show s.left - 1 ≤ 100; omega, by have := hs.v; show s.vars.length ≤ _; omega, hs.f, hs.fn⟩;have hlr : s.left ≤ ({ s with left := s.left - 1 } : GS).left + 1 := by show s.left ≤ s.left - 1 + 1; omega
  have hfn : ({ s with left := s.left - 1 } : GS).fns = s.fns := rfl;have hff : ({ s with left := s.left - 1 } : GS).ffl = s.ffl := rfl;have hF1 : FnsOk H R gl { s with left := s.left - 1 } := ⟨hF.1, hF.2⟩;generalize ({ s with left := s.left - 1 } : GS) = s1 at *;have hG1 := kn.e 1 rfl;refine Qa ?_;simp only [go_sem, hG1, GS.o];refine Qbd (kn.e 0 rfl) (by omega) fun v H2 hv hu => ?_;have kn : Kn H H2 [(R.l, R.o (k + 1)), (gl, s1.o R)] [] := kn.callE 0 rfl hu (R.o_ne _);have hG2 := kn.e 1 rfl;simp only [go_sem, Qua];have fin : ∀ (l : List St) (c : C) (s' : GS) (H3 : Heap) (k3 : Nat) (L : List (Nat × Obj)), k < k3 → k3 ≤ k + 500 * e → Kn H H3 [(R.l, R.o k3), (gl, s'.o R)] L → FrzC H3 (un H) c (.sl false 5 (Qa6 l)) →
      s'.ok k3 → s1.left + 4 * ((k + 1 : Nat) : Int) ≤ s'.left + 4 * (k3 : Int) → s'.fns = s1.fns → s'.ffl = s1.ffl → l.length ≤ 2 → Qdb l → 4 * k + Q8 l ≤ 4 * k3 → ∃ x', FrzV H3 (un H) (.c c) x' ∧ K x' (H3.frz (un H)) := by
    intro l c s' H3 k3 L g1 g2 kn g3 g4 g5 g6 g7 g8 g9 g10;exact ⟨_, .c _ _ g3, hK l s' _ k3 g1 g2 kn.fin g4 (by omega) (g6.trans hfn) (g7.trans hff) g8 g9 g10⟩
  refine Qh (Qc ?_);refine Qa ?_;simp only [go_sem, hG2, GS.o, Qav];intro hvl;refine Qd rfl ?_ ?_
  ·
    intro hc;have hv0 : 0 < s1.vars.length := by
      cases h : decide (v < 3) with
      | true => rw [h] at hc; simp at hc; omega
      | false => rw [h] at hc; simp at hc
    refine Qak ?_;simp only [go_sem, hG2, GS.o];refine of_c (kn.e 0 rfl) (by omega) hv0 fun name H3 hn hu => ?_;have kn := kn.callE 0 rfl hu (R.o_ne _);simp only [go_sem, Quc];refine Qcc 3 (by omega) (kn.e 0 rfl) (kn.e 1 rfl) hne (hs1.mono (by omega)) (hF1.keep kn rfl rfl) (by omega) fun x H4 k4 g1 g2 hu g3 g4 => ?_;have kn := kn.callE 0 rfl hu (R.o_ne _);simp only [go_sem, Qub, x.cells_len];refine Qk ?_;simp only [go_sem, Q7, Qad, Qbk, reduceIte, Ja, forall_eq, RS.op];refine fin [St.mk 2 name [x] [] []] _ s1 H4 k4 _ (by omega) (by omega) kn ?_ (hs1.mono (by omega)) (by omega) rfl rfl (by simp) ?_ ?_
    · simp only [Qa6, St.cells, Qbv]
      repeat' first | exact FrzL.nil | exact FrzR.nil | exact Qf rfl | exact FrzL.same (Ex.noOw _) | exact FrzL.same (St.noOw _) | refine FrzL.cons ?_ ?_ | refine FrzR.cons ?_ ?_ | refine FrzR.sl ?_
    · simp only [Qdb, St.ok, Qes]; exact ⟨⟨by simp, ⟨g3, trivial⟩, trivial, trivial⟩, trivial⟩
    · simp only [Q8, St.size, Qal]; omega
  intro hc0;refine Qa ?_;simp only [go_sem];refine Qd rfl ?_ ?_
  ·
    intro hc;refine Qa ?_;simp only [go_sem];refine Qcc 3 (by omega) (kn.e 0 rfl) (kn.e 1 rfl) hne (hs1.mono (by omega)) (hF1.keep kn rfl rfl) (by omega) fun x H4 k4 g1 g2 hu g3 g4 => ?_;have kn := kn.callE 0 rfl hu (R.o_ne _);simp only [go_sem, Que, x.cells_eq];refine Qafe (x := x) (kn.e 0 rfl) (kn.e 1 rfl) hne (hs1.mono (by omega)) (by omega) fun name H5 k5 g5 g6 hu => ?_;have kn := kn.callEE 0 1 rfl rfl (by decide) hu (R.o_ne _) (GS.o_ne _ _);simp only [go_sem, Qud, St.cells_len];refine Qk ?_;simp only [go_sem, Q7, Qad, Qbk, reduceIte, Ja, forall_eq, RS.op];have h0 := hs1.n0;have h1 := hs1.n1;have h2 := hs1.l0;have h3 := hs1.v;refine fin [St.mk 1 name [x] [] []] _ _ H5 k5 _ (by omega) (by omega) kn ?_ ⟨?_, ?_, ?_, hs1.l1, ?_, hs1.f, hs1.fn⟩ (by show _ ≤ s1.left + _; omega) rfl rfl (by simp) ?_ ?_
    · simp only [Qa6]
      repeat' first | exact FrzL.nil | exact FrzR.nil | exact Qf rfl | exact FrzL.same (Ex.noOw _) | exact FrzL.same (St.noOw _) | refine FrzL.cons ?_ ?_ | refine FrzR.cons ?_ ?_ | refine FrzR.sl ?_
    · show -1 ≤ s1.next + 1; omega
    · show s1.next + 1 ≤ _; omega
    · show _ ≤ s1.left; omega
    · show (s1.vars ++ [name]).length ≤ _; simp; omega
    · simp only [Qdb, St.ok, Qes]; exact ⟨⟨by simp, ⟨g3, trivial⟩, trivial, trivial⟩, trivial⟩
    · simp only [Q8, St.size, Qal]; omega
  intro hc1;refine Qa ?_;simp only [go_sem];refine Qd rfl ?_ ?_
  ·
    intro hc;refine Qa ?_;simp only [go_sem];refine Qcc 3 (by omega) (kn.e 0 rfl) (kn.e 1 rfl) hne (hs1.mono (by omega)) (hF1.keep kn rfl rfl) (by omega) fun x H4 k4 g1 g2 hu g3 g4 => ?_;have kn := kn.callE 0 rfl hu (R.o_ne _);simp only [go_sem, Quf, x.cells_len];refine Qk ?_;simp only [go_sem, Q7, Qad, Qbk, reduceIte, Ja, forall_eq, RS.op];refine fin [St.mk 3 [] [x] [] []] _ s1 H4 k4 _ (by omega) (by omega) kn ?_ (hs1.mono (by omega)) (by omega) rfl rfl (by simp) ?_ ?_
    · simp only [Qa6, St.cells, Qbv]
      repeat' first | exact FrzL.nil | exact FrzR.nil | exact Qf rfl | exact FrzL.same (Ex.noOw _) | exact FrzL.same (St.noOw _) | refine FrzL.cons ?_ ?_ | refine FrzR.cons ?_ ?_ | refine FrzR.sl ?_
    · simp only [Qdb, St.ok, Qes]; exact ⟨⟨by simp, ⟨g3, trivial⟩, trivial, trivial⟩, trivial⟩
    · simp only [Q8, St.size, Qal]; omega
  intro hc2;have hdp : 2 ≤ deep := by
    cases h : decide (v < 7) with
    | true => rw [h] at hc2; simp at hc2
    | false => rw [h] at hc2; simp at hc2; omega
  obtain ⟨d', hdd⟩ : ∃ d', d = d' + 1 := ⟨d - 1, by omega⟩;have hB0 : Qaee d' := hB d' hdd;have hL0 : Qbrz d' := Qbtd hB0;have hB' := hB0;have hL' := hL0;simp only [Qaee, Qbrz] at hB' hL';have he1 := he' d' hdd;have hp1 : d' < 10^d' := Jy (by omega);generalize 10^d' = e1 at *;refine Qa ?_;simp only [go_sem];refine Qd rfl ?_ ?_
  ·
    intro hc;refine Qa ?_;simp only [go_sem];refine Q7z (kn.e 0 rfl) (kn.e 1 rfl) hne (hs1.mono (by omega)) (hF1.keep kn rfl rfl) (by omega) fun x H4 k4 g1 g2 hu g3 g4 => ?_;have kn := kn.callE 0 rfl hu (R.o_ne _);simp only [go_sem, Quh, x.cells_len];refine Qcc 2 (by omega) (kn.e 0 rfl) (kn.e 1 rfl) hne (hs1.mono (by omega)) (hF1.keep kn rfl rfl) (by omega) fun y H5 k5 g5 g6 hu g7 g8 => ?_;have kn := kn.callE 0 rfl hu (R.o_ne _);simp only [go_sem, Qug, x.cells_len, y.cells_len];refine Qk ?_;simp only [go_sem, Q7, Qad, Qbk, reduceIte, Ja, forall_eq, RS.op];refine fin [St.mk 4 [] [x, y] [] []] _ s1 H5 k5 _ (by omega) (by omega) kn ?_ (hs1.mono (by omega)) (by omega) rfl rfl (by simp) ?_ ?_
    · simp only [Qa6, St.cells, Qbv]
      repeat' first | exact FrzL.nil | exact FrzR.nil | exact Qf rfl | exact FrzL.same (Ex.noOw _) | exact FrzL.same (St.noOw _) | refine FrzL.cons ?_ ?_ | refine FrzR.cons ?_ ?_ | refine FrzR.sl ?_
    · simp only [Qdb, St.ok, Qes]; exact ⟨⟨by simp, ⟨g3, g7, trivial⟩, trivial, trivial⟩, trivial⟩
    · simp only [Q8, St.size, Qal]; omega
  intro hc3;refine Qa ?_;simp only [go_sem];refine Qd rfl ?_ ?_
  ·
    intro hc;refine Qa ?_;simp only [go_sem];refine Q7z (kn.e 0 rfl) (kn.e 1 rfl) hne (hs1.mono (by omega)) (hF1.keep kn rfl rfl) (by omega) fun x H4 k4 g1 g2 hu g3 g4 => ?_;have kn := kn.callE 0 rfl hu (R.o_ne _);simp only [go_sem, Qui, x.cells_len];refine Qk ?_;simp only [go_sem, Q7, Qad, Qbk, reduceIte, Ja, forall_eq, RS.op];refine fin [St.mk 3 [] [Ex.mk 12 0 [] [x]] [] []] _ s1 H4 k4 _ (by omega) (by omega) kn ?_ (hs1.mono (by omega)) (by omega) rfl rfl (by simp) ?_ ?_
    · rw [Qa6, Qa6, St.cells, Qbv, Qbv, Ex.cells_eq (Ex.mk 12 0 [] _)];simp only [Qa6, Qbv, Ex.kids, Ex.op, Ex.n, Ex.name]
      repeat' first | exact FrzL.nil | exact FrzR.nil | exact Qf rfl | exact FrzL.same (Ex.noOw _) | exact FrzL.same (St.noOw _) | refine FrzL.cons ?_ ?_ | refine FrzR.cons ?_ ?_ | refine FrzR.sl ?_
    · simp only [Qdb, St.ok, Qes, Ex.ok]; exact ⟨⟨by simp, ⟨⟨fun h => by simp at h, g3, trivial⟩, trivial⟩, trivial, trivial⟩, trivial⟩
    · simp only [Q8, St.size, Qal, Ex.size]; omega
  intro hc4;refine Qa ?_;simp only [go_sem];refine Qd rfl ?_ ?_
  ·
    intro hc;refine Qa ?_;simp only [go_sem];refine Qcc 3 (by omega) (kn.e 0 rfl) (kn.e 1 rfl) hne (hs1.mono (by omega)) (hF1.keep kn rfl rfl) (by omega) fun x H4 k4 g1 g2 hu g3 g4 => ?_;have kn := kn.callE 0 rfl hu (R.o_ne _);simp only [go_sem, Qpi, x.cells_len];refine ⟨Qp (by omega) (by omega), ?_⟩;refine hB' _ _ _ _ _ _ (deep - 1) (by omega) (kn.e 0 rfl) (kn.e 1 rfl) hne (hs1.mono (by omega)) (hF1.keep kn rfl rfl) (by omega) fun b1 c1 L1 s2 H5 k5 g5 g6 hu hg1 hnew hs2 glf g7 g8 g9 g10 g11 => ?_;have kn0 := kn;have kn := kn.callEE 0 1 rfl rfl (by decide) hu (R.o_ne _) (GS.o_ne _ _);have kn := kn0.addGr kn rfl rfl hg1 hnew;have hc1ow := hg1.isOw;simp only [go_sem, Qph];intro x6 hx6 H6 h6;have kn := kn.al hx6 h6;have kn := kn.perm (L' := [(x6, _)] ++ L1) Ji;have hx66 := kn.l 0 rfl;simp only [go_sem, Quj, hx66];intro H7 h7;have kn : Kn H H7 [(R.l, R.o k5), (gl, s2.o R)] ([(x6, _)] ++ L1) := kn.stL 0 rfl h7;have hG7 := kn.e 1 rfl;refine Q5 ?_;refine Qa ?_;simp only [go_sem, hG7, GS.o];refine Qbd (kn.e 0 rfl) (by omega) fun v2 H8 hv2 hu => ?_;have kn : Kn H H8 [(R.l, R.o (k5 + 1)), (gl, s2.o R)] ([(x6, _)] ++ L1) := kn.callE 0 rfl hu (R.o_ne _);simp only [go_sem, Qpj];have rest : ∀ (E1 : Env) (hE : lk 6 E1 = V.c (C.ptr x6 0)) (c2 : C) (b2 : List St) (L2 : List (Nat × Obj)) (s3 : GS) (H9 : Heap) (k6 : Nat), k5 + 1 ≤ k6 → k6 ≤ k5 + 1 + 2001 * e1 → Gr L2 5 (Qa6 b2) c2 →
        Kn H H9 [(R.l, R.o k6), (gl, s3.o R)] ([(x6, .st [.int .i64 5, .str [], .sl true 4 [x.cells], c1, c2])] ++ L1 ++ L2) → s3.ok k6 → s2.left + 4 * ((k5 + 1 : Nat) : Int) ≤ s3.left + 4 * (k6 : Int) → s3.fns = s2.fns → s3.ffl = s2.ffl → Qdb b2 → 4 * (k5 + 1) + Q8 b2 ≤ 4 * k6 →
        Qah prog Qt8 (X.inBlock 0 (X.sq prog Qjb (Q7 Qbk fun x H' => ∃ x', FrzV H' (un H) x x' ∧ K x' (H'.frz (un H))))) E1 H9 := by
      intro E1 hE c2 b2 L2 s3 H9 k6 e1 e2 hg2 kn e3 e4 e5 e6 e7 e8;have hx69 := kn.l 0 rfl;have hc2ow := hg2.isOw;refine Qa ?_;simp only [go_sem, hE, hx69, hc1ow, hc2ow];refine Qk ?_;simp only [go_sem, Q7, Qad, Qbk, reduceIte, Ja, forall_eq, RS.op];refine fin [St.mk 5 [] [x] b1 b2] _ s3 H9 k6 _ (by omega) (by omega) kn ?_ e3 (by omega) (e5.trans g7) (e6.trans g8) (by simp) ?_ ?_
      · simp only [Qa6, St.cells, Qbv]
        repeat' first | exact FrzL.nil | exact FrzR.nil | exact Qf rfl | exact FrzL.same (Ex.noOw _) | exact FrzL.same (St.noOw _) | refine FrzL.cons ?_ ?_ | refine FrzR.cons ?_ ?_ | refine FrzR.sl ?_
        · exact hg1.frz (kn.perm Qbvo) (Qh4 _)
        · exact hg2.frz kn (Qh4 _)
      · simp only [Qdb, St.ok, Qes]; exact ⟨⟨by simp, ⟨g3, trivial⟩, g10, e7⟩, trivial⟩
      · simp only [Q8, St.size, Qal]; omega
    refine Qh (Qd rfl ?_ ?_)
    · intro hc';refine Qq ?_;simp only [go_sem];refine ⟨Qp (by omega) (by omega), ?_⟩;refine hB' _ _ _ _ _ _ (deep - 1) (by omega) (kn.e 0 rfl) (kn.e 1 rfl) hne (hs2.mono (by omega)) (hF1.keep kn g7 g8) (by omega) fun b2 c2 L2 s3 H9 k6 q1 q2 hu hg2 hnew hs3 q3 q4 q5 q6 q7 q8 => ?_;have kn0 := kn;have kn := kn.callEE 0 1 rfl rfl (by decide) hu (R.o_ne _) (GS.o_ne _ _);have kn := kn0.addGr kn rfl rfl hg2 hnew;have hx69 := kn.l 0 rfl;simp only [go_sem, Qpk, hx69];intro H10 h10;have kn : Kn H H10 [(R.l, R.o k6), (gl, s3.o R)] ([(x6, _)] ++ L1 ++ L2) := kn.stL 0 rfl h10;exact rest _ (by simp [lk]) c2 b2 L2 s3 H10 k6 (by omega) (by omega) hg2 kn hs3 (by omega) q4 q5 q7 (by omega)
    · intro hc';refine Qi ?_;simp only [go_sem];exact rest _ (by simp [lk]) _ [] [] s2 H8 (k5 + 1) (by omega) (by omega) (.nil 5) (by rw [List.append_nil]; exact kn) (hs2.mono (by omega)) (by omega) rfl rfl trivial (by simp only [Q8]; omega)
  · intro hc5;refine Qa ?_;simp only [go_sem, hG2, GS.o];have rest : ∀ (b : Bool) (H3 : Heap) (k3 : Nat), k + 1 ≤ k3 → k3 ≤ k + 2 → Kn H H3 [(R.l, R.o k3), (gl, s1.o R)] [] →
        Qah prog Qt9 (X.inBlock 0 (X.sq prog Qjb (Q7 Qbk fun x H' => ∃ x', FrzV H' (un H) x x' ∧ K x' (H'.frz (un H)))))
         [(0, V.c (C.ptr gl 0)), (1, .c (.int .i64 deep)), (109, .c (.bool b))] H3 := by
      intro b H3 k3 e3 e4 kn;refine Qd rfl ?_ ?_
      · intro hb;refine Qa ?_;simp only [go_sem];refine Qcc 2 (by omega) (kn.e 0 rfl) (kn.e 1 rfl) hne (hs1.mono (by omega)) (hF1.keep kn rfl rfl) (by omega) fun x H4 k4 g1 g2 hu g3 g4 => ?_;have kn := kn.callE 0 rfl hu (R.o_ne _);simp only [go_sem, Qpl, x.cells_len];refine Qk ?_;simp only [go_sem, Q7, Qad, Qbk, reduceIte, Ja, forall_eq, RS.op];refine fin [St.mk 7 [] [x] [] []] _ s1 H4 k4 _ (by omega) (by omega) kn ?_ (hs1.mono (by omega)) (by omega) rfl rfl (by simp) ?_ ?_
        · simp only [Qa6, St.cells, Qbv]
          repeat' first | exact FrzL.nil | exact FrzR.nil | exact Qf rfl | exact FrzL.same (Ex.noOw _) | exact FrzL.same (St.noOw _) | refine FrzL.cons ?_ ?_ | refine FrzR.cons ?_ ?_ | refine FrzR.sl ?_
        · simp only [Qdb, St.ok, Qes]; exact ⟨⟨by simp, ⟨g3, trivial⟩, trivial, trivial⟩, trivial⟩
        · simp only [Q8, St.size, Qal]; omega
      · intro hb;refine Qi ?_;simp only [go_sem];refine Qa ?_;simp only [go_sem];refine hL' _ _ _ _ _ _ deep (by omega) hdp (kn.e 0 rfl) (kn.e 1 rfl) hne (hs1.mono (by omega)) (hF1.keep kn rfl rfl) (by omega) fun l s2 H4 k4 g1 g2 hu g3 g4 g5 g6 g7 g8 g9 => ?_;have kn := kn.callEE 0 1 rfl rfl (by decide) hu (R.o_ne _) (GS.o_ne _ _);simp only [go_sem, Qpm];refine Qk ?_;simp only [go_sem, Q7, Qad, Qbk, reduceIte, Ja, forall_eq, RS.op];exact fin l _ s2 H4 k4 _ (by omega) (by omega) kn (Qf rfl) g3 (by omega) g5 g6 g7 g8 (by omega)
    refine ⟨fun hb => ?_, fun hb => ?_⟩
    · refine Qbd (kn.e 0 rfl) (by omega) fun v2 H3 hv2 hu => ?_;have kn := kn.callE 0 rfl hu (R.o_ne _);simp only [go_sem, Qg2];exact rest _ H3 (k + 1 + 1) (by omega) (by omega) kn
    · simp only [go_sem, Qg2, hb];exact rest _ H2 (k + 1) (by omega) (by omega) kn
theorem Qbsb (d:Nat):Qaee d:=by
 induction d with
 |zero=>exact Qbch (Qbm9 (fun d' h=>absurd h (by omega)))
 |succ d ih=>exact Qbch (Qbm9 (fun d' h=>by
   have:d'=d:=by omega
   rw[this];exact ih))
set_option maxHeartbeats 1000000 in
theorem Qaqd {R:Rdr}{gl k:Nat}{s:GS}{name:List UInt8}{params:Int}{H:Heap}{K:V→Heap→Prop}(hp0:0≤params)(hp3:params≤3)(hR:H R.l=R.o k)(hG:H gl=s.o R)(hne:R.l≠gl)(hs:s.ok k)(hF:FnsOk H R gl s)(hk:k+2001300≤2^30)
  (hK:∀(f:Fn) (s':GS) (H':Heap) (k':Nat),k<k'→k'≤k+2001300→Upd H H' [(R.l,R.o k'),(gl,s'.o R)]→s'.ok k'→s'.fns=s.fns→s'.ffl=s.ffl→f.params.length≤3→Qdb f.body→4 * k+Q8 f.body≤4 * k'→K (.ag f.cells) H') :
  Qu prog Qnx [.c (.ptr gl 0),.c (.str name),.c (.int .i64 params)] H K:=by
 obtain⟨np,rfl⟩:=Jo hp0;refine Qt ?_;refine Qb Qam Qbet ?_;refine Qa ?_;simp only[go_sem];intro x6 hx6 H1 h1;have kn:=(Kn.start2 hR (R.o_ne k) hG (s.o_ne R) hne).al hx6 h1;have hG1:=kn.e 1 rfl;refine Qa ?_;have etk:List.take np [[C.str [97]],[C.str [98]],[C.str [99]]]=Qbs (List.take np [[97],[98],[99]]):=by simp[Qbs,List.map_take]
 simp only[go_sem,hG1,GS.o,etk];refine⟨⟨by omega,by omega⟩,fun H2 h2=>?_⟩;have kn:Kn H H2 [(R.l,R.o k),(gl,GS.o { s with vars:=List.take np [[97],[98],[99]],vfl:=false } R)] [(x6,_)]:=kn.stE 1 rfl h2;have hG2:=kn.e 1 rfl;refine Qa ?_;simp only[go_sem,hG2,GS.o];refine⟨Qp (by omega) (by omega),fun H3 h3=>?_⟩;have kn:Kn H H3 [(R.l,R.o k),(gl,GS.o { s with vars:=List.take np [[97],[98],[99]],vfl:=false,next:=(np:Int)-1 } R)] [(x6,_)]:=kn.stE 1 rfl h3;have hs1:GS.ok { s with vars:=List.take np [[97],[98],[99]],vfl:=false,next:=(np:Int)-1 } k:=
  ⟨by show -1≤(np:Int)-1;omega,by show (np:Int)-1≤_;omega,hs.l0,hs.l1,by show (List.take np _).length≤_;simp;omega,hs.f,hs.fn⟩
 have hvl:(List.take np [[97],[98],[99]]:List (List UInt8)).length≤3:=by simp;omega
 have hfn:GS.fns { s with vars:=List.take np [[97],[98],[99]],vfl:=false,next:=(np:Int)-1 }=s.fns:=rfl;have hff:GS.ffl { s with vars:=List.take np [[97],[98],[99]],vfl:=false,next:=(np:Int)-1 }=s.ffl:=rfl;have hvv:GS.vars { s with vars:=List.take np [[97],[98],[99]],vfl:=false,next:=(np:Int)-1 }=List.take np [[97],[98],[99]]:=rfl;rw[←hvv]at hvl;have hF1:FnsOk H R gl { s with vars:=List.take np [[97],[98],[99]],vfl:=false,next:=(np:Int)-1 }:=⟨hF.1,hF.2⟩;generalize ({ s with vars:=List.take np [[97],[98],[99]],vfl:=false,next:=(np:Int)-1 }:GS)=s1 at *;have hG3:=kn.e 1 rfl;refine Qa ?_;have hL:s1.vars.length≤LIM:=by simp only[LIM];omega
 simp only[go_sem,hG3,GS.o,Qav,Jg,Jq,hL];refine⟨.inl trivial,Qov _,fun y hy H4 h4=>?_⟩;have kn:=kn.al hy h4;simp only[go_sem,Q30];intro x7 hx7 H5 h5;have kn:=kn.al hx7 h5;have hx75:=kn.l 2 rfl;simp only[go_sem,Q3z,hx75];intro H6 h6;have kn:Kn H H6 [(R.l,R.o k),(gl,s1.o R)] [(x6,_),(y,_),(x7,_)]:=kn.stL 2 rfl h6;refine Qa ?_;simp only[go_sem];refine Qbsb 3 _ _ _ _ _ _ 3 (by omega) (kn.e 0 rfl) (kn.e 1 rfl) hne hs1 (hF1.keep kn rfl rfl) (by omega) fun l c Lg s2 H7 k2 g1 g2 hu hgr hnew hs2 glf g3 g4 g5 g6 g7=>?_;have kn0:=kn;have kn:=kn.callEE 0 1 rfl rfl (by decide) hu (R.o_ne _) (GS.o_ne _ _);have kn:=kn0.addGr kn rfl rfl hgr hnew;have hx77:=kn.l 2 rfl;simp only[go_sem,Q31,hx77];intro H8 h8;have kn:Kn H H8 [(R.l,R.o k2),(gl,s2.o R)] ([(x6,.st [.str [],.sl true 1 [],.sl true 5 []]),(y,.vec 1 (Qbs s1.vars)),(x7,.st [.str name,.vsl y 1 0 s1.vars.length,c])]++Lg):=kn.stL 2 rfl h8;have hG8:=kn.e 1 rfl;refine Q5 ?_;refine Qa ?_;simp only[go_sem,hG8,GS.o];have hcow:=hgr.isOw;have rest:∀(E1:Env) (hE6:lk 6 E1=V.c (C.ptr x6 0)) (hE7:lk 7 E1=V.c (C.ptr x7 0)) (l2:List St) (c2:C) (rws:List (List C)) (L2:List (Nat×Obj)) (s3:GS) (H9:Heap) (k3:Nat),k<k3→k3≤k+2001300→
   Kn H H9 [(R.l,R.o k3),(gl,s3.o R)] ([(x6,.st [.str [],.sl true 1 [],.sl true 5 []]),(y,.vec 1 (Qbs s1.vars)),(x7,.st [.str name,.vsl y 1 0 s1.vars.length,c2])]++L2)→Gr L2 5 rws c2→(∀H',FrzR H' (un H) rws (Qa6 l2))→
   s3.ok k3→s3.fns=s1.fns→s3.ffl=s1.ffl→Qdb l2→4 * k+Q8 l2≤4 * k3→Qah prog Qt0 (Q7 Qwc fun x H'=>∃x',FrzV H' (un H) x x'∧K x' (H'.frz (un H))) E1 H9:=by
  intro E1 hE6 hE7 l2 c2 rws L2 s3 H9 k3 e1 e2 kn hg2 hfr e3 e4 e5 e6 e7;have hx69:=kn.l 0 rfl;have hx79:=kn.l 2 rfl;have hcow:=hg2.isOw;refine Qa ?_;simp only[go_sem,hE6,hE7,hx69,hx79,hcow];intro H10 h10;have kn:=kn.stL 0 rfl h10;have hx6a:=kn.l 0 rfl;have hya:=kn.l 1 rfl;refine Qk ?_;simp only[go_sem,Q7,Qad,Qwc,reduceIte,Ja,forall_eq,RS.op,hx6a,hcow];refine⟨(.ag (Fn.mk name s1.vars l2).cells),?_,hK _ s3 _ k3 e1 e2 kn.fin e3 (e4.trans hfn) (e5.trans hff) hvl e6 e7⟩;refine FrzL.ag (.cons (Qf rfl) (.cons ?_ (.cons ?_ .nil)))
  ·exact Qaro (kn.un 1 rfl) hya (by simp[Qbs]) (noOw_mem (Qov _))
  ·exact hg2.frzR (B:=[_,_,_]) kn (hfr _)
 have tl:∀(b:Bool) (H9:Heap) (k3:Nat),k2≤k3→k3≤k2+1→(b=true→0<s2.left)→Kn H H9 [(R.l,R.o k3),(gl,s2.o R)] ([(x6,.st [.str [],.sl true 1 [],.sl true 5 []]),(y,.vec 1 (Qbs s1.vars)),(x7,.st [.str name,.vsl y 1 0 s1.vars.length,c])]++Lg)→
   Qah prog (s_l3Gen_fn_7.seq Qt0) (Q7 Qwc fun x H'=>∃x',FrzV H' (un H) x x'∧K x' (H'.frz (un H))) [(0,V.c (C.ptr gl 0)),(6,V.c (C.ptr x6 0)),(7,V.c (C.ptr x7 0)),(42,.c (.bool b))] H9:=by
  intro b H9 k3 e1 e2 hb kn;have hG9:=kn.e 1 rfl;refine Qh (Qd rfl ?_ ?_)
  ·intro hc;have hlp:=hb hc;have hl1:=hs2.l1;refine Qa ?_;simp only[go_sem,hG9,GS.o];refine⟨Qp (by omega) (by omega),fun H10 h10=>?_⟩;have kn:Kn H H10 [(R.l,R.o k3),(gl,GS.o { s2 with left:=s2.left-1 } R)] ([(x6,_),(y,_),(x7,_)]++Lg):=kn.stE 1 rfl h10;have hs3:GS.ok { s2 with left:=s2.left-1 } k3:=⟨hs2.n0,by have:=hs2.n1;show s2.next≤_;omega,by show _≤s2.left-1;omega,by show s2.left-1≤100;omega,by have:=hs2.v;show s2.vars.length≤_;omega,hs2.f,hs2.fn⟩;have hx7a:=kn.l 2 rfl;refine Qbh ?_;simp only[go_sem,hx7a,hcow];refine Qcc 2 (by omega) (kn.e 0 rfl) (kn.e 1 rfl) hne hs3 (hF1.keep kn g3 g4) (by omega) fun x H11 k4 q1 q2 hu q3 q4=>?_;have kn:=kn.callE 0 rfl hu (R.o_ne _);have hx7b:=kn.l 2 rfl;simp only[go_sem,Q33,hx7b,hcow,x.cells_len];refine kn.grow (B:=[_,_,_]) hgr (.mk' _ _ _ _) (by intro r hr;simp only[Ja]at hr;subst hr;rfl) (by simp only[Qbe,LIM,Jl,Jn];omega) fun y' H12 kn=>?_;have hx7c:=kn.l 2 rfl;simp only[go_sem,Q32,hx7c];intro H13 h13;have kn:=kn.stL 2 rfl h13;refine rest _ (by simp[lk]) (by simp[lk]) (l++[St.mk 7 [] [x] [] []]) _ _ _ _ H13 k4 (by omega) (by omega) kn (.mk _ _ _ (by simp[Qbe])) (fun H'=>?_) (hs3.mono (by omega)) g3 g4 (Qaly g6 ?_) ?_
   ·rw[←Qalx];refine .app (.same (Qh4 _)) ?_;simp only[Qa6,St.cells,Qbv]
    repeat' first|exact FrzL.nil|exact FrzR.nil|exact Qf rfl|exact FrzL.same (Ex.noOw _)|exact FrzL.same (St.noOw _)|refine FrzL.cons ?_ ?_|refine FrzR.cons ?_ ?_|refine FrzR.sl ?_
   ·simp only[Qdb,St.ok,Qes];exact⟨⟨by simp,⟨q3,trivial⟩,trivial,trivial⟩,trivial⟩
   ·simp only[Qjk,Q8,St.size,Qal];omega
  ·intro hc;refine Qi ?_;simp only[go_sem];exact rest _ (by simp[lk]) (by simp[lk]) l c _ Lg s2 H9 k3 (by omega) (by omega) kn hgr (fun H'=>.same (Qh4 _)) (hs2.mono (by omega)) g3 g4 g6 (by omega)
 refine⟨fun hb=>?_,fun hb=>?_⟩
 ·refine Qbd (kn.e 0 rfl) (by omega) fun v H9 hv hu=>?_;have kn:=kn.callE 0 rfl hu (R.o_ne _);simp only[go_sem,Qoh,hb];exact tl _ H9 (k2+1) (by omega) (by omega) (fun _=>by simpa using hb) kn
 ·simp only[go_sem,Qoh,hb];exact tl false H8 k2 (by omega) (by omega) (fun h=>by simp at h) kn
variable {H:Heap}{K:V→Heap→Prop}
theorem Qr4 {l:List Ex}{i:Nat}(h:i<l.length):Qal (l.take (i+1))=Qal (l.take i)+(l[i]'h).size:=by
 rw[Jk h,Qy7];simp[Qal]
theorem Qvt {l:List St}{i:Nat}(h:i<l.length):Q8 (l.take (i+1))=Q8 (l.take i)+(l[i]'h).size:=by
 rw[Jk h,Qjk];simp[Q8]
theorem Qh7 (l:List Ex)(i:Nat):Qal (l.take i)≤Qal l:=by
 conv=>rhs;rw[←Jw i l,Qy7]
 omega
theorem Qjl (l:List St)(i:Nat):Q8 (l.take i)≤Q8 l:=by
 conv=>rhs;rw[←Jw i l,Qjk]
 omega
theorem St.size_pos (x:St):1≤x.size:=by rw[x.size_eq];omega
theorem Qalz (l:List St):l.length≤Q8 l:=by
 induction l with
 |nil=>simp
 |cons x r ih=>simp only[Jl,Q8];have:=x.size_pos;omega
theorem Qbje:∀(n:Nat) (x:Ex) {H:Heap} {K:V→Heap→Prop},x.size≤n→x.size≤2^40→K (.c (.int .i64 x.size)) H→Qu prog Qv6 [.ag x.cells] H K:=by
 intro n
 induction n with
 |zero=>intro x _ _ h;have:=x.size_pos;omega
 |succ n ih=>
 intro x H K hn hb hK;have hsz:=x.size_kids;refine Qb Qam Qbj7 ?_;refine Qa ?_;simp only[go_sem,x.cells_eq];refine Qa ?_;simp only[go_sem];refine Q5 ?_;refine Qa ?_;simp only[go_sem];refine Qh (Qc (Qv (fun n e1 H1=>∃i:Nat,n=x.kids.length-i∧i≤x.kids.length∧H1=H∧e1=[(1,.c (.pp [.int .i64 x.op,.int .i64 x.n,.str x.name,.sl false 4 (Qbv x.kids)])),(3,.c (.int .i64 ((1+Qal (x.kids.take i):Nat):Int))),(4,.c (.int .i64 i))]) x.kids.length ?_ ?_))
 ·exact⟨0,by omega,by omega,rfl,by simp[Qal]⟩
 ·rintro n e1 H1 ⟨i,hn,hi,rfl,rfl⟩;refine Q5 ?_;refine Qa ?_;simp only[go_sem,Qa8];intro hl;simp only[LIM]at hl;refine Qh (Qd rfl ?_ ?_)
  ·intro hc;have hlt:i<x.kids.length:=by simpa using hc
   have hm:=Qfy (Jc hlt);have htk:=Qr4 hlt;have htl:=Qh7 x.kids (i+1);refine Qi ?_;simp only[go_sem];refine Qh (Qc (Qq ?_));simp only[go_sem,hlt,Qa8,Qfx _ _ hlt,Ex.take4,Ex.allOw,Ex.cells_len];refine ih _ (by omega) (by omega) ?_;simp only[go_sem,Q93];refine⟨Qp (by omega) (by omega),?_⟩;refine Qq ?_;simp only[go_sem,X.next];refine⟨Qp (by omega) (by omega),x.kids.length-(i+1),by omega,i+1,rfl,by omega,?_⟩;rw[htk];simp;omega
  ·intro hc;have hge:x.kids.length≤i:=by simpa using hc
   refine Qs ?_;simp only[go_sem,X.next];refine Qa ?_;simp only[go_sem];refine Qk ?_;simp only[go_sem,Q7,Qad,Qaxk,reduceIte,Ja,forall_eq,RS.op];rw[Jd hge,←hsz];exact hK
theorem Qbot:∀(n:Nat) (x:Ex) {H:Heap} {K:V→Heap→Prop} (deep:Int),x.size≤n→deep≤100→(∀b:Bool,K (.c (.bool b)) H)→Qu prog Q1d [.ag x.cells,.c (.int .i64 deep)] H K:=by
 intro n
 induction n with
 |zero=>intro x _ _ _ h;have:=x.size_pos;omega
 |succ n ih=>
 intro x H K deep hn hd hK;have hsz:=x.size_kids;refine Qb Qam Qbo9 ?_;refine Qa ?_;simp only[go_sem,x.cells_eq];refine Qa ?_;simp only[go_sem];refine Qbou fun lo hi=>?_;simp only[go_sem,Qaho,Jx,J6];refine Q5 ?_;refine Qa ?_;simp only[go_sem];have retf:∀(b:Bool) (e:Env),lk 4 e=.c (.bool b)→Q7 Q12 K .ret e H:=by
  intro b e h1;simp only[go_sem,Q7,Qad,Q12,Ja,forall_eq,RS.op,h1];exact hK _
 have rest:∀b:Bool,(b=false→1≤deep)→Qah prog (s_l2Form_3.seq Qahn) (Q7 Q12 K)
   [(1,.c (.int .i64 deep)),(2,.c (.pp [.int .i64 x.op,.int .i64 x.n,.str x.name,.sl false 4 (Qbv x.kids)])),(31,.c (.bool b))] H:=by
  intro b hb;refine Qh (Qd rfl ?_ ?_)
  ·intro hc;refine Qa ?_;simp only[go_sem];refine Qk ?_;simp only[go_sem];exact retf false _ (by simp[lk])
  intro hc;have hdp:=hb hc;refine Qi ?_;simp only[go_sem];refine Qa ?_;simp only[go_sem];refine Q5 ?_;refine Qa ?_;simp only[go_sem];refine Qad3 fun b1=>?_;simp only[go_sem,Qahp];have rest2:∀b:Bool,Qah prog (s_l2Form_6.seq Qahm) (Q7 Q12 K)
    [(1,.c (.int .i64 deep)),(2,.c (.pp [.int .i64 x.op,.int .i64 x.n,.str x.name,.sl false 4 (Qbv x.kids)])),(69,.c (.bool b))] H:=by
   intro b;refine Qh (Qd rfl ?_ ?_)
   ·intro hc;refine Qa ?_;simp only[go_sem];refine Qk ?_;simp only[go_sem];exact retf false _ (by simp[lk])
   intro hc;refine Qi ?_;simp only[go_sem];refine Q5 ?_;refine Qa ?_;simp only[go_sem];refine Qh (Qc (Qv (fun n e1 H1=>∃i:Nat,n=x.kids.length-i∧i≤x.kids.length∧H1=H∧e1=[(1,.c (.int .i64 deep)),(2,.c (.pp [.int .i64 x.op,.int .i64 x.n,.str x.name,.sl false 4 (Qbv x.kids)])),(8,.c (.int .i64 i))]) x.kids.length ?_ ?_))
   ·exact⟨0,by omega,by omega,rfl,rfl⟩
   ·rintro n e1 H1 ⟨i,hn,hi,rfl,rfl⟩;refine Q5 ?_;refine Qa ?_;simp only[go_sem,Qa8];intro hl;simp only[LIM]at hl;refine Qh (Qd rfl ?_ ?_)
    ·intro hc;have hlt:i<x.kids.length:=(by simpa using hc);have hm:=Qfy (Jc hlt);refine Qi ?_;simp only[go_sem];refine Qh (Qc ?_);refine Qa ?_;simp only[go_sem,hlt,Qa8,Qfx _ _ hlt,Ex.take4,Ex.allOw,Ex.cells_len];refine⟨Qp (by omega) (by omega),?_⟩;refine ih _ (deep-1) (by omega) (by omega) fun b2=>?_;simp only[go_sem,Qahq];refine Qd rfl ?_ ?_
     ·intro hc2;refine Qa ?_;simp only[go_sem];refine Qk ?_;simp only[go_sem,X.next];exact retf false _ (by simp[lk])
     ·intro hc2;refine Qi ?_;simp only[go_sem];refine Qq ?_;simp only[go_sem,X.next];exact⟨Qp (by omega) (by omega),x.kids.length-(i+1),by omega,i+1,rfl,by omega,rfl⟩
    ·intro hc;refine Qs ?_;simp only[go_sem,X.next];refine Qa ?_;simp only[go_sem];refine Qk ?_;exact retf true _ (by simp[lk])
  refine⟨fun hb1=>?_,fun hb1=>?_⟩
  ·refine Qdc ?_;simp only[go_sem,Q0m];exact rest2 _
  ·replace hb1:=Qfg hb1;simp only[go_sem,Q0m,hb1];exact rest2 _
 refine⟨fun hb1=>?_,fun hb1=>?_⟩
 ·replace hb1:=Qsp hb1;have hdp:1≤deep:=by simp at hb1;omega
  refine Qdc ?_;simp only[go_sem,Q0l,hb1,Qa8,cond_false];intro hl;refine⟨fun hb2=>?_,fun hb2=>?_⟩
  ·refine Qdc ?_;simp only[go_sem,Qog];exact rest _ (fun _=>hdp)
  ·replace hb2:=Qfg hb2;simp only[go_sem,Qog,hb2];exact rest _ (fun _=>hdp)
 ·replace hb1:=Qfg hb1;simp only[go_sem,Q0l,Qog,hb1,Qa8,cond_true];exact rest _ (fun h=>by simp at h)
theorem Qa4i {x:Ex}(hx:x.size≤2^40)(hK:∀b:Bool,K (.c (.bool b)) H):Qu prog Qin [.ag x.cells] H K:=by
 refine Qb Qam Qamj ?_;refine Qa ?_;simp only[go_sem,Ex.ne_nil];refine Qa ?_;simp only[go_sem,Ex.take4,Ex.allOw,Ex.cells_len];refine Qbot x.size x 6 (Jf _) (by omega) fun b=>?_;simp only[go_sem,Qna,Ex.take4,Ex.allOw,Ex.cells_len];refine⟨fun hb=>?_,fun hb=>?_⟩
 ·refine Qbje x.size x (Jf _) hx ?_;simp only[go_sem,Qf7];refine Qk ?_;simp only[go_sem,Q7,Qad,Qk4,reduceIte,Ja,forall_eq,RS.op];exact hK _
 ·simp only[go_sem,Qf7,hb];refine Qk ?_;simp only[go_sem,Q7,Qad,Qk4,reduceIte,Ja,forall_eq,RS.op];exact hK _
def St.raw (x:St):List C:=[.int .i64 x.op,.str x.name,.sl false 4 (Qbv x.args),.sl false 5 (Qa6 x.body),.sl false 5 (Qa6 x.els)]
theorem Qbjh:∀(n:Nat) (l:List St) {fl:Bool} {H:Heap} {K:V→Heap→Prop},Q8 l≤n→Q8 l≤2^40→(∀v:Nat,v≤Q8 l→K (.c (.int .i64 v)) H)→Qu prog Qlj [.c (.sl fl 5 (Qa6 l))] H K:=by
 intro n
 induction n using Nat.strongRecOn with
 |ind n ih=>
 intro l fl H K hn hb hK;have hlen:=Qalz l;refine Qb Qam Qbka ?_;refine Qa ?_;simp only[go_sem];refine Qa ?_;simp only[go_sem,Qbe];intro hl;refine Q5 ?_;refine Qa ?_;simp only[go_sem];refine Qh (Qc (Qv (fun n e1 H1=>∃(i v:Nat),n=l.length-i∧i≤l.length∧v≤(l.length-i)+Q8 (l.take i)∧H1=H∧e1=[(0,.c (.sl fl 5 (Qa6 l))),(3,.c (.int .i64 v)),(4,.c (.int .i64 i))]) l.length ?_ ?_))
 ·exact⟨0,l.length,by omega,by omega,by omega,rfl,rfl⟩
 ·rintro n e1 H1 ⟨i,v,hn1,hi,hv,rfl,rfl⟩;refine Q5 ?_;refine Qa ?_;simp only[go_sem,Qbe];simp only[LIM]at hl;refine fun _=>?_;refine Qh (Qd rfl ?_ ?_)
  ·intro hc;have hlt:i<l.length:=by simpa using hc
   have hm:=Qow (Jc hlt);have htk:=Qvt hlt;have htl:=Qjl l (i+1);have hse:=(l[i]'hlt).size_eq;refine Qi ?_;simp only[go_sem];refine Qh (Qc (Qbh ?_));simp only[go_sem,hlt,Qbe,Qgc _ _ hlt,St.cells_eq];refine ih (Q8 l[i].body) (by omega) l[i].body (Jf _) (by omega) fun a ha=>?_;simp only[go_sem,Q96,hlt,Qbe,Qgc _ _ hlt,St.cells_eq];refine⟨Qp (by omega) (by omega),?_⟩;refine ih (Q8 l[i].els) (by omega) l[i].els (Jf _) (by omega) fun c hc=>?_;simp only[go_sem,Q95];refine⟨Qp (by omega) (by omega),?_⟩;refine Qq ?_;simp only[go_sem,X.next];refine⟨Qp (by omega) (by omega),l.length-(i+1),by omega,i+1,v+a+c,rfl,by omega,by omega,rfl⟩
  ·intro hc;have hge:l.length≤i:=by simpa using hc
   refine Qs ?_;simp only[go_sem,X.next];refine Qa ?_;simp only[go_sem];refine Qk ?_;simp only[go_sem,Q7,Qad,Qaxl,reduceIte,Ja,forall_eq,RS.op];rw[Jd hge]at hv;exact hK v (by omega)
def Qbur (n:Nat):Prop:=∀(x:St) (deep:Int) (H:Heap) (K:V→Heap→Prop),x.size≤n→x.size≤2^40→deep≤100→(∀b:Bool,K (.c (.bool b)) H)→Qu prog Qae4 [.ag x.cells,.c (.int .i64 deep)] H K
def Qbhq (n:Nat):Prop:=∀(l:List St) (deep:Int) (fl:Bool) (H:Heap) (K:V→Heap→Prop),Q8 l≤n→Q8 l≤2^40→deep≤100→(∀b:Bool,K (.c (.bool b)) H)→Qu prog Qlk [.c (.sl fl 5 (Qa6 l)),.c (.int .i64 deep)] H K
theorem Qbq5 {n:Nat}(hS:Qbur n):Qbhq n:=by
 intro l deep fl H K hn hb hd hK;refine Qb Qam Qbkb ?_;have retf:∀(b:Bool) (e:Env),lk 4 e=.c (.bool b)→Q7 Qagf K .ret e H:=by
  intro b e h1;simp only[go_sem,Q7,Qad,Qagf,Ja,forall_eq,RS.op,h1];exact hK _
 refine Qa ?_;simp only[go_sem];refine Q5 ?_;refine Qa ?_;simp only[go_sem];refine Qh (Qc (Qv (fun n e1 H1=>∃(i:Nat),n=l.length-i∧i≤l.length∧H1=H∧e1=[(0,.c (.sl fl 5 (Qa6 l))),(1,.c (.int .i64 deep)),(5,.c (.int .i64 i))]) l.length ?_ ?_))
 ·exact⟨0,by omega,by omega,rfl,rfl⟩
 ·rintro n e1 H1 ⟨i,hn1,hi,rfl,rfl⟩;refine Q5 ?_;refine Qa ?_;simp only[go_sem,Qbe];intro hl;simp only[LIM]at hl;refine Qh (Qd rfl ?_ ?_)
  ·intro hc;have hlt:i<l.length:=by simpa using hc
   have hm:=Qow (Jc hlt);refine Qi ?_;simp only[go_sem];refine Qh (Qc ?_);refine Qa ?_;simp only[go_sem,hlt,Qbe,Qgc _ _ hlt,St.take5,St.allOw,St.cells_len];refine hS _ deep _ _ (by omega) (by omega) hd fun b=>?_;simp only[go_sem,Qaaf];refine Qd rfl ?_ ?_
   ·intro hc2;refine Qa ?_;simp only[go_sem];refine Qk ?_;simp only[go_sem,X.next];exact retf false _ (by simp[lk])
   ·intro hc2;refine Qi ?_;simp only[go_sem];refine Qq ?_;simp only[go_sem,X.next];exact⟨Qp (by omega) (by omega),l.length-(i+1),by omega,i+1,rfl,by omega,rfl⟩
  ·intro hc;refine Qs ?_;simp only[go_sem,X.next];refine Qa ?_;simp only[go_sem];refine Qk ?_;exact retf true _ (by simp[lk])
theorem Qbt9 {n:Nat}(hS:∀m,m<n→Qbhq m):Qbur n:=by
 intro x deep H K hn hb hd hK;have hsz:=x.size_eq;refine Qb Qam Qbpe ?_;have retf:∀(b:Bool) (e:Env),lk 4 e=.c (.bool b)→Q7 Qaeb K .ret e H:=by
  intro b e h1;simp only[go_sem,Q7,Qad,Qaeb,Ja,forall_eq,RS.op,h1];exact hK _
 refine Qa ?_;simp only[go_sem,x.cells_eq];refine Q5 ?_;refine Qak ?_;simp only[go_sem];have rest:∀b:Bool,(b=false→1≤deep∧x.args.length=if x.op=4 then 2 else 1)→Qah prog (s_l3Stmt_2.seq Qaiy) (Q7 Qaeb K)
   [(1,.c (.int .i64 deep)),(2,.c (.pp [.int .i64 x.op,.str x.name,.sl false 4 (Qbv x.args),.sl false 5 (Qa6 x.body),.sl false 5 (Qa6 x.els)])),(23,.c (.bool b))] H:=by
  intro b hb;refine Qh (Qd rfl ?_ ?_)
  ·intro hc;refine Qa ?_;simp only[go_sem];refine Qk ?_;simp only[go_sem];exact retf false _ (by simp[lk])
  intro hc;obtain⟨hdp,hal⟩:=hb hc;have hap:0<x.args.length:=by rw[hal];split <;> omega
  refine Qi ?_;simp only[go_sem];refine Qa ?_;simp only[go_sem];refine Q5 ?_;refine Qa ?_;simp only[go_sem];refine Qad3 fun b1=>?_;simp only[go_sem,Qaiz];refine Qh (Qd rfl ?_ ?_)
  ·intro hc;refine Qa ?_;simp only[go_sem];refine Qk ?_;simp only[go_sem];exact retf false _ (by simp[lk])
  intro hc;refine Qi ?_;simp only[go_sem];refine Q5 ?_;refine Qa ?_;simp only[go_sem];refine Qh (Qc (Qv (fun n e1 H1=>∃(i:Nat),n=x.args.length-i∧i≤x.args.length∧H1=H∧e1=[(1,.c (.int .i64 deep)),(2,.c (.pp [.int .i64 x.op,.str x.name,.sl false 4 (Qbv x.args),.sl false 5 (Qa6 x.body),.sl false 5 (Qa6 x.els)])),(6,.c (.int .i64 i))]) x.args.length ?_ ?_))
  ·exact⟨0,by omega,by omega,rfl,rfl⟩
  ·rintro n e1 H1 ⟨i,hn1,hi,rfl,rfl⟩;refine Q5 ?_;refine Qa ?_;simp only[go_sem,Qa8];intro hl;simp only[LIM]at hl;refine Qh (Qd rfl ?_ ?_)
   ·intro hc;have hlt:i<x.args.length:=(by simpa using hc);have hm:=Qfy (Jc hlt);refine Qi ?_;simp only[go_sem];refine Qh (Qc ?_);refine Qa ?_;simp only[go_sem,hlt,Qa8,Qfx _ _ hlt,Ex.take4,Ex.allOw,Ex.cells_len];refine Qa4i (by omega) fun b=>?_;simp only[go_sem,Qai0];refine Qd rfl ?_ ?_
    ·intro hc2;refine Qa ?_;simp only[go_sem];refine Qk ?_;simp only[go_sem,X.next];exact retf false _ (by simp[lk])
    ·intro hc2;refine Qi ?_;simp only[go_sem];refine Qq ?_;simp only[go_sem,X.next];exact⟨Qp (by omega) (by omega),x.args.length-(i+1),by omega,i+1,rfl,by omega,rfl⟩
   ·intro hc;refine Qs ?_;simp only[go_sem,X.next];refine Q5 ?_;refine Qa ?_;simp only[go_sem,hap,Qa8,Qfx _ _ hap,Ex.cells_eq];refine⟨fun _=>Int.le_refl _,?_⟩;refine Qh (Qd rfl ?_ ?_)
    ·intro hc;refine Qa ?_;simp only[go_sem];refine Qk ?_;simp only[go_sem];exact retf false _ (by simp[lk])
    intro hc;refine Qi ?_;simp only[go_sem];refine Q5 ?_;refine Qa ?_;simp only[go_sem,Qbe]
    intros
    refine Qh (Qd rfl ?_ ?_)
    ·intro hc;refine Qa ?_;simp only[go_sem];refine Qk ?_;simp only[go_sem];exact retf false _ (by simp[lk])
    intro hc;refine Qi ?_;simp only[go_sem];refine Qa ?_;simp only[go_sem];refine⟨Qp (by omega) (by omega),?_⟩;refine hS (Q8 x.body) (by omega) _ _ _ _ _ (Jf _) (by omega) (by omega) fun b1=>?_;simp only[go_sem,Qaae];refine⟨fun _=>Qp (by omega) (by omega),?_⟩;refine⟨fun hb1=>?_,fun hb1=>?_⟩
    ·refine hS (Q8 x.els) (by omega) _ _ _ _ _ (Jf _) (by omega) (by omega) fun b2=>?_;simp only[go_sem,Quk];refine Qk ?_;exact retf _ _ (by simp[lk];rfl)
    ·simp only[go_sem,Quk,hb1];refine Qk ?_;exact retf false _ (by simp[lk])
 refine⟨fun hb1=>?_,fun hb1=>?_⟩
 ·replace hb1:=Qsp hb1;have hdp:1≤deep:=by simp at hb1;omega
  refine Qdc ?_;simp only[go_sem,Q0o,hb1,Qa8,cond_false];refine⟨fun hb2=>?_,fun hb2=>?_⟩
  ·refine Qbow ?_;simp only[go_sem,Qoi,Qa8];refine rest _ (fun h=>⟨hdp,?_⟩);have h1:(x.args.length:Int)=if x.op=4 then 2 else 1:=by
    cases h2:decide (1≤x.op∧x.op≤8) <;> rw[h2]at h <;> simp_all
   by_cases h4:x.op=4
   ·rw[if_pos h4]at h1⊢;omega
   ·rw[if_neg h4]at h1⊢;omega
  ·replace hb2:=Qfg hb2;simp only[go_sem,Qoi,hb2,Qa8];exact rest _ (fun h=>by simp at h)
 ·replace hb1:=Qfg hb1;simp only[go_sem,Q0o,Qoi,hb1,Qa8,cond_true];exact rest _ (fun h=>by simp at h)
theorem Qbua (n:Nat):Qbhq n:=by
 induction n using Nat.strongRecOn with
 |ind n ih=>exact Qbq5 (Qbt9 ih)
theorem Qbva {f:Fn}(hf:Q8 f.body≤2^40)(hK:∀b:Bool,K (.c (.bool b)) H):Qu prog Qa4x [.ag f.cells] H K:=by
 refine Qb Qam Qbvf ?_;have retf:∀(b:Bool) (e:Env),lk 2 e=.c (.bool b)→Q7 Qbk3 K .ret e H:=by
  intro b e h1;simp only[go_sem,Q7,Qad,Qbk3,Ja,forall_eq,RS.op,h1];exact hK _
 refine Qa ?_;simp only[go_sem,Fn.cells];refine Q5 ?_;refine Qa ?_;simp only[go_sem];refine Qh (Qc (Qv (fun n e1 H1=>∃(i:Nat),n=f.params.length-i∧i≤f.params.length∧H1=H∧e1=[(1,.c (.pp [.str f.name,.sl false 1 (Qbs f.params),.sl false 5 (Qa6 f.body)])),(3,.c (.int .i64 i))]) f.params.length ?_ ?_))
 ·exact⟨0,by omega,by omega,rfl,rfl⟩
 ·rintro n e1 H1 ⟨i,hn1,hi,rfl,rfl⟩;refine Q5 ?_;refine Qa ?_;simp only[go_sem,Qav];intro hl;simp only[LIM]at hl;refine Qh (Qd rfl ?_ ?_)
  ·intro hc;have hlt:i<f.params.length:=by simpa using hc
   refine Qi ?_;simp only[go_sem];refine Qh (Qc ?_);refine Qa ?_;simp only[go_sem,hlt,Qav,Qjj _ _ hlt];refine Qad3 fun b=>?_;simp only[go_sem,Qa2b];refine Qd rfl ?_ ?_
   ·intro hc2;refine Qa ?_;simp only[go_sem];refine Qk ?_;simp only[go_sem,X.next];exact retf false _ (by simp[lk])
   ·intro hc2;refine Qi ?_;simp only[go_sem];refine Qq ?_;simp only[go_sem,X.next];exact⟨Qp (by omega) (by omega),f.params.length-(i+1),by omega,i+1,rfl,by omega,rfl⟩
  ·intro hc;refine Qs ?_;simp only[go_sem,X.next];refine Qa ?_;simp only[go_sem];refine Qad3 fun b=>?_;simp only[go_sem,Qa2c,Qav]
   intros
   refine⟨fun hb1=>?_,fun hb1=>?_⟩
   ·refine Qbua _ _ _ _ _ _ (Jf _) hf (by omega) fun b2=>?_;simp only[go_sem,Qahu];refine Qk ?_;exact retf _ _ (by simp[lk];rfl)
   ·simp only[go_sem,Qahu,hb1];refine Qk ?_;exact retf false _ (by simp[lk])
def Qbb:List Fn→Nat
 |[]=>0
 |f::r=>Q8 f.body+Qbb r
theorem Qsq {l:List Fn}{f:Fn}(h:f∈l):Q8 f.body≤Qbb l:=by
 induction l with
 |nil=>simp at h
 |cons g r ih=>
  simp only[Qbb];rcases List.mem_cons.1 h with rfl|h
  ·omega
  ·have:=ih h;omega
theorem Qjz (a b:List Fn):Qbb (a++b)=Qbb a+Qbb b:=by
 induction a with
 |nil=>simp[Qbb]
 |cons x r ih=>simp only[Jr,Qbb,ih];omega
theorem Qasj {l:List Fn}{i:Nat}(h:i<l.length):Qbb (l.take (i+1))=Qbb (l.take i)+Q8 (l[i]'h).body:=by
 rw[Jk h,Qjz];simp[Qbb]
theorem Qabl (l:List Fn)(i:Nat):Qbb (l.take i)≤Qbb l:=by
 conv=>rhs;rw[←Jw i l,Qjz]
 omega
theorem Qbta {l:List Fn}{fl:Bool}(hf:Qbb l≤2^40)(hK:∀n:Int,K (.c (.int .i64 n)) H):Qu prog Qark [.ag [.sl fl 3 (Qce l)]] H K:=by
 refine Qb Qam Qbtl ?_;refine Qa ?_;simp only[go_sem];refine Qa ?_;simp only[go_sem];refine Q5 ?_;refine Qa ?_;simp only[go_sem];refine Qh (Qc (Qv (fun n e1 H1=>∃(i v:Nat),n=l.length-i∧i≤l.length∧v≤Qbb (l.take i)∧H1=H∧e1=[(1,.c (.pp [.sl fl 3 (Qce l)])),(3,.c (.int .i64 v)),(4,.c (.int .i64 i))]) l.length ?_ ?_))
 ·exact⟨0,0,by omega,by omega,by omega,rfl,rfl⟩
 ·rintro n e1 H1 ⟨i,v,hn1,hi,hv,rfl,rfl⟩;refine Q5 ?_;refine Qa ?_;simp only[go_sem,Qbp];intro hl;simp only[LIM]at hl;refine Qh (Qd rfl ?_ ?_)
  ·intro hc;have hlt:i<l.length:=by simpa using hc
   have hm:=Qsq (Jc hlt);have htk:=Qasj hlt;have htl:=Qabl l (i+1);refine Qi ?_;simp only[go_sem];refine Qh (Qc (Qq ?_));simp only[go_sem,hlt,Qbp,Qh0 _ _ hlt,Fn.cells];refine Qbjh _ _ (Jf _) (by omega) fun c hc=>?_;simp only[go_sem,Qaq0];refine⟨Qp (by omega) (by omega),?_⟩;refine Qq ?_;simp only[go_sem,X.next];exact⟨Qp (by omega) (by omega),l.length-(i+1),by omega,i+1,v+c,rfl,by omega,by omega,rfl⟩
  ·intro hc;refine Qs ?_;simp only[go_sem,X.next];refine Qa ?_;simp only[go_sem];refine Qk ?_;simp only[go_sem,Q7,Qad,Qbk2,reduceIte,Ja,forall_eq,RS.op];exact hK _
theorem Qal1 {l:List Fn}{fl:Bool}(hf:Qbb l≤2^40)(hK:∀b:Bool,K (.c (.bool b)) H):Qu prog Qey [.ag [.sl fl 3 (Qce l)]] H K:=by
 refine Qb Qam Q5p ?_;have retf:∀(b:Bool) (e:Env),lk 2 e=.c (.bool b)→Q7 Qf6 K .ret e H:=by
  intro b e h1;simp only[go_sem,Q7,Qad,Qf6,Ja,forall_eq,RS.op,h1];exact hK _
 refine Qa ?_;simp only[go_sem];refine Q5 ?_;refine Qa ?_;simp only[go_sem,Qbp];intro hl;simp only[LIM]at hl;refine Qdc ?_;simp only[go_sem,Qhj];refine Qh (Qd rfl ?_ ?_)
 ·intro hc;refine Qa ?_;simp only[go_sem];refine Qk ?_;simp only[go_sem];exact retf false _ (by simp[lk])
 intro hc;refine Qi ?_;simp only[go_sem];refine Q5 ?_;refine Qa ?_;simp only[go_sem];refine Qh (Qc (Qv (fun n e1 H1=>∃(i:Nat),n=l.length-i∧i≤l.length∧H1=H∧e1=[(1,.c (.pp [.sl fl 3 (Qce l)])),(3,.c (.int .i64 i))]) l.length ?_ ?_))
 ·exact⟨0,by omega,by omega,rfl,rfl⟩
 ·rintro n e1 H1 ⟨i,hn1,hi,rfl,rfl⟩;refine Q5 ?_;refine Qa ?_;simp only[go_sem,Qbp];refine fun _=>?_;refine Qh (Qd rfl ?_ ?_)
  ·intro hc;have hlt:i<l.length:=by simpa using hc
   have hm:=Qsq (Jc hlt);refine Qi ?_;simp only[go_sem];refine Qh (Qc ?_);refine Qa ?_;simp only[go_sem,hlt,Qbp,Qh0 _ _ hlt,Fn.take3,Fn.allOw,Fn.cells_len];refine Qbva (by omega) fun b=>?_;simp only[go_sem,Qhk];refine Qd rfl ?_ ?_
   ·intro hc2;refine Qa ?_;simp only[go_sem];refine Qk ?_;simp only[go_sem,X.next];exact retf false _ (by simp[lk])
   ·intro hc2;refine Qi ?_;simp only[go_sem];refine Qq ?_;simp only[go_sem,X.next];exact⟨Qp (by omega) (by omega),l.length-(i+1),by omega,i+1,rfl,by omega,rfl⟩
  ·intro hc;refine Qs ?_;simp only[go_sem,X.next];refine Qa ?_;simp only[go_sem];refine Qbta hf fun n=>?_;simp only[go_sem,Qhl];refine Qk ?_;exact retf _ _ (by simp[lk];rfl)
end Go.AE.Y
namespace Go.AE.Y
open Go.Proofs.Tryz
structure PrOk (l:List Fn):Prop where
 pos:0<l.length
 par:∀f∈l,f.params.length≤3
 ok:∀f∈l,Qdb f.body
 size:Qbb l≤2^34
 len:l.length≤4
end Go.AE.Y
namespace Go.AE
open Go.AE.Y
open Go.Proofs.Tryz
theorem Kn.perm4 {H0 H:Heap}{E:List (Nat×Obj)}{a b c d:Nat×Obj}(kn:Kn H0 H E [a,b,c,d]):Kn H0 H E [a,b,d]:=
 Kn.drop (A:=[a,b,d]) (B:=[c]) (kn.perm (.cons _ (.cons _ (.swap _ _ _))))
end Go.AE
namespace Go.AE.Y
open Go.Proofs.Tryz
set_option maxHeartbeats 2000000 in
theorem Qbox {R:Rdr}{k:Nat}{H:Heap}{K:V→Heap→Prop}(hR:H R.l=R.o k)(hk:k+7000000≤2^30)
  (hK:∀(l:List Fn) (H':Heap) (k':Nat),k<k'→k'≤k+7000000→Upd H H' [(R.l,R.o k')]→PrOk l→K (.ag [.sl false 3 (Qce l)]) H') :
  Qu prog Qae3 [.c (.ptr R.l 0)] H K:=by
 refine Qt ?_;refine Qb Qam Qbpd ?_;refine Qa ?_;simp only[go_sem];intro x2 hx2 H1 h1;have kn:=(Kn.start1 hR (R.o_ne k)).al hx2 h1;refine Qa ?_;simp only[go_sem];refine Qls (ns:=[14,20,8,26]) (kn.e 0 rfl) (by omega) (by simp) fun v H2 hv hu=>?_;have kn:=kn.callE 0 rfl hu (R.o_ne _);simp only[go_sem,Qais];intro gl hgl H3 h3;have kn:Kn H H3 [(R.l,R.o (k+1))] [(x2,.st [.sl true 3 []]),(gl,GS.o ⟨[],(.sl true 3 [],[]),[],true,0,v⟩ R)]:=kn.al hgl h3;have hv26:0≤v∧v≤26:=by simp at hv;omega
 simp only[go_sem,Qair];have hne:R.l≠gl:=kn.ne 0 1 rfl rfl;refine Q5 ?_;refine Qa ?_;simp only[go_sem];refine Qls (ns:=[0,1,1,2]) (kn.e 0 rfl) (by omega) (by simp) fun cnt H4 hcnt hu=>?_;have kn:=kn.callE 0 rfl hu (R.o_ne _);have hc2:0≤cnt∧cnt≤2:=by simp at hcnt;omega
 simp only[go_sem,Qait];obtain⟨M,hM⟩:∃M:Nat,M=2001301:=⟨_,rfl⟩;refine Qh (Qc (Qv (fun n e1 H1=>∃(j k4:Nat) (s:GS),n=cnt.toNat-j∧(j:Int)≤cnt∧s.fns.length=j∧k+2≤k4∧k4≤k+2+M * j∧s.ok k4∧(∀f∈s.fns,Qdb f.body)∧4 * k+Qbb s.fns≤4 * k4∧
   Gr s.ffl.2 3 (Qce s.fns) s.ffl.1∧Kn H H1 [(R.l,R.o k4)] ([(x2,.st [.sl true 3 []]),(gl,s.o R)]++s.ffl.2)∧
   e1=[(0,.c (.ptr R.l 0)),(2,.c (.ptr x2 0)),(3,.c (.ptr gl 0)),(4,.c (.int .i64 (cnt-j)))]) cnt.toNat ?_ ?_))
 ·refine⟨0,k+2,⟨[],(.sl true 3 [],[]),[],true,0,v⟩,by omega,by omega,rfl,by omega,by omega,⟨?_,?_,?_,?_,by simp,by simp,by simp⟩,by simp,by simp only[Qbb];omega,.nil 3,kn,by simp⟩
  ·show -1≤(0:Int);omega
  ·show (0:Int)≤_;omega
  ·show _≤v;omega
  ·show v≤100;omega
 ·rintro n e1 H1 ⟨j,k4,s,hn,hj,hfl,hk4,hk4',hs,hfok,hsz,hgr,kn,rfl⟩;have hMj:M * j≤M * 2:=Jz _ (by omega);have hM1:M * (j+1)=M * j+M:=Jan _ _;have hG1:=kn.l 1 rfl;have hfow:=hgr.isOw;have hflen:=hgr.lenC;rw[Qbp]at hflen;refine Q5 ?_;refine Qa ?_;simp only[go_sem];refine Qh (Qd rfl ?_ ?_)
  ·intro hc;have hi:(j:Int)<cnt:=by simp at hc;omega
   refine Qi ?_;simp only[go_sem];refine Qh (Qc ?_);have hfok':=(hgr.okSl (B:=[_,_]) kn);have eg:List.getD [[C.str [102]],[C.str [103]],[C.str [104]]] s.fns.length []=[.str (List.getD [[102],[103],[104]] s.fns.length [])]:=Qjj [[102],[103],[104]] _ (by simp;omega);have hl3:s.fns.length<3:=by omega
   refine Qak ?_;simp only[go_sem,hG1,GS.o,hfow,hflen,eq_true hfok',eg,hl3];refine Qbd (kn.e 0 rfl) (by omega) fun p H2 hp hu=>?_;have kn:Kn H H2 [(R.l,R.o (k4+1))] ([(x2,.st [.sl true 3 []]),(gl,s.o R)]++s.ffl.2):=kn.callE 0 rfl hu (R.o_ne _);rw[if_neg (by omega)]at hp;have hG2:=kn.l 1 rfl;have hfok2:=(hgr.okSl (B:=[_,_]) kn);simp only[go_sem,Qaiw,hG2,GS.o,hfow,hflen,eq_true hfok2,eg,hl3];have hF:FnsOk H2 R gl s:=⟨hgr,fun q hq=>by
    have h1:=kn.get q (Jh _ (Jh _ hq));refine⟨h1.1,fun hh=>?_,fun hh=>?_⟩
    ·exact kn.usedE 0 rfl (hh▸kn.loc q (Jh _ hq))
    ·have:=kn.dL;rw[Jv]at this;exact (J9.1 this).2.2 gl (by simp) q.1 (Qaq hq) hh.symm⟩
   refine Qaqd hp.1 (by omega) (kn.e 0 rfl) (kn.l 1 rfl) hne (hs.mono (Jai k4)) hF (by omega) fun f s2 H5 k5 g1 g2 hu hs2 g3 g4 g5 g6 g7=>?_;have kn:=kn.callEL 0 1 rfl rfl hu (R.o_ne _) (GS.o_ne _ _);have kn:Kn H H5 [(R.l,R.o k5)] ([(x2,.st [.sl true 3 []]),(gl,s2.o R)]++s.ffl.2):=kn;simp only[go_sem,Qaiv];intro x5 hx5 H6 h6;have kn:=kn.al hx5 h6;have kn:=kn.perm (L':=[(x2,_),(gl,_),(x5,_)]++s.ffl.2) (by
    simp only[Jr,Jq,Jj];exact .cons _ (.cons _ Ji))
   have hG6:=kn.l 1 rfl;have hx56:=kn.l 2 rfl;have hfok6:=(hgr.okSl (B:=[_,_,_]) kn);simp only[go_sem,Qaiu,hG6,hx56,GS.o,g3,g4,hfow,hflen,eq_true hfok6,eg,hl3,Fn.cells];intro H7 h7;have kn:Kn H H7 [(R.l,R.o k5)] ([(x2,_),(gl,_),(x5,_)]++s.ffl.2):=kn.stL 2 rfl h7;have hG7:=kn.l 1 rfl;have hx57:=kn.l 2 rfl;refine Qbh ?_;simp only[go_sem,hG7,hx57,GS.o,g4,hfow];refine kn.grow (B:=[_,_,_]) (new:=[f.cells]) hgr (.mk' _ _ _ _) (by simp[f.noOw]) (by simp only[Qbp,LIM,Jl,Jn];omega) fun z H8 kn=>?_;have hG8:=kn.l 1 rfl;simp only[go_sem,Qaix,hG8,GS.o];intro H9 h9;have kn:=kn.stL 1 rfl h9;obtain⟨s9,hs9⟩:∃s9:GS,s9=GS.mk (s.fns++[f]) (C.vsl z 3 0 ((Qce s.fns).length+1),[(z,Obj.vec 3 (Qce s.fns++[f.cells]))]) s2.vars s2.vfl s2.next s2.left:=⟨_,rfl⟩;have ho9:s9.o R=.st [C.ptr R.l 0,C.vsl z 3 0 ((Qce s.fns).length+1),C.sl s2.vfl 1 (Qbs s2.vars),C.int IntKind.i64 s2.next,C.int IntKind.i64 s2.left]:=by rw[hs9];rfl
   rw[←ho9]at kn;have kn:Kn H H9 [(R.l,R.o k5)] [(x2,_),(gl,s9.o R),(x5,_),(z,_)]:=kn;have kn:=kn.perm4;refine Qq ?_;simp only[go_sem,X.next];have hkb:k5≤k+2+M * (j+1):=by rw[hM1];omega
   refine⟨Qp (by omega) (by omega),cnt.toNat-(j+1),by omega,j+1,k5,s9,rfl,by omega,by simp[hs9,hfl],by omega,hkb,?_,?_,?_,?_,by rw[hs9]at kn⊢;exact kn,?_⟩
   ·subst hs9;refine⟨hs2.n0,hs2.n1,hs2.l0,hs2.l1,hs2.v,fun f' hf'=>?_,by simp;omega⟩;rcases Jm.1 hf' with h|h
    ·exact hs.f f' h
    ·simp at h;subst h;exact g5
   ·subst hs9;intro f' hf';rcases Jm.1 hf' with h|h
    ·exact hfok f' h
    ·simp at h;subst h;exact g6
   ·subst hs9;simp only[Qjz,Qbb];omega
   ·subst hs9;show Gr [(z,Obj.vec 3 (Qce s.fns++[f.cells]))] 3 (Qce (s.fns++[f])) _;rw[Qap9];exact .mk _ _ _ (by simp[Qbp])
   ·have:cnt-((j+1:Nat):Int)=cnt-j-1:=(by omega);rw[this]
  ·intro hc;refine Qs ?_;simp only[go_sem,X.next];have hkE:k4≤k+4002604:=by omega
   refine Qa ?_;simp only[go_sem];refine Qls (ns:=[0,1,2,1]) (kn.e 0 rfl) (by omega) (by simp) fun p H2 hp hu=>?_;have kn:Kn H H2 [(R.l,R.o (k4+1))] ([(x2,.st [.sl true 3 []]),(gl,s.o R)]++s.ffl.2):=kn.callE 0 rfl hu (R.o_ne _);have hp2:0≤p∧p≤3:=by simp at hp;omega
   simp only[go_sem,Q99];have hF:FnsOk H2 R gl s:=⟨hgr,fun q hq=>by
    have h1:=kn.get q (Jh _ (Jh _ hq));refine⟨h1.1,fun hh=>?_,fun hh=>?_⟩
    ·exact kn.usedE 0 rfl (hh▸kn.loc q (Jh _ hq))
    ·have:=kn.dL;rw[Jv]at this;exact (J9.1 this).2.2 gl (by simp) q.1 (Qaq hq) hh.symm⟩
   refine Qaqd hp2.1 hp2.2 (kn.e 0 rfl) (kn.l 1 rfl) hne (hs.mono (Jai k4)) hF (by omega) fun f s2 H5 k5 g1 g2 hu hs2 g3 g4 g5 g6 g7=>?_;have kn:=kn.callEL 0 1 rfl rfl hu (R.o_ne _) (GS.o_ne _ _);have kn:Kn H H5 [(R.l,R.o k5)] ([(x2,.st [.sl true 3 []]),(gl,s2.o R)]++s.ffl.2):=kn;simp only[go_sem,Q98];intro x6 hx6 H6 h6;have kn:=kn.al hx6 h6;have kn:=kn.perm (L':=[(x2,_),(gl,_),(x6,_)]++s.ffl.2) (by
    simp only[Jr,Jq,Jj];exact .cons _ (.cons _ Ji))
   have hx66:=kn.l 2 rfl;simp only[go_sem,Q97,hx66,Fn.cells];intro H7 h7;have kn:Kn H H7 [(R.l,R.o k5)] ([(x2,_),(gl,_),(x6,_)]++s.ffl.2):=kn.stL 2 rfl h7;have hG7:=kn.l 1 rfl;have hx67:=kn.l 2 rfl;have hfok7:=hgr.okSl (B:=[_,_,_]) kn;have hrows7:=hgr.rowsOf (B:=[_,_,_]) kn;have hesz:=hgr.elemSz;have hL:s.fns.length≤LIM:=by simp only[LIM];omega
   refine Qak ?_;simp only[go_sem,hG7,hx67,GS.o,g4,hfow,hflen,eq_true hfok7,hrows7,hesz,hL,Jg];refine⟨.inl trivial,Qap8 _,fun y hy H8 h8=>?_⟩;have kn:=kn.al hy h8;have kn:=kn.perm (L':=([(x2,_),(gl,_),(x6,_)]++[(y,_)])++s.ffl.2) Qbvo;have kn:=kn.drop;have hx68:=kn.l 2 rfl;have kn:Kn H H8 [(R.l,R.o k5)] [(x2,_),(gl,_),(x6,_),(y,_)]:=kn;have hy8:=kn.l 3 rfl;have etk:List.take s.fns.length (Qce s.fns)=Qce s.fns:=Jd (by rw[Qbp];omega);simp only[go_sem,Qaac,hx68,hy8,Qbp,etk];refine⟨by omega,by simp only[LIM];omega,fun z hz H9 h9=>?_⟩;have kn:Kn H H9 [(R.l,R.o k5)] [(x2,_),(gl,_),(x6,_),(z,.vec 3 (Qce s.fns++[f.cells]))]:=kn.ap 3 rfl hz h9;simp only[go_sem,Qaab];intro x7 hx7 H10 h10;have kn:=kn.al hx7 h10;have hG10:=kn.l 1 rfl;have hx6a:=kn.l 2 rfl;have hx7a:=kn.l 4 rfl;have kn:Kn H H10 [(R.l,R.o k5)] [(x2,_),(gl,_),(x6,_),(z,_),(x7,_)]:=kn;simp only[go_sem,Qaaa,hG10,hx6a,hx7a,GS.o,g4,hfow];intro H11 h11;have kn:=kn.stL 4 rfl h11;have kn:Kn H H11 [(R.l,R.o k5)] ([(x2,.st [.sl true 3 []]),(x7,.st [.vsl z 3 0 (s.fns.length+1)])]++[(z,.vec 3 (Qce s.fns++[f.cells]))]):=
    (kn.perm (L':=([(x2,_),(x7,_)]++[(z,_)])++[(gl,_),(x6,_)]) (by
     simp only[List.set,Jr,Jq];refine .cons _ ?_;refine .trans (.cons _ (.cons _ (.swap _ _ _))) ?_;refine .trans (.cons _ (.swap _ _ _)) ?_;refine .trans (.swap _ _ _) ?_;refine .cons _ ?_;refine .trans (.cons _ (.swap _ _ _)) ?_;exact .swap _ _ _)).drop
   have hz11:=kn.l 2 rfl;have hx711:=kn.l 1 rfl;obtain⟨hfz,kn⟩:=kn.freeze 1 rfl (og':=.st [.sl false 3 (Qce (s.fns++[f]))]) (FrzKL.st (.cons rfl (by
    rw[←Qap9];exact Qaro (by simp) hz11 (by simp[Qbp]) (noOw_mem (Qbpu (Qap8 _) (by simp[f.noOw])))) .nil)) (by simp)
   refine Q5 ?_;refine c_gh (Qh1 _ (fun t=>?_) hfz) (e':=[(2,V.c (C.ptr x2 0)),(7,V.c (C.ptr x7 0))]) ?_
   ·simp only[lk];split
    ·exact .c _ _ (.same _ rfl)
    ·split
     ·exact .c _ _ (.same _ rfl)
     ·exact .unk _
   generalize ((H11.frz fun m=>m == z).set x7 (Obj.st [C.sl false 3 (Qce (s.fns++[f]))]))=H12 at *;have hx7b:=kn.l 1 rfl;have hx2b:=kn.l 0 rfl;have hpr:Qbb (s.fns++[f])≤2^34:=by rw[Qjz];simp only[Qbb];omega
   refine Qa ?_;simp only[go_sem,hx7b];refine Qal1 (by omega) fun b=>?_;simp only[go_sem,Qaad];refine Qh (Qd rfl ?_ ?_)
   ·intro hc;refine Qa ?_;simp only[go_sem,hx2b];intro H13 h13;have kn:=kn.stL 0 rfl h13;have hx2c:=kn.l 0 rfl;refine Qk ?_;simp only[go_sem,Q7,Qad,Qasm,reduceIte,Ja,forall_eq,RS.op,hx2c];refine⟨.ag [.sl false 3 (Qce [Fn.mk [109] [] [St.mk 3 [] [Ex.mk 1 1 [] []] [] []]])],FrzL.ag ?_,hK _ _ k5 (by omega) (by omega) kn.fin ⟨by simp,by simp,?_,?_,by simp⟩⟩
    ·simp only[Qce,Jaj,Jal,Fn.cells,Qarb,Qa6,St.cells,Qbv,Ex.cells]
     repeat' first|exact FrzL.nil|exact FrzR.nil|exact Qf rfl|exact FrzL.same (Ex.noOw _)|exact FrzL.same (St.noOw _)|refine FrzL.cons ?_ ?_|refine FrzR.cons ?_ ?_|refine FrzR.sl ?_
    ·intro f hf;simp at hf;subst hf;simp[Qdb,St.ok,Qes,Ex.ok]
    ·simp[Qbb,Q8,St.size,Qal,Ex.size]
   ·intro hc;refine Qi ?_;simp only[go_sem];refine Qa ?_;simp only[go_sem,hx2b,hx7b];intro H13 h13;have kn:=kn.stL 0 rfl h13;have hx2c:=kn.l 0 rfl;refine Qk ?_;simp only[go_sem,Q7,Qad,Qasm,reduceIte,Ja,forall_eq,RS.op,hx2c];refine⟨.ag [.sl false 3 (Qce (s.fns++[f]))],FrzL.ag (.cons (Qf rfl) .nil),hK _ _ k5 (by omega) (by omega) kn.fin ⟨by simp,?_,?_,hpr,by simp;omega⟩⟩
    ·intro f' hf';rcases Jm.1 hf' with h|h
     ·exact hs.f f' h
     ·simp at h;subst h;exact g5
    ·intro f' hf';rcases Jm.1 hf' with h|h
     ·exact hfok f' h
     ·simp at h;subst h;exact g6
variable {F H:Heap}{w:Nat}{s:LS}{K:V→Heap→Prop}
structure LStep (s s':LS)(d:Nat):Prop where
 bl:s.blocks.length≤s'.blocks.length
 ok:∀N,s.ok N→s'.ok (N+d)
 vl:s.vars.length≤s'.vars.length
 at_:s.at_<s.blocks.length→s'.at_<s'.blocks.length
 fn:s'.fns=s.fns∧s'.pfl=s.pfl
theorem LStep.trans {s s' s'':LS}{d e:Nat}(h:LStep s s' d)(k:LStep s' s'' e):LStep s s'' (d+e):=
 ⟨Jaa h.bl k.bl,fun N hN=>by rw[←Nat.add_assoc];exact k.ok _ (h.ok N hN),Jaa h.vl k.vl,fun ha=>k.at_ (h.at_ ha),k.fn.1.trans h.fn.1,k.fn.2.trans h.fn.2⟩
theorem LStep.refl (s:LS):LStep s s 0:=⟨Jf _,fun N h=>h,Jf _,fun h=>h,rfl,rfl⟩
theorem LStep.mono {s s':LS}{d e:Nat}(h:LStep s s' d)(hd:d≤e):LStep s s' e:=⟨h.bl,fun N hN=>(h.ok N hN).mono (by omega),h.vl,h.at_,h.fn⟩
theorem Qsg {N:Nat}(h:LInv F H w s)(hok:s.ok N)(hN:N+1≤2^38)(hK:∀(s':LS) (H':Heap),LInv F H' w s'→LStep s s' 1→K (.c (.int .i64 s.regs)) H') :
  Qu prog Qa7 [.c (.ptr w 0)] H K:=by
 have hw:=h.hw;have h0:=hok.r0;have h1:=hok.r1;refine Qb Qam Qasb ?_;refine Qa ?_;simp only[go_sem];refine Qa ?_;simp only[go_sem,hw,LS.o];refine⟨Qp (by omega) (by omega),fun H1 h1'=>?_⟩;have h':LInv F H1 w { s with regs:=s.regs+1 }:=h.setw h1' rfl rfl rfl rfl h.gv h.rv;have hw1:=h'.hw;refine Qa ?_;simp only[go_sem,hw1,LS.o];refine⟨Qp (by omega) (by omega),?_⟩;refine Qk ?_;simp only[go_sem,Q7,Qad,Q18,reduceIte,Ja,forall_eq,RS.op];refine hK _ H1 h' ⟨Jf _,fun M hM=>⟨?_,?_,hM.n0,?_,?_,?_,?_⟩,Jf _,fun h=>h,rfl,rfl⟩
 ·have:=hM.r0;show 0≤s.regs+1;omega
 ·have:=hM.r1;show s.regs+1≤_;omega
 ·have:=hM.n1;show s.next≤_;omega
 ·have:=hM.b1;show s.blocks.length≤_;omega
 ·intro b hb;have:=hM.i1 b hb;omega
 ·have:=hM.v1;show s.vars.length≤_;omega
theorem Qav1 {N:Nat}(h:LInv F H w s)(hok:s.ok N)(hN:N+1≤2^38)(hK:∀(s':LS) (H':Heap),LInv F H' w s'→LStep s s' 1→s.blocks.length<s'.blocks.length→s'.at_=s.at_→K (.c (.int .i64 s.blocks.length)) H') :
  Qu prog Qar [.c (.ptr w 0)] H K:=by
 have hw:=h.hw;have hb1:=hok.b1;have hbow:=h.gb.isOw;refine Qb Qam Qasa ?_;refine Qa ?_;simp only[go_sem];refine Qa ?_;simp only[go_sem,hw,LS.o,hbow];refine h.addBlk (b:=⟨.sl true 4 [],[],[],0,0,true,[]⟩) (by simp only[LIM];omega) rfl rfl rfl fun y H1 hw1 cont=>?_;simp only[go_sem,Qpz,hw1,LS.o];intro H2 h2;have h':=cont H2 h2;have hw2:=h'.hw;obtain⟨y2,hv1,hv2,hv3⟩:=h'.bvec (by simp);simp only[C.vsl.injEq]at hv1;obtain⟨rfl,_⟩:=hv1;refine Qa ?_;simp only[go_sem,hw2,LS.o,hv3,Je,List.length_append];refine⟨by omega,fun hl=>⟨Qp (by omega) (by omega),?_⟩⟩;refine Qk ?_;simp only[go_sem,Q7,Qad,Q17,reduceIte,Ja,forall_eq,RS.op];have e1:(((s.blocks.length+1:Nat):Int)-1)=s.blocks.length:=by omega
 rw[e1];refine hK _ H2 h' ⟨by simp,fun M hM=>⟨hM.r0,?_,hM.n0,?_,?_,?_,?_⟩,Jf _,fun ha=>by simp;show s.at_<_;omega,rfl,rfl⟩ (by simp) rfl
 ·have:=hM.r1;show s.regs≤_;omega
 ·have:=hM.n1;show s.next≤_;omega
 ·have:=hM.b1;simp;omega
 ·intro b hb;rcases Jm.1 hb with hb|hb
  ·have:=hM.i1 b hb;omega
  ·simp at hb;subst hb;simp
 ·have:=hM.v1;show s.vars.length≤_;omega
theorem Qhm {N:Nat}(h:LInv F H w s)(hok:s.ok N)(hN:N+1≤2^38)(hK:∀(s':LS) (H':Heap),LInv F H' w s'→LStep s s' 1→s.blocks.length<s'.blocks.length→K (.c (.int .i64 s.blocks.length)) H') :
  Qu prog Qar [.c (.ptr w 0)] H K:=Qav1 h hok hN fun s' H' a b c _=>hK s' H' a b c
theorem Q5t {N:Nat}{op to n:Int}{fl:Bool}{args:List Int}(h:LInv F H w s)(hat:s.at_<s.blocks.length)(hok:s.ok N)(hN:N+1≤2^38)
  (hK:∀(s':LS) (H':Heap),LInv F H' w s'→LStep s s' 1→K (.c (.int .i64 to)) H') :
  Qu prog Qaw [.c (.ptr w 0),.c (.int .i64 op),.c (.int .i64 to),.c (.int .i64 n),.c (.sl fl 1 (Qe args))] H K:=by
 have hw:=h.hw;obtain⟨y,hbc,hlb,hy⟩:=h.bvec (by omega);have hm:=Jc hat;have hi1:=hok.i1 _ hm;have hiow:=(h.gi _ hm).isOw;have hg1:List.getD (List.map Blk.row s.blocks) s.at_ []=s.blocks[s.at_].row:=by simp[Jb,hat]
 have hg2:List.getD (List.take s.blocks.length (List.map Blk.row s.blocks)) s.at_ []=s.blocks[s.at_].row:=by
  rw[Jd (by simp)];exact hg1
 refine Qb Qam Qa5m ?_;refine Qa ?_;simp only[go_sem];refine Qak ?_;simp only[go_sem,hw,LS.o,hbc,hy,hat,Jg,Je];refine Qa ?_;simp only[go_sem,hw,LS.o,hbc,hy,hat,hg2,Blk.row,hiow,Jg,Je];refine h.addIns hat hbc hlb ⟨op,to,n,fl,args,rfl⟩ (by simp only[LIM];omega) fun z H1 hw1 hy1 cont=>?_;simp only[go_sem,Qy1,hy1,hg1,hat,Blk.row,Jg,Je];intro H2 h2;obtain⟨b',hb',h'⟩:=cont H2 h2;refine Qa ?_;simp only[go_sem];refine Qk ?_;simp only[go_sem,Q7,Qad,Qagk,reduceIte,Ja,forall_eq,RS.op];refine hK _ H2 h' ⟨by simp,fun M hM=>⟨hM.r0,?_,hM.n0,?_,?_,?_,?_⟩,Jf _,fun ha=>by simp;show s.at_<_;omega,rfl,rfl⟩
 ·have:=hM.r1;show s.regs≤_;omega
 ·have:=hM.n1;show s.next≤_;omega
 ·have:=hM.b1;simp;omega
 ·intro b hb;rcases Qf3 hb with rfl|hb
  ·have:=hM.i1 _ hm;omega
  ·have:=hM.i1 b hb;omega
 ·have:=hM.v1;show s.vars.length≤_;omega
theorem Qxn {N:Nat}{kind on:Int}{at':Nat}{fl:Bool}{next:List Int}(h:LInv F H w s)(hat:s.at_<s.blocks.length)(hat':at'<s.blocks.length)
  (hK:∀(s':LS) (H':Heap),LInv F H' w s'→LStep s s' 0→K (.tup []) H') :
  Qu prog Qa2 [.c (.ptr w 0),.c (.int .i64 kind),.c (.int .i64 on),.c (.sl fl 1 (Qe next)),.c (.int .i64 at')] H K:=by
 have hw:=h.hw;obtain⟨y,hbc,hlb,hy⟩:=h.bvec (by omega);have hm:=Jc hat;have hg1:List.getD (List.map Blk.row s.blocks) s.at_ []=s.blocks[s.at_].row:=by simp[Jb,hat]
 refine Qb Qam Qaw1 ?_;refine Qak ?_;simp only[go_sem,hw,LS.o,hbc,hy,hat,Jg,Je];refine Qa ?_;simp only[go_sem,hy,hg1,hat,Blk.row,Jg,Je];intro H1 h1;have h1:H1=H.set y (.vec 5 ((s.blocks.set s.at_ { s.blocks[s.at_]with jump:=kind }).map Blk.row)):=by rw[h1,←Qafq];rfl
 have hv:=h.setBlk hat hbc hlb h1 rfl rfl rfl;obtain⟨b1,hb1,hb1l,hb1i⟩:∃b1:Blk,b1={ s.blocks[s.at_]with jump:=kind }∧b1.irows=s.blocks[s.at_].irows∧b1.ic=s.blocks[s.at_].ic:=⟨_,rfl,rfl,rfl⟩;rw[←hb1]at hv h1;have hy1:H1 y=.vec 5 ((s.blocks.set s.at_ b1).map Blk.row):=by rw[h1];exact Heap.set_same _ _ _
 have hg2:List.getD ((s.blocks.set s.at_ b1).map Blk.row) s.at_ []=b1.row:=by simp[Jb,hat]
 refine Qa ?_;simp only[go_sem,hy1,hg2,hat,Blk.row,Jg,Je,Jah];intro H2 h2;have h2:H2=H1.set y (.vec 5 (((s.blocks.set s.at_ b1).set s.at_ { b1 with on:=on }).map Blk.row)):=by rw[h2];simp only[Jt];rfl
 have hv:=hv.setBlk (i:=s.at_) (b':={ b1 with on:=on }) (by simpa using hat) (by simpa using hbc) (by rfl) h2 (by simp) (by simp) (by simp);simp only[Jam]at hv h2;obtain⟨b2,hb2,hb2i⟩:∃b2:Blk,b2={ b1 with on:=on }∧b2.irows=b1.irows:=⟨_,rfl,rfl⟩;rw[←hb2]at hv h2;have hy2:H2 y=.vec 5 ((s.blocks.set s.at_ b2).map Blk.row):=by rw[h2];exact Heap.set_same _ _ _
 have hg3:List.getD ((s.blocks.set s.at_ b2).map Blk.row) s.at_ []=b2.row:=by simp[Jb,hat]
 refine Qa ?_;simp only[go_sem,hy2,hg3,hat,Blk.row,Jg,Je,Jah];intro H3 h3;have h3:H3=H2.set y (.vec 5 (((s.blocks.set s.at_ b2).set s.at_ { b2 with next:=next,nfl:=fl }).map Blk.row)):=by rw[h3];simp only[Jt];rfl
 have hv:=hv.setBlk (i:=s.at_) (b':={ b2 with next:=next,nfl:=fl }) (by simpa using hat) (by simpa using hbc) (by rfl) h3 (by simp) (by simp) (by simp);simp only[Jam]at hv;have hw3:=hv.hw;refine Qq ?_;simp only[go_sem,hw3,LS.o];intro H4 h4;have h':=hv.setw (s':={ s with lb:=[(y,.vec 5 ((s.blocks.set s.at_ { b2 with next:=next,nfl:=fl }).map Blk.row))],blocks:=s.blocks.set s.at_ { b2 with next:=next,nfl:=fl },at_:=at' }) h4 rfl rfl rfl rfl hv.gv hv.rv;simp only[Q7,Qad,Q8a];refine⟨by simp,hK _ H4 h' ⟨by simp,fun M hM=>⟨hM.r0,hM.r1,hM.n0,hM.n1,?_,?_,hM.v1⟩,Jf _,fun ha=>by simpa using hat',rfl,rfl⟩⟩
 ·have:=hM.b1;simpa using this
 ·intro b hb;rcases Qf3 hb with rfl|hb
  ·show b2.irows.length≤_;rw[hb2i,hb1l];exact hM.i1 _ hm
  ·exact hM.i1 b hb
theorem Qbuo {l:List Fn}{fl:Bool}{name:List UInt8}(hK:∀n:Int,K (.c (.int .i64 n)) H):Qu prog Q5j [.ag [.sl fl 3 (Qce l)],.c (.str name)] H K:=by
 refine Qb Qam Qbkh ?_;have retf:∀(n:Int) (e:Env),lk 4 e=.c (.int .i64 n)→Q7 Qagl K .ret e H:=by
  intro b e h1;simp only[go_sem,Q7,Qad,Qagl,Ja,forall_eq,RS.op,h1];exact hK _
 refine Qa ?_;simp only[go_sem];refine Q5 ?_;refine Qa ?_;simp only[go_sem];refine Qh (Qc (Qv (fun n e1 H1=>∃(i:Nat),n=l.length-i∧i≤l.length∧H1=H∧e1=[(1,.c (.str name)),(2,.c (.pp [.sl fl 3 (Qce l)])),(5,.c (.int .i64 i))]) l.length ?_ ?_))
 ·exact⟨0,by omega,by omega,rfl,rfl⟩
 ·rintro n e1 H1 ⟨i,hn1,hi,rfl,rfl⟩;refine Q5 ?_;refine Qa ?_;simp only[go_sem,Qbp];intro hl;simp only[LIM]at hl;refine Qh (Qd rfl ?_ ?_)
  ·intro hc;have hlt:i<l.length:=by simpa using hc
   refine Qi ?_;simp only[go_sem];refine Qh (Qc ?_);refine Qa ?_;simp only[go_sem,hlt,Qbp,Qh0 _ _ hlt,Fn.cells];refine Qd rfl ?_ ?_
   ·intro hc2;refine Qa ?_;simp only[go_sem];refine Qk ?_;simp only[go_sem,X.next];exact retf _ _ (by simp[lk];rfl)
   ·intro hc2;refine Qi ?_;simp only[go_sem];refine Qq ?_;simp only[go_sem,X.next];exact⟨Qp (by omega) (by omega),l.length-(i+1),by omega,i+1,rfl,by omega,rfl⟩
  ·intro hc;refine Qs ?_;simp only[go_sem,X.next];refine Qa ?_;simp only[go_sem];refine Qk ?_;exact retf _ _ (by simp[lk];rfl)
theorem Qbvq {name:List UInt8}(h:LInv F H w s)(hK:∀n:Int,K (.c (.int .i64 n)) H):Qu prog Qju [.c (.ptr w 0),.c (.str name)] H K:=by
 have hw:=h.hw;obtain⟨hv1,hv2⟩:=h.vget;have hvl:=h.gv.lenC;have hve:=h.gv.elemSz;have hvo:=h.gv.isOw;refine Qb Qam Qa5n ?_;have retf:∀(n:Int) (e:Env),lk 4 e=.c (.int .i64 n)→Q7 Qzk K .ret e H:=by
  intro b e h1;simp only[go_sem,Q7,Qad,Qzk,Ja,forall_eq,RS.op,h1];exact hK _
 refine Qa ?_;simp only[go_sem];refine Q5 ?_;refine Qa ?_;simp only[go_sem,hw,LS.o,hv1,hvl,hvo];intro hl;simp only[LIM]at hl;refine⟨Qp (by omega) (by omega),?_⟩;refine Qh (Qc (Qv (fun n e1 H1=>∃(j:Nat),n=j∧j≤s.vars.length∧H1=H∧e1=[(0,.c (.ptr w 0)),(1,.c (.str name)),(5,.c (.int .i64 ((j:Int)-1)))]) s.vars.length ?_ ?_))
 ·exact⟨s.vars.length,rfl,by omega,rfl,rfl⟩
 ·rintro n e1 H1 ⟨j,hnj,hj,rfl,rfl⟩;refine Q5 ?_;refine Qa ?_;simp only[go_sem];refine Qh (Qd rfl ?_ ?_)
  ·intro hc;have hj1:1≤j:=by simp at hc;omega
   obtain⟨i,rfl⟩:∃i,j=i+1:=⟨j-1,by omega⟩;have e1:(((i+1:Nat):Int)-1)=(i:Int):=by omega
   have hlt:i<s.vars.length:=by omega
   obtain⟨nm,a,b,hr⟩:=h.rv _ (Jc hlt);have hr':List.getD s.vars i []=[.str nm,.int .i64 a,.int .i64 b]:=by rw[←hr];simp[Jb,hlt]
   rw[e1]at hc⊢;refine Qi ?_;simp only[go_sem];refine Qh (Qc ?_);refine Qa ?_;simp only[go_sem,hw,LS.o,hv1,hv2,hvl,hvo,hve,hlt,hr'];refine Qd rfl ?_ ?_
   ·intro hc2;refine Qa ?_;simp only[go_sem,hw,LS.o,hv1,hv2,hvl,hvo,hve,hlt,hr'];refine Qk ?_;simp only[go_sem,X.next];exact retf _ _ (by simp[lk];rfl)
   ·intro hc2;refine Qi ?_;simp only[go_sem];refine Qq ?_;simp only[go_sem,X.next];exact⟨Qp (by omega) (by omega),i,by omega,i,rfl,by omega,rfl⟩
  ·intro hc;refine Qs ?_;simp only[go_sem,X.next];refine Qa ?_;simp only[go_sem];refine Qk ?_;exact retf _ _ (by simp[lk];rfl)
def Qbnk (n:Nat):Prop:=∀(x:Ex) (F H:Heap) (w:Nat) (s:LS) (N:Nat) (K:V→Heap→Prop),x.size≤n→x.ok→LInv F H w s→s.at_<s.blocks.length→s.ok N→N+10 * x.size≤2^38→
  (∀(v:Int) (s':LS) (H':Heap),LInv F H' w s'→LStep s s' (10 * x.size)→K (.c (.int .i64 v)) H')→Qu prog Qcd [.c (.ptr w 0),.ag x.cells] H K
def AndL (n:Nat):Prop:=∀(x:Ex) (F H:Heap) (w:Nat) (s:LS) (N:Nat) (K:V→Heap→Prop),x.size≤n→x.ok→x.op=10→LInv F H w s→s.at_<s.blocks.length→s.ok N→N+10 * x.size≤2^38→
  (∀(v:Int) (s':LS) (H':Heap),LInv F H' w s'→LStep s s' (10 * x.size)→K (.c (.int .i64 v)) H')→Qu prog Qse [.c (.ptr w 0),.ag x.cells] H K
theorem Qbus {n:Nat}(hE:∀m,m<n→Qbnk m):AndL n:=by
 intro x F H w s N K hn hok hop h hat hsok hN hK;have hsz:=x.size_kids;have hk2:=Ex.ok_and hok hop;have hkok:=Ex.ok_kids hok;obtain⟨a,b,hab⟩:∃a b,x.kids=[a,b]:=by
  match hx:x.kids,hk2 with
  |[a,b],_=>exact⟨a,b,rfl⟩
 rw[hab]at hsz hkok;simp only[Qal,Qes]at hsz hkok;refine Qb Qam Qa5l ?_;refine Qa ?_;simp only[go_sem,x.cells_eq];refine Qa ?_;simp only[go_sem,hab,Qbv,Ex.take4,Ex.allOw,Ex.cells_len,Jx];refine⟨by omega,?_⟩;refine hE a.size (by omega) a F H w s N _ (Jf _) hkok.1 h hat hsok (by omega) fun va s1 H1 h1 st1=>?_;simp only[go_sem,Qyt];refine Qa ?_;simp only[go_sem];refine Qsg h1 (st1.ok _ hsok) (by omega) fun s2 H2 h2 st2=>?_;have st2:=st1.trans st2;simp only[go_sem,Qyv];refine Q5t (args:=[]) h2 (st2.at_ hat) (st2.ok _ hsok) (by omega) fun s3 H3 h3 st3=>?_;have st3:=st2.trans st3;simp only[go_sem,Qyu];refine Qa ?_;simp only[go_sem];refine Qhm h3 (st3.ok _ hsok) (by omega) fun s4 H4 h4 st4 hb4=>?_;have st4':=st4;have st4:=st3.trans st4;simp only[go_sem,Qyw];refine Qa ?_;simp only[go_sem];refine Qhm h4 (st4.ok _ hsok) (by omega) fun s5 H5 h5 st5 hb5=>?_;have st5:=st4.trans st5;simp only[go_sem,Qyx];refine Qa ?_;simp only[go_sem];refine Qxn (next:=[(s3.blocks.length:Int),(s4.blocks.length:Int)]) (N:=0) h5 (st5.at_ hat) (by omega) fun s6 H6 h6 st6=>?_;have hb6:=st6.bl;have st6:=st5.trans st6;refine Qa ?_;simp only[go_sem,hab,Qbv,Ex.take4,Ex.allOw,Ex.cells_len,Jx,J6];refine⟨by omega,?_⟩;refine hE b.size (by omega) b F H6 w s6 _ _ (Jf _) hkok.2.1 h6 (st6.at_ hat) (st6.ok _ hsok) (by omega) fun vb s7 H7 h7 st7=>?_;have hb7:=st7.bl;have st7:=st6.trans st7;simp only[go_sem,Qyy];refine Qa ?_;simp only[go_sem];refine Qsg h7 (st7.ok _ hsok) (by omega) fun s8 H8 h8 st8=>?_;have hb8:=st8.bl;have st8:=st7.trans st8;simp only[go_sem,Qy0];refine Q5t (args:=[vb]) h8 (st8.at_ hat) (st8.ok _ hsok) (by omega) fun s9 H9 h9 st9=>?_;have hb9:=st9.bl;have st9:=st8.trans st9;simp only[go_sem,Qyz];refine Qa ?_;simp only[go_sem];refine Q5t (args:=[s7.regs]) h9 (st9.at_ hat) (st9.ok _ hsok) (by omega) fun s10 H10 h10 st10=>?_;have hb10:=st10.bl;have st10:=st9.trans st10;refine Qa ?_;simp only[go_sem];refine Qxn (next:=[(s4.blocks.length:Int)]) (N:=0) h10 (st10.at_ hat) (by omega) fun s11 H11 h11 st11=>?_;have st11:=st10.trans st11;refine Qa ?_;simp only[go_sem];refine Qk ?_;simp only[go_sem,Q7,Qad,Qagj,reduceIte,Ja,forall_eq,RS.op];exact hK _ s11 H11 h11 (st11.mono (by omega))
set_option maxHeartbeats 2000000 in
theorem Qbsu {n:Nat}(hA:AndL n)(hE:∀m,m<n→Qbnk m):Qbnk n:=by
 intro x F H w s N K hn hok h hat hsok hN hK;have hsz:=x.size_kids;have hkok:=Ex.ok_kids hok;refine Qb Qam Qaw0 ?_;have retf:∀(v:Int) (e:Env) (s':LS) (H':Heap),LInv F H' w s'→LStep s s' (10 * x.size)→lk 4 e=.c (.int .i64 v)→Q7 Qsv K .ret e H':=by
  intro v e s' H' a1 a2 h1;simp only[go_sem,Q7,Qad,Qsv,Ja,forall_eq,RS.op,h1];exact hK _ _ _ a1 a2
 refine Qa ?_;simp only[go_sem,x.cells_eq];refine Q5 ?_;refine Qa ?_;simp only[go_sem];refine Qh (Qc ?_);refine Qa ?_;simp only[go_sem];refine Qd rfl ?_ ?_
 ·intro hc;refine Qak ?_;simp only[go_sem];refine Qsg h hsok (by omega) fun s1 H1 h1 st1=>?_;simp only[go_sem,Quq];refine Q5t (args:=[]) h1 (st1.at_ hat) (st1.ok _ hsok) (by omega) fun s2 H2 h2 st2=>?_;simp only[go_sem,Qup];refine Qk ?_;simp only[go_sem];exact retf _ _ s2 H2 h2 ((st1.trans st2).mono (by omega)) (by simp[lk];rfl)
 intro hc1;refine Qa ?_;simp only[go_sem];refine Qd rfl ?_ ?_
 ·intro hc;refine Qa ?_;simp only[go_sem];refine Qbvq h fun v=>?_;simp only[go_sem,Qur];refine Qk ?_;simp only[go_sem];exact retf _ _ s H h ((LStep.refl s).mono (by omega)) (by simp[lk];rfl)
 intro hc2;refine Qa ?_;simp only[go_sem];refine Qd rfl ?_ ?_
 ·intro hc;have hop:x.op=10:=by simpa using hc
  refine Qa ?_;simp only[go_sem];rw[←x.cells_eq];refine hA x F H w s N _ hn hok hop h hat hsok hN fun v s1 H1 h1 st1=>?_;simp only[go_sem,Qus];refine Qk ?_;simp only[go_sem];exact retf _ _ s1 H1 h1 st1 (by simp[lk];rfl)
 intro hc3;refine Qi ?_;simp only[go_sem];refine Qa ?_;simp only[go_sem];refine Q5 ?_;refine Qa ?_;simp only[go_sem];refine Qh (Qc (Qv (fun n e1 H1=>∃(i:Nat) (ars:List Int) (c:C) (Lg:List (Nat×Obj)) (s':LS),n=x.kids.length-i∧i≤x.kids.length∧ars.length=i∧Gr Lg 1 (Qe ars) c∧LInv F H1 w s'∧Kn F H1 [] (s'.L w++Lg)∧
  LStep s s' (10 * Qal (x.kids.take i))∧e1=[(0,.c (.ptr w 0)),(3,.c (.pp [.int .i64 x.op,.int .i64 x.n,.str x.name,.sl false 4 (Qbv x.kids)])),(5,.c c),(6,.c (.int .i64 i))]) x.kids.length ?_ ?_))
 ·exact⟨0,[],_,[],s,by omega,by omega,rfl,.nil 1,h,by simpa using h.kn,(LStep.refl s).mono (by omega),rfl⟩
 ·rintro n e1 H1 ⟨i,ars,c,Lg,s1,hn1,hi,hasl,hgr,h1,kn,st1,rfl⟩;refine Q5 ?_;refine Qa ?_;simp only[go_sem,Qa8];intro hl;simp only[LIM]at hl;refine Qh (Qd rfl ?_ ?_)
  ·intro hc;have hlt:i<x.kids.length:=by simpa using hc
   have hm:=Qfy (Jc hlt);have htk:=Qr4 hlt;have htl:=Qh7 x.kids (i+1);refine Qi ?_;simp only[go_sem];refine Qh (Qc (Qq ?_));simp only[go_sem,hlt,Qa8,Qfx _ _ hlt,Ex.take4,Ex.allOw,Ex.cells_len];obtain⟨F',hf,back⟩:=h1.beside kn hgr;refine hE x.kids[i].size (by omega) _ F' H1 w s1 _ _ (Jf _) (Qaes hkok _ (Jc hlt)) hf (st1.at_ hat) (st1.ok _ hsok) (by omega) fun v s2 H2 h2 st2=>?_;obtain⟨h2,kn⟩:=back s2 H2 h2;simp only[go_sem,Quu];refine kn.grow (new:=Qe [v]) hgr (.mk' _ _ _ _) (Qw _) (by simp only[Qg,hasl,Jl,Jn,LIM];omega) fun y' H3 kn=>?_;simp only[go_sem,Qut];refine Qq ?_;simp only[go_sem,X.next];refine⟨Qp (by omega) (by omega),x.kids.length-(i+1),by omega,i+1,ars++[v],_,_,s2,rfl,by omega,by simp[hasl],.mk y' 1 (Qe (ars++[v])) (n:=(Qe ars).length+(Qe [v]).length) (by simp[Qe]),h2.re kn.drop,by rw[Qcn];exact kn,(st1.trans st2).mono (by rw[htk];omega),by simp[Qe]⟩
  ·intro hc;have hge:x.kids.length≤i:=by simpa using hc
   rw[Jd hge]at st1;refine Qs ?_;simp only[go_sem,X.next];refine Q5 ?_;refine Q5 ?_;obtain⟨S,H2,f1,f2,kn2⟩:=hgr.freeze kn (Qw _);have h2:=h1.re kn2;refine c_gh (Qh1 S (fun t=>?_) f2) (e':=[(0,.c (.ptr w 0)),(3,.c (.pp [.int .i64 x.op,.int .i64 x.n,.str x.name,.sl false 4 (Qbv x.kids)])),(5,.c (.sl false 1 (Qe ars)))]) ?_
   ·simp only[lk];split
    ·exact .c _ _ (.same _ rfl)
    ·split
     ·exact .c _ _ (.same _ rfl)
     ·split
      ·exact .c _ _ f1
      ·exact .unk _
   refine Qa ?_;simp only[go_sem];refine Qh (Qc ?_);refine Qa ?_;simp only[go_sem];refine Qd rfl ?_ ?_
   ·intro hc;refine Qa ?_;simp only[go_sem];refine Qsg h2 (st1.ok _ hsok) (by omega) fun s3 H3 h3 st3=>?_;have st3:=st1.trans st3;simp only[go_sem,Qp1];refine Q5t h3 (st3.at_ hat) (st3.ok _ hsok) (by omega) fun s4 H4 h4 st4=>?_;simp only[go_sem,Qp0];refine Qk ?_;simp only[go_sem];exact retf _ _ s4 H4 h4 ((st3.trans st4).mono (by omega)) (by simp[lk];rfl)
   intro hc4;refine Qa ?_;simp only[go_sem];refine Qd rfl ?_ ?_
   ·intro hc;refine Qa ?_;simp only[go_sem];refine Qsg h2 (st1.ok _ hsok) (by omega) fun s3 H3 h3 st3=>?_;have st3:=st1.trans st3;simp only[go_sem,Qp3];refine Q5t h3 (st3.at_ hat) (st3.ok _ hsok) (by omega) fun s4 H4 h4 st4=>?_;simp only[go_sem,Qp2];refine Qk ?_;simp only[go_sem];exact retf _ _ s4 H4 h4 ((st3.trans st4).mono (by omega)) (by simp[lk];rfl)
   intro hc5;refine Qa ?_;simp only[go_sem];refine Qd rfl ?_ ?_
   ·intro hc;have hw2:=h2.hw;refine Qak ?_;simp only[go_sem,hw2,LS.o];refine Qsg h2 (st1.ok _ hsok) (by omega) fun s3 H3 h3 st3=>?_;have hw3:=h3.hw;have hfn:=st3.fn;have st3:=st1.trans st3;simp only[go_sem,Qp6,hw3,LS.o,hfn.1,hfn.2];refine Qbuo fun q=>?_;simp only[go_sem,Qp5];refine Q5t h3 (st3.at_ hat) (st3.ok _ hsok) (by omega) fun s4 H4 h4 st4=>?_;simp only[go_sem,Qp4];refine Qk ?_;simp only[go_sem];exact retf _ _ s4 H4 h4 ((st3.trans st4).mono (by omega)) (by simp[lk];rfl)
   intro hc6;refine Qi ?_;simp only[go_sem];refine Qak ?_;simp only[go_sem];refine Qsg h2 (st1.ok _ hsok) (by omega) fun s3 H3 h3 st3=>?_;have st3:=st1.trans st3;simp only[go_sem,Qp8];refine Q5t h3 (st3.at_ hat) (st3.ok _ hsok) (by omega) fun s4 H4 h4 st4=>?_;simp only[go_sem,Qp7];refine Qk ?_;exact retf _ _ s4 H4 h4 ((st3.trans st4).mono (by omega)) (by simp[lk];rfl)
theorem Qbu4 (n:Nat):Qbnk n:=by
 induction n using Nat.strongRecOn with
 |ind n ih=>exact Qbsu (Qbus ih) ih
theorem Qbo2:∀(n:Nat) (l:List St) {fl:Bool} {H:Heap} {K:V→Heap→Prop},Q8 l≤n→Q8 l≤2^40→(∀v:Nat,v≤Q8 l→K (.c (.int .i64 v)) H)→Qu prog Qsd [.c (.sl fl 5 (Qa6 l))] H K:=by
 intro n
 induction n using Nat.strongRecOn with
 |ind n ih=>
 intro l fl H K hn hb hK;have hlen:=Qalz l;refine Qb Qam Qbpn ?_;refine Qa ?_;simp only[go_sem];refine Qa ?_;simp only[go_sem];refine Q5 ?_;refine Qa ?_;simp only[go_sem];refine Qh (Qc (Qv (fun n e1 H1=>∃(i v:Nat),n=l.length-i∧i≤l.length∧v≤Q8 (l.take i)∧H1=H∧e1=[(0,.c (.sl fl 5 (Qa6 l))),(3,.c (.int .i64 v)),(4,.c (.int .i64 i))]) l.length ?_ ?_))
 ·exact⟨0,0,by omega,by omega,by omega,rfl,rfl⟩
 ·rintro n e1 H1 ⟨i,v,hn1,hi,hv,rfl,rfl⟩;refine Q5 ?_;refine Qa ?_;simp only[go_sem,Qbe];intro hl;simp only[LIM]at hl;refine Qh (Qd rfl ?_ ?_)
  ·intro hc;have hlt:i<l.length:=by simpa using hc
   have hm:=Qow (Jc hlt);have htk:=Qvt hlt;have htl:=Qjl l (i+1);have hse:=(l[i]'hlt).size_eq;refine Qi ?_;simp only[go_sem];refine Qh (Qc (Qbh ?_));simp only[go_sem,hlt,Qbe,Qgc _ _ hlt,St.cells_eq];refine Qbji ?_;obtain⟨t,ht,ht1⟩:∃t:Nat,(if decide (l[i].op=1)=true then (1:Int)else 0)=t∧t≤1:=by
    by_cases h:l[i].op=1
    ·exact⟨1,by simp[h],Jf _⟩
    ·exact⟨0,by simp[h],by omega⟩
   simp only[go_sem,Qakg,hlt,Qbe,Qgc _ _ hlt,St.cells_eq,ht];refine⟨Qp (by omega) (by omega),?_⟩;refine ih (Q8 l[i].body) (by omega) l[i].body (Jf _) (by omega) fun a ha=>?_;simp only[go_sem,Qakf,hlt,Qbe,Qgc _ _ hlt,St.cells_eq];refine⟨Qp (by omega) (by omega),?_⟩;refine ih (Q8 l[i].els) (by omega) l[i].els (Jf _) (by omega) fun c hc=>?_;simp only[go_sem,Qake];refine⟨Qp (by omega) (by omega),?_⟩;refine Qq ?_;simp only[go_sem,X.next];refine⟨Qp (by omega) (by omega),l.length-(i+1),by omega,i+1,v+t+a+c,rfl,by omega,by omega,rfl⟩
  ·intro hc;have hge:l.length≤i:=by simpa using hc
   refine Qs ?_;simp only[go_sem,X.next];refine Qa ?_;simp only[go_sem];refine Qk ?_;simp only[go_sem,Q7,Qad,Qbdc,reduceIte,Ja,forall_eq,RS.op];rw[Jd hge]at hv;exact hK v (by omega)
def Qbuq (n:Nat):Prop:=∀(x:St) (F H:Heap) (w:Nat) (s:LS) (N:Nat) (K:V→Heap→Prop),x.size≤n→x.ok→LInv F H w s→s.at_<s.blocks.length→s.ok N→N+10 * x.size≤2^38→
  (∀(s':LS) (H':Heap),LInv F H' w s'→LStep s s' (10 * x.size)→K (.tup []) H')→Qu prog Qn3 [.c (.ptr w 0),.ag x.cells] H K
def Qbwa (n:Nat):Prop:=∀(x:St) (F H:Heap) (w:Nat) (s:LS) (N:Nat) (K:V→Heap→Prop),x.size≤n→x.ok→LInv F H w s→s.at_<s.blocks.length→s.ok N→N+10 * x.size≤2^38→
  (∀(s':LS) (H':Heap),LInv F H' w s'→LStep s s' (10 * x.size)→K (.tup []) H')→Qu prog Qn2 [.c (.ptr w 0),.ag x.cells] H K
def Qbcd (n:Nat):Prop:=∀(l:List St) (fl:Bool) (F H:Heap) (w:Nat) (s:LS) (N:Nat) (K:V→Heap→Prop),Q8 l≤n→Qdb l→LInv F H w s→s.at_<s.blocks.length→s.ok N→N+10 * Q8 l≤2^38→
  (∀(s':LS) (H':Heap),LInv F H' w s'→LStep s s' (10 * Q8 l)→K (.tup []) H')→Qu prog Qcm [.c (.ptr w 0),.c (.sl fl 5 (Qa6 l))] H K
theorem Qbnb {n:Nat}(hS:Qbuq n):Qbcd n:=by
 intro l fl F H w s N K hn hok h hat hsok hN hK;have hw:=h.hw;obtain⟨hv1,hv2⟩:=h.vget;have hvl:=h.gv.lenC;have hvo:=h.gv.isOw;refine Qb Qam Qasc ?_;refine Qa ?_;simp only[go_sem,hw,LS.o,hv1,hvl,hvo];intro hvlim;refine Q5 ?_;refine Qa ?_;simp only[go_sem];refine Qh (Qc (Qv (fun n e1 H1=>∃(i:Nat) (s':LS),n=l.length-i∧i≤l.length∧LInv F H1 w s'∧LStep s s' (10 * Q8 (l.take i))∧e1=[(0,.c (.ptr w 0)),(1,.c (.sl fl 5 (Qa6 l))),(4,.c (.int .i64 s.vars.length)),(5,.c (.int .i64 i))]) l.length ?_ ?_))
 ·exact⟨0,s,by omega,by omega,h,(LStep.refl s).mono (by omega),rfl⟩
 ·rintro n e1 H1 ⟨i,s1,hn1,hi,h1,st1,rfl⟩;refine Q5 ?_;refine Qa ?_;simp only[go_sem,Qbe];intro hl;simp only[LIM]at hl;refine Qh (Qd rfl ?_ ?_)
  ·intro hc;have hlt:i<l.length:=by simpa using hc
   have hm:=Qow (Jc hlt);have htk:=Qvt hlt;have htl:=Qjl l (i+1);refine Qi ?_;simp only[go_sem];refine Qh (Qc (Qq ?_));simp only[go_sem,hlt,Qbe,Qgc _ _ hlt,St.take5,St.allOw,St.cells_len];refine hS l[i] F H1 w s1 _ _ (by omega) (Qbne hok _ (Jc hlt)) h1 (st1.at_ hat) (st1.ok _ hsok) (by omega) fun s2 H2 h2 st2=>?_;refine Qq ?_;simp only[go_sem,X.next];exact⟨Qp (by omega) (by omega),l.length-(i+1),by omega,i+1,s2,rfl,by omega,h2,(st1.trans st2).mono (by rw[htk];omega),rfl⟩
  ·intro hc;have hge:l.length≤i:=by simpa using hc
   rw[Jd hge]at st1;have hw1:=h1.hw;obtain⟨hv1',hv2'⟩:=h1.vget;have hvl':=h1.gv.lenC;have hvo':=h1.gv.isOw;have hve':=h1.gv.elemSz;have hvle:=st1.vl;have hrv:∀r∈s1.vars.take s.vars.length,VarRow r:=fun r hr=>h1.rv r (List.mem_of_mem_take hr);have fin:∀(H2:Heap) (c:C),H2=H1.set w (LS.o { s1 with vc:=c })→VGr s1.lv (s1.vars.take s.vars.length) c→Q7 Qn8 K .nrm [] H2:=by
    intro H2 c h2 hg;simp only[Q7,Qad,Qn8];refine⟨by simp,hK { s1 with vc:=c,vars:=s1.vars.take s.vars.length } H2 (h1.setw h2 rfl rfl rfl rfl hg hrv) ⟨st1.bl,fun M hM=>?_,by simp;omega,st1.at_,st1.fn⟩⟩;have:=st1.ok M hM;exact⟨this.r0,this.r1,this.n0,this.n1,this.b1,this.i1,by have:=this.v1;simp;omega⟩
   refine Qs ?_;simp only[go_sem,X.next];refine Qq ?_;rcases h1.gv with ⟨g1,g2,g3⟩|⟨y,all,k,g1,g2,g3,g4⟩
   ·have hz:s.vars.length=0:=(by rw[g2]at hvle;simpa using hvle);simp only[go_sem,hw1,LS.o,g1,hz,Jak,List.drop_nil];refine⟨⟨by omega,by omega⟩,fun H2 h2=>?_⟩;refine fin H2 (.sl true 3 []) h2 (.inl ⟨rfl,by rw[g2];simp,g3⟩)
   ·rw[g1]at hv1' hvl';have hk:k=s1.vars.length:=(by simpa[lenC]using hvl');simp only[go_sem]at hv1';simp only[go_sem,hw1,LS.o,g1,hv1'];refine⟨⟨by omega,by omega⟩,fun H2 h2=>?_⟩;refine fin H2 (.vsl y 3 0 (s.vars.length-0)) h2 (.inr ⟨y,all,s.vars.length-0,rfl,by omega,?_,g4⟩);rw[g3,List.take_take];congr 1;omega
end Go.AE.Y
