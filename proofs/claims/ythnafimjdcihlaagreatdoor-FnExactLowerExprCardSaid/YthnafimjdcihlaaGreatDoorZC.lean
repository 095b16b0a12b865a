/- Part 3 of the proof: the engine, codes, walks and plain laws, each named where it stands. -/
import Derived.Test.YthnafimjdcihlaaGreatDoorZB
open Nat (reduceEqDiff reduceAdd reduceLeDiff reduceLT)
set_option linter.unusedVariables false
set_option linter.unusedSimpArgs false
set_option maxRecDepth 4000
set_option maxHeartbeats 8000000
open Bool renaming true_and->Jg,and_eq_true->Jo,eq_iff_iff->Jp,and_assoc->J0,not_eq_true'->J2,true_or->J4,false_or->J5,not_false->J6,false_and->Jab,and_eq_false_iff->Jaf,or_eq_true->Jag,and_false->Jao
open List renaming mem_singleton->Ja,take_succ_eq_append_getElem->Jb,take_of_length_le->Jc,getElem_mem->Jd,mem_append_left->Je,getD_eq_getElem?_getD->Jf,mem_cons->Jh,getD_cons_zero->Ji,mem_map->Jj,getD_cons_succ->Jk,mem_cons_of_mem->Jl,mem_append->Jm,mem_append_right->Jn,cons_append->Jq,length_cons->Jr,getElem?_eq_getElem->Jt,any_eq_true->Ju,length_take->Jv,map_append->Jw,not_mem_nil->Jx,forall_mem_cons->Jy,map_cons->Jz,take_append_drop->J1,contains_iff_mem->J7,drop_succ_cons->J8,length_nil->J9,mem_cons_self->Jaa,drop_zero->Jac,nodup_append->Jad,all_eq_true->Jae,foldl_cons->Jah,headD_cons->Jai,nil_append->Jaj,nodup_cons->Jak,getElem_take->Jaq,map_nil->Jar,take_length->Jas,sum_append->Jau,map_map->Jav
open Nat renaming le_refl->Js,lt_or_ge->Jal,min_eq_left->Jam,add_assoc->Jap,zero_add->Jaw
open Option renaming getD_some->J3,map_some->Jan,getD_none->Jat
open Option.some renaming injEq->Jax,inj->Jay
namespace Go.AE.Y
open Go.Proofs.Tryz
def Qu9:List Item:=[oJ 11 10]
def Qan8:SC:=cT 11 (sR [fB 2 false] [2] .ret) .skip
def Qva:List Item:=[sJ 3 5 23]
def Ra:List Item:=[gF 41 36 (.not (.t 40)),pT 42 36 41]
def SA:List Item:=gF 34 28 (.not (.t 33))::pT 35 28 34::mJ 36 35::gFf 37 36 2 5::gFl 38 36 37::gF 39 36 (.len (.t 38))::.e (some 40) (some (36,false)) (.call Bx [.t 39,kI 1,kI 160])::Ra
def Qvb:List Item:=oJ 27 26::mJ 28 27::gFf 29 28 1 5::gFl 30 28 29::gFf 31 28 0 5::gFl 32 28 31::.e (some 33) (some (28,false)) (.call Bx [.t 30,.t 32,kI 300])::SA
def s_sp_UnitValid_6:SC:=cT 42 (sR [fB 2 false] [2] .ret) .skip
def S9:List Item:=[gF 74 69 (.not (.t 73)),pT 75 69 74]
def Qy5:SC:=cT 75 (sR [fB 2 false] [2] .ret) .skip
def Qan9:SC:=sR (mJ 67 3::cJ 68 .gtr 67 800::mJ 69 68::gF 70 69 (.ld 1 true (.t 1))::gFm 71 69 4::gFm 72 69 6::.e (some 73) (some (69,false)) (.call GJ [.t 70,.t 71,.t 72])::S9) [1,3,4,5,6,75] Qy5
def Qu7:SC:=.reg [mJ 48 6,cJ 49 .add 48 1,mJ 6 49] [1,3,4,5,6]
def Qah9:SC:=.seq (.block 3 (.seq (.aH 18 [0,1,2,3,4,5,6,7,8,9,10,11,12,13,14,15,16,17] ( mJ 50 3::fJ 51 2 5::lJ 52 51::mJ 53 6::iJ 54 5 52 53::fJ 55 1 54::lJ 56 55::nJ 57 56::bJ 58 .add 50 57::fJ 59 2 5::lJ 60 59::mJ 61 6::iJ 62 5 60 61::fJ 63 0 62::lJ 64 63::nJ 65 64::bJ 66 .add 58 65::mJ 3 66::[]) [1,3,4,5,6]) Qan9)) Qu7
def Qaen:SC:=.seq (sR [mJ 43 6,fJ 44 2 5,lJ 45 44,nJ 46 45,bJ 47 .lss 43 46] [1,3,4,5,6,47] (cT 47 .skip (.exit 2))) Qah9
def Qu8:SC:=sR [zJ 6 0] [1,3,4,5,6] (bL 2 Qaen)
def Qaia:SC:=.seq (sR (fJ 24 0 5::lJ 25 24::aJ 26 Bx [.t 25,kI 0,kI 3]::Qvb) [1,3,4,5,42] s_sp_UnitValid_6) Qu8
def SD:SC:=.reg [mJ 17 4,cJ 18 .add 17 1,mJ 4 18] [1,3,4]
def Qaib:SC:=.seq (.block 1 (sR (fJ 19 0 1::lJ 20 19::mJ 21 4::iJ 22 3 20 21::tJ 23 3 22::eI 5 (.alloc [.int .i64 0,.int .i64 0,.sl true 5 []])::Qva) [1,3,4,5] Qaia)) SD
def Qaeo:SC:=.seq (sR [mJ 12 4,fJ 13 0 1,lJ 14 13,nJ 15 14,bJ 16 .lss 12 15] [1,3,4,16] (cT 16 .skip (.exit 0))) Qaib
def SB:SC:=sR [fB 2 true] [2] .ret
def Qaic:SC:=.seq (sR [zJ 4 0] [1,3,4] (bL 0 Qaeo)) SB
def Qaid:SC:=sR [zJ 3 0] [1,3] Qaic
def Qaie:SC:=.seq (sR (fJ 7 0 1::lJ 8 7::nJ 9 8::aJ 10 Bx [.t 9,kI 1,kI 4]::Qu9) [1,11] Qan8) Qaid
def Qa14:SC:=sR [vJ 1 0,fB 2 false] [1] Qaie
theorem Qaw4:mFn prog Sf 1 76 Qa14 Ad=true:=by kernel_rfl
def Mi:List Item:=[sJ 1 3 5]
def Mh:List Item:=[fJ 20 0 3,sJ 1 20 19]
def Mg:List Item:=hJ 14 13::fI 18 (.bw 3 [.t 17])::xJ 19 3 14 18::Mh
def Qbn0:SC:=.reg [mJ 11 4,cJ 12 .add 11 1,mJ 4 12] [1,2,3,4]
def Qbn1:SC:=.seq (.block 1 (.aH 9 [0,1,2,3,4,1,5,6,7,8] ( fJ 13 0 3::lJ 14 13::tJ 15 1 1::mJ 16 4::aJ 17 FT [.t 15,.t 16]::Mg) [1,2,3,4])) Qbn0
def Qbir:SC:=.seq (sR [mJ 6 4,fJ 7 0 1,lJ 8 7,nJ 9 8,bJ 10 .lss 6 9] [1,2,3,4,10] (cT 10 .skip (.exit 0))) Qbn1
def Qbn2:SC:=sR [tJ 21 1 3,sJ 1 2 21] [2] .ret
def Qbn3:SC:=.seq (sR [zJ 4 0] [1,2,3,4] (bL 0 Qbir)) Qbn2
def Qbn4:SC:=sR (fI 5 (.bld [.sl true 3 []] [])::eI 3 (.alloc [.sl true 3 []])::Mi) [1,2,3] Qbn3
def VZ:SC:=sR [vJ 1 0,eI 2 (.alloc [.sl true 3 []])] [1,2] Qbn4
def Es:List RS:=[.cell 2 1 true]
theorem X0:mFn prog Gn 1 22 VZ Es=true:=by kernel_rfl
def MU:List Item:=[mJ 5 41]
def Qbih:SC:=cT 37 (sR (mJ 38 5::mJ 39 6::fI 40 (.bw 1 [.t 39])::xJ 41 1 38 40::MU) [1,2,5,6] (.exit 2)) .skip
def Qbii:SC:=.reg [mJ 25 7,cJ 26 .add 25 1,mJ 7 26] [1,2,5,6,7]
def Qbij:SC:=.seq (.block 3 (sR [fJ 27 2 2,lJ 28 27,mJ 29 6,iJ 30 5 28 29,fJ 31 4 30,lJ 32 31,mJ 33 7,iJ 34 1 32 33,lJ 35 34,mJ 36 1,bJ 37 .eql 35 36] [1,2,5,6,7,37] Qbih)) Qbii
def Qbcy:SC:=.seq (sR [mJ 16 7,fJ 17 2 2,lJ 18 17,mJ 19 6,iJ 20 5 18 19,fJ 21 4 20,lJ 22 21,nJ 23 22,bJ 24 .lss 16 23] [1,2,5,6,7,24] (cT 24 .skip (.exit 2))) Qbij
def Mo:SC:=.reg [mJ 14 6,cJ 15 .add 14 1,mJ 6 15] [1,2,5,6]
def Qbik:SC:=.seq (.block 1 (sR [zJ 7 0] [1,2,5,6,7] (bL 2 Qbcy))) Mo
def Qbcz:SC:=.seq (sR [mJ 9 6,fJ 10 2 2,lJ 11 10,nJ 12 11,bJ 13 .lss 9 12] [1,2,5,6,13] (cT 13 .skip (.exit 0))) Qbik
def Mn:SC:=sR [mJ 42 5,mJ 4 42] [4] .ret
def Qbil:SC:=.seq (sR [zJ 6 0] [1,2,5,6] (bL 0 Qbcz)) Mn
def Qbcx:SC:=sR [fI 8 (.bw 1 []),mJ 5 8] [1,2,5] Qbil
def Qbsg:SC:=sR [vJ 2 0,fI 4 (.mv (.k (.c (.sl true 1 []))))] [1,2] Qbcx
theorem Qbqs:mFn prog Rp 2 43 Qbsg Aa=true:=by kernel_rfl
def Xt:SC:=sR [mJ 7 0,mJ 8 1,bJ 9 .geq 7 8,mJ 10 9,gTm 11 10 0,gTm 12 10 2,gT 13 10 (.bin 0 .leq (.t 11) (.t 12)),pF 14 10 13,mJ 6 14] [6] .ret
def Qb1l:SC:=sR [fB 6 false] [0,1,2] Xt
theorem Qb1b:mFn prog Bx 3 15 Qb1l AB=true:=by kernel_rfl
def MY:List Item:=[sJ 3 7 18]
def MX:List Item:=[sJ 5 8 23]
def Qbib:SC:=cT 30 (sR [fB 6 false] [6] .ret) .skip
def Qbic:SC:=cT 33 (.reg [zJ 9 0] [1,2,3,7,8,9]) (sR [fB 6 false] [6] .ret)
def Qbid:SC:=cT 31 (.reg [zJ 9 2] [1,2,3,7,8,9]) (sR [cJ 34 .eql 25 3,mJ 33 34] [1,2,3,7,8,33] Qbic)
def Qbie:SC:=cT 26 (sR [fJ 28 3 8,lJ 29 28,cJ 30 .neq 29 0] [1,2,3,7,8,9,30] Qbib) (sR [cJ 32 .eql 25 2,mJ 31 32] [1,2,3,7,8,25,31] Qbid)
def Qbif:SC:=.block 0 (sR [cJ 27 .eql 25 1,mJ 26 27] [1,2,3,7,8,9,25,26] Qbie)
def P0:List Item:=[gT 51 44 (.not (.t 50)),gF 52 40 (.pick (.t 44) (.t 51) (.k (.c (.bool false)))),pT 53 40 52]
def s_l7Block_8:SC:=cT 53 (sR [fB 6 false] [6] .ret) .skip
def MW:List Item:=[oJ 71 70]
def Qbcj:SC:=cT 71 (sR [fB 6 false] [6] .ret) .skip
def Qbck:SC:=.reg [mJ 59 10,cJ 60 .add 59 1,mJ 10 60] [1,2,3,7,8,10]
def Qbcl:SC:=.seq (.block 2 (.seq (.aH 11 [0,1,2,3,4,5,6,7,8,9,10] ( fJ 61 4 8::lJ 62 61::mJ 63 10::iJ 64 1 62 63::lJ 65 64::fJ 66 2 7::lJ 67 66::nJ 68 67::cJ 69 .sub 68 1::aJ 70 Bx [.t 65,kI 1,.t 69]::MW) [1,2,3,7,8,10,71]) Qbcj)) Qbck
def Qa6f:SC:=.seq (sR [mJ 54 10,fJ 55 4 8,lJ 56 55,nJ 57 56,bJ 58 .lss 54 57] [1,2,3,7,8,10,58] (cT 58 .skip (.exit 1))) Qbcl
def NC:List Item:=[oJ 87 86]
def Qbcm:SC:=cT 87 (sR [fB 6 false] [6] .ret) .skip
def Qbcn:SC:=.reg [mJ 77 11,cJ 78 .add 77 1,mJ 11 78] [1,2,3,7,8,11]
def Qbco:SC:=.seq (.block 4 (.seq (.aH 9 [0,1,2,3,4,5,6,7,8] ( tJ 79 1 3::mJ 80 1::fJ 81 1 8::lJ 82 81::mJ 83 11::iJ 84 4 82 83::tJ 85 4 84::aJ 86 Hn [.t 79,.t 80,.t 85]::NC) [1,2,3,7,8,11,87]) Qbcm)) Qbcn
def Qa6g:SC:=.seq (sR [mJ 72 11,fJ 73 1 8,lJ 74 73,nJ 75 74,bJ 76 .lss 72 75] [1,2,3,7,8,11,76] (cT 76 .skip (.exit 3))) Qbco
def NB:List Item:=[mJ 12 90]
def PA:List Item:=[gF 134 123 (.not (.t 133)),pT 135 123 134]
def Rx:List Item:=gF 121 112 (.not (.t 120))::pT 122 112 121::mJ 123 122::gFf 124 123 0 8::gFl 125 123 124::gFm 126 123 13::gF 127 123 (.iad 2 (.t 125) (.t 126))::gFf 128 123 0 127::gFl 129 123 128::gFf 130 123 1 7::gFl 131 123 130::gF 132 123 (.bin 0 .sub (.t 131) (kI 1))::.e (some 133) (some (123,false)) (.call Bx [.t 129,kI 0,.t 132])::PA
def Nd:SC:=cT 135 (sR [fB 6 false] [6] .ret) .skip
def Nc:SC:=.reg [mJ 96 13,cJ 97 .add 96 1,mJ 13 97] [2,7,8,12,13]
def Qbcp:SC:=.seq (.block 6 (.seq (.aH 38 [0,1,2,3,4,5,6,7,8,9,10,11,12,13,14,15,16,17,18,19,20,21,22,23,24,25,26,27,28,29,30,31,32,33,34,35,36,37] ( mJ 98 2::cJ 99 .eql 98 0::mJ 100 99::gFf 101 100 0 8::gFl 102 100 101::gFm 103 100 13::gF 104 100 (.iad 2 (.t 102) (.t 103))::gFf 105 100 1 104::gFl 106 100 105::gF 107 100 (.len (.t 106))::gFm 108 100 12::gF 109 100 (.len (.t 108))::gF 110 100 (.bin 0 .neq (.t 107) (.t 109))::pT 111 100 110::mJ 112 111::gF 113 112 (.ld 3 true (.t 7))::gFf 114 112 0 8::gFl 115 112 114::gFm 116 112 13::gF 117 112 (.iad 2 (.t 115) (.t 116))::gFf 118 112 1 117::gFl 119 112 118::.e (some 120) (some (112,false)) (.call ED [.t 113,.t 119])::Rx) [2,7,8,12,13,135]) Nd)) Nc
def Qa6h:SC:=.seq (sR [mJ 91 13,fJ 92 0 8,lJ 93 92,nJ 94 93,bJ 95 .lss 91 94] [2,7,8,12,13,95] (cT 95 .skip (.exit 5))) Qbcp
def Nb:SC:=sR [fB 6 true] [6] .ret
def Qbcq:SC:=.seq (sR [zJ 13 0] [2,7,8,12,13] (bL 5 Qa6h)) Nb
def Qbcr:SC:=sR (tJ 88 3 7::mJ 89 2::aJ 90 Rp [.t 88,.t 89]::NB) [2,7,8,12] Qbcq
def Qbcs:SC:=.seq (sR [zJ 11 0] [1,2,3,7,8,11] (bL 3 Qa6g)) Qbcr
def Na:SC:=.seq (sR [zJ 10 0] [1,2,3,7,8,10] (bL 1 Qa6f)) Qbcs
def MZ:SC:=.seq (sR (fJ 35 4 8::lJ 36 35::nJ 37 36::mJ 38 9::bJ 39 .neq 37 38::mJ 40 39::gFf 41 40 2 8::gFl 42 40 41::gF 43 40 (.bin 0 .neq (.t 42) (kI 1))::gFm 44 40 43::gTf 45 44 3 8::gTl 46 44 45::gTf 47 44 1 7::gTl 48 44 47::gT 49 44 (.bin 0 .sub (.t 48) (kI 1))::.e (some 50) (some (44,true)) (.call Bx [.t 46,kI 0,.t 49])::P0) [1,2,3,7,8,53] s_l7Block_8) Na
def Qbct:SC:=.seq (sR [fJ 24 2 8,lJ 25 24] [1,2,3,7,8,9,25] Qbif) MZ
def Qbcu:SC:=sR [zJ 9 1] [1,2,3,7,8,9] Qbct
def Qbcv:SC:=sR (fJ 19 2 7::lJ 20 19::mJ 21 2::iJ 22 5 20 21::tJ 23 5 22::eI 8 (.alloc [.sl true 2 [],.sl true 4 [],.int .i64 0,.int .i64 0,.sl true 1 []])::MX) [1,2,3,7,8] Qbcu
def Qbcw:SC:=sR (fJ 14 0 3::lJ 15 14::mJ 16 1::iJ 17 3 15 16::tJ 18 3 17::eI 7 (.alloc [.int .i64 0,.int .i64 0,.sl true 5 []])::MY) [1,2,3,7] Qbcv
def Qbsd:SC:=sR [vJ 3 0,fB 6 false] [1,2,3] Qbcw
theorem Qbqq:mFn prog GJ 3 136 Qbsd AB=true:=by kernel_rfl
def Lu:List Item:=[sJ 3 5 13]
def Lt:List Item:=[mJ 6 19]
def Ls:List Item:=[hJ 29 28,.chk 30 none (.len (.t 29)),bJ 34 .add 30 33,kJ 35 27,fJ 36 1 35,fJ 37 1 36,sJ 1 37 34]
def Lr:List Item:=[kJ 59 45,fJ 60 5 59,sJ 1 60 58]
def Xd:SC:=.reg [mJ 43 7,cJ 44 .add 43 1,mJ 7 44] [4,5,6,7]
def Xc:SC:=.seq (.block 1 (.aH 17 [0,1,2,3,4,5,6,7,8,9,10,11,12,13,14,15,16] ( mJ 45 6::mJ 46 6::kJ 47 46::fJ 48 5 47::lJ 49 48::fJ 50 1 5::lJ 51 50::mJ 52 7::iJ 53 1 51 52::lJ 54 53::mJ 55 7::fI 56 (.bld [.str [],.int .i64 0,.int .i64 0] [(0,1,.t 54),(1,1,.t 55),(2,1,kI 0)])::fI 57 (.bw 3 [.t 56])::xJ 58 3 49 57::Lr) [4,5,6,7])) Xd
def YU:SC:=.seq (sR [mJ 38 7,fJ 39 1 5,lJ 40 39,nJ 41 40,bJ 42 .lss 38 41] [4,5,6,7,42] (cT 42 .skip (.exit 0))) Xc
def Lq:List Item:=[mJ 8 71]
def Lo:List Item:=fI 70 (.bw 1 [])::aJ 71 C7 [.t 67,kI 1,.t 69,kI 0,.t 70]::Lq
def Xb:SC:=sR [mJ 76 6,kJ 77 76,fJ 78 1 77,tJ 79 3 78,sJ 3 4 79] [4] .ret
def Qbsh:SC:=sR [mJ 72 6,mJ 73 8,fI 74 (.bw 1 []),aJ 75 Dd [.t 72,kI 3,.t 73,.t 74,kI 0]] [4,6] Xb
def Qbsi:SC:=sR (mJ 67 6::mJ 68 6::aJ 69 DM [.t 68]::Lo) [4,6,8] Qbsh
def Qbsj:SC:=sR [mJ 63 6,fJ 64 2 5,lJ 65 64,aJ 66 HT [.t 63,.t 65]] [4,6] Qbsi
def Qbsk:SC:=sR [mJ 61 6,aJ 62 Dg [.t 61]] [4,5,6] Qbsj
def YZ:SC:=.seq (sR [zJ 7 0] [4,5,6,7] (bL 0 YU)) Qbsk
def YY:SC:=.seq (.aH 12 [0,1,2,3,4,5,6,2,3,7,8,9,10,11] ( mJ 27 6::fJ 28 1 5::lJ 29 28::nJ 30 29::fJ 31 2 5::lJ 32 31::aJ 33 Ph [.t 32]::Ls) [4,5,6]) YZ
def YX:SC:=sR [mJ 20 6,fJ 21 1 5,lJ 22 21,nJ 23 22,kJ 24 20,fJ 25 1 24,fJ 26 0 25,sJ 1 26 23] [4,5,6] YY
def YW:SC:=sR (tJ 14 1 2::fJ 15 1 5::lJ 16 15::nJ 17 16::fI 18 (.bld [.sl true 3 [],.int .i64 0,.int .i64 0,.sl true 5 [],.int .i64 0,.sl true 3 [],.int .i64 0,.sl true 1 []] [(0,1,.t 14),(6,1,.t 17)])::eI 19 (.boxm (.t 18))::Lt) [4,5,6] YX
def YV:SC:=sR (fJ 9 0 2::lJ 10 9::mJ 11 1::iJ 12 3 10 11::tJ 13 3 12::eI 5 (.alloc [.str [],.sl true 1 [],.sl true 5 []])::Lu) [2,4,5] YW
def Qb1o:SC:=sR [vJ 2 0,eI 4 (.alloc [.int .i64 0,.int .i64 0,.sl true 5 []])] [1,2,4] YV
def Dm:List RS:=[.cell 4 3 true]
theorem Qb1e:mFn prog FT 2 80 Qb1o Dm=true:=by kernel_rfl
def Qnf:List Item:=[oJ 8 7]
def Qabj:SC:=cT 8 (sR [fB 2 false] [2] .ret) .skip
def Qng:List Item:=[oJ 22 21]
def Qabk:SC:=cT 22 (sR [fB 2 false] [2] .ret) .skip
def Qabl:SC:=.reg [mJ 14 3,cJ 15 .add 14 1,mJ 3 15] [1,3]
def Qabm:SC:=.seq (.block 1 (sR (fJ 16 0 1::lJ 17 16::mJ 18 3::iJ 19 3 17 18::tJ 20 3 19::aJ 21 FV [.t 20]::Qng) [1,3,22] Qabk)) Qabl
def Q7p:SC:=.seq (sR [mJ 9 3,fJ 10 0 1,lJ 11 10,nJ 12 11,bJ 13 .lss 9 12] [1,3,13] (cT 13 .skip (.exit 0))) Qabm
def Qnh:List Item:=[cJ 25 .leq 24 40,mJ 2 25]
def Qabn:SC:=sR (tJ 23 1 1::aJ 24 Ho [.t 23]::Qnh) [2] .ret
def Qabo:SC:=.seq (sR [zJ 3 0] [1,3] (bL 0 Q7p)) Qabn
def Q7o:SC:=.seq (sR (fJ 4 0 1::lJ 5 4::nJ 6 5::aJ 7 Bx [.t 6,kI 1,kI 4]::Qnf) [1,8] Qabj) Qabo
def Qah8:SC:=sR [vJ 1 0,fB 2 false] [1] Q7o
theorem Qafs:mFn prog SF 1 26 Qah8 Ad=true:=by kernel_rfl
def Od:List Item:=[sJ 3 7 12]
def G7:List Item:=[gF 22 17 (.not (.t 21)),pT 23 17 22]
def Oc:List Item:=oJ 16 15::mJ 17 16::gF 18 17 (.ld 3 true (.t 7))::gFf 19 17 2 5::gFl 20 17 19::.e (some 21) (some (17,false)) (.call ED [.t 18,.t 20])::G7
def s_l7Ins_3:SC:=cT 23 (sR [fB 6 false] [6] .ret) .skip
def G0:List Item:=[gF 38 34 (.not (.t 37)),gFm 39 34 38,gTf 40 39 1 5,gTl 41 39 40,gT 42 39 (.bin 0 .neq (.t 41) (kI (-1))),gF 43 34 (.pick (.t 39) (.t 42) (.k (.c (.bool false)))),pT 44 34 43]
def Ob:List Item:=fI 33 (.bin 1 .neq (.t 26) (.t 32))::mJ 34 33::gFf 35 34 0 5::gFl 36 34 35::.e (some 37) (some (34,false)) (.call Rq [.t 36])::G0
def Oa:List Item:=hJ 28 27::hJ 30 29::aJ 32 Bx [.t 28,kI 0,.t 31]::Ob
def s_l7Ins_7:SC:=cT 44 (sR [fB 6 false] [6] .ret) .skip
def Rj:List Item:=[mJ 53 52,gTf 54 53 2 5,gTl 55 53 54,gT 56 53 (.len (.t 55)),gTf 57 53 0 3,gTl 58 53 57,gTf 59 53 3 5,gTl 60 53 59,gT 61 53 (.iad 3 (.t 58) (.t 60)),gTf 62 53 0 61,gTl 63 53 62,gT 64 53 (.bin 0 .eql (.t 56) (.t 63)),pF 65 53 64,mJ 6 65]
def Qbse:SC:=cT 47 (.seq (.aH 19 [0,1,2,3,4,5,6,7,8,9,10,11,12,13,14,15,16,17,18] ( fJ 48 3 5::lJ 49 48::mJ 50 1::cJ 51 .sub 50 1::aJ 52 Bx [.t 49,kI 0,.t 51]::Rj) [6]) .ret) .skip
def Ha:List Item:=[pF 77 73 76,mJ 78 77,gTf 79 78 3 5,gTl 80 78 79,gT 81 78 (.bin 0 .eql (.t 80) (kI 0)),gTm 82 78 81,gFf 83 82 0 5,gFl 84 82 83,gF 85 82 (.bin 0 .eql (.t 84) (kI 1)),gT 86 78 (.pick (.t 82) (.k (.c (.bool true))) (.t 85)),pF 87 78 86,mJ 6 87]
def Mp:List Item:=hJ 67 66::.chk 68 none (.len (.t 67))::bJ 72 .eql 68 71::mJ 73 72::gTf 74 73 3 5::gTl 75 73 74::.e (some 76) (some (73,true)) (.call Bx [.t 75,kI 0,kI 255])::Ha
def Qbnn:SC:=.seq (.aH 23 [0,1,2,3,4,5,1,2,6,7,8,9,10,11,12,13,14,15,16,17,18,19,20,21,22] ( fJ 66 2 5::lJ 67 66::nJ 68 67::fJ 69 0 5::lJ 70 69::aJ 71 Gq [.t 70]::Mp) [6]) .ret
def Of:SC:=.seq (sR [fJ 45 0 5,lJ 46 45,cJ 47 .eql 46 14] [1,3,5,47] Qbse) Qbnn
def Oe:SC:=.seq (.seq (.aH 21 [0,1,3,4,5,6,7,2,4,6,8,9,10,11,12,13,14,15,16,17,18,19,20] ( fJ 24 0 5::lJ 25 24::fJ 27 1 5::lJ 28 27::fJ 29 1 7::lJ 30 29::cJ 31 .sub 30 1::aJ 26 Rq [.t 25]::Oa) [1,3,5,44]) s_l7Ins_7) Of
def Qbno:SC:=.seq (sR (fJ 13 0 5::lJ 14 13::aJ 15 Bx [.t 14,kI 1,kI 14]::Oc) [1,3,5,7,23] s_l7Ins_3) Oe
def Qbnp:SC:=sR (fJ 8 0 3::lJ 9 8::mJ 10 1::iJ 11 3 9 10::tJ 12 3 11::eI 7 (.alloc [.int .i64 0,.int .i64 0,.sl true 5 []])::Od) [1,3,5,7] Qbno
def T2:SC:=sR [vJ 3 0,vJ 5 2,fB 6 false] [1,3,5] Qbnp
theorem T9:mFn prog Hn 3 88 T2 AB=true:=by kernel_rfl
def Mm:List Item:=[oJ 20 19]
def Qbnq:SC:=cT 20 (sR [fB 4 false] [4] .ret) .skip
def Qbnr:SC:=.reg [mJ 10 5,cJ 11 .add 10 1,mJ 5 11] [1,2,5]
def Qbns:SC:=.seq (.block 1 (.seq (.aH 9 [0,1,2,3,4,5,6,7,8] ( mJ 12 1::mJ 13 5::iJ 14 1 12 13::lJ 15 14::fJ 16 1 2::lJ 17 16::cJ 18 .sub 17 1::aJ 19 Bx [.t 15,kI 0,.t 18]::Mm) [1,2,5,20]) Qbnq)) Qbnr
def Qbim:SC:=.seq (sR [mJ 6 5,mJ 7 1,nJ 8 7,bJ 9 .lss 6 8] [1,2,5,9] (cT 9 .skip (.exit 0))) Qbns
def Qbnt:SC:=sR [fB 4 true] [4] .ret
def Qbnu:SC:=.seq (sR [zJ 5 0] [1,2,5] (bL 0 Qbim)) Qbnt
def Xe:SC:=sR [vJ 2 0,fB 4 false] [1,2] Qbnu
theorem X2:mFn prog ED 2 21 Xe Aa=true:=by kernel_rfl
def Ml:List Item:=[bJ 33 .add 26 32,mJ 3 33]
def Mk:List Item:=.chk 29 none (.iad 5 (.t 27) (.t 28))::hJ 31 30::bJ 26 .add 19 25::aJ 32 Ph [.t 31]::Ml
def Mj:List Item:=.chk 22 none (.iad 5 (.t 20) (.t 21))::hJ 24 23::.chk 29 none (.iad 5 (.t 27) (.t 28))::hJ 31 30::bJ 19 .add 11 18::aJ 25 Ph [.t 24]::Mk
def Qbnv:SC:=.reg [mJ 9 4,cJ 10 .add 9 1,mJ 4 10] [0,3,4]
def Qbnw:SC:=.seq (.block 1 (.aH 24 [0,1,2,3,4,5,6,9,10,11,12,13,16,17,18,19,20,7,11,13,18,20,8,14,18,20,15,21,22,23] ( mJ 11 3::mJ 12 0::mJ 13 4::iJ 14 5 12 13::fJ 15 0 14::lJ 16 15::cJ 17 .eql 16 1::mJ 20 0::mJ 21 4::iJ 22 5 20 21::fJ 23 3 22::lJ 24 23::mJ 27 0::mJ 28 4::iJ 29 5 27 28::fJ 30 4 29::lJ 31 30::aJ 18 GM [.t 17]::Mj) [0,3,4])) Qbnv
def Qbin:SC:=.seq (sR [mJ 5 4,mJ 6 0,nJ 7 6,bJ 8 .lss 5 7] [0,3,4,8] (cT 8 .skip (.exit 0))) Qbnw
def Qbnx:SC:=sR [mJ 34 3,mJ 2 34] [2] .ret
def Qbny:SC:=.seq (sR [zJ 4 0] [0,3,4] (bL 0 Qbin)) Qbnx
def Qbnz:SC:=sR [zJ 3 0] [0,3] Qbny
def Xa:SC:=sR [zJ 2 0] [0] Qbnz
theorem X1:mFn prog Ph 1 35 Xa Ad=true:=by kernel_rfl
def Qyg:List Item:=[kJ 15 3,fJ 16 1 15,fJ 17 2 16,sJ 1 17 14]
def Qasi:SC:=sR [mJ 18 0,kJ 19 18,fJ 20 1 19,fJ 21 2 20,lJ 22 21,nJ 23 22,cJ 24 .sub 23 1,mJ 2 24] [2] .ret
def Qasj:SC:=sR (mJ 3 0::mJ 4 0::kJ 5 4::fJ 6 1 5::fJ 7 2 6::lJ 8 7::fI 9 (.bw 2 [])::fI 10 (.bw 4 [])::fI 11 (.bw 1 [])::fI 12 (.bld [.sl true 2 [],.sl true 4 [],.int .i64 0,.int .i64 0,.sl true 1 []] [(0,1,.t 9),(1,1,.t 10),(4,1,.t 11)])::fI 13 (.bw 5 [.t 12])::xJ 14 5 8 13::Qyg) [0] Qasi
def Qa6k:SC:=sR [zJ 2 0] [0] Qasj
theorem Qa42:mFn prog Dg 1 25 Qa6k Ad=true:=by kernel_rfl
def Qati:SC:=.reg [mJ 15 5,cJ 16 .add 15 1,mJ 5 16] [0,1,4,5]
def Qatj:SC:=.seq (.block 1 (.reg [mJ 17 0,mJ 18 1,mJ 19 5,iJ 20 5 18 19,tJ 21 5 20,aJ 22 R8 [.t 17,.t 21]] [0,1,4,5])) Qati
def Qalp:SC:=.seq (sR [mJ 11 5,mJ 12 1,nJ 13 12,bJ 14 .lss 11 13] [0,1,4,5,14] (cT 14 .skip (.exit 0))) Qatj
def Qatk:SC:=.reg [mJ 23 0,mJ 24 0,kJ 25 24,fJ 26 5 25,lJ 27 26,mJ 28 4,fI 29 (.sli 3 (.t 27) none (some (.t 28))),kJ 30 23,fJ 31 5 30,sJ 1 31 29] []
def Qatl:SC:=.seq (sR [zJ 5 0] [0,1,4,5] (bL 0 Qalp)) Qatk
def Qa6u:SC:=sR [mJ 6 0,kJ 7 6,fJ 8 5 7,lJ 9 8,nJ 10 9,mJ 4 10] [0,1,4] Qatl
theorem Qa44:mFn prog HT 2 32 Qa6u Av=true:=by kernel_rfl
def Q8x:List Item:=[kJ 34 22,fJ 35 1 34,sJ 1 35 33]
def Qa6m:SC:=sR [mJ 36 2,mJ 10 36] [10] .ret
def Qa6n:SC:=sR (mJ 22 11::mJ 23 11::kJ 24 23::fJ 25 1 24::lJ 26 25::mJ 27 1::mJ 28 2::mJ 29 4::mJ 30 3::fI 31 (.bld [.int .i64 0,.int .i64 0,.sl true 1 [],.int .i64 0] [(0,1,.t 27),(1,1,.t 28),(2,1,.t 29),(3,1,.t 30)])::fI 32 (.bw 4 [.t 31])::xJ 33 4 26 32::Q8x) [2] Qa6m
def Qa6o:SC:=.seq (.aH 11 [0,1,2,3,4,5,6,7,8,9,10] ( mJ 12 0::kJ 13 12::fJ 14 1 13::fJ 15 2 14::lJ 16 15::mJ 17 0::kJ 18 17::fJ 19 4 18::lJ 20 19::iJ 21 5 16 20::mJ 11 21::[]) [1,2,3,4,11]) Qa6n
def Qbip:SC:=sR [zJ 10 0] [0,1,2,3,4] Qa6o
def M5:List RS:=[.tmp 10]
theorem Qbf6:mFn prog C7 5 37 Qbip M5=true:=by kernel_rfl
def Qasv:SC:=sR [mJ 13 0,kJ 14 13,fJ 15 1 14,fJ 16 1 15,lJ 17 16,cJ 18 .sub 17 1,mJ 2 18] [2] .ret
def Qasw:SC:=sR [mJ 3 0,mJ 4 0,kJ 5 4,fJ 6 1 5,fJ 7 1 6,lJ 8 7,cJ 9 .add 8 1,kJ 10 3,fJ 11 1 10,fJ 12 1 11,sJ 1 12 9] [0] Qasv
def Qa6l:SC:=sR [zJ 2 0] [0] Qasw
theorem Qa43:mFn prog DM 1 19 Qa6l Ad=true:=by kernel_rfl
def Qaza:SC:=.reg [mJ 33 0,mJ 34 4,kJ 35 33,fJ 36 4 35,sJ 1 36 34] []
def Qazb:SC:=sR [mJ 29 10,mJ 30 3,kJ 31 29,fJ 32 4 31,sJ 1 32 30] [0,4] Qaza
def Qazc:SC:=sR [mJ 25 10,mJ 26 2,kJ 27 25,fJ 28 3 27,sJ 1 28 26] [0,3,4,10] Qazb
def Qazd:SC:=sR [mJ 21 10,mJ 22 1,kJ 23 21,fJ 24 2 23,sJ 1 24 22] [0,2,3,4,10] Qazc
def Qbc7:SC:=.seq (.aH 11 [0,1,2,3,4,5,6,7,8,9,10] ( mJ 11 0::kJ 12 11::fJ 13 1 12::fJ 14 2 13::lJ 15 14::mJ 16 0::kJ 17 16::fJ 18 4 17::lJ 19 18::iJ 20 5 15 19::mJ 10 20::[]) [0,1,2,3,4,10]) Qazd
theorem Qbav:mFn prog Dd 5 37 Qbc7 Av=true:=by kernel_rfl
def L9:List Item:=[oJ 17 16]
def XN:SC:=cT 17 (sR [fB 2 false] [2] .ret) .skip
def XM:SC:=.reg [mJ 9 3,cJ 10 .add 9 1,mJ 3 10] [1,3]
def XL:SC:=.seq (.block 1 (sR (fJ 11 1 1::lJ 12 11::mJ 13 3::iJ 14 1 12 13::lJ 15 14::aJ 16 HN [.t 15]::L9) [1,3,17] XN)) XM
def Qbr2:SC:=.seq (sR [mJ 4 3,fJ 5 1 1,lJ 6 5,nJ 7 6,bJ 8 .lss 4 7] [1,3,8] (cT 8 .skip (.exit 0))) XL
def Gc:List Item:=[pF 31 27 30,mJ 2 31]
def L8:List Item:=mJ 21 20::gTf 22 21 1 1::gTl 23 21 22::gT 24 21 (.len (.t 23))::gT 25 21 (.bin 0 .leq (.t 24) (kI 3))::pF 26 21 25::mJ 27 26::gTf 28 27 2 1::gTl 29 27 28::.e (some 30) (some (27,true)) (.call Ih [.t 29,kI 4])::Gc
def XK:SC:=sR (fJ 18 0 1::lJ 19 18::aJ 20 HN [.t 19]::L8) [2] .ret
def XJ:SC:=.seq (sR [zJ 3 0] [1,3] (bL 0 Qbr2)) XK
def Qb1m:SC:=sR [vJ 1 0,fB 2 false] [1] XJ
theorem Qb1c:mFn prog FV 1 32 Qb1m Ad=true:=by kernel_rfl
def Oi:List Item:=[bJ 20 .add 12 19,mJ 3 20]
def Qbrw:SC:=.reg [mJ 10 4,cJ 11 .add 10 1,mJ 4 11] [1,3,4]
def Qbrx:SC:=.seq (.block 1 (.reg (mJ 12 3::fJ 13 0 1::lJ 14 13::mJ 15 4::iJ 16 3 14 15::fJ 17 2 16::lJ 18 17::aJ 19 Ii [.t 18]::Oi) [1,3,4])) Qbrw
def Qbm7:SC:=.seq (sR [mJ 5 4,fJ 6 0 1,lJ 7 6,nJ 8 7,bJ 9 .lss 5 8] [1,3,4,9] (cT 9 .skip (.exit 0))) Qbrx
def Qbry:SC:=sR [mJ 21 3,mJ 2 21] [2] .ret
def Qbrz:SC:=.seq (sR [zJ 4 0] [1,3,4] (bL 0 Qbm7)) Qbry
def Qbr0:SC:=sR [zJ 3 0] [1,3] Qbrz
def T3:SC:=sR [vJ 1 0,zJ 2 0] [1] Qbr0
theorem TA:mFn prog Ho 1 22 T3 Ad=true:=by kernel_rfl
def MV:List Item:=[mJ 5 4,gTm 6 5 0,gT 7 5 (.bin 0 .neq (.t 6) (kI 12)),pF 8 5 7,mJ 9 8,gTm 10 9 0,gT 11 9 (.bin 0 .neq (.t 10) (kI 13)),pF 12 9 11,mJ 2 12]
def Qbig:SC:=sR (mJ 3 0::aJ 4 Bx [.t 3,kI 1,kI 14]::MV) [2] .ret
def Qbsf:SC:=sR [fB 2 false] [0] Qbig
theorem Qbqr:mFn prog Rq 1 13 Qbsf Ad=true:=by kernel_rfl
def Mq:List Item:=[mJ 24 23,gFm 25 24 0,gF 26 24 (.bin 0 .eql (.t 25) (kI 12)),pT 27 24 26,mJ 21 27]
def Qbni:SC:=cT 21 (sR [zJ 2 2] [2] .ret) .skip
def Qbnj:SC:=cT 6 (sR [zJ 2 1] [2] .ret) (sR (mJ 22 0::aJ 23 Bx [.t 22,kI 3,kI 9]::Mq) [21] Qbni)
def Qbnk:SC:=cT 3 (sR [zJ 2 0] [2] .ret) (sR [mJ 7 0,cJ 8 .eql 7 2,mJ 9 8,gFm 10 9 0,gF 11 9 (.bin 0 .eql (.t 10) (kI 10)),pT 12 9 11,mJ 13 12,gFm 14 13 0,gF 15 13 (.bin 0 .eql (.t 14) (kI 11)),pT 16 13 15,mJ 17 16,gFm 18 17 0,gF 19 17 (.bin 0 .eql (.t 18) (kI 13)),pT 20 17 19,mJ 6 20] [0,6] Qbnj)
def Qbnl:SC:=sR [zJ 2 (-1)] [2] .ret
def Qbnm:SC:=.seq (.block 0 (sR [mJ 4 0,cJ 5 .eql 4 1,mJ 3 5] [0,3] Qbnk)) Qbnl
def Xf:SC:=sR [zJ 2 0] [0] Qbnm
theorem X3:mFn prog Gq 1 28 Xf Ad=true:=by kernel_rfl
def Qbh8:SC:=cT 3 (sR [zJ 2 1] [2] .ret) .skip
def Qbh9:SC:=sR [zJ 2 0] [2] .ret
def Qbia:SC:=.seq (sR [mJ 3 0] [3] Qbh8) Qbh9
def Qbsc:SC:=sR [zJ 2 0] [0] Qbia
theorem Qbqp:mFn prog GM 1 4 Qbsc Ad=true:=by kernel_rfl
def Qazl:SC:=cT 11 (sR [mJ 12 0,tJ 13 5 3,aJ 14 R9 [.t 12,.t 13]] [] .ret) .skip
def Q39:List Item:=[mJ 4 32]
def Q4a:List Item:=fI 31 (.bw 1 [.t 30])::xJ 32 1 23 31::Q39
def Qazm:SC:=.reg [mJ 21 5,cJ 22 .add 21 1,mJ 5 22] [0,3,4,5]
def Qazn:SC:=.seq (.block 1 (.reg (mJ 23 4::mJ 24 0::fJ 25 2 3::lJ 26 25::mJ 27 5::iJ 28 4 26 27::tJ 29 4 28::aJ 30 F7 [.t 24,.t 29]::Q4a) [0,3,4,5])) Qazm
def Qath:SC:=.seq (sR [mJ 16 5,fJ 17 2 3,lJ 18 17,nJ 19 18,bJ 20 .lss 16 19] [0,3,4,5,20] (cT 20 .skip (.exit 0))) Qazn
def Q4b:List Item:=[kJ 58 44,fJ 59 5 58,sJ 1 59 57]
def Qazo:SC:=.reg [mJ 60 0,mJ 61 0,kJ 62 61,fJ 63 6 62,lJ 64 63,cJ 65 .add 64 1,kJ 66 60,fJ 67 6 66,sJ 1 67 65] []
def Qazp:SC:=.seq (.aH 17 [0,1,2,3,4,5,6,7,8,9,10,11,12,13,14,15,16] ( mJ 44 0::mJ 45 0::kJ 46 45::fJ 47 5 46::lJ 48 47::fJ 49 1 3::lJ 50 49::mJ 51 0::kJ 52 51::fJ 53 6 52::lJ 54 53::fI 55 (.bld [.str [],.int .i64 0,.int .i64 0] [(0,1,.t 50),(1,1,.t 54),(2,1,kI 0)])::fI 56 (.bw 3 [.t 55])::xJ 57 3 48 56::Q4b) [0]) Qazo
def Q4c:List Item:=[mJ 75 4,aJ 76 C7 [.t 70,kI 2,.t 74,kI 0,.t 75]]
def Qyq:List Item:=[.chk 91 none (.iad 1 (.t 90) (kI 0)),hJ 92 91,aJ 96 Dd [.t 89,kI 3,.t 92,.t 93,.t 95]]
def Qyr:List Item:=[mJ 6 100]
def Qys:List Item:=[mJ 7 102]
def Qyt:List Item:=[mJ 8 104]
def Qasz:SC:=.reg [mJ 127 0,mJ 128 8,fI 129 (.bw 1 [.t 128]),mJ 130 8,aJ 131 Dd [.t 127,kI 1,kI 0,.t 129,.t 130]] []
def Qas0:SC:=sR [mJ 123 0,fJ 124 4 3,lJ 125 124,aJ 126 HT [.t 123,.t 125]] [0,8] Qasz
def Qas1:SC:=sR [mJ 118 0,mJ 119 8,fI 120 (.bw 1 [.t 119]),mJ 121 7,aJ 122 Dd [.t 118,kI 1,kI 0,.t 120,.t 121]] [0,3,8] Qas0
def Qas2:SC:=sR [mJ 114 0,fJ 115 3 3,lJ 116 115,aJ 117 HT [.t 114,.t 116]] [0,3,7,8] Qas1
def Qas3:SC:=sR [mJ 105 0,mJ 106 4,fI 107 (.iad 1 (.t 106) (kI 0)),lJ 108 107,mJ 109 6,mJ 110 7,fI 111 (.bw 1 [.t 109,.t 110]),mJ 112 6,aJ 113 Dd [.t 105,kI 2,.t 108,.t 111,.t 112]] [0,3,7,8] Qas2
def Qas4:SC:=sR (mJ 103 0::aJ 104 Dg [.t 103]::Qyt) [0,3,4,6,7,8] Qas3
def Qas5:SC:=sR (mJ 101 0::aJ 102 Dg [.t 101]::Qys) [0,3,4,6,7] Qas4
def Qas6:SC:=cT 97 (sR (mJ 99 0::aJ 100 Dg [.t 99]::Qyr) [0,3,4,6] Qas5) .skip
def Qas7:SC:=cT 87 (.aH 8 [0,1,2,3,4,5,6,2,3,7] ( mJ 89 0::mJ 90 4::fI 91 (.iad 1 (.t 90) (kI 0))::lJ 92 91::fI 93 (.bw 1 [])::mJ 94 0::aJ 95 Dg [.t 94]::Qyq) []) (sR [cJ 98 .eql 34 5,mJ 97 98] [0,3,4,97] Qas6)
def Qas8:SC:=cT 82 (.reg [mJ 84 0,mJ 85 4,aJ 86 C7 [.t 84,kI 12,kI (-1),kI 0,.t 85]] []) (sR [cJ 88 .eql 34 7,mJ 87 88] [0,3,4,34,87] Qas7)
def Qas9:SC:=cT 77 (.reg [mJ 79 0,mJ 80 4,aJ 81 C7 [.t 79,kI 13,kI (-1),kI 0,.t 80]] []) (sR [cJ 83 .eql 34 4,mJ 82 83] [0,3,4,34,82] Qas8)
def Qata:SC:=cT 68 (.reg (mJ 70 0::mJ 71 0::fJ 72 1 3::lJ 73 72::aJ 74 P6 [.t 71,.t 73]::Q4c) []) (sR [cJ 78 .eql 34 3,mJ 77 78] [0,3,4,34,77] Qas9)
def Qatb:SC:=cT 35 (sR [mJ 37 0,mJ 38 0,kJ 39 38,fJ 40 6 39,lJ 41 40,mJ 42 4,aJ 43 C7 [.t 37,kI 2,.t 41,kI 0,.t 42]] [0,3] Qazp) (sR [cJ 69 .eql 34 2,mJ 68 69] [0,3,4,34,68] Qata)
def Qatc:SC:=.block 2 (sR [cJ 36 .eql 34 1,mJ 35 36] [0,3,4,34,35] Qatb)
def Qatd:SC:=.seq (.seq .gh (.reg [fJ 33 0 3,lJ 34 33] [0,3,4,34])) Qatc
def Qate:SC:=.seq (sR [zJ 5 0] [0,3,4,5] (bL 0 Qath)) Qatd
def Qatf:SC:=sR [fI 15 (.bw 1 []),mJ 4 15] [0,3,4] Qate
def Qatg:SC:=.seq (sR [fJ 9 0 3,lJ 10 9,cJ 11 .eql 10 6] [0,3,11] Qazl) Qatf
def Qbc9:SC:=sR [vJ 3 1] [0,3] Qatg
theorem Qbax:mFn prog R8 2 132 Qbc9 Av=true:=by kernel_rfl
def RQ:List Item:=[gT 13 10 (.not (.t 12)),pF 14 10 13,mJ 2 14]
def Q9e:List Item:=mJ 5 4::gTm 6 5 0::gT 7 5 (.lens (.t 6))::gT 8 5 (.bin 0 .leq (.t 7) (kI 4))::pF 9 5 8::mJ 10 9::gTm 11 10 0::.e (some 12) (some (10,true)) (.call Hp [.t 11])::RQ
def Qa9g:SC:=sR (mJ 3 0::aJ 4 Hq [.t 3,kI 1]::Q9e) [2] .ret
def Qbjs:SC:=sR [fB 2 false] [0] Qa9g
theorem Qbgj:mFn prog HN 1 15 Qbjs Ad=true:=by kernel_rfl
def Nf:List Item:=[oJ 18 17]
def Qbh3:SC:=cT 18 (sR [fB 4 false] [4] .ret) .skip
def Qbh4:SC:=.reg [mJ 10 5,cJ 11 .add 10 1,mJ 5 11] [0,1,5]
def Qbh5:SC:=.seq (.block 1 (sR (mJ 12 0::mJ 13 5::iJ 14 5 12 13::tJ 15 5 14::mJ 16 1::aJ 17 Gt [.t 15,.t 16]::Nf) [0,1,5,18] Qbh3)) Qbh4
def Qbb9:SC:=.seq (sR [mJ 6 5,mJ 7 0,nJ 8 7,bJ 9 .lss 6 8] [0,1,5,9] (cT 9 .skip (.exit 0))) Qbh5
def Qbh6:SC:=sR [fB 4 true] [4] .ret
def Qbh7:SC:=.seq (sR [zJ 5 0] [0,1,5] (bL 0 Qbb9)) Qbh6
def Qbr3:SC:=sR [fB 4 false] [0,1] Qbh7
theorem Qbqo:mFn prog Ih 2 19 Qbr3 Aa=true:=by kernel_rfl
def Ni:List Item:=[bJ 27 .add 20 26,mJ 3 27]
def Nh:List Item:=.chk 23 none (.iad 5 (.t 21) (.t 22))::hJ 25 24::bJ 20 .add 13 19::aJ 26 Ii [.t 25]::Ni
def Qbhp:SC:=.reg [mJ 11 4,cJ 12 .add 11 1,mJ 4 12] [0,3,4]
def Qbhq:SC:=.seq (.block 1 (.aH 16 [0,1,2,3,4,5,8,9,10,11,12,6,10,12,7,13,14,15] ( mJ 13 3::mJ 14 0::mJ 15 4::iJ 16 5 14 15::fJ 17 3 16::lJ 18 17::mJ 21 0::mJ 22 4::iJ 23 5 21 22::fJ 24 4 23::lJ 25 24::aJ 19 Ii [.t 18]::Nh) [0,3,4])) Qbhp
def Qbb6:SC:=.seq (sR [mJ 7 4,mJ 8 0,nJ 9 8,bJ 10 .lss 7 9] [0,3,4,10] (cT 10 .skip (.exit 0))) Qbhq
def Qbhr:SC:=sR [mJ 28 3,mJ 2 28] [2] .ret
def Qbhs:SC:=.seq (sR [zJ 4 0] [0,3,4] (bL 0 Qbb6)) Qbhr
def Qbht:SC:=sR [mJ 5 0,nJ 6 5,mJ 3 6] [0,3] Qbhs
def Qbr1:SC:=sR [zJ 2 0] [0] Qbht
theorem Qbqn:mFn prog Ii 1 29 Qbr1 Ad=true:=by kernel_rfl
def Q35:List Item:=[mJ 4 9]
def Q36:List Item:=[mJ 5 11]
def Q37:List Item:=[mJ 6 13]
def Q38:List Item:=[mJ 7 24]
def Qaze:SC:=.reg [mJ 36 0,mJ 37 4,fI 38 (.bw 1 [.t 37]),mJ 39 6,aJ 40 Dd [.t 36,kI 1,kI 0,.t 38,.t 39]] []
def Qazf:SC:=sR [mJ 32 0,fJ 33 3 3,lJ 34 33,aJ 35 HT [.t 32,.t 34]] [0,4,6] Qaze
def Qazg:SC:=sR [mJ 25 0,mJ 26 7,mJ 27 5,mJ 28 6,fI 29 (.bw 1 [.t 27,.t 28]),mJ 30 5,aJ 31 Dd [.t 25,kI 2,.t 26,.t 29,.t 30]] [0,3,4,6] Qazf
def Qazh:SC:=sR (mJ 19 0::fJ 20 2 3::lJ 21 20::fI 22 (.iad 4 (.t 21) (kI 0))::tJ 23 4 22::aJ 24 F7 [.t 19,.t 23]::Q38) [0,3,4,5,6,7] Qazg
def Qazi:SC:=sR [mJ 14 0,mJ 15 4,fI 16 (.bw 1 [.t 15]),mJ 17 4,aJ 18 Dd [.t 14,kI 1,kI 0,.t 16,.t 17]] [0,3,4,5,6] Qazh
def Qazj:SC:=sR (mJ 12 0::aJ 13 Dg [.t 12]::Q37) [0,3,4,5,6] Qazi
def Qasx:SC:=sR (mJ 10 0::aJ 11 Dg [.t 10]::Q36) [0,3,4,5] Qazj
def Qasy:SC:=sR (mJ 8 0::aJ 9 Dg [.t 8]::Q35) [0,3,4] Qasx
def Qbc8:SC:=sR [vJ 3 1] [0,3] Qasy
theorem Qbaw:mFn prog R9 2 41 Qbc8 Av=true:=by kernel_rfl
def Q3z:List Item:=[mJ 4 17]
def Q30:List Item:=hJ 15 14::aJ 17 C7 [.t 11,kI 1,.t 13,.t 15,.t 16]::Q3z
def Q31:List Item:=[mJ 4 23]
def Q32:List Item:=[mJ 4 28]
def Qay6:SC:=cT 24 (sR (mJ 26 0::tJ 27 4 3::aJ 28 Q1f [.t 26,.t 27]::Q32) [4] .ret) .skip
def Qay7:SC:=cT 18 (sR (mJ 20 0::fJ 21 2 3::lJ 22 21::aJ 23 P6 [.t 20,.t 22]::Q31) [4] .ret) (sR [cJ 25 .eql 8 10,mJ 24 25] [0,3,24] Qay6)
def Qay8:SC:=cT 9 (.seq (.aH 8 [0,1,3,4,5,2,4,6,7] ( mJ 11 0::mJ 12 0::fJ 14 1 3::lJ 15 14::fI 16 (.bw 1 [])::aJ 13 DM [.t 12]::Q30) [4]) .ret) (sR [cJ 19 .eql 8 2,mJ 18 19] [0,3,8,18] Qay7)
def Qay9:SC:=.block 0 (sR [cJ 10 .eql 8 1,mJ 9 10] [0,3,8,9] Qay8)
def Q33:List Item:=[mJ 5 46]
def Q34:List Item:=fI 45 (.bw 1 [.t 44])::xJ 46 1 37 45::Q33
def Qask:SC:=.reg [mJ 35 6,cJ 36 .add 35 1,mJ 6 36] [0,3,5,6]
def Qasl:SC:=.seq (.block 2 (.reg (mJ 37 5::mJ 38 0::fJ 39 3 3::lJ 40 39::mJ 41 6::iJ 42 4 40 41::tJ 43 4 42::aJ 44 F7 [.t 38,.t 43]::Q34) [0,3,5,6])) Qask
def Qalo:SC:=.seq (sR [mJ 30 6,fJ 31 3 3,lJ 32 31,nJ 33 32,bJ 34 .lss 30 33] [0,3,5,6,34] (cT 34 .skip (.exit 1))) Qasl
def Qyh:List Item:=[mJ 4 55]
def Qyi:List Item:=mJ 54 5::aJ 55 C7 [.t 51,kI 10,.t 53,kI 0,.t 54]::Qyh
def Qyj:List Item:=[mJ 4 62]
def Qyk:List Item:=mJ 61 5::aJ 62 C7 [.t 58,kI 11,.t 60,kI 0,.t 61]::Qyj
def Qyl:List Item:=[mJ 4 76]
def Qym:List Item:=aJ 76 C7 [.t 65,kI 14,.t 67,.t 74,.t 75]::Qyl
def Qyn:List Item:=.chk 71 none (.ld 1 true (.t 70))::hJ 73 72::aJ 74 If [.t 71,.t 73]::Qym
def Qasm:SC:=cT 63 (.seq (.aH 13 [0,1,3,4,5,6,7,8,10,2,6,8,9,11,12] ( mJ 65 0::mJ 66 0::mJ 68 0::kJ 69 68::fJ 70 0 69::tJ 71 1 70::fJ 72 2 3::lJ 73 72::mJ 75 5::aJ 67 DM [.t 66]::Qyn) [4]) .ret) .skip
def Qasn:SC:=cT 56 (sR (mJ 58 0::mJ 59 0::aJ 60 DM [.t 59]::Qyk) [4] .ret) (sR [cJ 64 .eql 48 13,mJ 63 64] [0,3,5,63] Qasm)
def Qaso:SC:=cT 49 (sR (mJ 51 0::mJ 52 0::aJ 53 DM [.t 52]::Qyi) [4] .ret) (sR [cJ 57 .eql 48 12,mJ 56 57] [0,3,5,48,56] Qasn)
def Qasp:SC:=.block 3 (sR [cJ 50 .eql 48 11,mJ 49 50] [0,3,5,48,49] Qaso)
def Qyo:List Item:=[mJ 4 83]
def Qyp:List Item:=hJ 79 78::aJ 83 C7 [.t 77,.t 79,.t 81,kI 0,.t 82]::Qyo
def Qasq:SC:=.seq (.aH 8 [0,1,2,3,5,4,2,6,7] ( mJ 77 0::fJ 78 0 3::lJ 79 78::mJ 80 0::mJ 82 5::aJ 81 DM [.t 80]::Qyp) [4]) .ret
def Qasr:SC:=.seq (.seq (.seq .gh (.reg [fJ 47 0 3,lJ 48 47] [0,3,5,48])) Qasp) Qasq
def Qass:SC:=.seq (sR [zJ 6 0] [0,3,5,6] (bL 1 Qalo)) Qasr
def Qast:SC:=sR [fI 29 (.bw 1 []),mJ 5 29] [0,3,5] Qass
def Qasu:SC:=.seq (sR [fJ 7 0 3,lJ 8 7] [0,3,8] Qay9) Qast
def Qbc6:SC:=sR [vJ 3 1,zJ 4 0] [0,3] Qasu
theorem Qbau:mFn prog F7 2 84 Qbc6 Aa=true:=by kernel_rfl
def Qa6p:SC:=cT 25 (sR [mJ 26 0,kJ 27 26,fJ 28 5 27,lJ 29 28,mJ 30 5,iJ 31 3 29 30,fJ 32 1 31,lJ 33 32,mJ 4 33] [4] .ret) .skip
def Qa6q:SC:=.reg [mJ 14 5,cJ 15 .sub 14 1,mJ 5 15] [0,1,5]
def Qa6r:SC:=.seq (.block 1 (sR [mJ 16 0,kJ 17 16,fJ 18 5 17,lJ 19 18,mJ 20 5,iJ 21 3 19 20,fJ 22 0 21,lJ 23 22,mJ 24 1,bJ 25 .eql 23 24] [0,1,5,25] Qa6p)) Qa6q
def Qazk:SC:=.seq (sR [mJ 12 5,cJ 13 .geq 12 0] [0,1,5,13] (cT 13 .skip (.exit 0))) Qa6r
def Qa6s:SC:=sR [zJ 4 (-1)] [4] .ret
def Qa6t:SC:=.seq (sR [mJ 6 0,kJ 7 6,fJ 8 5 7,lJ 9 8,nJ 10 9,cJ 11 .sub 10 1,mJ 5 11] [0,1,5] (bL 0 Qazk)) Qa6s
def Qbiq:SC:=sR [zJ 4 0] [0,1] Qa6t
theorem Qbf7:mFn prog P6 2 34 Qbiq Aa=true:=by kernel_rfl
def Om:List Item:=[mJ 16 1,bJ 17 .neq 15 16]
def Qbri:SC:=cT 17 (sR [fB 4 false] [4] .ret) .skip
def Qbrj:SC:=.reg [mJ 10 5,cJ 11 .add 10 1,mJ 5 11] [0,1,5]
def Qbrk:SC:=.seq (.block 1 (sR (mJ 12 0::mJ 13 5::fI 14 (.idx (.t 12) (.t 13))::aJ 15 GO [.t 14]::Om) [0,1,5,17] Qbri)) Qbrj
def Qbmy:SC:=.seq (sR [mJ 6 5,mJ 7 0,fI 8 (.lens (.t 7)),bJ 9 .lss 6 8] [0,1,5,9] (cT 9 .skip (.exit 0))) Qbrk
def Qbrl:SC:=sR [mJ 18 0,fI 19 (.lens (.t 18)),cJ 20 .gtr 19 0,mJ 4 20] [4] .ret
def Qbrm:SC:=.seq (sR [zJ 5 0] [0,1,5] (bL 0 Qbmy)) Qbrl
def T5:SC:=sR [fB 4 false] [0,1] Qbrm
theorem TC:mFn prog Hq 2 21 T5 Aa=true:=by kernel_rfl
def Ol:List Item:=[mJ 3 5]
def Qbro:SC:=cT 17 (sR [fB 2 true] [2] .ret) .skip
def Qbrp:SC:=.reg [mJ 10 4,cJ 11 .add 10 1,mJ 4 11] [0,3,4]
def Qbrq:SC:=.seq (.block 1 (sR [mJ 12 3,mJ 13 4,iJ 14 1 12 13,lJ 15 14,mJ 16 0,bJ 17 .eql 15 16] [0,3,4,17] Qbro)) Qbrp
def Qbmz:SC:=.seq (sR [mJ 6 4,mJ 7 3,nJ 8 7,bJ 9 .lss 6 8] [0,3,4,9] (cT 9 .skip (.exit 0))) Qbrq
def Qbrr:SC:=sR [fB 2 false] [2] .ret
def Qbrs:SC:=.seq (sR [zJ 4 0] [0,3,4] (bL 0 Qbmz)) Qbrr
def Qbrt:SC:=sR (aJ 5 RJ []::Ol) [0,3] Qbrs
def T4:SC:=sR [fB 2 false] [0] Qbrt
theorem TB:mFn prog Hp 1 18 T4 Ad=true:=by kernel_rfl
def Pm:List Item:=[.chk 17 (some (15,false)) (.ld 1 false (.t 16)),.chk 18 (some (15,false)) (.len (.t 17)),gF 22 15 (.bin 0 .neq (.t 18) (.t 21)),pT 23 15 22]
def Hb:List Item:=gF 13 9 (.not (.t 12))::pT 14 9 13::mJ 15 14::gFf 16 15 2 2::gFl 17 15 16::gF 18 15 (.len (.t 17))::gFf 19 15 0 2::gFl 20 15 19::.e (some 21) (some (15,false)) (.call Gu [.t 20])::Pm
def s_l3Stmt_2:SC:=cT 23 (sR [fB 4 false] [4] .ret) .skip
def Mu:List Item:=[fI 36 (.bin 1 .neq (.t 32) (.t 35)),mJ 37 36,gFm 38 37 5,gF 39 37 (.not (.t 38)),gFm 40 37 39,gTf 41 40 1 2,gTl 42 40 41,gT 43 40 (.bin 0 .neq (.t 42) (.k (.c (.str [])))),gF 44 37 (.pick (.t 40) (.t 43) (.k (.c (.bool false)))),pT 45 37 44]
def Qbnb:SC:=cT 45 (sR [fB 4 false] [4] .ret) .skip
def Ms:List Item:=[oJ 59 58]
def Qbnc:SC:=cT 59 (sR [fB 4 false] [4] .ret) .skip
def Qbnd:SC:=.reg [mJ 51 6,cJ 52 .add 51 1,mJ 6 52] [1,2,6]
def Qbne:SC:=.seq (.block 1 (sR (fJ 53 2 2::lJ 54 53::mJ 55 6::iJ 56 4 54 55::tJ 57 4 56::aJ 58 Sh [.t 57]::Ms) [1,2,6,59] Qbnc)) Qbnd
def Qbh2:SC:=.seq (sR [mJ 46 6,fJ 47 2 2,lJ 48 47,nJ 49 48,bJ 50 .lss 46 49] [1,2,6,50] (cT 50 .skip (.exit 0))) Qbne
def Qbhu:SC:=cT 70 (sR [fB 4 false] [4] .ret) .skip
def Qbhv:SC:=cT 95 (sR [fB 4 false] [4] .ret) .skip
def Q3s:List Item:=[pF 107 101 106,mJ 4 107]
def Ng:List Item:=mJ 101 100::gTf 102 101 4 2::gTl 103 101 102::gTm 104 101 1::gT 105 101 (.bin 0 .sub (.t 104) (kI 1))::.e (some 106) (some (101,true)) (.call Ih [.t 103,.t 105])::Q3s
def Qbhw:SC:=sR (fJ 96 3 2::lJ 97 96::mJ 98 1::cJ 99 .sub 98 1::aJ 100 Ih [.t 97,.t 99]::Ng) [4] .ret
def Qbhx:SC:=.seq (sR [fJ 71 4 2,lJ 72 71,nJ 73 72,cJ 74 .gtr 73 0,mJ 75 74,gTf 76 75 0 2,gTl 77 75 76,gT 78 75 (.bin 0 .neq (.t 77) (kI 5)),pF 79 75 78,mJ 80 79,gFf 81 80 3 2,gFl 82 80 81,gF 83 80 (.len (.t 82)),gF 84 80 (.bin 0 .gtr (.t 83) (kI 0)),gFm 85 80 84,gTf 86 85 0 2,gTl 87 85 86,gT 88 85 (.bin 0 .neq (.t 87) (kI 5)),gF 89 80 (.pick (.t 85) (.t 88) (.k (.c (.bool false)))),gFm 90 80 89,gTf 91 90 0 2,gTl 92 90 91,gT 93 90 (.bin 0 .neq (.t 92) (kI 6)),gF 94 80 (.pick (.t 90) (.t 93) (.k (.c (.bool false)))),pT 95 80 94] [1,2,95] Qbhv) Qbhw
def Qbhy:SC:=.seq (sR [fJ 60 0 2,lJ 61 60,cJ 62 .eql 61 8,mJ 63 62,gTf 64 63 2 2,gTl 65 63 64,gT 66 63 (.iad 4 (.t 65) (kI 0)),gTf 67 63 0 66,gTl 68 63 67,gT 69 63 (.bin 0 .neq (.t 68) (kI 13)),pF 70 63 69] [1,2,70] Qbhu) Qbhx
def Qbhz:SC:=.seq (sR [zJ 6 0] [1,2,6] (bL 0 Qbh2)) Qbhy
def Qbh0:SC:=.seq (sR (mJ 32 5::fJ 33 1 2::lJ 34 33::aJ 35 HN [.t 34]::Mu) [1,2,45] Qbnb) Qbhz
def Mv:SC:=sR [fJ 24 0 2,lJ 25 24,cJ 26 .eql 25 1,mJ 27 26,gFf 28 27 0 2,gFl 29 27 28,gF 30 27 (.bin 0 .eql (.t 29) (kI 2)),pT 31 27 30,mJ 5 31] [1,2,5] Qbh0
def Qbh1:SC:=.seq (.seq (.aH 17 [0,1,2,3,4,5,6,7,8,9,10,11,12,13,14,10,11,15,16] ( mJ 7 1::cJ 8 .lss 7 1::mJ 9 8::gFf 10 9 0 2::gFl 11 9 10::.e (some 12) (some (9,false)) (.call Bx [.t 11,kI 1,kI 8])::Hb) [1,2,23]) s_l3Stmt_2) Mv
def XI:SC:=sR [vJ 2 0,fB 4 false] [1,2] Qbh1
theorem X6:mFn prog Gt 2 108 XI Aa=true:=by kernel_rfl
def Q8p:List Item:=[mJ 5 16]
def Q8q:List Item:=[mJ 6 21]
def Q8r:List Item:=fI 20 (.bw 1 [])::aJ 21 C7 [.t 17,kI 1,.t 19,kI 0,.t 20]::Q8q
def Q8s:List Item:=[mJ 7 23]
def Q8t:List Item:=[mJ 8 25]
def Q8u:List Item:=[mJ 9 38]
def Q8v:List Item:=[mJ 10 44]
def Q8w:List Item:=mJ 42 9::fI 43 (.bw 1 [.t 42])::aJ 44 C7 [.t 39,kI 10,.t 41,kI 0,.t 43]::Q8v
def Qa6i:SC:=sR [mJ 55 6,mJ 4 55] [4] .ret
def Qa6j:SC:=sR [mJ 50 0,mJ 51 8,fI 52 (.bw 1 [.t 51]),mJ 53 8,aJ 54 Dd [.t 50,kI 1,kI 0,.t 52,.t 53]] [6] Qa6i
def Qayy:SC:=sR [mJ 45 0,mJ 46 6,mJ 47 10,fI 48 (.bw 1 [.t 47]),aJ 49 C7 [.t 45,kI 10,.t 46,kI 0,.t 48]] [0,6,8] Qa6j
def Qayz:SC:=sR (mJ 39 0::mJ 40 0::aJ 41 DM [.t 40]::Q8w) [0,6,8,10] Qayy
def Qay0:SC:=sR (mJ 33 0::fJ 34 3 3::lJ 35 34::fI 36 (.iad 4 (.t 35) (kI 1))::tJ 37 4 36::aJ 38 F7 [.t 33,.t 37]::Q8u) [0,6,8,9] Qayz
def Qay1:SC:=sR [mJ 26 0,mJ 27 5,mJ 28 7,mJ 29 8,fI 30 (.bw 1 [.t 28,.t 29]),mJ 31 7,aJ 32 Dd [.t 26,kI 2,.t 27,.t 30,.t 31]] [0,3,6,8] Qay0
def Qay2:SC:=sR (mJ 24 0::aJ 25 Dg [.t 24]::Q8t) [0,3,5,6,7,8] Qay1
def Qay3:SC:=sR (mJ 22 0::aJ 23 Dg [.t 22]::Q8s) [0,3,5,6,7] Qay2
def Qay4:SC:=sR (mJ 17 0::mJ 18 0::aJ 19 DM [.t 18]::Q8r) [0,3,5,6] Qay3
def Qay5:SC:=sR (mJ 11 0::fJ 12 3 3::lJ 13 12::fI 14 (.iad 4 (.t 13) (kI 0))::tJ 15 4 14::aJ 16 F7 [.t 11,.t 15]::Q8p) [0,3,5] Qay4
def Qbio:SC:=sR [vJ 3 1,zJ 4 0] [0,3] Qay5
theorem Qbf5:mFn prog Q1f 2 56 Qbio Aa=true:=by kernel_rfl
def Qbjn:SC:=cT 20 (sR [mJ 21 5,mJ 4 21] [4] .ret) .skip
def Qbjo:SC:=.reg [mJ 11 5,cJ 12 .add 11 1,mJ 5 12] [1,2,5]
def Qbjp:SC:=.seq (.block 1 (sR [fJ 13 0 2,lJ 14 13,mJ 15 5,iJ 16 3 14 15,fJ 17 0 16,lJ 18 17,mJ 19 1,bJ 20 .eql 18 19] [1,2,5,20] Qbjn)) Qbjo
def Qbeq:SC:=.seq (sR [mJ 6 5,fJ 7 0 2,lJ 8 7,nJ 9 8,bJ 10 .lss 6 9] [1,2,5,10] (cT 10 .skip (.exit 0))) Qbjp
def Qbjq:SC:=sR [zJ 4 (-1)] [4] .ret
def Qbjr:SC:=.seq (sR [zJ 5 0] [1,2,5] (bL 0 Qbeq)) Qbjq
def YQ:SC:=sR [vJ 2 0,zJ 4 0] [1,2] Qbjr
theorem Qbqw:mFn prog If 2 22 YQ Aa=true:=by kernel_rfl
def Nk:List Item:=[cJ 20 .geq 19 0,mJ 17 20]
def Qbg4:SC:=cT 21 (sR [zJ 2 4] [2] .ret) .skip
def Qbg5:SC:=cT 17 (sR [zJ 2 3] [2] .ret) (sR [mJ 22 0,fI 23 (.bin 0 .eql (.t 22) (.k (.c (.int .u8 32)))),mJ 24 23,gFm 25 24 0,gF 26 24 (.bin 0 .eql (.t 25) (.k (.c (.int .u8 10)))),pT 27 24 26,mJ 21 27] [21] Qbg4)
def Qbg6:SC:=cT 10 (sR [zJ 2 2] [2] .ret) (sR (mJ 18 0::eI 19 (.call GN [.k (.c (.str [40,41,123,125,59,44,43,45,42,47,37,60,61,38,33,64])),.t 18])::Nk) [0,17] Qbg5)
def Qbg7:SC:=cT 3 (sR [zJ 2 1] [2] .ret) (sR [mJ 11 0,fI 12 (.bin 0 .geq (.t 11) (.k (.c (.int .u8 48)))),mJ 13 12,gTm 14 13 0,gT 15 13 (.bin 0 .leq (.t 14) (.k (.c (.int .u8 57)))),pF 16 13 15,mJ 10 16] [0,10] Qbg6)
def Qbg8:SC:=sR [zJ 2 0] [2] .ret
def Qbg9:SC:=.seq (.block 0 (sR [mJ 4 0,fI 5 (.bin 0 .geq (.t 4) (.k (.c (.int .u8 97)))),mJ 6 5,gTm 7 6 0,gT 8 6 (.bin 0 .leq (.t 7) (.k (.c (.int .u8 122)))),pF 9 6 8,mJ 3 9] [0,3] Qbg7)) Qbg8
def Qbrn:SC:=sR [zJ 2 0] [0] Qbg9
theorem Qbqk:mFn prog GO 1 28 Qbrn Ad=true:=by kernel_rfl
def Qav4:SC:=sR [fI 1 (.bw 1 [.k (.c (.str [102,110])),.k (.c (.str [108,101,116])),.k (.c (.str [115,97,121])),.k (.c (.str [112,117,116])),.k (.c (.str [105,102])),.k (.c (.str [101,108,115,101])),.k (.c (.str [108,111,111,112])),.k (.c (.str [98,97,99,107])),.k (.c (.str [100,111]))]),mJ 0 1] [0] .ret
def Qa9h:SC:=sR [fI 0 (.mv (.k (.c (.sl true 1 []))))] [] Qav4
def NT:List RS:=[.tmp 0]
theorem Qa5g:mFn prog RJ 0 2 Qa9h NT=true:=by kernel_rfl
def Qbm8:SC:=cT 4 (sR [zJ 2 2] [2] .ret) .skip
def Qbm9:SC:=sR [zJ 2 1] [2] .ret
def Qbna:SC:=.seq (sR [mJ 3 0,cJ 4 .eql 3 4] [4] Qbm8) Qbm9
def XO:SC:=sR [zJ 2 0] [0] Qbna
theorem X7:mFn prog Gu 1 5 XO Ad=true:=by kernel_rfl
def S4:List Item:=[gT 8 5 (.bin 0 .leq (.t 7) (kI 30)),pF 9 5 8,mJ 2 9]
def Quz:List Item:=mJ 5 4::gT 6 5 (.ld 4 true (.t 1))::.e (some 7) (some (5,true)) (.call Rr [.t 6])::S4
def Qan4:SC:=sR (tJ 3 4 1::aJ 4 EF [.t 3,kI 6]::Quz) [2] .ret
def Qa12:SC:=sR [vJ 1 0,fB 2 false] [1] Qan4
theorem Qaw2:mFn prog Sh 1 10 Qa12 Ad=true:=by kernel_rfl
def Qbhk:SC:=cT 16 (sR [mJ 17 5,mJ 4 17] [4] .ret) .skip
def Qbhl:SC:=.reg [mJ 10 5,cJ 11 .add 10 1,mJ 5 11] [0,1,5]
def Qbhm:SC:=.seq (.block 1 (sR [mJ 12 0,mJ 13 5,fI 14 (.idx (.t 12) (.t 13)),mJ 15 1,bJ 16 .eql 14 15] [0,1,5,16] Qbhk)) Qbhl
def Qbb5:SC:=.seq (sR [mJ 6 5,mJ 7 0,fI 8 (.lens (.t 7)),bJ 9 .lss 6 8] [0,1,5,9] (cT 9 .skip (.exit 0))) Qbhm
def Qbhn:SC:=sR [zJ 4 (-1)] [4] .ret
def Qbho:SC:=.seq (sR [zJ 5 0] [0,1,5] (bL 0 Qbb5)) Qbhn
def Qbrv:SC:=sR [zJ 4 0] [0,1] Qbho
theorem Qbqm:mFn prog GN 2 18 Qbrv Aa=true:=by kernel_rfl
def My:List Item:=[mJ 9 12,fI 13 (.ext (.t 9) 0),fI 14 (.ext (.t 9) 1),mJ 5 13,mJ 6 14]
def Pn:List Item:=[gF 30 23 (.not (.t 29)),pT 31 23 30]
def Hd:List Item:=gF 21 17 (.not (.t 20))::pT 22 17 21::mJ 23 22::gFf 24 23 3 2::gFl 25 23 24::gF 26 23 (.len (.t 25))::gFm 27 23 5::gFm 28 23 6::.e (some 29) (some (23,false)) (.call Bx [.t 26,.t 27,.t 28])::Pn
def s_l2Form_3:SC:=cT 31 (sR [fB 4 false] [4] .ret) .skip
def Hc:List Item:=[gF 58 54 (.not (.t 57)),pT 59 54 58,mJ 60 59,gFf 61 60 0 2,gFl 62 60 61,gF 63 60 (.bin 0 .neq (.t 62) (kI 1)),gFm 64 60 63,gTf 65 64 1 2,gTl 66 64 65,gT 67 64 (.bin 0 .neq (.t 66) (kI 0)),gF 68 60 (.pick (.t 64) (.t 67) (.k (.c (.bool false)))),pT 69 60 68]
def Mx:List Item:=fI 44 (.bin 1 .neq (.t 40) (.t 43))::mJ 45 44::gFm 46 45 7::gF 47 45 (.not (.t 46))::gFm 48 45 47::gTf 49 48 2 2::gTl 50 48 49::gT 51 48 (.bin 0 .neq (.t 50) (.k (.c (.str []))))::gF 52 45 (.pick (.t 48) (.t 51) (.k (.c (.bool false))))::pT 53 45 52::mJ 54 53::gFf 55 54 1 2::gFl 56 54 55::.e (some 57) (some (54,false)) (.call Bx [.t 56,kI 0,kI 255])::Hc
def s_l2Form_6:SC:=cT 69 (sR [fB 4 false] [4] .ret) .skip
def Mw:List Item:=[oJ 85 84]
def Qbm0:SC:=cT 85 (sR [fB 4 false] [4] .ret) .skip
def Qbm1:SC:=.reg [mJ 75 8,cJ 76 .add 75 1,mJ 8 76] [1,2,8]
def Qbha:SC:=.seq (.block 1 (sR (fJ 77 3 2::lJ 78 77::mJ 79 8::iJ 80 4 78 79::tJ 81 4 80::mJ 82 1::cJ 83 .sub 82 1::aJ 84 EF [.t 81,.t 83]::Mw) [1,2,8,85] Qbm0)) Qbm1
def Qbb3:SC:=.seq (sR [mJ 70 8,fJ 71 3 2,lJ 72 71,nJ 73 72,bJ 74 .lss 70 73] [1,2,8,74] (cT 74 .skip (.exit 0))) Qbha
def Qbhb:SC:=sR [fB 4 true] [4] .ret
def M0:SC:=.seq (sR [zJ 8 0] [1,2,8] (bL 0 Qbb3)) Qbhb
def Qbhc:SC:=.seq (sR (mJ 40 7::fJ 41 2 2::lJ 42 41::aJ 43 HN [.t 42]::Mx) [1,2,69] s_l2Form_6) M0
def Mz:SC:=sR [fJ 32 0 2,lJ 33 32,cJ 34 .eql 33 2,mJ 35 34,gFf 36 35 0 2,gFl 37 35 36,gF 38 35 (.bin 0 .eql (.t 37) (kI 13)),pT 39 35 38,mJ 7 39] [1,2,7] Qbhc
def Qbhd:SC:=.seq (sR (mJ 15 1::cJ 16 .lss 15 1::mJ 17 16::gFf 18 17 0 2::gFl 19 17 18::.e (some 20) (some (17,false)) (.call Bx [.t 19,kI 1,kI 13])::Hd) [1,2,31] s_l2Form_3) Mz
def Qbhe:SC:=sR (fJ 10 0 2::lJ 11 10::aJ 12 Gv [.t 11]::My) [1,2,5,6] Qbhd
def Xs:SC:=sR [vJ 2 0,fB 4 false] [1,2] Qbhe
theorem X9:mFn prog EF 2 86 Xs Aa=true:=by kernel_rfl
def Nj:List Item:=[bJ 19 .add 12 18,mJ 3 19]
def Qbhf:SC:=.reg [mJ 10 4,cJ 11 .add 10 1,mJ 4 11] [1,3,4]
def Qbhg:SC:=.seq (.block 1 (.reg (mJ 12 3::fJ 13 3 1::lJ 14 13::mJ 15 4::iJ 16 4 14 15::tJ 17 4 16::aJ 18 Rr [.t 17]::Nj) [1,3,4])) Qbhf
def Qbb4:SC:=.seq (sR [mJ 5 4,fJ 6 3 1,lJ 7 6,nJ 8 7,bJ 9 .lss 5 8] [1,3,4,9] (cT 9 .skip (.exit 0))) Qbhg
def Qbhh:SC:=sR [mJ 20 3,mJ 2 20] [2] .ret
def Qbhi:SC:=.seq (sR [zJ 4 0] [1,3,4] (bL 0 Qbb4)) Qbhh
def Qbhj:SC:=sR [zJ 3 1] [1,3] Qbhi
def Qbru:SC:=sR [vJ 1 0,zJ 2 0] [1] Qbhj
theorem Qbql:mFn prog Rr 1 21 Qbru Ad=true:=by kernel_rfl
def Qbm2:SC:=cT 5 .skip (.reg [cJ 7 .eql 4 2,mJ 5 7] [4,5])
def Qbm3:SC:=cT 8 .skip (.reg [cJ 10 .eql 4 12,mJ 8 10] [4,8])
def Qbm4:SC:=cT 11 (sR [zJ 2 0,zJ 3 3] [2,3] .ret) .skip
def Ok:SC:=cT 8 (sR [zJ 2 1,zJ 3 1] [2,3] .ret) (sR [cJ 12 .eql 4 13,mJ 11 12] [11] Qbm4)
def Oj:SC:=cT 5 (sR [zJ 2 0,zJ 3 0] [2,3] .ret) (.seq (sR [cJ 9 .eql 4 11,mJ 8 9] [4,8] Qbm3) Ok)
def Qbm5:SC:=.block 0 (.seq (sR [cJ 6 .eql 4 1,mJ 5 6] [4,5] Qbm2) Oj)
def Gz:SC:=sR [zJ 2 2,zJ 3 2] [2,3] .ret
def Qbm6:SC:=.seq (sR [mJ 4 0] [4] Qbm5) Gz
def XP:SC:=sR [zJ 2 0,zJ 3 0] [0] Qbm6
def D9:List RS:=[.tmp 2,.tmp 3]
theorem X8:mFn prog Gv 1 13 XP D9=true:=by kernel_rfl
def Qy4:List Item:=[cJ 8 .geq 7 0,mJ 4 8]
def Qav3:SC:=sR (mJ 5 0::mJ 6 1::aJ 7 Q9p [.t 5,.t 6]::Qy4) [4] .ret
def Qa9e:SC:=sR [fB 4 false] [0,1] Qav3
theorem Qa5f:mFn prog RK 2 9 Qa9e Aa=true:=by kernel_rfl
def Qbek:SC:=cT 16 (sR [mJ 17 5,mJ 4 17] [4] .ret) .skip
def Qbel:SC:=sR [mJ 11 1,mJ 12 0,mJ 13 5,iJ 14 1 12 13,lJ 15 14,bJ 16 .eql 11 15] [0,1,5,7,8,16] Qbek
def Qbem:SC:=.reg [cJ 18 .add 8 1,mJ 8 18] [0,1,7,8]
def Qben:SC:=.seq (.block 1 (sR [mJ 10 8,mJ 5 10] [0,1,5,7,8] Qbel)) Qbem
def Qa9f:SC:=sR [bJ 9 .lss 8 7] [0,1,7,8,9] (cX 9 0 Qben)
def Qbeo:SC:=sR [zJ 4 (-1)] [4] .ret
def Qbep:SC:=.seq (sR [mJ 6 0,nJ 7 6,zJ 8 0] [0,1,7,8] (bL 0 Qa9f)) Qbeo
def Qboa:SC:=sR [zJ 4 0] [0,1] Qbep
theorem Qbmd:mFn prog Q9p 2 19 Qboa Aa=true:=by kernel_rfl
def Q2b:List Item:=[oJ 14 13]
def Qaw9:SC:=cT 14 (sR [fI 4 (.mv (.k (.c (.sl true 1 []))))] [4] .ret) .skip
def Q2c:List Item:=[mJ 6 20,sJ 5 7 22]
def Q2d:List Item:=[mJ 5 30]
def Qaxa:SC:=cT 26 (.reg (mJ 27 5::mJ 28 6::fI 29 (.bw 1 [.t 28])::xJ 30 1 27 29::Q2d) [1,5,16,17,18]) .skip
def Qaxb:SC:=sR [fJ 23 4 7,lJ 24 23,mJ 25 1,aJ 26 RK [.t 24,.t 25]] [1,5,6,16,17,18,26] Qaxa
def Qaxc:SC:=.reg [cJ 31 .add 18 1,mJ 18 31] [1,5,16,17,18]
def Qaxd:SC:=.seq (.block 1 (sR (mJ 20 18::iJ 21 5 16 18::tJ 22 5 21::eI 7 (.alloc [.sl true 2 [],.sl true 4 [],.int .i64 0,.int .i64 0,.sl true 1 []])::Q2c) [1,5,6,7,16,17,18] Qaxb)) Qaxc
def Qaqp:SC:=sR [bJ 19 .lss 18 17] [1,5,16,17,18,19] (cX 19 0 Qaxd)
def Qaxe:SC:=sR [mJ 32 5,mJ 4 32] [4] .ret
def Qaqm:SC:=.seq (sR [fJ 15 2 2,lJ 16 15,nJ 17 16,zJ 18 0] [1,5,16,17,18] (bL 0 Qaqp)) Qaxe
def Qaqn:SC:=.seq (sR (mJ 8 1::fJ 9 2 2::lJ 10 9::nJ 11 10::cJ 12 .sub 11 1::aJ 13 BV [.t 8,kI 0,.t 12]::Q2b) [1,2,5,14] Qaw9) Qaqm
def Qaqo:SC:=sR [fI 5 (.mv (.k (.c (.sl true 1 []))))] [1,2,5] Qaqn
def Qbbm:SC:=sR [vJ 2 0,fI 4 (.mv (.k (.c (.sl true 1 []))))] [1,2] Qaqo
theorem Qban:mFn prog PJ 2 33 Qbbm Aa=true:=by kernel_rfl
def Qm2:List Item:=[cJ 8 .geq 7 0,mJ 4 8]
def Qaay:SC:=sR (mJ 5 0::mJ 6 1::aJ 7 Si [.t 5,.t 6]::Qm2) [4] .ret
def Qah0:SC:=sR [fB 4 false] [0,1] Qaay
theorem Qafn:mFn prog IB 2 9 Qah0 Aa=true:=by kernel_rfl
def Qa6b:SC:=sR [mJ 7 1,mJ 8 0,bJ 9 .leq 7 8,mJ 10 9,gTm 11 10 0,gTm 12 10 2,gT 13 10 (.bin 0 .leq (.t 11) (.t 12)),pF 14 10 13,mJ 6 14] [6] .ret
def Qbg3:SC:=sR [fB 6 false] [0,1,2] Qa6b
theorem MB:mFn prog BV 3 15 Qbg3 AB=true:=by kernel_rfl
def Qany:SC:=cT 16 (sR [mJ 17 5,mJ 4 17] [4] .ret) .skip
def Qanz:SC:=sR [mJ 11 1,mJ 12 0,mJ 13 5,iJ 14 1 12 13,lJ 15 14,eI 16 (.bv (.t 11) [.t 15])] [0,1,5,7,8,16] Qany
def Qan0:SC:=.reg [cJ 18 .add 8 1,mJ 8 18] [0,1,7,8]
def Qan1:SC:=.seq (.block 1 (sR [mJ 10 8,mJ 5 10] [0,1,5,7,8] Qanz)) Qan0
def Qah2:SC:=sR [bJ 9 .lss 8 7] [0,1,7,8,9] (cX 9 0 Qan1)
def Qan2:SC:=sR [zJ 4 (-1)] [4] .ret
def Qan3:SC:=.seq (sR [mJ 6 0,nJ 7 6,zJ 8 0] [0,1,7,8] (bL 0 Qah2)) Qan2
def Qa11:SC:=sR [zJ 4 0] [0,1] Qan3
theorem Qaw1:mFn prog Si 2 19 Qa11 Aa=true:=by kernel_rfl
def Qsx:List Item:=[oJ 10 9]
def Qakc:SC:=cT 10 (sR [fB 2 false] [2] .ret) .skip
def Qsy:List Item:=[mJ 4 16,sJ 3 5 18]
def Qsz:List Item:=[oJ 22 21]
def Qakd:SC:=cT 22 (sR [fB 2 false] [2] .ret) .skip
def Qs0:List Item:=[bJ 26 .add 23 25,mJ 3 26]
def Qake:SC:=.reg (mJ 23 3::tJ 24 3 5::aJ 25 Sy [.t 24]::Qs0) [1,3,12,13,14]
def Qakf:SC:=.seq (sR (tJ 19 1 1::mJ 20 4::aJ 21 Q1c [.t 19,.t 20]::Qsz) [1,3,5,12,13,14,22] Qakd) Qake
def Qakg:SC:=.reg [cJ 27 .add 14 1,mJ 14 27] [1,3,12,13,14]
def Qakh:SC:=.seq (.block 1 (sR (mJ 16 14::iJ 17 3 12 14::tJ 18 3 17::eI 5 (.alloc [.int .i64 0,.int .i64 0,.sl true 5 []])::Qsy) [1,3,4,5,12,13,14] Qakf)) Qakg
def Qac7:SC:=sR [bJ 15 .lss 14 13] [1,3,12,13,14,15] (cX 15 0 Qakh)
def Qaf5:SC:=sR [mJ 28 3,cJ 29 .leq 28 800,mJ 2 29] [2] .ret
def Qaf6:SC:=.seq (sR [fJ 11 0 1,lJ 12 11,nJ 13 12,zJ 14 0] [1,3,12,13,14] (bL 0 Qac7)) Qaf5
def Qaf7:SC:=sR [zJ 3 0] [1,3] Qaf6
def Qaf8:SC:=.seq (sR (fJ 6 0 1::lJ 7 6::nJ 8 7::aJ 9 BV [.t 8,kI 1,kI 4]::Qsx) [1,10] Qakc) Qaf7
def Qaxf:SC:=sR [vJ 1 0,fB 2 false] [1] Qaf8
theorem Qawn:mFn prog Sz 1 30 Qaxf Ad=true:=by kernel_rfl
def Qs1:List Item:=[sJ 5 5 12]
def Qakj:SC:=.reg [mJ 13 3,fJ 14 0 5,lJ 15 14,nJ 16 15,fJ 17 1 5,lJ 18 17,nJ 19 18,bJ 20 .add 16 19,bJ 21 .add 13 20,mJ 3 21] [3,7,8,9]
def Qakk:SC:=.reg [cJ 22 .add 9 1,mJ 9 22] [3,7,8,9]
def Qakl:SC:=.seq (.block 1 (sR (iJ 11 5 7 9::tJ 12 5 11::eI 5 (.alloc [.sl true 2 [],.sl true 4 [],.int .i64 0,.int .i64 0,.sl true 1 []])::Qs1) [3,5,7,8,9] Qakj)) Qakk
def Qagc:SC:=sR [bJ 10 .lss 9 8] [3,7,8,9,10] (cX 10 0 Qakl)
def Qakm:SC:=sR [mJ 23 3,mJ 2 23] [2] .ret
def Qakn:SC:=.seq (sR [fJ 6 2 1,lJ 7 6,nJ 8 7,zJ 9 0] [3,7,8,9] (bL 0 Qagc)) Qakm
def Qako:SC:=sR [zJ 3 0] [1,3] Qakn
def Qaxh:SC:=sR [vJ 1 0,zJ 2 0] [1] Qako
theorem Qawo:mFn prog Sy 1 24 Qaxh Ad=true:=by kernel_rfl
def Q8h:List Item:=[sJ 3 5 16]
def PO:List Item:=[gF 35 30 (.not (.t 34)),pT 36 30 35]
def PN:List Item:=gF 28 21 (.not (.t 27))::pT 29 21 28::mJ 30 29::gFf 31 30 2 5::gFl 32 30 31::gF 33 30 (.len (.t 32))::.e (some 34) (some (30,false)) (.call BV [.t 33,kI 1,kI 160])::PO
def RG:List Item:=oJ 20 19::mJ 21 20::gFf 22 21 0 5::gFl 23 21 22::gFf 24 21 1 5::gFl 25 21 24::gF 26 21 (.mn (kI 3) (.t 25))::.e (some 27) (some (21,false)) (.call BV [.t 23,kI 0,.t 26])::PN
def s_im_codeOk_4:SC:=cT 36 (sR [fB 4 false] [4] .ret) .skip
def Q8i:List Item:=[sJ 1 6 37]
def Q8j:List Item:=[mJ 7 43,sJ 5 8 45]
def I3:List Item:=[gF 69 65 (.not (.t 68)),gFm 70 65 69,gTf 71 70 3 8,gTl 72 70 71,gT 73 70 (.bin 0 .neq (.t 72) (kI 0)),gF 74 65 (.pick (.t 70) (.t 73) (.k (.c (.bool false)))),pT 75 65 74]
def I2:List Item:=gT 62 57 (.not (.t 61))::gF 63 53 (.pick (.t 57) (.t 62) (.k (.c (.bool false))))::pT 64 53 63::mJ 65 64::gFf 66 65 2 8::gFl 67 65 66::.e (some 68) (some (65,false)) (.call P7 [.t 67])::I3
def PM:List Item:=gFm 57 53 56::gTl 58 57 6::gTf 59 57 3 8::gTl 60 57 59::.e (some 61) (some (57,true)) (.bv (.t 58) [.t 60])::I2
def Sc:List Item:=hJ 47 46::.chk 48 none (.len (.t 47))::bJ 52 .neq 48 51::mJ 53 52::gFf 54 53 2 8::gFl 55 53 54::.e (some 56) (some (53,false)) (.call P7 [.t 55])::PM
def s_im_codeOk_11:SC:=cT 75 (sR [fB 4 false] [4] .ret) .skip
def Sb:List Item:=[pT 85 80 84]
def Sa:List Item:=mJ 80 79::gFf 81 80 1 8::gFl 82 80 81::gF 83 80 (.mkf Sw [.t 2,.t 3])::.e (some 84) (some (80,false)) (.call To [.t 82,.t 83])::Sb
def s_im_codeOk_14:SC:=cT 85 (sR [fB 4 false] [4] .ret) .skip
def Q2r:List Item:=[nJ 89 88,mJ 9 89]
def Q2s:List Item:=[sJ 2 11 96]
def I5:List Item:=[pT 118 113 117]
def I4:List Item:=gF 104 99 (.not (.t 103))::pT 105 99 104::mJ 106 105::gFf 107 106 1 11::gFl 108 106 107::gF 109 106 (.len (.t 108))::gFm 110 106 9::gF 111 106 (.bin 0 .neq (.t 109) (.t 110))::pT 112 106 111::mJ 113 112::gFf 114 113 1 11::gFl 115 113 114::gF 116 113 (.mkf Sv [.t 6])::.e (some 117) (some (113,false)) (.call IB [.t 115,.t 116])::I5
def Q8d:SC:=cT 118 (sR [fB 4 false] [4] .ret) .skip
def Qaxi:SC:=sR (mJ 97 7::cJ 98 .eql 97 0::mJ 99 98::gFl 100 99 6::gFf 101 99 0 11::gFl 102 99 101::.e (some 103) (some (99,false)) (.bv (.t 100) [.t 102])::I4) [2,3,5,6,7,9,39,40,41,91,92,93,118] Q8d
def Q8e:SC:=.reg [cJ 119 .add 93 1,mJ 93 119] [2,3,5,6,7,9,39,40,41,91,92,93]
def Qaxj:SC:=.seq (.block 3 (sR (iJ 95 2 91 93::tJ 96 2 95::eI 11 (.alloc [.int .i64 0,.sl true 1 []])::Q2s) [2,3,5,6,7,9,11,39,40,41,91,92,93] Qaxi)) Q8e
def Qaqy:SC:=sR [bJ 94 .lss 93 92] [2,3,5,6,7,9,39,40,41,91,92,93,94] (cX 94 2 Qaxj)
def Qaxk:SC:=sR [fJ 90 0 8,lJ 91 90,nJ 92 91,zJ 93 0] [2,3,5,6,7,9,39,40,41,91,92,93] (bL 2 Qaqy)
def RH:SC:=sR (tJ 86 3 5::mJ 87 7::aJ 88 PJ [.t 86,.t 87]::Q2r) [2,3,5,6,7,8,9,39,40,41] Qaxk
def Q8f:SC:=.seq (sR (fJ 76 4 8::lJ 77 76::fI 78 (.mkf Sx [.t 5])::aJ 79 IB [.t 77,.t 78]::Sa) [2,3,5,6,7,8,39,40,41,85] s_im_codeOk_14) RH
def Qaxl:SC:=.seq (.seq (.aH 30 [0,1,2,3,4,5,1,2,6,7,8,9,10,11,12,13,14,15,16,17,18,19,20,21,22,23,24,25,26,27,28,29] ( fJ 46 4 8::lJ 47 46::nJ 48 47::fJ 49 2 8::lJ 50 49::aJ 51 Su [.t 50]::Sc) [2,3,5,6,7,8,39,40,41,75]) s_im_codeOk_11) Q8f
def Qaxm:SC:=.reg [cJ 120 .add 41 1,mJ 41 120] [2,3,5,6,39,40,41]
def Qaxn:SC:=.seq (.block 1 (sR (mJ 43 41::iJ 44 5 39 41::tJ 45 5 44::eI 8 (.alloc [.sl true 2 [],.sl true 4 [],.int .i64 0,.int .i64 0,.sl true 1 []])::Q8j) [2,3,5,6,7,8,39,40,41] Qaxl)) Qaxm
def Qaqz:SC:=sR [bJ 42 .lss 41 40] [2,3,5,6,39,40,41,42] (cX 42 0 Qaxn)
def Qaxo:SC:=sR [fB 4 true] [4] .ret
def Qaxp:SC:=.seq (sR [fJ 38 2 5,lJ 39 38,nJ 40 39,zJ 41 0] [2,3,5,6,39,40,41] (bL 0 Qaqz)) Qaxo
def Q8g:SC:=sR (fI 37 (.mkf CK [.t 5])::eI 6 (.alloc [.fnil])::Q8i) [2,3,5,6] Qaxp
def Qaxq:SC:=.seq (sR (fJ 17 1 5::lJ 18 17::aJ 19 BV [.t 18,kI 0,kI 300]::RG) [2,3,5,36] s_im_codeOk_4) Q8g
def Qaxr:SC:=sR (fJ 12 0 2::lJ 13 12::lJ 14 3::iJ 15 3 13 14::tJ 16 3 15::eI 5 (.alloc [.int .i64 0,.int .i64 0,.sl true 5 []])::Q8h) [2,3,5] Qaxq
def Qbgx:SC:=sR [vJ 2 0,vJ 3 1,fB 4 false] [2,3] Qaxr
theorem Qbf2:mFn prog Q1c 2 121 Qbgx Aa=true:=by kernel_rfl
def Qs2:List Item:=[mJ 3 8]
def Qakp:SC:=sR (mJ 4 0::fJ 5 1 1::lJ 6 5::cJ 7 .sub 6 1::aJ 8 BV [.t 4,kI 0,.t 7]::Qs2) [3] .ret
def Qaxs:SC:=sR [fB 3 false] [0,1] Qakp
theorem Qawp:mFn prog CK 2 9 Qaxs AO=true:=by kernel_rfl
def Qs3:List Item:=[oJ 10 9,mJ 3 10]
def Qakq:SC:=sR (mJ 4 0::fJ 5 2 1::lJ 6 5::nJ 7 6::cJ 8 .sub 7 1::aJ 9 BV [.t 4,kI 1,.t 8]::Qs3) [3] .ret
def Qaxt:SC:=sR [fB 3 false] [0,1] Qakq
theorem Qawq:mFn prog Sx 2 11 Qaxt AO=true:=by kernel_rfl
def Qs4:List Item:=[oJ 9 8,mJ 4 9]
def Qakr:SC:=sR (tJ 5 1 1::lJ 6 2::tJ 7 4 3::aJ 8 Q9k [.t 5,.t 6,.t 7]::Qs4) [4] .ret
def Qaxu:SC:=sR [vJ 3 0,fB 4 false] [1,2,3] Qakr
theorem Qawr:mFn prog Sw 3 10 Qaxu Aa=true:=by kernel_rfl
def Qs5:List Item:=[oJ 7 6,mJ 3 7]
def Qaks:SC:=sR (lJ 4 1::mJ 5 0::eI 6 (.bv (.t 4) [.t 5])::Qs5) [3] .ret
def Qaxv:SC:=sR [fB 3 false] [0,1] Qaks
theorem Qaws:mFn prog Sv 2 8 Qaxv AO=true:=by kernel_rfl
def Qaxw:SC:=cT 6 .skip (.reg [cJ 10 .eql 3 13,mJ 6 10] [6])
def Qaxx:SC:=cT 6 .skip (sR [cJ 9 .eql 3 11,mJ 6 9] [3,6] Qaxw)
def Qaxy:SC:=cT 6 .skip (sR [cJ 8 .eql 3 10,mJ 6 8] [3,6] Qaxx)
def Q8k:SC:=cT 6 (sR [zJ 2 1] [2] .ret) .skip
def Qaxz:SC:=cT 4 (sR [zJ 2 0] [2] .ret) (.seq (sR [cJ 7 .eql 3 2,mJ 6 7] [3,6] Qaxy) Q8k)
def Qax0:SC:=.block 0 (sR [cJ 5 .eql 3 1,mJ 4 5] [3,4] Qaxz)
def Q8l:SC:=sR [zJ 2 2] [2] .ret
def Qax1:SC:=.seq (sR [mJ 3 0] [3] Qax0) Q8l
def Qbbo:SC:=sR [zJ 2 0] [0] Qax1
theorem Qbap:mFn prog RC 1 11 Qbbo Ad=true:=by kernel_rfl
def NK:List Item:=[sJ 3 7 13]
def NJ:List Item:=[sJ 1 8 14]
def R0:List Item:=[pT 24 19 23]
def NI:List Item:=oJ 18 17::mJ 19 18::gFf 20 19 2 5::gFl 21 19 20::gF 22 19 (.mkf RW [.t 8])::.e (some 23) (some (19,false)) (.call IB [.t 21,.t 22])::R0
def s_im_insOk_4:SC:=cT 24 (sR [fB 6 false] [6] .ret) .skip
def PC:List Item:=[gF 39 35 (.not (.t 38)),gFm 40 35 39,gTf 41 40 1 5,gTl 42 40 41,gT 43 40 (.bin 0 .neq (.t 42) (kI (-1))),gF 44 35 (.pick (.t 40) (.t 43) (.k (.c (.bool false)))),pT 45 35 44]
def PB:List Item:=gT 33 28 (.not (.t 32))::pF 34 28 33::mJ 35 34::gFf 36 35 0 5::gFl 37 35 36::.e (some 38) (some (35,false)) (.call Rs [.t 37])::PC
def Rz:List Item:=mJ 28 27::gTl 29 28 8::gTf 30 28 1 5::gTl 31 28 30::.e (some 32) (some (28,true)) (.bv (.t 29) [.t 31])::PB
def s_im_insOk_8:SC:=cT 45 (sR [fB 6 false] [6] .ret) .skip
def Ry:List Item:=[pF 58 54 57,mJ 6 58]
def PL:List Item:=[mJ 66 65,gTf 67 66 2 5,gTl 68 66 67,gT 69 66 (.len (.t 68)),gTf 70 66 0 3,gTl 71 66 70,gTf 72 66 3 5,gTl 73 66 72,gT 74 66 (.iad 3 (.t 71) (.t 73)),gTf 75 66 0 74,gTl 76 66 75,gT 77 66 (.bin 0 .eql (.t 69) (.t 76)),pF 78 66 77,mJ 6 78]
def Qa5s:SC:=cT 59 (.seq (.aH 19 [0,1,2,3,4,5,6,7,8,9,10,11,12,13,14,15,16,17,18] ( fJ 61 3 5::lJ 62 61::mJ 63 1::cJ 64 .sub 63 1::aJ 65 BV [.t 62,kI 0,.t 64]::PL) [6]) .ret) .skip
def Qa5t:SC:=cT 48 (sR (fJ 50 2 5::lJ 51 50::nJ 52 51::cJ 53 .eql 52 0::mJ 54 53::gTf 55 54 3 5::gTl 56 54 55::.e (some 57) (some (54,true)) (.call Ir [.t 56])::Ry) [6] .ret) (sR [cJ 60 .eql 47 14,mJ 59 60] [1,3,5,59] Qa5s)
def Qa5u:SC:=.block 0 (sR [cJ 49 .eql 47 1,mJ 48 49] [1,3,5,47,48] Qa5t)
def RF:List Item:=[.chk 84 (some (82,true)) (.ld 1 false (.t 83)),.chk 85 (some (82,true)) (.len (.t 84)),gT 89 82 (.bin 0 .eql (.t 85) (.t 88)),pF 90 82 89,mJ 6 90]
def Qa5v:SC:=.seq (.aH 13 [0,1,2,3,4,5,6,7,8,9,5,6,10,11,12] ( fJ 79 3 5::lJ 80 79::cJ 81 .eql 80 0::mJ 82 81::gTf 83 82 2 5::gTl 84 82 83::gT 85 82 (.len (.t 84))::gTf 86 82 0 5::gTl 87 82 86::.e (some 88) (some (82,true)) (.call RC [.t 87])::RF) [6]) .ret
def NS:SC:=.seq (sR [fJ 46 0 5,lJ 47 46] [1,3,5,47] Qa5u) Qa5v
def NL:SC:=.seq (sR (fJ 25 0 5::lJ 26 25::aJ 27 Rs [.t 26]::Rz) [1,3,5,45] s_im_insOk_8) NS
def Qa5w:SC:=.seq (sR (fJ 15 0 5::lJ 16 15::aJ 17 Pq [.t 16]::NI) [1,3,5,8,24] s_im_insOk_4) NL
def Qa5x:SC:=sR (fI 14 (.mkf I1 [.t 7])::eI 8 (.alloc [.fnil])::NJ) [1,3,5,8] Qa5w
def Qa5y:SC:=sR (fJ 9 0 3::lJ 10 9::mJ 11 1::iJ 12 3 10 11::tJ 13 3 12::eI 7 (.alloc [.int .i64 0,.int .i64 0,.sl true 5 []])::NK) [1,3,5,7] Qa5x
def Qbmu:SC:=sR [vJ 3 0,vJ 5 2,fB 6 false] [1,3,5] Qa5y
theorem Qbl5:mFn prog Q9k 3 91 Qbmu AB=true:=by kernel_rfl
def Qx7:List Item:=[mJ 3 8]
def Qaq7:SC:=sR (mJ 4 0::fJ 5 1 1::lJ 6 5::cJ 7 .sub 6 1::aJ 8 BV [.t 4,kI 0,.t 7]::Qx7) [3] .ret
def Qa5z:SC:=sR [fB 3 false] [0,1] Qaq7
theorem Qa4w:mFn prog I1 2 9 Qa5z AO=true:=by kernel_rfl
def Qx8:List Item:=[oJ 7 6,mJ 3 7]
def Qaq8:SC:=sR (lJ 4 1::mJ 5 0::eI 6 (.bv (.t 4) [.t 5])::Qx8) [3] .ret
def Qa50:SC:=sR [fB 3 false] [0,1] Qaq8
theorem Qa4x:mFn prog RW 2 8 Qa50 AO=true:=by kernel_rfl
def RE:List Item:=[mJ 2 4]
def Qa51:SC:=sR (mJ 3 0::aJ 4 BV [.t 3,kI 0,kI 255]::RE) [2] .ret
def Qbgz:SC:=sR [fB 2 false] [0] Qa51
theorem MC:mFn prog Ir 1 5 Qbgz Ad=true:=by kernel_rfl
def NH:List Item:=[mJ 2 4]
def Qbbp:SC:=sR (mJ 3 0::aJ 4 BV [.t 3,kI 1,kI 14]::NH) [2] .ret
def Qbmv:SC:=sR [fB 2 false] [0] Qbbp
theorem Qbl6:mFn prog Pq 1 5 Qbmv Ad=true:=by kernel_rfl
def Qak6:SC:=cT 8 (sR [zJ 2 0] [2] .ret) .skip
def Qak7:SC:=cT 6 (sR [zJ 2 2] [2] .ret) (sR [cJ 9 .eql 3 3,mJ 8 9] [8] Qak6)
def Qak8:SC:=cT 4 (sR [zJ 2 1] [2] .ret) (sR [cJ 7 .eql 3 2,mJ 6 7] [3,6] Qak7)
def Qak9:SC:=.block 0 (sR [cJ 5 .eql 3 1,mJ 4 5] [3,4] Qak8)
def Qala:SC:=sR [zJ 2 (-1)] [2] .ret
def Qalb:SC:=.seq (sR [mJ 3 0] [3] Qak9) Qala
def Qaye:SC:=sR [zJ 2 0] [0] Qalb
theorem Qawt:mFn prog Su 1 10 Qaye Ad=true:=by kernel_rfl
def Nl:List Item:=[mJ 5 4,gTm 6 5 0,gT 7 5 (.bin 0 .neq (.t 6) (kI 12)),pF 8 5 7,mJ 9 8,gTm 10 9 0,gT 11 9 (.bin 0 .neq (.t 10) (kI 13)),pF 12 9 11,mJ 2 12]
def Qbg0:SC:=sR (mJ 3 0::aJ 4 Pq [.t 3]::Nl) [2] .ret
def Qbrh:SC:=sR [fB 2 false] [0] Qbg0
theorem Qbqj:mFn prog Rs 1 13 Qbrh Ad=true:=by kernel_rfl
def Qa59:SC:=sR [mJ 3 0,cJ 4 .eql 3 2,mJ 5 4,gFm 6 5 0,gF 7 5 (.bin 0 .eql (.t 6) (kI 3)),pT 8 5 7,mJ 2 8] [2] .ret
def Qbg2:SC:=sR [fB 2 false] [0] Qa59
theorem Qbf4:mFn prog P7 1 9 Qbg2 Ad=true:=by kernel_rfl
def Qhk:List Item:=[cJ 8 .geq 7 0,mJ 4 8]
def Qws:SC:=sR (mJ 5 0::mJ 6 1::aJ 7 SN [.t 5,.t 6]::Qhk) [4] .ret
def Q4t:SC:=sR [fB 4 false] [0,1] Qws
theorem Q1q:mFn prog To 2 9 Q4t Aa=true:=by kernel_rfl
def Q69:SC:=cT 16 (sR [mJ 17 5,mJ 4 17] [4] .ret) .skip
def Q7a:SC:=sR [mJ 11 1,mJ 12 0,mJ 13 5,iJ 14 4 12 13,tJ 15 4 14,eI 16 (.bv (.t 11) [.t 15])] [0,1,5,7,8,16] Q69
def Q7b:SC:=.reg [cJ 18 .add 8 1,mJ 8 18] [0,1,7,8]
def Q7c:SC:=.seq (.block 1 (sR [mJ 10 8,mJ 5 10] [0,1,5,7,8] Q7a)) Q7b
def Q4u:SC:=sR [bJ 9 .lss 8 7] [0,1,7,8,9] (cX 9 0 Q7c)
def Q7d:SC:=sR [zJ 4 (-1)] [4] .ret
def Q7e:SC:=.seq (sR [mJ 6 0,nJ 7 6,zJ 8 0] [0,1,7,8] (bL 0 Q4u)) Q7d
def Qaem:SC:=sR [zJ 4 0] [0,1] Q7e
theorem Qacl:mFn prog SN 2 19 Qaem Aa=true:=by kernel_rfl
end Go.AE.Y
attribute [go_sem_proc] reduceIte reduceEqDiff reduceAdd reduceLeDiff reduceLT reduceCtorEq
namespace Go.AE.Y
open Go.Proofs.Tryz
theorem Ab:prog.follows .mixedOrders=true:=by kernel_rfl
end Go.AE.Y
namespace Go.AE.Y
def dgT:Nat→Nat→List UInt8→List UInt8
 |0,_,s=>s
 |f+1,k,s=>if k=0 then s else dgT f (k / 10) (UInt8.ofNat (48+k % 10)::s)
def mkT (k:Nat):List UInt8:=if k=0 then [109,48]else 109::dgT 64 k []
mutual
def Ex.cnt:Ex→Nat
 |.mk _ _ _ kids=>3+Au kids
def Au:List Ex→Nat
 |[]=>0
 |x::r=>x.cnt+Au r
end
mutual
def Ex.mark:Ex→Nat→Ex
 |.mk _ _ _ kids,k=>.mk k (k+1) (mkT (k+2)) (Cl kids (k+3))
def Cl:List Ex→Nat→List Ex
 |[],_=>[]
 |x::r,k=>x.mark k::Cl r (k+x.cnt)
end
mutual
def St.mcnt:St→Nat
 |.mk _ _ args body els=>2+Au args+A7 body+A7 els
def A7:List St→Nat
 |[]=>0
 |x::r=>x.mcnt+A7 r
end
mutual
def St.mark:St→Nat→St
 |.mk _ _ args body els,k=>.mk k (mkT (k+1)) (Cl args (k+2)) (Cj body (k+2+Au args)) (Cj els (k+2+Au args+A7 body))
def Cj:List St→Nat→List St
 |[],_=>[]
 |x::r,k=>x.mark k::Cj r (k+x.mcnt)
end
def Cr:List (List UInt8)→Nat→List (List UInt8)
 |[],_=>[]
 |_::r,k=>mkT k::Cr r (k+1)
def Fn.mcnt (f:Fn):Nat:=1+f.params.length+A7 f.body
def Fn.mark (f:Fn)(k:Nat):Fn:=⟨mkT k,Cr f.params (k+1),Cj f.body (k+1+f.params.length)⟩
def AZ:List Fn→Nat
 |[]=>0
 |f::r=>f.mcnt+AZ r
def Db:List Fn→Nat→List Fn
 |[],_=>[]
 |f::r,k=>f.mark k::Db r (k+f.mcnt)
theorem Ex.cnt_eq (x:Ex):x.cnt=3+Au x.kids:=by cases x;simp only[Ex.cnt,Ex.kids]
theorem Ex.mark_eq (x:Ex)(k:Nat):x.mark k=.mk k (k+1) (mkT (k+2)) (Cl x.kids (k+3)):=by cases x;simp only[Ex.mark,Ex.kids]
theorem St.mcnt_eq (x:St):x.mcnt=2+Au x.args+A7 x.body+A7 x.els:=by cases x;simp only[St.mcnt,St.args,St.body,St.els]
theorem St.mark_eq (x:St)(k:Nat):x.mark k=.mk k (mkT (k+1)) (Cl x.args (k+2)) (Cj x.body (k+2+Au x.args)) (Cj x.els (k+2+Au x.args+A7 x.body)):=by
 cases x;simp only[St.mark,St.args,St.body,St.els]
theorem OJ (a b:List Ex):Au (a++b)=Au a+Au b:=by
 induction a with
 |nil=>simp[Au]
 |cons x r ih=>simp only[Jq,Au,ih];omega
theorem Qbfk (a b:List Ex)(k:Nat):Cl (a++b) k=Cl a k++Cl b (k+Au a):=by
 induction a generalizing k with
 |nil=>simp[Cl,Au]
 |cons x r ih=>simp only[Jq,Cl,Au,ih,Jap]
theorem Me (a b:List St):A7 (a++b)=A7 a+A7 b:=by
 induction a with
 |nil=>simp[A7]
 |cons x r ih=>simp only[Jq,A7,ih];omega
theorem Qbjv (a b:List St)(k:Nat):Cj (a++b) k=Cj a k++Cj b (k+A7 a):=by
 induction a generalizing k with
 |nil=>simp[Cj,A7]
 |cons x r ih=>simp only[Jq,Cj,A7,ih,Jap]
theorem MN (a b:List Fn):AZ (a++b)=AZ a+AZ b:=by
 induction a with
 |nil=>simp[AZ]
 |cons x r ih=>simp only[Jq,AZ,ih];omega
theorem Qbfr (a b:List Fn)(k:Nat):Db (a++b) k=Db a k++Db b (k+AZ a):=by
 induction a generalizing k with
 |nil=>simp[Db,AZ]
 |cons x r ih=>simp only[Jq,Db,AZ,ih,Jap]
theorem Qbew (a b:List (List UInt8))(k:Nat):Cr (a++b) k=Cr a k++Cr b (k+a.length):=by
 induction a generalizing k with
 |nil=>simp[Cr]
 |cons x r ih=>simp only[Jq,Cr,ih,Jr];rw[show k+1+r.length=k+(r.length+1)by omega]
theorem Qbfl (l:List Ex)(k:Nat):(Cl l k).length=l.length:=by
 induction l generalizing k with
 |nil=>rfl
 |cons x r ih=>simp only[Cl,Jr,ih]
theorem Qbjw (l:List St)(k:Nat):(Cj l k).length=l.length:=by
 induction l generalizing k with
 |nil=>rfl
 |cons x r ih=>simp only[Cj,Jr,ih]
theorem Qbex (l:List (List UInt8))(k:Nat):(Cr l k).length=l.length:=by
 induction l generalizing k with
 |nil=>rfl
 |cons x r ih=>simp only[Cr,Jr,ih]
theorem Qbfs (l:List Fn)(k:Nat):(Db l k).length=l.length:=by
 induction l generalizing k with
 |nil=>rfl
 |cons x r ih=>simp only[Db,Jr,ih]
mutual
theorem Ex.cnt_le:∀x:Ex,x.cnt≤3 * x.size
 |.mk _ _ _ kids=>by have:=EI kids;simp only[Ex.cnt,Ex.size];omega
theorem EI:∀l:List Ex,Au l≤3 * Q4 l
 |[]=>by simp only[Au];omega
 |x::r=>by have:=x.cnt_le;have:=EI r;simp only[Au,Q4];omega
end
mutual
theorem St.mcnt_le:∀x:St,x.mcnt≤3 * x.size
 |.mk _ _ args body els=>by have:=EI args;have:=Rw body;have:=Rw els;simp only[St.mcnt,St.size];omega
theorem Rw:∀l:List St,A7 l≤3 * Qh l
 |[]=>by simp only[A7];omega
 |x::r=>by have:=x.mcnt_le;have:=Rw r;simp only[A7,Qh];omega
end
def Ca:List Fn→Nat
 |[]=>0
 |f::r=>1+f.params.length+Qh f.body+Ca r
theorem OC:∀l:List Fn,AZ l≤3 * Ca l
 |[]=>by simp only[AZ];omega
 |f::r=>by have:=Rw f.body;have:=OC r;simp only[AZ,Ca,Fn.mcnt];omega
theorem IN {l:List Ex}:∀r∈Af l,r.length=4:=by
 intro r hr;rw[Fw]at hr;obtain⟨x,_,rfl⟩:=Jj.1 hr;exact x.aj
theorem ID {l:List St}:∀r∈Qv l,r.length=5:=by
 intro r hr;rw[Fv]at hr;obtain⟨x,_,rfl⟩:=Jj.1 hr;exact x.aj
theorem IM {l:List Fn}:∀r∈Ae l,r.length=3:=by
 intro r hr;obtain⟨x,_,rfl⟩:=Jj.1 hr;exact x.aj
theorem EK {l:List (List UInt8)}:∀r∈Q3 l,r.length=1:=by
 intro r hr;obtain⟨x,_,rfl⟩:=Jj.1 hr;rfl
theorem Qbo9 (a b:List Ex):Af (a++b)=Af a++Af b:=by simp[Fw]
theorem Qbpe (a b:List Fn):Ae (a++b)=Ae a++Ae b:=by simp[Ae]
theorem Qbob (a b:List (List UInt8)):Q3 (a++b)=Q3 a++Q3 b:=by simp[Q3]
end Go.AE.Y
namespace Go.AE
theorem OwL.atoms:∀{cs:List C},(∀c∈cs,C.atom c=true)→OwL [] cs cs
 |[],_=>.nil
 |c::cs,h=>.atom (h c (by simp)) (OwL.atoms fun d hd=>h d (by simp[hd]))
end Go.AE
namespace Go.AE.Y
attribute [local go_sem] cond_true cond_false Bool.not_true Bool.not_false
open Go.Proofs.Tryz
variable {H H0 F:Heap}{K:V→Heap→Prop}{E B Lg:List (Nat×Obj)}{fns:List Fn}
theorem Qbod (ss:List (List UInt8)):OwL [] (Q3 ss).flatten (Q3 ss).flatten:=OwL.atoms fun c hc=>by
 obtain⟨r,hr,hc⟩:=List.mem_flatten.1 hc;obtain⟨x,_,rfl⟩:=Jj.1 hr;rw[Ja.1 hc];rfl
theorem St.size_pos2 (x:St):1≤x.size:=by rw[x.size_eq];omega
theorem Qbe7 {fl:Bool}{ss:List (List UInt8)}(hl:ss.length≤2^38)(hK:∀H' L t,Kn H H' [] L→OwS L 1 (Q3 ss) t→K (.c t) H'):Qi prog SJ [.c (.sl fl 1 (Q3 ss))] H K:=by
 refine Qb Ab Qafm ?_;refine Qa ?_;simp only[go_sem];refine Qp (Qa ?_);simp only[go_sem];intro b hb;refine Qe (Qc rfl ?_ ?_)
 ·intro ol;have hn:=hb ol;have hs:ss=[]:=by
   cases ss with
   |nil=>rfl
   |cons a r=>simp[Q3]at hn
  subst hs;refine Qa ?_;simp only[go_sem];refine Qg ?_;simp only[go_sem,Qq,Q1,Ad,Ja,forall_eq,RS.op];exact hK _ [] _ (Kn.aw H) (.inl ⟨rfl,rfl,rfl⟩)
 ·intro mA;refine Qd ?_;simp only[go_sem];refine Qa ?_;simp only[go_sem,Qs];refine⟨.inl trivial,Pk _,by simp only[LIM];omega,fun z hz H1 h1=>?_⟩;have kn:=(Kn.aw H).al hz h1;simp only[go_sem,Qm1];refine Qg ?_;simp only[go_sem,Qq,Q1,Ad,Ja,forall_eq,RS.op];exact hK _ _ _ kn ((Gr.mk z 1 _ (by rw[Qs];omega)).ows rfl EK EK (Qbod ss))
theorem OwL.fn {L:List (Nat×Obj)}{cs:List C}{f:Fn}(h:OwL L cs f.cells):∃La Lb ta tb,cs=[.str f.name,ta,tb]∧L=La++Lb∧OwS La 1 (Q3 f.params) ta∧OwS Lb 5 (Qv f.body) tb:=by
 obtain⟨c1,e1,h1⟩:=h.inv_atom rfl;obtain⟨ta,c2,La,L2,e2,f2,ha,h2⟩:=h1.inv_sl;obtain⟨tb,e3,hb⟩:=h2.inv_one;exact⟨La,L2,ta,tb,by rw[e1,e2,e3],f2,ha,hb⟩
end Go.AE.Y
namespace Go.AE.Y
open Go.Proofs.Tryz
variable {H:Heap}{K:V→Heap→Prop}
theorem BA {n lo hi:Int}(hK:K (.c (.bool (decide (lo≤n∧n≤hi)))) H):Qi prog Bx [.c (.int .i64 n),.c (.int .i64 lo),.c (.int .i64 hi)] H K:=by
 refine Qb Ab Qb1b ?_;refine Qa ?_;simp only[go_sem];refine Qa ?_;simp only[go_sem];refine Qg ?_;simp only[go_sem,Qq,Q1,AB,Ja,forall_eq,RS.op];have:(bif decide (lo≤n)then decide (n≤hi)else false)=decide (lo≤n∧n≤hi):=by
  by_cases h:lo≤n <;> simp[h]
 rw[this];exact hK
theorem Qbqa {b:Bool}(hK:K (.c (.int .i64 (if b then 1 else 0))) H):Qi prog GM [.c (.bool b)] H K:=by
 refine Qb Ab Qbqp ?_;refine Qa ?_;simp only[go_sem];refine Qp (Qa ?_);simp only[go_sem];refine Qe (Qc rfl ?_ ?_)
 ·intro hc;subst hc;refine Qa ?_;simp only[go_sem];refine Qg ?_;simp only[go_sem,Qq,Q1,Ad,Ja,forall_eq,RS.op];exact hK
 ·intro hc;subst hc;refine Qd ?_;simp only[go_sem];refine Qa ?_;simp only[go_sem];refine Qg ?_;simp only[go_sem,Qq,Q1,Ad,Ja,forall_eq,RS.op];exact hK
theorem Qbp9 {s:List UInt8}{b:UInt8}(hK:∀n:Int,K (.c (.int .i64 n)) H):Qi prog GN [.c (.str s),.c (.int .u8 b.toNat)] H K:=by
 refine Qb Ab Qbqm ?_;refine Qa ?_;simp only[go_sem];refine Qp (Qa ?_);simp only[go_sem];refine Qe (Qf (Qu (fun n e1 H1=>∃i:Nat,n=s.length-i∧i≤s.length∧H1=H∧e1=[(0,.c (.str s)),(1,.c (.int .u8 b.toNat)),(5,.c (.int .i64 i))]) s.length ?_ ?_))
 ·exact⟨0,by omega,by omega,rfl,rfl⟩
 ·rintro n e1 H1 ⟨i,hn,hi,rfl,rfl⟩;refine Qp (Qa ?_);simp only[go_sem];intro hl;simp only[LIM]at hl;refine Qe (Qc rfl ?_ ?_)
  ·intro hc;have aa:i<s.length:=by simpa using hc
   refine Qd ?_;simp only[go_sem];refine Qe (Qf ?_);refine Qa ?_;simp only[go_sem,aa];refine Qc rfl ?_ ?_
   ·intro ao;refine Qa ?_;simp only[go_sem];refine Qg ?_;simp only[go_sem,X.next,Qq,Q1,Aa,Ja,forall_eq,RS.op];exact hK _
   ·intro ao;refine Qd ?_;simp only[go_sem];refine Qn ?_;simp only[go_sem,X.next];exact⟨Ql,s.length-(i+1),by omega,i+1,rfl,by omega,rfl⟩
  ·intro hc;refine Qr ?_;simp only[go_sem,X.next];refine Qa ?_;simp only[go_sem];refine Qg ?_;simp only[go_sem,Qq,Q1,Aa,Ja,forall_eq,RS.op];exact hK _
theorem XF {op:Int}(hK:K (.c (.int .i64 (if op=4 then 2 else 1))) H):Qi prog Gu [.c (.int .i64 op)] H K:=by
 refine Qb Ab X7 ?_;refine Qa ?_;simp only[go_sem];refine Qp (Qa ?_);simp only[go_sem];refine Qe (Qc rfl ?_ ?_)
 ·intro hc;refine Qa ?_;simp only[go_sem];refine Qg ?_;simp only[go_sem,Qq,Q1,Ad,Ja,forall_eq,RS.op];rw[if_pos (by simpa using hc)]at hK;exact hK
 ·intro hc;refine Qd ?_;simp only[go_sem];refine Qa ?_;simp only[go_sem];refine Qg ?_;simp only[go_sem,Qq,Q1,Ad,Ja,forall_eq,RS.op];rw[if_neg (by simpa using hc)]at hK;exact hK
end Go.AE.Y
namespace Go.AE.Y
def keysL:List (List UInt8):=[[102,110],[108,101,116],[115,97,121],[112,117,116],[105,102],[101,108,115,101],[108,111,111,112],[98,97,99,107],[100,111]]
def AX (b:UInt8):Bool:=decide (97≤b.toNat∧b.toNat≤122)
def Aw (s:List UInt8):Bool:=decide (1≤s.length∧s.length≤4)&&s.all AX&&!keysL.contains s
def Bv (op:Int):Int:=if op=1∨op=2∨op=13 then 0 else if op=11∨op=12 then 1 else 2
def Bt (op:Int):Int:=if op=1∨op=2 then 0 else if op=11∨op=12 then 1 else if op=13 then 3 else 2
def CW (op n:Int)(name:List UInt8)(k:Nat):Bool:=
 decide (1≤op∧op≤13)&&decide (Bv op≤(k:Int)∧(k:Int)≤Bt op)&&(decide (op=2∨op=13) == Aw name)&&(decide (op=2∨op=13) || decide (name=[]))&&
  decide (0≤n∧n≤255)&&(decide (op=1) || decide (n=0))
mutual
def Ex.form:Ex→Int→Bool
 |.mk op n name kids,d=>decide (1≤d)&&CW op n name kids.length&&Fj kids (d-1)
def Fj:List Ex→Int→Bool
 |[],_=>true
 |x::r,d=>x.form d&&Fj r d
end
theorem Ex.form_eq (x:Ex)(d:Int):x.form d=(decide (1≤d)&&CW x.op x.n x.name x.kids.length&&Fj x.kids (d-1)):=by
 cases x;simp only[Ex.form,Ex.op,Ex.n,Ex.name,Ex.kids]
theorem MJ (l:List Ex)(d:Int):Fj l d=l.all fun x=>x.form d:=by
 induction l with
 |nil=>simp[Fj]
 |cons x r ih=>simp[Fj,ih]
def Ex.valid (x:Ex):Bool:=x.form 6&&decide (x.size≤30)
def argN (op:Int):Nat:=if op=4 then 2 else 1
def BX (op:Int)(name:List UInt8)(args:List Ex)(nb ne:Nat):Bool:=
 decide (1≤op∧op≤8)&&decide (args.length=argN op)&&(decide (op=1∨op=2) == Aw name)&&(decide (op=1∨op=2) || decide (name=[]))&&args.all Ex.valid&&
  (!decide (op=8) || decide ((args.map Ex.op).getD 0 0=13))&&(decide (op=5) || decide (ne=0))&&(decide (op=5∨op=6) || decide (nb=0))
mutual
def St.form:St→Int→Bool
 |.mk op name args body els,d=>decide (1≤d)&&BX op name args body.length els.length&&AD body (d-1)&&AD els (d-1)
def AD:List St→Int→Bool
 |[],_=>true
 |x::r,d=>x.form d&&AD r d
end
theorem St.form_eq (x:St)(d:Int):x.form d=(decide (1≤d)&&BX x.op x.name x.args x.body.length x.els.length&&AD x.body (d-1)&&AD x.els (d-1)):=by
 cases x;simp only[St.form,St.op,St.name,St.args,St.body,St.els]
theorem GY (l:List St)(d:Int):AD l d=l.all fun x=>x.form d:=by
 induction l with
 |nil=>simp[AD]
 |cons x r ih=>simp[AD,ih]
mutual
def St.cnt:St→Nat
 |.mk _ _ _ body els=>1+AU body+AU els
def AU:List St→Nat
 |[]=>0
 |x::r=>x.cnt+AU r
end
theorem St.cnt_eq (x:St):x.cnt=1+AU x.body+AU x.els:=by cases x;simp only[St.cnt,St.body,St.els]
def Fn.form (f:Fn):Bool:=f.params.all Aw&&Aw f.name&&decide (f.params.length≤3)&&AD f.body 4
def AJ:List Fn→Nat
 |[]=>0
 |f::r=>AU f.body+AJ r
theorem NY (a b:List Fn):AJ (a++b)=AJ a+AJ b:=by
 induction a with
 |nil=>simp[AJ]
 |cons x r ih=>simp only[Jq,AJ,ih];omega
theorem GR {l:List Fn}{i:Nat}(h:i<l.length):AJ (l.take (i+1))=AJ (l.take i)+AU (l[i]'h).body:=by
 rw[Jb h,NY];simp[AJ]
def B9 (l:List Fn):Bool:=decide (1≤l.length∧l.length≤4)&&l.all Fn.form&&decide (AJ l≤40)
mutual
def Ex.pre:Ex→List Ex
 |.mk op n name kids=>.mk op n name kids::Ap kids
def Ap:List Ex→List Ex
 |[]=>[]
 |x::r=>x.pre++Ap r
end
theorem Ex.pre_eq (x:Ex):x.pre=x::Ap x.kids:=by cases x;simp only[Ex.pre,Ex.kids]
theorem OG (a b:List Ex):Ap (a++b)=Ap a++Ap b:=by
 induction a with
 |nil=>simp[Ap]
 |cons x r ih=>simp only[Jq,Ap,ih,List.append_assoc]
def As (l:List Fn)(s:List UInt8):Option Nat:=l.findIdx? fun f=>decide (f.name=s)
abbrev Vars:=List (List (List UInt8×Nat))
def Vars.find (v:Vars)(s:List UInt8):Option Nat:=(v.flatten.find? fun p=>decide (p.1=s)).map Prod.snd
def AL (v:Vars)(s:List UInt8):Bool:=(v.headD []).any fun p=>decide (p.1=s)
def A9 (v:Vars)(s:List UInt8)(n:Nat):Vars:=((s,n)::v.headD [])::v.tail
def Ah (a b:Int):Int:=if a=0 then b else a
def AT (fns:List Fn)(k:Nat)(v:Vars)(p:Ex):Int:=
 if p.op=2 then (if (v.find p.name).isSome then 0 else 3)
 else if p.op=13 then (match As (fns.take k) p.name with
  |none=>4
  |some j=>if ((fns[j]?.map fun f=>f.params.length).getD 0)=p.kids.length then 0 else 5)
 else 0
def A5 (fns:List Fn)(k:Nat)(v:Vars)(l:List Ex)(c:Int):Int:=l.foldl (fun c p=>Ah c (AT fns k v p)) c
structure Ck where
 v:Vars
 c:Int
 n:Nat
def stC (fns:List Fn)(k:Nat)(op:Int)(name:List UInt8)(args:List Ex)(s:Ck):Ck:=
 let c:=A5 fns k s.v (Ap args) s.c
 if op=1 then ⟨A9 s.v name s.n,Ah c (if AL s.v name then 2 else 0),s.n+1⟩
 else if op=2 then ⟨s.v,Ah c (if (s.v.find name).isSome then 0 else 3),s.n⟩
 else ⟨s.v,c,s.n⟩
mutual
def St.ck (fns:List Fn)(k:Nat):St→Ck→Ck
 |.mk op name args body els,s=>
  let s1:=stC fns k op name args s;let s2:=Ai fns k body ⟨[]::s1.v,s1.c,s1.n⟩;let s3:=Ai fns k els ⟨[]::s1.v,s2.c,s2.n⟩
  ⟨s1.v,s3.c,s3.n⟩
def Ai (fns:List Fn)(k:Nat):List St→Ck→Ck
 |[],s=>s
 |x::r,s=>Ai fns k r (x.ck fns k s)
end
theorem St.ck_eq (fns:List Fn)(k:Nat)(x:St)(s:Ck):x.ck fns k s =
  ⟨(stC fns k x.op x.name x.args s).v,(Ai fns k x.els ⟨[]::(stC fns k x.op x.name x.args s).v,(Ai fns k x.body ⟨[]::(stC fns k x.op x.name x.args s).v,(stC fns k x.op x.name x.args s).c,(stC fns k x.op x.name x.args s).n⟩).c,
   (Ai fns k x.body ⟨[]::(stC fns k x.op x.name x.args s).v,(stC fns k x.op x.name x.args s).c,(stC fns k x.op x.name x.args s).n⟩).n⟩).c,
   (Ai fns k x.els ⟨[]::(stC fns k x.op x.name x.args s).v,(Ai fns k x.body ⟨[]::(stC fns k x.op x.name x.args s).v,(stC fns k x.op x.name x.args s).c,(stC fns k x.op x.name x.args s).n⟩).c,
   (Ai fns k x.body ⟨[]::(stC fns k x.op x.name x.args s).v,(stC fns k x.op x.name x.args s).c,(stC fns k x.op x.name x.args s).n⟩).n⟩).n⟩:=by
 cases x;simp only[St.ck,St.op,St.name,St.args,St.body,St.els]
theorem Qbs2 (fns:List Fn)(k:Nat)(a b:List St)(s:Ck):Ai fns k (a++b) s=Ai fns k b (Ai fns k a s):=by
 induction a generalizing s with
 |nil=>simp[Ai]
 |cons x r ih=>simp only[Jq,Ai,ih]
def AC (ps:List (List UInt8))(s:Ck):Ck:=ps.foldl (fun s p=>⟨A9 s.v p s.n,Ah s.c (if AL s.v p then 2 else 0),s.n+1⟩) s
def fnCk (fns:List Fn)(k:Nat):Ck:=match fns[k]? with
 |some f=>Ai fns k f.body (AC f.params ⟨[[]],if As fns f.name=some k then 0 else 2,0⟩)
 |none=>⟨[],0,0⟩
def ckK (fns:List Fn)(k:Nat):Int:=(List.range k).foldl (fun c i=>Ah c (fnCk fns i).c) 0
def Bf (fns:List Fn):Int:=if B9 fns=true then ckK fns fns.length else 1
def Bo (fns:List Fn):Bool:=decide (Bf fns=0)
open Go.Proofs.Tryz
variable {H:Heap}{K:V→Heap→Prop}
theorem Qbl2 {b:UInt8}(hK:∀n:Int,decide (n=1)=AX b→K (.c (.int .i64 n)) H):Qi prog GO [.c (.int .u8 b.toNat)] H K:=by
 refine Qb Ab Qbqk ?_;have hs:(bif decide ((97:Int)≤(b.toNat:Int))then decide ((b.toNat:Int)≤122)else false)=AX b:=by
  unfold AX;by_cases h:97≤b.toNat
  ·have h':(97:Int)≤(b.toNat:Int):=by omega
   simp only[h',decide_true,cond_true,h,true_and,decide_eq_decide];omega
  ·have h':¬(97:Int)≤(b.toNat:Int):=by omega
   simp[h',h]
 have ret:∀(n:Int) (e:Env),decide (n=1)=AX b→lk 2 e=.c (.int .i64 n)→Qq Ad K .ret e H:=by
  intro n e h1 h2;simp only[go_sem,Qq,Q1,Ad,Ja,forall_eq,RS.op,h2];exact hK n h1
 refine Qa ?_;simp only[go_sem];refine Qe (Qf ?_);refine Qa ?_;simp only[go_sem];refine Qc rfl ?_ ?_
 ·intro hc;rw[hs]at hc;refine Qa ?_;simp only[go_sem];refine Qg ?_;simp only[go_sem];exact ret 1 _ (by rw[hc];rfl) (by simp[lk])
 intro hc;rw[hs]at hc;refine Qa ?_;simp only[go_sem];refine Qc rfl ?_ ?_
 ·intro _;refine Qa ?_;simp only[go_sem];refine Qg ?_;simp only[go_sem];exact ret 2 _ (by rw[hc];rfl) (by simp[lk])
 intro _;refine Qa ?_;simp only[go_sem];refine Qbp9 fun n=>?_;simp only[go_sem,Nk];refine Qc rfl ?_ ?_
 ·intro _;refine Qa ?_;simp only[go_sem];refine Qg ?_;simp only[go_sem];exact ret 3 _ (by rw[hc];rfl) (by simp[lk])
 intro _;refine Qa ?_;simp only[go_sem];refine Qc rfl ?_ ?_
 ·intro _;refine Qa ?_;simp only[go_sem];refine Qg ?_;simp only[go_sem];exact ret 4 _ (by rw[hc];rfl) (by simp[lk])
 intro _;refine Qd ?_;simp only[go_sem];refine Qa ?_;simp only[go_sem];refine Qg ?_;exact ret 0 _ (by rw[hc];rfl) (by simp[lk])
theorem CG {α:Type}{p:α→Bool}{l:List α}{i:Nat}(h:i<l.length):(l.take (i+1)).all p=((l.take i).all p&&p l[i]):=by
 rw[Jb h,List.all_append];simp
theorem CF {α:Type}{p:α→Bool}{l:List α}{i:Nat}(h:i<l.length)(hp:p l[i]=false):l.all p=false:=by
 rw[List.all_eq_false];exact⟨l[i],Jd h,by rw[hp];simp⟩
theorem Yr {s:List UInt8}(hK:K (.c (.bool (s.all AX&&decide (0<s.length)))) H):Qi prog Hq [.c (.str s),.c (.int .i64 1)] H K:=by
 refine Qb Ab TC ?_;have retf:∀(b:Bool) (e:Env),(s.all AX&&decide (0<s.length))=b→lk 4 e=.c (.bool b)→Qq Aa K .ret e H:=by
  intro b e h1 h3;simp only[go_sem,Qq,Q1,Aa,Ja,forall_eq,RS.op,h3];rw[←h1];exact hK
 refine Qa ?_;simp only[go_sem];refine Qp (Qa ?_);simp only[go_sem];refine Qe (Qf (Qu (fun n e1 H1=>∃i:Nat,n=s.length-i∧i≤s.length∧H1=H∧(s.take i).all AX=true∧e1=[(0,.c (.str s)),(1,.c (.int .i64 1)),(5,.c (.int .i64 i))]) s.length ?_ ?_))
 ·exact⟨0,by omega,by omega,rfl,rfl,rfl⟩
 ·rintro n e1 H1 ⟨i,hn,hi,rfl,aD,rfl⟩;refine Qp (Qa ?_);simp only[go_sem];intro hl;simp only[LIM]at hl;refine Qe (Qc rfl ?_ ?_)
  ·intro hc;have aa:i<s.length:=by simpa using hc
   have hg:s.getD i 0=s[i]:=by simp[Jf,aa]
   refine Qd ?_;simp only[go_sem];refine Qe (Qf ?_);refine Qa ?_;simp only[go_sem,aa,hg];refine Qbl2 fun cl bP=>?_;simp only[go_sem,Om];refine Qc rfl ?_ ?_
   ·intro ao;have hf:AX s[i]=false:=by
     rw[←bP]
     cases hd:decide (cl=1)with
     |false=>rfl
     |true=>rw[hd]at ao;simp at ao
    refine Qa ?_;simp only[go_sem];refine Qg ?_;simp only[go_sem,X.next];exact retf false _ (by rw[CF aa hf];rfl) (by simp[lk])
   ·intro ao;have hf:AX s[i]=true:=by
     rw[←bP]
     cases hd:decide (cl=1)with
     |true=>rfl
     |false=>rw[hd]at ao;simp at ao
    refine Qd ?_;simp only[go_sem];refine Qn ?_;simp only[go_sem,X.next];exact⟨Ql,s.length-(i+1),by omega,i+1,rfl,by omega,by rw[CG aa,aD,hf];rfl,rfl⟩
  ·intro hc;have aC:s.length≤i:=by simpa using hc
   rw[Jc aC]at aD;refine Qr ?_;simp only[go_sem,X.next];refine Qa ?_;simp only[go_sem];intro _;refine Qg ?_;exact retf (decide ((0:Int)<(s.length:Int))) _ (by rw[aD,Jg,decide_eq_decide];omega) (by simp[lk])
theorem Qbe9 (hK:K (.c (.sl true 1 (Q3 keysL))) H):Qi prog RJ [] H K:=by
 refine Qb Ab Qa5g ?_;refine Qa ?_;simp only[go_sem];refine Qa ?_;simp only[go_sem];refine Qg ?_;simp only[go_sem,Qq,Q1,NT,Ja,forall_eq,RS.op];exact hK
theorem Y6 {α:Type}{p:α→Bool}{l:List α}{i:Nat}(h:i<l.length):(l.take (i+1)).any p=((l.take i).any p || p l[i]):=by
 rw[Jb h,List.any_append];simp
theorem Qa95 {l:List (List UInt8)}{s:List UInt8}:l.contains s=l.any fun x=>decide (x=s):=by
 rw[Jp,J7,Ju];constructor
 ·intro h;exact⟨s,h,by simp⟩
 ·rintro⟨x,hx,h⟩;have:x=s:=by simpa using h
  rw[←this];exact hx
theorem Yq {s:List UInt8}(hK:K (.c (.bool (keysL.contains s))) H):Qi prog Hp [.c (.str s)] H K:=by
 refine Qb Ab TB ?_;rw[Qa95]at hK;generalize qq:keysL=ss at *;have retf:∀(b:Bool) (e:Env),(ss.any fun x=>decide (x=s))=b→lk 2 e=.c (.bool b)→Qq Ad K .ret e H:=by
  intro b e h1 h3;simp only[go_sem,Qq,Q1,Ad,Ja,forall_eq,RS.op,h3];rw[←h1];exact hK
 refine Qa ?_;simp only[go_sem];refine Qa ?_;simp only[go_sem];refine Qbe9 ?_;rw[qq];simp only[go_sem,Ol];refine Qp (Qa ?_);simp only[go_sem];refine Qe (Qf (Qu (fun n e1 H1=>∃i:Nat,n=ss.length-i∧i≤ss.length∧H1=H∧((ss.take i).any fun x=>decide (x=s))=false∧e1=[(0,.c (.str s)),(3,.c (.sl true 1 (Q3 ss))),(4,.c (.int .i64 i))]) ss.length ?_ ?_))
 ·exact⟨0,by omega,by omega,rfl,rfl,rfl⟩
 ·rintro n e1 H1 ⟨i,hn,hi,rfl,aD,rfl⟩;refine Qp (Qa ?_);simp only[go_sem,Qs];intro hl;simp only[LIM]at hl;refine Qe (Qc rfl ?_ ?_)
  ·intro hc;have aa:i<ss.length:=by simpa using hc
   have hg:ss.getD i []=ss[i]:=by simp[Jf,aa]
   refine Qd ?_;simp only[go_sem];refine Qe (Qf ?_);refine Qa ?_;simp only[go_sem,aa,Qs,Dk _ _ aa,hg];refine Qc rfl ?_ ?_
   ·intro ao;refine Qa ?_;simp only[go_sem];refine Qg ?_;simp only[go_sem,X.next];exact retf true _ (Ju.2 ⟨ss[i],Jd aa,ao⟩) (by simp[lk])
   ·intro ao;refine Qd ?_;simp only[go_sem];refine Qn ?_;simp only[go_sem,X.next];exact⟨Ql,ss.length-(i+1),by omega,i+1,rfl,by omega,by rw[Y6 aa,aD,ao];rfl,rfl⟩
  ·intro hc;have aC:ss.length≤i:=by simpa using hc
   rw[Jc aC]at aD;refine Qr ?_;simp only[go_sem,X.next];refine Qa ?_;simp only[go_sem];refine Qg ?_;exact retf false _ aD (by simp[lk])
theorem EC {s:List UInt8}(hK:K (.c (.bool (Aw s))) H):Qi prog HN [.c (.str s)] H K:=by
 refine Qb Ab Qbgj ?_;refine Qa ?_;simp only[go_sem];refine Qa ?_;simp only[go_sem];refine Yr ?_;simp only[go_sem,Q9e];intro hl;have a9:decide ((s.length:Int)≤4)=decide (s.length≤4):=by rw[decide_eq_decide];omega
 have e0:Aw s=((s.all AX&&decide (0<s.length))&&decide (s.length≤4)&&!keysL.contains s):=by
  unfold Aw;have:decide (1≤s.length∧s.length≤4)=(decide (0<s.length)&&decide (s.length≤4)):=by
   rw[Jp];simp only[decide_eq_true_eq,Jo];omega
  rw[this];cases s.all AX <;> cases decide (0<s.length) <;> cases decide (s.length≤4) <;> rfl
 have e1:(bif (s.all AX&&decide (0<s.length))then decide ((s.length:Int)≤4)else false)=((s.all AX&&decide (0<s.length))&&decide (s.length≤4)):=by
  rw[a9];cases (s.all AX&&decide (0<s.length)) <;> rfl
 refine⟨fun hb=>?_,fun hb=>?_⟩
 ·refine Yq ?_;simp only[go_sem,RQ];refine Qg ?_;simp only[go_sem,Qq,Q1,Ad,Ja,forall_eq,RS.op];have:(bif (bif (s.all AX&&decide (0<s.length))then decide ((s.length:Int)≤4)else false)then !keysL.contains s else false)=Aw s:=by
   rw[e1,e0];cases ((s.all AX&&decide (0<s.length))&&decide (s.length≤4)) <;> rfl
  first|(rw[this];exact hK)|(rw[e0,←e1,hb];exact hK)
 ·simp only[go_sem,RQ,hb];refine Qg ?_;simp only[go_sem,Qq,Q1,Ad,Ja,forall_eq,RS.op];have hf:Aw s=false:=by
   rw[e0,←e1];have aR:=hb
   first|(rw[aR];rfl)|(simp at aR;simp[aR])
  rw[hf]at hK;exact hK
theorem HQ {l:List Ex}{i:Nat}(h:i<l.length):Q4 (l.take (i+1))=Q4 (l.take i)+(l[i]'h).size:=by
 rw[Jb h,Q9i];simp[Q4]
theorem HL {l:List St}{i:Nat}(h:i<l.length):Qh (l.take (i+1))=Qh (l.take i)+(l[i]'h).size:=by
 rw[Jb h,GX];simp[Qh]
theorem F6 (l:List Ex)(i:Nat):Q4 (l.take i)≤Q4 l:=by
 conv=>rhs;rw[←J1 i l,Q9i]
 omega
theorem Fb (l:List St)(i:Nat):Qh (l.take i)≤Qh l:=by
 conv=>rhs;rw[←J1 i l,GX]
 omega
theorem St.size_pos (x:St):1≤x.size:=by rw[x.size_eq];omega
theorem HJ (l:List St):l.length≤Qh l:=by
 induction l with
 |nil=>simp
 |cons x r ih=>simp only[Jr,Qh];have:=x.size_pos;omega
theorem Qbp8:∀(n:Nat) (x:Ex) {H:Heap} {K:V→Heap→Prop},x.size≤n→x.size≤2^40→K (.c (.int .i64 x.size)) H→Qi prog Rr [.ag x.cells] H K:=by
 intro n
 induction n with
 |zero=>intro x _ _ h;have:=x.size_pos;omega
 |succ n ih=>
 intro x H K hn hb hK;have be:=x.size_kids;refine Qb Ab Qbql ?_;refine Qa ?_;simp only[go_sem,x.ab];refine Qa ?_;simp only[go_sem];refine Qp (Qa ?_);simp only[go_sem];refine Qe (Qf (Qu (fun n e1 H1=>∃i:Nat,n=x.kids.length-i∧i≤x.kids.length∧H1=H∧e1=[(1,.c (.pp [.int .i64 x.op,.int .i64 x.n,.str x.name,.sl false 4 (Af x.kids)])),(3,.c (.int .i64 ((1+Q4 (x.kids.take i):Nat):Int))),(4,.c (.int .i64 i))]) x.kids.length ?_ ?_))
 ·exact⟨0,by omega,by omega,rfl,by simp[Q4]⟩
 ·rintro n e1 H1 ⟨i,hn,hi,rfl,rfl⟩;refine Qp (Qa ?_);simp only[go_sem,Qt];intro hl;simp only[LIM]at hl;refine Qe (Qc rfl ?_ ?_)
  ·intro hc;have aa:i<x.kids.length:=by simpa using hc
   have hm:=B0 (Jd aa);have aO:=HQ aa;have jo:=F6 x.kids (i+1);refine Qd ?_;simp only[go_sem];refine Qe (Qf (Qn ?_));simp only[go_sem,aa,Qt,B7 _ _ aa,Ex.b9,Ex.aX,Ex.aj];refine ih _ (by omega) (by omega) ?_;simp only[go_sem,Nj];refine⟨Ql,?_⟩;refine Qn ?_;simp only[go_sem,X.next];refine⟨Ql,x.kids.length-(i+1),by omega,i+1,rfl,by omega,?_⟩;rw[aO];simp;omega
  ·intro hc;have aC:x.kids.length≤i:=by simpa using hc
   refine Qr ?_;simp only[go_sem,X.next];refine Qa ?_;simp only[go_sem];refine Qg ?_;simp only[go_sem,Qq,Q1,Ad,Ja,forall_eq,RS.op];rw[Jc aC,←be];exact hK
theorem Qbp7 {op:Int}(hK:K (.tup [.c (.int .i64 (Bv op)),.c (.int .i64 (Bt op))]) H):Qi prog Gv [.c (.int .i64 op)] H K:=by
 refine Qb Ab X8 ?_;refine Qa ?_;simp only[go_sem];refine Qp (Qa ?_);simp only[go_sem];have ret:∀(a b:Int) (e:Env),Bv op=a→Bt op=b→lk 2 e=.c (.int .i64 a)→lk 3 e=.c (.int .i64 b)→Qq D9 K .ret e H:=by
  intro a b e h1 h2 h3 h4;simp only[go_sem,Qq,Q1,D9,Jy,RS.op,h3,h4];rw[h1,h2]at hK;exact hK
 refine Qe (Qf ?_);refine Qp (Qa ?_);simp only[go_sem];have r5:∀(b:Bool),b=decide (op=1∨op=2)→Ag prog Oj (X.inBlock 0 (X.sq prog Gz (Qq D9 K))) [(4,.c (.int .i64 op)),(5,.c (.bool b))] H:=by
  intro b hb;refine Qc rfl ?_ ?_
  ·intro hc;rw[hb,decide_eq_true_eq]at hc;refine Qa ?_;simp only[go_sem];refine Qg ?_;simp only[go_sem];exact ret 0 0 _ (by rw[Bv,if_pos (by omega)]) (by rw[Bt,if_pos hc]) (by simp[lk]) (by simp[lk])
  intro hc;rw[hb,decide_eq_false_iff_not]at hc;refine Qp (Qa ?_);simp only[go_sem];have r8:∀(b:Bool),b=decide (op=11∨op=12)→Ag prog Ok (X.inBlock 0 (X.sq prog Gz (Qq D9 K))) [(4,.c (.int .i64 op)),(8,.c (.bool b))] H:=by
   intro b br;refine Qc rfl ?_ ?_
   ·intro ao;rw[br,decide_eq_true_eq]at ao;refine Qa ?_;simp only[go_sem];refine Qg ?_;simp only[go_sem];exact ret 1 1 _ (by rw[Bv,if_neg (by omega),if_pos ao]) (by rw[Bt,if_neg hc,if_pos ao]) (by simp[lk]) (by simp[lk])
   intro ao;rw[br,decide_eq_false_iff_not]at ao;refine Qa ?_;simp only[go_sem];refine Qc rfl ?_ ?_
   ·intro b7;have b7:op=13:=(by simpa using b7);refine Qa ?_;simp only[go_sem];refine Qg ?_;simp only[go_sem];exact ret 0 3 _ (by rw[Bv,if_pos (by omega)]) (by rw[Bt,if_neg hc,if_neg ao,if_pos b7]) (by simp[lk]) (by simp[lk])
   ·intro b7;have b7:¬op=13:=(by simpa using b7);refine Qd ?_;simp only[go_sem];refine Qa ?_;simp only[go_sem];refine Qg ?_;exact ret 2 2 _ (by rw[Bv,if_neg (by omega),if_neg ao]) (by rw[Bt,if_neg hc,if_neg ao,if_neg b7]) (by simp[lk]) (by simp[lk])
  refine Qe (Qc rfl ?_ ?_)
  ·intro ao;have mL:op=11:=by simpa using ao
   refine Qd ?_;simp only[go_sem];exact r8 _ (by rw[ao];symm;rw[decide_eq_true_eq];exact .inl mL)
  ·intro ao;have mL:¬op=11:=by simpa using ao
   refine Qn ?_;simp only[go_sem];exact r8 _ (by rw[decide_eq_decide];omega)
 refine Qe (Qc rfl ?_ ?_)
 ·intro hc;have h1:op=1:=by simpa using hc
  refine Qd ?_;simp only[go_sem];exact r5 _ (by rw[hc];symm;rw[decide_eq_true_eq];exact .inl h1)
 ·intro hc;have h1:¬op=1:=by simpa using hc
  refine Qn ?_;simp only[go_sem];exact r5 _ (by rw[decide_eq_decide];omega)
def exA (op:Int)(k:Nat)(d:Int):Bool:=decide (1≤d)&&decide (1≤op∧op≤13)&&decide (Bv op≤(k:Int)∧(k:Int)≤Bt op)
def exB (op n:Int)(name:List UInt8):Bool:=(decide (op=2∨op=13) == Aw name)&&(decide (op=2∨op=13) || decide (name=[]))&&decide (0≤n∧n≤255)&&(decide (op=1) || decide (n=0))
theorem TX (x:Ex)(d:Int):x.form d=(exA x.op x.kids.length d&&(exB x.op x.n x.name&&x.kids.all fun y=>y.form (d-1))):=by
 rw[x.form_eq,CW,exA,exB,MJ];simp only[J0]
theorem Ch (a b:Bool):(bif a then true else b)=(a || b):=by cases a <;> rfl
theorem Cm (a b:Bool):(bif a then b else false)=(a&&b):=by cases a <;> rfl
theorem Qbli {a b:Int}:decide (a<b) = !decide (b≤a):=by
 rw[Jp];simp only[decide_eq_true_eq,J2,decide_eq_false_iff_not];omega
theorem Qbp6:∀(n:Nat) (x:Ex) {H:Heap} {K:V→Heap→Prop} (deep:Int),x.size≤n→deep≤100→K (.c (.bool (x.form deep))) H→Qi prog EF [.ag x.cells,.c (.int .i64 deep)] H K:=by
 intro n
 induction n with
 |zero=>intro x _ _ _ h;have:=x.size_pos;omega
 |succ n ih=>
 intro x H K deep hn hd hK;rw[TX]at hK;have be:=x.size_kids;refine Qb Ab X9 ?_;refine Qa ?_;simp only[go_sem,x.ab];refine Qa ?_;simp only[go_sem];refine Qbp7 ?_;simp only[go_sem,My,Ji,Jk];refine Qp (Qa ?_);simp only[go_sem];have retf:∀(b:Bool) (e:Env),(exA x.op x.kids.length deep&&(exB x.op x.n x.name&&x.kids.all fun y=>y.form (deep-1)))=b→lk 4 e=.c (.bool b)→Qq Aa K .ret e H:=by
  intro b e h0 h1;simp only[go_sem,Qq,Q1,Aa,Ja,forall_eq,RS.op,h1];rw[←h0];exact hK
 have rest:∀b:Bool,b = !exA x.op x.kids.length deep→Ag prog (s_l2Form_3.seq Mz) (Qq Aa K)
   [(1,.c (.int .i64 deep)),(2,.c (.pp [.int .i64 x.op,.int .i64 x.n,.str x.name,.sl false 4 (Af x.kids)])),(31,.c (.bool b))] H:=by
  intro b hb;refine Qe (Qc rfl ?_ ?_)
  ·intro hc;refine Qa ?_;simp only[go_sem];refine Qg ?_;simp only[go_sem];have hA:exA x.op x.kids.length deep=false:=by rw[hc]at hb;simpa using hb.symm
   exact retf false _ (by rw[hA];rfl) (by simp[lk])
  intro hc;have hA:exA x.op x.kids.length deep=true:=by rw[hc]at hb;simpa using hb.symm
  have jI:1≤deep:=by
   have:=hA;simp only[exA,Jo,decide_eq_true_eq]at this;exact this.1.1
  rw[hA,Jg]at retf;refine Qd ?_;simp only[go_sem];refine Qa ?_;simp only[go_sem];refine Qp (Qa ?_);simp only[go_sem];refine EC ?_;simp only[go_sem,Mx];have rest2:∀b:Bool,b = !exB x.op x.n x.name→Ag prog (s_l2Form_6.seq M0) (Qq Aa K)
    [(1,.c (.int .i64 deep)),(2,.c (.pp [.int .i64 x.op,.int .i64 x.n,.str x.name,.sl false 4 (Af x.kids)])),(69,.c (.bool b))] H:=by
   intro b hb;refine Qe (Qc rfl ?_ ?_)
   ·intro hc;have hB:exB x.op x.n x.name=false:=(by rw[hc]at hb;simpa using hb.symm);refine Qa ?_;simp only[go_sem];refine Qg ?_;simp only[go_sem];exact retf false _ (by rw[hB];rfl) (by simp[lk])
   intro hc;have hB:exB x.op x.n x.name=true:=by rw[hc]at hb;simpa using hb.symm
   rw[hB,Jg]at retf;refine Qd ?_;simp only[go_sem];refine Qp (Qa ?_);simp only[go_sem];refine Qe (Qf (Qu (fun n e1 H1=>∃i:Nat,n=x.kids.length-i∧i≤x.kids.length∧H1=H∧((x.kids.take i).all fun y=>y.form (deep-1))=true∧e1=[(1,.c (.int .i64 deep)),(2,.c (.pp [.int .i64 x.op,.int .i64 x.n,.str x.name,.sl false 4 (Af x.kids)])),(8,.c (.int .i64 i))]) x.kids.length ?_ ?_))
   ·exact⟨0,by omega,by omega,rfl,rfl,rfl⟩
   ·rintro n e1 H1 ⟨i,hn,hi,rfl,aD,rfl⟩;refine Qp (Qa ?_);simp only[go_sem,Qt];intro hl;simp only[LIM]at hl;refine Qe (Qc rfl ?_ ?_)
    ·intro hc;have aa:i<x.kids.length:=(by simpa using hc);have hm:=B0 (Jd aa);refine Qd ?_;simp only[go_sem];refine Qe (Qf ?_);refine Qa ?_;simp only[go_sem,aa,Qt,B7 _ _ aa,Ex.b9,Ex.aX,Ex.aj];refine⟨Ql,?_⟩;refine ih _ (deep-1) (by omega) (by omega) ?_;simp only[go_sem,Mw];refine Qc rfl ?_ ?_
     ·intro ao;refine Qa ?_;simp only[go_sem];refine Qg ?_;simp only[go_sem,X.next];exact retf false _ (CF aa (Bm ao)) (by simp[lk])
     ·intro ao;refine Qd ?_;simp only[go_sem];refine Qn ?_;simp only[go_sem,X.next];exact⟨Ql,x.kids.length-(i+1),by omega,i+1,rfl,by omega,by rw[CG aa,aD,AK ao];rfl,rfl⟩
    ·intro hc;have aC:x.kids.length≤i:=(by simpa using hc);rw[Jc aC]at aD;refine Qr ?_;simp only[go_sem,X.next];refine Qa ?_;simp only[go_sem];refine Qg ?_;exact retf true _ aD (by simp[lk])
  refine⟨fun aV=>?_,fun aV=>?_⟩
  ·refine BA ?_;simp only[go_sem,Hc];refine rest2 _ ?_;simp only[Ch,Cm,exB];by_cases h1:x.op=1 <;> by_cases h2:x.op=2 <;> by_cases h3:x.op=13 <;> cases Aw x.name <;> by_cases h4:x.name=[] <;> by_cases h5:(0≤x.n∧x.n≤255) <;> by_cases h6:x.n=0 <;> simp[h1,h2,h3,h4,h5,h6]
  ·replace aV:=AK aV;simp only[go_sem,Hc,aV];refine rest2 _ ?_;simp only[Ch,Cm,exB]at aV⊢;revert aV;by_cases h1:x.op=1 <;> by_cases h2:x.op=2 <;> by_cases h3:x.op=13 <;> cases Aw x.name <;> by_cases h4:x.name=[] <;> by_cases h5:(0≤x.n∧x.n≤255) <;> by_cases h6:x.n=0 <;> simp[h1,h2,h3,h4,h5,h6]
 refine⟨fun aV=>?_,fun aV=>?_⟩
 ·replace aV:=Bm aV;have jI:1≤deep:=by simp at aV;omega
  refine BA ?_;simp only[go_sem,Hd,aV,Qt,cond_false];intro hl;refine⟨fun br=>?_,fun br=>?_⟩
  ·refine BA ?_;simp only[go_sem,Pn];refine rest _ ?_;simp only[Ch,exA];have hd1:decide (1≤deep)=true:=decide_eq_true jI;rw[hd1];cases decide (1≤x.op∧x.op≤13) <;> cases decide (Bv x.op≤(x.kids.length:Int)∧(x.kids.length:Int)≤Bt x.op) <;> rfl
  ·replace br:=AK br;simp only[go_sem,Pn,br];refine rest _ ?_;have aK:decide (1≤x.op∧x.op≤13)=false:=by
    cases h:decide (1≤x.op∧x.op≤13)with
    |false=>rfl
    |true=>rw[h]at br;simp at br
   simp only[exA,aK,Jao,Jab,J6]
 ·replace aV:=AK aV;simp only[go_sem,Hd,Pn,aV,Qt,cond_true];refine rest _ ?_;have jI:decide (1≤deep)=false:=by
   rw[decide_eq_false_iff_not];simp at aV;omega
  simp only[exA,jI,Jab,J6]
theorem Qa9w {x:Ex}(hx:x.size≤2^40)(hK:K (.c (.bool x.valid)) H):Qi prog Sh [.ag x.cells] H K:=by
 refine Qb Ab Qaw2 ?_;refine Qa ?_;simp only[go_sem,Ex.ne_nil];refine Qa ?_;simp only[go_sem,Ex.b9,Ex.aX,Ex.aj];refine Qbp6 x.size x 6 (Js _) (by omega) ?_;simp only[go_sem,Quz,Ex.b9,Ex.aX,Ex.aj];have e:decide ((x.size:Int)≤30)=decide (x.size≤30):=by rw[decide_eq_decide];omega
 refine⟨fun hb=>?_,fun hb=>?_⟩
 ·refine Qbp8 x.size x (Js _) hx ?_;simp only[go_sem,S4];refine Qg ?_;simp only[go_sem,Qq,Q1,Ad,Ja,forall_eq,RS.op];rw[Ex.valid,hb]at hK
  first|(rw[e];exact hK)|(rw[hb,e];exact hK)|(simp only[hb,e,cond_true];exact hK)
 ·simp only[go_sem,S4,hb];refine Qg ?_;simp only[go_sem,Qq,Q1,Ad,Ja,forall_eq,RS.op];rw[Ex.valid,hb]at hK;exact hK
def St.raw (x:St):List C:=[.int .i64 x.op,.str x.name,.sl false 4 (Af x.args),.sl false 5 (Qv x.body),.sl false 5 (Qv x.els)]
def A6:List Fn→Nat
 |[]=>0
 |f::r=>Qh f.body+A6 r
theorem Fz {l:List Fn}{f:Fn}(h:f∈l):Qh f.body≤A6 l:=by
 induction l with
 |nil=>simp at h
 |cons g r ih=>
  simp only[A6];rcases Jh.1 h with rfl|h
  ·omega
  ·have:=ih h;omega
theorem No (a b:List Fn):A6 (a++b)=A6 a+A6 b:=by
 induction a with
 |nil=>simp[A6]
 |cons x r ih=>simp only[Jq,A6,ih];omega
theorem Qa5j {l:List Fn}{i:Nat}(h:i<l.length):A6 (l.take (i+1))=A6 (l.take i)+Qh (l[i]'h).body:=by
 rw[Jb h,No];simp[A6]
theorem Qx0 (l:List Fn)(i:Nat):A6 (l.take i)≤A6 l:=by
 conv=>rhs;rw[←J1 i l,No]
 omega
mutual
theorem St.cnt_le:∀(x:St),x.cnt≤x.size
 |.mk op name args body els=>by
  have h1:=Pe body;have h2:=Pe els;simp only[St.cnt,St.size];omega
theorem Pe:∀(l:List St),AU l≤Qh l
 |[]=>by simp[AU]
 |x::r=>by
  have h1:=St.cnt_le x;have h2:=Pe r;simp only[AU,Qh];omega
end
theorem Qboe (l:List St):AU l=l.length+(l.map fun x=>AU x.body+AU x.els).sum:=by
 induction l with
 |nil=>simp[AU]
 |cons x r ih=>simp only[AU,Jr,Jz,List.sum_cons,ih,x.cnt_eq];omega
def inC (l:List St):Nat:=(l.map fun x=>AU x.body+AU x.els).sum
theorem XW {l:List St}{i:Nat}(h:i<l.length):inC (l.take (i+1))=inC (l.take i)+(AU (l[i]'h).body+AU (l[i]'h).els):=by
 rw[inC,inC,Jb h,Jw,Jau];simp
theorem Qb02 (l:List St)(i:Nat):inC (l.take i)≤inC l:=by
 have:inC l=inC (l.take i)+inC (l.drop i):=by rw[inC,inC,inC,←Jau,←Jw,J1]
 omega
theorem Qbl3:∀(n:Nat) (l:List St) {fl:Bool} {H:Heap} {K:V→Heap→Prop},Qh l≤n→Qh l≤2^40→K (.c (.int .i64 (AU l))) H→Qi prog Ii [.c (.sl fl 5 (Qv l))] H K:=by
 intro n
 induction n using Nat.strongRecOn with
 |ind n ih=>
 intro l fl H K hn hb hK;have ai:=HJ l;have nh:=Qboe l;have bP:=Pe l;change AU l=l.length+inC l at nh;refine Qb Ab Qbqn ?_;refine Qa ?_;simp only[go_sem];refine Qa ?_;simp only[go_sem,Q7];intro hl;refine Qp (Qa ?_);simp only[go_sem];refine Qe (Qf (Qu (fun n e1 H1=>∃(i:Nat),n=l.length-i∧i≤l.length∧H1=H∧e1=[(0,.c (.sl fl 5 (Qv l))),(3,.c (.int .i64 ((l.length+inC (l.take i):Nat):Int))),(4,.c (.int .i64 i))]) l.length ?_ ?_))
 ·exact⟨0,by omega,by omega,rfl,rfl⟩
 ·rintro n e1 H1 ⟨i,cA,hi,rfl,rfl⟩;refine Qp (Qa ?_);simp only[go_sem,Q7];simp only[LIM]at hl;refine fun _=>?_;refine Qe (Qc rfl ?_ ?_)
  ·intro hc;have aa:i<l.length:=by simpa using hc
   have hm:=Cv (Jd aa);have jR:=(l[i]'aa).size_eq;have nQ:=XW aa;have gQ:=Qb02 l (i+1);refine Qd ?_;simp only[go_sem];refine Qe (Qf (CE ?_));simp only[go_sem,aa,Q7,Ct _ _ aa,St.ab];refine ih (Qh l[i].body) (by omega) l[i].body (Js _) (by omega) ?_;simp only[go_sem,Nh,aa,Q7,Ct _ _ aa,St.ab];refine⟨Ql,?_⟩;refine ih (Qh l[i].els) (by omega) l[i].els (Js _) (by omega) ?_;simp only[go_sem,Ni];refine⟨Ql,?_⟩;refine Qn ?_;simp only[go_sem,X.next];refine⟨Ql,l.length-(i+1),by omega,i+1,rfl,by omega,?_⟩;rw[nQ];simp;omega
  ·intro hc;have aC:l.length≤i:=by simpa using hc
   refine Qr ?_;simp only[go_sem,X.next];refine Qa ?_;simp only[go_sem];refine Qg ?_;simp only[go_sem,Qq,Q1,Ad,Ja,forall_eq,RS.op];rw[Jc aC,←nh];exact hK
def stA (op:Int)(k:Nat)(d:Int):Bool:=decide (1≤d)&&decide (1≤op∧op≤8)&&decide (k=argN op)
def stB (op:Int)(name:List UInt8):Bool:=(decide (op=1∨op=2) == Aw name)&&(decide (op=1∨op=2) || decide (name=[]))
def stD (op:Int)(nb ne:Nat):Bool:=(decide (op=5) || decide (ne=0))&&(decide (op=5∨op=6) || decide (nb=0))
theorem Qb3m (x:St)(d:Int):x.form d=(stA x.op x.args.length d&&(stB x.op x.name&&(x.args.all Ex.valid&&((!decide (x.op=8) || decide ((x.args.map Ex.op).getD 0 0=13))&&(stD x.op x.body.length x.els.length&&(AD x.body (d-1)&&AD x.els (d-1))))))):=by
 rw[x.form_eq,BX,stA,stB,stD];simp only[J0]
def LX (n:Nat):Prop:=∀(x:St) (deep:Int) (H:Heap) (K:V→Heap→Prop),x.size≤n→x.size≤2^40→deep≤100→K (.c (.bool (x.form deep))) H→Qi prog Gt [.ag x.cells,.c (.int .i64 deep)] H K
def FK (n:Nat):Prop:=∀(l:List St) (deep:Int) (fl:Bool) (H:Heap) (K:V→Heap→Prop),Qh l≤n→Qh l≤2^40→deep≤100→K (.c (.bool (AD l deep))) H→Qi prog Ih [.c (.sl fl 5 (Qv l)),.c (.int .i64 deep)] H K
theorem YO {n:Nat}(hS:LX n):FK n:=by
 intro l deep fl H K hn hb hd hK;rw[GY]at hK;refine Qb Ab Qbqo ?_;have retf:∀(b:Bool) (e:Env),(l.all fun x=>x.form deep)=b→lk 4 e=.c (.bool b)→Qq Aa K .ret e H:=by
  intro b e h0 h1;simp only[go_sem,Qq,Q1,Aa,Ja,forall_eq,RS.op,h1];rw[←h0];exact hK
 refine Qa ?_;simp only[go_sem];refine Qp (Qa ?_);simp only[go_sem];refine Qe (Qf (Qu (fun n e1 H1=>∃(i:Nat),n=l.length-i∧i≤l.length∧H1=H∧((l.take i).all fun x=>x.form deep)=true∧e1=[(0,.c (.sl fl 5 (Qv l))),(1,.c (.int .i64 deep)),(5,.c (.int .i64 i))]) l.length ?_ ?_))
 ·exact⟨0,by omega,by omega,rfl,rfl,rfl⟩
 ·rintro n e1 H1 ⟨i,cA,hi,rfl,aD,rfl⟩;refine Qp (Qa ?_);simp only[go_sem,Q7];intro hl;simp only[LIM]at hl;refine Qe (Qc rfl ?_ ?_)
  ·intro hc;have aa:i<l.length:=by simpa using hc
   have hm:=Cv (Jd aa);refine Qd ?_;simp only[go_sem];refine Qe (Qf ?_);refine Qa ?_;simp only[go_sem,aa,Q7,Ct _ _ aa,St.take5,St.aX,St.aj];refine hS _ deep _ _ (by omega) (by omega) hd ?_;simp only[go_sem,Nf];refine Qc rfl ?_ ?_
   ·intro ao;refine Qa ?_;simp only[go_sem];refine Qg ?_;simp only[go_sem,X.next];exact retf false _ (CF aa (Bm ao)) (by simp[lk])
   ·intro ao;refine Qd ?_;simp only[go_sem];refine Qn ?_;simp only[go_sem,X.next];exact⟨Ql,l.length-(i+1),by omega,i+1,rfl,by omega,by rw[CG aa,aD,AK ao];rfl,rfl⟩
  ·intro hc;have aC:l.length≤i:=by simpa using hc
   rw[Jc aC]at aD;refine Qr ?_;simp only[go_sem,X.next];refine Qa ?_;simp only[go_sem];refine Qg ?_;exact retf true _ aD (by simp[lk])
theorem VR {n:Nat}(hS:∀m,m<n→FK m):LX n:=by
 intro x deep H K hn hb hd hK;rw[Qb3m]at hK;have be:=x.size_eq;refine Qb Ab X6 ?_;have retf:∀(b:Bool) (e:Env),(stA x.op x.args.length deep&&(stB x.op x.name&&(x.args.all Ex.valid&&((!decide (x.op=8) || decide ((x.args.map Ex.op).getD 0 0=13))&&(stD x.op x.body.length x.els.length&&(AD x.body (deep-1)&&AD x.els (deep-1)))))))=b→
   lk 4 e=.c (.bool b)→Qq Aa K .ret e H:=by
  intro b e h0 h1;simp only[go_sem,Qq,Q1,Aa,Ja,forall_eq,RS.op,h1];rw[←h0];exact hK
 refine Qa ?_;simp only[go_sem,x.ab];refine Qp (Ak ?_);simp only[go_sem];have rest:∀b:Bool,b = !stA x.op x.args.length deep→Ag prog (s_l3Stmt_2.seq Mv) (Qq Aa K)
   [(1,.c (.int .i64 deep)),(2,.c (.pp [.int .i64 x.op,.str x.name,.sl false 4 (Af x.args),.sl false 5 (Qv x.body),.sl false 5 (Qv x.els)])),(23,.c (.bool b))] H:=by
  intro b hb;refine Qe (Qc rfl ?_ ?_)
  ·intro hc;have hA:stA x.op x.args.length deep=false:=by rw[hc]at hb;simpa using hb.symm
   refine Qa ?_;simp only[go_sem];refine Qg ?_;simp only[go_sem];exact retf false _ (by rw[hA];rfl) (by simp[lk])
  intro hc;have hA:stA x.op x.args.length deep=true:=by rw[hc]at hb;simpa using hb.symm
  rw[hA,Jg]at retf;simp only[stA,Jo,decide_eq_true_eq]at hA;obtain⟨⟨jI,_⟩,kd⟩:=hA;have eA:0<x.args.length:=by rw[kd,argN];split <;> omega
  refine Qd ?_;simp only[go_sem];refine Qa ?_;simp only[go_sem];refine Qp (Qa ?_);simp only[go_sem];refine EC ?_;simp only[go_sem,Mu];refine Qe (Qc rfl ?_ ?_)
  ·intro hc;have hB:stB x.op x.name=false:=by
    simp only[Ch,Cm]at hc;simp only[stB];revert hc;by_cases h1:x.op=1 <;> by_cases h2:x.op=2 <;> cases Aw x.name <;> by_cases h4:x.name=[] <;> simp[h1,h2,h4]
   refine Qa ?_;simp only[go_sem];refine Qg ?_;simp only[go_sem];exact retf false _ (by rw[hB];rfl) (by simp[lk])
  intro hc;have hB:stB x.op x.name=true:=by
   simp only[Ch,Cm]at hc;simp only[stB];revert hc;by_cases h1:x.op=1 <;> by_cases h2:x.op=2 <;> cases Aw x.name <;> by_cases h4:x.name=[] <;> simp[h1,h2,h4]
  rw[hB,Jg]at retf;refine Qd ?_;simp only[go_sem];refine Qp (Qa ?_);simp only[go_sem];refine Qe (Qf (Qu (fun n e1 H1=>∃(i:Nat),n=x.args.length-i∧i≤x.args.length∧H1=H∧(x.args.take i).all Ex.valid=true∧e1=[(1,.c (.int .i64 deep)),(2,.c (.pp [.int .i64 x.op,.str x.name,.sl false 4 (Af x.args),.sl false 5 (Qv x.body),.sl false 5 (Qv x.els)])),(6,.c (.int .i64 i))]) x.args.length ?_ ?_))
  ·exact⟨0,by omega,by omega,rfl,rfl,rfl⟩
  ·rintro n e1 H1 ⟨i,cA,hi,rfl,aD,rfl⟩;refine Qp (Qa ?_);simp only[go_sem,Qt];intro hl;simp only[LIM]at hl;refine Qe (Qc rfl ?_ ?_)
   ·intro hc;have aa:i<x.args.length:=(by simpa using hc);have hm:=B0 (Jd aa);refine Qd ?_;simp only[go_sem];refine Qe (Qf ?_);refine Qa ?_;simp only[go_sem,aa,Qt,B7 _ _ aa,Ex.b9,Ex.aX,Ex.aj];refine Qa9w (by omega) ?_;simp only[go_sem,Ms];refine Qc rfl ?_ ?_
    ·intro ao;refine Qa ?_;simp only[go_sem];refine Qg ?_;simp only[go_sem,X.next];exact retf false _ (by rw[CF aa (Bm ao)];rfl) (by simp[lk])
    ·intro ao;refine Qd ?_;simp only[go_sem];refine Qn ?_;simp only[go_sem,X.next];exact⟨Ql,x.args.length-(i+1),by omega,i+1,rfl,by omega,by rw[CG aa,aD,AK ao];rfl,rfl⟩
   ·intro hc;have aC:x.args.length≤i:=(by simpa using hc);rw[Jc aC]at aD;rw[aD,Jg]at retf;have lF:(x.args.map Ex.op).getD 0 0=x.args[0].op:=(by simp[Jf,eA]);refine Qr ?_;simp only[go_sem,X.next];refine Qp (Qa ?_);simp only[go_sem,eA,Qt,B7 _ _ eA,Ex.ab];refine⟨fun _=>Int.le_refl _,?_⟩;refine Qe (Qc rfl ?_ ?_)
    ·intro hc;have hC:(!decide (x.op=8) || decide ((x.args.map Ex.op).getD 0 0=13))=false:=by
      rw[lF];simp only[Cm]at hc;revert hc;by_cases h1:x.op=8 <;> by_cases h2:x.args[0].op=13 <;> simp[h1,h2]
     refine Qa ?_;simp only[go_sem];refine Qg ?_;simp only[go_sem];exact retf false _ (by rw[hC];rfl) (by simp[lk])
    intro hc;have hC:(!decide (x.op=8) || decide ((x.args.map Ex.op).getD 0 0=13))=true:=by
     rw[lF];simp only[Cm]at hc;revert hc;by_cases h1:x.op=8 <;> by_cases h2:x.args[0].op=13 <;> simp[h1,h2]
    rw[hC,Jg]at retf;refine Qd ?_;simp only[go_sem];refine Qp (Qa ?_);simp only[go_sem,Q7]
    intros
    have eb:decide ((0:Int)<(x.body.length:Int)) = !decide (x.body.length=0):=by
     rw[Jp];simp only[decide_eq_true_eq,J2,decide_eq_false_iff_not];omega
    have ee:decide ((0:Int)<(x.els.length:Int)) = !decide (x.els.length=0):=by
     rw[Jp];simp only[decide_eq_true_eq,J2,decide_eq_false_iff_not];omega
    refine Qe (Qc rfl ?_ ?_)
    ·intro hc;have hD:stD x.op x.body.length x.els.length=false:=by
      simp only[Cm,Ch,eb,ee]at hc;simp only[stD];revert hc;by_cases h1:x.op=5 <;> by_cases h2:x.op=6 <;> cases decide (x.body.length=0) <;> cases decide (x.els.length=0) <;> simp[h1,h2]
     refine Qa ?_;simp only[go_sem];refine Qg ?_;simp only[go_sem];exact retf false _ (by rw[hD];rfl) (by simp[lk])
    intro hc;have hD:stD x.op x.body.length x.els.length=true:=by
     simp only[Cm,Ch,eb,ee]at hc;simp only[stD];revert hc;by_cases h1:x.op=5 <;> by_cases h2:x.op=6 <;> cases decide (x.body.length=0) <;> cases decide (x.els.length=0) <;> simp[h1,h2]
    rw[hD,Jg]at retf;refine Qd ?_;simp only[go_sem];refine Qa ?_;simp only[go_sem];refine⟨Ql,?_⟩;refine hS (Qh x.body) (by omega) _ _ _ _ _ (Js _) (by omega) (by omega) ?_;simp only[go_sem,Ng];refine⟨fun _=>Ql,?_⟩;refine⟨fun aV=>?_,fun aV=>?_⟩
    ·refine hS (Qh x.els) (by omega) _ _ _ _ _ (Js _) (by omega) (by omega) ?_;simp only[go_sem,Q3s,aV];refine Qg ?_;exact retf _ _ (by rw[aV,Jg]) (by simp[lk])
    ·simp only[go_sem,Q3s,aV];refine Qg ?_;exact retf false _ (by rw[aV];rfl) (by simp[lk])
 refine⟨fun aV=>?_,fun aV=>?_⟩
 ·replace aV:=Bm aV;have jI:1≤deep:=by simp at aV;omega
  have hd1:decide (1≤deep)=true:=decide_eq_true jI;refine BA ?_;simp only[go_sem,Hb,aV,Qt,cond_false];refine⟨fun br=>?_,fun br=>?_⟩
  ·refine XF ?_;simp only[go_sem,Pm,Qt];refine rest _ ?_;have gO:decide ((x.args.length:Int)=if x.op=4 then 2 else 1)=decide (x.args.length=argN x.op):=by
    rw[decide_eq_decide,argN];split <;> omega
   simp only[stA,hd1,gO,Ch];cases decide (1≤x.op∧x.op≤8) <;> cases decide (x.args.length=argN x.op) <;> rfl
  ·replace br:=AK br;simp only[go_sem,Pm,br,Qt];refine rest _ ?_;have aK:decide (1≤x.op∧x.op≤8)=false:=by
    cases h:decide (1≤x.op∧x.op≤8)with
    |false=>rfl
    |true=>rw[h]at br;simp at br
   simp only[stA,aK,Jao,Jab,J6]
 ·replace aV:=AK aV;simp only[go_sem,Hb,Pm,aV,Qt,cond_true];refine rest _ ?_;have jI:decide (1≤deep)=false:=by
   rw[decide_eq_false_iff_not];simp at aV;omega
  simp only[stA,jI,Jab,J6]
theorem VQ (n:Nat):FK n:=by
 induction n using Nat.strongRecOn with
 |ind n ih=>exact YO (VR ih)
theorem TI {f:Fn}(hf:Qh f.body≤2^40)(hK:K (.c (.bool f.form)) H):Qi prog FV [.ag f.cells] H K:=by
 refine Qb Ab Qb1c ?_;have e0:f.form=(f.params.all Aw&&(Aw f.name&&(decide (f.params.length≤3)&&AD f.body 4))):=by simp only[Fn.form,J0]
 rw[e0]at hK;have retf:∀(b:Bool) (e:Env),(f.params.all Aw&&(Aw f.name&&(decide (f.params.length≤3)&&AD f.body 4)))=b→lk 2 e=.c (.bool b)→Qq Ad K .ret e H:=by
  intro b e h0 h1;simp only[go_sem,Qq,Q1,Ad,Ja,forall_eq,RS.op,h1];rw[←h0];exact hK
 refine Qa ?_;simp only[go_sem,Fn.cells];refine Qp (Qa ?_);simp only[go_sem];refine Qe (Qf (Qu (fun n e1 H1=>∃(i:Nat),n=f.params.length-i∧i≤f.params.length∧H1=H∧(f.params.take i).all Aw=true∧e1=[(1,.c (.pp [.str f.name,.sl false 1 (Q3 f.params),.sl false 5 (Qv f.body)])),(3,.c (.int .i64 i))]) f.params.length ?_ ?_))
 ·exact⟨0,by omega,by omega,rfl,rfl,rfl⟩
 ·rintro n e1 H1 ⟨i,cA,hi,rfl,aD,rfl⟩;refine Qp (Qa ?_);simp only[go_sem,Qs];intro hl;simp only[LIM]at hl;refine Qe (Qc rfl ?_ ?_)
  ·intro hc;have aa:i<f.params.length:=by simpa using hc
   have hg:f.params.getD i []=f.params[i]:=by simp[Jf,aa]
   refine Qd ?_;simp only[go_sem];refine Qe (Qf ?_);refine Qa ?_;simp only[go_sem,aa,Qs,Dk _ _ aa,hg];refine EC ?_;simp only[go_sem,L9];refine Qc rfl ?_ ?_
   ·intro ao;refine Qa ?_;simp only[go_sem];refine Qg ?_;simp only[go_sem,X.next];exact retf false _ (by rw[CF aa (Bm ao)];rfl) (by simp[lk])
   ·intro ao;refine Qd ?_;simp only[go_sem];refine Qn ?_;simp only[go_sem,X.next];exact⟨Ql,f.params.length-(i+1),by omega,i+1,rfl,by omega,by rw[CG aa,aD,AK ao];rfl,rfl⟩
  ·intro hc;have aC:f.params.length≤i:=by simpa using hc
   rw[Jc aC]at aD;rw[aD,Jg]at retf;refine Qr ?_;simp only[go_sem,X.next];refine Qa ?_;simp only[go_sem];refine EC ?_;simp only[go_sem,L8,Qs]
   intros
   have e3:decide ((f.params.length:Int)≤3)=decide (f.params.length≤3):=by rw[decide_eq_decide];omega
   refine⟨fun aV=>?_,fun aV=>?_⟩
   ·refine VQ _ _ _ _ _ _ (Js _) hf (by omega) ?_;simp only[go_sem,Gc,aV];rw[Cm,e3,Jo]at aV;refine Qg ?_;exact retf _ _ (by rw[aV.1,aV.2,Jg,Jg]) (by simp[lk])
   ·simp only[go_sem,Gc,aV];rw[Cm,e3]at aV;refine Qg ?_;exact retf false _ (by rw[←J0,aV];rfl) (by simp[lk])
theorem KI (l:List Fn):AJ l≤A6 l:=by
 induction l with
 |nil=>simp[AJ]
 |cons f r ih=>have:=Pe f.body;simp only[AJ,A6];omega
theorem Yp {l:List Fn}{fl:Bool}(hf:A6 l≤2^40)(hK:K (.c (.int .i64 (AJ l))) H):Qi prog Ho [.ag [.sl fl 3 (Ae l)]] H K:=by
 refine Qb Ab TA ?_;refine Qa ?_;simp only[go_sem];refine Qa ?_;simp only[go_sem];refine Qp (Qa ?_);simp only[go_sem];refine Qe (Qf (Qu (fun n e1 H1=>∃(i:Nat),n=l.length-i∧i≤l.length∧H1=H∧e1=[(1,.c (.pp [.sl fl 3 (Ae l)])),(3,.c (.int .i64 (AJ (l.take i):Nat))),(4,.c (.int .i64 i))]) l.length ?_ ?_))
 ·exact⟨0,by omega,by omega,rfl,rfl⟩
 ·rintro n e1 H1 ⟨i,cA,hi,rfl,rfl⟩;refine Qp (Qa ?_);simp only[go_sem,Q8];intro hl;simp only[LIM]at hl;refine Qe (Qc rfl ?_ ?_)
  ·intro hc;have aa:i<l.length:=by simpa using hc
   have hm:=Fz (Jd aa);have aO:=GR aa;have jo:=Qx0 l (i+1);have hct:=KI (l.take (i+1));refine Qd ?_;simp only[go_sem];refine Qe (Qf (Qn ?_));simp only[go_sem,aa,Q8,Cu _ _ aa,Fn.cells];refine Qbl3 _ _ (Js _) (by omega) ?_;simp only[go_sem,Oi];refine⟨Ql,?_⟩;refine Qn ?_;simp only[go_sem,X.next];refine⟨Ql,l.length-(i+1),by omega,i+1,rfl,by omega,?_⟩;rw[aO];simp
  ·intro hc;have aC:l.length≤i:=by simpa using hc
   refine Qr ?_;simp only[go_sem,X.next];refine Qa ?_;simp only[go_sem];refine Qg ?_;simp only[go_sem,Qq,Q1,Ad,Ja,forall_eq,RS.op];rw[Jc aC];exact hK
theorem Qaop {l:List Fn}{fl:Bool}(hf:A6 l≤2^40)(hK:K (.c (.bool (B9 l))) H):Qi prog SF [.ag [.sl fl 3 (Ae l)]] H K:=by
 refine Qb Ab Qafs ?_;have e0:B9 l=(decide (1≤l.length∧l.length≤4)&&(l.all Fn.form&&decide (AJ l≤40))):=by simp only[B9,J0]
 rw[e0]at hK;have retf:∀(b:Bool) (e:Env),(decide (1≤l.length∧l.length≤4)&&(l.all Fn.form&&decide (AJ l≤40)))=b→lk 2 e=.c (.bool b)→Qq Ad K .ret e H:=by
  intro b e h0 h1;simp only[go_sem,Qq,Q1,Ad,Ja,forall_eq,RS.op,h1];rw[←h0];exact hK
 refine Qa ?_;simp only[go_sem];refine Qp (Qa ?_);simp only[go_sem,Q8];intro hl;simp only[LIM]at hl;refine BA ?_;simp only[go_sem,Qnf];have e1:decide ((1:Int)≤(l.length:Int)∧(l.length:Int)≤4)=decide (1≤l.length∧l.length≤4):=by rw[decide_eq_decide];omega
 refine Qe (Qc rfl ?_ ?_)
 ·intro hc;have hA:=Bm hc;rw[e1]at hA;refine Qa ?_;simp only[go_sem];refine Qg ?_;simp only[go_sem];exact retf false _ (by rw[hA];rfl) (by simp[lk])
 intro hc;have hA:=AK hc;rw[e1]at hA;rw[hA,Jg]at retf;refine Qd ?_;simp only[go_sem];refine Qp (Qa ?_);simp only[go_sem];refine Qe (Qf (Qu (fun n e1 H1=>∃(i:Nat),n=l.length-i∧i≤l.length∧H1=H∧(l.take i).all Fn.form=true∧e1=[(1,.c (.pp [.sl fl 3 (Ae l)])),(3,.c (.int .i64 i))]) l.length ?_ ?_))
 ·exact⟨0,by omega,by omega,rfl,rfl,rfl⟩
 ·rintro n e1 H1 ⟨i,cA,hi,rfl,aD,rfl⟩;refine Qp (Qa ?_);simp only[go_sem,Q8];refine fun _=>?_;refine Qe (Qc rfl ?_ ?_)
  ·intro hc;have aa:i<l.length:=by simpa using hc
   have hm:=Fz (Jd aa);refine Qd ?_;simp only[go_sem];refine Qe (Qf ?_);refine Qa ?_;simp only[go_sem,aa,Q8,Cu _ _ aa,Fn.take3,Fn.aX,Fn.aj];refine TI (by omega) ?_;simp only[go_sem,Qng];refine Qc rfl ?_ ?_
   ·intro ao;refine Qa ?_;simp only[go_sem];refine Qg ?_;simp only[go_sem,X.next];exact retf false _ (by rw[CF aa (Bm ao)];rfl) (by simp[lk])
   ·intro ao;refine Qd ?_;simp only[go_sem];refine Qn ?_;simp only[go_sem,X.next];exact⟨Ql,l.length-(i+1),by omega,i+1,rfl,by omega,by rw[CG aa,aD,AK ao];rfl,rfl⟩
  ·intro hc;have aC:l.length≤i:=by simpa using hc
   rw[Jc aC]at aD;rw[aD,Jg]at retf;refine Qr ?_;simp only[go_sem,X.next];refine Qa ?_;simp only[go_sem];refine Yp hf ?_;simp only[go_sem,Qnh];refine Qg ?_;exact retf (decide ((AJ l:Int)≤40)) _ (by rw[decide_eq_decide];omega) (by simp[lk])
end Go.AE.Y
namespace Go.AE.Y
attribute [local go_sem] cond_true cond_false Bool.not_true Bool.not_false
open Go.Proofs.Tryz
variable {H:Heap}{K:V→Heap→Prop}
def levN (op:Int):Int:=if op=10 then 1 else if op=8∨op=9 then 2 else if op=3∨op=4 then 3 else if op=5∨op=6∨op=7 then 4 else 0
structure GK (H:Heap):Prop where
 keys:H BN=.gl BN (keysL.map C.str)
 sign:∃ks rows,H Bq=.gl Bq [.cm true ks rows]∧∀op:Int,Br 0 (.int .i64 op) ((ks.zip rows).map fun e=>(e.1,V.ag e.2))∧
  ∃sg,(AI (.int .i64 op) ((ks.zip rows).map fun e=>(e.1,V.ag e.2))).getD (.ag [.str [],.int .i64 0])=.ag [.str sg,.int .i64 (levN op)]
theorem GK.upd {H':Heap}{U:List (Nat×Obj)}(g:GK H)(hu:Upd H H' U)(h1:BN∉U.map Prod.fst)(h2:Bq∉U.map Prod.fst):GK H':=by
 obtain⟨ks,rows,h3,h4⟩:=g.sign;exact⟨(hu.2 _ (by rw[g.keys];nofun) h1).trans g.keys,ks,rows,(hu.2 _ (by rw[h3];nofun) h2).trans h3,h4⟩
theorem GK.upd0 {H':Heap}(g:GK H)(hu:Upd H H' []):GK H':=g.upd hu (by simp) (by simp)
theorem GK.kn {H':Heap}{L:List (Nat×Obj)}(g:GK H)(kn:Kn H H' [] L):GK H':=by
 obtain⟨ks,rows,h3,h4⟩:=g.sign;exact⟨(kn.chg _ (by rw[g.keys];nofun) (by simp)).trans g.keys,ks,rows,(kn.chg _ (by rw[h3];nofun) (by simp)).trans h3,h4⟩
theorem Qbon {r:Int}(hK:K (.c (.bool (decide (r<97) || decide (122<r)))) H):Qi prog HU [.c (.int .i32 r)] H K:=by
 refine Qb Ab Qawl ?_;refine Qa ?_;simp only[go_sem];refine Qa ?_;simp only[go_sem];refine Qg ?_;simp only[go_sem,Qq,Q1,Ad,Ja,forall_eq,RS.op];have:(bif decide (r<97)then true else decide (122<r))=(decide (r<97) || decide (122<r)):=by cases decide (r<97) <;> rfl
 first|exact hK|(rw[this];exact hK)|(simpa[this]using hK)
theorem Qbah {s:List UInt8}(hK:∀(r:Int) (H':Heap),Upd H H' []→decide (r<0)=s.all AX→K (.c (.int .i64 r)) H') :
  Qi prog Ta [.c (.str s),.c (.fn HU []),.c (.bool true)] H K:=by
 refine A0 ?_;refine Qb Ab Q9u ?_;have retf:∀(r:Int) (e:Env) (H':Heap) (L:List (Nat×Obj)),decide (r<0)=s.all AX→Kn H H' [] L→lk 6 e=.c (.int .i64 r)→Qq AB (unK H K) .ret e H':=by
  intro r e H' L hr kn h3;simp only[go_sem,Qq,Q1,AB,Ja,forall_eq,RS.op,h3];exact⟨_,.c _ _ (Qj rfl),hK _ _ kn.fin hr⟩
 refine Qa ?_;simp only[go_sem];refine Qp (Qa ?_);simp only[go_sem];intro i hi H1 h1;have kn:=(Kn.aw H).al hi h1;refine Qe (Qf (Qu (fun m e1 H1=>∃(q:Nat),m=s.length-q∧Kn H H1 [] [(i,.sit s q)]∧(∀x∈s.take q,AX x=true)∧
  lk 1 e1=.c (.fn HU [])∧lk 2 e1=.c (.bool true)∧lk 10 e1=.c (.itr i)) s.length ?_ ?_))
 ·exact⟨0,by omega,kn,by simp,rfl,rfl,rfl⟩
 ·clear kn;rintro m e1 H2 ⟨q,hm,kn,aD,l1,l2,l10⟩;have nQ:=kn.l 0 rfl;refine Qa ?_;simp only[go_sem,l1,l2,l10,nQ];refine⟨fun a9=>?_,fun c wd aa hw h1 h2 H3 h3=>?_⟩
  ·simp only[go_sem,Tj,l1,l2,l10,Ji];refine Qe (Qc rfl (fun h=>by cases h) (fun _=>?_));refine Qr ?_;simp only[go_sem,AE.X.next];refine Qa ?_;simp only[go_sem];refine Qg ?_;rw[Jc a9]at aD;exact retf (-1) _ _ _ (by rw[Jae.2 aD];rfl) kn (by simp[lk])
  ·have kn:=kn.aT 0 rfl h3;have mB:s.getD q 0=s[q]:=by simp[Jf,aa]
   rw[mB]at h1 h2;simp only[go_sem,Tj,l1,l2,l10,Ji,Jk];refine Qe (Qc rfl (fun _=>?_) (fun h=>by cases h));refine Qd ?_;try simp only[go_sem]
   refine Qf (Qa ?_);simp only[go_sem,Ji,Jk];refine Qa ?_;simp only[go_sem];refine Qbon ?_;have hs:(decide (c<97) || decide (122<c)) = !AX s[q]:=by
    rw[Jp,AX];simp only[Jag,decide_eq_true_eq,J2,decide_eq_false_iff_not];rcases Jal s[q].toNat 128 with h|h
    ·have:=(h1 h).1;omega
    ·have:=h2 h;omega
   rw[hs];simp only[go_sem,Qj5];refine Qc rfl ?_ ?_
   ·intro hc;have hb:AX s[q]=false:=(by simpa using hc);refine Qa ?_;simp only[go_sem];refine Qg ?_;simp only[go_sem,AE.X.next];refine retf (q:Int) _ _ _ ?_ kn (by simp[lk]);rw[decide_eq_false (by omega)]
    symm
    rw[List.all_eq_false];exact⟨_,Jd aa,by rw[hb];simp⟩
   ·intro hc;have hb:AX s[q]=true:=(by simpa using hc);refine Qd ?_;try simp only[go_sem]
    have cZ:wd=1:=by
     rcases Jal s[q].toNat 128 with h|h
     ·exact (h1 h).2
     ·exfalso;rw[AX,decide_eq_true_eq]at hb;omega
    subst cZ;show ∃m,_;refine⟨s.length-(q+1),by omega,q+1,rfl,kn,fun x hx=>?_,rfl,rfl,rfl⟩;rw[Jb aa]at hx;rcases Jm.1 hx with h|h
    ·exact aD x h
    ·rw[Ja]at h;rw[h];exact hb
theorem Qa9y {s:List UInt8}(hK:∀(r:Int) (H':Heap),Upd H H' []→decide (r<0)=s.all AX→K (.c (.int .i64 r)) H') :
  Qi prog Tb [.c (.str s),.c (.fn HU [])] H K:=by
 refine Qb Ab Q9t ?_;refine Qa ?_;simp only[go_sem];refine Qa ?_;simp only[go_sem];refine Qbah fun r H' hu hr=>?_;simp only[go_sem,Qj4];refine Qg ?_;simp only[go_sem,Qq,Q1,Aa,Ja,forall_eq,RS.op];exact hK _ _ hu hr
theorem Qblb {f:Bool}{ss:List (List UInt8)}{v:List UInt8}(hK:∀r:Int,decide (0≤r)=ss.contains v→K (.c (.int .i64 r)) H) :
  Qi prog SH [.c (.sl f 1 (Q3 ss)),.c (.str v)] H K:=by
 refine Qb Ab Qafp ?_;refine Qa ?_;simp only[go_sem];refine Qp (Qa ?_);simp only[go_sem,Qs];intro hl;simp only[LIM]at hl;refine Qe (Qf (Qu (fun m e1 H1=>∃(i:Nat),m=ss.length-i∧i≤ss.length∧H1=H∧v∉ss.take i∧e1=[(0,.c (.sl f 1 (Q3 ss))),(1,.c (.str v)),(7,.c (.int .i64 ss.length)),(8,.c (.int .i64 i))]) ss.length ?_ ?_))
 ·exact⟨0,by omega,by omega,rfl,by simp,rfl⟩
 ·rintro m e1 H1 ⟨i,hm,hi,rfl,bg,rfl⟩;refine Qa ?_;simp only[go_sem];refine Qe (Qc rfl ?_ ?_)
  ·intro hc;have aa:i<ss.length:=by simpa using hc
   have ev:ss.getD i []=ss[i]:=by simp[Jf,aa]
   refine Qd ?_;simp only[go_sem];refine Qe (Qf ?_);refine Qa ?_;simp only[go_sem];refine Qa ?_;simp only[go_sem,aa,Qs,Dk _ _ aa];refine Qc rfl ?_ ?_
   ·intro ao;have hv:v=ss[i]:=(by first|simpa using ao|(rw[←ev];simpa using ao));refine Qa ?_;simp only[go_sem];refine Qg ?_;simp only[go_sem,AE.X.next,Qq,Q1,Aa,Ja,forall_eq,RS.op];refine hK _ ?_;have:v∈ss:=(by rw[hv];exact Jd aa);rw[J7.2 this];simp
   ·intro ao;have hv:¬v=ss[i]:=(by first|simpa using ao|(rw[←ev];simpa using ao));refine Qd ?_;simp only[go_sem];refine Qn ?_;simp only[go_sem,AE.X.next];refine⟨Ql,ss.length-(i+1),by omega,i+1,rfl,by omega,?_,rfl⟩;rw[Jb aa];simp only[Jm,Ja,not_or];exact⟨bg,hv⟩
  ·intro hc;have aC:ss.length≤i:=by simpa using hc
   rw[Jc aC]at bg;refine Qr ?_;simp only[go_sem,AE.X.next];refine Qa ?_;simp only[go_sem];refine Qg ?_;simp only[go_sem,Qq,Q1,Aa,Ja,forall_eq,RS.op];refine hK _ ?_;have:ss.contains v=false:=by
    cases hc:ss.contains v with
    |false=>rfl
    |true=>exact absurd (J7.1 hc) bg
   rw[this];rfl
theorem Qa4a {f:Bool}{ss:List (List UInt8)}{v:List UInt8}(hK:K (.c (.bool (ss.contains v))) H) :
  Qi prog Th [.c (.sl f 1 (Q3 ss)),.c (.str v)] H K:=by
 refine Qb Ab Q56 ?_;refine Qa ?_;simp only[go_sem];refine Qa ?_;simp only[go_sem];refine Qblb fun r hr=>?_;simp only[go_sem,Qi2];refine Qg ?_;simp only[go_sem,Qq,Q1,Aa,Ja,forall_eq,RS.op];rw[hr];exact hK
theorem Rl {n lo hi:Int}(hK:K (.c (.bool (decide (lo≤n)&&decide (n≤hi)))) H):Qi prog BV [.c (.int .i64 n),.c (.int .i64 lo),.c (.int .i64 hi)] H K:=by
 refine Qb Ab MB ?_;refine Qa ?_;simp only[go_sem];refine Qa ?_;simp only[go_sem];refine Qg ?_;simp only[go_sem,Qq,Q1,AB,Ja,forall_eq,RS.op];have:(bif decide (lo≤n)then decide (n≤hi)else false)=(decide (lo≤n)&&decide (n≤hi)):=by cases decide (lo≤n) <;> rfl
 first|exact hK|(rw[this];exact hK)|(simpa[this]using hK)
theorem Id {s:List UInt8}(g:GK H)(hK:∀H',Upd H H' []→K (.c (.bool (Aw s))) H'):Qi prog F0 [.c (.str s)] H K:=by
 refine A0 ?_;refine Qb Ab Qbf1 ?_;have retf:∀(b:Bool) (e:Env) (H':Heap) (L:List (Nat×Obj)),b=Aw s→Kn H H' [] L→lk 2 e=.c (.bool b)→Qq Ad (unK H K) .ret e H':=by
  rintro b e H' L rfl kn h3;simp only[go_sem,Qq,Q1,Ad,Ja,forall_eq,RS.op,h3];exact⟨_,.c _ _ (Qj rfl),hK _ kn.fin⟩
 have kn:=Kn.aw H;refine Qa ?_;simp only[go_sem];refine Qa ?_;simp only[go_sem];try intro _
 refine Rl ?_;by_cases hl:1≤s.length∧s.length≤4
 ·have hd:(decide ((1:Int)≤(s.length:Int))&&decide ((s.length:Int)≤4))=true:=by simp;omega
  simp only[go_sem,RI,hd];refine Qa9y fun r H1 hu hr=>?_;have kn:=kn.aI hu;have g1:=g.upd0 hu
  cases oB:s.all AX with
  |false=>
   rw[oB]at hr;simp only[go_sem,PP,PQ,hr];refine Qg ?_;exact retf false _ _ _ (by rw[Aw,oB];simp) kn (by simp[lk])
  |true=>
   rw[oB]at hr;have hk:=g1.keys;simp only[go_sem,PP,hr,hk];refine⟨⟨by decide,by simp only[LIM];omega⟩,?_⟩;have e:List.map (fun c=>[c]) (List.take 9 (List.map C.str keysL))=Q3 keysL:=rfl;rw[e];refine Qa4a ?_;simp only[go_sem,PQ];refine Qg ?_;exact retf _ _ _ _ (by rw[Aw,oB,decide_eq_true hl];simp) kn rfl
 ·have hd:(decide ((1:Int)≤(s.length:Int))&&decide ((s.length:Int)≤4))=false:=by
   rw[Jaf,decide_eq_false_iff_not,decide_eq_false_iff_not];omega
  simp only[go_sem,RI,PP,PQ,hd];refine Qg ?_;exact retf false _ _ _ (by rw[Aw,decide_eq_false hl];simp) kn (by simp[lk])
def levO (op:Int):Int:=if 0<levN op then levN op else if op=11∨op=12 then 5 else 6
theorem Qbqd {op:Int}(g:GK H)(hK:K (.c (.int .i64 (levO op))) H):Qi prog RB [.c (.int .i64 op)] H K:=by
 obtain⟨ks,rows,hs,hl⟩:=g.sign;obtain⟨ho,sg,hf⟩:=hl op;have ret:∀(n:Int) (e:Env),n=levO op→lk 2 e=.c (.int .i64 n)→Qq Ad K .ret e H:=by
  rintro n e rfl h3;simp only[go_sem,Qq,Q1,Ad,Ja,forall_eq,RS.op,h3];exact hK
 refine Qb Ab Qbaq ?_;refine Qa ?_;simp only[go_sem];refine Qe (Qf ?_);refine Qa ?_;simp only[go_sem,hs,Q6,B4,hf,eq_true ho,J8,Jac];refine Qc rfl ?_ ?_
 ·intro hc;have h0:0<levN op:=of_decide_eq_true hc;refine Qa ?_;simp only[go_sem,hs,Q6,B4,hf,eq_true ho,J8,Jac];refine Qg ?_;simp only[go_sem,AE.X.next];exact ret _ _ (by rw[levO,if_pos h0]) (by simp[lk])
 ·intro hc;have h0:¬0<levN op:=of_decide_eq_false hc;refine Qa ?_;simp only[go_sem,Ch];refine Qc rfl ?_ ?_
  ·intro ao;have h1:op=11∨op=12:=by simpa using ao
   refine Qa ?_;simp only[go_sem];refine Qg ?_;simp only[go_sem,AE.X.next];exact ret _ _ (by rw[levO,if_neg h0,if_pos h1]) (by simp[lk])
  ·intro ao;have h1:¬(op=11∨op=12):=by simpa using ao
   refine Qd ?_;simp only[go_sem,AE.X.next];refine Qa ?_;simp only[go_sem];refine Qg ?_;exact ret _ _ (by rw[levO,if_neg h0,if_neg h1]) (by simp[lk])
theorem Qb08 {op:Int}:levO op<6↔3≤op∧op≤12:=by
 by_cases h:3≤op∧op≤12
 ·simp only[h,and_self,iff_true];rw[levO,levN];obtain⟨h1,h2⟩:=h;rcases (by omega:op=3∨op=4∨op=5∨op=6∨op=7∨op=8∨op=9∨op=10∨op=11∨op=12)with rfl|rfl|rfl|rfl|rfl|rfl|rfl|rfl|rfl|rfl <;> decide
 ·simp only[h,iff_false];have h0:levN op=0:=by rw[levN,if_neg (by omega),if_neg (by omega),if_neg (by omega),if_neg (by omega)]
  rw[levO,h0,if_neg (by omega),if_neg (by omega)];omega
theorem lev_pos {op:Int}:0<levN op↔3≤op∧op≤10:=by
 by_cases h:3≤op∧op≤10
 ·simp only[h,and_self,iff_true];obtain⟨h1,h2⟩:=h;rcases (by omega:op=3∨op=4∨op=5∨op=6∨op=7∨op=8∨op=9∨op=10)with rfl|rfl|rfl|rfl|rfl|rfl|rfl|rfl <;> decide
 ·simp only[h,iff_false];rw[levN,if_neg (by omega),if_neg (by omega),if_neg (by omega),if_neg (by omega)];omega
def hd1 (op n:Int)(name:List UInt8):Bool:=decide (1≤op∧op≤13)&&(!decide (op=1) || (decide (0≤n∧n≤255)&&decide (name=[])))&&(!decide (op=2∨op=13) || (Aw name&&decide (n=0)))
theorem LL:Aw []=false:=by decide
theorem TV (op n:Int)(name:List UInt8)(k:Nat):CW op n name k =
  (hd1 op n name&&(!decide (levO op<6) || (decide (n=0)&&decide (name=[])))&&(decide (Bv op≤(k:Int))&&decide ((k:Int)≤Bt op))):=by
 have hl:decide (levO op<6)=decide (3≤op∧op≤12):=by rw[decide_eq_decide];exact Qb08
 rw[CW,hd1,hl,Jp];simp only[Jo,Jag,decide_eq_true_eq,beq_iff_eq,J2,decide_eq_false_iff_not];by_cases hn:name=[]
 ·subst hn;simp only[LL,decide_eq_false_iff_not];constructor
  ·rintro⟨⟨⟨⟨⟨h1,h2⟩,h3⟩,h4⟩,h5⟩,h6⟩;refine⟨⟨⟨⟨h1,?_⟩,?_⟩,?_⟩,h2⟩
   ·exact .inr ⟨h5,trivial⟩
   ·exact .inl h3
   ·rcases h6 with h6|h6
    ·exact .inl (by omega)
    ·exact .inr ⟨h6,trivial⟩
  ·rintro⟨⟨⟨⟨h1,h2⟩,h3⟩,h4⟩,h5⟩;have h3:¬(op=2∨op=13):=by
    rcases h3 with h3|⟨h3,_⟩
    ·exact h3
    ·cases h3
   refine⟨⟨⟨⟨⟨h1,h5⟩,h3⟩,.inr trivial⟩,?_⟩,?_⟩
   ·rcases h2 with h2|⟨h2,_⟩
    ·rcases h4 with h4|⟨h4,_⟩ <;> omega
    ·exact h2
   ·rcases h4 with h4|⟨h4,_⟩
    ·exact .inl (by omega)
    ·exact .inr h4
 ·simp only[hn,and_false,or_false];constructor
  ·rintro⟨⟨⟨⟨⟨h1,h2⟩,h3⟩,h4⟩,h5⟩,h6⟩;rw[decide_eq_true h4]at h3;refine⟨⟨⟨⟨h1,by omega⟩,?_⟩,by omega⟩,h2⟩;exact .inr ⟨h3.symm,by omega⟩
  ·rintro⟨⟨⟨⟨h1,h2⟩,h3⟩,h4⟩,h5⟩;have h6:op=2∨op=13:=by omega
   rcases h3 with h3|⟨h3,h7⟩
   ·exact absurd h6 h3
   ·exact⟨⟨⟨⟨⟨h1,h5⟩,by rw[h3];simp[h6]⟩,h6⟩,by omega⟩,.inr h7⟩
end Go.AE.Y
namespace Go.AE.Y
attribute [local go_sem] cond_true cond_false Bool.not_true Bool.not_false
open Go.Proofs.Tryz
variable {H H0:Heap}{K:V→Heap→Prop}
theorem XY {n:Int}(hK:K (.c (.bool (decide (0≤n)&&decide (n≤255)))) H):Qi prog Ir [.c (.int .i64 n)] H K:=by
 refine Qb Ab MC ?_;refine Qa ?_;simp only[go_sem];refine Qa ?_;simp only[go_sem];refine Rl ?_;simp only[go_sem,RE];refine Qg ?_;simp only[go_sem,Qq,Q1,Ad,Ja,forall_eq,RS.op];exact hK
def SzOk (x:Ex)(most:Int)(n d:Int)(ok:Bool):Prop:=ok=(x.form most&&decide (x.size≤30))∧(ok=true→n=x.size∧0≤d∧d≤1000+most)
def Qb0e (n:Nat):Prop:=∀(x:Ex) {H:Heap} {K:V→Heap→Prop} (most:Int),x.size≤n→x.size≤2^40→most≤100→GK H→
 (∀(n d:Int) (ok:Bool) H',Upd H H' []→SzOk x most n d ok→K (.tup [.c (.int .i64 n),.c (.int .i64 d),.c (.bool ok)]) H')→Qi prog PV [.ag x.cells,.c (.int .i64 most)] H K
theorem VJ {x:Ex}{most:Int}{Q:X→Env→Heap→Prop}(kn:Kn H0 H [] [])(g:GK H)
  (hf:∀e' H',hd1 x.op x.n x.name=false→Kn H0 H' [] []→lk 4 e'=.c (.int .i64 0)→lk 5 e'=.c (.int .i64 0)→lk 6 e'=.c (.bool false)→Q .ret e' H')
  (hn:∀e' H',hd1 x.op x.n x.name=true→Kn H0 H' [] []→lk 1 e'=.c (.int .i64 most)→lk 2 e'=.c (.pp [.int .i64 x.op,.int .i64 x.n,.str x.name,.sl false 4 (Af x.kids)])→lk 7 e'=.c (.int .i64 (Bv x.op))→lk 8 e'=.c (.int .i64 (Bt x.op))→Q .nrm e' H') :
  Ag prog Qx2 Q [(1,.c (.int .i64 most)),(2,.c (.pp [.int .i64 x.op,.int .i64 x.n,.str x.name,.sl false 4 (Af x.kids)])),(7,.c (.int .i64 0)),(8,.c (.int .i64 0)),(16,.c (.bool (decide (x.op=1))))] H:=by
 have ret:∀(e:Env) (H':Heap),hd1 x.op x.n x.name=false→Kn H0 H' [] []→Ag prog (.seq (.reg (
   .f (some 4) none (.mv (.k (.c (.int .i64 0))))::
   .f (some 5) none (.mv (.k (.c (.int .i64 0))))::
   .f (some 6) none (.mv (.k (.c (.bool false))))::
   []) [4,5,6]) .ret) Q e H':=by
  intro e H' h kn;refine Qa ?_;simp only[go_sem];refine Qg ?_;exact hf _ _ h kn (by simp[lk]) (by simp[lk]) (by simp[lk])
 obtain⟨ks,rows,hs,hl⟩:=g.sign;obtain⟨ho,sg,qK⟩:=hl x.op;refine Qc rfl ?_ ?_
 ·intro hc;have h1:x.op=1:=by simpa using hc
  refine Qa ?_;simp only[go_sem];refine XY ?_;simp only[go_sem,Qx4,Ch];refine Qc rfl ?_ ?_
  ·intro ao;refine ret _ _ ?_ kn;rw[hd1,h1];revert ao;by_cases ha:0≤x.n <;> by_cases hb:x.n≤255 <;> by_cases hn:x.name=[] <;> simp[ha,hb,hn]
  ·intro ao;refine Qd ?_;have gY:Bv x.op=0:=by rw[h1];rfl
   have gP:Bt x.op=0:=by rw[h1];rfl
   refine hn _ H ?_ kn (by simp[lk]) (by simp[lk]) (by rw[gY];simp[lk]) (by rw[gP];simp[lk]);rw[hd1,h1];revert ao;by_cases ha:0≤x.n <;> by_cases hb:x.n≤255 <;> by_cases hn:x.name=[] <;> simp[ha,hb,hn]
 intro hc;have h1:¬x.op=1:=by simpa using hc
 refine Qa ?_;simp only[go_sem];refine Qc rfl ?_ ?_
 ·intro ao;have h2:x.op=2:=by simpa using ao
  refine Qa ?_;simp only[go_sem];refine Id g fun H1 hu=>?_;have kn:=kn.aI hu;simp only[go_sem,Qx5,Ch];refine Qc rfl ?_ ?_
  ·intro b7;refine ret _ _ ?_ kn;rw[hd1,h2];revert b7;cases Aw x.name <;> by_cases hb:x.n=0 <;> simp[hb]
  ·intro b7;refine Qd ?_;have gY:Bv x.op=0:=by rw[h2];rfl
   have gP:Bt x.op=0:=by rw[h2];rfl
   refine hn _ H1 ?_ kn (by simp[lk]) (by simp[lk]) (by rw[gY];simp[lk]) (by rw[gP];simp[lk]);rw[hd1,h2];revert b7;cases Aw x.name <;> by_cases hb:x.n=0 <;> simp[hb]
 intro ao;have h2:¬x.op=2:=by simpa using ao
 refine Qa ?_;simp only[go_sem];refine Qc rfl ?_ ?_
 ·intro b7;have h3:x.op=13:=by simpa using b7
  refine Qa ?_;simp only[go_sem];refine Qa ?_;simp only[go_sem];refine Id g fun H1 hu=>?_;have kn:=kn.aI hu;simp only[go_sem,Qx6,Ch];refine Qc rfl ?_ ?_
  ·intro bX;refine ret _ _ ?_ kn;rw[hd1,h3];revert bX;cases Aw x.name <;> by_cases hb:x.n=0 <;> simp[hb]
  ·intro bX;refine Qd ?_;have gY:Bv x.op=0:=by rw[h3];rfl
   have gP:Bt x.op=3:=by rw[h3];rfl
   refine hn _ H1 ?_ kn (by simp[lk]) (by simp[lk]) (by rw[gY];simp[lk]) (by rw[gP];simp[lk]);rw[hd1,h3];revert bX;cases Aw x.name <;> by_cases hb:x.n=0 <;> simp[hb]
 intro b7;have h3:¬x.op=13:=by simpa using b7
 refine Qa ?_;simp only[go_sem,hs,Q6,B4,qK,eq_true ho,J8,Jac];have hh:∀(h:3≤x.op∧x.op≤12),hd1 x.op x.n x.name=true:=fun h=>by
  rw[hd1,decide_eq_true (by omega:1≤x.op∧x.op≤13),decide_eq_false (by omega:¬x.op=1),decide_eq_false (by omega:¬(x.op=2∨x.op=13))];rfl
 refine Qc rfl ?_ ?_
 ·intro bX;have h4:=lev_pos.1 (of_decide_eq_true bX);refine Qn ?_;simp only[go_sem];have gY:Bv x.op=2:=by rw[Bv,if_neg (by omega),if_neg (by omega)]
  have gP:Bt x.op=2:=by rw[Bt,if_neg (by omega),if_neg (by omega),if_neg (by omega)]
  exact hn _ H (hh (by omega)) kn (by simp[lk]) (by simp[lk]) (by rw[gY];simp[lk]) (by rw[gP];simp[lk])
 intro bX;have h4:¬(3≤x.op∧x.op≤10):=fun h=>absurd (lev_pos.2 h) (of_decide_eq_false bX);refine Qa ?_;simp only[go_sem,Ch];refine Qc rfl ?_ ?_
 ·intro dM;have h5:x.op=11∨x.op=12:=by simpa using dM
  refine Qn ?_;simp only[go_sem];have gY:Bv x.op=1:=by rw[Bv,if_neg (by omega),if_pos h5]
  have gP:Bt x.op=1:=by rw[Bt,if_neg (by omega),if_pos h5]
  exact hn _ H (hh (by omega)) kn (by simp[lk]) (by simp[lk]) (by rw[gY];simp[lk]) (by rw[gP];simp[lk])
 ·intro dM;have h5:¬(x.op=11∨x.op=12):=by simpa using dM
  refine ret _ _ ?_ kn;rw[hd1,decide_eq_false (by omega:¬(1≤x.op∧x.op≤13))];rfl
theorem TQ {S:Nat→Bool}(n d:Int)(b:Bool):FrzV H S (.tup [.c (.int .i64 n),.c (.int .i64 d),.c (.bool b)]) (.tup [.c (.int .i64 n),.c (.int .i64 d),.c (.bool b)]):=by
 refine .tup _ _ rfl fun j x x' h1 h2=>?_
 match j with
 |0=>simp at h1 h2;subst h1;subst h2;exact .c _ _ (Qj rfl)
 |1=>simp at h1 h2;subst h1;subst h2;exact .c _ _ (Qj rfl)
 |2=>simp at h1 h2;subst h1;subst h2;exact .c _ _ (Qj rfl)
theorem Qbln:∀n,Qb0e n:=by
 intro n
 induction n with
 |zero=>intro x _ _ _ h;have:=x.size_pos;omega
 |succ n ih=>
 intro x H K most hn hs40 rR g hK;have g0:=g;have be:=x.size_kids;refine A0 ?_;refine Qb Ab Qa4v ?_;have ret:∀(n d:Int) (ok:Bool) (e:Env) (H':Heap) (L:List (Nat×Obj)),SzOk x most n d ok→Kn H H' [] L→lk 4 e=.c (.int .i64 n)→lk 5 e=.c (.int .i64 d)→lk 6 e=.c (.bool ok)→Qq It (unK H K) .ret e H':=by
  intro n d ok e H' L hf kn h4 h5 h6;simp only[go_sem,Qq,Q1,It,Jy,Jx,RS.op,h4,h5,h6];exact⟨fun _=>trivial,_,TQ n d ok,hK n d ok _ kn.fin hf⟩
 have retf:∀(e:Env) (H':Heap) (L:List (Nat×Obj)),(x.form most&&decide (x.size≤30))=false→Kn H H' [] L→lk 4 e=.c (.int .i64 0)→lk 5 e=.c (.int .i64 0)→lk 6 e=.c (.bool false)→Qq It (unK H K) .ret e H':=by
  intro e H' L hf kn h4 h5 h6;exact ret 0 0 false e H' L ⟨hf.symm,nofun⟩ kn h4 h5 h6
 have dj:=x.form_eq most;rw[TV,MJ]at dj;refine Qa ?_;simp only[go_sem,x.ab];refine Qa ?_;simp only[go_sem];refine Qe (Qf ?_);refine Qa ?_;simp only[go_sem];refine VJ (Kn.aw H) g (fun e' H' hh kn h4 h5 h6=>?_) (fun e' H' hh kn l1 l2 l7 l8=>?_)
 ·simp only[go_sem,AE.X.next];exact retf _ _ _ (by rw[dj,hh];simp) kn h4 h5 h6
 simp only[go_sem,AE.X.next];rw[hh]at dj;have g:=g.kn kn;refine Qp (Qa ?_);simp only[go_sem,l1,l2,l7,l8];obtain⟨P,hP⟩:∃P,(decide (1≤most)&&((!decide (levO x.op<6) || (decide (x.n=0)&&decide (x.name=[])))&&(decide (Bv x.op≤(x.kids.length:Int))&&decide ((x.kids.length:Int)≤Bt x.op))))=P:=⟨_,rfl⟩;have jH:x.form most=(P&&x.kids.all fun y=>y.form (most-1)):=by rw[dj,←hP];simp only[Jg,J0]
 have rest:∀b:Bool,b = !P→Ag prog (s_im_exprSize_14.seq Qx3) (Qq It (unK H K))
   [(1,.c (.int .i64 most)),(2,.c (.pp [.int .i64 x.op,.int .i64 x.n,.str x.name,.sl false 4 (Af x.kids)])),(97,.c (.bool b))] H':=by
  intro b hb;refine Qe (Qc rfl ?_ ?_)
  ·intro hc;have hA:P=false:=by rw[hc]at hb;simpa using hb.symm
   refine Qa ?_;simp only[go_sem];refine Qg ?_;simp only[go_sem,AE.X.next];exact retf _ _ _ (by rw[jH,hA];rfl) kn (by simp[lk]) (by simp[lk]) (by simp[lk])
  intro hc;have hA:P=true:=by rw[hc]at hb;simpa using hb.symm
  have i8:1≤most:=by
   rw[hA,Jo,decide_eq_true_eq]at hP;exact hP.1
  rw[hA,Jg]at jH;refine Qd ?_;try simp only[go_sem]
  refine Qa ?_;simp only[go_sem];refine Qp (Qa ?_);simp only[go_sem,Qt];intro hl;simp only[LIM]at hl;refine Qe (Qf (Qu (fun m e1 H1=>∃(i:Nat) (d:Int),m=x.kids.length-i∧i≤x.kids.length∧Kn H H1 [] []∧((x.kids.take i).all fun y=>y.form (most-1))=true∧1≤d∧d≤1000+most∧
   e1=[(1,.c (.int .i64 most)),(9,.c (.int .i64 (1+Q4 (x.kids.take i):Nat))),(10,.c (.int .i64 d)),(99,.c (.sl false 4 (Af x.kids))),(100,.c (.int .i64 x.kids.length)),(101,.c (.int .i64 i))]) x.kids.length ?_ ?_))
  ·exact⟨0,1,by omega,by omega,kn,rfl,by omega,by omega,by simp[Q4]⟩
  ·clear kn g;rintro m e1 H2 ⟨i,d,hm,hi,kn,aD,sn,qR,rfl⟩;have g:=(‹GK H› : GK H).kn kn;refine Qa ?_;simp only[go_sem];refine Qe (Qc rfl ?_ ?_)
   ·intro hc;have aa:i<x.kids.length:=(by simpa using hc);have hm:=B0 (Jd aa);refine Qd ?_;try simp only[go_sem]
    refine Qe (Qf ?_);refine Qa ?_;simp only[go_sem,aa,Qt,B7 _ _ aa,x.kids[i].ab];intro x12 kr H3 h3;have kn:=kn.al kr h3;have g12:=kn.l 0 rfl;simp only[go_sem,Qs7,g12];intro H4 h4;have kn:Kn H H4 [] [(x12,.st [.int .i64 x.kids[i].op,.int .i64 x.kids[i].n,.str x.kids[i].name,.sl false 4 (Af x.kids[i].kids)])]:=kn.aT 0 rfl h4;have g:=g0.kn kn;clear g12;have g12:=kn.l 0 rfl;refine Qa ?_;simp only[go_sem,g12];refine⟨Ql,?_⟩;have i9:=@ih x.kids[i];rw[x.kids[i].ab]at i9;refine i9 (most-1) (by omega) (by omega) (by omega) g fun n' d' ok H5 hu pz=>?_;have kn:=Kn.drop (A:=[]) (kn.aI hu);obtain⟨gE,py⟩:=pz;simp only[go_sem,Qs8,Ji,Jk];refine Qp (Qa ?_);simp only[go_sem];have dB:=HQ aa;have a9:=F6 x.kids (i+1);refine Qe (Qc rfl ?_ ?_)
    ·intro ao;have aM:ok=false:=(by simpa using ao);refine Qa ?_;simp only[go_sem];refine Qg ?_;simp only[go_sem,AE.X.next];refine retf _ _ _ ?_ kn (by simp[lk]) (by simp[lk]) (by simp[lk]);rw[aM]at gE;rcases Jaf.1 gE.symm with h|h
     ·rw[jH,CF aa h];rfl
     ·rw[decide_eq_false_iff_not]at h;rw[decide_eq_false (by omega),Jao]
    ·intro ao;have aM:ok=true:=(by simpa using ao);obtain⟨qe,cR,hd3⟩:=py aM;rw[aM]at gE;have gE:=gE.symm;rw[Jo,decide_eq_true_eq]at gE;obtain⟨eH,i6⟩:=gE;have cI:Q4 (x.kids.take i)≤Q4 x.kids:=F6 x.kids i;refine Qd ?_;try simp only[go_sem]
     refine Qa ?_;simp only[go_sem];refine⟨Ql,?_⟩;refine Qn ?_;simp only[go_sem,AE.X.next];refine⟨Ql,?_⟩;refine Qn ?_;simp only[go_sem,AE.X.next];refine⟨Ql,x.kids.length-(i+1),by omega,i+1,(if d'+1 > d then d'+1 else d),rfl,by omega,kn,by rw[CG aa,aD,eH];rfl,by split <;> omega,by split <;> omega,?_⟩;rw[show (((1+Q4 (x.kids.take i):Nat):Int)+n')=((1+Q4 (x.kids.take (i+1)):Nat):Int)by omega];rfl
   ·intro hc;have aC:x.kids.length≤i:=(by simpa using hc);rw[Jc aC]at aD;rw[Jc aC];refine Qr ?_;simp only[go_sem,AE.X.next];refine Qa ?_;simp only[go_sem];refine Qg ?_;refine ret _ d _ _ _ _ ⟨?_,fun _=>⟨by rw[be],by omega,qR⟩⟩ kn (by simp[lk]) (by simp[lk]) rfl;rw[jH,aD,be,Jg,decide_eq_decide];omega
 refine Qbqd g ?_;simp only[go_sem,Qs6,l1,l2,l7,l8,Ch];intro hl;refine⟨fun hb=>?_,fun hb=>?_⟩
 ·have hb:=Bm hb;refine Rl ?_;simp only[go_sem,S6,hb,l1,l2,l7,l8,Ch,Qt];try intro _
  refine rest _ ?_;rw[←hP,Qbli (a:=most)];revert hb;simp only[Cm];cases decide (levO x.op<6) <;> cases decide (x.n=0) <;> cases decide (x.name=[]) <;> cases decide (Bv x.op≤(x.kids.length:Int)) <;> cases decide ((x.kids.length:Int)≤Bt x.op) <;> cases decide ((1:Int)≤most) <;> simp
 ·have hb:=AK hb;simp only[go_sem,S6,hb,l1,l2,l7,l8,Ch];try intro _
  refine rest _ ?_;rw[←hP];revert hb;simp only[Cm];cases decide (levO x.op<6) <;> cases decide (x.n=0) <;> cases decide (x.name=[]) <;> simp
theorem NR {x:Ex}(hx:x.size≤2^40)(g:GK H)(hK:∀H',Upd H H' []→K (.c (.bool x.valid)) H'):Qi prog S0 [.ag x.cells] H K:=by
 refine Qb Ab Qawk ?_;refine Qa ?_;simp only[go_sem,x.ab];refine Qa ?_;simp only[go_sem];have h:=@Qbln x.size x;rw[x.ab]at h;refine h 6 (Js _) hx (by omega) g fun n d ok H' hu pz=>?_;simp only[go_sem,Qsp,Ji,Jk];refine Qa ?_;simp only[go_sem];refine Qg ?_;simp only[go_sem,Qq,Q1,Ad,Ja,forall_eq,RS.op];rw[pz.1];exact hK _ hu
def acN (op:Int):Int:=if 1≤op∧op≤8 then (argN op:Int)else -1
theorem Qble {op:Int}(hK:K (.tup [.c (.int .i64 (acN op)),.c (.bool (decide (op=1∨op=2))),.c (.bool (decide (op=5∨op=6))),.c (.bool (decide (op=5)))]) H):Qi prog RX [.c (.int .i64 op)] H K:=by
 refine Qb Ab Qa4u ?_;have ret:∀(n:Int) (a b c:Bool) (e:Env),n=acN op→a=decide (op=1∨op=2)→b=decide (op=5∨op=6)→c=decide (op=5)→lk 2 e=.c (.int .i64 n)→lk 3 e=.c (.bool a)→lk 4 e=.c (.bool b)→lk 5 e=.c (.bool c)→Qq Iu K .ret e H:=by
  intro n a b c e h1 h2 h3 h4 l2 l3 l4 l5;subst h1;subst h2;subst h3;subst h4;simp only[go_sem,Qq,Q1,Iu,Jy,Jx,RS.op,l2,l3,l4,l5];exact⟨fun _=>trivial,hK⟩
 have fin:∀(n:Int) (a b c:Bool) (e:Env) (Q:X→Env→Heap→Prop),(∀e,lk 2 e=.c (.int .i64 n)→lk 3 e=.c (.bool a)→lk 4 e=.c (.bool b)→lk 5 e=.c (.bool c)→Q .ret e H)→Ag prog (.seq (.reg (
  .f (some 2) none (.mv (.k (.c (.int .i64 n))))::
  .f (some 3) none (.mv (.k (.c (.bool a))))::
  .f (some 4) none (.mv (.k (.c (.bool b))))::
  .f (some 5) none (.mv (.k (.c (.bool c))))::
  []) [2,3,4,5]) .ret) Q e H:=by
  intro n a b c e Q hq;refine Qa ?_;simp only[go_sem];refine Qg ?_;exact hq _ (by simp[lk]) (by simp[lk]) (by simp[lk]) (by simp[lk])
 refine Qa ?_;simp only[go_sem];refine Qp (Qa ?_);simp only[go_sem];refine Qe (Qf ?_);refine Qp (Qa ?_);simp only[go_sem];have one:∀(e:Env),(op=1∨op=2)→Ag prog Q2g (X.inBlock 0 (X.sq prog Sd (Qq Iu K))) ((6,.c (.int .i64 op))::(7,.c (.bool true))::e) H:=by
  intro e h;refine Qc rfl (fun _=>?_) (fun h=>by cases h);refine fin 1 true false false _ _ fun e l2 l3 l4 l5=>?_;simp only[go_sem,AE.X.next];exact ret _ _ _ _ e (by rw[acN,if_pos (by omega),argN,if_neg (by omega)];rfl) (by rw[decide_eq_true h]) (by symm;rw[decide_eq_false_iff_not];omega) (by symm;rw[decide_eq_false_iff_not];omega) l2 l3 l4 l5
 refine Qe (Qc rfl ?_ ?_)
 ·intro hc;refine Qd ?_;simp only[go_sem];have h1:op=1:=by simpa using hc
  rw[hc];exact one [] (.inl h1)
 intro hc;have h1:¬op=1:=by simpa using hc
 refine Qn ?_;simp only[go_sem];by_cases h2:op=2
 ·rw[decide_eq_true h2];exact one [] (.inr h2)
 rw[decide_eq_false h2];refine Qc rfl (fun h=>by cases h) (fun _=>?_);refine Qp (Qa ?_);simp only[go_sem];have two:∀(b:Bool),b=decide (op=3∨op=7∨op=8)→Ag prog Q2f (X.inBlock 0 (X.sq prog Sd (Qq Iu K))) [(6,.c (.int .i64 op)),(10,.c (.bool b))] H:=by
  intro b hb;refine Qc rfl (fun hc=>?_) (fun hc=>?_)
  ·rw[hb,decide_eq_true_eq]at hc;refine fin 1 false false false _ _ fun e l2 l3 l4 l5=>?_;simp only[go_sem,AE.X.next];exact ret _ _ _ _ e (by rw[acN,if_pos (by omega),argN,if_neg (by omega)];rfl) (by symm;rw[decide_eq_false_iff_not];omega) (by symm;rw[decide_eq_false_iff_not];omega) (by symm;rw[decide_eq_false_iff_not];omega) l2 l3 l4 l5
  rw[hb,decide_eq_false_iff_not]at hc;refine Qa ?_;simp only[go_sem];refine Qc rfl (fun bX=>?_) (fun bX=>?_)
  ·have h4:op=4:=by simpa using bX
   refine fin 2 false false false _ _ fun e l2 l3 l4 l5=>?_;simp only[go_sem,AE.X.next];exact ret _ _ _ _ e (by rw[h4];rfl) (by rw[h4];rfl) (by rw[h4];rfl) (by rw[h4];rfl) l2 l3 l4 l5
  have h4:¬op=4:=by simpa using bX
  refine Qa ?_;simp only[go_sem];refine Qc rfl (fun dM=>?_) (fun dM=>?_)
  ·have h5:op=5:=by simpa using dM
   refine fin 1 false true true _ _ fun e l2 l3 l4 l5=>?_;simp only[go_sem,AE.X.next];exact ret _ _ _ _ e (by rw[h5];rfl) (by rw[h5];rfl) (by rw[h5];rfl) (by rw[h5];rfl) l2 l3 l4 l5
  have h5:¬op=5:=by simpa using dM
  refine Qa ?_;simp only[go_sem];refine Qc rfl (fun hZ=>?_) (fun hZ=>?_)
  ·have h6:op=6:=by simpa using hZ
   refine fin 1 false true false _ _ fun e l2 l3 l4 l5=>?_;simp only[go_sem,AE.X.next];exact ret _ _ _ _ e (by rw[h6];rfl) (by rw[h6];rfl) (by rw[h6];rfl) (by rw[h6];rfl) l2 l3 l4 l5
  have h6:¬op=6:=by simpa using hZ
  refine Qd ?_;simp only[go_sem,AE.X.next];refine fin (-1) false false false _ _ fun e l2 l3 l4 l5=>?_;exact ret _ _ _ _ e (by rw[acN,if_neg (by omega)]) (by symm;rw[decide_eq_false_iff_not];omega) (by symm;rw[decide_eq_false_iff_not];omega) (by symm;rw[decide_eq_false_iff_not];omega) l2 l3 l4 l5
 refine Qe (Qc rfl ?_ ?_)
 ·intro b7;have h3:op=3:=by simpa using b7
  refine Qd ?_;simp only[go_sem];exact two _ (by rw[decide_eq_decide];omega)
 intro b7;have h3:¬op=3:=by simpa using b7
 refine Qa ?_;simp only[go_sem];refine Qc rfl ?_ ?_
 ·intro lR;have h7:op=7:=by simpa using lR
  refine Qd ?_;simp only[go_sem];exact two _ (by rw[decide_eq_decide];omega)
 intro lR;have h7:¬op=7:=by simpa using lR
 refine Qn ?_;simp only[go_sem];exact two _ (by rw[decide_eq_decide];omega)
def badS (op:Int)(name:List UInt8)(args:List Ex)(nb ne:Nat)(nest:Int):Bool:=
 decide (4<nest) || (!decide ((args.length:Int)=acN op) || ((decide (op=1∨op=2)&&!Aw name) || ((!decide (op=1∨op=2)&&!decide (name=[])) || ((!decide (op=5∨op=6)&&decide (0<nb)) || ((!decide (op=5)&&decide (0<ne)) ||
  (decide (op=8)&&!decide ((args.map Ex.op).getD 0 0=13)))))))
theorem acN_eq {op:Int}{k:Nat}:(k:Int)=acN op↔(1≤op∧op≤8)∧k=argN op:=by
 rw[acN];split <;> omega
theorem V2 (op:Int)(name:List UInt8)(args:List Ex)(nb ne:Nat)(nest:Int):(decide (1≤5-nest)&&BX op name args nb ne)=(!badS op name args nb ne nest&&args.all Ex.valid):=by
 have e1:decide (1≤5-nest) = !decide (4<nest):=by rw[Jp];simp;omega
 have e2:decide ((args.length:Int)=acN op)=(decide (1≤op∧op≤8)&&decide (args.length=argN op)):=by rw[Jp];simp only[Jo,decide_eq_true_eq];exact acN_eq
 have e3:decide (ne=0) = !decide (0<ne):=by rw[Jp];simp
 have e4:decide (nb=0) = !decide (0<nb):=by rw[Jp];simp
 have e5:(decide (op=1∨op=2) == Aw name)=true→decide (op=1∨op=2)=false→name=[]→True:=fun _ _ _=>trivial;rw[BX,badS,e1,e2,e3,e4];by_cases hn:name=[]
 ·subst hn;rw[LL];cases decide (4<nest) <;> cases decide (1≤op∧op≤8) <;> cases decide (args.length=argN op) <;> cases decide (op=1∨op=2) <;> cases decide (0<ne) <;> cases decide (0<nb) <;> cases decide (op=5) <;> cases decide (op=5∨op=6) <;> cases decide (op=8) <;> cases decide ((args.map Ex.op).getD 0 0=13) <;> cases args.all Ex.valid <;> rfl
 ·rw[decide_eq_false hn];cases decide (4<nest) <;> cases decide (1≤op∧op≤8) <;> cases decide (args.length=argN op) <;> cases decide (op=1∨op=2) <;> cases Aw name <;> cases decide (0<ne) <;> cases decide (0<nb) <;> cases decide (op=5) <;> cases decide (op=5∨op=6) <;> cases decide (op=8) <;> cases decide ((args.map Ex.op).getD 0 0=13) <;> cases args.all Ex.valid <;> rfl
theorem dpos (n:Nat):decide ((0:Int)<(n:Int))=decide (0<n):=by rw[decide_eq_decide];omega
theorem Tx {x:St}{nest:Int}{Q:X→Env→Heap→Prop}(kn:Kn H0 H [] [])(g:GK H)
  (hn:∀e' H' b,b=badS x.op x.name x.args x.body.length x.els.length nest→Kn H0 H' [] []→lk 1 e'=.c (.int .i64 nest)→lk 2 e'=.c (.pp [.int .i64 x.op,.str x.name,.sl false 4 (Af x.args),.sl false 5 (Qv x.body),.sl false 5 (Qv x.els)])→lk 19 e'=.c (.bool b)→Q .nrm e' H') :
  Ag prog NE Q [(1,.c (.int .i64 nest)),(2,.c (.pp [.int .i64 x.op,.str x.name,.sl false 4 (Af x.args),.sl false 5 (Qv x.body),.sl false 5 (Qv x.els)])),(5,.c (.int .i64 (acN x.op))),(6,.c (.bool (decide (x.op=1∨x.op=2)))),(7,.c (.bool (decide (x.op=5∨x.op=6)))),(8,.c (.bool (decide (x.op=5)))),(19,.c (.bool (decide (4<nest))))] H:=by
 refine Qc rfl (fun hc=>?_) (fun hc=>?_)
 ·rw[hc];refine Qd ?_;exact hn _ _ true (by simp only[badS,hc,J4]) kn (by simp[lk]) (by simp[lk]) (by simp[lk])
 refine Qa ?_;simp only[go_sem,Qt];intro _;refine Qc rfl (fun bE=>?_) (fun bE=>?_)
 ·rw[bE];refine Qd ?_;exact hn _ _ true (by simp only[badS,hc,bE,J4,J5]) kn (by simp[lk]) (by simp[lk]) (by simp[lk])
 have hl:=acN_eq.1 (show (x.args.length:Int)=acN x.op by simpa using bE);have rest:∀(b:Bool) (H1:Heap),b=(decide (x.op=1∨x.op=2)&&!Aw x.name)→Kn H0 H1 [] []→Ag prog NF Q [(1,.c (.int .i64 nest)),(2,.c (.pp [.int .i64 x.op,.str x.name,.sl false 4 (Af x.args),.sl false 5 (Qv x.body),.sl false 5 (Qv x.els)])),(6,.c (.bool (decide (x.op=1∨x.op=2)))),(7,.c (.bool (decide (x.op=5∨x.op=6)))),(8,.c (.bool (decide (x.op=5)))),(19,.c (.bool b))] H1:=by
  intro b H1 hb kn;refine Qc rfl (fun ao=>?_) (fun ao=>?_)
  ·rw[ao]at hb;rw[ao];refine Qd ?_;exact hn _ _ true (by simp only[badS,hc,bE,←hb,J4,J5]) kn (by simp[lk]) (by simp[lk]) (by simp[lk])
  rw[ao]at hb;refine Qa ?_;simp only[go_sem,Cm];refine Qc rfl (fun b7=>?_) (fun b7=>?_)
  ·rw[b7];refine Qd ?_;exact hn _ _ true (by simp only[badS,hc,bE,←hb,b7,J4,J5]) kn (by simp[lk]) (by simp[lk]) (by simp[lk])
  refine Qa ?_;simp only[go_sem,Cm,Q7];try intro _
  refine Qc rfl (fun bX=>?_) (fun bX=>?_)
  ·rw[bX];rw[dpos]at bX;refine Qd ?_;exact hn _ _ true (by simp only[badS,hc,bE,←hb,b7,bX,J4,J5]) kn (by simp[lk]) (by simp[lk]) (by simp[lk])
  rw[dpos]at bX;refine Qa ?_;simp only[go_sem,Cm,Q7];try intro _
  refine Qc rfl (fun dM=>?_) (fun dM=>?_)
  ·rw[dM];rw[dpos]at dM;refine Qd ?_;exact hn _ _ true (by simp only[badS,hc,bE,←hb,b7,bX,dM,J4,J5]) kn (by simp[lk]) (by simp[lk]) (by simp[lk])
  rw[dpos]at dM;refine Qn ?_;have h1:0<x.args.length:=by rw[hl.2,argN];split <;> omega
  have lF:=B7 x.args 0 h1;obtain⟨a,ea⟩:∃a,x.args[0]=a:=⟨_,rfl⟩;rw[ea]at lF;have eo:(x.args.map Ex.op).getD 0 0=a.op:=by rw[←ea];simp[Jf,h1]
  simp only[go_sem,Cm,Qt,h1,lF,a.ab]
  first
   |refine⟨fun _=>by omega,?_⟩
   |skip
  refine hn _ _ (decide (x.op=8)&&!decide (a.op=13)) ?_ kn (by simp[lk]) (by simp[lk]) (by simp[lk]);simp only[badS,hc,bE,←hb,b7,bX,dM,eo,J4,J5,Jg]
 by_cases eY:x.op=1∨x.op=2
 ·have hd:decide (x.op=1∨x.op=2)=true:=decide_eq_true eY;rw[hd]at rest;refine Qa ?_;simp only[go_sem,hd];refine Id g fun H1 hu=>?_;simp only[go_sem,RD];exact rest _ _ rfl (kn.aI hu)
 ·have hd:decide (x.op=1∨x.op=2)=false:=decide_eq_false eY;rw[hd]at rest;refine Qa ?_;simp only[go_sem,hd,RD];exact rest _ _ rfl kn
theorem Qa4c {fl:Bool}{l:List St}{f:Nat}{caps:List C}{p:St→Bool}
  (hf:∀(x:St) (H1:Heap) (K':V→Heap→Prop),x∈l→Kn H H1 [] []→(∀H2,Upd H1 H2 []→K' (.c (.bool (p x))) H2)→Qi prog f ([.ag x.cells]++caps.map .c) H1 K')
  (hK:∀(r:Int) (H':Heap),Upd H H' []→decide (0≤r)=l.any p→K (.c (.int .i64 r)) H') :
  Qi prog Tc [.c (.sl fl 5 (Qv l)),.c (.fn f caps)] H K:=by
 refine A0 ?_;refine Qb Ab Q9s ?_;refine Qa ?_;simp only[go_sem];refine Qp (Qa ?_);simp only[go_sem,Q7];intro hl;simp only[LIM]at hl;refine Qe (Qf (Qu (fun m e1 H1=>∃(i:Nat),m=l.length-i∧i≤l.length∧Kn H H1 [] []∧(∀x∈l.take i,p x=false)∧e1=[(0,.c (.sl fl 5 (Qv l))),(1,.c (.fn f caps)),(7,.c (.int .i64 l.length)),(8,.c (.int .i64 i))]) l.length ?_ ?_))
 ·exact⟨0,by omega,by omega,Kn.aw H,by simp,rfl⟩
 ·rintro m e1 H1 ⟨i,hm,hi,kn,aD,rfl⟩;refine Qa ?_;simp only[go_sem];refine Qe (Qc rfl ?_ ?_)
  ·intro hc;have aa:i<l.length:=by simpa using hc
   refine Qd ?_;simp only[go_sem];refine Qe (Qf ?_);refine Qa ?_;simp only[go_sem];refine Qa ?_;simp only[go_sem,aa,Q7,Ct _ _ aa,St.take5,St.aX,St.aj];refine hf _ _ _ (Jd aa) kn fun H2 hu=>?_;have kn:=kn.aI hu;refine Qc rfl ?_ ?_
   ·intro ao;refine Qa ?_;simp only[go_sem];refine Qg ?_;simp only[go_sem,X.next,Qq,Q1,Aa,Ja,forall_eq,RS.op];refine⟨_,.c _ _ (Qj rfl),hK _ _ kn.fin ?_⟩;have:l.any p=true:=Ju.2 ⟨_,Jd aa,ao⟩;rw[this];simp
   ·intro ao;refine Qd ?_;simp only[go_sem];refine Qn ?_;simp only[go_sem,X.next];refine⟨Ql,l.length-(i+1),by omega,i+1,rfl,by omega,kn,?_,rfl⟩;rw[Jb aa];intro x hx;rcases Jm.1 hx with hx|hx
    ·exact aD x hx
    ·simp only[Ja]at hx;subst hx;exact ao
  ·intro hc;have aC:l.length≤i:=by simpa using hc
   rw[Jc aC]at aD;refine Qr ?_;simp only[go_sem,X.next];refine Qa ?_;simp only[go_sem];refine Qg ?_;simp only[go_sem,Qq,Q1,Aa,Ja,forall_eq,RS.op];refine⟨_,.c _ _ (Qj rfl),hK _ _ kn.fin ?_⟩;have:l.any p=false:=by
    cases hc:l.any p with
    |false=>rfl
    |true=>obtain⟨x,hx,hp⟩:=Ju.1 hc;rw[aD x hx]at hp;exact absurd hp (by simp)
   rw[this];rfl
theorem Qajy {fl:Bool}{l:List St}{f:Nat}{caps:List C}{p:St→Bool}
  (hf:∀(x:St) (H1:Heap) (K':V→Heap→Prop),x∈l→Kn H H1 [] []→(∀H2,Upd H1 H2 []→K' (.c (.bool (p x))) H2)→Qi prog f ([.ag x.cells]++caps.map .c) H1 K')
  (hK:∀(H':Heap),Upd H H' []→K (.c (.bool (l.any p))) H') :
  Qi prog Tu [.c (.sl fl 5 (Qv l)),.c (.fn f caps)] H K:=by
 refine Qb Ab Qy9 ?_;refine Qa ?_;simp only[go_sem];refine Qa ?_;simp only[go_sem];refine Qa4c hf fun r H' hu hr=>?_;simp only[go_sem,Qgr];refine Qg ?_;simp only[go_sem,Qq,Q1,Aa,Ja,forall_eq,RS.op];rw[hr];exact hK _ hu
def StOk (n:Nat):Prop:=∀(x:St) (nest:Int) (H:Heap) (K:V→Heap→Prop),x.size≤n→x.size≤2^40→0≤nest→nest≤100→GK H→(∀H',Upd H H' []→K (.c (.bool (x.form (5-nest)))) H')→Qi prog Q1d [.ag x.cells,.c (.int .i64 nest)] H K
def BlOk (n:Nat):Prop:=∀(l:List St) (nest:Int) (fl:Bool) (H:Heap) (K:V→Heap→Prop),Qh l≤n→Qh l≤2^40→0≤nest→nest≤100→GK H→(∀H',Upd H H' []→K (.c (.bool (AD l (5-nest)))) H')→
 Qi prog Ix [.c (.sl fl 5 (Qv l)),.c (.int .i64 nest)] H K
theorem Kl {n:Nat}(hS:StOk n):BlOk n:=by
 intro l nest fl H K hn hb h0 hm g hK;refine A0 ?_;refine Qb Ab Qbao ?_;refine Qa ?_;simp only[go_sem];refine Qa ?_;simp only[go_sem];have kn:=Kn.aw H;refine Qajy (p:=fun s=>!s.form (5-nest)) (fun x H1 K' hx kn cL=>?_) fun H1 hu=>?_
 ·have iu:=Cv hx;refine Qb Ab Qapj ?_;refine Qa ?_;simp only[go_sem,x.ab];refine Qa ?_;simp only[go_sem];have h:=hS x nest;rw[x.ab]at h;refine h _ _ (by omega) (by omega) h0 hm (g.kn kn) fun H2 hu=>?_;simp only[go_sem,Qqp];refine Qg ?_;simp only[go_sem,Qq,Q1,AO,Ja,forall_eq,RS.op];exact cL _ hu
 have kn:=kn.aI hu;simp only[go_sem,Q2h];refine Qg ?_;simp only[go_sem,Qq,Q1,Aa,Ja,forall_eq,RS.op];refine⟨_,.c _ _ (Qj rfl),?_⟩;have e:(!l.any fun s=>!s.form (5-nest))=AD l (5-nest):=by rw[GY,List.all_eq_not_any_not]
 rw[e];exact hK _ kn.fin
theorem Qb11:∀n,StOk n:=by
 intro n
 induction n with
 |zero=>intro x nest H K hx;have:=x.size_eq;omega
 |succ n ih=>
 have hB:=Kl ih;intro x nest H K hn hb h0 hm g hK;have jR:=x.size_eq;have g0:=g;refine A0 ?_;refine Qb Ab Qbf3 ?_;have dj:x.form (5-nest)=(!badS x.op x.name x.args x.body.length x.els.length nest&&x.args.all Ex.valid&&(AD x.body (5-(nest+1))&&AD x.els (5-(nest+1)))):=by
  rw[x.form_eq,V2,show 5-nest-1=5-(nest+1)by omega,J0]
 have retf:∀(b:Bool) (e:Env) (H':Heap) (L:List (Nat×Obj)),x.form (5-nest)=b→Kn H H' [] L→lk 4 e=.c (.bool b)→Qq Aa (unK H K) .ret e H':=by
  intro b e H' L hf kn h4;simp only[go_sem,Qq,Q1,Aa,Ja,forall_eq,RS.op,h4];refine⟨_,.c _ _ (Qj rfl),?_⟩;rw[←hf];exact hK _ kn.fin
 have kn:=Kn.aw H;refine Qa ?_;simp only[go_sem,x.ab];refine Qa ?_;simp only[go_sem];refine Qble ?_;simp only[go_sem,Q8m,Ji,Jk];refine Qe (Qf ?_);refine Qp (Qa ?_);simp only[go_sem];refine Qe (Tx kn g fun e' H1 b lV kn l1 l2 l19=>?_);clear g;have g:=g0.kn kn;simp only[go_sem];rw[←lV]at dj;refine Qc (by simp only[go_sem,l19];rfl) (fun hc=>?_) (fun hc=>?_)
 ·refine Qa ?_;simp only[go_sem];refine Qg ?_;simp only[go_sem,AE.X.next];exact retf false _ _ _ (by rw[dj,hc];rfl) kn (by simp[lk])
 have hn4:nest≤4:=by
  rw[hc,badS]at lV;have:=(Bool.or_eq_false_iff.1 lV.symm).1;simpa using this
 rw[hc,J6,Jg]at dj;refine Qd ?_;simp only[go_sem,AE.X.next];refine Qp (Qa ?_);simp only[go_sem,l1,l2,Qt];intro hl;simp only[LIM]at hl;refine Qe (Qf (Qu (fun m e1 H1=>∃(i:Nat),m=x.args.length-i∧i≤x.args.length∧Kn H H1 [] []∧((x.args.take i).all Ex.valid)=true∧
  e1=[(1,.c (.int .i64 nest)),(2,.c (.pp [.int .i64 x.op,.str x.name,.sl false 4 (Af x.args),.sl false 5 (Qv x.body),.sl false 5 (Qv x.els)])),(69,.c (.sl false 4 (Af x.args))),(70,.c (.int .i64 x.args.length)),(71,.c (.int .i64 i))]) x.args.length ?_ ?_))
 ·exact⟨0,by omega,by omega,kn,rfl,rfl⟩
 ·clear kn g;rintro m e1 H2 ⟨i,hm,hi,kn,aD,rfl⟩;have g:=g0.kn kn;refine Qa ?_;simp only[go_sem];refine Qe (Qc rfl ?_ ?_)
  ·intro hc;have aa:i<x.args.length:=by simpa using hc
   have hm:=B0 (Jd aa);refine Qd ?_;try simp only[go_sem]
   refine Qe (Qf ?_);refine Qa ?_;simp only[go_sem,aa,Qt,B7 _ _ aa,x.args[i].ab];intro x10 iL H3 h3;have kn:=kn.al iL h3;have g12:=kn.l 0 rfl;simp only[go_sem,Q8n,g12];intro H4 h4;have kn:Kn H H4 [] [(x10,.st [.int .i64 x.args[i].op,.int .i64 x.args[i].n,.str x.args[i].name,.sl false 4 (Af x.args[i].kids)])]:=kn.aT 0 rfl h4;clear g12;have g:=g0.kn kn;have g12:=kn.l 0 rfl;refine Qa ?_;simp only[go_sem,g12];have hev:=@NR H4;have nX:=fun K=>@NR H4 K x.args[i];simp only[x.args[i].ab]at nX;refine nX _ (by omega) g fun H5 hu=>?_;have kn:=Kn.drop (A:=[]) (kn.aI hu);simp only[go_sem,Q3r];refine Qc rfl ?_ ?_
   ·intro ao;refine Qa ?_;simp only[go_sem];refine Qg ?_;simp only[go_sem,AE.X.next];exact retf false _ _ _ (by rw[dj,CF aa (Bm ao)];rfl) kn (by simp[lk])
   ·intro ao;refine Qd ?_;try simp only[go_sem]
    refine Qn ?_;simp only[go_sem,AE.X.next];exact⟨Ql,x.args.length-(i+1),by omega,i+1,rfl,by omega,kn,by rw[CG aa,aD,AK ao];rfl,rfl⟩
  ·intro hc;have aC:x.args.length≤i:=by simpa using hc
   rw[Jc aC]at aD;rw[aD,Jg]at dj;refine Qr ?_;simp only[go_sem,AE.X.next];refine Qa ?_;simp only[go_sem];refine⟨Ql,?_⟩;refine hB x.body (nest+1) _ _ _ (by omega) (by omega) (by omega) (by omega) g fun H3 hu=>?_;have kn:=kn.aI hu;have g:=g0.kn kn
   cases aV:AD x.body (5-(nest+1))with
   |false=>
    simp only[go_sem,Sm,Sn];refine Qg ?_;exact retf false _ _ _ (by rw[dj,aV];rfl) kn (by simp[lk])
   |true=>
    simp only[go_sem,Sm];refine⟨Ql,?_⟩;refine hB x.els (nest+1) _ _ _ (by omega) (by omega) (by omega) (by omega) g fun H4 hu=>?_;have kn:=kn.aI hu;simp only[go_sem,Sn];refine Qg ?_;exact retf _ _ _ _ (by rw[dj,aV];rfl) kn rfl
theorem Qb0i (n:Nat):BlOk n:=Kl (Qb11 n)
end Go.AE.Y
namespace Go.AE
open Go.AE.Y
open Go.Proofs.Tryz
variable {H H0:Heap}{K:V→Heap→Prop}{E E' L:List (Nat×Obj)}
theorem Kn.callAll {H':Heap}(kn:Kn H0 H E L)(hu:Upd H H' E')(hn:E'.map Prod.fst=E.map Prod.fst)(bm:∀p∈E',p.2≠.none):Kn H0 H' E' L:=by
 refine kn.callg hu hn rfl (fun p hp=>?_) (fun m hm=>?_)
 ·rcases Jm.1 hp with h|h
  ·exact⟨bm p h,.inl h⟩
  ·refine⟨(kn.get p (Jn _ h)).2,.inr ⟨Jn _ h,fun hm=>?_⟩⟩;rw[hn]at hm;obtain⟨q,hq,hqp⟩:=Jj.1 hm;exact kn.ext q hq (by rw[hqp];exact kn.loc p h)
 ·exact .inl (by rw[←hn];exact Jj.2 ⟨m,hm,rfl⟩)
end Go.AE
namespace Go.AE.Y
open Go.Proofs.Tryz
variable {H H0:Heap}{K:V→Heap→Prop}{E E' L:List (Nat×Obj)}
mutual
def St.vis {α:Type}(step:α→St→Int→α):St→Int→α→α
 |.mk op name args body els,n,a=>AF step els (n+1) (AF step body (n+1) (step a (.mk op name args body els) n))
def AF {α:Type}(step:α→St→Int→α):List St→Int→α→α
 |[],_,a=>a
 |x::r,n,a=>AF step r n (x.vis step n a)
end
theorem St.vis_eq {α:Type}(step:α→St→Int→α)(x:St)(n:Int)(a:α):x.vis step n a=AF step x.els (n+1) (AF step x.body (n+1) (step a x n)):=by
 cases x;simp only[St.vis,St.body,St.els]
theorem Qbog {α:Type}(step:α→St→Int→α)(l r:List St)(n:Int)(a:α):AF step (l++r) n a=AF step r n (AF step l n a):=by
 induction l generalizing a with
 |nil=>simp[AF]
 |cons x l ih=>simp only[Jq,AF,ih]
theorem Qbjx {α:Type}(step:α→St→Int→α){l:List St}{i:Nat}(h:i<l.length)(n:Int)(a:α):AF step (l.take (i+1)) n a=(l[i]).vis step n (AF step (l.take i) n a):=by
 rw[Jb h,Qbog];simp[AF]
structure VisOk {α:Type}(ob:α→List (Nat×Obj))(step:α→St→Int→α)(ok:α→Prop)(mu:α→Nat)(f:Nat)(caps:List C):Prop where
 nm:∀a b,(ob a).map Prod.fst=(ob b).map Prod.fst
 nd:∀a,((ob a).map Prod.fst).Nodup
 ne:∀a,∀p∈ob a,p.2≠.none
 st:∀a s n,ok a→ok (step a s n)
 ms:∀a s n,mu (step a s n)≤mu a+s.size-(Qh s.body+Qh s.els)
 c:∀(a:α) (s:St) (n:Int) (H:Heap) (K:V→Heap→Prop),ok a→mu a≤2^41→0≤n→(n≤2^41)→s.size≤2^40→(∀p∈ob a,H p.1=p.2)→(∀H',Upd H H' (ob (step a s n))→K (.tup []) H')→Qi prog f ([.ag s.cells,.c (.int .i64 n)]++caps.map .c) H K
mutual
theorem St.vis_ok {α:Type}{step:α→St→Int→α}{ok:α→Prop}(hs:∀a s n,ok a→ok (step a s n)):∀(x:St) (n:Int) (a:α),ok a→ok (x.vis step n a)
 |.mk op name args body els,n,a,h=>by
  simp only[St.vis];exact Pb hs els _ _ (Pb hs body _ _ (hs _ _ _ h))
theorem Pb {α:Type}{step:α→St→Int→α}{ok:α→Prop}(hs:∀a s n,ok a→ok (step a s n)):∀(l:List St) (n:Int) (a:α),ok a→ok (AF step l n a)
 |[],_,a,h=>by simpa[AF]using h
 |x::r,n,a,h=>by
  simp only[AF];exact Pb hs r _ _ (St.vis_ok hs x _ _ h)
end
mutual
theorem St.vis_mu {α:Type}{step:α→St→Int→α}{mu:α→Nat}(hs:∀a s n,mu (step a s n)≤mu a+s.size-(Qh s.body+Qh s.els)):∀(x:St) (n:Int) (a:α),mu (x.vis step n a)≤mu a+x.size
 |.mk op name args body els,n,a=>by
  simp only[St.vis];have h1:=hs a (.mk op name args body els) n;have h2:=Pc hs body (n+1) (step a (.mk op name args body els) n);have h3:=Pc hs els (n+1) (AF step body (n+1) (step a (.mk op name args body els) n));have h4:=St.size_eq (.mk op name args body els);simp only[St.body,St.els,St.args]at h1 h4;omega
theorem Pc {α:Type}{step:α→St→Int→α}{mu:α→Nat}(hs:∀a s n,mu (step a s n)≤mu a+s.size-(Qh s.body+Qh s.els)):∀(l:List St) (n:Int) (a:α),mu (AF step l n a)≤mu a+Qh l
 |[],_,a=>by simp[AF,Qh]
 |x::r,n,a=>by
  simp only[AF,Qh];have h1:=St.vis_mu hs x n a;have h2:=Pc hs r n (x.vis step n a);omega
end
theorem LD {α:Type}{ob:α→List (Nat×Obj)}{step:α→St→Int→α}{ok:α→Prop}{mu:α→Nat}{f:Nat}{caps:List C}(hv:VisOk ob step ok mu f caps) :
  ∀(n:Nat) (l:List St) (nest:Int) (fl:Bool) (a:α) (H:Heap) (K:V→Heap→Prop),Qh l≤n→Qh l≤2^40→0≤nest→nest+n≤2^41→ok a→mu a+n≤2^41→(∀p∈ob a,H p.1=p.2)→(∀H',Upd H H' (ob (AF step l nest a))→K (.tup []) H')→
   Qi prog HH [.c (.sl fl 5 (Qv l)),.c (.int .i64 nest),.c (.fn f caps)] H K:=by
 intro n
 induction n using Nat.strongRecOn with
 |_ n ih=>
 intro l nest fl a H K hn hb h0 hm ha rQ hh hK;refine A0 ?_;refine Qb Ab Qbl8 ?_;refine Qa ?_;simp only[go_sem,Q7];intro hl;simp only[LIM]at hl;have bm:=hv.ne a;have kn:Kn H H (ob a) []:=.startE (fun p hp=>⟨hh p hp,bm p hp⟩) (hv.nd a);refine Qf (Qu (fun m e1 H1=>∃(i:Nat),m=l.length-i∧i≤l.length∧Kn H H1 (ob (AF step (l.take i) nest a)) []∧
  e1=[(1,.c (.int .i64 nest)),(2,.c (.fn f caps)),(8,.c (.sl fl 5 (Qv l))),(9,.c (.int .i64 l.length)),(10,.c (.int .i64 i))]) l.length ?_ ?_)
 ·exact⟨0,by omega,by omega,by simpa[AF]using kn,rfl⟩
 ·clear kn;rintro m e1 H1 ⟨i,i8,hi,kn,rfl⟩;obtain⟨a1,jj⟩:∃a1,AF step (l.take i) nest a=a1:=⟨_,rfl⟩;have eJ:ok a1:=by rw[←jj];exact Pb hv.st _ _ _ ha
  have qf:=Pc hv.ms (l.take i) nest a;have gG:=Fb l i;rw[jj]at kn qf;refine Qa ?_;simp only[go_sem];refine Qe (Qc rfl ?_ ?_)
  ·intro hc;have aa:i<l.length:=by simpa using hc
   have eK:=Cv (Jd aa);have aF:=HL aa;have p9:=Fb l (i+1);obtain⟨x,hx⟩:∃x,l[i]=x:=⟨_,rfl⟩;rw[hx]at eK aF;have jR:=x.size_eq;have aO:=Qbjx step aa nest a;rw[jj,hx]at aO;refine Qd ?_;try simp only[go_sem]
   refine Qe (Qf ?_);refine Qa ?_;simp only[go_sem,aa,Q7,Ct _ _ aa,hx,x.ab];intro x7 dY H3 h3;have kn:=kn.al dY h3;have g7:=kn.l 0 rfl;simp only[go_sem,ND,g7];intro H4 h4;have kn:Kn H H4 (ob a1) [(x7,.st [.int .i64 x.op,.str x.name,.sl false 4 (Af x.args),.sl false 5 (Qv x.body),.sl false 5 (Qv x.els)])]:=kn.aT 0 rfl h4;clear g7;have g7:=kn.l 0 rfl;refine Qa ?_;simp only[go_sem,g7];have iM:=hv.c a1 x nest;rw[x.ab]at iM;refine iM _ _ eJ (by omega) h0 (by omega) (by omega) (fun p hp=>(kn.get p (Je _ hp)).1) fun H5 hu=>?_;have kn:=kn.callAll hu (hv.nm _ _) (hv.ne _);have g7:=kn.l 0 rfl;have dS:=hv.st a1 x nest eJ;have hmu2:=hv.ms a1 x nest;have hmu3:=Pc hv.ms x.body (nest+1) (step a1 x nest);simp only[go_sem];refine Qa ?_;simp only[go_sem,g7];refine⟨Ql,?_⟩;refine ih (Qh x.body) (by omega) x.body (nest+1) _ _ _ _ (Js _) (by omega) (by omega) (by omega) dS (by omega) (fun p hp=>(kn.get p (Je _ hp)).1) fun H6 hu=>?_;have kn:=kn.callAll hu (hv.nm _ _) (hv.ne _);have g7:=kn.l 0 rfl;have pU:=Pb hv.st x.body (nest+1) _ dS;simp only[go_sem];refine Qn ?_;simp only[go_sem,g7];refine⟨Ql,?_⟩;refine ih (Qh x.els) (by omega) x.els (nest+1) _ _ _ _ (Js _) (by omega) (by omega) (by omega) pU (by omega) (fun p hp=>(kn.get p (Je _ hp)).1) fun H7 hu=>?_;have kn:=Kn.drop (A:=[]) (kn.callAll hu (hv.nm _ _) (hv.ne _));simp only[go_sem];refine Qn ?_;simp only[go_sem,X.next];refine⟨Ql,l.length-(i+1),by omega,i+1,rfl,by omega,?_,rfl⟩;rw[aO,x.vis_eq];exact kn
  ·intro hc;have aC:l.length≤i:=by simpa using hc
   rw[Jc aC]at jj;refine Qr ?_;simp only[go_sem,X.next,Qq,Q1,Av];refine⟨.tup [],.tup _ _ rfl fun j x x' h=>by simp at h,hK _ ?_⟩;rw[jj];exact kn.fin
end Go.AE.Y
namespace Go.AE.Y
attribute [local go_sem] cond_true cond_false Bool.not_true Bool.not_false
open Go.Proofs.Tryz
variable {H H0:Heap}{K:V→Heap→Prop}{E E' L:List (Nat×Obj)}
def C2 (p:Int×Int)(s:St)(n:Int):Int×Int:=(p.1+1,if n > p.2 then n else p.2)
mutual
theorem St.ms_fst:∀(x:St) (n:Int) (p:Int×Int),(x.vis C2 n p).1=p.1+x.cnt
 |.mk op name args body els,n,p=>by
  simp only[St.vis,St.cnt];rw[E9 els,E9 body,C2];simp only[];omega
theorem E9:∀(l:List St) (n:Int) (p:Int×Int),(AF C2 l n p).1=p.1+AU l
 |[],_,p=>by simp[AF,AU]
 |x::r,n,p=>by
  simp only[AF,AU];rw[E9 r,St.ms_fst x];omega
end
def msOb (x2 x3:Nat)(p:Int×Int):List (Nat×Obj):=[(x2,.st [.int .i64 p.1]),(x3,.st [.int .i64 p.2])]
theorem LT {x2 x3:Nat}(bm:x2≠x3):VisOk (msOb x2 x3) C2 (fun p=>0≤p.1) (fun p=>p.1.toNat) S3 [.ptr x2 0,.ptr x3 0]:=by
 refine⟨fun _ _=>rfl,fun _=>by simp[msOb,bm],fun a p hp=>?_,fun a s n h=>?_,fun a s n=>?_,fun a s n H K ha rQ h0 hn hs hh hK=>?_⟩
 ·simp only[msOb,Jh,Jx,or_false]at hp;rcases hp with rfl|rfl <;> nofun
 ·show 0≤a.1+1;omega
 ·show (a.1+1).toNat≤_;have:=s.size_eq;omega
 ·have h2:H x2=.st [.int .i64 a.1]:=hh (x2,_) (by simp[msOb]);have h3:H x3=.st [.int .i64 a.2]:=hh (x3,_) (by simp[msOb]);refine Qb Ab Qapl ?_;have kn:=Kn.start2 h2 (by nofun) h3 (by nofun) bm;refine Qa ?_;simp only[go_sem,s.ab];refine Qa ?_;simp only[go_sem,h2];refine⟨Ql,fun H1 h1=>?_⟩;have kn:=kn.stE 0 rfl h1;have g3:=kn.e 1 rfl;refine Qn ?_;simp only[go_sem,g3];intro H2 qB;have kn:=kn.stE 1 rfl qB;simp only[Qq,Q1,Av,go_sem];exact hK _ ⟨fun p hp=>(kn.get p (Je _ hp)).1,fun m h1 h2=>kn.chg m h1 h2⟩
end Go.AE.Y
namespace Go.AE
open Go.AE.Y
open Go.Proofs.Tryz
variable {H H0:Heap}{K:V→Heap→Prop}{E E' L:List (Nat×Obj)}
theorem Kn.callLs {H':Heap}{L' M:List (Nat×Obj)}(kn:Kn H0 H E (L++M))(hu:Upd H H' L')(hn:L'.map Prod.fst=L.map Prod.fst)(bm:∀p∈L',p.2≠.none):Kn H0 H' E (L'++M):=by
 have qm:∀m,m∈L'.map Prod.fst→H0 m=.none:=fun m h=>by
  rw[hn]at h;obtain⟨q,hq,rfl⟩:=Jj.1 h;exact kn.loc q (Je _ hq)
 refine kn.callg hu rfl (by rw[Jw,Jw,hn]) (fun p hp=>?_) (fun m hm=>.inr (by rw[Jw,←hn];exact Je _ (Jj.2 ⟨m,hm,rfl⟩)));rcases Jm.1 hp with h|h
 ·exact⟨(kn.get p (Je _ h)).2,.inr ⟨Je _ h,fun hm=>kn.ext p h (qm _ hm)⟩⟩
 rcases Jm.1 h with h|h
 ·exact⟨bm p h,.inl h⟩
 ·refine⟨(kn.get p (Jn _ (Jn _ h))).2,.inr ⟨Jn _ (Jn _ h),fun hm=>?_⟩⟩;rw[hn]at hm;have hd:=kn.dL;rw[Jw,Jad]at hd;exact hd.2.2 _ hm _ (Jj.2 ⟨p,h,rfl⟩) rfl
end Go.AE
namespace Go.AE.Y
open Go.Proofs.Tryz
variable {H H0:Heap}{K:V→Heap→Prop}{E E' L:List (Nat×Obj)}
theorem Xp {S:Nat→Bool}(n d:Int):FrzV H S (.tup [.c (.int .i64 n),.c (.int .i64 d)]) (.tup [.c (.int .i64 n),.c (.int .i64 d)]):=by
 refine .tup _ _ rfl fun j x x' h1 h2=>?_
 match j with
 |0=>simp at h1 h2;subst h1;subst h2;exact .c _ _ (Qj rfl)
 |1=>simp at h1 h2;subst h1;subst h2;exact .c _ _ (Qj rfl)
end Go.AE.Y
namespace Go.AE
open Go.AE.Y
open Go.Proofs.Tryz
variable {H H0:Heap}{K:V→Heap→Prop}{E E' L:List (Nat×Obj)}
theorem Kn.lm2 {x:Nat×Obj}(kn:Kn H0 H E L)(h:x∈L):H x.1=x.2:=(kn.get x (Jn _ h)).1
end Go.AE
namespace Go.AE.Y
open Go.Proofs.Tryz
variable {H H0:Heap}{K:V→Heap→Prop}{E E' L:List (Nat×Obj)}
theorem Qbqy {l:List Fn}{fl:Bool}(hf:A6 l≤2^40)(hK:∀(d:Int) H',Upd H H' []→K (.tup [.c (.int .i64 (AJ l)),.c (.int .i64 d)]) H'):Qi prog RA [.ag [.sl fl 3 (Ae l)]] H K:=by
 refine A0 ?_;refine Qb Ab Qbar ?_;refine Qa ?_;simp only[go_sem];intro x2 eG H1 h1;have kn:=(Kn.aw H).al eG h1;simp only[go_sem,Q3o];intro x3 eF H2 h2;have kn:=kn.al eF h2;have bm:x2≠x3:=kn.neL 0 1 rfl rfl (by omega);have kn:Kn H H2 [] (msOb x2 x3 (0,0)):=kn;refine Qp (Qa ?_);simp only[go_sem,Q8];intro hl;simp only[LIM]at hl;refine Qe (Qf (Qu (fun m e1 H1=>∃(i:Nat) (d:Int),m=l.length-i∧i≤l.length∧Kn H H1 [] (msOb x2 x3 ((AJ (l.take i):Int),d))∧
  e1=[(2,.c (.ptr x2 0)),(3,.c (.ptr x3 0)),(7,.c (.sl fl 3 (Ae l))),(8,.c (.int .i64 l.length)),(9,.c (.int .i64 i))]) l.length ?_ ?_))
 ·exact⟨0,0,by omega,by omega,kn,rfl⟩
 ·clear kn;rintro m e1 H3 ⟨i,d,hm,hi,kn,rfl⟩;refine Qa ?_;simp only[go_sem];refine Qe (Qc rfl ?_ ?_)
  ·intro hc;have aa:i<l.length:=by simpa using hc
   have hm:=Fz (Jd aa);have aO:=GR aa;have mr:=Qa5j aa;have jo:=Qx0 l (i+1);have hct:=KI (l.take i);refine Qd ?_;try simp only[go_sem]
   refine Qe (Qf ?_);refine Qa ?_;simp only[go_sem,aa,Q8,Cu _ _ aa,Fn.cells];intro x5 cC H4 h4;have kn:=kn.al cC h4;have g5:=kn.l 2 rfl;simp only[go_sem,Q3p,g5];intro H5 h5;have kn:Kn H H5 [] (msOb x2 x3 ((AJ (l.take i):Int),d)++[(x5,_)]):=kn.aT 2 rfl h5;have g5:=kn.l 2 rfl;refine Qn ?_;simp only[go_sem,g5];refine LD (LT bm) (Qh l[i].body) l[i].body 1 _ ((AJ (l.take i):Int),d) _ _ (Js _) (by omega) (by omega) (by omega) (by show (0:Int)≤_;omega) (by show (AJ (l.take i):Int).toNat+_≤_;omega) (fun p hp=>kn.lm2 (Je _ hp)) fun H6 hu=>?_;have kn:=Kn.drop (A:=msOb x2 x3 (AF C2 l[i].body 1 ((AJ (l.take i):Int),d))) (kn.callLs hu rfl ((LT bm).ne _));have gZ:=E9 l[i].body 1 ((AJ (l.take i):Int),d);simp only[go_sem];refine Qn ?_;simp only[go_sem,AE.X.next];refine⟨Ql,l.length-(i+1),by omega,i+1,(AF C2 l[i].body 1 ((AJ (l.take i):Int),d)).2,rfl,by omega,?_,rfl⟩;have e:((AJ (l.take (i+1)):Int))=(AF C2 l[i].body 1 ((AJ (l.take i):Int),d)).1:=by rw[gZ,aO];simp
   rw[e];exact kn
  ·intro hc;have aC:l.length≤i:=by simpa using hc
   rw[Jc aC]at kn;have g2:=kn.l 0 rfl;have g3:=kn.l 1 rfl;refine Qr ?_;simp only[go_sem,AE.X.next];refine Ak ?_;simp only[go_sem,g2,g3];intro H4 h4;have kn:=kn.aT 0 rfl h4;have g3:=kn.l 1 rfl;simp only[go_sem,Q3q,g3];intro H5 h5;have kn:=kn.aT 1 rfl h5;have g2:=kn.l 0 rfl;have g3:=kn.l 1 rfl;refine Qg ?_;simp only[go_sem,Qq,Q1,Nm,Jy,Jx,RS.op,g2,g3];exact⟨fun _=>trivial,_,Xp _ _,hK d _ kn.fin⟩
end Go.AE.Y
namespace Go.AE.Y
attribute [local go_sem] cond_true cond_false Bool.not_true Bool.not_false
open Go.Proofs.Tryz
variable {H H0:Heap}{K:V→Heap→Prop}{E E' L:List (Nat×Obj)}
theorem Qawg {fl:Bool}{l:List (List UInt8)}{f:Nat}{caps:List C}{p:List UInt8→Bool}
  (hf:∀(x:List UInt8) (H1:Heap) (K':V→Heap→Prop),x∈l→Kn H H1 [] []→(∀H2,Upd H1 H2 []→K' (.c (.bool (p x))) H2)→Qi prog f ([.c (.str x)]++caps.map .c) H1 K')
  (hK:∀(r:Int) (H':Heap),Upd H H' []→decide (0≤r)=l.any p→K (.c (.int .i64 r)) H') :
  Qi prog Tn [.c (.sl fl 1 (Q3 l)),.c (.fn f caps)] H K:=by
 refine A0 ?_;refine Qb Ab Q1r ?_;refine Qa ?_;simp only[go_sem];refine Qp (Qa ?_);simp only[go_sem,Qs];intro hl;simp only[LIM]at hl;refine Qe (Qf (Qu (fun m e1 H1=>∃(i:Nat),m=l.length-i∧i≤l.length∧Kn H H1 [] []∧(∀x∈l.take i,p x=false)∧e1=[(0,.c (.sl fl 1 (Q3 l))),(1,.c (.fn f caps)),(7,.c (.int .i64 l.length)),(8,.c (.int .i64 i))]) l.length ?_ ?_))
 ·exact⟨0,by omega,by omega,Kn.aw H,by simp,rfl⟩
 ·rintro m e1 H1 ⟨i,hm,hi,kn,aD,rfl⟩;refine Qa ?_;simp only[go_sem];refine Qe (Qc rfl ?_ ?_)
  ·intro hc;have aa:i<l.length:=by simpa using hc
   have ev:l.getD i []=l[i]:=by simp[Jf,aa]
   refine Qd ?_;simp only[go_sem];refine Qe (Qf ?_);refine Qa ?_;simp only[go_sem];refine Qa ?_;simp only[go_sem,aa,Qs,Dk _ _ aa,ev];refine hf _ _ _ (Jd aa) kn fun H2 hu=>?_;have kn:=kn.aI hu;refine Qc rfl ?_ ?_
   ·intro ao;refine Qa ?_;simp only[go_sem];refine Qg ?_;simp only[go_sem,X.next,Qq,Q1,Aa,Ja,forall_eq,RS.op];refine⟨_,.c _ _ (Qj rfl),hK _ _ kn.fin ?_⟩;have:l.any p=true:=Ju.2 ⟨_,Jd aa,ao⟩;rw[this];simp
   ·intro ao;refine Qd ?_;simp only[go_sem];refine Qn ?_;simp only[go_sem,X.next];refine⟨Ql,l.length-(i+1),by omega,i+1,rfl,by omega,kn,?_,rfl⟩;rw[Jb aa];intro x hx;rcases Jm.1 hx with hx|hx
    ·exact aD x hx
    ·simp only[Ja]at hx;subst hx;exact ao
  ·intro hc;have aC:l.length≤i:=by simpa using hc
   rw[Jc aC]at aD;refine Qr ?_;simp only[go_sem,X.next];refine Qa ?_;simp only[go_sem];refine Qg ?_;simp only[go_sem,Qq,Q1,Aa,Ja,forall_eq,RS.op];refine⟨_,.c _ _ (Qj rfl),hK _ _ kn.fin ?_⟩;have:l.any p=false:=by
    cases hc:l.any p with
    |false=>rfl
    |true=>obtain⟨x,hx,hp⟩:=Ju.1 hc;rw[aD x hx]at hp;exact absurd hp (by simp)
   rw[this];rfl
theorem Qaew {fl:Bool}{l:List (List UInt8)}{f:Nat}{caps:List C}{p:List UInt8→Bool}
  (hf:∀(x:List UInt8) (H1:Heap) (K':V→Heap→Prop),x∈l→Kn H H1 [] []→(∀H2,Upd H1 H2 []→K' (.c (.bool (p x))) H2)→Qi prog f ([.c (.str x)]++caps.map .c) H1 K')
  (hK:∀(H':Heap),Upd H H' []→K (.c (.bool (l.any p))) H') :
  Qi prog Tr [.c (.sl fl 1 (Q3 l)),.c (.fn f caps)] H K:=by
 refine Qb Ab Qse ?_;refine Qa ?_;simp only[go_sem];refine Qa ?_;simp only[go_sem];refine Qawg hf fun r H' hu hr=>?_;simp only[go_sem,Qe2];refine Qg ?_;simp only[go_sem,Qq,Q1,Aa,Ja,forall_eq,RS.op];rw[hr];exact hK _ hu
theorem Qb2c {s:List UInt8}(g:GK H)(hK:∀H',Upd H H' []→K (.c (.bool (!Aw s))) H'):Qi prog Ti [.c (.str s)] H K:=by
 refine Qb Ab Q53 ?_;refine Qa ?_;simp only[go_sem];refine Qa ?_;simp only[go_sem];refine Id g fun H1 hu=>?_;simp only[go_sem,Qiq];refine Qg ?_;simp only[go_sem,Qq,Q1,Ad,Ja,forall_eq,RS.op];exact hK _ hu
theorem Qajz {l:List Fn}{fl:Bool}(hf:A6 l≤2^40)(g:GK H)(hK:∀H',Upd H H' []→K (.c (.bool (B9 l))) H'):Qi prog SL [.ag [.sl fl 3 (Ae l)]] H K:=by
 refine A0 ?_;have g0:=g;refine Qb Ab Qafj ?_;have retf:∀(b:Bool) (e:Env) (H':Heap) (L:List (Nat×Obj)),B9 l=b→Kn H H' [] L→lk 2 e=.c (.bool b)→Qq Ad (unK H K) .ret e H':=by
  intro b e H' L hf kn h4;simp only[go_sem,Qq,Q1,Ad,Ja,forall_eq,RS.op,h4];refine⟨_,.c _ _ (Qj rfl),?_⟩;rw[←hf];exact hK _ kn.fin
 have kn:=Kn.aw H;refine Qa ?_;simp only[go_sem];refine Qp (Qa ?_);simp only[go_sem,Q8];intro hl;simp only[LIM]at hl;refine Rl ?_;simp only[go_sem,Qmy];have hw:(decide ((1:Int)≤(l.length:Int))&&decide ((l.length:Int)≤4))=decide (1≤l.length∧l.length≤4):=by rw[Jp];simp;omega
 rw[hw];refine Qe (Qc rfl ?_ ?_)
 ·intro hc;have hc:=Bm hc;refine Qa ?_;simp only[go_sem];refine Qg ?_;simp only[go_sem,AE.X.next];exact retf false _ _ _ (by rw[B9,hc];rfl) kn (by simp[lk])
 intro hc;have ai:=AK hc;refine Qd ?_;try simp only[go_sem]
 refine Qp (Qa ?_);simp only[go_sem,Q8];intro _;refine Qe (Qf (Qu (fun m e1 H1=>∃(i:Nat),m=l.length-i∧i≤l.length∧Kn H H1 [] []∧((l.take i).all Fn.form)=true∧
  e1=[(1,.c (.pp [.sl fl 3 (Ae l)])),(13,.c (.sl fl 3 (Ae l))),(14,.c (.int .i64 l.length)),(15,.c (.int .i64 i))]) l.length ?_ ?_))
 ·exact⟨0,by omega,by omega,kn,rfl,rfl⟩
 ·clear kn g;rintro m e1 H2 ⟨i,hm,hi,kn,aD,rfl⟩;have g:=g0.kn kn;refine Qa ?_;simp only[go_sem];refine Qe (Qc rfl ?_ ?_)
  ·intro hc;have aa:i<l.length:=by simpa using hc
   have eK:=Fz (Jd aa);obtain⟨f,dj⟩:∃f,l[i]=f:=⟨_,rfl⟩;rw[dj]at eK;refine Qd ?_;try simp only[go_sem]
   refine Qe (Qf ?_);refine Qa ?_;simp only[go_sem,aa,Q8,Cu _ _ aa,dj,Fn.cells];intro x4 dP H4 h4;have kn:=kn.al dP h4;have g4:=kn.l 0 rfl;simp only[go_sem,Qmz,g4];intro H5 h5;have kn:=kn.aT 0 rfl h5;have g:=g0.kn kn;have g4:=kn.l 0 rfl;have nx:∀(b:Bool) (H6:Heap) (L:List (Nat×Obj)),b = !f.form→Kn H H6 [] L→Ag prog Qot (X.inBlock 1 (X.sq prog Qou (X.next (fun e2 H2=>∃m_1,m_1<m∧∃i,m_1=l.length-i∧i≤l.length∧Kn H H2 [] []∧((l.take i).all Fn.form)=true∧
     e2=[(1,.c (.pp [.sl fl 3 (Ae l)])),(13,.c (.sl fl 3 (Ae l))),(14,.c (.int .i64 l.length)),(15,.c (.int .i64 i))]) (X.inBlock 0 (X.sq prog Qmx (Qq Ad (unK H K)))))))
     [(1,.c (.pp [.sl fl 3 (Ae l)])),(13,.c (.sl fl 3 (Ae l))),(14,.c (.int .i64 l.length)),(15,.c (.int .i64 i)),(39,.c (.bool b))] H6:=by
    intro b H6 L hb kn;refine Qc rfl (fun ao=>?_) (fun ao=>?_)
    ·rw[ao]at hb;refine Qa ?_;simp only[go_sem];refine Qg ?_;simp only[go_sem,AE.X.next];refine retf false _ _ _ ?_ kn (by simp[lk]);rw[B9,CF aa (by rw[dj];exact Bm hb.symm)];simp
    ·rw[ao]at hb;refine Qd ?_;try simp only[go_sem]
     refine Qn ?_;simp only[go_sem,AE.X.next];exact⟨Ql,l.length-(i+1),by omega,i+1,rfl,by omega,Kn.drop (A:=[]) kn,by rw[CG aa,aD,dj,AK hb.symm];rfl,rfl⟩
   refine Qa ?_;simp only[go_sem,g4];refine Id g fun H6 hu=>?_;have kn:=kn.aI hu;have g:=g0.kn kn;have g4:=kn.l 0 rfl
   cases h1:Aw f.name with
   |false=>
    simp only[go_sem,Re,LN,LO,g4,Qs];exact nx true _ _ (by rw[Fn.form,h1];simp) kn
   |true=>
    by_cases h2:3<f.params.length
    ·have cR:decide ((3:Int)<(f.params.length:Int))=true:=decide_eq_true (by omega);simp only[go_sem,Re,LN,LO,g4,cR,Qs];try intro _
     exact nx true _ _ (by rw[Fn.form,decide_eq_false (by omega:¬f.params.length≤3)];simp) kn
    ·have cR:decide ((3:Int)<(f.params.length:Int))=false:=decide_eq_false (by omega);simp only[go_sem,Re,g4,cR,Qs];try intro _
     refine Qaew (p:=fun s=>!Aw s) (fun s H7 K' hs kn2 cL=>Qb2c (g.kn kn2) cL) fun H7 hu=>?_;have kn:=kn.aI hu;have g:=g0.kn kn;have g4:=kn.l 0 rfl;have ea:(f.params.any fun s=>!Aw s) = !f.params.all Aw:=(by rw[List.all_eq_not_any_not];simp);rw[ea]
     cases h3:f.params.all Aw with
     |false=>
      simp only[go_sem,LN,LO,g4];exact nx true _ _ (by rw[Fn.form,h3];rfl) kn
     |true=>
      simp only[go_sem,LN,g4];refine Qb0i (Qh f.body) f.body 1 _ _ _ (Js _) (by omega) (by omega) (by omega) g fun H8 hu=>?_;have kn:=kn.aI hu;simp only[go_sem,LO];refine nx _ _ _ ?_ kn;rw[Fn.form,h1,h3,decide_eq_true (by omega:f.params.length≤3)];rfl
  ·intro hc;have aC:l.length≤i:=by simpa using hc
   rw[Jc aC]at aD;refine Qr ?_;simp only[go_sem,AE.X.next];refine Qa ?_;simp only[go_sem];refine Qbqy hf fun d H3 hu=>?_;have kn:=kn.aI hu;simp only[go_sem,Qlv,Ji,Jk];refine Qa ?_;simp only[go_sem];refine Qg ?_;refine retf _ _ _ _ ?_ kn rfl;rw[B9,ai,aD,Jg,Jg,decide_eq_decide];omega
structure ExVis {α:Type}(ob:α→List (Nat×Obj))(step:α→Ex→α)(ok:α→Prop)(f:Nat)(caps:List C):Prop where
 nm:∀a b,(ob a).map Prod.fst=(ob b).map Prod.fst
 nd:∀a,((ob a).map Prod.fst).Nodup
 ne:∀a,∀p∈ob a,p.2≠.none
 st:∀a s,ok a→ok (step a s)
 c:∀(a:α) (s:Ex) (H:Heap) (K:V→Heap→Prop),ok a→s.size≤2^40→(∀p∈ob a,H p.1=p.2)→(∀H',Upd H H' (ob (step a s))→K (.tup []) H')→Qi prog f ([.ag s.cells]++caps.map .c) H K
theorem K4 {α:Type}{step:α→Ex→α}{ok:α→Prop}(hs:∀a s,ok a→ok (step a s)):∀(l:List Ex) (a:α),ok a→ok (l.foldl step a)
 |[],_,h=>h
 |x::r,a,h=>K4 hs r _ (hs _ _ h)
theorem Pr {l:List Ex}{i:Nat}(h:i<l.length):Ap (l.take (i+1))=Ap (l.take i)++(l[i]).pre:=by
 rw[Jb h,OG];simp[Ap]
theorem Qbps {α:Type}{ob:α→List (Nat×Obj)}{step:α→Ex→α}{ok:α→Prop}{f:Nat}{caps:List C}(hv:ExVis ob step ok f caps) :
  ∀(n:Nat) (x:Ex) (a:α) (H:Heap) (K:V→Heap→Prop),x.size≤n→x.size≤2^40→ok a→(∀p∈ob a,H p.1=p.2)→(∀H',Upd H H' (ob (x.pre.foldl step a))→K (.tup []) H')→
   Qi prog Pp [.ag x.cells,.c (.fn f caps)] H K:=by
 intro n
 induction n with
 |zero=>intro x a H K h;have:=x.size_pos;omega
 |succ n ih=>
 intro x a H K hn hb ha hh hK;have be:=x.size_kids;refine A0 ?_;refine Qb Ab Qbl7 ?_;refine Qa ?_;simp only[go_sem,x.ab];refine Qa ?_;simp only[go_sem];have kn:Kn H H (ob a) []:=.startE (fun p hp=>⟨hh p hp,hv.ne a p hp⟩) (hv.nd a);have iM:=hv.c a x;rw[x.ab]at iM;refine iM _ _ ha hb hh fun H1 hu=>?_;have kn:=kn.callAll hu (hv.nm _ _) (hv.ne _);have eJ:=hv.st a x ha;simp only[go_sem];refine Qa ?_;simp only[go_sem,Qt];intro hl;simp only[LIM]at hl;refine Qf (Qu (fun m e1 H1=>∃(i:Nat),m=x.kids.length-i∧i≤x.kids.length∧Kn H H1 (ob ((Ap (x.kids.take i)).foldl step (step a x))) []∧
  e1=[(1,.c (.fn f caps)),(10,.c (.sl false 4 (Af x.kids))),(11,.c (.int .i64 x.kids.length)),(12,.c (.int .i64 i))]) x.kids.length ?_ ?_)
 ·exact⟨0,by omega,by omega,by simpa[Ap]using kn,rfl⟩
 ·clear kn;rintro m e1 H2 ⟨i,i8,hi,kn,rfl⟩;obtain⟨a1,jj⟩:∃a1,(Ap (x.kids.take i)).foldl step (step a x)=a1:=⟨_,rfl⟩;have dS:ok a1:=by rw[←jj];exact K4 hv.st _ _ eJ
  rw[jj]at kn;refine Qa ?_;simp only[go_sem];refine Qe (Qc rfl ?_ ?_)
  ·intro hc;have aa:i<x.kids.length:=by simpa using hc
   have eK:=B0 (Jd aa);obtain⟨y,hy⟩:∃y,x.kids[i]=y:=⟨_,rfl⟩;have aO:=Pr aa;rw[hy]at eK aO;refine Qd ?_;try simp only[go_sem]
   refine Qe (Qf ?_);refine Qa ?_;simp only[go_sem,aa,Qt,B7 _ _ aa,hy,y.ab];intro x5 cC H3 h3;have kn:=kn.al cC h3;have g5:=kn.l 0 rfl;simp only[go_sem,NG,g5];intro H4 h4;have kn:=kn.aT 0 rfl h4;have g5:=kn.l 0 rfl;refine Qn ?_;simp only[go_sem,g5];have i9:=fun K=>ih y a1 H4 K;rw[y.ab]at i9;refine i9 _ (by omega) (by omega) dS (fun p hp=>(kn.get p (Je _ hp)).1) fun H5 hu=>?_;have kn:=Kn.drop (A:=[]) (kn.callAll hu (hv.nm _ _) (hv.ne _));simp only[go_sem];refine Qn ?_;simp only[go_sem,AE.X.next];refine⟨Ql,x.kids.length-(i+1),by omega,i+1,rfl,by omega,?_,rfl⟩;rw[aO,List.foldl_append,jj];exact kn
  ·intro hc;have aC:x.kids.length≤i:=by simpa using hc
   rw[Jc aC]at jj;refine Qr ?_;simp only[go_sem,AE.X.next,Qq,Q1,Av];refine⟨.tup [],.tup _ _ rfl fun j x x' h=>by simp at h,hK _ ?_⟩;rw[x.pre_eq,Jah,jj];exact kn.fin
end Go.AE.Y
namespace Go.AE.Y
theorem VU (fns:List Fn)(k:Nat)(op:Int)(name:List UInt8)(args:List Ex)(s:Ck){b:List (List UInt8×Nat)}{r:Vars}(h:s.v=b::r):∃b',(stC fns k op name args s).v=b'::r:=by
 simp only[stC];split
 ·exact⟨(name,s.n)::b,by simp[A9,h]⟩
 ·split
  ·exact⟨b,h⟩
  ·exact⟨b,h⟩
theorem Ox {l:List St}{i:Nat}(fns:List Fn)(k:Nat)(h:i<l.length)(s:Ck):Ai fns k (l.take (i+1)) s=(l[i]).ck fns k (Ai fns k (l.take i) s):=by
 rw[Jb h,Qbs2];simp[Ai]
def nxN (nx:Nat→List Int)(b:Nat):List Nat:=(nx b).map Int.toNat
variable {g:Nat→List Nat}{xs:List Nat}{S S' S1:List Bool}{o o' o1:List Nat}
def cnt (S:List Bool):Nat:=S.count true
end Go.AE.Y
namespace Go.AE.Y
attribute [local instance] Classical.propDecidable
structure Flo where
 n:Nat
 nx:Nat→List Nat
 on:Nat→List Nat
 ins:Nat→List (Option Nat×List Nat)
 ph:Nat→List Nat
 ea:Nat→Nat→List Nat
abbrev RS':=Nat→Prop
variable {F:Flo}
def Flo.fits (F:Flo):Prop:=∀b,b<F.n→∀m∈F.nx b,m<F.n
end Go.AE.Y
namespace Go.AE.Y
attribute [local instance] Classical.propDecidable
mutual
def St.pre:St→List Ex
 |.mk _ _ args body els=>Ap args++BE body++BE els
def BE:List St→List Ex
 |[]=>[]
 |x::r=>x.pre++BE r
end
theorem St.pre_eq (x:St):x.pre=Ap x.args++BE x.body++BE x.els:=by cases x;simp only[St.pre,St.args,St.body,St.els]
theorem fst0_zero {a b:Int}:Ah a b=0↔a=0∧b=0:=by
 unfold Ah;split <;> omega
theorem Eo (a b c:Int):Ah (Ah a b) c=Ah a (Ah b c):=by
 unfold Ah;by_cases h:a=0 <;> simp[h]
theorem CV (a:Int):Ah a 0=a:=by unfold Ah;split <;> omega
theorem partsC_zero {fns:List Fn}{k:Nat}{v:Vars}{l:List Ex}{c:Int}:A5 fns k v l c=0↔c=0∧∀e∈l,AT fns k v e=0:=by
 induction l generalizing c with
 |nil=>simp[A5]
 |cons x r ih=>
  have:A5 fns k v (x::r) c=A5 fns k v r (Ah c (AT fns k v x)):=rfl;rw[this,ih,fst0_zero];simp only[Jh,forall_eq_or_imp,and_assoc]
def calC (fns:List Fn)(k:Nat)(p:Ex):Int:=match As (fns.take k) p.name with
 |none=>4
 |some j=>if ((fns[j]?.map fun f=>f.params.length).getD 0)=p.kids.length then 0 else 5
theorem Qbml {fns:List Fn}{k:Nat}{v:Vars}{p:Ex}(h:p.op=13):AT fns k v p=calC fns k p:=by
 rw[AT,if_neg (by omega),if_pos h];rfl
theorem VT {fns:List Fn}{k:Nat}{op:Int}{name:List UInt8}{args:List Ex}{s:Ck}(h:(stC fns k op name args s).c=0):s.c=0∧∀e∈Ap args,e.op=13→calC fns k e=0:=by
 have h2:A5 fns k s.v (Ap args) s.c=0:=by
  unfold stC at h;simp only at h;split at h
  ·exact (fst0_zero.1 h).1
  ·split at h
   ·exact (fst0_zero.1 h).1
   ·exact h
 obtain⟨h3,h4⟩:=partsC_zero.1 h2;exact⟨h3,fun e he ho=>by rw[←Qbml (v:=s.v) ho];exact h4 e he⟩
mutual
theorem St.ck_zero {fns:List Fn}{k:Nat}:∀(x:St) {s:Ck},(x.ck fns k s).c=0→s.c=0∧∀e∈x.pre,e.op=13→calC fns k e=0
 |.mk op name args body els,s,h=>by
  simp only[St.ck]at h;obtain⟨h1,h2⟩:=DV els h;obtain⟨h3,h4⟩:=DV body h1;obtain⟨h5,h6⟩:=VT h3;refine⟨h5,fun e he ho=>?_⟩;simp only[St.pre,Jm]at he;rcases he with (he|he)|he
  ·exact h6 e he ho
  ·exact h4 e he ho
  ·exact h2 e he ho
theorem DV {fns:List Fn}{k:Nat}:∀(l:List St) {s:Ck},(Ai fns k l s).c=0→s.c=0∧∀e∈BE l,e.op=13→calC fns k e=0
 |[],s,h=>⟨h,by simp[BE]⟩
 |x::r,s,h=>by
  simp only[Ai]at h;obtain⟨h1,h2⟩:=DV r h;obtain⟨h3,h4⟩:=St.ck_zero x h1;refine⟨h3,fun e he ho=>?_⟩;simp only[BE,Jm]at he;rcases he with he|he
  ·exact h4 e he ho
  ·exact h2 e he ho
end
theorem LJ {ps:List (List UInt8)}{s:Ck}(h:(AC ps s).c=0):s.c=0:=by
 induction ps generalizing s with
 |nil=>exact h
 |cons p r ih=>
  have:AC (p::r) s=AC r ⟨A9 s.v p s.n,Ah s.c (if AL s.v p then 2 else 0),s.n+1⟩:=rfl;rw[this]at h;exact (fst0_zero.1 (ih h)).1
theorem O9 {fns:List Fn}:∀(l:List Nat) (c:Int),l.foldl (fun c i=>Ah c (fnCk fns i).c) c=0↔c=0∧∀i∈l,(fnCk fns i).c=0
 |[],c=>by simp
 |x::r,c=>by
  rw[Jah,O9 r,fst0_zero];simp only[Jh,forall_eq_or_imp,and_assoc]
theorem KK {fns:List Fn}{k:Nat}:ckK fns k=0↔∀i,i<k→(fnCk fns i).c=0:=by
 rw[ckK,O9];simp
structure FineP (fns:List Fn):Prop where
 v:B9 fns=true
 c:∀k (h:k<fns.length),(Ai fns k fns[k].body (AC fns[k].params ⟨[[]],0,0⟩)).c=0
 ix:∀k (h:k<fns.length),As fns fns[k].name=some k
theorem fine_iff {fns:List Fn}:Bo fns=true↔FineP fns:=by
 rw[Bo,decide_eq_true_eq,Bf];constructor
 ·intro h;split at h
  ·rename_i hv
   rw[KK]at h;have h1:∀k (hk:k<fns.length),(if As fns fns[k].name=some k then (0:Int)else 2)=0∧(Ai fns k fns[k].body (AC fns[k].params ⟨[[]],if As fns fns[k].name=some k then 0 else 2,0⟩)).c=0:=fun k hk=>by
    have:=h k hk;rw[fnCk,Jt hk]at this;exact⟨LJ (DV _ this).1,this⟩
   have h2:∀k (hk:k<fns.length),As fns fns[k].name=some k:=fun k hk=>by
    have:=(h1 k hk).1;split at this
    ·assumption
    ·simp at this
   refine⟨hv,fun k hk=>?_,h2⟩;have:=(h1 k hk).2;rw[if_pos (h2 k hk)]at this;exact this
  ·simp at h
 ·intro h;rw[if_pos h.v,KK];intro k hk;rw[fnCk,Jt hk];simp only[];rw[if_pos (h.ix k hk)];exact h.c k hk
theorem FineP.len {fns:List Fn}(h:FineP fns):0<fns.length∧fns.length≤4:=by
 have:=h.v;simp only[B9,Jo,decide_eq_true_eq]at this;omega
theorem EG {l:List Fn}{s:List UInt8}{j:Nat}(h:As l s=some j):∃hj:j<l.length,l[j].name=s∧∀i (hi:i<j),l[i].name≠s:=by
 rw[As,List.findIdx?_eq_some_iff_getElem]at h;obtain⟨hj,h1,h2⟩:=h;exact⟨hj,by simpa using h1,fun i hi=>by simpa using h2 i hi⟩
theorem TY {l:List Fn}{s:List UInt8}{j:Nat}(hj:j<l.length)(h1:l[j].name=s)(h2:∀i (hi:i<j),l[i].name≠s):As l s=some j:=by
 rw[As,List.findIdx?_eq_some_iff_getElem];exact⟨hj,by simpa using h1,fun i hi=>by simpa using h2 i hi⟩
theorem FineP.inj {fns:List Fn}(h:FineP fns){i j:Nat}(hi:i<fns.length)(hj:j<fns.length)(he:fns[i].name=fns[j].name):i=j:=by
 have h1:=h.ix i hi;rw[he,h.ix j hj]at h1;exact (Jay h1).symm
theorem FineP.call {fns:List Fn}(h:FineP fns){k:Nat}(hk:k<fns.length){e:Ex}(he:e∈BE fns[k].body)(ho:e.op=13) :
  ∃j,∃hj:j<k,∃hl:j<fns.length,fns[j].name=e.name∧fns[j].params.length=e.kids.length:=by
 have:=(DV _ (h.c k hk)).2 e he ho;unfold calC at this
 cases hx:As (fns.take k) e.name with
 |none=>rw[hx]at this;simp at this
 |some j=>
  rw[hx]at this;obtain⟨hj,h1,_⟩:=EG hx;rw[Jv]at hj;have hl:j<fns.length:=by omega
  refine⟨j,by omega,hl,by simpa using h1,?_⟩;simp only[Jt hl,Jan,J3]at this;split at this
  ·assumption
  ·simp at this
end Go.AE.Y
namespace Go.AE.Y
theorem LI (fns:List Fn)(k:Nat)(v:Vars)(a:Int):∀(l:List Ex) (c:Int),A5 fns k v l (Ah a c)=Ah a (A5 fns k v l c)
 |[],c=>rfl
 |x::r,c=>by
  show A5 fns k v r (Ah (Ah a c) (AT fns k v x))=Ah a (A5 fns k v r (Ah c (AT fns k v x)));rw[Eo,LI fns k v a r]
theorem Qb10 (fns:List Fn)(k:Nat)(op:Int)(name:List UInt8)(args:List Ex)(a:Int)(s:Ck) :
  stC fns k op name args ⟨s.v,Ah a s.c,s.n⟩=⟨(stC fns k op name args s).v,Ah a (stC fns k op name args s).c,(stC fns k op name args s).n⟩:=by
 simp only[stC,LI];split
 ·simp only[Eo]
 ·split
  ·simp only[Eo]
  ·rfl
mutual
theorem St.ck_sh (fns:List Fn)(k:Nat)(a:Int):∀(x:St) (s:Ck),x.ck fns k ⟨s.v,Ah a s.c,s.n⟩=⟨(x.ck fns k s).v,Ah a (x.ck fns k s).c,(x.ck fns k s).n⟩
 |.mk op name args body els,s=>by
  simp only[St.ck,Qb10];have h1:=Ev fns k a body ⟨[]::(stC fns k op name args s).v,(stC fns k op name args s).c,(stC fns k op name args s).n⟩;simp only at h1;rw[h1];have h2:=Ev fns k a els ⟨[]::(stC fns k op name args s).v,(Ai fns k body ⟨[]::(stC fns k op name args s).v,(stC fns k op name args s).c,(stC fns k op name args s).n⟩).c,(Ai fns k body ⟨[]::(stC fns k op name args s).v,(stC fns k op name args s).c,(stC fns k op name args s).n⟩).n⟩;simp only at h2;rw[h2]
theorem Ev (fns:List Fn)(k:Nat)(a:Int):∀(l:List St) (s:Ck),Ai fns k l ⟨s.v,Ah a s.c,s.n⟩=⟨(Ai fns k l s).v,Ah a (Ai fns k l s).c,(Ai fns k l s).n⟩
 |[],s=>by simp only[Ai]
 |x::r,s=>by
  simp only[Ai];rw[St.ck_sh fns k a x s];exact Ev fns k a r (x.ck fns k s)
end
theorem IY (a:Int):∀(ps:List (List UInt8)) (s:Ck),AC ps ⟨s.v,Ah a s.c,s.n⟩=⟨(AC ps s).v,Ah a (AC ps s).c,(AC ps s).n⟩
 |[],s=>rfl
 |p::r,s=>by
  show AC r ⟨A9 s.v p s.n,Ah (Ah a s.c) (if AL s.v p then 2 else 0),s.n+1⟩=_;rw[Eo];exact IY a r ⟨A9 s.v p s.n,Ah s.c (if AL s.v p then 2 else 0),s.n+1⟩
theorem LK {ps:List (List UInt8)}{j:Nat}(h:j<ps.length)(s:Ck):AC (ps.take (j+1)) s =
  ⟨A9 (AC (ps.take j) s).v ps[j] (AC (ps.take j) s).n,Ah (AC (ps.take j) s).c (if AL (AC (ps.take j) s).v ps[j]then 2 else 0),(AC (ps.take j) s).n+1⟩:=by
 rw[Jb h];simp only[AC,List.foldl_append,Jah,List.foldl_nil];rfl
def ixC (fns:List Fn)(k:Nat)(name:List UInt8):Int:=if As fns name=some k then 0 else 2
theorem Va {fns:List Fn}{k:Nat}(h:k<fns.length)(a:Int) :
  (Ai fns k fns[k].body (AC fns[k].params ⟨[[]],Ah a (ixC fns k fns[k].name),0⟩)).c=Ah a (fnCk fns k).c:=by
 have h1:=IY a fns[k].params ⟨[[]],ixC fns k fns[k].name,0⟩;simp only at h1;rw[h1];have h2:=Ev fns k a fns[k].body (AC fns[k].params ⟨[[]],ixC fns k fns[k].name,0⟩);rw[h2,fnCk,Jt h];rfl
theorem Hu (fns:List Fn)(k:Nat):ckK fns (k+1)=Ah (ckK fns k) (fnCk fns k).c:=by
 rw[ckK,ckK,List.range_succ,List.foldl_append];rfl
theorem TZ {l:List Fn}{i:Nat}(h:i<l.length):∃j,As l l[i].name=some j∧j≤i:=by
 cases hx:As l l[i].name with
 |none=>
  rw[As,List.findIdx?_eq_none_iff]at hx;have:=hx l[i] (Jd h);simp at this
 |some j=>
  refine⟨j,rfl,?_⟩;obtain⟨hj,h1,h2⟩:=EG hx;rcases Jal i j with aa|aC
  ·exact absurd rfl (h2 i aa)
  ·exact aC
def vT:Vars→List (List UInt8×Nat×Nat)
 |[]=>[]
 |b::r=>b.map (fun p=>(p.1,p.2,r.length))++vT r
def row3 (x:List UInt8×Nat×Nat):List C:=[.str x.1,.int .i64 x.2.1,.int .i64 x.2.2]
def Aq (v:Vars):List (List C):=((vT v).map row3).reverse
theorem Pa (v:Vars):(Aq v).length=(vT v).length:=by simp[Aq]
theorem Ia (v:Vars):Aq ([]::v)=Aq v:=by simp[Aq,vT]
theorem FZ (s:List UInt8)(n:Nat)(b:List (List UInt8×Nat))(r:Vars):Aq (((s,n)::b)::r)=Aq (b::r)++[row3 (s,n,r.length)]:=by simp[Aq,vT]
theorem Qboj (b:List (List UInt8×Nat))(r:Vars):(Aq (b::r)).take (Aq r).length=Aq r:=by
 simp[Aq,vT]
theorem V9 (b:List (List UInt8×Nat))(r:Vars):(Aq r).length≤(Aq (b::r)).length:=by simp[Aq,vT]
theorem Ou (v:Vars){i:Nat}(h:i<(vT v).length):(Aq v).getD i []=row3 ((vT v)[(vT v).length-1-i]'(by omega)):=by
 have hi:i<(Aq v).length:=by rw[Pa];exact h
 rw[Jf,Jt hi,J3];simp[Aq]
theorem LP:∀(v:Vars),∀x∈vT v,x.2.2<v.length
 |[],x,h=>by simp[vT]at h
 |b::r,x,h=>by
  simp only[vT,Jm,Jj]at h;rcases h with ⟨p,_,rfl⟩|h
  ·simp
  ·have:=LP r x h;simp only[Jr];omega
theorem Qb0b (v:Vars)(s:List UInt8):v.find s=((vT v).find? fun x=>decide (x.1=s)).map fun x=>x.2.1:=by
 induction v with
 |nil=>rfl
 |cons b r ih=>
  have h1:Vars.find (b::r) s=((b.find? fun p=>decide (p.1=s)).map Prod.snd).or (Vars.find r s):=by
   rw[Vars.find,Vars.find,List.flatten_cons,List.find?_append];cases b.find? fun p=>decide (p.1=s) <;> rfl
  rw[h1,ih,vT,List.find?_append,List.find?_map];have h2:((fun x:List UInt8×Nat×Nat=>decide (x.1=s)) ∘ fun p:List UInt8×Nat=>(p.1,p.2,r.length))=fun p=>decide (p.1=s):=rfl;rw[h2];cases b.find? fun p=>decide (p.1=s) <;> rfl
theorem Qb2b (b:List (List UInt8×Nat))(r:Vars)(s:List UInt8):AL (b::r) s=(((vT (b::r)).find? fun x=>decide (x.1=s)).map fun x=>decide (x.2.2=r.length)).getD false:=by
 rw[vT,List.find?_append,List.find?_map];have h2:((fun x:List UInt8×Nat×Nat=>decide (x.1=s)) ∘ fun p:List UInt8×Nat=>(p.1,p.2,r.length))=fun p=>decide (p.1=s):=rfl;rw[h2,AL,Jai]
 cases hb:b.find? fun p=>decide (p.1=s)with
 |some p=>
  have h1:=List.find?_some hb;have h3:=List.mem_of_find?_eq_some hb;have:(b.any fun p=>decide (p.1=s))=true:=Ju.2 ⟨p,h3,h1⟩;rw[this];simp
 |none=>
  have:(b.any fun p=>decide (p.1=s))=false:=by
   rw[List.find?_eq_none]at hb;rw[List.any_eq_false];exact hb
  rw[this]
  cases hr:(vT r).find? fun x=>decide (x.1=s)with
  |none=>rfl
  |some x=>
   have:=LP r x (List.mem_of_find?_eq_some hr);have bm:¬x.2.2=r.length:=by omega
   simp[bm]
theorem Vd {α:Type}{l:List α}{p:α→Bool}{k:Nat}(hk:k<l.length)(h:p l[k]=true)(hn:∀x∈l.take k,¬p x=true):l.find? p=some l[k]:=by
 rw[List.find?_eq_some_iff_getElem];refine⟨h,k,hk,rfl,fun j hj=>?_⟩;have:=hn l[j] (by rw[List.mem_take_iff_getElem];exact⟨j,by omega,rfl⟩);simpa using this
theorem Qbpd (l:List Fn)(k:Nat)(s:List UInt8):As (l.take k) s=match As l s with
  |some j=>if j<k then some j else none
  |none=>none:=by
 cases h:As l s with
 |none=>
  rw[As,List.findIdx?_eq_none_iff]at h⊢;exact fun f hf=>h f (List.mem_of_mem_take hf)
 |some j=>
  obtain⟨hj,h1,h2⟩:=EG h;by_cases hk:j<k
  ·simp only[hk,if_true];exact TY (by rw[Jv];omega) (by rw[Jaq];exact h1) fun i hi=>by rw[Jaq];exact h2 i hi
  ·simp only[hk,if_false];rw[As,List.findIdx?_eq_none_iff];intro f hf;obtain⟨i,hi,rfl⟩:=List.mem_take_iff_getElem.1 hf;have:=h2 i (by omega);simpa using this
theorem Kp (fns:List Fn)(k:Nat)(v:Vars)(p:Ex):AT fns k v p =
  if p.op=2 then (if (v.find p.name).isSome then 0 else 3)
  else if p.op=13 then (match As fns p.name with
   |none=>4
   |some j=>if k≤j then 4 else if ((fns[j]?.map fun f=>f.params.length).getD 0)=p.kids.length then 0 else 5)
  else 0:=by
 rw[AT];split
 ·rfl
 ·split
  ·rw[Qbpd]
   cases h:As fns p.name with
   |none=>rfl
   |some j=>
    simp only[];by_cases hk:j<k
    ·have:¬k≤j:=(by omega);simp only[hk,if_true,this,if_false]
    ·have:k≤j:=(by omega);simp only[hk,if_false,this,if_true]
  ·rfl
theorem LQ (fns:List Fn)(k:Nat)(op:Int)(name:List UInt8)(args:List Ex)(s:Ck):s.n≤(stC fns k op name args s).n∧(stC fns k op name args s).n≤s.n+1:=by
 simp only[stC];split
 ·exact⟨by simp,by simp⟩
 ·split <;> exact⟨by simp,by simp⟩
mutual
theorem St.ck_n (fns:List Fn)(k:Nat):∀(x:St) (s:Ck),s.n≤(x.ck fns k s).n∧(x.ck fns k s).n≤s.n+x.size
 |.mk op name args body els,s=>by
  simp only[St.ck,St.size];have h1:=LQ fns k op name args s;have h2:=C5 fns k body ⟨[]::(stC fns k op name args s).v,(stC fns k op name args s).c,(stC fns k op name args s).n⟩;have h3:=C5 fns k els ⟨[]::(stC fns k op name args s).v,(Ai fns k body ⟨[]::(stC fns k op name args s).v,(stC fns k op name args s).c,(stC fns k op name args s).n⟩).c,(Ai fns k body ⟨[]::(stC fns k op name args s).v,(stC fns k op name args s).c,(stC fns k op name args s).n⟩).n⟩;simp only at h2 h3;omega
theorem C5 (fns:List Fn)(k:Nat):∀(l:List St) (s:Ck),s.n≤(Ai fns k l s).n∧(Ai fns k l s).n≤s.n+Qh l
 |[],s=>by simp[Ai]
 |x::r,s=>by
  simp only[Ai,Qh];have h1:=St.ck_n fns k x s;have h2:=C5 fns k r (x.ck fns k s);omega
end
theorem VV (fns:List Fn)(k:Nat)(op:Int)(name:List UInt8)(args:List Ex)(s:Ck){b:List (List UInt8×Nat)}{r:Vars}(hv:s.v=b::r)(h:(Aq (b::r)).length≤s.n):(Aq (stC fns k op name args s).v).length≤(stC fns k op name args s).n:=by
 simp only[stC];split
 ·simp only[A9,hv,Jai,List.tail_cons,FZ,List.length_append,List.length_singleton];omega
 ·split
  ·simp only[hv];exact h
  ·simp only[hv];exact h
theorem Y1 (fns:List Fn){i:Nat}{c:Int}(h:ckK fns i=c)(hc:c≠0):∀n,i≤n→ckK fns n=c:=by
 intro n hn
 induction n with
 |zero=>have:i=0:=by omega
        subst this;exact h
 |succ n ih=>
  rcases Jal i (n+1)with aa|aC
  ·rw[Hu,ih (by omega),Ah,if_neg hc]
  ·have:i=n+1:=by omega
   subst this;exact h
attribute [local instance] Classical.propDecidable
def ixI:Option Nat→Int
 |none=>-1
 |some j=>j
end Go.AE.Y
namespace Go.AE.Y
attribute [local go_sem] cond_true cond_false Bool.not_true Bool.not_false
open Go.Proofs.Tryz
variable {H H0:Heap}{K:V→Heap→Prop}{E E' L:List (Nat×Obj)}
theorem Kh {l:List Fn}{s:List UInt8}(h:∀f∈l,¬f.name=s):As l s=none:=by
 rw[As,List.findIdx?_eq_none_iff];exact fun f hf=>by simpa using h f hf
theorem Ki {l:List Fn}{s:List UInt8}{i:Nat}(hi:i<l.length)(h:l[i].name=s)(hn:∀f∈l.take i,¬f.name=s):As l s=some i:=by
 rw[As,List.findIdx?_eq_some_iff_getElem];refine⟨hi,by simpa using h,fun j hj=>?_⟩;have:=hn l[j] (by rw[List.mem_take_iff_getElem];exact⟨j,by omega,rfl⟩);simpa using this
theorem V7 {f:Fn}{s:List UInt8}(hK:K (.c (.bool (decide (f.name=s)))) H):Qi prog Iy [.ag f.cells,.c (.pp [.str s])] H K:=by
 refine Qb Ab Qbam ?_;refine Qa ?_;simp only[go_sem,Fn.cells];refine Qa ?_;simp only[go_sem];refine Qg ?_;simp only[go_sem,Qq,Q1,AO,Ja,forall_eq,RS.op];exact hK
theorem Qa4b {fl:Bool}{l:List Fn}{s:List UInt8}(hK:K (.c (.int .i64 (ixI (As l s)))) H) :
  Qi prog SI [.c (.sl fl 3 (Ae l)),.c (.fn Iy [.pp [.str s]])] H K:=by
 refine Qb Ab Qafo ?_;refine Qa ?_;simp only[go_sem];refine Qp (Qa ?_);simp only[go_sem,Q8];intro hl;simp only[LIM]at hl;refine Qe (Qf (Qu (fun m e1 H1=>∃(i:Nat),m=l.length-i∧i≤l.length∧H1=H∧(∀f∈l.take i,¬f.name=s)∧e1=[(0,.c (.sl fl 3 (Ae l))),(1,.c (.fn Iy [.pp [.str s]])),(7,.c (.int .i64 l.length)),(8,.c (.int .i64 i))]) l.length ?_ ?_))
 ·exact⟨0,by omega,by omega,rfl,by simp,rfl⟩
 ·rintro m e1 H1 ⟨i,hm,hi,rfl,aD,rfl⟩;refine Qa ?_;simp only[go_sem];refine Qe (Qc rfl ?_ ?_)
  ·intro hc;have aa:i<l.length:=by simpa using hc
   refine Qd ?_;simp only[go_sem];refine Qe (Qf ?_);refine Qa ?_;simp only[go_sem];refine Qa ?_;simp only[go_sem,aa,Q8,Cu _ _ aa,Fn.take3,Fn.aX,Fn.aj];refine V7 ?_;refine Qc rfl ?_ ?_
   ·intro ao;have hn:l[i].name=s:=(by simpa using ao);refine Qa ?_;simp only[go_sem];refine Qg ?_;simp only[go_sem,X.next,Qq,Q1,Aa,Ja,forall_eq,RS.op];rw[Ki aa hn aD]at hK;exact hK
   ·intro ao;have hn:¬l[i].name=s:=(by simpa using ao);refine Qd ?_;simp only[go_sem];refine Qn ?_;simp only[go_sem,X.next];refine⟨Ql,l.length-(i+1),by omega,i+1,rfl,by omega,?_,rfl⟩;rw[Jb aa];intro x hx;rcases Jm.1 hx with hx|hx
    ·exact aD x hx
    ·simp only[Ja]at hx;subst hx;exact hn
  ·intro hc;have aC:l.length≤i:=by simpa using hc
   rw[Jc aC]at aD;refine Qr ?_;simp only[go_sem,X.next];refine Qa ?_;simp only[go_sem];refine Qg ?_;simp only[go_sem,Qq,Q1,Aa,Ja,forall_eq,RS.op];rw[Kh aD]at hK;exact hK
theorem E3 {fl:Bool}{l:List Fn}{s:List UInt8}(hK:K (.c (.int .i64 (ixI (As l s)))) H):Qi prog HC [.ag [.sl fl 3 (Ae l)],.c (.str s)] H K:=by
 refine Qb Ab Qbqh ?_;refine Qa ?_;simp only[go_sem];refine Qa ?_;simp only[go_sem];refine Qa4b ?_;simp only[go_sem,N1];refine Qg ?_;simp only[go_sem,Qq,Q1,Aa,Ja,forall_eq,RS.op];exact hK
def scC:List Nat→C
 |[]=>.pnil
 |l::r=>.pp [.mp l,scC r]
structure MapOk (val:Nat→Int)(es:List (C×V))(b:List (List UInt8×Nat)):Prop where
 ky:∀e∈es,∃s,e.1=.str s
 fd:∀s,AI (.str s) es=(b.find? fun p=>decide (p.1=s)).map fun p=>V.c (.int .i64 (val p.2))
def ScOk (val:Nat→Int)(H:Heap):List Nat→Vars→Prop
 |[],[]=>True
 |l::ls,b::v=>(∃n es,H l=.map n es∧MapOk val es b)∧ScOk val H ls v
 |_,_=>False
theorem Qbok (b:List (List UInt8×Nat))(v:Vars)(s:List UInt8):Vars.find (b::v) s=((b.find? fun p=>decide (p.1=s)).map Prod.snd).or (Vars.find v s):=by
 rw[Vars.find,Vars.find,List.flatten_cons,List.find?_append];cases b.find? fun p=>decide (p.1=s) <;> rfl
def valO (val:Nat→Int):Option Nat→Int
 |none=>0
 |some n=>val n
theorem HW {val:Nat→Int}{ls:List Nat}{v:Vars}{s:List UInt8}(h:ScOk val H ls v)(hK:K (.tup [.c (.int .i64 (valO val (v.find s))),.c (.bool (v.find s).isSome)]) H) :
  Qi prog Fa [.c (scC ls),.c (.str s)] H K:=by
 refine Qb Ab Qapm ?_;have ret:∀(n:Int) (b:Bool) (e:Env),n=valO val (v.find s)→b=(v.find s).isSome→lk 4 e=.c (.int .i64 n)→lk 5 e=.c (.bool b)→Qq Se K .ret e H:=by
  rintro n b e rfl rfl h4 h5;simp only[go_sem,Qq,Q1,Se,Jy,Jx,RS.op,h4,h5];exact⟨fun _=>trivial,hK⟩
 refine Qa ?_;simp only[go_sem];refine Qe (Qf (Qu (fun m e1 H1=>∃(ls':List Nat) (v':Vars),m=ls'.length∧H1=H∧ScOk val H ls' v'∧v.find s=v'.find s∧e1=[(0,.c (scC ls')),(1,.c (.str s))]) ls.length ?_ ?_))
 ·exact⟨ls,v,rfl,rfl,h,rfl,rfl⟩
 ·rintro m e1 H1 ⟨ls',v',hm,rfl,hs,hf,rfl⟩;refine Qp (Qa ?_)
  cases ls' with
  |nil=>
   cases v' with
   |cons b v'=>exact hs.elim
   |nil=>
    simp only[go_sem,scC,C.isPtr,or_true,true_or,true_and];refine Qe (Qc rfl (fun h=>by cases h) (fun _=>?_));refine Qr ?_;simp only[go_sem,X.next];refine Qa ?_;simp only[go_sem];refine Qg ?_;exact ret 0 false _ (by rw[hf];rfl) (by rw[hf];rfl) (by simp[lk]) (by simp[lk])
  |cons l r=>
   cases v' with
   |nil=>exact hs.elim
   |cons b v'=>
    obtain⟨⟨n,es,hl,iu⟩,hs⟩:=hs;have qK:=iu.fd s;have iw:=eq_true iu.ky;rw[Qbok]at hf;simp only[go_sem,scC,C.isPtr,or_true,true_or,true_and];refine Qe (Qc rfl (fun _=>?_) (fun h=>by cases h));refine Qd ?_;simp only[go_sem];refine Qe (Qf ?_);refine Qa ?_;simp only[go_sem,C.isPtr,B4,Br,Q6,hl,qK,iw,Ji,Jk]
    cases hb:b.find? fun p=>decide (p.1=s)with
    |none=>
     rw[hb]at hf;simp only[Option.map_none,Jat,Option.isSome_none,go_sem];refine Qa ?_;simp only[go_sem];refine Qc rfl (fun h=>by cases h) (fun _=>?_);refine Qd ?_;try simp only[go_sem]
     refine Qn ?_;simp only[go_sem,X.next];have an:(scC r).ah=false:=(by cases r <;> rfl);refine⟨by rw[an];rfl,r.length,by rw[Jr]at hm;omega,r,v',rfl,hs,?_,rfl⟩;rw[hf];rfl
    |some x=>
     rw[hb]at hf;simp only[Jan,J3,Option.isSome_some,go_sem];refine Qa ?_;simp only[go_sem];refine Qc rfl (fun _=>?_) (fun h=>by cases h);refine Qa ?_;simp only[go_sem];refine Qg ?_;simp only[go_sem,X.next];exact ret (val x.2) true _ (by rw[hf];rfl) (by rw[hf];rfl) (by simp[lk]) (by simp[lk])
theorem C3 {c:Nat}{l at':C}{code n:Int}(hH:H c=.st [l,at',.int .i64 code])(hK:∀H',Upd H H' [(c,.st [l,at',.int .i64 (Ah code n)])]→K (.tup []) H') :
  Qi prog ER [.c (.ptr c 0),.c (.int .i64 n)] H K:=by
 refine Qb Ab Qafl ?_;have kn:=Kn.start1 hH (by nofun);refine Qa ?_;simp only[go_sem,hH];refine Qc rfl (fun hc=>?_) (fun hc=>?_)
 ·have h0:code=0:=by simpa using hc
  refine Qn ?_;simp only[go_sem,hH];intro H1 h1;have kn:=kn.stE 0 rfl h1;simp only[Qq,Q1,Av,go_sem];refine hK _ ⟨fun p hp=>?_,fun m h1 h2=>kn.chg m h1 h2⟩;rw[Ah,if_pos h0]at hp;exact (kn.get p (Je _ hp)).1
 ·have h0:¬code=0:=by simpa using hc
  refine Qd ?_;simp only[Qq,Q1,Av,go_sem];refine hK _ ⟨fun p hp=>?_,fun m h1 h2=>rfl⟩;rw[Ah,if_neg h0]at hp;simp only[Ja]at hp;rw[hp];exact hH
abbrev ScD:=List (Nat×Nat×List (C×V))
def ScD.ob (sc:ScD):List (Nat×Obj):=sc.map fun x=>(x.1,.map x.2.1 x.2.2)
def ScD.ls (sc:ScD):List Nat:=sc.map Prod.fst
def ScD.ok (val:Nat→Int):ScD→Vars→Prop
 |[],[]=>True
 |x::r,b::v=>MapOk val x.2.2 b∧ScD.ok val r v
 |_,_=>False
theorem ScD.scOk {val:Nat→Int}:∀{sc:ScD} {v:Vars},ScD.ok val sc v→(∀p∈sc.ob,H p.1=p.2)→ScOk val H sc.ls v
 |[],[],_,_=>trivial
 |[],_::_,h,_=>h.elim
 |_::_,[],h,_=>h.elim
 |x::r,b::v,h,hh=>⟨⟨x.2.1,x.2.2,hh (x.1,.map x.2.1 x.2.2) (by simp[ScD.ob]),h.1⟩,ScD.scOk h.2 fun p hp=>hh p (by simp only[ScD.ob,Jz,Jh]at hp⊢;exact .inr hp)⟩
def A4 (c:Nat)(fl:Bool)(l:List Fn)(k:Nat)(sc:ScD)(code:Int):List (Nat×Obj):=(c,.st [.sl fl 3 (Ae l),.int .i64 k,.int .i64 code])::sc.ob
theorem Ym {c:Nat}{fl:Bool}{l:List Fn}{k:Nat}{sc:ScD}{v:Vars}{val:Nat→Int}{code:Int}{p:Ex}(hk:k≤l.length)(hn:((c::sc.ls)).Nodup)(hs:ScD.ok val sc v)
  (hh:∀q∈A4 c fl l k sc code,H q.1=q.2) (hK:∀H',Upd H H' (A4 c fl l k sc (Ah code (AT l k v p)))→K (.tup []) H') :
  Qi prog Rg [.ag p.cells,.c (.pp [scC sc.ls]),.c (.pp [.ptr c 0])] H K:=by
 have cr:=ScD.scOk hs fun q hq=>hh q (Jl _ hq);have hc:H c=.st [.sl fl 3 (Ae l),.int .i64 k,.int .i64 code]:=hh (c,_) (by simp[A4]);have an:(scC sc.ls).ah=false:=by cases sc.ls <;> rfl
 have keep:∀H',Upd H H' [(c,.st [.sl fl 3 (Ae l),.int .i64 k,.int .i64 (Ah code (AT l k v p))])]→K (.tup []) H':=by
  intro H' hu;refine hK _ ⟨fun q hq=>?_,fun m h1 h2=>?_⟩
  ·rcases Jh.1 hq with rfl|hq
   ·exact hu.1 _ (by simp)
   ·have h1:=hh q (Jl _ hq);rw[hu.2 q.1 (by rw[h1];obtain⟨x,_,rfl⟩:=Jj.1 hq;nofun) ?_,h1];simp only[Jz,Jar,Ja];intro e;have hm:q.1∈sc.ls:=by
     obtain⟨x,hx,rfl⟩:=Jj.1 hq;exact Jj.2 ⟨x,hx,rfl⟩
    rw[e]at hm;exact (Jak.1 hn).1 hm
  ·refine hu.2 m h1 ?_;simp only[Jz,Jar,Ja];intro e;exact h2 (by rw[e];simp[A4])
 have same:AT l k v p=0→K (.tup []) H:=by
  intro h0;refine keep H ⟨fun q hq=>?_,fun m h1 h2=>rfl⟩;simp only[Ja]at hq;rw[hq,h0,hc,Ah];by_cases hz:code=0
  ·rw[if_pos hz,hz]
  ·rw[if_neg hz]
 refine Qb Ab Q54 ?_;refine Qa ?_;simp only[go_sem,p.ab];refine Qa ?_;simp only[go_sem,an];refine Qf (Qa ?_);simp only[go_sem,an];have done:∀(H':Heap) (e:Env),K (.tup []) H'→Qq Av K .nrm e H':=by
  intro H' e h;simp only[Qq,Q1,Av,go_sem];exact h
 refine Qc rfl ?_ ?_
 ·intro ao;have h2:p.op=2:=by simpa using ao
  have cM:AT l k v p=if (v.find p.name).isSome then 0 else 3:=by rw[AT,if_pos h2]
  refine Qa ?_;simp only[go_sem,an];refine HW cr ?_;simp only[go_sem,Qir,Ji,Jk];refine Qa ?_;simp only[go_sem];refine Qc rfl ?_ ?_
  ·intro b7;have hf:(v.find p.name).isSome=false:=by simpa using b7
   rw[hf]at cM;refine Qn ?_;simp only[go_sem];refine C3 hc fun H' hu=>?_;simp only[go_sem,X.next];rw[cM]at keep;exact done _ _ (keep _ hu)
  ·intro b7;have hf:(v.find p.name).isSome=true:=by simpa using b7
   rw[hf]at cM;refine Qd ?_;simp only[go_sem,X.next];exact done _ _ (same (by rw[cM];rfl))
 intro ao;have h2:¬p.op=2:=by simpa using ao
 refine Qa ?_;simp only[go_sem,an];refine Qc rfl ?_ ?_
 ·intro b7;have h3:p.op=13:=by simpa using b7
  refine Ak ?_;simp only[go_sem,hc,Q8];refine⟨⟨by omega,by omega⟩,?_⟩;have etk:List.take k (Ae l)=Ae (l.take k):=by simp only[Ae,List.map_take]
  rw[etk];refine E3 ?_;simp only[go_sem,Qis];refine Qa ?_;simp only[go_sem]
  cases hx:As (l.take k) p.name with
  |none=>
   have cM:AT l k v p=4:=by rw[AT,if_neg h2,if_pos h3,hx]
   rw[cM]at keep;refine Qc rfl (fun _=>?_) (fun h=>by simp[ixI]at h);refine Qn ?_;simp only[go_sem];refine C3 hc fun H' hu=>?_;simp only[go_sem,X.next];exact done _ _ (keep _ hu)
  |some j=>
   have hj:j<l.length:=by
    rw[As,List.findIdx?_eq_some_iff_getElem]at hx;obtain⟨h,_⟩:=hx;rw[Jv]at h;omega
   have cM:AT l k v p=if (l[j]).params.length=p.kids.length then 0 else 5:=by rw[AT,if_neg h2,if_pos h3,hx];simp[hj]
   refine Qc rfl (fun h=>by have:=of_decide_eq_true h;simp only[ixI]at this;omega) (fun _=>?_);refine Ak ?_;simp only[go_sem,hc,ixI,hj,Q8,Cu _ _ hj,Fn.cells,Qs,Qt];refine Qc rfl ?_ ?_
   ·intro bX;have bm:¬l[j].params.length=p.kids.length:=by
     have h:=Bm bX;rw[decide_eq_false_iff_not]at h;omega
    rw[if_neg bm]at cM;rw[cM]at keep;refine Qn ?_;simp only[go_sem];refine C3 hc fun H' hu=>?_;simp only[go_sem,X.next];exact done _ _ (keep _ hu)
   ·intro bX;have he:l[j].params.length=p.kids.length:=by
     have h:=AK bX;rw[decide_eq_true_eq]at h;omega
    rw[if_pos he]at cM;refine Qd ?_;simp only[go_sem,X.next];exact done _ _ (same cM)
 ·intro b7;have h3:¬p.op=13:=by simpa using b7
  refine Qd ?_;simp only[go_sem,X.next];exact done _ _ (same (by rw[AT,if_neg h2,if_neg h3]))
theorem Qb2f {c:Nat}{fl:Bool}{l:List Fn}{k:Nat}{sc:ScD}{v:Vars}{val:Nat→Int}(hk:k≤l.length)(hn:((c::sc.ls)).Nodup)(hs:ScD.ok val sc v) :
  ExVis (A4 c fl l k sc) (fun code p=>Ah code (AT l k v p)) (fun _=>True) Rg [.pp [scC sc.ls],.pp [.ptr c 0]]:=by
 refine⟨fun _ _=>rfl,fun a=>?_,fun a p hp=>?_,fun _ _ h=>h,fun a s H K _ _ hh hK=>Ym hk hn hs hh hK⟩
 ·have e:(A4 c fl l k sc a).map Prod.fst=c::sc.ls:=by simp only[A4,ScD.ob,ScD.ls,Jz,Jav];rfl
  rw[e];exact hn
 ·rcases Jh.1 hp with rfl|hp
  ·nofun
  ·obtain⟨x,_,rfl⟩:=Jj.1 hp;nofun
theorem Y2 {c:Nat}{fl:Bool}{l:List Fn}{k:Nat}{sc:ScD}{v:Vars}{val:Nat→Int}{code:Int}{x:Ex}(hk:k≤l.length)(hn:((c::sc.ls)).Nodup)(hs:ScD.ok val sc v)(hx:x.size≤2^40)
  (hh:∀q∈A4 c fl l k sc code,H q.1=q.2) (hK:∀H',Upd H H' (A4 c fl l k sc (A5 l k v x.pre code))→K (.tup []) H') :
  Qi prog SK [.c (.ptr c 0),.ag x.cells,.c (scC sc.ls)] H K:=by
 have an:(scC sc.ls).ah=false:=by cases sc.ls <;> rfl
 refine Qb Ab Qafk ?_;refine Qa ?_;simp only[go_sem,x.ab,an];refine Qn ?_;simp only[go_sem,an];have h:=fun K=>Qbps (Qb2f (fl:=fl) hk hn hs) x.size x code H K;rw[x.ab]at h;refine h _ (Js _) hx trivial hh fun H' hu=>?_;simp only[Qq,Q1,Av,go_sem];exact hK _ hu
end Go.AE.Y
namespace Go.AE.Y
theorem EH (s t:List UInt8)(v:V):∀(es:List (C×V)),(∀e∈es,∃s,e.1=.str s)→AI (.str t) (AG (.str s) v es)=if s=t then some v else AI (.str t) es
 |[],_=>by
  simp only[AG,AI,AM];by_cases h:s=t
  ·subst h;simp
  ·have h':¬t=s:=fun e=>h e.symm;simp[h,h']
 |e::es,hk=>by
  obtain⟨k,gY⟩:=hk e (by simp);obtain⟨e1,e2⟩:=e;simp only at gY;subst gY;have ih:=EH s t v es fun x hx=>hk x (Jl _ hx);simp only[AG,AM];by_cases h:s=k
  ·subst h;simp only[decide_true,if_true,AI,AM];by_cases h2:s=t
   ·subst h2;simp
   ·have h':¬t=s:=fun e=>h2 e.symm;simp[h2,h']
  ·simp only[h,decide_false,Bool.false_eq_true,if_false,AI,AM];rw[ih];by_cases h2:t=k
   ·subst h2;simp[h]
   ·simp[h2]
theorem E7 (s:List UInt8)(v:V):∀(es:List (C×V)),(∀e∈es,∃s,e.1=.str s)→∀e∈AG (.str s) v es,∃s,e.1=.str s
 |[],_,e,he=>by simp only[AG,Ja]at he;subst he;exact⟨s,rfl⟩
 |x::es,hk,e,he=>by
  simp only[AG]at he;split at he
  ·rcases Jh.1 he with rfl|he
   ·exact⟨s,rfl⟩
   ·exact hk e (Jl _ he)
  ·rcases Jh.1 he with rfl|he
   ·exact hk _ (by simp)
   ·exact E7 s v es (fun y hy=>hk y (Jl _ hy)) e he
theorem MapOk.put {val:Nat→Int}{es:List (C×V)}{b:List (List UInt8×Nat)}(h:MapOk val es b)(s:List UInt8)(n:Nat):MapOk val (AG (.str s) (.c (.int .i64 (val n))) es) ((s,n)::b):=by
 refine⟨E7 s _ es h.ky,fun t=>?_⟩;rw[EH s t _ es h.ky,List.find?_cons];by_cases e:s=t
 ·subst e;simp
 ·simp[e,h.fd t]
theorem MapOk.nil (val:Nat→Int):MapOk val [] []:=⟨by simp,fun s=>rfl⟩
attribute [local go_sem] cond_true cond_false Bool.not_true Bool.not_false
open Go.Proofs.Tryz
variable {H H0:Heap}{K:V→Heap→Prop}{E E' L:List (Nat×Obj)}
theorem Fl {sc:C}(an:sc.ah=false)(hK:∀lm n H',H lm=.none→H'=H.set lm (.map n [])→K (.c (.pp [.mp lm,sc])) H'):Qi prog CC [.c sc] H K:=by
 refine Qb Ab Qapn ?_;refine Qa ?_;simp only[go_sem];refine Qa ?_;simp only[go_sem];intro lm bS H1 h1;simp only[go_sem,Qqq,an];refine Qg ?_;simp only[go_sem,Qq,Q1,Ad,Ja,forall_eq,RS.op,an];exact hK lm _ H1 bS h1
theorem GB (fns:List Fn)(k:Nat)(v:Vars)(a b:List Ex)(c:Int):A5 fns k v (a++b) c=A5 fns k v b (A5 fns k v a c):=by rw[A5,List.foldl_append];rfl
theorem Kk (c:Nat)(fl:Bool)(l:List Fn)(k:Nat)(sc:ScD)(x y:Int):(A4 c fl l k sc x).map Prod.fst=(A4 c fl l k sc y).map Prod.fst:=rfl
theorem FX (c:Nat)(fl:Bool)(l:List Fn)(k:Nat)(sc:ScD)(x:Int):∀p∈A4 c fl l k sc x,p.2≠.none:=by
 intro p hp;rcases Jh.1 hp with rfl|hp
 ·nofun
 ·obtain⟨x,_,rfl⟩:=Jj.1 hp;nofun
theorem Y3 {c x7 N i:Nat}{fl f5:Bool}{l:List Fn}{k:Nat}{sc:ScD}{v:Vars}{val:Nat→Int}{code:Int}{x:St}{sts:List St}{L:List (Nat×Obj)}{Q:X→Env→Heap→Prop}
  (hk:k≤l.length) (hn:((c::sc.ls)).Nodup) (hs:ScD.ok val sc v) (hx:x.size≤2^40)
  (kn:Kn H0 H (A4 c fl l k sc code) [(x7,.st [.int .i64 x.op,.str x.name,.sl false 4 (Af x.args),.sl false 5 (Qv x.body),.sl false 5 (Qv x.els)])])
  (hQ:∀H',Kn H0 H' (A4 c fl l k sc (A5 l k v (Ap x.args) code)) [(x7,.st [.int .i64 x.op,.str x.name,.sl false 4 (Af x.args),.sl false 5 (Qv x.body),.sl false 5 (Qv x.els)])]→
   ∀e',lk 0 e'=.c (.ptr c 0)→lk 2 e'=.c (scC sc.ls)→lk 7 e'=.c (.ptr x7 0)→lk 14 e'=.c (.sl f5 5 (Qv sts))→lk 15 e'=.c (.int .i64 N)→lk 16 e'=.c (.int .i64 i)→Ag prog Tf Q e' H') :
  Ag prog Qlw Q [(0,.c (.ptr c 0)),(2,.c (scC sc.ls)),(7,.c (.ptr x7 0)),(14,.c (.sl f5 5 (Qv sts))),(15,.c (.int .i64 N)),(16,.c (.int .i64 i))] H:=by
 have an:(scC sc.ls).ah=false:=by cases sc.ls <;> rfl
 have jR:=x.size_eq;have g7:=kn.l 0 rfl;refine Qp (Qa ?_);simp only[go_sem,g7,an,Qt];intro hl;simp only[LIM]at hl;refine Qe (Qf (Qu (fun m e1 H1=>∃(j:Nat),m=x.args.length-j∧j≤x.args.length∧Kn H0 H1 (A4 c fl l k sc (A5 l k v (Ap (x.args.take j)) code)) [(x7,.st [.int .i64 x.op,.str x.name,.sl false 4 (Af x.args),.sl false 5 (Qv x.body),.sl false 5 (Qv x.els)])]∧
  e1=[(0,.c (.ptr c 0)),(2,.c (scC sc.ls)),(7,.c (.ptr x7 0)),(14,.c (.sl f5 5 (Qv sts))),(15,.c (.int .i64 N)),(16,.c (.int .i64 i)),(21,.c (.sl false 4 (Af x.args))),(22,.c (.int .i64 x.args.length)),(23,.c (.int .i64 j))]) x.args.length ?_ ?_))
 ·exact⟨0,by omega,by omega,by simpa[Ap,A5]using kn,rfl⟩
 ·clear kn;rintro m e1 H1 ⟨j,hm,hj,kn,rfl⟩;refine Qa ?_;simp only[go_sem,an];refine Qe (Qc rfl ?_ ?_)
  ·intro hc;have aa:j<x.args.length:=by simpa using hc
   have eK:=B0 (Jd aa);obtain⟨y,hy⟩:∃y,x.args[j]=y:=⟨_,rfl⟩;have aO:=Pr aa;rw[hy]at eK aO;refine Qd ?_;try simp only[go_sem]
   refine Qe (Qf ?_);refine Qa ?_;simp only[go_sem,an,aa,Qt,B7 _ _ aa,hy,y.ab];intro x9 mQ H3 h3;have kn:=kn.al mQ h3;have g9:=kn.l 1 rfl;simp only[go_sem,Qlz,g9,an];intro H4 h4;have kn:=kn.aT 1 rfl h4;have g9:=kn.l 1 rfl;refine Qn ?_;simp only[go_sem,g9,an];have h:=fun K=>Y2 (H:=H4) (K:=K) (fl:=fl) (x:=y) (code:=A5 l k v (Ap (x.args.take j)) code) hk hn hs (by omega) (fun p hp=>(kn.get p (Je _ hp)).1);rw[y.ab]at h;refine h _ fun H5 hu=>?_;have kn:=Kn.drop (A:=[(x7,_)]) (kn.callAll hu (Kk _ _ _ _ _ _ _) (FX _ _ _ _ _ _));simp only[go_sem,an];refine Qn ?_;simp only[go_sem,AE.X.next,an];refine⟨Ql,x.args.length-(j+1),by omega,j+1,rfl,by omega,?_,rfl⟩;rw[aO,GB];exact kn
  ·intro hc;have aC:x.args.length≤j:=by simpa using hc
   rw[Jc aC]at kn;refine Qr ?_;simp only[go_sem,AE.X.next];exact hQ _ kn _ rfl rfl rfl rfl rfl rfl
def Bn (op:Int)(name:List UInt8)(x:Nat×Nat×List (C×V)):Nat×Nat×List (C×V):=if op=1 then (x.1,x.2.1+1,AG (.str name) (.c (.int .i64 0)) x.2.2)else x
def opC (v:Vars)(op:Int)(name:List UInt8)(c:Int):Int:=if op=1 then Ah c (if AL v name then 2 else 0)else if op=2 then Ah c (if (v.find name).isSome then 0 else 3)else c
theorem EQ (c:Int):Ah c 0=c:=by rw[Ah];split <;> simp_all
theorem Ky {val:Nat→Int}{es:List (C×V)}{b:List (List UInt8×Nat)}(h:MapOk val es b)(r:Vars)(s:List UInt8):(AI (.str s) es).isSome=AL (b::r) s:=by
 rw[h.fd s,AL,Option.isSome_map,Jai,Jp,List.find?_isSome,Ju]
theorem Ht (c:Nat)(fl:Bool)(l:List Fn)(k:Nat)(sc:ScD)(x:Int):(A4 c fl l k sc x).map Prod.fst=c::sc.ls:=by simp only[A4,ScD.ob,ScD.ls,Jz,Jav];rfl
theorem IE (l:List Fn)(k:Nat)(op:Int)(name:List UInt8)(args:List Ex)(s:Ck):(stC l k op name args s).c=opC s.v op name (A5 l k s.v (Ap args) s.c):=by
 simp only[stC,opC];split
 ·rfl
 ·split <;> rfl
theorem Xn {es:List (C×V)}{b:List (List UInt8×Nat)}{r:Vars}(h:MapOk (fun _=>0) es b)(l:List Fn)(k:Nat)(op:Int)(name:List UInt8)(args:List Ex)(s:Ck)(hv:s.v=b::r)(l0 n0:Nat) :
  ∃b',(stC l k op name args s).v=b'::r∧MapOk (fun _=>0) (Bn op name (l0,n0,es)).2.2 b':=by
 simp only[stC,Bn];split
 ·exact⟨(name,s.n)::b,by simp[A9,hv],h.put name s.n⟩
 ·split
  ·exact⟨b,hv,h⟩
  ·exact⟨b,hv,h⟩
theorem YC (op:Int)(name:List UInt8)(l0 n0:Nat)(es:List (C×V)):(Bn op name (l0,n0,es)).2.2.length≤es.length+1:=by
 have hu:∀(es:List (C×V)),(AG (.str name) (.c (.int .i64 0)) es).length≤es.length+1:=by
  intro es
  induction es with
  |nil=>simp[AG]
  |cons e es ih=>
   simp only[AG];split
   ·simp
   ·simp only[Jr];omega
 simp only[Bn];split
 ·exact hu es
 ·exact Nat.le_succ _
abbrev stO (x:St):Obj:=.st [.int .i64 x.op,.str x.name,.sl false 4 (Af x.args),.sl false 5 (Qv x.body),.sl false 5 (Qv x.els)]
theorem VG {c x7 N i l0 n0:Nat}{fl f5:Bool}{l:List Fn}{k:Nat}{es0:List (C×V)}{rest:ScD}{b:List (List UInt8×Nat)}{r:Vars}{code:Int}{x:St}{sts:List St}{Q:X→Env→Heap→Prop}{e:Env}
  (hn:(c::l0::rest.ls).Nodup) (hs:ScD.ok (fun _=>0) ((l0,n0,es0)::rest) (b::r)) (ai:es0.length+1≤LIM)
  (kn:Kn H0 H (A4 c fl l k ((l0,n0,es0)::rest) code) [(x7,stO x)])
  (f0:lk 0 e=.c (.ptr c 0)) (f2:lk 2 e=.c (scC (l0::rest.ls))) (f7:lk 7 e=.c (.ptr x7 0)) (f14:lk 14 e=.c (.sl f5 5 (Qv sts))) (f15:lk 15 e=.c (.int .i64 N)) (f16:lk 16 e=.c (.int .i64 i))
  (hQ:∀H',Kn H0 H' (A4 c fl l k (Bn x.op x.name (l0,n0,es0)::rest) (opC (b::r) x.op x.name code)) [(x7,stO x)]→
   ∀e',lk 0 e'=.c (.ptr c 0)→lk 2 e'=.c (scC (l0::rest.ls))→lk 7 e'=.c (.ptr x7 0)→lk 14 e'=.c (.sl f5 5 (Qv sts))→lk 15 e'=.c (.int .i64 N)→lk 16 e'=.c (.int .i64 i)→Ag prog Tg Q e' H') :
  Ag prog Tf Q e H:=by
 have an:(scC (l0::rest.ls)).ah=false:=rfl;have gL:(scC rest.ls).ah=false:=by cases rest.ls <;> rfl
 have hm:=hs.1;have iw:=eq_true hm.ky;have hv:(AI (.str x.name) es0).getD (.c (.int .i64 0))=.c (.int .i64 0):=by
  rw[hm.fd];cases b.find? fun p=>decide (p.1=x.name) <;> rfl
 have cI:=Ky hm r x.name;have g7:=kn.l 0 rfl;have gc:=kn.e 0 rfl;have g1:=kn.e 1 rfl;refine Qp (Qa ?_);simp only[go_sem,f0,f2,f7,f14,f15,f16,g7,an];refine Qe (Qf ?_);refine Qa ?_;simp only[go_sem,an];refine Qc rfl ?_ ?_
 ·intro hc;have h1:x.op=1:=by simpa using hc
  have eT:Bn x.op x.name (l0,n0,es0)=(l0,n0+1,AG (.str x.name) (.c (.int .i64 0)) es0):=by simp only[Bn,if_pos h1]
  have eC:opC (b::r) x.op x.name code=Ah code (if AL (b::r) x.name then 2 else 0):=by simp only[opC,if_pos h1]
  rw[eT,eC]at hQ;have tail:∀(H1:Heap) (e1:Env),Kn H0 H1 (A4 c fl l k ((l0,n0,es0)::rest) (Ah code (if AL (b::r) x.name then 2 else 0))) [(x7,stO x)]→
    lk 0 e1=.c (.ptr c 0)→lk 2 e1=.c (.pp [.mp l0,scC rest.ls])→lk 7 e1=.c (.ptr x7 0)→lk 14 e1=.c (.sl f5 5 (Qv sts))→lk 15 e1=.c (.int .i64 N)→lk 16 e1=.c (.int .i64 i)→
    Ag prog Qm0 (X.inBlock 4 (X.sq prog Tg Q)) e1 H1:=by
   intro H1 e1 kn a0 a2 a7 a14 a15 a16;have g7:=kn.l 0 rfl;have g1:=kn.e 1 rfl;refine CE ?_;simp only[go_sem,a0,a2,a7,a14,a15,a16,g7,g1,Br,iw,gL];refine⟨by omega,?_⟩;intro H2 h2;have kn:Kn H0 H2 (A4 c fl l k ((l0,n0+1,AG (.str x.name) (.c (.int .i64 0)) es0)::rest) (Ah code (if AL (b::r) x.name then 2 else 0))) [(x7,stO x)]:=kn.stE 1 rfl h2;try simp only[go_sem,X.next,gL]
   exact hQ _ kn _ rfl rfl rfl rfl rfl rfl
  refine Qp (Ak ?_);simp only[go_sem,scC,g7,g1,B4,Br,Q6,iw,hv,cI,gL,Ji,Jk];refine Qe (Qa ?_);simp only[go_sem,gL];refine Qc rfl ?_ ?_
  ·intro ao;have hi:AL (b::r) x.name=true:=by simpa using ao
   rw[hi]at tail;refine Qn ?_;simp only[go_sem,gL];refine C3 gc fun H2 hu=>?_;have kn:=kn.fU 0 rfl hu (by nofun);simp only[go_sem,X.next,gL];exact tail _ _ kn rfl rfl rfl rfl rfl rfl
  ·intro ao;have hi:AL (b::r) x.name=false:=by simpa using ao
   rw[hi]at tail;refine Qd ?_;simp only[go_sem,X.next,gL];refine tail _ _ ?_ rfl rfl rfl rfl rfl rfl;have:Ah code (if false=true then 2 else 0)=code:=EQ code;rw[this];exact kn
 intro hc;have h1:¬x.op=1:=by simpa using hc
 have eT:Bn x.op x.name (l0,n0,es0)=(l0,n0,es0):=by simp only[Bn,if_neg h1]
 rw[eT]at hQ;refine Qa ?_;simp only[go_sem,an];refine Qc rfl ?_ ?_
 ·intro ao;have h2:x.op=2:=by simpa using ao
  have eC:opC (b::r) x.op x.name code=Ah code (if (Vars.find (b::r) x.name).isSome then 0 else 3):=by simp only[opC,if_neg h1,if_pos h2]
  rw[eC]at hQ;refine Qa ?_;simp only[go_sem,g7,an];refine HW (ScD.scOk hs fun q hq=>(kn.get q (Je _ (Jl _ hq))).1) ?_;simp only[go_sem,Ql0,Ji,Jk,an];refine Qa ?_;simp only[go_sem,an];refine Qc rfl ?_ ?_
  ·intro b7;have hf:(Vars.find (b::r) x.name).isSome=false:=by simpa using b7
   rw[hf]at hQ;refine Qn ?_;simp only[go_sem,an];refine C3 gc fun H2 hu=>?_;have kn:=kn.fU 0 rfl hu (by nofun);simp only[go_sem,X.next,an];exact hQ _ kn _ rfl rfl rfl rfl rfl rfl
  ·intro b7;have hf:(Vars.find (b::r) x.name).isSome=true:=by simpa using b7
   rw[hf]at hQ;refine Qd ?_;simp only[go_sem,X.next,an];refine hQ _ ?_ _ rfl rfl rfl rfl rfl rfl;have:Ah code (if true=true then 0 else 3)=code:=EQ code;rw[this];exact kn
 ·intro ao;have h2:¬x.op=2:=by simpa using ao
  have eC:opC (b::r) x.op x.name code=code:=by simp only[opC,if_neg h1,if_neg h2]
  rw[eC]at hQ;refine Qd ?_;simp only[go_sem,X.next,an];exact hQ _ kn _ rfl rfl rfl rfl rfl rfl
theorem IJ {c lm n1 n2:Nat}{es1 es2:List (C×V)}{fl:Bool}{l:List Fn}{k:Nat}{sc:ScD}{x y:Int}{p:Nat×Obj}{H':Heap}
  (kn:Kn H0 H (A4 c fl l k sc x) [p,(lm,.map n1 es1)]) (hu:Upd H H' (A4 c fl l k ((lm,n2,es2)::sc) y)):Kn H0 H' (A4 c fl l k sc y) [p]:=by
 refine Kn.drop (A:=[p]) (B:=[(lm,.map n2 es2)]) ?_;have bS:lm∉(A4 c fl l k sc x).map Prod.fst:=fun h=>by
  obtain⟨q,hq,e⟩:=Jj.1 h;exact kn.ext q hq (by rw[e];exact kn.free 1 rfl)
 have hp:p.1≠lm:=kn.neL 0 1 (l:=p.1) (o:=p.2) rfl rfl (by omega);have oD:p.1∉(A4 c fl l k sc x).map Prod.fst:=fun h=>by
  obtain⟨q,hq,e⟩:=Jj.1 h;exact kn.ext q hq (by rw[e];exact kn.loc p (by simp))
 refine kn.callg (E2:=A4 c fl l k sc y) (L2:=[p,(lm,.map n2 es2)]) hu (Kk _ _ _ _ _ _ _) rfl (fun q hq=>?_) (fun u hu=>?_)
 ·rcases Jm.1 hq with hq|hq
  ·refine⟨FX _ _ _ _ _ _ q hq,.inl ?_⟩;rcases Jh.1 hq with rfl|hq
   ·exact Jaa
   ·exact Jl _ (Jl _ hq)
  ·rcases Jh.1 hq with rfl|hq
   ·refine⟨(kn.get q (by simp)).2,.inr ⟨by simp,?_⟩⟩;rw[Ht]at oD⊢;simp only[ScD.ls,Jz,Jh,not_or]at oD⊢;exact⟨oD.1,hp,oD.2⟩
   ·simp only[Ja]at hq;subst hq;exact⟨by nofun,.inl (Jl _ Jaa)⟩
 ·rcases Jh.1 hu with rfl|hu
  ·exact .inl Jaa
  ·rcases Jh.1 hu with rfl|hu
   ·exact .inr (by simp)
   ·exact .inl (Jl _ (List.mem_map_of_mem (f:=Prod.fst) hu))
theorem IQ {c lm n1:Nat}{fl:Bool}{l:List Fn}{k:Nat}{sc:ScD}{x:Int}{p:Nat×Obj}
  (kn:Kn H0 H (A4 c fl l k sc x) [p,(lm,.map n1 [])]):∀q∈A4 c fl l k ((lm,n1,[])::sc) x,H q.1=q.2:=by
 intro q hq;rcases Jh.1 hq with rfl|hq
 ·exact kn.e 0 rfl
 ·rcases Jh.1 hq with rfl|hq
  ·exact kn.l 1 rfl
  ·exact (kn.get q (Je _ (Jl _ hq))).1
theorem IP {c lm n1:Nat}{fl:Bool}{l:List Fn}{k:Nat}{sc:ScD}{x:Int}{p:Nat×Obj}
  (kn:Kn H0 H (A4 c fl l k sc x) [p,(lm,.map n1 [])]):(c::lm::sc.ls).Nodup:=by
 have bS:lm∉(A4 c fl l k sc x).map Prod.fst:=fun h=>by
  obtain⟨q,hq,e⟩:=Jj.1 h;exact kn.ext q hq (by rw[e];exact kn.free 1 rfl)
 have hd:=kn.dE;rw[Ht]at hd bS;simp only[Jak,Jh,not_or]at hd bS⊢;exact⟨⟨fun e=>bS.1 e.symm,hd.1⟩,bS.2,hd.2⟩
theorem VS {x:St}{d:Int}(h:x.form d=true):AD x.body (d-1)=true∧AD x.els (d-1)=true∧(¬(x.op=5∨x.op=6)→x.body=[]∧x.els=[]):=by
 rw[x.form_eq,BX]at h;simp only[Jo,Jag,decide_eq_true_eq]at h;obtain⟨⟨⟨_,⟨⟨_,h5⟩,h6⟩⟩,hb⟩,he⟩:=h;refine⟨hb,he,fun hn=>⟨List.eq_nil_of_length_eq_zero ?_,List.eq_nil_of_length_eq_zero ?_⟩⟩
 ·rcases h6 with h6|h6
  ·exact (hn h6).elim
  ·exact h6
 ·rcases h5 with h5|h5
  ·exact (hn (.inl h5)).elim
  ·exact h5
theorem Qboy {c:Nat}{fl:Bool}{l:List Fn}{k:Nat}(hk:k≤l.length):∀(n:Nat) (sts:List St) (d:Int) (f5:Bool) (l0 n0:Nat) (es0:List (C×V)) (rest:ScD) (b:List (List UInt8×Nat)) (r:Vars) (s:Ck) (H:Heap) (K:V→Heap→Prop),
  Qh sts≤n→Qh sts≤2^38→AD sts d=true→(c::l0::rest.ls).Nodup→s.v=b::r→ScD.ok (fun _=>0) ((l0,n0,es0)::rest) (b::r)→es0.length+sts.length≤LIM→
  (∀q∈A4 c fl l k ((l0,n0,es0)::rest) s.c,H q.1=q.2)→
  (∀H' n' es' b',(Ai l k sts s).v=b'::r→MapOk (fun _=>0) es' b'→Upd H H' (A4 c fl l k ((l0,n',es')::rest) (Ai l k sts s).c)→K (.tup []) H')→
  Qi prog IC [.c (.ptr c 0),.c (.sl f5 5 (Qv sts)),.c (scC (l0::rest.ls))] H K:=by
 intro n
 induction n using Nat.strongRecOn with
 |_ n ih=>
 intro sts d f5 l0 n0 es0 rest b r s H K hn hb hf cf pw cr a9 hh hK;have an:(scC (l0::rest.ls)).ah=false:=rfl;rw[GY,Jae]at hf;refine A0 ?_;refine Qb Ab Qacg ?_;refine Qa ?_;simp only[go_sem,an,Q7];intro hl;simp only[LIM]at hl a9;have kn:Kn H H (A4 c fl l k ((l0,n0,es0)::rest) s.c) []:=.startE (fun p hp=>⟨hh p hp,FX _ _ _ _ _ _ p hp⟩) (by rw[Ht];exact cf);refine Qf (Qu (fun m e1 H1=>∃(i n':Nat) (es':List (C×V)) (bi:List (List UInt8×Nat)),m=sts.length-i∧i≤sts.length∧(Ai l k (sts.take i) s).v=bi::r∧MapOk (fun _=>0) es' bi∧es'.length≤es0.length+i∧
  Kn H H1 (A4 c fl l k ((l0,n',es')::rest) (Ai l k (sts.take i) s).c) []∧
  e1=[(0,.c (.ptr c 0)),(2,.c (scC (l0::rest.ls))),(14,.c (.sl f5 5 (Qv sts))),(15,.c (.int .i64 sts.length)),(16,.c (.int .i64 i))]) sts.length ?_ ?_)
 ·exact⟨0,n0,es0,b,by omega,by omega,by simpa[Ai]using pw,cr.1,by omega,by simpa[Ai]using kn,rfl⟩
 ·clear kn;rintro m e1 H1 ⟨i,n',es',bi,hm,hi,jN,lw,hei,kn,rfl⟩;obtain⟨si,jp⟩:∃si,Ai l k (sts.take i) s=si:=⟨_,rfl⟩;rw[jp]at jN kn;refine Qa ?_;simp only[go_sem,an];refine Qe (Qc rfl ?_ ?_)
  ·intro hc;have aa:i<sts.length:=by simpa using hc
   have eK:=Cv (Jd aa);obtain⟨x,hx⟩:∃x,sts[i]=x:=⟨_,rfl⟩;have aO:=Ox l k aa s;have gm:=hf sts[i] (Jd aa);rw[hx]at eK gm;rw[jp,hx]at aO;have jR:=x.size_eq;have i3:=HJ x.body;have dB:=HJ x.els;obtain⟨fb,fe,fn⟩:=VS gm;have nt:ScD.ok (fun _=>0) ((l0,n',es')::rest) (bi::r):=⟨lw,cr.2⟩;refine Qd ?_;try simp only[go_sem]
   refine Qe (Qf ?_);refine Qa ?_;simp only[go_sem,an,aa,Q7,Ct _ _ aa,hx,x.ab];intro x7 dY H3 h3;have kn:=kn.al dY h3;have g7:=kn.l 0 rfl;simp only[go_sem,Qly,g7,an];intro H4 h4;have kn:Kn H H4 (A4 c fl l k ((l0,n',es')::rest) si.c) [(x7,stO x)]:=kn.aT 0 rfl h4;clear g7;refine Y3 (L:=[]) (sc:=(l0,n',es')::rest) (v:=bi::r) hk cf nt (by omega) kn (fun H5 kn e5 f0 f2 f7 f14 f15 f16=>?_);clear h4 h3;refine VG cf nt (by simp only[LIM];omega) kn f0 f2 f7 f14 f15 f16 (fun H6 kn e6 f0 f2 f7 f14 f15 f16=>?_);obtain⟨b1,dQ,i8⟩:=Xn lw l k x.op x.name x.args si jN l0 n';have nL:=YC x.op x.name l0 n' es';have bE:=IE l k x.op x.name x.args si;rw[jN]at bE;rw[←bE]at kn;obtain⟨es1,n1,ht⟩:∃es1 n1,Bn x.op x.name (l0,n',es')=(l0,n1,es1):=by
    simp only[Bn];split <;> exact⟨_,_,rfl⟩
   rw[ht]at kn i8 nL;simp only at nL;have cO:=x.ck_eq l k si;obtain⟨s1,eH⟩:∃s1,stC l k x.op x.name x.args si=s1:=⟨_,rfl⟩;rw[eH]at kn dQ cO;rw[dQ]at cO;have nu:ScD.ok (fun _=>0) ((l0,n1,es1)::rest) (b1::r):=⟨i8,cr.2⟩;have g7:=kn.l 0 rfl;have fin:∀(H':Heap) (e':Env),Kn H H' (A4 c fl l k ((l0,n1,es1)::rest) (x.ck l k si).c) []→lk 0 e'=.c (.ptr c 0)→lk 2 e'=.c (scC (l0::rest.ls))→lk 14 e'=.c (.sl f5 5 (Qv sts))→lk 15 e'=.c (.int .i64 sts.length)→lk 16 e'=.c (.int .i64 i)→
     Ag prog Qlx (X.next (fun e2 H2=>∃m',m'<m∧∃(i n':Nat) (es':List (C×V)) (bi:List (List UInt8×Nat)),m'=sts.length-i∧i≤sts.length∧(Ai l k (sts.take i) s).v=bi::r∧MapOk (fun _=>0) es' bi∧es'.length≤es0.length+i∧
      Kn H H2 (A4 c fl l k ((l0,n',es')::rest) (Ai l k (sts.take i) s).c) []∧
      e2=[(0,.c (.ptr c 0)),(2,.c (scC (l0::rest.ls))),(14,.c (.sl f5 5 (Qv sts))),(15,.c (.int .i64 sts.length)),(16,.c (.int .i64 i))]) (X.inBlock 0 (Qq Av (unK H K)))) e' H':=by
    intro H' e' kn f0 f2 f14 f15 f16;refine Qn ?_;simp only[go_sem,f0,f2,f14,f15,f16,an,AE.X.next];refine⟨Ql,sts.length-(i+1),by omega,i+1,n1,es1,b1,rfl,by omega,?_,i8,by omega,?_,rfl⟩
    ·rw[aO,cO]
    ·rw[aO];exact kn
   refine Qa ?_;simp only[go_sem,f0,f2,f7,f14,f15,f16,g7,an];refine Qc rfl ?_ ?_
   ·intro ao;refine Ak ?_;simp only[go_sem,f0,f2,f7,f14,f15,f16,g7,an];refine Fl an (fun lm nn H7 bS h7=>?_);have kn:=kn.al bS h7;have g7:=kn.l 0 rfl;simp only[go_sem,Qjq,g7,an];have i9:=ih (Qh x.body) (by omega) x.body (d-1) false lm nn [] ((l0,n1,es1)::rest) [] (b1::r) ⟨[]::b1::r,s1.c,s1.n⟩ H7;refine i9 _ (Js _) (by omega) fb (IP kn) rfl ⟨.nil _,nu⟩ (by simp only[J9,LIM];omega) (IQ kn) (fun H8 n8 es8 b8 _ _ hu=>?_);have kn:=IJ kn hu;have g7:=kn.l 0 rfl;simp only[go_sem,an];refine CE ?_;simp only[go_sem,g7,an];refine Fl an (fun lm nn H9 bS h9=>?_);have kn:=kn.al bS h9;have g7:=kn.l 0 rfl;simp only[go_sem,Qjr,g7,an];obtain⟨s2,i6⟩:∃s2,Ai l k x.body ⟨[]::b1::r,s1.c,s1.n⟩=s2:=⟨_,rfl⟩;rw[i6]at kn cO;have i9:=ih (Qh x.els) (by omega) x.els (d-1) false lm nn [] ((l0,n1,es1)::rest) [] (b1::r) ⟨[]::b1::r,s2.c,s2.n⟩ H9;refine i9 _ (Js _) (by omega) fe (IP kn) rfl ⟨.nil _,nu⟩ (by simp only[J9,LIM];omega) (IQ kn) (fun H10 n10 es10 b10 _ _ hu=>?_);have kn:=Kn.drop (A:=[]) (IJ kn hu);simp only[go_sem,AE.X.next,an];refine fin _ _ ?_ rfl rfl rfl rfl rfl;rw[cO];exact kn
   ·intro ao;have bg:¬(x.op=5∨x.op=6):=by
     intro h;rcases h with h|h <;> simp[h]at ao
    obtain⟨eb,ee⟩:=fn bg;rw[eb,ee]at cO;simp only[Ai]at cO;refine Qd ?_;simp only[go_sem,AE.X.next,an];refine fin _ _ ?_ rfl rfl rfl rfl rfl;rw[cO];exact Kn.drop (A:=[]) kn
  ·intro hc;have aC:sts.length≤i:=by simpa using hc
   rw[Jc aC]at jp;refine Qr ?_;simp only[go_sem,AE.X.next,Qq,Q1,Av];refine⟨.tup [],.tup _ _ rfl fun j x x' h=>by simp at h,hK _ n' es' bi (by rw[jp];exact jN) lw ?_⟩;rw[jp];exact kn.fin
abbrev fnO (f:Fn):Obj:=.st [.str f.name,.sl false 1 (Q3 f.params),.sl false 5 (Qv f.body)]
abbrev ckO (fl:Bool)(l:List Fn)(k:Int)(code:Int):Obj:=.st [.sl fl 3 (Ae l),.int .i64 k,.int .i64 code]
theorem HZ (s:List UInt8)(v:V):∀(es:List (C×V)),(AG (.str s) v es).length≤es.length+1
 |[]=>by simp[AG]
 |e::es=>by
  have:=HZ s v es;simp only[AG];split
  ·simp
  ·simp only[Jr];omega
theorem Qb0k {c x5 N i:Nat}{fl:Bool}{l:List Fn}{a:Int}{e:Env}{Q:X→Env→Heap→Prop}(hi:i<l.length)(hf:l[i].form=true)(hs:Qh l[i].body≤2^38)
  (kn:Kn H0 H [] [(c,ckO fl l i a),(x5,fnO l[i])])
  (f1:lk 1 e=.c (.pp [.sl fl 3 (Ae l)])) (f3:lk 3 e=.c (.ptr c 0)) (f4:lk 4 e=.c (.int .i64 i)) (f5:lk 5 e=.c (.ptr x5 0)) (f18:lk 18 e=.c (.sl fl 3 (Ae l))) (f19:lk 19 e=.c (.int .i64 N)) (f20:lk 20 e=.c (.int .i64 i))
  (hQ:∀H',Kn H0 H' [] [(c,ckO fl l i (Ah a (fnCk l i).c))]→∀e',lk 1 e'=.c (.pp [.sl fl 3 (Ae l)])→lk 3 e'=.c (.ptr c 0)→lk 18 e'=.c (.sl fl 3 (Ae l))→lk 19 e'=.c (.int .i64 N)→lk 20 e'=.c (.int .i64 i)→Q .nrm e' H') :
  Ag prog Qmr Q e H:=by
 rw[←Va hi a]at hQ;obtain⟨f,dj⟩:∃f,l[i]=f:=⟨_,rfl⟩;obtain⟨j0,lD,rZ⟩:=TZ hi;rw[dj]at hf hs hQ kn lD;have g5:=kn.l 1 rfl;have hfp:f.params.length≤3∧AD f.body 4=true:=by
  rw[Fn.form]at hf;simp only[Jo,decide_eq_true_eq]at hf;exact⟨hf.1.2,hf.2⟩
 have two:∀(H1:Heap) (e1:Env),Kn H0 H1 [] [(c,ckO fl l i (Ah a (ixC l i f.name))),(x5,fnO f)]→lk 1 e1=.c (.pp [.sl fl 3 (Ae l)])→lk 3 e1=.c (.ptr c 0)→lk 5 e1=.c (.ptr x5 0)→lk 18 e1=.c (.sl fl 3 (Ae l))→lk 19 e1=.c (.int .i64 N)→lk 20 e1=.c (.int .i64 i)→
   Ag prog Qmq Q e1 H1:=by
  intro H1 e1 kn f1 f3 f5 f18 f19 f20;refine Qa ?_;simp only[go_sem,f1,f3,f5,f18,f19,f20];refine Fl (sc:=.pnil) rfl (fun lm nn H2 bS h2=>?_);have kn:=kn.al bS h2;have g5:=kn.l 1 rfl;simp only[go_sem,Qmw,f1,f3,f5,f18,f19,f20];refine Qp (Qa ?_);simp only[go_sem,g5,Qs];intro hl;simp only[LIM]at hl;obtain⟨s0,i7⟩:∃s0:Ck,(⟨[[]],Ah a (ixC l i f.name),0⟩:Ck)=s0:=⟨_,rfl⟩;have kL:s0.v=[[]]:=by rw[←i7]
  have kM:Ah a (ixC l i f.name)=s0.c:=by rw[←i7]
  rw[i7]at hQ;rw[kM]at kn;refine Qe (Qf (Qu (fun m e2 H3=>∃(j n':Nat) (es':List (C×V)) (bj:List (List UInt8×Nat)),m=f.params.length-j∧j≤f.params.length∧(AC (f.params.take j) s0).v=[bj]∧MapOk (fun _=>0) es' bj∧es'.length≤j∧
   Kn H0 H3 [] [(c,ckO fl l i (AC (f.params.take j) s0).c),(x5,fnO f),(lm,.map n' es')]∧
   e2=[(1,.c (.pp [.sl fl 3 (Ae l)])),(3,.c (.ptr c 0)),(5,.c (.ptr x5 0)),(6,.c (.pp [.mp lm,.pnil])),(18,.c (.sl fl 3 (Ae l))),(19,.c (.int .i64 N)),(20,.c (.int .i64 i)),(39,.c (.sl false 1 (Q3 f.params))),(40,.c (.int .i64 f.params.length)),(41,.c (.int .i64 j))]) f.params.length ?_ ?_))
  ·exact⟨0,nn,[],[],by omega,by omega,kL,.nil _,by simp,kn,rfl⟩
  ·clear kn;rintro m e2 H3 ⟨j,n',es',bj,hm,hj,jM,nE,hej,kn,rfl⟩;obtain⟨sj,j4⟩:∃sj,AC (f.params.take j) s0=sj:=⟨_,rfl⟩;rw[j4]at jM kn;refine Qa ?_;simp only[go_sem];refine Qe (Qc rfl ?_ ?_)
   ·intro hc;have aa:j<f.params.length:=(by simpa using hc);obtain⟨p,hp⟩:∃p,f.params[j]=p:=⟨_,rfl⟩;have pO:f.params.getD j []=p:=(by simp[Jf,aa,hp]);have aO:=LK aa s0;rw[j4,hp]at aO;have iw:=eq_true nE.ky;have hv:(AI (.str p) es').getD (.c (.int .i64 0))=.c (.int .i64 0):=by
     rw[nE.fd];cases bj.find? fun q=>decide (q.1=p) <;> rfl
    have cI:=Ky nE [] p;have gl:=kn.l 2 rfl;have gc:=kn.l 0 rfl;refine Qd ?_;try simp only[go_sem]
    refine Qe (Qf ?_);refine Qa ?_;simp only[go_sem,aa,Qs,Dk _ _ aa,pO];have tail:∀(H4:Heap) (e3:Env),Kn H0 H4 [] [(c,ckO fl l i (Ah sj.c (if AL [bj] p then 2 else 0))),(x5,fnO f),(lm,.map n' es')]→
      lk 1 e3=.c (.pp [.sl fl 3 (Ae l)])→lk 3 e3=.c (.ptr c 0)→lk 5 e3=.c (.ptr x5 0)→lk 6 e3=.c (.pp [.mp lm,.pnil])→lk 8 e3=.c (.str p)→lk 18 e3=.c (.sl fl 3 (Ae l))→lk 19 e3=.c (.int .i64 N)→lk 20 e3=.c (.int .i64 i)→
      lk 39 e3=.c (.sl false 1 (Q3 f.params))→lk 40 e3=.c (.int .i64 f.params.length)→lk 41 e3=.c (.int .i64 j)→
      Ag prog Qos (X.inBlock 3 (X.sq prog Qmo (X.next (fun e2 H3=>∃m',m'<m∧∃(j n':Nat) (es':List (C×V)) (bj:List (List UInt8×Nat)),m'=f.params.length-j∧j≤f.params.length∧(AC (f.params.take j) s0).v=[bj]∧MapOk (fun _=>0) es' bj∧es'.length≤j∧
       Kn H0 H3 [] [(c,ckO fl l i (AC (f.params.take j) s0).c),(x5,fnO f),(lm,.map n' es')]∧
       e2=[(1,.c (.pp [.sl fl 3 (Ae l)])),(3,.c (.ptr c 0)),(5,.c (.ptr x5 0)),(6,.c (.pp [.mp lm,.pnil])),(18,.c (.sl fl 3 (Ae l))),(19,.c (.int .i64 N)),(20,.c (.int .i64 i)),(39,.c (.sl false 1 (Q3 f.params))),(40,.c (.int .i64 f.params.length)),(41,.c (.int .i64 j))]) (X.inBlock 2 (X.sq prog Qmp Q))))) e3 H4:=by
     intro H4 e3 kn f1 f3 f5 f6 f8 f18 f19 f20 f39 f40 f41;have gl:=kn.l 2 rfl;refine Qn ?_;simp only[go_sem,f1,f3,f5,f6,f8,f18,f19,f20,f39,f40,f41,gl,Br,iw];refine⟨by simp only[LIM];omega,?_⟩;intro H5 h5;have kn:=kn.aT 2 rfl h5;try simp only[go_sem,AE.X.next]
     refine Qn ?_;simp only[go_sem,AE.X.next];have lA:=HZ p (.c (.int .i64 0)) es';refine⟨Ql,f.params.length-(j+1),by omega,j+1,n'+1,AG (.str p) (.c (.int .i64 0)) es',(p,sj.n)::bj,rfl,by omega,?_,nE.put p sj.n,by omega,?_,rfl⟩
     ·rw[aO];simp[A9,jM]
     ·rw[aO,jM];exact kn
    refine Qp (Qa ?_);simp only[go_sem,gl,B4,Br,Q6,iw,hv,cI,Ji,Jk];refine Qe (Qa ?_);simp only[go_sem];refine Qc rfl ?_ ?_
    ·intro ao;have jt:AL [bj] p=true:=(by simpa using ao);rw[jt]at tail;refine Qn ?_;simp only[go_sem];refine C3 gc fun H6 hu=>?_;have kn:=kn.callL 0 rfl hu (by nofun);simp only[go_sem,AE.X.next];exact tail _ _ kn rfl rfl rfl rfl rfl rfl rfl rfl rfl rfl rfl
    ·intro ao;have jt:AL [bj] p=false:=(by simpa using ao);rw[jt]at tail;refine Qd ?_;simp only[go_sem,AE.X.next];refine tail _ _ ?_ rfl rfl rfl rfl rfl rfl rfl rfl rfl rfl rfl;have:Ah sj.c (if false=true then 2 else 0)=sj.c:=EQ sj.c;rw[this];exact kn
   ·intro hc;have aC:f.params.length≤j:=(by simpa using hc);rw[Jc aC]at j4;rw[j4]at hQ;have g5:=kn.l 1 rfl;refine Qr ?_;simp only[go_sem,AE.X.next];refine Qn ?_;simp only[go_sem,g5];have knp:Kn H0 H3 [] [(c,ckO fl l i sj.c),(lm,.map n' es'),(x5,fnO f)]:=kn.perm (.cons _ (.swap _ _ _));have hb:=Qboy (c:=c) (fl:=fl) (l:=l) (k:=i) (by omega) (Qh f.body) f.body 4 false lm n' es' [] bj [] sj H3;refine hb _ (Js _) hs hfp.2 ?_ jM ⟨nE,trivial⟩ ?_ ?_ (fun H6 n6 es6 b6 hv6 qk hu=>?_)
    ·have:=knp.dL;simp only[Jz,Jar,Jak,Jh,Jx,or_false,not_or]at this⊢;exact⟨⟨this.1.1,by simp[ScD.ls]⟩,by simp[ScD.ls],by simp[ScD.ls]⟩
    ·have:=HJ f.body;simp only[LIM];omega
    ·intro q hq;rcases Jh.1 hq with rfl|hq
     ·exact knp.l 0 rfl
     ·rcases Jh.1 hq with rfl|hq
      ·exact knp.l 1 rfl
      ·exact absurd hq (by simp[ScD.ob])
    ·have kn:=Kn.drop (A:=[(c,ckO fl l i (Ai l i f.body sj).c)]) (Kn.callLs (L:=[(c,ckO fl l i sj.c),(lm,.map n' es')]) (L':=[(c,ckO fl l i (Ai l i f.body sj).c),(lm,.map n6 es6)]) (M:=[(x5,fnO f)]) knp hu rfl (by
      intro p hp;simp only[Jh,Jx,or_false]at hp;rcases hp with rfl|rfl <;> nofun))
     simp only[go_sem];exact hQ _ kn _ rfl rfl rfl rfl rfl
 have aa:decide (ixI (As l f.name)<(i:Int)) = !decide (As l f.name=some i):=by
  rw[lD];simp only[ixI,Jax];by_cases h:j0=i
  ·simp[h]
  ·have:(j0:Int)<i:=by omega
   simp[h,this]
 refine Qp (Qa ?_);simp only[go_sem,f1,f3,f4,f5,f18,f19,f20,g5];refine E3 ?_;simp only[go_sem,Qmv,f1,f3,f4,f5,f18,f19,f20,aa];refine Qe (Qc rfl ?_ ?_)
 ·intro hc;have bm:¬As l f.name=some i:=by simpa using hc
  rw[ixC,if_neg bm]at two;refine Qn ?_;simp only[go_sem];refine C3 (kn.l 0 rfl) fun H6 hu=>?_;have kn:=kn.callL 0 rfl hu (by nofun);simp only[go_sem,AE.X.next];exact two _ _ kn rfl rfl rfl rfl rfl rfl
 ·intro hc;have fj:As l f.name=some i:=by simpa using hc
  rw[ixC,if_pos fj,EQ]at two;refine Qd ?_;simp only[go_sem,AE.X.next];exact two _ _ kn rfl rfl rfl rfl rfl rfl
theorem Qbpq {l:List Fn}{fl:Bool}(hf:A6 l≤2^38)(g:GK H)(hK:∀H',Upd H H' []→K (.c (.int .i64 (Bf l))) H'):Qi prog SM [.ag [.sl fl 3 (Ae l)]] H K:=by
 refine A0 ?_;refine Qb Ab Qafi ?_;have retf:∀(b:Int) (e:Env) (H':Heap) (L:List (Nat×Obj)),Bf l=b→Kn H H' [] L→lk 2 e=.c (.int .i64 b)→Qq Ad (unK H K) .ret e H':=by
  intro b e H' L hf kn h4;simp only[go_sem,Qq,Q1,Ad,Ja,forall_eq,RS.op,h4];refine⟨_,.c _ _ (Qj rfl),?_⟩;rw[←hf];exact hK _ kn.fin
 have kn:=Kn.aw H;refine Qa ?_;simp only[go_sem];refine Qp (Qa ?_);simp only[go_sem];refine Qajz (by omega) g fun H1 hu=>?_;have kn:=kn.aI hu;simp only[go_sem,Qms];refine Qe (Qc rfl ?_ ?_)
 ·intro hc;have hb:B9 l=false:=by simpa using hc
  refine Qa ?_;simp only[go_sem];refine Qg ?_;simp only[go_sem,AE.X.next];exact retf 1 _ _ _ (by rw[Bf,hb];rfl) kn rfl
 intro hc;have hb:B9 l=true:=by simpa using hc
 have cM:Bf l=ckK l l.length:=by rw[Bf,if_pos hb]
 have hv:=hb;simp only[B9,Jo,decide_eq_true_eq,Jae]at hv;refine Qd ?_;try simp only[go_sem]
 refine Qa ?_;simp only[go_sem];intro c cg H2 h2;have kn:=kn.al cg h2;simp only[go_sem,Qmt];refine Qp (Qa ?_);simp only[go_sem,Q8];intro hl;simp only[LIM]at hl;refine Qe (Qf (Qu (fun m e1 H1=>∃(i:Nat) (at_:Int),m=l.length-i∧i≤l.length∧Kn H H1 [] [(c,ckO fl l at_ (ckK l i))]∧
  e1=[(1,.c (.pp [.sl fl 3 (Ae l)])),(3,.c (.ptr c 0)),(18,.c (.sl fl 3 (Ae l))),(19,.c (.int .i64 l.length)),(20,.c (.int .i64 i))]) l.length ?_ ?_))
 ·exact⟨0,0,by omega,by omega,kn,rfl⟩
 ·clear kn;rintro m e1 H3 ⟨i,at_,hm,hi,kn,rfl⟩;refine Qa ?_;simp only[go_sem];refine Qe (Qc rfl ?_ ?_)
  ·intro hc;have aa:i<l.length:=by simpa using hc
   have eK:=Fz (Jd aa);have jG:=hv.1.2 _ (Jd aa);have nr:=Hu l i;refine Qd ?_;try simp only[go_sem]
   refine Qe (Qf ?_);refine Qa ?_;simp only[go_sem,aa,Q8,Cu _ _ aa,Fn.cells];intro x5 cC H4 h4;have kn:=kn.al cC h4;have g5:=kn.l 1 rfl;simp only[go_sem,Qmu,g5];intro H5 h5;have kn:=kn.aT 1 rfl h5;have gc:=kn.l 0 rfl;refine Qa ?_;simp only[go_sem,gc];intro H6 h6;have kn:Kn H H6 [] [(c,ckO fl l i (ckK l i)),(x5,fnO l[i])]:=kn.aT 0 rfl h6;refine Qb0k aa jG (by omega) kn rfl rfl rfl rfl rfl rfl rfl (fun H7 kn e7 f1 f3 f18 f19 f20=>?_);simp only[go_sem,AE.X.next];refine Qn ?_;simp only[go_sem,AE.X.next,f1,f3,f18,f19,f20];refine⟨Ql,l.length-(i+1),by omega,i+1,i,rfl,by omega,?_,rfl⟩;rw[nr];exact kn
  ·intro hc;have aC:l.length≤i:=by simpa using hc
   have gQ:i=l.length:=by omega
   subst gQ;have gc:=kn.l 0 rfl;refine Qr ?_;simp only[go_sem,AE.X.next];refine Qa ?_;simp only[go_sem,gc];refine Qg ?_;exact retf _ _ _ _ cM kn rfl
theorem Kz {l:List Fn}{fl:Bool}(hf:A6 l≤2^38)(g:GK H)(hK:∀H',Upd H H' []→K (.c (.bool (Bo l))) H'):Qi prog GP [.ag [.sl fl 3 (Ae l)]] H K:=by
 refine Qb Ab Qbqi ?_;refine Qa ?_;simp only[go_sem];refine Qa ?_;simp only[go_sem];refine Qbpq hf g fun H1 hu=>?_;simp only[go_sem,N0];refine Qg ?_;simp only[go_sem,Qq,Q1,Ad,Ja,forall_eq,RS.op];exact hK _ hu
end Go.AE.Y
namespace Go.AE
variable {H0 H H' F:Heap}{E L B A M:List (Nat×Obj)}{sz:Nat}{rows:List (List C)}{c:C}{Lg:List (Nat×Obj)}
def Gp (Lg:List (Nat×Obj))(sz:Nat)(rows:List (List C))(c:C):Prop:=
 (c=.sl true sz []∧rows=[]∧Lg=[])∨∃y R,c=.aG y sz 0 rows.length∧Lg=[(y,.vec sz R)]∧R.take rows.length=rows
theorem Gp.nil (sz:Nat):Gp [] sz [] (.sl true sz []):=.inl ⟨rfl,rfl,rfl⟩
theorem Gp.ah (h:Gp Lg sz rows c):c.ah=false:=by rcases h with ⟨rfl,_⟩|⟨y,R,rfl,_⟩ <;> rfl
theorem Gp.slc (h:Gp Lg sz rows c)(hg:∀p∈Lg,H p.1=p.2):Slc H sz rows c:=by
 rcases h with ⟨rfl,rfl,rfl⟩|⟨y,R,rfl,rfl,hR⟩
 ·exact .mk' H true sz []
 ·have hy:H y=.vec sz R:=hg (y,.vec sz R) (by simp);have a9:rows.length≤R.length:=by
   have:=congrArg List.length hR;rw[Jv]at this;omega
  exact⟨by simp[bt,hy,a9],rfl,by simp[rowsOf,hy,hR],rfl⟩
theorem Gp.ne (h:Gp Lg sz rows c):∀p∈Lg,p.2≠.none:=by
 rcases h with ⟨_,_,rfl⟩|⟨y,R,_,rfl,_⟩
 ·simp
 ·intro p hp;simp only[Ja]at hp;subst hp;nofun
theorem Kn.growP {K:V→Heap→Prop}{new:List (List C)}{b:C}(kn:Kn H0 H E (B++Lg))(hc:Gp Lg sz rows c)(hb:Slc H sz new b)
  (h1:∀r∈new,ar r=true) (h2:rows.length+new.length≤LIM)
  (h:∀t Lg' H',Gp Lg' sz (rows++new) t→Kn H0 H' E (B++Lg')→K (.c t) H'):appQ H sz c b K:=by
 refine⟨hb.ok,hb.sz,?_⟩;rcases hc with ⟨rfl,rfl,rfl⟩|⟨y,R,rfl,rfl,hR⟩
 ·simp only[hb.rows,hb.len,Jaj,J9,Jaw];refine⟨trivial,.inl trivial,h1,by simpa using h2,fun l hl H' cu=>?_⟩;rw[List.append_nil]at kn;exact h _ _ H' (.inr ⟨l,new,by simp,rfl,Jas⟩) (kn.al hl cu)
 ·have a9:rows.length≤R.length:=by
   have:=congrArg List.length hR;rw[Jv]at this;omega
  have hy:H y=.vec sz R:=(kn.get (y,.vec sz R) (by simp)).1;simp only[hy,hb.rows,hb.len,Jac,hR];refine⟨trivial,trivial,by omega,h1,h2,fun l' cB H' cu=>?_⟩;refine h _ [(l',.vec sz (rows++new))] H' (.inr ⟨l',rows++new,by simp,rfl,Jas⟩) ?_;have:=kn.ap B.length (y:=y) (o:=.vec sz R) (by simp) cB cu;simpa using this
theorem Gp.cut (h:Gp Lg sz rows c){k:Nat}(hk:k≤rows.length):Gp Lg sz (rows.take k) (sliC none (some (k:Int)) c):=by
 rcases h with ⟨rfl,rfl,rfl⟩|⟨y,R,rfl,rfl,hR⟩
 ·refine .inl ⟨?_,by simp,rfl⟩;simp[sliC]
 ·refine .inr ⟨y,R,?_,rfl,?_⟩
  ·simp only[sliC,Jat,J3,Jv,Int.toNat_natCast,Int.toNat_zero,Jaw,Nat.sub_zero];rw[Jam hk]
  ·rw[Jv,Jam hk,←hR,List.take_take,Jam hk]
theorem Kn.side (kn:Kn F H [] (A++M)):∃F',Kn F' H [] A∧∀(A':List (Nat×Obj)) (H':Heap),Kn F' H' [] A'→Kn F H' [] (A'++M):=by
 have cf:=kn.dL;rw[Jw]at cf;obtain⟨d1,d2,d3⟩:=Jad.1 cf;obtain⟨F',oz⟩:∃F':Heap,F'=fun m=>if m∈M.map Prod.fst then H m else F m:=⟨_,rfl⟩;have cI:∀m,m∈M.map Prod.fst→F' m=H m:=fun m hm=>by rw[oz];exact if_pos hm
 have cH:∀m,m∉M.map Prod.fst→F' m=F m:=fun m hm=>by rw[oz];exact if_neg hm
 have hM:∀p∈M,F' p.1=p.2∧p.2≠.none:=fun p hp=>by
  have:=kn.get p (by simp[hp]);rw[cI p.1 (BO hp)];exact this
 refine⟨F',⟨fun p hp=>kn.get p (by simp only[Jaj]at hp⊢;exact Je _ hp),by simp,fun p hp=>?_,by simp,d1,fun m hm _=>?_⟩,fun A' H' k=>?_⟩
 ·rw[cH p.1 fun h=>d3 _ (BO hp) _ h rfl];exact kn.loc p (Je _ hp)
 ·by_cases h:m∈M.map Prod.fst
  ·rw[cI m h]
  ·rw[cH m h]at hm⊢;exact kn.chg m hm (by simp)
 ·have hA:∀p∈A',p.1∉M.map Prod.fst:=fun p hp h=>by
   obtain⟨q,hq,e⟩:=Jj.1 h;have h1:=k.loc p hp;rw[←e,(hM q hq).1]at h1;exact (hM q hq).2 h1
  refine⟨fun p hp=>?_,by simp,fun p hp=>?_,by simp,?_,fun m hm _=>?_⟩
  ·simp only[Jaj]at hp;rcases Jm.1 hp with hp|hp
   ·exact k.get p (by simpa using hp)
   ·obtain⟨h1,h2⟩:=hM p hp;refine⟨?_,h2⟩;rw[k.chg p.1 (by rw[h1];exact h2) (by simp),h1]
  ·rcases Jm.1 hp with hp|hp
   ·rw[←cH p.1 (hA p hp)];exact k.loc p hp
   ·exact kn.loc p (Jn _ hp)
  ·rw[Jw];refine Jad.2 ⟨k.dL,d2,fun a ha b hb eU=>?_⟩;obtain⟨p,hp,rfl⟩:=Jj.1 ha;exact hA p hp (eU▸hb)
  ·have rT:m∉M.map Prod.fst:=fun h=>by
    obtain⟨q,hq,rfl⟩:=Jj.1 h;exact hm (kn.loc q (Jn _ hq))
   have:=k.chg m (by rw[cH m rT];exact hm) (by simp);rw[this,cH m rT]
end Go.AE
namespace Go.AE.Y
attribute [local go_sem] cond_true cond_false Bool.not_true Bool.not_false
open Go.Proofs.Tryz
variable {H H0:Heap}{K:V→Heap→Prop}{E E' L:List (Nat×Obj)}
abbrev wO (fl:Bool)(fns:List Fn)(k:Nat)(vc:C)(cnt:Nat)(code:Int):Obj:=.st [.sl fl 3 (Ae fns),.int .i64 k,vc,.int .i64 cnt,.int .i64 code]
theorem Kx {n:Nat}(hK:∀s,K (.c (.str s)) H):Qi prog EE [.c (.int .i64 n)] H K:=by
 refine Qb Ab X4 ?_;have e1:((n:Int).tmod 26)=((n % 26:Nat):Int):=rfl;have h1:n % 26<26:=Nat.mod_lt _ (by omega);refine Qa ?_;simp only[go_sem];refine Qa ?_;simp only[go_sem,e1];generalize n % 26=q at *;refine⟨by decide,?_⟩;refine Qa ?_;simp only[go_sem];refine⟨Ql,⟨by omega,by omega⟩,?_,?_⟩
 ·simp only[LIM,List.length_drop,Jv,Jr,J9];omega
 refine Qg ?_;simp only[go_sem,Qq,Q1,Ad,Ja,forall_eq,RS.op];exact hK _
theorem D7 {w k cnt:Nat}{fl:Bool}{fns:List Fn}{vc:C}{code n:Int}(an:vc.ah=false)(hH:H w=wO fl fns k vc cnt code)(hK:∀H',Upd H H' [(w,wO fl fns k vc cnt (Ah code n))]→K (.tup []) H') :
  Qi prog F4 [.c (.ptr w 0),.c (.int .i64 n)] H K:=by
 refine Qb Ab Qa40 ?_;have kn:=Kn.start1 hH (by nofun);refine Qa ?_;simp only[go_sem,hH,an];refine Qc rfl (fun hc=>?_) (fun hc=>?_)
 ·have h0:code=0:=by simpa using hc
  refine Qn ?_;simp only[go_sem,hH,an];intro H1 h1;have kn:=kn.stE 0 rfl h1;simp only[Qq,Q1,Av,go_sem];refine hK _ ⟨fun p hp=>?_,fun m h1 h2=>kn.chg m h1 h2⟩;rw[Ah,if_pos h0]at hp;exact (kn.get p (Je _ hp)).1
 ·have h0:¬code=0:=by simpa using hc
  refine Qd ?_;simp only[Qq,Q1,Av,go_sem];refine hK _ ⟨fun p hp=>?_,fun m h1 h2=>rfl⟩;rw[Ah,if_neg h0]at hp;simp only[Ja]at hp;rw[hp];exact hH
def LY (v:Vars)(s:List UInt8)(r:Int):Prop:=
 (r=-1∧((vT v).find? fun x=>decide (x.1=s))=none)∨∃(i:Nat) (x:List UInt8×Nat×Nat),r=i∧i<(vT v).length∧(Aq v).getD i []=row3 x∧((vT v).find? fun x=>decide (x.1=s))=some x
theorem K8 {w k cnt:Nat}{fl:Bool}{fns:List Fn}{vc:C}{code:Int}{v:Vars}{s:List UInt8}(an:vc.ah=false)(hH:H w=wO fl fns k vc cnt code)(hg:Slc H 3 (Aq v) vc)
  (hK:∀r,LY v s r→K (.c (.int .i64 r)) H):Qi prog PT [.c (.ptr w 0),.c (.str s)] H K:=by
 have aM:=eq_true hg.ok;have dx:=hg.rows;have gO:=hg.len;have be:=hg.sz;rw[Pa]at gO;refine Qb Ab Qa41 ?_;have retf:∀(n:Int) (e:Env),LY v s n→lk 4 e=.c (.int .i64 n)→Qq Aa K .ret e H:=by
  intro b e hf h1;simp only[go_sem,Qq,Q1,Aa,Ja,forall_eq,RS.op,h1];exact hK _ hf
 refine Qa ?_;simp only[go_sem];refine Qp (Qa ?_);simp only[go_sem,hH,an,aM,gO];intro hl;simp only[LIM]at hl;refine⟨Ql,?_⟩;refine Qe (Qf (Qu (fun n e1 H1=>∃(j:Nat),n=j∧j≤(vT v).length∧H1=H∧(∀x∈(vT v).take ((vT v).length-j),¬decide (x.1=s)=true)∧e1=[(0,.c (.ptr w 0)),(1,.c (.str s)),(5,.c (.int .i64 ((j:Int)-1)))]) (vT v).length ?_ ?_))
 ·exact⟨(vT v).length,rfl,by omega,rfl,by simp,rfl⟩
 ·rintro n e1 H1 ⟨j,oI,hj,rfl,aD,rfl⟩;refine Qp (Qa ?_);simp only[go_sem];refine Qe (Qc rfl ?_ ?_)
  ·intro hc;have hj1:1≤j:=by simp at hc;omega
   obtain⟨i,rfl⟩:∃i,j=i+1:=⟨j-1,by omega⟩;have e1:(((i+1:Nat):Int)-1)=(i:Int):=by omega
   have aa:i<(vT v).length:=by omega
   have hk:(vT v).length-1-i<(vT v).length:=by omega
   have hr:=Ou v aa;have ek:(vT v).length-(i+1)=(vT v).length-1-i:=by omega
   obtain⟨x,hx⟩:∃x,(vT v)[(vT v).length-1-i]=x:=⟨_,rfl⟩;rw[hx]at hr;have dm:=hr;rw[row3]at dm;rw[e1]at hc⊢;refine Qd ?_;simp only[go_sem];refine Qe (Qf ?_);refine Qa ?_;simp only[go_sem,hH,an,aM,gO,dx,be,aa,dm];refine Qc rfl ?_ ?_
   ·intro ao;refine Qa ?_;simp only[go_sem];refine Qg ?_;simp only[go_sem,AE.X.next];refine retf _ _ (.inr ⟨i,x,rfl,aa,hr,?_⟩) rfl;have:=Vd (p:=fun x:List UInt8×Nat×Nat=>decide (x.1=s)) hk (by rw[hx];exact ao) (by rw[←ek];exact aD);rw[this,hx]
   ·intro ao;refine Qd ?_;simp only[go_sem];refine Qn ?_;simp only[go_sem,AE.X.next];refine⟨Ql,i,by omega,i,rfl,by omega,?_,rfl⟩;have e2:(vT v).length-i=(vT v).length-1-i+1:=(by omega);rw[e2,Jb hk];intro y hy;rcases Jm.1 hy with hy|hy
    ·rw[←ek]at hy;exact aD y hy
    ·simp only[Ja]at hy;rw[hy,hx];intro h;rw[h]at ao;cases ao
  ·intro hc;have lD:j=0:=by simp at hc;omega
   subst lD;refine Qr ?_;simp only[go_sem,AE.X.next];refine Qa ?_;simp only[go_sem];refine Qg ?_;refine retf (-1) _ (.inl ⟨rfl,?_⟩) rfl;rw[List.find?_eq_none];simpa using aD
theorem IR {w k cnt:Nat}{fl:Bool}{fns:List Fn}{vc:C}{code:Int}{v:Vars}{s:List UInt8}(an:vc.ah=false)(hH:H w=wO fl fns k vc cnt code)(hg:Slc H 3 (Aq v) vc)
  (hK:∀t H',Upd H H' [(w,wO fl fns k vc cnt (Ah code (if (v.find s).isSome then 0 else 3)))]→K (.c (.str t)) H'):Qi prog PG [.c (.ptr w 0),.c (.str s)] H K:=by
 have aM:=eq_true hg.ok;have dx:=hg.rows;have gO:=hg.len;have be:=hg.sz;rw[Pa]at gO;refine Qb Ab Qbat ?_;have retf:∀(t:List UInt8) (e:Env) (H':Heap),Upd H H' [(w,wO fl fns k vc cnt (Ah code (if (v.find s).isSome then 0 else 3)))]→lk 4 e=.c (.str t)→Qq Aa K .ret e H':=by
  intro b e H' hu h1;simp only[go_sem,Qq,Q1,Aa,Ja,forall_eq,RS.op,h1];exact hK _ _ hu
 refine Qa ?_;simp only[go_sem];refine Qa ?_;simp only[go_sem];refine K8 an hH hg fun r hr=>?_;simp only[go_sem,Q3x];refine Qp (Qa ?_);simp only[go_sem];have o8:=Qb0b v s;rcases hr with ⟨rfl,hf⟩|⟨i,x,rfl,aa,av,hf⟩
 ·rw[hf]at o8;rw[o8]at retf;refine Qe (Qc rfl (fun _=>?_) (fun h=>by cases h));refine Qa ?_;simp only[go_sem];refine D7 an hH fun H1 hu=>?_;simp only[go_sem];refine Qa ?_;simp only[go_sem];refine Qg ?_;simp only[go_sem,AE.X.next];exact retf _ _ _ hu rfl
 ·rw[hf]at o8;rw[o8]at retf;have dm:=av;rw[row3]at dm;refine Qe (Qc rfl (fun h=>by have:=of_decide_eq_true h;omega) (fun _=>?_));refine Qd ?_;try simp only[go_sem]
  refine Qa ?_;simp only[go_sem,hH,an,aM,gO,dx,be,aa,dm];refine Kx fun t=>?_;simp only[go_sem,Q3y];refine Qg ?_;refine retf t _ _ ⟨fun q hq=>?_,fun m h1 h2=>rfl⟩ rfl;simp only[Ja]at hq;rw[hq];have e0:Ah code (if (Option.map (fun x:List UInt8×Nat×Nat=>x.2.1) (some x)).isSome=true then 0 else 3)=code:=CV code;rw[e0];exact hH
theorem IT {F:Heap}{w k cnt:Nat}{fl:Bool}{fns:List Fn}{vc:C}{code:Int}{b:List (List UInt8×Nat)}{r:Vars}{s:List UInt8}{Lg:List (Nat×Obj)}(hg:Gp Lg 3 (Aq (b::r)) vc)
  (kn:Kn F H [] ((w,wO fl fns k vc cnt code)::Lg)) (hc:cnt≤2^40) (hl:(Aq (b::r)).length+1≤LIM)
  (hK:∀t H' vc' Lg',Gp Lg' 3 (Aq (((s,cnt)::b)::r)) vc'→Kn F H' [] ((w,wO fl fns k vc' (cnt+1) (Ah code (if AL (b::r) s then 2 else 0)))::Lg')→K (.c (.str t)) H') :
  Qi prog PH [.c (.ptr w 0),.c (.str s),.c (.int .i64 r.length)] H K:=by
 have an:=hg.ah;have hH:=kn.l 0 rfl;have hs:=hg.slc fun p hp=>(kn.get p (by simp[hp])).1;have aM:=eq_true hs.ok;have dx:=hs.rows;have gO:=hs.len;have be:=hs.sz;rw[Pa]at gO;refine Qb Ab Qbas ?_;have tail:∀(code':Int) (H1:Heap) (e1:Env),code'=Ah code (if AL (b::r) s then 2 else 0)→Kn F H1 [] ((w,wO fl fns k vc cnt code')::Lg)→lk 0 e1=.c (.ptr w 0)→lk 1 e1=.c (.str s)→lk 2 e1=.c (.int .i64 r.length)→
   Ag prog Q8o (Qq AB K) e1 H1:=by
  intro code' H1 e1 cY kn f0 f1 f2;subst cY;have hH:=kn.l 0 rfl;refine Ak ?_;simp only[go_sem,f0,f1,f2,hH,an];refine Kn.growP (B:=[(w,wO fl fns k vc cnt (Ah code (if AL (b::r) s then 2 else 0)))]) kn hg (.mk' _ true 3 _) (by simp[ar,C.ah]) (by simpa using hl) fun t Lg' H2 ew kn=>?_;have kW:=ew.ah;have hH:=kn.l 0 rfl;simp only[go_sem,Q3v,hH,kW,f0,f1,f2];intro H3 h3;have kn:=kn.aT 0 rfl h3;have hH:=kn.l 0 rfl;refine Qa ?_;simp only[go_sem,hH,kW,f0,f1,f2];refine⟨Ql,?_⟩;intro H4 h4;have kn:=kn.aT 0 rfl h4;have hH:=kn.l 0 rfl;refine Qa ?_;simp only[go_sem,hH,kW,f0,f1,f2];refine⟨Ql,?_⟩;have en:((cnt:Int)+1-1)=((cnt:Nat):Int):=by omega
  try rw[en]
  refine Kx fun t'=>?_;simp only[go_sem,Q3w];refine Qg ?_;simp only[go_sem,Qq,Q1,AB,Ja,forall_eq,RS.op];exact hK t' _ t Lg' (by rw[FZ];exact ew) kn
 refine Qa ?_;simp only[go_sem];refine Qa ?_;simp only[go_sem];refine K8 an hH hs fun n hn=>?_;simp only[go_sem,Q3u];refine Qp ?_;have iN:=Qb2b b r s;rcases hn with ⟨rfl,hf⟩|⟨i,x,rfl,aa,av,hf⟩
 ·rw[hf]at iN;have i8:decide ((0:Int)≤-1)=false:=by decide
  have tn:Int.toNat (-1)=0:=rfl;have ht0:AL (b::r) s=false:=by rw[iN];rfl
  rw[ht0]at tail;obtain⟨ro,jq,oh⟩:∃ro,(Aq (b::r)).getD 0 []=ro∧(ro=[]∨∃a m n,ro=[.str a,.int .i64 m,.int .i64 n]):=by
   refine⟨_,rfl,?_⟩;rcases Nat.eq_zero_or_pos (vT (b::r)).length with h0|h0
   ·refine .inl ?_;have:Aq (b::r)=[]:=List.eq_nil_of_length_eq_zero (by rw[Pa];exact h0);rw[this];rfl
   ·exact .inr ⟨_,_,_,Ou _ h0⟩
  refine Qa ?_;rcases oh with rfl|⟨a,m,n,rfl⟩
  ·simp only[go_sem,i8,hH,an,aM,gO,dx,be,jq,tn,List.headD_nil];refine Qe (Qc rfl (fun h=>by cases h) (fun _=>?_));refine Qd ?_;simp only[go_sem];exact tail code _ _ (CV code).symm kn rfl rfl rfl
  ·simp only[go_sem,i8,hH,an,aM,gO,dx,be,jq,tn];refine Qe (Qc rfl (fun h=>by cases h) (fun _=>?_));refine Qd ?_;simp only[go_sem];exact tail code _ _ (CV code).symm kn rfl rfl rfl
 ·rw[hf]at iN;have dm:=av;rw[row3]at dm;have aC:decide ((0:Int)≤(i:Int))=true:=decide_eq_true (by omega);refine Qa ?_;simp only[go_sem,aC,hH,an,aM,gO,dx,be,aa,dm];have he:decide (((x.2.2:Nat):Int)=((r.length:Nat):Int))=decide (x.2.2=r.length):=by rw[decide_eq_decide];omega
  simp only[Jan,J3]at iN;rw[←iN]at he;rw[he];refine Qe (Qc rfl (fun ao=>?_) (fun ao=>?_))
  ·refine Qn ?_;simp only[go_sem];refine D7 an hH fun H1 hu=>?_;have kn:=kn.callL 0 rfl hu (by nofun);simp only[go_sem,AE.X.next];refine tail _ _ _ ?_ kn rfl rfl rfl;have:AL (b::r) s=true:=by simpa using ao
   rw[this];rfl
  ·refine Qd ?_;simp only[go_sem,AE.X.next];refine tail code _ _ ?_ kn rfl rfl rfl;have:AL (b::r) s=false:=by simpa using ao
   rw[this];exact (CV code).symm
end Go.AE.Y
