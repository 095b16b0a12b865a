/- Part 3 of the proof: the engine, codes, walks and plain laws, each named where it stands. -/
import Derived.Test.YtldooelffjcbmaaGreatZB
open Nat (reduceEqDiff reduceAdd reduceLeDiff reduceLT)
set_option linter.unusedVariables false
set_option linter.unusedSimpArgs false
set_option maxRecDepth 4000
open Int renaming eq_ofNat_of_zero_le->Jn,tmod_lt_of_pos->J0,tmod_nonneg->J4
open List renaming mem_singleton->Ja,getD_eq_getElem?_getD->Jb,getElem_mem->Jc,take_of_length_le->Jd,length_map->Je,mem_append_right->Jh,perm_append_comm->Ji,append_assoc->Jj,take_succ_eq_append_getElem->Jk,length_cons->Jl,mem_append->Jm,length_nil->Jo,drop_zero->Jp,nil_append->Jq,cons_append->Jr,flatMap_append->Js,map_set->Jt,set_cons_zero->Ju,map_append->Jv,take_append_drop->Jw,getD_cons_zero->Jx,mem_or_eq_of_mem_set->J1,getElem?_eq_getElem->J2,length_take->J3,contains_iff_mem->J5,getD_cons_succ->J6,set_cons_succ->J7,nodup_append->J9,all_eq_true->Jab,filter_cons->Jac,mem_flatMap->Jad,take_length->Jae,all_append->Jaf,filter_nil->Jag,length_set->Jah,map_cons->Jaj,map_nil->Jak,set_set->Jal
open Nat renaming zero_add->Jf,le_refl->Jg,lt_pow_self->Jy,mul_le_mul_left->Jz,one_le_two_pow->J8,le_trans->Jaa,le_succ->Jai,mul_succ->Jam
namespace Go.AE.Y
open Go.Proofs.Tryz
def Qog:List Item:=[fB 3 false]
def Qoh:List Item:=[mJ 3 7]
def Qoi:List Item:=fI 6 (.ext (.t 5) 0)::fI 7 (.ext (.t 5) 1)::sJ 1 2 6::Qoh
def Qai2:SC:=sR (tJ 4 1 1::eI 5 (.call Qmi [.t 4,.k (.c (.fn Qb7 []))])::Qoi) [2,3] .ret
def Qaxe:SC:=sR (vJ 1 0::eI 2 (.alloc [.sl true 3 []])::Qog) [1,2] Qai2
def Q23:List RS:=[.cell 2 1 true,.tmp 3]
theorem Qawl:mFn prog Qfr 1 8 Qaxe Q23=true:=by kernel_rfl
def Qsy:List Item:=[oJ 12 11]
def Qaqj:SC:=cT 12 (sR [fI 2 (.mv (.k (.c (.sl true 1 []))))] [2] .ret) .skip
def Qsz:List Item:=[mJ 4 18,sJ 3 5 20]
def Qs0:List Item:=[mJ 6 22]
def Qs1:List Item:=[mJ 7 28,sJ 5 8 30]
def Qs2:List Item:=[mJ 3 47]
def Qaqk:SC:=cT 40 (.reg (mJ 41 3::mJ 42 4::mJ 43 7::mJ 44 9::fI 45 (.bsl 1 [.t 42,.t 43,.t 44])::fI 46 (.bsl 1 [.t 45])::xJ 47 1 41 46::Qs2) [3,4,6,7,14,15,16,24,25,26,33,34]) .skip
def Qaql:SC:=sR [mJ 37 6,mJ 38 7,mJ 39 9,aJ 40 Qck [.t 37,.t 38,.t 39]] [3,4,6,7,9,14,15,16,24,25,26,33,34,40] Qaqk
def Qaqm:SC:=.reg [cJ 48 .add 34 1,mJ 34 48] [3,4,6,7,14,15,16,24,25,26,33,34]
def Qaqn:SC:=.seq (.block 5 (sR [mJ 36 34,mJ 9 36] [3,4,6,7,9,14,15,16,24,25,26,33,34] Qaql)) Qaqm
def Qadh:SC:=sR [bJ 35 .lss 34 33] [3,4,6,7,14,15,16,24,25,26,33,34,35] (cX 35 4 Qaqn)
def Qai3:SC:=sR [fJ 31 1 8,lJ 32 31,nJ 33 32,zJ 34 0] [3,4,6,7,14,15,16,24,25,26,33,34] (bL 4 Qadh)
def Qai4:SC:=.reg [cJ 49 .add 26 1,mJ 26 49] [3,4,6,14,15,16,24,25,26]
def Qai5:SC:=.seq (.block 3 (sR (mJ 28 26::iJ 29 5 24 26::tJ 30 5 29::eI 8 (.alloc [.sl true 2 [],.sl true 4 [],.int .i64 0,.int .i64 0,.sl true 1 []])::Qs1) [3,4,6,7,8,14,15,16,24,25,26] Qai3)) Qai4
def Qadi:SC:=sR [bJ 27 .lss 26 25] [3,4,6,14,15,16,24,25,26,27] (cX 27 2 Qai5)
def Qai6:SC:=sR [fJ 23 2 5,lJ 24 23,nJ 25 24,zJ 26 0] [3,4,6,14,15,16,24,25,26] (bL 2 Qadi)
def Qai7:SC:=sR (tJ 21 3 5::aJ 22 Qfy [.t 21]::Qs0) [3,4,5,6,14,15,16] Qai6
def Qai8:SC:=.reg [cJ 50 .add 16 1,mJ 16 50] [3,14,15,16]
def Qai9:SC:=.seq (.block 1 (sR (mJ 18 16::iJ 19 3 14 16::tJ 20 3 19::eI 5 (.alloc [.int .i64 0,.int .i64 0,.sl true 5 []])::Qsz) [3,4,5,14,15,16] Qai7)) Qai8
def Qadj:SC:=sR [bJ 17 .lss 16 15] [3,14,15,16,17] (cX 17 0 Qai9)
def Qaja:SC:=sR [mJ 51 3,mJ 2 51] [2] .ret
def Qajb:SC:=.seq (sR [fJ 13 0 1,lJ 14 13,nJ 15 14,zJ 16 0] [3,14,15,16] (bL 0 Qadj)) Qaja
def Qajc:SC:=sR [fI 3 (.mv (.k (.c (.sl true 1 []))))] [1,3] Qajb
def Qajd:SC:=.seq (sR (tJ 10 1 1::aJ 11 Qa6 [.t 10]::Qsy) [1,12] Qaqj) Qajc
def Qa1h:SC:=sR [vJ 1 0,fI 2 (.mv (.k (.c (.sl true 1 []))))] [1] Qajd
def Qsq:List RS:=[.tmp 2]
theorem Qa0f:mFn prog Qme 1 52 Qa1h Qsq=true:=by kernel_rfl
def Qzf:List Item:=[oJ 6 5]
def Qaxf:SC:=cT 6 (sR [zJ 2 (-1)] [2] .ret) .skip
def Qaxg:SC:=sR [fJ 7 1 1,lJ 8 7,mJ 2 8] [2] .ret
def Qaxh:SC:=.seq (sR (fJ 3 0 1::lJ 4 3::aJ 5 Qj6 [.t 4]::Qzf) [1,6] Qaxf) Qaxg
def Qa7o:SC:=sR [vJ 1 0,zJ 2 0] [1] Qaxh
def Q0z:List RS:=[.tmp 2]
theorem Qa6y:mFn prog Qr2 1 9 Qa7o Q0z=true:=by kernel_rfl
def Qoj:List Item:=[oJ 13 12]
def Qaje:SC:=cT 13 (sR [zJ 4 (-1)] [4] .ret) .skip
def Qok:List Item:=[mJ 5 19,zJ 6 0]
def Qol:List Item:=[mJ 7 29,sJ 5 8 31]
def Qom:List Item:=[fI 44 (.lenm (.t 43)),fI 45 (.mx (.t 39) (.t 44)),mJ 6 45]
def Qajf:SC:=.reg [mJ 37 9,cJ 38 .add 37 1,mJ 9 38] [5,6,7,8,9,25,26,27]
def Qajg:SC:=.seq (.block 3 (.reg (mJ 39 6::mJ 40 5::mJ 41 7::mJ 42 9::aJ 43 Qbj [.t 40,.t 41,.t 42]::Qom) [5,6,7,8,9,25,26,27])) Qajf
def Qadp:SC:=.seq (sR [mJ 32 9,fJ 33 1 8,lJ 34 33,nJ 35 34,bJ 36 .lss 32 35] [5,6,7,8,9,25,26,27,36] (cT 36 .skip (.exit 2))) Qajg
def Qajh:SC:=sR [zJ 9 (-1)] [5,6,7,8,9,25,26,27] (bL 2 Qadp)
def Qaji:SC:=.reg [cJ 46 .add 27 1,mJ 27 46] [5,6,25,26,27]
def Qadk:SC:=.seq (.block 1 (sR (mJ 29 27::iJ 30 5 25 27::tJ 31 5 30::eI 8 (.alloc [.sl true 2 [],.sl true 4 [],.int .i64 0,.int .i64 0,.sl true 1 []])::Qol) [5,6,7,8,25,26,27] Qajh)) Qaji
def Q7b:SC:=sR [bJ 28 .lss 27 26] [5,6,25,26,27,28] (cX 28 0 Qadk)
def Qadl:SC:=sR [mJ 47 6,mJ 4 47] [4] .ret
def Qadm:SC:=.seq (sR [fJ 20 0 2,lJ 21 20,mJ 22 1,iJ 23 3 21 22,fJ 24 2 23,lJ 25 24,nJ 26 25,zJ 27 0] [5,6,25,26,27] (bL 0 Q7b)) Qadl
def Qadn:SC:=sR (fJ 14 0 2::lJ 15 14::mJ 16 1::iJ 17 3 15 16::tJ 18 3 17::aJ 19 Qfy [.t 18]::Qok) [1,2,5,6] Qadm
def Qado:SC:=.seq (sR (tJ 10 1 2::mJ 11 1::aJ 12 Qii [.t 10,.t 11]::Qoj) [1,2,13] Qaje) Qadn
def Qaxi:SC:=sR [vJ 2 0,zJ 4 0] [1,2] Qado
def Qmv:List RS:=[.tmp 4]
theorem Qawm:mFn prog Qfs 2 48 Qaxi Qmv=true:=by kernel_rfl
def Qkp:List Item:=[oJ 10 9]
def Qadx:SC:=cT 10 (sR [fB 2 false] [2] .ret) .skip
def Qkq:List Item:=[mJ 4 16,sJ 3 5 18]
def Qkr:List Item:=[oJ 22 21]
def Qady:SC:=cT 22 (sR [fB 2 false] [2] .ret) .skip
def Qks:List Item:=[bJ 26 .add 23 25,mJ 3 26]
def Qadz:SC:=.reg (mJ 23 3::tJ 24 3 5::aJ 25 Qcd [.t 24]::Qks) [1,3,12,13,14]
def Qad0:SC:=.seq (sR (tJ 19 1 1::mJ 20 4::aJ 21 Qr3 [.t 19,.t 20]::Qkr) [1,3,5,12,13,14,22] Qady) Qadz
def Qad1:SC:=.reg [cJ 27 .add 14 1,mJ 14 27] [1,3,12,13,14]
def Qad2:SC:=.seq (.block 1 (sR (mJ 16 14::iJ 17 3 12 14::tJ 18 3 17::eI 5 (.alloc [.int .i64 0,.int .i64 0,.sl true 5 []])::Qkq) [1,3,4,5,12,13,14] Qad0)) Qad1
def Q3o:SC:=sR [bJ 15 .lss 14 13] [1,3,12,13,14,15] (cX 15 0 Qad2)
def Q7c:SC:=sR [mJ 28 3,cJ 29 .leq 28 800,mJ 2 29] [2] .ret
def Q7d:SC:=.seq (sR [fJ 11 0 1,lJ 12 11,nJ 13 12,zJ 14 0] [1,3,12,13,14] (bL 0 Q3o)) Q7c
def Q7e:SC:=sR [zJ 3 0] [1,3] Q7d
def Q7f:SC:=.seq (sR (fJ 6 0 1::lJ 7 6::nJ 8 7::aJ 9 Qay [.t 8,kI 1,kI 4]::Qkp) [1,10] Qadx) Q7e
def Qaqv:SC:=sR [vJ 1 0,fB 2 false] [1] Q7f
def Qje:List RS:=[.tmp 2]
theorem Qap2:mFn prog Qa6 1 30 Qaqv Qje=true:=by kernel_rfl
def Qon:List Item:=[hJ 4 3,fI 8 (.bld [.int .i64 0,.sl true 1 []] [(0,1,.t 4),(1,1,.t 7)]),sJ 2 2 8]
def Qaju:SC:=.seq (.dreg 7 [0,1,2,3,4,1,5,6] ( fJ 3 0 1::lJ 4 3::fJ 5 1 1::lJ 6 5::aJ 7 Qfe [.t 6]::Qon) [2]) .ret
def Qaxj:SC:=sR [vJ 1 0,eI 2 (.alloc [.int .i64 0,.sl true 1 []])] [1,2] Qaju
def Q24:List RS:=[.cell 2 2 true]
theorem Qawn:mFn prog Qc2 1 9 Qaxj Q24=true:=by kernel_rfl
def Qji:List Item:=[pF 14 7 13,mJ 4 14]
def Qjj:List Item:=mJ 7 6::gTm 8 7 1::gTf 9 7 0 2::gTl 10 7 9::gT 11 7 (.len (.t 10))::gT 12 7 (.bin 0 .sub (.t 11) (kI 1))::.e (some 13) (some (7,true)) (.call Qay [.t 8,kI 0,.t 12])::Qji
def Qaxk:SC:=sR (tJ 5 1 2::aJ 6 Qa6 [.t 5]::Qjj) [4] .ret
def Qa7p:SC:=sR [vJ 2 0,fB 4 false] [1,2] Qaxk
def Q00:List RS:=[.tmp 4]
theorem Qa6z:mFn prog Qii 2 15 Qa7p Q00=true:=by kernel_rfl
def Qku:List Item:=[sJ 5 5 12]
def Qad6:SC:=.reg [mJ 13 3,fJ 14 0 5,lJ 15 14,nJ 16 15,fJ 17 1 5,lJ 18 17,nJ 19 18,bJ 20 .add 16 19,bJ 21 .add 13 20,mJ 3 21] [3,7,8,9]
def Qad7:SC:=.reg [cJ 22 .add 9 1,mJ 9 22] [3,7,8,9]
def Qad8:SC:=.seq (.block 1 (sR (iJ 11 5 7 9::tJ 12 5 11::eI 5 (.alloc [.sl true 2 [],.sl true 4 [],.int .i64 0,.int .i64 0,.sl true 1 []])::Qku) [3,5,7,8,9] Qad6)) Qad7
def Q7s:SC:=sR [bJ 10 .lss 9 8] [3,7,8,9,10] (cX 10 0 Qad8)
def Qad9:SC:=sR [mJ 23 3,mJ 2 23] [2] .ret
def Qaea:SC:=.seq (sR [fJ 6 2 1,lJ 7 6,nJ 8 7,zJ 9 0] [3,7,8,9] (bL 0 Q7s)) Qad9
def Qaeb:SC:=sR [zJ 3 0] [1,3] Qaea
def Qaq3:SC:=sR [vJ 1 0,zJ 2 0] [1] Qaeb
def Qy4:List RS:=[.tmp 2]
theorem Qap4:mFn prog Qcd 1 24 Qaq3 Qy4=true:=by kernel_rfl
def Qzk:List Item:=[sJ 3 5 16]
def Qft:List Item:=[gF 35 30 (.not (.t 34)),pT 36 30 35]
def Qfu:List Item:=gF 28 21 (.not (.t 27))::pT 29 21 28::mJ 30 29::gFf 31 30 2 5::gFl 32 30 31::gF 33 30 (.len (.t 32))::.e (some 34) (some (30,false)) (.call Qay [.t 33,kI 1,kI 160])::Qft
def Qjl:List Item:=oJ 20 19::mJ 21 20::gFf 22 21 0 5::gFl 23 21 22::gFf 24 21 1 5::gFl 25 21 24::gF 26 21 (.mn (kI 3) (.t 25))::.e (some 27) (some (21,false)) (.call Qay [.t 23,kI 0,.t 26])::Qfu
def s_im_codeOk_4:SC:=cT 36 (sR [fB 4 false] [4] .ret) .skip
def Qzl:List Item:=[sJ 1 6 37]
def Qzm:List Item:=[mJ 7 43,sJ 5 8 45]
def Qc9:List Item:=[gF 69 65 (.not (.t 68)),gFm 70 65 69,gTf 71 70 3 8,gTl 72 70 71,gT 73 70 (.bin 0 .neq (.t 72) (kI 0)),gF 74 65 (.pick (.t 70) (.t 73) (.k (.c (.bool false)))),pT 75 65 74]
def Qda:List Item:=gT 62 57 (.not (.t 61))::gF 63 53 (.pick (.t 57) (.t 62) (.k (.c (.bool false))))::pT 64 53 63::mJ 65 64::gFf 66 65 2 8::gFl 67 65 66::.e (some 68) (some (65,false)) (.call Qfz [.t 67])::Qc9
def Qfv:List Item:=gFm 57 53 56::gTl 58 57 6::gTf 59 57 3 8::gTl 60 57 59::.e (some 61) (some (57,true)) (.callv (.t 58) [.t 60])::Qda
def Qhy:List Item:=hJ 47 46::.chk 48 none (.len (.t 47))::bJ 52 .neq 48 51::mJ 53 52::gFf 54 53 2 8::gFl 55 53 54::.e (some 56) (some (53,false)) (.call Qfz [.t 55])::Qfv
def s_im_codeOk_11:SC:=cT 75 (sR [fB 4 false] [4] .ret) .skip
def Qhz:List Item:=[pT 85 80 84]
def Qh0:List Item:=mJ 80 79::gFf 81 80 1 8::gFl 82 80 81::gF 83 80 (.mkf Qhd [.t 2,.t 3])::.e (some 84) (some (80,false)) (.call Qcb [.t 82,.t 83])::Qhz
def s_im_codeOk_14:SC:=cT 85 (sR [fB 4 false] [4] .ret) .skip
def Qs6:List Item:=[nJ 89 88,mJ 9 89]
def Qs7:List Item:=[sJ 2 11 96]
def Qci:List Item:=[pT 118 113 117]
def Qcj:List Item:=gF 104 99 (.not (.t 103))::pT 105 99 104::mJ 106 105::gFf 107 106 1 11::gFl 108 106 107::gF 109 106 (.len (.t 108))::gFm 110 106 9::gF 111 106 (.bin 0 .neq (.t 109) (.t 110))::pT 112 106 111::mJ 113 112::gFf 114 113 1 11::gFl 115 113 114::gF 116 113 (.mkf Qhe [.t 6])::.e (some 117) (some (113,false)) (.call Qbo [.t 115,.t 116])::Qci
def Qzg:SC:=cT 118 (sR [fB 4 false] [4] .ret) .skip
def Qaq4:SC:=sR (mJ 97 7::cJ 98 .eql 97 0::mJ 99 98::gFl 100 99 6::gFf 101 99 0 11::gFl 102 99 101::.e (some 103) (some (99,false)) (.callv (.t 100) [.t 102])::Qcj) [2,3,5,6,7,9,39,40,41,91,92,93,118] Qzg
def Qzh:SC:=.reg [cJ 119 .add 93 1,mJ 93 119] [2,3,5,6,7,9,39,40,41,91,92,93]
def Qaq5:SC:=.seq (.block 3 (sR (iJ 95 2 91 93::tJ 96 2 95::eI 11 (.alloc [.int .i64 0,.sl true 1 []])::Qs7) [2,3,5,6,7,9,11,39,40,41,91,92,93] Qaq4)) Qzh
def Qaj1:SC:=sR [bJ 94 .lss 93 92] [2,3,5,6,7,9,39,40,41,91,92,93,94] (cX 94 2 Qaq5)
def Qaq6:SC:=sR [fJ 90 0 8,lJ 91 90,nJ 92 91,zJ 93 0] [2,3,5,6,7,9,39,40,41,91,92,93] (bL 2 Qaj1)
def Qjk:SC:=sR (tJ 86 3 5::mJ 87 7::aJ 88 Qgq [.t 86,.t 87]::Qs6) [2,3,5,6,7,8,9,39,40,41] Qaq6
def Qzi:SC:=.seq (sR (fJ 76 4 8::lJ 77 76::fI 78 (.mkf Qhc [.t 5])::aJ 79 Qbo [.t 77,.t 78]::Qh0) [2,3,5,6,7,8,39,40,41,85] s_im_codeOk_14) Qjk
def Qaq7:SC:=.seq (.seq (.dreg 30 [0,1,2,3,4,5,1,2,6,7,8,9,10,11,12,13,14,15,16,17,18,19,20,21,22,23,24,25,26,27,28,29] ( fJ 46 4 8::lJ 47 46::nJ 48 47::fJ 49 2 8::lJ 50 49::aJ 51 Qhg [.t 50]::Qhy) [2,3,5,6,7,8,39,40,41,75]) s_im_codeOk_11) Qzi
def Qaq8:SC:=.reg [cJ 120 .add 41 1,mJ 41 120] [2,3,5,6,39,40,41]
def Qaq9:SC:=.seq (.block 1 (sR (mJ 43 41::iJ 44 5 39 41::tJ 45 5 44::eI 8 (.alloc [.sl true 2 [],.sl true 4 [],.int .i64 0,.int .i64 0,.sl true 1 []])::Qzm) [2,3,5,6,7,8,39,40,41] Qaq7)) Qaq8
def Qaj2:SC:=sR [bJ 42 .lss 41 40] [2,3,5,6,39,40,41,42] (cX 42 0 Qaq9)
def Qara:SC:=sR [fB 4 true] [4] .ret
def Qarb:SC:=.seq (sR [fJ 38 2 5,lJ 39 38,nJ 40 39,zJ 41 0] [2,3,5,6,39,40,41] (bL 0 Qaj2)) Qara
def Qzj:SC:=sR (fI 37 (.mkf Qag [.t 5])::eI 6 (.alloc [.fnil])::Qzl) [2,3,5,6] Qarb
def Qarc:SC:=.seq (sR (fJ 17 1 5::lJ 18 17::aJ 19 Qay [.t 18,kI 0,kI 300]::Qjl) [2,3,5,36] s_im_codeOk_4) Qzj
def Qard:SC:=sR (fJ 12 0 2::lJ 13 12::lJ 14 3::iJ 15 3 13 14::tJ 16 3 15::eI 5 (.alloc [.int .i64 0,.int .i64 0,.sl true 5 []])::Qzk) [2,3,5] Qarc
def Qa7q:SC:=sR [vJ 2 0,vJ 3 1,fB 4 false] [2,3] Qard
def Qhq:List RS:=[.tmp 4]
theorem Qa60:mFn prog Qr3 2 121 Qa7q Qhq=true:=by kernel_rfl
def Qkv:List Item:=[mJ 3 8]
def Qaec:SC:=sR (mJ 4 0::fJ 5 1 1::lJ 6 5::cJ 7 .sub 6 1::aJ 8 Qay [.t 4,kI 0,.t 7]::Qkv) [3] .ret
def Qare:SC:=sR [fB 3 false] [0,1] Qaec
def Qy5:List RS:=[.tmp 3]
theorem Qap5:mFn prog Qag 2 9 Qare Qy5=true:=by kernel_rfl
def Qkw:List Item:=[oJ 10 9,mJ 3 10]
def Qaed:SC:=sR (mJ 4 0::fJ 5 2 1::lJ 6 5::nJ 7 6::cJ 8 .sub 7 1::aJ 9 Qay [.t 4,kI 1,.t 8]::Qkw) [3] .ret
def Qarf:SC:=sR [fB 3 false] [0,1] Qaed
def Qy6:List RS:=[.tmp 3]
theorem Qap6:mFn prog Qhc 2 11 Qarf Qy6=true:=by kernel_rfl
def Qkx:List Item:=[oJ 9 8,mJ 4 9]
def Qaee:SC:=sR (tJ 5 1 1::lJ 6 2::tJ 7 4 3::aJ 8 Q0k [.t 5,.t 6,.t 7]::Qkx) [4] .ret
def Qarg:SC:=sR [vJ 3 0,fB 4 false] [1,2,3] Qaee
def Qy7:List RS:=[.tmp 4]
theorem Qap7:mFn prog Qhd 3 10 Qarg Qy7=true:=by kernel_rfl
def Qky:List Item:=[oJ 7 6,mJ 3 7]
def Qaef:SC:=sR (lJ 4 1::mJ 5 0::eI 6 (.callv (.t 4) [.t 5])::Qky) [3] .ret
def Qarh:SC:=sR [fB 3 false] [0,1] Qaef
def Qy8:List RS:=[.tmp 3]
theorem Qap8:mFn prog Qhe 2 8 Qarh Qy8=true:=by kernel_rfl
def Q39:SC:=sR [lJ 4 1,fJ 5 0 2,lJ 6 5,fI 7 (.lup 0 (.c (.bool false)) (.t 4) (.t 6)),oJ 8 7,mJ 3 8] [3] .ret
def Qaeh:SC:=sR [vJ 2 0,fB 3 false] [1,2] Q39
def Qod:List RS:=[.tmp 3]
theorem Qac8:mFn prog Qa1 2 9 Qaeh Qod=true:=by kernel_rfl
def Qaj3:SC:=cT 4 .skip (.reg [cJ 12 .eql 3 9,mJ 4 12] [4])
def Qaj4:SC:=cT 4 .skip (sR [cJ 11 .eql 3 8,mJ 4 11] [3,4] Qaj3)
def Qaj5:SC:=cT 4 .skip (sR [cJ 10 .eql 3 5,mJ 4 10] [3,4] Qaj4)
def Qaj6:SC:=cT 4 .skip (sR [cJ 9 .eql 3 4,mJ 4 9] [3,4] Qaj5)
def Qaj7:SC:=cT 4 .skip (sR [cJ 8 .eql 3 3,mJ 4 8] [3,4] Qaj6)
def Qaj8:SC:=cT 4 .skip (sR [cJ 7 .eql 3 10,mJ 4 7] [3,4] Qaj7)
def Qaj9:SC:=cT 4 .skip (sR [cJ 6 .eql 3 2,mJ 4 6] [3,4] Qaj8)
def Qta:SC:=cT 4 (sR [fB 2 true] [2] .ret) .skip
def Qaka:SC:=.block 0 (.seq (sR [cJ 5 .eql 3 1,mJ 4 5] [3,4] Qaj9) Qta)
def Qtb:SC:=sR [fB 2 false] [2] .ret
def Qaei:SC:=.seq (sR [mJ 3 0] [3] Qaka) Qtb
def Qaxl:SC:=sR [fB 2 false] [0] Qaei
def Qgw:List RS:=[.tmp 2]
theorem Qawo:mFn prog Qi3 1 13 Qaxl Qgw=true:=by kernel_rfl
def Qarj:SC:=cT 6 .skip (.reg [cJ 10 .eql 3 13,mJ 6 10] [6])
def Qark:SC:=cT 6 .skip (sR [cJ 9 .eql 3 11,mJ 6 9] [3,6] Qarj)
def Qarl:SC:=cT 6 .skip (sR [cJ 8 .eql 3 10,mJ 6 8] [3,6] Qark)
def Qzn:SC:=cT 6 (sR [zJ 2 1] [2] .ret) .skip
def Qarm:SC:=cT 4 (sR [zJ 2 0] [2] .ret) (.seq (sR [cJ 7 .eql 3 2,mJ 6 7] [3,6] Qarl) Qzn)
def Qarn:SC:=.block 0 (sR [cJ 5 .eql 3 1,mJ 4 5] [3,4] Qarm)
def Qzo:SC:=sR [zJ 2 2] [2] .ret
def Qaro:SC:=.seq (sR [mJ 3 0] [3] Qarn) Qzo
def Qa1j:SC:=sR [zJ 2 0] [0] Qaro
def Qiq:List RS:=[.tmp 2]
theorem Qa0h:mFn prog Qmg 1 11 Qa1j Qiq=true:=by kernel_rfl
def Q4c:List Item:=[sJ 3 7 13]
def Q4d:List Item:=[sJ 1 8 14]
def Qmy:List Item:=[pT 24 19 23]
def Q4e:List Item:=oJ 18 17::mJ 19 18::gFf 20 19 2 5::gFl 21 19 20::gF 22 19 (.mkf Qi4 [.t 8])::.e (some 23) (some (19,false)) (.call Qbo [.t 21,.t 22])::Qmy
def s_im_insOk_4:SC:=cT 24 (sR [fB 6 false] [6] .ret) .skip
def Qgx:List Item:=[gF 39 35 (.not (.t 38)),gFm 40 35 39,gTf 41 40 1 5,gTl 42 40 41,gT 43 40 (.bin 0 .neq (.t 42) (kI (-1))),gF 44 35 (.pick (.t 40) (.t 43) (.k (.c (.bool false)))),pT 45 35 44]
def Qgy:List Item:=gT 33 28 (.not (.t 32))::pF 34 28 33::mJ 35 34::gFf 36 35 0 5::gFl 37 35 36::.e (some 38) (some (35,false)) (.call Qj6 [.t 37])::Qgx
def Qmz:List Item:=mJ 28 27::gTl 29 28 8::gTf 30 28 1 5::gTl 31 28 30::.e (some 32) (some (28,true)) (.callv (.t 29) [.t 31])::Qgy
def s_im_insOk_8:SC:=cT 45 (sR [fB 6 false] [6] .ret) .skip
def Qm0:List Item:=[pF 58 54 57,mJ 6 58]
def Qfw:List Item:=[mJ 66 65,gTf 67 66 2 5,gTl 68 66 67,gT 69 66 (.len (.t 68)),gTf 70 66 0 3,gTl 71 66 70,gTf 72 66 3 5,gTl 73 66 72,gT 74 66 (.iad 3 (.t 71) (.t 73)),gTf 75 66 0 74,gTl 76 66 75,gT 77 66 (.bin 0 .eql (.t 69) (.t 76)),pF 78 66 77,mJ 6 78]
def Qaxm:SC:=cT 59 (.seq (.dreg 19 [0,1,2,3,4,5,6,7,8,9,10,11,12,13,14,15,16,17,18] ( fJ 61 3 5::lJ 62 61::mJ 63 1::cJ 64 .sub 63 1::aJ 65 Qay [.t 62,kI 0,.t 64]::Qfw) [6]) .ret) .skip
def Qaxn:SC:=cT 48 (sR (fJ 50 2 5::lJ 51 50::nJ 52 51::cJ 53 .eql 52 0::mJ 54 53::gTf 55 54 3 5::gTl 56 54 55::.e (some 57) (some (54,true)) (.call Qr4 [.t 56])::Qm0) [6] .ret) (sR [cJ 60 .eql 47 14,mJ 59 60] [1,3,5,59] Qaxm)
def Qaxo:SC:=.block 0 (sR [cJ 49 .eql 47 1,mJ 48 49] [1,3,5,47,48] Qaxn)
def Qjm:List Item:=[.chk 84 (some (82,true)) (.ld 1 false (.t 83)),.chk 85 (some (82,true)) (.len (.t 84)),gT 89 82 (.bin 0 .eql (.t 85) (.t 88)),pF 90 82 89,mJ 6 90]
def Qaxp:SC:=.seq (.dreg 13 [0,1,2,3,4,5,6,7,8,9,5,6,10,11,12] ( fJ 79 3 5::lJ 80 79::cJ 81 .eql 80 0::mJ 82 81::gTf 83 82 2 5::gTl 84 82 83::gT 85 82 (.len (.t 84))::gTf 86 82 0 5::gTl 87 82 86::.e (some 88) (some (82,true)) (.call Qmg [.t 87])::Qjm) [6]) .ret
def Q4a:SC:=.seq (sR [fJ 46 0 5,lJ 47 46] [1,3,5,47] Qaxo) Qaxp
def Q4b:SC:=.seq (sR (fJ 25 0 5::lJ 26 25::aJ 27 Qj6 [.t 26]::Qmz) [1,3,5,45] s_im_insOk_8) Q4a
def Qaxq:SC:=.seq (sR (fJ 15 0 5::lJ 16 15::aJ 17 Qmh [.t 16]::Q4e) [1,3,5,8,24] s_im_insOk_4) Q4b
def Qaxr:SC:=sR (fI 14 (.mkf Qc3 [.t 7])::eI 8 (.alloc [.fnil])::Q4d) [1,3,5,8] Qaxq
def Qaxs:SC:=sR (fJ 9 0 3::lJ 10 9::mJ 11 1::iJ 12 3 10 11::tJ 13 3 12::eI 7 (.alloc [.int .i64 0,.int .i64 0,.sl true 5 []])::Q4c) [1,3,5,7] Qaxr
def Qbfz:SC:=sR [vJ 3 0,vJ 5 2,fB 6 false] [1,3,5] Qaxs
def Qki:List RS:=[.tmp 6]
theorem Qbfg:mFn prog Q0k 3 91 Qbfz Qki=true:=by kernel_rfl
def Qoo:List Item:=[mJ 3 8]
def Qakb:SC:=sR (mJ 4 0::fJ 5 1 1::lJ 6 5::cJ 7 .sub 6 1::aJ 8 Qay [.t 4,kI 0,.t 7]::Qoo) [3] .ret
def Qaxt:SC:=sR [fB 3 false] [0,1] Qakb
def Q25:List RS:=[.tmp 3]
theorem Qawp:mFn prog Qc3 2 9 Qaxt Q25=true:=by kernel_rfl
def Qop:List Item:=[oJ 7 6,mJ 3 7]
def Qakc:SC:=sR (lJ 4 1::mJ 5 0::eI 6 (.callv (.t 4) [.t 5])::Qop) [3] .ret
def Qaxu:SC:=sR [fB 3 false] [0,1] Qakc
def Q26:List RS:=[.tmp 3]
theorem Qawq:mFn prog Qi4 2 8 Qaxu Q26=true:=by kernel_rfl
def Qzp:List Item:=[mJ 2 4]
def Qaxv:SC:=sR (mJ 3 0::aJ 4 Qay [.t 3,kI 0,kI 255]::Qzp) [2] .ret
def Qa7r:SC:=sR [fB 2 false] [0] Qaxv
def Qaii:List RS:=[.tmp 2]
theorem Qa61:mFn prog Qr4 1 5 Qa7r Qaii=true:=by kernel_rfl
def Q4f:List Item:=[mJ 2 4]
def Qa1k:SC:=sR (mJ 3 0::aJ 4 Qay [.t 3,kI 1,kI 14]::Q4f) [2] .ret
def Qbf0:SC:=sR [fB 2 false] [0] Qa1k
def Qau0:List RS:=[.tmp 2]
theorem Qbfh:mFn prog Qmh 1 5 Qbf0 Qau0=true:=by kernel_rfl
def Qzq:List Item:=[mJ 3 16]
def Qzr:List Item:=.chk 10 none (.ld 3 true (.t 1))::fI 15 (.bld [.int .i64 0,.int .i64 0,.sl true 5 [],.sl true 1 [],.sl true 1 []] [(0,3,.t 10),(3,1,.t 14)])::eI 16 (.boxm (.t 15))::Qzq
def Qzs:List Item:=[kJ 33 23,fJ 34 4 33,sJ 1 34 32]
def Qzt:List Item:=hJ 27 26::fI 31 (.bsl 1 [.t 30])::xJ 32 1 27 31::Qzs
def Qaxw:SC:=.dreg 13 [0,1,2,3,4,5,6,7,4,8,9,10,11,12] ( mJ 23 3::mJ 24 3::kJ 25 24::fJ 26 4 25::lJ 27 26::tJ 28 3 1::mJ 29 4::aJ 30 Qgq [.t 28,.t 29]::Qzt) [1,3,19,20]
def Qaxx:SC:=.reg [cJ 35 .add 20 1,mJ 20 35] [1,3,19,20]
def Qaxy:SC:=.seq (.block 1 (sR [mJ 22 20,mJ 4 22] [1,3,4,19,20] Qaxw)) Qaxx
def Qar3:SC:=sR [bJ 21 .lss 20 19] [1,3,19,20,21] (cX 21 0 Qaxy)
def Qzu:List Item:=[mJ 7 47]
def Qzv:List Item:=[sJ 2 9 58]
def Qarp:SC:=.reg [mJ 59 7,fJ 60 0 9,lJ 61 60,.e none none (.del 0 (.t 59) (.t 61))] [1,3,5,6,7,53,54,55]
def Qarq:SC:=.reg [cJ 62 .add 55 1,mJ 55 62] [1,3,5,6,7,53,54,55]
def Qarr:SC:=.seq (.block 7 (sR (iJ 57 2 53 55::tJ 58 2 57::eI 9 (.alloc [.int .i64 0,.sl true 1 []])::Qzv) [1,3,5,6,7,9,53,54,55] Qarp)) Qarq
def Qakd:SC:=sR [bJ 56 .lss 55 54] [1,3,5,6,7,53,54,55,56] (cX 56 6 Qarr)
def Qtc:List Item:=[fB 5 true]
def Qars:SC:=cT 73 (.reg (mJ 74 3::kJ 75 74::fJ 76 3 75::lJ 77 76::mJ 78 6::mJ 79 7::iJ 80 1 77 78::sJ 1 80 79::Qtc) [1,3,5,6]) .skip
def Qart:SC:=.seq (.dreg 11 [0,1,2,3,4,5,6,7,8,9,10] ( mJ 63 7::fI 64 (.lenm (.t 63))::mJ 65 3::kJ 66 65::fJ 67 3 66::lJ 68 67::mJ 69 6::iJ 70 1 68 69::lJ 71 70::fI 72 (.lenm (.t 71))::bJ 73 .neq 64 72::[]) [1,3,5,6,7,73]) Qars
def Qaru:SC:=.seq (sR [fJ 48 2 1,lJ 49 48,mJ 50 6,iJ 51 5 49 50,fJ 52 0 51,lJ 53 52,nJ 54 53,zJ 55 0] [1,3,5,6,7,53,54,55] (bL 6 Qakd)) Qart
def Qarv:SC:=.reg [mJ 43 6,cJ 44 .sub 43 1,mJ 6 44] [1,3,5,6]
def Qarw:SC:=.seq (.block 5 (sR (mJ 45 3::mJ 46 6::aJ 47 Qbj [.t 45,.t 46,kI (-1)]::Qzu) [1,3,5,6,7] Qaru)) Qarv
def Qake:SC:=.seq (sR [mJ 41 6,cJ 42 .geq 41 0] [1,3,5,6,42] (cT 42 .skip (.exit 4))) Qarw
def Qarx:SC:=sR [fJ 37 2 1,lJ 38 37,nJ 39 38,cJ 40 .sub 39 1,mJ 6 40] [1,3,5,6] (bL 4 Qake)
def Qary:SC:=.block 3 (sR [fB 5 false] [1,3,5] Qarx)
def Qakf:SC:=.seq (sR [mJ 36 5] [1,3,36] (cT 36 .skip (.exit 2))) Qary
def Qarz:SC:=sR [mJ 81 3,mJ 2 81] [2] .ret
def Qar0:SC:=.seq (sR [fB 5 true] [1,3,5] (bL 2 Qakf)) Qarz
def Qar1:SC:=.seq (sR [fJ 17 2 1,lJ 18 17,nJ 19 18,zJ 20 0] [1,3,19,20] (bL 0 Qar3)) Qar0
def Qar2:SC:=.seq (.dreg 8 [0,1,2,3,4,0,5,6,7] ( tJ 10 3 1::fJ 11 2 1::lJ 12 11::nJ 13 12::eI 14 (.mks 1 [.mnil] (.t 13))::Qzr) [1,3]) Qar1
def Qa7s:SC:=sR [vJ 1 0,fI 2 (.mv (.k (.c .pnil)))] [1] Qar2
def Qaij:List RS:=[.tmp 2]
theorem Qa62:mFn prog Qfy 1 82 Qa7s Qaij=true:=by kernel_rfl
def Qh1:List Item:=[mJ 7 13]
def Qh2:List Item:=[sJ 5 8 21]
def Q4g:SC:=cT 24 (.reg [mJ 25 7,fJ 26 3 8,lJ 27 26,.e none none (.upd 0 (.t 25) (.t 27) (.k (.c (.bool true))))] [2,7,8]) .skip
def Qh3:List Item:=[mJ 10 42]
def Q4h:SC:=cT 44 (.reg [mJ 45 7,mJ 46 10,.e none none (.del 0 (.t 45) (.t 46))] [2,7,8,9]) .skip
def Q4i:SC:=sR [mJ 43 10,cJ 44 .geq 43 0] [2,7,8,9,10,44] Q4h
def Q4j:SC:=.reg [mJ 47 7,fJ 48 1 8,lJ 49 48,mJ 50 9,iJ 51 4 49 50,fJ 52 2 51,lJ 53 52,aJ 54 Qfd [.t 47,.t 53]] [2,7,8,9]
def Q4k:SC:=.reg [mJ 35 9,cJ 36 .sub 35 1,mJ 9 36] [2,7,8,9]
def Q4l:SC:=.seq (.block 1 (.seq (sR (fJ 37 1 8::lJ 38 37::mJ 39 9::iJ 40 4 38 39::tJ 41 4 40::aJ 42 Qr2 [.t 41]::Qh3) [2,7,8,9,10] Q4i) Q4j)) Q4k
def Q1i:SC:=.seq (sR [mJ 32 9,mJ 33 2,bJ 34 .gtr 32 33] [2,7,8,9,34] (cT 34 .skip (.exit 0))) Q4l
def Q1d:SC:=sR [mJ 55 7,mJ 6 55] [6] .ret
def Q1e:SC:=.seq (sR [fJ 28 1 8,lJ 29 28,nJ 30 29,cJ 31 .sub 30 1,mJ 9 31] [2,7,8,9] (bL 0 Q1i)) Q1d
def Q1f:SC:=.seq (sR [fJ 22 2 8,lJ 23 22,aJ 24 Qfz [.t 23]] [2,7,8,24] Q4g) Q1e
def Q1g:SC:=sR (mJ 14 0::kJ 15 14::fJ 16 0 15::fJ 17 2 16::lJ 18 17::mJ 19 1::iJ 20 5 18 19::tJ 21 5 20::eI 8 (.alloc [.sl true 2 [],.sl true 4 [],.int .i64 0,.int .i64 0,.sl true 1 []])::Qh2) [2,7,8] Q1f
def Q1h:SC:=sR (mJ 11 0::mJ 12 1::aJ 13 Qhf [.t 11,.t 12]::Qh1) [0,1,2,7] Q1g
def Qaej:SC:=sR [fI 6 (.mv (.k (.c .mnil)))] [0,1,2] Q1h
def Qoe:List RS:=[.tmp 6]
theorem Qac9:mFn prog Qbj 3 56 Qaej Qoe=true:=by kernel_rfl
def Qh4:List Item:=[sJ 4 7 19]
def Qdi:List Item:=[.chk 29 (some (23,true)) (.ld 1 false (.t 28)),gT 30 23 (.lup 0 (.c (.bool false)) (.t 27) (.t 29)),gT 31 23 (.not (.t 30)),pF 32 23 31,mJ 6 32]
def Qdj:List Item:=mJ 23 22::gTm 24 23 0::gTm 25 23 1::gTm 26 23 2::gTf 28 23 1 7::gTl 29 23 28::.e (some 27) (some (23,true)) (.call Qbj [.t 24,.t 25,.t 26])::Qdi
def Q4m:SC:=.seq (.dreg 14 [0,1,2,3,4,5,6,8,9,7,9,10,11,12,13] ( fJ 20 0 7::lJ 21 20::aJ 22 Qi3 [.t 21]::Qdj) [6]) .ret
def Q4n:SC:=sR (mJ 8 0::kJ 9 8::fJ 10 0 9::fJ 11 2 10::lJ 12 11::mJ 13 1::iJ 14 5 12 13::fJ 15 1 14::lJ 16 15::mJ 17 2::iJ 18 4 16 17::tJ 19 4 18::eI 7 (.alloc [.int .i64 0,.int .i64 0,.sl true 1 [],.int .i64 0])::Qh4) [0,1,2,7] Q4m
def Qaek:SC:=sR [fB 6 false] [0,1,2] Q4n
def Qgb:List RS:=[.tmp 6]
theorem Qada:mFn prog Qck 3 33 Qaek Qgb=true:=by kernel_rfl
def Qk9:List Item:=[mJ 5 12]
def Qla:List Item:=[nJ 23 22,zJ 24 0]
def Qcp:List Item:=[fI 37 (.ext (.t 36) 0)]
def Qlb:List Item:=[fI 39 (.ext (.t 38) 0),mJ 8 39]
def Qael:SC:=.reg [mJ 40 5,mJ 41 8,.e none none (.upd 0 (.t 40) (.t 41) (.k (.c (.bool true))))] [0,1,5,7,22,23,24,35]
def Qaem:SC:=.block 3 (sR (eI 38 (.ent (.t 35))::Qlb) [0,1,5,7,8,22,23,24,35] Qael)
def Q8i:SC:=sR (eI 36 (.nxt (.t 35))::Qcp) [0,1,5,7,22,23,24,35,37] (cX 37 2 Qaem)
def Qlc:List Item:=[mJ 9 50]
def Qld:List Item:=[sJ 2 11 64]
def Qaen:SC:=.reg [mJ 65 5,fJ 66 1 11,lJ 67 66,mJ 68 9,iJ 69 1 67 68,lJ 70 69,.e none none (.upd 0 (.t 65) (.t 70) (.k (.c (.bool true))))] [0,1,5,9,22,23,24,59,60,61]
def Q78:SC:=.reg [cJ 71 .add 61 1,mJ 61 71] [0,1,5,9,22,23,24,59,60,61]
def Q79:SC:=.seq (.block 5 (sR (iJ 63 2 59 61::tJ 64 2 63::eI 11 (.alloc [.int .i64 0,.sl true 1 []])::Qld) [0,1,5,9,11,22,23,24,59,60,61] Qaen)) Q78
def Q4o:SC:=sR [bJ 62 .lss 61 60] [0,1,5,9,22,23,24,59,60,61,62] (cX 62 4 Q79)
def Q8a:SC:=sR [mJ 51 0,kJ 52 51,fJ 53 0 52,fJ 54 2 53,lJ 55 54,mJ 56 7,iJ 57 5 55 56,fJ 58 0 57,lJ 59 58,nJ 60 59,zJ 61 0] [0,1,5,9,22,23,24,59,60,61] (bL 4 Q4o)
def Q8b:SC:=sR (mJ 42 0::kJ 43 42::fJ 44 4 43::lJ 45 44::mJ 46 7::iJ 47 1 45 46::lJ 48 47::mJ 49 1::aJ 50 Qhk [.t 48,.t 49]::Qlc) [0,1,5,7,9,22,23,24] Q8a
def Q8c:SC:=.seq (sR [mJ 28 0,kJ 29 28,fJ 30 3 29,lJ 31 30,mJ 32 7,iJ 33 1 31 32,lJ 34 33,eI 35 (.rng (.t 34))] [0,1,5,7,22,23,24,35] (bL 2 Q8i)) Q8b
def Q8d:SC:=.reg [cJ 72 .add 24 1,mJ 24 72] [0,1,5,22,23,24]
def Q8e:SC:=.seq (.block 1 (sR [iJ 26 1 22 24,lJ 27 26,mJ 7 27] [0,1,5,7,22,23,24] Q8c)) Q8d
def Q4p:SC:=sR [bJ 25 .lss 24 23] [0,1,5,22,23,24,25] (cX 25 0 Q8e)
def Q8f:SC:=sR [mJ 73 5,mJ 4 73] [4] .ret
def Q8g:SC:=.seq (sR (mJ 13 0::kJ 14 13::fJ 15 0 14::fJ 16 2 15::lJ 17 16::mJ 18 1::iJ 19 5 17 18::fJ 20 4 19::lJ 21 20::aJ 22 Q6e [.t 21]::Qla) [0,1,5,22,23,24] (bL 0 Q4p)) Q8f
def Q8h:SC:=sR (eI 12 (.mkm)::Qk9) [0,1,5] Q8g
def Qar4:SC:=sR [fI 4 (.mv (.k (.c .mnil)))] [0,1] Q8h
def Qza:List RS:=[.tmp 4]
theorem Qaqa:mFn prog Qhf 2 74 Qar4 Qza=true:=by kernel_rfl
def Qct:List Item:=[sJ 5 7 13]
def Qcu:List Item:=[mJ 5 19]
def Qcv:List Item:=fI 18 (.bsl 5 [.t 17])::xJ 19 5 14 18::Qcu
def Qjn:SC:=.reg (mJ 14 5::mJ 15 1::tJ 16 5 7::eI 17 (.callv (.t 15) [.t 16])::Qcv) [1,5,8,9,10]
def Qjo:SC:=.reg [cJ 20 .add 10 1,mJ 10 20] [1,5,8,9,10]
def Qjp:SC:=.seq (.block 1 (sR (iJ 12 5 8 10::tJ 13 5 12::eI 7 (.alloc [.sl true 2 [],.sl true 4 [],.int .i64 0,.int .i64 0,.sl true 1 []])::Qct) [1,5,7,8,9,10] Qjn)) Qjo
def Qig:SC:=sR [bJ 11 .lss 10 9] [1,5,8,9,10,11] (cX 11 0 Qjp)
def Qjq:SC:=sR [mJ 21 5,mJ 4 21] [4] .ret
def Qjr:SC:=.seq (sR [mJ 8 0,nJ 9 8,zJ 10 0] [1,5,8,9,10] (bL 0 Qig)) Qjq
def Qjs:SC:=sR [fI 5 (.mv (.k (.c (.sl true 5 []))))] [0,1,5] Qjr
def Qm1:SC:=sR [fI 4 (.mv (.k (.c (.sl true 5 []))))] [0,1] Qjs
def Qei:List RS:=[.tmp 4]
theorem Qms:mFn prog Qbx 2 22 Qm1 Qei=true:=by kernel_rfl
def Qdr:List Item:=[sJ 3 7 13]
def Qds:List Item:=[mJ 5 19]
def Qdt:List Item:=fI 18 (.bsl 3 [.t 17])::xJ 19 3 14 18::Qds
def Qm2:SC:=.reg (mJ 14 5::mJ 15 1::tJ 16 3 7::eI 17 (.callv (.t 15) [.t 16])::Qdt) [1,5,8,9,10]
def Qm3:SC:=.reg [cJ 20 .add 10 1,mJ 10 20] [1,5,8,9,10]
def Qm4:SC:=.seq (.block 1 (sR (iJ 12 3 8 10::tJ 13 3 12::eI 7 (.alloc [.int .i64 0,.int .i64 0,.sl true 5 []])::Qdr) [1,5,7,8,9,10] Qm2)) Qm3
def Qle:SC:=sR [bJ 11 .lss 10 9] [1,5,8,9,10,11] (cX 11 0 Qm4)
def Qm5:SC:=sR [mJ 21 5,mJ 4 21] [4] .ret
def Qm6:SC:=.seq (sR [mJ 8 0,nJ 9 8,zJ 10 0] [1,5,8,9,10] (bL 0 Qle)) Qm5
def Qm7:SC:=sR [fI 5 (.mv (.k (.c (.sl true 3 []))))] [0,1,5] Qm6
def Qtd:SC:=sR [fI 4 (.mv (.k (.c (.sl true 3 []))))] [0,1] Qm7
def Qf3:List RS:=[.tmp 4]
theorem Qsk:mFn prog Qca 2 22 Qtd Qf3=true:=by kernel_rfl
def Qex:List Item:=[sJ 4 7 13]
def Qey:List Item:=[mJ 5 19]
def Qez:List Item:=fI 18 (.bsl 4 [.t 17])::xJ 19 4 14 18::Qey
def Qte:SC:=.reg (mJ 14 5::mJ 15 1::tJ 16 4 7::eI 17 (.callv (.t 15) [.t 16])::Qez) [1,5,8,9,10]
def Qtf:SC:=.reg [cJ 20 .add 10 1,mJ 10 20] [1,5,8,9,10]
def Qtg:SC:=.seq (.block 1 (sR (iJ 12 4 8 10::tJ 13 4 12::eI 7 (.alloc [.int .i64 0,.int .i64 0,.sl true 1 [],.int .i64 0])::Qex) [1,5,7,8,9,10] Qte)) Qtf
def Qp6:SC:=sR [bJ 11 .lss 10 9] [1,5,8,9,10,11] (cX 11 0 Qtg)
def Qth:SC:=sR [mJ 21 5,mJ 4 21] [4] .ret
def Qti:SC:=.seq (sR [mJ 8 0,nJ 9 8,zJ 10 0] [1,5,8,9,10] (bL 0 Qp6)) Qth
def Qtj:SC:=sR [fI 5 (.mv (.k (.c (.sl true 4 []))))] [0,1,5] Qti
def Q1j:SC:=sR [fI 4 (.mv (.k (.c (.sl true 4 []))))] [0,1] Qtj
def Qhr:List RS:=[.tmp 4]
theorem Q0q:mFn prog Qcw 2 22 Q1j Qhr=true:=by kernel_rfl
def Qe0:List Item:=[sJ 2 7 13]
def Qe1:List Item:=[mJ 5 19]
def Qe2:List Item:=fI 18 (.bsl 2 [.t 17])::xJ 19 2 14 18::Qe1
def Qtk:SC:=.reg (mJ 14 5::mJ 15 1::tJ 16 2 7::eI 17 (.callv (.t 15) [.t 16])::Qe2) [1,5,8,9,10]
def Qtl:SC:=.reg [cJ 20 .add 10 1,mJ 10 20] [1,5,8,9,10]
def Qtm:SC:=.seq (.block 1 (sR (iJ 12 2 8 10::tJ 13 2 12::eI 7 (.alloc [.int .i64 0,.sl true 1 []])::Qe0) [1,5,7,8,9,10] Qtk)) Qtl
def Qqd:SC:=sR [bJ 11 .lss 10 9] [1,5,8,9,10,11] (cX 11 0 Qtm)
def Qtn:SC:=sR [mJ 21 5,mJ 4 21] [4] .ret
def Qto:SC:=.seq (sR [mJ 8 0,nJ 9 8,zJ 10 0] [1,5,8,9,10] (bL 0 Qqd)) Qtn
def Qtp:SC:=sR [fI 5 (.mv (.k (.c (.sl true 2 []))))] [0,1,5] Qto
def Q1k:SC:=sR [fI 4 (.mv (.k (.c (.sl true 2 []))))] [0,1] Qtp
def Qhs:List RS:=[.tmp 4]
theorem Q0r:mFn prog Qcx 2 22 Q1k Qhs=true:=by kernel_rfl
def Qaeo:SC:=cT 8 (sR [zJ 2 0] [2] .ret) .skip
def Qaep:SC:=cT 6 (sR [zJ 2 2] [2] .ret) (sR [cJ 9 .eql 3 3,mJ 8 9] [8] Qaeo)
def Qaeq:SC:=cT 4 (sR [zJ 2 1] [2] .ret) (sR [cJ 7 .eql 3 2,mJ 6 7] [3,6] Qaep)
def Qaer:SC:=.block 0 (sR [cJ 5 .eql 3 1,mJ 4 5] [3,4] Qaeq)
def Qaes:SC:=sR [zJ 2 (-1)] [2] .ret
def Qaet:SC:=.seq (sR [mJ 3 0] [3] Qaer) Qaes
def Qar5:SC:=sR [zJ 2 0] [0] Qaet
def Qjf:List RS:=[.tmp 2]
theorem Qaqb:mFn prog Qhg 1 10 Qar5 Qjf=true:=by kernel_rfl
def Qtq:List Item:=[fB 5 false]
def Qtr:List Item:=[oJ 8 7]
def Qts:List Item:=[fB 5 false]
def Qar6:SC:=cT 8 (sR (fI 9 (.bld [.sl true 3 []] [])::sJ 1 4 9::Qts) [4,5] .ret) .skip
def Qtt:List Item:=[fB 5 true]
def Qtu:List Item:=fI 14 (.bld [.sl true 3 []] [(0,1,.t 13)])::sJ 1 4 14::Qtt
def Qar7:SC:=sR (fJ 10 0 2::lJ 11 10::mJ 12 1::aJ 13 Qca [.t 11,.t 12]::Qtu) [4,5] .ret
def Qar8:SC:=.seq (sR (tJ 6 1 2::aJ 7 Qa6 [.t 6]::Qtr) [1,2,4,8] Qar6) Qar7
def Qa1l:SC:=sR (vJ 2 0::eI 4 (.alloc [.sl true 3 []])::Qtq) [1,2,4] Qar8
def Qst:List RS:=[.cell 4 1 true,.tmp 5]
theorem Qa0i:mFn prog Qmi 2 15 Qa1l Qst=true:=by kernel_rfl
def Q4q:SC:=.reg [mJ 13 0,mJ 14 6,.e none none (.upd 0 (.t 13) (.t 14) (.k (.c (.bool true))))] [0,7,8,9]
def Q4r:SC:=.reg [cJ 15 .add 9 1,mJ 9 15] [0,7,8,9]
def Q4s:SC:=.seq (.block 1 (sR [iJ 11 1 7 9,lJ 12 11,mJ 6 12] [0,6,7,8,9] Q4q)) Q4r
def Q1l:SC:=sR [bJ 10 .lss 9 8] [0,7,8,9,10] (cX 10 0 Q4s)
def Q4t:SC:=sR [mJ 16 0,mJ 4 16] [4] .ret
def Q4u:SC:=.seq (sR [mJ 7 1,nJ 8 7,zJ 9 0] [0,7,8,9] (bL 0 Q1l)) Q4t
def Qaew:SC:=sR [fI 4 (.mv (.k (.c .mnil)))] [0,1] Q4u
def Qof:List RS:=[.tmp 4]
theorem Qadb:mFn prog Qfd 2 17 Qaew Qof=true:=by kernel_rfl
def Qaao:List Item:=[mJ 5 4,gTm 6 5 0,gT 7 5 (.bin 0 .neq (.t 6) (kI 12)),pF 8 5 7,mJ 9 8,gTm 10 9 0,gT 11 9 (.bin 0 .neq (.t 10) (kI 13)),pF 12 9 11,mJ 2 12]
def Qa7w:SC:=sR (mJ 3 0::aJ 4 Qmh [.t 3]::Qaao) [2] .ret
def Qbk8:SC:=sR [fB 2 false] [0] Qa7w
def Qa02:List RS:=[.tmp 2]
theorem Qbj6:mFn prog Qj6 1 13 Qbk8 Qa02=true:=by kernel_rfl
def Qax0:SC:=sR [mJ 3 0,cJ 4 .eql 3 2,mJ 5 4,gFm 6 5 0,gF 7 5 (.bin 0 .eql (.t 6) (kI 3)),pT 8 5 7,mJ 2 8] [2] .ret
def Qa7x:SC:=sR [fB 2 false] [0] Qax0
def Qaik:List RS:=[.tmp 2]
theorem Qa63:mFn prog Qfz 1 9 Qa7x Qaik=true:=by kernel_rfl
def Qzw:List Item:=[mJ 9 20]
def Qzx:List Item:=[sJ 5 10 25]
def Qax6:SC:=cT 28 (.reg [mJ 29 9,fJ 30 3 10,lJ 31 30,iJ 32 1 29 31,.e none none (.sto 1 (.t 32) (.k (.c (.bool true))))] [3,9,10]) .skip
def Qzy:List Item:=[mJ 12 47]
def Qax7:SC:=cT 49 (.reg [mJ 50 9,mJ 51 12,iJ 52 1 50 51,.e none none (.sto 1 (.t 52) (.k (.c (.bool false))))] [3,9,10,11]) .skip
def Qax8:SC:=.reg [mJ 62 13,cJ 63 .add 62 1,mJ 13 63] [3,9,10,11,13]
def Qax9:SC:=.seq (.block 3 (.reg [mJ 64 9,fJ 65 1 10,lJ 66 65,mJ 67 11,iJ 68 4 66 67,fJ 69 2 68,lJ 70 69,mJ 71 13,iJ 72 1 70 71,lJ 73 72,iJ 74 1 64 73,.e none none (.sto 1 (.t 74) (.k (.c (.bool true))))] [3,9,10,11,13])) Qax8
def Qasj:SC:=.seq (sR [mJ 53 13,fJ 54 1 10,lJ 55 54,mJ 56 11,iJ 57 4 55 56,fJ 58 2 57,lJ 59 58,nJ 60 59,bJ 61 .lss 53 60] [3,9,10,11,13,61] (cT 61 .skip (.exit 2))) Qax9
def Qaya:SC:=sR [zJ 13 0] [3,9,10,11,13] (bL 2 Qasj)
def Qayb:SC:=.seq (sR [mJ 48 12,cJ 49 .geq 48 0] [3,9,10,11,12,49] Qax7) Qaya
def Qasc:SC:=.reg [mJ 40 11,cJ 41 .sub 40 1,mJ 11 41] [3,9,10,11]
def Qasd:SC:=.seq (.block 1 (sR (fJ 42 1 10::lJ 43 42::mJ 44 11::iJ 45 4 43 44::tJ 46 4 45::aJ 47 Qsf [.t 46]::Qzy) [3,9,10,11,12] Qayb)) Qasc
def Qako:SC:=.seq (sR [mJ 37 11,mJ 38 3,bJ 39 .gtr 37 38] [3,9,10,11,39] (cT 39 .skip (.exit 0))) Qasd
def Qase:SC:=sR [mJ 75 9,mJ 8 75] [8] .ret
def Qasf:SC:=.seq (sR [fJ 33 1 10,lJ 34 33,nJ 35 34,cJ 36 .sub 35 1,mJ 11 36] [3,9,10,11] (bL 0 Qako)) Qase
def Qasg:SC:=.seq (sR [fJ 26 2 10,lJ 27 26,cJ 28 .neq 27 1] [3,9,10,28] Qax6) Qasf
def Qash:SC:=sR (fJ 21 2 4::lJ 22 21::mJ 23 2::iJ 24 5 22 23::tJ 25 5 24::eI 10 (.alloc [.sl true 2 [],.sl true 4 [],.int .i64 0,.int .i64 0,.sl true 1 []])::Qzx) [3,9,10] Qasg
def Qasi:SC:=sR (fI 14 (.bsl 1 [])::fJ 15 1 5::lJ 16 15::mJ 17 2::iJ 18 1 16 17::lJ 19 18::xJ 20 1 14 19::Qzw) [2,3,4,9] Qash
def Qa79:SC:=sR [vJ 4 0,vJ 5 1,fI 8 (.mv (.k (.c (.sl true 1 []))))] [2,3,4,5] Qasi
def Qaio:List RS:=[.tmp 8]
theorem Qa65:mFn prog Qdl 4 76 Qa79 Qaio=true:=by kernel_rfl
def Qaa9:List Item:=[mJ 9 20]
def Qaba:List Item:=[mJ 10 25]
def Qabb:List Item:=mJ 24 2::aJ 25 Q2l [.t 23,.t 24]::Qaba
def Qa8d:SC:=.reg [mJ 35 11,cJ 36 .add 35 1,mJ 11 36] [2,3,4,5,9,10,11]
def Qa8e:SC:=.seq (.block 1 (.reg [mJ 37 9,fJ 38 2 4,lJ 39 38,mJ 40 3,iJ 41 5 39 40,fJ 42 0 41,lJ 43 42,mJ 44 11,iJ 45 2 43 44,fJ 46 1 45,lJ 47 46,mJ 48 10,iJ 49 1 47 48,lJ 50 49,iJ 51 1 37 50,.e none none (.sto 1 (.t 51) (.k (.c (.bool true))))] [2,3,4,5,9,10,11])) Qa8d
def Qa2p:SC:=.seq (sR [mJ 26 11,fJ 27 2 4,lJ 28 27,mJ 29 3,iJ 30 5 28 29,fJ 31 0 30,lJ 32 31,nJ 33 32,bJ 34 .lss 26 33] [2,3,4,5,9,10,11,34] (cT 34 .skip (.exit 0))) Qa8e
def Qakp:SC:=.reg [fJ 74 1 5,lJ 75 74,mJ 76 2,iJ 77 1 75 76,lJ 78 77,mJ 79 13,iJ 80 1 78 79,.e none none (.sto 1 (.t 80) (.k (.c (.bool true))))] [2,4,5,9,12,13]
def Qa8f:SC:=cT 61 (sR [mJ 62 12,mJ 63 62,gFf 64 63 1 5,gFl 65 63 64,gFm 66 63 2,gF 67 63 (.iad 1 (.t 65) (.t 66)),gFl 68 63 67,gFm 69 63 13,gF 70 63 (.iad 1 (.t 68) (.t 69)),gFl 71 63 70,gF 72 63 (.not (.t 71)),pT 73 63 72,mJ 12 73] [2,4,5,9,12,13] Qakp) .skip
def Qa8g:SC:=.reg [mJ 56 13,cJ 57 .add 56 1,mJ 13 57] [2,4,5,9,12,13]
def Qa8h:SC:=.seq (.block 3 (sR [mJ 58 9,mJ 59 13,iJ 60 1 58 59,lJ 61 60] [2,4,5,9,12,13,61] Qa8f)) Qa8g
def Qayc:SC:=.seq (sR [mJ 52 13,fJ 53 1 4,lJ 54 53,bJ 55 .lss 52 54] [2,4,5,9,12,13,55] (cT 55 .skip (.exit 2))) Qa8h
def Qa2j:SC:=sR [mJ 81 12,mJ 8 81] [8] .ret
def Qa2k:SC:=.seq (sR [zJ 13 0] [2,4,5,9,12,13] (bL 2 Qayc)) Qa2j
def Qa2l:SC:=sR [fB 12 false] [2,4,5,9,12] Qa2k
def Qa2m:SC:=.seq (sR [zJ 11 0] [2,3,4,5,9,10,11] (bL 0 Qa2p)) Qa2l
def Qa2n:SC:=sR (tJ 21 3 4::mJ 22 3::aJ 23 Qj9 [.t 21,.t 22]::Qabb) [2,3,4,5,9,10] Qa2m
def Qa2o:SC:=sR (fI 14 (.bsl 1 [])::fJ 15 0 5::lJ 16 15::mJ 17 3::iJ 18 1 16 17::lJ 19 18::xJ 20 1 14 19::Qaa9) [2,3,4,5,9] Qa2n
def Qblj:SC:=sR [vJ 4 0,vJ 5 1,fB 8 false] [2,3,4,5] Qa2o
def Qa05:List RS:=[.tmp 8]
theorem Qbkc:mFn prog Q6k 4 82 Qblj Qa05=true:=by kernel_rfl
def Qabc:List Item:=[sJ 4 9 30]
def Qtx:List Item:=[.chk 41 (some (34,true)) (.ld 1 false (.t 40)),gT 42 34 (.iad 1 (.t 39) (.t 41)),gTl 43 34 42,gT 44 34 (.not (.t 43)),pF 45 34 44]
def Qty:List Item:=mJ 34 33::gT 35 34 (.ld 3 true (.t 3))::gT 36 34 (.ld 2 true (.t 4))::gTm 37 34 2::gTm 38 34 8::gTf 40 34 1 9::gTl 41 34 40::.e (some 39) (some (34,true)) (.call Qdl [.t 35,.t 36,.t 37,.t 38])::Qtx
def Qabd:List Item:=[mJ 7 49]
def Qa8i:SC:=cT 45 (.reg (mJ 46 7::mJ 47 8::fI 48 (.bsl 1 [.t 47])::xJ 49 1 46 48::Qabd) [2,3,4,7,8]) .skip
def Qa8j:SC:=.seq (.dreg 15 [0,1,2,3,4,5,6,7,9,10,8,10,11,12,13,14] ( fJ 31 0 9::lJ 32 31::aJ 33 Q0l [.t 32]::Qty) [2,3,4,7,8,45]) Qa8i
def Qa8k:SC:=.reg [mJ 20 8,cJ 21 .add 20 1,mJ 8 21] [2,3,4,7,8]
def Qa8l:SC:=.seq (.block 1 (sR (fJ 22 2 3::lJ 23 22::mJ 24 2::iJ 25 5 23 24::fJ 26 1 25::lJ 27 26::mJ 28 8::iJ 29 4 27 28::tJ 30 4 29::eI 9 (.alloc [.int .i64 0,.int .i64 0,.sl true 1 [],.int .i64 0])::Qabc) [2,3,4,7,8,9] Qa8j)) Qa8k
def Qa2s:SC:=.seq (sR [mJ 11 8,fJ 12 2 3,lJ 13 12,mJ 14 2,iJ 15 5 13 14,fJ 16 1 15,lJ 17 16,nJ 18 17,bJ 19 .lss 11 18] [2,3,4,7,8,19] (cT 19 .skip (.exit 0))) Qa8l
def Qa8m:SC:=sR [mJ 50 7,mJ 6 50] [6] .ret
def Qa2q:SC:=.seq (sR [zJ 8 0] [2,3,4,7,8] (bL 0 Qa2s)) Qa8m
def Qa2r:SC:=sR [fI 10 (.bsl 1 []),mJ 7 10] [2,3,4,7] Qa2q
def Qblk:SC:=sR [vJ 3 0,vJ 4 1,fI 6 (.mv (.k (.c (.sl true 1 []))))] [2,3,4] Qa2r
def Qa06:List RS:=[.tmp 6]
theorem Qbkd:mFn prog Q6l 3 51 Qblk Qa06=true:=by kernel_rfl
def Qabe:List Item:=[sJ 2 3 12]
def Qabf:List Item:=[fJ 28 0 3,sJ 1 28 27]
def Qabg:List Item:=hJ 22 21::fI 26 (.bsl 1 [.t 25])::xJ 27 1 22 26::Qabf
def Qabh:List Item:=[fJ 36 1 3,sJ 1 36 35]
def Qabi:List Item:=hJ 30 29::fI 34 (.bsl 1 [.t 33])::xJ 35 1 30 34::Qabh
def Qa8n:SC:=.dreg 9 [0,1,2,3,4,1,5,6,7,8] ( fJ 29 1 3::lJ 30 29::fJ 31 1 1::lJ 32 31::eI 33 (.mks 1 [.bool false] (.t 32))::Qabi) [1,2,3,4,5]
def Qa8o:SC:=.reg [mJ 19 5,cJ 20 .add 19 1,mJ 5 20] [1,2,3,4,5]
def Qa8p:SC:=.seq (.block 1 (.seq (.dreg 9 [0,1,2,3,4,1,5,6,7,8] ( fJ 21 0 3::lJ 22 21::fJ 23 1 1::lJ 24 23::eI 25 (.mks 1 [.bool false] (.t 24))::Qabg) [1,2,3,4,5]) Qa8n)) Qa8o
def Qa3c:SC:=.seq (sR [mJ 16 5,mJ 17 4,bJ 18 .lss 16 17] [1,2,3,4,5,18] (cT 18 .skip (.exit 0))) Qa8p
def Qtz:List Item:=[mJ 68 67,gFm 69 68 6,pT 70 68 69,mJ 6 70]
def Qa2t:SC:=.reg [mJ 53 8,cJ 54 .add 53 1,mJ 8 54] [1,2,3,4,6,7,8]
def Qa2u:SC:=.seq (.block 7 (.dreg 17 [0,1,2,3,4,5,6,7,8,9,10,11,12,13,14,15,16] ( tJ 55 3 1::tJ 56 2 3::mJ 57 7::fJ 58 2 1::lJ 59 58::mJ 60 7::iJ 61 5 59 60::fJ 62 4 61::lJ 63 62::mJ 64 8::iJ 65 1 63 64::lJ 66 65::aJ 67 Q6k [.t 55,.t 56,.t 57,.t 66]::Qtz) [1,2,3,4,6,7,8])) Qa2t
def Qayd:SC:=.seq (sR [mJ 44 8,fJ 45 2 1,lJ 46 45,mJ 47 7,iJ 48 5 46 47,fJ 49 4 48,lJ 50 49,nJ 51 50,bJ 52 .lss 44 51] [1,2,3,4,6,7,8,52] (cT 52 .skip (.exit 6))) Qa2u
def Q4x:List Item:=[mJ 9 74]
def Qa2v:SC:=.reg [mJ 84 10,cJ 85 .add 84 1,mJ 10 85] [1,2,3,4,6,7,9,10]
def Qa2w:SC:=.seq (.block 9 (.reg [mJ 86 9,fJ 87 2 1,lJ 88 87,mJ 89 7,iJ 90 5 88 89,fJ 91 0 90,lJ 92 91,mJ 93 10,iJ 94 2 92 93,fJ 95 0 94,lJ 96 95,iJ 97 1 86 96,.e none none (.sto 1 (.t 97) (.k (.c (.bool false))))] [1,2,3,4,6,7,9,10])) Qa2v
def Qaye:SC:=.seq (sR [mJ 75 10,fJ 76 2 1,lJ 77 76,mJ 78 7,iJ 79 5 77 78,fJ 80 0 79,lJ 81 80,nJ 82 81,bJ 83 .lss 75 82] [1,2,3,4,6,7,9,10,83] (cT 83 .skip (.exit 8))) Qa2w
def Qa2x:SC:=.reg [mJ 102 11,cJ 103 .add 102 1,mJ 11 103] [1,2,3,4,6,7,9,11]
def Qa2y:SC:=.seq (.block 11 (.dreg 17 [0,1,2,3,4,5,6,7,8,9,10,11,12,13,14,15,16] ( mJ 104 6::mJ 105 104::gFm 106 105 9::gFm 107 105 11::gF 108 105 (.iad 1 (.t 106) (.t 107))::gFl 109 105 108::gFf 110 105 0 3::gFl 111 105 110::gFm 112 105 7::gF 113 105 (.iad 1 (.t 111) (.t 112))::gFl 114 105 113::gFm 115 105 11::gF 116 105 (.iad 1 (.t 114) (.t 115))::gFl 117 105 116::gF 118 105 (.bin 1 .neq (.t 109) (.t 117))::pT 119 105 118::mJ 6 119::[]) [1,2,3,4,6,7,9,11])) Qa2x
def Qayf:SC:=.seq (sR [mJ 98 11,fJ 99 1 1,lJ 100 99,bJ 101 .lss 98 100] [1,2,3,4,6,7,9,11,101] (cT 101 .skip (.exit 10))) Qa2y
def Qa2z:SC:=.reg [fJ 120 0 3,lJ 121 120,mJ 122 7,mJ 123 9,iJ 124 1 121 122,sJ 1 124 123] [1,2,3,4,6,7]
def Qa20:SC:=.seq (sR [zJ 11 0] [1,2,3,4,6,7,9,11] (bL 10 Qayf)) Qa2z
def Qa21:SC:=.seq (sR [zJ 10 0] [1,2,3,4,6,7,9,10] (bL 8 Qaye)) Qa20
def Qa22:SC:=sR (tJ 71 3 1::tJ 72 2 3::mJ 73 7::aJ 74 Qdl [.t 71,.t 72,.t 73,kI (-1)]::Q4x) [1,2,3,4,6,7,9] Qa21
def Qa23:SC:=.reg [mJ 42 7,cJ 43 .sub 42 1,mJ 7 43] [1,2,3,4,6,7]
def Qa24:SC:=.seq (.block 5 (.seq (sR [zJ 8 0] [1,2,3,4,6,7,8] (bL 6 Qayd)) Qa22)) Qa23
def Qayg:SC:=.seq (sR [mJ 40 7,cJ 41 .geq 40 0] [1,2,3,4,6,7,41] (cT 41 .skip (.exit 4))) Qa24
def Qa25:SC:=sR [mJ 38 4,cJ 39 .sub 38 1,mJ 7 39] [1,2,3,4,6,7] (bL 4 Qayg)
def Qa26:SC:=.block 3 (sR [fB 6 false] [1,2,3,4,6] Qa25)
def Qayh:SC:=.seq (sR [mJ 37 6] [1,2,3,4,37] (cT 37 .skip (.exit 2))) Qa26
def Qa27:SC:=sR [tJ 125 2 3,sJ 2 2 125] [2] .ret
def Qa28:SC:=.seq (sR [fB 6 true] [1,2,3,4,6] (bL 2 Qayh)) Qa27
def Qa29:SC:=.seq (sR [zJ 5 0] [1,2,3,4,5] (bL 0 Qa3c)) Qa28
def Qa3a:SC:=sR [fJ 13 2 1,lJ 14 13,nJ 15 14,mJ 4 15] [1,2,3,4] Qa29
def Qa3b:SC:=sR (fI 12 (.bld [.sl true 1 [],.sl true 1 []] [])::eI 3 (.alloc [.sl true 1 [],.sl true 1 []])::Qabe) [1,2,3] Qa3a
def Qbll:SC:=sR [vJ 1 0,eI 2 (.alloc [.sl true 1 [],.sl true 1 []])] [1,2] Qa3b
def Qa07:List RS:=[.cell 2 2 true]
theorem Qbke:mFn prog Qw7 1 126 Qbll Qa07=true:=by kernel_rfl
def Q41:List Item:=[mJ 5 4,gTm 6 5 0,gT 7 5 (.bin 0 .neq (.t 6) (kI 6)),pF 8 5 7,mJ 9 8,gTm 10 9 0,gT 11 9 (.bin 0 .neq (.t 10) (kI 7)),pF 12 9 11,mJ 2 12]
def Qa3v:SC:=sR (mJ 3 0::aJ 4 Qaht [.t 3]::Q41) [2] .ret
def Qbf2:SC:=sR [fB 2 false] [0] Qa3v
def Qau1:List RS:=[.tmp 2]
theorem Qbfi:mFn prog Q0l 1 13 Qbf2 Qau1=true:=by kernel_rfl
def Qanq:List Item:=[mJ 2 4]
def Qbhq:SC:=sR (mJ 3 0::aJ 4 Qbm [.t 3,kI 1,kI 10]::Qanq) [2] .ret
def Qbp2:SC:=sR [fB 2 false] [0] Qbhq
def Qbdx:List RS:=[.tmp 2]
theorem Qbo1:mFn prog Qaht 1 5 Qbp2 Qbdx=true:=by kernel_rfl
def Qd2:List Item:=[cJ 8 .geq 7 0,mJ 4 8]
def Qnw:SC:=sR (mJ 5 0::mJ 6 1::aJ 7 Qdf [.t 5,.t 6]::Qd2) [4] .ret
def Qv2:SC:=sR [fB 4 false] [0,1] Qnw
def Qf4:List RS:=[.tmp 4]
theorem Qsl:mFn prog Qcb 2 9 Qv2 Qf4=true:=by kernel_rfl
def Qe3:List Item:=[mJ 5 10]
def Qv3:SC:=cT 12 (sR [mJ 13 0,mJ 4 13] [4] .ret) .skip
def Qe4:List Item:=[sJ 2 7 25]
def Qe5:List Item:=[oJ 29 28]
def Qv4:SC:=.reg [mJ 34 5,cJ 35 .add 34 1,mJ 5 35] [0,1,5,6]
def Qv5:SC:=cT 29 (sR [mJ 30 0,mJ 31 5,tJ 32 2 7,iJ 33 2 30 31,sJ 2 33 32] [0,1,5,6] Qv4) .skip
def Qv6:SC:=sR (mJ 26 1::tJ 27 2 7::eI 28 (.callv (.t 26) [.t 27])::Qe5) [0,1,5,6,7,29] Qv5
def Qv7:SC:=.reg [mJ 20 6,cJ 21 .add 20 1,mJ 6 21] [0,1,5,6]
def Qv8:SC:=.seq (.block 1 (sR (mJ 22 0::mJ 23 6::iJ 24 2 22 23::tJ 25 2 24::eI 7 (.alloc [.int .i64 0,.sl true 1 []])::Qe4) [0,1,5,6,7] Qv6)) Qv7
def Qqv:SC:=.seq (sR [mJ 16 6,mJ 17 0,nJ 18 17,bJ 19 .lss 16 18] [0,1,5,6,19] (cT 19 .skip (.exit 0))) Qv8
def Qqq:SC:=sR [mJ 39 0,mJ 40 5,fI 41 (.sli 2 (.t 39) none (some (.t 40))),mJ 4 41] [4] .ret
def Qqr:SC:=sR [mJ 36 0,mJ 37 5,fI 38 (.sli 2 (.t 36) (some (.t 37)) none),.e none none (.clrs 2 [.int .i64 0,.sl true 1 []] (.t 38))] [0,5] Qqq
def Qqs:SC:=.seq (sR [mJ 14 5,cJ 15 .add 14 1,mJ 6 15] [0,1,5,6] (bL 0 Qqv)) Qqr
def Qqt:SC:=.seq (sR [mJ 11 5,cJ 12 .eql 11 (-1)] [0,1,5,12] Qv3) Qqs
def Qqu:SC:=sR (mJ 8 0::mJ 9 1::aJ 10 Qdg [.t 8,.t 9]::Qe3) [0,1,5] Qqt
def Q1u:SC:=sR [fI 4 (.mv (.k (.c (.sl true 2 []))))] [0,1] Qqu
def Qdh:List RS:=[.tmp 4]
theorem Q0s:mFn prog Qcy 2 42 Q1u Qdh=true:=by kernel_rfl
def Qyg:SC:=cT 16 (sR [mJ 17 5,mJ 4 17] [4] .ret) .skip
def Qyh:SC:=sR [mJ 11 1,mJ 12 0,mJ 13 5,iJ 14 4 12 13,tJ 15 4 14,eI 16 (.callv (.t 11) [.t 15])] [0,1,5,7,8,16] Qyg
def Qyi:SC:=.reg [cJ 18 .add 8 1,mJ 8 18] [0,1,7,8]
def Qyj:SC:=.seq (.block 1 (sR [mJ 10 8,mJ 5 10] [0,1,5,7,8] Qyh)) Qyi
def Qwn:SC:=sR [bJ 9 .lss 8 7] [0,1,7,8,9] (cX 9 0 Qyj)
def Qyk:SC:=sR [zJ 4 (-1)] [4] .ret
def Qyl:SC:=.seq (sR [mJ 6 0,nJ 7 6,zJ 8 0] [0,1,7,8] (bL 0 Qwn)) Qyk
def Q5d:SC:=sR [zJ 4 0] [0,1] Qyl
def Qej:List RS:=[.tmp 4]
theorem Q2y:mFn prog Qdf 2 19 Q5d Qej=true:=by kernel_rfl
def Qym:SC:=cT 16 (sR [mJ 17 5,mJ 4 17] [4] .ret) .skip
def Qyn:SC:=sR [mJ 11 1,mJ 12 0,mJ 13 5,iJ 14 2 12 13,tJ 15 2 14,eI 16 (.callv (.t 11) [.t 15])] [0,1,5,7,8,16] Qym
def Qyo:SC:=.reg [cJ 18 .add 8 1,mJ 8 18] [0,1,7,8]
def Qyp:SC:=.seq (.block 1 (sR [mJ 10 8,mJ 5 10] [0,1,5,7,8] Qyn)) Qyo
def Qwo:SC:=sR [bJ 9 .lss 8 7] [0,1,7,8,9] (cX 9 0 Qyp)
def Qyq:SC:=sR [zJ 4 (-1)] [4] .ret
def Qyr:SC:=.seq (sR [mJ 6 0,nJ 7 6,zJ 8 0] [0,1,7,8] (bL 0 Qwo)) Qyq
def Q5e:SC:=sR [zJ 4 0] [0,1] Qyr
def Qek:List RS:=[.tmp 4]
theorem Q2z:mFn prog Qdg 2 19 Q5e Qek=true:=by kernel_rfl
def Qazj:SC:=cT 5 (sR [fJ 6 1 1,lJ 7 6,mJ 2 7] [2] .ret) .skip
def Qazk:SC:=sR [zJ 2 (-1)] [2] .ret
def Qazl:SC:=.seq (sR [fJ 3 0 1,lJ 4 3,aJ 5 Qg6 [.t 4]] [1,5] Qazj) Qazk
def Qbco:SC:=sR [vJ 1 0,zJ 2 0] [1] Qazl
def Q03:List RS:=[.tmp 2]
theorem Qa7c:mFn prog Qsf 1 8 Qbco Q03=true:=by kernel_rfl
end Go.AE.Y
attribute [go_sem_proc] reduceIte reduceEqDiff reduceAdd reduceLeDiff reduceLT reduceCtorEq
namespace Go.AE.Y
open Go.Proofs.Tryz
theorem Qap:prog.follows .mixedOrders=true:=by kernel_rfl
theorem Qbsq (l : Nat) (fl : Bool) (bs : List UInt8) (k : Nat) (n : Int) (H : Heap) (K : V → Heap → Prop)
   (hH : H l = .st [.sl fl 1 (Qbv bs), .int .i64 k]) (hp' : k ≤ 2^40)
   (hK : ∀ v : Int, (if n < 1 then v = 0 else 0 ≤ v ∧ v < n) → K (.c (.int .i64 v)) (H.set l (.st [.sl fl 1 (Qbv bs), .int .i64 ((k + 1 : Nat) : Int)]))) :
   Qo prog Qn [.c (.ptr l 0), .c (.int .i64 n)] H K := by
  refine Qb Qap Qa0l ?_;refine Qa ?_;simp only [go_sem, Qax, Qgo, reduceIte, Nat.reduceEqDiff, Nat.reduceAdd];refine Qa ?_;simp only [go_sem, Qax, Qgo, reduceIte, Nat.reduceEqDiff, Nat.reduceAdd, Nat.reduceLeDiff, Nat.reduceLT, hH];refine ⟨Qp (by omega) (by omega), fun H2 hH2' => ?_⟩;have hH2 : H2 l = .st [C.sl fl 1 (Qbv bs), C.int IntKind.i64 (k + 1)] := by rw [hH2']; exact Heap.set_same _ _ _
  have hK2 : ∀ v : Int, (if n < 1 then v = 0 else 0 ≤ v ∧ v < n) → K (.c (.int .i64 v)) H2 := by
    intro v hv; rw [hH2']; exact hK v hv
  clear hK;refine Q5 ?_;refine Qa ?_;simp only [go_sem, Qax, Qgo, reduceIte, Nat.reduceEqDiff, Nat.reduceAdd, Nat.reduceLeDiff, hH2];intro _;refine Qh (Qd rfl ?_ ?_)
  · intro hc;refine Qa ?_;simp only [go_sem, reduceIte, Nat.reduceEqDiff];refine Qj ?_;simp only [go_sem, Q4, Qaa, Qir, reduceIte, Ja, forall_eq, RS.op];refine hK2 0 ?_;split <;> omega
  · intro hc;refine Qf ?_;simp only [go_sem];have hn : 1 ≤ n ∧ bs.length ≠ 0 := by
      simp only [cond_eq_ite] at hc;split at hc
      · simp at hc
      · simp at hc; simp_all
    refine Qa ?_;simp only [go_sem, Qax, Qgo, reduceIte, Nat.reduceEqDiff, Nat.reduceAdd, Nat.reduceLeDiff, hH2];refine ⟨Qp (by omega) (by omega), ?_⟩;refine Q5 ?_;refine Qa ?_;simp only [go_sem, Qax, Qgo, reduceIte, Nat.reduceEqDiff, Nat.reduceAdd, Nat.reduceLeDiff, hH2];intro hl;refine Qh (Qd rfl ?_ ?_)
    · intro hc2;have hk : k < bs.length := (by simpa using hc2);refine Qa ?_;simp only [go_sem, Qax, Qgo, reduceIte, Nat.reduceEqDiff, Nat.reduceAdd, Nat.reduceLeDiff, hH2, hk, Q96];refine ⟨by omega, ?_⟩;refine Qj ?_;simp only [go_sem, Q4, Qaa, Qir, reduceIte, Ja, forall_eq, RS.op];refine hK2 _ ?_;rw [if_neg (by omega)];exact ⟨J4 _ (by omega), J0 _ (by omega)⟩
    · intro hc2;refine Qf ?_;simp only [go_sem];refine Qao ?_;have e1 : ((k : Int).tmod (bs.length : Int)) = ((k % bs.length : Nat) : Int) := rfl;have e2 : (((k : Int) * 7 + 3).tmod (bs.length : Int)) = (((k * 7 + 3) % bs.length : Nat) : Int) := rfl;have h1 : k % bs.length < bs.length := Nat.mod_lt _ (by omega);have h2 : (k * 7 + 3) % bs.length < bs.length := Nat.mod_lt _ (by omega);simp only [go_sem, Qax, Qgo, reduceIte, Nat.reduceEqDiff, Nat.reduceAdd, Nat.reduceLeDiff, hH2, e1, e2, h1, h2, Q96];have e3 : (k : Int).tdiv (bs.length : Int) = ((k / bs.length : Nat) : Int) := rfl;have h3 : k / bs.length ≤ k := Nat.div_le_self _ _;rw [e3];have h4 := (bs.getD (k % bs.length) 0).toNat_lt;have h5 := (bs.getD ((k * 7 + 3) % bs.length) 0).toNat_lt;generalize (bs.getD (k % bs.length) 0).toNat = b1 at *;generalize (bs.getD ((k * 7 + 3) % bs.length) 0).toNat = b2 at *;generalize k / bs.length = d at *;clear e1 e2 h1 h2 e3;refine ⟨by omega, Qp (by omega) (by omega), Qp (by omega) (by omega), Qp (by omega) (by omega), by omega, Qp (by omega) (by omega), Qp (by omega) (by omega),
        Qp (by omega) (by omega), Qp (by omega) (by omega), ⟨by omega, Qp (by omega) (by omega)⟩, Qp (by omega) (by omega), Qp (by omega) (by omega), ?_⟩
      have hx : 0 ≤ (b1 : Int) * 131 + b2 * 1117 + k * 29 + d * 53 := (by omega);have hx' : (b1 : Int) * 131 + b2 * 1117 + k * 29 + d * 53 < 2 ^ 62 := (by omega);generalize (b1 : Int) * 131 + b2 * 1117 + k * 29 + d * 53 = x at *;refine Qa ?_;simp only [go_sem, Qax, Qgo, reduceIte, Nat.reduceEqDiff, Nat.reduceAdd, Nat.reduceLeDiff];have hq : 0 ≤ x.tdiv 64 := Int.tdiv_nonneg hx (by omega);have hq' : x.tdiv 64 ≤ x := (by have := Int.tdiv_le_self (a := x) 64 hx; exact this);refine ⟨⟨by omega, Qp (by omega) (by omega)⟩, ?_⟩;have hy := Qbtb hx hq hx' (by omega);generalize Qbeg .xor .i64 x (x.tdiv 64) = y at *;refine Qa ?_;simp only [go_sem, Qax, Qgo, reduceIte, Nat.reduceEqDiff, Nat.reduceAdd, Nat.reduceLeDiff];refine ⟨by omega, ?_⟩;refine Qj ?_;simp only [go_sem, Q4, Qaa, Qir, reduceIte, Ja, forall_eq, RS.op];refine hK2 _ ?_;rw [if_neg (by omega)];exact ⟨J4 _ (by omega), J0 _ (by omega)⟩
theorem Qbc {R:Rdr}{k:Nat}{n:Int}{H:Heap}{K:V→Heap→Prop}(hH:H R.l=R.o k)(hk:k≤2^40)
  (hK:∀(v:Int) (H':Heap),(if n<1 then v=0 else 0≤v∧v<n)→Upd H H' [(R.l,R.o (k+1))]→K (.c (.int .i64 v)) H') :
  Qo prog Qn [.c (.ptr R.l 0),.c (.int .i64 n)] H K:=
 Qbsq R.l R.fl R.bs k n H K hH hk fun v hv=>hK v _ hv ⟨by simp[Heap.set_same,Rdr.o],fun m _ hm=>Heap.set_other _ _ (by simpa using hm)⟩
theorem Qkg {R:Rdr}{k:Nat}{fl:Bool}{ns:List Int}{H:Heap}{K:V→Heap→Prop}(hH:H R.l=R.o k)(hk:k≤2^40)(hns:0<ns.length)
  (hK:∀(v:Int) (H':Heap),v∈ns→Upd H H' [(R.l,R.o (k+1))]→K (.c (.int .i64 v)) H') :
  Qo prog Q8 [.c (.ptr R.l 0),.c (.sl fl 1 (Qe ns))] H K:=by
 refine Qb Qap Qa66 ?_;refine Qa ?_;simp only[go_sem];refine Qa ?_;simp only[go_sem,Qi];intro hl;refine Qbc hH hk fun v H' hv hu=>?_;rw[if_neg (by omega)]at hv;obtain⟨i,rfl⟩:=Jn hv.1;have hi:i<ns.length:=by omega
 simp only[go_sem,Qzz,Qi,Q9,hi];refine Qj ?_;simp only[go_sem,Q4,Qaa,Qair,reduceIte,Ja,forall_eq,RS.op];refine hK _ H' ?_ hu;rw[Jb,J2 hi];exact Jc hi
theorem of_c {R:Rdr}{k:Nat}{fl:Bool}{ss:List (List UInt8)}{H:Heap}{K:V→Heap→Prop}(hH:H R.l=R.o k)(hk:k≤2^40)(hns:0<ss.length)
  (hK:∀(v:List UInt8) (H':Heap),v∈ss→Upd H H' [(R.l,R.o (k+1))]→K (.c (.str v)) H') :
  Qo prog Qhh [.c (.ptr R.l 0),.c (.sl fl 1 (Qbi ss))] H K:=by
 refine Qb Qap Qbfj ?_;refine Qa ?_;simp only[go_sem];refine Qa ?_;simp only[go_sem,Qat];intro hl;refine Qbc hH hk fun v H' hv hu=>?_;rw[if_neg (by omega)]at hv;obtain⟨i,rfl⟩:=Jn hv.1;have hi:i<ss.length:=by omega
 simp only[go_sem,Q42,Qat,Qib,hi];refine Qj ?_;simp only[go_sem,Q4,Qaa,Qau2,reduceIte,Ja,forall_eq,RS.op];refine hK _ H' ?_ hu;rw[Jb,J2 hi];exact Jc hi
theorem Qbn8 {R:Rdr}{k:Nat}{fl:Bool}{ss:List (List UInt8)}{H:Heap}{K:V→Heap→Prop}(hH:H R.l=R.o k)(hk:k+2≤2^40)
  (hK:∀(x:Ex) (H':Heap) (k':Nat),k<k'→k'≤k+2→Upd H H' [(R.l,R.o k')]→x.ok→x.size=1→K (.ag x.cells) H') :
  Qo prog Qahl [.c (.ptr R.l 0),.c (.sl fl 1 (Qbi ss))] H K:=by
 refine Qy ?_;refine Qb Qap Qbop ?_;refine Qa ?_;simp only[go_sem];intro x hx H1 h1;have kn:=(Kn.start1 hH (R.o_ne k)).al hx h1;refine Q5 ?_;refine Qa ?_;simp only[go_sem,Qat];intro hl;have rest:∀(b:Bool) (H2:Heap) (k2:Nat),k≤k2→k2≤k+1→Kn H H2 [(R.l,R.o k2)] [(x,.st [.int .i64 0,.int .i64 0,.str [],.sl true 4 []])]→(b=false→0<ss.length)→
   Qaj prog (s_l2Leaf_2.seq Qau9) (Q4 Qag4 fun x H'=>∃x',FrzV H' (un H) x x'∧K x' (H'.frz (un H))) [(0,V.c (C.ptr R.l 0)),(1,V.c (C.sl fl 1 (Qbi ss))),(4,V.c (C.ptr x 0)),(12,V.c (.bool b))] H2:=by
  intro b H2 k2 hk1 hk2 kn hb;refine Qh (Qd rfl ?_ ?_)
  ·intro hb';refine Qa ?_;simp only[go_sem];refine Qkg (ns:=[0,1,2,3,5,7,15,16,100,255]) (kn.e 0 rfl) (by omega) (by simp) fun v H3 hv hu=>?_;have kn:=kn.callE 0 rfl hu (R.o_ne _);have hx3:=kn.l 0 rfl;simp only[go_sem,Qak3,hx3];intro H4 h4;have kn:=kn.stL 0 rfl h4;have hx4:=kn.l 0 rfl;refine Qj ?_;simp only[go_sem,Q4,Qaa,Qag4,reduceIte,Ja,forall_eq,RS.op,hx4];refine⟨_,(Ex.mk 1 v [] []).frz,hK _ _ (k2+1) (by omega) (by omega) kn.fin ?_ ?_⟩
   ·simp[Ex.ok,Qd7]
   ·simp[Ex.size,Qaf]
  ·intro hb';refine Qf ?_;simp only[go_sem];refine Qa ?_;simp only[go_sem];refine of_c (kn.e 0 rfl) (by omega) (hb hb') fun v H3 hv hu=>?_;have kn:=kn.callE 0 rfl hu (R.o_ne _);have hx3:=kn.l 0 rfl;simp only[go_sem,Qak4,hx3];intro H4 h4;have kn:=kn.stL 0 rfl h4;have hx4:=kn.l 0 rfl;refine Qj ?_;simp only[go_sem,Q4,Qaa,Qag4,reduceIte,Ja,forall_eq,RS.op,hx4];refine⟨_,(Ex.mk 2 0 v []).frz,hK _ _ (k2+1) (by omega) (by omega) kn.fin ?_ ?_⟩
   ·simp[Ex.ok,Qd7]
   ·simp[Ex.size,Qaf]
 refine⟨fun hb=>?_,fun hb=>?_⟩
 ·refine Qbc (kn.e 0 rfl) (by omega) fun v H2 hv hu=>?_;have kn:=kn.callE 0 rfl hu (R.o_ne _);simp only[go_sem,Q1p];refine rest _ H2 (k+1) (by omega) (by omega) kn ?_;intro h;have:¬ss.length=0:=by simpa using hb
  omega
 ·have hb2:decide ((ss.length:Int)=0)=true:=by simpa using hb
  simp only[go_sem,Q1p,hb2];exact rest true H1 k (by omega) (by omega) kn (fun h=>by simp at h)
variable {H:Heap}{K:V→Heap→Prop}
theorem Qdo {n lo hi:Int}(hK:K (.c (.bool (decide (lo≤n∧n≤hi)))) H):Qo prog Qbm [.c (.int .i64 n),.c (.int .i64 lo),.c (.int .i64 hi)] H K:=by
 refine Qb Qap Qbt5 ?_;refine Qa ?_;simp only[go_sem];refine Qa ?_;simp only[go_sem];refine Qj ?_;simp only[go_sem,Q4,Qaa,Qbqq,reduceIte,Ja,forall_eq,RS.op];have:(bif decide (lo≤n)then decide (n≤hi)else false)=decide (lo≤n∧n≤hi):=by
  by_cases h:lo≤n <;> simp[h]
 rw[this];exact hK
theorem Qbjx {b:Bool}(hK:K (.c (.int .i64 (if b then 1 else 0))) H):Qo prog Q6o [.c (.bool b)] H K:=by
 refine Qb Qap Qbkm ?_;refine Qa ?_;simp only[go_sem];refine Q5 ?_;refine Qa ?_;simp only[go_sem];refine Qh (Qd rfl ?_ ?_)
 ·intro hc;subst hc;refine Qa ?_;simp only[go_sem];refine Qj ?_;simp only[go_sem,Q4,Qaa,Qaiu,reduceIte,Ja,forall_eq,RS.op];exact hK
 ·intro hc;subst hc;refine Qf ?_;simp only[go_sem];refine Qa ?_;simp only[go_sem];refine Qj ?_;simp only[go_sem,Q4,Qaa,Qaiu,reduceIte,Ja,forall_eq,RS.op];exact hK
theorem Qbju {s:List UInt8}{b:UInt8}(hK:∀n:Int,K (.c (.int .i64 n)) H):Qo prog Q6n [.c (.str s),.c (.int .u8 b.toNat)] H K:=by
 refine Qb Qap Qbki ?_;refine Qa ?_;simp only[go_sem];refine Q5 ?_;refine Qa ?_;simp only[go_sem];refine Qh (Qc (Qu (fun n e1 H1=>∃i:Nat,n=s.length-i∧i≤s.length∧H1=H∧e1=[(0,.c (.str s)),(1,.c (.int .u8 b.toNat)),(5,.c (.int .i64 i))]) s.length ?_ ?_))
 ·exact⟨0,by omega,by omega,rfl,rfl⟩
 ·rintro n e1 H1 ⟨i,hn,hi,rfl,rfl⟩;refine Q5 ?_;refine Qa ?_;simp only[go_sem];intro hl;simp only[LIM]at hl;refine Qh (Qd rfl ?_ ?_)
  ·intro hc;have hlt:i<s.length:=by simpa using hc
   refine Qf ?_;simp only[go_sem];refine Qh (Qc ?_);refine Qa ?_;simp only[go_sem,hlt];refine Qd rfl ?_ ?_
   ·intro hc2;refine Qa ?_;simp only[go_sem];refine Qj ?_;simp only[go_sem,X.next,Q4,Qaa,Qaip,reduceIte,Ja,forall_eq,RS.op];exact hK _
   ·intro hc2;refine Qf ?_;simp only[go_sem];refine Qr ?_;simp only[go_sem,X.next];exact⟨Qp (by omega) (by omega),s.length-(i+1),by omega,i+1,rfl,by omega,rfl⟩
  ·intro hc;refine Qv ?_;simp only[go_sem,X.next];refine Qa ?_;simp only[go_sem];refine Qj ?_;simp only[go_sem,Q4,Qaa,Qaip,reduceIte,Ja,forall_eq,RS.op];exact hK _
theorem Qbjs {b:UInt8}(hK:∀n:Int,K (.c (.int .i64 n)) H):Qo prog Q6m [.c (.int .u8 b.toNat)] H K:=by
 refine Qb Qap Qbkg ?_;refine Qa ?_;simp only[go_sem];refine Qh (Qc ?_);refine Qa ?_;simp only[go_sem];refine Qd rfl ?_ ?_
 ·intro hc;refine Qa ?_;simp only[go_sem];refine Qj ?_;simp only[go_sem,Q4,Qaa,Qkj,reduceIte,Ja,forall_eq,RS.op];exact hK _
 intro hc;refine Qa ?_;simp only[go_sem];refine Qd rfl ?_ ?_
 ·intro hc;refine Qa ?_;simp only[go_sem];refine Qj ?_;simp only[go_sem,Q4,Qaa,Qkj,reduceIte,Ja,forall_eq,RS.op];exact hK _
 intro hc;refine Qa ?_;simp only[go_sem];refine Qbju fun n=>?_;simp only[go_sem,Qabs];refine Qd rfl ?_ ?_
 ·intro hc;refine Qa ?_;simp only[go_sem];refine Qj ?_;simp only[go_sem,Q4,Qaa,Qkj,reduceIte,Ja,forall_eq,RS.op];exact hK _
 intro hc;refine Qa ?_;simp only[go_sem];refine Qd rfl ?_ ?_
 ·intro hc;refine Qa ?_;simp only[go_sem];refine Qj ?_;simp only[go_sem,Q4,Qaa,Qkj,reduceIte,Ja,forall_eq,RS.op];exact hK _
 intro hc;refine Qf ?_;simp only[go_sem];refine Qa ?_;simp only[go_sem];refine Qj ?_;simp only[go_sem,Q4,Qaa,Qkj,reduceIte,Ja,forall_eq,RS.op];exact hK _
theorem Qbr1 {s:List UInt8}{k:Int}(hK:∀b:Bool,K (.c (.bool b)) H):Qo prog Qavt [.c (.str s),.c (.int .i64 k)] H K:=by
 refine Qb Qap Qbsd ?_;refine Qa ?_;simp only[go_sem];refine Q5 ?_;refine Qa ?_;simp only[go_sem];refine Qh (Qc (Qu (fun n e1 H1=>∃i:Nat,n=s.length-i∧i≤s.length∧H1=H∧e1=[(0,.c (.str s)),(1,.c (.int .i64 k)),(5,.c (.int .i64 i))]) s.length ?_ ?_))
 ·exact⟨0,by omega,by omega,rfl,rfl⟩
 ·rintro n e1 H1 ⟨i,hn,hi,rfl,rfl⟩;refine Q5 ?_;refine Qa ?_;simp only[go_sem];intro hl;simp only[LIM]at hl;refine Qh (Qd rfl ?_ ?_)
  ·intro hc;have hlt:i<s.length:=by simpa using hc
   refine Qf ?_;simp only[go_sem];refine Qh (Qc ?_);refine Qa ?_;simp only[go_sem,hlt];refine Qbjs fun cl=>?_;simp only[go_sem,Qau5];refine Qd rfl ?_ ?_
   ·intro hc2;refine Qa ?_;simp only[go_sem];refine Qj ?_;simp only[go_sem,X.next,Q4,Qaa,Qa7j,reduceIte,Ja,forall_eq,RS.op];exact hK _
   ·intro hc2;refine Qf ?_;simp only[go_sem];refine Qr ?_;simp only[go_sem,X.next];exact⟨Qp (by omega) (by omega),s.length-(i+1),by omega,i+1,rfl,by omega,rfl⟩
  ·intro hc;refine Qv ?_;simp only[go_sem,X.next];refine Qa ?_;simp only[go_sem];intro _;refine Qj ?_;simp only[go_sem,Q4,Qaa,Qa7j,reduceIte,Ja,forall_eq,RS.op];exact hK _
theorem Qbec (hK:∀ss:List (List UInt8),K (.c (.sl true 1 (Qbi ss))) H):Qo prog Qjb [] H K:=by
 refine Qb Qap Qaw1 ?_;refine Qa ?_;simp only[go_sem];refine Qa ?_;simp only[go_sem];refine Qj ?_;simp only[go_sem,Q4,Qaa,Q3j,reduceIte,Ja,forall_eq,RS.op];exact hK [[102,110],[108,101,116],[115,97,121],[112,117,116],[105,102],[101,108,115,101],[108,111,111,112],[98,97,99,107],[100,111]]
theorem Qbr2 {s:List UInt8}(hK:∀b:Bool,K (.c (.bool b)) H):Qo prog Qavu [.c (.str s)] H K:=by
 refine Qb Qap Qbse ?_;refine Qa ?_;simp only[go_sem];refine Qa ?_;simp only[go_sem];refine Qbec fun ss=>?_;simp only[go_sem,Qau6];refine Q5 ?_;refine Qa ?_;simp only[go_sem];refine Qh (Qc (Qu (fun n e1 H1=>∃i:Nat,n=ss.length-i∧i≤ss.length∧H1=H∧e1=[(0,.c (.str s)),(3,.c (.sl true 1 (Qbi ss))),(4,.c (.int .i64 i))]) ss.length ?_ ?_))
 ·exact⟨0,by omega,by omega,rfl,rfl⟩
 ·rintro n e1 H1 ⟨i,hn,hi,rfl,rfl⟩;refine Q5 ?_;refine Qa ?_;simp only[go_sem,Qat];intro hl;simp only[LIM]at hl;refine Qh (Qd rfl ?_ ?_)
  ·intro hc;have hlt:i<ss.length:=by simpa using hc
   refine Qf ?_;simp only[go_sem];refine Qh (Qc ?_);refine Qa ?_;simp only[go_sem,hlt,Qat,Qib _ _ hlt];refine Qd rfl ?_ ?_
   ·intro hc2;refine Qa ?_;simp only[go_sem];refine Qj ?_;simp only[go_sem,X.next,Q4,Qaa,Qa7k,reduceIte,Ja,forall_eq,RS.op];exact hK _
   ·intro hc2;refine Qf ?_;simp only[go_sem];refine Qr ?_;simp only[go_sem,X.next];exact⟨Qp (by omega) (by omega),ss.length-(i+1),by omega,i+1,rfl,by omega,rfl⟩
  ·intro hc;refine Qv ?_;simp only[go_sem,X.next];refine Qa ?_;simp only[go_sem];refine Qj ?_;simp only[go_sem,Q4,Qaa,Qa7k,reduceIte,Ja,forall_eq,RS.op];exact hK _
theorem Qagx {s:List UInt8}(hK:∀b:Bool,K (.c (.bool b)) H):Qo prog Qdm [.c (.str s)] H K:=by
 refine Qb Qap Qa7b ?_;refine Qa ?_;simp only[go_sem];refine Qa ?_;simp only[go_sem];refine Qbr1 fun b=>?_;simp only[go_sem,Q0c];intro hl;refine⟨fun hb=>?_,fun hb=>?_⟩
 ·refine Qbr2 fun b2=>?_;simp only[go_sem,Qj1];refine Qj ?_;simp only[go_sem,Q4,Qaa,Q02,reduceIte,Ja,forall_eq,RS.op];exact hK _
 ·simp only[go_sem,Qj1,hb];refine Qj ?_;simp only[go_sem,Q4,Qaa,Q02,reduceIte,Ja,forall_eq,RS.op];exact hK _
theorem Qbn7 {op:Int}(hK:∀a b:Int,K (.tup [.c (.int .i64 a),.c (.int .i64 b)]) H):Qo prog Qahk [.c (.int .i64 op)] H K:=by
 refine Qb Qap Qboo ?_;refine Qa ?_;simp only[go_sem];refine Q5 ?_;refine Qa ?_;simp only[go_sem];have ret:∀(a b:Int) (e:Env),lk 2 e=.c (.int .i64 a)→lk 3 e=.c (.int .i64 b)→Q4 Q3a K .ret e H:=by
  intro a b e h1 h2;simp only[go_sem,Q4,Qaa,Q3a,List.forall_mem_cons,RS.op,h1,h2];exact hK _ _
 refine Qh (Qc ?_);refine Q5 ?_;refine Qa ?_;simp only[go_sem];have r5:∀(b:Bool),Qaj prog Qau8 (X.inBlock 0 (X.sq prog Q8j (Q4 Q3a K))) [(4,.c (.int .i64 op)),(5,.c (.bool b))] H:=by
  intro b;refine Qd rfl ?_ ?_
  ·intro hc;refine Qa ?_;simp only[go_sem];refine Qj ?_;simp only[go_sem];exact ret 0 0 _ (by simp[lk]) (by simp[lk])
  intro hc;refine Q5 ?_;refine Qa ?_;simp only[go_sem];have r8:∀(b:Bool),Qaj prog Qau7 (X.inBlock 0 (X.sq prog Q8j (Q4 Q3a K))) [(4,.c (.int .i64 op)),(8,.c (.bool b))] H:=by
   intro b;refine Qd rfl ?_ ?_
   ·intro hc;refine Qa ?_;simp only[go_sem];refine Qj ?_;simp only[go_sem];exact ret 1 1 _ (by simp[lk]) (by simp[lk])
   intro hc;refine Qa ?_;simp only[go_sem];refine Qd rfl ?_ ?_
   ·intro hc;refine Qa ?_;simp only[go_sem];refine Qj ?_;simp only[go_sem];exact ret 0 3 _ (by simp[lk]) (by simp[lk])
   ·intro hc;refine Qf ?_;simp only[go_sem];refine Qa ?_;simp only[go_sem];refine Qj ?_;exact ret 2 2 _ (by simp[lk]) (by simp[lk])
  refine Qh (Qd rfl ?_ ?_)
  ·intro hc;refine Qf ?_;simp only[go_sem];exact r8 _
  ·intro hc;refine Qr ?_;simp only[go_sem];exact r8 _
 refine Qh (Qd rfl ?_ ?_)
 ·intro hc;refine Qf ?_;simp only[go_sem];exact r5 _
 ·intro hc;refine Qr ?_;simp only[go_sem];exact r5 _
theorem Qbn9 {op:Int}(hK:K (.c (.int .i64 (if op=4 then 2 else 1))) H):Qo prog Qahm [.c (.int .i64 op)] H K:=by
 refine Qb Qap Qboq ?_;refine Qa ?_;simp only[go_sem];refine Q5 ?_;refine Qa ?_;simp only[go_sem];refine Qh (Qd rfl ?_ ?_)
 ·intro hc;refine Qa ?_;simp only[go_sem];refine Qj ?_;simp only[go_sem,Q4,Qaa,Qaw8,reduceIte,Ja,forall_eq,RS.op];rw[if_pos (by simpa using hc)]at hK;exact hK
 ·intro hc;refine Qf ?_;simp only[go_sem];refine Qa ?_;simp only[go_sem];refine Qj ?_;simp only[go_sem,Q4,Qaa,Qaw8,reduceIte,Ja,forall_eq,RS.op];rw[if_neg (by simpa using hc)]at hK;exact hK
end Go.AE.Y
namespace Go.AE
open Go.AE.Y
open Go.Proofs.Tryz
variable {H:Heap}{K:V→Heap→Prop}
theorem Slc.keep {H':Heap}{sz:Nat}{rows:List (List C)}{b:C}{E L:List (Nat×Obj)}(h:Slc H sz rows b)(kn:Kn H H' E L)(hE:∀l a c d,b=.vsl l a c d→l∉E.map Prod.fst):Slc H' sz rows b:=by
 obtain⟨h1,h2,h3,h4⟩:=h
 cases b with
 |sl fl z rs=>exact⟨trivial,h2,h3,h4⟩
 |vsl l z st n=>
  simp only[Go.AE.okSl]at h1
  cases ho:H l with
  |vec y rs=>
   have:=kn.chg l (by rw[ho];simp) (hE l z st n rfl);refine⟨?_,h2,?_,h4⟩
   ·simp only[Go.AE.okSl,this];exact h1
   ·simp only[Go.AE.rowsOf,this];exact h3
  |_=>rw[ho]at h1;exact h1.elim
 |_=>exact h1.elim
theorem Slc.keep0 {H':Heap}{sz:Nat}{rows:List (List C)}{b:C}{L:List (Nat×Obj)}(h:Slc H sz rows b)(kn:Kn H H' [] L):Slc H' sz rows b:=h.keep kn (by simp)
end Go.AE
namespace Go.AE.Y
open Go.Proofs.Tryz
variable {H:Heap}{K:V→Heap→Prop}
def Qam (nx:Nat→List Int)(b:Int)(n:Nat):List Int:=((List.range n).filter fun i=>(nx i).contains b).map Int.ofNat
theorem Qin (nx:Nat→List Int)(b:Int)(n:Nat):Qam nx b (n+1)=Qam nx b n++if (nx n).contains b then [(n:Int)]else []:=by
 simp only[Qam,List.range_succ,List.filter_append,Jv];congr 1;cases h:(nx n).contains b
 ·simp only[Jac,h,Jag];rfl
 ·simp only[Jac,h,Jag,if_true];rfl
theorem Qhp (nx:Nat→List Int)(b:Int)(n:Nat):(Qam nx b n).length≤n:=by
 simp only[Qam,Je];exact Jaa (List.length_filter_le _ _) (by simp)
set_option maxHeartbeats 1000000 in
theorem Qah3 {p rg:Int}{bc:C}{rows:List (List C)}{nx:Nat→List Int}{b:Int}(hs:Slc H 5 rows bc)(how:bc.isOw=false)
  (hx:∀i,i<rows.length→∃a1 a2 a3 a4 fl,rows.getD i []=[a1,a2,a3,a4,.sl fl 1 (Qe (nx i))])
  (hK:∀H',Upd H H' []→K (.c (.sl false 1 (Qe (Qam nx b rows.length)))) H'):Qo prog Qj9 [.ag [.int .i64 p,.int .i64 rg,bc],.c (.int .i64 b)] H K:=by
 refine Qy ?_;refine Qb Qap Qbkp ?_;refine Qa ?_;simp only[go_sem];refine Qa ?_;simp only[go_sem];refine Q5 ?_;refine Qa ?_;simp only[go_sem];have hlen:=hs.len;have hesz:=hs.sz;refine Qh (Qc (Qu (fun n e1 H1=>∃(i:Nat) (c:C) (Lg:List (Nat×Obj)),n=rows.length-i∧i≤rows.length∧Gr Lg 1 (Qe (Qam nx b i)) c∧Kn H H1 [] ([]++Lg)∧
  e1=[(1,.c (.int .i64 b)),(2,.c (.pp [.int .i64 p,.int .i64 rg,bc])),(5,.c c),(6,.c (.int .i64 i))]) rows.length ?_ ?_))
 ·exact⟨0,_,[],by omega,by omega,.nil 1,Kn.start0 H,rfl⟩
 ·rintro n e1 H1 ⟨i,c,Lg,hn1,hi,hgr,kn,rfl⟩;have hs1:=hs.keep0 kn;have hok1:=eq_true hs1.ok;have hrw1:=hs1.rows;refine Q5 ?_;refine Qa ?_;simp only[go_sem,how,hok1,hlen];intro hl;simp only[LIM]at hl;refine Qh (Qd rfl ?_ ?_)
  ·intro hc;have hlt:i<rows.length:=by simpa using hc
   obtain⟨a1,a2,a3,a4,fl,hrow⟩:=hx i hlt;refine Qf ?_;simp only[go_sem];have turn:∀(e:Env) (H2:Heap) (c':C) (Lg':List (Nat×Obj)),lk 1 e=.c (.int .i64 b)→lk 2 e=.c (.pp [.int .i64 p,.int .i64 rg,bc])→lk 5 e=.c c'→lk 6 e=.c (.int .i64 i)→
     Gr Lg' 1 (Qe (Qam nx b (i+1))) c'→Kn H H2 [] ([]++Lg')→
     Qaj prog Qam2 (X.next (fun e2 H2=>∃m,m<n∧∃(i:Nat) (c:C) (Lg:List (Nat×Obj)),m=rows.length-i∧i≤rows.length∧Gr Lg 1 (Qe (Qam nx b i)) c∧Kn H H2 [] ([]++Lg)∧
      e2=[(1,.c (.int .i64 b)),(2,.c (.pp [.int .i64 p,.int .i64 rg,bc])),(5,.c c),(6,.c (.int .i64 i))]) (X.inBlock 0 (X.sq prog Qam3 (Q4 Qaiw fun x H'=>∃x',FrzV H' (un H) x x'∧K x' (H'.frz (un H)))))) e H2:=by
    intro e H2 c' Lg' l1 l2 l5 l6 hg' kn';refine Qr ?_;simp only[go_sem,l1,l2,l5,l6,X.next];exact⟨Qp (by omega) (by omega),rows.length-(i+1),by omega,i+1,c',Lg',rfl,by omega,hg',by simpa using kn',rfl⟩
   refine Qh (Qc ?_);refine Qa ?_;simp only[go_sem];refine Qc (Qu (fun n e1 H2=>∃(k:Nat),n=(nx i).length-k∧k≤(nx i).length∧b∉(nx i).take k∧H2=H1∧e1=[(1,.c (.int .i64 b)),(2,.c (.pp [.int .i64 p,.int .i64 rg,bc])),(5,.c c),(6,.c (.int .i64 i)),(7,.c (.int .i64 k))]) (nx i).length ?_ ?_)
   ·exact⟨0,by omega,by omega,by simp,rfl,rfl⟩
   ·rintro n e1 H2 ⟨k,hn2,hk,hno,rfl,rfl⟩;refine Q5 ?_;refine Qa ?_;simp only[go_sem,how,hok1,hlen,hesz,hrw1,hlt,hrow,Qi];intro hl2;simp only[LIM]at hl2;refine Qh (Qd rfl ?_ ?_)
    ·intro hc;have hlt2:k<(nx i).length:=(by simpa using hc);have hgd:(nx i).getD k 0=(nx i)[k]:=(by simp[Jb,hlt2]);refine Qf ?_;simp only[go_sem];refine Qh (Qc ?_);refine Qa ?_;simp only[go_sem,how,hok1,hlen,hesz,hrw1,hlt,hrow,hlt2,Qi,Q9 _ _ hlt2,hgd];refine Qd rfl ?_ ?_
     ·intro hc2;have hb:(nx i)[k]=b:=(by simpa using hc2);have hcon:(nx i).contains b=true:=(by rw[J5,←hb];exact Jc hlt2);refine Qa ?_;simp only[go_sem];have hpl:=Qhp nx b i;refine kn.grow (B:=[]) (new:=Qe [(i:Int)]) hgr (.mk' _ _ _ _) (Q6 _) (by simp only[Qi,LIM,Jl,Jo];omega) fun y' H3 kn=>?_;simp only[go_sem,Qaco];refine Qv ?_;have hib:((2:Nat) == 3)=false:=rfl;rw[Qbnp hib];simp only[go_sem,X.next];refine turn _ _ _ _ (by simp[lk]) (by simp[lk]) (by simp[lk];rfl) (by simp[lk]) ?_ kn;rw[Qin,hcon,if_pos rfl,Qdn];exact .mk _ _ _ (by simp)
     ·intro hc2;have hb:¬(nx i)[k]=b:=(by simpa using hc2);refine Qf ?_;simp only[go_sem];refine Qr ?_;simp only[go_sem,X.next];refine⟨Qp (by omega) (by omega),(nx i).length-(k+1),by omega,k+1,rfl,by omega,?_,rfl⟩;rw[Jk hlt2];simp only[Jm,Ja,not_or];exact⟨hno,fun h=>hb h.symm⟩
    ·intro hc;have hge:(nx i).length≤k:=(by simpa using hc);rw[Jd hge]at hno;have hcon:(nx i).contains b=false:=by
      cases hcc:(nx i).contains b with
      |false=>rfl
      |true=>exact absurd (J5.1 hcc) hno
     refine Qv ?_;simp only[go_sem,X.next];refine turn _ _ _ _ (by simp[lk]) (by simp[lk]) (by simp[lk];rfl) (by simp[lk]) ?_ kn;rw[Qin,hcon];simpa using hgr
  ·intro hc;have hge:i=rows.length:=by have:rows.length≤i:=(by simpa using hc);omega
   subst hge;refine Qv ?_;simp only[go_sem,X.next];refine Qa ?_;simp only[go_sem];refine Qj ?_;simp only[go_sem,Q4,Qaa,Qaiw,reduceIte,Ja,forall_eq,RS.op];exact⟨_,.c _ _ (hgr.frz kn (Q6 _)),hK _ kn.fin⟩
def Q0e (op:Int):Int:=if op=1 then 0 else if op=2∨op=10∨op=11∨op=13 then 1 else if (3≤op∧op≤9)∨op=12 then 2 else -1
theorem Qbdc {op:Int}(hK:K (.c (.int .i64 (Q0e op))) H):Qo prog Qr9 [.c (.int .i64 op)] H K:=by
 refine Qb Qap Qbou ?_;have retf:∀(n:Int) (e:Env),Q0e op=n→lk 2 e=.c (.int .i64 n)→Q4 Qaxa K .ret e H:=by
  intro b e h1 h3;simp only[go_sem,Q4,Qaa,Qaxa,Ja,forall_eq,RS.op,h3];rw[←h1];exact hK
 refine Qa ?_;simp only[go_sem];refine Qh (Qc ?_);refine Qa ?_;simp only[go_sem];refine Qd rfl ?_ ?_
 ·intro hc;refine Qa ?_;simp only[go_sem];refine Qj ?_;simp only[go_sem];exact retf 0 _ (by simp only[decide_eq_true_eq]at hc;simp[Q0e,hc]) (by simp[lk])
 intro hc1;refine Qa ?_;simp only[go_sem];refine Qd rfl ?_ ?_
 ·intro hc;refine Qa ?_;simp only[go_sem];refine Qj ?_;simp only[go_sem];exact retf 1 _ (by simp at hc1 hc;rw[Q0e,if_neg hc1,if_pos (by omega)]) (by simp[lk])
 intro hc2;refine Qa ?_;simp only[go_sem];refine Qdo ?_;simp only[go_sem,Qamd];refine Qd rfl ?_ ?_
 ·intro hc;refine Qa ?_;simp only[go_sem];refine Qj ?_;simp only[go_sem];exact retf 2 _ (by simp at hc1 hc2 hc;rw[Q0e,if_neg hc1,if_neg (by omega),if_pos (by omega)]) (by simp[lk])
 ·intro hc;refine Qf ?_;simp only[go_sem];refine Qa ?_;simp only[go_sem];refine Qj ?_;exact retf (-1) _ (by simp at hc1 hc2 hc;rw[Q0e,if_neg hc1,if_neg (by omega),if_neg (by omega)]) (by simp[lk])
theorem argsN_in {op:Int}:-1≤Q0e op∧Q0e op≤2:=by
 rw[Q0e];split
 ·omega
 ·split
  ·omega
  ·split <;> omega
theorem Qbjy {op:Int}(hK:∀n:Int,-1≤n→n≤2→K (.c (.int .i64 n)) H):Qo prog Qr9 [.c (.int .i64 op)] H K:=Qbdc (hK _ argsN_in.1 argsN_in.2)
def Qdp (op:Int):Bool:=decide (1≤op∧op≤14)&&!decide (op=12)&&!decide (op=13)
theorem Q2u {op:Int}(hK:K (.c (.bool (Qdp op))) H):Qo prog Qg6 [.c (.int .i64 op)] H K:=by
 refine Qb Qap Qbko ?_;refine Qa ?_;simp only[go_sem];refine Qa ?_;simp only[go_sem];refine Qdo ?_;simp only[go_sem,Qacn];refine Qj ?_;simp only[go_sem,Q4,Qaa,Qa1b,reduceIte,Ja,forall_eq,RS.op];have:∀a b c:Bool,(bif bif a then b else false then c else false)=(a&&b&&c):=by decide
 rw[this];exact hK
def Qsw (rg:Int)(l:List Int):Bool:=l.all fun x=>decide (0≤x∧x≤rg-1)
theorem Qbfu {rg:Int}{l:List Int}{i:Nat}(hi:i<l.length):Qsw rg (l.take (i+1))=(Qsw rg (l.take i)&&decide (0≤l.getD i 0∧l.getD i 0≤rg-1)):=by
 have e:l.getD i 0=l[i]:=by simp[Jb,hi]
 rw[Qsw,Jk hi,Jaf,e];simp[Qsw]
theorem Qbk4 {rg:Int}{l:List Int}{i:Nat}(hi:i<l.length)(h:decide (0≤l.getD i 0∧l.getD i 0≤rg-1)=false):Qsw rg l=false:=by
 have e:l.getD i 0=l[i]:=by simp[Jb,hi]
 cases hc:Qsw rg l with
 |false=>rfl
 |true=>
  rw[Qsw,Jab]at hc;have:=hc _ (Jc hi);rw[e]at h;rw[h]at this;exact absurd this (by simp)
theorem Qbde {p rg:Int}{bc:C}{fl:Bool}{l:List Int}(hr:-(2^62)≤rg)(hr2:rg≤2^62)(hK:K (.c (.bool (Qsw rg l))) H) :
  Qo prog Q2n [.ag [.int .i64 p,.int .i64 rg,bc],.c (.sl fl 1 (Qe l))] H K:=by
 refine Qb Qap Qboy ?_;have retf:∀(b:Bool) (e:Env),Qsw rg l=b→lk 4 e=.c (.bool b)→Q4 Qaxb K .ret e H:=by
  intro b e h1 h3;simp only[go_sem,Q4,Qaa,Qaxb,Ja,forall_eq,RS.op,h3];rw[←h1];exact hK
 refine Qa ?_;simp only[go_sem];refine Q5 ?_;refine Qa ?_;simp only[go_sem];refine Qh (Qc (Qu (fun n e1 H1=>∃(i:Nat),n=l.length-i∧i≤l.length∧H1=H∧Qsw rg (l.take i)=true∧e1=[(1,.c (.sl fl 1 (Qe l))),(2,.c (.pp [.int .i64 p,.int .i64 rg,bc])),(5,.c (.int .i64 i))]) l.length ?_ ?_))
 ·exact⟨0,by omega,by omega,rfl,rfl,rfl⟩
 ·rintro n e1 H1 ⟨i,hn1,hi,rfl,hall,rfl⟩;refine Q5 ?_;refine Qa ?_;simp only[go_sem,Qi];intro hl;simp only[LIM]at hl;refine Qh (Qd rfl ?_ ?_)
  ·intro hc;have hlt:i<l.length:=by simpa using hc
   refine Qf ?_;simp only[go_sem];refine Qh (Qc ?_);refine Qao ?_;simp only[go_sem,hlt,Qi,Q9 _ _ hlt];refine⟨Qp (by omega) (by omega),?_⟩;refine Qdo ?_;simp only[go_sem,Qam4];refine Qd rfl ?_ ?_
   ·intro hc2;refine Qa ?_;simp only[go_sem];refine Qj ?_;simp only[go_sem,X.next];exact retf false _ (Qbk4 hlt (Qsm hc2)) (by simp[lk])
   ·intro hc2;refine Qf ?_;simp only[go_sem];refine Qr ?_;simp only[go_sem,X.next];exact⟨Qp (by omega) (by omega),l.length-(i+1),by omega,i+1,rfl,by omega,by rw[Qbfu hlt,hall,Qgt hc2];rfl,rfl⟩
  ·intro hc;have hge:l.length≤i:=by simpa using hc
   rw[Jd hge]at hall;refine Qv ?_;simp only[go_sem,X.next];refine Qa ?_;simp only[go_sem];refine Qj ?_;exact retf true _ hall (by simp[lk])
def rgOf (cs:List CodeD)(k:Nat):Int:=(cs[k]?.map CodeD.regs).getD 0
def pmOf (cs:List CodeD)(k:Nat):Int:=(cs[k]?.map CodeD.params).getD 0
theorem Qai1 {cs:List CodeD}{k:Nat}(h:k<cs.length):rgOf cs k=cs[k].regs:=by simp[rgOf,h]
theorem Qaid {cs:List CodeD}{k:Nat}(h:k<cs.length):pmOf cs k=cs[k].params:=by simp[pmOf,h]
def insH (rg:Int)(x:InsD):Bool:=decide (1≤x.op∧x.op≤14)&&Qsw rg x.args
def insT (rg:Int)(x:InsD):Bool:=if Qdp x.op then decide (0≤x.to∧x.to≤rg-1)else decide (x.to=-1)
def insL (cs:List CodeD)(k:Nat)(x:InsD):Bool:=
 if x.op=14 then decide (0≤x.n∧x.n≤(k:Int)-1)&&decide ((x.args.length:Int)=pmOf cs x.n.toNat)
 else decide ((x.args.length:Int)=Q0e x.op)&&decide (0≤x.n∧x.n≤255)&&(decide (x.n=0) || decide (x.op=1))
def insG (cs:List CodeD)(k:Nat)(x:InsD):Bool:=insH (rgOf cs k) x&&insT (rgOf cs k) x&&insL cs k x
set_option maxHeartbeats 1000000 in
theorem Qbr4 {cs:List CodeD}{fl:Bool}{k:Nat}{x:InsD}(hk:k<cs.length)(hr:0≤cs[k].regs)(hr2:cs[k].regs≤300)(hcl:cs.length≤100)(hK:∀(H':Heap),Upd H H' []→K (.c (.bool (insG cs k x))) H') :
  Qo prog Qavw [.ag [.sl fl 3 (Qk cs)],.c (.int .i64 k),.ag x.cells] H K:=by
 refine Qy ?_;refine Qb Qap Qbsg ?_;refine Qa ?_;simp only[go_sem,InsD.cells];refine Qa ?_;simp only[go_sem,hk,Qx,Qad _ _ hk,CodeD.cells];intro x7 hx7 H1 h1;have kn:=(Kn.start0 H).al hx7 h1;have hx71:=kn.l 0 rfl;simp only[go_sem,Qavd,hx71];intro H2 h2;have kn:=kn.stL 0 rfl h2;have hx72:=kn.l 0 rfl;have hrg:=Qai1 hk;have retf:∀(b:Bool) (e:Env),insG cs k x=b→lk 6 e=.c (.bool b)→Q4 Qaiv (fun x H'=>∃x',FrzV H' (un H) x x'∧K x' (H'.frz (un H))) .ret e H2:=by
  intro b e h1 h3;simp only[go_sem,Q4,Qaa,Qaiv,Ja,forall_eq,RS.op,h3];rw[←h1];exact⟨_,.c _ _ (Qg rfl),hK _ kn.fin⟩
 refine Q5 ?_;refine Qa ?_;simp only[go_sem];refine Qdo ?_;simp only[go_sem,Qave,hx72];have rest:∀(E1:Env) (b:Bool),insH cs[k].regs x=(!b)→lk 1 E1=.c (.int .i64 k)→lk 3 E1=.c (.pp [.sl fl 3 (Qk cs)])→lk 5 E1=.c (.pp [.int .i64 x.op,.int .i64 x.to,.sl false 1 (Qe x.args),.int .i64 x.n])→lk 7 E1=.c (.ptr x7 0)→lk 23 E1=.c (.bool b)→
   Qaj prog (s_l7Ins_3.seq Qavc) (Q4 Qaiv (fun x H'=>∃x',FrzV H' (un H) x x'∧K x' (H'.frz (un H)))) E1 H2:=by
  intro E1 b hb l1 l3 l5 l7 l23;refine Qh (Qd l23 ?_ ?_)
  ·intro hc;refine Qa ?_;simp only[go_sem];refine Qj ?_;simp only[go_sem];exact retf false _ (by rw[insG,hrg,hb,hc];rfl) (by simp[lk])
  intro hc;rw[hc]at hb;refine Qf ?_;simp only[go_sem];refine Q5 ?_;refine Qao ?_;simp only[go_sem,l1,l3,l5,l7,hx72];refine⟨Qp (by omega) (by omega),?_⟩;refine Q2u ?_;simp only[go_sem,Qavg,l1,l3,l5,l7,hx72];refine Qdo ?_;simp only[go_sem,Qavf,l1,l3,l5,l7,hx72];have rest2:∀(E1:Env) (b:Bool),insT cs[k].regs x=(!b)→lk 1 E1=.c (.int .i64 k)→lk 3 E1=.c (.pp [.sl fl 3 (Qk cs)])→lk 5 E1=.c (.pp [.int .i64 x.op,.int .i64 x.to,.sl false 1 (Qe x.args),.int .i64 x.n])→lk 44 E1=.c (.bool b)→
    Qaj prog (s_l7Ins_7.seq Qavb) (Q4 Qaiv (fun x H'=>∃x',FrzV H' (un H) x x'∧K x' (H'.frz (un H)))) E1 H2:=by
   intro E1 b hb2 l1 l3 l5 l44;refine Qh (Qd l44 ?_ ?_)
   ·intro hc;refine Qa ?_;simp only[go_sem];refine Qj ?_;simp only[go_sem];exact retf false _ (by rw[insG,hrg,hb2,hc];simp) (by simp[lk])
   intro hc;rw[hc]at hb2;have hG:insG cs k x=insL cs k x:=by rw[insG,hrg,hb,hb2];rfl
   refine Qf ?_;simp only[go_sem];refine Q5 ?_;refine Qa ?_;simp only[go_sem,l1,l3,l5];refine Qh (Qd rfl ?_ ?_)
   ·intro hc;have hop:x.op=14:=of_decide_eq_true hc;rw[insL,if_pos hop]at hG;refine Qao ?_;simp only[go_sem];refine⟨Qp (by omega) (by omega),?_⟩;refine Qdo ?_;by_cases hin:0≤x.n∧x.n≤(k:Int)-1
    ·obtain⟨m,hm⟩:=Jn hin.1;have hmk:m<cs.length:=(by omega);have hin':(0≤(m:Int)∧(m:Int)≤(k:Int)-1)=True:=eq_true (by rw[←hm];exact hin);simp only[go_sem,Qxh,hm,hin',hmk,decide_true,Qx,Qad _ _ hmk,CodeD.cells,Qi];refine Qj ?_;refine retf _ _ ?_ (by simp[lk];rfl);rw[hG,hm,Int.toNat_natCast,Qaid hmk];simp only[hin',decide_true,Bool.true_and];simp[show ((m:Int)≤(k:Int)-1) from by omega]
    ·have hin':decide (0≤x.n∧x.n≤(k:Int)-1)=false:=(by simpa using hin);by_cases hm:x.n.toNat<cs.length
     ·simp only[go_sem,Qxh,hin',Qad _ _ hm,CodeD.cells];refine Qj ?_;exact retf false _ (by rw[hG,hin'];rfl) (by simp[lk])
     ·have hgd:(Qk cs).getD x.n.toNat []=[]:=by
       rw[Jb,List.getElem?_eq_none (by rw[Qx];omega)];rfl
      simp only[go_sem,Qxh,hin',hgd,List.take_nil,List.headD_nil];refine Qj ?_;exact retf false _ (by rw[hG,hin'];rfl) (by simp[lk])
   ·intro hc;have hop:¬x.op=14:=of_decide_eq_false hc;rw[insL,if_neg hop]at hG;refine Qf ?_;simp only[go_sem];refine Qao ?_;simp only[go_sem];refine Qbdc ?_;simp only[go_sem,Qam1];refine⟨fun hb=>?_,fun hb=>?_⟩
    ·refine Qdo ?_;simp only[go_sem,Q1r];refine Qj ?_;refine retf _ _ ?_ (by simp[lk];rfl);have hb':(x.args.length:Int)=Q0e x.op:=(by simpa[Qi]using hb);rw[hG];simp[hb',Qi]
    ·simp only[go_sem,Q1r,hb];refine Qj ?_;refine retf _ _ ?_ (by simp[lk];rfl);have hb':¬(x.args.length:Int)=Q0e x.op:=(by simpa[Qi]using hb);rw[hG];simp[hb']
  refine⟨fun hb=>?_,fun hb=>?_⟩
  ·refine Q2u ?_;simp only[go_sem,Q8m,l1,l3,l5,l7];refine rest2 _ _ ?_ (by simp[lk]) (by simp[lk]) (by simp[lk]) (by simp[lk];rfl)
   cases hmk:Qdp x.op with
   |true=>simp[insT,hmk]
   |false=>by_cases h:x.to=-1 <;> simp[insT,hmk,h]
  ·replace hb:=Qgt hb;simp only[go_sem,Q8m,l1,l3,l5,l7,hb];refine rest2 _ true ?_ (by simp[lk]) (by simp[lk]) (by simp[lk]) (by simp[lk])
   cases hmk:Qdp x.op with
   |true=>simp[hmk]at hb;simp[insT,hmk];omega
   |false=>simp[hmk]at hb;simp[insT,hmk];omega
 refine⟨fun hb=>?_,fun hb=>?_⟩
 ·refine Qbde (by omega) (by omega) ?_;simp only[go_sem,Q8l];refine rest _ _ ?_ (by simp[lk]) (by simp[lk]) (by simp[lk]) (by simp[lk]) (by simp[lk];rfl);simp[insH]
 ·replace hb:=Qgt hb;simp only[go_sem,Q8l,hb];refine rest _ true ?_ (by simp[lk]) (by simp[lk]) (by simp[lk]) (by simp[lk]) (by simp[lk]);rw[insH,Qsm hb];rfl
theorem InsD.take4 (x:InsD):x.cells.take 4=x.cells:=rfl
theorem InsD.allOw (x:InsD):(x.cells.all fun c=>!c.isOw)=true:=rfl
theorem InsD.len4 (x:InsD):x.cells.length=4:=rfl
theorem Qbq6 (l:List BlkD)(i:Nat)(h:i<(Qm l).length):∃a1 a2 a3 a4 fl,(Qm l).getD i []=[a1,a2,a3,a4,.sl fl 1 (Qe ((l.map BlkD.next).getD i []))]:=by
 rw[Ql]at h;rw[Q1 _ _ h];have:(l.map BlkD.next).getD i []=l[i].next:=by simp[Jb,h]
 exact⟨.sl false 2 (Qz l[i].phis),.sl false 4 (Qac l[i].ins),.int .i64 l[i].jump,.int .i64 l[i].on,false,by rw[this];rfl⟩
set_option maxHeartbeats 3000000 in
theorem Qagy {α:Type}{p:α→Bool}{l:List α}{i:Nat}(hi:i<l.length):(l.take (i+1)).all p=((l.take i).all p&&p l[i]):=by
 rw[Jk hi,Jaf];simp
theorem Qavn {α:Type}{p:α→Bool}{l:List α}{i:Nat}(hi:i<l.length)(h:p l[i]=false):l.all p=false:=by
 cases hc:l.all p with
 |false=>rfl
 |true=>rw[Jab.1 hc _ (Jc hi)]at h;exact absurd h (by simp)
def Qp2 (j:Int):Int:=if j=1 then 1 else if j=2 then 2 else if j=3 then 0 else -1
def Qsj (rg:Int)(y:BlkD):Bool:=decide ((y.next.length:Int)=Qp2 y.jump)&&if y.jump=1 then decide (y.on=0)else decide (0≤y.on∧y.on≤rg-1)
def Qadc (n:Nat)(x:Int):Bool:=decide (1≤x∧x≤(n:Int)-1)
def phiG (rg:Int)(np b:Nat)(x:PhiD):Bool:=!decide (b=0)&&decide ((x.args.length:Int)=np)&&Qsw rg x.args&&decide (0≤x.to∧x.to≤rg-1)
def blkG (cs:List CodeD)(k b:Nat)(q:CodeD)(y:BlkD):Bool:=
 Qsj q.regs y&&y.next.all (Qadc (Qm q.blocks).length)&&y.ins.all (insG cs k)&&y.phis.all (phiG q.regs (Qam (fun i=>(q.blocks.map BlkD.next).getD i []) (b:Int) (Qm q.blocks).length).length b)
theorem Qbik {cs:List CodeD}{k b:Nat}{q:CodeD}{y:BlkD}(h:blkG cs k b q y=true):y.next.length≤2:=by
 simp only[blkG,Qsj,Bool.and_eq_true,decide_eq_true_eq]at h;have:=h.1.1.1.1;rw[Qp2]at this;split at this
 ·omega
 ·split at this
  ·omega
  ·split at this <;> omega
set_option maxHeartbeats 1000000 in
theorem Qbjz {cs:List CodeD}{fl:Bool}{k b:Nat}(hk:k<cs.length)(hbk:b<cs[k].blocks.length)(hr:0≤cs[k].regs)(hr2:cs[k].regs≤300)(hcl:cs.length≤100)(hbl:cs[k].blocks.length≤200)(hK:∀(H':Heap),Upd H H' []→K (.c (.bool (blkG cs k b cs[k] cs[k].blocks[b]))) H') :
  Qo prog Q6p [.ag [.sl fl 3 (Qk cs)],.c (.int .i64 k),.c (.int .i64 b)] H K:=by
 refine Qy ?_;refine Qb Qap Qbkn ?_;have retf:∀(v:Bool) (e:Env) (H':Heap) (L:List (Nat×Obj)),blkG cs k b cs[k] cs[k].blocks[b]=v→Kn H H' [] L→lk 6 e=.c (.bool v)→Q4 Qkk (fun x H'=>∃x',FrzV H' (un H) x x'∧K x' (H'.frz (un H))) .ret e H':=by
  intro v e H' L hb kn h3;simp only[go_sem,Q4,Qaa,Qkk,Ja,forall_eq,RS.op,h3];rw[←hb];exact⟨_,.c _ _ (Qg rfl),hK _ kn.fin⟩
 refine Qa ?_;simp only[go_sem];refine Qa ?_;simp only[go_sem,hk,Qx,Qad _ _ hk,CodeD.cells];intro x7 hx7 H1 h1;have kn:=(Kn.start0 H).al hx7 h1;have hx71:=kn.l 0 rfl;simp only[go_sem,Qace,hx71];intro H2 h2;have kn:=kn.stL 0 rfl h2;have hx72:=kn.l 0 rfl;refine Qa ?_;simp only[go_sem,hx72,hbk,Ql,Q1 _ _ hbk,BlkD.cells];obtain⟨y,hy⟩:∃y,cs[k].blocks[b]=y:=⟨_,rfl⟩;rw[hy];intro x8 hx8 H3 h3;have kn:=kn.al hx8 h3;have hx83:=kn.l 1 rfl;simp only[go_sem,Qacf,hx83];intro H4 h4;have kn:Kn H H4 [] [(x7,.st [.int .i64 cs[k].params,.int .i64 cs[k].regs,.sl false 5 (Qm cs[k].blocks)]),(x8,.st [.sl false 2 (Qz y.phis),.sl false 4 (Qac y.ins),.int .i64 y.jump,.int .i64 y.on,.sl false 1 (Qe y.next)])]:=kn.stL 1 rfl h4;obtain⟨q,hq⟩:∃q,cs[k]=q:=⟨_,rfl⟩;have hGe:blkG cs k b cs[k] cs[k].blocks[b]=blkG cs k b q y:=by rw[hy,hq]
 rw[hGe]at retf;rw[hq]at kn hr hr2 hbk hbl;generalize hnp:(Qam (fun i=>(q.blocks.map BlkD.next).getD i []) (b:Int) (Qm q.blocks).length).length=np;have hGd:blkG cs k b q y=(Qsj q.regs y&&y.next.all (Qadc (Qm q.blocks).length)&&y.ins.all (insG cs k)&&y.phis.all (phiG q.regs np b)):=by rw[blkG,hnp]
 refine Qa ?_;simp only[go_sem];have hx74:=kn.l 0 rfl;have hx84:=kn.l 1 rfl;refine Q5 ?_;refine Qa ?_;simp only[go_sem,hx84];have rest31:∀(want:Int) (E1:Env),Qp2 y.jump=want→(y.jump=1→y.on=0)→lk 1 E1=.c (.int .i64 k)→lk 2 E1=.c (.int .i64 b)→lk 3 E1=.c (.pp [.sl fl 3 (Qk cs)])→lk 7 E1=.c (.ptr x7 0)→lk 8 E1=.c (.ptr x8 0)→lk 9 E1=.c (.int .i64 want)→
   Qaj prog Qacd (Q4 Qkk (fun x H'=>∃x',FrzV H' (un H) x x'∧K x' (H'.frz (un H)))) E1 H4:=by
  intro want E1 hw hjo l1 l2 l3 l7 l8 l9;refine Q5 ?_;refine Qa ?_;simp only[go_sem,l1,l2,l3,l7,l8,l9,hx74,hx84,Qi];intro hnl;simp only[LIM]at hnl;refine⟨fun _=>Qp (by omega) (by omega),?_⟩;have rest8:∀(b1:Bool) (E1:Env),Qsj q.regs y=(!b1)→lk 1 E1=.c (.int .i64 k)→lk 2 E1=.c (.int .i64 b)→lk 3 E1=.c (.pp [.sl fl 3 (Qk cs)])→lk 7 E1=.c (.ptr x7 0)→lk 8 E1=.c (.ptr x8 0)→lk 53 E1=.c (.bool b1)→
    Qaj prog (s_l7Block_8.seq Qacc) (Q4 Qkk (fun x H'=>∃x',FrzV H' (un H) x x'∧K x' (H'.frz (un H)))) E1 H4:=by
   intro b1 E1 hn2 l1 l2 l3 l7 l8 l53;refine Qh (Qd l53 ?_ ?_)
   ·intro hc;refine Qa ?_;simp only[go_sem];refine Qj ?_;simp only[go_sem];exact retf false _ _ _ (by rw[hGd,hn2,hc];simp) kn (by simp[lk])
   intro hbf;rw[hbf]at hn2;refine Qf ?_;simp only[go_sem];refine Q5 ?_;refine Qa ?_;simp only[go_sem,l1,l2,l3,l7,l8];refine Qh (Qc (Qu (fun n e1 H1=>∃(i:Nat),n=y.next.length-i∧i≤y.next.length∧H1=H4∧(y.next.take i).all (Qadc (Qm q.blocks).length)=true∧e1=[(1,.c (.int .i64 k)),(2,.c (.int .i64 b)),(3,.c (.pp [.sl fl 3 (Qk cs)])),(7,.c (.ptr x7 0)),(8,.c (.ptr x8 0)),(10,.c (.int .i64 i))]) y.next.length ?_ ?_))
   ·exact⟨0,by omega,by omega,rfl,rfl,rfl⟩
   ·rintro n e1 H1 ⟨i,hn1,hi,rfl,hall1,rfl⟩;refine Q5 ?_;refine Qa ?_;simp only[go_sem,hx84,Qi];refine fun _=>?_;refine Qh (Qd rfl ?_ ?_)
    ·intro hc;have hlt:i<y.next.length:=(by simpa using hc);have hgd:y.next.getD i 0=y.next[i]:=(by simp[Jb,hlt]);have hng:Qadc (Qm q.blocks).length y.next[i]=decide (1≤y.next.getD i 0∧y.next.getD i 0≤(q.blocks.length:Int)-1):=(by rw[hgd,Qadc,Ql]);refine Qf ?_;simp only[go_sem];refine Qh (Qc ?_);refine Qao ?_;simp only[go_sem,hx84,hx74,hlt,Qi,Q9 _ _ hlt,Ql];refine⟨Qp (by omega) (by omega),?_⟩;refine Qdo ?_;simp only[go_sem,Qacg];refine Qd rfl ?_ ?_
     ·intro hc2;refine Qa ?_;simp only[go_sem];refine Qj ?_;simp only[go_sem,X.next];exact retf false _ _ _ (by rw[hGd,Qavn hlt (by rw[hng];exact Qsm hc2)];simp) kn (by simp[lk])
     ·intro hc2;refine Qf ?_;simp only[go_sem];refine Qr ?_;simp only[go_sem,X.next];exact⟨Qp (by omega) (by omega),y.next.length-(i+1),by omega,i+1,rfl,by omega,by rw[Qagy hlt,←Ql q.blocks,hall1,hng,Qgt hc2];rfl,rfl⟩
    ·intro hc;have hge:y.next.length≤i:=(by simpa using hc);rw[Jd hge]at hall1;refine Qv ?_;simp only[go_sem,X.next];refine Q5 ?_;refine Qa ?_;simp only[go_sem];refine Qh (Qc (Qu (fun n e1 H1=>∃(i:Nat),n=y.ins.length-i∧i≤y.ins.length∧Kn H H1 [] [(x7,.st [.int .i64 q.params,.int .i64 q.regs,.sl false 5 (Qm q.blocks)]),(x8,.st [.sl false 2 (Qz y.phis),.sl false 4 (Qac y.ins),.int .i64 y.jump,.int .i64 y.on,.sl false 1 (Qe y.next)])]∧(y.ins.take i).all (insG cs k)=true∧
      e1=[(1,.c (.int .i64 k)),(2,.c (.int .i64 b)),(3,.c (.pp [.sl fl 3 (Qk cs)])),(7,.c (.ptr x7 0)),(8,.c (.ptr x8 0)),(11,.c (.int .i64 i))]) y.ins.length ?_ ?_))
     ·exact⟨0,by omega,by omega,kn,rfl,rfl⟩
     ·rintro n e1 H5 ⟨i,hn1,hi,kn,hall2,rfl⟩;have hx75:=kn.l 0 rfl;have hx85:=kn.l 1 rfl;refine Q5 ?_;refine Qa ?_;simp only[go_sem,hx85,Q3];intro hil;simp only[LIM]at hil;refine Qh (Qd rfl ?_ ?_)
      ·intro hc;have hlt:i<y.ins.length:=(by simpa using hc);refine Qf ?_;simp only[go_sem];refine Qh (Qc ?_);refine Qao ?_;simp only[go_sem,hx85,hx75,hlt,Q3,Qa2 _ _ hlt,InsD.take4,InsD.allOw,InsD.len4];refine Qbr4 hk (by rw[hq];omega) (by rw[hq];omega) hcl fun H6 hu=>?_;have kn:=kn.call0 hu;simp only[go_sem,Q48];refine Qd rfl ?_ ?_
       ·intro hc2;refine Qa ?_;simp only[go_sem];refine Qj ?_;simp only[go_sem,X.next];exact retf false _ _ _ (by rw[hGd,Qavn hlt (Qsm hc2)];simp) kn (by simp[lk])
       ·intro hc2;refine Qf ?_;simp only[go_sem];refine Qr ?_;simp only[go_sem,X.next];exact⟨Qp (by omega) (by omega),y.ins.length-(i+1),by omega,i+1,rfl,by omega,kn,by rw[Qagy hlt,hall2,Qgt hc2];rfl,rfl⟩
      ·intro hc;have hge:y.ins.length≤i:=(by simpa using hc);rw[Jd hge]at hall2;refine Qv ?_;simp only[go_sem,X.next];refine Qa ?_;simp only[go_sem,hx75];refine Qah3 (rows:=Qm q.blocks) (nx:=fun i=>(q.blocks.map BlkD.next).getD i []) (.mk' _ _ _ _) rfl (Qbq6 q.blocks) fun H6 hu=>?_;have kn:=kn.call0 hu;simp only[go_sem,Q49];refine Q5 ?_;refine Qa ?_;simp only[go_sem];obtain⟨ps,hps⟩:∃ps,Qam (fun i=>(q.blocks.map BlkD.next).getD i []) (b:Int) (Qm q.blocks).length=ps:=⟨_,rfl⟩;rw[hps];rw[hps]at hnp;have hx76:=kn.l 0 rfl;have hx86:=kn.l 1 rfl;refine Qh (Qc (Qu (fun n e1 H1=>∃(i:Nat),n=y.phis.length-i∧i≤y.phis.length∧H1=H6∧(y.phis.take i).all (phiG q.regs np b)=true∧
        e1=[(2,.c (.int .i64 b)),(7,.c (.ptr x7 0)),(8,.c (.ptr x8 0)),(12,.c (.sl false 1 (Qe ps))),(13,.c (.int .i64 i))]) y.phis.length ?_ ?_))
       ·exact⟨0,by omega,by omega,rfl,rfl,rfl⟩
       ·rintro n e1 H7 ⟨i,hn1,hi,rfl,hall3,rfl⟩;refine Q5 ?_;refine Qa ?_;simp only[go_sem,hx86,Qq];intro hpl;simp only[LIM]at hpl;refine Qh (Qd rfl ?_ ?_)
        ·intro hc;have hlt:i<y.phis.length:=(by simpa using hc);refine Qf ?_;simp only[go_sem];refine Qh (Qc ?_);have fin:∀(b3:Bool) (E1:Env),phiG q.regs np b y.phis[i]=(!b3)→lk 2 E1=.c (.int .i64 b)→lk 7 E1=.c (.ptr x7 0)→lk 8 E1=.c (.ptr x8 0)→lk 12 E1=.c (.sl false 1 (Qe ps))→lk 13 E1=.c (.int .i64 i)→lk 135 E1=.c (.bool b3)→
           Qaj prog Qab9 (X.inBlock 6 (X.sq prog Qaca (X.next (fun e2 H2=>∃m,m<n∧∃(i:Nat),m=y.phis.length-i∧i≤y.phis.length∧H2=H7∧(y.phis.take i).all (phiG q.regs np b)=true∧
            e2=[(2,.c (.int .i64 b)),(7,.c (.ptr x7 0)),(8,.c (.ptr x8 0)),(12,.c (.sl false 1 (Qe ps))),(13,.c (.int .i64 i))]) (X.inBlock 5 (X.sq prog Qacb (Q4 Qkk (fun x H'=>∃x',FrzV H' (un H) x x'∧K x' (H'.frz (un H))))))))) E1 H7:=by
          intro b3 E1 hph l2 l7 l8 l12 l13 l135;refine Qd l135 ?_ ?_
          ·intro hc2;refine Qa ?_;simp only[go_sem];refine Qj ?_;simp only[go_sem,X.next];exact retf false _ _ _ (by rw[hGd,Qavn hlt (by rw[hph,hc2];rfl)];simp) kn (by simp[lk])
          ·intro hc2;refine Qf ?_;simp only[go_sem];refine Qr ?_;simp only[go_sem,X.next,l2,l7,l8,l12,l13];exact⟨Qp (by omega) (by omega),y.phis.length-(i+1),by omega,i+1,rfl,by omega,by rw[Qagy hlt,hall3,hph,hc2];rfl,rfl⟩
         refine Qao ?_;simp only[go_sem,hx86,hx76,hlt,Qq,Qal _ _ hlt,PhiD.cells,Qi];refine⟨fun hb1=>?_,fun hb1=>?_⟩
         ·refine Qbde (by omega) (by omega) ?_;simp only[go_sem,Qnh,hx86,hx76,hlt,Qq,Qal _ _ hlt,PhiD.cells];refine⟨fun _=>Qp (by omega) (by omega),?_⟩;refine⟨fun hb2=>?_,fun hb2=>?_⟩
          ·refine Qdo ?_;simp only[go_sem,Qgz];refine fin _ _ ?_ (by simp[lk]) (by simp[lk]) (by simp[lk]) (by simp[lk]) (by simp[lk]) (by simp[lk];rfl);simp[phiG,←hnp]
          ·replace hb2:=Qgt hb2;simp only[go_sem,Qgz,hb2];refine fin true _ ?_ (by simp[lk]) (by simp[lk]) (by simp[lk]) (by simp[lk]) (by simp[lk]) (by simp[lk]);subst hnp;simp at hb2;simp[phiG];intro h1 h2 h3;simp[h1,h2,h3]at hb2
         ·replace hb1:=Qgt hb1;simp only[go_sem,Qnh,Qgz,hb1,hx86,hx76,hlt,Qq,Qal _ _ hlt,PhiD.cells];refine fin true _ ?_ (by simp[lk]) (by simp[lk]) (by simp[lk]) (by simp[lk]) (by simp[lk]) (by simp[lk]);subst hnp;simp at hb1;simp[phiG];intro h1 h2 h3;simp[h1,h2]at hb1
        ·intro hc;have hge:y.phis.length≤i:=(by simpa using hc);rw[Jd hge]at hall3;refine Qv ?_;simp only[go_sem,X.next];refine Qa ?_;simp only[go_sem];refine Qj ?_;exact retf true _ _ _ (by rw[hGd,hn2,hall1,hall2,hall3];rfl) kn (by simp[lk])
  refine⟨fun hb1=>?_,fun hb1=>?_⟩
  ·refine Qdo ?_;simp only[go_sem,Qi0,hb1,l1,l2,l3,l7,l8];refine rest8 _ _ ?_ (by simp[lk]) (by simp[lk]) (by simp[lk]) (by simp[lk]) (by simp[lk]) (by simp[lk];rfl);by_cases hlw:(y.next.length:Int)=want
   ·by_cases hj:y.jump=1
    ·simp[hlw,hj]at hb1
    ·simp[Qsj,hw,hlw,hj]
   ·simp[hlw]at hb1
  ·by_cases hlw:(y.next.length:Int)=want
   ·by_cases hj:y.jump=1
    ·simp only[go_sem,Qi0,hlw,hj,l1,l2,l3,l7,l8,decide_true,decide_false,cond_true,cond_false];have hw1:Qp2 1=want:=(by rw[←hj];exact hw);refine rest8 _ _ ?_ (by simp[lk]) (by simp[lk]) (by simp[lk]) (by simp[lk]) (by simp[lk]) (by simp[lk];rfl);simp[Qsj,hw1,hlw,hj,hjo hj]
    ·simp[hlw,hj]at hb1
   ·simp only[go_sem,Qi0,hlw,l1,l2,l3,l7,l8,decide_true,decide_false,cond_true,cond_false];by_cases hj:y.jump=1
    ·simp only[go_sem,hj,decide_true,decide_false,cond_true,cond_false];exact rest8 true _ (by simp[Qsj,hw,hlw]) (by simp[lk]) (by simp[lk]) (by simp[lk]) (by simp[lk]) (by simp[lk]) (by simp[lk])
    ·simp only[go_sem,hj,decide_true,decide_false,cond_true,cond_false];exact rest8 true _ (by simp[Qsj,hw,hlw]) (by simp[lk]) (by simp[lk]) (by simp[lk]) (by simp[lk]) (by simp[lk]) (by simp[lk])
 refine Qh (Qc ?_);refine Qa ?_;simp only[go_sem];refine Qd rfl ?_ ?_
 ·intro hc;refine Qa ?_;simp only[go_sem,hx84];refine Qd rfl ?_ ?_
  ·intro hc2;refine Qa ?_;simp only[go_sem];refine Qj ?_;simp only[go_sem];exact retf false _ _ _ (by simp at hc hc2;rw[hGd];simp[Qsj,hc,hc2]) kn (by simp[lk])
  ·intro hc2;refine Qf ?_;simp only[go_sem];exact rest31 1 _ (by simp at hc;simp[Qp2,hc]) (fun _=>by simpa using hc2) (by simp[lk]) (by simp[lk]) (by simp[lk]) (by simp[lk]) (by simp[lk]) (by simp[lk])
 intro hc1;refine Qa ?_;simp only[go_sem];refine Qd rfl ?_ ?_
 ·intro hc;refine Qr ?_;simp only[go_sem];exact rest31 2 _ (by simp at hc;simp[Qp2,hc]) (fun h=>by simp at hc1;exact absurd h hc1) (by simp[lk]) (by simp[lk]) (by simp[lk]) (by simp[lk]) (by simp[lk]) (by simp[lk])
 intro hc2;refine Qa ?_;simp only[go_sem];refine Qd rfl ?_ ?_
 ·intro hc;refine Qr ?_;simp only[go_sem];exact rest31 0 _ (by simp at hc;simp[Qp2,hc]) (fun h=>by simp at hc1;exact absurd h hc1) (by simp[lk]) (by simp[lk]) (by simp[lk]) (by simp[lk]) (by simp[lk]) (by simp[lk])
 ·intro hc;refine Qa ?_;simp only[go_sem];refine Qj ?_;simp only[go_sem];exact retf false _ _ _ (by simp at hc1 hc2 hc;rw[hGd];simp[Qsj,Qp2,hc1,hc2,hc]) kn (by simp[lk])
set_option maxHeartbeats 3000000 in
theorem Qawf {b:BlkD}(hb:b.sg)(hK:∀(o:OBlk) (H':Heap),Kn H H' [] o.lg→o.ok→o.d=b→(∀p∈o.phis,p.own)→K (.ag o.row) H'):Qo prog Qi6 [.ag b.cells] H K:=by
 have hbn:=hb.n;have hbi:=hb.i;have hbp:=hb.p;refine Qd4 ?_;refine Qb Qap Qawu ?_;refine Qa ?_;simp only[go_sem,BlkD.cells];intro x2 hx2 H1 h1;have kn:=(Kn.start0 H).al hx2 h1;refine Qao ?_;simp only[go_sem,Qi,Jq,Jf];refine⟨.inl trivial,Q6 _,by simp only[LIM];omega,fun y hy H2 h2=>?_⟩;have kn:=kn.al hy h2;simp only[go_sem,Qo6];intro x3 hx3 H3 h3;have kn:=kn.al hx3 h3;have hx33:=kn.l 2 rfl;simp only[go_sem,Qo5,hx33];intro H4 h4;have kn:=kn.stL 2 rfl h4;obtain⟨nx,hnx⟩:∃nx:OInts,nx=⟨b.next,y⟩:=⟨_,rfl⟩;have hnc:C.vsl y 1 0 b.next.length=nx.c:=by rw[hnx];rfl
 have hnl:[(y,Obj.vec 1 (Qe b.next))]=nx.lg:=by rw[hnx];rfl
 rw[hnc]at kn;have kn:Kn H H4 [] ([(x2,.st [.sl true 2 [],.sl true 4 [],.int .i64 0,.int .i64 0,.sl true 1 []]),(x3,.st [.sl true 2 [],.sl true 4 [],.int .i64 b.jump,.int .i64 b.on,nx.c])]++nx.lg):=kn.perm (by
  rw[←hnl];exact .cons _ (.swap _ _ _))
 refine Q5 ?_;refine Qa ?_;simp only[go_sem];refine Qh (Qc (Qu (fun n e1 H1=>∃(i:Nat) (ps:List OPhi) (pc:C) (pl:List (Nat×Obj)),n=b.phis.length-i∧i≤b.phis.length∧ps.map OPhi.d=b.phis.take i∧(∀p∈ps,p.own)∧Gr pl 2 (ps.map OPhi.row) pc∧
  Kn H H1 [] (([(x2,.st [.sl true 2 [],.sl true 4 [],.int .i64 0,.int .i64 0,.sl true 1 []]),(x3,.st [pc,.sl true 4 [],.int .i64 b.jump,.int .i64 b.on,nx.c])]++(nx.lg++ps.flatMap OPhi.lg))++pl)∧
  e1=[(1,.c (.pp [.sl false 2 (Qz b.phis),.sl false 4 (Qac b.ins),.int .i64 b.jump,.int .i64 b.on,.sl false 1 (Qe b.next)])),(2,.c (.ptr x2 0)),(3,.c (.ptr x3 0)),(4,.c (.int .i64 i))]) b.phis.length ?_ ?_))
 ·exact⟨0,[],_,[],by omega,by omega,rfl,by simp,.nil 2,by simpa using kn,rfl⟩
 ·rintro n e1 H1 ⟨i,ps,pc,pl,hn1,hi,hpsd,hpsok,hgr,kn,rfl⟩;have hpsl:ps.length=i:=by have:=congrArg List.length hpsd;rw[Je,J3]at this;omega
  have hpcow:=hgr.isOw;refine Q5 ?_;refine Qa ?_;simp only[go_sem,Qq];intro hl;refine Qh (Qd rfl ?_ ?_)
  ·intro hc;have hlt:i<b.phis.length:=by simpa using hc
   have hpa:=hb.pa _ (Jc hlt);have hx31:=kn.l 1 rfl;refine Qf ?_;simp only[go_sem];refine Qh (Qc (Qbw ?_));simp only[go_sem,hx31,hpcow,hlt,Qq,Qal _ _ hlt,PhiD.cells,Qi,Jq,Jf];refine⟨.inl trivial,Q6 _,by simp only[LIM];omega,fun a ha H5 h5=>?_⟩;have kn:=kn.al ha h5;have hx35:=kn.l 1 rfl;simp only[go_sem,Qo8,hx35,hpcow,hlt,Qq,Qal _ _ hlt,PhiD.cells];obtain⟨o,ho⟩:∃o:OPhi,o=⟨b.phis[i].to,b.phis[i].args,.vsl a 1 0 b.phis[i].args.length,[(a,.vec 1 (Qe b.phis[i].args))]⟩:=⟨_,rfl⟩;have hoow:o.own:=by rw[ho];exact⟨a,rfl,rfl⟩
   have hook:o.ok:=.inl hoow;have hor:[C.int IntKind.i64 b.phis[i].to,C.vsl a 1 0 b.phis[i].args.length]=o.row:=by rw[ho];rfl
   have hol:[(a,Obj.vec 1 (Qe b.phis[i].args))]=o.lg:=by rw[ho]
   rw[hor];rw[hol]at kn;have kn:=kn.perm Qa00;refine kn.grow (new:=[o.row]) hgr (.mk' _ _ _ _) (by intro r hr;simp only[Ja]at hr;subst hr;exact o.noOw hook) (by simp only[Je,Jl,Jo,LIM];omega) fun z H6 kn=>?_;have kn:Kn H H6 [] (([(x2,.st [.sl true 2 [],.sl true 4 [],.int .i64 0,.int .i64 0,.sl true 1 []]),(x3,.st [pc,.sl true 4 [],.int .i64 b.jump,.int .i64 b.on,nx.c])]++(nx.lg++(ps++[o]).flatMap OPhi.lg))++[(z,.vec 2 ((ps++[o]).map OPhi.row))]):=by
    simpa[Js,Jj]using kn
   have hx36:=kn.l 1 rfl;simp only[go_sem,Qo7,hx36];intro H7 h7;have kn:=kn.stL 1 rfl h7;refine Qr ?_;simp only[go_sem,X.next];simp only[LIM]at hl;refine⟨Qp (by omega) (by omega),b.phis.length-(i+1),by omega,i+1,ps++[o],_,_,rfl,by omega,by rw[Jv,hpsd,Jk hlt,ho];rfl,fun p hp=>?_,?_,kn,rfl⟩
   ·rcases Jm.1 hp with h|h
    ·exact hpsok p h
    ·simp only[Ja]at h;subst h;exact hoow
   ·exact .mk _ _ _ (by simp)
  ·intro hc;have hpsd':ps.map OPhi.d=b.phis:=by rw[hpsd,Jd (by simpa using hc)]
   refine Qv ?_;simp only[go_sem,X.next];refine Q5 ?_;refine Qa ?_;simp only[go_sem];refine Qh (Qc (Qu (fun n e1 H1=>∃(i:Nat) (is:List OIns) (ic:C) (il:List (Nat×Obj)),n=b.ins.length-i∧i≤b.ins.length∧is.map OIns.d=b.ins.take i∧(∀x∈is,x.a.ns.length≤1000000)∧Gr il 4 (is.map OIns.row) ic∧
    Kn H H1 [] (([(x2,.st [.sl true 2 [],.sl true 4 [],.int .i64 0,.int .i64 0,.sl true 1 []]),(x3,.st [pc,ic,.int .i64 b.jump,.int .i64 b.on,nx.c])]++(nx.lg++(ps.flatMap OPhi.lg++(pl++is.flatMap OIns.lg))))++il)∧
    e1=[(1,.c (.pp [.sl false 2 (Qz b.phis),.sl false 4 (Qac b.ins),.int .i64 b.jump,.int .i64 b.on,.sl false 1 (Qe b.next)])),(2,.c (.ptr x2 0)),(3,.c (.ptr x3 0)),(5,.c (.int .i64 i))]) b.ins.length ?_ ?_))
   ·exact⟨0,[],_,[],by omega,by omega,rfl,by simp,.nil 4,by simpa[Jj]using kn,rfl⟩
   ·rintro n e1 H1 ⟨i,is,ic,il,hn1,hi,hisd,hisa,hgi,kn,rfl⟩;have hisl:is.length=i:=(by have:=congrArg List.length hisd;rw[Je,J3]at this;omega);have hicow:=hgi.isOw;refine Q5 ?_;refine Qa ?_;simp only[go_sem,Q3];intro hl;refine Qh (Qd rfl ?_ ?_)
    ·intro hc;have hlt:i<b.ins.length:=(by simpa using hc);have hia:=hb.ia _ (Jc hlt);refine Qf ?_;simp only[go_sem];refine Qh (Qc ?_);refine Qa ?_;simp only[go_sem,hlt,Q3,Qa2 _ _ hlt,InsD.cells];intro x6 hx6 H5 h5;have kn:=kn.al hx6 h5;have kn:=kn.perm (Ji (l₁:=_) (l₂:=[(x6,_)]));have hx65:=kn.l 0 rfl;simp only[go_sem,Qo9,hx65];intro H6 h6;have kn:=kn.stL 0 rfl h6;have hx66:=kn.l 0 rfl;have hx36:=kn.l 2 rfl;refine Qbw ?_;simp only[go_sem,hx66,hx36,hicow,Qi,Jq,Jf];refine⟨.inl trivial,Q6 _,by simp only[LIM];omega,fun a ha H7 h7=>?_⟩;have kn:=kn.al ha h7;have hx67:=kn.l 0 rfl;have hx37:=kn.l 2 rfl;simp only[go_sem,Qpb,hx67,hx37,hicow];obtain⟨o,ho⟩:∃o:OIns,o=⟨b.ins[i].op,b.ins[i].to,⟨b.ins[i].args,a⟩,b.ins[i].n⟩:=⟨_,rfl⟩;have hor:[C.int IntKind.i64 b.ins[i].op,C.int IntKind.i64 b.ins[i].to,C.vsl a 1 0 b.ins[i].args.length,C.int IntKind.i64 b.ins[i].n]=o.row:=(by rw[ho];rfl);have hol:[(a,Obj.vec 1 (Qe b.ins[i].args))]=o.lg:=(by rw[ho];rfl);rw[hor];rw[hol]at kn;have kn:Kn H H7 [] ((([(x2,.st [.sl true 2 [],.sl true 4 [],.int .i64 0,.int .i64 0,.sl true 1 []]),(x3,.st [pc,ic,.int .i64 b.jump,.int .i64 b.on,nx.c])]++(nx.lg++(ps.flatMap OPhi.lg++(pl++is.flatMap OIns.lg))))++il)++o.lg):=by
      have kn:=kn.perm (Ji (l₁:=[(x6,_)]) (l₂:=_));exact kn.drop
     have kn:=kn.perm Qa00;refine kn.grow (new:=[o.row]) hgi (.mk' _ _ _ _) (by simp[o.noOw]) (by simp only[Je,Jl,Jo,LIM];omega) fun z H8 kn=>?_;have kn:Kn H H8 [] (([(x2,.st [.sl true 2 [],.sl true 4 [],.int .i64 0,.int .i64 0,.sl true 1 []]),(x3,.st [pc,ic,.int .i64 b.jump,.int .i64 b.on,nx.c])]++(nx.lg++(ps.flatMap OPhi.lg++(pl++(is++[o]).flatMap OIns.lg))))++[(z,.vec 4 ((is++[o]).map OIns.row))]):=by
      simpa[Js,Jj]using kn
     have hx38:=kn.l 1 rfl;simp only[go_sem,Qpa,hx38];intro H9 h9;have kn:=kn.stL 1 rfl h9;refine Qr ?_;simp only[go_sem,X.next];simp only[LIM]at hl;refine⟨Qp (by omega) (by omega),b.ins.length-(i+1),by omega,i+1,is++[o],_,_,rfl,by omega,by rw[Jv,hisd,Jk hlt,ho];rfl,fun x hx=>?_,?_,kn,rfl⟩
     ·rcases Jm.1 hx with hx|hx
      ·exact hisa x hx
      ·simp only[Ja]at hx;rw[hx,ho];exact hia
     ·exact .mk _ _ _ (by simp)
    ·intro hc;have hisd':is.map OIns.d=b.ins:=(by rw[hisd,Jd (by simpa using hc)]);have hx21:=kn.l 0 rfl;have hx31:=kn.l 1 rfl;refine Qv ?_;simp only[go_sem,X.next];have hnow:nx.c.isOw=false:=rfl;refine Qa ?_;simp only[go_sem,hx21,hx31,hpcow,hicow,hnow];intro H5 h5;have kn:=kn.stL 0 rfl h5;have hx25:=kn.l 0 rfl;refine Qj ?_;simp only[go_sem,Q4,Qaa,Q3c,reduceIte,Ja,forall_eq,RS.op,hx25,hpcow,hicow,hnow];obtain⟨o,ho⟩:∃o:OBlk,o=⟨ps,pc,pl,is,ic,il,b.jump,b.on,nx⟩:=⟨_,rfl⟩;have hok:o.ok:=(by rw[ho];exact⟨hgr,hgi,fun p hp=>.inl (hpsok p hp)⟩);have hod:o.d=b:=by
      rw[ho];show BlkD.mk (ps.map OPhi.d) (is.map OIns.d) b.jump b.on nx.ns=b;rw[hpsd',hisd',hnx]
     have kn:Kn H H5 [] ([(x2,.st [pc,ic,.int .i64 b.jump,.int .i64 b.on,nx.c]),(x3,.st [pc,ic,.int .i64 b.jump,.int .i64 b.on,nx.c])]++o.lg):=by
      rw[ho];simpa[OBlk.lg,Jj]using kn
     refine⟨unx H o.lg,.ag o.row,H5.frz (unx H o.lg),?_,Qdb _ _,hK o _ kn.finK hok hod (by rw[ho];exact hpsok)⟩;rw[ho];exact FrzL.ag (.cons (.same _ hpcow) (.cons (.same _ hicow) (.cons (Qg rfl) (.cons (Qg rfl) (.cons (.same _ hnow) .nil)))))
theorem BlkD.take5 (x:BlkD):x.cells.take 5=x.cells:=rfl
theorem BlkD.allOw (x:BlkD):(x.cells.all fun c=>!c.isOw)=true:=rfl
theorem BlkD.len5 (x:BlkD):x.cells.length=5:=rfl
theorem CodeD.take3 (x:CodeD):x.cells.take 3=x.cells:=rfl
theorem CodeD.allOw (x:CodeD):(x.cells.all fun c=>!c.isOw)=true:=rfl
theorem CodeD.len3 (x:CodeD):x.cells.length=3:=rfl
theorem OBlk.len5 (x:OBlk):x.row.length=5:=rfl
theorem OCode.len3 (x:OCode):x.row.length=3:=rfl
set_option maxHeartbeats 2000000 in
theorem Qbdd {q:CodeD}(hq:q.sg)(hK:∀(o:OCode) (H':Heap),Kn H H' [] o.lg→o.ok→o.d=q→(∀b∈o.blocks,∀p∈b.phis,p.own)→K (.ag o.row) H'):Qo prog Qhi [.ag q.cells] H K:=by
 have hqb:=hq.b;refine Qd4 ?_;refine Qb Qap Qbox ?_;refine Qa ?_;simp only[go_sem,CodeD.cells];intro x2 hx2 H1 h1;have kn:=(Kn.start0 H).al hx2 h1;refine Qa ?_;simp only[go_sem];intro x3 hx3 H2 h2;have kn:=kn.al hx3 h2;have hx32:=kn.l 1 rfl;simp only[go_sem,Qamy,hx32];intro H3 h3;have kn:=kn.stL 1 rfl h3;refine Q5 ?_;refine Qa ?_;simp only[go_sem];refine Qh (Qc (Qu (fun n e1 H1=>∃(i:Nat) (os:List OBlk) (bc:C) (bl:List (Nat×Obj)),n=q.blocks.length-i∧i≤q.blocks.length∧os.map OBlk.d=q.blocks.take i∧(∀o∈os,o.ok∧∀p∈o.phis,p.own)∧Gr bl 5 (os.map OBlk.row) bc∧
  Kn H H1 [] (([(x2,.st [.int .i64 0,.int .i64 0,.sl true 5 []]),(x3,.st [.int .i64 q.params,.int .i64 q.regs,bc])]++os.flatMap OBlk.lg)++bl)∧
  e1=[(1,.c (.pp [.int .i64 q.params,.int .i64 q.regs,.sl false 5 (Qm q.blocks)])),(2,.c (.ptr x2 0)),(3,.c (.ptr x3 0)),(4,.c (.int .i64 i))]) q.blocks.length ?_ ?_))
 ·exact⟨0,[],_,[],by omega,by omega,rfl,by simp,.nil 5,by simpa using kn,rfl⟩
 ·rintro n e1 H1 ⟨i,os,bc,bl,hn1,hi,hod,hok,hgr,kn,rfl⟩;have hol:os.length=i:=by have:=congrArg List.length hod;rw[Je,J3]at this;omega
  have hbow:=hgr.isOw;have hx31:=kn.l 1 rfl;refine Q5 ?_;refine Qa ?_;simp only[go_sem,Ql];intro hl;simp only[LIM]at hl;refine Qh (Qd rfl ?_ ?_)
  ·intro hc;have hlt:i<q.blocks.length:=by simpa using hc
   refine Qf ?_;simp only[go_sem];refine Qh (Qc (Qbw ?_));simp only[go_sem,hx31,hbow,hlt,Ql,Q1 _ _ hlt,BlkD.take5,BlkD.allOw,BlkD.len5];refine Qawf (hq.bs _ (Jc hlt)) fun o H4 k2 hoo hbd hoow=>?_;have kn:=kn.comp0 k2;have hx34:=kn.l 1 rfl;simp only[go_sem,Qam0,hx34,hbow,o.len5];have kn:=kn.perm Qa00;refine kn.grow (new:=[o.row]) hgr (.mk' _ _ _ _) (by intro r hr;simp only[Ja]at hr;subst hr;exact o.noOw hoo) (by simp only[Je,Jl,Jo,LIM];omega) fun z H5 kn=>?_;have kn:Kn H H5 [] (([(x2,.st [.int .i64 0,.int .i64 0,.sl true 5 []]),(x3,.st [.int .i64 q.params,.int .i64 q.regs,bc])]++(os++[o]).flatMap OBlk.lg)++[(z,.vec 5 ((os++[o]).map OBlk.row))]):=by
    simpa[Js,Jj]using kn
   have hx35:=kn.l 1 rfl;simp only[go_sem,Qamz,hx35];intro H6 h6;have kn:=kn.stL 1 rfl h6;refine Qr ?_;simp only[go_sem,X.next];refine⟨Qp (by omega) (by omega),q.blocks.length-(i+1),by omega,i+1,os++[o],_,_,rfl,by omega,by rw[Jv,hod,Jk hlt,Jaj,Jak,hbd],fun o' ho'=>?_,.mk _ _ _ (by simp),kn,rfl⟩;rcases Jm.1 ho' with h|h
   ·exact hok o' h
   ·simp at h;subst h;exact⟨hoo,hoow⟩
  ·intro hc;have hge:q.blocks.length≤i:=by simpa using hc
   have hx21:=kn.l 0 rfl;refine Qv ?_;simp only[go_sem,X.next];refine Qa ?_;simp only[go_sem,hx31,hx21,hbow];intro H4 h4;have kn:=kn.stL 0 rfl h4;have hx24:=kn.l 0 rfl;refine Qj ?_;simp only[go_sem,Q4,Qaa,Qbdu,reduceIte,Ja,forall_eq,RS.op,hx24,hbow];obtain⟨o,ho⟩:∃o:OCode,o=⟨q.params,q.regs,os,bc,bl⟩:=⟨_,rfl⟩;have hod:o.d=q:=by
    rw[ho];show CodeD.mk q.params q.regs (os.map OBlk.d)=q;rw[hod,Jd hge]
   have how':∀b∈o.blocks,∀p∈b.phis,p.own:=by rw[ho];exact fun b hb=>(hok b hb).2
   have hok:o.ok:=by rw[ho];exact⟨hgr,fun b hb=>(hok b hb).1⟩
   have kn:Kn H H4 [] ([(x2,.st [.int .i64 q.params,.int .i64 q.regs,bc]),(x3,.st [.int .i64 q.params,.int .i64 q.regs,bc])]++o.lg):=by
    rw[ho];simpa[OCode.lg,Jj]using kn
   refine⟨unx H o.lg,.ag o.row,H4.frz (unx H o.lg),?_,Qdb _ _,hK o _ kn.finK hok hod how'⟩;rw[ho];exact FrzL.ag (.cons (Qg rfl) (.cons (Qg rfl) (.cons (.same _ hbow) .nil)))
theorem Qbod {q:CodeD}(hq:q.sm)(hK:∀(o:OCode) (H':Heap),Kn H H' [] o.lg→o.ok→o.d=q→o.sm 1000→K (.ag o.row) H'):Qo prog Qhi [.ag q.cells] H K:=
 Qbdd hq.sg fun o H' k1 k2 k3 _=>hK o H' k1 k2 k3 (by rw[←k3]at hq;exact hq.o)
set_option maxHeartbeats 2000000 in
theorem Qa0c {cs:List CodeD}{fl:Bool}(hs:∀c∈cs,c.sm)(hl:cs.length≤1000000)
  (hK:∀(us:List OCode) (cc:C) (cl:List (Nat×Obj)) (H':Heap),Kn H H' [] (us.flatMap OCode.lg++cl)→Gr cl 3 (us.map OCode.row) cc→(∀u∈us,u.ok∧u.sm 1000)→us.length=cs.length→K (.ag [cc]) H') :
  Qo prog Qmm [.ag [.sl fl 3 (Qk cs)]] H K:=by
 refine Qd4 ?_;refine Qb Qap Qa0q ?_;refine Qa ?_;simp only[go_sem];intro x2 hx2 H1 h1;have kn:=(Kn.start0 H).al hx2 h1;refine Qa ?_;simp only[go_sem];intro x3 hx3 H2 h2;have kn:=kn.al hx3 h2;have hx32:=kn.l 1 rfl;simp only[go_sem,Quv,hx32];intro H3 h3;have kn:=kn.stL 1 rfl h3;refine Q5 ?_;refine Qa ?_;simp only[go_sem];refine Qh (Qc (Qu (fun n e1 H1=>∃(i:Nat) (os:List OCode) (bc:C) (bl:List (Nat×Obj)),n=cs.length-i∧i≤cs.length∧os.length=i∧(∀o∈os,o.ok∧o.sm 1000)∧Gr bl 3 (os.map OCode.row) bc∧
  Kn H H1 [] (([(x2,.st [.sl true 3 []]),(x3,.st [bc])]++os.flatMap OCode.lg)++bl)∧
  e1=[(1,.c (.pp [.sl fl 3 (Qk cs)])),(2,.c (.ptr x2 0)),(3,.c (.ptr x3 0)),(4,.c (.int .i64 i))]) cs.length ?_ ?_))
 ·exact⟨0,[],_,[],by omega,by omega,rfl,by simp,.nil 3,by simpa using kn,rfl⟩
 ·rintro n e1 H1 ⟨i,os,bc,bl,hn1,hi,hol,hok,hgr,kn,rfl⟩;have hbow:=hgr.isOw;have hx31:=kn.l 1 rfl;refine Q5 ?_;refine Qa ?_;simp only[go_sem,Qx];intro _;refine Qh (Qd rfl ?_ ?_)
  ·intro hc;have hlt:i<cs.length:=by simpa using hc
   refine Qf ?_;simp only[go_sem];refine Qh (Qc (Qbw ?_));simp only[go_sem,hx31,hbow,hlt,Qx,Qad _ _ hlt,CodeD.take3,CodeD.allOw,CodeD.len3];refine Qbod (hs _ (Jc hlt)) fun o H4 k2 hoo _ hob=>?_;have kn:=kn.comp0 k2;have hx34:=kn.l 1 rfl;simp only[go_sem,Qux,hx34,hbow,o.len3];have kn:=kn.perm Qa00;refine kn.grow (new:=[o.row]) hgr (.mk' _ _ _ _) (by intro r hr;simp only[Ja]at hr;subst hr;exact o.noOw hoo) (by simp only[Je,Jl,Jo,LIM];omega) fun z H5 kn=>?_;have kn:Kn H H5 [] (([(x2,.st [.sl true 3 []]),(x3,.st [bc])]++(os++[o]).flatMap OCode.lg)++[(z,.vec 3 ((os++[o]).map OCode.row))]):=by
    simpa[Js,Jj]using kn
   have hx35:=kn.l 1 rfl;simp only[go_sem,Quw,hx35];intro H6 h6;have kn:=kn.stL 1 rfl h6;refine Qr ?_;simp only[go_sem,X.next];refine⟨Qp (by omega) (by omega),cs.length-(i+1),by omega,i+1,os++[o],_,_,rfl,by omega,by simp[hol],fun o' ho'=>?_,.mk _ _ _ (by simp),kn,rfl⟩;rcases Jm.1 ho' with h|h
   ·exact hok o' h
   ·simp at h;subst h;exact⟨hoo,hob⟩
  ·intro hc;have hge:cs.length≤i:=by simpa using hc
   have hx21:=kn.l 0 rfl;refine Qv ?_;simp only[go_sem,X.next];refine Qa ?_;simp only[go_sem,hx31,hx21,hbow];intro H4 h4;have kn:=kn.stL 0 rfl h4;have hx24:=kn.l 0 rfl;refine Qj ?_;simp only[go_sem,Q4,Qaa,Qaah,reduceIte,Ja,forall_eq,RS.op,hx24,hbow];have kn:Kn H H4 [] ([(x2,.st [bc]),(x3,.st [bc])]++(os.flatMap OCode.lg++bl)):=by
    simpa[Jj]using kn
   exact⟨unx H _,.ag [bc],H4.frz (unx H _),FrzL.ag (.cons (.same _ hbow) .nil),Qdb _ _,hK os bc bl _ kn.finK hgr hok (by omega)⟩
structure CRd (H:Heap)(R:Rdr)(cc:C)(rows:List (List C)):Prop where
 s:Slc H 3 rows cc
 ow:cc.isOw=false
 ne:∀l a c d,cc=.vsl l a c d→l≠R.l
 r:∀i,i<rows.length→∃(p:Int) (c1 c2:C),rows.getD i []=[.int .i64 p,c1,c2]∧0≤p∧p≤3
theorem CRd.keep {R:Rdr}{cc:C}{rows:List (List C)}{o:Obj}{H':Heap}{L:List (Nat×Obj)}(h:CRd H R cc rows)(kn:Kn H H' [(R.l,o)] L):CRd H' R cc rows:=
 ⟨h.s.keep kn (fun l a c d hh=>by simpa using h.ne l a c d hh),h.ow,h.ne,h.r⟩
theorem Qbj0 {R:Rdr}{k b n:Nat}(hH:H R.l=R.o k)(hk:k+2≤2^40)(hb:b≤1000)(hn:n≤1000)
  (hK:∀(v:Int) (H':Heap) (k':Nat),k<k'→k'≤k+2→Upd H H' [(R.l,R.o k')]→K (.c (.int .i64 v)) H') :
  Qo prog Qahs [.c (.ptr R.l 0),.c (.int .i64 b),.c (.int .i64 n)] H K:=by
 refine Qy ?_;refine Qb Qap Qbt7 ?_;have kn:=Kn.start1 hH (R.o_ne k);refine Qa ?_;simp only[go_sem];refine Q5 ?_;refine Qa ?_;simp only[go_sem];refine⟨Qp (by omega) (by omega),?_⟩;have rest:∀(v:Bool) (H2:Heap) (k2:Nat),k≤k2→k2≤k+1→Kn H H2 [(R.l,R.o k2)] []→
   Qaj prog (s_l7To_2.seq Qbd1) (Q4 Qbdv fun x H'=>∃x',FrzV H' (un H) x x'∧K x' (H'.frz (un H))) [(0,.c (.ptr R.l 0)),(1,.c (.int .i64 b)),(2,.c (.int .i64 n)),(15,.c (.bool v))] H2:=by
  intro v H2 k2 hk1 hk2 kn;have pv:∀m v:Int,m≤1000→(if m<1 then v=0 else 0≤v∧v<m)→0≤v∧v≤1000:=by
   intro m v hm hv;split at hv <;> omega
  refine Qh (Qd rfl ?_ ?_)
  ·intro hc;refine Qa ?_;simp only[go_sem];refine⟨Qp (by omega) (by omega),Qp (by omega) (by omega),Qp (by omega) (by omega),?_⟩;refine Qbc (kn.e 0 rfl) (by omega) fun v H3 hv hu=>?_;have kn:=kn.callE 0 rfl hu (R.o_ne _);have hv:=pv _ _ (by omega) hv;simp only[go_sem,Qa4y];refine⟨Qp (by omega) (by omega),?_⟩;refine Qj ?_;simp only[go_sem,Q4,Qaa,Qbdv,reduceIte,Ja,forall_eq,RS.op];exact⟨_,.c _ _ (Qg rfl),hK _ _ (k2+1) (by omega) (by omega) kn.fin⟩
  ·intro hc;refine Qf ?_;simp only[go_sem];refine Qa ?_;simp only[go_sem];refine⟨Qp (by omega) (by omega),?_⟩;refine Qbc (kn.e 0 rfl) (by omega) fun v H3 hv hu=>?_;have kn:=kn.callE 0 rfl hu (R.o_ne _);have hv:=pv _ _ (by omega) hv;simp only[go_sem,Qa4z];refine⟨Qp (by omega) (by omega),?_⟩;refine Qj ?_;simp only[go_sem,Q4,Qaa,Qbdv,reduceIte,Ja,forall_eq,RS.op];exact⟨_,.c _ _ (Qg rfl),hK _ _ (k2+1) (by omega) (by omega) kn.fin⟩
 refine⟨fun hb1=>?_,fun hb1=>?_⟩
 ·refine Qbc (kn.e 0 rfl) (by omega) fun v H3 hv hu=>?_;have kn:=kn.callE 0 rfl hu (R.o_ne _);simp only[go_sem,Qani,hb1];exact rest _ _ (k+1) (by omega) (by omega) kn
 ·simp only[go_sem,Qani,hb1];exact rest _ _ k (by omega) (by omega) kn
set_option maxHeartbeats 2000000 in
theorem Qbof {R:Rdr}{k:Nat}{cc:C}{rows:List (List C)}{regs:Int}(hH:H R.l=R.o k)(hk:k+9≤2^40)(hc:CRd H R cc rows)
  (hK:∀(x:InsD) (H':Heap) (k':Nat),k<k'→k'≤k+9→Upd H H' [(R.l,R.o k')]→x.args.length≤3→K (.ag x.cells) H') :
  Qo prog Qahr [.c (.ptr R.l 0),.ag [cc],.c (.int .i64 regs)] H K:=by
 refine Qy ?_;refine Qb Qap Qboz ?_;have how:=hc.ow;have hlen:=hc.s.len;have hesz:=hc.s.sz;refine Qa ?_;simp only[go_sem,how];intro x6 hx6 H1 h1;have kn:=(Kn.start1 hH (R.o_ne k)).al hx6 h1;refine Qa ?_;simp only[go_sem];refine Qkg (ns:=[1,1,2,3,4,5,8,9,10,13,3,6,7,11,12,14]) (kn.e 0 rfl) (by omega) (by simp) fun op H2 hop hu=>?_;have kn:=kn.callE 0 rfl hu (R.o_ne _);simp only[go_sem,Qand];refine Qa ?_;simp only[go_sem];refine Qbc (kn.e 0 rfl) (by omega) fun to H3 hto hu=>?_;have kn:=kn.callE 0 rfl hu (R.o_ne _);simp only[go_sem,Qane,Q1s];intro x8 hx8 H4 h4;have kn:=kn.al hx8 h4;have hx84:=kn.l 1 rfl;simp only[go_sem,Q1s,hx84];intro H5 h5;have kn:=kn.stL 1 rfl h5;refine Qa ?_;simp only[go_sem];refine Qbjy fun many hm1 hm2=>?_;simp only[go_sem,Qanf];have args:∀(many:Int) (to n:Int) (H6:Heap) (k6:Nat),many≤3→k<k6→k6≤k+4→Kn H H6 [(R.l,R.o k6)] [(x6,.st [.int .i64 0,.int .i64 0,.sl true 1 [],.int .i64 0]),(x8,.st [.int .i64 op,.int .i64 to,.sl true 1 [],.int .i64 n])]→
   Qaj prog Qana (Q4 Qxf fun x H'=>∃x',FrzV H' (un H) x x'∧K x' (H'.frz (un H))) [(0,.c (.ptr R.l 0)),(2,.c (.int .i64 regs)),(6,.c (.ptr x6 0)),(8,.c (.ptr x8 0)),(9,.c (.int .i64 many))] H6:=by
  intro many to n H6 k6 hmany hk1 hk2 kn;refine Q5 ?_;refine Qa ?_;simp only[go_sem];refine Qh (Qc (Qu (fun m e1 H1=>∃(i:Nat) (ns:List Int) (ac:C) (al:List (Nat×Obj)),m=3-i∧i≤3∧ns.length=i∧Gr al 1 (Qe ns) ac∧
   Kn H H1 [(R.l,R.o (k6+i))] ([(x6,.st [.int .i64 0,.int .i64 0,.sl true 1 [],.int .i64 0]),(x8,.st [.int .i64 op,.int .i64 to,ac,.int .i64 n])]++al)∧
   e1=[(0,.c (.ptr R.l 0)),(2,.c (.int .i64 regs)),(6,.c (.ptr x6 0)),(8,.c (.ptr x8 0)),(9,.c (.int .i64 many)),(10,.c (.int .i64 i))]) 3 ?_ ?_))
  ·exact⟨0,[],_,[],by omega,by omega,rfl,.nil 1,by simpa using kn,rfl⟩
  ·rintro m e1 H7 ⟨i,ns,ac,al,hm,hi,hns,hgr,kn,rfl⟩;have hacow:=hgr.isOw;have hx8:=kn.l 1 rfl;refine Q5 ?_;refine Qa ?_;simp only[go_sem];refine Qh (Qd rfl ?_ ?_)
   ·intro hc;have hlt:(i:Int)<many:=(by simpa using hc);refine Qf ?_;simp only[go_sem];refine Qh (Qc ?_);refine Qbw ?_;simp only[go_sem,hx8,hacow];refine Qbc (kn.e 0 rfl) (by omega) fun v H8 hv hu=>?_;have kn:=kn.callE 0 rfl hu (R.o_ne _);have hx8:=kn.l 1 rfl;simp only[go_sem,Qacs,hx8,hacow];refine kn.grow (new:=Qe [v]) hgr (.mk' _ _ _ _) (Q6 _) (by simp only[Qi,LIM,Jl,Jo];omega) fun y H9 kn=>?_;have hx8:=kn.l 1 rfl;simp only[go_sem,Qacr,hx8];intro H10 h10;have kn:=kn.stL 1 rfl h10;refine Qr ?_;simp only[go_sem,X.next];refine⟨Qp (by omega) (by omega),3-(i+1),by omega,i+1,ns++[v],_,_,rfl,by omega,by simp[hns],?_,kn,rfl⟩;rw[←Qdn];exact .mk _ _ _ (by simp[Qdn,Qi])
   ·intro hc;refine Qv ?_;simp only[go_sem,X.next];have hx6:=kn.l 0 rfl;refine Qa ?_;simp only[go_sem,hx8,hx6,hacow];intro H8 h8;have kn:Kn H H8 [(R.l,R.o (k6+i))] ([(x6,.st [.int .i64 op,.int .i64 to,ac,.int .i64 n]),(x8,.st [.int .i64 op,.int .i64 to,ac,.int .i64 n])]++al):=kn.stL 0 rfl h8;have hx6:=kn.l 0 rfl;refine Qj ?_;simp only[go_sem,Q4,Qaa,Qxf,reduceIte,Ja,forall_eq,RS.op,hx6,hacow];exact⟨.ag (InsD.mk op to ns n).cells,FrzL.ag (.cons (Qg rfl) (.cons (Qg rfl) (.cons (hgr.frz kn (Q6 _)) (.cons (Qg rfl) .nil)))),hK ⟨op,to,ns,n⟩ _ (k6+i) (by omega) (by omega) kn.fin (by show ns.length≤3;omega)⟩
 have rest:∀(many n:Int) (H6:Heap) (k6:Nat) (E1:Env),lk 0 E1=.c (.ptr R.l 0)→lk 2 E1=.c (.int .i64 regs)→lk 6 E1=.c (.ptr x6 0)→lk 7 E1=.c (.int .i64 op)→lk 8 E1=.c (.ptr x8 0)→lk 9 E1=.c (.int .i64 many)→many≤3→k<k6→k6≤k+3→Kn H H6 [(R.l,R.o k6)] [(x6,.st [.int .i64 0,.int .i64 0,.sl true 1 [],.int .i64 0]),(x8,.st [.int .i64 op,.int .i64 to,.sl true 1 [],.int .i64 n])]→
   Qaj prog Qanc (Q4 Qxf fun x H'=>∃x',FrzV H' (un H) x x'∧K x' (H'.frz (un H))) E1 H6:=by
  intro many n H6 k6 E1 l0 l2 l6 l7 l8 l9 hmany hk1 hk2 kn;have rest2:∀(n:Int) (H6:Heap) (k6:Nat) (E1:Env),lk 0 E1=.c (.ptr R.l 0)→lk 2 E1=.c (.int .i64 regs)→lk 6 E1=.c (.ptr x6 0)→lk 7 E1=.c (.int .i64 op)→lk 8 E1=.c (.ptr x8 0)→lk 9 E1=.c (.int .i64 many)→k<k6→k6≤k+4→Kn H H6 [(R.l,R.o k6)] [(x6,.st [.int .i64 0,.int .i64 0,.sl true 1 [],.int .i64 0]),(x8,.st [.int .i64 op,.int .i64 to,.sl true 1 [],.int .i64 n])]→
    Qaj prog Qanb (Q4 Qxf fun x H'=>∃x',FrzV H' (un H) x x'∧K x' (H'.frz (un H))) E1 H6:=by
   intro n H6 k6 E1 l0 l2 l6 l7 l8 l9 hk1 hk2 kn;refine Q5 ?_;refine Qa ?_;simp only[go_sem];simp only[l7,true_and];refine Q2u ?_;simp only[go_sem,Qacq,l0,l2,l6,l7,l8,l9];refine Qh (Qd rfl ?_ ?_)
   ·intro hc;have hx8:=kn.l 1 rfl;refine Qr ?_;simp only[go_sem,hx8];intro H7 h7;have kn:=kn.stL 1 rfl h7;exact args many (-1) n H7 k6 hmany hk1 hk2 kn
   ·intro hc;refine Qf ?_;simp only[go_sem];exact args many to n H6 k6 hmany hk1 hk2 kn
  refine Q5 ?_;refine Qa ?_;simp only[go_sem,l0,l2,l6,l7,l8,l9];refine Qh (Qd rfl ?_ ?_)
  ·intro hc;refine Qr ?_;simp only[go_sem];refine Qkg (ns:=[0,1,2,3,15,16,255]) (kn.e 0 rfl) (by omega) (by simp) fun n2 H7 hn2 hu=>?_;have kn:=kn.callE 0 rfl hu (R.o_ne _);have hx8:=kn.l 1 rfl;simp only[go_sem,Qacp,hx8];intro H8 h8;have kn:=kn.stL 1 rfl h8;exact rest2 n2 H8 (k6+1) _ (by simp[lk]) (by simp[lk]) (by simp[lk]) (by simp[lk]) (by simp[lk]) (by simp[lk]) (by omega) (by omega) kn
  ·intro hc;refine Qf ?_;simp only[go_sem];exact rest2 n H6 k6 _ (by simp[lk]) (by simp[lk]) (by simp[lk]) (by simp[lk]) (by simp[lk]) (by simp[lk]) (by omega) (by omega) kn
 refine Q5 ?_;refine Qa ?_;simp only[go_sem];refine Qh (Qd rfl ?_ ?_)
 ·intro hop14;have hc5:=hc.keep kn;have hok5:=eq_true hc5.s.ok;refine Q5 ?_;refine Qa ?_;simp only[go_sem,how,hlen,hok5];intro hl;refine Qh (Qd rfl ?_ ?_)
  ·intro h0;refine Qa ?_;simp only[go_sem];refine Qbc (kn.e 0 rfl) (by omega) fun v H6 hv hu=>?_;have kn:=kn.callE 0 rfl hu (R.o_ne _);have hx6:=kn.l 0 rfl;simp only[go_sem,Qang,hx6];intro H7 h7;have kn:=kn.stL 0 rfl h7;have hx6:=kn.l 0 rfl;refine Qj ?_;simp only[go_sem,Q4,Qaa,Qxf,reduceIte,Ja,forall_eq,RS.op,hx6];exact⟨.ag (InsD.mk 13 (-1) [v] 0).cells,FrzL.ag (.cons (Qg rfl) (.cons (Qg rfl) (.cons (FrzR.same (Q6 [v])).sl (.cons (Qg rfl) .nil)))),hK ⟨13,-1,[v],0⟩ _ (k+3) (by omega) (by omega) kn.fin (by simp)⟩
  ·intro h0;have hpos:0<rows.length:=by
    have:¬rows.length=0:=(by simpa using h0);omega
   refine Qf ?_;simp only[go_sem];refine Qa ?_;simp only[go_sem,how,hlen,hok5];intro _;refine Qbc (kn.e 0 rfl) (by omega) fun v H6 hv hu=>?_;have kn:=kn.callE 0 rfl hu (R.o_ne _);rw[if_neg (by omega)]at hv;obtain⟨i,rfl⟩:=Jn hv.1;have hi:i<rows.length:=by omega
   obtain⟨p,c1,c2,hrow,hp0,hp3⟩:=hc.r i hi;have hx8:=kn.l 1 rfl;simp only[go_sem,Qanh,hx8];intro H7 h7;have kn:=kn.stL 1 rfl h7;have hx8:=kn.l 1 rfl;have hc7:=hc.keep kn;have hok7:=eq_true hc7.s.ok;have hrw7:=hc7.s.rows;refine Qr ?_;simp only[go_sem,how,hlen,hok7,hrw7,hesz,hx8,hi,hrow];exact rest p i H7 (k+3) _ (by simp[lk]) (by simp[lk]) (by simp[lk]) (by simp[lk]) (by simp[lk]) (by simp[lk]) (by omega) (by omega) (by omega) kn
 ·intro hop14;refine Qf ?_;simp only[go_sem];exact rest many 0 H5 (k+2) _ (by simp[lk]) (by simp[lk]) (by simp[lk]) (by simp[lk]) (by simp[lk]) (by simp[lk]) (by omega) (by omega) (by omega) kn
theorem Qbsp {α:Type}{a M b c:List α}:(a++(M++b)++c).Perm (((M++c)++b)++a):=by
 refine Ji.trans ?_;refine (List.Perm.append_left _ (Ji (l₁:=a))).trans ?_;rw[←Jj];refine .append_right _ ?_;rw[←Jj];exact .append_right _ Ji
def EnvA (R:Rdr)(cc:C)(x4 x5 x8 n b:Nat)(e:Env):Prop:=
 lk 0 e=.c (.ptr R.l 0)∧lk 3 e=.c (.pp [cc])∧lk 4 e=.c (.ptr x4 0)∧lk 5 e=.c (.ptr x5 0)∧lk 6 e=.c (.int .i64 n)∧lk 7 e=.c (.int .i64 b)∧lk 8 e=.c (.ptr x8 0)
set_option maxHeartbeats 4000000 in
theorem Qboc {R:Rdr}{k:Nat}{cc:C}{rows:List (List C)}(hH:H R.l=R.o k)(hk:k+1000≤2^40)(hc:CRd H R cc rows)
  (hK:∀(o:UCode) (H':Heap) (k':Nat),k<k'→k'≤k+1000→Kn H H' [(R.l,R.o k')] o.lg→o.ok→o.sm 0→K (.ag o.row) H') :
  Qo prog Qahq [.c (.ptr R.l 0),.ag [cc]] H K:=by
 refine Qd4 ?_;refine Qb Qap Qbow ?_;have how:=hc.ow;refine Qa ?_;simp only[go_sem,how];intro x4 hx4 H1 h1;have kn:=(Kn.start1 hH (R.o_ne k)).al hx4 h1;refine Qa ?_;simp only[go_sem];refine Qkg (ns:=[1,0,2,3]) (kn.e 0 rfl) (by omega) (by simp) fun p H2 hp hu=>?_;have kn:=kn.callE 0 rfl hu (R.o_ne _);have hp:0≤p∧p≤3:=by simp at hp;omega
 simp only[go_sem,Qamo];intro x5 hx5 H3 h3;have kn:=kn.al hx5 h3;have hx53:=kn.l 1 rfl;simp only[go_sem,Qamn,hx53];intro H4 h4;have kn:=kn.stL 1 rfl h4;have hx54:=kn.l 1 rfl;refine Qao ?_;simp only[go_sem,hx54];refine⟨Qp (by omega) (by omega),?_⟩;refine Qbc (kn.e 0 rfl) (by omega) fun q H5 hq hu=>?_;have kn:=kn.callE 0 rfl hu (R.o_ne _);have hx55:=kn.l 1 rfl;rw[if_neg (by omega)]at hq;simp only[go_sem,Qamp,hx55];refine⟨Qp (by omega) (by omega),?_⟩;intro H6 h6;have kn:=kn.stL 1 rfl h6;obtain⟨rg,hrg⟩:∃rg,p+2+q=rg:=⟨_,rfl⟩;rw[hrg]at kn;refine Qa ?_;simp only[go_sem];refine Qkg (ns:=[3,5,2,1,7,4]) (kn.e 0 rfl) (by omega) (by simp) fun n0 H7 hn0 hu=>?_;have kn:=kn.callE 0 rfl hu (R.o_ne _);simp only[go_sem,Qamq];obtain⟨n,rfl,hn1,hn7⟩:∃n:Nat,n0=n∧1≤n∧n≤7:=⟨n0.toNat,by simp at hn0;omega⟩;refine Q5 ?_;refine Qa ?_;simp only[go_sem];refine Qh (Qc (Qu (fun m e1 H1=>∃(b k1:Nat) (bs:List UBlk) (bc:C) (bl:List (Nat×Obj)),m=n-b∧b≤n∧bs.length=b∧k<k1∧k1≤k+3+50 * b∧(∀o∈bs,o.ok∧o.sm 0)∧Gr bl 5 (bs.map UBlk.row) bc∧
  Kn H H1 [(R.l,R.o k1)] (([(x4,.st [.int .i64 0,.int .i64 0,.sl true 5 []]),(x5,.st [.int .i64 p,.int .i64 rg,bc])]++bs.flatMap UBlk.lg)++bl)∧
  e1=[(0,.c (.ptr R.l 0)),(3,.c (.pp [cc])),(4,.c (.ptr x4 0)),(5,.c (.ptr x5 0)),(6,.c (.int .i64 n)),(7,.c (.int .i64 b))]) n ?_ ?_))
 ·exact⟨0,k+1+1+1,[],_,[],by omega,by omega,rfl,by omega,by omega,by simp,.nil 5,by simpa using kn,rfl⟩
 ·rintro m e1 H8 ⟨b,k1,bs,bc,bl,hm,hb,hbs,hk1,hk2,hok,hgr,kn,rfl⟩;have hbow:=hgr.isOw;refine Q5 ?_;refine Qa ?_;simp only[go_sem];refine Qh (Qd rfl ?_ ?_)
  ·intro hc1;have hlt:b<n:=by simpa using hc1
   refine Qf ?_;simp only[go_sem];refine Qh (Qc ?_);refine Qa ?_;simp only[go_sem];intro x8 hx8 H9 h9;have kn:=kn.al hx8 h9;have kn:=kn.perm Ji;have hx89:=kn.l 0 rfl;simp only[go_sem,Qamr,hx89];intro H10 h10;have kn:=kn.stL 0 rfl h10;refine Q5 ?_;refine Qa ?_;simp only[go_sem];refine Qkg (ns:=[1,2,0,3,4]) (kn.e 0 rfl) (by omega) (by simp) fun i0 H11 hi0 hu=>?_;have kn:=kn.callE 0 rfl hu (R.o_ne _);simp only[go_sem,Qams];obtain⟨i,rfl,hi4⟩:∃i:Nat,i0=i∧i≤4:=⟨i0.toNat,by simp at hi0;omega⟩;refine Qh (Qc (Qu (fun m e1 H1=>∃(t k2:Nat) (ds:List InsD) (ic:C) (il:List (Nat×Obj)),m=t∧t+ds.length=i∧k1<k2∧k2≤k1+1+9 * ds.length∧(∀d∈ds,d.args.length≤3)∧Gr il 4 (Qac ds) ic∧
    Kn H H1 [(R.l,R.o k2)] (([(x8,.st [.sl true 2 [],ic,.int .i64 0,.int .i64 0,.sl true 1 []])]++(([(x4,.st [.int .i64 0,.int .i64 0,.sl true 5 []]),(x5,.st [.int .i64 p,.int .i64 rg,bc])]++bs.flatMap UBlk.lg)++bl))++il)∧
    e1=[(0,.c (.ptr R.l 0)),(3,.c (.pp [cc])),(4,.c (.ptr x4 0)),(5,.c (.ptr x5 0)),(6,.c (.int .i64 n)),(7,.c (.int .i64 b)),(8,.c (.ptr x8 0)),(9,.c (.int .i64 t))]) i ?_ ?_))
   ·refine⟨i,k1+1,[],_,[],rfl,rfl,by omega,by simp,by simp,.nil 4,by simpa using kn,rfl⟩
   ·rintro m2 e1 H12 ⟨t,k2,ds,ic,il,hm2,ht,hk3,hk4,hds,hgi,kn,rfl⟩;have hicow:=hgi.isOw;have hx8:=kn.l 0 rfl;have hx5:=kn.l 2 rfl;refine Q5 ?_;refine Qa ?_;simp only[go_sem];refine Qh (Qd rfl ?_ ?_)
    ·intro hc2;have ht0:0<t:=(by simpa using hc2);refine Qf ?_;simp only[go_sem];refine Qh (Qc ?_);refine Qbw ?_;simp only[go_sem,hx8,hx5,hicow,hbow,how];refine Qbof (kn.e 0 rfl) (by omega) (hc.keep kn) fun d H13 k3 hk5 hk6 hu hd=>?_;have kn:=kn.callE 0 rfl hu (R.o_ne _);have hx8:=kn.l 0 rfl;simp only[go_sem,Qamu,hx8,hicow,InsD.take4,InsD.allOw,InsD.len4];refine kn.grow (new:=[d.cells]) hgi (.mk' _ _ _ _) (by intro r hr;simp only[Ja]at hr;subst hr;rfl) (by simp only[Q3,LIM,Jl,Jo];omega) fun y H14 kn=>?_;have hx8:=kn.l 0 rfl;simp only[go_sem,Qamt,hx8];intro H15 h15;have kn:=kn.stL 0 rfl h15;refine Qr ?_;simp only[go_sem,X.next];refine⟨Qp (by omega) (by omega),t-1,by omega,t-1,k3,ds++[d],_,_,rfl,by simp;omega,by omega,by simp;omega,fun d' hd'=>?_,?_,kn,?_⟩
     ·rcases Jm.1 hd' with h|h
      ·exact hds _ h
      ·simp only[Ja]at h;subst h;exact hd
     ·rw[Qbe3];exact .mk _ _ _ (by simp[Q3])
     ·have:(t:Int)-1=((t-1:Nat):Int):=(by omega);rw[this]
    ·intro hc2;have ht0:t=0:=(by have:¬0<t:=(by simpa using hc2);omega);refine Qv ?_;simp only[go_sem,X.next];refine Qa ?_;simp only[go_sem,hx5,hbow];refine Qbc (kn.e 0 rfl) (by omega) fun on H13 hon hu=>?_;have kn:=kn.callE 0 rfl hu (R.o_ne _);have hx8:=kn.l 0 rfl;simp only[go_sem,Qach,hx8,hicow];intro H14 h14;have kn:=kn.stL 0 rfl h14;refine Qa ?_;simp only[go_sem];refine Qkg (ns:=[2,1,2,1,3]) (kn.e 0 rfl) (by omega) (by simp) fun jump H15 hjump hu=>?_;have kn:=kn.callE 0 rfl hu (R.o_ne _);have hx8:=kn.l 0 rfl;simp only[go_sem,Qaci,hx8,hicow];intro H16 h16;have kn:=kn.stL 0 rfl h16;refine Qd3 (fun e2 H2=>∃(k2:Nat) (jump:Int),k1<k2∧k2≤k1+40∧Kn H H2 [(R.l,R.o k2)] (([(x8,.st [.sl true 2 [],ic,.int .i64 jump,.int .i64 on,.sl true 1 []])]++(([(x4,.st [.int .i64 0,.int .i64 0,.sl true 5 []]),(x5,.st [.int .i64 p,.int .i64 rg,bc])]++bs.flatMap UBlk.lg)++bl))++il)∧EnvA R cc x4 x5 x8 n b e2) ?_ ?_
     ·intro Q hn _ _;have rest:∀(v:Bool) (H2:Heap) (k2:Nat),k1<k2→k2≤k1+40→Kn H H2 [(R.l,R.o k2)] (([(x8,.st [.sl true 2 [],ic,.int .i64 jump,.int .i64 on,.sl true 1 []])]++(([(x4,.st [.int .i64 0,.int .i64 0,.sl true 5 []]),(x5,.st [.int .i64 p,.int .i64 rg,bc])]++bs.flatMap UBlk.lg)++bl))++il)→
        Qaj prog Qamm Q [(0,.c (.ptr R.l 0)),(3,.c (.pp [cc])),(4,.c (.ptr x4 0)),(5,.c (.ptr x5 0)),(6,.c (.int .i64 n)),(7,.c (.int .i64 b)),(8,.c (.ptr x8 0)),(68,.c (.bool v))] H2:=by
       intro v H2 k2 hk1 hk2 kn;refine Qd rfl ?_ ?_
       ·intro hc;have hx8:=kn.l 0 rfl;refine Qr ?_;simp only[go_sem,hx8,hicow];intro H3 h3;have kn:=kn.stL 0 rfl h3;exact hn _ _ ⟨k2,3,hk1,hk2,kn,rfl,rfl,rfl,rfl,rfl,rfl,rfl⟩
       ·intro hc;refine Qf ?_;exact hn _ _ ⟨k2,jump,hk1,hk2,kn,rfl,rfl,rfl,rfl,rfl,rfl,rfl⟩
      refine Qa ?_;simp only[go_sem];refine⟨fun _=>Qp (by omega) (by omega),?_⟩;refine⟨fun hb1=>?_,fun hb1=>?_⟩
      ·refine Qbc (kn.e 0 rfl) (by omega) fun v H17 hv hu=>?_;have kn:=kn.callE 0 rfl hu (R.o_ne _);simp only[go_sem,Qi1,hb1];exact rest _ _ _ (by omega) (by omega) kn
      ·by_cases h1:(n:Int)=1
       ·have hd:=decide_eq_true h1;have hd2:decide ((b:Int)=n-1)=true:=decide_eq_true (by omega);simp only[go_sem,Qi1,hd,hd2,Bool.not_true,cond_true,cond_false];exact rest true _ _ (by omega) (by omega) kn
       ·have h2:¬(b:Int)=n-1:=(by simpa[h1]using hb1);simp only[go_sem,Qi1,hb1,h1,h2,decide_false,Bool.not_false,cond_true,cond_false];exact rest false _ _ (by omega) (by omega) kn
     rintro e2 H17 ⟨k3,jump,hk5,hk6,kn,l0,l3,l4,l5,l6,l7,l8⟩;refine Qd3 (fun e2 H2=>∃(k2:Nat) (jump on:Int) (nfl:Bool) (next:List Int),next.length≤2∧k1<k2∧k2≤k1+50∧Kn H H2 [(R.l,R.o k2)] (([(x8,.st [.sl true 2 [],ic,.int .i64 jump,.int .i64 on,.sl nfl 1 (Qe next)])]++(([(x4,.st [.int .i64 0,.int .i64 0,.sl true 5 []]),(x5,.st [.int .i64 p,.int .i64 rg,bc])]++bs.flatMap UBlk.lg)++bl))++il)∧EnvA R cc x4 x5 x8 n b e2) ?_ ?_
     ·intro Q hn _ _;have hx8:=kn.l 0 rfl;refine Qa ?_;simp only[go_sem,hx8,l0,l3,l4,l5,l6,l7,l8,hicow];refine Qc ?_;refine Qa ?_;simp only[go_sem];refine Qd rfl ?_ ?_
      ·intro hc;refine Qa ?_;simp only[go_sem,hx8,hicow];intro H18 h18;have kn:=kn.stL 0 rfl h18;refine Qr ?_;simp only[go_sem];refine Qbj0 (kn.e 0 rfl) (by omega) (by omega) (by omega) fun v1 H19 k4 hk7 hk8 hu=>?_;have kn:=kn.callE 0 rfl hu (R.o_ne _);have hx8:=kn.l 0 rfl;simp only[go_sem,Qacj,hx8,hicow];intro H20 h20;have kn:=kn.stL 0 rfl h20;exact hn _ _ ⟨k4,jump,0,true,[v1],by simp,by omega,by omega,kn,rfl,rfl,rfl,rfl,rfl,rfl,rfl⟩
      ·intro hc;refine Qa ?_;simp only[go_sem];refine Qd rfl ?_ ?_
       ·intro hc;refine Qr ?_;simp only[go_sem];refine Qbj0 (kn.e 0 rfl) (by omega) (by omega) (by omega) fun v1 H19 k4 hk7 hk8 hu=>?_;have kn:=kn.callE 0 rfl hu (R.o_ne _);simp only[go_sem,Qacl];refine Qbj0 (kn.e 0 rfl) (by omega) (by omega) (by omega) fun v2 H20 k5 hk9 hk10 hu=>?_;have kn:=kn.callE 0 rfl hu (R.o_ne _);have hx8:=kn.l 0 rfl;simp only[go_sem,Qack,hx8,hicow];intro H21 h21;have kn:=kn.stL 0 rfl h21;exact hn _ _ ⟨k5,jump,on,true,[v1,v2],by simp,by omega,by omega,kn,rfl,rfl,rfl,rfl,rfl,rfl,rfl⟩
       ·intro hc;refine Qf ?_;exact hn _ _ ⟨k3,jump,on,true,[],by simp,by omega,by omega,kn,rfl,rfl,rfl,rfl,rfl,rfl,rfl⟩
     rintro e3 H18 ⟨k4,jump,on,nfl,next,hnx,hk7,hk8,kn,l0,l3,l4,l5,l6,l7,l8⟩;have hx8:=kn.l 0 rfl;have hx5:=kn.l 2 rfl;refine Qr ?_;simp only[go_sem,hx8,hx5,l0,l3,l4,l5,l6,l7,l8,hicow,hbow];obtain⟨o,ho⟩:∃o:UBlk,o=⟨[],.sl true 2 [],[],ds,ic,il,jump,on,nfl,next⟩:=⟨_,rfl⟩;have hor:[C.sl true 2 [],ic,C.int IntKind.i64 jump,C.int IntKind.i64 on,C.sl nfl 1 (Qe next)]=o.row:=(by rw[ho];rfl);have hol:o.lg=il:=(by rw[ho];simp[UBlk.lg]);have hook:o.ok:=(by rw[ho];exact⟨.nil 2,hgi,by simp⟩);have hosm:o.sm 0:=(by rw[ho];exact⟨hnx,by show ds.length≤_;omega,by simp,fun d hd=>by have:=hds d hd;omega,by simp⟩);rw[hor];have kn:=(kn.perm Qbsp).drop;refine kn.grow (new:=[o.row]) hgr (.mk' _ _ _ _) (by intro r hr;simp only[Ja]at hr;subst hr;exact o.noOw hook) (by simp only[Je,Jl,Jo,LIM];omega) fun z H19 kn=>?_;have kn:Kn H H19 [(R.l,R.o k4)] (([(x4,.st [.int .i64 0,.int .i64 0,.sl true 5 []]),(x5,.st [.int .i64 p,.int .i64 rg,bc])]++(bs++[o]).flatMap UBlk.lg)++[(z,.vec 5 ((bs++[o]).map UBlk.row))]):=by
      simpa[Js,Jj,hol]using kn
     have hx5:=kn.l 1 rfl;simp only[go_sem,Qacm,hx5,l0,l3,l4,l5,l6,l7,hbow];intro H20 h20;have kn:=kn.stL 1 rfl h20;refine Qr ?_;simp only[go_sem,X.next];refine⟨Qp (by omega) (by omega),n-(b+1),by omega,b+1,k4,bs++[o],_,_,rfl,by omega,by simp[hbs],by omega,by omega,fun o' ho'=>?_,.mk _ _ _ (by simp),kn,rfl⟩;rcases Jm.1 ho' with h|h
     ·exact hok o' h
     ·simp only[Ja]at h;subst h;exact⟨hook,hosm⟩
  ·intro hc1;have hbn:b=n:=by have:¬b<n:=(by simpa using hc1);omega
   have hx4:=kn.l 0 rfl;have hx5:=kn.l 1 rfl;refine Qv ?_;simp only[go_sem,X.next];refine Qa ?_;simp only[go_sem,hx5,hx4,hbow];intro H9 h9;have kn:=kn.stL 0 rfl h9;have hx4:=kn.l 0 rfl;refine Qj ?_;simp only[go_sem,Q4,Qaa,Qbdt,reduceIte,Ja,forall_eq,RS.op,hx4,hbow];obtain⟨o,ho⟩:∃o:UCode,o=⟨p,rg,bs,bc,bl⟩:=⟨_,rfl⟩;have hook:o.ok:=by rw[ho];exact⟨hgr,fun b hb=>(hok b hb).1,hp.1,hp.2⟩
   have hosm:o.sm 0:=by rw[ho];exact⟨by show 0<bs.length;omega,by show bs.length≤_;omega,fun b hb=>(hok b hb).2⟩
   have kn:Kn H H9 [(R.l,R.o k1)] ([(x4,.st [.int .i64 p,.int .i64 rg,bc]),(x5,.st [.int .i64 p,.int .i64 rg,bc])]++o.lg):=by
    rw[ho];simpa[UCode.lg,Jj]using kn
   refine⟨unx H o.lg,.ag o.row,H9.frz (unx H o.lg),?_,Qdb _ _,hK o _ k1 hk1 (by omega) kn.finK hook hosm⟩;rw[ho];exact FrzL.ag (.cons (Qg rfl) (.cons (Qg rfl) (.cons (.same _ hbow) .nil)))
end Go.AE.Y
namespace Go.AE
open Go.AE.Y
open Go.Proofs.Tryz
variable {H:Heap}{K:V→Heap→Prop}
theorem Gr.slc {H0 H:Heap}{E B Lg:List (Nat×Obj)}{sz:Nat}{rows:List (List C)}{c:C}(h:Gr Lg sz rows c)(kn:Kn H0 H E (B++Lg)):Slc H sz rows c:=by
 obtain⟨h1,h2⟩:=h.get kn;exact⟨h1,h.elemSz,h2,h.lenC⟩
theorem Gr.ne {H0 H:Heap}{E B Lg:List (Nat×Obj)}{sz:Nat}{rows:List (List C)}{c:C}{r:Nat}{o:Obj}(h:Gr Lg sz rows c)(kn:Kn H0 H E (B++Lg))(hr:(r,o)∈E):∀l a d n,c=.vsl l a d n→l≠r:=by
 intro l a d n hc hh;rcases h with ⟨h1,_⟩|⟨y,h1,h2⟩
 ·rw[h1]at hc;simp at hc
 ·rw[h1]at hc;have hy:y=l:=by injection hc
  have:=kn.loc (y,.vec sz rows) (by rw[h2];simp);exact kn.ext (r,o) hr (by rw[←hh,←hy];exact this)
theorem Gr.slcM {H0 H:Heap}{E L Lg:List (Nat×Obj)}{sz:Nat}{rows:List (List C)}{c:C}(h:Gr Lg sz rows c)(kn:Kn H0 H E L)(hm:∀p∈Lg,p∈L):Slc H sz rows c:=by
 rcases h with ⟨h1,h2,h3⟩|⟨y,h1,h2⟩
 ·rw[h1,h2];exact .mk' _ _ _ _
 ·have hy:H y=.vec sz rows:=(kn.get (y,.vec sz rows) (Jh _ (hm _ (by rw[h2];simp)))).1;rw[h1];exact⟨by simp[Go.AE.okSl,hy],rfl,by simp[Go.AE.rowsOf,hy],rfl⟩
end Go.AE
namespace Go.AE.Y
open Go.Proofs.Tryz
variable {H:Heap}{K:V→Heap→Prop}
theorem Qbtk {H0 H:Heap}{B cl:List (Nat×Obj)}{R:Rdr}{o:Obj}{us:List UCode}{cc:C}(hg:Gr cl 3 (us.map UCode.row) cc)(kn:Kn H0 H [(R.l,o)] (B++cl))(hu:∀u∈us,u.ok):CRd H R cc (us.map UCode.row):=by
 refine⟨hg.slc kn,hg.isOw,hg.ne kn (o:=o) (by simp),fun i hi=>?_⟩;rw[Je]at hi;refine⟨us[i].params,.int .i64 us[i].regs,us[i].bc,by simp[Jb,hi,UCode.row],(hu _ (Jc hi)).p0,(hu _ (Jc hi)).p1⟩
set_option maxHeartbeats 4000000 in
theorem Qbdf {R:Rdr}{k:Nat}(hH:H R.l=R.o k)(hk:k+10000≤2^40)
  (hK:∀(cs:List CodeD) (H':Heap) (k':Nat),k<k'→k'≤k+10000→Upd H H' [(R.l,R.o k')]→0<cs.length→cs.length≤3→(∀c∈cs,c.sm)→K (.ag [.sl false 3 (Qk cs)]) H') :
  Qo prog Q2o [.c (.ptr R.l 0)] H K:=by
 refine Qy ?_;refine Qb Qap Qbo0 ?_;refine Qa ?_;simp only[go_sem];intro x2 hx2 H1 h1;have kn:=(Kn.start1 hH (R.o_ne k)).al hx2 h1;refine Qa ?_;simp only[go_sem];intro x3 hx3 H2 h2;have kn:=kn.al hx3 h2;have hx32:=kn.l 1 rfl;simp only[go_sem,Qanj,hx32];intro H3 h3;have kn:=kn.stL 1 rfl h3;refine Q5 ?_;refine Qa ?_;simp only[go_sem];refine Qkg (ns:=[1,2,1,3]) (kn.e 0 rfl) (by omega) (by simp) fun i0 H4 hi0 hu=>?_;have kn:=kn.callE 0 rfl hu (R.o_ne _);simp only[go_sem,Qank];obtain⟨i,rfl,hi1,hi3⟩:∃i:Nat,i0=i∧1≤i∧i≤3:=⟨i0.toNat,by simp at hi0;omega⟩;refine Qh (Qc (Qu (fun m e1 H1=>∃(t k1:Nat) (us:List UCode) (cc:C) (cl:List (Nat×Obj)),m=t∧t+us.length=i∧k<k1∧k1≤k+1+1000 * us.length∧(∀u∈us,u.ok∧u.sm 0)∧Gr cl 3 (us.map UCode.row) cc∧
  Kn H H1 [(R.l,R.o k1)] (([(x2,.st [.sl true 3 []]),(x3,.st [cc])]++us.flatMap UCode.lg)++cl)∧
  e1=[(0,.c (.ptr R.l 0)),(2,.c (.ptr x2 0)),(3,.c (.ptr x3 0)),(4,.c (.int .i64 t))]) i ?_ ?_))
 ·exact⟨i,k+1,[],_,[],rfl,rfl,by omega,by simp,by simp,.nil 3,by simpa using kn,rfl⟩
 ·rintro m e1 H5 ⟨t,k1,us,cc,cl,hm,ht,hk1,hk2,hok,hgr,kn,rfl⟩;have hcow:=hgr.isOw;have hx3:=kn.l 1 rfl;refine Q5 ?_;refine Qa ?_;simp only[go_sem];refine Qh (Qd rfl ?_ ?_)
  ·intro hc;have ht0:0<t:=by simpa using hc
   refine Qf ?_;simp only[go_sem];refine Qh (Qc (Qbw ?_));simp only[go_sem,hx3,hcow];refine Qboc (kn.e 0 rfl) (by omega) (Qbtk hgr kn fun u hu=>(hok u hu).1) fun o H6 k2 hk3 hk4 kn2 hoo hos=>?_;have kn:=kn.compE 0 rfl kn2;have hx3:=kn.l 1 rfl;simp only[go_sem,Qanm,hx3,hcow,o.len3];have kn:=kn.perm Qa00;refine kn.grow (new:=[o.row]) hgr (.mk' _ _ _ _) (by intro r hr;simp only[Ja]at hr;subst hr;exact o.noOw hoo) (by simp only[Je,Jl,Jo,LIM];omega) fun z H7 kn=>?_;have kn:Kn H H7 [(R.l,R.o k2)] (([(x2,.st [.sl true 3 []]),(x3,.st [cc])]++(us++[o]).flatMap UCode.lg)++[(z,.vec 3 ((us++[o]).map UCode.row))]):=by
    simpa[Js,Jj]using kn
   have hx3:=kn.l 1 rfl;simp only[go_sem,Qanl,hx3];intro H8 h8;have kn:=kn.stL 1 rfl h8;refine Qr ?_;simp only[go_sem,X.next];refine⟨Qp (by omega) (by omega),t-1,by omega,t-1,k2,us++[o],_,_,rfl,by simp;omega,by omega,by simp;omega,fun o' ho'=>?_,.mk _ _ _ (by simp),kn,?_⟩
   ·rcases Jm.1 ho' with h|h
    ·exact hok o' h
    ·simp only[Ja]at h;subst h;exact⟨hoo,hos⟩
   ·have:(t:Int)-1=((t-1:Nat):Int):=(by omega);rw[this]
  ·intro hc;have ht0:t=0:=by have:¬0<t:=(by simpa using hc);omega
   refine Qv ?_;simp only[go_sem,X.next];refine Q5 ?_;refine Qa ?_;simp only[go_sem];refine Qkg (ns:=[0,0,1,3]) (kn.e 0 rfl) (by omega) (by simp) fun j0 H6 hj0 hu=>?_;have kn:=kn.callE 0 rfl hu (R.o_ne _);simp only[go_sem,Qann];obtain⟨j,rfl,hj3⟩:∃j:Nat,j0=j∧j≤3:=⟨j0.toNat,by simp at hj0;omega⟩;have hcl:0<us.length:=by omega
   have hcl3:us.length≤3:=by omega
   refine Qh (Qc (Qu (fun m e1 H1=>∃(t k2 N:Nat) (us:List UCode),m=t∧t+N=j∧us.length=i∧k<k2∧k2≤k1+1+200 * N∧(∀u∈us,u.ok∧u.sm N)∧Gr cl 3 (us.map UCode.row) cc∧
    Kn H H1 [(R.l,R.o k2)] (([(x2,.st [.sl true 3 []]),(x3,.st [cc])]++us.flatMap UCode.lg)++cl)∧
    e1=[(0,.c (.ptr R.l 0)),(2,.c (.ptr x2 0)),(3,.c (.ptr x3 0)),(5,.c (.int .i64 t))]) j ?_ ?_))
   ·exact⟨j,k1+1,0,us,rfl,rfl,by omega,by omega,by omega,hok,hgr,kn,rfl⟩
   ·rintro m e1 H7 ⟨t,k2,N,us,hm,ht,hui,hk3,hk4,hok,hgr,kn,rfl⟩;have hx3:=kn.l 1 rfl;refine Q5 ?_;refine Qa ?_;simp only[go_sem];refine Qh (Qd rfl ?_ ?_)
    ·intro hc;have ht0:0<t:=(by simpa using hc);refine Qf ?_;simp only[go_sem];have hmem:∀p∈cl,p∈(([(x2,.st [.sl true 3 []]),(x3,.st [cc])]++us.flatMap UCode.lg)++cl):=fun p hp=>(by simp[hp]);refine Qd3 (fun e2 H2=>∃(k3:Nat) (us:List UCode),us.length=i∧k<k3∧k3≤k2+200∧(∀u∈us,u.ok∧u.sm (N+1))∧Gr cl 3 (us.map UCode.row) cc∧
      Kn H H2 [(R.l,R.o k3)] (([(x2,.st [.sl true 3 []]),(x3,.st [cc])]++us.flatMap UCode.lg)++cl)∧lk 0 e2=.c (.ptr R.l 0)∧lk 2 e2=.c (.ptr x2 0)∧lk 3 e2=.c (.ptr x3 0)∧lk 5 e2=.c (.int .i64 t)) ?_ ?_
     ·intro Q hn _ _;have hs:=hgr.slc kn;have hsok:=eq_true hs.ok;have hlen:=hs.len;have hsz:=hs.sz;rw[Je]at hlen;refine Qc ?_;refine Qao ?_;simp only[go_sem,hx3,hcow,hsok,hlen];refine Qbc (kn.e 0 rfl) (by omega) fun v H8 hv hu=>?_;have kn:=kn.callE 0 rfl hu (R.o_ne _);rw[if_neg (by omega)]at hv;obtain⟨ci,rfl⟩:=Jn hv.1;have hci:ci<us.length:=(by omega);have hx3:=kn.l 1 rfl;have hs:=hgr.slc kn;have hsok:=eq_true hs.ok;simp only[go_sem,Qano,hx3,hcow,hsok,hlen,hsz,hci];obtain⟨u,hu⟩:∃u,us[ci]=u:=⟨_,rfl⟩;obtain⟨huok,husm⟩:=hok _ (Jc hci);rw[hu]at huok husm;have hrow:(us.map UCode.row).getD ci []=[.int .i64 u.params,.int .i64 u.regs,u.bc]:=(by rw[←hu];simp[Jb,hci,UCode.row]);have hub0:=husm.b0;have hub1:=husm.b;obtain⟨yb,hbc,hbl⟩:=UCode.bvec huok hub0;have hblow:=huok.b.isOw;have hblen:=huok.b.lenC;rw[Je]at hblen;have hrws:=hs.rows;have hmemb:∀p∈u.bl,p∈(([(x2,.st [.sl true 3 []]),(x3,.st [cc])]++us.flatMap UCode.lg)++cl):=fun p hp=>by
       have:p∈us.flatMap UCode.lg:=Jad.2 ⟨u,by rw[←hu];exact Jc hci,Jh _ hp⟩;simp[this]
      have hbok:=eq_true (huok.b.slcM kn hmemb).ok;refine Qa ?_;simp only[go_sem,hx3,hcow,hsok,hlen,hsz,hci,hrws,hrow,hblow,hblen,hbok];intro _;refine Qbc (kn.e 0 rfl) (by omega) fun v H9 hv hu9=>?_;have kn:=kn.callE 0 rfl hu9 (R.o_ne _);rw[if_neg (by omega)]at hv;obtain⟨bi,rfl⟩:=Jn hv.1;have hbi:bi<u.blocks.length:=(by omega);have hsok:=eq_true (hgr.slcM kn hmem).ok;have hrws:=(hgr.slcM kn hmem).rows;simp only[go_sem,Qanp];refine Qa ?_;simp only[go_sem,hcow,hsok,hlen,hsz,hci,hrws,hrow,hblow];refine Qbc (kn.e 0 rfl) (by omega) fun to H10 _ hu10=>?_;have kn:=kn.callE 0 rfl hu10 (R.o_ne _);simp only[go_sem,Qacu];intro x8 hx8 H11 h11;have kn:=kn.al hx8 h11;have kn:=kn.perm Ji;have hx8:=kn.l 0 rfl;simp only[go_sem,Qact,hx8];intro H12 h12;have kn:Kn H H12 [(R.l,R.o (k2+1+1+1))] ([(x8,.st [.int .i64 to,.sl true 1 []])]++(([(x2,.st [.sl true 3 []]),(x3,.st [cc])]++us.flatMap UCode.lg)++cl)):=kn.stL 0 rfl h12;have hmem2:∀p∈cl,p∈([(x8,Obj.st [.int .i64 to,.sl true 1 []])]++(([(x2,.st [.sl true 3 []]),(x3,.st [cc])]++us.flatMap UCode.lg)++cl)):=fun p hp=>Jh _ (hmem p hp);have hsok:=eq_true (hgr.slcM kn hmem2).ok;have hrws:=(hgr.slcM kn hmem2).rows;have hbs:=huok.b.slcM kn (fun p hp=>Jh _ (hmemb p hp));refine Q5 ?_;refine Qa ?_;simp only[go_sem,hcow,hsok,hlen,hsz,hci,hrws,hrow,hblow];refine Qah3 (rows:=u.blocks.map UBlk.row) (nx:=fun i=>(u.blocks.map UBlk.next).getD i []) hbs hblow (fun i hi=>?_) fun H13 hu13=>?_
      ·rw[Je]at hi;refine⟨u.blocks[i].pc,u.blocks[i].ic,.int .i64 u.blocks[i].jump,.int .i64 u.blocks[i].on,u.blocks[i].nfl,?_⟩;simp[Jb,hi,UBlk.row]
      have kn:=kn.call0 hu13;obtain⟨ps,hps⟩:∃ps,Qam (fun i=>(u.blocks.map UBlk.next).getD i []) (bi:Int) (u.blocks.map UBlk.row).length=ps:=⟨_,rfl⟩;have hpsl:ps.length≤160:=by
       have:=Qhp (fun i=>(u.blocks.map UBlk.next).getD i []) (bi:Int) (u.blocks.map UBlk.row).length;rw[hps,Je]at this;omega
      rw[hps];simp only[go_sem,Qacv,Qi];intro _;refine Qh (Qc (Qu (fun m e1 H1=>∃(q:Nat) (ns:List Int) (ac:C) (al:List (Nat×Obj)),m=ps.length-q∧q≤ps.length∧ns.length=q∧Gr al 1 (Qe ns) ac∧
       Kn H H1 [(R.l,R.o (k2+1+1+1+q))] (([(x8,.st [.int .i64 to,ac])]++(([(x2,.st [.sl true 3 []]),(x3,.st [cc])]++us.flatMap UCode.lg)++cl))++al)∧
       e1=[(0,.c (.ptr R.l 0)),(2,.c (.ptr x2 0)),(3,.c (.ptr x3 0)),(5,.c (.int .i64 t)),(6,.c (cc.ep 3 ci 0)),(7,.c (.int .i64 bi)),(8,.c (.ptr x8 0)),(59,.c (.int .i64 ps.length)),(60,.c (.int .i64 q))]) ps.length ?_ ?_))
      ·exact⟨0,[],_,[],by omega,by omega,rfl,.nil 1,by simpa using kn,rfl⟩
      ·rintro m2 e1 H14 ⟨q,ns,ac,al,hm2,hq,hns,hga,kn,rfl⟩;have hacow:=hga.isOw;have hx8:=kn.l 0 rfl;have hmem3:∀p∈cl,p∈(([(x8,Obj.st [.int .i64 to,ac])]++(([(x2,.st [.sl true 3 []]),(x3,.st [cc])]++us.flatMap UCode.lg)++cl))++al):=fun p hp=>List.mem_append_left _ (Jh _ (hmem p hp));have hsok:=eq_true (hgr.slcM kn hmem3).ok;have hrws:=(hgr.slcM kn hmem3).rows;refine Qa ?_;simp only[go_sem];refine Qh (Qd rfl ?_ ?_)
       ·intro hc;have hlt:q<ps.length:=(by simpa using hc);refine Qf ?_;simp only[go_sem];refine Qh (Qc (Qbw ?_));simp only[go_sem,hx8,hacow,hcow,hsok,hlen,hsz,hci,hrws,hrow,hblow];refine Qbc (kn.e 0 rfl) (by omega) fun v H15 _ hu15=>?_;have kn:=kn.callE 0 rfl hu15 (R.o_ne _);have hx8:=kn.l 0 rfl;simp only[go_sem,Qacx,hx8,hacow];refine kn.grow (new:=Qe [v]) hga (.mk' _ _ _ _) (Q6 _) (by simp only[Qi,LIM,Jl,Jo];omega) fun y H16 kn=>?_;have hx8:=kn.l 0 rfl;simp only[go_sem,Qacw,hx8];intro H17 h17;have kn:=kn.stL 0 rfl h17;refine Qr ?_;simp only[go_sem,X.next];refine⟨Qp (by omega) (by omega),ps.length-(q+1),by omega,q+1,ns++[v],_,_,rfl,by omega,by simp[hns],?_,kn,rfl⟩;rw[←Qdn];exact .mk _ _ _ (by simp[Qdn,Qi])
       ·intro hc;have hqp:q=ps.length:=(by have:¬q<ps.length:=(by simpa using hc);omega);refine Qv ?_;simp only[go_sem,X.next];refine Qa ?_;simp only[go_sem];refine Qd rfl ?_ ?_
        ·intro hc;obtain⟨blk,hblk⟩:∃blk,u.blocks[bi]=blk:=⟨_,rfl⟩;have hbok2:=huok.bs _ (Jc hbi);have hbsm2:=husm.bs _ (Jc hbi);rw[hblk]at hbok2 hbsm2;have hbp:=hbsm2.p;have hbr:(u.blocks.map UBlk.row).getD bi []=[blk.pc,blk.ic,.int .i64 blk.jump,.int .i64 blk.on,.sl blk.nfl 1 (Qe blk.next)]:=(by rw[←hblk];simp[Jb,hbi,UBlk.row]);have hpcow:=hbok2.p.isOw;have hbl5:(u.blocks.map UBlk.row).length=u.blocks.length:=(by simp);have kn:Kn H H14 [(R.l,R.o (k2+1+1+1+q))] (([(yb,.vec 5 (u.blocks.map UBlk.row))]++([(x8,.st [.int .i64 to,ac])]++([(x2,.st [.sl true 3 []]),(x3,.st [cc])]++(blk.core++(al++(Qazr us ci bi hci++cl))))))++blk.pl):=kn.perm (Qt fun f hf h0 hc1 hp=>by
          have h1:=hp _ _ (Qbqk us ci bi hci (by rw[hu];exact hbi));subst hu;rw[hblk,hbl]at h1;simp only[hf]at h1⊢;omega)
         have hyb:=kn.l 0 rfl;have hx8:=kn.l 1 rfl;have hmem4:∀p∈cl,p∈(([(yb,Obj.vec 5 (u.blocks.map UBlk.row))]++([(x8,Obj.st [.int .i64 to,ac])]++([(x2,Obj.st [.sl true 3 []]),(x3,Obj.st [cc])]++(blk.core++(al++(Qazr us ci bi hci++cl))))))++blk.pl):=fun p hp=>(by simp[hp]);have hsok:=eq_true (hgr.slcM kn hmem4).ok;have hrws:=(hgr.slcM kn hmem4).rows;obtain⟨ph,hph⟩:∃ph:UPhi,ph=⟨to,ns,ac,al⟩:=⟨_,rfl⟩;have hphr:[C.int IntKind.i64 to,ac]=ph.row:=(by rw[hph];rfl);have hphl:ph.al=al:=(by rw[hph]);have hphg:Gr ph.al 1 (Qe ph.ns) ph.ac:=(by rw[hph];exact hga);rw[hbc]at hrow hblow hblen;have hgp:=hbok2.p;have htk:List.take u.blocks.length (u.blocks.map UBlk.row)=u.blocks.map UBlk.row:=Jd (by simp);refine Qbw ?_;simp only[go_sem,hx8,hacow,hcow,hsok,hlen,hsz,hci,hrws,hrow,hyb,hbi,hbl5,htk,hbr,hpcow,Jp,Jae,Jf];rw[hphr];refine kn.grow (new:=[ph.row]) hgp (.mk' _ _ _ _) (by intro r hr;simp only[Ja]at hr;subst hr;exact ph.noOw hphg) (by simp only[Je,Jl,Jo,LIM];omega) fun z H15 kn=>?_;have kn:Kn H H15 [(R.l,R.o (k2+1+1+1+q))] ([(yb,.vec 5 (u.blocks.map UBlk.row))]++(([(x8,.st [.int .i64 to,ac])]++([(x2,.st [.sl true 3 []]),(x3,.st [cc])]++(blk.core++(al++(Qazr us ci bi hci++cl)))))++[(z,.vec 2 ((blk.phis++[ph]).map UPhi.row))])):=by
          simpa[Jj]using kn
         have hyb:=kn.l 0 rfl;have hmem5:∀p∈cl,p∈([(yb,Obj.vec 5 (u.blocks.map UBlk.row))]++(([(x8,Obj.st [.int .i64 to,ac])]++([(x2,Obj.st [.sl true 3 []]),(x3,Obj.st [cc])]++(blk.core++(al++(Qazr us ci bi hci++cl)))))++[(z,.vec 2 ((blk.phis++[ph]).map UPhi.row))])):=fun p hp=>(by simp[hp]);have hsok:=eq_true (hgr.slcM kn hmem5).ok;have hrws:=(hgr.slcM kn hmem5).rows;simp only[go_sem,Qacy,hcow,hsok,hlen,hsz,hci,hrws,hrow,hyb,hbi,hbl5,htk,hbr,hpcow,Jp,Jf];intro H16 h16;obtain⟨b',hb'⟩:∃b':UBlk,b'={ blk with phis:=blk.phis++[ph],pc:=.vsl z 2 0 ((blk.phis.map UPhi.row).length+1),pl:=[(z,.vec 2 ((blk.phis++[ph]).map UPhi.row))] }:=⟨_,rfl⟩;have hbr':[C.vsl z 2 0 ((blk.phis.map UPhi.row).length+1),blk.ic,C.int IntKind.i64 blk.jump,C.int IntKind.i64 blk.on,C.sl blk.nfl 1 (Qe blk.next)]=b'.row:=(by rw[hb'];rfl);have hbset:(u.blocks.map UBlk.row).set bi b'.row=(u.blocks.set bi b').map UBlk.row:=(by rw[Jt]);rw[hbr',hbset]at h16;have kn:=kn.stL 0 rfl h16;have hbok':b'.ok:=by
          rw[hb'];refine⟨.mk _ _ _ (by simp),hbok2.i,fun p hp=>?_⟩;rcases Jm.1 hp with h|h
          ·exact hbok2.a p h
          ·simp only[Ja]at h;subst h;exact hphg
         have hbsm':b'.sm (N+1):=by
          rw[hb'];refine⟨hbsm2.n,hbsm2.i,by simp;omega,hbsm2.ia,fun p hp=>?_⟩;rcases Jm.1 hp with h|h
          ·exact hbsm2.pa p h
          ·simp only[Ja]at h;subst h;rw[hph];show ns.length≤1000;omega
         obtain⟨u',hu'⟩:∃u',u'=u.put bi b' [(yb,.vec 5 ((u.blocks.set bi b').map UBlk.row))]:=⟨_,rfl⟩;have huok':u'.ok:=(by rw[hu'];exact UCode.put_ok huok hbok' hbl);have husm':u'.sm (N+1):=(by rw[hu'];exact UCode.put_sm husm hbsm');have hkn:Kn H H16 [(R.l,R.o (k2+1+1+1+q))] ((([(x2,.st [.sl true 3 []]),(x3,.st [cc])]++(us.set ci u').flatMap UCode.lg)++cl)++[(x8,.st [.int .i64 to,ac])]):=kn.perm (Qt fun f hf h0 hc1 hp=>by
          have h1:=hp _ _ (Qbs8 us ci bi hci (by rw[hu];exact hbi) b' [(yb,.vec 5 ((u.blocks.set bi b').map UBlk.row))]);rw[hu,←hu']at h1;have h2:b'.core=blk.core++al:=(by rw[hb',UBlk.core_snoc,hphl]);have h3:b'.pl=[(z,.vec 2 ((blk.phis++[ph]).map UPhi.row))]:=(by rw[hb']);rw[h2,h3]at h1;simp only[Jr,Jq,Ju,hf,hc1 _ (_::_),hc1 _ (_++_)]at h1⊢;omega)
         refine hn _ _ ⟨k2+1+1+1+q,us.set ci u',by simpa using hui,by omega,by omega,fun v hv=>?_,?_,hkn.drop,rfl,rfl,rfl,rfl⟩
         ·rcases J1 hv with hv|rfl
          ·exact⟨(hok v hv).1,(hok v hv).2.mono (by omega)⟩
          ·exact⟨huok',husm'⟩
         ·rw[Qbs9 us ci hci u' (by rw[hu',UCode.put_row,hu])];exact hgr
        ·intro hc;refine Qf ?_;simp only[go_sem];refine hn _ _ ⟨k2+1+1+1+q,us,hui,by omega,by omega,fun u hu=>⟨(hok u hu).1,(hok u hu).2.mono (by omega)⟩,hgr,?_,rfl,rfl,rfl,rfl⟩;have kn:=kn.drop;exact (kn.perm Ji).drop
     rintro e2 H8 ⟨k3,us,hui,hk5,hk6,hok,hgr,kn,l0,l2,l3,l5⟩;refine Qr ?_;simp only[go_sem,X.next,l0,l2,l3,l5];refine⟨Qp (by omega) (by omega),t-1,by omega,t-1,k3,N+1,us,rfl,by omega,hui,hk5,by omega,hok,hgr,kn,?_⟩;have:(t:Int)-1=((t-1:Nat):Int):=(by omega);rw[this]
    ·intro hc;refine Qv ?_;simp only[go_sem,X.next];have hx2:=kn.l 0 rfl;refine Qa ?_;simp only[go_sem,hx2,hx3,hcow];intro H8 h8;have kn:=kn.stL 0 rfl h8;have hx2:=kn.l 0 rfl;refine Qj ?_;simp only[go_sem,Q4,Qaa,Qbdw,reduceIte,Ja,forall_eq,RS.op,hx2,hcow];have hheld:Held H8 (un H) (us.flatMap UCode.lg++cl):=fun p hp=>by
      have hp2:p∈(([(x2,Obj.st [cc]),(x3,Obj.st [cc])]++us.flatMap UCode.lg)++cl):=by
       rcases Jm.1 hp with h|h
       ·simp[h]
       ·simp[h]
      exact⟨(kn.get p (Jh _ hp2)).1,Qj2 (kn.loc p hp2)⟩
     obtain⟨cs,hf,hcn,hcs⟩:=UCodes.frz (N:=N) (by omega) hgr hok hheld;exact⟨_,FrzL.ag (.cons hf .nil),hK cs _ k2 hk3 (by omega) kn.fin (by omega) (by omega) hcs⟩
end Go.AE.Y
namespace Go.AE
open Go.AE.Y
open Go.Proofs.Tryz
variable {H:Heap}{K:V→Heap→Prop}
theorem Kn.lm {H0 H:Heap}{E L:List (Nat×Obj)}{x:Nat}{o:Obj}(kn:Kn H0 H E L)(h:(x,o)∈L):H x=o:=(kn.get (x,o) (Jh _ h)).1
end Go.AE
namespace Go.AE.Y
open Go.Proofs.Tryz
variable {H:Heap}{K:V→Heap→Prop}
set_option maxHeartbeats 4000000 in
theorem Qbob {R:Rdr}{k:Nat}(hH:H R.l=R.o k)(hk:k+20000≤2^40)
  (hK:∀(cs:List CodeD) (H':Heap) (k':Nat),k<k'→k'≤k+20000→Upd H H' [(R.l,R.o k')]→0<cs.length→cs.length≤3→(∀c∈cs,c.gd)→K (.ag [.sl false 3 (Qk cs)]) H') :
  Qo prog Qahp [.c (.ptr R.l 0)] H K:=by
 refine Qy ?_;refine Qb Qap Qbov ?_;refine Qa ?_;simp only[go_sem];intro x2 hx2 H1 h1;have kn:=(Kn.start1 hH (R.o_ne k)).al hx2 h1;refine Qa ?_;simp only[go_sem];refine Qbdf (kn.e 0 rfl) (by omega) fun cs H2 k1 hk1 hk2 hu hcs0 hcs3 hsm=>?_;have kn:=kn.callE 0 rfl hu (R.o_ne _);simp only[go_sem,Qamg];refine Qa0c hsm (by omega) fun us cc cl H3 k2 hgr hok hul=>?_;have kn:=kn.comp0 k2;have hcow:=hgr.isOw;simp only[go_sem,Qamf,hcow];intro x3 hx3 H4 h4;have kn:=kn.al hx3 h4;have kn:=kn.perm Ji;have hx3:=kn.l 0 rfl;simp only[go_sem,Qame,hx3,hcow];intro H5 h5;have kn:=kn.stL 0 rfl h5;have kn:Kn H H5 [(R.l,R.o k1)] (([(x2,.st [.sl true 3 []]),(x3,.st [cc])]++us.flatMap OCode.lg)++cl):=kn.perm (Qt fun f hf h0 hc1 hp=>by
  simp only[Jr,Jq,Ju,hf,hc1 _ (_::_),hc1 _ (_++_),hc1 _ (List.flatMap _ _)];omega)
 have hx3:=kn.l 1 rfl;have hs:=hgr.slc kn;have hsok:=eq_true hs.ok;have hlen:=hs.len;have hsz:=hs.sz;rw[Je]at hlen;refine Qao ?_;simp only[go_sem,hx3,hcow,hsok,hlen];refine Qbc (kn.e 0 rfl) (by omega) fun v H6 hv hu=>?_;have kn:=kn.callE 0 rfl hu (R.o_ne _);rw[if_neg (by omega)]at hv;obtain⟨ci,rfl⟩:=Jn hv.1;have hci:ci<us.length:=by omega
 have hx3:=kn.l 1 rfl;have hs:=hgr.slc kn;have hsok:=eq_true hs.ok;have hrws:=hs.rows;simp only[go_sem,Qamh,hx3,hcow,hsok,hlen,hsz,hci];obtain⟨u,hu⟩:∃u,us[ci]=u:=⟨_,rfl⟩;obtain⟨huok,husm⟩:=hok _ (Jc hci);rw[hu]at huok husm;have hrow:(us.map OCode.row).getD ci []=[.int .i64 u.params,.int .i64 u.regs,u.bc]:=by rw[←hu];simp[Jb,hci,OCode.row]
 have hub0:=husm.b0;have hub1:=husm.b;obtain⟨yb,hbc,hbl⟩:=OCode.bvec huok hub0;have hblow:(C.vsl yb 5 0 u.blocks.length).isOw=false:=rfl;have hblen:lenC (C.vsl yb 5 0 u.blocks.length)=u.blocks.length:=rfl;rw[hbc]at hrow;have hybm:(yb,Obj.vec 5 (u.blocks.map OBlk.row))∈(([(x2,Obj.st [.sl true 3 []]),(x3,.st [cc])]++us.flatMap OCode.lg)++cl):=by
  have:(yb,Obj.vec 5 (u.blocks.map OBlk.row))∈us.flatMap OCode.lg:=Jad.2 ⟨u,by rw[←hu];exact Jc hci,Jh _ (by rw[hbl];simp)⟩;simp[this]
 have hyb:=kn.lm hybm;have hbl5:(u.blocks.map OBlk.row).length=u.blocks.length:=by simp
 have htk:List.take u.blocks.length (u.blocks.map OBlk.row)=u.blocks.map OBlk.row:=Jd (by simp);refine Qao ?_;simp only[go_sem,hcow,hsok,hlen,hsz,hci,hrws,hrow,hyb,hbl5,Jf,Jg];refine Qbc (kn.e 0 rfl) (by omega) fun v H7 hv hu7=>?_;have kn:=kn.callE 0 rfl hu7 (R.o_ne _);rw[if_neg (by omega)]at hv;obtain⟨bi,rfl⟩:=Jn hv.1;have hbi:bi<u.blocks.length:=by omega
 have hs:=hgr.slc kn;have hsok:=eq_true hs.ok;have hrws:=hs.rows;have hyb:=kn.lm hybm;simp only[go_sem,Qami,hcow,hsok,hlen,hsz,hci,hrws,hrow,hyb,hbl5,hbi,Jf,Jg];refine Qao ?_;simp only[go_sem,hcow,hsok,hlen,hsz,hci,hrws,hrow,hyb,hbl5,hbi,Jf,Jg];refine Qkg (ns:=[-1,u.regs,u.blocks.length,0,1]) (kn.e 0 rfl) (by omega) (by simp) fun bad H8 _ hu8=>?_;have kn:=kn.callE 0 rfl hu8 (R.o_ne _);simp only[go_sem,Qamj];refine Q5 ?_;refine Qa ?_;simp only[go_sem];refine Qbc (kn.e 0 rfl) (by omega) fun kind H9 _ hu9=>?_;have kn:=kn.callE 0 rfl hu9 (R.o_ne _);refine Qd3 (fun e2 H2=>∃(k3:Nat) (us:List OCode) (cl:List (Nat×Obj)),us.length=cs.length∧k<k3∧k3≤k+20000∧(∀u∈us,u.ok∧u.sm 1001)∧Gr cl 3 (us.map OCode.row) cc∧
   Kn H H2 [(R.l,R.o k3)] (([(x2,.st [.sl true 3 []]),(x3,.st [cc])]++us.flatMap OCode.lg)++cl)∧lk 2 e2=.c (.ptr x2 0)∧lk 3 e2=.c (.ptr x3 0)) ?_ ?_
 ·intro Q hn _ _;have hull:us.length=cs.length:=hul;have knO:=kn;obtain⟨blk,hblk⟩:∃blk,u.blocks[bi]=blk:=⟨_,rfl⟩;have hbok:=huok.bs _ (Jc hbi);have hbsm:=husm.bs _ (Jc hbi);rw[hblk]at hbok hbsm;have hbr:(u.blocks.map OBlk.row).getD bi []=[blk.pc,blk.ic,.int .i64 blk.jump,.int .i64 blk.on,.vsl blk.nx.y 1 0 blk.nx.ns.length]:=by rw[←hblk];simp[Jb,hbi,OBlk.row,OInts.c]
  have hpcow:=hbok.p.isOw;have hicow:=hbok.i.isOw;have kn:=Qbef kn hci hu hbi hblk hbl;have hset:∀b':OBlk,(u.blocks.map OBlk.row).set bi b'.row=(u.blocks.set bi b').map OBlk.row:=fun b'=>(Jt).symm;have hdone:∀(b':OBlk) (H2:Heap) (k3:Nat) (e2:Env),b'.ok→b'.sm 1001→k<k3→k3≤k+20000→Kn H H2 [(R.l,R.o k3)] ([(yb,.vec 5 ((u.blocks.set bi b').map OBlk.row))]++(b'.lg++(Qapr us ci bi hci++([(x2,Obj.st [.sl true 3 []]),(x3,.st [cc])]++cl))))→
    lk 2 e2=.c (.ptr x2 0)→lk 3 e2=.c (.ptr x3 0)→Q .nrm e2 H2:=by
   intro b' H2 k3 e2 h1 h2 h3 h4 kn l2 l3;obtain⟨us',g1,g2,g3,g4⟩:=Qbii (N:=1000) hci hu hbi hbl hok h1 h2 hgr kn;exact hn _ _ ⟨k3,us',cl,by omega,h3,h4,g3,g2,g4,l2,l3⟩
  have hsame:∀e2:Env,lk 2 e2=.c (.ptr x2 0)→lk 3 e2=.c (.ptr x3 0)→Q .nrm e2 H9:=fun e2 l2 l3=>
   hn _ _ ⟨_,us,cl,hul,by omega,by omega,fun u hu=>⟨(hok u hu).1,(hok u hu).2.mono (by omega)⟩,hgr,knO,l2,l3⟩
  refine Qc ?_;refine Qa ?_;simp only[go_sem];have hsok:=eq_true (hgr.slcM kn (fun p hp=>by simp[hp])).ok;have hrws:=(hgr.slcM kn (fun p hp=>by simp[hp])).rows;have hyb:=kn.l 0 rfl;refine Qd rfl ?_ ?_
  ·intro hc;refine Qr ?_;simp only[go_sem];refine Qbc (kn.e 0 rfl) (by omega) fun v H10 _ hu10=>?_;have kn:=kn.callE 0 rfl hu10 (R.o_ne _);have hyb:=kn.l 0 rfl;simp only[go_sem,Qamk,hyb,hbl5,htk,hbi,hbr,hpcow,hicow,Qbs,Jp,Jf,Jg];intro H11 h11;have hb':[blk.pc,blk.ic,C.int IntKind.i64 v,C.int IntKind.i64 blk.on,C.vsl blk.nx.y 1 0 blk.nx.ns.length]=({ blk with jump:=v }:OBlk).row:=rfl;rw[hb',hset]at h11;exact hdone { blk with jump:=v } _ _ _ ⟨hbok.p,hbok.i,hbok.a⟩ ⟨hbsm.n,hbsm.i,by have:=hbsm.p;show blk.phis.length≤_;omega,fun x hx=>by have:=hbsm.ia x hx;omega⟩ (by omega) (by omega) (kn.stL 0 rfl h11) (by simp[lk]) (by simp[lk])
  intro hc0;refine Qa ?_;simp only[go_sem];refine Qd rfl ?_ ?_
  ·intro hc;have hny:H9 blk.nx.y=.vec 1 (Qe blk.nx.ns):=kn.l 1 rfl;have htk2:List.take blk.nx.ns.length (Qe blk.nx.ns)=Qe blk.nx.ns:=Jd (by simp[Qi]);refine Qa ?_;simp only[go_sem,hyb,hbl5,htk,hbi,hbr,hpcow,hicow,Qbs,Jp,Jf,Jg,hny,Qi];intro _;refine Qd rfl ?_ ?_
   ·intro hc2;have hn0:0<blk.nx.ns.length:=(by simpa using hc2);have hg1:=Q9 blk.nx.ns 0 hn0;refine Qr ?_;simp only[go_sem,hyb,hbl5,htk,hbi,hbr,hpcow,hicow,Qbs,Jp,Jf,Jg,hny,hn0,hg1,htk2,Qi];refine⟨by omega,fun H11 h11=>?_⟩;have hs1:(Qe blk.nx.ns).set 0 [C.int IntKind.i64 bad]=Qe (blk.nx.ns.set 0 bad):=(by simp[Qe,Jt]);rw[hs1]at h11;have kn:Kn H H11 [(R.l,R.o (k1+1+1+1+1))] ([(yb,.vec 5 (u.blocks.map OBlk.row))]++(OBlk.lg { blk with nx:=⟨blk.nx.ns.set 0 bad,blk.nx.y⟩ }++(Qapr us ci bi hci++([(x2,Obj.st [.sl true 3 []]),(x3,.st [cc])]++cl)))):=kn.stL 1 rfl h11;refine hdone { blk with nx:=⟨blk.nx.ns.set 0 bad,blk.nx.y⟩ } _ (k1+1+1+1+1) _ ⟨hbok.p,hbok.i,hbok.a⟩ ⟨by simpa using hbsm.n,hbsm.i,by have:=hbsm.p;show blk.phis.length≤_;omega,fun x hx=>by have:=hbsm.ia x hx;omega⟩ (by omega) (by omega) ?_ (by simp[lk]) (by simp[lk]);rw[Qag0 hbi (by rw[hblk];simp[OBlk.row,OInts.c])];exact kn
   ·intro hc2;refine Qf ?_;exact hsame _ (by simp[lk]) (by simp[lk])
  intro hc1;refine Qa ?_;simp only[go_sem];refine Qd rfl ?_ ?_
  ·intro hc;refine Qr ?_;simp only[go_sem,hyb,hbl5,htk,hbi,hbr,hpcow,hicow,Qbs,Jp,Jf,Jg];intro H11 h11;have hb':[blk.pc,blk.ic,C.int IntKind.i64 blk.jump,C.int IntKind.i64 bad,C.vsl blk.nx.y 1 0 blk.nx.ns.length]=({ blk with on:=bad }:OBlk).row:=rfl;rw[hb',hset]at h11;exact hdone { blk with on:=bad } _ _ _ ⟨hbok.p,hbok.i,hbok.a⟩ ⟨hbsm.n,hbsm.i,by have:=hbsm.p;show blk.phis.length≤_;omega,fun x hx=>by have:=hbsm.ia x hx;omega⟩ (by omega) (by omega) (kn.stL 0 rfl h11) (by simp[lk]) (by simp[lk])
  intro hc2;refine Qa ?_;simp only[go_sem];have hilen:lenC blk.ic=blk.ins.length:=by rw[hbok.i.lenC];simp
  have hiok:okSl H9 blk.ic=True:=eq_true (hbok.i.slcM kn (fun p hp=>by simp[OBlk.lg,hp])).ok;refine Qd rfl ?_ ?_
  ·intro hc;refine Qa ?_;simp only[go_sem,hyb,hbl5,htk,hbi,hbr,hpcow,hicow,Qbs,Jp,Jf,Jg,hilen,hiok];intro _;refine Qd rfl ?_ ?_
   ·intro hc2;have hn0:0<blk.ins.length:=(by simpa using hc2);obtain⟨yi,hic,hil⟩:=OBlk.ivec hbok hn0;rw[hic]at hbr;have knI:=Qav5 kn hil;have hyi:=knI.l 0 rfl;obtain⟨x,hx⟩:∃x,blk.ins[0]=x:=⟨_,rfl⟩;have hxr:(blk.ins.map OIns.row).getD 0 []=[.int .i64 x.op,.int .i64 x.to,.vsl x.a.y 1 0 x.a.ns.length,.int .i64 x.n]:=(by rw[←hx];simp[Jb,hn0,OIns.row,OInts.c]);have hil4:(blk.ins.map OIns.row).length=blk.ins.length:=(by simp);have htk4:List.take blk.ins.length (blk.ins.map OIns.row)=blk.ins.map OIns.row:=Jd (by simp);have hxa:x.a.ns.length≤1000:=hbsm.ia x (by rw[←hx];exact Jc hn0);refine Qr ?_;simp only[go_sem,hyb,hbl5,htk,hbi,hbr,hpcow,hicow,Qbs,Jp,Jf,Jg,hyi,hn0,hxr,hil4,htk4];refine⟨by omega,fun H12 h12=>?_⟩;have hr':[C.int IntKind.i64 x.op,C.int IntKind.i64 bad,C.vsl x.a.y 1 0 x.a.ns.length,C.int IntKind.i64 x.n]=({ x with to:=bad }:OIns).row:=rfl;rw[hr',←Jt]at h12;have knD:=Qbi6 (b:=blk) (is:=blk.ins.set 0 { x with to:=bad }) (knI.stL 0 rfl h12) (Q99 hn0 (by rw[hx];rfl));refine hdone _ _ (k1+1+1+1+1) _ (OBlk.ins_ok (i:=0) (x':={ x with to:=bad }) hbok hic) (OBlk.ins_sm (i:=0) (x':={ x with to:=bad }) hbsm (by show x.a.ns.length≤_;omega)) (by omega) (by omega) ?_ (by simp[lk]) (by simp[lk]);rw[Qag0 hbi (by rw[hblk];rfl)];exact knD
   ·intro hc2;refine Qf ?_;exact hsame _ (by simp[lk]) (by simp[lk])
  intro hc3;refine Qa ?_;simp only[go_sem];refine Qd rfl ?_ ?_
  ·intro hc;refine Qa ?_;simp only[go_sem,hyb,hbl5,htk,hbi,hbr,hpcow,hicow,Qbs,Jp,Jf,Jg,hilen,hiok];intro _;refine Qd rfl ?_ ?_
   ·intro hc2;have hn0:0<blk.ins.length:=(by simpa using hc2);obtain⟨yi,hic,hil⟩:=OBlk.ivec hbok hn0;rw[hic]at hbr;have knI:=Qav5 kn hil;have hyi:=knI.l 0 rfl;obtain⟨x,hx⟩:∃x,blk.ins[0]=x:=⟨_,rfl⟩;have hxr:(blk.ins.map OIns.row).getD 0 []=[.int .i64 x.op,.int .i64 x.to,.vsl x.a.y 1 0 x.a.ns.length,.int .i64 x.n]:=(by rw[←hx];simp[Jb,hn0,OIns.row,OInts.c]);have hil4:(blk.ins.map OIns.row).length=blk.ins.length:=(by simp);have htk4:List.take blk.ins.length (blk.ins.map OIns.row)=blk.ins.map OIns.row:=Jd (by simp);have hxa:x.a.ns.length≤1000:=hbsm.ia x (by rw[←hx];exact Jc hn0);refine Qbw ?_;have knA:Kn H H9 [(R.l,R.o (k1+1+1+1+1))] ([(x.a.y,.vec 1 (Qe x.a.ns))]++([(yi,.vec 4 (blk.ins.map OIns.row))]++([(yb,.vec 5 (u.blocks.map OBlk.row))]++(blk.nx.lg++(blk.phis.flatMap OPhi.lg++(blk.pl++((blk.ins.eraseIdx 0).flatMap OIns.lg++(Qapr us ci bi hci++([(x2,Obj.st [.sl true 3 []]),(x3,.st [cc])]++cl))))))))):=knI.perm (Qt fun f hf h0 hc1 hp=>by
     have h1:=hp _ _ (Qhb OIns.lg blk.ins 0 hn0);rw[hx]at h1;have h2:x.lg=[(x.a.y,.vec 1 (Qe x.a.ns))]:=rfl;rw[h2]at h1;simp only[hf]at h1⊢;omega)
    have hxy:=knA.l 0 rfl;have htk1:List.take x.a.ns.length (Qe x.a.ns)=Qe x.a.ns:=Jd (by simp[Qi]);simp only[go_sem,hyb,hbl5,htk,hbi,hbr,hpcow,hicow,Qbs,Jp,Jf,Jg,hyi,hn0,hxr,hil4,htk4,hxy,Qi,htk1];refine⟨by omega,by simp only[LIM];omega,fun y' hy' H10 h10=>?_⟩;have knA:=knA.ap 0 rfl hy' h10;have hyi:=knA.l 1 rfl;have hyb:=knA.l 2 rfl;simp only[go_sem,Qaml,hyb,hbl5,htk,hbi,hbr,hpcow,hicow,Qbs,Jp,Jf,Jg,hyi,hn0,hxr,hil4,htk4];refine⟨by omega,fun H12 h12=>?_⟩;obtain⟨x',hx'⟩:∃x':OIns,x'={ x with a:=⟨x.a.ns++[bad],y'⟩ }:=⟨_,rfl⟩;have hr':[C.int IntKind.i64 x.op,C.int IntKind.i64 x.to,C.vsl y' 1 0 (x.a.ns.length+1),C.int IntKind.i64 x.n]=x'.row:=(by rw[hx'];simp[OIns.row,OInts.c]);have hl':x'.lg=[(y',.vec 1 (Qe x.a.ns++[[.int .i64 bad]]))]:=(by rw[hx'];simp[OIns.lg,OInts.lg,Qe]);rw[hr',←Jt]at h12;have knA:=knA.stL 1 rfl h12;refine hdone _ _ (k1+1+1+1+1) _ (OBlk.ins_ok (i:=0) (x':=x') hbok hic) (OBlk.ins_sm (i:=0) (x':=x') hbsm (by rw[hx'];simp;omega)) (by omega) (by omega) ?_ (by simp[lk]) (by simp[lk]);rw[Qag0 hbi (by rw[hblk];rfl)];refine knA.perm (Qt fun f hf h0 hc1 hp=>?_);have h1:=hp _ _ (Qfq OIns.lg blk.ins 0 x' hn0);rw[hl']at h1;simp only[OBlk.lg,Jr,Jq,Ju,J7,hf,hc1 _ (_::_),hc1 _ (_++_),hc1 _ (List.flatMap _ _)]at h1⊢;omega
   ·intro hc2;refine Qf ?_;exact hsame _ (by simp[lk]) (by simp[lk])
  intro hc4;refine Qa ?_;simp only[go_sem];refine Qd rfl ?_ ?_
  ·intro hc;refine Qr ?_;simp only[go_sem,hyb,hbl5,htk,hbi,hbr,hpcow,hicow,Qbs,Jp,Jf,Jg];have knP:Kn H H9 [(R.l,R.o (k1+1+1+1+1))] (([(yb,.vec 5 (u.blocks.map OBlk.row))]++(blk.nx.lg++(blk.phis.flatMap OPhi.lg++(blk.ins.flatMap OIns.lg++(blk.il++(Qapr us ci bi hci++([(x2,Obj.st [.sl true 3 []]),(x3,.st [cc])]++cl)))))))++blk.pl):=kn.perm (Qt fun f hf h0 hc1 hp=>by
    simp only[OBlk.lg,hf];omega)
   obtain⟨ph,hph⟩:∃ph:OPhi,ph=⟨0,[bad],.sl true 1 (Qe [bad]),[]⟩:=⟨_,rfl⟩;have hphr:[C.int IntKind.i64 0,C.sl true 1 [[C.int IntKind.i64 bad]]]=ph.row:=by rw[hph];rfl
   have hphok:ph.ok:=by rw[hph];exact .inr ⟨true,rfl,rfl⟩
   have hphl:ph.lg=[]:=by rw[hph]
   have hpl:=hbsm.p;rw[hphr];refine knP.grow (new:=[ph.row]) hbok.p (.mk' _ _ _ _) (by intro r hr;simp only[Ja]at hr;subst hr;exact ph.noOw hphok) (by simp only[Je,Jl,Jo,LIM];omega) fun z H10 knP=>?_;have hyb:=knP.l 0 rfl;simp only[go_sem,Qab6,hyb,hbl5,htk,hbi,hbr,hpcow,hicow,Qbs,Jp,Jf,Jg];intro H11 h11;obtain⟨b',hb'⟩:∃b':OBlk,b'={ blk with phis:=blk.phis++[ph],pc:=.vsl z 2 0 ((blk.phis.map OPhi.row).length+1),pl:=[(z,.vec 2 ((blk.phis++[ph]).map OPhi.row))] }:=⟨_,rfl⟩;have hbr':[C.vsl z 2 0 ((blk.phis.map OPhi.row).length+1),blk.ic,C.int IntKind.i64 blk.jump,C.int IntKind.i64 blk.on,C.vsl blk.nx.y 1 0 blk.nx.ns.length]=b'.row:=by rw[hb'];rfl
   rw[hbr',hset]at h11;have knP:=knP.stL 0 rfl h11;have hbok':b'.ok:=by
    rw[hb'];refine⟨.mk _ _ _ (by simp),hbok.i,fun p hp=>?_⟩;rcases Jm.1 hp with h|h
    ·exact hbok.a p h
    ·simp only[Ja]at h;subst h;exact hphok
   have hbsm':b'.sm 1001:=by
    rw[hb'];exact⟨hbsm.n,hbsm.i,by simp;omega,fun x hx=>by have:=hbsm.ia x hx;omega⟩
   refine hdone b' _ (k1+1+1+1+1) _ hbok' hbsm' (by omega) (by omega) ?_ (by simp[lk]) (by simp[lk]);have hbl':b'.lg=blk.nx.lg++(blk.phis.flatMap OPhi.lg++([(z,.vec 2 ((blk.phis++[ph]).map OPhi.row))]++(blk.ins.flatMap OIns.lg++blk.il))):=by
    rw[hb'];simp[OBlk.lg,Js,hphl]
   rw[hbl'];have hmm:blk.phis.map OPhi.row++[ph.row]=(blk.phis++[ph]).map OPhi.row:=by simp
   rw[hmm]at knP;refine knP.perm (Qt fun f hf h0 hc1 hp=>?_);simp only[Jr,Jq,Ju,J7,hf,hc1 _ (_::_),hc1 _ (_++_),hc1 _ (List.flatMap _ _)];omega
  intro hc5;refine Qa ?_;simp only[go_sem];refine Qd rfl ?_ ?_
  ·intro hc;refine Qbw ?_;simp only[go_sem,hcow,hsok,hlen,hsz,hci,hrws,hrow];refine Qbc (kn.e 0 rfl) (by omega) fun v H10 hv hu10=>?_;have knO:=knO.callE 0 rfl hu10 (R.o_ne _);obtain⟨yc,hcc,hcl⟩:∃yc,cc=.vsl yc 3 0 us.length∧cl=[(yc,.vec 3 (us.map OCode.row))]:=by
    rcases hgr with ⟨h1,h2,h3⟩|⟨y,h1,h2⟩
    ·rw[List.map_eq_nil_iff]at h2;rw[h2]at hci;simp at hci
    ·exact⟨y,by rw[h1];simp,h2⟩
   have hyc:H10 yc=.vec 3 (us.map OCode.row):=knO.lm (by rw[hcl];simp);have hul3:(us.map OCode.row).length=us.length:=by simp
   have htk3:List.take us.length (us.map OCode.row)=us.map OCode.row:=Jd (by simp);have hbcow:=huok.b.isOw;simp only[go_sem,Qab7,hcc,hyc,hul3,htk3,hci,hrow,Qbs,Jp,Jf,Jg];have hp0:=husm.p0;have hp1:=husm.p1;rw[if_neg (by omega)]at hv;refine⟨Qp (by omega) (by omega),fun H11 h11=>?_⟩;obtain⟨u',hu'⟩:∃u':OCode,u'={ u with regs:=u.params+v }:=⟨_,rfl⟩;have hur:[C.int IntKind.i64 u.params,C.int IntKind.i64 (u.params+v),C.vsl yb 5 0 u.blocks.length]=u'.row:=by rw[hu',←hbc];rfl
   have hul':u'.lg=u.lg:=by rw[hu'];rfl
   have huok':u'.ok:=by rw[hu'];exact⟨huok.b,huok.bs⟩
   have husm':u'.sm 1000:=by rw[hu'];exact⟨husm.b0,husm.b,husm.bs,husm.p0,husm.p1⟩
   rw[hur,←Jt]at h11;have knF:Kn H H10 [(R.l,R.o (k1+1+1+1+1+1))] ([(yc,.vec 3 (us.map OCode.row))]++([(x2,Obj.st [.sl true 3 []]),(x3,.st [cc])]++us.flatMap OCode.lg)):=by
    rw[hcl]at knO;exact knO.perm Ji
   have knF:=knF.stL 0 rfl h11;refine hn _ _ ⟨k1+1+1+1+1+1,us.set ci u',[(yc,.vec 3 ((us.set ci u').map OCode.row))],by simpa using hul,by omega,by omega,fun w hw=>?_,?_,?_,by simp[lk],by simp[lk]⟩
   ·rcases J1 hw with hw|rfl
    ·exact⟨(hok w hw).1,(hok w hw).2.mono (by omega)⟩
    ·exact⟨huok',husm'.mono (by omega)⟩
   ·rw[hcc];exact .mk _ _ _ (by simp)
   ·refine knF.perm (Qt fun f hf h0 hc1 hp=>?_);have h1:=hp _ _ (Qfq OCode.lg us ci u' hci);have h2:=hp _ _ (Qhb OCode.lg us ci hci);rw[hul']at h1;rw[hu]at h2;simp only[Jr,Jq,Ju,hf,hc1 _ (_::_),hc1 _ (_++_),hc1 _ (List.flatMap _ _)]at h1 h2⊢;omega
  intro hc6;refine Qa ?_;simp only[go_sem];refine Qd rfl ?_ ?_
  ·intro hc;refine Qa ?_;simp only[go_sem,hyb,hbl5,htk,hbi,hbr,hpcow,hicow,Qbs,Jp,Jf,Jg,hilen,hiok];intro _;refine Qd rfl ?_ ?_
   ·intro hc2;have hn0:0<blk.ins.length:=(by simpa using hc2);obtain⟨yi,hic,hil⟩:=OBlk.ivec hbok hn0;rw[hic]at hbr;have knI:=Qav5 kn hil;have hyi:=knI.l 0 rfl;obtain⟨x,hx⟩:∃x,blk.ins[0]=x:=⟨_,rfl⟩;have hxr:(blk.ins.map OIns.row).getD 0 []=[.int .i64 x.op,.int .i64 x.to,.vsl x.a.y 1 0 x.a.ns.length,.int .i64 x.n]:=(by rw[←hx];simp[Jb,hn0,OIns.row,OInts.c]);have hil4:(blk.ins.map OIns.row).length=blk.ins.length:=(by simp);have htk4:List.take blk.ins.length (blk.ins.map OIns.row)=blk.ins.map OIns.row:=Jd (by simp);have hxa:x.a.ns.length≤1000:=hbsm.ia x (by rw[←hx];exact Jc hn0);refine Qbw ?_;simp only[go_sem,hyb,hbl5,htk,hbi,hbr,hpcow,hicow,Qbs,Jp,Jf,Jg,hyi,hn0,hxr,hil4,htk4];refine Qkg (ns:=[256,-1,1]) (knI.e 0 rfl) (by omega) (by simp) fun v H10 hv hu10=>?_;have knI:=knI.callE 0 rfl hu10 (R.o_ne _);have hyi:=knI.l 0 rfl;have hyb:=knI.l 1 rfl;simp only[go_sem,Qab8,hyb,hbl5,htk,hbi,hbr,hpcow,hicow,Qbs,Jp,Jf,Jg,hyi,hn0,hxr,hil4,htk4];refine⟨by omega,fun H12 h12=>?_⟩;have hr':[C.int IntKind.i64 x.op,C.int IntKind.i64 x.to,C.vsl x.a.y 1 0 x.a.ns.length,C.int IntKind.i64 v]=({ x with n:=v }:OIns).row:=rfl;rw[hr',←Jt]at h12;have knD:=Qbi6 (b:=blk) (is:=blk.ins.set 0 { x with n:=v }) (knI.stL 0 rfl h12) (Q99 hn0 (by rw[hx];rfl));refine hdone _ _ (k1+1+1+1+1+1) _ (OBlk.ins_ok (i:=0) (x':={ x with n:=v }) hbok hic) (OBlk.ins_sm (i:=0) (x':={ x with n:=v }) hbsm (by show x.a.ns.length≤_;omega)) (by omega) (by omega) ?_ (by simp[lk]) (by simp[lk]);rw[Qag0 hbi (by rw[hblk];rfl)];exact knD
   ·intro hc2;refine Qf ?_;exact hsame _ (by simp[lk]) (by simp[lk])
  ·intro hc;refine Qf ?_;exact hsame _ (by simp[lk]) (by simp[lk])
 ·rintro e2 H10 ⟨k3,us,cl,hul,hk3,hk4,hok,hgr,kn,l2,l3⟩;have hx2:=kn.l 0 rfl;have hx3:=kn.l 1 rfl;refine Qa ?_;simp only[go_sem,hx2,hx3,hcow,l2,l3];intro H8 h8;have kn:=kn.stL 0 rfl h8;have hx2:=kn.l 0 rfl;refine Qj ?_;simp only[go_sem,Q4,Qaa,Qbds,reduceIte,Ja,forall_eq,RS.op,hx2,hcow];have hheld:Held H8 (un H) (us.flatMap OCode.lg++cl):=fun p hp=>by
   have hp2:p∈(([(x2,Obj.st [cc]),(x3,Obj.st [cc])]++us.flatMap OCode.lg)++cl):=by
    rcases Jm.1 hp with h|h
    ·simp[h]
    ·simp[h]
   exact⟨(kn.get p (Jh _ hp2)).1,Qj2 (kn.loc p hp2)⟩
  obtain⟨cs,hf,hcn,hcs⟩:=OCodes.frz (N:=1001) (by omega) hgr hok hheld;exact⟨_,FrzL.ag (.cons hf .nil),hK cs _ k3 hk3 (by omega) kn.fin (by omega) (by omega) hcs⟩
end Go.AE.Y
namespace Go.AE.Y
open Go.Proofs.Tryz
theorem Qawc {R : Rdr} {fl : Bool} {ss : List (List UInt8)} : ∀ (d : Nat) {k : Nat} {H : Heap} {K : V → Heap → Prop} (deep : Int), deep ≤ d → H R.l = R.o k → k + 6 * 2^d ≤ 2^40 →
    (∀ (x : Ex) (H' : Heap) (k' : Nat), k < k' → k' + 3 ≤ k + 6 * 2^d → Upd H H' [(R.l, R.o k')] → x.ok → k + x.size ≤ k' → K (.ag x.cells) H') →
    Qo prog Qf0 [.c (.ptr R.l 0), .c (.sl fl 1 (Qbi ss)), .c (.int .i64 deep)] H K := by
  intro d
  induction d using Nat.strongRecOn with
  | ind d ih =>
  intro k H K deep hd hH hk hK;have hp1 : 1 ≤ 2^d := J8;have hp0 : d < 2^d := Nat.lt_two_pow_self;refine Qy ?_;refine Qb Qap Qbom ?_;refine Qa ?_;simp only [go_sem];intro x hx H1 h1;have kn := (Kn.start1 hH (R.o_ne k)).al hx h1;refine Q5 ?_;refine Qa ?_;simp only [go_sem];have rest : ∀ (b : Bool) (H2 : Heap) (k2 : Nat), k ≤ k2 → k2 ≤ k + 1 → Kn H H2 [(R.l, R.o k2)] [(x, .st [.int .i64 0, .int .i64 0, .str [], .sl true 4 []])] → (b = false → 2 ≤ deep) →
      Qaj prog (s_l2Expr_2.seq Qakq) (Q4 Qag3 fun x H' => ∃ x', FrzV H' (un H) x x' ∧ K x' (H'.frz (un H)))
       [(0, V.c (C.ptr R.l 0)), (1, V.c (C.sl fl 1 (Qbi ss))), (2, .c (.int .i64 deep)), (6, V.c (C.ptr x 0)), (14, V.c (.bool b))] H2 := by
    intro b H2 k2 hk1 hk2 kn hb;have fin : ∀ (op n : Int) (name : List UInt8) (fl : Bool) (kids : List Ex) (H3 : Heap) (k3 : Nat) (o : Obj), k < k3 → k3 + 3 ≤ k + 6 * 2^d → Kn H H3 [(R.l, R.o k3)] [(x, .st [.int .i64 op, .int .i64 n, .str name, .sl fl 4 (Qbl kids)])] →
        (op = 10 → kids.length = 2) → Qd7 kids → k + 1 + Qaf kids ≤ k3 →
        Qaa Qag3 [(6, V.c (C.ptr x 0))] H3 fun x H' => ∃ x', FrzV H' (un H) x x' ∧ K x' (H'.frz (un H)) := by
      intro op n name fl kids H3 k3 o g1 g2 kn g3 g4 g5;have hx3 := kn.l 0 rfl;simp only [go_sem, Qaa, Qag3, reduceIte, Ja, forall_eq, RS.op, hx3];refine ⟨_, (Ex.mk op n name kids).frz, hK _ _ k3 g1 g2 kn.fin ?_ ?_⟩
      · simp only [Ex.ok]; exact ⟨g3, g4⟩
      · simp only [Ex.size]; omega
    refine Qh (Qd rfl ?_ ?_)
    · intro hb';refine Qa ?_;simp only [go_sem];refine Qbn8 (kn.e 0 rfl) (by omega) fun y H3 k3 g1 g2 hu hok hsz => ?_;have kn := kn.callE 0 rfl hu (R.o_ne _);have hx3 := kn.l 0 rfl;simp only [go_sem, Qakr, hx3, y.cells_eq];intro H4 h4;have kn := kn.stL 0 rfl h4;refine Qj ?_;simp only [go_sem, Q4];refine fin _ _ _ _ _ _ k3 .none (by omega) (by omega) kn (Ex.ok_and hok) (Ex.ok_kids hok) ?_;have := y.size_kids; omega
    · intro hb';have hdp := hb hb';have hp : 2^d = 2 * 2^(d-1) := (by rw [← Nat.pow_succ']; congr 1; omega);have hp2 : 1 ≤ 2^(d-1) := J8;have ihd := fun {k H K} => @ih (d-1) (by omega) k H K;generalize 2^(d-1) = e at *;refine Qf ?_;simp only [go_sem];refine Q5 ?_;refine Qa ?_;simp only [go_sem];refine Qbc (kn.e 0 rfl) (by omega) fun v H3 hv hu => ?_;have kn := kn.callE 0 rfl hu (R.o_ne _);simp only [go_sem, Qaks];refine Qh (Qd rfl ?_ ?_)
      · intro hc;refine Qa ?_;simp only [go_sem];refine Qkg (ns := [11, 12, 11]) (kn.e 0 rfl) (by omega) (by simp) fun op H4 hop hu => ?_;have kn := kn.callE 0 rfl hu (R.o_ne _);simp only [go_sem, Qaku];refine ⟨Qp (by omega) (by omega), ?_⟩;refine ihd (deep - 1) (by omega) (kn.e 0 rfl) (by omega) fun y H5 k5 g1 g2 hu hok hsz => ?_;have kn := kn.callE 0 rfl hu (R.o_ne _);have hx5 := kn.l 0 rfl;simp only [go_sem, Qakt, hx5, y.cells_len];intro H6 h6;have kn := kn.stL 0 rfl h6;refine Qj ?_;simp only [go_sem, Q4];refine fin op 0 [] true [y] _ k5 .none (by omega) (by omega) kn (fun h => ?_) ⟨hok, trivial⟩ ?_
        · subst h; simp at hop
        · simp only [Qaf]; omega
      · intro hc;refine Qf ?_;simp only [go_sem];refine Qa ?_;simp only [go_sem];refine Qkg (ns := [3, 3, 4, 5, 6, 7, 8, 9, 10]) (kn.e 0 rfl) (by omega) (by simp) fun op H4 hop hu => ?_;have kn := kn.callE 0 rfl hu (R.o_ne _);simp only [go_sem, Qakv];refine Qa ?_;simp only [go_sem];refine ⟨Qp (by omega) (by omega), ?_⟩;refine ihd (deep - 1) (by omega) (kn.e 0 rfl) (by omega) fun y H5 k5 g1 g2 hu hok hsz => ?_;have kn := kn.callE 0 rfl hu (R.o_ne _);simp only [go_sem, Qakx];refine ⟨Qp (by omega) (by omega), ?_⟩;refine ihd (deep - 1) (by omega) (kn.e 0 rfl) (by omega) fun z H6 k6 g3 g4 hu hok2 hsz2 => ?_;have kn := kn.callE 0 rfl hu (R.o_ne _);have hx5 := kn.l 0 rfl;simp only [go_sem, Qakw, hx5, y.cells_len, z.cells_len];intro H7 h7;have kn := kn.stL 0 rfl h7;refine Qj ?_;simp only [go_sem, Q4];refine fin op 0 [] true [y, z] _ k6 .none (by omega) (by omega) kn (fun h => rfl) ⟨hok, hok2, trivial⟩ ?_;simp only [Qaf]; omega
  refine ⟨fun hb => ?_, fun hb => ?_⟩
  · refine Qbc (kn.e 0 rfl) (by omega) fun v H2 hv hu => ?_;have kn := kn.callE 0 rfl hu (R.o_ne _);simp only [go_sem, Q1m];refine rest _ H2 (k + 1) (by omega) (by omega) kn ?_;intro h;have : ¬ deep < 2 := (by simpa using hb);omega
  · have hb2 : decide (deep < 2) = true := (by simpa using hb);simp only [go_sem, Q1m, hb2];exact rest true H1 k (by omega) (by omega) kn (fun h => by simp at h)
theorem Qawd {R:Rdr}{gl k:Nat}{s:GS}{H:Heap}{K:V→Heap→Prop}(hR:H R.l=R.o k)(hG:H gl=s.o R)(hne:R.l≠gl)(hs:s.ok k)(hk:k+2≤2^30)
  (hK:∀(name:List UInt8) (H':Heap) (k':Nat),k+1≤k'→k'≤k+2→Upd H H' [(R.l,R.o k'),(gl,GS.o { s with next:=s.next+1 } R)]→K (.c (.str name)) H') :
  Qo prog Qi5 [.c (.ptr gl 0)] H K:=by
 have h0:=hs.n0;have h1':=hs.n1;refine Qy ?_;refine Qb Qap Qawt ?_;refine Qa ?_;simp only[go_sem];refine Qa ?_;simp only[go_sem,hG,GS.o];refine⟨Qp (by omega) (by omega),fun H1 h1=>?_⟩;have kn:Kn H H1 [(R.l,R.o k),(gl,GS.o { s with next:=s.next+1 } R)] []:=(Kn.start2 hR (R.o_ne k) hG (s.o_ne R) hne).stE 1 rfl h1;have hG1:=kn.e 1 rfl;refine Q5 ?_;refine Qa ?_;simp only[go_sem,hG1,GS.o];refine Qbc (kn.e 0 rfl) (by omega) fun v H2 hv hu=>?_;have kn:=kn.callE 0 rfl hu (R.o_ne _);have hG2:=kn.e 1 rfl;simp only[go_sem,Qox,hG2,GS.o];intro hl;refine Qh (Qd rfl ?_ ?_)
 ·intro hc;have hv0:0<s.vars.length:=by
   rw[Qat]at hc;cases h:decide (v=0) <;> rw[h]at hc <;> simp_all
  refine Qao ?_;simp only[go_sem,hG2,GS.o];refine of_c (kn.e 0 rfl) (by omega) hv0 fun name H3 hn hu=>?_;have kn:=kn.callE 0 rfl hu (R.o_ne _);simp only[go_sem,Qoy];refine Qj ?_;simp only[go_sem,Q4,Qaa,Qmw,reduceIte,Ja,forall_eq,RS.op];exact⟨_,.c _ _ (Qg rfl),hK _ _ (k+1+1) (by omega) (by omega) kn.fin⟩
 ·intro hc;refine Qf ?_;simp only[go_sem];refine Qao ?_;have e1:0≤(s.next+1).tmod 24:=J4 _ (by omega);have e2:(s.next+1).tmod 24<24:=J0 _ (by omega);simp only[go_sem,hG2,GS.o];refine⟨by omega,by omega,Qp (by omega) (by omega),by omega,?_⟩;refine Qj ?_;simp only[go_sem,Q4,Qaa,Qmw,reduceIte,Ja,forall_eq,RS.op];exact⟨_,.c _ _ (Qg rfl),hK _ _ (k+1) (by omega) (by omega) kn.fin⟩
theorem Qah2 {R:Rdr}{gl k:Nat}{s:GS}{x:Ex}{fl:Bool}{H:Heap}{K:V→Heap→Prop}(hR:H R.l=R.o k)(hG:H gl=s.o R)(hne:R.l≠gl)(hs:s.ok k)(hk:k+2≤2^30)
  (hK:∀(name:List UInt8) (H':Heap) (k':Nat),k+1≤k'→k'≤k+2→Upd H H' [(R.l,R.o k'),(gl,GS.o { s with next:=s.next+1,vars:=s.vars++[name],vfl:=false } R)]→K (.ag (St.mk 1 name [x] [] []).cells) H') :
  Qo prog Qij [.c (.ptr gl 0),.ag [.int .i64 x.op,.int .i64 x.n,.str x.name,.sl fl 4 (Qbl x.kids)]] H K:=by
 have hv:=hs.v;refine Qd4 ?_;refine Qb Qap Qa67 ?_;refine Qa ?_;simp only[go_sem,x.cells_eq];intro y hy H1 h1;have kn:=(Kn.start2 hR (R.o_ne k) hG (s.o_ne R) hne).al hy h1;refine Qa ?_;simp only[go_sem];refine Qawd (kn.e 0 rfl) (kn.e 1 rfl) hne hs hk fun name H2 k' g1 g2 hu=>?_;have kn:=kn.callEE 0 1 rfl rfl (by decide) hu (R.o_ne _) (GS.o_ne _ _);have hG2:=kn.e 1 rfl;simp only[go_sem,Qz0];refine Qa ?_;have hL:s.vars.length≤LIM:=by simp only[LIM];omega
 have hL1:s.vars.length+1≤LIM:=by simp only[LIM];omega
 simp only[go_sem,hG2,GS.o,Qat,Qavj,Jf,Jq,hL];refine⟨.inl trivial,Qn7 _,?_⟩;intro z hz H3 h3;have kn:=kn.al hz h3;have hz3:=kn.l 1 rfl;have hG3:=kn.e 1 rfl;simp only[go_sem,Qz2,hz3,hG3,GS.o,Qat,Qbcs,hL1,Jae,Jd];refine⟨by omega,fun z' hz' H4 h4=>?_⟩;have kn:=kn.ap 1 rfl hz' h4;have hG4:=kn.e 1 rfl;simp only[go_sem,Qz1,hG4,GS.o];intro H5 h5;have kn:=kn.stE 1 rfl h5;have hy5:=kn.l 0 rfl;refine Qa ?_;simp only[go_sem,hy5];intro H6 h6;have kn:=kn.stL 0 rfl h6;have hy6:=kn.l 0 rfl;refine Qj ?_;simp only[go_sem,Q4,Qaa,Qais,reduceIte,Ja,forall_eq,RS.op,hy6];refine⟨un H,(.ag (St.mk 1 name [x] [] []).cells),(H6.frz (un H)).set gl (GS.o { s with next:=s.next+1,vars:=s.vars++[name],vfl:=false } R),?_,?_,hK name _ k' g1 g2 (kn.fin.set2 hne)⟩
 ·simp only[St.cells,Qbl,Qa3,x.cells_eq];exact (FrzL.cons (Qg rfl) (.cons (Qg rfl) (.cons (FrzR.cons (.cons (Qg rfl) (.cons (Qg rfl) (.cons (Qg rfl) (.cons (FrzR.same (Qj4 _)).sl .nil)))) .nil).sl (.cons (FrzR.nil).sl (.cons (FrzR.nil).sl .nil))))).ag
 ·refine (Qdb _ _).set (Qbct (kn.usedE 1 rfl)) ?_;rw[kn.e 1 rfl];refine FrzKL.st (.same (.same (.cons rfl ?_ (.same (.same .nil)))));exact Qav0 (kn.un 1 rfl) (kn.l 1 rfl) (by simp[Qbi]) (noOw_mem (Qn7 _))
theorem Qb0 {R : Rdr} {gl k : Nat} {s : GS} {H : Heap} {K : V → Heap → Prop} (deep : Int) (hd : deep ≤ 3) (hR : H R.l = R.o k) (hG : H gl = s.o R) (hne : R.l ≠ gl) (hs : s.ok k) (hF : FnsOk H R gl s) (hk : k + 200 ≤ 2^30)
    (hK : ∀ (x : Ex) (H' : Heap) (k' : Nat), k < k' → k' ≤ k + 200 → Upd H H' [(R.l, R.o k')] → x.ok → k + x.size ≤ k' → K (.ag x.cells) H') :
    Qo prog Qbb [.c (.ptr gl 0), .c (.int .i64 deep)] H K := by
  have hfl := hs.fn;refine Qy ?_;refine Qb Qap Qa0n ?_;refine Qa ?_;simp only [go_sem];intro x4 hx4 H1 h1;have kn := (Kn.start2 hR (R.o_ne k) hG (s.o_ne R) hne).al hx4 h1;have hG1 := kn.e 1 rfl;refine Qao ?_;simp only [go_sem, hG1, GS.o];refine Qawc 3 deep (by omega) (kn.e 0 rfl) (by omega) fun e H2 k2 g1 g2 hu heok hesz => ?_;have kn := kn.callE 0 rfl hu (R.o_ne _);have hG2 := kn.e 1 rfl;simp only [go_sem, Qt4];intro x5 hx5 H3 h3;have kn := kn.al hx5 h3;have hG3 := kn.e 1 rfl;have hx53 := kn.l 1 rfl;simp only [go_sem, Qt3, hG3, hx53, GS.o, e.cells_len, e.cells_eq];intro H4 h4;have kn := kn.stL 1 rfl h4;have hG4 := kn.e 1 rfl;refine Q5 ?_;refine Qa ?_;simp only [go_sem, hG4, GS.o, hF.ow, hF.ok kn, hF.len];intro hl;have fin : ∀ (op n : Int) (name : List UInt8) (c : C) (kids : List Ex) (H3 : Heap) (k3 : Nat) (L : List (Nat × Obj)), k < k3 → k3 ≤ k + 200 → Kn H H3 [(R.l, R.o k3), (gl, s.o R)] L →
      L[0]? = some (x4, .st [.int .i64 op, .int .i64 n, .str name, c]) → c.isOw = false → FrzC H3 (un H) c (.sl false 4 (Qbl kids)) → (Ex.mk op n name kids).ok → k + (Ex.mk op n name kids).size ≤ k3 →
      Qaa Qis [(4, V.c (C.ptr x4 0))] H3 fun x H' => ∃ x', FrzV H' (un H) x x' ∧ K x' (H'.frz (un H)) := by
    intro op n name c kids H3 k3 L g1 g2 kn g3 hno g4 g5 g6;have hx3 := kn.l 0 g3;simp only [go_sem, Qaa, Qis, reduceIte, Ja, forall_eq, RS.op, hx3, hno];refine ⟨(.ag (Ex.mk op n name kids).cells), ?_, hK _ _ k3 g1 g2 (kn.fin.drop2 hG) g5 g6⟩;rw [Ex.cells_eq];exact (FrzL.cons (Qg rfl) (.cons (Qg rfl) (.cons (Qg rfl) (.cons g4 .nil)))).ag
  have rest : ∀ (b : Bool) (H2 : Heap) (k3 : Nat), k2 ≤ k3 → k3 ≤ k2 + 1 → Kn H H2 [(R.l, R.o k3), (gl, s.o R)] [(x4, .st [.int .i64 0, .int .i64 0, .str [], .sl true 4 []]), (x5, .st [.int .i64 e.op, .int .i64 e.n, .str e.name, .sl false 4 (Qbl e.kids)])] →
      (b = false → 0 < s.fns.length) →
      Qaj prog (s_l3Gen_expr_3.seq Qt2) (Q4 Qis fun x H' => ∃ x', FrzV H' (un H) x x' ∧ K x' (H'.frz (un H)))
       [(0, V.c (C.ptr gl 0)), (4, V.c (C.ptr x4 0)), (5, V.c (C.ptr x5 0)), (32, .c (.bool b))] H2 := by
    intro b H2 k3 g3 g4 kn hb;have hx52 := kn.l 1 rfl;have hx42 := kn.l 0 rfl;refine Qh (Qd rfl ?_ ?_)
    · intro hb';refine Qa ?_;simp only [go_sem, hx52, hx42];intro H3 h3;have kn := kn.stL 0 rfl h3;refine Qj ?_;simp only [go_sem, Q4]
      cases e with
      | mk op n name kids => exact fin op n name _ kids H3 k3 _ (by omega) (by omega) kn rfl rfl (Qavz (noOw_mem (Qj4 _))) heok (by omega)
    · intro hb';have hfn := hb hb';refine Qf ?_;simp only [go_sem];have hG3 := kn.e 1 rfl;refine Qao ?_;simp only [go_sem, hG3, GS.o, hF.ow, hF.ok kn, hF.len];refine Qbc (kn.e 0 rfl) (by omega) fun v H3 hv hu => ?_;have kn := kn.callE 0 rfl hu (R.o_ne _);rw [if_neg (by omega)] at hv;obtain ⟨i, rfl⟩ := Jn hv.1;have hi : i < s.fns.length := (by omega);have hG4 := kn.e 1 rfl;simp only [go_sem, Qt6, hG4, GS.o, hF.ow, hF.ok kn, hF.len, hF.rows kn, hF.esz, hi, Qg7 _ _ hi, Fn.cells];intro x6 hx6 H4 h4;have kn := kn.al hx6 h4;have hG5 := kn.e 1 rfl;have hx64 := kn.l 2 rfl;simp only [go_sem, Qt5, hG5, hx64, GS.o, hF.ow, hF.ok kn, hF.len, hF.rows kn, hF.esz, hi, Qg7 _ _ hi, Fn.cells];have hpar := hs.f _ (Jc hi);generalize s.fns[i] = f at *;intro H5 h5;have kn := kn.stL 2 rfl h5;have hx65 := kn.l 2 rfl;refine Qa ?_;simp only [go_sem, hx65];intro x7 hx7 H6 h6;have kn := kn.al hx7 h6;have hx67 := kn.l 2 rfl;have hx77 := kn.l 3 rfl;simp only [go_sem, Qt7, hx67, hx77];intro H7 h7;have kn := kn.stL 3 rfl h7;refine Q5 ?_;refine Qa ?_;simp only [go_sem];refine Qh (Qc (Qu (fun n e1 H1 => ∃ (i k4 : Nat) (kids : List Ex) (c : C) (Lg : List (Nat × Obj)), n = f.params.length - i ∧ i ≤ f.params.length ∧ k4 ≤ k3 + 1 + 21 * i ∧ k3 + 1 + Qaf kids ≤ k4 ∧ Qd7 kids ∧ kids.length = i ∧
        Gr Lg 4 (Qbl kids) c ∧ Kn H H1 [(R.l, R.o k4), (gl, s.o R)] ([(x4, .st [.int .i64 0, .int .i64 0, .str [], .sl true 4 []]), (x5, .st [.int .i64 e.op, .int .i64 e.n, .str e.name, .sl false 4 (Qbl e.kids)]),
          (x6, .st [.str f.name, .sl false 1 (Qbi f.params), .sl false 5 (Qa3 f.body)]), (x7, .st [.int .i64 13, .int .i64 0, .str f.name, c])] ++ Lg) ∧
        e1 = [(0, V.c (C.ptr gl 0)), (4, V.c (C.ptr x4 0)), (6, V.c (C.ptr x6 0)), (7, V.c (C.ptr x7 0)), (8, V.c (C.int IntKind.i64 i))]) f.params.length ?_ ?_))
      · exact ⟨0, k3 + 1, [], _, [], by omega, by omega, by omega, by simp [Qaf], trivial, rfl, .nil 4, kn, rfl⟩
      · rintro n e1 H1 ⟨i, k4, kids, c, Lg, hn, hi1, hk4, hksz, hkok, hkl, hgr, kn, rfl⟩;have hx61 := kn.l 2 rfl;have hx71 := kn.l 3 rfl;have hG1 := kn.e 1 rfl;refine Q5 ?_;refine Qa ?_;simp only [go_sem, hx61, Qat];intro hpl;refine Qh (Qd rfl ?_ ?_)
        · intro hc;have hlt : i < f.params.length := (by simpa using hc);refine Qf ?_;simp only [go_sem];refine Qh (Qc (Qbw ?_));have hcow := hgr.isOw;simp only [go_sem, hx71, hG1, GS.o, hcow];refine Qawc 2 2 (by omega) (kn.e 0 rfl) (by omega) fun z H2 k5 g5 g6 hu hok hsz => ?_;have kn := kn.callE 0 rfl hu (R.o_ne _);have hx72 := kn.l 3 rfl;simp only [go_sem, Qt9, hx72, hcow, z.cells_len];refine kn.grow (new := [z.cells]) hgr (.mk' _ _ _ _) (by simp [z.noOw]) (by simp only [Qa5, Jl, Jo, LIM]; omega) fun y' H3 kn => ?_;have hx73 := kn.l 3 rfl;simp only [go_sem, Qt8, hx73];intro H4 h4;have kn := kn.stL 3 rfl h4;refine Qr ?_;simp only [go_sem];refine ⟨Qp (by omega) (by omega), ?_⟩;refine ⟨f.params.length - (i + 1), by omega, i + 1, k5, kids ++ [z], _, _, rfl, by omega, by omega, ?_, Qbiw hkok ⟨hok, trivial⟩, by simp [hkl], ?_, kn, ?_⟩
          · simp only [Q0h, Qaf]; omega
          · rw [← Qbeq]; exact .mk _ _ _ (by simp)
          · simp
        · intro hc;have hge : f.params.length ≤ i := (by simpa using hc);refine Qv ?_;simp only [go_sem, X.next];refine Q5 ?_;refine Qa ?_;simp only [go_sem, hG1, GS.o];refine Qbc (kn.e 0 rfl) (by omega) fun v H2 hv hu => ?_;have kn := kn.callE 0 rfl hu (R.o_ne _);have hx72 := kn.l 3 rfl;have hx42 := kn.l 0 rfl;have hcow := hgr.isOw;have hG2 := kn.e 1 rfl;simp only [go_sem, Qou];refine Qh (Qd rfl ?_ ?_)
          · intro hc;refine Qa ?_;simp only [go_sem, hx72, hx42, hcow];intro H3 h3;have kn := kn.stL 0 rfl h3;refine Qj ?_;simp only [go_sem, Q4];refine fin 13 0 f.name c kids H3 (k4 + 1) _ (by omega) (by omega) kn rfl hcow (hgr.frz (B := [_, _, _, _]) kn (Qj4 _)) ?_ ?_
            · simp only [Ex.ok]; exact ⟨fun h => by simp at h, hkok⟩
            · simp only [Ex.size]; omega
          · intro hc;refine Qf ?_;simp only [go_sem];refine Qao ?_;simp only [go_sem, hx72, hG2, hcow, GS.o];refine Qkg (ns := [3, 4, 8, 10]) (kn.e 0 rfl) (by omega) (by simp) fun op H3 hop hu => ?_;have kn := kn.callE 0 rfl hu (R.o_ne _);have hx73 := kn.l 3 rfl;have hG3 := kn.e 1 rfl;simp only [go_sem, Qow, hx73, hG3, hcow, GS.o];refine Qawc 2 2 (by omega) (kn.e 0 rfl) (by omega) fun z H4 k5 g5 g6 hu hok hsz => ?_;have kn := kn.callE 0 rfl hu (R.o_ne _);have hx74 := kn.l 3 rfl;have hx44 := kn.l 0 rfl;simp only [go_sem, Qov, hx74, hx44, hcow, z.cells_len];intro H5 h5;have kn := kn.stL 0 rfl h5;refine Qj ?_;simp only [go_sem, Q4];refine fin op 0 [] _ [Ex.mk 13 0 f.name kids, z] H5 k5 _ (by omega) (by omega) kn rfl rfl ?_ ?_ ?_
            · refine FrzR.sl (.cons ?_ (.cons (.same z.noOw) .nil));rw [Ex.cells_eq];exact .cons (Qg rfl) (.cons (Qg rfl) (.cons (Qg rfl) (.cons (hgr.frz (B := [_, _, _, _]) kn (Qj4 _)) .nil)))
            · simp only [Ex.ok, Qd7]; exact ⟨fun h => rfl, ⟨fun h => by simp at h, hkok⟩, hok, trivial⟩
            · simp only [Ex.size, Qaf]; omega
  refine ⟨fun hb => ?_, fun hb => ?_⟩
  · refine Qbc (kn.e 0 rfl) (by omega) fun v H5 hv hu => ?_;have kn := kn.callE 0 rfl hu (R.o_ne _);simp only [go_sem, Qh5];refine rest _ H5 (k2 + 1) (by omega) (by omega) kn ?_;intro h;have : ¬ s.fns.length = 0 := (by simpa using hb);omega
  · have hb2 : decide ((s.fns.length : Int) = 0) = true := (by simpa using hb);simp only [go_sem, Qh5, hb2];exact rest true H4 k2 (by omega) (by omega) kn (fun h => by simp at h)
theorem Qaaa {R:Rdr}{gl k:Nat}{s:GS}{H:Heap}{K:V→Heap→Prop}(hR:H R.l=R.o k)(hG:H gl=s.o R)(hne:R.l≠gl)(hs:s.ok k)(hF:FnsOk H R gl s)(hk:k+201≤2^30)
  (hK:∀(x:Ex) (H':Heap) (k':Nat),k<k'→k'≤k+201→Upd H H' [(R.l,R.o k')]→x.ok→2 * k+x.size≤2 * k'→K (.ag x.cells) H') :
  Qo prog Qgr [.c (.ptr gl 0)] H K:=by
 refine Qy ?_;refine Qb Qap Qa0m ?_;refine Qa ?_;simp only[go_sem];intro x2 hx2 H1 h1;have kn:=(Kn.start2 hR (R.o_ne k) hG (s.o_ne R) hne).al hx2 h1;have hG1:=kn.e 1 rfl;refine Qao ?_;simp only[go_sem,hG1,GS.o];refine Qb0 2 (by omega) (kn.e 0 rfl) (kn.e 1 rfl) hne hs (hF.keep kn rfl rfl) (by omega) fun e H2 k2 g1 g2 hu heok hesz=>?_;have kn:=kn.callE 0 rfl hu (R.o_ne _);have hG2:=kn.e 1 rfl;simp only[go_sem,Qt1,hG2,GS.o];refine Qkg (ns:=[16,16,16,8,17,0]) (kn.e 0 rfl) (by omega) (by simp) fun v H3 hv hu=>?_;have kn:=kn.callE 0 rfl hu (R.o_ne _);have hx23:=kn.l 0 rfl;simp only[go_sem,Qt0,hx23,e.cells_len];intro H4 h4;have kn:=kn.stL 0 rfl h4;have hx24:=kn.l 0 rfl;refine Qj ?_;simp only[go_sem,Q4,Qaa,Qaaf,reduceIte,Ja,forall_eq,RS.op,hx24];refine⟨(.ag (Ex.mk 7 0 [] [e,Ex.mk 1 v [] []]).cells),?_,hK _ _ (k2+1) (by omega) (by omega) (kn.fin.drop2 hG) ?_ ?_⟩
 ·rw[Ex.cells_eq (Ex.mk 7 0 [] _)];refine FrzL.ag ?_;refine .cons (Qg rfl) (.cons (Qg rfl) (.cons (Qg rfl) (.cons (FrzR.sl (.cons (.same e.noOw) (.cons ?_ .nil))) .nil)));simp only[Ex.cells,Qbl];exact .cons (Qg rfl) (.cons (Qg rfl) (.cons (Qg rfl) (.cons (FrzR.nil).sl .nil)))
 ·simp only[Ex.ok,Qd7];exact⟨fun h=>rfl,heok,⟨fun h=>by simp at h,trivial⟩,trivial⟩
 ·simp only[Ex.size,Qaf];omega
def Qbqx (d:Nat):Prop:=∀(R:Rdr) (gl k:Nat) (s:GS) (H:Heap) (K:V→Heap→Prop) (deep:Int),deep≤d→H R.l=R.o k→H gl=s.o R→R.l≠gl→s.ok k→FnsOk H R gl s→k+500 * 10^d≤2^30→
  (∀(l:List St) (s':GS) (H':Heap) (k':Nat),k<k'→k'≤k+500 * 10^d→Upd H H' [(R.l,R.o k'),(gl,s'.o R)]→s'.ok k'→s.left+4 * (k:Int)≤s'.left+4 * (k':Int)→s'.fns=s.fns→s'.ffl=s.ffl→l.length≤2→Qcs l→4 * k+Q0 l≤4 * k'→K (.c (.sl false 5 (Qa3 l))) H')→
  Qo prog Qml [.c (.ptr gl 0),.c (.int .i64 deep)] H K
def Qag8 (d:Nat):Prop:=∀(R:Rdr) (gl k:Nat) (s:GS) (H:Heap) (K:V→Heap→Prop) (deep:Int),deep≤d→H R.l=R.o k→H gl=s.o R→R.l≠gl→s.ok k→FnsOk H R gl s→k+2001 * 10^d≤2^30→
  (∀(l:List St) (c:C) (Lg:List (Nat×Obj)) (s':GS) (H':Heap) (k':Nat),k<k'→k'≤k+2001 * 10^d→Upd H H' [(R.l,R.o k'),(gl,s'.o R)]→Gr Lg 5 (Qa3 l) c→New H H' Lg→s'.ok k'→s.left+4 * (k:Int)≤s'.left+4 * (k':Int)→s'.fns=s.fns→s'.ffl=s.ffl→
   l.length≤8→Qcs l→4 * k+Q0 l≤4 * k'→K (.c c) H')→
  Qo prog Qb8 [.c (.ptr gl 0),.c (.int .i64 deep)] H K
theorem Qbc1 {d:Nat}(hS:Qbqx d):Qag8 d:=by
 intro R gl k s H K deep hd hR hG hne hs hF hk hK;have hp0:d<10^d:=Jy (by omega);generalize hpe:10^d=e at *;have hS':=hS;simp only[Qbqx]at hS';rw[hpe]at hS';generalize hM:500 * e=M at *;refine Qd4 ?_;refine Qb Qap Qaws ?_;refine Qa ?_;simp only[go_sem];refine Qa ?_;simp only[go_sem,hG,GS.o];refine Qa ?_;simp only[go_sem];refine Q5 ?_;refine Qa ?_;simp only[go_sem,hG,GS.o];have kn:=Kn.start2 hR (R.o_ne k) hG (s.o_ne R) hne;refine Qkg (ns:=[2,3,1,4]) hR (by omega) (by simp) fun v H1 hv hu=>?_;have kn:=kn.callE 0 rfl hu (R.o_ne _);simp only[go_sem,Qor];have hv4:1≤v∧v≤4:=by simp at hv;omega
 refine Qh (Qc (Qu (fun n e1 H1=>∃(j k4:Nat) (l:List St) (c:C) (Lg:List (Nat×Obj)) (s':GS),n=v.toNat-j∧(j:Int)≤v∧k+1≤k4∧k4≤k+1+M * j∧4 * k+Q0 l≤4 * k4∧Qcs l∧l.length≤2 * j∧
    Gr Lg 5 (Qa3 l) c∧s'.ok k4∧s.left+4 * (k:Int)≤s'.left+4 * (k4:Int)∧s'.fns=s.fns∧s'.ffl=s.ffl∧Kn H H1 [(R.l,R.o k4),(gl,s'.o R)] ([]++Lg)∧
    e1=[(0,V.c (C.ptr gl 0)),(1,.c (.int .i64 deep)),(5,.c (.sl s.vfl 1 (Qbi s.vars))),(6,.c c),(7,V.c (C.int IntKind.i64 (v-j)))]) v.toNat ?_ ?_))
 ·exact⟨0,k+1,[],_,[],s,by omega,by omega,by omega,by omega,by simp only[Q0];omega,trivial,by simp,.nil 5,hs.mono (by omega),by omega,rfl,rfl,kn,by simp⟩
 ·rintro n e1 H1 ⟨j,k4,l,c,Lg,s',hn,hj,hk4,hk4',hsz,hok,hll,hgr,hs',hlf,hf1,hf2,kn,rfl⟩;have hG1:=kn.e 1 rfl;have hMj:M * j≤M * 4:=Jz _ (by omega);refine Q5 ?_;refine Qa ?_;simp only[go_sem,hG1,GS.o];refine Qh (Qd rfl ?_ ?_)
  ·intro hc;have hi:(j:Int)<v:=by
    cases h:decide (0<v-(j:Int))with
    |true=>have:0<v-(j:Int):=by simpa using h
           omega
    |false=>rw[h]at hc;simp at hc
   have hM1:M * (j+1)=M * j+M:=Jam _ _;have hM2:M * (j+1)≤M * 4:=Jz _ (by omega);refine Qf ?_;simp only[go_sem];refine Qh (Qc (Qr ?_));simp only[go_sem];refine hS' _ _ _ _ _ _ deep hd (kn.e 0 rfl) (kn.e 1 rfl) hne hs' (hF.keep kn hf1 hf2) (by omega) fun l2 s2 H2 k5 g1 g2 hu g3 glf g4 g5 g6 g7 g8=>?_;have kn:=kn.callEE 0 1 rfl rfl (by decide) hu (R.o_ne _) (GS.o_ne _ _);simp only[go_sem,Qot];refine kn.grow hgr (.mk' _ _ _ (Qa3 l2)) (Qg9 _) (by simp only[Qba,LIM];omega) fun y' H3 kn=>?_;simp only[go_sem,Qos];refine Qr ?_;simp only[go_sem];refine⟨Qp (by omega) (by omega),?_⟩;simp only[X.next];refine⟨v.toNat-(j+1),by omega,j+1,k5,l++l2,.vsl y' 5 0 ((Qa3 l).length+(Qa3 l2).length),_,s2,rfl,by omega,by omega,by omega,?_,Qapn hok g7,by simp;omega,?_,g3,by omega,g4.trans hf1,g5.trans hf2,kn,?_⟩
   ·rw[Qic];omega
   ·rw[Qapm];exact .mk _ _ _ (by simp[Qba])
   ·have:v-((j+1:Nat):Int)=v-j-1:=(by omega);rw[this]
  ·intro hc;refine Qv ?_;simp only[go_sem,X.next];refine Qa ?_;simp only[go_sem,hG1,GS.o];intro H2 h2;have kn:Kn H H2 [(R.l,R.o k4),(gl,GS.o { s' with vars:=s.vars,vfl:=s.vfl } R)] ([]++Lg):=kn.stE 1 rfl h2;refine Qa ?_;simp only[go_sem];refine Qj ?_;simp only[go_sem,Q4,Qaa,Q3b,reduceIte,Ja,forall_eq,RS.op];refine⟨unx H Lg,_,H2.frz (unx H Lg),.c _ _ (.same _ hgr.isOw),Qdb _ _,?_⟩;refine hK l c Lg _ _ k4 (by omega) (by omega) kn.finx.1 hgr kn.finx.2 ⟨hs'.n0,hs'.n1,hs'.l0,hs'.l1,?_,hs'.f,hs'.fn⟩ (by show _≤s'.left+_;omega) hf1 hf2 (by omega) hok hsz;have:=hs.v;show s.vars.length≤_;omega
def Qbqv (d:Nat):Prop:=∀(R:Rdr) (gl k:Nat) (s:GS) (H:Heap) (K:V→Heap→Prop) (deep:Int),deep≤d+1→2≤deep→H R.l=R.o k→H gl=s.o R→R.l≠gl→s.ok k→FnsOk H R gl s→k+2001 * 10^d+10≤2^30→
  (∀(l:List St) (s':GS) (H':Heap) (k':Nat),k+2<k'→k'≤k+2001 * 10^d+3→Upd H H' [(R.l,R.o k'),(gl,s'.o R)]→s'.ok k'→s.left+4 * (k:Int)≤s'.left+4 * (k':Int)→s'.fns=s.fns→s'.ffl=s.ffl→l.length≤2→Qcs l→4 * k+Q0 l≤4 * k'→K (.c (.sl false 5 (Qa3 l))) H')→
  Qo prog Qmk [.c (.ptr gl 0),.c (.int .i64 deep)] H K
theorem Qbr7 {d:Nat}(hB:Qag8 d):Qbqv d:=by
 intro R gl k s H K deep hd hd2 hR hG hne hs hF hk hK;have hp0:d<10^d:=Jy (by omega);have hB':=hB;simp only[Qag8]at hB';generalize hpe:10^d=e at *;refine Qy ?_;refine Qb Qap Qa0o ?_;refine Qa ?_;simp only[go_sem];refine Qa ?_;simp only[go_sem,hG,GS.o];have kn:=Kn.start2 hR (R.o_ne k) hG (s.o_ne R) hne;refine Qkg (ns:=[2,3,1,0,5]) hR (by omega) (by simp) fun v H1 hv hu=>?_;have kn:=kn.callE 0 rfl hu (R.o_ne _);simp only[go_sem,Qud];refine Qah2 (x:=Ex.mk 1 v [] []) (fl:=true) (kn.e 0 rfl) (kn.e 1 rfl) hne (hs.mono (Jai k)) (by omega) fun name H2 k2 g1 g2 hu=>?_;have kn:=kn.callEE 0 1 rfl rfl (by decide) hu (R.o_ne _) (GS.o_ne _ _);simp only[go_sem,Quc];intro x5 hx5 H3 h3;have kn:=kn.al hx5 h3;have hx53:=kn.l 0 rfl;simp only[go_sem,Qub,hx53,St.cells_len,St.cells];intro H4 h4;have kn:=kn.stL 0 rfl h4;have hx54:=kn.l 0 rfl;refine Qa ?_;simp only[go_sem,hx54];intro x6 hx6 H5 h5;have kn:=kn.al hx6 h5;have hx65:=kn.l 1 rfl;simp only[go_sem,Que,hx65];intro H6 h6;have kn:=kn.stL 1 rfl h6;refine Qa ?_;simp only[go_sem];refine⟨Qp (by omega) (by omega),?_⟩;have hs2:GS.ok { s with next:=s.next+1,vars:=s.vars++[name],vfl:=false } k2:=by
  refine⟨?_,?_,?_,hs.l1,?_,hs.f,hs.fn⟩
  ·have:=hs.n0;show -1≤s.next+1;omega
  ·have:=hs.n1;show s.next+1≤_;omega
  ·have:=hs.l0;show _≤s.left;omega
  ·have:=hs.v;show (s.vars++[name]).length≤_;simp;omega
 refine hB' _ _ _ _ _ _ (deep-1) (by omega) (kn.e 0 rfl) (kn.e 1 rfl) hne hs2 (hF.keep kn rfl rfl) (by omega) fun l c Lg s3 H7 k3 g3 g4 hu hgr hnew hs3 glf g5 g6 g7 g8 g9=>?_;have kn0:=kn;have kn:=kn.callEE 0 1 rfl rfl (by decide) hu (R.o_ne _) (GS.o_ne _ _);have kn:=kn0.addGr kn rfl rfl hgr hnew;have hx57:=kn.l 0 rfl;have hx67:=kn.l 1 rfl;simp only[go_sem,Quf];refine Qa ?_;simp only[go_sem,hx57,hx67];intro x8 hx8 H8 h8;have kn:=kn.al hx8 h8;have kn:=kn.perm (L':=[(x5,_),(x6,_),(x8,_)]++Lg) (by
  simp only[List.set,Jq,Jr,Jj];refine .cons _ (.cons _ ?_);exact Ji)
 have hx88:=kn.l 2 rfl;simp only[go_sem,Qug,hx88];intro H9 h9;have kn:=kn.stL 2 rfl h9;have hG9:=kn.e 1 rfl;refine Qa ?_;simp only[go_sem,hG9,GS.o];have hl0:=hs3.l0;have hl1:=hs3.l1;refine⟨Qp (by omega) (by omega),fun H10 h10=>?_⟩;have kn:Kn H H10 [(R.l,R.o k3),(gl,GS.o { s3 with left:=s3.left-2 } R)] ([(x5,_),(x6,_),(x8,_)]++Lg):=kn.stE 1 rfl h10;have hx5a:=kn.l 0 rfl;have hx6a:=kn.l 1 rfl;have hx8a:=kn.l 2 rfl;refine Qao ?_;simp only[go_sem,hx5a,hx6a,hx8a];refine kn.grow hgr (.mk' _ _ _ _) (by intro r hr;simp only[Ja]at hr;subst hr;rfl) (by simp only[Qba,LIM,Jl,Jo];omega) fun y' H11 kn=>?_;have hx5b:=kn.l 0 rfl;have hx6b:=kn.l 1 rfl;have hyb:=kn.l 3 rfl;simp only[go_sem,Quh,hx5b,hx6b];refine Qj ?_;simp only[go_sem,Q4,Qaa,Qaag,reduceIte,Ja,forall_eq,RS.op];have hok1:GS.ok { s3 with left:=s3.left-2 } k3:=⟨hs3.n0,hs3.n1,by show _≤s3.left-2;have:=hs.l0;simp only at glf;omega,by show s3.left-2≤100;omega,hs3.v,hs3.f,hs3.fn⟩;refine⟨.c (.sl false 5 (Qa3 [St.mk 1 name [Ex.mk 1 v [] []] [] [],St.mk 6 [] [Ex.mk 2 0 name []] (l++[St.mk 2 name [Ex.mk 4 0 [] [Ex.mk 2 0 name [],Ex.mk 1 1 [] []]] [] []]) []])),.c _ _ ?_,hK _ _ _ k3 (by omega) (by omega) kn.fin hok1 (by show _≤s3.left-2+_;simp only at glf;omega) g5 g6 (by simp) ?_ ?_⟩
 ·simp only[Qa3,St.cells,Qbl,Ex.cells,←Qapm]
  repeat' first|exact FrzL.nil|exact FrzR.nil|exact Qg rfl|exact FrzL.same (Ex.noOw _)|exact FrzL.same (St.noOw _)|refine FrzL.cons ?_ ?_|refine FrzR.cons ?_ ?_|refine FrzR.sl ?_
  refine FrzR.vsl (kn.un 3 rfl) hyb (by simp) (.app (.same (Qg9 _)) ?_)
  repeat' first|exact FrzL.nil|exact FrzR.nil|exact Qg rfl|exact FrzL.same (Ex.noOw _)|exact FrzL.same (St.noOw _)|refine FrzL.cons ?_ ?_|refine FrzR.cons ?_ ?_|refine FrzR.sl ?_
 ·simp only[Qcs,St.ok,Qd7,Ex.ok];refine⟨⟨by simp,⟨⟨fun h=>by simp at h,trivial⟩,trivial⟩,trivial,trivial⟩,⟨by simp,⟨⟨fun h=>by simp at h,trivial⟩,trivial⟩,Qapn g8 ?_,trivial⟩,trivial⟩;simp[Qcs,St.ok,Qd7,Ex.ok]
 ·simp only[Q0,St.size,Qic,Qaf,Ex.size];omega
theorem Qbue {A L1 L2:List (Nat×Obj)}:(A++L1++L2).Perm (A++L2++L1):=by
 rw[Jj,Jj];exact .append_left _ Ji
set_option maxHeartbeats 2000000 in
theorem Qbmu {d : Nat} (hB : ∀ d', d = d' + 1 → Qag8 d') : Qbqx d := by
  intro R gl k s H K deep hd hR hG hne hs hF hk hK;have hp0 : d < 10^d := Jy (by omega);have hex : ∃ e, 10^d = e ∧ ∀ d', d = d' + 1 → 10 * 10^d' = e := ⟨10^d, rfl, fun d' h => by rw [h, Nat.pow_succ]; omega⟩;obtain ⟨e, hpe, he'⟩ := hex;rw [hpe] at hp0 hk hK;have hl0 := hs.l0;have hl1 := hs.l1;refine Qy ?_;refine Qb Qap Qa0p ?_;refine Qa ?_;simp only [go_sem];refine Qa ?_;simp only [go_sem, hG, GS.o];refine ⟨Qp (by omega) (by omega), fun H1 h1 => ?_⟩;have kn : Kn H H1 [(R.l, R.o k), (gl, GS.o { s with left := s.left - 1 } R)] [] := (Kn.start2 hR (R.o_ne k) hG (s.o_ne R) hne).stE 1 rfl h1;have hs1 : GS.ok { s with left := s.left - 1 } (k + 1) := ⟨hs.n0, by have := hs.n1; show s.next ≤ _; omega, by show _ ≤ s.left - 1; omega, by show s.left - 1 ≤ 100; omega, by have := hs.v; show s.vars.length ≤ _; omega, hs.f, hs.fn⟩;have hlr : s.left ≤ ({ s with left := s.left - 1 } : GS).left + 1 := by show s.left ≤ s.left - 1 + 1; omega
  have hfn : ({ s with left := s.left - 1 } : GS).fns = s.fns := rfl;have hff : ({ s with left := s.left - 1 } : GS).ffl = s.ffl := rfl;have hF1 : FnsOk H R gl { s with left := s.left - 1 } := ⟨hF.1, hF.2⟩;generalize ({ s with left := s.left - 1 } : GS) = s1 at *;have hG1 := kn.e 1 rfl;refine Qa ?_;simp only [go_sem, hG1, GS.o];refine Qbc (kn.e 0 rfl) (by omega) fun v H2 hv hu => ?_;have kn : Kn H H2 [(R.l, R.o (k + 1)), (gl, s1.o R)] [] := kn.callE 0 rfl hu (R.o_ne _);have hG2 := kn.e 1 rfl;simp only [go_sem, Quk];have fin : ∀ (l : List St) (c : C) (s' : GS) (H3 : Heap) (k3 : Nat) (L : List (Nat × Obj)), k < k3 → k3 ≤ k + 500 * e → Kn H H3 [(R.l, R.o k3), (gl, s'.o R)] L → FrzC H3 (un H) c (.sl false 5 (Qa3 l)) →
      s'.ok k3 → s1.left + 4 * ((k + 1 : Nat) : Int) ≤ s'.left + 4 * (k3 : Int) → s'.fns = s1.fns → s'.ffl = s1.ffl → l.length ≤ 2 → Qcs l → 4 * k + Q0 l ≤ 4 * k3 → ∃ x', FrzV H3 (un H) (.c c) x' ∧ K x' (H3.frz (un H)) := by
    intro l c s' H3 k3 L g1 g2 kn g3 g4 g5 g6 g7 g8 g9 g10;exact ⟨_, .c _ _ g3, hK l s' _ k3 g1 g2 kn.fin g4 (by omega) (g6.trans hfn) (g7.trans hff) g8 g9 g10⟩
  refine Qh (Qc ?_);refine Qa ?_;simp only [go_sem, hG2, GS.o, Qat];intro hvl;refine Qd rfl ?_ ?_
  ·
    intro hc;have hv0 : 0 < s1.vars.length := by
      cases h : decide (v < 3) with
      | true => rw [h] at hc; simp at hc; omega
      | false => rw [h] at hc; simp at hc
    refine Qao ?_;simp only [go_sem, hG2, GS.o];refine of_c (kn.e 0 rfl) (by omega) hv0 fun name H3 hn hu => ?_;have kn := kn.callE 0 rfl hu (R.o_ne _);simp only [go_sem, Qum];refine Qb0 3 (by omega) (kn.e 0 rfl) (kn.e 1 rfl) hne (hs1.mono (by omega)) (hF1.keep kn rfl rfl) (by omega) fun x H4 k4 g1 g2 hu g3 g4 => ?_;have kn := kn.callE 0 rfl hu (R.o_ne _);simp only [go_sem, Qul, x.cells_len];refine Qj ?_;simp only [go_sem, Q4, Qaa, Qbd, reduceIte, Ja, forall_eq, RS.op];refine fin [St.mk 2 name [x] [] []] _ s1 H4 k4 _ (by omega) (by omega) kn ?_ (hs1.mono (by omega)) (by omega) rfl rfl (by simp) ?_ ?_
    · simp only [Qa3, St.cells, Qbl]
      repeat' first | exact FrzL.nil | exact FrzR.nil | exact Qg rfl | exact FrzL.same (Ex.noOw _) | exact FrzL.same (St.noOw _) | refine FrzL.cons ?_ ?_ | refine FrzR.cons ?_ ?_ | refine FrzR.sl ?_
    · simp only [Qcs, St.ok, Qd7]; exact ⟨⟨by simp, ⟨g3, trivial⟩, trivial, trivial⟩, trivial⟩
    · simp only [Q0, St.size, Qaf]; omega
  intro hc0;refine Qa ?_;simp only [go_sem];refine Qd rfl ?_ ?_
  ·
    intro hc;refine Qa ?_;simp only [go_sem];refine Qb0 3 (by omega) (kn.e 0 rfl) (kn.e 1 rfl) hne (hs1.mono (by omega)) (hF1.keep kn rfl rfl) (by omega) fun x H4 k4 g1 g2 hu g3 g4 => ?_;have kn := kn.callE 0 rfl hu (R.o_ne _);simp only [go_sem, Quo, x.cells_eq];refine Qah2 (x := x) (kn.e 0 rfl) (kn.e 1 rfl) hne (hs1.mono (by omega)) (by omega) fun name H5 k5 g5 g6 hu => ?_;have kn := kn.callEE 0 1 rfl rfl (by decide) hu (R.o_ne _) (GS.o_ne _ _);simp only [go_sem, Qun, St.cells_len];refine Qj ?_;simp only [go_sem, Q4, Qaa, Qbd, reduceIte, Ja, forall_eq, RS.op];have h0 := hs1.n0;have h1 := hs1.n1;have h2 := hs1.l0;have h3 := hs1.v;refine fin [St.mk 1 name [x] [] []] _ _ H5 k5 _ (by omega) (by omega) kn ?_ ⟨?_, ?_, ?_, hs1.l1, ?_, hs1.f, hs1.fn⟩ (by show _ ≤ s1.left + _; omega) rfl rfl (by simp) ?_ ?_
    · simp only [Qa3]
      repeat' first | exact FrzL.nil | exact FrzR.nil | exact Qg rfl | exact FrzL.same (Ex.noOw _) | exact FrzL.same (St.noOw _) | refine FrzL.cons ?_ ?_ | refine FrzR.cons ?_ ?_ | refine FrzR.sl ?_
    · show -1 ≤ s1.next + 1; omega
    · show s1.next + 1 ≤ _; omega
    · show _ ≤ s1.left; omega
    · show (s1.vars ++ [name]).length ≤ _; simp; omega
    · simp only [Qcs, St.ok, Qd7]; exact ⟨⟨by simp, ⟨g3, trivial⟩, trivial, trivial⟩, trivial⟩
    · simp only [Q0, St.size, Qaf]; omega
  intro hc1;refine Qa ?_;simp only [go_sem];refine Qd rfl ?_ ?_
  ·
    intro hc;refine Qa ?_;simp only [go_sem];refine Qb0 3 (by omega) (kn.e 0 rfl) (kn.e 1 rfl) hne (hs1.mono (by omega)) (hF1.keep kn rfl rfl) (by omega) fun x H4 k4 g1 g2 hu g3 g4 => ?_;have kn := kn.callE 0 rfl hu (R.o_ne _);simp only [go_sem, Qup, x.cells_len];refine Qj ?_;simp only [go_sem, Q4, Qaa, Qbd, reduceIte, Ja, forall_eq, RS.op];refine fin [St.mk 3 [] [x] [] []] _ s1 H4 k4 _ (by omega) (by omega) kn ?_ (hs1.mono (by omega)) (by omega) rfl rfl (by simp) ?_ ?_
    · simp only [Qa3, St.cells, Qbl]
      repeat' first | exact FrzL.nil | exact FrzR.nil | exact Qg rfl | exact FrzL.same (Ex.noOw _) | exact FrzL.same (St.noOw _) | refine FrzL.cons ?_ ?_ | refine FrzR.cons ?_ ?_ | refine FrzR.sl ?_
    · simp only [Qcs, St.ok, Qd7]; exact ⟨⟨by simp, ⟨g3, trivial⟩, trivial, trivial⟩, trivial⟩
    · simp only [Q0, St.size, Qaf]; omega
  intro hc2;have hdp : 2 ≤ deep := by
    cases h : decide (v < 7) with
    | true => rw [h] at hc2; simp at hc2
    | false => rw [h] at hc2; simp at hc2; omega
  obtain ⟨d', hdd⟩ : ∃ d', d = d' + 1 := ⟨d - 1, by omega⟩;have hB0 : Qag8 d' := hB d' hdd;have hL0 : Qbqv d' := Qbr7 hB0;have hB' := hB0;have hL' := hL0;simp only [Qag8, Qbqv] at hB' hL';have he1 := he' d' hdd;have hp1 : d' < 10^d' := Jy (by omega);generalize 10^d' = e1 at *;refine Qa ?_;simp only [go_sem];refine Qd rfl ?_ ?_
  ·
    intro hc;refine Qa ?_;simp only [go_sem];refine Qaaa (kn.e 0 rfl) (kn.e 1 rfl) hne (hs1.mono (by omega)) (hF1.keep kn rfl rfl) (by omega) fun x H4 k4 g1 g2 hu g3 g4 => ?_;have kn := kn.callE 0 rfl hu (R.o_ne _);simp only [go_sem, Qur, x.cells_len];refine Qb0 2 (by omega) (kn.e 0 rfl) (kn.e 1 rfl) hne (hs1.mono (by omega)) (hF1.keep kn rfl rfl) (by omega) fun y H5 k5 g5 g6 hu g7 g8 => ?_;have kn := kn.callE 0 rfl hu (R.o_ne _);simp only [go_sem, Quq, x.cells_len, y.cells_len];refine Qj ?_;simp only [go_sem, Q4, Qaa, Qbd, reduceIte, Ja, forall_eq, RS.op];refine fin [St.mk 4 [] [x, y] [] []] _ s1 H5 k5 _ (by omega) (by omega) kn ?_ (hs1.mono (by omega)) (by omega) rfl rfl (by simp) ?_ ?_
    · simp only [Qa3, St.cells, Qbl]
      repeat' first | exact FrzL.nil | exact FrzR.nil | exact Qg rfl | exact FrzL.same (Ex.noOw _) | exact FrzL.same (St.noOw _) | refine FrzL.cons ?_ ?_ | refine FrzR.cons ?_ ?_ | refine FrzR.sl ?_
    · simp only [Qcs, St.ok, Qd7]; exact ⟨⟨by simp, ⟨g3, g7, trivial⟩, trivial, trivial⟩, trivial⟩
    · simp only [Q0, St.size, Qaf]; omega
  intro hc3;refine Qa ?_;simp only [go_sem];refine Qd rfl ?_ ?_
  ·
    intro hc;refine Qa ?_;simp only [go_sem];refine Qaaa (kn.e 0 rfl) (kn.e 1 rfl) hne (hs1.mono (by omega)) (hF1.keep kn rfl rfl) (by omega) fun x H4 k4 g1 g2 hu g3 g4 => ?_;have kn := kn.callE 0 rfl hu (R.o_ne _);simp only [go_sem, Qus, x.cells_len];refine Qj ?_;simp only [go_sem, Q4, Qaa, Qbd, reduceIte, Ja, forall_eq, RS.op];refine fin [St.mk 3 [] [Ex.mk 12 0 [] [x]] [] []] _ s1 H4 k4 _ (by omega) (by omega) kn ?_ (hs1.mono (by omega)) (by omega) rfl rfl (by simp) ?_ ?_
    · rw [Qa3, Qa3, St.cells, Qbl, Qbl, Ex.cells_eq (Ex.mk 12 0 [] _)];simp only [Qa3, Qbl, Ex.kids, Ex.op, Ex.n, Ex.name]
      repeat' first | exact FrzL.nil | exact FrzR.nil | exact Qg rfl | exact FrzL.same (Ex.noOw _) | exact FrzL.same (St.noOw _) | refine FrzL.cons ?_ ?_ | refine FrzR.cons ?_ ?_ | refine FrzR.sl ?_
    · simp only [Qcs, St.ok, Qd7, Ex.ok]; exact ⟨⟨by simp, ⟨⟨fun h => by simp at h, g3, trivial⟩, trivial⟩, trivial, trivial⟩, trivial⟩
    · simp only [Q0, St.size, Qaf, Ex.size]; omega
  intro hc4;refine Qa ?_;simp only [go_sem];refine Qd rfl ?_ ?_
  ·
    intro hc;refine Qa ?_;simp only [go_sem];refine Qb0 3 (by omega) (kn.e 0 rfl) (kn.e 1 rfl) hne (hs1.mono (by omega)) (hF1.keep kn rfl rfl) (by omega) fun x H4 k4 g1 g2 hu g3 g4 => ?_;have kn := kn.callE 0 rfl hu (R.o_ne _);simp only [go_sem, Qo0, x.cells_len];refine ⟨Qp (by omega) (by omega), ?_⟩;refine hB' _ _ _ _ _ _ (deep - 1) (by omega) (kn.e 0 rfl) (kn.e 1 rfl) hne (hs1.mono (by omega)) (hF1.keep kn rfl rfl) (by omega) fun b1 c1 L1 s2 H5 k5 g5 g6 hu hg1 hnew hs2 glf g7 g8 g9 g10 g11 => ?_;have kn0 := kn;have kn := kn.callEE 0 1 rfl rfl (by decide) hu (R.o_ne _) (GS.o_ne _ _);have kn := kn0.addGr kn rfl rfl hg1 hnew;have hc1ow := hg1.isOw;simp only [go_sem, Qoz];intro x6 hx6 H6 h6;have kn := kn.al hx6 h6;have kn := kn.perm (L' := [(x6, _)] ++ L1) Ji;have hx66 := kn.l 0 rfl;simp only [go_sem, Qut, hx66];intro H7 h7;have kn : Kn H H7 [(R.l, R.o k5), (gl, s2.o R)] ([(x6, _)] ++ L1) := kn.stL 0 rfl h7;have hG7 := kn.e 1 rfl;refine Q5 ?_;refine Qa ?_;simp only [go_sem, hG7, GS.o];refine Qbc (kn.e 0 rfl) (by omega) fun v2 H8 hv2 hu => ?_;have kn : Kn H H8 [(R.l, R.o (k5 + 1)), (gl, s2.o R)] ([(x6, _)] ++ L1) := kn.callE 0 rfl hu (R.o_ne _);simp only [go_sem, Qo1];have rest : ∀ (E1 : Env) (hE : lk 6 E1 = V.c (C.ptr x6 0)) (c2 : C) (b2 : List St) (L2 : List (Nat × Obj)) (s3 : GS) (H9 : Heap) (k6 : Nat), k5 + 1 ≤ k6 → k6 ≤ k5 + 1 + 2001 * e1 → Gr L2 5 (Qa3 b2) c2 →
        Kn H H9 [(R.l, R.o k6), (gl, s3.o R)] ([(x6, .st [.int .i64 5, .str [], .sl true 4 [x.cells], c1, c2])] ++ L1 ++ L2) → s3.ok k6 → s2.left + 4 * ((k5 + 1 : Nat) : Int) ≤ s3.left + 4 * (k6 : Int) → s3.fns = s2.fns → s3.ffl = s2.ffl → Qcs b2 → 4 * (k5 + 1) + Q0 b2 ≤ 4 * k6 →
        Qaj prog Qui (X.inBlock 0 (X.sq prog Qh6 (Q4 Qbd fun x H' => ∃ x', FrzV H' (un H) x x' ∧ K x' (H'.frz (un H))))) E1 H9 := by
      intro E1 hE c2 b2 L2 s3 H9 k6 e1 e2 hg2 kn e3 e4 e5 e6 e7 e8;have hx69 := kn.l 0 rfl;have hc2ow := hg2.isOw;refine Qa ?_;simp only [go_sem, hE, hx69, hc1ow, hc2ow];refine Qj ?_;simp only [go_sem, Q4, Qaa, Qbd, reduceIte, Ja, forall_eq, RS.op];refine fin [St.mk 5 [] [x] b1 b2] _ s3 H9 k6 _ (by omega) (by omega) kn ?_ e3 (by omega) (e5.trans g7) (e6.trans g8) (by simp) ?_ ?_
      · simp only [Qa3, St.cells, Qbl]
        repeat' first | exact FrzL.nil | exact FrzR.nil | exact Qg rfl | exact FrzL.same (Ex.noOw _) | exact FrzL.same (St.noOw _) | refine FrzL.cons ?_ ?_ | refine FrzR.cons ?_ ?_ | refine FrzR.sl ?_
        · exact hg1.frz (kn.perm Qbue) (Qg9 _)
        · exact hg2.frz kn (Qg9 _)
      · simp only [Qcs, St.ok, Qd7]; exact ⟨⟨by simp, ⟨g3, trivial⟩, g10, e7⟩, trivial⟩
      · simp only [Q0, St.size, Qaf]; omega
    refine Qh (Qd rfl ?_ ?_)
    · intro hc';refine Qr ?_;simp only [go_sem];refine ⟨Qp (by omega) (by omega), ?_⟩;refine hB' _ _ _ _ _ _ (deep - 1) (by omega) (kn.e 0 rfl) (kn.e 1 rfl) hne (hs2.mono (by omega)) (hF1.keep kn g7 g8) (by omega) fun b2 c2 L2 s3 H9 k6 q1 q2 hu hg2 hnew hs3 q3 q4 q5 q6 q7 q8 => ?_;have kn0 := kn;have kn := kn.callEE 0 1 rfl rfl (by decide) hu (R.o_ne _) (GS.o_ne _ _);have kn := kn0.addGr kn rfl rfl hg2 hnew;have hx69 := kn.l 0 rfl;simp only [go_sem, Qo2, hx69];intro H10 h10;have kn : Kn H H10 [(R.l, R.o k6), (gl, s3.o R)] ([(x6, _)] ++ L1 ++ L2) := kn.stL 0 rfl h10;exact rest _ (by simp [lk]) c2 b2 L2 s3 H10 k6 (by omega) (by omega) hg2 kn hs3 (by omega) q4 q5 q7 (by omega)
    · intro hc';refine Qf ?_;simp only [go_sem];exact rest _ (by simp [lk]) _ [] [] s2 H8 (k5 + 1) (by omega) (by omega) (.nil 5) (by rw [List.append_nil]; exact kn) (hs2.mono (by omega)) (by omega) rfl rfl trivial (by simp only [Q0]; omega)
  · intro hc5;refine Qa ?_;simp only [go_sem, hG2, GS.o];have rest : ∀ (b : Bool) (H3 : Heap) (k3 : Nat), k + 1 ≤ k3 → k3 ≤ k + 2 → Kn H H3 [(R.l, R.o k3), (gl, s1.o R)] [] →
        Qaj prog Quj (X.inBlock 0 (X.sq prog Qh6 (Q4 Qbd fun x H' => ∃ x', FrzV H' (un H) x x' ∧ K x' (H'.frz (un H)))))
         [(0, V.c (C.ptr gl 0)), (1, .c (.int .i64 deep)), (109, .c (.bool b))] H3 := by
      intro b H3 k3 e3 e4 kn;refine Qd rfl ?_ ?_
      · intro hb;refine Qa ?_;simp only [go_sem];refine Qb0 2 (by omega) (kn.e 0 rfl) (kn.e 1 rfl) hne (hs1.mono (by omega)) (hF1.keep kn rfl rfl) (by omega) fun x H4 k4 g1 g2 hu g3 g4 => ?_;have kn := kn.callE 0 rfl hu (R.o_ne _);simp only [go_sem, Qo3, x.cells_len];refine Qj ?_;simp only [go_sem, Q4, Qaa, Qbd, reduceIte, Ja, forall_eq, RS.op];refine fin [St.mk 7 [] [x] [] []] _ s1 H4 k4 _ (by omega) (by omega) kn ?_ (hs1.mono (by omega)) (by omega) rfl rfl (by simp) ?_ ?_
        · simp only [Qa3, St.cells, Qbl]
          repeat' first | exact FrzL.nil | exact FrzR.nil | exact Qg rfl | exact FrzL.same (Ex.noOw _) | exact FrzL.same (St.noOw _) | refine FrzL.cons ?_ ?_ | refine FrzR.cons ?_ ?_ | refine FrzR.sl ?_
        · simp only [Qcs, St.ok, Qd7]; exact ⟨⟨by simp, ⟨g3, trivial⟩, trivial, trivial⟩, trivial⟩
        · simp only [Q0, St.size, Qaf]; omega
      · intro hb;refine Qf ?_;simp only [go_sem];refine Qa ?_;simp only [go_sem];refine hL' _ _ _ _ _ _ deep (by omega) hdp (kn.e 0 rfl) (kn.e 1 rfl) hne (hs1.mono (by omega)) (hF1.keep kn rfl rfl) (by omega) fun l s2 H4 k4 g1 g2 hu g3 g4 g5 g6 g7 g8 g9 => ?_;have kn := kn.callEE 0 1 rfl rfl (by decide) hu (R.o_ne _) (GS.o_ne _ _);simp only [go_sem, Qo4];refine Qj ?_;simp only [go_sem, Q4, Qaa, Qbd, reduceIte, Ja, forall_eq, RS.op];exact fin l _ s2 H4 k4 _ (by omega) (by omega) kn (Qg rfl) g3 (by omega) g5 g6 g7 g8 (by omega)
    refine ⟨fun hb => ?_, fun hb => ?_⟩
    · refine Qbc (kn.e 0 rfl) (by omega) fun v2 H3 hv2 hu => ?_;have kn := kn.callE 0 rfl hu (R.o_ne _);simp only [go_sem, Qgd];exact rest _ H3 (k + 1 + 1) (by omega) (by omega) kn
    · simp only [go_sem, Qgd, hb];exact rest _ H2 (k + 1) (by omega) (by omega) kn
theorem Qbq7 (d:Nat):Qag8 d:=by
 induction d with
 |zero=>exact Qbc1 (Qbmu (fun d' h=>absurd h (by omega)))
 |succ d ih=>exact Qbc1 (Qbmu (fun d' h=>by
   have:d'=d:=by omega
   rw[this];exact ih))
set_option maxHeartbeats 1000000 in
theorem Qaut {R:Rdr}{gl k:Nat}{s:GS}{name:List UInt8}{params:Int}{H:Heap}{K:V→Heap→Prop}(hp0:0≤params)(hp3:params≤3)(hR:H R.l=R.o k)(hG:H gl=s.o R)(hne:R.l≠gl)(hs:s.ok k)(hF:FnsOk H R gl s)(hk:k+2001300≤2^30)
  (hK:∀(f:Fn) (s':GS) (H':Heap) (k':Nat),k<k'→k'≤k+2001300→Upd H H' [(R.l,R.o k'),(gl,s'.o R)]→s'.ok k'→s'.fns=s.fns→s'.ffl=s.ffl→f.params.length≤3→Qcs f.body→4 * k+Q0 f.body≤4 * k'→K (.ag f.cells) H') :
  Qo prog Qmj [.c (.ptr gl 0),.c (.str name),.c (.int .i64 params)] H K:=by
 obtain⟨np,rfl⟩:=Jn hp0;refine Qy ?_;refine Qb Qap Qbfk ?_;refine Qa ?_;simp only[go_sem];intro x6 hx6 H1 h1;have kn:=(Kn.start2 hR (R.o_ne k) hG (s.o_ne R) hne).al hx6 h1;have hG1:=kn.e 1 rfl;refine Qa ?_;have etk:List.take np [[C.str [97]],[C.str [98]],[C.str [99]]]=Qbi (List.take np [[97],[98],[99]]):=by simp[Qbi,List.map_take]
 simp only[go_sem,hG1,GS.o,etk];refine⟨⟨by omega,by omega⟩,fun H2 h2=>?_⟩;have kn:Kn H H2 [(R.l,R.o k),(gl,GS.o { s with vars:=List.take np [[97],[98],[99]],vfl:=false } R)] [(x6,_)]:=kn.stE 1 rfl h2;have hG2:=kn.e 1 rfl;refine Qa ?_;simp only[go_sem,hG2,GS.o];refine⟨Qp (by omega) (by omega),fun H3 h3=>?_⟩;have kn:Kn H H3 [(R.l,R.o k),(gl,GS.o { s with vars:=List.take np [[97],[98],[99]],vfl:=false,next:=(np:Int)-1 } R)] [(x6,_)]:=kn.stE 1 rfl h3;have hs1:GS.ok { s with vars:=List.take np [[97],[98],[99]],vfl:=false,next:=(np:Int)-1 } k:=
  ⟨by show -1≤(np:Int)-1;omega,by show (np:Int)-1≤_;omega,hs.l0,hs.l1,by show (List.take np _).length≤_;simp;omega,hs.f,hs.fn⟩
 have hvl:(List.take np [[97],[98],[99]]:List (List UInt8)).length≤3:=by simp;omega
 have hfn:GS.fns { s with vars:=List.take np [[97],[98],[99]],vfl:=false,next:=(np:Int)-1 }=s.fns:=rfl;have hff:GS.ffl { s with vars:=List.take np [[97],[98],[99]],vfl:=false,next:=(np:Int)-1 }=s.ffl:=rfl;have hvv:GS.vars { s with vars:=List.take np [[97],[98],[99]],vfl:=false,next:=(np:Int)-1 }=List.take np [[97],[98],[99]]:=rfl;rw[←hvv]at hvl;have hF1:FnsOk H R gl { s with vars:=List.take np [[97],[98],[99]],vfl:=false,next:=(np:Int)-1 }:=⟨hF.1,hF.2⟩;generalize ({ s with vars:=List.take np [[97],[98],[99]],vfl:=false,next:=(np:Int)-1 }:GS)=s1 at *;have hG3:=kn.e 1 rfl;refine Qa ?_;have hL:s1.vars.length≤LIM:=by simp only[LIM];omega
 simp only[go_sem,hG3,GS.o,Qat,Jf,Jq,hL];refine⟨.inl trivial,Qn7 _,fun y hy H4 h4=>?_⟩;have kn:=kn.al hy h4;simp only[go_sem,Q44];intro x7 hx7 H5 h5;have kn:=kn.al hx7 h5;have hx75:=kn.l 2 rfl;simp only[go_sem,Q43,hx75];intro H6 h6;have kn:Kn H H6 [(R.l,R.o k),(gl,s1.o R)] [(x6,_),(y,_),(x7,_)]:=kn.stL 2 rfl h6;refine Qa ?_;simp only[go_sem];refine Qbq7 3 _ _ _ _ _ _ 3 (by omega) (kn.e 0 rfl) (kn.e 1 rfl) hne hs1 (hF1.keep kn rfl rfl) (by omega) fun l c Lg s2 H7 k2 g1 g2 hu hgr hnew hs2 glf g3 g4 g5 g6 g7=>?_;have kn0:=kn;have kn:=kn.callEE 0 1 rfl rfl (by decide) hu (R.o_ne _) (GS.o_ne _ _);have kn:=kn0.addGr kn rfl rfl hgr hnew;have hx77:=kn.l 2 rfl;simp only[go_sem,Q45,hx77];intro H8 h8;have kn:Kn H H8 [(R.l,R.o k2),(gl,s2.o R)] ([(x6,.st [.str [],.sl true 1 [],.sl true 5 []]),(y,.vec 1 (Qbi s1.vars)),(x7,.st [.str name,.vsl y 1 0 s1.vars.length,c])]++Lg):=kn.stL 2 rfl h8;have hG8:=kn.e 1 rfl;refine Q5 ?_;refine Qa ?_;simp only[go_sem,hG8,GS.o];have hcow:=hgr.isOw;have rest:∀(E1:Env) (hE6:lk 6 E1=V.c (C.ptr x6 0)) (hE7:lk 7 E1=V.c (C.ptr x7 0)) (l2:List St) (c2:C) (rws:List (List C)) (L2:List (Nat×Obj)) (s3:GS) (H9:Heap) (k3:Nat),k<k3→k3≤k+2001300→
   Kn H H9 [(R.l,R.o k3),(gl,s3.o R)] ([(x6,.st [.str [],.sl true 1 [],.sl true 5 []]),(y,.vec 1 (Qbi s1.vars)),(x7,.st [.str name,.vsl y 1 0 s1.vars.length,c2])]++L2)→Gr L2 5 rws c2→(∀H',FrzR H' (un H) rws (Qa3 l2))→
   s3.ok k3→s3.fns=s1.fns→s3.ffl=s1.ffl→Qcs l2→4 * k+Q0 l2≤4 * k3→Qaj prog Qua (Q4 Qxe fun x H'=>∃x',FrzV H' (un H) x x'∧K x' (H'.frz (un H))) E1 H9:=by
  intro E1 hE6 hE7 l2 c2 rws L2 s3 H9 k3 e1 e2 kn hg2 hfr e3 e4 e5 e6 e7;have hx69:=kn.l 0 rfl;have hx79:=kn.l 2 rfl;have hcow:=hg2.isOw;refine Qa ?_;simp only[go_sem,hE6,hE7,hx69,hx79,hcow];intro H10 h10;have kn:=kn.stL 0 rfl h10;have hx6a:=kn.l 0 rfl;have hya:=kn.l 1 rfl;refine Qj ?_;simp only[go_sem,Q4,Qaa,Qxe,reduceIte,Ja,forall_eq,RS.op,hx6a,hcow];refine⟨(.ag (Fn.mk name s1.vars l2).cells),?_,hK _ s3 _ k3 e1 e2 kn.fin e3 (e4.trans hfn) (e5.trans hff) hvl e6 e7⟩;refine FrzL.ag (.cons (Qg rfl) (.cons ?_ (.cons ?_ .nil)))
  ·exact Qav0 (kn.un 1 rfl) hya (by simp[Qbi]) (noOw_mem (Qn7 _))
  ·exact hg2.frzR (B:=[_,_,_]) kn (hfr _)
 have tl:∀(b:Bool) (H9:Heap) (k3:Nat),k2≤k3→k3≤k2+1→(b=true→0<s2.left)→Kn H H9 [(R.l,R.o k3),(gl,s2.o R)] ([(x6,.st [.str [],.sl true 1 [],.sl true 5 []]),(y,.vec 1 (Qbi s1.vars)),(x7,.st [.str name,.vsl y 1 0 s1.vars.length,c])]++Lg)→
   Qaj prog (s_l3Gen_fn_7.seq Qua) (Q4 Qxe fun x H'=>∃x',FrzV H' (un H) x x'∧K x' (H'.frz (un H))) [(0,V.c (C.ptr gl 0)),(6,V.c (C.ptr x6 0)),(7,V.c (C.ptr x7 0)),(42,.c (.bool b))] H9:=by
  intro b H9 k3 e1 e2 hb kn;have hG9:=kn.e 1 rfl;refine Qh (Qd rfl ?_ ?_)
  ·intro hc;have hlp:=hb hc;have hl1:=hs2.l1;refine Qa ?_;simp only[go_sem,hG9,GS.o];refine⟨Qp (by omega) (by omega),fun H10 h10=>?_⟩;have kn:Kn H H10 [(R.l,R.o k3),(gl,GS.o { s2 with left:=s2.left-1 } R)] ([(x6,_),(y,_),(x7,_)]++Lg):=kn.stE 1 rfl h10;have hs3:GS.ok { s2 with left:=s2.left-1 } k3:=⟨hs2.n0,by have:=hs2.n1;show s2.next≤_;omega,by show _≤s2.left-1;omega,by show s2.left-1≤100;omega,by have:=hs2.v;show s2.vars.length≤_;omega,hs2.f,hs2.fn⟩;have hx7a:=kn.l 2 rfl;refine Qbw ?_;simp only[go_sem,hx7a,hcow];refine Qb0 2 (by omega) (kn.e 0 rfl) (kn.e 1 rfl) hne hs3 (hF1.keep kn g3 g4) (by omega) fun x H11 k4 q1 q2 hu q3 q4=>?_;have kn:=kn.callE 0 rfl hu (R.o_ne _);have hx7b:=kn.l 2 rfl;simp only[go_sem,Q47,hx7b,hcow,x.cells_len];refine kn.grow (B:=[_,_,_]) hgr (.mk' _ _ _ _) (by intro r hr;simp only[Ja]at hr;subst hr;rfl) (by simp only[Qba,LIM,Jl,Jo];omega) fun y' H12 kn=>?_;have hx7c:=kn.l 2 rfl;simp only[go_sem,Q46,hx7c];intro H13 h13;have kn:=kn.stL 2 rfl h13;refine rest _ (by simp[lk]) (by simp[lk]) (l++[St.mk 7 [] [x] [] []]) _ _ _ _ H13 k4 (by omega) (by omega) kn (.mk _ _ _ (by simp[Qba])) (fun H'=>?_) (hs3.mono (by omega)) g3 g4 (Qapn g6 ?_) ?_
   ·rw[←Qapm];refine .app (.same (Qg9 _)) ?_;simp only[Qa3,St.cells,Qbl]
    repeat' first|exact FrzL.nil|exact FrzR.nil|exact Qg rfl|exact FrzL.same (Ex.noOw _)|exact FrzL.same (St.noOw _)|refine FrzL.cons ?_ ?_|refine FrzR.cons ?_ ?_|refine FrzR.sl ?_
   ·simp only[Qcs,St.ok,Qd7];exact⟨⟨by simp,⟨q3,trivial⟩,trivial,trivial⟩,trivial⟩
   ·simp only[Qic,Q0,St.size,Qaf];omega
  ·intro hc;refine Qf ?_;simp only[go_sem];exact rest _ (by simp[lk]) (by simp[lk]) l c _ Lg s2 H9 k3 (by omega) (by omega) kn hgr (fun H'=>.same (Qg9 _)) (hs2.mono (by omega)) g3 g4 g6 (by omega)
 refine⟨fun hb=>?_,fun hb=>?_⟩
 ·refine Qbc (kn.e 0 rfl) (by omega) fun v H9 hv hu=>?_;have kn:=kn.callE 0 rfl hu (R.o_ne _);simp only[go_sem,Qnf,hb];exact tl _ H9 (k2+1) (by omega) (by omega) (fun _=>by simpa using hb) kn
 ·simp only[go_sem,Qnf,hb];exact tl false H8 k2 (by omega) (by omega) (fun h=>by simp at h) kn
variable {H:Heap}{K:V→Heap→Prop}
theorem Qr0 {l:List Ex}{i:Nat}(h:i<l.length):Qaf (l.take (i+1))=Qaf (l.take i)+(l[i]'h).size:=by
 rw[Jk h,Q0h];simp[Qaf]
theorem Qw3 {l:List St}{i:Nat}(h:i<l.length):Q0 (l.take (i+1))=Q0 (l.take i)+(l[i]'h).size:=by
 rw[Jk h,Qic];simp[Q0]
theorem Qha (l:List Ex)(i:Nat):Qaf (l.take i)≤Qaf l:=by
 conv=>rhs;rw[←Jw i l,Q0h]
 omega
theorem Qid (l:List St)(i:Nat):Q0 (l.take i)≤Q0 l:=by
 conv=>rhs;rw[←Jw i l,Qic]
 omega
theorem St.size_pos (x:St):1≤x.size:=by rw[x.size_eq];omega
theorem Qapo (l:List St):l.length≤Q0 l:=by
 induction l with
 |nil=>simp
 |cons x r ih=>simp only[Jl,Q0];have:=x.size_pos;omega
theorem Qbjt:∀(n:Nat) (x:Ex) {H:Heap} {K:V→Heap→Prop},x.size≤n→x.size≤2^40→K (.c (.int .i64 x.size)) H→Qo prog Qw9 [.ag x.cells] H K:=by
 intro n
 induction n with
 |zero=>intro x _ _ h;have:=x.size_pos;omega
 |succ n ih=>
 intro x H K hn hb hK;have hsz:=x.size_kids;refine Qb Qap Qbkh ?_;refine Qa ?_;simp only[go_sem,x.cells_eq];refine Qa ?_;simp only[go_sem];refine Q5 ?_;refine Qa ?_;simp only[go_sem];refine Qh (Qc (Qu (fun n e1 H1=>∃i:Nat,n=x.kids.length-i∧i≤x.kids.length∧H1=H∧e1=[(1,.c (.pp [.int .i64 x.op,.int .i64 x.n,.str x.name,.sl false 4 (Qbl x.kids)])),(3,.c (.int .i64 ((1+Qaf (x.kids.take i):Nat):Int))),(4,.c (.int .i64 i))]) x.kids.length ?_ ?_))
 ·exact⟨0,by omega,by omega,rfl,by simp[Qaf]⟩
 ·rintro n e1 H1 ⟨i,hn,hi,rfl,rfl⟩;refine Q5 ?_;refine Qa ?_;simp only[go_sem,Qa5];intro hl;simp only[LIM]at hl;refine Qh (Qd rfl ?_ ?_)
  ·intro hc;have hlt:i<x.kids.length:=by simpa using hc
   have hm:=Qfb (Jc hlt);have htk:=Qr0 hlt;have htl:=Qha x.kids (i+1);refine Qf ?_;simp only[go_sem];refine Qh (Qc (Qr ?_));simp only[go_sem,hlt,Qa5,Qfa _ _ hlt,Ex.take4,Ex.allOw,Ex.cells_len];refine ih _ (by omega) (by omega) ?_;simp only[go_sem,Qabt];refine⟨Qp (by omega) (by omega),?_⟩;refine Qr ?_;simp only[go_sem,X.next];refine⟨Qp (by omega) (by omega),x.kids.length-(i+1),by omega,i+1,rfl,by omega,?_⟩;rw[htk];simp;omega
  ·intro hc;have hge:x.kids.length≤i:=by simpa using hc
   refine Qv ?_;simp only[go_sem,X.next];refine Qa ?_;simp only[go_sem];refine Qj ?_;simp only[go_sem,Q4,Qaa,Qa09,reduceIte,Ja,forall_eq,RS.op];rw[Jd hge,←hsz];exact hK
theorem Qbn6:∀(n:Nat) (x:Ex) {H:Heap} {K:V→Heap→Prop} (deep:Int),x.size≤n→deep≤100→(∀b:Bool,K (.c (.bool b)) H)→Qo prog Q2m [.ag x.cells,.c (.int .i64 deep)] H K:=by
 intro n
 induction n with
 |zero=>intro x _ _ _ h;have:=x.size_pos;omega
 |succ n ih=>
 intro x H K deep hn hd hK;have hsz:=x.size_kids;refine Qb Qap Qbon ?_;refine Qa ?_;simp only[go_sem,x.cells_eq];refine Qa ?_;simp only[go_sem];refine Qbn7 fun lo hi=>?_;simp only[go_sem,Qak0,Jx,J6];refine Q5 ?_;refine Qa ?_;simp only[go_sem];have retf:∀(b:Bool) (e:Env),lk 4 e=.c (.bool b)→Q4 Q29 K .ret e H:=by
  intro b e h1;simp only[go_sem,Q4,Qaa,Q29,Ja,forall_eq,RS.op,h1];exact hK _
 have rest:∀b:Bool,(b=false→1≤deep)→Qaj prog (s_l2Form_3.seq Qakz) (Q4 Q29 K)
   [(1,.c (.int .i64 deep)),(2,.c (.pp [.int .i64 x.op,.int .i64 x.n,.str x.name,.sl false 4 (Qbl x.kids)])),(31,.c (.bool b))] H:=by
  intro b hb;refine Qh (Qd rfl ?_ ?_)
  ·intro hc;refine Qa ?_;simp only[go_sem];refine Qj ?_;simp only[go_sem];exact retf false _ (by simp[lk])
  intro hc;have hdp:=hb hc;refine Qf ?_;simp only[go_sem];refine Qa ?_;simp only[go_sem];refine Q5 ?_;refine Qa ?_;simp only[go_sem];refine Qagx fun b1=>?_;simp only[go_sem,Qak1];have rest2:∀b:Bool,Qaj prog (s_l2Form_6.seq Qaky) (Q4 Q29 K)
    [(1,.c (.int .i64 deep)),(2,.c (.pp [.int .i64 x.op,.int .i64 x.n,.str x.name,.sl false 4 (Qbl x.kids)])),(69,.c (.bool b))] H:=by
   intro b;refine Qh (Qd rfl ?_ ?_)
   ·intro hc;refine Qa ?_;simp only[go_sem];refine Qj ?_;simp only[go_sem];exact retf false _ (by simp[lk])
   intro hc;refine Qf ?_;simp only[go_sem];refine Q5 ?_;refine Qa ?_;simp only[go_sem];refine Qh (Qc (Qu (fun n e1 H1=>∃i:Nat,n=x.kids.length-i∧i≤x.kids.length∧H1=H∧e1=[(1,.c (.int .i64 deep)),(2,.c (.pp [.int .i64 x.op,.int .i64 x.n,.str x.name,.sl false 4 (Qbl x.kids)])),(8,.c (.int .i64 i))]) x.kids.length ?_ ?_))
   ·exact⟨0,by omega,by omega,rfl,rfl⟩
   ·rintro n e1 H1 ⟨i,hn,hi,rfl,rfl⟩;refine Q5 ?_;refine Qa ?_;simp only[go_sem,Qa5];intro hl;simp only[LIM]at hl;refine Qh (Qd rfl ?_ ?_)
    ·intro hc;have hlt:i<x.kids.length:=(by simpa using hc);have hm:=Qfb (Jc hlt);refine Qf ?_;simp only[go_sem];refine Qh (Qc ?_);refine Qa ?_;simp only[go_sem,hlt,Qa5,Qfa _ _ hlt,Ex.take4,Ex.allOw,Ex.cells_len];refine⟨Qp (by omega) (by omega),?_⟩;refine ih _ (deep-1) (by omega) (by omega) fun b2=>?_;simp only[go_sem,Qak2];refine Qd rfl ?_ ?_
     ·intro hc2;refine Qa ?_;simp only[go_sem];refine Qj ?_;simp only[go_sem,X.next];exact retf false _ (by simp[lk])
     ·intro hc2;refine Qf ?_;simp only[go_sem];refine Qr ?_;simp only[go_sem,X.next];exact⟨Qp (by omega) (by omega),x.kids.length-(i+1),by omega,i+1,rfl,by omega,rfl⟩
    ·intro hc;refine Qv ?_;simp only[go_sem,X.next];refine Qa ?_;simp only[go_sem];refine Qj ?_;exact retf true _ (by simp[lk])
  refine⟨fun hb1=>?_,fun hb1=>?_⟩
  ·refine Qdo ?_;simp only[go_sem,Q1o];exact rest2 _
  ·replace hb1:=Qgt hb1;simp only[go_sem,Q1o,hb1];exact rest2 _
 refine⟨fun hb1=>?_,fun hb1=>?_⟩
 ·replace hb1:=Qsm hb1;have hdp:1≤deep:=by simp at hb1;omega
  refine Qdo ?_;simp only[go_sem,Q1n,hb1,Qa5,cond_false];intro hl;refine⟨fun hb2=>?_,fun hb2=>?_⟩
  ·refine Qdo ?_;simp only[go_sem,Qne];exact rest _ (fun _=>hdp)
  ·replace hb2:=Qgt hb2;simp only[go_sem,Qne,hb2];exact rest _ (fun _=>hdp)
 ·replace hb1:=Qgt hb1;simp only[go_sem,Q1n,Qne,hb1,Qa5,cond_true];exact rest _ (fun h=>by simp at h)
theorem Qa57 {x:Ex}(hx:x.size≤2^40)(hK:∀b:Bool,K (.c (.bool b)) H):Qo prog Qhn [.ag x.cells] H K:=by
 refine Qb Qap Qaqe ?_;refine Qa ?_;simp only[go_sem,Ex.ne_nil];refine Qa ?_;simp only[go_sem,Ex.take4,Ex.allOw,Ex.cells_len];refine Qbn6 x.size x 6 (Jg _) (by omega) fun b=>?_;simp only[go_sem,Ql0,Ex.take4,Ex.allOw,Ex.cells_len];refine⟨fun hb=>?_,fun hb=>?_⟩
 ·refine Qbjt x.size x (Jg _) hx ?_;simp only[go_sem,Qfj];refine Qj ?_;simp only[go_sem,Q4,Qaa,Qjh,reduceIte,Ja,forall_eq,RS.op];exact hK _
 ·simp only[go_sem,Qfj,hb];refine Qj ?_;simp only[go_sem,Q4,Qaa,Qjh,reduceIte,Ja,forall_eq,RS.op];exact hK _
def St.raw (x:St):List C:=[.int .i64 x.op,.str x.name,.sl false 4 (Qbl x.args),.sl false 5 (Qa3 x.body),.sl false 5 (Qa3 x.els)]
theorem Qbjw:∀(n:Nat) (l:List St) {fl:Bool} {H:Heap} {K:V→Heap→Prop},Q0 l≤n→Q0 l≤2^40→(∀v:Nat,v≤Q0 l→K (.c (.int .i64 v)) H)→Qo prog Qj7 [.c (.sl fl 5 (Qa3 l))] H K:=by
 intro n
 induction n using Nat.strongRecOn with
 |ind n ih=>
 intro l fl H K hn hb hK;have hlen:=Qapo l;refine Qb Qap Qbkk ?_;refine Qa ?_;simp only[go_sem];refine Qa ?_;simp only[go_sem,Qba];intro hl;refine Q5 ?_;refine Qa ?_;simp only[go_sem];refine Qh (Qc (Qu (fun n e1 H1=>∃(i v:Nat),n=l.length-i∧i≤l.length∧v≤(l.length-i)+Q0 (l.take i)∧H1=H∧e1=[(0,.c (.sl fl 5 (Qa3 l))),(3,.c (.int .i64 v)),(4,.c (.int .i64 i))]) l.length ?_ ?_))
 ·exact⟨0,l.length,by omega,by omega,by omega,rfl,rfl⟩
 ·rintro n e1 H1 ⟨i,v,hn1,hi,hv,rfl,rfl⟩;refine Q5 ?_;refine Qa ?_;simp only[go_sem,Qba];simp only[LIM]at hl;refine fun _=>?_;refine Qh (Qd rfl ?_ ?_)
  ·intro hc;have hlt:i<l.length:=by simpa using hc
   have hm:=Qn8 (Jc hlt);have htk:=Qw3 hlt;have htl:=Qid l (i+1);have hse:=(l[i]'hlt).size_eq;refine Qf ?_;simp only[go_sem];refine Qh (Qc (Qbw ?_));simp only[go_sem,hlt,Qba,Qfp _ _ hlt,St.cells_eq];refine ih (Q0 l[i].body) (by omega) l[i].body (Jg _) (by omega) fun a ha=>?_;simp only[go_sem,Qabw,hlt,Qba,Qfp _ _ hlt,St.cells_eq];refine⟨Qp (by omega) (by omega),?_⟩;refine ih (Q0 l[i].els) (by omega) l[i].els (Jg _) (by omega) fun c hc=>?_;simp only[go_sem,Qabv];refine⟨Qp (by omega) (by omega),?_⟩;refine Qr ?_;simp only[go_sem,X.next];refine⟨Qp (by omega) (by omega),l.length-(i+1),by omega,i+1,v+a+c,rfl,by omega,by omega,rfl⟩
  ·intro hc;have hge:l.length≤i:=by simpa using hc
   refine Qv ?_;simp only[go_sem,X.next];refine Qa ?_;simp only[go_sem];refine Qj ?_;simp only[go_sem,Q4,Qaa,Qa1a,reduceIte,Ja,forall_eq,RS.op];rw[Jd hge]at hv;exact hK v (by omega)
def Qbtg (n:Nat):Prop:=∀(x:St) (deep:Int) (H:Heap) (K:V→Heap→Prop),x.size≤n→x.size≤2^40→deep≤100→(∀b:Bool,K (.c (.bool b)) H)→Qo prog Qaho [.ag x.cells,.c (.int .i64 deep)] H K
def Qbib (n:Nat):Prop:=∀(l:List St) (deep:Int) (fl:Bool) (H:Heap) (K:V→Heap→Prop),Q0 l≤n→Q0 l≤2^40→deep≤100→(∀b:Bool,K (.c (.bool b)) H)→Qo prog Qj8 [.c (.sl fl 5 (Qa3 l)),.c (.int .i64 deep)] H K
theorem Qbqc {n:Nat}(hS:Qbtg n):Qbib n:=by
 intro l deep fl H K hn hb hd hK;refine Qb Qap Qbkl ?_;have retf:∀(b:Bool) (e:Env),lk 4 e=.c (.bool b)→Q4 Qait K .ret e H:=by
  intro b e h1;simp only[go_sem,Q4,Qaa,Qait,Ja,forall_eq,RS.op,h1];exact hK _
 refine Qa ?_;simp only[go_sem];refine Q5 ?_;refine Qa ?_;simp only[go_sem];refine Qh (Qc (Qu (fun n e1 H1=>∃(i:Nat),n=l.length-i∧i≤l.length∧H1=H∧e1=[(0,.c (.sl fl 5 (Qa3 l))),(1,.c (.int .i64 deep)),(5,.c (.int .i64 i))]) l.length ?_ ?_))
 ·exact⟨0,by omega,by omega,rfl,rfl⟩
 ·rintro n e1 H1 ⟨i,hn1,hi,rfl,rfl⟩;refine Q5 ?_;refine Qa ?_;simp only[go_sem,Qba];intro hl;simp only[LIM]at hl;refine Qh (Qd rfl ?_ ?_)
  ·intro hc;have hlt:i<l.length:=by simpa using hc
   have hm:=Qn8 (Jc hlt);refine Qf ?_;simp only[go_sem];refine Qh (Qc ?_);refine Qa ?_;simp only[go_sem,hlt,Qba,Qfp _ _ hlt,St.take5,St.allOw,St.cells_len];refine hS _ deep _ _ (by omega) (by omega) hd fun b=>?_;simp only[go_sem,Qab5];refine Qd rfl ?_ ?_
   ·intro hc2;refine Qa ?_;simp only[go_sem];refine Qj ?_;simp only[go_sem,X.next];exact retf false _ (by simp[lk])
   ·intro hc2;refine Qf ?_;simp only[go_sem];refine Qr ?_;simp only[go_sem,X.next];exact⟨Qp (by omega) (by omega),l.length-(i+1),by omega,i+1,rfl,by omega,rfl⟩
  ·intro hc;refine Qv ?_;simp only[go_sem,X.next];refine Qa ?_;simp only[go_sem];refine Qj ?_;exact retf true _ (by simp[lk])
theorem Qbs0 {n:Nat}(hS:∀m,m<n→Qbib m):Qbtg n:=by
 intro x deep H K hn hb hd hK;have hsz:=x.size_eq;refine Qb Qap Qbos ?_;have retf:∀(b:Bool) (e:Env),lk 4 e=.c (.bool b)→Q4 Qag5 K .ret e H:=by
  intro b e h1;simp only[go_sem,Q4,Qaa,Qag5,Ja,forall_eq,RS.op,h1];exact hK _
 refine Qa ?_;simp only[go_sem,x.cells_eq];refine Q5 ?_;refine Qao ?_;simp only[go_sem];have rest:∀b:Bool,(b=false→1≤deep∧x.args.length=if x.op=4 then 2 else 1)→Qaj prog (s_l3Stmt_2.seq Qama) (Q4 Qag5 K)
   [(1,.c (.int .i64 deep)),(2,.c (.pp [.int .i64 x.op,.str x.name,.sl false 4 (Qbl x.args),.sl false 5 (Qa3 x.body),.sl false 5 (Qa3 x.els)])),(23,.c (.bool b))] H:=by
  intro b hb;refine Qh (Qd rfl ?_ ?_)
  ·intro hc;refine Qa ?_;simp only[go_sem];refine Qj ?_;simp only[go_sem];exact retf false _ (by simp[lk])
  intro hc;obtain⟨hdp,hal⟩:=hb hc;have hap:0<x.args.length:=by rw[hal];split <;> omega
  refine Qf ?_;simp only[go_sem];refine Qa ?_;simp only[go_sem];refine Q5 ?_;refine Qa ?_;simp only[go_sem];refine Qagx fun b1=>?_;simp only[go_sem,Qamb];refine Qh (Qd rfl ?_ ?_)
  ·intro hc;refine Qa ?_;simp only[go_sem];refine Qj ?_;simp only[go_sem];exact retf false _ (by simp[lk])
  intro hc;refine Qf ?_;simp only[go_sem];refine Q5 ?_;refine Qa ?_;simp only[go_sem];refine Qh (Qc (Qu (fun n e1 H1=>∃(i:Nat),n=x.args.length-i∧i≤x.args.length∧H1=H∧e1=[(1,.c (.int .i64 deep)),(2,.c (.pp [.int .i64 x.op,.str x.name,.sl false 4 (Qbl x.args),.sl false 5 (Qa3 x.body),.sl false 5 (Qa3 x.els)])),(6,.c (.int .i64 i))]) x.args.length ?_ ?_))
  ·exact⟨0,by omega,by omega,rfl,rfl⟩
  ·rintro n e1 H1 ⟨i,hn1,hi,rfl,rfl⟩;refine Q5 ?_;refine Qa ?_;simp only[go_sem,Qa5];intro hl;simp only[LIM]at hl;refine Qh (Qd rfl ?_ ?_)
   ·intro hc;have hlt:i<x.args.length:=(by simpa using hc);have hm:=Qfb (Jc hlt);refine Qf ?_;simp only[go_sem];refine Qh (Qc ?_);refine Qa ?_;simp only[go_sem,hlt,Qa5,Qfa _ _ hlt,Ex.take4,Ex.allOw,Ex.cells_len];refine Qa57 (by omega) fun b=>?_;simp only[go_sem,Qamc];refine Qd rfl ?_ ?_
    ·intro hc2;refine Qa ?_;simp only[go_sem];refine Qj ?_;simp only[go_sem,X.next];exact retf false _ (by simp[lk])
    ·intro hc2;refine Qf ?_;simp only[go_sem];refine Qr ?_;simp only[go_sem,X.next];exact⟨Qp (by omega) (by omega),x.args.length-(i+1),by omega,i+1,rfl,by omega,rfl⟩
   ·intro hc;refine Qv ?_;simp only[go_sem,X.next];refine Q5 ?_;refine Qa ?_;simp only[go_sem,hap,Qa5,Qfa _ _ hap,Ex.cells_eq];refine⟨fun _=>Int.le_refl _,?_⟩;refine Qh (Qd rfl ?_ ?_)
    ·intro hc;refine Qa ?_;simp only[go_sem];refine Qj ?_;simp only[go_sem];exact retf false _ (by simp[lk])
    intro hc;refine Qf ?_;simp only[go_sem];refine Q5 ?_;refine Qa ?_;simp only[go_sem,Qba]
    intros
    refine Qh (Qd rfl ?_ ?_)
    ·intro hc;refine Qa ?_;simp only[go_sem];refine Qj ?_;simp only[go_sem];exact retf false _ (by simp[lk])
    intro hc;refine Qf ?_;simp only[go_sem];refine Qa ?_;simp only[go_sem];refine⟨Qp (by omega) (by omega),?_⟩;refine hS (Q0 x.body) (by omega) _ _ _ _ _ (Jg _) (by omega) (by omega) fun b1=>?_;simp only[go_sem,Qab4];refine⟨fun _=>Qp (by omega) (by omega),?_⟩;refine⟨fun hb1=>?_,fun hb1=>?_⟩
    ·refine hS (Q0 x.els) (by omega) _ _ _ _ _ (Jg _) (by omega) (by omega) fun b2=>?_;simp only[go_sem,Quu];refine Qj ?_;exact retf _ _ (by simp[lk];rfl)
    ·simp only[go_sem,Quu,hb1];refine Qj ?_;exact retf false _ (by simp[lk])
 refine⟨fun hb1=>?_,fun hb1=>?_⟩
 ·replace hb1:=Qsm hb1;have hdp:1≤deep:=by simp at hb1;omega
  refine Qdo ?_;simp only[go_sem,Q1q,hb1,Qa5,cond_false];refine⟨fun hb2=>?_,fun hb2=>?_⟩
  ·refine Qbn9 ?_;simp only[go_sem,Qng,Qa5];refine rest _ (fun h=>⟨hdp,?_⟩);have h1:(x.args.length:Int)=if x.op=4 then 2 else 1:=by
    cases h2:decide (1≤x.op∧x.op≤8) <;> rw[h2]at h <;> simp_all
   by_cases h4:x.op=4
   ·rw[if_pos h4]at h1⊢;omega
   ·rw[if_neg h4]at h1⊢;omega
  ·replace hb2:=Qgt hb2;simp only[go_sem,Qng,hb2,Qa5];exact rest _ (fun h=>by simp at h)
 ·replace hb1:=Qgt hb1;simp only[go_sem,Q1q,Qng,hb1,Qa5,cond_true];exact rest _ (fun h=>by simp at h)
theorem Qbs1 (n:Nat):Qbib n:=by
 induction n using Nat.strongRecOn with
 |ind n ih=>exact Qbqc (Qbs0 ih)
theorem Qbt1 {f:Fn}(hf:Q0 f.body≤2^40)(hK:∀b:Bool,K (.c (.bool b)) H):Qo prog Qa6p [.ag f.cells] H K:=by
 refine Qb Qap Qbt6 ?_;have retf:∀(b:Bool) (e:Env),lk 2 e=.c (.bool b)→Q4 Qbk1 K .ret e H:=by
  intro b e h1;simp only[go_sem,Q4,Qaa,Qbk1,Ja,forall_eq,RS.op,h1];exact hK _
 refine Qa ?_;simp only[go_sem,Fn.cells];refine Q5 ?_;refine Qa ?_;simp only[go_sem];refine Qh (Qc (Qu (fun n e1 H1=>∃(i:Nat),n=f.params.length-i∧i≤f.params.length∧H1=H∧e1=[(1,.c (.pp [.str f.name,.sl false 1 (Qbi f.params),.sl false 5 (Qa3 f.body)])),(3,.c (.int .i64 i))]) f.params.length ?_ ?_))
 ·exact⟨0,by omega,by omega,rfl,rfl⟩
 ·rintro n e1 H1 ⟨i,hn1,hi,rfl,rfl⟩;refine Q5 ?_;refine Qa ?_;simp only[go_sem,Qat];intro hl;simp only[LIM]at hl;refine Qh (Qd rfl ?_ ?_)
  ·intro hc;have hlt:i<f.params.length:=by simpa using hc
   refine Qf ?_;simp only[go_sem];refine Qh (Qc ?_);refine Qa ?_;simp only[go_sem,hlt,Qat,Qib _ _ hlt];refine Qagx fun b=>?_;simp only[go_sem,Qa32];refine Qd rfl ?_ ?_
   ·intro hc2;refine Qa ?_;simp only[go_sem];refine Qj ?_;simp only[go_sem,X.next];exact retf false _ (by simp[lk])
   ·intro hc2;refine Qf ?_;simp only[go_sem];refine Qr ?_;simp only[go_sem,X.next];exact⟨Qp (by omega) (by omega),f.params.length-(i+1),by omega,i+1,rfl,by omega,rfl⟩
  ·intro hc;refine Qv ?_;simp only[go_sem,X.next];refine Qa ?_;simp only[go_sem];refine Qagx fun b=>?_;simp only[go_sem,Qa33,Qat]
   intros
   refine⟨fun hb1=>?_,fun hb1=>?_⟩
   ·refine Qbs1 _ _ _ _ _ _ (Jg _) hf (by omega) fun b2=>?_;simp only[go_sem,Qak6];refine Qj ?_;exact retf _ _ (by simp[lk];rfl)
   ·simp only[go_sem,Qak6,hb1];refine Qj ?_;exact retf false _ (by simp[lk])
def Qa8:List Fn→Nat
 |[]=>0
 |f::r=>Q0 f.body+Qa8 r
theorem Qso {l:List Fn}{f:Fn}(h:f∈l):Q0 f.body≤Qa8 l:=by
 induction l with
 |nil=>simp at h
 |cons g r ih=>
  simp only[Qa8];rcases List.mem_cons.1 h with rfl|h
  ·omega
  ·have:=ih h;omega
theorem Qio (a b:List Fn):Qa8 (a++b)=Qa8 a+Qa8 b:=by
 induction a with
 |nil=>simp[Qa8]
 |cons x r ih=>simp only[Jr,Qa8,ih];omega
theorem Qaw7 {l:List Fn}{i:Nat}(h:i<l.length):Qa8 (l.take (i+1))=Qa8 (l.take i)+Q0 (l[i]'h).body:=by
 rw[Jk h,Qio];simp[Qa8]
theorem Qadd (l:List Fn)(i:Nat):Qa8 (l.take i)≤Qa8 l:=by
 conv=>rhs;rw[←Jw i l,Qio]
 omega
theorem Qbr3 {l:List Fn}{fl:Bool}(hf:Qa8 l≤2^40)(hK:∀n:Int,K (.c (.int .i64 n)) H):Qo prog Qavv [.ag [.sl fl 3 (Qb3 l)]] H K:=by
 refine Qb Qap Qbsf ?_;refine Qa ?_;simp only[go_sem];refine Qa ?_;simp only[go_sem];refine Q5 ?_;refine Qa ?_;simp only[go_sem];refine Qh (Qc (Qu (fun n e1 H1=>∃(i v:Nat),n=l.length-i∧i≤l.length∧v≤Qa8 (l.take i)∧H1=H∧e1=[(1,.c (.pp [.sl fl 3 (Qb3 l)])),(3,.c (.int .i64 v)),(4,.c (.int .i64 i))]) l.length ?_ ?_))
 ·exact⟨0,0,by omega,by omega,by omega,rfl,rfl⟩
 ·rintro n e1 H1 ⟨i,v,hn1,hi,hv,rfl,rfl⟩;refine Q5 ?_;refine Qa ?_;simp only[go_sem,Qbg];intro hl;simp only[LIM]at hl;refine Qh (Qd rfl ?_ ?_)
  ·intro hc;have hlt:i<l.length:=by simpa using hc
   have hm:=Qso (Jc hlt);have htk:=Qaw7 hlt;have htl:=Qadd l (i+1);refine Qf ?_;simp only[go_sem];refine Qh (Qc (Qr ?_));simp only[go_sem,hlt,Qbg,Qg7 _ _ hlt,Fn.cells];refine Qbjw _ _ (Jg _) (by omega) fun c hc=>?_;simp only[go_sem,Qava];refine⟨Qp (by omega) (by omega),?_⟩;refine Qr ?_;simp only[go_sem,X.next];exact⟨Qp (by omega) (by omega),l.length-(i+1),by omega,i+1,v+c,rfl,by omega,by omega,rfl⟩
  ·intro hc;refine Qv ?_;simp only[go_sem,X.next];refine Qa ?_;simp only[go_sem];refine Qj ?_;simp only[go_sem,Q4,Qaa,Qbk0,reduceIte,Ja,forall_eq,RS.op];exact hK _
theorem Qaps {l:List Fn}{fl:Bool}(hf:Qa8 l≤2^40)(hK:∀b:Bool,K (.c (.bool b)) H):Qo prog Qef [.ag [.sl fl 3 (Qb3 l)]] H K:=by
 refine Qb Qap Q6x ?_;have retf:∀(b:Bool) (e:Env),lk 2 e=.c (.bool b)→Q4 Qfi K .ret e H:=by
  intro b e h1;simp only[go_sem,Q4,Qaa,Qfi,Ja,forall_eq,RS.op,h1];exact hK _
 refine Qa ?_;simp only[go_sem];refine Q5 ?_;refine Qa ?_;simp only[go_sem,Qbg];intro hl;simp only[LIM]at hl;refine Qdo ?_;simp only[go_sem,Qgj];refine Qh (Qd rfl ?_ ?_)
 ·intro hc;refine Qa ?_;simp only[go_sem];refine Qj ?_;simp only[go_sem];exact retf false _ (by simp[lk])
 intro hc;refine Qf ?_;simp only[go_sem];refine Q5 ?_;refine Qa ?_;simp only[go_sem];refine Qh (Qc (Qu (fun n e1 H1=>∃(i:Nat),n=l.length-i∧i≤l.length∧H1=H∧e1=[(1,.c (.pp [.sl fl 3 (Qb3 l)])),(3,.c (.int .i64 i))]) l.length ?_ ?_))
 ·exact⟨0,by omega,by omega,rfl,rfl⟩
 ·rintro n e1 H1 ⟨i,hn1,hi,rfl,rfl⟩;refine Q5 ?_;refine Qa ?_;simp only[go_sem,Qbg];refine fun _=>?_;refine Qh (Qd rfl ?_ ?_)
  ·intro hc;have hlt:i<l.length:=by simpa using hc
   have hm:=Qso (Jc hlt);refine Qf ?_;simp only[go_sem];refine Qh (Qc ?_);refine Qa ?_;simp only[go_sem,hlt,Qbg,Qg7 _ _ hlt,Fn.take3,Fn.allOw,Fn.cells_len];refine Qbt1 (by omega) fun b=>?_;simp only[go_sem,Qgk];refine Qd rfl ?_ ?_
   ·intro hc2;refine Qa ?_;simp only[go_sem];refine Qj ?_;simp only[go_sem,X.next];exact retf false _ (by simp[lk])
   ·intro hc2;refine Qf ?_;simp only[go_sem];refine Qr ?_;simp only[go_sem,X.next];exact⟨Qp (by omega) (by omega),l.length-(i+1),by omega,i+1,rfl,by omega,rfl⟩
  ·intro hc;refine Qv ?_;simp only[go_sem,X.next];refine Qa ?_;simp only[go_sem];refine Qbr3 hf fun n=>?_;simp only[go_sem,Qgl];refine Qj ?_;exact retf _ _ (by simp[lk];rfl)
end Go.AE.Y
namespace Go.AE.Y
open Go.Proofs.Tryz
structure PrOk (l:List Fn):Prop where
 pos:0<l.length
 par:∀f∈l,f.params.length≤3
 ok:∀f∈l,Qcs f.body
 size:Qa8 l≤2^34
 len:l.length≤4
end Go.AE.Y
namespace Go.AE
open Go.AE.Y
open Go.Proofs.Tryz
theorem Kn.perm4 {H0 H:Heap}{E:List (Nat×Obj)}{a b c d:Nat×Obj}(kn:Kn H0 H E [a,b,c,d]):Kn H0 H E [a,b,d]:=
 Kn.drop (A:=[a,b,d]) (B:=[c]) (kn.perm (.cons _ (.cons _ (.swap _ _ _))))
end Go.AE
namespace Go.AE.Y
open Go.Proofs.Tryz
set_option maxHeartbeats 2000000 in
theorem Qboa {R:Rdr}{k:Nat}{H:Heap}{K:V→Heap→Prop}(hR:H R.l=R.o k)(hk:k+7000000≤2^30)
  (hK:∀(l:List Fn) (H':Heap) (k':Nat),k<k'→k'≤k+7000000→Upd H H' [(R.l,R.o k')]→PrOk l→K (.ag [.sl false 3 (Qb3 l)]) H') :
  Qo prog Qahn [.c (.ptr R.l 0)] H K:=by
 refine Qy ?_;refine Qb Qap Qbor ?_;refine Qa ?_;simp only[go_sem];intro x2 hx2 H1 h1;have kn:=(Kn.start1 hR (R.o_ne k)).al hx2 h1;refine Qa ?_;simp only[go_sem];refine Qkg (ns:=[14,20,8,26]) (kn.e 0 rfl) (by omega) (by simp) fun v H2 hv hu=>?_;have kn:=kn.callE 0 rfl hu (R.o_ne _);simp only[go_sem,Qal4];intro gl hgl H3 h3;have kn:Kn H H3 [(R.l,R.o (k+1))] [(x2,.st [.sl true 3 []]),(gl,GS.o ⟨[],(.sl true 3 [],[]),[],true,0,v⟩ R)]:=kn.al hgl h3;have hv26:0≤v∧v≤26:=by simp at hv;omega
 simp only[go_sem,Qal3];have hne:R.l≠gl:=kn.ne 0 1 rfl rfl;refine Q5 ?_;refine Qa ?_;simp only[go_sem];refine Qkg (ns:=[0,1,1,2]) (kn.e 0 rfl) (by omega) (by simp) fun cnt H4 hcnt hu=>?_;have kn:=kn.callE 0 rfl hu (R.o_ne _);have hc2:0≤cnt∧cnt≤2:=by simp at hcnt;omega
 simp only[go_sem,Qal5];obtain⟨M,hM⟩:∃M:Nat,M=2001301:=⟨_,rfl⟩;refine Qh (Qc (Qu (fun n e1 H1=>∃(j k4:Nat) (s:GS),n=cnt.toNat-j∧(j:Int)≤cnt∧s.fns.length=j∧k+2≤k4∧k4≤k+2+M * j∧s.ok k4∧(∀f∈s.fns,Qcs f.body)∧4 * k+Qa8 s.fns≤4 * k4∧
   Gr s.ffl.2 3 (Qb3 s.fns) s.ffl.1∧Kn H H1 [(R.l,R.o k4)] ([(x2,.st [.sl true 3 []]),(gl,s.o R)]++s.ffl.2)∧
   e1=[(0,.c (.ptr R.l 0)),(2,.c (.ptr x2 0)),(3,.c (.ptr gl 0)),(4,.c (.int .i64 (cnt-j)))]) cnt.toNat ?_ ?_))
 ·refine⟨0,k+2,⟨[],(.sl true 3 [],[]),[],true,0,v⟩,by omega,by omega,rfl,by omega,by omega,⟨?_,?_,?_,?_,by simp,by simp,by simp⟩,by simp,by simp only[Qa8];omega,.nil 3,kn,by simp⟩
  ·show -1≤(0:Int);omega
  ·show (0:Int)≤_;omega
  ·show _≤v;omega
  ·show v≤100;omega
 ·rintro n e1 H1 ⟨j,k4,s,hn,hj,hfl,hk4,hk4',hs,hfok,hsz,hgr,kn,rfl⟩;have hMj:M * j≤M * 2:=Jz _ (by omega);have hM1:M * (j+1)=M * j+M:=Jam _ _;have hG1:=kn.l 1 rfl;have hfow:=hgr.isOw;have hflen:=hgr.lenC;rw[Qbg]at hflen;refine Q5 ?_;refine Qa ?_;simp only[go_sem];refine Qh (Qd rfl ?_ ?_)
  ·intro hc;have hi:(j:Int)<cnt:=by simp at hc;omega
   refine Qf ?_;simp only[go_sem];refine Qh (Qc ?_);have hfok':=(hgr.okSl (B:=[_,_]) kn);have eg:List.getD [[C.str [102]],[C.str [103]],[C.str [104]]] s.fns.length []=[.str (List.getD [[102],[103],[104]] s.fns.length [])]:=Qib [[102],[103],[104]] _ (by simp;omega);have hl3:s.fns.length<3:=by omega
   refine Qao ?_;simp only[go_sem,hG1,GS.o,hfow,hflen,eq_true hfok',eg,hl3];refine Qbc (kn.e 0 rfl) (by omega) fun p H2 hp hu=>?_;have kn:Kn H H2 [(R.l,R.o (k4+1))] ([(x2,.st [.sl true 3 []]),(gl,s.o R)]++s.ffl.2):=kn.callE 0 rfl hu (R.o_ne _);rw[if_neg (by omega)]at hp;have hG2:=kn.l 1 rfl;have hfok2:=(hgr.okSl (B:=[_,_]) kn);simp only[go_sem,Qal8,hG2,GS.o,hfow,hflen,eq_true hfok2,eg,hl3];have hF:FnsOk H2 R gl s:=⟨hgr,fun q hq=>by
    have h1:=kn.get q (Jh _ (Jh _ hq));refine⟨h1.1,fun hh=>?_,fun hh=>?_⟩
    ·exact kn.usedE 0 rfl (hh▸kn.loc q (Jh _ hq))
    ·have:=kn.dL;rw[Jv]at this;exact (J9.1 this).2.2 gl (by simp) q.1 (Qah hq) hh.symm⟩
   refine Qaut hp.1 (by omega) (kn.e 0 rfl) (kn.l 1 rfl) hne (hs.mono (Jai k4)) hF (by omega) fun f s2 H5 k5 g1 g2 hu hs2 g3 g4 g5 g6 g7=>?_;have kn:=kn.callEL 0 1 rfl rfl hu (R.o_ne _) (GS.o_ne _ _);have kn:Kn H H5 [(R.l,R.o k5)] ([(x2,.st [.sl true 3 []]),(gl,s2.o R)]++s.ffl.2):=kn;simp only[go_sem,Qal7];intro x5 hx5 H6 h6;have kn:=kn.al hx5 h6;have kn:=kn.perm (L':=[(x2,_),(gl,_),(x5,_)]++s.ffl.2) (by
    simp only[Jr,Jq,Jj];exact .cons _ (.cons _ Ji))
   have hG6:=kn.l 1 rfl;have hx56:=kn.l 2 rfl;have hfok6:=(hgr.okSl (B:=[_,_,_]) kn);simp only[go_sem,Qal6,hG6,hx56,GS.o,g3,g4,hfow,hflen,eq_true hfok6,eg,hl3,Fn.cells];intro H7 h7;have kn:Kn H H7 [(R.l,R.o k5)] ([(x2,_),(gl,_),(x5,_)]++s.ffl.2):=kn.stL 2 rfl h7;have hG7:=kn.l 1 rfl;have hx57:=kn.l 2 rfl;refine Qbw ?_;simp only[go_sem,hG7,hx57,GS.o,g4,hfow];refine kn.grow (B:=[_,_,_]) (new:=[f.cells]) hgr (.mk' _ _ _ _) (by simp[f.noOw]) (by simp only[Qbg,LIM,Jl,Jo];omega) fun z H8 kn=>?_;have hG8:=kn.l 1 rfl;simp only[go_sem,Qal9,hG8,GS.o];intro H9 h9;have kn:=kn.stL 1 rfl h9;obtain⟨s9,hs9⟩:∃s9:GS,s9=GS.mk (s.fns++[f]) (C.vsl z 3 0 ((Qb3 s.fns).length+1),[(z,Obj.vec 3 (Qb3 s.fns++[f.cells]))]) s2.vars s2.vfl s2.next s2.left:=⟨_,rfl⟩;have ho9:s9.o R=.st [C.ptr R.l 0,C.vsl z 3 0 ((Qb3 s.fns).length+1),C.sl s2.vfl 1 (Qbi s2.vars),C.int IntKind.i64 s2.next,C.int IntKind.i64 s2.left]:=by rw[hs9];rfl
   rw[←ho9]at kn;have kn:Kn H H9 [(R.l,R.o k5)] [(x2,_),(gl,s9.o R),(x5,_),(z,_)]:=kn;have kn:=kn.perm4;refine Qr ?_;simp only[go_sem,X.next];have hkb:k5≤k+2+M * (j+1):=by rw[hM1];omega
   refine⟨Qp (by omega) (by omega),cnt.toNat-(j+1),by omega,j+1,k5,s9,rfl,by omega,by simp[hs9,hfl],by omega,hkb,?_,?_,?_,?_,by rw[hs9]at kn⊢;exact kn,?_⟩
   ·subst hs9;refine⟨hs2.n0,hs2.n1,hs2.l0,hs2.l1,hs2.v,fun f' hf'=>?_,by simp;omega⟩;rcases Jm.1 hf' with h|h
    ·exact hs.f f' h
    ·simp at h;subst h;exact g5
   ·subst hs9;intro f' hf';rcases Jm.1 hf' with h|h
    ·exact hfok f' h
    ·simp at h;subst h;exact g6
   ·subst hs9;simp only[Qio,Qa8];omega
   ·subst hs9;show Gr [(z,Obj.vec 3 (Qb3 s.fns++[f.cells]))] 3 (Qb3 (s.fns++[f])) _;rw[Qauq];exact .mk _ _ _ (by simp[Qbg])
   ·have:cnt-((j+1:Nat):Int)=cnt-j-1:=(by omega);rw[this]
  ·intro hc;refine Qv ?_;simp only[go_sem,X.next];have hkE:k4≤k+4002604:=by omega
   refine Qa ?_;simp only[go_sem];refine Qkg (ns:=[0,1,2,1]) (kn.e 0 rfl) (by omega) (by simp) fun p H2 hp hu=>?_;have kn:Kn H H2 [(R.l,R.o (k4+1))] ([(x2,.st [.sl true 3 []]),(gl,s.o R)]++s.ffl.2):=kn.callE 0 rfl hu (R.o_ne _);have hp2:0≤p∧p≤3:=by simp at hp;omega
   simp only[go_sem,Qabz];have hF:FnsOk H2 R gl s:=⟨hgr,fun q hq=>by
    have h1:=kn.get q (Jh _ (Jh _ hq));refine⟨h1.1,fun hh=>?_,fun hh=>?_⟩
    ·exact kn.usedE 0 rfl (hh▸kn.loc q (Jh _ hq))
    ·have:=kn.dL;rw[Jv]at this;exact (J9.1 this).2.2 gl (by simp) q.1 (Qah hq) hh.symm⟩
   refine Qaut hp2.1 hp2.2 (kn.e 0 rfl) (kn.l 1 rfl) hne (hs.mono (Jai k4)) hF (by omega) fun f s2 H5 k5 g1 g2 hu hs2 g3 g4 g5 g6 g7=>?_;have kn:=kn.callEL 0 1 rfl rfl hu (R.o_ne _) (GS.o_ne _ _);have kn:Kn H H5 [(R.l,R.o k5)] ([(x2,.st [.sl true 3 []]),(gl,s2.o R)]++s.ffl.2):=kn;simp only[go_sem,Qaby];intro x6 hx6 H6 h6;have kn:=kn.al hx6 h6;have kn:=kn.perm (L':=[(x2,_),(gl,_),(x6,_)]++s.ffl.2) (by
    simp only[Jr,Jq,Jj];exact .cons _ (.cons _ Ji))
   have hx66:=kn.l 2 rfl;simp only[go_sem,Qabx,hx66,Fn.cells];intro H7 h7;have kn:Kn H H7 [(R.l,R.o k5)] ([(x2,_),(gl,_),(x6,_)]++s.ffl.2):=kn.stL 2 rfl h7;have hG7:=kn.l 1 rfl;have hx67:=kn.l 2 rfl;have hfok7:=hgr.okSl (B:=[_,_,_]) kn;have hrows7:=hgr.rowsOf (B:=[_,_,_]) kn;have hesz:=hgr.elemSz;have hL:s.fns.length≤LIM:=by simp only[LIM];omega
   refine Qao ?_;simp only[go_sem,hG7,hx67,GS.o,g4,hfow,hflen,eq_true hfok7,hrows7,hesz,hL,Jf];refine⟨.inl trivial,Qaup _,fun y hy H8 h8=>?_⟩;have kn:=kn.al hy h8;have kn:=kn.perm (L':=([(x2,_),(gl,_),(x6,_)]++[(y,_)])++s.ffl.2) Qbue;have kn:=kn.drop;have hx68:=kn.l 2 rfl;have kn:Kn H H8 [(R.l,R.o k5)] [(x2,_),(gl,_),(x6,_),(y,_)]:=kn;have hy8:=kn.l 3 rfl;have etk:List.take s.fns.length (Qb3 s.fns)=Qb3 s.fns:=Jd (by rw[Qbg];omega);simp only[go_sem,Qab2,hx68,hy8,Qbg,etk];refine⟨by omega,by simp only[LIM];omega,fun z hz H9 h9=>?_⟩;have kn:Kn H H9 [(R.l,R.o k5)] [(x2,_),(gl,_),(x6,_),(z,.vec 3 (Qb3 s.fns++[f.cells]))]:=kn.ap 3 rfl hz h9;simp only[go_sem,Qab1];intro x7 hx7 H10 h10;have kn:=kn.al hx7 h10;have hG10:=kn.l 1 rfl;have hx6a:=kn.l 2 rfl;have hx7a:=kn.l 4 rfl;have kn:Kn H H10 [(R.l,R.o k5)] [(x2,_),(gl,_),(x6,_),(z,_),(x7,_)]:=kn;simp only[go_sem,Qab0,hG10,hx6a,hx7a,GS.o,g4,hfow];intro H11 h11;have kn:=kn.stL 4 rfl h11;have kn:Kn H H11 [(R.l,R.o k5)] ([(x2,.st [.sl true 3 []]),(x7,.st [.vsl z 3 0 (s.fns.length+1)])]++[(z,.vec 3 (Qb3 s.fns++[f.cells]))]):=
    (kn.perm (L':=([(x2,_),(x7,_)]++[(z,_)])++[(gl,_),(x6,_)]) (by
     simp only[List.set,Jr,Jq];refine .cons _ ?_;refine .trans (.cons _ (.cons _ (.swap _ _ _))) ?_;refine .trans (.cons _ (.swap _ _ _)) ?_;refine .trans (.swap _ _ _) ?_;refine .cons _ ?_;refine .trans (.cons _ (.swap _ _ _)) ?_;exact .swap _ _ _)).drop
   have hz11:=kn.l 2 rfl;have hx711:=kn.l 1 rfl;obtain⟨hfz,kn⟩:=kn.freeze 1 rfl (og':=.st [.sl false 3 (Qb3 (s.fns++[f]))]) (FrzKL.st (.cons rfl (by
    rw[←Qauq];exact Qav0 (by simp) hz11 (by simp[Qbg]) (noOw_mem (Qbo8 (Qaup _) (by simp[f.noOw])))) .nil)) (by simp)
   refine Q5 ?_;refine c_gh (Qkc _ (fun t=>?_) hfz) (e':=[(2,V.c (C.ptr x2 0)),(7,V.c (C.ptr x7 0))]) ?_
   ·simp only[lk];split
    ·exact .c _ _ (.same _ rfl)
    ·split
     ·exact .c _ _ (.same _ rfl)
     ·exact .unk _
   generalize ((H11.frz fun m=>m == z).set x7 (Obj.st [C.sl false 3 (Qb3 (s.fns++[f]))]))=H12 at *;have hx7b:=kn.l 1 rfl;have hx2b:=kn.l 0 rfl;have hpr:Qa8 (s.fns++[f])≤2^34:=by rw[Qio];simp only[Qa8];omega
   refine Qa ?_;simp only[go_sem,hx7b];refine Qaps (by omega) fun b=>?_;simp only[go_sem,Qab3];refine Qh (Qd rfl ?_ ?_)
   ·intro hc;refine Qa ?_;simp only[go_sem,hx2b];intro H13 h13;have kn:=kn.stL 0 rfl h13;have hx2c:=kn.l 0 rfl;refine Qj ?_;simp only[go_sem,Q4,Qaa,Qaw9,reduceIte,Ja,forall_eq,RS.op,hx2c];refine⟨.ag [.sl false 3 (Qb3 [Fn.mk [109] [] [St.mk 3 [] [Ex.mk 1 1 [] []] [] []]])],FrzL.ag ?_,hK _ _ k5 (by omega) (by omega) kn.fin ⟨by simp,by simp,?_,?_,by simp⟩⟩
    ·simp only[Qb3,Jaj,Jak,Fn.cells,Qavj,Qa3,St.cells,Qbl,Ex.cells]
     repeat' first|exact FrzL.nil|exact FrzR.nil|exact Qg rfl|exact FrzL.same (Ex.noOw _)|exact FrzL.same (St.noOw _)|refine FrzL.cons ?_ ?_|refine FrzR.cons ?_ ?_|refine FrzR.sl ?_
    ·intro f hf;simp at hf;subst hf;simp[Qcs,St.ok,Qd7,Ex.ok]
    ·simp[Qa8,Q0,St.size,Qaf,Ex.size]
   ·intro hc;refine Qf ?_;simp only[go_sem];refine Qa ?_;simp only[go_sem,hx2b,hx7b];intro H13 h13;have kn:=kn.stL 0 rfl h13;have hx2c:=kn.l 0 rfl;refine Qj ?_;simp only[go_sem,Q4,Qaa,Qaw9,reduceIte,Ja,forall_eq,RS.op,hx2c];refine⟨.ag [.sl false 3 (Qb3 (s.fns++[f]))],FrzL.ag (.cons (Qg rfl) .nil),hK _ _ k5 (by omega) (by omega) kn.fin ⟨by simp,?_,?_,hpr,by simp;omega⟩⟩
    ·intro f' hf';rcases Jm.1 hf' with h|h
     ·exact hs.f f' h
     ·simp at h;subst h;exact g5
    ·intro f' hf';rcases Jm.1 hf' with h|h
     ·exact hfok f' h
     ·simp at h;subst h;exact g6
variable {F H:Heap}{w:Nat}{s:LS}{K:V→Heap→Prop}
structure LStep (s s':LS)(d:Nat):Prop where
 bl:s.blocks.length≤s'.blocks.length
 ok:∀N,s.ok N→s'.ok (N+d)
 vl:s.vars.length≤s'.vars.length
 at_:s.at_<s.blocks.length→s'.at_<s'.blocks.length
 fn:s'.fns=s.fns∧s'.pfl=s.pfl
theorem LStep.trans {s s' s'':LS}{d e:Nat}(h:LStep s s' d)(k:LStep s' s'' e):LStep s s'' (d+e):=
 ⟨Jaa h.bl k.bl,fun N hN=>by rw[←Nat.add_assoc];exact k.ok _ (h.ok N hN),Jaa h.vl k.vl,fun ha=>k.at_ (h.at_ ha),k.fn.1.trans h.fn.1,k.fn.2.trans h.fn.2⟩
theorem LStep.refl (s:LS):LStep s s 0:=⟨Jg _,fun N h=>h,Jg _,fun h=>h,rfl,rfl⟩
theorem LStep.mono {s s':LS}{d e:Nat}(h:LStep s s' d)(hd:d≤e):LStep s s' e:=⟨h.bl,fun N hN=>(h.ok N hN).mono (by omega),h.vl,h.at_,h.fn⟩
theorem Qsg {N:Nat}(h:LInv F H w s)(hok:s.ok N)(hN:N+1≤2^38)(hK:∀(s':LS) (H':Heap),LInv F H' w s'→LStep s s' 1→K (.c (.int .i64 s.regs)) H') :
  Qo prog Qa4 [.c (.ptr w 0)] H K:=by
 have hw:=h.hw;have h0:=hok.r0;have h1:=hok.r1;refine Qb Qap Qawx ?_;refine Qa ?_;simp only[go_sem];refine Qa ?_;simp only[go_sem,hw,LS.o];refine⟨Qp (by omega) (by omega),fun H1 h1'=>?_⟩;have h':LInv F H1 w { s with regs:=s.regs+1 }:=h.setw h1' rfl rfl rfl rfl h.gv h.rv;have hw1:=h'.hw;refine Qa ?_;simp only[go_sem,hw1,LS.o];refine⟨Qp (by omega) (by omega),?_⟩;refine Qj ?_;simp only[go_sem,Q4,Qaa,Q3f,reduceIte,Ja,forall_eq,RS.op];refine hK _ H1 h' ⟨Jg _,fun M hM=>⟨?_,?_,hM.n0,?_,?_,?_,?_⟩,Jg _,fun h=>h,rfl,rfl⟩
 ·have:=hM.r0;show 0≤s.regs+1;omega
 ·have:=hM.r1;show s.regs+1≤_;omega
 ·have:=hM.n1;show s.next≤_;omega
 ·have:=hM.b1;show s.blocks.length≤_;omega
 ·intro b hb;have:=hM.i1 b hb;omega
 ·have:=hM.v1;show s.vars.length≤_;omega
theorem Qazv {N:Nat}(h:LInv F H w s)(hok:s.ok N)(hN:N+1≤2^38)(hK:∀(s':LS) (H':Heap),LInv F H' w s'→LStep s s' 1→s.blocks.length<s'.blocks.length→s'.at_=s.at_→K (.c (.int .i64 s.blocks.length)) H') :
  Qo prog Qaq [.c (.ptr w 0)] H K:=by
 have hw:=h.hw;have hb1:=hok.b1;have hbow:=h.gb.isOw;refine Qb Qap Qaww ?_;refine Qa ?_;simp only[go_sem];refine Qa ?_;simp only[go_sem,hw,LS.o,hbow];refine h.addBlk (b:=⟨.sl true 4 [],[],[],0,0,true,[]⟩) (by simp only[LIM];omega) rfl rfl rfl fun y H1 hw1 cont=>?_;simp only[go_sem,Qph,hw1,LS.o];intro H2 h2;have h':=cont H2 h2;have hw2:=h'.hw;obtain⟨y2,hv1,hv2,hv3⟩:=h'.bvec (by simp);simp only[C.vsl.injEq]at hv1;obtain⟨rfl,_⟩:=hv1;refine Qa ?_;simp only[go_sem,hw2,LS.o,hv3,Je,List.length_append];refine⟨by omega,fun hl=>⟨Qp (by omega) (by omega),?_⟩⟩;refine Qj ?_;simp only[go_sem,Q4,Qaa,Q3e,reduceIte,Ja,forall_eq,RS.op];have e1:(((s.blocks.length+1:Nat):Int)-1)=s.blocks.length:=by omega
 rw[e1];refine hK _ H2 h' ⟨by simp,fun M hM=>⟨hM.r0,?_,hM.n0,?_,?_,?_,?_⟩,Jg _,fun ha=>by simp;show s.at_<_;omega,rfl,rfl⟩ (by simp) rfl
 ·have:=hM.r1;show s.regs≤_;omega
 ·have:=hM.n1;show s.next≤_;omega
 ·have:=hM.b1;simp;omega
 ·intro b hb;rcases Jm.1 hb with hb|hb
  ·have:=hM.i1 b hb;omega
  ·simp at hb;subst hb;simp
 ·have:=hM.v1;show s.vars.length≤_;omega
theorem Qgn {N:Nat}(h:LInv F H w s)(hok:s.ok N)(hN:N+1≤2^38)(hK:∀(s':LS) (H':Heap),LInv F H' w s'→LStep s s' 1→s.blocks.length<s'.blocks.length→K (.c (.int .i64 s.blocks.length)) H') :
  Qo prog Qaq [.c (.ptr w 0)] H K:=Qazv h hok hN fun s' H' a b c _=>hK s' H' a b c
theorem Q6z {N:Nat}{op to n:Int}{fl:Bool}{args:List Int}(h:LInv F H w s)(hat:s.at_<s.blocks.length)(hok:s.ok N)(hN:N+1≤2^38)
  (hK:∀(s':LS) (H':Heap),LInv F H' w s'→LStep s s' 1→K (.c (.int .i64 to)) H') :
  Qo prog Qav [.c (.ptr w 0),.c (.int .i64 op),.c (.int .i64 to),.c (.int .i64 n),.c (.sl fl 1 (Qe args))] H K:=by
 have hw:=h.hw;obtain⟨y,hbc,hlb,hy⟩:=h.bvec (by omega);have hm:=Jc hat;have hi1:=hok.i1 _ hm;have hiow:=(h.gi _ hm).isOw;have hg1:List.getD (List.map Blk.row s.blocks) s.at_ []=s.blocks[s.at_].row:=by simp[Jb,hat]
 have hg2:List.getD (List.take s.blocks.length (List.map Blk.row s.blocks)) s.at_ []=s.blocks[s.at_].row:=by
  rw[Jd (by simp)];exact hg1
 refine Qb Qap Qa69 ?_;refine Qa ?_;simp only[go_sem];refine Qao ?_;simp only[go_sem,hw,LS.o,hbc,hy,hat,Jf,Je];refine Qa ?_;simp only[go_sem,hw,LS.o,hbc,hy,hat,hg2,Blk.row,hiow,Jf,Je];refine h.addIns hat hbc hlb ⟨op,to,n,fl,args,rfl⟩ (by simp only[LIM];omega) fun z H1 hw1 hy1 cont=>?_;simp only[go_sem,Q0b,hy1,hg1,hat,Blk.row,Jf,Je];intro H2 h2;obtain⟨b',hb',h'⟩:=cont H2 h2;refine Qa ?_;simp only[go_sem];refine Qj ?_;simp only[go_sem,Q4,Qaa,Qaiy,reduceIte,Ja,forall_eq,RS.op];refine hK _ H2 h' ⟨by simp,fun M hM=>⟨hM.r0,?_,hM.n0,?_,?_,?_,?_⟩,Jg _,fun ha=>by simp;show s.at_<_;omega,rfl,rfl⟩
 ·have:=hM.r1;show s.regs≤_;omega
 ·have:=hM.n1;show s.next≤_;omega
 ·have:=hM.b1;simp;omega
 ·intro b hb;rcases Qfh hb with rfl|hb
  ·have:=hM.i1 _ hm;omega
  ·have:=hM.i1 b hb;omega
 ·have:=hM.v1;show s.vars.length≤_;omega
theorem Qy1 {N:Nat}{kind on:Int}{at':Nat}{fl:Bool}{next:List Int}(h:LInv F H w s)(hat:s.at_<s.blocks.length)(hat':at'<s.blocks.length)
  (hK:∀(s':LS) (H':Heap),LInv F H' w s'→LStep s s' 0→K (.tup []) H') :
  Qo prog Qa0 [.c (.ptr w 0),.c (.int .i64 kind),.c (.int .i64 on),.c (.sl fl 1 (Qe next)),.c (.int .i64 at')] H K:=by
 have hw:=h.hw;obtain⟨y,hbc,hlb,hy⟩:=h.bvec (by omega);have hm:=Jc hat;have hg1:List.getD (List.map Blk.row s.blocks) s.at_ []=s.blocks[s.at_].row:=by simp[Jb,hat]
 refine Qb Qap Qa0t ?_;refine Qao ?_;simp only[go_sem,hw,LS.o,hbc,hy,hat,Jf,Je];refine Qa ?_;simp only[go_sem,hy,hg1,hat,Blk.row,Jf,Je];intro H1 h1;have h1:H1=H.set y (.vec 5 ((s.blocks.set s.at_ { s.blocks[s.at_]with jump:=kind }).map Blk.row)):=by rw[h1,←Qaia];rfl
 have hv:=h.setBlk hat hbc hlb h1 rfl rfl rfl;obtain⟨b1,hb1,hb1l,hb1i⟩:∃b1:Blk,b1={ s.blocks[s.at_]with jump:=kind }∧b1.irows=s.blocks[s.at_].irows∧b1.ic=s.blocks[s.at_].ic:=⟨_,rfl,rfl,rfl⟩;rw[←hb1]at hv h1;have hy1:H1 y=.vec 5 ((s.blocks.set s.at_ b1).map Blk.row):=by rw[h1];exact Heap.set_same _ _ _
 have hg2:List.getD ((s.blocks.set s.at_ b1).map Blk.row) s.at_ []=b1.row:=by simp[Jb,hat]
 refine Qa ?_;simp only[go_sem,hy1,hg2,hat,Blk.row,Jf,Je,Jah];intro H2 h2;have h2:H2=H1.set y (.vec 5 (((s.blocks.set s.at_ b1).set s.at_ { b1 with on:=on }).map Blk.row)):=by rw[h2];simp only[Jt];rfl
 have hv:=hv.setBlk (i:=s.at_) (b':={ b1 with on:=on }) (by simpa using hat) (by simpa using hbc) (by rfl) h2 (by simp) (by simp) (by simp);simp only[Jal]at hv h2;obtain⟨b2,hb2,hb2i⟩:∃b2:Blk,b2={ b1 with on:=on }∧b2.irows=b1.irows:=⟨_,rfl,rfl⟩;rw[←hb2]at hv h2;have hy2:H2 y=.vec 5 ((s.blocks.set s.at_ b2).map Blk.row):=by rw[h2];exact Heap.set_same _ _ _
 have hg3:List.getD ((s.blocks.set s.at_ b2).map Blk.row) s.at_ []=b2.row:=by simp[Jb,hat]
 refine Qa ?_;simp only[go_sem,hy2,hg3,hat,Blk.row,Jf,Je,Jah];intro H3 h3;have h3:H3=H2.set y (.vec 5 (((s.blocks.set s.at_ b2).set s.at_ { b2 with next:=next,nfl:=fl }).map Blk.row)):=by rw[h3];simp only[Jt];rfl
 have hv:=hv.setBlk (i:=s.at_) (b':={ b2 with next:=next,nfl:=fl }) (by simpa using hat) (by simpa using hbc) (by rfl) h3 (by simp) (by simp) (by simp);simp only[Jal]at hv;have hw3:=hv.hw;refine Qr ?_;simp only[go_sem,hw3,LS.o];intro H4 h4;have h':=hv.setw (s':={ s with lb:=[(y,.vec 5 ((s.blocks.set s.at_ { b2 with next:=next,nfl:=fl }).map Blk.row))],blocks:=s.blocks.set s.at_ { b2 with next:=next,nfl:=fl },at_:=at' }) h4 rfl rfl rfl rfl hv.gv hv.rv;simp only[Q4,Qaa,Qaaj];refine⟨by simp,hK _ H4 h' ⟨by simp,fun M hM=>⟨hM.r0,hM.r1,hM.n0,hM.n1,?_,?_,hM.v1⟩,Jg _,fun ha=>by simpa using hat',rfl,rfl⟩⟩
 ·have:=hM.b1;simpa using this
 ·intro b hb;rcases Qfh hb with rfl|hb
  ·show b2.irows.length≤_;rw[hb2i,hb1l];exact hM.i1 _ hm
  ·exact hM.i1 b hb
theorem Qbtd {l:List Fn}{fl:Bool}{name:List UInt8}(hK:∀n:Int,K (.c (.int .i64 n)) H):Qo prog Q6q [.ag [.sl fl 3 (Qb3 l)],.c (.str name)] H K:=by
 refine Qb Qap Qbkr ?_;have retf:∀(n:Int) (e:Env),lk 4 e=.c (.int .i64 n)→Q4 Qaiz K .ret e H:=by
  intro b e h1;simp only[go_sem,Q4,Qaa,Qaiz,Ja,forall_eq,RS.op,h1];exact hK _
 refine Qa ?_;simp only[go_sem];refine Q5 ?_;refine Qa ?_;simp only[go_sem];refine Qh (Qc (Qu (fun n e1 H1=>∃(i:Nat),n=l.length-i∧i≤l.length∧H1=H∧e1=[(1,.c (.str name)),(2,.c (.pp [.sl fl 3 (Qb3 l)])),(5,.c (.int .i64 i))]) l.length ?_ ?_))
 ·exact⟨0,by omega,by omega,rfl,rfl⟩
 ·rintro n e1 H1 ⟨i,hn1,hi,rfl,rfl⟩;refine Q5 ?_;refine Qa ?_;simp only[go_sem,Qbg];intro hl;simp only[LIM]at hl;refine Qh (Qd rfl ?_ ?_)
  ·intro hc;have hlt:i<l.length:=by simpa using hc
   refine Qf ?_;simp only[go_sem];refine Qh (Qc ?_);refine Qa ?_;simp only[go_sem,hlt,Qbg,Qg7 _ _ hlt,Fn.cells];refine Qd rfl ?_ ?_
   ·intro hc2;refine Qa ?_;simp only[go_sem];refine Qj ?_;simp only[go_sem,X.next];exact retf _ _ (by simp[lk];rfl)
   ·intro hc2;refine Qf ?_;simp only[go_sem];refine Qr ?_;simp only[go_sem,X.next];exact⟨Qp (by omega) (by omega),l.length-(i+1),by omega,i+1,rfl,by omega,rfl⟩
  ·intro hc;refine Qv ?_;simp only[go_sem,X.next];refine Qa ?_;simp only[go_sem];refine Qj ?_;exact retf _ _ (by simp[lk];rfl)
theorem Qbuf {name:List UInt8}(h:LInv F H w s)(hK:∀n:Int,K (.c (.int .i64 n)) H):Qo prog Qik [.c (.ptr w 0),.c (.str name)] H K:=by
 have hw:=h.hw;obtain⟨hv1,hv2⟩:=h.vget;have hvl:=h.gv.lenC;have hve:=h.gv.elemSz;have hvo:=h.gv.isOw;refine Qb Qap Qa7a ?_;have retf:∀(n:Int) (e:Env),lk 4 e=.c (.int .i64 n)→Q4 Q01 K .ret e H:=by
  intro b e h1;simp only[go_sem,Q4,Qaa,Q01,Ja,forall_eq,RS.op,h1];exact hK _
 refine Qa ?_;simp only[go_sem];refine Q5 ?_;refine Qa ?_;simp only[go_sem,hw,LS.o,hv1,hvl,hvo];intro hl;simp only[LIM]at hl;refine⟨Qp (by omega) (by omega),?_⟩;refine Qh (Qc (Qu (fun n e1 H1=>∃(j:Nat),n=j∧j≤s.vars.length∧H1=H∧e1=[(0,.c (.ptr w 0)),(1,.c (.str name)),(5,.c (.int .i64 ((j:Int)-1)))]) s.vars.length ?_ ?_))
 ·exact⟨s.vars.length,rfl,by omega,rfl,rfl⟩
 ·rintro n e1 H1 ⟨j,hnj,hj,rfl,rfl⟩;refine Q5 ?_;refine Qa ?_;simp only[go_sem];refine Qh (Qd rfl ?_ ?_)
  ·intro hc;have hj1:1≤j:=by simp at hc;omega
   obtain⟨i,rfl⟩:∃i,j=i+1:=⟨j-1,by omega⟩;have e1:(((i+1:Nat):Int)-1)=(i:Int):=by omega
   have hlt:i<s.vars.length:=by omega
   obtain⟨nm,a,b,hr⟩:=h.rv _ (Jc hlt);have hr':List.getD s.vars i []=[.str nm,.int .i64 a,.int .i64 b]:=by rw[←hr];simp[Jb,hlt]
   rw[e1]at hc⊢;refine Qf ?_;simp only[go_sem];refine Qh (Qc ?_);refine Qa ?_;simp only[go_sem,hw,LS.o,hv1,hv2,hvl,hvo,hve,hlt,hr'];refine Qd rfl ?_ ?_
   ·intro hc2;refine Qa ?_;simp only[go_sem,hw,LS.o,hv1,hv2,hvl,hvo,hve,hlt,hr'];refine Qj ?_;simp only[go_sem,X.next];exact retf _ _ (by simp[lk];rfl)
   ·intro hc2;refine Qf ?_;simp only[go_sem];refine Qr ?_;simp only[go_sem,X.next];exact⟨Qp (by omega) (by omega),i,by omega,i,rfl,by omega,rfl⟩
  ·intro hc;refine Qv ?_;simp only[go_sem,X.next];refine Qa ?_;simp only[go_sem];refine Qj ?_;exact retf _ _ (by simp[lk];rfl)
def Qbm5 (n:Nat):Prop:=∀(x:Ex) (F H:Heap) (w:Nat) (s:LS) (N:Nat) (K:V→Heap→Prop),x.size≤n→x.ok→LInv F H w s→s.at_<s.blocks.length→s.ok N→N+10 * x.size≤2^38→
  (∀(v:Int) (s':LS) (H':Heap),LInv F H' w s'→LStep s s' (10 * x.size)→K (.c (.int .i64 v)) H')→Qo prog Qb2 [.c (.ptr w 0),.ag x.cells] H K
def AndL (n:Nat):Prop:=∀(x:Ex) (F H:Heap) (w:Nat) (s:LS) (N:Nat) (K:V→Heap→Prop),x.size≤n→x.ok→x.op=10→LInv F H w s→s.at_<s.blocks.length→s.ok N→N+10 * x.size≤2^38→
  (∀(v:Int) (s':LS) (H':Heap),LInv F H' w s'→LStep s s' (10 * x.size)→K (.c (.int .i64 v)) H')→Qo prog Qsb [.c (.ptr w 0),.ag x.cells] H K
theorem Qbth {n:Nat}(hE:∀m,m<n→Qbm5 m):AndL n:=by
 intro x F H w s N K hn hok hop h hat hsok hN hK;have hsz:=x.size_kids;have hk2:=Ex.ok_and hok hop;have hkok:=Ex.ok_kids hok;obtain⟨a,b,hab⟩:∃a b,x.kids=[a,b]:=by
  match hx:x.kids,hk2 with
  |[a,b],_=>exact⟨a,b,rfl⟩
 rw[hab]at hsz hkok;simp only[Qaf,Qd7]at hsz hkok;refine Qb Qap Qa68 ?_;refine Qa ?_;simp only[go_sem,x.cells_eq];refine Qa ?_;simp only[go_sem,hab,Qbl,Ex.take4,Ex.allOw,Ex.cells_len,Jx];refine⟨by omega,?_⟩;refine hE a.size (by omega) a F H w s N _ (Jg _) hkok.1 h hat hsok (by omega) fun va s1 H1 h1 st1=>?_;simp only[go_sem,Qz3];refine Qa ?_;simp only[go_sem];refine Qsg h1 (st1.ok _ hsok) (by omega) fun s2 H2 h2 st2=>?_;have st2:=st1.trans st2;simp only[go_sem,Qz5];refine Q6z (args:=[]) h2 (st2.at_ hat) (st2.ok _ hsok) (by omega) fun s3 H3 h3 st3=>?_;have st3:=st2.trans st3;simp only[go_sem,Qz4];refine Qa ?_;simp only[go_sem];refine Qgn h3 (st3.ok _ hsok) (by omega) fun s4 H4 h4 st4 hb4=>?_;have st4':=st4;have st4:=st3.trans st4;simp only[go_sem,Qz6];refine Qa ?_;simp only[go_sem];refine Qgn h4 (st4.ok _ hsok) (by omega) fun s5 H5 h5 st5 hb5=>?_;have st5:=st4.trans st5;simp only[go_sem,Qz7];refine Qa ?_;simp only[go_sem];refine Qy1 (next:=[(s3.blocks.length:Int),(s4.blocks.length:Int)]) (N:=0) h5 (st5.at_ hat) (by omega) fun s6 H6 h6 st6=>?_;have hb6:=st6.bl;have st6:=st5.trans st6;refine Qa ?_;simp only[go_sem,hab,Qbl,Ex.take4,Ex.allOw,Ex.cells_len,Jx,J6];refine⟨by omega,?_⟩;refine hE b.size (by omega) b F H6 w s6 _ _ (Jg _) hkok.2.1 h6 (st6.at_ hat) (st6.ok _ hsok) (by omega) fun vb s7 H7 h7 st7=>?_;have hb7:=st7.bl;have st7:=st6.trans st7;simp only[go_sem,Qz8];refine Qa ?_;simp only[go_sem];refine Qsg h7 (st7.ok _ hsok) (by omega) fun s8 H8 h8 st8=>?_;have hb8:=st8.bl;have st8:=st7.trans st8;simp only[go_sem,Q0a];refine Q6z (args:=[vb]) h8 (st8.at_ hat) (st8.ok _ hsok) (by omega) fun s9 H9 h9 st9=>?_;have hb9:=st9.bl;have st9:=st8.trans st9;simp only[go_sem,Qz9];refine Qa ?_;simp only[go_sem];refine Q6z (args:=[s7.regs]) h9 (st9.at_ hat) (st9.ok _ hsok) (by omega) fun s10 H10 h10 st10=>?_;have hb10:=st10.bl;have st10:=st9.trans st10;refine Qa ?_;simp only[go_sem];refine Qy1 (next:=[(s4.blocks.length:Int)]) (N:=0) h10 (st10.at_ hat) (by omega) fun s11 H11 h11 st11=>?_;have st11:=st10.trans st11;refine Qa ?_;simp only[go_sem];refine Qj ?_;simp only[go_sem,Q4,Qaa,Qaix,reduceIte,Ja,forall_eq,RS.op];exact hK _ s11 H11 h11 (st11.mono (by omega))
end Go.AE.Y
