/- Part 4 of the proof: the engine, codes, walks and plain laws, each named where it stands. -/
import Derived.Test.YtdlbfkfpogdiiaaGreatDoorZC
open Nat (reduceEqDiff reduceAdd reduceLeDiff reduceLT)
set_option linter.unusedVariables false
set_option linter.unusedSimpArgs false
set_option maxRecDepth 4000
set_option maxHeartbeats 8000000
open Bool renaming and_eq_true->Jq,eq_iff_iff->Ju,true_and->Jw,true_or->J5,false_or->J6,and_eq_false_iff->Jai,or_eq_true->Jaj,not_eq_true'->Jan,and_assoc->Jaw
open Int renaming toNat_natCast->Jao
open List renaming mem_singleton->Ja,take_of_length_le->Jb,mem_append_left->Jc,take_succ_eq_append_getElem->Jd,getElem_mem->Je,getD_eq_getElem?_getD->Jf,mem_cons_of_mem->Jg,mem_cons->Jh,getD_cons_zero->Ji,mem_append_right->Jj,getD_cons_succ->Jk,mem_append->Jl,mem_map->Jm,length_cons->Jn,append_assoc->Jo,length_nil->Jp,not_mem_nil->Jr,mem_cons_self->Js,map_append->Jv,forall_mem_cons->Jx,all_eq_true->Jy,length_take->Jz,contains_iff_mem->J0,map_cons->J1,any_eq_true->J3,getElem?_cons_zero->J7,nodup_append->J8,all_cons->J9,drop_succ_cons->Jaa,nil_append->Jab,all_nil->Jad,drop_zero->Jae,getElem?_eq_getElem->Jaf,getElem?_cons_succ->Jag,nodup_cons->Jal,map_nil->Jap,filter_cons->Jaq,take_length->Jar,all_append->Jas,filter_nil->Jat,length_map->Jau,headD_nil->Jax,map_map->Jay
open List.cons renaming injEq->Jak
open Nat renaming le_refl->Jt,min_eq_left->Jam,lt_or_ge->Jaz,zero_add->Ja0
open Option renaming getD_some->J4,map_some->Jac,getD_none->Jah,map_none->Jav
open Option.some renaming injEq->J2
namespace Go.AE.Y
open Go.Proofs.Tryz
def Qls:List Item:=[oJ 13 12]
def Q8h:SC:=cT 13 (sR [zJ 2 1] [2] .ret) .skip
def Qlt:List Item:=[mJ 3 16]
def Qlu:List Item:=[mJ 4 22,sJ 3 5 24]
def Qlv:List Item:=[mJ 33 4,bJ 34 .lss 32 33]
def Q8i:SC:=cT 34 (.reg [mJ 35 3,aJ 36 Qaz [.t 35,kI 2]] [1,3,5,18,19,20]) .skip
def Qlw:List Item:=[mJ 6 37]
def Q8j:SC:=cT 54 (.reg [mJ 55 3,aJ 56 Qaz [.t 55,kI 2]] [1,3,5,6,8,18,19,20,39,40,41]) .skip
def Q8k:SC:=sR [mJ 54 10] [1,3,5,6,8,18,19,20,39,40,41,54] Q8j
def Qog:SC:=.reg [mJ 57 6,kJ 58 57,fJ 59 0 58,lJ 60 59,mJ 61 8,.e none none (.upd 1 (.t 60) (.t 61) (kI 0))] [1,3,5,6,18,19,20,39,40,41]
def Q4k:SC:=.seq (sR [mJ 46 6,kJ 47 46,fJ 48 0 47,lJ 49 48,mJ 50 8,fI 51 (.lup2 1 (.c (.int .i64 0)) (.t 49) (.t 50)),mJ 45 51,fI 52 (.ext (.t 45) 0),fI 53 (.ext (.t 45) 1),mJ 9 52,mJ 10 53] [1,3,5,6,8,10,18,19,20,39,40,41] Q8k) Qog
def Qlo:SC:=.reg [cJ 62 .add 41 1,mJ 41 62] [1,3,5,6,18,19,20,39,40,41]
def Q4l:SC:=.seq (.block 3 (sR [iJ 43 1 39 41,lJ 44 43,mJ 8 44] [1,3,5,6,8,18,19,20,39,40,41] Q4k)) Qlo
def Qy6:SC:=sR [bJ 42 .lss 41 40] [1,3,5,6,18,19,20,39,40,41,42] (cX 42 2 Q4l)
def Qlp:SC:=.reg [mJ 63 3,fJ 64 2 5,lJ 65 64,mJ 66 6,aJ 67 Qcb [.t 63,.t 65,.t 66]] [1,3,18,19,20]
def Q4m:SC:=.seq (sR [fJ 38 1 5,lJ 39 38,nJ 40 39,zJ 41 0] [1,3,5,6,18,19,20,39,40,41] (bL 2 Qy6)) Qlp
def Qlq:SC:=sR (aJ 37 Qam [.k (.c .pnil)]::Qlw) [1,3,5,6,18,19,20] Q4m
def Qlr:SC:=.seq (sR (tJ 29 1 1::fJ 30 0 5::lJ 31 30::aJ 32 Qqu [.t 29,.t 31]::Qlv) [1,3,5,18,19,20,34] Q8i) Qlq
def Q4n:SC:=sR [mJ 25 3,mJ 26 4,kJ 27 25,fJ 28 1 27,sJ 1 28 26] [1,3,4,5,18,19,20] Qlr
def Q4o:SC:=.reg [cJ 68 .add 20 1,mJ 20 68] [1,3,18,19,20]
def Q4p:SC:=.seq (.block 1 (sR (mJ 22 20::iJ 23 3 18 20::tJ 24 3 23::eI 5 (.alloc [.str [],.sl true 1 [],.sl true 5 []])::Qlu) [1,3,4,5,18,19,20] Q4n)) Q4o
def Qy7:SC:=sR [bJ 21 .lss 20 19] [1,3,18,19,20,21] (cX 21 0 Q4p)
def Q4q:SC:=sR [mJ 69 3,kJ 70 69,fJ 71 2 70,lJ 72 71,mJ 2 72] [2] .ret
def Q4r:SC:=.seq (sR [fJ 17 0 1,lJ 18 17,nJ 19 18,zJ 20 0] [1,3,18,19,20] (bL 0 Qy7)) Q4q
def Q4s:SC:=sR (tJ 14 1 1::fI 15 (.bld [.sl true 3 [],.int .i64 0,.int .i64 0] [(0,1,.t 14)])::eI 16 (.boxm (.t 15))::Qlt) [1,3] Q4r
def Q4t:SC:=.seq (sR (tJ 11 1 1::aJ 12 Qg4 [.t 11]::Qls) [1,13] Q8h) Q4s
def Qad3:SC:=sR [vJ 1 0,zJ 2 0] [1] Q4t
theorem Qadg:mFn prog Qg2 1 73 Qad3 Qfh=true:=by kernel_rfl
def Qri:List Item:=[mJ 6 8,fI 9 (.ext (.t 6) 0),fI 10 (.ext (.t 6) 1),fI 11 (.ext (.t 6) 2),mJ 3 9,mJ 4 10,mJ 5 11]
def Qahx:SC:=sR [mJ 12 5,mJ 2 12] [2] .ret
def Qahy:SC:=sR (tJ 7 4 1::aJ 8 Qjk [.t 7,kI 6]::Qri) [5] Qahx
def Qasm:SC:=sR [vJ 1 0,fB 2 false] [1] Qahy
theorem Qar6:mFn prog Qnw 1 13 Qasm Qfh=true:=by kernel_rfl
def Qagi:List Item:=[mJ 4 8]
def Qa6v:SC:=sR (fJ 5 0 2::lJ 6 5::fI 7 (.mkf Qg3 [.t 3])::aJ 8 Qcm [.t 6,.t 7]::Qagi) [4] .ret
def Qbix:SC:=sR [vJ 2 0,vJ 3 1,zJ 4 0] [2,3] Qa6v
theorem Qbhz:mFn prog Qqu 2 9 Qbix Qpr=true:=by kernel_rfl
def Qasn:SC:=sR [fJ 4 0 2,lJ 5 4,lJ 6 1,bJ 7 .eql 5 6,mJ 3 7] [3] .ret
def Qa2r:SC:=sR [vJ 2 0,fB 3 false] [1,2] Qasn
theorem Qa1m:mFn prog Qg3 2 8 Qa2r Q6y=true:=by kernel_rfl
def Qjp:List Item:=[gT 15 11 (.not (.t 14)),pF 16 11 15,mJ 2 16]
def Qjq:List Item:=gT 9 6 (.bin 0 .lss (.t 8) (kI 0))::pF 10 6 9::mJ 11 10::gT 12 11 (.aslg 9 Qhg Qhg)::gTm 13 11 0::.e (some 14) (some (11,true)) (.call Qee [.t 12,.t 13])::Qjp
def Qqk:List Item:=mJ 6 5::gTm 7 6 0::.e (some 8) (some (6,true)) (.call Qe2 [.t 7,.k (.c (.fn Qc2 []))])::Qjq
def Qay3:SC:=sR (mJ 3 0::fI 4 (.lens (.t 3))::aJ 5 Qav [.t 4,kI 1,kI 4]::Qqk) [2] .ret
def Qa6w:SC:=sR [fB 2 false] [0] Qay3
theorem Qa6f:mFn prog Qd7 1 17 Qa6w Qfh=true:=by kernel_rfl
def Qahz:SC:=sR [mJ 3 0,fI 4 (.bin 0 .lss (.t 3) (.k (.c (.int .i32 97)))),mJ 5 4,gFm 6 5 0,gF 7 5 (.bin 0 .gtr (.t 6) (.k (.c (.int .i32 122)))),pT 8 5 7,mJ 2 8] [2] .ret
def Qaso:SC:=sR [fB 2 false] [0] Qahz
theorem Qar7:mFn prog Qc2 1 9 Qaso Qfh=true:=by kernel_rfl
def Ql6:List Item:=[oJ 11 10]
def Q8n:SC:=cT 11 (sR [fB 2 false] [2] .ret) .skip
def Ql7:List Item:=[sJ 3 4 18]
def Qb3:List Item:=[gF 38 34 (.not (.t 37)),pT 39 34 38]
def Qb4:List Item:=pT 33 29 32::mJ 34 33::gFf 35 34 2 4::gFl 36 34 35::.e (some 37) (some (34,false)) (.call Qg5 [.t 36,kI 1])::Qb3
def Qc0:List Item:=oJ 22 21::mJ 23 22::gFf 24 23 1 4::gFl 25 23 24::gF 26 23 (.len (.t 25))::gF 27 23 (.bin 0 .gtr (.t 26) (kI 3))::pT 28 23 27::mJ 29 28::gFf 30 29 1 4::gFl 31 29 30::.e (some 32) (some (29,false)) (.call Qcx [.t 31,.k (.c (.fn Qd9 []))])::Qb4
def Qoh:SC:=cT 39 (sR [fB 2 false] [2] .ret) .skip
def Q8o:SC:=sR (fJ 19 0 4::lJ 20 19::aJ 21 Qd7 [.t 20]::Qc0) [1,13,14,15,39] Qoh
def Qoi:SC:=.reg [cJ 40 .add 15 1,mJ 15 40] [1,13,14,15]
def Q8p:SC:=.seq (.block 1 (sR (iJ 17 3 13 15::tJ 18 3 17::eI 4 (.alloc [.str [],.sl true 1 [],.sl true 5 []])::Ql7) [1,4,13,14,15] Q8o)) Qoi
def Qzb:SC:=sR [bJ 16 .lss 15 14] [1,13,14,15,16] (cX 16 0 Q8p)
def Qj8:List Item:=[mJ 41 43,fI 44 (.ext (.t 41) 0),fI 45 (.ext (.t 41) 1),mJ 5 44,mJ 6 45]
def Q4z:SC:=sR [mJ 46 5,cJ 47 .leq 46 40,mJ 2 47] [2] .ret
def Ql5:SC:=sR (tJ 42 1 1::aJ 43 Qs6 [.t 42]::Qj8) [5] Q4z
def Q40:SC:=.seq (sR [fJ 12 0 1,lJ 13 12,nJ 14 13,zJ 15 0] [1,13,14,15] (bL 0 Qzb)) Ql5
def Q41:SC:=.seq (sR (fJ 7 0 1::lJ 8 7::nJ 9 8::aJ 10 Qav [.t 9,kI 1,kI 4]::Ql6) [1,11] Q8n) Q40
def Qad5:SC:=sR [vJ 1 0,fB 2 false] [1] Q41
theorem Qadi:mFn prog Qg4 1 48 Qad5 Qfh=true:=by kernel_rfl
def Qhq:List Item:=[oJ 5 4,mJ 2 5]
def Qwp:SC:=sR (mJ 3 0::aJ 4 Qd7 [.t 3]::Qhq) [2] .ret
def Q42:SC:=sR [fB 2 false] [0] Qwp
theorem Q4c:mFn prog Qd9 1 6 Q42 Qfh=true:=by kernel_rfl
def Qamn:SC:=cT 7 .skip (.reg [cJ 9 .eql 6 2,mJ 7 9] [6,7])
def Qamo:SC:=cT 10 .skip (.reg [cJ 13 .eql 6 8,mJ 10 13] [6,10])
def Qamp:SC:=cT 10 .skip (sR [cJ 12 .eql 6 7,mJ 10 12] [6,10] Qamo)
def Qamq:SC:=cT 18 (sR [zJ 2 1,fB 3 false,fB 4 true,fB 5 false] [2,3,4,5] .ret) .skip
def Qamr:SC:=cT 16 (sR [zJ 2 1,fB 3 false,fB 4 true,fB 5 true] [2,3,4,5] .ret) (sR [cJ 19 .eql 6 6,mJ 18 19] [18] Qamq)
def Qams:SC:=cT 14 (sR [zJ 2 2,fB 3 false,fB 4 false,fB 5 false] [2,3,4,5] .ret) (sR [cJ 17 .eql 6 5,mJ 16 17] [6,16] Qamr)
def Qze:SC:=cT 10 (sR [zJ 2 1,fB 3 false,fB 4 false,fB 5 false] [2,3,4,5] .ret) (sR [cJ 15 .eql 6 4,mJ 14 15] [6,14] Qams)
def Qzf:SC:=cT 7 (sR [zJ 2 1,fB 3 true,fB 4 false,fB 5 false] [2,3,4,5] .ret) (.seq (sR [cJ 11 .eql 6 3,mJ 10 11] [6,10] Qamp) Qze)
def Qamt:SC:=.block 0 (.seq (sR [cJ 8 .eql 6 1,mJ 7 8] [6,7] Qamn) Qzf)
def Qoj:SC:=sR [zJ 2 (-1),fB 3 false,fB 4 false,fB 5 false] [2,3,4,5] .ret
def Qah7:SC:=.seq (sR [mJ 6 0] [6] Qamt) Qoj
def Qay4:SC:=sR [zJ 2 0,fB 3 false,fB 4 false,fB 5 false] [0] Qah7
def Qhj:List RS:=[.tmp 2,.tmp 3,.tmp 4,.tmp 5]
theorem Qaya:mFn prog Qp8 1 20 Qay4 Qhj=true:=by kernel_rfl
def Qzg:List Item:=[oJ 8 7,mJ 4 8]
def Qasx:SC:=sR (mJ 5 0::fI 6 (.mkf Qu4 [.t 3])::aJ 7 Qdi [.t 5,.t 6]::Qzg) [4] .ret
def Qa2t:SC:=sR [vJ 3 1,fB 4 false] [0,3] Qasx
theorem Qa1o:mFn prog Qg5 2 9 Qa2t Qpr=true:=by kernel_rfl
def Qpw:List Item:=[oJ 7 6,mJ 3 7]
def Qaea:SC:=sR (tJ 4 5 2::lJ 5 1::aJ 6 Qya [.t 4,.t 5]::Qpw) [3] .ret
def Qamu:SC:=sR [vJ 2 0,fB 3 false] [1,2] Qaea
theorem Qalm:mFn prog Qu4 2 8 Qamu Q6y=true:=by kernel_rfl
def Qkf:List Item:=[sJ 5 7 19]
def Qkg:List Item:=[sJ 4 9 26]
def Q44:SC:=.reg [mJ 27 0,tJ 28 4 9,mJ 29 2,aJ 30 Qg6 [.t 27,.t 28,.t 29]] [0,2,7,14,15,16,21,22,23]
def Q45:SC:=.reg [cJ 31 .add 23 1,mJ 23 31] [0,2,7,14,15,16,21,22,23]
def Q46:SC:=.seq (.block 3 (sR (iJ 25 4 21 23::tJ 26 4 25::eI 9 (.alloc [.int .i64 0,.int .i64 0,.str [],.sl true 4 []])::Qkg) [0,2,7,9,14,15,16,21,22,23] Q44)) Q45
def Qzp:SC:=sR [bJ 24 .lss 23 22] [0,2,7,14,15,16,21,22,23,24] (cX 24 2 Q46)
def Q47:SC:=cT 46 (.reg [mJ 47 0,aJ 48 Qaz [.t 47,kI 2]] [0,2,7,14,15,16]) .skip
def Q48:SC:=sR [mJ 46 11] [0,2,7,14,15,16,46] Q47
def Ql9:SC:=.dreg 7 [0,1,2,3,4,5,6] ( mJ 49 2::kJ 50 49::fJ 51 0 50::lJ 52 51::fJ 53 1 7::lJ 54 53::.e none none (.upd 1 (.t 52) (.t 54) (kI 0))::[]) [0,2,7,14,15,16]
def Qkh:List Item:=[mJ 57 61,fI 62 (.ext (.t 57) 0),fI 63 (.ext (.t 57) 1),mJ 12 62,mJ 13 63]
def Qzh:SC:=cT 65 (.reg [mJ 66 0,aJ 67 Qaz [.t 66,kI 3]] [0,2,7,14,15,16]) .skip
def Qzi:SC:=sR [mJ 64 13,oJ 65 64] [0,2,7,14,15,16,65] Qzh
def Qzj:SC:=cT 55 (sR (mJ 58 2::fJ 59 1 7::lJ 60 59::aJ 61 Qbn [.t 58,.t 60]::Qkh) [0,2,7,13,14,15,16] Qzi) .skip
def Qzk:SC:=cT 34 (.seq (.seq (.dreg 12 [0,1,2,3,4,5,6,7,8,9,10,11] ( mJ 37 2::kJ 38 37::fJ 39 0 38::lJ 40 39::fJ 41 1 7::lJ 42 41::fI 43 (.lup2 1 (.c (.int .i64 0)) (.t 40) (.t 42))::mJ 36 43::fI 44 (.ext (.t 36) 0)::fI 45 (.ext (.t 36) 1)::mJ 10 44::mJ 11 45::[]) [0,2,7,11,14,15,16]) Q48) Ql9) (sR [cJ 56 .eql 33 2,mJ 55 56] [0,2,7,14,15,16,55] Qzj)
def Qzl:SC:=.block 4 (sR [cJ 35 .eql 33 1,mJ 34 35] [0,2,7,14,15,16,33,34] Qzk)
def Qid:List Item:=[hJ 78 77,aJ 81 Qcb [.t 76,.t 78,.t 80]]
def Qie:List Item:=[hJ 84 83,aJ 87 Qcb [.t 82,.t 84,.t 86]]
def Qzm:SC:=.dreg 6 [0,1,2,3,4,2,5] ( mJ 82 0::fJ 83 4 7::lJ 84 83::mJ 85 2::aJ 86 Qam [.t 85]::Qie) [0,2,14,15,16]
def Qzn:SC:=cT 75 (.seq (.dreg 6 [0,1,2,3,4,2,5] ( mJ 76 0::fJ 77 3 7::lJ 78 77::mJ 79 2::aJ 80 Qam [.t 79]::Qid) [0,2,7,14,15,16]) Qzm) .skip
def Qem:SC:=sR [fJ 68 0 7,lJ 69 68,cJ 70 .eql 69 5,mJ 71 70,gFf 72 71 0 7,gFl 73 71 72,gF 74 71 (.bin 0 .eql (.t 73) (kI 6)),pT 75 71 74] [0,2,7,14,15,16,75] Qzn
def Qen:SC:=.seq (sR [fJ 32 0 7,lJ 33 32] [0,2,7,14,15,16,33] Qzl) Qem
def Qkd:SC:=.seq (sR [fJ 20 2 7,lJ 21 20,nJ 22 21,zJ 23 0] [0,2,7,14,15,16,21,22,23] (bL 2 Qzp)) Qen
def Qke:SC:=.reg [cJ 88 .add 16 1,mJ 16 88] [0,2,14,15,16]
def Qzo:SC:=.seq (.block 1 (sR (iJ 18 5 14 16::tJ 19 5 18::eI 7 (.alloc [.int .i64 0,.str [],.sl true 4 [],.sl true 5 [],.sl true 5 []])::Qkf) [0,2,7,14,15,16] Qkd)) Qke
def Qwq:SC:=sR [bJ 17 .lss 16 15] [0,2,14,15,16,17] (cX 17 0 Qzo)
def Qabx:SC:=sR [mJ 14 1,nJ 15 14,zJ 16 0] [0,2,14,15,16] (bL 0 Qwq)
theorem Qaa9:mFn prog Qcb 3 89 Qabx Qtn=true:=by kernel_rfl
def Q8q:SC:=.reg [tJ 6 4 4,fI 7 (.mkf Qci [.t 5,.t 3]),aJ 8 Qs7 [.t 6,.t 7]] []
def Qaeb:SC:=sR [vJ 3 0,vJ 4 1,vJ 5 2] [3,4,5] Q8q
theorem Qadj:mFn prog Qg6 3 9 Qaeb Qtn=true:=by kernel_rfl
def Qhr:List Item:=[mJ 11 15,fI 16 (.ext (.t 11) 0),fI 17 (.ext (.t 11) 1),mJ 4 16,mJ 5 17]
def Qwr:SC:=cT 19 (.reg [lJ 20 2,aJ 21 Qaz [.t 20,kI 3]] []) .skip
def Qws:SC:=sR [mJ 18 5,oJ 19 18] [2,19] Qwr
def Qhs:List Item:=[mJ 6 37]
def Qwt:SC:=cT 55 (.reg [lJ 56 2,aJ 57 Qaz [.t 56,kI 5]] []) .skip
def Qwu:SC:=cT 39 (.reg [lJ 40 2,aJ 41 Qaz [.t 40,kI 4]] []) (.seq (.dreg 14 [0,1,2,3,4,5,6,7,8,9,10,11,12,13] ( lJ 42 2::kJ 43 42::fJ 44 0 43::fJ 45 0 44::lJ 46 45::mJ 47 6::iJ 48 3 46 47::fJ 49 1 48::lJ 50 49::nJ 51 50::fJ 52 3 3::lJ 53 52::nJ 54 53::bJ 55 .neq 51 54::[]) [2,55]) Qwt)
def Qwv:SC:=sR [mJ 38 6,cJ 39 .lss 38 0] [2,3,6,39] Qwu
def Qww:SC:=cT 22 (.seq (.dreg 15 [0,1,2,3,4,5,6,7,8,9,10,11,12,13,14] ( lJ 24 2::kJ 25 24::fJ 26 0 25::fJ 27 0 26::lJ 28 27::lJ 29 2::kJ 30 29::fJ 31 1 30::lJ 32 31::fI 33 (.sli 3 (.t 28) none (some (.t 32)))::fI 34 (.bld [.sl true 3 []] [(0,1,.t 33)])::fJ 35 2 3::lJ 36 35::aJ 37 Qqu [.t 34,.t 36]::Qhs) [2,3,6]) Qwv) .skip
def Qwx:SC:=cT 9 (sR (lJ 12 1::fJ 13 2 3::lJ 14 13::aJ 15 Qbn [.t 12,.t 14]::Qhr) [2,5] Qws) (sR [cJ 23 .eql 8 13,mJ 22 23] [2,3,22] Qww)
def Qwy:SC:=.block 0 (sR [cJ 10 .eql 8 2,mJ 9 10] [1,2,3,8,9] Qwx)
def Qtw:SC:=sR [fJ 7 0 3,lJ 8 7] [1,2,3,8] Qwy
def Q49:SC:=sR [vJ 3 0] [1,2,3] Qtw
theorem Q4d:mFn prog Qci 3 58 Q49 Qtn=true:=by kernel_rfl
def Q8r:SC:=cT 8 (.reg [mJ 9 0,mJ 10 1,kJ 11 9,fJ 12 2 11,sJ 1 12 10] []) .skip
def Qaec:SC:=sR [mJ 4 0,kJ 5 4,fJ 6 2 5,lJ 7 6,cJ 8 .eql 7 0] [0,1,8] Q8r
theorem Qadk:mFn prog Qaz 2 13 Qaec Qtn=true:=by kernel_rfl
def Qu7:List Item:=[oJ 23 22,mJ 24 23,gFf 25 24 2 2,gFl 26 24 25,gF 27 24 (.bin 0 .neq (.t 26) (.k (.c (.str [])))),pT 28 24 27]
def Qamx:SC:=cT 28 (sR [zJ 4 0,zJ 5 0,fB 6 false] [4,5,6] .ret) .skip
def Qu8:List Item:=[oJ 36 35,mJ 37 36,gFf 38 37 1 2,gFl 39 37 38,gF 40 37 (.bin 0 .neq (.t 39) (kI 0)),pT 41 37 40]
def Qamy:SC:=cT 41 (sR [zJ 4 0,zJ 5 0,fB 6 false] [4,5,6] .ret) .skip
def Qu9:List Item:=[oJ 49 48,mJ 50 49,gFf 51 50 1 2,gFl 52 50 51,gF 53 50 (.bin 0 .neq (.t 52) (kI 0)),pT 54 50 53]
def Qamz:SC:=cT 54 (sR [zJ 4 0,zJ 5 0,fB 6 false] [4,5,6] .ret) .skip
def Qam0:SC:=sR (fJ 46 2 2::lJ 47 46::aJ 48 Qd7 [.t 47]::Qu9) [1,2,7,8,54] Qamz
def Qam1:SC:=cT 62 (.reg [zJ 7 1,zJ 8 1] [1,2,7,8]) (sR [zJ 4 0,zJ 5 0,fB 6 false] [4,5,6] .ret)
def Qam2:SC:=cT 55 (.reg [zJ 7 2,zJ 8 2] [1,2,7,8]) (sR [fJ 63 0 2,lJ 64 63,cJ 65 .eql 64 11,mJ 66 65,gFf 67 66 0 2,gFl 68 66 67,gF 69 66 (.bin 0 .eql (.t 68) (kI 12)),pT 70 66 69,mJ 62 70] [1,2,62] Qam1)
def Qam3:SC:=cT 42 (sR [zJ 8 3] [1,2,7,8] Qam0) (sR [fI 56 (.ldo Qbp Qbp),fJ 57 0 2,lJ 58 57,fI 59 (.lup 0 (.ag [.str [],.int .i64 0]) (.t 56) (.t 58)),fI 60 (.fld 1 1 false (.t 59)),cJ 61 .gtr 60 0,mJ 55 61] [1,2,55] Qam2)
def Qaii:SC:=cT 29 (sR (fJ 33 2 2::lJ 34 33::aJ 35 Qd7 [.t 34]::Qu8) [1,2,7,8,41] Qamy) (sR [fJ 43 0 2,lJ 44 43,cJ 45 .eql 44 13,mJ 42 45] [1,2,7,42] Qam3)
def Qu5:SC:=cT 16 (sR (fJ 20 1 2::lJ 21 20::aJ 22 Qjx [.t 21]::Qu7) [1,2,7,8,28] Qamx) (sR [fJ 30 0 2,lJ 31 30,cJ 32 .eql 31 2,mJ 29 32] [1,2,7,8,29] Qaii)
def Qjb:List Item:=[gF 92 85 (.not (.t 91)),pT 93 85 92,mJ 94 93,gFm 95 94 1,gF 96 94 (.bin 0 .lss (.t 95) (kI 1)),pT 97 94 96]
def Qrw:List Item:=cJ 74 .lss 73 6::mJ 75 74::gTf 76 75 1 2::gTl 77 75 76::gT 78 75 (.bin 0 .neq (.t 77) (kI 0))::gTm 79 75 78::gFf 80 79 2 2::gFl 81 79 80::gF 82 79 (.bin 0 .neq (.t 81) (.k (.c (.str []))))::gT 83 75 (.pick (.t 79) (.k (.c (.bool true))) (.t 82))::pF 84 75 83::mJ 85 84::gFf 86 85 3 2::gFl 87 85 86::gF 88 85 (.len (.t 87))::gFm 89 85 7::gFm 90 85 8::.e (some 91) (some (85,false)) (.call Qav [.t 88,.t 89,.t 90])::Qjb
def s_im_exprSize_14:SC:=cT 97 (sR [zJ 4 0,zJ 5 0,fB 6 false] [4,5,6] .ret) .skip
def Qrx:List Item:=[sJ 4 12 104]
def Qry:List Item:=[mJ 105 109,fI 110 (.ext (.t 105) 0),fI 111 (.ext (.t 105) 1),fI 112 (.ext (.t 105) 2),mJ 13 110,mJ 14 111,mJ 15 112]
def Qaij:SC:=cT 114 (sR [zJ 4 0,zJ 5 0,fB 6 false] [4,5,6] .ret) .skip
def Qaik:SC:=.reg [mJ 118 10,mJ 119 14,cJ 120 .add 119 1,fI 121 (.mx (.t 118) (.t 120)),mJ 10 121] [1,9,10,99,100,101]
def Qail:SC:=sR [mJ 115 9,mJ 116 13,bJ 117 .add 115 116,mJ 9 117] [1,9,10,14,99,100,101] Qaik
def Qaim:SC:=.seq (sR [mJ 113 15,oJ 114 113] [1,9,10,13,14,99,100,101,114] Qaij) Qail
def Qain:SC:=sR (tJ 106 4 12::mJ 107 1::cJ 108 .sub 107 1::aJ 109 Qjk [.t 106,.t 108]::Qry) [1,9,10,13,14,15,99,100,101] Qaim
def Qaio:SC:=.reg [cJ 122 .add 101 1,mJ 101 122] [1,9,10,99,100,101]
def Qaip:SC:=.seq (.block 2 (sR (iJ 103 4 99 101::tJ 104 4 103::eI 12 (.alloc [.int .i64 0,.int .i64 0,.str [],.sl true 4 []])::Qrx) [1,9,10,12,99,100,101] Qain)) Qaio
def Qaee:SC:=sR [bJ 102 .lss 101 100] [1,9,10,99,100,101,102] (cX 102 1 Qaip)
def Qaiq:SC:=sR [mJ 123 9,mJ 124 10,mJ 125 9,cJ 126 .leq 125 30,mJ 4 123,mJ 5 124,mJ 6 126] [4,5,6] .ret
def Qair:SC:=.seq (sR [fJ 98 3 2,lJ 99 98,nJ 100 99,zJ 101 0] [1,9,10,99,100,101] (bL 1 Qaee)) Qaiq
def Qu6:SC:=sR [zJ 9 1,zJ 10 1] [1,2,9,10] Qair
def Qais:SC:=.seq (sR (fJ 71 0 2::lJ 72 71::aJ 73 Qs4 [.t 72]::Qrw) [1,2,97] s_im_exprSize_14) Qu6
def Qait:SC:=.seq (.block 0 (sR [fJ 17 0 2,lJ 18 17,cJ 19 .eql 18 1,mJ 16 19] [1,2,7,8,16] Qu5)) Qais
def Qaiu:SC:=sR [zJ 7 0,zJ 8 0] [1,2,7,8] Qait
def Qay5:SC:=sR [vJ 2 0,zJ 4 0,zJ 5 0,fB 6 false] [1,2] Qaiu
def Qhl:List RS:=[.tmp 4,.tmp 5,.tmp 6]
theorem Qayb:mFn prog Qjk 2 127 Qay5 Qhl=true:=by kernel_rfl
def Qagj:List Item:=[cJ 5 .eql 4 0,mJ 2 5]
def Qa6y:SC:=sR (tJ 3 1 1::aJ 4 Qg2 [.t 3]::Qagj) [2] .ret
def Qbiy:SC:=sR [vJ 1 0,fB 2 false] [1] Qa6y
theorem Qbh0:mFn prog Q3q 1 6 Qbiy Qfh=true:=by kernel_rfl
def Qatj:SC:=cT 13 (sR [zJ 2 5] [2] .ret) .skip
def Qatk:SC:=cT 3 (sR [fI 9 (.ldo Qbp Qbp),mJ 10 0,fI 11 (.lup 0 (.ag [.str [],.int .i64 0]) (.t 9) (.t 10)),fI 12 (.fld 1 1 false (.t 11)),mJ 2 12] [2] .ret) (sR [mJ 14 0,cJ 15 .eql 14 11,mJ 16 15,gFm 17 16 0,gF 18 16 (.bin 0 .eql (.t 17) (kI 12)),pT 19 16 18,mJ 13 19] [13] Qatj)
def Qatl:SC:=sR [zJ 2 6] [2] .ret
def Qatm:SC:=.seq (.block 0 (sR [fI 4 (.ldo Qbp Qbp),mJ 5 0,fI 6 (.lup 0 (.ag [.str [],.int .i64 0]) (.t 4) (.t 5)),fI 7 (.fld 1 1 false (.t 6)),cJ 8 .gtr 7 0,mJ 3 8] [0,3] Qatk)) Qatl
def Qa2w:SC:=sR [zJ 2 0] [0] Qatm
theorem Qa1q:mFn prog Qs4 1 20 Qa2w Qfh=true:=by kernel_rfl
def Qgi:List Item:=[sJ 4 7 13]
def Qgj:List Item:=[mJ 5 19]
def Qgk:List Item:=fI 18 (.bsl 4 [.t 17])::xJ 19 4 14 18::Qgj
def Qt2:SC:=.reg (mJ 14 5::mJ 15 1::tJ 16 4 7::eI 17 (.callv (.t 15) [.t 16])::Qgk) [1,5,8,9,10]
def Qt3:SC:=.reg [cJ 20 .add 10 1,mJ 10 20] [1,5,8,9,10]
def Qt4:SC:=.seq (.block 1 (sR (iJ 12 4 8 10::tJ 13 4 12::eI 7 (.alloc [.int .i64 0,.int .i64 0,.str [],.sl true 4 []])::Qgi) [1,5,7,8,9,10] Qt2)) Qt3
def Qr0:SC:=sR [bJ 11 .lss 10 9] [1,5,8,9,10,11] (cX 11 0 Qt4)
def Qt5:SC:=sR [mJ 21 5,mJ 4 21] [4] .ret
def Qt6:SC:=.seq (sR [mJ 8 0,nJ 9 8,zJ 10 0] [1,5,8,9,10] (bL 0 Qr0)) Qt5
def Qt7:SC:=sR [fI 5 (.mv (.k (.c (.sl true 4 []))))] [0,1,5] Qt6
def Q0n:SC:=sR [fI 4 (.mv (.k (.c (.sl true 4 []))))] [0,1] Qt7
theorem Qym:mFn prog Qcf 2 22 Q0n Qpr=true:=by kernel_rfl
def Qgl:List Item:=[sJ 5 7 13]
def Qgm:List Item:=[mJ 5 19]
def Qgn:List Item:=fI 18 (.bsl 5 [.t 17])::xJ 19 5 14 18::Qgm
def Qt9:SC:=.reg (mJ 14 5::mJ 15 1::tJ 16 5 7::eI 17 (.callv (.t 15) [.t 16])::Qgn) [1,5,8,9,10]
def Qua:SC:=.reg [cJ 20 .add 10 1,mJ 10 20] [1,5,8,9,10]
def Qub:SC:=.seq (.block 1 (sR (iJ 12 5 8 10::tJ 13 5 12::eI 7 (.alloc [.int .i64 0,.str [],.sl true 4 [],.sl true 5 [],.sl true 5 []])::Qgl) [1,5,7,8,9,10] Qt9)) Qua
def Qr1:SC:=sR [bJ 11 .lss 10 9] [1,5,8,9,10,11] (cX 11 0 Qub)
def Quc:SC:=sR [mJ 21 5,mJ 4 21] [4] .ret
def Qud:SC:=.seq (sR [mJ 8 0,nJ 9 8,zJ 10 0] [1,5,8,9,10] (bL 0 Qr1)) Quc
def Que:SC:=sR [fI 5 (.mv (.k (.c (.sl true 5 []))))] [0,1,5] Qud
def Q0u:SC:=sR [fI 4 (.mv (.k (.c (.sl true 5 []))))] [0,1] Que
theorem Qyn:mFn prog Qds 2 22 Q0u Qpr=true:=by kernel_rfl
def Q0v:List Item:=[eI 3 (.alloc [.int .i64 0])]
def Q0w:List Item:=[sJ 3 5 12]
def Qatq:SC:=.reg [fJ 13 2 5,lJ 14 13,fI 15 (.mkf Qk8 [.t 2,.t 3]),aJ 16 Qi1 [.t 14,kI 1,.t 15]] [2,3,7,8,9]
def Qatr:SC:=.reg [cJ 17 .add 9 1,mJ 9 17] [2,3,7,8,9]
def Qats:SC:=.seq (.block 1 (sR (iJ 11 3 7 9::tJ 12 3 11::eI 5 (.alloc [.str [],.sl true 1 [],.sl true 5 []])::Q0w) [2,3,5,7,8,9] Qatq)) Qatr
def Qang:SC:=sR [bJ 10 .lss 9 8] [2,3,7,8,9,10] (cX 10 0 Qats)
def Q0x:List Item:=[hJ 19 3,sJ 1 3 19]
def Qatt:SC:=.seq (.dreg 4 [0,1,2,1,3] ( lJ 18 2::lJ 19 3::sJ 1 2 18::Q0x) [2,3]) .ret
def Qatu:SC:=.seq (sR [fJ 6 0 1,lJ 7 6,nJ 8 7,zJ 9 0] [2,3,7,8,9] (bL 0 Qang)) Qatt
def Qa2y:SC:=sR (vJ 1 0::eI 2 (.alloc [.int .i64 0])::Q0v) [1,2,3] Qatu
def Qaf9:List RS:=[.cell 2 1 false,.cell 3 1 false]
theorem Qa1s:mFn prog Qs6 1 20 Qa2y Qaf9=true:=by kernel_rfl
def Qaej:SC:=.reg [lJ 8 3,mJ 9 1,fI 10 (.mx (.t 8) (.t 9)),sJ 1 3 10] []
def Qaek:SC:=sR [lJ 6 2,cJ 7 .add 6 1,sJ 1 2 7] [1,3] Qaej
def Qanf:SC:=sR [vJ 4 0] [1,2,3] Qaek
theorem Qalo:mFn prog Qk8 4 11 Qanf Qtn=true:=by kernel_rfl
def Qab7:List Item:=[sJ 4 5 15]
def Qa2z:SC:=.reg [tJ 16 4 5,mJ 17 1,aJ 18 Qs7 [.t 16,.t 17]] [1,10,11,12]
def Qa20:SC:=.reg [cJ 19 .add 12 1,mJ 12 19] [1,10,11,12]
def Qa21:SC:=.seq (.block 1 (sR (iJ 14 4 10 12::tJ 15 4 14::eI 5 (.alloc [.int .i64 0,.int .i64 0,.str [],.sl true 4 []])::Qab7) [1,5,10,11,12] Qa2z)) Qa20
def Qazg:SC:=sR [bJ 13 .lss 12 11] [1,10,11,12,13] (cX 13 0 Qa21)
def Qa22:SC:=sR [fJ 9 3 2,lJ 10 9,nJ 11 10,zJ 12 0] [1,10,11,12] (bL 0 Qazg)
def Qa23:SC:=sR [mJ 6 1,tJ 7 4 2,eI 8 (.callv (.t 6) [.t 7])] [1,2] Qa22
def Qbdb:SC:=sR [vJ 2 0] [1,2] Qa23
theorem Qbcu:mFn prog Qs7 2 20 Qbdb Qtn=true:=by kernel_rfl
def Qaen:SC:=cT 23 (sR [mJ 24 6,mJ 4 24,fB 5 true] [4,5] .ret) .skip
def Qaeo:SC:=sR [mJ 23 7] [0,1,6,23] Qaen
def Qaep:SC:=.reg [mJ 10 0,kJ 11 10,fJ 12 1 11,lJ 13 12,mJ 0 13] [0,1]
def Qaeq:SC:=.seq (.block 1 (sR [mJ 15 0,kJ 16 15,fJ 17 0 16,lJ 18 17,mJ 19 1,fI 20 (.lup2 1 (.c (.int .i64 0)) (.t 18) (.t 19)),mJ 14 20,fI 21 (.ext (.t 14) 0),fI 22 (.ext (.t 14) 1),mJ 6 21,mJ 7 22] [0,1,6,7] Qaeo)) Qaep
def Qab9:SC:=.seq (sR [mJ 8 0,fI 9 (.bin 2 .neq (.t 8) (.k (.c .pnil)))] [0,1,9] (cT 9 .skip (.exit 0))) Qaeq
def Qaer:SC:=sR [zJ 4 0,fB 5 false] [4,5] .ret
def Qani:SC:=sR [zJ 4 0,fB 5 false] [0,1] (.seq (bL 0 Qab9) Qaer)
def Qoc:List RS:=[.tmp 4,.tmp 5]
theorem Qalp:mFn prog Qbn 2 25 Qani Qoc=true:=by kernel_rfl
def Qpx:List Item:=[mJ 4 0,fI 5 (.bld [.mnil,.pnil] [(0,1,.t 3),(1,1,.t 4)]),vJ 6 5,mJ 2 6]
def Qaes:SC:=sR (eI 3 (.mkm)::Qpx) [2] .ret
def Qanj:SC:=sR [fI 2 (.mv (.k (.c .pnil)))] [0] Qaes
theorem Qalq:mFn prog Qam 1 7 Qanj Qfh=true:=by kernel_rfl
def Q7d:List Item:=[mJ 11 14,fI 15 (.ext (.t 11) 0),fI 16 (.ext (.t 11) 1),fI 17 (.ext (.t 11) 2),fI 18 (.ext (.t 11) 3),mJ 5 15,mJ 6 16,mJ 7 17,mJ 8 18]
def Qqq:List Item:=[gT 32 28 (.not (.t 31)),pF 33 28 32,mJ 19 33]
def Qazi:SC:=cT 19 .skip (.reg [fJ 57 0 2,lJ 58 57,cJ 59 .eql 58 8,mJ 60 59,gTf 61 60 2 2,gTl 62 60 61,gT 63 60 (.iad 4 (.t 62) (kI 0)),gTf 64 60 0 63,gTl 65 60 64,gT 66 60 (.bin 0 .neq (.t 65) (kI 13)),pF 67 60 66,mJ 19 67] [1,2,19])
def Qazj:SC:=cT 19 .skip (sR [mJ 49 8,oJ 50 49,mJ 51 50,gTf 52 51 4 2,gTl 53 51 52,gT 54 51 (.len (.t 53)),gT 55 51 (.bin 0 .gtr (.t 54) (kI 0)),pF 56 51 55,mJ 19 56] [1,2,19] Qazi)
def Qazk:SC:=cT 19 .skip (sR [mJ 41 7,oJ 42 41,mJ 43 42,gTf 44 43 3 2,gTl 45 43 44,gT 46 43 (.len (.t 45)),gT 47 43 (.bin 0 .gtr (.t 46) (kI 0)),pF 48 43 47,mJ 19 48] [1,2,8,19] Qazj)
def Qaca:SC:=cT 19 .skip (sR [mJ 34 6,oJ 35 34,mJ 36 35,gTf 37 36 1 2,gTl 38 36 37,gT 39 36 (.bin 0 .neq (.t 38) (.k (.c (.str [])))),pF 40 36 39,mJ 19 40] [1,2,7,8,19] Qazk)
def Qazl:SC:=cT 19 .skip (sR (mJ 27 6::mJ 28 27::gTf 29 28 1 2::gTl 30 28 29::.e (some 31) (some (28,true)) (.call Qd7 [.t 30])::Qqq) [1,2,6,7,8,19] Qaca)
def Qacb:SC:=cT 19 .skip (sR [fJ 22 2 2,lJ 23 22,nJ 24 23,mJ 25 5,bJ 26 .neq 24 25,mJ 19 26] [1,2,6,7,8,19] Qazl)
def Qazm:SC:=cT 19 (sR [fB 4 false] [4] .ret) .skip
def Q7e:List Item:=[sJ 4 10 74]
def Q01:List Item:=[oJ 77 76]
def Qatz:SC:=cT 77 (sR [fB 4 false] [4] .ret) .skip
def Qat0:SC:=sR (tJ 75 4 10::aJ 76 Qnw [.t 75]::Q01) [1,2,69,70,71,77] Qatz
def Qat1:SC:=.reg [cJ 78 .add 71 1,mJ 71 78] [1,2,69,70,71]
def Qat2:SC:=.seq (.block 2 (sR (iJ 73 4 69 71::tJ 74 4 73::eI 10 (.alloc [.int .i64 0,.int .i64 0,.str [],.sl true 4 []])::Q7e) [1,2,10,69,70,71] Qat0)) Qat1
def Qank:SC:=sR [bJ 72 .lss 71 70] [1,2,69,70,71,72] (cX 72 1 Qat2)
def Qou:List Item:=[pF 90 84 89,mJ 4 90]
def Qov:List Item:=mJ 84 83::gTf 85 84 4 2::gTl 86 84 85::gTm 87 84 1::gT 88 84 (.bin 0 .add (.t 87) (kI 1))::.e (some 89) (some (84,true)) (.call Qg5 [.t 86,.t 88])::Qou
def Qat3:SC:=sR (fJ 79 3 2::lJ 80 79::mJ 81 1::cJ 82 .add 81 1::aJ 83 Qg5 [.t 80,.t 82]::Qov) [4] .ret
def Qat4:SC:=.seq (sR [fJ 68 2 2,lJ 69 68,nJ 70 69,zJ 71 0] [1,2,69,70,71] (bL 1 Qank)) Qat3
def Qat5:SC:=.seq (.block 0 (.seq (sR [mJ 20 1,cJ 21 .gtr 20 4,mJ 19 21] [1,2,5,6,7,8,19] Qacb) Qazm)) Qat4
def Qat6:SC:=sR (fJ 12 0 2::lJ 13 12::aJ 14 Qp8 [.t 13]::Q7d) [1,2,5,6,7,8] Qat5
def Qa61:SC:=sR [vJ 2 0,fB 4 false] [1,2] Qat6
theorem Qa6h:mFn prog Qya 2 91 Qa61 Qpr=true:=by kernel_rfl
def Qacc:List Item:=[sJ 5 7 13]
def Qa26:SC:=.reg [fJ 24 4 7,lJ 25 24,mJ 26 1,cJ 27 .add 26 1,mJ 28 2,aJ 29 Qi1 [.t 25,.t 27,.t 28]] [1,2,8,9,10]
def Qa27:SC:=sR [fJ 18 3 7,lJ 19 18,mJ 20 1,cJ 21 .add 20 1,mJ 22 2,aJ 23 Qi1 [.t 19,.t 21,.t 22]] [1,2,7,8,9,10] Qa26
def Qa28:SC:=sR [mJ 14 2,tJ 15 5 7,mJ 16 1,eI 17 (.callv (.t 14) [.t 15,.t 16])] [1,2,7,8,9,10] Qa27
def Qa29:SC:=.reg [cJ 30 .add 10 1,mJ 10 30] [1,2,8,9,10]
def Qa3a:SC:=.seq (.block 1 (sR (iJ 12 5 8 10::tJ 13 5 12::eI 7 (.alloc [.int .i64 0,.str [],.sl true 4 [],.sl true 5 [],.sl true 5 []])::Qacc) [1,2,7,8,9,10] Qa28)) Qa29
def Qazn:SC:=sR [bJ 11 .lss 10 9] [1,2,8,9,10,11] (cX 11 0 Qa3a)
def Qbdc:SC:=sR [mJ 8 0,nJ 9 8,zJ 10 0] [1,2,8,9,10] (bL 0 Qazn)
theorem Qbcv:mFn prog Qi1 3 31 Qbdc Qtn=true:=by kernel_rfl
def Qawr:List Item:=[sJ 4 5 11]
def Qaws:List Item:=eI 5 (.alloc [.int .i64 0,.int .i64 0,.str [],.sl true 4 []])::Qawr
def Qawt:List Item:=[cJ 14 .gtr 13 0]
def Qbjc:SC:=cT 14 (sR [tJ 15 4 5,sJ 4 4 15] [4] .ret) .skip
def Qawu:List Item:=[sJ 4 6 19]
def Qawv:List Item:=fI 19 (.bld [.int .i64 0,.int .i64 0,.str [],.sl true 4 []] [(0,1,kI 13),(2,1,.t 18)])::eI 6 (.alloc [.int .i64 0,.int .i64 0,.str [],.sl true 4 []])::Qawu
def Qaww:List Item:=[mJ 7 21]
def Qawx:List Item:=[fJ 33 3 6,sJ 1 33 32]
def Qawy:List Item:=hJ 27 26::fI 31 (.bsl 4 [.t 30])::xJ 32 4 27 31::Qawx
def Qbjd:SC:=.reg [mJ 24 7,cJ 25 .sub 24 1,mJ 7 25] [0,4,5,6,7]
def Qbdf:SC:=.seq (.block 1 (.dreg 9 [0,1,2,3,4,1,5,6,7,8] ( fJ 26 3 6::lJ 27 26::mJ 28 0::fI 29 (.bsl 1 [.k (.c (.str [97])),.k (.c (.str [98]))])::aJ 30 Qeb [.t 28,.t 29,kI 2]::Qawy) [0,4,5,6,7])) Qbjd
def Qa7a:SC:=.seq (sR [mJ 22 7,cJ 23 .gtr 22 0] [0,4,5,6,7,23] (cT 23 .skip (.exit 0))) Qbdf
def Qano:List Item:=[cJ 36 .eql 35 0]
def Qbdg:SC:=cT 36 (sR [tJ 37 4 6,sJ 4 4 37] [4] .ret) .skip
def Qbdh:SC:=.seq (.seq .gh (.reg [tJ 38 4 5,tJ 39 4 6,fI 40 (.bsl 4 [.t 38,.t 39]),fI 41 (.bld [.int .i64 0,.int .i64 0,.str [],.sl true 4 []] [(0,1,kI 3),(3,1,.t 40)]),sJ 4 4 41] [4])) .ret
def Qbdi:SC:=.seq (sR (mJ 34 0::aJ 35 Qz [.t 34,kI 2]::Qano) [4,5,6,36] Qbdg) Qbdh
def Qbdj:SC:=.seq (sR (mJ 20 0::aJ 21 Qz [.t 20,kI 4]::Qaww) [0,4,5,6,7] (bL 0 Qa7a)) Qbdi
def Qbdk:SC:=sR (mJ 16 0::fI 17 (.bsl 1 [.k (.c (.str [102])),.k (.c (.str [103])),.k (.c (.str [97]))])::aJ 18 Qbq [.t 16,.t 17]::Qawv) [0,4,5,6] Qbdj
def Qbdl:SC:=.seq (sR (mJ 12 0::aJ 13 Qz [.t 12,kI 3]::Qawt) [0,4,5,14] Qbjc) Qbdk
def Qbdm:SC:=sR (mJ 8 0::fI 9 (.bsl 1 [.k (.c (.str [97])),.k (.c (.str [98])),.k (.c (.str [120])),.k (.c (.str [103,111]))])::mJ 10 1::aJ 11 Qeb [.t 8,.t 9,.t 10]::Qaws) [0,4,5] Qbdl
def Qbrc:SC:=sR [eI 4 (.alloc [.int .i64 0,.int .i64 0,.str [],.sl true 4 []])] [0,1,4] Qbdm
theorem Qbqy:mFn prog Q3t 2 42 Qbrc Qps=true:=by kernel_rfl
def Qanq:List Item:=[sJ 4 3 5]
def Qanr:List Item:=eI 3 (.alloc [.int .i64 0,.int .i64 0,.str [],.sl true 4 []])::Qanq
def Qans:List Item:=[fJ 13 1 3,sJ 1 13 12]
def Qant:List Item:=[fJ 19 2 3,sJ 1 19 18]
def Qanu:List Item:=[fJ 25 0 3,sJ 1 25 24]
def Qanv:List Item:=[fJ 34 3 3,sJ 1 34 33]
def Qanw:List Item:=hJ 29 28::fI 32 (.bsl 4 [.t 31])::xJ 33 4 29 32::Qanv
def Qanx:List Item:=[sJ 4 3 38]
def Qbdn:SC:=cT 35 (.reg (mJ 37 0::aJ 38 Q3t [.t 37,kI 7]::Qanx) [2,3]) .skip
def Qbdo:SC:=cT 26 (.dreg 8 [0,1,2,3,1,4,5,6,7] ( fJ 28 3 3::lJ 29 28::mJ 30 0::eI 31 (.call Qyc [.t 30,.k (.c (.sl true 1 []))])::Qanw) [2,3]) (sR [cJ 36 .eql 7 4,mJ 35 36] [0,2,3,35] Qbdn)
def Qa7b:SC:=cT 20 (.reg (mJ 22 0::fI 23 (.bsl 1 [kI 0,kI 14,kI (-1),kI 5,kI 11])::aJ 24 Qax [.t 22,.t 23]::Qanu) [2,3]) (sR [cJ 27 .eql 7 3,mJ 26 27] [0,2,3,7,26] Qbdo)
def Qa7c:SC:=cT 14 (.reg (mJ 16 0::fI 17 (.bsl 1 [.k (.c (.str [])),.k (.c (.str [100,111])),.k (.c (.str [65])),.k (.c (.str [97,98,99,100,101])),.k (.c (.str [113]))])::aJ 18 Qbq [.t 16,.t 17]::Qant) [2,3]) (sR [cJ 21 .eql 7 2,mJ 20 21] [0,2,3,7,20] Qa7b)
def Qa7d:SC:=cT 8 (.reg (mJ 10 0::fI 11 (.bsl 1 [kI (-1),kI 256,kI 3])::aJ 12 Qax [.t 10,.t 11]::Qans) [2,3]) (sR [cJ 15 .eql 7 1,mJ 14 15] [0,2,3,7,14] Qa7c)
def Qa7e:SC:=.block 0 (sR [cJ 9 .eql 7 0,mJ 8 9] [0,2,3,7,8] Qa7d)
def Qanp:SC:=sR [tJ 39 4 3,sJ 4 2 39] [2] .ret
def Qa7f:SC:=.seq (sR [mJ 6 0,aJ 7 Qz [.t 6,kI 20]] [0,2,3,7] Qa7e) Qanp
def Qa7g:SC:=sR (mJ 4 0::aJ 5 Q3t [.t 4,kI 4]::Qanr) [0,2,3] Qa7f
def Qbni:SC:=sR [eI 2 (.alloc [.int .i64 0,.int .i64 0,.str [],.sl true 4 []])] [0,2] Qa7g
theorem Qbms:mFn prog Qak5 1 40 Qbni Qagc=true:=by kernel_rfl
def Qany:List Item:=[eI 2 (.alloc [.int .i64 0,.int .i64 0,.str [],.sl true 4 []])]
def Qanz:List Item:=[mJ 3 21]
def Qan0:List Item:=fI 20 (.bsl 4 [.t 19])::xJ 21 4 13 20::Qanz
def Qbdp:SC:=.reg [mJ 11 4,cJ 12 .add 11 1,mJ 4 12] [1,2,3,4]
def Qbdq:SC:=.seq (.block 1 (.reg (mJ 13 3::fJ 14 3 1::lJ 15 14::mJ 16 4::iJ 17 4 15 16::tJ 18 4 17::aJ 19 Qaaw [.t 18]::Qan0) [1,2,3,4])) Qbdp
def Qa7h:SC:=.seq (sR [mJ 6 4,fJ 7 3 1,lJ 8 7,nJ 9 8,bJ 10 .lss 6 9] [1,2,3,4,10] (cT 10 .skip (.exit 0))) Qbdq
def Qbdr:SC:=sR [tJ 24 4 1,sJ 4 2 24] [2] .ret
def Qbds:SC:=sR [mJ 22 3,fJ 23 3 1,sJ 1 23 22] [1,2] Qbdr
def Qbdt:SC:=.seq (sR [zJ 4 0] [1,2,3,4] (bL 0 Qa7h)) Qbds
def Qbdu:SC:=sR [fI 5 (.bsl 4 []),mJ 3 5] [1,2,3] Qbdt
def Qbnj:SC:=sR (eI 1 (.boxm (.t 0))::Qany) [1,2] Qbdu
theorem Qbmt:mFn prog Qaaw 1 25 Qbnj Qagc=true:=by kernel_rfl
def Qan3:List Item:=[sJ 1 3 10]
def Qan4:List Item:=eI 3 (.alloc [.sl true 3 []])::Qan3
def Qan5:List Item:=[sJ 3 4 18]
def Qan6:List Item:=[fJ 26 0 4,sJ 1 26 25]
def Qan7:List Item:=[fJ 38 1 4,sJ 1 38 37]
def Qan8:List Item:=fI 36 (.bsl 1 [.t 35])::xJ 37 1 32 36::Qan7
def Qan9:List Item:=mJ 33 0::fI 34 (.bsl 1 [.k (.c (.str [97])),.k (.c (.str [120])),.k (.c (.str [105,102]))])::aJ 35 Qbq [.t 33,.t 34]::Qan8
def Qaoa:List Item:=[fJ 51 2 4,sJ 1 51 50]
def Qaob:List Item:=fI 47 (.bsl 4 [.t 46])::fI 48 (.bld [.int .i64 0,.str [],.sl true 4 [],.sl true 5 [],.sl true 5 []] [(0,1,kI 3),(2,1,.t 47)])::fI 49 (.bsl 5 [.t 48])::xJ 50 5 44 49::Qaoa
def Qaoc:List Item:=mJ 45 0::aJ 46 Qak5 [.t 45]::Qaob
def Qagn:List Item:=[fJ 69 2 4,sJ 1 69 68]
def Qago:List Item:=fI 65 (.bsl 4 [.t 64])::fI 66 (.bld [.int .i64 0,.str [],.sl true 4 [],.sl true 5 [],.sl true 5 []] [(0,1,.t 59),(1,1,.t 62),(2,1,.t 65)])::fI 67 (.bsl 5 [.t 66])::xJ 68 5 57 67::Qagn
def Qagp:List Item:=mJ 63 0::aJ 64 Q3t [.t 63,kI 2]::Qago
def Qagq:List Item:=mJ 60 0::fI 61 (.bsl 1 [.k (.c (.str [])),.k (.c (.str [97])),.k (.c (.str [122,122]))])::aJ 62 Qbq [.t 60,.t 61]::Qagp
def Qagr:List Item:=mJ 58 0::aJ 59 Qz [.t 58,kI 10]::Qagq
def Qags:List Item:=[sJ 5 5 74]
def Qagt:List Item:=[mJ 6 76]
def Qagu:List Item:=[hJ 85 84,.chk 86 none (.ld 5 true (.t 5)),fI 88 (.bld [.int .i64 0,.str [],.sl true 4 [],.sl true 5 [],.sl true 5 []] [(0,1,.t 83),(2,1,.t 85),(3,1,.t 87)]),sJ 5 5 88]
def Qa73:SC:=.reg [mJ 79 6,cJ 80 .sub 79 1,mJ 6 80] [0,2,3,4,5,6]
def Qa74:SC:=.seq (.block 2 (.dreg 9 [0,1,3,4,5,6,2,4,5,7,8] ( mJ 81 0::fI 82 (.bsl 1 [kI 5,kI 6])::fJ 84 2 5::lJ 85 84::tJ 86 5 5::fI 87 (.bsl 5 [.t 86])::aJ 83 Qax [.t 81,.t 82]::Qagu) [0,2,3,4,5,6])) Qa73
def Qa3g:SC:=.seq (sR [mJ 77 6,cJ 78 .gtr 77 0] [0,2,3,4,5,6,78] (cT 78 .skip (.exit 1))) Qa74
def Qagv:List Item:=[fJ 96 2 4,sJ 1 96 95]
def Qagw:List Item:=.chk 93 none (.ld 5 true (.t 5))::xJ 95 5 92 94::Qagv
def Qa75:SC:=.dreg 9 [0,1,2,4,5,3,4,6,7,8] ( fI 89 (.bsl 5 [])::fJ 90 2 4::lJ 91 90::tJ 93 5 5::fI 94 (.bsl 5 [.t 93])::xJ 92 5 89 91::Qagw) [2,3,4]
def Qa76:SC:=.seq (sR (mJ 75 0::aJ 76 Qz [.t 75,kI 5]::Qagt) [0,2,3,4,5,6] (bL 1 Qa3g)) Qa75
def Qagx:List Item:=[mJ 7 104]
def Qagy:List Item:=[fJ 119 2 4,sJ 1 119 118]
def Qagz:List Item:=mJ 113 7::fI 114 (.bld [.int .i64 0,.int .i64 0,.str [],.sl true 4 []] [(0,1,kI 1),(1,1,.t 113)])::fI 115 (.bsl 4 [.t 114])::fI 116 (.bld [.int .i64 0,.str [],.sl true 4 [],.sl true 5 [],.sl true 5 []] [(0,1,kI 3),(2,1,.t 115)])::fI 117 (.bsl 5 [.t 116])::xJ 118 5 112 117::Qagy
def Qa77:SC:=.reg [mJ 107 7,cJ 108 .sub 107 1,mJ 7 108] [2,3,4,7]
def Qa78:SC:=.seq (.block 4 (.reg (fI 109 (.bsl 5 [])::fJ 110 2 4::lJ 111 110::xJ 112 5 109 111::Qagz) [2,3,4,7])) Qa77
def Qa3h:SC:=.seq (sR [mJ 105 7,cJ 106 .gtr 105 0] [2,3,4,7,106] (cT 106 .skip (.exit 3))) Qa78
def Qag0:List Item:=[fI 132 (.bld [.sl true 3 []] [(0,1,.t 131)]),sJ 1 2 132]
def Qag1:List Item:=hJ 127 126::.chk 128 none (.iad 3 (.t 127) (kI 0))::.chk 129 none (.ld 3 true (.t 128))::xJ 131 3 125 130::Qag0
def Qa79:SC:=cT 120 (.seq (.dreg 12 [0,1,2,4,5,6,7,8,3,5,6,7,9,10,11] ( fI 122 (.bsl 3 [])::fJ 123 0 3::lJ 124 123::fJ 126 0 3::lJ 127 126::fI 128 (.iad 3 (.t 127) (kI 0))::tJ 129 3 128::fI 130 (.bsl 3 [.t 129])::xJ 125 3 122 124::Qag1) [2]) .ret) .skip
def Qa8a:SC:=cT 100 (sR (mJ 102 0::fI 103 (.bsl 1 [kI 20,kI 40,kI 41])::aJ 104 Qax [.t 102,.t 103]::Qagx) [2,3,4,7] (bL 3 Qa3h)) (sR [cJ 121 .eql 20 7,mJ 120 121] [2,3,4,120] Qa79)
def Qa8b:SC:=cT 97 (sR [fI 99 (.bld [.sl true 3 []] []),sJ 1 2 99] [2] .ret) (sR [cJ 101 .eql 20 6,mJ 100 101] [0,2,3,4,20,100] Qa8a)
def Qa8c:SC:=cT 70 (sR (fI 72 (.bld [.int .i64 0,.int .i64 0,.str [],.sl true 4 []] [(0,1,kI 1)])::fI 73 (.bsl 4 [.t 72])::fI 74 (.bld [.int .i64 0,.str [],.sl true 4 [],.sl true 5 [],.sl true 5 []] [(0,1,kI 6),(2,1,.t 73)])::eI 5 (.alloc [.int .i64 0,.str [],.sl true 4 [],.sl true 5 [],.sl true 5 []])::Qags) [0,2,3,4,5] Qa76) (sR [cJ 98 .eql 20 5,mJ 97 98] [0,2,3,4,20,97] Qa8b)
def Qa8d:SC:=cT 52 (.reg (fI 54 (.bsl 5 [])::fJ 55 2 4::lJ 56 55::xJ 57 5 54 56::Qagr) [2,3,4]) (sR [cJ 71 .eql 20 4,mJ 70 71] [0,2,3,4,20,70] Qa8c)
def Qa8e:SC:=cT 39 (.reg (fI 41 (.bsl 5 [])::fJ 42 2 4::lJ 43 42::xJ 44 5 41 43::Qaoc) [2,3,4]) (sR [cJ 53 .eql 20 3,mJ 52 53] [0,2,3,4,20,52] Qa8d)
def Qa8f:SC:=cT 27 (.reg (fI 29 (.bsl 1 [])::fJ 30 1 4::lJ 31 30::xJ 32 1 29 31::Qan9) [2,3,4]) (sR [cJ 40 .eql 20 2,mJ 39 40] [0,2,3,4,20,39] Qa8e)
def Qa8g:SC:=cT 21 (.reg (mJ 23 0::fI 24 (.bsl 1 [.k (.c (.str [102])),.k (.c (.str [100,111])),.k (.c (.str [])),.k (.c (.str [103]))])::aJ 25 Qbq [.t 23,.t 24]::Qan6) [2,3,4]) (sR [cJ 28 .eql 20 1,mJ 27 28] [0,2,3,4,20,27] Qa8f)
def Qa8h:SC:=.block 0 (sR [cJ 22 .eql 20 0,mJ 21 22] [0,2,3,4,20,21] Qa8g)
def Qag2:List Item:=[mJ 8 136]
def Qa8i:SC:=sR [mJ 143 8,fI 144 (.bld [.sl true 3 []] [(0,1,.t 143)]),sJ 1 2 144] [2] .ret
def Qa8j:SC:=sR [mJ 137 8,mJ 138 8,nJ 139 138,cJ 140 .sub 139 1,tJ 141 3 4,iJ 142 3 137 140,sJ 3 142 141] [2,8] Qa8i
def Qan2:SC:=sR (fI 133 (.bsl 3 [])::fJ 134 0 3::lJ 135 134::xJ 136 3 133 135::Qag2) [2,4,8] Qa8j
def Qa8k:SC:=.seq (sR [mJ 19 0,aJ 20 Qz [.t 19,kI 32]] [0,2,3,4,20] Qa8h) Qan2
def Qa8l:SC:=sR (fJ 11 0 3::lJ 12 11::fJ 13 0 3::lJ 14 13::nJ 15 14::cJ 16 .sub 15 1::iJ 17 3 12 16::tJ 18 3 17::eI 4 (.alloc [.str [],.sl true 1 [],.sl true 5 []])::Qan5) [0,2,3,4] Qa8k
def Qa8m:SC:=sR (mJ 9 0::aJ 10 Qaay [.t 9]::Qan4) [0,2,3] Qa8l
def Qbnp:SC:=sR [eI 2 (.alloc [.sl true 3 []])] [0,2] Qa8m
theorem Qbmv:mFn prog Qak7 1 145 Qbnp Qbbq=true:=by kernel_rfl
def Qapi:List Item:=[sJ 1 3 6]
def Qapj:List Item:=[sJ 3 5 18]
def Qapk:List Item:=[fJ 33 0 3,sJ 1 33 32]
def Qapl:List Item:=hJ 20 19::hJ 22 21::fI 30 (.bld [.str [],.sl true 1 [],.sl true 5 []] [(0,1,.t 22),(1,1,.t 26),(2,1,.t 29)])::fI 31 (.bsl 3 [.t 30])::xJ 32 3 20 31::Qapk
def Qapm:List Item:=hJ 20 19::hJ 22 21::hJ 28 27::aJ 29 Qi3 [.t 28]::Qapl
def Qbeh:SC:=.dreg 16 [0,1,2,3,4,5,6,8,9,7,1,3,9,10,1,3,11,12,13,14,15] ( fJ 19 0 3::lJ 20 19::fJ 21 0 5::lJ 22 21::fI 23 (.bsl 1 [])::fJ 24 1 5::lJ 25 24::fJ 27 2 5::lJ 28 27::xJ 26 1 23 25::Qapm) [1,2,3,4]
def Qbei:SC:=.reg [mJ 12 4,cJ 13 .add 12 1,mJ 4 13] [1,2,3,4]
def Qbej:SC:=.seq (.block 1 (sR (fJ 14 0 1::lJ 15 14::mJ 16 4::iJ 17 3 15 16::tJ 18 3 17::eI 5 (.alloc [.str [],.sl true 1 [],.sl true 5 []])::Qapj) [1,2,3,4,5] Qbeh)) Qbei
def Qa9g:SC:=.seq (sR [mJ 7 4,fJ 8 0 1,lJ 9 8,nJ 10 9,bJ 11 .lss 7 10] [1,2,3,4,11] (cT 11 .skip (.exit 0))) Qbej
def Qbek:SC:=sR [tJ 34 1 3,sJ 1 2 34] [2] .ret
def Qa9e:SC:=.seq (sR [zJ 4 0] [1,2,3,4] (bL 0 Qa9g)) Qbek
def Qa9f:SC:=sR (fI 6 (.bld [.sl true 3 []] [])::eI 3 (.alloc [.sl true 3 []])::Qapi) [1,2,3] Qa9e
def Qbnx:SC:=sR [vJ 1 0,eI 2 (.alloc [.sl true 3 []])] [1,2] Qa9f
theorem Qbmx:mFn prog Qak8 1 35 Qbnx Qbbq=true:=by kernel_rfl
def Qapn:List Item:=[cJ 5 .eql 4 0,mJ 2 5]
def Qbel:SC:=sR (tJ 3 1 1::aJ 4 Qhc [.t 3]::Qapn) [2] .ret
def Qbny:SC:=sR [vJ 1 0,fB 2 false] [1] Qbel
theorem Qbmy:mFn prog Qak9 1 6 Qbny Qfh=true:=by kernel_rfl
def Qa3s:List Item:=[zJ 5 0,zJ 6 0]
def Qa3t:List Item:=[mJ 7 14]
def Qa3u:List Item:=[sJ 3 8 19]
def Qa3v:List Item:=[mJ 24 1,bJ 25 .neq 23 24]
def Qbnz:SC:=cT 25 (.reg [mJ 26 7,aJ 27 Qcw [.t 26,kI 2]] [4,7,8]) .skip
def Qa3w:List Item:=[mJ 9 45]
def Qa3x:List Item:=fI 44 (.bsl 1 [.t 43])::xJ 45 1 36 44::Qa3w
def Qbn0:SC:=.reg [mJ 34 10,cJ 35 .add 34 1,mJ 10 35] [4,7,8,9,10]
def Qbn1:SC:=.seq (.block 1 (.reg (mJ 36 9::mJ 37 7::fJ 38 1 8::lJ 39 38::mJ 40 10::iJ 41 1 39 40::lJ 42 41::aJ 43 Qnb [.t 37,.t 42,kI 0]::Qa3x) [4,7,8,9,10])) Qbn0
def Qbjw:SC:=.seq (sR [mJ 29 10,fJ 30 1 8,lJ 31 30,nJ 32 31,bJ 33 .lss 29 32] [4,7,8,9,10,33] (cT 33 .skip (.exit 0))) Qbn1
def Qawz:List Item:=[fJ 52 2 8,sJ 1 52 51]
def Qaw0:List Item:=[hJ 57 56,hJ 61 60,mJ 5 57,mJ 6 61]
def Qbjp:SC:=.seq (.dreg 12 [0,1,2,3,4,5,6,7,8,9,4,8,10,11] ( tJ 53 3 8::mJ 54 7::kJ 55 54::fJ 56 4 55::lJ 57 56::mJ 58 7::kJ 59 58::fJ 60 3 59::lJ 61 60::sJ 3 4 53::Qaw0) [4,5,6]) .ret
def Qbjq:SC:=sR (mJ 48 7::fJ 49 2 8::lJ 50 49::aJ 51 Qec [.t 48,.t 50,kI 0]::Qawz) [4,7,8] Qbjp
def Qbjr:SC:=sR [mJ 46 9,fJ 47 1 8,sJ 1 47 46] [4,7,8] Qbjq
def Qbjs:SC:=.seq (sR [zJ 10 0] [4,7,8,9,10] (bL 0 Qbjw)) Qbjr
def Qa3r:SC:=sR [fI 28 (.bsl 1 []),mJ 9 28] [4,7,8,9] Qbjs
def Qbjt:SC:=.seq (sR (tJ 20 1 2::fJ 21 0 8::lJ 22 21::aJ 23 Qqv [.t 20,.t 22]::Qa3v) [4,7,8,25] Qbnz) Qa3r
def Qbju:SC:=sR (fJ 15 0 2::lJ 16 15::mJ 17 1::iJ 18 3 16 17::tJ 19 3 18::eI 8 (.alloc [.str [],.sl true 1 [],.sl true 5 []])::Qa3u) [1,2,4,7,8] Qbjt
def Qbjv:SC:=sR (tJ 11 1 2::mJ 12 1::fI 13 (.bld [.sl true 3 [],.int .i64 0,.sl true 3 [],.int .i64 0,.int .i64 0] [(0,1,.t 11),(1,1,.t 12)])::eI 14 (.boxm (.t 13))::Qa3t) [1,2,4,7] Qbju
def Qbtb:SC:=sR (vJ 2 0::eI 4 (.alloc [.str [],.sl true 1 [],.sl true 5 []])::Qa3s) [1,2,4] Qbjv
def Qbiq:List RS:=[.cell 4 3 true,.tmp 5,.tmp 6]
theorem Qbsx:mFn prog Qa55 2 62 Qbtb Qbiq=true:=by kernel_rfl
def Qbem:SC:=sR [mJ 6 3,mJ 7 3,cJ 8 .add 7 1,fI 9 (.slis (.k (.c (.str [97,98,99,100,101,102,103,104,105,106,107,108,109,110,111,112,113,114,115,116,117,118,119,120,121,122]))) (some (.t 6)) (some (.t 8))),fI 10 (.bin 0 .add (.k (.c (.str [118]))) (.t 9)),mJ 2 10] [2] .ret
def Qben:SC:=sR [mJ 4 0,cJ 5 .rem 4 26,mJ 3 5] [3] Qbem
def Qbn2:SC:=sR [fI 2 (.mv (.k (.c (.str []))))] [0] Qben
theorem Qbmz:mFn prog Qaa0 1 11 Qbn2 Qfh=true:=by kernel_rfl
def Qaha:List Item:=[sJ 5 5 18]
def Qahb:List Item:=[mJ 6 35]
def Qahc:List Item:=fI 34 (.bsl 4 [.t 33])::xJ 35 4 27 34::Qahb
def Qa9h:SC:=.reg [mJ 25 7,cJ 26 .add 25 1,mJ 7 26] [0,3,4,5,6,7]
def Qa9i:SC:=.seq (.block 3 (.reg (mJ 27 6::fJ 28 2 5::lJ 29 28::mJ 30 7::iJ 31 4 29 30::tJ 32 4 31::aJ 33 Qaaw [.t 32]::Qahc) [0,3,4,5,6,7])) Qa9h
def Qa35:SC:=.seq (sR [mJ 20 7,fJ 21 2 5,lJ 22 21,nJ 23 22,bJ 24 .lss 20 23] [0,3,4,5,6,7,24] (cT 24 .skip (.exit 2))) Qa9i
def Qahd:List Item:=[mJ 3 50]
def Qahe:List Item:=hJ 38 37::hJ 40 39::fI 48 (.bld [.int .i64 0,.str [],.sl true 4 [],.sl true 5 [],.sl true 5 []] [(0,1,.t 38),(1,1,.t 40),(2,1,.t 41),(3,1,.t 44),(4,1,.t 47)])::fI 49 (.bsl 5 [.t 48])::xJ 50 5 36 49::Qahd
def Qahf:List Item:=hJ 38 37::hJ 40 39::hJ 46 45::aJ 47 Qi3 [.t 46]::Qahe
def Qa9j:SC:=.dreg 16 [0,1,2,3,4,5,6,7,9,10,8,2,4,10,11,2,4,12,13,14,15] ( mJ 36 3::fJ 37 0 5::lJ 38 37::fJ 39 1 5::lJ 40 39::mJ 41 6::fJ 42 3 5::lJ 43 42::fJ 45 4 5::lJ 46 45::aJ 44 Qi3 [.t 43]::Qahf) [0,3,4]
def Qa3y:SC:=.seq (sR [zJ 7 0] [0,3,4,5,6,7] (bL 2 Qa35)) Qa9j
def Qa3z:SC:=sR [fI 19 (.bsl 4 []),mJ 6 19] [0,3,4,5,6] Qa3y
def Qa30:SC:=.reg [mJ 13 4,cJ 14 .add 13 1,mJ 4 14] [0,3,4]
def Qa31:SC:=.seq (.block 1 (sR (mJ 15 0::mJ 16 4::iJ 17 5 15 16::tJ 18 5 17::eI 5 (.alloc [.int .i64 0,.str [],.sl true 4 [],.sl true 5 [],.sl true 5 []])::Qaha) [0,3,4,5] Qa3z)) Qa30
def Qaz1:SC:=.seq (sR [mJ 9 4,mJ 10 0,nJ 11 10,bJ 12 .lss 9 11] [0,3,4,12] (cT 12 .skip (.exit 0))) Qa31
def Qa32:SC:=sR [mJ 51 3,mJ 2 51] [2] .ret
def Qa33:SC:=.seq (sR [zJ 4 0] [0,3,4] (bL 0 Qaz1)) Qa32
def Qa34:SC:=sR [fI 8 (.bsl 5 []),mJ 3 8] [0,3] Qa33
def Qbj0:SC:=sR [fI 2 (.mv (.k (.c (.sl true 5 []))))] [0] Qa34
theorem Qbh8:mFn prog Qi3 1 52 Qbj0 Qfh=true:=by kernel_rfl
def Qvt:List Item:=[eI 4 (.alloc [.int .i64 0,.int .i64 0,.str [],.sl true 4 []])]
def Qvu:List Item:=[fJ 15 2 3,sJ 1 15 14]
def Qapv:SC:=cT 10 (.reg (mJ 11 0::fJ 12 2 3::lJ 13 12::aJ 14 Qnc [.t 11,.t 13]::Qvu) [0,3,4]) .skip
def Qvv:List Item:=[mJ 5 25]
def Qapw:SC:=cT 51 (.reg [mJ 52 0,aJ 53 Qcw [.t 52,kI 5]] [0,3,4]) .skip
def Q12:SC:=cT 35 (.reg [mJ 36 0,aJ 37 Qcw [.t 36,kI 4]] [0,3,4]) (.seq (.dreg 14 [0,1,2,3,4,5,6,7,8,9,10,11,12,13] ( mJ 38 0::kJ 39 38::fJ 40 0 39::fJ 41 0 40::lJ 42 41::mJ 43 5::iJ 44 3 42 43::fJ 45 1 44::lJ 46 45::nJ 47 46::fJ 48 3 3::lJ 49 48::nJ 50 49::bJ 51 .neq 47 50::[]) [0,3,4,51]) Qapw)
def Qapx:SC:=sR [mJ 26 5,cJ 27 .lss 26 0,mJ 28 27,gFm 29 28 5,gFm 30 28 0,gF 31 28 (.nck (.t 30)),gFf 32 28 1 31,gFl 33 28 32,gF 34 28 (.bin 0 .geq (.t 29) (.t 33)),pT 35 28 34] [0,3,4,5,35] Q12
def Qapy:SC:=cT 18 (.seq (.dreg 8 [0,1,2,3,4,5,6,7] ( mJ 19 0::kJ 20 19::fJ 21 0 20::tJ 22 1 21::fJ 23 2 3::lJ 24 23::aJ 25 Qqv [.t 22,.t 24]::Qvv) [0,3,4,5]) Qapx) .skip
def Qvw:List Item:=[mJ 6 71]
def Qvx:List Item:=fI 70 (.bsl 4 [.t 69])::xJ 71 4 62 70::Qvw
def Qai6:SC:=.reg [mJ 60 7,cJ 61 .add 60 1,mJ 7 61] [0,3,4,6,7]
def Qai7:SC:=.seq (.block 1 (.reg (mJ 62 6::mJ 63 0::fJ 64 3 3::lJ 65 64::mJ 66 7::iJ 67 4 65 66::tJ 68 4 67::aJ 69 Qjm [.t 63,.t 68]::Qvx) [0,3,4,6,7])) Qai6
def Qaez:SC:=.seq (sR [mJ 55 7,fJ 56 3 3,lJ 57 56,nJ 58 57,bJ 59 .lss 55 58] [0,3,4,6,7,59] (cT 59 .skip (.exit 0))) Qai7
def Qai8:SC:=sR [tJ 74 4 3,sJ 4 4 74] [4] .ret
def Qai9:SC:=sR [mJ 72 6,fJ 73 3 3,sJ 1 73 72] [3,4] Qai8
def Qaja:SC:=.seq (sR [zJ 7 0] [0,3,4,6,7] (bL 0 Qaez)) Qai9
def Qld:SC:=sR [fI 54 (.bsl 4 []),mJ 6 54] [0,3,4,6] Qaja
def Qvs:SC:=.seq (sR [fJ 16 0 3,lJ 17 16,cJ 18 .eql 17 13] [0,3,4,18] Qapy) Qld
def Qajb:SC:=.seq (sR [fJ 8 0 3,lJ 9 8,cJ 10 .eql 9 2] [0,3,4,10] Qapv) Qvs
def Qaz2:SC:=sR (eI 3 (.boxm (.t 1))::Qvt) [0,3,4] Qajb
theorem Qayi:mFn prog Qjm 2 75 Qaz2 Qps=true:=by kernel_rfl
def Qapz:SC:=cT 8 (.reg [mJ 9 0,mJ 10 1,kJ 11 9,fJ 12 4 11,sJ 1 12 10] []) .skip
def Qaz3:SC:=sR [mJ 4 0,kJ 5 4,fJ 6 4 5,lJ 7 6,cJ 8 .eql 7 0] [0,1,8] Qapz
theorem Qayj:mFn prog Qcw 2 13 Qaz3 Qtn=true:=by kernel_rfl
def Qap0:SC:=cT 25 (sR [mJ 26 5,mJ 4 26] [4] .ret) .skip
def Qap1:SC:=.reg [mJ 14 5,cJ 15 .sub 14 1,mJ 5 15] [0,1,5]
def Qap2:SC:=.seq (.block 1 (sR [mJ 16 0,kJ 17 16,fJ 18 2 17,lJ 19 18,mJ 20 5,iJ 21 3 19 20,fJ 22 0 21,lJ 23 22,mJ 24 1,bJ 25 .eql 23 24] [0,1,5,25] Qap0)) Qap1
def Qajc:SC:=.seq (sR [mJ 12 5,cJ 13 .geq 12 0] [0,1,5,13] (cT 13 .skip (.exit 0))) Qap2
def Qap3:SC:=sR [zJ 4 (-1)] [4] .ret
def Qap4:SC:=.seq (sR [mJ 6 0,kJ 7 6,fJ 8 2 7,lJ 9 8,nJ 10 9,cJ 11 .sub 10 1,mJ 5 11] [0,1,5] (bL 0 Qajc)) Qap3
def Qaz4:SC:=sR [zJ 4 0] [0,1] Qap4
theorem Qayk:mFn prog Qjn 2 27 Qaz4 Qpr=true:=by kernel_rfl
def Q13:List Item:=[mJ 7 10]
def Qaul:SC:=cT 24 (.reg [mJ 25 0,aJ 26 Qcw [.t 25,kI 2]] [0,1,2]) .skip
def Q14:List Item:=[kJ 41 27,fJ 42 2 41,sJ 1 42 40]
def Q15:List Item:=[mJ 6 56]
def Qaum:SC:=sR (mJ 51 0::kJ 52 51::fJ 53 3 52::lJ 54 53::cJ 55 .sub 54 1::aJ 56 Qaa0 [.t 55]::Q15) [6] .ret
def Qaun:SC:=sR [mJ 43 0,mJ 44 0,kJ 45 44,fJ 46 3 45,lJ 47 46,cJ 48 .add 47 1,kJ 49 43,fJ 50 3 49,sJ 1 50 48] [0] Qaum
def Q7j:SC:=.seq (.dreg 17 [0,1,2,3,4,5,6,7,8,9,10,11,12,13,14,15,16] ( mJ 27 0::mJ 28 0::kJ 29 28::fJ 30 2 29::lJ 31 30::mJ 32 1::mJ 33 0::kJ 34 33::fJ 35 3 34::lJ 36 35::mJ 37 2::fI 38 (.bld [.str [],.int .i64 0,.int .i64 0] [(0,1,.t 32),(1,1,.t 36),(2,1,.t 37)])::fI 39 (.bsl 3 [.t 38])::xJ 40 3 31 39::Q14) [0]) Qaun
def Qauo:SC:=.seq (sR [mJ 11 7,cJ 12 .geq 11 0,mJ 13 12,gTm 14 13 0,gT 15 13 (.nck (.t 14)),gTf 16 13 2 15,gTl 17 13 16,gTm 18 13 7,gT 19 13 (.iad 3 (.t 17) (.t 18)),gTf 20 13 2 19,gTl 21 13 20,gTm 22 13 2,gT 23 13 (.bin 0 .eql (.t 21) (.t 22)),pF 24 13 23] [0,1,2,24] Qaul) Q7j
def Qaup:SC:=sR (mJ 8 0::mJ 9 1::aJ 10 Qjn [.t 8,.t 9]::Q13) [0,1,2,7] Qauo
def Qa36:SC:=sR [fI 6 (.mv (.k (.c (.str []))))] [0,1,2] Qaup
theorem Qa13:mFn prog Qnb 3 57 Qa36 Qbo3=true:=by kernel_rfl
def Qsd:List Item:=[sJ 5 10 28]
def Qse:List Item:=[mJ 11 46]
def Qsf:List Item:=fI 45 (.bsl 4 [.t 44])::xJ 46 4 37 45::Qse
def Qajd:SC:=.reg [mJ 35 12,cJ 36 .add 35 1,mJ 12 36] [0,1,2,7,8,9,10,11,12]
def Qaje:SC:=.seq (.block 3 (.reg (mJ 37 11::mJ 38 0::fJ 39 2 10::lJ 40 39::mJ 41 12::iJ 42 4 40 41::tJ 43 4 42::aJ 44 Qjm [.t 38,.t 43]::Qsf) [0,1,2,7,8,9,10,11,12])) Qajd
def Qafd:SC:=.seq (sR [mJ 30 12,fJ 31 2 10,lJ 32 31,nJ 33 32,bJ 34 .lss 30 33] [0,1,2,7,8,9,10,11,12,34] (cT 34 .skip (.exit 2))) Qaje
def Qsg:List Item:=[fJ 57 1 10,sJ 1 57 56]
def Qajf:SC:=cT 51 (.reg (mJ 52 0::fJ 53 1 10::lJ 54 53::mJ 55 2::aJ 56 Qnb [.t 52,.t 54,.t 55]::Qsg) [0,1,2,7,8,9,10]) .skip
def Qsh:List Item:=[fJ 65 1 10,sJ 1 65 64]
def Qajg:SC:=cT 60 (.reg (mJ 61 0::fJ 62 1 10::lJ 63 62::aJ 64 Qnc [.t 61,.t 63]::Qsh) [0,1,2,7,8,9,10]) .skip
def Qpy:List Item:=[fJ 72 3 10,sJ 1 72 71]
def Qpz:List Item:=[fJ 79 4 10,sJ 1 79 78]
def Qp0:List Item:=[mJ 7 83]
def Qae0:SC:=.reg (mJ 80 7::tJ 81 5 10::fI 82 (.bsl 5 [.t 81])::xJ 83 5 80 82::Qp0) [0,1,2,7,8,9]
def Qae1:SC:=sR (mJ 73 0::fJ 74 4 10::lJ 75 74::mJ 76 2::cJ 77 .add 76 1::aJ 78 Qec [.t 73,.t 75,.t 77]::Qpz) [0,1,2,7,8,9,10] Qae0
def Qjc:SC:=sR (mJ 66 0::fJ 67 3 10::lJ 68 67::mJ 69 2::cJ 70 .add 69 1::aJ 71 Qec [.t 66,.t 68,.t 70]::Qpy) [0,1,2,7,8,9,10] Qae1
def Qae2:SC:=.seq (sR [fJ 58 0 10,lJ 59 58,cJ 60 .eql 59 2] [0,1,2,7,8,9,10,60] Qajg) Qjc
def Qsb:SC:=.seq (sR [fJ 49 0 10,lJ 50 49,cJ 51 .eql 50 1] [0,1,2,7,8,9,10,51] Qajf) Qae2
def Qae3:SC:=.seq (.seq .gh (.reg [mJ 47 11,fJ 48 2 10,sJ 1 48 47] [0,1,2,7,8,9,10])) Qsb
def Qae4:SC:=.seq (sR [zJ 12 0] [0,1,2,7,8,9,10,11,12] (bL 2 Qafd)) Qae3
def Qae5:SC:=sR [fI 29 (.bsl 4 []),mJ 11 29] [0,1,2,7,8,9,10,11] Qae4
def Qae6:SC:=.reg [mJ 23 9,cJ 24 .add 23 1,mJ 9 24] [0,1,2,7,8,9]
def Qae7:SC:=.seq (.block 1 (sR (mJ 25 1::mJ 26 9::iJ 27 5 25 26::tJ 28 5 27::eI 10 (.alloc [.int .i64 0,.str [],.sl true 4 [],.sl true 5 [],.sl true 5 []])::Qsd) [0,1,2,7,8,9,10] Qae5)) Qae6
def Qacl:SC:=.seq (sR [mJ 19 9,mJ 20 1,nJ 21 20,bJ 22 .lss 19 21] [0,1,2,7,8,9,22] (cT 22 .skip (.exit 0))) Qae7
def Qae8:SC:=cT 85 (.reg [mJ 86 0,mJ 87 0,kJ 88 87,fJ 89 2 88,lJ 90 89,mJ 91 8,fI 92 (.sli 3 (.t 90) none (some (.t 91))),kJ 93 86,fJ 94 2 93,sJ 1 94 92] [7]) .skip
def Qsc:SC:=sR [mJ 95 7,mJ 6 95] [6] .ret
def Qae9:SC:=.seq (sR [mJ 84 2,cJ 85 .gtr 84 0] [0,7,8,85] Qae8) Qsc
def Qafa:SC:=.seq (sR [zJ 9 0] [0,1,2,7,8,9] (bL 0 Qacl)) Qae9
def Qafb:SC:=sR [mJ 14 0,kJ 15 14,fJ 16 2 15,lJ 17 16,nJ 18 17,mJ 8 18] [0,1,2,7,8] Qafa
def Qafc:SC:=sR [fI 13 (.bsl 5 []),mJ 7 13] [0,1,2,7] Qafb
def Qauq:SC:=sR [fI 6 (.mv (.k (.c (.sl true 5 []))))] [0,1,2] Qafc
theorem Qash:mFn prog Qec 3 96 Qauq Qbo3=true:=by kernel_rfl
def Q16:List Item:=[mJ 5 8]
def Qaur:SC:=sR [mJ 13 1,mJ 4 13] [4] .ret
def Qaus:SC:=cT 10 (sR [mJ 11 0,aJ 12 Qcw [.t 11,kI 3]] [1] Qaur) .skip
def Q17:List Item:=[mJ 4 22]
def Qaut:SC:=sR (mJ 14 0::kJ 15 14::fJ 16 2 15::lJ 17 16::mJ 18 5::iJ 19 3 17 18::fJ 20 1 19::lJ 21 20::aJ 22 Qaa0 [.t 21]::Q17) [4] .ret
def Qauu:SC:=.seq (sR [mJ 9 5,cJ 10 .lss 9 0] [0,1,5,10] Qaus) Qaut
def Qauv:SC:=sR (mJ 6 0::mJ 7 1::aJ 8 Qjn [.t 6,.t 7]::Q16) [0,1,5] Qauu
def Qa37:SC:=sR [fI 4 (.mv (.k (.c (.str []))))] [0,1] Qauv
theorem Qa14:mFn prog Qnc 2 23 Qa37 Qpr=true:=by kernel_rfl
def Qfo:List Item:=[cJ 8 .geq 7 0,mJ 4 8]
def Qsi:SC:=sR (mJ 5 0::mJ 6 1::aJ 7 Qe1 [.t 5,.t 6]::Qfo) [4] .ret
def Qxs:SC:=sR [fB 4 false] [0,1] Qsi
theorem Qwm:mFn prog Qdi 2 9 Qxs Qpr=true:=by kernel_rfl
def Qer:List Item:=[cJ 8 .geq 7 0,mJ 4 8]
def Qpa:SC:=sR (mJ 5 0::mJ 6 1::aJ 7 Qdv [.t 5,.t 6]::Qer) [4] .ret
def Qsj:SC:=sR [fB 4 false] [0,1] Qpa
theorem Qq2:mFn prog Qcx 2 9 Qsj Qpr=true:=by kernel_rfl
def Qh4:List Item:=[cJ 8 .geq 7 0,mJ 4 8]
def Qxt:SC:=sR (mJ 5 0::mJ 6 1::aJ 7 Qhb [.t 5,.t 6]::Qh4) [4] .ret
def Q5v:SC:=sR [fB 4 false] [0,1] Qxt
theorem Q4h:mFn prog Qee 2 9 Q5v Qpr=true:=by kernel_rfl
def Q9z:SC:=cT 16 (sR [mJ 17 5,mJ 4 17] [4] .ret) .skip
def Q90:SC:=sR [mJ 11 1,mJ 12 0,mJ 13 5,iJ 14 3 12 13,tJ 15 3 14,eI 16 (.callv (.t 11) [.t 15])] [0,1,5,7,8,16] Q9z
def Q91:SC:=.reg [cJ 18 .add 8 1,mJ 8 18] [0,1,7,8]
def Q92:SC:=.seq (.block 1 (sR [mJ 10 8,mJ 5 10] [0,1,5,7,8] Q90)) Q91
def Q59:SC:=sR [bJ 9 .lss 8 7] [0,1,7,8,9] (cX 9 0 Q92)
def Q93:SC:=sR [zJ 4 (-1)] [4] .ret
def Q94:SC:=.seq (sR [mJ 6 0,nJ 7 6,zJ 8 0] [0,1,7,8] (bL 0 Q59)) Q93
def Qafj:SC:=sR [zJ 4 0] [0,1] Q94
theorem Qq3:mFn prog Qcm 2 19 Qafj Qpr=true:=by kernel_rfl
def Q23:SC:=cT 16 (sR [mJ 17 5,mJ 4 17] [4] .ret) .skip
def Q24:SC:=sR [mJ 11 1,mJ 12 0,mJ 13 5,iJ 14 5 12 13,tJ 15 5 14,eI 16 (.callv (.t 11) [.t 15])] [0,1,5,7,8,16] Q23
def Q25:SC:=.reg [cJ 18 .add 8 1,mJ 8 18] [0,1,7,8]
def Q26:SC:=.seq (.block 1 (sR [mJ 10 8,mJ 5 10] [0,1,5,7,8] Q24)) Q25
def Qx4:SC:=sR [bJ 9 .lss 8 7] [0,1,7,8,9] (cX 9 0 Q26)
def Q27:SC:=sR [zJ 4 (-1)] [4] .ret
def Q28:SC:=.seq (sR [mJ 6 0,nJ 7 6,zJ 8 0] [0,1,7,8] (bL 0 Qx4)) Q27
def Q95:SC:=sR [zJ 4 0] [0,1] Q28
theorem Q75:mFn prog Qe1 2 19 Q95 Qpr=true:=by kernel_rfl
def Quq:SC:=cT 16 (sR [mJ 17 5,mJ 4 17] [4] .ret) .skip
def Qur:SC:=sR [mJ 11 1,mJ 12 0,mJ 13 5,iJ 14 1 12 13,lJ 15 14,eI 16 (.callv (.t 11) [.t 15])] [0,1,5,7,8,16] Quq
def Qus:SC:=.reg [cJ 18 .add 8 1,mJ 8 18] [0,1,7,8]
def Qut:SC:=.seq (.block 1 (sR [mJ 10 8,mJ 5 10] [0,1,5,7,8] Qur)) Qus
def Qsk:SC:=sR [bJ 9 .lss 8 7] [0,1,7,8,9] (cX 9 0 Qut)
def Quu:SC:=sR [zJ 4 (-1)] [4] .ret
def Quv:SC:=.seq (sR [mJ 6 0,nJ 7 6,zJ 8 0] [0,1,7,8] (bL 0 Qsk)) Quu
def Q29:SC:=sR [zJ 4 0] [0,1] Quv
theorem Qyq:mFn prog Qdv 2 19 Q29 Qpr=true:=by kernel_rfl
def Q96:SC:=cT 16 (sR [mJ 17 5,mJ 4 17] [4] .ret) .skip
def Q97:SC:=sR [mJ 11 1,mJ 12 0,mJ 13 5,iJ 14 1 12 13,lJ 15 14,bJ 16 .eql 11 15] [0,1,5,7,8,16] Q96
def Q98:SC:=.reg [cJ 18 .add 8 1,mJ 8 18] [0,1,7,8]
def Q99:SC:=.seq (.block 1 (sR [mJ 10 8,mJ 5 10] [0,1,5,7,8] Q97)) Q98
def Q6g:SC:=sR [bJ 9 .lss 8 7] [0,1,7,8,9] (cX 9 0 Q99)
def Qaaa:SC:=sR [zJ 4 (-1)] [4] .ret
def Qaab:SC:=.seq (sR [mJ 6 0,nJ 7 6,zJ 8 0] [0,1,7,8] (bL 0 Q6g)) Qaaa
def Qafl:SC:=sR [zJ 4 0] [0,1] Qaab
theorem Qadt:mFn prog Qhb 2 19 Qafl Qpr=true:=by kernel_rfl
def Qmx:List Item:=[oJ 9 8]
def Qaac:SC:=cT 9 (sR [zJ 2 1] [2] .ret) .skip
def Qmy:List Item:=[mJ 5 22,mJ 6 23]
def Qmz:List Item:=sJ 3 4 21::Qmy
def Qm0:List Item:=mJ 17 20::fI 21 (.ext (.t 17) 0)::fI 22 (.ext (.t 17) 1)::fI 23 (.ext (.t 17) 2)::eI 4 (.alloc [.str [],.sl true 1 [],.sl true 5 []])::Qmz
def Qaad:SC:=cT 25 (sR [mJ 26 5,mJ 2 26] [2] .ret) .skip
def Qaae:SC:=sR [mJ 24 5,cJ 25 .neq 24 0] [1,3,5,25] Qaad
def Qaaf:SC:=.reg [mJ 15 3,cJ 16 .add 15 1,mJ 3 16] [1,3]
def Qaag:SC:=.seq (.block 1 (sR (tJ 18 1 1::mJ 19 3::aJ 20 Qa55 [.t 18,.t 19]::Qm0) [1,3,5] Qaae)) Qaaf
def Q6k:SC:=.seq (sR [mJ 10 3,fJ 11 0 1,lJ 12 11,nJ 13 12,bJ 14 .lss 10 13] [1,3,14] (cT 14 .skip (.exit 0))) Qaag
def Q6h:SC:=sR [zJ 2 0] [2] .ret
def Q6i:SC:=.seq (sR [zJ 3 0] [1,3] (bL 0 Q6k)) Q6h
def Q6j:SC:=.seq (sR (tJ 7 1 1::aJ 8 Qcn [.t 7]::Qmx) [1,9] Qaac) Q6i
def Qafm:SC:=sR [vJ 1 0,zJ 2 0] [1] Q6j
theorem Qadu:mFn prog Qhc 1 27 Qafm Qfh=true:=by kernel_rfl
def Qix:List Item:=[mJ 4 7]
def Q3b:SC:=sR (mJ 5 0::mJ 6 1::aJ 7 Qe3 [.t 5,.t 6,.k (.c (.bool true))]::Qix) [4] .ret
def Qaap:SC:=sR [zJ 4 0] [0,1] Q3b
theorem Q76:mFn prog Qe2 2 8 Qaap Qpr=true:=by kernel_rfl
def Qdx:List Item:=[fI 12 (.ext (.t 11) 0)]
def Qiy:List Item:=[mJ 18 2,fI 19 (.bin 1 .eql (.t 17) (.t 18))]
def Q3c:SC:=cT 19 (sR [mJ 20 7,mJ 6 20] [6] .ret) .skip
def Q3d:SC:=sR (mJ 15 1::mJ 16 8::eI 17 (.callv (.t 15) [.t 16])::Qiy) [1,2,7,10,19] Q3c
def Q3e:SC:=.block 1 (sR [fI 13 (.ext (.t 11) 1),fI 14 (.ext (.t 11) 2),mJ 7 13,mJ 8 14] [1,2,7,8,10] Q3d)
def Qx5:SC:=sR (eI 11 (.nxts (.t 10))::Qdx) [1,2,10,11,12] (cX 12 0 Q3e)
def Q3f:SC:=sR [zJ 6 (-1)] [6] .ret
def Q3g:SC:=.seq (sR [mJ 9 0,eI 10 (.rngs (.t 9))] [1,2,10] (bL 0 Qx5)) Q3f
def Qaaq:SC:=sR [zJ 6 0] [0,1,2] Q3g
theorem Q77:mFn prog Qe3 3 21 Qaaq Qbo3=true:=by kernel_rfl
end Go.AE.Y
namespace Go.AE.Y
attribute [local go_sem] cond_true cond_false Bool.not_true Bool.not_false
open Go.Proofs.Tryz
variable {H:Heap}{K:V→Heap→Prop}
def levN (op:Int):Int:=if op=10 then 1 else if op=8∨op=9 then 2 else if op=3∨op=4 then 3 else if op=5∨op=6∨op=7 then 4 else 0
structure GK (H:Heap):Prop where
 keys:H Qhg=.gl Qhg (keysL.map C.str)
 sign:∃ks rows,H Qbp=.gl Qbp [.cm true ks rows]∧∀op:Int,Qo7 0 (.int .i64 op) ((ks.zip rows).map fun e=>(e.1,V.ag e.2))∧
  ∃sg,(Qg0 (.int .i64 op) ((ks.zip rows).map fun e=>(e.1,V.ag e.2))).getD (.ag [.str [],.int .i64 0])=.ag [.str sg,.int .i64 (levN op)]
theorem GK.upd {H':Heap}{U:List (Nat×Obj)}(g:GK H)(hu:Upd H H' U)(h1:Qhg∉U.map Prod.fst)(h2:Qbp∉U.map Prod.fst):GK H':=by
 obtain⟨ks,rows,h3,h4⟩:=g.sign;exact⟨(hu.2 _ (by rw[g.keys];nofun) h1).trans g.keys,ks,rows,(hu.2 _ (by rw[h3];nofun) h2).trans h3,h4⟩
theorem GK.upd0 {H':Heap}(g:GK H)(hu:Upd H H' []):GK H':=g.upd hu (by simp) (by simp)
theorem GK.kn {H':Heap}{L:List (Nat×Obj)}(g:GK H)(kn:Kn H H' [] L):GK H':=by
 obtain⟨ks,rows,h3,h4⟩:=g.sign;exact⟨(kn.chg _ (by rw[g.keys];nofun) (by simp)).trans g.keys,ks,rows,(kn.chg _ (by rw[h3];nofun) (by simp)).trans h3,h4⟩
theorem Qbgc {r:Int}(hK:K (.c (.bool (decide (r<97) || decide (122<r)))) H):Qj prog Qc2 [.c (.int .i32 r)] H K:=by
 refine Qb Qad Qar7 ?_;refine Qa ?_;simp only[go_sem];refine Qa ?_;simp only[go_sem];refine Qi ?_;simp only[go_sem,Qq,Q7,Qfh,Ja,forall_eq,RS.op];have:(bif decide (r<97)then true else decide (122<r))=(decide (r<97) || decide (122<r)):=by cases decide (r<97) <;> rfl
 first|exact hK|(rw[this];exact hK)|(simpa[this]using hK)
theorem Qa1f {s:List UInt8}(hK:∀(r:Int) (H':Heap),Upd H H' []→decide (r<0)=s.all Qde→K (.c (.int .i64 r)) H') :
  Qj prog Qe3 [.c (.str s),.c (.fn Qc2 []),.c (.bool true)] H K:=by
 refine Qn ?_;refine Qb Qad Q77 ?_;have retf:∀(r:Int) (e:Env) (H':Heap) (L:List (Nat×Obj)),decide (r<0)=s.all Qde→Kn H H' [] L→lk 6 e=.c (.int .i64 r)→Qq Qbo3 (unK H K) .ret e H':=by
  intro r e H' L hr kn h3;simp only[go_sem,Qq,Q7,Qbo3,Ja,forall_eq,RS.op,h3];exact⟨_,.c _ _ (Qd rfl),hK _ _ kn.fin hr⟩
 refine Qa ?_;simp only[go_sem];refine Q5 ?_;refine Qa ?_;simp only[go_sem];intro i hi H1 h1;have kn:=(Kn.start0 H).al hi h1;refine Qg (Qe (Q2 (fun m e1 H1=>∃(q:Nat),m=s.length-q∧Kn H H1 [] [(i,.sit s q)]∧(∀x∈s.take q,Qde x=true)∧
  lk 1 e1=.c (.fn Qc2 [])∧lk 2 e1=.c (.bool true)∧lk 10 e1=.c (.itr i)) s.length ?_ ?_))
 ·exact⟨0,by omega,kn,by simp,rfl,rfl,rfl⟩
 ·clear kn;rintro m e1 H2 ⟨q,hm,kn,hall,l1,l2,l10⟩;have hit:=kn.l 0 rfl;refine Qa ?_;simp only[go_sem,l1,l2,l10,hit];refine⟨fun hle=>?_,fun c wd hlt hw h1 h2 H3 h3=>?_⟩
  ·simp only[go_sem,Qdx,l1,l2,l10,Ji];refine Qg (Qc rfl (fun h=>by cases h) (fun _=>?_));refine Q1 ?_;simp only[go_sem,AE.X.next];refine Qa ?_;simp only[go_sem];refine Qi ?_;rw[Jb hle]at hall;exact retf (-1) _ _ _ (by rw[Jy.2 hall];rfl) kn (by simp[lk])
  ·have kn:=kn.stL 0 rfl h3;have hbe:s.getD q 0=s[q]:=by simp[Jf,hlt]
   rw[hbe]at h1 h2;simp only[go_sem,Qdx,l1,l2,l10,Ji,Jk];refine Qg (Qc rfl (fun _=>?_) (fun h=>by cases h));refine Qf ?_;try simp only[go_sem]
   refine Qe ?_;refine Qa ?_;simp only[go_sem,Ji,Jk];refine Qa ?_;simp only[go_sem];refine Qbgc ?_;have hs:(decide (c<97) || decide (122<c)) = !Qde s[q]:=by
    rw[Ju,Qde];simp only[Jaj,decide_eq_true_eq,Jan,decide_eq_false_iff_not];rcases Jaz s[q].toNat 128 with h|h
    ·have:=(h1 h).1;omega
    ·have:=h2 h;omega
   rw[hs];simp only[go_sem,Qiy];refine Qc rfl ?_ ?_
   ·intro hc;have hb:Qde s[q]=false:=(by simpa using hc);refine Qa ?_;simp only[go_sem];refine Qi ?_;simp only[go_sem,AE.X.next];refine retf (q:Int) _ _ _ ?_ kn (by simp[lk]);rw[decide_eq_false (by omega)]
    symm
    rw[List.all_eq_false];exact⟨_,Je hlt,by rw[hb];simp⟩
   ·intro hc;have hb:Qde s[q]=true:=(by simpa using hc);refine Qf ?_;try simp only[go_sem]
    have hw1:wd=1:=by
     rcases Jaz s[q].toNat 128 with h|h
     ·exact (h1 h).2
     ·exfalso;rw[Qde,decide_eq_true_eq]at hb;omega
    subst hw1;show ∃m,_;refine⟨s.length-(q+1),by omega,q+1,rfl,kn,fun x hx=>?_,rfl,rfl,rfl⟩;rw[Jd hlt]at hx;rcases Jl.1 hx with h|h
    ·exact hall x h
    ·rw[Ja]at h;rw[h];exact hb
theorem Qa0y {s:List UInt8}(hK:∀(r:Int) (H':Heap),Upd H H' []→decide (r<0)=s.all Qde→K (.c (.int .i64 r)) H') :
  Qj prog Qe2 [.c (.str s),.c (.fn Qc2 [])] H K:=by
 refine Qb Qad Q76 ?_;refine Qa ?_;simp only[go_sem];refine Qa ?_;simp only[go_sem];refine Qa1f fun r H' hu hr=>?_;simp only[go_sem,Qix];refine Qi ?_;simp only[go_sem,Qq,Q7,Qpr,Ja,forall_eq,RS.op];exact hK _ _ hu hr
theorem Qbb0 {f:Bool}{ss:List (List UInt8)}{v:List UInt8}(hK:∀r:Int,decide (0≤r)=ss.contains v→K (.c (.int .i64 r)) H) :
  Qj prog Qhb [.c (.sl f 1 (Q9 ss)),.c (.str v)] H K:=by
 refine Qb Qad Qadt ?_;refine Qa ?_;simp only[go_sem];refine Q5 ?_;refine Qa ?_;simp only[go_sem,Qo];intro hl;simp only[LIM]at hl;refine Qg (Qe (Q2 (fun m e1 H1=>∃(i:Nat),m=ss.length-i∧i≤ss.length∧H1=H∧v∉ss.take i∧e1=[(0,.c (.sl f 1 (Q9 ss))),(1,.c (.str v)),(7,.c (.int .i64 ss.length)),(8,.c (.int .i64 i))]) ss.length ?_ ?_))
 ·exact⟨0,by omega,by omega,rfl,by simp,rfl⟩
 ·rintro m e1 H1 ⟨i,hm,hi,rfl,hno,rfl⟩;refine Qa ?_;simp only[go_sem];refine Qg (Qc rfl ?_ ?_)
  ·intro hc;have hlt:i<ss.length:=by simpa using hc
   have hgd:ss.getD i []=ss[i]:=by simp[Jf,hlt]
   refine Qf ?_;simp only[go_sem];refine Qg (Qe ?_);refine Qa ?_;simp only[go_sem];refine Qa ?_;simp only[go_sem,hlt,Qo,Qbs _ _ hlt];refine Qc rfl ?_ ?_
   ·intro hc2;have hv:v=ss[i]:=(by first|simpa using hc2|(rw[←hgd];simpa using hc2));refine Qa ?_;simp only[go_sem];refine Qi ?_;simp only[go_sem,AE.X.next,Qq,Q7,Qpr,Ja,forall_eq,RS.op];refine hK _ ?_;have:v∈ss:=(by rw[hv];exact Je hlt);rw[J0.2 this];simp
   ·intro hc2;have hv:¬v=ss[i]:=(by first|simpa using hc2|(rw[←hgd];simpa using hc2));refine Qf ?_;simp only[go_sem];refine Qp ?_;simp only[go_sem,AE.X.next];refine⟨Qm (by omega) (by omega),ss.length-(i+1),by omega,i+1,rfl,by omega,?_,rfl⟩;rw[Jd hlt];simp only[Jl,Ja,not_or];exact⟨hno,hv⟩
  ·intro hc;have hge:ss.length≤i:=by simpa using hc
   rw[Jb hge]at hno;refine Q1 ?_;simp only[go_sem,AE.X.next];refine Qa ?_;simp only[go_sem];refine Qi ?_;simp only[go_sem,Qq,Q7,Qpr,Ja,forall_eq,RS.op];refine hK _ ?_;have:ss.contains v=false:=by
    cases hc:ss.contains v with
    |false=>rfl
    |true=>exact absurd (J0.1 hc) hno
   rw[this];rfl
theorem Qaxn {f:Bool}{ss:List (List UInt8)}{v:List UInt8}(hK:K (.c (.bool (ss.contains v))) H) :
  Qj prog Qee [.c (.sl f 1 (Q9 ss)),.c (.str v)] H K:=by
 refine Qb Qad Q4h ?_;refine Qa ?_;simp only[go_sem];refine Qa ?_;simp only[go_sem];refine Qbb0 fun r hr=>?_;simp only[go_sem,Qh4];refine Qi ?_;simp only[go_sem,Qq,Q7,Qpr,Ja,forall_eq,RS.op];rw[hr];exact hK
theorem Q3z {n lo hi:Int}(hK:K (.c (.bool (decide (lo≤n)&&decide (n≤hi)))) H):Qj prog Qav [.c (.int .i64 n),.c (.int .i64 lo),.c (.int .i64 hi)] H K:=by
 refine Qb Qad Qalr ?_;refine Qa ?_;simp only[go_sem];refine Qa ?_;simp only[go_sem];refine Qi ?_;simp only[go_sem,Qq,Q7,Qbo3,Ja,forall_eq,RS.op];have:(bif decide (lo≤n)then decide (n≤hi)else false)=(decide (lo≤n)&&decide (n≤hi)):=by cases decide (lo≤n) <;> rfl
 first|exact hK|(rw[this];exact hK)|(simpa[this]using hK)
theorem Qqy {s:List UInt8}(g:GK H)(hK:∀H',Upd H H' []→K (.c (.bool (Qdb s))) H'):Qj prog Qd7 [.c (.str s)] H K:=by
 refine Qn ?_;refine Qb Qad Qa6f ?_;have retf:∀(b:Bool) (e:Env) (H':Heap) (L:List (Nat×Obj)),b=Qdb s→Kn H H' [] L→lk 2 e=.c (.bool b)→Qq Qfh (unK H K) .ret e H':=by
  rintro b e H' L rfl kn h3;simp only[go_sem,Qq,Q7,Qfh,Ja,forall_eq,RS.op,h3];exact⟨_,.c _ _ (Qd rfl),hK _ kn.fin⟩
 have kn:=Kn.start0 H;refine Qa ?_;simp only[go_sem];refine Qa ?_;simp only[go_sem];try intro _
 refine Q3z ?_;by_cases hl:1≤s.length∧s.length≤4
 ·have hd:(decide ((1:Int)≤(s.length:Int))&&decide ((s.length:Int)≤4))=true:=by simp;omega
  simp only[go_sem,Qqk,hd];refine Qa0y fun r H1 hu hr=>?_;have kn:=kn.call0 hu;have g1:=g.upd0 hu
  cases hsm:s.all Qde with
  |false=>
   rw[hsm]at hr;simp only[go_sem,Qjq,Qjp,hr];refine Qi ?_;exact retf false _ _ _ (by rw[Qdb,hsm];simp) kn (by simp[lk])
  |true=>
   rw[hsm]at hr;have hk:=g1.keys;simp only[go_sem,Qjq,hr,hk];refine⟨⟨by decide,by simp only[LIM];omega⟩,?_⟩;have e:List.map (fun c=>[c]) (List.take 9 (List.map C.str keysL))=Q9 keysL:=rfl;rw[e];refine Qaxn ?_;simp only[go_sem,Qjp];refine Qi ?_;exact retf _ _ _ _ (by rw[Qdb,hsm,decide_eq_true hl];simp) kn rfl
 ·have hd:(decide ((1:Int)≤(s.length:Int))&&decide ((s.length:Int)≤4))=false:=by
   rw[Jai,decide_eq_false_iff_not,decide_eq_false_iff_not];omega
  simp only[go_sem,Qqk,Qjq,Qjp,hd];refine Qi ?_;exact retf false _ _ _ (by rw[Qdb,decide_eq_false hl];simp) kn (by simp[lk])
def levO (op:Int):Int:=if 0<levN op then levN op else if op=11∨op=12 then 5 else 6
theorem Qbhv {op:Int}(g:GK H)(hK:K (.c (.int .i64 (levO op))) H):Qj prog Qs4 [.c (.int .i64 op)] H K:=by
 obtain⟨ks,rows,hs,hl⟩:=g.sign;obtain⟨ho,sg,hf⟩:=hl op;have ret:∀(n:Int) (e:Env),n=levO op→lk 2 e=.c (.int .i64 n)→Qq Qfh K .ret e H:=by
  rintro n e rfl h3;simp only[go_sem,Qq,Q7,Qfh,Ja,forall_eq,RS.op,h3];exact hK
 refine Qb Qad Qa1q ?_;refine Qa ?_;simp only[go_sem];refine Qg (Qe ?_);refine Qa ?_;simp only[go_sem,hs,Qaa,Qwn,hf,eq_true ho,Jaa,Jae];refine Qc rfl ?_ ?_
 ·intro hc;have h0:0<levN op:=of_decide_eq_true hc;refine Qa ?_;simp only[go_sem,hs,Qaa,Qwn,hf,eq_true ho,Jaa,Jae];refine Qi ?_;simp only[go_sem,AE.X.next];exact ret _ _ (by rw[levO,if_pos h0]) (by simp[lk])
 ·intro hc;have h0:¬0<levN op:=of_decide_eq_false hc;refine Qa ?_;simp only[go_sem,Qlf];refine Qc rfl ?_ ?_
  ·intro hc2;have h1:op=11∨op=12:=by simpa using hc2
   refine Qa ?_;simp only[go_sem];refine Qi ?_;simp only[go_sem,AE.X.next];exact ret _ _ (by rw[levO,if_neg h0,if_pos h1]) (by simp[lk])
  ·intro hc2;have h1:¬(op=11∨op=12):=by simpa using hc2
   refine Qf ?_;simp only[go_sem,AE.X.next];refine Qa ?_;simp only[go_sem];refine Qi ?_;exact ret _ _ (by rw[levO,if_neg h0,if_neg h1]) (by simp[lk])
theorem Qbst {op:Int}:levO op<6↔3≤op∧op≤12:=by
 by_cases h:3≤op∧op≤12
 ·simp only[h,and_self,iff_true];rw[levO,levN];obtain⟨h1,h2⟩:=h;rcases (by omega:op=3∨op=4∨op=5∨op=6∨op=7∨op=8∨op=9∨op=10∨op=11∨op=12)with rfl|rfl|rfl|rfl|rfl|rfl|rfl|rfl|rfl|rfl <;> decide
 ·simp only[h,iff_false];have h0:levN op=0:=by rw[levN,if_neg (by omega),if_neg (by omega),if_neg (by omega),if_neg (by omega)]
  rw[levO,h0,if_neg (by omega),if_neg (by omega)];omega
theorem lev_pos {op:Int}:0<levN op↔3≤op∧op≤10:=by
 by_cases h:3≤op∧op≤10
 ·simp only[h,and_self,iff_true];obtain⟨h1,h2⟩:=h;rcases (by omega:op=3∨op=4∨op=5∨op=6∨op=7∨op=8∨op=9∨op=10)with rfl|rfl|rfl|rfl|rfl|rfl|rfl|rfl <;> decide
 ·simp only[h,iff_false];rw[levN,if_neg (by omega),if_neg (by omega),if_neg (by omega),if_neg (by omega)];omega
def hd1 (op n:Int)(name:List UInt8):Bool:=decide (1≤op∧op≤13)&&(!decide (op=1) || (decide (0≤n∧n≤255)&&decide (name=[])))&&(!decide (op=2∨op=13) || (Qdb name&&decide (n=0)))
theorem Qa2a:Qdb []=false:=by decide
theorem Qbqa (op n:Int)(name:List UInt8)(k:Nat):Qakv op n name k =
  (hd1 op n name&&(!decide (levO op<6) || (decide (n=0)&&decide (name=[])))&&(decide (Qfd op≤(k:Int))&&decide ((k:Int)≤Qfc op))):=by
 have hl:decide (levO op<6)=decide (3≤op∧op≤12):=by rw[decide_eq_decide];exact Qbst
 rw[Qakv,hd1,hl,Ju];simp only[Jq,Jaj,decide_eq_true_eq,beq_iff_eq,Jan,decide_eq_false_iff_not];by_cases hn:name=[]
 ·subst hn;simp only[Qa2a,decide_eq_false_iff_not];constructor
  ·rintro⟨⟨⟨⟨⟨h1,h2⟩,h3⟩,h4⟩,h5⟩,h6⟩;refine⟨⟨⟨⟨h1,?_⟩,?_⟩,?_⟩,h2⟩
   ·exact .inr ⟨h5,trivial⟩
   ·exact .inl h3
   ·rcases h6 with h6|h6
    ·exact .inl (by omega)
    ·exact .inr ⟨h6,trivial⟩
  ·rintro⟨⟨⟨⟨h1,h2⟩,h3⟩,h4⟩,h5⟩;have h3:¬(op=2∨op=13):=by
    rcases h3 with h3|⟨h3,_⟩
    ·exact h3
    ·cases h3
   refine⟨⟨⟨⟨⟨h1,h5⟩,h3⟩,.inr trivial⟩,?_⟩,?_⟩
   ·rcases h2 with h2|⟨h2,_⟩
    ·rcases h4 with h4|⟨h4,_⟩ <;> omega
    ·exact h2
   ·rcases h4 with h4|⟨h4,_⟩
    ·exact .inl (by omega)
    ·exact .inr h4
 ·simp only[hn,and_false,or_false];constructor
  ·rintro⟨⟨⟨⟨⟨h1,h2⟩,h3⟩,h4⟩,h5⟩,h6⟩;rw[decide_eq_true h4]at h3;refine⟨⟨⟨⟨h1,by omega⟩,?_⟩,by omega⟩,h2⟩;exact .inr ⟨h3.symm,by omega⟩
  ·rintro⟨⟨⟨⟨h1,h2⟩,h3⟩,h4⟩,h5⟩;have h6:op=2∨op=13:=by omega
   rcases h3 with h3|⟨h3,h7⟩
   ·exact absurd h6 h3
   ·exact⟨⟨⟨⟨⟨h1,h5⟩,by rw[h3];simp[h6]⟩,h6⟩,by omega⟩,.inr h7⟩
end Go.AE.Y
namespace Go.AE.Y
attribute [local go_sem] cond_true cond_false Bool.not_true Bool.not_false
open Go.Proofs.Tryz
variable {H H0:Heap}{K:V→Heap→Prop}
theorem Qbl2 {n:Int}(hK:K (.c (.bool (decide (0≤n)&&decide (n≤255)))) H):Qj prog Qjx [.c (.int .i64 n)] H K:=by
 refine Qb Qad Qaln ?_;refine Qa ?_;simp only[go_sem];refine Qa ?_;simp only[go_sem];refine Q3z ?_;simp only[go_sem,Qqo];refine Qi ?_;simp only[go_sem,Qq,Q7,Qfh,Ja,forall_eq,RS.op];exact hK
def SzOk (x:Ex)(most:Int)(n d:Int)(ok:Bool):Prop:=ok=(x.form most&&decide (x.size≤30))∧(ok=true→n=x.size∧0≤d∧d≤1000+most)
def Qbrz (n:Nat):Prop:=∀(x:Ex) {H:Heap} {K:V→Heap→Prop} (most:Int),x.size≤n→x.size≤2^40→most≤100→GK H→
 (∀(n d:Int) (ok:Bool) H',Upd H H' []→SzOk x most n d ok→K (.tup [.c (.int .i64 n),.c (.int .i64 d),.c (.bool ok)]) H')→Qj prog Qjk [.ag x.cells,.c (.int .i64 most)] H K
theorem Qbon {x:Ex}{most:Int}{Q:X→Env→Heap→Prop}(kn:Kn H0 H [] [])(g:GK H)
  (hf:∀e' H',hd1 x.op x.n x.name=false→Kn H0 H' [] []→lk 4 e'=.c (.int .i64 0)→lk 5 e'=.c (.int .i64 0)→lk 6 e'=.c (.bool false)→Q .ret e' H')
  (hn:∀e' H',hd1 x.op x.n x.name=true→Kn H0 H' [] []→lk 1 e'=.c (.int .i64 most)→lk 2 e'=.c (.pp [.int .i64 x.op,.int .i64 x.n,.str x.name,.sl false 4 (Qw x.kids)])→lk 7 e'=.c (.int .i64 (Qfd x.op))→lk 8 e'=.c (.int .i64 (Qfc x.op))→Q .nrm e' H') :
  Q8 prog Qu5 Q [(1,.c (.int .i64 most)),(2,.c (.pp [.int .i64 x.op,.int .i64 x.n,.str x.name,.sl false 4 (Qw x.kids)])),(7,.c (.int .i64 0)),(8,.c (.int .i64 0)),(16,.c (.bool (decide (x.op=1))))] H:=by
 have ret:∀(e:Env) (H':Heap),hd1 x.op x.n x.name=false→Kn H0 H' [] []→Q8 prog (.seq (.reg (
   .f (some 4) none (.mv (.k (.c (.int .i64 0))))::
   .f (some 5) none (.mv (.k (.c (.int .i64 0))))::
   .f (some 6) none (.mv (.k (.c (.bool false))))::
   []) [4,5,6]) .ret) Q e H':=by
  intro e H' h kn;refine Qa ?_;simp only[go_sem];refine Qi ?_;exact hf _ _ h kn (by simp[lk]) (by simp[lk]) (by simp[lk])
 obtain⟨ks,rows,hs,hl⟩:=g.sign;obtain⟨ho,sg,hfd⟩:=hl x.op;refine Qc rfl ?_ ?_
 ·intro hc;have h1:x.op=1:=by simpa using hc
  refine Qa ?_;simp only[go_sem];refine Qbl2 ?_;simp only[go_sem,Qu7,Qlf];refine Qc rfl ?_ ?_
  ·intro hc2;refine ret _ _ ?_ kn;rw[hd1,h1];revert hc2;by_cases ha:0≤x.n <;> by_cases hb:x.n≤255 <;> by_cases hn:x.name=[] <;> simp[ha,hb,hn]
  ·intro hc2;refine Qf ?_;have hk1:Qfd x.op=0:=by rw[h1];rfl
   have hk2:Qfc x.op=0:=by rw[h1];rfl
   refine hn _ H ?_ kn (by simp[lk]) (by simp[lk]) (by rw[hk1];simp[lk]) (by rw[hk2];simp[lk]);rw[hd1,h1];revert hc2;by_cases ha:0≤x.n <;> by_cases hb:x.n≤255 <;> by_cases hn:x.name=[] <;> simp[ha,hb,hn]
 intro hc;have h1:¬x.op=1:=by simpa using hc
 refine Qa ?_;simp only[go_sem];refine Qc rfl ?_ ?_
 ·intro hc2;have h2:x.op=2:=by simpa using hc2
  refine Qa ?_;simp only[go_sem];refine Qqy g fun H1 hu=>?_;have kn:=kn.call0 hu;simp only[go_sem,Qu8,Qlf];refine Qc rfl ?_ ?_
  ·intro hc3;refine ret _ _ ?_ kn;rw[hd1,h2];revert hc3;cases Qdb x.name <;> by_cases hb:x.n=0 <;> simp[hb]
  ·intro hc3;refine Qf ?_;have hk1:Qfd x.op=0:=by rw[h2];rfl
   have hk2:Qfc x.op=0:=by rw[h2];rfl
   refine hn _ H1 ?_ kn (by simp[lk]) (by simp[lk]) (by rw[hk1];simp[lk]) (by rw[hk2];simp[lk]);rw[hd1,h2];revert hc3;cases Qdb x.name <;> by_cases hb:x.n=0 <;> simp[hb]
 intro hc2;have h2:¬x.op=2:=by simpa using hc2
 refine Qa ?_;simp only[go_sem];refine Qc rfl ?_ ?_
 ·intro hc3;have h3:x.op=13:=by simpa using hc3
  refine Qa ?_;simp only[go_sem];refine Qa ?_;simp only[go_sem];refine Qqy g fun H1 hu=>?_;have kn:=kn.call0 hu;simp only[go_sem,Qu9,Qlf];refine Qc rfl ?_ ?_
  ·intro hc4;refine ret _ _ ?_ kn;rw[hd1,h3];revert hc4;cases Qdb x.name <;> by_cases hb:x.n=0 <;> simp[hb]
  ·intro hc4;refine Qf ?_;have hk1:Qfd x.op=0:=by rw[h3];rfl
   have hk2:Qfc x.op=3:=by rw[h3];rfl
   refine hn _ H1 ?_ kn (by simp[lk]) (by simp[lk]) (by rw[hk1];simp[lk]) (by rw[hk2];simp[lk]);rw[hd1,h3];revert hc4;cases Qdb x.name <;> by_cases hb:x.n=0 <;> simp[hb]
 intro hc3;have h3:¬x.op=13:=by simpa using hc3
 refine Qa ?_;simp only[go_sem,hs,Qaa,Qwn,hfd,eq_true ho,Jaa,Jae];have hh:∀(h:3≤x.op∧x.op≤12),hd1 x.op x.n x.name=true:=fun h=>by
  rw[hd1,decide_eq_true (by omega:1≤x.op∧x.op≤13),decide_eq_false (by omega:¬x.op=1),decide_eq_false (by omega:¬(x.op=2∨x.op=13))];rfl
 refine Qc rfl ?_ ?_
 ·intro hc4;have h4:=lev_pos.1 (of_decide_eq_true hc4);refine Qp ?_;simp only[go_sem];have hk1:Qfd x.op=2:=by rw[Qfd,if_neg (by omega),if_neg (by omega)]
  have hk2:Qfc x.op=2:=by rw[Qfc,if_neg (by omega),if_neg (by omega),if_neg (by omega)]
  exact hn _ H (hh (by omega)) kn (by simp[lk]) (by simp[lk]) (by rw[hk1];simp[lk]) (by rw[hk2];simp[lk])
 intro hc4;have h4:¬(3≤x.op∧x.op≤10):=fun h=>absurd (lev_pos.2 h) (of_decide_eq_false hc4);refine Qa ?_;simp only[go_sem,Qlf];refine Qc rfl ?_ ?_
 ·intro hc5;have h5:x.op=11∨x.op=12:=by simpa using hc5
  refine Qp ?_;simp only[go_sem];have hk1:Qfd x.op=1:=by rw[Qfd,if_neg (by omega),if_pos h5]
  have hk2:Qfc x.op=1:=by rw[Qfc,if_neg (by omega),if_pos h5]
  exact hn _ H (hh (by omega)) kn (by simp[lk]) (by simp[lk]) (by rw[hk1];simp[lk]) (by rw[hk2];simp[lk])
 ·intro hc5;have h5:¬(x.op=11∨x.op=12):=by simpa using hc5
  refine ret _ _ ?_ kn;rw[hd1,decide_eq_false (by omega:¬(1≤x.op∧x.op≤13))];rfl
theorem Qbro {S:Nat→Bool}(n d:Int)(b:Bool):FrzV H S (.tup [.c (.int .i64 n),.c (.int .i64 d),.c (.bool b)]) (.tup [.c (.int .i64 n),.c (.int .i64 d),.c (.bool b)]):=by
 refine .tup _ _ rfl fun j x x' h1 h2=>?_
 match j with
 |0=>simp at h1 h2;subst h1;subst h2;exact .c _ _ (Qd rfl)
 |1=>simp at h1 h2;subst h1;subst h2;exact .c _ _ (Qd rfl)
 |2=>simp at h1 h2;subst h1;subst h2;exact .c _ _ (Qd rfl)
theorem Qbcd:∀n,Qbrz n:=by
 intro n
 induction n with
 |zero=>intro x _ _ _ h;have:=x.size_pos;omega
 |succ n ih=>
 intro x H K most hn hs40 hmost g hK;have g0:=g;have hsz:=x.size_kids;refine Qn ?_;refine Qb Qad Qayb ?_;have ret:∀(n d:Int) (ok:Bool) (e:Env) (H':Heap) (L:List (Nat×Obj)),SzOk x most n d ok→Kn H H' [] L→lk 4 e=.c (.int .i64 n)→lk 5 e=.c (.int .i64 d)→lk 6 e=.c (.bool ok)→Qq Qhl (unK H K) .ret e H':=by
  intro n d ok e H' L hf kn h4 h5 h6;simp only[go_sem,Qq,Q7,Qhl,Jx,Jr,RS.op,h4,h5,h6];exact⟨fun _=>trivial,_,Qbro n d ok,hK n d ok _ kn.fin hf⟩
 have retf:∀(e:Env) (H':Heap) (L:List (Nat×Obj)),(x.form most&&decide (x.size≤30))=false→Kn H H' [] L→lk 4 e=.c (.int .i64 0)→lk 5 e=.c (.int .i64 0)→lk 6 e=.c (.bool false)→Qq Qhl (unK H K) .ret e H':=by
  intro e H' L hf kn h4 h5 h6;exact ret 0 0 false e H' L ⟨hf.symm,nofun⟩ kn h4 h5 h6
 have hfe:=x.form_eq most;rw[Qbqa,Qakw]at hfe;refine Qa ?_;simp only[go_sem,x.cells_eq];refine Qa ?_;simp only[go_sem];refine Qg (Qe ?_);refine Qa ?_;simp only[go_sem];refine Qbon (Kn.start0 H) g (fun e' H' hh kn h4 h5 h6=>?_) (fun e' H' hh kn l1 l2 l7 l8=>?_)
 ·simp only[go_sem,AE.X.next];exact retf _ _ _ (by rw[hfe,hh];simp) kn h4 h5 h6
 simp only[go_sem,AE.X.next];rw[hh]at hfe;have g:=g.kn kn;refine Q5 ?_;refine Qa ?_;simp only[go_sem,l1,l2,l7,l8];obtain⟨P,hP⟩:∃P,(decide (1≤most)&&((!decide (levO x.op<6) || (decide (x.n=0)&&decide (x.name=[])))&&(decide (Qfd x.op≤(x.kids.length:Int))&&decide ((x.kids.length:Int)≤Qfc x.op))))=P:=⟨_,rfl⟩;have hfe2:x.form most=(P&&x.kids.all fun y=>y.form (most-1)):=by rw[hfe,←hP];simp only[Jw,Jaw]
 have rest:∀b:Bool,b = !P→Q8 prog (s_im_exprSize_14.seq Qu6) (Qq Qhl (unK H K))
   [(1,.c (.int .i64 most)),(2,.c (.pp [.int .i64 x.op,.int .i64 x.n,.str x.name,.sl false 4 (Qw x.kids)])),(97,.c (.bool b))] H':=by
  intro b hb;refine Qg (Qc rfl ?_ ?_)
  ·intro hc;have hA:P=false:=by rw[hc]at hb;simpa using hb.symm
   refine Qa ?_;simp only[go_sem];refine Qi ?_;simp only[go_sem,AE.X.next];exact retf _ _ _ (by rw[hfe2,hA];rfl) kn (by simp[lk]) (by simp[lk]) (by simp[lk])
  intro hc;have hA:P=true:=by rw[hc]at hb;simpa using hb.symm
  have hm1:1≤most:=by
   rw[hA,Jq,decide_eq_true_eq]at hP;exact hP.1
  rw[hA,Jw]at hfe2;refine Qf ?_;try simp only[go_sem]
  refine Qa ?_;simp only[go_sem];refine Q5 ?_;refine Qa ?_;simp only[go_sem,Ql];intro hl;simp only[LIM]at hl;refine Qg (Qe (Q2 (fun m e1 H1=>∃(i:Nat) (d:Int),m=x.kids.length-i∧i≤x.kids.length∧Kn H H1 [] []∧((x.kids.take i).all fun y=>y.form (most-1))=true∧1≤d∧d≤1000+most∧
   e1=[(1,.c (.int .i64 most)),(9,.c (.int .i64 (1+Qr (x.kids.take i):Nat))),(10,.c (.int .i64 d)),(99,.c (.sl false 4 (Qw x.kids))),(100,.c (.int .i64 x.kids.length)),(101,.c (.int .i64 i))]) x.kids.length ?_ ?_))
  ·exact⟨0,1,by omega,by omega,kn,rfl,by omega,by omega,by simp[Qr]⟩
  ·clear kn g;rintro m e1 H2 ⟨i,d,hm,hi,kn,hall,hd0,hd1',rfl⟩;have g:=(‹GK H› : GK H).kn kn;refine Qa ?_;simp only[go_sem];refine Qg (Qc rfl ?_ ?_)
   ·intro hc;have hlt:i<x.kids.length:=(by simpa using hc);have hm:=Qar (Je hlt);refine Qf ?_;try simp only[go_sem]
    refine Qg (Qe ?_);refine Qa ?_;simp only[go_sem,hlt,Ql,Qaq _ _ hlt,x.kids[i].cells_eq];intro x12 hx12 H3 h3;have kn:=kn.al hx12 h3;have g12:=kn.l 0 rfl;simp only[go_sem,Qrx,g12];intro H4 h4;have kn:Kn H H4 [] [(x12,.st [.int .i64 x.kids[i].op,.int .i64 x.kids[i].n,.str x.kids[i].name,.sl false 4 (Qw x.kids[i].kids)])]:=kn.stL 0 rfl h4;have g:=g0.kn kn;clear g12;have g12:=kn.l 0 rfl;refine Qa ?_;simp only[go_sem,g12];refine⟨Qm (by omega) (by omega),?_⟩;have hih:=@ih x.kids[i];rw[x.kids[i].cells_eq]at hih;refine hih (most-1) (by omega) (by omega) (by omega) g fun n' d' ok H5 hu hso=>?_;have kn:=Kn.drop (A:=[]) (kn.call0 hu);obtain⟨hso1,hso2⟩:=hso;simp only[go_sem,Qry,Ji,Jk];refine Q5 ?_;refine Qa ?_;simp only[go_sem];have hel:=Qjw hlt;have hle:=Qc1 x.kids (i+1);refine Qg (Qc rfl ?_ ?_)
    ·intro hc2;have hok:ok=false:=(by simpa using hc2);refine Qa ?_;simp only[go_sem];refine Qi ?_;simp only[go_sem,AE.X.next];refine retf _ _ _ ?_ kn (by simp[lk]) (by simp[lk]) (by simp[lk]);rw[hok]at hso1;rcases Jai.1 hso1.symm with h|h
     ·rw[hfe2,Qg1 hlt h];rfl
     ·rw[decide_eq_false_iff_not]at h;rw[decide_eq_false (by omega),Bool.and_false]
    ·intro hc2;have hok:ok=true:=(by simpa using hc2);obtain⟨hn',hd2,hd3⟩:=hso2 hok;rw[hok]at hso1;have hso1:=hso1.symm;rw[Jq,decide_eq_true_eq]at hso1;obtain⟨hs1,hs2⟩:=hso1;have hin:Qr (x.kids.take i)≤Qr x.kids:=Qc1 x.kids i;refine Qf ?_;try simp only[go_sem]
     refine Qa ?_;simp only[go_sem];refine⟨Qm (by omega) (by omega),?_⟩;refine Qp ?_;simp only[go_sem,AE.X.next];refine⟨Qm (by omega) (by omega),?_⟩;refine Qp ?_;simp only[go_sem,AE.X.next];refine⟨Qm (by omega) (by omega),x.kids.length-(i+1),by omega,i+1,(if d'+1 > d then d'+1 else d),rfl,by omega,kn,by rw[Qdy hlt,hall,hs1];rfl,by split <;> omega,by split <;> omega,?_⟩;rw[show (((1+Qr (x.kids.take i):Nat):Int)+n')=((1+Qr (x.kids.take (i+1)):Nat):Int)by omega];rfl
   ·intro hc;have hge:x.kids.length≤i:=(by simpa using hc);rw[Jb hge]at hall;rw[Jb hge];refine Q1 ?_;simp only[go_sem,AE.X.next];refine Qa ?_;simp only[go_sem];refine Qi ?_;refine ret _ d _ _ _ _ ⟨?_,fun _=>⟨by rw[hsz],by omega,hd1'⟩⟩ kn (by simp[lk]) (by simp[lk]) rfl;rw[hfe2,hall,hsz,Jw,decide_eq_decide];omega
 refine Qbhv g ?_;simp only[go_sem,Qrw,l1,l2,l7,l8,Qlf];intro hl;refine⟨fun hb=>?_,fun hb=>?_⟩
 ·have hb:=Qk9 hb;refine Q3z ?_;simp only[go_sem,Qjb,hb,l1,l2,l7,l8,Qlf,Ql];try intro _
  refine rest _ ?_;rw[←hP,Qbb8 (a:=most)];revert hb;simp only[Qey];cases decide (levO x.op<6) <;> cases decide (x.n=0) <;> cases decide (x.name=[]) <;> cases decide (Qfd x.op≤(x.kids.length:Int)) <;> cases decide ((x.kids.length:Int)≤Qfc x.op) <;> cases decide ((1:Int)≤most) <;> simp
 ·have hb:=Qeh hb;simp only[go_sem,Qjb,hb,l1,l2,l7,l8,Qlf];try intro _
  refine rest _ ?_;rw[←hP];revert hb;simp only[Qey];cases decide (levO x.op<6) <;> cases decide (x.n=0) <;> cases decide (x.name=[]) <;> simp
theorem Qaa3 {x:Ex}(hx:x.size≤2^40)(g:GK H)(hK:∀H',Upd H H' []→K (.c (.bool x.valid)) H'):Qj prog Qnw [.ag x.cells] H K:=by
 refine Qb Qad Qar6 ?_;refine Qa ?_;simp only[go_sem,x.cells_eq];refine Qa ?_;simp only[go_sem];have h:=@Qbcd x.size x;rw[x.cells_eq]at h;refine h 6 (Jt _) hx (by omega) g fun n d ok H' hu hso=>?_;simp only[go_sem,Qri,Ji,Jk];refine Qa ?_;simp only[go_sem];refine Qi ?_;simp only[go_sem,Qq,Q7,Qfh,Ja,forall_eq,RS.op];rw[hso.1];exact hK _ hu
def acN (op:Int):Int:=if 1≤op∧op≤8 then (argN op:Int)else -1
theorem Qbb4 {op:Int}(hK:K (.tup [.c (.int .i64 (acN op)),.c (.bool (decide (op=1∨op=2))),.c (.bool (decide (op=5∨op=6))),.c (.bool (decide (op=5)))]) H):Qj prog Qp8 [.c (.int .i64 op)] H K:=by
 refine Qb Qad Qaya ?_;have ret:∀(n:Int) (a b c:Bool) (e:Env),n=acN op→a=decide (op=1∨op=2)→b=decide (op=5∨op=6)→c=decide (op=5)→lk 2 e=.c (.int .i64 n)→lk 3 e=.c (.bool a)→lk 4 e=.c (.bool b)→lk 5 e=.c (.bool c)→Qq Qhj K .ret e H:=by
  intro n a b c e h1 h2 h3 h4 l2 l3 l4 l5;subst h1;subst h2;subst h3;subst h4;simp only[go_sem,Qq,Q7,Qhj,Jx,Jr,RS.op,l2,l3,l4,l5];exact⟨fun _=>trivial,hK⟩
 have fin:∀(n:Int) (a b c:Bool) (e:Env) (Q:X→Env→Heap→Prop),(∀e,lk 2 e=.c (.int .i64 n)→lk 3 e=.c (.bool a)→lk 4 e=.c (.bool b)→lk 5 e=.c (.bool c)→Q .ret e H)→Q8 prog (.seq (.reg (
  .f (some 2) none (.mv (.k (.c (.int .i64 n))))::
  .f (some 3) none (.mv (.k (.c (.bool a))))::
  .f (some 4) none (.mv (.k (.c (.bool b))))::
  .f (some 5) none (.mv (.k (.c (.bool c))))::
  []) [2,3,4,5]) .ret) Q e H:=by
  intro n a b c e Q hq;refine Qa ?_;simp only[go_sem];refine Qi ?_;exact hq _ (by simp[lk]) (by simp[lk]) (by simp[lk]) (by simp[lk])
 refine Qa ?_;simp only[go_sem];refine Q5 ?_;refine Qa ?_;simp only[go_sem];refine Qg (Qe ?_);refine Q5 ?_;refine Qa ?_;simp only[go_sem];have one:∀(e:Env),(op=1∨op=2)→Q8 prog Qzf (X.inBlock 0 (X.sq prog Qoj (Qq Qhj K))) ((6,.c (.int .i64 op))::(7,.c (.bool true))::e) H:=by
  intro e h;refine Qc rfl (fun _=>?_) (fun h=>by cases h);refine fin 1 true false false _ _ fun e l2 l3 l4 l5=>?_;simp only[go_sem,AE.X.next];exact ret _ _ _ _ e (by rw[acN,if_pos (by omega),argN,if_neg (by omega)];rfl) (by rw[decide_eq_true h]) (by symm;rw[decide_eq_false_iff_not];omega) (by symm;rw[decide_eq_false_iff_not];omega) l2 l3 l4 l5
 refine Qg (Qc rfl ?_ ?_)
 ·intro hc;refine Qf ?_;simp only[go_sem];have h1:op=1:=by simpa using hc
  rw[hc];exact one [] (.inl h1)
 intro hc;have h1:¬op=1:=by simpa using hc
 refine Qp ?_;simp only[go_sem];by_cases h2:op=2
 ·rw[decide_eq_true h2];exact one [] (.inr h2)
 rw[decide_eq_false h2];refine Qc rfl (fun h=>by cases h) (fun _=>?_);refine Q5 ?_;refine Qa ?_;simp only[go_sem];have two:∀(b:Bool),b=decide (op=3∨op=7∨op=8)→Q8 prog Qze (X.inBlock 0 (X.sq prog Qoj (Qq Qhj K))) [(6,.c (.int .i64 op)),(10,.c (.bool b))] H:=by
  intro b hb;refine Qc rfl (fun hc=>?_) (fun hc=>?_)
  ·rw[hb,decide_eq_true_eq]at hc;refine fin 1 false false false _ _ fun e l2 l3 l4 l5=>?_;simp only[go_sem,AE.X.next];exact ret _ _ _ _ e (by rw[acN,if_pos (by omega),argN,if_neg (by omega)];rfl) (by symm;rw[decide_eq_false_iff_not];omega) (by symm;rw[decide_eq_false_iff_not];omega) (by symm;rw[decide_eq_false_iff_not];omega) l2 l3 l4 l5
  rw[hb,decide_eq_false_iff_not]at hc;refine Qa ?_;simp only[go_sem];refine Qc rfl (fun hc4=>?_) (fun hc4=>?_)
  ·have h4:op=4:=by simpa using hc4
   refine fin 2 false false false _ _ fun e l2 l3 l4 l5=>?_;simp only[go_sem,AE.X.next];exact ret _ _ _ _ e (by rw[h4];rfl) (by rw[h4];rfl) (by rw[h4];rfl) (by rw[h4];rfl) l2 l3 l4 l5
  have h4:¬op=4:=by simpa using hc4
  refine Qa ?_;simp only[go_sem];refine Qc rfl (fun hc5=>?_) (fun hc5=>?_)
  ·have h5:op=5:=by simpa using hc5
   refine fin 1 false true true _ _ fun e l2 l3 l4 l5=>?_;simp only[go_sem,AE.X.next];exact ret _ _ _ _ e (by rw[h5];rfl) (by rw[h5];rfl) (by rw[h5];rfl) (by rw[h5];rfl) l2 l3 l4 l5
  have h5:¬op=5:=by simpa using hc5
  refine Qa ?_;simp only[go_sem];refine Qc rfl (fun hc6=>?_) (fun hc6=>?_)
  ·have h6:op=6:=by simpa using hc6
   refine fin 1 false true false _ _ fun e l2 l3 l4 l5=>?_;simp only[go_sem,AE.X.next];exact ret _ _ _ _ e (by rw[h6];rfl) (by rw[h6];rfl) (by rw[h6];rfl) (by rw[h6];rfl) l2 l3 l4 l5
  have h6:¬op=6:=by simpa using hc6
  refine Qf ?_;simp only[go_sem,AE.X.next];refine fin (-1) false false false _ _ fun e l2 l3 l4 l5=>?_;exact ret _ _ _ _ e (by rw[acN,if_neg (by omega)]) (by symm;rw[decide_eq_false_iff_not];omega) (by symm;rw[decide_eq_false_iff_not];omega) (by symm;rw[decide_eq_false_iff_not];omega) l2 l3 l4 l5
 refine Qg (Qc rfl ?_ ?_)
 ·intro hc3;have h3:op=3:=by simpa using hc3
  refine Qf ?_;simp only[go_sem];exact two _ (by rw[decide_eq_decide];omega)
 intro hc3;have h3:¬op=3:=by simpa using hc3
 refine Qa ?_;simp only[go_sem];refine Qc rfl ?_ ?_
 ·intro hc7;have h7:op=7:=by simpa using hc7
  refine Qf ?_;simp only[go_sem];exact two _ (by rw[decide_eq_decide];omega)
 intro hc7;have h7:¬op=7:=by simpa using hc7
 refine Qp ?_;simp only[go_sem];exact two _ (by rw[decide_eq_decide];omega)
def badS (op:Int)(name:List UInt8)(args:List Ex)(nb ne:Nat)(nest:Int):Bool:=
 decide (4<nest) || (!decide ((args.length:Int)=acN op) || ((decide (op=1∨op=2)&&!Qdb name) || ((!decide (op=1∨op=2)&&!decide (name=[])) || ((!decide (op=5∨op=6)&&decide (0<nb)) || ((!decide (op=5)&&decide (0<ne)) ||
  (decide (op=8)&&!decide ((args.map Ex.op).getD 0 0=13)))))))
theorem acN_eq {op:Int}{k:Nat}:(k:Int)=acN op↔(1≤op∧op≤8)∧k=argN op:=by
 rw[acN];split <;> omega
theorem Qbph (op:Int)(name:List UInt8)(args:List Ex)(nb ne:Nat)(nest:Int):(decide (1≤5-nest)&&Q7u op name args nb ne)=(!badS op name args nb ne nest&&args.all Ex.valid):=by
 have e1:decide (1≤5-nest) = !decide (4<nest):=by rw[Ju];simp;omega
 have e2:decide ((args.length:Int)=acN op)=(decide (1≤op∧op≤8)&&decide (args.length=argN op)):=by rw[Ju];simp only[Jq,decide_eq_true_eq];exact acN_eq
 have e3:decide (ne=0) = !decide (0<ne):=by rw[Ju];simp
 have e4:decide (nb=0) = !decide (0<nb):=by rw[Ju];simp
 have e5:(decide (op=1∨op=2) == Qdb name)=true→decide (op=1∨op=2)=false→name=[]→True:=fun _ _ _=>trivial;rw[Q7u,badS,e1,e2,e3,e4];by_cases hn:name=[]
 ·subst hn;rw[Qa2a];cases decide (4<nest) <;> cases decide (1≤op∧op≤8) <;> cases decide (args.length=argN op) <;> cases decide (op=1∨op=2) <;> cases decide (0<ne) <;> cases decide (0<nb) <;> cases decide (op=5) <;> cases decide (op=5∨op=6) <;> cases decide (op=8) <;> cases decide ((args.map Ex.op).getD 0 0=13) <;> cases args.all Ex.valid <;> rfl
 ·rw[decide_eq_false hn];cases decide (4<nest) <;> cases decide (1≤op∧op≤8) <;> cases decide (args.length=argN op) <;> cases decide (op=1∨op=2) <;> cases Qdb name <;> cases decide (0<ne) <;> cases decide (0<nb) <;> cases decide (op=5) <;> cases decide (op=5∨op=6) <;> cases decide (op=8) <;> cases decide ((args.map Ex.op).getD 0 0=13) <;> cases args.all Ex.valid <;> rfl
theorem dpos (n:Nat):decide ((0:Int)<(n:Int))=decide (0<n):=by rw[decide_eq_decide];omega
theorem Qbrj {x:St}{nest:Int}{Q:X→Env→Heap→Prop}(kn:Kn H0 H [] [])(g:GK H)
  (hn:∀e' H' b,b=badS x.op x.name x.args x.body.length x.els.length nest→Kn H0 H' [] []→lk 1 e'=.c (.int .i64 nest)→lk 2 e'=.c (.pp [.int .i64 x.op,.str x.name,.sl false 4 (Qw x.args),.sl false 5 (Qk x.body),.sl false 5 (Qk x.els)])→lk 19 e'=.c (.bool b)→Q .nrm e' H') :
  Q8 prog Qacb Q [(1,.c (.int .i64 nest)),(2,.c (.pp [.int .i64 x.op,.str x.name,.sl false 4 (Qw x.args),.sl false 5 (Qk x.body),.sl false 5 (Qk x.els)])),(5,.c (.int .i64 (acN x.op))),(6,.c (.bool (decide (x.op=1∨x.op=2)))),(7,.c (.bool (decide (x.op=5∨x.op=6)))),(8,.c (.bool (decide (x.op=5)))),(19,.c (.bool (decide (4<nest))))] H:=by
 refine Qc rfl (fun hc=>?_) (fun hc=>?_)
 ·rw[hc];refine Qf ?_;exact hn _ _ true (by simp only[badS,hc,J5]) kn (by simp[lk]) (by simp[lk]) (by simp[lk])
 refine Qa ?_;simp only[go_sem,Ql];intro _;refine Qc rfl (fun hc1=>?_) (fun hc1=>?_)
 ·rw[hc1];refine Qf ?_;exact hn _ _ true (by simp only[badS,hc,hc1,J5,J6]) kn (by simp[lk]) (by simp[lk]) (by simp[lk])
 have hl:=acN_eq.1 (show (x.args.length:Int)=acN x.op by simpa using hc1);have rest:∀(b:Bool) (H1:Heap),b=(decide (x.op=1∨x.op=2)&&!Qdb x.name)→Kn H0 H1 [] []→Q8 prog Qaca Q [(1,.c (.int .i64 nest)),(2,.c (.pp [.int .i64 x.op,.str x.name,.sl false 4 (Qw x.args),.sl false 5 (Qk x.body),.sl false 5 (Qk x.els)])),(6,.c (.bool (decide (x.op=1∨x.op=2)))),(7,.c (.bool (decide (x.op=5∨x.op=6)))),(8,.c (.bool (decide (x.op=5)))),(19,.c (.bool b))] H1:=by
  intro b H1 hb kn;refine Qc rfl (fun hc2=>?_) (fun hc2=>?_)
  ·rw[hc2]at hb;rw[hc2];refine Qf ?_;exact hn _ _ true (by simp only[badS,hc,hc1,←hb,J5,J6]) kn (by simp[lk]) (by simp[lk]) (by simp[lk])
  rw[hc2]at hb;refine Qa ?_;simp only[go_sem,Qey];refine Qc rfl (fun hc3=>?_) (fun hc3=>?_)
  ·rw[hc3];refine Qf ?_;exact hn _ _ true (by simp only[badS,hc,hc1,←hb,hc3,J5,J6]) kn (by simp[lk]) (by simp[lk]) (by simp[lk])
  refine Qa ?_;simp only[go_sem,Qey,Qv];try intro _
  refine Qc rfl (fun hc4=>?_) (fun hc4=>?_)
  ·rw[hc4];rw[dpos]at hc4;refine Qf ?_;exact hn _ _ true (by simp only[badS,hc,hc1,←hb,hc3,hc4,J5,J6]) kn (by simp[lk]) (by simp[lk]) (by simp[lk])
  rw[dpos]at hc4;refine Qa ?_;simp only[go_sem,Qey,Qv];try intro _
  refine Qc rfl (fun hc5=>?_) (fun hc5=>?_)
  ·rw[hc5];rw[dpos]at hc5;refine Qf ?_;exact hn _ _ true (by simp only[badS,hc,hc1,←hb,hc3,hc4,hc5,J5,J6]) kn (by simp[lk]) (by simp[lk]) (by simp[lk])
  rw[dpos]at hc5;refine Qp ?_;have h1:0<x.args.length:=by rw[hl.2,argN];split <;> omega
  have hg0:=Qaq x.args 0 h1;obtain⟨a,ea⟩:∃a,x.args[0]=a:=⟨_,rfl⟩;rw[ea]at hg0;have eo:(x.args.map Ex.op).getD 0 0=a.op:=by rw[←ea];simp[Jf,h1]
  simp only[go_sem,Qey,Ql,h1,hg0,a.cells_eq]
  first
   |refine⟨fun _=>by omega,?_⟩
   |skip
  refine hn _ _ (decide (x.op=8)&&!decide (a.op=13)) ?_ kn (by simp[lk]) (by simp[lk]) (by simp[lk]);simp only[badS,hc,hc1,←hb,hc3,hc4,hc5,eo,J5,J6,Jw]
 by_cases hnm:x.op=1∨x.op=2
 ·have hd:decide (x.op=1∨x.op=2)=true:=decide_eq_true hnm;rw[hd]at rest;refine Qa ?_;simp only[go_sem,hd];refine Qqy g fun H1 hu=>?_;simp only[go_sem,Qqq];exact rest _ _ rfl (kn.call0 hu)
 ·have hd:decide (x.op=1∨x.op=2)=false:=decide_eq_false hnm;rw[hd]at rest;refine Qa ?_;simp only[go_sem,hd,Qqq];exact rest _ _ rfl kn
theorem Qaxp {fl:Bool}{l:List St}{f:Nat}{caps:List C}{p:St→Bool}
  (hf:∀(x:St) (H1:Heap) (K':V→Heap→Prop),x∈l→Kn H H1 [] []→(∀H2,Upd H1 H2 []→K' (.c (.bool (p x))) H2)→Qj prog f ([.ag x.cells]++caps.map .c) H1 K')
  (hK:∀(r:Int) (H':Heap),Upd H H' []→decide (0≤r)=l.any p→K (.c (.int .i64 r)) H') :
  Qj prog Qe1 [.c (.sl fl 5 (Qk l)),.c (.fn f caps)] H K:=by
 refine Qn ?_;refine Qb Qad Q75 ?_;refine Qa ?_;simp only[go_sem];refine Q5 ?_;refine Qa ?_;simp only[go_sem,Qv];intro hl;simp only[LIM]at hl;refine Qg (Qe (Q2 (fun m e1 H1=>∃(i:Nat),m=l.length-i∧i≤l.length∧Kn H H1 [] []∧(∀x∈l.take i,p x=false)∧e1=[(0,.c (.sl fl 5 (Qk l))),(1,.c (.fn f caps)),(7,.c (.int .i64 l.length)),(8,.c (.int .i64 i))]) l.length ?_ ?_))
 ·exact⟨0,by omega,by omega,Kn.start0 H,by simp,rfl⟩
 ·rintro m e1 H1 ⟨i,hm,hi,kn,hall,rfl⟩;refine Qa ?_;simp only[go_sem];refine Qg (Qc rfl ?_ ?_)
  ·intro hc;have hlt:i<l.length:=by simpa using hc
   refine Qf ?_;simp only[go_sem];refine Qg (Qe ?_);refine Qa ?_;simp only[go_sem];refine Qa ?_;simp only[go_sem,hlt,Qv,Qbg _ _ hlt,St.take5,St.allOw,St.cells_len];refine hf _ _ _ (Je hlt) kn fun H2 hu=>?_;have kn:=kn.call0 hu;refine Qc rfl ?_ ?_
   ·intro hc2;refine Qa ?_;simp only[go_sem];refine Qi ?_;simp only[go_sem,X.next,Qq,Q7,Qpr,Ja,forall_eq,RS.op];refine⟨_,.c _ _ (Qd rfl),hK _ _ kn.fin ?_⟩;have:l.any p=true:=J3.2 ⟨_,Je hlt,hc2⟩;rw[this];simp
   ·intro hc2;refine Qf ?_;simp only[go_sem];refine Qp ?_;simp only[go_sem,X.next];refine⟨Qm (by omega) (by omega),l.length-(i+1),by omega,i+1,rfl,by omega,kn,?_,rfl⟩;rw[Jd hlt];intro x hx;rcases Jl.1 hx with hx|hx
    ·exact hall x hx
    ·simp only[Ja]at hx;subst hx;exact hc2
  ·intro hc;have hge:l.length≤i:=by simpa using hc
   rw[Jb hge]at hall;refine Q1 ?_;simp only[go_sem,X.next];refine Qa ?_;simp only[go_sem];refine Qi ?_;simp only[go_sem,Qq,Q7,Qpr,Ja,forall_eq,RS.op];refine⟨_,.c _ _ (Qd rfl),hK _ _ kn.fin ?_⟩;have:l.any p=false:=by
    cases hc:l.any p with
    |false=>rfl
    |true=>obtain⟨x,hx,hp⟩:=J3.1 hc;rw[hall x hx]at hp;exact absurd hp (by simp)
   rw[this];rfl
theorem Qahs {fl:Bool}{l:List St}{f:Nat}{caps:List C}{p:St→Bool}
  (hf:∀(x:St) (H1:Heap) (K':V→Heap→Prop),x∈l→Kn H H1 [] []→(∀H2,Upd H1 H2 []→K' (.c (.bool (p x))) H2)→Qj prog f ([.ag x.cells]++caps.map .c) H1 K')
  (hK:∀(H':Heap),Upd H H' []→K (.c (.bool (l.any p))) H') :
  Qj prog Qdi [.c (.sl fl 5 (Qk l)),.c (.fn f caps)] H K:=by
 refine Qb Qad Qwm ?_;refine Qa ?_;simp only[go_sem];refine Qa ?_;simp only[go_sem];refine Qaxp hf fun r H' hu hr=>?_;simp only[go_sem,Qfo];refine Qi ?_;simp only[go_sem,Qq,Q7,Qpr,Ja,forall_eq,RS.op];rw[hr];exact hK _ hu
def StOk (n:Nat):Prop:=∀(x:St) (nest:Int) (H:Heap) (K:V→Heap→Prop),x.size≤n→x.size≤2^40→0≤nest→nest≤100→GK H→(∀H',Upd H H' []→K (.c (.bool (x.form (5-nest)))) H')→Qj prog Qya [.ag x.cells,.c (.int .i64 nest)] H K
def BlOk (n:Nat):Prop:=∀(l:List St) (nest:Int) (fl:Bool) (H:Heap) (K:V→Heap→Prop),Qh l≤n→Qh l≤2^40→0≤nest→nest≤100→GK H→(∀H',Upd H H' []→K (.c (.bool (Qan l (5-nest)))) H')→
 Qj prog Qg5 [.c (.sl fl 5 (Qk l)),.c (.int .i64 nest)] H K
theorem Qbgj {n:Nat}(hS:StOk n):BlOk n:=by
 intro l nest fl H K hn hb h0 hm g hK;refine Qn ?_;refine Qb Qad Qa1o ?_;refine Qa ?_;simp only[go_sem];refine Qa ?_;simp only[go_sem];have kn:=Kn.start0 H;refine Qahs (p:=fun s=>!s.form (5-nest)) (fun x H1 K' hx kn hK'=>?_) fun H1 hu=>?_
 ·have hm2:=Qbl hx;refine Qb Qad Qalm ?_;refine Qa ?_;simp only[go_sem,x.cells_eq];refine Qa ?_;simp only[go_sem];have h:=hS x nest;rw[x.cells_eq]at h;refine h _ _ (by omega) (by omega) h0 hm (g.kn kn) fun H2 hu=>?_;simp only[go_sem,Qpw];refine Qi ?_;simp only[go_sem,Qq,Q7,Q6y,Ja,forall_eq,RS.op];exact hK' _ hu
 have kn:=kn.call0 hu;simp only[go_sem,Qzg];refine Qi ?_;simp only[go_sem,Qq,Q7,Qpr,Ja,forall_eq,RS.op];refine⟨_,.c _ _ (Qd rfl),?_⟩;have e:(!l.any fun s=>!s.form (5-nest))=Qan l (5-nest):=by rw[Qaas,List.all_eq_not_any_not]
 rw[e];exact hK _ kn.fin
theorem Qbtq:∀n,StOk n:=by
 intro n
 induction n with
 |zero=>intro x nest H K hx;have:=x.size_eq;omega
 |succ n ih=>
 have hB:=Qbgj ih;intro x nest H K hn hb h0 hm g hK;have hse:=x.size_eq;have g0:=g;refine Qn ?_;refine Qb Qad Qa6h ?_;have hfe:x.form (5-nest)=(!badS x.op x.name x.args x.body.length x.els.length nest&&x.args.all Ex.valid&&(Qan x.body (5-(nest+1))&&Qan x.els (5-(nest+1)))):=by
  rw[x.form_eq,Qbph,show 5-nest-1=5-(nest+1)by omega,Jaw]
 have retf:∀(b:Bool) (e:Env) (H':Heap) (L:List (Nat×Obj)),x.form (5-nest)=b→Kn H H' [] L→lk 4 e=.c (.bool b)→Qq Qpr (unK H K) .ret e H':=by
  intro b e H' L hf kn h4;simp only[go_sem,Qq,Q7,Qpr,Ja,forall_eq,RS.op,h4];refine⟨_,.c _ _ (Qd rfl),?_⟩;rw[←hf];exact hK _ kn.fin
 have kn:=Kn.start0 H;refine Qa ?_;simp only[go_sem,x.cells_eq];refine Qa ?_;simp only[go_sem];refine Qbb4 ?_;simp only[go_sem,Q7d,Ji,Jk];refine Qg (Qe ?_);refine Q5 ?_;refine Qa ?_;simp only[go_sem];refine Qg (Qbrj kn g fun e' H1 b hbad kn l1 l2 l19=>?_);clear g;have g:=g0.kn kn;simp only[go_sem];rw[←hbad]at hfe;refine Qc (by simp only[go_sem,l19];rfl) (fun hc=>?_) (fun hc=>?_)
 ·refine Qa ?_;simp only[go_sem];refine Qi ?_;simp only[go_sem,AE.X.next];exact retf false _ _ _ (by rw[hfe,hc];rfl) kn (by simp[lk])
 have hn4:nest≤4:=by
  rw[hc,badS]at hbad;have:=(Bool.or_eq_false_iff.1 hbad.symm).1;simpa using this
 rw[hc,Bool.not_false,Jw]at hfe;refine Qf ?_;simp only[go_sem,AE.X.next];refine Q5 ?_;refine Qa ?_;simp only[go_sem,l1,l2,Ql];intro hl;simp only[LIM]at hl;refine Qg (Qe (Q2 (fun m e1 H1=>∃(i:Nat),m=x.args.length-i∧i≤x.args.length∧Kn H H1 [] []∧((x.args.take i).all Ex.valid)=true∧
  e1=[(1,.c (.int .i64 nest)),(2,.c (.pp [.int .i64 x.op,.str x.name,.sl false 4 (Qw x.args),.sl false 5 (Qk x.body),.sl false 5 (Qk x.els)])),(69,.c (.sl false 4 (Qw x.args))),(70,.c (.int .i64 x.args.length)),(71,.c (.int .i64 i))]) x.args.length ?_ ?_))
 ·exact⟨0,by omega,by omega,kn,rfl,rfl⟩
 ·clear kn g;rintro m e1 H2 ⟨i,hm,hi,kn,hall,rfl⟩;have g:=g0.kn kn;refine Qa ?_;simp only[go_sem];refine Qg (Qc rfl ?_ ?_)
  ·intro hc;have hlt:i<x.args.length:=by simpa using hc
   have hm:=Qar (Je hlt);refine Qf ?_;try simp only[go_sem]
   refine Qg (Qe ?_);refine Qa ?_;simp only[go_sem,hlt,Ql,Qaq _ _ hlt,x.args[i].cells_eq];intro x10 hx10 H3 h3;have kn:=kn.al hx10 h3;have g12:=kn.l 0 rfl;simp only[go_sem,Q7e,g12];intro H4 h4;have kn:Kn H H4 [] [(x10,.st [.int .i64 x.args[i].op,.int .i64 x.args[i].n,.str x.args[i].name,.sl false 4 (Qw x.args[i].kids)])]:=kn.stL 0 rfl h4;clear g12;have g:=g0.kn kn;have g12:=kn.l 0 rfl;refine Qa ?_;simp only[go_sem,g12];have hev:=@Qaa3 H4;have hev2:=fun K=>@Qaa3 H4 K x.args[i];simp only[x.args[i].cells_eq]at hev2;refine hev2 _ (by omega) g fun H5 hu=>?_;have kn:=Kn.drop (A:=[]) (kn.call0 hu);simp only[go_sem,Q01];refine Qc rfl ?_ ?_
   ·intro hc2;refine Qa ?_;simp only[go_sem];refine Qi ?_;simp only[go_sem,AE.X.next];exact retf false _ _ _ (by rw[hfe,Qg1 hlt (Qk9 hc2)];rfl) kn (by simp[lk])
   ·intro hc2;refine Qf ?_;try simp only[go_sem]
    refine Qp ?_;simp only[go_sem,AE.X.next];exact⟨Qm (by omega) (by omega),x.args.length-(i+1),by omega,i+1,rfl,by omega,kn,by rw[Qdy hlt,hall,Qeh hc2];rfl,rfl⟩
  ·intro hc;have hge:x.args.length≤i:=by simpa using hc
   rw[Jb hge]at hall;rw[hall,Jw]at hfe;refine Q1 ?_;simp only[go_sem,AE.X.next];refine Qa ?_;simp only[go_sem];refine⟨Qm (by omega) (by omega),?_⟩;refine hB x.body (nest+1) _ _ _ (by omega) (by omega) (by omega) (by omega) g fun H3 hu=>?_;have kn:=kn.call0 hu;have g:=g0.kn kn
   cases hb1:Qan x.body (5-(nest+1))with
   |false=>
    simp only[go_sem,Qov,Qou];refine Qi ?_;exact retf false _ _ _ (by rw[hfe,hb1];rfl) kn (by simp[lk])
   |true=>
    simp only[go_sem,Qov];refine⟨Qm (by omega) (by omega),?_⟩;refine hB x.els (nest+1) _ _ _ (by omega) (by omega) (by omega) (by omega) g fun H4 hu=>?_;have kn:=kn.call0 hu;simp only[go_sem,Qou];refine Qi ?_;exact retf _ _ _ _ (by rw[hfe,hb1];rfl) kn rfl
theorem Qbr4 (n:Nat):BlOk n:=Qbgj (Qbtq n)
end Go.AE.Y
namespace Go.AE
variable {H0 F H:Heap}{E E0 E' L L1 L2 M:List (Nat×Obj)}
theorem Kn.startE (h:∀p∈E,H p.1=p.2∧p.2≠.none)(hd:(E.map Prod.fst).Nodup):Kn H H E []:=
 ⟨by simpa using h,fun p hp=>by rw[(h p hp).1];exact (h p hp).2,by simp,hd,by simp,fun _ _ _=>rfl⟩
theorem Kn.upd (k:Kn H0 H E L):Upd H0 H E:=⟨fun p hp=>(k.get p (Jc _ hp)).1,fun m hm hn=>k.chg m hm hn⟩
theorem Y.FrzL.ptr {S:Nat→Bool}{l:Nat}{cells cells':List C}(hS:S l=true)(hH:H l=.st cells)(h:FrzL H S cells cells'):FrzC H S (.ptr l 0) (.pp cells'):=by
 obtain⟨h1,h2⟩:=h.spec;exact .ptr l 0 cells cells cells' hS hH rfl h1 h2
theorem Kn.growR {B Lg:List (Nat×Obj)}{K:V→Heap→Prop}{sz:Nat}{rows new:List (List C)}{b c:C}(kn:Kn H0 H E (B++Lg))(hc:Gr Lg sz rows c)(hb:Slc H sz new b)
  (h1:∀r∈new,noOw r=true) (h2:rows.length+new.length≤LIM)
  (h:∀t Lg' H',Gr Lg' sz (rows++new) t→t.isOw=false→Kn H0 H' E (B++Lg')→K (.c t) H'):appQ H sz c b K:=
 kn.grow hc hb h1 h2 fun y' H' k=>h _ _ H' (.mk y' sz _ (by simp)) rfl k
end Go.AE
namespace Go.AE
open Go.AE.Y
open Go.Proofs.Tryz
variable {H H0:Heap}{K:V→Heap→Prop}{E E' L:List (Nat×Obj)}
theorem Kn.callAll {H':Heap}(kn:Kn H0 H E L)(hu:Upd H H' E')(hn:E'.map Prod.fst=E.map Prod.fst)(hne:∀p∈E',p.2≠.none):Kn H0 H' E' L:=by
 refine kn.callg hu hn rfl (fun p hp=>?_) (fun m hm=>?_)
 ·rcases Jl.1 hp with h|h
  ·exact⟨hne p h,.inl h⟩
  ·refine⟨(kn.get p (Jj _ h)).2,.inr ⟨Jj _ h,fun hm=>?_⟩⟩;rw[hn]at hm;obtain⟨q,hq,hqp⟩:=Jm.1 hm;exact kn.ext q hq (by rw[hqp];exact kn.loc p h)
 ·exact .inl (by rw[←hn];exact Jm.2 ⟨m,hm,rfl⟩)
end Go.AE
namespace Go.AE.Y
open Go.Proofs.Tryz
variable {H H0:Heap}{K:V→Heap→Prop}{E E' L:List (Nat×Obj)}
mutual
def St.vis {α:Type}(step:α→St→Int→α):St→Int→α→α
 |.mk op name args body els,n,a=>Qb5 step els (n+1) (Qb5 step body (n+1) (step a (.mk op name args body els) n))
def Qb5 {α:Type}(step:α→St→Int→α):List St→Int→α→α
 |[],_,a=>a
 |x::r,n,a=>Qb5 step r n (x.vis step n a)
end
theorem St.vis_eq {α:Type}(step:α→St→Int→α)(x:St)(n:Int)(a:α):x.vis step n a=Qb5 step x.els (n+1) (Qb5 step x.body (n+1) (step a x n)):=by
 cases x;simp only[St.vis,St.body,St.els]
theorem Qbf6 {α:Type}(step:α→St→Int→α)(l r:List St)(n:Int)(a:α):Qb5 step (l++r) n a=Qb5 step r n (Qb5 step l n a):=by
 induction l generalizing a with
 |nil=>simp[Qb5]
 |cons x l ih=>simp only[List.cons_append,Qb5,ih]
theorem Qbae {α:Type}(step:α→St→Int→α){l:List St}{i:Nat}(h:i<l.length)(n:Int)(a:α):Qb5 step (l.take (i+1)) n a=(l[i]).vis step n (Qb5 step (l.take i) n a):=by
 rw[Jd h,Qbf6];simp[Qb5]
structure VisOk {α:Type}(ob:α→List (Nat×Obj))(step:α→St→Int→α)(ok:α→Prop)(mu:α→Nat)(f:Nat)(caps:List C):Prop where
 nm:∀a b,(ob a).map Prod.fst=(ob b).map Prod.fst
 nd:∀a,((ob a).map Prod.fst).Nodup
 ne:∀a,∀p∈ob a,p.2≠.none
 st:∀a s n,ok a→ok (step a s n)
 ms:∀a s n,mu (step a s n)≤mu a+s.size-(Qh s.body+Qh s.els)
 c:∀(a:α) (s:St) (n:Int) (H:Heap) (K:V→Heap→Prop),ok a→mu a≤2^41→0≤n→(n≤2^41)→s.size≤2^40→(∀p∈ob a,H p.1=p.2)→(∀H',Upd H H' (ob (step a s n))→K (.tup []) H')→Qj prog f ([.ag s.cells,.c (.int .i64 n)]++caps.map .c) H K
mutual
theorem St.vis_ok {α:Type}{step:α→St→Int→α}{ok:α→Prop}(hs:∀a s n,ok a→ok (step a s n)):∀(x:St) (n:Int) (a:α),ok a→ok (x.vis step n a)
 |.mk op name args body els,n,a,h=>by
  simp only[St.vis];exact Q3m hs els _ _ (Q3m hs body _ _ (hs _ _ _ h))
theorem Q3m {α:Type}{step:α→St→Int→α}{ok:α→Prop}(hs:∀a s n,ok a→ok (step a s n)):∀(l:List St) (n:Int) (a:α),ok a→ok (Qb5 step l n a)
 |[],_,a,h=>by simpa[Qb5]using h
 |x::r,n,a,h=>by
  simp only[Qb5];exact Q3m hs r _ _ (St.vis_ok hs x _ _ h)
end
mutual
theorem St.vis_mu {α:Type}{step:α→St→Int→α}{mu:α→Nat}(hs:∀a s n,mu (step a s n)≤mu a+s.size-(Qh s.body+Qh s.els)):∀(x:St) (n:Int) (a:α),mu (x.vis step n a)≤mu a+x.size
 |.mk op name args body els,n,a=>by
  simp only[St.vis];have h1:=hs a (.mk op name args body els) n;have h2:=Q3l hs body (n+1) (step a (.mk op name args body els) n);have h3:=Q3l hs els (n+1) (Qb5 step body (n+1) (step a (.mk op name args body els) n));have h4:=St.size_eq (.mk op name args body els);simp only[St.body,St.els,St.args]at h1 h4;omega
theorem Q3l {α:Type}{step:α→St→Int→α}{mu:α→Nat}(hs:∀a s n,mu (step a s n)≤mu a+s.size-(Qh s.body+Qh s.els)):∀(l:List St) (n:Int) (a:α),mu (Qb5 step l n a)≤mu a+Qh l
 |[],_,a=>by simp[Qb5,Qh]
 |x::r,n,a=>by
  simp only[Qb5,Qh];have h1:=St.vis_mu hs x n a;have h2:=Q3l hs r n (x.vis step n a);omega
end
theorem Qa1e {α:Type}{ob:α→List (Nat×Obj)}{step:α→St→Int→α}{ok:α→Prop}{mu:α→Nat}{f:Nat}{caps:List C}(hv:VisOk ob step ok mu f caps) :
  ∀(n:Nat) (l:List St) (nest:Int) (fl:Bool) (a:α) (H:Heap) (K:V→Heap→Prop),Qh l≤n→Qh l≤2^40→0≤nest→nest+n≤2^41→ok a→mu a+n≤2^41→(∀p∈ob a,H p.1=p.2)→(∀H',Upd H H' (ob (Qb5 step l nest a))→K (.tup []) H')→
   Qj prog Qi1 [.c (.sl fl 5 (Qk l)),.c (.int .i64 nest),.c (.fn f caps)] H K:=by
 intro n
 induction n using Nat.strongRecOn with
 |_ n ih=>
 intro l nest fl a H K hn hb h0 hm ha hmu hh hK;refine Qn ?_;refine Qb Qad Qbcv ?_;refine Qa ?_;simp only[go_sem,Qv];intro hl;simp only[LIM]at hl;have hne:=hv.ne a;have kn:Kn H H (ob a) []:=.startE (fun p hp=>⟨hh p hp,hne p hp⟩) (hv.nd a);refine Qe (Q2 (fun m e1 H1=>∃(i:Nat),m=l.length-i∧i≤l.length∧Kn H H1 (ob (Qb5 step (l.take i) nest a)) []∧
  e1=[(1,.c (.int .i64 nest)),(2,.c (.fn f caps)),(8,.c (.sl fl 5 (Qk l))),(9,.c (.int .i64 l.length)),(10,.c (.int .i64 i))]) l.length ?_ ?_)
 ·exact⟨0,by omega,by omega,by simpa[Qb5]using kn,rfl⟩
 ·clear kn;rintro m e1 H1 ⟨i,hm1,hi,kn,rfl⟩;obtain⟨a1,ha1⟩:∃a1,Qb5 step (l.take i) nest a=a1:=⟨_,rfl⟩;have hok1:ok a1:=by rw[←ha1];exact Q3m hv.st _ _ _ ha
  have hmu1:=Q3l hv.ms (l.take i) nest a;have hsl:=Qbm l i;rw[ha1]at kn hmu1;refine Qa ?_;simp only[go_sem];refine Qg (Qc rfl ?_ ?_)
  ·intro hc;have hlt:i<l.length:=by simpa using hc
   have hms:=Qbl (Je hlt);have hst:=Qgz hlt;have hsl2:=Qbm l (i+1);obtain⟨x,hx⟩:∃x,l[i]=x:=⟨_,rfl⟩;rw[hx]at hms hst;have hse:=x.size_eq;have htk:=Qbae step hlt nest a;rw[ha1,hx]at htk;refine Qf ?_;try simp only[go_sem]
   refine Qg (Qe ?_);refine Qa ?_;simp only[go_sem,hlt,Qv,Qbg _ _ hlt,hx,x.cells_eq];intro x7 hx7 H3 h3;have kn:=kn.al hx7 h3;have g7:=kn.l 0 rfl;simp only[go_sem,Qacc,g7];intro H4 h4;have kn:Kn H H4 (ob a1) [(x7,.st [.int .i64 x.op,.str x.name,.sl false 4 (Qw x.args),.sl false 5 (Qk x.body),.sl false 5 (Qk x.els)])]:=kn.stL 0 rfl h4;clear g7;have g7:=kn.l 0 rfl;refine Qa ?_;simp only[go_sem,g7];have hvc:=hv.c a1 x nest;rw[x.cells_eq]at hvc;refine hvc _ _ hok1 (by omega) h0 (by omega) (by omega) (fun p hp=>(kn.get p (Jc _ hp)).1) fun H5 hu=>?_;have kn:=kn.callAll hu (hv.nm _ _) (hv.ne _);have g7:=kn.l 0 rfl;have hok2:=hv.st a1 x nest hok1;have hmu2:=hv.ms a1 x nest;have hmu3:=Q3l hv.ms x.body (nest+1) (step a1 x nest);simp only[go_sem];refine Qa ?_;simp only[go_sem,g7];refine⟨Qm (by omega) (by omega),?_⟩;refine ih (Qh x.body) (by omega) x.body (nest+1) _ _ _ _ (Jt _) (by omega) (by omega) (by omega) hok2 (by omega) (fun p hp=>(kn.get p (Jc _ hp)).1) fun H6 hu=>?_;have kn:=kn.callAll hu (hv.nm _ _) (hv.ne _);have g7:=kn.l 0 rfl;have hok3:=Q3m hv.st x.body (nest+1) _ hok2;simp only[go_sem];refine Qp ?_;simp only[go_sem,g7];refine⟨Qm (by omega) (by omega),?_⟩;refine ih (Qh x.els) (by omega) x.els (nest+1) _ _ _ _ (Jt _) (by omega) (by omega) (by omega) hok3 (by omega) (fun p hp=>(kn.get p (Jc _ hp)).1) fun H7 hu=>?_;have kn:=Kn.drop (A:=[]) (kn.callAll hu (hv.nm _ _) (hv.ne _));simp only[go_sem];refine Qp ?_;simp only[go_sem,X.next];refine⟨Qm (by omega) (by omega),l.length-(i+1),by omega,i+1,rfl,by omega,?_,rfl⟩;rw[htk,x.vis_eq];exact kn
  ·intro hc;have hge:l.length≤i:=by simpa using hc
   rw[Jb hge]at ha1;refine Q1 ?_;simp only[go_sem,X.next,Qq,Q7,Qtn];refine⟨.tup [],.tup _ _ rfl fun j x x' h=>by simp at h,hK _ ?_⟩;rw[ha1];exact kn.fin
end Go.AE.Y
namespace Go.AE.Y
attribute [local go_sem] cond_true cond_false Bool.not_true Bool.not_false
open Go.Proofs.Tryz
variable {H H0:Heap}{K:V→Heap→Prop}{E E' L:List (Nat×Obj)}
def Qalt (p:Int×Int)(s:St)(n:Int):Int×Int:=(p.1+1,if n > p.2 then n else p.2)
mutual
theorem St.ms_fst:∀(x:St) (n:Int) (p:Int×Int),(x.vis Qalt n p).1=p.1+x.cnt
 |.mk op name args body els,n,p=>by
  simp only[St.vis,St.cnt];rw[Qacv els,Qacv body,Qalt];simp only[];omega
theorem Qacv:∀(l:List St) (n:Int) (p:Int×Int),(Qb5 Qalt l n p).1=p.1+Qby l
 |[],_,p=>by simp[Qb5,Qby]
 |x::r,n,p=>by
  simp only[Qb5,Qby];rw[Qacv r,St.ms_fst x];omega
end
def msOb (x2 x3:Nat)(p:Int×Int):List (Nat×Obj):=[(x2,.st [.int .i64 p.1]),(x3,.st [.int .i64 p.2])]
theorem Qbsz {x2 x3:Nat}(hne:x2≠x3):VisOk (msOb x2 x3) Qalt (fun p=>0≤p.1) (fun p=>p.1.toNat) Qk8 [.ptr x2 0,.ptr x3 0]:=by
 refine⟨fun _ _=>rfl,fun _=>by simp[msOb,hne],fun a p hp=>?_,fun a s n h=>?_,fun a s n=>?_,fun a s n H K ha hmu h0 hn hs hh hK=>?_⟩
 ·simp only[msOb,Jh,Jr,or_false]at hp;rcases hp with rfl|rfl <;> nofun
 ·show 0≤a.1+1;omega
 ·show (a.1+1).toNat≤_;have:=s.size_eq;omega
 ·have h2:H x2=.st [.int .i64 a.1]:=hh (x2,_) (by simp[msOb]);have h3:H x3=.st [.int .i64 a.2]:=hh (x3,_) (by simp[msOb]);refine Qb Qad Qalo ?_;have kn:=Kn.start2 h2 (by nofun) h3 (by nofun) hne;refine Qa ?_;simp only[go_sem,s.cells_eq];refine Qa ?_;simp only[go_sem,h2];refine⟨Qm (by omega) (by omega),fun H1 h1=>?_⟩;have kn:=kn.stE 0 rfl h1;have g3:=kn.e 1 rfl;refine Qp ?_;simp only[go_sem,g3];intro H2 hh2;have kn:=kn.stE 1 rfl hh2;simp only[Qq,Q7,Qtn,go_sem];exact hK _ ⟨fun p hp=>(kn.get p (Jc _ hp)).1,fun m h1 h2=>kn.chg m h1 h2⟩
end Go.AE.Y
namespace Go.AE
open Go.AE.Y
open Go.Proofs.Tryz
variable {H H0:Heap}{K:V→Heap→Prop}{E E' L:List (Nat×Obj)}
theorem Kn.callLs {H':Heap}{L' M:List (Nat×Obj)}(kn:Kn H0 H E (L++M))(hu:Upd H H' L')(hn:L'.map Prod.fst=L.map Prod.fst)(hne:∀p∈L',p.2≠.none):Kn H0 H' E (L'++M):=by
 have hloc:∀m,m∈L'.map Prod.fst→H0 m=.none:=fun m h=>by
  rw[hn]at h;obtain⟨q,hq,rfl⟩:=Jm.1 h;exact kn.loc q (Jc _ hq)
 refine kn.callg hu rfl (by rw[Jv,Jv,hn]) (fun p hp=>?_) (fun m hm=>.inr (by rw[Jv,←hn];exact Jc _ (Jm.2 ⟨m,hm,rfl⟩)));rcases Jl.1 hp with h|h
 ·exact⟨(kn.get p (Jc _ h)).2,.inr ⟨Jc _ h,fun hm=>kn.ext p h (hloc _ hm)⟩⟩
 rcases Jl.1 h with h|h
 ·exact⟨hne p h,.inl h⟩
 ·refine⟨(kn.get p (Jj _ (Jj _ h))).2,.inr ⟨Jj _ (Jj _ h),fun hm=>?_⟩⟩;rw[hn]at hm;have hd:=kn.dL;rw[Jv,J8]at hd;exact hd.2.2 _ hm _ (Jm.2 ⟨p,h,rfl⟩) rfl
end Go.AE
namespace Go.AE.Y
open Go.Proofs.Tryz
variable {H H0:Heap}{K:V→Heap→Prop}{E E' L:List (Nat×Obj)}
theorem Qboo {S:Nat→Bool}(n d:Int):FrzV H S (.tup [.c (.int .i64 n),.c (.int .i64 d)]) (.tup [.c (.int .i64 n),.c (.int .i64 d)]):=by
 refine .tup _ _ rfl fun j x x' h1 h2=>?_
 match j with
 |0=>simp at h1 h2;subst h1;subst h2;exact .c _ _ (Qd rfl)
 |1=>simp at h1 h2;subst h1;subst h2;exact .c _ _ (Qd rfl)
end Go.AE.Y
namespace Go.AE
open Go.AE.Y
open Go.Proofs.Tryz
variable {H H0:Heap}{K:V→Heap→Prop}{E E' L:List (Nat×Obj)}
theorem Kn.lm2 {x:Nat×Obj}(kn:Kn H0 H E L)(h:x∈L):H x.1=x.2:=(kn.get x (Jj _ h)).1
end Go.AE
namespace Go.AE.Y
open Go.Proofs.Tryz
variable {H H0:Heap}{K:V→Heap→Prop}{E E' L:List (Nat×Obj)}
theorem Qbie {l:List Fn}{fl:Bool}(hf:Qs l≤2^40)(hK:∀(d:Int) H',Upd H H' []→K (.tup [.c (.int .i64 (Qes l)),.c (.int .i64 d)]) H'):Qj prog Qs6 [.ag [.sl fl 3 (Q3 l)]] H K:=by
 refine Qn ?_;refine Qb Qad Qa1s ?_;refine Qa ?_;simp only[go_sem];intro x2 hx2 H1 h1;have kn:=(Kn.start0 H).al hx2 h1;simp only[go_sem,Q0v];intro x3 hx3 H2 h2;have kn:=kn.al hx3 h2;have hne:x2≠x3:=kn.neL 0 1 rfl rfl (by omega);have kn:Kn H H2 [] (msOb x2 x3 (0,0)):=kn;refine Q5 ?_;refine Qa ?_;simp only[go_sem,Qx];intro hl;simp only[LIM]at hl;refine Qg (Qe (Q2 (fun m e1 H1=>∃(i:Nat) (d:Int),m=l.length-i∧i≤l.length∧Kn H H1 [] (msOb x2 x3 ((Qes (l.take i):Int),d))∧
  e1=[(2,.c (.ptr x2 0)),(3,.c (.ptr x3 0)),(7,.c (.sl fl 3 (Q3 l))),(8,.c (.int .i64 l.length)),(9,.c (.int .i64 i))]) l.length ?_ ?_))
 ·exact⟨0,0,by omega,by omega,kn,rfl⟩
 ·clear kn;rintro m e1 H3 ⟨i,d,hm,hi,kn,rfl⟩;refine Qa ?_;simp only[go_sem];refine Qg (Qc rfl ?_ ?_)
  ·intro hc;have hlt:i<l.length:=by simpa using hc
   have hm:=Qbf (Je hlt);have htk:=Qac4 hlt;have hpt:=Qabj hlt;have htl:=Qla l (i+1);have hct:=Qban (l.take i);refine Qf ?_;try simp only[go_sem]
   refine Qg (Qe ?_);refine Qa ?_;simp only[go_sem,hlt,Qx,Qat _ _ hlt,Fn.cells];intro x5 hx5 H4 h4;have kn:=kn.al hx5 h4;have g5:=kn.l 2 rfl;simp only[go_sem,Q0w,g5];intro H5 h5;have kn:Kn H H5 [] (msOb x2 x3 ((Qes (l.take i):Int),d)++[(x5,_)]):=kn.stL 2 rfl h5;have g5:=kn.l 2 rfl;refine Qp ?_;simp only[go_sem,g5];refine Qa1e (Qbsz hne) (Qh l[i].body) l[i].body 1 _ ((Qes (l.take i):Int),d) _ _ (Jt _) (by omega) (by omega) (by omega) (by show (0:Int)≤_;omega) (by show (Qes (l.take i):Int).toNat+_≤_;omega) (fun p hp=>kn.lm2 (Jc _ hp)) fun H6 hu=>?_;have kn:=Kn.drop (A:=msOb x2 x3 (Qb5 Qalt l[i].body 1 ((Qes (l.take i):Int),d))) (kn.callLs hu rfl ((Qbsz hne).ne _));have hfs:=Qacv l[i].body 1 ((Qes (l.take i):Int),d);simp only[go_sem];refine Qp ?_;simp only[go_sem,AE.X.next];refine⟨Qm (by omega) (by omega),l.length-(i+1),by omega,i+1,(Qb5 Qalt l[i].body 1 ((Qes (l.take i):Int),d)).2,rfl,by omega,?_,rfl⟩;have e:((Qes (l.take (i+1)):Int))=(Qb5 Qalt l[i].body 1 ((Qes (l.take i):Int),d)).1:=by rw[hfs,htk];simp
   rw[e];exact kn
  ·intro hc;have hge:l.length≤i:=by simpa using hc
   rw[Jb hge]at kn;have g2:=kn.l 0 rfl;have g3:=kn.l 1 rfl;refine Q1 ?_;simp only[go_sem,AE.X.next];refine Qaf ?_;simp only[go_sem,g2,g3];intro H4 h4;have kn:=kn.stL 0 rfl h4;have g3:=kn.l 1 rfl;simp only[go_sem,Q0x,g3];intro H5 h5;have kn:=kn.stL 1 rfl h5;have g2:=kn.l 0 rfl;have g3:=kn.l 1 rfl;refine Qi ?_;simp only[go_sem,Qq,Q7,Qaf9,Jx,Jr,RS.op,g2,g3];exact⟨fun _=>trivial,_,Qboo _ _,hK d _ kn.fin⟩
end Go.AE.Y
namespace Go.AE.Y
attribute [local go_sem] cond_true cond_false Bool.not_true Bool.not_false
open Go.Proofs.Tryz
variable {H H0:Heap}{K:V→Heap→Prop}{E E' L:List (Nat×Obj)}
theorem Qar1 {fl:Bool}{l:List (List UInt8)}{f:Nat}{caps:List C}{p:List UInt8→Bool}
  (hf:∀(x:List UInt8) (H1:Heap) (K':V→Heap→Prop),x∈l→Kn H H1 [] []→(∀H2,Upd H1 H2 []→K' (.c (.bool (p x))) H2)→Qj prog f ([.c (.str x)]++caps.map .c) H1 K')
  (hK:∀(r:Int) (H':Heap),Upd H H' []→decide (0≤r)=l.any p→K (.c (.int .i64 r)) H') :
  Qj prog Qdv [.c (.sl fl 1 (Q9 l)),.c (.fn f caps)] H K:=by
 refine Qn ?_;refine Qb Qad Qyq ?_;refine Qa ?_;simp only[go_sem];refine Q5 ?_;refine Qa ?_;simp only[go_sem,Qo];intro hl;simp only[LIM]at hl;refine Qg (Qe (Q2 (fun m e1 H1=>∃(i:Nat),m=l.length-i∧i≤l.length∧Kn H H1 [] []∧(∀x∈l.take i,p x=false)∧e1=[(0,.c (.sl fl 1 (Q9 l))),(1,.c (.fn f caps)),(7,.c (.int .i64 l.length)),(8,.c (.int .i64 i))]) l.length ?_ ?_))
 ·exact⟨0,by omega,by omega,Kn.start0 H,by simp,rfl⟩
 ·rintro m e1 H1 ⟨i,hm,hi,kn,hall,rfl⟩;refine Qa ?_;simp only[go_sem];refine Qg (Qc rfl ?_ ?_)
  ·intro hc;have hlt:i<l.length:=by simpa using hc
   have hgd:l.getD i []=l[i]:=by simp[Jf,hlt]
   refine Qf ?_;simp only[go_sem];refine Qg (Qe ?_);refine Qa ?_;simp only[go_sem];refine Qa ?_;simp only[go_sem,hlt,Qo,Qbs _ _ hlt,hgd];refine hf _ _ _ (Je hlt) kn fun H2 hu=>?_;have kn:=kn.call0 hu;refine Qc rfl ?_ ?_
   ·intro hc2;refine Qa ?_;simp only[go_sem];refine Qi ?_;simp only[go_sem,X.next,Qq,Q7,Qpr,Ja,forall_eq,RS.op];refine⟨_,.c _ _ (Qd rfl),hK _ _ kn.fin ?_⟩;have:l.any p=true:=J3.2 ⟨_,Je hlt,hc2⟩;rw[this];simp
   ·intro hc2;refine Qf ?_;simp only[go_sem];refine Qp ?_;simp only[go_sem,X.next];refine⟨Qm (by omega) (by omega),l.length-(i+1),by omega,i+1,rfl,by omega,kn,?_,rfl⟩;rw[Jd hlt];intro x hx;rcases Jl.1 hx with hx|hx
    ·exact hall x hx
    ·simp only[Ja]at hx;subst hx;exact hc2
  ·intro hc;have hge:l.length≤i:=by simpa using hc
   rw[Jb hge]at hall;refine Q1 ?_;simp only[go_sem,X.next];refine Qa ?_;simp only[go_sem];refine Qi ?_;simp only[go_sem,Qq,Q7,Qpr,Ja,forall_eq,RS.op];refine⟨_,.c _ _ (Qd rfl),hK _ _ kn.fin ?_⟩;have:l.any p=false:=by
    cases hc:l.any p with
    |false=>rfl
    |true=>obtain⟨x,hx,hp⟩:=J3.1 hc;rw[hall x hx]at hp;exact absurd hp (by simp)
   rw[this];rfl
theorem Qacy {fl:Bool}{l:List (List UInt8)}{f:Nat}{caps:List C}{p:List UInt8→Bool}
  (hf:∀(x:List UInt8) (H1:Heap) (K':V→Heap→Prop),x∈l→Kn H H1 [] []→(∀H2,Upd H1 H2 []→K' (.c (.bool (p x))) H2)→Qj prog f ([.c (.str x)]++caps.map .c) H1 K')
  (hK:∀(H':Heap),Upd H H' []→K (.c (.bool (l.any p))) H') :
  Qj prog Qcx [.c (.sl fl 1 (Q9 l)),.c (.fn f caps)] H K:=by
 refine Qb Qad Qq2 ?_;refine Qa ?_;simp only[go_sem];refine Qa ?_;simp only[go_sem];refine Qar1 hf fun r H' hu hr=>?_;simp only[go_sem,Qer];refine Qi ?_;simp only[go_sem,Qq,Q7,Qpr,Ja,forall_eq,RS.op];rw[hr];exact hK _ hu
theorem Qbtx {s:List UInt8}(g:GK H)(hK:∀H',Upd H H' []→K (.c (.bool (!Qdb s))) H'):Qj prog Qd9 [.c (.str s)] H K:=by
 refine Qb Qad Q4c ?_;refine Qa ?_;simp only[go_sem];refine Qa ?_;simp only[go_sem];refine Qqy g fun H1 hu=>?_;simp only[go_sem,Qhq];refine Qi ?_;simp only[go_sem,Qq,Q7,Qfh,Ja,forall_eq,RS.op];exact hK _ hu
theorem Qahu {l:List Fn}{fl:Bool}(hf:Qs l≤2^40)(g:GK H)(hK:∀H',Upd H H' []→K (.c (.bool (Qqf l))) H'):Qj prog Qg4 [.ag [.sl fl 3 (Q3 l)]] H K:=by
 refine Qn ?_;have g0:=g;refine Qb Qad Qadi ?_;have retf:∀(b:Bool) (e:Env) (H':Heap) (L:List (Nat×Obj)),Qqf l=b→Kn H H' [] L→lk 2 e=.c (.bool b)→Qq Qfh (unK H K) .ret e H':=by
  intro b e H' L hf kn h4;simp only[go_sem,Qq,Q7,Qfh,Ja,forall_eq,RS.op,h4];refine⟨_,.c _ _ (Qd rfl),?_⟩;rw[←hf];exact hK _ kn.fin
 have kn:=Kn.start0 H;refine Qa ?_;simp only[go_sem];refine Q5 ?_;refine Qa ?_;simp only[go_sem,Qx];intro hl;simp only[LIM]at hl;refine Q3z ?_;simp only[go_sem,Ql6];have hw:(decide ((1:Int)≤(l.length:Int))&&decide ((l.length:Int)≤4))=decide (1≤l.length∧l.length≤4):=by rw[Ju];simp;omega
 rw[hw];refine Qg (Qc rfl ?_ ?_)
 ·intro hc;have hc:=Qk9 hc;refine Qa ?_;simp only[go_sem];refine Qi ?_;simp only[go_sem,AE.X.next];exact retf false _ _ _ (by rw[Qqf,hc];rfl) kn (by simp[lk])
 intro hc;have hlen:=Qeh hc;refine Qf ?_;try simp only[go_sem]
 refine Q5 ?_;refine Qa ?_;simp only[go_sem,Qx];intro _;refine Qg (Qe (Q2 (fun m e1 H1=>∃(i:Nat),m=l.length-i∧i≤l.length∧Kn H H1 [] []∧((l.take i).all Fn.form)=true∧
  e1=[(1,.c (.pp [.sl fl 3 (Q3 l)])),(13,.c (.sl fl 3 (Q3 l))),(14,.c (.int .i64 l.length)),(15,.c (.int .i64 i))]) l.length ?_ ?_))
 ·exact⟨0,by omega,by omega,kn,rfl,rfl⟩
 ·clear kn g;rintro m e1 H2 ⟨i,hm,hi,kn,hall,rfl⟩;have g:=g0.kn kn;refine Qa ?_;simp only[go_sem];refine Qg (Qc rfl ?_ ?_)
  ·intro hc;have hlt:i<l.length:=by simpa using hc
   have hms:=Qbf (Je hlt);obtain⟨f,hfe⟩:∃f,l[i]=f:=⟨_,rfl⟩;rw[hfe]at hms;refine Qf ?_;try simp only[go_sem]
   refine Qg (Qe ?_);refine Qa ?_;simp only[go_sem,hlt,Qx,Qat _ _ hlt,hfe,Fn.cells];intro x4 hx4 H4 h4;have kn:=kn.al hx4 h4;have g4:=kn.l 0 rfl;simp only[go_sem,Ql7,g4];intro H5 h5;have kn:=kn.stL 0 rfl h5;have g:=g0.kn kn;have g4:=kn.l 0 rfl;have nx:∀(b:Bool) (H6:Heap) (L:List (Nat×Obj)),b = !f.form→Kn H H6 [] L→Q8 prog Qoh (X.inBlock 1 (X.sq prog Qoi (X.next (fun e2 H2=>∃m_1,m_1<m∧∃i,m_1=l.length-i∧i≤l.length∧Kn H H2 [] []∧((l.take i).all Fn.form)=true∧
     e2=[(1,.c (.pp [.sl fl 3 (Q3 l)])),(13,.c (.sl fl 3 (Q3 l))),(14,.c (.int .i64 l.length)),(15,.c (.int .i64 i))]) (X.inBlock 0 (X.sq prog Ql5 (Qq Qfh (unK H K)))))))
     [(1,.c (.pp [.sl fl 3 (Q3 l)])),(13,.c (.sl fl 3 (Q3 l))),(14,.c (.int .i64 l.length)),(15,.c (.int .i64 i)),(39,.c (.bool b))] H6:=by
    intro b H6 L hb kn;refine Qc rfl (fun hc2=>?_) (fun hc2=>?_)
    ·rw[hc2]at hb;refine Qa ?_;simp only[go_sem];refine Qi ?_;simp only[go_sem,AE.X.next];refine retf false _ _ _ ?_ kn (by simp[lk]);rw[Qqf,Qg1 hlt (by rw[hfe];exact Qk9 hb.symm)];simp
    ·rw[hc2]at hb;refine Qf ?_;try simp only[go_sem]
     refine Qp ?_;simp only[go_sem,AE.X.next];exact⟨Qm (by omega) (by omega),l.length-(i+1),by omega,i+1,rfl,by omega,Kn.drop (A:=[]) kn,by rw[Qdy hlt,hall,hfe,Qeh hb.symm];rfl,rfl⟩
   refine Qa ?_;simp only[go_sem,g4];refine Qqy g fun H6 hu=>?_;have kn:=kn.call0 hu;have g:=g0.kn kn;have g4:=kn.l 0 rfl
   cases h1:Qdb f.name with
   |false=>
    simp only[go_sem,Qc0,Qb4,Qb3,g4,Qo];exact nx true _ _ (by rw[Fn.form,h1];simp) kn
   |true=>
    by_cases h2:3<f.params.length
    ·have hd2:decide ((3:Int)<(f.params.length:Int))=true:=decide_eq_true (by omega);simp only[go_sem,Qc0,Qb4,Qb3,g4,hd2,Qo];try intro _
     exact nx true _ _ (by rw[Fn.form,decide_eq_false (by omega:¬f.params.length≤3)];simp) kn
    ·have hd2:decide ((3:Int)<(f.params.length:Int))=false:=decide_eq_false (by omega);simp only[go_sem,Qc0,g4,hd2,Qo];try intro _
     refine Qacy (p:=fun s=>!Qdb s) (fun s H7 K' hs kn2 hK'=>Qbtx (g.kn kn2) hK') fun H7 hu=>?_;have kn:=kn.call0 hu;have g:=g0.kn kn;have g4:=kn.l 0 rfl;have ea:(f.params.any fun s=>!Qdb s) = !f.params.all Qdb:=(by rw[List.all_eq_not_any_not];simp);rw[ea]
     cases h3:f.params.all Qdb with
     |false=>
      simp only[go_sem,Qb4,Qb3,g4];exact nx true _ _ (by rw[Fn.form,h3];rfl) kn
     |true=>
      simp only[go_sem,Qb4,g4];refine Qbr4 (Qh f.body) f.body 1 _ _ _ (Jt _) (by omega) (by omega) (by omega) g fun H8 hu=>?_;have kn:=kn.call0 hu;simp only[go_sem,Qb3];refine nx _ _ _ ?_ kn;rw[Fn.form,h1,h3,decide_eq_true (by omega:f.params.length≤3)];rfl
  ·intro hc;have hge:l.length≤i:=by simpa using hc
   rw[Jb hge]at hall;refine Q1 ?_;simp only[go_sem,AE.X.next];refine Qa ?_;simp only[go_sem];refine Qbie hf fun d H3 hu=>?_;have kn:=kn.call0 hu;simp only[go_sem,Qj8,Ji,Jk];refine Qa ?_;simp only[go_sem];refine Qi ?_;refine retf _ _ _ _ ?_ kn rfl;rw[Qqf,hlen,hall,Jw,Jw,decide_eq_decide];omega
structure ExVis {α:Type}(ob:α→List (Nat×Obj))(step:α→Ex→α)(ok:α→Prop)(f:Nat)(caps:List C):Prop where
 nm:∀a b,(ob a).map Prod.fst=(ob b).map Prod.fst
 nd:∀a,((ob a).map Prod.fst).Nodup
 ne:∀a,∀p∈ob a,p.2≠.none
 st:∀a s,ok a→ok (step a s)
 c:∀(a:α) (s:Ex) (H:Heap) (K:V→Heap→Prop),ok a→s.size≤2^40→(∀p∈ob a,H p.1=p.2)→(∀H',Upd H H' (ob (step a s))→K (.tup []) H')→Qj prog f ([.ag s.cells]++caps.map .c) H K
theorem Qbas {α:Type}{step:α→Ex→α}{ok:α→Prop}(hs:∀a s,ok a→ok (step a s)):∀(l:List Ex) (a:α),ok a→ok (l.foldl step a)
 |[],_,h=>h
 |x::r,a,h=>Qbas hs r _ (hs _ _ h)
theorem Qs0 {l:List Ex}{i:Nat}(h:i<l.length):Qac (l.take (i+1))=Qac (l.take i)++(l[i]).pre:=by
 rw[Jd h,Qac6];simp[Qac]
theorem Qbha {α:Type}{ob:α→List (Nat×Obj)}{step:α→Ex→α}{ok:α→Prop}{f:Nat}{caps:List C}(hv:ExVis ob step ok f caps) :
  ∀(n:Nat) (x:Ex) (a:α) (H:Heap) (K:V→Heap→Prop),x.size≤n→x.size≤2^40→ok a→(∀p∈ob a,H p.1=p.2)→(∀H',Upd H H' (ob (x.pre.foldl step a))→K (.tup []) H')→
   Qj prog Qs7 [.ag x.cells,.c (.fn f caps)] H K:=by
 intro n
 induction n with
 |zero=>intro x a H K h;have:=x.size_pos;omega
 |succ n ih=>
 intro x a H K hn hb ha hh hK;have hsz:=x.size_kids;refine Qn ?_;refine Qb Qad Qbcu ?_;refine Qa ?_;simp only[go_sem,x.cells_eq];refine Qa ?_;simp only[go_sem];have kn:Kn H H (ob a) []:=.startE (fun p hp=>⟨hh p hp,hv.ne a p hp⟩) (hv.nd a);have hvc:=hv.c a x;rw[x.cells_eq]at hvc;refine hvc _ _ ha hb hh fun H1 hu=>?_;have kn:=kn.callAll hu (hv.nm _ _) (hv.ne _);have hok1:=hv.st a x ha;simp only[go_sem];refine Qa ?_;simp only[go_sem,Ql];intro hl;simp only[LIM]at hl;refine Qe (Q2 (fun m e1 H1=>∃(i:Nat),m=x.kids.length-i∧i≤x.kids.length∧Kn H H1 (ob ((Qac (x.kids.take i)).foldl step (step a x))) []∧
  e1=[(1,.c (.fn f caps)),(10,.c (.sl false 4 (Qw x.kids))),(11,.c (.int .i64 x.kids.length)),(12,.c (.int .i64 i))]) x.kids.length ?_ ?_)
 ·exact⟨0,by omega,by omega,by simpa[Qac]using kn,rfl⟩
 ·clear kn;rintro m e1 H2 ⟨i,hm1,hi,kn,rfl⟩;obtain⟨a1,ha1⟩:∃a1,(Qac (x.kids.take i)).foldl step (step a x)=a1:=⟨_,rfl⟩;have hok2:ok a1:=by rw[←ha1];exact Qbas hv.st _ _ hok1
  rw[ha1]at kn;refine Qa ?_;simp only[go_sem];refine Qg (Qc rfl ?_ ?_)
  ·intro hc;have hlt:i<x.kids.length:=by simpa using hc
   have hms:=Qar (Je hlt);obtain⟨y,hy⟩:∃y,x.kids[i]=y:=⟨_,rfl⟩;have htk:=Qs0 hlt;rw[hy]at hms htk;refine Qf ?_;try simp only[go_sem]
   refine Qg (Qe ?_);refine Qa ?_;simp only[go_sem,hlt,Ql,Qaq _ _ hlt,hy,y.cells_eq];intro x5 hx5 H3 h3;have kn:=kn.al hx5 h3;have g5:=kn.l 0 rfl;simp only[go_sem,Qab7,g5];intro H4 h4;have kn:=kn.stL 0 rfl h4;have g5:=kn.l 0 rfl;refine Qp ?_;simp only[go_sem,g5];have hih:=fun K=>ih y a1 H4 K;rw[y.cells_eq]at hih;refine hih _ (by omega) (by omega) hok2 (fun p hp=>(kn.get p (Jc _ hp)).1) fun H5 hu=>?_;have kn:=Kn.drop (A:=[]) (kn.callAll hu (hv.nm _ _) (hv.ne _));simp only[go_sem];refine Qp ?_;simp only[go_sem,AE.X.next];refine⟨Qm (by omega) (by omega),x.kids.length-(i+1),by omega,i+1,rfl,by omega,?_,rfl⟩;rw[htk,List.foldl_append,ha1];exact kn
  ·intro hc;have hge:x.kids.length≤i:=by simpa using hc
   rw[Jb hge]at ha1;refine Q1 ?_;simp only[go_sem,AE.X.next,Qq,Q7,Qtn];refine⟨.tup [],.tup _ _ rfl fun j x x' h=>by simp at h,hK _ ?_⟩;rw[x.pre_eq,List.foldl_cons,ha1];exact kn.fin
theorem Qbg1 {l:List Fn}{s:List UInt8}(h:∀f∈l,¬f.name=s):Qk7 l s=none:=by
 rw[Qk7,List.findIdx?_eq_none_iff];exact fun f hf=>by simpa using h f hf
theorem Qbg0 {l:List Fn}{s:List UInt8}{i:Nat}(hi:i<l.length)(h:l[i].name=s)(hn:∀f∈l.take i,¬f.name=s):Qk7 l s=some i:=by
 rw[Qk7,List.findIdx?_eq_some_iff_getElem];refine⟨hi,by simpa using h,fun j hj=>?_⟩;have:=hn l[j] (by rw[List.mem_take_iff_getElem];exact⟨j,by omega,rfl⟩);simpa using this
theorem Qbo8 {f:Fn}{s:List UInt8}(hK:K (.c (.bool (decide (f.name=s)))) H):Qj prog Qg3 [.ag f.cells,.c (.pp [.str s])] H K:=by
 refine Qb Qad Qa1m ?_;refine Qa ?_;simp only[go_sem,Fn.cells];refine Qa ?_;simp only[go_sem];refine Qi ?_;simp only[go_sem,Qq,Q7,Q6y,Ja,forall_eq,RS.op];exact hK
theorem Qaxo {fl:Bool}{l:List Fn}{s:List UInt8}(hK:K (.c (.int .i64 (ixI (Qk7 l s)))) H) :
  Qj prog Qcm [.c (.sl fl 3 (Q3 l)),.c (.fn Qg3 [.pp [.str s]])] H K:=by
 refine Qb Qad Qq3 ?_;refine Qa ?_;simp only[go_sem];refine Q5 ?_;refine Qa ?_;simp only[go_sem,Qx];intro hl;simp only[LIM]at hl;refine Qg (Qe (Q2 (fun m e1 H1=>∃(i:Nat),m=l.length-i∧i≤l.length∧H1=H∧(∀f∈l.take i,¬f.name=s)∧e1=[(0,.c (.sl fl 3 (Q3 l))),(1,.c (.fn Qg3 [.pp [.str s]])),(7,.c (.int .i64 l.length)),(8,.c (.int .i64 i))]) l.length ?_ ?_))
 ·exact⟨0,by omega,by omega,rfl,by simp,rfl⟩
 ·rintro m e1 H1 ⟨i,hm,hi,rfl,hall,rfl⟩;refine Qa ?_;simp only[go_sem];refine Qg (Qc rfl ?_ ?_)
  ·intro hc;have hlt:i<l.length:=by simpa using hc
   refine Qf ?_;simp only[go_sem];refine Qg (Qe ?_);refine Qa ?_;simp only[go_sem];refine Qa ?_;simp only[go_sem,hlt,Qx,Qat _ _ hlt,Fn.take3,Fn.allOw,Fn.cells_len];refine Qbo8 ?_;refine Qc rfl ?_ ?_
   ·intro hc2;have hn:l[i].name=s:=(by simpa using hc2);refine Qa ?_;simp only[go_sem];refine Qi ?_;simp only[go_sem,X.next,Qq,Q7,Qpr,Ja,forall_eq,RS.op];rw[Qbg0 hlt hn hall]at hK;exact hK
   ·intro hc2;have hn:¬l[i].name=s:=(by simpa using hc2);refine Qf ?_;simp only[go_sem];refine Qp ?_;simp only[go_sem,X.next];refine⟨Qm (by omega) (by omega),l.length-(i+1),by omega,i+1,rfl,by omega,?_,rfl⟩;rw[Jd hlt];intro x hx;rcases Jl.1 hx with hx|hx
    ·exact hall x hx
    ·simp only[Ja]at hx;subst hx;exact hn
  ·intro hc;have hge:l.length≤i:=by simpa using hc
   rw[Jb hge]at hall;refine Q1 ?_;simp only[go_sem,X.next];refine Qa ?_;simp only[go_sem];refine Qi ?_;simp only[go_sem,Qq,Q7,Qpr,Ja,forall_eq,RS.op];rw[Qbg1 hall]at hK;exact hK
theorem Qax1 {fl:Bool}{l:List Fn}{s:List UInt8}(hK:K (.c (.int .i64 (ixI (Qk7 l s)))) H):Qj prog Qqu [.ag [.sl fl 3 (Q3 l)],.c (.str s)] H K:=by
 refine Qb Qad Qbhz ?_;refine Qa ?_;simp only[go_sem];refine Qa ?_;simp only[go_sem];refine Qaxo ?_;simp only[go_sem,Qagi];refine Qi ?_;simp only[go_sem,Qq,Q7,Qpr,Ja,forall_eq,RS.op];exact hK
def scC:List Nat→C
 |[]=>.pnil
 |l::r=>.pp [.mp l,scC r]
structure MapOk (val:Nat→Int)(es:List (C×V))(b:List (List UInt8×Nat)):Prop where
 ky:∀e∈es,∃s,e.1=.str s
 fd:∀s,Qg0 (.str s) es=(b.find? fun p=>decide (p.1=s)).map fun p=>V.c (.int .i64 (val p.2))
def ScOk (val:Nat→Int)(H:Heap):List Nat→Vars→Prop
 |[],[]=>True
 |l::ls,b::v=>(∃n es,H l=.map n es∧MapOk val es b)∧ScOk val H ls v
 |_,_=>False
theorem Qbf8 (b:List (List UInt8×Nat))(v:Vars)(s:List UInt8):Vars.find (b::v) s=((b.find? fun p=>decide (p.1=s)).map Prod.snd).or (Vars.find v s):=by
 rw[Vars.find,Vars.find,List.flatten_cons,List.find?_append];cases b.find? fun p=>decide (p.1=s) <;> rfl
def valO (val:Nat→Int):Option Nat→Int
 |none=>0
 |some n=>val n
theorem Q34 {val:Nat→Int}{ls:List Nat}{v:Vars}{s:List UInt8}(h:ScOk val H ls v)(hK:K (.tup [.c (.int .i64 (valO val (v.find s))),.c (.bool (v.find s).isSome)]) H) :
  Qj prog Qbn [.c (scC ls),.c (.str s)] H K:=by
 refine Qb Qad Qalp ?_;have ret:∀(n:Int) (b:Bool) (e:Env),n=valO val (v.find s)→b=(v.find s).isSome→lk 4 e=.c (.int .i64 n)→lk 5 e=.c (.bool b)→Qq Qoc K .ret e H:=by
  rintro n b e rfl rfl h4 h5;simp only[go_sem,Qq,Q7,Qoc,Jx,Jr,RS.op,h4,h5];exact⟨fun _=>trivial,hK⟩
 refine Qa ?_;simp only[go_sem];refine Qg (Qe (Q2 (fun m e1 H1=>∃(ls':List Nat) (v':Vars),m=ls'.length∧H1=H∧ScOk val H ls' v'∧v.find s=v'.find s∧e1=[(0,.c (scC ls')),(1,.c (.str s))]) ls.length ?_ ?_))
 ·exact⟨ls,v,rfl,rfl,h,rfl,rfl⟩
 ·rintro m e1 H1 ⟨ls',v',hm,rfl,hs,hf,rfl⟩;refine Q5 ?_;refine Qa ?_
  cases ls' with
  |nil=>
   cases v' with
   |cons b v'=>exact hs.elim
   |nil=>
    simp only[go_sem,scC,C.isPtr,or_true,true_or,true_and];refine Qg (Qc rfl (fun h=>by cases h) (fun _=>?_));refine Q1 ?_;simp only[go_sem,X.next];refine Qa ?_;simp only[go_sem];refine Qi ?_;exact ret 0 false _ (by rw[hf];rfl) (by rw[hf];rfl) (by simp[lk]) (by simp[lk])
  |cons l r=>
   cases v' with
   |nil=>exact hs.elim
   |cons b v'=>
    obtain⟨⟨n,es,hl,hm2⟩,hs⟩:=hs;have hfd:=hm2.fd s;have hky:=eq_true hm2.ky;rw[Qbf8]at hf;simp only[go_sem,scC,C.isPtr,or_true,true_or,true_and];refine Qg (Qc rfl (fun _=>?_) (fun h=>by cases h));refine Qf ?_;simp only[go_sem];refine Qg (Qe ?_);refine Qa ?_;simp only[go_sem,C.isPtr,Qwn,Qo7,Qaa,hl,hfd,hky,Ji,Jk]
    cases hb:b.find? fun p=>decide (p.1=s)with
    |none=>
     rw[hb]at hf;simp only[Jav,Jah,Option.isSome_none,go_sem];refine Qa ?_;simp only[go_sem];refine Qc rfl (fun h=>by cases h) (fun _=>?_);refine Qf ?_;try simp only[go_sem]
     refine Qp ?_;simp only[go_sem,X.next];have how:(scC r).isOw=false:=(by cases r <;> rfl);refine⟨by rw[how];rfl,r.length,by rw[Jn]at hm;omega,r,v',rfl,hs,?_,rfl⟩;rw[hf];rfl
    |some x=>
     rw[hb]at hf;simp only[Jac,J4,Option.isSome_some,go_sem];refine Qa ?_;simp only[go_sem];refine Qc rfl (fun _=>?_) (fun h=>by cases h);refine Qa ?_;simp only[go_sem];refine Qi ?_;simp only[go_sem,X.next];exact ret (val x.2) true _ (by rw[hf];rfl) (by rw[hf];rfl) (by simp[lk]) (by simp[lk])
theorem Qak0 {c:Nat}{l at':C}{code n:Int}(hH:H c=.st [l,at',.int .i64 code])(hK:∀H',Upd H H' [(c,.st [l,at',.int .i64 (Qc4 code n)])]→K (.tup []) H') :
  Qj prog Qaz [.c (.ptr c 0),.c (.int .i64 n)] H K:=by
 refine Qb Qad Qadk ?_;have kn:=Kn.start1 hH (by nofun);refine Qa ?_;simp only[go_sem,hH];refine Qc rfl (fun hc=>?_) (fun hc=>?_)
 ·have h0:code=0:=by simpa using hc
  refine Qp ?_;simp only[go_sem,hH];intro H1 h1;have kn:=kn.stE 0 rfl h1;simp only[Qq,Q7,Qtn,go_sem];refine hK _ ⟨fun p hp=>?_,fun m h1 h2=>kn.chg m h1 h2⟩;rw[Qc4,if_pos h0]at hp;exact (kn.get p (Jc _ hp)).1
 ·have h0:¬code=0:=by simpa using hc
  refine Qf ?_;simp only[Qq,Q7,Qtn,go_sem];refine hK _ ⟨fun p hp=>?_,fun m h1 h2=>rfl⟩;rw[Qc4,if_neg h0]at hp;simp only[Ja]at hp;rw[hp];exact hH
abbrev ScD:=List (Nat×Nat×List (C×V))
def ScD.ob (sc:ScD):List (Nat×Obj):=sc.map fun x=>(x.1,.map x.2.1 x.2.2)
def ScD.ls (sc:ScD):List Nat:=sc.map Prod.fst
def ScD.ok (val:Nat→Int):ScD→Vars→Prop
 |[],[]=>True
 |x::r,b::v=>MapOk val x.2.2 b∧ScD.ok val r v
 |_,_=>False
theorem ScD.scOk {val:Nat→Int}:∀{sc:ScD} {v:Vars},ScD.ok val sc v→(∀p∈sc.ob,H p.1=p.2)→ScOk val H sc.ls v
 |[],[],_,_=>trivial
 |[],_::_,h,_=>h.elim
 |_::_,[],h,_=>h.elim
 |x::r,b::v,h,hh=>⟨⟨x.2.1,x.2.2,hh (x.1,.map x.2.1 x.2.2) (by simp[ScD.ob]),h.1⟩,ScD.scOk h.2 fun p hp=>hh p (by simp only[ScD.ob,J1,Jh]at hp⊢;exact .inr hp)⟩
def Qu2 (c:Nat)(fl:Bool)(l:List Fn)(k:Nat)(sc:ScD)(code:Int):List (Nat×Obj):=(c,.st [.sl fl 3 (Q3 l),.int .i64 k,.int .i64 code])::sc.ob
theorem Qbln {c:Nat}{fl:Bool}{l:List Fn}{k:Nat}{sc:ScD}{v:Vars}{val:Nat→Int}{code:Int}{p:Ex}(hk:k≤l.length)(hn:((c::sc.ls)).Nodup)(hs:ScD.ok val sc v)
  (hh:∀q∈Qu2 c fl l k sc code,H q.1=q.2) (hK:∀H',Upd H H' (Qu2 c fl l k sc (Qc4 code (Qhi l k v p)))→K (.tup []) H') :
  Qj prog Qci [.ag p.cells,.c (.pp [scC sc.ls]),.c (.pp [.ptr c 0])] H K:=by
 have hsc:=ScD.scOk hs fun q hq=>hh q (Jg _ hq);have hc:H c=.st [.sl fl 3 (Q3 l),.int .i64 k,.int .i64 code]:=hh (c,_) (by simp[Qu2]);have how:(scC sc.ls).isOw=false:=by cases sc.ls <;> rfl
 have keep:∀H',Upd H H' [(c,.st [.sl fl 3 (Q3 l),.int .i64 k,.int .i64 (Qc4 code (Qhi l k v p))])]→K (.tup []) H':=by
  intro H' hu;refine hK _ ⟨fun q hq=>?_,fun m h1 h2=>?_⟩
  ·rcases Jh.1 hq with rfl|hq
   ·exact hu.1 _ (by simp)
   ·have h1:=hh q (Jg _ hq);rw[hu.2 q.1 (by rw[h1];obtain⟨x,_,rfl⟩:=Jm.1 hq;nofun) ?_,h1];simp only[J1,Jap,Ja];intro e;have hm:q.1∈sc.ls:=by
     obtain⟨x,hx,rfl⟩:=Jm.1 hq;exact Jm.2 ⟨x,hx,rfl⟩
    rw[e]at hm;exact (Jal.1 hn).1 hm
  ·refine hu.2 m h1 ?_;simp only[J1,Jap,Ja];intro e;exact h2 (by rw[e];simp[Qu2])
 have same:Qhi l k v p=0→K (.tup []) H:=by
  intro h0;refine keep H ⟨fun q hq=>?_,fun m h1 h2=>rfl⟩;simp only[Ja]at hq;rw[hq,h0,hc,Qc4];by_cases hz:code=0
  ·rw[if_pos hz,hz]
  ·rw[if_neg hz]
 refine Qb Qad Q4d ?_;refine Qa ?_;simp only[go_sem,p.cells_eq];refine Qa ?_;simp only[go_sem,how];refine Qe ?_;refine Qa ?_;simp only[go_sem,how];have done:∀(H':Heap) (e:Env),K (.tup []) H'→Qq Qtn K .nrm e H':=by
  intro H' e h;simp only[Qq,Q7,Qtn,go_sem];exact h
 refine Qc rfl ?_ ?_
 ·intro hc2;have h2:p.op=2:=by simpa using hc2
  have hpc:Qhi l k v p=if (v.find p.name).isSome then 0 else 3:=by rw[Qhi,if_pos h2]
  refine Qa ?_;simp only[go_sem,how];refine Q34 hsc ?_;simp only[go_sem,Qhr,Ji,Jk];refine Qa ?_;simp only[go_sem];refine Qc rfl ?_ ?_
  ·intro hc3;have hf:(v.find p.name).isSome=false:=by simpa using hc3
   rw[hf]at hpc;refine Qp ?_;simp only[go_sem];refine Qak0 hc fun H' hu=>?_;simp only[go_sem,X.next];rw[hpc]at keep;exact done _ _ (keep _ hu)
  ·intro hc3;have hf:(v.find p.name).isSome=true:=by simpa using hc3
   rw[hf]at hpc;refine Qf ?_;simp only[go_sem,X.next];exact done _ _ (same (by rw[hpc];rfl))
 intro hc2;have h2:¬p.op=2:=by simpa using hc2
 refine Qa ?_;simp only[go_sem,how];refine Qc rfl ?_ ?_
 ·intro hc3;have h3:p.op=13:=by simpa using hc3
  refine Qaf ?_;simp only[go_sem,hc,Qx];refine⟨⟨by omega,by omega⟩,?_⟩;have etk:List.take k (Q3 l)=Q3 (l.take k):=by simp only[Q3,List.map_take]
  rw[etk];refine Qax1 ?_;simp only[go_sem,Qhs];refine Qa ?_;simp only[go_sem]
  cases hx:Qk7 (l.take k) p.name with
  |none=>
   have hpc:Qhi l k v p=4:=by rw[Qhi,if_neg h2,if_pos h3,hx]
   rw[hpc]at keep;refine Qc rfl (fun _=>?_) (fun h=>by simp[ixI]at h);refine Qp ?_;simp only[go_sem];refine Qak0 hc fun H' hu=>?_;simp only[go_sem,X.next];exact done _ _ (keep _ hu)
  |some j=>
   have hj:j<l.length:=by
    rw[Qk7,List.findIdx?_eq_some_iff_getElem]at hx;obtain⟨h,_⟩:=hx;rw[Jz]at h;omega
   have hpc:Qhi l k v p=if (l[j]).params.length=p.kids.length then 0 else 5:=by rw[Qhi,if_neg h2,if_pos h3,hx];simp[hj]
   refine Qc rfl (fun h=>by have:=of_decide_eq_true h;simp only[ixI]at this;omega) (fun _=>?_);refine Qaf ?_;simp only[go_sem,hc,ixI,hj,Qx,Qat _ _ hj,Fn.cells,Qo,Ql];refine Qc rfl ?_ ?_
   ·intro hc4;have hne:¬l[j].params.length=p.kids.length:=by
     have h:=Qk9 hc4;rw[decide_eq_false_iff_not]at h;omega
    rw[if_neg hne]at hpc;rw[hpc]at keep;refine Qp ?_;simp only[go_sem];refine Qak0 hc fun H' hu=>?_;simp only[go_sem,X.next];exact done _ _ (keep _ hu)
   ·intro hc4;have he:l[j].params.length=p.kids.length:=by
     have h:=Qeh hc4;rw[decide_eq_true_eq]at h;omega
    rw[if_pos he]at hpc;refine Qf ?_;simp only[go_sem,X.next];exact done _ _ (same hpc)
 ·intro hc3;have h3:¬p.op=13:=by simpa using hc3
  refine Qf ?_;simp only[go_sem,X.next];exact done _ _ (same (by rw[Qhi,if_neg h2,if_neg h3]))
theorem Qbt0 {c:Nat}{fl:Bool}{l:List Fn}{k:Nat}{sc:ScD}{v:Vars}{val:Nat→Int}(hk:k≤l.length)(hn:((c::sc.ls)).Nodup)(hs:ScD.ok val sc v) :
  ExVis (Qu2 c fl l k sc) (fun code p=>Qc4 code (Qhi l k v p)) (fun _=>True) Qci [.pp [scC sc.ls],.pp [.ptr c 0]]:=by
 refine⟨fun _ _=>rfl,fun a=>?_,fun a p hp=>?_,fun _ _ h=>h,fun a s H K _ _ hh hK=>Qbln hk hn hs hh hK⟩
 ·have e:(Qu2 c fl l k sc a).map Prod.fst=c::sc.ls:=by simp only[Qu2,ScD.ob,ScD.ls,J1,Jay];rfl
  rw[e];exact hn
 ·rcases Jh.1 hp with rfl|hp
  ·nofun
  ·obtain⟨x,_,rfl⟩:=Jm.1 hp;nofun
theorem Qbk9 {c:Nat}{fl:Bool}{l:List Fn}{k:Nat}{sc:ScD}{v:Vars}{val:Nat→Int}{code:Int}{x:Ex}(hk:k≤l.length)(hn:((c::sc.ls)).Nodup)(hs:ScD.ok val sc v)(hx:x.size≤2^40)
  (hh:∀q∈Qu2 c fl l k sc code,H q.1=q.2) (hK:∀H',Upd H H' (Qu2 c fl l k sc (Qbk l k v x.pre code))→K (.tup []) H') :
  Qj prog Qg6 [.c (.ptr c 0),.ag x.cells,.c (scC sc.ls)] H K:=by
 have how:(scC sc.ls).isOw=false:=by cases sc.ls <;> rfl
 refine Qb Qad Qadj ?_;refine Qa ?_;simp only[go_sem,x.cells_eq,how];refine Qp ?_;simp only[go_sem,how];have h:=fun K=>Qbha (Qbt0 (fl:=fl) hk hn hs) x.size x code H K;rw[x.cells_eq]at h;refine h _ (Jt _) hx trivial hh fun H' hu=>?_;simp only[Qq,Q7,Qtn,go_sem];exact hK _ hu
end Go.AE.Y
namespace Go.AE.Y
theorem Qak2 (s t:List UInt8)(v:V):∀(es:List (C×V)),(∀e∈es,∃s,e.1=.str s)→Qg0 (.str t) (Q7w (.str s) v es)=if s=t then some v else Qg0 (.str t) es
 |[],_=>by
  simp only[Q7w,Qg0,Qhh];by_cases h:s=t
  ·subst h;simp
  ·have h':¬t=s:=fun e=>h e.symm;simp[h,h']
 |e::es,hk=>by
  obtain⟨k,hk1⟩:=hk e (by simp);obtain⟨e1,e2⟩:=e;simp only at hk1;subst hk1;have ih:=Qak2 s t v es fun x hx=>hk x (Jg _ hx);simp only[Q7w,Qhh];by_cases h:s=k
  ·subst h;simp only[decide_true,if_true,Qg0,Qhh];by_cases h2:s=t
   ·subst h2;simp
   ·have h':¬t=s:=fun e=>h2 e.symm;simp[h2,h']
  ·simp only[h,decide_false,Bool.false_eq_true,if_false,Qg0,Qhh];rw[ih];by_cases h2:t=k
   ·subst h2;simp[h]
   ·simp[h2]
theorem Qary (s:List UInt8)(v:V):∀(es:List (C×V)),(∀e∈es,∃s,e.1=.str s)→∀e∈Q7w (.str s) v es,∃s,e.1=.str s
 |[],_,e,he=>by simp only[Q7w,Ja]at he;subst he;exact⟨s,rfl⟩
 |x::es,hk,e,he=>by
  simp only[Q7w]at he;split at he
  ·rcases Jh.1 he with rfl|he
   ·exact⟨s,rfl⟩
   ·exact hk e (Jg _ he)
  ·rcases Jh.1 he with rfl|he
   ·exact hk _ (by simp)
   ·exact Qary s v es (fun y hy=>hk y (Jg _ hy)) e he
theorem MapOk.put {val:Nat→Int}{es:List (C×V)}{b:List (List UInt8×Nat)}(h:MapOk val es b)(s:List UInt8)(n:Nat):MapOk val (Q7w (.str s) (.c (.int .i64 (val n))) es) ((s,n)::b):=by
 refine⟨Qary s _ es h.ky,fun t=>?_⟩;rw[Qak2 s t _ es h.ky,List.find?_cons];by_cases e:s=t
 ·subst e;simp
 ·simp[e,h.fd t]
theorem MapOk.nil (val:Nat→Int):MapOk val [] []:=⟨by simp,fun s=>rfl⟩
attribute [local go_sem] cond_true cond_false Bool.not_true Bool.not_false
open Go.Proofs.Tryz
variable {H H0:Heap}{K:V→Heap→Prop}{E E' L:List (Nat×Obj)}
theorem Qp2 {sc:C}(how:sc.isOw=false)(hK:∀lm n H',H lm=.none→H'=H.set lm (.map n [])→K (.c (.pp [.mp lm,sc])) H'):Qj prog Qam [.c sc] H K:=by
 refine Qb Qad Qalq ?_;refine Qa ?_;simp only[go_sem];refine Qa ?_;simp only[go_sem];intro lm hlm H1 h1;simp only[go_sem,Qpx,how];refine Qi ?_;simp only[go_sem,Qq,Q7,Qfh,Ja,forall_eq,RS.op,how];exact hK lm _ H1 hlm h1
theorem Qadw (fns:List Fn)(k:Nat)(v:Vars)(a b:List Ex)(c:Int):Qbk fns k v (a++b) c=Qbk fns k v b (Qbk fns k v a c):=by rw[Qbk,List.foldl_append];rfl
theorem Qbgm (c:Nat)(fl:Bool)(l:List Fn)(k:Nat)(sc:ScD)(x y:Int):(Qu2 c fl l k sc x).map Prod.fst=(Qu2 c fl l k sc y).map Prod.fst:=rfl
theorem Qa5v (c:Nat)(fl:Bool)(l:List Fn)(k:Nat)(sc:ScD)(x:Int):∀p∈Qu2 c fl l k sc x,p.2≠.none:=by
 intro p hp;rcases Jh.1 hp with rfl|hp
 ·nofun
 ·obtain⟨x,_,rfl⟩:=Jm.1 hp;nofun
theorem Qbk8 {c x7 N i:Nat}{fl f5:Bool}{l:List Fn}{k:Nat}{sc:ScD}{v:Vars}{val:Nat→Int}{code:Int}{x:St}{sts:List St}{L:List (Nat×Obj)}{Q:X→Env→Heap→Prop}
  (hk:k≤l.length) (hn:((c::sc.ls)).Nodup) (hs:ScD.ok val sc v) (hx:x.size≤2^40)
  (kn:Kn H0 H (Qu2 c fl l k sc code) [(x7,.st [.int .i64 x.op,.str x.name,.sl false 4 (Qw x.args),.sl false 5 (Qk x.body),.sl false 5 (Qk x.els)])])
  (hQ:∀H',Kn H0 H' (Qu2 c fl l k sc (Qbk l k v (Qac x.args) code)) [(x7,.st [.int .i64 x.op,.str x.name,.sl false 4 (Qw x.args),.sl false 5 (Qk x.body),.sl false 5 (Qk x.els)])]→
   ∀e',lk 0 e'=.c (.ptr c 0)→lk 2 e'=.c (scC sc.ls)→lk 7 e'=.c (.ptr x7 0)→lk 14 e'=.c (.sl f5 5 (Qk sts))→lk 15 e'=.c (.int .i64 N)→lk 16 e'=.c (.int .i64 i)→Q8 prog Qen Q e' H') :
  Q8 prog Qkd Q [(0,.c (.ptr c 0)),(2,.c (scC sc.ls)),(7,.c (.ptr x7 0)),(14,.c (.sl f5 5 (Qk sts))),(15,.c (.int .i64 N)),(16,.c (.int .i64 i))] H:=by
 have how:(scC sc.ls).isOw=false:=by cases sc.ls <;> rfl
 have hse:=x.size_eq;have g7:=kn.l 0 rfl;refine Q5 ?_;refine Qa ?_;simp only[go_sem,g7,how,Ql];intro hl;simp only[LIM]at hl;refine Qg (Qe (Q2 (fun m e1 H1=>∃(j:Nat),m=x.args.length-j∧j≤x.args.length∧Kn H0 H1 (Qu2 c fl l k sc (Qbk l k v (Qac (x.args.take j)) code)) [(x7,.st [.int .i64 x.op,.str x.name,.sl false 4 (Qw x.args),.sl false 5 (Qk x.body),.sl false 5 (Qk x.els)])]∧
  e1=[(0,.c (.ptr c 0)),(2,.c (scC sc.ls)),(7,.c (.ptr x7 0)),(14,.c (.sl f5 5 (Qk sts))),(15,.c (.int .i64 N)),(16,.c (.int .i64 i)),(21,.c (.sl false 4 (Qw x.args))),(22,.c (.int .i64 x.args.length)),(23,.c (.int .i64 j))]) x.args.length ?_ ?_))
 ·exact⟨0,by omega,by omega,by simpa[Qac,Qbk]using kn,rfl⟩
 ·clear kn;rintro m e1 H1 ⟨j,hm,hj,kn,rfl⟩;refine Qa ?_;simp only[go_sem,how];refine Qg (Qc rfl ?_ ?_)
  ·intro hc;have hlt:j<x.args.length:=by simpa using hc
   have hms:=Qar (Je hlt);obtain⟨y,hy⟩:∃y,x.args[j]=y:=⟨_,rfl⟩;have htk:=Qs0 hlt;rw[hy]at hms htk;refine Qf ?_;try simp only[go_sem]
   refine Qg (Qe ?_);refine Qa ?_;simp only[go_sem,how,hlt,Ql,Qaq _ _ hlt,hy,y.cells_eq];intro x9 hx9 H3 h3;have kn:=kn.al hx9 h3;have g9:=kn.l 1 rfl;simp only[go_sem,Qkg,g9,how];intro H4 h4;have kn:=kn.stL 1 rfl h4;have g9:=kn.l 1 rfl;refine Qp ?_;simp only[go_sem,g9,how];have h:=fun K=>Qbk9 (H:=H4) (K:=K) (fl:=fl) (x:=y) (code:=Qbk l k v (Qac (x.args.take j)) code) hk hn hs (by omega) (fun p hp=>(kn.get p (Jc _ hp)).1);rw[y.cells_eq]at h;refine h _ fun H5 hu=>?_;have kn:=Kn.drop (A:=[(x7,_)]) (kn.callAll hu (Qbgm _ _ _ _ _ _ _) (Qa5v _ _ _ _ _ _));simp only[go_sem,how];refine Qp ?_;simp only[go_sem,AE.X.next,how];refine⟨Qm (by omega) (by omega),x.args.length-(j+1),by omega,j+1,rfl,by omega,?_,rfl⟩;rw[htk,Qadw];exact kn
  ·intro hc;have hge:x.args.length≤j:=by simpa using hc
   rw[Jb hge]at kn;refine Q1 ?_;simp only[go_sem,AE.X.next];exact hQ _ kn _ rfl rfl rfl rfl rfl rfl
def Qarw (op:Int)(name:List UInt8)(x:Nat×Nat×List (C×V)):Nat×Nat×List (C×V):=if op=1 then (x.1,x.2.1+1,Q7w (.str name) (.c (.int .i64 0)) x.2.2)else x
def opC (v:Vars)(op:Int)(name:List UInt8)(c:Int):Int:=if op=1 then Qc4 c (if Qfv v name then 2 else 0)else if op=2 then Qc4 c (if (v.find name).isSome then 0 else 3)else c
theorem Qax0 (c:Int):Qc4 c 0=c:=by rw[Qc4];split <;> simp_all
theorem Qbaw {val:Nat→Int}{es:List (C×V)}{b:List (List UInt8×Nat)}(h:MapOk val es b)(r:Vars)(s:List UInt8):(Qg0 (.str s) es).isSome=Qfv (b::r) s:=by
 rw[h.fd s,Qfv,Option.isSome_map,List.headD_cons,Ju,List.find?_isSome,J3]
theorem Qaxr (c:Nat)(fl:Bool)(l:List Fn)(k:Nat)(sc:ScD)(x:Int):(Qu2 c fl l k sc x).map Prod.fst=c::sc.ls:=by simp only[Qu2,ScD.ob,ScD.ls,J1,Jay];rfl
theorem Qbo6 (l:List Fn)(k:Nat)(op:Int)(name:List UInt8)(args:List Ex)(s:Ck):(stC l k op name args s).c=opC s.v op name (Qbk l k s.v (Qac args) s.c):=by
 simp only[stC,opC];split
 ·rfl
 ·split <;> rfl
theorem Qbop {es:List (C×V)}{b:List (List UInt8×Nat)}{r:Vars}(h:MapOk (fun _=>0) es b)(l:List Fn)(k:Nat)(op:Int)(name:List UInt8)(args:List Ex)(s:Ck)(hv:s.v=b::r)(l0 n0:Nat) :
  ∃b',(stC l k op name args s).v=b'::r∧MapOk (fun _=>0) (Qarw op name (l0,n0,es)).2.2 b':=by
 simp only[stC,Qarw];split
 ·exact⟨(name,s.n)::b,by simp[Qaj,hv],h.put name s.n⟩
 ·split
  ·exact⟨b,hv,h⟩
  ·exact⟨b,hv,h⟩
theorem Qbkt (op:Int)(name:List UInt8)(l0 n0:Nat)(es:List (C×V)):(Qarw op name (l0,n0,es)).2.2.length≤es.length+1:=by
 have hu:∀(es:List (C×V)),(Q7w (.str name) (.c (.int .i64 0)) es).length≤es.length+1:=by
  intro es
  induction es with
  |nil=>simp[Q7w]
  |cons e es ih=>
   simp only[Q7w];split
   ·simp
   ·simp only[Jn];omega
 simp only[Qarw];split
 ·exact hu es
 ·exact Nat.le_succ _
abbrev stO (x:St):Obj:=.st [.int .i64 x.op,.str x.name,.sl false 4 (Qw x.args),.sl false 5 (Qk x.body),.sl false 5 (Qk x.els)]
theorem Qbpl {c x7 N i l0 n0:Nat}{fl f5:Bool}{l:List Fn}{k:Nat}{es0:List (C×V)}{rest:ScD}{b:List (List UInt8×Nat)}{r:Vars}{code:Int}{x:St}{sts:List St}{Q:X→Env→Heap→Prop}{e:Env}
  (hn:(c::l0::rest.ls).Nodup) (hs:ScD.ok (fun _=>0) ((l0,n0,es0)::rest) (b::r)) (hlen:es0.length+1≤LIM)
  (kn:Kn H0 H (Qu2 c fl l k ((l0,n0,es0)::rest) code) [(x7,stO x)])
  (f0:lk 0 e=.c (.ptr c 0)) (f2:lk 2 e=.c (scC (l0::rest.ls))) (f7:lk 7 e=.c (.ptr x7 0)) (f14:lk 14 e=.c (.sl f5 5 (Qk sts))) (f15:lk 15 e=.c (.int .i64 N)) (f16:lk 16 e=.c (.int .i64 i))
  (hQ:∀H',Kn H0 H' (Qu2 c fl l k (Qarw x.op x.name (l0,n0,es0)::rest) (opC (b::r) x.op x.name code)) [(x7,stO x)]→
   ∀e',lk 0 e'=.c (.ptr c 0)→lk 2 e'=.c (scC (l0::rest.ls))→lk 7 e'=.c (.ptr x7 0)→lk 14 e'=.c (.sl f5 5 (Qk sts))→lk 15 e'=.c (.int .i64 N)→lk 16 e'=.c (.int .i64 i)→Q8 prog Qem Q e' H') :
  Q8 prog Qen Q e H:=by
 have how:(scC (l0::rest.ls)).isOw=false:=rfl;have how2:(scC rest.ls).isOw=false:=by cases rest.ls <;> rfl
 have hm:=hs.1;have hky:=eq_true hm.ky;have hv:(Qg0 (.str x.name) es0).getD (.c (.int .i64 0))=.c (.int .i64 0):=by
  rw[hm.fd];cases b.find? fun p=>decide (p.1=x.name) <;> rfl
 have hin:=Qbaw hm r x.name;have g7:=kn.l 0 rfl;have gc:=kn.e 0 rfl;have g1:=kn.e 1 rfl;refine Q5 ?_;refine Qa ?_;simp only[go_sem,f0,f2,f7,f14,f15,f16,g7,how];refine Qg (Qe ?_);refine Qa ?_;simp only[go_sem,how];refine Qc rfl ?_ ?_
 ·intro hc;have h1:x.op=1:=by simpa using hc
  have eT:Qarw x.op x.name (l0,n0,es0)=(l0,n0+1,Q7w (.str x.name) (.c (.int .i64 0)) es0):=by simp only[Qarw,if_pos h1]
  have eC:opC (b::r) x.op x.name code=Qc4 code (if Qfv (b::r) x.name then 2 else 0):=by simp only[opC,if_pos h1]
  rw[eT,eC]at hQ;have tail:∀(H1:Heap) (e1:Env),Kn H0 H1 (Qu2 c fl l k ((l0,n0,es0)::rest) (Qc4 code (if Qfv (b::r) x.name then 2 else 0))) [(x7,stO x)]→
    lk 0 e1=.c (.ptr c 0)→lk 2 e1=.c (.pp [.mp l0,scC rest.ls])→lk 7 e1=.c (.ptr x7 0)→lk 14 e1=.c (.sl f5 5 (Qk sts))→lk 15 e1=.c (.int .i64 N)→lk 16 e1=.c (.int .i64 i)→
    Q8 prog Ql9 (X.inBlock 4 (X.sq prog Qem Q)) e1 H1:=by
   intro H1 e1 kn a0 a2 a7 a14 a15 a16;have g7:=kn.l 0 rfl;have g1:=kn.e 1 rfl;refine Qe8 ?_;simp only[go_sem,a0,a2,a7,a14,a15,a16,g7,g1,Qo7,hky,how2];refine⟨by omega,?_⟩;intro H2 h2;have kn:Kn H0 H2 (Qu2 c fl l k ((l0,n0+1,Q7w (.str x.name) (.c (.int .i64 0)) es0)::rest) (Qc4 code (if Qfv (b::r) x.name then 2 else 0))) [(x7,stO x)]:=kn.stE 1 rfl h2;try simp only[go_sem,X.next,how2]
   exact hQ _ kn _ rfl rfl rfl rfl rfl rfl
  refine Q5 ?_;refine Qaf ?_;simp only[go_sem,scC,g7,g1,Qwn,Qo7,Qaa,hky,hv,hin,how2,Ji,Jk];refine Qg ?_;refine Qa ?_;simp only[go_sem,how2];refine Qc rfl ?_ ?_
  ·intro hc2;have hi:Qfv (b::r) x.name=true:=by simpa using hc2
   rw[hi]at tail;refine Qp ?_;simp only[go_sem,how2];refine Qak0 gc fun H2 hu=>?_;have kn:=kn.callE 0 rfl hu (by nofun);simp only[go_sem,X.next,how2];exact tail _ _ kn rfl rfl rfl rfl rfl rfl
  ·intro hc2;have hi:Qfv (b::r) x.name=false:=by simpa using hc2
   rw[hi]at tail;refine Qf ?_;simp only[go_sem,X.next,how2];refine tail _ _ ?_ rfl rfl rfl rfl rfl rfl;have:Qc4 code (if false=true then 2 else 0)=code:=Qax0 code;rw[this];exact kn
 intro hc;have h1:¬x.op=1:=by simpa using hc
 have eT:Qarw x.op x.name (l0,n0,es0)=(l0,n0,es0):=by simp only[Qarw,if_neg h1]
 rw[eT]at hQ;refine Qa ?_;simp only[go_sem,how];refine Qc rfl ?_ ?_
 ·intro hc2;have h2:x.op=2:=by simpa using hc2
  have eC:opC (b::r) x.op x.name code=Qc4 code (if (Vars.find (b::r) x.name).isSome then 0 else 3):=by simp only[opC,if_neg h1,if_pos h2]
  rw[eC]at hQ;refine Qa ?_;simp only[go_sem,g7,how];refine Q34 (ScD.scOk hs fun q hq=>(kn.get q (Jc _ (Jg _ hq))).1) ?_;simp only[go_sem,Qkh,Ji,Jk,how];refine Qa ?_;simp only[go_sem,how];refine Qc rfl ?_ ?_
  ·intro hc3;have hf:(Vars.find (b::r) x.name).isSome=false:=by simpa using hc3
   rw[hf]at hQ;refine Qp ?_;simp only[go_sem,how];refine Qak0 gc fun H2 hu=>?_;have kn:=kn.callE 0 rfl hu (by nofun);simp only[go_sem,X.next,how];exact hQ _ kn _ rfl rfl rfl rfl rfl rfl
  ·intro hc3;have hf:(Vars.find (b::r) x.name).isSome=true:=by simpa using hc3
   rw[hf]at hQ;refine Qf ?_;simp only[go_sem,X.next,how];refine hQ _ ?_ _ rfl rfl rfl rfl rfl rfl;have:Qc4 code (if true=true then 0 else 3)=code:=Qax0 code;rw[this];exact kn
 ·intro hc2;have h2:¬x.op=2:=by simpa using hc2
  have eC:opC (b::r) x.op x.name code=code:=by simp only[opC,if_neg h1,if_neg h2]
  rw[eC]at hQ;refine Qf ?_;simp only[go_sem,X.next,how];exact hQ _ kn _ rfl rfl rfl rfl rfl rfl
theorem Qboz {c lm n1 n2:Nat}{es1 es2:List (C×V)}{fl:Bool}{l:List Fn}{k:Nat}{sc:ScD}{x y:Int}{p:Nat×Obj}{H':Heap}
  (kn:Kn H0 H (Qu2 c fl l k sc x) [p,(lm,.map n1 es1)]) (hu:Upd H H' (Qu2 c fl l k ((lm,n2,es2)::sc) y)):Kn H0 H' (Qu2 c fl l k sc y) [p]:=by
 refine Kn.drop (A:=[p]) (B:=[(lm,.map n2 es2)]) ?_;have hlm:lm∉(Qu2 c fl l k sc x).map Prod.fst:=fun h=>by
  obtain⟨q,hq,e⟩:=Jm.1 h;exact kn.ext q hq (by rw[e];exact kn.free 1 rfl)
 have hp:p.1≠lm:=kn.neL 0 1 (l:=p.1) (o:=p.2) rfl rfl (by omega);have hpE:p.1∉(Qu2 c fl l k sc x).map Prod.fst:=fun h=>by
  obtain⟨q,hq,e⟩:=Jm.1 h;exact kn.ext q hq (by rw[e];exact kn.loc p (by simp))
 refine kn.callg (E2:=Qu2 c fl l k sc y) (L2:=[p,(lm,.map n2 es2)]) hu (Qbgm _ _ _ _ _ _ _) rfl (fun q hq=>?_) (fun u hu=>?_)
 ·rcases Jl.1 hq with hq|hq
  ·refine⟨Qa5v _ _ _ _ _ _ q hq,.inl ?_⟩;rcases Jh.1 hq with rfl|hq
   ·exact Js
   ·exact Jg _ (Jg _ hq)
  ·rcases Jh.1 hq with rfl|hq
   ·refine⟨(kn.get q (by simp)).2,.inr ⟨by simp,?_⟩⟩;rw[Qaxr]at hpE⊢;simp only[ScD.ls,J1,Jh,not_or]at hpE⊢;exact⟨hpE.1,hp,hpE.2⟩
   ·simp only[Ja]at hq;subst hq;exact⟨by nofun,.inl (Jg _ Js)⟩
 ·rcases Jh.1 hu with rfl|hu
  ·exact .inl Js
  ·rcases Jh.1 hu with rfl|hu
   ·exact .inr (by simp)
   ·exact .inl (Jg _ (List.mem_map_of_mem (f:=Prod.fst) hu))
theorem Qbov {c lm n1:Nat}{fl:Bool}{l:List Fn}{k:Nat}{sc:ScD}{x:Int}{p:Nat×Obj}
  (kn:Kn H0 H (Qu2 c fl l k sc x) [p,(lm,.map n1 [])]):∀q∈Qu2 c fl l k ((lm,n1,[])::sc) x,H q.1=q.2:=by
 intro q hq;rcases Jh.1 hq with rfl|hq
 ·exact kn.e 0 rfl
 ·rcases Jh.1 hq with rfl|hq
  ·exact kn.l 1 rfl
  ·exact (kn.get q (Jc _ (Jg _ hq))).1
theorem Qbow {c lm n1:Nat}{fl:Bool}{l:List Fn}{k:Nat}{sc:ScD}{x:Int}{p:Nat×Obj}
  (kn:Kn H0 H (Qu2 c fl l k sc x) [p,(lm,.map n1 [])]):(c::lm::sc.ls).Nodup:=by
 have hlm:lm∉(Qu2 c fl l k sc x).map Prod.fst:=fun h=>by
  obtain⟨q,hq,e⟩:=Jm.1 h;exact kn.ext q hq (by rw[e];exact kn.free 1 rfl)
 have hd:=kn.dE;rw[Qaxr]at hd hlm;simp only[Jal,Jh,not_or]at hd hlm⊢;exact⟨⟨fun e=>hlm.1 e.symm,hd.1⟩,hlm.2,hd.2⟩
theorem Qbog {x:St}{d:Int}(h:x.form d=true):Qan x.body (d-1)=true∧Qan x.els (d-1)=true∧(¬(x.op=5∨x.op=6)→x.body=[]∧x.els=[]):=by
 rw[x.form_eq,Q7u]at h;simp only[Jq,Jaj,decide_eq_true_eq]at h;obtain⟨⟨⟨_,⟨⟨_,h5⟩,h6⟩⟩,hb⟩,he⟩:=h;refine⟨hb,he,fun hn=>⟨List.eq_nil_of_length_eq_zero ?_,List.eq_nil_of_length_eq_zero ?_⟩⟩
 ·rcases h6 with h6|h6
  ·exact (hn h6).elim
  ·exact h6
 ·rcases h5 with h5|h5
  ·exact (hn (.inl h5)).elim
  ·exact h5
theorem Qbgl {c:Nat}{fl:Bool}{l:List Fn}{k:Nat}(hk:k≤l.length):∀(n:Nat) (sts:List St) (d:Int) (f5:Bool) (l0 n0:Nat) (es0:List (C×V)) (rest:ScD) (b:List (List UInt8×Nat)) (r:Vars) (s:Ck) (H:Heap) (K:V→Heap→Prop),
  Qh sts≤n→Qh sts≤2^38→Qan sts d=true→(c::l0::rest.ls).Nodup→s.v=b::r→ScD.ok (fun _=>0) ((l0,n0,es0)::rest) (b::r)→es0.length+sts.length≤LIM→
  (∀q∈Qu2 c fl l k ((l0,n0,es0)::rest) s.c,H q.1=q.2)→
  (∀H' n' es' b',(Qau l k sts s).v=b'::r→MapOk (fun _=>0) es' b'→Upd H H' (Qu2 c fl l k ((l0,n',es')::rest) (Qau l k sts s).c)→K (.tup []) H')→
  Qj prog Qcb [.c (.ptr c 0),.c (.sl f5 5 (Qk sts)),.c (scC (l0::rest.ls))] H K:=by
 intro n
 induction n using Nat.strongRecOn with
 |_ n ih=>
 intro sts d f5 l0 n0 es0 rest b r s H K hn hb hf hnd hsv hsc hle hh hK;have how:(scC (l0::rest.ls)).isOw=false:=rfl;rw[Qaas,Jy]at hf;refine Qn ?_;refine Qb Qad Qaa9 ?_;refine Qa ?_;simp only[go_sem,how,Qv];intro hl;simp only[LIM]at hl hle;have kn:Kn H H (Qu2 c fl l k ((l0,n0,es0)::rest) s.c) []:=.startE (fun p hp=>⟨hh p hp,Qa5v _ _ _ _ _ _ p hp⟩) (by rw[Qaxr];exact hnd);refine Qe (Q2 (fun m e1 H1=>∃(i n':Nat) (es':List (C×V)) (bi:List (List UInt8×Nat)),m=sts.length-i∧i≤sts.length∧(Qau l k (sts.take i) s).v=bi::r∧MapOk (fun _=>0) es' bi∧es'.length≤es0.length+i∧
  Kn H H1 (Qu2 c fl l k ((l0,n',es')::rest) (Qau l k (sts.take i) s).c) []∧
  e1=[(0,.c (.ptr c 0)),(2,.c (scC (l0::rest.ls))),(14,.c (.sl f5 5 (Qk sts))),(15,.c (.int .i64 sts.length)),(16,.c (.int .i64 i))]) sts.length ?_ ?_)
 ·exact⟨0,n0,es0,b,by omega,by omega,by simpa[Qau]using hsv,hsc.1,by omega,by simpa[Qau]using kn,rfl⟩
 ·clear kn;rintro m e1 H1 ⟨i,n',es',bi,hm,hi,hvi,hmi,hei,kn,rfl⟩;obtain⟨si,hsi⟩:∃si,Qau l k (sts.take i) s=si:=⟨_,rfl⟩;rw[hsi]at hvi kn;refine Qa ?_;simp only[go_sem,how];refine Qg (Qc rfl ?_ ?_)
  ·intro hc;have hlt:i<sts.length:=by simpa using hc
   have hms:=Qbl (Je hlt);obtain⟨x,hx⟩:∃x,sts[i]=x:=⟨_,rfl⟩;have htk:=Qaxi l k hlt s;have hfx:=hf sts[i] (Je hlt);rw[hx]at hms hfx;rw[hsi,hx]at htk;have hse:=x.size_eq;have hbl:=Qcd x.body;have hel:=Qcd x.els;obtain⟨fb,fe,fn⟩:=Qbog hfx;have hsci:ScD.ok (fun _=>0) ((l0,n',es')::rest) (bi::r):=⟨hmi,hsc.2⟩;refine Qf ?_;try simp only[go_sem]
   refine Qg (Qe ?_);refine Qa ?_;simp only[go_sem,how,hlt,Qv,Qbg _ _ hlt,hx,x.cells_eq];intro x7 hx7 H3 h3;have kn:=kn.al hx7 h3;have g7:=kn.l 0 rfl;simp only[go_sem,Qkf,g7,how];intro H4 h4;have kn:Kn H H4 (Qu2 c fl l k ((l0,n',es')::rest) si.c) [(x7,stO x)]:=kn.stL 0 rfl h4;clear g7;refine Qbk8 (L:=[]) (sc:=(l0,n',es')::rest) (v:=bi::r) hk hnd hsci (by omega) kn (fun H5 kn e5 f0 f2 f7 f14 f15 f16=>?_);clear h4 h3;refine Qbpl hnd hsci (by simp only[LIM];omega) kn f0 f2 f7 f14 f15 f16 (fun H6 kn e6 f0 f2 f7 f14 f15 f16=>?_);obtain⟨b1,hv1,hm1⟩:=Qbop hmi l k x.op x.name x.args si hvi l0 n';have hl1:=Qbkt x.op x.name l0 n' es';have hc1:=Qbo6 l k x.op x.name x.args si;rw[hvi]at hc1;rw[←hc1]at kn;obtain⟨es1,n1,ht⟩:∃es1 n1,Qarw x.op x.name (l0,n',es')=(l0,n1,es1):=by
    simp only[Qarw];split <;> exact⟨_,_,rfl⟩
   rw[ht]at kn hm1 hl1;simp only at hl1;have hck:=x.ck_eq l k si;obtain⟨s1,hs1⟩:∃s1,stC l k x.op x.name x.args si=s1:=⟨_,rfl⟩;rw[hs1]at kn hv1 hck;rw[hv1]at hck;have hsc1:ScD.ok (fun _=>0) ((l0,n1,es1)::rest) (b1::r):=⟨hm1,hsc.2⟩;have g7:=kn.l 0 rfl;have fin:∀(H':Heap) (e':Env),Kn H H' (Qu2 c fl l k ((l0,n1,es1)::rest) (x.ck l k si).c) []→lk 0 e'=.c (.ptr c 0)→lk 2 e'=.c (scC (l0::rest.ls))→lk 14 e'=.c (.sl f5 5 (Qk sts))→lk 15 e'=.c (.int .i64 sts.length)→lk 16 e'=.c (.int .i64 i)→
     Q8 prog Qke (X.next (fun e2 H2=>∃m',m'<m∧∃(i n':Nat) (es':List (C×V)) (bi:List (List UInt8×Nat)),m'=sts.length-i∧i≤sts.length∧(Qau l k (sts.take i) s).v=bi::r∧MapOk (fun _=>0) es' bi∧es'.length≤es0.length+i∧
      Kn H H2 (Qu2 c fl l k ((l0,n',es')::rest) (Qau l k (sts.take i) s).c) []∧
      e2=[(0,.c (.ptr c 0)),(2,.c (scC (l0::rest.ls))),(14,.c (.sl f5 5 (Qk sts))),(15,.c (.int .i64 sts.length)),(16,.c (.int .i64 i))]) (X.inBlock 0 (Qq Qtn (unK H K)))) e' H':=by
    intro H' e' kn f0 f2 f14 f15 f16;refine Qp ?_;simp only[go_sem,f0,f2,f14,f15,f16,how,AE.X.next];refine⟨Qm (by omega) (by omega),sts.length-(i+1),by omega,i+1,n1,es1,b1,rfl,by omega,?_,hm1,by omega,?_,rfl⟩
    ·rw[htk,hck]
    ·rw[htk];exact kn
   refine Qa ?_;simp only[go_sem,f0,f2,f7,f14,f15,f16,g7,how];refine Qc rfl ?_ ?_
   ·intro hc2;refine Qaf ?_;simp only[go_sem,f0,f2,f7,f14,f15,f16,g7,how];refine Qp2 how (fun lm nn H7 hlm h7=>?_);have kn:=kn.al hlm h7;have g7:=kn.l 0 rfl;simp only[go_sem,Qid,g7,how];have hih:=ih (Qh x.body) (by omega) x.body (d-1) false lm nn [] ((l0,n1,es1)::rest) [] (b1::r) ⟨[]::b1::r,s1.c,s1.n⟩ H7;refine hih _ (Jt _) (by omega) fb (Qbow kn) rfl ⟨.nil _,hsc1⟩ (by simp only[Jp,LIM];omega) (Qbov kn) (fun H8 n8 es8 b8 _ _ hu=>?_);have kn:=Qboz kn hu;have g7:=kn.l 0 rfl;simp only[go_sem,how];refine Qe8 ?_;simp only[go_sem,g7,how];refine Qp2 how (fun lm nn H9 hlm h9=>?_);have kn:=kn.al hlm h9;have g7:=kn.l 0 rfl;simp only[go_sem,Qie,g7,how];obtain⟨s2,hs2⟩:∃s2,Qau l k x.body ⟨[]::b1::r,s1.c,s1.n⟩=s2:=⟨_,rfl⟩;rw[hs2]at kn hck;have hih:=ih (Qh x.els) (by omega) x.els (d-1) false lm nn [] ((l0,n1,es1)::rest) [] (b1::r) ⟨[]::b1::r,s2.c,s2.n⟩ H9;refine hih _ (Jt _) (by omega) fe (Qbow kn) rfl ⟨.nil _,hsc1⟩ (by simp only[Jp,LIM];omega) (Qbov kn) (fun H10 n10 es10 b10 _ _ hu=>?_);have kn:=Kn.drop (A:=[]) (Qboz kn hu);simp only[go_sem,AE.X.next,how];refine fin _ _ ?_ rfl rfl rfl rfl rfl;rw[hck];exact kn
   ·intro hc2;have hno:¬(x.op=5∨x.op=6):=by
     intro h;rcases h with h|h <;> simp[h]at hc2
    obtain⟨eb,ee⟩:=fn hno;rw[eb,ee]at hck;simp only[Qau]at hck;refine Qf ?_;simp only[go_sem,AE.X.next,how];refine fin _ _ ?_ rfl rfl rfl rfl rfl;rw[hck];exact Kn.drop (A:=[]) kn
  ·intro hc;have hge:sts.length≤i:=by simpa using hc
   rw[Jb hge]at hsi;refine Q1 ?_;simp only[go_sem,AE.X.next,Qq,Q7,Qtn];refine⟨.tup [],.tup _ _ rfl fun j x x' h=>by simp at h,hK _ n' es' bi (by rw[hsi];exact hvi) hmi ?_⟩;rw[hsi];exact kn.fin
abbrev fnO (f:Fn):Obj:=.st [.str f.name,.sl false 1 (Q9 f.params),.sl false 5 (Qk f.body)]
abbrev ckO (fl:Bool)(l:List Fn)(k:Int)(code:Int):Obj:=.st [.sl fl 3 (Q3 l),.int .i64 k,.int .i64 code]
theorem Q39 (s:List UInt8)(v:V):∀(es:List (C×V)),(Q7w (.str s) v es).length≤es.length+1
 |[]=>by simp[Q7w]
 |e::es=>by
  have:=Q39 s v es;simp only[Q7w];split
  ·simp
  ·simp only[Jn];omega
theorem Qbr6 {c x5 N i:Nat}{fl:Bool}{l:List Fn}{a:Int}{e:Env}{Q:X→Env→Heap→Prop}(hi:i<l.length)(hf:l[i].form=true)(hs:Qh l[i].body≤2^38)
  (kn:Kn H0 H [] [(c,ckO fl l i a),(x5,fnO l[i])])
  (f1:lk 1 e=.c (.pp [.sl fl 3 (Q3 l)])) (f3:lk 3 e=.c (.ptr c 0)) (f4:lk 4 e=.c (.int .i64 i)) (f5:lk 5 e=.c (.ptr x5 0)) (f18:lk 18 e=.c (.sl fl 3 (Q3 l))) (f19:lk 19 e=.c (.int .i64 N)) (f20:lk 20 e=.c (.int .i64 i))
  (hQ:∀H',Kn H0 H' [] [(c,ckO fl l i (Qc4 a (fnCk l i).c))]→∀e',lk 1 e'=.c (.pp [.sl fl 3 (Q3 l)])→lk 3 e'=.c (.ptr c 0)→lk 18 e'=.c (.sl fl 3 (Q3 l))→lk 19 e'=.c (.int .i64 N)→lk 20 e'=.c (.int .i64 i)→Q .nrm e' H') :
  Q8 prog Qlr Q e H:=by
 rw[←Qbp5 hi a]at hQ;obtain⟨f,hfe⟩:∃f,l[i]=f:=⟨_,rfl⟩;obtain⟨j0,hj0,hji⟩:=Qbp6 hi;rw[hfe]at hf hs hQ kn hj0;have g5:=kn.l 1 rfl;have hfp:f.params.length≤3∧Qan f.body 4=true:=by
  rw[Fn.form]at hf;simp only[Jq,decide_eq_true_eq]at hf;exact⟨hf.1.2,hf.2⟩
 have two:∀(H1:Heap) (e1:Env),Kn H0 H1 [] [(c,ckO fl l i (Qc4 a (ixC l i f.name))),(x5,fnO f)]→lk 1 e1=.c (.pp [.sl fl 3 (Q3 l)])→lk 3 e1=.c (.ptr c 0)→lk 5 e1=.c (.ptr x5 0)→lk 18 e1=.c (.sl fl 3 (Q3 l))→lk 19 e1=.c (.int .i64 N)→lk 20 e1=.c (.int .i64 i)→
   Q8 prog Qlq Q e1 H1:=by
  intro H1 e1 kn f1 f3 f5 f18 f19 f20;refine Qa ?_;simp only[go_sem,f1,f3,f5,f18,f19,f20];refine Qp2 (sc:=.pnil) rfl (fun lm nn H2 hlm h2=>?_);have kn:=kn.al hlm h2;have g5:=kn.l 1 rfl;simp only[go_sem,Qlw,f1,f3,f5,f18,f19,f20];refine Q5 ?_;refine Qa ?_;simp only[go_sem,g5,Qo];intro hl;simp only[LIM]at hl;obtain⟨s0,hs0⟩:∃s0:Ck,(⟨[[]],Qc4 a (ixC l i f.name),0⟩:Ck)=s0:=⟨_,rfl⟩;have hs0v:s0.v=[[]]:=by rw[←hs0]
  have hs0c:Qc4 a (ixC l i f.name)=s0.c:=by rw[←hs0]
  rw[hs0]at hQ;rw[hs0c]at kn;refine Qg (Qe (Q2 (fun m e2 H3=>∃(j n':Nat) (es':List (C×V)) (bj:List (List UInt8×Nat)),m=f.params.length-j∧j≤f.params.length∧(Qq5 (f.params.take j) s0).v=[bj]∧MapOk (fun _=>0) es' bj∧es'.length≤j∧
   Kn H0 H3 [] [(c,ckO fl l i (Qq5 (f.params.take j) s0).c),(x5,fnO f),(lm,.map n' es')]∧
   e2=[(1,.c (.pp [.sl fl 3 (Q3 l)])),(3,.c (.ptr c 0)),(5,.c (.ptr x5 0)),(6,.c (.pp [.mp lm,.pnil])),(18,.c (.sl fl 3 (Q3 l))),(19,.c (.int .i64 N)),(20,.c (.int .i64 i)),(39,.c (.sl false 1 (Q9 f.params))),(40,.c (.int .i64 f.params.length)),(41,.c (.int .i64 j))]) f.params.length ?_ ?_))
  ·exact⟨0,nn,[],[],by omega,by omega,hs0v,.nil _,by simp,kn,rfl⟩
  ·clear kn;rintro m e2 H3 ⟨j,n',es',bj,hm,hj,hvj,hmj,hej,kn,rfl⟩;obtain⟨sj,hsj⟩:∃sj,Qq5 (f.params.take j) s0=sj:=⟨_,rfl⟩;rw[hsj]at hvj kn;refine Qa ?_;simp only[go_sem];refine Qg (Qc rfl ?_ ?_)
   ·intro hc;have hlt:j<f.params.length:=(by simpa using hc);obtain⟨p,hp⟩:∃p,f.params[j]=p:=⟨_,rfl⟩;have hpd:f.params.getD j []=p:=(by simp[Jf,hlt,hp]);have htk:=Qa2d hlt s0;rw[hsj,hp]at htk;have hky:=eq_true hmj.ky;have hv:(Qg0 (.str p) es').getD (.c (.int .i64 0))=.c (.int .i64 0):=by
     rw[hmj.fd];cases bj.find? fun q=>decide (q.1=p) <;> rfl
    have hin:=Qbaw hmj [] p;have gl:=kn.l 2 rfl;have gc:=kn.l 0 rfl;refine Qf ?_;try simp only[go_sem]
    refine Qg (Qe ?_);refine Qa ?_;simp only[go_sem,hlt,Qo,Qbs _ _ hlt,hpd];have tail:∀(H4:Heap) (e3:Env),Kn H0 H4 [] [(c,ckO fl l i (Qc4 sj.c (if Qfv [bj] p then 2 else 0))),(x5,fnO f),(lm,.map n' es')]→
      lk 1 e3=.c (.pp [.sl fl 3 (Q3 l)])→lk 3 e3=.c (.ptr c 0)→lk 5 e3=.c (.ptr x5 0)→lk 6 e3=.c (.pp [.mp lm,.pnil])→lk 8 e3=.c (.str p)→lk 18 e3=.c (.sl fl 3 (Q3 l))→lk 19 e3=.c (.int .i64 N)→lk 20 e3=.c (.int .i64 i)→
      lk 39 e3=.c (.sl false 1 (Q9 f.params))→lk 40 e3=.c (.int .i64 f.params.length)→lk 41 e3=.c (.int .i64 j)→
      Q8 prog Qog (X.inBlock 3 (X.sq prog Qlo (X.next (fun e2 H3=>∃m',m'<m∧∃(j n':Nat) (es':List (C×V)) (bj:List (List UInt8×Nat)),m'=f.params.length-j∧j≤f.params.length∧(Qq5 (f.params.take j) s0).v=[bj]∧MapOk (fun _=>0) es' bj∧es'.length≤j∧
       Kn H0 H3 [] [(c,ckO fl l i (Qq5 (f.params.take j) s0).c),(x5,fnO f),(lm,.map n' es')]∧
       e2=[(1,.c (.pp [.sl fl 3 (Q3 l)])),(3,.c (.ptr c 0)),(5,.c (.ptr x5 0)),(6,.c (.pp [.mp lm,.pnil])),(18,.c (.sl fl 3 (Q3 l))),(19,.c (.int .i64 N)),(20,.c (.int .i64 i)),(39,.c (.sl false 1 (Q9 f.params))),(40,.c (.int .i64 f.params.length)),(41,.c (.int .i64 j))]) (X.inBlock 2 (X.sq prog Qlp Q))))) e3 H4:=by
     intro H4 e3 kn f1 f3 f5 f6 f8 f18 f19 f20 f39 f40 f41;have gl:=kn.l 2 rfl;refine Qp ?_;simp only[go_sem,f1,f3,f5,f6,f8,f18,f19,f20,f39,f40,f41,gl,Qo7,hky];refine⟨by simp only[LIM];omega,?_⟩;intro H5 h5;have kn:=kn.stL 2 rfl h5;try simp only[go_sem,AE.X.next]
     refine Qp ?_;simp only[go_sem,AE.X.next];have hl2:=Q39 p (.c (.int .i64 0)) es';refine⟨Qm (by omega) (by omega),f.params.length-(j+1),by omega,j+1,n'+1,Q7w (.str p) (.c (.int .i64 0)) es',(p,sj.n)::bj,rfl,by omega,?_,hmj.put p sj.n,by omega,?_,rfl⟩
     ·rw[htk];simp[Qaj,hvj]
     ·rw[htk,hvj];exact kn
    refine Q5 ?_;refine Qa ?_;simp only[go_sem,gl,Qwn,Qo7,Qaa,hky,hv,hin,Ji,Jk];refine Qg ?_;refine Qa ?_;simp only[go_sem];refine Qc rfl ?_ ?_
    ·intro hc2;have hi2:Qfv [bj] p=true:=(by simpa using hc2);rw[hi2]at tail;refine Qp ?_;simp only[go_sem];refine Qak0 gc fun H6 hu=>?_;have kn:=kn.callL 0 rfl hu (by nofun);simp only[go_sem,AE.X.next];exact tail _ _ kn rfl rfl rfl rfl rfl rfl rfl rfl rfl rfl rfl
    ·intro hc2;have hi2:Qfv [bj] p=false:=(by simpa using hc2);rw[hi2]at tail;refine Qf ?_;simp only[go_sem,AE.X.next];refine tail _ _ ?_ rfl rfl rfl rfl rfl rfl rfl rfl rfl rfl rfl;have:Qc4 sj.c (if false=true then 2 else 0)=sj.c:=Qax0 sj.c;rw[this];exact kn
   ·intro hc;have hge:f.params.length≤j:=(by simpa using hc);rw[Jb hge]at hsj;rw[hsj]at hQ;have g5:=kn.l 1 rfl;refine Q1 ?_;simp only[go_sem,AE.X.next];refine Qp ?_;simp only[go_sem,g5];have knp:Kn H0 H3 [] [(c,ckO fl l i sj.c),(lm,.map n' es'),(x5,fnO f)]:=kn.perm (.cons _ (.swap _ _ _));have hb:=Qbgl (c:=c) (fl:=fl) (l:=l) (k:=i) (by omega) (Qh f.body) f.body 4 false lm n' es' [] bj [] sj H3;refine hb _ (Jt _) hs hfp.2 ?_ hvj ⟨hmj,trivial⟩ ?_ ?_ (fun H6 n6 es6 b6 hv6 hm6 hu=>?_)
    ·have:=knp.dL;simp only[J1,Jap,Jal,Jh,Jr,or_false,not_or]at this⊢;exact⟨⟨this.1.1,by simp[ScD.ls]⟩,by simp[ScD.ls],by simp[ScD.ls]⟩
    ·have:=Qcd f.body;simp only[LIM];omega
    ·intro q hq;rcases Jh.1 hq with rfl|hq
     ·exact knp.l 0 rfl
     ·rcases Jh.1 hq with rfl|hq
      ·exact knp.l 1 rfl
      ·exact absurd hq (by simp[ScD.ob])
    ·have kn:=Kn.drop (A:=[(c,ckO fl l i (Qau l i f.body sj).c)]) (Kn.callLs (L:=[(c,ckO fl l i sj.c),(lm,.map n' es')]) (L':=[(c,ckO fl l i (Qau l i f.body sj).c),(lm,.map n6 es6)]) (M:=[(x5,fnO f)]) knp hu rfl (by
      intro p hp;simp only[Jh,Jr,or_false]at hp;rcases hp with rfl|rfl <;> nofun))
     simp only[go_sem];exact hQ _ kn _ rfl rfl rfl rfl rfl
 have hlt:decide (ixI (Qk7 l f.name)<(i:Int)) = !decide (Qk7 l f.name=some i):=by
  rw[hj0];simp only[ixI,J2];by_cases h:j0=i
  ·simp[h]
  ·have:(j0:Int)<i:=by omega
   simp[h,this]
 refine Q5 ?_;refine Qa ?_;simp only[go_sem,f1,f3,f4,f5,f18,f19,f20,g5];refine Qax1 ?_;simp only[go_sem,Qlv,f1,f3,f4,f5,f18,f19,f20,hlt];refine Qg (Qc rfl ?_ ?_)
 ·intro hc;have hne:¬Qk7 l f.name=some i:=by simpa using hc
  rw[ixC,if_neg hne]at two;refine Qp ?_;simp only[go_sem];refine Qak0 (kn.l 0 rfl) fun H6 hu=>?_;have kn:=kn.callL 0 rfl hu (by nofun);simp only[go_sem,AE.X.next];exact two _ _ kn rfl rfl rfl rfl rfl rfl
 ·intro hc;have heq:Qk7 l f.name=some i:=by simpa using hc
  rw[ixC,if_pos heq,Qax0]at two;refine Qf ?_;simp only[go_sem,AE.X.next];exact two _ _ kn rfl rfl rfl rfl rfl rfl
theorem Qbg9 {l:List Fn}{fl:Bool}(hf:Qs l≤2^38)(g:GK H)(hK:∀H',Upd H H' []→K (.c (.int .i64 (Qahw l))) H'):Qj prog Qg2 [.ag [.sl fl 3 (Q3 l)]] H K:=by
 refine Qn ?_;refine Qb Qad Qadg ?_;have retf:∀(b:Int) (e:Env) (H':Heap) (L:List (Nat×Obj)),Qahw l=b→Kn H H' [] L→lk 2 e=.c (.int .i64 b)→Qq Qfh (unK H K) .ret e H':=by
  intro b e H' L hf kn h4;simp only[go_sem,Qq,Q7,Qfh,Ja,forall_eq,RS.op,h4];refine⟨_,.c _ _ (Qd rfl),?_⟩;rw[←hf];exact hK _ kn.fin
 have kn:=Kn.start0 H;refine Qa ?_;simp only[go_sem];refine Q5 ?_;refine Qa ?_;simp only[go_sem];refine Qahu (by omega) g fun H1 hu=>?_;have kn:=kn.call0 hu;simp only[go_sem,Qls];refine Qg (Qc rfl ?_ ?_)
 ·intro hc;have hb:Qqf l=false:=by simpa using hc
  refine Qa ?_;simp only[go_sem];refine Qi ?_;simp only[go_sem,AE.X.next];exact retf 1 _ _ _ (by rw[Qahw,hb];rfl) kn rfl
 intro hc;have hb:Qqf l=true:=by simpa using hc
 have hpc:Qahw l=ckK l l.length:=by rw[Qahw,if_pos hb]
 have hv:=hb;simp only[Qqf,Jq,decide_eq_true_eq,Jy]at hv;refine Qf ?_;try simp only[go_sem]
 refine Qa ?_;simp only[go_sem];intro c hc0 H2 h2;have kn:=kn.al hc0 h2;simp only[go_sem,Qlt];refine Q5 ?_;refine Qa ?_;simp only[go_sem,Qx];intro hl;simp only[LIM]at hl;refine Qg (Qe (Q2 (fun m e1 H1=>∃(i:Nat) (at_:Int),m=l.length-i∧i≤l.length∧Kn H H1 [] [(c,ckO fl l at_ (ckK l i))]∧
  e1=[(1,.c (.pp [.sl fl 3 (Q3 l)])),(3,.c (.ptr c 0)),(18,.c (.sl fl 3 (Q3 l))),(19,.c (.int .i64 l.length)),(20,.c (.int .i64 i))]) l.length ?_ ?_))
 ·exact⟨0,0,by omega,by omega,kn,rfl⟩
 ·clear kn;rintro m e1 H3 ⟨i,at_,hm,hi,kn,rfl⟩;refine Qa ?_;simp only[go_sem];refine Qg (Qc rfl ?_ ?_)
  ·intro hc;have hlt:i<l.length:=by simpa using hc
   have hms:=Qbf (Je hlt);have hfm:=hv.1.2 _ (Je hlt);have hsu:=Qaxq l i;refine Qf ?_;try simp only[go_sem]
   refine Qg (Qe ?_);refine Qa ?_;simp only[go_sem,hlt,Qx,Qat _ _ hlt,Fn.cells];intro x5 hx5 H4 h4;have kn:=kn.al hx5 h4;have g5:=kn.l 1 rfl;simp only[go_sem,Qlu,g5];intro H5 h5;have kn:=kn.stL 1 rfl h5;have gc:=kn.l 0 rfl;refine Qa ?_;simp only[go_sem,gc];intro H6 h6;have kn:Kn H H6 [] [(c,ckO fl l i (ckK l i)),(x5,fnO l[i])]:=kn.stL 0 rfl h6;refine Qbr6 hlt hfm (by omega) kn rfl rfl rfl rfl rfl rfl rfl (fun H7 kn e7 f1 f3 f18 f19 f20=>?_);simp only[go_sem,AE.X.next];refine Qp ?_;simp only[go_sem,AE.X.next,f1,f3,f18,f19,f20];refine⟨Qm (by omega) (by omega),l.length-(i+1),by omega,i+1,i,rfl,by omega,?_,rfl⟩;rw[hsu];exact kn
  ·intro hc;have hge:l.length≤i:=by simpa using hc
   have hil:i=l.length:=by omega
   subst hil;have gc:=kn.l 0 rfl;refine Q1 ?_;simp only[go_sem,AE.X.next];refine Qa ?_;simp only[go_sem,gc];refine Qi ?_;exact retf _ _ _ _ hpc kn rfl
theorem Qbav {l:List Fn}{fl:Bool}(hf:Qs l≤2^38)(g:GK H)(hK:∀H',Upd H H' []→K (.c (.bool (Qak3 l))) H'):Qj prog Q3q [.ag [.sl fl 3 (Q3 l)]] H K:=by
 refine Qb Qad Qbh0 ?_;refine Qa ?_;simp only[go_sem];refine Qa ?_;simp only[go_sem];refine Qbg9 hf g fun H1 hu=>?_;simp only[go_sem,Qagj];refine Qi ?_;simp only[go_sem,Qq,Q7,Qfh,Ja,forall_eq,RS.op];exact hK _ hu
end Go.AE.Y
namespace Go.AE
variable {H0 H H' F:Heap}{E L B A M:List (Nat×Obj)}{sz:Nat}{rows:List (List C)}{c:C}{Lg:List (Nat×Obj)}
def Gp (Lg:List (Nat×Obj))(sz:Nat)(rows:List (List C))(c:C):Prop:=
 (c=.sl true sz []∧rows=[]∧Lg=[])∨∃y R,c=.vsl y sz 0 rows.length∧Lg=[(y,.vec sz R)]∧R.take rows.length=rows
theorem Gp.nil (sz:Nat):Gp [] sz [] (.sl true sz []):=.inl ⟨rfl,rfl,rfl⟩
theorem Gp.isOw (h:Gp Lg sz rows c):c.isOw=false:=by rcases h with ⟨rfl,_⟩|⟨y,R,rfl,_⟩ <;> rfl
theorem Gp.slc (h:Gp Lg sz rows c)(hg:∀p∈Lg,H p.1=p.2):Slc H sz rows c:=by
 rcases h with ⟨rfl,rfl,rfl⟩|⟨y,R,rfl,rfl,hR⟩
 ·exact .mk' H true sz []
 ·have hy:H y=.vec sz R:=hg (y,.vec sz R) (by simp);have hle:rows.length≤R.length:=by
   have:=congrArg List.length hR;rw[Jz]at this;omega
  exact⟨by simp[okSl,hy,hle],rfl,by simp[rowsOf,hy,hR],rfl⟩
theorem Gp.ne (h:Gp Lg sz rows c):∀p∈Lg,p.2≠.none:=by
 rcases h with ⟨_,_,rfl⟩|⟨y,R,_,rfl,_⟩
 ·simp
 ·intro p hp;simp only[Ja]at hp;subst hp;nofun
theorem Kn.growP {K:V→Heap→Prop}{new:List (List C)}{b:C}(kn:Kn H0 H E (B++Lg))(hc:Gp Lg sz rows c)(hb:Slc H sz new b)
  (h1:∀r∈new,noOw r=true) (h2:rows.length+new.length≤LIM)
  (h:∀t Lg' H',Gp Lg' sz (rows++new) t→Kn H0 H' E (B++Lg')→K (.c t) H'):appQ H sz c b K:=by
 refine⟨hb.ok,hb.sz,?_⟩;rcases hc with ⟨rfl,rfl,rfl⟩|⟨y,R,rfl,rfl,hR⟩
 ·simp only[hb.rows,hb.len,Jab,Jp,Ja0];refine⟨trivial,.inl trivial,h1,by simpa using h2,fun l hl H' hH'=>?_⟩;rw[List.append_nil]at kn;exact h _ _ H' (.inr ⟨l,new,by simp,rfl,Jar⟩) (kn.al hl hH')
 ·have hle:rows.length≤R.length:=by
   have:=congrArg List.length hR;rw[Jz]at this;omega
  have hy:H y=.vec sz R:=(kn.get (y,.vec sz R) (by simp)).1;simp only[hy,hb.rows,hb.len,Jae,hR];refine⟨trivial,trivial,by omega,h1,h2,fun l' hl' H' hH'=>?_⟩;refine h _ [(l',.vec sz (rows++new))] H' (.inr ⟨l',rows++new,by simp,rfl,Jar⟩) ?_;have:=kn.ap B.length (y:=y) (o:=.vec sz R) (by simp) hl' hH';simpa using this
theorem Gp.cut (h:Gp Lg sz rows c){k:Nat}(hk:k≤rows.length):Gp Lg sz (rows.take k) (sliC none (some (k:Int)) c):=by
 rcases h with ⟨rfl,rfl,rfl⟩|⟨y,R,rfl,rfl,hR⟩
 ·refine .inl ⟨?_,by simp,rfl⟩;simp[sliC]
 ·refine .inr ⟨y,R,?_,rfl,?_⟩
  ·simp only[sliC,Jah,J4,Jz,Jao,Int.toNat_zero,Ja0,Nat.sub_zero];rw[Jam hk]
  ·rw[Jz,Jam hk,←hR,List.take_take,Jam hk]
theorem Kn.side (kn:Kn F H [] (A++M)):∃F',Kn F' H [] A∧∀(A':List (Nat×Obj)) (H':Heap),Kn F' H' [] A'→Kn F H' [] (A'++M):=by
 have hnd:=kn.dL;rw[Jv]at hnd;obtain⟨d1,d2,d3⟩:=J8.1 hnd;obtain⟨F',hF'⟩:∃F':Heap,F'=fun m=>if m∈M.map Prod.fst then H m else F m:=⟨_,rfl⟩;have hin:∀m,m∈M.map Prod.fst→F' m=H m:=fun m hm=>by rw[hF'];exact if_pos hm
 have hout:∀m,m∉M.map Prod.fst→F' m=F m:=fun m hm=>by rw[hF'];exact if_neg hm
 have hM:∀p∈M,F' p.1=p.2∧p.2≠.none:=fun p hp=>by
  have:=kn.get p (by simp[hp]);rw[hin p.1 (Qb6 hp)];exact this
 refine⟨F',⟨fun p hp=>kn.get p (by simp only[Jab]at hp⊢;exact Jc _ hp),by simp,fun p hp=>?_,by simp,d1,fun m hm _=>?_⟩,fun A' H' k=>?_⟩
 ·rw[hout p.1 fun h=>d3 _ (Qb6 hp) _ h rfl];exact kn.loc p (Jc _ hp)
 ·by_cases h:m∈M.map Prod.fst
  ·rw[hin m h]
  ·rw[hout m h]at hm⊢;exact kn.chg m hm (by simp)
 ·have hA:∀p∈A',p.1∉M.map Prod.fst:=fun p hp h=>by
   obtain⟨q,hq,e⟩:=Jm.1 h;have h1:=k.loc p hp;rw[←e,(hM q hq).1]at h1;exact (hM q hq).2 h1
  refine⟨fun p hp=>?_,by simp,fun p hp=>?_,by simp,?_,fun m hm _=>?_⟩
  ·simp only[Jab]at hp;rcases Jl.1 hp with hp|hp
   ·exact k.get p (by simpa using hp)
   ·obtain⟨h1,h2⟩:=hM p hp;refine⟨?_,h2⟩;rw[k.chg p.1 (by rw[h1];exact h2) (by simp),h1]
  ·rcases Jl.1 hp with hp|hp
   ·rw[←hout p.1 (hA p hp)];exact k.loc p hp
   ·exact kn.loc p (Jj _ hp)
  ·rw[Jv];refine J8.2 ⟨k.dL,d2,fun a ha b hb hab=>?_⟩;obtain⟨p,hp,rfl⟩:=Jm.1 ha;exact hA p hp (hab▸hb)
  ·have hmM:m∉M.map Prod.fst:=fun h=>by
    obtain⟨q,hq,rfl⟩:=Jm.1 h;exact hm (kn.loc q (Jj _ hq))
   have:=k.chg m (by rw[hout m hmM];exact hm) (by simp);rw[this,hout m hmM]
end Go.AE
namespace Go.AE.Y
attribute [local go_sem] cond_true cond_false Bool.not_true Bool.not_false
open Go.Proofs.Tryz
variable {H H0:Heap}{K:V→Heap→Prop}{E E' L:List (Nat×Obj)}
abbrev wO (fl:Bool)(fns:List Fn)(k:Nat)(vc:C)(cnt:Nat)(code:Int):Obj:=.st [.sl fl 3 (Q3 fns),.int .i64 k,vc,.int .i64 cnt,.int .i64 code]
theorem Qba1 {n:Nat}(hK:∀s,K (.c (.str s)) H):Qj prog Qaa0 [.c (.int .i64 n)] H K:=by
 refine Qb Qad Qbmz ?_;have e1:((n:Int).tmod 26)=((n % 26:Nat):Int):=rfl;have h1:n % 26<26:=Nat.mod_lt _ (by omega);refine Qa ?_;simp only[go_sem];refine Qa ?_;simp only[go_sem,e1];generalize n % 26=q at *;refine⟨by decide,?_⟩;refine Qa ?_;simp only[go_sem];refine⟨Qm (by omega) (by omega),⟨by omega,by omega⟩,?_,?_⟩
 ·simp only[LIM,List.length_drop,Jz,Jn,Jp];omega
 refine Qi ?_;simp only[go_sem,Qq,Q7,Qfh,Ja,forall_eq,RS.op];exact hK _
theorem Qacx {w k cnt:Nat}{fl:Bool}{fns:List Fn}{vc:C}{code n:Int}(how:vc.isOw=false)(hH:H w=wO fl fns k vc cnt code)(hK:∀H',Upd H H' [(w,wO fl fns k vc cnt (Qc4 code n))]→K (.tup []) H') :
  Qj prog Qcw [.c (.ptr w 0),.c (.int .i64 n)] H K:=by
 refine Qb Qad Qayj ?_;have kn:=Kn.start1 hH (by nofun);refine Qa ?_;simp only[go_sem,hH,how];refine Qc rfl (fun hc=>?_) (fun hc=>?_)
 ·have h0:code=0:=by simpa using hc
  refine Qp ?_;simp only[go_sem,hH,how];intro H1 h1;have kn:=kn.stE 0 rfl h1;simp only[Qq,Q7,Qtn,go_sem];refine hK _ ⟨fun p hp=>?_,fun m h1 h2=>kn.chg m h1 h2⟩;rw[Qc4,if_pos h0]at hp;exact (kn.get p (Jc _ hp)).1
 ·have h0:¬code=0:=by simpa using hc
  refine Qf ?_;simp only[Qq,Q7,Qtn,go_sem];refine hK _ ⟨fun p hp=>?_,fun m h1 h2=>rfl⟩;rw[Qc4,if_neg h0]at hp;simp only[Ja]at hp;rw[hp];exact hH
def Qbr0 (v:Vars)(s:List UInt8)(r:Int):Prop:=
 (r=-1∧((vT v).find? fun x=>decide (x.1=s))=none)∨∃(i:Nat) (x:List UInt8×Nat×Nat),r=i∧i<(vT v).length∧(Qb2 v).getD i []=row3 x∧((vT v).find? fun x=>decide (x.1=s))=some x
theorem Qbbx {w k cnt:Nat}{fl:Bool}{fns:List Fn}{vc:C}{code:Int}{v:Vars}{s:List UInt8}(how:vc.isOw=false)(hH:H w=wO fl fns k vc cnt code)(hg:Slc H 3 (Qb2 v) vc)
  (hK:∀r,Qbr0 v s r→K (.c (.int .i64 r)) H):Qj prog Qjn [.c (.ptr w 0),.c (.str s)] H K:=by
 have hok:=eq_true hg.ok;have hrw:=hg.rows;have hln:=hg.len;have hsz:=hg.sz;rw[Q3n]at hln;refine Qb Qad Qayk ?_;have retf:∀(n:Int) (e:Env),Qbr0 v s n→lk 4 e=.c (.int .i64 n)→Qq Qpr K .ret e H:=by
  intro b e hf h1;simp only[go_sem,Qq,Q7,Qpr,Ja,forall_eq,RS.op,h1];exact hK _ hf
 refine Qa ?_;simp only[go_sem];refine Q5 ?_;refine Qa ?_;simp only[go_sem,hH,how,hok,hln];intro hl;simp only[LIM]at hl;refine⟨Qm (by omega) (by omega),?_⟩;refine Qg (Qe (Q2 (fun n e1 H1=>∃(j:Nat),n=j∧j≤(vT v).length∧H1=H∧(∀x∈(vT v).take ((vT v).length-j),¬decide (x.1=s)=true)∧e1=[(0,.c (.ptr w 0)),(1,.c (.str s)),(5,.c (.int .i64 ((j:Int)-1)))]) (vT v).length ?_ ?_))
 ·exact⟨(vT v).length,rfl,by omega,rfl,by simp,rfl⟩
 ·rintro n e1 H1 ⟨j,hnj,hj,rfl,hall,rfl⟩;refine Q5 ?_;refine Qa ?_;simp only[go_sem];refine Qg (Qc rfl ?_ ?_)
  ·intro hc;have hj1:1≤j:=by simp at hc;omega
   obtain⟨i,rfl⟩:∃i,j=i+1:=⟨j-1,by omega⟩;have e1:(((i+1:Nat):Int)-1)=(i:Int):=by omega
   have hlt:i<(vT v).length:=by omega
   have hk:(vT v).length-1-i<(vT v).length:=by omega
   have hr:=Qaxm v hlt;have ek:(vT v).length-(i+1)=(vT v).length-1-i:=by omega
   obtain⟨x,hx⟩:∃x,(vT v)[(vT v).length-1-i]=x:=⟨_,rfl⟩;rw[hx]at hr;have hr2:=hr;rw[row3]at hr2;rw[e1]at hc⊢;refine Qf ?_;simp only[go_sem];refine Qg (Qe ?_);refine Qa ?_;simp only[go_sem,hH,how,hok,hln,hrw,hsz,hlt,hr2];refine Qc rfl ?_ ?_
   ·intro hc2;refine Qa ?_;simp only[go_sem];refine Qi ?_;simp only[go_sem,AE.X.next];refine retf _ _ (.inr ⟨i,x,rfl,hlt,hr,?_⟩) rfl;have:=Qbp3 (p:=fun x:List UInt8×Nat×Nat=>decide (x.1=s)) hk (by rw[hx];exact hc2) (by rw[←ek];exact hall);rw[this,hx]
   ·intro hc2;refine Qf ?_;simp only[go_sem];refine Qp ?_;simp only[go_sem,AE.X.next];refine⟨Qm (by omega) (by omega),i,by omega,i,rfl,by omega,?_,rfl⟩;have e2:(vT v).length-i=(vT v).length-1-i+1:=(by omega);rw[e2,Jd hk];intro y hy;rcases Jl.1 hy with hy|hy
    ·rw[←ek]at hy;exact hall y hy
    ·simp only[Ja]at hy;rw[hy,hx];intro h;rw[h]at hc2;cases hc2
  ·intro hc;have hj0:j=0:=by simp at hc;omega
   subst hj0;refine Q1 ?_;simp only[go_sem,AE.X.next];refine Qa ?_;simp only[go_sem];refine Qi ?_;refine retf (-1) _ (.inl ⟨rfl,?_⟩) rfl;rw[List.find?_eq_none];simpa using hall
theorem Qbk0 {w k cnt:Nat}{fl:Bool}{fns:List Fn}{vc:C}{code:Int}{v:Vars}{s:List UInt8}(how:vc.isOw=false)(hH:H w=wO fl fns k vc cnt code)(hg:Slc H 3 (Qb2 v) vc)
  (hK:∀t H',Upd H H' [(w,wO fl fns k vc cnt (Qc4 code (if (v.find s).isSome then 0 else 3)))]→K (.c (.str t)) H'):Qj prog Qnc [.c (.ptr w 0),.c (.str s)] H K:=by
 have hok:=eq_true hg.ok;have hrw:=hg.rows;have hln:=hg.len;have hsz:=hg.sz;rw[Q3n]at hln;refine Qb Qad Qa14 ?_;have retf:∀(t:List UInt8) (e:Env) (H':Heap),Upd H H' [(w,wO fl fns k vc cnt (Qc4 code (if (v.find s).isSome then 0 else 3)))]→lk 4 e=.c (.str t)→Qq Qpr K .ret e H':=by
  intro b e H' hu h1;simp only[go_sem,Qq,Q7,Qpr,Ja,forall_eq,RS.op,h1];exact hK _ _ hu
 refine Qa ?_;simp only[go_sem];refine Qa ?_;simp only[go_sem];refine Qbbx how hH hg fun r hr=>?_;simp only[go_sem,Q16];refine Q5 ?_;refine Qa ?_;simp only[go_sem];have hvf:=Qbrv v s;rcases hr with ⟨rfl,hf⟩|⟨i,x,rfl,hlt,hrow,hf⟩
 ·rw[hf]at hvf;rw[hvf]at retf;refine Qg (Qc rfl (fun _=>?_) (fun h=>by cases h));refine Qa ?_;simp only[go_sem];refine Qacx how hH fun H1 hu=>?_;simp only[go_sem];refine Qa ?_;simp only[go_sem];refine Qi ?_;simp only[go_sem,AE.X.next];exact retf _ _ _ hu rfl
 ·rw[hf]at hvf;rw[hvf]at retf;have hr2:=hrow;rw[row3]at hr2;refine Qg (Qc rfl (fun h=>by have:=of_decide_eq_true h;omega) (fun _=>?_));refine Qf ?_;try simp only[go_sem]
  refine Qa ?_;simp only[go_sem,hH,how,hok,hln,hrw,hsz,hlt,hr2];refine Qba1 fun t=>?_;simp only[go_sem,Q17];refine Qi ?_;refine retf t _ _ ⟨fun q hq=>?_,fun m h1 h2=>rfl⟩ rfl;simp only[Ja]at hq;rw[hq];have e0:Qc4 code (if (Option.map (fun x:List UInt8×Nat×Nat=>x.2.1) (some x)).isSome=true then 0 else 3)=code:=Qawc code;rw[e0];exact hH
theorem Qbky {F:Heap}{w k cnt:Nat}{fl:Bool}{fns:List Fn}{vc:C}{code:Int}{b:List (List UInt8×Nat)}{r:Vars}{s:List UInt8}{Lg:List (Nat×Obj)}(hg:Gp Lg 3 (Qb2 (b::r)) vc)
  (kn:Kn F H [] ((w,wO fl fns k vc cnt code)::Lg)) (hc:cnt≤2^40) (hl:(Qb2 (b::r)).length+1≤LIM)
  (hK:∀t H' vc' Lg',Gp Lg' 3 (Qb2 (((s,cnt)::b)::r)) vc'→Kn F H' [] ((w,wO fl fns k vc' (cnt+1) (Qc4 code (if Qfv (b::r) s then 2 else 0)))::Lg')→K (.c (.str t)) H') :
  Qj prog Qnb [.c (.ptr w 0),.c (.str s),.c (.int .i64 r.length)] H K:=by
 have how:=hg.isOw;have hH:=kn.l 0 rfl;have hs:=hg.slc fun p hp=>(kn.get p (by simp[hp])).1;have hok:=eq_true hs.ok;have hrw:=hs.rows;have hln:=hs.len;have hsz:=hs.sz;rw[Q3n]at hln;refine Qb Qad Qa13 ?_;have tail:∀(code':Int) (H1:Heap) (e1:Env),code'=Qc4 code (if Qfv (b::r) s then 2 else 0)→Kn F H1 [] ((w,wO fl fns k vc cnt code')::Lg)→lk 0 e1=.c (.ptr w 0)→lk 1 e1=.c (.str s)→lk 2 e1=.c (.int .i64 r.length)→
   Q8 prog Q7j (Qq Qbo3 K) e1 H1:=by
  intro code' H1 e1 hcode kn f0 f1 f2;subst hcode;have hH:=kn.l 0 rfl;refine Qaf ?_;simp only[go_sem,f0,f1,f2,hH,how];refine Kn.growP (B:=[(w,wO fl fns k vc cnt (Qc4 code (if Qfv (b::r) s then 2 else 0)))]) kn hg (.mk' _ true 3 _) (by simp[noOw,C.isOw]) (by simpa using hl) fun t Lg' H2 hg' kn=>?_;have how':=hg'.isOw;have hH:=kn.l 0 rfl;simp only[go_sem,Q14,hH,how',f0,f1,f2];intro H3 h3;have kn:=kn.stL 0 rfl h3;have hH:=kn.l 0 rfl;refine Qa ?_;simp only[go_sem,hH,how',f0,f1,f2];refine⟨Qm (by omega) (by omega),?_⟩;intro H4 h4;have kn:=kn.stL 0 rfl h4;have hH:=kn.l 0 rfl;refine Qa ?_;simp only[go_sem,hH,how',f0,f1,f2];refine⟨Qm (by omega) (by omega),?_⟩;have en:((cnt:Int)+1-1)=((cnt:Nat):Int):=by omega
  try rw[en]
  refine Qba1 fun t'=>?_;simp only[go_sem,Q15];refine Qi ?_;simp only[go_sem,Qq,Q7,Qbo3,Ja,forall_eq,RS.op];exact hK t' _ t Lg' (by rw[Qarz];exact hg') kn
 refine Qa ?_;simp only[go_sem];refine Qa ?_;simp only[go_sem];refine Qbbx how hH hs fun n hn=>?_;simp only[go_sem,Q13];refine Q5 ?_;have htop:=Qbtw b r s;rcases hn with ⟨rfl,hf⟩|⟨i,x,rfl,hlt,hrow,hf⟩
 ·rw[hf]at htop;have hm1:decide ((0:Int)≤-1)=false:=by decide
  have tn:Int.toNat (-1)=0:=rfl;have ht0:Qfv (b::r) s=false:=by rw[htop];rfl
  rw[ht0]at tail;obtain⟨ro,hro,hcase⟩:∃ro,(Qb2 (b::r)).getD 0 []=ro∧(ro=[]∨∃a m n,ro=[.str a,.int .i64 m,.int .i64 n]):=by
   refine⟨_,rfl,?_⟩;rcases Nat.eq_zero_or_pos (vT (b::r)).length with h0|h0
   ·refine .inl ?_;have:Qb2 (b::r)=[]:=List.eq_nil_of_length_eq_zero (by rw[Q3n];exact h0);rw[this];rfl
   ·exact .inr ⟨_,_,_,Qaxm _ h0⟩
  refine Qa ?_;rcases hcase with rfl|⟨a,m,n,rfl⟩
  ·simp only[go_sem,hm1,hH,how,hok,hln,hrw,hsz,hro,tn,Jax];refine Qg (Qc rfl (fun h=>by cases h) (fun _=>?_));refine Qf ?_;simp only[go_sem];exact tail code _ _ (Qawc code).symm kn rfl rfl rfl
  ·simp only[go_sem,hm1,hH,how,hok,hln,hrw,hsz,hro,tn];refine Qg (Qc rfl (fun h=>by cases h) (fun _=>?_));refine Qf ?_;simp only[go_sem];exact tail code _ _ (Qawc code).symm kn rfl rfl rfl
 ·rw[hf]at htop;have hr2:=hrow;rw[row3]at hr2;have hge:decide ((0:Int)≤(i:Int))=true:=decide_eq_true (by omega);refine Qa ?_;simp only[go_sem,hge,hH,how,hok,hln,hrw,hsz,hlt,hr2];have he:decide (((x.2.2:Nat):Int)=((r.length:Nat):Int))=decide (x.2.2=r.length):=by rw[decide_eq_decide];omega
  simp only[Jac,J4]at htop;rw[←htop]at he;rw[he];refine Qg (Qc rfl (fun hc2=>?_) (fun hc2=>?_))
  ·refine Qp ?_;simp only[go_sem];refine Qacx how hH fun H1 hu=>?_;have kn:=kn.callL 0 rfl hu (by nofun);simp only[go_sem,AE.X.next];refine tail _ _ _ ?_ kn rfl rfl rfl;have:Qfv (b::r) s=true:=by simpa using hc2
   rw[this];rfl
  ·refine Qf ?_;simp only[go_sem,AE.X.next];refine tail code _ _ ?_ kn rfl rfl rfl;have:Qfv (b::r) s=false:=by simpa using hc2
   rw[this];exact (Qawc code).symm
theorem Qa0t {l:List Fn}{fl:Bool}{name:List UInt8}(hK:K (.c (.int .i64 (ixI (Qk7 l name)))) H):Qj prog Qqv [.ag [.sl fl 3 (Q3 l)],.c (.str name)] H K:=by
 refine Qb Qad Qbid ?_;have retf:∀(n:Int) (e:Env),n=ixI (Qk7 l name)→lk 4 e=.c (.int .i64 n)→Qq Qpr K .ret e H:=by
  intro b e hn h1;simp only[go_sem,Qq,Q7,Qpr,Ja,forall_eq,RS.op,h1];rw[hn];exact hK
 refine Qa ?_;simp only[go_sem];refine Q5 ?_;refine Qa ?_;simp only[go_sem];refine Qg (Qe (Q2 (fun n e1 H1=>∃(i:Nat),n=l.length-i∧i≤l.length∧H1=H∧(∀f∈l.take i,¬f.name=name)∧e1=[(1,.c (.str name)),(2,.c (.pp [.sl fl 3 (Q3 l)])),(5,.c (.int .i64 i))]) l.length ?_ ?_))
 ·exact⟨0,by omega,by omega,rfl,by simp,rfl⟩
 ·rintro n e1 H1 ⟨i,hn1,hi,rfl,hall,rfl⟩;refine Q5 ?_;refine Qa ?_;simp only[go_sem,Qx];intro hl;simp only[LIM]at hl;refine Qg (Qc rfl ?_ ?_)
  ·intro hc;have hlt:i<l.length:=by simpa using hc
   refine Qf ?_;simp only[go_sem];refine Qg (Qe ?_);refine Qa ?_;simp only[go_sem,hlt,Qx,Qat _ _ hlt,Fn.cells];refine Qc rfl ?_ ?_
   ·intro hc2;have hnm:l[i].name=name:=(by simpa using hc2);refine Qa ?_;simp only[go_sem];refine Qi ?_;simp only[go_sem,AE.X.next];exact retf i _ (by rw[Qbg0 hlt hnm hall];rfl) rfl
   ·intro hc2;have hnm:¬l[i].name=name:=(by simpa using hc2);refine Qf ?_;simp only[go_sem];refine Qp ?_;simp only[go_sem,AE.X.next];refine⟨Qm (by omega) (by omega),l.length-(i+1),by omega,i+1,rfl,by omega,?_,rfl⟩;rw[Jd hlt];intro x hx;rcases Jl.1 hx with hx|hx
    ·exact hall x hx
    ·simp only[Ja]at hx;subst hx;exact hnm
  ·intro hc;have hge:l.length≤i:=by simpa using hc
   rw[Jb hge]at hall;refine Q1 ?_;simp only[go_sem,AE.X.next];refine Qa ?_;simp only[go_sem];refine Qi ?_;exact retf (-1) _ (by rw[Qbg1 hall];rfl) rfl
abbrev exO (op n:Int)(nm:List UInt8)(kc:C):Obj:=.st [.int .i64 op,.int .i64 n,.str nm,kc]
theorem Qbot {w k cnt:Nat}{fl:Bool}{fns:List Fn}{vc:C}{Lg:List (Nat×Obj)}{v:Vars}(hg:Gp Lg 3 (Qb2 v) vc):∀(n:Nat) (x:Ex) (code:Int) (H:Heap) (K:V→Heap→Prop),
  x.size≤n→x.size≤2^38→((w::Lg.map Prod.fst).Nodup)→(∀p∈(w,wO fl fns k vc cnt code)::Lg,H p.1=p.2)→
  (∀(y:Ex) H',Upd H H' ((w,wO fl fns k vc cnt (Qbk fns k v x.pre code))::Lg)→K (.ag y.cells) H')→Qj prog Qjm [.c (.ptr w 0),.ag x.cells] H K:=by
 have how:=hg.isOw;intro n
 induction n with
 |zero=>intro x code H K h;have:=x.size_pos;omega
 |succ n ih=>
 intro x code H K hn hb hnd hh hK;have hsz:=x.size_kids;have hne:∀c,∀p∈(w,wO fl fns k vc cnt c)::Lg,p.2≠.none:=by
  intro c p hp;rcases Jh.1 hp with rfl|hp
  ·nofun
  ·exact hg.ne p hp
 have kn:Kn H H ((w,wO fl fns k vc cnt code)::Lg) []:=.startE (fun p hp=>⟨hh p hp,hne _ p hp⟩) hnd;refine Qn ?_;refine Qb Qad Qayi ?_;refine Qa ?_;simp only[go_sem,x.cells_eq];intro x3 hx3 H1 h1;have kn:=kn.al hx3 h1;simp only[go_sem,Qvt];intro x4 hx4 H2 h2;have kn:Kn H H2 ((w,wO fl fns k vc cnt code)::Lg) [(x3,exO x.op x.n x.name (.sl false 4 (Qw x.kids))),(x4,exO 0 0 [] (.sl true 4 []))]:=kn.al hx4 h2;try simp only[go_sem]
 have three:∀(H1:Heap) (e1:Env) (nm:List UInt8),Kn H H1 ((w,wO fl fns k vc cnt (Qc4 code (Qhi fns k v x)))::Lg) [(x3,exO x.op x.n nm (.sl false 4 (Qw x.kids))),(x4,exO 0 0 [] (.sl true 4 []))]→
   lk 0 e1=.c (.ptr w 0)→lk 3 e1=.c (.ptr x3 0)→lk 4 e1=.c (.ptr x4 0)→Q8 prog Qld (Qq Qps (unK H K)) e1 H1:=by
  intro H1 e1 nm kn f0 f3 f4;refine Qa ?_;simp only[go_sem,f0,f3,f4];refine Q5 ?_;refine Qa ?_;simp only[go_sem];refine Qg (Qe (Q2 (fun m e2 H2=>∃(j:Nat) (ks:List Ex) (Lk:List (Nat×Obj)) (t:C),m=x.kids.length-j∧j≤x.kids.length∧Gr Lk 4 (Qw ks) t∧ks.length=j∧
   Kn H H2 ((w,wO fl fns k vc cnt (Qbk fns k v (Qac (x.kids.take j)) (Qc4 code (Qhi fns k v x))))::Lg) ([(x3,exO x.op x.n nm (.sl false 4 (Qw x.kids))),(x4,exO 0 0 [] (.sl true 4 []))]++Lk)∧
   e2=[(0,.c (.ptr w 0)),(3,.c (.ptr x3 0)),(4,.c (.ptr x4 0)),(6,.c t),(7,.c (.int .i64 j))]) x.kids.length ?_ ?_))
  ·exact⟨0,[],[],.sl true 4 [],by omega,by omega,.nil 4,rfl,by simpa[Qac,Qbk]using kn,rfl⟩
  ·clear kn f0 f3 f4;rintro m e2 H2 ⟨j,ks,Lk,t,hm,hj,hgk,hks,kn,rfl⟩;have hto:=hgk.isOw;have g3:=kn.l 0 rfl;refine Q5 ?_;refine Qa ?_;simp only[go_sem,g3,hto,Ql];intro hl;simp only[LIM]at hl;refine Qg (Qc rfl ?_ ?_)
   ·intro hc;have hlt:j<x.kids.length:=(by simpa using hc);have hms:=Qar (Je hlt);obtain⟨y,hy⟩:∃y,x.kids[j]=y:=⟨_,rfl⟩;have htk:=Qs0 hlt;rw[hy]at hms htk;refine Qf ?_;try simp only[go_sem]
    refine Qg (Qe ?_);refine Qp ?_;simp only[go_sem,g3,hto,hlt,Ql,Qaq _ _ hlt,hy,y.cells_eq];have hih:=fun K=>ih y (Qbk fns k v (Qac (x.kids.take j)) (Qc4 code (Qhi fns k v x))) H2 K;rw[y.cells_eq]at hih;refine hih _ (by omega) (by omega) hnd (fun p hp=>(kn.get p (Jc _ hp)).1) fun z H5 hu=>?_;have kn:=kn.callAll hu rfl (hne _);simp only[go_sem,Qvx,hto,z.cells_len];refine kn.growR hgk (.mk' _ true 4 _) (by simpa using z.noOw) (by simp only[Ql,Jn,Jp,LIM];omega) fun t' Lk' H6 hg' hto' kn=>?_;rw[Qf1]at hg';simp only[go_sem,Qvw,hto'];refine Qp ?_;simp only[go_sem,AE.X.next,hto'];refine⟨Qm (by omega) (by omega),x.kids.length-(j+1),by omega,j+1,ks++[z],Lk',t',rfl,by omega,hg',by simp[hks],?_,rfl⟩;rw[htk,Qadw];exact kn
   ·intro hc;have hge:x.kids.length≤j:=(by simpa using hc);rw[Jb hge]at kn;refine Q1 ?_;simp only[go_sem,AE.X.next];refine Qa ?_;simp only[go_sem,g3,hto];intro H3 h3;have kn:=kn.stL 0 rfl h3;have g3:=kn.l 0 rfl;have g4:=kn.l 1 rfl;refine Qa ?_;simp only[go_sem,g3,g4,hto];intro H4 h4;have kn:=kn.stL 1 rfl h4;have g4:=kn.l 1 rfl;refine Qi ?_;simp only[go_sem,Qq,Q7,Qps,Ja,forall_eq,RS.op,g4,hto];refine⟨.ag (Ex.mk x.op x.n nm ks).cells,?_,hK (Ex.mk x.op x.n nm ks) _ ?_⟩
    ·rw[Ex.cells_eq];exact (FrzL.cons (Qd rfl) (.cons (Qd rfl) (.cons (Qd rfl) (.cons (hgk.frz (B:=[_,_]) kn (Qa5 _)) .nil)))).ag
    ·rw[x.pre_eq];exact kn.fin
 have two:∀(H1:Heap) (e1:Env) (nm:List UInt8) (code1:Int),(x.op=2→code1=Qc4 code (Qhi fns k v x))→(¬x.op=2→code1=code∧nm=x.name)→Kn H H1 ((w,wO fl fns k vc cnt code1)::Lg) [(x3,exO x.op x.n nm (.sl false 4 (Qw x.kids))),(x4,exO 0 0 [] (.sl true 4 []))]→
   lk 0 e1=.c (.ptr w 0)→lk 3 e1=.c (.ptr x3 0)→lk 4 e1=.c (.ptr x4 0)→Q8 prog Qvs (Qq Qps (unK H K)) e1 H1:=by
  intro H1 e1 nm code1 hc1 hc2 kn f0 f3 f4;have g3:=kn.l 0 rfl;have gw:=kn.e 0 rfl;refine Q5 ?_;refine Qa ?_;simp only[go_sem,f0,f3,f4,g3];refine Qg (Qc rfl ?_ ?_)
  ·intro hc;have h13:x.op=13:=by simpa using hc
   have h2:¬x.op=2:=by omega
   obtain⟨ec,en⟩:=hc2 h2;rw[ec,en]at kn;rw[ec]at gw;rw[en]at g3;have hpc:=Qbbh fns k v x;rw[if_neg h2,if_pos h13]at hpc;refine Qaf ?_;simp only[go_sem,g3,gw,how];refine Qa0t ?_;simp only[go_sem,Qvv];have bad:∀(e2:Env),Qhi fns k v x=4→lk 0 e2=.c (.ptr w 0)→lk 3 e2=.c (.ptr x3 0)→lk 4 e2=.c (.ptr x4 0)→lk 35 e2=.c (.bool true)→Q8 prog Q12 (X.sq prog Qld (Qq Qps (unK H K))) e2 H1:=by
    intro e2 hp f0 f3 f4 f35;refine Qc (c:=true) f35 (fun _=>?_) (fun h=>by cases h);refine Qp ?_;simp only[go_sem,f0,f3,f4];refine Qacx how gw fun H3 hu=>?_;have kn:=kn.callE 0 rfl hu (by nofun);rw[←hp]at kn;simp only[go_sem,AE.X.next];exact three _ _ _ kn rfl rfl rfl
   cases hx:Qk7 fns x.name with
   |none=>
    rw[hx]at hpc;refine Qa ?_;simp only[go_sem,ixI,gw,how];exact bad _ hpc rfl rfl rfl rfl
   |some j=>
    rw[hx]at hpc;obtain⟨hj,_,_⟩:=Qx8 hx;simp only[hj,Jaf,Jac,J4]at hpc;have hd0:decide ((j:Int)<0)=false:=decide_eq_false (by omega);refine Qa ?_;simp only[go_sem,ixI,gw,how,hd0];by_cases hkj:k≤j
    ·have hd:decide ((k:Int)≤(j:Int))=true:=decide_eq_true (by omega);rw[if_pos hkj]at hpc;refine bad _ hpc rfl rfl rfl ?_;simp[lk,hkj]
    ·have hd:decide ((k:Int)≤(j:Int))=false:=decide_eq_false (by omega);rw[if_neg hkj]at hpc;refine Qc (c:=false) (by simp[Opd.raw,lk];omega) (fun h=>by cases h) (fun _=>?_);refine Qaf ?_;simp only[go_sem,g3,gw,how,hj,Qx,Qat _ _ hj,Fn.cells,Qo,Ql];refine Qc rfl ?_ ?_
     ·intro hc4;have hne:¬fns[j].params.length=x.kids.length:=by
       have h:=Qk9 hc4;rw[decide_eq_false_iff_not]at h;omega
      rw[if_neg hne]at hpc;refine Qp ?_;simp only[go_sem];refine Qacx how gw fun H3 hu=>?_;have kn:=kn.callE 0 rfl hu (by nofun);rw[←hpc]at kn;simp only[go_sem,AE.X.next];exact three _ _ _ kn rfl rfl rfl
     ·intro hc4;have he:fns[j].params.length=x.kids.length:=by
       have h:=Qeh hc4;rw[decide_eq_true_eq]at h;omega
      rw[if_pos he]at hpc;refine Qf ?_;simp only[go_sem,AE.X.next];refine three _ _ x.name ?_ rfl rfl rfl;rw[hpc,Qawc];exact kn
  ·intro hc;have h13:¬x.op=13:=by simpa using hc
   refine Qf ?_;simp only[go_sem,AE.X.next];refine three _ _ nm ?_ rfl rfl rfl;by_cases h2:x.op=2
   ·rw[←hc1 h2];exact kn
   ·obtain⟨ec,_⟩:=hc2 h2;rw[ec]at kn;have hpc:=Qbbh fns k v x;rw[if_neg h2,if_neg h13]at hpc;rw[hpc,Qawc];exact kn
 have g3:=kn.l 0 rfl;have gw:=kn.e 0 rfl;refine Q5 ?_;refine Qa ?_;simp only[go_sem,g3];refine Qg (Qc rfl ?_ ?_)
 ·intro hc;have h2:x.op=2:=by simpa using hc
  have hpc:Qhi fns k v x=if (v.find x.name).isSome then 0 else 3:=by rw[Qhi,if_pos h2]
  refine Qp ?_;simp only[go_sem,g3];refine Qbk0 how gw (hg.slc fun p hp=>(kn.get p (by simp[hp])).1) fun t H3 hu=>?_;have kn:=kn.callE 0 rfl hu (by nofun);have g3:=kn.l 0 rfl;simp only[go_sem,Qvu,g3];intro H4 h4;have kn:=kn.stL 0 rfl h4;try simp only[go_sem,AE.X.next]
  exact two _ _ t _ (fun _=>by rw[hpc]) (fun h=>absurd h2 h) kn rfl rfl rfl
 ·intro hc;have h2:¬x.op=2:=by simpa using hc
  refine Qf ?_;simp only[go_sem,AE.X.next];exact two _ _ x.name code (fun h=>absurd h h2) (fun _=>⟨rfl,rfl⟩) kn rfl rfl rfl
end Go.AE.Y
namespace Go.AE
variable {H0 H H' F:Heap}{E L B A M:List (Nat×Obj)}{S:Nat→Bool}
theorem Kn.sub {L':List (Nat×Obj)}(kn:Kn H0 H E L)(hs:L'.Sublist L):Kn H0 H E L':=
 ⟨fun p hp=>kn.get p (by
   rcases Jl.1 hp with h|h
   ·exact Jc _ h
   ·exact Jj _ (hs.subset h)),kn.ext,fun p hp=>kn.loc p (hs.subset hp),kn.dE,kn.dL.sublist (hs.map _),kn.chg⟩
theorem Kn.stM {x:Nat}{o o':Obj}(kn:Kn H0 H E (A++(x,o)::B))(h1:H'=H.set x o')(ho:o'≠.none:=by nofun):Kn H0 H' E (A++(x,o')::B):=by
 have:=kn.stL A.length (x:=x) (o:=o) (by simp) h1 ho;simpa using this
theorem Kn.getM {x:Nat}{o:Obj}(kn:Kn H0 H E (A++(x,o)::B)):H x=o:=(kn.get (x,o) (by simp)).1
theorem Qbg3 {e e':Env}(h:∀p∈e',FrzV H S (lk p.1 e) p.2):∀t,FrzV H S (lk t e) (lk t e'):=fun t=>by
 induction e' with
 |nil=>exact .unk _
 |cons p e' ih=>
  obtain⟨s,v⟩:=p;by_cases ht:t=s
  ·subst ht;have:=h (t,v) Js;simpa[lk]using this
  ·have:=ih fun p hp=>h p (Jg _ hp);simpa[lk,ht]using this
end Go.AE
namespace Go.AE.Y
attribute [local go_sem] cond_true cond_false Bool.not_true Bool.not_false
open Go.Proofs.Tryz
variable {H H0 F:Heap}{K:V→Heap→Prop}{E E' L:List (Nat×Obj)}
def StsW (w k:Nat)(fl:Bool)(fns:List Fn)(n:Nat):Prop:=∀(sts:List St) (f5:Bool) (b:List (List UInt8×Nat)) (r:Vars) (s:Ck) (vc:C) (Lg:List (Nat×Obj)) (F H:Heap) (K:V→Heap→Prop),
 Qh sts≤n→s.v=b::r→(r≠[]→b=[])→Gp Lg 3 (Qb2 (b::r)) vc→Kn F H [] ((w,wO fl fns k vc s.n s.c)::Lg)→(Qb2 (b::r)).length≤s.n→s.n+Qh sts≤2^38→r.length+Qh sts≤2^38→
 (∀out H' vc' Lg',(r=[]→Gp Lg' 3 (Qb2 (Qau fns k sts s).v) vc')→(r≠[]→Gp Lg' 3 (Qb2 r) vc')→Kn F H' [] ((w,wO fl fns k vc' (Qau fns k sts s).n (Qau fns k sts s).c)::Lg')→K (.c (.sl false 5 (Qk out))) H')→
 Qj prog Qec [.c (.ptr w 0),.c (.sl f5 5 (Qk sts)),.c (.int .i64 r.length)] H K
abbrev stX (op:Int)(nm:List UInt8)(a b c:C):Obj:=.st [.int .i64 op,.str nm,a,b,c]
theorem Qbkx {w k x10 i many:Nat}{fl f5:Bool}{fns:List Fn}{x:St}{sts:List St}{outs:List St}{ars:List Ex}{nm:List UInt8}{t vc:C}{Lz Lg:List (Nat×Obj)}{e:Env}{Q:X→Env→Heap→Prop}{s1:Ck}{b1:List (List UInt8×Nat)}{r:Vars}
  (hN:∀n,n<x.size→StsW w k fl fns n) (hv:s1.v=b1::r) (hg:Gp Lg 3 (Qb2 (b1::r)) vc) (hz:Gr Lz 5 (Qk outs) t) (ho:outs.length<2^38)
  (kn:Kn F H [] (((w,wO fl fns k vc s1.n s1.c)::Lg)++((x10,stX x.op nm (.sl false 4 (Qw ars)) (.sl false 5 (Qk x.body)) (.sl false 5 (Qk x.els)))::Lz)))
  (hrow:(Qb2 (b1::r)).length≤s1.n) (hn:s1.n+Qh x.body+Qh x.els≤2^38) (hr:r.length+x.size≤2^38)
  (f0:lk 0 e=.c (.ptr w 0)) (f1:lk 1 e=.c (.sl f5 5 (Qk sts))) (f2:lk 2 e=.c (.int .i64 r.length)) (f7:lk 7 e=.c t) (f8:lk 8 e=.c (.int .i64 many)) (f9:lk 9 e=.c (.int .i64 i)) (f10:lk 10 e=.c (.ptr x10 0))
  (hQ:∀(s2 s3:Ck) H' out vc' Lg' Lz' t',Qau fns k x.body ⟨[]::s1.v,s1.c,s1.n⟩=s2→Qau fns k x.els ⟨[]::s1.v,s2.c,s2.n⟩=s3→Gp Lg' 3 (Qb2 (b1::r)) vc'→Gr Lz' 5 (Qk (outs++[out])) t'→
   Kn F H' [] (((w,wO fl fns k vc' s3.n s3.c)::Lg')++Lz')→Q .nrm [(0,.c (.ptr w 0)),(1,.c (.sl f5 5 (Qk sts))),(2,.c (.int .i64 r.length)),(7,.c t'),(8,.c (.int .i64 many)),(9,.c (.int .i64 i))] H') :
  Q8 prog Qjc Q e H:=by
 have hto:=hz.isOw;have hse:=x.size_eq;have g10:=kn.getM;have elen:((r.length:Int)+1)=(((b1::r).length:Nat):Int):=by simp
 obtain⟨s2,hs2⟩:∃s2,Qau fns k x.body ⟨[]::s1.v,s1.c,s1.n⟩=s2:=⟨_,rfl⟩;obtain⟨s3,hs3⟩:∃s3,Qau fns k x.els ⟨[]::s1.v,s2.c,s2.n⟩=s3:=⟨_,rfl⟩;have hn2:=Qaar fns k x.body ⟨[]::s1.v,s1.c,s1.n⟩;rw[hs2]at hn2;simp only at hn2;refine Qa ?_;simp only[go_sem,f0,f1,f2,f7,f8,f9,f10,g10,hto];refine⟨Qm (by omega) (by omega),?_⟩;rw[elen];obtain⟨F',kn',back⟩:=kn.side;refine hN (Qh x.body) (by omega) x.body false [] (b1::r) ⟨[]::s1.v,s1.c,s1.n⟩ vc Lg F' H _ (Jt _) (by rw[hv]) (fun _=>rfl) (by rw[Qsw];exact hg) kn' (by rw[Qsw];exact hrow) (by show s1.n+_≤_;omega) (by simp only[Jn];omega) fun out1 H1 vc1 Lg1 _ hg1 kn=>?_;have hg1:=hg1 (by simp);rw[hs2]at kn;have kn:=back _ _ kn;clear back kn';have g10:=kn.getM;simp only[go_sem,Qpy,f0,f1,f2,f7,f8,f9,f10,g10,hto];intro H2 h2;have kn:=kn.stM h2;have g10:=kn.getM;refine Qa ?_;simp only[go_sem,g10,hto];refine⟨Qm (by omega) (by omega),?_⟩;rw[elen];obtain⟨F',kn',back⟩:=kn.side;refine hN (Qh x.els) (by omega) x.els false [] (b1::r) ⟨[]::s1.v,s2.c,s2.n⟩ vc1 Lg1 F' H2 _ (Jt _) (by rw[hv]) (fun _=>rfl) (by rw[Qsw];exact hg1) kn' (by rw[Qsw];show _≤s2.n;omega) (by show s2.n+_≤_;omega) (by simp only[Jn];omega) fun out2 H3 vc2 Lg2 _ hg2 kn=>?_;have hg2:=hg2 (by simp);rw[hs3]at kn;have kn:=back _ _ kn;clear back kn';have g10:=kn.getM;simp only[go_sem,Qpz,g10,hto];intro H4 h4;have kn:=kn.stM h4;have g10:=kn.getM;refine Qp ?_;simp only[go_sem,g10,hto];have kn:Kn F H4 [] ((((w,wO fl fns k vc2 s3.n s3.c)::Lg2)++[(x10,stX x.op nm (.sl false 4 (Qw ars)) (.sl false 5 (Qk out1)) (.sl false 5 (Qk out2)))])++Lz):=by
  rw[Jo];exact kn
 refine kn.growR hz (new:=[(St.mk x.op nm ars out1 out2).cells]) (.mk' _ true 5 _) (by simpa using (St.mk x.op nm ars out1 out2).noOw) (by simp only[Qv,Jn,Jp,LIM];omega) fun t' Lz' H5 hz' hto' kn=>?_;rw[Qaxk]at hz';simp only[go_sem,Qp0,hto'];refine hQ s2 s3 H5 (St.mk x.op nm ars out1 out2) vc2 Lg2 Lz' t' hs2 hs3 hg2 hz' ?_;refine kn.sub ?_;rw[Jo];exact List.Sublist.append (List.Sublist.refl _) (List.sublist_append_right _ _)
theorem Qbrw {w k x10 i many:Nat}{fl f5:Bool}{fns:List Fn}{x:St}{sts:List St}{outs:List St}{ars:List Ex}{t vc:C}{Lz Lg:List (Nat×Obj)}{e:Env}{Q:X→Env→Heap→Prop}{s:Ck}{b:List (List UInt8×Nat)}{r:Vars}
  (hN:∀n,n<x.size→StsW w k fl fns n) (hv:s.v=b::r) (hg:Gp Lg 3 (Qb2 (b::r)) vc) (hz:Gr Lz 5 (Qk outs) t) (ho:outs.length<2^38)
  (kn:Kn F H [] (((w,wO fl fns k vc s.n (Qbk fns k (b::r) (Qac x.args) s.c))::Lg)++((x10,stX x.op x.name (.sl false 4 (Qw ars)) (.sl false 5 (Qk x.body)) (.sl false 5 (Qk x.els)))::Lz)))
  (hrow:(Qb2 (b::r)).length≤s.n) (hn:s.n+x.size≤2^38) (hr:r.length+x.size≤2^38)
  (f0:lk 0 e=.c (.ptr w 0)) (f1:lk 1 e=.c (.sl f5 5 (Qk sts))) (f2:lk 2 e=.c (.int .i64 r.length)) (f7:lk 7 e=.c t) (f8:lk 8 e=.c (.int .i64 many)) (f9:lk 9 e=.c (.int .i64 i)) (f10:lk 10 e=.c (.ptr x10 0))
  (hQ:∀H' out vc' Lg' Lz' t' b1,(x.ck fns k s).v=b1::r→Gp Lg' 3 (Qb2 (b1::r)) vc'→(Qb2 (b1::r)).length≤(x.ck fns k s).n→Gr Lz' 5 (Qk (outs++[out])) t'→
   Kn F H' [] (((w,wO fl fns k vc' (x.ck fns k s).n (x.ck fns k s).c)::Lg')++Lz')→Q .nrm [(0,.c (.ptr w 0)),(1,.c (.sl f5 5 (Qk sts))),(2,.c (.int .i64 r.length)),(7,.c t'),(8,.c (.int .i64 many)),(9,.c (.int .i64 i))] H') :
  Q8 prog Qsb Q e H:=by
 have hto:=hz.isOw;have hse:=x.size_eq;have how:=hg.isOw;have g10:=kn.getM;obtain⟨s1,hs1⟩:∃s1,stC fns k x.op x.name x.args s=s1:=⟨_,rfl⟩;have hn1:=Qbtl fns k x.op x.name x.args s;have hr1:=Qbod fns k x.op x.name x.args s hv hrow;obtain⟨b1,hv1⟩:=Qboe fns k x.op x.name x.args s hv;have hc1:=Qbo6 fns k x.op x.name x.args s;rw[hs1]at hn1 hr1 hv1 hc1;rw[hv1]at hr1;rw[hv]at hc1;have hck:=x.ck_eq fns k s;rw[hs1]at hck;have tail:∀(H1:Heap) (e1:Env) (nm:List UInt8) (vc1:C) (Lg1:List (Nat×Obj)),Gp Lg1 3 (Qb2 (b1::r)) vc1→
   Kn F H1 [] (((w,wO fl fns k vc1 s1.n s1.c)::Lg1)++((x10,stX x.op nm (.sl false 4 (Qw ars)) (.sl false 5 (Qk x.body)) (.sl false 5 (Qk x.els)))::Lz))→
   lk 0 e1=.c (.ptr w 0)→lk 1 e1=.c (.sl f5 5 (Qk sts))→lk 2 e1=.c (.int .i64 r.length)→lk 7 e1=.c t→lk 8 e1=.c (.int .i64 many)→lk 9 e1=.c (.int .i64 i)→lk 10 e1=.c (.ptr x10 0)→
   Q8 prog Qjc Q e1 H1:=by
  intro H1 e1 nm vc1 Lg1 hg1 kn f0 f1 f2 f7 f8 f9 f10;refine Qbkx hN hv1 hg1 hz ho kn hr1 (by omega) hr f0 f1 f2 f7 f8 f9 f10 fun s2 s3 H' out vc' Lg' Lz' t' e2 e3 hg' hz' kn=>?_;rw[e2,e3]at hck;refine hQ H' out vc' Lg' Lz' t' b1 (by rw[hck];exact hv1) hg' ?_ hz' (by rw[hck];exact kn);have:=(St.ck_n fns k x s).1;rw[hck]at this⊢;have h2:=Qaar fns k x.body ⟨[]::s1.v,s1.c,s1.n⟩;have h3:=Qaar fns k x.els ⟨[]::s1.v,s2.c,s2.n⟩;rw[e2]at h2;rw[e3]at h3;simp only at h2 h3⊢;omega
 refine Q5 ?_;refine Qa ?_;simp only[go_sem,f0,f1,f2,f7,f8,f9,f10,g10,hto];refine Qg (Qc rfl ?_ ?_)
 ·intro hc;have h1:x.op=1:=by simpa using hc
  have es1:s1=⟨((x.name,s.n)::b)::r,Qc4 (Qbk fns k (b::r) (Qac x.args) s.c) (if Qfv (b::r) x.name then 2 else 0),s.n+1⟩:=by
   rw[←hs1,stC,if_pos h1,hv];rfl
  rw[es1]at tail hv1;simp only[Jak]at hv1;obtain⟨hb1,_⟩:=hv1;subst hb1;refine Qp ?_;simp only[go_sem,g10,hto];obtain⟨F',kn',back⟩:=kn.side;refine Qbky hg kn' (by omega) (by simp only[LIM];omega) fun t2 H1 vc1 Lg1 hg1 kn=>?_;have kn:=back _ _ kn;have g10:=kn.getM;simp only[go_sem,Qsg,g10,hto];intro H2 h2;have kn:=kn.stM h2;have g10:=kn.getM;try simp only[go_sem,AE.X.next,hto]
  refine Q5 ?_;refine Qa ?_;simp only[go_sem,g10,hto];refine Qg (Qc rfl (fun h=>?_) (fun _=>?_))
  ·have:=of_decide_eq_true h;omega
  ·refine Qf ?_;try simp only[go_sem,AE.X.next,hto]
   exact tail _ _ t2 vc1 Lg1 hg1 kn rfl rfl rfl rfl rfl rfl rfl
 ·intro hc;have h1:¬x.op=1:=by simpa using hc
  refine Qf ?_;try simp only[go_sem,AE.X.next,hto]
  refine Q5 ?_;refine Qa ?_;simp only[go_sem,g10,hto];refine Qg (Qc rfl ?_ ?_)
  ·intro hc2;have h2:x.op=2:=by simpa using hc2
   have es1:s1=⟨b::r,Qc4 (Qbk fns k (b::r) (Qac x.args) s.c) (if (Vars.find (b::r) x.name).isSome then 0 else 3),s.n⟩:=by
    rw[←hs1,stC,if_neg h1,if_pos h2,hv]
   rw[es1]at tail hv1;simp only[Jak]at hv1;obtain⟨hb1,_⟩:=hv1;subst hb1;refine Qp ?_;simp only[go_sem,g10,hto];refine Qbk0 how (kn.l 0 rfl) (hg.slc fun p hp=>(kn.get p (by simp[hp])).1) fun t2 H1 hu=>?_;have kn:Kn F H1 [] (((w,wO fl fns k vc s.n (Qc4 (Qbk fns k (b::r) (Qac x.args) s.c) (if (Vars.find (b::r) x.name).isSome then 0 else 3)))::Lg)++((x10,stX x.op x.name (.sl false 4 (Qw ars)) (.sl false 5 (Qk x.body)) (.sl false 5 (Qk x.els)))::Lz)):=kn.callL 0 rfl hu (by nofun);have g10:=kn.getM;simp only[go_sem,Qsh,g10,hto];intro H2 h2;have kn:=kn.stM h2;try simp only[go_sem,AE.X.next,hto]
   exact tail _ _ t2 vc Lg hg kn rfl rfl rfl rfl rfl rfl rfl
  ·intro hc2;have h2:¬x.op=2:=by simpa using hc2
   have es1:s1=⟨b::r,Qbk fns k (b::r) (Qac x.args) s.c,s.n⟩:=by
    rw[←hs1,stC,if_neg h1,if_neg h2,hv]
   rw[es1]at tail hv1;simp only[Jak]at hv1;obtain⟨hb1,_⟩:=hv1;subst hb1;refine Qf ?_;try simp only[go_sem,AE.X.next,hto]
   exact tail _ _ x.name vc Lg hg kn rfl rfl rfl rfl rfl rfl rfl
theorem Qbkz (w k:Nat)(fl:Bool)(fns:List Fn):∀n,StsW w k fl fns n:=by
 intro n
 induction n using Nat.strongRecOn with
 |_ n ih=>
 intro sts f5 b r s vc Lg F H K hn hsv hbr hg kn hrow hsn hrl hK;have how:=hg.isOw;have hslen:=Qcd sts;refine Qakp ?_;refine Qb Qad Qash ?_;refine Qa ?_;simp only[go_sem];refine Qa ?_;simp only[go_sem];have gw:=kn.l 0 rfl;have hs0:=hg.slc fun p hp=>(kn.get p (by simp[hp])).1;have hok0:=eq_true hs0.ok;have hln0:=hs0.len;refine Qa ?_;simp only[go_sem,gw,how,hok0,hln0];intro hl0;simp only[LIM]at hl0;refine Q5 ?_;refine Qa ?_;simp only[go_sem];refine Qg (Qe (Q2 (fun m e1 H1=>∃(i:Nat) (outs:List St) (Lz Lgi:List (Nat×Obj)) (t vci:C) (bi:List (List UInt8×Nat)),m=sts.length-i∧i≤sts.length∧(Qau fns k (sts.take i) s).v=bi::r∧Gr Lz 5 (Qk outs) t∧outs.length=i∧
   Gp Lgi 3 (Qb2 (bi::r)) vci∧(Qb2 (bi::r)).length≤(Qau fns k (sts.take i) s).n∧Kn F H1 [] (((w,wO fl fns k vci (Qau fns k (sts.take i) s).n (Qau fns k (sts.take i) s).c)::Lgi)++Lz)∧
   e1=[(0,.c (.ptr w 0)),(1,.c (.sl f5 5 (Qk sts))),(2,.c (.int .i64 r.length)),(7,.c t),(8,.c (.int .i64 (Qb2 (b::r)).length)),(9,.c (.int .i64 i))]) sts.length ?_ ?_))
 ·exact⟨0,[],[],Lg,.sl true 5 [],vc,b,by omega,by omega,by simpa[Qau]using hsv,.nil 5,rfl,hg,by simpa[Qau]using hrow,by simpa[Qau]using kn,rfl⟩
 ·clear kn gw hs0 hok0 hln0;rintro m e1 H1 ⟨i,outs,Lz,Lgi,t,vci,bi,hm,hi,hvi,hz,hol,hgi,hri,kn,rfl⟩;have hni:=Qaar fns k (sts.take i) s;have hsl:=Qbm sts i;obtain⟨si,hsi⟩:∃si,Qau fns k (sts.take i) s=si:=⟨_,rfl⟩;rw[hsi]at hvi kn hri hni;have hto:=hz.isOw;have howi:=hgi.isOw;refine Q5 ?_;refine Qa ?_;simp only[go_sem,hto,Qv];intro hl;simp only[LIM]at hl;refine Qg (Qc rfl ?_ ?_)
  ·intro hc;have hlt:i<sts.length:=by simpa using hc
   have hms:=Qbl (Je hlt);obtain⟨x,hx⟩:∃x,sts[i]=x:=⟨_,rfl⟩;have htk:=Qaxi fns k hlt s;have hst:=Qgz hlt;have hsl2:=Qbm sts (i+1);rw[hx]at hms hst;rw[hsi,hx]at htk;have hse:=x.size_eq;refine Qf ?_;try simp only[go_sem]
   refine Qg (Qe ?_);refine Qa ?_;simp only[go_sem,hto,hlt,Qv,Qbg _ _ hlt,hx,x.cells_eq];intro x10 hx10 H3 h3;have kn:Kn F H3 [] (((w,wO fl fns k vci si.n si.c)::Lgi)++((x10,stX 0 [] (.sl true 4 []) (.sl true 5 []) (.sl true 5 []))::Lz)):=(kn.al hx10 h3).perm (by
    rw[Jo];exact List.Perm.append_left _ (List.perm_append_comm (l₁:=Lz) (l₂:=[(x10,_)])))
   have g10:=kn.getM;simp only[go_sem,Qsd,g10,hto];intro H4 h4;have kn:Kn F H4 [] (((w,wO fl fns k vci si.n si.c)::Lgi)++((x10,stO x)::Lz)):=kn.stM h4;have g10:=kn.getM;refine Qa ?_;simp only[go_sem,hto];refine Q5 ?_;refine Qa ?_;simp only[go_sem,hto];refine Qg (Qe (Q2 (fun m e2 H5=>∃(j:Nat) (ars:List Ex) (La:List (Nat×Obj)) (ta:C),m=x.args.length-j∧j≤x.args.length∧Gr La 4 (Qw ars) ta∧ars.length=j∧
    Kn F H5 [] ((((w,wO fl fns k vci si.n (Qbk fns k (bi::r) (Qac (x.args.take j)) si.c))::Lgi)++((x10,stO x)::Lz))++La)∧
    e2=[(0,.c (.ptr w 0)),(1,.c (.sl f5 5 (Qk sts))),(2,.c (.int .i64 r.length)),(7,.c t),(8,.c (.int .i64 (Qb2 (b::r)).length)),(9,.c (.int .i64 i)),(10,.c (.ptr x10 0)),(11,.c ta),(12,.c (.int .i64 j))]) x.args.length ?_ ?_))
   ·exact⟨0,[],[],.sl true 4 [],by omega,by omega,.nil 4,rfl,by simpa[Qac,Qbk]using kn,rfl⟩
   ·clear kn g10 h4 h3;rintro m2 e2 H5 ⟨j,ars,La,ta,hm2,hj,hga,hars,kn,rfl⟩;have hao:=hga.isOw;have kn2:Kn F H5 [] (((w,wO fl fns k vci si.n (Qbk fns k (bi::r) (Qac (x.args.take j)) si.c))::Lgi)++((x10,stO x)::(Lz++La))):=by
     rw[Jo]at kn;exact kn
    have g10:=kn2.getM;refine Q5 ?_;refine Qa ?_;simp only[go_sem,hto,hao,g10,Ql];intro hl2;simp only[LIM]at hl2;refine Qg (Qc rfl ?_ ?_)
    ·intro hc2;have hlt2:j<x.args.length:=(by simpa using hc2);have hms2:=Qar (Je hlt2);obtain⟨y,hy⟩:∃y,x.args[j]=y:=⟨_,rfl⟩;have htk2:=Qs0 hlt2;rw[hy]at hms2 htk2;refine Qf ?_;try simp only[go_sem]
     refine Qg (Qe ?_);refine Qp ?_;simp only[go_sem,hto,hao,g10,hlt2,Ql,Qaq _ _ hlt2,hy,y.cells_eq];have hE:=fun K=>Qbot (k:=k) (w:=w) (cnt:=si.n) (fl:=fl) (fns:=fns) hgi y.size y (Qbk fns k (bi::r) (Qac (x.args.take j)) si.c) H5 K;rw[y.cells_eq]at hE;have hnd:(w::Lgi.map Prod.fst).Nodup:=by
      have:=kn2.dL;rw[Jv]at this;exact (J8.1 this).1
     refine hE _ (Jt _) (by omega) hnd (fun p hp=>(kn2.get p (by simp only[Jab];exact Jc _ hp)).1) fun z H6 hu=>?_;have kn:=Kn.callLs (L:=(w,wO fl fns k vci si.n (Qbk fns k (bi::r) (Qac (x.args.take j)) si.c))::Lgi) (M:=(x10,stO x)::(Lz++La)) kn2 hu rfl (by
      intro p hp;rcases Jh.1 hp with rfl|hp
      ·nofun
      ·exact hgi.ne p hp)
     simp only[go_sem,Qsf,hto,hao,z.cells_len];have kn:Kn F H6 [] ((((w,wO fl fns k vci si.n (Qbk fns k (bi::r) y.pre (Qbk fns k (bi::r) (Qac (x.args.take j)) si.c)))::Lgi)++((x10,stO x)::Lz))++La):=by
      rw[Jo];exact kn
     refine kn.growR hga (.mk' _ true 4 _) (by simpa using z.noOw) (by simp only[Ql,Jn,Jp,LIM];omega) fun ta' La' H7 hga' hao' kn=>?_;rw[Qf1]at hga';simp only[go_sem,Qse,hto,hao'];refine Qp ?_;simp only[go_sem,AE.X.next,hto,hao'];refine⟨Qm (by omega) (by omega),x.args.length-(j+1),by omega,j+1,ars++[z],La',ta',rfl,by omega,hga',by simp[hars],?_,rfl⟩;rw[htk2,Qadw];exact kn
    ·intro hc2;have hge2:x.args.length≤j:=(by simpa using hc2);rw[Jb hge2]at kn;refine Q1 ?_;simp only[go_sem,AE.X.next];obtain⟨S,H6,f1,f2,kn⟩:=hga.freeze kn (Qa5 _);refine Q5 ?_;refine c_gh (Qi4 S (Qbg3 ?_) f2) (e':=[(0,.c (.ptr w 0)),(1,.c (.sl f5 5 (Qk sts))),(2,.c (.int .i64 r.length)),(7,.c t),(8,.c (.int .i64 (Qb2 (b::r)).length)),(9,.c (.int .i64 i)),(10,.c (.ptr x10 0)),(11,.c (.sl false 4 (Qw ars)))]) ?_
     ·intro p hp;simp only[Jh,Jr,or_false]at hp;rcases hp with rfl|rfl|rfl|rfl|rfl|rfl|rfl|rfl
      ·exact .c _ _ (.same _ rfl)
      ·exact .c _ _ (.same _ rfl)
      ·exact .c _ _ (.same _ rfl)
      ·exact .c _ _ (.same _ hto)
      ·exact .c _ _ (.same _ rfl)
      ·exact .c _ _ (.same _ rfl)
      ·exact .c _ _ (.same _ rfl)
      ·exact .c _ _ f1
     have g10:=kn.getM;refine Qa ?_;simp only[go_sem,hto,g10];intro H7 h7;have kn:=kn.stM h7;refine Qbrw (fun n' hn'=>ih n' (by omega)) hvi hgi hz (by omega) kn hri (by omega) (by omega) rfl rfl rfl rfl rfl rfl rfl fun H8 out vc8 Lg8 Lz8 t8 b8 hv8 hg8 hr8 hz8 kn=>?_;have hto8:=hz8.isOw;simp only[go_sem,AE.X.next,hto8];refine Qp ?_;simp only[go_sem,AE.X.next,hto8];refine⟨Qm (by omega) (by omega),sts.length-(i+1),by omega,i+1,outs++[out],Lz8,Lg8,t8,vc8,b8,rfl,by omega,?_,hz8,by simp[hol],hg8,?_,?_,rfl⟩
     ·rw[htk];exact hv8
     ·rw[htk];exact hr8
     ·rw[htk];exact kn
  ·intro hc;have hge:sts.length≤i:=by simpa using hc
   rw[Jb hge]at hsi;have gw:=kn.l 0 rfl;have hsi2:=hgi.slc fun p hp=>(kn.get p (by simp[hp])).1;have hoki:=eq_true hsi2.ok;have hlni:=hsi2.len;have hszi:=hsi2.sz;refine Q1 ?_;simp only[go_sem,AE.X.next];have fin:∀(H':Heap) (e':Env) (vc':C),(r=[]→Gp Lgi 3 (Qb2 si.v) vc')→(r≠[]→Gp Lgi 3 (Qb2 r) vc')→Kn F H' [] (((w,wO fl fns k vc' si.n si.c)::Lgi)++Lz)→lk 7 e'=.c t→Q8 prog Qsc (Qq Qbo3 (finK K)) e' H':=by
    intro H' e' vc' h1 h2 kn f7;refine Qa ?_;simp only[go_sem,f7,hto];refine Qi ?_;simp only[go_sem,Qq,Q7,Qbo3,Ja,forall_eq,RS.op,hto];obtain⟨S,H6,f1,f2,kn⟩:=hz.freeze kn (Qa9 _);refine⟨S,_,H6,.c _ _ f1,f2,?_⟩;rw[hsi]at hK;exact hK outs H6 vc' Lgi h1 h2 kn
   refine Q5 ?_;refine Qa ?_;simp only[go_sem,hto];refine Qg (Qc rfl ?_ ?_)
   ·intro hc2;have hr0:r≠[]:=by
     intro h;rw[h]at hc2;simp at hc2
    have hb0:=hbr hr0;rw[hb0,Qsw];have hle:=Qbos bi r;have hcut:=hgi.cut hle;rw[Qbf7]at hcut;refine Qp ?_;simp only[go_sem,gw,howi,hto,hoki,hlni,hszi,bnds,Jav,Jac,Jah,J4];refine⟨⟨by omega,by omega⟩,?_⟩;intro H7 h7;have hco:=hcut.isOw;have kn:=kn.stL 0 rfl h7;try simp only[go_sem,AE.X.next,hto]
    exact fin _ _ _ (fun h=>absurd h hr0) (fun _=>hcut) kn rfl
   ·intro hc2;have hr0:r=[]:=by
     cases hr:r with
     |nil=>rfl
     |cons a q=>rw[hr]at hc2;simp only[Jn,decide_eq_false_iff_not]at hc2;omega
    refine Qf ?_;try simp only[go_sem,AE.X.next,hto]
    exact fin _ _ vci (fun _=>by rw[hvi];exact hgi) (fun h=>absurd hr0 h) kn rfl
end Go.AE.Y
namespace Go.AE
variable {H0 H H' F:Heap}{E L B A M:List (Nat×Obj)}{p:Nat×Obj}
theorem Kn.stM2 {x:Nat}{o o':Obj}(kn:Kn H0 H E (A++p::(x,o)::B))(h1:H'=H.set x o')(ho:o'≠.none:=by nofun):Kn H0 H' E (A++p::(x,o')::B):=by
 have k2:Kn H0 H E ((A++[p])++(x,o)::B):=by rw[Jo];exact kn
 have k3:=k2.stM h1 ho;rw[Jo]at k3;exact k3
theorem Kn.getM2 {x:Nat}{o:Obj}(kn:Kn H0 H E (A++p::(x,o)::B)):H x=o:=(kn.get (x,o) (by simp)).1
end Go.AE
namespace Go.AE.Y
attribute [local go_sem] cond_true cond_false Bool.not_true Bool.not_false
open Go.Proofs.Tryz
variable {H H0 F:Heap}{K:V→Heap→Prop}{E E' L:List (Nat×Obj)}
theorem Qbsp (l:List Fn)(s:List UInt8)(k:Nat):decide (ixI (Qk7 l s)=(k:Int))=decide (Qk7 l s=some k):=by
 rw[decide_eq_decide]
 cases Qk7 l s with
 |none=>simp only[ixI];constructor
        ·intro h;omega
        ·intro h;cases h
 |some j=>simp only[ixI,J2];omega
theorem Qbsr {fns:List Fn}{fl:Bool}{k:Nat}(hk:k<fns.length)(hb:Qh fns[k].body≤2^36)(hp:fns[k].params.length≤2^30)
  (hK:∀(f':Fn) (cnt:Nat) H',Upd H H' []→K (.tup [.ag f'.cells,.c (.int .i64 (fnCk fns k).c),.c (.int .i64 cnt)]) H'):Qj prog Qa55 [.ag [.sl fl 3 (Q3 fns)],.c (.int .i64 k)] H K:=by
 obtain⟨f,hfe⟩:∃f,fns[k]=f:=⟨_,rfl⟩;have hfc:fnCk fns k=Qau fns k f.body (Qq5 f.params ⟨[[]],ixC fns k f.name,0⟩):=by
  rw[fnCk,Jaf hk,hfe];rfl
 rw[hfe]at hb hp;obtain⟨s0,hs0⟩:∃s0:Ck,(⟨[[]],ixC fns k f.name,0⟩:Ck)=s0:=⟨_,rfl⟩;rw[hs0]at hfc;have hs0v:s0.v=[[]]:=by rw[←hs0]
 have hs0n:s0.n=0:=by rw[←hs0]
 have hs0c:s0.c=ixC fns k f.name:=by rw[←hs0]
 refine Qn ?_;refine Qb Qad Qbsx ?_;refine Qa ?_;simp only[go_sem];intro x4 hx4 H1 h1;have kn:=(Kn.start0 H).al hx4 h1;simp only[go_sem,Qa3s];refine Qa ?_;simp only[go_sem];intro w hw H2 h2;have kn:=kn.al hw h2;simp only[go_sem,Qa3t];refine Qa ?_;simp only[go_sem,hk,Qx,Qat _ _ hk,hfe,Fn.cells];intro x8 hx8 H3 h3;have kn:=kn.al hx8 h3;have g8:=kn.l 2 rfl;simp only[go_sem,Qa3u,g8];intro H4 h4;have kn:=kn.stL 2 rfl h4;have kn:Kn H H4 [] (((w,wO fl fns k (.sl true 3 []) 0 0)::[])++(x4,.st [.str [],.sl true 1 [],.sl true 5 []])::(x8,fnO f)::[]):=kn.perm (.swap _ _ _);have g8:=kn.getM2;refine Q5 ?_;refine Qa ?_;simp only[go_sem,g8];refine Qa0t ?_;have hix:=Qbsp fns f.name k;simp only[go_sem,Qa3v,hix];have two:∀(H1:Heap) (e1:Env),Kn H H1 [] (((w,wO fl fns k (.sl true 3 []) 0 (ixC fns k f.name))::[])++(x4,.st [.str [],.sl true 1 [],.sl true 5 []])::(x8,fnO f)::[])→lk 4 e1=.c (.ptr x4 0)→lk 7 e1=.c (.ptr w 0)→lk 8 e1=.c (.ptr x8 0)→
   Q8 prog Qa3r (Qq Qbiq (unK H K)) e1 H1:=by
  intro H1 e1 kn f4 f7 f8;have kn:Kn H H1 [] (((w,wO fl fns k (.sl true 3 []) s0.n s0.c)::[])++(x4,.st [.str [],.sl true 1 [],.sl true 5 []])::(x8,fnO f)::[]):=by rw[hs0n,hs0c];exact kn
  refine Qa ?_;simp only[go_sem,f4,f7,f8];refine Q5 ?_;refine Qa ?_;simp only[go_sem];refine Qg (Qe (Q2 (fun m e2 H2=>∃(j:Nat) (ps:List (List UInt8)) (Lg Lp:List (Nat×Obj)) (vc t:C) (bj:List (List UInt8×Nat)),m=f.params.length-j∧j≤f.params.length∧(Qq5 (f.params.take j) s0).v=[bj]∧(Qq5 (f.params.take j) s0).n=j∧(Qb2 [bj]).length≤j∧
   Gp Lg 3 (Qb2 [bj]) vc∧Gr Lp 1 (Q9 ps) t∧ps.length=j∧
   Kn H H2 [] (((w,wO fl fns k vc (Qq5 (f.params.take j) s0).n (Qq5 (f.params.take j) s0).c)::Lg)++(x4,.st [.str [],.sl true 1 [],.sl true 5 []])::(x8,fnO f)::Lp)∧
   e2=[(4,.c (.ptr x4 0)),(7,.c (.ptr w 0)),(8,.c (.ptr x8 0)),(9,.c t),(10,.c (.int .i64 j))]) f.params.length ?_ ?_))
  ·exact⟨0,[],[],[],.sl true 3 [],.sl true 1 [],[],by omega,by omega,hs0v,hs0n,by simp[Qb2,vT],.nil 3,.nil 1,rfl,kn,rfl⟩
  ·clear kn;rintro m e2 H2 ⟨j,ps,Lg,Lp,vc,t,bj,hm,hj,hvj,hnj,hrj,hg,hgp,hps,kn,rfl⟩;obtain⟨sj,hsj⟩:∃sj,Qq5 (f.params.take j) s0=sj:=⟨_,rfl⟩;rw[hsj]at hvj kn hnj;have hto:=hgp.isOw;have g8:=kn.getM2;refine Q5 ?_;refine Qa ?_;simp only[go_sem,g8,hto,Qo];intro hl;simp only[LIM]at hl;refine Qg (Qc rfl ?_ ?_)
   ·intro hc;have hlt:j<f.params.length:=(by simpa using hc);obtain⟨p,hpe⟩:∃p,f.params[j]=p:=⟨_,rfl⟩;have hpd:f.params.getD j []=p:=(by simp[Jf,hlt,hpe]);have htk:=Qa2d hlt s0;rw[hsj,hpe,hvj]at htk;refine Qf ?_;try simp only[go_sem]
    refine Qg (Qe ?_);refine Qp ?_;simp only[go_sem,g8,hto,hlt,Qo,Qbs _ _ hlt,hpd];obtain⟨F',kn',back⟩:=kn.side;refine Qbky (r:=[]) hg kn' (by omega) (by simp only[LIM];omega) fun t2 H5 vc' Lg' hg' kn=>?_;have kn:=back _ _ kn;simp only[go_sem,Qa3x,hto];have kn:Kn H H5 [] ((((w,wO fl fns k vc' (sj.n+1) (Qc4 sj.c (if Qfv [bj] p then 2 else 0)))::Lg')++[(x4,.st [.str [],.sl true 1 [],.sl true 5 []]),(x8,fnO f)])++Lp):=(by rw[Jo];exact kn);refine kn.growR hgp (.mk' _ true 1 _) (by simp[noOw,C.isOw]) (by simp only[Qo,Jn,Jp,LIM];omega) fun t' Lp' H6 hgp' hto' kn=>?_;rw[Quy]at hgp';simp only[go_sem,Qa3w,hto'];refine Qp ?_;simp only[go_sem,AE.X.next,hto'];refine⟨Qm (by omega) (by omega),f.params.length-(j+1),by omega,j+1,ps++[t2],Lg',Lp',vc',t',(p,sj.n)::bj,rfl,by omega,?_,?_,?_,hg',hgp',by simp[hps],?_,rfl⟩
    ·rw[htk];simp[Qaj]
    ·rw[htk];simp[hnj]
    ·rw[Qarz];simp only[List.length_append,List.length_singleton];omega
    ·rw[htk];rw[Jo]at kn;exact kn
   ·intro hc;have hge:f.params.length≤j:=(by simpa using hc);rw[Jb hge]at hsj;rw[hsj]at hfc;refine Q1 ?_;simp only[go_sem,AE.X.next];refine Qa ?_;simp only[go_sem,g8,hto];intro H5 h5;have kn:=kn.stM2 h5;have g8:=kn.getM2;refine Qa ?_;simp only[go_sem,g8,hto];obtain⟨F',kn',back⟩:=kn.side;refine Qbkz w k fl fns (Qh f.body) f.body false bj [] sj vc Lg F' H5 _ (Jt _) hvj (fun h=>absurd rfl h) hg kn' (by omega) (by omega) (by simp only[Jp];omega) fun out H6 vc' Lg' _ _ kn=>?_;have kn:=back _ _ kn;rw[←hfc]at kn;have g8:=kn.getM2;simp only[go_sem,Qawz,g8,hto];intro H7 h7;have kn:=kn.stM2 h7;have g8:=kn.getM2;have g4:=kn.getM;have gw:=kn.l 0 rfl;refine Qaf ?_;simp only[go_sem,g8,g4,gw,hto];intro H8 h8;have kn:=kn.stM h8;have g8:=kn.getM2;have g4:=kn.getM;have gw:=kn.l 0 rfl;simp only[go_sem,Qaw0,g8,g4,gw,hto];refine Qi ?_;simp only[go_sem,Qq,Q7,Qbiq,Jx,Jr,RS.op,g4,hto];have kn2:Kn H H8 [] ((((w,wO fl fns k vc' (fnCk fns k).n (fnCk fns k).c)::Lg')++[(x4,.st [.str f.name,t,.sl false 5 (Qk out)]),(x8,.st [.str f.name,t,.sl false 5 (Qk out)])])++Lp):=(by rw[Jo];exact kn);refine⟨fun _=>trivial,.tup [.ag (Fn.cells ⟨f.name,ps,out⟩),.c (.int .i64 (fnCk fns k).c),.c (.int .i64 (fnCk fns k).n)],.tup _ _ rfl (fun j x x' h1 h2=>?_),hK ⟨f.name,ps,out⟩ _ _ kn.fin⟩;rcases j with _|_|_|j
    ·simp only[J7,J2]at h1 h2;subst h1 h2;exact (FrzL.cons (Qd rfl) (.cons (hgp.frz kn2 (Qb1 _)) (.cons (Qd rfl) .nil))).ag
    ·simp only[Jag,J7,J2]at h1 h2;subst h1 h2;exact .c _ _ (Qd rfl)
    ·simp only[Jag,J7,J2]at h1 h2;subst h1 h2;exact .c _ _ (Qd rfl)
    ·simp at h1
 refine Qg (Qc rfl ?_ ?_)
 ·intro hc;have hne:¬Qk7 fns f.name=some k:=by simpa using hc
  rw[ixC,if_neg hne]at two;refine Qp ?_;simp only[go_sem];refine Qacx rfl (kn.l 0 rfl) fun H5 hu=>?_;have kn:=kn.callL 0 rfl hu (by nofun);simp only[go_sem,AE.X.next];exact two _ _ kn rfl rfl rfl
 ·intro hc;have he:Qk7 fns f.name=some k:=by simpa using hc
  rw[ixC,if_pos he]at two;refine Qf ?_;simp only[go_sem,AE.X.next];exact two _ _ kn rfl rfl rfl
theorem Qbkm {l:List Fn}{fl:Bool}(hf:Qs l≤2^36)(hK:∀H',Upd H H' []→K (.c (.int .i64 (Qahw l))) H'):Qj prog Qhc [.ag [.sl fl 3 (Q3 l)]] H K:=by
 refine Qn ?_;refine Qb Qad Qadu ?_;have retf:∀(b:Int) (e:Env) (H':Heap) (L:List (Nat×Obj)),Qahw l=b→Kn H H' [] L→lk 2 e=.c (.int .i64 b)→Qq Qfh (unK H K) .ret e H':=by
  intro b e H' L hf kn h4;simp only[go_sem,Qq,Q7,Qfh,Ja,forall_eq,RS.op,h4];refine⟨_,.c _ _ (Qd rfl),?_⟩;rw[←hf];exact hK _ kn.fin
 have kn:=Kn.start0 H;refine Qa ?_;simp only[go_sem];refine Q5 ?_;refine Qa ?_;simp only[go_sem];refine Qako (by omega) ?_;simp only[go_sem,Qmx];refine Qg (Qc rfl ?_ ?_)
 ·intro hc;have hb:Qqf l=false:=by simpa using hc
  refine Qa ?_;simp only[go_sem];refine Qi ?_;simp only[go_sem,AE.X.next];exact retf 1 _ _ _ (by rw[Qahw,hb];rfl) kn rfl
 intro hc;have hb:Qqf l=true:=by simpa using hc
 have hpc:Qahw l=ckK l l.length:=by rw[Qahw,if_pos hb]
 have hv:=hb;simp only[Qqf,Jq,decide_eq_true_eq,Jy]at hv;refine Qf ?_;try simp only[go_sem]
 refine Q5 ?_;refine Qa ?_;simp only[go_sem];refine Qg (Qe (Q2 (fun m e1 H1=>∃(i:Nat),m=l.length-i∧i≤l.length∧Kn H H1 [] []∧ckK l i=0∧e1=[(1,.c (.pp [.sl fl 3 (Q3 l)])),(3,.c (.int .i64 i))]) l.length ?_ ?_))
 ·exact⟨0,by omega,by omega,kn,rfl,rfl⟩
 ·clear kn;rintro m e1 H1 ⟨i,hm,hi,kn,hc0,rfl⟩;refine Q5 ?_;refine Qa ?_;simp only[go_sem,Qx];intro hl;simp only[LIM]at hl;refine Qg (Qc rfl ?_ ?_)
  ·intro hc;have hlt:i<l.length:=by simpa using hc
   have hms:=Qbf (Je hlt);have hfm:=hv.1.2 _ (Je hlt);have hpl:l[i].params.length≤3:=by
    rw[Fn.form]at hfm;simp only[Jq,decide_eq_true_eq]at hfm;exact hfm.1.2
   have hsu:=Qaxq l i;rw[hc0]at hsu;refine Qf ?_;try simp only[go_sem]
   refine Qg (Qe ?_);refine Qa ?_;simp only[go_sem];refine Qbsr hlt (by omega) (by omega) fun f' cnt H2 hu=>?_;have kn:=kn.call0 hu;simp only[go_sem,Qm0,Ji,Jk,Fn.cells];intro x4 hx4 H3 h3;have kn:=kn.al hx4 h3;have g4:=kn.l 0 rfl;simp only[go_sem,Qmz,g4,Fn.cells];intro H4 h4;have kn:=kn.stL 0 rfl h4;simp only[go_sem,Qmy];refine Qa ?_;simp only[go_sem];refine Qc rfl ?_ ?_
   ·intro hc2;have hne:(fnCk l i).c≠0:=(by simpa using hc2);refine Qa ?_;simp only[go_sem];refine Qi ?_;simp only[go_sem,AE.X.next];refine retf _ _ _ _ ?_ kn rfl;rw[hpc];exact Qbla l (by rw[hsu,Qc4,if_pos rfl]) hne _ (by omega)
   ·intro hc2;have he:(fnCk l i).c=0:=(by simpa using hc2);refine Qf ?_;try simp only[go_sem]
    refine Qp ?_;simp only[go_sem,AE.X.next];refine⟨Qm (by omega) (by omega),l.length-(i+1),by omega,i+1,rfl,by omega,Kn.drop (A:=[]) kn,?_,rfl⟩;rw[hsu,he];rfl
  ·intro hc;have hge:l.length≤i:=by simpa using hc
   have hil:i=l.length:=by omega
   subst hil;refine Q1 ?_;simp only[go_sem,AE.X.next];refine Qa ?_;simp only[go_sem];refine Qi ?_;exact retf 0 _ _ _ (by rw[hpc,hc0]) kn rfl
theorem Qboc {l:List Fn}{fl:Bool}(hf:Qs l≤2^36)(hK:∀H',Upd H H' []→K (.c (.bool (Qak3 l))) H'):Qj prog Qak9 [.ag [.sl fl 3 (Q3 l)]] H K:=by
 refine Qb Qad Qbmy ?_;refine Qa ?_;simp only[go_sem];refine Qa ?_;simp only[go_sem];refine Qbkm hf fun H1 hu=>?_;simp only[go_sem,Qapn];refine Qi ?_;simp only[go_sem,Qq,Q7,Qfh,Ja,forall_eq,RS.op];exact hK _ hu
end Go.AE.Y
namespace Go.AE.Y
structure OInts where
 ns:List Int
 y:Nat
def OInts.c (x:OInts):C:=.vsl x.y 1 0 x.ns.length
def OInts.lg (x:OInts):List (Nat×Obj):=[(x.y,.vec 1 (Q0 x.ns))]
structure OPhi where
 to:Int
 ns:List Int
 ac:C
 lg:List (Nat×Obj)
def OPhi.row (x:OPhi):List C:=[.int .i64 x.to,x.ac]
def OPhi.ok (x:OPhi):Prop:=(∃y,x.ac=.vsl y 1 0 x.ns.length∧x.lg=[(y,.vec 1 (Q0 x.ns))])∨(∃fl,x.ac=.sl fl 1 (Q0 x.ns)∧x.lg=[])
def OPhi.own (x:OPhi):Prop:=∃y,x.ac=.vsl y 1 0 x.ns.length∧x.lg=[(y,.vec 1 (Q0 x.ns))]
structure OIns where
 op:Int
 to:Int
 a:OInts
 n:Int
def OIns.row (x:OIns):List C:=[.int .i64 x.op,.int .i64 x.to,x.a.c,.int .i64 x.n]
def OIns.lg (x:OIns):List (Nat×Obj):=x.a.lg
structure OBlk where
 phis:List OPhi
 pc:C
 pl:List (Nat×Obj)
 ins:List OIns
 ic:C
 il:List (Nat×Obj)
 jump:Int
 on:Int
 nx:OInts
def OBlk.row (x:OBlk):List C:=[x.pc,x.ic,.int .i64 x.jump,.int .i64 x.on,x.nx.c]
def OBlk.lg (x:OBlk):List (Nat×Obj):=x.nx.lg++(x.phis.flatMap OPhi.lg++(x.pl++(x.ins.flatMap OIns.lg++x.il)))
structure OBlk.ok (x:OBlk):Prop where
 p:Gr x.pl 2 (x.phis.map OPhi.row) x.pc
 i:Gr x.il 4 (x.ins.map OIns.row) x.ic
 a:∀p∈x.phis,p.ok
structure OCode where
 params:Int
 regs:Int
 blocks:List OBlk
 bc:C
 bl:List (Nat×Obj)
def OCode.row (x:OCode):List C:=[.int .i64 x.params,.int .i64 x.regs,x.bc]
def OCode.lg (x:OCode):List (Nat×Obj):=x.blocks.flatMap OBlk.lg++x.bl
structure OCode.ok (x:OCode):Prop where
 b:Gr x.bl 5 (x.blocks.map OBlk.row) x.bc
 bs:∀b∈x.blocks,b.ok
def OPhi.d (x:OPhi):PhiD:=⟨x.to,x.ns⟩
def OIns.d (x:OIns):InsD:=⟨x.op,x.to,x.a.ns,x.n⟩
def OBlk.d (x:OBlk):BlkD:=⟨x.phis.map OPhi.d,x.ins.map OIns.d,x.jump,x.on,x.nx.ns⟩
def OCode.d (x:OCode):CodeD:=⟨x.params,x.regs,x.blocks.map OBlk.d⟩
theorem OPhi.noOw (x:OPhi)(h:x.ok):Go.AE.noOw x.row=true:=by
 rcases h with ⟨y,h,_⟩|⟨fl,h,_⟩ <;> simp only[Go.AE.noOw,OPhi.row,h] <;> rfl
theorem OIns.noOw (x:OIns):Go.AE.noOw x.row=true:=rfl
theorem OBlk.noOw (x:OBlk)(h:x.ok):Go.AE.noOw x.row=true:=by
 simp only[Go.AE.noOw,OBlk.row,OInts.c,J9,Jad,h.p.isOw,h.i.isOw];rfl
theorem OCode.noOw (x:OCode)(h:x.ok):Go.AE.noOw x.row=true:=by
 simp only[Go.AE.noOw,OCode.row,J9,Jad,h.b.isOw];rfl
variable {H:Heap}{S:Nat→Bool}
def Held (H:Heap)(S:Nat→Bool)(l:List (Nat×Obj)):Prop:=∀p∈l,H p.1=p.2∧S p.1=true
theorem Held.l {a b:List (Nat×Obj)}(h:Held H S (a++b)):Held H S a:=fun p hp=>h p (Jc _ hp)
theorem Held.r {a b:List (Nat×Obj)}(h:Held H S (a++b)):Held H S b:=fun p hp=>h p (Jj _ hp)
theorem Held.m {α:Type}{f:α→List (Nat×Obj)}{l:List α}(h:Held H S (l.flatMap f)){x:α}(hx:x∈l):Held H S (f x):=fun p hp=>h p (List.mem_flatMap.2 ⟨x,hx,hp⟩)
theorem OInts.frz (x:OInts)(h:Held H S x.lg):FrzC H S x.c (.sl false 1 (Q0 x.ns)):=by
 obtain⟨h1,h2⟩:=h (x.y,.vec 1 (Q0 x.ns)) (by simp[OInts.lg]);exact (FrzR.same (Qay _)).vsl h2 h1 (by simp[Q0])
theorem OPhi.frz (x:OPhi)(hok:x.ok)(h:Held H S x.lg):FrzL H S x.row (PhiD.mk x.to x.ns).cells:=by
 refine .cons (Qd rfl) (.cons ?_ .nil);rcases hok with ⟨y,h1,h2⟩|⟨fl,h1,h2⟩
 ·obtain⟨h3,h4⟩:=h (y,.vec 1 (Q0 x.ns)) (by rw[h2];simp);rw[h1];exact (FrzR.same (Qay _)).vsl h4 h3 (by simp[Q0])
 ·rw[h1];exact (FrzR.same (Qay _)).sl
theorem OIns.frz (x:OIns)(h:Held H S x.lg):FrzL H S x.row (InsD.mk x.op x.to x.a.ns x.n).cells:=.cons (Qd rfl) (.cons (Qd rfl) (.cons (x.a.frz h) (.cons (Qd rfl) .nil)))
theorem Qa58 {α β:Type}{f:α→List C}{g:β→List C}:∀(l:List α),(∀x∈l,∃y,FrzL H S (f x) (g y))→∃l':List β,FrzR H S (l.map f) (l'.map g)∧l'.length=l.length
 |[],_=>⟨[],.nil,rfl⟩
 |x::l,h=>by
  obtain⟨y,hy⟩:=h x Js;obtain⟨l',hl',hn⟩:=Qa58 l fun z hz=>h z (Jg _ hz);exact⟨y::l',.cons hy hl',by simp[hn]⟩
theorem Qaa2 {α β:Type}{P:β→Prop}{f:α→List C}{g:β→List C}:∀(l:List α),(∀x∈l,∃y,FrzL H S (f x) (g y)∧P y)→∃l':List β,FrzR H S (l.map f) (l'.map g)∧l'.length=l.length∧∀y∈l',P y
 |[],_=>⟨[],.nil,rfl,by simp⟩
 |x::l,h=>by
  obtain⟨y,hy,hp⟩:=h x Js;obtain⟨l',hl',hn,hps⟩:=Qaa2 l fun z hz=>h z (Jg _ hz);refine⟨y::l',.cons hy hl',by simp[hn],fun z hz=>?_⟩;rcases Jh.1 hz with rfl|hz
  ·exact hp
  ·exact hps z hz
theorem OBlk.frz (x:OBlk)(hok:x.ok)(h:Held H S x.lg):∃d:BlkD,FrzL H S x.row d.cells∧d.next=x.nx.ns∧d.ins.length=x.ins.length∧d.phis.length=x.phis.length:=by
 obtain⟨ps,hps,hpn⟩:=Qa58 (H:=H) (S:=S) (f:=OPhi.row) (g:=PhiD.cells) x.phis fun p hp=>⟨_,p.frz (hok.a p hp) (h.r.l.m hp)⟩;obtain⟨is,his,hin⟩:=Qa58 (H:=H) (S:=S) (f:=OIns.row) (g:=InsD.cells) x.ins fun p hp=>⟨_,p.frz (h.r.r.r.l.m hp)⟩;exact⟨⟨ps,is,x.jump,x.on,x.nx.ns⟩,.cons (Gr.frzM hok.p h.r.r.l hps) (.cons (Gr.frzM hok.i h.r.r.r.r his) (.cons (Qd rfl) (.cons (Qd rfl) (.cons (x.nx.frz h.l) .nil)))),rfl,hin,hpn⟩
end Go.AE.Y
namespace Go.AE.Y
structure BlkD.sm (b:BlkD):Prop where
 n:b.next.length≤2
 i:b.ins.length≤1000
 p:b.phis.length≤1000
 ia:∀x∈b.ins,x.args.length≤1000
 pa:∀x∈b.phis,x.args.length≤1000
structure CodeD.sm (c:CodeD):Prop where
 b0:0<c.blocks.length
 b:c.blocks.length≤160
 bs:∀b∈c.blocks,b.sm
 p0:0≤c.params
 p1:c.params≤1000
structure OBlk.sm (b:OBlk)(N:Nat):Prop where
 n:b.nx.ns.length≤2
 i:b.ins.length≤1000
 p:b.phis.length≤N
 ia:∀x∈b.ins,x.a.ns.length≤N
 pa:∀x∈b.phis,x.ns.length≤N
structure OCode.sm (c:OCode)(N:Nat):Prop where
 b0:0<c.blocks.length
 b:c.blocks.length≤160
 bs:∀b∈c.blocks,b.sm N
 p0:0≤c.params
 p1:c.params≤1000
theorem OBlk.sm.mono {b:OBlk}{N M:Nat}(h:b.sm N)(hm:N≤M):b.sm M:=⟨h.n,h.i,by have:=h.p;omega,fun x hx=>by have:=h.ia x hx;omega,fun x hx=>by have:=h.pa x hx;omega⟩
theorem OCode.sm.mono {c:OCode}{N M:Nat}(h:c.sm N)(hm:N≤M):c.sm M:=⟨h.b0,h.b,fun b hb=>(h.bs b hb).mono hm,h.p0,h.p1⟩
structure BlkD.sg (b:BlkD):Prop where
 n:b.next.length≤1000000
 i:b.ins.length≤1000000
 p:b.phis.length≤1000000
 ia:∀x∈b.ins,x.args.length≤1000000
 pa:∀x∈b.phis,x.args.length≤1000000
structure CodeD.sg (c:CodeD):Prop where
 b:c.blocks.length≤1000000
 bs:∀b∈c.blocks,b.sg
theorem BlkD.sm.sg {b:BlkD}(h:b.sm):b.sg:=⟨by have:=h.n;omega,by have:=h.i;omega,by have:=h.p;omega,fun x hx=>by have:=h.ia x hx;omega,fun x hx=>by have:=h.pa x hx;omega⟩
theorem CodeD.sm.sg {c:CodeD}(h:c.sm):c.sg:=⟨by have:=h.b;omega,fun b hb=>(h.bs b hb).sg⟩
structure CodeD.gd (c:CodeD):Prop where
 b0:0<c.blocks.length
 b1:c.blocks.length≤160
 n:∀b∈c.blocks,b.next.length≤2
 f:c.fits
 s:c.sg
theorem CodeD.sm.fits {c:CodeD}(h:c.sm):c.fits:=fun b hb=>⟨by have:=(h.bs b hb).i;omega,by have:=(h.bs b hb).p;omega⟩
theorem CodeD.sm.gd {c:CodeD}(h:c.sm):c.gd:=⟨h.b0,h.b,fun b hb=>(h.bs b hb).n,h.fits,h.sg⟩
variable {H:Heap}{S:Nat→Bool}
theorem Qakf {α β:Type}{f:α→List C}{g:β→List C}{d:α→β}:∀(l:List α),(∀x∈l,FrzL H S (f x) (g (d x)))→FrzR H S (l.map f) ((l.map d).map g)
 |[],_=>.nil
 |x::l,h=>.cons (h x Js) (Qakf l fun z hz=>h z (Jg _ hz))
theorem OBlk.frzD (x:OBlk)(hok:x.ok)(h:Held H S x.lg):FrzL H S x.row x.d.cells:=by
 have hps:=Qakf (H:=H) (S:=S) (f:=OPhi.row) (g:=PhiD.cells) (d:=OPhi.d) x.phis fun p hp=>p.frz (hok.a p hp) (h.r.l.m hp);have his:=Qakf (H:=H) (S:=S) (f:=OIns.row) (g:=InsD.cells) (d:=OIns.d) x.ins fun p hp=>p.frz (h.r.r.r.l.m hp);exact .cons (Gr.frzM hok.p h.r.r.l hps) (.cons (Gr.frzM hok.i h.r.r.r.r his) (.cons (Qd rfl) (.cons (Qd rfl) (.cons (x.nx.frz h.l) .nil))))
theorem OCode.frz (x:OCode){N:Nat}(hN:N≤100000)(hok:x.ok)(hs:x.sm N)(h:Held H S x.lg):∃d:CodeD,FrzL H S x.row d.cells∧d.gd:=by
 have hbs:=Qakf (H:=H) (S:=S) (f:=OBlk.row) (g:=BlkD.cells) (d:=OBlk.d) x.blocks fun b hb=>b.frzD (hok.bs b hb) (h.l.m hb);have hb0:=hs.b0;have hb1:=hs.b;have hd:∀d∈x.blocks.map OBlk.d,d.next.length≤2∧d.ins.length≤1000∧d.phis.length≤N∧(∀i∈d.ins,i.args.length≤N)∧∀i∈d.phis,i.args.length≤N:=fun d hd=>by
  obtain⟨b,hb,rfl⟩:=Jm.1 hd;have hsb:=hs.bs b hb;refine⟨hsb.n,by simpa[OBlk.d]using hsb.i,by simpa[OBlk.d]using hsb.p,fun i hi=>?_,fun i hi=>?_⟩
  ·obtain⟨y,hy,rfl⟩:=Jm.1 hi;exact hsb.ia y hy
  ·obtain⟨y,hy,rfl⟩:=Jm.1 hi;exact hsb.pa y hy
 refine⟨⟨x.params,x.regs,x.blocks.map OBlk.d⟩,.cons (Qd rfl) (.cons (Qd rfl) (.cons (Gr.frzM hok.b h.r hbs) .nil)),by simpa using hb0,by simpa using hb1,fun b hb=>(hd b hb).1,fun b hb=>?_,by simp only[Jau];omega,fun b hb=>?_⟩
 ·obtain⟨h1,h2,h3,h4,h5⟩:=hd b hb;omega
 ·obtain⟨h1,h2,h3,h4,h5⟩:=hd b hb;exact⟨by omega,by omega,by omega,fun i hi=>by have:=h4 i hi;omega,fun i hi=>by have:=h5 i hi;omega⟩
theorem OCodes.frz {N:Nat}(hN:N≤100000){us:List OCode}{cc:C}{cl:List (Nat×Obj)}(hg:Gr cl 3 (us.map OCode.row) cc)(hu:∀u∈us,u.ok∧u.sm N)(h:Held H S (us.flatMap OCode.lg++cl)) :
  ∃cs:List CodeD,FrzC H S cc (.sl false 3 (Qy cs))∧cs.length=us.length∧∀c∈cs,c.gd:=by
 obtain⟨cs,h1,h2,h3⟩:=Qaa2 (H:=H) (S:=S) (P:=CodeD.gd) (f:=OCode.row) (g:=CodeD.cells) us fun u hu2=>u.frz hN (hu u hu2).1 (hu u hu2).2 (h.l.m hu2);exact⟨cs,Gr.frzM hg h.r h1,h2,h3⟩
end Go.AE.Y
namespace Go.AE
variable {P:Program}
theorem Qbr5 {a b:SC}{Q:X→Env→Heap→Prop}{e:Env}{H:Heap}(T:Env→Heap→Prop)(h1:∀Q':X→Env→Heap→Prop,(∀e H,T e H→Q' .nrm e H)→(∀e H,Q .ret e H→Q' .ret e H)→(∀i e H,Q (.exit i) e H→Q' (.exit i) e H)→Q8 P a Q' e H)
  (h2:∀e H,T e H→Q8 P b Q e H):Q8 P (.seq a b) Q e H:=h1 (X.sq P b Q) h2 (fun _ _ h=>h) (fun _ _ _ h=>h)
end Go.AE
namespace Go.AE.Y
structure UPhi where
 to:Int
 ns:List Int
 ac:C
 al:List (Nat×Obj)
def UPhi.row (x:UPhi):List C:=[.int .i64 x.to,x.ac]
structure UBlk where
 phis:List UPhi
 pc:C
 pl:List (Nat×Obj)
 ins:List InsD
 ic:C
 il:List (Nat×Obj)
 jump:Int
 on:Int
 nfl:Bool
 next:List Int
def UBlk.row (x:UBlk):List C:=[x.pc,x.ic,.int .i64 x.jump,.int .i64 x.on,.sl x.nfl 1 (Q0 x.next)]
def UBlk.lg (x:UBlk):List (Nat×Obj):=x.il++(x.phis.flatMap UPhi.al++x.pl)
structure UBlk.ok (x:UBlk):Prop where
 p:Gr x.pl 2 (x.phis.map UPhi.row) x.pc
 i:Gr x.il 4 (Qn7 x.ins) x.ic
 a:∀p∈x.phis,Gr p.al 1 (Q0 p.ns) p.ac
structure UBlk.sm (b:UBlk)(N:Nat):Prop where
 n:b.next.length≤2
 i:b.ins.length≤1000
 p:b.phis.length≤N
 ia:∀x∈b.ins,x.args.length≤1000
 pa:∀x∈b.phis,x.ns.length≤1000
structure UCode where
 params:Int
 regs:Int
 blocks:List UBlk
 bc:C
 bl:List (Nat×Obj)
def UCode.row (x:UCode):List C:=[.int .i64 x.params,.int .i64 x.regs,x.bc]
def UCode.lg (x:UCode):List (Nat×Obj):=x.blocks.flatMap UBlk.lg++x.bl
structure UCode.ok (x:UCode):Prop where
 b:Gr x.bl 5 (x.blocks.map UBlk.row) x.bc
 bs:∀b∈x.blocks,b.ok
 p0:0≤x.params
 p1:x.params≤3
structure UCode.sm (c:UCode)(N:Nat):Prop where
 b0:0<c.blocks.length
 b:c.blocks.length≤160
 bs:∀b∈c.blocks,b.sm N
theorem UPhi.noOw (x:UPhi)(h:Gr x.al 1 (Q0 x.ns) x.ac):Go.AE.noOw x.row=true:=by
 simp only[Go.AE.noOw,UPhi.row,J9,Jad,h.isOw];rfl
theorem UBlk.noOw (x:UBlk)(h:x.ok):Go.AE.noOw x.row=true:=by
 simp only[Go.AE.noOw,UBlk.row,J9,Jad,h.p.isOw,h.i.isOw];rfl
theorem UCode.noOw (x:UCode)(h:x.ok):Go.AE.noOw x.row=true:=by
 simp only[Go.AE.noOw,UCode.row,J9,Jad,h.b.isOw];rfl
theorem UBlk.sm.mono {b:UBlk}{N M:Nat}(h:b.sm N)(hm:N≤M):b.sm M:=⟨h.n,h.i,by have:=h.p;omega,h.ia,h.pa⟩
theorem UCode.sm.mono {c:UCode}{N M:Nat}(h:c.sm N)(hm:N≤M):c.sm M:=⟨h.b0,h.b,fun b hb=>(h.bs b hb).mono hm⟩
variable {H:Heap}{S:Nat→Bool}
theorem UBlk.frz (x:UBlk){N:Nat}(hN:N≤1000)(hok:x.ok)(hs:x.sm N)(h:Held H S x.lg):∃d:BlkD,FrzL H S x.row d.cells∧d.sm:=by
 obtain⟨ps,hps,hpn,hpp⟩:=Qaa2 (H:=H) (S:=S) (P:=fun p:PhiD=>p.args.length≤1000) (f:=UPhi.row) (g:=PhiD.cells) x.phis fun p hp=>
  ⟨⟨p.to,p.ns⟩,.cons (Qd rfl) (.cons (Gr.frzM (hok.a p hp) (h.r.l.m hp) (FrzR.same (Qay _))) .nil),hs.pa p hp⟩
 have h1:=hs.n;have h2:=hs.i;have h3:=hs.p;exact⟨⟨ps,x.ins,x.jump,x.on,x.next⟩,.cons (Gr.frzM hok.p h.r.r hps) (.cons (Gr.frzM hok.i h.l (FrzR.same (Qbcm _))) (.cons (Qd rfl) (.cons (Qd rfl) (.cons (FrzR.same (Qay _)).sl .nil)))),
  h1,h2,by show ps.length≤_;omega,hs.ia,hpp⟩
theorem UCode.frz (x:UCode){N:Nat}(hN:N≤1000)(hok:x.ok)(hs:x.sm N)(h:Held H S x.lg):∃d:CodeD,FrzL H S x.row d.cells∧d.sm:=by
 obtain⟨bs,hbs,hbn,hbp⟩:=Qaa2 (H:=H) (S:=S) (P:=BlkD.sm) (f:=UBlk.row) (g:=BlkD.cells) x.blocks fun b hb=>b.frz hN (hok.bs b hb) (hs.bs b hb) (h.l.m hb);have hb0:=hs.b0;have hb1:=hs.b;exact⟨⟨x.params,x.regs,bs⟩,.cons (Qd rfl) (.cons (Qd rfl) (.cons (Gr.frzM hok.b h.r hbs) .nil)),by show 0<bs.length;omega,by show bs.length≤_;omega,hbp,hok.p0,by have:=hok.p1;show x.params≤_;omega⟩
theorem UCodes.frz {us:List UCode}{N:Nat}(hN:N≤1000){cc:C}{cl:List (Nat×Obj)}(hg:Gr cl 3 (us.map UCode.row) cc)(hu:∀u∈us,u.ok∧u.sm N)(h:Held H S (us.flatMap UCode.lg++cl)) :
  ∃cs:List CodeD,FrzC H S cc (.sl false 3 (Qy cs))∧cs.length=us.length∧∀c∈cs,c.sm:=by
 obtain⟨cs,h1,h2,h3⟩:=Qaa2 (H:=H) (S:=S) (P:=CodeD.sm) (f:=UCode.row) (g:=CodeD.cells) us fun u hu2=>u.frz hN (hu u hu2).1 (hu u hu2).2 (h.l.m hu2);exact⟨cs,Gr.frzM hg h.r h1,h2,h3⟩
end Go.AE.Y
namespace Go.AE.Y
def UCode.put (u:UCode)(bi:Nat)(b:UBlk)(bl:List (Nat×Obj)):UCode:={ u with blocks:=u.blocks.set bi b,bl:=bl }
theorem UCode.bvec {u:UCode}(h:u.ok)(h0:0<u.blocks.length):∃y,u.bc=.vsl y 5 0 u.blocks.length∧u.bl=[(y,.vec 5 (u.blocks.map UBlk.row))]:=by
 rcases h.b with ⟨h1,h2,h3⟩|⟨y,h1,h2⟩
 ·have:=List.map_eq_nil_iff.1 h2;rw[this]at h0;simp at h0
 ·exact⟨y,by rw[h1];simp,h2⟩
end Go.AE.Y
namespace Go.AE
open Go.AE.Y
open Go.Proofs.Tryz
variable {H:Heap}{K:V→Heap→Prop}
theorem Slc.keep {H':Heap}{sz:Nat}{rows:List (List C)}{b:C}{E L:List (Nat×Obj)}(h:Slc H sz rows b)(kn:Kn H H' E L)(hE:∀l a c d,b=.vsl l a c d→l∉E.map Prod.fst):Slc H' sz rows b:=by
 obtain⟨h1,h2,h3,h4⟩:=h
 cases b with
 |sl fl z rs=>exact⟨trivial,h2,h3,h4⟩
 |vsl l z st n=>
  simp only[Go.AE.okSl]at h1
  cases ho:H l with
  |vec y rs=>
   have:=kn.chg l (by rw[ho];simp) (hE l z st n rfl);refine⟨?_,h2,?_,h4⟩
   ·simp only[Go.AE.okSl,this];exact h1
   ·simp only[Go.AE.rowsOf,this];exact h3
  |_=>rw[ho]at h1;exact h1.elim
 |_=>exact h1.elim
theorem Slc.keep0 {H':Heap}{sz:Nat}{rows:List (List C)}{b:C}{L:List (Nat×Obj)}(h:Slc H sz rows b)(kn:Kn H H' [] L):Slc H' sz rows b:=h.keep kn (by simp)
end Go.AE
namespace Go.AE.Y
open Go.Proofs.Tryz
variable {H:Heap}{K:V→Heap→Prop}
def Qc5 (nx:Nat→List Int)(b:Int)(n:Nat):List Int:=((List.range n).filter fun i=>(nx i).contains b).map Int.ofNat
theorem Qpj (nx:Nat→List Int)(b:Int)(n:Nat):Qc5 nx b (n+1)=Qc5 nx b n++if (nx n).contains b then [(n:Int)]else []:=by
 simp only[Qc5,List.range_succ,List.filter_append,Jv];congr 1;cases h:(nx n).contains b
 ·simp only[Jaq,h,Jat];rfl
 ·simp only[Jaq,h,Jat,if_true];rfl
theorem Qal0 (nx:Nat→List Int)(b:Int)(n:Nat):(Qc5 nx b n).length≤n:=by
 simp only[Qc5,Jau];exact Nat.le_trans (List.length_filter_le _ _) (by simp)
theorem Qbcr {p rg:Int}{bc:C}{rows:List (List C)}{nx:Nat→List Int}{b:Int}(hs:Slc H 5 rows bc)(how:bc.isOw=false)
  (hx:∀i,i<rows.length→∃a1 a2 a3 a4 a5,rows.getD i []=[a1,a2,a3,a4,a5]∧a5.isOw=false∧Slc H 1 (Q0 (nx i)) a5)
  (hK:∀H',Upd H H' []→K (.c (.sl false 1 (Q0 (Qc5 nx b rows.length)))) H'):Qj prog Q3w [.ag [.int .i64 p,.int .i64 rg,bc],.c (.int .i64 b)] H K:=by
 refine Qn ?_;refine Qb Qad Qbic ?_;refine Qa ?_;simp only[go_sem];refine Qa ?_;simp only[go_sem];refine Q5 ?_;refine Qa ?_;simp only[go_sem];have hlen:=hs.len;have hesz:=hs.sz;refine Qg (Qe (Q2 (fun n e1 H1=>∃(i:Nat) (c:C) (Lg:List (Nat×Obj)),n=rows.length-i∧i≤rows.length∧Gr Lg 1 (Q0 (Qc5 nx b i)) c∧Kn H H1 [] ([]++Lg)∧
  e1=[(1,.c (.int .i64 b)),(2,.c (.pp [.int .i64 p,.int .i64 rg,bc])),(5,.c c),(6,.c (.int .i64 i))]) rows.length ?_ ?_))
 ·exact⟨0,_,[],by omega,by omega,.nil 1,Kn.start0 H,rfl⟩
 ·rintro n e1 H1 ⟨i,c,Lg,hn1,hi,hgr,kn,rfl⟩;have hs1:=hs.keep0 kn;have hok1:=eq_true hs1.ok;have hrw1:=hs1.rows;refine Q5 ?_;refine Qa ?_;simp only[go_sem,how,hok1,hlen];intro hl;simp only[LIM]at hl;refine Qg (Qc rfl ?_ ?_)
  ·intro hc;have hlt:i<rows.length:=by simpa using hc
   obtain⟨a1,a2,a3,a4,a5,hrow,o5,hs5⟩:=hx i hlt;have hs5:=hs5.keep0 kn;have hok5:=eq_true hs5.ok;have hlen5:=hs5.len;have hsz5:=hs5.sz;have hrw5:=hs5.rows;refine Qf ?_;simp only[go_sem];have turn:∀(e:Env) (H2:Heap) (c':C) (Lg':List (Nat×Obj)),lk 1 e=.c (.int .i64 b)→lk 2 e=.c (.pp [.int .i64 p,.int .i64 rg,bc])→lk 5 e=.c c'→lk 6 e=.c (.int .i64 i)→
     Gr Lg' 1 (Q0 (Qc5 nx b (i+1))) c'→Kn H H2 [] ([]++Lg')→
     Q8 prog Qap7 (X.next (fun e2 H2=>∃m,m<n∧∃(i:Nat) (c:C) (Lg:List (Nat×Obj)),m=rows.length-i∧i≤rows.length∧Gr Lg 1 (Q0 (Qc5 nx b i)) c∧Kn H H2 [] ([]++Lg)∧
      e2=[(1,.c (.int .i64 b)),(2,.c (.pp [.int .i64 p,.int .i64 rg,bc])),(5,.c c),(6,.c (.int .i64 i))]) (X.inBlock 0 (X.sq prog Qap8 (Qq Qpr (unK H K))))) e H2:=by
    intro e H2 c' Lg' l1 l2 l5 l6 hg' kn';refine Qp ?_;simp only[go_sem,l1,l2,l5,l6,X.next];exact⟨Qm (by omega) (by omega),rows.length-(i+1),by omega,i+1,c',Lg',rfl,by omega,hg',by simpa using kn',rfl⟩
   refine Qg (Qe ?_);refine Qa ?_;simp only[go_sem];refine Qe (Q2 (fun n e1 H2=>∃(k:Nat),n=(nx i).length-k∧k≤(nx i).length∧b∉(nx i).take k∧H2=H1∧e1=[(1,.c (.int .i64 b)),(2,.c (.pp [.int .i64 p,.int .i64 rg,bc])),(5,.c c),(6,.c (.int .i64 i)),(7,.c (.int .i64 k))]) (nx i).length ?_ ?_)
   ·exact⟨0,by omega,by omega,by simp,rfl,rfl⟩
   ·rintro n e1 H2 ⟨k,hn2,hk,hno,rfl,rfl⟩;refine Q5 ?_;refine Qa ?_;simp only[go_sem,how,hok1,hlen,hesz,hrw1,hlt,hrow,o5,hok5,hlen5,Qt];intro hl2;simp only[LIM]at hl2;refine Qg (Qc rfl ?_ ?_)
    ·intro hc;have hlt2:k<(nx i).length:=(by simpa using hc);have hgd:(nx i).getD k 0=(nx i)[k]:=(by simp[Jf,hlt2]);refine Qf ?_;simp only[go_sem];refine Qg (Qe ?_);refine Qa ?_;simp only[go_sem,how,hok1,hlen,hesz,hrw1,hlt,hrow,o5,hok5,hlen5,hsz5,hrw5,hlt2,Qt,Qbj _ _ hlt2,hgd];refine Qc rfl ?_ ?_
     ·intro hc2;have hb:(nx i)[k]=b:=(by simpa using hc2);have hcon:(nx i).contains b=true:=(by rw[J0,←hb];exact Je hlt2);refine Qa ?_;simp only[go_sem];have hpl:=Qal0 nx b i;refine kn.grow (B:=[]) (new:=Q0 [(i:Int)]) hgr (.mk' _ _ _ _) (Qay _) (by simp only[Qt,LIM,Jn,Jp];omega) fun y' H3 kn=>?_;simp only[go_sem,Qahp];refine Q1 ?_;have hib:((2:Nat) == 3)=false:=rfl;rw[Qbl0 hib];simp only[go_sem,X.next];refine turn _ _ _ _ (by simp[lk]) (by simp[lk]) (by simp[lk];rfl) (by simp[lk]) ?_ kn;rw[Qpj,hcon,if_pos rfl,Qqz];exact .mk _ _ _ (by simp)
     ·intro hc2;have hb:¬(nx i)[k]=b:=(by simpa using hc2);refine Qf ?_;simp only[go_sem];refine Qp ?_;simp only[go_sem,X.next];refine⟨Qm (by omega) (by omega),(nx i).length-(k+1),by omega,k+1,rfl,by omega,?_,rfl⟩;rw[Jd hlt2];simp only[Jl,Ja,not_or];exact⟨hno,fun h=>hb h.symm⟩
    ·intro hc;have hge:(nx i).length≤k:=(by simpa using hc);rw[Jb hge]at hno;have hcon:(nx i).contains b=false:=by
      cases hcc:(nx i).contains b with
      |false=>rfl
      |true=>exact absurd (J0.1 hcc) hno
     refine Q1 ?_;simp only[go_sem,X.next];refine turn _ _ _ _ (by simp[lk]) (by simp[lk]) (by simp[lk];rfl) (by simp[lk]) ?_ kn;rw[Qpj,hcon];simpa using hgr
  ·intro hc;have hge:i=rows.length:=by have:rows.length≤i:=(by simpa using hc);omega
   subst hge;refine Q1 ?_;simp only[go_sem,X.next];refine Qa ?_;simp only[go_sem];refine Qi ?_;simp only[go_sem,Qq,Q7,Qpr,Ja,forall_eq,RS.op];exact⟨_,.c _ _ (hgr.frz kn (Qay _)),hK _ kn.fin⟩
theorem Qbhu {p rg:Int}{bc:C}{rows:List (List C)}{nx:Nat→List Int}{b:Int}(hs:Slc H 5 rows bc)(how:bc.isOw=false)
  (hx:∀i,i<rows.length→∃a1 a2 a3 a4 fl,rows.getD i []=[a1,a2,a3,a4,.sl fl 1 (Q0 (nx i))])
  (hK:∀H',Upd H H' []→K (.c (.sl false 1 (Q0 (Qc5 nx b rows.length)))) H'):Qj prog Q3w [.ag [.int .i64 p,.int .i64 rg,bc],.c (.int .i64 b)] H K:=
 Qbcr hs how (fun i hi=>by
  obtain⟨a1,a2,a3,a4,fl,h⟩:=hx i hi;exact⟨a1,a2,a3,a4,_,h,rfl,.mk' _ _ _ _⟩) hK
def Qaht (op:Int):Int:=if op=1 then 0 else if op=2∨op=10∨op=11∨op=13 then 1 else if (3≤op∧op≤9)∨op=12 then 2 else -1
theorem Qbmp {op:Int}(hK:K (.c (.int .i64 (Qaht op))) H):Qj prog Qalb [.c (.int .i64 op)] H K:=by
 refine Qb Qad Qbm1 ?_;have retf:∀(n:Int) (e:Env),Qaht op=n→lk 2 e=.c (.int .i64 n)→Qq Qfh K .ret e H:=by
  intro b e h1 h3;simp only[go_sem,Qq,Q7,Qfh,Ja,forall_eq,RS.op,h3];rw[←h1];exact hK
 refine Qa ?_;simp only[go_sem];refine Qg (Qe ?_);refine Qa ?_;simp only[go_sem];refine Qc rfl ?_ ?_
 ·intro hc;refine Qa ?_;simp only[go_sem];refine Qi ?_;simp only[go_sem];exact retf 0 _ (by simp only[decide_eq_true_eq]at hc;simp[Qaht,hc]) (by simp[lk])
 intro hc1;refine Qa ?_;simp only[go_sem];refine Qc rfl ?_ ?_
 ·intro hc;refine Qa ?_;simp only[go_sem];refine Qi ?_;simp only[go_sem];exact retf 1 _ (by simp at hc1 hc;rw[Qaht,if_neg hc1,if_pos (by omega)]) (by simp[lk])
 intro hc2;refine Qa ?_;simp only[go_sem];refine Qd2 ?_;simp only[go_sem,Qap5];refine Qc rfl ?_ ?_
 ·intro hc;refine Qa ?_;simp only[go_sem];refine Qi ?_;simp only[go_sem];exact retf 2 _ (by simp at hc1 hc2 hc;rw[Qaht,if_neg hc1,if_neg (by omega),if_pos (by omega)]) (by simp[lk])
 ·intro hc;refine Qf ?_;simp only[go_sem];refine Qa ?_;simp only[go_sem];refine Qi ?_;exact retf (-1) _ (by simp at hc1 hc2 hc;rw[Qaht,if_neg hc1,if_neg (by omega),if_neg (by omega)]) (by simp[lk])
def Qaf4 (op:Int):Bool:=decide (1≤op∧op≤14)&&!decide (op=12)&&!decide (op=13)
theorem Qa1i {op:Int}(hK:K (.c (.bool (Qaf4 op))) H):Qj prog Q3v [.c (.int .i64 op)] H K:=by
 refine Qb Qad Qbib ?_;refine Qa ?_;simp only[go_sem];refine Qa ?_;simp only[go_sem];refine Qd2 ?_;simp only[go_sem,Qaho];refine Qi ?_;simp only[go_sem,Qq,Q7,Qfh,Ja,forall_eq,RS.op];have:∀a b c:Bool,(bif bif a then b else false then c else false)=(a&&b&&c):=by decide
 rw[this];exact hK
def Q8f (rg:Int)(l:List Int):Bool:=l.all fun x=>decide (0≤x∧x≤rg-1)
theorem Qbc2 {rg:Int}{l:List Int}{i:Nat}(hi:i<l.length):Q8f rg (l.take (i+1))=(Q8f rg (l.take i)&&decide (0≤l.getD i 0∧l.getD i 0≤rg-1)):=by
 have e:l.getD i 0=l[i]:=by simp[Jf,hi]
 rw[Q8f,Jd hi,Jas,e];simp[Q8f]
theorem Qbis {rg:Int}{l:List Int}{i:Nat}(hi:i<l.length)(h:decide (0≤l.getD i 0∧l.getD i 0≤rg-1)=false):Q8f rg l=false:=by
 have e:l.getD i 0=l[i]:=by simp[Jf,hi]
 cases hc:Q8f rg l with
 |false=>rfl
 |true=>
  rw[Q8f,Jy]at hc;have:=hc _ (Je hi);rw[e]at h;rw[h]at this;exact absurd this (by simp)
theorem Qba2 {p rg:Int}{bc:C}{fl:Bool}{l:List Int}(hr:-(2^62)≤rg)(hr2:rg≤2^62)(hK:K (.c (.bool (Q8f rg l))) H) :
  Qj prog Qaa1 [.ag [.int .i64 p,.int .i64 rg,bc],.c (.sl fl 1 (Q0 l))] H K:=by
 refine Qb Qad Qbm2 ?_;have retf:∀(b:Bool) (e:Env),Q8f rg l=b→lk 4 e=.c (.bool b)→Qq Qpr K .ret e H:=by
  intro b e h1 h3;simp only[go_sem,Qq,Q7,Qpr,Ja,forall_eq,RS.op,h3];rw[←h1];exact hK
 refine Qa ?_;simp only[go_sem];refine Q5 ?_;refine Qa ?_;simp only[go_sem];refine Qg (Qe (Q2 (fun n e1 H1=>∃(i:Nat),n=l.length-i∧i≤l.length∧H1=H∧Q8f rg (l.take i)=true∧e1=[(1,.c (.sl fl 1 (Q0 l))),(2,.c (.pp [.int .i64 p,.int .i64 rg,bc])),(5,.c (.int .i64 i))]) l.length ?_ ?_))
 ·exact⟨0,by omega,by omega,rfl,rfl,rfl⟩
 ·rintro n e1 H1 ⟨i,hn1,hi,rfl,hall,rfl⟩;refine Q5 ?_;refine Qa ?_;simp only[go_sem,Qt];intro hl;simp only[LIM]at hl;refine Qg (Qc rfl ?_ ?_)
  ·intro hc;have hlt:i<l.length:=by simpa using hc
   refine Qf ?_;simp only[go_sem];refine Qg (Qe ?_);refine Qaf ?_;simp only[go_sem,hlt,Qt,Qbj _ _ hlt];refine⟨Qm (by omega) (by omega),?_⟩;refine Qd2 ?_;simp only[go_sem,Qap9];refine Qc rfl ?_ ?_
   ·intro hc2;refine Qa ?_;simp only[go_sem];refine Qi ?_;simp only[go_sem,X.next];exact retf false _ (Qbis hlt (Qk9 hc2)) (by simp[lk])
   ·intro hc2;refine Qf ?_;simp only[go_sem];refine Qp ?_;simp only[go_sem,X.next];exact⟨Qm (by omega) (by omega),l.length-(i+1),by omega,i+1,rfl,by omega,by rw[Qbc2 hlt,hall,Qeh hc2];rfl,rfl⟩
  ·intro hc;have hge:l.length≤i:=by simpa using hc
   rw[Jb hge]at hall;refine Q1 ?_;simp only[go_sem,X.next];refine Qa ?_;simp only[go_sem];refine Qi ?_;exact retf true _ hall (by simp[lk])
def rgOf (cs:List CodeD)(k:Nat):Int:=(cs[k]?.map CodeD.regs).getD 0
def pmOf (cs:List CodeD)(k:Nat):Int:=(cs[k]?.map CodeD.params).getD 0
theorem Qbit {cs:List CodeD}{k:Nat}(h:k<cs.length):rgOf cs k=cs[k].regs:=by simp[rgOf,h]
theorem Qbio {cs:List CodeD}{k:Nat}(h:k<cs.length):pmOf cs k=cs[k].params:=by simp[pmOf,h]
def insH (rg:Int)(x:InsD):Bool:=decide (1≤x.op∧x.op≤14)&&Q8f rg x.args
def insT (rg:Int)(x:InsD):Bool:=if Qaf4 x.op then decide (0≤x.to∧x.to≤rg-1)else decide (x.to=-1)
def insL (cs:List CodeD)(k:Nat)(x:InsD):Bool:=
 if x.op=14 then decide (0≤x.n∧x.n≤(k:Int)-1)&&decide ((x.args.length:Int)=pmOf cs x.n.toNat)
 else decide ((x.args.length:Int)=Qaht x.op)&&decide (0≤x.n∧x.n≤255)&&(decide (x.n=0) || decide (x.op=1))
def insG (cs:List CodeD)(k:Nat)(x:InsD):Bool:=insH (rgOf cs k) x&&insT (rgOf cs k) x&&insL cs k x
theorem Qbqr {cs:List CodeD}{fl:Bool}{k:Nat}{x:InsD}(hk:k<cs.length)(hr:0≤cs[k].regs)(hr2:cs[k].regs≤300)(hcl:cs.length≤100)(hK:∀(H':Heap),Upd H H' []→K (.c (.bool (insG cs k x))) H') :
  Qj prog Qaxw [.ag [.sl fl 3 (Qy cs)],.c (.int .i64 k),.ag x.cells] H K:=by
 refine Qn ?_;refine Qb Qad Qbq0 ?_;refine Qa ?_;simp only[go_sem,InsD.cells];refine Qa ?_;simp only[go_sem,hk,Qae,Qbe _ _ hk,CodeD.cells];intro x7 hx7 H1 h1;have kn:=(Kn.start0 H).al hx7 h1;have hx71:=kn.l 0 rfl;simp only[go_sem,Qaxb,hx71];intro H2 h2;have kn:=kn.stL 0 rfl h2;have hx72:=kn.l 0 rfl;have hrg:=Qbit hk;have retf:∀(b:Bool) (e:Env),insG cs k x=b→lk 6 e=.c (.bool b)→Qq Qbo3 (unK H K) .ret e H2:=by
  intro b e h1 h3;simp only[go_sem,Qq,Q7,Qbo3,Ja,forall_eq,RS.op,h3];rw[←h1];exact⟨_,.c _ _ (Qd rfl),hK _ kn.fin⟩
 refine Q5 ?_;refine Qa ?_;simp only[go_sem];refine Qd2 ?_;simp only[go_sem,Qaxc,hx72];have rest:∀(E1:Env) (b:Bool),insH cs[k].regs x=(!b)→lk 1 E1=.c (.int .i64 k)→lk 3 E1=.c (.pp [.sl fl 3 (Qy cs)])→lk 5 E1=.c (.pp [.int .i64 x.op,.int .i64 x.to,.sl false 1 (Q0 x.args),.int .i64 x.n])→lk 7 E1=.c (.ptr x7 0)→lk 23 E1=.c (.bool b)→
   Q8 prog (s_l7Ins_3.seq Qaxa) (Qq Qbo3 (unK H K)) E1 H2:=by
  intro E1 b hb l1 l3 l5 l7 l23;refine Qg (Qc l23 ?_ ?_)
  ·intro hc;refine Qa ?_;simp only[go_sem];refine Qi ?_;simp only[go_sem];exact retf false _ (by rw[insG,hrg,hb,hc];rfl) (by simp[lk])
  intro hc;rw[hc]at hb;refine Qf ?_;simp only[go_sem];refine Q5 ?_;refine Qaf ?_;simp only[go_sem,l5,l7,hx72];refine⟨Qm (by omega) (by omega),?_⟩;refine Qa1i ?_;simp only[go_sem,Qaxe,hx72];refine Qd2 ?_;simp only[go_sem,Qaxd,l5];have rest2:∀(E1:Env) (b:Bool),insT cs[k].regs x=(!b)→lk 1 E1=.c (.int .i64 k)→lk 3 E1=.c (.pp [.sl fl 3 (Qy cs)])→lk 5 E1=.c (.pp [.int .i64 x.op,.int .i64 x.to,.sl false 1 (Q0 x.args),.int .i64 x.n])→lk 44 E1=.c (.bool b)→
    Q8 prog (s_l7Ins_7.seq Qaw9) (Qq Qbo3 (unK H K)) E1 H2:=by
   intro E1 b hb2 l1 l3 l5 l44;refine Qg (Qc l44 ?_ ?_)
   ·intro hc;refine Qa ?_;simp only[go_sem];refine Qi ?_;simp only[go_sem];exact retf false _ (by rw[insG,hrg,hb2,hc];simp) (by simp[lk])
   intro hc;rw[hc]at hb2;have hG:insG cs k x=insL cs k x:=by rw[insG,hrg,hb,hb2];rfl
   refine Qf ?_;simp only[go_sem];refine Q5 ?_;refine Qa ?_;simp only[go_sem,l1,l3,l5];refine Qg (Qc rfl ?_ ?_)
   ·intro hc;have hop:x.op=14:=of_decide_eq_true hc;rw[insL,if_pos hop]at hG;refine Qaf ?_;simp only[go_sem];refine⟨Qm (by omega) (by omega),?_⟩;refine Qd2 ?_;by_cases hin:0≤x.n∧x.n≤(k:Int)-1
    ·obtain⟨m,hm⟩:=Int.eq_ofNat_of_zero_le hin.1;have hmk:m<cs.length:=(by omega);have hin':(0≤(m:Int)∧(m:Int)≤(k:Int)-1)=True:=eq_true (by rw[←hm];exact hin);simp only[go_sem,Q33,hm,hmk,Qae,Qbe _ _ hmk,CodeD.cells,Qt];refine Qi ?_;refine retf _ _ ?_ (by simp[lk];rfl);rw[hG,hm,Jao,Qbio hmk];simp only[hin',decide_true,Jw];simp[show ((m:Int)≤(k:Int)-1) from by omega]
    ·have hin':decide (0≤x.n∧x.n≤(k:Int)-1)=false:=(by simpa using hin);by_cases hm:x.n.toNat<cs.length
     ·simp only[go_sem,Q33,hin',Qbe _ _ hm,CodeD.cells];refine Qi ?_;exact retf false _ (by rw[hG,hin'];rfl) (by simp[lk])
     ·have hgd:(Qy cs).getD x.n.toNat []=[]:=by
       rw[Jf,List.getElem?_eq_none (by rw[Qae];omega)];rfl
      simp only[go_sem,Q33,hin',hgd,List.take_nil,Jax];refine Qi ?_;exact retf false _ (by rw[hG,hin'];rfl) (by simp[lk])
   ·intro hc;have hop:¬x.op=14:=of_decide_eq_false hc;rw[insL,if_neg hop]at hG;refine Qf ?_;simp only[go_sem];refine Qaf ?_;simp only[go_sem];refine Qbmp ?_;simp only[go_sem,Qap6];refine⟨fun hb=>?_,fun hb=>?_⟩
    ·refine Qd2 ?_;simp only[go_sem,Q9v];refine Qi ?_;refine retf _ _ ?_ (by simp[lk];rfl);have hb':(x.args.length:Int)=Qaht x.op:=(by simpa[Qt]using hb);rw[hG];simp[hb',Qt]
    ·simp only[go_sem,Q9v,hb];refine Qi ?_;refine retf _ _ ?_ (by simp[lk];rfl);have hb':¬(x.args.length:Int)=Qaht x.op:=(by simpa[Qt]using hb);rw[hG];simp[hb']
  refine⟨fun hb=>?_,fun hb=>?_⟩
  ·refine Qa1i ?_;simp only[go_sem,Qaff,l1,l3,l5];refine rest2 _ _ ?_ (by simp[lk]) (by simp[lk]) (by simp[lk]) (by simp[lk];rfl)
   cases hmk:Qaf4 x.op with
   |true=>simp[insT,hmk]
   |false=>by_cases h:x.to=-1 <;> simp[insT,hmk,h]
  ·replace hb:=Qeh hb;simp only[go_sem,Qaff,l1,l3,l5,hb];refine rest2 _ true ?_ (by simp[lk]) (by simp[lk]) (by simp[lk]) (by simp[lk])
   cases hmk:Qaf4 x.op with
   |true=>simp[hmk]at hb;simp[insT,hmk];omega
   |false=>simp[hmk]at hb;simp[insT,hmk];omega
 refine⟨fun hb=>?_,fun hb=>?_⟩
 ·refine Qba2 (by omega) (by omega) ?_;simp only[go_sem,Qafe];refine rest _ _ ?_ (by simp[lk]) (by simp[lk]) (by simp[lk]) (by simp[lk]) (by simp[lk];rfl);simp[insH]
 ·replace hb:=Qeh hb;simp only[go_sem,Qafe,hb];refine rest _ true ?_ (by simp[lk]) (by simp[lk]) (by simp[lk]) (by simp[lk]) (by simp[lk]);rw[insH,Qk9 hb];rfl
theorem InsD.take4 (x:InsD):x.cells.take 4=x.cells:=rfl
theorem InsD.allOw (x:InsD):(x.cells.all fun c=>!c.isOw)=true:=rfl
theorem InsD.len4 (x:InsD):x.cells.length=4:=rfl
theorem Qbpi (l:List BlkD)(i:Nat)(h:i<(Qap l).length):∃a1 a2 a3 a4 fl,(Qap l).getD i []=[a1,a2,a3,a4,.sl fl 1 (Q0 ((l.map BlkD.next).getD i []))]:=by
 rw[Qal]at h;rw[Qdf _ _ h];have:(l.map BlkD.next).getD i []=l[i].next:=by simp[Jf,h]
 exact⟨.sl false 2 (Qf3 l[i].phis),.sl false 4 (Qn7 l[i].ins),.int .i64 l[i].jump,.int .i64 l[i].on,false,by rw[this];rfl⟩
def Q4j (j:Int):Int:=if j=1 then 1 else if j=2 then 2 else if j=3 then 0 else -1
def Qaa5 (rg:Int)(y:BlkD):Bool:=decide ((y.next.length:Int)=Q4j y.jump)&&if y.jump=1 then decide (y.on=0)else decide (0≤y.on∧y.on≤rg-1)
def Qalv (n:Nat)(x:Int):Bool:=decide (1≤x∧x≤(n:Int)-1)
def phiG (rg:Int)(np b:Nat)(x:PhiD):Bool:=!decide (b=0)&&decide ((x.args.length:Int)=np)&&Q8f rg x.args&&decide (0≤x.to∧x.to≤rg-1)
def blkG (cs:List CodeD)(k b:Nat)(q:CodeD)(y:BlkD):Bool:=
 Qaa5 q.regs y&&y.next.all (Qalv (Qap q.blocks).length)&&y.ins.all (insG cs k)&&y.phis.all (phiG q.regs (Qc5 (fun i=>(q.blocks.map BlkD.next).getD i []) (b:Int) (Qap q.blocks).length).length b)
theorem Qbht {cs:List CodeD}{fl:Bool}{k b:Nat}(hk:k<cs.length)(hbk:b<cs[k].blocks.length)(hr:0≤cs[k].regs)(hr2:cs[k].regs≤300)(hcl:cs.length≤100)(hbl:cs[k].blocks.length≤200)(hK:∀(H':Heap),Upd H H' []→K (.c (.bool (blkG cs k b cs[k] cs[k].blocks[b]))) H') :
  Qj prog Qadc [.ag [.sl fl 3 (Qy cs)],.c (.int .i64 k),.c (.int .i64 b)] H K:=by
 refine Qn ?_;refine Qb Qad Qbia ?_;have retf:∀(v:Bool) (e:Env) (H':Heap) (L:List (Nat×Obj)),blkG cs k b cs[k] cs[k].blocks[b]=v→Kn H H' [] L→lk 6 e=.c (.bool v)→Qq Qbo3 (unK H K) .ret e H':=by
  intro v e H' L hb kn h3;simp only[go_sem,Qq,Q7,Qbo3,Ja,forall_eq,RS.op,h3];rw[←hb];exact⟨_,.c _ _ (Qd rfl),hK _ kn.fin⟩
 refine Qa ?_;simp only[go_sem];refine Qa ?_;simp only[go_sem,hk,Qae,Qbe _ _ hk,CodeD.cells];intro x7 hx7 H1 h1;have kn:=(Kn.start0 H).al hx7 h1;have hx71:=kn.l 0 rfl;simp only[go_sem,Qahl,hx71];intro H2 h2;have kn:=kn.stL 0 rfl h2;have hx72:=kn.l 0 rfl;refine Qa ?_;simp only[go_sem,hx72,hbk,Qal,Qdf _ _ hbk,BlkD.cells];obtain⟨y,hy⟩:∃y,cs[k].blocks[b]=y:=⟨_,rfl⟩;rw[hy];intro x8 hx8 H3 h3;have kn:=kn.al hx8 h3;have hx83:=kn.l 1 rfl;simp only[go_sem,Qahm,hx83];intro H4 h4;have kn:Kn H H4 [] [(x7,.st [.int .i64 cs[k].params,.int .i64 cs[k].regs,.sl false 5 (Qap cs[k].blocks)]),(x8,.st [.sl false 2 (Qf3 y.phis),.sl false 4 (Qn7 y.ins),.int .i64 y.jump,.int .i64 y.on,.sl false 1 (Q0 y.next)])]:=kn.stL 1 rfl h4;obtain⟨q,hq⟩:∃q,cs[k]=q:=⟨_,rfl⟩;have hGe:blkG cs k b cs[k] cs[k].blocks[b]=blkG cs k b q y:=by rw[hy,hq]
 rw[hGe]at retf;rw[hq]at kn hr hr2 hbk hbl;generalize hnp:(Qc5 (fun i=>(q.blocks.map BlkD.next).getD i []) (b:Int) (Qap q.blocks).length).length=np;have hGd:blkG cs k b q y=(Qaa5 q.regs y&&y.next.all (Qalv (Qap q.blocks).length)&&y.ins.all (insG cs k)&&y.phis.all (phiG q.regs np b)):=by rw[blkG,hnp]
 refine Qa ?_;simp only[go_sem];have hx74:=kn.l 0 rfl;have hx84:=kn.l 1 rfl;refine Q5 ?_;refine Qa ?_;simp only[go_sem,hx84];have rest31:∀(want:Int) (E1:Env),Q4j y.jump=want→(y.jump=1→y.on=0)→lk 1 E1=.c (.int .i64 k)→lk 2 E1=.c (.int .i64 b)→lk 3 E1=.c (.pp [.sl fl 3 (Qy cs)])→lk 7 E1=.c (.ptr x7 0)→lk 8 E1=.c (.ptr x8 0)→lk 9 E1=.c (.int .i64 want)→
   Q8 prog Qahk (Qq Qbo3 (unK H K)) E1 H4:=by
  intro want E1 hw hjo l1 l2 l3 l7 l8 l9;refine Q5 ?_;refine Qa ?_;simp only[go_sem,l7,l8,l9,hx74,hx84,Qt];intro hnl;simp only[LIM]at hnl;refine⟨fun _=>Qm (by omega) (by omega),?_⟩;have rest8:∀(b1:Bool) (E1:Env),Qaa5 q.regs y=(!b1)→lk 1 E1=.c (.int .i64 k)→lk 2 E1=.c (.int .i64 b)→lk 3 E1=.c (.pp [.sl fl 3 (Qy cs)])→lk 7 E1=.c (.ptr x7 0)→lk 8 E1=.c (.ptr x8 0)→lk 53 E1=.c (.bool b1)→
    Q8 prog (s_l7Block_8.seq Qahj) (Qq Qbo3 (unK H K)) E1 H4:=by
   intro b1 E1 hn2 l1 l2 l3 l7 l8 l53;refine Qg (Qc l53 ?_ ?_)
   ·intro hc;refine Qa ?_;simp only[go_sem];refine Qi ?_;simp only[go_sem];exact retf false _ _ _ (by rw[hGd,hn2,hc];simp) kn (by simp[lk])
   intro hbf;rw[hbf]at hn2;refine Qf ?_;simp only[go_sem];refine Q5 ?_;refine Qa ?_;simp only[go_sem,l1,l2,l3,l7,l8];refine Qg (Qe (Q2 (fun n e1 H1=>∃(i:Nat),n=y.next.length-i∧i≤y.next.length∧H1=H4∧(y.next.take i).all (Qalv (Qap q.blocks).length)=true∧e1=[(1,.c (.int .i64 k)),(2,.c (.int .i64 b)),(3,.c (.pp [.sl fl 3 (Qy cs)])),(7,.c (.ptr x7 0)),(8,.c (.ptr x8 0)),(10,.c (.int .i64 i))]) y.next.length ?_ ?_))
   ·exact⟨0,by omega,by omega,rfl,rfl,rfl⟩
   ·rintro n e1 H1 ⟨i,hn1,hi,rfl,hall1,rfl⟩;refine Q5 ?_;refine Qa ?_;simp only[go_sem,hx84,Qt];refine fun _=>?_;refine Qg (Qc rfl ?_ ?_)
    ·intro hc;have hlt:i<y.next.length:=(by simpa using hc);have hgd:y.next.getD i 0=y.next[i]:=(by simp[Jf,hlt]);have hng:Qalv (Qap q.blocks).length y.next[i]=decide (1≤y.next.getD i 0∧y.next.getD i 0≤(q.blocks.length:Int)-1):=(by rw[hgd,Qalv,Qal]);refine Qf ?_;simp only[go_sem];refine Qg (Qe ?_);refine Qaf ?_;simp only[go_sem,hx84,hx74,hlt,Qt,Qbj _ _ hlt,Qal];refine⟨Qm (by omega) (by omega),?_⟩;refine Qd2 ?_;simp only[go_sem,Qahn];refine Qc rfl ?_ ?_
     ·intro hc2;refine Qa ?_;simp only[go_sem];refine Qi ?_;simp only[go_sem,X.next];exact retf false _ _ _ (by rw[hGd,Qg1 hlt (by rw[hng];exact Qk9 hc2)];simp) kn (by simp[lk])
     ·intro hc2;refine Qf ?_;simp only[go_sem];refine Qp ?_;simp only[go_sem,X.next];exact⟨Qm (by omega) (by omega),y.next.length-(i+1),by omega,i+1,rfl,by omega,by rw[Qdy hlt,←Qal q.blocks,hall1,hng,Qeh hc2];rfl,rfl⟩
    ·intro hc;have hge:y.next.length≤i:=(by simpa using hc);rw[Jb hge]at hall1;refine Q1 ?_;simp only[go_sem,X.next];refine Q5 ?_;refine Qa ?_;simp only[go_sem];refine Qg (Qe (Q2 (fun n e1 H1=>∃(i:Nat),n=y.ins.length-i∧i≤y.ins.length∧Kn H H1 [] [(x7,.st [.int .i64 q.params,.int .i64 q.regs,.sl false 5 (Qap q.blocks)]),(x8,.st [.sl false 2 (Qf3 y.phis),.sl false 4 (Qn7 y.ins),.int .i64 y.jump,.int .i64 y.on,.sl false 1 (Q0 y.next)])]∧(y.ins.take i).all (insG cs k)=true∧
      e1=[(1,.c (.int .i64 k)),(2,.c (.int .i64 b)),(3,.c (.pp [.sl fl 3 (Qy cs)])),(7,.c (.ptr x7 0)),(8,.c (.ptr x8 0)),(11,.c (.int .i64 i))]) y.ins.length ?_ ?_))
     ·exact⟨0,by omega,by omega,kn,rfl,rfl⟩
     ·rintro n e1 H5 ⟨i,hn1,hi,kn,hall2,rfl⟩;have hx75:=kn.l 0 rfl;have hx85:=kn.l 1 rfl;refine Q5 ?_;refine Qa ?_;simp only[go_sem,hx85,Qco];intro hil;simp only[LIM]at hil;refine Qg (Qc rfl ?_ ?_)
      ·intro hc;have hlt:i<y.ins.length:=(by simpa using hc);refine Qf ?_;simp only[go_sem];refine Qg (Qe ?_);refine Qaf ?_;simp only[go_sem,hx85,hlt,Qco,Qnp _ _ hlt,InsD.take4,InsD.allOw,InsD.len4];refine Qbqr hk (by rw[hq];omega) (by rw[hq];omega) hcl fun H6 hu=>?_;have kn:=kn.call0 hu;simp only[go_sem,Qacm];refine Qc rfl ?_ ?_
       ·intro hc2;refine Qa ?_;simp only[go_sem];refine Qi ?_;simp only[go_sem,X.next];exact retf false _ _ _ (by rw[hGd,Qg1 hlt (Qk9 hc2)];simp) kn (by simp[lk])
       ·intro hc2;refine Qf ?_;simp only[go_sem];refine Qp ?_;simp only[go_sem,X.next];exact⟨Qm (by omega) (by omega),y.ins.length-(i+1),by omega,i+1,rfl,by omega,kn,by rw[Qdy hlt,hall2,Qeh hc2];rfl,rfl⟩
      ·intro hc;have hge:y.ins.length≤i:=(by simpa using hc);rw[Jb hge]at hall2;refine Q1 ?_;simp only[go_sem,X.next];refine Qa ?_;simp only[go_sem,hx75];refine Qbhu (rows:=Qap q.blocks) (nx:=fun i=>(q.blocks.map BlkD.next).getD i []) (.mk' _ _ _ _) rfl (Qbpi q.blocks) fun H6 hu=>?_;have kn:=kn.call0 hu;simp only[go_sem,Qacn];refine Q5 ?_;refine Qa ?_;simp only[go_sem];obtain⟨ps,hps⟩:∃ps,Qc5 (fun i=>(q.blocks.map BlkD.next).getD i []) (b:Int) (Qap q.blocks).length=ps:=⟨_,rfl⟩;rw[hps];rw[hps]at hnp;have hx76:=kn.l 0 rfl;have hx86:=kn.l 1 rfl;refine Qg (Qe (Q2 (fun n e1 H1=>∃(i:Nat),n=y.phis.length-i∧i≤y.phis.length∧H1=H6∧(y.phis.take i).all (phiG q.regs np b)=true∧
        e1=[(2,.c (.int .i64 b)),(7,.c (.ptr x7 0)),(8,.c (.ptr x8 0)),(12,.c (.sl false 1 (Q0 ps))),(13,.c (.int .i64 i))]) y.phis.length ?_ ?_))
       ·exact⟨0,by omega,by omega,rfl,rfl,rfl⟩
       ·rintro n e1 H7 ⟨i,hn1,hi,rfl,hall3,rfl⟩;refine Q5 ?_;refine Qa ?_;simp only[go_sem,hx86,Qbr];intro hpl;simp only[LIM]at hpl;refine Qg (Qc rfl ?_ ?_)
        ·intro hc;have hlt:i<y.phis.length:=(by simpa using hc);refine Qf ?_;simp only[go_sem];refine Qg (Qe ?_);have fin:∀(b3:Bool) (E1:Env),phiG q.regs np b y.phis[i]=(!b3)→lk 2 E1=.c (.int .i64 b)→lk 7 E1=.c (.ptr x7 0)→lk 8 E1=.c (.ptr x8 0)→lk 12 E1=.c (.sl false 1 (Q0 ps))→lk 13 E1=.c (.int .i64 i)→lk 135 E1=.c (.bool b3)→
           Q8 prog Qahg (X.inBlock 6 (X.sq prog Qahh (X.next (fun e2 H2=>∃m,m<n∧∃(i:Nat),m=y.phis.length-i∧i≤y.phis.length∧H2=H7∧(y.phis.take i).all (phiG q.regs np b)=true∧
            e2=[(2,.c (.int .i64 b)),(7,.c (.ptr x7 0)),(8,.c (.ptr x8 0)),(12,.c (.sl false 1 (Q0 ps))),(13,.c (.int .i64 i))]) (X.inBlock 5 (X.sq prog Qahi (Qq Qbo3 (unK H K))))))) E1 H7:=by
          intro b3 E1 hph l2 l7 l8 l12 l13 l135;refine Qc l135 ?_ ?_
          ·intro hc2;refine Qa ?_;simp only[go_sem];refine Qi ?_;simp only[go_sem,X.next];exact retf false _ _ _ (by rw[hGd,Qg1 hlt (by rw[hph,hc2];rfl)];simp) kn (by simp[lk])
          ·intro hc2;refine Qf ?_;simp only[go_sem];refine Qp ?_;simp only[go_sem,X.next,l2,l7,l8,l12,l13];exact⟨Qm (by omega) (by omega),y.phis.length-(i+1),by omega,i+1,rfl,by omega,by rw[Qdy hlt,hall3,hph,hc2];rfl,rfl⟩
         refine Qaf ?_;simp only[go_sem,hx86,hx76,hlt,Qbr,Qfw _ _ hlt,PhiD.cells,Qt];refine⟨fun hb1=>?_,fun hb1=>?_⟩
         ·refine Qba2 (by omega) (by omega) ?_;simp only[go_sem,Quk,hx86,hx76,hlt,Qbr,Qfw _ _ hlt,PhiD.cells];refine⟨fun _=>Qm (by omega) (by omega),?_⟩;refine⟨fun hb2=>?_,fun hb2=>?_⟩
          ·refine Qd2 ?_;simp only[go_sem,Qnj];refine fin _ _ ?_ (by simp[lk]) (by simp[lk]) (by simp[lk]) (by simp[lk]) (by simp[lk]) (by simp[lk];rfl);simp[phiG,←hnp]
          ·replace hb2:=Qeh hb2;simp only[go_sem,Qnj,hb2];refine fin true _ ?_ (by simp[lk]) (by simp[lk]) (by simp[lk]) (by simp[lk]) (by simp[lk]) (by simp[lk]);subst hnp;simp at hb2;simp[phiG];intro h1 h2 h3;simp[h1,h2,h3]at hb2
         ·replace hb1:=Qeh hb1;simp only[go_sem,Quk,Qnj,hb1,hx86,hx76,hlt,Qbr,Qfw _ _ hlt,PhiD.cells];refine fin true _ ?_ (by simp[lk]) (by simp[lk]) (by simp[lk]) (by simp[lk]) (by simp[lk]) (by simp[lk]);subst hnp;simp at hb1;simp[phiG];intro h1 h2 h3;simp[h1,h2]at hb1
        ·intro hc;have hge:y.phis.length≤i:=(by simpa using hc);rw[Jb hge]at hall3;refine Q1 ?_;simp only[go_sem,X.next];refine Qa ?_;simp only[go_sem];refine Qi ?_;exact retf true _ _ _ (by rw[hGd,hn2,hall1,hall2,hall3];rfl) kn (by simp[lk])
  refine⟨fun hb1=>?_,fun hb1=>?_⟩
  ·refine Qd2 ?_;simp only[go_sem,Qp1,hb1,l1,l2,l3,l7,l8];refine rest8 _ _ ?_ (by simp[lk]) (by simp[lk]) (by simp[lk]) (by simp[lk]) (by simp[lk]) (by simp[lk];rfl);by_cases hlw:(y.next.length:Int)=want
   ·by_cases hj:y.jump=1
    ·simp[hlw,hj]at hb1
    ·simp[Qaa5,hw,hlw,hj]
   ·simp[hlw]at hb1
  ·by_cases hlw:(y.next.length:Int)=want
   ·by_cases hj:y.jump=1
    ·simp only[go_sem,Qp1,hlw,hj,l1,l2,l3,l7,l8,decide_true,cond_false];have hw1:Q4j 1=want:=(by rw[←hj];exact hw);refine rest8 _ _ ?_ (by simp[lk]) (by simp[lk]) (by simp[lk]) (by simp[lk]) (by simp[lk]) (by simp[lk];rfl);simp[Qaa5,hw1,hlw,hj,hjo hj]
    ·simp[hlw,hj]at hb1
   ·simp only[go_sem,Qp1,hlw,l1,l2,l3,l7,l8,decide_false,cond_true];by_cases hj:y.jump=1
    ·simp only[go_sem,hj,decide_true];exact rest8 true _ (by simp[Qaa5,hw,hlw]) (by simp[lk]) (by simp[lk]) (by simp[lk]) (by simp[lk]) (by simp[lk]) (by simp[lk])
    ·simp only[go_sem,hj,decide_false];exact rest8 true _ (by simp[Qaa5,hw,hlw]) (by simp[lk]) (by simp[lk]) (by simp[lk]) (by simp[lk]) (by simp[lk]) (by simp[lk])
 refine Qg (Qe ?_);refine Qa ?_;simp only[go_sem];refine Qc rfl ?_ ?_
 ·intro hc;refine Qa ?_;simp only[go_sem,hx84];refine Qc rfl ?_ ?_
  ·intro hc2;refine Qa ?_;simp only[go_sem];refine Qi ?_;simp only[go_sem];exact retf false _ _ _ (by simp at hc hc2;rw[hGd];simp[Qaa5,hc,hc2]) kn (by simp[lk])
  ·intro hc2;refine Qf ?_;simp only[go_sem];exact rest31 1 _ (by simp at hc;simp[Q4j,hc]) (fun _=>by simpa using hc2) (by simp[lk]) (by simp[lk]) (by simp[lk]) (by simp[lk]) (by simp[lk]) (by simp[lk])
 intro hc1;refine Qa ?_;simp only[go_sem];refine Qc rfl ?_ ?_
 ·intro hc;refine Qp ?_;simp only[go_sem];exact rest31 2 _ (by simp at hc;simp[Q4j,hc]) (fun h=>by simp at hc1;exact absurd h hc1) (by simp[lk]) (by simp[lk]) (by simp[lk]) (by simp[lk]) (by simp[lk]) (by simp[lk])
 intro hc2;refine Qa ?_;simp only[go_sem];refine Qc rfl ?_ ?_
 ·intro hc;refine Qp ?_;simp only[go_sem];exact rest31 0 _ (by simp at hc;simp[Q4j,hc]) (fun h=>by simp at hc1;exact absurd h hc1) (by simp[lk]) (by simp[lk]) (by simp[lk]) (by simp[lk]) (by simp[lk]) (by simp[lk])
 ·intro hc;refine Qa ?_;simp only[go_sem];refine Qi ?_;simp only[go_sem];exact retf false _ _ _ (by simp at hc1 hc2 hc;rw[hGd];simp[Qaa5,Q4j,hc1,hc2,hc]) kn (by simp[lk])
end Go.AE.Y
