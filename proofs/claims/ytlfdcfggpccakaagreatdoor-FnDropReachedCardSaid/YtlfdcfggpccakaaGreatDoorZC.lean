/- Part 3 of the proof: the engine, codes, walks and plain laws, each named where it stands. -/
import Derived.Test.YtlfdcfggpccakaaGreatDoorZB
open Nat (reduceEqDiff reduceAdd reduceLeDiff reduceLT)
set_option linter.unusedVariables false
set_option linter.unusedSimpArgs false
set_option maxRecDepth 4000
open Int renaming eq_ofNat_of_zero_le->Jo,tmod_lt_of_pos->J0,tmod_nonneg->J4
open List renaming mem_singleton->Ja,getD_eq_getElem?_getD->Jb,getElem_mem->Jc,take_of_length_le->Jd,length_map->Je,mem_append_right->Jh,perm_append_comm->Ji,append_assoc->Jj,take_succ_eq_append_getElem->Jk,length_cons->Jl,mem_append->Jm,length_nil->Jn,drop_zero->Jp,nil_append->Jq,cons_append->Jr,flatMap_append->Js,map_set->Jt,set_cons_zero->Ju,map_append->Jv,take_append_drop->Jw,getD_cons_zero->Jx,mem_or_eq_of_mem_set->J1,getElem?_eq_getElem->J2,length_take->J3,contains_iff_mem->J5,getD_cons_succ->J6,set_cons_succ->J7,nodup_append->J9,all_eq_true->Jab,filter_cons->Jac,mem_flatMap->Jad,take_length->Jae,all_append->Jaf,filter_nil->Jag,length_set->Jah,map_cons->Jaj,map_nil->Jak,set_set->Jal
open Nat renaming zero_add->Jf,le_refl->Jg,lt_pow_self->Jy,mul_le_mul_left->Jz,one_le_two_pow->J8,le_trans->Jaa,le_succ->Jai,mul_succ->Jam
namespace Go.AE.Y
open Go.Proofs.Tryz
def Qlf:List Item:=[oJ 5 4]
def Q7w:SC:=cT 5 (sR [fI 2 (.mv (.k (.c (.sl true 1 []))))] [2] .ret) .skip
def Qlg:List Item:=[mJ 2 8]
def Qlh:List Item:=aJ 8 Q29 [.t 7]::Qlg
def Q7x:SC:=sR (tJ 6 3 1::aJ 7 Qff [.t 6]::Qlh) [2] .ret
def Q7y:SC:=.seq (sR (tJ 3 3 1::aJ 4 Qg0 [.t 3]::Qlf) [1,5] Q7w) Q7x
def Qai7:SC:=sR [vJ 1 0,fI 2 (.mv (.k (.c (.sl true 1 []))))] [1] Q7y
def Qj8:List RS:=[.tmp 2]
theorem Qaid:mFn prog Qho 1 9 Qai7 Qj8=true:=by kernel_rfl
def Qpj:List Item:=[cJ 8 .geq 7 0,mJ 4 8]
def Qahs:SC:=sR (mJ 5 0::mJ 6 1::aJ 7 Qmr [.t 5,.t 6]::Qpj) [4] .ret
def Qasi:SC:=sR [fB 4 false] [0,1] Qahs
def Q1i:List RS:=[.tmp 4]
theorem Qapp:mFn prog Qj0 2 9 Qasi Q1i=true:=by kernel_rfl
def Qbfn:SC:=cT 17 (sR [mJ 18 5,mJ 4 18] [4] .ret) .skip
def Qbfo:SC:=.reg [mJ 10 5,cJ 11 .add 10 1,mJ 5 11] [0,1,5]
def Qbfp:SC:=.seq (.block 1 (sR [mJ 12 0,mJ 13 5,iJ 14 1 12 13,lJ 15 14,mJ 16 1,bJ 17 .eql 15 16] [0,1,5,17] Qbfn)) Qbfo
def Qa98:SC:=.seq (sR [mJ 6 5,mJ 7 0,nJ 8 7,bJ 9 .lss 6 8] [0,1,5,9] (cT 9 .skip (.exit 0))) Qbfp
def Qbfq:SC:=sR [zJ 4 (-1)] [4] .ret
def Qbfr:SC:=.seq (sR [zJ 5 0] [0,1,5] (bL 0 Qa98)) Qbfq
def Qboo:SC:=sR [zJ 4 0] [0,1] Qbfr
def Qa09:List RS:=[.tmp 4]
theorem Qbn1:mFn prog Qaow 2 19 Qboo Qa09=true:=by kernel_rfl
def Qij:List Item:=[gT 12 7 (.not (.t 11)),pF 13 7 12,mJ 2 13]
def Qajt:SC:=sR (fJ 3 2 1::lJ 4 3::nJ 5 4::cJ 6 .gtr 5 0::mJ 7 6::gTf 8 7 2 1::gTl 9 7 8::gT 10 7 (.mkf Qnw [.t 1])::.e (some 11) (some (7,true)) (.call Qbw [.t 9,.t 10])::Qij) [2] .ret
def Qau9:SC:=sR [vJ 1 0,fB 2 false] [1] Qajt
def Qrj:List RS:=[.tmp 2]
theorem Qatv:mFn prog Qg0 1 14 Qau9 Qrj=true:=by kernel_rfl
def Q5l:List Item:=[mJ 3 5]
def Q5m:List Item:=[mJ 2 9]
def Qa1h:SC:=sR (mJ 8 3::aJ 9 Qmp [.t 8]::Q5m) [2] .ret
def Qa1i:SC:=sR [mJ 6 3,aJ 7 Qvx [.t 6]] [3] Qa1h
def Qa1j:SC:=sR (mJ 4 0::aJ 5 Qco [.t 4]::Q5l) [3] Qa1i
def Qbfl:SC:=sR [fI 2 (.mv (.k (.c (.sl true 1 []))))] [0] Qa1j
def Qaun:List RS:=[.tmp 2]
theorem Qbd5:mFn prog Q29 1 10 Qbfl Qaun=true:=by kernel_rfl
def Qyr:List Item:=[sJ 1 4 9]
def Qys:List Item:=eI 4 (.alloc [.sl true 1 []])::Qyr
def Qaq0:SC:=sR [lJ 13 3,mJ 2 13] [2] .ret
def Qaq1:SC:=sR [lJ 11 5,eI 12 (.callv (.t 11) [kI 0])] [3] Qaq0
def Qaq2:SC:=sR [fI 10 (.mkf Qcn [.t 4,.t 1,.t 5,.t 3]),sJ 1 5 10] [3,5] Qaq1
def Qaq3:SC:=sR [eI 5 (.alloc [.fnil])] [1,3,4,5] Qaq2
def Qaq4:SC:=sR (fJ 6 2 1::lJ 7 6::nJ 8 7::eI 9 (.mks 1 [.bool false] (.t 8))::Qys) [1,3,4] Qaq3
def Qaq5:SC:=sR [eI 3 (.alloc [.sl true 1 []])] [1,3] Qaq4
def Qa1p:SC:=sR [vJ 1 0,fI 2 (.mv (.k (.c (.sl true 1 []))))] [1] Qaq5
def Qaby:List RS:=[.tmp 2]
theorem Qa0s:mFn prog Qff 1 14 Qa1p Qaby=true:=by kernel_rfl
def Qa22:SC:=cT 5 (.reg [mJ 6 0,fI 7 (.sli 1 (.t 6) none (some (kI 2000))),mJ 0 7] [0]) .skip
def Q6g:List Item:=[mJ 2 10]
def Qadr:SC:=sR (mJ 8 0::fI 9 (.bld [.sl true 1 [],.int .i64 0] [(0,1,.t 8)])::eI 10 (.boxm (.t 9))::Q6g) [2] .ret
def Qa23:SC:=.seq (sR [mJ 3 0,nJ 4 3,cJ 5 .gtr 4 2000] [0,5] Qa22) Qadr
def Qbgd:SC:=sR [fI 2 (.mv (.k (.c .pnil)))] [0] Qa23
def Qab5:List RS:=[.tmp 2]
theorem Qbeg:mFn prog Qvw 1 11 Qbgd Qab5=true:=by kernel_rfl
def Qaza:SC:=cT 16 (sR [mJ 17 5,mJ 4 17] [4] .ret) .skip
def Qazb:SC:=sR [mJ 11 1,mJ 12 0,mJ 13 5,iJ 14 1 12 13,lJ 15 14,bJ 16 .eql 11 15] [0,1,5,7,8,16] Qaza
def Qazc:SC:=.reg [cJ 18 .add 8 1,mJ 8 18] [0,1,7,8]
def Qazd:SC:=.seq (.block 1 (sR [mJ 10 8,mJ 5 10] [0,1,5,7,8] Qazb)) Qazc
def Qask:SC:=sR [bJ 9 .lss 8 7] [0,1,7,8,9] (cX 9 0 Qazd)
def Qaze:SC:=sR [zJ 4 (-1)] [4] .ret
def Qazf:SC:=.seq (sR [mJ 6 0,nJ 7 6,zJ 8 0] [0,1,7,8] (bL 0 Qask)) Qaze
def Qbcc:SC:=sR [zJ 4 0] [0,1] Qazf
def Q3y:List RS:=[.tmp 4]
theorem Qa9r:mFn prog Qmr 2 19 Qbcc Q3y=true:=by kernel_rfl
def Qrt:List Item:=[oJ 14 13]
def Qai1:SC:=cT 14 (sR [fI 4 (.mv (.k (.c (.sl true 1 []))))] [4] .ret) .skip
def Qru:List Item:=[mJ 6 20,sJ 5 7 22]
def Qrv:List Item:=[mJ 5 30]
def Qai2:SC:=cT 26 (.reg (mJ 27 5::mJ 28 6::fI 29 (.bsl 1 [.t 28])::xJ 30 1 27 29::Qrv) [1,5,16,17,18]) .skip
def Qai3:SC:=sR [fJ 23 4 7,lJ 24 23,mJ 25 1,aJ 26 Qj0 [.t 24,.t 25]] [1,5,6,16,17,18,26] Qai2
def Qai4:SC:=.reg [cJ 31 .add 18 1,mJ 18 31] [1,5,16,17,18]
def Qai5:SC:=.seq (.block 1 (sR (mJ 20 18::iJ 21 5 16 18::tJ 22 5 21::eI 7 (.alloc [.sl true 2 [],.sl true 4 [],.int .i64 0,.int .i64 0,.sl true 1 []])::Qru) [1,5,6,7,16,17,18] Qai3)) Qai4
def Qack:SC:=sR [bJ 19 .lss 18 17] [1,5,16,17,18,19] (cX 19 0 Qai5)
def Qai6:SC:=sR [mJ 32 5,mJ 4 32] [4] .ret
def Qach:SC:=.seq (sR [fJ 15 2 2,lJ 16 15,nJ 17 16,zJ 18 0] [1,5,16,17,18] (bL 0 Qack)) Qai6
def Qaci:SC:=.seq (sR (mJ 8 1::fJ 9 2 2::lJ 10 9::nJ 11 10::cJ 12 .sub 11 1::aJ 13 Qaq [.t 8,kI 0,.t 12]::Qrt) [1,2,5,14] Qai1) Qach
def Qacj:SC:=sR [fI 5 (.mv (.k (.c (.sl true 1 []))))] [1,2,5] Qaci
def Qauz:SC:=sR [vJ 2 0,fI 4 (.mv (.k (.c (.sl true 1 []))))] [1,2] Qacj
def Qrh:List RS:=[.tmp 4]
theorem Qats:mFn prog Qcu 2 33 Qauz Qrh=true:=by kernel_rfl
def Qgs:List Item:=[cJ 8 .geq 7 0,mJ 4 8]
def Q0a:SC:=sR (mJ 5 0::mJ 6 1::aJ 7 Qhy [.t 5,.t 6]::Qgs) [4] .ret
def Q4l:SC:=sR [fB 4 false] [0,1] Q0a
def Qla:List RS:=[.tmp 4]
theorem Q3r:mFn prog Qa2 2 9 Q4l Qla=true:=by kernel_rfl
def Q5z:List Item:=[oJ 37 36]
def Qa1y:SC:=cT 37 (sR [fB 2 false] [2] .ret) .skip
def Qa1z:SC:=.reg [mJ 21 4,cJ 22 .add 21 1,mJ 4 22] [1,3,4]
def Qa10:SC:=.seq (.block 3 (.seq (.dreg 15 [0,1,2,3,4,5,6,7,8,9,10,11,12,13,14] ( fJ 23 2 1::lJ 24 23::mJ 25 3::iJ 26 5 24 25::fJ 27 4 26::lJ 28 27::mJ 29 4::iJ 30 1 28 29::lJ 31 30::fJ 32 2 1::lJ 33 32::nJ 34 33::cJ 35 .sub 34 1::aJ 36 Qbo [.t 31,kI 0,.t 35]::Q5z) [1,3,4,37]) Qa1y)) Qa1z
def Qavm:SC:=.seq (sR [mJ 12 4,fJ 13 2 1,lJ 14 13,mJ 15 3,iJ 16 5 14 15,fJ 17 4 16,lJ 18 17,nJ 19 18,bJ 20 .lss 12 19] [1,3,4,20] (cT 20 .skip (.exit 2))) Qa10
def Qa11:SC:=.reg [mJ 10 3,cJ 11 .add 10 1,mJ 3 11] [1,3]
def Qa12:SC:=.seq (.block 1 (sR [zJ 4 0] [1,3,4] (bL 2 Qavm))) Qa11
def Qavn:SC:=.seq (sR [mJ 5 3,fJ 6 2 1,lJ 7 6,nJ 8 7,bJ 9 .lss 5 8] [1,3,9] (cT 9 .skip (.exit 0))) Qa12
def Qa13:SC:=sR [fJ 38 2 1,lJ 39 38,nJ 40 39,cJ 41 .gtr 40 0,mJ 2 41] [2] .ret
def Qa14:SC:=.seq (sR [zJ 3 0] [1,3] (bL 0 Qavn)) Qa13
def Qbfv:SC:=sR [vJ 1 0,fB 2 false] [1] Qa14
def Qab1:List RS:=[.tmp 2]
theorem Qbea:mFn prog Q3b 1 42 Qbfv Qab1=true:=by kernel_rfl
def Qax6:SC:=.block 1 (.reg [mJ 19 5,cJ 20 .add 19 1,mJ 5 20] [0,1,5])
def Qar2:SC:=.seq (sR [mJ 7 5,mJ 8 0,nJ 9 8,bJ 10 .lss 7 9,mJ 11 10,gTm 12 11 0,gTm 13 11 5,gT 14 11 (.iad 1 (.t 12) (.t 13)),gTl 15 11 14,gTm 16 11 1,gT 17 11 (.bin 0 .lss (.t 15) (.t 16)),pF 18 11 17] [0,1,5,18] (cT 18 .skip (.exit 0))) Qax6
def Qax7:SC:=cT 32 (sR [mJ 33 0,mJ 4 33] [4] .ret) .skip
def Q2p:List Item:=[mJ 6 38]
def Q2q:List Item:=[mJ 4 46]
def Q2r:List Item:=.chk 45 none (.sli 1 (.t 43) (some (.t 44)) none)::xJ 46 1 42 45::Q2q
def Qax8:SC:=.seq (.dreg 9 [0,1,2,4,5,6,3,6,7,8] ( mJ 39 6::mJ 40 1::fI 41 (.bsl 1 [.t 40])::mJ 43 0::mJ 44 5::fI 45 (.sli 1 (.t 43) (some (.t 44)) none)::xJ 42 1 39 41::Q2r) [4]) .ret
def Q69:SC:=sR (fI 34 (.bsl 1 [])::mJ 35 0::mJ 36 5::fI 37 (.sli 1 (.t 35) none (some (.t 36)))::xJ 38 1 34 37::Q2p) [0,1,5,6] Qax8
def Q7a:SC:=.seq (sR [mJ 21 5,mJ 22 0,nJ 23 22,bJ 24 .lss 21 23,mJ 25 24,gTm 26 25 0,gTm 27 25 5,gT 28 25 (.iad 1 (.t 26) (.t 27)),gTl 29 25 28,gTm 30 25 1,gT 31 25 (.bin 0 .eql (.t 29) (.t 30)),pF 32 25 31] [0,1,5,32] Qax7) Q69
def Qax9:SC:=sR [zJ 5 0] [0,1,5] (.seq (bL 0 Qar2) Q7a)
def Qbbo:SC:=sR [fI 4 (.mv (.k (.c (.sl true 1 []))))] [0,1] Qax9
def Qk9:List RS:=[.tmp 4]
theorem Qa9o:mFn prog Qzi 2 47 Qbbo Qk9=true:=by kernel_rfl
def Q2f:List Item:=[mJ 3 49]
def Qaw3:SC:=cT 36 (.dreg 14 [0,1,2,3,4,5,6,7,8,9,10,11,12,13] ( tJ 37 3 4::fJ 38 2 4::lJ 39 38::mJ 40 1::iJ 41 5 39 40::fJ 42 4 41::lJ 43 42::mJ 44 9::iJ 45 1 43 44::lJ 46 45::mJ 47 2::mJ 48 3::aJ 49 Qmh [.t 37,.t 46,.t 47,.t 48]::Q2f) [1,2,3,4,9]) .skip
def Qaw4:SC:=.reg [mJ 22 9,cJ 23 .add 22 1,mJ 9 23] [1,2,3,4,9]
def Qaw5:SC:=.seq (.block 1 (sR [mJ 24 2,fJ 25 2 4,lJ 26 25,mJ 27 1,iJ 28 5 26 27,fJ 29 4 28,lJ 30 29,mJ 31 9,iJ 32 1 30 31,lJ 33 32,iJ 34 1 24 33,lJ 35 34,oJ 36 35] [1,2,3,4,9,36] Qaw3)) Qaw4
def Qarn:SC:=.seq (sR [mJ 13 9,fJ 14 2 4,lJ 15 14,mJ 16 1,iJ 17 5 15 16,fJ 18 4 17,lJ 19 18,nJ 20 19,bJ 21 .lss 13 20] [1,2,3,4,9,21] (cT 21 .skip (.exit 0))) Qaw5
def Q2g:List Item:=[mJ 8 53]
def Qaw6:SC:=sR (mJ 50 3::mJ 51 1::fI 52 (.bsl 1 [.t 51])::xJ 53 1 50 52::Q2g) [8] .ret
def Qaw7:SC:=.seq (sR [zJ 9 0] [1,2,3,4,9] (bL 0 Qarn)) Qaw6
def Qaw8:SC:=sR [mJ 10 2,mJ 11 1,iJ 12 1 10 11,.e none none (.sto 1 (.t 12) (.k (.c (.bool true))))] [1,2,3,4] Qaw7
def Qbab:SC:=sR [vJ 4 0,fI 8 (.mv (.k (.c (.sl true 1 []))))] [1,2,3,4] Qaw8
def Qan5:List RS:=[.tmp 8]
theorem Qa9l:mFn prog Qmh 4 54 Qbab Qan5=true:=by kernel_rfl
def Qcz:List Item:=[cJ 8 .geq 7 0,mJ 4 8]
def Qkg:SC:=sR (mJ 5 0::mJ 6 1::aJ 7 Qcp [.t 5,.t 6]::Qcz) [4] .ret
def Qnl:SC:=sR [fB 4 false] [0,1] Qkg
def Qd7:List RS:=[.tmp 4]
theorem Qmw:mFn prog Qbw 2 9 Qnl Qd7=true:=by kernel_rfl
def Qjo:List Item:=[mJ 3 7]
def Q4a:SC:=sR (fJ 4 4 2::lJ 5 4::fI 6 (.mkf Qhu [.t 1])::aJ 7 Qa2 [.t 5,.t 6]::Qjo) [3] .ret
def Qacx:SC:=sR [vJ 2 0,fB 3 false] [1,2] Q4a
def Qrk:List RS:=[.tmp 3]
theorem Qabj:mFn prog Qnw 2 8 Qacx Qrk=true:=by kernel_rfl
def Qayy:SC:=cT 4 (sR [fI 2 (.mv (.k (.c (.sl true 1 []))))] [2] .ret) .skip
def Q2s:List Item:=[mJ 2 7]
def Qayz:SC:=sR (fI 5 (.bsl 1 [])::mJ 6 0::xJ 7 1 5 6::Q2s) [2] .ret
def Qay0:SC:=.seq (sR [mJ 3 0,eI 4 (.nilq (.t 3))] [0,4] Qayy) Qayz
def Qbca:SC:=sR [fI 2 (.mv (.k (.c (.sl true 1 []))))] [0] Qay0
def Q3x:List RS:=[.tmp 2]
theorem Qa9p:mFn prog Qco 1 8 Qbca Q3x=true:=by kernel_rfl
def Q7n:List Item:=[aJ 10 Qbd [.t 5,kI 0,.t 6,.t 9]]
def Qa53:SC:=.reg (mJ 5 0::mJ 6 2::mJ 7 2::fI 8 (.cvt .u64 (.t 7))::aJ 9 Qaau [.t 8]::Q7n) []
def Qbg2:SC:=sR [mJ 3 0,nJ 4 3,mJ 2 4] [0,2] Qa53
def Qauv:List RS:=[]
theorem Qben:mFn prog Qvx 1 11 Qbg2 Qauv=true:=by kernel_rfl
def Qam0:SC:=cT 8 (sR [mJ 9 0,mJ 2 9] [2] .ret) .skip
def Qam1:SC:=.reg [mJ 52 3,cJ 53 .add 52 1,mJ 3 53] [0,3,4,5]
def Qam2:SC:=cT 44 (sR [mJ 45 0,mJ 46 3,mJ 47 4,mJ 48 5,iJ 49 1 47 48,lJ 50 49,iJ 51 1 45 46,sJ 1 51 50] [0,3,4,5] Qam1) .skip
def Qam3:SC:=.reg [mJ 33 5,cJ 34 .add 33 1,mJ 5 34] [0,3,4,5]
def Qam4:SC:=.seq (.block 3 (.seq (.dreg 10 [0,1,2,3,4,5,6,7,8,9] ( mJ 35 4::mJ 36 5::iJ 37 1 35 36::lJ 38 37::mJ 39 4::mJ 40 5::cJ 41 .sub 40 1::iJ 42 1 39 41::lJ 43 42::bJ 44 .neq 38 43::[]) [0,3,4,5,44]) Qam2)) Qam3
def Qahr:SC:=.seq (sR [mJ 29 5,mJ 30 4,nJ 31 30,bJ 32 .lss 29 31] [0,3,4,5,32] (cT 32 .skip (.exit 2))) Qam4
def Qam5:SC:=sR [mJ 57 0,mJ 58 3,fI 59 (.sli 1 (.t 57) none (some (.t 58))),mJ 2 59] [2] .ret
def Qam6:SC:=sR [mJ 54 0,mJ 55 3,fI 56 (.sli 1 (.t 54) (some (.t 55)) none),.e none none (.clrs 1 [.int .i64 0] (.t 56))] [0,3] Qam5
def Qam7:SC:=.seq (sR [zJ 5 1] [0,3,4,5] (bL 2 Qahr)) Qam6
def Qam8:SC:=cT 25 (sR [mJ 26 0,mJ 27 3,fI 28 (.sli 1 (.t 26) (some (.t 27)) none),mJ 4 28] [0,3,4] Qam7) .skip
def Qahm:SC:=.reg [mJ 14 3,cJ 15 .add 14 1,mJ 3 15] [0,3]
def Qahn:SC:=.seq (.block 1 (.seq (.dreg 10 [0,1,2,3,4,5,6,7,8,9] ( mJ 16 0::mJ 17 3::iJ 18 1 16 17::lJ 19 18::mJ 20 0::mJ 21 3::cJ 22 .sub 21 1::iJ 23 1 20 22::lJ 24 23::bJ 25 .eql 19 24::[]) [0,3,25]) Qam8)) Qahm
def Q9k:SC:=.seq (sR [mJ 10 3,mJ 11 0,nJ 12 11,bJ 13 .lss 10 12] [0,3,13] (cT 13 .skip (.exit 0))) Qahn
def Qaho:SC:=sR [mJ 60 0,mJ 2 60] [2] .ret
def Qahp:SC:=.seq (sR [zJ 3 1] [0,3] (bL 0 Q9k)) Qaho
def Qahq:SC:=.seq (sR [mJ 6 0,nJ 7 6,cJ 8 .lss 7 2] [0,8] Qam0) Qahp
def Qay1:SC:=sR [fI 2 (.mv (.k (.c (.sl true 1 []))))] [0] Qahq
def Qjh:List RS:=[.tmp 2]
theorem Qauc:mFn prog Qmp 1 61 Qay1 Qjh=true:=by kernel_rfl
def Q8r:SC:=cT 26 (.reg [lJ 27 3,mJ 28 7,eI 29 (.callv (.t 27) [.t 28])] [0,1,3,4,16,17,18]) .skip
def Q8s:SC:=sR [lJ 22 1,mJ 23 7,iJ 24 1 22 23,lJ 25 24,oJ 26 25] [0,1,3,4,7,16,17,18,26] Q8r
def Q8t:SC:=.reg [cJ 30 .add 18 1,mJ 18 30] [0,1,3,4,16,17,18]
def Q8u:SC:=.seq (.block 1 (sR [iJ 20 1 16 18,lJ 21 20,mJ 7 21] [0,1,3,4,7,16,17,18] Q8s)) Q8t
def Q4f:SC:=sR [bJ 19 .lss 18 17] [0,1,3,4,16,17,18,19] (cX 19 0 Q8u)
def Qlt:List Item:=[sJ 1 4 34]
def Q8v:SC:=.reg (lJ 31 4::mJ 32 0::fI 33 (.bsl 1 [.t 32])::xJ 34 1 31 33::Qlt) []
def Q8w:SC:=.seq (sR [fJ 11 2 2,lJ 12 11,mJ 13 0,iJ 14 5 12 13,fJ 15 4 14,lJ 16 15,nJ 17 16,zJ 18 0] [0,1,3,4,16,17,18] (bL 0 Q4f)) Q8v
def Qalg:SC:=sR [lJ 8 1,mJ 9 0,iJ 10 1 8 9,.e none none (.sto 1 (.t 10) (.k (.c (.bool true))))] [0,1,2,3,4] Q8w
def Qxt:List RS:=[]
theorem Qain:mFn prog Qcn 5 35 Qalg Qxt=true:=by kernel_rfl
def Qaq6:SC:=sR [mJ 7 1,mJ 8 0,bJ 9 .leq 7 8,mJ 10 9,gTm 11 10 0,gTm 12 10 2,gT 13 10 (.bin 0 .leq (.t 11) (.t 12)),pF 14 10 13,mJ 6 14] [6] .ret
def Qa1q:SC:=sR [fB 6 false] [0,1,2] Qaq6
def Qabz:List RS:=[.tmp 6]
theorem Qa0t:mFn prog Qaq 3 15 Qa1q Qabz=true:=by kernel_rfl
def Q9l:SC:=cT 16 (sR [mJ 17 5,mJ 4 17] [4] .ret) .skip
def Q9m:SC:=sR [mJ 11 1,mJ 12 0,mJ 13 5,iJ 14 1 12 13,lJ 15 14,eI 16 (.callv (.t 11) [.t 15])] [0,1,5,7,8,16] Q9l
def Q9n:SC:=.reg [cJ 18 .add 8 1,mJ 8 18] [0,1,7,8]
def Q9o:SC:=.seq (.block 1 (sR [mJ 10 8,mJ 5 10] [0,1,5,7,8] Q9m)) Q9n
def Q4m:SC:=sR [bJ 9 .lss 8 7] [0,1,7,8,9] (cX 9 0 Q9o)
def Q9p:SC:=sR [zJ 4 (-1)] [4] .ret
def Q9q:SC:=.seq (sR [mJ 6 0,nJ 7 6,zJ 8 0] [0,1,7,8] (bL 0 Q4m)) Q9p
def Qam9:SC:=sR [zJ 4 0] [0,1] Q9q
def Qkb:List RS:=[.tmp 4]
theorem Qaio:mFn prog Qhy 2 19 Qam9 Qkb=true:=by kernel_rfl
def Qpx:SC:=cT 16 (sR [mJ 17 5,mJ 4 17] [4] .ret) .skip
def Qpy:SC:=sR [mJ 11 1,mJ 12 0,mJ 13 5,iJ 14 5 12 13,tJ 15 5 14,eI 16 (.callv (.t 11) [.t 15])] [0,1,5,7,8,16] Qpx
def Qpz:SC:=.reg [cJ 18 .add 8 1,mJ 8 18] [0,1,7,8]
def Qp0:SC:=.seq (.block 1 (sR [mJ 10 8,mJ 5 10] [0,1,5,7,8] Qpy)) Qpz
def Qnn:SC:=sR [bJ 9 .lss 8 7] [0,1,7,8,9] (cX 9 0 Qp0)
def Qp1:SC:=sR [zJ 4 (-1)] [4] .ret
def Qp2:SC:=.seq (sR [mJ 6 0,nJ 7 6,zJ 8 0] [0,1,7,8] (bL 0 Qnn)) Qp1
def Qw4:SC:=sR [zJ 4 0] [0,1] Qp2
def Qc5:List RS:=[.tmp 4]
theorem Qwd:mFn prog Qcp 2 19 Qw4 Qc5=true:=by kernel_rfl
def Qfp:List Item:=[oJ 10 9,mJ 3 10]
def Qwg:SC:=sR (mJ 4 0::fJ 5 2 1::lJ 6 5::nJ 7 6::cJ 8 .sub 7 1::aJ 9 Qaq [.t 4,kI 0,.t 8]::Qfp) [3] .ret
def Q1v:SC:=sR [fB 3 false] [0,1] Qwg
def Qjd:List RS:=[.tmp 3]
theorem Q0w:mFn prog Qhu 2 11 Q1v Qjd=true:=by kernel_rfl
def Qvg:SC:=cT 23 (sR [mJ 24 0,mJ 25 1,mJ 26 2,aJ 27 Qbp [.t 24,.t 25,.t 26]] [] .ret) .skip
def Qvh:SC:=cT 29 (sR [mJ 30 0,mJ 31 1,mJ 32 2,aJ 33 Qq5 [.t 30,.t 31,.t 32]] [] .ret) .skip
def Qvi:SC:=.reg [mJ 40 3,cJ 41 .sub 40 1,mJ 3 41] [0,1,2,3,8,9,10]
def Qvj:SC:=cT 35 (sR [mJ 36 0,mJ 37 1,mJ 38 2,aJ 39 Qix [.t 36,.t 37,.t 38]] [0,1,2,3,8,9,10] Qvi) .skip
def Qqn:List Item:=[mJ 42 46,fI 47 (.ext (.t 42) 0),fI 48 (.ext (.t 42) 1),mJ 11 47,mJ 12 48]
def Qvk:SC:=.reg [zJ 12 1] [0,1,2,3,8,9,10,11,12]
def Qvl:SC:=sR [mJ 55 2,cJ 56 .sub 55 1,mJ 57 11,mJ 58 1,bJ 59 .sub 57 58,bJ 60 .sub 56 59,mJ 11 60] [0,1,2,3,8,9,10,11] Qvk
def Qvm:SC:=cT 50 (sR [mJ 51 0,mJ 52 1,mJ 53 2,aJ 54 Qj1 [.t 51,.t 52,.t 53]] [0,1,2,3,8,9,10,11] Qvl) .skip
def Qvn:SC:=cT 68 (sR [mJ 69 0,mJ 70 1,mJ 71 2,aJ 72 Qd2 [.t 69,.t 70,.t 71]] [0,1,2,3,8,9,10,11,72] (cT 72 .ret .skip)) .skip
def Qqo:List Item:=[gT 86 75 (.not (.t 85)),pF 87 75 86]
def Qno:List Item:=[mJ 13 92]
def Qp3:SC:=sR [mJ 93 13,mJ 1 93] [0,1,2,3,8,9] (.exit 1)
def Qp4:SC:=cT 87 (sR (mJ 88 0::mJ 89 1::mJ 90 2::mJ 91 11::aJ 92 Qhz [.t 88,.t 89,.t 90,.t 91]::Qno) [0,2,3,8,9,13] Qp3) .skip
def Qnp:List Item:=[mJ 94 99,fI 100 (.ext (.t 94) 0),fI 101 (.ext (.t 94) 1),mJ 14 100,mJ 15 101]
def Qp5:SC:=.reg [mJ 122 14,cJ 123 .add 122 1,mJ 1 123] [0,1,2,3,8,9]
def Qp6:SC:=sR [mJ 117 0,mJ 118 1,mJ 119 14,mJ 120 3,aJ 121 Qbd [.t 117,.t 118,.t 119,.t 120]] [0,2,3,8,9,14] Qp5
def Qp7:SC:=.reg [mJ 133 14,mJ 2 133] [0,1,2,3,8,9]
def Qp8:SC:=sR [mJ 127 0,mJ 128 14,cJ 129 .add 128 1,mJ 130 2,mJ 131 3,aJ 132 Qbd [.t 127,.t 129,.t 130,.t 131]] [0,1,3,8,9,14] Qp7
def Qp9:SC:=cT 113 (sR [mJ 114 16,mJ 115 18,bJ 116 .geq 114 115,mJ 8 116] [0,1,2,3,8,9,14] Qp6) (sR [mJ 124 17,mJ 125 18,bJ 126 .geq 124 125,mJ 8 126] [0,1,2,3,8,9,14] Qp8)
def Qqa:SC:=sR [mJ 111 16,mJ 112 17,bJ 113 .lss 111 112] [0,1,2,3,9,14,16,17,18,113] Qp9
def Qqb:SC:=sR [mJ 109 10,cJ 110 .quo 109 8,mJ 18 110] [0,1,2,3,9,14,16,17,18] Qqa
def Qqc:SC:=sR [mJ 103 14,mJ 104 1,bJ 105 .sub 103 104,mJ 106 2,mJ 107 14,bJ 108 .sub 106 107,mJ 16 105,mJ 17 108] [0,1,2,3,9,10,14,16,17] Qqb
def Qqd:SC:=sR [mJ 102 15,mJ 9 102] [0,1,2,3,9,10,14] Qqc
def Qqe:SC:=sR (mJ 95 0::mJ 96 1::mJ 97 2::mJ 98 11::aJ 99 Qpn [.t 95,.t 96,.t 97,.t 98]::Qnp) [0,1,2,3,10,14,15] Qqd
def Qqf:SC:=.seq (.seq (.dreg 15 [0,1,2,3,4,5,6,7,8,9,10,11,12,13,14] ( mJ 73 1::cJ 74 .gtr 73 0::mJ 75 74::gTm 76 75 0::gTm 77 75 1::gT 78 75 (.bin 0 .sub (.t 77) (kI 1))::gT 79 75 (.iad 1 (.t 76) (.t 78))::gTl 80 75 79::gTm 81 75 0::gTm 82 75 11::gT 83 75 (.iad 1 (.t 81) (.t 82))::gTl 84 75 83::.e (some 85) (some (75,true)) (.call Qaav [.t 80,.t 84])::Qqo) [0,1,2,3,8,9,10,11,87]) Qp4) Qqe
def Qqg:SC:=.seq (sR [mJ 61 8,mJ 62 61,gTm 63 62 9,pF 64 62 63,mJ 65 64,gTm 66 65 12,gT 67 65 (.bin 0 .eql (.t 66) (kI 1)),pF 68 65 67] [0,1,2,3,8,9,10,11,68] Qvn) Qqf
def Qqh:SC:=.seq (sR [mJ 49 12,cJ 50 .eql 49 2] [0,1,2,3,8,9,10,11,12,50] Qvm) Qqg
def Qqi:SC:=sR (mJ 43 0::mJ 44 1::mJ 45 2::aJ 46 Qkt [.t 43,.t 44,.t 45]::Qqn) [0,1,2,3,8,9,10,11,12] Qqh
def Qqj:SC:=.seq (sR [mJ 34 8,oJ 35 34] [0,1,2,3,8,9,10,35] Qvj) Qqi
def Qqk:SC:=.seq (sR [mJ 28 3,cJ 29 .eql 28 0] [0,1,2,3,8,9,10,29] Qvh) Qqj
def Qql:SC:=.seq (sR [mJ 22 10,cJ 23 .leq 22 12] [0,1,2,3,8,9,10,23] Qvg) Qqk
def Qnq:SC:=.block 1 (sR [mJ 19 2,mJ 20 1,bJ 21 .sub 19 20,mJ 10 21] [0,1,2,3,8,9,10] Qql)
def Qqm:SC:=sR [fB 9 true] [0,1,2,3,8,9] (bL 0 Qnq)
def Q0b:SC:=sR [fB 8 true] [0,1,2,3,8] Qqm
def Qia:List RS:=[]
theorem Qzo:mFn prog Qbd 4 134 Q0b Qia=true:=by kernel_rfl
def Qha:List Item:=[pF 30 19 29]
def Qhb:List Item:=[iJ 48 1 35 37,sJ 1 48 46]
def Qiq:SC:=.reg [mJ 31 7,cJ 32 .sub 31 1,mJ 7 32] [0,1,2,6,7]
def Qir:SC:=.seq (.block 3 (.dreg 18 [0,1,2,3,4,5,6,7,8,9,10,11,12,13,14,15,16,17] ( mJ 33 0::mJ 34 7::mJ 35 0::mJ 36 7::cJ 37 .sub 36 1::mJ 38 0::mJ 39 7::cJ 40 .sub 39 1::iJ 41 1 38 40::lJ 42 41::mJ 43 0::mJ 44 7::iJ 45 1 43 44::lJ 46 45::iJ 47 1 33 34::sJ 1 47 42::Qhb) [0,1,2,6,7])) Qiq
def Qhc:SC:=.seq (.seq (.dreg 15 [0,1,2,3,4,5,6,7,8,9,10,11,12,13,14] ( mJ 16 7::mJ 17 1::bJ 18 .gtr 16 17::mJ 19 18::gTm 20 19 0::gTm 21 19 7::gT 22 19 (.iad 1 (.t 20) (.t 21))::gTl 23 19 22::gTm 24 19 0::gTm 25 19 7::gT 26 19 (.bin 0 .sub (.t 25) (kI 1))::gT 27 19 (.iad 1 (.t 24) (.t 26))::gTl 28 19 27::.e (some 29) (some (19,true)) (.call Qaav [.t 23,.t 28])::Qha) [0,1,2,6,7,30]) (cT 30 .skip (.exit 2))) Qir
def Qis:SC:=.reg [mJ 13 6,cJ 14 .add 13 1,mJ 6 14] [0,1,2,6]
def Qit:SC:=.seq (.block 1 (sR [mJ 15 6,mJ 7 15] [0,1,2,6,7] (bL 2 Qhc))) Qis
def Qhd:SC:=.seq (sR [mJ 10 6,mJ 11 2,bJ 12 .lss 10 11] [0,1,2,6,12] (cT 12 .skip (.exit 0))) Qit
def Qkh:SC:=sR [mJ 8 1,cJ 9 .add 8 1,mJ 6 9] [0,1,2,6] (bL 0 Qhd)
def Qdc:List RS:=[]
theorem Qj4:mFn prog Qbp 3 49 Qkh Qdc=true:=by kernel_rfl
def Qrr:List Item:=[oJ 6 5]
def Qaiv:SC:=cT 6 (sR [fI 2 (.mv (.k (.c (.sl true 1 []))))] [2] .ret) .skip
def Qrs:List Item:=[mJ 3 8]
def Qaiw:SC:=sR [mJ 11 3,mJ 2 11] [2] .ret
def Qaix:SC:=sR [mJ 9 3,aJ 10 Qms [.t 9]] [3] Qaiw
def Qaiy:SC:=sR (tJ 7 3 1::aJ 8 Qff [.t 7]::Qrs) [3] Qaix
def Qaiz:SC:=.seq (sR (tJ 4 3 1::aJ 5 Qg0 [.t 4]::Qrr) [1,6] Qaiv) Qaiy
def Qauy:SC:=sR [vJ 1 0,fI 2 (.mv (.k (.c (.sl true 1 []))))] [1] Qaiz
def Q48:List RS:=[.tmp 2]
theorem Qatr:mFn prog Qmb 1 12 Qauy Q48=true:=by kernel_rfl
def Qli:List Item:=[oJ 10 9]
def Q70:SC:=cT 10 (sR [fB 2 false] [2] .ret) .skip
def Qlj:List Item:=[mJ 4 16,sJ 3 5 18]
def Qlk:List Item:=[oJ 22 21]
def Q71:SC:=cT 22 (sR [fB 2 false] [2] .ret) .skip
def Qll:List Item:=[bJ 26 .add 23 25,mJ 3 26]
def Q72:SC:=.reg (mJ 23 3::tJ 24 3 5::aJ 25 Qhq [.t 24]::Qll) [1,3,12,13,14]
def Q73:SC:=.seq (sR (tJ 19 1 1::mJ 20 4::aJ 21 Qqx [.t 19,.t 20]::Qlk) [1,3,5,12,13,14,22] Q71) Q72
def Q74:SC:=.reg [cJ 27 .add 14 1,mJ 14 27] [1,3,12,13,14]
def Q75:SC:=.seq (.block 1 (sR (mJ 16 14::iJ 17 3 12 14::tJ 18 3 17::eI 5 (.alloc [.int .i64 0,.int .i64 0,.sl true 5 []])::Qlj) [1,3,4,5,12,13,14] Q73)) Q74
def Q1m:SC:=sR [bJ 15 .lss 14 13] [1,3,12,13,14,15] (cX 15 0 Q75)
def Q34:SC:=sR [mJ 28 3,cJ 29 .leq 28 800,mJ 2 29] [2] .ret
def Q35:SC:=.seq (sR [fJ 11 0 1,lJ 12 11,nJ 13 12,zJ 14 0] [1,3,12,13,14] (bL 0 Q1m)) Q34
def Q36:SC:=sR [zJ 3 0] [1,3] Q35
def Q37:SC:=.seq (sR (fJ 6 0 1::lJ 7 6::nJ 8 7::aJ 9 Qaq [.t 8,kI 1,kI 4]::Qli) [1,10] Q70) Q36
def Qajb:SC:=sR [vJ 1 0,fB 2 false] [1] Q37
def Qj9:List RS:=[.tmp 2]
theorem Qaie:mFn prog Qbv 1 30 Qajb Qj9=true:=by kernel_rfl
def Qn8:List Item:=[hJ 4 3,fI 8 (.bld [.int .i64 0,.sl true 1 []] [(0,1,.t 4),(1,1,.t 7)]),sJ 2 2 8]
def Qacu:SC:=.seq (.dreg 7 [0,1,2,3,4,1,5,6] ( fJ 3 0 1::lJ 4 3::fJ 5 1 1::lJ 6 5::aJ 7 Qco [.t 6]::Qn8) [2]) .ret
def Qaqb:SC:=sR [vJ 1 0,eI 2 (.alloc [.int .i64 0,.sl true 1 []])] [1,2] Qacu
def Q05:List RS:=[.cell 2 2 true]
theorem Qape:mFn prog Qc9 1 9 Qaqb Q05=true:=by kernel_rfl
def Qln:List Item:=[sJ 5 5 12]
def Q79:SC:=.reg [mJ 13 3,fJ 14 0 5,lJ 15 14,nJ 16 15,fJ 17 1 5,lJ 18 17,nJ 19 18,bJ 20 .add 16 19,bJ 21 .add 13 20,mJ 3 21] [3,7,8,9]
def Q8a:SC:=.reg [cJ 22 .add 9 1,mJ 9 22] [3,7,8,9]
def Q8b:SC:=.seq (.block 1 (sR (iJ 11 5 7 9::tJ 12 5 11::eI 5 (.alloc [.sl true 2 [],.sl true 4 [],.int .i64 0,.int .i64 0,.sl true 1 []])::Qln) [3,5,7,8,9] Q79)) Q8a
def Q39:SC:=sR [bJ 10 .lss 9 8] [3,7,8,9,10] (cX 10 0 Q8b)
def Q8c:SC:=sR [mJ 23 3,mJ 2 23] [2] .ret
def Q8d:SC:=.seq (sR [fJ 6 2 1,lJ 7 6,nJ 8 7,zJ 9 0] [3,7,8,9] (bL 0 Q39)) Q8c
def Q8e:SC:=sR [zJ 3 0] [1,3] Q8d
def Qaje:SC:=sR [vJ 1 0,zJ 2 0] [1] Q8e
def Qxn:List RS:=[.tmp 2]
theorem Qaig:mFn prog Qhq 1 24 Qaje Qxn=true:=by kernel_rfl
def Qx2:List Item:=[sJ 3 5 16]
def Qfa:List Item:=[gF 35 30 (.not (.t 34)),pT 36 30 35]
def Qfb:List Item:=gF 28 21 (.not (.t 27))::pT 29 21 28::mJ 30 29::gFf 31 30 2 5::gFl 32 30 31::gF 33 30 (.len (.t 32))::.e (some 34) (some (30,false)) (.call Qaq [.t 33,kI 1,kI 160])::Qfa
def Qke:List Item:=oJ 20 19::mJ 21 20::gFf 22 21 0 5::gFl 23 21 22::gFf 24 21 1 5::gFl 25 21 24::gF 26 21 (.mn (kI 3) (.t 25))::.e (some 27) (some (21,false)) (.call Qaq [.t 23,kI 0,.t 26])::Qfb
def s_im_codeOk_4:SC:=cT 36 (sR [fB 4 false] [4] .ret) .skip
def Qx3:List Item:=[sJ 1 6 37]
def Qx4:List Item:=[mJ 7 43,sJ 5 8 45]
def Qde:List Item:=[gF 69 65 (.not (.t 68)),gFm 70 65 69,gTf 71 70 3 8,gTl 72 70 71,gT 73 70 (.bin 0 .neq (.t 72) (kI 0)),gF 74 65 (.pick (.t 70) (.t 73) (.k (.c (.bool false)))),pT 75 65 74]
def Qdf:List Item:=gT 62 57 (.not (.t 61))::gF 63 53 (.pick (.t 57) (.t 62) (.k (.c (.bool false))))::pT 64 53 63::mJ 65 64::gFf 66 65 2 8::gFl 67 65 66::.e (some 68) (some (65,false)) (.call Qi5 [.t 67])::Qde
def Qfc:List Item:=gFm 57 53 56::gTl 58 57 6::gTf 59 57 3 8::gTl 60 57 59::.e (some 61) (some (57,true)) (.callv (.t 58) [.t 60])::Qdf
def Qig:List Item:=hJ 47 46::.chk 48 none (.len (.t 47))::bJ 52 .neq 48 51::mJ 53 52::gFf 54 53 2 8::gFl 55 53 54::.e (some 56) (some (53,false)) (.call Qi5 [.t 55])::Qfc
def s_im_codeOk_11:SC:=cT 75 (sR [fB 4 false] [4] .ret) .skip
def Qih:List Item:=[pT 85 80 84]
def Qii:List Item:=mJ 80 79::gFf 81 80 1 8::gFl 82 80 81::gF 83 80 (.mkf Qhs [.t 2,.t 3])::.e (some 84) (some (80,false)) (.call Qcf [.t 82,.t 83])::Qih
def s_im_codeOk_14:SC:=cT 85 (sR [fB 4 false] [4] .ret) .skip
def Qr3:List Item:=[nJ 89 88,mJ 9 89]
def Qr4:List Item:=[sJ 2 11 96]
def Qcr:List Item:=[pT 118 113 117]
def Qcs:List Item:=gF 104 99 (.not (.t 103))::pT 105 99 104::mJ 106 105::gFf 107 106 1 11::gFl 108 106 107::gF 109 106 (.len (.t 108))::gFm 110 106 9::gF 111 106 (.bin 0 .neq (.t 109) (.t 110))::pT 112 106 111::mJ 113 112::gFf 114 113 1 11::gFl 115 113 114::gF 116 113 (.mkf Qht [.t 6])::.e (some 117) (some (113,false)) (.call Qa2 [.t 115,.t 116])::Qcr
def Qxy:SC:=cT 118 (sR [fB 4 false] [4] .ret) .skip
def Qajf:SC:=sR (mJ 97 7::cJ 98 .eql 97 0::mJ 99 98::gFl 100 99 6::gFf 101 99 0 11::gFl 102 99 101::.e (some 103) (some (99,false)) (.callv (.t 100) [.t 102])::Qcs) [2,3,5,6,7,9,39,40,41,91,92,93,118] Qxy
def Qxz:SC:=.reg [cJ 119 .add 93 1,mJ 93 119] [2,3,5,6,7,9,39,40,41,91,92,93]
def Qajg:SC:=.seq (.block 3 (sR (iJ 95 2 91 93::tJ 96 2 95::eI 11 (.alloc [.int .i64 0,.sl true 1 []])::Qr4) [2,3,5,6,7,9,11,39,40,41,91,92,93] Qajf)) Qxz
def Qacv:SC:=sR [bJ 94 .lss 93 92] [2,3,5,6,7,9,39,40,41,91,92,93,94] (cX 94 2 Qajg)
def Qajh:SC:=sR [fJ 90 0 8,lJ 91 90,nJ 92 91,zJ 93 0] [2,3,5,6,7,9,39,40,41,91,92,93] (bL 2 Qacv)
def Qkd:SC:=sR (tJ 86 3 5::mJ 87 7::aJ 88 Qcu [.t 86,.t 87]::Qr3) [2,3,5,6,7,8,9,39,40,41] Qajh
def Qx0:SC:=.seq (sR (fJ 76 4 8::lJ 77 76::fI 78 (.mkf Qhr [.t 5])::aJ 79 Qa2 [.t 77,.t 78]::Qii) [2,3,5,6,7,8,39,40,41,85] s_im_codeOk_14) Qkd
def Qaji:SC:=.seq (.seq (.dreg 30 [0,1,2,3,4,5,1,2,6,7,8,9,10,11,12,13,14,15,16,17,18,19,20,21,22,23,24,25,26,27,28,29] ( fJ 46 4 8::lJ 47 46::nJ 48 47::fJ 49 2 8::lJ 50 49::aJ 51 Qhv [.t 50]::Qig) [2,3,5,6,7,8,39,40,41,75]) s_im_codeOk_11) Qx0
def Qajj:SC:=.reg [cJ 120 .add 41 1,mJ 41 120] [2,3,5,6,39,40,41]
def Qajk:SC:=.seq (.block 1 (sR (mJ 43 41::iJ 44 5 39 41::tJ 45 5 44::eI 8 (.alloc [.sl true 2 [],.sl true 4 [],.int .i64 0,.int .i64 0,.sl true 1 []])::Qx4) [2,3,5,6,7,8,39,40,41] Qaji)) Qajj
def Qacw:SC:=sR [bJ 42 .lss 41 40] [2,3,5,6,39,40,41,42] (cX 42 0 Qajk)
def Qajl:SC:=sR [fB 4 true] [4] .ret
def Qajm:SC:=.seq (sR [fJ 38 2 5,lJ 39 38,nJ 40 39,zJ 41 0] [2,3,5,6,39,40,41] (bL 0 Qacw)) Qajl
def Qx1:SC:=sR (fI 37 (.mkf Qaj [.t 5])::eI 6 (.alloc [.fnil])::Qx3) [2,3,5,6] Qajm
def Qajn:SC:=.seq (sR (fJ 17 1 5::lJ 18 17::aJ 19 Qaq [.t 18,kI 0,kI 300]::Qke) [2,3,5,36] s_im_codeOk_4) Qx1
def Qajo:SC:=sR (fJ 12 0 2::lJ 13 12::lJ 14 3::iJ 15 3 13 14::tJ 16 3 15::eI 5 (.alloc [.int .i64 0,.int .i64 0,.sl true 5 []])::Qx2) [2,3,5] Qajn
def Qa1f:SC:=sR [vJ 2 0,vJ 3 1,fB 4 false] [2,3] Qajo
def Qh5:List RS:=[.tmp 4]
theorem Qa0m:mFn prog Qqx 2 121 Qa1f Qh5=true:=by kernel_rfl
def Qlo:List Item:=[mJ 3 8]
def Q8f:SC:=sR (mJ 4 0::fJ 5 1 1::lJ 6 5::cJ 7 .sub 6 1::aJ 8 Qaq [.t 4,kI 0,.t 7]::Qlo) [3] .ret
def Qajp:SC:=sR [fB 3 false] [0,1] Q8f
def Qxo:List RS:=[.tmp 3]
theorem Qaih:mFn prog Qaj 2 9 Qajp Qxo=true:=by kernel_rfl
def Qlp:List Item:=[oJ 10 9,mJ 3 10]
def Q8g:SC:=sR (mJ 4 0::fJ 5 2 1::lJ 6 5::nJ 7 6::cJ 8 .sub 7 1::aJ 9 Qaq [.t 4,kI 1,.t 8]::Qlp) [3] .ret
def Qajq:SC:=sR [fB 3 false] [0,1] Q8g
def Qxp:List RS:=[.tmp 3]
theorem Qaii:mFn prog Qhr 2 11 Qajq Qxp=true:=by kernel_rfl
def Qlq:List Item:=[oJ 9 8,mJ 4 9]
def Q8h:SC:=sR (tJ 5 1 1::lJ 6 2::tJ 7 4 3::aJ 8 Qzg [.t 5,.t 6,.t 7]::Qlq) [4] .ret
def Qajr:SC:=sR [vJ 3 0,fB 4 false] [1,2,3] Q8h
def Qxq:List RS:=[.tmp 4]
theorem Qaij:mFn prog Qhs 3 10 Qajr Qxq=true:=by kernel_rfl
def Qlr:List Item:=[oJ 7 6,mJ 3 7]
def Q8i:SC:=sR (lJ 4 1::mJ 5 0::eI 6 (.callv (.t 4) [.t 5])::Qlr) [3] .ret
def Qajs:SC:=sR [fB 3 false] [0,1] Q8i
def Qxr:List RS:=[.tmp 3]
theorem Qaik:mFn prog Qht 2 8 Qajs Qxr=true:=by kernel_rfl
def Qaju:SC:=cT 6 .skip (.reg [cJ 10 .eql 3 13,mJ 6 10] [6])
def Qajv:SC:=cT 6 .skip (sR [cJ 9 .eql 3 11,mJ 6 9] [3,6] Qaju)
def Qajw:SC:=cT 6 .skip (sR [cJ 8 .eql 3 10,mJ 6 8] [3,6] Qajv)
def Qx5:SC:=cT 6 (sR [zJ 2 1] [2] .ret) .skip
def Qajx:SC:=cT 4 (sR [zJ 2 0] [2] .ret) (.seq (sR [cJ 7 .eql 3 2,mJ 6 7] [3,6] Qajw) Qx5)
def Qajy:SC:=.block 0 (sR [cJ 5 .eql 3 1,mJ 4 5] [3,4] Qajx)
def Qx6:SC:=sR [zJ 2 2] [2] .ret
def Qajz:SC:=.seq (sR [mJ 3 0] [3] Qajy) Qx6
def Qava:SC:=sR [zJ 2 0] [0] Qajz
def Qje:List RS:=[.tmp 2]
theorem Qatw:mFn prog Qmd 1 11 Qava Qje=true:=by kernel_rfl
def Q1y:List Item:=[sJ 3 7 13]
def Q1z:List Item:=[sJ 1 8 14]
def Qm7:List Item:=[pT 24 19 23]
def Q10:List Item:=oJ 18 17::mJ 19 18::gFf 20 19 2 5::gFl 21 19 20::gF 22 19 (.mkf Qjw [.t 8])::.e (some 23) (some (19,false)) (.call Qa2 [.t 21,.t 22])::Qm7
def s_im_insOk_4:SC:=cT 24 (sR [fB 6 false] [6] .ret) .skip
def Qg7:List Item:=[gF 39 35 (.not (.t 38)),gFm 40 35 39,gTf 41 40 1 5,gTl 42 40 41,gT 43 40 (.bin 0 .neq (.t 42) (kI (-1))),gF 44 35 (.pick (.t 40) (.t 43) (.k (.c (.bool false)))),pT 45 35 44]
def Qg8:List Item:=gT 33 28 (.not (.t 32))::pF 34 28 33::mJ 35 34::gFf 36 35 0 5::gFl 37 35 36::.e (some 38) (some (35,false)) (.call Qvr [.t 37])::Qg7
def Qm8:List Item:=mJ 28 27::gTl 29 28 8::gTf 30 28 1 5::gTl 31 28 30::.e (some 32) (some (28,true)) (.callv (.t 29) [.t 31])::Qg8
def s_im_insOk_8:SC:=cT 45 (sR [fB 6 false] [6] .ret) .skip
def Qm9:List Item:=[pF 58 54 57,mJ 6 58]
def Qfd:List Item:=[mJ 66 65,gTf 67 66 2 5,gTl 68 66 67,gT 69 66 (.len (.t 68)),gTf 70 66 0 3,gTl 71 66 70,gTf 72 66 3 5,gTl 73 66 72,gT 74 66 (.iad 3 (.t 71) (.t 73)),gTf 75 66 0 74,gTl 76 66 75,gT 77 66 (.bin 0 .eql (.t 69) (.t 76)),pF 78 66 77,mJ 6 78]
def Qaqc:SC:=cT 59 (.seq (.dreg 19 [0,1,2,3,4,5,6,7,8,9,10,11,12,13,14,15,16,17,18] ( fJ 61 3 5::lJ 62 61::mJ 63 1::cJ 64 .sub 63 1::aJ 65 Qaq [.t 62,kI 0,.t 64]::Qfd) [6]) .ret) .skip
def Qaqd:SC:=cT 48 (sR (fJ 50 2 5::lJ 51 50::nJ 52 51::cJ 53 .eql 52 0::mJ 54 53::gTf 55 54 3 5::gTl 56 54 55::.e (some 57) (some (54,true)) (.call Qi3 [.t 56])::Qm9) [6] .ret) (sR [cJ 60 .eql 47 14,mJ 59 60] [1,3,5,59] Qaqc)
def Qaqe:SC:=.block 0 (sR [cJ 49 .eql 47 1,mJ 48 49] [1,3,5,47,48] Qaqd)
def Qkf:List Item:=[.chk 84 (some (82,true)) (.ld 1 false (.t 83)),.chk 85 (some (82,true)) (.len (.t 84)),gT 89 82 (.bin 0 .eql (.t 85) (.t 88)),pF 90 82 89,mJ 6 90]
def Qaqf:SC:=.seq (.dreg 13 [0,1,2,3,4,5,6,7,8,9,5,6,10,11,12] ( fJ 79 3 5::lJ 80 79::cJ 81 .eql 80 0::mJ 82 81::gTf 83 82 2 5::gTl 84 82 83::gT 85 82 (.len (.t 84))::gTf 86 82 0 5::gTl 87 82 86::.e (some 88) (some (82,true)) (.call Qmd [.t 87])::Qkf) [6]) .ret
def Q1w:SC:=.seq (sR [fJ 46 0 5,lJ 47 46] [1,3,5,47] Qaqe) Qaqf
def Q1x:SC:=.seq (sR (fJ 25 0 5::lJ 26 25::aJ 27 Qvr [.t 26]::Qm8) [1,3,5,45] s_im_insOk_8) Q1w
def Qaqg:SC:=.seq (sR (fJ 15 0 5::lJ 16 15::aJ 17 Qme [.t 16]::Q10) [1,3,5,8,24] s_im_insOk_4) Q1x
def Qaqh:SC:=sR (fI 14 (.mkf Qda [.t 7])::eI 8 (.alloc [.fnil])::Q1z) [1,3,5,8] Qaqg
def Qaqi:SC:=sR (fJ 9 0 3::lJ 10 9::mJ 11 1::iJ 12 3 10 11::tJ 13 3 12::eI 7 (.alloc [.int .i64 0,.int .i64 0,.sl true 5 []])::Q1y) [1,3,5,7] Qaqh
def Qa96:SC:=sR [vJ 3 0,vJ 5 2,fB 6 false] [1,3,5] Qaqi
def Qk3:List RS:=[.tmp 6]
theorem Qa9h:mFn prog Qzg 3 91 Qa96 Qk3=true:=by kernel_rfl
def Qn9:List Item:=[mJ 3 8]
def Qacy:SC:=sR (mJ 4 0::fJ 5 1 1::lJ 6 5::cJ 7 .sub 6 1::aJ 8 Qaq [.t 4,kI 0,.t 7]::Qn9) [3] .ret
def Qaqj:SC:=sR [fB 3 false] [0,1] Qacy
def Q06:List RS:=[.tmp 3]
theorem Qapf:mFn prog Qda 2 9 Qaqj Q06=true:=by kernel_rfl
def Qoa:List Item:=[oJ 7 6,mJ 3 7]
def Qacz:SC:=sR (lJ 4 1::mJ 5 0::eI 6 (.callv (.t 4) [.t 5])::Qoa) [3] .ret
def Qaqk:SC:=sR [fB 3 false] [0,1] Qacz
def Q07:List RS:=[.tmp 3]
theorem Qapg:mFn prog Qjw 2 8 Qaqk Q07=true:=by kernel_rfl
def Qx7:List Item:=[mJ 2 4]
def Qaql:SC:=sR (mJ 3 0::aJ 4 Qaq [.t 3,kI 0,kI 255]::Qx7) [2] .ret
def Qa1g:SC:=sR [fB 2 false] [0] Qaql
def Qabt:List RS:=[.tmp 2]
theorem Qa0n:mFn prog Qi3 1 5 Qa1g Qabt=true:=by kernel_rfl
def Q11:List Item:=[mJ 2 4]
def Qavb:SC:=sR (mJ 3 0::aJ 4 Qaq [.t 3,kI 1,kI 14]::Q11) [2] .ret
def Qa97:SC:=sR [fB 2 false] [0] Qavb
def Qan2:List RS:=[.tmp 2]
theorem Qa9i:mFn prog Qme 1 5 Qa97 Qan2=true:=by kernel_rfl
def Qdv:List Item:=[sJ 3 7 13]
def Qdw:List Item:=[mJ 5 19]
def Qdx:List Item:=fI 18 (.bsl 3 [.t 17])::xJ 19 3 14 18::Qdw
def Qna:SC:=.reg (mJ 14 5::mJ 15 1::tJ 16 3 7::eI 17 (.callv (.t 15) [.t 16])::Qdx) [1,5,8,9,10]
def Qnb:SC:=.reg [cJ 20 .add 10 1,mJ 10 20] [1,5,8,9,10]
def Qnc:SC:=.seq (.block 1 (sR (iJ 12 3 8 10::tJ 13 3 12::eI 7 (.alloc [.int .i64 0,.int .i64 0,.sl true 5 []])::Qdv) [1,5,7,8,9,10] Qna)) Qnb
def Qls:SC:=sR [bJ 11 .lss 10 9] [1,5,8,9,10,11] (cX 11 0 Qnc)
def Qnd:SC:=sR [mJ 21 5,mJ 4 21] [4] .ret
def Qne:SC:=.seq (sR [mJ 8 0,nJ 9 8,zJ 10 0] [1,5,8,9,10] (bL 0 Qls)) Qnd
def Qnf:SC:=sR [fI 5 (.mv (.k (.c (.sl true 3 []))))] [0,1,5] Qne
def Qr5:SC:=sR [fI 4 (.mv (.k (.c (.sl true 3 []))))] [0,1] Qnf
def Qfi:List RS:=[.tmp 4]
theorem Qq9:mFn prog Qce 2 22 Qr5 Qfi=true:=by kernel_rfl
def Qeb:List Item:=[sJ 4 7 13]
def Qec:List Item:=[mJ 5 19]
def Qed:List Item:=fI 18 (.bsl 4 [.t 17])::xJ 19 4 14 18::Qec
def Qr6:SC:=.reg (mJ 14 5::mJ 15 1::tJ 16 4 7::eI 17 (.callv (.t 15) [.t 16])::Qed) [1,5,8,9,10]
def Qr7:SC:=.reg [cJ 20 .add 10 1,mJ 10 20] [1,5,8,9,10]
def Qr8:SC:=.seq (.block 1 (sR (iJ 12 4 8 10::tJ 13 4 12::eI 7 (.alloc [.int .i64 0,.int .i64 0,.sl true 1 [],.int .i64 0])::Qeb) [1,5,7,8,9,10] Qr6)) Qr7
def Qpr:SC:=sR [bJ 11 .lss 10 9] [1,5,8,9,10,11] (cX 11 0 Qr8)
def Qr9:SC:=sR [mJ 21 5,mJ 4 21] [4] .ret
def Qsa:SC:=.seq (sR [mJ 8 0,nJ 9 8,zJ 10 0] [1,5,8,9,10] (bL 0 Qpr)) Qr9
def Qsb:SC:=sR [fI 5 (.mv (.k (.c (.sl true 4 []))))] [0,1,5] Qsa
def Qzt:SC:=sR [fI 4 (.mv (.k (.c (.sl true 4 []))))] [0,1] Qsb
def Qh6:List RS:=[.tmp 4]
theorem Qzk:mFn prog Qc0 2 22 Qzt Qh6=true:=by kernel_rfl
def Qee:List Item:=[sJ 2 7 13]
def Qef:List Item:=[mJ 5 19]
def Qeg:List Item:=fI 18 (.bsl 2 [.t 17])::xJ 19 2 14 18::Qef
def Qsc:SC:=.reg (mJ 14 5::mJ 15 1::tJ 16 2 7::eI 17 (.callv (.t 15) [.t 16])::Qeg) [1,5,8,9,10]
def Qsd:SC:=.reg [cJ 20 .add 10 1,mJ 10 20] [1,5,8,9,10]
def Qse:SC:=.seq (.block 1 (sR (iJ 12 2 8 10::tJ 13 2 12::eI 7 (.alloc [.int .i64 0,.sl true 1 []])::Qee) [1,5,7,8,9,10] Qsc)) Qsd
def Qps:SC:=sR [bJ 11 .lss 10 9] [1,5,8,9,10,11] (cX 11 0 Qse)
def Qsf:SC:=sR [mJ 21 5,mJ 4 21] [4] .ret
def Qsg:SC:=.seq (sR [mJ 8 0,nJ 9 8,zJ 10 0] [1,5,8,9,10] (bL 0 Qps)) Qsf
def Qsh:SC:=sR [fI 5 (.mv (.k (.c (.sl true 2 []))))] [0,1,5] Qsg
def Qzu:SC:=sR [fI 4 (.mv (.k (.c (.sl true 2 []))))] [0,1] Qsh
def Qh7:List RS:=[.tmp 4]
theorem Qzl:mFn prog Qc1 2 22 Qzu Qh7=true:=by kernel_rfl
def Q8j:SC:=cT 8 (sR [zJ 2 0] [2] .ret) .skip
def Q8k:SC:=cT 6 (sR [zJ 2 2] [2] .ret) (sR [cJ 9 .eql 3 3,mJ 8 9] [8] Q8j)
def Q8l:SC:=cT 4 (sR [zJ 2 1] [2] .ret) (sR [cJ 7 .eql 3 2,mJ 6 7] [3,6] Q8k)
def Q8m:SC:=.block 0 (sR [cJ 5 .eql 3 1,mJ 4 5] [3,4] Q8l)
def Q8n:SC:=sR [zJ 2 (-1)] [2] .ret
def Q8o:SC:=.seq (sR [mJ 3 0] [3] Q8m) Q8n
def Qaj0:SC:=sR [zJ 2 0] [0] Q8o
def Qka:List RS:=[.tmp 2]
theorem Qail:mFn prog Qhv 1 10 Qaj0 Qka=true:=by kernel_rfl
def Qsu:List Item:=[fB 5 false]
def Qsv:List Item:=[oJ 8 7]
def Qsw:List Item:=[fB 5 false]
def Qaj1:SC:=cT 8 (sR (fI 9 (.bld [.sl true 3 []] [])::sJ 1 4 9::Qsw) [4,5] .ret) .skip
def Qsx:List Item:=[fB 5 true]
def Qsy:List Item:=fI 14 (.bld [.sl true 3 []] [(0,1,.t 13)])::sJ 1 4 14::Qsx
def Qaj2:SC:=sR (fJ 10 0 2::lJ 11 10::mJ 12 1::aJ 13 Qce [.t 11,.t 12]::Qsy) [4,5] .ret
def Qaj3:SC:=.seq (sR (tJ 6 1 2::aJ 7 Qbv [.t 6]::Qsv) [1,2,4,8] Qaj1) Qaj2
def Qavc:SC:=sR (vJ 2 0::eI 4 (.alloc [.sl true 3 []])::Qsu) [1,2,4] Qaj3
def Qrm:List RS:=[.cell 4 1 true,.tmp 5]
theorem Qatx:mFn prog Qg1 2 15 Qavc Qrm=true:=by kernel_rfl
def Q5n:List Item:=[mJ 5 4,gTm 6 5 0,gT 7 5 (.bin 0 .neq (.t 6) (kI 12)),pF 8 5 7,mJ 9 8,gTm 10 9 0,gT 11 9 (.bin 0 .neq (.t 10) (kI 13)),pF 12 9 11,mJ 2 12]
def Qa1m:SC:=sR (mJ 3 0::aJ 4 Qme [.t 3]::Q5n) [2] .ret
def Qbfm:SC:=sR [fB 2 false] [0] Qa1m
def Qauo:List RS:=[.tmp 2]
theorem Qbd6:mFn prog Qvr 1 13 Qbfm Qauo=true:=by kernel_rfl
def Qaqz:SC:=sR [mJ 3 0,cJ 4 .eql 3 2,mJ 5 4,gFm 6 5 0,gF 7 5 (.bin 0 .eql (.t 6) (kI 3)),pT 8 5 7,mJ 2 8] [2] .ret
def Qa1o:SC:=sR [fB 2 false] [0] Qaqz
def Qabx:List RS:=[.tmp 2]
theorem Qa0r:mFn prog Qi5 1 9 Qa1o Qabx=true:=by kernel_rfl
def Qdy:List Item:=[cJ 8 .geq 7 0,mJ 4 8]
def Qnm:SC:=sR (mJ 5 0::mJ 6 1::aJ 7 Qdm [.t 5,.t 6]::Qdy) [4] .ret
def Qvd:SC:=sR [fB 4 false] [0,1] Qnm
def Qfk:List RS:=[.tmp 4]
theorem Qrb:mFn prog Qcf 2 9 Qvd Qfk=true:=by kernel_rfl
def Qw5:SC:=cT 16 (sR [mJ 17 5,mJ 4 17] [4] .ret) .skip
def Qw6:SC:=sR [mJ 11 1,mJ 12 0,mJ 13 5,iJ 14 4 12 13,tJ 15 4 14,eI 16 (.callv (.t 11) [.t 15])] [0,1,5,7,8,16] Qw5
def Qw7:SC:=.reg [cJ 18 .add 8 1,mJ 8 18] [0,1,7,8]
def Qw8:SC:=.seq (.block 1 (sR [mJ 10 8,mJ 5 10] [0,1,5,7,8] Qw6)) Qw7
def Qve:SC:=sR [bJ 9 .lss 8 7] [0,1,7,8,9] (cX 9 0 Qw8)
def Qw9:SC:=sR [zJ 4 (-1)] [4] .ret
def Qxa:SC:=.seq (sR [mJ 6 0,nJ 7 6,zJ 8 0] [0,1,7,8] (bL 0 Qve)) Qw9
def Q2t:SC:=sR [zJ 4 0] [0,1] Qxa
def Qd8:List RS:=[.tmp 4]
theorem Q0y:mFn prog Qdm 2 19 Q2t Qd8=true:=by kernel_rfl
def Qvf:List Item:=[iJ 27 1 16 17,sJ 1 27 25]
def Qana:SC:=.reg [mJ 10 2,cJ 11 .add 10 1,mJ 12 3,cJ 13 .sub 12 1,mJ 2 11,mJ 3 13] [0,2,3]
def Qanb:SC:=.seq (.block 1 (.dreg 16 [0,1,2,3,4,5,6,7,8,9,10,11,12,13,14,15] ( mJ 14 0::mJ 15 2::mJ 16 0::mJ 17 3::mJ 18 0::mJ 19 3::iJ 20 1 18 19::lJ 21 20::mJ 22 0::mJ 23 2::iJ 24 1 22 23::lJ 25 24::iJ 26 1 14 15::sJ 1 26 21::Qvf) [0,2,3])) Qana
def Qaht:SC:=.seq (sR [mJ 7 2,mJ 8 3,bJ 9 .lss 7 8] [0,2,3,9] (cT 9 .skip (.exit 0))) Qanb
def Qazg:SC:=sR [mJ 4 0,nJ 5 4,cJ 6 .sub 5 1,zJ 2 0,mJ 3 6] [0,2,3] (bL 0 Qaht)
def Q5j:List RS:=[]
theorem Qaud:mFn prog Qms 1 28 Qazg Q5j=true:=by kernel_rfl
end Go.AE.Y
attribute [go_sem_proc] reduceIte reduceEqDiff reduceAdd reduceLeDiff reduceLT reduceCtorEq
namespace Go.AE.Y
open Go.Proofs.Tryz
theorem Qai:prog.follows .mixedOrders=true:=by kernel_rfl
theorem Qbog (l : Nat) (fl : Bool) (bs : List UInt8) (k : Nat) (n : Int) (H : Heap) (K : V → Heap → Prop)
   (hH : H l = .st [.sl fl 1 (Qbf bs), .int .i64 k]) (hp' : k ≤ 2^40)
   (hK : ∀ v : Int, (if n < 1 then v = 0 else 0 ≤ v ∧ v < n) → K (.c (.int .i64 v)) (H.set l (.st [.sl fl 1 (Qbf bs), .int .i64 ((k + 1 : Nat) : Int)]))) :
   Qo prog Qq [.c (.ptr l 0), .c (.int .i64 n)] H K := by
  refine Qd Qai Qat1 ?_;refine Qa ?_;simp only [go_sem, Qat, Qgx, reduceIte, Nat.reduceEqDiff, Nat.reduceAdd];refine Qa ?_;simp only [go_sem, Qat, Qgx, reduceIte, Nat.reduceEqDiff, Nat.reduceAdd, Nat.reduceLeDiff, Nat.reduceLT, hH];refine ⟨Qr (by omega) (by omega), fun H2 hH2' => ?_⟩;have hH2 : H2 l = .st [C.sl fl 1 (Qbf bs), C.int IntKind.i64 (k + 1)] := by rw [hH2']; exact Heap.set_same _ _ _
  have hK2 : ∀ v : Int, (if n < 1 then v = 0 else 0 ≤ v ∧ v < n) → K (.c (.int .i64 v)) H2 := by
    intro v hv; rw [hH2']; exact hK v hv
  clear hK;refine Q5 ?_;refine Qa ?_;simp only [go_sem, Qat, Qgx, reduceIte, Nat.reduceEqDiff, Nat.reduceAdd, Nat.reduceLeDiff, hH2];intro _;refine Qh (Qe rfl ?_ ?_)
  · intro hc;refine Qa ?_;simp only [go_sem, reduceIte, Nat.reduceEqDiff];refine Qk ?_;simp only [go_sem, Qz, Q8, Qjf, reduceIte, Ja, forall_eq, RS.op];refine hK2 0 ?_;split <;> omega
  · intro hc;refine Qi ?_;simp only [go_sem];have hn : 1 ≤ n ∧ bs.length ≠ 0 := by
      simp only [cond_eq_ite] at hc;split at hc
      · simp at hc
      · simp at hc; simp_all
    refine Qa ?_;simp only [go_sem, Qat, Qgx, reduceIte, Nat.reduceEqDiff, Nat.reduceAdd, Nat.reduceLeDiff, hH2];refine ⟨Qr (by omega) (by omega), ?_⟩;refine Q5 ?_;refine Qa ?_;simp only [go_sem, Qat, Qgx, reduceIte, Nat.reduceEqDiff, Nat.reduceAdd, Nat.reduceLeDiff, hH2];intro hl;refine Qh (Qe rfl ?_ ?_)
    · intro hc2;have hk : k < bs.length := (by simpa using hc2);refine Qa ?_;simp only [go_sem, Qat, Qgx, reduceIte, Nat.reduceEqDiff, Nat.reduceAdd, Nat.reduceLeDiff, hH2, hk, Q40];refine ⟨by omega, ?_⟩;refine Qk ?_;simp only [go_sem, Qz, Q8, Qjf, reduceIte, Ja, forall_eq, RS.op];refine hK2 _ ?_;rw [if_neg (by omega)];exact ⟨J4 _ (by omega), J0 _ (by omega)⟩
    · intro hc2;refine Qi ?_;simp only [go_sem];refine Qad ?_;have e1 : ((k : Int).tmod (bs.length : Int)) = ((k % bs.length : Nat) : Int) := rfl;have e2 : (((k : Int) * 7 + 3).tmod (bs.length : Int)) = (((k * 7 + 3) % bs.length : Nat) : Int) := rfl;have h1 : k % bs.length < bs.length := Nat.mod_lt _ (by omega);have h2 : (k * 7 + 3) % bs.length < bs.length := Nat.mod_lt _ (by omega);simp only [go_sem, Qat, Qgx, reduceIte, Nat.reduceEqDiff, Nat.reduceAdd, Nat.reduceLeDiff, hH2, e1, e2, h1, h2, Q40];have e3 : (k : Int).tdiv (bs.length : Int) = ((k / bs.length : Nat) : Int) := rfl;have h3 : k / bs.length ≤ k := Nat.div_le_self _ _;rw [e3];have h4 := (bs.getD (k % bs.length) 0).toNat_lt;have h5 := (bs.getD ((k * 7 + 3) % bs.length) 0).toNat_lt;generalize (bs.getD (k % bs.length) 0).toNat = b1 at *;generalize (bs.getD ((k * 7 + 3) % bs.length) 0).toNat = b2 at *;generalize k / bs.length = d at *;clear e1 e2 h1 h2 e3;refine ⟨by omega, Qr (by omega) (by omega), Qr (by omega) (by omega), Qr (by omega) (by omega), by omega, Qr (by omega) (by omega), Qr (by omega) (by omega),
        Qr (by omega) (by omega), Qr (by omega) (by omega), ⟨by omega, Qr (by omega) (by omega)⟩, Qr (by omega) (by omega), Qr (by omega) (by omega), ?_⟩
      have hx : 0 ≤ (b1 : Int) * 131 + b2 * 1117 + k * 29 + d * 53 := (by omega);have hx' : (b1 : Int) * 131 + b2 * 1117 + k * 29 + d * 53 < 2 ^ 62 := (by omega);generalize (b1 : Int) * 131 + b2 * 1117 + k * 29 + d * 53 = x at *;refine Qa ?_;simp only [go_sem, Qat, Qgx, reduceIte, Nat.reduceEqDiff, Nat.reduceAdd, Nat.reduceLeDiff];have hq : 0 ≤ x.tdiv 64 := Int.tdiv_nonneg hx (by omega);have hq' : x.tdiv 64 ≤ x := (by have := Int.tdiv_le_self (a := x) 64 hx; exact this);refine ⟨⟨by omega, Qr (by omega) (by omega)⟩, ?_⟩;have hy := Qbpg hx hq hx' (by omega);generalize Qa8m .xor .i64 x (x.tdiv 64) = y at *;refine Qa ?_;simp only [go_sem, Qat, Qgx, reduceIte, Nat.reduceEqDiff, Nat.reduceAdd, Nat.reduceLeDiff];refine ⟨by omega, ?_⟩;refine Qk ?_;simp only [go_sem, Qz, Q8, Qjf, reduceIte, Ja, forall_eq, RS.op];refine hK2 _ ?_;rw [if_neg (by omega)];exact ⟨J4 _ (by omega), J0 _ (by omega)⟩
theorem Qba {R:Rdr}{k:Nat}{n:Int}{H:Heap}{K:V→Heap→Prop}(hH:H R.l=R.o k)(hk:k≤2^40)
  (hK:∀(v:Int) (H':Heap),(if n<1 then v=0 else 0≤v∧v<n)→Upd H H' [(R.l,R.o (k+1))]→K (.c (.int .i64 v)) H') :
  Qo prog Qq [.c (.ptr R.l 0),.c (.int .i64 n)] H K:=
 Qbog R.l R.fl R.bs k n H K hH hk fun v hv=>hK v _ hv ⟨by simp[Heap.set_same,Rdr.o],fun m _ hm=>Heap.set_other _ _ (by simpa using hm)⟩
theorem Qkz {R:Rdr}{k:Nat}{fl:Bool}{ns:List Int}{H:Heap}{K:V→Heap→Prop}(hH:H R.l=R.o k)(hk:k≤2^40)(hns:0<ns.length)
  (hK:∀(v:Int) (H':Heap),v∈ns→Upd H H' [(R.l,R.o (k+1))]→K (.c (.int .i64 v)) H') :
  Qo prog Q9 [.c (.ptr R.l 0),.c (.sl fl 1 (Qb ns))] H K:=by
 refine Qd Qai Qa0v ?_;refine Qa ?_;simp only[go_sem];refine Qa ?_;simp only[go_sem,Qc];intro hl;refine Qba hH hk fun v H' hv hu=>?_;rw[if_neg (by omega)]at hv;obtain⟨i,rfl⟩:=Jo hv.1;have hi:i<ns.length:=by omega
 simp only[go_sem,Qyu,Qc,Qm,hi];refine Qk ?_;simp only[go_sem,Qz,Q8,Qab6,reduceIte,Ja,forall_eq,RS.op];refine hK _ H' ?_ hu;rw[Jb,J2 hi];exact Jc hi
theorem of_c {R:Rdr}{k:Nat}{fl:Bool}{ss:List (List UInt8)}{H:Heap}{K:V→Heap→Prop}(hH:H R.l=R.o k)(hk:k≤2^40)(hns:0<ss.length)
  (hK:∀(v:List UInt8) (H':Heap),v∈ss→Upd H H' [(R.l,R.o (k+1))]→K (.c (.str v)) H') :
  Qo prog Qhx [.c (.ptr R.l 0),.c (.sl fl 1 (Qbj ss))] H K:=by
 refine Qd Qai Qa9m ?_;refine Qa ?_;simp only[go_sem];refine Qa ?_;simp only[go_sem,Qao];intro hl;refine Qba hH hk fun v H' hv hu=>?_;rw[if_neg (by omega)]at hv;obtain⟨i,rfl⟩:=Jo hv.1;have hi:i<ss.length:=by omega
 simp only[go_sem,Q2h,Qao,Qiu,hi];refine Qk ?_;simp only[go_sem,Qz,Q8,Qan6,reduceIte,Ja,forall_eq,RS.op];refine hK _ H' ?_ hu;rw[Jb,J2 hi];exact Jc hi
theorem Qbiz {R:Rdr}{k:Nat}{fl:Bool}{ss:List (List UInt8)}{H:Heap}{K:V→Heap→Prop}(hH:H R.l=R.o k)(hk:k+2≤2^40)
  (hK:∀(x:Ex) (H':Heap) (k':Nat),k<k'→k'≤k+2→Upd H H' [(R.l,R.o k')]→x.ok→x.size=1→K (.ag x.cells) H') :
  Qo prog Qaax [.c (.ptr R.l 0),.c (.sl fl 1 (Qbj ss))] H K:=by
 refine Qu ?_;refine Qd Qai Qbjh ?_;refine Qa ?_;simp only[go_sem];intro x hx H1 h1;have kn:=(Kn.start1 hH (R.o_ne k)).al hx h1;refine Q5 ?_;refine Qa ?_;simp only[go_sem,Qao];intro hl;have rest:∀(b:Bool) (H2:Heap) (k2:Nat),k≤k2→k2≤k+1→Kn H H2 [(R.l,R.o k2)] [(x,.st [.int .i64 0,.int .i64 0,.str [],.sl true 4 []])]→(b=false→0<ss.length)→
   Qae prog (s_l2Leaf_2.seq Qaod) (Qz Qaad (unK H K)) [(0,V.c (C.ptr R.l 0)),(1,V.c (C.sl fl 1 (Qbj ss))),(4,V.c (C.ptr x 0)),(12,V.c (.bool b))] H2:=by
  intro b H2 k2 hk1 hk2 kn hb;refine Qh (Qe rfl ?_ ?_)
  ·intro hb';refine Qa ?_;simp only[go_sem];refine Qkz (ns:=[0,1,2,3,5,7,15,16,100,255]) (kn.e 0 rfl) (by omega) (by simp) fun v H3 hv hu=>?_;have kn:=kn.callE 0 rfl hu (R.o_ne _);have hx3:=kn.l 0 rfl;simp only[go_sem,Qadp,hx3];intro H4 h4;have kn:=kn.stL 0 rfl h4;have hx4:=kn.l 0 rfl;refine Qk ?_;simp only[go_sem,Qz,Q8,Qaad,reduceIte,Ja,forall_eq,RS.op,hx4];refine⟨_,(Ex.mk 1 v [] []).frz,hK _ _ (k2+1) (by omega) (by omega) kn.fin ?_ ?_⟩
   ·simp[Ex.ok,Qd0]
   ·simp[Ex.size,Qah]
  ·intro hb';refine Qi ?_;simp only[go_sem];refine Qa ?_;simp only[go_sem];refine of_c (kn.e 0 rfl) (by omega) (hb hb') fun v H3 hv hu=>?_;have kn:=kn.callE 0 rfl hu (R.o_ne _);have hx3:=kn.l 0 rfl;simp only[go_sem,Qadq,hx3];intro H4 h4;have kn:=kn.stL 0 rfl h4;have hx4:=kn.l 0 rfl;refine Qk ?_;simp only[go_sem,Qz,Q8,Qaad,reduceIte,Ja,forall_eq,RS.op,hx4];refine⟨_,(Ex.mk 2 0 v []).frz,hK _ _ (k2+1) (by omega) (by omega) kn.fin ?_ ?_⟩
   ·simp[Ex.ok,Qd0]
   ·simp[Ex.size,Qah]
 refine⟨fun hb=>?_,fun hb=>?_⟩
 ·refine Qba (kn.e 0 rfl) (by omega) fun v H2 hv hu=>?_;have kn:=kn.callE 0 rfl hu (R.o_ne _);simp only[go_sem,Qz6];refine rest _ H2 (k+1) (by omega) (by omega) kn ?_;intro h;have:¬ss.length=0:=by simpa using hb
  omega
 ·have hb2:decide ((ss.length:Int)=0)=true:=by simpa using hb
  simp only[go_sem,Qz6,hb2];exact rest true H1 k (by omega) (by omega) kn (fun h=>by simp at h)
variable {H:Heap}{K:V→Heap→Prop}
theorem Qds {n lo hi:Int}(hK:K (.c (.bool (decide (lo≤n∧n≤hi)))) H):Qo prog Qbo [.c (.int .i64 n),.c (.int .i64 lo),.c (.int .i64 hi)] H K:=by
 refine Qd Qai Qbqg ?_;refine Qa ?_;simp only[go_sem];refine Qa ?_;simp only[go_sem];refine Qk ?_;simp only[go_sem,Qz,Q8,Qbme,reduceIte,Ja,forall_eq,RS.op];have:(bif decide (lo≤n)then decide (n≤hi)else false)=decide (lo≤n∧n≤hi):=by
  by_cases h:lo≤n <;> simp[h]
 rw[this];exact hK
theorem Qbd1 {b:Bool}(hK:K (.c (.int .i64 (if b then 1 else 0))) H):Qo prog Q3f [.c (.bool b)] H K:=by
 refine Qd Qai Qbej ?_;refine Qa ?_;simp only[go_sem];refine Q5 ?_;refine Qa ?_;simp only[go_sem];refine Qh (Qe rfl ?_ ?_)
 ·intro hc;subst hc;refine Qa ?_;simp only[go_sem];refine Qk ?_;simp only[go_sem,Qz,Q8,Qab9,reduceIte,Ja,forall_eq,RS.op];exact hK
 ·intro hc;subst hc;refine Qi ?_;simp only[go_sem];refine Qa ?_;simp only[go_sem];refine Qk ?_;simp only[go_sem,Qz,Q8,Qab9,reduceIte,Ja,forall_eq,RS.op];exact hK
theorem Qbdz {s:List UInt8}{b:UInt8}(hK:∀n:Int,K (.c (.int .i64 n)) H):Qo prog Q3e [.c (.str s),.c (.int .u8 b.toNat)] H K:=by
 refine Qd Qai Qbef ?_;refine Qa ?_;simp only[go_sem];refine Q5 ?_;refine Qa ?_;simp only[go_sem];refine Qh (Qf (Qw (fun n e1 H1=>∃i:Nat,n=s.length-i∧i≤s.length∧H1=H∧e1=[(0,.c (.str s)),(1,.c (.int .u8 b.toNat)),(5,.c (.int .i64 i))]) s.length ?_ ?_))
 ·exact⟨0,by omega,by omega,rfl,rfl⟩
 ·rintro n e1 H1 ⟨i,hn,hi,rfl,rfl⟩;refine Q5 ?_;refine Qa ?_;simp only[go_sem];intro hl;simp only[LIM]at hl;refine Qh (Qe rfl ?_ ?_)
  ·intro hc;have hlt:i<s.length:=by simpa using hc
   refine Qi ?_;simp only[go_sem];refine Qh (Qf ?_);refine Qa ?_;simp only[go_sem,hlt];refine Qe rfl ?_ ?_
   ·intro hc2;refine Qa ?_;simp only[go_sem];refine Qk ?_;simp only[go_sem,X.next,Qz,Q8,Qab4,reduceIte,Ja,forall_eq,RS.op];exact hK _
   ·intro hc2;refine Qi ?_;simp only[go_sem];refine Qt ?_;simp only[go_sem,X.next];exact⟨Qr (by omega) (by omega),s.length-(i+1),by omega,i+1,rfl,by omega,rfl⟩
  ·intro hc;refine Qv ?_;simp only[go_sem,X.next];refine Qa ?_;simp only[go_sem];refine Qk ?_;simp only[go_sem,Qz,Q8,Qab4,reduceIte,Ja,forall_eq,RS.op];exact hK _
theorem Qbdx {b:UInt8}(hK:∀n:Int,K (.c (.int .i64 n)) H):Qo prog Q3d [.c (.int .u8 b.toNat)] H K:=by
 refine Qd Qai Qbed ?_;refine Qa ?_;simp only[go_sem];refine Qh (Qf ?_);refine Qa ?_;simp only[go_sem];refine Qe rfl ?_ ?_
 ·intro hc;refine Qa ?_;simp only[go_sem];refine Qk ?_;simp only[go_sem,Qz,Q8,Qk7,reduceIte,Ja,forall_eq,RS.op];exact hK _
 intro hc;refine Qa ?_;simp only[go_sem];refine Qe rfl ?_ ?_
 ·intro hc;refine Qa ?_;simp only[go_sem];refine Qk ?_;simp only[go_sem,Qz,Q8,Qk7,reduceIte,Ja,forall_eq,RS.op];exact hK _
 intro hc;refine Qa ?_;simp only[go_sem];refine Qbdz fun n=>?_;simp only[go_sem,Q6e];refine Qe rfl ?_ ?_
 ·intro hc;refine Qa ?_;simp only[go_sem];refine Qk ?_;simp only[go_sem,Qz,Q8,Qk7,reduceIte,Ja,forall_eq,RS.op];exact hK _
 intro hc;refine Qa ?_;simp only[go_sem];refine Qe rfl ?_ ?_
 ·intro hc;refine Qa ?_;simp only[go_sem];refine Qk ?_;simp only[go_sem,Qz,Q8,Qk7,reduceIte,Ja,forall_eq,RS.op];exact hK _
 intro hc;refine Qi ?_;simp only[go_sem];refine Qa ?_;simp only[go_sem];refine Qk ?_;simp only[go_sem,Qz,Q8,Qk7,reduceIte,Ja,forall_eq,RS.op];exact hK _
theorem Qbnt {s:List UInt8}{k:Int}(hK:∀b:Bool,K (.c (.bool b)) H):Qo prog Qaox [.c (.str s),.c (.int .i64 k)] H K:=by
 refine Qd Qai Qbn2 ?_;refine Qa ?_;simp only[go_sem];refine Q5 ?_;refine Qa ?_;simp only[go_sem];refine Qh (Qf (Qw (fun n e1 H1=>∃i:Nat,n=s.length-i∧i≤s.length∧H1=H∧e1=[(0,.c (.str s)),(1,.c (.int .i64 k)),(5,.c (.int .i64 i))]) s.length ?_ ?_))
 ·exact⟨0,by omega,by omega,rfl,rfl⟩
 ·rintro n e1 H1 ⟨i,hn,hi,rfl,rfl⟩;refine Q5 ?_;refine Qa ?_;simp only[go_sem];intro hl;simp only[LIM]at hl;refine Qh (Qe rfl ?_ ?_)
  ·intro hc;have hlt:i<s.length:=by simpa using hc
   refine Qi ?_;simp only[go_sem];refine Qh (Qf ?_);refine Qa ?_;simp only[go_sem,hlt];refine Qbdx fun cl=>?_;simp only[go_sem,Qan9];refine Qe rfl ?_ ?_
   ·intro hc2;refine Qa ?_;simp only[go_sem];refine Qk ?_;simp only[go_sem,X.next,Qz,Q8,Qa1a,reduceIte,Ja,forall_eq,RS.op];exact hK _
   ·intro hc2;refine Qi ?_;simp only[go_sem];refine Qt ?_;simp only[go_sem,X.next];exact⟨Qr (by omega) (by omega),s.length-(i+1),by omega,i+1,rfl,by omega,rfl⟩
  ·intro hc;refine Qv ?_;simp only[go_sem,X.next];refine Qa ?_;simp only[go_sem];intro _;refine Qk ?_;simp only[go_sem,Qz,Q8,Qa1a,reduceIte,Ja,forall_eq,RS.op];exact hK _
theorem Qa8d (hK:∀ss:List (List UInt8),K (.c (.sl true 1 (Qbj ss))) H):Qo prog Qj2 [] H K:=by
 refine Qd Qai Qapq ?_;refine Qa ?_;simp only[go_sem];refine Qa ?_;simp only[go_sem];refine Qk ?_;simp only[go_sem,Qz,Q8,Q1j,reduceIte,Ja,forall_eq,RS.op];exact hK [[102,110],[108,101,116],[115,97,121],[112,117,116],[105,102],[101,108,115,101],[108,111,111,112],[98,97,99,107],[100,111]]
theorem Qbnu {s:List UInt8}(hK:∀b:Bool,K (.c (.bool b)) H):Qo prog Qaoy [.c (.str s)] H K:=by
 refine Qd Qai Qbn3 ?_;refine Qa ?_;simp only[go_sem];refine Qa ?_;simp only[go_sem];refine Qa8d fun ss=>?_;simp only[go_sem,Qaoa];refine Q5 ?_;refine Qa ?_;simp only[go_sem];refine Qh (Qf (Qw (fun n e1 H1=>∃i:Nat,n=ss.length-i∧i≤ss.length∧H1=H∧e1=[(0,.c (.str s)),(3,.c (.sl true 1 (Qbj ss))),(4,.c (.int .i64 i))]) ss.length ?_ ?_))
 ·exact⟨0,by omega,by omega,rfl,rfl⟩
 ·rintro n e1 H1 ⟨i,hn,hi,rfl,rfl⟩;refine Q5 ?_;refine Qa ?_;simp only[go_sem,Qao];intro hl;simp only[LIM]at hl;refine Qh (Qe rfl ?_ ?_)
  ·intro hc;have hlt:i<ss.length:=by simpa using hc
   refine Qi ?_;simp only[go_sem];refine Qh (Qf ?_);refine Qa ?_;simp only[go_sem,hlt,Qao,Qiu _ _ hlt];refine Qe rfl ?_ ?_
   ·intro hc2;refine Qa ?_;simp only[go_sem];refine Qk ?_;simp only[go_sem,X.next,Qz,Q8,Qa1b,reduceIte,Ja,forall_eq,RS.op];exact hK _
   ·intro hc2;refine Qi ?_;simp only[go_sem];refine Qt ?_;simp only[go_sem,X.next];exact⟨Qr (by omega) (by omega),ss.length-(i+1),by omega,i+1,rfl,by omega,rfl⟩
  ·intro hc;refine Qv ?_;simp only[go_sem,X.next];refine Qa ?_;simp only[go_sem];refine Qk ?_;simp only[go_sem,Qz,Q8,Qa1b,reduceIte,Ja,forall_eq,RS.op];exact hK _
theorem Q96 {s:List UInt8}(hK:∀b:Bool,K (.c (.bool b)) H):Qo prog Qdq [.c (.str s)] H K:=by
 refine Qd Qai Qa00 ?_;refine Qa ?_;simp only[go_sem];refine Qa ?_;simp only[go_sem];refine Qbnt fun b=>?_;simp only[go_sem,Qy7];intro hl;refine⟨fun hb=>?_,fun hb=>?_⟩
 ·refine Qbnu fun b2=>?_;simp only[go_sem,Qki];refine Qk ?_;simp only[go_sem,Qz,Q8,Qzq,reduceIte,Ja,forall_eq,RS.op];exact hK _
 ·simp only[go_sem,Qki,hb];refine Qk ?_;simp only[go_sem,Qz,Q8,Qzq,reduceIte,Ja,forall_eq,RS.op];exact hK _
theorem Qbiy {op:Int}(hK:∀a b:Int,K (.tup [.c (.int .i64 a),.c (.int .i64 b)]) H):Qo prog Qaaw [.c (.int .i64 op)] H K:=by
 refine Qd Qai Qbjg ?_;refine Qa ?_;simp only[go_sem];refine Q5 ?_;refine Qa ?_;simp only[go_sem];have ret:∀(a b:Int) (e:Env),lk 2 e=.c (.int .i64 a)→lk 3 e=.c (.int .i64 b)→Qz Q1c K .ret e H:=by
  intro a b e h1 h2;simp only[go_sem,Qz,Q8,Q1c,List.forall_mem_cons,RS.op,h1,h2];exact hK _ _
 refine Qh (Qf ?_);refine Q5 ?_;refine Qa ?_;simp only[go_sem];have r5:∀(b:Bool),Qae prog Qaoc (X.inBlock 0 (X.sq prog Q4g (Qz Q1c K))) [(4,.c (.int .i64 op)),(5,.c (.bool b))] H:=by
  intro b;refine Qe rfl ?_ ?_
  ·intro hc;refine Qa ?_;simp only[go_sem];refine Qk ?_;simp only[go_sem];exact ret 0 0 _ (by simp[lk]) (by simp[lk])
  intro hc;refine Q5 ?_;refine Qa ?_;simp only[go_sem];have r8:∀(b:Bool),Qae prog Qaob (X.inBlock 0 (X.sq prog Q4g (Qz Q1c K))) [(4,.c (.int .i64 op)),(8,.c (.bool b))] H:=by
   intro b;refine Qe rfl ?_ ?_
   ·intro hc;refine Qa ?_;simp only[go_sem];refine Qk ?_;simp only[go_sem];exact ret 1 1 _ (by simp[lk]) (by simp[lk])
   intro hc;refine Qa ?_;simp only[go_sem];refine Qe rfl ?_ ?_
   ·intro hc;refine Qa ?_;simp only[go_sem];refine Qk ?_;simp only[go_sem];exact ret 0 3 _ (by simp[lk]) (by simp[lk])
   ·intro hc;refine Qi ?_;simp only[go_sem];refine Qa ?_;simp only[go_sem];refine Qk ?_;exact ret 2 2 _ (by simp[lk]) (by simp[lk])
  refine Qh (Qe rfl ?_ ?_)
  ·intro hc;refine Qi ?_;simp only[go_sem];exact r8 _
  ·intro hc;refine Qt ?_;simp only[go_sem];exact r8 _
 refine Qh (Qe rfl ?_ ?_)
 ·intro hc;refine Qi ?_;simp only[go_sem];exact r5 _
 ·intro hc;refine Qt ?_;simp only[go_sem];exact r5 _
theorem Qbi0 {op:Int}(hK:K (.c (.int .i64 (if op=4 then 2 else 1))) H):Qo prog Qaay [.c (.int .i64 op)] H K:=by
 refine Qd Qai Qbji ?_;refine Qa ?_;simp only[go_sem];refine Q5 ?_;refine Qa ?_;simp only[go_sem];refine Qh (Qe rfl ?_ ?_)
 ·intro hc;refine Qa ?_;simp only[go_sem];refine Qk ?_;simp only[go_sem,Qz,Q8,Qapv,reduceIte,Ja,forall_eq,RS.op];rw[if_pos (by simpa using hc)]at hK;exact hK
 ·intro hc;refine Qi ?_;simp only[go_sem];refine Qa ?_;simp only[go_sem];refine Qk ?_;simp only[go_sem,Qz,Q8,Qapv,reduceIte,Ja,forall_eq,RS.op];rw[if_neg (by simpa using hc)]at hK;exact hK
end Go.AE.Y
namespace Go.AE
open Go.AE.Y
open Go.Proofs.Tryz
variable {H:Heap}{K:V→Heap→Prop}
theorem Slc.keep {H':Heap}{sz:Nat}{rows:List (List C)}{b:C}{E L:List (Nat×Obj)}(h:Slc H sz rows b)(kn:Kn H H' E L)(hE:∀l a c d,b=.vsl l a c d→l∉E.map Prod.fst):Slc H' sz rows b:=by
 obtain⟨h1,h2,h3,h4⟩:=h
 cases b with
 |sl fl z rs=>exact⟨trivial,h2,h3,h4⟩
 |vsl l z st n=>
  simp only[Go.AE.okSl]at h1
  cases ho:H l with
  |vec y rs=>
   have:=kn.chg l (by rw[ho];simp) (hE l z st n rfl);refine⟨?_,h2,?_,h4⟩
   ·simp only[Go.AE.okSl,this];exact h1
   ·simp only[Go.AE.rowsOf,this];exact h3
  |_=>rw[ho]at h1;exact h1.elim
 |_=>exact h1.elim
theorem Slc.keep0 {H':Heap}{sz:Nat}{rows:List (List C)}{b:C}{L:List (Nat×Obj)}(h:Slc H sz rows b)(kn:Kn H H' [] L):Slc H' sz rows b:=h.keep kn (by simp)
end Go.AE
namespace Go.AE.Y
open Go.Proofs.Tryz
variable {H:Heap}{K:V→Heap→Prop}
def Q0 (nx:Nat→List Int)(b:Int)(n:Nat):List Int:=((List.range n).filter fun i=>(nx i).contains b).map Int.ofNat
theorem Qja (nx:Nat→List Int)(b:Int)(n:Nat):Q0 nx b (n+1)=Q0 nx b n++if (nx n).contains b then [(n:Int)]else []:=by
 simp only[Q0,List.range_succ,List.filter_append,Jv];congr 1;cases h:(nx n).contains b
 ·simp only[Jac,h,Jag];rfl
 ·simp only[Jac,h,Jag,if_true];rfl
theorem Qb5 (nx:Nat→List Int)(b:Int)(n:Nat):(Q0 nx b n).length≤n:=by
 simp only[Q0,Je];exact Jaa (List.length_filter_le _ _) (by simp)
set_option maxHeartbeats 1000000 in
theorem Q0u {p rg:Int}{bc:C}{rows:List (List C)}{nx:Nat→List Int}{b:Int}(hs:Slc H 5 rows bc)(how:bc.isOw=false)
  (hx:∀i,i<rows.length→∃a1 a2 a3 a4 fl,rows.getD i []=[a1,a2,a3,a4,.sl fl 1 (Qb (nx i))])
  (hK:∀H',Upd H H' []→K (.c (.sl false 1 (Qb (Q0 nx b rows.length)))) H'):Qo prog Qhf [.ag [.int .i64 p,.int .i64 rg,bc],.c (.int .i64 b)] H K:=by
 refine Qu ?_;refine Qd Qai Qbem ?_;refine Qa ?_;simp only[go_sem];refine Qa ?_;simp only[go_sem];refine Q5 ?_;refine Qa ?_;simp only[go_sem];have hlen:=hs.len;have hesz:=hs.sz;refine Qh (Qf (Qw (fun n e1 H1=>∃(i:Nat) (c:C) (Lg:List (Nat×Obj)),n=rows.length-i∧i≤rows.length∧Gr Lg 1 (Qb (Q0 nx b i)) c∧Kn H H1 [] ([]++Lg)∧
  e1=[(1,.c (.int .i64 b)),(2,.c (.pp [.int .i64 p,.int .i64 rg,bc])),(5,.c c),(6,.c (.int .i64 i))]) rows.length ?_ ?_))
 ·exact⟨0,_,[],by omega,by omega,.nil 1,Kn.start0 H,rfl⟩
 ·rintro n e1 H1 ⟨i,c,Lg,hn1,hi,hgr,kn,rfl⟩;have hs1:=hs.keep0 kn;have hok1:=eq_true hs1.ok;have hrw1:=hs1.rows;refine Q5 ?_;refine Qa ?_;simp only[go_sem,how,hok1,hlen];intro hl;simp only[LIM]at hl;refine Qh (Qe rfl ?_ ?_)
  ·intro hc;have hlt:i<rows.length:=by simpa using hc
   obtain⟨a1,a2,a3,a4,fl,hrow⟩:=hx i hlt;refine Qi ?_;simp only[go_sem];have turn:∀(e:Env) (H2:Heap) (c':C) (Lg':List (Nat×Obj)),lk 1 e=.c (.int .i64 b)→lk 2 e=.c (.pp [.int .i64 p,.int .i64 rg,bc])→lk 5 e=.c c'→lk 6 e=.c (.int .i64 i)→
     Gr Lg' 1 (Qb (Q0 nx b (i+1))) c'→Kn H H2 [] ([]++Lg')→
     Qae prog Qafo (X.next (fun e2 H2=>∃m,m<n∧∃(i:Nat) (c:C) (Lg:List (Nat×Obj)),m=rows.length-i∧i≤rows.length∧Gr Lg 1 (Qb (Q0 nx b i)) c∧Kn H H2 [] ([]++Lg)∧
      e2=[(1,.c (.int .i64 b)),(2,.c (.pp [.int .i64 p,.int .i64 rg,bc])),(5,.c c),(6,.c (.int .i64 i))]) (X.inBlock 0 (X.sq prog Qafp (Qz Qacb (unK H K))))) e H2:=by
    intro e H2 c' Lg' l1 l2 l5 l6 hg' kn';refine Qt ?_;simp only[go_sem,l1,l2,l5,l6,X.next];exact⟨Qr (by omega) (by omega),rows.length-(i+1),by omega,i+1,c',Lg',rfl,by omega,hg',by simpa using kn',rfl⟩
   refine Qh (Qf ?_);refine Qa ?_;simp only[go_sem];refine Qf (Qw (fun n e1 H2=>∃(k:Nat),n=(nx i).length-k∧k≤(nx i).length∧b∉(nx i).take k∧H2=H1∧e1=[(1,.c (.int .i64 b)),(2,.c (.pp [.int .i64 p,.int .i64 rg,bc])),(5,.c c),(6,.c (.int .i64 i)),(7,.c (.int .i64 k))]) (nx i).length ?_ ?_)
   ·exact⟨0,by omega,by omega,by simp,rfl,rfl⟩
   ·rintro n e1 H2 ⟨k,hn2,hk,hno,rfl,rfl⟩;refine Q5 ?_;refine Qa ?_;simp only[go_sem,how,hok1,hlen,hesz,hrw1,hlt,hrow,Qc];intro hl2;simp only[LIM]at hl2;refine Qh (Qe rfl ?_ ?_)
    ·intro hc;have hlt2:k<(nx i).length:=(by simpa using hc);have hgd:(nx i).getD k 0=(nx i)[k]:=(by simp[Jb,hlt2]);refine Qi ?_;simp only[go_sem];refine Qh (Qf ?_);refine Qa ?_;simp only[go_sem,how,hok1,hlen,hesz,hrw1,hlt,hrow,hlt2,Qc,Qm _ _ hlt2,hgd];refine Qe rfl ?_ ?_
     ·intro hc2;have hb:(nx i)[k]=b:=(by simpa using hc2);have hcon:(nx i).contains b=true:=(by rw[J5,←hb];exact Jc hlt2);refine Qa ?_;simp only[go_sem];have hpl:=Qb5 nx b i;refine kn.grow (B:=[]) (new:=Qb [(i:Int)]) hgr (.mk' _ _ _ _) (Qn _) (by simp only[Qc,LIM,Jl,Jn];omega) fun y' H3 kn=>?_;simp only[go_sem,Q7c];refine Qv ?_;have hib:((2:Nat) == 3)=false:=rfl;rw[Qbij hib];simp only[go_sem,X.next];refine turn _ _ _ _ (by simp[lk]) (by simp[lk]) (by simp[lk];rfl) (by simp[lk]) ?_ kn;rw[Qja,hcon,if_pos rfl,Qbc];exact .mk _ _ _ (by simp)
     ·intro hc2;have hb:¬(nx i)[k]=b:=(by simpa using hc2);refine Qi ?_;simp only[go_sem];refine Qt ?_;simp only[go_sem,X.next];refine⟨Qr (by omega) (by omega),(nx i).length-(k+1),by omega,k+1,rfl,by omega,?_,rfl⟩;rw[Jk hlt2];simp only[Jm,Ja,not_or];exact⟨hno,fun h=>hb h.symm⟩
    ·intro hc;have hge:(nx i).length≤k:=(by simpa using hc);rw[Jd hge]at hno;have hcon:(nx i).contains b=false:=by
      cases hcc:(nx i).contains b with
      |false=>rfl
      |true=>exact absurd (J5.1 hcc) hno
     refine Qv ?_;simp only[go_sem,X.next];refine turn _ _ _ _ (by simp[lk]) (by simp[lk]) (by simp[lk];rfl) (by simp[lk]) ?_ kn;rw[Qja,hcon];simpa using hgr
  ·intro hc;have hge:i=rows.length:=by have:rows.length≤i:=(by simpa using hc);omega
   subst hge;refine Qv ?_;simp only[go_sem,X.next];refine Qa ?_;simp only[go_sem];refine Qk ?_;simp only[go_sem,Qz,Q8,Qacb,reduceIte,Ja,forall_eq,RS.op];exact⟨_,.c _ _ (hgr.frz kn (Qn _)),hK _ kn.fin⟩
def Qhk (op:Int):Int:=if op=1 then 0 else if op=2∨op=10∨op=11∨op=13 then 1 else if (3≤op∧op≤9)∨op=12 then 2 else -1
theorem Qa62 {op:Int}(hK:K (.c (.int .i64 (Qhk op))) H):Qo prog Qq2 [.c (.int .i64 op)] H K:=by
 refine Qd Qai Qbjm ?_;have retf:∀(n:Int) (e:Env),Qhk op=n→lk 2 e=.c (.int .i64 n)→Qz Qapx K .ret e H:=by
  intro b e h1 h3;simp only[go_sem,Qz,Q8,Qapx,Ja,forall_eq,RS.op,h3];rw[←h1];exact hK
 refine Qa ?_;simp only[go_sem];refine Qh (Qf ?_);refine Qa ?_;simp only[go_sem];refine Qe rfl ?_ ?_
 ·intro hc;refine Qa ?_;simp only[go_sem];refine Qk ?_;simp only[go_sem];exact retf 0 _ (by simp only[decide_eq_true_eq]at hc;simp[Qhk,hc]) (by simp[lk])
 intro hc1;refine Qa ?_;simp only[go_sem];refine Qe rfl ?_ ?_
 ·intro hc;refine Qa ?_;simp only[go_sem];refine Qk ?_;simp only[go_sem];exact retf 1 _ (by simp at hc1 hc;rw[Qhk,if_neg hc1,if_pos (by omega)]) (by simp[lk])
 intro hc2;refine Qa ?_;simp only[go_sem];refine Qds ?_;simp only[go_sem,Qaez];refine Qe rfl ?_ ?_
 ·intro hc;refine Qa ?_;simp only[go_sem];refine Qk ?_;simp only[go_sem];exact retf 2 _ (by simp at hc1 hc2 hc;rw[Qhk,if_neg hc1,if_neg (by omega),if_pos (by omega)]) (by simp[lk])
 ·intro hc;refine Qi ?_;simp only[go_sem];refine Qa ?_;simp only[go_sem];refine Qk ?_;exact retf (-1) _ (by simp at hc1 hc2 hc;rw[Qhk,if_neg hc1,if_neg (by omega),if_neg (by omega)]) (by simp[lk])
theorem argsN_in {op:Int}:-1≤Qhk op∧Qhk op≤2:=by
 rw[Qhk];split
 ·omega
 ·split
  ·omega
  ·split <;> omega
theorem Qbd2 {op:Int}(hK:∀n:Int,-1≤n→n≤2→K (.c (.int .i64 n)) H):Qo prog Qq2 [.c (.int .i64 op)] H K:=Qa62 (hK _ argsN_in.1 argsN_in.2)
def Qh3 (op:Int):Bool:=decide (1≤op∧op≤14)&&!decide (op=12)&&!decide (op=13)
theorem Qabc {op:Int}(hK:K (.c (.bool (Qh3 op))) H):Qo prog Qks [.c (.int .i64 op)] H K:=by
 refine Qd Qai Qbel ?_;refine Qa ?_;simp only[go_sem];refine Qa ?_;simp only[go_sem];refine Qds ?_;simp only[go_sem,Q7b];refine Qk ?_;simp only[go_sem,Qz,Q8,Qaut,reduceIte,Ja,forall_eq,RS.op];have:∀a b c:Bool,(bif bif a then b else false then c else false)=(a&&b&&c):=by decide
 rw[this];exact hK
def Qpq (rg:Int)(l:List Int):Bool:=l.all fun x=>decide (0≤x∧x≤rg-1)
theorem Qa90 {rg:Int}{l:List Int}{i:Nat}(hi:i<l.length):Qpq rg (l.take (i+1))=(Qpq rg (l.take i)&&decide (0≤l.getD i 0∧l.getD i 0≤rg-1)):=by
 have e:l.getD i 0=l[i]:=by simp[Jb,hi]
 rw[Qpq,Jk hi,Jaf,e];simp[Qpq]
theorem Qbfh {rg:Int}{l:List Int}{i:Nat}(hi:i<l.length)(h:decide (0≤l.getD i 0∧l.getD i 0≤rg-1)=false):Qpq rg l=false:=by
 have e:l.getD i 0=l[i]:=by simp[Jb,hi]
 cases hc:Qpq rg l with
 |false=>rfl
 |true=>
  rw[Qpq,Jab]at hc;have:=hc _ (Jc hi);rw[e]at h;rw[h]at this;exact absurd this (by simp)
theorem Qa63 {p rg:Int}{bc:C}{fl:Bool}{l:List Int}(hr:-(2^62)≤rg)(hr2:rg≤2^62)(hK:K (.c (.bool (Qpq rg l))) H) :
  Qo prog Q0q [.ag [.int .i64 p,.int .i64 rg,bc],.c (.sl fl 1 (Qb l))] H K:=by
 refine Qd Qai Qbjq ?_;have retf:∀(b:Bool) (e:Env),Qpq rg l=b→lk 4 e=.c (.bool b)→Qz Qapy K .ret e H:=by
  intro b e h1 h3;simp only[go_sem,Qz,Q8,Qapy,Ja,forall_eq,RS.op,h3];rw[←h1];exact hK
 refine Qa ?_;simp only[go_sem];refine Q5 ?_;refine Qa ?_;simp only[go_sem];refine Qh (Qf (Qw (fun n e1 H1=>∃(i:Nat),n=l.length-i∧i≤l.length∧H1=H∧Qpq rg (l.take i)=true∧e1=[(1,.c (.sl fl 1 (Qb l))),(2,.c (.pp [.int .i64 p,.int .i64 rg,bc])),(5,.c (.int .i64 i))]) l.length ?_ ?_))
 ·exact⟨0,by omega,by omega,rfl,rfl,rfl⟩
 ·rintro n e1 H1 ⟨i,hn1,hi,rfl,hall,rfl⟩;refine Q5 ?_;refine Qa ?_;simp only[go_sem,Qc];intro hl;simp only[LIM]at hl;refine Qh (Qe rfl ?_ ?_)
  ·intro hc;have hlt:i<l.length:=by simpa using hc
   refine Qi ?_;simp only[go_sem];refine Qh (Qf ?_);refine Qad ?_;simp only[go_sem,hlt,Qc,Qm _ _ hlt];refine⟨Qr (by omega) (by omega),?_⟩;refine Qds ?_;simp only[go_sem,Qafq];refine Qe rfl ?_ ?_
   ·intro hc2;refine Qa ?_;simp only[go_sem];refine Qk ?_;simp only[go_sem,X.next];exact retf false _ (Qbfh hlt (Qpp hc2)) (by simp[lk])
   ·intro hc2;refine Qi ?_;simp only[go_sem];refine Qt ?_;simp only[go_sem,X.next];exact⟨Qr (by omega) (by omega),l.length-(i+1),by omega,i+1,rfl,by omega,by rw[Qa90 hlt,hall,Qgc hc2];rfl,rfl⟩
  ·intro hc;have hge:l.length≤i:=by simpa using hc
   rw[Jd hge]at hall;refine Qv ?_;simp only[go_sem,X.next];refine Qa ?_;simp only[go_sem];refine Qk ?_;exact retf true _ hall (by simp[lk])
def rgOf (cs:List CodeD)(k:Nat):Int:=(cs[k]?.map CodeD.regs).getD 0
def pmOf (cs:List CodeD)(k:Nat):Int:=(cs[k]?.map CodeD.params).getD 0
theorem Qrq {cs:List CodeD}{k:Nat}(h:k<cs.length):rgOf cs k=cs[k].regs:=by simp[rgOf,h]
theorem Qrd {cs:List CodeD}{k:Nat}(h:k<cs.length):pmOf cs k=cs[k].params:=by simp[pmOf,h]
def insH (rg:Int)(x:InsD):Bool:=decide (1≤x.op∧x.op≤14)&&Qpq rg x.args
def insT (rg:Int)(x:InsD):Bool:=if Qh3 x.op then decide (0≤x.to∧x.to≤rg-1)else decide (x.to=-1)
def insL (cs:List CodeD)(k:Nat)(x:InsD):Bool:=
 if x.op=14 then decide (0≤x.n∧x.n≤(k:Int)-1)&&decide ((x.args.length:Int)=pmOf cs x.n.toNat)
 else decide ((x.args.length:Int)=Qhk x.op)&&decide (0≤x.n∧x.n≤255)&&(decide (x.n=0) || decide (x.op=1))
def Q42 (cs:List CodeD)(k:Nat)(x:InsD):Bool:=insH (rgOf cs k) x&&insT (rgOf cs k) x&&insL cs k x
set_option maxHeartbeats 1000000 in
theorem Qbnw {cs:List CodeD}{fl:Bool}{k:Nat}{x:InsD}(hk:k<cs.length)(hr:0≤cs[k].regs)(hr2:cs[k].regs≤300)(hcl:cs.length≤100)(hK:∀(H':Heap),Upd H H' []→K (.c (.bool (Q42 cs k x))) H') :
  Qo prog Qao0 [.ag [.sl fl 3 (Ql cs)],.c (.int .i64 k),.ag x.cells] H K:=by
 refine Qu ?_;refine Qd Qai Qbn5 ?_;refine Qa ?_;simp only[go_sem,InsD.cells];refine Qa ?_;simp only[go_sem,hk,Q3,Qal _ _ hk,CodeD.cells];intro x7 hx7 H1 h1;have kn:=(Kn.start0 H).al hx7 h1;have hx71:=kn.l 0 rfl;simp only[go_sem,Qaoh,hx71];intro H2 h2;have kn:=kn.stL 0 rfl h2;have hx72:=kn.l 0 rfl;have hrg:=Qrq hk;have retf:∀(b:Bool) (e:Env),Q42 cs k x=b→lk 6 e=.c (.bool b)→Qz Qaca (unK H K) .ret e H2:=by
  intro b e h1 h3;simp only[go_sem,Qz,Q8,Qaca,Ja,forall_eq,RS.op,h3];rw[←h1];exact⟨_,.c _ _ (Qg rfl),hK _ kn.fin⟩
 refine Q5 ?_;refine Qa ?_;simp only[go_sem];refine Qds ?_;simp only[go_sem,Qaoi,hx72];have rest:∀(E1:Env) (b:Bool),insH cs[k].regs x=(!b)→lk 1 E1=.c (.int .i64 k)→lk 3 E1=.c (.pp [.sl fl 3 (Ql cs)])→lk 5 E1=.c (.pp [.int .i64 x.op,.int .i64 x.to,.sl false 1 (Qb x.args),.int .i64 x.n])→lk 7 E1=.c (.ptr x7 0)→lk 23 E1=.c (.bool b)→
   Qae prog (s_l7Ins_3.seq Qaog) (Qz Qaca (unK H K)) E1 H2:=by
  intro E1 b hb l1 l3 l5 l7 l23;refine Qh (Qe l23 ?_ ?_)
  ·intro hc;refine Qa ?_;simp only[go_sem];refine Qk ?_;simp only[go_sem];exact retf false _ (by rw[Q42,hrg,hb,hc];rfl) (by simp[lk])
  intro hc;rw[hc]at hb;refine Qi ?_;simp only[go_sem];refine Q5 ?_;refine Qad ?_;simp only[go_sem,l1,l3,l5,l7,hx72];refine⟨Qr (by omega) (by omega),?_⟩;refine Qabc ?_;simp only[go_sem,Qaok,l1,l3,l5,l7,hx72];refine Qds ?_;simp only[go_sem,Qaoj,l1,l3,l5,l7,hx72];have rest2:∀(E1:Env) (b:Bool),insT cs[k].regs x=(!b)→lk 1 E1=.c (.int .i64 k)→lk 3 E1=.c (.pp [.sl fl 3 (Ql cs)])→lk 5 E1=.c (.pp [.int .i64 x.op,.int .i64 x.to,.sl false 1 (Qb x.args),.int .i64 x.n])→lk 44 E1=.c (.bool b)→
    Qae prog (s_l7Ins_7.seq Qaof) (Qz Qaca (unK H K)) E1 H2:=by
   intro E1 b hb2 l1 l3 l5 l44;refine Qh (Qe l44 ?_ ?_)
   ·intro hc;refine Qa ?_;simp only[go_sem];refine Qk ?_;simp only[go_sem];exact retf false _ (by rw[Q42,hrg,hb2,hc];simp) (by simp[lk])
   intro hc;rw[hc]at hb2;have hG:Q42 cs k x=insL cs k x:=by rw[Q42,hrg,hb,hb2];rfl
   refine Qi ?_;simp only[go_sem];refine Q5 ?_;refine Qa ?_;simp only[go_sem,l1,l3,l5];refine Qh (Qe rfl ?_ ?_)
   ·intro hc;have hop:x.op=14:=of_decide_eq_true hc;rw[insL,if_pos hop]at hG;refine Qad ?_;simp only[go_sem];refine⟨Qr (by omega) (by omega),?_⟩;refine Qds ?_;by_cases hin:0≤x.n∧x.n≤(k:Int)-1
    ·obtain⟨m,hm⟩:=Jo hin.1;have hmk:m<cs.length:=(by omega);have hin':(0≤(m:Int)∧(m:Int)≤(k:Int)-1)=True:=eq_true (by rw[←hm];exact hin);simp only[go_sem,Qv9,hm,hin',hmk,decide_true,Q3,Qal _ _ hmk,CodeD.cells,Qc];refine Qk ?_;refine retf _ _ ?_ (by simp[lk];rfl);rw[hG,hm,Int.toNat_natCast,Qrd hmk];simp only[hin',decide_true,Bool.true_and];simp[show ((m:Int)≤(k:Int)-1) from by omega]
    ·have hin':decide (0≤x.n∧x.n≤(k:Int)-1)=false:=(by simpa using hin);by_cases hm:x.n.toNat<cs.length
     ·simp only[go_sem,Qv9,hin',Qal _ _ hm,CodeD.cells];refine Qk ?_;exact retf false _ (by rw[hG,hin'];rfl) (by simp[lk])
     ·have hgd:(Ql cs).getD x.n.toNat []=[]:=by
       rw[Jb,List.getElem?_eq_none (by rw[Q3];omega)];rfl
      simp only[go_sem,Qv9,hin',hgd,List.take_nil,List.headD_nil];refine Qk ?_;exact retf false _ (by rw[hG,hin'];rfl) (by simp[lk])
   ·intro hc;have hop:¬x.op=14:=of_decide_eq_false hc;rw[insL,if_neg hop]at hG;refine Qi ?_;simp only[go_sem];refine Qad ?_;simp only[go_sem];refine Qa62 ?_;simp only[go_sem,Qafn];refine⟨fun hb=>?_,fun hb=>?_⟩
    ·refine Qds ?_;simp only[go_sem,Qz8];refine Qk ?_;refine retf _ _ ?_ (by simp[lk];rfl);have hb':(x.args.length:Int)=Qhk x.op:=(by simpa[Qc]using hb);rw[hG];simp[hb',Qc]
    ·simp only[go_sem,Qz8,hb];refine Qk ?_;refine retf _ _ ?_ (by simp[lk];rfl);have hb':¬(x.args.length:Int)=Qhk x.op:=(by simpa[Qc]using hb);rw[hG];simp[hb']
  refine⟨fun hb=>?_,fun hb=>?_⟩
  ·refine Qabc ?_;simp only[go_sem,Q4j,l1,l3,l5,l7];refine rest2 _ _ ?_ (by simp[lk]) (by simp[lk]) (by simp[lk]) (by simp[lk];rfl)
   cases hmk:Qh3 x.op with
   |true=>simp[insT,hmk]
   |false=>by_cases h:x.to=-1 <;> simp[insT,hmk,h]
  ·replace hb:=Qgc hb;simp only[go_sem,Q4j,l1,l3,l5,l7,hb];refine rest2 _ true ?_ (by simp[lk]) (by simp[lk]) (by simp[lk]) (by simp[lk])
   cases hmk:Qh3 x.op with
   |true=>simp[hmk]at hb;simp[insT,hmk];omega
   |false=>simp[hmk]at hb;simp[insT,hmk];omega
 refine⟨fun hb=>?_,fun hb=>?_⟩
 ·refine Qa63 (by omega) (by omega) ?_;simp only[go_sem,Q4i];refine rest _ _ ?_ (by simp[lk]) (by simp[lk]) (by simp[lk]) (by simp[lk]) (by simp[lk];rfl);simp[insH]
 ·replace hb:=Qgc hb;simp only[go_sem,Q4i,hb];refine rest _ true ?_ (by simp[lk]) (by simp[lk]) (by simp[lk]) (by simp[lk]) (by simp[lk]);rw[insH,Qpp hb];rfl
theorem InsD.take4 (x:InsD):x.cells.take 4=x.cells:=rfl
theorem InsD.allOw (x:InsD):(x.cells.all fun c=>!c.isOw)=true:=rfl
theorem InsD.len4 (x:InsD):x.cells.length=4:=rfl
theorem Qbmt (l:List BlkD)(i:Nat)(h:i<(Qs l).length):∃a1 a2 a3 a4 fl,(Qs l).getD i []=[a1,a2,a3,a4,.sl fl 1 (Qb ((l.map BlkD.next).getD i []))]:=by
 rw[Qp]at h;rw[Qa6 _ _ h];have:(l.map BlkD.next).getD i []=l[i].next:=by simp[Jb,h]
 exact⟨.sl false 2 (Q2 l[i].phis),.sl false 4 (Qaw l[i].ins),.int .i64 l[i].jump,.int .i64 l[i].on,false,by rw[this];rfl⟩
set_option maxHeartbeats 3000000 in
theorem Q97 {α:Type}{p:α→Bool}{l:List α}{i:Nat}(hi:i<l.length):(l.take (i+1)).all p=((l.take i).all p&&p l[i]):=by
 rw[Jk hi,Jaf];simp
theorem Qaoq {α:Type}{p:α→Bool}{l:List α}{i:Nat}(hi:i<l.length)(h:p l[i]=false):l.all p=false:=by
 cases hc:l.all p with
 |false=>rfl
 |true=>rw[Jab.1 hc _ (Jc hi)]at h;exact absurd h (by simp)
def Qky (j:Int):Int:=if j=1 then 1 else if j=2 then 2 else if j=3 then 0 else -1
def Qmv (rg:Int)(y:BlkD):Bool:=decide ((y.next.length:Int)=Qky y.jump)&&if y.jump=1 then decide (y.on=0)else decide (0≤y.on∧y.on≤rg-1)
def Q3t (n:Nat)(x:Int):Bool:=decide (1≤x∧x≤(n:Int)-1)
def phiG (rg:Int)(np b:Nat)(x:PhiD):Bool:=!decide (b=0)&&decide ((x.args.length:Int)=np)&&Qpq rg x.args&&decide (0≤x.to∧x.to≤rg-1)
def Q0k (cs:List CodeD)(k b:Nat)(q:CodeD)(y:BlkD):Bool:=
 Qmv q.regs y&&y.next.all (Q3t (Qs q.blocks).length)&&y.ins.all (Q42 cs k)&&y.phis.all (phiG q.regs (Q0 (fun i=>(q.blocks.map BlkD.next).getD i []) (b:Int) (Qs q.blocks).length).length b)
theorem Qbcu {cs:List CodeD}{k b:Nat}{q:CodeD}{y:BlkD}(h:Q0k cs k b q y=true):y.next.length≤2:=by
 simp only[Q0k,Qmv,Bool.and_eq_true,decide_eq_true_eq]at h;have:=h.1.1.1.1;rw[Qky]at this;split at this
 ·omega
 ·split at this
  ·omega
  ·split at this <;> omega
set_option maxHeartbeats 1000000 in
theorem Qbd3 {cs:List CodeD}{fl:Bool}{k b:Nat}(hk:k<cs.length)(hbk:b<cs[k].blocks.length)(hr:0≤cs[k].regs)(hr2:cs[k].regs≤300)(hcl:cs.length≤100)(hbl:cs[k].blocks.length≤200)(hK:∀(H':Heap),Upd H H' []→K (.c (.bool (Q0k cs k b cs[k] cs[k].blocks[b]))) H') :
  Qo prog Q3g [.ag [.sl fl 3 (Ql cs)],.c (.int .i64 k),.c (.int .i64 b)] H K:=by
 refine Qu ?_;refine Qd Qai Qbek ?_;have retf:∀(v:Bool) (e:Env) (H':Heap) (L:List (Nat×Obj)),Q0k cs k b cs[k] cs[k].blocks[b]=v→Kn H H' [] L→lk 6 e=.c (.bool v)→Qz Qk8 (unK H K) .ret e H':=by
  intro v e H' L hb kn h3;simp only[go_sem,Qz,Q8,Qk8,Ja,forall_eq,RS.op,h3];rw[←hb];exact⟨_,.c _ _ (Qg rfl),hK _ kn.fin⟩
 refine Qa ?_;simp only[go_sem];refine Qa ?_;simp only[go_sem,hk,Q3,Qal _ _ hk,CodeD.cells];intro x7 hx7 H1 h1;have kn:=(Kn.start0 H).al hx7 h1;have hx71:=kn.l 0 rfl;simp only[go_sem,Q60,hx71];intro H2 h2;have kn:=kn.stL 0 rfl h2;have hx72:=kn.l 0 rfl;refine Qa ?_;simp only[go_sem,hx72,hbk,Qp,Qa6 _ _ hbk,BlkD.cells];obtain⟨y,hy⟩:∃y,cs[k].blocks[b]=y:=⟨_,rfl⟩;rw[hy];intro x8 hx8 H3 h3;have kn:=kn.al hx8 h3;have hx83:=kn.l 1 rfl;simp only[go_sem,Q61,hx83];intro H4 h4;have kn:Kn H H4 [] [(x7,.st [.int .i64 cs[k].params,.int .i64 cs[k].regs,.sl false 5 (Qs cs[k].blocks)]),(x8,.st [.sl false 2 (Q2 y.phis),.sl false 4 (Qaw y.ins),.int .i64 y.jump,.int .i64 y.on,.sl false 1 (Qb y.next)])]:=kn.stL 1 rfl h4;obtain⟨q,hq⟩:∃q,cs[k]=q:=⟨_,rfl⟩;have hGe:Q0k cs k b cs[k] cs[k].blocks[b]=Q0k cs k b q y:=by rw[hy,hq]
 rw[hGe]at retf;rw[hq]at kn hr hr2 hbk hbl;generalize hnp:(Q0 (fun i=>(q.blocks.map BlkD.next).getD i []) (b:Int) (Qs q.blocks).length).length=np;have hGd:Q0k cs k b q y=(Qmv q.regs y&&y.next.all (Q3t (Qs q.blocks).length)&&y.ins.all (Q42 cs k)&&y.phis.all (phiG q.regs np b)):=by rw[Q0k,hnp]
 refine Qa ?_;simp only[go_sem];have hx74:=kn.l 0 rfl;have hx84:=kn.l 1 rfl;refine Q5 ?_;refine Qa ?_;simp only[go_sem,hx84];have rest31:∀(want:Int) (E1:Env),Qky y.jump=want→(y.jump=1→y.on=0)→lk 1 E1=.c (.int .i64 k)→lk 2 E1=.c (.int .i64 b)→lk 3 E1=.c (.pp [.sl fl 3 (Ql cs)])→lk 7 E1=.c (.ptr x7 0)→lk 8 E1=.c (.ptr x8 0)→lk 9 E1=.c (.int .i64 want)→
   Qae prog Q6z (Qz Qk8 (unK H K)) E1 H4:=by
  intro want E1 hw hjo l1 l2 l3 l7 l8 l9;refine Q5 ?_;refine Qa ?_;simp only[go_sem,l1,l2,l3,l7,l8,l9,hx74,hx84,Qc];intro hnl;simp only[LIM]at hnl;refine⟨fun _=>Qr (by omega) (by omega),?_⟩;have rest8:∀(b1:Bool) (E1:Env),Qmv q.regs y=(!b1)→lk 1 E1=.c (.int .i64 k)→lk 2 E1=.c (.int .i64 b)→lk 3 E1=.c (.pp [.sl fl 3 (Ql cs)])→lk 7 E1=.c (.ptr x7 0)→lk 8 E1=.c (.ptr x8 0)→lk 53 E1=.c (.bool b1)→
    Qae prog (s_l7Block_8.seq Q6y) (Qz Qk8 (unK H K)) E1 H4:=by
   intro b1 E1 hn2 l1 l2 l3 l7 l8 l53;refine Qh (Qe l53 ?_ ?_)
   ·intro hc;refine Qa ?_;simp only[go_sem];refine Qk ?_;simp only[go_sem];exact retf false _ _ _ (by rw[hGd,hn2,hc];simp) kn (by simp[lk])
   intro hbf;rw[hbf]at hn2;refine Qi ?_;simp only[go_sem];refine Q5 ?_;refine Qa ?_;simp only[go_sem,l1,l2,l3,l7,l8];refine Qh (Qf (Qw (fun n e1 H1=>∃(i:Nat),n=y.next.length-i∧i≤y.next.length∧H1=H4∧(y.next.take i).all (Q3t (Qs q.blocks).length)=true∧e1=[(1,.c (.int .i64 k)),(2,.c (.int .i64 b)),(3,.c (.pp [.sl fl 3 (Ql cs)])),(7,.c (.ptr x7 0)),(8,.c (.ptr x8 0)),(10,.c (.int .i64 i))]) y.next.length ?_ ?_))
   ·exact⟨0,by omega,by omega,rfl,rfl,rfl⟩
   ·rintro n e1 H1 ⟨i,hn1,hi,rfl,hall1,rfl⟩;refine Q5 ?_;refine Qa ?_;simp only[go_sem,hx84,Qc];refine fun _=>?_;refine Qh (Qe rfl ?_ ?_)
    ·intro hc;have hlt:i<y.next.length:=(by simpa using hc);have hgd:y.next.getD i 0=y.next[i]:=(by simp[Jb,hlt]);have hng:Q3t (Qs q.blocks).length y.next[i]=decide (1≤y.next.getD i 0∧y.next.getD i 0≤(q.blocks.length:Int)-1):=(by rw[hgd,Q3t,Qp]);refine Qi ?_;simp only[go_sem];refine Qh (Qf ?_);refine Qad ?_;simp only[go_sem,hx84,hx74,hlt,Qc,Qm _ _ hlt,Qp];refine⟨Qr (by omega) (by omega),?_⟩;refine Qds ?_;simp only[go_sem,Q62];refine Qe rfl ?_ ?_
     ·intro hc2;refine Qa ?_;simp only[go_sem];refine Qk ?_;simp only[go_sem,X.next];exact retf false _ _ _ (by rw[hGd,Qaoq hlt (by rw[hng];exact Qpp hc2)];simp) kn (by simp[lk])
     ·intro hc2;refine Qi ?_;simp only[go_sem];refine Qt ?_;simp only[go_sem,X.next];exact⟨Qr (by omega) (by omega),y.next.length-(i+1),by omega,i+1,rfl,by omega,by rw[Q97 hlt,←Qp q.blocks,hall1,hng,Qgc hc2];rfl,rfl⟩
    ·intro hc;have hge:y.next.length≤i:=(by simpa using hc);rw[Jd hge]at hall1;refine Qv ?_;simp only[go_sem,X.next];refine Q5 ?_;refine Qa ?_;simp only[go_sem];refine Qh (Qf (Qw (fun n e1 H1=>∃(i:Nat),n=y.ins.length-i∧i≤y.ins.length∧Kn H H1 [] [(x7,.st [.int .i64 q.params,.int .i64 q.regs,.sl false 5 (Qs q.blocks)]),(x8,.st [.sl false 2 (Q2 y.phis),.sl false 4 (Qaw y.ins),.int .i64 y.jump,.int .i64 y.on,.sl false 1 (Qb y.next)])]∧(y.ins.take i).all (Q42 cs k)=true∧
      e1=[(1,.c (.int .i64 k)),(2,.c (.int .i64 b)),(3,.c (.pp [.sl fl 3 (Ql cs)])),(7,.c (.ptr x7 0)),(8,.c (.ptr x8 0)),(11,.c (.int .i64 i))]) y.ins.length ?_ ?_))
     ·exact⟨0,by omega,by omega,kn,rfl,rfl⟩
     ·rintro n e1 H5 ⟨i,hn1,hi,kn,hall2,rfl⟩;have hx75:=kn.l 0 rfl;have hx85:=kn.l 1 rfl;refine Q5 ?_;refine Qa ?_;simp only[go_sem,hx85,Qay];intro hil;simp only[LIM]at hil;refine Qh (Qe rfl ?_ ?_)
      ·intro hc;have hlt:i<y.ins.length:=(by simpa using hc);refine Qi ?_;simp only[go_sem];refine Qh (Qf ?_);refine Qad ?_;simp only[go_sem,hx85,hx75,hlt,Qay,Qey _ _ hlt,InsD.take4,InsD.allOw,InsD.len4];refine Qbnw hk (by rw[hq];omega) (by rw[hq];omega) hcl fun H6 hu=>?_;have kn:=kn.call0 hu;simp only[go_sem,Q2n];refine Qe rfl ?_ ?_
       ·intro hc2;refine Qa ?_;simp only[go_sem];refine Qk ?_;simp only[go_sem,X.next];exact retf false _ _ _ (by rw[hGd,Qaoq hlt (Qpp hc2)];simp) kn (by simp[lk])
       ·intro hc2;refine Qi ?_;simp only[go_sem];refine Qt ?_;simp only[go_sem,X.next];exact⟨Qr (by omega) (by omega),y.ins.length-(i+1),by omega,i+1,rfl,by omega,kn,by rw[Q97 hlt,hall2,Qgc hc2];rfl,rfl⟩
      ·intro hc;have hge:y.ins.length≤i:=(by simpa using hc);rw[Jd hge]at hall2;refine Qv ?_;simp only[go_sem,X.next];refine Qa ?_;simp only[go_sem,hx75];refine Q0u (rows:=Qs q.blocks) (nx:=fun i=>(q.blocks.map BlkD.next).getD i []) (.mk' _ _ _ _) rfl (Qbmt q.blocks) fun H6 hu=>?_;have kn:=kn.call0 hu;simp only[go_sem,Q2o];refine Q5 ?_;refine Qa ?_;simp only[go_sem];obtain⟨ps,hps⟩:∃ps,Q0 (fun i=>(q.blocks.map BlkD.next).getD i []) (b:Int) (Qs q.blocks).length=ps:=⟨_,rfl⟩;rw[hps];rw[hps]at hnp;have hx76:=kn.l 0 rfl;have hx86:=kn.l 1 rfl;refine Qh (Qf (Qw (fun n e1 H1=>∃(i:Nat),n=y.phis.length-i∧i≤y.phis.length∧H1=H6∧(y.phis.take i).all (phiG q.regs np b)=true∧
        e1=[(2,.c (.int .i64 b)),(7,.c (.ptr x7 0)),(8,.c (.ptr x8 0)),(12,.c (.sl false 1 (Qb ps))),(13,.c (.int .i64 i))]) y.phis.length ?_ ?_))
       ·exact⟨0,by omega,by omega,rfl,rfl,rfl⟩
       ·rintro n e1 H7 ⟨i,hn1,hi,rfl,hall3,rfl⟩;refine Q5 ?_;refine Qa ?_;simp only[go_sem,hx86,Qy];intro hpl;simp only[LIM]at hpl;refine Qh (Qe rfl ?_ ?_)
        ·intro hc;have hlt:i<y.phis.length:=(by simpa using hc);refine Qi ?_;simp only[go_sem];refine Qh (Qf ?_);have fin:∀(b3:Bool) (E1:Env),phiG q.regs np b y.phis[i]=(!b3)→lk 2 E1=.c (.int .i64 b)→lk 7 E1=.c (.ptr x7 0)→lk 8 E1=.c (.ptr x8 0)→lk 12 E1=.c (.sl false 1 (Qb ps))→lk 13 E1=.c (.int .i64 i)→lk 135 E1=.c (.bool b3)→
           Qae prog Q6v (X.inBlock 6 (X.sq prog Q6w (X.next (fun e2 H2=>∃m,m<n∧∃(i:Nat),m=y.phis.length-i∧i≤y.phis.length∧H2=H7∧(y.phis.take i).all (phiG q.regs np b)=true∧
            e2=[(2,.c (.int .i64 b)),(7,.c (.ptr x7 0)),(8,.c (.ptr x8 0)),(12,.c (.sl false 1 (Qb ps))),(13,.c (.int .i64 i))]) (X.inBlock 5 (X.sq prog Q6x (Qz Qk8 (unK H K))))))) E1 H7:=by
          intro b3 E1 hph l2 l7 l8 l12 l13 l135;refine Qe l135 ?_ ?_
          ·intro hc2;refine Qa ?_;simp only[go_sem];refine Qk ?_;simp only[go_sem,X.next];exact retf false _ _ _ (by rw[hGd,Qaoq hlt (by rw[hph,hc2];rfl)];simp) kn (by simp[lk])
          ·intro hc2;refine Qi ?_;simp only[go_sem];refine Qt ?_;simp only[go_sem,X.next,l2,l7,l8,l12,l13];exact⟨Qr (by omega) (by omega),y.phis.length-(i+1),by omega,i+1,rfl,by omega,by rw[Q97 hlt,hall3,hph,hc2];rfl,rfl⟩
         refine Qad ?_;simp only[go_sem,hx86,hx76,hlt,Qy,Qa7 _ _ hlt,PhiD.cells,Qc];refine⟨fun hb1=>?_,fun hb1=>?_⟩
         ·refine Qa63 (by omega) (by omega) ?_;simp only[go_sem,Qnk,hx86,hx76,hlt,Qy,Qa7 _ _ hlt,PhiD.cells];refine⟨fun _=>Qr (by omega) (by omega),?_⟩;refine⟨fun hb2=>?_,fun hb2=>?_⟩
          ·refine Qds ?_;simp only[go_sem,Qg9];refine fin _ _ ?_ (by simp[lk]) (by simp[lk]) (by simp[lk]) (by simp[lk]) (by simp[lk]) (by simp[lk];rfl);simp[phiG,←hnp]
          ·replace hb2:=Qgc hb2;simp only[go_sem,Qg9,hb2];refine fin true _ ?_ (by simp[lk]) (by simp[lk]) (by simp[lk]) (by simp[lk]) (by simp[lk]) (by simp[lk]);subst hnp;simp at hb2;simp[phiG];intro h1 h2 h3;simp[h1,h2,h3]at hb2
         ·replace hb1:=Qgc hb1;simp only[go_sem,Qnk,Qg9,hb1,hx86,hx76,hlt,Qy,Qa7 _ _ hlt,PhiD.cells];refine fin true _ ?_ (by simp[lk]) (by simp[lk]) (by simp[lk]) (by simp[lk]) (by simp[lk]) (by simp[lk]);subst hnp;simp at hb1;simp[phiG];intro h1 h2 h3;simp[h1,h2]at hb1
        ·intro hc;have hge:y.phis.length≤i:=(by simpa using hc);rw[Jd hge]at hall3;refine Qv ?_;simp only[go_sem,X.next];refine Qa ?_;simp only[go_sem];refine Qk ?_;exact retf true _ _ _ (by rw[hGd,hn2,hall1,hall2,hall3];rfl) kn (by simp[lk])
  refine⟨fun hb1=>?_,fun hb1=>?_⟩
  ·refine Qds ?_;simp only[go_sem,Qjq,hb1,l1,l2,l3,l7,l8];refine rest8 _ _ ?_ (by simp[lk]) (by simp[lk]) (by simp[lk]) (by simp[lk]) (by simp[lk]) (by simp[lk];rfl);by_cases hlw:(y.next.length:Int)=want
   ·by_cases hj:y.jump=1
    ·simp[hlw,hj]at hb1
    ·simp[Qmv,hw,hlw,hj]
   ·simp[hlw]at hb1
  ·by_cases hlw:(y.next.length:Int)=want
   ·by_cases hj:y.jump=1
    ·simp only[go_sem,Qjq,hlw,hj,l1,l2,l3,l7,l8,decide_true,decide_false,cond_true,cond_false];have hw1:Qky 1=want:=(by rw[←hj];exact hw);refine rest8 _ _ ?_ (by simp[lk]) (by simp[lk]) (by simp[lk]) (by simp[lk]) (by simp[lk]) (by simp[lk];rfl);simp[Qmv,hw1,hlw,hj,hjo hj]
    ·simp[hlw,hj]at hb1
   ·simp only[go_sem,Qjq,hlw,l1,l2,l3,l7,l8,decide_true,decide_false,cond_true,cond_false];by_cases hj:y.jump=1
    ·simp only[go_sem,hj,decide_true,decide_false,cond_true,cond_false];exact rest8 true _ (by simp[Qmv,hw,hlw]) (by simp[lk]) (by simp[lk]) (by simp[lk]) (by simp[lk]) (by simp[lk]) (by simp[lk])
    ·simp only[go_sem,hj,decide_true,decide_false,cond_true,cond_false];exact rest8 true _ (by simp[Qmv,hw,hlw]) (by simp[lk]) (by simp[lk]) (by simp[lk]) (by simp[lk]) (by simp[lk]) (by simp[lk])
 refine Qh (Qf ?_);refine Qa ?_;simp only[go_sem];refine Qe rfl ?_ ?_
 ·intro hc;refine Qa ?_;simp only[go_sem,hx84];refine Qe rfl ?_ ?_
  ·intro hc2;refine Qa ?_;simp only[go_sem];refine Qk ?_;simp only[go_sem];exact retf false _ _ _ (by simp at hc hc2;rw[hGd];simp[Qmv,hc,hc2]) kn (by simp[lk])
  ·intro hc2;refine Qi ?_;simp only[go_sem];exact rest31 1 _ (by simp at hc;simp[Qky,hc]) (fun _=>by simpa using hc2) (by simp[lk]) (by simp[lk]) (by simp[lk]) (by simp[lk]) (by simp[lk]) (by simp[lk])
 intro hc1;refine Qa ?_;simp only[go_sem];refine Qe rfl ?_ ?_
 ·intro hc;refine Qt ?_;simp only[go_sem];exact rest31 2 _ (by simp at hc;simp[Qky,hc]) (fun h=>by simp at hc1;exact absurd h hc1) (by simp[lk]) (by simp[lk]) (by simp[lk]) (by simp[lk]) (by simp[lk]) (by simp[lk])
 intro hc2;refine Qa ?_;simp only[go_sem];refine Qe rfl ?_ ?_
 ·intro hc;refine Qt ?_;simp only[go_sem];exact rest31 0 _ (by simp at hc;simp[Qky,hc]) (fun h=>by simp at hc1;exact absurd h hc1) (by simp[lk]) (by simp[lk]) (by simp[lk]) (by simp[lk]) (by simp[lk]) (by simp[lk])
 ·intro hc;refine Qa ?_;simp only[go_sem];refine Qk ?_;simp only[go_sem];exact retf false _ _ _ (by simp at hc1 hc2 hc;rw[hGd];simp[Qmv,Qky,hc1,hc2,hc]) kn (by simp[lk])
set_option maxHeartbeats 3000000 in
theorem Q0t {b:BlkD}(hb:b.sg)(hK:∀(o:OBlk) (H':Heap),Kn H H' [] o.lg→o.ok→o.d=b→(∀p∈o.phis,p.own)→K (.ag o.row) H'):Qo prog Qe9 [.ag b.cells] H K:=by
 have hbn:=hb.n;have hbi:=hb.i;have hbp:=hb.p;refine Qc7 ?_;refine Qd Qai Qapk ?_;refine Qa ?_;simp only[go_sem,BlkD.cells];intro x2 hx2 H1 h1;have kn:=(Kn.start0 H).al hx2 h1;refine Qad ?_;simp only[go_sem,Qc,Jq,Jf];refine⟨.inl trivial,Qn _,by simp only[LIM];omega,fun y hy H2 h2=>?_⟩;have kn:=kn.al hy h2;simp only[go_sem,Qou];intro x3 hx3 H3 h3;have kn:=kn.al hx3 h3;have hx33:=kn.l 2 rfl;simp only[go_sem,Qot,hx33];intro H4 h4;have kn:=kn.stL 2 rfl h4;obtain⟨nx,hnx⟩:∃nx:OInts,nx=⟨b.next,y⟩:=⟨_,rfl⟩;have hnc:C.vsl y 1 0 b.next.length=nx.c:=by rw[hnx];rfl
 have hnl:[(y,Obj.vec 1 (Qb b.next))]=nx.lg:=by rw[hnx];rfl
 rw[hnc]at kn;have kn:Kn H H4 [] ([(x2,.st [.sl true 2 [],.sl true 4 [],.int .i64 0,.int .i64 0,.sl true 1 []]),(x3,.st [.sl true 2 [],.sl true 4 [],.int .i64 b.jump,.int .i64 b.on,nx.c])]++nx.lg):=kn.perm (by
  rw[←hnl];exact .cons _ (.swap _ _ _))
 refine Q5 ?_;refine Qa ?_;simp only[go_sem];refine Qh (Qf (Qw (fun n e1 H1=>∃(i:Nat) (ps:List OPhi) (pc:C) (pl:List (Nat×Obj)),n=b.phis.length-i∧i≤b.phis.length∧ps.map OPhi.d=b.phis.take i∧(∀p∈ps,p.own)∧Gr pl 2 (ps.map OPhi.row) pc∧
  Kn H H1 [] (([(x2,.st [.sl true 2 [],.sl true 4 [],.int .i64 0,.int .i64 0,.sl true 1 []]),(x3,.st [pc,.sl true 4 [],.int .i64 b.jump,.int .i64 b.on,nx.c])]++(nx.lg++ps.flatMap OPhi.lg))++pl)∧
  e1=[(1,.c (.pp [.sl false 2 (Q2 b.phis),.sl false 4 (Qaw b.ins),.int .i64 b.jump,.int .i64 b.on,.sl false 1 (Qb b.next)])),(2,.c (.ptr x2 0)),(3,.c (.ptr x3 0)),(4,.c (.int .i64 i))]) b.phis.length ?_ ?_))
 ·exact⟨0,[],_,[],by omega,by omega,rfl,by simp,.nil 2,by simpa using kn,rfl⟩
 ·rintro n e1 H1 ⟨i,ps,pc,pl,hn1,hi,hpsd,hpsok,hgr,kn,rfl⟩;have hpsl:ps.length=i:=by have:=congrArg List.length hpsd;rw[Je,J3]at this;omega
  have hpcow:=hgr.isOw;refine Q5 ?_;refine Qa ?_;simp only[go_sem,Qy];intro hl;refine Qh (Qe rfl ?_ ?_)
  ·intro hc;have hlt:i<b.phis.length:=by simpa using hc
   have hpa:=hb.pa _ (Jc hlt);have hx31:=kn.l 1 rfl;refine Qi ?_;simp only[go_sem];refine Qh (Qf (Qbg ?_));simp only[go_sem,hx31,hpcow,hlt,Qy,Qa7 _ _ hlt,PhiD.cells,Qc,Jq,Jf];refine⟨.inl trivial,Qn _,by simp only[LIM];omega,fun a ha H5 h5=>?_⟩;have kn:=kn.al ha h5;have hx35:=kn.l 1 rfl;simp only[go_sem,Qow,hx35,hpcow,hlt,Qy,Qa7 _ _ hlt,PhiD.cells];obtain⟨o,ho⟩:∃o:OPhi,o=⟨b.phis[i].to,b.phis[i].args,.vsl a 1 0 b.phis[i].args.length,[(a,.vec 1 (Qb b.phis[i].args))]⟩:=⟨_,rfl⟩;have hoow:o.own:=by rw[ho];exact⟨a,rfl,rfl⟩
   have hook:o.ok:=.inl hoow;have hor:[C.int IntKind.i64 b.phis[i].to,C.vsl a 1 0 b.phis[i].args.length]=o.row:=by rw[ho];rfl
   have hol:[(a,Obj.vec 1 (Qb b.phis[i].args))]=o.lg:=by rw[ho]
   rw[hor];rw[hol]at kn;have kn:=kn.perm Qauk;refine kn.grow (new:=[o.row]) hgr (.mk' _ _ _ _) (by intro r hr;simp only[Ja]at hr;subst hr;exact o.noOw hook) (by simp only[Je,Jl,Jn,LIM];omega) fun z H6 kn=>?_;have kn:Kn H H6 [] (([(x2,.st [.sl true 2 [],.sl true 4 [],.int .i64 0,.int .i64 0,.sl true 1 []]),(x3,.st [pc,.sl true 4 [],.int .i64 b.jump,.int .i64 b.on,nx.c])]++(nx.lg++(ps++[o]).flatMap OPhi.lg))++[(z,.vec 2 ((ps++[o]).map OPhi.row))]):=by
    simpa[Js,Jj]using kn
   have hx36:=kn.l 1 rfl;simp only[go_sem,Qov,hx36];intro H7 h7;have kn:=kn.stL 1 rfl h7;refine Qt ?_;simp only[go_sem,X.next];simp only[LIM]at hl;refine⟨Qr (by omega) (by omega),b.phis.length-(i+1),by omega,i+1,ps++[o],_,_,rfl,by omega,by rw[Jv,hpsd,Jk hlt,ho];rfl,fun p hp=>?_,?_,kn,rfl⟩
   ·rcases Jm.1 hp with h|h
    ·exact hpsok p h
    ·simp only[Ja]at h;subst h;exact hoow
   ·exact .mk _ _ _ (by simp)
  ·intro hc;have hpsd':ps.map OPhi.d=b.phis:=by rw[hpsd,Jd (by simpa using hc)]
   refine Qv ?_;simp only[go_sem,X.next];refine Q5 ?_;refine Qa ?_;simp only[go_sem];refine Qh (Qf (Qw (fun n e1 H1=>∃(i:Nat) (is:List OIns) (ic:C) (il:List (Nat×Obj)),n=b.ins.length-i∧i≤b.ins.length∧is.map OIns.d=b.ins.take i∧(∀x∈is,x.a.ns.length≤1000000)∧Gr il 4 (is.map OIns.row) ic∧
    Kn H H1 [] (([(x2,.st [.sl true 2 [],.sl true 4 [],.int .i64 0,.int .i64 0,.sl true 1 []]),(x3,.st [pc,ic,.int .i64 b.jump,.int .i64 b.on,nx.c])]++(nx.lg++(ps.flatMap OPhi.lg++(pl++is.flatMap OIns.lg))))++il)∧
    e1=[(1,.c (.pp [.sl false 2 (Q2 b.phis),.sl false 4 (Qaw b.ins),.int .i64 b.jump,.int .i64 b.on,.sl false 1 (Qb b.next)])),(2,.c (.ptr x2 0)),(3,.c (.ptr x3 0)),(5,.c (.int .i64 i))]) b.ins.length ?_ ?_))
   ·exact⟨0,[],_,[],by omega,by omega,rfl,by simp,.nil 4,by simpa[Jj]using kn,rfl⟩
   ·rintro n e1 H1 ⟨i,is,ic,il,hn1,hi,hisd,hisa,hgi,kn,rfl⟩;have hisl:is.length=i:=(by have:=congrArg List.length hisd;rw[Je,J3]at this;omega);have hicow:=hgi.isOw;refine Q5 ?_;refine Qa ?_;simp only[go_sem,Qay];intro hl;refine Qh (Qe rfl ?_ ?_)
    ·intro hc;have hlt:i<b.ins.length:=(by simpa using hc);have hia:=hb.ia _ (Jc hlt);refine Qi ?_;simp only[go_sem];refine Qh (Qf ?_);refine Qa ?_;simp only[go_sem,hlt,Qay,Qey _ _ hlt,InsD.cells];intro x6 hx6 H5 h5;have kn:=kn.al hx6 h5;have kn:=kn.perm (Ji (l₁:=_) (l₂:=[(x6,_)]));have hx65:=kn.l 0 rfl;simp only[go_sem,Qox,hx65];intro H6 h6;have kn:=kn.stL 0 rfl h6;have hx66:=kn.l 0 rfl;have hx36:=kn.l 2 rfl;refine Qbg ?_;simp only[go_sem,hx66,hx36,hicow,Qc,Jq,Jf];refine⟨.inl trivial,Qn _,by simp only[LIM];omega,fun a ha H7 h7=>?_⟩;have kn:=kn.al ha h7;have hx67:=kn.l 0 rfl;have hx37:=kn.l 2 rfl;simp only[go_sem,Qoz,hx67,hx37,hicow];obtain⟨o,ho⟩:∃o:OIns,o=⟨b.ins[i].op,b.ins[i].to,⟨b.ins[i].args,a⟩,b.ins[i].n⟩:=⟨_,rfl⟩;have hor:[C.int IntKind.i64 b.ins[i].op,C.int IntKind.i64 b.ins[i].to,C.vsl a 1 0 b.ins[i].args.length,C.int IntKind.i64 b.ins[i].n]=o.row:=(by rw[ho];rfl);have hol:[(a,Obj.vec 1 (Qb b.ins[i].args))]=o.lg:=(by rw[ho];rfl);rw[hor];rw[hol]at kn;have kn:Kn H H7 [] ((([(x2,.st [.sl true 2 [],.sl true 4 [],.int .i64 0,.int .i64 0,.sl true 1 []]),(x3,.st [pc,ic,.int .i64 b.jump,.int .i64 b.on,nx.c])]++(nx.lg++(ps.flatMap OPhi.lg++(pl++is.flatMap OIns.lg))))++il)++o.lg):=by
      have kn:=kn.perm (Ji (l₁:=[(x6,_)]) (l₂:=_));exact kn.drop
     have kn:=kn.perm Qauk;refine kn.grow (new:=[o.row]) hgi (.mk' _ _ _ _) (by simp[o.noOw]) (by simp only[Je,Jl,Jn,LIM];omega) fun z H8 kn=>?_;have kn:Kn H H8 [] (([(x2,.st [.sl true 2 [],.sl true 4 [],.int .i64 0,.int .i64 0,.sl true 1 []]),(x3,.st [pc,ic,.int .i64 b.jump,.int .i64 b.on,nx.c])]++(nx.lg++(ps.flatMap OPhi.lg++(pl++(is++[o]).flatMap OIns.lg))))++[(z,.vec 4 ((is++[o]).map OIns.row))]):=by
      simpa[Js,Jj]using kn
     have hx38:=kn.l 1 rfl;simp only[go_sem,Qoy,hx38];intro H9 h9;have kn:=kn.stL 1 rfl h9;refine Qt ?_;simp only[go_sem,X.next];simp only[LIM]at hl;refine⟨Qr (by omega) (by omega),b.ins.length-(i+1),by omega,i+1,is++[o],_,_,rfl,by omega,by rw[Jv,hisd,Jk hlt,ho];rfl,fun x hx=>?_,?_,kn,rfl⟩
     ·rcases Jm.1 hx with hx|hx
      ·exact hisa x hx
      ·simp only[Ja]at hx;rw[hx,ho];exact hia
     ·exact .mk _ _ _ (by simp)
    ·intro hc;have hisd':is.map OIns.d=b.ins:=(by rw[hisd,Jd (by simpa using hc)]);have hx21:=kn.l 0 rfl;have hx31:=kn.l 1 rfl;refine Qv ?_;simp only[go_sem,X.next];have hnow:nx.c.isOw=false:=rfl;refine Qa ?_;simp only[go_sem,hx21,hx31,hpcow,hicow,hnow];intro H5 h5;have kn:=kn.stL 0 rfl h5;have hx25:=kn.l 0 rfl;refine Qk ?_;simp only[go_sem,Qz,Q8,Q1e,reduceIte,Ja,forall_eq,RS.op,hx25,hpcow,hicow,hnow];obtain⟨o,ho⟩:∃o:OBlk,o=⟨ps,pc,pl,is,ic,il,b.jump,b.on,nx⟩:=⟨_,rfl⟩;have hok:o.ok:=(by rw[ho];exact⟨hgr,hgi,fun p hp=>.inl (hpsok p hp)⟩);have hod:o.d=b:=by
      rw[ho];show BlkD.mk (ps.map OPhi.d) (is.map OIns.d) b.jump b.on nx.ns=b;rw[hpsd',hisd',hnx]
     have kn:Kn H H5 [] ([(x2,.st [pc,ic,.int .i64 b.jump,.int .i64 b.on,nx.c]),(x3,.st [pc,ic,.int .i64 b.jump,.int .i64 b.on,nx.c])]++o.lg):=by
      rw[ho];simpa[OBlk.lg,Jj]using kn
     refine⟨unx H o.lg,.ag o.row,H5.frz (unx H o.lg),?_,Qd5 _ _,hK o _ kn.finK hok hod (by rw[ho];exact hpsok)⟩;rw[ho];exact FrzL.ag (.cons (.same _ hpcow) (.cons (.same _ hicow) (.cons (Qg rfl) (.cons (Qg rfl) (.cons (.same _ hnow) .nil)))))
theorem BlkD.take5 (x:BlkD):x.cells.take 5=x.cells:=rfl
theorem BlkD.allOw (x:BlkD):(x.cells.all fun c=>!c.isOw)=true:=rfl
theorem BlkD.len5 (x:BlkD):x.cells.length=5:=rfl
theorem CodeD.take3 (x:CodeD):x.cells.take 3=x.cells:=rfl
theorem CodeD.allOw (x:CodeD):(x.cells.all fun c=>!c.isOw)=true:=rfl
theorem CodeD.len3 (x:CodeD):x.cells.length=3:=rfl
theorem OBlk.len5 (x:OBlk):x.row.length=5:=rfl
theorem OCode.len3 (x:OCode):x.row.length=3:=rfl
set_option maxHeartbeats 2000000 in
theorem Qbi5 {q:CodeD}(hq:q.sg)(hK:∀(o:OCode) (H':Heap),Kn H H' [] o.lg→o.ok→o.d=q→(∀b∈o.blocks,∀p∈b.phis,p.own)→K (.ag o.row) H'):Qo prog Q0p [.ag q.cells] H K:=by
 have hqb:=hq.b;refine Qc7 ?_;refine Qd Qai Qbjp ?_;refine Qa ?_;simp only[go_sem,CodeD.cells];intro x2 hx2 H1 h1;have kn:=(Kn.start0 H).al hx2 h1;refine Qa ?_;simp only[go_sem];intro x3 hx3 H2 h2;have kn:=kn.al hx3 h2;have hx32:=kn.l 1 rfl;simp only[go_sem,Qafk,hx32];intro H3 h3;have kn:=kn.stL 1 rfl h3;refine Q5 ?_;refine Qa ?_;simp only[go_sem];refine Qh (Qf (Qw (fun n e1 H1=>∃(i:Nat) (os:List OBlk) (bc:C) (bl:List (Nat×Obj)),n=q.blocks.length-i∧i≤q.blocks.length∧os.map OBlk.d=q.blocks.take i∧(∀o∈os,o.ok∧∀p∈o.phis,p.own)∧Gr bl 5 (os.map OBlk.row) bc∧
  Kn H H1 [] (([(x2,.st [.int .i64 0,.int .i64 0,.sl true 5 []]),(x3,.st [.int .i64 q.params,.int .i64 q.regs,bc])]++os.flatMap OBlk.lg)++bl)∧
  e1=[(1,.c (.pp [.int .i64 q.params,.int .i64 q.regs,.sl false 5 (Qs q.blocks)])),(2,.c (.ptr x2 0)),(3,.c (.ptr x3 0)),(4,.c (.int .i64 i))]) q.blocks.length ?_ ?_))
 ·exact⟨0,[],_,[],by omega,by omega,rfl,by simp,.nil 5,by simpa using kn,rfl⟩
 ·rintro n e1 H1 ⟨i,os,bc,bl,hn1,hi,hod,hok,hgr,kn,rfl⟩;have hol:os.length=i:=by have:=congrArg List.length hod;rw[Je,J3]at this;omega
  have hbow:=hgr.isOw;have hx31:=kn.l 1 rfl;refine Q5 ?_;refine Qa ?_;simp only[go_sem,Qp];intro hl;simp only[LIM]at hl;refine Qh (Qe rfl ?_ ?_)
  ·intro hc;have hlt:i<q.blocks.length:=by simpa using hc
   refine Qi ?_;simp only[go_sem];refine Qh (Qf (Qbg ?_));simp only[go_sem,hx31,hbow,hlt,Qp,Qa6 _ _ hlt,BlkD.take5,BlkD.allOw,BlkD.len5];refine Q0t (hq.bs _ (Jc hlt)) fun o H4 k2 hoo hbd hoow=>?_;have kn:=kn.comp0 k2;have hx34:=kn.l 1 rfl;simp only[go_sem,Qafm,hx34,hbow,o.len5];have kn:=kn.perm Qauk;refine kn.grow (new:=[o.row]) hgr (.mk' _ _ _ _) (by intro r hr;simp only[Ja]at hr;subst hr;exact o.noOw hoo) (by simp only[Je,Jl,Jn,LIM];omega) fun z H5 kn=>?_;have kn:Kn H H5 [] (([(x2,.st [.int .i64 0,.int .i64 0,.sl true 5 []]),(x3,.st [.int .i64 q.params,.int .i64 q.regs,bc])]++(os++[o]).flatMap OBlk.lg)++[(z,.vec 5 ((os++[o]).map OBlk.row))]):=by
    simpa[Js,Jj]using kn
   have hx35:=kn.l 1 rfl;simp only[go_sem,Qafl,hx35];intro H6 h6;have kn:=kn.stL 1 rfl h6;refine Qt ?_;simp only[go_sem,X.next];refine⟨Qr (by omega) (by omega),q.blocks.length-(i+1),by omega,i+1,os++[o],_,_,rfl,by omega,by rw[Jv,hod,Jk hlt,Jaj,Jak,hbd],fun o' ho'=>?_,.mk _ _ _ (by simp),kn,rfl⟩;rcases Jm.1 ho' with h|h
   ·exact hok o' h
   ·simp at h;subst h;exact⟨hoo,hoow⟩
  ·intro hc;have hge:q.blocks.length≤i:=by simpa using hc
   have hx21:=kn.l 0 rfl;refine Qv ?_;simp only[go_sem,X.next];refine Qa ?_;simp only[go_sem,hx31,hx21,hbow];intro H4 h4;have kn:=kn.stL 0 rfl h4;have hx24:=kn.l 0 rfl;refine Qk ?_;simp only[go_sem,Qz,Q8,Qa7m,reduceIte,Ja,forall_eq,RS.op,hx24,hbow];obtain⟨o,ho⟩:∃o:OCode,o=⟨q.params,q.regs,os,bc,bl⟩:=⟨_,rfl⟩;have hod:o.d=q:=by
    rw[ho];show CodeD.mk q.params q.regs (os.map OBlk.d)=q;rw[hod,Jd hge]
   have how':∀b∈o.blocks,∀p∈b.phis,p.own:=by rw[ho];exact fun b hb=>(hok b hb).2
   have hok:o.ok:=by rw[ho];exact⟨hgr,fun b hb=>(hok b hb).1⟩
   have kn:Kn H H4 [] ([(x2,.st [.int .i64 q.params,.int .i64 q.regs,bc]),(x3,.st [.int .i64 q.params,.int .i64 q.regs,bc])]++o.lg):=by
    rw[ho];simpa[OCode.lg,Jj]using kn
   refine⟨unx H o.lg,.ag o.row,H4.frz (unx H o.lg),?_,Qd5 _ _,hK o _ kn.finK hok hod how'⟩;rw[ho];exact FrzL.ag (.cons (Qg rfl) (.cons (Qg rfl) (.cons (.same _ hbow) .nil)))
theorem Qbi4 {q:CodeD}(hq:q.sm)(hK:∀(o:OCode) (H':Heap),Kn H H' [] o.lg→o.ok→o.d=q→o.sm 1000→K (.ag o.row) H'):Qo prog Q0p [.ag q.cells] H K:=
 Qbi5 hq.sg fun o H' k1 k2 k3 _=>hK o H' k1 k2 k3 (by rw[←k3]at hq;exact hq.o)
set_option maxHeartbeats 2000000 in
theorem Qato {cs:List CodeD}{fl:Bool}(hs:∀c∈cs,c.sm)(hl:cs.length≤1000000)
  (hK:∀(us:List OCode) (cc:C) (cl:List (Nat×Obj)) (H':Heap),Kn H H' [] (us.flatMap OCode.lg++cl)→Gr cl 3 (us.map OCode.row) cc→(∀u∈us,u.ok∧u.sm 1000)→us.length=cs.length→K (.ag [cc]) H') :
  Qo prog Qml [.ag [.sl fl 3 (Ql cs)]] H K:=by
 refine Qc7 ?_;refine Qd Qai Qat6 ?_;refine Qa ?_;simp only[go_sem];intro x2 hx2 H1 h1;have kn:=(Kn.start0 H).al hx2 h1;refine Qa ?_;simp only[go_sem];intro x3 hx3 H2 h2;have kn:=kn.al hx3 h2;have hx32:=kn.l 1 rfl;simp only[go_sem,Quv,hx32];intro H3 h3;have kn:=kn.stL 1 rfl h3;refine Q5 ?_;refine Qa ?_;simp only[go_sem];refine Qh (Qf (Qw (fun n e1 H1=>∃(i:Nat) (os:List OCode) (bc:C) (bl:List (Nat×Obj)),n=cs.length-i∧i≤cs.length∧os.length=i∧(∀o∈os,o.ok∧o.sm 1000)∧Gr bl 3 (os.map OCode.row) bc∧
  Kn H H1 [] (([(x2,.st [.sl true 3 []]),(x3,.st [bc])]++os.flatMap OCode.lg)++bl)∧
  e1=[(1,.c (.pp [.sl fl 3 (Ql cs)])),(2,.c (.ptr x2 0)),(3,.c (.ptr x3 0)),(4,.c (.int .i64 i))]) cs.length ?_ ?_))
 ·exact⟨0,[],_,[],by omega,by omega,rfl,by simp,.nil 3,by simpa using kn,rfl⟩
 ·rintro n e1 H1 ⟨i,os,bc,bl,hn1,hi,hol,hok,hgr,kn,rfl⟩;have hbow:=hgr.isOw;have hx31:=kn.l 1 rfl;refine Q5 ?_;refine Qa ?_;simp only[go_sem,Q3];intro _;refine Qh (Qe rfl ?_ ?_)
  ·intro hc;have hlt:i<cs.length:=by simpa using hc
   refine Qi ?_;simp only[go_sem];refine Qh (Qf (Qbg ?_));simp only[go_sem,hx31,hbow,hlt,Q3,Qal _ _ hlt,CodeD.take3,CodeD.allOw,CodeD.len3];refine Qbi4 (hs _ (Jc hlt)) fun o H4 k2 hoo _ hob=>?_;have kn:=kn.comp0 k2;have hx34:=kn.l 1 rfl;simp only[go_sem,Qux,hx34,hbow,o.len3];have kn:=kn.perm Qauk;refine kn.grow (new:=[o.row]) hgr (.mk' _ _ _ _) (by intro r hr;simp only[Ja]at hr;subst hr;exact o.noOw hoo) (by simp only[Je,Jl,Jn,LIM];omega) fun z H5 kn=>?_;have kn:Kn H H5 [] (([(x2,.st [.sl true 3 []]),(x3,.st [bc])]++(os++[o]).flatMap OCode.lg)++[(z,.vec 3 ((os++[o]).map OCode.row))]):=by
    simpa[Js,Jj]using kn
   have hx35:=kn.l 1 rfl;simp only[go_sem,Quw,hx35];intro H6 h6;have kn:=kn.stL 1 rfl h6;refine Qt ?_;simp only[go_sem,X.next];refine⟨Qr (by omega) (by omega),cs.length-(i+1),by omega,i+1,os++[o],_,_,rfl,by omega,by simp[hol],fun o' ho'=>?_,.mk _ _ _ (by simp),kn,rfl⟩;rcases Jm.1 ho' with h|h
   ·exact hok o' h
   ·simp at h;subst h;exact⟨hoo,hob⟩
  ·intro hc;have hge:cs.length≤i:=by simpa using hc
   have hx21:=kn.l 0 rfl;refine Qv ?_;simp only[go_sem,X.next];refine Qa ?_;simp only[go_sem,hx31,hx21,hbow];intro H4 h4;have kn:=kn.stL 0 rfl h4;have hx24:=kn.l 0 rfl;refine Qk ?_;simp only[go_sem,Qz,Q8,Q5f,reduceIte,Ja,forall_eq,RS.op,hx24,hbow];have kn:Kn H H4 [] ([(x2,.st [bc]),(x3,.st [bc])]++(os.flatMap OCode.lg++bl)):=by
    simpa[Jj]using kn
   exact⟨unx H _,.ag [bc],H4.frz (unx H _),FrzL.ag (.cons (.same _ hbow) .nil),Qd5 _ _,hK os bc bl _ kn.finK hgr hok (by omega)⟩
structure CRd (H:Heap)(R:Rdr)(cc:C)(rows:List (List C)):Prop where
 s:Slc H 3 rows cc
 ow:cc.isOw=false
 ne:∀l a c d,cc=.vsl l a c d→l≠R.l
 r:∀i,i<rows.length→∃(p:Int) (c1 c2:C),rows.getD i []=[.int .i64 p,c1,c2]∧0≤p∧p≤3
theorem CRd.keep {R:Rdr}{cc:C}{rows:List (List C)}{o:Obj}{H':Heap}{L:List (Nat×Obj)}(h:CRd H R cc rows)(kn:Kn H H' [(R.l,o)] L):CRd H' R cc rows:=
 ⟨h.s.keep kn (fun l a c d hh=>by simpa using h.ne l a c d hh),h.ow,h.ne,h.r⟩
theorem Qbd4 {R:Rdr}{k b n:Nat}(hH:H R.l=R.o k)(hk:k+2≤2^40)(hb:b≤1000)(hn:n≤1000)
  (hK:∀(v:Int) (H':Heap) (k':Nat),k<k'→k'≤k+2→Upd H H' [(R.l,R.o k')]→K (.c (.int .i64 v)) H') :
  Qo prog Qaa4 [.c (.ptr R.l 0),.c (.int .i64 b),.c (.int .i64 n)] H K:=by
 refine Qu ?_;refine Qd Qai Qbqi ?_;have kn:=Kn.start1 hH (R.o_ne k);refine Qa ?_;simp only[go_sem];refine Q5 ?_;refine Qa ?_;simp only[go_sem];refine⟨Qr (by omega) (by omega),?_⟩;have rest:∀(v:Bool) (H2:Heap) (k2:Nat),k≤k2→k2≤k+1→Kn H H2 [(R.l,R.o k2)] []→
   Qae prog (s_l7To_2.seq Qa7r) (Qz Qa7n (unK H K)) [(0,.c (.ptr R.l 0)),(1,.c (.int .i64 b)),(2,.c (.int .i64 n)),(15,.c (.bool v))] H2:=by
  intro v H2 k2 hk1 hk2 kn;have pv:∀m v:Int,m≤1000→(if m<1 then v=0 else 0≤v∧v<m)→0≤v∧v≤1000:=by
   intro m v hm hv;split at hv <;> omega
  refine Qh (Qe rfl ?_ ?_)
  ·intro hc;refine Qa ?_;simp only[go_sem];refine⟨Qr (by omega) (by omega),Qr (by omega) (by omega),Qr (by omega) (by omega),?_⟩;refine Qba (kn.e 0 rfl) (by omega) fun v H3 hv hu=>?_;have kn:=kn.callE 0 rfl hu (R.o_ne _);have hv:=pv _ _ (by omega) hv;simp only[go_sem,Qayf];refine⟨Qr (by omega) (by omega),?_⟩;refine Qk ?_;simp only[go_sem,Qz,Q8,Qa7n,reduceIte,Ja,forall_eq,RS.op];exact⟨_,.c _ _ (Qg rfl),hK _ _ (k2+1) (by omega) (by omega) kn.fin⟩
  ·intro hc;refine Qi ?_;simp only[go_sem];refine Qa ?_;simp only[go_sem];refine⟨Qr (by omega) (by omega),?_⟩;refine Qba (kn.e 0 rfl) (by omega) fun v H3 hv hu=>?_;have kn:=kn.callE 0 rfl hu (R.o_ne _);have hv:=pv _ _ (by omega) hv;simp only[go_sem,Qayg];refine⟨Qr (by omega) (by omega),?_⟩;refine Qk ?_;simp only[go_sem,Qz,Q8,Qa7n,reduceIte,Ja,forall_eq,RS.op];exact⟨_,.c _ _ (Qg rfl),hK _ _ (k2+1) (by omega) (by omega) kn.fin⟩
 refine⟨fun hb1=>?_,fun hb1=>?_⟩
 ·refine Qba (kn.e 0 rfl) (by omega) fun v H3 hv hu=>?_;have kn:=kn.callE 0 rfl hu (R.o_ne _);simp only[go_sem,Qaf4,hb1];exact rest _ _ (k+1) (by omega) (by omega) kn
 ·simp only[go_sem,Qaf4,hb1];exact rest _ _ k (by omega) (by omega) kn
set_option maxHeartbeats 2000000 in
theorem Qbi6 {R:Rdr}{k:Nat}{cc:C}{rows:List (List C)}{regs:Int}(hH:H R.l=R.o k)(hk:k+9≤2^40)(hc:CRd H R cc rows)
  (hK:∀(x:InsD) (H':Heap) (k':Nat),k<k'→k'≤k+9→Upd H H' [(R.l,R.o k')]→x.args.length≤3→K (.ag x.cells) H') :
  Qo prog Qaa3 [.c (.ptr R.l 0),.ag [cc],.c (.int .i64 regs)] H K:=by
 refine Qu ?_;refine Qd Qai Qbjr ?_;have how:=hc.ow;have hlen:=hc.s.len;have hesz:=hc.s.sz;refine Qa ?_;simp only[go_sem,how];intro x6 hx6 H1 h1;have kn:=(Kn.start1 hH (R.o_ne k)).al hx6 h1;refine Qa ?_;simp only[go_sem];refine Qkz (ns:=[1,1,2,3,4,5,8,9,10,13,3,6,7,11,12,14]) (kn.e 0 rfl) (by omega) (by simp) fun op H2 hop hu=>?_;have kn:=kn.callE 0 rfl hu (R.o_ne _);simp only[go_sem,Qafz];refine Qa ?_;simp only[go_sem];refine Qba (kn.e 0 rfl) (by omega) fun to H3 hto hu=>?_;have kn:=kn.callE 0 rfl hu (R.o_ne _);simp only[go_sem,Qaf0,Qz9];intro x8 hx8 H4 h4;have kn:=kn.al hx8 h4;have hx84:=kn.l 1 rfl;simp only[go_sem,Qz9,hx84];intro H5 h5;have kn:=kn.stL 1 rfl h5;refine Qa ?_;simp only[go_sem];refine Qbd2 fun many hm1 hm2=>?_;simp only[go_sem,Qaf1];have args:∀(many:Int) (to n:Int) (H6:Heap) (k6:Nat),many≤3→k<k6→k6≤k+4→Kn H H6 [(R.l,R.o k6)] [(x6,.st [.int .i64 0,.int .i64 0,.sl true 1 [],.int .i64 0]),(x8,.st [.int .i64 op,.int .i64 to,.sl true 1 [],.int .i64 n])]→
   Qae prog Qafw (Qz Qv6 (unK H K)) [(0,.c (.ptr R.l 0)),(2,.c (.int .i64 regs)),(6,.c (.ptr x6 0)),(8,.c (.ptr x8 0)),(9,.c (.int .i64 many))] H6:=by
  intro many to n H6 k6 hmany hk1 hk2 kn;refine Q5 ?_;refine Qa ?_;simp only[go_sem];refine Qh (Qf (Qw (fun m e1 H1=>∃(i:Nat) (ns:List Int) (ac:C) (al:List (Nat×Obj)),m=3-i∧i≤3∧ns.length=i∧Gr al 1 (Qb ns) ac∧
   Kn H H1 [(R.l,R.o (k6+i))] ([(x6,.st [.int .i64 0,.int .i64 0,.sl true 1 [],.int .i64 0]),(x8,.st [.int .i64 op,.int .i64 to,ac,.int .i64 n])]++al)∧
   e1=[(0,.c (.ptr R.l 0)),(2,.c (.int .i64 regs)),(6,.c (.ptr x6 0)),(8,.c (.ptr x8 0)),(9,.c (.int .i64 many)),(10,.c (.int .i64 i))]) 3 ?_ ?_))
  ·exact⟨0,[],_,[],by omega,by omega,rfl,.nil 1,by simpa using kn,rfl⟩
  ·rintro m e1 H7 ⟨i,ns,ac,al,hm,hi,hns,hgr,kn,rfl⟩;have hacow:=hgr.isOw;have hx8:=kn.l 1 rfl;refine Q5 ?_;refine Qa ?_;simp only[go_sem];refine Qh (Qe rfl ?_ ?_)
   ·intro hc;have hlt:(i:Int)<many:=(by simpa using hc);refine Qi ?_;simp only[go_sem];refine Qh (Qf ?_);refine Qbg ?_;simp only[go_sem,hx8,hacow];refine Qba (kn.e 0 rfl) (by omega) fun v H8 hv hu=>?_;have kn:=kn.callE 0 rfl hu (R.o_ne _);have hx8:=kn.l 1 rfl;simp only[go_sem,Q7g,hx8,hacow];refine kn.grow (new:=Qb [v]) hgr (.mk' _ _ _ _) (Qn _) (by simp only[Qc,LIM,Jl,Jn];omega) fun y H9 kn=>?_;have hx8:=kn.l 1 rfl;simp only[go_sem,Q7f,hx8];intro H10 h10;have kn:=kn.stL 1 rfl h10;refine Qt ?_;simp only[go_sem,X.next];refine⟨Qr (by omega) (by omega),3-(i+1),by omega,i+1,ns++[v],_,_,rfl,by omega,by simp[hns],?_,kn,rfl⟩;rw[←Qbc];exact .mk _ _ _ (by simp[Qbc,Qc])
   ·intro hc;refine Qv ?_;simp only[go_sem,X.next];have hx6:=kn.l 0 rfl;refine Qa ?_;simp only[go_sem,hx8,hx6,hacow];intro H8 h8;have kn:Kn H H8 [(R.l,R.o (k6+i))] ([(x6,.st [.int .i64 op,.int .i64 to,ac,.int .i64 n]),(x8,.st [.int .i64 op,.int .i64 to,ac,.int .i64 n])]++al):=kn.stL 0 rfl h8;have hx6:=kn.l 0 rfl;refine Qk ?_;simp only[go_sem,Qz,Q8,Qv6,reduceIte,Ja,forall_eq,RS.op,hx6,hacow];exact⟨.ag (InsD.mk op to ns n).cells,FrzL.ag (.cons (Qg rfl) (.cons (Qg rfl) (.cons (hgr.frz kn (Qn _)) (.cons (Qg rfl) .nil)))),hK ⟨op,to,ns,n⟩ _ (k6+i) (by omega) (by omega) kn.fin (by show ns.length≤3;omega)⟩
 have rest:∀(many n:Int) (H6:Heap) (k6:Nat) (E1:Env),lk 0 E1=.c (.ptr R.l 0)→lk 2 E1=.c (.int .i64 regs)→lk 6 E1=.c (.ptr x6 0)→lk 7 E1=.c (.int .i64 op)→lk 8 E1=.c (.ptr x8 0)→lk 9 E1=.c (.int .i64 many)→many≤3→k<k6→k6≤k+3→Kn H H6 [(R.l,R.o k6)] [(x6,.st [.int .i64 0,.int .i64 0,.sl true 1 [],.int .i64 0]),(x8,.st [.int .i64 op,.int .i64 to,.sl true 1 [],.int .i64 n])]→
   Qae prog Qafy (Qz Qv6 (unK H K)) E1 H6:=by
  intro many n H6 k6 E1 l0 l2 l6 l7 l8 l9 hmany hk1 hk2 kn;have rest2:∀(n:Int) (H6:Heap) (k6:Nat) (E1:Env),lk 0 E1=.c (.ptr R.l 0)→lk 2 E1=.c (.int .i64 regs)→lk 6 E1=.c (.ptr x6 0)→lk 7 E1=.c (.int .i64 op)→lk 8 E1=.c (.ptr x8 0)→lk 9 E1=.c (.int .i64 many)→k<k6→k6≤k+4→Kn H H6 [(R.l,R.o k6)] [(x6,.st [.int .i64 0,.int .i64 0,.sl true 1 [],.int .i64 0]),(x8,.st [.int .i64 op,.int .i64 to,.sl true 1 [],.int .i64 n])]→
    Qae prog Qafx (Qz Qv6 (unK H K)) E1 H6:=by
   intro n H6 k6 E1 l0 l2 l6 l7 l8 l9 hk1 hk2 kn;refine Q5 ?_;refine Qa ?_;simp only[go_sem];simp only[l7,true_and];refine Qabc ?_;simp only[go_sem,Q7e,l0,l2,l6,l7,l8,l9];refine Qh (Qe rfl ?_ ?_)
   ·intro hc;have hx8:=kn.l 1 rfl;refine Qt ?_;simp only[go_sem,hx8];intro H7 h7;have kn:=kn.stL 1 rfl h7;exact args many (-1) n H7 k6 hmany hk1 hk2 kn
   ·intro hc;refine Qi ?_;simp only[go_sem];exact args many to n H6 k6 hmany hk1 hk2 kn
  refine Q5 ?_;refine Qa ?_;simp only[go_sem,l0,l2,l6,l7,l8,l9];refine Qh (Qe rfl ?_ ?_)
  ·intro hc;refine Qt ?_;simp only[go_sem];refine Qkz (ns:=[0,1,2,3,15,16,255]) (kn.e 0 rfl) (by omega) (by simp) fun n2 H7 hn2 hu=>?_;have kn:=kn.callE 0 rfl hu (R.o_ne _);have hx8:=kn.l 1 rfl;simp only[go_sem,Q7d,hx8];intro H8 h8;have kn:=kn.stL 1 rfl h8;exact rest2 n2 H8 (k6+1) _ (by simp[lk]) (by simp[lk]) (by simp[lk]) (by simp[lk]) (by simp[lk]) (by simp[lk]) (by omega) (by omega) kn
  ·intro hc;refine Qi ?_;simp only[go_sem];exact rest2 n H6 k6 _ (by simp[lk]) (by simp[lk]) (by simp[lk]) (by simp[lk]) (by simp[lk]) (by simp[lk]) (by omega) (by omega) kn
 refine Q5 ?_;refine Qa ?_;simp only[go_sem];refine Qh (Qe rfl ?_ ?_)
 ·intro hop14;have hc5:=hc.keep kn;have hok5:=eq_true hc5.s.ok;refine Q5 ?_;refine Qa ?_;simp only[go_sem,how,hlen,hok5];intro hl;refine Qh (Qe rfl ?_ ?_)
  ·intro h0;refine Qa ?_;simp only[go_sem];refine Qba (kn.e 0 rfl) (by omega) fun v H6 hv hu=>?_;have kn:=kn.callE 0 rfl hu (R.o_ne _);have hx6:=kn.l 0 rfl;simp only[go_sem,Qaf2,hx6];intro H7 h7;have kn:=kn.stL 0 rfl h7;have hx6:=kn.l 0 rfl;refine Qk ?_;simp only[go_sem,Qz,Q8,Qv6,reduceIte,Ja,forall_eq,RS.op,hx6];exact⟨.ag (InsD.mk 13 (-1) [v] 0).cells,FrzL.ag (.cons (Qg rfl) (.cons (Qg rfl) (.cons (FrzR.same (Qn [v])).sl (.cons (Qg rfl) .nil)))),hK ⟨13,-1,[v],0⟩ _ (k+3) (by omega) (by omega) kn.fin (by simp)⟩
  ·intro h0;have hpos:0<rows.length:=by
    have:¬rows.length=0:=(by simpa using h0);omega
   refine Qi ?_;simp only[go_sem];refine Qa ?_;simp only[go_sem,how,hlen,hok5];intro _;refine Qba (kn.e 0 rfl) (by omega) fun v H6 hv hu=>?_;have kn:=kn.callE 0 rfl hu (R.o_ne _);rw[if_neg (by omega)]at hv;obtain⟨i,rfl⟩:=Jo hv.1;have hi:i<rows.length:=by omega
   obtain⟨p,c1,c2,hrow,hp0,hp3⟩:=hc.r i hi;have hx8:=kn.l 1 rfl;simp only[go_sem,Qaf3,hx8];intro H7 h7;have kn:=kn.stL 1 rfl h7;have hx8:=kn.l 1 rfl;have hc7:=hc.keep kn;have hok7:=eq_true hc7.s.ok;have hrw7:=hc7.s.rows;refine Qt ?_;simp only[go_sem,how,hlen,hok7,hrw7,hesz,hx8,hi,hrow];exact rest p i H7 (k+3) _ (by simp[lk]) (by simp[lk]) (by simp[lk]) (by simp[lk]) (by simp[lk]) (by simp[lk]) (by omega) (by omega) (by omega) kn
 ·intro hop14;refine Qi ?_;simp only[go_sem];exact rest many 0 H5 (k+2) _ (by simp[lk]) (by simp[lk]) (by simp[lk]) (by simp[lk]) (by simp[lk]) (by simp[lk]) (by omega) (by omega) (by omega) kn
theorem Qboe {α:Type}{a M b c:List α}:(a++(M++b)++c).Perm (((M++c)++b)++a):=by
 refine Ji.trans ?_;refine (List.Perm.append_left _ (Ji (l₁:=a))).trans ?_;rw[←Jj];refine .append_right _ ?_;rw[←Jj];exact .append_right _ Ji
def EnvA (R:Rdr)(cc:C)(x4 x5 x8 n b:Nat)(e:Env):Prop:=
 lk 0 e=.c (.ptr R.l 0)∧lk 3 e=.c (.pp [cc])∧lk 4 e=.c (.ptr x4 0)∧lk 5 e=.c (.ptr x5 0)∧lk 6 e=.c (.int .i64 n)∧lk 7 e=.c (.int .i64 b)∧lk 8 e=.c (.ptr x8 0)
set_option maxHeartbeats 4000000 in
theorem Qbi3 {R:Rdr}{k:Nat}{cc:C}{rows:List (List C)}(hH:H R.l=R.o k)(hk:k+1000≤2^40)(hc:CRd H R cc rows)
  (hK:∀(o:UCode) (H':Heap) (k':Nat),k<k'→k'≤k+1000→Kn H H' [(R.l,R.o k')] o.lg→o.ok→o.sm 0→K (.ag o.row) H') :
  Qo prog Qaa2 [.c (.ptr R.l 0),.ag [cc]] H K:=by
 refine Qc7 ?_;refine Qd Qai Qbjo ?_;have how:=hc.ow;refine Qa ?_;simp only[go_sem,how];intro x4 hx4 H1 h1;have kn:=(Kn.start1 hH (R.o_ne k)).al hx4 h1;refine Qa ?_;simp only[go_sem];refine Qkz (ns:=[1,0,2,3]) (kn.e 0 rfl) (by omega) (by simp) fun p H2 hp hu=>?_;have kn:=kn.callE 0 rfl hu (R.o_ne _);have hp:0≤p∧p≤3:=by simp at hp;omega
 simp only[go_sem,Qafa];intro x5 hx5 H3 h3;have kn:=kn.al hx5 h3;have hx53:=kn.l 1 rfl;simp only[go_sem,Qae9,hx53];intro H4 h4;have kn:=kn.stL 1 rfl h4;have hx54:=kn.l 1 rfl;refine Qad ?_;simp only[go_sem,hx54];refine⟨Qr (by omega) (by omega),?_⟩;refine Qba (kn.e 0 rfl) (by omega) fun q H5 hq hu=>?_;have kn:=kn.callE 0 rfl hu (R.o_ne _);have hx55:=kn.l 1 rfl;rw[if_neg (by omega)]at hq;simp only[go_sem,Qafb,hx55];refine⟨Qr (by omega) (by omega),?_⟩;intro H6 h6;have kn:=kn.stL 1 rfl h6;obtain⟨rg,hrg⟩:∃rg,p+2+q=rg:=⟨_,rfl⟩;rw[hrg]at kn;refine Qa ?_;simp only[go_sem];refine Qkz (ns:=[3,5,2,1,7,4]) (kn.e 0 rfl) (by omega) (by simp) fun n0 H7 hn0 hu=>?_;have kn:=kn.callE 0 rfl hu (R.o_ne _);simp only[go_sem,Qafc];obtain⟨n,rfl,hn1,hn7⟩:∃n:Nat,n0=n∧1≤n∧n≤7:=⟨n0.toNat,by simp at hn0;omega⟩;refine Q5 ?_;refine Qa ?_;simp only[go_sem];refine Qh (Qf (Qw (fun m e1 H1=>∃(b k1:Nat) (bs:List UBlk) (bc:C) (bl:List (Nat×Obj)),m=n-b∧b≤n∧bs.length=b∧k<k1∧k1≤k+3+50 * b∧(∀o∈bs,o.ok∧o.sm 0)∧Gr bl 5 (bs.map UBlk.row) bc∧
  Kn H H1 [(R.l,R.o k1)] (([(x4,.st [.int .i64 0,.int .i64 0,.sl true 5 []]),(x5,.st [.int .i64 p,.int .i64 rg,bc])]++bs.flatMap UBlk.lg)++bl)∧
  e1=[(0,.c (.ptr R.l 0)),(3,.c (.pp [cc])),(4,.c (.ptr x4 0)),(5,.c (.ptr x5 0)),(6,.c (.int .i64 n)),(7,.c (.int .i64 b))]) n ?_ ?_))
 ·exact⟨0,k+1+1+1,[],_,[],by omega,by omega,rfl,by omega,by omega,by simp,.nil 5,by simpa using kn,rfl⟩
 ·rintro m e1 H8 ⟨b,k1,bs,bc,bl,hm,hb,hbs,hk1,hk2,hok,hgr,kn,rfl⟩;have hbow:=hgr.isOw;refine Q5 ?_;refine Qa ?_;simp only[go_sem];refine Qh (Qe rfl ?_ ?_)
  ·intro hc1;have hlt:b<n:=by simpa using hc1
   refine Qi ?_;simp only[go_sem];refine Qh (Qf ?_);refine Qa ?_;simp only[go_sem];intro x8 hx8 H9 h9;have kn:=kn.al hx8 h9;have kn:=kn.perm Ji;have hx89:=kn.l 0 rfl;simp only[go_sem,Qafd,hx89];intro H10 h10;have kn:=kn.stL 0 rfl h10;refine Q5 ?_;refine Qa ?_;simp only[go_sem];refine Qkz (ns:=[1,2,0,3,4]) (kn.e 0 rfl) (by omega) (by simp) fun i0 H11 hi0 hu=>?_;have kn:=kn.callE 0 rfl hu (R.o_ne _);simp only[go_sem,Qafe];obtain⟨i,rfl,hi4⟩:∃i:Nat,i0=i∧i≤4:=⟨i0.toNat,by simp at hi0;omega⟩;refine Qh (Qf (Qw (fun m e1 H1=>∃(t k2:Nat) (ds:List InsD) (ic:C) (il:List (Nat×Obj)),m=t∧t+ds.length=i∧k1<k2∧k2≤k1+1+9 * ds.length∧(∀d∈ds,d.args.length≤3)∧Gr il 4 (Qaw ds) ic∧
    Kn H H1 [(R.l,R.o k2)] (([(x8,.st [.sl true 2 [],ic,.int .i64 0,.int .i64 0,.sl true 1 []])]++(([(x4,.st [.int .i64 0,.int .i64 0,.sl true 5 []]),(x5,.st [.int .i64 p,.int .i64 rg,bc])]++bs.flatMap UBlk.lg)++bl))++il)∧
    e1=[(0,.c (.ptr R.l 0)),(3,.c (.pp [cc])),(4,.c (.ptr x4 0)),(5,.c (.ptr x5 0)),(6,.c (.int .i64 n)),(7,.c (.int .i64 b)),(8,.c (.ptr x8 0)),(9,.c (.int .i64 t))]) i ?_ ?_))
   ·refine⟨i,k1+1,[],_,[],rfl,rfl,by omega,by simp,by simp,.nil 4,by simpa using kn,rfl⟩
   ·rintro m2 e1 H12 ⟨t,k2,ds,ic,il,hm2,ht,hk3,hk4,hds,hgi,kn,rfl⟩;have hicow:=hgi.isOw;have hx8:=kn.l 0 rfl;have hx5:=kn.l 2 rfl;refine Q5 ?_;refine Qa ?_;simp only[go_sem];refine Qh (Qe rfl ?_ ?_)
    ·intro hc2;have ht0:0<t:=(by simpa using hc2);refine Qi ?_;simp only[go_sem];refine Qh (Qf ?_);refine Qbg ?_;simp only[go_sem,hx8,hx5,hicow,hbow,how];refine Qbi6 (kn.e 0 rfl) (by omega) (hc.keep kn) fun d H13 k3 hk5 hk6 hu hd=>?_;have kn:=kn.callE 0 rfl hu (R.o_ne _);have hx8:=kn.l 0 rfl;simp only[go_sem,Qafg,hx8,hicow,InsD.take4,InsD.allOw,InsD.len4];refine kn.grow (new:=[d.cells]) hgi (.mk' _ _ _ _) (by intro r hr;simp only[Ja]at hr;subst hr;rfl) (by simp only[Qay,LIM,Jl,Jn];omega) fun y H14 kn=>?_;have hx8:=kn.l 0 rfl;simp only[go_sem,Qaff,hx8];intro H15 h15;have kn:=kn.stL 0 rfl h15;refine Qt ?_;simp only[go_sem,X.next];refine⟨Qr (by omega) (by omega),t-1,by omega,t-1,k3,ds++[d],_,_,rfl,by simp;omega,by omega,by simp;omega,fun d' hd'=>?_,?_,kn,?_⟩
     ·rcases Jm.1 hd' with h|h
      ·exact hds _ h
      ·simp only[Ja]at h;subst h;exact hd
     ·rw[Qa85];exact .mk _ _ _ (by simp[Qay])
     ·have:(t:Int)-1=((t-1:Nat):Int):=(by omega);rw[this]
    ·intro hc2;have ht0:t=0:=(by have:¬0<t:=(by simpa using hc2);omega);refine Qv ?_;simp only[go_sem,X.next];refine Qa ?_;simp only[go_sem,hx5,hbow];refine Qba (kn.e 0 rfl) (by omega) fun on H13 hon hu=>?_;have kn:=kn.callE 0 rfl hu (R.o_ne _);have hx8:=kn.l 0 rfl;simp only[go_sem,Q63,hx8,hicow];intro H14 h14;have kn:=kn.stL 0 rfl h14;refine Qa ?_;simp only[go_sem];refine Qkz (ns:=[2,1,2,1,3]) (kn.e 0 rfl) (by omega) (by simp) fun jump H15 hjump hu=>?_;have kn:=kn.callE 0 rfl hu (R.o_ne _);have hx8:=kn.l 0 rfl;simp only[go_sem,Q64,hx8,hicow];intro H16 h16;have kn:=kn.stL 0 rfl h16;refine Q28 (fun e2 H2=>∃(k2:Nat) (jump:Int),k1<k2∧k2≤k1+40∧Kn H H2 [(R.l,R.o k2)] (([(x8,.st [.sl true 2 [],ic,.int .i64 jump,.int .i64 on,.sl true 1 []])]++(([(x4,.st [.int .i64 0,.int .i64 0,.sl true 5 []]),(x5,.st [.int .i64 p,.int .i64 rg,bc])]++bs.flatMap UBlk.lg)++bl))++il)∧EnvA R cc x4 x5 x8 n b e2) ?_ ?_
     ·intro Q hn _ _;have rest:∀(v:Bool) (H2:Heap) (k2:Nat),k1<k2→k2≤k1+40→Kn H H2 [(R.l,R.o k2)] (([(x8,.st [.sl true 2 [],ic,.int .i64 jump,.int .i64 on,.sl true 1 []])]++(([(x4,.st [.int .i64 0,.int .i64 0,.sl true 5 []]),(x5,.st [.int .i64 p,.int .i64 rg,bc])]++bs.flatMap UBlk.lg)++bl))++il)→
        Qae prog Qae8 Q [(0,.c (.ptr R.l 0)),(3,.c (.pp [cc])),(4,.c (.ptr x4 0)),(5,.c (.ptr x5 0)),(6,.c (.int .i64 n)),(7,.c (.int .i64 b)),(8,.c (.ptr x8 0)),(68,.c (.bool v))] H2:=by
       intro v H2 k2 hk1 hk2 kn;refine Qe rfl ?_ ?_
       ·intro hc;have hx8:=kn.l 0 rfl;refine Qt ?_;simp only[go_sem,hx8,hicow];intro H3 h3;have kn:=kn.stL 0 rfl h3;exact hn _ _ ⟨k2,3,hk1,hk2,kn,rfl,rfl,rfl,rfl,rfl,rfl,rfl⟩
       ·intro hc;refine Qi ?_;exact hn _ _ ⟨k2,jump,hk1,hk2,kn,rfl,rfl,rfl,rfl,rfl,rfl,rfl⟩
      refine Qa ?_;simp only[go_sem];refine⟨fun _=>Qr (by omega) (by omega),?_⟩;refine⟨fun hb1=>?_,fun hb1=>?_⟩
      ·refine Qba (kn.e 0 rfl) (by omega) fun v H17 hv hu=>?_;have kn:=kn.callE 0 rfl hu (R.o_ne _);simp only[go_sem,Qjr,hb1];exact rest _ _ _ (by omega) (by omega) kn
      ·by_cases h1:(n:Int)=1
       ·have hd:=decide_eq_true h1;have hd2:decide ((b:Int)=n-1)=true:=decide_eq_true (by omega);simp only[go_sem,Qjr,hd,hd2,Bool.not_true,cond_true,cond_false];exact rest true _ _ (by omega) (by omega) kn
       ·have h2:¬(b:Int)=n-1:=(by simpa[h1]using hb1);simp only[go_sem,Qjr,hb1,h1,h2,decide_false,Bool.not_false,cond_true,cond_false];exact rest false _ _ (by omega) (by omega) kn
     rintro e2 H17 ⟨k3,jump,hk5,hk6,kn,l0,l3,l4,l5,l6,l7,l8⟩;refine Q28 (fun e2 H2=>∃(k2:Nat) (jump on:Int) (nfl:Bool) (next:List Int),next.length≤2∧k1<k2∧k2≤k1+50∧Kn H H2 [(R.l,R.o k2)] (([(x8,.st [.sl true 2 [],ic,.int .i64 jump,.int .i64 on,.sl nfl 1 (Qb next)])]++(([(x4,.st [.int .i64 0,.int .i64 0,.sl true 5 []]),(x5,.st [.int .i64 p,.int .i64 rg,bc])]++bs.flatMap UBlk.lg)++bl))++il)∧EnvA R cc x4 x5 x8 n b e2) ?_ ?_
     ·intro Q hn _ _;have hx8:=kn.l 0 rfl;refine Qa ?_;simp only[go_sem,hx8,l0,l3,l4,l5,l6,l7,l8,hicow];refine Qf ?_;refine Qa ?_;simp only[go_sem];refine Qe rfl ?_ ?_
      ·intro hc;refine Qa ?_;simp only[go_sem,hx8,hicow];intro H18 h18;have kn:=kn.stL 0 rfl h18;refine Qt ?_;simp only[go_sem];refine Qbd4 (kn.e 0 rfl) (by omega) (by omega) (by omega) fun v1 H19 k4 hk7 hk8 hu=>?_;have kn:=kn.callE 0 rfl hu (R.o_ne _);have hx8:=kn.l 0 rfl;simp only[go_sem,Q65,hx8,hicow];intro H20 h20;have kn:=kn.stL 0 rfl h20;exact hn _ _ ⟨k4,jump,0,true,[v1],by simp,by omega,by omega,kn,rfl,rfl,rfl,rfl,rfl,rfl,rfl⟩
      ·intro hc;refine Qa ?_;simp only[go_sem];refine Qe rfl ?_ ?_
       ·intro hc;refine Qt ?_;simp only[go_sem];refine Qbd4 (kn.e 0 rfl) (by omega) (by omega) (by omega) fun v1 H19 k4 hk7 hk8 hu=>?_;have kn:=kn.callE 0 rfl hu (R.o_ne _);simp only[go_sem,Q67];refine Qbd4 (kn.e 0 rfl) (by omega) (by omega) (by omega) fun v2 H20 k5 hk9 hk10 hu=>?_;have kn:=kn.callE 0 rfl hu (R.o_ne _);have hx8:=kn.l 0 rfl;simp only[go_sem,Q66,hx8,hicow];intro H21 h21;have kn:=kn.stL 0 rfl h21;exact hn _ _ ⟨k5,jump,on,true,[v1,v2],by simp,by omega,by omega,kn,rfl,rfl,rfl,rfl,rfl,rfl,rfl⟩
       ·intro hc;refine Qi ?_;exact hn _ _ ⟨k3,jump,on,true,[],by simp,by omega,by omega,kn,rfl,rfl,rfl,rfl,rfl,rfl,rfl⟩
     rintro e3 H18 ⟨k4,jump,on,nfl,next,hnx,hk7,hk8,kn,l0,l3,l4,l5,l6,l7,l8⟩;have hx8:=kn.l 0 rfl;have hx5:=kn.l 2 rfl;refine Qt ?_;simp only[go_sem,hx8,hx5,l0,l3,l4,l5,l6,l7,l8,hicow,hbow];obtain⟨o,ho⟩:∃o:UBlk,o=⟨[],.sl true 2 [],[],ds,ic,il,jump,on,nfl,next⟩:=⟨_,rfl⟩;have hor:[C.sl true 2 [],ic,C.int IntKind.i64 jump,C.int IntKind.i64 on,C.sl nfl 1 (Qb next)]=o.row:=(by rw[ho];rfl);have hol:o.lg=il:=(by rw[ho];simp[UBlk.lg]);have hook:o.ok:=(by rw[ho];exact⟨.nil 2,hgi,by simp⟩);have hosm:o.sm 0:=(by rw[ho];exact⟨hnx,by show ds.length≤_;omega,by simp,fun d hd=>by have:=hds d hd;omega,by simp⟩);rw[hor];have kn:=(kn.perm Qboe).drop;refine kn.grow (new:=[o.row]) hgr (.mk' _ _ _ _) (by intro r hr;simp only[Ja]at hr;subst hr;exact o.noOw hook) (by simp only[Je,Jl,Jn,LIM];omega) fun z H19 kn=>?_;have kn:Kn H H19 [(R.l,R.o k4)] (([(x4,.st [.int .i64 0,.int .i64 0,.sl true 5 []]),(x5,.st [.int .i64 p,.int .i64 rg,bc])]++(bs++[o]).flatMap UBlk.lg)++[(z,.vec 5 ((bs++[o]).map UBlk.row))]):=by
      simpa[Js,Jj,hol]using kn
     have hx5:=kn.l 1 rfl;simp only[go_sem,Q68,hx5,l0,l3,l4,l5,l6,l7,hbow];intro H20 h20;have kn:=kn.stL 1 rfl h20;refine Qt ?_;simp only[go_sem,X.next];refine⟨Qr (by omega) (by omega),n-(b+1),by omega,b+1,k4,bs++[o],_,_,rfl,by omega,by simp[hbs],by omega,by omega,fun o' ho'=>?_,.mk _ _ _ (by simp),kn,rfl⟩;rcases Jm.1 ho' with h|h
     ·exact hok o' h
     ·simp only[Ja]at h;subst h;exact⟨hook,hosm⟩
  ·intro hc1;have hbn:b=n:=by have:¬b<n:=(by simpa using hc1);omega
   have hx4:=kn.l 0 rfl;have hx5:=kn.l 1 rfl;refine Qv ?_;simp only[go_sem,X.next];refine Qa ?_;simp only[go_sem,hx5,hx4,hbow];intro H9 h9;have kn:=kn.stL 0 rfl h9;have hx4:=kn.l 0 rfl;refine Qk ?_;simp only[go_sem,Qz,Q8,Qa7l,reduceIte,Ja,forall_eq,RS.op,hx4,hbow];obtain⟨o,ho⟩:∃o:UCode,o=⟨p,rg,bs,bc,bl⟩:=⟨_,rfl⟩;have hook:o.ok:=by rw[ho];exact⟨hgr,fun b hb=>(hok b hb).1,hp.1,hp.2⟩
   have hosm:o.sm 0:=by rw[ho];exact⟨by show 0<bs.length;omega,by show bs.length≤_;omega,fun b hb=>(hok b hb).2⟩
   have kn:Kn H H9 [(R.l,R.o k1)] ([(x4,.st [.int .i64 p,.int .i64 rg,bc]),(x5,.st [.int .i64 p,.int .i64 rg,bc])]++o.lg):=by
    rw[ho];simpa[UCode.lg,Jj]using kn
   refine⟨unx H o.lg,.ag o.row,H9.frz (unx H o.lg),?_,Qd5 _ _,hK o _ k1 hk1 (by omega) kn.finK hook hosm⟩;rw[ho];exact FrzL.ag (.cons (Qg rfl) (.cons (Qg rfl) (.cons (.same _ hbow) .nil)))
end Go.AE.Y
namespace Go.AE
open Go.AE.Y
open Go.Proofs.Tryz
variable {H:Heap}{K:V→Heap→Prop}
theorem Gr.slc {H0 H:Heap}{E B Lg:List (Nat×Obj)}{sz:Nat}{rows:List (List C)}{c:C}(h:Gr Lg sz rows c)(kn:Kn H0 H E (B++Lg)):Slc H sz rows c:=by
 obtain⟨h1,h2⟩:=h.get kn;exact⟨h1,h.elemSz,h2,h.lenC⟩
theorem Gr.ne {H0 H:Heap}{E B Lg:List (Nat×Obj)}{sz:Nat}{rows:List (List C)}{c:C}{r:Nat}{o:Obj}(h:Gr Lg sz rows c)(kn:Kn H0 H E (B++Lg))(hr:(r,o)∈E):∀l a d n,c=.vsl l a d n→l≠r:=by
 intro l a d n hc hh;rcases h with ⟨h1,_⟩|⟨y,h1,h2⟩
 ·rw[h1]at hc;simp at hc
 ·rw[h1]at hc;have hy:y=l:=by injection hc
  have:=kn.loc (y,.vec sz rows) (by rw[h2];simp);exact kn.ext (r,o) hr (by rw[←hh,←hy];exact this)
theorem Gr.slcM {H0 H:Heap}{E L Lg:List (Nat×Obj)}{sz:Nat}{rows:List (List C)}{c:C}(h:Gr Lg sz rows c)(kn:Kn H0 H E L)(hm:∀p∈Lg,p∈L):Slc H sz rows c:=by
 rcases h with ⟨h1,h2,h3⟩|⟨y,h1,h2⟩
 ·rw[h1,h2];exact .mk' _ _ _ _
 ·have hy:H y=.vec sz rows:=(kn.get (y,.vec sz rows) (Jh _ (hm _ (by rw[h2];simp)))).1;rw[h1];exact⟨by simp[Go.AE.okSl,hy],rfl,by simp[Go.AE.rowsOf,hy],rfl⟩
end Go.AE
namespace Go.AE.Y
open Go.Proofs.Tryz
variable {H:Heap}{K:V→Heap→Prop}
theorem Qbpt {H0 H:Heap}{B cl:List (Nat×Obj)}{R:Rdr}{o:Obj}{us:List UCode}{cc:C}(hg:Gr cl 3 (us.map UCode.row) cc)(kn:Kn H0 H [(R.l,o)] (B++cl))(hu:∀u∈us,u.ok):CRd H R cc (us.map UCode.row):=by
 refine⟨hg.slc kn,hg.isOw,hg.ne kn (o:=o) (by simp),fun i hi=>?_⟩;rw[Je]at hi;refine⟨us[i].params,.int .i64 us[i].regs,us[i].bc,by simp[Jb,hi,UCode.row],(hu _ (Jc hi)).p0,(hu _ (Jc hi)).p1⟩
set_option maxHeartbeats 4000000 in
theorem Qa64 {R:Rdr}{k:Nat}(hH:H R.l=R.o k)(hk:k+10000≤2^40)
  (hK:∀(cs:List CodeD) (H':Heap) (k':Nat),k<k'→k'≤k+10000→Upd H H' [(R.l,R.o k')]→0<cs.length→cs.length≤3→(∀c∈cs,c.sm)→K (.ag [.sl false 3 (Ql cs)]) H') :
  Qo prog Q0r [.c (.ptr R.l 0)] H K:=by
 refine Qu ?_;refine Qd Qai Qbjs ?_;refine Qa ?_;simp only[go_sem];intro x2 hx2 H1 h1;have kn:=(Kn.start1 hH (R.o_ne k)).al hx2 h1;refine Qa ?_;simp only[go_sem];intro x3 hx3 H2 h2;have kn:=kn.al hx3 h2;have hx32:=kn.l 1 rfl;simp only[go_sem,Qaf5,hx32];intro H3 h3;have kn:=kn.stL 1 rfl h3;refine Q5 ?_;refine Qa ?_;simp only[go_sem];refine Qkz (ns:=[1,2,1,3]) (kn.e 0 rfl) (by omega) (by simp) fun i0 H4 hi0 hu=>?_;have kn:=kn.callE 0 rfl hu (R.o_ne _);simp only[go_sem,Qaf6];obtain⟨i,rfl,hi1,hi3⟩:∃i:Nat,i0=i∧1≤i∧i≤3:=⟨i0.toNat,by simp at hi0;omega⟩;refine Qh (Qf (Qw (fun m e1 H1=>∃(t k1:Nat) (us:List UCode) (cc:C) (cl:List (Nat×Obj)),m=t∧t+us.length=i∧k<k1∧k1≤k+1+1000 * us.length∧(∀u∈us,u.ok∧u.sm 0)∧Gr cl 3 (us.map UCode.row) cc∧
  Kn H H1 [(R.l,R.o k1)] (([(x2,.st [.sl true 3 []]),(x3,.st [cc])]++us.flatMap UCode.lg)++cl)∧
  e1=[(0,.c (.ptr R.l 0)),(2,.c (.ptr x2 0)),(3,.c (.ptr x3 0)),(4,.c (.int .i64 t))]) i ?_ ?_))
 ·exact⟨i,k+1,[],_,[],rfl,rfl,by omega,by simp,by simp,.nil 3,by simpa using kn,rfl⟩
 ·rintro m e1 H5 ⟨t,k1,us,cc,cl,hm,ht,hk1,hk2,hok,hgr,kn,rfl⟩;have hcow:=hgr.isOw;have hx3:=kn.l 1 rfl;refine Q5 ?_;refine Qa ?_;simp only[go_sem];refine Qh (Qe rfl ?_ ?_)
  ·intro hc;have ht0:0<t:=by simpa using hc
   refine Qi ?_;simp only[go_sem];refine Qh (Qf (Qbg ?_));simp only[go_sem,hx3,hcow];refine Qbi3 (kn.e 0 rfl) (by omega) (Qbpt hgr kn fun u hu=>(hok u hu).1) fun o H6 k2 hk3 hk4 kn2 hoo hos=>?_;have kn:=kn.compE 0 rfl kn2;have hx3:=kn.l 1 rfl;simp only[go_sem,Qaf8,hx3,hcow,o.len3];have kn:=kn.perm Qauk;refine kn.grow (new:=[o.row]) hgr (.mk' _ _ _ _) (by intro r hr;simp only[Ja]at hr;subst hr;exact o.noOw hoo) (by simp only[Je,Jl,Jn,LIM];omega) fun z H7 kn=>?_;have kn:Kn H H7 [(R.l,R.o k2)] (([(x2,.st [.sl true 3 []]),(x3,.st [cc])]++(us++[o]).flatMap UCode.lg)++[(z,.vec 3 ((us++[o]).map UCode.row))]):=by
    simpa[Js,Jj]using kn
   have hx3:=kn.l 1 rfl;simp only[go_sem,Qaf7,hx3];intro H8 h8;have kn:=kn.stL 1 rfl h8;refine Qt ?_;simp only[go_sem,X.next];refine⟨Qr (by omega) (by omega),t-1,by omega,t-1,k2,us++[o],_,_,rfl,by simp;omega,by omega,by simp;omega,fun o' ho'=>?_,.mk _ _ _ (by simp),kn,?_⟩
   ·rcases Jm.1 ho' with h|h
    ·exact hok o' h
    ·simp only[Ja]at h;subst h;exact⟨hoo,hos⟩
   ·have:(t:Int)-1=((t-1:Nat):Int):=(by omega);rw[this]
  ·intro hc;have ht0:t=0:=by have:¬0<t:=(by simpa using hc);omega
   refine Qv ?_;simp only[go_sem,X.next];refine Q5 ?_;refine Qa ?_;simp only[go_sem];refine Qkz (ns:=[0,0,1,3]) (kn.e 0 rfl) (by omega) (by simp) fun j0 H6 hj0 hu=>?_;have kn:=kn.callE 0 rfl hu (R.o_ne _);simp only[go_sem,Qaf9];obtain⟨j,rfl,hj3⟩:∃j:Nat,j0=j∧j≤3:=⟨j0.toNat,by simp at hj0;omega⟩;have hcl:0<us.length:=by omega
   have hcl3:us.length≤3:=by omega
   refine Qh (Qf (Qw (fun m e1 H1=>∃(t k2 N:Nat) (us:List UCode),m=t∧t+N=j∧us.length=i∧k<k2∧k2≤k1+1+200 * N∧(∀u∈us,u.ok∧u.sm N)∧Gr cl 3 (us.map UCode.row) cc∧
    Kn H H1 [(R.l,R.o k2)] (([(x2,.st [.sl true 3 []]),(x3,.st [cc])]++us.flatMap UCode.lg)++cl)∧
    e1=[(0,.c (.ptr R.l 0)),(2,.c (.ptr x2 0)),(3,.c (.ptr x3 0)),(5,.c (.int .i64 t))]) j ?_ ?_))
   ·exact⟨j,k1+1,0,us,rfl,rfl,by omega,by omega,by omega,hok,hgr,kn,rfl⟩
   ·rintro m e1 H7 ⟨t,k2,N,us,hm,ht,hui,hk3,hk4,hok,hgr,kn,rfl⟩;have hx3:=kn.l 1 rfl;refine Q5 ?_;refine Qa ?_;simp only[go_sem];refine Qh (Qe rfl ?_ ?_)
    ·intro hc;have ht0:0<t:=(by simpa using hc);refine Qi ?_;simp only[go_sem];have hmem:∀p∈cl,p∈(([(x2,.st [.sl true 3 []]),(x3,.st [cc])]++us.flatMap UCode.lg)++cl):=fun p hp=>(by simp[hp]);refine Q28 (fun e2 H2=>∃(k3:Nat) (us:List UCode),us.length=i∧k<k3∧k3≤k2+200∧(∀u∈us,u.ok∧u.sm (N+1))∧Gr cl 3 (us.map UCode.row) cc∧
      Kn H H2 [(R.l,R.o k3)] (([(x2,.st [.sl true 3 []]),(x3,.st [cc])]++us.flatMap UCode.lg)++cl)∧lk 0 e2=.c (.ptr R.l 0)∧lk 2 e2=.c (.ptr x2 0)∧lk 3 e2=.c (.ptr x3 0)∧lk 5 e2=.c (.int .i64 t)) ?_ ?_
     ·intro Q hn _ _;have hs:=hgr.slc kn;have hsok:=eq_true hs.ok;have hlen:=hs.len;have hsz:=hs.sz;rw[Je]at hlen;refine Qf ?_;refine Qad ?_;simp only[go_sem,hx3,hcow,hsok,hlen];refine Qba (kn.e 0 rfl) (by omega) fun v H8 hv hu=>?_;have kn:=kn.callE 0 rfl hu (R.o_ne _);rw[if_neg (by omega)]at hv;obtain⟨ci,rfl⟩:=Jo hv.1;have hci:ci<us.length:=(by omega);have hx3:=kn.l 1 rfl;have hs:=hgr.slc kn;have hsok:=eq_true hs.ok;simp only[go_sem,Qaga,hx3,hcow,hsok,hlen,hsz,hci];obtain⟨u,hu⟩:∃u,us[ci]=u:=⟨_,rfl⟩;obtain⟨huok,husm⟩:=hok _ (Jc hci);rw[hu]at huok husm;have hrow:(us.map UCode.row).getD ci []=[.int .i64 u.params,.int .i64 u.regs,u.bc]:=(by rw[←hu];simp[Jb,hci,UCode.row]);have hub0:=husm.b0;have hub1:=husm.b;obtain⟨yb,hbc,hbl⟩:=UCode.bvec huok hub0;have hblow:=huok.b.isOw;have hblen:=huok.b.lenC;rw[Je]at hblen;have hrws:=hs.rows;have hmemb:∀p∈u.bl,p∈(([(x2,.st [.sl true 3 []]),(x3,.st [cc])]++us.flatMap UCode.lg)++cl):=fun p hp=>by
       have:p∈us.flatMap UCode.lg:=Jad.2 ⟨u,by rw[←hu];exact Jc hci,Jh _ hp⟩;simp[this]
      have hbok:=eq_true (huok.b.slcM kn hmemb).ok;refine Qa ?_;simp only[go_sem,hx3,hcow,hsok,hlen,hsz,hci,hrws,hrow,hblow,hblen,hbok];intro _;refine Qba (kn.e 0 rfl) (by omega) fun v H9 hv hu9=>?_;have kn:=kn.callE 0 rfl hu9 (R.o_ne _);rw[if_neg (by omega)]at hv;obtain⟨bi,rfl⟩:=Jo hv.1;have hbi:bi<u.blocks.length:=(by omega);have hsok:=eq_true (hgr.slcM kn hmem).ok;have hrws:=(hgr.slcM kn hmem).rows;simp only[go_sem,Qagb];refine Qa ?_;simp only[go_sem,hcow,hsok,hlen,hsz,hci,hrws,hrow,hblow];refine Qba (kn.e 0 rfl) (by omega) fun to H10 _ hu10=>?_;have kn:=kn.callE 0 rfl hu10 (R.o_ne _);simp only[go_sem,Q7i];intro x8 hx8 H11 h11;have kn:=kn.al hx8 h11;have kn:=kn.perm Ji;have hx8:=kn.l 0 rfl;simp only[go_sem,Q7h,hx8];intro H12 h12;have kn:Kn H H12 [(R.l,R.o (k2+1+1+1))] ([(x8,.st [.int .i64 to,.sl true 1 []])]++(([(x2,.st [.sl true 3 []]),(x3,.st [cc])]++us.flatMap UCode.lg)++cl)):=kn.stL 0 rfl h12;have hmem2:∀p∈cl,p∈([(x8,Obj.st [.int .i64 to,.sl true 1 []])]++(([(x2,.st [.sl true 3 []]),(x3,.st [cc])]++us.flatMap UCode.lg)++cl)):=fun p hp=>Jh _ (hmem p hp);have hsok:=eq_true (hgr.slcM kn hmem2).ok;have hrws:=(hgr.slcM kn hmem2).rows;have hbs:=huok.b.slcM kn (fun p hp=>Jh _ (hmemb p hp));refine Q5 ?_;refine Qa ?_;simp only[go_sem,hcow,hsok,hlen,hsz,hci,hrws,hrow,hblow];refine Q0u (rows:=u.blocks.map UBlk.row) (nx:=fun i=>(u.blocks.map UBlk.next).getD i []) hbs hblow (fun i hi=>?_) fun H13 hu13=>?_
      ·rw[Je]at hi;refine⟨u.blocks[i].pc,u.blocks[i].ic,.int .i64 u.blocks[i].jump,.int .i64 u.blocks[i].on,u.blocks[i].nfl,?_⟩;simp[Jb,hi,UBlk.row]
      have kn:=kn.call0 hu13;obtain⟨ps,hps⟩:∃ps,Q0 (fun i=>(u.blocks.map UBlk.next).getD i []) (bi:Int) (u.blocks.map UBlk.row).length=ps:=⟨_,rfl⟩;have hpsl:ps.length≤160:=by
       have:=Qb5 (fun i=>(u.blocks.map UBlk.next).getD i []) (bi:Int) (u.blocks.map UBlk.row).length;rw[hps,Je]at this;omega
      rw[hps];simp only[go_sem,Q7j,Qc];intro _;refine Qh (Qf (Qw (fun m e1 H1=>∃(q:Nat) (ns:List Int) (ac:C) (al:List (Nat×Obj)),m=ps.length-q∧q≤ps.length∧ns.length=q∧Gr al 1 (Qb ns) ac∧
       Kn H H1 [(R.l,R.o (k2+1+1+1+q))] (([(x8,.st [.int .i64 to,ac])]++(([(x2,.st [.sl true 3 []]),(x3,.st [cc])]++us.flatMap UCode.lg)++cl))++al)∧
       e1=[(0,.c (.ptr R.l 0)),(2,.c (.ptr x2 0)),(3,.c (.ptr x3 0)),(5,.c (.int .i64 t)),(6,.c (cc.ep 3 ci 0)),(7,.c (.int .i64 bi)),(8,.c (.ptr x8 0)),(59,.c (.int .i64 ps.length)),(60,.c (.int .i64 q))]) ps.length ?_ ?_))
      ·exact⟨0,[],_,[],by omega,by omega,rfl,.nil 1,by simpa using kn,rfl⟩
      ·rintro m2 e1 H14 ⟨q,ns,ac,al,hm2,hq,hns,hga,kn,rfl⟩;have hacow:=hga.isOw;have hx8:=kn.l 0 rfl;have hmem3:∀p∈cl,p∈(([(x8,Obj.st [.int .i64 to,ac])]++(([(x2,.st [.sl true 3 []]),(x3,.st [cc])]++us.flatMap UCode.lg)++cl))++al):=fun p hp=>List.mem_append_left _ (Jh _ (hmem p hp));have hsok:=eq_true (hgr.slcM kn hmem3).ok;have hrws:=(hgr.slcM kn hmem3).rows;refine Qa ?_;simp only[go_sem];refine Qh (Qe rfl ?_ ?_)
       ·intro hc;have hlt:q<ps.length:=(by simpa using hc);refine Qi ?_;simp only[go_sem];refine Qh (Qf (Qbg ?_));simp only[go_sem,hx8,hacow,hcow,hsok,hlen,hsz,hci,hrws,hrow,hblow];refine Qba (kn.e 0 rfl) (by omega) fun v H15 _ hu15=>?_;have kn:=kn.callE 0 rfl hu15 (R.o_ne _);have hx8:=kn.l 0 rfl;simp only[go_sem,Q7l,hx8,hacow];refine kn.grow (new:=Qb [v]) hga (.mk' _ _ _ _) (Qn _) (by simp only[Qc,LIM,Jl,Jn];omega) fun y H16 kn=>?_;have hx8:=kn.l 0 rfl;simp only[go_sem,Q7k,hx8];intro H17 h17;have kn:=kn.stL 0 rfl h17;refine Qt ?_;simp only[go_sem,X.next];refine⟨Qr (by omega) (by omega),ps.length-(q+1),by omega,q+1,ns++[v],_,_,rfl,by omega,by simp[hns],?_,kn,rfl⟩;rw[←Qbc];exact .mk _ _ _ (by simp[Qbc,Qc])
       ·intro hc;have hqp:q=ps.length:=(by have:¬q<ps.length:=(by simpa using hc);omega);refine Qv ?_;simp only[go_sem,X.next];refine Qa ?_;simp only[go_sem];refine Qe rfl ?_ ?_
        ·intro hc;obtain⟨blk,hblk⟩:∃blk,u.blocks[bi]=blk:=⟨_,rfl⟩;have hbok2:=huok.bs _ (Jc hbi);have hbsm2:=husm.bs _ (Jc hbi);rw[hblk]at hbok2 hbsm2;have hbp:=hbsm2.p;have hbr:(u.blocks.map UBlk.row).getD bi []=[blk.pc,blk.ic,.int .i64 blk.jump,.int .i64 blk.on,.sl blk.nfl 1 (Qb blk.next)]:=(by rw[←hblk];simp[Jb,hbi,UBlk.row]);have hpcow:=hbok2.p.isOw;have hbl5:(u.blocks.map UBlk.row).length=u.blocks.length:=(by simp);have kn:Kn H H14 [(R.l,R.o (k2+1+1+1+q))] (([(yb,.vec 5 (u.blocks.map UBlk.row))]++([(x8,.st [.int .i64 to,ac])]++([(x2,.st [.sl true 3 []]),(x3,.st [cc])]++(blk.core++(al++(Qas0 us ci bi hci++cl))))))++blk.pl):=kn.perm (Qj fun f hf h0 hc1 hp=>by
          have h1:=hp _ _ (Qbl1 us ci bi hci (by rw[hu];exact hbi));subst hu;rw[hblk,hbl]at h1;simp only[hf]at h1⊢;omega)
         have hyb:=kn.l 0 rfl;have hx8:=kn.l 1 rfl;have hmem4:∀p∈cl,p∈(([(yb,Obj.vec 5 (u.blocks.map UBlk.row))]++([(x8,Obj.st [.int .i64 to,ac])]++([(x2,Obj.st [.sl true 3 []]),(x3,Obj.st [cc])]++(blk.core++(al++(Qas0 us ci bi hci++cl))))))++blk.pl):=fun p hp=>(by simp[hp]);have hsok:=eq_true (hgr.slcM kn hmem4).ok;have hrws:=(hgr.slcM kn hmem4).rows;obtain⟨ph,hph⟩:∃ph:UPhi,ph=⟨to,ns,ac,al⟩:=⟨_,rfl⟩;have hphr:[C.int IntKind.i64 to,ac]=ph.row:=(by rw[hph];rfl);have hphl:ph.al=al:=(by rw[hph]);have hphg:Gr ph.al 1 (Qb ph.ns) ph.ac:=(by rw[hph];exact hga);rw[hbc]at hrow hblow hblen;have hgp:=hbok2.p;have htk:List.take u.blocks.length (u.blocks.map UBlk.row)=u.blocks.map UBlk.row:=Jd (by simp);refine Qbg ?_;simp only[go_sem,hx8,hacow,hcow,hsok,hlen,hsz,hci,hrws,hrow,hyb,hbi,hbl5,htk,hbr,hpcow,Jp,Jae,Jf];rw[hphr];refine kn.grow (new:=[ph.row]) hgp (.mk' _ _ _ _) (by intro r hr;simp only[Ja]at hr;subst hr;exact ph.noOw hphg) (by simp only[Je,Jl,Jn,LIM];omega) fun z H15 kn=>?_;have kn:Kn H H15 [(R.l,R.o (k2+1+1+1+q))] ([(yb,.vec 5 (u.blocks.map UBlk.row))]++(([(x8,.st [.int .i64 to,ac])]++([(x2,.st [.sl true 3 []]),(x3,.st [cc])]++(blk.core++(al++(Qas0 us ci bi hci++cl)))))++[(z,.vec 2 ((blk.phis++[ph]).map UPhi.row))])):=by
          simpa[Jj]using kn
         have hyb:=kn.l 0 rfl;have hmem5:∀p∈cl,p∈([(yb,Obj.vec 5 (u.blocks.map UBlk.row))]++(([(x8,Obj.st [.int .i64 to,ac])]++([(x2,Obj.st [.sl true 3 []]),(x3,Obj.st [cc])]++(blk.core++(al++(Qas0 us ci bi hci++cl)))))++[(z,.vec 2 ((blk.phis++[ph]).map UPhi.row))])):=fun p hp=>(by simp[hp]);have hsok:=eq_true (hgr.slcM kn hmem5).ok;have hrws:=(hgr.slcM kn hmem5).rows;simp only[go_sem,Q7m,hcow,hsok,hlen,hsz,hci,hrws,hrow,hyb,hbi,hbl5,htk,hbr,hpcow,Jp,Jf];intro H16 h16;obtain⟨b',hb'⟩:∃b':UBlk,b'={ blk with phis:=blk.phis++[ph],pc:=.vsl z 2 0 ((blk.phis.map UPhi.row).length+1),pl:=[(z,.vec 2 ((blk.phis++[ph]).map UPhi.row))] }:=⟨_,rfl⟩;have hbr':[C.vsl z 2 0 ((blk.phis.map UPhi.row).length+1),blk.ic,C.int IntKind.i64 blk.jump,C.int IntKind.i64 blk.on,C.sl blk.nfl 1 (Qb blk.next)]=b'.row:=(by rw[hb'];rfl);have hbset:(u.blocks.map UBlk.row).set bi b'.row=(u.blocks.set bi b').map UBlk.row:=(by rw[Jt]);rw[hbr',hbset]at h16;have kn:=kn.stL 0 rfl h16;have hbok':b'.ok:=by
          rw[hb'];refine⟨.mk _ _ _ (by simp),hbok2.i,fun p hp=>?_⟩;rcases Jm.1 hp with h|h
          ·exact hbok2.a p h
          ·simp only[Ja]at h;subst h;exact hphg
         have hbsm':b'.sm (N+1):=by
          rw[hb'];refine⟨hbsm2.n,hbsm2.i,by simp;omega,hbsm2.ia,fun p hp=>?_⟩;rcases Jm.1 hp with h|h
          ·exact hbsm2.pa p h
          ·simp only[Ja]at h;subst h;rw[hph];show ns.length≤1000;omega
         obtain⟨u',hu'⟩:∃u',u'=u.put bi b' [(yb,.vec 5 ((u.blocks.set bi b').map UBlk.row))]:=⟨_,rfl⟩;have huok':u'.ok:=(by rw[hu'];exact UCode.put_ok huok hbok' hbl);have husm':u'.sm (N+1):=(by rw[hu'];exact UCode.put_sm husm hbsm');have hkn:Kn H H16 [(R.l,R.o (k2+1+1+1+q))] ((([(x2,.st [.sl true 3 []]),(x3,.st [cc])]++(us.set ci u').flatMap UCode.lg)++cl)++[(x8,.st [.int .i64 to,ac])]):=kn.perm (Qj fun f hf h0 hc1 hp=>by
          have h1:=hp _ _ (Qbpb us ci bi hci (by rw[hu];exact hbi) b' [(yb,.vec 5 ((u.blocks.set bi b').map UBlk.row))]);rw[hu,←hu']at h1;have h2:b'.core=blk.core++al:=(by rw[hb',UBlk.core_snoc,hphl]);have h3:b'.pl=[(z,.vec 2 ((blk.phis++[ph]).map UPhi.row))]:=(by rw[hb']);rw[h2,h3]at h1;simp only[Jr,Jq,Ju,hf,hc1 _ (_::_),hc1 _ (_++_)]at h1⊢;omega)
         refine hn _ _ ⟨k2+1+1+1+q,us.set ci u',by simpa using hui,by omega,by omega,fun v hv=>?_,?_,hkn.drop,rfl,rfl,rfl,rfl⟩
         ·rcases J1 hv with hv|rfl
          ·exact⟨(hok v hv).1,(hok v hv).2.mono (by omega)⟩
          ·exact⟨huok',husm'⟩
         ·rw[Qbpc us ci hci u' (by rw[hu',UCode.put_row,hu])];exact hgr
        ·intro hc;refine Qi ?_;simp only[go_sem];refine hn _ _ ⟨k2+1+1+1+q,us,hui,by omega,by omega,fun u hu=>⟨(hok u hu).1,(hok u hu).2.mono (by omega)⟩,hgr,?_,rfl,rfl,rfl,rfl⟩;have kn:=kn.drop;exact (kn.perm Ji).drop
     rintro e2 H8 ⟨k3,us,hui,hk5,hk6,hok,hgr,kn,l0,l2,l3,l5⟩;refine Qt ?_;simp only[go_sem,X.next,l0,l2,l3,l5];refine⟨Qr (by omega) (by omega),t-1,by omega,t-1,k3,N+1,us,rfl,by omega,hui,hk5,by omega,hok,hgr,kn,?_⟩;have:(t:Int)-1=((t-1:Nat):Int):=(by omega);rw[this]
    ·intro hc;refine Qv ?_;simp only[go_sem,X.next];have hx2:=kn.l 0 rfl;refine Qa ?_;simp only[go_sem,hx2,hx3,hcow];intro H8 h8;have kn:=kn.stL 0 rfl h8;have hx2:=kn.l 0 rfl;refine Qk ?_;simp only[go_sem,Qz,Q8,Qa7o,reduceIte,Ja,forall_eq,RS.op,hx2,hcow];have hheld:Held H8 (un H) (us.flatMap UCode.lg++cl):=fun p hp=>by
      have hp2:p∈(([(x2,Obj.st [cc]),(x3,Obj.st [cc])]++us.flatMap UCode.lg)++cl):=by
       rcases Jm.1 hp with h|h
       ·simp[h]
       ·simp[h]
      exact⟨(kn.get p (Jh _ hp2)).1,Qkj (kn.loc p hp2)⟩
     obtain⟨cs,hf,hcn,hcs⟩:=UCodes.frz (N:=N) (by omega) hgr hok hheld;exact⟨_,FrzL.ag (.cons hf .nil),hK cs _ k2 hk3 (by omega) kn.fin (by omega) (by omega) hcs⟩
end Go.AE.Y
namespace Go.AE
open Go.AE.Y
open Go.Proofs.Tryz
variable {H:Heap}{K:V→Heap→Prop}
theorem Kn.lm {H0 H:Heap}{E L:List (Nat×Obj)}{x:Nat}{o:Obj}(kn:Kn H0 H E L)(h:(x,o)∈L):H x=o:=(kn.get (x,o) (Jh _ h)).1
end Go.AE
namespace Go.AE.Y
open Go.Proofs.Tryz
variable {H:Heap}{K:V→Heap→Prop}
set_option maxHeartbeats 4000000 in
theorem Qbi2 {R:Rdr}{k:Nat}(hH:H R.l=R.o k)(hk:k+20000≤2^40)
  (hK:∀(cs:List CodeD) (H':Heap) (k':Nat),k<k'→k'≤k+20000→Upd H H' [(R.l,R.o k')]→0<cs.length→cs.length≤3→(∀c∈cs,c.gd)→K (.ag [.sl false 3 (Ql cs)]) H') :
  Qo prog Qaa1 [.c (.ptr R.l 0)] H K:=by
 refine Qu ?_;refine Qd Qai Qbjn ?_;refine Qa ?_;simp only[go_sem];intro x2 hx2 H1 h1;have kn:=(Kn.start1 hH (R.o_ne k)).al hx2 h1;refine Qa ?_;simp only[go_sem];refine Qa64 (kn.e 0 rfl) (by omega) fun cs H2 k1 hk1 hk2 hu hcs0 hcs3 hsm=>?_;have kn:=kn.callE 0 rfl hu (R.o_ne _);simp only[go_sem,Qae2];refine Qato hsm (by omega) fun us cc cl H3 k2 hgr hok hul=>?_;have kn:=kn.comp0 k2;have hcow:=hgr.isOw;simp only[go_sem,Qae1,hcow];intro x3 hx3 H4 h4;have kn:=kn.al hx3 h4;have kn:=kn.perm Ji;have hx3:=kn.l 0 rfl;simp only[go_sem,Qae0,hx3,hcow];intro H5 h5;have kn:=kn.stL 0 rfl h5;have kn:Kn H H5 [(R.l,R.o k1)] (([(x2,.st [.sl true 3 []]),(x3,.st [cc])]++us.flatMap OCode.lg)++cl):=kn.perm (Qj fun f hf h0 hc1 hp=>by
  simp only[Jr,Jq,Ju,hf,hc1 _ (_::_),hc1 _ (_++_),hc1 _ (List.flatMap _ _)];omega)
 have hx3:=kn.l 1 rfl;have hs:=hgr.slc kn;have hsok:=eq_true hs.ok;have hlen:=hs.len;have hsz:=hs.sz;rw[Je]at hlen;refine Qad ?_;simp only[go_sem,hx3,hcow,hsok,hlen];refine Qba (kn.e 0 rfl) (by omega) fun v H6 hv hu=>?_;have kn:=kn.callE 0 rfl hu (R.o_ne _);rw[if_neg (by omega)]at hv;obtain⟨ci,rfl⟩:=Jo hv.1;have hci:ci<us.length:=by omega
 have hx3:=kn.l 1 rfl;have hs:=hgr.slc kn;have hsok:=eq_true hs.ok;have hrws:=hs.rows;simp only[go_sem,Qae3,hx3,hcow,hsok,hlen,hsz,hci];obtain⟨u,hu⟩:∃u,us[ci]=u:=⟨_,rfl⟩;obtain⟨huok,husm⟩:=hok _ (Jc hci);rw[hu]at huok husm;have hrow:(us.map OCode.row).getD ci []=[.int .i64 u.params,.int .i64 u.regs,u.bc]:=by rw[←hu];simp[Jb,hci,OCode.row]
 have hub0:=husm.b0;have hub1:=husm.b;obtain⟨yb,hbc,hbl⟩:=OCode.bvec huok hub0;have hblow:(C.vsl yb 5 0 u.blocks.length).isOw=false:=rfl;have hblen:lenC (C.vsl yb 5 0 u.blocks.length)=u.blocks.length:=rfl;rw[hbc]at hrow;have hybm:(yb,Obj.vec 5 (u.blocks.map OBlk.row))∈(([(x2,Obj.st [.sl true 3 []]),(x3,.st [cc])]++us.flatMap OCode.lg)++cl):=by
  have:(yb,Obj.vec 5 (u.blocks.map OBlk.row))∈us.flatMap OCode.lg:=Jad.2 ⟨u,by rw[←hu];exact Jc hci,Jh _ (by rw[hbl];simp)⟩;simp[this]
 have hyb:=kn.lm hybm;have hbl5:(u.blocks.map OBlk.row).length=u.blocks.length:=by simp
 have htk:List.take u.blocks.length (u.blocks.map OBlk.row)=u.blocks.map OBlk.row:=Jd (by simp);refine Qad ?_;simp only[go_sem,hcow,hsok,hlen,hsz,hci,hrws,hrow,hyb,hbl5,Jf,Jg];refine Qba (kn.e 0 rfl) (by omega) fun v H7 hv hu7=>?_;have kn:=kn.callE 0 rfl hu7 (R.o_ne _);rw[if_neg (by omega)]at hv;obtain⟨bi,rfl⟩:=Jo hv.1;have hbi:bi<u.blocks.length:=by omega
 have hs:=hgr.slc kn;have hsok:=eq_true hs.ok;have hrws:=hs.rows;have hyb:=kn.lm hybm;simp only[go_sem,Qae4,hcow,hsok,hlen,hsz,hci,hrws,hrow,hyb,hbl5,hbi,Jf,Jg];refine Qad ?_;simp only[go_sem,hcow,hsok,hlen,hsz,hci,hrws,hrow,hyb,hbl5,hbi,Jf,Jg];refine Qkz (ns:=[-1,u.regs,u.blocks.length,0,1]) (kn.e 0 rfl) (by omega) (by simp) fun bad H8 _ hu8=>?_;have kn:=kn.callE 0 rfl hu8 (R.o_ne _);simp only[go_sem,Qae5];refine Q5 ?_;refine Qa ?_;simp only[go_sem];refine Qba (kn.e 0 rfl) (by omega) fun kind H9 _ hu9=>?_;have kn:=kn.callE 0 rfl hu9 (R.o_ne _);refine Q28 (fun e2 H2=>∃(k3:Nat) (us:List OCode) (cl:List (Nat×Obj)),us.length=cs.length∧k<k3∧k3≤k+20000∧(∀u∈us,u.ok∧u.sm 1001)∧Gr cl 3 (us.map OCode.row) cc∧
   Kn H H2 [(R.l,R.o k3)] (([(x2,.st [.sl true 3 []]),(x3,.st [cc])]++us.flatMap OCode.lg)++cl)∧lk 2 e2=.c (.ptr x2 0)∧lk 3 e2=.c (.ptr x3 0)) ?_ ?_
 ·intro Q hn _ _;have hull:us.length=cs.length:=hul;have knO:=kn;obtain⟨blk,hblk⟩:∃blk,u.blocks[bi]=blk:=⟨_,rfl⟩;have hbok:=huok.bs _ (Jc hbi);have hbsm:=husm.bs _ (Jc hbi);rw[hblk]at hbok hbsm;have hbr:(u.blocks.map OBlk.row).getD bi []=[blk.pc,blk.ic,.int .i64 blk.jump,.int .i64 blk.on,.vsl blk.nx.y 1 0 blk.nx.ns.length]:=by rw[←hblk];simp[Jb,hbi,OBlk.row,OInts.c]
  have hpcow:=hbok.p.isOw;have hicow:=hbok.i.isOw;have kn:=Qa8l kn hci hu hbi hblk hbl;have hset:∀b':OBlk,(u.blocks.map OBlk.row).set bi b'.row=(u.blocks.set bi b').map OBlk.row:=fun b'=>(Jt).symm;have hdone:∀(b':OBlk) (H2:Heap) (k3:Nat) (e2:Env),b'.ok→b'.sm 1001→k<k3→k3≤k+20000→Kn H H2 [(R.l,R.o k3)] ([(yb,.vec 5 ((u.blocks.set bi b').map OBlk.row))]++(b'.lg++(Qah5 us ci bi hci++([(x2,Obj.st [.sl true 3 []]),(x3,.st [cc])]++cl))))→
    lk 2 e2=.c (.ptr x2 0)→lk 3 e2=.c (.ptr x3 0)→Q .nrm e2 H2:=by
   intro b' H2 k3 e2 h1 h2 h3 h4 kn l2 l3;obtain⟨us',g1,g2,g3,g4⟩:=Qbcs (N:=1000) hci hu hbi hbl hok h1 h2 hgr kn;exact hn _ _ ⟨k3,us',cl,by omega,h3,h4,g3,g2,g4,l2,l3⟩
  have hsame:∀e2:Env,lk 2 e2=.c (.ptr x2 0)→lk 3 e2=.c (.ptr x3 0)→Q .nrm e2 H9:=fun e2 l2 l3=>
   hn _ _ ⟨_,us,cl,hul,by omega,by omega,fun u hu=>⟨(hok u hu).1,(hok u hu).2.mono (by omega)⟩,hgr,knO,l2,l3⟩
  refine Qf ?_;refine Qa ?_;simp only[go_sem];have hsok:=eq_true (hgr.slcM kn (fun p hp=>by simp[hp])).ok;have hrws:=(hgr.slcM kn (fun p hp=>by simp[hp])).rows;have hyb:=kn.l 0 rfl;refine Qe rfl ?_ ?_
  ·intro hc;refine Qt ?_;simp only[go_sem];refine Qba (kn.e 0 rfl) (by omega) fun v H10 _ hu10=>?_;have kn:=kn.callE 0 rfl hu10 (R.o_ne _);have hyb:=kn.l 0 rfl;simp only[go_sem,Qae6,hyb,hbl5,htk,hbi,hbr,hpcow,hicow,Qbs,Jp,Jf,Jg];intro H11 h11;have hb':[blk.pc,blk.ic,C.int IntKind.i64 v,C.int IntKind.i64 blk.on,C.vsl blk.nx.y 1 0 blk.nx.ns.length]=({ blk with jump:=v }:OBlk).row:=rfl;rw[hb',hset]at h11;exact hdone { blk with jump:=v } _ _ _ ⟨hbok.p,hbok.i,hbok.a⟩ ⟨hbsm.n,hbsm.i,by have:=hbsm.p;show blk.phis.length≤_;omega,fun x hx=>by have:=hbsm.ia x hx;omega⟩ (by omega) (by omega) (kn.stL 0 rfl h11) (by simp[lk]) (by simp[lk])
  intro hc0;refine Qa ?_;simp only[go_sem];refine Qe rfl ?_ ?_
  ·intro hc;have hny:H9 blk.nx.y=.vec 1 (Qb blk.nx.ns):=kn.l 1 rfl;have htk2:List.take blk.nx.ns.length (Qb blk.nx.ns)=Qb blk.nx.ns:=Jd (by simp[Qc]);refine Qa ?_;simp only[go_sem,hyb,hbl5,htk,hbi,hbr,hpcow,hicow,Qbs,Jp,Jf,Jg,hny,Qc];intro _;refine Qe rfl ?_ ?_
   ·intro hc2;have hn0:0<blk.nx.ns.length:=(by simpa using hc2);have hg1:=Qm blk.nx.ns 0 hn0;refine Qt ?_;simp only[go_sem,hyb,hbl5,htk,hbi,hbr,hpcow,hicow,Qbs,Jp,Jf,Jg,hny,hn0,hg1,htk2,Qc];refine⟨by omega,fun H11 h11=>?_⟩;have hs1:(Qb blk.nx.ns).set 0 [C.int IntKind.i64 bad]=Qb (blk.nx.ns.set 0 bad):=(by simp[Qb,Jt]);rw[hs1]at h11;have kn:Kn H H11 [(R.l,R.o (k1+1+1+1+1))] ([(yb,.vec 5 (u.blocks.map OBlk.row))]++(OBlk.lg { blk with nx:=⟨blk.nx.ns.set 0 bad,blk.nx.y⟩ }++(Qah5 us ci bi hci++([(x2,Obj.st [.sl true 3 []]),(x3,.st [cc])]++cl)))):=kn.stL 1 rfl h11;refine hdone { blk with nx:=⟨blk.nx.ns.set 0 bad,blk.nx.y⟩ } _ (k1+1+1+1+1) _ ⟨hbok.p,hbok.i,hbok.a⟩ ⟨by simpa using hbsm.n,hbsm.i,by have:=hbsm.p;show blk.phis.length≤_;omega,fun x hx=>by have:=hbsm.ia x hx;omega⟩ (by omega) (by omega) ?_ (by simp[lk]) (by simp[lk]);rw[Q98 hbi (by rw[hblk];simp[OBlk.row,OInts.c])];exact kn
   ·intro hc2;refine Qi ?_;exact hsame _ (by simp[lk]) (by simp[lk])
  intro hc1;refine Qa ?_;simp only[go_sem];refine Qe rfl ?_ ?_
  ·intro hc;refine Qt ?_;simp only[go_sem,hyb,hbl5,htk,hbi,hbr,hpcow,hicow,Qbs,Jp,Jf,Jg];intro H11 h11;have hb':[blk.pc,blk.ic,C.int IntKind.i64 blk.jump,C.int IntKind.i64 bad,C.vsl blk.nx.y 1 0 blk.nx.ns.length]=({ blk with on:=bad }:OBlk).row:=rfl;rw[hb',hset]at h11;exact hdone { blk with on:=bad } _ _ _ ⟨hbok.p,hbok.i,hbok.a⟩ ⟨hbsm.n,hbsm.i,by have:=hbsm.p;show blk.phis.length≤_;omega,fun x hx=>by have:=hbsm.ia x hx;omega⟩ (by omega) (by omega) (kn.stL 0 rfl h11) (by simp[lk]) (by simp[lk])
  intro hc2;refine Qa ?_;simp only[go_sem];have hilen:lenC blk.ic=blk.ins.length:=by rw[hbok.i.lenC];simp
  have hiok:okSl H9 blk.ic=True:=eq_true (hbok.i.slcM kn (fun p hp=>by simp[OBlk.lg,hp])).ok;refine Qe rfl ?_ ?_
  ·intro hc;refine Qa ?_;simp only[go_sem,hyb,hbl5,htk,hbi,hbr,hpcow,hicow,Qbs,Jp,Jf,Jg,hilen,hiok];intro _;refine Qe rfl ?_ ?_
   ·intro hc2;have hn0:0<blk.ins.length:=(by simpa using hc2);obtain⟨yi,hic,hil⟩:=OBlk.ivec hbok hn0;rw[hic]at hbr;have knI:=Qao3 kn hil;have hyi:=knI.l 0 rfl;obtain⟨x,hx⟩:∃x,blk.ins[0]=x:=⟨_,rfl⟩;have hxr:(blk.ins.map OIns.row).getD 0 []=[.int .i64 x.op,.int .i64 x.to,.vsl x.a.y 1 0 x.a.ns.length,.int .i64 x.n]:=(by rw[←hx];simp[Jb,hn0,OIns.row,OInts.c]);have hil4:(blk.ins.map OIns.row).length=blk.ins.length:=(by simp);have htk4:List.take blk.ins.length (blk.ins.map OIns.row)=blk.ins.map OIns.row:=Jd (by simp);have hxa:x.a.ns.length≤1000:=hbsm.ia x (by rw[←hx];exact Jc hn0);refine Qt ?_;simp only[go_sem,hyb,hbl5,htk,hbi,hbr,hpcow,hicow,Qbs,Jp,Jf,Jg,hyi,hn0,hxr,hil4,htk4];refine⟨by omega,fun H12 h12=>?_⟩;have hr':[C.int IntKind.i64 x.op,C.int IntKind.i64 bad,C.vsl x.a.y 1 0 x.a.ns.length,C.int IntKind.i64 x.n]=({ x with to:=bad }:OIns).row:=rfl;rw[hr',←Jt]at h12;have knD:=Qbdk (b:=blk) (is:=blk.ins.set 0 { x with to:=bad }) (knI.stL 0 rfl h12) (Q43 hn0 (by rw[hx];rfl));refine hdone _ _ (k1+1+1+1+1) _ (OBlk.ins_ok (i:=0) (x':={ x with to:=bad }) hbok hic) (OBlk.ins_sm (i:=0) (x':={ x with to:=bad }) hbsm (by show x.a.ns.length≤_;omega)) (by omega) (by omega) ?_ (by simp[lk]) (by simp[lk]);rw[Q98 hbi (by rw[hblk];rfl)];exact knD
   ·intro hc2;refine Qi ?_;exact hsame _ (by simp[lk]) (by simp[lk])
  intro hc3;refine Qa ?_;simp only[go_sem];refine Qe rfl ?_ ?_
  ·intro hc;refine Qa ?_;simp only[go_sem,hyb,hbl5,htk,hbi,hbr,hpcow,hicow,Qbs,Jp,Jf,Jg,hilen,hiok];intro _;refine Qe rfl ?_ ?_
   ·intro hc2;have hn0:0<blk.ins.length:=(by simpa using hc2);obtain⟨yi,hic,hil⟩:=OBlk.ivec hbok hn0;rw[hic]at hbr;have knI:=Qao3 kn hil;have hyi:=knI.l 0 rfl;obtain⟨x,hx⟩:∃x,blk.ins[0]=x:=⟨_,rfl⟩;have hxr:(blk.ins.map OIns.row).getD 0 []=[.int .i64 x.op,.int .i64 x.to,.vsl x.a.y 1 0 x.a.ns.length,.int .i64 x.n]:=(by rw[←hx];simp[Jb,hn0,OIns.row,OInts.c]);have hil4:(blk.ins.map OIns.row).length=blk.ins.length:=(by simp);have htk4:List.take blk.ins.length (blk.ins.map OIns.row)=blk.ins.map OIns.row:=Jd (by simp);have hxa:x.a.ns.length≤1000:=hbsm.ia x (by rw[←hx];exact Jc hn0);refine Qbg ?_;have knA:Kn H H9 [(R.l,R.o (k1+1+1+1+1))] ([(x.a.y,.vec 1 (Qb x.a.ns))]++([(yi,.vec 4 (blk.ins.map OIns.row))]++([(yb,.vec 5 (u.blocks.map OBlk.row))]++(blk.nx.lg++(blk.phis.flatMap OPhi.lg++(blk.pl++((blk.ins.eraseIdx 0).flatMap OIns.lg++(Qah5 us ci bi hci++([(x2,Obj.st [.sl true 3 []]),(x3,.st [cc])]++cl))))))))):=knI.perm (Qj fun f hf h0 hc1 hp=>by
     have h1:=hp _ _ (Qju OIns.lg blk.ins 0 hn0);rw[hx]at h1;have h2:x.lg=[(x.a.y,.vec 1 (Qb x.a.ns))]:=rfl;rw[h2]at h1;simp only[hf]at h1⊢;omega)
    have hxy:=knA.l 0 rfl;have htk1:List.take x.a.ns.length (Qb x.a.ns)=Qb x.a.ns:=Jd (by simp[Qc]);simp only[go_sem,hyb,hbl5,htk,hbi,hbr,hpcow,hicow,Qbs,Jp,Jf,Jg,hyi,hn0,hxr,hil4,htk4,hxy,Qc,htk1];refine⟨by omega,by simp only[LIM];omega,fun y' hy' H10 h10=>?_⟩;have knA:=knA.ap 0 rfl hy' h10;have hyi:=knA.l 1 rfl;have hyb:=knA.l 2 rfl;simp only[go_sem,Qae7,hyb,hbl5,htk,hbi,hbr,hpcow,hicow,Qbs,Jp,Jf,Jg,hyi,hn0,hxr,hil4,htk4];refine⟨by omega,fun H12 h12=>?_⟩;obtain⟨x',hx'⟩:∃x':OIns,x'={ x with a:=⟨x.a.ns++[bad],y'⟩ }:=⟨_,rfl⟩;have hr':[C.int IntKind.i64 x.op,C.int IntKind.i64 x.to,C.vsl y' 1 0 (x.a.ns.length+1),C.int IntKind.i64 x.n]=x'.row:=(by rw[hx'];simp[OIns.row,OInts.c]);have hl':x'.lg=[(y',.vec 1 (Qb x.a.ns++[[.int .i64 bad]]))]:=(by rw[hx'];simp[OIns.lg,OInts.lg,Qb]);rw[hr',←Jt]at h12;have knA:=knA.stL 1 rfl h12;refine hdone _ _ (k1+1+1+1+1) _ (OBlk.ins_ok (i:=0) (x':=x') hbok hic) (OBlk.ins_sm (i:=0) (x':=x') hbsm (by rw[hx'];simp;omega)) (by omega) (by omega) ?_ (by simp[lk]) (by simp[lk]);rw[Q98 hbi (by rw[hblk];rfl)];refine knA.perm (Qj fun f hf h0 hc1 hp=>?_);have h1:=hp _ _ (Qgy OIns.lg blk.ins 0 x' hn0);rw[hl']at h1;simp only[OBlk.lg,Jr,Jq,Ju,J7,hf,hc1 _ (_::_),hc1 _ (_++_),hc1 _ (List.flatMap _ _)]at h1⊢;omega
   ·intro hc2;refine Qi ?_;exact hsame _ (by simp[lk]) (by simp[lk])
  intro hc4;refine Qa ?_;simp only[go_sem];refine Qe rfl ?_ ?_
  ·intro hc;refine Qt ?_;simp only[go_sem,hyb,hbl5,htk,hbi,hbr,hpcow,hicow,Qbs,Jp,Jf,Jg];have knP:Kn H H9 [(R.l,R.o (k1+1+1+1+1))] (([(yb,.vec 5 (u.blocks.map OBlk.row))]++(blk.nx.lg++(blk.phis.flatMap OPhi.lg++(blk.ins.flatMap OIns.lg++(blk.il++(Qah5 us ci bi hci++([(x2,Obj.st [.sl true 3 []]),(x3,.st [cc])]++cl)))))))++blk.pl):=kn.perm (Qj fun f hf h0 hc1 hp=>by
    simp only[OBlk.lg,hf];omega)
   obtain⟨ph,hph⟩:∃ph:OPhi,ph=⟨0,[bad],.sl true 1 (Qb [bad]),[]⟩:=⟨_,rfl⟩;have hphr:[C.int IntKind.i64 0,C.sl true 1 [[C.int IntKind.i64 bad]]]=ph.row:=by rw[hph];rfl
   have hphok:ph.ok:=by rw[hph];exact .inr ⟨true,rfl,rfl⟩
   have hphl:ph.lg=[]:=by rw[hph]
   have hpl:=hbsm.p;rw[hphr];refine knP.grow (new:=[ph.row]) hbok.p (.mk' _ _ _ _) (by intro r hr;simp only[Ja]at hr;subst hr;exact ph.noOw hphok) (by simp only[Je,Jl,Jn,LIM];omega) fun z H10 knP=>?_;have hyb:=knP.l 0 rfl;simp only[go_sem,Q6s,hyb,hbl5,htk,hbi,hbr,hpcow,hicow,Qbs,Jp,Jf,Jg];intro H11 h11;obtain⟨b',hb'⟩:∃b':OBlk,b'={ blk with phis:=blk.phis++[ph],pc:=.vsl z 2 0 ((blk.phis.map OPhi.row).length+1),pl:=[(z,.vec 2 ((blk.phis++[ph]).map OPhi.row))] }:=⟨_,rfl⟩;have hbr':[C.vsl z 2 0 ((blk.phis.map OPhi.row).length+1),blk.ic,C.int IntKind.i64 blk.jump,C.int IntKind.i64 blk.on,C.vsl blk.nx.y 1 0 blk.nx.ns.length]=b'.row:=by rw[hb'];rfl
   rw[hbr',hset]at h11;have knP:=knP.stL 0 rfl h11;have hbok':b'.ok:=by
    rw[hb'];refine⟨.mk _ _ _ (by simp),hbok.i,fun p hp=>?_⟩;rcases Jm.1 hp with h|h
    ·exact hbok.a p h
    ·simp only[Ja]at h;subst h;exact hphok
   have hbsm':b'.sm 1001:=by
    rw[hb'];exact⟨hbsm.n,hbsm.i,by simp;omega,fun x hx=>by have:=hbsm.ia x hx;omega⟩
   refine hdone b' _ (k1+1+1+1+1) _ hbok' hbsm' (by omega) (by omega) ?_ (by simp[lk]) (by simp[lk]);have hbl':b'.lg=blk.nx.lg++(blk.phis.flatMap OPhi.lg++([(z,.vec 2 ((blk.phis++[ph]).map OPhi.row))]++(blk.ins.flatMap OIns.lg++blk.il))):=by
    rw[hb'];simp[OBlk.lg,Js,hphl]
   rw[hbl'];have hmm:blk.phis.map OPhi.row++[ph.row]=(blk.phis++[ph]).map OPhi.row:=by simp
   rw[hmm]at knP;refine knP.perm (Qj fun f hf h0 hc1 hp=>?_);simp only[Jr,Jq,Ju,J7,hf,hc1 _ (_::_),hc1 _ (_++_),hc1 _ (List.flatMap _ _)];omega
  intro hc5;refine Qa ?_;simp only[go_sem];refine Qe rfl ?_ ?_
  ·intro hc;refine Qbg ?_;simp only[go_sem,hcow,hsok,hlen,hsz,hci,hrws,hrow];refine Qba (kn.e 0 rfl) (by omega) fun v H10 hv hu10=>?_;have knO:=knO.callE 0 rfl hu10 (R.o_ne _);obtain⟨yc,hcc,hcl⟩:∃yc,cc=.vsl yc 3 0 us.length∧cl=[(yc,.vec 3 (us.map OCode.row))]:=by
    rcases hgr with ⟨h1,h2,h3⟩|⟨y,h1,h2⟩
    ·rw[List.map_eq_nil_iff]at h2;rw[h2]at hci;simp at hci
    ·exact⟨y,by rw[h1];simp,h2⟩
   have hyc:H10 yc=.vec 3 (us.map OCode.row):=knO.lm (by rw[hcl];simp);have hul3:(us.map OCode.row).length=us.length:=by simp
   have htk3:List.take us.length (us.map OCode.row)=us.map OCode.row:=Jd (by simp);have hbcow:=huok.b.isOw;simp only[go_sem,Q6t,hcc,hyc,hul3,htk3,hci,hrow,Qbs,Jp,Jf,Jg];have hp0:=husm.p0;have hp1:=husm.p1;rw[if_neg (by omega)]at hv;refine⟨Qr (by omega) (by omega),fun H11 h11=>?_⟩;obtain⟨u',hu'⟩:∃u':OCode,u'={ u with regs:=u.params+v }:=⟨_,rfl⟩;have hur:[C.int IntKind.i64 u.params,C.int IntKind.i64 (u.params+v),C.vsl yb 5 0 u.blocks.length]=u'.row:=by rw[hu',←hbc];rfl
   have hul':u'.lg=u.lg:=by rw[hu'];rfl
   have huok':u'.ok:=by rw[hu'];exact⟨huok.b,huok.bs⟩
   have husm':u'.sm 1000:=by rw[hu'];exact⟨husm.b0,husm.b,husm.bs,husm.p0,husm.p1⟩
   rw[hur,←Jt]at h11;have knF:Kn H H10 [(R.l,R.o (k1+1+1+1+1+1))] ([(yc,.vec 3 (us.map OCode.row))]++([(x2,Obj.st [.sl true 3 []]),(x3,.st [cc])]++us.flatMap OCode.lg)):=by
    rw[hcl]at knO;exact knO.perm Ji
   have knF:=knF.stL 0 rfl h11;refine hn _ _ ⟨k1+1+1+1+1+1,us.set ci u',[(yc,.vec 3 ((us.set ci u').map OCode.row))],by simpa using hul,by omega,by omega,fun w hw=>?_,?_,?_,by simp[lk],by simp[lk]⟩
   ·rcases J1 hw with hw|rfl
    ·exact⟨(hok w hw).1,(hok w hw).2.mono (by omega)⟩
    ·exact⟨huok',husm'.mono (by omega)⟩
   ·rw[hcc];exact .mk _ _ _ (by simp)
   ·refine knF.perm (Qj fun f hf h0 hc1 hp=>?_);have h1:=hp _ _ (Qgy OCode.lg us ci u' hci);have h2:=hp _ _ (Qju OCode.lg us ci hci);rw[hul']at h1;rw[hu]at h2;simp only[Jr,Jq,Ju,hf,hc1 _ (_::_),hc1 _ (_++_),hc1 _ (List.flatMap _ _)]at h1 h2⊢;omega
  intro hc6;refine Qa ?_;simp only[go_sem];refine Qe rfl ?_ ?_
  ·intro hc;refine Qa ?_;simp only[go_sem,hyb,hbl5,htk,hbi,hbr,hpcow,hicow,Qbs,Jp,Jf,Jg,hilen,hiok];intro _;refine Qe rfl ?_ ?_
   ·intro hc2;have hn0:0<blk.ins.length:=(by simpa using hc2);obtain⟨yi,hic,hil⟩:=OBlk.ivec hbok hn0;rw[hic]at hbr;have knI:=Qao3 kn hil;have hyi:=knI.l 0 rfl;obtain⟨x,hx⟩:∃x,blk.ins[0]=x:=⟨_,rfl⟩;have hxr:(blk.ins.map OIns.row).getD 0 []=[.int .i64 x.op,.int .i64 x.to,.vsl x.a.y 1 0 x.a.ns.length,.int .i64 x.n]:=(by rw[←hx];simp[Jb,hn0,OIns.row,OInts.c]);have hil4:(blk.ins.map OIns.row).length=blk.ins.length:=(by simp);have htk4:List.take blk.ins.length (blk.ins.map OIns.row)=blk.ins.map OIns.row:=Jd (by simp);have hxa:x.a.ns.length≤1000:=hbsm.ia x (by rw[←hx];exact Jc hn0);refine Qbg ?_;simp only[go_sem,hyb,hbl5,htk,hbi,hbr,hpcow,hicow,Qbs,Jp,Jf,Jg,hyi,hn0,hxr,hil4,htk4];refine Qkz (ns:=[256,-1,1]) (knI.e 0 rfl) (by omega) (by simp) fun v H10 hv hu10=>?_;have knI:=knI.callE 0 rfl hu10 (R.o_ne _);have hyi:=knI.l 0 rfl;have hyb:=knI.l 1 rfl;simp only[go_sem,Q6u,hyb,hbl5,htk,hbi,hbr,hpcow,hicow,Qbs,Jp,Jf,Jg,hyi,hn0,hxr,hil4,htk4];refine⟨by omega,fun H12 h12=>?_⟩;have hr':[C.int IntKind.i64 x.op,C.int IntKind.i64 x.to,C.vsl x.a.y 1 0 x.a.ns.length,C.int IntKind.i64 v]=({ x with n:=v }:OIns).row:=rfl;rw[hr',←Jt]at h12;have knD:=Qbdk (b:=blk) (is:=blk.ins.set 0 { x with n:=v }) (knI.stL 0 rfl h12) (Q43 hn0 (by rw[hx];rfl));refine hdone _ _ (k1+1+1+1+1+1) _ (OBlk.ins_ok (i:=0) (x':={ x with n:=v }) hbok hic) (OBlk.ins_sm (i:=0) (x':={ x with n:=v }) hbsm (by show x.a.ns.length≤_;omega)) (by omega) (by omega) ?_ (by simp[lk]) (by simp[lk]);rw[Q98 hbi (by rw[hblk];rfl)];exact knD
   ·intro hc2;refine Qi ?_;exact hsame _ (by simp[lk]) (by simp[lk])
  ·intro hc;refine Qi ?_;exact hsame _ (by simp[lk]) (by simp[lk])
 ·rintro e2 H10 ⟨k3,us,cl,hul,hk3,hk4,hok,hgr,kn,l2,l3⟩;have hx2:=kn.l 0 rfl;have hx3:=kn.l 1 rfl;refine Qa ?_;simp only[go_sem,hx2,hx3,hcow,l2,l3];intro H8 h8;have kn:=kn.stL 0 rfl h8;have hx2:=kn.l 0 rfl;refine Qk ?_;simp only[go_sem,Qz,Q8,Qa7k,reduceIte,Ja,forall_eq,RS.op,hx2,hcow];have hheld:Held H8 (un H) (us.flatMap OCode.lg++cl):=fun p hp=>by
   have hp2:p∈(([(x2,Obj.st [cc]),(x3,Obj.st [cc])]++us.flatMap OCode.lg)++cl):=by
    rcases Jm.1 hp with h|h
    ·simp[h]
    ·simp[h]
   exact⟨(kn.get p (Jh _ hp2)).1,Qkj (kn.loc p hp2)⟩
  obtain⟨cs,hf,hcn,hcs⟩:=OCodes.frz (N:=1001) (by omega) hgr hok hheld;exact⟨_,FrzL.ag (.cons hf .nil),hK cs _ k3 hk3 (by omega) kn.fin (by omega) (by omega) hcs⟩
end Go.AE.Y
namespace Go.AE.Y
open Go.Proofs.Tryz
theorem Qao6 {R : Rdr} {fl : Bool} {ss : List (List UInt8)} : ∀ (d : Nat) {k : Nat} {H : Heap} {K : V → Heap → Prop} (deep : Int), deep ≤ d → H R.l = R.o k → k + 6 * 2^d ≤ 2^40 →
    (∀ (x : Ex) (H' : Heap) (k' : Nat), k < k' → k' + 3 ≤ k + 6 * 2^d → Upd H H' [(R.l, R.o k')] → x.ok → k + x.size ≤ k' → K (.ag x.cells) H') →
    Qo prog Qfg [.c (.ptr R.l 0), .c (.sl fl 1 (Qbj ss)), .c (.int .i64 deep)] H K := by
  intro d
  induction d using Nat.strongRecOn with
  | ind d ih =>
  intro k H K deep hd hH hk hK;have hp1 : 1 ≤ 2^d := J8;have hp0 : d < 2^d := Nat.lt_two_pow_self;refine Qu ?_;refine Qd Qai Qbje ?_;refine Qa ?_;simp only [go_sem];intro x hx H1 h1;have kn := (Kn.start1 hH (R.o_ne k)).al hx h1;refine Q5 ?_;refine Qa ?_;simp only [go_sem];have rest : ∀ (b : Bool) (H2 : Heap) (k2 : Nat), k ≤ k2 → k2 ≤ k + 1 → Kn H H2 [(R.l, R.o k2)] [(x, .st [.int .i64 0, .int .i64 0, .str [], .sl true 4 []])] → (b = false → 2 ≤ deep) →
      Qae prog (s_l2Expr_2.seq Qadc) (Qz Qaac (unK H K))
       [(0, V.c (C.ptr R.l 0)), (1, V.c (C.sl fl 1 (Qbj ss))), (2, .c (.int .i64 deep)), (6, V.c (C.ptr x 0)), (14, V.c (.bool b))] H2 := by
    intro b H2 k2 hk1 hk2 kn hb;have fin : ∀ (op n : Int) (name : List UInt8) (fl : Bool) (kids : List Ex) (H3 : Heap) (k3 : Nat) (o : Obj), k < k3 → k3 + 3 ≤ k + 6 * 2^d → Kn H H3 [(R.l, R.o k3)] [(x, .st [.int .i64 op, .int .i64 n, .str name, .sl fl 4 (Qbn kids)])] →
        (op = 10 → kids.length = 2) → Qd0 kids → k + 1 + Qah kids ≤ k3 →
        Q8 Qaac [(6, V.c (C.ptr x 0))] H3 (unK H K) := by
      intro op n name fl kids H3 k3 o g1 g2 kn g3 g4 g5;have hx3 := kn.l 0 rfl;simp only [go_sem, Q8, Qaac, reduceIte, Ja, forall_eq, RS.op, hx3];refine ⟨_, (Ex.mk op n name kids).frz, hK _ _ k3 g1 g2 kn.fin ?_ ?_⟩
      · simp only [Ex.ok]; exact ⟨g3, g4⟩
      · simp only [Ex.size]; omega
    refine Qh (Qe rfl ?_ ?_)
    · intro hb';refine Qa ?_;simp only [go_sem];refine Qbiz (kn.e 0 rfl) (by omega) fun y H3 k3 g1 g2 hu hok hsz => ?_;have kn := kn.callE 0 rfl hu (R.o_ne _);have hx3 := kn.l 0 rfl;simp only [go_sem, Qadd, hx3, y.cells_eq];intro H4 h4;have kn := kn.stL 0 rfl h4;refine Qk ?_;simp only [go_sem, Qz];refine fin _ _ _ _ _ _ k3 .none (by omega) (by omega) kn (Ex.ok_and hok) (Ex.ok_kids hok) ?_;have := y.size_kids; omega
    · intro hb';have hdp := hb hb';have hp : 2^d = 2 * 2^(d-1) := (by rw [← Nat.pow_succ']; congr 1; omega);have hp2 : 1 ≤ 2^(d-1) := J8;have ihd := fun {k H K} => @ih (d-1) (by omega) k H K;generalize 2^(d-1) = e at *;refine Qi ?_;simp only [go_sem];refine Q5 ?_;refine Qa ?_;simp only [go_sem];refine Qba (kn.e 0 rfl) (by omega) fun v H3 hv hu => ?_;have kn := kn.callE 0 rfl hu (R.o_ne _);simp only [go_sem, Qade];refine Qh (Qe rfl ?_ ?_)
      · intro hc;refine Qa ?_;simp only [go_sem];refine Qkz (ns := [11, 12, 11]) (kn.e 0 rfl) (by omega) (by simp) fun op H4 hop hu => ?_;have kn := kn.callE 0 rfl hu (R.o_ne _);simp only [go_sem, Qadg];refine ⟨Qr (by omega) (by omega), ?_⟩;refine ihd (deep - 1) (by omega) (kn.e 0 rfl) (by omega) fun y H5 k5 g1 g2 hu hok hsz => ?_;have kn := kn.callE 0 rfl hu (R.o_ne _);have hx5 := kn.l 0 rfl;simp only [go_sem, Qadf, hx5, y.cells_len];intro H6 h6;have kn := kn.stL 0 rfl h6;refine Qk ?_;simp only [go_sem, Qz];refine fin op 0 [] true [y] _ k5 .none (by omega) (by omega) kn (fun h => ?_) ⟨hok, trivial⟩ ?_
        · subst h; simp at hop
        · simp only [Qah]; omega
      · intro hc;refine Qi ?_;simp only [go_sem];refine Qa ?_;simp only [go_sem];refine Qkz (ns := [3, 3, 4, 5, 6, 7, 8, 9, 10]) (kn.e 0 rfl) (by omega) (by simp) fun op H4 hop hu => ?_;have kn := kn.callE 0 rfl hu (R.o_ne _);simp only [go_sem, Qadh];refine Qa ?_;simp only [go_sem];refine ⟨Qr (by omega) (by omega), ?_⟩;refine ihd (deep - 1) (by omega) (kn.e 0 rfl) (by omega) fun y H5 k5 g1 g2 hu hok hsz => ?_;have kn := kn.callE 0 rfl hu (R.o_ne _);simp only [go_sem, Qadj];refine ⟨Qr (by omega) (by omega), ?_⟩;refine ihd (deep - 1) (by omega) (kn.e 0 rfl) (by omega) fun z H6 k6 g3 g4 hu hok2 hsz2 => ?_;have kn := kn.callE 0 rfl hu (R.o_ne _);have hx5 := kn.l 0 rfl;simp only [go_sem, Qadi, hx5, y.cells_len, z.cells_len];intro H7 h7;have kn := kn.stL 0 rfl h7;refine Qk ?_;simp only [go_sem, Qz];refine fin op 0 [] true [y, z] _ k6 .none (by omega) (by omega) kn (fun h => rfl) ⟨hok, hok2, trivial⟩ ?_;simp only [Qah]; omega
  refine ⟨fun hb => ?_, fun hb => ?_⟩
  · refine Qba (kn.e 0 rfl) (by omega) fun v H2 hv hu => ?_;have kn := kn.callE 0 rfl hu (R.o_ne _);simp only [go_sem, Qz3];refine rest _ H2 (k + 1) (by omega) (by omega) kn ?_;intro h;have : ¬ deep < 2 := (by simpa using hb);omega
  · have hb2 : decide (deep < 2) = true := (by simpa using hb);simp only [go_sem, Qz3, hb2];exact rest true H1 k (by omega) (by omega) kn (fun h => by simp at h)
theorem Qao7 {R:Rdr}{gl k:Nat}{s:GS}{H:Heap}{K:V→Heap→Prop}(hR:H R.l=R.o k)(hG:H gl=s.o R)(hne:R.l≠gl)(hs:s.ok k)(hk:k+2≤2^30)
  (hK:∀(name:List UInt8) (H':Heap) (k':Nat),k+1≤k'→k'≤k+2→Upd H H' [(R.l,R.o k'),(gl,GS.o { s with next:=s.next+1 } R)]→K (.c (.str name)) H') :
  Qo prog Qjy [.c (.ptr gl 0)] H K:=by
 have h0:=hs.n0;have h1':=hs.n1;refine Qu ?_;refine Qd Qai Qapj ?_;refine Qa ?_;simp only[go_sem];refine Qa ?_;simp only[go_sem,hG,GS.o];refine⟨Qr (by omega) (by omega),fun H1 h1=>?_⟩;have kn:Kn H H1 [(R.l,R.o k),(gl,GS.o { s with next:=s.next+1 } R)] []:=(Kn.start2 hR (R.o_ne k) hG (s.o_ne R) hne).stE 1 rfl h1;have hG1:=kn.e 1 rfl;refine Q5 ?_;refine Qa ?_;simp only[go_sem,hG1,GS.o];refine Qba (kn.e 0 rfl) (by omega) fun v H2 hv hu=>?_;have kn:=kn.callE 0 rfl hu (R.o_ne _);have hG2:=kn.e 1 rfl;simp only[go_sem,Qol,hG2,GS.o];intro hl;refine Qh (Qe rfl ?_ ?_)
 ·intro hc;have hv0:0<s.vars.length:=by
   rw[Qao]at hc;cases h:decide (v=0) <;> rw[h]at hc <;> simp_all
  refine Qad ?_;simp only[go_sem,hG2,GS.o];refine of_c (kn.e 0 rfl) (by omega) hv0 fun name H3 hn hu=>?_;have kn:=kn.callE 0 rfl hu (R.o_ne _);simp only[go_sem,Qom];refine Qk ?_;simp only[go_sem,Qz,Q8,Qm4,reduceIte,Ja,forall_eq,RS.op];exact⟨_,.c _ _ (Qg rfl),hK _ _ (k+1+1) (by omega) (by omega) kn.fin⟩
 ·intro hc;refine Qi ?_;simp only[go_sem];refine Qad ?_;have e1:0≤(s.next+1).tmod 24:=J4 _ (by omega);have e2:(s.next+1).tmod 24<24:=J0 _ (by omega);simp only[go_sem,hG2,GS.o];refine⟨by omega,by omega,Qr (by omega) (by omega),by omega,?_⟩;refine Qk ?_;simp only[go_sem,Qz,Q8,Qm4,reduceIte,Ja,forall_eq,RS.op];exact⟨_,.c _ _ (Qg rfl),hK _ _ (k+1) (by omega) (by omega) kn.fin⟩
theorem Qabb {R:Rdr}{gl k:Nat}{s:GS}{x:Ex}{fl:Bool}{H:Heap}{K:V→Heap→Prop}(hR:H R.l=R.o k)(hG:H gl=s.o R)(hne:R.l≠gl)(hs:s.ok k)(hk:k+2≤2^30)
  (hK:∀(name:List UInt8) (H':Heap) (k':Nat),k+1≤k'→k'≤k+2→Upd H H' [(R.l,R.o k'),(gl,GS.o { s with next:=s.next+1,vars:=s.vars++[name],vfl:=false } R)]→K (.ag (St.mk 1 name [x] [] []).cells) H') :
  Qo prog Qi6 [.c (.ptr gl 0),.ag [.int .i64 x.op,.int .i64 x.n,.str x.name,.sl fl 4 (Qbn x.kids)]] H K:=by
 have hv:=hs.v;refine Qc7 ?_;refine Qd Qai Qa0w ?_;refine Qa ?_;simp only[go_sem,x.cells_eq];intro y hy H1 h1;have kn:=(Kn.start2 hR (R.o_ne k) hG (s.o_ne R) hne).al hy h1;refine Qa ?_;simp only[go_sem];refine Qao7 (kn.e 0 rfl) (kn.e 1 rfl) hne hs hk fun name H2 k' g1 g2 hu=>?_;have kn:=kn.callEE 0 1 rfl rfl (by decide) hu (R.o_ne _) (GS.o_ne _ _);have hG2:=kn.e 1 rfl;simp only[go_sem,Qyv];refine Qa ?_;have hL:s.vars.length≤LIM:=by simp only[LIM];omega
 have hL1:s.vars.length+1≤LIM:=by simp only[LIM];omega
 simp only[go_sem,hG2,GS.o,Qao,Qaon,Jf,Jq,hL];refine⟨.inl trivial,Qnt _,?_⟩;intro z hz H3 h3;have kn:=kn.al hz h3;have hz3:=kn.l 1 rfl;have hG3:=kn.e 1 rfl;simp only[go_sem,Qyx,hz3,hG3,GS.o,Qao,Qa6d,hL1,Jae,Jd];refine⟨by omega,fun z' hz' H4 h4=>?_⟩;have kn:=kn.ap 1 rfl hz' h4;have hG4:=kn.e 1 rfl;simp only[go_sem,Qyw,hG4,GS.o];intro H5 h5;have kn:=kn.stE 1 rfl h5;have hy5:=kn.l 0 rfl;refine Qa ?_;simp only[go_sem,hy5];intro H6 h6;have kn:=kn.stL 0 rfl h6;have hy6:=kn.l 0 rfl;refine Qk ?_;simp only[go_sem,Qz,Q8,Qab7,reduceIte,Ja,forall_eq,RS.op,hy6];refine⟨un H,(.ag (St.mk 1 name [x] [] []).cells),(H6.frz (un H)).set gl (GS.o { s with next:=s.next+1,vars:=s.vars++[name],vfl:=false } R),?_,?_,hK name _ k' g1 g2 (kn.fin.set2 hne)⟩
 ·simp only[St.cells,Qbn,Qaz,x.cells_eq];exact (FrzL.cons (Qg rfl) (.cons (Qg rfl) (.cons (FrzR.cons (.cons (Qg rfl) (.cons (Qg rfl) (.cons (Qg rfl) (.cons (FrzR.same (Qkm _)).sl .nil)))) .nil).sl (.cons (FrzR.nil).sl (.cons (FrzR.nil).sl .nil))))).ag
 ·refine (Qd5 _ _).set (Qa6h (kn.usedE 1 rfl)) ?_;rw[kn.e 1 rfl];refine FrzKL.st (.same (.same (.cons rfl ?_ (.same (.same .nil)))));exact Qao2 (kn.un 1 rfl) (kn.l 1 rfl) (by simp[Qbj]) (noOw_mem (Qnt _))
theorem Qby {R : Rdr} {gl k : Nat} {s : GS} {H : Heap} {K : V → Heap → Prop} (deep : Int) (hd : deep ≤ 3) (hR : H R.l = R.o k) (hG : H gl = s.o R) (hne : R.l ≠ gl) (hs : s.ok k) (hF : FnsOk H R gl s) (hk : k + 200 ≤ 2^30)
    (hK : ∀ (x : Ex) (H' : Heap) (k' : Nat), k < k' → k' ≤ k + 200 → Upd H H' [(R.l, R.o k')] → x.ok → k + x.size ≤ k' → K (.ag x.cells) H') :
    Qo prog Qa8 [.c (.ptr gl 0), .c (.int .i64 deep)] H K := by
  have hfl := hs.fn;refine Qu ?_;refine Qd Qai Qat3 ?_;refine Qa ?_;simp only [go_sem];intro x4 hx4 H1 h1;have kn := (Kn.start2 hR (R.o_ne k) hG (s.o_ne R) hne).al hx4 h1;have hG1 := kn.e 1 rfl;refine Qad ?_;simp only [go_sem, hG1, GS.o];refine Qao6 3 deep (by omega) (kn.e 0 rfl) (by omega) fun e H2 k2 g1 g2 hu heok hesz => ?_;have kn := kn.callE 0 rfl hu (R.o_ne _);have hG2 := kn.e 1 rfl;simp only [go_sem, Qt4];intro x5 hx5 H3 h3;have kn := kn.al hx5 h3;have hG3 := kn.e 1 rfl;have hx53 := kn.l 1 rfl;simp only [go_sem, Qt3, hG3, hx53, GS.o, e.cells_len, e.cells_eq];intro H4 h4;have kn := kn.stL 1 rfl h4;have hG4 := kn.e 1 rfl;refine Q5 ?_;refine Qa ?_;simp only [go_sem, hG4, GS.o, hF.ow, hF.ok kn, hF.len];intro hl;have fin : ∀ (op n : Int) (name : List UInt8) (c : C) (kids : List Ex) (H3 : Heap) (k3 : Nat) (L : List (Nat × Obj)), k < k3 → k3 ≤ k + 200 → Kn H H3 [(R.l, R.o k3), (gl, s.o R)] L →
      L[0]? = some (x4, .st [.int .i64 op, .int .i64 n, .str name, c]) → c.isOw = false → FrzC H3 (un H) c (.sl false 4 (Qbn kids)) → (Ex.mk op n name kids).ok → k + (Ex.mk op n name kids).size ≤ k3 →
      Q8 Qjg [(4, V.c (C.ptr x4 0))] H3 (unK H K) := by
    intro op n name c kids H3 k3 L g1 g2 kn g3 hno g4 g5 g6;have hx3 := kn.l 0 g3;simp only [go_sem, Q8, Qjg, reduceIte, Ja, forall_eq, RS.op, hx3, hno];refine ⟨(.ag (Ex.mk op n name kids).cells), ?_, hK _ _ k3 g1 g2 (kn.fin.drop2 hG) g5 g6⟩;rw [Ex.cells_eq];exact (FrzL.cons (Qg rfl) (.cons (Qg rfl) (.cons (Qg rfl) (.cons g4 .nil)))).ag
  have rest : ∀ (b : Bool) (H2 : Heap) (k3 : Nat), k2 ≤ k3 → k3 ≤ k2 + 1 → Kn H H2 [(R.l, R.o k3), (gl, s.o R)] [(x4, .st [.int .i64 0, .int .i64 0, .str [], .sl true 4 []]), (x5, .st [.int .i64 e.op, .int .i64 e.n, .str e.name, .sl false 4 (Qbn e.kids)])] →
      (b = false → 0 < s.fns.length) →
      Qae prog (s_l3Gen_expr_3.seq Qt2) (Qz Qjg (unK H K))
       [(0, V.c (C.ptr gl 0)), (4, V.c (C.ptr x4 0)), (5, V.c (C.ptr x5 0)), (32, .c (.bool b))] H2 := by
    intro b H2 k3 g3 g4 kn hb;have hx52 := kn.l 1 rfl;have hx42 := kn.l 0 rfl;refine Qh (Qe rfl ?_ ?_)
    · intro hb';refine Qa ?_;simp only [go_sem, hx52, hx42];intro H3 h3;have kn := kn.stL 0 rfl h3;refine Qk ?_;simp only [go_sem, Qz]
      cases e with
      | mk op n name kids => exact fin op n name _ kids H3 k3 _ (by omega) (by omega) kn rfl rfl (Qaa6 (noOw_mem (Qkm _))) heok (by omega)
    · intro hb';have hfn := hb hb';refine Qi ?_;simp only [go_sem];have hG3 := kn.e 1 rfl;refine Qad ?_;simp only [go_sem, hG3, GS.o, hF.ow, hF.ok kn, hF.len];refine Qba (kn.e 0 rfl) (by omega) fun v H3 hv hu => ?_;have kn := kn.callE 0 rfl hu (R.o_ne _);rw [if_neg (by omega)] at hv;obtain ⟨i, rfl⟩ := Jo hv.1;have hi : i < s.fns.length := (by omega);have hG4 := kn.e 1 rfl;simp only [go_sem, Qt6, hG4, GS.o, hF.ow, hF.ok kn, hF.len, hF.rows kn, hF.esz, hi, Qhg _ _ hi, Fn.cells];intro x6 hx6 H4 h4;have kn := kn.al hx6 h4;have hG5 := kn.e 1 rfl;have hx64 := kn.l 2 rfl;simp only [go_sem, Qt5, hG5, hx64, GS.o, hF.ow, hF.ok kn, hF.len, hF.rows kn, hF.esz, hi, Qhg _ _ hi, Fn.cells];have hpar := hs.f _ (Jc hi);generalize s.fns[i] = f at *;intro H5 h5;have kn := kn.stL 2 rfl h5;have hx65 := kn.l 2 rfl;refine Qa ?_;simp only [go_sem, hx65];intro x7 hx7 H6 h6;have kn := kn.al hx7 h6;have hx67 := kn.l 2 rfl;have hx77 := kn.l 3 rfl;simp only [go_sem, Qt7, hx67, hx77];intro H7 h7;have kn := kn.stL 3 rfl h7;refine Q5 ?_;refine Qa ?_;simp only [go_sem];refine Qh (Qf (Qw (fun n e1 H1 => ∃ (i k4 : Nat) (kids : List Ex) (c : C) (Lg : List (Nat × Obj)), n = f.params.length - i ∧ i ≤ f.params.length ∧ k4 ≤ k3 + 1 + 21 * i ∧ k3 + 1 + Qah kids ≤ k4 ∧ Qd0 kids ∧ kids.length = i ∧
        Gr Lg 4 (Qbn kids) c ∧ Kn H H1 [(R.l, R.o k4), (gl, s.o R)] ([(x4, .st [.int .i64 0, .int .i64 0, .str [], .sl true 4 []]), (x5, .st [.int .i64 e.op, .int .i64 e.n, .str e.name, .sl false 4 (Qbn e.kids)]),
          (x6, .st [.str f.name, .sl false 1 (Qbj f.params), .sl false 5 (Qaz f.body)]), (x7, .st [.int .i64 13, .int .i64 0, .str f.name, c])] ++ Lg) ∧
        e1 = [(0, V.c (C.ptr gl 0)), (4, V.c (C.ptr x4 0)), (6, V.c (C.ptr x6 0)), (7, V.c (C.ptr x7 0)), (8, V.c (C.int IntKind.i64 i))]) f.params.length ?_ ?_))
      · exact ⟨0, k3 + 1, [], _, [], by omega, by omega, by omega, by simp [Qah], trivial, rfl, .nil 4, kn, rfl⟩
      · rintro n e1 H1 ⟨i, k4, kids, c, Lg, hn, hi1, hk4, hksz, hkok, hkl, hgr, kn, rfl⟩;have hx61 := kn.l 2 rfl;have hx71 := kn.l 3 rfl;have hG1 := kn.e 1 rfl;refine Q5 ?_;refine Qa ?_;simp only [go_sem, hx61, Qao];intro hpl;refine Qh (Qe rfl ?_ ?_)
        · intro hc;have hlt : i < f.params.length := (by simpa using hc);refine Qi ?_;simp only [go_sem];refine Qh (Qf (Qbg ?_));have hcow := hgr.isOw;simp only [go_sem, hx71, hG1, GS.o, hcow];refine Qao6 2 2 (by omega) (kn.e 0 rfl) (by omega) fun z H2 k5 g5 g6 hu hok hsz => ?_;have kn := kn.callE 0 rfl hu (R.o_ne _);have hx72 := kn.l 3 rfl;simp only [go_sem, Qt9, hx72, hcow, z.cells_len];refine kn.grow (new := [z.cells]) hgr (.mk' _ _ _ _) (by simp [z.noOw]) (by simp only [Qa1, Jl, Jn, LIM]; omega) fun y' H3 kn => ?_;have hx73 := kn.l 3 rfl;simp only [go_sem, Qt8, hx73];intro H4 h4;have kn := kn.stL 3 rfl h4;refine Qt ?_;simp only [go_sem];refine ⟨Qr (by omega) (by omega), ?_⟩;refine ⟨f.params.length - (i + 1), by omega, i + 1, k5, kids ++ [z], _, _, rfl, by omega, by omega, ?_, Qbc9 hkok ⟨hok, trivial⟩, by simp [hkl], ?_, kn, ?_⟩
          · simp only [Qzd, Qah]; omega
          · rw [← Qa8y]; exact .mk _ _ _ (by simp)
          · simp
        · intro hc;have hge : f.params.length ≤ i := (by simpa using hc);refine Qv ?_;simp only [go_sem, X.next];refine Q5 ?_;refine Qa ?_;simp only [go_sem, hG1, GS.o];refine Qba (kn.e 0 rfl) (by omega) fun v H2 hv hu => ?_;have kn := kn.callE 0 rfl hu (R.o_ne _);have hx72 := kn.l 3 rfl;have hx42 := kn.l 0 rfl;have hcow := hgr.isOw;have hG2 := kn.e 1 rfl;simp only [go_sem, Qoi];refine Qh (Qe rfl ?_ ?_)
          · intro hc;refine Qa ?_;simp only [go_sem, hx72, hx42, hcow];intro H3 h3;have kn := kn.stL 0 rfl h3;refine Qk ?_;simp only [go_sem, Qz];refine fin 13 0 f.name c kids H3 (k4 + 1) _ (by omega) (by omega) kn rfl hcow (hgr.frz (B := [_, _, _, _]) kn (Qkm _)) ?_ ?_
            · simp only [Ex.ok]; exact ⟨fun h => by simp at h, hkok⟩
            · simp only [Ex.size]; omega
          · intro hc;refine Qi ?_;simp only [go_sem];refine Qad ?_;simp only [go_sem, hx72, hG2, hcow, GS.o];refine Qkz (ns := [3, 4, 8, 10]) (kn.e 0 rfl) (by omega) (by simp) fun op H3 hop hu => ?_;have kn := kn.callE 0 rfl hu (R.o_ne _);have hx73 := kn.l 3 rfl;have hG3 := kn.e 1 rfl;simp only [go_sem, Qok, hx73, hG3, hcow, GS.o];refine Qao6 2 2 (by omega) (kn.e 0 rfl) (by omega) fun z H4 k5 g5 g6 hu hok hsz => ?_;have kn := kn.callE 0 rfl hu (R.o_ne _);have hx74 := kn.l 3 rfl;have hx44 := kn.l 0 rfl;simp only [go_sem, Qoj, hx74, hx44, hcow, z.cells_len];intro H5 h5;have kn := kn.stL 0 rfl h5;refine Qk ?_;simp only [go_sem, Qz];refine fin op 0 [] _ [Ex.mk 13 0 f.name kids, z] H5 k5 _ (by omega) (by omega) kn rfl rfl ?_ ?_ ?_
            · refine FrzR.sl (.cons ?_ (.cons (.same z.noOw) .nil));rw [Ex.cells_eq];exact .cons (Qg rfl) (.cons (Qg rfl) (.cons (Qg rfl) (.cons (hgr.frz (B := [_, _, _, _]) kn (Qkm _)) .nil)))
            · simp only [Ex.ok, Qd0]; exact ⟨fun h => rfl, ⟨fun h => by simp at h, hkok⟩, hok, trivial⟩
            · simp only [Ex.size, Qah]; omega
  refine ⟨fun hb => ?_, fun hb => ?_⟩
  · refine Qba (kn.e 0 rfl) (by omega) fun v H5 hv hu => ?_;have kn := kn.callE 0 rfl hu (R.o_ne _);simp only [go_sem, Qio];refine rest _ H5 (k2 + 1) (by omega) (by omega) kn ?_;intro h;have : ¬ s.fns.length = 0 := (by simpa using hb);omega
  · have hb2 : decide ((s.fns.length : Int) = 0) = true := (by simpa using hb);simp only [go_sem, Qio, hb2];exact rest true H4 k2 (by omega) (by omega) kn (fun h => by simp at h)
theorem Q44 {R:Rdr}{gl k:Nat}{s:GS}{H:Heap}{K:V→Heap→Prop}(hR:H R.l=R.o k)(hG:H gl=s.o R)(hne:R.l≠gl)(hs:s.ok k)(hF:FnsOk H R gl s)(hk:k+201≤2^30)
  (hK:∀(x:Ex) (H':Heap) (k':Nat),k<k'→k'≤k+201→Upd H H' [(R.l,R.o k')]→x.ok→2 * k+x.size≤2 * k'→K (.ag x.cells) H') :
  Qo prog Qg2 [.c (.ptr gl 0)] H K:=by
 refine Qu ?_;refine Qd Qai Qat2 ?_;refine Qa ?_;simp only[go_sem];intro x2 hx2 H1 h1;have kn:=(Kn.start2 hR (R.o_ne k) hG (s.o_ne R) hne).al hx2 h1;have hG1:=kn.e 1 rfl;refine Qad ?_;simp only[go_sem,hG1,GS.o];refine Qby 2 (by omega) (kn.e 0 rfl) (kn.e 1 rfl) hne hs (hF.keep kn rfl rfl) (by omega) fun e H2 k2 g1 g2 hu heok hesz=>?_;have kn:=kn.callE 0 rfl hu (R.o_ne _);have hG2:=kn.e 1 rfl;simp only[go_sem,Qt1,hG2,GS.o];refine Qkz (ns:=[16,16,16,8,17,0]) (kn.e 0 rfl) (by omega) (by simp) fun v H3 hv hu=>?_;have kn:=kn.callE 0 rfl hu (R.o_ne _);have hx23:=kn.l 0 rfl;simp only[go_sem,Qt0,hx23,e.cells_len];intro H4 h4;have kn:=kn.stL 0 rfl h4;have hx24:=kn.l 0 rfl;refine Qk ?_;simp only[go_sem,Qz,Q8,Q5d,reduceIte,Ja,forall_eq,RS.op,hx24];refine⟨(.ag (Ex.mk 7 0 [] [e,Ex.mk 1 v [] []]).cells),?_,hK _ _ (k2+1) (by omega) (by omega) (kn.fin.drop2 hG) ?_ ?_⟩
 ·rw[Ex.cells_eq (Ex.mk 7 0 [] _)];refine FrzL.ag ?_;refine .cons (Qg rfl) (.cons (Qg rfl) (.cons (Qg rfl) (.cons (FrzR.sl (.cons (.same e.noOw) (.cons ?_ .nil))) .nil)));simp only[Ex.cells,Qbn];exact .cons (Qg rfl) (.cons (Qg rfl) (.cons (Qg rfl) (.cons (FrzR.nil).sl .nil)))
 ·simp only[Ex.ok,Qd0];exact⟨fun h=>rfl,heok,⟨fun h=>by simp at h,trivial⟩,trivial⟩
 ·simp only[Ex.size,Qah];omega
def Qbmm (d:Nat):Prop:=∀(R:Rdr) (gl k:Nat) (s:GS) (H:Heap) (K:V→Heap→Prop) (deep:Int),deep≤d→H R.l=R.o k→H gl=s.o R→R.l≠gl→s.ok k→FnsOk H R gl s→k+500 * 10^d≤2^30→
  (∀(l:List St) (s':GS) (H':Heap) (k':Nat),k<k'→k'≤k+500 * 10^d→Upd H H' [(R.l,R.o k'),(gl,s'.o R)]→s'.ok k'→s.left+4 * (k:Int)≤s'.left+4 * (k':Int)→s'.fns=s.fns→s'.ffl=s.ffl→l.length≤2→Qcx l→4 * k+Q1 l≤4 * k'→K (.c (.sl false 5 (Qaz l))) H')→
  Qo prog Qmk [.c (.ptr gl 0),.c (.int .i64 deep)] H K
def Qaai (d:Nat):Prop:=∀(R:Rdr) (gl k:Nat) (s:GS) (H:Heap) (K:V→Heap→Prop) (deep:Int),deep≤d→H R.l=R.o k→H gl=s.o R→R.l≠gl→s.ok k→FnsOk H R gl s→k+2001 * 10^d≤2^30→
  (∀(l:List St) (c:C) (Lg:List (Nat×Obj)) (s':GS) (H':Heap) (k':Nat),k<k'→k'≤k+2001 * 10^d→Upd H H' [(R.l,R.o k'),(gl,s'.o R)]→Gr Lg 5 (Qaz l) c→New H H' Lg→s'.ok k'→s.left+4 * (k:Int)≤s'.left+4 * (k':Int)→s'.fns=s.fns→s'.ffl=s.ffl→
   l.length≤8→Qcx l→4 * k+Q1 l≤4 * k'→K (.c c) H')→
  Qo prog Qca [.c (.ptr gl 0),.c (.int .i64 deep)] H K
theorem Qa6o {d:Nat}(hS:Qbmm d):Qaai d:=by
 intro R gl k s H K deep hd hR hG hne hs hF hk hK;have hp0:d<10^d:=Jy (by omega);generalize hpe:10^d=e at *;have hS':=hS;simp only[Qbmm]at hS';rw[hpe]at hS';generalize hM:500 * e=M at *;refine Qc7 ?_;refine Qd Qai Qapi ?_;refine Qa ?_;simp only[go_sem];refine Qa ?_;simp only[go_sem,hG,GS.o];refine Qa ?_;simp only[go_sem];refine Q5 ?_;refine Qa ?_;simp only[go_sem,hG,GS.o];have kn:=Kn.start2 hR (R.o_ne k) hG (s.o_ne R) hne;refine Qkz (ns:=[2,3,1,4]) hR (by omega) (by simp) fun v H1 hv hu=>?_;have kn:=kn.callE 0 rfl hu (R.o_ne _);simp only[go_sem,Qof];have hv4:1≤v∧v≤4:=by simp at hv;omega
 refine Qh (Qf (Qw (fun n e1 H1=>∃(j k4:Nat) (l:List St) (c:C) (Lg:List (Nat×Obj)) (s':GS),n=v.toNat-j∧(j:Int)≤v∧k+1≤k4∧k4≤k+1+M * j∧4 * k+Q1 l≤4 * k4∧Qcx l∧l.length≤2 * j∧
    Gr Lg 5 (Qaz l) c∧s'.ok k4∧s.left+4 * (k:Int)≤s'.left+4 * (k4:Int)∧s'.fns=s.fns∧s'.ffl=s.ffl∧Kn H H1 [(R.l,R.o k4),(gl,s'.o R)] ([]++Lg)∧
    e1=[(0,V.c (C.ptr gl 0)),(1,.c (.int .i64 deep)),(5,.c (.sl s.vfl 1 (Qbj s.vars))),(6,.c c),(7,V.c (C.int IntKind.i64 (v-j)))]) v.toNat ?_ ?_))
 ·exact⟨0,k+1,[],_,[],s,by omega,by omega,by omega,by omega,by simp only[Q1];omega,trivial,by simp,.nil 5,hs.mono (by omega),by omega,rfl,rfl,kn,by simp⟩
 ·rintro n e1 H1 ⟨j,k4,l,c,Lg,s',hn,hj,hk4,hk4',hsz,hok,hll,hgr,hs',hlf,hf1,hf2,kn,rfl⟩;have hG1:=kn.e 1 rfl;have hMj:M * j≤M * 4:=Jz _ (by omega);refine Q5 ?_;refine Qa ?_;simp only[go_sem,hG1,GS.o];refine Qh (Qe rfl ?_ ?_)
  ·intro hc;have hi:(j:Int)<v:=by
    cases h:decide (0<v-(j:Int))with
    |true=>have:0<v-(j:Int):=by simpa using h
           omega
    |false=>rw[h]at hc;simp at hc
   have hM1:M * (j+1)=M * j+M:=Jam _ _;have hM2:M * (j+1)≤M * 4:=Jz _ (by omega);refine Qi ?_;simp only[go_sem];refine Qh (Qf (Qt ?_));simp only[go_sem];refine hS' _ _ _ _ _ _ deep hd (kn.e 0 rfl) (kn.e 1 rfl) hne hs' (hF.keep kn hf1 hf2) (by omega) fun l2 s2 H2 k5 g1 g2 hu g3 glf g4 g5 g6 g7 g8=>?_;have kn:=kn.callEE 0 1 rfl rfl (by decide) hu (R.o_ne _) (GS.o_ne _ _);simp only[go_sem,Qoh];refine kn.grow hgr (.mk' _ _ _ (Qaz l2)) (Qhj _) (by simp only[Qa5,LIM];omega) fun y' H3 kn=>?_;simp only[go_sem,Qog];refine Qt ?_;simp only[go_sem];refine⟨Qr (by omega) (by omega),?_⟩;simp only[X.next];refine⟨v.toNat-(j+1),by omega,j+1,k5,l++l2,.vsl y' 5 0 ((Qaz l).length+(Qaz l2).length),_,s2,rfl,by omega,by omega,by omega,?_,Qahz hok g7,by simp;omega,?_,g3,by omega,g4.trans hf1,g5.trans hf2,kn,?_⟩
   ·rw[Qiv];omega
   ·rw[Qahy];exact .mk _ _ _ (by simp[Qa5])
   ·have:v-((j+1:Nat):Int)=v-j-1:=(by omega);rw[this]
  ·intro hc;refine Qv ?_;simp only[go_sem,X.next];refine Qa ?_;simp only[go_sem,hG1,GS.o];intro H2 h2;have kn:Kn H H2 [(R.l,R.o k4),(gl,GS.o { s' with vars:=s.vars,vfl:=s.vfl } R)] ([]++Lg):=kn.stE 1 rfl h2;refine Qa ?_;simp only[go_sem];refine Qk ?_;simp only[go_sem,Qz,Q8,Q1d,reduceIte,Ja,forall_eq,RS.op];refine⟨unx H Lg,_,H2.frz (unx H Lg),.c _ _ (.same _ hgr.isOw),Qd5 _ _,?_⟩;refine hK l c Lg _ _ k4 (by omega) (by omega) kn.finx.1 hgr kn.finx.2 ⟨hs'.n0,hs'.n1,hs'.l0,hs'.l1,?_,hs'.f,hs'.fn⟩ (by show _≤s'.left+_;omega) hf1 hf2 (by omega) hok hsz;have:=hs.v;show s.vars.length≤_;omega
def Qbml (d:Nat):Prop:=∀(R:Rdr) (gl k:Nat) (s:GS) (H:Heap) (K:V→Heap→Prop) (deep:Int),deep≤d+1→2≤deep→H R.l=R.o k→H gl=s.o R→R.l≠gl→s.ok k→FnsOk H R gl s→k+2001 * 10^d+10≤2^30→
  (∀(l:List St) (s':GS) (H':Heap) (k':Nat),k+2<k'→k'≤k+2001 * 10^d+3→Upd H H' [(R.l,R.o k'),(gl,s'.o R)]→s'.ok k'→s.left+4 * (k:Int)≤s'.left+4 * (k':Int)→s'.fns=s.fns→s'.ffl=s.ffl→l.length≤2→Qcx l→4 * k+Q1 l≤4 * k'→K (.c (.sl false 5 (Qaz l))) H')→
  Qo prog Qmj [.c (.ptr gl 0),.c (.int .i64 deep)] H K
theorem Qbny {d:Nat}(hB:Qaai d):Qbml d:=by
 intro R gl k s H K deep hd hd2 hR hG hne hs hF hk hK;have hp0:d<10^d:=Jy (by omega);have hB':=hB;simp only[Qaai]at hB';generalize hpe:10^d=e at *;refine Qu ?_;refine Qd Qai Qat4 ?_;refine Qa ?_;simp only[go_sem];refine Qa ?_;simp only[go_sem,hG,GS.o];have kn:=Kn.start2 hR (R.o_ne k) hG (s.o_ne R) hne;refine Qkz (ns:=[2,3,1,0,5]) hR (by omega) (by simp) fun v H1 hv hu=>?_;have kn:=kn.callE 0 rfl hu (R.o_ne _);simp only[go_sem,Qud];refine Qabb (x:=Ex.mk 1 v [] []) (fl:=true) (kn.e 0 rfl) (kn.e 1 rfl) hne (hs.mono (Jai k)) (by omega) fun name H2 k2 g1 g2 hu=>?_;have kn:=kn.callEE 0 1 rfl rfl (by decide) hu (R.o_ne _) (GS.o_ne _ _);simp only[go_sem,Quc];intro x5 hx5 H3 h3;have kn:=kn.al hx5 h3;have hx53:=kn.l 0 rfl;simp only[go_sem,Qub,hx53,St.cells_len,St.cells];intro H4 h4;have kn:=kn.stL 0 rfl h4;have hx54:=kn.l 0 rfl;refine Qa ?_;simp only[go_sem,hx54];intro x6 hx6 H5 h5;have kn:=kn.al hx6 h5;have hx65:=kn.l 1 rfl;simp only[go_sem,Que,hx65];intro H6 h6;have kn:=kn.stL 1 rfl h6;refine Qa ?_;simp only[go_sem];refine⟨Qr (by omega) (by omega),?_⟩;have hs2:GS.ok { s with next:=s.next+1,vars:=s.vars++[name],vfl:=false } k2:=by
  refine⟨?_,?_,?_,hs.l1,?_,hs.f,hs.fn⟩
  ·have:=hs.n0;show -1≤s.next+1;omega
  ·have:=hs.n1;show s.next+1≤_;omega
  ·have:=hs.l0;show _≤s.left;omega
  ·have:=hs.v;show (s.vars++[name]).length≤_;simp;omega
 refine hB' _ _ _ _ _ _ (deep-1) (by omega) (kn.e 0 rfl) (kn.e 1 rfl) hne hs2 (hF.keep kn rfl rfl) (by omega) fun l c Lg s3 H7 k3 g3 g4 hu hgr hnew hs3 glf g5 g6 g7 g8 g9=>?_;have kn0:=kn;have kn:=kn.callEE 0 1 rfl rfl (by decide) hu (R.o_ne _) (GS.o_ne _ _);have kn:=kn0.addGr kn rfl rfl hgr hnew;have hx57:=kn.l 0 rfl;have hx67:=kn.l 1 rfl;simp only[go_sem,Quf];refine Qa ?_;simp only[go_sem,hx57,hx67];intro x8 hx8 H8 h8;have kn:=kn.al hx8 h8;have kn:=kn.perm (L':=[(x5,_),(x6,_),(x8,_)]++Lg) (by
  simp only[List.set,Jq,Jr,Jj];refine .cons _ (.cons _ ?_);exact Ji)
 have hx88:=kn.l 2 rfl;simp only[go_sem,Qug,hx88];intro H9 h9;have kn:=kn.stL 2 rfl h9;have hG9:=kn.e 1 rfl;refine Qa ?_;simp only[go_sem,hG9,GS.o];have hl0:=hs3.l0;have hl1:=hs3.l1;refine⟨Qr (by omega) (by omega),fun H10 h10=>?_⟩;have kn:Kn H H10 [(R.l,R.o k3),(gl,GS.o { s3 with left:=s3.left-2 } R)] ([(x5,_),(x6,_),(x8,_)]++Lg):=kn.stE 1 rfl h10;have hx5a:=kn.l 0 rfl;have hx6a:=kn.l 1 rfl;have hx8a:=kn.l 2 rfl;refine Qad ?_;simp only[go_sem,hx5a,hx6a,hx8a];refine kn.grow hgr (.mk' _ _ _ _) (by intro r hr;simp only[Ja]at hr;subst hr;rfl) (by simp only[Qa5,LIM,Jl,Jn];omega) fun y' H11 kn=>?_;have hx5b:=kn.l 0 rfl;have hx6b:=kn.l 1 rfl;have hyb:=kn.l 3 rfl;simp only[go_sem,Quh,hx5b,hx6b];refine Qk ?_;simp only[go_sem,Qz,Q8,Q5e,reduceIte,Ja,forall_eq,RS.op];have hok1:GS.ok { s3 with left:=s3.left-2 } k3:=⟨hs3.n0,hs3.n1,by show _≤s3.left-2;have:=hs.l0;simp only at glf;omega,by show s3.left-2≤100;omega,hs3.v,hs3.f,hs3.fn⟩;refine⟨.c (.sl false 5 (Qaz [St.mk 1 name [Ex.mk 1 v [] []] [] [],St.mk 6 [] [Ex.mk 2 0 name []] (l++[St.mk 2 name [Ex.mk 4 0 [] [Ex.mk 2 0 name [],Ex.mk 1 1 [] []]] [] []]) []])),.c _ _ ?_,hK _ _ _ k3 (by omega) (by omega) kn.fin hok1 (by show _≤s3.left-2+_;simp only at glf;omega) g5 g6 (by simp) ?_ ?_⟩
 ·simp only[Qaz,St.cells,Qbn,Ex.cells,←Qahy]
  repeat' first|exact FrzL.nil|exact FrzR.nil|exact Qg rfl|exact FrzL.same (Ex.noOw _)|exact FrzL.same (St.noOw _)|refine FrzL.cons ?_ ?_|refine FrzR.cons ?_ ?_|refine FrzR.sl ?_
  refine FrzR.vsl (kn.un 3 rfl) hyb (by simp) (.app (.same (Qhj _)) ?_)
  repeat' first|exact FrzL.nil|exact FrzR.nil|exact Qg rfl|exact FrzL.same (Ex.noOw _)|exact FrzL.same (St.noOw _)|refine FrzL.cons ?_ ?_|refine FrzR.cons ?_ ?_|refine FrzR.sl ?_
 ·simp only[Qcx,St.ok,Qd0,Ex.ok];refine⟨⟨by simp,⟨⟨fun h=>by simp at h,trivial⟩,trivial⟩,trivial,trivial⟩,⟨by simp,⟨⟨fun h=>by simp at h,trivial⟩,trivial⟩,Qahz g8 ?_,trivial⟩,trivial⟩;simp[Qcx,St.ok,Qd0,Ex.ok]
 ·simp only[Q1,St.size,Qiv,Qah,Ex.size];omega
theorem Qbqo {A L1 L2:List (Nat×Obj)}:(A++L1++L2).Perm (A++L2++L1):=by
 rw[Jj,Jj];exact .append_left _ Ji
set_option maxHeartbeats 2000000 in
theorem Qbg5 {d : Nat} (hB : ∀ d', d = d' + 1 → Qaai d') : Qbmm d := by
  intro R gl k s H K deep hd hR hG hne hs hF hk hK;have hp0 : d < 10^d := Jy (by omega);have hex : ∃ e, 10^d = e ∧ ∀ d', d = d' + 1 → 10 * 10^d' = e := ⟨10^d, rfl, fun d' h => by rw [h, Nat.pow_succ]; omega⟩;obtain ⟨e, hpe, he'⟩ := hex;rw [hpe] at hp0 hk hK;have hl0 := hs.l0;have hl1 := hs.l1;refine Qu ?_;refine Qd Qai Qat5 ?_;refine Qa ?_;simp only [go_sem];refine Qa ?_;simp only [go_sem, hG, GS.o];refine ⟨Qr (by omega) (by omega), fun H1 h1 => ?_⟩;have kn : Kn H H1 [(R.l, R.o k), (gl, GS.o { s with left := s.left - 1 } R)] [] := (Kn.start2 hR (R.o_ne k) hG (s.o_ne R) hne).stE 1 rfl h1;have hs1 : GS.ok { s with left := s.left - 1 } (k + 1) := ⟨hs.n0, by have := hs.n1; show s.next ≤ _; omega, by show _ ≤ s.left - 1; omega, by show s.left - 1 ≤ 100; omega, by have := hs.v; show s.vars.length ≤ _; omega, hs.f, hs.fn⟩;have hlr : s.left ≤ ({ s with left := s.left - 1 } : GS).left + 1 := by show s.left ≤ s.left - 1 + 1; omega
  have hfn : ({ s with left := s.left - 1 } : GS).fns = s.fns := rfl;have hff : ({ s with left := s.left - 1 } : GS).ffl = s.ffl := rfl;have hF1 : FnsOk H R gl { s with left := s.left - 1 } := ⟨hF.1, hF.2⟩;generalize ({ s with left := s.left - 1 } : GS) = s1 at *;have hG1 := kn.e 1 rfl;refine Qa ?_;simp only [go_sem, hG1, GS.o];refine Qba (kn.e 0 rfl) (by omega) fun v H2 hv hu => ?_;have kn : Kn H H2 [(R.l, R.o (k + 1)), (gl, s1.o R)] [] := kn.callE 0 rfl hu (R.o_ne _);have hG2 := kn.e 1 rfl;simp only [go_sem, Quk];have fin : ∀ (l : List St) (c : C) (s' : GS) (H3 : Heap) (k3 : Nat) (L : List (Nat × Obj)), k < k3 → k3 ≤ k + 500 * e → Kn H H3 [(R.l, R.o k3), (gl, s'.o R)] L → FrzC H3 (un H) c (.sl false 5 (Qaz l)) →
      s'.ok k3 → s1.left + 4 * ((k + 1 : Nat) : Int) ≤ s'.left + 4 * (k3 : Int) → s'.fns = s1.fns → s'.ffl = s1.ffl → l.length ≤ 2 → Qcx l → 4 * k + Q1 l ≤ 4 * k3 → ∃ x', FrzV H3 (un H) (.c c) x' ∧ K x' (H3.frz (un H)) := by
    intro l c s' H3 k3 L g1 g2 kn g3 g4 g5 g6 g7 g8 g9 g10;exact ⟨_, .c _ _ g3, hK l s' _ k3 g1 g2 kn.fin g4 (by omega) (g6.trans hfn) (g7.trans hff) g8 g9 g10⟩
  refine Qh (Qf ?_);refine Qa ?_;simp only [go_sem, hG2, GS.o, Qao];intro hvl;refine Qe rfl ?_ ?_
  ·
    intro hc;have hv0 : 0 < s1.vars.length := by
      cases h : decide (v < 3) with
      | true => rw [h] at hc; simp at hc; omega
      | false => rw [h] at hc; simp at hc
    refine Qad ?_;simp only [go_sem, hG2, GS.o];refine of_c (kn.e 0 rfl) (by omega) hv0 fun name H3 hn hu => ?_;have kn := kn.callE 0 rfl hu (R.o_ne _);simp only [go_sem, Qum];refine Qby 3 (by omega) (kn.e 0 rfl) (kn.e 1 rfl) hne (hs1.mono (by omega)) (hF1.keep kn rfl rfl) (by omega) fun x H4 k4 g1 g2 hu g3 g4 => ?_;have kn := kn.callE 0 rfl hu (R.o_ne _);simp only [go_sem, Qul, x.cells_len];refine Qk ?_;simp only [go_sem, Qz, Q8, Qbb, reduceIte, Ja, forall_eq, RS.op];refine fin [St.mk 2 name [x] [] []] _ s1 H4 k4 _ (by omega) (by omega) kn ?_ (hs1.mono (by omega)) (by omega) rfl rfl (by simp) ?_ ?_
    · simp only [Qaz, St.cells, Qbn]
      repeat' first | exact FrzL.nil | exact FrzR.nil | exact Qg rfl | exact FrzL.same (Ex.noOw _) | exact FrzL.same (St.noOw _) | refine FrzL.cons ?_ ?_ | refine FrzR.cons ?_ ?_ | refine FrzR.sl ?_
    · simp only [Qcx, St.ok, Qd0]; exact ⟨⟨by simp, ⟨g3, trivial⟩, trivial, trivial⟩, trivial⟩
    · simp only [Q1, St.size, Qah]; omega
  intro hc0;refine Qa ?_;simp only [go_sem];refine Qe rfl ?_ ?_
  ·
    intro hc;refine Qa ?_;simp only [go_sem];refine Qby 3 (by omega) (kn.e 0 rfl) (kn.e 1 rfl) hne (hs1.mono (by omega)) (hF1.keep kn rfl rfl) (by omega) fun x H4 k4 g1 g2 hu g3 g4 => ?_;have kn := kn.callE 0 rfl hu (R.o_ne _);simp only [go_sem, Quo, x.cells_eq];refine Qabb (x := x) (kn.e 0 rfl) (kn.e 1 rfl) hne (hs1.mono (by omega)) (by omega) fun name H5 k5 g5 g6 hu => ?_;have kn := kn.callEE 0 1 rfl rfl (by decide) hu (R.o_ne _) (GS.o_ne _ _);simp only [go_sem, Qun, St.cells_len];refine Qk ?_;simp only [go_sem, Qz, Q8, Qbb, reduceIte, Ja, forall_eq, RS.op];have h0 := hs1.n0;have h1 := hs1.n1;have h2 := hs1.l0;have h3 := hs1.v;refine fin [St.mk 1 name [x] [] []] _ _ H5 k5 _ (by omega) (by omega) kn ?_ ⟨?_, ?_, ?_, hs1.l1, ?_, hs1.f, hs1.fn⟩ (by show _ ≤ s1.left + _; omega) rfl rfl (by simp) ?_ ?_
    · simp only [Qaz]
      repeat' first | exact FrzL.nil | exact FrzR.nil | exact Qg rfl | exact FrzL.same (Ex.noOw _) | exact FrzL.same (St.noOw _) | refine FrzL.cons ?_ ?_ | refine FrzR.cons ?_ ?_ | refine FrzR.sl ?_
    · show -1 ≤ s1.next + 1; omega
    · show s1.next + 1 ≤ _; omega
    · show _ ≤ s1.left; omega
    · show (s1.vars ++ [name]).length ≤ _; simp; omega
    · simp only [Qcx, St.ok, Qd0]; exact ⟨⟨by simp, ⟨g3, trivial⟩, trivial, trivial⟩, trivial⟩
    · simp only [Q1, St.size, Qah]; omega
  intro hc1;refine Qa ?_;simp only [go_sem];refine Qe rfl ?_ ?_
  ·
    intro hc;refine Qa ?_;simp only [go_sem];refine Qby 3 (by omega) (kn.e 0 rfl) (kn.e 1 rfl) hne (hs1.mono (by omega)) (hF1.keep kn rfl rfl) (by omega) fun x H4 k4 g1 g2 hu g3 g4 => ?_;have kn := kn.callE 0 rfl hu (R.o_ne _);simp only [go_sem, Qup, x.cells_len];refine Qk ?_;simp only [go_sem, Qz, Q8, Qbb, reduceIte, Ja, forall_eq, RS.op];refine fin [St.mk 3 [] [x] [] []] _ s1 H4 k4 _ (by omega) (by omega) kn ?_ (hs1.mono (by omega)) (by omega) rfl rfl (by simp) ?_ ?_
    · simp only [Qaz, St.cells, Qbn]
      repeat' first | exact FrzL.nil | exact FrzR.nil | exact Qg rfl | exact FrzL.same (Ex.noOw _) | exact FrzL.same (St.noOw _) | refine FrzL.cons ?_ ?_ | refine FrzR.cons ?_ ?_ | refine FrzR.sl ?_
    · simp only [Qcx, St.ok, Qd0]; exact ⟨⟨by simp, ⟨g3, trivial⟩, trivial, trivial⟩, trivial⟩
    · simp only [Q1, St.size, Qah]; omega
  intro hc2;have hdp : 2 ≤ deep := by
    cases h : decide (v < 7) with
    | true => rw [h] at hc2; simp at hc2
    | false => rw [h] at hc2; simp at hc2; omega
  obtain ⟨d', hdd⟩ : ∃ d', d = d' + 1 := ⟨d - 1, by omega⟩;have hB0 : Qaai d' := hB d' hdd;have hL0 : Qbml d' := Qbny hB0;have hB' := hB0;have hL' := hL0;simp only [Qaai, Qbml] at hB' hL';have he1 := he' d' hdd;have hp1 : d' < 10^d' := Jy (by omega);generalize 10^d' = e1 at *;refine Qa ?_;simp only [go_sem];refine Qe rfl ?_ ?_
  ·
    intro hc;refine Qa ?_;simp only [go_sem];refine Q44 (kn.e 0 rfl) (kn.e 1 rfl) hne (hs1.mono (by omega)) (hF1.keep kn rfl rfl) (by omega) fun x H4 k4 g1 g2 hu g3 g4 => ?_;have kn := kn.callE 0 rfl hu (R.o_ne _);simp only [go_sem, Qur, x.cells_len];refine Qby 2 (by omega) (kn.e 0 rfl) (kn.e 1 rfl) hne (hs1.mono (by omega)) (hF1.keep kn rfl rfl) (by omega) fun y H5 k5 g5 g6 hu g7 g8 => ?_;have kn := kn.callE 0 rfl hu (R.o_ne _);simp only [go_sem, Quq, x.cells_len, y.cells_len];refine Qk ?_;simp only [go_sem, Qz, Q8, Qbb, reduceIte, Ja, forall_eq, RS.op];refine fin [St.mk 4 [] [x, y] [] []] _ s1 H5 k5 _ (by omega) (by omega) kn ?_ (hs1.mono (by omega)) (by omega) rfl rfl (by simp) ?_ ?_
    · simp only [Qaz, St.cells, Qbn]
      repeat' first | exact FrzL.nil | exact FrzR.nil | exact Qg rfl | exact FrzL.same (Ex.noOw _) | exact FrzL.same (St.noOw _) | refine FrzL.cons ?_ ?_ | refine FrzR.cons ?_ ?_ | refine FrzR.sl ?_
    · simp only [Qcx, St.ok, Qd0]; exact ⟨⟨by simp, ⟨g3, g7, trivial⟩, trivial, trivial⟩, trivial⟩
    · simp only [Q1, St.size, Qah]; omega
  intro hc3;refine Qa ?_;simp only [go_sem];refine Qe rfl ?_ ?_
  ·
    intro hc;refine Qa ?_;simp only [go_sem];refine Q44 (kn.e 0 rfl) (kn.e 1 rfl) hne (hs1.mono (by omega)) (hF1.keep kn rfl rfl) (by omega) fun x H4 k4 g1 g2 hu g3 g4 => ?_;have kn := kn.callE 0 rfl hu (R.o_ne _);simp only [go_sem, Qus, x.cells_len];refine Qk ?_;simp only [go_sem, Qz, Q8, Qbb, reduceIte, Ja, forall_eq, RS.op];refine fin [St.mk 3 [] [Ex.mk 12 0 [] [x]] [] []] _ s1 H4 k4 _ (by omega) (by omega) kn ?_ (hs1.mono (by omega)) (by omega) rfl rfl (by simp) ?_ ?_
    · rw [Qaz, Qaz, St.cells, Qbn, Qbn, Ex.cells_eq (Ex.mk 12 0 [] _)];simp only [Qaz, Qbn, Ex.kids, Ex.op, Ex.n, Ex.name]
      repeat' first | exact FrzL.nil | exact FrzR.nil | exact Qg rfl | exact FrzL.same (Ex.noOw _) | exact FrzL.same (St.noOw _) | refine FrzL.cons ?_ ?_ | refine FrzR.cons ?_ ?_ | refine FrzR.sl ?_
    · simp only [Qcx, St.ok, Qd0, Ex.ok]; exact ⟨⟨by simp, ⟨⟨fun h => by simp at h, g3, trivial⟩, trivial⟩, trivial, trivial⟩, trivial⟩
    · simp only [Q1, St.size, Qah, Ex.size]; omega
  intro hc4;refine Qa ?_;simp only [go_sem];refine Qe rfl ?_ ?_
  ·
    intro hc;refine Qa ?_;simp only [go_sem];refine Qby 3 (by omega) (kn.e 0 rfl) (kn.e 1 rfl) hne (hs1.mono (by omega)) (hF1.keep kn rfl rfl) (by omega) fun x H4 k4 g1 g2 hu g3 g4 => ?_;have kn := kn.callE 0 rfl hu (R.o_ne _);simp only [go_sem, Qoo, x.cells_len];refine ⟨Qr (by omega) (by omega), ?_⟩;refine hB' _ _ _ _ _ _ (deep - 1) (by omega) (kn.e 0 rfl) (kn.e 1 rfl) hne (hs1.mono (by omega)) (hF1.keep kn rfl rfl) (by omega) fun b1 c1 L1 s2 H5 k5 g5 g6 hu hg1 hnew hs2 glf g7 g8 g9 g10 g11 => ?_;have kn0 := kn;have kn := kn.callEE 0 1 rfl rfl (by decide) hu (R.o_ne _) (GS.o_ne _ _);have kn := kn0.addGr kn rfl rfl hg1 hnew;have hc1ow := hg1.isOw;simp only [go_sem, Qon];intro x6 hx6 H6 h6;have kn := kn.al hx6 h6;have kn := kn.perm (L' := [(x6, _)] ++ L1) Ji;have hx66 := kn.l 0 rfl;simp only [go_sem, Qut, hx66];intro H7 h7;have kn : Kn H H7 [(R.l, R.o k5), (gl, s2.o R)] ([(x6, _)] ++ L1) := kn.stL 0 rfl h7;have hG7 := kn.e 1 rfl;refine Q5 ?_;refine Qa ?_;simp only [go_sem, hG7, GS.o];refine Qba (kn.e 0 rfl) (by omega) fun v2 H8 hv2 hu => ?_;have kn : Kn H H8 [(R.l, R.o (k5 + 1)), (gl, s2.o R)] ([(x6, _)] ++ L1) := kn.callE 0 rfl hu (R.o_ne _);simp only [go_sem, Qop];have rest : ∀ (E1 : Env) (hE : lk 6 E1 = V.c (C.ptr x6 0)) (c2 : C) (b2 : List St) (L2 : List (Nat × Obj)) (s3 : GS) (H9 : Heap) (k6 : Nat), k5 + 1 ≤ k6 → k6 ≤ k5 + 1 + 2001 * e1 → Gr L2 5 (Qaz b2) c2 →
        Kn H H9 [(R.l, R.o k6), (gl, s3.o R)] ([(x6, .st [.int .i64 5, .str [], .sl true 4 [x.cells], c1, c2])] ++ L1 ++ L2) → s3.ok k6 → s2.left + 4 * ((k5 + 1 : Nat) : Int) ≤ s3.left + 4 * (k6 : Int) → s3.fns = s2.fns → s3.ffl = s2.ffl → Qcx b2 → 4 * (k5 + 1) + Q1 b2 ≤ 4 * k6 →
        Qae prog Qui (X.inBlock 0 (X.sq prog Qip (Qz Qbb (unK H K)))) E1 H9 := by
      intro E1 hE c2 b2 L2 s3 H9 k6 e1 e2 hg2 kn e3 e4 e5 e6 e7 e8;have hx69 := kn.l 0 rfl;have hc2ow := hg2.isOw;refine Qa ?_;simp only [go_sem, hE, hx69, hc1ow, hc2ow];refine Qk ?_;simp only [go_sem, Qz, Q8, Qbb, reduceIte, Ja, forall_eq, RS.op];refine fin [St.mk 5 [] [x] b1 b2] _ s3 H9 k6 _ (by omega) (by omega) kn ?_ e3 (by omega) (e5.trans g7) (e6.trans g8) (by simp) ?_ ?_
      · simp only [Qaz, St.cells, Qbn]
        repeat' first | exact FrzL.nil | exact FrzR.nil | exact Qg rfl | exact FrzL.same (Ex.noOw _) | exact FrzL.same (St.noOw _) | refine FrzL.cons ?_ ?_ | refine FrzR.cons ?_ ?_ | refine FrzR.sl ?_
        · exact hg1.frz (kn.perm Qbqo) (Qhj _)
        · exact hg2.frz kn (Qhj _)
      · simp only [Qcx, St.ok, Qd0]; exact ⟨⟨by simp, ⟨g3, trivial⟩, g10, e7⟩, trivial⟩
      · simp only [Q1, St.size, Qah]; omega
    refine Qh (Qe rfl ?_ ?_)
    · intro hc';refine Qt ?_;simp only [go_sem];refine ⟨Qr (by omega) (by omega), ?_⟩;refine hB' _ _ _ _ _ _ (deep - 1) (by omega) (kn.e 0 rfl) (kn.e 1 rfl) hne (hs2.mono (by omega)) (hF1.keep kn g7 g8) (by omega) fun b2 c2 L2 s3 H9 k6 q1 q2 hu hg2 hnew hs3 q3 q4 q5 q6 q7 q8 => ?_;have kn0 := kn;have kn := kn.callEE 0 1 rfl rfl (by decide) hu (R.o_ne _) (GS.o_ne _ _);have kn := kn0.addGr kn rfl rfl hg2 hnew;have hx69 := kn.l 0 rfl;simp only [go_sem, Qoq, hx69];intro H10 h10;have kn : Kn H H10 [(R.l, R.o k6), (gl, s3.o R)] ([(x6, _)] ++ L1 ++ L2) := kn.stL 0 rfl h10;exact rest _ (by simp [lk]) c2 b2 L2 s3 H10 k6 (by omega) (by omega) hg2 kn hs3 (by omega) q4 q5 q7 (by omega)
    · intro hc';refine Qi ?_;simp only [go_sem];exact rest _ (by simp [lk]) _ [] [] s2 H8 (k5 + 1) (by omega) (by omega) (.nil 5) (by rw [List.append_nil]; exact kn) (hs2.mono (by omega)) (by omega) rfl rfl trivial (by simp only [Q1]; omega)
  · intro hc5;refine Qa ?_;simp only [go_sem, hG2, GS.o];have rest : ∀ (b : Bool) (H3 : Heap) (k3 : Nat), k + 1 ≤ k3 → k3 ≤ k + 2 → Kn H H3 [(R.l, R.o k3), (gl, s1.o R)] [] →
        Qae prog Quj (X.inBlock 0 (X.sq prog Qip (Qz Qbb (unK H K))))
         [(0, V.c (C.ptr gl 0)), (1, .c (.int .i64 deep)), (109, .c (.bool b))] H3 := by
      intro b H3 k3 e3 e4 kn;refine Qe rfl ?_ ?_
      · intro hb;refine Qa ?_;simp only [go_sem];refine Qby 2 (by omega) (kn.e 0 rfl) (kn.e 1 rfl) hne (hs1.mono (by omega)) (hF1.keep kn rfl rfl) (by omega) fun x H4 k4 g1 g2 hu g3 g4 => ?_;have kn := kn.callE 0 rfl hu (R.o_ne _);simp only [go_sem, Qor, x.cells_len];refine Qk ?_;simp only [go_sem, Qz, Q8, Qbb, reduceIte, Ja, forall_eq, RS.op];refine fin [St.mk 7 [] [x] [] []] _ s1 H4 k4 _ (by omega) (by omega) kn ?_ (hs1.mono (by omega)) (by omega) rfl rfl (by simp) ?_ ?_
        · simp only [Qaz, St.cells, Qbn]
          repeat' first | exact FrzL.nil | exact FrzR.nil | exact Qg rfl | exact FrzL.same (Ex.noOw _) | exact FrzL.same (St.noOw _) | refine FrzL.cons ?_ ?_ | refine FrzR.cons ?_ ?_ | refine FrzR.sl ?_
        · simp only [Qcx, St.ok, Qd0]; exact ⟨⟨by simp, ⟨g3, trivial⟩, trivial, trivial⟩, trivial⟩
        · simp only [Q1, St.size, Qah]; omega
      · intro hb;refine Qi ?_;simp only [go_sem];refine Qa ?_;simp only [go_sem];refine hL' _ _ _ _ _ _ deep (by omega) hdp (kn.e 0 rfl) (kn.e 1 rfl) hne (hs1.mono (by omega)) (hF1.keep kn rfl rfl) (by omega) fun l s2 H4 k4 g1 g2 hu g3 g4 g5 g6 g7 g8 g9 => ?_;have kn := kn.callEE 0 1 rfl rfl (by decide) hu (R.o_ne _) (GS.o_ne _ _);simp only [go_sem, Qos];refine Qk ?_;simp only [go_sem, Qz, Q8, Qbb, reduceIte, Ja, forall_eq, RS.op];exact fin l _ s2 H4 k4 _ (by omega) (by omega) kn (Qg rfl) g3 (by omega) g5 g6 g7 g8 (by omega)
    refine ⟨fun hb => ?_, fun hb => ?_⟩
    · refine Qba (kn.e 0 rfl) (by omega) fun v2 H3 hv2 hu => ?_;have kn := kn.callE 0 rfl hu (R.o_ne _);simp only [go_sem, Qgd];exact rest _ H3 (k + 1 + 1) (by omega) (by omega) kn
    · simp only [go_sem, Qgd, hb];exact rest _ H2 (k + 1) (by omega) (by omega) kn
theorem Qbmu (d:Nat):Qaai d:=by
 induction d with
 |zero=>exact Qa6o (Qbg5 (fun d' h=>absurd h (by omega)))
 |succ d ih=>exact Qa6o (Qbg5 (fun d' h=>by
   have:d'=d:=by omega
   rw[this];exact ih))
set_option maxHeartbeats 1000000 in
theorem Qant {R:Rdr}{gl k:Nat}{s:GS}{name:List UInt8}{params:Int}{H:Heap}{K:V→Heap→Prop}(hp0:0≤params)(hp3:params≤3)(hR:H R.l=R.o k)(hG:H gl=s.o R)(hne:R.l≠gl)(hs:s.ok k)(hF:FnsOk H R gl s)(hk:k+2001300≤2^30)
  (hK:∀(f:Fn) (s':GS) (H':Heap) (k':Nat),k<k'→k'≤k+2001300→Upd H H' [(R.l,R.o k'),(gl,s'.o R)]→s'.ok k'→s'.fns=s.fns→s'.ffl=s.ffl→f.params.length≤3→Qcx f.body→4 * k+Q1 f.body≤4 * k'→K (.ag f.cells) H') :
  Qo prog Qmi [.c (.ptr gl 0),.c (.str name),.c (.int .i64 params)] H K:=by
 obtain⟨np,rfl⟩:=Jo hp0;refine Qu ?_;refine Qd Qai Qa9n ?_;refine Qa ?_;simp only[go_sem];intro x6 hx6 H1 h1;have kn:=(Kn.start2 hR (R.o_ne k) hG (s.o_ne R) hne).al hx6 h1;have hG1:=kn.e 1 rfl;refine Qa ?_;have etk:List.take np [[C.str [97]],[C.str [98]],[C.str [99]]]=Qbj (List.take np [[97],[98],[99]]):=by simp[Qbj,List.map_take]
 simp only[go_sem,hG1,GS.o,etk];refine⟨⟨by omega,by omega⟩,fun H2 h2=>?_⟩;have kn:Kn H H2 [(R.l,R.o k),(gl,GS.o { s with vars:=List.take np [[97],[98],[99]],vfl:=false } R)] [(x6,_)]:=kn.stE 1 rfl h2;have hG2:=kn.e 1 rfl;refine Qa ?_;simp only[go_sem,hG2,GS.o];refine⟨Qr (by omega) (by omega),fun H3 h3=>?_⟩;have kn:Kn H H3 [(R.l,R.o k),(gl,GS.o { s with vars:=List.take np [[97],[98],[99]],vfl:=false,next:=(np:Int)-1 } R)] [(x6,_)]:=kn.stE 1 rfl h3;have hs1:GS.ok { s with vars:=List.take np [[97],[98],[99]],vfl:=false,next:=(np:Int)-1 } k:=
  ⟨by show -1≤(np:Int)-1;omega,by show (np:Int)-1≤_;omega,hs.l0,hs.l1,by show (List.take np _).length≤_;simp;omega,hs.f,hs.fn⟩
 have hvl:(List.take np [[97],[98],[99]]:List (List UInt8)).length≤3:=by simp;omega
 have hfn:GS.fns { s with vars:=List.take np [[97],[98],[99]],vfl:=false,next:=(np:Int)-1 }=s.fns:=rfl;have hff:GS.ffl { s with vars:=List.take np [[97],[98],[99]],vfl:=false,next:=(np:Int)-1 }=s.ffl:=rfl;have hvv:GS.vars { s with vars:=List.take np [[97],[98],[99]],vfl:=false,next:=(np:Int)-1 }=List.take np [[97],[98],[99]]:=rfl;rw[←hvv]at hvl;have hF1:FnsOk H R gl { s with vars:=List.take np [[97],[98],[99]],vfl:=false,next:=(np:Int)-1 }:=⟨hF.1,hF.2⟩;generalize ({ s with vars:=List.take np [[97],[98],[99]],vfl:=false,next:=(np:Int)-1 }:GS)=s1 at *;have hG3:=kn.e 1 rfl;refine Qa ?_;have hL:s1.vars.length≤LIM:=by simp only[LIM];omega
 simp only[go_sem,hG3,GS.o,Qao,Jf,Jq,hL];refine⟨.inl trivial,Qnt _,fun y hy H4 h4=>?_⟩;have kn:=kn.al hy h4;simp only[go_sem,Q2j];intro x7 hx7 H5 h5;have kn:=kn.al hx7 h5;have hx75:=kn.l 2 rfl;simp only[go_sem,Q2i,hx75];intro H6 h6;have kn:Kn H H6 [(R.l,R.o k),(gl,s1.o R)] [(x6,_),(y,_),(x7,_)]:=kn.stL 2 rfl h6;refine Qa ?_;simp only[go_sem];refine Qbmu 3 _ _ _ _ _ _ 3 (by omega) (kn.e 0 rfl) (kn.e 1 rfl) hne hs1 (hF1.keep kn rfl rfl) (by omega) fun l c Lg s2 H7 k2 g1 g2 hu hgr hnew hs2 glf g3 g4 g5 g6 g7=>?_;have kn0:=kn;have kn:=kn.callEE 0 1 rfl rfl (by decide) hu (R.o_ne _) (GS.o_ne _ _);have kn:=kn0.addGr kn rfl rfl hgr hnew;have hx77:=kn.l 2 rfl;simp only[go_sem,Q2k,hx77];intro H8 h8;have kn:Kn H H8 [(R.l,R.o k2),(gl,s2.o R)] ([(x6,.st [.str [],.sl true 1 [],.sl true 5 []]),(y,.vec 1 (Qbj s1.vars)),(x7,.st [.str name,.vsl y 1 0 s1.vars.length,c])]++Lg):=kn.stL 2 rfl h8;have hG8:=kn.e 1 rfl;refine Q5 ?_;refine Qa ?_;simp only[go_sem,hG8,GS.o];have hcow:=hgr.isOw;have rest:∀(E1:Env) (hE6:lk 6 E1=V.c (C.ptr x6 0)) (hE7:lk 7 E1=V.c (C.ptr x7 0)) (l2:List St) (c2:C) (rws:List (List C)) (L2:List (Nat×Obj)) (s3:GS) (H9:Heap) (k3:Nat),k<k3→k3≤k+2001300→
   Kn H H9 [(R.l,R.o k3),(gl,s3.o R)] ([(x6,.st [.str [],.sl true 1 [],.sl true 5 []]),(y,.vec 1 (Qbj s1.vars)),(x7,.st [.str name,.vsl y 1 0 s1.vars.length,c2])]++L2)→Gr L2 5 rws c2→(∀H',FrzR H' (un H) rws (Qaz l2))→
   s3.ok k3→s3.fns=s1.fns→s3.ffl=s1.ffl→Qcx l2→4 * k+Q1 l2≤4 * k3→Qae prog Qua (Qz Qv5 (unK H K)) E1 H9:=by
  intro E1 hE6 hE7 l2 c2 rws L2 s3 H9 k3 e1 e2 kn hg2 hfr e3 e4 e5 e6 e7;have hx69:=kn.l 0 rfl;have hx79:=kn.l 2 rfl;have hcow:=hg2.isOw;refine Qa ?_;simp only[go_sem,hE6,hE7,hx69,hx79,hcow];intro H10 h10;have kn:=kn.stL 0 rfl h10;have hx6a:=kn.l 0 rfl;have hya:=kn.l 1 rfl;refine Qk ?_;simp only[go_sem,Qz,Q8,Qv5,reduceIte,Ja,forall_eq,RS.op,hx6a,hcow];refine⟨(.ag (Fn.mk name s1.vars l2).cells),?_,hK _ s3 _ k3 e1 e2 kn.fin e3 (e4.trans hfn) (e5.trans hff) hvl e6 e7⟩;refine FrzL.ag (.cons (Qg rfl) (.cons ?_ (.cons ?_ .nil)))
  ·exact Qao2 (kn.un 1 rfl) hya (by simp[Qbj]) (noOw_mem (Qnt _))
  ·exact hg2.frzR (B:=[_,_,_]) kn (hfr _)
 have tl:∀(b:Bool) (H9:Heap) (k3:Nat),k2≤k3→k3≤k2+1→(b=true→0<s2.left)→Kn H H9 [(R.l,R.o k3),(gl,s2.o R)] ([(x6,.st [.str [],.sl true 1 [],.sl true 5 []]),(y,.vec 1 (Qbj s1.vars)),(x7,.st [.str name,.vsl y 1 0 s1.vars.length,c])]++Lg)→
   Qae prog (s_l3Gen_fn_7.seq Qua) (Qz Qv5 (unK H K)) [(0,V.c (C.ptr gl 0)),(6,V.c (C.ptr x6 0)),(7,V.c (C.ptr x7 0)),(42,.c (.bool b))] H9:=by
  intro b H9 k3 e1 e2 hb kn;have hG9:=kn.e 1 rfl;refine Qh (Qe rfl ?_ ?_)
  ·intro hc;have hlp:=hb hc;have hl1:=hs2.l1;refine Qa ?_;simp only[go_sem,hG9,GS.o];refine⟨Qr (by omega) (by omega),fun H10 h10=>?_⟩;have kn:Kn H H10 [(R.l,R.o k3),(gl,GS.o { s2 with left:=s2.left-1 } R)] ([(x6,_),(y,_),(x7,_)]++Lg):=kn.stE 1 rfl h10;have hs3:GS.ok { s2 with left:=s2.left-1 } k3:=⟨hs2.n0,by have:=hs2.n1;show s2.next≤_;omega,by show _≤s2.left-1;omega,by show s2.left-1≤100;omega,by have:=hs2.v;show s2.vars.length≤_;omega,hs2.f,hs2.fn⟩;have hx7a:=kn.l 2 rfl;refine Qbg ?_;simp only[go_sem,hx7a,hcow];refine Qby 2 (by omega) (kn.e 0 rfl) (kn.e 1 rfl) hne hs3 (hF1.keep kn g3 g4) (by omega) fun x H11 k4 q1 q2 hu q3 q4=>?_;have kn:=kn.callE 0 rfl hu (R.o_ne _);have hx7b:=kn.l 2 rfl;simp only[go_sem,Q2m,hx7b,hcow,x.cells_len];refine kn.grow (B:=[_,_,_]) hgr (.mk' _ _ _ _) (by intro r hr;simp only[Ja]at hr;subst hr;rfl) (by simp only[Qa5,LIM,Jl,Jn];omega) fun y' H12 kn=>?_;have hx7c:=kn.l 2 rfl;simp only[go_sem,Q2l,hx7c];intro H13 h13;have kn:=kn.stL 2 rfl h13;refine rest _ (by simp[lk]) (by simp[lk]) (l++[St.mk 7 [] [x] [] []]) _ _ _ _ H13 k4 (by omega) (by omega) kn (.mk _ _ _ (by simp[Qa5])) (fun H'=>?_) (hs3.mono (by omega)) g3 g4 (Qahz g6 ?_) ?_
   ·rw[←Qahy];refine .app (.same (Qhj _)) ?_;simp only[Qaz,St.cells,Qbn]
    repeat' first|exact FrzL.nil|exact FrzR.nil|exact Qg rfl|exact FrzL.same (Ex.noOw _)|exact FrzL.same (St.noOw _)|refine FrzL.cons ?_ ?_|refine FrzR.cons ?_ ?_|refine FrzR.sl ?_
   ·simp only[Qcx,St.ok,Qd0];exact⟨⟨by simp,⟨q3,trivial⟩,trivial,trivial⟩,trivial⟩
   ·simp only[Qiv,Q1,St.size,Qah];omega
  ·intro hc;refine Qi ?_;simp only[go_sem];exact rest _ (by simp[lk]) (by simp[lk]) l c _ Lg s2 H9 k3 (by omega) (by omega) kn hgr (fun H'=>.same (Qhj _)) (hs2.mono (by omega)) g3 g4 g6 (by omega)
 refine⟨fun hb=>?_,fun hb=>?_⟩
 ·refine Qba (kn.e 0 rfl) (by omega) fun v H9 hv hu=>?_;have kn:=kn.callE 0 rfl hu (R.o_ne _);simp only[go_sem,Qni,hb];exact tl _ H9 (k2+1) (by omega) (by omega) (fun _=>by simpa using hb) kn
 ·simp only[go_sem,Qni,hb];exact tl false H8 k2 (by omega) (by omega) (fun h=>by simp at h) kn
variable {H:Heap}{K:V→Heap→Prop}
theorem Qqu {l:List Ex}{i:Nat}(h:i<l.length):Qah (l.take (i+1))=Qah (l.take i)+(l[i]'h).size:=by
 rw[Jk h,Qzd];simp[Qah]
theorem Qvp {l:List St}{i:Nat}(h:i<l.length):Q1 (l.take (i+1))=Q1 (l.take i)+(l[i]'h).size:=by
 rw[Jk h,Qiv];simp[Q1]
theorem Qhm (l:List Ex)(i:Nat):Qah (l.take i)≤Qah l:=by
 conv=>rhs;rw[←Jw i l,Qzd]
 omega
theorem Qiw (l:List St)(i:Nat):Q1 (l.take i)≤Q1 l:=by
 conv=>rhs;rw[←Jw i l,Qiv]
 omega
theorem St.size_pos (x:St):1≤x.size:=by rw[x.size_eq];omega
theorem Qah0 (l:List St):l.length≤Q1 l:=by
 induction l with
 |nil=>simp
 |cons x r ih=>simp only[Jl,Q1];have:=x.size_pos;omega
theorem Qbdy:∀(n:Nat) (x:Ex) {H:Heap} {K:V→Heap→Prop},x.size≤n→x.size≤2^40→K (.c (.int .i64 x.size)) H→Qo prog Qvv [.ag x.cells] H K:=by
 intro n
 induction n with
 |zero=>intro x _ _ h;have:=x.size_pos;omega
 |succ n ih=>
 intro x H K hn hb hK;have hsz:=x.size_kids;refine Qd Qai Qbee ?_;refine Qa ?_;simp only[go_sem,x.cells_eq];refine Qa ?_;simp only[go_sem];refine Q5 ?_;refine Qa ?_;simp only[go_sem];refine Qh (Qf (Qw (fun n e1 H1=>∃i:Nat,n=x.kids.length-i∧i≤x.kids.length∧H1=H∧e1=[(1,.c (.pp [.int .i64 x.op,.int .i64 x.n,.str x.name,.sl false 4 (Qbn x.kids)])),(3,.c (.int .i64 ((1+Qah (x.kids.take i):Nat):Int))),(4,.c (.int .i64 i))]) x.kids.length ?_ ?_))
 ·exact⟨0,by omega,by omega,rfl,by simp[Qah]⟩
 ·rintro n e1 H1 ⟨i,hn,hi,rfl,rfl⟩;refine Q5 ?_;refine Qa ?_;simp only[go_sem,Qa1];intro hl;simp only[LIM]at hl;refine Qh (Qe rfl ?_ ?_)
  ·intro hc;have hlt:i<x.kids.length:=by simpa using hc
   have hm:=Qeu (Jc hlt);have htk:=Qqu hlt;have htl:=Qhm x.kids (i+1);refine Qi ?_;simp only[go_sem];refine Qh (Qf (Qt ?_));simp only[go_sem,hlt,Qa1,Qet _ _ hlt,Ex.take4,Ex.allOw,Ex.cells_len];refine ih _ (by omega) (by omega) ?_;simp only[go_sem,Q6f];refine⟨Qr (by omega) (by omega),?_⟩;refine Qt ?_;simp only[go_sem,X.next];refine⟨Qr (by omega) (by omega),x.kids.length-(i+1),by omega,i+1,rfl,by omega,?_⟩;rw[htk];simp;omega
  ·intro hc;have hge:x.kids.length≤i:=by simpa using hc
   refine Qv ?_;simp only[go_sem,X.next];refine Qa ?_;simp only[go_sem];refine Qk ?_;simp only[go_sem,Qz,Q8,Qaur,reduceIte,Ja,forall_eq,RS.op];rw[Jd hge,←hsz];exact hK
theorem Qbix:∀(n:Nat) (x:Ex) {H:Heap} {K:V→Heap→Prop} (deep:Int),x.size≤n→deep≤100→(∀b:Bool,K (.c (.bool b)) H)→Qo prog Q0o [.ag x.cells,.c (.int .i64 deep)] H K:=by
 intro n
 induction n with
 |zero=>intro x _ _ _ h;have:=x.size_pos;omega
 |succ n ih=>
 intro x H K deep hn hd hK;have hsz:=x.size_kids;refine Qd Qai Qbjf ?_;refine Qa ?_;simp only[go_sem,x.cells_eq];refine Qa ?_;simp only[go_sem];refine Qbiy fun lo hi=>?_;simp only[go_sem,Qadm,Jx,J6];refine Q5 ?_;refine Qa ?_;simp only[go_sem];have retf:∀(b:Bool) (e:Env),lk 4 e=.c (.bool b)→Qz Q1b K .ret e H:=by
  intro b e h1;simp only[go_sem,Qz,Q8,Q1b,Ja,forall_eq,RS.op,h1];exact hK _
 have rest:∀b:Bool,(b=false→1≤deep)→Qae prog (s_l2Form_3.seq Qadl) (Qz Q1b K)
   [(1,.c (.int .i64 deep)),(2,.c (.pp [.int .i64 x.op,.int .i64 x.n,.str x.name,.sl false 4 (Qbn x.kids)])),(31,.c (.bool b))] H:=by
  intro b hb;refine Qh (Qe rfl ?_ ?_)
  ·intro hc;refine Qa ?_;simp only[go_sem];refine Qk ?_;simp only[go_sem];exact retf false _ (by simp[lk])
  intro hc;have hdp:=hb hc;refine Qi ?_;simp only[go_sem];refine Qa ?_;simp only[go_sem];refine Q5 ?_;refine Qa ?_;simp only[go_sem];refine Q96 fun b1=>?_;simp only[go_sem,Qadn];have rest2:∀b:Bool,Qae prog (s_l2Form_6.seq Qadk) (Qz Q1b K)
    [(1,.c (.int .i64 deep)),(2,.c (.pp [.int .i64 x.op,.int .i64 x.n,.str x.name,.sl false 4 (Qbn x.kids)])),(69,.c (.bool b))] H:=by
   intro b;refine Qh (Qe rfl ?_ ?_)
   ·intro hc;refine Qa ?_;simp only[go_sem];refine Qk ?_;simp only[go_sem];exact retf false _ (by simp[lk])
   intro hc;refine Qi ?_;simp only[go_sem];refine Q5 ?_;refine Qa ?_;simp only[go_sem];refine Qh (Qf (Qw (fun n e1 H1=>∃i:Nat,n=x.kids.length-i∧i≤x.kids.length∧H1=H∧e1=[(1,.c (.int .i64 deep)),(2,.c (.pp [.int .i64 x.op,.int .i64 x.n,.str x.name,.sl false 4 (Qbn x.kids)])),(8,.c (.int .i64 i))]) x.kids.length ?_ ?_))
   ·exact⟨0,by omega,by omega,rfl,rfl⟩
   ·rintro n e1 H1 ⟨i,hn,hi,rfl,rfl⟩;refine Q5 ?_;refine Qa ?_;simp only[go_sem,Qa1];intro hl;simp only[LIM]at hl;refine Qh (Qe rfl ?_ ?_)
    ·intro hc;have hlt:i<x.kids.length:=(by simpa using hc);have hm:=Qeu (Jc hlt);refine Qi ?_;simp only[go_sem];refine Qh (Qf ?_);refine Qa ?_;simp only[go_sem,hlt,Qa1,Qet _ _ hlt,Ex.take4,Ex.allOw,Ex.cells_len];refine⟨Qr (by omega) (by omega),?_⟩;refine ih _ (deep-1) (by omega) (by omega) fun b2=>?_;simp only[go_sem,Qado];refine Qe rfl ?_ ?_
     ·intro hc2;refine Qa ?_;simp only[go_sem];refine Qk ?_;simp only[go_sem,X.next];exact retf false _ (by simp[lk])
     ·intro hc2;refine Qi ?_;simp only[go_sem];refine Qt ?_;simp only[go_sem,X.next];exact⟨Qr (by omega) (by omega),x.kids.length-(i+1),by omega,i+1,rfl,by omega,rfl⟩
    ·intro hc;refine Qv ?_;simp only[go_sem,X.next];refine Qa ?_;simp only[go_sem];refine Qk ?_;exact retf true _ (by simp[lk])
  refine⟨fun hb1=>?_,fun hb1=>?_⟩
  ·refine Qds ?_;simp only[go_sem,Qz5];exact rest2 _
  ·replace hb1:=Qgc hb1;simp only[go_sem,Qz5,hb1];exact rest2 _
 refine⟨fun hb1=>?_,fun hb1=>?_⟩
 ·replace hb1:=Qpp hb1;have hdp:1≤deep:=by simp at hb1;omega
  refine Qds ?_;simp only[go_sem,Qz4,hb1,Qa1,cond_false];intro hl;refine⟨fun hb2=>?_,fun hb2=>?_⟩
  ·refine Qds ?_;simp only[go_sem,Qnh];exact rest _ (fun _=>hdp)
  ·replace hb2:=Qgc hb2;simp only[go_sem,Qnh,hb2];exact rest _ (fun _=>hdp)
 ·replace hb1:=Qgc hb1;simp only[go_sem,Qz4,Qnh,hb1,Qa1,cond_true];exact rest _ (fun h=>by simp at h)
theorem Qazt {x:Ex}(hx:x.size≤2^40)(hK:∀b:Bool,K (.c (.bool b)) H):Qo prog Qh0 [.ag x.cells] H K:=by
 refine Qd Qai Qaip ?_;refine Qa ?_;simp only[go_sem,Ex.ne_nil];refine Qa ?_;simp only[go_sem,Ex.take4,Ex.allOw,Ex.cells_len];refine Qbix x.size x 6 (Jg _) (by omega) fun b=>?_;simp only[go_sem,Qlv,Ex.take4,Ex.allOw,Ex.cells_len];refine⟨fun hb=>?_,fun hb=>?_⟩
 ·refine Qbdy x.size x (Jg _) hx ?_;simp only[go_sem,Qe1];refine Qk ?_;simp only[go_sem,Qz,Q8,Qkc,reduceIte,Ja,forall_eq,RS.op];exact hK _
 ·simp only[go_sem,Qe1,hb];refine Qk ?_;simp only[go_sem,Qz,Q8,Qkc,reduceIte,Ja,forall_eq,RS.op];exact hK _
def St.raw (x:St):List C:=[.int .i64 x.op,.str x.name,.sl false 4 (Qbn x.args),.sl false 5 (Qaz x.body),.sl false 5 (Qaz x.els)]
theorem Qbd0:∀(n:Nat) (l:List St) {fl:Bool} {H:Heap} {K:V→Heap→Prop},Q1 l≤n→Q1 l≤2^40→(∀v:Nat,v≤Q1 l→K (.c (.int .i64 v)) H)→Qo prog Qkq [.c (.sl fl 5 (Qaz l))] H K:=by
 intro n
 induction n using Nat.strongRecOn with
 |ind n ih=>
 intro l fl H K hn hb hK;have hlen:=Qah0 l;refine Qd Qai Qbeh ?_;refine Qa ?_;simp only[go_sem];refine Qa ?_;simp only[go_sem,Qa5];intro hl;refine Q5 ?_;refine Qa ?_;simp only[go_sem];refine Qh (Qf (Qw (fun n e1 H1=>∃(i v:Nat),n=l.length-i∧i≤l.length∧v≤(l.length-i)+Q1 (l.take i)∧H1=H∧e1=[(0,.c (.sl fl 5 (Qaz l))),(3,.c (.int .i64 v)),(4,.c (.int .i64 i))]) l.length ?_ ?_))
 ·exact⟨0,l.length,by omega,by omega,by omega,rfl,rfl⟩
 ·rintro n e1 H1 ⟨i,v,hn1,hi,hv,rfl,rfl⟩;refine Q5 ?_;refine Qa ?_;simp only[go_sem,Qa5];simp only[LIM]at hl;refine fun _=>?_;refine Qh (Qe rfl ?_ ?_)
  ·intro hc;have hlt:i<l.length:=by simpa using hc
   have hm:=Qnu (Jc hlt);have htk:=Qvp hlt;have htl:=Qiw l (i+1);have hse:=(l[i]'hlt).size_eq;refine Qi ?_;simp only[go_sem];refine Qh (Qf (Qbg ?_));simp only[go_sem,hlt,Qa5,Qe7 _ _ hlt,St.cells_eq];refine ih (Q1 l[i].body) (by omega) l[i].body (Jg _) (by omega) fun a ha=>?_;simp only[go_sem,Q6i,hlt,Qa5,Qe7 _ _ hlt,St.cells_eq];refine⟨Qr (by omega) (by omega),?_⟩;refine ih (Q1 l[i].els) (by omega) l[i].els (Jg _) (by omega) fun c hc=>?_;simp only[go_sem,Q6h];refine⟨Qr (by omega) (by omega),?_⟩;refine Qt ?_;simp only[go_sem,X.next];refine⟨Qr (by omega) (by omega),l.length-(i+1),by omega,i+1,v+a+c,rfl,by omega,by omega,rfl⟩
  ·intro hc;have hge:l.length≤i:=by simpa using hc
   refine Qv ?_;simp only[go_sem,X.next];refine Qa ?_;simp only[go_sem];refine Qk ?_;simp only[go_sem,Qz,Q8,Qaus,reduceIte,Ja,forall_eq,RS.op];rw[Jd hge]at hv;exact hK v (by omega)
def Qbpo (n:Nat):Prop:=∀(x:St) (deep:Int) (H:Heap) (K:V→Heap→Prop),x.size≤n→x.size≤2^40→deep≤100→(∀b:Bool,K (.c (.bool b)) H)→Qo prog Qaa0 [.ag x.cells,.c (.int .i64 deep)] H K
def Qbco (n:Nat):Prop:=∀(l:List St) (deep:Int) (fl:Bool) (H:Heap) (K:V→Heap→Prop),Q1 l≤n→Q1 l≤2^40→deep≤100→(∀b:Bool,K (.c (.bool b)) H)→Qo prog Qkr [.c (.sl fl 5 (Qaz l)),.c (.int .i64 deep)] H K
theorem Qblp {n:Nat}(hS:Qbpo n):Qbco n:=by
 intro l deep fl H K hn hb hd hK;refine Qd Qai Qbei ?_;have retf:∀(b:Bool) (e:Env),lk 4 e=.c (.bool b)→Qz Qab8 K .ret e H:=by
  intro b e h1;simp only[go_sem,Qz,Q8,Qab8,Ja,forall_eq,RS.op,h1];exact hK _
 refine Qa ?_;simp only[go_sem];refine Q5 ?_;refine Qa ?_;simp only[go_sem];refine Qh (Qf (Qw (fun n e1 H1=>∃(i:Nat),n=l.length-i∧i≤l.length∧H1=H∧e1=[(0,.c (.sl fl 5 (Qaz l))),(1,.c (.int .i64 deep)),(5,.c (.int .i64 i))]) l.length ?_ ?_))
 ·exact⟨0,by omega,by omega,rfl,rfl⟩
 ·rintro n e1 H1 ⟨i,hn1,hi,rfl,rfl⟩;refine Q5 ?_;refine Qa ?_;simp only[go_sem,Qa5];intro hl;simp only[LIM]at hl;refine Qh (Qe rfl ?_ ?_)
  ·intro hc;have hlt:i<l.length:=by simpa using hc
   have hm:=Qnu (Jc hlt);refine Qi ?_;simp only[go_sem];refine Qh (Qf ?_);refine Qa ?_;simp only[go_sem,hlt,Qa5,Qe7 _ _ hlt,St.take5,St.allOw,St.cells_len];refine hS _ deep _ _ (by omega) (by omega) hd fun b=>?_;simp only[go_sem,Q6r];refine Qe rfl ?_ ?_
   ·intro hc2;refine Qa ?_;simp only[go_sem];refine Qk ?_;simp only[go_sem,X.next];exact retf false _ (by simp[lk])
   ·intro hc2;refine Qi ?_;simp only[go_sem];refine Qt ?_;simp only[go_sem,X.next];exact⟨Qr (by omega) (by omega),l.length-(i+1),by omega,i+1,rfl,by omega,rfl⟩
  ·intro hc;refine Qv ?_;simp only[go_sem,X.next];refine Qa ?_;simp only[go_sem];refine Qk ?_;exact retf true _ (by simp[lk])
theorem Qbo0 {n:Nat}(hS:∀m,m<n→Qbco m):Qbpo n:=by
 intro x deep H K hn hb hd hK;have hsz:=x.size_eq;refine Qd Qai Qbjk ?_;have retf:∀(b:Bool) (e:Env),lk 4 e=.c (.bool b)→Qz Qaae K .ret e H:=by
  intro b e h1;simp only[go_sem,Qz,Q8,Qaae,Ja,forall_eq,RS.op,h1];exact hK _
 refine Qa ?_;simp only[go_sem,x.cells_eq];refine Q5 ?_;refine Qad ?_;simp only[go_sem];have rest:∀b:Bool,(b=false→1≤deep∧x.args.length=if x.op=4 then 2 else 1)→Qae prog (s_l3Stmt_2.seq Qaew) (Qz Qaae K)
   [(1,.c (.int .i64 deep)),(2,.c (.pp [.int .i64 x.op,.str x.name,.sl false 4 (Qbn x.args),.sl false 5 (Qaz x.body),.sl false 5 (Qaz x.els)])),(23,.c (.bool b))] H:=by
  intro b hb;refine Qh (Qe rfl ?_ ?_)
  ·intro hc;refine Qa ?_;simp only[go_sem];refine Qk ?_;simp only[go_sem];exact retf false _ (by simp[lk])
  intro hc;obtain⟨hdp,hal⟩:=hb hc;have hap:0<x.args.length:=by rw[hal];split <;> omega
  refine Qi ?_;simp only[go_sem];refine Qa ?_;simp only[go_sem];refine Q5 ?_;refine Qa ?_;simp only[go_sem];refine Q96 fun b1=>?_;simp only[go_sem,Qaex];refine Qh (Qe rfl ?_ ?_)
  ·intro hc;refine Qa ?_;simp only[go_sem];refine Qk ?_;simp only[go_sem];exact retf false _ (by simp[lk])
  intro hc;refine Qi ?_;simp only[go_sem];refine Q5 ?_;refine Qa ?_;simp only[go_sem];refine Qh (Qf (Qw (fun n e1 H1=>∃(i:Nat),n=x.args.length-i∧i≤x.args.length∧H1=H∧e1=[(1,.c (.int .i64 deep)),(2,.c (.pp [.int .i64 x.op,.str x.name,.sl false 4 (Qbn x.args),.sl false 5 (Qaz x.body),.sl false 5 (Qaz x.els)])),(6,.c (.int .i64 i))]) x.args.length ?_ ?_))
  ·exact⟨0,by omega,by omega,rfl,rfl⟩
  ·rintro n e1 H1 ⟨i,hn1,hi,rfl,rfl⟩;refine Q5 ?_;refine Qa ?_;simp only[go_sem,Qa1];intro hl;simp only[LIM]at hl;refine Qh (Qe rfl ?_ ?_)
   ·intro hc;have hlt:i<x.args.length:=(by simpa using hc);have hm:=Qeu (Jc hlt);refine Qi ?_;simp only[go_sem];refine Qh (Qf ?_);refine Qa ?_;simp only[go_sem,hlt,Qa1,Qet _ _ hlt,Ex.take4,Ex.allOw,Ex.cells_len];refine Qazt (by omega) fun b=>?_;simp only[go_sem,Qaey];refine Qe rfl ?_ ?_
    ·intro hc2;refine Qa ?_;simp only[go_sem];refine Qk ?_;simp only[go_sem,X.next];exact retf false _ (by simp[lk])
    ·intro hc2;refine Qi ?_;simp only[go_sem];refine Qt ?_;simp only[go_sem,X.next];exact⟨Qr (by omega) (by omega),x.args.length-(i+1),by omega,i+1,rfl,by omega,rfl⟩
   ·intro hc;refine Qv ?_;simp only[go_sem,X.next];refine Q5 ?_;refine Qa ?_;simp only[go_sem,hap,Qa1,Qet _ _ hap,Ex.cells_eq];refine⟨fun _=>Int.le_refl _,?_⟩;refine Qh (Qe rfl ?_ ?_)
    ·intro hc;refine Qa ?_;simp only[go_sem];refine Qk ?_;simp only[go_sem];exact retf false _ (by simp[lk])
    intro hc;refine Qi ?_;simp only[go_sem];refine Q5 ?_;refine Qa ?_;simp only[go_sem,Qa5]
    intros
    refine Qh (Qe rfl ?_ ?_)
    ·intro hc;refine Qa ?_;simp only[go_sem];refine Qk ?_;simp only[go_sem];exact retf false _ (by simp[lk])
    intro hc;refine Qi ?_;simp only[go_sem];refine Qa ?_;simp only[go_sem];refine⟨Qr (by omega) (by omega),?_⟩;refine hS (Q1 x.body) (by omega) _ _ _ _ _ (Jg _) (by omega) (by omega) fun b1=>?_;simp only[go_sem,Q6q];refine⟨fun _=>Qr (by omega) (by omega),?_⟩;refine⟨fun hb1=>?_,fun hb1=>?_⟩
    ·refine hS (Q1 x.els) (by omega) _ _ _ _ _ (Jg _) (by omega) (by omega) fun b2=>?_;simp only[go_sem,Quu];refine Qk ?_;exact retf _ _ (by simp[lk];rfl)
    ·simp only[go_sem,Quu,hb1];refine Qk ?_;exact retf false _ (by simp[lk])
 refine⟨fun hb1=>?_,fun hb1=>?_⟩
 ·replace hb1:=Qpp hb1;have hdp:1≤deep:=by simp at hb1;omega
  refine Qds ?_;simp only[go_sem,Qz7,hb1,Qa1,cond_false];refine⟨fun hb2=>?_,fun hb2=>?_⟩
  ·refine Qbi0 ?_;simp only[go_sem,Qnj,Qa1];refine rest _ (fun h=>⟨hdp,?_⟩);have h1:(x.args.length:Int)=if x.op=4 then 2 else 1:=by
    cases h2:decide (1≤x.op∧x.op≤8) <;> rw[h2]at h <;> simp_all
   by_cases h4:x.op=4
   ·rw[if_pos h4]at h1⊢;omega
   ·rw[if_neg h4]at h1⊢;omega
  ·replace hb2:=Qgc hb2;simp only[go_sem,Qnj,hb2,Qa1];exact rest _ (fun h=>by simp at h)
 ·replace hb1:=Qgc hb1;simp only[go_sem,Qz7,Qnj,hb1,Qa1,cond_true];exact rest _ (fun h=>by simp at h)
theorem Qbo1 (n:Nat):Qbco n:=by
 induction n using Nat.strongRecOn with
 |ind n ih=>exact Qblp (Qbo0 ih)
theorem Qbqc {f:Fn}(hf:Q1 f.body≤2^40)(hK:∀b:Bool,K (.c (.bool b)) H):Qo prog Qa0b [.ag f.cells] H K:=by
 refine Qd Qai Qbqh ?_;have retf:∀(b:Bool) (e:Env),lk 2 e=.c (.bool b)→Qz Qbfd K .ret e H:=by
  intro b e h1;simp only[go_sem,Qz,Q8,Qbfd,Ja,forall_eq,RS.op,h1];exact hK _
 refine Qa ?_;simp only[go_sem,Fn.cells];refine Q5 ?_;refine Qa ?_;simp only[go_sem];refine Qh (Qf (Qw (fun n e1 H1=>∃(i:Nat),n=f.params.length-i∧i≤f.params.length∧H1=H∧e1=[(1,.c (.pp [.str f.name,.sl false 1 (Qbj f.params),.sl false 5 (Qaz f.body)])),(3,.c (.int .i64 i))]) f.params.length ?_ ?_))
 ·exact⟨0,by omega,by omega,rfl,rfl⟩
 ·rintro n e1 H1 ⟨i,hn1,hi,rfl,rfl⟩;refine Q5 ?_;refine Qa ?_;simp only[go_sem,Qao];intro hl;simp only[LIM]at hl;refine Qh (Qe rfl ?_ ?_)
  ·intro hc;have hlt:i<f.params.length:=by simpa using hc
   refine Qi ?_;simp only[go_sem];refine Qh (Qf ?_);refine Qa ?_;simp only[go_sem,hlt,Qao,Qiu _ _ hlt];refine Q96 fun b=>?_;simp only[go_sem,Qaxf];refine Qe rfl ?_ ?_
   ·intro hc2;refine Qa ?_;simp only[go_sem];refine Qk ?_;simp only[go_sem,X.next];exact retf false _ (by simp[lk])
   ·intro hc2;refine Qi ?_;simp only[go_sem];refine Qt ?_;simp only[go_sem,X.next];exact⟨Qr (by omega) (by omega),f.params.length-(i+1),by omega,i+1,rfl,by omega,rfl⟩
  ·intro hc;refine Qv ?_;simp only[go_sem,X.next];refine Qa ?_;simp only[go_sem];refine Q96 fun b=>?_;simp only[go_sem,Qaxg,Qao]
   intros
   refine⟨fun hb1=>?_,fun hb1=>?_⟩
   ·refine Qbo1 _ _ _ _ _ _ (Jg _) hf (by omega) fun b2=>?_;simp only[go_sem,Qads];refine Qk ?_;exact retf _ _ (by simp[lk];rfl)
   ·simp only[go_sem,Qads,hb1];refine Qk ?_;exact retf false _ (by simp[lk])
def Qa3:List Fn→Nat
 |[]=>0
 |f::r=>Q1 f.body+Qa3 r
theorem Qre {l:List Fn}{f:Fn}(h:f∈l):Q1 f.body≤Qa3 l:=by
 induction l with
 |nil=>simp at h
 |cons g r ih=>
  simp only[Qa3];rcases List.mem_cons.1 h with rfl|h
  ·omega
  ·have:=ih h;omega
theorem Qjb (a b:List Fn):Qa3 (a++b)=Qa3 a+Qa3 b:=by
 induction a with
 |nil=>simp[Qa3]
 |cons x r ih=>simp only[Jr,Qa3,ih];omega
theorem Qapt {l:List Fn}{i:Nat}(h:i<l.length):Qa3 (l.take (i+1))=Qa3 (l.take i)+Q1 (l[i]'h).body:=by
 rw[Jk h,Qjb];simp[Qa3]
theorem Q7t (l:List Fn)(i:Nat):Qa3 (l.take i)≤Qa3 l:=by
 conv=>rhs;rw[←Jw i l,Qjb]
 omega
theorem Qbnv {l:List Fn}{fl:Bool}(hf:Qa3 l≤2^40)(hK:∀n:Int,K (.c (.int .i64 n)) H):Qo prog Qaoz [.ag [.sl fl 3 (Qb2 l)]] H K:=by
 refine Qd Qai Qbn4 ?_;refine Qa ?_;simp only[go_sem];refine Qa ?_;simp only[go_sem];refine Q5 ?_;refine Qa ?_;simp only[go_sem];refine Qh (Qf (Qw (fun n e1 H1=>∃(i v:Nat),n=l.length-i∧i≤l.length∧v≤Qa3 (l.take i)∧H1=H∧e1=[(1,.c (.pp [.sl fl 3 (Qb2 l)])),(3,.c (.int .i64 v)),(4,.c (.int .i64 i))]) l.length ?_ ?_))
 ·exact⟨0,0,by omega,by omega,by omega,rfl,rfl⟩
 ·rintro n e1 H1 ⟨i,v,hn1,hi,hv,rfl,rfl⟩;refine Q5 ?_;refine Qa ?_;simp only[go_sem,Qbe];intro hl;simp only[LIM]at hl;refine Qh (Qe rfl ?_ ?_)
  ·intro hc;have hlt:i<l.length:=by simpa using hc
   have hm:=Qre (Jc hlt);have htk:=Qapt hlt;have htl:=Q7t l (i+1);refine Qi ?_;simp only[go_sem];refine Qh (Qf (Qt ?_));simp only[go_sem,hlt,Qbe,Qhg _ _ hlt,Fn.cells];refine Qbd0 _ _ (Jg _) (by omega) fun c hc=>?_;simp only[go_sem,Qaoe];refine⟨Qr (by omega) (by omega),?_⟩;refine Qt ?_;simp only[go_sem,X.next];exact⟨Qr (by omega) (by omega),l.length-(i+1),by omega,i+1,v+c,rfl,by omega,by omega,rfl⟩
  ·intro hc;refine Qv ?_;simp only[go_sem,X.next];refine Qa ?_;simp only[go_sem];refine Qk ?_;simp only[go_sem,Qz,Q8,Qbfc,reduceIte,Ja,forall_eq,RS.op];exact hK _
theorem Qah6 {l:List Fn}{fl:Bool}(hf:Qa3 l≤2^40)(hK:∀b:Bool,K (.c (.bool b)) H):Qo prog Qd3 [.ag [.sl fl 3 (Qb2 l)]] H K:=by
 refine Qd Qai Q3s ?_;have retf:∀(b:Bool) (e:Env),lk 2 e=.c (.bool b)→Qz Qe0 K .ret e H:=by
  intro b e h1;simp only[go_sem,Qz,Q8,Qe0,Ja,forall_eq,RS.op,h1];exact hK _
 refine Qa ?_;simp only[go_sem];refine Q5 ?_;refine Qa ?_;simp only[go_sem,Qbe];intro hl;simp only[LIM]at hl;refine Qds ?_;simp only[go_sem,Qgt];refine Qh (Qe rfl ?_ ?_)
 ·intro hc;refine Qa ?_;simp only[go_sem];refine Qk ?_;simp only[go_sem];exact retf false _ (by simp[lk])
 intro hc;refine Qi ?_;simp only[go_sem];refine Q5 ?_;refine Qa ?_;simp only[go_sem];refine Qh (Qf (Qw (fun n e1 H1=>∃(i:Nat),n=l.length-i∧i≤l.length∧H1=H∧e1=[(1,.c (.pp [.sl fl 3 (Qb2 l)])),(3,.c (.int .i64 i))]) l.length ?_ ?_))
 ·exact⟨0,by omega,by omega,rfl,rfl⟩
 ·rintro n e1 H1 ⟨i,hn1,hi,rfl,rfl⟩;refine Q5 ?_;refine Qa ?_;simp only[go_sem,Qbe];refine fun _=>?_;refine Qh (Qe rfl ?_ ?_)
  ·intro hc;have hlt:i<l.length:=by simpa using hc
   have hm:=Qre (Jc hlt);refine Qi ?_;simp only[go_sem];refine Qh (Qf ?_);refine Qa ?_;simp only[go_sem,hlt,Qbe,Qhg _ _ hlt,Fn.take3,Fn.allOw,Fn.cells_len];refine Qbqc (by omega) fun b=>?_;simp only[go_sem,Qgu];refine Qe rfl ?_ ?_
   ·intro hc2;refine Qa ?_;simp only[go_sem];refine Qk ?_;simp only[go_sem,X.next];exact retf false _ (by simp[lk])
   ·intro hc2;refine Qi ?_;simp only[go_sem];refine Qt ?_;simp only[go_sem,X.next];exact⟨Qr (by omega) (by omega),l.length-(i+1),by omega,i+1,rfl,by omega,rfl⟩
  ·intro hc;refine Qv ?_;simp only[go_sem,X.next];refine Qa ?_;simp only[go_sem];refine Qbnv hf fun n=>?_;simp only[go_sem,Qgv];refine Qk ?_;exact retf _ _ (by simp[lk];rfl)
end Go.AE.Y
namespace Go.AE.Y
open Go.Proofs.Tryz
structure PrOk (l:List Fn):Prop where
 pos:0<l.length
 par:∀f∈l,f.params.length≤3
 ok:∀f∈l,Qcx f.body
 size:Qa3 l≤2^34
 len:l.length≤4
end Go.AE.Y
namespace Go.AE
open Go.AE.Y
open Go.Proofs.Tryz
theorem Kn.perm4 {H0 H:Heap}{E:List (Nat×Obj)}{a b c d:Nat×Obj}(kn:Kn H0 H E [a,b,c,d]):Kn H0 H E [a,b,d]:=
 Kn.drop (A:=[a,b,d]) (B:=[c]) (kn.perm (.cons _ (.cons _ (.swap _ _ _))))
end Go.AE
namespace Go.AE.Y
open Go.Proofs.Tryz
set_option maxHeartbeats 2000000 in
theorem Qbi1 {R:Rdr}{k:Nat}{H:Heap}{K:V→Heap→Prop}(hR:H R.l=R.o k)(hk:k+7000000≤2^30)
  (hK:∀(l:List Fn) (H':Heap) (k':Nat),k<k'→k'≤k+7000000→Upd H H' [(R.l,R.o k')]→PrOk l→K (.ag [.sl false 3 (Qb2 l)]) H') :
  Qo prog Qaaz [.c (.ptr R.l 0)] H K:=by
 refine Qu ?_;refine Qd Qai Qbjj ?_;refine Qa ?_;simp only[go_sem];intro x2 hx2 H1 h1;have kn:=(Kn.start1 hR (R.o_ne k)).al hx2 h1;refine Qa ?_;simp only[go_sem];refine Qkz (ns:=[14,20,8,26]) (kn.e 0 rfl) (by omega) (by simp) fun v H2 hv hu=>?_;have kn:=kn.callE 0 rfl hu (R.o_ne _);simp only[go_sem,Qaeq];intro gl hgl H3 h3;have kn:Kn H H3 [(R.l,R.o (k+1))] [(x2,.st [.sl true 3 []]),(gl,GS.o ⟨[],(.sl true 3 [],[]),[],true,0,v⟩ R)]:=kn.al hgl h3;have hv26:0≤v∧v≤26:=by simp at hv;omega
 simp only[go_sem,Qaep];have hne:R.l≠gl:=kn.ne 0 1 rfl rfl;refine Q5 ?_;refine Qa ?_;simp only[go_sem];refine Qkz (ns:=[0,1,1,2]) (kn.e 0 rfl) (by omega) (by simp) fun cnt H4 hcnt hu=>?_;have kn:=kn.callE 0 rfl hu (R.o_ne _);have hc2:0≤cnt∧cnt≤2:=by simp at hcnt;omega
 simp only[go_sem,Qaer];obtain⟨M,hM⟩:∃M:Nat,M=2001301:=⟨_,rfl⟩;refine Qh (Qf (Qw (fun n e1 H1=>∃(j k4:Nat) (s:GS),n=cnt.toNat-j∧(j:Int)≤cnt∧s.fns.length=j∧k+2≤k4∧k4≤k+2+M * j∧s.ok k4∧(∀f∈s.fns,Qcx f.body)∧4 * k+Qa3 s.fns≤4 * k4∧
   Gr s.ffl.2 3 (Qb2 s.fns) s.ffl.1∧Kn H H1 [(R.l,R.o k4)] ([(x2,.st [.sl true 3 []]),(gl,s.o R)]++s.ffl.2)∧
   e1=[(0,.c (.ptr R.l 0)),(2,.c (.ptr x2 0)),(3,.c (.ptr gl 0)),(4,.c (.int .i64 (cnt-j)))]) cnt.toNat ?_ ?_))
 ·refine⟨0,k+2,⟨[],(.sl true 3 [],[]),[],true,0,v⟩,by omega,by omega,rfl,by omega,by omega,⟨?_,?_,?_,?_,by simp,by simp,by simp⟩,by simp,by simp only[Qa3];omega,.nil 3,kn,by simp⟩
  ·show -1≤(0:Int);omega
  ·show (0:Int)≤_;omega
  ·show _≤v;omega
  ·show v≤100;omega
 ·rintro n e1 H1 ⟨j,k4,s,hn,hj,hfl,hk4,hk4',hs,hfok,hsz,hgr,kn,rfl⟩;have hMj:M * j≤M * 2:=Jz _ (by omega);have hM1:M * (j+1)=M * j+M:=Jam _ _;have hG1:=kn.l 1 rfl;have hfow:=hgr.isOw;have hflen:=hgr.lenC;rw[Qbe]at hflen;refine Q5 ?_;refine Qa ?_;simp only[go_sem];refine Qh (Qe rfl ?_ ?_)
  ·intro hc;have hi:(j:Int)<cnt:=by simp at hc;omega
   refine Qi ?_;simp only[go_sem];refine Qh (Qf ?_);have hfok':=(hgr.okSl (B:=[_,_]) kn);have eg:List.getD [[C.str [102]],[C.str [103]],[C.str [104]]] s.fns.length []=[.str (List.getD [[102],[103],[104]] s.fns.length [])]:=Qiu [[102],[103],[104]] _ (by simp;omega);have hl3:s.fns.length<3:=by omega
   refine Qad ?_;simp only[go_sem,hG1,GS.o,hfow,hflen,eq_true hfok',eg,hl3];refine Qba (kn.e 0 rfl) (by omega) fun p H2 hp hu=>?_;have kn:Kn H H2 [(R.l,R.o (k4+1))] ([(x2,.st [.sl true 3 []]),(gl,s.o R)]++s.ffl.2):=kn.callE 0 rfl hu (R.o_ne _);rw[if_neg (by omega)]at hp;have hG2:=kn.l 1 rfl;have hfok2:=(hgr.okSl (B:=[_,_]) kn);simp only[go_sem,Qaeu,hG2,GS.o,hfow,hflen,eq_true hfok2,eg,hl3];have hF:FnsOk H2 R gl s:=⟨hgr,fun q hq=>by
    have h1:=kn.get q (Jh _ (Jh _ hq));refine⟨h1.1,fun hh=>?_,fun hh=>?_⟩
    ·exact kn.usedE 0 rfl (hh▸kn.loc q (Jh _ hq))
    ·have:=kn.dL;rw[Jv]at this;exact (J9.1 this).2.2 gl (by simp) q.1 (Qbq hq) hh.symm⟩
   refine Qant hp.1 (by omega) (kn.e 0 rfl) (kn.l 1 rfl) hne (hs.mono (Jai k4)) hF (by omega) fun f s2 H5 k5 g1 g2 hu hs2 g3 g4 g5 g6 g7=>?_;have kn:=kn.callEL 0 1 rfl rfl hu (R.o_ne _) (GS.o_ne _ _);have kn:Kn H H5 [(R.l,R.o k5)] ([(x2,.st [.sl true 3 []]),(gl,s2.o R)]++s.ffl.2):=kn;simp only[go_sem,Qaet];intro x5 hx5 H6 h6;have kn:=kn.al hx5 h6;have kn:=kn.perm (L':=[(x2,_),(gl,_),(x5,_)]++s.ffl.2) (by
    simp only[Jr,Jq,Jj];exact .cons _ (.cons _ Ji))
   have hG6:=kn.l 1 rfl;have hx56:=kn.l 2 rfl;have hfok6:=(hgr.okSl (B:=[_,_,_]) kn);simp only[go_sem,Qaes,hG6,hx56,GS.o,g3,g4,hfow,hflen,eq_true hfok6,eg,hl3,Fn.cells];intro H7 h7;have kn:Kn H H7 [(R.l,R.o k5)] ([(x2,_),(gl,_),(x5,_)]++s.ffl.2):=kn.stL 2 rfl h7;have hG7:=kn.l 1 rfl;have hx57:=kn.l 2 rfl;refine Qbg ?_;simp only[go_sem,hG7,hx57,GS.o,g4,hfow];refine kn.grow (B:=[_,_,_]) (new:=[f.cells]) hgr (.mk' _ _ _ _) (by simp[f.noOw]) (by simp only[Qbe,LIM,Jl,Jn];omega) fun z H8 kn=>?_;have hG8:=kn.l 1 rfl;simp only[go_sem,Qaev,hG8,GS.o];intro H9 h9;have kn:=kn.stL 1 rfl h9;obtain⟨s9,hs9⟩:∃s9:GS,s9=GS.mk (s.fns++[f]) (C.vsl z 3 0 ((Qb2 s.fns).length+1),[(z,Obj.vec 3 (Qb2 s.fns++[f.cells]))]) s2.vars s2.vfl s2.next s2.left:=⟨_,rfl⟩;have ho9:s9.o R=.st [C.ptr R.l 0,C.vsl z 3 0 ((Qb2 s.fns).length+1),C.sl s2.vfl 1 (Qbj s2.vars),C.int IntKind.i64 s2.next,C.int IntKind.i64 s2.left]:=by rw[hs9];rfl
   rw[←ho9]at kn;have kn:Kn H H9 [(R.l,R.o k5)] [(x2,_),(gl,s9.o R),(x5,_),(z,_)]:=kn;have kn:=kn.perm4;refine Qt ?_;simp only[go_sem,X.next];have hkb:k5≤k+2+M * (j+1):=by rw[hM1];omega
   refine⟨Qr (by omega) (by omega),cnt.toNat-(j+1),by omega,j+1,k5,s9,rfl,by omega,by simp[hs9,hfl],by omega,hkb,?_,?_,?_,?_,by rw[hs9]at kn⊢;exact kn,?_⟩
   ·subst hs9;refine⟨hs2.n0,hs2.n1,hs2.l0,hs2.l1,hs2.v,fun f' hf'=>?_,by simp;omega⟩;rcases Jm.1 hf' with h|h
    ·exact hs.f f' h
    ·simp at h;subst h;exact g5
   ·subst hs9;intro f' hf';rcases Jm.1 hf' with h|h
    ·exact hfok f' h
    ·simp at h;subst h;exact g6
   ·subst hs9;simp only[Qjb,Qa3];omega
   ·subst hs9;show Gr [(z,Obj.vec 3 (Qb2 s.fns++[f.cells]))] 3 (Qb2 (s.fns++[f])) _;rw[Qanp];exact .mk _ _ _ (by simp[Qbe])
   ·have:cnt-((j+1:Nat):Int)=cnt-j-1:=(by omega);rw[this]
  ·intro hc;refine Qv ?_;simp only[go_sem,X.next];have hkE:k4≤k+4002604:=by omega
   refine Qa ?_;simp only[go_sem];refine Qkz (ns:=[0,1,2,1]) (kn.e 0 rfl) (by omega) (by simp) fun p H2 hp hu=>?_;have kn:Kn H H2 [(R.l,R.o (k4+1))] ([(x2,.st [.sl true 3 []]),(gl,s.o R)]++s.ffl.2):=kn.callE 0 rfl hu (R.o_ne _);have hp2:0≤p∧p≤3:=by simp at hp;omega
   simp only[go_sem,Q6l];have hF:FnsOk H2 R gl s:=⟨hgr,fun q hq=>by
    have h1:=kn.get q (Jh _ (Jh _ hq));refine⟨h1.1,fun hh=>?_,fun hh=>?_⟩
    ·exact kn.usedE 0 rfl (hh▸kn.loc q (Jh _ hq))
    ·have:=kn.dL;rw[Jv]at this;exact (J9.1 this).2.2 gl (by simp) q.1 (Qbq hq) hh.symm⟩
   refine Qant hp2.1 hp2.2 (kn.e 0 rfl) (kn.l 1 rfl) hne (hs.mono (Jai k4)) hF (by omega) fun f s2 H5 k5 g1 g2 hu hs2 g3 g4 g5 g6 g7=>?_;have kn:=kn.callEL 0 1 rfl rfl hu (R.o_ne _) (GS.o_ne _ _);have kn:Kn H H5 [(R.l,R.o k5)] ([(x2,.st [.sl true 3 []]),(gl,s2.o R)]++s.ffl.2):=kn;simp only[go_sem,Q6k];intro x6 hx6 H6 h6;have kn:=kn.al hx6 h6;have kn:=kn.perm (L':=[(x2,_),(gl,_),(x6,_)]++s.ffl.2) (by
    simp only[Jr,Jq,Jj];exact .cons _ (.cons _ Ji))
   have hx66:=kn.l 2 rfl;simp only[go_sem,Q6j,hx66,Fn.cells];intro H7 h7;have kn:Kn H H7 [(R.l,R.o k5)] ([(x2,_),(gl,_),(x6,_)]++s.ffl.2):=kn.stL 2 rfl h7;have hG7:=kn.l 1 rfl;have hx67:=kn.l 2 rfl;have hfok7:=hgr.okSl (B:=[_,_,_]) kn;have hrows7:=hgr.rowsOf (B:=[_,_,_]) kn;have hesz:=hgr.elemSz;have hL:s.fns.length≤LIM:=by simp only[LIM];omega
   refine Qad ?_;simp only[go_sem,hG7,hx67,GS.o,g4,hfow,hflen,eq_true hfok7,hrows7,hesz,hL,Jf];refine⟨.inl trivial,Qano _,fun y hy H8 h8=>?_⟩;have kn:=kn.al hy h8;have kn:=kn.perm (L':=([(x2,_),(gl,_),(x6,_)]++[(y,_)])++s.ffl.2) Qbqo;have kn:=kn.drop;have hx68:=kn.l 2 rfl;have kn:Kn H H8 [(R.l,R.o k5)] [(x2,_),(gl,_),(x6,_),(y,_)]:=kn;have hy8:=kn.l 3 rfl;have etk:List.take s.fns.length (Qb2 s.fns)=Qb2 s.fns:=Jd (by rw[Qbe];omega);simp only[go_sem,Q6o,hx68,hy8,Qbe,etk];refine⟨by omega,by simp only[LIM];omega,fun z hz H9 h9=>?_⟩;have kn:Kn H H9 [(R.l,R.o k5)] [(x2,_),(gl,_),(x6,_),(z,.vec 3 (Qb2 s.fns++[f.cells]))]:=kn.ap 3 rfl hz h9;simp only[go_sem,Q6n];intro x7 hx7 H10 h10;have kn:=kn.al hx7 h10;have hG10:=kn.l 1 rfl;have hx6a:=kn.l 2 rfl;have hx7a:=kn.l 4 rfl;have kn:Kn H H10 [(R.l,R.o k5)] [(x2,_),(gl,_),(x6,_),(z,_),(x7,_)]:=kn;simp only[go_sem,Q6m,hG10,hx6a,hx7a,GS.o,g4,hfow];intro H11 h11;have kn:=kn.stL 4 rfl h11;have kn:Kn H H11 [(R.l,R.o k5)] ([(x2,.st [.sl true 3 []]),(x7,.st [.vsl z 3 0 (s.fns.length+1)])]++[(z,.vec 3 (Qb2 s.fns++[f.cells]))]):=
    (kn.perm (L':=([(x2,_),(x7,_)]++[(z,_)])++[(gl,_),(x6,_)]) (by
     simp only[List.set,Jr,Jq];refine .cons _ ?_;refine .trans (.cons _ (.cons _ (.swap _ _ _))) ?_;refine .trans (.cons _ (.swap _ _ _)) ?_;refine .trans (.swap _ _ _) ?_;refine .cons _ ?_;refine .trans (.cons _ (.swap _ _ _)) ?_;exact .swap _ _ _)).drop
   have hz11:=kn.l 2 rfl;have hx711:=kn.l 1 rfl;obtain⟨hfz,kn⟩:=kn.freeze 1 rfl (og':=.st [.sl false 3 (Qb2 (s.fns++[f]))]) (FrzKL.st (.cons rfl (by
    rw[←Qanp];exact Qao2 (by simp) hz11 (by simp[Qbe]) (noOw_mem (Qbjz (Qano _) (by simp[f.noOw])))) .nil)) (by simp)
   refine Q5 ?_;refine c_gh (Qdr _ (fun t=>?_) hfz) (e':=[(2,V.c (C.ptr x2 0)),(7,V.c (C.ptr x7 0))]) ?_
   ·simp only[lk];split
    ·exact .c _ _ (.same _ rfl)
    ·split
     ·exact .c _ _ (.same _ rfl)
     ·exact .unk _
   generalize ((H11.frz fun m=>m == z).set x7 (Obj.st [C.sl false 3 (Qb2 (s.fns++[f]))]))=H12 at *;have hx7b:=kn.l 1 rfl;have hx2b:=kn.l 0 rfl;have hpr:Qa3 (s.fns++[f])≤2^34:=by rw[Qjb];simp only[Qa3];omega
   refine Qa ?_;simp only[go_sem,hx7b];refine Qah6 (by omega) fun b=>?_;simp only[go_sem,Q6p];refine Qh (Qe rfl ?_ ?_)
   ·intro hc;refine Qa ?_;simp only[go_sem,hx2b];intro H13 h13;have kn:=kn.stL 0 rfl h13;have hx2c:=kn.l 0 rfl;refine Qk ?_;simp only[go_sem,Qz,Q8,Qapw,reduceIte,Ja,forall_eq,RS.op,hx2c];refine⟨.ag [.sl false 3 (Qb2 [Fn.mk [109] [] [St.mk 3 [] [Ex.mk 1 1 [] []] [] []]])],FrzL.ag ?_,hK _ _ k5 (by omega) (by omega) kn.fin ⟨by simp,by simp,?_,?_,by simp⟩⟩
    ·simp only[Qb2,Jaj,Jak,Fn.cells,Qaon,Qaz,St.cells,Qbn,Ex.cells]
     repeat' first|exact FrzL.nil|exact FrzR.nil|exact Qg rfl|exact FrzL.same (Ex.noOw _)|exact FrzL.same (St.noOw _)|refine FrzL.cons ?_ ?_|refine FrzR.cons ?_ ?_|refine FrzR.sl ?_
    ·intro f hf;simp at hf;subst hf;simp[Qcx,St.ok,Qd0,Ex.ok]
    ·simp[Qa3,Q1,St.size,Qah,Ex.size]
   ·intro hc;refine Qi ?_;simp only[go_sem];refine Qa ?_;simp only[go_sem,hx2b,hx7b];intro H13 h13;have kn:=kn.stL 0 rfl h13;have hx2c:=kn.l 0 rfl;refine Qk ?_;simp only[go_sem,Qz,Q8,Qapw,reduceIte,Ja,forall_eq,RS.op,hx2c];refine⟨.ag [.sl false 3 (Qb2 (s.fns++[f]))],FrzL.ag (.cons (Qg rfl) .nil),hK _ _ k5 (by omega) (by omega) kn.fin ⟨by simp,?_,?_,hpr,by simp;omega⟩⟩
    ·intro f' hf';rcases Jm.1 hf' with h|h
     ·exact hs.f f' h
     ·simp at h;subst h;exact g5
    ·intro f' hf';rcases Jm.1 hf' with h|h
     ·exact hfok f' h
     ·simp at h;subst h;exact g6
variable {F H:Heap}{w:Nat}{s:LS}{K:V→Heap→Prop}
structure LStep (s s':LS)(d:Nat):Prop where
 bl:s.blocks.length≤s'.blocks.length
 ok:∀N,s.ok N→s'.ok (N+d)
 vl:s.vars.length≤s'.vars.length
 at_:s.at_<s.blocks.length→s'.at_<s'.blocks.length
 fn:s'.fns=s.fns∧s'.pfl=s.pfl
theorem LStep.trans {s s' s'':LS}{d e:Nat}(h:LStep s s' d)(k:LStep s' s'' e):LStep s s'' (d+e):=
 ⟨Jaa h.bl k.bl,fun N hN=>by rw[←Nat.add_assoc];exact k.ok _ (h.ok N hN),Jaa h.vl k.vl,fun ha=>k.at_ (h.at_ ha),k.fn.1.trans h.fn.1,k.fn.2.trans h.fn.2⟩
theorem LStep.refl (s:LS):LStep s s 0:=⟨Jg _,fun N h=>h,Jg _,fun h=>h,rfl,rfl⟩
theorem LStep.mono {s s':LS}{d e:Nat}(h:LStep s s' d)(hd:d≤e):LStep s s' e:=⟨h.bl,fun N hN=>(h.ok N hN).mono (by omega),h.vl,h.at_,h.fn⟩
theorem Qq6 {N:Nat}(h:LInv F H w s)(hok:s.ok N)(hN:N+1≤2^38)(hK:∀(s':LS) (H':Heap),LInv F H' w s'→LStep s s' 1→K (.c (.int .i64 s.regs)) H') :
  Qo prog Qa0 [.c (.ptr w 0)] H K:=by
 have hw:=h.hw;have h0:=hok.r0;have h1:=hok.r1;refine Qd Qai Qapn ?_;refine Qa ?_;simp only[go_sem];refine Qa ?_;simp only[go_sem,hw,LS.o];refine⟨Qr (by omega) (by omega),fun H1 h1'=>?_⟩;have h':LInv F H1 w { s with regs:=s.regs+1 }:=h.setw h1' rfl rfl rfl rfl h.gv h.rv;have hw1:=h'.hw;refine Qa ?_;simp only[go_sem,hw1,LS.o];refine⟨Qr (by omega) (by omega),?_⟩;refine Qk ?_;simp only[go_sem,Qz,Q8,Q1h,reduceIte,Ja,forall_eq,RS.op];refine hK _ H1 h' ⟨Jg _,fun M hM=>⟨?_,?_,hM.n0,?_,?_,?_,?_⟩,Jg _,fun h=>h,rfl,rfl⟩
 ·have:=hM.r0;show 0≤s.regs+1;omega
 ·have:=hM.r1;show s.regs+1≤_;omega
 ·have:=hM.n1;show s.next≤_;omega
 ·have:=hM.b1;show s.blocks.length≤_;omega
 ·intro b hb;have:=hM.i1 b hb;omega
 ·have:=hM.v1;show s.vars.length≤_;omega
theorem Qas4 {N:Nat}(h:LInv F H w s)(hok:s.ok N)(hN:N+1≤2^38)(hK:∀(s':LS) (H':Heap),LInv F H' w s'→LStep s s' 1→s.blocks.length<s'.blocks.length→s'.at_=s.at_→K (.c (.int .i64 s.blocks.length)) H') :
  Qo prog Qak [.c (.ptr w 0)] H K:=by
 have hw:=h.hw;have hb1:=hok.b1;have hbow:=h.gb.isOw;refine Qd Qai Qapm ?_;refine Qa ?_;simp only[go_sem];refine Qa ?_;simp only[go_sem,hw,LS.o,hbow];refine h.addBlk (b:=⟨.sl true 4 [],[],[],0,0,true,[]⟩) (by simp only[LIM];omega) rfl rfl rfl fun y H1 hw1 cont=>?_;simp only[go_sem,Qo5,hw1,LS.o];intro H2 h2;have h':=cont H2 h2;have hw2:=h'.hw;obtain⟨y2,hv1,hv2,hv3⟩:=h'.bvec (by simp);simp only[C.vsl.injEq]at hv1;obtain⟨rfl,_⟩:=hv1;refine Qa ?_;simp only[go_sem,hw2,LS.o,hv3,Je,List.length_append];refine⟨by omega,fun hl=>⟨Qr (by omega) (by omega),?_⟩⟩;refine Qk ?_;simp only[go_sem,Qz,Q8,Q1g,reduceIte,Ja,forall_eq,RS.op];have e1:(((s.blocks.length+1:Nat):Int)-1)=s.blocks.length:=by omega
 rw[e1];refine hK _ H2 h' ⟨by simp,fun M hM=>⟨hM.r0,?_,hM.n0,?_,?_,?_,?_⟩,Jg _,fun ha=>by simp;show s.at_<_;omega,rfl,rfl⟩ (by simp) rfl
 ·have:=hM.r1;show s.regs≤_;omega
 ·have:=hM.n1;show s.next≤_;omega
 ·have:=hM.b1;simp;omega
 ·intro b hb;rcases Jm.1 hb with hb|hb
  ·have:=hM.i1 b hb;omega
  ·simp at hb;subst hb;simp
 ·have:=hM.v1;show s.vars.length≤_;omega
theorem Qgw {N:Nat}(h:LInv F H w s)(hok:s.ok N)(hN:N+1≤2^38)(hK:∀(s':LS) (H':Heap),LInv F H' w s'→LStep s s' 1→s.blocks.length<s'.blocks.length→K (.c (.int .i64 s.blocks.length)) H') :
  Qo prog Qak [.c (.ptr w 0)] H K:=Qas4 h hok hN fun s' H' a b c _=>hK s' H' a b c
theorem Q3v {N:Nat}{op to n:Int}{fl:Bool}{args:List Int}(h:LInv F H w s)(hat:s.at_<s.blocks.length)(hok:s.ok N)(hN:N+1≤2^38)
  (hK:∀(s':LS) (H':Heap),LInv F H' w s'→LStep s s' 1→K (.c (.int .i64 to)) H') :
  Qo prog Qar [.c (.ptr w 0),.c (.int .i64 op),.c (.int .i64 to),.c (.int .i64 n),.c (.sl fl 1 (Qb args))] H K:=by
 have hw:=h.hw;obtain⟨y,hbc,hlb,hy⟩:=h.bvec (by omega);have hm:=Jc hat;have hi1:=hok.i1 _ hm;have hiow:=(h.gi _ hm).isOw;have hg1:List.getD (List.map Blk.row s.blocks) s.at_ []=s.blocks[s.at_].row:=by simp[Jb,hat]
 have hg2:List.getD (List.take s.blocks.length (List.map Blk.row s.blocks)) s.at_ []=s.blocks[s.at_].row:=by
  rw[Jd (by simp)];exact hg1
 refine Qd Qai Qa0y ?_;refine Qa ?_;simp only[go_sem];refine Qad ?_;simp only[go_sem,hw,LS.o,hbc,hy,hat,Jf,Je];refine Qa ?_;simp only[go_sem,hw,LS.o,hbc,hy,hat,hg2,Blk.row,hiow,Jf,Je];refine h.addIns hat hbc hlb ⟨op,to,n,fl,args,rfl⟩ (by simp only[LIM];omega) fun z H1 hw1 hy1 cont=>?_;simp only[go_sem,Qy6,hy1,hg1,hat,Blk.row,Jf,Je];intro H2 h2;obtain⟨b',hb',h'⟩:=cont H2 h2;refine Qa ?_;simp only[go_sem];refine Qk ?_;simp only[go_sem,Qz,Q8,Qacd,reduceIte,Ja,forall_eq,RS.op];refine hK _ H2 h' ⟨by simp,fun M hM=>⟨hM.r0,?_,hM.n0,?_,?_,?_,?_⟩,Jg _,fun ha=>by simp;show s.at_<_;omega,rfl,rfl⟩
 ·have:=hM.r1;show s.regs≤_;omega
 ·have:=hM.n1;show s.next≤_;omega
 ·have:=hM.b1;simp;omega
 ·intro b hb;rcases Qez hb with rfl|hb
  ·have:=hM.i1 _ hm;omega
  ·have:=hM.i1 b hb;omega
 ·have:=hM.v1;show s.vars.length≤_;omega
theorem Qxi {N:Nat}{kind on:Int}{at':Nat}{fl:Bool}{next:List Int}(h:LInv F H w s)(hat:s.at_<s.blocks.length)(hat':at'<s.blocks.length)
  (hK:∀(s':LS) (H':Heap),LInv F H' w s'→LStep s s' 0→K (.tup []) H') :
  Qo prog Qau [.c (.ptr w 0),.c (.int .i64 kind),.c (.int .i64 on),.c (.sl fl 1 (Qb next)),.c (.int .i64 at')] H K:=by
 have hw:=h.hw;obtain⟨y,hbc,hlb,hy⟩:=h.bvec (by omega);have hm:=Jc hat;have hg1:List.getD (List.map Blk.row s.blocks) s.at_ []=s.blocks[s.at_].row:=by simp[Jb,hat]
 refine Qd Qai Qat9 ?_;refine Qad ?_;simp only[go_sem,hw,LS.o,hbc,hy,hat,Jf,Je];refine Qa ?_;simp only[go_sem,hy,hg1,hat,Blk.row,Jf,Je];intro H1 h1;have h1:H1=H.set y (.vec 5 ((s.blocks.set s.at_ { s.blocks[s.at_]with jump:=kind }).map Blk.row)):=by rw[h1,←Qabm];rfl
 have hv:=h.setBlk hat hbc hlb h1 rfl rfl rfl;obtain⟨b1,hb1,hb1l,hb1i⟩:∃b1:Blk,b1={ s.blocks[s.at_]with jump:=kind }∧b1.irows=s.blocks[s.at_].irows∧b1.ic=s.blocks[s.at_].ic:=⟨_,rfl,rfl,rfl⟩;rw[←hb1]at hv h1;have hy1:H1 y=.vec 5 ((s.blocks.set s.at_ b1).map Blk.row):=by rw[h1];exact Heap.set_same _ _ _
 have hg2:List.getD ((s.blocks.set s.at_ b1).map Blk.row) s.at_ []=b1.row:=by simp[Jb,hat]
 refine Qa ?_;simp only[go_sem,hy1,hg2,hat,Blk.row,Jf,Je,Jah];intro H2 h2;have h2:H2=H1.set y (.vec 5 (((s.blocks.set s.at_ b1).set s.at_ { b1 with on:=on }).map Blk.row)):=by rw[h2];simp only[Jt];rfl
 have hv:=hv.setBlk (i:=s.at_) (b':={ b1 with on:=on }) (by simpa using hat) (by simpa using hbc) (by rfl) h2 (by simp) (by simp) (by simp);simp only[Jal]at hv h2;obtain⟨b2,hb2,hb2i⟩:∃b2:Blk,b2={ b1 with on:=on }∧b2.irows=b1.irows:=⟨_,rfl,rfl⟩;rw[←hb2]at hv h2;have hy2:H2 y=.vec 5 ((s.blocks.set s.at_ b2).map Blk.row):=by rw[h2];exact Heap.set_same _ _ _
 have hg3:List.getD ((s.blocks.set s.at_ b2).map Blk.row) s.at_ []=b2.row:=by simp[Jb,hat]
 refine Qa ?_;simp only[go_sem,hy2,hg3,hat,Blk.row,Jf,Je,Jah];intro H3 h3;have h3:H3=H2.set y (.vec 5 (((s.blocks.set s.at_ b2).set s.at_ { b2 with next:=next,nfl:=fl }).map Blk.row)):=by rw[h3];simp only[Jt];rfl
 have hv:=hv.setBlk (i:=s.at_) (b':={ b2 with next:=next,nfl:=fl }) (by simpa using hat) (by simpa using hbc) (by rfl) h3 (by simp) (by simp) (by simp);simp only[Jal]at hv;have hw3:=hv.hw;refine Qt ?_;simp only[go_sem,hw3,LS.o];intro H4 h4;have h':=hv.setw (s':={ s with lb:=[(y,.vec 5 ((s.blocks.set s.at_ { b2 with next:=next,nfl:=fl }).map Blk.row))],blocks:=s.blocks.set s.at_ { b2 with next:=next,nfl:=fl },at_:=at' }) h4 rfl rfl rfl rfl hv.gv hv.rv;simp only[Qz,Q8,Q5h];refine⟨by simp,hK _ H4 h' ⟨by simp,fun M hM=>⟨hM.r0,hM.r1,hM.n0,hM.n1,?_,?_,hM.v1⟩,Jg _,fun ha=>by simpa using hat',rfl,rfl⟩⟩
 ·have:=hM.b1;simpa using this
 ·intro b hb;rcases Qez hb with rfl|hb
  ·show b2.irows.length≤_;rw[hb2i,hb1l];exact hM.i1 _ hm
  ·exact hM.i1 b hb
theorem Qbpl {l:List Fn}{fl:Bool}{name:List UInt8}(hK:∀n:Int,K (.c (.int .i64 n)) H):Qo prog Q3i [.ag [.sl fl 3 (Qb2 l)],.c (.str name)] H K:=by
 refine Qd Qai Qbeo ?_;have retf:∀(n:Int) (e:Env),lk 4 e=.c (.int .i64 n)→Qz Qace K .ret e H:=by
  intro b e h1;simp only[go_sem,Qz,Q8,Qace,Ja,forall_eq,RS.op,h1];exact hK _
 refine Qa ?_;simp only[go_sem];refine Q5 ?_;refine Qa ?_;simp only[go_sem];refine Qh (Qf (Qw (fun n e1 H1=>∃(i:Nat),n=l.length-i∧i≤l.length∧H1=H∧e1=[(1,.c (.str name)),(2,.c (.pp [.sl fl 3 (Qb2 l)])),(5,.c (.int .i64 i))]) l.length ?_ ?_))
 ·exact⟨0,by omega,by omega,rfl,rfl⟩
 ·rintro n e1 H1 ⟨i,hn1,hi,rfl,rfl⟩;refine Q5 ?_;refine Qa ?_;simp only[go_sem,Qbe];intro hl;simp only[LIM]at hl;refine Qh (Qe rfl ?_ ?_)
  ·intro hc;have hlt:i<l.length:=by simpa using hc
   refine Qi ?_;simp only[go_sem];refine Qh (Qf ?_);refine Qa ?_;simp only[go_sem,hlt,Qbe,Qhg _ _ hlt,Fn.cells];refine Qe rfl ?_ ?_
   ·intro hc2;refine Qa ?_;simp only[go_sem];refine Qk ?_;simp only[go_sem,X.next];exact retf _ _ (by simp[lk];rfl)
   ·intro hc2;refine Qi ?_;simp only[go_sem];refine Qt ?_;simp only[go_sem,X.next];exact⟨Qr (by omega) (by omega),l.length-(i+1),by omega,i+1,rfl,by omega,rfl⟩
  ·intro hc;refine Qv ?_;simp only[go_sem,X.next];refine Qa ?_;simp only[go_sem];refine Qk ?_;exact retf _ _ (by simp[lk];rfl)
theorem Qbqv {name:List UInt8}(h:LInv F H w s)(hK:∀n:Int,K (.c (.int .i64 n)) H):Qo prog Qi7 [.c (.ptr w 0),.c (.str name)] H K:=by
 have hw:=h.hw;obtain⟨hv1,hv2⟩:=h.vget;have hvl:=h.gv.lenC;have hve:=h.gv.elemSz;have hvo:=h.gv.isOw;refine Qd Qai Qa0z ?_;have retf:∀(n:Int) (e:Env),lk 4 e=.c (.int .i64 n)→Qz Qzp K .ret e H:=by
  intro b e h1;simp only[go_sem,Qz,Q8,Qzp,Ja,forall_eq,RS.op,h1];exact hK _
 refine Qa ?_;simp only[go_sem];refine Q5 ?_;refine Qa ?_;simp only[go_sem,hw,LS.o,hv1,hvl,hvo];intro hl;simp only[LIM]at hl;refine⟨Qr (by omega) (by omega),?_⟩;refine Qh (Qf (Qw (fun n e1 H1=>∃(j:Nat),n=j∧j≤s.vars.length∧H1=H∧e1=[(0,.c (.ptr w 0)),(1,.c (.str name)),(5,.c (.int .i64 ((j:Int)-1)))]) s.vars.length ?_ ?_))
 ·exact⟨s.vars.length,rfl,by omega,rfl,rfl⟩
 ·rintro n e1 H1 ⟨j,hnj,hj,rfl,rfl⟩;refine Q5 ?_;refine Qa ?_;simp only[go_sem];refine Qh (Qe rfl ?_ ?_)
  ·intro hc;have hj1:1≤j:=by simp at hc;omega
   obtain⟨i,rfl⟩:∃i,j=i+1:=⟨j-1,by omega⟩;have e1:(((i+1:Nat):Int)-1)=(i:Int):=by omega
   have hlt:i<s.vars.length:=by omega
   obtain⟨nm,a,b,hr⟩:=h.rv _ (Jc hlt);have hr':List.getD s.vars i []=[.str nm,.int .i64 a,.int .i64 b]:=by rw[←hr];simp[Jb,hlt]
   rw[e1]at hc⊢;refine Qi ?_;simp only[go_sem];refine Qh (Qf ?_);refine Qa ?_;simp only[go_sem,hw,LS.o,hv1,hv2,hvl,hvo,hve,hlt,hr'];refine Qe rfl ?_ ?_
   ·intro hc2;refine Qa ?_;simp only[go_sem,hw,LS.o,hv1,hv2,hvl,hvo,hve,hlt,hr'];refine Qk ?_;simp only[go_sem,X.next];exact retf _ _ (by simp[lk];rfl)
   ·intro hc2;refine Qi ?_;simp only[go_sem];refine Qt ?_;simp only[go_sem,X.next];exact⟨Qr (by omega) (by omega),i,by omega,i,rfl,by omega,rfl⟩
  ·intro hc;refine Qv ?_;simp only[go_sem,X.next];refine Qa ?_;simp only[go_sem];refine Qk ?_;exact retf _ _ (by simp[lk];rfl)
def Qbhp (n:Nat):Prop:=∀(x:Ex) (F H:Heap) (w:Nat) (s:LS) (N:Nat) (K:V→Heap→Prop),x.size≤n→x.ok→LInv F H w s→s.at_<s.blocks.length→s.ok N→N+10 * x.size≤2^38→
  (∀(v:Int) (s':LS) (H':Heap),LInv F H' w s'→LStep s s' (10 * x.size)→K (.c (.int .i64 v)) H')→Qo prog Qb0 [.c (.ptr w 0),.ag x.cells] H K
def AndL (n:Nat):Prop:=∀(x:Ex) (F H:Heap) (w:Nat) (s:LS) (N:Nat) (K:V→Heap→Prop),x.size≤n→x.ok→x.op=10→LInv F H w s→s.at_<s.blocks.length→s.ok N→N+10 * x.size≤2^38→
  (∀(v:Int) (s':LS) (H':Heap),LInv F H' w s'→LStep s s' (10 * x.size)→K (.c (.int .i64 v)) H')→Qo prog Qq4 [.c (.ptr w 0),.ag x.cells] H K
theorem Qbpp {n:Nat}(hE:∀m,m<n→Qbhp m):AndL n:=by
 intro x F H w s N K hn hok hop h hat hsok hN hK;have hsz:=x.size_kids;have hk2:=Ex.ok_and hok hop;have hkok:=Ex.ok_kids hok;obtain⟨a,b,hab⟩:∃a b,x.kids=[a,b]:=by
  match hx:x.kids,hk2 with
  |[a,b],_=>exact⟨a,b,rfl⟩
 rw[hab]at hsz hkok;simp only[Qah,Qd0]at hsz hkok;refine Qd Qai Qa0x ?_;refine Qa ?_;simp only[go_sem,x.cells_eq];refine Qa ?_;simp only[go_sem,hab,Qbn,Ex.take4,Ex.allOw,Ex.cells_len,Jx];refine⟨by omega,?_⟩;refine hE a.size (by omega) a F H w s N _ (Jg _) hkok.1 h hat hsok (by omega) fun va s1 H1 h1 st1=>?_;simp only[go_sem,Qyy];refine Qa ?_;simp only[go_sem];refine Qq6 h1 (st1.ok _ hsok) (by omega) fun s2 H2 h2 st2=>?_;have st2:=st1.trans st2;simp only[go_sem,Qy0];refine Q3v (args:=[]) h2 (st2.at_ hat) (st2.ok _ hsok) (by omega) fun s3 H3 h3 st3=>?_;have st3:=st2.trans st3;simp only[go_sem,Qyz];refine Qa ?_;simp only[go_sem];refine Qgw h3 (st3.ok _ hsok) (by omega) fun s4 H4 h4 st4 hb4=>?_;have st4':=st4;have st4:=st3.trans st4;simp only[go_sem,Qy1];refine Qa ?_;simp only[go_sem];refine Qgw h4 (st4.ok _ hsok) (by omega) fun s5 H5 h5 st5 hb5=>?_;have st5:=st4.trans st5;simp only[go_sem,Qy2];refine Qa ?_;simp only[go_sem];refine Qxi (next:=[(s3.blocks.length:Int),(s4.blocks.length:Int)]) (N:=0) h5 (st5.at_ hat) (by omega) fun s6 H6 h6 st6=>?_;have hb6:=st6.bl;have st6:=st5.trans st6;refine Qa ?_;simp only[go_sem,hab,Qbn,Ex.take4,Ex.allOw,Ex.cells_len,Jx,J6];refine⟨by omega,?_⟩;refine hE b.size (by omega) b F H6 w s6 _ _ (Jg _) hkok.2.1 h6 (st6.at_ hat) (st6.ok _ hsok) (by omega) fun vb s7 H7 h7 st7=>?_;have hb7:=st7.bl;have st7:=st6.trans st7;simp only[go_sem,Qy3];refine Qa ?_;simp only[go_sem];refine Qq6 h7 (st7.ok _ hsok) (by omega) fun s8 H8 h8 st8=>?_;have hb8:=st8.bl;have st8:=st7.trans st8;simp only[go_sem,Qy5];refine Q3v (args:=[vb]) h8 (st8.at_ hat) (st8.ok _ hsok) (by omega) fun s9 H9 h9 st9=>?_;have hb9:=st9.bl;have st9:=st8.trans st9;simp only[go_sem,Qy4];refine Qa ?_;simp only[go_sem];refine Q3v (args:=[s7.regs]) h9 (st9.at_ hat) (st9.ok _ hsok) (by omega) fun s10 H10 h10 st10=>?_;have hb10:=st10.bl;have st10:=st9.trans st10;refine Qa ?_;simp only[go_sem];refine Qxi (next:=[(s4.blocks.length:Int)]) (N:=0) h10 (st10.at_ hat) (by omega) fun s11 H11 h11 st11=>?_;have st11:=st10.trans st11;refine Qa ?_;simp only[go_sem];refine Qk ?_;simp only[go_sem,Qz,Q8,Qacc,reduceIte,Ja,forall_eq,RS.op];exact hK _ s11 H11 h11 (st11.mono (by omega))
set_option maxHeartbeats 2000000 in
theorem Qbnc {n:Nat}(hA:AndL n)(hE:∀m,m<n→Qbhp m):Qbhp n:=by
 intro x F H w s N K hn hok h hat hsok hN hK;have hsz:=x.size_kids;have hkok:=Ex.ok_kids hok;refine Qd Qai Qat8 ?_;have retf:∀(v:Int) (e:Env) (s':LS) (H':Heap),LInv F H' w s'→LStep s s' (10 * x.size)→lk 4 e=.c (.int .i64 v)→Qz Qro K .ret e H':=by
  intro v e s' H' a1 a2 h1;simp only[go_sem,Qz,Q8,Qro,Ja,forall_eq,RS.op,h1];exact hK _ _ _ a1 a2
 refine Qa ?_;simp only[go_sem,x.cells_eq];refine Q5 ?_;refine Qa ?_;simp only[go_sem];refine Qh (Qf ?_);refine Qa ?_;simp only[go_sem];refine Qe rfl ?_ ?_
 ·intro hc;refine Qad ?_;simp only[go_sem];refine Qq6 h hsok (by omega) fun s1 H1 h1 st1=>?_;simp only[go_sem,Qu0];refine Q3v (args:=[]) h1 (st1.at_ hat) (st1.ok _ hsok) (by omega) fun s2 H2 h2 st2=>?_;simp only[go_sem,Quz];refine Qk ?_;simp only[go_sem];exact retf _ _ s2 H2 h2 ((st1.trans st2).mono (by omega)) (by simp[lk];rfl)
 intro hc1;refine Qa ?_;simp only[go_sem];refine Qe rfl ?_ ?_
 ·intro hc;refine Qa ?_;simp only[go_sem];refine Qbqv h fun v=>?_;simp only[go_sem,Qu1];refine Qk ?_;simp only[go_sem];exact retf _ _ s H h ((LStep.refl s).mono (by omega)) (by simp[lk];rfl)
 intro hc2;refine Qa ?_;simp only[go_sem];refine Qe rfl ?_ ?_
 ·intro hc;have hop:x.op=10:=by simpa using hc
  refine Qa ?_;simp only[go_sem];rw[←x.cells_eq];refine hA x F H w s N _ hn hok hop h hat hsok hN fun v s1 H1 h1 st1=>?_;simp only[go_sem,Qu2];refine Qk ?_;simp only[go_sem];exact retf _ _ s1 H1 h1 st1 (by simp[lk];rfl)
 intro hc3;refine Qi ?_;simp only[go_sem];refine Qa ?_;simp only[go_sem];refine Q5 ?_;refine Qa ?_;simp only[go_sem];refine Qh (Qf (Qw (fun n e1 H1=>∃(i:Nat) (ars:List Int) (c:C) (Lg:List (Nat×Obj)) (s':LS),n=x.kids.length-i∧i≤x.kids.length∧ars.length=i∧Gr Lg 1 (Qb ars) c∧LInv F H1 w s'∧Kn F H1 [] (s'.L w++Lg)∧
  LStep s s' (10 * Qah (x.kids.take i))∧e1=[(0,.c (.ptr w 0)),(3,.c (.pp [.int .i64 x.op,.int .i64 x.n,.str x.name,.sl false 4 (Qbn x.kids)])),(5,.c c),(6,.c (.int .i64 i))]) x.kids.length ?_ ?_))
 ·exact⟨0,[],_,[],s,by omega,by omega,rfl,.nil 1,h,by simpa using h.kn,(LStep.refl s).mono (by omega),rfl⟩
 ·rintro n e1 H1 ⟨i,ars,c,Lg,s1,hn1,hi,hasl,hgr,h1,kn,st1,rfl⟩;refine Q5 ?_;refine Qa ?_;simp only[go_sem,Qa1];intro hl;simp only[LIM]at hl;refine Qh (Qe rfl ?_ ?_)
  ·intro hc;have hlt:i<x.kids.length:=by simpa using hc
   have hm:=Qeu (Jc hlt);have htk:=Qqu hlt;have htl:=Qhm x.kids (i+1);refine Qi ?_;simp only[go_sem];refine Qh (Qf (Qt ?_));simp only[go_sem,hlt,Qa1,Qet _ _ hlt,Ex.take4,Ex.allOw,Ex.cells_len];obtain⟨F',hf,back⟩:=h1.beside kn hgr;refine hE x.kids[i].size (by omega) _ F' H1 w s1 _ _ (Jg _) (Qaas hkok _ (Jc hlt)) hf (st1.at_ hat) (st1.ok _ hsok) (by omega) fun v s2 H2 h2 st2=>?_;obtain⟨h2,kn⟩:=back s2 H2 h2;simp only[go_sem,Qu4];refine kn.grow (new:=Qb [v]) hgr (.mk' _ _ _ _) (Qn _) (by simp only[Qc,hasl,Jl,Jn,LIM];omega) fun y' H3 kn=>?_;simp only[go_sem,Qu3];refine Qt ?_;simp only[go_sem,X.next];refine⟨Qr (by omega) (by omega),x.kids.length-(i+1),by omega,i+1,ars++[v],_,_,s2,rfl,by omega,by simp[hasl],.mk y' 1 (Qb (ars++[v])) (n:=(Qb ars).length+(Qb [v]).length) (by simp[Qb]),h2.re kn.drop,by rw[Qbc];exact kn,(st1.trans st2).mono (by rw[htk];omega),by simp[Qb]⟩
  ·intro hc;have hge:x.kids.length≤i:=by simpa using hc
   rw[Jd hge]at st1;refine Qv ?_;simp only[go_sem,X.next];refine Q5 ?_;refine Q5 ?_;obtain⟨S,H2,f1,f2,kn2⟩:=hgr.freeze kn (Qn _);have h2:=h1.re kn2;refine c_gh (Qdr S (fun t=>?_) f2) (e':=[(0,.c (.ptr w 0)),(3,.c (.pp [.int .i64 x.op,.int .i64 x.n,.str x.name,.sl false 4 (Qbn x.kids)])),(5,.c (.sl false 1 (Qb ars)))]) ?_
   ·simp only[lk];split
    ·exact .c _ _ (.same _ rfl)
    ·split
     ·exact .c _ _ (.same _ rfl)
     ·split
      ·exact .c _ _ f1
      ·exact .unk _
   refine Qa ?_;simp only[go_sem];refine Qh (Qf ?_);refine Qa ?_;simp only[go_sem];refine Qe rfl ?_ ?_
   ·intro hc;refine Qa ?_;simp only[go_sem];refine Qq6 h2 (st1.ok _ hsok) (by omega) fun s3 H3 h3 st3=>?_;have st3:=st1.trans st3;simp only[go_sem,Qo7];refine Q3v h3 (st3.at_ hat) (st3.ok _ hsok) (by omega) fun s4 H4 h4 st4=>?_;simp only[go_sem,Qo6];refine Qk ?_;simp only[go_sem];exact retf _ _ s4 H4 h4 ((st3.trans st4).mono (by omega)) (by simp[lk];rfl)
   intro hc4;refine Qa ?_;simp only[go_sem];refine Qe rfl ?_ ?_
   ·intro hc;refine Qa ?_;simp only[go_sem];refine Qq6 h2 (st1.ok _ hsok) (by omega) fun s3 H3 h3 st3=>?_;have st3:=st1.trans st3;simp only[go_sem,Qo9];refine Q3v h3 (st3.at_ hat) (st3.ok _ hsok) (by omega) fun s4 H4 h4 st4=>?_;simp only[go_sem,Qo8];refine Qk ?_;simp only[go_sem];exact retf _ _ s4 H4 h4 ((st3.trans st4).mono (by omega)) (by simp[lk];rfl)
   intro hc5;refine Qa ?_;simp only[go_sem];refine Qe rfl ?_ ?_
   ·intro hc;have hw2:=h2.hw;refine Qad ?_;simp only[go_sem,hw2,LS.o];refine Qq6 h2 (st1.ok _ hsok) (by omega) fun s3 H3 h3 st3=>?_;have hw3:=h3.hw;have hfn:=st3.fn;have st3:=st1.trans st3;simp only[go_sem,Qpc,hw3,LS.o,hfn.1,hfn.2];refine Qbpl fun q=>?_;simp only[go_sem,Qpb];refine Q3v h3 (st3.at_ hat) (st3.ok _ hsok) (by omega) fun s4 H4 h4 st4=>?_;simp only[go_sem,Qpa];refine Qk ?_;simp only[go_sem];exact retf _ _ s4 H4 h4 ((st3.trans st4).mono (by omega)) (by simp[lk];rfl)
   intro hc6;refine Qi ?_;simp only[go_sem];refine Qad ?_;simp only[go_sem];refine Qq6 h2 (st1.ok _ hsok) (by omega) fun s3 H3 h3 st3=>?_;have st3:=st1.trans st3;simp only[go_sem,Qpe];refine Q3v h3 (st3.at_ hat) (st3.ok _ hsok) (by omega) fun s4 H4 h4 st4=>?_;simp only[go_sem,Qpd];refine Qk ?_;exact retf _ _ s4 H4 h4 ((st3.trans st4).mono (by omega)) (by simp[lk];rfl)
theorem Qbp3 (n:Nat):Qbhp n:=by
 induction n using Nat.strongRecOn with
 |ind n ih=>exact Qbnc (Qbpp ih) ih
end Go.AE.Y
