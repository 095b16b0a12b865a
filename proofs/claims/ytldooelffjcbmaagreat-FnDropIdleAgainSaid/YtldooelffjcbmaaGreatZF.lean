/- Part 6 of the proof: the engine, codes, walks and plain laws, each named where it stands. -/
import Derived.Test.YtldooelffjcbmaaGreatZE
import Derived.Below
import Derived.OpenShut
import Derived.ProofKit
open Nat (reduceEqDiff reduceAdd reduceLeDiff reduceLT)
set_option linter.unusedVariables false
set_option linter.unusedSimpArgs false
set_option maxRecDepth 4000
open Bool renaming true_and->J2
open List renaming mem_singleton->Ja,forall_mem_cons->Jb,length_cons->Jc,length_nil->Jd,getD_cons_succ->Je,getD_cons_zero->Jf,length_append->Jg,not_mem_nil->Jh,append_nil->Ji,take_of_length_le->Jj,mem_append_right->Jk,getElem?_eq_getElem->Jl,take_succ_eq_append_getElem->Jm,getElem?_eq_none->Jo,getElem_mem->Jq,length_map->Jr,map_nil->Js,ext_getElem->Jt,perm_append_comm->Ju,mem_iff_getElem->Jv,filter_sublist->Jw,getElem_map->Jy,length_take->Jz,mem_filter->J0,mem_range->J1
open Nat renaming le_refl->Jn,zero_add->Jp,eq_zero_or_pos->Jx,le_trans->J3,lt_or_ge->J4
open Option.some renaming injEq->J5
namespace Go.AE.Y
open Go.Proofs.Tryz
def Q05:List Item:=
  .f (some 5) none (.not (.t 4))::
  []
def Q3l:SC:=(.cond (.t 5) (.seq (.reg (
  .f (some 2) none (.mv (.k (.c (.sl true 1 []))))::
  []) [2]) .ret) .skip)
def Q06:List Item:=
  .f (some 2) none (.mv (.t 7))::
  []
def Q3m:SC:=(.seq (.reg (
  .f (some 6) none (.ld 1 true (.t 1))::
  .e (some 7) none (.call Qj5 [.t 6])::
  Q06) [2]) .ret)
def Q3n:SC:=(.seq (.seq (.reg (
  .f (some 3) none (.ld 1 true (.t 1))::
  .e (some 4) none (.call Qa6 [.t 3])::
  Q05) [1,5]) Q3l) Q3m)
def s_im_CodesNeeded:SC:=(.seq (.reg (
  .f (some 1) none (.box (.t 0))::
  .f (some 2) none (.mv (.k (.c (.sl true 1 []))))::
  []) [1]) Q3n)
def r_im_CodesNeeded:List RS:=[.tmp 2]
def Qajx:List Item:=
  .e none none (.sto 1 (.t 5) (.t 9))::
  []
def Qajy:List Item:=
  .e (some 5) none (.alloc [.mnil])::
  Qajx
def Qaqx:SC:=(.reg (
  .f (some 17) none (.ld 1 false (.t 6))::
  .f (some 18) none (.mv (.t 8))::
  .e (some 19) none (.callv (.t 17) [.t 18])::
  []) [5,6,11,12,13])
def Qaqy:SC:=(.reg (
  .f (some 20) none (.bin 0 .add (.t 13) (.k (.c (.int .i64 1))))::
  .f (some 13) none (.mv (.t 20))::
  []) [5,6,11,12,13])
def Qaqz:SC:=(.seq (.block 1 (.seq (.reg (
  .f (some 15) none (.iad 1 (.t 11) (.t 13))::
  .f (some 16) none (.ld 1 false (.t 15))::
  .f (some 8) none (.mv (.t 16))::
  []) [5,6,8,11,12,13]) Qaqx)) Qaqy)
def Qaj0:SC:=(.seq (.reg (
  .f (some 14) none (.bin 0 .lss (.t 13) (.t 12))::
  []) [5,6,11,12,13,14]) (.seq (.cond (.t 14) .skip (.exit 0)) Qaqz))
def Qajz:List Item:=
  .f (some 4) none (.mv (.t 22))::
  []
def Qaq0:SC:=(.seq (.reg (
  .f (some 21) none (.ld 1 false (.t 5))::
  .e (some 22) none (.call Qr7 [.t 21])::
  Qajz) [4]) .ret)
def Qaq1:SC:=(.seq (.seq (.reg (
  .f (some 11) none (.mv (.t 0))::
  .f (some 12) none (.len (.t 11))::
  .f (some 13) none (.mv (.k (.c (.int .i64 0))))::
  []) [5,6,11,12,13]) (.block 0 (.loop Qaj0))) Qaq0)
def Qaq2:SC:=(.seq (.reg (
  .f (some 10) none (.mkf Qac4 [.t 5,.t 3,.t 6])::
  .e none none (.sto 1 (.t 6) (.t 10))::
  []) [0,5,6]) Qaq1)
def Qajv:SC:=(.seq (.reg (
  .e (some 6) none (.alloc [.fnil])::
  []) [0,3,5,6]) Qaq2)
def Qajw:SC:=(.seq (.reg (
  .e (some 9) none (.mkm)::
  Qajy) [0,3,5]) Qajv)
def s_im_closure:SC:=(.seq (.reg (
  .f (some 3) none (.box (.t 1))::
  .f (some 4) none (.mv (.k (.c (.sl true 1 []))))::
  []) [0,3]) Qajw)
def r_im_closure:List RS:=[.tmp 4]
def Q33:List Item:=
  .f (some 16) none (.len (.t 15))::
  .f (some 17) none (.mv (.k (.c (.int .i64 0))))::
  []
def Q7n:SC:=(.reg (
  .f (some 21) none (.ld 1 false (.t 3))::
  .f (some 22) none (.mv (.t 6))::
  .e (some 23) none (.callv (.t 21) [.t 22])::
  []) [3,15,16,17])
def Q7o:SC:=(.reg (
  .f (some 24) none (.bin 0 .add (.t 17) (.k (.c (.int .i64 1))))::
  .f (some 17) none (.mv (.t 24))::
  []) [3,15,16,17])
def Q7p:SC:=(.seq (.block 1 (.seq (.reg (
  .f (some 19) none (.iad 1 (.t 15) (.t 17))::
  .f (some 20) none (.ld 1 false (.t 19))::
  .f (some 6) none (.mv (.t 20))::
  []) [3,6,15,16,17]) Q7n)) Q7o)
def Q34:SC:=(.seq (.reg (
  .f (some 18) none (.bin 0 .lss (.t 17) (.t 16))::
  []) [3,15,16,17,18]) (.seq (.cond (.t 18) .skip (.exit 0)) Q7p))
def Q7q:SC:=(.seq (.reg (
  .f (some 13) none (.ld 1 false (.t 2))::
  .f (some 14) none (.mv (.t 0))::
  .e (some 15) none (.callv (.t 13) [.t 14])::
  Q33) [3,15,16,17]) (.block 0 (.loop Q34)))
def Q7r:SC:=(.cond (.t 10) (.seq (.reg (
  .f (some 11) none (.ld 1 false (.t 1))::
  .f (some 12) none (.mv (.t 0))::
  .e none none (.upd 0 (.t 11) (.t 12) (.k (.c (.bool true))))::
  []) [0,2,3]) Q7q) .skip)
def s_im_closure_c1:SC:=(.seq (.reg (
  .f (some 7) none (.ld 1 false (.t 1))::
  .f (some 8) none (.mv (.t 0))::
  .f (some 9) none (.lup 0 (.c (.bool false)) (.t 7) (.t 8))::
  .f (some 10) none (.not (.t 9))::
  []) [0,1,2,3,10]) Q7r)
def r_im_closure_c1:List RS:=[]
def Q1c:List Item:=
  .f (some 2) none (.mv (.t 9))::
  []
def Q35:SC:=(.seq (.reg (
  .f (some 3) none (.fad 0 (.t 1))::
  .f (some 4) none (.ld 1 false (.t 3))::
  .f (some 5) none (.len (.t 4))::
  .f (some 6) none (.bin 0 .sub (.t 5) (.k (.c (.int .i64 1))))::
  .f (some 7) none (.bsl 1 [.t 6])::
  .f (some 8) none (.mkf Qxl [.t 1])::
  .e (some 9) none (.call Qavs [.t 7,.t 8])::
  Q1c) [2]) .ret)
def s_im_codesNeeded:SC:=(.seq (.reg (
  .f (some 1) none (.box (.t 0))::
  .f (some 2) none (.mv (.k (.c (.sl true 1 []))))::
  []) [1]) Q35)
def r_im_codesNeeded:List RS:=[.tmp 2]
def Qp3:List Item:=
  .e none none (.sto 3 (.t 4) (.t 9))::
  []
def Qp4:List Item:=
  .f (some 3) none (.mv (.t 13))::
  []
def Qp5:List Item:=
  .f (some 12) none (.mkf Qmf [.t 4])::
  .e (some 13) none (.call Qr5 [.t 11,.t 12])::
  Qp4
def Qs8:SC:=(.seq (.reg (
  .f (some 10) none (.ld 3 true (.t 4))::
  .e (some 11) none (.call Qac3 [.t 10])::
  Qp5) [3]) .ret)
def Qs9:SC:=(.seq (.reg (
  .f (some 5) none (.fad 0 (.t 1))::
  .f (some 6) none (.ld 1 false (.t 5))::
  .f (some 7) none (.mv (.t 0))::
  .f (some 8) none (.iad 3 (.t 6) (.t 7))::
  .f (some 9) none (.ld 3 true (.t 8))::
  .e (some 4) none (.alloc [.int .i64 0,.int .i64 0,.sl true 5 []])::
  Qp3) [4]) Qs8)
def s_im_codesNeeded_c1:SC:=(.seq (.reg (
  .f (some 3) none (.mv (.k (.c (.sl true 1 []))))::
  []) [0,1]) Qs9)
def r_im_codesNeeded_c1:List RS:=[.tmp 3]
def Qkz:SC:=(.seq (.dreg 15 [0,1,2,3,4,5,6,7,8,9,10,11,12,13,14] (
  .f (some 4) none (.fad 2 (.t 1))::
  .f (some 5) none (.ld 1 false (.t 4))::
  .f (some 6) none (.mv (.t 0))::
  .f (some 7) none (.iad 1 (.t 6) (.k (.c (.int .i64 0))))::
  .f (some 8) none (.ld 1 false (.t 7))::
  .f (some 9) none (.iad 5 (.t 5) (.t 8))::
  .f (some 10) none (.fad 1 (.t 9))::
  .f (some 11) none (.ld 1 false (.t 10))::
  .f (some 12) none (.mv (.t 0))::
  .f (some 13) none (.iad 1 (.t 12) (.k (.c (.int .i64 1))))::
  .f (some 14) none (.ld 1 false (.t 13))::
  .f (some 15) none (.iad 4 (.t 11) (.t 14))::
  .f (some 16) none (.fad 3 (.t 15))::
  .f (some 17) none (.ld 1 false (.t 16))::
  .f (some 3) none (.mv (.t 17))::
  []) [3]) .ret)
def s_im_codesNeeded_c1_c1:SC:=(.seq (.reg (
  .f (some 3) none (.mv (.k (.c (.int .i64 0))))::
  []) [0,1]) Qkz)
def r_im_codesNeeded_c1_c1:List RS:=[.tmp 3]
def Qm8:List Item:=
  .f (some 5) none (.mv (.t 19))::
  []
def Qm9:List Item:=
  .f (some 18) none (.bsl 1 [.t 17])::
  .e (some 19) none (.app 1 (.t 14) (.t 18))::
  Qm8
def Qp7:SC:=(.reg (
  .f (some 14) none (.mv (.t 5))::
  .f (some 15) none (.mv (.t 1))::
  .f (some 16) none (.mv (.t 7))::
  .e (some 17) none (.callv (.t 15) [.t 16])::
  Qm9) [1,5,8,9,10])
def Qp8:SC:=(.reg (
  .f (some 20) none (.bin 0 .add (.t 10) (.k (.c (.int .i64 1))))::
  .f (some 10) none (.mv (.t 20))::
  []) [1,5,8,9,10])
def Qp9:SC:=(.seq (.block 1 (.seq (.reg (
  .f (some 12) none (.iad 1 (.t 8) (.t 10))::
  .f (some 13) none (.ld 1 false (.t 12))::
  .f (some 7) none (.mv (.t 13))::
  []) [1,5,7,8,9,10]) Qp7)) Qp8)
def Qna:SC:=(.seq (.reg (
  .f (some 11) none (.bin 0 .lss (.t 10) (.t 9))::
  []) [1,5,8,9,10,11]) (.seq (.cond (.t 11) .skip (.exit 0)) Qp9))
def Qqa:SC:=(.seq (.reg (
  .f (some 21) none (.mv (.t 5))::
  .f (some 4) none (.mv (.t 21))::
  []) [4]) .ret)
def Qqb:SC:=(.seq (.seq (.reg (
  .f (some 8) none (.mv (.t 0))::
  .f (some 9) none (.len (.t 8))::
  .f (some 10) none (.mv (.k (.c (.int .i64 0))))::
  []) [1,5,8,9,10]) (.block 0 (.loop Qna))) Qqa)
def Qqc:SC:=(.seq (.reg (
  .f (some 5) none (.mv (.k (.c (.sl true 1 []))))::
  []) [0,1,5]) Qqb)
def s_im_mapped_Lint_int:SC:=(.seq (.reg (
  .f (some 4) none (.mv (.k (.c (.sl true 1 []))))::
  []) [0,1]) Qqc)
def r_im_mapped_Lint_int:List RS:=[.tmp 4]
def Qx0:SC:=(.cond (.t 12) (.seq (.reg (
  .f (some 2) none (.mv (.k (.c (.bool true))))::
  []) [2]) .ret) .skip)
def Qvu:List Item:=
  .e none none (.sto 1 (.t 3) (.t 14))::
  []
def Qvv:List Item:=
  .e (some 3) none (.alloc [.sl true 3 []])::
  Qvu
def Qvw:List Item:=
  .f (some 4) none (.mv (.t 16))::
  []
def Qvx:List Item:=
  .f (some 21) none (.not (.t 20))::
  .f (some 22) none (.mv (.t 21))::
  .f (some 23) (some (22,false)) (.mv (.t 4))::
  .f (some 24) (some (22,false)) (.len (.t 23))::
  .f (some 25) (some (22,false)) (.bin 0 .eql (.t 24) (.k (.c (.int .i64 0))))::
  .f (some 26) none (.pick (.t 22) (.k (.c (.bool true))) (.t 25))::
  []
def Qvy:List Item:=
  .e (some 20) none (.call Qsc [.t 17,.t 19])::
  Qvx
def Qvz:List Item:=
  .f (some 34) (some (31,true)) (.not (.t 33))::
  .f (some 35) none (.pick (.t 31) (.t 34) (.k (.c (.bool false))))::
  .f (some 2) none (.mv (.t 35))::
  []
def Qv0:List Item:=
  .f (some 31) none (.mv (.t 30))::
  .f (some 32) (some (31,true)) (.ld 1 true (.t 3))::
  .e (some 33) (some (31,true)) (.call Qa6 [.t 32])::
  Qvz
def Qv1:List Item:=
  .e (some 30) none (.call Qsc [.t 27,.t 29])::
  Qv0
def Qx1:SC:=(.cond (.t 26) (.seq (.reg (
  .f (some 27) none (.mv (.t 4))::
  .f (some 28) none (.ld 1 true (.t 3))::
  .e (some 29) none (.call Qff [.t 28])::
  Qv1) [2]) .ret) .skip)
def Qqk:List Item:=
  .f (some 45) none (.len (.t 44))::
  .f (some 46) none (.mv (.k (.c (.int .i64 0))))::
  []
def Qql:List Item:=
  .f (some 70) none (.not (.t 69))::
  []
def Qvd:SC:=(.cond (.t 70) (.seq (.reg (
  .f (some 2) none (.mv (.k (.c (.bool false))))::
  []) [2]) .ret) .skip)
def Qve:SC:=(.seq (.dreg 21 [0,1,2,3,4,5,6,7,8,9,10,11,12,13,14,15,16,17,18,19,20] (
  .f (some 50) none (.mv (.t 4))::
  .f (some 51) none (.fad 0 (.t 3))::
  .f (some 52) none (.ld 1 false (.t 51))::
  .f (some 53) none (.mv (.t 6))::
  .f (some 54) none (.iad 3 (.t 52) (.t 53))::
  .f (some 55) none (.fad 2 (.t 54))::
  .f (some 56) none (.ld 1 false (.t 55))::
  .f (some 57) none (.mv (.t 8))::
  .f (some 58) none (.iad 1 (.t 57) (.k (.c (.int .i64 0))))::
  .f (some 59) none (.ld 1 false (.t 58))::
  .f (some 60) none (.iad 5 (.t 56) (.t 59))::
  .f (some 61) none (.fad 1 (.t 60))::
  .f (some 62) none (.ld 1 false (.t 61))::
  .f (some 63) none (.mv (.t 8))::
  .f (some 64) none (.iad 1 (.t 63) (.k (.c (.int .i64 1))))::
  .f (some 65) none (.ld 1 false (.t 64))::
  .f (some 66) none (.iad 4 (.t 62) (.t 65))::
  .f (some 67) none (.fad 3 (.t 66))::
  .f (some 68) none (.ld 1 false (.t 67))::
  .e (some 69) none (.call Q0m [.t 50,.t 68])::
  Qql) [3,4,6,36,37,38,44,45,46,70]) Qvd)
def Qvf:SC:=(.reg (
  .f (some 71) none (.bin 0 .add (.t 46) (.k (.c (.int .i64 1))))::
  .f (some 46) none (.mv (.t 71))::
  []) [3,4,6,36,37,38,44,45,46])
def Qvg:SC:=(.seq (.block 3 (.seq (.reg (
  .f (some 48) none (.iad 1 (.t 44) (.t 46))::
  .f (some 49) none (.ld 1 false (.t 48))::
  .f (some 8) none (.mv (.t 49))::
  []) [3,4,6,8,36,37,38,44,45,46]) Qve)) Qvf)
def Qqm:SC:=(.seq (.reg (
  .f (some 47) none (.bin 0 .lss (.t 46) (.t 45))::
  []) [3,4,6,36,37,38,44,45,46,47]) (.seq (.cond (.t 47) .skip (.exit 2)) Qvg))
def Qvh:SC:=(.seq (.reg (
  .f (some 42) none (.ld 1 true (.t 3))::
  .f (some 43) none (.mv (.t 6))::
  .e (some 44) none (.call Qac1 [.t 42,.t 43])::
  Qqk) [3,4,6,36,37,38,44,45,46]) (.block 2 (.loop Qqm)))
def Qvi:SC:=(.reg (
  .f (some 72) none (.bin 0 .add (.t 38) (.k (.c (.int .i64 1))))::
  .f (some 38) none (.mv (.t 72))::
  []) [3,4,36,37,38])
def Qvj:SC:=(.seq (.block 1 (.seq (.reg (
  .f (some 40) none (.iad 1 (.t 36) (.t 38))::
  .f (some 41) none (.ld 1 false (.t 40))::
  .f (some 6) none (.mv (.t 41))::
  []) [3,4,6,36,37,38]) Qvh)) Qvi)
def Qqn:SC:=(.seq (.reg (
  .f (some 39) none (.bin 0 .lss (.t 38) (.t 37))::
  []) [3,4,36,37,38,39]) (.seq (.cond (.t 39) .skip (.exit 0)) Qvj))
def Qvk:SC:=(.cond (.t 88) (.seq (.reg (
  .f (some 2) none (.mv (.k (.c (.bool false))))::
  []) [2]) .ret) .skip)
def Qvl:SC:=(.reg (
  .f (some 77) none (.mv (.t 9))::
  .f (some 78) none (.bin 0 .add (.t 77) (.k (.c (.int .i64 1))))::
  .f (some 9) none (.mv (.t 78))::
  []) [3,4,9])
def Qvm:SC:=(.seq (.block 5 (.seq (.dreg 10 [0,1,2,3,4,5,6,7,8,9] (
  .f (some 79) none (.mv (.t 4))::
  .f (some 80) none (.mv (.t 9))::
  .f (some 81) none (.bin 0 .sub (.t 80) (.k (.c (.int .i64 1))))::
  .f (some 82) none (.iad 1 (.t 79) (.t 81))::
  .f (some 83) none (.ld 1 false (.t 82))::
  .f (some 84) none (.mv (.t 4))::
  .f (some 85) none (.mv (.t 9))::
  .f (some 86) none (.iad 1 (.t 84) (.t 85))::
  .f (some 87) none (.ld 1 false (.t 86))::
  .f (some 88) none (.bin 0 .geq (.t 83) (.t 87))::
  []) [3,4,9,88]) Qvk)) Qvl)
def Qqo:SC:=(.seq (.seq (.reg (
  .f (some 73) none (.mv (.t 9))::
  .f (some 74) none (.mv (.t 4))::
  .f (some 75) none (.len (.t 74))::
  .f (some 76) none (.bin 0 .lss (.t 73) (.t 75))::
  []) [3,4,9,76]) (.cond (.t 76) .skip (.exit 4))) Qvm)
def Qvn:SC:=(.seq (.dreg 12 [0,1,2,3,4,5,6,7,8,9,10,11] (
  .f (some 89) none (.mv (.t 4))::
  .f (some 90) none (.mv (.t 4))::
  .f (some 91) none (.len (.t 90))::
  .f (some 92) none (.bin 0 .sub (.t 91) (.k (.c (.int .i64 1))))::
  .f (some 93) none (.iad 1 (.t 89) (.t 92))::
  .f (some 94) none (.ld 1 false (.t 93))::
  .f (some 95) none (.fad 0 (.t 3))::
  .f (some 96) none (.ld 1 false (.t 95))::
  .f (some 97) none (.len (.t 96))::
  .f (some 98) none (.bin 0 .sub (.t 97) (.k (.c (.int .i64 1))))::
  .f (some 99) none (.bin 0 .eql (.t 94) (.t 98))::
  .f (some 2) none (.mv (.t 99))::
  []) [2]) .ret)
def Qvo:SC:=(.seq (.seq (.reg (
  .f (some 9) none (.mv (.k (.c (.int .i64 1))))::
  []) [3,4,9]) (.block 4 (.loop Qqo))) Qvn)
def Qvp:SC:=(.seq (.seq (.reg (
  .f (some 36) none (.mv (.t 4))::
  .f (some 37) none (.len (.t 36))::
  .f (some 38) none (.mv (.k (.c (.int .i64 0))))::
  []) [3,4,36,37,38]) (.block 0 (.loop Qqn))) Qvo)
def Qvq:SC:=(.seq (.seq (.reg (
  .f (some 17) none (.mv (.t 4))::
  .f (some 18) none (.ld 1 true (.t 3))::
  .e (some 19) none (.call Qff [.t 18])::
  Qvy) [3,4,26]) Qx1) Qvp)
def Qvr:SC:=(.seq (.reg (
  .f (some 15) none (.ld 1 true (.t 3))::
  .e (some 16) none (.call Qfc [.t 15])::
  Qvw) [3,4]) Qvq)
def Qvs:SC:=(.seq (.reg (
  .f (some 13) none (.mv (.t 0))::
  .e (some 14) none (.call Qse [.t 13])::
  Qvv) [3]) Qvr)
def Qvt:SC:=(.seq (.seq (.reg (
  .f (some 10) none (.mv (.t 0))::
  .f (some 11) none (.len (.t 10))::
  .f (some 12) none (.bin 0 .gtr (.t 11) (.k (.c (.int .i64 1048576))))::
  []) [0,12]) Qx0) Qvs)
def s_la_FnCodesNeeded:SC:=(.seq (.reg (
  .f (some 2) none (.mv (.k (.c (.bool false))))::
  []) [0]) Qvt)
def r_la_FnCodesNeeded:List RS:=[.tmp 2]
def Q13:List Item:=
  .f (some 11) none (.not (.t 10))::
  []
def Q5f:SC:=(.cond (.t 11) (.seq (.reg (
  .f (some 12) none (.mv (.t 3))::
  .f (some 2) none (.mv (.t 12))::
  []) [2]) .ret) .skip)
def Q14:List Item:=
  .f (some 4) none (.mv (.t 16))::
  []
def Q15:List Item:=
  .f (some 6) none (.mv (.t 33))::
  []
def Q5g:SC:=(.reg (
  .f (some 44) none (.mv (.t 7))::
  .f (some 45) none (.bin 0 .add (.t 44) (.k (.c (.int .i64 1))))::
  .f (some 7) none (.mv (.t 45))::
  []) [1,4,5,6,7])
def Q5h:SC:=(.seq (.block 3 (.dreg 27 [0,1,2,3,4,5,6,7,8,9,10,11,12,13,14,15,16,17,18,19,20,21,22,23,24,25,26] (
  .f (some 46) none (.mv (.t 4))::
  .f (some 47) none (.fad 0 (.t 1))::
  .f (some 48) none (.ld 1 false (.t 47))::
  .f (some 49) none (.mv (.t 5))::
  .f (some 50) none (.iad 3 (.t 48) (.t 49))::
  .f (some 51) none (.fad 2 (.t 50))::
  .f (some 52) none (.ld 1 false (.t 51))::
  .f (some 53) none (.mv (.t 6))::
  .f (some 54) none (.mv (.t 7))::
  .f (some 55) none (.iad 1 (.t 53) (.t 54))::
  .f (some 56) none (.ld 1 false (.t 55))::
  .f (some 57) none (.iad 1 (.t 56) (.k (.c (.int .i64 0))))::
  .f (some 58) none (.ld 1 false (.t 57))::
  .f (some 59) none (.iad 5 (.t 52) (.t 58))::
  .f (some 60) none (.fad 1 (.t 59))::
  .f (some 61) none (.ld 1 false (.t 60))::
  .f (some 62) none (.mv (.t 6))::
  .f (some 63) none (.mv (.t 7))::
  .f (some 64) none (.iad 1 (.t 62) (.t 63))::
  .f (some 65) none (.ld 1 false (.t 64))::
  .f (some 66) none (.iad 1 (.t 65) (.k (.c (.int .i64 1))))::
  .f (some 67) none (.ld 1 false (.t 66))::
  .f (some 68) none (.iad 4 (.t 61) (.t 67))::
  .f (some 69) none (.fad 3 (.t 68))::
  .f (some 70) none (.ld 1 false (.t 69))::
  .f (some 71) none (.iad 1 (.t 46) (.t 70))::
  .e none none (.sto 1 (.t 71) (.k (.c (.bool true))))::
  []) [1,4,5,6,7])) Q5g)
def Q16:SC:=(.seq (.seq (.reg (
  .f (some 34) none (.mv (.t 7))::
  .f (some 35) none (.mv (.t 6))::
  .f (some 36) none (.len (.t 35))::
  .f (some 37) none (.bin 0 .lss (.t 34) (.t 36))::
  .f (some 38) none (.mv (.t 37))::
  .f (some 39) (some (38,true)) (.mv (.t 4))::
  .f (some 40) (some (38,true)) (.mv (.t 5))::
  .f (some 41) (some (38,true)) (.iad 1 (.t 39) (.t 40))::
  .f (some 42) (some (38,true)) (.ld 1 false (.t 41))::
  .f (some 43) none (.pick (.t 38) (.t 42) (.k (.c (.bool false))))::
  []) [1,4,5,6,7,43]) (.cond (.t 43) .skip (.exit 2))) Q5h)
def Q5i:SC:=(.seq (.reg (
  .f (some 7) none (.mv (.k (.c (.int .i64 0))))::
  []) [1,4,5,6,7]) (.block 2 (.loop Q16)))
def Q5j:SC:=(.reg (
  .f (some 29) none (.mv (.t 5))::
  .f (some 30) none (.bin 0 .sub (.t 29) (.k (.c (.int .i64 1))))::
  .f (some 5) none (.mv (.t 30))::
  []) [1,4,5])
def Q5k:SC:=(.seq (.block 1 (.seq (.reg (
  .f (some 31) none (.ld 1 true (.t 1))::
  .f (some 32) none (.mv (.t 5))::
  .e (some 33) none (.call Qac5 [.t 31,.t 32])::
  Q15) [1,4,5,6]) Q5i)) Q5j)
def Qyt:SC:=(.seq (.seq (.reg (
  .f (some 27) none (.mv (.t 5))::
  .f (some 28) none (.bin 0 .geq (.t 27) (.k (.c (.int .i64 0))))::
  []) [1,4,5,28]) (.cond (.t 28) .skip (.exit 0))) Q5k)
def Qys:List Item:=
  .f (some 2) none (.mv (.t 73))::
  []
def Q1x:SC:=(.seq (.reg (
  .f (some 72) none (.mv (.t 4))::
  .e (some 73) none (.call Qbeu [.t 72])::
  Qys) [2]) .ret)
def Q1y:SC:=(.seq (.seq (.reg (
  .f (some 23) none (.fad 0 (.t 1))::
  .f (some 24) none (.ld 1 false (.t 23))::
  .f (some 25) none (.len (.t 24))::
  .f (some 26) none (.bin 0 .sub (.t 25) (.k (.c (.int .i64 1))))::
  .f (some 5) none (.mv (.t 26))::
  []) [1,4,5]) (.block 0 (.loop Qyt))) Q1x)
def Q1z:SC:=(.seq (.reg (
  .f (some 17) none (.mv (.t 4))::
  .f (some 18) none (.fad 0 (.t 1))::
  .f (some 19) none (.ld 1 false (.t 18))::
  .f (some 20) none (.len (.t 19))::
  .f (some 21) none (.bin 0 .sub (.t 20) (.k (.c (.int .i64 1))))::
  .f (some 22) none (.iad 1 (.t 17) (.t 21))::
  .e none none (.sto 1 (.t 22) (.k (.c (.bool true))))::
  []) [1,4]) Q1y)
def Q10:SC:=(.seq (.reg (
  .f (some 13) none (.fad 0 (.t 1))::
  .f (some 14) none (.ld 1 false (.t 13))::
  .f (some 15) none (.len (.t 14))::
  .e (some 16) none (.mks 1 [.bool false] (.t 15))::
  Q14) [1,4]) Q1z)
def Q11:SC:=(.seq (.seq (.reg (
  .f (some 9) none (.ld 1 true (.t 1))::
  .e (some 10) none (.call Qa7 [.t 9])::
  Q13) [1,3,11]) Q5f) Q10)
def Q12:SC:=(.seq (.reg (
  .f (some 8) none (.bsl 1 [])::
  .f (some 3) none (.mv (.t 8))::
  []) [1,3]) Q11)
def s_sp_CodesNeeded:SC:=(.seq (.reg (
  .f (some 1) none (.box (.t 0))::
  .f (some 2) none (.mv (.k (.c (.sl true 1 []))))::
  []) [1]) Q12)
def r_sp_CodesNeeded:List RS:=[.tmp 2]
def Qn4:List Item:=
  .e none none (.sto 1 (.t 2) (.t 5))::
  []
def Qn5:List Item:=
  .e (some 5) none (.call Qauo [.t 4])::
  Qn4
def Qrs:SC:=(.seq (.reg (
  .f (some 3) none (.mv (.t 0))::
  .e (some 4) none (.call Qg5 [.t 3])::
  Qn5) [2]) .ret)
def s_sp_DrawCodesNeeded:SC:=(.seq (.reg (
  .e (some 2) none (.alloc [.sl true 3 []])::
  []) [0,2]) Qrs)
def r_sp_DrawCodesNeeded:List RS:=[.cell 2 1 true]
def Q64:List Item:=
  .f (some 3) none (.mv (.k (.c (.bool false))))::
  []
def Q65:List Item:=
  .f (some 7) none (.not (.t 6))::
  []
def Q66:List Item:=
  .f (some 3) none (.mv (.k (.c (.bool false))))::
  []
def Qade:SC:=(.cond (.t 7) (.seq (.reg (
  .f (some 8) none (.bld [.sl true 3 []] [])::
  .e none none (.sto 1 (.t 2) (.t 8))::
  Q66) [2,3]) .ret) .skip)
def Q67:List Item:=
  .e none none (.sto 1 (.t 4) (.t 10))::
  []
def Q68:List Item:=
  .e (some 4) none (.alloc [.sl true 1 []])::
  Q67
def Q69:List Item:=
  .f (some 3) none (.mv (.k (.c (.bool true))))::
  []
def Q7a:List Item:=
  .f (some 14) none (.bld [.sl true 3 []] [(0,1,.t 13)])::
  .e none none (.sto 1 (.t 2) (.t 14))::
  Q69
def Qadf:SC:=(.seq (.reg (
  .f (some 11) none (.ld 1 false (.t 4))::
  .f (some 12) none (.mkf Q2k [.t 1,.t 4])::
  .e (some 13) none (.call Qr6 [.t 11,.t 12])::
  Q7a) [2,3]) .ret)
def Qadg:SC:=(.seq (.reg (
  .f (some 9) none (.ld 1 true (.t 1))::
  .e (some 10) none (.call Qj5 [.t 9])::
  Q68) [1,2,4]) Qadf)
def Q63:SC:=(.seq (.seq (.reg (
  .f (some 5) none (.ld 1 true (.t 1))::
  .e (some 6) none (.call Qa6 [.t 5])::
  Q65) [1,2,7]) Qade) Qadg)
def s_im_DropCodes:SC:=(.seq (.reg (
  .f (some 1) none (.box (.t 0))::
  .e (some 2) none (.alloc [.sl true 3 []])::
  Q64) [1,2]) Q63)
def r_im_DropCodes:List RS:=[.cell 2 1 true,.tmp 3]
def Qxv:List Item:=
  .e none none (.sto 3 (.t 5) (.t 14))::
  []
def Qxw:List Item:=
  .e (some 5) none (.alloc [.int .i64 0,.int .i64 0,.sl true 5 []])::
  Qxv
def Qxx:List Item:=
  .e none none (.sto 5 (.t 7) (.t 21))::
  []
def Qxy:List Item:=
  .chk 36 none (.ld 1 false (.t 35))::
  .f (some 46) none (.iad 4 (.t 36) (.t 37))::
  .f (some 47) none (.fad 3 (.t 46))::
  .e none none (.sto 1 (.t 47) (.t 45))::
  []
def Q07:SC:=(.cond (.t 34) (.dreg 14 [0,1,2,3,4,5,6,7,8,9,10,1,11,12,13] (
  .f (some 35) none (.fad 1 (.t 7))::
  .f (some 36) none (.ld 1 false (.t 35))::
  .f (some 37) none (.mv (.t 8))::
  .f (some 38) none (.ld 1 false (.t 2))::
  .f (some 39) none (.fad 1 (.t 7))::
  .f (some 40) none (.ld 1 false (.t 39))::
  .f (some 41) none (.mv (.t 8))::
  .f (some 42) none (.iad 4 (.t 40) (.t 41))::
  .f (some 43) none (.fad 3 (.t 42))::
  .f (some 44) none (.ld 1 false (.t 43))::
  .e (some 45) none (.call Qhk [.t 38,.t 44])::
  Qxy) [2,4,5,7,16,17,18,24,25]) .skip)
def Q08:SC:=(.seq (.reg (
  .f (some 28) none (.fad 1 (.t 7))::
  .f (some 29) none (.ld 1 false (.t 28))::
  .f (some 30) none (.mv (.t 8))::
  .f (some 31) none (.iad 4 (.t 29) (.t 30))::
  .f (some 32) none (.fad 0 (.t 31))::
  .f (some 33) none (.ld 1 false (.t 32))::
  .f (some 34) none (.bin 0 .eql (.t 33) (.k (.c (.int .i64 14))))::
  []) [2,4,5,7,8,16,17,18,24,25,34]) Q07)
def Q09:SC:=(.reg (
  .f (some 48) none (.bin 0 .add (.t 25) (.k (.c (.int .i64 1))))::
  .f (some 25) none (.mv (.t 48))::
  []) [2,4,5,7,16,17,18,24,25])
def Q1a:SC:=(.seq (.block 3 (.seq (.reg (
  .f (some 27) none (.mv (.t 25))::
  .f (some 8) none (.mv (.t 27))::
  []) [2,4,5,7,8,16,17,18,24,25]) Q08)) Q09)
def Qxz:SC:=(.seq (.reg (
  .f (some 26) none (.bin 0 .lss (.t 25) (.t 24))::
  []) [2,4,5,7,16,17,18,24,25,26]) (.seq (.cond (.t 26) .skip (.exit 2)) Q1a))
def Q1b:SC:=(.seq (.reg (
  .f (some 22) none (.fad 1 (.t 7))::
  .f (some 23) none (.ld 1 false (.t 22))::
  .f (some 24) none (.len (.t 23))::
  .f (some 25) none (.mv (.k (.c (.int .i64 0))))::
  []) [2,4,5,7,16,17,18,24,25]) (.block 2 (.loop Qxz)))
def Qxq:SC:=(.reg (
  .f (some 49) none (.bin 0 .add (.t 18) (.k (.c (.int .i64 1))))::
  .f (some 18) none (.mv (.t 49))::
  []) [2,4,5,16,17,18])
def Qxr:SC:=(.seq (.block 1 (.seq (.reg (
  .f (some 20) none (.iad 5 (.t 16) (.t 18))::
  .f (some 21) none (.ld 5 true (.t 20))::
  .e (some 7) none (.alloc [.sl true 2 [],.sl true 4 [],.int .i64 0,.int .i64 0,.sl true 1 []])::
  Qxx) [2,4,5,7,16,17,18]) Q1b)) Qxq)
def Qsx:SC:=(.seq (.reg (
  .f (some 19) none (.bin 0 .lss (.t 18) (.t 17))::
  []) [2,4,5,16,17,18,19]) (.seq (.cond (.t 19) .skip (.exit 0)) Qxr))
def Qxs:SC:=(.seq (.reg (
  .f (some 50) none (.ld 3 true (.t 5))::
  .e none none (.sto 3 (.t 4) (.t 50))::
  []) [4]) .ret)
def Qxt:SC:=(.seq (.seq (.reg (
  .f (some 15) none (.fad 2 (.t 5))::
  .f (some 16) none (.ld 1 false (.t 15))::
  .f (some 17) none (.len (.t 16))::
  .f (some 18) none (.mv (.k (.c (.int .i64 0))))::
  []) [2,4,5,16,17,18]) (.block 0 (.loop Qsx))) Qxs)
def Qxu:SC:=(.seq (.reg (
  .f (some 9) none (.fad 0 (.t 1))::
  .f (some 10) none (.ld 1 false (.t 9))::
  .f (some 11) none (.mv (.t 0))::
  .f (some 12) none (.iad 3 (.t 10) (.t 11))::
  .f (some 13) none (.ld 3 true (.t 12))::
  .e (some 14) none (.call Qea [.t 13])::
  Qxw) [2,4,5]) Qxt)
def s_im_DropCodes_c1:SC:=(.seq (.reg (
  .e (some 4) none (.alloc [.int .i64 0,.int .i64 0,.sl true 5 []])::
  []) [0,1,2,4]) Qxu)
def r_im_DropCodes_c1:List RS:=[.cell 4 3 true]
def Qko:List Item:=
  .f (some 4) none (.mv (.t 9))::
  []
def Qadw:SC:=(.seq (.reg (
  .f (some 5) none (.fad 0 (.t 2))::
  .f (some 6) none (.ld 1 false (.t 5))::
  .f (some 7) none (.fad 0 (.t 3))::
  .f (some 8) none (.ld 1 false (.t 7))::
  .e (some 9) none (.call Qcz [.t 6,.t 8,.k (.c (.fn Qc4 []))])::
  Qko) [4]) .ret)
def Qaqu:SC:=(.seq (.reg (
  .f (some 2) none (.box (.t 0))::
  .f (some 3) none (.box (.t 1))::
  .f (some 4) none (.mv (.k (.c (.bool false))))::
  []) [2,3]) Qadw)
def Qy2:List RS:=[.tmp 4]
theorem Qap1:mFn prog Qd9 2 10 Qaqu Qy2=true:=by kernel_rfl
def Qnb:List Item:=
  .f (some 5) none (.mv (.t 19))::
  []
def Qnc:List Item:=
  .f (some 18) none (.bsl 3 [.t 17])::
  .e (some 19) none (.app 3 (.t 14) (.t 18))::
  Qnb
def Qqe:SC:=(.reg (
  .f (some 14) none (.mv (.t 5))::
  .f (some 15) none (.mv (.t 1))::
  .f (some 16) none (.mv (.t 7))::
  .e (some 17) none (.callv (.t 15) [.t 16])::
  Qnc) [1,5,8,9,10])
def Qqf:SC:=(.reg (
  .f (some 20) none (.bin 0 .add (.t 10) (.k (.c (.int .i64 1))))::
  .f (some 10) none (.mv (.t 20))::
  []) [1,5,8,9,10])
def Qqg:SC:=(.seq (.block 1 (.seq (.reg (
  .f (some 12) none (.iad 1 (.t 8) (.t 10))::
  .f (some 13) none (.ld 1 false (.t 12))::
  .f (some 7) none (.mv (.t 13))::
  []) [1,5,7,8,9,10]) Qqe)) Qqf)
def Qnd:SC:=(.seq (.reg (
  .f (some 11) none (.bin 0 .lss (.t 10) (.t 9))::
  []) [1,5,8,9,10,11]) (.seq (.cond (.t 11) .skip (.exit 0)) Qqg))
def Qqh:SC:=(.seq (.reg (
  .f (some 21) none (.mv (.t 5))::
  .f (some 4) none (.mv (.t 21))::
  []) [4]) .ret)
def Qqi:SC:=(.seq (.seq (.reg (
  .f (some 8) none (.mv (.t 0))::
  .f (some 9) none (.len (.t 8))::
  .f (some 10) none (.mv (.k (.c (.int .i64 0))))::
  []) [1,5,8,9,10]) (.block 0 (.loop Qnd))) Qqh)
def Qqj:SC:=(.seq (.reg (
  .f (some 5) none (.mv (.k (.c (.sl true 3 []))))::
  []) [0,1,5]) Qqi)
def s_im_mapped_int_Code:SC:=(.seq (.reg (
  .f (some 4) none (.mv (.k (.c (.sl true 3 []))))::
  []) [0,1]) Qqj)
def r_im_mapped_int_Code:List RS:=[.tmp 4]
def Qlf:List Item:=
  .f (some 37) none (.pick (.t 31) (.t 36) (.k (.c (.bool false))))::
  .f (some 4) none (.mv (.t 37))::
  []
def Qlg:List Item:=
  .f (some 30) none (.pick (.t 24) (.t 29) (.k (.c (.bool false))))::
  .f (some 31) none (.mv (.t 30))::
  .f (some 32) (some (31,true)) (.fad 1 (.t 2))::
  .f (some 33) (some (31,true)) (.ld 1 false (.t 32))::
  .f (some 34) (some (31,true)) (.fad 1 (.t 3))::
  .f (some 35) (some (31,true)) (.ld 1 false (.t 34))::
  .e (some 36) (some (31,true)) (.call Qdd [.t 33,.t 35,.k (.c (.fn Qeb []))])::
  Qlf
def Qlh:List Item:=
  .f (some 23) none (.pick (.t 17) (.t 22) (.k (.c (.bool false))))::
  .f (some 24) none (.mv (.t 23))::
  .f (some 25) (some (24,true)) (.fad 0 (.t 2))::
  .f (some 26) (some (24,true)) (.ld 1 false (.t 25))::
  .f (some 27) (some (24,true)) (.fad 0 (.t 3))::
  .f (some 28) (some (24,true)) (.ld 1 false (.t 27))::
  .e (some 29) (some (24,true)) (.call Qde [.t 26,.t 28,.k (.c (.fn Qec []))])::
  Qlg
def Qaex:SC:=(.seq (.reg (
  .f (some 5) none (.fad 2 (.t 2))::
  .f (some 6) none (.ld 1 false (.t 5))::
  .f (some 7) none (.fad 2 (.t 3))::
  .f (some 8) none (.ld 1 false (.t 7))::
  .f (some 9) none (.bin 0 .eql (.t 6) (.t 8))::
  .f (some 10) none (.mv (.t 9))::
  .f (some 11) (some (10,true)) (.fad 3 (.t 2))::
  .f (some 12) (some (10,true)) (.ld 1 false (.t 11))::
  .f (some 13) (some (10,true)) (.fad 3 (.t 3))::
  .f (some 14) (some (10,true)) (.ld 1 false (.t 13))::
  .f (some 15) (some (10,true)) (.bin 0 .eql (.t 12) (.t 14))::
  .f (some 16) none (.pick (.t 10) (.t 15) (.k (.c (.bool false))))::
  .f (some 17) none (.mv (.t 16))::
  .f (some 18) (some (17,true)) (.fad 4 (.t 2))::
  .f (some 19) (some (17,true)) (.ld 1 false (.t 18))::
  .f (some 20) (some (17,true)) (.fad 4 (.t 3))::
  .f (some 21) (some (17,true)) (.ld 1 false (.t 20))::
  .e (some 22) (some (17,true)) (.call Qhj [.t 19,.t 21])::
  Qlh) [4]) .ret)
def Qar9:SC:=(.seq (.reg (
  .f (some 2) none (.box (.t 0))::
  .f (some 3) none (.box (.t 1))::
  .f (some 4) none (.mv (.k (.c (.bool false))))::
  []) [2,3]) Qaex)
def Qzb:List RS:=[.tmp 4]
theorem Qaqc:mFn prog Qce 2 38 Qar9 Qzb=true:=by kernel_rfl
def Qoq:List Item:=
  .f (some 23) none (.pick (.t 17) (.t 22) (.k (.c (.bool false))))::
  .f (some 4) none (.mv (.t 23))::
  []
def Qakm:SC:=(.seq (.reg (
  .f (some 5) none (.fad 0 (.t 2))::
  .f (some 6) none (.ld 1 false (.t 5))::
  .f (some 7) none (.fad 0 (.t 3))::
  .f (some 8) none (.ld 1 false (.t 7))::
  .f (some 9) none (.bin 0 .eql (.t 6) (.t 8))::
  .f (some 10) none (.mv (.t 9))::
  .f (some 11) (some (10,true)) (.fad 1 (.t 2))::
  .f (some 12) (some (10,true)) (.ld 1 false (.t 11))::
  .f (some 13) (some (10,true)) (.fad 1 (.t 3))::
  .f (some 14) (some (10,true)) (.ld 1 false (.t 13))::
  .f (some 15) (some (10,true)) (.bin 0 .eql (.t 12) (.t 14))::
  .f (some 16) none (.pick (.t 10) (.t 15) (.k (.c (.bool false))))::
  .f (some 17) none (.mv (.t 16))::
  .f (some 18) (some (17,true)) (.fad 2 (.t 2))::
  .f (some 19) (some (17,true)) (.ld 1 false (.t 18))::
  .f (some 20) (some (17,true)) (.fad 2 (.t 3))::
  .f (some 21) (some (17,true)) (.ld 1 false (.t 20))::
  .e (some 22) (some (17,true)) (.call Qcf [.t 19,.t 21,.k (.c (.fn Qce []))])::
  Qoq) [4]) .ret)
def Qaxz:SC:=(.seq (.reg (
  .f (some 2) none (.box (.t 0))::
  .f (some 3) none (.box (.t 1))::
  .f (some 4) none (.mv (.k (.c (.bool false))))::
  []) [2,3]) Qakm)
def Q27:List RS:=[.tmp 4]
theorem Qawr:mFn prog Qc4 2 24 Qaxz Q27=true:=by kernel_rfl
def Qtv:List Item:=
  .f (some 30) none (.pick (.t 24) (.t 29) (.k (.c (.bool false))))::
  .f (some 4) none (.mv (.t 30))::
  []
def Qasa:SC:=(.seq (.reg (
  .f (some 5) none (.fad 0 (.t 2))::
  .f (some 6) none (.ld 1 false (.t 5))::
  .f (some 7) none (.fad 0 (.t 3))::
  .f (some 8) none (.ld 1 false (.t 7))::
  .f (some 9) none (.bin 0 .eql (.t 6) (.t 8))::
  .f (some 10) none (.mv (.t 9))::
  .f (some 11) (some (10,true)) (.fad 1 (.t 2))::
  .f (some 12) (some (10,true)) (.ld 1 false (.t 11))::
  .f (some 13) (some (10,true)) (.fad 1 (.t 3))::
  .f (some 14) (some (10,true)) (.ld 1 false (.t 13))::
  .f (some 15) (some (10,true)) (.bin 0 .eql (.t 12) (.t 14))::
  .f (some 16) none (.pick (.t 10) (.t 15) (.k (.c (.bool false))))::
  .f (some 17) none (.mv (.t 16))::
  .f (some 18) (some (17,true)) (.fad 3 (.t 2))::
  .f (some 19) (some (17,true)) (.ld 1 false (.t 18))::
  .f (some 20) (some (17,true)) (.fad 3 (.t 3))::
  .f (some 21) (some (17,true)) (.ld 1 false (.t 20))::
  .f (some 22) (some (17,true)) (.bin 0 .eql (.t 19) (.t 21))::
  .f (some 23) none (.pick (.t 17) (.t 22) (.k (.c (.bool false))))::
  .f (some 24) none (.mv (.t 23))::
  .f (some 25) (some (24,true)) (.fad 2 (.t 2))::
  .f (some 26) (some (24,true)) (.ld 1 false (.t 25))::
  .f (some 27) (some (24,true)) (.fad 2 (.t 3))::
  .f (some 28) (some (24,true)) (.ld 1 false (.t 27))::
  .e (some 29) (some (24,true)) (.call Qhj [.t 26,.t 28])::
  Qtv) [4]) .ret)
def Qa1m:SC:=(.seq (.reg (
  .f (some 2) none (.box (.t 0))::
  .f (some 3) none (.box (.t 1))::
  .f (some 4) none (.mv (.k (.c (.bool false))))::
  []) [2,3]) Qasa)
def Qaad:List RS:=[.tmp 4]
theorem Qa0j:mFn prog Qeb 2 31 Qa1m Qaad=true:=by kernel_rfl
def Qtw:List Item:=
  .f (some 16) none (.pick (.t 10) (.t 15) (.k (.c (.bool false))))::
  .f (some 4) none (.mv (.t 16))::
  []
def Qasb:SC:=(.seq (.reg (
  .f (some 5) none (.fad 0 (.t 2))::
  .f (some 6) none (.ld 1 false (.t 5))::
  .f (some 7) none (.fad 0 (.t 3))::
  .f (some 8) none (.ld 1 false (.t 7))::
  .f (some 9) none (.bin 0 .eql (.t 6) (.t 8))::
  .f (some 10) none (.mv (.t 9))::
  .f (some 11) (some (10,true)) (.fad 1 (.t 2))::
  .f (some 12) (some (10,true)) (.ld 1 false (.t 11))::
  .f (some 13) (some (10,true)) (.fad 1 (.t 3))::
  .f (some 14) (some (10,true)) (.ld 1 false (.t 13))::
  .e (some 15) (some (10,true)) (.call Qhj [.t 12,.t 14])::
  Qtw) [4]) .ret)
def Qa1n:SC:=(.seq (.reg (
  .f (some 2) none (.box (.t 0))::
  .f (some 3) none (.box (.t 1))::
  .f (some 4) none (.mv (.k (.c (.bool false))))::
  []) [2,3]) Qasb)
def Qaae:List RS:=[.tmp 4]
theorem Qa0k:mFn prog Qec 2 17 Qa1n Qaae=true:=by kernel_rfl
def Qpc:List Item:=
  .f (some 45) (some (39,false)) (.not (.t 44))::
  .f (some 46) none (.pick (.t 39) (.k (.c (.bool true))) (.t 45))::
  []
def Qam5:SC:=(.cond (.t 46) (.seq (.reg (
  .f (some 4) none (.mv (.k (.c (.bool false))))::
  []) [4]) .ret) .skip)
def Qpd:List Item:=
  .f (some 81) (some (67,false)) (.not (.t 80))::
  .f (some 82) none (.pick (.t 67) (.k (.c (.bool true))) (.t 81))::
  []
def Qam6:SC:=(.cond (.t 82) (.seq (.reg (
  .f (some 4) none (.mv (.k (.c (.bool false))))::
  []) [4]) .ret) .skip)
def Qam7:SC:=(.reg (
  .f (some 52) none (.mv (.t 5))::
  .f (some 53) none (.bin 0 .add (.t 52) (.k (.c (.int .i64 1))))::
  .f (some 5) none (.mv (.t 53))::
  []) [2,3,5])
def Qam8:SC:=(.seq (.block 1 (.seq (.dreg 29 [0,1,2,3,4,5,6,7,8,9,10,11,12,13,14,15,16,17,18,19,20,21,22,23,24,25,26,27,28] (
  .f (some 54) none (.fad 0 (.t 2))::
  .f (some 55) none (.ld 1 false (.t 54))::
  .f (some 56) none (.mv (.t 5))::
  .f (some 57) none (.iad 2 (.t 55) (.t 56))::
  .f (some 58) none (.fad 0 (.t 57))::
  .f (some 59) none (.ld 1 false (.t 58))::
  .f (some 60) none (.fad 0 (.t 3))::
  .f (some 61) none (.ld 1 false (.t 60))::
  .f (some 62) none (.mv (.t 5))::
  .f (some 63) none (.iad 2 (.t 61) (.t 62))::
  .f (some 64) none (.fad 0 (.t 63))::
  .f (some 65) none (.ld 1 false (.t 64))::
  .f (some 66) none (.bin 0 .neq (.t 59) (.t 65))::
  .f (some 67) none (.mv (.t 66))::
  .f (some 68) (some (67,false)) (.fad 0 (.t 2))::
  .f (some 69) (some (67,false)) (.ld 1 false (.t 68))::
  .f (some 70) (some (67,false)) (.mv (.t 5))::
  .f (some 71) (some (67,false)) (.iad 2 (.t 69) (.t 70))::
  .f (some 72) (some (67,false)) (.fad 1 (.t 71))::
  .f (some 73) (some (67,false)) (.ld 1 false (.t 72))::
  .f (some 74) (some (67,false)) (.fad 0 (.t 3))::
  .f (some 75) (some (67,false)) (.ld 1 false (.t 74))::
  .f (some 76) (some (67,false)) (.mv (.t 5))::
  .f (some 77) (some (67,false)) (.iad 2 (.t 75) (.t 76))::
  .f (some 78) (some (67,false)) (.fad 1 (.t 77))::
  .f (some 79) (some (67,false)) (.ld 1 false (.t 78))::
  .e (some 80) (some (67,false)) (.call Qr8 [.t 73,.t 79])::
  Qpd) [2,3,5,82]) Qam6)) Qam7)
def Qafi:SC:=(.seq (.seq (.reg (
  .f (some 47) none (.mv (.t 5))::
  .f (some 48) none (.fad 0 (.t 2))::
  .f (some 49) none (.ld 1 false (.t 48))::
  .f (some 50) none (.len (.t 49))::
  .f (some 51) none (.bin 0 .lss (.t 47) (.t 50))::
  []) [2,3,5,51]) (.cond (.t 51) .skip (.exit 0))) Qam8)
def Qpe:List Item:=
  .e none none (.sto 4 (.t 7) (.t 94))::
  []
def Qpf:List Item:=
  .e none none (.sto 4 (.t 8) (.t 99))::
  []
def Qpg:List Item:=
  .f (some 125) (some (119,false)) (.not (.t 124))::
  .f (some 126) none (.pick (.t 119) (.k (.c (.bool true))) (.t 125))::
  []
def Qae9:SC:=(.cond (.t 126) (.seq (.reg (
  .f (some 4) none (.mv (.k (.c (.bool false))))::
  []) [4]) .ret) .skip)
def Qafa:SC:=(.seq (.reg (
  .f (some 100) none (.fad 0 (.t 7))::
  .f (some 101) none (.ld 1 false (.t 100))::
  .f (some 102) none (.fad 0 (.t 8))::
  .f (some 103) none (.ld 1 false (.t 102))::
  .f (some 104) none (.bin 0 .neq (.t 101) (.t 103))::
  .f (some 105) none (.mv (.t 104))::
  .f (some 106) (some (105,false)) (.fad 1 (.t 7))::
  .f (some 107) (some (105,false)) (.ld 1 false (.t 106))::
  .f (some 108) (some (105,false)) (.fad 1 (.t 8))::
  .f (some 109) (some (105,false)) (.ld 1 false (.t 108))::
  .f (some 110) (some (105,false)) (.bin 0 .neq (.t 107) (.t 109))::
  .f (some 111) none (.pick (.t 105) (.k (.c (.bool true))) (.t 110))::
  .f (some 112) none (.mv (.t 111))::
  .f (some 113) (some (112,false)) (.fad 3 (.t 7))::
  .f (some 114) (some (112,false)) (.ld 1 false (.t 113))::
  .f (some 115) (some (112,false)) (.fad 3 (.t 8))::
  .f (some 116) (some (112,false)) (.ld 1 false (.t 115))::
  .f (some 117) (some (112,false)) (.bin 0 .neq (.t 114) (.t 116))::
  .f (some 118) none (.pick (.t 112) (.k (.c (.bool true))) (.t 117))::
  .f (some 119) none (.mv (.t 118))::
  .f (some 120) (some (119,false)) (.fad 2 (.t 7))::
  .f (some 121) (some (119,false)) (.ld 1 false (.t 120))::
  .f (some 122) (some (119,false)) (.fad 2 (.t 8))::
  .f (some 123) (some (119,false)) (.ld 1 false (.t 122))::
  .e (some 124) (some (119,false)) (.call Qr8 [.t 121,.t 123])::
  Qpg) [2,3,6,126]) Qae9)
def Qafb:SC:=(.seq (.reg (
  .f (some 95) none (.fad 1 (.t 3))::
  .f (some 96) none (.ld 1 false (.t 95))::
  .f (some 97) none (.mv (.t 6))::
  .f (some 98) none (.iad 4 (.t 96) (.t 97))::
  .f (some 99) none (.ld 4 true (.t 98))::
  .e (some 8) none (.alloc [.int .i64 0,.int .i64 0,.sl true 1 [],.int .i64 0])::
  Qpf) [2,3,6,7,8]) Qafa)
def Qafc:SC:=(.reg (
  .f (some 88) none (.mv (.t 6))::
  .f (some 89) none (.bin 0 .add (.t 88) (.k (.c (.int .i64 1))))::
  .f (some 6) none (.mv (.t 89))::
  []) [2,3,6])
def Qafd:SC:=(.seq (.block 3 (.seq (.reg (
  .f (some 90) none (.fad 1 (.t 2))::
  .f (some 91) none (.ld 1 false (.t 90))::
  .f (some 92) none (.mv (.t 6))::
  .f (some 93) none (.iad 4 (.t 91) (.t 92))::
  .f (some 94) none (.ld 4 true (.t 93))::
  .e (some 7) none (.alloc [.int .i64 0,.int .i64 0,.sl true 1 [],.int .i64 0])::
  Qpe) [2,3,6,7]) Qafb)) Qafc)
def Q8n:SC:=(.seq (.seq (.reg (
  .f (some 83) none (.mv (.t 6))::
  .f (some 84) none (.fad 1 (.t 2))::
  .f (some 85) none (.ld 1 false (.t 84))::
  .f (some 86) none (.len (.t 85))::
  .f (some 87) none (.bin 0 .lss (.t 83) (.t 86))::
  []) [2,3,6,87]) (.cond (.t 87) .skip (.exit 2))) Qafd)
def Qafe:SC:=(.seq (.reg (
  .f (some 4) none (.mv (.k (.c (.bool true))))::
  []) [4]) .ret)
def Qaff:SC:=(.seq (.seq (.reg (
  .f (some 6) none (.mv (.k (.c (.int .i64 0))))::
  []) [2,3,6]) (.block 2 (.loop Q8n))) Qafe)
def Qafg:SC:=(.seq (.seq (.reg (
  .f (some 5) none (.mv (.k (.c (.int .i64 0))))::
  []) [2,3,5]) (.block 0 (.loop Qafi))) Qaff)
def Qafh:SC:=(.seq (.seq (.reg (
  .f (some 9) none (.fad 0 (.t 2))::
  .f (some 10) none (.ld 1 false (.t 9))::
  .f (some 11) none (.len (.t 10))::
  .f (some 12) none (.fad 0 (.t 3))::
  .f (some 13) none (.ld 1 false (.t 12))::
  .f (some 14) none (.len (.t 13))::
  .f (some 15) none (.bin 0 .neq (.t 11) (.t 14))::
  .f (some 16) none (.mv (.t 15))::
  .f (some 17) (some (16,false)) (.fad 1 (.t 2))::
  .f (some 18) (some (16,false)) (.ld 1 false (.t 17))::
  .f (some 19) (some (16,false)) (.len (.t 18))::
  .f (some 20) (some (16,false)) (.fad 1 (.t 3))::
  .f (some 21) (some (16,false)) (.ld 1 false (.t 20))::
  .f (some 22) (some (16,false)) (.len (.t 21))::
  .f (some 23) (some (16,false)) (.bin 0 .neq (.t 19) (.t 22))::
  .f (some 24) none (.pick (.t 16) (.k (.c (.bool true))) (.t 23))::
  .f (some 25) none (.mv (.t 24))::
  .f (some 26) (some (25,false)) (.fad 2 (.t 2))::
  .f (some 27) (some (25,false)) (.ld 1 false (.t 26))::
  .f (some 28) (some (25,false)) (.fad 2 (.t 3))::
  .f (some 29) (some (25,false)) (.ld 1 false (.t 28))::
  .f (some 30) (some (25,false)) (.bin 0 .neq (.t 27) (.t 29))::
  .f (some 31) none (.pick (.t 25) (.k (.c (.bool true))) (.t 30))::
  .f (some 32) none (.mv (.t 31))::
  .f (some 33) (some (32,false)) (.fad 3 (.t 2))::
  .f (some 34) (some (32,false)) (.ld 1 false (.t 33))::
  .f (some 35) (some (32,false)) (.fad 3 (.t 3))::
  .f (some 36) (some (32,false)) (.ld 1 false (.t 35))::
  .f (some 37) (some (32,false)) (.bin 0 .neq (.t 34) (.t 36))::
  .f (some 38) none (.pick (.t 32) (.k (.c (.bool true))) (.t 37))::
  .f (some 39) none (.mv (.t 38))::
  .f (some 40) (some (39,false)) (.fad 4 (.t 2))::
  .f (some 41) (some (39,false)) (.ld 1 false (.t 40))::
  .f (some 42) (some (39,false)) (.fad 4 (.t 3))::
  .f (some 43) (some (39,false)) (.ld 1 false (.t 42))::
  .e (some 44) (some (39,false)) (.call Qr8 [.t 41,.t 43])::
  Qpc) [2,3,46]) Qam5) Qafg)
def Qayz:SC:=(.seq (.reg (
  .f (some 2) none (.box (.t 0))::
  .f (some 3) none (.box (.t 1))::
  .f (some 4) none (.mv (.k (.c (.bool false))))::
  []) [2,3]) Qafh)
def Q3d:List RS:=[.tmp 4]
theorem Qawv:mFn prog Qi7 2 127 Qayz Q3d=true:=by kernel_rfl
def Qas3:SC:=(.cond (.t 26) (.seq (.reg (
  .f (some 4) none (.mv (.k (.c (.bool false))))::
  []) [4]) .ret) .skip)
def Quy:List Item:=
  .f (some 45) none (.not (.t 44))::
  []
def Qas4:SC:=(.cond (.t 45) (.seq (.reg (
  .f (some 4) none (.mv (.k (.c (.bool false))))::
  []) [4]) .ret) .skip)
def Qas5:SC:=(.reg (
  .f (some 32) none (.mv (.t 5))::
  .f (some 33) none (.bin 0 .add (.t 32) (.k (.c (.int .i64 1))))::
  .f (some 5) none (.mv (.t 33))::
  []) [2,3,5])
def Qas6:SC:=(.seq (.block 1 (.seq (.dreg 12 [0,1,2,3,4,5,6,7,8,9,10,11] (
  .f (some 34) none (.fad 2 (.t 2))::
  .f (some 35) none (.ld 1 false (.t 34))::
  .f (some 36) none (.mv (.t 5))::
  .f (some 37) none (.iad 5 (.t 35) (.t 36))::
  .f (some 38) none (.ld 5 true (.t 37))::
  .f (some 39) none (.fad 2 (.t 3))::
  .f (some 40) none (.ld 1 false (.t 39))::
  .f (some 41) none (.mv (.t 5))::
  .f (some 42) none (.iad 5 (.t 40) (.t 41))::
  .f (some 43) none (.ld 5 true (.t 42))::
  .e (some 44) none (.call Qi7 [.t 38,.t 43])::
  Quy) [2,3,5,45]) Qas4)) Qas5)
def Qam9:SC:=(.seq (.seq (.reg (
  .f (some 27) none (.mv (.t 5))::
  .f (some 28) none (.fad 2 (.t 2))::
  .f (some 29) none (.ld 1 false (.t 28))::
  .f (some 30) none (.len (.t 29))::
  .f (some 31) none (.bin 0 .lss (.t 27) (.t 30))::
  []) [2,3,5,31]) (.cond (.t 31) .skip (.exit 0))) Qas6)
def Qas7:SC:=(.seq (.reg (
  .f (some 4) none (.mv (.k (.c (.bool true))))::
  []) [4]) .ret)
def Qas8:SC:=(.seq (.seq (.reg (
  .f (some 5) none (.mv (.k (.c (.int .i64 0))))::
  []) [2,3,5]) (.block 0 (.loop Qam9))) Qas7)
def Qas9:SC:=(.seq (.seq (.reg (
  .f (some 6) none (.fad 0 (.t 2))::
  .f (some 7) none (.ld 1 false (.t 6))::
  .f (some 8) none (.fad 0 (.t 3))::
  .f (some 9) none (.ld 1 false (.t 8))::
  .f (some 10) none (.bin 0 .neq (.t 7) (.t 9))::
  .f (some 11) none (.mv (.t 10))::
  .f (some 12) (some (11,false)) (.fad 1 (.t 2))::
  .f (some 13) (some (11,false)) (.ld 1 false (.t 12))::
  .f (some 14) (some (11,false)) (.fad 1 (.t 3))::
  .f (some 15) (some (11,false)) (.ld 1 false (.t 14))::
  .f (some 16) (some (11,false)) (.bin 0 .neq (.t 13) (.t 15))::
  .f (some 17) none (.pick (.t 11) (.k (.c (.bool true))) (.t 16))::
  .f (some 18) none (.mv (.t 17))::
  .f (some 19) (some (18,false)) (.fad 2 (.t 2))::
  .f (some 20) (some (18,false)) (.ld 1 false (.t 19))::
  .f (some 21) (some (18,false)) (.len (.t 20))::
  .f (some 22) (some (18,false)) (.fad 2 (.t 3))::
  .f (some 23) (some (18,false)) (.ld 1 false (.t 22))::
  .f (some 24) (some (18,false)) (.len (.t 23))::
  .f (some 25) (some (18,false)) (.bin 0 .neq (.t 21) (.t 24))::
  .f (some 26) none (.pick (.t 18) (.k (.c (.bool true))) (.t 25))::
  []) [2,3,26]) Qas3) Qas8)
def Qa4w:SC:=(.seq (.reg (
  .f (some 2) none (.box (.t 0))::
  .f (some 3) none (.box (.t 1))::
  .f (some 4) none (.mv (.k (.c (.bool false))))::
  []) [2,3]) Qas9)
def Qaai:List RS:=[.tmp 4]
theorem Qa0r:mFn prog Qmn 2 46 Qa4w Qaai=true:=by kernel_rfl
def Qbgr:SC:=(.cond (.t 10) (.seq (.reg (
  .f (some 4) none (.mv (.k (.c (.bool false))))::
  []) [4]) .ret) .skip)
def Qbgs:SC:=(.cond (.t 25) (.seq (.reg (
  .f (some 4) none (.mv (.k (.c (.bool false))))::
  []) [4]) .ret) .skip)
def Qbgt:SC:=(.reg (
  .f (some 15) none (.mv (.t 5))::
  .f (some 16) none (.bin 0 .add (.t 15) (.k (.c (.int .i64 1))))::
  .f (some 5) none (.mv (.t 16))::
  []) [0,1,5])
def Qbgu:SC:=(.seq (.block 1 (.seq (.dreg 9 [0,1,2,3,4,5,6,7,8] (
  .f (some 17) none (.mv (.t 0))::
  .f (some 18) none (.mv (.t 5))::
  .f (some 19) none (.iad 1 (.t 17) (.t 18))::
  .f (some 20) none (.ld 1 false (.t 19))::
  .f (some 21) none (.mv (.t 1))::
  .f (some 22) none (.mv (.t 5))::
  .f (some 23) none (.iad 1 (.t 21) (.t 22))::
  .f (some 24) none (.ld 1 false (.t 23))::
  .f (some 25) none (.bin 0 .neq (.t 20) (.t 24))::
  []) [0,1,5,25]) Qbgs)) Qbgt)
def Qbaa:SC:=(.seq (.seq (.reg (
  .f (some 11) none (.mv (.t 5))::
  .f (some 12) none (.mv (.t 0))::
  .f (some 13) none (.len (.t 12))::
  .f (some 14) none (.bin 0 .lss (.t 11) (.t 13))::
  []) [0,1,5,14]) (.cond (.t 14) .skip (.exit 0))) Qbgu)
def Qbgv:SC:=(.seq (.reg (
  .f (some 4) none (.mv (.k (.c (.bool true))))::
  []) [4]) .ret)
def Qbgw:SC:=(.seq (.seq (.reg (
  .f (some 5) none (.mv (.k (.c (.int .i64 0))))::
  []) [0,1,5]) (.block 0 (.loop Qbaa))) Qbgv)
def Qbgx:SC:=(.seq (.seq (.reg (
  .f (some 6) none (.mv (.t 0))::
  .f (some 7) none (.len (.t 6))::
  .f (some 8) none (.mv (.t 1))::
  .f (some 9) none (.len (.t 8))::
  .f (some 10) none (.bin 0 .neq (.t 7) (.t 9))::
  []) [0,1,10]) Qbgr) Qbgw)
def Qbpt:SC:=(.seq (.reg (
  .f (some 4) none (.mv (.k (.c (.bool false))))::
  []) [0,1]) Qbgx)
def Qbdr:List RS:=[.tmp 4]
theorem Qbot:mFn prog Qr8 2 26 Qbpt Qbdr=true:=by kernel_rfl
def Qni:SC:=(.cond (.t 12) (.seq (.reg (
  .f (some 2) none (.mv (.k (.c (.bool true))))::
  []) [2]) .ret) .skip)
def Qlq:List Item:=
  .e none none (.sto 1 (.t 3) (.t 14))::
  []
def Qlr:List Item:=
  .e (some 3) none (.alloc [.sl true 3 []])::
  Qlq
def Qls:List Item:=
  .f (some 5) none (.mv (.t 19))::
  []
def Qlt:List Item:=
  .e none none (.sto 1 (.t 4) (.t 18))::
  Qls
def Qlu:List Item:=
  .f (some 15) none (.mv (.t 17))::
  .f (some 18) none (.ext (.t 15) 0)::
  .f (some 19) none (.ext (.t 15) 1)::
  .e (some 4) none (.alloc [.sl true 3 []])::
  Qlt
def Qlv:List Item:=
  .f (some 7) none (.mv (.t 24))::
  []
def Qlw:List Item:=
  .e none none (.sto 1 (.t 6) (.t 23))::
  Qlv
def Qlx:List Item:=
  .f (some 20) none (.mv (.t 22))::
  .f (some 23) none (.ext (.t 20) 0)::
  .f (some 24) none (.ext (.t 20) 1)::
  .e (some 6) none (.alloc [.sl true 3 []])::
  Qlw
def Qly:List Item:=
  .f (some 32) (some (28,false)) (.not (.t 31))::
  .f (some 33) none (.pick (.t 28) (.k (.c (.bool true))) (.t 32))::
  .f (some 34) none (.mv (.t 33))::
  .f (some 35) (some (34,false)) (.mv (.t 5))::
  .f (some 36) (some (34,false)) (.not (.t 35))::
  .f (some 37) none (.pick (.t 34) (.k (.c (.bool true))) (.t 36))::
  []
def Qjt:List Item:=
  .f (some 45) none (.pick (.t 41) (.t 44) (.k (.c (.bool false))))::
  .f (some 2) none (.mv (.t 45))::
  []
def Qli:SC:=(.cond (.t 37) (.seq (.reg (
  .f (some 38) none (.mv (.t 5))::
  .f (some 39) none (.mv (.t 7))::
  .f (some 40) none (.bin 1 .eql (.t 38) (.t 39))::
  .f (some 41) none (.mv (.t 40))::
  .f (some 42) (some (41,true)) (.ld 1 true (.t 4))::
  .f (some 43) (some (41,true)) (.ld 1 true (.t 6))::
  .e (some 44) (some (41,true)) (.call Qby [.t 42,.t 43])::
  Qjt) [2]) .ret) .skip)
def Qju:List Item:=
  .f (some 9) none (.mv (.t 50))::
  []
def Qjv:List Item:=
  .e none none (.sto 1 (.t 8) (.t 49))::
  Qju
def Qjw:List Item:=
  .f (some 46) none (.mv (.t 48))::
  .f (some 49) none (.ext (.t 46) 0)::
  .f (some 50) none (.ext (.t 46) 1)::
  .e (some 8) none (.alloc [.sl true 3 []])::
  Qjv
def Qjx:List Item:=
  .chk 68 (some (66,true)) (.ld 1 false (.t 67))::
  .chk 69 (some (66,true)) (.len (.t 68))::
  .f (some 72) (some (66,true)) (.len (.t 71))::
  .f (some 73) (some (66,true)) (.bin 0 .eql (.t 69) (.t 72))::
  .f (some 74) none (.pick (.t 66) (.t 73) (.k (.c (.bool false))))::
  .f (some 2) none (.mv (.t 74))::
  []
def Qjy:List Item:=
  .chk 62 (some (57,true)) (.ld 1 false (.t 61))::
  .chk 63 (some (57,true)) (.len (.t 62))::
  .f (some 60) (some (57,true)) (.len (.t 59))::
  .f (some 64) (some (57,true)) (.bin 0 .eql (.t 60) (.t 63))::
  .f (some 65) none (.pick (.t 57) (.t 64) (.k (.c (.bool false))))::
  .f (some 66) none (.mv (.t 65))::
  .f (some 67) (some (66,true)) (.fad 0 (.t 4))::
  .f (some 68) (some (66,true)) (.ld 1 false (.t 67))::
  .f (some 69) (some (66,true)) (.len (.t 68))::
  .f (some 70) (some (66,true)) (.ld 1 true (.t 3))::
  .e (some 71) (some (66,true)) (.call Qfc [.t 70])::
  Qjx
def Qjz:List Item:=
  .f (some 56) none (.pick (.t 52) (.t 55) (.k (.c (.bool false))))::
  .f (some 57) none (.mv (.t 56))::
  .f (some 58) (some (57,true)) (.ld 1 true (.t 4))::
  .f (some 61) (some (57,true)) (.fad 0 (.t 4))::
  .f (some 62) (some (57,true)) (.ld 1 false (.t 61))::
  .f (some 63) (some (57,true)) (.len (.t 62))::
  .e (some 59) (some (57,true)) (.call Qfc [.t 58])::
  Qjy
def Qlj:SC:=(.seq (.dreg 25 [0,1,2,3,4,5,6,7,10,11,12,8,11,12,9,13,14,15,16,17,18,19,20,17,18,21,22,23,24] (
  .f (some 51) none (.mv (.t 9))::
  .f (some 52) none (.mv (.t 51))::
  .f (some 53) (some (52,true)) (.ld 1 true (.t 8))::
  .f (some 54) (some (52,true)) (.ld 1 true (.t 4))::
  .e (some 55) (some (52,true)) (.call Qd9 [.t 53,.t 54])::
  Qjz) [2]) .ret)
def Qlk:SC:=(.seq (.reg (
  .f (some 47) none (.ld 1 true (.t 4))::
  .e (some 48) none (.call Qr1 [.t 47])::
  Qjw) [3,4,8,9]) Qlj)
def Qll:SC:=(.seq (.seq (.reg (
  .f (some 25) none (.mv (.t 5))::
  .f (some 26) none (.mv (.t 7))::
  .f (some 27) none (.bin 1 .neq (.t 25) (.t 26))::
  .f (some 28) none (.mv (.t 27))::
  .f (some 29) (some (28,false)) (.ld 1 true (.t 4))::
  .f (some 30) (some (28,false)) (.ld 1 true (.t 6))::
  .e (some 31) (some (28,false)) (.call Qby [.t 29,.t 30])::
  Qly) [3,4,5,6,7,37]) Qli) Qlk)
def Qlm:SC:=(.seq (.reg (
  .f (some 21) none (.ld 1 true (.t 3))::
  .e (some 22) none (.call Qahv [.t 21])::
  Qlx) [3,4,5,6,7]) Qll)
def Qln:SC:=(.seq (.reg (
  .f (some 16) none (.ld 1 true (.t 3))::
  .e (some 17) none (.call Qr1 [.t 16])::
  Qlu) [3,4,5]) Qlm)
def Qlo:SC:=(.seq (.reg (
  .f (some 13) none (.mv (.t 0))::
  .e (some 14) none (.call Q0n [.t 13])::
  Qlr) [3]) Qln)
def Qlp:SC:=(.seq (.seq (.reg (
  .f (some 10) none (.mv (.t 0))::
  .f (some 11) none (.len (.t 10))::
  .f (some 12) none (.bin 0 .gtr (.t 11) (.k (.c (.int .i64 1048576))))::
  []) [0,12]) Qni) Qlo)
def s_la_FnDropCodesAgain:SC:=(.seq (.reg (
  .f (some 2) none (.mv (.k (.c (.bool false))))::
  []) [0]) Qlp)
def r_la_FnDropCodesAgain:List RS:=[.tmp 2]
def Qa5h:SC:=(.cond (.t 10) (.seq (.reg (
  .f (some 4) none (.mv (.k (.c (.bool false))))::
  []) [4]) .ret) .skip)
def Qa5i:SC:=(.cond (.t 24) (.seq (.reg (
  .f (some 4) none (.mv (.k (.c (.bool false))))::
  []) [4]) .ret) .skip)
def Qa5j:SC:=(.seq (.dreg 9 [0,1,2,3,4,5,6,7,8] (
  .f (some 16) none (.mv (.t 0))::
  .f (some 17) none (.mv (.t 5))::
  .f (some 18) none (.iad 1 (.t 16) (.t 17))::
  .f (some 19) none (.ld 1 false (.t 18))::
  .f (some 20) none (.mv (.t 1))::
  .f (some 21) none (.mv (.t 5))::
  .f (some 22) none (.iad 1 (.t 20) (.t 21))::
  .f (some 23) none (.ld 1 false (.t 22))::
  .f (some 24) none (.bin 0 .neq (.t 19) (.t 23))::
  []) [0,1,12,13,24]) Qa5i)
def Qa5k:SC:=(.reg (
  .f (some 25) none (.bin 0 .add (.t 13) (.k (.c (.int .i64 1))))::
  .f (some 13) none (.mv (.t 25))::
  []) [0,1,12,13])
def Qa5l:SC:=(.seq (.block 1 (.seq (.reg (
  .f (some 15) none (.mv (.t 13))::
  .f (some 5) none (.mv (.t 15))::
  []) [0,1,5,12,13]) Qa5j)) Qa5k)
def Qaze:SC:=(.seq (.reg (
  .f (some 14) none (.bin 0 .lss (.t 13) (.t 12))::
  []) [0,1,12,13,14]) (.seq (.cond (.t 14) .skip (.exit 0)) Qa5l))
def Qa5m:SC:=(.seq (.reg (
  .f (some 4) none (.mv (.k (.c (.bool true))))::
  []) [4]) .ret)
def Qa5n:SC:=(.seq (.seq (.reg (
  .f (some 11) none (.mv (.t 0))::
  .f (some 12) none (.len (.t 11))::
  .f (some 13) none (.mv (.k (.c (.int .i64 0))))::
  []) [0,1,12,13]) (.block 0 (.loop Qaze))) Qa5m)
def Qa5o:SC:=(.seq (.seq (.reg (
  .f (some 6) none (.mv (.t 0))::
  .f (some 7) none (.len (.t 6))::
  .f (some 8) none (.mv (.t 1))::
  .f (some 9) none (.len (.t 8))::
  .f (some 10) none (.bin 0 .neq (.t 7) (.t 9))::
  []) [0,1,10]) Qa5h) Qa5n)
def Qbh2:SC:=(.seq (.reg (
  .f (some 4) none (.mv (.k (.c (.bool false))))::
  []) [0,1]) Qa5o)
def Qau3:List RS:=[.tmp 4]
theorem Qbfm:mFn prog Qhj 2 26 Qbh2 Qau3=true:=by kernel_rfl
def Qqw:SC:=(.cond (.t 14) (.seq (.reg (
  .f (some 6) none (.mv (.k (.c (.bool false))))::
  []) [6]) .ret) .skip)
def Qet:List Item:=
  .f (some 7) none (.mv (.t 19))::
  .e none none (.sto 5 (.t 8) (.t 21))::
  []
def Qeu:List Item:=
  .e none none (.sto 5 (.t 9) (.t 25))::
  []
def Qev:List Item:=
  .f (some 30) none (.not (.t 29))::
  []
def Qqx:SC:=(.cond (.t 30) (.seq (.reg (
  .f (some 6) none (.mv (.k (.c (.bool false))))::
  []) [6]) .ret) .skip)
def Qqy:SC:=(.seq (.reg (
  .f (some 26) none (.mv (.t 2))::
  .f (some 27) none (.ld 5 true (.t 8))::
  .f (some 28) none (.ld 5 true (.t 9))::
  .e (some 29) none (.callv (.t 26) [.t 27,.t 28])::
  Qev) [1,2,15,16,17,30]) Qqx)
def Qqz:SC:=(.seq (.reg (
  .f (some 22) none (.mv (.t 1))::
  .f (some 23) none (.mv (.t 7))::
  .f (some 24) none (.iad 5 (.t 22) (.t 23))::
  .f (some 25) none (.ld 5 true (.t 24))::
  .e (some 9) none (.alloc [.sl true 2 [],.sl true 4 [],.int .i64 0,.int .i64 0,.sl true 1 []])::
  Qeu) [1,2,8,9,15,16,17]) Qqy)
def Qq0:SC:=(.reg (
  .f (some 31) none (.bin 0 .add (.t 17) (.k (.c (.int .i64 1))))::
  .f (some 17) none (.mv (.t 31))::
  []) [1,2,15,16,17])
def Qq1:SC:=(.seq (.block 1 (.seq (.reg (
  .f (some 19) none (.mv (.t 17))::
  .f (some 20) none (.iad 5 (.t 15) (.t 17))::
  .f (some 21) none (.ld 5 true (.t 20))::
  .e (some 8) none (.alloc [.sl true 2 [],.sl true 4 [],.int .i64 0,.int .i64 0,.sl true 1 []])::
  Qet) [1,2,7,8,15,16,17]) Qqz)) Qq0)
def Qn0:SC:=(.seq (.reg (
  .f (some 18) none (.bin 0 .lss (.t 17) (.t 16))::
  []) [1,2,15,16,17,18]) (.seq (.cond (.t 18) .skip (.exit 0)) Qq1))
def Qnx:SC:=(.seq (.reg (
  .f (some 6) none (.mv (.k (.c (.bool true))))::
  []) [6]) .ret)
def Qny:SC:=(.seq (.seq (.reg (
  .f (some 15) none (.mv (.t 0))::
  .f (some 16) none (.len (.t 15))::
  .f (some 17) none (.mv (.k (.c (.int .i64 0))))::
  []) [1,2,15,16,17]) (.block 0 (.loop Qn0))) Qnx)
def Qnz:SC:=(.seq (.seq (.reg (
  .f (some 10) none (.mv (.t 0))::
  .f (some 11) none (.len (.t 10))::
  .f (some 12) none (.mv (.t 1))::
  .f (some 13) none (.len (.t 12))::
  .f (some 14) none (.bin 0 .neq (.t 11) (.t 13))::
  []) [0,1,2,14]) Qqw) Qny)
def Qx3:SC:=(.seq (.reg (
  .f (some 6) none (.mv (.k (.c (.bool false))))::
  []) [0,1,2]) Qnz)
def Qgf:List RS:=[.tmp 6]
theorem Qxo:mFn prog Qcf 3 32 Qx3 Qgf=true:=by kernel_rfl
def Qv9:SC:=(.cond (.t 14) (.seq (.reg (
  .f (some 6) none (.mv (.k (.c (.bool false))))::
  []) [6]) .ret) .skip)
def Qe6:List Item:=
  .f (some 7) none (.mv (.t 19))::
  .e none none (.sto 3 (.t 8) (.t 21))::
  []
def Qe7:List Item:=
  .e none none (.sto 3 (.t 9) (.t 25))::
  []
def Qe8:List Item:=
  .f (some 30) none (.not (.t 29))::
  []
def Qwa:SC:=(.cond (.t 30) (.seq (.reg (
  .f (some 6) none (.mv (.k (.c (.bool false))))::
  []) [6]) .ret) .skip)
def Qwb:SC:=(.seq (.reg (
  .f (some 26) none (.mv (.t 2))::
  .f (some 27) none (.ld 3 true (.t 8))::
  .f (some 28) none (.ld 3 true (.t 9))::
  .e (some 29) none (.callv (.t 26) [.t 27,.t 28])::
  Qe8) [1,2,15,16,17,30]) Qwa)
def Qwc:SC:=(.seq (.reg (
  .f (some 22) none (.mv (.t 1))::
  .f (some 23) none (.mv (.t 7))::
  .f (some 24) none (.iad 3 (.t 22) (.t 23))::
  .f (some 25) none (.ld 3 true (.t 24))::
  .e (some 9) none (.alloc [.int .i64 0,.int .i64 0,.sl true 5 []])::
  Qe7) [1,2,8,9,15,16,17]) Qwb)
def Qwd:SC:=(.reg (
  .f (some 31) none (.bin 0 .add (.t 17) (.k (.c (.int .i64 1))))::
  .f (some 17) none (.mv (.t 31))::
  []) [1,2,15,16,17])
def Qwe:SC:=(.seq (.block 1 (.seq (.reg (
  .f (some 19) none (.mv (.t 17))::
  .f (some 20) none (.iad 3 (.t 15) (.t 17))::
  .f (some 21) none (.ld 3 true (.t 20))::
  .e (some 8) none (.alloc [.int .i64 0,.int .i64 0,.sl true 5 []])::
  Qe6) [1,2,7,8,15,16,17]) Qwc)) Qwd)
def Qq5:SC:=(.seq (.reg (
  .f (some 18) none (.bin 0 .lss (.t 17) (.t 16))::
  []) [1,2,15,16,17,18]) (.seq (.cond (.t 18) .skip (.exit 0)) Qwe))
def Qq2:SC:=(.seq (.reg (
  .f (some 6) none (.mv (.k (.c (.bool true))))::
  []) [6]) .ret)
def Qq3:SC:=(.seq (.seq (.reg (
  .f (some 15) none (.mv (.t 0))::
  .f (some 16) none (.len (.t 15))::
  .f (some 17) none (.mv (.k (.c (.int .i64 0))))::
  []) [1,2,15,16,17]) (.block 0 (.loop Qq5))) Qq2)
def Qq4:SC:=(.seq (.seq (.reg (
  .f (some 10) none (.mv (.t 0))::
  .f (some 11) none (.len (.t 10))::
  .f (some 12) none (.mv (.t 1))::
  .f (some 13) none (.len (.t 12))::
  .f (some 14) none (.bin 0 .neq (.t 11) (.t 13))::
  []) [0,1,2,14]) Qv9) Qq3)
def Q1v:SC:=(.seq (.reg (
  .f (some 6) none (.mv (.k (.c (.bool false))))::
  []) [0,1,2]) Qq4)
def Qht:List RS:=[.tmp 6]
theorem Q0t:mFn prog Qcz 3 32 Q1v Qht=true:=by kernel_rfl
def Qx4:SC:=(.cond (.t 14) (.seq (.reg (
  .f (some 6) none (.mv (.k (.c (.bool false))))::
  []) [6]) .ret) .skip)
def Qf5:List Item:=
  .f (some 7) none (.mv (.t 19))::
  .e none none (.sto 4 (.t 8) (.t 21))::
  []
def Qf6:List Item:=
  .e none none (.sto 4 (.t 9) (.t 25))::
  []
def Qf7:List Item:=
  .f (some 30) none (.not (.t 29))::
  []
def Qx5:SC:=(.cond (.t 30) (.seq (.reg (
  .f (some 6) none (.mv (.k (.c (.bool false))))::
  []) [6]) .ret) .skip)
def Qx6:SC:=(.seq (.reg (
  .f (some 26) none (.mv (.t 2))::
  .f (some 27) none (.ld 4 true (.t 8))::
  .f (some 28) none (.ld 4 true (.t 9))::
  .e (some 29) none (.callv (.t 26) [.t 27,.t 28])::
  Qf7) [1,2,15,16,17,30]) Qx5)
def Qx7:SC:=(.seq (.reg (
  .f (some 22) none (.mv (.t 1))::
  .f (some 23) none (.mv (.t 7))::
  .f (some 24) none (.iad 4 (.t 22) (.t 23))::
  .f (some 25) none (.ld 4 true (.t 24))::
  .e (some 9) none (.alloc [.int .i64 0,.int .i64 0,.sl true 1 [],.int .i64 0])::
  Qf6) [1,2,8,9,15,16,17]) Qx6)
def Qx8:SC:=(.reg (
  .f (some 31) none (.bin 0 .add (.t 17) (.k (.c (.int .i64 1))))::
  .f (some 17) none (.mv (.t 31))::
  []) [1,2,15,16,17])
def Qx9:SC:=(.seq (.block 1 (.seq (.reg (
  .f (some 19) none (.mv (.t 17))::
  .f (some 20) none (.iad 4 (.t 15) (.t 17))::
  .f (some 21) none (.ld 4 true (.t 20))::
  .e (some 8) none (.alloc [.int .i64 0,.int .i64 0,.sl true 1 [],.int .i64 0])::
  Qf5) [1,2,7,8,15,16,17]) Qx7)) Qx8)
def Qwi:SC:=(.seq (.reg (
  .f (some 18) none (.bin 0 .lss (.t 17) (.t 16))::
  []) [1,2,15,16,17,18]) (.seq (.cond (.t 18) .skip (.exit 0)) Qx9))
def Qwf:SC:=(.seq (.reg (
  .f (some 6) none (.mv (.k (.c (.bool true))))::
  []) [6]) .ret)
def Qwg:SC:=(.seq (.seq (.reg (
  .f (some 15) none (.mv (.t 0))::
  .f (some 16) none (.len (.t 15))::
  .f (some 17) none (.mv (.k (.c (.int .i64 0))))::
  []) [1,2,15,16,17]) (.block 0 (.loop Qwi))) Qwf)
def Qwh:SC:=(.seq (.seq (.reg (
  .f (some 10) none (.mv (.t 0))::
  .f (some 11) none (.len (.t 10))::
  .f (some 12) none (.mv (.t 1))::
  .f (some 13) none (.len (.t 12))::
  .f (some 14) none (.bin 0 .neq (.t 11) (.t 13))::
  []) [0,1,2,14]) Qx4) Qwg)
def Q5b:SC:=(.seq (.reg (
  .f (some 6) none (.mv (.k (.c (.bool false))))::
  []) [0,1,2]) Qwh)
def Qiu:List RS:=[.tmp 6]
theorem Q2w:mFn prog Qdd 3 32 Q5b Qiu=true:=by kernel_rfl
def Qya:SC:=(.cond (.t 14) (.seq (.reg (
  .f (some 6) none (.mv (.k (.c (.bool false))))::
  []) [6]) .ret) .skip)
def Qf8:List Item:=
  .f (some 7) none (.mv (.t 19))::
  .e none none (.sto 2 (.t 8) (.t 21))::
  []
def Qf9:List Item:=
  .e none none (.sto 2 (.t 9) (.t 25))::
  []
def Qga:List Item:=
  .f (some 30) none (.not (.t 29))::
  []
def Qyb:SC:=(.cond (.t 30) (.seq (.reg (
  .f (some 6) none (.mv (.k (.c (.bool false))))::
  []) [6]) .ret) .skip)
def Qyc:SC:=(.seq (.reg (
  .f (some 26) none (.mv (.t 2))::
  .f (some 27) none (.ld 2 true (.t 8))::
  .f (some 28) none (.ld 2 true (.t 9))::
  .e (some 29) none (.callv (.t 26) [.t 27,.t 28])::
  Qga) [1,2,15,16,17,30]) Qyb)
def Qyd:SC:=(.seq (.reg (
  .f (some 22) none (.mv (.t 1))::
  .f (some 23) none (.mv (.t 7))::
  .f (some 24) none (.iad 2 (.t 22) (.t 23))::
  .f (some 25) none (.ld 2 true (.t 24))::
  .e (some 9) none (.alloc [.int .i64 0,.sl true 1 []])::
  Qf9) [1,2,8,9,15,16,17]) Qyc)
def Qye:SC:=(.reg (
  .f (some 31) none (.bin 0 .add (.t 17) (.k (.c (.int .i64 1))))::
  .f (some 17) none (.mv (.t 31))::
  []) [1,2,15,16,17])
def Qyf:SC:=(.seq (.block 1 (.seq (.reg (
  .f (some 19) none (.mv (.t 17))::
  .f (some 20) none (.iad 2 (.t 15) (.t 17))::
  .f (some 21) none (.ld 2 true (.t 20))::
  .e (some 8) none (.alloc [.int .i64 0,.sl true 1 []])::
  Qf8) [1,2,7,8,15,16,17]) Qyd)) Qye)
def Qwm:SC:=(.seq (.reg (
  .f (some 18) none (.bin 0 .lss (.t 17) (.t 16))::
  []) [1,2,15,16,17,18]) (.seq (.cond (.t 18) .skip (.exit 0)) Qyf))
def Qwj:SC:=(.seq (.reg (
  .f (some 6) none (.mv (.k (.c (.bool true))))::
  []) [6]) .ret)
def Qwk:SC:=(.seq (.seq (.reg (
  .f (some 15) none (.mv (.t 0))::
  .f (some 16) none (.len (.t 15))::
  .f (some 17) none (.mv (.k (.c (.int .i64 0))))::
  []) [1,2,15,16,17]) (.block 0 (.loop Qwm))) Qwj)
def Qwl:SC:=(.seq (.seq (.reg (
  .f (some 10) none (.mv (.t 0))::
  .f (some 11) none (.len (.t 10))::
  .f (some 12) none (.mv (.t 1))::
  .f (some 13) none (.len (.t 12))::
  .f (some 14) none (.bin 0 .neq (.t 11) (.t 13))::
  []) [0,1,2,14]) Qya) Qwk)
def Q5c:SC:=(.seq (.reg (
  .f (some 6) none (.mv (.k (.c (.bool false))))::
  []) [0,1,2]) Qwl)
def Qiv:List RS:=[.tmp 6]
theorem Q2x:mFn prog Qde 3 32 Q5c Qiv=true:=by kernel_rfl
def Qwx:List Item:=
  .e none none (.sto 1 (.t 2) (.t 5))::
  []
def Qwy:List Item:=
  .e (some 5) none (.call Qauo [.t 4])::
  Qwx
def Qyu:SC:=(.seq (.reg (
  .f (some 3) none (.mv (.t 0))::
  .e (some 4) none (.call Qg5 [.t 3])::
  Qwy) [2]) .ret)
def s_sp_DrawDropCodes:SC:=(.seq (.reg (
  .e (some 2) none (.alloc [.sl true 3 []])::
  []) [0,2]) Qyu)
def r_sp_DrawDropCodes:List RS:=[.cell 2 1 true]
def Q9f:List Item:=
  .f (some 3) none (.mv (.k (.c (.bool false))))::
  []
def Q9g:List Item:=
  .f (some 13) none (.not (.t 12))::
  []
def Q9h:List Item:=
  .f (some 3) none (.mv (.k (.c (.bool false))))::
  []
def Qagf:SC:=(.cond (.t 13) (.seq (.reg (
  .f (some 14) none (.bld [.sl true 3 []] [])::
  .e none none (.sto 1 (.t 2) (.t 14))::
  Q9h) [2,3]) .ret) .skip)
def Q9i:List Item:=
  .f (some 4) none (.mv (.t 16))::
  []
def Q9j:List Item:=
  .e none none (.sto 1 (.t 5) (.t 17))::
  []
def Q9k:List Item:=
  .chk 25 none (.ld 1 false (.t 24))::
  .chk 28 none (.iad 1 (.t 26) (.t 27))::
  .chk 29 none (.ld 1 false (.t 28))::
  .chk 30 none (.iad 3 (.t 25) (.t 29))::
  .chk 31 none (.ld 3 true (.t 30))::
  .e none none (.sto 3 (.t 7) (.t 32))::
  []
def Q9l:List Item:=
  .e (some 7) none (.alloc [.int .i64 0,.int .i64 0,.sl true 5 []])::
  Q9k
def Q9m:List Item:=
  .f (some 71) none (.nck (.t 64))::
  .f (some 72) none (.fad 3 (.t 71))::
  .e none none (.sto 1 (.t 72) (.t 70))::
  []
def Qagg:SC:=(.cond (.t 63) (.reg (
  .f (some 64) none (.mv (.t 10))::
  .f (some 65) none (.mv (.t 4))::
  .f (some 66) none (.mv (.t 10))::
  .f (some 67) none (.nck (.t 66))::
  .f (some 68) none (.fad 3 (.t 67))::
  .f (some 69) none (.ld 1 false (.t 68))::
  .e (some 70) none (.call Q2l [.t 65,.t 69])::
  Q9m) [1,2,4,5,6,7,8,9]) .skip)
def Q81:SC:=(.seq (.reg (
  .f (some 59) none (.mv (.t 10))::
  .f (some 60) none (.nck (.t 59))::
  .f (some 61) none (.fad 0 (.t 60))::
  .f (some 62) none (.ld 1 false (.t 61))::
  .f (some 63) none (.bin 0 .eql (.t 62) (.k (.c (.int .i64 14))))::
  []) [1,2,4,5,6,7,8,9,10,63]) Qagg)
def Q82:SC:=(.reg (
  .f (some 49) none (.mv (.t 9))::
  .f (some 50) none (.bin 0 .add (.t 49) (.k (.c (.int .i64 1))))::
  .f (some 9) none (.mv (.t 50))::
  []) [1,2,4,5,6,7,8,9])
def Q83:SC:=(.seq (.block 5 (.seq (.reg (
  .f (some 51) none (.fad 2 (.t 7))::
  .f (some 52) none (.ld 1 false (.t 51))::
  .f (some 53) none (.mv (.t 8))::
  .f (some 54) none (.iad 5 (.t 52) (.t 53))::
  .f (some 55) none (.fad 1 (.t 54))::
  .f (some 56) none (.ld 1 false (.t 55))::
  .f (some 57) none (.mv (.t 9))::
  .f (some 58) none (.iad 4 (.t 56) (.t 57))::
  .f (some 10) none (.mv (.t 58))::
  []) [1,2,4,5,6,7,8,9,10]) Q81)) Q82)
def Q5n:SC:=(.seq (.seq (.reg (
  .f (some 40) none (.mv (.t 9))::
  .f (some 41) none (.fad 2 (.t 7))::
  .f (some 42) none (.ld 1 false (.t 41))::
  .f (some 43) none (.mv (.t 8))::
  .f (some 44) none (.iad 5 (.t 42) (.t 43))::
  .f (some 45) none (.fad 1 (.t 44))::
  .f (some 46) none (.ld 1 false (.t 45))::
  .f (some 47) none (.len (.t 46))::
  .f (some 48) none (.bin 0 .lss (.t 40) (.t 47))::
  []) [1,2,4,5,6,7,8,9,48]) (.cond (.t 48) .skip (.exit 4))) Q83)
def Q84:SC:=(.reg (
  .f (some 38) none (.mv (.t 8))::
  .f (some 39) none (.bin 0 .add (.t 38) (.k (.c (.int .i64 1))))::
  .f (some 8) none (.mv (.t 39))::
  []) [1,2,4,5,6,7,8])
def Q85:SC:=(.seq (.block 3 (.seq (.reg (
  .f (some 9) none (.mv (.k (.c (.int .i64 0))))::
  []) [1,2,4,5,6,7,8,9]) (.block 4 (.loop Q5n)))) Q84)
def Q5o:SC:=(.seq (.seq (.reg (
  .f (some 33) none (.mv (.t 8))::
  .f (some 34) none (.fad 2 (.t 7))::
  .f (some 35) none (.ld 1 false (.t 34))::
  .f (some 36) none (.len (.t 35))::
  .f (some 37) none (.bin 0 .lss (.t 33) (.t 36))::
  []) [1,2,4,5,6,7,8,37]) (.cond (.t 37) .skip (.exit 2))) Q85)
def Q5l:List Item:=
  .f (some 78) none (.fad 0 (.t 5))::
  .e none none (.sto 1 (.t 78) (.t 77))::
  []
def Q86:SC:=(.reg (
  .f (some 73) none (.fad 0 (.t 5))::
  .f (some 74) none (.ld 1 false (.t 73))::
  .f (some 75) none (.ld 3 true (.t 7))::
  .f (some 76) none (.bsl 3 [.t 75])::
  .e (some 77) none (.app 3 (.t 74) (.t 76))::
  Q5l) [1,2,4,5,6])
def Q87:SC:=(.seq (.seq (.reg (
  .f (some 8) none (.mv (.k (.c (.int .i64 0))))::
  []) [1,2,4,5,6,7,8]) (.block 2 (.loop Q5o))) Q86)
def Q88:SC:=(.reg (
  .f (some 22) none (.mv (.t 6))::
  .f (some 23) none (.bin 0 .add (.t 22) (.k (.c (.int .i64 1))))::
  .f (some 6) none (.mv (.t 23))::
  []) [1,2,4,5,6])
def Q89:SC:=(.seq (.block 1 (.seq (.dreg 9 [0,1,2,3,4,5,6,7,8,9,1,4,5,6,7,10] (
  .f (some 24) none (.fad 0 (.t 1))::
  .f (some 25) none (.ld 1 false (.t 24))::
  .f (some 26) none (.mv (.t 4))::
  .f (some 27) none (.mv (.t 6))::
  .f (some 28) none (.iad 1 (.t 26) (.t 27))::
  .f (some 29) none (.ld 1 false (.t 28))::
  .f (some 30) none (.iad 3 (.t 25) (.t 29))::
  .f (some 31) none (.ld 3 true (.t 30))::
  .e (some 32) none (.call Qhi [.t 31])::
  Q9l) [1,2,4,5,6,7]) Q87)) Q88)
def Q5p:SC:=(.seq (.seq (.reg (
  .f (some 18) none (.mv (.t 6))::
  .f (some 19) none (.mv (.t 4))::
  .f (some 20) none (.len (.t 19))::
  .f (some 21) none (.bin 0 .lss (.t 18) (.t 20))::
  []) [1,2,4,5,6,21]) (.cond (.t 21) .skip (.exit 0))) Q89)
def Q5m:List Item:=
  .f (some 3) none (.mv (.k (.c (.bool true))))::
  []
def Q9a:SC:=(.seq (.reg (
  .f (some 79) none (.ld 1 true (.t 5))::
  .e none none (.sto 1 (.t 2) (.t 79))::
  Q5m) [2,3]) .ret)
def Q9b:SC:=(.seq (.seq (.reg (
  .f (some 6) none (.mv (.k (.c (.int .i64 0))))::
  []) [1,2,4,5,6]) (.block 0 (.loop Q5p))) Q9a)
def Q9c:SC:=(.seq (.reg (
  .f (some 17) none (.bld [.sl true 3 []] [])::
  .e (some 5) none (.alloc [.sl true 3 []])::
  Q9j) [1,2,4,5]) Q9b)
def Q9d:SC:=(.seq (.reg (
  .f (some 15) none (.ld 1 true (.t 1))::
  .e (some 16) none (.call Qff [.t 15])::
  Q9i) [1,2,4]) Q9c)
def Q9e:SC:=(.seq (.seq (.reg (
  .f (some 11) none (.ld 1 true (.t 1))::
  .e (some 12) none (.call Qa7 [.t 11])::
  Q9g) [1,2,13]) Qagf) Q9d)
def s_sp_DropCodes:SC:=(.seq (.reg (
  .f (some 1) none (.box (.t 0))::
  .e (some 2) none (.alloc [.sl true 3 []])::
  Q9f) [1,2]) Q9e)
def r_sp_DropCodes:List RS:=[.cell 2 1 true,.tmp 3]
def Qagn:SC:=(.cond (.t 12) (.seq (.reg (
  .f (some 4) none (.mv (.k (.c (.bool false))))::
  []) [4]) .ret) .skip)
def Ql1:List Item:=
  .f (some 31) none (.not (.t 30))::
  []
def Qago:SC:=(.cond (.t 31) (.seq (.reg (
  .f (some 4) none (.mv (.k (.c (.bool false))))::
  []) [4]) .ret) .skip)
def Qagp:SC:=(.reg (
  .f (some 18) none (.mv (.t 5))::
  .f (some 19) none (.bin 0 .add (.t 18) (.k (.c (.int .i64 1))))::
  .f (some 5) none (.mv (.t 19))::
  []) [2,3,5])
def Qagq:SC:=(.seq (.block 1 (.seq (.dreg 12 [0,1,2,3,4,5,6,7,8,9,10,11] (
  .f (some 20) none (.fad 0 (.t 2))::
  .f (some 21) none (.ld 1 false (.t 20))::
  .f (some 22) none (.mv (.t 5))::
  .f (some 23) none (.iad 3 (.t 21) (.t 22))::
  .f (some 24) none (.ld 3 true (.t 23))::
  .f (some 25) none (.fad 0 (.t 3))::
  .f (some 26) none (.ld 1 false (.t 25))::
  .f (some 27) none (.mv (.t 5))::
  .f (some 28) none (.iad 3 (.t 26) (.t 27))::
  .f (some 29) none (.ld 3 true (.t 28))::
  .e (some 30) none (.call Qmn [.t 24,.t 29])::
  Ql1) [2,3,5,31]) Qago)) Qagp)
def Q9o:SC:=(.seq (.seq (.reg (
  .f (some 13) none (.mv (.t 5))::
  .f (some 14) none (.fad 0 (.t 2))::
  .f (some 15) none (.ld 1 false (.t 14))::
  .f (some 16) none (.len (.t 15))::
  .f (some 17) none (.bin 0 .lss (.t 13) (.t 16))::
  []) [2,3,5,17]) (.cond (.t 17) .skip (.exit 0))) Qagq)
def Qagr:SC:=(.seq (.reg (
  .f (some 4) none (.mv (.k (.c (.bool true))))::
  []) [4]) .ret)
def Qags:SC:=(.seq (.seq (.reg (
  .f (some 5) none (.mv (.k (.c (.int .i64 0))))::
  []) [2,3,5]) (.block 0 (.loop Q9o))) Qagr)
def Qagt:SC:=(.seq (.seq (.reg (
  .f (some 6) none (.fad 0 (.t 2))::
  .f (some 7) none (.ld 1 false (.t 6))::
  .f (some 8) none (.len (.t 7))::
  .f (some 9) none (.fad 0 (.t 3))::
  .f (some 10) none (.ld 1 false (.t 9))::
  .f (some 11) none (.len (.t 10))::
  .f (some 12) none (.bin 0 .neq (.t 8) (.t 11))::
  []) [2,3,12]) Qagn) Qags)
def Qaud:SC:=(.seq (.reg (
  .f (some 2) none (.box (.t 0))::
  .f (some 3) none (.box (.t 1))::
  .f (some 4) none (.mv (.k (.c (.bool false))))::
  []) [2,3]) Qagt)
def Qzc:List RS:=[.tmp 4]
theorem Qaqf:mFn prog Qby 2 32 Qaud Qzc=true:=by kernel_rfl
def Qaa4:List Item:=
  .f (some 4) none (.mv (.t 9))::
  []
def Qaa5:List Item:=
  .e none none (.sto 3 (.t 3) (.t 8))::
  Qaa4
def Qaa6:List Item:=
  .f (some 5) none (.mv (.t 7))::
  .f (some 8) none (.ext (.t 5) 0)::
  .f (some 9) none (.ext (.t 5) 1)::
  .e (some 3) none (.alloc [.int .i64 0,.int .i64 0,.sl true 5 []])::
  Qaa5
def Qaa7:List Item:=
  .f (some 4) none (.mv (.t 15))::
  []
def Qaa8:List Item:=
  .f (some 11) none (.mv (.t 13))::
  .f (some 14) none (.ext (.t 11) 0)::
  .f (some 15) none (.ext (.t 11) 1)::
  .e none none (.sto 3 (.t 3) (.t 14))::
  Qaa7
def Qa8a:SC:=(.block 1 (.reg (
  .f (some 12) none (.ld 3 true (.t 3))::
  .e (some 13) none (.call Qw8 [.t 12])::
  Qaa8) [2,3,4]))
def Qa2i:SC:=(.seq (.seq (.reg (
  .f (some 10) none (.mv (.t 4))::
  []) [2,3,10]) (.cond (.t 10) .skip (.exit 0))) Qa8a)
def Qa8b:SC:=(.seq (.reg (
  .f (some 16) none (.ld 3 true (.t 3))::
  .e none none (.sto 3 (.t 2) (.t 16))::
  []) [2]) .ret)
def Qa8c:SC:=(.seq (.reg (
  .f (some 6) none (.ld 3 true (.t 1))::
  .e (some 7) none (.call Qw8 [.t 6])::
  Qaa6) [2,3,4]) (.seq (.block 0 (.loop Qa2i)) Qa8b))
def Qbli:SC:=(.seq (.reg (
  .f (some 1) none (.box (.t 0))::
  .e (some 2) none (.alloc [.int .i64 0,.int .i64 0,.sl true 5 []])::
  []) [1,2]) Qa8c)
def Qa04:List RS:=[.cell 2 3 true]
theorem Qbkb:mFn prog Q6j 1 17 Qbli Qa04=true:=by kernel_rfl
def Qabk:List Item:=
  .f (some 3) none (.mv (.k (.c (.bool false))))::
  []
def Qabl:List Item:=
  .e none none (.sto 2 (.t 4) (.t 15))::
  []
def Qabm:List Item:=
  .e (some 4) none (.alloc [.sl true 1 [],.sl true 1 []])::
  Qabl
def Qabn:List Item:=
  .e none none (.sto 3 (.t 5) (.t 17))::
  []
def Qabo:List Item:=
  .e (some 5) none (.alloc [.int .i64 0,.int .i64 0,.sl true 5 []])::
  Qabn
def Qabp:List Item:=
  .f (some 8) none (.mv (.t 28))::
  []
def Qabq:List Item:=
  .f (some 9) none (.mv (.t 32))::
  []
def Qabr:List Item:=
  .f (some 10) none (.mv (.t 69))::
  []
def Qa8q:SC:=(.cond (.t 57) (.reg (
  .f (some 58) none (.mv (.t 10))::
  .f (some 59) none (.fad 2 (.t 5))::
  .f (some 60) none (.ld 1 false (.t 59))::
  .f (some 61) none (.mv (.t 7))::
  .f (some 62) none (.iad 5 (.t 60) (.t 61))::
  .f (some 63) none (.fad 0 (.t 62))::
  .f (some 64) none (.ld 1 false (.t 63))::
  .f (some 65) none (.mv (.t 11))::
  .f (some 66) none (.iad 2 (.t 64) (.t 65))::
  .f (some 67) none (.ld 2 true (.t 66))::
  .f (some 68) none (.bsl 2 [.t 67])::
  .e (some 69) none (.app 2 (.t 58) (.t 68))::
  Qabr) [1,2,4,5,6,7,8,9,10,11]) .skip)
def Qa8r:SC:=(.reg (
  .f (some 43) none (.mv (.t 11))::
  .f (some 44) none (.bin 0 .add (.t 43) (.k (.c (.int .i64 1))))::
  .f (some 11) none (.mv (.t 44))::
  []) [1,2,4,5,6,7,8,9,10,11])
def Qa3d:SC:=(.seq (.block 3 (.seq (.reg (
  .f (some 45) none (.mv (.t 9))::
  .f (some 46) none (.fad 2 (.t 1))::
  .f (some 47) none (.ld 1 false (.t 46))::
  .f (some 48) none (.mv (.t 7))::
  .f (some 49) none (.iad 5 (.t 47) (.t 48))::
  .f (some 50) none (.fad 0 (.t 49))::
  .f (some 51) none (.ld 1 false (.t 50))::
  .f (some 52) none (.mv (.t 11))::
  .f (some 53) none (.iad 2 (.t 51) (.t 52))::
  .f (some 54) none (.fad 0 (.t 53))::
  .f (some 55) none (.ld 1 false (.t 54))::
  .f (some 56) none (.iad 1 (.t 45) (.t 55))::
  .f (some 57) none (.ld 1 false (.t 56))::
  []) [1,2,4,5,6,7,8,9,10,11,57]) Qa8q)) Qa8r)
def Qayi:SC:=(.seq (.seq (.reg (
  .f (some 34) none (.mv (.t 11))::
  .f (some 35) none (.fad 2 (.t 1))::
  .f (some 36) none (.ld 1 false (.t 35))::
  .f (some 37) none (.mv (.t 7))::
  .f (some 38) none (.iad 5 (.t 36) (.t 37))::
  .f (some 39) none (.fad 0 (.t 38))::
  .f (some 40) none (.ld 1 false (.t 39))::
  .f (some 41) none (.len (.t 40))::
  .f (some 42) none (.bin 0 .lss (.t 34) (.t 41))::
  []) [1,2,4,5,6,7,8,9,10,11,42]) (.cond (.t 42) .skip (.exit 2))) Qa3d)
def Q4y:List Item:=
  .f (some 85) none (.bin 0 .lss (.t 84) (.k (.c (.int .i64 0))))::
  []
def Q4z:List Item:=
  .f (some 12) none (.mv (.t 97))::
  []
def Qa3e:SC:=(.cond (.t 85) (.reg (
  .f (some 86) none (.mv (.t 12))::
  .f (some 87) none (.fad 2 (.t 5))::
  .f (some 88) none (.ld 1 false (.t 87))::
  .f (some 89) none (.mv (.t 7))::
  .f (some 90) none (.iad 5 (.t 88) (.t 89))::
  .f (some 91) none (.fad 1 (.t 90))::
  .f (some 92) none (.ld 1 false (.t 91))::
  .f (some 93) none (.mv (.t 13))::
  .f (some 94) none (.iad 4 (.t 92) (.t 93))::
  .f (some 95) none (.ld 4 true (.t 94))::
  .f (some 96) none (.bsl 4 [.t 95])::
  .e (some 97) none (.app 4 (.t 86) (.t 96))::
  Q4z) [1,2,4,5,6,7,8,10,12,13]) .skip)
def Qa3f:SC:=(.reg (
  .f (some 80) none (.mv (.t 13))::
  .f (some 81) none (.bin 0 .add (.t 80) (.k (.c (.int .i64 1))))::
  .f (some 13) none (.mv (.t 81))::
  []) [1,2,4,5,6,7,8,10,12,13])
def Qa3g:SC:=(.seq (.block 5 (.seq (.reg (
  .f (some 82) none (.mv (.t 8))::
  .f (some 83) none (.mv (.t 13))::
  .e (some 84) none (.call Q2l [.t 82,.t 83])::
  Q4y) [1,2,4,5,6,7,8,10,12,13,85]) Qa3e)) Qa3f)
def Qayj:SC:=(.seq (.seq (.reg (
  .f (some 71) none (.mv (.t 13))::
  .f (some 72) none (.fad 2 (.t 1))::
  .f (some 73) none (.ld 1 false (.t 72))::
  .f (some 74) none (.mv (.t 7))::
  .f (some 75) none (.iad 5 (.t 73) (.t 74))::
  .f (some 76) none (.fad 1 (.t 75))::
  .f (some 77) none (.ld 1 false (.t 76))::
  .f (some 78) none (.len (.t 77))::
  .f (some 79) none (.bin 0 .lss (.t 71) (.t 78))::
  []) [1,2,4,5,6,7,8,10,12,13,79]) (.cond (.t 79) .skip (.exit 4))) Qa3g)
def Qa3h:SC:=(.reg (
  .f (some 129) none (.fad 2 (.t 5))::
  .f (some 130) none (.ld 1 false (.t 129))::
  .f (some 131) none (.mv (.t 7))::
  .f (some 132) none (.mv (.t 12))::
  .f (some 133) none (.iad 5 (.t 130) (.t 131))::
  .f (some 134) none (.fad 1 (.t 133))::
  .e none none (.sto 1 (.t 134) (.t 132))::
  []) [1,2,4,5,6,7])
def Qabj:SC:=(.seq (.reg (
  .f (some 123) none (.fad 2 (.t 5))::
  .f (some 124) none (.ld 1 false (.t 123))::
  .f (some 125) none (.mv (.t 7))::
  .f (some 126) none (.mv (.t 10))::
  .f (some 127) none (.iad 5 (.t 124) (.t 125))::
  .f (some 128) none (.fad 0 (.t 127))::
  .e none none (.sto 1 (.t 128) (.t 126))::
  []) [1,2,4,5,6,7,12]) Qa3h)
def Qa3i:SC:=(.seq (.reg (
  .f (some 98) none (.mv (.t 6))::
  .f (some 99) none (.mv (.t 98))::
  .f (some 100) (some (99,false)) (.mv (.t 12))::
  .f (some 101) (some (99,false)) (.len (.t 100))::
  .f (some 102) (some (99,false)) (.fad 2 (.t 1))::
  .f (some 103) (some (99,false)) (.ld 1 false (.t 102))::
  .f (some 104) (some (99,false)) (.mv (.t 7))::
  .f (some 105) (some (99,false)) (.iad 5 (.t 103) (.t 104))::
  .f (some 106) (some (99,false)) (.fad 1 (.t 105))::
  .f (some 107) (some (99,false)) (.ld 1 false (.t 106))::
  .f (some 108) (some (99,false)) (.len (.t 107))::
  .f (some 109) (some (99,false)) (.bin 0 .lss (.t 101) (.t 108))::
  .f (some 110) none (.pick (.t 99) (.k (.c (.bool true))) (.t 109))::
  .f (some 111) none (.mv (.t 110))::
  .f (some 112) (some (111,false)) (.mv (.t 10))::
  .f (some 113) (some (111,false)) (.len (.t 112))::
  .f (some 114) (some (111,false)) (.fad 2 (.t 1))::
  .f (some 115) (some (111,false)) (.ld 1 false (.t 114))::
  .f (some 116) (some (111,false)) (.mv (.t 7))::
  .f (some 117) (some (111,false)) (.iad 5 (.t 115) (.t 116))::
  .f (some 118) (some (111,false)) (.fad 0 (.t 117))::
  .f (some 119) (some (111,false)) (.ld 1 false (.t 118))::
  .f (some 120) (some (111,false)) (.len (.t 119))::
  .f (some 121) (some (111,false)) (.bin 0 .lss (.t 113) (.t 120))::
  .f (some 122) none (.pick (.t 111) (.k (.c (.bool true))) (.t 121))::
  .f (some 6) none (.mv (.t 122))::
  []) [1,2,4,5,6,7,10,12]) Qabj)
def Qa3j:SC:=(.seq (.seq (.reg (
  .f (some 13) none (.mv (.k (.c (.int .i64 0))))::
  []) [1,2,4,5,6,7,8,10,12,13]) (.block 4 (.loop Qayj))) Qa3i)
def Qa3k:SC:=(.seq (.reg (
  .f (some 70) none (.bsl 4 [])::
  .f (some 12) none (.mv (.t 70))::
  []) [1,2,4,5,6,7,8,10,12]) Qa3j)
def Qa3l:SC:=(.seq (.seq (.reg (
  .f (some 11) none (.mv (.k (.c (.int .i64 0))))::
  []) [1,2,4,5,6,7,8,9,10,11]) (.block 2 (.loop Qayi))) Qa3k)
def Qa3m:SC:=(.seq (.reg (
  .f (some 33) none (.bsl 2 [])::
  .f (some 10) none (.mv (.t 33))::
  []) [1,2,4,5,6,7,8,9,10]) Qa3l)
def Qa3n:SC:=(.seq (.reg (
  .f (some 29) none (.ld 3 true (.t 1))::
  .f (some 30) none (.ld 2 true (.t 4))::
  .f (some 31) none (.mv (.t 7))::
  .e (some 32) none (.call Qdl [.t 29,.t 30,.t 31,.k (.c (.int .i64 (-1)))])::
  Qabq) [1,2,4,5,6,7,8,9]) Qa3m)
def Qa3o:SC:=(.reg (
  .f (some 23) none (.mv (.t 7))::
  .f (some 24) none (.bin 0 .add (.t 23) (.k (.c (.int .i64 1))))::
  .f (some 7) none (.mv (.t 24))::
  []) [1,2,4,5,6,7])
def Qa3p:SC:=(.seq (.block 1 (.seq (.reg (
  .f (some 25) none (.ld 3 true (.t 1))::
  .f (some 26) none (.ld 2 true (.t 4))::
  .f (some 27) none (.mv (.t 7))::
  .e (some 28) none (.call Q6l [.t 25,.t 26,.t 27])::
  Qabp) [1,2,4,5,6,7,8]) Qa3n)) Qa3o)
def Qayk:SC:=(.seq (.seq (.reg (
  .f (some 18) none (.mv (.t 7))::
  .f (some 19) none (.fad 2 (.t 1))::
  .f (some 20) none (.ld 1 false (.t 19))::
  .f (some 21) none (.len (.t 20))::
  .f (some 22) none (.bin 0 .lss (.t 18) (.t 21))::
  []) [1,2,4,5,6,7,22]) (.cond (.t 22) .skip (.exit 0))) Qa3p)
def Q40:List Item:=
  .f (some 3) none (.mv (.t 136))::
  []
def Qa3q:SC:=(.seq (.reg (
  .f (some 135) none (.ld 3 true (.t 5))::
  .f (some 136) none (.mv (.t 6))::
  .e none none (.sto 3 (.t 2) (.t 135))::
  Q40) [2,3]) .ret)
def Qa3r:SC:=(.seq (.seq (.reg (
  .f (some 7) none (.mv (.k (.c (.int .i64 0))))::
  []) [1,2,4,5,6,7]) (.block 0 (.loop Qayk))) Qa3q)
def Qa3s:SC:=(.seq (.reg (
  .f (some 6) none (.mv (.k (.c (.bool false))))::
  []) [1,2,4,5,6]) Qa3r)
def Qa3t:SC:=(.seq (.reg (
  .f (some 16) none (.ld 3 true (.t 1))::
  .e (some 17) none (.call Qhi [.t 16])::
  Qabo) [1,2,4,5]) Qa3s)
def Qa3u:SC:=(.seq (.reg (
  .f (some 14) none (.ld 3 true (.t 1))::
  .e (some 15) none (.call Qw7 [.t 14])::
  Qabm) [1,2,4]) Qa3t)
def Qblm:SC:=(.seq (.reg (
  .f (some 1) none (.box (.t 0))::
  .e (some 2) none (.alloc [.int .i64 0,.int .i64 0,.sl true 5 []])::
  Qabk) [1,2]) Qa3u)
def Qa08:List RS:=[.cell 2 3 true,.tmp 3]
theorem Qbkf:mFn prog Qw8 1 137 Qblm Qa08=true:=by kernel_rfl
def Qqp:SC:=(.cond (.t 13) (.seq (.reg (
  .f (some 2) none (.mv (.k (.c (.bool true))))::
  []) [2]) .ret) .skip)
def Qel:List Item:=
  .e none none (.sto 1 (.t 3) (.t 15))::
  []
def Qem:List Item:=
  .e (some 3) none (.alloc [.sl true 3 []])::
  Qel
def Qen:List Item:=
  .f (some 5) none (.mv (.t 20))::
  []
def Qeo:List Item:=
  .e none none (.sto 1 (.t 4) (.t 19))::
  Qen
def Qep:List Item:=
  .f (some 16) none (.mv (.t 18))::
  .f (some 19) none (.ext (.t 16) 0)::
  .f (some 20) none (.ext (.t 16) 1)::
  .e (some 4) none (.alloc [.sl true 3 []])::
  Qeo
def Qeq:List Item:=
  .f (some 7) none (.mv (.t 25))::
  []
def Qer:List Item:=
  .e none none (.sto 1 (.t 6) (.t 24))::
  Qeq
def Qes:List Item:=
  .f (some 21) none (.mv (.t 23))::
  .f (some 24) none (.ext (.t 21) 0)::
  .f (some 25) none (.ext (.t 21) 1)::
  .e (some 6) none (.alloc [.sl true 3 []])::
  Qer
def Qb4:List Item:=
  .f (some 33) (some (29,false)) (.not (.t 32))::
  .f (some 34) none (.pick (.t 29) (.k (.c (.bool true))) (.t 33))::
  .f (some 35) none (.mv (.t 34))::
  .f (some 36) (some (35,false)) (.mv (.t 5))::
  .f (some 37) (some (35,false)) (.not (.t 36))::
  .f (some 38) none (.pick (.t 35) (.k (.c (.bool true))) (.t 37))::
  []
def Qdu:List Item:=
  .f (some 46) none (.pick (.t 42) (.t 45) (.k (.c (.bool false))))::
  .f (some 2) none (.mv (.t 46))::
  []
def Qnj:SC:=(.cond (.t 38) (.seq (.reg (
  .f (some 39) none (.mv (.t 5))::
  .f (some 40) none (.mv (.t 7))::
  .f (some 41) none (.bin 1 .eql (.t 39) (.t 40))::
  .f (some 42) none (.mv (.t 41))::
  .f (some 43) (some (42,true)) (.ld 1 true (.t 4))::
  .f (some 44) (some (42,true)) (.ld 1 true (.t 6))::
  .e (some 45) (some (42,true)) (.call Qby [.t 43,.t 44])::
  Qdu) [2]) .ret) .skip)
def Qdv:List Item:=
  .f (some 9) none (.mv (.t 51))::
  []
def Qdw:List Item:=
  .e none none (.sto 1 (.t 8) (.t 50))::
  Qdv
def Qdx:List Item:=
  .f (some 47) none (.mv (.t 49))::
  .f (some 50) none (.ext (.t 47) 0)::
  .f (some 51) none (.ext (.t 47) 1)::
  .e (some 8) none (.alloc [.sl true 3 []])::
  Qdw
def Qdy:List Item:=
  .f (some 64) none (.bin 0 .gtr (.t 60) (.t 63))::
  []
def Qdz:List Item:=
  .chk 61 none (.ld 1 true (.t 3))::
  .e (some 63) none (.call Qfs [.t 61,.t 62])::
  Qdy
def Qnk:SC:=(.cond (.t 64) (.seq (.reg (
  .f (some 2) none (.mv (.k (.c (.bool false))))::
  []) [2]) .ret) .skip)
def Qnl:SC:=(.seq (.dreg 7 [0,1,3,4,2,3,5,6] (
  .f (some 58) none (.ld 1 true (.t 4))::
  .f (some 59) none (.mv (.t 10))::
  .f (some 61) none (.ld 1 true (.t 3))::
  .f (some 62) none (.mv (.t 10))::
  .e (some 60) none (.call Qfs [.t 58,.t 59])::
  Qdz) [3,4,8,9,54,55,64]) Qnk)
def Qnm:SC:=(.reg (
  .f (some 65) none (.bin 0 .add (.t 55) (.k (.c (.int .i64 1))))::
  .f (some 55) none (.mv (.t 65))::
  []) [3,4,8,9,54,55])
def Qnn:SC:=(.seq (.block 1 (.seq (.reg (
  .f (some 57) none (.mv (.t 55))::
  .f (some 10) none (.mv (.t 57))::
  []) [3,4,8,9,10,54,55]) Qnl)) Qnm)
def Qlz:SC:=(.seq (.reg (
  .f (some 56) none (.bin 0 .lss (.t 55) (.t 54))::
  []) [3,4,8,9,54,55,56]) (.seq (.cond (.t 56) .skip (.exit 0)) Qnn))
def Qd0:List Item:=
  .f (some 75) (some (72,true)) (.len (.t 74))::
  .f (some 76) (some (72,true)) (.bin 0 .eql (.t 75) (.k (.c (.int .i64 0))))::
  .f (some 77) none (.pick (.t 72) (.t 76) (.k (.c (.bool false))))::
  .f (some 2) none (.mv (.t 77))::
  []
def Qd1:List Item:=
  .f (some 71) none (.pick (.t 67) (.t 70) (.k (.c (.bool false))))::
  .f (some 72) none (.mv (.t 71))::
  .f (some 73) (some (72,true)) (.ld 1 true (.t 4))::
  .e (some 74) (some (72,true)) (.call Qme [.t 73])::
  Qd0
def Qno:SC:=(.seq (.reg (
  .f (some 66) none (.mv (.t 9))::
  .f (some 67) none (.mv (.t 66))::
  .f (some 68) (some (67,true)) (.ld 1 true (.t 8))::
  .f (some 69) (some (67,true)) (.ld 1 true (.t 4))::
  .e (some 70) (some (67,true)) (.call Qd9 [.t 68,.t 69])::
  Qd1) [2]) .ret)
def Qnp:SC:=(.seq (.seq (.reg (
  .f (some 52) none (.fad 0 (.t 4))::
  .f (some 53) none (.ld 1 false (.t 52))::
  .f (some 54) none (.len (.t 53))::
  .f (some 55) none (.mv (.k (.c (.int .i64 0))))::
  []) [3,4,8,9,54,55]) (.block 0 (.loop Qlz))) Qno)
def Qnq:SC:=(.seq (.reg (
  .f (some 48) none (.ld 1 true (.t 4))::
  .e (some 49) none (.call Qfr [.t 48])::
  Qdx) [3,4,8,9]) Qnp)
def Qnr:SC:=(.seq (.seq (.reg (
  .f (some 26) none (.mv (.t 5))::
  .f (some 27) none (.mv (.t 7))::
  .f (some 28) none (.bin 1 .neq (.t 26) (.t 27))::
  .f (some 29) none (.mv (.t 28))::
  .f (some 30) (some (29,false)) (.ld 1 true (.t 4))::
  .f (some 31) (some (29,false)) (.ld 1 true (.t 6))::
  .e (some 32) (some (29,false)) (.call Qby [.t 30,.t 31])::
  Qb4) [3,4,5,6,7,38]) Qnj) Qnq)
def Qns:SC:=(.seq (.reg (
  .f (some 22) none (.ld 1 true (.t 3))::
  .e (some 23) none (.call Qja [.t 22])::
  Qes) [3,4,5,6,7]) Qnr)
def Qnt:SC:=(.seq (.reg (
  .f (some 17) none (.ld 1 true (.t 3))::
  .e (some 18) none (.call Qfr [.t 17])::
  Qep) [3,4,5]) Qns)
def Qnu:SC:=(.seq (.reg (
  .f (some 14) none (.mv (.t 0))::
  .e (some 15) none (.call Qee [.t 14])::
  Qem) [3]) Qnt)
def Qnv:SC:=(.seq (.seq (.reg (
  .f (some 11) none (.mv (.t 0))::
  .f (some 12) none (.len (.t 11))::
  .f (some 13) none (.bin 0 .gtr (.t 12) (.k (.c (.int .i64 1048576))))::
  []) [0,13]) Qqp) Qnu)
def Qx2:SC:=(.seq (.reg (
  .f (some 2) none (.mv (.k (.c (.bool false))))::
  []) [0]) Qnv)
def Qc0:List RS:=[.tmp 2]
theorem Qxn:mFn prog Qf1 1 78 Qx2 Qc0=true:=by kernel_rfl
def Qgh:List Item:=
  .e none none (.sto 1 (.t 2) (.t 5))::
  []
def Qgi:List Item:=
  .e (some 5) none (.call Q6f [.t 4])::
  Qgh
def Q17:SC:=(.seq (.reg (
  .f (some 3) none (.mv (.t 0))::
  .e (some 4) none (.call Qg5 [.t 3])::
  Qgi) [2]) .ret)
def Q80:SC:=(.seq (.reg (
  .e (some 2) none (.alloc [.sl true 3 []])::
  []) [0,2]) Q17)
def Qkm:List RS:=[.cell 2 1 true]
theorem Q6w:mFn prog Qee 1 6 Q80 Qkm=true:=by kernel_rfl
def Qpw:List Item:=
  .f (some 3) none (.mv (.k (.c (.bool false))))::
  []
def Qpx:List Item:=
  .f (some 3) none (.mv (.t 7))::
  []
def Qpy:List Item:=
  .f (some 6) none (.ext (.t 5) 0)::
  .f (some 7) none (.ext (.t 5) 1)::
  .e none none (.sto 1 (.t 2) (.t 6))::
  Qpx
def Qapa:SC:=(.seq (.reg (
  .f (some 4) none (.ld 1 true (.t 1))::
  .e (some 5) none (.call Q6g [.t 4,.k (.c (.str [105,100,108,101]))])::
  Qpy) [2,3]) .ret)
def Qazg:SC:=(.seq (.reg (
  .f (some 1) none (.box (.t 0))::
  .e (some 2) none (.alloc [.sl true 3 []])::
  Qpw) [1,2]) Qapa)
def Q3i:List RS:=[.cell 2 1 true,.tmp 3]
theorem Qaw0:mFn prog Qja 1 8 Qazg Q3i=true:=by kernel_rfl
def Qads:List Item:=
  .f (some 8) none (.not (.t 7))::
  []
def Qajj:SC:=(.cond (.t 8) (.seq (.reg (
  .f (some 2) none (.mv (.k (.c (.int .i64 (-1)))))::
  []) [2]) .ret) .skip)
def Qadt:List Item:=
  .e none none (.sto 3 (.t 5) (.t 15))::
  []
def Qadu:List Item:=
  .f (some 19) none (.bin 0 .add (.t 16) (.t 18))::
  .f (some 3) none (.mv (.t 19))::
  []
def Qajk:SC:=(.reg (
  .f (some 16) none (.mv (.t 3))::
  .f (some 17) none (.ld 3 true (.t 5))::
  .e (some 18) none (.call Qapx [.t 17])::
  Qadu) [3,10,11,12])
def Qajl:SC:=(.reg (
  .f (some 20) none (.bin 0 .add (.t 12) (.k (.c (.int .i64 1))))::
  .f (some 12) none (.mv (.t 20))::
  []) [3,10,11,12])
def Qajm:SC:=(.seq (.block 1 (.seq (.reg (
  .f (some 14) none (.iad 3 (.t 10) (.t 12))::
  .f (some 15) none (.ld 3 true (.t 14))::
  .e (some 5) none (.alloc [.int .i64 0,.int .i64 0,.sl true 5 []])::
  Qadt) [3,5,10,11,12]) Qajk)) Qajl)
def Qadv:SC:=(.seq (.reg (
  .f (some 13) none (.bin 0 .lss (.t 12) (.t 11))::
  []) [3,10,11,12,13]) (.seq (.cond (.t 13) .skip (.exit 0)) Qajm))
def Qajn:SC:=(.seq (.reg (
  .f (some 21) none (.mv (.t 3))::
  .f (some 2) none (.mv (.t 21))::
  []) [2]) .ret)
def Qajo:SC:=(.seq (.seq (.reg (
  .f (some 9) none (.fad 0 (.t 1))::
  .f (some 10) none (.ld 1 false (.t 9))::
  .f (some 11) none (.len (.t 10))::
  .f (some 12) none (.mv (.k (.c (.int .i64 0))))::
  []) [3,10,11,12]) (.block 0 (.loop Qadv))) Qajn)
def Qadq:SC:=(.seq (.reg (
  .f (some 3) none (.mv (.k (.c (.int .i64 0))))::
  []) [1,3]) Qajo)
def Qadr:SC:=(.seq (.seq (.reg (
  .f (some 6) none (.ld 1 true (.t 1))::
  .e (some 7) none (.call Qa6 [.t 6])::
  Qads) [1,8]) Qajj) Qadq)
def s_im_PhiCount:SC:=(.seq (.reg (
  .f (some 1) none (.box (.t 0))::
  .f (some 2) none (.mv (.k (.c (.int .i64 0))))::
  []) [1]) Qadr)
def r_im_PhiCount:List RS:=[.tmp 2]
def Q3u:List Item:=
  .f (some 12) none (.not (.t 11))::
  []
def Q7g:SC:=(.cond (.t 12) (.seq (.reg (
  .f (some 4) none (.mv (.k (.c (.sl true 1 []))))::
  []) [4]) .ret) .skip)
def Q3v:List Item:=
  .f (some 6) none (.mv (.t 18))::
  []
def Q3w:List Item:=
  .f (some 25) none (.len (.t 24))::
  .f (some 26) none (.mv (.k (.c (.int .i64 0))))::
  []
def Q3x:List Item:=
  .f (some 5) none (.mv (.t 44))::
  []
def Q7h:SC:=(.cond (.t 40) (.reg (
  .f (some 41) none (.mv (.t 5))::
  .f (some 42) none (.mv (.t 7))::
  .f (some 43) none (.bsl 1 [.t 42])::
  .e (some 44) none (.app 1 (.t 41) (.t 43))::
  Q3x) [5,6,24,25,26]) .skip)
def Q7i:SC:=(.seq (.reg (
  .f (some 31) none (.mv (.t 8))::
  .f (some 32) none (.len (.t 31))::
  .f (some 33) none (.bin 0 .gtr (.t 32) (.k (.c (.int .i64 0))))::
  .f (some 34) none (.mv (.t 33))::
  .f (some 35) (some (34,true)) (.mv (.t 6))::
  .f (some 36) (some (34,true)) (.mv (.t 7))::
  .f (some 37) (some (34,true)) (.iad 1 (.t 35) (.t 36))::
  .f (some 38) (some (34,true)) (.ld 1 false (.t 37))::
  .f (some 39) (some (34,true)) (.bin 0 .eql (.t 38) (.k (.c (.int .i64 0))))::
  .f (some 40) none (.pick (.t 34) (.t 39) (.k (.c (.bool false))))::
  []) [5,6,7,24,25,26,40]) Q7h)
def Q7j:SC:=(.reg (
  .f (some 45) none (.bin 0 .add (.t 26) (.k (.c (.int .i64 1))))::
  .f (some 26) none (.mv (.t 45))::
  []) [5,6,24,25,26])
def Q7k:SC:=(.seq (.block 1 (.seq (.reg (
  .f (some 28) none (.mv (.t 26))::
  .f (some 29) none (.iad 1 (.t 24) (.t 26))::
  .f (some 30) none (.ld 1 false (.t 29))::
  .f (some 7) none (.mv (.t 28))::
  .f (some 8) none (.mv (.t 30))::
  []) [5,6,7,8,24,25,26]) Q7i)) Q7j)
def Q3y:SC:=(.seq (.reg (
  .f (some 27) none (.bin 0 .lss (.t 26) (.t 25))::
  []) [5,6,24,25,26,27]) (.seq (.cond (.t 27) .skip (.exit 0)) Q7k))
def Q3p:SC:=(.seq (.reg (
  .f (some 46) none (.mv (.t 5))::
  .f (some 4) none (.mv (.t 46))::
  []) [4]) .ret)
def Q3q:SC:=(.seq (.seq (.reg (
  .f (some 19) none (.fad 0 (.t 2))::
  .f (some 20) none (.ld 1 false (.t 19))::
  .f (some 21) none (.mv (.t 1))::
  .f (some 22) none (.iad 3 (.t 20) (.t 21))::
  .f (some 23) none (.ld 3 true (.t 22))::
  .e (some 24) none (.call Qapy [.t 23])::
  Q3w) [5,6,24,25,26]) (.block 0 (.loop Q3y))) Q3p)
def Q3r:SC:=(.seq (.reg (
  .f (some 13) none (.fad 0 (.t 2))::
  .f (some 14) none (.ld 1 false (.t 13))::
  .f (some 15) none (.mv (.t 1))::
  .f (some 16) none (.iad 3 (.t 14) (.t 15))::
  .f (some 17) none (.ld 3 true (.t 16))::
  .e (some 18) none (.call Qaz5 [.t 17])::
  Q3v) [1,2,5,6]) Q3q)
def Q3s:SC:=(.seq (.reg (
  .f (some 5) none (.mv (.k (.c (.sl true 1 []))))::
  []) [1,2,5]) Q3r)
def Q3t:SC:=(.seq (.seq (.reg (
  .f (some 9) none (.ld 1 true (.t 2))::
  .f (some 10) none (.mv (.t 1))::
  .e (some 11) none (.call Qii [.t 9,.t 10])::
  Q3u) [1,2,12]) Q7g) Q3s)
def s_im_UnusedRegs:SC:=(.seq (.reg (
  .f (some 2) none (.box (.t 0))::
  .f (some 4) none (.mv (.k (.c (.sl true 1 []))))::
  []) [1,2]) Q3t)
def r_im_UnusedRegs:List RS:=[.tmp 4]
def Qaeu:List Item:=
  .e none none (.sto 5 (.t 5) (.t 12))::
  []
def Qakg:SC:=(.reg (
  .f (some 13) none (.mv (.t 3))::
  .f (some 14) none (.fad 0 (.t 5))::
  .f (some 15) none (.ld 1 false (.t 14))::
  .f (some 16) none (.len (.t 15))::
  .f (some 17) none (.bin 0 .add (.t 13) (.t 16))::
  .f (some 3) none (.mv (.t 17))::
  []) [3,7,8,9])
def Qakh:SC:=(.reg (
  .f (some 18) none (.bin 0 .add (.t 9) (.k (.c (.int .i64 1))))::
  .f (some 9) none (.mv (.t 18))::
  []) [3,7,8,9])
def Qaki:SC:=(.seq (.block 1 (.seq (.reg (
  .f (some 11) none (.iad 5 (.t 7) (.t 9))::
  .f (some 12) none (.ld 5 true (.t 11))::
  .e (some 5) none (.alloc [.sl true 2 [],.sl true 4 [],.int .i64 0,.int .i64 0,.sl true 1 []])::
  Qaeu) [3,5,7,8,9]) Qakg)) Qakh)
def Qaev:SC:=(.seq (.reg (
  .f (some 10) none (.bin 0 .lss (.t 9) (.t 8))::
  []) [3,7,8,9,10]) (.seq (.cond (.t 10) .skip (.exit 0)) Qaki))
def Qakj:SC:=(.seq (.reg (
  .f (some 19) none (.mv (.t 3))::
  .f (some 2) none (.mv (.t 19))::
  []) [2]) .ret)
def Qakk:SC:=(.seq (.seq (.reg (
  .f (some 6) none (.fad 2 (.t 1))::
  .f (some 7) none (.ld 1 false (.t 6))::
  .f (some 8) none (.len (.t 7))::
  .f (some 9) none (.mv (.k (.c (.int .i64 0))))::
  []) [3,7,8,9]) (.block 0 (.loop Qaev))) Qakj)
def Qakl:SC:=(.seq (.reg (
  .f (some 3) none (.mv (.k (.c (.int .i64 0))))::
  []) [1,3]) Qakk)
def s_im_phiCount:SC:=(.seq (.reg (
  .f (some 1) none (.box (.t 0))::
  .f (some 2) none (.mv (.k (.c (.int .i64 0))))::
  []) [1]) Qakl)
def r_im_phiCount:List RS:=[.tmp 2]
def Qao1:SC:=(.cond (.t 18) (.seq (.reg (
  .f (some 4) none (.mv (.k (.c (.bool true))))::
  []) [4]) .ret) .skip)
def Qaf0:List Item:=
  .f (some 6) none (.mv (.t 23))::
  []
def Qaf1:List Item:=
  .e none none (.sto 1 (.t 5) (.t 22))::
  Qaf0
def Qaf2:List Item:=
  .f (some 19) none (.mv (.t 21))::
  .f (some 22) none (.ext (.t 19) 0)::
  .f (some 23) none (.ext (.t 19) 1)::
  .e (some 5) none (.alloc [.sl true 3 []])::
  Qaf1
def Qaf3:List Item:=
  .f (some 7) none (.mv (.t 26))::
  []
def Qaf4:List Item:=
  .f (some 32) none (.not (.t 31))::
  []
def Qaf5:List Item:=
  .e (some 31) none (.call Qsc [.t 27,.t 30])::
  Qaf4
def Qao2:SC:=(.cond (.t 32) (.seq (.reg (
  .f (some 4) none (.mv (.k (.c (.bool false))))::
  []) [4]) .ret) .skip)
def Qaf6:List Item:=
  .f (some 49) (some (44,false)) (.len (.t 48))::
  .f (some 50) (some (44,false)) (.bin 0 .eql (.t 49) (.k (.c (.int .i64 0))))::
  .f (some 51) none (.pick (.t 44) (.k (.c (.bool true))) (.t 50))::
  []
def Qaf7:List Item:=
  .f (some 43) none (.bin 0 .neq (.t 42) (.k (.c (.int .i64 0))))::
  .f (some 44) none (.mv (.t 43))::
  .f (some 45) (some (44,false)) (.ld 1 true (.t 5))::
  .f (some 46) (some (44,false)) (.mv (.t 6))::
  .f (some 47) (some (44,false)) (.mv (.t 9))::
  .e (some 48) (some (44,false)) (.call Qapw [.t 45,.t 46,.t 47])::
  Qaf6
def Qafl:SC:=(.cond (.t 51) (.seq (.reg (
  .f (some 4) none (.mv (.k (.c (.bool false))))::
  []) [4]) .ret) .skip)
def Q8o:List Item:=
  .f (some 79) none (.pick (.t 70) (.k (.c (.bool true))) (.t 78))::
  []
def Q8p:List Item:=
  .f (some 74) (some (70,false)) (.mv (.t 10))::
  .f (some 75) (some (70,false)) (.iad 1 (.t 73) (.t 74))::
  .f (some 76) (some (70,false)) (.ld 1 false (.t 75))::
  .f (some 77) (some (70,false)) (.mv (.t 9))::
  .e (some 78) (some (70,false)) (.call Q0m [.t 76,.t 77])::
  Q8o
def Q8q:List Item:=
  .f (some 70) none (.mv (.t 69))::
  .f (some 71) (some (70,false)) (.ld 1 true (.t 5))::
  .f (some 72) (some (70,false)) (.mv (.t 6))::
  .e (some 73) (some (70,false)) (.call Qapu [.t 71,.t 72])::
  Q8p
def Q8r:List Item:=
  .f (some 65) none (.mv (.t 10))::
  .f (some 66) none (.iad 1 (.t 64) (.t 65))::
  .f (some 67) none (.ld 1 false (.t 66))::
  .f (some 68) none (.mv (.t 9))::
  .e (some 69) none (.call Q0m [.t 67,.t 68])::
  Q8q
def Qafm:SC:=(.cond (.t 79) (.seq (.reg (
  .f (some 4) none (.mv (.k (.c (.bool false))))::
  []) [4]) .ret) .skip)
def Qafn:SC:=(.seq (.reg (
  .f (some 62) none (.ld 1 true (.t 5))::
  .f (some 63) none (.mv (.t 6))::
  .e (some 64) none (.call Qavr [.t 62,.t 63])::
  Q8r) [1,5,6,9,33,34,35,58,59,79]) Qafm)
def Qafo:SC:=(.reg (
  .f (some 80) none (.bin 0 .add (.t 59) (.k (.c (.int .i64 1))))::
  .f (some 59) none (.mv (.t 80))::
  []) [1,5,6,9,33,34,35,58,59])
def Qafp:SC:=(.seq (.block 3 (.seq (.reg (
  .f (some 61) none (.mv (.t 59))::
  .f (some 10) none (.mv (.t 61))::
  []) [1,5,6,9,10,33,34,35,58,59]) Qafn)) Qafo)
def Q8w:SC:=(.seq (.reg (
  .f (some 60) none (.bin 0 .lss (.t 59) (.t 58))::
  []) [1,5,6,9,33,34,35,58,59,60]) (.seq (.cond (.t 60) .skip (.exit 2)) Qafp))
def Qafq:SC:=(.seq (.reg (
  .f (some 52) none (.fad 0 (.t 5))::
  .f (some 53) none (.ld 1 false (.t 52))::
  .f (some 54) none (.mv (.t 6))::
  .f (some 55) none (.iad 3 (.t 53) (.t 54))::
  .f (some 56) none (.fad 2 (.t 55))::
  .f (some 57) none (.ld 1 false (.t 56))::
  .f (some 58) none (.len (.t 57))::
  .f (some 59) none (.mv (.k (.c (.int .i64 0))))::
  []) [1,5,6,9,33,34,35,58,59]) (.block 2 (.loop Q8w)))
def Qafr:SC:=(.seq (.seq (.reg (
  .f (some 39) none (.ld 1 true (.t 5))::
  .f (some 40) none (.mv (.t 6))::
  .f (some 41) none (.mv (.t 9))::
  .e (some 42) none (.call Qaz4 [.t 39,.t 40,.t 41])::
  Qaf7) [1,5,6,9,33,34,35,51]) Qafl) Qafq)
def Qafs:SC:=(.reg (
  .f (some 81) none (.bin 0 .add (.t 35) (.k (.c (.int .i64 1))))::
  .f (some 35) none (.mv (.t 81))::
  []) [1,5,6,33,34,35])
def Qaft:SC:=(.seq (.block 1 (.seq (.reg (
  .f (some 37) none (.iad 1 (.t 33) (.t 35))::
  .f (some 38) none (.ld 1 false (.t 37))::
  .f (some 9) none (.mv (.t 38))::
  []) [1,5,6,9,33,34,35]) Qafr)) Qafs)
def Q8x:SC:=(.seq (.reg (
  .f (some 36) none (.bin 0 .lss (.t 35) (.t 34))::
  []) [1,5,6,33,34,35,36]) (.seq (.cond (.t 36) .skip (.exit 0)) Qaft))
def Q8s:List Item:=
  .f (some 88) none (.bin 0 .eql (.t 84) (.t 87))::
  .f (some 4) none (.mv (.t 88))::
  []
def Q8t:List Item:=
  .e (some 87) none (.call Qapz [.t 86])::
  Q8s
def Q8u:List Item:=
  .f (some 85) none (.mv (.t 1))::
  .e (some 86) none (.call Qil [.t 85])::
  Q8t
def Q8v:List Item:=
  .e (some 84) none (.call Qapv [.t 83])::
  Q8u
def Qafu:SC:=(.seq (.reg (
  .f (some 82) none (.mv (.t 1))::
  .e (some 83) none (.call Qil [.t 82])::
  Q8v) [4]) .ret)
def Qafv:SC:=(.seq (.seq (.reg (
  .f (some 33) none (.mv (.t 7))::
  .f (some 34) none (.len (.t 33))::
  .f (some 35) none (.mv (.k (.c (.int .i64 0))))::
  []) [1,5,6,33,34,35]) (.block 0 (.loop Q8x))) Qafu)
def Qafw:SC:=(.seq (.seq (.reg (
  .f (some 27) none (.mv (.t 7))::
  .f (some 28) none (.ld 1 true (.t 5))::
  .f (some 29) none (.mv (.t 6))::
  .e (some 30) none (.call Qac6 [.t 28,.t 29])::
  Qaf5) [1,5,6,7,32]) Qao2) Qafv)
def Qafx:SC:=(.seq (.reg (
  .f (some 24) none (.ld 1 true (.t 5))::
  .f (some 25) none (.mv (.t 6))::
  .e (some 26) none (.call Qac2 [.t 24,.t 25])::
  Qaf3) [1,5,6,7]) Qafw)
def Qafy:SC:=(.seq (.reg (
  .f (some 20) none (.mv (.t 0))::
  .e (some 21) none (.call Qxm [.t 20])::
  Qaf2) [1,5,6]) Qafx)
def Qafz:SC:=(.seq (.seq (.reg (
  .f (some 11) none (.mv (.t 0))::
  .f (some 12) none (.len (.t 11))::
  .f (some 13) none (.bin 0 .gtr (.t 12) (.k (.c (.int .i64 1048576))))::
  .f (some 14) none (.mv (.t 13))::
  .f (some 15) (some (14,false)) (.mv (.t 1))::
  .f (some 16) (some (14,false)) (.len (.t 15))::
  .f (some 17) (some (14,false)) (.bin 0 .gtr (.t 16) (.k (.c (.int .i64 1048576))))::
  .f (some 18) none (.pick (.t 14) (.k (.c (.bool true))) (.t 17))::
  []) [0,1,18]) Qao1) Qafy)
def s_la_FnUnused:SC:=(.seq (.reg (
  .f (some 4) none (.mv (.k (.c (.bool false))))::
  []) [0,1]) Qafz)
def r_la_FnUnused:List RS:=[.tmp 4]
def Qyv:List Item:=
  .e none none (.sto 1 (.t 2) (.t 5))::
  []
def Qyw:List Item:=
  .e (some 5) none (.call Qbev [.t 4])::
  Qyv
def Q18:SC:=(.seq (.reg (
  .f (some 3) none (.mv (.t 0))::
  .e (some 4) none (.call Qg5 [.t 3])::
  Qyw) [2]) .ret)
def s_sp_DrawPhiCount:SC:=(.seq (.reg (
  .e (some 2) none (.alloc [.sl true 3 []])::
  []) [0,2]) Q18)
def r_sp_DrawPhiCount:List RS:=[.cell 2 1 true]
def Qrt:List Item:=
  .f (some 3) none (.mv (.k (.c (.int .i64 0))))::
  []
def Qru:List Item:=
  .f (some 5) none (.mv (.t 11))::
  .f (some 6) none (.mv (.t 12))::
  []
def Qrv:List Item:=
  .e none none (.sto 1 (.t 4) (.t 10))::
  Qru
def Qrw:List Item:=
  .f (some 7) none (.mv (.t 9))::
  .f (some 10) none (.ext (.t 7) 0)::
  .f (some 11) none (.ext (.t 7) 1)::
  .f (some 12) none (.ext (.t 7) 2)::
  .e (some 4) none (.alloc [.sl true 3 []])::
  Qrv
def Qrx:List Item:=
  .f (some 3) none (.mv (.t 14))::
  []
def Qwz:SC:=(.seq (.reg (
  .f (some 13) none (.ld 1 true (.t 4))::
  .f (some 14) none (.mv (.t 5))::
  .e none none (.sto 1 (.t 2) (.t 13))::
  Qrx) [2,3]) .ret)
def Qw0:SC:=(.seq (.reg (
  .f (some 8) none (.mv (.t 0))::
  .e (some 9) none (.call Qa6l [.t 8])::
  Qrw) [2,4,5]) Qwz)
def s_sp_DrawUnusedRegs:SC:=(.seq (.reg (
  .e (some 2) none (.alloc [.sl true 3 []])::
  Qrt) [0,2]) Qw0)
def r_sp_DrawUnusedRegs:List RS:=[.cell 2 1 true,.tmp 3]
def Qagk:List Item:=
  .f (some 8) none (.not (.t 7))::
  []
def Qapc:SC:=(.cond (.t 8) (.seq (.reg (
  .f (some 2) none (.mv (.k (.c (.int .i64 (-1)))))::
  []) [2]) .ret) .skip)
def Qapd:SC:=(.reg (
  .f (some 25) none (.mv (.t 5))::
  .f (some 26) none (.bin 0 .add (.t 25) (.k (.c (.int .i64 1))))::
  .f (some 5) none (.mv (.t 26))::
  []) [1,3,4,5])
def Qape:SC:=(.seq (.block 3 (.reg (
  .f (some 27) none (.mv (.t 3))::
  .f (some 28) none (.fad 0 (.t 1))::
  .f (some 29) none (.ld 1 false (.t 28))::
  .f (some 30) none (.mv (.t 4))::
  .f (some 31) none (.iad 3 (.t 29) (.t 30))::
  .f (some 32) none (.fad 2 (.t 31))::
  .f (some 33) none (.ld 1 false (.t 32))::
  .f (some 34) none (.mv (.t 5))::
  .f (some 35) none (.iad 5 (.t 33) (.t 34))::
  .f (some 36) none (.fad 0 (.t 35))::
  .f (some 37) none (.ld 1 false (.t 36))::
  .f (some 38) none (.len (.t 37))::
  .f (some 39) none (.bin 0 .add (.t 27) (.t 38))::
  .f (some 3) none (.mv (.t 39))::
  []) [1,3,4,5])) Qapd)
def Qagl:SC:=(.seq (.seq (.reg (
  .f (some 16) none (.mv (.t 5))::
  .f (some 17) none (.fad 0 (.t 1))::
  .f (some 18) none (.ld 1 false (.t 17))::
  .f (some 19) none (.mv (.t 4))::
  .f (some 20) none (.iad 3 (.t 18) (.t 19))::
  .f (some 21) none (.fad 2 (.t 20))::
  .f (some 22) none (.ld 1 false (.t 21))::
  .f (some 23) none (.len (.t 22))::
  .f (some 24) none (.bin 0 .lss (.t 16) (.t 23))::
  []) [1,3,4,5,24]) (.cond (.t 24) .skip (.exit 2))) Qape)
def Qapf:SC:=(.reg (
  .f (some 14) none (.mv (.t 4))::
  .f (some 15) none (.bin 0 .add (.t 14) (.k (.c (.int .i64 1))))::
  .f (some 4) none (.mv (.t 15))::
  []) [1,3,4])
def Qapg:SC:=(.seq (.block 1 (.seq (.reg (
  .f (some 5) none (.mv (.k (.c (.int .i64 0))))::
  []) [1,3,4,5]) (.block 2 (.loop Qagl)))) Qapf)
def Qagm:SC:=(.seq (.seq (.reg (
  .f (some 9) none (.mv (.t 4))::
  .f (some 10) none (.fad 0 (.t 1))::
  .f (some 11) none (.ld 1 false (.t 10))::
  .f (some 12) none (.len (.t 11))::
  .f (some 13) none (.bin 0 .lss (.t 9) (.t 12))::
  []) [1,3,4,13]) (.cond (.t 13) .skip (.exit 0))) Qapg)
def Qaph:SC:=(.seq (.reg (
  .f (some 40) none (.mv (.t 3))::
  .f (some 2) none (.mv (.t 40))::
  []) [2]) .ret)
def Qapi:SC:=(.seq (.seq (.reg (
  .f (some 4) none (.mv (.k (.c (.int .i64 0))))::
  []) [1,3,4]) (.block 0 (.loop Qagm))) Qaph)
def Qagi:SC:=(.seq (.reg (
  .f (some 3) none (.mv (.k (.c (.int .i64 0))))::
  []) [1,3]) Qapi)
def Qagj:SC:=(.seq (.seq (.reg (
  .f (some 6) none (.ld 1 true (.t 1))::
  .e (some 7) none (.call Qa7 [.t 6])::
  Qagk) [1,8]) Qapc) Qagi)
def s_sp_PhiCount:SC:=(.seq (.reg (
  .f (some 1) none (.box (.t 0))::
  .f (some 2) none (.mv (.k (.c (.int .i64 0))))::
  []) [1]) Qagj)
def r_sp_PhiCount:List RS:=[.tmp 2]
def Q5x:List Item:=
  .f (some 13) none (.not (.t 12))::
  []
def Q9v:SC:=(.cond (.t 13) (.seq (.reg (
  .f (some 14) none (.mv (.t 5))::
  .f (some 4) none (.mv (.t 14))::
  []) [4]) .ret) .skip)
def Q5y:List Item:=
  .f (some 6) none (.mv (.t 20))::
  []
def Q5z:List Item:=
  .f (some 7) none (.mv (.t 26))::
  []
def Q50:List Item:=
  .f (some 5) none (.mv (.t 49))::
  []
def Q9w:SC:=(.cond (.t 45) (.reg (
  .f (some 46) none (.mv (.t 5))::
  .f (some 47) none (.mv (.t 8))::
  .f (some 48) none (.bsl 1 [.t 47])::
  .e (some 49) none (.app 1 (.t 46) (.t 48))::
  Q50) [5,6,7,8]) .skip)
def Q9x:SC:=(.reg (
  .f (some 31) none (.mv (.t 8))::
  .f (some 32) none (.bin 0 .add (.t 31) (.k (.c (.int .i64 1))))::
  .f (some 8) none (.mv (.t 32))::
  []) [5,6,7,8])
def Q9y:SC:=(.seq (.block 1 (.seq (.reg (
  .f (some 33) none (.mv (.t 6))::
  .f (some 34) none (.mv (.t 8))::
  .f (some 35) none (.iad 1 (.t 33) (.t 34))::
  .f (some 36) none (.ld 1 false (.t 35))::
  .f (some 37) none (.bin 0 .eql (.t 36) (.k (.c (.int .i64 0))))::
  .f (some 38) none (.mv (.t 37))::
  .f (some 39) (some (38,true)) (.mv (.t 7))::
  .f (some 40) (some (38,true)) (.mv (.t 8))::
  .f (some 41) (some (38,true)) (.iad 1 (.t 39) (.t 40))::
  .f (some 42) (some (38,true)) (.ld 1 false (.t 41))::
  .f (some 43) (some (38,true)) (.len (.t 42))::
  .f (some 44) (some (38,true)) (.bin 0 .gtr (.t 43) (.k (.c (.int .i64 0))))::
  .f (some 45) none (.pick (.t 38) (.t 44) (.k (.c (.bool false))))::
  []) [5,6,7,8,45]) Q9w)) Q9x)
def Q51:SC:=(.seq (.seq (.reg (
  .f (some 27) none (.mv (.t 8))::
  .f (some 28) none (.mv (.t 6))::
  .f (some 29) none (.len (.t 28))::
  .f (some 30) none (.bin 0 .lss (.t 27) (.t 29))::
  []) [5,6,7,8,30]) (.cond (.t 30) .skip (.exit 0))) Q9y)
def Q9z:SC:=(.seq (.reg (
  .f (some 50) none (.mv (.t 5))::
  .f (some 4) none (.mv (.t 50))::
  []) [4]) .ret)
def Q5s:SC:=(.seq (.seq (.reg (
  .f (some 8) none (.mv (.k (.c (.int .i64 0))))::
  []) [5,6,7,8]) (.block 0 (.loop Q51))) Q9z)
def Q5t:SC:=(.seq (.reg (
  .f (some 21) none (.fad 0 (.t 2))::
  .f (some 22) none (.ld 1 false (.t 21))::
  .f (some 23) none (.mv (.t 1))::
  .f (some 24) none (.iad 3 (.t 22) (.t 23))::
  .f (some 25) none (.ld 3 true (.t 24))::
  .e (some 26) none (.call Qbew [.t 25])::
  Q5z) [5,6,7]) Q5s)
def Q5u:SC:=(.seq (.reg (
  .f (some 15) none (.fad 0 (.t 2))::
  .f (some 16) none (.ld 1 false (.t 15))::
  .f (some 17) none (.mv (.t 1))::
  .f (some 18) none (.iad 3 (.t 16) (.t 17))::
  .f (some 19) none (.ld 3 true (.t 18))::
  .e (some 20) none (.call Qbex [.t 19])::
  Q5y) [1,2,5,6]) Q5t)
def Q5v:SC:=(.seq (.seq (.reg (
  .f (some 10) none (.ld 1 true (.t 2))::
  .f (some 11) none (.mv (.t 1))::
  .e (some 12) none (.call Qbiy [.t 10,.t 11])::
  Q5x) [1,2,5,13]) Q9v) Q5u)
def Q5w:SC:=(.seq (.reg (
  .f (some 9) none (.bsl 1 [])::
  .f (some 5) none (.mv (.t 9))::
  []) [1,2,5]) Q5v)
def s_sp_UnusedRegs:SC:=(.seq (.reg (
  .f (some 2) none (.box (.t 0))::
  .f (some 4) none (.mv (.k (.c (.sl true 1 []))))::
  []) [1,2]) Q5w)
def r_sp_UnusedRegs:List RS:=[.tmp 4]
end Go.AE.Y
namespace Go.AE.Y
attribute [local go_sem] cond_true cond_false Bool.not_true Bool.not_false
attribute [local instance] Classical.propDecidable
open Go.Proofs.Tryz
variable {H H0:Heap}{K:V→Heap→Prop}{E B Lg:List (Nat×Obj)}{q:CodeD}
def SmP (q:CodeD)(n:Nat)(sm:Bool):Prop:=
 (sm=false→∀i (h:i<q.blocks.length),i<n→(Qmu q i q.blocks[i]).ins.length=q.blocks[i].ins.length∧(Qmu q i q.blocks[i]).phis.length=q.blocks[i].phis.length)∧
 (sm=true→∃i,∃h:i<q.blocks.length,(Qmu q i q.blocks[i]).ins.length<q.blocks[i].ins.length∨(Qmu q i q.blocks[i]).phis.length<q.blocks[i].phis.length)
theorem Qbpa (q:CodeD)(b:Nat)(y:BlkD):(Qmu q b y).ins.length≤y.ins.length∧(Qmu q b y).phis.length≤y.phis.length:=⟨kpD_sub.length_le,Jw.length_le⟩
theorem SmP.zero:SmP q 0 false:=⟨fun _ i _ h=>absurd h (by omega),fun h=>by simp at h⟩
theorem SmP.next {n:Nat}{sm sm':Bool}(h:SmP q n sm)(hn:n<q.blocks.length)
  (he:sm'=(sm || decide ((Qmu q n q.blocks[n]).ins.length<q.blocks[n].ins.length) || decide ((Qmu q n q.blocks[n]).phis.length<q.blocks[n].phis.length))):SmP q (n+1) sm':=by
 obtain⟨h1,h2⟩:=h;obtain⟨l1,l2⟩:=Qbpa q n q.blocks[n];subst he;refine⟨fun hf i hi hlt=>?_,fun ht=>?_⟩
 ·simp only[Bool.or_eq_false_iff,decide_eq_false_iff_not]at hf;obtain⟨⟨f1,f2⟩,f3⟩:=hf;by_cases hin:i=n
  ·subst hin;omega
  ·exact h1 f1 i hi (by omega)
 ·simp only[Bool.or_eq_true,decide_eq_true_eq]at ht;rcases ht with (h|h)|h
  ·exact h2 h
  ·exact⟨n,hn,.inl h⟩
  ·exact⟨n,hn,.inr h⟩
theorem SmP.fin {sm:Bool}(h:SmP q q.blocks.length sm):(sm=false→Qaw q=q)∧(sm=true→Qgp (Qaw q)<Qgp q):=by
 obtain⟨h1,h2⟩:=h;have hc:=(Qgv (q:=q)).cnt;refine⟨fun hf=>?_,fun ht=>?_⟩
 ·refine (Qaw4 ?_).1;rw[Qgp,Qgp,Qie,Qie];congr 1;refine Jt (by simp[Qch]) fun i a b=>?_;simp only[Jr]at a b;simp only[Jy,Qgu b a,Qxk];have:=h1 hf i b b;omega
 ·obtain⟨i,hi,hl⟩:=h2 ht;have hi2:i<(Qaw q).blocks.length:=by rw[Qch];exact hi
  by_cases he:Qgp (Qaw q)=Qgp q
  ·have:=hc.2 he i hi hi2;rw[Qgu hi hi2]at this;omega
  ·have:=hc.1;omega
theorem Qbn4 {b:Nat}{l:List PhiD}{x:PhiD}:kpP q b (l++[x])=kpP q b l++if decide (x.to.toNat∈Qgm q b 0)=true then [x]else []:=by
 rw[kpP,kpP,List.filter_append];congr 1;cases h:decide (x.to.toNat∈Qgm q b 0) <;> simp only[List.filter_cons,h,List.filter_nil] <;> simp
theorem Qbrq {b i n:Nat}(hi:i<n):((idlB q b n).map Int.ofNat).contains (i:Int)=Qgs q b i:=by
 rw[Bool.eq_iff_iff,List.contains_iff_mem,List.mem_map];constructor
 ·rintro⟨j,hj,he⟩;have:j=i:=Int.ofNat.inj he;subst this;exact (J0.1 hj).2
 ·exact fun h=>⟨i,J0.2 ⟨J1.2 hi,h⟩,rfl⟩
def onE (x2 x4 z x5:Nat)(zi zo:List (Nat×List Bool))(q:CodeD)(rows:List (List C)):List (Nat×Obj):=
 [(x2,.st [.int .i64 0,.int .i64 0,.sl true 5 []]),(x4,.st [.sl false 1 (Qgc zi),.sl false 1 (Qgc zo)]),(z,.vec 5 rows),(x5,.st [.int .i64 q.params,.int .i64 q.regs,.vsl z 5 0 q.blocks.length])]
set_option maxHeartbeats 8000000 in
theorem Qa0b (ho:q.ok)(hK:∀(sm:Bool) H',(sm=false→Qaw q=q)→(sm=true→Qgp (Qaw q)<Qgp q)→Upd H H' []→K (.tup [.ag (Qaw q).cells,.c (.bool sm)]) H') :
  Qo prog Qw8 [.ag q.cells] H K:=by
 have hb1:=ho.b1;have hb0:=ho.b0;have hr1:=ho.r1;refine Qy ?_;refine Qb Qap Qbkf ?_;refine Qa ?_;simp only[go_sem,CodeD.cells];intro x2 hx2 H1 h1;have kn:=(Kn.start0 H).al hx2 h1;simp only[go_sem,Qabk];refine Qa ?_;simp only[go_sem];refine Qbjq ho fun zi zo H2 hu hlv=>?_;have kn:=kn.call0 hu;simp only[go_sem,Qabm];intro x4 hx4 H3 h3;have kn:=kn.al hx4 h3;have hx4:=kn.l 1 rfl;simp only[go_sem,Qabl,hx4];intro H4 h4;have kn:=kn.stL 1 rfl h4;refine Qa ?_;simp only[go_sem];refine Qboe ho.sg (by omega) fun z H5 k2=>?_;have kn:=kn.comp0 k2;simp only[go_sem,Qabo];intro x5 hx5 H6 h6;have kn:=kn.al hx5 h6;have hx5:=kn.l 3 rfl;simp only[go_sem,Qabn,hx5];intro H7 h7;have kn:Kn H H7 [] (onE x2 x4 z x5 zi zo q (Qm q.blocks)):=kn.stL 3 rfl h7;refine Qa ?_;simp only[go_sem];refine Q5 ?_;refine Qa ?_;simp only[go_sem];refine Qh (Qc (Qu (fun m e1 H1=>∃(ds:List DBlk) (sm:Bool),m=q.blocks.length-ds.length∧ds.length≤q.blocks.length∧(∀d∈ds,d.ok)∧(∀i (h1:i<q.blocks.length) (h2:i<ds.length),ds[i].y=Qmu q i q.blocks[i])∧SmP q ds.length sm∧
  Kn H H1 [] (onE x2 x4 z x5 zi zo q (ds.map DBlk.row++Qm (q.blocks.drop ds.length))++ds.flatMap DBlk.lg)∧
  lk 1 e1=.c (.pp [.int .i64 q.params,.int .i64 q.regs,.sl false 5 (Qm q.blocks)])∧lk 2 e1=.c (.ptr x2 0)∧lk 4 e1=.c (.ptr x4 0)∧lk 5 e1=.c (.ptr x5 0)∧lk 6 e1=.c (.bool sm)∧lk 7 e1=.c (.int .i64 ds.length)) q.blocks.length ?_ ?_))
 ·exact⟨[],false,by simp,by simp,by simp,by simp,.zero,kn,rfl,rfl,rfl,rfl,rfl,rfl⟩
 ·clear kn hx4 hx5 k2;rintro m e1 H8 ⟨ds,sm,hm,hdl,hdo,hdr,hsm,kn,l1,l2,l4,l5,l6,l7⟩;refine Q5 ?_;refine Qa ?_;simp only[go_sem,l1,l2,l4,l5,l6,l7,Ql];try intro _
  refine Qh (Qd rfl ?_ ?_)
  ·intro hc;have hlt:ds.length<q.blocks.length:=by simpa using hc
   obtain⟨y,hy⟩:∃y,q.blocks[ds.length]=y:=⟨_,rfl⟩;have hyo:=ho.bs ds.length hlt;have hil:=ho.il ds.length hlt;have hsn:=fun sm'=>hsm.next (sm':=sm') hlt;rw[hy]at hyo hil;simp only[hy]at hsn;have hlo:=hlv.1.o;have hbz:ds.length<zo.length:=by omega
   have hdrop:Qm (q.blocks.drop ds.length)=y.cells::Qm (q.blocks.drop (ds.length+1)):=by
    rw[List.drop_eq_getElem_cons hlt,hy];rfl
   rw[hdrop]at kn;obtain⟨RK,hRK⟩:∃RK,Qm (q.blocks.drop (ds.length+1))=RK:=⟨_,rfl⟩;obtain⟨RD,hRD⟩:∃RD,ds.map DBlk.row=RD:=⟨_,rfl⟩;obtain⟨A,hA⟩:∃A,ds.flatMap DBlk.lg=A:=⟨_,rfl⟩;rw[hRK,hRD,hA]at kn;have hRDl:ds.length=RD.length:=by rw[←hRD,Jr]
   have hRKl:RK.length=q.blocks.length-(ds.length+1):=by rw[←hRK,Ql,List.length_drop]
   have rlen:∀(r:List C),(RD++r::RK).length=q.blocks.length:=fun r=>by
    simp only[Jg,Jc];omega
   have rtake:∀(r:List C),(RD++r::RK).take q.blocks.length=RD++r::RK:=fun r=>Jj (by rw[rlen];omega);have rget:∀(r:List C),(RD++r::RK).getD ds.length []=r:=fun r=>Qbqs hRDl;have rset:∀(r r':List C),(RD++r::RK).set ds.length r'=RD++r'::RK:=fun r r'=>Qbk5 hRDl;refine Qf ?_;try simp only[go_sem]
   refine Qd3 (fun e2 H2=>∃(d:DBlk) (sm':Bool),d.ok∧d.y=Qmu q ds.length y∧SmP q (ds.length+1) sm'∧Kn H H2 [] (onE x2 x4 z x5 zi zo q (RD++d.row::RK)++(A++d.lg))∧
    lk 1 e2=.c (.pp [.int .i64 q.params,.int .i64 q.regs,.sl false 5 (Qm q.blocks)])∧lk 2 e2=.c (.ptr x2 0)∧lk 4 e2=.c (.ptr x4 0)∧lk 5 e2=.c (.ptr x5 0)∧lk 6 e2=.c (.bool sm')∧lk 7 e2=.c (.int .i64 ds.length)) ?_ ?_
   ·intro Q hnr _ _;refine Qc ?_;have hx4:=kn.l 1 rfl;refine Qa ?_;simp only[go_sem,l1,l2,l4,l5,l6,l7,hx4];refine Qbjp ho hlt hlv fun H9 hu=>?_;have kn:=kn.call0 hu;have hx4:=kn.l 1 rfl;simp only[go_sem,Qabp];refine Qa ?_;simp only[go_sem,hx4];refine Qah0 (orows:=Qgc zo) (cb:=.sl false 1 (Qs zo[ds.length].2)) (bs:=zo[ds.length].2) (W:=(Qw q).LO ds.length) ho hlt (by omega) (by rw[hy];omega) kn (.mk' _ _ _ _) rfl rfl (by rw[Qa1d];exact hbz) (Qau4 _ _ hbz) (.mk' _ _ _ _) rfl (hlv.1.lo _ (Jq hbz))
     ((Qaw2 hbz).congr fun r=>(hlv.2 ds.length hlt r).2) fun y9 bs' H10 hbl hmem kn=>?_
    have hbs:∀f∈y.phis,bs'.getD f.to.toNat false=decide (f.to.toNat∈Qgm q ds.length 0):=fun f hf=>by
     rw[Qbdk hmem,decide_eq_decide,Qgm,ascL_mem];exact⟨fun h=>⟨(hyo.pto f hf).nat.2,h⟩,fun h=>h.2⟩
    have htk:(Qs bs').take q.regs.toNat=Qs bs':=Jj (by rw[Q7];omega);have hil2:=Qkd hlt;rw[hy]at hil2;rw[hil2];obtain⟨I,hI⟩:∃I,idlB q ds.length y.ins.length=I:=⟨_,rfl⟩;have hIh:∀i,i<y.ins.length→(I.map Int.ofNat).contains (i:Int)=Qgs q ds.length i:=fun i hi=>(by rw[←hI];exact Qbrq hi);rw[hI];clear hmem hx4;simp only[go_sem,Qabq];refine Qa ?_;simp only[go_sem];refine Q5 ?_;refine Qa ?_;simp only[go_sem];refine Qh (Qc (Qu (fun m e1 H1=>∃(i:Nat) (t:C) (Lp:List (Nat×Obj)),m=y.phis.length-i∧i≤y.phis.length∧Gr Lp 2 (Qz (kpP q ds.length (y.phis.take i))) t∧
     Kn H H1 [] (((onE x2 x4 z x5 zi zo q (RD++y.cells::RK)++A)++[(y9,.vec 1 (Qs bs'))])++Lp)∧
     lk 1 e1=.c (.pp [.int .i64 q.params,.int .i64 q.regs,.sl false 5 (Qm q.blocks)])∧lk 2 e1=.c (.ptr x2 0)∧lk 4 e1=.c (.ptr x4 0)∧lk 5 e1=.c (.ptr x5 0)∧lk 6 e1=.c (.bool sm)∧lk 7 e1=.c (.int .i64 ds.length)∧
     lk 8 e1=.c (.sl false 1 (Qc6 I))∧lk 9 e1=.c (.vsl y9 1 0 q.regs.toNat)∧lk 10 e1=.c t∧lk 11 e1=.c (.int .i64 i)) y.phis.length ?_ ?_))
    ·exact⟨0,_,[],by omega,by omega,.nil 2,by simpa using kn,rfl,rfl,rfl,rfl,rfl,rfl,rfl,rfl,rfl,rfl⟩
    ·clear kn l1 l2 l4 l5 l6 l7;rintro m2 e3 H11 ⟨i,t,Lp,hm2,hi,hgp,kn,l1,l2,l4,l5,l6,l7,l8,l9,l10,l11⟩;have htw:=hgp.isOw;refine Q5 ?_;refine Qa ?_;simp only[go_sem,l1,l2,l4,l5,l6,l7,l8,l9,l10,l11,htw,hlt,Ql,Q1 _ _ hlt,BlkD.cells,hy,Qq];try intro _
     refine Qh (Qd rfl ?_ ?_)
     ·intro hc2;have hlt2:i<y.phis.length:=(by simpa using hc2);obtain⟨f,hf⟩:∃f,y.phis[i]=f:=⟨_,rfl⟩;have hfm:f∈y.phis:=(by rw[←hf];exact Jq hlt2);have htake:y.phis.take (i+1)=y.phis.take i++[f]:=(by rw[Jm hlt2,hf]);obtain⟨hv,hvl⟩:=(hyo.pto f hfm).nat;have hgd:=hbs f hfm;obtain⟨r,hr⟩:∃r,f.to.toNat=r:=⟨_,rfl⟩;have hsnoc:=Qbn4 (q:=q) (b:=ds.length) (l:=y.phis.take i) (x:=f);rw[hr]at hv hvl hgd hsnoc;have hvl':r<bs'.length:=(by omega);have hy9:H11 y9=.vec 1 (Qs bs'):=(kn.get (y9,.vec 1 (Qs bs')) (by simp)).1;have hkl:(kpP q ds.length (y.phis.take i)).length≤i:=J3 Jw.length_le (by rw[Jz];omega);refine Qf ?_;try simp only[go_sem]
      refine Qd3 (fun e2 H2=>∃(t:C) (Lp:List (Nat×Obj)),Gr Lp 2 (Qz (kpP q ds.length (y.phis.take (i+1)))) t∧
       Kn H H2 [] (((onE x2 x4 z x5 zi zo q (RD++y.cells::RK)++A)++[(y9,.vec 1 (Qs bs'))])++Lp)∧
       lk 1 e2=.c (.pp [.int .i64 q.params,.int .i64 q.regs,.sl false 5 (Qm q.blocks)])∧lk 2 e2=.c (.ptr x2 0)∧lk 4 e2=.c (.ptr x4 0)∧lk 5 e2=.c (.ptr x5 0)∧lk 6 e2=.c (.bool sm)∧lk 7 e2=.c (.int .i64 ds.length)∧
       lk 8 e2=.c (.sl false 1 (Qc6 I))∧lk 9 e2=.c (.vsl y9 1 0 q.regs.toNat)∧lk 10 e2=.c t∧lk 11 e2=.c (.int .i64 i)) ?_ ?_
      ·intro Q2 hnr2 _ _;refine Qc ?_;refine Qa ?_;simp only[go_sem,l1,l2,l4,l5,l6,l7,l8,l9,l10,l11,htw,hlt,hlt2,Ql,Q1 _ _ hlt,BlkD.cells,hy,Qq,Qal _ _ hlt2,PhiD.cells,hf,hv,hy9,htk,hvl,Q7,hbl,Qau _ _ hvl',Jp,Jn];refine Qd rfl ?_ ?_
       ·intro hc3;have hin:bs'.getD r false=true:=hc3;rw[hgd]at hin;have hx5:=kn.l 3 rfl;have hz:=kn.l 2 rfl;simp only[BlkD.cells]at hz;refine Qr ?_;simp only[go_sem,htw,hx5,hz,rlen,rtake,rget,hlt,hlt2,Qq,Qal _ _ hlt2,PhiD.cells,hf,Jp,Jn];refine kn.growR (new:=Qz [f]) hgp (.mk' _ _ _ _) (Q0x _) (by simp only[Qq,LIM,Jc,Jd];omega) fun t2 Lp2 H12 hgr2 ht2 kn=>?_;simp only[go_sem,Qabr,ht2];refine hnr2 _ _ ⟨t2,Lp2,?_,kn,rfl,rfl,rfl,rfl,rfl,rfl,rfl,rfl,rfl,rfl⟩;rw[htake,hsnoc,if_pos hin];have:Qz (kpP q ds.length (y.phis.take i)++[f])=Qz (kpP q ds.length (y.phis.take i))++Qz [f]:=(by simp[Qz]);rw[this];exact hgr2
       ·intro hc3;have hin:bs'.getD r false=false:=hc3;rw[hgd]at hin;refine Qf ?_;try simp only[go_sem]
        refine hnr2 _ _ ⟨t,Lp,?_,kn,rfl,rfl,rfl,rfl,rfl,rfl,rfl,rfl,rfl,rfl⟩;rw[htake,hsnoc,if_neg (by rw[hin];simp),Ji];exact hgp
      ·rintro e4 H12 ⟨t2,Lp2,hgp2,kn,l1,l2,l4,l5,l6,l7,l8,l9,l10,l11⟩;have htw2:=hgp2.isOw;refine Qr ?_;simp only[go_sem,l1,l2,l4,l5,l6,l7,l8,l9,l10,l11,htw2];refine⟨Qp (by omega) (by omega),?_⟩;show ∃m,_;exact⟨y.phis.length-(i+1),by omega,i+1,t2,Lp2,rfl,by omega,hgp2,kn,rfl,rfl,rfl,rfl,rfl,rfl,rfl,rfl,rfl,rfl⟩
     ·intro hc2;have hge:y.phis.length≤i:=(by simpa using hc2);rw[Jj hge]at hgp;refine Qv ?_;simp only[go_sem,X.next];refine Qa ?_;simp only[go_sem,l1,l2,l4,l5,l6,l7,l8,l10,htw];refine Q5 ?_;refine Qa ?_;simp only[go_sem,htw];refine Qh (Qc (Qu (fun m e1 H1=>∃(j:Nat) (t2:C) (Li:List (Nat×Obj)),m=y.ins.length-j∧j≤y.ins.length∧Gr Li 4 (Qac (kpD q ds.length 0 (y.ins.take j))) t2∧
       Kn H H1 [] ((((onE x2 x4 z x5 zi zo q (RD++y.cells::RK)++A)++[(y9,.vec 1 (Qs bs'))])++Lp)++Li)∧
       lk 1 e1=.c (.pp [.int .i64 q.params,.int .i64 q.regs,.sl false 5 (Qm q.blocks)])∧lk 2 e1=.c (.ptr x2 0)∧lk 4 e1=.c (.ptr x4 0)∧lk 5 e1=.c (.ptr x5 0)∧lk 6 e1=.c (.bool sm)∧lk 7 e1=.c (.int .i64 ds.length)∧
       lk 8 e1=.c (.sl false 1 (Qc6 I))∧lk 10 e1=.c t∧lk 12 e1=.c t2∧lk 13 e1=.c (.int .i64 j)) y.ins.length ?_ ?_))
      ·exact⟨0,_,[],by omega,by omega,.nil 4,by simpa using kn,rfl,rfl,rfl,rfl,rfl,rfl,rfl,rfl,rfl,rfl⟩
      ·clear kn l1 l2 l4 l5 l6 l7 l8 l9 l10 l11 hbs;rintro m3 e4 H12 ⟨j,t2,Li,hm3,hj,hgi,kn,l1,l2,l4,l5,l6,l7,l8,l10,l12,l13⟩;have htw2:=hgi.isOw;refine Q5 ?_;refine Qa ?_;simp only[go_sem,l1,l2,l4,l5,l6,l7,l8,l10,l12,l13,htw,htw2,hlt,Ql,Q1 _ _ hlt,BlkD.cells,hy,Q3];try intro _
       refine Qh (Qd rfl ?_ ?_)
       ·intro hc3;have hlt3:j<y.ins.length:=(by simpa using hc3);obtain⟨x,hx⟩:∃x,y.ins[j]=x:=⟨_,rfl⟩;have htake:y.ins.take (j+1)=y.ins.take j++[x]:=(by rw[Jm hlt3,hx]);have htl:(y.ins.take j).length=j:=(by rw[Jz];omega);have hkl:(kpD q ds.length 0 (y.ins.take j)).length≤j:=J3 kpD_sub.length_le (by omega);have hsnoc:=Qawb (q:=q) (b:=ds.length) (l:=y.ins.take j) (x:=x) (k:=0);rw[htl,Jp]at hsnoc;refine Qf ?_;try simp only[go_sem]
        refine Qd3 (fun e2 H2=>∃(t2:C) (Li:List (Nat×Obj)),Gr Li 4 (Qac (kpD q ds.length 0 (y.ins.take (j+1)))) t2∧
         Kn H H2 [] ((((onE x2 x4 z x5 zi zo q (RD++y.cells::RK)++A)++[(y9,.vec 1 (Qs bs'))])++Lp)++Li)∧
         lk 1 e2=.c (.pp [.int .i64 q.params,.int .i64 q.regs,.sl false 5 (Qm q.blocks)])∧lk 2 e2=.c (.ptr x2 0)∧lk 4 e2=.c (.ptr x4 0)∧lk 5 e2=.c (.ptr x5 0)∧lk 6 e2=.c (.bool sm)∧lk 7 e2=.c (.int .i64 ds.length)∧
         lk 8 e2=.c (.sl false 1 (Qc6 I))∧lk 10 e2=.c t∧lk 12 e2=.c t2∧lk 13 e2=.c (.int .i64 j)) ?_ ?_
        ·intro Q2 hnr2 _ _;refine Qc ?_;refine Qa ?_;simp only[go_sem,l1,l2,l4,l5,l6,l7,l8,l10,l12,l13,htw,htw2];refine Qbjk (ns:=I.map Int.ofNat) (.mk' _ _ _ _) rfl fun r hr=>?_;have hrn:=hr.neg;rw[hIh j hlt3]at hrn;simp only[go_sem,Q4y,htw,htw2,hrn];refine Qd rfl ?_ ?_
         ·intro hc4;have hid:Qgs q ds.length j=false:=Qsm hc4;have hx5:=kn.l 3 rfl;have hz:=kn.l 2 rfl;simp only[BlkD.cells]at hz;refine Qr ?_;simp only[go_sem,htw,htw2,hx5,hz,rlen,rtake,rget,hlt,hlt3,Q3,Qa2 _ _ hlt3,InsD.take4,InsD.allOw,InsD.len4,InsD.cells,hx,Jp,Jn];refine kn.growR (new:=Qac [x]) hgi (.mk' _ _ _ _) (Qfg _) (by simp only[Q3,LIM,Jc,Jd];omega) fun t3 Li3 H13 hgr3 ht3 kn=>?_;simp only[go_sem,Q4z,htw,ht3];refine hnr2 _ _ ⟨t3,Li3,?_,kn,rfl,rfl,rfl,rfl,rfl,rfl,rfl,rfl,rfl,rfl⟩;rw[htake,hsnoc,hid];have:Qac (kpD q ds.length 0 (y.ins.take j)++[x])=Qac (kpD q ds.length 0 (y.ins.take j))++Qac [x]:=(by simp[Qac]);simp only[Bool.false_eq_true,if_false];rw[this];exact hgr3
         ·intro hc4;have hid:Qgs q ds.length j=true:=Qgt hc4;refine Qf ?_;try simp only[go_sem]
          refine hnr2 _ _ ⟨t2,Li,?_,kn,rfl,rfl,rfl,rfl,rfl,rfl,rfl,rfl,rfl,rfl⟩;rw[htake,hsnoc,if_pos hid,Ji];exact hgi
        ·rintro e5 H13 ⟨t3,Li3,hgi3,kn,l1,l2,l4,l5,l6,l7,l8,l10,l12,l13⟩;have htw3:=hgi3.isOw;refine Qr ?_;simp only[go_sem,l1,l2,l4,l5,l6,l7,l8,l10,l12,l13,htw,htw3];refine⟨Qp (by omega) (by omega),?_⟩;show ∃m,_;exact⟨y.ins.length-(j+1),by omega,j+1,t3,Li3,rfl,by omega,hgi3,kn,rfl,rfl,rfl,rfl,rfl,rfl,rfl,rfl,rfl,rfl⟩
       ·intro hc3;have hge:y.ins.length≤j:=(by simpa using hc3);rw[Jj hge]at hgi;refine Qv ?_;simp only[go_sem,X.next];obtain⟨d,hd⟩:∃d:DBlk,d=⟨Qmu q ds.length y,t,Lp,t2,Li⟩:=⟨_,rfl⟩;have hdok:d.ok:=(by rw[hd];exact⟨hgp.gw,hgi⟩);have hdy:d.y=Qmu q ds.length y:=(by rw[hd]);have erow:d.row=[t,t2,.int .i64 y.jump,.int .i64 y.on,.sl false 1 (Qe y.next)]:=(by rw[hd];rfl);have elg:d.lg=Lp++Li:=(by rw[hd];rfl);have hlp:=hgp.lenC;have hli:=hgi.lenC;have hokp:=eq_true (hgp.slcM kn fun p hp=>List.mem_append_left _ (Jk _ hp)).ok;have hoki:=eq_true (hgi.slc kn).ok;rw[Qq]at hlp;rw[Q3]at hli;obtain⟨pb,hpb⟩:∃pb,decide ((kpP q ds.length y.phis).length<y.phis.length)=pb:=⟨_,rfl⟩;obtain⟨ib,hib⟩:∃ib,decide ((kpD q ds.length 0 y.ins).length<y.ins.length)=ib:=⟨_,rfl⟩;have hpb2:decide (((kpP q ds.length y.phis).length:Int)<(y.phis.length:Int))=pb:=(by rw[←hpb,decide_eq_decide];omega);have hib2:decide (((kpD q ds.length 0 y.ins).length:Int)<(y.ins.length:Int))=ib:=(by rw[←hib,decide_eq_decide];omega);have hsn2:=hsn (sm || ib || pb) (by rw[←hpb,←hib];rfl);have done:∀(e:Env),lk 1 e=.c (.pp [.int .i64 q.params,.int .i64 q.regs,.sl false 5 (Qm q.blocks)])→lk 2 e=.c (.ptr x2 0)→lk 4 e=.c (.ptr x4 0)→lk 5 e=.c (.ptr x5 0)→lk 6 e=.c (.bool (sm || ib || pb))→lk 7 e=.c (.int .i64 ds.length)→lk 10 e=.c t→lk 12 e=.c t2→Qaj prog Qabj Q e H12:=by
         intro e l1 l2 l4 l5 l6 l7 l10 l12;have hx5:=kn.l 3 rfl;have hz:=kn.l 2 rfl;simp only[BlkD.cells]at hz;refine Qa ?_;simp only[go_sem,l1,l2,l4,l5,l6,l7,l10,l12,htw,htw2,hx5,hz,rlen,rtake,rget,rset,hlt,Jp,Jn];intro H13 h13;have kn:Kn H H13 [] ((((onE x2 x4 z x5 zi zo q (RD++[t,.sl false 4 (Qac y.ins),.int .i64 y.jump,.int .i64 y.on,.sl false 1 (Qe y.next)]::RK)++A)++[(y9,.vec 1 (Qs bs'))])++Lp)++Li):=kn.stL 2 rfl h13;have hx5:=kn.l 3 rfl;have hz:=kn.l 2 rfl;refine Qr ?_;simp only[go_sem,l1,l2,l4,l5,l6,l7,l10,l12,htw,htw2,hx5,hz,rlen,rtake,rget,rset,hlt,Jp,Jn];intro H14 h14;have kn:Kn H H14 [] ((((onE x2 x4 z x5 zi zo q (RD++d.row::RK)++A)++[(y9,.vec 1 (Qs bs'))])++Lp)++Li):=by
          rw[erow];exact kn.stL 2 rfl h14
         refine hnr _ _ ⟨d,sm || ib || pb,hdok,hdy,hsn2,Kn.drop (B:=[(y9,.vec 1 (Qs bs'))]) (kn.perm (Qt fun f hf h0 hc hp=>?_)),rfl,rfl,rfl,rfl,rfl,rfl⟩;rw[elg];simp only[hf];omega
        cases hsb:sm with
        |true=>
         rw[hsb]at l6 done;refine Qa ?_;simp only[go_sem,l1,l2,l4,l5,l6,l7,l10,l12,htw,htw2];exact done _ rfl rfl rfl rfl rfl rfl rfl rfl
        |false=>
         rw[hsb]at l6 done
         cases hib3:ib with
         |true=>
          rw[hib3]at hib2 done;refine Qa ?_;simp only[go_sem,l1,l2,l4,l5,l6,l7,l10,l12,htw,htw2,hlp,hli,hokp,hoki,hlt,Ql,Q1 _ _ hlt,BlkD.cells,hy,Q3,hib2];try intro _
          try intro _
          exact done _ rfl rfl rfl rfl rfl rfl rfl rfl
         |false=>
          rw[hib3]at hib2 done;refine Qa ?_;simp only[go_sem,l1,l2,l4,l5,l6,l7,l10,l12,htw,htw2,hlp,hli,hokp,hoki,hlt,Ql,Q1 _ _ hlt,BlkD.cells,hy,Q3,Qq,hib2,hpb2];try intro _
          try intro _
          try intro _
          try intro _
          exact done _ rfl rfl rfl rfl rfl rfl rfl rfl
   ·rintro e4 H9 ⟨d,sm',hdok,hdy,hsm2,kn,l1,l2,l4,l5,l6,l7⟩;refine Qr ?_;simp only[go_sem,l1,l2,l4,l5,l6,l7];refine⟨Qp (by omega) (by omega),?_⟩;show ∃m,_;refine⟨q.blocks.length-(ds.length+1),by omega,ds++[d],sm',by simp,by simp only[Jg,Jc,Jd];omega,fun w hw=>?_,fun i h1 h2=>?_,by simpa using hsm2,?_,rfl,rfl,rfl,rfl,rfl,by simp[lk]⟩
    ·rcases List.mem_append.1 hw with hw|hw
     ·exact hdo w hw
     ·simp only[Ja]at hw;rw[hw];exact hdok
    ·by_cases hi:i<ds.length
     ·rw[List.getElem_append_left hi];exact hdr i h1 hi
     ·have hie:i=ds.length:=(by simp only[Jg,Jc,Jd]at h2;omega);subst hie;rw[hy];simpa using hdy
    ·have e1:(ds++[d]).map DBlk.row++Qm (q.blocks.drop (ds++[d]).length)=RD++d.row::RK:=by
      rw[List.map_append,hRD,Jg,List.length_singleton,hRK];simp
     have e2:(ds++[d]).flatMap DBlk.lg=A++d.lg:=(by simp[List.flatMap_append,hA]);rw[e1,e2];exact kn
  ·intro hc;have hge:ds.length=q.blocks.length:=by have:q.blocks.length≤ds.length:=(by simpa using hc);omega
   have hde:(Qaw q).blocks=ds.map DBlk.y:=by
    refine Jt (by rw[Qch,Jr,hge]) fun i a b=>?_;have h3:i<ds.length:=(by simpa using b);rw[Qgu (by omega) a,Jy,hdr i (by omega) h3]
   rw[hge]at hsm kn;have hd0:q.blocks.drop q.blocks.length=[]:=List.drop_length;rw[hd0]at kn;obtain⟨f1,f2⟩:=hsm.fin;refine Qv ?_;simp only[go_sem,X.next];have hx5:=kn.l 3 rfl;have hx2:=kn.l 0 rfl;refine Qa ?_;simp only[go_sem,l1,l2,l5,l6,hx5,hx2];intro H9 h9;have kn:Kn H H9 [] ([(x2,.st [.int .i64 q.params,.int .i64 q.regs,.vsl z 5 0 q.blocks.length]),(x4,.st [.sl false 1 (Qgc zi),.sl false 1 (Qgc zo)]),(z,.vec 5 (ds.map DBlk.row++Qm [])),(x5,.st [.int .i64 q.params,.int .i64 q.regs,.vsl z 5 0 q.blocks.length])]++ds.flatMap DBlk.lg):=kn.stL 0 rfl h9;have hx2:=kn.l 0 rfl;simp only[go_sem,Q40];have hmem:∀p∈ds.flatMap DBlk.lg,H9 p.1=p.2∧un H p.1=true:=fun p hp=>
    ⟨(kn.get p (Jk _ (Jk _ hp))).1,Qj2 (kn.loc p (Jk _ hp))⟩
   have hz:H9 z=.vec 5 (ds.map DBlk.row++Qm []):=kn.l 2 rfl;have hzu:un H z=true:=kn.un 2 rfl;have hz':H9 z=.vec 5 (ds.map DBlk.row):=by rw[hz];simp[Qm]
   have hrows:FrzR H9 (un H) (ds.map DBlk.row) (Qm (Qaw q).blocks):=by
    rw[hde];exact DBlk.frzR hdo fun w hw p hp=>hmem p (List.mem_flatMap.2 ⟨w,hw,hp⟩)
   refine Qj ?_;simp only[go_sem,Q4,Qaa,Qa08,Jb,Jh,RS.op,hx2];exact⟨fun _=>trivial,_,Q0o (FrzL.ag (.cons (Qg rfl) (.cons (Qg rfl) (.cons (FrzR.vsl hzu hz' (by rw[Jr,hge]) hrows) .nil)))) (.c _ _ (Qg rfl)),hK sm _ f1 f2 kn.fin⟩
set_option maxHeartbeats 2000000 in
theorem Qbjn {q0:CodeD}(ho:q0.ok)(hK:∀d H',Idl q0 d→Upd H H' []→K (.ag d.cells) H'):Qo prog Q6j [.ag q0.cells] H K:=by
 refine Qy ?_;refine Qb Qap Qbkb ?_;refine Qa ?_;simp only[go_sem,CodeD.cells];intro x2 hx2 H1 h1;have kn:=(Kn.start0 H).al hx2 h1;refine Qa ?_;simp only[go_sem];refine Qa0b ho fun sm H2 f1 f2 hu=>?_;have kn:=kn.call0 hu;simp only[go_sem,Qaa6,Jf,Je,CodeD.cells];intro x3 hx3 H3 h3;have kn:=kn.al hx3 h3;have hx3:=kn.l 1 rfl;simp only[go_sem,Qaa5,hx3];intro H4 h4;have kn:Kn H H4 [] [(x2,.st [.int .i64 0,.int .i64 0,.sl true 5 []]),(x3,.st (Qaw q0).cells)]:=kn.stL 1 rfl h4;simp only[go_sem,Qaa4];refine Qh (Qc (Qu (fun m e1 H1=>∃(d:CodeD) (sm:Bool),m=(cond sm 1 0:Nat)+Qgp d∧(∃n,d=Nat.repeat Qaw n q0)∧(sm=false→Qaw d=d)∧Kn H H1 [] [(x2,.st [.int .i64 0,.int .i64 0,.sl true 5 []]),(x3,.st d.cells)]∧
  lk 2 e1=.c (.ptr x2 0)∧lk 3 e1=.c (.ptr x3 0)∧lk 4 e1=.c (.bool sm)) ((cond sm 1 0:Nat)+Qgp (Qaw q0)) ?_ ?_))
 ·exact⟨Qaw q0,sm,rfl,⟨1,rfl⟩,fun h=>by rw[f1 h];exact f1 h,kn,rfl,rfl,rfl⟩
 ·clear kn hx3;rintro m e1 H5 ⟨d,sm,hm,⟨n,hn⟩,hfix,kn,l2,l3,l4⟩;have hdo:d.ok:=by rw[hn];exact (Qaxd n).ok ho
  refine Q5 ?_;refine Qa ?_;simp only[go_sem,l2,l3,l4];refine Qh (Qd rfl ?_ ?_)
  ·intro hc;have hs:sm=true:=hc;have hx3:=kn.l 1 rfl;simp only[CodeD.cells]at hx3;refine Qf ?_;try simp only[go_sem]
   refine Qc ?_;refine Qr ?_;simp only[go_sem,l2,l3,hx3];refine Qa0b hdo fun sm2 H6 g1 g2 hu=>?_;have kn:=kn.call0 hu;have hx3:=kn.l 1 rfl;simp only[CodeD.cells]at hx3;simp only[go_sem,Qaa8,Jf,Je,CodeD.cells,hx3];intro H7 h7;have kn:Kn H H7 [] [(x2,.st [.int .i64 0,.int .i64 0,.sl true 5 []]),(x3,.st (Qaw d).cells)]:=kn.stL 1 rfl h7;simp only[go_sem,Qaa7];show ∃m,_;refine⟨_,?_,Qaw d,sm2,rfl,⟨n+1,by rw[hn];rfl⟩,fun h=>by rw[g1 h];exact g1 h,kn,rfl,rfl,rfl⟩;rw[hm,hs];have hle:=(Qgv (q:=d)).cnt.1
   cases sm2 with
   |false=>simp only[cond_true,cond_false];omega
   |true=>
    have:=g2 rfl;simp only[cond_true];omega
  ·intro hc;have hs:sm=false:=hc;have hx3:=kn.l 1 rfl;have hx2:=kn.l 0 rfl;simp only[CodeD.cells]at hx3;refine Qv ?_;simp only[go_sem,X.next];refine Qa ?_;simp only[go_sem,l2,l3,hx3,hx2];intro H6 h6;have kn:=kn.stL 0 rfl h6;have hx2:=kn.l 0 rfl;refine Qj ?_;simp only[go_sem,Q4,Qaa,Qa04,Ja,forall_eq,RS.op,hx2];exact⟨_,Qbc2 d,hK d _ ⟨n,hn,hfix hs⟩ kn.fin⟩
end Go.AE.Y
namespace Go.AE.Y
attribute [local go_sem] cond_true cond_false Bool.not_true Bool.not_false
open Go.Proofs.Tryz
variable {H H0:Heap}{K:V→Heap→Prop}
theorem Qapj {f g:Bool}{ns:List Int}(hK:K (.c (.bool true)) H):Qo prog Qhj [.c (.sl f 1 (Qe ns)),.c (.sl g 1 (Qe ns))] H K:=by
 refine Qb Qap Qbfm ?_;refine Qa ?_;simp only[go_sem];refine Q5 ?_;refine Qa ?_;simp only[go_sem,Qi,decide_true];intro hl;try intro _
 simp only[LIM]at hl;refine Qh (Qd rfl ?_ ?_)
 ·intro h;simp at h
 intro _;refine Qf ?_;try simp only[go_sem]
 refine Q5 ?_;refine Qa ?_;simp only[go_sem,Qi];try intro _
 refine Qh (Qc (Qu (fun m e1 H1=>∃(i:Nat),m=ns.length-i∧i≤ns.length∧H1=H∧lk 0 e1=.c (.sl f 1 (Qe ns))∧lk 1 e1=.c (.sl g 1 (Qe ns))∧lk 12 e1=.c (.int .i64 ns.length)∧lk 13 e1=.c (.int .i64 i)) ns.length ?_ ?_))
 ·exact⟨0,by omega,by omega,rfl,rfl,rfl,rfl,rfl⟩
 ·rintro m e1 H1 ⟨i,hm,hi,rfl,l0,l1,l12,l13⟩;refine Qa ?_;simp only[go_sem,l0,l1,l12,l13];refine Qh (Qd rfl ?_ ?_)
  ·intro hc;have hlt:i<ns.length:=by simpa using hc
   refine Qf ?_;try simp only[go_sem]
   refine Qh (Qc ?_);refine Qa ?_;simp only[go_sem,l0,l1,l12,l13];refine Qao ?_;simp only[go_sem,l0,l1,l12,l13,hlt,Qi,Q9 _ _ hlt,decide_true];refine Qd rfl ?_ ?_
   ·intro h;simp at h
   intro _;refine Qf ?_;try simp only[go_sem]
   refine Qr ?_;simp only[go_sem,l0,l1,l12,l13];refine⟨Qp (by omega) (by omega),?_⟩;show ∃m,_;exact⟨ns.length-(i+1),by omega,i+1,rfl,by omega,rfl,rfl,rfl,rfl,rfl⟩
  ·intro hc;refine Qv ?_;simp only[go_sem,X.next];refine Qa ?_;simp only[go_sem];refine Qj ?_;simp only[go_sem,Q4,Qaa,Qau3,Ja,forall_eq,RS.op];exact hK
theorem Qawe {f g:Bool}{ns:List Int}(hK:K (.c (.bool true)) H):Qo prog Qr8 [.c (.sl f 1 (Qe ns)),.c (.sl g 1 (Qe ns))] H K:=by
 refine Qb Qap Qbot ?_;refine Qa ?_;simp only[go_sem];refine Q5 ?_;refine Qa ?_;simp only[go_sem,Qi,decide_true];intro hl;try intro _
 simp only[LIM]at hl;refine Qh (Qd rfl ?_ ?_)
 ·intro h;simp at h
 intro _;refine Qf ?_;try simp only[go_sem]
 refine Q5 ?_;refine Qa ?_;simp only[go_sem,Qi];try intro _
 refine Qh (Qc (Qu (fun m e1 H1=>∃(i:Nat),m=ns.length-i∧i≤ns.length∧H1=H∧lk 0 e1=.c (.sl f 1 (Qe ns))∧lk 1 e1=.c (.sl g 1 (Qe ns))∧lk 5 e1=.c (.int .i64 i)) ns.length ?_ ?_))
 ·exact⟨0,by omega,by omega,rfl,rfl,rfl,rfl⟩
 ·rintro m e1 H1 ⟨i,hm,hi,rfl,l0,l1,l5⟩;refine Q5 ?_;refine Qa ?_;simp only[go_sem,l0,l1,l5,Qi];try intro _
  refine Qh (Qd rfl ?_ ?_)
  ·intro hc;have hlt:i<ns.length:=by simpa using hc
   refine Qf ?_;try simp only[go_sem]
   refine Qh (Qc ?_);refine Qao ?_;simp only[go_sem,l0,l1,l5,hlt,Qi,Q9 _ _ hlt,decide_true];refine Qd rfl ?_ ?_
   ·intro h;simp at h
   intro _;refine Qf ?_;try simp only[go_sem]
   refine Qr ?_;simp only[go_sem,l0,l1,l5];refine⟨Qp (by omega) (by omega),?_⟩;show ∃m,_;exact⟨ns.length-(i+1),by omega,i+1,rfl,by omega,rfl,rfl,rfl,rfl⟩
  ·intro hc;refine Qv ?_;simp only[go_sem,X.next];refine Qa ?_;simp only[go_sem];refine Qj ?_;simp only[go_sem,Q4,Qaa,Qbdr,Ja,forall_eq,RS.op];exact hK
set_option maxHeartbeats 1000000 in
theorem Qbms {p:PhiD}(hK:∀H',Upd H H' []→K (.c (.bool true)) H'):Qo prog Qec [.ag p.cells,.ag p.cells] H K:=by
 refine Qy ?_;refine Qb Qap Qa0k ?_;have kn:=Kn.start0 H;refine Qa ?_;simp only[go_sem,PhiD.cells];refine Qa ?_;simp only[go_sem,decide_true];refine Qapj ?_;simp only[go_sem,Qtw,decide_true];refine Qj ?_;simp only[go_sem,Q4,Qaa,Qaae,Ja,forall_eq,RS.op];exact⟨_,.c _ _ (Qg rfl),hK _ kn.fin⟩
set_option maxHeartbeats 2000000 in
theorem Qbnj {f g:Bool}{l:List PhiD}(hK:∀H',Upd H H' []→K (.c (.bool true)) H'):Qo prog Qde [.c (.sl f 2 (Qz l)),.c (.sl g 2 (Qz l)),.c (.fn Qec [])] H K:=by
 refine Qy ?_;refine Qb Qap Q2x ?_;refine Qa ?_;simp only[go_sem];refine Q5 ?_;refine Qa ?_;simp only[go_sem,Qq,decide_true];intro hl;try intro _
 simp only[LIM]at hl;refine Qh (Qd rfl ?_ ?_)
 ·intro h;simp at h
 intro _;refine Qf ?_;try simp only[go_sem]
 refine Q5 ?_;refine Qa ?_;simp only[go_sem,Qq];try intro _
 refine Qh (Qc (Qu (fun m e1 H1=>∃(i:Nat),m=l.length-i∧i≤l.length∧Kn H H1 [] []∧lk 1 e1=.c (.sl g 2 (Qz l))∧lk 2 e1=.c (.fn Qec [])∧lk 15 e1=.c (.sl f 2 (Qz l))∧lk 16 e1=.c (.int .i64 l.length)∧lk 17 e1=.c (.int .i64 i)) l.length ?_ ?_))
 ·exact⟨0,by omega,by omega,.start0 H,rfl,rfl,rfl,rfl,rfl⟩
 ·rintro m e1 H1 ⟨i,hm,hi,kn,l1,l2,l15,l16,l17⟩;refine Qa ?_;simp only[go_sem,l1,l2,l15,l16,l17];refine Qh (Qd rfl ?_ ?_)
  ·intro hc;have hlt:i<l.length:=by simpa using hc
   obtain⟨p,hp⟩:∃p,l[i]=p:=⟨_,rfl⟩;refine Qf ?_;try simp only[go_sem]
   refine Qh (Qc ?_);refine Qa ?_;simp only[go_sem,l1,l2,l15,l16,l17,hlt,Qq,Qal _ _ hlt,hp,PhiD.cells];intro x8 hx8 H2 h2;have kn:=kn.al hx8 h2;have hx8:=kn.l 0 rfl;simp only[go_sem,Qf8,hx8];intro H3 h3;have kn:Kn H H3 [] [(x8,.st p.cells)]:=kn.stL 0 rfl h3;refine Qa ?_;simp only[go_sem,l1,l2,l15,l16,l17,hlt,Qq,Qal _ _ hlt,hp,PhiD.cells];intro x9 hx9 H4 h4;have kn:=kn.al hx9 h4;have hx9:=kn.l 1 rfl;simp only[go_sem,Qf9,hx9];intro H5 h5;have kn:Kn H H5 [] [(x8,.st p.cells),(x9,.st p.cells)]:=kn.stL 1 rfl h5;have hx8:H5 x8=.st p.cells:=kn.l 0 rfl;have hx9:H5 x9=.st p.cells:=kn.l 1 rfl;refine Qa ?_;simp only[go_sem,hx8,hx9,PhiD.cells,Ji,Js];refine Qbms (p:=p) fun H6 hu=>?_;have kn:=kn.call0 hu;simp only[go_sem,Qga];refine Qd rfl ?_ ?_
   ·intro h;simp at h
   intro _;refine Qf ?_;try simp only[go_sem]
   refine Qr ?_;simp only[go_sem,l1,l2,l15,l16,l17];refine⟨Qp (by omega) (by omega),?_⟩;show ∃m,_;exact⟨l.length-(i+1),by omega,i+1,rfl,by omega,Kn.drop (A:=[]) (B:=[(x8,_),(x9,_)]) kn,rfl,rfl,rfl,rfl,rfl⟩
  ·intro hc;refine Qv ?_;simp only[go_sem,X.next];refine Qa ?_;simp only[go_sem];refine Qj ?_;simp only[go_sem,Q4,Qaa,Qiv,Ja,forall_eq,RS.op];exact⟨_,.c _ _ (Qg rfl),hK _ kn.fin⟩
set_option maxHeartbeats 1000000 in
theorem Qbmr {p:InsD}(hK:∀H',Upd H H' []→K (.c (.bool true)) H'):Qo prog Qeb [.ag p.cells,.ag p.cells] H K:=by
 refine Qy ?_;refine Qb Qap Qa0j ?_;have kn:=Kn.start0 H;refine Qa ?_;simp only[go_sem,InsD.cells];refine Qa ?_;simp only[go_sem,decide_true];refine Qapj ?_;simp only[go_sem,Qtv,decide_true];refine Qj ?_;simp only[go_sem,Q4,Qaa,Qaad,Ja,forall_eq,RS.op];exact⟨_,.c _ _ (Qg rfl),hK _ kn.fin⟩
set_option maxHeartbeats 2000000 in
theorem Qbni {f g:Bool}{l:List InsD}(hK:∀H',Upd H H' []→K (.c (.bool true)) H'):Qo prog Qdd [.c (.sl f 4 (Qac l)),.c (.sl g 4 (Qac l)),.c (.fn Qeb [])] H K:=by
 refine Qy ?_;refine Qb Qap Q2w ?_;refine Qa ?_;simp only[go_sem];refine Q5 ?_;refine Qa ?_;simp only[go_sem,Q3,decide_true];intro hl;try intro _
 simp only[LIM]at hl;refine Qh (Qd rfl ?_ ?_)
 ·intro h;simp at h
 intro _;refine Qf ?_;try simp only[go_sem]
 refine Q5 ?_;refine Qa ?_;simp only[go_sem,Q3];try intro _
 refine Qh (Qc (Qu (fun m e1 H1=>∃(i:Nat),m=l.length-i∧i≤l.length∧Kn H H1 [] []∧lk 1 e1=.c (.sl g 4 (Qac l))∧lk 2 e1=.c (.fn Qeb [])∧lk 15 e1=.c (.sl f 4 (Qac l))∧lk 16 e1=.c (.int .i64 l.length)∧lk 17 e1=.c (.int .i64 i)) l.length ?_ ?_))
 ·exact⟨0,by omega,by omega,.start0 H,rfl,rfl,rfl,rfl,rfl⟩
 ·rintro m e1 H1 ⟨i,hm,hi,kn,l1,l2,l15,l16,l17⟩;refine Qa ?_;simp only[go_sem,l1,l2,l15,l16,l17];refine Qh (Qd rfl ?_ ?_)
  ·intro hc;have hlt:i<l.length:=by simpa using hc
   obtain⟨p,hp⟩:∃p,l[i]=p:=⟨_,rfl⟩;refine Qf ?_;try simp only[go_sem]
   refine Qh (Qc ?_);refine Qa ?_;simp only[go_sem,l1,l2,l15,l16,l17,hlt,Q3,Qa2 _ _ hlt,hp,InsD.cells];intro x8 hx8 H2 h2;have kn:=kn.al hx8 h2;have hx8:=kn.l 0 rfl;simp only[go_sem,Qf5,hx8];intro H3 h3;have kn:Kn H H3 [] [(x8,.st p.cells)]:=kn.stL 0 rfl h3;refine Qa ?_;simp only[go_sem,l1,l2,l15,l16,l17,hlt,Q3,Qa2 _ _ hlt,hp,InsD.cells];intro x9 hx9 H4 h4;have kn:=kn.al hx9 h4;have hx9:=kn.l 1 rfl;simp only[go_sem,Qf6,hx9];intro H5 h5;have kn:Kn H H5 [] [(x8,.st p.cells),(x9,.st p.cells)]:=kn.stL 1 rfl h5;have hx8:H5 x8=.st p.cells:=kn.l 0 rfl;have hx9:H5 x9=.st p.cells:=kn.l 1 rfl;refine Qa ?_;simp only[go_sem,hx8,hx9,InsD.cells,Ji,Js];refine Qbmr (p:=p) fun H6 hu=>?_;have kn:=kn.call0 hu;simp only[go_sem,Qf7];refine Qd rfl ?_ ?_
   ·intro h;simp at h
   intro _;refine Qf ?_;try simp only[go_sem]
   refine Qr ?_;simp only[go_sem,l1,l2,l15,l16,l17];refine⟨Qp (by omega) (by omega),?_⟩;show ∃m,_;exact⟨l.length-(i+1),by omega,i+1,rfl,by omega,Kn.drop (A:=[]) (B:=[(x8,_),(x9,_)]) kn,rfl,rfl,rfl,rfl,rfl⟩
  ·intro hc;refine Qv ?_;simp only[go_sem,X.next];refine Qa ?_;simp only[go_sem];refine Qj ?_;simp only[go_sem,Q4,Qaa,Qiu,Ja,forall_eq,RS.op];exact⟨_,.c _ _ (Qg rfl),hK _ kn.fin⟩
set_option maxHeartbeats 1000000 in
theorem Qbcp {p:BlkD}(hK:∀H',Upd H H' []→K (.c (.bool true)) H'):Qo prog Qce [.ag p.cells,.ag p.cells] H K:=by
 refine Qy ?_;refine Qb Qap Qaqc ?_;have kn:=Kn.start0 H;refine Qa ?_;simp only[go_sem,BlkD.cells];refine Qa ?_;simp only[go_sem,decide_true];refine Qapj ?_;simp only[go_sem,Qlh,decide_true];refine Qbnj fun H1 hu=>?_;have kn:=kn.call0 hu;simp only[go_sem,Qlg,decide_true];refine Qbni fun H1 hu=>?_;have kn:=kn.call0 hu;simp only[go_sem,Qlf,decide_true];refine Qj ?_;simp only[go_sem,Q4,Qaa,Qzb,Ja,forall_eq,RS.op];exact⟨_,.c _ _ (Qg rfl),hK _ kn.fin⟩
set_option maxHeartbeats 2000000 in
theorem Qbep {f g:Bool}{l:List BlkD}(hK:∀H',Upd H H' []→K (.c (.bool true)) H'):Qo prog Qcf [.c (.sl f 5 (Qm l)),.c (.sl g 5 (Qm l)),.c (.fn Qce [])] H K:=by
 refine Qy ?_;refine Qb Qap Qxo ?_;refine Qa ?_;simp only[go_sem];refine Q5 ?_;refine Qa ?_;simp only[go_sem,Ql,decide_true];intro hl;try intro _
 simp only[LIM]at hl;refine Qh (Qd rfl ?_ ?_)
 ·intro h;simp at h
 intro _;refine Qf ?_;try simp only[go_sem]
 refine Q5 ?_;refine Qa ?_;simp only[go_sem,Ql];try intro _
 refine Qh (Qc (Qu (fun m e1 H1=>∃(i:Nat),m=l.length-i∧i≤l.length∧Kn H H1 [] []∧lk 1 e1=.c (.sl g 5 (Qm l))∧lk 2 e1=.c (.fn Qce [])∧lk 15 e1=.c (.sl f 5 (Qm l))∧lk 16 e1=.c (.int .i64 l.length)∧lk 17 e1=.c (.int .i64 i)) l.length ?_ ?_))
 ·exact⟨0,by omega,by omega,.start0 H,rfl,rfl,rfl,rfl,rfl⟩
 ·rintro m e1 H1 ⟨i,hm,hi,kn,l1,l2,l15,l16,l17⟩;refine Qa ?_;simp only[go_sem,l1,l2,l15,l16,l17];refine Qh (Qd rfl ?_ ?_)
  ·intro hc;have hlt:i<l.length:=by simpa using hc
   obtain⟨p,hp⟩:∃p,l[i]=p:=⟨_,rfl⟩;refine Qf ?_;try simp only[go_sem]
   refine Qh (Qc ?_);refine Qa ?_;simp only[go_sem,l1,l2,l15,l16,l17,hlt,Ql,Q1 _ _ hlt,hp,BlkD.cells];intro x8 hx8 H2 h2;have kn:=kn.al hx8 h2;have hx8:=kn.l 0 rfl;simp only[go_sem,Qet,hx8];intro H3 h3;have kn:Kn H H3 [] [(x8,.st p.cells)]:=kn.stL 0 rfl h3;refine Qa ?_;simp only[go_sem,l1,l2,l15,l16,l17,hlt,Ql,Q1 _ _ hlt,hp,BlkD.cells];intro x9 hx9 H4 h4;have kn:=kn.al hx9 h4;have hx9:=kn.l 1 rfl;simp only[go_sem,Qeu,hx9];intro H5 h5;have kn:Kn H H5 [] [(x8,.st p.cells),(x9,.st p.cells)]:=kn.stL 1 rfl h5;have hx8:H5 x8=.st p.cells:=kn.l 0 rfl;have hx9:H5 x9=.st p.cells:=kn.l 1 rfl;refine Qa ?_;simp only[go_sem,hx8,hx9,BlkD.cells,Ji,Js];refine Qbcp (p:=p) fun H6 hu=>?_;have kn:=kn.call0 hu;simp only[go_sem,Qev];refine Qd rfl ?_ ?_
   ·intro h;simp at h
   intro _;refine Qf ?_;try simp only[go_sem]
   refine Qr ?_;simp only[go_sem,l1,l2,l15,l16,l17];refine⟨Qp (by omega) (by omega),?_⟩;show ∃m,_;exact⟨l.length-(i+1),by omega,i+1,rfl,by omega,Kn.drop (A:=[]) (B:=[(x8,_),(x9,_)]) kn,rfl,rfl,rfl,rfl,rfl⟩
  ·intro hc;refine Qv ?_;simp only[go_sem,X.next];refine Qa ?_;simp only[go_sem];refine Qj ?_;simp only[go_sem,Q4,Qaa,Qgf,Ja,forall_eq,RS.op];exact⟨_,.c _ _ (Qg rfl),hK _ kn.fin⟩
set_option maxHeartbeats 1000000 in
theorem Qbh4 {p:CodeD}(hK:∀H',Upd H H' []→K (.c (.bool true)) H'):Qo prog Qc4 [.ag p.cells,.ag p.cells] H K:=by
 refine Qy ?_;refine Qb Qap Qawr ?_;have kn:=Kn.start0 H;refine Qa ?_;simp only[go_sem,CodeD.cells];refine Qa ?_;simp only[go_sem,decide_true];refine Qbep fun H1 hu=>?_;have kn:=kn.call0 hu;simp only[go_sem,Qoq,decide_true];refine Qj ?_;simp only[go_sem,Q4,Qaa,Q27,Ja,forall_eq,RS.op];exact⟨_,.c _ _ (Qg rfl),hK _ kn.fin⟩
set_option maxHeartbeats 2000000 in
theorem Qbiv {f g:Bool}{l:List CodeD}(hK:∀H',Upd H H' []→K (.c (.bool true)) H'):Qo prog Qcz [.c (.sl f 3 (Qk l)),.c (.sl g 3 (Qk l)),.c (.fn Qc4 [])] H K:=by
 refine Qy ?_;refine Qb Qap Q0t ?_;refine Qa ?_;simp only[go_sem];refine Q5 ?_;refine Qa ?_;simp only[go_sem,Qx,decide_true];intro hl;try intro _
 simp only[LIM]at hl;refine Qh (Qd rfl ?_ ?_)
 ·intro h;simp at h
 intro _;refine Qf ?_;try simp only[go_sem]
 refine Q5 ?_;refine Qa ?_;simp only[go_sem,Qx];try intro _
 refine Qh (Qc (Qu (fun m e1 H1=>∃(i:Nat),m=l.length-i∧i≤l.length∧Kn H H1 [] []∧lk 1 e1=.c (.sl g 3 (Qk l))∧lk 2 e1=.c (.fn Qc4 [])∧lk 15 e1=.c (.sl f 3 (Qk l))∧lk 16 e1=.c (.int .i64 l.length)∧lk 17 e1=.c (.int .i64 i)) l.length ?_ ?_))
 ·exact⟨0,by omega,by omega,.start0 H,rfl,rfl,rfl,rfl,rfl⟩
 ·rintro m e1 H1 ⟨i,hm,hi,kn,l1,l2,l15,l16,l17⟩;refine Qa ?_;simp only[go_sem,l1,l2,l15,l16,l17];refine Qh (Qd rfl ?_ ?_)
  ·intro hc;have hlt:i<l.length:=by simpa using hc
   obtain⟨p,hp⟩:∃p,l[i]=p:=⟨_,rfl⟩;refine Qf ?_;try simp only[go_sem]
   refine Qh (Qc ?_);refine Qa ?_;simp only[go_sem,l1,l2,l15,l16,l17,hlt,Qx,Qad _ _ hlt,hp,CodeD.cells];intro x8 hx8 H2 h2;have kn:=kn.al hx8 h2;have hx8:=kn.l 0 rfl;simp only[go_sem,Qe6,hx8];intro H3 h3;have kn:Kn H H3 [] [(x8,.st p.cells)]:=kn.stL 0 rfl h3;refine Qa ?_;simp only[go_sem,l1,l2,l15,l16,l17,hlt,Qx,Qad _ _ hlt,hp,CodeD.cells];intro x9 hx9 H4 h4;have kn:=kn.al hx9 h4;have hx9:=kn.l 1 rfl;simp only[go_sem,Qe7,hx9];intro H5 h5;have kn:Kn H H5 [] [(x8,.st p.cells),(x9,.st p.cells)]:=kn.stL 1 rfl h5;have hx8:H5 x8=.st p.cells:=kn.l 0 rfl;have hx9:H5 x9=.st p.cells:=kn.l 1 rfl;refine Qa ?_;simp only[go_sem,hx8,hx9,CodeD.cells,Ji,Js];refine Qbh4 (p:=p) fun H6 hu=>?_;have kn:=kn.call0 hu;simp only[go_sem,Qe8];refine Qd rfl ?_ ?_
   ·intro h;simp at h
   intro _;refine Qf ?_;try simp only[go_sem]
   refine Qr ?_;simp only[go_sem,l1,l2,l15,l16,l17];refine⟨Qp (by omega) (by omega),?_⟩;show ∃m,_;exact⟨l.length-(i+1),by omega,i+1,rfl,by omega,Kn.drop (A:=[]) (B:=[(x8,_),(x9,_)]) kn,rfl,rfl,rfl,rfl,rfl⟩
  ·intro hc;refine Qv ?_;simp only[go_sem,X.next];refine Qa ?_;simp only[go_sem];refine Qj ?_;simp only[go_sem,Q4,Qaa,Qht,Ja,forall_eq,RS.op];exact⟨_,.c _ _ (Qg rfl),hK _ kn.fin⟩
theorem Qav6 {f g:Bool}{cs:List CodeD}(hK:∀H',Upd H H' []→K (.c (.bool true)) H'):Qo prog Qd9 [.ag [.sl f 3 (Qk cs)],.ag [.sl g 3 (Qk cs)]] H K:=by
 refine Qy ?_;refine Qb Qap Qap1 ?_;refine Qa ?_;simp only[go_sem];refine Qa ?_;simp only[go_sem];refine Qbiv fun H1 hu=>?_;have kn:=(Kn.start0 H).call0 hu;simp only[go_sem,Qko];refine Qj ?_;simp only[go_sem,Q4,Qaa,Qy2,Ja,forall_eq,RS.op];exact⟨_,.c _ _ (Qg rfl),hK _ kn.fin⟩
set_option maxHeartbeats 4000000 in
theorem Qawg {p:BlkD}(hK:∀H',Upd H H' []→K (.c (.bool true)) H'):Qo prog Qi7 [.ag p.cells,.ag p.cells] H K:=by
 refine Qy ?_;refine Qb Qap Qawv ?_;refine Qa ?_;simp only[go_sem,BlkD.cells];refine Q5 ?_;refine Qa ?_;simp only[go_sem,Qq,Q3,decide_true];intro hlp hli;simp only[LIM]at hlp hli;refine Qawe ?_;simp only[go_sem,Qpc];refine Qh (Qd rfl ?_ ?_)
 ·intro h;simp at h
 intro _;refine Qf ?_;try simp only[go_sem]
 refine Q5 ?_;refine Qa ?_;simp only[go_sem];refine Qh (Qc (Qu (fun m e1 H1=>∃(i:Nat),m=p.phis.length-i∧i≤p.phis.length∧H1=H∧lk 2 e1=.c (.pp p.cells)∧lk 3 e1=.c (.pp p.cells)∧lk 5 e1=.c (.int .i64 i)) p.phis.length ?_ ?_))
 ·exact⟨0,by omega,by omega,rfl,rfl,rfl,rfl⟩
 ·rintro m e1 H1 ⟨i,hm,hi,rfl,l2,l3,l5⟩;simp only[BlkD.cells]at l2 l3;refine Q5 ?_;refine Qa ?_;simp only[go_sem,l2,l3,l5,Qq];try intro _
  refine Qh (Qd rfl ?_ ?_)
  ·intro hc;have hlt:i<p.phis.length:=by simpa using hc
   obtain⟨x,hx⟩:∃x,p.phis[i]=x:=⟨_,rfl⟩;refine Qf ?_;try simp only[go_sem]
   refine Qh (Qc ?_);refine Qao ?_;simp only[go_sem,l2,l3,l5,hlt,Qq,Qal _ _ hlt,hx,PhiD.cells,decide_true];refine Qawe ?_;simp only[go_sem,Qpd];refine Qd rfl ?_ ?_
   ·intro h;simp at h
   intro _;refine Qf ?_;try simp only[go_sem]
   refine Qr ?_;simp only[go_sem,l2,l3,l5];refine⟨Qp (by omega) (by omega),?_⟩;show ∃m,_;exact⟨p.phis.length-(i+1),by omega,i+1,rfl,by omega,rfl,rfl,rfl,rfl⟩
  ·intro hc;refine Qv ?_;simp only[go_sem,X.next];refine Q5 ?_;refine Qa ?_;simp only[go_sem,l2,l3];refine Qh (Qc (Qu (fun m e1 H2=>∃(i:Nat),m=p.ins.length-i∧i≤p.ins.length∧Kn H1 H2 [] []∧lk 2 e1=.c (.pp p.cells)∧lk 3 e1=.c (.pp p.cells)∧lk 6 e1=.c (.int .i64 i)) p.ins.length ?_ ?_))
   ·exact⟨0,by omega,by omega,.start0 H1,rfl,rfl,rfl⟩
   ·clear l2 l3 l5;rintro m e1 H2 ⟨i,hm,hi,kn,l2,l3,l6⟩;simp only[BlkD.cells]at l2 l3;refine Q5 ?_;refine Qa ?_;simp only[go_sem,l2,l3,l6,Q3];try intro _
    refine Qh (Qd rfl ?_ ?_)
    ·intro hc;have hlt:i<p.ins.length:=(by simpa using hc);obtain⟨x,hx⟩:∃x,p.ins[i]=x:=⟨_,rfl⟩;refine Qf ?_;try simp only[go_sem]
     refine Qh (Qc ?_);refine Qa ?_;simp only[go_sem,l2,l3,l6,hlt,Q3,Qa2 _ _ hlt,hx,InsD.cells];intro x7 hx7 H3 h3;have kn:=kn.al hx7 h3;have hx7:=kn.l 0 rfl;simp only[go_sem,Qpe,hx7];intro H4 h4;have kn:Kn H1 H4 [] [(x7,.st x.cells)]:=kn.stL 0 rfl h4;refine Qa ?_;simp only[go_sem,l2,l3,l6,hlt,Q3,Qa2 _ _ hlt,hx,InsD.cells];intro x8 hx8 H5 h5;have kn:=kn.al hx8 h5;have hx8:=kn.l 1 rfl;simp only[go_sem,Qpf,hx8];intro H6 h6;have kn:Kn H1 H6 [] [(x7,.st x.cells),(x8,.st x.cells)]:=kn.stL 1 rfl h6;have hx7:H6 x7=.st x.cells:=kn.l 0 rfl;have hx8:H6 x8=.st x.cells:=kn.l 1 rfl;refine Qa ?_;simp only[go_sem,hx7,hx8,InsD.cells,decide_true];refine Qawe ?_;simp only[go_sem,Qpg];refine Qd rfl ?_ ?_
     ·intro h;simp at h
     intro _;refine Qf ?_;try simp only[go_sem]
     refine Qr ?_;simp only[go_sem,l2,l3,l6];refine⟨Qp (by omega) (by omega),?_⟩;show ∃m,_;exact⟨p.ins.length-(i+1),by omega,i+1,rfl,by omega,Kn.drop (A:=[]) (B:=[(x7,_),(x8,_)]) kn,rfl,rfl,rfl⟩
    ·intro hc;refine Qv ?_;simp only[go_sem,X.next];refine Qa ?_;simp only[go_sem];refine Qj ?_;simp only[go_sem,Q4,Qaa,Q3d,Ja,forall_eq,RS.op];exact⟨_,.c _ _ (Qg rfl),hK _ kn.fin⟩
set_option maxHeartbeats 1000000 in
theorem Qa0d {p:CodeD}(hK:∀H',Upd H H' []→K (.c (.bool true)) H'):Qo prog Qmn [.ag p.cells,.ag p.cells] H K:=by
 refine Qy ?_;refine Qb Qap Qa0r ?_;refine Qa ?_;simp only[go_sem,CodeD.cells];refine Q5 ?_;refine Qa ?_;simp only[go_sem,Ql,decide_true];intro hl;try intro _
 simp only[LIM]at hl;refine Qh (Qd rfl ?_ ?_)
 ·intro h;simp at h
 intro _;refine Qf ?_;try simp only[go_sem]
 refine Q5 ?_;refine Qa ?_;simp only[go_sem];refine Qh (Qc (Qu (fun m e1 H1=>∃(i:Nat),m=p.blocks.length-i∧i≤p.blocks.length∧Kn H H1 [] []∧lk 2 e1=.c (.pp [.int .i64 p.params,.int .i64 p.regs,.sl false 5 (Qm p.blocks)])∧lk 3 e1=.c (.pp [.int .i64 p.params,.int .i64 p.regs,.sl false 5 (Qm p.blocks)])∧lk 5 e1=.c (.int .i64 i)) p.blocks.length ?_ ?_))
 ·exact⟨0,by omega,by omega,.start0 H,rfl,rfl,rfl⟩
 ·rintro m e1 H1 ⟨i,hm,hi,kn,l2,l3,l5⟩;refine Q5 ?_;refine Qa ?_;simp only[go_sem,l2,l3,l5,Ql];try intro _
  refine Qh (Qd rfl ?_ ?_)
  ·intro hc;have hlt:i<p.blocks.length:=by simpa using hc
   obtain⟨x,hx⟩:∃x,p.blocks[i]=x:=⟨_,rfl⟩;refine Qf ?_;try simp only[go_sem]
   refine Qh (Qc ?_);refine Qao ?_;simp only[go_sem,l2,l3,l5,hlt,Ql,Q1 _ _ hlt,hx,BlkD.cells];refine Qawg (p:=x) fun H2 hu=>?_;have kn:=kn.call0 hu;simp only[go_sem,Quy];refine Qd rfl ?_ ?_
   ·intro h;simp at h
   intro _;refine Qf ?_;try simp only[go_sem]
   refine Qr ?_;simp only[go_sem,l2,l3,l5];refine⟨Qp (by omega) (by omega),?_⟩;show ∃m,_;exact⟨p.blocks.length-(i+1),by omega,i+1,rfl,by omega,kn,rfl,rfl,rfl⟩
  ·intro hc;refine Qv ?_;simp only[go_sem,X.next];refine Qa ?_;simp only[go_sem];refine Qj ?_;simp only[go_sem,Q4,Qaa,Qaai,Ja,forall_eq,RS.op];exact⟨_,.c _ _ (Qg rfl),hK _ kn.fin⟩
set_option maxHeartbeats 1000000 in
theorem Qn6 {f g:Bool}{cs:List CodeD}(hK:∀H',Upd H H' []→K (.c (.bool true)) H'):Qo prog Qby [.ag [.sl f 3 (Qk cs)],.ag [.sl g 3 (Qk cs)]] H K:=by
 refine Qy ?_;refine Qb Qap Qaqf ?_;refine Qa ?_;simp only[go_sem];refine Q5 ?_;refine Qa ?_;simp only[go_sem,Qx,decide_true];intro hl;try intro _
 simp only[LIM]at hl;refine Qh (Qd rfl ?_ ?_)
 ·intro h;simp at h
 intro _;refine Qf ?_;try simp only[go_sem]
 refine Q5 ?_;refine Qa ?_;simp only[go_sem];refine Qh (Qc (Qu (fun m e1 H1=>∃(i:Nat),m=cs.length-i∧i≤cs.length∧Kn H H1 [] []∧lk 2 e1=.c (.pp [.sl f 3 (Qk cs)])∧lk 3 e1=.c (.pp [.sl g 3 (Qk cs)])∧lk 5 e1=.c (.int .i64 i)) cs.length ?_ ?_))
 ·exact⟨0,by omega,by omega,.start0 H,rfl,rfl,rfl⟩
 ·rintro m e1 H1 ⟨i,hm,hi,kn,l2,l3,l5⟩;refine Q5 ?_;refine Qa ?_;simp only[go_sem,l2,l3,l5,Qx];try intro _
  refine Qh (Qd rfl ?_ ?_)
  ·intro hc;have hlt:i<cs.length:=by simpa using hc
   obtain⟨x,hx⟩:∃x,cs[i]=x:=⟨_,rfl⟩;refine Qf ?_;try simp only[go_sem]
   refine Qh (Qc ?_);refine Qao ?_;simp only[go_sem,l2,l3,l5,hlt,Qx,Qad _ _ hlt,hx,CodeD.cells];refine Qa0d (p:=x) fun H2 hu=>?_;have kn:=kn.call0 hu;simp only[go_sem,Ql1];refine Qd rfl ?_ ?_
   ·intro h;simp at h
   intro _;refine Qf ?_;try simp only[go_sem]
   refine Qr ?_;simp only[go_sem,l2,l3,l5];refine⟨Qp (by omega) (by omega),?_⟩;show ∃m,_;exact⟨cs.length-(i+1),by omega,i+1,rfl,by omega,kn,rfl,rfl,rfl⟩
  ·intro hc;refine Qv ?_;simp only[go_sem,X.next];refine Qa ?_;simp only[go_sem];refine Qj ?_;simp only[go_sem,Q4,Qaa,Qzc,Ja,forall_eq,RS.op];exact⟨_,.c _ _ (Qg rfl),hK _ kn.fin⟩
end Go.AE.Y
namespace Go.AE.Y
attribute [local go_sem] cond_true cond_false Bool.not_true Bool.not_false
open Go.Proofs.Tryz
variable {H H0 F:Heap}{K:V→Heap→Prop}{E L B:List (Nat×Obj)}{fl:Bool}
attribute [local instance] Classical.propDecidable
def Drc (c d:CodeD):Prop:=Idl c d
theorem Qbks {l:List CodeD}(hl:l.length≤4)(ho:∀c∈l,c.ok)
  (hK:∀ds H',ds.length=l.length→(∀i (h1:i<l.length) (h2:i<ds.length),Drc l[i] ds[i])→Upd H H' []→K (.c (.sl false 3 (Qk ds))) H') :
  Qo prog Qca [.c (.sl fl 3 (Qk l)),.c (.fn Qb7 [])] H K:=by
 refine Qy ?_;refine Qb Qap Qsk ?_;refine Qa ?_;simp only[go_sem];refine Qa ?_;simp only[go_sem];refine Q5 ?_;refine Qa ?_;simp only[go_sem,Qx];intro _;refine Qh (Qc (Qu (fun m e1 H1=>∃(ds:List CodeD) (t:C) (Lg:List (Nat×Obj)),m=l.length-ds.length∧ds.length≤l.length∧(∀i (h1:i<l.length) (h2:i<ds.length),Drc l[i] ds[i])∧Gr Lg 3 (Qk ds) t∧Kn H H1 [] ([]++Lg)∧
  e1=[(1,.c (.fn Qb7 [])),(5,.c t),(8,.c (.sl fl 3 (Qk l))),(9,.c (.int .i64 l.length)),(10,.c (.int .i64 ds.length))]) l.length ?_ ?_))
 ·exact⟨[],_,[],by simp,by simp,by simp,.nil 3,Kn.start0 H,rfl⟩
 ·rintro m e1 H1 ⟨ds,t,Lg,hm,hi,hdr,hgr,kn,rfl⟩;have htw:=hgr.isOw;refine Qa ?_;simp only[go_sem,htw];refine Qh (Qd rfl ?_ ?_)
  ·intro hc;have hlt:ds.length<l.length:=by simpa using hc
   obtain⟨p,hp⟩:∃p,l[ds.length]=p:=⟨_,rfl⟩;have hpm:p∈l:=by rw[←hp];exact Jq hlt
   refine Qf ?_;try simp only[go_sem]
   refine Qh (Qc ?_);refine Qa ?_;simp only[go_sem,htw,hlt,Qx,Qad _ _ hlt,CodeD.cells,hp];intro x7 hx7 H2 h2;have kn:=kn.al hx7 h2;have hx7:H2 x7=.st [.int .i64 0,.int .i64 0,.sl true 5 []]:=(kn.get (x7,.st [.int .i64 0,.int .i64 0,.sl true 5 []]) (by simp)).1;simp only[go_sem,Qdr,hx7,htw];intro H3 h3;have kn:Kn H H3 [] ([(x7,.st [.int .i64 p.params,.int .i64 p.regs,.sl false 5 (Qm p.blocks)])]++Lg):=by
    have:=kn.stL ([]++Lg).length (x:=x7) (o:=.st [.int .i64 0,.int .i64 0,.sl true 5 []]) (by simp) h3;refine Kn.perm (by simpa using this) ?_;exact Ju
   have hx7:=kn.l 0 rfl;refine Qr ?_;simp only[go_sem,htw,hx7,Ji,Js];refine Qbem (ho p hpm) fun d H4 hid hu=>?_;have kn:=kn.call0 hu;simp only[go_sem,Qdt,htw,CodeD.cells];refine kn.growR (new:=Qk [d]) hgr (.mk' _ _ _ _) (Qbh _) (by simp only[Qx,LIM,Jc,Jd];omega) fun t2 Lg2 H5 hgr2 ht2 kn=>?_;simp only[go_sem,Qds,ht2];refine Qr ?_;simp only[go_sem,X.next,ht2];refine⟨Qp (by omega) (by omega),l.length-(ds.length+1),by omega,ds++[d],t2,Lg2,by simp,by simp;omega,fun i h1 h2=>?_,?_,?_,by simp⟩
   ·by_cases hi:i<ds.length
    ·rw[List.getElem_append_left hi];exact hdr i h1 hi
    ·have hie:i=ds.length:=(by simp only[Jg,Jc,Jd]at h2;omega);subst hie;rw[hp];have:(ds++[d])[ds.length]=d:=(by simp);rw[this];exact hid
   ·have:Qk (ds++[d])=Qk ds++Qk [d]:=(by simp[Qk]);rw[this];exact hgr2
   ·exact Kn.drop (B:=[(x7,.st [.int .i64 p.params,.int .i64 p.regs,.sl false 5 (Qm p.blocks)])]) (kn.perm Ju)
  ·intro hc;have hge:ds.length=l.length:=by have:l.length≤ds.length:=(by simpa using hc);omega
   refine Qv ?_;simp only[go_sem,X.next];refine Qa ?_;simp only[go_sem,htw];refine Qj ?_;simp only[go_sem,Q4,Qaa,Qf3,Ja,forall_eq,RS.op,htw];exact⟨_,.c _ _ (hgr.frz kn (Qbh _)),hK ds _ hge hdr kn.fin⟩
def DropOk (cs ds:List CodeD):Prop:=(Qew cs=true∧ds.length=cs.length∧∀i (h1:i<cs.length) (h2:i<ds.length),Drc cs[i] ds[i])∨(Qew cs=false∧ds=[])
theorem Qbkw {cs:List CodeD}(hfit:∀c∈cs,c.fits)(hK:∀ds H',DropOk cs ds→Upd H H' []→K (.tup [.ag [.sl false 3 (Qk ds)],.c (.bool (Qew cs))]) H') :
  Qo prog Qmi [.ag [.sl fl 3 (Qk cs)],.c (.fn Qb7 [])] H K:=by
 refine Qy ?_;refine Qb Qap Qa0i ?_;refine Qa ?_;simp only[go_sem];intro x4 hx4 H1 h1;have kn:=(Kn.start0 H).al hx4 h1;simp only[go_sem,Qtq];refine Q5 ?_;refine Qa ?_;simp only[go_sem];refine Qmr hfit fun H2 hu=>?_;have kn:=kn.call0 hu;simp only[go_sem,Qtr];have hx4:=kn.l 0 rfl;refine Qh (Qd rfl ?_ ?_)
 ·intro hc;have hc:=Qsm hc;refine Qa ?_;simp only[go_sem,hx4];intro H3 h3;have kn:=kn.stL 0 rfl h3;have hx4:=kn.l 0 rfl;simp only[go_sem,Qts];refine Qj ?_;simp only[go_sem,X.next,Q4,Qaa,Qst,Jb,Jh,RS.op,hx4];have hK:=hK [] _ (.inr ⟨hc,rfl⟩) kn.fin;rw[hc]at hK;exact⟨fun _=>trivial,_,Q0o (FrzL.ag (.cons FrzR.nil.sl .nil)) (.c _ _ (Qg rfl)),hK⟩
 ·intro hc;have hg:=Qgt hc;have hc4:cs.length≤4:=by have:=(of_decide_eq_true hg).1;omega
  refine Qf ?_;try simp only[go_sem]
  refine Qa ?_;simp only[go_sem];refine Qbks hc4 (fun c hc=>by obtain⟨i,hi,rfl⟩:=Jv.1 hc;exact Q93 hg hi) fun ds H3 hdl hdr hu=>?_;have kn:=kn.call0 hu;have hx4:=kn.l 0 rfl;simp only[go_sem,Qtu,hx4];intro H4 h4;have kn:=kn.stL 0 rfl h4;have hx4:=kn.l 0 rfl;simp only[go_sem,Qtt];refine Qj ?_;simp only[go_sem,X.next,Q4,Qaa,Qst,Jb,Jh,RS.op,hx4];have hK:=hK ds _ (.inl ⟨hg,hdl,hdr⟩) kn.fin;rw[hg]at hK;exact⟨fun _=>trivial,_,Q0o (Q56 ds) (.c _ _ (Qg rfl)),hK⟩
theorem Qauf {cs:List CodeD}(hfit:∀c∈cs,c.fits)(hK:∀ds H',DropOk cs ds→Upd H H' []→K (.tup [.ag [.sl false 3 (Qk ds)],.c (.bool (Qew cs))]) H') :
  Qo prog Qfr [.ag [.sl fl 3 (Qk cs)]] H K:=by
 refine Qy ?_;refine Qb Qap Qawl ?_;refine Qa ?_;simp only[go_sem];intro x2 hx2 H1 h1;have kn:=(Kn.start0 H).al hx2 h1;simp only[go_sem,Qog];refine Qa ?_;simp only[go_sem];refine Qbkw hfit fun ds H2 hd hu=>?_;have kn:=kn.call0 hu;have hx2:=kn.l 0 rfl;simp only[go_sem,Qoi,Jf,Je,hx2];intro H3 h3;have kn:=kn.stL 0 rfl h3;have hx2:=kn.l 0 rfl;simp only[go_sem,Qoh];refine Qj ?_;simp only[go_sem,Q4,Qaa,Q23,Jb,Jh,RS.op,hx2];exact⟨fun _=>trivial,_,Q0o (Q56 ds) (.c _ _ (Qg rfl)),hK ds _ hd kn.fin⟩
theorem DropOk.unit {cs ds:List CodeD}(h:DropOk cs ds)(hg:Qew cs=true):Qew ds=true∧ds.length=cs.length∧∀i (h1:i<cs.length) (h2:i<ds.length),Idl cs[i] ds[i]:=by
 rcases h with ⟨_,hl,h⟩|⟨h,_⟩
 ·exact⟨Qbp9 hg hl fun k h1 h2=>(h k h1 h2).shr,hl,h⟩
 ·rw[hg]at h;simp at h
theorem DropOk.fits {cs ds:List CodeD}(h:DropOk cs ds):∀c∈ds,c.fits:=by
 rcases h with ⟨hg,hl,h⟩|⟨_,rfl⟩
 ·intro c hc;obtain⟨i,hi,rfl⟩:=Jv.1 hc;exact ((h i (by omega) hi).shr.ok (Q93 hg (by omega))).fts
 ·simp
theorem DropOk.uniq {cs ds es:List CodeD}(h:DropOk cs ds)(k:DropOk cs es):ds=es:=by
 rcases h with ⟨hg,hl,h⟩|⟨hg,rfl⟩
 ·rcases k with ⟨_,kl,k⟩|⟨hf,_⟩
  ·exact Jt (by omega) fun i h1 h2=>(h i (by omega) h1).uniq (k i (by omega) h2)
  ·rw[hg]at hf;simp at hf
 ·rcases k with ⟨hf,_⟩|⟨_,rfl⟩
  ·rw[hg]at hf;simp at hf
  ·rfl
theorem DropOk.again {cs ds:List CodeD}(h:DropOk cs ds)(hg:Qew cs=true):DropOk ds ds:=by
 obtain⟨h1,h2,h3⟩:=h.unit hg;exact .inl ⟨h1,rfl,fun i a b=>(h3 i (by omega) a).again⟩
theorem Qapq {bs:List UInt8}(hK:∀(cs:List CodeD) H',Upd H H' []→UnitOk cs→K (.ag [.sl false 3 (Qk cs)]) H') :
  Qo prog Qee [.c (.sl fl 1 (Qbv bs))] H K:=by
 refine Qy ?_;refine Qb Qap Q6w ?_;refine Qa ?_;simp only[go_sem];intro x2 hx2 H1 h1;have kn:=(Kn.start0 H).al hx2 h1;refine Qa ?_;simp only[go_sem];refine Qbjv fun R H2 hR h2=>?_;have kn:=kn.al hR h2 (R.o_ne 0);simp only[go_sem,Qgi];refine Qbjl (kn.l 1 rfl) (by omega) fun cs H3 k2 hk3 hk4 hu hok=>?_;have kn:=kn.callL 1 rfl hu (R.o_ne _);have hx2:=kn.l 0 rfl;simp only[go_sem,Qgh,hx2];intro H4 h4;have kn:=kn.stL 0 rfl h4;have hx2:=kn.l 0 rfl;refine Qj ?_;simp only[go_sem,Q4,Qaa,Qkm,Ja,forall_eq,RS.op,hx2];exact⟨_,Q56 cs,hK cs _ kn.fin hok⟩
end Go.AE.Y
namespace Go.AE.Y
attribute [local go_sem] cond_true cond_false Bool.not_true Bool.not_false
attribute [local instance] Classical.propDecidable
open Go.Proofs.Tryz
variable {H H0:Heap}{K:V→Heap→Prop}{E B Lg:List (Nat×Obj)}{q:CodeD}
theorem Qbe9 (hq:q.ok)(hK:∀(d:CodeD) H',Idl q d→Upd H H' []→K (.ag d.cells) H') :
  Qo prog Q6h [.ag [.int .i64 q.params,.int .i64 q.regs,.sl false 5 (Qm q.blocks)],.c (.str [105,100,108,101])] H K:=by
 refine Qy ?_;refine Qb Qap Qbj9 ?_;refine Qa ?_;simp only[go_sem];intro x4 hx4 H1 h1;have kn:=(Kn.start0 H).al hx4 h1;refine Q5 ?_;refine Qa ?_;simp only[go_sem];refine Qh (Qc ?_);refine Qa ?_;simp only[go_sem];refine Qd rfl (fun hc=>absurd hc (by decide)) (fun _=>?_);refine Qa ?_;simp only[go_sem];refine Qd rfl (fun hc=>absurd hc (by decide)) (fun _=>?_);refine Qa ?_;simp only[go_sem];refine Qd rfl (fun hc=>absurd hc (by decide)) (fun _=>?_);refine Qa ?_;simp only[go_sem];refine Qd rfl (fun _=>?_) (fun hc=>absurd hc (by decide));refine Qa ?_;simp only[go_sem];refine Qbjn hq fun d H2 hd hu=>?_;have kn:=kn.call0 hu;have hx4:=kn.l 0 rfl;simp only[go_sem,Qaay,CodeD.cells,hx4];intro H3 h3;have kn:=kn.stL 0 rfl h3;have hx4:=kn.l 0 rfl;refine Qj ?_;simp only[go_sem,X.next,Q4,Qaa,Qa03,Ja,forall_eq,RS.op,hx4];exact⟨_,Qbc2 d,hK d _ hd kn.fin⟩
set_option maxHeartbeats 4000000 in
theorem Qbe8 {cs:List CodeD}{fl:Bool}(hfit:∀c∈cs,c.fits)(hK:∀ds H',DropOk cs ds→Upd H H' []→K (.tup [.ag [.sl false 3 (Qk ds)],.c (.bool (Qew cs))]) H') :
  Qo prog Q6g [.ag [.sl fl 3 (Qk cs)],.c (.str [105,100,108,101])] H K:=by
 refine Qy ?_;refine Qb Qap Qbj8 ?_;refine Qa ?_;simp only[go_sem];intro x4 hx4 H1 h1;have kn:=(Kn.start0 H).al hx4 h1;simp only[go_sem,Qaas];refine Q5 ?_;refine Qa ?_;simp only[go_sem];refine Qry hfit fun H2 hu=>?_;have kn:=kn.call0 hu;simp only[go_sem,Qaat];refine Qh (Qd rfl ?_ ?_)
 ·intro hc;have hc:Qew cs=false:=Qsm hc;have hx4:=kn.l 0 rfl;refine Qa ?_;simp only[go_sem,hx4];intro H3 h3;have kn:=kn.stL 0 rfl h3;have hx4:=kn.l 0 rfl;simp only[go_sem,Qaau];refine Qj ?_;simp only[go_sem,X.next,Q4,Qaa,Qain,Jb,Jh,RS.op,hx4];have hK:=hK [] _ (.inr ⟨hc,rfl⟩) kn.fin;rw[hc]at hK;exact⟨fun _=>trivial,_,Q0o (FrzL.ag (.cons (FrzR.nil.sl) .nil)) (.c _ _ (Qg rfl)),hK⟩
 ·intro hc;have hG:Qew cs=true:=Qgt hc;refine Qf ?_;try simp only[go_sem]
  refine Qa ?_;simp only[go_sem];intro x6 hx6 H3 h3;have kn:=kn.al hx6 h3;have hx6:=kn.l 1 rfl;simp only[go_sem,Qaav,hx6];intro H4 h4;have kn:Kn H H4 [] [(x4,.st [.sl true 3 []]),(x6,.st [.sl true 3 []])]:=kn.stL 1 rfl h4;refine Q5 ?_;refine Qa ?_;simp only[go_sem];have hcl:=(Qbd8 hfit hG).1;refine Qh (Qc (Qu (fun m e1 H1=>∃(ds:List CodeD) (t:C) (Lg:List (Nat×Obj)),m=cs.length-ds.length∧ds.length≤cs.length∧(∀i (h1:i<cs.length) (h2:i<ds.length),Idl cs[i] ds[i])∧Gr Lg 3 (Qk ds) t∧Kn H H1 [] ([(x4,.st [.sl true 3 []]),(x6,.st [t])]++Lg)∧
   lk 1 e1=.c (.str [105,100,108,101])∧lk 2 e1=.c (.pp [.sl fl 3 (Qk cs)])∧lk 4 e1=.c (.ptr x4 0)∧lk 6 e1=.c (.ptr x6 0)∧lk 7 e1=.c (.int .i64 ds.length)) cs.length ?_ ?_))
  ·exact⟨[],_,[],by simp,by simp,by simp,.nil 3,by simpa using kn,rfl,rfl,rfl,rfl,rfl⟩
  ·clear kn hx6;rintro m e1 H5 ⟨ds,t,Lg,hm,hdl,hds,hgr,kn,l1,l2,l4,l6,l7⟩;have htw:=hgr.isOw;refine Q5 ?_;refine Qa ?_;simp only[go_sem,l1,l2,l4,l6,l7,Qx];try intro _
   refine Qh (Qd rfl ?_ ?_)
   ·intro hc2;have hlt:ds.length<cs.length:=(by simpa using hc2);have hx6:=kn.l 1 rfl;obtain⟨q,hq⟩:∃q,cs[ds.length]=q:=⟨_,rfl⟩;have hqs:q.ok:=(by rw[←hq];exact Q93 hG hlt);refine Qf ?_;try simp only[go_sem]
    refine Qh (Qc ?_);refine Qbw ?_;simp only[go_sem,l1,l2,l4,l6,l7,hx6,htw,hlt,Qx,Qad _ _ hlt,CodeD.cells,hq];refine Qbe9 hqs fun d H6 hd hu=>?_;have kn:=kn.call0 hu;have hx6:=kn.l 1 rfl;simp only[go_sem,Qaax,CodeD.cells,hx6,htw];refine kn.growR (new:=Qk [d]) hgr (.mk' _ _ _ _) (Qbh _) (by simp only[Qx,LIM,Jc,Jd];omega) fun t2 Lg2 H7 hgr2 ht2 kn=>?_;have hx6:=kn.l 1 rfl;simp only[go_sem,Qaaw,hx6,ht2];intro H8 h8;have kn:=kn.stL 1 rfl h8;refine Qr ?_;simp only[go_sem,l1,l2,l4,l6,l7];refine⟨Qp (by omega) (by omega),?_⟩;show ∃m,_;refine⟨cs.length-(ds.length+1),by omega,ds++[d],t2,Lg2,by simp,by simp only[Jg,Jc,Jd];omega,fun i h1 h2=>?_,?_,kn,rfl,rfl,rfl,rfl,by simp[lk]⟩
    ·by_cases hi:i<ds.length
     ·rw[List.getElem_append_left hi];exact hds i h1 hi
     ·have hie:i=ds.length:=(by simp only[Jg,Jc,Jd]at h2;omega);subst hie;rw[hq];have:(ds++[d])[ds.length]=d:=(by simp);rw[this];exact hd
    ·have:Qk (ds++[d])=Qk ds++Qk [d]:=(by simp[Qk]);rw[this];exact hgr2
   ·intro hcx;have hdl2:ds.length=cs.length:=(by have:cs.length≤ds.length:=(by simpa using hcx);omega);have hD:DropOk cs ds:=.inl ⟨hG,hdl2,hds⟩;have hG2:=(hD.unit hG).1;refine Qv ?_;simp only[go_sem,X.next];have hx6:=kn.l 1 rfl;obtain⟨S,hSL,hSB,hfz,kn⟩:=kn.freeze0;have hx6b:=hSB (x6,.st [t]) (by simp);have hft:FrzC H5 S t (.sl false 3 (Qk ds)):=Gr.frzM hgr hSL (FrzR.same (Qbh _));have kn:=kn.setL (o':=.st [.sl false 3 (Qk ds)]) 1 rfl (by simp);refine c_gh (Qkc S (Qbro ?_) (hfz.set (o:=.st [.sl false 3 (Qk ds)]) hx6b.2 (by rw[hx6b.1];exact FrzKL.st (.cons htw hft .nil)))) (e':=[(4,.c (.ptr x4 0)),(6,.c (.ptr x6 0))]) ?_
    ·simp only[Jb];exact⟨.c _ _ (.same _ rfl),.c _ _ (.same _ rfl),by simp⟩
    generalize (H5.frz S).set x6 (Obj.st [C.sl false 3 (Qk ds)])=H6 at *;have hx6:=kn.l 1 rfl;have hx4:=kn.l 0 rfl;clear hfz hx6b hft hSL hSB;refine Q5 ?_;refine Qa ?_;simp only[go_sem,hx6];refine Qry hD.fits fun H7 hu=>?_;have kn:=kn.call0 hu;have hx6:=kn.l 1 rfl;have hx4:=kn.l 0 rfl;simp only[go_sem,Q4v];refine Qh (Qd rfl ?_ ?_)
    ·intro h;rw[hG2]at h;simp at h
    ·intro hc3;refine Qf ?_;try simp only[go_sem]
     refine Qa ?_;simp only[go_sem,hx6,hx4];intro H8 h8;have kn:=kn.stL 0 rfl h8;have hx4:=kn.l 0 rfl;simp only[go_sem,Q4w];refine Qj ?_;simp only[go_sem,X.next,Q4,Qaa,Qain,Jb,Jh,RS.op,hx4];have hK:=hK ds _ hD kn.fin;rw[hG]at hK;exact⟨fun _=>trivial,_,Q0o (Q56 ds) (.c _ _ (Qg rfl)),hK⟩
theorem Qa5x {cs:List CodeD}{fl:Bool}(hfit:∀c∈cs,c.fits)(hK:∀ds H',DropOk cs ds→Upd H H' []→K (.tup [.ag [.sl false 3 (Qk ds)],.c (.bool (Qew cs))]) H') :
  Qo prog Qja [.ag [.sl fl 3 (Qk cs)]] H K:=by
 refine Qy ?_;refine Qb Qap Qaw0 ?_;refine Qa ?_;simp only[go_sem];intro x2 hx2 H1 h1;have kn:=(Kn.start0 H).al hx2 h1;simp only[go_sem,Qpw];refine Qa ?_;simp only[go_sem];refine Qbe8 hfit fun ds H2 hb hu=>?_;have kn:=kn.call0 hu;have hx2:=kn.l 0 rfl;simp only[go_sem,Qpy,Jf,Je,hx2];intro H3 h3;have kn:=kn.stL 0 rfl h3;have hx2:=kn.l 0 rfl;simp only[go_sem,Qpx];refine Qj ?_;simp only[go_sem,Q4,Qaa,Q3i,Jb,Jh,RS.op,hx2];exact⟨fun _=>trivial,_,Q0o (Q56 ds) (.c _ _ (Qg rfl)),hK ds _ hb kn.fin⟩
theorem Qbnr {b n:Nat}(h:∀i,i<n→Qgs q b i=false):idlB q b n=[]:=by
 refine List.filter_eq_nil_iff.2 fun i hi=>?_;rw[h i (J1.1 hi)];simp
theorem Qbda (h:Qaw q=q)(k:Nat):∀n,n≤q.blocks.length→itC q k n=[]
 |0,_=>by simp[itC]
 |n+1,hn=>by
  have h1:=Qbda h k n (by omega);have h2:=(Qaw4 (Qbpb h)).2 n (by omega);rw[Qav8,h1,Qkd (by omega),Qbnr h2];rfl
theorem Qbi4 {ds:List CodeD}(h:∀i (hi:i<ds.length),Qaw ds[i]=ds[i]):Q6r ds=[]:=by
 have key:∀n,n≤ds.length→itU ds n=[]:=fun n=>by
  induction n with
  |zero=>intro _;simp[itU]
  |succ n ih=>
   intro hn;rw[Qav9 (by omega),ih (by omega),Qbda (h n (by omega)) n _ (Jn _)];rfl
 rw[Q6r,key _ (Jn _)];simp
theorem Qbo7 {cs ds:List CodeD}(h:DropOk cs ds)(hg:Qew cs=true){k:Nat}(hk:k<ds.length):Qaqh ds (k:Int)≤Qaqh cs (k:Int):=by
 obtain⟨h1,h2,h3⟩:=h.unit hg;have a:hasG ds (k:Int)=true:=by simp only[hasG,h1,J2,decide_eq_true_eq];omega
 have b:hasG cs (k:Int)=true:=by simp only[hasG,hg,J2,decide_eq_true_eq];omega
 have hk2:k<cs.length:=by omega
 have:=(h3 k hk2 hk).most (Q93 hg hk2);rw[Qaqh,Qaqh,if_pos a,if_pos b];simp only[Int.toNat_natCast,Jl hk,Jl hk2];omega
set_option maxHeartbeats 8000000 in
theorem FnDropIdleAgain_c {bs:List UInt8}(hK:∀H',K (.c (.bool true)) H'):Qo prog Qf1 [.c (.sl false 1 (Qbv bs))] H K:=by
 refine Qb Qap Qxn ?_;have retT':∀(e:Env) (H':Heap),lk 2 e=.c (.bool true)→Q4 Qc0 K .ret e H':=by
  intro e H' h2;simp only[go_sem,Q4,Qaa,Qc0,Ja,forall_eq,RS.op,h2];exact hK H'
 refine Qa ?_;simp only[go_sem];refine Q5 ?_;refine Qa ?_;simp only[go_sem,Qax];intro _;refine Qh (Qd rfl (fun hc=>?_) (fun hc=>?_))
 ·refine Qa ?_;simp only[go_sem];refine Qj ?_;exact retT' _ _ rfl
 refine Qf ?_;try simp only[go_sem]
 refine Qa ?_;simp only[go_sem];refine Qapq fun cs H1 hu hok=>?_;have hfit:=hok.fits;have kn:=(Kn.start0 H).call0 hu;simp only[go_sem,Qem];intro x3 hx3 H2 h2;have kn:=kn.al hx3 h2;have hx3:=kn.l 0 rfl;simp only[go_sem,Qel,hx3];intro H3 h3;have kn:Kn H H3 [] [(x3,.st [.sl false 3 (Qk cs)])]:=kn.stL 0 rfl h3;have hx3:=kn.l 0 rfl;refine Qa ?_;simp only[go_sem,hx3];refine Qauf hfit fun ds H4 hd hu=>?_;have kn:=kn.call0 hu;simp only[go_sem,Qep,Jf,Je];intro x4 hx4 H5 h5;have kn:=kn.al hx4 h5;have hx4:=kn.l 1 rfl;simp only[go_sem,Qeo,hx4];intro H6 h6;have kn:Kn H H6 [] [(x3,.st [.sl false 3 (Qk cs)]),(x4,.st [.sl false 3 (Qk ds)])]:=kn.stL 1 rfl h6;have hx3:=kn.l 0 rfl;simp only[go_sem,Qen];refine Qa ?_;simp only[go_sem,hx3];refine Qa5x hfit fun es H7 he hu=>?_;have kn:=kn.call0 hu;have hes:=he.uniq hd;subst hes;simp only[go_sem,Qes,Jf,Je];intro x6 hx6 H8 h8;have kn:=kn.al hx6 h8;have hx6:=kn.l 2 rfl;simp only[go_sem,Qer,hx6];intro H9 h9;have kn:Kn H H9 [] [(x3,.st [.sl false 3 (Qk cs)]),(x4,.st [.sl false 3 (Qk es)]),(x6,.st [.sl false 3 (Qk es)])]:=kn.stL 2 rfl h9;have hx4:=kn.l 1 rfl;have hx6:=kn.l 2 rfl;simp only[go_sem,Qeq];refine Q5 ?_
 cases hg:Qew cs with
 |false=>
  refine Qa ?_;simp only[go_sem,hg,hx4,hx6,decide_true];refine Qn6 fun H10 hu=>?_;have kn:=kn.call0 hu;have hx4:=kn.l 1 rfl;have hx6:=kn.l 2 rfl;simp only[go_sem,Qb4];refine Qh (Qd rfl ?_ ?_)
  ·intro _;refine Qa ?_;simp only[go_sem,hx4,hx6,decide_true];refine Qn6 fun H11 hu=>?_;simp only[go_sem,Qdu];refine Qj ?_;exact retT' _ _ rfl
  ·intro h;simp at h
 |true=>
  obtain⟨hge,hle,hid⟩:=hd.unit hg;have hfe:=hd.fits;have h14:=(of_decide_eq_true hge).1;refine Qa ?_;simp only[go_sem,hg,hx4,hx6,decide_true];refine Qn6 fun H10 hu=>?_;have kn:=kn.call0 hu;simp only[go_sem,Qb4];refine Qh (Qd rfl ?_ ?_)
  ·intro h;simp at h
  intro _;refine Qf ?_;try simp only[go_sem]
  have kn:Kn H H10 [] [(x3,.st [.sl false 3 (Qk cs)]),(x4,.st [.sl false 3 (Qk es)])]:=Kn.drop (A:=[_,_]) (B:=[_]) kn;have hx4:=kn.l 1 rfl;refine Qa ?_;simp only[go_sem,hx4];refine Qauf hfe fun fs H11 hf hu=>?_;have hfs:=hf.uniq (hd.again hg);subst hfs;have kn:=kn.call0 hu;rw[hge];simp only[go_sem,Qdx,Jf,Je];intro x8 hx8 H12 h12;have kn:=kn.al hx8 h12;have hx8:=kn.l 2 rfl;simp only[go_sem,Qdw,hx8];intro H13 h13;have kn:Kn H H13 [] [(x3,.st [.sl false 3 (Qk cs)]),(x4,.st [.sl false 3 (Qk fs)]),(x8,.st [.sl false 3 (Qk fs)])]:=kn.stL 2 rfl h13;have hx4:=kn.l 1 rfl;simp only[go_sem,Qdv];refine Q5 ?_;refine Qa ?_;simp only[go_sem,hx4,Qx];try intro _
  refine Qh (Qc (Qu (fun mm e1 H1=>∃(i:Nat),mm=fs.length-i∧i≤fs.length∧Kn H H1 [] [(x3,.st [.sl false 3 (Qk cs)]),(x4,.st [.sl false 3 (Qk fs)]),(x8,.st [.sl false 3 (Qk fs)])]∧
   lk 3 e1=.c (.ptr x3 0)∧lk 4 e1=.c (.ptr x4 0)∧lk 8 e1=.c (.ptr x8 0)∧lk 9 e1=.c (.bool true)∧lk 54 e1=.c (.int .i64 fs.length)∧lk 55 e1=.c (.int .i64 i)) fs.length ?_ ?_))
  ·exact⟨0,by omega,by omega,kn,rfl,rfl,rfl,rfl,rfl,rfl⟩
  ·clear kn hx3 hx4 hx6 hx8;rintro mm e1 H14 ⟨i,hmm,hi,kn,l3,l4,l8,l9,l54,l55⟩;have hx3:=kn.l 0 rfl;have hx4:=kn.l 1 rfl;have hx8:=kn.l 2 rfl;refine Qa ?_;simp only[go_sem,l3,l4,l8,l9,l54,l55];refine Qh (Qd rfl ?_ ?_)
   ·intro hc1;have hlt:i<fs.length:=(by simpa using hc1);have hml:=Qbo7 hd hg hlt;have hmd:decide (Qaqh cs (i:Int)<Qaqh fs (i:Int))=false:=decide_eq_false (by omega);refine Qf ?_;try simp only[go_sem]
    refine Qh (Qc ?_);refine Qa ?_;simp only[go_sem,l3,l4,l8,l9,l54,l55];refine Qao ?_;simp only[go_sem,hx3,hx4];refine Q98 hfe fun H15 hu=>?_;have kn:=kn.call0 hu;have hx3:=kn.l 0 rfl;simp only[go_sem,Qdz,hx3];refine Q98 hfit fun H16 hu=>?_;have kn:=kn.call0 hu;simp only[go_sem,Qdy,hmd];refine Qd rfl ?_ ?_
    ·intro h;simp at h
    intro _;refine Qf ?_;try simp only[go_sem]
    refine Qr ?_;simp only[go_sem];refine⟨Qp (by omega) (by omega),?_⟩;show ∃m,_;exact⟨fs.length-(i+1),by omega,i+1,rfl,by omega,kn,rfl,rfl,rfl,rfl,rfl,rfl⟩
   ·intro hc1;refine Qv ?_;simp only[go_sem,X.next];refine Qa ?_;simp only[go_sem,l3,l4,l8,l9,hx4,hx8];refine Qav6 fun H15 hu=>?_;have kn:=kn.call0 hu;have hx4:=kn.l 1 rfl;simp only[go_sem,Qd1,hx4];refine Qa6u hfe fun H16 hu=>?_;have hn:=Qbi4 (ds:=fs) fun i hi=>(hid i (by omega) hi).fix;rw[hn];simp only[go_sem,Qd0,Qbfb,Jd,decide_true];try intro _
    refine Qj ?_;exact retT' _ _ rfl
end Go.AE.Y
namespace Go.AE.Y
open Go.ChangeShapes Go.WideShapes Go.ChangeAt Go.RowKit
def Qbqu (w:World)(a:Option Addr)(len cap:Nat)(zs:List Int):Prop:=
 (a=none∧len=0∧cap=0∧zs=[])∨
 ∃x,a=some x∧len≤cap∧zs.length=cap∧(∀i,i<zs.length→w.cell? (x.add i)=some (.int .u8 (zs.getD i 0)))∧∀n∈zs,(Lit.int .u8 n).wf=true
theorem Qbmt (w:World):Sat (fun _=>.none) ⟨fun b=>decide (b<w.heap.size),fun _=>none,fun _=>none⟩ w:=by
 refine⟨fun b hb=>⟨by simp;omega,rfl⟩,⟨0,fun _ _=>rfl⟩,fun b x h=>by simp at h,fun b l p h=>by simp at h,fun l=>trivial⟩
theorem Qbq8 {n:Int}(h:(Lit.int .u8 n).wf=true):((UInt8.ofNat n.toNat).toNat:Int)=n:=by
 simp only[Lit.wf,Bool.and_eq_true,decide_eq_true_eq]at h;have a1:IntKind.min .u8=0:=by decide
 have a2:IntKind.max .u8=255:=by decide
 rw[a1,a2]at h;rw[UInt8.toNat_ofNat'];omega
theorem calls_of_acall {P:Program}{f:Nat}(h:∀bs:List UInt8,bs.length≤1048576→Qo P f [.c (.sl false 1 (Qbv bs))] (fun _=>.none) fun v _=>v=.c (.bool true))
  {a0:Option Addr} {len0 cap0:Nat} {z0:List Int} {w:World} (hr:Qbqu w a0 len0 cap0 z0) (hl:len0≤1048576) :
  Calls P f #[.slice a0 len0 cap0] w fun e w'=>e=.returned (.bool true)∧Below w.heap.size w w':=by
 have key:∃bs:List UInt8,bs.length=len0∧RepC w ⟨fun b=>decide (b<w.heap.size),fun _=>none,fun _=>none⟩ (.sl false 1 (Qbv bs)) (.slice a0 len0 cap0):=by
  rcases hr with ⟨rfl,rfl,rfl,rfl⟩|⟨x,rfl,hlc,hz,hcell,hwf⟩
  ·exact⟨[],rfl,.slnil _ _ _⟩
  ·obtain⟨b,off,spot⟩:=x;have hbl:((z0.take len0).map fun n=>UInt8.ofNat n.toNat).length=len0:=by simp;omega
   by_cases h0:cap0=0
   ·subst h0;have:len0=0:=(by omega);subst this;exact⟨[],rfl,.slnil _ _ _⟩
   have hc0:=hcell 0 (by omega);have hspot:spot=none:=by simpa[Addr.add]using World.cell?_spot hc0
   subst hspot;have hadd:∀i,(⟨b,off,none⟩:Addr).add i=⟨b,off+i,none⟩:=by
    intro i;by_cases h:i=0 <;> simp[Addr.add,h]
   have hb:b<w.heap.size:=by
    rcases J4 b w.heap.size with h|h
    ·exact h
    ·simp[World.cell?,Addr.add,Array.getElem?_eq_none h]at hc0
   refine⟨_,hbl,?_⟩;have hget:∀(i:Nat) (row:List C),(Qbv ((z0.take len0).map fun n=>UInt8.ofNat n.toNat))[i]? = some row→i<len0∧row=[.int .u8 (z0.getD i 0)]:=by
    intro i row hi;have hlt:i<len0:=by
     rcases J4 i len0 with h|h
     ·exact h
     ·rw[Jo (by rw[Qax];omega)]at hi;simp at hi
    have hz0:i<z0.length:=(by omega);refine⟨hlt,?_⟩;simp only[Qbv,List.getElem?_map,List.getElem?_take,if_pos hlt,Jl hz0,Option.map_some,J5]at hi;rw[←hi,Qbq8 (hwf _ (Jq hz0))];simp[List.getD_eq_getElem?_getD,hz0]
   have:=RepC.sl (w:=w) (g:=⟨fun b=>decide (b<w.heap.size),fun _=>none,fun _=>none⟩) false 1 (Qbv ((z0.take len0).map fun n=>UInt8.ofNat n.toNat)) b off cap0 (fun i _=>.int .u8 (z0.getD i 0))
    (by rw[Qax,hbl];simp only[LIM];omega) (by simp) (by rw[Qax,hbl];exact hlc) (by simpa using hb)
    (fun i row hi=>by rw[(hget i row hi).2];rfl)
    (fun i row j c hi hj=>by
     obtain⟨h1,rfl⟩:=hget i row hi;have hj0:j=0:=by
      rcases Jx j with h|h
      ·exact h
      ·rw[Jo (by simp;omega)]at hj;simp at hj
     subst hj0;have:=hcell i (by omega);rw[hadd]at this;simpa using this)
    (fun i row j c hi hj=>by
     obtain⟨h1,rfl⟩:=hget i row hi;have hj0:j=0:=by
      rcases Jx j with h|h
      ·exact h
      ·rw[Jo (by simp;omega)]at hj;simp at hj
     subst hj0;simp at hj;subst hj;exact .int _ _)
   rw[Qax,hbl]at this;exact this
 obtain⟨bs,hbl,hrep⟩:=key;have hc:=(h bs (by omega)).2 _ w [.slice a0 len0 cap0] (Qbmt w) rfl (fun j x u hj hu=>by
  cases j with
  |zero=>simp at hj hu;subst hj;subst hu;exact .c _ _ hrep
  |succ j=>simp at hj)
 refine hc.mono fun e w'=>?_;rintro⟨v,x,H',g',rfl,rfl,hst,hv⟩;have:v=.bool true:=by cases hv with|c _ _ h=>cases h;rfl
 subst this;exact⟨rfl,hst.le.os,hst.le.tape,hst.le.output,hst.le.size,fun k hk=>(hst.le.per k (by simpa using hk)).2⟩
end Go.AE.Y
