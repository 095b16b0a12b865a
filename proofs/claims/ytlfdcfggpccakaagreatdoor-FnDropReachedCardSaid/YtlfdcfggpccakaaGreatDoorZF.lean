/- Part 6 of the proof: the engine, codes, walks and plain laws, each named where it stands. -/
import Derived.Test.YtlfdcfggpccakaaGreatDoorZE
import Derived.Below
import Derived.LaidMore
import Derived.LaidOnce
import Derived.OpenShut
import Derived.OpenVars
import Derived.ProofKit
import Derived.SevenTiedAt
import Derived.Test.YtlfdcfggpccakaaGreatDoorCards
import Derived.Test.YtlfdcfggpccakaaGreatDoorTie
open Nat (reduceEqDiff reduceAdd reduceLeDiff reduceLT)
set_option linter.unusedVariables false
set_option linter.unusedSimpArgs false
set_option maxRecDepth 4000
open Array renaming getElem?_eq_none->Jag
open Bool renaming and_eq_true->Jaf
open Int renaming toNat_natCast->J0
open List renaming getD_eq_getElem?_getD->Ja,mem_singleton->Jb,mem_iff_getElem->Jc,getElem_mem->Jd,forall_mem_cons->Je,length_replicate->Jf,idxOf_lt_length_of_mem->Jg,getD_cons_zero->Jh,length_nil->Ji,not_mem_nil->Jj,getElem?_eq_getElem->Jk,length_map->Jl,length_cons->Jm,getD_cons_succ->Jn,mem_append_right->Jp,length_set->Jq,take_of_length_le->Jr,getElem?_eq_none->Js,mem_map->Jt,perm_append_comm->Ju,mem_or_eq_of_mem_set->Jv,take_succ_eq_append_getElem->Jw,getElem_set->Jy,length_append->Jz,getElem?_map->J1,ext_getElem->J2,mem_flatMap->J3,map_congr_left->J4,map_map->J5,getElem_map->J7,take_length->J8,mem_cons_of_mem->J9,map_cons->Jaa,eq_of_mem_replicate->Jad,map_nil->Jah,mem_append->Jai,mem_range->Jaj,flatMap_append->Jak,mem_cons_self->Jam,flatMap_cons->Jan,append_nil->Jap,map_append->Jar,mem_cons->Jas
open List.Nodup renaming sublist->Jal
open List.cons renaming injEq->Jaq
open Nat renaming le_refl->Jo,zero_add->Jx,eq_zero_or_pos->Jac,lt_or_ge->Jat
open Option renaming map_some->Jab,getD_some->Jao
open Option.some renaming inj->J6,injEq->Jau
open Prod.mk renaming injEq->Jae
namespace Go.AE.Y
attribute [local go_sem] cond_true cond_false Bool.not_true Bool.not_false
open Go.Proofs.Tryz
variable {H H0 F:Heap}{K:V→Heap→Prop}{E L B pl:List (Nat×Obj)}
theorem Qaos {y:BlkD}(hy:y.cl)(hK:∀pc N nc nl H',Gr N 2 (Q2 y.phis) pc→Gr nl 1 (Qb y.next) nc→Kn H H' [] (N++nl)→K (.ag [pc,.sl false 4 (Qaw y.ins),.int .i64 y.jump,.int .i64 y.on,nc]) H'):Qo prog Qf9 [.ag y.cells] H K:=by
 refine Qc7 ?_;refine Qd Qai Q7r ?_;refine Qa ?_;simp only[go_sem,BlkD.cells];intro x1 hx1 H0 h0;have kn:=(Kn.start0 H).al hx1 h0;intro x2 hx2 H1 h1;have kn:=kn.al hx2 h1;have hx1:=kn.l 0 rfl;refine Qa ?_;simp only[go_sem,hx1];refine Qbjw hy.p hy.pa kn fun pc N H2 hgp kn=>?_;have hpw:=hgp.isOw;have hx1:=kn.l 0 rfl;simp only[go_sem,Qid,hpw,hx1];intro H3 h3;have kn:=kn.stL 0 rfl h3;have hx1:=kn.l 0 rfl;refine Qa ?_;simp only[go_sem,hx1,hpw];refine Qbjv hy.i hy.ia fun H4 hu=>?_;have kn:=kn.call0 hu;have hx1:=kn.l 0 rfl;simp only[go_sem,Qie,hpw,hx1];intro H5 h5;have kn:=kn.stL 0 rfl h5;have hx1:=kn.l 0 rfl;refine Qa ?_;simp only[go_sem,hx1,hpw];refine Q22 kn hy.n fun t Lg H6 hgr how kn=>?_;have hx1:=kn.l 0 rfl;simp only[go_sem,Qif,hpw,how,hx1];intro H7 h7;have kn:=kn.stL 0 rfl h7;have hx1:=kn.l 0 rfl;have hx2:=kn.l 1 rfl;refine Qa ?_;simp only[go_sem,hx1,hx2,hpw,how];intro H8 h8;have kn:Kn H H8 [] ([(x1,.st [pc,.sl false 4 (Qaw y.ins),.int .i64 y.jump,.int .i64 y.on,t]),(x2,.st [pc,.sl false 4 (Qaw y.ins),.int .i64 y.jump,.int .i64 y.on,t])]++(N++Lg)):=
  (kn.stL 1 rfl h8).perm (Qj fun f hf h0 hc hp=>by
   have e1:=hc (x1,.st [pc,.sl false 4 (Qaw y.ins),.int .i64 y.jump,.int .i64 y.on,t]) ([(x2,.st [pc,.sl false 4 (Qaw y.ins),.int .i64 y.jump,.int .i64 y.on,t])]++N++Lg);have e2:=hc (x1,.st [pc,.sl false 4 (Qaw y.ins),.int .i64 y.jump,.int .i64 y.on,t]) [(x2,.st [pc,.sl false 4 (Qaw y.ins),.int .i64 y.jump,.int .i64 y.on,t])];show f ((x1,_)::([(x2,_)]++N++Lg))=_;rw[e1];simp only[hf,e2];omega)
 have hx2:=kn.l 1 rfl;refine Qk ?_;simp only[go_sem,Qz,Q8,Qnz,Jb,forall_eq,RS.op,hpw,how,hx2];exact⟨unx H (N++Lg),.ag [pc,.sl false 4 (Qaw y.ins),.int .i64 y.jump,.int .i64 y.on,t],H8.frz (unx H (N++Lg)),FrzL.ag (.cons (.same _ hpw) (.cons (Qg rfl) (.cons (Qg rfl) (.cons (Qg rfl) (.cons (.same _ how) .nil))))),Qd5 _ _,hK pc N t Lg _ hgp hgr kn.finK⟩
structure NBlk where
 y:BlkD
 pc:C
 pl:List (Nat×Obj)
 nc:C
 nl:List (Nat×Obj)
def NBlk.row (b:NBlk):List C:=[b.pc,.sl false 4 (Qaw b.y.ins),.int .i64 b.y.jump,.int .i64 b.y.on,b.nc]
def NBlk.ok (b:NBlk):Prop:=Gr b.pl 2 (Q2 b.y.phis) b.pc∧Gr b.nl 1 (Qb b.y.next) b.nc
def NBlk.lg (b:NBlk):List (Nat×Obj):=b.pl++b.nl
theorem NBlk.noOw {b:NBlk}(h:b.ok):Go.AE.noOw b.row=true:=by
 have h1:=h.1.isOw;have h2:=h.2.isOw;simp only[Go.AE.noOw,NBlk.row,List.all_cons,List.all_nil,h1,h2];rfl
end Go.AE.Y
namespace Go.AE.Y
open Go.Proofs.Tryz
def Qyh:List Item:=[mJ 5 23]
def Qaqp:SC:=.reg [mJ 31 5,mJ 32 7,mJ 33 6,.e none none (.upd 0 (.t 31) (.t 32) (.t 33))] [1,2,4,5,24,25,26]
def Qaqq:SC:=.reg [cJ 34 .add 26 1,mJ 26 34] [1,2,4,5,24,25,26]
def Qaqr:SC:=.seq (.block 1 (sR [mJ 28 26,iJ 29 1 24 26,lJ 30 29,mJ 6 28,mJ 7 30] [1,2,4,5,6,7,24,25,26] Qaqp)) Qaqq
def Qyn:SC:=sR [bJ 27 .lss 26 25] [1,2,4,5,24,25,26,27] (cX 27 0 Qaqr)
def Qyi:List Item:=[mJ 8 36]
def Qyj:List Item:=[sJ 3 9 41]
def Qyk:List Item:=[mJ 10 44]
def Qyl:List Item:=[sJ 5 13 57]
def Qym:List Item:=eI 13 (.alloc [.sl true 2 [],.sl true 4 [],.int .i64 0,.int .i64 0,.sl true 1 []])::Qyl
def Qakh:SC:=.reg [fJ 66 4 13,lJ 67 66,mJ 68 14,mJ 69 5,mJ 70 15,fI 71 (.lup 0 (.c (.int .i64 0)) (.t 69) (.t 70)),iJ 72 1 67 68,sJ 1 72 71] [2,4,5,8,9,10,11,12,13,45,46,47,59,60,61]
def Qaki:SC:=.reg [cJ 73 .add 61 1,mJ 61 73] [2,4,5,8,9,10,11,12,13,45,46,47,59,60,61]
def Qakj:SC:=.seq (.block 5 (sR [mJ 63 61,iJ 64 1 59 61,lJ 65 64,mJ 14 63,mJ 15 65] [2,4,5,8,9,10,11,12,13,14,15,45,46,47,59,60,61] Qakh)) Qaki
def Qs3:SC:=sR [bJ 62 .lss 61 60] [2,4,5,8,9,10,11,12,13,45,46,47,59,60,61,62] (cX 62 4 Qakj)
def Qsz:List Item:=[mJ 18 83]
def Qik:List Item:=[fI 87 (.ext (.t 86) 0)]
def Qs0:List Item:=[fI 89 (.ext (.t 88) 0),fI 90 (.ext (.t 88) 1),mJ 19 89,mJ 20 90]
def Qakk:SC:=cT 97 (.reg [mJ 98 18,mJ 99 21,mJ 100 20,.e none none (.upd 0 (.t 98) (.t 99) (.t 100))] [2,4,5,8,9,10,11,13,18,45,46,47,77,78,79,85]) .skip
def Qakl:SC:=sR [mJ 97 22] [2,4,5,8,9,10,11,13,18,20,21,45,46,47,77,78,79,85,97] Qakk
def Qakm:SC:=sR [mJ 92 5,mJ 93 19,fI 94 (.lup2 0 (.c (.int .i64 0)) (.t 92) (.t 93)),mJ 91 94,fI 95 (.ext (.t 91) 0),fI 96 (.ext (.t 91) 1),mJ 21 95,mJ 22 96] [2,4,5,8,9,10,11,13,18,20,21,22,45,46,47,77,78,79,85] Qakl
def Qakn:SC:=.block 9 (sR (eI 88 (.ent (.t 85))::Qs0) [2,4,5,8,9,10,11,13,18,19,20,45,46,47,77,78,79,85] Qakm)
def Qac3:SC:=sR (eI 86 (.nxt (.t 85))::Qik) [2,4,5,8,9,10,11,13,18,45,46,47,77,78,79,85,87] (cX 87 8 Qakn)
def Qs1:List Item:=[iJ 110 1 101 102,sJ 1 110 109]
def Qye:SC:=.reg (mJ 101 10::mJ 102 11::mJ 103 10::mJ 104 11::iJ 105 1 103 104::lJ 106 105::mJ 107 18::fI 108 (.bsl 1 [.t 107])::xJ 109 1 106 108::Qs1) [2,4,5,8,9,10,11,13,45,46,47,77,78,79]
def Qyf:SC:=.seq (sR [mJ 84 17,eI 85 (.rng (.t 84))] [2,4,5,8,9,10,11,13,18,45,46,47,77,78,79,85] (bL 8 Qac3)) Qye
def Qako:SC:=sR (eI 83 (.mkm)::Qsz) [2,4,5,8,9,10,11,13,17,18,45,46,47,77,78,79] Qyf
def Qakp:SC:=.reg [cJ 111 .add 79 1,mJ 79 111] [2,4,5,8,9,10,11,13,45,46,47,77,78,79]
def Qakq:SC:=.seq (.block 7 (sR [iJ 81 1 77 79,lJ 82 81,mJ 17 82] [2,4,5,8,9,10,11,13,17,45,46,47,77,78,79] Qako)) Qakp
def Qs4:SC:=sR [bJ 80 .lss 79 78] [2,4,5,8,9,10,11,13,45,46,47,77,78,79,80] (cX 80 6 Qakq)
def Qs2:List Item:=[fJ 117 2 9,sJ 1 117 116]
def Qakr:SC:=.reg (fJ 112 2 9::lJ 113 112::tJ 114 5 13::fI 115 (.bsl 5 [.t 114])::xJ 116 5 113 115::Qs2) [2,4,5,8,9,10,45,46,47]
def Qaks:SC:=.seq (sR [mJ 74 8,mJ 75 12,iJ 76 1 74 75,lJ 77 76,nJ 78 77,zJ 79 0] [2,4,5,8,9,10,11,13,45,46,47,77,78,79] (bL 6 Qs4)) Qakr
def Qakt:SC:=.seq (sR [fJ 58 4 13,lJ 59 58,nJ 60 59,zJ 61 0] [2,4,5,8,9,10,11,12,13,45,46,47,59,60,61] (bL 4 Qs3)) Qaks
def Qaku:SC:=sR (fJ 52 2 2::lJ 53 52::mJ 54 12::iJ 55 5 53 54::tJ 56 5 55::aJ 57 Qf9 [.t 56]::Qym) [2,4,5,8,9,10,11,12,13,45,46,47] Qakt
def Qakv:SC:=.reg [cJ 118 .add 47 1,mJ 47 118] [2,4,5,8,9,10,45,46,47]
def Qakw:SC:=.seq (.block 3 (sR [mJ 49 47,iJ 50 1 45 47,lJ 51 50,mJ 11 49,mJ 12 51] [2,4,5,8,9,10,11,12,45,46,47] Qaku)) Qakv
def Qac4:SC:=sR [bJ 48 .lss 47 46] [2,4,5,8,9,10,45,46,47,48] (cX 48 2 Qakw)
def Qakx:SC:=sR [tJ 121 3 9,sJ 3 4 121] [4] .ret
def Qyg:SC:=.seq (.seq .gh (.reg [mJ 119 10,aJ 120 Qqz [.t 9,.t 119]] [4,9])) Qakx
def Qaky:SC:=.seq (sR [mJ 45 1,nJ 46 45,zJ 47 0] [2,4,5,8,9,10,45,46,47] (bL 2 Qac4)) Qyg
def Qakz:SC:=sR (mJ 42 1::nJ 43 42::eI 44 (.mks 1 [.sl true 1 []] (.t 43))::Qyk) [1,2,4,5,8,9,10] Qaky
def Qak0:SC:=sR (fJ 37 0 2::lJ 38 37::fJ 39 1 2::lJ 40 39::fI 41 (.bld [.int .i64 0,.int .i64 0,.sl true 5 []] [(0,1,.t 38),(1,1,.t 40)])::eI 9 (.alloc [.int .i64 0,.int .i64 0,.sl true 5 []])::Qyj) [1,2,4,5,8,9] Qakz
def Qak1:SC:=sR (tJ 35 3 2::aJ 36 Qqy [.t 35]::Qyi) [1,2,4,5,8] Qak0
def Qak2:SC:=.seq (sR [mJ 24 1,nJ 25 24,zJ 26 0] [1,2,4,5,24,25,26] (bL 0 Qyn)) Qak1
def Qak3:SC:=sR (eI 23 (.mkm)::Qyh) [1,2,4,5] Qak2
def Qa1l:SC:=sR [vJ 2 0,eI 4 (.alloc [.int .i64 0,.int .i64 0,.sl true 5 []])] [1,2,4] Qak3
def Qabv:List RS:=[.cell 4 3 true]
theorem Qa0p:mFn prog Qi4 2 122 Qa1l Qabv=true:=by kernel_rfl
end Go.AE.Y
namespace Go.AE.Y
attribute [local go_sem] cond_true cond_false Bool.not_true Bool.not_false
open Go.Proofs.Tryz
variable {H H0:Heap}{K:V→Heap→Prop}{E L:List (Nat×Obj)}{q:CodeD}{l:List Nat}
structure NowOk (l:List Nat)(i:Nat)(nl:List (Int×Int)):Prop where
 len:nl.length≤i
 f:∀v:Int,lkI v nl=if 0≤v∧v.toNat∈l.take i then some ((l.idxOf v.toNat:Nat):Int)else none
theorem NowOk.step {i:Nat}{nl:List (Int×Int)}(h:NowOk l i nl)(hn:l.Nodup)(hi:i<l.length):NowOk l (i+1) (upI ((l[i]:Nat):Int) (i:Int) nl):=by
 refine⟨by have:=Qa6i ((l[i]:Nat):Int) (i:Int) nl;have:=h.len;omega,fun v=>?_⟩;rw[Qbja,h.f,Jw hi];by_cases hv:v=((l[i]:Nat):Int)
 ·have hvt:v.toNat=l[i]:=by omega
  rw[if_pos hv,if_pos ⟨by omega,Jp _ (by rw[hvt];exact Jb.2 rfl)⟩,hvt,List.Nodup.idxOf_getElem hn i hi]
 ·rw[if_neg hv];by_cases h0:0≤v∧v.toNat∈l.take i
  ·rw[if_pos h0,if_pos ⟨h0.1,List.mem_append_left _ h0.2⟩]
  ·rw[if_neg h0,if_neg];rintro⟨h1,h2⟩;rcases Jai.1 h2 with h2|h2
   ·exact h0 ⟨h1,h2⟩
   ·simp only[Jb]at h2;exact hv (by omega)
theorem NowOk.at {nl:List (Int×Int)}(h:NowOk l l.length nl){v:Int}(hv:0≤v)(hm:v.toNat∈l):lkI v nl=some ((l.idxOf v.toNat:Nat):Int):=by
 rw[h.f,J8,if_pos ⟨hv,hm⟩]
theorem NowOk.no {nl:List (Int×Int)}(h:NowOk l l.length nl){v:Int}(hm:v.toNat∉l):lkI v nl=none:=by
 rw[h.f,J8,if_neg fun hh=>hm hh.2]
set_option maxHeartbeats 2000000 in
theorem Qbkd {Q:X→Env→Heap→Prop}{e:Env}{fl fl2:Bool}{x4 M:Nat}{X4:Obj}(hn:l.Nodup)(hl:l.length≤1000)
  (kn:Kn H0 H E [(x4,X4),(M,.map 0 (mI []))])
  (l1:lk 1 e=.c (.sl fl2 1 (Qag l))) (l2:lk 2 e=.c (.pp [.int .i64 q.params,.int .i64 q.regs,.sl fl 5 (Qs q.blocks)])) (l4:lk 4 e=.c (.ptr x4 0)) (l5:lk 5 e=.c (.mp M))
  (l24:lk 24 e=.c (.sl fl2 1 (Qag l))) (l25:lk 25 e=.c (.int .i64 l.length)) (l26:lk 26 e=.c (.int .i64 0))
  (hQ:∀(e:Env) (H':Heap) (nl:List (Int×Int)) (ver:Nat),NowOk l l.length nl→Kn H0 H' E [(x4,X4),(M,.map ver (mI nl))]→
   lk 1 e=.c (.sl fl2 1 (Qag l))→lk 2 e=.c (.pp [.int .i64 q.params,.int .i64 q.regs,.sl fl 5 (Qs q.blocks)])→lk 4 e=.c (.ptr x4 0)→lk 5 e=.c (.mp M)→Q .nrm e H') :
  Qae prog (.block 0 (.loop Qyn)) Q e H:=by
 refine Qf (Qw (fun m e1 H1=>∃(i ver:Nat) (nl:List (Int×Int)),m=l.length-i∧i≤l.length∧NowOk l i nl∧Kn H0 H1 E [(x4,X4),(M,.map ver (mI nl))]∧
  lk 1 e1=.c (.sl fl2 1 (Qag l))∧lk 2 e1=.c (.pp [.int .i64 q.params,.int .i64 q.regs,.sl fl 5 (Qs q.blocks)])∧lk 4 e1=.c (.ptr x4 0)∧lk 5 e1=.c (.mp M)∧
  lk 24 e1=.c (.sl fl2 1 (Qag l))∧lk 25 e1=.c (.int .i64 l.length)∧lk 26 e1=.c (.int .i64 i)) l.length ?_ ?_)
 ·exact⟨0,0,[],by omega,by omega,⟨by simp,fun v=>by simp[lkI]⟩,kn,l1,l2,l4,l5,l24,l25,l26⟩
 ·clear kn l1 l2 l4 l5 l24 l25 l26;rintro m e1 H1 ⟨i,ver,nl,hm,hi,hN,kn,l1,l2,l4,l5,l24,l25,l26⟩;refine Qa ?_;simp only[go_sem,l1,l2,l4,l5,l24,l25,l26];refine Qh (Qe rfl ?_ ?_)
  ·intro hc;have hlt:i<l.length:=by simpa using hc
   have hgd:l.getD i 0=l[i]:=by simp[Ja,hlt]
   have hM:=kn.l 1 rfl;have hnl:=hN.len;refine Qi ?_;try simp only[go_sem]
   refine Qh (Qf ?_);refine Qa ?_;simp only[go_sem,l1,l2,l4,l5,l24,l25,l26,hlt,Qan,Qb4 _ _ hlt,hgd];refine Qt ?_;simp only[go_sem,hM,Qmz,Qa66,Qass];refine⟨by simp only[LIM];omega,fun H2 h2=>?_⟩;have kn:=kn.stL 1 rfl h2;refine Qt ?_;simp only[go_sem];refine⟨Qr (by omega) (by omega),?_⟩;show ∃m,_;exact⟨l.length-(i+1),by omega,i+1,ver+1,_,rfl,by omega,hN.step hn hlt,kn,rfl,rfl,rfl,rfl,rfl,rfl,rfl⟩
  ·intro hc;have hge:i=l.length:=by have:l.length≤i:=(by simpa using hc);omega
   subst hge;refine Qv ?_;simp only[go_sem,X.next];exact hQ _ _ nl ver hN kn rfl rfl rfl rfl
def plI (l:List Nat)(v:Int):Int:=((l.idxOf v.toNat:Nat):Int)
set_option maxHeartbeats 2000000 in
theorem Qbe0 {Q:X→Env→Heap→Prop}{e:Env}{x13 M ver i b L9:Nat}{nl:List (Int×Int)}{ns:List Int}{pc ic nc a2 a4 a8 a9 a10 a45:C}{jj oo:Int}{Ln R:List (Nat×Obj)}
  (hN:NowOk l l.length nl) (hns:∀v∈ns,0≤v∧v.toNat∈l) (hnl:ns.length≤1000) (hpw:pc.isOw=false) (hiw:ic.isOw=false) (h10:a10.isOw=false) (h8:a8.isOw=false) (h45:a45.isOw=false) (h2:a2.isOw=false)
  (hg:Gr Ln 1 (Qb ns) nc)
  (kn:Kn H0 H E (([(M,.map ver (mI nl)),(x13,.st [pc,ic,.int .i64 jj,.int .i64 oo,nc])]++R)++Ln))
  (l2:lk 2 e=.c a2) (l4:lk 4 e=.c a4) (l5:lk 5 e=.c (.mp M)) (l8:lk 8 e=.c a8) (l9:lk 9 e=.c a9) (l10:lk 10 e=.c a10) (l11:lk 11 e=.c (.int .i64 i)) (l12:lk 12 e=.c (.int .i64 b)) (l13:lk 13 e=.c (.ptr x13 0))
  (l45:lk 45 e=.c a45) (l46:lk 46 e=.c (.int .i64 L9)) (l47:lk 47 e=.c (.int .i64 i)) (l59:lk 59 e=.c nc) (l60:lk 60 e=.c (.int .i64 ns.length)) (l61:lk 61 e=.c (.int .i64 0))
  (hQ:∀(e:Env) (H':Heap) (Ln:List (Nat×Obj)),Gr Ln 1 (Qb (ns.map (plI l))) nc→Kn H0 H' E (([(M,.map ver (mI nl)),(x13,.st [pc,ic,.int .i64 jj,.int .i64 oo,nc])]++R)++Ln)→
   lk 2 e=.c a2→lk 4 e=.c a4→lk 5 e=.c (.mp M)→lk 8 e=.c a8→lk 9 e=.c a9→lk 10 e=.c a10→lk 11 e=.c (.int .i64 i)→lk 12 e=.c (.int .i64 b)→lk 13 e=.c (.ptr x13 0)→
   lk 45 e=.c a45→lk 46 e=.c (.int .i64 L9)→lk 47 e=.c (.int .i64 i)→Q .nrm e H') :
  Qae prog (.block 4 (.loop Qs3)) Q e H:=by
 have hncw:=hg.isOw;refine Qf (Qw (fun m e1 H1=>∃(k:Nat) (Ln:List (Nat×Obj)),m=ns.length-k∧k≤ns.length∧Gr Ln 1 (Qb (mix (plI l) ns k)) nc∧Kn H0 H1 E (([(M,.map ver (mI nl)),(x13,.st [pc,ic,.int .i64 jj,.int .i64 oo,nc])]++R)++Ln)∧
  lk 2 e1=.c a2∧lk 4 e1=.c a4∧lk 5 e1=.c (.mp M)∧lk 8 e1=.c a8∧lk 9 e1=.c a9∧lk 10 e1=.c a10∧lk 11 e1=.c (.int .i64 i)∧lk 12 e1=.c (.int .i64 b)∧lk 13 e1=.c (.ptr x13 0)∧
  lk 45 e1=.c a45∧lk 46 e1=.c (.int .i64 L9)∧lk 47 e1=.c (.int .i64 i)∧lk 59 e1=.c nc∧lk 60 e1=.c (.int .i64 ns.length)∧lk 61 e1=.c (.int .i64 k)) ns.length ?_ ?_)
 ·exact⟨0,Ln,by omega,by omega,by rw[Qapr];exact hg,kn,l2,l4,l5,l8,l9,l10,l11,l12,l13,l45,l46,l47,l59,l60,l61⟩
 ·clear kn l2 l4 l5 l8 l9 l10 l11 l12 l13 l45 l46 l47 l59 l60 l61 hg;rintro m e1 H1 ⟨k,Ln,hm,hk,hg,kn,l2,l4,l5,l8,l9,l10,l11,l12,l13,l45,l46,l47,l59,l60,l61⟩;refine Qa ?_;simp only[go_sem,l2,l4,l5,l8,l9,l10,l11,l12,l13,l45,l46,l47,l59,l60,l61,hncw,h10,h8,h45];refine Qh (Qe rfl ?_ ?_)
  ·intro hc;have hlt:k<ns.length:=by simpa using hc
   obtain⟨y,hny,hLn⟩:∃y,nc=.vsl y 1 0 ns.length∧Ln=[(y,.vec 1 (Qb (mix (plI l) ns k)))]:=by
    rcases hg with ⟨_,h,_⟩|⟨y,h1,h2⟩
    ·have:=congrArg List.length h;rw[Qc,Qj6]at this;simp only[Ji]at this;omega
    ·exact⟨y,by rw[h1,Qc,Qj6],h2⟩
   subst hny hLn;have hmk:k<(mix (plI l) ns k).length:=by rw[Qj6];exact hlt
   obtain⟨w,hw⟩:∃w,ns[k]=w:=⟨_,rfl⟩;have hgd:(mix (plI l) ns k).getD k 0=w:=by rw[Ja,Jk hmk,Qbep hlt hmk,hw];rfl
   obtain⟨hw0,hwm⟩:=hns w (by rw[←hw];exact Jd hlt);have hlk:=hN.at hw0 hwm;have hset:=Qa03 (f:=plI l) hlt;rw[hw]at hset;have hM:H1 M=.map ver (mI nl):=(kn.get (M,.map ver (mI nl)) (by simp)).1;have hx13:H1 x13=.st [pc,ic,.int .i64 jj,.int .i64 oo,.vsl y 1 0 ns.length]:=(kn.get (x13,.st [pc,ic,.int .i64 jj,.int .i64 oo,.vsl y 1 0 ns.length]) (by simp)).1;have hy:H1 y=.vec 1 (Qb (mix (plI l) ns k)):=(kn.get (y,.vec 1 (Qb (mix (plI l) ns k))) (by simp)).1;have htk:(Qb (mix (plI l) ns k)).take ns.length=Qb (mix (plI l) ns k):=Jr (by rw[Qc,Qj6];omega);have hokM:Qwe H1 (.mp M)=True:=by simp only[Qwe,hM]
   have henM:Qaf H1 (.mp M)=mI nl:=by simp only[Qaf,hM]
   refine Qi ?_;try simp only[go_sem]
   refine Qh (Qf ?_);refine Qa ?_;simp only[go_sem,l2,l4,l5,l8,l9,l10,l11,l12,l13,l45,l46,l47,l59,l60,l61,hy,htk,hlt,Qc,Qj6,Qm _ _ hmk,hgd,h10,h8,h45,Jx,Jo];refine Qt ?_;simp only[go_sem,hx13,hpw,hiw,hy,htk,hlt,Qc,Qj6,hokM,henM,Qmz,Qaov,hlk,Qm _ _ hmk,Qv2,h10,h8,h45,Jx,Jo];intro H2 h2;have e:(mix (plI l) ns k).set k ((l.idxOf w.toNat:Nat):Int)=mix (plI l) ns (k+1):=hset;rw[e]at h2;have kn:Kn H0 H2 E (([(M,.map ver (mI nl)),(x13,.st [pc,ic,.int .i64 jj,.int .i64 oo,.vsl y 1 0 ns.length])]++R)++[(y,.vec 1 (Qb (mix (plI l) ns (k+1))))]):=by
    have:=kn.stL ([(M,Obj.map ver (mI nl)),(x13,.st [pc,ic,.int .i64 jj,.int .i64 oo,.vsl y 1 0 ns.length])]++R).length (x:=y) (o:=.vec 1 (Qb (mix (plI l) ns k))) (by simp) h2;simpa using this
   refine Qt ?_;simp only[go_sem];refine⟨Qr (by omega) (by omega),?_⟩;show ∃m,_;exact⟨ns.length-(k+1),by omega,k+1,_,rfl,by omega,.mk _ _ _ (by rw[Qc,Qj6]),kn,rfl,rfl,rfl,rfl,rfl,rfl,rfl,rfl,rfl,rfl,rfl,rfl,rfl,rfl,rfl⟩
  ·intro hc;have hge:ns.length≤k:=by simpa using hc
   rw[Qa02 _ _ hge]at hg;refine Qv ?_;simp only[go_sem,X.next];exact hQ _ _ Ln hg kn rfl rfl rfl rfl rfl rfl rfl rfl rfl rfl rfl rfl
def Qbhr (q:CodeD)(l:List Nat)(b:Nat)(p:PhiD)(ml:List (Int×Int)):Prop:=
 ∀w a,(w,a)∈zpA q b p→w.toNat∈l→lkI ((l.idxOf w.toNat:Nat):Int) ml=some a
theorem Qbpi {b:Nat}{p:PhiD}{w a a':Int}(h:(w,a)∈zpA q b p)(h':(w,a')∈zpA q b p):a=a':=by
 obtain⟨i,hi,e⟩:=Jc.1 h;obtain⟨j,hj,e'⟩:=Jc.1 h';simp only[zpA,List.getElem_zip,Jae]at e e';have hl:(zpA q b p).length=min (Q0 (gnx q) (b:Int) q.blocks.length).length p.args.length:=by rw[zpA,List.length_zip]
 have hij:i=j:=(List.getElem_inj (Qaab (gnx q) (b:Int) q.blocks.length)).1 (e.1.trans e'.1.symm);subst hij;exact e.2.symm.trans e'.2
theorem Qa8b {b:Nat}{p:PhiD}{w a:Int}(h:(w,a)∈zpA q b p):w∈Q0 (gnx q) (b:Int) q.blocks.length:=(List.of_mem_zip h).1
theorem Qah4:∀(l aa:List Int),((l.zip aa).map Prod.fst).Sublist l
 |[],_=>by simp
 |x::l,[]=>by simp
 |x::l,a::aa=>by
  rw[List.zip_cons_cons,Jaa];exact List.Sublist.cons_cons _ (Qah4 l aa)
theorem Qazs (q:CodeD)(b:Nat)(p:PhiD):(mI (zpA q b p)).Nodup:=by
 exact Qbjd (Jal (Qah4 _ _) (Qaab (gnx q) (b:Int) q.blocks.length))
structure PhM (q:CodeD)(l:List Nat)(b:Nat)(phs:List PhiD)(ms:List PMap):Prop where
 len:ms.length=phs.length
 f:∀k (h1:k<ms.length) (h2:k<phs.length),Qbhr q l b phs[k] (ms[k]).l
theorem PhM.nil (b:Nat):PhM q l b [] []:=⟨rfl,fun k h1=>by simp at h1⟩
theorem PhM.snoc {b:Nat}{phs:List PhiD}{ms:List PMap}{p:PhiD}{m:PMap}(h:PhM q l b phs ms)(hm:Qbhr q l b p m.l):PhM q l b (phs++[p]) (ms++[m]):=by
 have hl:=h.len;refine⟨by simp[hl],fun k h1 h2=>?_⟩;by_cases hk:k<ms.length
 ·rw[List.getElem_append_left hk,List.getElem_append_left (by omega)];exact h.f k hk (by omega)
 ·have hke:k=ms.length:=by simp at h1;omega
  subst hke;have e1:(ms++[m])[ms.length]=m:=by simp
  have e2:(phs++[p])[ms.length]'h2=p:=by rw[List.getElem_append_right (by omega)];simp[hl]
  rw[e1,e2];exact hm
structure PkM (q:CodeD)(l:List Nat)(i:Nat)(ss:List PSl):Prop where
 n:ss.length=l.length
 m:∀r (h:r<ss.length),r<i→PhM q l (l.getD r 0) (Q4 q (l.getD r 0)).phis (ss[r]).ms
 z:∀r (h:r<ss.length),i≤r→(ss[r]).ms=[]
 ok:∀s∈ss,s.ok
set_option maxHeartbeats 4000000 in
theorem Qbkc {Q:X→Env→Heap→Prop}{e:Env}{M Mb M2 ver vb i b L9 x13 pz:Nat}{nl:List (Int×Int)}{p:PhiD}{a2 a4 a8 a9 a45 a77:C}{n78 k79:Int}{R:List (Nat×Obj)}
  (hN:NowOk l l.length nl) (hzl:(zpA q b p).length≤100000)
  (kn:Kn H0 H E ([(M,.map ver (mI nl)),(Mb,.map vb (mI (zpA q b p)))]++(R++[(M2,.map 0 (mI []))])))
  (l2:lk 2 e=.c a2) (l4:lk 4 e=.c a4) (l5:lk 5 e=.c (.mp M)) (l8:lk 8 e=.c a8) (l9:lk 9 e=.c a9) (l10:lk 10 e=.c (.vsl pz 1 0 L9)) (l11:lk 11 e=.c (.int .i64 i)) (l13:lk 13 e=.c (.ptr x13 0))
  (l17:lk 17 e=.c (.mp Mb)) (l18:lk 18 e=.c (.mp M2)) (l45:lk 45 e=.c a45) (l46:lk 46 e=.c (.int .i64 L9)) (l47:lk 47 e=.c (.int .i64 i)) (l77:lk 77 e=.c a77) (l78:lk 78 e=.c (.int .i64 n78)) (l79:lk 79 e=.c (.int .i64 k79))
  (hQ:∀(e:Env) (H':Heap) (ml:List (Int×Int)) (v2:Nat),Qbhr q l b p ml→Kn H0 H' E ([(M,.map ver (mI nl)),(Mb,.map vb (mI (zpA q b p)))]++(R++[(M2,.map v2 (mI ml))]))→
   lk 2 e=.c a2→lk 4 e=.c a4→lk 5 e=.c (.mp M)→lk 8 e=.c a8→lk 9 e=.c a9→lk 10 e=.c (.vsl pz 1 0 L9)→lk 11 e=.c (.int .i64 i)→lk 13 e=.c (.ptr x13 0)→lk 18 e=.c (.mp M2)→
   lk 45 e=.c a45→lk 46 e=.c (.int .i64 L9)→lk 47 e=.c (.int .i64 i)→lk 77 e=.c a77→lk 78 e=.c (.int .i64 n78)→lk 79 e=.c (.int .i64 k79)→Qae prog Qye Q e H') :
  Qae prog Qyf Q e H:=by
 have hMb:=kn.l 1 rfl;refine Q5 ?_;refine Qa ?_;simp only[go_sem,l2,l4,l5,l8,l9,l10,l11,l13,l17,l18,l45,l46,l47,l77,l78,l79,hMb];refine⟨Qazs q b p,fun it hit H1 h1=>?_⟩;have kn:=kn.al hit h1;refine Qh (Qf (Qw (fun m e1 H1=>∃(left:List (C×V)) (cur:Option (C×V)) (ml:List (Int×Int)) (v2:Nat),m=left.length∧left.Nodup∧(∀y∈left,y∈mI (zpA q b p))∧ml.length+left.length≤(zpA q b p).length∧
  (∀w a,(w,a)∈zpA q b p→(C.int .i64 w,V.c (.int .i64 a))∈left∨(w.toNat∈l→lkI ((l.idxOf w.toNat:Nat):Int) ml=some a))∧
  Kn H0 H1 E (([(M,.map ver (mI nl)),(Mb,.map vb (mI (zpA q b p)))]++(R++[(M2,.map v2 (mI ml))]))++[(it,.iter (some (Mb,vb)) left cur)])∧
  lk 2 e1=.c a2∧lk 4 e1=.c a4∧lk 5 e1=.c (.mp M)∧lk 8 e1=.c a8∧lk 9 e1=.c a9∧lk 10 e1=.c (.vsl pz 1 0 L9)∧lk 11 e1=.c (.int .i64 i)∧lk 13 e1=.c (.ptr x13 0)∧lk 18 e1=.c (.mp M2)∧
  lk 45 e1=.c a45∧lk 46 e1=.c (.int .i64 L9)∧lk 47 e1=.c (.int .i64 i)∧lk 77 e1=.c a77∧lk 78 e1=.c (.int .i64 n78)∧lk 79 e1=.c (.int .i64 k79)∧lk 85 e1=.c (.itr it)) (mI (zpA q b p)).length ?_ ?_))
 ·refine⟨mI (zpA q b p),none,[],0,rfl,Qazs q b p,fun y h=>h,by rw[Qa66];simp,fun w a h=>.inl (Jt.2 ⟨(w,a),h,rfl⟩),kn,rfl,rfl,rfl,rfl,rfl,rfl,rfl,rfl,rfl,rfl,rfl,rfl,rfl,rfl,rfl,rfl⟩
 ·clear kn l2 l4 l5 l8 l9 l10 l11 l13 l17 l18 l45 l46 l47 l77 l78 l79 hMb hit h1;rintro m e1 H2 ⟨left,cur,ml,v2,rfl,hlnd,hsub,hlen,hall,kn,l2,l4,l5,l8,l9,l10,l11,l13,l18,l45,l46,l47,l77,l78,l79,l85⟩;have hMb:=kn.l 1 rfl;have hM:=kn.l 0 rfl;have hit:=(kn.get (it,.iter (some (Mb,vb)) left cur) (by simp)).1;simp only[]at hit;refine Qa ?_;simp only[go_sem,l2,l4,l5,l8,l9,l10,l11,l13,l18,l45,l46,l47,l77,l78,l79,l85,hit,hMb];refine⟨⟨_,rfl⟩,fun hnil=>?_,fun y left' hy hl' hnd' hlen' H3 h3=>?_⟩
  ·subst hnil;simp only[go_sem,Qik,Jh];refine Qh (Qe rfl (fun h=>by simp at h) fun _=>?_);refine Qv ?_;simp only[go_sem,X.next];exact hQ _ _ ml v2 (fun w a h hm=>((hall w a h).resolve_left (by simp)) hm) kn.drop l2 l4 l5 l8 l9 l10 l11 l13 l18 l45 l46 l47 l77 l78 l79
  ·obtain⟨⟨w,a⟩,hz,rfl⟩:=Jt.1 (hsub y hy);have hw0:0≤w:=by obtain⟨j,_,_,e⟩:=preds_mem.1 (Qa8b hz);omega
   have hLl:(([(M,Obj.map ver (mI nl)),(Mb,Obj.map vb (mI (zpA q b p)))]++(R++[(M2,Obj.map v2 (mI ml))]))++[(it,Obj.iter (some (Mb,vb)) left cur)])[([(M,Obj.map ver (mI nl)),(Mb,Obj.map vb (mI (zpA q b p)))]++(R++[(M2,Obj.map v2 (mI ml))])).length]? = some (it,Obj.iter (some (Mb,vb)) left cur):=by simp
   have kn:=kn.stL _ hLl h3;have kn:Kn H0 H3 E (([(M,.map ver (mI nl)),(Mb,.map vb (mI (zpA q b p)))]++(R++[(M2,.map v2 (mI ml))]))++[(it,.iter (some (Mb,vb)) left' (some (C.int .i64 w,V.c (.int .i64 a))))]):=by simpa using kn
   have hMb:=kn.l 1 rfl;have hM:=kn.l 0 rfl;have hit:=(kn.get (it,.iter (some (Mb,vb)) left' (some (C.int .i64 w,V.c (.int .i64 a)))) (by simp)).1;have hokM:Qwe H3 (.mp M)=True:=by simp only[Qwe,hM]
   have henM:Qaf H3 (.mp M)=mI nl:=by simp only[Qaf,hM]
   simp only[go_sem,l2,l4,l5,l8,l9,l10,l11,l13,l18,l45,l46,l47,l77,l78,l79,l85,Qik,Jh];refine Qh (Qe rfl (fun _=>?_) fun h=>by simp at h);refine Qi ?_;try simp only[go_sem]
   refine Qf ?_;refine Qa ?_;simp only[go_sem,hit,hMb,Qs0,Jh,Jn];refine⟨⟨_,rfl⟩,?_⟩;by_cases hwm:w.toNat∈l
   ·have hlk:=hN.at hw0 hwm;refine Qa ?_;simp only[go_sem,hokM,henM,Qmz,Qaov,Qatl,hlk,Option.isSome_some,Jh,Jn];refine Qa ?_;simp only[go_sem];refine Qe rfl (fun _=>?_) (fun h=>by simp at h);have hM2:=(kn.get (M2,.map v2 (mI ml)) (by simp)).1;refine Qt ?_;simp only[go_sem,hM2,Qmz,Qa66,Qass];refine⟨by simp only[LIM];omega,fun H4 h4=>?_⟩;have kn:Kn H0 H3 E ([(M2,.map v2 (mI ml))]++([(M,.map ver (mI nl)),(Mb,.map vb (mI (zpA q b p)))]++(R++[(it,.iter (some (Mb,vb)) left' (some (C.int .i64 w,V.c (.int .i64 a))))]))):=kn.perm (Qj fun f hf h0 hc hp=>by simp only[hf];omega);have kn:=kn.stL 0 rfl h4;have kn:Kn H0 H4 E (([(M,.map ver (mI nl)),(Mb,.map vb (mI (zpA q b p)))]++(R++[(M2,.map (v2+1) (mI (upI ((l.idxOf w.toNat:Nat):Int) a ml)))]))++[(it,.iter (some (Mb,vb)) left' (some (C.int .i64 w,V.c (.int .i64 a))))]):=kn.perm (Qj fun f hf h0 hc hp=>by
     show f ([(M2,_)]++([(M,_),(Mb,_)]++(R++[(it,_)])))=_;simp only[hf];omega)
    show ∃m,_;refine⟨left'.length,by omega,left',_,upI ((l.idxOf w.toNat:Nat):Int) a ml,v2+1,rfl,hnd',fun y h=>hsub y ((hl' y).1 h).1,by have:=Qa6i ((l.idxOf w.toNat:Nat):Int) a ml;omega,fun w' a' h'=>?_,kn,rfl,rfl,rfl,rfl,rfl,rfl,rfl,rfl,rfl,rfl,rfl,rfl,rfl,rfl,rfl,rfl⟩;by_cases hww:w'=w
    ·subst hww;have:=Qbpi hz h';subst this;exact .inr fun _=>by rw[Qbja,if_pos rfl]
    ·rcases hall w' a' h' with h|h
     ·refine .inl ((hl' _).2 ⟨h,fun e=>hww ?_⟩);simp only[Jae,C.int.injEq,true_and]at e;exact e.1
     ·refine .inr fun hm=>?_;have hw'0:0≤w':=(by obtain⟨j,_,_,e⟩:=preds_mem.1 (Qa8b h');omega);rw[Qbja,if_neg (fun e=>hww ?_),h hm];have:=Qbdj hm hwm (by omega);omega
   ·have hlk:=hN.no hwm;refine Qa ?_;simp only[go_sem,hokM,henM,Qmz,Qaov,Qatl,hlk,Option.isSome_none,Jh,Jn];refine Qa ?_;simp only[go_sem];refine Qe rfl (fun h=>by simp at h) fun _=>?_;refine Qi ?_;try simp only[go_sem]
    show ∃m,_;refine⟨left'.length,by omega,left',_,ml,v2,rfl,hnd',fun y h=>hsub y ((hl' y).1 h).1,by omega,fun w' a' h'=>?_,kn,rfl,rfl,rfl,rfl,rfl,rfl,rfl,rfl,rfl,rfl,rfl,rfl,rfl,rfl,rfl,rfl⟩;by_cases hww:w'=w
    ·subst hww;exact .inr fun hm=>absurd hm hwm
    ·rcases hall w' a' h' with h|h
     ·refine .inl ((hl' _).2 ⟨h,fun e=>hww ?_⟩);simp only[Jae,C.int.injEq,true_and]at e;exact e.1
     ·exact .inr h
end Go.AE.Y
namespace Go.AE.Y
attribute [local go_sem] cond_true cond_false Bool.not_true Bool.not_false
open Go.Proofs.Tryz
variable {H H0:Heap}{K:V→Heap→Prop}{E L:List (Nat×Obj)}{q:CodeD}
def Qbp5 (e:Nat×Int):List C:=[.sl true 2 [],.sl true 4 [],.int .i64 1,.int .i64 0,.sl true 1 [[.int .i64 e.2]]]
def blkN (q:CodeD)(s j:Nat):BlkD:=⟨(Q4 q j).phis,(Q4 q j).ins,(Q4 q j).jump,(Q4 q j).on,stX (gnx q) q.blocks.length s j⟩
def nwL (q:CodeD):List (Nat×Int):=newL (gnx q) q.blocks.length q.blocks.length
def mpF (q:CodeD)(s r:Nat):List (List (Int×Int)):=if r<q.blocks.length then (Q4 q r).phis.map fun p=>mpS q r p s else []
structure SpI (q:CodeD)(s:Nat)(ks:List NBlk)(ss:List PSl):Prop where
 kn:ks.length=q.blocks.length
 ky:∀j (h:j<ks.length),ks[j].y=blkN q s j
 ko:∀k∈ks,k.ok
 sl:ss.length=q.blocks.length+s
 sf:PInv (mpF q s) ss
def rwN (q:CodeD)(s:Nat)(ks:List NBlk):List (List C):=ks.map NBlk.row++((nwL q).take s).map Qbp5
theorem Qbe8 {ms:List PMap}{j:Nat}(hj:j<ms.length):(ms.flatMap PMap.lg).Perm ([(ms[j].m,.map ms[j].ver (mI ms[j].l))]++(ms.eraseIdx j).flatMap PMap.lg):=Qct hj
def mvM (k b:Nat)(p:PMap):PMap:=⟨p.m,p.ver+1+1,deI (b:Int) (upI (k:Int) ((lkI (b:Int) p.l).getD 0) p.l)⟩
theorem SpI.step {s b:Nat}{v:Int}{ks:List NBlk}{ss:List PSl}{k:NBlk}{sv s0:PSl}(h:SpI q s ks ss)(F:SpF (gnx q) q.blocks.length)(he:(nwL q)[s]? = some (b,v))
  (hky:k.y=blkN q (s+1) b) (hko:k.ok) (hv:v.toNat<ss.length) (hs0:ss[v.toNat]=s0) (hsv:sv.ms=s0.ms.map (mvM (q.blocks.length+s) b)) (hsvo:sv.ok) :
  SpI q (s+1) (ks.set b k) ((ss++[(⟨[],.sl true 1 [],[]⟩:PSl)]).set v.toNat sv):=by
 obtain⟨hb,hvm,_⟩:=mem_newL.1 (List.mem_of_getElem? he);have hvr:=F.rng b hb v hvm;refine⟨by rw[Jq];exact h.kn,fun j hj=>?_,fun w hw=>?_,by rw[Jq,Jz,h.sl];simp;omega,⟨fun r hr=>?_,fun w hw=>?_⟩⟩
 ·have hj':j<ks.length:=by simpa using hj
  rw[Jy];split
  ·rename_i e;subst e;exact hky
  ·rename_i e
   rw[h.ky j hj',blkN,blkN,Qbg8 F he (fun hh=>e hh.symm)]
 ·rcases Jv hw with hw|rfl
  ·exact h.ko w hw
  ·exact hko
 ·have hr':r<ss.length+1:=by simpa using hr
  rw[Jy];split
  ·rename_i e
   have hrn:r<q.blocks.length:=by omega
   have h1:=h.sf.f v.toNat hv;rw[hs0,e,mpF,if_pos hrn]at h1;rw[hsv,J5,mpF,if_pos hrn];have h2:(s0.ms.map PMap.l).map (fun l=>deI (b:Int) (upI ((q.blocks.length+s:Nat):Int) ((lkI (b:Int) l).getD 0) l))=(Q4 q r).phis.map fun p=>mpS q r p (s+1):=by
    rw[h1,J5];refine J4 fun p _=>?_;have he2:(newL (gnx q) q.blocks.length q.blocks.length)[s]? = some (b,v):=he;simp only[Function.comp_apply];rw[mpS,he2];simp only;rw[if_pos (by omega)]
   rw[←h2,J5];rfl
  ·rename_i e
   by_cases hrs:r<ss.length
   ·rw[List.getElem_append_left hrs,h.sf.f r hrs,mpF,mpF];by_cases hrn:r<q.blocks.length
    ·rw[if_pos hrn,if_pos hrn];refine J4 fun p _=>?_;have he2:(newL (gnx q) q.blocks.length q.blocks.length)[s]? = some (b,v):=he;rw[mpS,he2];simp only;rw[if_neg (by omega)]
    ·rw[if_neg hrn,if_neg hrn]
   ·have:r=ss.length:=(by omega);subst this;have hsl:=h.sl;rw[List.getElem_append_right (Jo _),mpF,if_neg (by omega)];simp
 ·rcases Jv hw with hw|rfl
  ·rcases Jai.1 hw with hw|hw
   ·exact h.sf.ok w hw
   ·simp only[Jb]at hw;subst hw;exact .nil 1
  ·exact hsvo
end Go.AE.Y
namespace Go.AE.Y
attribute [local go_sem] cond_true cond_false Bool.not_true Bool.not_false
open Go.Proofs.Tryz
variable {H H0:Heap}{K:V→Heap→Prop}{E L:List (Nat×Obj)}{q:CodeD}{l:List Nat}
structure PkP (q:CodeD)(l:List Nat)(i b k:Nat)(ss:List PSl):Prop where
 n:ss.length=l.length
 m:∀r (h:r<ss.length),r<i→PhM q l (l.getD r 0) (Q4 q (l.getD r 0)).phis (ss[r]).ms
 c:∀(h:i<ss.length),PhM q l b ((Q4 q b).phis.take k) (ss[i]).ms
 z:∀r (h:r<ss.length),i<r→(ss[r]).ms=[]
 ok:∀s∈ss,s.ok
theorem PkM.start {i b:Nat}{ss:List PSl}(h:PkM q l i ss):PkP q l i b 0 ss:=
 ⟨h.n,h.m,fun hi=>by rw[h.z i hi (Jo _),List.take_zero];exact .nil b,fun r hr hir=>h.z r hr (by omega),h.ok⟩
theorem PkP.fin {i b:Nat}{ss:List PSl}(h:PkP q l i b (Q4 q b).phis.length ss)(hb:l.getD i 0=b):PkM q l (i+1) ss:=
 ⟨h.n,fun r hr hri=>by
  by_cases e:r=i
  ·subst e;rw[hb];have:=h.c hr;rw[J8]at this;exact this
  ·exact h.m r hr (by omega),fun r hr hri=>h.z r hr (by omega),h.ok⟩
theorem PkP.step {i b k:Nat}{ss:List PSl}(h:PkP q l i b k ss)(hi:i<ss.length)(hk:k<(Q4 q b).phis.length){s':PSl}{m':PMap}(hs:s'.ms=(ss[i]).ms++[m'])(hso:s'.ok)(hm:Qbhr q l b (Q4 q b).phis[k] m'.l) :
  PkP q l i b (k+1) (ss.set i s'):=by
 refine⟨by rw[Jq];exact h.n,fun r hr hri=>?_,fun hr=>?_,fun r hr hri=>?_,fun w hw=>?_⟩
 ·have hr':r<ss.length:=by simpa using hr
  rw[Jy,if_neg (by omega)];exact h.m r hr' hri
 ·rw[Jy,if_pos rfl,hs,Jw hk];exact (h.c hi).snoc hm
 ·have hr':r<ss.length:=by simpa using hr
  rw[Jy,if_neg (by omega)];exact h.z r hr' hri
 ·rcases Jv hw with hw|rfl
  ·exact h.ok w hw
  ·exact hso
set_option maxHeartbeats 8000000 in
theorem Qbe1 {Q:X→Env→Heap→Prop}{e:Env}{M ver i b x13 pz:Nat}{nl:List (Int×Int)}{os:List PSl}{ss:List PSl}{a2 a4 a8 a9 a45:C}{R:List (Nat×Obj)}
  (ho:q.ok) (hN:NowOk l l.length nl) (hb:b<q.blocks.length) (hi:i<l.length) (hln:l.length≤1000) (hob:l.getD i 0=b)
  (hos:PInv (phT q q.blocks.length) os) (hosl:os.length=q.blocks.length) (hS:PkM q l i ss)
  (kn:Kn H0 H E ([(M,.map ver (mI nl)),(pz,.vec 1 (ss.map PSl.row))]++(psL os++(psL ss++R))))
  (l2:lk 2 e=.c a2) (l4:lk 4 e=.c a4) (l5:lk 5 e=.c (.mp M)) (l8:lk 8 e=.c a8) (l9:lk 9 e=.c a9) (l10:lk 10 e=.c (.vsl pz 1 0 l.length)) (l11:lk 11 e=.c (.int .i64 i)) (l13:lk 13 e=.c (.ptr x13 0))
  (l45:lk 45 e=.c a45) (l46:lk 46 e=.c (.int .i64 l.length)) (l47:lk 47 e=.c (.int .i64 i)) (l77:lk 77 e=.c (os[b]'(by omega)).c) (l78:lk 78 e=.c (.int .i64 (Q4 q b).phis.length)) (l79:lk 79 e=.c (.int .i64 0))
  (hQ:∀(e:Env) (H':Heap) (ss:List PSl),PkM q l (i+1) ss→Kn H0 H' E ([(M,.map ver (mI nl)),(pz,.vec 1 (ss.map PSl.row))]++(psL os++(psL ss++R)))→
   lk 2 e=.c a2→lk 4 e=.c a4→lk 5 e=.c (.mp M)→lk 8 e=.c a8→lk 9 e=.c a9→lk 10 e=.c (.vsl pz 1 0 l.length)→lk 11 e=.c (.int .i64 i)→lk 13 e=.c (.ptr x13 0)→
   lk 45 e=.c a45→lk 46 e=.c (.int .i64 l.length)→lk 47 e=.c (.int .i64 i)→Q .nrm e H') :
  Qae prog (.block 6 (.loop Qs4)) Q e H:=by
 have hil:=ho.il b hb;have hb1:=ho.b1;rw[←Qap hb]at hil;have hbo:b<os.length:=by omega
 obtain⟨so,hso⟩:∃s,os[b]=s:=⟨_,rfl⟩;rw[hso]at l77;have hsoo:so.ok:=by rw[←hso];exact hos.ok _ (Jd hbo)
 have hsof:=hos.f b hbo;rw[hso,phT,if_pos hb]at hsof;have hsol:so.ms.length=(Q4 q b).phis.length:=by have:=congrArg List.length hsof;simpa using this
 have hsow:=Gr.isOw hsoo;refine Qf (Qw (fun m e1 H1=>∃(k:Nat) (ss:List PSl),m=(Q4 q b).phis.length-k∧k≤(Q4 q b).phis.length∧PkP q l i b k ss∧
  Kn H0 H1 E ([(M,.map ver (mI nl)),(pz,.vec 1 (ss.map PSl.row))]++(psL os++(psL ss++R)))∧
  lk 2 e1=.c a2∧lk 4 e1=.c a4∧lk 5 e1=.c (.mp M)∧lk 8 e1=.c a8∧lk 9 e1=.c a9∧lk 10 e1=.c (.vsl pz 1 0 l.length)∧lk 11 e1=.c (.int .i64 i)∧lk 13 e1=.c (.ptr x13 0)∧
  lk 45 e1=.c a45∧lk 46 e1=.c (.int .i64 l.length)∧lk 47 e1=.c (.int .i64 i)∧lk 77 e1=.c so.c∧lk 78 e1=.c (.int .i64 (Q4 q b).phis.length)∧lk 79 e1=.c (.int .i64 k)) (Q4 q b).phis.length ?_ ?_)
 ·exact⟨0,ss,by omega,by omega,hS.start,kn,l2,l4,l5,l8,l9,l10,l11,l13,l45,l46,l47,l77,l78,l79⟩
 ·clear kn l2 l4 l5 l8 l9 l10 l11 l13 l45 l46 l47 l77 l78 l79 hS;clear ss;rintro m e1 H1 ⟨k,ss,hm,hk,hP,kn,l2,l4,l5,l8,l9,l10,l11,l13,l45,l46,l47,l77,l78,l79⟩;refine Qa ?_;simp only[go_sem,l2,l4,l5,l8,l9,l10,l11,l13,l45,l46,l47,l77,l78,l79,hsow];refine Qh (Qe rfl ?_ ?_)
  ·intro hc;have hlt:k<(Q4 q b).phis.length:=by simpa using hc
   obtain⟨p,hp⟩:∃p,(Q4 q b).phis[k]=p:=⟨_,rfl⟩;have hksm:k<so.ms.length:=by omega
   obtain⟨pm,hpm⟩:∃pm,so.ms[k]=pm:=⟨_,rfl⟩;have hpml:pm.l=zpA q b p:=by
    have h1:(so.ms.map PMap.l)[k]? = some pm.l:=(by simp[hksm,hpm]);rw[hsof]at h1;simp only[J1,Jk hlt,hp,Jab]at h1;exact (J6 h1).symm
   obtain⟨zs,hzs,hsg⟩:∃z,so.c=.vsl z 1 0 so.ms.length∧so.g=[(z,.vec 1 (Qd9 so.ms))]:=by
    rcases hsoo with ⟨_,h,_⟩|⟨z,h1,h2⟩
    ·have:=congrArg List.length h;rw[Qb7]at this;simp only[Ji]at this;omega
    ·exact⟨z,by rw[h1,Qb7],h2⟩
   have hsl:=hP.n;have his:i<ss.length:=by omega
   obtain⟨s,hs⟩:∃s,ss[i]=s:=⟨_,rfl⟩;have hsok:s.ok:=by rw[←hs];exact hP.ok _ (Jd his)
   have hsc:=hP.c his;rw[hs]at hsc;have hsm:s.ms.length=k:=by have:=hsc.len;rw[List.length_take]at this;omega
   have hsw:=Gr.isOw hsok;have hmpg:(Qd9 so.ms).getD k []=[.mp pm.m]:=by rw[Qany _ _ hksm,hpm]
   have hmpt:(Qd9 so.ms).take so.ms.length=Qd9 so.ms:=Jr (by rw[Qb7];omega);have hosp:=Q04 hbo hso;have hmsp:=Qbe8 hksm;rw[hpm,hpml]at hmsp;have hsp:=Q04 his hs;have hzsm:(zs,Obj.vec 1 (Qd9 so.ms))∈psL os:=J3.2 ⟨so,by rw[←hso];exact Jd hbo,Jp _ (by rw[hsg];simp)⟩;have hzv:=(kn.get (zs,.vec 1 (Qd9 so.ms)) (by simp[hzsm])).1;refine Qi ?_;try simp only[go_sem]
   refine Qh (Qf ?_);refine Qa ?_;simp only[go_sem,l2,l4,l5,l8,l9,l10,l11,l13,l45,l46,l47,l77,l78,l79,hzs,hzv,Qb7,hmpt,hksm,hmpg,Jx,Jo];refine Qa ?_;simp only[go_sem];intro M2 hM2 H2 h2;have kn:=kn.al hM2 h2;simp only[go_sem,Qsz];obtain⟨RR,hRR⟩:∃RR,[(pz,Obj.vec 1 (ss.map PSl.row))]++((psL (os.eraseIdx b)++((so.ms.eraseIdx k).flatMap PMap.lg++so.g))++(psL ss++R))=RR:=⟨_,rfl⟩;have kn:Kn H0 H2 E ([(M,.map ver (mI nl)),(pm.m,.map pm.ver (mI (zpA q b p)))]++(RR++[(M2,.map 0 (mI []))])):=kn.perm (Qj fun f hf h0 hc hp=>by
    have e2:∀(a b:Nat×Obj),f [a,b]=f [a]+f [b]:=fun a b=>hc a [b];have h1:=hp _ _ hosp;have h2:=hp _ _ hmsp;rw[PSl.lg]at h1;rw[←hRR];show f ([(M,_),(pz,_)]++(psL os++(psL ss++R))++[(M2,.map 0 [])])=_;simp only[hf,e2]at h1 h2⊢;have:mI []=[]:=rfl;rw[this];omega)
   have hzl:(zpA q b p).length≤100000:=by
    rw[zpA,List.length_zip];have:=Qb5 (gnx q) (b:Int) q.blocks.length;omega
   refine Qbkc hN hzl kn rfl rfl rfl rfl rfl rfl rfl rfl rfl rfl rfl rfl rfl rfl rfl rfl fun e3 H3 ml v2 hml kn l2 l4 l5 l8 l9 l10 l11 l13 l18 l45 l46 l47 l77 l78 l79=>?_;have kn:Kn H0 H3 E (([(pz,.vec 1 (ss.map PSl.row)),(M,.map ver (mI nl))]++([(M2,.map v2 (mI ml))]++(psL os++((psL (ss.eraseIdx i)++s.ms.flatMap PMap.lg)++R))))++s.g):=kn.perm (Qj fun f hf h0 hc hp=>by
    have e2:∀(a b:Nat×Obj),f [a,b]=f [a]+f [b]:=fun a b=>hc a [b];have h1:=hp _ _ hosp;have h2:=hp _ _ hmsp;have h3:=hp _ _ hsp;rw[PSl.lg]at h1 h3;rw[←hRR];simp only[hf,e2]at h1 h2 h3⊢;omega)
   have hrl:(ss.map PSl.row).length=l.length:=by rw[Jl,hsl]
   have hrt:(ss.map PSl.row).take l.length=ss.map PSl.row:=Jr (by omega);have hsg2:(ss.map PSl.row).getD i []=[s.c]:=by simp[Ja,his,hs,PSl.row]
   have hpz:=kn.l 0 rfl;refine Qt ?_;simp only[go_sem,l2,l4,l5,l8,l9,l10,l11,l13,l18,l45,l46,l47,l77,l78,l79,hpz,hrl,hrt,hi,hsg2,hsw,Jx,Jo];refine kn.growR (new:=[[.mp M2]]) hsok (.mk' _ _ _ _) (by intro r hr;simp only[Jb]at hr;rw[hr];rfl) (by simp only[Qb7,LIM,Jm,Ji];omega) fun t2 g2 H4 hg2 ht2 kn=>?_;have hpz:=kn.l 0 rfl;simp only[go_sem,l2,l4,l5,l8,l9,l10,l11,l13,l18,l45,l46,l47,l77,l78,l79,Qs1,hpz,hrl,hrt,hi,hsg2,hsw,ht2,Jx,Jo];intro H5 h5;obtain⟨s',hs'⟩:∃s':PSl,s'=⟨s.ms++[⟨M2,v2,ml⟩],t2,g2⟩:=⟨_,rfl⟩;have hs'ok:s'.ok:=by
    rw[hs'];show Gr g2 1 (Qd9 (s.ms++[⟨M2,v2,ml⟩])) t2;have e:Qd9 (s.ms++[⟨M2,v2,ml⟩])=Qd9 s.ms++[[.mp M2]]:=(by simp[Qd9]);rw[e];exact hg2
   have hset:(ss.map PSl.row).set i [t2]=(ss.set i s').map PSl.row:=by rw[List.map_set,hs'];rfl
   rw[hset]at h5;have kn:=kn.stL 0 rfl h5;have hps2:=Qbe9 (s:=s') his;have kn:Kn H0 H5 E ([(M,.map ver (mI nl)),(pz,.vec 1 ((ss.set i s').map PSl.row))]++(psL os++(psL (ss.set i s')++R))):=kn.perm (Qj fun f hf h0 hc hp=>by
    have e2:∀(a b:Nat×Obj),f [a,b]=f [a]+f [b]:=fun a b=>hc a [b];have:=hp _ _ hps2;have es:s'.lg=(s.ms.flatMap PMap.lg++[(M2,.map v2 (mI ml))])++g2:=(by rw[hs',PSl.lg,Jak];simp[PMap.lg]);rw[es]at this;show f ([(pz,_),(M,_)]++([(M2,_)]++(psL os++((psL (ss.eraseIdx i)++s.ms.flatMap PMap.lg)++R)))++g2)=_;simp only[hf,e2]at this⊢;omega)
   refine Qt ?_;simp only[go_sem];refine⟨Qr (by omega) (by omega),?_⟩;show ∃m,_;refine⟨(Q4 q b).phis.length-(k+1),by omega,k+1,ss.set i s',rfl,by omega,hP.step his hlt (m':=⟨M2,v2,ml⟩) (by rw[hs,hs']) hs'ok (by rw[hp];exact hml),kn,rfl,rfl,rfl,rfl,rfl,rfl,rfl,rfl,rfl,rfl,rfl,?_,rfl,rfl⟩
   first|rfl|exact congrArg V.c hzs.symm
  ·intro hc;have hke:k=(Q4 q b).phis.length:=by have:(Q4 q b).phis.length≤k:=(by simpa using hc);omega
   subst hke;refine Qv ?_;simp only[go_sem,X.next];exact hQ _ _ ss (hP.fin hob) kn rfl rfl rfl rfl rfl rfl rfl rfl rfl rfl rfl
end Go.AE.Y
namespace Go.AE.Y
attribute [local go_sem] cond_true cond_false Bool.not_true Bool.not_false
open Go.Proofs.Tryz
variable {H H0:Heap}{K:V→Heap→Prop}{E L:List (Nat×Obj)}{q:CodeD}
def spO (x2 x3:Nat)(q:CodeD)(bc:C):List (Nat×Obj):=[(x2,.st [.int .i64 0,.int .i64 0,.sl true 5 []]),(x3,.st [.int .i64 q.params,.int .i64 q.regs,bc])]
def spY (q:CodeD)(j:Nat):BlkD:=if j<q.blocks.length then blkN q (nwL q).length j else match (nwL q)[j-q.blocks.length]? with
 |some e=>goB e.2
 |none=>⟨[],[],0,0,[]⟩
def spG (q:CodeD)(r:Nat)(p:PhiD)(w:Int):Int:=(lkI w (mpS q r p (nwL q).length)).getD 0
def ksN (q:CodeD)(ks:List NBlk):List KBlk:=ks.map (fun k=>⟨k.y,k.pc,k.pl⟩)++(nwL q).map fun e=>⟨goB e.2,.sl true 2 [],[]⟩
theorem Qa7b:∀(ks:List NBlk),(ks.flatMap NBlk.lg).Perm (ks.flatMap NBlk.pl++ks.flatMap NBlk.nl)
 |[]=>.refl _
 |k::ks=>by
  have ih:=Qa7b ks;refine Qj fun f hf h0 hc hp=>?_;have:=hp _ _ ih;simp only[Jan,NBlk.lg,hf]at this⊢;omega
end Go.AE.Y
namespace Go.AE.Y
attribute [local go_sem] cond_true cond_false Bool.not_true Bool.not_false
open Go.Proofs.Tryz
variable {H H0:Heap}{K:V→Heap→Prop}{E L:List (Nat×Obj)}{q:CodeD}{l:List Nat}
def pkG (q:CodeD)(l:List Nat)(j:Nat)(p:PhiD)(w:Int):Int:=p.args.getD ((Q0 (gnx q) ((l.getD j 0:Nat):Int) q.blocks.length).idxOf ((l.getD w.toNat 0:Nat):Int)) 0
def pkYj (q:CodeD)(l:List Nat)(j:Nat):BlkD:=pkY q (Q21 q.blocks.length l) (l.getD j 0)
theorem Qbe4 (ho:q.ok)(hp:Pk q l){j:Nat}(hj:j<l.length):(pkYj q l j).next=pkN q (Q21 q.blocks.length l) l j:=by
 rw[Qxk hj,pkYj,(hp.get hj).1]
theorem Qbkf (q:CodeD)(l:List Nat)(j:Nat):stlY (pkN q (Q21 q.blocks.length l) l) l.length (pkG q l) j (pkYj q l j)=pkX q (Q21 q.blocks.length l) l j:=rfl
theorem Qbqt (ho:q.ok)(hp:Pk q l){r j':Nat}(hrl:r<l.length)(hj':j'<l.length){p:PhiD}(hm:p∈(Q4 q (l.getD r 0)).phis)(hmo:((l[j']:Nat):Int)∈Q0 (gnx q) ((l.getD r 0:Nat):Int) q.blocks.length) :
  (((l[j']:Nat):Int),pkG q l r p (j':Int))∈zpA q (l.getD r 0) p:=by
 obtain⟨e1,_,e3⟩:=hp.get hrl;have e3':l.getD r 0<q.blocks.length:=by rw[e1];exact e3
 rw[Qap e3']at hm;have hal:=(ho.bs _ e3').pal p hm;have hix:=Jg hmo;have hja:(Q0 (gnx q) ((l.getD r 0:Nat):Int) q.blocks.length).idxOf ((l[j']:Nat):Int)<p.args.length:=by omega
 refine Jc.2 ⟨(Q0 (gnx q) ((l.getD r 0:Nat):Int) q.blocks.length).idxOf ((l[j']:Nat):Int),by rw[zpA,List.length_zip];omega,?_⟩;simp only[zpA,List.getElem_zip,Jae];refine⟨List.getElem_idxOf hix,?_⟩;have hgd:∀(L:List Int) (i:Nat) (h:i<L.length),L[i]=L.getD i 0:=fun L i h=>by simp[Ja,h]
 rw[pkG,J0,(hp.get hj').1];exact hgd _ _ hja
theorem Qbqr (ho:q.ok)(hp:Pk q l)(hn:l.Nodup){ss:List PSl}(h:PkM q l l.length ss):PTel (pkN q (Q21 q.blocks.length l) l) l.length (pkG q l) (pkYj q l) ss:=by
 refine⟨fun r hr=>(h.m r hr (by rw[←h.n];exact hr)).len,fun r hr i h1 h2 w hw=>?_,h.ok⟩;have hrl:r<l.length:=by rw[←h.n];exact hr
 have hM:=(h.m r hr hrl).f i h1 h2;obtain⟨j',hj',rfl,hmo⟩:=hp.preds ho (Qh4 hp.lt) hrl hw;rw[←(hp.get hrl).1]at hmo;have hz:=Qbqt ho hp hrl hj' (Jd h2) hmo;have:=hM _ _ hz (by rw[J0];exact Jd hj');rw[J0,List.Nodup.idxOf_getElem hn j' hj']at this;rw[this];rfl
def nK (k:NBlk):KBlk:=⟨k.y,k.pc,k.pl⟩
theorem Qbr5 (ks:List NBlk):(ks.map nK).flatMap KBlk.pl=ks.flatMap NBlk.pl:=by rw[List.flatMap_map];rfl
set_option maxHeartbeats 8000000 in
theorem Qbkb {Q:X→Env→Heap→Prop}{e:Env}{x4 x9 pz:Nat}{ks:List NBlk}{ss:List PSl}{bc:C}{bl:List (Nat×Obj)}(ho:q.ok)(hp:Pk q l)(hn:l.Nodup)
  (hkl:ks.length=l.length) (hky:∀j (h:j<ks.length),ks[j].y=pkYj q l j) (hko:∀k∈ks,k.ok) (hS:PkM q l l.length ss) (hgb:Gr bl 5 (ks.map NBlk.row) bc)
  (kn:Kn H0 H [] ([(x4,.st [.int .i64 0,.int .i64 0,.sl true 5 []]),(x9,.st [.int .i64 q.params,.int .i64 q.regs,bc]),(pz,.vec 1 (ss.map PSl.row))]++((psL ss++ks.flatMap NBlk.lg)++bl)))
  (l4:lk 4 e=.c (.ptr x4 0)) (l9:lk 9 e=.c (.ptr x9 0)) (l10:lk 10 e=.c (.vsl pz 1 0 l.length))
  (hQ:∀(e:Env) (H':Heap) (ks:List KBlk) (z:Nat),ks.length=(pkE q l).blocks.length→ks.map KBlk.y=(pkE q l).blocks→(∀k∈ks,k.ok)→
   Kn H0 H' [] ([(x4,.st [.int .i64 q.params,.int .i64 q.regs,.vsl z 5 0 (pkE q l).blocks.length]),(z,.vec 5 (ks.map KBlk.row))]++ks.flatMap KBlk.pl)→lk 4 e=.c (.ptr x4 0)→Q .ret e H') :
  Qae prog Qyg Q e H:=by
 have hpn:=hp.n;have hl0:0<l.length:=by
  have:=hp.z
  cases l with
  |nil=>simp at this
  |cons=>simp
 have hND:(pkE q l).blocks.length=l.length:=Qc4 q l;have hrl:(ks.map NBlk.row).length=l.length:=by rw[Jl,hkl]
 have hsl:=hS.n;obtain⟨zb,rfl,rfl⟩:∃z,bc=.vsl z 5 0 l.length∧bl=[(z,.vec 5 (ks.map NBlk.row))]:=by
  rcases hgb with ⟨_,h,_⟩|⟨z,h1,h2⟩
  ·have:=congrArg List.length h;rw[hrl]at this;simp only[Ji]at this;omega
  ·exact⟨z,by rw[h1,hrl],h2⟩
 have hkp:=Qa7b ks;have kn:Kn H0 H [] (([(zb,.vec 5 (ks.map NBlk.row)),(x9,.st [.int .i64 q.params,.int .i64 q.regs,.vsl zb 5 0 l.length]),(pz,.vec 1 (ss.map PSl.row)),(x4,.st [.int .i64 0,.int .i64 0,.sl true 5 []])]++(ks.flatMap NBlk.pl++psL ss))++ks.flatMap NBlk.nl):=kn.perm (Qj fun f hf h0 hc hp=>by
  have e4:∀(a b c d:Nat×Obj),f [a,b,c,d]=f [a]+f [b]+f [c]+f [d]:=fun a b c d=>by rw[hc a [b,c,d],hc b [c,d],hc c [d]];omega
  have e3:∀(a b c:Nat×Obj),f [a,b,c]=f [a]+f [b]+f [c]:=fun a b c=>by rw[hc a [b,c],hc b [c]];omega
  have:=hp _ _ hkp;simp only[hf,e4,e3]at this⊢;omega)
 obtain⟨S,hSL,hSB,hfz,kn⟩:=kn.freeze0;have hz:=hSB (zb,.vec 5 (ks.map NBlk.row)) (by simp);have hrows:FrzR H S (ks.map NBlk.row) ((ks.map nK).map KBlk.row):=by
  rw[J5];refine Qvz ks fun k hk=>?_;have hk2:=hko k hk;refine .cons (.same _ hk2.1.isOw) (.cons (Qg rfl) (.cons (Qg rfl) (.cons (Qg rfl) (.cons ?_ .nil))));exact Gr.frzM hk2.2 (fun p hp=>hSL p (J3.2 ⟨k,hk,hp⟩)) (FrzR.same (Qn _))
 have hno:∀r∈ks.map NBlk.row,Go.AE.noOw r=true:=fun r hr=>by
  obtain⟨k,hk,rfl⟩:=Jt.1 hr;exact NBlk.noOw (hko k hk)
 have hfz2:=hfz.set (o:=.vec 5 ((ks.map nK).map KBlk.row)) hz.2 (by rw[hz.1];exact .vecR hrows hno);have kn:=kn.setL (o':=.vec 5 ((ks.map nK).map KBlk.row)) 0 rfl (by simp);generalize hH2:(H.frz S).set zb (.vec 5 ((ks.map nK).map KBlk.row))=H2 at hfz2 kn;have hpl:=Qbr5 ks;have kn:Kn H0 H2 [] ([(x9,.st [.int .i64 q.params,.int .i64 q.regs,.vsl zb 5 0 l.length]),(zb,.vec 5 ((ks.map nK).map KBlk.row)),(pz,.vec 1 (ss.map PSl.row))]++((ks.map nK).flatMap KBlk.pl++(psL ss++[(x4,.st [.int .i64 0,.int .i64 0,.sl true 5 []])]))):=kn.perm (Qj fun f hf h0 hc hp=>by
  have e4:∀(a b c d:Nat×Obj),f [a,b,c,d]=f [a]+f [b]+f [c]+f [d]:=fun a b c d=>by rw[hc a [b,c,d],hc b [c,d],hc c [d]];omega
  have e3:∀(a b c:Nat×Obj),f [a,b,c]=f [a]+f [b]+f [c]:=fun a b c=>by rw[hc a [b,c],hc b [c]];omega
  rw[hpl];show f ([(zb,_),(x9,_),(pz,_),(x4,_)]++(ks.flatMap NBlk.pl++psL ss))=_;simp only[hf,e4,e3];omega)
 refine Q5 ?_;refine c_gh (Qdr S (Q3j ?_) hfz2) (e':=[(4,.c (.ptr x4 0)),(9,.c (.ptr x9 0)),(10,.c (.vsl pz 1 0 l.length))]) ?_
 ·simp only[Je,l4,l9,l10];exact⟨.c _ _ (.same _ rfl),.c _ _ (.same _ rfl),.c _ _ (.same _ rfl),by simp⟩
 clear hfz hfz2 hSL hSB hz hrows hno hH2;refine Qa ?_;simp only[go_sem];have hst:StS (pkN q (Q21 q.blocks.length l) l) l.length (pkG q l) (pkYj q l) 0 (ks.map nK):=⟨by rw[Jl,hkl],fun j hj=>by
  have hj':j<ks.length:=by simpa using hj
  rw[if_neg (Nat.not_lt_zero j),J7,nK];exact hky j hj',fun k hk=>by
  obtain⟨k',hk',rfl⟩:=Jt.1 hk;exact (hko k' hk').1⟩
 refine Qbll (nx:=pkN q (Q21 q.blocks.length l) l) (N:=l.length) (g:=pkG q l) (Y:=pkYj q l) (by omega) hst (fun j hj=>Qbe4 ho hp hj) (fun j hj=>?_) hsl (Qbqr ho hp hn hS) kn fun ks2 H3 hS2 hkr kn=>?_
 ·obtain⟨e1,_,e3⟩:=hp.get hj;have:=(ho.il _ e3).2;rw[pkYj,pkY,e1,Qap e3];show (q.blocks[l[j]]).phis.length≤100000;omega
 have kn:Kn H0 H3 [] ([(x4,.st [.int .i64 0,.int .i64 0,.sl true 5 []]),(x9,.st [.int .i64 q.params,.int .i64 q.regs,.vsl zb 5 0 l.length])]++([(zb,.vec 5 (ks2.map KBlk.row))]++(ks2.flatMap KBlk.pl++([(pz,.vec 1 (ss.map PSl.row))]++psL ss)))):=kn.perm (Qj fun f hf h0 hc hp=>by
  have e3:∀(a b c:Nat×Obj),f [a,b,c]=f [a]+f [b]+f [c]:=fun a b c=>by rw[hc a [b,c],hc b [c]];omega
  have e2:∀(a b:Nat×Obj),f [a,b]=f [a]+f [b]:=fun a b=>hc a [b];rw[hkr];simp only[hf,e3,e2];omega)
 have hx4:=kn.l 0 rfl;have hx9:=kn.l 1 rfl;refine Qa ?_;simp only[go_sem,hx4,hx9];intro H4 h4;have kn:=kn.stL 0 rfl h4;refine Qk ?_;rw[hND]at hQ;refine hQ _ H4 ks2 zb hS2.n ?_ hS2.ok ?_ rfl
 ·refine J2 (by rw[Jl,hS2.n,hND]) fun j h1 h2=>?_;have hj:j<ks2.length:=by simpa using h1
  rw[J7,hS2.y j hj,if_pos (by rw[←hS2.n];exact hj),Q03];exact Qbkf q l j
 ·have kn:Kn H0 H4 [] (([(x4,.st [.int .i64 q.params,.int .i64 q.regs,.vsl zb 5 0 l.length]),(zb,.vec 5 (ks2.map KBlk.row))]++ks2.flatMap KBlk.pl)++([(x9,.st [.int .i64 q.params,.int .i64 q.regs,.vsl zb 5 0 l.length])]++([(pz,.vec 1 (ss.map PSl.row))]++psL ss))):=kn.perm (Qj fun f hf h0 hc hp=>by
   have e2:∀(a b:Nat×Obj),f [a,b]=f [a]+f [b]:=fun a b=>hc a [b];show f ([(x4,_),(x9,_)]++([(zb,_)]++(ks2.flatMap KBlk.pl++([(pz,_)]++psL ss))))=_;simp only[hf,e2];omega)
  exact kn.drop
def pkOb (x4 x9 M o pz ver:Nat)(nl:List (Int×Int))(os ss:List PSl)(q:CodeD)(bc:C):List (Nat×Obj):=
 [(x4,.st [.int .i64 0,.int .i64 0,.sl true 5 []]),(x9,.st [.int .i64 q.params,.int .i64 q.regs,bc]),(M,.map ver (mI nl)),(o,.vec 1 (os.map PSl.row)),(pz,.vec 1 (ss.map PSl.row))]
set_option maxHeartbeats 16000000 in
theorem Qa7g {fl fl2:Bool}(ho:q.ok)(hp:Pk q l)(hn:l.Nodup)(hK:∀H',Upd H H' []→K (.ag (pkE q l).cells) H') :
  Qo prog Qi4 [.ag [.int .i64 q.params,.int .i64 q.regs,.sl fl 5 (Qs q.blocks)],.c (.sl fl2 1 (Qag l))] H K:=by
 have hb1:=ho.b1;have hpn:=hp.n;refine Qu ?_;refine Qd Qai Qa0p ?_;refine Qa ?_;simp only[go_sem];intro x4 hx4 H1 h1;have kn:=(Kn.start0 H).al hx4 h1;refine Qa ?_;simp only[go_sem];intro M hM H2 h2;have kn:Kn H H2 [] [(x4,.st [.int .i64 0,.int .i64 0,.sl true 5 []]),(M,.map 0 (mI []))]:=kn.al hM h2;simp only[go_sem,Qyh];refine Q5 ?_;refine Qa ?_;simp only[go_sem,Qan];try intro _
 refine Qh ?_;refine Qbkd hn (by omega) kn rfl rfl rfl rfl rfl rfl rfl fun e3 H3 nl ver hN kn l1 l2 l4 l5=>?_;simp only[go_sem];refine Qa ?_;simp only[go_sem,l1,l2,l4,l5];refine Qbj9 ho fun o os H4 hosl hos k4=>?_;have kn:=kn.comp0 k4;simp only[go_sem,l1,l2,l4,l5,Qyi];refine Qa ?_;simp only[go_sem];intro x9 hx9 H5 h5;have kn:Kn H H5 [] ([(x9,.st [.int .i64 0,.int .i64 0,.sl true 5 []])]++([(x4,.st [.int .i64 0,.int .i64 0,.sl true 5 []]),(M,.map ver (mI nl))]++([(o,.vec 1 (os.map PSl.row))]++psL os))):=(kn.al hx9 h5).perm Ju;have hx9:=kn.l 0 rfl;simp only[go_sem,Qyj,hx9,Qv4];intro H6 h6;have kn:Kn H H6 [] ([(x9,.st [.int .i64 q.params,.int .i64 q.regs,.sl true 5 []])]++([(x4,.st [.int .i64 0,.int .i64 0,.sl true 5 []]),(M,.map ver (mI nl))]++([(o,.vec 1 (os.map PSl.row))]++psL os))):=kn.stL 0 rfl h6;refine Qa ?_;simp only[go_sem,Qan];try intro _
 refine⟨by simp only[LIM];omega,fun pz hpz H7 h7=>?_⟩;obtain⟨ss0,hss0⟩:∃ss0:List PSl,ss0=List.replicate l.length ⟨[],.sl true 1 [],[]⟩:=⟨_,rfl⟩;have hS0:PkM q l 0 ss0:=by
  rw[hss0];refine⟨by simp,fun r _ h=>by omega,fun r h _=>by simp,fun s hs=>?_⟩;rw[Jad hs];exact .nil 1
 have e0:psL ss0=[]:=by rw[hss0];exact List.flatMap_eq_nil_iff.2 fun s hs=>by rw[Jad hs];rfl
 have hr0:List.replicate l.length [C.sl true 1 []]=ss0.map PSl.row:=by rw[hss0,List.map_replicate];rfl
 rw[hr0]at h7;have kn:=kn.al hpz h7;have kn:Kn H H7 [] ((pkOb x4 x9 M o pz ver nl os ss0 q (.sl true 5 [])++(psL os++(psL ss0++([]:List NBlk).flatMap NBlk.lg)))++[]):=kn.perm (Qj fun f hf h0 hc hp=>by
  have e5:∀(a b c d e:Nat×Obj),f [a,b,c,d,e]=f [a]+f [b]+f [c]+f [d]+f [e]:=fun a b c d e=>by rw[hc a [b,c,d,e],hc b [c,d,e],hc c [d,e],hc d [e]];omega
  have e2:∀(a b:Nat×Obj),f [a,b]=f [a]+f [b]:=fun a b=>hc a [b];rw[e0];show f ([(x9,_)]++([(x4,_),(M,_)]++([(o,_)]++psL os))++[(pz,_)])=f ((pkOb x4 x9 M o pz ver nl os ss0 q (.sl true 5 [])++(psL os++([]++[])))++[]);simp only[hf,pkOb,e5,e2,h0];omega)
 clear hss0 hr0 h7 hpz e0;simp only[go_sem,Qyk];refine Q5 ?_;refine Qa ?_;simp only[go_sem,Qan];try intro _
 refine Qh (Qf (Qw (fun m e1 H1=>∃(ks:List NBlk) (ss:List PSl) (bc:C) (bl:List (Nat×Obj)),m=l.length-ks.length∧ks.length≤l.length∧(∀j (h:j<ks.length),ks[j].y=pkYj q l j)∧(∀k∈ks,k.ok)∧PkM q l ks.length ss∧Gr bl 5 (ks.map NBlk.row) bc∧
  Kn H H1 [] ((pkOb x4 x9 M o pz ver nl os ss q bc++(psL os++(psL ss++ks.flatMap NBlk.lg)))++bl)∧
  lk 2 e1=.c (.pp [.int .i64 q.params,.int .i64 q.regs,.sl fl 5 (Qs q.blocks)])∧lk 4 e1=.c (.ptr x4 0)∧lk 5 e1=.c (.mp M)∧lk 8 e1=.c (.vsl o 1 0 q.blocks.length)∧lk 9 e1=.c (.ptr x9 0)∧lk 10 e1=.c (.vsl pz 1 0 l.length)∧
  lk 45 e1=.c (.sl fl2 1 (Qag l))∧lk 46 e1=.c (.int .i64 l.length)∧lk 47 e1=.c (.int .i64 ks.length)) l.length ?_ ?_))
 ·exact⟨[],ss0,_,[],by simp,by simp,by simp,by simp,hS0,.nil 5,kn,rfl,rfl,rfl,rfl,rfl,rfl,rfl,rfl,rfl⟩
 ·clear kn hS0 hx9;rintro m e1 H8 ⟨ks,ss,bc,bl,hm,hkl,hky,hko,hS,hgb,kn,l2,l4,l5,l8,l9,l10,l45,l46,l47⟩;obtain⟨i,hi⟩:∃i,ks.length=i:=⟨_,rfl⟩;rw[hi]at hm hkl hS l47;refine Qa ?_;simp only[go_sem,l2,l4,l5,l8,l9,l10,l45,l46,l47];refine Qh (Qe rfl ?_ ?_)
  ·intro hc;have hlt:i<l.length:=by simpa using hc
   obtain⟨hg1,hg2,hbn⟩:=hp.get hlt;obtain⟨b,hb⟩:∃b,l[i]=b:=⟨_,rfl⟩;rw[hb]at hg1 hg2 hbn;have hbo:b<os.length:=by omega
   have hbA:=Qap hbn;refine Qi ?_;try simp only[go_sem]
   refine Qh (Qf ?_);refine Qa ?_;simp only[go_sem,l2,l4,l5,l8,l9,l10,l45,l46,l47,hlt,Qan,Qb4 _ _ hlt,hg1];refine Qa ?_;simp only[go_sem,hbn,Qp,Qa6 _ _ hbn,BlkD.take5,BlkD.allOw,BlkD.len5];refine Qaos (ho.cl _ (Jd hbn)) fun pc N nc Ln H9 hgp hgn k9=>?_;rw[←hbA]at hgp hgn;rw[←hbA];have hpw:=hgp.isOw;have hnw:=hgn.isOw;have kn:=kn.comp0 k9;simp only[go_sem,l2,l4,l5,l8,l9,l10,l45,l46,l47,Qym,hpw,hnw];intro x13 hx13 H10 h10;have kn:=(kn.al hx13 h10).perm Ju;have hx13:=kn.l 0 rfl;simp only[go_sem,l2,l4,l5,l8,l9,l10,l45,l46,l47,Qyl,hx13,hpw,hnw];intro H11 h11;obtain⟨y,hy⟩:∃y,Q4 q b=y:=⟨_,rfl⟩;rw[hy]at hgp hgn h11;have kn:Kn H H11 [] ([(x13,.st [pc,.sl false 4 (Qaw y.ins),.int .i64 y.jump,.int .i64 y.on,nc])]++(((pkOb x4 x9 M o pz ver nl os ss q bc++(psL os++(psL ss++ks.flatMap NBlk.lg)))++bl)++(N++Ln))):=by
    have:=kn.stL 0 rfl h11;simpa using this
   obtain⟨R,hR⟩:∃R,[(x4,Obj.st [.int .i64 0,.int .i64 0,.sl true 5 []]),(x9,.st [.int .i64 q.params,.int .i64 q.regs,bc]),(o,.vec 1 (os.map PSl.row)),(pz,.vec 1 (ss.map PSl.row))]++(((psL os++(psL ss++ks.flatMap NBlk.lg))++bl)++N)=R:=⟨_,rfl⟩;have kn:Kn H H11 [] (([(M,.map ver (mI nl)),(x13,.st [pc,.sl false 4 (Qaw y.ins),.int .i64 y.jump,.int .i64 y.on,nc])]++R)++Ln):=kn.perm (Qj fun f hf h0 hc hp=>by
    have e5:∀(a b c d e:Nat×Obj),f [a,b,c,d,e]=f [a]+f [b]+f [c]+f [d]+f [e]:=fun a b c d e=>(by rw[hc a [b,c,d,e],hc b [c,d,e],hc c [d,e],hc d [e]];omega);have e4:∀(a b c d:Nat×Obj),f [a,b,c,d]=f [a]+f [b]+f [c]+f [d]:=fun a b c d=>(by rw[hc a [b,c,d],hc b [c,d],hc c [d]];omega);have e2:∀(a b:Nat×Obj),f [a,b]=f [a]+f [b]:=fun a b=>hc a [b];rw[←hR];simp only[hf,pkOb,e5,e4,e2];omega)
   have hyn:∀v∈y.next,0≤v∧v.toNat∈l:=fun v hv=>by
    rw[←hy,hbA]at hv;have h1:=(ho.bs b hbn).nx v hv;exact⟨by omega,hp.cl b hg2 v (by rw[Qxh hbn];exact hv)⟩
   have hyl:y.next.length≤1000:=by rw[←hy,hbA];have:=(ho.bs b hbn).nxl;omega
   have hx13:=kn.l 1 rfl;have hnlen:=hgn.lenC;rw[Qc]at hnlen;have hnok:=eq_true (hgn.get kn).1;refine Q5 ?_;refine Qa ?_;simp only[go_sem,hx13,hpw,hnw,hnlen,hnok];try intro _
   refine Qh ?_;refine Qbe0 (L9:=l.length) (ic:=.sl false 4 (Qaw y.ins)) hN hyn hyl hpw rfl rfl rfl rfl rfl hgn kn rfl rfl rfl rfl rfl rfl rfl rfl rfl rfl rfl rfl rfl rfl rfl fun e12 H12 Ln2 hgn2 kn l2 l4 l5 l8 l9 l10 l11 l12 l13 l45 l46 l47=>?_;obtain⟨kb,hkb⟩:∃kb:NBlk,kb=⟨pkYj q l i,pc,N,nc,Ln2⟩:=⟨_,rfl⟩;have hYj:pkYj q l i=⟨y.phis,y.ins,y.jump,y.on,y.next.map (plI l)⟩:=by
    have e1:=Qm2 ho hp hn (Qh4 hp.lt) hg2;rw[pkYj,hg1,←hy];show BlkD.mk (Q4 q b).phis (Q4 q b).ins (Q4 q b).jump (Q4 q b).on (pkY q (Q21 q.blocks.length l) b).next=_;rw[e1];rfl
   have hkbo:kb.ok:=by rw[hkb,hYj];exact⟨hgp,hgn2⟩
   have hkbr:kb.row=[pc,.sl false 4 (Qaw y.ins),.int .i64 y.jump,.int .i64 y.on,nc]:=by rw[hkb,hYj];rfl
   have hkbl:kb.lg=N++Ln2:=by rw[hkb];rfl
   rw[←hkbr]at kn;obtain⟨so,hso⟩:∃s,os[b]=s:=⟨_,rfl⟩;have hsoo:so.ok:=by rw[←hso];exact hos.ok _ (Jd hbo)
   have hsof:=hos.f b hbo;rw[hso,phT,if_pos hbn]at hsof;have hsol:so.ms.length=(Q4 q b).phis.length:=by have:=congrArg List.length hsof;simpa using this
   have hsw:=Gr.isOw hsoo;have hosm:∀p∈so.g,p∈psL os:=fun p hp=>J3.2 ⟨so,by rw[←hso];exact Jd hbo,Jp _ hp⟩;have hsc:okSl H12 so.c=True∧lenC so.c=so.ms.length:=by
    refine⟨eq_true ?_,by have:=Gr.lenC hsoo;rw[Qb7]at this;exact this⟩;rcases hsoo with ⟨h1,_,_⟩|⟨z,h1,h2⟩
    ·rw[h1];trivial
    ·have hzm:(z,Obj.vec 1 (Qd9 so.ms))∈psL os:=hosm _ (by rw[h2];simp);have hz:=(kn.get (z,.vec 1 (Qd9 so.ms)) (by rw[←hR];simp[hzm])).1;rw[h1];simp only[okSl,hz,Jx,Jo,and_self]
   have hov:=(kn.get (o,.vec 1 (os.map PSl.row)) (by rw[←hR];simp)).1;have horl:(os.map PSl.row).length=q.blocks.length:=by rw[Jl,hosl]
   have hort:(os.map PSl.row).take q.blocks.length=os.map PSl.row:=Jr (by omega);have horg:(os.map PSl.row).getD b []=[so.c]:=by simp[Ja,hbo,hso,PSl.row]
   simp only[go_sem];refine Q5 ?_;refine Qa ?_;simp only[go_sem,l2,l4,l5,l8,l9,l10,l11,l12,l13,l45,l46,l47,hov,horl,hort,horg,hbn,hsw,hsc.1,hsc.2,hsol,Jx,Jo];try intro _
   refine Qh ?_;obtain⟨R2,hR2⟩:∃R2,[(x4,Obj.st [.int .i64 0,.int .i64 0,.sl true 5 []]),(x9,.st [.int .i64 q.params,.int .i64 q.regs,bc]),(o,.vec 1 (os.map PSl.row)),(x13,.st kb.row)]++((ks.flatMap NBlk.lg++bl)++(N++Ln2))=R2:=⟨_,rfl⟩;have kn:Kn H H12 [] ([(M,.map ver (mI nl)),(pz,.vec 1 (ss.map PSl.row))]++(psL os++(psL ss++R2))):=kn.perm (Qj fun f hf h0 hc hp=>by
    have e4:∀(a b c d:Nat×Obj),f [a,b,c,d]=f [a]+f [b]+f [c]+f [d]:=fun a b c d=>(by rw[hc a [b,c,d],hc b [c,d],hc c [d]];omega);have e2:∀(a b:Nat×Obj),f [a,b]=f [a]+f [b]:=fun a b=>hc a [b];rw[←hR,←hR2];simp only[hf,e4,e2];omega)
   refine Qbe1 (b:=b) (x13:=x13) ho hN hbn hlt (by omega) hg1 hos hosl hS kn rfl rfl rfl rfl rfl rfl rfl rfl rfl rfl rfl (congrArg V.c (congrArg PSl.c hso.symm)) rfl rfl fun e13 H13 ss hS kn l2 l4 l5 l8 l9 l10 l11 l13 l45 l46 l47=>?_;have kn:Kn H H13 [] (([(x9,.st [.int .i64 q.params,.int .i64 q.regs,bc]),(x13,.st kb.row)]++([(x4,.st [.int .i64 0,.int .i64 0,.sl true 5 []]),(M,.map ver (mI nl)),(o,.vec 1 (os.map PSl.row)),(pz,.vec 1 (ss.map PSl.row))]++(psL os++(psL ss++(ks.flatMap NBlk.lg++kb.lg)))))++bl):=kn.perm (Qj fun f hf h0 hc hp=>by
    have e4:∀(a b c d:Nat×Obj),f [a,b,c,d]=f [a]+f [b]+f [c]+f [d]:=fun a b c d=>(by rw[hc a [b,c,d],hc b [c,d],hc c [d]];omega);have e2:∀(a b:Nat×Obj),f [a,b]=f [a]+f [b]:=fun a b=>hc a [b];rw[←hR2,hkbl];simp only[hf,e4,e2];omega)
   have hkw:=NBlk.noOw hkbo;have hkl5:kb.row.length=5:=rfl;have hkt5:kb.row.take 5=kb.row:=rfl;have hka:(kb.row.all fun c=>!c.isOw)=true:=hkw;have hbw:=hgb.isOw;have hx9:=kn.l 0 rfl;have hx13:=kn.l 1 rfl;simp only[go_sem];refine Qt ?_;simp only[go_sem,l2,l4,l5,l8,l9,l10,l11,l13,l45,l46,l47,hx9,hx13,hbw,hkl5,hkt5,hka];refine kn.growR (new:=[kb.row]) hgb (.mk' _ _ _ _) (by intro r hr;simp only[Jb]at hr;rw[hr];exact hkw) (by simp only[Jl,LIM,Jm,Ji];omega) fun bc2 bl2 H14 hgb2 hbw2 kn=>?_;have hx9:=kn.l 0 rfl;simp only[go_sem,l2,l4,l5,l8,l9,l10,l45,l46,l47,Qs2,hx9,hbw2];intro H15 h15;have kn:=kn.stL 0 rfl h15;have kn:Kn H H15 [] (((pkOb x4 x9 M o pz ver nl os ss q bc2++(psL os++(psL ss++(ks++[kb]).flatMap NBlk.lg)))++bl2)++[(x13,.st kb.row)]):=kn.perm (Qj fun f hf h0 hc hp=>by
    have e5:∀(a b c d e:Nat×Obj),f [a,b,c,d,e]=f [a]+f [b]+f [c]+f [d]+f [e]:=fun a b c d e=>(by rw[hc a [b,c,d,e],hc b [c,d,e],hc c [d,e],hc d [e]];omega);have e4:∀(a b c d:Nat×Obj),f [a,b,c,d]=f [a]+f [b]+f [c]+f [d]:=fun a b c d=>(by rw[hc a [b,c,d],hc b [c,d],hc c [d]];omega);have e2:∀(a b:Nat×Obj),f [a,b]=f [a]+f [b]:=fun a b=>hc a [b];show f (([(x9,_),(x13,_)]++([(x4,_),(M,_),(o,_),(pz,_)]++(psL os++(psL ss++(ks.flatMap NBlk.lg++kb.lg)))))++bl2)=_;simp only[Jak,Jan,List.flatMap_nil,Jap,hf,pkOb,e5,e4,e2];omega)
   refine Qt ?_;simp only[go_sem];refine⟨Qr (by omega) (by omega),?_⟩;show ∃m,_;refine⟨l.length-(i+1),by omega,ks++[kb],ss,bc2,bl2,by simp[hi],by simp only[Jz,Jm,Ji];omega,fun j h=>?_,fun w hw=>?_,by simpa[hi]using hS,by rw[Jar];exact hgb2,kn.drop,rfl,rfl,rfl,rfl,rfl,rfl,rfl,rfl,by simp[lk,hi]⟩
   ·by_cases hj:j<ks.length
    ·rw[List.getElem_append_left hj];exact hky j hj
    ·have hje:j=ks.length:=(by simp only[Jz,Jm,Ji]at h;omega);subst hje;have e:(ks++[kb])[ks.length]=kb:=(by simp);rw[e,hkb,hi]
   ·rcases Jai.1 hw with hw|hw
    ·exact hko w hw
    ·simp only[Jb]at hw;rw[hw];exact hkbo
  ·intro hc;have hie:i=l.length:=by have:l.length≤i:=(by simpa using hc);omega
   have hke:ks.length=l.length:=by omega
   rw[hie]at hS;refine Qv ?_;simp only[go_sem,X.next];have kn:Kn H H8 [] (([(x4,.st [.int .i64 0,.int .i64 0,.sl true 5 []]),(x9,.st [.int .i64 q.params,.int .i64 q.regs,bc]),(pz,.vec 1 (ss.map PSl.row))]++((psL ss++ks.flatMap NBlk.lg)++bl))++([(M,.map ver (mI nl)),(o,.vec 1 (os.map PSl.row))]++psL os)):=kn.perm (Qj fun f hf h0 hc hp=>by
    have e5:∀(a b c d e:Nat×Obj),f [a,b,c,d,e]=f [a]+f [b]+f [c]+f [d]+f [e]:=fun a b c d e=>(by rw[hc a [b,c,d,e],hc b [c,d,e],hc c [d,e],hc d [e]];omega);have e3:∀(a b c:Nat×Obj),f [a,b,c]=f [a]+f [b]+f [c]:=fun a b c=>(by rw[hc a [b,c],hc b [c]];omega);have e2:∀(a b:Nat×Obj),f [a,b]=f [a]+f [b]:=fun a b=>hc a [b];simp only[hf,pkOb,e5,e3,e2];omega)
   refine Qbkb ho hp hn hke hky hko hS hgb kn.drop rfl rfl rfl fun e3 H9 ks2 z hkl2 hky2 hko2 kn l4=>?_;have hx4:=kn.l 0 rfl;simp only[go_sem,Qz,Q8,Qabv,Jb,forall_eq,RS.op,l4,hx4];have hmem:∀k∈ks2,∀p∈k.pl,H9 p.1=p.2∧un H p.1=true:=fun k hk p hp=>
    ⟨(kn.get p (Jp _ (Jp _ (J3.2 ⟨k,hk,hp⟩)))).1,Qkj (kn.loc p (Jp _ (J3.2 ⟨k,hk,hp⟩)))⟩
   have hz:=kn.l 1 rfl;have hrows:FrzR H9 (un H) (ks2.map KBlk.row) (Qs (pkE q l).blocks):=by
    rw[←hky2,Qs,J5];refine Qvz ks2 fun k hk=>?_;exact .cons (Gr.frzM (hko2 k hk) (hmem k hk) (FrzR.same (Qm1 _))) (.cons (Qg rfl) (.cons (Qg rfl) (.cons (Qg rfl) (.cons (Qg rfl) .nil))))
   have hfr:=FrzR.vsl (kn.un 1 rfl) hz (by rw[Jl,hkl2]) hrows;exact⟨_,FrzL.ag (.cons (Qg rfl) (.cons (Qg rfl) (.cons hfr .nil))),hK _ kn.fin⟩
end Go.AE.Y
namespace Go.AE.Y
attribute [local instance] Classical.propDecidable
variable {q:CodeD}{l:List Nat}
def Qah7 (q:CodeD)(S:List Bool)(o:List Nat):Prop:=Dfs (nxN (gnx q)) [0] (List.replicate q.blocks.length false) [] S o
noncomputable def visL (q:CodeD):List Nat:=if h:∃o,∃S,Qah7 q S o then Classical.choose h else []
theorem Qah2 {S:List Bool}{o:List Nat}(h:Qah7 q S o):visL q=o:=by
 have hx:∃o,∃S,Qah7 q S o:=⟨o,S,h⟩;obtain⟨S',h'⟩:=Classical.choose_spec hx;rw[visL,dif_pos hx];exact (Dfs.det h h').2
noncomputable def ordL (q:CodeD):List Nat:=(visL q).reverse
theorem Qaag (ho:q.ok):∀x,x<(List.replicate q.blocks.length false).length→∀y∈nxN (gnx q) x,y<(List.replicate q.blocks.length false).length:=fun x hx y hy=>by
 rw[Jf]at hx⊢;obtain⟨v,hv,rfl⟩:=Jt.1 hy;rw[Qxh hx]at hv;have:=(ho.bs x hx).nx v hv;omega
theorem Qbpd (ho:q.ok){S:List Bool}{o:List Nat}(h:Qah7 q S o)(x:Nat):x∈o↔x<q.blocks.length∧Q7u (nxN (gnx q)) (-1) x=true:=by
 have hg:=Qaag ho;have hb0:=ho.b0;have hx:∀x∈[0],x<(List.replicate q.blocks.length false).length:=fun x hx=>by
  rw[Jb]at hx;rw[hx,Jf];exact hb0
 rw[Dfs.list h hg hx (fun y=>Qab _ _) x,Dfs.seen h hg hx,Qab,rchB_iff];constructor
 ·rintro (h|⟨y,hy,hr⟩)
  ·simp at h
  ·rw[Jb]at hy;subst hy;refine⟨?_,hr.mono fun z hz=>by omega⟩;have:=hr.lt hg (hx 0 (by simp));rw[Jf]at this;exact this
 ·rintro⟨_,hr⟩;exact .inr ⟨0,by simp,hr.mono fun z hz=>by rw[Qab]at hz;simp at hz⟩
theorem Qah3 (ho:q.ok){S:List Bool}{o:List Nat}(h:Qah7 q S o):o.Nodup:=
 Dfs.nodup h (Qaag ho) (fun x hx=>by rw[Jb]at hx;rw[hx,Jf];exact ho.b0) (by simp) List.nodup_nil
theorem Qbmk (ho:q.ok){S:List Bool}{o:List Nat}(h:Qah7 q S o):Pk q o.reverse:=by
 have hm:=Qbpd ho h;have hnd:=Qah3 ho h;have hb1:=ho.b1;obtain⟨o1,he⟩:=Dfs.root h (Qab _ _);refine⟨?_,by rw[he,List.reverse_append];rfl,fun x hx=>((hm x).1 (List.mem_reverse.1 hx)).1,fun x hx v hv=>?_⟩
 ·rw[List.length_reverse];have:=Qg5 hnd (b:=List.range q.blocks.length) fun x hx=>Jaj.2 ((hm x).1 hx).1;rw[List.length_range]at this;omega
 ·obtain⟨h1,h2⟩:=(hm x).1 (List.mem_reverse.1 hx);have hv2:v.toNat∈nxN (gnx q) x:=Jt.2 ⟨v,hv,rfl⟩;refine List.mem_reverse.2 ((hm _).2 ⟨?_,?_⟩)
  ·have:=Qaag ho x (by rw[Jf];exact h1) _ hv2;rw[Jf]at this;exact this
  ·rw[rchB_iff]at h2⊢;exact .step h2 hv2 (by omega)
noncomputable def Qkl (q:CodeD):CodeD:=pkE q (rchL q.blocks.length (nxN (gnx q)))
noncomputable def Qm0 (q:CodeD):CodeD:=pkE q (ordL q)
theorem Q3z (n:Nat)(g:Nat→List Nat):(rchL n g).Nodup:=Jal List.filter_sublist List.nodup_range
theorem mem_rchL {n:Nat}{g:Nat→List Nat}{x:Nat}:x∈rchL n g↔x<n∧Q7u g (-1) x=true:=by simp[rchL]
theorem Qboi (ho:q.ok)(hp:Pk q l)(hn:l.Nodup){x:Nat}(h:Rch (nxN (gnx q)) (fun z=>(z:Int)=-1) 0 x):x∈l∧Rch (nxN (gnx (pkE q l))) (fun z=>(z:Int)=-1) 0 (l.idxOf x):=by
 obtain⟨z1,z2⟩:=Qa08 hp
 induction h with
 |refl _=>exact⟨z1,by rw[z2];exact .refl (by omega)⟩
 |@step y z _ h2 _ ih=>
  obtain⟨i1,i2⟩:=ih;refine⟨Qbqp hp y i1 z h2,.step i2 ?_ (by omega)⟩;rw[Qa7h ho hp hn i1];exact Jt.2 ⟨z,h2,rfl⟩
theorem Qbh0 (ho:q.ok):rchL (Qkl q).blocks.length (nxN (gnx (Qkl q)))=List.range (Qkl q).blocks.length:=by
 have hp:=ho.rchPk;have hn:=Q3z q.blocks.length (nxN (gnx q));rw[rchL,List.filter_eq_self];intro j hj;have hj:=Jaj.1 hj;rw[Qkl,Qc4]at hj;have hm:=(mem_rchL.1 (Jd hj)).2;have:=(Qboi ho hp hn (rchB_iff.1 hm)).2;rw[List.Nodup.idxOf_getElem hn j hj]at this;exact rchB_iff.2 this
theorem Qa8v (ho:q.ok):Qkl (Qkl q)=Qkl q:=by
 rw[Qkl,Qbh0 ho];exact Qbe2 (Qbmd ho ho.rchPk)
theorem Qbmj (ho:q.ok):∃S o,Qah7 q S o:=by
 have hg:=Qaag ho;rw[Jf]at hg;exact Dfs.ex hg q.blocks.length [0] _ _ (by simp) (by omega) fun x hx=>by rw[Jb]at hx;rw[hx];exact ho.b0
theorem Qbpe (ho:q.ok):∃S,Qah7 q S (visL q):=by
 obtain⟨S,o,h⟩:=Qbmj ho;exact⟨S,by rw[Qah2 h];exact h⟩
theorem Qauj (ho:q.ok):Pk q (ordL q)∧(ordL q).Nodup:=by
 obtain⟨S,h⟩:=Qbpe ho;exact⟨Qbmk ho h,(List.reverse_perm _).nodup_iff.2 (Qah3 ho h)⟩
theorem Qauf {l:List Nat}(hn:l.Nodup):l.map l.idxOf=List.range l.length:=J2 (by simp) fun i h1 h2=>by
 rw[J7,List.getElem_range];exact List.Nodup.idxOf_getElem hn i (by simpa using h1)
theorem Qbj3 (ho:q.ok):(Qm0 q).ok∧ordL (Qm0 q)=List.range (Qm0 q).blocks.length:=by
 obtain⟨S,o,h⟩:=Qbmj ho;have hp:=Qbmk ho h;have hn:o.reverse.Nodup:=(List.reverse_perm o).nodup_iff.2 (Qah3 ho h);have he:Qm0 q=pkE q o.reverse:=by rw[Qm0,ordL,Qah2 h]
 obtain⟨S',h'⟩:=Qboh ho hp hn h;rw[he];have hv:visL (pkE q o.reverse)=o.map o.reverse.idxOf:=Qah2 h';refine⟨Qbmd ho hp,?_⟩;rw[ordL,hv,←List.map_reverse,Qauf hn,Qc4]
theorem Qa9w (ho:q.ok):Qm0 (Qm0 q)=Qm0 q:=by
 obtain⟨h1,h3⟩:=Qbj3 ho;have e:Qm0 (Qm0 q)=pkE (Qm0 q) (ordL (Qm0 q)):=rfl;rw[e,h3];exact Qbe2 h1
theorem Qa6v {cs:List CodeD}(hg:Qas cs=true):Qas (cs.map Qkl)=true:=Qbe6 (lf:=fun c=>rchL c.blocks.length (nxN (gnx c))) hg fun c hc=>by
 obtain⟨i,hi,rfl⟩:=Jc.1 hc;exact⟨(Qge hg hi).rchPk,Q3z _ _⟩
theorem Qa7d {cs:List CodeD}(hg:Qas cs=true):Qas (cs.map Qm0)=true:=Qbe6 (lf:=ordL) hg fun c hc=>by
 obtain⟨i,hi,rfl⟩:=Jc.1 hc;exact Qauj (Qge hg hi)
end Go.AE.Y
namespace Go.AE.Y
attribute [local go_sem] cond_true cond_false Bool.not_true Bool.not_false
open Go.Proofs.Tryz
variable {H H0:Heap}{K:V→Heap→Prop}{q:CodeD}
def twoT (ns:List Int)(k:Nat):Bool:=(ns.take k).any fun v=>v != ns.headD 0
end Go.AE.Y
namespace Go.AE.Y
variable {q:CodeD}
structure RsI (q:CodeD)(s:Nat)(os:List OBlk):Prop where
 n:os.length=q.blocks.length
 y:∀j (h:j<os.length),os[j].d=blkN q s j
 ok:∀b∈os,b.ok
def rwO (q:CodeD)(s:Nat)(os:List OBlk):List (List C):=os.map OBlk.row++((nwL q).take s).map Qbp5
def OBlk.nxt (o:OBlk)(ns:List Int):OBlk:=⟨o.phis,o.pc,o.pl,o.ins,o.ic,o.il,o.jump,o.on,⟨ns,o.nx.y⟩⟩
theorem RsI.step {s b:Nat}{v:Int}{os:List OBlk}(h:RsI q s os)(F:SpF (gnx q) q.blocks.length)(he:(nwL q)[s]? = some (b,v))(hb:b<os.length) :
  RsI q (s+1) (os.set b (os[b].nxt (stX (gnx q) q.blocks.length (s+1) b))):=by
 refine⟨by rw[Jq];exact h.n,fun j hj=>?_,fun w hw=>?_⟩
 ·have hj':j<os.length:=by simpa using hj
  rw[Jy];split
  ·rename_i e;subst e
   have:=h.y b hb;rw[OBlk.d,blkN]at this;simp only[BlkD.mk.injEq]at this;obtain⟨e1,e2,e3,e4,_⟩:=this;simp only[OBlk.nxt,OBlk.d,blkN,e1,e2,e3,e4]
  ·rename_i e
   rw[h.y j hj',blkN,blkN,Qbg8 F he (fun hh=>e hh.symm)]
 ·rcases Jv hw with hw|rfl
  ·exact h.ok w hw
  ·have:=h.ok _ (Jd hb);exact⟨this.p,this.i,this.a⟩
end Go.AE.Y
namespace Go.AE.Y
attribute [local go_sem] cond_true cond_false Bool.not_true Bool.not_false
open Go.Proofs.Tryz
variable {H H0:Heap}{K:V→Heap→Prop}{E L:List (Nat×Obj)}{q:CodeD}
def shN (q:CodeD)(b i:Nat):Nat:=(newL (gnx q) q.blocks.length b).length+(((gnx q b).take i).filter (shV (gnx q) q.blocks.length b)).length
end Go.AE.Y
namespace Go.AE.Y
variable {H H0:Heap}{q:CodeD}
def goK (e:Nat×Int):KBlk:=⟨goB e.2,.sl true 2 [],[]⟩
end Go.AE.Y
namespace Go.AE.Y
attribute [local go_sem] cond_true cond_false Bool.not_true Bool.not_false
open Go.Proofs.Tryz
variable {H H0:Heap}{K:V→Heap→Prop}{q:CodeD}
def hasT (q:CodeD)(b:Nat):Bool:=(List.range b).any fun b=>(gnx q b).any (shV (gnx q) q.blocks.length b)
end Go.AE.Y
namespace Go.AE.Y
attribute [local go_sem] cond_true cond_false Bool.not_true Bool.not_false
open Go.Proofs.Tryz
variable {H H0 F:Heap}{K:V→Heap→Prop}{E L B:List (Nat×Obj)}{fl:Bool}
attribute [local instance] Classical.propDecidable
def Drc (c d:CodeD):Prop:=Idl c d
def DropOk (cs ds:List CodeD):Prop:=(Qas cs=true∧ds.length=cs.length∧∀i (h1:i<cs.length) (h2:i<ds.length),Drc cs[i] ds[i])∨(Qas cs=false∧ds=[])
theorem DropOk.unit {cs ds:List CodeD}(h:DropOk cs ds)(hg:Qas cs=true):Qas ds=true∧ds.length=cs.length∧∀i (h1:i<cs.length) (h2:i<ds.length),Idl cs[i] ds[i]:=by
 rcases h with ⟨_,hl,h⟩|⟨h,_⟩
 ·exact⟨Qblm hg hl fun k h1 h2=>(h k h1 h2).shr,hl,h⟩
 ·rw[hg]at h;simp at h
theorem DropOk.fits {cs ds:List CodeD}(h:DropOk cs ds):∀c∈ds,c.fits:=by
 rcases h with ⟨hg,hl,h⟩|⟨_,rfl⟩
 ·intro c hc;obtain⟨i,hi,rfl⟩:=Jc.1 hc;exact ((h i (by omega) hi).shr.ok (Qge hg (by omega))).fts
 ·simp
theorem DropOk.uniq {cs ds es:List CodeD}(h:DropOk cs ds)(k:DropOk cs es):ds=es:=by
 rcases h with ⟨hg,hl,h⟩|⟨hg,rfl⟩
 ·rcases k with ⟨_,kl,k⟩|⟨hf,_⟩
  ·exact J2 (by omega) fun i h1 h2=>(h i (by omega) h1).uniq (k i (by omega) h2)
  ·rw[hg]at hf;simp at hf
 ·rcases k with ⟨hf,_⟩|⟨_,rfl⟩
  ·rw[hg]at hf;simp at hf
  ·rfl
theorem DropOk.again {cs ds:List CodeD}(h:DropOk cs ds)(hg:Qas cs=true):DropOk ds ds:=by
 obtain⟨h1,h2,h3⟩:=h.unit hg;exact .inl ⟨h1,rfl,fun i a b=>(h3 i (by omega) a).again⟩
end Go.AE.Y
namespace Go.AE.Y
attribute [local go_sem] cond_true cond_false Bool.not_true Bool.not_false
attribute [local instance] Classical.propDecidable
open Go.Proofs.Tryz
variable {H H0:Heap}{K:V→Heap→Prop}{fl:Bool}
theorem Qa9s {fn:Nat}{f:CodeD→CodeD}{l:List CodeD}(hl:l.length≤4)(hf:∀p∈l,∀(H:Heap) (K:V→Heap→Prop) (fl:Bool),(∀H',Upd H H' []→K (.ag (f p).cells) H')→Qo prog fn [.ag [.int .i64 p.params,.int .i64 p.regs,.sl fl 5 (Qs p.blocks)]] H K)
  (hK:∀H',Upd H H' []→K (.c (.sl false 3 (Ql (l.map f)))) H') :
  Qo prog Qce [.c (.sl fl 3 (Ql l)),.c (.fn fn [])] H K:=by
 refine Qu ?_;refine Qd Qai Qq9 ?_;refine Qa ?_;simp only[go_sem];refine Qa ?_;simp only[go_sem];refine Q5 ?_;refine Qa ?_;simp only[go_sem,Q3];intro _;refine Qh (Qf (Qw (fun m e1 H1=>∃(ds:List CodeD) (t:C) (Lg:List (Nat×Obj)),m=l.length-ds.length∧ds.length≤l.length∧(∀i (h1:i<l.length) (h2:i<ds.length),ds[i]=f l[i])∧Gr Lg 3 (Ql ds) t∧Kn H H1 [] ([]++Lg)∧
  e1=[(1,.c (.fn fn [])),(5,.c t),(8,.c (.sl fl 3 (Ql l))),(9,.c (.int .i64 l.length)),(10,.c (.int .i64 ds.length))]) l.length ?_ ?_))
 ·exact⟨[],_,[],by simp,by simp,by simp,.nil 3,Kn.start0 H,rfl⟩
 ·rintro m e1 H1 ⟨ds,t,Lg,hm,hi,hdr,hgr,kn,rfl⟩;have htw:=hgr.isOw;refine Qa ?_;simp only[go_sem,htw];refine Qh (Qe rfl ?_ ?_)
  ·intro hc;have hlt:ds.length<l.length:=by simpa using hc
   obtain⟨p,hp⟩:∃p,l[ds.length]=p:=⟨_,rfl⟩;have hpm:p∈l:=by rw[←hp];exact Jd hlt
   refine Qi ?_;try simp only[go_sem]
   refine Qh (Qf ?_);refine Qa ?_;simp only[go_sem,htw,hlt,Q3,Qal _ _ hlt,CodeD.cells,hp];intro x7 hx7 H2 h2;have kn:=kn.al hx7 h2;have hx7:H2 x7=.st [.int .i64 0,.int .i64 0,.sl true 5 []]:=(kn.get (x7,.st [.int .i64 0,.int .i64 0,.sl true 5 []]) (by simp)).1;simp only[go_sem,Qdv,hx7,htw];intro H3 h3;have kn:Kn H H3 [] ([(x7,.st [.int .i64 p.params,.int .i64 p.regs,.sl false 5 (Qs p.blocks)])]++Lg):=by
    have:=kn.stL ([]++Lg).length (x:=x7) (o:=.st [.int .i64 0,.int .i64 0,.sl true 5 []]) (by simp) h3;refine Kn.perm (by simpa using this) ?_;exact Ju
   have hx7:=kn.l 0 rfl;refine Qt ?_;simp only[go_sem,htw,hx7,Jap,Jah];refine hf p hpm _ _ _ fun H4 hu=>?_;obtain⟨d,hd⟩:∃d,f p=d:=⟨_,rfl⟩;rw[hd];have kn:=kn.call0 hu;simp only[go_sem,Qdx,htw,CodeD.cells];refine kn.growR (new:=Ql [d]) hgr (.mk' _ _ _ _) (Qbh _) (by simp only[Q3,LIM,Jm,Ji];omega) fun t2 Lg2 H5 hgr2 ht2 kn=>?_;simp only[go_sem,Qdw,ht2];refine Qt ?_;simp only[go_sem,X.next,ht2];refine⟨Qr (by omega) (by omega),l.length-(ds.length+1),by omega,ds++[d],t2,Lg2,by simp,by simp;omega,fun i h1 h2=>?_,?_,?_,by simp⟩
   ·by_cases hi:i<ds.length
    ·rw[List.getElem_append_left hi];exact hdr i h1 hi
    ·have hie:i=ds.length:=(by simp only[Jz,Jm,Ji]at h2;omega);subst hie;rw[hp];have:(ds++[d])[ds.length]=d:=(by simp);rw[this];exact hd.symm
   ·have:Ql (ds++[d])=Ql ds++Ql [d]:=(by simp[Ql]);rw[this];exact hgr2
   ·exact Kn.drop (B:=[(x7,.st [.int .i64 p.params,.int .i64 p.regs,.sl false 5 (Qs p.blocks)])]) (kn.perm Ju)
  ·intro hc;have hge:ds.length=l.length:=by have:l.length≤ds.length:=(by simpa using hc);omega
   refine Qv ?_;simp only[go_sem,X.next];refine Qa ?_;simp only[go_sem,htw];refine Qk ?_;simp only[go_sem,Qz,Q8,Qfi,Jb,forall_eq,RS.op,htw];have hde:ds=l.map f:=J2 (by rw[Jl,hge]) fun i h1 h2=>by rw[J7];exact hdr i (by omega) h1
   have hfin:=hK _ kn.fin;rw[←hde]at hfin;exact⟨_,.c _ _ (hgr.frz kn (Qbh _)),hfin⟩
noncomputable def Qhi (f:CodeD→CodeD)(cs:List CodeD):List CodeD:=if Qas cs=true then cs.map f else []
theorem Qan0 {fn:Nat}{f:CodeD→CodeD}{cs:List CodeD}(hfit:∀c∈cs,c.fits)(hf:Qas cs=true→∀p∈cs,∀(H:Heap) (K:V→Heap→Prop) (fl:Bool),(∀H',Upd H H' []→K (.ag (f p).cells) H')→Qo prog fn [.ag [.int .i64 p.params,.int .i64 p.regs,.sl fl 5 (Qs p.blocks)]] H K)
  (hK:∀H',Upd H H' []→K (.tup [.ag [.sl false 3 (Ql (Qhi f cs))],.c (.bool (Qas cs))]) H') :
  Qo prog Qg1 [.ag [.sl fl 3 (Ql cs)],.c (.fn fn [])] H K:=by
 refine Qu ?_;refine Qd Qai Qatx ?_;refine Qa ?_;simp only[go_sem];intro x4 hx4 H1 h1;have kn:=(Kn.start0 H).al hx4 h1;simp only[go_sem,Qsu];refine Q5 ?_;refine Qa ?_;simp only[go_sem];refine Qg4 hfit fun H2 hu=>?_;have kn:=kn.call0 hu;simp only[go_sem,Qsv];have hx4:=kn.l 0 rfl;refine Qh (Qe rfl ?_ ?_)
 ·intro hc;have hc:=Qpp hc;refine Qa ?_;simp only[go_sem,hx4];intro H3 h3;have kn:=kn.stL 0 rfl h3;have hx4:=kn.l 0 rfl;simp only[go_sem,Qsw];refine Qk ?_;simp only[go_sem,X.next,Qz,Q8,Qrm,Je,Jj,RS.op,hx4];have hK:=hK _ kn.fin;rw[Qhi,hc]at hK;exact⟨fun _=>trivial,_,Qmt (FrzL.ag (.cons FrzR.nil.sl .nil)) (.c _ _ (Qg rfl)),hK⟩
 ·intro hc;have hg:=Qgc hc;have hc4:cs.length≤4:=by have:=(of_decide_eq_true hg).1;omega
  refine Qi ?_;try simp only[go_sem]
  refine Qa ?_;simp only[go_sem];refine Qa9s hc4 (hf hg) fun H3 hu=>?_;have kn:=kn.call0 hu;have hx4:=kn.l 0 rfl;simp only[go_sem,Qsy,hx4];intro H4 h4;have kn:=kn.stL 0 rfl h4;have hx4:=kn.l 0 rfl;simp only[go_sem,Qsx];refine Qk ?_;simp only[go_sem,X.next,Qz,Q8,Qrm,Je,Jj,RS.op,hx4];have hK:=hK _ kn.fin;rw[Qhi,if_pos hg,hg]at hK;exact⟨fun _=>trivial,_,Qmt (Qjs _) (.c _ _ (Qg rfl)),hK⟩
theorem Q02 {f:CodeD→CodeD}{cs:List CodeD}(hfit:∀c∈cs,c.fits)(hf:∀c,c.fits→(f c).fits):∀c∈Qhi f cs,c.fits:=fun c hc=>by
 rw[Qhi]at hc;split at hc
 ·obtain⟨x,hx,rfl⟩:=Jt.1 hc;exact hf x (hfit x hx)
 ·simp at hc
noncomputable def Q01 (cs:List CodeD)(b:Bool):List CodeD:=if (b&&Qas cs)=true then cs else []
noncomputable def splL (cs:List CodeD):List CodeD:=Q01 (Qhi spD cs) (Qas cs)
noncomputable def splB (cs:List CodeD):Bool:=Qas cs&&Qas (Qhi spD cs)
set_option maxHeartbeats 4000000 in
theorem Qanr {cs:List CodeD}{pass:List UInt8}{f:CodeD→CodeD}(hfit:∀c∈cs,c.fits)(hff:∀c∈Qhi f cs,c.fits)
  (hf:Qas cs=true→∀p∈cs,∀(H:Heap) (K:V→Heap→Prop),(∀H',Upd H H' []→K (.ag (f p).cells) H')→Qo prog Qkp [.ag [.int .i64 p.params,.int .i64 p.regs,.sl false 5 (Qs p.blocks)],.c (.str pass)] H K)
  (hK:∀H',Upd H H' []→K (.tup [.ag [.sl false 3 (Ql (Q01 (Qhi f cs) (Qas cs)))],.c (.bool (Qas cs&&Qas (Qhi f cs)))]) H') :
  Qo prog Qvt [.ag [.sl fl 3 (Ql cs)],.c (.str pass)] H K:=by
 refine Qu ?_;refine Qd Qai Qbd9 ?_;refine Qa ?_;simp only[go_sem];intro x4 hx4 H1 h1;have kn:=(Kn.start0 H).al hx4 h1;simp only[go_sem,Q5t];refine Q5 ?_;refine Qa ?_;simp only[go_sem];refine Qqr hfit fun H2 hu=>?_;have kn:=kn.call0 hu;simp only[go_sem,Q5u];refine Qh (Qe rfl ?_ ?_)
 ·intro hc;have hc:Qas cs=false:=Qpp hc;have hx4:=kn.l 0 rfl;refine Qa ?_;simp only[go_sem,hx4];intro H3 h3;have kn:=kn.stL 0 rfl h3;have hx4:=kn.l 0 rfl;simp only[go_sem,Q5v];refine Qk ?_;simp only[go_sem,X.next,Qz,Q8,Q09,Je,Jj,RS.op,hx4];have hK:=hK _ kn.fin;have eo:Q01 (Qhi f cs) false=[]:=by simp[Q01]
  rw[hc,eo]at hK;exact⟨fun _=>trivial,_,Qmt (FrzL.ag (.cons (FrzR.nil.sl) .nil)) (.c _ _ (Qg rfl)),hK⟩
 ·intro hc;have hG:Qas cs=true:=Qgc hc;refine Qi ?_;try simp only[go_sem]
  refine Qa ?_;simp only[go_sem];intro x6 hx6 H3 h3;have kn:=kn.al hx6 h3;have hx6:=kn.l 1 rfl;simp only[go_sem,Q5w,hx6];intro H4 h4;have kn:Kn H H4 [] [(x4,.st [.sl true 3 []]),(x6,.st [.sl true 3 []])]:=kn.stL 1 rfl h4;refine Q5 ?_;refine Qa ?_;simp only[go_sem];have hcl:=(Qa78 hfit hG).1;refine Qh (Qf (Qw (fun m e1 H1=>∃(ds:List CodeD) (t:C) (Lg:List (Nat×Obj)),m=cs.length-ds.length∧ds.length≤cs.length∧ds=(cs.take ds.length).map f∧Gr Lg 3 (Ql ds) t∧Kn H H1 [] ([(x4,.st [.sl true 3 []]),(x6,.st [t])]++Lg)∧
   lk 1 e1=.c (.str pass)∧lk 2 e1=.c (.pp [.sl fl 3 (Ql cs)])∧lk 4 e1=.c (.ptr x4 0)∧lk 6 e1=.c (.ptr x6 0)∧lk 7 e1=.c (.int .i64 ds.length)) cs.length ?_ ?_))
  ·exact⟨[],_,[],by simp,by simp,by simp,.nil 3,by simpa using kn,rfl,rfl,rfl,rfl,rfl⟩
  ·clear kn hx6;rintro m e1 H5 ⟨ds,t,Lg,hm,hdl,hds,hgr,kn,l1,l2,l4,l6,l7⟩;have htw:=hgr.isOw;refine Q5 ?_;refine Qa ?_;simp only[go_sem,l1,l2,l4,l6,l7,Q3];try intro _
   refine Qh (Qe rfl ?_ ?_)
   ·intro hc2;have hlt:ds.length<cs.length:=(by simpa using hc2);have hx6:=kn.l 1 rfl;obtain⟨q,hq⟩:∃q,cs[ds.length]=q:=⟨_,rfl⟩;have hqm:q∈cs:=(by rw[←hq];exact Jd hlt);refine Qi ?_;try simp only[go_sem]
    refine Qh (Qf ?_);refine Qbg ?_;simp only[go_sem,l1,l2,l4,l6,l7,hx6,htw,hlt,Q3,Qal _ _ hlt,CodeD.cells,hq];refine hf hG q hqm _ _ fun H6 hu=>?_;obtain⟨d,hd⟩:∃d,f q=d:=⟨_,rfl⟩;rw[hd];have kn:=kn.call0 hu;have hx6:=kn.l 1 rfl;simp only[go_sem,Q5y,CodeD.cells,hx6,htw];refine kn.growR (new:=Ql [d]) hgr (.mk' _ _ _ _) (Qbh _) (by simp only[Q3,LIM,Jm,Ji];omega) fun t2 Lg2 H7 hgr2 ht2 kn=>?_;have hx6:=kn.l 1 rfl;simp only[go_sem,Q5x,hx6,ht2];intro H8 h8;have kn:=kn.stL 1 rfl h8;refine Qt ?_;simp only[go_sem,l1,l2,l4,l6,l7];refine⟨Qr (by omega) (by omega),?_⟩;show ∃m,_;refine⟨cs.length-(ds.length+1),by omega,ds++[d],t2,Lg2,by simp,by simp only[Jz,Jm,Ji];omega,?_,?_,kn,rfl,rfl,rfl,rfl,by simp[lk]⟩
    ·have e:(ds++[d]).length=ds.length+1:=(by simp);rw[e,Jw hlt,Jar,←hds,hq,Jaa,Jah,hd]
    ·have:Ql (ds++[d])=Ql ds++Ql [d]:=(by simp[Ql]);rw[this];exact hgr2
   ·intro hcx;have hdl2:ds.length=cs.length:=(by have:cs.length≤ds.length:=(by simpa using hcx);omega);rw[hdl2,J8]at hds;have hdp:Qhi f cs=ds:=(by rw[Qhi,if_pos hG,←hds]);rw[hG,hdp]at hK;rw[hdp]at hff;refine Qv ?_;simp only[go_sem,X.next];have hx6:=kn.l 1 rfl;obtain⟨S,hSL,hSB,hfz,kn⟩:=kn.freeze0;have hx6b:=hSB (x6,.st [t]) (by simp);have hft:FrzC H5 S t (.sl false 3 (Ql ds)):=Gr.frzM hgr hSL (FrzR.same (Qbh _));have kn:=kn.setL (o':=.st [.sl false 3 (Ql ds)]) 1 rfl (by simp);refine c_gh (Qdr S (Q3j ?_) (hfz.set (o:=.st [.sl false 3 (Ql ds)]) hx6b.2 (by rw[hx6b.1];exact FrzKL.st (.cons htw hft .nil)))) (e':=[(4,.c (.ptr x4 0)),(6,.c (.ptr x6 0))]) ?_
    ·simp only[Je];exact⟨.c _ _ (.same _ rfl),.c _ _ (.same _ rfl),by simp⟩
    generalize (H5.frz S).set x6 (Obj.st [C.sl false 3 (Ql ds)])=H6 at *;have hx6:=kn.l 1 rfl;have hx4:=kn.l 0 rfl;clear hfz hx6b hft hSL hSB;refine Q5 ?_;refine Qa ?_;simp only[go_sem,hx6];refine Qqr hff fun H7 hu=>?_;have kn:=kn.call0 hu;have hx6:=kn.l 1 rfl;have hx4:=kn.l 0 rfl;simp only[go_sem,Q14];refine Qh (Qe rfl ?_ ?_)
    ·intro hc3;have hG2:Qas ds=false:=Qpp hc3;refine Qa ?_;simp only[go_sem,hx4];intro H8 h8;have kn:=kn.stL 0 rfl h8;have hx4:=kn.l 0 rfl;simp only[go_sem,Q15];refine Qk ?_;simp only[go_sem,X.next,Qz,Q8,Q09,Je,Jj,RS.op,hx4];have hK:=hK _ kn.fin;have eo:Q01 ds true=[]:=(by simp[Q01,hG2]);rw[hG2,eo]at hK;exact⟨fun _=>trivial,_,Qmt (FrzL.ag (.cons (FrzR.nil.sl) .nil)) (.c _ _ (Qg rfl)),hK⟩
    ·intro hc3;have hG2:Qas ds=true:=Qgc hc3;refine Qi ?_;try simp only[go_sem]
     refine Qa ?_;simp only[go_sem,hx6,hx4];intro H8 h8;have kn:=kn.stL 0 rfl h8;have hx4:=kn.l 0 rfl;simp only[go_sem,Q16];refine Qk ?_;simp only[go_sem,X.next,Qz,Q8,Q09,Je,Jj,RS.op,hx4];have hK:=hK _ kn.fin;have eo:Q01 ds true=ds:=(by simp[Q01,hG2]);rw[hG2,eo]at hK;exact⟨fun _=>trivial,_,Qmt (Qjs ds) (.c _ _ (Qg rfl)),hK⟩
end Go.AE.Y
namespace Go.AE.Y
attribute [local go_sem] cond_true cond_false Bool.not_true Bool.not_false
attribute [local instance] Classical.propDecidable
open Go.Proofs.Tryz
variable {H H0:Heap}{K:V→Heap→Prop}{fl:Bool}{q:CodeD}{cs:List CodeD}
theorem Qbff (ho:q.ok):Qan8 q.blocks.length (gnx q)=rchL q.blocks.length (nxN (gnx q)):=by
 rw[Qan8,if_pos ho.fitB];rfl
theorem Qap0 (ho:q.ok)(hK:∀H',Upd H H' []→K (.ag (Qkl q).cells) H') :
  Qo prog Qex [.ag [.int .i64 q.params,.int .i64 q.regs,.sl fl 5 (Qs q.blocks)]] H K:=by
 have hb1:=ho.b1;refine Qu ?_;refine Qd Qai Q7s ?_;refine Qa ?_;simp only[go_sem];intro x2 hx2 H1 h1;have kn:=(Kn.start0 H).al hx2 h1;refine Qad ?_;simp only[go_sem];refine Qazx (rows:=Qs q.blocks) (nx:=gnx q) (Qmu H1 q fl) (by rw[Qp];omega) fun H2 hu=>?_;have kn:=kn.call0 hu;rw[Qp,Qbff ho];simp only[go_sem,Qim];refine Qa7g ho ho.rchPk (Q3z _ _) fun H3 hu=>?_;have kn:=kn.call0 hu;have hx2:=kn.l 0 rfl;simp only[go_sem,Qil,CodeD.cells,hx2];intro H4 h4;have kn:=kn.stL 0 rfl h4;have hx2:=kn.l 0 rfl;refine Qk ?_;simp only[go_sem,Qz,Q8,Qn0,Jb,forall_eq,RS.op,hx2];exact⟨_,FrzL.ag (.cons (.same _ rfl) (.cons (.same _ rfl) (.cons (.same _ rfl) .nil))),hK _ kn.fin⟩
theorem Q3k (hfit:∀c∈cs,c.fits)(hK:∀H',Upd H H' []→K (.tup [.ag [.sl false 3 (Ql (Qhi Qkl cs))],.c (.bool (Qas cs))]) H') :
  Qo prog Qdk [.ag [.sl fl 3 (Ql cs)]] H K:=by
 refine Qu ?_;refine Qd Qai Q0v ?_;refine Qa ?_;simp only[go_sem];intro x2 hx2 H1 h1;have kn:=(Kn.start0 H).al hx2 h1;simp only[go_sem,Qfm];refine Qa ?_;simp only[go_sem];refine Qan0 (f:=Qkl) hfit (fun hg p hp H K fl hK=>?_) fun H2 hu=>?_
 ·obtain⟨i,hi,rfl⟩:=Jc.1 hp;exact Qap0 (Qge hg hi) hK
 have kn:=kn.call0 hu;have hx2:=kn.l 0 rfl;simp only[go_sem,Qfo,hx2,Jh,Jn];intro H4 h4;have kn:=kn.stL 0 rfl h4;have hx2:=kn.l 0 rfl;simp only[go_sem,Qfn];refine Qk ?_;simp only[go_sem,X.next,Qz,Q8,Qjc,Je,Jj,RS.op,hx2];exact⟨fun _=>trivial,_,Qmt (Qjs _) (.c _ _ (Qg rfl)),hK _ kn.fin⟩
theorem Qa88 {fl:Bool}(ho:q.ok)(hK:∀z H',Kn H H' [] [(z,.vec 5 (Qs (Qkl q).blocks))]→K (.ag [.int .i64 q.params,.int .i64 q.regs,.vsl z 5 0 (Qkl q).blocks.length]) H') :
  Qo prog Q3a [.ag [.int .i64 q.params,.int .i64 q.regs,.sl fl 5 (Qs q.blocks)]] H K:=by
 refine Qc7 ?_;refine Qd Qai Qbd8 ?_;refine Qa ?_;simp only[go_sem];intro x2 hx2 H1 h1;have kn:=(Kn.start0 H).al hx2 h1;refine Qad ?_;simp only[go_sem];refine Qasp (rows:=Qs q.blocks) (nx:=gnx q) (Qa0g ho.gd) (by rw[Qp];exact ho.fitB) fun H2 hu=>?_;have kn:=kn.call0 hu;rw[Qp];simp only[go_sem,Q5s];refine Qans ho ho.rchPk fun d z H3 hR hP k2=>?_;obtain⟨P,hP,hd⟩:=hP;rw[Qbmc ho ho.rchPk (Q3z _ _) hP]at hd;have hd:d=Qkl q:=hd;subst hd;have kn:=kn.comp0 k2;have hx2:=kn.l 0 rfl;simp only[go_sem,Q5r,hx2];intro H4 h4;have kn:Kn H H4 [] ([(x2,.st [.int .i64 q.params,.int .i64 q.regs,.vsl z 5 0 (Qkl q).blocks.length])]++[(z,.vec 5 (Qs (Qkl q).blocks))]):=kn.stL 0 rfl h4;have hx2:=kn.l 0 rfl;refine Qk ?_;simp only[go_sem,Qz,Q8,Qaup,Jb,forall_eq,RS.op,hx2];obtain⟨S,hSL,hSB,hfz,kn⟩:=(kn.perm Ju).freeze0;exact⟨S,_,_,FrzL.ag (.cons (Qg rfl) (.cons (Qg rfl) (.cons (.same _ rfl) .nil))),hfz,hK z _ kn⟩
theorem Qa9c (hq:q.ok)(hK:∀H',Upd H H' []→K (.ag (Qkl q).cells) H') :
  Qo prog Qkp [.ag [.int .i64 q.params,.int .i64 q.regs,.sl false 5 (Qs q.blocks)],.c (.str [114,101,97,99,104])] H K:=by
 refine Qu ?_;refine Qd Qai Qat0 ?_;refine Qa ?_;simp only[go_sem];intro x4 hx4 H1 h1;have kn:=(Kn.start0 H).al hx4 h1;refine Q5 ?_;refine Qa ?_;simp only[go_sem];refine Qh (Qf ?_);refine Qa ?_;simp only[go_sem];refine Qe rfl (fun _=>?_) (fun hc=>absurd hc (by decide));refine Qa ?_;simp only[go_sem];refine Qa88 hq fun z H2 k2=>?_;have kn:=kn.comp0 k2;have hx4:=kn.l 0 rfl;simp only[go_sem,Q56,hx4];intro H3 h3;have kn:Kn H H3 [] ([(x4,.st [.int .i64 q.params,.int .i64 q.regs,.vsl z 5 0 (Qkl q).blocks.length])]++[(z,.vec 5 (Qs (Qkl q).blocks))]):=kn.stL 0 rfl h3;have hx4:=kn.l 0 rfl;have hz:=kn.l 1 rfl;refine Qk ?_;simp only[go_sem,X.next,Qz,Q8,Qab3,Jb,forall_eq,RS.op,hx4];exact⟨_,FrzL.ag (.cons (Qg rfl) (.cons (Qg rfl) (.cons (FrzR.vsl (kn.un 1 rfl) hz (by rw[Qp]) (FrzR.same (Qza _))) .nil))),hK _ kn.fin⟩
theorem Qbe5 {l:List Nat}(h:q.fits):(pkE q l).fits:=fun y hy=>by
 obtain⟨b,hb,rfl⟩:=Jc.1 hy;rw[Q03,pkX];by_cases hl:l.getD b 0<q.blocks.length
 ·have:=h _ (Jd hl);rw[Qap hl];simpa using this
 ·have e:Q4 q (l.getD b 0)=⟨[],[],0,0,[]⟩:=by rw[Q4,Ja,Js (by omega)];rfl
  rw[e];simp
theorem Qa6u (cs:List CodeD):Q01 (Qhi Qkl cs) (Qas cs)=Qhi Qkl cs∧(Qas cs&&Qas (Qhi Qkl cs))=Qas cs:=by
 cases hg:Qas cs with
 |false=>simp[Q01,Qhi,hg]
 |true=>
  have h:=Qa6v hg;have e:Qhi Qkl cs=cs.map Qkl:=by rw[Qhi,if_pos hg]
  rw[e,Q01,h];simp
theorem Q4v (hfit:∀c∈cs,c.fits)(hK:∀H',Upd H H' []→K (.tup [.ag [.sl false 3 (Ql (Qhi Qkl cs))],.c (.bool (Qas cs))]) H') :
  Qo prog Qdo [.ag [.sl fl 3 (Ql cs)]] H K:=by
 refine Qu ?_;refine Qd Qai Q00 ?_;refine Qa ?_;simp only[go_sem];intro x2 hx2 H1 h1;have kn:=(Kn.start0 H).al hx2 h1;simp only[go_sem,Qf3];refine Qa ?_;simp only[go_sem];refine Qanr (f:=Qkl) hfit (Q02 (f:=Qkl) hfit fun c h=>Qbe5 h) (fun hg p hp H K hK=>?_) fun H2 hu=>?_
 ·obtain⟨i,hi,rfl⟩:=Jc.1 hp;exact Qa9c (Qge hg hi) hK
 rw[(Qa6u cs).1,(Qa6u cs).2];have kn:=kn.call0 hu;have hx2:=kn.l 0 rfl;simp only[go_sem,Qf5,Jh,Jn,hx2];intro H3 h3;have kn:=kn.stL 0 rfl h3;have hx2:=kn.l 0 rfl;simp only[go_sem,Qf4];refine Qk ?_;simp only[go_sem,Qz,Q8,Qjj,Je,Jj,RS.op,hx2];exact⟨fun _=>trivial,_,Qmt (Qjs _) (.c _ _ (Qg rfl)),hK _ kn.fin⟩
end Go.AE.Y
namespace Go.AE.Y
attribute [local go_sem] cond_true cond_false Bool.not_true Bool.not_false
attribute [local instance] Classical.propDecidable
open Go.Proofs.Tryz
variable {H H0:Heap}{K:V→Heap→Prop}{fl:Bool}{cs:List CodeD}
theorem Qy9 {bs:List UInt8}(hK:∀(cs:List CodeD) H',Upd H H' []→UnitOk cs→K (.ag [.sl false 3 (Ql cs)]) H') :
  Qo prog Qb1 [.c (.sl fl 1 (Qbf bs))] H K:=by
 refine Qu ?_;refine Qd Qai Qpo ?_;refine Qa ?_;simp only[go_sem];intro x2 hx2 H1 h1;have kn:=(Kn.start0 H).al hx2 h1;refine Qa ?_;simp only[go_sem];refine Qatn fun R H2 hR h2=>?_;have kn:=kn.al hR h2 (R.o_ne 0);simp only[go_sem,Qdh];refine Qatm (kn.l 1 rfl) (by omega) fun cs H3 k2 hk3 hk4 hu hok=>?_;have kn:=kn.callL 1 rfl hu (R.o_ne _);have hx2:=kn.l 0 rfl;simp only[go_sem,Qdg,hx2];intro H4 h4;have kn:=kn.stL 0 rfl h4;have hx2:=kn.l 0 rfl;refine Qk ?_;simp only[go_sem,Qz,Q8,Qea,Jb,forall_eq,RS.op,hx2];exact⟨_,Qjs cs,hK cs _ kn.fin hok⟩
theorem Qbc3 (hfit:∀c∈cs,c.fits):∀c∈Qhi Qkl cs,c.fits:=Q02 (f:=Qkl) hfit fun c h=>Qbe5 h
theorem Qah1 {f:CodeD→CodeD}:∀{l:List CodeD},(∀c∈l,Qqt (f c)≤Qqt c)→Qf6 Qqt (l.map f)≤Qf6 Qqt l
 |[],_=>by simp[Qf6]
 |c::l,h=>by
  have h1:=h c Jam;have h2:=Qah1 (f:=f) fun x hx=>h x (J9 _ hx);simp only[Qf6,Jaa,List.sum_cons]at h2⊢;omega
theorem Qbc4 (hg:Qas cs=true):Qhi Qkl cs=cs.map Qkl∧Qas (cs.map Qkl)=true∧Qhi Qkl (Qhi Qkl cs)=Qhi Qkl cs∧Qa6r (Qhi Qkl cs)≤Qa6r cs:=by
 have e:Qhi Qkl cs=cs.map Qkl:=by rw[Qhi,if_pos hg]
 have hd:=Qa6v hg;refine⟨e,hd,?_,?_⟩
 ·rw[e,Qhi,if_pos hd,J5];refine J4 fun q hq=>?_;obtain⟨i,hi,rfl⟩:=Jc.1 hq;exact Qa8v (Qge hg hi)
 ·rw[e,Qa6r,if_pos hd,Qa6r,if_pos hg];have:=Qah1 (f:=Qkl) (l:=cs) fun c hc=>by
   obtain⟨i,hi,rfl⟩:=Jc.1 hc;exact Qbe3 (Qge hg hi).rchPk (Q3z _ _)
  omega
end Go.AE.Y
namespace Go.AE.Y
attribute [local instance] Classical.propDecidable
variable {cs:List CodeD}{L:CodeD→List Nat}
structure PkL (cs:List CodeD)(L:CodeD→List Nat):Prop where
 p:∀k,k<cs.length→Pk (Qx cs k) (L (Qx cs k))
 n:∀k,k<cs.length→(L (Qx cs k)).Nodup
structure PkF (cs:List CodeD)(L:CodeD→List Nat)(f f':Fr):Prop where
 k:f.k<cs.length
 b:f.b∈L (Qx cs f.k)
 t:∃p,(Q4 (Qx cs f.k) f.b).ins=p++f.todo
 e:f'=⟨f.k,(L (Qx cs f.k)).idxOf f.b,f.todo,f.regs⟩
theorem Qaum {k:Nat}(hk:k<cs.length):Qx (cs.map fun q=>pkE q (L q)) k=pkE (Qx cs k) (L (Qx cs k)):=by
 rw[Qcl (by simpa using hk),Qcl hk];simp
theorem Qa07 {q:CodeD}{l:List Nat}(hn:l.Nodup){b:Nat}(hb:b∈l):Q4 (pkE q l) (l.idxOf b)=pkX q (Q21 q.blocks.length l) l (l.idxOf b):=by
 have hi:=Jg hb;rw[Qap (by rw[Qc4];exact hi),Q03]
theorem pkF0 (hr:RunOk cs)(hL:PkL cs L){k:Nat}(hk:k<cs.length)(l:List Int):PkF cs L (fr0 cs k l) (fr0 (cs.map fun q=>pkE q (L q)) k l):=by
 obtain⟨z1,z2⟩:=Qa08 (hL.p k hk);refine⟨hk,z1,⟨[],rfl⟩,?_⟩;rw[fr0,fr0,Qaum hk];have:=Qa07 (q:=Qx cs k) (hL.n k hk) z1;rw[z2]at this;rw[this];simp only[z2,Fr.mk.injEq,true_and];refine⟨?_,rfl⟩;rw[pkX];have hz:=(hL.p k hk).z;rw[show (L (Qx cs k)).getD 0 0=0 by simp[Ja,hz]]
theorem Qbqs {q:CodeD}{l:List Nat}(ho:q.ok)(hp:Pk q l)(hn:l.Nodup){b n:Nat}(hb:b∈l)(hm:n∈l)(hv:(n:Int)∈gnx q b)(R:List Int)(p:PhiD) :
  Q20 R (wayI (pkE q l) (l.idxOf n) (l.idxOf b)) (nwP q (Q21 q.blocks.length l) l (l.idxOf n) p)=Q20 R (wayI q n b) p:=by
 have hi:=Jg hb;have hj:=Jg hm;have hin:((l.idxOf b:Nat):Int)∈Q0 (pkN q (Q21 q.blocks.length l) l) ((l.idxOf n:Nat):Int) l.length:=by
  rw[Q0];refine Jt.2 ⟨l.idxOf b,?_,rfl⟩;simp only[List.mem_filter,Jaj,List.contains_iff_mem];refine⟨hi,?_⟩;rw[Qxk hi,List.getElem_idxOf hi,Qm2 ho hp hn (Qh4 hp.lt) hb];refine Jt.2 ⟨(n:Int),by rw[←Q41 (hp.lt b hb)];exact hv,by simp⟩
 rw[Q20,Q20,nwP,nwA,wayI,wayI,Qa0h hp,Qc4];congr 1;have hx:=Jg hin;rw[Ja,J1,Jk hx,Jab,Jao,List.getElem_idxOf hx];rw[(hp.get hj).1,List.getElem_idxOf hj,J0,(hp.get hi).1,List.getElem_idxOf hi]
theorem Qbke (hr:RunOk cs)(hL:PkL cs L):SimR cs (cs.map fun q=>pkE q (L q)) (PkF cs L) 1:=by
 refine⟨Jo _,fun k b x t R f' h=>?_,fun k b R f' fs fs' s c h hf=>⟨1,Jo _,?_⟩⟩
 ·obtain⟨hk,hb,⟨p,hp⟩,rfl⟩:=h;have hx:x∈(Q4 (Qx cs k) b).ins:=by rw[hp];simp
  refine⟨_,_,_,_,rfl,⟨rfl,rfl,rfl,fun _=>rfl,fun h14 l _=>?_⟩,fun R' _=>⟨hk,hb,⟨p++[x],by rw[hp];simp⟩,rfl⟩⟩;have:=hr.call k b hk x hx h14;exact pkF0 hr hL (Nat.lt_trans this hk) l
 ·obtain⟨hk,hb,⟨p,hp⟩,rfl⟩:=h;have hP:=hL.p k hk;have hn:=hL.n k hk;have ho:=hr.ok k hk;have hbl:=hP.lt b hb;have hi:=Jg hb;have hblk:=Qa07 (q:=Qx cs k) hn hb;show RelC _ (stJ cs k b R fs s c) (stJ (cs.map fun q=>pkE q (L q)) k ((L (Qx cs k)).idxOf b) R fs' s c);have hX:pkX (Qx cs k) (Q21 (Qx cs k).blocks.length (L (Qx cs k))) (L (Qx cs k)) ((L (Qx cs k)).idxOf b)
    = ⟨(Q4 (Qx cs k) b).phis.map (nwP (Qx cs k) (Q21 (Qx cs k).blocks.length (L (Qx cs k))) (L (Qx cs k)) ((L (Qx cs k)).idxOf b)),(Q4 (Qx cs k) b).ins,(Q4 (Qx cs k) b).jump,(Q4 (Qx cs k) b).on,(Q4 (Qx cs k) b).next.map fun v=>(((L (Qx cs k)).idxOf v.toNat:Nat):Int)⟩:=by
   rw[pkX,(hP.get hi).1,List.getElem_idxOf hi,Qm2 ho hP hn (Qh4 hP.lt) hb]
  have hj':(Q4 (Qx (cs.map fun q=>pkE q (L q)) k) ((L (Qx cs k)).idxOf b)).jump=(Q4 (Qx cs k) b).jump:=by rw[Qaum hk,hblk,hX]
  by_cases hj:(Q4 (Qx cs k) b).jump=3
  ·rw[Qbg6 hj,Qbg6 (by rw[hj',hj]),Qaum hk,hblk,hX];exact SimR.rtnF hf fun k b x t R f' h=>by
    obtain⟨hk,hb,⟨p,hp⟩,rfl⟩:=h;exact⟨_,_,_,_,rfl,rfl,fun R' _=>⟨hk,hb,⟨p++[x],by rw[hp];simp⟩,rfl⟩⟩
  ·rw[Qbg7 hj,Qbg7 (by rw[hj'];exact hj)];obtain⟨v,hv,e,e2⟩:=Qbet hr hk hbl hj R;have hv':v∈gnx (Qx cs k) b:=by rw[Q41 hbl];exact hv
   have hvl:=hP.cl b hb v hv';have hv1:1≤v:=by
    have:=(ho.bs b hbl).nx v (by rw[Qap hbl]at hv;exact hv);omega
   have e':nxB (Q4 (Qx (cs.map fun q=>pkE q (L q)) k) ((L (Qx cs k)).idxOf b)) R=(L (Qx cs k)).idxOf (nxB (Q4 (Qx cs k) b) R):=by
    rw[Qaum hk,hblk,hX,e,nxB,ixB];rw[ixB]at e2;simp only[Ja,J1,e2,Jab,Jao,J0]
   rw[e',e];refine .go s c ⟨hk,hvl,⟨[],rfl⟩,?_⟩ hf;rw[frJ,frJ,Qaum hk,Qa07 hn hvl];simp only[Fr.mk.injEq,true_and];have hjx:=Jg hvl;have g0:(L (Qx cs k)).getD ((L (Qx cs k)).idxOf v.toNat) 0=v.toNat:=by rw[(hP.get hjx).1,List.getElem_idxOf hjx]
   rw[pkX,g0];refine⟨rfl,?_⟩;refine Qbj8 fun p hp=>⟨rfl,?_⟩;exact Qbqs ho hP hn hb hvl (by rw[show ((v.toNat:Nat):Int)=v by omega];exact hv') R p
theorem Qaul (hr:RunOk cs)(hL:PkL cs L)(l:List Int){S:Nat}(hS:S≤60000):Qazy cs (cs.map fun q=>pkE q (L q)) l S:=by
 refine (Qbke hr hL).same (by omega) ?_;rw[Jl];exact pkF0 hr hL (by have:=hr.n;omega) l
end Go.AE.Y
namespace Go.AE.Y
attribute [local instance] Classical.propDecidable
open Go.Proofs.Tryz
variable {H:Heap}{K:V→Heap→Prop}{cs ds:List CodeD}{bs:List UInt8}
theorem Qaam (hgl:H 0=.gl 0 tryC)(hK:∀H',K (.c (.bool true)) H'):Qo prog Qzj [.c (.sl false 1 (Qbf bs))] H K:=
 Qaux (dr:=Qb1) (im:=Qdk) (sp:=Qdo) (P:=fun cs ds=>ds=Qhi Qkl cs) (G:=Qas) (by kernel_rfl) (fun bs H K h=>Qy9 h)
  (fun cs H K hf h=>Q3k hf fun H' hu=>h _ H' rfl hu) (fun cs H K hf h=>Q4v hf fun H' hu=>h _ H' rfl hu) (fun cs a b h1 h2=>h1.trans h2.symm) (fun cs ds hf h=>by rw[h];exact Qbc3 hf)
  (fun cs ds h hg=>by
   obtain⟨h1,h2,_⟩:=Qbc4 hg;rw[h,h1];exact⟨hg,h2,Qa68 fun q=>rfl,fun l=>Qaul (L:=fun q=>rchL q.blocks.length (nxN (gnx q))) (Qwa hg) ⟨fun k hk=>((Qwa hg).ok k hk).rchPk,fun k hk=>Q3z _ _⟩ l (by omega)⟩) hgl hK
end Go.AE.Y
namespace Go.AE.Y
attribute [local instance] Classical.propDecidable
def flt (nx:Nat→List Int)(L:List Int)(i:Nat):List Int:=(nx i).filter fun n=>L.contains (i:Int)&&L.contains n
def gy (nx:Nat→List Int)(b:Nat):Nat→List Int
 |0=>[(b:Int)+1]
 |i+1=>(nx i).map (· + 1)
noncomputable def outS (n:Nat)(g:Nat→List Nat)(h:Nat)(s:Int×Int)(o:Nat):Int×Int:=
 if (!decide (o=h)&&decide (h∈Qah8 n g o))&&(decide (s.1<0) || decide (((Qah8 n g o).length:Int)<s.2))then ((o:Int),((Qah8 n g o).length:Int))else s
noncomputable def outF (n:Nat)(g:Nat→List Nat)(h:Nat)(l:List Nat):Int×Int:=l.foldl (outS n g h) (-1,0)
variable {n:Nat}{g:Nat→List Nat}{h o b k:Nat}
noncomputable def depN (n:Nat)(g:Nat→List Nat)(b:Nat):Nat:=((Qbig n g).filter fun k=>decide (b∈Qah8 n g k)).length
end Go.AE.Y
namespace Go.AE.Y
open Go.Proofs.Tryz
variable {H H0:Heap}{K:V→Heap→Prop}{E B Lg:List (Nat×Obj)}
noncomputable def depT (n:Nat)(g:Nat→List Nat)(b i:Nat):Nat:=(((Qbig n g).take i).filter fun k=>decide (b∈Qah8 n g k)).length
noncomputable def outI (n:Nat)(nx:Nat→List Int)(h:Int):Int:=if ((Qbl8 n nx).map Int.ofNat).contains h then (outF n (nxN nx) h.toNat (Qbig n (nxN nx))).1 else -1
def InN (n:Nat)(ns:List Int):Prop:=∀x∈ns,0≤x∧x<(n:Int)
def MInt (es:List (C×V)):Prop:=∀e∈es,∃k n:Int,e=(.int .i64 k,.c (.int .i64 n))
theorem MInt.ok {es:List (C×V)}(h:MInt es)(k:Int):Qmy 0 (.int .i64 k) es=True:=by
 refine eq_true ?_;simp only[Qmy];intro e he;obtain⟨k,n,rfl⟩:=h e he;exact⟨k,rfl⟩
theorem MInt.upd {es:List (C×V)}(h:MInt es)(k n:Int):MInt (updE (.int .i64 k) (.c (.int .i64 n)) es)∧(updE (.int .i64 k) (.c (.int .i64 n)) es).length≤es.length+1:=by
 induction es with
 |nil=>exact⟨fun e he=>⟨k,n,by simpa[updE]using he⟩,by simp[updE]⟩
 |cons e es ih=>
  obtain⟨i1,i2⟩:=ih fun x hx=>h x (J9 _ hx);simp only[updE];split
  ·refine⟨fun x hx=>?_,by simp⟩;rcases Jas.1 hx with rfl|hx
   ·exact⟨k,n,rfl⟩
   ·exact h x (J9 _ hx)
  ·refine⟨fun x hx=>?_,by simp only[Jm];omega⟩;rcases Jas.1 hx with rfl|hx
   ·exact h x Jam
   ·exact i1 x hx
def edgC (x:Int×Int):C:=.sl true 1 [[.int .i64 x.1],[.int .i64 x.2]]
def edgR (l:List (Int×Int)):List (List C):=l.map fun x=>[edgC x]
def InE (n:Nat)(l:List (Int×Int)):Prop:=∀x∈l,(0≤x.1∧x.1<(n:Int))∧0≤x.2∧x.2<(n:Int)
structure RvOk (ns:List Int)(i:Nat)(ns':List Int):Prop where
 len:ns'.length=ns.length
 f:∀k,k<ns.length→ns'.getD k 0=if k<i∨ns.length<k+i+1 then ns.getD (ns.length-1-k) 0 else ns.getD k 0
theorem RvOk.zero (ns:List Int):RvOk ns 0 ns:=⟨rfl,fun k hk=>by rw[if_neg (by omega)]⟩
theorem Qaa7 (l:List Int)(i k:Nat)(v:Int)(hi:i<l.length):(l.set i v).getD k 0=if k=i then v else l.getD k 0:=by
 simp only[Ja,List.getElem?_set];by_cases h:i=k
 ·subst h;simp[hi]
 ·rw[if_neg h,if_neg (fun e=>h e.symm)]
theorem RvOk.step {ns ns':List Int}{i jn:Nat}(h:RvOk ns i ns')(hj:jn+i+1=ns.length)(hij:i<jn):RvOk ns (i+1) ((ns'.set i (ns'.getD jn 0)).set jn (ns'.getD i 0)):=by
 have hl:=h.len;refine⟨by rw[Jq,Jq];exact hl,fun k hk=>?_⟩;rw[Qaa7 _ _ _ _ (by rw[Jq];omega),Qaa7 _ _ _ _ (by omega)];have f1:=h.f i (by omega);have f2:=h.f jn (by omega);rw[if_neg (by omega)]at f1 f2;by_cases h1:k=jn
 ·subst h1;rw[if_pos rfl,if_pos (by omega),f1];have:ns.length-1-k=i:=by omega
  rw[this]
 ·rw[if_neg h1];by_cases h2:k=i
  ·subst h2;rw[if_pos rfl,if_pos (by omega),f2];have:ns.length-1-k=jn:=by omega
   rw[this]
  ·rw[if_neg h2,h.f k hk];by_cases h3:k<i∨ns.length<k+i+1
   ·rw[if_pos h3,if_pos (by omega)]
   ·rw[if_neg h3,if_neg (by omega)]
theorem RvOk.fin {ns ns':List Int}{i:Nat}(h:RvOk ns i ns')(hi:ns.length≤i+i+1):ns'=ns.reverse:=by
 have hl:=h.len;refine J2 (by rw[List.length_reverse];exact hl) fun k h1 h2=>?_;have hk:k<ns.length:=by omega
 have hgd:∀(L:List Int) (i:Nat) (h:i<L.length),L.getD i 0=L[i]:=fun L i h=>by simp[Ja,h]
 have:=h.f k hk;rw[hgd _ _ h1]at this;rw[this,List.getElem_reverse];by_cases h3:k<i∨ns.length<k+i+1
 ·rw[if_pos h3,hgd _ _ (by omega)]
 ·rw[if_neg h3,hgd _ _ hk];have:k=ns.length-1-k:=by omega
  congr 1
def InF (n:Nat)(l:List (Int×Int)):Prop:=∀x∈l,(0≤x.1∧x.1<(n:Int))∧0≤x.2∧x.2<(n:Int)∧x.2≤x.1
theorem Qa8f {c:C}{ns:List Int}(kn:Kn H0 H E (B++Lg))(hgr:Gr Lg 1 (Qb ns) c)(hL:ns.length≤2 ^ 38)
  (hK:∀Lg' H',Gr Lg' 1 (Qb ns.reverse) c→Kn H0 H' E (B++Lg')→K (.tup []) H'):Qo prog Qms [.c c] H K:=by
 have how:=hgr.isOw;have hok:=eq_true (hgr.okSl kn);have hlen:=hgr.lenC;refine Qd Qai Qaud ?_;refine Qa ?_;simp only[go_sem,how,hok,hlen,Qc];intro _;refine⟨Qr (by omega) (by omega),?_⟩;refine Qf (Qw (fun m e1 H1=>∃(i:Nat) (j:Int) (ns':List Int) (Lg':List (Nat×Obj)),m=ns.length-i∧i≤ns.length∧j=(ns.length:Int)-1-i∧-1≤j∧RvOk ns i ns'∧Gr Lg' 1 (Qb ns') c∧Kn H0 H1 E (B++Lg')∧
  e1=[(0,.c c),(2,.c (.int .i64 i)),(3,.c (.int .i64 j))]) ns.length ?_ ?_)
 ·exact⟨0,(ns.length:Int)-1,ns,Lg,by omega,by omega,by omega,by omega,RvOk.zero ns,hgr,kn,rfl⟩
 ·rintro m e1 H1 ⟨i,j,ns',Lg',hm,hi,hj,hj0,hp,hgr,kn,rfl⟩;have hpl:=hp.len;refine Q5 ?_;refine Qa ?_;simp only[go_sem,how];refine Qh (Qe rfl ?_ ?_)
  ·intro hc;have hij:(i:Int)<j:=of_decide_eq_true hc;obtain⟨jn,rfl⟩:=Int.eq_ofNat_of_zero_le (by omega:0≤j);have hil:i<ns'.length:=by omega
   have hjl:jn<ns'.length:=by omega
   obtain⟨z,rfl,rfl⟩:∃z,c=.vsl z 1 0 ns'.length∧Lg'=[(z,.vec 1 (Qb ns'))]:=by
    rcases hgr with ⟨_,h,_⟩|⟨y,h1,h2⟩
    ·have:ns'.length=0:=(by rw[←Qc,h];rfl);omega
    ·exact⟨y,by rw[h1,Qc],h2⟩
   have hz:=kn.l B.length (l:=z) (o:=.vec 1 (Qb ns')) (by simp);have htk:(Qb ns').take ns'.length=Qb ns':=Jr (by rw[Qc];exact Jo _);refine Qi ?_;simp only[go_sem];refine Qh (Qf ?_);refine Qbg ?_;simp only[go_sem,hz,hil,hjl,htk,Qc,Qm _ _ hil,Qm _ _ hjl,Qcc,Jx,Jo];intro H2 h2;have kn2:=kn.stL B.length (x:=z) (o:=.vec 1 (Qb ns')) (by simp) h2;have kn:Kn H0 H2 E (B++[(z,.vec 1 (Qb (ns'.set i (ns'.getD jn 0))))]):=by simpa using kn2
   have hz:=kn.l B.length (l:=z) (o:=.vec 1 (Qb (ns'.set i (ns'.getD jn 0)))) (by simp);have hjl2:jn<(ns'.set i (ns'.getD jn 0)).length:=by simpa using hjl
   simp only[go_sem,Qvf,hz,hjl,Qc,Jq,Qm _ _ hjl2,Qcc,Jx,Jo];intro H3 h3;have kn3:=kn.stL B.length (x:=z) (o:=.vec 1 (Qb (ns'.set i (ns'.getD jn 0)))) (by simp) h3;have kn:Kn H0 H3 E (B++[(z,.vec 1 (Qb ((ns'.set i (ns'.getD jn 0)).set jn (ns'.getD i 0))))]):=by simpa using kn3
   have hlen2:((ns'.set i (ns'.getD jn 0)).set jn (ns'.getD i 0)).length=ns'.length:=by simp
   refine Qt ?_;simp only[go_sem,X.next];refine⟨Qr (by omega) (by omega),Qr (by omega) (by omega),ns.length-(i+1),by omega,i+1,(jn:Int)-1,(ns'.set i (ns'.getD jn 0)).set jn (ns'.getD i 0),[(z,.vec 1 (Qb ((ns'.set i (ns'.getD jn 0)).set jn (ns'.getD i 0))))],rfl,by omega,by omega,by omega,?_,?_,kn,rfl⟩
   ·exact hp.step (by omega) (by omega)
   ·exact .inr ⟨z,by rw[Qc,hlen2],rfl⟩
  ·intro hc;refine Qv ?_;simp only[go_sem,X.next,Qz,Q8,Q5j,Jj];have hij:¬(i:Int)<j:=of_decide_eq_false hc;rw[hp.fin (by omega)]at hgr;exact⟨fun _=>trivial,hK Lg' H1 hgr kn⟩
theorem Qa8e {p rg:Int}{fl:Bool}{rows:List (List C)}{nx:Nat→List Int}(hg:GF rows nx)(hf:Qev rows.length nx=true)
  (hK:∀(S:List Bool) (o:List Nat) H',Upd H H' []→Dfs (nxN nx) [0] (List.replicate rows.length false) [] S o→K (.c (.sl false 1 (Qag o.reverse))) H') :
  Qo prog Qmb [.ag [.int .i64 p,.int .i64 rg,.sl fl 5 rows]] H K:=by
 have hn:=hg.n;have hn0:=Qkn hf;refine Qu ?_;refine Qd Qai Qatr ?_;refine Qa ?_;simp only[go_sem];refine Q5 ?_;refine Qa ?_;simp only[go_sem];refine Qatg (hg.grd _ _) ?_;simp only[go_sem,Qrr,hf];refine Qh (Qe rfl (fun h=>by simp at h) (fun _=>?_));refine Qi ?_;simp only[go_sem];refine Qa ?_;simp only[go_sem];refine Q7p (hg.grd _ _) hf (by omega) fun S o t Lg H1 hgr kn hd=>?_;have how:=hgr.isOw;simp only[go_sem,Qrs];have hgl:∀x,x<(List.replicate rows.length false).length→∀y∈nxN nx x,y<(List.replicate rows.length false).length:=by
  rw[Jf];exact fun x hx y hy=>Qxj hf hx hy
 have hx0:∀x∈[0],x<(List.replicate rows.length false).length:=by rw[Jf];simpa using hn0
 have hcount:=hd.count hgl hx0;have hc0:cnt (List.replicate rows.length false)=0:=by simp[cnt,List.count_replicate]
 have hcl:=Q0l S;have hSl:=hd.len;rw[Jf]at hSl;have hol:o.length≤rows.length:=by simp only[Ji]at hcount;omega
 have hgr:Gr Lg 1 (Qb (o.map Int.ofNat)) t:=hgr;refine Qa ?_;simp only[go_sem,how];refine Qa8f kn hgr (by rw[Jl];omega) fun Lg2 H2 hgr kn=>?_;rw[←List.map_reverse]at hgr;refine Qa ?_;simp only[go_sem,how];refine Qk ?_;simp only[go_sem,Qz,Q8,Q48,Jb,forall_eq,RS.op,how];exact⟨_,.c _ _ (hgr.frz kn (Qn _)),hK S o _ kn.fin hd⟩
end Go.AE.Y
namespace Go.AE.Y
attribute [local go_sem] cond_true cond_false Bool.not_true Bool.not_false
attribute [local instance] Classical.propDecidable
open Go.Proofs.Tryz
variable {H H0:Heap}{K:V→Heap→Prop}{fl:Bool}{q:CodeD}{cs:List CodeD}
theorem Qa05 (ho:q.ok)(hK:∀H',Upd H H' []→K (.ag (Qm0 q).cells) H') :
  Qo prog Qd1 [.ag [.int .i64 q.params,.int .i64 q.regs,.sl fl 5 (Qs q.blocks)]] H K:=by
 have hb1:=ho.b1;refine Qu ?_;refine Qd Qai Q3n ?_;refine Qa ?_;simp only[go_sem];intro x2 hx2 H1 h1;have kn:=(Kn.start0 H).al hx2 h1;refine Qad ?_;simp only[go_sem];refine Qa8e (rows:=Qs q.blocks) (nx:=gnx q) (Qa0g ho.gd) (by rw[Qp];exact ho.fitB) fun S o H2 hu hd=>?_;rw[Qp]at hd;have hv:Qah7 q S o:=hd;have hpk:=Qauj ho;have he:ordL q=o.reverse:=by rw[ordL,Qah2 hv]
 have kn:=kn.call0 hu;rw[←he];simp only[go_sem,Qgi];refine Qa7g ho hpk.1 hpk.2 fun H3 hu=>?_;have kn:=kn.call0 hu;have hx2:=kn.l 0 rfl;simp only[go_sem,Qgh,CodeD.cells,hx2];intro H4 h4;have kn:=kn.stL 0 rfl h4;have hx2:=kn.l 0 rfl;refine Qk ?_;simp only[go_sem,Qz,Q8,Qk1,Jb,forall_eq,RS.op,hx2];exact⟨_,FrzL.ag (.cons (.same _ rfl) (.cons (.same _ rfl) (.cons (.same _ rfl) .nil))),hK _ kn.fin⟩
theorem Qao4 (hfit:∀c∈cs,c.fits)(hK:∀H',Upd H H' []→K (.tup [.ag [.sl false 3 (Ql (Qhi Qm0 cs))],.c (.bool (Qas cs))]) H') :
  Qo prog Qhn [.ag [.sl fl 3 (Ql cs)]] H K:=by
 refine Qu ?_;refine Qd Qai Qaic ?_;refine Qa ?_;simp only[go_sem];intro x2 hx2 H1 h1;have kn:=(Kn.start0 H).al hx2 h1;simp only[go_sem,Qlc];refine Qa ?_;simp only[go_sem];refine Qan0 (f:=Qm0) hfit (fun hg p hp H K fl hK=>?_) fun H2 hu=>?_
 ·obtain⟨i,hi,rfl⟩:=Jc.1 hp;exact Qa05 (Qge hg hi) hK
 have kn:=kn.call0 hu;have hx2:=kn.l 0 rfl;simp only[go_sem,Qle,hx2,Jh,Jn];intro H4 h4;have kn:=kn.stL 0 rfl h4;have hx2:=kn.l 0 rfl;simp only[go_sem,Qld];refine Qk ?_;simp only[go_sem,X.next,Qz,Q8,Qxl,Je,Jj,RS.op,hx2];exact⟨fun _=>trivial,_,Qmt (Qjs _) (.c _ _ (Qg rfl)),hK _ kn.fin⟩
theorem Qa9b (hq:q.ok)(hK:∀H',Upd H H' []→K (.ag (Qm0 q).cells) H') :
  Qo prog Qkp [.ag [.int .i64 q.params,.int .i64 q.regs,.sl false 5 (Qs q.blocks)],.c (.str [111,114,100,101,114])] H K:=by
 have hpk:=Qauj hq;refine Qu ?_;refine Qd Qai Qat0 ?_;refine Qa ?_;simp only[go_sem];intro x4 hx4 H1 h1;have kn:=(Kn.start0 H).al hx4 h1;refine Q5 ?_;refine Qa ?_;simp only[go_sem];refine Qh (Qf ?_);refine Qa ?_;simp only[go_sem];refine Qe rfl (fun hc=>absurd hc (by decide)) (fun _=>?_);refine Qa ?_;simp only[go_sem];refine Qe rfl (fun _=>?_) (fun hc=>absurd hc (by decide));refine Qad ?_;simp only[go_sem];refine Qaba (rows:=Qs q.blocks) (nx:=gnx q) (Qa0g hq.gd) (by rw[Qp];exact hq.fitB) fun S o H2 hu hd=>?_;rw[Qp]at hd;have hv:Qah7 q S o:=hd;have he:ordL q=o.reverse:=by rw[ordL,Qah2 hv]
 have kn:=kn.call0 hu;rw[←he];simp only[go_sem,Q58];refine Qans hq hpk.1 fun d z H3 hR hP k2=>?_;obtain⟨P,hP,hd⟩:=hP;rw[Qbmc hq hpk.1 hpk.2 hP]at hd;have hd:d=Qm0 q:=hd;subst hd;have kn:=kn.comp0 k2;have hx4:=kn.l 0 rfl;simp only[go_sem,Q57,hx4];intro H3 h3;have kn:Kn H H3 [] ([(x4,.st [.int .i64 q.params,.int .i64 q.regs,.vsl z 5 0 (Qm0 q).blocks.length])]++[(z,.vec 5 (Qs (Qm0 q).blocks))]):=kn.stL 0 rfl h3;have hx4:=kn.l 0 rfl;have hz:=kn.l 1 rfl;refine Qk ?_;simp only[go_sem,X.next,Qz,Q8,Qab3,Jb,forall_eq,RS.op,hx4];exact⟨_,FrzL.ag (.cons (Qg rfl) (.cons (Qg rfl) (.cons (FrzR.vsl (kn.un 1 rfl) hz (by rw[Qp]) (FrzR.same (Qza _))) .nil))),hK _ kn.fin⟩
theorem Qa7i {l:List Nat}(h:q.fits):(pkE q l).fits:=fun y hy=>by
 obtain⟨b,hb,rfl⟩:=Jc.1 hy;rw[Q03,pkX];by_cases hl:l.getD b 0<q.blocks.length
 ·have:=h _ (Jd hl);rw[Qap hl];simpa using this
 ·have e:Q4 q (l.getD b 0)=⟨[],[],0,0,[]⟩:=by rw[Q4,Ja,Js (by omega)];rfl
  rw[e];simp
theorem Qa7c (cs:List CodeD):Q01 (Qhi Qm0 cs) (Qas cs)=Qhi Qm0 cs∧(Qas cs&&Qas (Qhi Qm0 cs))=Qas cs:=by
 cases hg:Qas cs with
 |false=>simp[Q01,Qhi,hg]
 |true=>
  have h:=Qa7d hg;have e:Qhi Qm0 cs=cs.map Qm0:=by rw[Qhi,if_pos hg]
  rw[e,Q01,h];simp
theorem Qaso (hfit:∀c∈cs,c.fits)(hK:∀H',Upd H H' []→K (.tup [.ag [.sl false 3 (Ql (Qhi Qm0 cs))],.c (.bool (Qas cs))]) H') :
  Qo prog Qh1 [.ag [.sl fl 3 (Ql cs)]] H K:=by
 refine Qu ?_;refine Qd Qai Qaiq ?_;refine Qa ?_;simp only[go_sem];intro x2 hx2 H1 h1;have kn:=(Kn.start0 H).al hx2 h1;simp only[go_sem,Qlw];refine Qa ?_;simp only[go_sem];refine Qanr (f:=Qm0) hfit (Q02 (f:=Qm0) hfit fun c h=>Qa7i h) (fun hg p hp H K hK=>?_) fun H2 hu=>?_
 ·obtain⟨i,hi,rfl⟩:=Jc.1 hp;exact Qa9b (Qge hg hi) hK
 rw[(Qa7c cs).1,(Qa7c cs).2];have kn:=kn.call0 hu;have hx2:=kn.l 0 rfl;simp only[go_sem,Qly,Jh,Jn,hx2];intro H3 h3;have kn:=kn.stL 0 rfl h3;have hx2:=kn.l 0 rfl;simp only[go_sem,Qlx];refine Qk ?_;simp only[go_sem,Qz,Q8,Qxu,Je,Jj,RS.op,hx2];exact⟨fun _=>trivial,_,Qmt (Qjs _) (.c _ _ (Qg rfl)),hK _ kn.fin⟩
end Go.AE.Y
namespace Go.AE.Y
attribute [local go_sem] cond_true cond_false Bool.not_true Bool.not_false
attribute [local instance] Classical.propDecidable
open Go.Proofs.Tryz
variable {H H0:Heap}{K:V→Heap→Prop}{fl:Bool}{cs:List CodeD}
theorem Qaal {bs:List UInt8}(hK:∀(cs:List CodeD) H',Upd H H' []→UnitOk cs→K (.ag [.sl false 3 (Ql cs)]) H') :
  Qo prog Qdn [.c (.sl fl 1 (Qbf bs))] H K:=by
 refine Qu ?_;refine Qd Qai Q0z ?_;refine Qa ?_;simp only[go_sem];intro x2 hx2 H1 h1;have kn:=(Kn.start0 H).al hx2 h1;refine Qa ?_;simp only[go_sem];refine Qatn fun R H2 hR h2=>?_;have kn:=kn.al hR h2 (R.o_ne 0);simp only[go_sem,Qf2];refine Qatm (kn.l 1 rfl) (by omega) fun cs H3 k2 hk3 hk4 hu hok=>?_;have kn:=kn.callL 1 rfl hu (R.o_ne _);have hx2:=kn.l 0 rfl;simp only[go_sem,Qf1,hx2];intro H4 h4;have kn:=kn.stL 0 rfl h4;have hx2:=kn.l 0 rfl;refine Qk ?_;simp only[go_sem,Qz,Q8,Qji,Jb,forall_eq,RS.op,hx2];exact⟨_,Qjs cs,hK cs _ kn.fin hok⟩
theorem Qbev (hfit:∀c∈cs,c.fits):∀c∈Qhi Qm0 cs,c.fits:=Q02 (f:=Qm0) hfit fun c h=>Qa7i h
theorem Qbew (hg:Qas cs=true):Qhi Qm0 cs=cs.map Qm0∧Qas (cs.map Qm0)=true∧Qhi Qm0 (Qhi Qm0 cs)=Qhi Qm0 cs:=by
 have e:Qhi Qm0 cs=cs.map Qm0:=by rw[Qhi,if_pos hg]
 have hd:=Qa7d hg;refine⟨e,hd,?_⟩;rw[e,Qhi,if_pos hd,J5];refine J4 fun q hq=>?_;obtain⟨i,hi,rfl⟩:=Jc.1 hq;exact Qa9w (Qge hg hi)
end Go.AE.Y
namespace Go.AE.Y
attribute [local instance] Classical.propDecidable
open Go.Proofs.Tryz
variable {H:Heap}{K:V→Heap→Prop}{cs ds:List CodeD}{bs:List UInt8}
theorem FnOrderRuns_c (hgl:H 0=.gl 0 tryC)(hK:∀H',K (.c (.bool true)) H'):Qo prog Q3h [.c (.sl false 1 (Qbf bs))] H K:=
 Qaux (dr:=Qdn) (im:=Qhn) (sp:=Qh1) (P:=fun cs ds=>ds=Qhi Qm0 cs) (G:=Qas) (by kernel_rfl) (fun bs H K h=>Qaal h)
  (fun cs H K hf h=>Qao4 hf fun H' hu=>h _ H' rfl hu) (fun cs H K hf h=>Qaso hf fun H' hu=>h _ H' rfl hu) (fun cs a b h1 h2=>h1.trans h2.symm) (fun cs ds hf h=>by rw[h];exact Qbev hf)
  (fun cs ds h hg=>by
   obtain⟨h1,h2,_⟩:=Qbew hg;rw[h,h1];exact⟨hg,h2,Qa68 fun q=>rfl,fun l=>Qaul (L:=ordL) (Qwa hg) ⟨fun k hk=>(Qauj ((Qwa hg).ok k hk)).1,fun k hk=>(Qauj ((Qwa hg).ok k hk)).2⟩ l (by omega)⟩) hgl hK
end Go.AE.Y
namespace Go.AE.Y
open Go.ChangeShapes Go.WideShapes Go.ChangeAt Go.RowKit
def Qazw (w:World)(a:Option Addr)(len cap:Nat)(zs:List Int):Prop:=
 (a=none∧len=0∧cap=0∧zs=[])∨
 ∃x,a=some x∧len≤cap∧zs.length=cap∧(∀i,i<zs.length→w.cell? (x.add i)=some (.int .u8 (zs.getD i 0)))∧∀n∈zs,(Lit.int .u8 n).wf=true
def gh3 (w:World):G:=⟨fun b=>decide (b<w.heap.size),fun _=>none,fun l=>if l=0 then some (0,9,0)else none⟩
def hp3:Heap:=fun l=>if l=0 then .gl 0 tryC else .none
def tryZ:List Int:=[0,0,0,1,2,3,255,16,7]
theorem Qbcd (w:World)(ht:∀j,j<9→w.cell? ⟨0,j,none⟩=some (.int .i64 (tryZ.getD j 0))):Sat hp3 (gh3 w) w:=by
 have h0:0<w.heap.size:=by
  have:=ht 0 (by omega);rcases Jac w.heap.size with h|h
  ·simp[World.cell?,Jag (show w.heap.size≤0 by omega)]at this
  ·exact h
 have hz:∀(j:Nat) (c:C),tryC[j]? = some c→j<9∧c=.int .i64 (tryZ.getD j 0):=by
  intro j c h;have hj:j<9:=(List.getElem?_eq_some_iff.1 h).1;refine⟨hj,?_⟩;have e:tryC=Qiy tryZ:=rfl;rw[e,Qiy,J1]at h;have hl:j<tryZ.length:=hj;rw[Jk hl]at h;simp at h;rw[←h,Ja,Jk hl];rfl
 refine⟨fun b hb=>⟨by simp[gh3];omega,rfl⟩,⟨1,fun l hl=>by simp[gh3];omega⟩,fun b x h=>by simp[gh3]at h,fun b l p h=>by simp[gh3]at h,fun l=>?_⟩;by_cases hl:l=0
 ·subst hl;refine⟨9,fun j=>.int .i64 (tryZ.getD j 0),by simp[gh3],by simpa[gh3]using h0,fun j c h=>?_,fun j c h=>?_⟩
  ·exact ht j (hz j c h).1
  ·rw[(hz j c h).2];exact .int _ _
 ·rw[hp3,if_neg hl];trivial
theorem Qbmv {n:Int}(h:(Lit.int .u8 n).wf=true):((UInt8.ofNat n.toNat).toNat:Int)=n:=by
 simp only[Lit.wf,Jaf,decide_eq_true_eq]at h;have a1:IntKind.min .u8=0:=by decide
 have a2:IntKind.max .u8=255:=by decide
 rw[a1,a2]at h;rw[UInt8.toNat_ofNat'];omega
theorem Qaao {P:Program}{f:Nat}(h:∀bs:List UInt8,bs.length≤1048576→Qo P f [.c (.sl false 1 (Qbf bs))] hp3 fun v _=>v=.c (.bool true))
  {a0:Option Addr} {len0 cap0:Nat} {z0:List Int} {w:World} (ht:∀j,j<9→w.cell? ⟨0,j,none⟩=some (.int .i64 (tryZ.getD j 0))) (hr:Qazw w a0 len0 cap0 z0) (hl:len0≤1048576) :
  Calls P f #[.slice a0 len0 cap0] w fun e w'=>e=.returned (.bool true)∧Below w.heap.size w w':=by
 have key:∃bs:List UInt8,bs.length=len0∧RepC w (gh3 w) (.sl false 1 (Qbf bs)) (.slice a0 len0 cap0):=by
  rcases hr with ⟨rfl,rfl,rfl,rfl⟩|⟨x,rfl,hlc,hz,hcell,hwf⟩
  ·exact⟨[],rfl,.slnil _ _ _⟩
  ·obtain⟨b,off,spot⟩:=x;have hbl:((z0.take len0).map fun n=>UInt8.ofNat n.toNat).length=len0:=by simp;omega
   by_cases h0:cap0=0
   ·subst h0;have:len0=0:=(by omega);subst this;exact⟨[],rfl,.slnil _ _ _⟩
   have hc0:=hcell 0 (by omega);have hspot:spot=none:=by simpa[Addr.add]using World.cell?_spot hc0
   subst hspot;have hadd:∀i,(⟨b,off,none⟩:Addr).add i=⟨b,off+i,none⟩:=by
    intro i;by_cases h:i=0 <;> simp[Addr.add,h]
   have hb:b<w.heap.size:=by
    rcases Jat b w.heap.size with h|h
    ·exact h
    ·simp[World.cell?,Addr.add,Jag h]at hc0
   refine⟨_,hbl,?_⟩;have hget:∀(i:Nat) (row:List C),(Qbf ((z0.take len0).map fun n=>UInt8.ofNat n.toNat))[i]? = some row→i<len0∧row=[.int .u8 (z0.getD i 0)]:=by
    intro i row hi;have hlt:i<len0:=by
     rcases Jat i len0 with h|h
     ·exact h
     ·rw[Js (by rw[Qat];omega)]at hi;simp at hi
    have hz0:i<z0.length:=(by omega);refine⟨hlt,?_⟩;simp only[Qbf,J1,List.getElem?_take,if_pos hlt,Jk hz0,Jab,Jau]at hi;rw[←hi,Qbmv (hwf _ (Jd hz0))];simp[Ja,hz0]
   have:=RepC.sl (w:=w) (g:=(gh3 w)) false 1 (Qbf ((z0.take len0).map fun n=>UInt8.ofNat n.toNat)) b off cap0 (fun i _=>.int .u8 (z0.getD i 0))
    (by rw[Qat,hbl];simp only[LIM];omega) (by simp) (by rw[Qat,hbl];exact hlc) (by simpa[gh3]using hb)
    (fun i row hi=>by rw[(hget i row hi).2];rfl)
    (fun i row j c hi hj=>by
     obtain⟨h1,rfl⟩:=hget i row hi;have hj0:j=0:=by
      rcases Jac j with h|h
      ·exact h
      ·rw[Js (by simp;omega)]at hj;simp at hj
     subst hj0;have:=hcell i (by omega);rw[hadd]at this;simpa using this)
    (fun i row j c hi hj=>by
     obtain⟨h1,rfl⟩:=hget i row hi;have hj0:j=0:=by
      rcases Jac j with h|h
      ·exact h
      ·rw[Js (by simp;omega)]at hj;simp at hj
     subst hj0;simp at hj;subst hj;exact .int _ _)
   rw[Qat,hbl]at this;exact this
 obtain⟨bs,hbl,hrep⟩:=key;have hc:=(h bs (by omega)).2 _ w [.slice a0 len0 cap0] (Qbcd w ht) rfl (fun j x u hj hu=>by
  cases j with
  |zero=>simp at hj hu;subst hj;subst hu;exact .c _ _ hrep
  |succ j=>simp at hj)
 refine hc.mono fun e w'=>?_;rintro (⟨v,x,H',g',rfl,rfl,hst,hv⟩|⟨v,H',g',_,h,_⟩)
 rotate_left
 ·cases h
 have:v=.bool true:=by cases hv with|c _ _ h=>cases h;rfl
 subst this;exact⟨rfl,hst.le.os,hst.le.tape,hst.le.output,hst.le.size,fun k hk=>(hst.le.per k (by simpa[gh3]using hk)).2⟩
end Go.AE.Y
namespace Go.Proofs.YtlfdcfggpccakaaGreatDoor.fnDropReachedDone
open Go.ChangeShapes Go.WideShapes Go.ChangeAt Go.RowKit Go.AE.Y
theorem own:ownKnob Tryz.prog.godebug=none:=by kernel_rfl
theorem laidOut:laidOutB Tryz.prog=true:=by kernel_rfl
def laidL : List (String × DataW Unit) := [("loop.example/wholeway/impl.tries", Rows.laid_loop_example_wholeway_impl_tries)]
theorem gTries : Tryz.prog.globalNamed "loop.example/wholeway/impl.tries" = some 0 := by kernel_rfl
theorem tTries:(Tryz.prog.globals[0]?).map (·.type)=some 118:=by kernel_rfl
theorem door_met (os:Os)(args:Array Value):laidMetH Tryz.prog laidL ((World.doorLaid Tryz.prog 17 os).forCall (fun _ _=>0) ⟨#[],args,[]⟩).memory:=
 laidMetH_of_parts3 (fuel:=8) (laidMet_of_run' 8 (by kernel_rfl) (by kernel_rfl)) (by kernel_rfl) (by kernel_rfl)
set_option maxRecDepth 100000 in
theorem part3 {enc:TypeId×Value→Unit}{W:World}{m:Nat}{c:List Value}{a b d:Int}{p:List MemPlace}{sp:Nat→Bool}{hd:Bool}(h:DataW.trod enc Tryz.prog W 0 sp hd m 117 c=some (.agg [.lit (.int .i64 a),.lit (.int .i64 b),.lit (.int .i64 d)],p)):c=[.int .i64 a,.int .i64 b,.int .i64 d]:=by
 have c3:Tryz.prog.cellsOf 3=1:=by kernel_rfl
 have c117:Tryz.prog.cellsOf 117=3:=by kernel_rfl
 obtain⟨xs,m,_,ex,hlen,hl,hel⟩:=DataW.trod_array Tryz.underlying117 h;rw[c117]at hlen
 match c,hlen with
 |[c0,c1,c2],_=>
  match xs,hl with
  |[x0,x1,x2],_=>
   have e3:=(DataW.agg.inj (Prod.mk.inj ex).1);simp only[Jaa,Jah,Jaq,and_true]at e3;have k0:=hel 0 (by omega);have k1:=hel 1 (by omega);have k2:=hel 2 (by omega);rw[c3]at k0 k1 k2;obtain⟨z0,a0,b0,_⟩:=DataW.trod_int Tryz.underlying3 k0;obtain⟨z1,a1,b1,_⟩:=DataW.trod_int Tryz.underlying3 k1;obtain⟨z2,a2,b2,_⟩:=DataW.trod_int Tryz.underlying3 k2
   simp_all
set_option maxRecDepth 100000 in
theorem tries_of {W:World}(h:laidMetH Tryz.prog laidL W):∀j,j<9→W.cell? ⟨0,j,none⟩=some (.int .i64 (tryZ.getD j 0)):=by
 rw[MakeChecks.laidMetH_plain _ _ _ (by kernel_rfl)]at h;obtain⟨ps,⟨g,t,cs,fuel,p,q,hg,ht,hv,hd,_,_⟩,_,_⟩:=h;obtain rfl:=J6 (gTries.symm.trans hg);obtain rfl:=J6 (tTries.symm.trans ht);have c117:Tryz.prog.cellsOf 117=3:=by kernel_rfl
 have c118:Tryz.prog.cellsOf 118=9:=by kernel_rfl
 obtain⟨xs,m,_,ex,hlen,hl,hel⟩:=DataW.trod_array Tryz.underlying118 hd;rw[c118]at hlen;obtain⟨l⟩:=cs
 match xs,hl with
 |[x0,x1,x2],_=>
  have e3:=(DataW.agg.inj (Prod.mk.inj ex).1);simp only[Jaa,Jah,Jaq,and_true]at e3;have k0:=hel 0 (by omega);have k1:=hel 1 (by omega);have k2:=hel 2 (by omega);rw[c117]at k0 k1 k2;obtain⟨x0,p0⟩:=x0;obtain⟨x1,p1⟩:=x1;obtain⟨x2,p2⟩:=x2;obtain⟨e0,e1,e2⟩:=e3;simp only at e0 e1 e2;subst e0;subst e1;subst e2;have q0:=part3 k0;have q1:=part3 k1;have q2:=part3 k2;have hl9:l.length=9:=by simpa using hlen
  match l,hl9 with
  |[a0,a1,a2,a3,a4,a5,a6,a7,a8],_=>
   simp at q0 q1 q2;intro j hj;have:=World.var?_cell hg hv j;rw[this];obtain⟨rfl,rfl,rfl⟩:=q0;obtain⟨rfl,rfl,rfl⟩:=q1;obtain⟨rfl,rfl,rfl⟩:=q2;have hh:j=0∨j=1∨j=2∨j=3∨j=4∨j=5∨j=6∨j=7∨j=8:=by omega
   rcases hh with rfl|rfl|rfl|rfl|rfl|rfl|rfl|rfl|rfl <;> rfl
set_option maxRecDepth 20000 in
theorem far (a0:Option Addr)(len0 cap0:Nat)(w:World)(hl:¬len0≤1048576)(hm:len0≤maxLen) :
  Calls Tryz.prog 3 #[.slice a0 len0 cap0] w fun e w'=>e=.returned (.bool true)∧Below w.heap.size w w':=by
 have hp:(1048576:Int)<(len0:Int):=by omega
 go_enter Tryz.func3,Tryz.ntmps3
 go_wp2
 go_ret
 exact⟨rfl,Below.refl _ _⟩
theorem walk (a0:Option Addr)(len0 cap0:Nat)(z0:List Int)(w:World)(ht:∀j,j<9→w.cell? ⟨0,j,none⟩=some (.int .i64 (tryZ.getD j 0)))(h:Qazw w a0 len0 cap0 z0)(hm:len0≤maxLen) :
  Calls Tryz.prog 3 #[.slice a0 len0 cap0] w fun e w'=>e=.returned (.bool true)∧Below w.heap.size w w':=by
 by_cases hl:len0≤1048576
 ·exact Qaao (fun bs _=>Qaam rfl fun _=>rfl) ht h hl
 ·exact far a0 len0 cap0 w hl hm
set_option maxRecDepth 100000 in
theorem lifted (os:Os)(started:os.Started)(H:Type)(enc:TypeId×Value→H) :
  ReturnsInHanded {} Tryz.checked os 3 .any (fun w args=>(Rows.fnDropReachedSpec.pre enc Tryz.prog Tryz.f3 [] false w args∧laidMetH Tryz.prog laidL w)∧sizedMet enc Tryz.prog Tryz.f3 (OpenSpec.ofChange Rows.fnDropReachedSpec) false w args)
   (Rows.fnDropReachedSpec.post enc Tryz.prog Tryz.f3 false true false false):=by
 refine returnsInHanded_of_change_and (C:=Tryz.checked) (X:=fun w _=>laidMetH Tryz.prog laidL w) (fun _ _ _ hh h=>h.of_heap hh) own started (by kernel_rfl) Tryz.func3
  (ChangeSpec.witness_shaped (enc:=enc) (C:=Tryz.checked) (os:=os) (X:=fun w _=>laidMetH Tryz.prog laidL w) false (World.doorLaid Tryz.prog 17 os) #[.slice none 0 0] 8 rfl (World.shaped_of_RefB (by kernel_rfl) (by kernel_rfl)) (by kernel_rfl) (by kernel_rfl) (by kernel_rfl) (door_met os _)) ?_
 intro W base args ds gs before hval0 hW _ _ hL _;have hval:∀(j:Nat) t v,Tryz.f3.params[j]? = some t→args[j]? = some v→Value.okWide Tryz.prog W .any base t v:=hval0;have hW':=hW;obtain⟨p,q,hA0,hV,rfl,hfz,hnd⟩:=hW;have hA:DataW.TrodAll enc Tryz.prog W 0 (fun _=>true) true Tryz.f3.params.toList args.toList ds p:=hA0;rw[Tryz.params3]at hA hval;obtain⟨v0,vs0,d0,ds0,p0,q0,hargs,rfl,rfl,h0,r0⟩:=trodAll_cons hA;obtain⟨rfl,rfl,rfl⟩:=trodAll_nil r0;obtain rfl:args=#[v0]:=by cases args;simp_all
 obtain⟨a0,len0,cap0,rfl⟩:=okWide_slice Tryz.underlying22 (hval 0 22 v0 rfl rfl);have k0:=h0;have lt0:∀x∈p0,x.block<W.heap.size:=by obtain⟨m,hm⟩:=k0;exact DataW.trod_lt m _ _ _ hm
 obtain⟨z0,w0,hm0⟩:∃zs,Qazw W a0 len0 cap0 zs∧len0≤maxLen:=by
  obtain⟨fuel,hf⟩:=h0;rcases open_ints Tryz.underlying22 Tryz.underlying5 (by kernel_rfl) hf with ⟨hcs,_⟩|⟨x,l,c,zs,hcs,_,hl,hm,hz,_,hcell,hwz⟩
  ·simp[Value.cells]at hcs;obtain⟨rfl,rfl,rfl⟩:=hcs;exact⟨[],.inl ⟨rfl,rfl,rfl,rfl⟩,Nat.zero_le _⟩
  ·simp[Value.cells]at hcs;obtain⟨rfl,rfl,rfl⟩:=hcs;exact⟨zs,.inr ⟨_,rfl,hl,by simpa using hz,hcell,hwz⟩,Nat.le_trans hl hm⟩
 have hvo:=trodVars_one hV;obtain⟨gg,gt,gcs,gf,gd,gp,hgs,_⟩:=hvo;clear hA0 hval0;refine (walk a0 len0 cap0 z0 W (tries_of hL) w0 hm0).mono fun e W' ⟨he,bel⟩=>?_;subst he;subst hgs;exact⟨_,rfl,_,_,_,[],_,q,hW',trodAll_mk1 (shut_bool Tryz.underlying4 _),(trodAll_cons_mk (Below.trod laidOut (by kernel_rfl) (of_decide_eq_true (by kernel_rfl)) k0 bel lt0) trodAll_mk0),Below.trodVars laidOut bel (by kernel_rfl) hV,bel.frame _,fun h=>by cases h⟩
theorem h_named:Tryz.pinned.checked.prog.funcNamed Rows.fnDropReachedRow.func=some 3:=by kernel_rfl
theorem h_p0:((Rows.fnDropReachedRow.wf (OpenSpec.ofChange Rows.fnDropReachedSpec))&&(laidOutB Tryz.pinned.checked.prog)&&(mapsRowed Tryz.pinned.checked.prog)&&(Tryz.f3.params.all (Tryz.pinned.checked.prog.readableRec ·))&&(namedTie Tryz.pinned.checked.prog Rows.fnDropReachedRow.named Rows.fnDropReachedSpec.vars)&&(Rows.fnDropReachedRow.stops == [])&&(Tryz.pinned.checked.prog.stops == [])&&(Rows.fnDropReachedRow.knobs == [])&&(Tryz.pinned.checked.prog.stopKnobs == [])&&(Rows.fnDropReachedRow.inPlace == Tryz.pinned.checked.prog.inPlace 3)&&(Rows.fnDropReachedRow.unfollowed == Tryz.pinned.checked.prog.unfollowed 3))=true:=by kernel_rfl
theorem h_p1:((Rows.fnDropReachedRow.recurses == Tryz.pinned.checked.prog.recurses 3)&&(Rows.fnDropReachedRow.named == Tryz.pinned.checked.prog.varsNamed 3)&&(Rows.fnDropReachedRow.maps == (Tryz.f3.params.toList++Rows.fnDropReachedSpec.plain.varTypes Tryz.pinned.checked.prog).any (Tryz.pinned.checked.prog.mapsRec ·))&&(Rows.fnDropReachedRow.ifaces == (Tryz.f3.params.toList++Rows.fnDropReachedSpec.plain.varTypes Tryz.pinned.checked.prog).any (Tryz.pinned.checked.prog.ifacesRec ·))&&(Rows.fnDropReachedRow.mapsOut == Tryz.pinned.checked.prog.mapsAmong Tryz.f3.resultTypes.toList))=true:=by kernel_rfl
theorem h_p2:((Rows.fnDropReachedRow.loops == (Tryz.f3.params.toList++Rows.fnDropReachedSpec.plain.varTypes Tryz.pinned.checked.prog).any (Tryz.pinned.checked.prog.loopsFrom ·))&&(Rows.fnDropReachedRow.wideKeys == (Tryz.f3.params.toList++Rows.fnDropReachedSpec.plain.varTypes Tryz.pinned.checked.prog++Tryz.f3.resultTypes.toList).any (Tryz.pinned.checked.prog.wideKeysFrom ·))&&(Rows.fnDropReachedSpec.vars.all (Tryz.pinned.checked.prog.varReadable ·))&&(Tryz.f3.resultTypes.all (fun t=>Tryz.pinned.checked.prog.readableRec t&&decide (t<Tryz.pinned.checked.prog.types.size)))&&(Rows.fnDropReachedRow.ifacesOut == Tryz.f3.resultTypes.toList.any (Tryz.pinned.checked.prog.ifacesRec ·))&&(Rows.fnDropReachedRow.loopsOut == Tryz.f3.resultTypes.toList.any (Tryz.pinned.checked.prog.loopsFrom ·))&&(Rows.fnDropReachedRow.plainKeys == Tryz.pinned.checked.prog.plainKeys)&&(Rows.fnDropReachedRow.shortTexts.isNone)&&(Tryz.pinned.checked.prog.stopsHeard)&&(Tryz.pinned.checked.prog.mayEnter)&&(Rows.fnDropReachedRow.lifted == Tryz.pinned.checked.prog.liftsFinal)&&(Tryz.pinned.checked.prog.make == some Rows.fnDropReachedRow.make)&&(Rows.fnDropReachedRow.kinds == (if Rows.fnDropReachedRow.domain.isEmpty then []else Tryz.f3.params.toList.map fun t=>match Tryz.pinned.checked.prog.underlying t with|some (.int k)=>some k|_=>none))&&(Rows.fnDropReachedRow.pinned == Rows.fnDropReachedRow.pinnedBy)&&(Rows.fnDropReachedRow.veiled == (Tryz.f3.params.toList++Rows.fnDropReachedSpec.plain.varTypes Tryz.pinned.checked.prog++Tryz.f3.resultTypes.toList).any (Tryz.pinned.checked.prog.veiledRec ·))&&(Rows.fnDropReachedRow.veiledFits Tryz.pinned.checked.prog Tryz.f3.params.toList (Tryz.f3.params.toList++Rows.fnDropReachedSpec.plain.varTypes Tryz.pinned.checked.prog++Tryz.f3.resultTypes.toList)))=true:=by kernel_rfl
theorem h_facts:joinedFacts Tryz.pinned.checked.prog 3 Tryz.f3 Rows.fnDropReachedSpec Rows.fnDropReachedRow=true:=by
 have a0:=h_p0;have a1:=h_p1;have a2:=h_p2;simp only[Jaf]at a0 a1 a2;simp only[joinedFacts,Jaf,a0,a1,a2,and_self];exact⟨⟨⟨⟨trivial,by kernel_rfl⟩,trivial⟩,trivial⟩,trivial⟩
theorem h_inst:Tryz.f3.isInstance Tryz.pinned.checked.prog Rows.fnDropReachedRow.origin Rows.fnDropReachedRow.targs:=of_decide_eq_true (by kernel_rfl)
theorem h_wrap:Tryz.f3.isWrapper Tryz.pinned.checked.prog Rows.fnDropReachedRow.wrapper Rows.fnDropReachedRow.mainSum:=by
 unfold Func.isWrapper;first|(rw[if_pos (by decide +kernel)];kernel_rfl)|(rw[if_neg (by decide +kernel)];exact⟨rfl,rfl⟩)
theorem over:Rows.fnDropReachedRow.holds Tryz.pinned (OpenSpec.ofChange Rows.fnDropReachedSpec):=
 OpenClaim.holds_of_wide 3 Tryz.f3 rfl rfl rfl rfl rfl rfl rfl ⟨rfl,rfl,rfl,rfl,rfl⟩ rfl rfl rfl rfl rfl h_named Tryz.func3 h_facts h_inst h_wrap
  (fun os started H enc _=>lifted os started H enc)
theorem q_w:Rows.fnDropReachedRow.wfByText (OpenSpec.ofChange Rows.fnDropReachedSpec)=true:=by kernel_rfl
theorem q_m : Tryz.pinned.checked.prog.mainIs = some (true, "d4c062c04a0943765952617ea5ad95758c638a7eecb14e289602b7f950fc0bc6".toList) := by kernel_rfl
theorem q_looks:true=Tryz.pinned.checked.prog.looks []:=by kernel_rfl
theorem q_goes:false=Rows.fnDropReachedRow.goesBy Tryz.pinned.checked.prog:=by kernel_rfl
theorem q_all:([22].all fun u=>!Tryz.pinned.checked.prog.wantsStandIn u)=true:=by kernel_rfl
theorem q_fn:Tryz.pinned.checked.prog.funcs[3]? = some Tryz.f3:=Tryz.func3
theorem q_l (f:FuncId)(fn:Func)(hf:Tryz.pinned.checked.prog.funcNamed Rows.fnDropReachedRow.func=some f)(hfn:Tryz.pinned.checked.prog.funcs[f]? = some fn):true=Tryz.pinned.checked.prog.looks []∧∀(j:Nat) t,fn.params[j]? = some t→Tryz.pinned.checked.prog.wantsStandIn t=false:=by
 obtain rfl:f=3:=J6 (h_named.symm.trans hf) |>.symm;obtain rfl:fn=Tryz.f3:=(J6 (q_fn.symm.trans hfn)).symm;refine⟨q_looks,fun j t ht=>?_⟩;rw[Tryz.params3]at ht;have hm:t∈[22]:=by simpa using Array.mem_of_getElem? ht
 simpa using List.all_eq_true.1 q_all t hm
theorem proved:Rows.FnDropReachedCardSaid:=
 Claim7.holds_tied_plain_at .later [] [.data] true (true, "d4c062c04a0943765952617ea5ad95758c638a7eecb14e289602b7f950fc0bc6") true over (fun _ h => by cases h) q_w (fun _ h => by cases h) fnDropReached_row_tie rfl ⟨rfl, rfl⟩ q_m rfl q_l q_goes
end Go.Proofs.YtlfdcfggpccakaaGreatDoor.fnDropReachedDone
