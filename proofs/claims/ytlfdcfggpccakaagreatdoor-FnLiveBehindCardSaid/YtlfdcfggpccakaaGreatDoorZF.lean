/- FnLiveBehind returns true for every input, and its input reads behind the call as it read before; no condition. -/
import Derived.Test.YtlfdcfggpccakaaGreatDoorZE
import Derived.LaidMore
import Derived.LaidOnce
import Derived.OpenVars
import Derived.SevenTiedAt
import Derived.Test.YtlfdcfggpccakaaGreatDoorCards
import Derived.Test.YtlfdcfggpccakaaGreatDoorTie
open Nat (reduceEqDiff reduceAdd reduceLeDiff reduceLT)
set_option linter.unusedVariables false
set_option linter.unusedSimpArgs false
set_option maxRecDepth 4000
open Bool renaming and_eq_true->Jg,decide_and->Jm,true_and->J4
open Int renaming toNat_natCast->Ja,eq_ofNat_of_zero_le->Jf,le_refl->Jz
open List renaming getD_eq_getElem?_getD->Jb,take_of_length_le->Jc,drop_eq_getElem_cons->Jd,getElem?_eq_getElem->Je,mem_singleton->Jh,drop_of_length_le->Ji,getElem?_eq_none->Jj,getElem_mem->Jk,length_drop->Jl,length_append->Jn,mem_of_mem_take->Jo,mem_or_eq_of_mem_set->Jr,getElem?_set->Js,getElem_set->Jt,length_cons->Ju,length_take->Jv,length_set->Jw,forall_mem_cons->Jx,mem_cons_of_mem->Jy,getD_cons_succ->J0,getD_cons_zero->J1,map_cons->J5,all_eq_true->J6,map_nil->J8,map_set->J9,mem_map->Jaa
open List.cons renaming injEq->J7
open Nat renaming zero_add->Jq,le_refl->J2,zero_le->J3
open Option.some renaming inj->Jp
namespace Go.AE.Y
attribute [local go_sem] cond_true cond_false Bool.not_true Bool.not_false
open Go.Proofs.Tryz
variable {H H0 F:Heap}{K:V→Heap→Prop}{E L:List (Nat×Obj)}
variable {q:CodeD}{fl:Bool}
attribute [local instance] Classical.propDecidable
noncomputable def Qaec (cs:List CodeD):Int:=if Qbr cs=true then (Qfb Qfc cs:Nat)else -1
theorem Qbdl {cs:List CodeD}(hfit:∀c∈cs,c.fits)(hK:∀(H':Heap),Upd H H' []→K (.c (.int .i64 (Qaec cs))) H') :
  Qr prog Qgp [.ag [.sl fl 3 (Qj cs)]] H K:=by
 refine Q3 ?_;refine Qc Qal Qasz ?_;refine Qa ?_;simp only[go_sem];refine Qaa ?_;refine Qa ?_;simp only[go_sem];refine Qck hfit fun H1 hu=>?_;have kn:=(Kn.start0 H).call0 hu;simp only[go_sem,Qpf];refine Qh (Qd rfl ?_ ?_)
 ·intro hc;have hc:=Qtc hc;refine Qa ?_;simp only[go_sem];refine Qk ?_;simp only[go_sem,X.next,Q5,Qae,Qn9,Jh,forall_eq,RS.op];have hK:=hK _ kn.fin;rw[Qaec,hc]at hK;exact⟨_,.c _ _ (Qi rfl),hK⟩
 intro hc;have hg:=Qh8 hc;have h800:=(of_decide_eq_true hg).2.2;have hc4:cs.length≤4:=by have:=(of_decide_eq_true hg).1;omega
 have hall:Qaec cs=(Qfb Qfc cs:Nat):=by rw[Qaec,if_pos hg]
 rw[hall]at hK;refine Qg ?_;try simp only[go_sem]
 refine Qa ?_;simp only[go_sem];refine Qaa ?_;refine Qa ?_;simp only[go_sem,Qo];intro _;refine Qh (Qe (Qx (fun m e1 H1=>∃(k:Nat),m=cs.length-k∧k≤cs.length∧Kn H H1 [] []∧
  lk 3 e1=.c (.int .i64 (Qfb Qfc (cs.take k):Nat))∧lk 10 e1=.c (.sl fl 3 (Qj cs))∧lk 11 e1=.c (.int .i64 cs.length)∧lk 12 e1=.c (.int .i64 k)) cs.length ?_ ?_))
 ·exact⟨0,by omega,by omega,kn,rfl,rfl,rfl,rfl⟩
 ·clear kn;rintro m e1 H2 ⟨k,hm,hk,kn,l3,l10,l11,l12⟩;refine Qa ?_;simp only[go_sem,l3,l10,l11,l12];refine Qh (Qd rfl ?_ ?_)
  ·intro hc1;have hlt:k<cs.length:=by simpa using hc1
   have hqok:=Qly hg hlt;have hss:=Qdc (f:=Qfc) hlt;have hle:=Qawj (f:=Qfc) (l:=cs) (k+1);have hqf:=hfit _ (Jk hlt);obtain⟨q,hq⟩:∃q,cs[k]=q:=⟨_,rfl⟩;rw[hq]at hqok hss hqf;have hb1:=hqok.b1;refine Qg ?_;try simp only[go_sem]
   refine Qh (Qe ?_);refine Qa ?_;simp only[go_sem,hlt,Qo,Q0 _ _ hlt,CodeD.cells,hq];intro x5 hx5 H3 h3;have kn:=kn.al hx5 h3;have hx5:=kn.l 0 rfl;simp only[go_sem,Qpg,hx5];intro H4 h4;have kn:Kn H H4 [] ([]++[(x5,.st [.int .i64 q.params,.int .i64 q.regs,.sl false 5 (Qn q.blocks)])]):=kn.stL 0 rfl h4;have hx5:=kn.l 0 rfl;refine Qt ?_;simp only[go_sem,hx5];refine Qnq hqf hb1 fun H5 hu=>?_;have kn:=kn.call0 hu;simp only[go_sem,Qph];refine⟨Qs (by omega) (by omega),?_⟩;refine Qt ?_;simp only[go_sem];refine⟨Qs (by omega) (by omega),?_⟩;show ∃m,_;refine⟨cs.length-(k+1),by omega,k+1,rfl,by omega,kn.drop,?_,rfl,rfl,rfl⟩;rw[hss];rfl
  ·intro hc1;have hge:cs.length≤k:=by simpa using hc1
   refine Qw ?_;simp only[go_sem,X.next];refine Qa ?_;simp only[go_sem,l3];refine Qk ?_;simp only[go_sem,X.next,Q5,Qae,Qn9,Jh,forall_eq,RS.op];rw[Jc hge];exact⟨_,.c _ _ (Qi rfl),hK _ kn.fin⟩
end Go.AE.Y
namespace Go.AE.Y
open Go.Proofs.Tryz
def Qb5:List Item:=[gF 41 26 (.not (.t 40)),pT 42 26 41]
def Qc3:List Item:=gF 24 13 (.not (.t 23))::pT 25 13 24::mJ 26 25::gFm 27 26 3::gFf 28 26 0 4::gFl 29 26 28::gFm 30 26 1::gF 31 26 (.iad 3 (.t 29) (.t 30))::gFf 32 26 2 31::gFl 33 26 32::gFm 34 26 2::gF 35 26 (.iad 5 (.t 33) (.t 34))::gFf 36 26 1 35::gFl 37 26 36::gF 38 26 (.len (.t 37))::gF 39 26 (.bin 0 .sub (.t 38) (kI 1))::.e (some 40) (some (26,false)) (.call Qbm [.t 27,kI (-1),.t 39])::Qb5
def Qe9:List Item:=oJ 12 11::mJ 13 12::gFm 14 13 2::gFf 15 13 0 4::gFl 16 13 15::gFm 17 13 1::gF 18 13 (.iad 3 (.t 16) (.t 17))::gFf 19 13 2 18::gFl 20 13 19::gF 21 13 (.len (.t 20))::gF 22 13 (.bin 0 .sub (.t 21) (kI 1))::.e (some 23) (some (13,false)) (.call Qbm [.t 14,kI 0,.t 22])::Qc3
def Q7m:SC:=cT 42 (sR [fI 43 (.bsl 1 []),mJ 8 43] [8] .ret) .skip
def Qk0:List Item:=[mJ 8 58]
def Qk1:List Item:=aJ 58 Q5g [.t 57]::Qk0
def Qk2:List Item:=hJ 45 44::.chk 47 none (.iad 3 (.t 45) (.t 46))::.chk 48 none (.ld 3 true (.t 47))::aJ 57 Qc5 [.t 48,.t 54,.t 55,.t 56]::Qk1
def Q7n:SC:=.seq (.dreg 16 [0,1,2,3,4,5,6,7,8,9,11,12,10,1,3,4,13,14,15] ( fJ 44 0 4::lJ 45 44::mJ 46 1::iJ 47 3 45 46::tJ 48 3 47::fJ 49 0 4::lJ 50 49::mJ 51 1::iJ 52 3 50 51::tJ 53 3 52::mJ 55 2::mJ 56 3::aJ 54 Ql3 [.t 53]::Qk2) [8]) .ret
def Q7o:SC:=.seq (sR (tJ 9 1 4::mJ 10 1::aJ 11 Qaek [.t 9,.t 10]::Qe9) [1,2,3,4,42] Q7m) Q7n
def Qal7:SC:=sR [vJ 4 0,fI 8 (.mv (.k (.c (.sl true 1 []))))] [1,2,3,4] Q7o
def Qe1:List RS:=[.tmp 8]
theorem Qafd:mFn prog Qcp 4 59 Qal7 Qe1=true:=by kernel_rfl
def Qfx:List Item:=[zJ 3 0,zJ 4 0,zJ 5 0]
def Qfy:List Item:=[mJ 6 15]
def Qfz:List Item:=[mJ 8 20]
def Qf0:List Item:=sJ 1 7 19::Qfz
def Qf1:List Item:=mJ 16 18::fI 19 (.ext (.t 16) 0)::fI 20 (.ext (.t 16) 1)::eI 7 (.alloc [.sl true 3 []])::Qf0
def Qcx:List Item:=[gT 36 33 (.bin 0 .gtr (.t 35) (kI 0)),pF 37 33 36]
def Qf2:List Item:=[mJ 11 42]
def Qf3:List Item:=[cJ 45 .sub 44 1,mJ 12 45]
def Qf4:List Item:=[nJ 51 50,cJ 52 .gtr 51 0]
def Qf5:List Item:=[mJ 3 54,mJ 4 55,mJ 5 56]
def Qsd:SC:=cT 52 (sR (tJ 53 1 7::mJ 54 8::mJ 55 11::mJ 56 12::sJ 1 2 53::Qf5) [2,3,4,5] .ret) .skip
def Qse:SC:=sR (tJ 46 1 7::mJ 47 8::mJ 48 11::mJ 49 12::aJ 50 Qcp [.t 46,.t 47,.t 48,.t 49]::Qf4) [2,6,7,8,9,10,11,12,52] Qsd
def Qsf:SC:=sR (mJ 43 6::aJ 44 Qq [.t 43,kI 4]::Qf3) [2,6,7,8,9,10,11,12] Qse
def Qsg:SC:=.reg [mJ 38 10,cJ 39 .add 38 1,mJ 10 39] [2,6,7,8,9,10]
def Qsh:SC:=.seq (.block 1 (sR (mJ 40 6::mJ 41 9::aJ 42 Qq [.t 40,.t 41]::Qf2) [2,6,7,8,9,10,11] Qsf)) Qsg
def Qoy:SC:=.seq (sR (mJ 31 10::cJ 32 .lss 31 12::mJ 33 32::gTm 34 33 6::.e (some 35) (some (33,true)) (.call Qq [.t 34,kI 9])::Qcx) [2,6,7,8,9,10,37] (cT 37 .skip (.exit 0))) Qsh
def Qe4:List Item:=[mJ 13 68]
def Qe5:List Item:=mJ 66 9::fI 67 (.bsl 1 [.t 60,kI 0,.t 62,.t 65,kI (-1),.t 66])::aJ 68 Qac [.t 57,.t 67]::Qe4
def Qe6:List Item:=mJ 61 9::cJ 62 .sub 61 1::mJ 63 6::mJ 64 9::aJ 65 Qq [.t 63,.t 64]::Qe5
def Qe7:List Item:=[mJ 3 70,mJ 4 71,mJ 5 74]
def Qe8:List Item:=.chk 69 none (.ld 1 true (.t 7))::sJ 1 2 69::Qe7
def Qsi:SC:=.seq (.dreg 10 [0,1,2,3,4,5,0,6,7,8,9] ( tJ 69 1 7::mJ 70 8::mJ 71 13::mJ 72 6::fI 73 (.bsl 1 [kI (-1),kI 0,kI 1,kI 2,kI 0,kI 1,kI (-2),kI 9])::aJ 74 Qac [.t 72,.t 73]::Qe8) [2,3,4,5]) .ret
def Qfw:SC:=sR (mJ 57 6::mJ 58 6::mJ 59 9::aJ 60 Qq [.t 58,.t 59]::Qe6) [2,6,7,8,13] Qsi
def Qsj:SC:=.seq (sR [zJ 10 0] [2,6,7,8,9,10] (bL 0 Qoy)) Qfw
def Qsk:SC:=sR [fJ 21 0 7,lJ 22 21,fJ 23 0 7,lJ 24 23,nJ 25 24,cJ 26 .sub 25 1,iJ 27 3 22 26,fJ 28 2 27,lJ 29 28,nJ 30 29,mJ 9 30] [2,6,7,8,9] Qsj
def Qsl:SC:=sR (mJ 17 6::aJ 18 Q5c [.t 17]::Qf1) [2,6,7,8] Qsk
def Qsm:SC:=sR (mJ 14 0::aJ 15 Qxw [.t 14]::Qfy) [2,6] Qsl
def Q2a:SC:=sR (eI 2 (.alloc [.sl true 3 []])::Qfx) [0,2] Qsm
def Qcl:List RS:=[.cell 2 1 true,.tmp 3,.tmp 4,.tmp 5]
theorem Q06:mFn prog Qdp 1 75 Q2a Qcl=true:=by kernel_rfl
end Go.AE.Y
namespace Go.AE.Y
attribute [local go_sem] cond_true cond_false Bool.not_true Bool.not_false
attribute [local instance] Classical.propDecidable
open Go.Proofs.Tryz
variable {H H0:Heap}{K:V→Heap→Prop}{E B:List (Nat×Obj)}{cs:List CodeD}{fl:Bool}
noncomputable def lbB (cs:List CodeD)(k b i:Int):Bool:=hasG cs k&&((decide (0≤b)&&decide (b≤((Qm cs k.toNat).blocks.length:Int)-1))&&(decide (-1≤i)&&decide (i≤((Q9 (Qm cs k.toNat) b.toNat).ins.length:Int)-1)))
noncomputable def lbL (cs:List CodeD)(k b i:Int):List Nat:=if lbB cs k b i=true then Qeo (Qm cs k.toNat) b.toNat (i+1).toNat else []
theorem Qbov {k b i:Int}(h:lbB cs k b i=false):lbL cs k b i=[]:=by rw[lbL,h];rfl
theorem Qbv8 {k b i:Int}(h:lbB cs k b i=true):Qbr cs=true∧∃(m n:Nat) (hm:m<cs.length) (hn:n<cs[m].blocks.length),k=m∧b=n∧-1≤i∧i<cs[m].blocks[n].ins.length∧lbL cs k b i=Qeo cs[m] n (i+1).toNat:=by
 have h0:=h;simp only[lbB,Jg,decide_eq_true_eq]at h;obtain⟨hh,⟨b0,b1⟩,i0,i1⟩:=h;have hg:Qbr cs=true:=by simp only[hasG,Jg]at hh;exact hh.1
 obtain⟨m,hm,rfl,hok⟩:=Qaex hh;obtain⟨n,rfl⟩:=Jf b0;have e1:Qm cs ((m:Int)).toNat=cs[m]:=by rw[Ja,Qao hm]
 rw[e1]at b1 i1;have hn:n<cs[m].blocks.length:=by omega
 have e2:Q9 cs[m] ((n:Int)).toNat=cs[m].blocks[n]:=by rw[Ja,Qat hn]
 rw[e2]at i1;exact⟨hg,m,n,hm,hn,rfl,rfl,i0,by omega,by rw[lbL,if_pos h0,e1,Ja]⟩
set_option maxHeartbeats 2000000 in
theorem Qaez {k b i:Int}(hfit:∀c∈cs,c.fits)(hK:∀f H',Upd H H' []→K (.c (.sl f 1 (Qbq (lbL cs k b i)))) H') :
  Qr prog Qdy [.ag [.sl fl 3 (Qj cs)],.c (.int .i64 k),.c (.int .i64 b),.c (.int .i64 i)] H K:=by
 cases hlb:lbB cs k b i with
 |true=>
  obtain⟨hg,m,n,hm,hn,rfl,rfl,h1,h2,h3⟩:=Qbv8 hlb;rw[h3]at hK;exact Qamm hfit hg hm hn h1 h2 fun H' hu=>hK false H' hu
 |false=>
  rw[Qbov hlb]at hK;refine Qc Qal Qs8 ?_;have fin:∀e H',Upd H H' []→lk 8 e=.c (.sl true 1 [])→Q5 Qex K .ret e H':=by
   intro e H' hu h8;simp only[go_sem,Q5,Qae,Qex,Jh,forall_eq,RS.op,h8];exact hK true H' hu
  refine Qa ?_;simp only[go_sem];refine Qaa ?_;refine Qa ?_;simp only[go_sem];refine Qbbg hfit fun H1 hu=>?_
  cases hh:hasG cs k with
  |false=>
   simp only[go_sem,Qc2,Qb4,Qb3];refine Qh (Qd (c:=true) rfl (fun _=>?_) (fun h=>by cases h));refine Qa ?_;simp only[go_sem];refine Qk ?_;exact fin _ _ hu rfl
  |true=>
   obtain⟨m,hm,rfl,hok⟩:=Qaex hh;have hb1:=hok.b1;have e1:Qm cs ((m:Int)).toNat=cs[m]:=by rw[Ja,Qao hm]
   rw[lbB,hh,e1]at hlb;simp only[go_sem,Qc2,hm,Qo,Q0 _ _ hm,CodeD.cells,Ql];intro _;refine⟨Qs (by omega) (by omega),?_⟩;refine Qb6 ?_
   cases hbb:(decide (0≤b)&&decide (b≤(cs[m].blocks.length:Int)-1))with
   |false=>
    simp only[go_sem,Qb4,Qb3];refine Qh (Qd (c:=true) rfl (fun _=>?_) (fun h=>by cases h));refine Qa ?_;simp only[go_sem];refine Qk ?_;exact fin _ _ hu rfl
   |true=>
    rw[hbb]at hlb;simp only[Jg,decide_eq_true_eq]at hbb;obtain⟨n,rfl⟩:=Jf hbb.1;have hn:n<cs[m].blocks.length:=(by omega);have hil:=(hok.il n hn).1;have e2:Q9 cs[m] ((n:Int)).toNat=cs[m].blocks[n]:=(by rw[Ja,Qat hn]);rw[e2]at hlb;simp only[go_sem,Qb4,hm,Qo,Q0 _ _ hm,CodeD.cells,hn,Ql,Q1 _ _ hn,BlkD.cells,Q4];intro _;refine⟨Qs (by omega) (by omega),?_⟩;refine Qb6 ?_;simp only[J4]at hlb;rw[hlb];simp only[go_sem,Qb3];refine Qh (Qd (c:=true) rfl (fun _=>?_) (fun h=>by cases h));refine Qa ?_;simp only[go_sem];refine Qk ?_;exact fin _ _ hu rfl
set_option maxHeartbeats 4000000 in
theorem Qjw {k b i:Int}(hfit:∀c∈cs,c.fits)(hK:∀f H',Upd H H' []→K (.c (.sl f 1 (Qbq (lbL cs k b i)))) H') :
  Qr prog Qcp [.ag [.sl fl 3 (Qj cs)],.c (.int .i64 k),.c (.int .i64 b),.c (.int .i64 i)] H K:=by
 refine Q3 ?_;refine Qc Qal Qafd ?_;have fin:∀e H' L,lbL cs k b i=[]→Kn H H' [] L→lk 8 e=.c (.sl true 1 [])→Q5 Qe1 (unK H K) .ret e H':=by
  intro e H' L h0 kn h8;rw[h0]at hK;simp only[go_sem,Q5,Qae,Qe1,Jh,forall_eq,RS.op,h8];exact⟨_,.c _ _ FrzR.nil.sl,hK false _ kn.fin⟩
 refine Qa ?_;simp only[go_sem];refine Qaa ?_;refine Qa ?_;simp only[go_sem];refine Qboh hfit fun H1 hu=>?_;have kn:=(Kn.start0 H).call0 hu
 cases hh:hasG cs k with
 |false=>
  have h0:lbL cs k b i=[]:=Qbov (by rw[lbB,hh];rfl);simp only[go_sem,Qe9,Qc3,Qb5];refine Qh (Qd (c:=true) rfl (fun _=>?_) (fun h=>by cases h));refine Qa ?_;simp only[go_sem];refine Qk ?_;exact fin _ _ _ h0 kn rfl
 |true=>
  obtain⟨m,hm,rfl,hok⟩:=Qaex hh;have hb1:=hok.b1;have hr1:=hok.r1;have e1:Qm cs ((m:Int)).toNat=cs[m]:=by rw[Ja,Qao hm]
  simp only[go_sem,Qe9,hm,Qo,Q0 _ _ hm,CodeD.cells,Ql];intro _;refine⟨Qs (by omega) (by omega),?_⟩;refine Qc8 ?_
  cases hbb:decide (0≤b∧b≤(cs[m].blocks.length:Int)-1)with
  |false=>
   have h0:lbL cs (m:Int) b i=[]:=Qbov (by rw[lbB,e1,←Jm,hbb,hh];rfl);simp only[go_sem,Qc3,Qb5];refine Qh (Qd (c:=true) rfl (fun _=>?_) (fun h=>by cases h));refine Qa ?_;simp only[go_sem];refine Qk ?_;exact fin _ _ _ h0 kn rfl
  |true=>
   have hb2:=hbb;simp only[decide_eq_true_eq]at hb2;obtain⟨n,rfl⟩:=Jf hb2.1;have hn:n<cs[m].blocks.length:=by omega
   have hil:=(hok.il n hn).1;have e2:Q9 cs[m] ((n:Int)).toNat=cs[m].blocks[n]:=by rw[Ja,Qat hn]
   simp only[go_sem,Qc3,hm,Qo,Q0 _ _ hm,CodeD.cells,hn,Ql,Q1 _ _ hn,BlkD.cells,Q4];intro _;refine⟨Qs (by omega) (by omega),?_⟩;refine Qc8 ?_
   cases hii:decide (-1≤i∧i≤(cs[m].blocks[n].ins.length:Int)-1)with
   |false=>
    have h0:lbL cs (m:Int) (n:Int) i=[]:=Qbov (by rw[lbB,e1,e2,←Jm,hbb,←Jm,hii,hh];rfl);simp only[go_sem,Qb5];refine Qh (Qd (c:=true) rfl (fun _=>?_) (fun h=>by cases h));refine Qa ?_;simp only[go_sem];refine Qk ?_;exact fin _ _ _ h0 kn rfl
   |true=>
    have hlb:lbB cs (m:Int) (n:Int) i=true:=(by rw[lbB,e1,e2,←Jm,hbb,←Jm,hii,hh];rfl);have hl:lbL cs (m:Int) (n:Int) i=Qeo cs[m] n (i+1).toNat:=(by rw[lbL,if_pos hlb,e1,Ja]);simp only[decide_eq_true_eq]at hii;rw[hl]at hK;simp only[go_sem,Qb5];refine Qh (Qd (c:=false) rfl (fun h=>by cases h) (fun _=>?_));refine Qg ?_;try simp only[go_sem]
    refine Qaj ?_;simp only[go_sem,hm,Qo,Q0 _ _ hm,CodeD.cells];refine Qaxe hok fun zi zo H4 hu hlv=>?_;have kn:=kn.call0 hu;have hlo:=hlv.1.o;have hbz:n<zo.length:=(by omega);simp only[go_sem,Qk2,hm,Qo,Q0 _ _ hm,CodeD.cells];refine Q00 (orows:=Qib zo) (cb:=.sl false 1 (Qy zo[n].2)) (bs:=zo[n].2) (W:=(Q6 cs[m]).LO n) hok hn (by omega) (by omega) kn (.mk' _ _ _ _) rfl rfl (by rw[Qaf5];exact hbz) (Q55 _ _ hbz) (.mk' _ _ _ _) rfl (hlv.1.lo _ (Jk hbz))
     ((Qaff hbz).congr fun r=>(hlv.2 n hn r).2) fun y9 bs' H9 hbl hmem kn=>?_
    have hy9:H9 y9=.vec 1 (Qy bs'):=(kn.get (y9,.vec 1 (Qy bs')) (by simp)).1;have hasc:Qafh bs' bs'.length=Qeo cs[m] n (i+1).toNat:=(by rw[Qbke hmem hbl];rfl);simp only[go_sem,Qk1];refine Qbi7 (bs:=bs') ⟨by simp only[okSl,hy9,Qab,hbl];exact⟨trivial,by omega⟩,rfl,by simp only[rowsOf,hy9,List.drop_zero];exact Jc (by rw[Qab,hbl];exact J2 _),by simp only[lenC,Qab,hbl]⟩ rfl (by omega) fun H10 hu=>?_;have kn:=kn.call0 hu;rw[hasc];simp only[go_sem,Qk0];refine Qk ?_;simp only[go_sem,Q5,Qae,Qe1,Jh,forall_eq,RS.op];exact⟨_,.c _ _ (Q5m (noOw_mem (Qd7 _))),hK false _ kn.fin⟩
end Go.AE.Y
namespace Go.AE.Y
attribute [local go_sem] cond_true cond_false Bool.not_true Bool.not_false
attribute [local instance] Classical.propDecidable
open Go.Proofs.Tryz
variable {H H0:Heap}{K:V→Heap→Prop}{E B:List (Nat×Obj)}
theorem Qbnn {S:Nat→Bool}{a b c d a' b' c' d':V}(h:FrzV H S a a')(k:FrzV H S b b')(l:FrzV H S c c')(m:FrzV H S d d'):FrzV H S (.tup [a,b,c,d]) (.tup [a',b',c',d']):=by
 refine .tup _ _ rfl fun j x x' h1 h2=>?_
 match j with
 |0=>simp at h1 h2;subst h1;subst h2;exact h
 |1=>simp at h1 h2;subst h1;subst h2;exact k
 |2=>simp at h1 h2;subst h1;subst h2;exact l
 |3=>simp at h1 h2;subst h1;subst h2;exact m
 |j+4=>simp at h1
set_option maxHeartbeats 4000000 in
theorem Qaa6 {fl:Bool}{bs:List UInt8}(hK:∀(cs:List CodeD) (k b i:Int) H',Upd H H' []→UnitOk cs→K (.tup [.ag [.sl false 3 (Qj cs)],.c (.int .i64 k),.c (.int .i64 b),.c (.int .i64 i)]) H') :
  Qr prog Qdp [.c (.sl fl 1 (Qbs bs))] H K:=by
 refine Q3 ?_;refine Qc Qal Q06 ?_;refine Qa ?_;simp only[go_sem];intro x2 hx2 H1 h1;have kn:=(Kn.start0 H).al hx2 h1;simp only[go_sem,Qfx];refine Qa ?_;simp only[go_sem];refine Qaxg fun R H2 hR h2=>?_;have kn:=kn.al hR h2 (R.o_ne 0);simp only[go_sem,Qfy];refine Qa ?_;simp only[go_sem];refine Qbi3 (kn.l 1 rfl) (by omega) fun cs kk H3 k2 hk3 hk4 hu hok hn1 hn2=>?_;have kn:=kn.callL 1 rfl hu (R.o_ne _);simp only[go_sem,Qf1,J1,J0];intro x7 hx7 H4 h4;have kn:=kn.al hx7 h4;have hx7:=kn.l 2 rfl;simp only[go_sem,Qf0,hx7];intro H5 h5;have kn:=kn.stL 2 rfl h5;have hx7:=kn.l 2 rfl;simp only[go_sem,Qfz];have hfit:=hok.fits;have hcl:=hok.2.1;have hcl0:=hok.1;obtain⟨m,hm⟩:∃m,cs.length=m+1:=⟨cs.length-1,by omega⟩;have em:(cs.length:Int)-1=(m:Int):=by omega
 have hml:m<cs.length:=by omega
 refine Qa ?_;simp only[go_sem,hx7,Qo,em,hml,Q0 _ _ hml,CodeD.cells,Ql];intro _;refine⟨Qs (by omega) (by omega),fun hN=>?_⟩;have hLIM:LIM≤2 ^ 62:=by decide
 obtain⟨N,hN'⟩:∃N,cs[m].blocks.length=N:=⟨_,rfl⟩;rw[hN']at hN;rw[hN'];have kn:Kn H H5 [] [(x2,.st [.sl true 3 []]),(R.l,R.o k2),(x7,.st [.sl false 3 (Qj cs)])]:=kn;have fin:∀(b i:Int) (H':Heap) (e:Env) (k':Nat),Kn H H' [] [(x2,.st [.sl false 3 (Qj cs)]),(R.l,R.o k'),(x7,.st [.sl false 3 (Qj cs)])]→
   lk 2 e=.c (.ptr x2 0)→lk 3 e=.c (.int .i64 kk)→lk 4 e=.c (.int .i64 b)→lk 5 e=.c (.int .i64 i)→Q5 Qcl (unK H K) .ret e H':=by
  intro b i H' e k' kn h2 h3 h4 h5;have hx2:=kn.l 0 rfl;simp only[go_sem,Q5,Qae,Qcl,Jx,List.not_mem_nil,RS.op,h2,h3,h4,h5,hx2];exact⟨fun _=>trivial,_,Qbnn (Qo3 cs) (.c _ _ (Qi rfl)) (.c _ _ (Qi rfl)) (.c _ _ (Qi rfl)),hK cs kk b i _ kn.fin hok⟩
 refine Qaa ?_;refine Qa ?_;simp only[go_sem];refine Qh (Qe (Qx (fun mm e1 H1=>∃(t k':Nat),mm=12-t∧t≤12∧k'≤7200000+3 * t∧Kn H H1 [] [(x2,.st [.sl true 3 []]),(R.l,R.o k'),(x7,.st [.sl false 3 (Qj cs)])]∧
  e1=[(2,.c (.ptr x2 0)),(6,.c (.ptr R.l 0)),(7,.c (.ptr x7 0)),(8,.c (.int .i64 kk)),(9,.c (.int .i64 N)),(10,.c (.int .i64 t))]) 12 ?_ ?_))
 ·exact⟨0,k2,by omega,by omega,by omega,kn,rfl⟩
 clear kn hx7;rintro mm e1 H6 ⟨t,k',hmm,ht,hk',kn,rfl⟩;have hx7:=kn.l 2 rfl;have out:∀(H6:Heap) (k':Nat) (e:Env),k'≤7210000→Kn H H6 [] [(x2,.st [.sl true 3 []]),(R.l,R.o k'),(x7,.st [.sl false 3 (Qj cs)])]→
   lk 2 e=.c (.ptr x2 0)→lk 6 e=.c (.ptr R.l 0)→lk 7 e=.c (.ptr x7 0)→lk 8 e=.c (.int .i64 kk)→lk 9 e=.c (.int .i64 N)→Qam prog Qfw (Q5 Qcl (unK H K)) e H6:=by
  intro H6 k' e hk' kn e2 e6 e7 e8 e9;have hx7:=kn.l 2 rfl;refine Qa ?_;simp only[go_sem,e2,e6,e7,e8,e9];refine Qa8 (kn.l 1 rfl) (by omega) fun v1 H7 hv1 hu=>?_;have kn:=kn.callL 1 rfl hu (R.o_ne _);simp only[go_sem,Qe6,e2,e6,e7,e8,e9];refine⟨Qs (by omega) (by omega),?_⟩;refine Qa8 (kn.l 1 rfl) (by omega) fun v2 H7 hv2 hu=>?_;have kn:=kn.callL 1 rfl hu (R.o_ne _);simp only[go_sem,Qe5,e2,e6,e7,e8,e9];refine Qi5 (ns:=[v1,0,(N:Int)-1,v2,-1,(N:Int)]) (kn.l 1 rfl) (by omega) (by simp) fun b H8 hb hu=>?_;have kn:=kn.callL 1 rfl hu (R.o_ne _);have hx7:=kn.l 2 rfl;simp only[go_sem,Qe4,e2,e6,e7,e8,e9];refine Qaj ?_;simp only[go_sem,hx7];refine Qi5 (ns:=[-1,0,1,2,0,1,-2,9]) (kn.l 1 rfl) (by omega) (by simp) fun i H9 hi hu=>?_;have kn:=kn.callL 1 rfl hu (R.o_ne _);have hx7:=kn.l 2 rfl;have hx2:=kn.l 0 rfl;simp only[go_sem,Qe8,hx7,hx2];intro H10 h10;have kn:=kn.stL 0 rfl h10;simp only[go_sem,Qe7];refine Qk ?_;exact fin b i _ _ _ kn rfl rfl rfl rfl
 by_cases htl:t<12
 ·have htd:decide ((t:Int)<12)=true:=by simp;omega
  refine Qh (Qh ?_);refine Qa ?_;simp only[go_sem,htd];refine Qa8 (kn.l 1 rfl) (by omega) fun v H7 hv hu=>?_;have kn:=kn.callL 1 rfl hu (R.o_ne _);simp only[go_sem,Qcx];refine Qd rfl ?_ ?_
  ·intro _;refine Qg ?_;try simp only[go_sem]
   refine Qh (Qe ?_);refine Qa ?_;simp only[go_sem];refine Qa8 (kn.l 1 rfl) (by omega) fun v1 H7 hv1 hu=>?_;have kn:=kn.callL 1 rfl hu (R.o_ne _);simp only[go_sem,Qf2];refine Qa ?_;simp only[go_sem];refine Qa8 (kn.l 1 rfl) (by omega) fun v2 H7 hv2 hu=>?_;have kn:=kn.callL 1 rfl hu (R.o_ne _);rw[if_neg (by omega)]at hv2;have hx7:=kn.l 2 rfl;simp only[go_sem,Qf3];refine⟨Qs (by omega) (by omega),?_⟩;refine Qa ?_;simp only[go_sem,hx7];refine Qjw hfit fun f H8 hu=>?_;have kn:=kn.call0 hu;have hx7:=kn.l 2 rfl;simp only[go_sem,Qf4];intro _;refine Qd rfl ?_ ?_
   ·intro _;have hx2:=kn.l 0 rfl;refine Qa ?_;simp only[go_sem,hx7,hx2];intro H9 h9;have kn:=kn.stL 0 rfl h9;simp only[go_sem,Qf5];refine Qk ?_;simp only[go_sem,X.next];exact fin v1 (v2-1) _ _ _ kn rfl rfl rfl rfl
   ·intro _;refine Qg ?_;try simp only[go_sem]
    refine Qt ?_;simp only[go_sem,X.next];exact⟨Qs (by omega) (by omega),12-(t+1),by omega,t+1,_,rfl,by omega,by omega,kn,rfl⟩
  ·intro _;refine Qw ?_;simp only[go_sem,X.next];exact out _ _ _ (by omega) kn rfl rfl rfl rfl rfl
 ·have htd:decide ((t:Int)<12)=false:=by simp;omega
  refine Qh (Qh ?_);refine Qa ?_;simp only[go_sem,htd];simp only[go_sem,Qcx];refine Qd rfl (fun h=>by cases h) (fun _=>?_);refine Qw ?_;simp only[go_sem,X.next];exact out _ _ _ (by omega) kn rfl rfl rfl rfl rfl
end Go.AE.Y
namespace Go.AE.Y
attribute [local instance] Classical.propDecidable
variable {cs:List CodeD}{q:CodeD}
def insB (y:BlkD)(j:Nat)(x:InsD):BlkD:=⟨y.phis,y.ins.take j++x::y.ins.drop j,y.jump,y.on,y.next⟩
def Q74 (q:CodeD)(b j:Nat)(x:InsD):CodeD:=⟨q.params,q.regs,q.blocks.set b (insB (Q9 q b) j x)⟩
def Qj2 (cs:List CodeD)(k b j:Nat)(x:InsD):List CodeD:=cs.set k (Q74 (Qm cs k) b j x)
theorem Qbn2 {b0 j:Nat}{x:InsD}(b:Nat)(h0:b0<q.blocks.length):Q9 (Q74 q b0 j x) b=if b=b0 then insB (Q9 q b) j x else Q9 q b:=by
 rw[Q9,Q74];simp only[Jb,Js];by_cases h:b0=b
 ·subst h;simp[h0]
 ·rw[if_neg h,if_neg (fun he=>h he.symm),Q9,Jb]
theorem Qbn4 {b0 j:Nat}{x:InsD}(h0:b0<q.blocks.length):gnx (Q74 q b0 j x)=gnx q:=by
 funext i
 rw[gnx,gnx,Q74];simp only[Jb,List.getElem?_map,Js];by_cases h:b0=i
 ·subst h;simp[h0,insB,Qat h0]
 ·rw[if_neg h]
theorem Qasl {k0 b0 j:Nat}{x:InsD}{k:Nat}(hk:k<cs.length):Qm (Qj2 cs k0 b0 j x) k=if k=k0 then Q74 (Qm cs k) b0 j x else Qm cs k:=by
 rw[Qm,Qj2];simp only[Jb,Js];by_cases h:k0=k
 ·subst h;simp[hk]
 ·rw[if_neg h,if_neg (fun he=>h he.symm),Qm,Jb]
section
variable {k0 b0 j:Nat}{x0:InsD}
def Qzg (cs:List CodeD)(k0 b0 j:Nat)(x0:InsD)(k b i:Nat):List InsD:=
 if k=k0∧b=b0∧i≤j then ((Q9 (Qm cs k) b).ins.take j++x0::(Q9 (Qm cs k) b).ins.drop j).drop i else (Q9 (Qm cs k) b).ins.drop i
structure LvF (cs:List CodeD)(k0 b0 j:Nat)(x0:InsD)(f f':Fr):Prop where
 k:f.k<cs.length
 b:f.b<(Qm cs f.k).blocks.length
 t:∃i R',i≤(Q9 (Qm cs f.k) f.b).ins.length∧f.todo=(Q9 (Qm cs f.k) f.b).ins.drop i∧f'=⟨f.k,f.b,Qzg cs k0 b0 j x0 f.k f.b i,R'⟩∧Agr ((Q6 (Qm cs f.k)).LB f.b i) f.regs R'
theorem Qasm (h0:b0<(Qm cs k0).blocks.length){k b:Nat}(hk:k<cs.length) :
  Q9 (Qm (Qj2 cs k0 b0 j x0) k) b=⟨(Q9 (Qm cs k) b).phis,Qzg cs k0 b0 j x0 k b 0,(Q9 (Qm cs k) b).jump,(Q9 (Qm cs k) b).on,(Q9 (Qm cs k) b).next⟩:=by
 rw[Qasl hk,Qzg];by_cases h:k=k0
 ·subst h;rw[if_pos rfl,Qbn2 b h0];by_cases hb:b=b0
  ·subst hb;rw[if_pos rfl,if_pos ⟨rfl,rfl,J3 _⟩];rfl
  ·rw[if_neg hb,if_neg (fun h=>hb h.2.1)];rfl
 ·rw[if_neg h,if_neg (fun hh=>h hh.1)];rfl
theorem Qbn0 (h0:b0<(Qm cs k0).blocks.length){k:Nat}(hk:k<cs.length)(m b:Nat):wayI (Qm (Qj2 cs k0 b0 j x0) k) m b=wayI (Qm cs k) m b:=by
 rw[Qasl hk];by_cases h:k=k0
 ·subst h;rw[if_pos rfl,wayI,wayI,Qbn4 h0,Q74];simp
 ·rw[if_neg h]
theorem Qbr7 (hr:RunOk cs)(h0:b0<(Qm cs k0).blocks.length){k:Nat}(hk:k<cs.length)(l:List Int):LvF cs k0 b0 j x0 (fr0 cs k l) (fr0 (Qj2 cs k0 b0 j x0) k l):=by
 refine⟨hk,(hr.ok k hk).b0,0,_,J3 _,rfl,?_,rfl,fun _ _=>rfl⟩;rw[fr0,fr0,Qasm h0 hk];have:(Qm (Qj2 cs k0 b0 j x0) k).regs=(Qm cs k).regs:=by
  rw[Qasl hk];split <;> rfl
 rw[Q54,Q54,this]
theorem Qbru {k b i:Nat}(hjl:j≤(Q9 (Qm cs k) b).ins.length)(h:¬(k=k0∧b=b0∧i=j)):Qzg cs k0 b0 j x0 k b i=match (Q9 (Qm cs k) b).ins[i]? with
  |some x=>x::Qzg cs k0 b0 j x0 k b (i+1)
  |none=>[]:=by
 rw[Qzg,Qzg];by_cases h1:k=k0∧b=b0∧i≤j
 ·obtain⟨rfl,rfl,h2⟩:=h1;have h3:i<j:=by
   by_cases h4:i=j
   ·exact absurd ⟨rfl,rfl,h4⟩ h
   ·omega
  have hi:i<(Q9 (Qm cs k) b).ins.length:=by omega
  rw[if_pos ⟨rfl,rfl,h2⟩,if_pos ⟨rfl,rfl,h3⟩,Je hi];have hlt:i<((Q9 (Qm cs k) b).ins.take j++x0::(Q9 (Qm cs k) b).ins.drop j).length:=by simp;omega
  rw[Jd hlt,List.getElem_append_left (by simp;omega),List.getElem_take]
 ·rw[if_neg h1,if_neg (fun hh=>h1 ⟨hh.1,hh.2.1,by omega⟩)];by_cases hi:i<(Q9 (Qm cs k) b).ins.length
  ·rw[Je hi,Jd hi]
  ·rw[Jj (by omega),Ji (by omega)]
theorem Qbms {k b:Nat}(hjl:j≤(Q9 (Qm cs k) b).ins.length)(h:k=k0∧b=b0):Qzg cs k0 b0 j x0 k b j=x0::(Q9 (Qm cs k) b).ins.drop j:=by
 rw[Qzg,if_pos ⟨h.1,h.2,J2 _⟩];have:((Q9 (Qm cs k) b).ins.take j).length=j:=by simp;omega
 rw[List.drop_append_of_le_length (by omega),Ji (by omega)];rfl
theorem Q7z {k b i:Nat}(h:¬(k=k0∧b=b0∧i≤j)):Qzg cs k0 b0 j x0 k b i=(Q9 (Qm cs k) b).ins.drop i:=by rw[Qzg,if_neg h]
theorem Agr.right {S:RS'}{R R':List Int}{r:Nat}(h:Agr S R R')(hn:¬S r)(v:Int):Agr S R (R'.set r v):=by
 refine⟨by simp[h.1],fun a ha=>?_⟩;have he:¬a=r:=fun he=>by subst he;exact hn ha
 rw[Qi3 he];exact h.2 a ha
variable (hr:RunOk cs)(hk0:k0<cs.length)(h0:b0<(Qm cs k0).blocks.length)(hjl:j≤(Q9 (Qm cs k0) b0).ins.length)(hx:x0.op=1)(hnl:¬(Q6 (Qm cs k0)).LB b0 j x0.to.toNat)
include hjl hx hnl in
theorem Qbtz {k b i:Nat}{R R':List Int}(hil:i≤(Q9 (Qm cs k) b).ins.length)(hA:Agr ((Q6 (Qm cs k)).LB b i) R R')(fs:List Fr)(s c:List Int) :
  ∃m R'',m≤1∧Agr ((Q6 (Qm cs k)).LB b i) R R''∧Qfa (Qj2 cs k0 b0 j x0) m (.go (⟨k,b,Qzg cs k0 b0 j x0 k b i,R'⟩::fs) s c) =
   .go (⟨k,b,(match (Q9 (Qm cs k) b).ins[i]? with
    |some x=>x::Qzg cs k0 b0 j x0 k b (i+1)
    |none=>[]),R''⟩::fs) s c:=by
 by_cases h:k=k0∧b=b0∧i=j
 ·obtain⟨rfl,rfl,rfl⟩:=h;refine⟨1,R'.set x0.to.toNat x0.n,J2 _,hA.right hnl _,?_⟩;rw[Qbms hjl ⟨rfl,rfl⟩];show stI _ _ _ _ _ _ _ _ _=_;rw[stI];simp only[hx,if_true];congr 3;by_cases hi:i<(Q9 (Qm cs k) b).ins.length
  ·rw[Je hi,Jd hi,Q7z (by omega)]
  ·rw[Jj (by omega),Ji (by omega)]
 ·refine⟨0,R',by omega,hA,?_⟩;show Cf.go (⟨k,b,Qzg cs k0 b0 j x0 k b i,R'⟩::fs) s c=_;by_cases hkb:k=k0∧b=b0
  ·obtain⟨rfl,rfl⟩:=hkb;rw[Qbru hjl h]
  ·rw[Q7z (fun hh=>hkb ⟨hh.1,hh.2.1⟩)];congr 3;by_cases hi:i<(Q9 (Qm cs k) b).ins.length
   ·rw[Je hi,Jd hi,Q7z (fun hh=>hkb ⟨hh.1,hh.2.1⟩)]
   ·rw[Jj (by omega),Ji (by omega)]
include hr h0 hjl hx hnl in
theorem Qbt1 (x x':Cf)(h:RelA (LvF cs k0 b0 j x0) x x'):∃m,m≤2∧RelA (LvF cs k0 b0 j x0) (step cs x) (Qfa (Qj2 cs k0 b0 j x0) m x'):=by
 cases h with
 |dn e v s c=>exact⟨0,by omega,.dn ..⟩
 |go s c h1 h2=>
  rename_i f f' fs fs'
  obtain⟨k,b,t,R⟩:=f;obtain⟨hk,hb,i,R',hil,ht,rfl,hA⟩:=h1;change k<cs.length at hk;change b<(Qm cs k).blocks.length at hb;change i≤(Q9 (Qm cs k) b).ins.length at hil;change t=(Q9 (Qm cs k) b).ins.drop i at ht;change Agr ((Q6 (Qm cs k)).LB b i) R R' at hA;have ho:=hr.ok k hk;obtain⟨m,R'',hm,hA2,hst⟩:=Qbtz (x0:=x0) hjl hx hnl hil hA fs' s c;refine⟨m+1,by omega,?_⟩;rw[Qbhe];show RelA _ _ (step _ (Qfa _ m (.go (⟨k,b,Qzg cs k0 b0 j x0 k b i,R'⟩::fs') s c)));rw[hst]
  cases t with
  |nil=>
   have hie:(Q9 (Qm cs k) b).ins.length≤i:=by
    have:=congrArg List.length ht;simp only[List.length_nil,Jl]at this;omega
   rw[Jj hie];show RelA _ (stJ cs k b R fs s c) (stJ (Qj2 cs k0 b0 j x0) k b R'' fs' s c);rw[Flo.LB,Qbh7 hb hie]at hA2;have hblk:=Qasm (j:=j) (x0:=x0) h0 (b:=b) hk;by_cases hj:(Q9 (Qm cs k) b).jump=3
   ·rw[Qa3z hj,Qa3z (by rw[hblk];exact hj),hblk];have:rg R'' (Q9 (Qm cs k) b).on=rg R (Q9 (Qm cs k) b).on:=hA2.rg (.inr (Qbbp hb (by omega)));simp only[this];exact Qbci h2
   ·rw[Qa30 hj,Qa30 (by rw[hblk];exact hj),hblk];obtain⟨v,hv,e,e2⟩:=Qa5i hr hk hb hj R;have hvn:=(ho.bs b hb).nx v (by rw[Qat hb]at hv;exact hv);have hm:v.toNat<(Qm cs k).blocks.length:=(by omega);have e':nxB ⟨(Q9 (Qm cs k) b).phis,Qzg cs k0 b0 j x0 k b 0,(Q9 (Qm cs k) b).jump,(Q9 (Qm cs k) b).on,(Q9 (Qm cs k) b).next⟩ R''=nxB (Q9 (Qm cs k) b) R:=by
     rw[nxB,nxB,ixB,ixB];by_cases h1:(Q9 (Qm cs k) b).jump=2
     ·have:rg R'' (Q9 (Qm cs k) b).on=rg R (Q9 (Qm cs k) b).on:=hA2.rg (.inr (Qbbp hb (by omega)));simp only[this]
     ·simp only[h1,false_and,if_false]
    rw[e',e];have hp:=Qbba ho hb hm (Jaa.2 ⟨v,by rw[Qbid hb];exact hv,rfl⟩) (P:=fun _=>true) (fun p _=>rfl) hA2;rw[List.filter_eq_self.2 (fun _ _=>rfl)]at hp;refine .go s c ⟨hk,hm,0,phiR R'' (wayI (Qm cs k) v.toNat b) (Q9 (Qm cs k) v.toNat).phis,J3 _,rfl,?_,hp⟩ h2;rw[frJ,frJ,Qasm h0 hk,Qbn0 h0 hk]
  |cons x t=>
   have hi:i<(Q9 (Qm cs k) b).ins.length:=by
    have:=congrArg List.length ht;simp only[Ju,Jl]at this;omega
   rw[Jd hi]at ht;obtain⟨rfl,rfl⟩:=List.cons.inj ht;have hmem:=Jk hi;rw[Je hi];rw[Flo.LB,Qbh8 hb hi]at hA2;show RelA _ (stI cs k b _ _ R fs s c) (stI (Qj2 cs k0 b0 j x0) k b _ _ R'' fs' s c);refine Qbhq hA2 (hr.op k b hk _ hmem) (fun T T' hT=>⟨hk,hb,i+1,_,hi,rfl,rfl,hT⟩) (fun h14 l=>?_) h2;exact Qbr7 hr h0 (Nat.lt_trans (hr.call k b hk _ hmem h14) hk) l
include hr hk0 h0 hjl hx hnl in
theorem Qbt0 (l:List Int){S:Nat}(hS:S≤30000):Qaa7 cs (Qj2 cs k0 b0 j x0) l S:=by
 have hl:(Qj2 cs k0 b0 j x0).length=cs.length:=by rw[Qj2,Jw]
 refine Qbmj (R:=RelA (LvF cs k0 b0 j x0)) (B:=2) (Qbt1 hr h0 hjl hx hnl) (fun e v s c x' hx=>by cases hx;rfl) (by omega) ?_;rw[cf0,cf0,hl];exact .go _ _ (Qbr7 hr h0 (by omega) l) .nil
end
end Go.AE.Y
namespace Go.AE.Y
attribute [local instance] Classical.propDecidable
variable {cs:List CodeD}{q:CodeD}{k0 b0 j:Nat}{x0:InsD}
theorem Qawk {α:Type}{f:α→Nat}:∀{l:List α} {i:Nat} (y:α) (h:i<l.length),Qfb f (l.set i y)+f l[i]=Qfb f l+f y
 |x::l,0,y,h=>by simp[Qfb];omega
 |x::l,i+1,y,h=>by
  have:=Qawk (f:=f) (l:=l) (i:=i) y (by simpa using h);simp only[Qfb,List.set_cons_succ,J5,List.sum_cons,List.getElem_cons_succ]at this⊢;omega
theorem Qbir (hb:b0<q.blocks.length):(Q74 q b0 j x0).blocks.map BlkD.next=q.blocks.map BlkD.next:=by
 refine List.ext_getElem (by simp[Q74]) fun i h1 h2=>?_;simp only[Q74,List.getElem_map,Jt];split
 ·rename_i h;subst h;simp[insB,Qat hb]
 ·rfl
theorem Qbn3 (hb:b0<q.blocks.length)(hj:j≤(Q9 q b0).ins.length):Qfc (Q74 q b0 j x0)=Qfc q+1:=by
 have h:=Qawk (f:=Qsq) (insB (Q9 q b0) j x0) hb;have e:Qsq (insB (Q9 q b0) j x0)=Qsq q.blocks[b0]+1:=by
  rw[←Qat hb];simp only[Qsq,insB,Jn,Jv,Ju,Jl];omega
 have e2:Qfc (Q74 q b0 j x0)=Qfb Qsq (q.blocks.set b0 (insB (Q9 q b0) j x0)):=rfl;rw[e2,Qfc];omega
theorem Qbnz (hk:k0<cs.length)(hb:b0<(Qm cs k0).blocks.length)(hj:j≤(Q9 (Qm cs k0) b0).ins.length):Qfb Qfc (Qj2 cs k0 b0 j x0)=Qfb Qfc cs+1:=by
 have h:=Qawk (f:=Qfc) (Q74 (Qm cs k0) b0 j x0) hk;rw[Qbn3 hb hj,←Qao hk]at h;rw[Qj2];omega
theorem Qxz:(Qj2 cs k0 b0 j x0).length=cs.length:=by simp[Qj2]
theorem Qasn {k:Nat}(hk:k<cs.length):(Qj2 cs k0 b0 j x0)[k]'(by rw[Qxz];exact hk)=if k=k0 then Q74 cs[k] b0 j x0 else cs[k]:=by
 simp only[Qj2,Jt];by_cases h:k0=k
 ·subst h;rw[if_pos rfl,if_pos rfl,Qao hk]
 ·rw[if_neg h,if_neg (fun e=>h e.symm)]
theorem Qbtf (k:Nat):rgOf (Qj2 cs k0 b0 j x0) k=rgOf cs k:=by
 by_cases hk:k<cs.length
 ·rw[Qtr (by rw[Qxz];exact hk),Qtr hk,Qasn hk];split
  ·rfl
  ·rfl
 ·simp[rgOf,Qj2,hk]
theorem Qbte (k:Nat):pmOf (Qj2 cs k0 b0 j x0) k=pmOf cs k:=by
 by_cases hk:k<cs.length
 ·rw[Qtf (by rw[Qxz];exact hk),Qtf hk,Qasn hk];split
  ·rfl
  ·rfl
 ·simp[pmOf,Qj2,hk]
theorem Qbin (k:Nat)(x:InsD):Qx0 (Qj2 cs k0 b0 j x0) k x=Qx0 cs k x:=by
 simp only[Qx0,insL,Qbtf,Qbte]
theorem Qaxb {k b:Nat}{p:CodeD}{y:BlkD}:Qsn (Qj2 cs k0 b0 j x0) k b p y=Qsn cs k b p y:=by
 have e:Qx0 (Qj2 cs k0 b0 j x0) k=Qx0 cs k:=funext fun x=>Qbin k x;rw[Qsn,Qsn,e]
theorem Qbip {k b:Nat}{y:BlkD}(hb:b0<q.blocks.length):Qsn cs k b (Q74 q b0 j x0) y=Qsn cs k b q y:=by
 have hl:(Qn (Q74 q b0 j x0).blocks).length=(Qn q.blocks).length:=by simp[Ql,Q74]
 have hr:(Q74 q b0 j x0).regs=q.regs:=rfl;rw[Qsn,Qsn,hl,hr,Qbir hb]
theorem Qbil {k b:Nat}{y:BlkD}(h:Qsn cs k b q y=true)(hx:Qx0 cs k x0=true):Qsn cs k b q (insB y j x0)=true:=by
 simp only[Qsn,Jg]at h⊢;obtain⟨⟨⟨h1,h2⟩,h3⟩,h4⟩:=h;refine⟨⟨⟨h1,h2⟩,?_⟩,h4⟩;simp only[J6]at h3⊢;intro z hz;simp only[insB,List.mem_append,List.mem_cons]at hz;rcases hz with hz|rfl|hz
 ·exact h3 z (Jo hz)
 ·exact hx
 ·exact h3 z (List.mem_of_mem_drop hz)
theorem Qbed (hg:Qbr cs=true)(hk:k0<cs.length)(hb:b0<(Qm cs k0).blocks.length)(hj:j≤(Q9 (Qm cs k0) b0).ins.length)(hc:Qfb Qfc cs<800)(hx:Qx0 cs k0 x0=true) :
  Qbr (Qj2 cs k0 b0 j x0)=true:=by
 obtain⟨h1,h2,h3⟩:=of_decide_eq_true hg;refine decide_eq_true ⟨by rw[Qxz];exact h1,fun k hkl=>?_,by rw[Qbnz hk hb hj];omega⟩;have hkl':k<cs.length:=by rw[Qxz]at hkl;exact hkl
 obtain⟨g1,g2⟩:=h2 k hkl';have e:=Qasn (k0:=k0) (b0:=b0) (j:=j) (x0:=x0) hkl';by_cases h:k=k0
 ·subst h;rw[if_pos rfl]at e;rw[Qao hkl']at hb hj;have hbl:(Q74 cs[k] b0 j x0).blocks.length=cs[k].blocks.length:=by simp[Q74]
  refine⟨?_,fun b hbb=>?_⟩
  ·rw[e];simp only[Qs7,hbl];exact g1
  ·have hb2:b<cs[k].blocks.length:=by rw[e,hbl]at hbb;exact hbb
   have eb:(Qj2 cs k b0 j x0)[k].blocks[b]=if b=b0 then insB cs[k].blocks[b] j x0 else cs[k].blocks[b]:=by
    simp only[e,Q74,Jt];by_cases h:b0=b
    ·subst h;rw[if_pos rfl,if_pos rfl,Qat hb2]
    ·rw[if_neg h,if_neg (fun e=>h e.symm)]
   rw[eb,Qaxb,e,Qbip hb];split
   ·exact Qbil (g2 b hb2) hx
   ·exact g2 b hb2
 ·rw[if_neg h]at e;refine⟨by rw[e];exact g1,fun b hbb=>?_⟩;have hb2:b<cs[k].blocks.length:=by rw[e]at hbb;exact hbb
  have eb:(Qj2 cs k0 b0 j x0)[k].blocks[b]=cs[k].blocks[b]:=by simp only[e]
  rw[eb,Qaxb,e];exact g2 b hb2
theorem Qbio:Qew (Qj2 cs k0 b0 j x0)=Qew cs:=by
 rw[Qew,Qew,Qxz];by_cases h:cs.length-1<cs.length
 ·rw[Qasl h];split <;> rfl
 ·have:cs=[]:=List.length_eq_zero_iff.1 (by omega);subst this;simp[Qj2]
def numI (r:Int):InsD:=⟨1,r,[],99⟩
theorem Qbub {k:Nat}{r:Int}(h0:0≤r)(h1:r<rgOf cs k):Qx0 cs k (numI r)=true:=by
 have hm:Qb9 1=true:=rfl;have ha:Qgx 1=0:=rfl;have h3:r≤rgOf cs k-1:=by omega
 simp[Qx0,insH,insT,insL,numI,hm,ha,h0,h3,Qq9]
theorem Qbvm (hg:Qbr cs=true)(h:¬Qaec cs=800):Qfb Qfc cs<800:=by
 have h3:=(of_decide_eq_true hg).2.2;rw[Qaec,if_pos hg]at h;have:¬Qfb Qfc cs=800:=fun e=>h (by rw[e];rfl);omega
theorem Qbkb (hg:Qbr cs=true)(hk:k0<cs.length)(hb:b0<(Qm cs k0).blocks.length)(hj:j≤(Q9 (Qm cs k0) b0).ins.length){r:Nat}(hr:(r:Int)<(Qm cs k0).regs)
  (hn:((Qeo (Qm cs k0) b0 j).map Int.ofNat).contains (r:Int)=false) (l:List Int) {S:Nat} (hS:S≤30000):Qaa7 cs (Qj2 cs k0 b0 j (numI r)) l S:=by
 refine Qbt0 (Qad2 hg) hk hb hj rfl (fun h=>?_) l hS;have hmem:r∈Qeo (Qm cs k0) b0 j:=ascL_mem.2 ⟨by omega,h⟩;have:((Qeo (Qm cs k0) b0 j).map Int.ofNat).contains (r:Int)=true:=List.contains_iff_mem.2 (Jaa.2 ⟨r,hmem,rfl⟩);rw[hn]at this;cases this
end Go.AE.Y
namespace Go.AE.Y
open Go.Proofs.Tryz
def Qbut:SC:=cT 15 (sR [fB 2 true] [2] .ret) .skip
def Qbcw:List Item:=[mJ 4 20,mJ 5 21,mJ 6 22]
def Qbcx:List Item:=sJ 1 3 19::Qbcw
def Qbcy:List Item:=mJ 16 18::fI 19 (.ext (.t 16) 0)::fI 20 (.ext (.t 16) 1)::fI 21 (.ext (.t 16) 2)::fI 22 (.ext (.t 16) 3)::eI 3 (.alloc [.sl true 3 []])::Qbcx
def Qbcz:List Item:=[mJ 7 27]
def Qad0:List Item:=[gF 89 86 (.bin 0 .eql (.t 88) (kI 800)),pT 90 86 89]
def Qbc0:List Item:=gF 39 36 (.not (.t 38))::pT 40 36 39::mJ 41 40::gFm 42 41 4::gF 43 41 (.bin 0 .lss (.t 42) (kI 0))::pT 44 41 43::mJ 45 44::gFm 46 45 4::gFf 47 45 0 3::gFl 48 45 47::gF 49 45 (.len (.t 48))::gF 50 45 (.bin 0 .geq (.t 46) (.t 49))::pT 51 45 50::mJ 52 51::gFm 53 52 5::gF 54 52 (.bin 0 .lss (.t 53) (kI 0))::pT 55 52 54::mJ 56 55::gFm 57 56 5::gFf 58 56 0 3::gFl 59 56 58::gFm 60 56 4::gF 61 56 (.iad 3 (.t 59) (.t 60))::gFf 62 56 2 61::gFl 63 56 62::gF 64 56 (.len (.t 63))::gF 65 56 (.bin 0 .geq (.t 57) (.t 64))::pT 66 56 65::mJ 67 66::gFm 68 67 6::gF 69 67 (.bin 0 .lss (.t 68) (kI (-1)))::pT 70 67 69::mJ 71 70::gFm 72 71 6::gFf 73 71 0 3::gFl 74 71 73::gFm 75 71 4::gF 76 71 (.iad 3 (.t 74) (.t 75))::gFf 77 71 2 76::gFl 78 71 77::gFm 79 71 5::gF 80 71 (.iad 5 (.t 78) (.t 79))::gFf 81 71 1 80::gFl 82 71 81::gF 83 71 (.len (.t 82))::gF 84 71 (.bin 0 .geq (.t 72) (.t 83))::pT 85 71 84::mJ 86 85::gF 87 86 (.ld 1 true (.t 3))::.e (some 88) (some (86,false)) (.call Qgp [.t 87])::Qad0
def Qbc1:List Item:=oJ 35 34::mJ 36 35::gF 37 36 (.ld 1 true (.t 3))::.e (some 38) (some (36,false)) (.call Qbb [.t 37])::Qbc0
def Qbc2:List Item:=aJ 34 Qke [.t 28,.t 33]::Qbc1
def Qbc3:List Item:=[mJ 2 97]
def Qa23:List Item:=aJ 97 Qke [.t 91,.t 96]::Qbc3
def Qbct:SC:=cT 90 (sR (mJ 91 7::tJ 92 1 3::mJ 93 4::mJ 94 5::mJ 95 6::aJ 96 Qcp [.t 92,.t 93,.t 94,.t 95]::Qa23) [2] .ret) .skip
def Qa24:List Item:=[sJ 1 9 114]
def Qa25:List Item:=fI 114 (.bld [.sl true 3 []] [(0,1,.t 113)])::eI 9 (.alloc [.sl true 3 []])::Qa24
def Qa26:List Item:=[hJ 116 115,iJ 126 3 116 117,fJ 127 2 126,sJ 1 127 125]
def Qa27:List Item:=[kJ 158 136,fJ 159 1 158,sJ 1 159 157]
def Qa28:List Item:=hJ 153 152::.chk 156 none (.sli 4 (.t 153) (some (.t 155)) none)::xJ 157 4 149 156::Qa27
def Qa29:List Item:=hJ 153 152::.chk 156 none (.sli 4 (.t 153) (some (.t 155)) none)::xJ 149 4 145 148::Qa28
def Qa3a:List Item:=[nJ 162 161,zJ 163 0]
def Qa3b:List Item:=[oJ 171 170]
def Qbq4:SC:=cT 171 (sR [fB 2 false] [2] .ret) .skip
def Qbq5:SC:=sR (tJ 167 1 3::tJ 168 1 9::mJ 169 12::aJ 170 Qgq [.t 167,.t 168,.t 169,kI 300]::Qa3b) [3,4,5,6,7,9,103,104,161,162,163,171] Qbq4
def Qbq6:SC:=.reg [cJ 172 .add 163 1,mJ 163 172] [3,4,5,6,7,9,103,104,161,162,163]
def Qbq7:SC:=.seq (.block 3 (sR [iJ 165 1 161 163,lJ 166 165,mJ 12 166] [3,4,5,6,7,9,12,103,104,161,162,163] Qbq5)) Qbq6
def Qbmf:SC:=sR [bJ 164 .lss 163 162] [3,4,5,6,7,9,103,104,161,162,163,164] (cX 164 2 Qbq7)
def Qbq8:SC:=.seq (.seq .gh (.reg (tJ 160 1 3::aJ 161 Qdz [.t 160]::Qa3a) [3,4,5,6,7,9,103,104,161,162,163])) (bL 2 Qbmf)
def Qbq9:SC:=.seq (.dreg 25 [0,1,2,3,4,5,6,7,8,10,11,12,14,15,16,17,18,19,20,9,17,20,13,17,20,21,22,23,24] ( mJ 136 10::fI 137 (.bsl 4 [])::mJ 138 10::kJ 139 138::fJ 140 1 139::lJ 141 140::mJ 142 6::cJ 143 .add 142 1::fI 144 (.sli 4 (.t 141) none (some (.t 143)))::mJ 146 8::fI 147 (.bld [.int .i64 0,.int .i64 0,.sl true 1 [],.int .i64 0] [(0,1,kI 1),(1,1,.t 146),(3,1,kI 99)])::fI 148 (.bsl 4 [.t 147])::mJ 150 10::kJ 151 150::fJ 152 1 151::lJ 153 152::mJ 154 6::cJ 155 .add 154 1::fI 156 (.sli 4 (.t 153) (some (.t 155)) none)::xJ 145 4 137 144::Qa29) [3,4,5,6,7,9,103,104]) Qbq8
def Qbra:SC:=sR [fJ 128 0 9,lJ 129 128,mJ 130 4,iJ 131 3 129 130,fJ 132 2 131,lJ 133 132,mJ 134 5,iJ 135 5 133 134,mJ 10 135] [3,4,5,6,7,8,9,10,103,104] Qbq9
def Qbrb:SC:=.seq (.dreg 14 [0,1,2,3,4,5,6,7,8,9,10,1,11,12,13] ( fJ 115 0 9::lJ 116 115::mJ 117 4::fI 118 (.bsl 5 [])::fJ 119 0 3::lJ 120 119::mJ 121 4::iJ 122 3 120 121::fJ 123 2 122::lJ 124 123::xJ 125 5 118 124::Qa26) [3,4,5,6,7,8,9,103,104]) Qbra
def Qbcu:SC:=sR (fI 110 (.bsl 3 [])::fJ 111 0 3::lJ 112 111::xJ 113 3 110 112::Qa25) [3,4,5,6,7,8,9,103,104] Qbrb
def Qbrc:SC:=.seq (sR [mJ 107 7,mJ 108 8,aJ 109 Q0z [.t 107,.t 108]] [3,4,5,6,7,8,103,104,109] (cT 109 (.exit 1) .skip)) Qbcu
def Qbrd:SC:=.reg [cJ 173 .add 104 1,mJ 104 173] [3,4,5,6,7,103,104]
def Qbre:SC:=.seq (.block 1 (sR [mJ 106 104,mJ 8 106] [3,4,5,6,7,8,103,104] Qbrc)) Qbrd
def Qbmg:SC:=sR [bJ 105 .lss 104 103] [3,4,5,6,7,103,104,105] (cX 105 0 Qbre)
def Qbrf:SC:=sR [fB 2 true] [2] .ret
def Qbcv:SC:=.seq (sR [fJ 98 0 3,lJ 99 98,mJ 100 4,iJ 101 3 99 100,fJ 102 1 101,lJ 103 102,zJ 104 0] [3,4,5,6,7,103,104] (bL 0 Qbmg)) Qbrf
def Qbrg:SC:=.seq (sR (mJ 28 7::tJ 29 1 3::mJ 30 4::mJ 31 5::mJ 32 6::aJ 33 Qcp [.t 29,.t 30,.t 31,.t 32]::Qbc2) [3,4,5,6,7,90] Qbct) Qbcv
def Qbrh:SC:=sR (tJ 23 1 3::mJ 24 4::mJ 25 5::mJ 26 6::aJ 27 Qdy [.t 23,.t 24,.t 25,.t 26]::Qbcz) [3,4,5,6,7] Qbrg
def Qbri:SC:=sR (mJ 17 0::aJ 18 Qdp [.t 17]::Qbcy) [3,4,5,6] Qbrh
def Qbrj:SC:=.seq (sR [mJ 13 0,nJ 14 13,cJ 15 .gtr 14 1048576] [0,15] Qbut) Qbri
def Qbx6:SC:=sR [fB 2 false] [0] Qbrj
def Qbpv:List RS:=[.tmp 2]
theorem Qbxq:mFn prog Qkd 1 174 Qbx6 Qbpv=true:=by kernel_rfl
end Go.AE.Y
namespace Go.AE.Y
attribute [local go_sem] cond_true cond_false Bool.not_true Bool.not_false
attribute [local instance] Classical.propDecidable
open Go.Proofs.Tryz
variable {H H0:Heap}{K:V→Heap→Prop}{E B:List (Nat×Obj)}{cs:List CodeD}
theorem Qasg {H:Heap}{S:Nat→Bool}{x y:List C}(h:FrzL H S x y):∀{l:List (List C)} (n:Nat),(∀r∈l,noOw r=true)→FrzR H S (l.set n x) (l.set n y)
 |[],_,_=>.nil
 |a::l,0,hl=>.cons h (FrzR.same fun r hr=>hl r (Jy _ hr))
 |a::l,n+1,hl=>.cons (.same (hl a List.mem_cons_self)) (Qasg h n fun r hr=>hl r (Jy _ hr))
theorem Qbec {k b j:Nat}{x:InsD}:Qj (Qj2 cs k b j x)=(Qj cs).set k (Q74 (Qm cs k) b j x).cells:=by simp[Qj,Qj2,J9]
theorem Qbiq {q:CodeD}{b j:Nat}{x:InsD}:Qn (Q74 q b j x).blocks=(Qn q.blocks).set b (insB (Q9 q b) j x).cells:=by simp[Qn,Q74,J9]
theorem Qbim {m n j:Nat}{x:InsD}(hf:∀c∈cs,c.fits)(hm:m<cs.length)(hn:n<cs[m].blocks.length)(hl:cs[m].blocks[n].ins.length≤1200):∀c∈Qj2 cs m n j x,c.fits:=by
 intro c hc;rw[Qj2,Qao hm]at hc;rcases Jr hc with h|rfl
 ·exact hf c h
 ·intro b hb;rw[Q74,Qat hn]at hb;have h0:=hf _ (Jk hm);rcases Jr hb with h|rfl
  ·exact h0 b h
  ·have h1:=h0 _ (Jk hn);refine⟨?_,h1.2⟩;simp only[insB,Jn,Jv,Ju,Jl];omega
set_option maxHeartbeats 4000000 in
theorem Qbtt {Q:X→Env→Heap→Prop}{H1:Heap}{e:Env}{x3 m n j r:Nat}{Rg:Int}{f:Bool}{L:List Nat}(hgl:H 0=.gl 0 tryC)(hfit:∀c∈cs,c.fits)(hg:Qbr cs=true)(hm:m<cs.length)(hn:n<cs[m].blocks.length)(hj:j≤cs[m].blocks[n].ins.length)
  (hcnt:Qfb Qfc cs<800) (hr:(r:Int)<cs[m].regs) (hL:((Qeo cs[m] n j).map Int.ofNat).contains (r:Int)=false) (kn:Kn H H1 [] [(x3,.st [.sl false 3 (Qj cs)])])
  (l3:lk 3 e=.c (.ptr x3 0)) (l4:lk 4 e=.c (.int .i64 m)) (l5:lk 5 e=.c (.int .i64 n)) (l6:lk 6 e=.c (.int .i64 ((j:Int)-1))) (l7:lk 7 e=.c (.sl f 1 (Qbq L))) (l8:lk 8 e=.c (.int .i64 r)) (l103:lk 103 e=.c (.int .i64 Rg)) (l104:lk 104 e=.c (.int .i64 r))
  (hQ:∀H' e',Kn H H' [] [(x3,.st [.sl false 3 (Qj cs)])]→lk 3 e'=.c (.ptr x3 0)→lk 4 e'=.c (.int .i64 m)→lk 5 e'=.c (.int .i64 n)→lk 6 e'=.c (.int .i64 ((j:Int)-1))→lk 7 e'=.c (.sl f 1 (Qbq L))→lk 103 e'=.c (.int .i64 Rg)→lk 104 e'=.c (.int .i64 r)→Q .nrm e' H') :
  Qam prog Qbcu Q e H1:=by
 have hx3:=kn.l 0 rfl;have hcl:cs.length≤4:=(runW hg).n;have hok:=Qly hg hm;have hb1:=hok.b1;have hil:=(hok.il n hn).1;refine Qa ?_;simp only[go_sem,l3,l4,l5,l6,l7,l8,l103,l104,hx3,Qo];refine⟨.inl trivial,Qbe _,by simp only[LIM];omega,fun y3 hy3 H2 h2=>?_⟩;have kn:=kn.al hy3 h2;rw[Jq];have hx3:=kn.l 0 rfl;simp only[go_sem,Qa25];intro x9 hx9 H3 h3;have kn:=kn.al hx9 h3;have hx9:=kn.l 2 rfl;simp only[go_sem,Qa24,hx9];intro H4 h4;have kn:Kn H H4 [] [(x3,.st [.sl false 3 (Qj cs)]),(y3,.vec 3 (Qj cs)),(x9,.st [.vsl y3 3 0 cs.length])]:=kn.stL 2 rfl h4;have hx3:=kn.l 0 rfl;have hy3:=kn.l 1 rfl;have hx9:=kn.l 2 rfl;refine Qaj ?_;simp only[go_sem,l3,l4,l5,l6,l7,l8,l103,l104,hx3,hx9,hm,Qo,Q0 _ _ hm,CodeD.cells,Ql];refine⟨.inl trivial,Q0s _,by simp only[LIM];omega,fun y5 hy5 H5 h5=>?_⟩;have kn:=kn.al hy5 h5;rw[Jq];have hy3:=kn.l 1 rfl;have hx9:=kn.l 2 rfl;simp only[go_sem,Qa26,hx9,hy3,hm,Qo,Q0 _ _ hm,CodeD.cells];refine⟨by omega,by omega,?_⟩;rw[Jq,Q0 _ _ hm];intro H6 h6;obtain⟨T3,hT3⟩:∃T,T=(Qj cs).set m [.int .i64 cs[m].params,.int .i64 cs[m].regs,.vsl y5 5 0 cs[m].blocks.length]:=⟨_,rfl⟩;have kn:Kn H H6 [] [(x3,.st [.sl false 3 (Qj cs)]),(y3,.vec 3 T3),(x9,.st [.vsl y3 3 0 cs.length]),(y5,.vec 5 (Qn cs[m].blocks))]:=by
  have:=kn.stL 1 rfl h6;rw[hT3];exact this
 have g3:T3.getD m []=[.int .i64 cs[m].params,.int .i64 cs[m].regs,.vsl y5 5 0 cs[m].blocks.length]:=by
  rw[hT3,Jb,List.getElem?_set_self (by rw[Qo];exact hm)];rfl
 have g3l:T3.length=cs.length:=by rw[hT3,Jw,Qo]
 have g3t:T3.take cs.length=T3:=Jc (by omega);have hx3:=kn.l 0 rfl;have hy3:=kn.l 1 rfl;have hx9:=kn.l 2 rfl;have hy5:=kn.l 3 rfl;refine Qa ?_;simp only[go_sem,hx9,hy3,hy5,hm,hn,g3,g3l,g3t,Ql];refine⟨by omega,by omega,by omega,?_⟩;have e1:(j:Int)-1+1=(j:Int):=by omega
 have g5t:(Qn cs[m].blocks).take cs[m].blocks.length=Qn cs[m].blocks:=Jc (by rw[Ql];exact J2 _);refine Qaj ?_;simp only[go_sem,hy5,hn,e1,g5t,Ql,Q1 _ _ hn,BlkD.cells,Q4];have hI:(Qag cs[m].blocks[n].ins).length=cs[m].blocks[n].ins.length:=Q4 _;have hno:=Qed cs[m].blocks[n].ins;have hlt:((Qag cs[m].blocks[n].ins).take j).length=j:=by rw[Jv,hI];omega
 have hld:((Qag cs[m].blocks[n].ins).drop j).length=cs[m].blocks[n].ins.length-j:=by rw[Jl,hI]
 have hlw:(Qag cs[m].blocks[n].ins).take cs[m].blocks[n].ins.length=Qag cs[m].blocks[n].ins:=Jc (by omega);refine⟨by omega,Qs (by omega) (by omega),⟨Jz 0,by omega⟩,by omega,Qs (by omega) (by omega),⟨by omega,Jz _⟩,.inl trivial,fun w hw=>hno w (Jo hw),by rw[hlt];simp only[LIM];omega,fun y4 hy4 H7 h7=>?_⟩;have kn:=kn.al hy4 h7;rw[Jq,hlt,hlw];have hy4:=kn.l 4 rfl;have hy5:=kn.l 3 rfl;simp only[go_sem,Qa29,hy4,hy5,hn,hlt,hld,hlw,g5t,Ql,Q1 _ _ hn,BlkD.cells,Q4];refine⟨by omega,⟨by omega,Jz _⟩,by omega,by simp only[LIM];omega,fun y4b hy4b H8 h8=>?_⟩;obtain⟨T4,hT4⟩:∃T,T=(Qag cs[m].blocks[n].ins).take j++[[C.int .i64 1,.int .i64 r,.sl true 1 [],.int .i64 99]]:=⟨_,rfl⟩;have kn:Kn H H8 [] [(x3,.st [.sl false 3 (Qj cs)]),(y3,.vec 3 T3),(x9,.st [.vsl y3 3 0 cs.length]),(y5,.vec 5 (Qn cs[m].blocks)),(y4b,.vec 4 T4)]:=by
  have:=kn.ap 4 rfl hy4b h8;rw[Jc (Nat.le_of_eq hlt),←hT4]at this;exact this
 have g4l:T4.length=j+1:=by rw[hT4,Jn,hlt];rfl
 have g4t:T4.take (j+1)=T4:=Jc (by omega);have hy4:=kn.l 4 rfl;have hy5:=kn.l 3 rfl;simp only[go_sem,Qa28,hy4,hy5,hn,hlt,hld,hlw,g5t,g4l,g4t,Ql,Q1 _ _ hn,BlkD.cells,Q4];refine⟨by omega,⟨by omega,Jz _⟩,by omega,fun w hw=>hno w (List.mem_of_mem_drop hw),by simp only[LIM];omega,fun y4c hy4c H9 h9=>?_⟩;obtain⟨T6,hT6⟩:∃T,T=T4++(Qag cs[m].blocks[n].ins).drop j:=⟨_,rfl⟩;have kn:Kn H H9 [] [(x3,.st [.sl false 3 (Qj cs)]),(y3,.vec 3 T3),(x9,.st [.vsl y3 3 0 cs.length]),(y5,.vec 5 (Qn cs[m].blocks)),(y4c,.vec 4 T6)]:=by
  have:=kn.ap 4 rfl hy4c h9;rw[←hT6]at this;exact this
 have g6l:T6.length=cs[m].blocks[n].ins.length+1:=by rw[hT6,Jn,g4l,hld];omega
 have e2:j+1+(cs[m].blocks[n].ins.length-j)=cs[m].blocks[n].ins.length+1:=by omega
 have hy5:=kn.l 3 rfl;simp only[go_sem,Qa27,e2,hy5,hn,g5t,Ql,Q1 _ _ hn,BlkD.cells];refine⟨by omega,?_⟩;rw[Jq,Q1 _ _ hn];intro H10 h10;obtain⟨T5,hT5⟩:∃T,T=(Qn cs[m].blocks).set n [C.sl false 2 (Q7 cs[m].blocks[n].phis),.vsl y4c 4 0 (cs[m].blocks[n].ins.length+1),.int .i64 cs[m].blocks[n].jump,.int .i64 cs[m].blocks[n].on,.sl false 1 (Qb cs[m].blocks[n].next)]:=⟨_,rfl⟩;have kn:Kn H H10 [] ([(x3,.st [.sl false 3 (Qj cs)]),(x9,.st [.vsl y3 3 0 cs.length])]++[(y3,.vec 3 T3),(y5,.vec 5 T5),(y4c,.vec 4 T6)]):=by
  have k0:Kn H H10 [] [(x3,.st [.sl false 3 (Qj cs)]),(y3,.vec 3 T3),(x9,.st [.vsl y3 3 0 cs.length]),(y5,.vec 5 T5),(y4c,.vec 4 T6)]:=by
   have:=kn.stL 3 rfl h10;rw[hT5];exact this
  exact k0.perm (Qp fun f hf h0 hc hp=>by
   show f ([(x3,_)]++([(y3,_)]++([(x9,_)]++([(y5,_)]++[(y4c,_)]))))=f (([(x3,_)]++[(x9,_)])++([(y3,_)]++([(y5,_)]++[(y4c,_)])));simp only[hf];omega)
 obtain⟨S,hSL,hSB,hfz,kn⟩:=kn.freeze0;have hx9b:=hSB (x9,.st [.vsl y3 3 0 cs.length]) (by simp);have q3:=hSL (y3,.vec 3 T3) (by simp);have q5:=hSL (y5,.vec 5 T5) (by simp);have q4:=hSL (y4c,.vec 4 T6) (by simp);have f4:FrzC H10 S (.vsl y4c 4 0 (cs[m].blocks[n].ins.length+1)) (.sl false 4 (Qag (insB cs[m].blocks[n] j (numI r)).ins)):=by
  refine FrzR.vsl q4.2 q4.1 g6l.symm ?_;have er:Qag (insB cs[m].blocks[n] j (numI r)).ins=((Qag cs[m].blocks[n].ins).take j++[(numI r).cells])++(Qag cs[m].blocks[n].ins).drop j:=by
   simp[insB,Qag]
  rw[hT6,hT4,er];refine ((FrzR.same fun w hw=>hno w (Jo hw)).app (.cons (.cons (.same _ rfl) (.cons (.same _ rfl) (.cons FrzR.nil.sl (.cons (.same _ rfl) .nil)))) .nil)).app (FrzR.same fun w hw=>hno w (List.mem_of_mem_drop hw))
 have f5:FrzC H10 S (.vsl y5 5 0 cs[m].blocks.length) (.sl false 5 (Qn (Q74 cs[m] n j (numI r)).blocks)):=by
  refine FrzR.vsl q5.2 q5.1 (by rw[hT5,Jw,Ql]) ?_;rw[hT5,Qbiq,Qat hn];exact Qasg (.cons (.same _ rfl) (.cons f4 (.cons (.same _ rfl) (.cons (.same _ rfl) (.cons (.same _ rfl) .nil))))) n (Q0s _)
 have f3:FrzC H10 S (.vsl y3 3 0 cs.length) (.sl false 3 (Qj (Qj2 cs m n j (numI r)))):=by
  refine FrzR.vsl q3.2 q3.1 g3l.symm ?_;rw[hT3,Qbec,Qao hm];exact Qasg (.cons (.same _ rfl) (.cons (.same _ rfl) (.cons f5 .nil))) m (Qbe _)
 have kn:=kn.setL (o':=.st [.sl false 3 (Qj (Qj2 cs m n j (numI r)))]) 1 rfl (by simp);refine Qaa ?_;refine c_gh (Qgc S (Qash ?_) (hfz.set (o:=.st [.sl false 3 (Qj (Qj2 cs m n j (numI r)))]) hx9b.2 (by rw[hx9b.1];exact FrzKL.st (.cons rfl f3 .nil))))
  (e':=[(3,.c (.ptr x3 0)),(4,.c (.int .i64 m)),(5,.c (.int .i64 n)),(6,.c (.int .i64 ((j:Int)-1))),(7,.c (.sl f 1 (Qbq L))),(9,.c (.ptr x9 0)),(103,.c (.int .i64 Rg)),(104,.c (.int .i64 r))]) ?_
 ·simp only[Jx];exact⟨.c _ _ (.same _ rfl),.c _ _ (.same _ rfl),.c _ _ (.same _ rfl),.c _ _ (.same _ rfl),.c _ _ (.same _ rfl),.c _ _ (.same _ rfl),.c _ _ (.same _ rfl),.c _ _ (.same _ rfl),by simp⟩
 have hfd:∀c∈Qj2 cs m n j (numI r),c.fits:=Qbim hfit hm hn (by omega);generalize (H10.frz S).set x9 (Obj.st [C.sl false 3 (Qj (Qj2 cs m n j (numI r)))])=H11 at *;have kn:Kn H H11 [] [(x3,.st [.sl false 3 (Qj cs)]),(x9,.st [.sl false 3 (Qj (Qj2 cs m n j (numI r)))])]:=kn;clear hfz hx9b hSL hSB q3 q4 q5 f3 f4 f5;have hj':j≤(Q9 (Qm cs m) n).ins.length:=by rw[Qao hm,Qat hn];exact hj
 have hn':n<(Qm cs m).blocks.length:=by rw[Qao hm];exact hn
 have hg2:Qbr (Qj2 cs m n j (numI r))=true:=Qbed hg hm hn' hj' hcnt (Qbub (by omega) (by rw[Qtr hm];exact hr));have hsame:∀l,Qaa7 cs (Qj2 cs m n j (numI r)) l 300:=fun l=>Qbkb hg hm hn' hj' (by rw[Qao hm];exact hr) (by rw[Qao hm];exact hL) l (by omega);have hmp:Qew (Qj2 cs m n j (numI r))=Qew cs:=Qbio;obtain⟨ds,hds⟩:∃ds,Qj2 cs m n j (numI r)=ds:=⟨_,rfl⟩;rw[hds]at kn hg2 hsame hmp hfd;have hne:H 0≠.none:=by rw[hgl];nofun
 have hx3:=kn.l 0 rfl;refine Qa ?_;simp only[go_sem,hx3];refine Q71 (by rw[kn.chg 0 hne (by simp)];exact hgl) hfit hg fun H12 hu=>?_;have kn:=kn.call0 hu;obtain⟨p0,p3,_⟩:=(runW hg).par (cs.length-1) (by have:=(runW hg).ro.n;omega);obtain⟨np,hnp⟩:∃n:Nat,Qew cs=n:=⟨(Qew cs).toNat,by rw[Qew];omega⟩;have hn3:np≤3:=by rw[Qew]at hnp;omega
 rw[hnp,Ja];simp only[go_sem,Qa3a,Qawm];try intro _
 refine Qe (Qx (fun mm e1 H1=>∃(i:Nat),mm=3-i∧i≤3∧Kn H H1 [] [(x3,.st [.sl false 3 (Qj cs)]),(x9,.st [.sl false 3 (Qj ds)])]∧
  e1=[(3,.c (.ptr x3 0)),(4,.c (.int .i64 m)),(5,.c (.int .i64 n)),(6,.c (.int .i64 ((j:Int)-1))),(7,.c (.sl f 1 (Qbq L))),(9,.c (.ptr x9 0)),(103,.c (.int .i64 Rg)),(104,.c (.int .i64 r)),(161,.c (.sl false 1 (triL np))),(162,.c (.int .i64 3)),(163,.c (.int .i64 i))]) 3 ?_ ?_)
 ·exact⟨0,by omega,by omega,kn,rfl⟩
 clear kn hx3;rintro mm e1 H13 ⟨i,hmm,hi,kn,rfl⟩;have hx3:=kn.l 0 rfl;have hx9:=kn.l 1 rfl;refine Qa ?_;simp only[go_sem];refine Qh (Qd rfl ?_ ?_)
 ·intro hc1;have hlt:i<3:=by have:(i:Int)<3:=of_decide_eq_true hc1;omega
  refine Qg ?_;try simp only[go_sem]
  refine Qh (Qe ?_);refine Qa ?_;simp only[go_sem,hlt,Qawm,Qbmu np hlt];refine Qa ?_;simp only[go_sem,hx3,hx9];refine Qaqx (S:=300) hfit hfd hg hg2 (by rw[Qad1 hlt hn3,hnp]) (by rw[Qad1 hlt hn3,hmp,hnp]) (Qbm0 hlt) (by omega) (hsame _) fun H14 hu=>?_;have kn:=kn.call0 hu;simp only[go_sem,Qa3b];refine Qd (c:=false) rfl (fun h=>by cases h) fun _=>?_;refine Qg ?_;try simp only[go_sem]
  refine Qt ?_;simp only[go_sem,X.next];exact⟨Qs (by omega) (by omega),3-(i+1),by omega,i+1,rfl,by omega,kn,rfl⟩
 ·intro _;refine Qw ?_;simp only[go_sem,X.next];exact hQ _ _ (Kn.drop (A:=[_]) (B:=[_]) kn) rfl rfl rfl rfl rfl rfl rfl
end Go.AE.Y
namespace Go.AE.Y
attribute [local go_sem] cond_true cond_false Bool.not_true Bool.not_false
attribute [local instance] Classical.propDecidable
open Go.Proofs.Tryz
variable {H H0:Heap}{K:V→Heap→Prop}{E B:List (Nat×Obj)}{cs:List CodeD}{bs:List UInt8}
def Qa22:List Item:=
  .f (some 87) (some (86,false)) (.ld 1 true (.t 3))::
  .e (some 88) (some (86,false)) (.call Qgp [.t 87])::
  Qad0
def Qalx:List Item:=
  .f (some 72) (some (71,false)) (.mv (.t 6))::
  .f (some 73) (some (71,false)) (.fad 0 (.t 3))::
  .f (some 74) (some (71,false)) (.ld 1 false (.t 73))::
  .f (some 75) (some (71,false)) (.mv (.t 4))::
  .f (some 76) (some (71,false)) (.iad 3 (.t 74) (.t 75))::
  .f (some 77) (some (71,false)) (.fad 2 (.t 76))::
  .f (some 78) (some (71,false)) (.ld 1 false (.t 77))::
  .f (some 79) (some (71,false)) (.mv (.t 5))::
  .f (some 80) (some (71,false)) (.iad 5 (.t 78) (.t 79))::
  .f (some 81) (some (71,false)) (.fad 1 (.t 80))::
  .f (some 82) (some (71,false)) (.ld 1 false (.t 81))::
  .f (some 83) (some (71,false)) (.len (.t 82))::
  .f (some 84) (some (71,false)) (.bin 0 .geq (.t 72) (.t 83))::
  .f (some 85) none (.pick (.t 71) (.k (.c (.bool true))) (.t 84))::
  .f (some 86) none (.mv (.t 85))::
  Qa22
def Qalw:List Item:=
  .f (some 68) (some (67,false)) (.mv (.t 6))::
  .f (some 69) (some (67,false)) (.bin 0 .lss (.t 68) (.k (.c (.int .i64 (-1)))))::
  .f (some 70) none (.pick (.t 67) (.k (.c (.bool true))) (.t 69))::
  .f (some 71) none (.mv (.t 70))::
  Qalx
def Qalv:List Item:=
  .f (some 57) (some (56,false)) (.mv (.t 5))::
  .f (some 58) (some (56,false)) (.fad 0 (.t 3))::
  .f (some 59) (some (56,false)) (.ld 1 false (.t 58))::
  .f (some 60) (some (56,false)) (.mv (.t 4))::
  .f (some 61) (some (56,false)) (.iad 3 (.t 59) (.t 60))::
  .f (some 62) (some (56,false)) (.fad 2 (.t 61))::
  .f (some 63) (some (56,false)) (.ld 1 false (.t 62))::
  .f (some 64) (some (56,false)) (.len (.t 63))::
  .f (some 65) (some (56,false)) (.bin 0 .geq (.t 57) (.t 64))::
  .f (some 66) none (.pick (.t 56) (.k (.c (.bool true))) (.t 65))::
  .f (some 67) none (.mv (.t 66))::
  Qalw
def Qalu:List Item:=
  .f (some 53) (some (52,false)) (.mv (.t 5))::
  .f (some 54) (some (52,false)) (.bin 0 .lss (.t 53) (.k (.c (.int .i64 0))))::
  .f (some 55) none (.pick (.t 52) (.k (.c (.bool true))) (.t 54))::
  .f (some 56) none (.mv (.t 55))::
  Qalv
def Qalt:List Item:=
  .f (some 46) (some (45,false)) (.mv (.t 4))::
  .f (some 47) (some (45,false)) (.fad 0 (.t 3))::
  .f (some 48) (some (45,false)) (.ld 1 false (.t 47))::
  .f (some 49) (some (45,false)) (.len (.t 48))::
  .f (some 50) (some (45,false)) (.bin 0 .geq (.t 46) (.t 49))::
  .f (some 51) none (.pick (.t 45) (.k (.c (.bool true))) (.t 50))::
  .f (some 52) none (.mv (.t 51))::
  Qalu
def Qary:List Item:=
  .f (some 39) (some (36,false)) (.not (.t 38))::
  .f (some 40) none (.pick (.t 36) (.k (.c (.bool true))) (.t 39))::
  .f (some 41) none (.mv (.t 40))::
  .f (some 42) (some (41,false)) (.mv (.t 4))::
  .f (some 43) (some (41,false)) (.bin 0 .lss (.t 42) (.k (.c (.int .i64 0))))::
  .f (some 44) none (.pick (.t 41) (.k (.c (.bool true))) (.t 43))::
  .f (some 45) none (.mv (.t 44))::
  Qalt
theorem Qbv9:Qbc0=Qary:=rfl
structure LbE (x3:Nat)(k b i:Int)(c7:C)(e:Env):Prop where
 l3:lk 3 e=.c (.ptr x3 0)
 l4:lk 4 e=.c (.int .i64 k)
 l5:lk 5 e=.c (.int .i64 b)
 l6:lk 6 e=.c (.int .i64 i)
 l7:lk 7 e=.c c7
section
variable {x3:Nat}{k b i:Int}{c7:C}{e:Env}{P:Value→Heap→Prop}{Kc:Env→Heap→Prop}
theorem lbt7 (hx3:H x3=.st [.sl false 3 (Qj cs)])(h:LbE x3 k b i c7 e)(hb:lk 86 e=.c (.bool true))(hK:∀e',LbE x3 k b i c7 e'→lk 90 e'=.c (.bool true)→Kc e' H):Qyd prog Qa22 e H P Kc:=by
 simp only[go_sem,Qa22,Qad0,hx3,hb,h.l3,h.l4,h.l5,h.l6];exact hK _ ⟨h.l3,h.l4,h.l5,h.l6,h.l7⟩ rfl
theorem lbt6 (hx3:H x3=.st [.sl false 3 (Qj cs)])(h:LbE x3 k b i c7 e)(hb:lk 71 e=.c (.bool true))(hK:∀e',LbE x3 k b i c7 e'→lk 90 e'=.c (.bool true)→Kc e' H):Qyd prog Qalx e H P Kc:=by
 simp only[go_sem,Qalx,hx3,hb,h.l3,h.l4,h.l5,h.l6];refine lbt7 (x3:=x3) (k:=k) (b:=b) (i:=i) (c7:=c7) hx3 ?_ ?_ hK
 ·exact⟨h.l3,h.l4,h.l5,h.l6,h.l7⟩
 ·rfl
theorem lbt5 (hx3:H x3=.st [.sl false 3 (Qj cs)])(h:LbE x3 k b i c7 e)(hb:lk 67 e=.c (.bool true))(hK:∀e',LbE x3 k b i c7 e'→lk 90 e'=.c (.bool true)→Kc e' H):Qyd prog Qalw e H P Kc:=by
 simp only[go_sem,Qalw,hx3,hb,h.l3,h.l4,h.l5,h.l6];refine lbt6 (x3:=x3) (k:=k) (b:=b) (i:=i) (c7:=c7) hx3 ?_ ?_ hK
 ·exact⟨h.l3,h.l4,h.l5,h.l6,h.l7⟩
 ·rfl
theorem lbt4 (hx3:H x3=.st [.sl false 3 (Qj cs)])(h:LbE x3 k b i c7 e)(hb:lk 56 e=.c (.bool true))(hK:∀e',LbE x3 k b i c7 e'→lk 90 e'=.c (.bool true)→Kc e' H):Qyd prog Qalv e H P Kc:=by
 simp only[go_sem,Qalv,hx3,hb,h.l3,h.l4,h.l5,h.l6];refine lbt5 (x3:=x3) (k:=k) (b:=b) (i:=i) (c7:=c7) hx3 ?_ ?_ hK
 ·exact⟨h.l3,h.l4,h.l5,h.l6,h.l7⟩
 ·rfl
theorem lbt3 (hx3:H x3=.st [.sl false 3 (Qj cs)])(h:LbE x3 k b i c7 e)(hb:lk 52 e=.c (.bool true))(hK:∀e',LbE x3 k b i c7 e'→lk 90 e'=.c (.bool true)→Kc e' H):Qyd prog Qalu e H P Kc:=by
 simp only[go_sem,Qalu,hx3,hb,h.l3,h.l4,h.l5,h.l6];refine lbt4 (x3:=x3) (k:=k) (b:=b) (i:=i) (c7:=c7) hx3 ?_ ?_ hK
 ·exact⟨h.l3,h.l4,h.l5,h.l6,h.l7⟩
 ·rfl
theorem lbt2 (hx3:H x3=.st [.sl false 3 (Qj cs)])(h:LbE x3 k b i c7 e)(hb:lk 45 e=.c (.bool true))(hK:∀e',LbE x3 k b i c7 e'→lk 90 e'=.c (.bool true)→Kc e' H):Qyd prog Qalt e H P Kc:=by
 simp only[go_sem,Qalt,hx3,hb,h.l3,h.l4,h.l5,h.l6];refine lbt3 (x3:=x3) (k:=k) (b:=b) (i:=i) (c7:=c7) hx3 ?_ ?_ hK
 ·exact⟨h.l3,h.l4,h.l5,h.l6,h.l7⟩
 ·rfl
theorem lbf1 (hx3:H x3=.st [.sl false 3 (Qj cs)])(h:LbE x3 k b i c7 e)(h36:lk 36 e=.c (.bool false))(h38:lk 38 e=.c (.bool false))(hK:∀e',LbE x3 k b i c7 e'→lk 90 e'=.c (.bool true)→Kc e' H):Qyd prog Qary e H P Kc:=by
 simp only[go_sem,Qary,hx3,h36,h38,h.l3,h.l4];refine lbt2 (x3:=x3) (k:=k) (b:=b) (i:=i) (c7:=c7) hx3 ?_ ?_ hK
 ·exact⟨h.l3,h.l4,h.l5,h.l6,h.l7⟩
 ·rfl
theorem lbn (hx3:H x3=.st [.sl false 3 (Qj cs)])(h:LbE x3 k b i c7 e)(h36:lk 36 e=.c (.bool false))(h38:lk 38 e=.c (.bool true))(hcl:cs.length≤4)(hg:Qbr cs=true)
  (hK:∀e',LbE x3 k b i c7 e'→lk 90 e'=.c (.bool true)→Kc e' H)
  (hY:∀(m n:Nat) (hm:m<cs.length) (hn:n<cs[m].blocks.length) (e':Env),k=m→b=n→-1≤i→i<cs[m].blocks[n].ins.length→LbE x3 k b i c7 e'→lk 86 e'=.c (.bool false)→Qyd prog Qa22 e' H P Kc):Qyd prog Qary e H P Kc:=by
 obtain⟨l3,l4,l5,l6,l7⟩:=h;by_cases k0:k<0
 ·have d1:decide (k<0)=true:=decide_eq_true k0;simp only[go_sem,Qary,h36,h38,l4,d1];refine lbt2 (x3:=x3) hx3 ?_ ?_ hK
  ·exact⟨l3,l4,l5,l6,l7⟩
  ·rfl
 have d1:decide (k<0)=false:=decide_eq_false k0;obtain⟨m,rfl⟩:=Jf (Int.not_lt.1 k0);simp only[go_sem,Qary,h36,h38,l4,d1];have cut:∀{e:Env} (Z:Env→Prop),Z e→(∀e',Z e'→Qyd prog Qalt e' H P Kc)→Qyd prog Qalt e H P Kc:=fun Z hz h=>h _ hz;refine cut (fun e'=>LbE x3 m b i c7 e'∧lk 45 e'=.c (.bool false)) ⟨⟨l3,l4,l5,l6,l7⟩,rfl⟩ ?_;clear l3 l4 l5 l6 l7 h36 h38 cut;rintro e ⟨⟨l3,l4,l5,l6,l7⟩,hb⟩;by_cases k1:(cs.length:Int)≤(m:Int)
 ·have d2:decide ((cs.length:Int)≤(m:Int))=true:=decide_eq_true k1;simp only[go_sem,Qalt,hx3,hb,l3,l4,d2,Qo];intro _;refine lbt3 (x3:=x3) hx3 ?_ ?_ hK
  ·exact⟨l3,l4,l5,l6,l7⟩
  ·rfl
 have d2:decide ((cs.length:Int)≤(m:Int))=false:=decide_eq_false k1;have hm:m<cs.length:=by omega
 have hqok:=Qly hg hm;have hb1:=hqok.b1;simp only[go_sem,Qalt,hx3,hb,l3,l4,d2,Qo];intro _;have cut:∀{e:Env} (Z:Env→Prop),Z e→(∀e',Z e'→Qyd prog Qalu e' H P Kc)→Qyd prog Qalu e H P Kc:=fun Z hz h=>h _ hz;refine cut (fun e'=>LbE x3 m b i c7 e'∧lk 52 e'=.c (.bool false)) ⟨⟨l3,l4,l5,l6,l7⟩,rfl⟩ ?_;clear l3 l4 l5 l6 l7 hb cut;rintro e ⟨⟨l3,l4,l5,l6,l7⟩,hb⟩;by_cases b0:b<0
 ·have d3:decide (b<0)=true:=decide_eq_true b0;simp only[go_sem,Qalu,hb,l5,d3];refine lbt4 (x3:=x3) hx3 ?_ ?_ hK
  ·exact⟨l3,l4,l5,l6,l7⟩
  ·rfl
 have d3:decide (b<0)=false:=decide_eq_false b0;obtain⟨n,rfl⟩:=Jf (Int.not_lt.1 b0);simp only[go_sem,Qalu,hb,l5,d3];have cut:∀{e:Env} (Z:Env→Prop),Z e→(∀e',Z e'→Qyd prog Qalv e' H P Kc)→Qyd prog Qalv e H P Kc:=fun Z hz h=>h _ hz;refine cut (fun e'=>LbE x3 m n i c7 e'∧lk 56 e'=.c (.bool false)) ⟨⟨l3,l4,l5,l6,l7⟩,rfl⟩ ?_;clear l3 l4 l5 l6 l7 hb cut;rintro e ⟨⟨l3,l4,l5,l6,l7⟩,hb⟩;by_cases b1:(cs[m].blocks.length:Int)≤(n:Int)
 ·have d4:decide ((cs[m].blocks.length:Int)≤(n:Int))=true:=decide_eq_true b1;simp only[go_sem,Qalv,hx3,hm,hb,l3,l4,l5,d4,Qo,Q0 _ _ hm,CodeD.cells,Ql];intro _;refine lbt5 (x3:=x3) hx3 ?_ ?_ hK
  ·exact⟨l3,l4,l5,l6,l7⟩
  ·rfl
 have d4:decide ((cs[m].blocks.length:Int)≤(n:Int))=false:=decide_eq_false b1;have hn:n<cs[m].blocks.length:=by omega
 have hil:=(hqok.il n hn).1;simp only[go_sem,Qalv,hx3,hm,hb,l3,l4,l5,d4,Qo,Q0 _ _ hm,CodeD.cells,Ql];intro _;have cut:∀{e:Env} (Z:Env→Prop),Z e→(∀e',Z e'→Qyd prog Qalw e' H P Kc)→Qyd prog Qalw e H P Kc:=fun Z hz h=>h _ hz;refine cut (fun e'=>LbE x3 m n i c7 e'∧lk 67 e'=.c (.bool false)) ⟨⟨l3,l4,l5,l6,l7⟩,rfl⟩ ?_;clear l3 l4 l5 l6 l7 hb cut;rintro e ⟨⟨l3,l4,l5,l6,l7⟩,hb⟩;by_cases i0:i < -1
 ·have d5:decide (i < -1)=true:=decide_eq_true i0;simp only[go_sem,Qalw,hb,l6,d5];refine lbt6 (x3:=x3) hx3 ?_ ?_ hK
  ·exact⟨l3,l4,l5,l6,l7⟩
  ·rfl
 have d5:decide (i < -1)=false:=decide_eq_false i0;simp only[go_sem,Qalw,hb,l6,d5];have cut:∀{e:Env} (Z:Env→Prop),Z e→(∀e',Z e'→Qyd prog Qalx e' H P Kc)→Qyd prog Qalx e H P Kc:=fun Z hz h=>h _ hz;refine cut (fun e'=>LbE x3 m n i c7 e'∧lk 71 e'=.c (.bool false)) ⟨⟨l3,l4,l5,l6,l7⟩,rfl⟩ ?_;clear l3 l4 l5 l6 l7 hb cut;rintro e ⟨⟨l3,l4,l5,l6,l7⟩,hb⟩;by_cases i1:(cs[m].blocks[n].ins.length:Int)≤i
 ·have d6:decide ((cs[m].blocks[n].ins.length:Int)≤i)=true:=decide_eq_true i1;simp only[go_sem,Qalx,hx3,hm,hn,hb,l3,l4,l5,l6,d6,Qo,Q0 _ _ hm,CodeD.cells,Ql,Q1 _ _ hn,BlkD.cells,Q4];intro _;refine lbt7 (x3:=x3) hx3 ?_ ?_ hK
  ·exact⟨l3,l4,l5,l6,l7⟩
  ·rfl
 have d6:decide ((cs[m].blocks[n].ins.length:Int)≤i)=false:=decide_eq_false i1;simp only[go_sem,Qalx,hx3,hm,hn,hb,l3,l4,l5,l6,d6,Qo,Q0 _ _ hm,CodeD.cells,Ql,Q1 _ _ hn,BlkD.cells,Q4];intro _;exact hY m n hm hn _ rfl rfl (by omega) (by omega) ⟨l3,l4,l5,l6,l7⟩ rfl
end
set_option maxHeartbeats 8000000 in
theorem Qamg (hgl:H 0=.gl 0 tryC)(hK:∀H',K (.c (.bool true)) H'):Qr prog Qkd [.c (.sl false 1 (Qbs bs))] H K:=by
 refine Qc Qal Qbxq ?_;have hne:H 0≠.none:=by rw[hgl];nofun
 have retT':∀(e:Env) (H':Heap),lk 2 e=.c (.bool true)→Q5 Qbpv K .ret e H':=by
  intro e H' h2;simp only[go_sem,Q5,Qae,Qbpv,Jh,forall_eq,RS.op,h2];exact hK H'
 refine Qa ?_;simp only[go_sem];refine Qaa ?_;refine Qa ?_;simp only[go_sem,Qa0];intro _;refine Qh (Qd rfl (fun hc=>?_) (fun hc=>?_))
 ·refine Qa ?_;simp only[go_sem];refine Qk ?_;exact retT' _ _ rfl
 refine Qg ?_;try simp only[go_sem]
 refine Qa ?_;simp only[go_sem];refine Qaa6 fun cs k b i H1 hu hok=>?_;have hfit:=hok.fits;have kn:=(Kn.start0 H).call0 hu;simp only[go_sem,Qbcy,J1,J0];intro x3 hx3 H2 h2;have kn:=kn.al hx3 h2;have hx3:=kn.l 0 rfl;simp only[go_sem,Qbcx,hx3];intro H3 h3;have kn:Kn H H3 [] [(x3,.st [.sl false 3 (Qj cs)])]:=kn.stL 0 rfl h3;have hx3:=kn.l 0 rfl;simp only[go_sem,Qbcw];refine Qa ?_;simp only[go_sem,hx3];refine Qaez hfit fun f1 H4 hu=>?_;have kn:=kn.call0 hu;have hx3:=kn.l 0 rfl;simp only[go_sem,Qbcz];have ret11:∀(H5:Heap) (e:Env),Kn H H5 [] [(x3,.st [.sl false 3 (Qj cs)])]→lk 3 e=.c (.ptr x3 0)→lk 4 e=.c (.int .i64 k)→lk 5 e=.c (.int .i64 b)→lk 6 e=.c (.int .i64 i)→lk 7 e=.c (.sl f1 1 (Qbq (lbL cs k b i)))→lk 90 e=.c (.bool true)→
   Qam prog Qbct (X.sq prog Qbcv (Q5 Qbpv K)) e H5:=by
  intro H5 e kn l3 l4 l5 l6 l7 l90;have hx3:=kn.l 0 rfl;refine Qd (c:=true) l90 (fun _=>?_) (fun h=>by cases h);refine Qa ?_;simp only[go_sem,l3,l4,l5,l6,l7,hx3];refine Qjw hfit fun f2 H6 hu=>?_;simp only[go_sem,Qa23];refine Qbdg (.mk' _ _ _ _) rfl (.mk' _ _ _ _) rfl ?_;simp only[go_sem,Qbc3,decide_true];refine Qk ?_;exact retT' _ _ rfl
 refine Qaa ?_;refine Qa ?_;simp only[go_sem,hx3];refine Qjw hfit fun f2 H5 hu=>?_;have kn:=kn.call0 hu;have hx3:=kn.l 0 rfl;simp only[go_sem,Qbc2];refine Qbdg (.mk' _ _ _ _) rfl (.mk' _ _ _ _) rfl ?_;simp only[go_sem,Qbc1,hx3,decide_true];refine Qck hfit fun H6 hu=>?_;have kn:=kn.call0 hu;have hx3:=kn.l 0 rfl;simp only[Qbv9]
 cases hg:Qbr cs with
 |false=>
  refine lbf1 (cs:=cs) (x3:=x3) (k:=k) (b:=b) (i:=i) (c7:=.sl f1 1 (Qbq (lbL cs k b i))) hx3 ⟨rfl,rfl,rfl,rfl,rfl⟩ rfl rfl fun e' he h90=>?_;exact ret11 _ _ kn he.l3 he.l4 he.l5 he.l6 he.l7 h90
 |true=>
  refine lbn (x3:=x3) (k:=k) (b:=b) (i:=i) (c7:=.sl f1 1 (Qbq (lbL cs k b i))) hx3 ⟨rfl,rfl,rfl,rfl,rfl⟩ rfl rfl hok.2.1 hg (fun e' he h90=>ret11 _ _ kn he.l3 he.l4 he.l5 he.l6 he.l7 h90) fun m n hm hn e' hk hb hi0 hi1 he h86=>?_;subst hk hb;obtain⟨l3,l4,l5,l6,l7⟩:=he;have hhas:hasG cs (m:Int)=true:=by
   simp only[hasG,hg,J4,decide_eq_true_eq];omega
  have hlb:lbB cs (m:Int) (n:Int) i=true:=by
   have e1:Qm cs ((m:Int)).toNat=cs[m]:=by rw[Ja,Qao hm]
   have e2:Q9 cs[m] ((n:Int)).toNat=cs[m].blocks[n]:=by rw[Ja,Qat hn]
   simp only[lbB,hhas,e1,e2,J4,Jg,decide_eq_true_eq];omega
  have hl:lbL cs (m:Int) (n:Int) i=Qeo cs[m] n (i+1).toNat:=by rw[lbL,if_pos hlb,Ja,Ja,Qao hm]
  obtain⟨j,hj⟩:∃j:Nat,i=(j:Int)-1:=⟨(i+1).toNat,by omega⟩;subst hj;have ej:((j:Int)-1+1).toNat=j:=by omega
  rw[ej]at hl;have hqok:=Qly hg hm;have hr1:=hqok.r1;have hr0:=hqok.r0;simp only[go_sem,Qa22,l3,hx3,h86];refine Qbdl hfit fun H7 hu=>?_;have kn:=kn.call0 hu;have hx3:=kn.l 0 rfl;simp only[go_sem,Qad0,h86];by_cases hc8:Qaec cs=800
  ·exact Qh (ret11 _ _ kn l3 l4 l5 l6 l7 (by rw[hc8];rfl))
  have hcnt:=Qbvm hg hc8;refine Qh (Qd (c:=false) (by simp only[go_sem,hc8,decide_false]) (fun h=>by cases h) fun _=>?_);refine Qg ?_;try simp only[go_sem]
  rw[hl]at l7;refine Qaa ?_;refine Qa ?_;simp only[go_sem,l3,l4,l5,l6,l7,hx3,hm,Qo,Q0 _ _ hm,CodeD.cells];obtain⟨Rg,hRg⟩:∃Rg:Nat,cs[m].regs=Rg:=⟨cs[m].regs.toNat,by omega⟩;rw[hRg];refine Qh (Qe (Qx (fun mm e1 H1=>∃(r:Nat),mm=Rg-r∧r≤Rg∧Kn H H1 [] [(x3,.st [.sl false 3 (Qj cs)])]∧
   e1=[(3,.c (.ptr x3 0)),(4,.c (.int .i64 m)),(5,.c (.int .i64 n)),(6,.c (.int .i64 ((j:Int)-1))),(7,.c (.sl f1 1 (Qbq (Qeo cs[m] n j)))),(103,.c (.int .i64 Rg)),(104,.c (.int .i64 r))]) Rg ?_ ?_))
  ·exact⟨0,by omega,by omega,kn,rfl⟩
  clear l3 l4 l5 l6 l7 h86 kn hx3 ret11;rintro mm e1 H8 ⟨r,hmm,hr,kn,rfl⟩;refine Qa ?_;simp only[go_sem];refine Qh (Qd rfl ?_ ?_)
  ·intro hc1;have hlt:r<Rg:=by have:(r:Int)<(Rg:Int):=of_decide_eq_true hc1;omega
   refine Qg ?_;try simp only[go_sem]
   refine Qh (Qe ?_);refine Qa ?_;simp only[go_sem];refine Qaa ?_;refine Qa ?_;simp only[go_sem];refine Qbva (.mk' _ _ _ _) rfl ?_;simp only[go_sem]
   cases hL:((Qeo cs[m] n j).map Int.ofNat).contains (r:Int)with
   |true=>
    refine Qh (Qd (c:=true) rfl (fun _=>?_) (fun h=>by cases h));refine Qw ?_;simp only[go_sem,X.next];refine Qt ?_;simp only[go_sem,X.next];exact⟨Qs (by omega) (by omega),Rg-(r+1),by omega,r+1,rfl,by omega,kn,rfl⟩
   |false=>
    refine Qh (Qd (c:=false) rfl (fun h=>by cases h) (fun _=>?_));refine Qg ?_;try simp only[go_sem]
    refine Qbtt (Rg:=Rg) hgl hfit hg hm hn (by omega) hcnt (by omega) hL kn rfl rfl rfl rfl rfl rfl rfl rfl fun H9 e' kn l3 l4 l5 l6 l7 l103 l104=>?_;simp only[go_sem,X.next];refine Qt ?_;simp only[go_sem,X.next,l3,l4,l5,l6,l7,l103,l104];exact⟨Qs (by omega) (by omega),Rg-(r+1),by omega,r+1,rfl,by omega,kn,rfl⟩
  ·intro _;refine Qw ?_;simp only[go_sem,X.next];refine Qa ?_;simp only[go_sem];refine Qk ?_;exact retT' _ _ rfl
end Go.AE.Y
namespace Go.Proofs.YtlfdcfggpccakaaGreatDoor.fnLiveBehindDone
open Go.ChangeShapes Go.WideShapes Go.ChangeAt Go.RowKit Go.AE.Y
theorem own:ownKnob Tryz.prog.godebug=none:=by kernel_rfl
theorem laidOut:laidOutB Tryz.prog=true:=by kernel_rfl
def laidL : List (String × DataW Unit) := [("loop.example/wholeway/impl.tries", Rows.laid_loop_example_wholeway_impl_tries)]
theorem gTries : Tryz.prog.globalNamed "loop.example/wholeway/impl.tries" = some 0 := by kernel_rfl
theorem tTries:(Tryz.prog.globals[0]?).map (·.type)=some 118:=by kernel_rfl
theorem door_met (os:Os)(args:Array Value):laidMetH Tryz.prog laidL ((World.doorLaid Tryz.prog 17 os).forCall (fun _ _=>0) ⟨#[],args,[]⟩).memory:=
 laidMetH_of_parts3 (fuel:=8) (laidMet_of_run' 8 (by kernel_rfl) (by kernel_rfl)) (by kernel_rfl) (by kernel_rfl)
set_option maxRecDepth 100000 in
theorem part3 {enc:TypeId×Value→Unit}{W:World}{m:Nat}{c:List Value}{a b d:Int}{p:List MemPlace}{sp:Nat→Bool}{hd:Bool}(h:DataW.trod enc Tryz.prog W 0 sp hd m 117 c=some (.agg [.lit (.int .i64 a),.lit (.int .i64 b),.lit (.int .i64 d)],p)):c=[.int .i64 a,.int .i64 b,.int .i64 d]:=by
 have c3:Tryz.prog.cellsOf 3=1:=by kernel_rfl
 have c117:Tryz.prog.cellsOf 117=3:=by kernel_rfl
 obtain⟨xs,m,_,ex,hlen,hl,hel⟩:=DataW.trod_array Tryz.underlying117 h;rw[c117]at hlen
 match c,hlen with
 |[c0,c1,c2],_=>
  match xs,hl with
  |[x0,x1,x2],_=>
   have e3:=(DataW.agg.inj (Prod.mk.inj ex).1);simp only[J5,J8,J7,and_true]at e3;have k0:=hel 0 (by omega);have k1:=hel 1 (by omega);have k2:=hel 2 (by omega);rw[c3]at k0 k1 k2;obtain⟨z0,a0,b0,_⟩:=DataW.trod_int Tryz.underlying3 k0;obtain⟨z1,a1,b1,_⟩:=DataW.trod_int Tryz.underlying3 k1;obtain⟨z2,a2,b2,_⟩:=DataW.trod_int Tryz.underlying3 k2
   simp_all
set_option maxRecDepth 100000 in
theorem tries_of {W:World}(h:laidMetH Tryz.prog laidL W):∀j,j<9→W.cell? ⟨0,j,none⟩=some (.int .i64 (tryZ.getD j 0)):=by
 rw[MakeChecks.laidMetH_plain _ _ _ (by kernel_rfl)]at h;obtain⟨ps,⟨g,t,cs,fuel,p,q,hg,ht,hv,hd,_,_⟩,_,_⟩:=h;obtain rfl:=Jp (gTries.symm.trans hg);obtain rfl:=Jp (tTries.symm.trans ht);have c117:Tryz.prog.cellsOf 117=3:=by kernel_rfl
 have c118:Tryz.prog.cellsOf 118=9:=by kernel_rfl
 obtain⟨xs,m,_,ex,hlen,hl,hel⟩:=DataW.trod_array Tryz.underlying118 hd;rw[c118]at hlen;obtain⟨l⟩:=cs
 match xs,hl with
 |[x0,x1,x2],_=>
  have e3:=(DataW.agg.inj (Prod.mk.inj ex).1);simp only[J5,J8,J7,and_true]at e3;have k0:=hel 0 (by omega);have k1:=hel 1 (by omega);have k2:=hel 2 (by omega);rw[c117]at k0 k1 k2;obtain⟨x0,p0⟩:=x0;obtain⟨x1,p1⟩:=x1;obtain⟨x2,p2⟩:=x2;obtain⟨e0,e1,e2⟩:=e3;simp only at e0 e1 e2;subst e0;subst e1;subst e2;have q0:=part3 k0;have q1:=part3 k1;have q2:=part3 k2;have hl9:l.length=9:=by simpa using hlen
  match l,hl9 with
  |[a0,a1,a2,a3,a4,a5,a6,a7,a8],_=>
   simp at q0 q1 q2;intro j hj;have:=World.var?_cell hg hv j;rw[this];obtain⟨rfl,rfl,rfl⟩:=q0;obtain⟨rfl,rfl,rfl⟩:=q1;obtain⟨rfl,rfl,rfl⟩:=q2;have hh:j=0∨j=1∨j=2∨j=3∨j=4∨j=5∨j=6∨j=7∨j=8:=by omega
   rcases hh with rfl|rfl|rfl|rfl|rfl|rfl|rfl|rfl|rfl <;> rfl
set_option maxRecDepth 20000 in
theorem far (a0:Option Addr)(len0 cap0:Nat)(w:World)(hl:¬len0≤1048576)(hm:len0≤maxLen) :
  Calls Tryz.prog 6 #[.slice a0 len0 cap0] w fun e w'=>e=.returned (.bool true)∧Below w.heap.size w w':=by
 have hp:(1048576:Int)<(len0:Int):=by omega
 go_enter Tryz.func6,Tryz.ntmps6
 go_wp2
 go_ret
 exact⟨rfl,Below.refl _ _⟩
theorem walk (a0:Option Addr)(len0 cap0:Nat)(z0:List Int)(w:World)(ht:∀j,j<9→w.cell? ⟨0,j,none⟩=some (.int .i64 (tryZ.getD j 0)))(h:Qa4f w a0 len0 cap0 z0)(hm:len0≤maxLen) :
  Calls Tryz.prog 6 #[.slice a0 len0 cap0] w fun e w'=>e=.returned (.bool true)∧Below w.heap.size w w':=by
 by_cases hl:len0≤1048576
 ·exact Qad8 (fun bs _=>Qamg rfl fun _=>rfl) ht h hl
 ·exact far a0 len0 cap0 w hl hm
set_option maxRecDepth 100000 in
theorem lifted (os:Os)(started:os.Started)(H:Type)(enc:TypeId×Value→H) :
  ReturnsInHanded {} Tryz.checked os 6 .any (fun w args=>(Rows.fnLiveBehindSpec.pre enc Tryz.prog Tryz.f6 [] false w args∧laidMetH Tryz.prog laidL w)∧sizedMet enc Tryz.prog Tryz.f6 (OpenSpec.ofChange Rows.fnLiveBehindSpec) false w args)
   (Rows.fnLiveBehindSpec.post enc Tryz.prog Tryz.f6 false true false false):=by
 refine returnsInHanded_of_change_and (C:=Tryz.checked) (X:=fun w _=>laidMetH Tryz.prog laidL w) (fun _ _ _ hh h=>h.of_heap hh) own started (by kernel_rfl) Tryz.func6
  (ChangeSpec.witness_shaped (enc:=enc) (C:=Tryz.checked) (os:=os) (X:=fun w _=>laidMetH Tryz.prog laidL w) false (World.doorLaid Tryz.prog 17 os) #[.slice none 0 0] 8 rfl (World.shaped_of_RefB (by kernel_rfl) (by kernel_rfl)) (by kernel_rfl) (by kernel_rfl) (by kernel_rfl) (door_met os _)) ?_
 intro W base args ds gs before hval0 hW _ _ hL _;have hval:∀(j:Nat) t v,Tryz.f6.params[j]? = some t→args[j]? = some v→Value.okWide Tryz.prog W .any base t v:=hval0;have hW':=hW;obtain⟨p,q,hA0,hV,rfl,hfz,hnd⟩:=hW;have hA:DataW.TrodAll enc Tryz.prog W 0 (fun _=>true) true Tryz.f6.params.toList args.toList ds p:=hA0;rw[Tryz.params6]at hA hval;obtain⟨v0,vs0,d0,ds0,p0,q0,hargs,rfl,rfl,h0,r0⟩:=trodAll_cons hA;obtain⟨rfl,rfl,rfl⟩:=trodAll_nil r0;obtain rfl:args=#[v0]:=by cases args;simp_all
 obtain⟨a0,len0,cap0,rfl⟩:=okWide_slice Tryz.underlying22 (hval 0 22 v0 rfl rfl);have k0:=h0;have lt0:∀x∈p0,x.block<W.heap.size:=by obtain⟨m,hm⟩:=k0;exact DataW.trod_lt m _ _ _ hm
 obtain⟨z0,w0,hm0⟩:∃zs,Qa4f W a0 len0 cap0 zs∧len0≤maxLen:=by
  obtain⟨fuel,hf⟩:=h0;rcases open_ints Tryz.underlying22 Tryz.underlying5 (by kernel_rfl) hf with ⟨hcs,_⟩|⟨x,l,c,zs,hcs,_,hl,hm,hz,_,hcell,hwz⟩
  ·simp[Value.cells]at hcs;obtain⟨rfl,rfl,rfl⟩:=hcs;exact⟨[],.inl ⟨rfl,rfl,rfl,rfl⟩,J3 _⟩
  ·simp[Value.cells]at hcs;obtain⟨rfl,rfl,rfl⟩:=hcs;exact⟨zs,.inr ⟨_,rfl,hl,by simpa using hz,hcell,hwz⟩,Nat.le_trans hl hm⟩
 have hvo:=trodVars_one hV;obtain⟨gg,gt,gcs,gf,gd,gp,hgs,_⟩:=hvo;clear hA0 hval0;refine (walk a0 len0 cap0 z0 W (tries_of hL) w0 hm0).mono fun e W' ⟨he,bel⟩=>?_;subst he;subst hgs;exact⟨_,rfl,_,_,_,[],_,q,hW',trodAll_mk1 (shut_bool Tryz.underlying4 _),(trodAll_cons_mk (Below.trod laidOut (by kernel_rfl) (of_decide_eq_true (by kernel_rfl)) k0 bel lt0) trodAll_mk0),Below.trodVars laidOut bel (by kernel_rfl) hV,bel.frame _,fun h=>by cases h⟩
theorem h_named:Tryz.pinned.checked.prog.funcNamed Rows.fnLiveBehindRow.func=some 6:=by kernel_rfl
theorem h_p0:((Rows.fnLiveBehindRow.wf (OpenSpec.ofChange Rows.fnLiveBehindSpec))&&(laidOutB Tryz.pinned.checked.prog)&&(mapsRowed Tryz.pinned.checked.prog)&&(Tryz.f6.params.all (Tryz.pinned.checked.prog.readableRec ·))&&(namedTie Tryz.pinned.checked.prog Rows.fnLiveBehindRow.named Rows.fnLiveBehindSpec.vars)&&(Rows.fnLiveBehindRow.stops == [])&&(Tryz.pinned.checked.prog.stops == [])&&(Rows.fnLiveBehindRow.knobs == [])&&(Tryz.pinned.checked.prog.stopKnobs == [])&&(Rows.fnLiveBehindRow.inPlace == Tryz.pinned.checked.prog.inPlace 6)&&(Rows.fnLiveBehindRow.unfollowed == Tryz.pinned.checked.prog.unfollowed 6))=true:=by kernel_rfl
theorem h_p1:((Rows.fnLiveBehindRow.recurses == Tryz.pinned.checked.prog.recurses 6)&&(Rows.fnLiveBehindRow.named == Tryz.pinned.checked.prog.varsNamed 6)&&(Rows.fnLiveBehindRow.maps == (Tryz.f6.params.toList++Rows.fnLiveBehindSpec.plain.varTypes Tryz.pinned.checked.prog).any (Tryz.pinned.checked.prog.mapsRec ·))&&(Rows.fnLiveBehindRow.ifaces == (Tryz.f6.params.toList++Rows.fnLiveBehindSpec.plain.varTypes Tryz.pinned.checked.prog).any (Tryz.pinned.checked.prog.ifacesRec ·))&&(Rows.fnLiveBehindRow.mapsOut == Tryz.pinned.checked.prog.mapsAmong Tryz.f6.resultTypes.toList))=true:=by kernel_rfl
theorem h_p2:((Rows.fnLiveBehindRow.loops == (Tryz.f6.params.toList++Rows.fnLiveBehindSpec.plain.varTypes Tryz.pinned.checked.prog).any (Tryz.pinned.checked.prog.loopsFrom ·))&&(Rows.fnLiveBehindRow.wideKeys == (Tryz.f6.params.toList++Rows.fnLiveBehindSpec.plain.varTypes Tryz.pinned.checked.prog++Tryz.f6.resultTypes.toList).any (Tryz.pinned.checked.prog.wideKeysFrom ·))&&(Rows.fnLiveBehindSpec.vars.all (Tryz.pinned.checked.prog.varReadable ·))&&(Tryz.f6.resultTypes.all (fun t=>Tryz.pinned.checked.prog.readableRec t&&decide (t<Tryz.pinned.checked.prog.types.size)))&&(Rows.fnLiveBehindRow.ifacesOut == Tryz.f6.resultTypes.toList.any (Tryz.pinned.checked.prog.ifacesRec ·))&&(Rows.fnLiveBehindRow.loopsOut == Tryz.f6.resultTypes.toList.any (Tryz.pinned.checked.prog.loopsFrom ·))&&(Rows.fnLiveBehindRow.plainKeys == Tryz.pinned.checked.prog.plainKeys)&&(Rows.fnLiveBehindRow.shortTexts.isNone)&&(Tryz.pinned.checked.prog.stopsHeard)&&(Tryz.pinned.checked.prog.mayEnter)&&(Rows.fnLiveBehindRow.lifted == Tryz.pinned.checked.prog.liftsFinal)&&(Tryz.pinned.checked.prog.make == some Rows.fnLiveBehindRow.make)&&(Rows.fnLiveBehindRow.kinds == (if Rows.fnLiveBehindRow.domain.isEmpty then []else Tryz.f6.params.toList.map fun t=>match Tryz.pinned.checked.prog.underlying t with|some (.int k)=>some k|_=>none))&&(Rows.fnLiveBehindRow.pinned == Rows.fnLiveBehindRow.pinnedBy)&&(Rows.fnLiveBehindRow.veiled == (Tryz.f6.params.toList++Rows.fnLiveBehindSpec.plain.varTypes Tryz.pinned.checked.prog++Tryz.f6.resultTypes.toList).any (Tryz.pinned.checked.prog.veiledRec ·))&&(Rows.fnLiveBehindRow.veiledFits Tryz.pinned.checked.prog Tryz.f6.params.toList (Tryz.f6.params.toList++Rows.fnLiveBehindSpec.plain.varTypes Tryz.pinned.checked.prog++Tryz.f6.resultTypes.toList)))=true:=by kernel_rfl
theorem h_facts:joinedFacts Tryz.pinned.checked.prog 6 Tryz.f6 Rows.fnLiveBehindSpec Rows.fnLiveBehindRow=true:=by
 have a0:=h_p0;have a1:=h_p1;have a2:=h_p2;simp only[Jg]at a0 a1 a2;simp only[joinedFacts,Jg,a0,a1,a2,and_self];exact⟨⟨⟨⟨trivial,by kernel_rfl⟩,trivial⟩,trivial⟩,trivial⟩
theorem h_inst:Tryz.f6.isInstance Tryz.pinned.checked.prog Rows.fnLiveBehindRow.origin Rows.fnLiveBehindRow.targs:=of_decide_eq_true (by kernel_rfl)
theorem h_wrap:Tryz.f6.isWrapper Tryz.pinned.checked.prog Rows.fnLiveBehindRow.wrapper Rows.fnLiveBehindRow.mainSum:=by
 unfold Func.isWrapper;first|(rw[if_pos (by decide +kernel)];kernel_rfl)|(rw[if_neg (by decide +kernel)];exact⟨rfl,rfl⟩)
theorem over:Rows.fnLiveBehindRow.holds Tryz.pinned (OpenSpec.ofChange Rows.fnLiveBehindSpec):=
 OpenClaim.holds_of_wide 6 Tryz.f6 rfl rfl rfl rfl rfl rfl rfl ⟨rfl,rfl,rfl,rfl,rfl⟩ rfl rfl rfl rfl rfl h_named Tryz.func6 h_facts h_inst h_wrap
  (fun os started H enc _=>lifted os started H enc)
theorem q_w:Rows.fnLiveBehindRow.wfByText (OpenSpec.ofChange Rows.fnLiveBehindSpec)=true:=by kernel_rfl
theorem q_m : Tryz.pinned.checked.prog.mainIs = some (true, "d4c062c04a0943765952617ea5ad95758c638a7eecb14e289602b7f950fc0bc6".toList) := by kernel_rfl
theorem q_looks:true=Tryz.pinned.checked.prog.looks []:=by kernel_rfl
theorem q_goes:false=Rows.fnLiveBehindRow.goesBy Tryz.pinned.checked.prog:=by kernel_rfl
theorem q_all:([22].all fun u=>!Tryz.pinned.checked.prog.wantsStandIn u)=true:=by kernel_rfl
theorem q_fn:Tryz.pinned.checked.prog.funcs[6]? = some Tryz.f6:=Tryz.func6
theorem q_l (f:FuncId)(fn:Func)(hf:Tryz.pinned.checked.prog.funcNamed Rows.fnLiveBehindRow.func=some f)(hfn:Tryz.pinned.checked.prog.funcs[f]? = some fn):true=Tryz.pinned.checked.prog.looks []∧∀(j:Nat) t,fn.params[j]? = some t→Tryz.pinned.checked.prog.wantsStandIn t=false:=by
 obtain rfl:f=6:=Jp (h_named.symm.trans hf) |>.symm;obtain rfl:fn=Tryz.f6:=(Jp (q_fn.symm.trans hfn)).symm;refine⟨q_looks,fun j t ht=>?_⟩;rw[Tryz.params6]at ht;have hm:t∈[22]:=by simpa using Array.mem_of_getElem? ht
 simpa using J6.1 q_all t hm
theorem proved:Rows.FnLiveBehindCardSaid:=
 Claim7.holds_tied_plain_at .later [] [.data] true (true, "d4c062c04a0943765952617ea5ad95758c638a7eecb14e289602b7f950fc0bc6") true over (fun _ h => by cases h) q_w (fun _ h => by cases h) fnLiveBehind_row_tie rfl ⟨rfl, rfl⟩ q_m rfl q_l q_goes
end Go.Proofs.YtlfdcfggpccakaaGreatDoor.fnLiveBehindDone
