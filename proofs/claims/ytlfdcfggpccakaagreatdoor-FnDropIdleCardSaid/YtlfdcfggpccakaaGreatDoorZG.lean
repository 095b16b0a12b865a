/- Part 7 of the proof: the engine, codes, walks and plain laws, each named where it stands. -/
import Derived.Test.YtlfdcfggpccakaaGreatDoorZE
open Nat (reduceEqDiff reduceAdd reduceLeDiff reduceLT)
set_option linter.unusedVariables false
set_option linter.unusedSimpArgs false
set_option maxRecDepth 4000
open Bool renaming and_eq_true->J9,not_eq_true'->Jae,eq_iff_iff->Jag
open List renaming mem_singleton->Ja,mem_append_right->Jb,length_cons->Jc,take_succ_eq_append_getElem->Jd,length_nil->Je,length_map->Jf,length_append->Jh,take_of_length_le->Ji,mem_append_left->Jj,perm_append_comm->Jk,getElem_mem->Jm,drop_eq_getElem_cons->Jn,forall_mem_cons->Jo,length_take->Jp,append_nil->Jq,mem_append->Jr,ext_getElem->Js,not_mem_nil->Jt,take_length->Ju,filter_append->Jv,mem_map->Jw,getElem_map->Jx,mem_cons_self->Jy,getElem?_eq_none->Jz,mem_iff_getElem->J0,filter_cons->J1,filter_sublist->J2,getD_cons_succ->J3,getD_cons_zero->J4,map_nil->J5,map_append->J6,append_assoc->J7,contains_iff_mem->J8,cons_append->Jaa,length_drop->Jab,mem_cons_of_mem->Jac,flatMap_append->Jad,map_cons->Jaf,filter_nil->Jah,length_singleton->Jai,nil_append->Jaj,mem_of_getElem?->Jak,flatMap_cons->Jal,nodup_append->Jam,flatMap_nil->Jan,mem_flatMap->Jao,length_set->Jap,mem_filter->Jaq,map_map->Jar
open Nat renaming zero_add->Jg,le_refl->Jl,le_trans->Jas,zero_le->Jat
namespace Go.AE.Y
open Go.Proofs.Tryz
def Qazo:List Item:=[sJ 3 4 9]
def Qazp:List Item:=[sJ 3 4 15]
def Qazq:List Item:=.chk 12 none (.ld 3 true (.t 2))::aJ 15 Qbd6 [.t 12,.t 14]::Qazp
def Qazr:List Item:=[sJ 3 4 19]
def Q8x:List Item:=[sJ 3 4 23]
def Qazs:List Item:=[sJ 3 4 27]
def Qazt:List Item:=[sJ 3 4 31]
def Qazu:List Item:=[sJ 3 4 35]
def Qazv:List Item:=[sJ 3 4 39]
def Qazw:List Item:=[sJ 3 4 43]
def Qaup:List Item:=[sJ 3 4 47]
def Qauq:List Item:=[sJ 3 4 51]
def Qaza:SC:=cT 48 (sR (tJ 50 3 2::aJ 51 Qbd8 [.t 50]::Qauq) [4] .ret) .skip
def Qazb:SC:=cT 44 (sR (tJ 46 3 2::aJ 47 Qbd9 [.t 46]::Qaup) [4] .ret) (sR [fI 49 (.bin 0 .eql (.t 5) (.k (.c (.str [106,111,105,110])))),mJ 48 49] [2,4,48] Qaza)
def Qazc:SC:=cT 40 (sR (tJ 42 3 2::aJ 43 Qbd7 [.t 42]::Qazw) [4] .ret) (sR [fI 45 (.bin 0 .eql (.t 5) (.k (.c (.str [115,107,105,112])))),mJ 44 45] [2,4,5,44] Qazb)
def Qazd:SC:=cT 36 (sR (tJ 38 3 2::aJ 39 Qa4r [.t 38]::Qazv) [4] .ret) (sR [fI 41 (.bin 0 .eql (.t 5) (.k (.c (.str [101,118,101,110])))),mJ 40 41] [2,4,5,40] Qazc)
def Qaze:SC:=cT 32 (sR (tJ 34 3 2::aJ 35 Qa4q [.t 34]::Qazu) [4] .ret) (sR [fI 37 (.bin 0 .eql (.t 5) (.k (.c (.str [104,111,105,115,116])))),mJ 36 37] [2,4,5,36] Qazd)
def Qazf:SC:=cT 28 (sR (tJ 30 3 2::aJ 31 Qbh9 [.t 30]::Qazt) [4] .ret) (sR [fI 33 (.bin 0 .eql (.t 5) (.k (.c (.str [115,104,97,114,101])))),mJ 32 33] [2,4,5,32] Qaze)
def Qazg:SC:=cT 24 (sR (tJ 26 3 2::aJ 27 Qaw2 [.t 26]::Qazs) [4] .ret) (sR [fI 29 (.bin 0 .eql (.t 5) (.k (.c (.str [107,110,111,119,110])))),mJ 28 29] [2,4,5,28] Qazf)
def Qazh:SC:=cT 20 (sR (tJ 22 3 2::aJ 23 Q5d [.t 22]::Q8x) [4] .ret) (sR [fI 25 (.bin 0 .eql (.t 5) (.k (.c (.str [115,105,110,103,108,101])))),mJ 24 25] [2,4,5,24] Qazg)
def Qazi:SC:=cT 16 (sR (tJ 18 3 2::aJ 19 Qa4p [.t 18]::Qazr) [4] .ret) (sR [fI 21 (.bin 0 .eql (.t 5) (.k (.c (.str [105,100,108,101])))),mJ 20 21] [2,4,5,20] Qazh)
def Qazj:SC:=cT 10 (.seq (.dreg 5 [0,1,2,0,3,4] ( tJ 12 3 2::tJ 13 3 2::aJ 14 Qa4o [.t 13]::Qazq) [4]) .ret) (sR [fI 17 (.bin 0 .eql (.t 5) (.k (.c (.str [115,112,108,105,116])))),mJ 16 17] [2,4,5,16] Qazi)
def Qazk:SC:=cT 6 (sR (tJ 8 3 2::aJ 9 Qbd5 [.t 8]::Qazo) [4] .ret) (sR [fI 11 (.bin 0 .eql (.t 5) (.k (.c (.str [111,114,100,101,114])))),mJ 10 11] [2,4,5,10] Qazj)
def Qazl:SC:=.block 0 (sR [fI 7 (.bin 0 .eql (.t 5) (.k (.c (.str [114,101,97,99,104])))),mJ 6 7] [2,4,5,6] Qazk)
def Qaur:List Item:=[sJ 3 4 53]
def Qazm:SC:=sR (tJ 52 3 2::aJ 53 Qa4s [.t 52]::Qaur) [4] .ret
def Qazn:SC:=.seq (sR [mJ 5 1] [2,4,5] Qazl) Qazm
def Qbk3:SC:=sR [vJ 2 0,eI 4 (.alloc [.int .i64 0,.int .i64 0,.sl true 5 []])] [1,2,4] Qazn
def Qax8:List RS:=[.cell 4 3 true]
theorem Qbjn:mFn prog Q5a 2 54 Qbk3 Qax8=true:=by kernel_rfl
def Q8r:List Item:=[fB 5 false]
def Q8s:List Item:=[oJ 10 9]
def Q8t:List Item:=[fB 5 false]
def Qa56:SC:=cT 10 (sR (fI 11 (.bld [.sl true 3 []] [])::sJ 1 4 11::Q8t) [4,5] .ret) .skip
def Q8u:List Item:=[sJ 1 6 12]
def Q8v:List Item:=[fJ 31 0 6,sJ 1 31 30]
def Q8w:List Item:=hJ 21 20::fI 29 (.bsl 3 [.t 28])::xJ 30 3 21 29::Q8v
def Qa57:SC:=.reg [mJ 18 7,cJ 19 .add 18 1,mJ 7 19] [1,2,4,6,7]
def Qa58:SC:=.seq (.block 1 (.dreg 13 [0,1,2,3,4,5,6,7,8,1,9,10,11,12] ( fJ 20 0 6::lJ 21 20::fJ 22 0 2::lJ 23 22::mJ 24 7::iJ 25 3 23 24::tJ 26 3 25::mJ 27 1::aJ 28 Q5a [.t 26,.t 27]::Q8w) [1,2,4,6,7])) Qa57
def Qay9:SC:=.seq (sR [mJ 13 7,fJ 14 0 2,lJ 15 14,nJ 16 15,bJ 17 .lss 13 16] [1,2,4,6,7,17] (cT 17 .skip (.exit 0))) Qa58
def Q4c:List Item:=[oJ 34 33]
def Qauo:List Item:=[fB 5 false]
def Qay3:SC:=cT 34 (sR (fI 35 (.bld [.sl true 3 []] [])::sJ 1 4 35::Qauo) [4,5] .ret) .skip
def Q4d:List Item:=[fB 5 true]
def Qay4:SC:=sR (tJ 36 1 6::sJ 1 4 36::Q4d) [4,5] .ret
def Qay5:SC:=.seq .gh (.seq (sR (tJ 32 1 6::aJ 33 Qbw [.t 32]::Q4c) [4,6,34] Qay3) Qay4)
def Qay6:SC:=.seq (sR [zJ 7 0] [1,2,4,6,7] (bL 0 Qay9)) Qay5
def Qay7:SC:=sR (fI 12 (.bld [.sl true 3 []] [])::eI 6 (.alloc [.sl true 3 []])::Q8u) [1,2,4,6] Qay6
def Qay8:SC:=.seq (sR (tJ 8 1 2::aJ 9 Qbw [.t 8]::Q8s) [1,2,4,10] Qa56) Qay7
def Qbk2:SC:=sR (vJ 2 0::eI 4 (.alloc [.sl true 3 []])::Q8r) [1,2,4] Qay8
def Qafr:List RS:=[.cell 4 1 true,.tmp 5]
theorem Qbjm:mFn prog Q49 2 37 Qbk2 Qafr=true:=by kernel_rfl
end Go.AE.Y
namespace Go.AE
variable {H0 F H:Heap}{E E' L M:List (Nat×Obj)}
theorem Kn.midE (k:Kn H0 F E L):Kn F F E []:=.startE (fun p hp=>k.get p (Jj _ hp)) k.dE
theorem Kn.compA (k1:Kn H0 F E L)(k2:Kn F H E' M)(hE:E'.map Prod.fst=E.map Prod.fst):Kn H0 H E' (L++M):=by
 have inE:∀p∈E',∃q∈E,q.1=p.1:=fun p hp=>by
  have:=Qa6 hp;rw[hE]at this;obtain⟨q,h1,h2⟩:=Jw.1 this;exact⟨q,h1,h2⟩
 have hL:∀p∈L,F p.1=p.2∧p.2≠.none:=fun p hp=>k1.get p (Jb _ hp);have hLE:∀p∈L,p.1∉E'.map Prod.fst:=fun p hp h=>by
  rw[hE]at h;obtain⟨q,hq,hh⟩:=Jw.1 h;exact k1.ext q hq (hh▸k1.loc p hp)
 refine⟨fun p hp=>?_,fun p hp=>?_,fun p hp=>?_,by rw[hE];exact k1.dE,?_,fun m hm hn=>?_⟩
 ·rw[←J7]at hp;rcases Jr.1 hp with hp|hp
  ·rcases Jr.1 hp with hp|hp
   ·exact k2.get p (Jj _ hp)
   ·obtain⟨h1,h2⟩:=hL p hp;exact⟨by rw[k2.chg p.1 (by rw[h1];exact h2) (hLE p hp),h1],h2⟩
  ·exact k2.get p (Jb _ hp)
 ·obtain⟨q,hq,hh⟩:=inE p hp;rw[←hh];exact k1.ext q hq
 ·rcases Jr.1 hp with hp|hp
  ·exact k1.loc p hp
  ·exact (k1.newFree (k2.loc p hp)).1
 ·rw[J6];refine Jam.2 ⟨k1.dL,k2.dL,fun a ha b hb hab=>?_⟩;obtain⟨p,hp,rfl⟩:=Jw.1 ha;obtain⟨q,hq,rfl⟩:=Jw.1 hb;obtain⟨h1,h2⟩:=hL p hp;have:=k2.loc q hq;rw[←hab,h1]at this;exact h2 this
 ·have h1:=k1.chg m hm (by rw[←hE];exact hn);rw[k2.chg m (by rw[h1];exact hm) hn,h1]
end Go.AE
namespace Go.AE.Y
attribute [local go_sem] cond_true cond_false Bool.not_true Bool.not_false
open Go.Proofs.Tryz
variable {H H0 F:Heap}{K:V→Heap→Prop}{E L:List (Nat×Obj)}
variable {q:CodeD}{fl:Bool}{l yi yp:Nat}{ss:List SetO}{pr:List (List C)}
attribute [local instance] Classical.propDecidable
def Q2v (op:Int):Bool:=decide (1≤op∧op≤10)&&!decide (op=6)&&!decide (op=7)
theorem Q09 {op:Int}(h:Q2v op=true):Qb9 op=true∧op≤10∧¬op=6∧¬op=7:=by
 simp only[Q2v,J9,decide_eq_true_eq,Jae,decide_eq_false_iff_not]at h;obtain⟨⟨h1,h2⟩,h3⟩:=h;refine⟨?_,h1.2,h2,h3⟩;simp only[Qb9,J9,decide_eq_true_eq,Jae,decide_eq_false_iff_not];omega
theorem Qbos {op:Int}(hK:K (.c (.bool (decide (1≤op∧op≤10)))) H):Qr prog Qaeu [.c (.int .i64 op)] H K:=by
 refine Qc Qal Qbpf ?_;refine Qa ?_;simp only[go_sem];refine Qa ?_;simp only[go_sem];refine Qc8 ?_;simp only[go_sem,Qaki];refine Qk ?_;simp only[go_sem,Q5,Qae,Qbcf,Ja,forall_eq,RS.op];exact hK
theorem Qbej {op:Int}(hK:K (.c (.bool (Q2v op))) H):Qr prog Q0y [.c (.int .i64 op)] H K:=by
 refine Qc Qal Qbeo ?_;refine Qa ?_;simp only[go_sem];refine Qa ?_;simp only[go_sem];refine Qbos ?_;simp only[go_sem,Q4i];refine Qk ?_;simp only[go_sem,Q5,Qae,Qarj,Ja,forall_eq,RS.op];have:∀a b c:Bool,(bif bif a then b else false then c else false)=(a&&b&&c):=by decide
 rw[this];exact hK
theorem Qbea {op:Int}(hK:K (.c (.bool (Q2v op))) H):Qr prog Qk5 [.c (.int .i64 op)] H K:=by
 refine Qc Qal Qas3 ?_;refine Qa ?_;simp only[go_sem];have fin:∀(b:Bool) (e:Env),b=Q2v op→lk 4 e=.c (.bool b)→Qam prog Qt4 (X.inBlock 0 (X.sq prog Qt5 (Q5 Qia K))) e H:=by
  intro b e hb l4;refine Qd l4 ?_ ?_
  ·intro hc;refine Qa ?_;simp only[go_sem];refine Qk ?_;simp only[go_sem,X.next,Q5,Qae,Qia,Ja,forall_eq,RS.op];rw[←hb,hc]at hK;exact hK
  ·intro hc;refine Qg ?_;try simp only[go_sem]
   refine Qa ?_;simp only[go_sem];refine Qk ?_;simp only[go_sem,X.next,Q5,Qae,Qia,Ja,forall_eq,RS.op];rw[←hb,hc]at hK;exact hK
 refine Qaa ?_;refine Qa ?_;simp only[go_sem];refine Qh (Qe ?_);refine Qaa ?_;refine Qa ?_;simp only[go_sem];refine Qh (Qd rfl ?_ ?_)
 ·intro hc;refine Qg ?_;try simp only[go_sem]
  exact fin true _ (by have:=of_decide_eq_true hc;rw[this];rfl) (by simpa[lk]using hc)
 intro h1;refine Qa ?_;simp only[go_sem];refine Qd rfl ?_ ?_
 ·intro hc;refine Qg ?_;try simp only[go_sem]
  exact fin true _ (by have:=of_decide_eq_true hc;rw[this];rfl) (by simpa[lk]using hc)
 intro h2;refine Qa ?_;simp only[go_sem];refine Qd rfl ?_ ?_
 ·intro hc;refine Qg ?_;try simp only[go_sem]
  exact fin true _ (by have:=of_decide_eq_true hc;rw[this];rfl) (by simpa[lk]using hc)
 intro h10;refine Qa ?_;simp only[go_sem];refine Qd rfl ?_ ?_
 ·intro hc;refine Qg ?_;try simp only[go_sem]
  exact fin true _ (by have:=of_decide_eq_true hc;rw[this];rfl) (by simpa[lk]using hc)
 intro h3;refine Qa ?_;simp only[go_sem];refine Qd rfl ?_ ?_
 ·intro hc;refine Qg ?_;try simp only[go_sem]
  exact fin true _ (by have:=of_decide_eq_true hc;rw[this];rfl) (by simpa[lk]using hc)
 intro h4;refine Qa ?_;simp only[go_sem];refine Qd rfl ?_ ?_
 ·intro hc;refine Qg ?_;try simp only[go_sem]
  exact fin true _ (by have:=of_decide_eq_true hc;rw[this];rfl) (by simpa[lk]using hc)
 intro h5;refine Qa ?_;simp only[go_sem];refine Qd rfl ?_ ?_
 ·intro hc;refine Qg ?_;try simp only[go_sem]
  exact fin true _ (by have:=of_decide_eq_true hc;rw[this];rfl) (by simpa[lk]using hc)
 intro h8;refine Qt ?_;simp only[go_sem];refine fin (decide (op=9)) _ ?_ rfl;simp only[decide_eq_false_iff_not]at h1 h2 h10 h3 h4 h5 h8;rw[Q2v];by_cases h9:op=9
 ·subst h9;rfl
 ·have e1:decide (op=9)=false:=decide_eq_false h9;rw[e1];by_cases hr:1≤op∧op≤10
  ·have:op=6∨op=7:=by omega
   rcases this with h|h <;> subst h <;> rfl
  ·rw[decide_eq_false hr];rfl
noncomputable def Qaml (q:CodeD)(b i:Nat)(x:InsD):Bool:=Q2v x.op&&!decide (x.to.toNat∈Qeo q b (i+1))
noncomputable def Qh7 (q:CodeD)(b i:Nat):Bool:=match (q.blocks[b]?).bind (fun y=>y.ins[i]?)with
 |some x=>Qaml q b i x
 |none=>false
theorem Qasj {b i:Nat}(hb:b<q.blocks.length)(hi:i<q.blocks[b].ins.length):Qh7 q b i=Qaml q b i q.blocks[b].ins[i]:=by simp[Qh7,hb,hi]
set_option maxHeartbeats 1000000 in
theorem Qbnx {b i:Nat}(ho:q.ok)(hb:b<q.blocks.length)(hi:i<q.blocks[b].ins.length)(him:imOk q ss pr)(hlv:∀b,b<q.blocks.length→∀r,tabS ss b r↔(Q6 q).LI b r)(kn:Kn F H (imE q fl l yi yp ss pr) [])
  (hK:∀H',Kn F H' (imE q fl l yi yp ss pr) []→K (.c (.bool (Qh7 q b i))) H') :
  Qr prog Qga [.c (.ptr l 0),.c (.int .i64 b),.c (.int .i64 i)] H K:=by
 obtain⟨y,hy⟩:∃y,q.blocks[b]=y:=⟨_,rfl⟩;have hyo:y.ok q b:=by rw[←hy];exact ho.bs b hb
 obtain⟨x,hx⟩:∃x,q.blocks[b].ins[i]=x:=⟨_,rfl⟩;have hP:Qh7 q b i=Qaml q b i x:=by rw[Qasj hb hi,hx]
 rw[hP]at hK;have hi':i<y.ins.length:=by rw[←hy];exact hi
 have hx':y.ins[i]=x:=by subst hy;exact hx
 have hxm:x∈y.ins:=by rw[←hx'];exact Jm hi'
 have hr1:=ho.r1;refine Qc Qal Qabd ?_;refine Qa ?_;simp only[go_sem];obtain⟨hl,_,_⟩:=Q5n kn;refine Qa ?_;simp only[go_sem,hl,hb,Ql,Q1 _ _ hb,BlkD.cells,hy,hi',Q4,Qbd _ _ hi',InsD.take4,InsD.allOw,InsD.len4,hx',InsD.cells];intro x7 hx7 H1 h1;have kn:=kn.al hx7 h1;have hx7:=kn.l 0 rfl;simp only[go_sem,Qjo,hx7];intro H2 h2;have kn:Kn F H2 (imE q fl l yi yp ss pr) ([]++[(x7,.st [.int .i64 x.op,.int .i64 x.to,.sl false 1 (Qb x.args),.int .i64 x.n])]):=kn.stL 0 rfl h2;have hx7:=kn.l 0 rfl;refine Qaj ?_;simp only[go_sem,hx7];refine Qbea ?_
 cases hq:Q2v x.op with
 |false=>
  have e1:Qai H2 C.unk=[]:=rfl;have e2:Qq5 (C.int .i64 x.to) []=none:=rfl;simp only[go_sem,Qea,Qd9,hx7,e1,e2,Option.getD_none];refine Qk ?_;simp only[go_sem,Q5,Qae,Qhj,Ja,forall_eq,RS.op];have hK:=hK _ kn.drop;rw[Qaml,hq]at hK;exact hK
 |true=>
  obtain⟨hmk,_,_,_⟩:=Q09 hq;obtain⟨hv,hvl⟩:=(hyo.to x hxm hmk).nat;simp only[go_sem,Qea,hx7];refine Qadq (F:=H2) ho hb (by omega) (by omega) him kn.midE fun M ver ks H3 hnd hlt hks k2=>?_;have kn3:=kn.compA k2 rfl;have hM:H3 M=.map ver (Qas ks):=k2.l 0 rfl;have hx7:H3 x7=.st [.int .i64 x.op,.int .i64 x.to,.sl false 1 (Qb x.args),.int .i64 x.n]:=kn3.l 0 rfl;have hokM:Qq8 H3 (.mp M)=True:=by simp only[Qq8,hM]
  have henM:Qai H3 (.mp M)=Qas ks:=by simp only[Qai,hM]
  have hmem:decide (x.to.toNat∈ks)=decide (x.to.toNat∈Qeo q b (i+1)):=by
   have e1:((i:Int)+1).toNat=i+1:=by omega
   rw[decide_eq_decide,hks,e1,Qbb0 ho hlv hb,Qeo,ascL_mem];exact⟨fun h=>⟨hvl,h⟩,fun h=>h.2⟩
  have hK:=hK _ (kn3.drop (A:=[]));rw[Qaml,hq,←hmem]at hK;generalize hr:x.to.toNat=r at *;simp only[go_sem,Qd9,hx7,hokM,henM,hv,Qc9,Qaeg];refine Qk ?_;simp only[go_sem,Q5,Qae,Qhj,Ja,forall_eq,RS.op];exact hK
end Go.AE.Y
namespace Go.AE.Y
attribute [local go_sem] cond_true cond_false Bool.not_true Bool.not_false
open Go.Proofs.Tryz
variable {H H0 F:Heap}{K:V→Heap→Prop}{E L:List (Nat×Obj)}
variable {q:CodeD}{fl:Bool}
attribute [local instance] Classical.propDecidable
def Qbbs (q:CodeD)(b:Nat):Nat:=((q.blocks[b]?.map BlkD.ins).getD []).length
theorem Qaxc {b:Nat}(h:b<q.blocks.length):Qbbs q b=q.blocks[b].ins.length:=by simp[Qbbs,h]
noncomputable def idlB (q:CodeD)(b n:Nat):List Nat:=(List.range n).filter (Qh7 q b)
theorem Qaxa (q:CodeD)(b n:Nat):idlB q b (n+1)=idlB q b n++if Qh7 q b n=true then [n]else []:=by
 simp only[idlB,List.range_succ,Jv];congr 1;cases h:Qh7 q b n <;> simp[h]
theorem Qbnw (q:CodeD)(b n:Nat):(idlB q b n).length≤n:=by
 have:=List.length_filter_le (Qh7 q b) (List.range n);simpa[idlB]using this
theorem Qbb3 {bs:List Bool}{S:RS'}(h:Mem bs S)(r:Nat):bs.getD r false=decide (S r):=by
 rw[Jag,h r,decide_eq_true_eq]
set_option maxHeartbeats 2000000 in
theorem Qbi6 {zi zo:List (Nat×List Bool)}{b:Nat}(ho:q.ok)(hb:b<q.blocks.length)(hlv:Qbtv q zi zo)
  (hK:∀H',Upd H H' []→K (.c (.sl false 1 (Qbq (idlB q b (Qbbs q b))))) H') :
  Qr prog Q5f [.ag [.int .i64 q.params,.int .i64 q.regs,.sl fl 5 (Qn q.blocks)],.ag [.sl false 1 (Qib zi),.sl false 1 (Qib zo)],.c (.int .i64 b)] H K:=by
 obtain⟨y,hy⟩:∃y,q.blocks[b]=y:=⟨_,rfl⟩;have hyo:y.ok q b:=by rw[←hy];exact ho.bs b hb
 have hil:y.ins.length≤1200:=by rw[←hy];exact (ho.il b hb).1
 have hr1:=ho.r1;have hlo:=hlv.1.o;have hbz:b<zo.length:=by omega
 refine Q3 ?_;refine Qc Qal Qbjs ?_;refine Qa ?_;simp only[go_sem];refine Qa ?_;simp only[go_sem];refine Qaa ?_;refine Qa ?_;simp only[go_sem];refine Qh (Qe (Qx (fun m e1 H1=>∃(i:Nat) (t:C) (Lg:List (Nat×Obj)),m=y.ins.length-i∧i≤y.ins.length∧Gr Lg 1 (Qbq (idlB q b i)) t∧Kn H H1 [] ([]++Lg)∧
  e1=[(2,.c (.int .i64 b)),(3,.c (.pp [.int .i64 q.params,.int .i64 q.regs,.sl fl 5 (Qn q.blocks)])),(4,.c (.pp [.sl false 1 (Qib zi),.sl false 1 (Qib zo)])),(7,.c t),(8,.c (.int .i64 i))]) y.ins.length ?_ ?_))
 ·exact⟨0,_,[],by omega,by omega,.nil 1,Kn.start0 H,rfl⟩
 ·rintro m e1 H1 ⟨i,t,Lg,hm,hi,hgr,kn,rfl⟩;have htw:=hgr.isOw;refine Qaa ?_;refine Qa ?_;simp only[go_sem,htw,hb,Ql,Q1 _ _ hb,BlkD.cells,hy,Q4];intro _;refine Qh (Qd rfl ?_ ?_)
  ·intro hc;have hlt:i<y.ins.length:=by simpa using hc
   obtain⟨x,hx⟩:∃x,y.ins[i]=x:=⟨_,rfl⟩;have hxm:x∈y.ins:=by rw[←hx];exact Jm hlt
   have hP:Qh7 q b i=Qaml q b i x:=by rw[Qasj hb (by rw[hy];exact hlt)];subst hy;rw[hx]
   have hidl:=Qbnw q b i;refine Qg ?_;try simp only[go_sem]
   refine Qd3 (fun e2 H2=>∃(t:C) (Lg:List (Nat×Obj)),Gr Lg 1 (Qbq (idlB q b (i+1))) t∧Kn H H2 [] ([]++Lg)∧lk 2 e2=.c (.int .i64 b)∧lk 3 e2=.c (.pp [.int .i64 q.params,.int .i64 q.regs,.sl fl 5 (Qn q.blocks)])∧lk 4 e2=.c (.pp [.sl false 1 (Qib zi),.sl false 1 (Qib zo)])∧lk 7 e2=.c t∧lk 8 e2=.c (.int .i64 i)) ?_ ?_
   ·intro Q hnr _ _;refine Qe ?_;refine Qa ?_;simp only[go_sem,htw,hb,Ql,Q1 _ _ hb,BlkD.cells,hy,hlt,Q4,Qbd _ _ hlt,InsD.take4,InsD.allOw,InsD.len4,hx,InsD.cells];intro x9 hx9 H2 h2;have kn:=kn.al hx9 h2;have hx9:H2 x9=.st [.int .i64 0,.int .i64 0,.sl true 1 [],.int .i64 0]:=(kn.get (x9,.st [.int .i64 0,.int .i64 0,.sl true 1 [],.int .i64 0]) (by simp)).1;simp only[go_sem,Q9g,hx9,htw];intro H3 h3;have kn:Kn H H3 [] (Lg++[(x9,.st [.int .i64 x.op,.int .i64 x.to,.sl false 1 (Qb x.args),.int .i64 x.n])]):=by
     have:=kn.stL ([]++Lg).length (x:=x9) (o:=.st [.int .i64 0,.int .i64 0,.sl true 1 [],.int .i64 0]) (by simp) h3;simpa using this
    have hx9:H3 x9=.st [.int .i64 x.op,.int .i64 x.to,.sl false 1 (Qb x.args),.int .i64 x.n]:=(kn.get (x9,.st [.int .i64 x.op,.int .i64 x.to,.sl false 1 (Qb x.args),.int .i64 x.n]) (by simp)).1;refine Qd3 (fun e2 H2=>Kn H H2 [] ([]++Lg)∧lk 2 e2=.c (.int .i64 b)∧lk 3 e2=.c (.pp [.int .i64 q.params,.int .i64 q.regs,.sl fl 5 (Qn q.blocks)])∧lk 4 e2=.c (.pp [.sl false 1 (Qib zi),.sl false 1 (Qib zo)])∧lk 7 e2=.c t∧lk 8 e2=.c (.int .i64 i)∧lk 45 e2=.c (.bool (Qh7 q b i))) ?_ ?_
    ·intro Q hnr _ _;refine Qbn ?_;simp only[go_sem,hx9,htw];refine Qbej ?_
     cases hq:Q2v x.op with
     |false=>
      simp only[go_sem,Qvr,Qvq,hx9,htw];exact hnr _ _ ⟨kn.drop,rfl,rfl,rfl,rfl,rfl,by rw[hP,Qaml,hq];rfl⟩
     |true=>
      obtain⟨hmk,_,_,_⟩:=Q09 hq;obtain⟨hv,hvl⟩:=(hyo.to x hxm hmk).nat;simp only[go_sem,Qvr,hx9,htw];refine Q00 (orows:=Qib zo) (cb:=.sl false 1 (Qy zo[b].2)) (bs:=zo[b].2) (W:=(Q6 q).LO b) ho hb (by omega) (by rw[hy];omega) kn (.mk' _ _ _ _) rfl rfl (by rw[Qaf5];exact hbz) (Q55 _ _ hbz) (.mk' _ _ _ _) rfl (hlv.1.lo _ (Jm hbz))
       ((Qaff hbz).congr fun r=>(hlv.2 b hb r).2) fun y9 bs' H9 hbl hmem kn=>?_
      have hy9:H9 y9=.vec 1 (Qy bs'):=(kn.get (y9,.vec 1 (Qy bs')) (by simp)).1;have hx9:H9 x9=.st [.int .i64 x.op,.int .i64 x.to,.sl false 1 (Qb x.args),.int .i64 x.n]:=(kn.get (x9,.st [.int .i64 x.op,.int .i64 x.to,.sl false 1 (Qb x.args),.int .i64 x.n]) (by simp)).1;have e1:((i:Int)+1).toNat=i+1:=(by omega);rw[e1]at hmem;have hgd:bs'.getD x.to.toNat false=decide (x.to.toNat∈Qeo q b (i+1)):=by
       rw[Qbb3 hmem,decide_eq_decide,Qeo,ascL_mem];exact⟨fun h=>⟨hvl,h⟩,fun h=>h.2⟩
      have hPv:Qh7 q b i = !bs'.getD x.to.toNat false:=(by rw[hP,Qaml,hq,hgd];rfl);have hvl':x.to.toNat<bs'.length:=(by omega);have htk:(Qy bs').take q.regs.toNat=Qy bs':=Ji (by rw[Qab];omega);generalize hr:x.to.toNat=r at *;simp only[go_sem,Qvq,hx9,htw,hv,hy9,htk,hvl,Qab,hbl,Qax _ _ hvl',Jg,Jl];exact hnr _ _ ⟨kn.drop.drop,rfl,rfl,rfl,rfl,rfl,by rw[hPv];rfl⟩
    ·rintro e2 H4 ⟨kn,l2,l3,l4,l7,l8,l45⟩;refine Qd l45 ?_ ?_
     ·intro hc2;refine Qt ?_;simp only[go_sem,l2,l3,l4,l7,l8,htw];refine kn.growR (B:=[]) (new:=Qbq [i]) hgr (.mk' _ _ _ _) (Qd7 _) (by simp only[Q5x,LIM,Jc,Je];omega) fun t2 Lg2 H5 hgr2 ht2 kn=>?_;simp only[go_sem,Q9h,l2,l3,l4,l7,l8,ht2];refine hnr _ _ ⟨t2,Lg2,?_,kn,rfl,rfl,rfl,rfl,rfl⟩;rw[Qaxa,hc2,if_pos rfl,Q5w];exact hgr2
     ·intro hc2;refine Qg ?_;try simp only[go_sem]
      refine hnr _ _ ⟨t,Lg,?_,kn,l2,l3,l4,l7,l8⟩;rw[Qaxa,hc2];simpa using hgr
   ·rintro e2 H2 ⟨t2,Lg2,hgr2,kn,l2,l3,l4,l7,l8⟩;have ht2:=hgr2.isOw;refine Qt ?_;simp only[go_sem,X.next,l2,l3,l4,l7,l8,ht2];exact⟨Qs (by omega) (by omega),y.ins.length-(i+1),by omega,i+1,t2,Lg2,rfl,by omega,hgr2,kn,by trivial⟩
  ·intro hc;have hge:i=y.ins.length:=by have:y.ins.length≤i:=(by simpa using hc);omega
   refine Qw ?_;simp only[go_sem,X.next];refine Qa ?_;simp only[go_sem,htw];refine Qk ?_;simp only[go_sem,Q5,Qae,Qayc,Ja,forall_eq,RS.op,htw];have e:Qbbs q b=i:=by rw[Qaxc hb,hy,hge]
   rw[e]at hK;exact⟨_,.c _ _ (hgr.frz kn (Qd7 _)),hK _ kn.fin⟩
end Go.AE.Y
namespace Go.AE.Y
open Go.Proofs.Tryz
def Qmu:List Item:=[fJ 6 2 1,sJ 1 6 5]
def Qabs:SC:=sR [tJ 7 4 1,sJ 4 2 7] [2] .ret
def Qabt:SC:=sR (fJ 3 2 1::lJ 4 3::aJ 5 Qc6 [.t 4]::Qmu) [1,2] Qabs
def Qand:SC:=sR [eI 1 (.boxm (.t 0)),eI 2 (.alloc [.int .i64 0,.int .i64 0,.sl true 1 [],.int .i64 0])] [1,2] Qabt
def Qzj:List RS:=[.cell 2 4 true]
theorem Qamp:mFn prog Qdq 1 8 Qand Qzj=true:=by kernel_rfl
def Qjf:List Item:=[fJ 6 0 1,sJ 1 6 5]
def Qjg:List Item:=[fJ 10 1 1,sJ 1 10 9]
def Qjh:List Item:=[fJ 14 4 1,sJ 1 14 13]
def Q3i:SC:=sR [tJ 15 5 1,sJ 5 2 15] [2] .ret
def Q3j:SC:=sR (fJ 11 4 1::lJ 12 11::aJ 13 Qc6 [.t 12]::Qjh) [1,2] Q3i
def Q3k:SC:=sR (fJ 7 1 1::lJ 8 7::eI 9 (.call Qdl [.t 8,.k (.c (.fn Qdq []))])::Qjg) [1,2] Q3j
def Q3l:SC:=sR (fJ 3 0 1::lJ 4 3::eI 5 (.call Qdm [.t 4,.k (.c (.fn Qdr []))])::Qjf) [1,2] Q3k
def Qabr:SC:=sR [eI 1 (.boxm (.t 0)),eI 2 (.alloc [.sl true 2 [],.sl true 4 [],.int .i64 0,.int .i64 0,.sl true 1 []])] [1,2] Q3l
def Qo7:List RS:=[.cell 2 5 true]
theorem Qaba:mFn prog Qco 1 16 Qabr Qo7=true:=by kernel_rfl
def Qku:List Item:=[fJ 6 2 1,sJ 1 6 5]
def Q6h:SC:=sR [tJ 7 3 1,sJ 3 2 7] [2] .ret
def Q6i:SC:=sR (fJ 3 2 1::lJ 4 3::eI 5 (.call Qce [.t 4,.k (.c (.fn Qco []))])::Qku) [1,2] Q6h
def Qags:SC:=sR [eI 1 (.boxm (.t 0)),eI 2 (.alloc [.int .i64 0,.int .i64 0,.sl true 5 []])] [1,2] Q6i
def Qtl:List RS:=[.cell 2 3 true]
theorem Qafa:mFn prog Qis 1 8 Qags Qtl=true:=by kernel_rfl
def Qm0:List Item:=[.chk 11 none (.ld 3 true (.t 1)),.chk 13 none (.ld 3 true (.t 1)),mJ 3 12,sJ 3 4 14]
def Qm1:List Item:=eI 4 (.alloc [.int .i64 0,.int .i64 0,.sl true 5 []])::Qm0
def Qm2:List Item:=.chk 13 none (.ld 3 true (.t 1))::aJ 14 Qis [.t 13]::Qm1
def Qm3:List Item:=[sJ 1 7 27]
def Qm4:List Item:=eI 7 (.alloc [.mnil])::Qm3
def Qm5:List Item:=[kJ 35 28,fJ 36 0 35,sJ 1 36 34]
def Qm6:List Item:=[mJ 9 44,sJ 4 10 46]
def Qm7:List Item:=[oJ 51 50]
def Qm8:List Item:=[mJ 8 55]
def Qab4:SC:=cT 51 (.reg (mJ 52 8::tJ 53 4 10::fI 54 (.bsl 4 [.t 53])::xJ 55 4 52 54::Qm8) [1,2,3,4,5,6,8,17,18,40,41,42]) .skip
def Q6k:SC:=sR (mJ 47 3::mJ 48 5::mJ 49 9::aJ 50 Qga [.t 47,.t 48,.t 49]::Qm7) [1,2,3,4,5,6,8,10,17,18,40,41,42,51] Qab4
def Q6l:SC:=.reg [cJ 56 .add 42 1,mJ 42 56] [1,2,3,4,5,6,8,17,18,40,41,42]
def Q6m:SC:=.seq (.block 5 (sR (mJ 44 42::iJ 45 4 40 42::tJ 46 4 45::eI 10 (.alloc [.int .i64 0,.int .i64 0,.sl true 1 [],.int .i64 0])::Qm6) [1,2,3,4,5,6,8,9,10,17,18,40,41,42] Q6k)) Q6l
def Q3m:SC:=sR [bJ 43 .lss 42 41] [1,2,3,4,5,6,8,17,18,40,41,42,43] (cX 43 4 Q6m)
def Q6n:SC:=.reg [mJ 57 6,mJ 58 8,kJ 59 57,fJ 60 1 59,sJ 1 60 58] [1,2,3,4,17,18]
def Q6o:SC:=.seq (sR [mJ 37 6,kJ 38 37,fJ 39 1 38,lJ 40 39,nJ 41 40,zJ 42 0] [1,2,3,4,5,6,8,17,18,40,41,42] (bL 4 Q3m)) Q6n
def Q6p:SC:=sR [fI 8 (.mv (.k (.c (.sl true 4 []))))] [1,2,3,4,5,6,8,17,18] Q6o
def Q6q:SC:=sR (mJ 28 6::mJ 29 6::kJ 30 29::fJ 31 0 30::lJ 32 31::fI 33 (.mkf Qa5 [.t 7])::aJ 34 Qdo [.t 32,.t 33]::Qm5) [1,2,3,4,5,6,17,18] Q6p
def Q6r:SC:=sR (mJ 25 3::mJ 26 5::aJ 27 Qbv [.t 25,.t 26,kI (-1)]::Qm4) [1,2,3,4,5,6,7,17,18] Q6q
def Q6s:SC:=sR [fJ 21 2 4,lJ 22 21,mJ 23 5,iJ 24 5 22 23,mJ 6 24] [1,2,3,4,5,6,17,18] Q6r
def Q6t:SC:=.reg [cJ 61 .add 18 1,mJ 18 61] [1,2,3,4,17,18]
def Q6u:SC:=.seq (.block 3 (sR [mJ 20 18,mJ 5 20] [1,2,3,4,5,17,18] Q6s)) Q6t
def Q3n:SC:=sR [bJ 19 .lss 18 17] [1,2,3,4,17,18,19] (cX 19 2 Q6u)
def Qkv:List Item:=[bJ 66 .eql 63 65]
def Qkw:List Item:=.chk 64 none (.ld 3 true (.t 1))::aJ 65 Qcd [.t 64]::Qkv
def Q6v:SC:=cT 66 (sR [tJ 67 3 4,sJ 3 2 67] [2] .ret) .skip
def Q6w:SC:=.reg [tJ 68 3 4,sJ 3 1 68] [1,2]
def Q6x:SC:=.seq (.seq (.dreg 5 [0,2,1,2,3,4] ( tJ 62 3 4::tJ 64 3 1::aJ 63 Qcd [.t 62]::Qkw) [1,2,4,66]) Q6v) Q6w
def Q6y:SC:=.seq (sR [fJ 15 2 4,lJ 16 15,nJ 17 16,zJ 18 0] [1,2,3,4,17,18] (bL 2 Q3n)) (.seq .gh Q6x)
def Q3o:SC:=.block 1 (.seq (.dreg 4 [0,2,1,2,3,4,0,2,5,6] ( tJ 11 3 1::tJ 13 3 1::aJ 12 Qka [.t 11]::Qm2) [1,2,3,4]) Q6y)
def Qant:SC:=sR [eI 1 (.boxm (.t 0)),eI 2 (.alloc [.int .i64 0,.int .i64 0,.sl true 5 []])] [1,2] (bL 0 Q3o)
def Qzp:List RS:=[.cell 2 3 true]
theorem Qamv:mFn prog Qcr 1 69 Qant Qzp=true:=by kernel_rfl
end Go.AE.Y
namespace Go.AE.Y
attribute [local go_sem] cond_true cond_false Bool.not_true Bool.not_false
open Go.Proofs.Tryz
variable {H H0 F:Heap}{K:V→Heap→Prop}{E L:List (Nat×Obj)}
theorem PhiD.take2 (x:PhiD):x.cells.take 2=x.cells:=rfl
theorem PhiD.allOw (x:PhiD):(x.cells.all fun c=>!c.isOw)=true:=rfl
theorem PhiD.len2 (x:PhiD):x.cells.length=2:=rfl
theorem Qbdx {x:PhiD}(hl:x.args.length≤LIM)(hK:∀H',Upd H H' []→K (.ag x.cells) H'):Qr prog Qdr [.ag x.cells] H K:=by
 refine Q3 ?_;refine Qc Qal Qas2 ?_;refine Qa ?_;simp only[go_sem,PhiD.cells];intro x2 hx2 H1 h1;have kn:=(Kn.start0 H).al hx2 h1;refine Qaj ?_;simp only[go_sem];refine Q42 kn hl fun t Lg H2 hgr how kn=>?_;have hx2:=kn.l 0 rfl;simp only[go_sem,Qpo,how,hx2];intro H3 h3;have kn:Kn H H3 [] ([(x2,.st [.int .i64 x.to,t])]++Lg):=kn.stL 0 rfl h3;have hx2:=kn.l 0 rfl;refine Qk ?_;simp only[go_sem,Q5,Qae,Q2x,Ja,forall_eq,RS.op,how,hx2];exact⟨_,FrzL.ag (.cons (Qi rfl) (.cons (hgr.frz kn (Qz _)) .nil)),hK _ kn.fin⟩
theorem Qbdw {x:InsD}(hl:x.args.length≤LIM)(hK:∀H',Upd H H' []→K (.ag x.cells) H'):Qr prog Qdq [.ag x.cells] H K:=by
 refine Q3 ?_;refine Qc Qal Qamp ?_;refine Qa ?_;simp only[go_sem,InsD.cells];intro x1 hx1 H0 h0;have kn:=(Kn.start0 H).al hx1 h0;intro x2 hx2 H1 h1;have kn:=kn.al hx2 h1;have hx1:=kn.l 0 rfl;refine Qa ?_;simp only[go_sem,hx1];refine Q42 kn hl fun t Lg H2 hgr how kn=>?_;have hx1:=kn.l 0 rfl;simp only[go_sem,Qmu,how,hx1];intro H3 h3;have kn:=kn.stL 0 rfl h3;have hx1:=kn.l 0 rfl;have hx2:=kn.l 1 rfl;refine Qa ?_;simp only[go_sem,hx1,hx2,how];intro H4 h4;have kn:Kn H H4 [] ([(x1,.st [.int .i64 x.op,.int .i64 x.to,t,.int .i64 x.n]),(x2,.st [.int .i64 x.op,.int .i64 x.to,t,.int .i64 x.n])]++Lg):=kn.stL 1 rfl h4;have hx2:=kn.l 1 rfl;refine Qk ?_;simp only[go_sem,Q5,Qae,Qzj,Ja,forall_eq,RS.op,how,hx2];exact⟨_,FrzL.ag (.cons (Qi rfl) (.cons (Qi rfl) (.cons (hgr.frz kn (Qz _)) (.cons (Qi rfl) .nil)))),hK _ kn.fin⟩
theorem Qbpk {l:List PhiD}{fl:Bool}(hl:l.length≤2 ^ 38)(ha:∀x∈l,x.args.length≤LIM)(kn:Kn H0 H E L)(hK:∀t Lg H',Gr Lg 2 (Q7 l) t→Kn H0 H' E (L++Lg)→K (.c t) H') :
  Qr prog Qdm [.c (.sl fl 2 (Q7 l)),.c (.fn Qdr [])] H K:=by
 refine Qc Qal Q02 ?_;refine Qa ?_;simp only[go_sem];refine Qa ?_;simp only[go_sem];refine Qaa ?_;refine Qa ?_;simp only[go_sem,Qv];intro _;refine Qh (Qe (Qx (fun m e1 H1=>∃(i:Nat) (t:C) (Lg:List (Nat×Obj)),m=l.length-i∧i≤l.length∧Gr Lg 2 (Q7 (l.take i)) t∧Kn H0 H1 E (L++Lg)∧
  e1=[(1,.c (.fn Qdr [])),(5,.c t),(8,.c (.sl fl 2 (Q7 l))),(9,.c (.int .i64 l.length)),(10,.c (.int .i64 i))]) l.length ?_ ?_))
 ·exact⟨0,_,[],by omega,by omega,.nil 2,by simpa using kn,rfl⟩
 ·clear kn;rintro m e1 H1 ⟨i,t,Lg,hm,hi,hgr,kn,rfl⟩;have htw:=hgr.isOw;refine Qa ?_;simp only[go_sem,htw];refine Qh (Qd rfl ?_ ?_)
  ·intro hc;have hlt:i<l.length:=by simpa using hc
   obtain⟨p,hp⟩:∃p,l[i]=p:=⟨_,rfl⟩;have hpm:p∈l:=by rw[←hp];exact Jm hlt
   have htk:l.take (i+1)=l.take i++[p]:=by rw[Jd hlt,hp]
   refine Qg ?_;try simp only[go_sem]
   refine Qh (Qe ?_);refine Qa ?_;simp only[go_sem,htw,hlt,Qv,Qau _ _ hlt,PhiD.cells,hp];intro x7 hx7 H2 h2;have kn:=kn.al hx7 h2;have hx7:H2 x7=.st [.int .i64 0,.sl true 1 []]:=(kn.get (x7,.st [.int .i64 0,.sl true 1 []]) (by simp)).1;simp only[go_sem,Qfg,hx7,htw];intro H3 h3;have kn:Kn H0 H3 E ((L++[(x7,.st [.int .i64 p.to,.sl false 1 (Qb p.args)])])++Lg):=by
    have:=kn.stL (L++Lg).length (x:=x7) (o:=.st [.int .i64 0,.sl true 1 []]) (by simp) h3;refine Kn.perm (by simpa using this) (Qp fun f hf h0 hc hp=>by simp only[hf];omega)
   have hx7:H3 x7=.st [.int .i64 p.to,.sl false 1 (Qb p.args)]:=(kn.get (x7,.st [.int .i64 p.to,.sl false 1 (Qb p.args)]) (by simp)).1;refine Qt ?_;simp only[go_sem,htw,hx7,Jq,J5];refine Qbdx (x:=p) (ha p hpm) fun H4 hu=>?_;have kn:=kn.call0 hu;simp only[go_sem,Qfi,htw,PhiD.cells];have hsm:(l.take i).length≤l.length:=by rw[Jp];omega
   refine kn.growR (new:=Q7 [p]) hgr (.mk' _ _ _ _) (Q07 _) (by simp only[Qv,LIM,Jc,Je];omega) fun t2 Lg2 H5 hgr2 ht2 kn=>?_;simp only[go_sem,Qfh,ht2];refine Qt ?_;simp only[go_sem,X.next,ht2];refine⟨Qs (by omega) (by omega),l.length-(i+1),by omega,i+1,t2,Lg2,rfl,by omega,?_,?_,rfl⟩
   ·rw[htk];have:Q7 (l.take i++[p])=Q7 (l.take i)++Q7 [p]:=(by simp[Q7]);rw[this];exact hgr2
   ·exact Kn.drop (B:=[(x7,.st [.int .i64 p.to,.sl false 1 (Qb p.args)])]) (kn.perm (Qp fun f hf h0 hc hp=>by simp only[hf];omega))
  ·intro hc;have hge:l.length≤i:=by simpa using hc
   rw[Ji hge]at hgr;refine Qw ?_;simp only[go_sem,X.next];refine Qa ?_;simp only[go_sem,htw];refine Qk ?_;simp only[go_sem,Q5,Qae,Qja,Ja,forall_eq,RS.op,htw];exact hK t Lg H1 hgr kn
theorem Qbpj {l:List InsD}{fl:Bool}(hl:l.length≤2 ^ 38)(ha:∀x∈l,x.args.length≤LIM)(hK:∀H',Upd H H' []→K (.c (.sl false 4 (Qag l))) H') :
  Qr prog Qdl [.c (.sl fl 4 (Qag l)),.c (.fn Qdq [])] H K:=by
 refine Q3 ?_;refine Qc Qal Q01 ?_;refine Qa ?_;simp only[go_sem];refine Qa ?_;simp only[go_sem];refine Qaa ?_;refine Qa ?_;simp only[go_sem,Q4];intro _;refine Qh (Qe (Qx (fun m e1 H1=>∃(i:Nat) (t:C) (Lg:List (Nat×Obj)),m=l.length-i∧i≤l.length∧Gr Lg 4 (Qag (l.take i)) t∧Kn H H1 [] ([]++Lg)∧
  e1=[(1,.c (.fn Qdq [])),(5,.c t),(8,.c (.sl fl 4 (Qag l))),(9,.c (.int .i64 l.length)),(10,.c (.int .i64 i))]) l.length ?_ ?_))
 ·exact⟨0,_,[],by omega,by omega,.nil 4,Kn.start0 H,rfl⟩
 ·rintro m e1 H1 ⟨i,t,Lg,hm,hi,hgr,kn,rfl⟩;have htw:=hgr.isOw;refine Qa ?_;simp only[go_sem,htw];refine Qh (Qd rfl ?_ ?_)
  ·intro hc;have hlt:i<l.length:=by simpa using hc
   obtain⟨p,hp⟩:∃p,l[i]=p:=⟨_,rfl⟩;have hpm:p∈l:=by rw[←hp];exact Jm hlt
   have htk:l.take (i+1)=l.take i++[p]:=by rw[Jd hlt,hp]
   refine Qg ?_;try simp only[go_sem]
   refine Qh (Qe ?_);refine Qa ?_;simp only[go_sem,htw,hlt,Q4,Qbd _ _ hlt,InsD.cells,hp];intro x7 hx7 H2 h2;have kn:=kn.al hx7 h2;have hx7:H2 x7=.st [.int .i64 0,.int .i64 0,.sl true 1 [],.int .i64 0]:=(kn.get (x7,.st [.int .i64 0,.int .i64 0,.sl true 1 [],.int .i64 0]) (by simp)).1;simp only[go_sem,Qfd,hx7,htw];intro H3 h3;have kn:Kn H H3 [] ([(x7,.st [.int .i64 p.op,.int .i64 p.to,.sl false 1 (Qb p.args),.int .i64 p.n])]++Lg):=by
    have:=kn.stL ([]++Lg).length (x:=x7) (o:=.st [.int .i64 0,.int .i64 0,.sl true 1 [],.int .i64 0]) (by simp) h3;refine Kn.perm (by simpa using this) ?_;exact Jk
   have hx7:=kn.l 0 rfl;refine Qt ?_;simp only[go_sem,htw,hx7,Jq,J5];refine Qbdw (x:=p) (ha p hpm) fun H4 hu=>?_;have kn:=kn.call0 hu;simp only[go_sem,Qff,htw,InsD.cells];have hsm:(l.take i).length≤l.length:=by rw[Jp];omega
   refine kn.growR (new:=Qag [p]) hgr (.mk' _ _ _ _) (Qed _) (by simp only[Q4,LIM,Jc,Je];omega) fun t2 Lg2 H5 hgr2 ht2 kn=>?_;simp only[go_sem,Qfe,ht2];refine Qt ?_;simp only[go_sem,X.next,ht2];refine⟨Qs (by omega) (by omega),l.length-(i+1),by omega,i+1,t2,Lg2,rfl,by omega,?_,?_,rfl⟩
   ·rw[htk];have:Qag (l.take i++[p])=Qag (l.take i)++Qag [p]:=(by simp[Qag]);rw[this];exact hgr2
   ·exact Kn.drop (B:=[(x7,.st [.int .i64 p.op,.int .i64 p.to,.sl false 1 (Qb p.args),.int .i64 p.n])]) (kn.perm Jk)
  ·intro hc;have hge:l.length≤i:=by simpa using hc
   rw[Ji hge]at hgr;refine Qw ?_;simp only[go_sem,X.next];refine Qa ?_;simp only[go_sem,htw];refine Qk ?_;simp only[go_sem,Q5,Qae,Qi9,Ja,forall_eq,RS.op,htw];exact⟨_,.c _ _ (hgr.frz kn (Qed _)),hK _ kn.fin⟩
def kRow (y:BlkD)(pc:C):List C:=[pc,.sl false 4 (Qag y.ins),.int .i64 y.jump,.int .i64 y.on,.sl false 1 (Qb y.next)]
structure BlkD.cl (y:BlkD):Prop where
 i:y.ins.length≤2 ^ 38
 p:y.phis.length≤2 ^ 38
 n:y.next.length≤LIM
 ia:∀x∈y.ins,x.args.length≤LIM
 pa:∀x∈y.phis,x.args.length≤LIM
theorem Qaww {y:BlkD}(hy:y.cl)(hK:∀pc N H',Gr N 2 (Q7 y.phis) pc→Kn H H' [] N→K (.ag (kRow y pc)) H'):Qr prog Qco [.ag y.cells] H K:=by
 refine Qem ?_;refine Qc Qal Qaba ?_;refine Qa ?_;simp only[go_sem,BlkD.cells];intro x1 hx1 H0 h0;have kn:=(Kn.start0 H).al hx1 h0;intro x2 hx2 H1 h1;have kn:=kn.al hx2 h1;have hx1:=kn.l 0 rfl;refine Qa ?_;simp only[go_sem,hx1];refine Qbpk hy.p hy.pa kn fun pc N H2 hgp kn=>?_;have hpw:=hgp.isOw;have hx1:=kn.l 0 rfl;simp only[go_sem,Qjf,hpw,hx1];intro H3 h3;have kn:=kn.stL 0 rfl h3;have hx1:=kn.l 0 rfl;refine Qa ?_;simp only[go_sem,hx1,hpw];refine Qbpj hy.i hy.ia fun H4 hu=>?_;have kn:=kn.call0 hu;have hx1:=kn.l 0 rfl;simp only[go_sem,Qjg,hpw,hx1];intro H5 h5;have kn:=kn.stL 0 rfl h5;have hx1:=kn.l 0 rfl;refine Qa ?_;simp only[go_sem,hx1,hpw];refine Q42 kn hy.n fun t Lg H6 hgr how kn=>?_;have hx1:=kn.l 0 rfl;simp only[go_sem,Qjh,hpw,how,hx1];intro H7 h7;have kn:=kn.stL 0 rfl h7;have hx1:=kn.l 0 rfl;have hx2:=kn.l 1 rfl;refine Qa ?_;simp only[go_sem,hx1,hx2,hpw,how];intro H8 h8;have kn:Kn H H8 [] (([(x1,.st [pc,.sl false 4 (Qag y.ins),.int .i64 y.jump,.int .i64 y.on,t]),(x2,.st [pc,.sl false 4 (Qag y.ins),.int .i64 y.jump,.int .i64 y.on,t])]++Lg)++N):=
  (kn.stL 1 rfl h8).perm (Qp fun f hf h0 hc hp=>by
   have e1:=hc (x1,.st [pc,.sl false 4 (Qag y.ins),.int .i64 y.jump,.int .i64 y.on,t]) ([(x2,.st [pc,.sl false 4 (Qag y.ins),.int .i64 y.jump,.int .i64 y.on,t])]++N++Lg);have e2:=hc (x1,.st [pc,.sl false 4 (Qag y.ins),.int .i64 y.jump,.int .i64 y.on,t]) [(x2,.st [pc,.sl false 4 (Qag y.ins),.int .i64 y.jump,.int .i64 y.on,t])];show f ((x1,_)::([(x2,_)]++N++Lg))=_;rw[e1];simp only[hf,e2];omega)
 have hx2:=kn.l 1 rfl;have hfr:∀p∈Lg,H8 p.1=p.2∧unx H N p.1=true:=fun p hp=>
  ⟨(kn.get p (Jb _ (Jj _ (Jb _ hp)))).1,kn.unx (Jb _ hp)⟩
 refine Qk ?_;simp only[go_sem,Q5,Qae,Qo7,Ja,forall_eq,RS.op,hpw,how,hx2];exact⟨unx H N,.ag (kRow y pc),H8.frz (unx H N),FrzL.ag (.cons (.same _ hpw) (.cons (Q5m (noOw_mem (Qed _))) (.cons (Qi rfl) (.cons (Qi rfl) (.cons (Gr.frzM hgr hfr (FrzR.same (Qz _))) .nil))))),Qd1 _ _,hK pc N _ hgp kn.finK⟩
structure KBlk where
 y:BlkD
 pc:C
 pl:List (Nat×Obj)
def KBlk.row (b:KBlk):List C:=kRow b.y b.pc
def KBlk.ok (b:KBlk):Prop:=Gr b.pl 2 (Q7 b.y.phis) b.pc
theorem KBlk.noOw {b:KBlk}(h:b.ok):Go.AE.noOw b.row=true:=by
 have:=h.isOw;simp only[Go.AE.noOw,KBlk.row,kRow,List.all_cons,List.all_nil,this];rfl
theorem Qbpi {l:List BlkD}{fl:Bool}(hl:l.length≤2 ^ 38)(ha:∀y∈l,y.cl)(kn:Kn H0 H E L)
  (hK:∀(ks:List KBlk) t Lg H',ks.map KBlk.y=l→(∀b∈ks,b.ok)→Gr Lg 5 (ks.map KBlk.row) t→Kn H0 H' E ((L++ks.flatMap KBlk.pl)++Lg)→K (.c t) H') :
  Qr prog Qce [.c (.sl fl 5 (Qn l)),.c (.fn Qco [])] H K:=by
 refine Qc Qal Qn6 ?_;refine Qa ?_;simp only[go_sem];refine Qa ?_;simp only[go_sem];refine Qaa ?_;refine Qa ?_;simp only[go_sem,Ql];intro _;refine Qh (Qe (Qx (fun m e1 H1=>∃(ks:List KBlk) (t:C) (Lg:List (Nat×Obj)),m=l.length-ks.length∧ks.length≤l.length∧ks.map KBlk.y=l.take ks.length∧(∀b∈ks,b.ok)∧Gr Lg 5 (ks.map KBlk.row) t∧Kn H0 H1 E ((L++ks.flatMap KBlk.pl)++Lg)∧
  e1=[(1,.c (.fn Qco [])),(5,.c t),(8,.c (.sl fl 5 (Qn l))),(9,.c (.int .i64 l.length)),(10,.c (.int .i64 ks.length))]) l.length ?_ ?_))
 ·exact⟨[],_,[],by simp,by simp,by simp,by simp,.nil 5,by simpa using kn,rfl⟩
 ·clear kn;rintro m e1 H1 ⟨ks,t,Lg,hm,hi,hky,hko,hgr,kn,rfl⟩;have htw:=hgr.isOw;refine Qa ?_;simp only[go_sem,htw];refine Qh (Qd rfl ?_ ?_)
  ·intro hc;have hlt:ks.length<l.length:=by simpa using hc
   obtain⟨y,hy⟩:∃y,l[ks.length]=y:=⟨_,rfl⟩;have hym:y∈l:=by rw[←hy];exact Jm hlt
   have htk:l.take (ks.length+1)=l.take ks.length++[y]:=by rw[Jd hlt,hy]
   refine Qg ?_;try simp only[go_sem]
   refine Qh (Qe ?_);refine Qa ?_;simp only[go_sem,htw,hlt,Ql,Q1 _ _ hlt,BlkD.cells,hy];intro x7 hx7 H2 h2;have kn:=kn.al hx7 h2;have hx7:H2 x7=.st [.sl true 2 [],.sl true 4 [],.int .i64 0,.int .i64 0,.sl true 1 []]:=(kn.get (x7,.st [.sl true 2 [],.sl true 4 [],.int .i64 0,.int .i64 0,.sl true 1 []]) (by simp)).1;simp only[go_sem,Qdi,hx7,htw];intro H3 h3;have kn:Kn H0 H3 E (((L++ks.flatMap KBlk.pl)++Lg)++[(x7,blkC y)]):=by
    have:=kn.stL ((L++ks.flatMap KBlk.pl)++Lg).length (x:=x7) (o:=.st [.sl true 2 [],.sl true 4 [],.int .i64 0,.int .i64 0,.sl true 1 []]) (by simp) h3;simpa[blkC]using this
   have hx7:H3 x7=.st [.sl false 2 (Q7 y.phis),.sl false 4 (Qag y.ins),.int .i64 y.jump,.int .i64 y.on,.sl false 1 (Qb y.next)]:=(kn.get (x7,blkC y) (by simp)).1;have kn:=kn.drop;refine Qt ?_;simp only[go_sem,htw,hx7,Jq,J5];refine Qaww (y:=y) (ha y hym) fun pc N H4 hgp k2=>?_;have kn:Kn H0 H4 E ((L++(ks++[(⟨y,pc,N⟩:KBlk)]).flatMap KBlk.pl)++Lg):=(kn.comp0 k2).perm (Qp fun f hf h0 hc hp=>by
    simp only[hf,Jad,Jal,Jan,Jq];omega)
   have hpw:=hgp.isOw;simp only[go_sem,Qdk,htw,kRow,hpw];refine kn.growR (new:=[KBlk.row ⟨y,pc,N⟩]) hgr (.mk' _ _ _ _) (by intro r hr;simp only[Ja]at hr;subst hr;exact KBlk.noOw hgp) (by simp only[Jf,LIM,Jc,Je];omega) fun t2 Lg2 H5 hgr2 ht2 kn=>?_;simp only[go_sem,Qdj,ht2];refine Qt ?_;simp only[go_sem,X.next,ht2];refine⟨Qs (by omega) (by omega),l.length-(ks.length+1),by omega,ks++[⟨y,pc,N⟩],t2,Lg2,by simp,by simp;omega,?_,fun b hb=>?_,?_,kn,?_⟩
   ·rw[Jh,Jai,htk,J6,hky];rfl
   ·rcases Jr.1 hb with hb|hb
    ·exact hko b hb
    ·simp only[Ja]at hb;subst hb;exact hgp
   ·rw[J6];exact hgr2
   ·simp
  ·intro hc;have hge:ks.length=l.length:=by have:l.length≤ks.length:=(by simpa using hc);omega
   rw[hge,Ju]at hky;refine Qw ?_;simp only[go_sem,X.next];refine Qa ?_;simp only[go_sem,htw];refine Qk ?_;simp only[go_sem,Q5,Qae,Qey,Ja,forall_eq,RS.op,htw];exact hK ks t Lg H1 hky hko hgr kn
theorem Qa4i {q:CodeD}{fl:Bool}(hb:q.blocks.length≤2 ^ 38)(ha:∀y∈q.blocks,y.cl)
  (hK:∀(ks:List KBlk) bc bl H',ks.map KBlk.y=q.blocks→(∀b∈ks,b.ok)→Gr bl 5 (ks.map KBlk.row) bc→Kn H H' [] (ks.flatMap KBlk.pl++bl)→K (.ag [.int .i64 q.params,.int .i64 q.regs,bc]) H') :
  Qr prog Qis [.ag [.int .i64 q.params,.int .i64 q.regs,.sl fl 5 (Qn q.blocks)]] H K:=by
 refine Qem ?_;refine Qc Qal Qafa ?_;refine Qa ?_;simp only[go_sem];intro x1 hx1 H0 h0;have kn:=(Kn.start0 H).al hx1 h0;intro x2 hx2 H1 h1;have kn:=kn.al hx2 h1;have hx1:=kn.l 0 rfl;refine Qa ?_;simp only[go_sem,hx1];refine Qbpi hb ha kn fun ks bc bl H2 hky hko hgr kn=>?_;have hbw:=hgr.isOw;have hx1:=kn.l 0 rfl;simp only[go_sem,Qku,hbw,hx1];intro H3 h3;have kn:=kn.stL 0 rfl h3;have hx1:=kn.l 0 rfl;have hx2:=kn.l 1 rfl;refine Qa ?_;simp only[go_sem,hx1,hx2,hbw];intro H4 h4;have kn:Kn H H4 [] ([(x1,.st [.int .i64 q.params,.int .i64 q.regs,bc]),(x2,.st [.int .i64 q.params,.int .i64 q.regs,bc])]++(ks.flatMap KBlk.pl++bl)):=by
  have:=kn.stL 1 rfl h4;refine this.perm ?_;simp only[List.set,Jaa,Jaj,J7];exact .refl _
 have hx2:=kn.l 1 rfl;refine Qk ?_;simp only[go_sem,Q5,Qae,Qtl,Ja,forall_eq,RS.op,hbw,hx2];exact⟨unx H (ks.flatMap KBlk.pl++bl),.ag [.int .i64 q.params,.int .i64 q.regs,bc],H4.frz (unx H (ks.flatMap KBlk.pl++bl)),FrzL.ag (.cons (Qi rfl) (.cons (Qi rfl) (.cons (.same _ hbw) .nil))),Qd1 _ _,hK ks bc bl _ hky hko hgr kn.finK⟩
end Go.AE.Y
namespace Go.AE.Y
attribute [local go_sem] cond_true cond_false Bool.not_true Bool.not_false
open Go.Proofs.Tryz
variable {H H0 F:Heap}{K:V→Heap→Prop}{E L B pl:List (Nat×Obj)}
theorem Q2i {x:PhiD}{x7 M ver:Nat}{ks:List Nat}{R:Nat}(h7:H x7=.st [.mp M])(hM:H M=.map ver (Qas ks))(hx:0≤x.to)(hK:K (.c (.bool (!decide (x.to.toNat∈ks)))) H) :
  Qr prog Qa5 [.ag x.cells,.c (.ptr x7 0)] H K:=by
 have hokM:Qq8 H (.mp M)=True:=by simp only[Qq8,hM]
 have henM:Qai H (.mp M)=Qas ks:=by simp only[Qai,hM]
 have hv:x.to=(x.to.toNat:Int):=by omega
 refine Qc Qal Qabb ?_;refine Qa ?_;simp only[go_sem,PhiD.cells];generalize hr:x.to.toNat=r at *;refine Qa ?_;simp only[go_sem,h7,hokM,henM,hv,Qc9,Qaeg];refine Qk ?_;simp only[go_sem,Q5,Qae,Qo8,Ja,forall_eq,RS.op];exact hK
def Q2o (ks:List Nat)(f:PhiD):Bool:=decide (f.to.toNat∈ks)
theorem Qbiz {l R:List PhiD}{p:PhiD→Bool}{i j:Nat}(hij:i<j)(hj:j<l.length)(hRl:R.length=l.length)(h1:R.take i=(l.take j).filter p)(h2:R.drop j=l.drop j)(hjR:j<R.length) :
  R[j]=l[j]∧(p R[j]=true→(R.set i R[j]).take (i+1)=(l.take (j+1)).filter p∧(R.set i R[j]).drop (j+1)=l.drop (j+1))∧(p R[j]=false→R.take i=(l.take (j+1)).filter p∧R.drop (j+1)=l.drop (j+1)):=by
 have e:R[j]=l[j]:=by
  have a:=Jn hjR;have b:=Jn hj;rw[a,b]at h2;exact (List.cons.inj h2).1
 have hd:R.drop (j+1)=l.drop (j+1):=by
  have a:=Jn hjR;have b:=Jn hj;rw[a,b]at h2;exact (List.cons.inj h2).2
 refine⟨e,fun hp=>⟨?_,?_⟩,fun hp=>⟨?_,hd⟩⟩
 ·have hi:i<(R.set i R[j]).length:=by rw[Jap];omega
  rw[Jd hi,List.getElem_set_self,List.take_set_of_le (Jl i),h1,Jd hj,Jv,J1,←e,hp,if_pos rfl,Jah]
 ·rw[List.drop_set_of_lt (by omega),hd]
 ·rw[h1,Jd hj,Jv,J1,←e,hp];simp
theorem Qbdk {c:C}{l:List PhiD}{x7 M ver:Nat}{ks:List Nat}(hs:Slc H 2 (Q7 l) c)(how:c.isOw=false)(h7:H x7=.st [.mp M])(hM:H M=.map ver (Qas ks))(hto:∀x∈l,0≤x.to)
  (hK:∀r:Int,((r=-1∧l.filter (Q2o ks)=l)∨∃i:Nat,r=i∧i<l.length∧l.take i=(l.take (i+1)).filter (Q2o ks))→K (.c (.int .i64 r)) H):Qr prog Qd6 [.c c,.c (.fn Qa5 [.ptr x7 0])] H K:=by
 refine Qc Qal Q2s ?_;have hok:=eq_true hs.ok;have hlen:=hs.len;have hsz:=hs.sz;have hrw:=hs.rows;refine Qa ?_;simp only[go_sem,how];refine Qaa ?_;refine Qa ?_;simp only[go_sem,how,hok,hlen,Qv];intro hl;simp only[LIM]at hl;refine Qh (Qe (Qx (fun m e1 H1=>∃(i:Nat),m=l.length-i∧i≤l.length∧(l.take i).filter (Q2o ks)=l.take i∧H1=H∧e1=[(0,.c c),(1,.c (.fn Qa5 [.ptr x7 0])),(7,.c (.int .i64 l.length)),(8,.c (.int .i64 i))]) l.length ?_ ?_))
 ·exact⟨0,by omega,by omega,by simp,rfl,rfl⟩
 ·rintro m e1 H1 ⟨i,hm,hi,hkp,rfl,rfl⟩;refine Qa ?_;simp only[go_sem,how];refine Qh (Qd rfl ?_ ?_)
  ·intro hc;have hlt:i<l.length:=by simpa using hc
   refine Qg ?_;try simp only[go_sem]
   refine Qh (Qe ?_);refine Qa ?_;simp only[go_sem,how];refine Qa ?_;simp only[go_sem,how,hok,hlen,hsz,hrw,hlt,Qv,Qau _ _ hlt,PhiD.take2,PhiD.allOw,PhiD.len2,Jaa,Jaj,Jaf,J5];refine Q2i (R:=0) h7 hM (hto _ (Jm hlt)) ?_;refine Qd rfl ?_ ?_
   ·intro hc2;refine Qa ?_;simp only[go_sem];refine Qk ?_;simp only[go_sem,X.next,Q5,Qae,Qe0,Ja,forall_eq,RS.op];refine hK _ (.inr ⟨i,rfl,hlt,?_⟩);have hk:Q2o ks l[i]=false:=(by simpa[Q2o]using hc2);rw[Jd hlt,Jv,hkp,J1,hk];simp
   ·intro hc2;have hk:Q2o ks l[i]=true:=(by simpa[Q2o]using hc2);refine Qg ?_;try simp only[go_sem]
    refine Qt ?_;simp only[go_sem,X.next];refine⟨Qs (by omega) (by omega),l.length-(i+1),by omega,i+1,rfl,by omega,?_,by trivial⟩;rw[Jd hlt,Jv,hkp,J1,hk,if_pos rfl,Jah]
  ·intro hc;have hge:l.length≤i:=by simpa using hc
   rw[Ji hge]at hkp;refine Qw ?_;simp only[go_sem,X.next];refine Qa ?_;simp only[go_sem];refine Qk ?_;simp only[go_sem,Q5,Qae,Qe0,Ja,forall_eq,RS.op];exact hK _ (.inl ⟨rfl,hkp⟩)
theorem Qbex (l:List PhiD)(i:Nat)(x:PhiD):(Q7 l).set i x.cells=Q7 (l.set i x):=by simp[Q7,List.map_set]
set_option maxHeartbeats 2000000 in
theorem Qa4a {pc:C}{l:List PhiD}{x7 M ver:Nat}{ks:List Nat}(kn:Kn H0 H E (B++pl))(hgr:Gr pl 2 (Q7 l) pc)(hL:l.length≤2 ^ 38)(h7:(x7,Obj.st [.mp M])∈B)(hM:(M,Obj.map ver (Qas ks))∈B)(hto:∀x∈l,0≤x.to)
  (hK:∀pc' pl' H',Gw pl' 2 (Q7 (l.filter (Q2o ks))) pc'→Kn H0 H' E (B++pl')→K (.c pc') H') :
  Qr prog Qdo [.c pc,.c (.fn Qa5 [.ptr x7 0])] H K:=by
 have how:=hgr.isOw;have hget:=hgr.get kn;have hs:Slc H 2 (Q7 l) pc:=⟨hget.1,hgr.elemSz,hget.2,hgr.lenC⟩;have g7:∀{H1:Heap} {N:List (Nat×Obj)},Kn H0 H1 E (B++N)→H1 x7=.st [.mp M]∧H1 M=.map ver (Qas ks):=fun kn=>
  ⟨(kn.get _ (Jb _ (Jj _ h7))).1,(kn.get _ (Jb _ (Jj _ hM))).1⟩
 refine Qc Qal Q04 ?_;refine Qa ?_;simp only[go_sem,how];refine Qa ?_;simp only[go_sem,how];refine Qbdk hs how (g7 kn).1 (g7 kn).2 hto fun r hr=>?_;simp only[go_sem,Qft,how];refine Qaa ?_;refine Qa ?_;simp only[go_sem,how];rcases hr with ⟨rfl,hall⟩|⟨i0,rfl,hi0,hkp0⟩
 ·refine Qh (Qd rfl (fun _=>?_) (fun h=>by simp at h));refine Qa ?_;simp only[go_sem,how];refine Qk ?_;simp only[go_sem,Q5,Qae,Qd8,Ja,forall_eq,RS.op,how];refine hK pc pl H ?_ kn;rw[hall];exact hgr.gw
 ·have hne:decide ((i0:Int)=-1)=false:=decide_eq_false (by omega);refine Qh (Qd rfl (fun h=>?_) (fun _=>?_))
  ·have:=of_decide_eq_true h;omega
  obtain⟨z,rfl,rfl⟩:∃z,pc=.vsl z 2 0 l.length∧pl=[(z,.vec 2 (Q7 l))]:=by
   rcases hgr with ⟨_,h,_⟩|⟨y,h1,h2⟩
   ·have:=congrArg List.length h;rw[Qv]at this;simp only[Je]at this;omega
   ·exact⟨y,by rw[h1,Qv],h2⟩
  refine Qg ?_;try simp only[go_sem]
  refine Qaa ?_;refine Qa ?_;simp only[go_sem];refine⟨Qs (by omega) (by omega),?_⟩;refine Qh (Qe (Qx (fun m e1 H1=>∃(i j:Nat) (R:List PhiD),m=l.length-j∧i<j∧j≤l.length∧R.length=l.length∧(∀x∈R,x∈l)∧(R.take i=(l.take j).filter (Q2o ks)∧R.drop j=l.drop j)∧Kn H0 H1 E (B++[(z,.vec 2 (Q7 R))])∧
   lk 0 e1=.c (.vsl z 2 0 l.length)∧lk 1 e1=.c (.fn Qa5 [.ptr x7 0])∧lk 5 e1=.c (.int .i64 i)∧lk 6 e1=.c (.int .i64 j)) (l.length-(i0+1)) ?_ ?_))
  ·exact⟨i0,i0+1,l,by omega,by omega,by omega,rfl,fun x hx=>hx,⟨hkp0,rfl⟩,kn,rfl,rfl,rfl,rfl⟩
  ·clear kn hs hget hgr how;rintro m e1 H1 ⟨i,j,R,hm,hij,hj,hRl,hRm,⟨hk1,hk2⟩,kn,l0,l1,l5,l6⟩;have hz:H1 z=.vec 2 (Q7 R):=(kn.get (z,.vec 2 (Q7 R)) (by simp)).1;have htk:(Q7 R).take l.length=Q7 R:=Ji (by rw[Qv];omega);refine Qaa ?_;refine Qa ?_;simp only[go_sem,l0,l1,l5,l6,hz,Qv,hRl,Jg,Jl];intro _;refine Qh (Qd rfl ?_ ?_)
   ·intro hc;have hjl:j<l.length:=(by simpa using hc);have hjR:j<R.length:=(by omega);have hiR:i<R.length:=(by omega);have hil:i<l.length:=(by omega);obtain⟨x,hx⟩:∃x,R[j]=x:=⟨_,rfl⟩;have hxm:x∈R:=(by rw[←hx];exact Jm hjR);obtain⟨hs1,hs2,hs3⟩:=Qbiz hij hjl hRl hk1 hk2 hjR;rw[hx]at hs2 hs3;refine Qg ?_;try simp only[go_sem]
    refine Qd3 (fun e2 H2=>∃(i2:Nat) (R2:List PhiD),i2<j+1∧R2.length=l.length∧(∀x∈R2,x∈l)∧(R2.take i2=(l.take (j+1)).filter (Q2o ks)∧R2.drop (j+1)=l.drop (j+1))∧Kn H0 H2 E (B++[(z,.vec 2 (Q7 R2))])∧lk 0 e2=.c (.vsl z 2 0 l.length)∧lk 1 e2=.c (.fn Qa5 [.ptr x7 0])∧lk 5 e2=.c (.int .i64 i2)∧lk 6 e2=.c (.int .i64 j)) ?_ ?_
    ·intro Q hnr _ _;refine Qe ?_;refine Qa ?_;simp only[go_sem,hz,htk,hjl,Qv,hRl,Qau _ _ hjR,hx,PhiD.cells,Jg,Jl];intro y7 hy7 H2 h2;have kn:=kn.al hy7 h2;have hy7:H2 y7=.st [.int .i64 0,.sl true 1 []]:=(kn.get (y7,.st [.int .i64 0,.sl true 1 []]) (by simp)).1;simp only[go_sem,Qfu,hy7];intro H3 h3;have kn:Kn H0 H3 E ((B++[(z,.vec 2 (Q7 R))])++[(y7,.st [.int .i64 x.to,.sl false 1 (Qb x.args)])]):=by
      have:=kn.stL (B++[(z,Obj.vec 2 (Q7 R))]).length (x:=y7) (o:=.st [.int .i64 0,.sl true 1 []]) (by simp) h3;simpa using this
     have hy7:H3 y7=.st [.int .i64 x.to,.sl false 1 (Qb x.args)]:=(kn.get (y7,.st [.int .i64 x.to,.sl false 1 (Qb x.args)]) (by simp)).1;have kn:=kn.drop;have hz3:H3 z=.vec 2 (Q7 R):=(kn.get (z,.vec 2 (Q7 R)) (by simp)).1;refine Qa ?_;simp only[go_sem,hy7,Jaa,Jaj,Jaf,J5];refine Q2i (x:=x) (R:=0) (g7 kn).1 (g7 kn).2 (hto x (hRm x hxm)) ?_;simp only[go_sem,Qfv];refine Qd rfl ?_ ?_
     ·intro hc2;refine Qa ?_;simp only[go_sem,hy7,hz3,htk,hil,Qv,hRl,Qau _ _ hiR,PhiD.cells,Jg,Jl];intro H4 h4;have hrow:(Q7 R).set i [.int .i64 x.to,.sl false 1 (Qb x.args)]=Q7 (R.set i x):=Qbex R i x;rw[hrow]at h4;have kn:Kn H0 H4 E (B++[(z,.vec 2 (Q7 (R.set i x)))]):=by
       have:=kn.stL B.length (x:=z) (o:=.vec 2 (Q7 R)) (by simp) h4;simpa using this
      refine Qt ?_;simp only[go_sem];refine⟨Qs (by omega) (by omega),?_⟩;refine hnr _ _ ⟨i+1,R.set i x,by omega,by rw[Jap];exact hRl,fun w hw=>?_,hs2 (by simpa[Q2o]using hc2),kn,rfl,rfl,rfl,rfl⟩;rcases List.mem_or_eq_of_mem_set hw with h|rfl
      ·exact hRm w h
      ·exact hRm w hxm
     ·intro hc2;refine Qg ?_;try simp only[go_sem]
      exact hnr _ _ ⟨i,R,by omega,hRl,hRm,hs3 (by simpa[Q2o]using hc2),kn,rfl,rfl,rfl,rfl⟩
    ·rintro e2 H2 ⟨i2,R2,hi2,hRl2,hRm2,hk12,kn,l0,l1,l5,l6⟩;refine Qt ?_;simp only[go_sem,l0,l1,l5,l6];refine⟨Qs (by omega) (by omega),?_⟩;show ∃m,_;exact⟨l.length-(j+1),by omega,i2,j+1,R2,rfl,hi2,by omega,hRl2,hRm2,hk12,kn,rfl,rfl,rfl,rfl⟩
   ·intro hc;have hje:j=l.length:=(by have:l.length≤j:=(by simpa using hc);omega);refine Qw ?_;try simp only[go_sem,X.next]
    refine Qa ?_;have e5:i+(l.length-i)=l.length:=(by omega);simp only[go_sem,l0,l1,l5,l6,hz,e5,Qv,hRl,Jg,Jl];refine⟨by omega,fun H3 h3=>?_⟩;have kn3:=kn.stL B.length (x:=z) (o:=.vec 2 (Q7 R)) (by simp) h3;have htk2:((Q7 R).take i++List.replicate (l.length-i) [C.int .i64 0,C.sl true 1 []]++(Q7 R).drop l.length).take i=Q7 (R.take i):=by
     rw[J7,List.take_append_of_le_length (by rw[Jp,Qv];omega),List.take_take,Nat.min_self];simp[Q7,List.map_take]
    have hl2:l.length≤((Q7 R).take i++List.replicate (l.length-i) [C.int .i64 0,C.sl true 1 []]++(Q7 R).drop l.length).length:=by
     simp only[Jh,Jp,List.length_replicate,Jab,Qv];omega
    generalize (Q7 R).take i++List.replicate (l.length-i) [C.int .i64 0,C.sl true 1 []]++(Q7 R).drop l.length=R2 at *;have kn:Kn H0 H3 E (B++[(z,.vec 2 R2)]):=(by simpa using kn3);have hz3:H3 z=.vec 2 R2:=(kn.get (z,.vec 2 R2) (by simp)).1;refine Qa ?_;simp only[go_sem,hz3,hl2,Jg,Nat.sub_zero];refine⟨by omega,?_⟩;refine Qk ?_;simp only[go_sem,Q5,Qae,Qd8,Ja,forall_eq,RS.op];have hrl:(Q7 (R.take i)).length=i:=(by rw[Qv,Jp];omega);rw[hje,Ju]at hk1;refine hK (.vsl z 2 0 i) _ H3 ?_ kn;rw[←hk1];exact .inr ⟨z,R2,by rw[hrl],rfl,by rw[hrl];exact htk2⟩
end Go.AE.Y
namespace Go.AE.Y
open Go.Proofs.Tryz
attribute [local instance] Classical.propDecidable
variable {q:CodeD}
noncomputable def kpD (q:CodeD)(b:Nat):Nat→List InsD→List InsD
 |_,[]=>[]
 |k,x::l=>if Qh7 q b k=true then kpD q b (k+1) l else x::kpD q b (k+1) l
theorem Qasp {b:Nat}{l:List InsD}{x:InsD}:∀{k:Nat},kpD q b k (l++[x])=kpD q b k l++if Qh7 q b (k+l.length)=true then []else [x]:=by
 induction l with
 |nil=>intro k;simp[kpD]
 |cons y l ih=>
  intro k;have e:k+(y::l).length=k+1+l.length:=by simp only[Jc];omega
  simp only[Jaa,kpD,e,ih];split <;> simp
theorem kpD_sub {b:Nat}:∀{l:List InsD} {k:Nat},(kpD q b k l).Sublist l
 |[],_=>.slnil
 |x::l,k=>by
  rw[kpD];split
  ·exact (kpD_sub).cons x
  ·exact (kpD_sub).cons_cons x
theorem Qbi0 {b:Nat}:∀{l:List InsD} {k:Nat},(kpD q b k l).length=l.length→kpD q b k l=l∧∀i,i<l.length→Qh7 q b (k+i)=false
 |[],_,_=>⟨rfl,fun i h=>by simp at h⟩
 |x::l,k,h=>by
  rw[kpD]at h⊢;split at h
  ·have:=(kpD_sub (q:=q) (b:=b) (l:=l) (k:=k+1)).length_le;simp only[Jc]at h;omega
  ·rename_i hi
   rw[if_neg hi];simp only[Jc]at h;obtain⟨h1,h2⟩:=Qbi0 (b:=b) (l:=l) (k:=k+1) (by omega);refine⟨by rw[h1],fun i hil=>?_⟩
   cases i with
   |zero=>simpa using hi
   |succ i=>
    have:=h2 i (by simp only[Jc]at hil;omega);have e:k+(i+1)=k+1+i:=(by omega);rw[e];exact this
noncomputable def kpP (q:CodeD)(b:Nat)(l:List PhiD):List PhiD:=l.filter fun f=>decide (f.to.toNat∈Qeo q b 0)
noncomputable def Qg1 (q:CodeD)(b:Nat)(y:BlkD):BlkD:={ y with phis:=kpP q b y.phis,ins:=kpD q b 0 y.ins }
noncomputable def Qaq (q:CodeD):CodeD:={ q with blocks:=q.blocks.mapIdx (Qg1 q) }
theorem Qi6:(Qaq q).blocks.length=q.blocks.length:=by simp[Qaq]
theorem Qx3 {b:Nat}(h:b<q.blocks.length)(h2:b<(Qaq q).blocks.length):(Qaq q).blocks[b]=Qg1 q b q.blocks[b]:=by simp[Qaq]
structure Shr (c d:CodeD):Prop where
 pr:d.params=c.params
 rg:d.regs=c.regs
 bl:d.blocks.length=c.blocks.length
 j:∀b (h1:b<c.blocks.length) (h2:b<d.blocks.length),d.blocks[b].jump=c.blocks[b].jump∧d.blocks[b].on=c.blocks[b].on∧d.blocks[b].next=c.blocks[b].next∧d.blocks[b].ins.Sublist c.blocks[b].ins∧d.blocks[b].phis.Sublist c.blocks[b].phis
theorem Shr.refl (c:CodeD):Shr c c:=⟨rfl,rfl,rfl,fun b h1 h2=>⟨rfl,rfl,rfl,.refl _,.refl _⟩⟩
theorem Shr.trans {c d e:CodeD}(h:Shr c d)(k:Shr d e):Shr c e:=⟨k.pr.trans h.pr,k.rg.trans h.rg,k.bl.trans h.bl,fun b h1 h2=>by
 have hd:b<d.blocks.length:=by rw[h.bl];exact h1
 obtain⟨a1,a2,a3,a4,a5⟩:=h.j b h1 hd;obtain⟨b1,b2,b3,b4,b5⟩:=k.j b hd h2;exact⟨b1.trans a1,b2.trans a2,b3.trans a3,b4.trans a4,b5.trans a5⟩⟩
theorem once_shr:Shr q (Qaq q):=⟨rfl,rfl,Qi6,fun b h1 h2=>by
 rw[Qx3 h1 h2];exact⟨rfl,rfl,rfl,kpD_sub,J2⟩⟩
theorem Shr.next {c d:CodeD}(h:Shr c d):d.blocks.map BlkD.next=c.blocks.map BlkD.next:=Js (by simp[h.bl]) fun b h1 h2=>by
 simp only[Jf]at h1 h2;simp only[Jx];exact (h.j b h2 h1).2.2.1
theorem Shr.gnx {c d:CodeD}(h:Shr c d):gnx d=gnx c:=by funext i;rw[Y.gnx,Y.gnx,h.next]
theorem Shr.cnt {c d:CodeD}(h:Shr c d):Qfc d≤Qfc c∧(Qfc d=Qfc c→∀b (h1:b<c.blocks.length) (h2:b<d.blocks.length),d.blocks[b].ins.length=c.blocks[b].ins.length∧d.blocks[b].phis.length=c.blocks[b].phis.length):=by
 have key:∀m,m≤c.blocks.length→Qfb Qsq (d.blocks.take m)≤Qfb Qsq (c.blocks.take m)∧(Qfb Qsq (d.blocks.take m)=Qfb Qsq (c.blocks.take m)→∀b,b<m→∀(h1:b<c.blocks.length) (h2:b<d.blocks.length),d.blocks[b].ins.length=c.blocks[b].ins.length∧d.blocks[b].phis.length=c.blocks[b].phis.length):=fun m=>by
  induction m with
  |zero=>intro _;exact⟨by simp[Qfb],fun _ b hb=>absurd hb (by omega)⟩
  |succ m ih=>
   intro hm;obtain⟨i1,i2⟩:=ih (by omega);have hc:m<c.blocks.length:=by omega
   have hd:m<d.blocks.length:=by rw[h.bl];exact hc
   obtain⟨_,_,_,s1,s2⟩:=h.j m hc hd;have l1:=s1.length_le;have l2:=s2.length_le;rw[Qdc hc,Qdc hd,Qsq,Qsq];refine⟨by omega,fun he b hb h1 h2=>?_⟩;by_cases hbm:b=m
   ·subst hbm;exact⟨by omega,by omega⟩
   ·exact i2 (by omega) b (by omega) h1 h2
 obtain⟨k1,k2⟩:=key _ (Jl _);have e1:d.blocks.take c.blocks.length=d.blocks:=by rw[←h.bl,Ju]
 have e2:c.blocks.take c.blocks.length=c.blocks:=Ju;rw[e1,e2]at k1 k2;exact⟨k1,fun he b h1 h2=>k2 he b h1 h1 h2⟩
theorem Qbb6 (h:Qfc (Qaq q)=Qfc q):Qaq q=q∧∀b (hb:b<q.blocks.length),∀i,i<q.blocks[b].ins.length→Qh7 q b i=false:=by
 have k:=(once_shr (q:=q)).cnt.2 h;have key:∀b (hb:b<q.blocks.length),Qg1 q b q.blocks[b]=q.blocks[b]∧∀i,i<q.blocks[b].ins.length→Qh7 q b i=false:=fun b hb=>by
  have hd:b<(Qaq q).blocks.length:=by rw[Qi6];exact hb
  obtain⟨k1,k2⟩:=k b hb hd;rw[Qx3 hb hd]at k1 k2;obtain⟨e1,e2⟩:=Qbi0 (q:=q) (b:=b) (l:=q.blocks[b].ins) (k:=0) k1;refine⟨?_,fun i hi=>by have:=e2 i hi;rwa [Jg]at this⟩;have e3:kpP q b q.blocks[b].phis=q.blocks[b].phis:=J2.eq_of_length k2;rw[Qg1,e1,e3]
 refine⟨?_,fun b hb=>(key b hb).2⟩;have:q.blocks.mapIdx (Qg1 q)=q.blocks:=Js (by simp) fun b h1 h2=>by
  rw[List.getElem_mapIdx];exact (key b h2).1
 rw[Qaq,this]
theorem Qbm7 {cs ds:List CodeD}{k b:Nat}{c d:CodeD}{y z:BlkD}(hr:rgOf ds k=rgOf cs k)(hp:∀n,pmOf ds n=pmOf cs n)(hcd:Shr c d)(hj:z.jump=y.jump∧z.on=y.on∧z.next=y.next∧z.ins.Sublist y.ins∧z.phis.Sublist y.phis)
  (g:Qsn cs k b c y=true):Qsn ds k b d z=true:=by
 obtain⟨j1,j2,j3,j4,j5⟩:=hj;have hl:(Qn d.blocks).length=(Qn c.blocks).length:=by rw[Ql,Ql,hcd.bl]
 simp only[Qsn,J9,List.all_eq_true]at g⊢;obtain⟨⟨⟨gj,gn⟩,gi⟩,gp⟩:=g;refine⟨⟨⟨?_,fun x hx=>?_⟩,fun x hx=>?_⟩,fun x hx=>?_⟩
 ·simpa only[Qq7,j1,j2,j3,hcd.rg]using gj
 ·rw[hl];exact gn x (by rw[←j3];exact hx)
 ·have:=gi x (j4.subset hx);simp only[Qx0,insL,hr,hp]at this⊢;exact this
 ·have:=gp x (j5.subset hx);rw[hcd.rg,hcd.next,hl];exact this
theorem Qbc6 {cs ds:List CodeD}(hg:Qbr cs=true)(hl:ds.length=cs.length)(h:∀k (h1:k<cs.length) (h2:k<ds.length),Shr cs[k] ds[k]):Qbr ds=true:=by
 obtain⟨h1,h2,h3⟩:=of_decide_eq_true hg;have hr:∀k,rgOf ds k=rgOf cs k:=fun k=>by
  by_cases hk:k<cs.length
  ·rw[Qtr hk,Qtr (by omega),(h k hk (by omega)).rg]
  ·simp[rgOf,Jz (show cs.length≤k by omega),Jz (show ds.length≤k by omega)]
 have hp:∀k,pmOf ds k=pmOf cs k:=fun k=>by
  by_cases hk:k<cs.length
  ·rw[Qtf hk,Qtf (by omega),(h k hk (by omega)).pr]
  ·simp[pmOf,Jz (show cs.length≤k by omega),Jz (show ds.length≤k by omega)]
 refine decide_eq_true ⟨by omega,fun k hk=>?_,?_⟩
 ·have hc:k<cs.length:=by omega
  have s:=h k hc hk;obtain⟨g1,g2⟩:=h2 k hc;refine⟨by simpa only[Qs7,s.pr,s.rg,s.bl]using g1,fun b hb=>?_⟩;have hb':b<cs[k].blocks.length:=by rw[←s.bl];exact hb
  exact Qbm7 (hr k) hp s (s.j b hb' hb) (g2 b hb')
 ·have key:∀m,m≤cs.length→Qfb Qfc (ds.take m)≤Qfb Qfc (cs.take m):=fun m=>by
   induction m with
   |zero=>intro _;simp[Qfb]
   |succ m ih=>
    intro hm;have i1:=ih (by omega);have hc:m<cs.length:=(by omega);have hd:m<ds.length:=(by omega);rw[Qdc hc,Qdc hd];have:=(h m hc hd).cnt.1;omega
  have:=key _ (Jl _);have e1:ds.take cs.length=ds:=by rw[←hl,Ju]
  rw[e1,Ju]at this;omega
theorem Qa5q {d:CodeD}(h:Qaq d=d):∀n,Nat.repeat Qaq n d=d
 |0=>rfl
 |n+1=>by rw[Nat.repeat,Qa5q h n,h]
theorem Qa5p (q:CodeD):∀n m,Nat.repeat Qaq (m+n) q=Nat.repeat Qaq m (Nat.repeat Qaq n q)
 |n,0=>by rw[Jg];rfl
 |n,m+1=>by rw[Nat.succ_add,Nat.repeat,Qa5p q n m];rfl
theorem Qbpw {n m:Nat}(h1:Qaq (Nat.repeat Qaq n q)=Nat.repeat Qaq n q)(h2:Qaq (Nat.repeat Qaq m q)=Nat.repeat Qaq m q):Nat.repeat Qaq n q=Nat.repeat Qaq m q:=by
 have a:=Qa5p q n m;have b:=Qa5p q m n;rw[Qa5q h1 m]at a;rw[Qa5q h2 n]at b;rw[←a,←b,Nat.add_comm]
theorem Shr.ok {c d:CodeD}(s:Shr c d)(ho:c.ok):d.ok:=by
 have hg:=s.gnx;refine⟨by rw[s.rg];exact ho.r0,by rw[s.rg];exact ho.r1,by rw[s.bl];exact ho.b0,by rw[s.bl];exact ho.b1,fun b hb=>?_,fun b hb=>?_⟩
 ·have hb':b<c.blocks.length:=by rw[←s.bl];exact hb
  obtain⟨g1,g2,g3,g4,g5⟩:=s.j b hb' hb;have o:=ho.bs b hb';have rr:∀v,rIn c v→rIn d v:=fun v hv=>by simp only[rIn,s.rg]at hv⊢;exact hv
  refine⟨by rw[g3];exact o.nxl,fun v hv=>?_,by rw[g1];exact o.jmp,fun hj=>?_,fun x hx v hv=>rr _ (o.args x (g4.subset hx) v hv),fun x hx hm=>rr _ (o.to x (g4.subset hx) hm),
   fun x hx=>rr _ (o.pto x (g5.subset hx)),fun x hx v hv=>rr _ (o.pargs x (g5.subset hx) v hv),fun x hx=>?_,fun x hx=>o.al x (g4.subset hx)⟩
  ·rw[g3]at hv;rw[s.bl];exact o.nx v hv
  ·rw[g1]at hj;rw[g2];exact rr _ (o.on hj)
  ·rw[hg,s.bl];exact o.pal x (g5.subset hx)
 ·have hb':b<c.blocks.length:=by rw[←s.bl];exact hb
  obtain⟨g1,g2,g3,g4,g5⟩:=s.j b hb' hb;have o:=ho.il b hb';have:=g4.length_le;have:=g5.length_le;omega
def Idl (q d:CodeD):Prop:=∃n,d=Nat.repeat Qaq n q∧Qaq d=d
theorem Idl.uniq {d e:CodeD}(h:Idl q d)(k:Idl q e):d=e:=by
 obtain⟨n,rfl,h1⟩:=h;obtain⟨m,rfl,h2⟩:=k;exact Qbpw h1 h2
theorem Qatp:∀n,Shr q (Nat.repeat Qaq n q)
 |0=>.refl q
 |n+1=>(Qatp n).trans once_shr
theorem Idl.shr {d:CodeD}(h:Idl q d):Shr q d:=by
 obtain⟨n,rfl,_⟩:=h;exact Qatp n
theorem Idl.fix {d:CodeD}(h:Idl q d):Qaq d=d:=h.choose_spec.2
end Go.AE.Y
namespace Go.AE.Y
attribute [local instance] Classical.propDecidable
variable {cs:List CodeD}{q:CodeD}
structure IdF (cs:List CodeD)(f f':Fr):Prop where
 k:f.k<cs.length
 b:f.b<(Qm cs f.k).blocks.length
 t:∃i R',i≤(Q9 (Qm cs f.k) f.b).ins.length∧f.todo=(Q9 (Qm cs f.k) f.b).ins.drop i∧f'=⟨f.k,f.b,kpD (Qm cs f.k) f.b i f.todo,R'⟩∧Agr ((Q6 (Qm cs f.k)).LB f.b i) f.regs R'
theorem Qbkc {k:Nat}(hk:k<cs.length):Qm (cs.map Qaq) k=Qaq (Qm cs k):=by
 rw[Qao (by simpa using hk),Qao hk];simp
theorem Qa5j {b:Nat}(hb:b<q.blocks.length):Q9 (Qaq q) b=Qg1 q b (Q9 q b):=by
 rw[Qat (by rw[Qi6];exact hb),Qx3 hb,Qat hb]
theorem Qbud (q:CodeD)(m b:Nat):wayI (Qaq q) m b=wayI q m b:=by rw[wayI,wayI,once_shr.gnx,Qi6]
theorem Qbr5 (hr:RunOk cs){k:Nat}(hk:k<cs.length)(l:List Int):IdF cs (fr0 cs k l) (fr0 (cs.map Qaq) k l):=by
 refine⟨hk,(hr.ok k hk).b0,0,_,Jat _,rfl,?_,rfl,fun _ _=>rfl⟩;rw[fr0,fr0,Qbkc hk,Qa5j (hr.ok k hk).b0];rfl
theorem Qbv5 (ho:q.ok){m:Nat}(p:PhiD):decide (p.to.toNat∈Qeo q m 0)=true↔p.to.toNat<q.regs.toNat∧(Q6 q).LB m 0 p.to.toNat:=by
 rw[decide_eq_true_eq,Qeo,ascL_mem]
theorem Qbig (hr:RunOk cs)(x x':Cf)(hx:RelA (IdF cs) x x'):∃m,m≤1∧RelA (IdF cs) (step cs x) (Qfa (cs.map Qaq) m x'):=by
 cases hx with
 |dn e v s c=>exact⟨0,by omega,.dn ..⟩
 |go s c h1 h2=>
  rename_i f f' fs fs'
  obtain⟨k,b,t,R⟩:=f;obtain⟨hk,hb,i,R',hil,ht,rfl,hA⟩:=h1;change k<cs.length at hk;change b<(Qm cs k).blocks.length at hb;change i≤(Q9 (Qm cs k) b).ins.length at hil;change t=(Q9 (Qm cs k) b).ins.drop i at ht;change Agr ((Q6 (Qm cs k)).LB b i) R R' at hA;have ho:=hr.ok k hk
  cases t with
  |nil=>
   refine⟨1,by omega,?_⟩;show RelA _ (stJ cs k b R fs s c) (stJ (cs.map Qaq) k b R' fs' s c);have hie:(Q9 (Qm cs k) b).ins.length≤i:=by
    have:=congrArg List.length ht;simp only[Je,Jab]at this;omega
   rw[Flo.LB,Qbh7 hb hie]at hA;have hblk:Q9 (Qm (cs.map Qaq) k) b=Qg1 (Qm cs k) b (Q9 (Qm cs k) b):=by rw[Qbkc hk,Qa5j hb]
   by_cases hj:(Q9 (Qm cs k) b).jump=3
   ·rw[Qa3z hj,Qa3z (by rw[hblk];exact hj),hblk];have:rg R' (Qg1 (Qm cs k) b (Q9 (Qm cs k) b)).on=rg R (Q9 (Qm cs k) b).on:=hA.rg (.inr (Qbbp hb (by omega)));rw[this];exact Qbci h2
   ·rw[Qa30 hj,Qa30 (by rw[hblk];exact hj),hblk];obtain⟨v,hv,e,e2⟩:=Qa5i hr hk hb hj R;have hvn:=(ho.bs b hb).nx v (by rw[Qat hb]at hv;exact hv);have e':nxB (Qg1 (Qm cs k) b (Q9 (Qm cs k) b)) R'=nxB (Q9 (Qm cs k) b) R:=by
     have:ixB (Qg1 (Qm cs k) b (Q9 (Qm cs k) b)) R'=ixB (Q9 (Qm cs k) b) R:=by
      rw[ixB,ixB];by_cases h1:(Q9 (Qm cs k) b).jump=2
      ·have:rg R' (Qg1 (Qm cs k) b (Q9 (Qm cs k) b)).on=rg R (Q9 (Qm cs k) b).on:=hA.rg (.inr (Qbbp hb (by omega)));rw[this];rfl
      ·rw[if_neg (fun h=>h1 h.1),if_neg (fun h=>h1 h.1)]
     rw[nxB,nxB,this];rfl
    have hm:v.toNat<(Qm cs k).blocks.length:=(by omega);rw[e',e];refine .go s c ⟨hk,hm,0,phiR R' (wayI (Qm cs k) v.toNat b) ((Q9 (Qm cs k) v.toNat).phis.filter fun p=>decide ((Q6 (Qm cs k)).LB v.toNat 0 p.to.toNat)),Jat _,rfl,?_,?_⟩ h2
    ·rw[frJ,frJ,Qbkc hk,Qa5j hm,Qbud];have:kpP (Qm cs k) v.toNat (Q9 (Qm cs k) v.toNat).phis=(Q9 (Qm cs k) v.toNat).phis.filter fun p=>decide ((Q6 (Qm cs k)).LB v.toNat 0 p.to.toNat):=by
      rw[kpP];refine List.filter_congr fun p hp=>?_;have hpt:=(ho.bs _ hm).pto p (by rw[Qat hm]at hp;exact hp);have hpt2:p.to.toNat<(Qm cs k).regs.toNat:=(by rw[rIn]at hpt;omega);rw[Jag,Qbv5 ho,decide_eq_true_eq];exact⟨fun h=>h.2,fun h=>⟨hpt2,h⟩⟩
     simp only[Qg1,this]
    ·exact Qbba ho hb hm (Jw.2 ⟨v,by rw[Qbid hb];exact hv,rfl⟩) (fun p hp=>decide_eq_true hp) hA
  |cons x t=>
   have hi:i<(Q9 (Qm cs k) b).ins.length:=by
    have:=congrArg List.length ht;simp only[Jc,Jab]at this;omega
   rw[Jn hi]at ht;obtain⟨rfl,rfl⟩:=List.cons.inj ht;have hmem:=Jm hi;rw[Flo.LB,Qbh8 hb hi]at hA;have hip:Qh7 (Qm cs k) b i=Qaml (Qm cs k) b i (Q9 (Qm cs k) b).ins[i]:=by
    have hi':i<(Qm cs k).blocks[b].ins.length:=(by rw[←Qat hb];exact hi);rw[Qasj hb hi'];simp only[Qat hb]
   by_cases hid:Qh7 (Qm cs k) b i=true
   ·refine⟨0,by omega,?_⟩;show RelA _ (stI cs k b _ _ R fs s c) (.go (⟨k,b,kpD _ _ _ (_::_),R'⟩::fs') s c);rw[kpD,if_pos hid];rw[hip,Qaml,J9,Jae,decide_eq_false_iff_not]at hid;obtain⟨hq1,hq2⟩:=hid;obtain⟨m1,m2,m3,m4⟩:=Q09 hq1;have hto:=(ho.bs b hb).to _ (by rw[←Qat hb];exact hmem) m1;have hnl:¬(Q6 (Qm cs k)).beh ((Q6 (Qm cs k)).LO b) b (i+1) (Q9 (Qm cs k) b).ins[i].to.toNat:=fun h=>hq2 (by
     rw[Qeo,ascL_mem];exact⟨by rw[rIn]at hto;omega,h⟩)
    obtain⟨o1,o2,_⟩:=hr.op k b hk _ hmem;have key:∃v,stI cs k b (Q9 (Qm cs k) b).ins[i] ((Q9 (Qm cs k) b).ins.drop (i+1)) R fs s c=.go (⟨k,b,(Q9 (Qm cs k) b).ins.drop (i+1),R.set (Q9 (Qm cs k) b).ins[i].to.toNat v⟩::fs) s c:=by
     rw[stI];generalize (Q9 (Qm cs k) b).ins[i]=x at *;by_cases h1:x.op=1
     ·simp only[h1,if_true];exact⟨_,rfl⟩
     by_cases h2:x.op=2
     ·simp only[h2];exact⟨_,rfl⟩
     simp only[h1,h2,show ¬x.op=11 by omega,show ¬x.op=12 by omega,show ¬x.op=13 by omega,show ¬x.op=14 by omega,if_false];have:∃v,arR x.op (ar R x 0) (ar R x 1)=some v:=by
      rw[arR];simp only[m3,m4,if_false];split
      ·exact⟨_,rfl⟩
      ·split
       ·exact⟨_,rfl⟩
       ·split
        ·exact⟨_,rfl⟩
        ·split
         ·exact⟨_,rfl⟩
         ·split <;> exact⟨_,rfl⟩
     obtain⟨v,hv⟩:=this;exact⟨v,by rw[hv]⟩
    obtain⟨v,hv⟩:=key;rw[hv];exact .go s c ⟨hk,hb,i+1,_,hi,rfl,rfl,hA.left m1 hnl v⟩ h2
   ·refine⟨1,by omega,?_⟩;show RelA _ (stI cs k b _ _ R fs s c) (step (cs.map Qaq) (.go (⟨k,b,kpD _ _ _ (_::_),R'⟩::fs') s c));rw[kpD,if_neg hid];show RelA _ _ (stI (cs.map Qaq) k b _ _ R' fs' s c);refine Qbhq hA (hr.op k b hk _ hmem) (fun T T' hT=>⟨hk,hb,i+1,_,hi,rfl,rfl,hT⟩) (fun h14 l=>?_) h2;exact Qbr5 hr (Nat.lt_trans (hr.call k b hk _ hmem h14) hk) l
def EndsR (cs cs':List CodeD)(l:List Int):Prop:=∀S e v s c,Qfa cs S (cf0 cs l)=.dn e v s c→Qfa cs' S (cf0 cs' l)=.dn e v s c
theorem EndsR.same {cs cs':List CodeD}{l:List Int}(h:EndsR cs cs' l){S:Nat}(hS:S≤60000):Qaa7 cs cs' l S:=by
 rw[Qaa7]
 cases hx:Qfa cs S (cf0 cs l)with
 |go fs s c=>exact .inl (by rw[outR,hx])
 |dn e v s c=>exact .inr (by rw[outR,outR,hx,Q4x cs' (h S e v s c hx) hS])
theorem Qbkd (hr:RunOk cs)(l:List Int):EndsR cs (cs.map Qaq) l:=fun S e v s c h=>by
 have h0:RelA (IdF cs) (cf0 cs l) (cf0 (cs.map Qaq) l):=by
  rw[cf0,cf0,Jf];exact .go _ _ (Qbr5 hr (by have:=hr.n;omega) l) .nil
 obtain⟨m,h1,h2⟩:=sim (R:=RelA (IdF cs)) (Qbig hr) S h0;rw[h]at h2;have:Qfa (cs.map Qaq) m (cf0 (cs.map Qaq) l)=.dn e v s c:=by
  generalize Qfa (cs.map Qaq) m (cf0 (cs.map Qaq) l)=y at h2;cases h2;rfl
 exact Q4x _ this (by omega)
theorem Qbpx {cs:List CodeD}(hg:Qbr cs=true)(n:Nat):Qbr (cs.map (Nat.repeat Qaq n))=true:=
 Qbc6 hg (by simp) fun k h1 h2=>by rw[Jx];exact Qatp n
theorem Qbcj {cs:List CodeD}(hg:Qbr cs=true)(l:List Int):∀n,EndsR cs (cs.map (Nat.repeat Qaq n)) l
 |0=>fun S e v s c h=>by
  have:cs.map (Nat.repeat Qaq 0)=cs:=by
   have:(Nat.repeat Qaq 0:CodeD→CodeD)=id:=rfl;rw[this,List.map_id]
  rw[this];exact h
 |n+1=>fun S e v s c h=>by
  have h1:=Qbcj hg l n S e v s c h;have:=Qbkd (Qad2 (Qbpx hg n)) l S e v s c h1;rw[Jar]at this;exact this
theorem Qbif {cs ds:List CodeD}(hg:Qbr cs=true)(hl:ds.length=cs.length)(h:∀i (h1:i<cs.length) (h2:i<ds.length),Idl cs[i] ds[i])(l:List Int){S:Nat}(hS:S≤60000):Qaa7 cs ds l S:=by
 have key:∀n,n≤cs.length→∃N,∀i (h1:i<cs.length) (h2:i<ds.length),i<n→ds[i]=Nat.repeat Qaq N cs[i]:=by
  intro n
  induction n with
  |zero=>intro _;exact⟨0,fun i _ _ h=>absurd h (by omega)⟩
  |succ n ih=>
   intro hn;obtain⟨N,hN⟩:=ih (by omega);obtain⟨M,hM,hf⟩:=h n (by omega) (by omega);have fixed:∀(d:CodeD),Qaq d=d→∀j,Nat.repeat Qaq j d=d:=fun d hd j=>by
    induction j with
    |zero=>rfl
    |succ j ih=>show Qaq (Nat.repeat Qaq j d)=d;rw[ih,hd]
   have radd:∀(c:CodeD) a j,Nat.repeat Qaq (a+j) c=Nat.repeat Qaq j (Nat.repeat Qaq a c):=fun c a j=>by
    induction j with
    |zero=>rfl
    |succ j ih=>show Qaq (Nat.repeat Qaq (a+j) c)=Qaq (Nat.repeat Qaq j (Nat.repeat Qaq a c));rw[ih]
   refine⟨N+M,fun i h1 h2 hi=>?_⟩;by_cases he:i=n
   ·subst he;rw[Nat.add_comm,radd,←hM,fixed _ hf]
   ·rw[radd,←hN i h1 h2 (by omega),fixed _ (h i h1 h2).fix]
 obtain⟨N,hN⟩:=key cs.length (Jl _);have e:ds=cs.map (Nat.repeat Qaq N):=Js (by simpa using hl) fun i h1 h2=>by
  rw[Jx];exact hN i (by omega) h1 (by omega)
 rw[e];exact (Qbcj hg l N).same hS
end Go.AE.Y
namespace Go.AE
variable {H0 H H':Heap}{E L B Lg:List (Nat×Obj)}
theorem Kn.freezeL {gl:Nat}{og og':Obj}(kn:Kn H0 H E (B++Lg))(i:Nat)(hB:B[i]? = some (gl,og))(hO:FrzO H (fun m=>(Lg.map Prod.fst).contains m) og og')(hn:og'≠.none) :
  FrzH H (fun m=>(Lg.map Prod.fst).contains m) ((H.frz fun m=>(Lg.map Prod.fst).contains m).set gl og')∧Kn H0 ((H.frz fun m=>(Lg.map Prod.fst).contains m).set gl og') E (B.set i (gl,og')):=by
 have hd:=kn.dL;rw[J6]at hd;obtain⟨d1,d2,d3⟩:=Jam.1 hd;have keyB:∀m,m∉Lg.map Prod.fst→(Lg.map Prod.fst).contains m=false:=fun m hm=>by
  cases hc:(Lg.map Prod.fst).contains m with
  |false=>rfl
  |true=>exact absurd (J8.1 hc) hm
 have key:∀m,m∉Lg.map Prod.fst→(H.frz fun m=>(Lg.map Prod.fst).contains m) m=H m:=fun m hm=>by
  simp only[Heap.frz,keyB m hm];rfl
 have hgl:gl∉Lg.map Prod.fst:=fun hh=>d3 _ (Qa6 (Jak hB)) _ hh rfl;have hH:H gl=og:=(kn.get (gl,og) (Jb _ (Jj _ (Jak hB)))).1;refine⟨(Qd1 _ _).set (keyB gl hgl) (by rw[hH];exact hO),?_⟩;have kn1:Kn H0 (H.frz fun m=>(Lg.map Prod.fst).contains m) E B:=by
  refine⟨fun p hp=>?_,kn.ext,fun p hp=>kn.loc p (Jj _ hp),kn.dE,d1,fun m hm hx=>?_⟩
  ·have hg:H p.1=p.2∧p.2≠.none:=kn.get p (by
    rcases Jr.1 hp with h|h
    ·exact Jj _ h
    ·exact Jb _ (Jj _ h))
   refine⟨?_,hg.2⟩;rw[key p.1 (fun hh=>?_)];exact hg.1;rcases Jr.1 hp with h|h
   ·obtain⟨r,hr,he⟩:=Jw.1 hh;exact kn.ext p h (he▸kn.loc r (Jb _ hr))
   ·exact d3 _ (Qa6 h) _ hh rfl
  ·rw[key m (fun hh=>?_)]
   ·exact kn.chg m hm hx
   ·obtain⟨r,hr,he⟩:=Jw.1 hh;exact hm (he▸kn.loc r (Jb _ hr))
 exact kn1.setL i hB hn
end Go.AE
namespace Go.AE.Y
attribute [local go_sem] cond_true cond_false Bool.not_true Bool.not_false
open Go.Proofs.Tryz
variable {H H0 F:Heap}{K:V→Heap→Prop}{E L B:List (Nat×Obj)}{q:CodeD}
structure DBlk where
 y:BlkD
 pc:C
 pl:List (Nat×Obj)
 ic:C
 il:List (Nat×Obj)
def DBlk.row (d:DBlk):List C:=[d.pc,d.ic,.int .i64 d.y.jump,.int .i64 d.y.on,.sl false 1 (Qb d.y.next)]
def DBlk.lg (d:DBlk):List (Nat×Obj):=d.pl++d.il
structure DBlk.ok (d:DBlk):Prop where
 p:Gw d.pl 2 (Q7 d.y.phis) d.pc
 i:Gr d.il 4 (Qag d.y.ins) d.ic
theorem Gw.frzM {Lg:List (Nat×Obj)}{S:Nat→Bool}{sz:Nat}{rows:List (List C)}{c:C}(h:Gw Lg sz rows c)(hm:∀p∈Lg,H p.1=p.2∧S p.1=true)(hr:∀r∈rows,noOw r=true):FrzC H S c (.sl false sz rows):=by
 rcases h with ⟨rfl,rfl,_⟩|⟨y,R,rfl,rfl,hR⟩
 ·exact FrzR.nil.sl
 ·have hle:rows.length≤R.length:=by
   have:=congrArg List.length hR;rw[Jp]at this;omega
  obtain⟨h1,h2⟩:=hm (y,.vec sz R) (by simp);have h:=FrzR.same (H:=H) (S:=S) hr;exact .vsl y sz 0 _ R rows rows h2 h1 (by omega) (by simpa using hR.symm) h.spec.1 (fun i r r' h1 h2=>(h.spec.2 i r r' h1 h2).spec.1) fun i r r' j c c' h1 h2 h3 h4=>(h.spec.2 i r r' h1 h2).spec.2 j c c' h3 h4
theorem DBlk.frzR {S:Nat→Bool}:∀{ds:List DBlk},(∀d∈ds,d.ok)→(∀d∈ds,∀p∈d.lg,H p.1=p.2∧S p.1=true)→FrzR H S (ds.map DBlk.row) (Qn (ds.map DBlk.y))
 |[],_,_=>.nil
 |d::ds,h,hm=>.cons (.cons ((h d Jy).p.frzM (fun p hp=>hm d Jy p (Jj _ hp)) (Q07 _))
   (.cons (Gr.frzM (h d Jy).i (fun p hp=>hm d Jy p (Jb _ hp)) (FrzR.same (Qed _)))
   (.cons (Qi rfl) (.cons (Qi rfl) (.cons (Q5m (noOw_mem (Qz _))) .nil)))))
   (DBlk.frzR (fun d hd=>h d (Jac _ hd)) fun d hd=>hm d (Jac _ hd))
theorem CodeD.ok.fts (h:q.ok):q.fits:=fun y hy=>by
 obtain⟨b,hb,rfl⟩:=J0.1 hy;have:=h.il b hb;omega
theorem CodeD.ok.cl (h:q.ok):∀y∈q.blocks,y.cl:=fun y hy=>by
 obtain⟨b,hb,rfl⟩:=J0.1 hy;have h1:=h.il b hb;have h2:=h.bs b hb;have h3:=h2.nxl;have h4:=h.b1;refine⟨by omega,by omega,by simp only[LIM];omega,fun x hx=>?_,fun x hx=>?_⟩
 ·have:=h2.al x hx;simp only[LIM];omega
 ·have:=h2.pal x hx;have h5:=Qi7 (gnx q) (b:Int) q.blocks.length;simp only[LIM];omega
theorem Qbsb {ds ks:List (List C)}{r:List C}{n:Nat}(hn:n=ds.length):(ds++r::ks).getD n []=r:=by subst hn;simp
theorem Qbkq {ds ks:List (List C)}{r r':List C}{n:Nat}(hn:n=ds.length):(ds++r::ks).set n r'=ds++r'::ks:=by subst hn;simp
set_option maxHeartbeats 8000000 in
theorem Qbd0 {q0:CodeD}{fl0:Bool}(ho:q0.ok)
  (hK:∀(d:CodeD) H',Idl q0 d→Upd H H' []→K (.ag d.cells) H') :
  Qr prog Qcr [.ag [.int .i64 q0.params,.int .i64 q0.regs,.sl fl0 5 (Qn q0.blocks)]] H K:=by
 refine Q3 ?_;refine Qc Qal Qamv ?_;refine Qa ?_;simp only[go_sem];intro x1 hx1 H1 h1;have kn:=(Kn.start0 H).al hx1 h1;intro x2 hx2 H2 h2;have kn:=kn.al hx2 h2;refine Qe (Qx (fun m e1 H1=>∃(q:CodeD) (fl:Bool),m=Qfc q∧q.ok∧(∃n,q=Nat.repeat Qaq n q0)∧
  Kn H H1 [] [(x1,.st [.int .i64 q.params,.int .i64 q.regs,.sl fl 5 (Qn q.blocks)]),(x2,.st [.int .i64 0,.int .i64 0,.sl true 5 []])]∧
  lk 1 e1=.c (.ptr x1 0)∧lk 2 e1=.c (.ptr x2 0)) (Qfc q0) ?_ ?_)
 ·exact⟨q0,fl0,rfl,ho,⟨0,rfl⟩,kn,rfl,rfl⟩
 rintro m e1 H1 ⟨q,fl,hm,hqo,hrep,kn,l1,l2⟩;have hb0:=hqo.b0;have hb1:=hqo.b1;have hx1:=kn.l 0 rfl;refine Qe ?_;refine Qaj ?_;simp only[go_sem,l1,l2,hx1];refine Qbbz hqo kn fun l yi yp ss pr H2 him hlv kn=>?_;have hx1:H2 x1=.st [.int .i64 q.params,.int .i64 q.regs,.sl fl 5 (Qn q.blocks)]:=(kn.get (x1,.st [.int .i64 q.params,.int .i64 q.regs,.sl fl 5 (Qn q.blocks)]) (by simp)).1;simp only[go_sem,Qm2,l1,l2,hx1];refine Qa4i (q:=q) (by omega) hqo.cl fun ks bc bl H3 hky hko hgr k2=>?_;have kn:=kn.comp0 k2;have hbw:=hgr.isOw;have hx1:H3 x1=.st [.int .i64 q.params,.int .i64 q.regs,.sl fl 5 (Qn q.blocks)]:=(kn.get (x1,.st [.int .i64 q.params,.int .i64 q.regs,.sl fl 5 (Qn q.blocks)]) (by simp)).1;have hkl:ks.length=q.blocks.length:=by rw[←hky,Jf]
 obtain⟨zb,rfl,rfl⟩:∃z,bc=.vsl z 5 0 q.blocks.length∧bl=[(z,.vec 5 (ks.map KBlk.row))]:=by
  rcases hgr with ⟨_,h,_⟩|⟨y,h1,h2⟩
  ·have:=congrArg List.length h;simp only[Jf,Je]at this;omega
  ·exact⟨y,by rw[h1,Jf,hkl],h2⟩
 simp only[go_sem,Qm1,l1,l2,hx1];intro x4 hx4 H4 h4;have kn:=kn.al hx4 h4;have hx1:H4 x1=.st [.int .i64 q.params,.int .i64 q.regs,.sl fl 5 (Qn q.blocks)]:=(kn.get (x1,.st [.int .i64 q.params,.int .i64 q.regs,.sl fl 5 (Qn q.blocks)]) (by simp)).1;have hx4:H4 x4=.st [.int .i64 0,.int .i64 0,.sl true 5 []]:=(kn.get (x4,.st [.int .i64 0,.int .i64 0,.sl true 5 []]) (by simp)).1;simp only[go_sem,Qm0,l1,l2,hx1,hx4];intro H5 h5;have kn:Kn H H5 [] (imE q fl l yi yp ss pr++([(x1,.st [.int .i64 q.params,.int .i64 q.regs,.sl fl 5 (Qn q.blocks)])]++([(x2,.st [.int .i64 0,.int .i64 0,.sl true 5 []])]++([(x4,.st [.int .i64 q.params,.int .i64 q.regs,.vsl zb 5 0 q.blocks.length])]++
   ([(zb,.vec 5 (ks.map KBlk.row))]++ks.flatMap KBlk.pl))))):=by
  have k3:=(kn.perm (Jk)).stL 0 rfl h5;exact k3.perm (Qp fun f hf h0 hc hp=>by
   have e:∀(a b:Nat×Obj),f [a,b]=f [a]+f [b]:=fun a b=>hc a [b];show f ([(x4,_)]++_)=_;simp only[hf,e];omega)
 clear hx4 h5 hx1 hgr;refine Qaa ?_;refine Qa ?_;have hx4:H5 x4=.st [.int .i64 q.params,.int .i64 q.regs,.vsl zb 5 0 q.blocks.length]:=(kn.get (x4,.st [.int .i64 q.params,.int .i64 q.regs,.vsl zb 5 0 q.blocks.length]) (by simp)).1;have hzb:H5 zb=.vec 5 (ks.map KBlk.row):=(kn.get (zb,.vec 5 (ks.map KBlk.row)) (by simp)).1;simp only[go_sem,hx4,hzb,Jf,hkl,Jg,Jl];try intro _
 refine Qh (Qe (Qx (fun m2 e1 H1=>∃(ds:List DBlk) (ks:List KBlk),m2=ks.length∧ds.length+ks.length=q.blocks.length∧ks.map KBlk.y=q.blocks.drop ds.length∧(∀d∈ds,d.ok)∧(∀b∈ks,b.ok)∧
  (∀i (h1:i<q.blocks.length) (h2:i<ds.length),ds[i].y=Qg1 q i q.blocks[i])∧
  Kn H H1 [] (imE q fl l yi yp ss pr++([(x1,.st [.int .i64 q.params,.int .i64 q.regs,.sl fl 5 (Qn q.blocks)])]++([(x2,.st [.int .i64 0,.int .i64 0,.sl true 5 []])]++([(x4,.st [.int .i64 q.params,.int .i64 q.regs,.vsl zb 5 0 q.blocks.length])]++
   ([(zb,.vec 5 (ds.map DBlk.row++ks.map KBlk.row))]++(ds.flatMap DBlk.lg++ks.flatMap KBlk.pl))))))∧
  lk 1 e1=.c (.ptr x1 0)∧lk 2 e1=.c (.ptr x2 0)∧lk 3 e1=.c (.ptr l 0)∧lk 4 e1=.c (.ptr x4 0)∧lk 17 e1=.c (.int .i64 q.blocks.length)∧lk 18 e1=.c (.int .i64 ds.length)) q.blocks.length ?_ ?_))
 ·exact⟨[],ks,by omega,by simpa using hkl,by simpa using hky,by simp,hko,by simp,kn,rfl,rfl,rfl,rfl,rfl,rfl⟩
 ·clear hx4 hzb hko hky hkl l1 l2;rintro m2 e2 H6 ⟨ds,ks,hm2,hlen,hky,hdo,hko,hdr,kn,l1,l2,l3,l4,l17,l18⟩;refine Qa ?_;simp only[go_sem,l1,l2,l3,l4,l17,l18];refine Qh (Qd rfl ?_ ?_)
  ·intro hc;have hlt:ds.length<q.blocks.length:=by simpa using hc
   obtain⟨k,ks',rfl⟩:∃k ks',ks=k::ks':=by
    cases ks with
    |nil=>simp at hlen;omega
    |cons k ks'=>exact⟨k,ks',rfl⟩
   simp only[Jc]at hlen hm2;have hdrop:q.blocks.drop ds.length=q.blocks[ds.length]::q.blocks.drop (ds.length+1):=Jn hlt;rw[hdrop,Jaf]at hky;obtain⟨hy,hky'⟩:=List.cons.inj hky;have hkok:=hko k Jy;have hil:=hqo.il ds.length hlt;have hyo:=hqo.bs ds.length hlt;have hpw:=KBlk.noOw hkok;have hpw2:=hkok.isOw;obtain⟨y,hy2⟩:∃y,k.y=y:=⟨_,rfl⟩;rw[hy2]at hy;rw[←hy]at hil hyo;refine Qg ?_;try simp only[go_sem]
   refine Qd3 (fun e2 H2=>∃(d:DBlk),d.ok∧d.y=Qg1 q ds.length y∧Kn H H2 [] (imE q fl l yi yp ss pr++([(x1,.st [.int .i64 q.params,.int .i64 q.regs,.sl fl 5 (Qn q.blocks)])]++([(x2,.st [.int .i64 0,.int .i64 0,.sl true 5 []])]++([(x4,.st [.int .i64 q.params,.int .i64 q.regs,.vsl zb 5 0 q.blocks.length])]++
    ([(zb,.vec 5 (ds.map DBlk.row++d.row::ks'.map KBlk.row))]++(ds.flatMap DBlk.lg++d.lg++ks'.flatMap KBlk.pl))))))∧
    lk 1 e2=.c (.ptr x1 0)∧lk 2 e2=.c (.ptr x2 0)∧lk 3 e2=.c (.ptr l 0)∧lk 4 e2=.c (.ptr x4 0)∧lk 17 e2=.c (.int .i64 q.blocks.length)∧lk 18 e2=.c (.int .i64 ds.length)) ?_ ?_
   ·intro Q hnr _ _;refine Qe ?_;refine Qa ?_;simp only[go_sem,l1,l2,l3,l4,l17,l18];have rlen:∀(r:List C),(ds.map DBlk.row++r::ks'.map KBlk.row).length=q.blocks.length:=fun r=>by
     simp only[Jh,Jc,Jf];omega
    have rtake:∀(r:List C),(ds.map DBlk.row++r::ks'.map KBlk.row).take q.blocks.length=ds.map DBlk.row++r::ks'.map KBlk.row:=fun r=>Ji (by rw[rlen];omega);have rget:∀(r:List C),(ds.map DBlk.row++r::ks'.map KBlk.row).getD ds.length []=r:=fun r=>Qbsb (by rw[Jf]);have rset:∀(r r':List C),(ds.map DBlk.row++r::ks'.map KBlk.row).set ds.length r'=ds.map DBlk.row++r'::ks'.map KBlk.row:=fun r r'=>Qbkq (by rw[Jf]);generalize hRD:ds.map DBlk.row=RD at *;generalize hRK:ks'.map KBlk.row=RK at *;have er:k.row=[k.pc,.sl false 4 (Qag y.ins),.int .i64 y.jump,.int .i64 y.on,.sl false 1 (Qb y.next)]:=(by rw[KBlk.row,kRow,hy2]);have hkok:Gr k.pl 2 (Q7 y.phis) k.pc:=(by rw[←hy2];exact hkok);rw[Jaf,hRK,er,Jal]at kn;obtain⟨pc,hpc⟩:∃pc,k.pc=pc:=⟨_,rfl⟩;obtain⟨pl,hpl⟩:∃pl,k.pl=pl:=⟨_,rfl⟩;rw[hpc]at kn hkok hpw2;rw[hpl]at kn hkok;have hx4:H6 x4=.st [.int .i64 q.params,.int .i64 q.regs,.vsl zb 5 0 q.blocks.length]:=(kn.get (x4,.st [.int .i64 q.params,.int .i64 q.regs,.vsl zb 5 0 q.blocks.length]) (by simp)).1;have hzb:H6 zb=.vec 5 (RD++[pc,.sl false 4 (Qag y.ins),.int .i64 y.jump,.int .i64 y.on,.sl false 1 (Qb y.next)]::RK):=(kn.get (zb,.vec 5 (RD++[pc,.sl false 4 (Qag y.ins),.int .i64 y.jump,.int .i64 y.on,.sl false 1 (Qb y.next)]::RK)) (by simp)).1;refine Qa ?_;simp only[go_sem,hx4,hzb,rlen,hlt,Jg,Jl];refine Qa ?_;simp only[go_sem];refine Qadq (F:=H6) hqo hlt (by omega) (by rw[←hy];omega) him kn.mid fun M ver nk H7 hnd hlt3 hks k2=>?_;have kn:=kn.comp k2 rfl;simp only[go_sem,Qm4];intro x7 hx7 H8 h8;have kn:=kn.al hx7 h8;have hx7:H8 x7=.st [.mnil]:=(kn.get (x7,.st [.mnil]) (by simp)).1;simp only[go_sem,Qm3,hx7];intro H9 h9;obtain⟨R0,hR0⟩:∃R0,[(x1,Obj.st [.int .i64 q.params,.int .i64 q.regs,.sl fl 5 (Qn q.blocks)])]++([(x2,Obj.st [.int .i64 0,.int .i64 0,.sl true 5 []])]++[(x4,Obj.st [.int .i64 q.params,.int .i64 q.regs,.vsl zb 5 0 q.blocks.length])])=R0:=⟨_,rfl⟩;have kn:Kn H H9 [] (([(x7,.st [.mp M])]++([(M,.map ver (Qas nk))]++(imE q fl l yi yp ss pr++(R0++([(zb,.vec 5 (RD++[pc,.sl false 4 (Qag y.ins),.int .i64 y.jump,.int .i64 y.on,.sl false 1 (Qb y.next)]::RK))]++(ds.flatMap DBlk.lg++ks'.flatMap KBlk.pl))))))++pl):=by
     have k3:=(kn.perm (Jk)).stL 0 rfl h9;refine k3.perm (Qp fun f hf h0 hc hp=>?_);show f ([(x7,_)]++_)=_;rw[←hR0];simp only[hf];omega
    have hzb:H9 zb=.vec 5 (RD++[pc,.sl false 4 (Qag y.ins),.int .i64 y.jump,.int .i64 y.on,.sl false 1 (Qb y.next)]::RK):=(kn.get (zb,.vec 5 (RD++[pc,.sl false 4 (Qag y.ins),.int .i64 y.jump,.int .i64 y.on,.sl false 1 (Qb y.next)]::RK)) (by simp)).1;refine Qa ?_;simp only[go_sem,hzb,rlen,rtake,rget,hlt,hpw2,Jg,Jl];refine Qa4a (x7:=x7) (M:=M) (ver:=ver) (ks:=nk) kn hkok (by omega) (by simp) (by simp) (fun x hx=>(hyo.pto x hx).1) fun pc' pl' H10 hgw kn=>?_;have hph:y.phis.filter (Q2o nk)=kpP q ds.length y.phis:=by
     refine List.filter_congr fun f hf=>?_;have hin:=hyo.pto f hf;simp only[rIn]at hin;have hiff:f.to.toNat∈nk↔f.to.toNat∈Qeo q ds.length 0:=by
      rw[hks,Qeo,ascL_mem];have hLB:=Flo.beh_congr (F:=Q6 q) (fun r=>Flo.outT_congr hqo.fitsF hlv hlt r) ds.length 0 f.to.toNat;exact⟨fun h=>⟨by omega,hLB.1 h⟩,fun h=>hLB.2 h.2⟩
     simp only[Q2o,decide_eq_decide];exact hiff
    rw[hph]at hgw;have hpw3:=hgw.isOw;have hzb:H10 zb=.vec 5 (RD++[pc,.sl false 4 (Qag y.ins),.int .i64 y.jump,.int .i64 y.on,.sl false 1 (Qb y.next)]::RK):=(kn.get (zb,.vec 5 (RD++[pc,.sl false 4 (Qag y.ins),.int .i64 y.jump,.int .i64 y.on,.sl false 1 (Qb y.next)]::RK)) (by simp)).1;simp only[go_sem,Qm5,hzb,rlen,rtake,rget,rset,hlt,hpw2,hpw3,Jg,Jl];intro H11 h11;have kn:Kn H H11 [] (imE q fl l yi yp ss pr++(R0++([(zb,.vec 5 (RD++[pc',.sl false 4 (Qag y.ins),.int .i64 y.jump,.int .i64 y.on,.sl false 1 (Qb y.next)]::RK))]++(ds.flatMap DBlk.lg++(pl'++ks'.flatMap KBlk.pl))))++[]):=by
     have k3:=(kn.perm (L':=[(zb,.vec 5 (RD++[pc,.sl false 4 (Qag y.ins),.int .i64 y.jump,.int .i64 y.on,.sl false 1 (Qb y.next)]::RK))]++(imE q fl l yi yp ss pr++(R0++(ds.flatMap DBlk.lg++(pl'++ks'.flatMap KBlk.pl)))++([(x7,.st [.mp M])]++[(M,.map ver (Qas nk))])))
      (Qp fun f hf h0 hc hp=>by simp only[hf];omega)).stL 0 rfl h11
     refine Kn.drop (B:=[(x7,.st [.mp M])]++[(M,.map ver (Qas nk))]) (k3.perm (Qp fun f hf h0 hc hp=>?_));show f ([(zb,_)]++_)=_;simp only[hf,h0];omega
    have hzb:H11 zb=.vec 5 (RD++[pc',.sl false 4 (Qag y.ins),.int .i64 y.jump,.int .i64 y.on,.sl false 1 (Qb y.next)]::RK):=(kn.get (zb,.vec 5 (RD++[pc',.sl false 4 (Qag y.ins),.int .i64 y.jump,.int .i64 y.on,.sl false 1 (Qb y.next)]::RK)) (by simp)).1;refine Qa ?_;simp only[go_sem];refine Qaa ?_;refine Qa ?_;simp only[go_sem,hzb,rlen,rtake,rget,hlt,hpw3,Q4,Jg,Jl];try intro _
    refine Qh (Qe (Qx (fun m3 e1 H1=>∃(i:Nat) (lf:List InsD) (t:C) (Lg:List (Nat×Obj)),m3=y.ins.length-i∧i≤y.ins.length∧lf=kpD q ds.length 0 (y.ins.take i)∧lf.length≤i∧Gr Lg 4 (Qag lf) t∧
     Kn H H1 [] (imE q fl l yi yp ss pr++(R0++([(zb,.vec 5 (RD++[pc',.sl false 4 (Qag y.ins),.int .i64 y.jump,.int .i64 y.on,.sl false 1 (Qb y.next)]::RK))]++(ds.flatMap DBlk.lg++(pl'++ks'.flatMap KBlk.pl))))++Lg)∧
     lk 1 e1=.c (.ptr x1 0)∧lk 2 e1=.c (.ptr x2 0)∧lk 3 e1=.c (.ptr l 0)∧lk 4 e1=.c (.ptr x4 0)∧lk 5 e1=.c (.int .i64 ds.length)∧lk 6 e1=.c (.ep (.vsl zb 5 0 q.blocks.length) 5 ds.length 0)∧lk 8 e1=.c t∧
     lk 17 e1=.c (.int .i64 q.blocks.length)∧lk 18 e1=.c (.int .i64 ds.length)∧lk 40 e1=.c (.sl false 4 (Qag y.ins))∧lk 41 e1=.c (.int .i64 y.ins.length)∧lk 42 e1=.c (.int .i64 i)) y.ins.length ?_ ?_))
    ·exact⟨0,[],_,[],by omega,by omega,by simp[kpD],by simp,.nil 4,kn,rfl,rfl,rfl,rfl,rfl,rfl,rfl,rfl,rfl,rfl,rfl,rfl⟩
    ·clear kn hzb;rintro m3 e3 H12 ⟨i,lf,t,Lg,hm3,hi,hlf,hcnt2,hgr,kn,l1,l2,l3,l4,l5,l6,l8,l17,l18,l40,l41,l42⟩;have htw:=hgr.isOw;refine Qa ?_;simp only[go_sem,l1,l2,l3,l4,l5,l6,l8,l17,l18,l40,l41,l42,htw];refine Qh (Qd rfl ?_ ?_)
     ·intro hc3;have hilt:i<y.ins.length:=(by simpa using hc3);obtain⟨x,hx⟩:∃x,y.ins[i]=x:=⟨_,rfl⟩;have htake:y.ins.take (i+1)=y.ins.take i++[x]:=(by rw[Jd hilt,hx]);have htl:(y.ins.take i).length=i:=(by rw[Jp];omega);refine Qg ?_;try simp only[go_sem]
      refine Qd3 (fun e1 H1=>∃(lf:List InsD) (t:C) (Lg:List (Nat×Obj)),lf=kpD q ds.length 0 (y.ins.take (i+1))∧lf.length≤i+1∧Gr Lg 4 (Qag lf) t∧
       Kn H H1 [] (imE q fl l yi yp ss pr++(R0++([(zb,.vec 5 (RD++[pc',.sl false 4 (Qag y.ins),.int .i64 y.jump,.int .i64 y.on,.sl false 1 (Qb y.next)]::RK))]++(ds.flatMap DBlk.lg++(pl'++ks'.flatMap KBlk.pl))))++Lg)∧
       lk 1 e1=.c (.ptr x1 0)∧lk 2 e1=.c (.ptr x2 0)∧lk 3 e1=.c (.ptr l 0)∧lk 4 e1=.c (.ptr x4 0)∧lk 5 e1=.c (.int .i64 ds.length)∧lk 6 e1=.c (.ep (.vsl zb 5 0 q.blocks.length) 5 ds.length 0)∧lk 8 e1=.c t∧
       lk 17 e1=.c (.int .i64 q.blocks.length)∧lk 18 e1=.c (.int .i64 ds.length)∧lk 40 e1=.c (.sl false 4 (Qag y.ins))∧lk 41 e1=.c (.int .i64 y.ins.length)∧lk 42 e1=.c (.int .i64 i)) ?_ ?_
      ·intro Q2 hnr2 _ _;refine Qe ?_;refine Qa ?_;simp only[go_sem,l1,l2,l3,l4,l5,l6,l8,l17,l18,l40,l41,l42,htw,hilt,Q4,Qbd _ _ hilt,InsD.take4,InsD.allOw,InsD.len4,hx,InsD.cells];intro x10 hx10 H13 h13;have kn:=kn.al hx10 h13;have hx10:H13 x10=.st [.int .i64 0,.int .i64 0,.sl true 1 [],.int .i64 0]:=(kn.get (x10,.st [.int .i64 0,.int .i64 0,.sl true 1 [],.int .i64 0]) (by simp)).1;simp only[go_sem,Qm6,hx10,l1,l2,l3,l4,l5,l6,l8,l17,l18,l40,l41,l42,htw];intro H14 h14;have kn:Kn H H14 [] (imE q fl l yi yp ss pr++((R0++([(zb,.vec 5 (RD++[pc',.sl false 4 (Qag y.ins),.int .i64 y.jump,.int .i64 y.on,.sl false 1 (Qb y.next)]::RK))]++(ds.flatMap DBlk.lg++(pl'++ks'.flatMap KBlk.pl))))++([(x10,.st [.int .i64 x.op,.int .i64 x.to,.sl false 1 (Qb x.args),.int .i64 x.n])]++Lg))):=by
        have k3:=(kn.perm (Jk)).stL 0 rfl h14;refine k3.perm (Qp fun f hf h0 hc hp=>?_);show f ([(x10,_)]++_)=_;simp only[hf];omega
       refine Qa ?_;simp only[go_sem,htw];refine Qbnx (F:=H14) hqo hlt (by rw[←hy];exact hilt) him hlv kn.mid fun H15 k2=>?_;have kn:=kn.comp k2 rfl;have hx10:H15 x10=.st [.int .i64 x.op,.int .i64 x.to,.sl false 1 (Qb x.args),.int .i64 x.n]:=(kn.get (x10,.st [.int .i64 x.op,.int .i64 x.to,.sl false 1 (Qb x.args),.int .i64 x.n]) (by simp)).1;simp only[go_sem,Qm7,htw];refine Qd rfl ?_ ?_
       ·intro hc4;have hid:Qh7 q ds.length i=false:=(by simpa using hc4);refine Qt ?_;simp only[go_sem,hx10,htw];have kn:=kn.perm (L':=(imE q fl l yi yp ss pr++(R0++([(zb,.vec 5 (RD++[pc',.sl false 4 (Qag y.ins),.int .i64 y.jump,.int .i64 y.on,.sl false 1 (Qb y.next)]::RK))]++(ds.flatMap DBlk.lg++(pl'++ks'.flatMap KBlk.pl))))++Lg)++[(x10,.st [.int .i64 x.op,.int .i64 x.to,.sl false 1 (Qb x.args),.int .i64 x.n])]) (Qp fun f hf h0 hc hp=>by
         simp only[hf,h0];omega)
        refine kn.drop.growR (new:=Qag [x]) hgr (.mk' _ _ _ _) (Qed _) (by simp only[Q4,LIM,Jc,Je];omega) fun t2 Lg2 H16 hgr2 ht2 kn=>?_;simp only[go_sem,Qm8,ht2];refine hnr2 _ _ ⟨lf++[x],t2,Lg2,?_,?_,?_,kn,rfl,rfl,rfl,rfl,rfl,rfl,rfl,rfl,rfl,rfl,rfl,rfl⟩
        ·rw[htake,Qasp,htl,Jg,hid,hlf];simp
        ·simp only[Jh,Jc,Je];omega
        ·have:Qag (lf++[x])=Qag lf++Qag [x]:=(by simp[Qag]);rw[this];exact hgr2
       ·intro hc4;have hid:Qh7 q ds.length i=true:=(by simpa using hc4);have kn:=kn.perm (L':=(imE q fl l yi yp ss pr++(R0++([(zb,.vec 5 (RD++[pc',.sl false 4 (Qag y.ins),.int .i64 y.jump,.int .i64 y.on,.sl false 1 (Qb y.next)]::RK))]++(ds.flatMap DBlk.lg++(pl'++ks'.flatMap KBlk.pl))))++Lg)++[(x10,.st [.int .i64 x.op,.int .i64 x.to,.sl false 1 (Qb x.args),.int .i64 x.n])]) (Qp fun f hf h0 hc hp=>by
         simp only[hf,h0];omega)
        refine Qg ?_;try simp only[go_sem]
        refine hnr2 _ _ ⟨lf,t,Lg,?_,by omega,hgr,kn.drop,rfl,rfl,rfl,rfl,rfl,rfl,rfl,rfl,rfl,rfl,rfl,rfl⟩;rw[htake,Qasp,htl,Jg,hid,hlf];simp
      ·rintro e4 H13 ⟨lf2,t2,Lg2,hlf2,hcnt3,hgr2,kn,l1,l2,l3,l4,l5,l6,l8,l17,l18,l40,l41,l42⟩;have ht2:=hgr2.isOw;refine Qt ?_;simp only[go_sem,l1,l2,l3,l4,l5,l6,l8,l17,l18,l40,l41,l42,ht2];refine⟨Qs (by omega) (by omega),?_⟩;show ∃m,_;exact⟨y.ins.length-(i+1),by omega,i+1,lf2,t2,Lg2,rfl,by omega,hlf2,hcnt3,hgr2,kn,rfl,rfl,rfl,rfl,rfl,rfl,rfl,rfl,rfl,rfl,rfl,rfl⟩
     ·intro hc3;have hie:i=y.ins.length:=(by have:y.ins.length≤i:=(by simpa using hc3);omega);subst hie;refine Qw ?_;simp only[go_sem,X.next];have hzb:H12 zb=.vec 5 (RD++[pc',.sl false 4 (Qag y.ins),.int .i64 y.jump,.int .i64 y.on,.sl false 1 (Qb y.next)]::RK):=(kn.get (zb,.vec 5 (RD++[pc',.sl false 4 (Qag y.ins),.int .i64 y.jump,.int .i64 y.on,.sl false 1 (Qb y.next)]::RK)) (by simp)).1;refine Qt ?_;simp only[go_sem,l1,l2,l3,l4,l5,l6,l8,l17,l18,l40,l41,l42,hzb,rlen,rtake,rget,rset,hlt,htw,hpw3,Jg,Jl];intro H13 h13;obtain⟨d,hd⟩:∃d:DBlk,d=⟨⟨kpP q ds.length y.phis,lf,y.jump,y.on,y.next⟩,pc',pl',t,Lg⟩:=⟨_,rfl⟩;refine hnr _ _ ⟨d,?_,?_,?_,rfl,rfl,rfl,rfl,rfl,rfl⟩
      ·rw[hd];exact⟨hgw,hgr⟩
      ·rw[hd,hlf,Ju];rfl
      ·have k3:=(kn.perm (L':=[(zb,.vec 5 (RD++[pc',.sl false 4 (Qag y.ins),.int .i64 y.jump,.int .i64 y.on,.sl false 1 (Qb y.next)]::RK))]++(imE q fl l yi yp ss pr++(R0++(ds.flatMap DBlk.lg++(pl'++ks'.flatMap KBlk.pl)))++Lg))
        (Qp fun f hf h0 hc hp=>by simp only[hf];omega)).stL 0 rfl h13
       refine k3.perm (Qp fun f hf h0 hc hp=>?_);have e:DBlk.row d=[pc',t,.int .i64 y.jump,.int .i64 y.on,.sl false 1 (Qb y.next)]:=(by rw[hd];rfl);have e2:DBlk.lg d=pl'++Lg:=(by rw[hd];rfl);show f ([(zb,_)]++_)=_;rw[e,e2,←hR0];simp only[hf];omega
   ·rintro e4 H7 ⟨d,hdok,hdrp,kn,l1,l2,l3,l4,l17,l18⟩;refine Qt ?_;simp only[go_sem,l1,l2,l3,l4,l17,l18];refine⟨Qs (by omega) (by omega),?_⟩;show ∃m,_;refine⟨ks'.length,by omega,ds++[d],ks',rfl,by simp only[Jh,Jc,Je];omega,by simpa using hky',fun w hw=>?_,fun b hb=>hko b (Jac _ hb),fun i h1 h2=>?_,?_,rfl,rfl,rfl,rfl,rfl,?_⟩
    ·rcases Jr.1 hw with hw|hw
     ·exact hdo w hw
     ·simp only[Ja]at hw;rw[hw];exact hdok
    ·by_cases hi:i<ds.length
     ·rw[List.getElem_append_left hi];exact hdr i h1 hi
     ·have hie:i=ds.length:=(by simp only[Jh,Jc,Je]at h2;omega);subst hie;rw[←hy];simpa using hdrp
    ·simpa[Jad,J7]using kn
    ·simp[lk]
  ·intro hc;have hks:ks=[]:=by
    have:q.blocks.length≤ds.length:=(by simpa using hc);exact List.eq_nil_of_length_eq_zero (by omega)
   subst hks;simp only[Je,Nat.add_zero]at hlen;refine Qw ?_;simp only[go_sem,X.next];obtain⟨d,hd⟩:∃d:CodeD,d=⟨q.params,q.regs,ds.map DBlk.y⟩:=⟨_,rfl⟩;have hdl:d.blocks.length=q.blocks.length:=by rw[hd];simpa using hlen
   have hde:d=Qaq q:=by
    rw[hd,Qaq];congr 1;refine Js (by simpa using hlen) fun b h1 h2=>?_;have h3:b<ds.length:=(by simpa using h1);rw[Jx,List.getElem_mapIdx];exact hdr b (by omega) h3
   have hshr:Shr q d:=by rw[hde];exact once_shr
   have hdo2:d.ok:=hshr.ok hqo;have kn:Kn H H6 [] ([(x1,.st [.int .i64 q.params,.int .i64 q.regs,.sl fl 5 (Qn q.blocks)]),(x2,.st [.int .i64 0,.int .i64 0,.sl true 5 []]),(x4,.st [.int .i64 q.params,.int .i64 q.regs,.vsl zb 5 0 q.blocks.length])]++
     ([(zb,.vec 5 (ds.map DBlk.row))]++ds.flatMap DBlk.lg)):=by
    simp only[J5,Jq,Jan]at kn;have k3:=(kn.perm Jk).drop;simpa using k3
   have hmem:∀p∈[(zb,Obj.vec 5 (ds.map DBlk.row))]++ds.flatMap DBlk.lg,H6 p.1=p.2∧(([(zb,Obj.vec 5 (ds.map DBlk.row))]++ds.flatMap DBlk.lg).map Prod.fst).contains p.1=true:=fun p hp=>
    ⟨(kn.get p (Jb _ (Jb _ hp))).1,J8.2 (Qa6 hp)⟩
   have hz:=hmem (zb,.vec 5 (ds.map DBlk.row)) (by simp);have hrows:FrzR H6 (fun m=>(([(zb,Obj.vec 5 (ds.map DBlk.row))]++ds.flatMap DBlk.lg).map Prod.fst).contains m) (ds.map DBlk.row) (Qn d.blocks):=by
    rw[hd];exact DBlk.frzR hdo fun w hw p hp=>hmem p (Jb _ (Jao.2 ⟨w,hw,hp⟩))
   obtain⟨hfz,kn⟩:=kn.freezeL 2 rfl (og':=.st [.int .i64 q.params,.int .i64 q.regs,.sl false 5 (Qn d.blocks)])
    (FrzKL.st (.same (.same (.cons rfl (FrzR.vsl hz.2 hz.1 (by rw[Jf,hlen]) hrows) .nil)))) (by simp)
   refine c_gh (Qgc _ (fun t=>?_) hfz) (e':=[(1,.c (.ptr x1 0)),(2,.c (.ptr x2 0)),(4,.c (.ptr x4 0))]) ?_
   ·by_cases t1:t=1
    ·subst t1;exact .c _ _ (.same _ rfl)
    by_cases t2:t=2
    ·subst t2;exact .c _ _ (.same _ rfl)
    by_cases t4:t=4
    ·subst t4;exact .c _ _ (.same _ rfl)
    have:lk t [(1,V.c (.ptr x1 0)),(2,.c (.ptr x2 0)),(4,.c (.ptr x4 0))]=.unk:=by
     simp only[lk,t1,t2,t4,if_false]
    rw[this];exact .unk _
   generalize ((H6.frz fun m=>(([(zb,Obj.vec 5 (ds.map DBlk.row))]++ds.flatMap DBlk.lg).map Prod.fst).contains m).set x4 (Obj.st [.int .i64 q.params,.int .i64 q.regs,.sl false 5 (Qn d.blocks)]))=H7 at *;have kn:Kn H H7 [] [(x1,.st [.int .i64 q.params,.int .i64 q.regs,.sl fl 5 (Qn q.blocks)]),(x2,.st [.int .i64 0,.int .i64 0,.sl true 5 []]),(x4,.st [.int .i64 q.params,.int .i64 q.regs,.sl false 5 (Qn d.blocks)])]:=kn;clear hfz hrows hz hmem hdr hdo hko hky;have hx1:=kn.l 0 rfl;have hx4:=kn.l 2 rfl;have hd1:=hdo2.b1;refine Qaa ?_;refine Qaj ?_;simp only[go_sem,hx1,hx4];have ed:[C.int .i64 q.params,C.int .i64 q.regs,C.sl false 5 (Qn d.blocks)]=[C.int .i64 d.params,C.int .i64 d.regs,C.sl false 5 (Qn d.blocks)]:=by rw[hd]
   rw[ed];refine Qnq hdo2.fts hd1 fun H8 hu=>?_;have kn:=kn.call0 hu;have hx1:=kn.l 0 rfl;simp only[go_sem,Qkw,hx1];refine Qnq hqo.fts hb1 fun H9 hu=>?_;have kn:=kn.call0 hu;have hx1:=kn.l 0 rfl;have hx4:=kn.l 2 rfl;simp only[go_sem,Qkv,hx1];refine Qh (Qd rfl ?_ ?_)
   ·intro hc2;have hcc:Qfc d=Qfc q:=(by have:=of_decide_eq_true hc2;omega);have hx2:=kn.l 1 rfl;refine Qa ?_;simp only[go_sem,hx4,hx2];intro H10 h10;have kn:=kn.stL 1 rfl h10;have hx2:=kn.l 1 rfl;refine Qk ?_;simp only[go_sem,X.next,Q5,Qae,Qzp,Ja,forall_eq,RS.op,hx2];refine⟨_,FrzL.ag (.cons (Qi rfl) (.cons (Qi rfl) (.cons (.same _ rfl) .nil))),?_⟩;obtain⟨n,hn⟩:=hrep;have hfx:Qaq q=q:=(Qbb6 (by rw[←hde];exact hcc)).1;have:=hK d _ ⟨n+1,by rw[hde,hn];rfl,by rw[hde,hfx,hfx]⟩ kn.fin;rw[CodeD.cells,←ed]at this;exact this
   ·intro hc2;have hne:¬((Qfc d:Nat):Int)=(Qfc q:Nat):=(by simpa using hc2);refine Qg ?_;try simp only[go_sem]
    refine Qt ?_;simp only[go_sem,hx4,hx1];intro H10 h10;have kn:=kn.stL 0 rfl h10;show ∃m,_;obtain⟨n,hn⟩:=hrep;have hcle:=hshr.cnt.1;refine⟨Qfc d,by omega,d,false,rfl,hdo2,⟨n+1,by rw[hde,hn];rfl⟩,?_,rfl,rfl⟩;rw[←ed];exact Kn.drop (A:=[_,_]) (B:=[_]) kn
end Go.AE.Y
namespace Go.AE.Y
open Go.Proofs.Tryz
variable {H H0:Heap}{K:V→Heap→Prop}{S:Nat→Bool}
theorem OBlk.frzF {o:OBlk}(hok:o.ok)(h:Held H S o.lg):FrzL H S o.row o.d.cells:=
 .cons (Gr.frzM hok.p h.r.r.l (Qbki hok.a h.r.l)) (.cons (Gr.frzM hok.i h.r.r.r.r (Qbn1 h.r.r.r.l)) (.cons (Qi rfl) (.cons (Qi rfl) (.cons (o.nx.frz h.l) .nil))))
theorem Qbhv {bs:List OBlk}(ho:∀o∈bs,o.ok)(h:Held H S (bs.flatMap OBlk.lg)):FrzR H S (bs.map OBlk.row) (Qn (bs.map OBlk.d)):=by
 rw[Qn,Jar];exact Qadv bs fun x hx=>OBlk.frzF (ho x hx) (h.m hx)
theorem Qboq {q:CodeD}(hq:q.sg)(hb:0<q.blocks.length)(hK:∀z H',Kn H H' [] [(z,.vec 5 (Qn q.blocks))]→K (.ag [.int .i64 q.params,.int .i64 q.regs,.vsl z 5 0 q.blocks.length]) H'):Qr prog Ql6 [.ag q.cells] H K:=by
 refine Qem (Qbbw hq fun o H' kn hok hd _=>?_);have hbl:o.blocks.length=q.blocks.length:=by rw[←hd];simp[OCode.d]
 have hpr:o.params=q.params:=by rw[←hd];rfl
 have hrg:o.regs=q.regs:=by rw[←hd];rfl
 have hbd:o.blocks.map OBlk.d=q.blocks:=by rw[←hd];rfl
 rcases hok.b with ⟨h1,h2,h3⟩|⟨z,h1,h2⟩
 ·have:=congrArg List.length h2;simp only[Jf,Je]at this;omega
 ·have kn:Kn H H' [] ([(z,.vec 5 (o.blocks.map OBlk.row))]++o.blocks.flatMap OBlk.lg):=kn.perm (by rw[OCode.lg,h2];exact Jk);obtain⟨S,hS,hB,hfz,kn2⟩:=kn.freeze0;have hfr:=Qbhv hok.bs hS;rw[hbd]at hfr;have hz:=hB (z,.vec 5 (o.blocks.map OBlk.row)) (by simp);have f1:FrzH H' S ((H'.frz S).set z (.vec 5 (Qn q.blocks))):=hfz.set hz.2 (by
   rw[hz.1];exact FrzO.vecR hfr (fun r hr=>by obtain⟨x,hx,rfl⟩:=Jw.1 hr;exact x.noOw (hok.bs x hx)))
  have kn2:=kn2.setL (o':=.vec 5 (Qn q.blocks)) 0 rfl (by simp);have kn2:Kn H ((H'.frz S).set z (.vec 5 (Qn q.blocks))) [] [(z,.vec 5 (Qn q.blocks))]:=kn2;refine⟨S,_,_,?_,f1,hK z _ kn2⟩;refine FrzL.ag ?_;rw[OCode.row,hpr,hrg,h1,Jf,hbl];exact .cons (Qi rfl) (.cons (Qi rfl) (.cons (.same _ rfl) .nil))
end Go.AE.Y
namespace Go.AE.Y
attribute [local go_sem] cond_true cond_false Bool.not_true Bool.not_false
attribute [local instance] Classical.propDecidable
open Go.Proofs.Tryz
variable {H H0:Heap}{K:V→Heap→Prop}{E B Lg:List (Nat×Obj)}{q:CodeD}
theorem Qbbi {S:Nat→Bool}(q:CodeD):FrzV H S (.ag q.cells) (.ag q.cells):=FrzL.ag (.cons (.same _ rfl) (.cons (.same _ rfl) (.cons (.same _ rfl) .nil)))
def SmP (q:CodeD)(n:Nat)(sm:Bool):Prop:=
 (sm=false→∀i (h:i<q.blocks.length),i<n→(Qg1 q i q.blocks[i]).ins.length=q.blocks[i].ins.length∧(Qg1 q i q.blocks[i]).phis.length=q.blocks[i].phis.length)∧
 (sm=true→∃i,∃h:i<q.blocks.length,(Qg1 q i q.blocks[i]).ins.length<q.blocks[i].ins.length∨(Qg1 q i q.blocks[i]).phis.length<q.blocks[i].phis.length)
theorem Qbpo (q:CodeD)(b:Nat)(y:BlkD):(Qg1 q b y).ins.length≤y.ins.length∧(Qg1 q b y).phis.length≤y.phis.length:=⟨kpD_sub.length_le,J2.length_le⟩
theorem SmP.zero:SmP q 0 false:=⟨fun _ i _ h=>absurd h (by omega),fun h=>by simp at h⟩
theorem SmP.next {n:Nat}{sm sm':Bool}(h:SmP q n sm)(hn:n<q.blocks.length)
  (he:sm'=(sm || decide ((Qg1 q n q.blocks[n]).ins.length<q.blocks[n].ins.length) || decide ((Qg1 q n q.blocks[n]).phis.length<q.blocks[n].phis.length))):SmP q (n+1) sm':=by
 obtain⟨h1,h2⟩:=h;obtain⟨l1,l2⟩:=Qbpo q n q.blocks[n];subst he;refine⟨fun hf i hi hlt=>?_,fun ht=>?_⟩
 ·simp only[Bool.or_eq_false_iff,decide_eq_false_iff_not]at hf;obtain⟨⟨f1,f2⟩,f3⟩:=hf;by_cases hin:i=n
  ·subst hin;omega
  ·exact h1 f1 i hi (by omega)
 ·simp only[Bool.or_eq_true,decide_eq_true_eq]at ht;rcases ht with (h|h)|h
  ·exact h2 h
  ·exact⟨n,hn,.inl h⟩
  ·exact⟨n,hn,.inr h⟩
theorem SmP.fin {sm:Bool}(h:SmP q q.blocks.length sm):(sm=false→Qaq q=q)∧(sm=true→Qfc (Qaq q)<Qfc q):=by
 obtain⟨h1,h2⟩:=h;have hc:=(once_shr (q:=q)).cnt;refine⟨fun hf=>?_,fun ht=>?_⟩
 ·refine (Qbb6 ?_).1;rw[Qfc,Qfc,Qfb,Qfb];congr 1;refine Js (by simp[Qi6]) fun i a b=>?_;simp only[Jf]at a b;simp only[Jx,Qx3 b a,Qsq];have:=h1 hf i b b;omega
 ·obtain⟨i,hi,hl⟩:=h2 ht;have hi2:i<(Qaq q).blocks.length:=by rw[Qi6];exact hi
  by_cases he:Qfc (Qaq q)=Qfc q
  ·have:=hc.2 he i hi hi2;rw[Qx3 hi hi2]at this;omega
  ·have:=hc.1;omega
theorem Qbof {b:Nat}{l:List PhiD}{x:PhiD}:kpP q b (l++[x])=kpP q b l++if decide (x.to.toNat∈Qeo q b 0)=true then [x]else []:=by
 rw[kpP,kpP,Jv];congr 1;cases h:decide (x.to.toNat∈Qeo q b 0) <;> simp only[J1,h,Jah] <;> simp
theorem Qbtc {b i n:Nat}(hi:i<n):((idlB q b n).map Int.ofNat).contains (i:Int)=Qh7 q b i:=by
 rw[Jag,J8,Jw];constructor
 ·rintro⟨j,hj,he⟩;have:j=i:=Int.ofNat.inj he;subst this;exact (Jaq.1 hj).2
 ·exact fun h=>⟨i,Jaq.2 ⟨List.mem_range.2 hi,h⟩,rfl⟩
def onE (x2 x4 z x5:Nat)(zi zo:List (Nat×List Bool))(q:CodeD)(rows:List (List C)):List (Nat×Obj):=
 [(x2,.st [.int .i64 0,.int .i64 0,.sl true 5 []]),(x4,.st [.sl false 1 (Qib zi),.sl false 1 (Qib zo)]),(z,.vec 5 rows),(x5,.st [.int .i64 q.params,.int .i64 q.regs,.vsl z 5 0 q.blocks.length])]
set_option maxHeartbeats 8000000 in
theorem Qaxf (ho:q.ok)(hK:∀(sm:Bool) H',(sm=false→Qaq q=q)→(sm=true→Qfc (Qaq q)<Qfc q)→Upd H H' []→K (.tup [.ag (Qaq q).cells,.c (.bool sm)]) H') :
  Qr prog Qxu [.ag q.cells] H K:=by
 have hb1:=ho.b1;have hb0:=ho.b0;have hr1:=ho.r1;refine Q3 ?_;refine Qc Qal Qbjv ?_;refine Qa ?_;simp only[go_sem,CodeD.cells];intro x2 hx2 H1 h1;have kn:=(Kn.start0 H).al hx2 h1;simp only[go_sem,Q9p];refine Qa ?_;simp only[go_sem];refine Qaxe ho fun zi zo H2 hu hlv=>?_;have kn:=kn.call0 hu;simp only[go_sem,Q9r];intro x4 hx4 H3 h3;have kn:=kn.al hx4 h3;have hx4:=kn.l 1 rfl;simp only[go_sem,Q9q,hx4];intro H4 h4;have kn:=kn.stL 1 rfl h4;refine Qa ?_;simp only[go_sem];refine Qboq ho.sg (by omega) fun z H5 k2=>?_;have kn:=kn.comp0 k2;simp only[go_sem,Q9t];intro x5 hx5 H6 h6;have kn:=kn.al hx5 h6;have hx5:=kn.l 3 rfl;simp only[go_sem,Q9s,hx5];intro H7 h7;have kn:Kn H H7 [] (onE x2 x4 z x5 zi zo q (Qn q.blocks)):=kn.stL 3 rfl h7;refine Qa ?_;simp only[go_sem];refine Qaa ?_;refine Qa ?_;simp only[go_sem];refine Qh (Qe (Qx (fun m e1 H1=>∃(ds:List DBlk) (sm:Bool),m=q.blocks.length-ds.length∧ds.length≤q.blocks.length∧(∀d∈ds,d.ok)∧(∀i (h1:i<q.blocks.length) (h2:i<ds.length),ds[i].y=Qg1 q i q.blocks[i])∧SmP q ds.length sm∧
  Kn H H1 [] (onE x2 x4 z x5 zi zo q (ds.map DBlk.row++Qn (q.blocks.drop ds.length))++ds.flatMap DBlk.lg)∧
  lk 1 e1=.c (.pp [.int .i64 q.params,.int .i64 q.regs,.sl false 5 (Qn q.blocks)])∧lk 2 e1=.c (.ptr x2 0)∧lk 4 e1=.c (.ptr x4 0)∧lk 5 e1=.c (.ptr x5 0)∧lk 6 e1=.c (.bool sm)∧lk 7 e1=.c (.int .i64 ds.length)) q.blocks.length ?_ ?_))
 ·exact⟨[],false,by simp,by simp,by simp,by simp,.zero,kn,rfl,rfl,rfl,rfl,rfl,rfl⟩
 ·clear kn hx4 hx5 k2;rintro m e1 H8 ⟨ds,sm,hm,hdl,hdo,hdr,hsm,kn,l1,l2,l4,l5,l6,l7⟩;refine Qaa ?_;refine Qa ?_;simp only[go_sem,l1,l2,l4,l5,l6,l7,Ql];try intro _
  refine Qh (Qd rfl ?_ ?_)
  ·intro hc;have hlt:ds.length<q.blocks.length:=by simpa using hc
   obtain⟨y,hy⟩:∃y,q.blocks[ds.length]=y:=⟨_,rfl⟩;have hyo:=ho.bs ds.length hlt;have hil:=ho.il ds.length hlt;have hsn:=fun sm'=>hsm.next (sm':=sm') hlt;rw[hy]at hyo hil;simp only[hy]at hsn;have hlo:=hlv.1.o;have hbz:ds.length<zo.length:=by omega
   have hdrop:Qn (q.blocks.drop ds.length)=y.cells::Qn (q.blocks.drop (ds.length+1)):=by
    rw[Jn hlt,hy];rfl
   rw[hdrop]at kn;obtain⟨RK,hRK⟩:∃RK,Qn (q.blocks.drop (ds.length+1))=RK:=⟨_,rfl⟩;obtain⟨RD,hRD⟩:∃RD,ds.map DBlk.row=RD:=⟨_,rfl⟩;obtain⟨A,hA⟩:∃A,ds.flatMap DBlk.lg=A:=⟨_,rfl⟩;rw[hRK,hRD,hA]at kn;have hRDl:ds.length=RD.length:=by rw[←hRD,Jf]
   have hRKl:RK.length=q.blocks.length-(ds.length+1):=by rw[←hRK,Ql,Jab]
   have rlen:∀(r:List C),(RD++r::RK).length=q.blocks.length:=fun r=>by
    simp only[Jh,Jc];omega
   have rtake:∀(r:List C),(RD++r::RK).take q.blocks.length=RD++r::RK:=fun r=>Ji (by rw[rlen];omega);have rget:∀(r:List C),(RD++r::RK).getD ds.length []=r:=fun r=>Qbsb hRDl;have rset:∀(r r':List C),(RD++r::RK).set ds.length r'=RD++r'::RK:=fun r r'=>Qbkq hRDl;refine Qg ?_;try simp only[go_sem]
   refine Qd3 (fun e2 H2=>∃(d:DBlk) (sm':Bool),d.ok∧d.y=Qg1 q ds.length y∧SmP q (ds.length+1) sm'∧Kn H H2 [] (onE x2 x4 z x5 zi zo q (RD++d.row::RK)++(A++d.lg))∧
    lk 1 e2=.c (.pp [.int .i64 q.params,.int .i64 q.regs,.sl false 5 (Qn q.blocks)])∧lk 2 e2=.c (.ptr x2 0)∧lk 4 e2=.c (.ptr x4 0)∧lk 5 e2=.c (.ptr x5 0)∧lk 6 e2=.c (.bool sm')∧lk 7 e2=.c (.int .i64 ds.length)) ?_ ?_
   ·intro Q hnr _ _;refine Qe ?_;have hx4:=kn.l 1 rfl;refine Qa ?_;simp only[go_sem,l1,l2,l4,l5,l6,l7,hx4];refine Qbi6 ho hlt hlv fun H9 hu=>?_;have kn:=kn.call0 hu;have hx4:=kn.l 1 rfl;simp only[go_sem,Q9u];refine Qa ?_;simp only[go_sem,hx4];refine Q00 (orows:=Qib zo) (cb:=.sl false 1 (Qy zo[ds.length].2)) (bs:=zo[ds.length].2) (W:=(Q6 q).LO ds.length) ho hlt (by omega) (by rw[hy];omega) kn (.mk' _ _ _ _) rfl rfl (by rw[Qaf5];exact hbz) (Q55 _ _ hbz) (.mk' _ _ _ _) rfl (hlv.1.lo _ (Jm hbz))
     ((Qaff hbz).congr fun r=>(hlv.2 ds.length hlt r).2) fun y9 bs' H10 hbl hmem kn=>?_
    have hbs:∀f∈y.phis,bs'.getD f.to.toNat false=decide (f.to.toNat∈Qeo q ds.length 0):=fun f hf=>by
     rw[Qbb3 hmem,decide_eq_decide,Qeo,ascL_mem];exact⟨fun h=>⟨(hyo.pto f hf).nat.2,h⟩,fun h=>h.2⟩
    have htk:(Qy bs').take q.regs.toNat=Qy bs':=Ji (by rw[Qab];omega);have hil2:=Qaxc hlt;rw[hy]at hil2;rw[hil2];obtain⟨I,hI⟩:∃I,idlB q ds.length y.ins.length=I:=⟨_,rfl⟩;have hIh:∀i,i<y.ins.length→(I.map Int.ofNat).contains (i:Int)=Qh7 q ds.length i:=fun i hi=>(by rw[←hI];exact Qbtc hi);rw[hI];clear hmem hx4;simp only[go_sem,Q9v];refine Qa ?_;simp only[go_sem];refine Qaa ?_;refine Qa ?_;simp only[go_sem];refine Qh (Qe (Qx (fun m e1 H1=>∃(i:Nat) (t:C) (Lp:List (Nat×Obj)),m=y.phis.length-i∧i≤y.phis.length∧Gr Lp 2 (Q7 (kpP q ds.length (y.phis.take i))) t∧
     Kn H H1 [] (((onE x2 x4 z x5 zi zo q (RD++y.cells::RK)++A)++[(y9,.vec 1 (Qy bs'))])++Lp)∧
     lk 1 e1=.c (.pp [.int .i64 q.params,.int .i64 q.regs,.sl false 5 (Qn q.blocks)])∧lk 2 e1=.c (.ptr x2 0)∧lk 4 e1=.c (.ptr x4 0)∧lk 5 e1=.c (.ptr x5 0)∧lk 6 e1=.c (.bool sm)∧lk 7 e1=.c (.int .i64 ds.length)∧
     lk 8 e1=.c (.sl false 1 (Qbq I))∧lk 9 e1=.c (.vsl y9 1 0 q.regs.toNat)∧lk 10 e1=.c t∧lk 11 e1=.c (.int .i64 i)) y.phis.length ?_ ?_))
    ·exact⟨0,_,[],by omega,by omega,.nil 2,by simpa using kn,rfl,rfl,rfl,rfl,rfl,rfl,rfl,rfl,rfl,rfl⟩
    ·clear kn l1 l2 l4 l5 l6 l7;rintro m2 e3 H11 ⟨i,t,Lp,hm2,hi,hgp,kn,l1,l2,l4,l5,l6,l7,l8,l9,l10,l11⟩;have htw:=hgp.isOw;refine Qaa ?_;refine Qa ?_;simp only[go_sem,l1,l2,l4,l5,l6,l7,l8,l9,l10,l11,htw,hlt,Ql,Q1 _ _ hlt,BlkD.cells,hy,Qv];try intro _
     refine Qh (Qd rfl ?_ ?_)
     ·intro hc2;have hlt2:i<y.phis.length:=(by simpa using hc2);obtain⟨f,hf⟩:∃f,y.phis[i]=f:=⟨_,rfl⟩;have hfm:f∈y.phis:=(by rw[←hf];exact Jm hlt2);have htake:y.phis.take (i+1)=y.phis.take i++[f]:=(by rw[Jd hlt2,hf]);obtain⟨hv,hvl⟩:=(hyo.pto f hfm).nat;have hgd:=hbs f hfm;obtain⟨r,hr⟩:∃r,f.to.toNat=r:=⟨_,rfl⟩;have hsnoc:=Qbof (q:=q) (b:=ds.length) (l:=y.phis.take i) (x:=f);rw[hr]at hv hvl hgd hsnoc;have hvl':r<bs'.length:=(by omega);have hy9:H11 y9=.vec 1 (Qy bs'):=(kn.get (y9,.vec 1 (Qy bs')) (by simp)).1;have hkl:(kpP q ds.length (y.phis.take i)).length≤i:=Jas J2.length_le (by rw[Jp];omega);refine Qg ?_;try simp only[go_sem]
      refine Qd3 (fun e2 H2=>∃(t:C) (Lp:List (Nat×Obj)),Gr Lp 2 (Q7 (kpP q ds.length (y.phis.take (i+1)))) t∧
       Kn H H2 [] (((onE x2 x4 z x5 zi zo q (RD++y.cells::RK)++A)++[(y9,.vec 1 (Qy bs'))])++Lp)∧
       lk 1 e2=.c (.pp [.int .i64 q.params,.int .i64 q.regs,.sl false 5 (Qn q.blocks)])∧lk 2 e2=.c (.ptr x2 0)∧lk 4 e2=.c (.ptr x4 0)∧lk 5 e2=.c (.ptr x5 0)∧lk 6 e2=.c (.bool sm)∧lk 7 e2=.c (.int .i64 ds.length)∧
       lk 8 e2=.c (.sl false 1 (Qbq I))∧lk 9 e2=.c (.vsl y9 1 0 q.regs.toNat)∧lk 10 e2=.c t∧lk 11 e2=.c (.int .i64 i)) ?_ ?_
      ·intro Q2 hnr2 _ _;refine Qe ?_;refine Qa ?_;simp only[go_sem,l1,l2,l4,l5,l6,l7,l8,l9,l10,l11,htw,hlt,hlt2,Ql,Q1 _ _ hlt,BlkD.cells,hy,Qv,Qau _ _ hlt2,PhiD.cells,hf,hv,hy9,htk,hvl,Qab,hbl,Qax _ _ hvl',Jg,Jl];refine Qd rfl ?_ ?_
       ·intro hc3;have hin:bs'.getD r false=true:=hc3;rw[hgd]at hin;have hx5:=kn.l 3 rfl;have hz:=kn.l 2 rfl;simp only[BlkD.cells]at hz;refine Qt ?_;simp only[go_sem,htw,hx5,hz,rlen,rtake,rget,hlt,hlt2,Qv,Qau _ _ hlt2,PhiD.cells,hf,Jg,Jl];refine kn.growR (new:=Q7 [f]) hgp (.mk' _ _ _ _) (Q07 _) (by simp only[Qv,LIM,Jc,Je];omega) fun t2 Lp2 H12 hgr2 ht2 kn=>?_;simp only[go_sem,Q9w,ht2];refine hnr2 _ _ ⟨t2,Lp2,?_,kn,rfl,rfl,rfl,rfl,rfl,rfl,rfl,rfl,rfl,rfl⟩;rw[htake,hsnoc,if_pos hin];have:Q7 (kpP q ds.length (y.phis.take i)++[f])=Q7 (kpP q ds.length (y.phis.take i))++Q7 [f]:=(by simp[Q7]);rw[this];exact hgr2
       ·intro hc3;have hin:bs'.getD r false=false:=hc3;rw[hgd]at hin;refine Qg ?_;try simp only[go_sem]
        refine hnr2 _ _ ⟨t,Lp,?_,kn,rfl,rfl,rfl,rfl,rfl,rfl,rfl,rfl,rfl,rfl⟩;rw[htake,hsnoc,if_neg (by rw[hin];simp),Jq];exact hgp
      ·rintro e4 H12 ⟨t2,Lp2,hgp2,kn,l1,l2,l4,l5,l6,l7,l8,l9,l10,l11⟩;have htw2:=hgp2.isOw;refine Qt ?_;simp only[go_sem,l1,l2,l4,l5,l6,l7,l8,l9,l10,l11,htw2];refine⟨Qs (by omega) (by omega),?_⟩;show ∃m,_;exact⟨y.phis.length-(i+1),by omega,i+1,t2,Lp2,rfl,by omega,hgp2,kn,rfl,rfl,rfl,rfl,rfl,rfl,rfl,rfl,rfl,rfl⟩
     ·intro hc2;have hge:y.phis.length≤i:=(by simpa using hc2);rw[Ji hge]at hgp;refine Qw ?_;simp only[go_sem,X.next];refine Qa ?_;simp only[go_sem,l1,l2,l4,l5,l6,l7,l8,l10,htw];refine Qaa ?_;refine Qa ?_;simp only[go_sem,htw];refine Qh (Qe (Qx (fun m e1 H1=>∃(j:Nat) (t2:C) (Li:List (Nat×Obj)),m=y.ins.length-j∧j≤y.ins.length∧Gr Li 4 (Qag (kpD q ds.length 0 (y.ins.take j))) t2∧
       Kn H H1 [] ((((onE x2 x4 z x5 zi zo q (RD++y.cells::RK)++A)++[(y9,.vec 1 (Qy bs'))])++Lp)++Li)∧
       lk 1 e1=.c (.pp [.int .i64 q.params,.int .i64 q.regs,.sl false 5 (Qn q.blocks)])∧lk 2 e1=.c (.ptr x2 0)∧lk 4 e1=.c (.ptr x4 0)∧lk 5 e1=.c (.ptr x5 0)∧lk 6 e1=.c (.bool sm)∧lk 7 e1=.c (.int .i64 ds.length)∧
       lk 8 e1=.c (.sl false 1 (Qbq I))∧lk 10 e1=.c t∧lk 12 e1=.c t2∧lk 13 e1=.c (.int .i64 j)) y.ins.length ?_ ?_))
      ·exact⟨0,_,[],by omega,by omega,.nil 4,by simpa using kn,rfl,rfl,rfl,rfl,rfl,rfl,rfl,rfl,rfl,rfl⟩
      ·clear kn l1 l2 l4 l5 l6 l7 l8 l9 l10 l11 hbs;rintro m3 e4 H12 ⟨j,t2,Li,hm3,hj,hgi,kn,l1,l2,l4,l5,l6,l7,l8,l10,l12,l13⟩;have htw2:=hgi.isOw;refine Qaa ?_;refine Qa ?_;simp only[go_sem,l1,l2,l4,l5,l6,l7,l8,l10,l12,l13,htw,htw2,hlt,Ql,Q1 _ _ hlt,BlkD.cells,hy,Q4];try intro _
       refine Qh (Qd rfl ?_ ?_)
       ·intro hc3;have hlt3:j<y.ins.length:=(by simpa using hc3);obtain⟨x,hx⟩:∃x,y.ins[j]=x:=⟨_,rfl⟩;have htake:y.ins.take (j+1)=y.ins.take j++[x]:=(by rw[Jd hlt3,hx]);have htl:(y.ins.take j).length=j:=(by rw[Jp];omega);have hkl:(kpD q ds.length 0 (y.ins.take j)).length≤j:=Jas kpD_sub.length_le (by omega);have hsnoc:=Qasp (q:=q) (b:=ds.length) (l:=y.ins.take j) (x:=x) (k:=0);rw[htl,Jg]at hsnoc;refine Qg ?_;try simp only[go_sem]
        refine Qd3 (fun e2 H2=>∃(t2:C) (Li:List (Nat×Obj)),Gr Li 4 (Qag (kpD q ds.length 0 (y.ins.take (j+1)))) t2∧
         Kn H H2 [] ((((onE x2 x4 z x5 zi zo q (RD++y.cells::RK)++A)++[(y9,.vec 1 (Qy bs'))])++Lp)++Li)∧
         lk 1 e2=.c (.pp [.int .i64 q.params,.int .i64 q.regs,.sl false 5 (Qn q.blocks)])∧lk 2 e2=.c (.ptr x2 0)∧lk 4 e2=.c (.ptr x4 0)∧lk 5 e2=.c (.ptr x5 0)∧lk 6 e2=.c (.bool sm)∧lk 7 e2=.c (.int .i64 ds.length)∧
         lk 8 e2=.c (.sl false 1 (Qbq I))∧lk 10 e2=.c t∧lk 12 e2=.c t2∧lk 13 e2=.c (.int .i64 j)) ?_ ?_
        ·intro Q2 hnr2 _ _;refine Qe ?_;refine Qa ?_;simp only[go_sem,l1,l2,l4,l5,l6,l7,l8,l10,l12,l13,htw,htw2];refine Qbi1 (ns:=I.map Int.ofNat) (.mk' _ _ _ _) rfl fun r hr=>?_;have hrn:=hr.neg;rw[hIh j hlt3]at hrn;simp only[go_sem,Q4f,htw,htw2,hrn];refine Qd rfl ?_ ?_
         ·intro hc4;have hid:Qh7 q ds.length j=false:=Qtc hc4;have hx5:=kn.l 3 rfl;have hz:=kn.l 2 rfl;simp only[BlkD.cells]at hz;refine Qt ?_;simp only[go_sem,htw,htw2,hx5,hz,rlen,rtake,rget,hlt,hlt3,Q4,Qbd _ _ hlt3,InsD.take4,InsD.allOw,InsD.len4,InsD.cells,hx,Jg,Jl];refine kn.growR (new:=Qag [x]) hgi (.mk' _ _ _ _) (Qed _) (by simp only[Q4,LIM,Jc,Je];omega) fun t3 Li3 H13 hgr3 ht3 kn=>?_;simp only[go_sem,Q4g,htw,ht3];refine hnr2 _ _ ⟨t3,Li3,?_,kn,rfl,rfl,rfl,rfl,rfl,rfl,rfl,rfl,rfl,rfl⟩;rw[htake,hsnoc,hid];have:Qag (kpD q ds.length 0 (y.ins.take j)++[x])=Qag (kpD q ds.length 0 (y.ins.take j))++Qag [x]:=(by simp[Qag]);simp only[Bool.false_eq_true,if_false];rw[this];exact hgr3
         ·intro hc4;have hid:Qh7 q ds.length j=true:=Qh8 hc4;refine Qg ?_;try simp only[go_sem]
          refine hnr2 _ _ ⟨t2,Li,?_,kn,rfl,rfl,rfl,rfl,rfl,rfl,rfl,rfl,rfl,rfl⟩;rw[htake,hsnoc,if_pos hid,Jq];exact hgi
        ·rintro e5 H13 ⟨t3,Li3,hgi3,kn,l1,l2,l4,l5,l6,l7,l8,l10,l12,l13⟩;have htw3:=hgi3.isOw;refine Qt ?_;simp only[go_sem,l1,l2,l4,l5,l6,l7,l8,l10,l12,l13,htw,htw3];refine⟨Qs (by omega) (by omega),?_⟩;show ∃m,_;exact⟨y.ins.length-(j+1),by omega,j+1,t3,Li3,rfl,by omega,hgi3,kn,rfl,rfl,rfl,rfl,rfl,rfl,rfl,rfl,rfl,rfl⟩
       ·intro hc3;have hge:y.ins.length≤j:=(by simpa using hc3);rw[Ji hge]at hgi;refine Qw ?_;simp only[go_sem,X.next];obtain⟨d,hd⟩:∃d:DBlk,d=⟨Qg1 q ds.length y,t,Lp,t2,Li⟩:=⟨_,rfl⟩;have hdok:d.ok:=(by rw[hd];exact⟨hgp.gw,hgi⟩);have hdy:d.y=Qg1 q ds.length y:=(by rw[hd]);have erow:d.row=[t,t2,.int .i64 y.jump,.int .i64 y.on,.sl false 1 (Qb y.next)]:=(by rw[hd];rfl);have elg:d.lg=Lp++Li:=(by rw[hd];rfl);have hlp:=hgp.lenC;have hli:=hgi.lenC;have hokp:=eq_true (hgp.slcM kn fun p hp=>Jj _ (Jb _ hp)).ok;have hoki:=eq_true (hgi.slc kn).ok;rw[Qv]at hlp;rw[Q4]at hli;obtain⟨pb,hpb⟩:∃pb,decide ((kpP q ds.length y.phis).length<y.phis.length)=pb:=⟨_,rfl⟩;obtain⟨ib,hib⟩:∃ib,decide ((kpD q ds.length 0 y.ins).length<y.ins.length)=ib:=⟨_,rfl⟩;have hpb2:decide (((kpP q ds.length y.phis).length:Int)<(y.phis.length:Int))=pb:=(by rw[←hpb,decide_eq_decide];omega);have hib2:decide (((kpD q ds.length 0 y.ins).length:Int)<(y.ins.length:Int))=ib:=(by rw[←hib,decide_eq_decide];omega);have hsn2:=hsn (sm || ib || pb) (by rw[←hpb,←hib];rfl);have done:∀(e:Env),lk 1 e=.c (.pp [.int .i64 q.params,.int .i64 q.regs,.sl false 5 (Qn q.blocks)])→lk 2 e=.c (.ptr x2 0)→lk 4 e=.c (.ptr x4 0)→lk 5 e=.c (.ptr x5 0)→lk 6 e=.c (.bool (sm || ib || pb))→lk 7 e=.c (.int .i64 ds.length)→lk 10 e=.c t→lk 12 e=.c t2→Qam prog Q9o Q e H12:=by
         intro e l1 l2 l4 l5 l6 l7 l10 l12;have hx5:=kn.l 3 rfl;have hz:=kn.l 2 rfl;simp only[BlkD.cells]at hz;refine Qa ?_;simp only[go_sem,l1,l2,l4,l5,l6,l7,l10,l12,htw,htw2,hx5,hz,rlen,rtake,rget,rset,hlt,Jg,Jl];intro H13 h13;have kn:Kn H H13 [] ((((onE x2 x4 z x5 zi zo q (RD++[t,.sl false 4 (Qag y.ins),.int .i64 y.jump,.int .i64 y.on,.sl false 1 (Qb y.next)]::RK)++A)++[(y9,.vec 1 (Qy bs'))])++Lp)++Li):=kn.stL 2 rfl h13;have hx5:=kn.l 3 rfl;have hz:=kn.l 2 rfl;refine Qt ?_;simp only[go_sem,l1,l2,l4,l5,l6,l7,l10,l12,htw,htw2,hx5,hz,rlen,rtake,rget,rset,hlt,Jg,Jl];intro H14 h14;have kn:Kn H H14 [] ((((onE x2 x4 z x5 zi zo q (RD++d.row::RK)++A)++[(y9,.vec 1 (Qy bs'))])++Lp)++Li):=by
          rw[erow];exact kn.stL 2 rfl h14
         refine hnr _ _ ⟨d,sm || ib || pb,hdok,hdy,hsn2,Kn.drop (B:=[(y9,.vec 1 (Qy bs'))]) (kn.perm (Qp fun f hf h0 hc hp=>?_)),rfl,rfl,rfl,rfl,rfl,rfl⟩;rw[elg];simp only[hf];omega
        cases hsb:sm with
        |true=>
         rw[hsb]at l6 done;refine Qa ?_;simp only[go_sem,l1,l2,l4,l5,l6,l7,l10,l12,htw,htw2];exact done _ rfl rfl rfl rfl rfl rfl rfl rfl
        |false=>
         rw[hsb]at l6 done
         cases hib3:ib with
         |true=>
          rw[hib3]at hib2 done;refine Qa ?_;simp only[go_sem,l1,l2,l4,l5,l6,l7,l10,l12,htw,htw2,hlp,hli,hokp,hoki,hlt,Ql,Q1 _ _ hlt,BlkD.cells,hy,Q4,hib2];try intro _
          try intro _
          exact done _ rfl rfl rfl rfl rfl rfl rfl rfl
         |false=>
          rw[hib3]at hib2 done;refine Qa ?_;simp only[go_sem,l1,l2,l4,l5,l6,l7,l10,l12,htw,htw2,hlp,hli,hokp,hoki,hlt,Ql,Q1 _ _ hlt,BlkD.cells,hy,Q4,Qv,hib2,hpb2];try intro _
          try intro _
          try intro _
          try intro _
          exact done _ rfl rfl rfl rfl rfl rfl rfl rfl
   ·rintro e4 H9 ⟨d,sm',hdok,hdy,hsm2,kn,l1,l2,l4,l5,l6,l7⟩;refine Qt ?_;simp only[go_sem,l1,l2,l4,l5,l6,l7];refine⟨Qs (by omega) (by omega),?_⟩;show ∃m,_;refine⟨q.blocks.length-(ds.length+1),by omega,ds++[d],sm',by simp,by simp only[Jh,Jc,Je];omega,fun w hw=>?_,fun i h1 h2=>?_,by simpa using hsm2,?_,rfl,rfl,rfl,rfl,rfl,by simp[lk]⟩
    ·rcases Jr.1 hw with hw|hw
     ·exact hdo w hw
     ·simp only[Ja]at hw;rw[hw];exact hdok
    ·by_cases hi:i<ds.length
     ·rw[List.getElem_append_left hi];exact hdr i h1 hi
     ·have hie:i=ds.length:=(by simp only[Jh,Jc,Je]at h2;omega);subst hie;rw[hy];simpa using hdy
    ·have e1:(ds++[d]).map DBlk.row++Qn (q.blocks.drop (ds++[d]).length)=RD++d.row::RK:=by
      rw[J6,hRD,Jh,Jai,hRK];simp
     have e2:(ds++[d]).flatMap DBlk.lg=A++d.lg:=(by simp[Jad,hA]);rw[e1,e2];exact kn
  ·intro hc;have hge:ds.length=q.blocks.length:=by have:q.blocks.length≤ds.length:=(by simpa using hc);omega
   have hde:(Qaq q).blocks=ds.map DBlk.y:=by
    refine Js (by rw[Qi6,Jf,hge]) fun i a b=>?_;have h3:i<ds.length:=(by simpa using b);rw[Qx3 (by omega) a,Jx,hdr i (by omega) h3]
   rw[hge]at hsm kn;have hd0:q.blocks.drop q.blocks.length=[]:=List.drop_length;rw[hd0]at kn;obtain⟨f1,f2⟩:=hsm.fin;refine Qw ?_;simp only[go_sem,X.next];have hx5:=kn.l 3 rfl;have hx2:=kn.l 0 rfl;refine Qa ?_;simp only[go_sem,l1,l2,l5,l6,hx5,hx2];intro H9 h9;have kn:Kn H H9 [] ([(x2,.st [.int .i64 q.params,.int .i64 q.regs,.vsl z 5 0 q.blocks.length]),(x4,.st [.sl false 1 (Qib zi),.sl false 1 (Qib zo)]),(z,.vec 5 (ds.map DBlk.row++Qn [])),(x5,.st [.int .i64 q.params,.int .i64 q.regs,.vsl z 5 0 q.blocks.length])]++ds.flatMap DBlk.lg):=kn.stL 0 rfl h9;have hx2:=kn.l 0 rfl;simp only[go_sem,Q4h];have hmem:∀p∈ds.flatMap DBlk.lg,H9 p.1=p.2∧un H p.1=true:=fun p hp=>
    ⟨(kn.get p (Jb _ (Jb _ hp))).1,Qj1 (kn.loc p (Jb _ hp))⟩
   have hz:H9 z=.vec 5 (ds.map DBlk.row++Qn []):=kn.l 2 rfl;have hzu:un H z=true:=kn.un 2 rfl;have hz':H9 z=.vec 5 (ds.map DBlk.row):=by rw[hz];simp[Qn]
   have hrows:FrzR H9 (un H) (ds.map DBlk.row) (Qn (Qaq q).blocks):=by
    rw[hde];exact DBlk.frzR hdo fun w hw p hp=>hmem p (Jao.2 ⟨w,hw,hp⟩)
   refine Qk ?_;simp only[go_sem,Q5,Qae,Qayf,Jo,Jt,RS.op,hx2];exact⟨fun _=>trivial,_,Qs5 (FrzL.ag (.cons (Qi rfl) (.cons (Qi rfl) (.cons (FrzR.vsl hzu hz' (by rw[Jf,hge]) hrows) .nil)))) (.c _ _ (Qi rfl)),hK sm _ f1 f2 kn.fin⟩
set_option maxHeartbeats 2000000 in
theorem Qbi4 {q0:CodeD}(ho:q0.ok)(hK:∀d H',Idl q0 d→Upd H H' []→K (.ag d.cells) H'):Qr prog Q5d [.ag q0.cells] H K:=by
 refine Q3 ?_;refine Qc Qal Qbjq ?_;refine Qa ?_;simp only[go_sem,CodeD.cells];intro x2 hx2 H1 h1;have kn:=(Kn.start0 H).al hx2 h1;refine Qa ?_;simp only[go_sem];refine Qaxf ho fun sm H2 f1 f2 hu=>?_;have kn:=kn.call0 hu;simp only[go_sem,Q9a,J4,J3,CodeD.cells];intro x3 hx3 H3 h3;have kn:=kn.al hx3 h3;have hx3:=kn.l 1 rfl;simp only[go_sem,Q89,hx3];intro H4 h4;have kn:Kn H H4 [] [(x2,.st [.int .i64 0,.int .i64 0,.sl true 5 []]),(x3,.st (Qaq q0).cells)]:=kn.stL 1 rfl h4;simp only[go_sem,Q88];refine Qh (Qe (Qx (fun m e1 H1=>∃(d:CodeD) (sm:Bool),m=(cond sm 1 0:Nat)+Qfc d∧(∃n,d=Nat.repeat Qaq n q0)∧(sm=false→Qaq d=d)∧Kn H H1 [] [(x2,.st [.int .i64 0,.int .i64 0,.sl true 5 []]),(x3,.st d.cells)]∧
  lk 2 e1=.c (.ptr x2 0)∧lk 3 e1=.c (.ptr x3 0)∧lk 4 e1=.c (.bool sm)) ((cond sm 1 0:Nat)+Qfc (Qaq q0)) ?_ ?_))
 ·exact⟨Qaq q0,sm,rfl,⟨1,rfl⟩,fun h=>by rw[f1 h];exact f1 h,kn,rfl,rfl,rfl⟩
 ·clear kn hx3;rintro m e1 H5 ⟨d,sm,hm,⟨n,hn⟩,hfix,kn,l2,l3,l4⟩;have hdo:d.ok:=by rw[hn];exact (Qatp n).ok ho
  refine Qaa ?_;refine Qa ?_;simp only[go_sem,l2,l3,l4];refine Qh (Qd rfl ?_ ?_)
  ·intro hc;have hs:sm=true:=hc;have hx3:=kn.l 1 rfl;simp only[CodeD.cells]at hx3;refine Qg ?_;try simp only[go_sem]
   refine Qe ?_;refine Qt ?_;simp only[go_sem,l2,l3,hx3];refine Qaxf hdo fun sm2 H6 g1 g2 hu=>?_;have kn:=kn.call0 hu;have hx3:=kn.l 1 rfl;simp only[CodeD.cells]at hx3;simp only[go_sem,Q9c,J4,J3,CodeD.cells,hx3];intro H7 h7;have kn:Kn H H7 [] [(x2,.st [.int .i64 0,.int .i64 0,.sl true 5 []]),(x3,.st (Qaq d).cells)]:=kn.stL 1 rfl h7;simp only[go_sem,Q9b];show ∃m,_;refine⟨_,?_,Qaq d,sm2,rfl,⟨n+1,by rw[hn];rfl⟩,fun h=>by rw[g1 h];exact g1 h,kn,rfl,rfl,rfl⟩;rw[hm,hs];have hle:=(once_shr (q:=d)).cnt.1
   cases sm2 with
   |false=>simp only[cond_true,cond_false];omega
   |true=>
    have:=g2 rfl;simp only[cond_true];omega
  ·intro hc;have hs:sm=false:=hc;have hx3:=kn.l 1 rfl;have hx2:=kn.l 0 rfl;simp only[CodeD.cells]at hx3;refine Qw ?_;simp only[go_sem,X.next];refine Qa ?_;simp only[go_sem,l2,l3,hx3,hx2];intro H6 h6;have kn:=kn.stL 0 rfl h6;have hx2:=kn.l 0 rfl;refine Qk ?_;simp only[go_sem,Q5,Qae,Qaya,Ja,forall_eq,RS.op,hx2];exact⟨_,Qbbi d,hK d _ ⟨n,hn,hfix hs⟩ kn.fin⟩
end Go.AE.Y
namespace Go.AE.Y
attribute [local go_sem] cond_true cond_false Bool.not_true Bool.not_false
open Go.Proofs.Tryz
variable {H H0 F:Heap}{K:V→Heap→Prop}{E L B:List (Nat×Obj)}{fl:Bool}
attribute [local instance] Classical.propDecidable
def Drc (c d:CodeD):Prop:=Idl c d
theorem Qbj8 {l:List CodeD}(hl:l.length≤4)(ho:∀c∈l,c.ok)
  (hK:∀ds H',ds.length=l.length→(∀i (h1:i<l.length) (h2:i<ds.length),Drc l[i] ds[i])→Upd H H' []→K (.c (.sl false 3 (Qj ds))) H') :
  Qr prog Qcv [.c (.sl fl 3 (Qj l)),.c (.fn Qcr [])] H K:=by
 refine Q3 ?_;refine Qc Qal Qs9 ?_;refine Qa ?_;simp only[go_sem];refine Qa ?_;simp only[go_sem];refine Qaa ?_;refine Qa ?_;simp only[go_sem,Qo];intro _;refine Qh (Qe (Qx (fun m e1 H1=>∃(ds:List CodeD) (t:C) (Lg:List (Nat×Obj)),m=l.length-ds.length∧ds.length≤l.length∧(∀i (h1:i<l.length) (h2:i<ds.length),Drc l[i] ds[i])∧Gr Lg 3 (Qj ds) t∧Kn H H1 [] ([]++Lg)∧
  e1=[(1,.c (.fn Qcr [])),(5,.c t),(8,.c (.sl fl 3 (Qj l))),(9,.c (.int .i64 l.length)),(10,.c (.int .i64 ds.length))]) l.length ?_ ?_))
 ·exact⟨[],_,[],by simp,by simp,by simp,.nil 3,Kn.start0 H,rfl⟩
 ·rintro m e1 H1 ⟨ds,t,Lg,hm,hi,hdr,hgr,kn,rfl⟩;have htw:=hgr.isOw;refine Qa ?_;simp only[go_sem,htw];refine Qh (Qd rfl ?_ ?_)
  ·intro hc;have hlt:ds.length<l.length:=by simpa using hc
   obtain⟨p,hp⟩:∃p,l[ds.length]=p:=⟨_,rfl⟩;have hpm:p∈l:=by rw[←hp];exact Jm hlt
   refine Qg ?_;try simp only[go_sem]
   refine Qh (Qe ?_);refine Qa ?_;simp only[go_sem,htw,hlt,Qo,Q0 _ _ hlt,CodeD.cells,hp];intro x7 hx7 H2 h2;have kn:=kn.al hx7 h2;have hx7:H2 x7=.st [.int .i64 0,.int .i64 0,.sl true 5 []]:=(kn.get (x7,.st [.int .i64 0,.int .i64 0,.sl true 5 []]) (by simp)).1;simp only[go_sem,Qei,hx7,htw];intro H3 h3;have kn:Kn H H3 [] ([(x7,.st [.int .i64 p.params,.int .i64 p.regs,.sl false 5 (Qn p.blocks)])]++Lg):=by
    have:=kn.stL ([]++Lg).length (x:=x7) (o:=.st [.int .i64 0,.int .i64 0,.sl true 5 []]) (by simp) h3;refine Kn.perm (by simpa using this) ?_;exact Jk
   have hx7:=kn.l 0 rfl;refine Qt ?_;simp only[go_sem,htw,hx7,Jq,J5];refine Qbd0 (ho p hpm) fun d H4 hid hu=>?_;have kn:=kn.call0 hu;simp only[go_sem,Qek,htw,CodeD.cells];refine kn.growR (new:=Qj [d]) hgr (.mk' _ _ _ _) (Qbe _) (by simp only[Qo,LIM,Jc,Je];omega) fun t2 Lg2 H5 hgr2 ht2 kn=>?_;simp only[go_sem,Qej,ht2];refine Qt ?_;simp only[go_sem,X.next,ht2];refine⟨Qs (by omega) (by omega),l.length-(ds.length+1),by omega,ds++[d],t2,Lg2,by simp,by simp;omega,fun i h1 h2=>?_,?_,?_,by simp⟩
   ·by_cases hi:i<ds.length
    ·rw[List.getElem_append_left hi];exact hdr i h1 hi
    ·have hie:i=ds.length:=(by simp only[Jh,Jc,Je]at h2;omega);subst hie;rw[hp];have:(ds++[d])[ds.length]=d:=(by simp);rw[this];exact hid
   ·have:Qj (ds++[d])=Qj ds++Qj [d]:=(by simp[Qj]);rw[this];exact hgr2
   ·exact Kn.drop (B:=[(x7,.st [.int .i64 p.params,.int .i64 p.regs,.sl false 5 (Qn p.blocks)])]) (kn.perm Jk)
  ·intro hc;have hge:ds.length=l.length:=by have:l.length≤ds.length:=(by simpa using hc);omega
   refine Qw ?_;simp only[go_sem,X.next];refine Qa ?_;simp only[go_sem,htw];refine Qk ?_;simp only[go_sem,Q5,Qae,Qg2,Ja,forall_eq,RS.op,htw];exact⟨_,.c _ _ (hgr.frz kn (Qbe _)),hK ds _ hge hdr kn.fin⟩
def DropOk (cs ds:List CodeD):Prop:=(Qbr cs=true∧ds.length=cs.length∧∀i (h1:i<cs.length) (h2:i<ds.length),Drc cs[i] ds[i])∨(Qbr cs=false∧ds=[])
theorem Qbkg {cs:List CodeD}(hfit:∀c∈cs,c.fits)(hK:∀ds H',DropOk cs ds→Upd H H' []→K (.tup [.ag [.sl false 3 (Qj ds)],.c (.bool (Qbr cs))]) H') :
  Qr prog Qnu [.ag [.sl fl 3 (Qj cs)],.c (.fn Qcr [])] H K:=by
 refine Q3 ?_;refine Qc Qal Qaxo ?_;refine Qa ?_;simp only[go_sem];intro x4 hx4 H1 h1;have kn:=(Kn.start0 H).al hx4 h1;simp only[go_sem,Quq];refine Qaa ?_;refine Qa ?_;simp only[go_sem];refine Qck hfit fun H2 hu=>?_;have kn:=kn.call0 hu;simp only[go_sem,Qur];have hx4:=kn.l 0 rfl;refine Qh (Qd rfl ?_ ?_)
 ·intro hc;have hc:=Qtc hc;refine Qa ?_;simp only[go_sem,hx4];intro H3 h3;have kn:=kn.stL 0 rfl h3;have hx4:=kn.l 0 rfl;simp only[go_sem,Qus];refine Qk ?_;simp only[go_sem,X.next,Q5,Qae,Qtn,Jo,Jt,RS.op,hx4];have hK:=hK [] _ (.inr ⟨hc,rfl⟩) kn.fin;rw[hc]at hK;exact⟨fun _=>trivial,_,Qs5 (FrzL.ag (.cons FrzR.nil.sl .nil)) (.c _ _ (Qi rfl)),hK⟩
 ·intro hc;have hg:=Qh8 hc;have hc4:cs.length≤4:=by have:=(of_decide_eq_true hg).1;omega
  refine Qg ?_;try simp only[go_sem]
  refine Qa ?_;simp only[go_sem];refine Qbj8 hc4 (fun c hc=>by obtain⟨i,hi,rfl⟩:=J0.1 hc;exact Qly hg hi) fun ds H3 hdl hdr hu=>?_;have kn:=kn.call0 hu;have hx4:=kn.l 0 rfl;simp only[go_sem,Quu,hx4];intro H4 h4;have kn:=kn.stL 0 rfl h4;have hx4:=kn.l 0 rfl;simp only[go_sem,Qut];refine Qk ?_;simp only[go_sem,X.next,Q5,Qae,Qtn,Jo,Jt,RS.op,hx4];have hK:=hK ds _ (.inl ⟨hg,hdl,hdr⟩) kn.fin;rw[hg]at hK;exact⟨fun _=>trivial,_,Qs5 (Qo3 ds) (.c _ _ (Qi rfl)),hK⟩
theorem Qbdj {cs:List CodeD}(hfit:∀c∈cs,c.fits)(hK:∀ds H',DropOk cs ds→Upd H H' []→K (.tup [.ag [.sl false 3 (Qj ds)],.c (.bool (Qbr cs))]) H') :
  Qr prog Qk4 [.ag [.sl fl 3 (Qj cs)]] H K:=by
 refine Q3 ?_;refine Qc Qal Qasy ?_;refine Qa ?_;simp only[go_sem];intro x2 hx2 H1 h1;have kn:=(Kn.start0 H).al hx2 h1;simp only[go_sem,Qpc];refine Qa ?_;simp only[go_sem];refine Qbkg hfit fun ds H2 hd hu=>?_;have kn:=kn.call0 hu;have hx2:=kn.l 0 rfl;simp only[go_sem,Qpe,J4,J3,hx2];intro H3 h3;have kn:=kn.stL 0 rfl h3;have hx2:=kn.l 0 rfl;simp only[go_sem,Qpd];refine Qk ?_;simp only[go_sem,Q5,Qae,Q2w,Jo,Jt,RS.op,hx2];exact⟨fun _=>trivial,_,Qs5 (Qo3 ds) (.c _ _ (Qi rfl)),hK ds _ hd kn.fin⟩
theorem DropOk.unit {cs ds:List CodeD}(h:DropOk cs ds)(hg:Qbr cs=true):Qbr ds=true∧ds.length=cs.length∧∀i (h1:i<cs.length) (h2:i<ds.length),Idl cs[i] ds[i]:=by
 rcases h with ⟨_,hl,h⟩|⟨h,_⟩
 ·exact⟨Qbc6 hg hl fun k h1 h2=>(h k h1 h2).shr,hl,h⟩
 ·rw[hg]at h;simp at h
theorem DropOk.fits {cs ds:List CodeD}(h:DropOk cs ds):∀c∈ds,c.fits:=by
 rcases h with ⟨hg,hl,h⟩|⟨_,rfl⟩
 ·intro c hc;obtain⟨i,hi,rfl⟩:=J0.1 hc;exact ((h i (by omega) hi).shr.ok (Qly hg (by omega))).fts
 ·simp
theorem DropOk.uniq {cs ds es:List CodeD}(h:DropOk cs ds)(k:DropOk cs es):ds=es:=by
 rcases h with ⟨hg,hl,h⟩|⟨hg,rfl⟩
 ·rcases k with ⟨_,kl,k⟩|⟨hf,_⟩
  ·exact Js (by omega) fun i h1 h2=>(h i (by omega) h1).uniq (k i (by omega) h2)
  ·rw[hg]at hf;simp at hf
 ·rcases k with ⟨hf,_⟩|⟨_,rfl⟩
  ·rw[hg]at hf;simp at hf
  ·rfl
theorem Qamf {bs:List UInt8}(hK:∀(cs:List CodeD) H',Upd H H' []→UnitOk cs→K (.ag [.sl false 3 (Qj cs)]) H') :
  Qr prog Qes [.c (.sl fl 1 (Qbs bs))] H K:=by
 refine Q3 ?_;refine Qc Qal Q5u ?_;refine Qa ?_;simp only[go_sem];intro x2 hx2 H1 h1;have kn:=(Kn.start0 H).al hx2 h1;refine Qa ?_;simp only[go_sem];refine Qaxg fun R H2 hR h2=>?_;have kn:=kn.al hR h2 (R.o_ne 0);simp only[go_sem,Qhz];refine Qaxd (kn.l 1 rfl) (by omega) fun cs H3 k2 hk3 hk4 hu hok=>?_;have kn:=kn.callL 1 rfl hu (R.o_ne _);have hx2:=kn.l 0 rfl;simp only[go_sem,Qhy,hx2];intro H4 h4;have kn:=kn.stL 0 rfl h4;have hx2:=kn.l 0 rfl;refine Qk ?_;simp only[go_sem,Q5,Qae,Qmo,Ja,forall_eq,RS.op,hx2];exact⟨_,Qo3 cs,hK cs _ kn.fin hok⟩
end Go.AE.Y
namespace Go.AE.Y
attribute [local go_sem] cond_true cond_false Bool.not_true Bool.not_false
attribute [local instance] Classical.propDecidable
open Go.Proofs.Tryz
variable {H H0:Heap}{K:V→Heap→Prop}{E B Lg:List (Nat×Obj)}{q:CodeD}
theorem Qbei (hq:q.ok)(hK:∀(d:CodeD) H',Idl q d→Upd H H' []→K (.ag d.cells) H') :
  Qr prog Q5a [.ag [.int .i64 q.params,.int .i64 q.regs,.sl false 5 (Qn q.blocks)],.c (.str [105,100,108,101])] H K:=by
 refine Q3 ?_;refine Qc Qal Qbjn ?_;refine Qa ?_;simp only[go_sem];intro x4 hx4 H1 h1;have kn:=(Kn.start0 H).al hx4 h1;refine Qaa ?_;refine Qa ?_;simp only[go_sem];refine Qh (Qe ?_);refine Qa ?_;simp only[go_sem];refine Qd rfl (fun hc=>absurd hc (by decide)) (fun _=>?_);refine Qa ?_;simp only[go_sem];refine Qd rfl (fun hc=>absurd hc (by decide)) (fun _=>?_);refine Qa ?_;simp only[go_sem];refine Qd rfl (fun hc=>absurd hc (by decide)) (fun _=>?_);refine Qa ?_;simp only[go_sem];refine Qd rfl (fun _=>?_) (fun hc=>absurd hc (by decide));refine Qa ?_;simp only[go_sem];refine Qbi4 hq fun d H2 hd hu=>?_;have kn:=kn.call0 hu;have hx4:=kn.l 0 rfl;simp only[go_sem,Q8x,CodeD.cells,hx4];intro H3 h3;have kn:=kn.stL 0 rfl h3;have hx4:=kn.l 0 rfl;refine Qk ?_;simp only[go_sem,X.next,Q5,Qae,Qax8,Ja,forall_eq,RS.op,hx4];exact⟨_,Qbbi d,hK d _ hd kn.fin⟩
set_option maxHeartbeats 4000000 in
theorem Qbeh {cs:List CodeD}{fl:Bool}(hfit:∀c∈cs,c.fits)(hK:∀ds H',DropOk cs ds→Upd H H' []→K (.tup [.ag [.sl false 3 (Qj ds)],.c (.bool (Qbr cs))]) H') :
  Qr prog Q49 [.ag [.sl fl 3 (Qj cs)],.c (.str [105,100,108,101])] H K:=by
 refine Q3 ?_;refine Qc Qal Qbjm ?_;refine Qa ?_;simp only[go_sem];intro x4 hx4 H1 h1;have kn:=(Kn.start0 H).al hx4 h1;simp only[go_sem,Q8r];refine Qaa ?_;refine Qa ?_;simp only[go_sem];refine Qj6 hfit fun H2 hu=>?_;have kn:=kn.call0 hu;simp only[go_sem,Q8s];refine Qh (Qd rfl ?_ ?_)
 ·intro hc;have hc:Qbr cs=false:=Qtc hc;have hx4:=kn.l 0 rfl;refine Qa ?_;simp only[go_sem,hx4];intro H3 h3;have kn:=kn.stL 0 rfl h3;have hx4:=kn.l 0 rfl;simp only[go_sem,Q8t];refine Qk ?_;simp only[go_sem,X.next,Q5,Qae,Qafr,Jo,Jt,RS.op,hx4];have hK:=hK [] _ (.inr ⟨hc,rfl⟩) kn.fin;rw[hc]at hK;exact⟨fun _=>trivial,_,Qs5 (FrzL.ag (.cons (FrzR.nil.sl) .nil)) (.c _ _ (Qi rfl)),hK⟩
 ·intro hc;have hG:Qbr cs=true:=Qh8 hc;refine Qg ?_;try simp only[go_sem]
  refine Qa ?_;simp only[go_sem];intro x6 hx6 H3 h3;have kn:=kn.al hx6 h3;have hx6:=kn.l 1 rfl;simp only[go_sem,Q8u,hx6];intro H4 h4;have kn:Kn H H4 [] [(x4,.st [.sl true 3 []]),(x6,.st [.sl true 3 []])]:=kn.stL 1 rfl h4;refine Qaa ?_;refine Qa ?_;simp only[go_sem];have hcl:=(Qbde hfit hG).1;refine Qh (Qe (Qx (fun m e1 H1=>∃(ds:List CodeD) (t:C) (Lg:List (Nat×Obj)),m=cs.length-ds.length∧ds.length≤cs.length∧(∀i (h1:i<cs.length) (h2:i<ds.length),Idl cs[i] ds[i])∧Gr Lg 3 (Qj ds) t∧Kn H H1 [] ([(x4,.st [.sl true 3 []]),(x6,.st [t])]++Lg)∧
   lk 1 e1=.c (.str [105,100,108,101])∧lk 2 e1=.c (.pp [.sl fl 3 (Qj cs)])∧lk 4 e1=.c (.ptr x4 0)∧lk 6 e1=.c (.ptr x6 0)∧lk 7 e1=.c (.int .i64 ds.length)) cs.length ?_ ?_))
  ·exact⟨[],_,[],by simp,by simp,by simp,.nil 3,by simpa using kn,rfl,rfl,rfl,rfl,rfl⟩
  ·clear kn hx6;rintro m e1 H5 ⟨ds,t,Lg,hm,hdl,hds,hgr,kn,l1,l2,l4,l6,l7⟩;have htw:=hgr.isOw;refine Qaa ?_;refine Qa ?_;simp only[go_sem,l1,l2,l4,l6,l7,Qo];try intro _
   refine Qh (Qd rfl ?_ ?_)
   ·intro hc2;have hlt:ds.length<cs.length:=(by simpa using hc2);have hx6:=kn.l 1 rfl;obtain⟨q,hq⟩:∃q,cs[ds.length]=q:=⟨_,rfl⟩;have hqs:q.ok:=(by rw[←hq];exact Qly hG hlt);refine Qg ?_;try simp only[go_sem]
    refine Qh (Qe ?_);refine Qbn ?_;simp only[go_sem,l1,l2,l4,l6,l7,hx6,htw,hlt,Qo,Q0 _ _ hlt,CodeD.cells,hq];refine Qbei hqs fun d H6 hd hu=>?_;have kn:=kn.call0 hu;have hx6:=kn.l 1 rfl;simp only[go_sem,Q8w,CodeD.cells,hx6,htw];refine kn.growR (new:=Qj [d]) hgr (.mk' _ _ _ _) (Qbe _) (by simp only[Qo,LIM,Jc,Je];omega) fun t2 Lg2 H7 hgr2 ht2 kn=>?_;have hx6:=kn.l 1 rfl;simp only[go_sem,Q8v,hx6,ht2];intro H8 h8;have kn:=kn.stL 1 rfl h8;refine Qt ?_;simp only[go_sem,l1,l2,l4,l6,l7];refine⟨Qs (by omega) (by omega),?_⟩;show ∃m,_;refine⟨cs.length-(ds.length+1),by omega,ds++[d],t2,Lg2,by simp,by simp only[Jh,Jc,Je];omega,fun i h1 h2=>?_,?_,kn,rfl,rfl,rfl,rfl,by simp[lk]⟩
    ·by_cases hi:i<ds.length
     ·rw[List.getElem_append_left hi];exact hds i h1 hi
     ·have hie:i=ds.length:=(by simp only[Jh,Jc,Je]at h2;omega);subst hie;rw[hq];have:(ds++[d])[ds.length]=d:=(by simp);rw[this];exact hd
    ·have:Qj (ds++[d])=Qj ds++Qj [d]:=(by simp[Qj]);rw[this];exact hgr2
   ·intro hcx;have hdl2:ds.length=cs.length:=(by have:cs.length≤ds.length:=(by simpa using hcx);omega);have hD:DropOk cs ds:=.inl ⟨hG,hdl2,hds⟩;have hG2:=(hD.unit hG).1;refine Qw ?_;simp only[go_sem,X.next];have hx6:=kn.l 1 rfl;obtain⟨S,hSL,hSB,hfz,kn⟩:=kn.freeze0;have hx6b:=hSB (x6,.st [t]) (by simp);have hft:FrzC H5 S t (.sl false 3 (Qj ds)):=Gr.frzM hgr hSL (FrzR.same (Qbe _));have kn:=kn.setL (o':=.st [.sl false 3 (Qj ds)]) 1 rfl (by simp);refine c_gh (Qgc S (Qash ?_) (hfz.set (o:=.st [.sl false 3 (Qj ds)]) hx6b.2 (by rw[hx6b.1];exact FrzKL.st (.cons htw hft .nil)))) (e':=[(4,.c (.ptr x4 0)),(6,.c (.ptr x6 0))]) ?_
    ·simp only[Jo];exact⟨.c _ _ (.same _ rfl),.c _ _ (.same _ rfl),by simp⟩
    generalize (H5.frz S).set x6 (Obj.st [C.sl false 3 (Qj ds)])=H6 at *;have hx6:=kn.l 1 rfl;have hx4:=kn.l 0 rfl;clear hfz hx6b hft hSL hSB;refine Qaa ?_;refine Qa ?_;simp only[go_sem,hx6];refine Qj6 hD.fits fun H7 hu=>?_;have kn:=kn.call0 hu;have hx6:=kn.l 1 rfl;have hx4:=kn.l 0 rfl;simp only[go_sem,Q4c];refine Qh (Qd rfl ?_ ?_)
    ·intro h;rw[hG2]at h;simp at h
    ·intro hc3;refine Qg ?_;try simp only[go_sem]
     refine Qa ?_;simp only[go_sem,hx6,hx4];intro H8 h8;have kn:=kn.stL 0 rfl h8;have hx4:=kn.l 0 rfl;simp only[go_sem,Q4d];refine Qk ?_;simp only[go_sem,X.next,Q5,Qae,Qafr,Jo,Jt,RS.op,hx4];have hK:=hK ds _ hD kn.fin;rw[hG]at hK;exact⟨fun _=>trivial,_,Qs5 (Qo3 ds) (.c _ _ (Qi rfl)),hK⟩
theorem Qa3y {cs:List CodeD}{fl:Bool}(hfit:∀c∈cs,c.fits)(hK:∀ds H',DropOk cs ds→Upd H H' []→K (.tup [.ag [.sl false 3 (Qj ds)],.c (.bool (Qbr cs))]) H') :
  Qr prog Qld [.ag [.sl fl 3 (Qj cs)]] H K:=by
 refine Q3 ?_;refine Qc Qal Qatf ?_;refine Qa ?_;simp only[go_sem];intro x2 hx2 H1 h1;have kn:=(Kn.start0 H).al hx2 h1;simp only[go_sem,Qq0];refine Qa ?_;simp only[go_sem];refine Qbeh hfit fun ds H2 hb hu=>?_;have kn:=kn.call0 hu;have hx2:=kn.l 0 rfl;simp only[go_sem,Qq2,J4,J3,hx2];intro H3 h3;have kn:=kn.stL 0 rfl h3;have hx2:=kn.l 0 rfl;simp only[go_sem,Qq1];refine Qk ?_;simp only[go_sem,Q5,Qae,Q3a,Jo,Jt,RS.op,hx2];exact⟨fun _=>trivial,_,Qs5 (Qo3 ds) (.c _ _ (Qi rfl)),hK ds _ hb kn.fin⟩
end Go.AE.Y
namespace Go.AE.Y
attribute [local instance] Classical.propDecidable
open Go.Proofs.Tryz
variable {H:Heap}{K:V→Heap→Prop}{cs ds:List CodeD}{bs:List UInt8}
theorem FnDropIdle_c (hgl:H 0=.gl 0 tryC)(hK:∀H',K (.c (.bool true)) H'):Qr prog Qaa8 [.c (.sl false 1 (Qbs bs))] H K:=
 Qbkt (dr:=Qes) (im:=Qk4) (sp:=Qld) (P:=DropOk) (G:=Qbr) (by kernel_rfl) (fun bs H K h=>Qamf h)
  (fun cs H K hf h=>Qbdj hf h) (fun cs H K hf h=>Qa3y hf h) (fun cs a b h1 h2=>h1.uniq h2) (fun cs ds hf h=>h.fits)
  (fun cs ds h hg=>by
   obtain⟨h1,h2,h3⟩:=h.unit hg;refine⟨hg,h1,?_,fun l=>Qbif hg h2 h3 l (by omega)⟩;have h0:=(Qad2 hg).n;have hlt:cs.length-1<cs.length:=by omega
   rw[Qew,Qew,h2,Qao hlt,Qao (show cs.length-1<ds.length by omega)];exact (h3 _ hlt (by omega)).shr.pr) hgl hK
end Go.AE.Y
