/- Part 4 of the proof: the engine, codes, walks and plain laws, each named where it stands. -/
import Derived.Test.YtlfdcfggpccakaaGreatDoorZC
import Derived.Shelf.Sort.Plain
import Derived.Shelf.Sort.So_math_bits_LenIn
open Nat (reduceEqDiff reduceAdd reduceLeDiff reduceLT)
set_option linter.unusedVariables false
set_option linter.unusedSimpArgs false
set_option maxRecDepth 4000
open Bool renaming and_eq_true->Jn,not_false->Jv,not_true->J5,false_eq_true->Jab
open Classical renaming byContradiction->Jak
open Iff renaming rfl->Jbl
open Int renaming eq_ofNat_of_zero_le->Jap
open List renaming mem_singleton->Ja,getD_eq_getElem?_getD->Jb,take_of_length_le->Jc,getElem_mem->Jd,take_succ_eq_append_getElem->Jf,getElem?_eq_getElem->Jg,mem_append->Jh,mem_append_left->Ji,mem_append_right->Jj,mem_map->Jk,length_map->Jm,map_cons->Jo,length_set->Jp,getD_cons_zero->Jq,getElem?_eq_none->Jr,length_cons->Js,mem_cons_of_mem->Jt,mem_cons_self->Ju,map_append->Jw,length_take->Jx,length_nil->Jy,cons_append->Jz,nil_append->J0,contains_iff_mem->J1,perm_append_comm->J2,nodup_append->J3,map_set->J4,mem_cons->J6,drop_eq_getElem_cons->J7,mem_or_eq_of_mem_set->J8,pairwise_iff_getElem->J9,map_nil->Jaa,getElem?_map->Jac,getElem?_set->Jad,getElem_take->Jae,take_append_drop->Jaf,any_eq_true->Jag,mem_iff_getElem->Jah,set_cons_succ->Jaj,ext_getElem?->Jal,idxOf_lt_length_iff->Jam,pairwise_map->Jan,getElem?_replicate->Jaq,sum_cons->Jar,all_eq_true->Jat,not_mem_nil->Jau,take_length->Jav,getElem_set_self->Jaw,set_set->Jax,drop_zero->Jaz,getElem_of_mem->Ja0,getElem?_drop->Ja1,getElem?_take->Ja2,length_append->Ja3,append_assoc->Ja5,getElem_map->Ja8,mem_flatMap->Ja9,count_cons->Jba,nodup_cons->Jbb,sum_append->Jbc,mem_range->Jbd,take_take->Jbe,map_take->Jbf,take_nil->Jbg,map_map->Jbh
open List.Pairwise renaming filter->Jbk
open Nat renaming le_refl->Je,zero_add->Jl,mul_le_mul_right->Jai,eq_zero_or_pos->Ja4,le_trans->Ja6,succ_mul->Ja7,add_zero->Jbi,lt_or_ge->Jbj
open Option renaming map_some->Jay
open Option.some renaming injEq->Jao
open Prod.mk renaming injEq->Jas
namespace Go.AE.Y
open Go.Proofs.Tryz
variable {F H:Heap}{w:Nat}{s:LS}{K:V→Heap→Prop}
structure LStep (s s':LS)(d:Nat):Prop where
 bl:s.blocks.length≤s'.blocks.length
 ok:∀N,s.ok N→s'.ok (N+d)
 vl:s.vars.length≤s'.vars.length
 at_:s.at_<s.blocks.length→s'.at_<s'.blocks.length
 fn:s'.fns=s.fns∧s'.pfl=s.pfl
theorem LStep.trans {s s' s'':LS}{d e:Nat}(h:LStep s s' d)(k:LStep s' s'' e):LStep s s'' (d+e):=
 ⟨Ja6 h.bl k.bl,fun N hN=>by rw[←Nat.add_assoc];exact k.ok _ (h.ok N hN),Ja6 h.vl k.vl,fun ha=>k.at_ (h.at_ ha),k.fn.1.trans h.fn.1,k.fn.2.trans h.fn.2⟩
theorem LStep.refl (s:LS):LStep s s 0:=⟨Je _,fun N h=>h,Je _,fun h=>h,rfl,rfl⟩
theorem LStep.mono {s s':LS}{d e:Nat}(h:LStep s s' d)(hd:d≤e):LStep s s' e:=⟨h.bl,fun N hN=>(h.ok N hN).mono (by omega),h.vl,h.at_,h.fn⟩
theorem Qs3 {N:Nat}(h:LInv F H w s)(hok:s.ok N)(hN:N+1≤2^38)(hK:∀(s':LS) (H':Heap),LInv F H' w s'→LStep s s' 1→K (.c (.int .i64 s.regs)) H') :
  Qr prog Qa9 [.c (.ptr w 0)] H K:=by
 have hw:=h.hw;have h0:=hok.r0;have h1:=hok.r1;refine Qc Qal Qatc ?_;refine Qa ?_;simp only[go_sem];refine Qa ?_;simp only[go_sem,hw,LS.o];refine⟨Qs (by omega) (by omega),fun H1 h1'=>?_⟩;have h':LInv F H1 w { s with regs:=s.regs+1 }:=h.setw h1' rfl rfl rfl rfl h.gv h.rv;have hw1:=h'.hw;refine Qa ?_;simp only[go_sem,hw1,LS.o];refine⟨Qs (by omega) (by omega),?_⟩;refine Qk ?_;simp only[go_sem,Q5,Qae,Q28,reduceIte,Ja,forall_eq,RS.op];refine hK _ H1 h' ⟨Je _,fun M hM=>⟨?_,?_,hM.n0,?_,?_,?_,?_⟩,Je _,fun h=>h,rfl,rfl⟩
 ·have:=hM.r0;show 0≤s.regs+1;omega
 ·have:=hM.r1;show s.regs+1≤_;omega
 ·have:=hM.n1;show s.next≤_;omega
 ·have:=hM.b1;show s.blocks.length≤_;omega
 ·intro b hb;have:=hM.i1 b hb;omega
 ·have:=hM.v1;show s.vars.length≤_;omega
theorem Qawt {N:Nat}(h:LInv F H w s)(hok:s.ok N)(hN:N+1≤2^38)(hK:∀(s':LS) (H':Heap),LInv F H' w s'→LStep s s' 1→s.blocks.length<s'.blocks.length→s'.at_=s.at_→K (.c (.int .i64 s.blocks.length)) H') :
  Qr prog Qaw [.c (.ptr w 0)] H K:=by
 have hw:=h.hw;have hb1:=hok.b1;have hbow:=h.gb.isOw;refine Qc Qal Qatb ?_;refine Qa ?_;simp only[go_sem];refine Qa ?_;simp only[go_sem,hw,LS.o,hbow];refine h.addBlk (b:=⟨.sl true 4 [],[],[],0,0,true,[]⟩) (by simp only[LIM];omega) rfl rfl rfl fun y H1 hw1 cont=>?_;simp only[go_sem,Qql,hw1,LS.o];intro H2 h2;have h':=cont H2 h2;have hw2:=h'.hw;obtain⟨y2,hv1,hv2,hv3⟩:=h'.bvec (by simp);simp only[C.vsl.injEq]at hv1;obtain⟨rfl,_⟩:=hv1;refine Qa ?_;simp only[go_sem,hw2,LS.o,hv3,Jm,Ja3];refine⟨by omega,fun hl=>⟨Qs (by omega) (by omega),?_⟩⟩;refine Qk ?_;simp only[go_sem,Q5,Qae,Q27,reduceIte,Ja,forall_eq,RS.op];have e1:(((s.blocks.length+1:Nat):Int)-1)=s.blocks.length:=by omega
 rw[e1];refine hK _ H2 h' ⟨by simp,fun M hM=>⟨hM.r0,?_,hM.n0,?_,?_,?_,?_⟩,Je _,fun ha=>by simp;show s.at_<_;omega,rfl,rfl⟩ (by simp) rfl
 ·have:=hM.r1;show s.regs≤_;omega
 ·have:=hM.n1;show s.next≤_;omega
 ·have:=hM.b1;simp;omega
 ·intro b hb;rcases Jh.1 hb with hb|hb
  ·have:=hM.i1 b hb;omega
  ·simp at hb;subst hb;simp
 ·have:=hM.v1;show s.vars.length≤_;omega
theorem Qh3 {N:Nat}(h:LInv F H w s)(hok:s.ok N)(hN:N+1≤2^38)(hK:∀(s':LS) (H':Heap),LInv F H' w s'→LStep s s' 1→s.blocks.length<s'.blocks.length→K (.c (.int .i64 s.blocks.length)) H') :
  Qr prog Qaw [.c (.ptr w 0)] H K:=Qawt h hok hN fun s' H' a b c _=>hK s' H' a b c
theorem Q5z {N:Nat}{op to n:Int}{fl:Bool}{args:List Int}(h:LInv F H w s)(hat:s.at_<s.blocks.length)(hok:s.ok N)(hN:N+1≤2^38)
  (hK:∀(s':LS) (H':Heap),LInv F H' w s'→LStep s s' 1→K (.c (.int .i64 to)) H') :
  Qr prog Qa1 [.c (.ptr w 0),.c (.int .i64 op),.c (.int .i64 to),.c (.int .i64 n),.c (.sl fl 1 (Qb args))] H K:=by
 have hw:=h.hw;obtain⟨y,hbc,hlb,hy⟩:=h.bvec (by omega);have hm:=Jd hat;have hi1:=hok.i1 _ hm;have hiow:=(h.gi _ hm).isOw;have hg1:List.getD (List.map Blk.row s.blocks) s.at_ []=s.blocks[s.at_].row:=by simp[Jb,hat]
 have hg2:List.getD (List.take s.blocks.length (List.map Blk.row s.blocks)) s.at_ []=s.blocks[s.at_].row:=by
  rw[Jc (by simp)];exact hg1
 refine Qc Qal Qa5b ?_;refine Qa ?_;simp only[go_sem];refine Qaj ?_;simp only[go_sem,hw,LS.o,hbc,hy,hat,Jl,Jm];refine Qa ?_;simp only[go_sem,hw,LS.o,hbc,hy,hat,hg2,Blk.row,hiow,Jl,Jm];refine h.addIns hat hbc hlb ⟨op,to,n,fl,args,rfl⟩ (by simp only[LIM];omega) fun z H1 hw1 hy1 cont=>?_;simp only[go_sem,Q0p,hy1,hg1,hat,Blk.row,Jl,Jm];intro H2 h2;obtain⟨b',hb',h'⟩:=cont H2 h2;refine Qa ?_;simp only[go_sem];refine Qk ?_;simp only[go_sem,Q5,Qae,Qaf2,reduceIte,Ja,forall_eq,RS.op];refine hK _ H2 h' ⟨by simp,fun M hM=>⟨hM.r0,?_,hM.n0,?_,?_,?_,?_⟩,Je _,fun ha=>by simp;show s.at_<_;omega,rfl,rfl⟩
 ·have:=hM.r1;show s.regs≤_;omega
 ·have:=hM.n1;show s.next≤_;omega
 ·have:=hM.b1;simp;omega
 ·intro b hb;rcases Qge hb with rfl|hb
  ·have:=hM.i1 _ hm;omega
  ·have:=hM.i1 b hb;omega
 ·have:=hM.v1;show s.vars.length≤_;omega
theorem Qzi {N:Nat}{kind on:Int}{at':Nat}{fl:Bool}{next:List Int}(h:LInv F H w s)(hat:s.at_<s.blocks.length)(hat':at'<s.blocks.length)
  (hK:∀(s':LS) (H':Heap),LInv F H' w s'→LStep s s' 0→K (.tup []) H') :
  Qr prog Qa3 [.c (.ptr w 0),.c (.int .i64 kind),.c (.int .i64 on),.c (.sl fl 1 (Qb next)),.c (.int .i64 at')] H K:=by
 have hw:=h.hw;obtain⟨y,hbc,hlb,hy⟩:=h.bvec (by omega);have hm:=Jd hat;have hg1:List.getD (List.map Blk.row s.blocks) s.at_ []=s.blocks[s.at_].row:=by simp[Jb,hat]
 refine Qc Qal Qaxz ?_;refine Qaj ?_;simp only[go_sem,hw,LS.o,hbc,hy,hat,Jl,Jm];refine Qa ?_;simp only[go_sem,hy,hg1,hat,Blk.row,Jl,Jm];intro H1 h1;have h1:H1=H.set y (.vec 5 ((s.blocks.set s.at_ { s.blocks[s.at_]with jump:=kind }).map Blk.row)):=by rw[h1,←Qafe];rfl
 have hv:=h.setBlk hat hbc hlb h1 rfl rfl rfl;obtain⟨b1,hb1,hb1l,hb1i⟩:∃b1:Blk,b1={ s.blocks[s.at_]with jump:=kind }∧b1.irows=s.blocks[s.at_].irows∧b1.ic=s.blocks[s.at_].ic:=⟨_,rfl,rfl,rfl⟩;rw[←hb1]at hv h1;have hy1:H1 y=.vec 5 ((s.blocks.set s.at_ b1).map Blk.row):=by rw[h1];exact Heap.set_same _ _ _
 have hg2:List.getD ((s.blocks.set s.at_ b1).map Blk.row) s.at_ []=b1.row:=by simp[Jb,hat]
 refine Qa ?_;simp only[go_sem,hy1,hg2,hat,Blk.row,Jl,Jm,Jp];intro H2 h2;have h2:H2=H1.set y (.vec 5 (((s.blocks.set s.at_ b1).set s.at_ { b1 with on:=on }).map Blk.row)):=by rw[h2];simp only[J4];rfl
 have hv:=hv.setBlk (i:=s.at_) (b':={ b1 with on:=on }) (by simpa using hat) (by simpa using hbc) (by rfl) h2 (by simp) (by simp) (by simp);simp only[Jax]at hv h2;obtain⟨b2,hb2,hb2i⟩:∃b2:Blk,b2={ b1 with on:=on }∧b2.irows=b1.irows:=⟨_,rfl,rfl⟩;rw[←hb2]at hv h2;have hy2:H2 y=.vec 5 ((s.blocks.set s.at_ b2).map Blk.row):=by rw[h2];exact Heap.set_same _ _ _
 have hg3:List.getD ((s.blocks.set s.at_ b2).map Blk.row) s.at_ []=b2.row:=by simp[Jb,hat]
 refine Qa ?_;simp only[go_sem,hy2,hg3,hat,Blk.row,Jl,Jm,Jp];intro H3 h3;have h3:H3=H2.set y (.vec 5 (((s.blocks.set s.at_ b2).set s.at_ { b2 with next:=next,nfl:=fl }).map Blk.row)):=by rw[h3];simp only[J4];rfl
 have hv:=hv.setBlk (i:=s.at_) (b':={ b2 with next:=next,nfl:=fl }) (by simpa using hat) (by simpa using hbc) (by rfl) h3 (by simp) (by simp) (by simp);simp only[Jax]at hv;have hw3:=hv.hw;refine Qt ?_;simp only[go_sem,hw3,LS.o];intro H4 h4;have h':=hv.setw (s':={ s with lb:=[(y,.vec 5 ((s.blocks.set s.at_ { b2 with next:=next,nfl:=fl }).map Blk.row))],blocks:=s.blocks.set s.at_ { b2 with next:=next,nfl:=fl },at_:=at' }) h4 rfl rfl rfl rfl hv.gv hv.rv;simp only[Q5,Qae,Q8i];refine⟨by simp,hK _ H4 h' ⟨by simp,fun M hM=>⟨hM.r0,hM.r1,hM.n0,hM.n1,?_,?_,hM.v1⟩,Je _,fun ha=>by simpa using hat',rfl,rfl⟩⟩
 ·have:=hM.b1;simpa using this
 ·intro b hb;rcases Qge hb with rfl|hb
  ·show b2.irows.length≤_;rw[hb2i,hb1l];exact hM.i1 _ hm
  ·exact hM.i1 b hb
theorem Qbvf {l:List Fn}{fl:Bool}{name:List UInt8}(hK:∀n:Int,K (.c (.int .i64 n)) H):Qr prog Q5l [.ag [.sl fl 3 (Qcj l)],.c (.str name)] H K:=by
 refine Qc Qal Qbj7 ?_;have retf:∀(n:Int) (e:Env),lk 4 e=.c (.int .i64 n)→Q5 Qaf3 K .ret e H:=by
  intro b e h1;simp only[go_sem,Q5,Qae,Qaf3,Ja,forall_eq,RS.op,h1];exact hK _
 refine Qa ?_;simp only[go_sem];refine Qaa ?_;refine Qa ?_;simp only[go_sem];refine Qh (Qe (Qx (fun n e1 H1=>∃(i:Nat),n=l.length-i∧i≤l.length∧H1=H∧e1=[(1,.c (.str name)),(2,.c (.pp [.sl fl 3 (Qcj l)])),(5,.c (.int .i64 i))]) l.length ?_ ?_))
 ·exact⟨0,by omega,by omega,rfl,rfl⟩
 ·rintro n e1 H1 ⟨i,hn1,hi,rfl,rfl⟩;refine Qaa ?_;refine Qa ?_;simp only[go_sem,Qbp];intro hl;simp only[LIM]at hl;refine Qh (Qd rfl ?_ ?_)
  ·intro hc;have hlt:i<l.length:=by simpa using hc
   refine Qg ?_;simp only[go_sem];refine Qh (Qe ?_);refine Qa ?_;simp only[go_sem,hlt,Qbp,Qil _ _ hlt,Fn.cells];refine Qd rfl ?_ ?_
   ·intro hc2;refine Qa ?_;simp only[go_sem];refine Qk ?_;simp only[go_sem,X.next];exact retf _ _ (by simp[lk];rfl)
   ·intro hc2;refine Qg ?_;simp only[go_sem];refine Qt ?_;simp only[go_sem,X.next];exact⟨Qs (by omega) (by omega),l.length-(i+1),by omega,i+1,rfl,by omega,rfl⟩
  ·intro hc;refine Qw ?_;simp only[go_sem,X.next];refine Qa ?_;simp only[go_sem];refine Qk ?_;exact retf _ _ (by simp[lk];rfl)
theorem Qbwl {name:List UInt8}(h:LInv F H w s)(hK:∀n:Int,K (.c (.int .i64 n)) H):Qr prog Qkc [.c (.ptr w 0),.c (.str name)] H K:=by
 have hw:=h.hw;obtain⟨hv1,hv2⟩:=h.vget;have hvl:=h.gv.lenC;have hve:=h.gv.elemSz;have hvo:=h.gv.isOw;refine Qc Qal Qa5c ?_;have retf:∀(n:Int) (e:Env),lk 4 e=.c (.int .i64 n)→Q5 Q1c K .ret e H:=by
  intro b e h1;simp only[go_sem,Q5,Qae,Q1c,Ja,forall_eq,RS.op,h1];exact hK _
 refine Qa ?_;simp only[go_sem];refine Qaa ?_;refine Qa ?_;simp only[go_sem,hw,LS.o,hv1,hvl,hvo];intro hl;simp only[LIM]at hl;refine⟨Qs (by omega) (by omega),?_⟩;refine Qh (Qe (Qx (fun n e1 H1=>∃(j:Nat),n=j∧j≤s.vars.length∧H1=H∧e1=[(0,.c (.ptr w 0)),(1,.c (.str name)),(5,.c (.int .i64 ((j:Int)-1)))]) s.vars.length ?_ ?_))
 ·exact⟨s.vars.length,rfl,by omega,rfl,rfl⟩
 ·rintro n e1 H1 ⟨j,hnj,hj,rfl,rfl⟩;refine Qaa ?_;refine Qa ?_;simp only[go_sem];refine Qh (Qd rfl ?_ ?_)
  ·intro hc;have hj1:1≤j:=by simp at hc;omega
   obtain⟨i,rfl⟩:∃i,j=i+1:=⟨j-1,by omega⟩;have e1:(((i+1:Nat):Int)-1)=(i:Int):=by omega
   have hlt:i<s.vars.length:=by omega
   obtain⟨nm,a,b,hr⟩:=h.rv _ (Jd hlt);have hr':List.getD s.vars i []=[.str nm,.int .i64 a,.int .i64 b]:=by rw[←hr];simp[Jb,hlt]
   rw[e1]at hc⊢;refine Qg ?_;simp only[go_sem];refine Qh (Qe ?_);refine Qa ?_;simp only[go_sem,hw,LS.o,hv1,hv2,hvl,hvo,hve,hlt,hr'];refine Qd rfl ?_ ?_
   ·intro hc2;refine Qa ?_;simp only[go_sem,hw,LS.o,hv1,hv2,hvl,hvo,hve,hlt,hr'];refine Qk ?_;simp only[go_sem,X.next];exact retf _ _ (by simp[lk];rfl)
   ·intro hc2;refine Qg ?_;simp only[go_sem];refine Qt ?_;simp only[go_sem,X.next];exact⟨Qs (by omega) (by omega),i,by omega,i,rfl,by omega,rfl⟩
  ·intro hc;refine Qw ?_;simp only[go_sem,X.next];refine Qa ?_;simp only[go_sem];refine Qk ?_;exact retf _ _ (by simp[lk];rfl)
def Qbm2 (n:Nat):Prop:=∀(x:Ex) (F H:Heap) (w:Nat) (s:LS) (N:Nat) (K:V→Heap→Prop),x.size≤n→x.ok→LInv F H w s→s.at_<s.blocks.length→s.ok N→N+10 * x.size≤2^38→
  (∀(v:Int) (s':LS) (H':Heap),LInv F H' w s'→LStep s s' (10 * x.size)→K (.c (.int .i64 v)) H')→Qr prog Qci [.c (.ptr w 0),.ag x.cells] H K
def AndL (n:Nat):Prop:=∀(x:Ex) (F H:Heap) (w:Nat) (s:LS) (N:Nat) (K:V→Heap→Prop),x.size≤n→x.ok→x.op=10→LInv F H w s→s.at_<s.blocks.length→s.ok N→N+10 * x.size≤2^38→
  (∀(v:Int) (s':LS) (H':Heap),LInv F H' w s'→LStep s s' (10 * x.size)→K (.c (.int .i64 v)) H')→Qr prog Qs0 [.c (.ptr w 0),.ag x.cells] H K
theorem Qbvi {n:Nat}(hE:∀m,m<n→Qbm2 m):AndL n:=by
 intro x F H w s N K hn hok hop h hat hsok hN hK;have hsz:=x.size_kids;have hk2:=Ex.ok_and hok hop;have hkok:=Ex.ok_kids hok;obtain⟨a,b,hab⟩:∃a b,x.kids=[a,b]:=by
  match hx:x.kids,hk2 with
  |[a,b],_=>exact⟨a,b,rfl⟩
 rw[hab]at hsz hkok;simp only[Qan,Qep]at hsz hkok;refine Qc Qal Qa5a ?_;refine Qa ?_;simp only[go_sem,x.cells_eq];refine Qa ?_;simp only[go_sem,hab,Qbz,Ex.take4,Ex.allOw,Ex.cells_len,Jq];refine⟨by omega,?_⟩;refine hE a.size (by omega) a F H w s N _ (Je _) hkok.1 h hat hsok (by omega) fun va s1 H1 h1 st1=>?_;simp only[go_sem,Q0h];refine Qa ?_;simp only[go_sem];refine Qs3 h1 (st1.ok _ hsok) (by omega) fun s2 H2 h2 st2=>?_;have st2:=st1.trans st2;simp only[go_sem,Q0j];refine Q5z (args:=[]) h2 (st2.at_ hat) (st2.ok _ hsok) (by omega) fun s3 H3 h3 st3=>?_;have st3:=st2.trans st3;simp only[go_sem,Q0i];refine Qa ?_;simp only[go_sem];refine Qh3 h3 (st3.ok _ hsok) (by omega) fun s4 H4 h4 st4 hb4=>?_;have st4':=st4;have st4:=st3.trans st4;simp only[go_sem,Q0k];refine Qa ?_;simp only[go_sem];refine Qh3 h4 (st4.ok _ hsok) (by omega) fun s5 H5 h5 st5 hb5=>?_;have st5:=st4.trans st5;simp only[go_sem,Q0l];refine Qa ?_;simp only[go_sem];refine Qzi (next:=[(s3.blocks.length:Int),(s4.blocks.length:Int)]) (N:=0) h5 (st5.at_ hat) (by omega) fun s6 H6 h6 st6=>?_;have hb6:=st6.bl;have st6:=st5.trans st6;refine Qa ?_;simp only[go_sem,hab,Qbz,Ex.take4,Ex.allOw,Ex.cells_len,Jq,List.getD_cons_succ];refine⟨by omega,?_⟩;refine hE b.size (by omega) b F H6 w s6 _ _ (Je _) hkok.2.1 h6 (st6.at_ hat) (st6.ok _ hsok) (by omega) fun vb s7 H7 h7 st7=>?_;have hb7:=st7.bl;have st7:=st6.trans st7;simp only[go_sem,Q0m];refine Qa ?_;simp only[go_sem];refine Qs3 h7 (st7.ok _ hsok) (by omega) fun s8 H8 h8 st8=>?_;have hb8:=st8.bl;have st8:=st7.trans st8;simp only[go_sem,Q0o];refine Q5z (args:=[vb]) h8 (st8.at_ hat) (st8.ok _ hsok) (by omega) fun s9 H9 h9 st9=>?_;have hb9:=st9.bl;have st9:=st8.trans st9;simp only[go_sem,Q0n];refine Qa ?_;simp only[go_sem];refine Q5z (args:=[s7.regs]) h9 (st9.at_ hat) (st9.ok _ hsok) (by omega) fun s10 H10 h10 st10=>?_;have hb10:=st10.bl;have st10:=st9.trans st10;refine Qa ?_;simp only[go_sem];refine Qzi (next:=[(s4.blocks.length:Int)]) (N:=0) h10 (st10.at_ hat) (by omega) fun s11 H11 h11 st11=>?_;have st11:=st10.trans st11;refine Qa ?_;simp only[go_sem];refine Qk ?_;simp only[go_sem,Q5,Qae,Qaf1,reduceIte,Ja,forall_eq,RS.op];exact hK _ s11 H11 h11 (st11.mono (by omega))
set_option maxHeartbeats 2000000 in
theorem Qbs6 {n:Nat}(hA:AndL n)(hE:∀m,m<n→Qbm2 m):Qbm2 n:=by
 intro x F H w s N K hn hok h hat hsok hN hK;have hsz:=x.size_kids;have hkok:=Ex.ok_kids hok;refine Qc Qal Qaxy ?_;have retf:∀(v:Int) (e:Env) (s':LS) (H':Heap),LInv F H' w s'→LStep s s' (10 * x.size)→lk 4 e=.c (.int .i64 v)→Q5 Qtp K .ret e H':=by
  intro v e s' H' a1 a2 h1;simp only[go_sem,Q5,Qae,Qtp,Ja,forall_eq,RS.op,h1];exact hK _ _ _ a1 a2
 refine Qa ?_;simp only[go_sem,x.cells_eq];refine Qaa ?_;refine Qa ?_;simp only[go_sem];refine Qh (Qe ?_);refine Qa ?_;simp only[go_sem];refine Qd rfl ?_ ?_
 ·intro hc;refine Qaj ?_;simp only[go_sem];refine Qs3 h hsok (by omega) fun s1 H1 h1 st1=>?_;simp only[go_sem,Qwt];refine Q5z (args:=[]) h1 (st1.at_ hat) (st1.ok _ hsok) (by omega) fun s2 H2 h2 st2=>?_;simp only[go_sem,Qws];refine Qk ?_;simp only[go_sem];exact retf _ _ s2 H2 h2 ((st1.trans st2).mono (by omega)) (by simp[lk];rfl)
 intro hc1;refine Qa ?_;simp only[go_sem];refine Qd rfl ?_ ?_
 ·intro hc;refine Qa ?_;simp only[go_sem];refine Qbwl h fun v=>?_;simp only[go_sem,Qwu];refine Qk ?_;simp only[go_sem];exact retf _ _ s H h ((LStep.refl s).mono (by omega)) (by simp[lk];rfl)
 intro hc2;refine Qa ?_;simp only[go_sem];refine Qd rfl ?_ ?_
 ·intro hc;have hop:x.op=10:=by simpa using hc
  refine Qa ?_;simp only[go_sem];rw[←x.cells_eq];refine hA x F H w s N _ hn hok hop h hat hsok hN fun v s1 H1 h1 st1=>?_;simp only[go_sem,Qwv];refine Qk ?_;simp only[go_sem];exact retf _ _ s1 H1 h1 st1 (by simp[lk];rfl)
 intro hc3;refine Qg ?_;simp only[go_sem];refine Qa ?_;simp only[go_sem];refine Qaa ?_;refine Qa ?_;simp only[go_sem];refine Qh (Qe (Qx (fun n e1 H1=>∃(i:Nat) (ars:List Int) (c:C) (Lg:List (Nat×Obj)) (s':LS),n=x.kids.length-i∧i≤x.kids.length∧ars.length=i∧Gr Lg 1 (Qb ars) c∧LInv F H1 w s'∧Kn F H1 [] (s'.L w++Lg)∧
  LStep s s' (10 * Qan (x.kids.take i))∧e1=[(0,.c (.ptr w 0)),(3,.c (.pp [.int .i64 x.op,.int .i64 x.n,.str x.name,.sl false 4 (Qbz x.kids)])),(5,.c c),(6,.c (.int .i64 i))]) x.kids.length ?_ ?_))
 ·exact⟨0,[],_,[],s,by omega,by omega,rfl,.nil 1,h,by simpa using h.kn,(LStep.refl s).mono (by omega),rfl⟩
 ·rintro n e1 H1 ⟨i,ars,c,Lg,s1,hn1,hi,hasl,hgr,h1,kn,st1,rfl⟩;refine Qaa ?_;refine Qa ?_;simp only[go_sem,Qba];intro hl;simp only[LIM]at hl;refine Qh (Qd rfl ?_ ?_)
  ·intro hc;have hlt:i<x.kids.length:=by simpa using hc
   have hm:=Qf8 (Jd hlt);have htk:=Qsr hlt;have htl:=Qip x.kids (i+1);refine Qg ?_;simp only[go_sem];refine Qh (Qe (Qt ?_));simp only[go_sem,hlt,Qba,Qf7 _ _ hlt,Ex.take4,Ex.allOw,Ex.cells_len];obtain⟨F',hf,back⟩:=h1.beside kn hgr;refine hE x.kids[i].size (by omega) _ F' H1 w s1 _ _ (Je _) (Qaee hkok _ (Jd hlt)) hf (st1.at_ hat) (st1.ok _ hsok) (by omega) fun v s2 H2 h2 st2=>?_;obtain⟨h2,kn⟩:=back s2 H2 h2;simp only[go_sem,Qwx];refine kn.grow (new:=Qb [v]) hgr (.mk' _ _ _ _) (Qz _) (by simp only[Qf,hasl,Js,Jy,LIM];omega) fun y' H3 kn=>?_;simp only[go_sem,Qww];refine Qt ?_;simp only[go_sem,X.next];refine⟨Qs (by omega) (by omega),x.kids.length-(i+1),by omega,i+1,ars++[v],_,_,s2,rfl,by omega,by simp[hasl],.mk y' 1 (Qb (ars++[v])) (n:=(Qb ars).length+(Qb [v]).length) (by simp[Qb]),h2.re kn.drop,by rw[Qb1];exact kn,(st1.trans st2).mono (by rw[htk];omega),by simp[Qb]⟩
  ·intro hc;have hge:x.kids.length≤i:=by simpa using hc
   rw[Jc hge]at st1;refine Qw ?_;simp only[go_sem,X.next];refine Qaa ?_;refine Qaa ?_;obtain⟨S,H2,f1,f2,kn2⟩:=hgr.freeze kn (Qz _);have h2:=h1.re kn2;refine c_gh (Qgc S (fun t=>?_) f2) (e':=[(0,.c (.ptr w 0)),(3,.c (.pp [.int .i64 x.op,.int .i64 x.n,.str x.name,.sl false 4 (Qbz x.kids)])),(5,.c (.sl false 1 (Qb ars)))]) ?_
   ·simp only[lk];split
    ·exact .c _ _ (.same _ rfl)
    ·split
     ·exact .c _ _ (.same _ rfl)
     ·split
      ·exact .c _ _ f1
      ·exact .unk _
   refine Qa ?_;simp only[go_sem];refine Qh (Qe ?_);refine Qa ?_;simp only[go_sem];refine Qd rfl ?_ ?_
   ·intro hc;refine Qa ?_;simp only[go_sem];refine Qs3 h2 (st1.ok _ hsok) (by omega) fun s3 H3 h3 st3=>?_;have st3:=st1.trans st3;simp only[go_sem,Qqn];refine Q5z h3 (st3.at_ hat) (st3.ok _ hsok) (by omega) fun s4 H4 h4 st4=>?_;simp only[go_sem,Qqm];refine Qk ?_;simp only[go_sem];exact retf _ _ s4 H4 h4 ((st3.trans st4).mono (by omega)) (by simp[lk];rfl)
   intro hc4;refine Qa ?_;simp only[go_sem];refine Qd rfl ?_ ?_
   ·intro hc;refine Qa ?_;simp only[go_sem];refine Qs3 h2 (st1.ok _ hsok) (by omega) fun s3 H3 h3 st3=>?_;have st3:=st1.trans st3;simp only[go_sem,Qqp];refine Q5z h3 (st3.at_ hat) (st3.ok _ hsok) (by omega) fun s4 H4 h4 st4=>?_;simp only[go_sem,Qqo];refine Qk ?_;simp only[go_sem];exact retf _ _ s4 H4 h4 ((st3.trans st4).mono (by omega)) (by simp[lk];rfl)
   intro hc5;refine Qa ?_;simp only[go_sem];refine Qd rfl ?_ ?_
   ·intro hc;have hw2:=h2.hw;refine Qaj ?_;simp only[go_sem,hw2,LS.o];refine Qs3 h2 (st1.ok _ hsok) (by omega) fun s3 H3 h3 st3=>?_;have hw3:=h3.hw;have hfn:=st3.fn;have st3:=st1.trans st3;simp only[go_sem,Qqs,hw3,LS.o,hfn.1,hfn.2];refine Qbvf fun q=>?_;simp only[go_sem,Qqr];refine Q5z h3 (st3.at_ hat) (st3.ok _ hsok) (by omega) fun s4 H4 h4 st4=>?_;simp only[go_sem,Qqq];refine Qk ?_;simp only[go_sem];exact retf _ _ s4 H4 h4 ((st3.trans st4).mono (by omega)) (by simp[lk];rfl)
   intro hc6;refine Qg ?_;simp only[go_sem];refine Qaj ?_;simp only[go_sem];refine Qs3 h2 (st1.ok _ hsok) (by omega) fun s3 H3 h3 st3=>?_;have st3:=st1.trans st3;simp only[go_sem,Qqu];refine Q5z h3 (st3.at_ hat) (st3.ok _ hsok) (by omega) fun s4 H4 h4 st4=>?_;simp only[go_sem,Qqt];refine Qk ?_;exact retf _ _ s4 H4 h4 ((st3.trans st4).mono (by omega)) (by simp[lk];rfl)
theorem Qbvx (n:Nat):Qbm2 n:=by
 induction n using Nat.strongRecOn with
 |ind n ih=>exact Qbs6 (Qbvi ih) ih
theorem Qbot:∀(n:Nat) (l:List St) {fl:Bool} {H:Heap} {K:V→Heap→Prop},Q8 l≤n→Q8 l≤2^40→(∀v:Nat,v≤Q8 l→K (.c (.int .i64 v)) H)→Qr prog Qsz [.c (.sl fl 5 (Qa7 l))] H K:=by
 intro n
 induction n using Nat.strongRecOn with
 |ind n ih=>
 intro l fl H K hn hb hK;have hlen:=Qame l;refine Qc Qal Qbpg ?_;refine Qa ?_;simp only[go_sem];refine Qa ?_;simp only[go_sem];refine Qaa ?_;refine Qa ?_;simp only[go_sem];refine Qh (Qe (Qx (fun n e1 H1=>∃(i v:Nat),n=l.length-i∧i≤l.length∧v≤Q8 (l.take i)∧H1=H∧e1=[(0,.c (.sl fl 5 (Qa7 l))),(3,.c (.int .i64 v)),(4,.c (.int .i64 i))]) l.length ?_ ?_))
 ·exact⟨0,0,by omega,by omega,by omega,rfl,rfl⟩
 ·rintro n e1 H1 ⟨i,v,hn1,hi,hv,rfl,rfl⟩;refine Qaa ?_;refine Qa ?_;simp only[go_sem,Qbg];intro hl;simp only[LIM]at hl;refine Qh (Qd rfl ?_ ?_)
  ·intro hc;have hlt:i<l.length:=by simpa using hc
   have hm:=Qo2 (Jd hlt);have htk:=Qxp hlt;have htl:=Qj0 l (i+1);have hse:=(l[i]'hlt).size_eq;refine Qg ?_;simp only[go_sem];refine Qh (Qe (Qbn ?_));simp only[go_sem,hlt,Qbg,Qgm _ _ hlt,St.cells_eq];refine Qbjd ?_;obtain⟨t,ht,ht1⟩:∃t:Nat,(if decide (l[i].op=1)=true then (1:Int)else 0)=t∧t≤1:=by
    by_cases h:l[i].op=1
    ·exact⟨1,by simp[h],Je _⟩
    ·exact⟨0,by simp[h],by omega⟩
   simp only[go_sem,Qakl,hlt,Qbg,Qgm _ _ hlt,St.cells_eq,ht];refine⟨Qs (by omega) (by omega),?_⟩;refine ih (Q8 l[i].body) (by omega) l[i].body (Je _) (by omega) fun a ha=>?_;simp only[go_sem,Qakk,hlt,Qbg,Qgm _ _ hlt,St.cells_eq];refine⟨Qs (by omega) (by omega),?_⟩;refine ih (Q8 l[i].els) (by omega) l[i].els (Je _) (by omega) fun c hc=>?_;simp only[go_sem,Qakj];refine⟨Qs (by omega) (by omega),?_⟩;refine Qt ?_;simp only[go_sem,X.next];refine⟨Qs (by omega) (by omega),l.length-(i+1),by omega,i+1,v+t+a+c,rfl,by omega,by omega,rfl⟩
  ·intro hc;have hge:l.length≤i:=by simpa using hc
   refine Qw ?_;simp only[go_sem,X.next];refine Qa ?_;simp only[go_sem];refine Qk ?_;simp only[go_sem,Q5,Qae,Qbcg,reduceIte,Ja,forall_eq,RS.op];rw[Jc hge]at hv;exact hK v (by omega)
def Qbvg (n:Nat):Prop:=∀(x:St) (F H:Heap) (w:Nat) (s:LS) (N:Nat) (K:V→Heap→Prop),x.size≤n→x.ok→LInv F H w s→s.at_<s.blocks.length→s.ok N→N+10 * x.size≤2^38→
  (∀(s':LS) (H':Heap),LInv F H' w s'→LStep s s' (10 * x.size)→K (.tup []) H')→Qr prog Qn3 [.c (.ptr w 0),.ag x.cells] H K
def Qbxd (n:Nat):Prop:=∀(x:St) (F H:Heap) (w:Nat) (s:LS) (N:Nat) (K:V→Heap→Prop),x.size≤n→x.ok→LInv F H w s→s.at_<s.blocks.length→s.ok N→N+10 * x.size≤2^38→
  (∀(s':LS) (H':Heap),LInv F H' w s'→LStep s s' (10 * x.size)→K (.tup []) H')→Qr prog Qn2 [.c (.ptr w 0),.ag x.cells] H K
def Qba9 (n:Nat):Prop:=∀(l:List St) (fl:Bool) (F H:Heap) (w:Nat) (s:LS) (N:Nat) (K:V→Heap→Prop),Q8 l≤n→Qdh l→LInv F H w s→s.at_<s.blocks.length→s.ok N→N+10 * Q8 l≤2^38→
  (∀(s':LS) (H':Heap),LInv F H' w s'→LStep s s' (10 * Q8 l)→K (.tup []) H')→Qr prog Qct [.c (.ptr w 0),.c (.sl fl 5 (Qa7 l))] H K
theorem Qbmm {n:Nat}(hS:Qbvg n):Qba9 n:=by
 intro l fl F H w s N K hn hok h hat hsok hN hK;have hw:=h.hw;obtain⟨hv1,hv2⟩:=h.vget;have hvl:=h.gv.lenC;have hvo:=h.gv.isOw;refine Qc Qal Qatd ?_;refine Qa ?_;simp only[go_sem,hw,LS.o,hv1,hvl,hvo];intro hvlim;refine Qaa ?_;refine Qa ?_;simp only[go_sem];refine Qh (Qe (Qx (fun n e1 H1=>∃(i:Nat) (s':LS),n=l.length-i∧i≤l.length∧LInv F H1 w s'∧LStep s s' (10 * Q8 (l.take i))∧e1=[(0,.c (.ptr w 0)),(1,.c (.sl fl 5 (Qa7 l))),(4,.c (.int .i64 s.vars.length)),(5,.c (.int .i64 i))]) l.length ?_ ?_))
 ·exact⟨0,s,by omega,by omega,h,(LStep.refl s).mono (by omega),rfl⟩
 ·rintro n e1 H1 ⟨i,s1,hn1,hi,h1,st1,rfl⟩;refine Qaa ?_;refine Qa ?_;simp only[go_sem,Qbg];intro hl;simp only[LIM]at hl;refine Qh (Qd rfl ?_ ?_)
  ·intro hc;have hlt:i<l.length:=by simpa using hc
   have hm:=Qo2 (Jd hlt);have htk:=Qxp hlt;have htl:=Qj0 l (i+1);refine Qg ?_;simp only[go_sem];refine Qh (Qe (Qt ?_));simp only[go_sem,hlt,Qbg,Qgm _ _ hlt,St.take5,St.allOw,St.cells_len];refine hS l[i] F H1 w s1 _ _ (by omega) (Qbmq hok _ (Jd hlt)) h1 (st1.at_ hat) (st1.ok _ hsok) (by omega) fun s2 H2 h2 st2=>?_;refine Qt ?_;simp only[go_sem,X.next];exact⟨Qs (by omega) (by omega),l.length-(i+1),by omega,i+1,s2,rfl,by omega,h2,(st1.trans st2).mono (by rw[htk];omega),rfl⟩
  ·intro hc;have hge:l.length≤i:=by simpa using hc
   rw[Jc hge]at st1;have hw1:=h1.hw;obtain⟨hv1',hv2'⟩:=h1.vget;have hvl':=h1.gv.lenC;have hvo':=h1.gv.isOw;have hve':=h1.gv.elemSz;have hvle:=st1.vl;have hrv:∀r∈s1.vars.take s.vars.length,VarRow r:=fun r hr=>h1.rv r (List.mem_of_mem_take hr);have fin:∀(H2:Heap) (c:C),H2=H1.set w (LS.o { s1 with vc:=c })→VGr s1.lv (s1.vars.take s.vars.length) c→Q5 Qoc K .nrm [] H2:=by
    intro H2 c h2 hg;simp only[Q5,Qae,Qoc];refine⟨by simp,hK { s1 with vc:=c,vars:=s1.vars.take s.vars.length } H2 (h1.setw h2 rfl rfl rfl rfl hg hrv) ⟨st1.bl,fun M hM=>?_,by simp;omega,st1.at_,st1.fn⟩⟩;have:=st1.ok M hM;exact⟨this.r0,this.r1,this.n0,this.n1,this.b1,this.i1,by have:=this.v1;simp;omega⟩
   refine Qw ?_;simp only[go_sem,X.next];refine Qt ?_;rcases h1.gv with ⟨g1,g2,g3⟩|⟨y,all,k,g1,g2,g3,g4⟩
   ·have hz:s.vars.length=0:=(by rw[g2]at hvle;simpa using hvle);simp only[go_sem,hw1,LS.o,g1,hz,Jbg,List.drop_nil];refine⟨⟨by omega,by omega⟩,fun H2 h2=>?_⟩;refine fin H2 (.sl true 3 []) h2 (.inl ⟨rfl,by rw[g2];simp,g3⟩)
   ·rw[g1]at hv1' hvl';have hk:k=s1.vars.length:=(by simpa[lenC]using hvl');simp only[go_sem]at hv1';simp only[go_sem,hw1,LS.o,g1,hv1'];refine⟨⟨by omega,by omega⟩,fun H2 h2=>?_⟩;refine fin H2 (.vsl y 3 0 (s.vars.length-0)) h2 (.inr ⟨y,all,s.vars.length-0,rfl,by omega,?_,g4⟩);rw[g3,Jbe];congr 1;omega
set_option maxHeartbeats 1000000 in
theorem Qbox {n:Nat}(hS:∀m,m<n→Qba9 m):Qbxd n:=by
 intro x F H w s N K hn hok h hat hsok hN hK;have hsz:=x.size_eq;rw[St.ok_eq]at hok;obtain⟨hap,hao,hbo,heo⟩:=hok;have ham:=Qf8 (Jd hap);refine Qc Qal Qax0 ?_;refine Qa ?_;simp only[go_sem,x.cells_eq];refine Qa ?_;simp only[go_sem];refine Qh3 h hsok (by omega) fun s1 H1 h1 st1 hb1=>?_;simp only[go_sem,Qwy];refine Qa ?_;simp only[go_sem];refine Qh3 h1 (st1.ok _ hsok) (by omega) fun s2 H2 h2 st2 hb2=>?_;have st2:=st1.trans st2;simp only[go_sem,Qwz];refine Qa ?_;simp only[go_sem];refine Qh3 h2 (st2.ok _ hsok) (by omega) fun s3 H3 h3 st3 hb3=>?_;have st3:=st2.trans st3;simp only[go_sem,Qw0];refine Qa ?_;simp only[go_sem];refine Qzi (next:=[(s.blocks.length:Int)]) (N:=0) h3 (st3.at_ hat) (by omega) fun s4 H4 h4 st4=>?_;have hb4:=st4.bl;have st4:=st3.trans st4;refine Qa ?_;simp only[go_sem,hap,Qba,Qf7 _ _ hap,Ex.take4,Ex.allOw,Ex.cells_len];refine⟨by omega,?_⟩;refine Qbvx _ x.args[0] F H4 w s4 _ _ (Je _) (Qaee hao _ (Jd hap)) h4 (st4.at_ hat) (st4.ok _ hsok) (by omega) fun v s5 H5 h5 st5=>?_;have hb5:=st5.bl;have st5:=st4.trans st5;simp only[go_sem,Qw1];refine Qa ?_;simp only[go_sem];refine Qzi (next:=[(s1.blocks.length:Int),(s2.blocks.length:Int)]) (N:=0) h5 (st5.at_ hat) (by omega) fun s6 H6 h6 st6=>?_;have hb6:=st6.bl;have st6:=st5.trans st6;refine Qa ?_;simp only[go_sem];refine hS (Q8 x.body) (by omega) x.body _ F H6 w s6 _ _ (Je _) hbo h6 (st6.at_ hat) (st6.ok _ hsok) (by omega) fun s7 H7 h7 st7=>?_;have hb7:=st7.bl;have st7:=st6.trans st7;refine Qt ?_;simp only[go_sem];refine Qzi (next:=[(s.blocks.length:Int)]) (N:=0) h7 (st7.at_ hat) (by omega) fun s8 H8 h8 st8=>?_;have st8:=st7.trans st8;simp only[Q5,Qae,Q8j];exact⟨by simp,hK s8 H8 h8 (st8.mono (by omega))⟩
set_option maxHeartbeats 2000000 in
theorem Qbrm {n:Nat}(hS:∀m,m<n→Qba9 m):Qbvg n:=by
 intro x F H w s N K hn hok h hat hsok hN hK;have hok':=hok;have hsz:=x.size_eq;rw[St.ok_eq]at hok;obtain⟨hap,hao,hbo,heo⟩:=hok;refine Qc Qal Qax1 ?_;have retn:∀(e:Env) (s':LS) (H':Heap) (q:X),(q=.nrm∨q=.ret)→LInv F H' w s'→LStep s s' (10 * x.size)→Q5 Qtq K q e H':=by
  intro e s' H' q hq a1 a2;rcases hq with rfl|rfl <;> exact⟨by simp[Qtq],hK s' H' a1 a2⟩
 refine Qa ?_;simp only[go_sem,x.cells_eq];refine Qaa ?_;refine Qa ?_;simp only[go_sem];refine Qh (Qd rfl ?_ ?_)
 ·intro hc;refine Qa ?_;simp only[go_sem];rw[←x.cells_eq];refine Qbox hS x F H w s N _ hn hok' h hat hsok hN fun s1 H1 h1 st1=>?_;simp only[Qal9];refine Qk ?_;simp only[go_sem];exact retn _ s1 H1 _ (.inr rfl) h1 st1
 intro hc0;refine Qg ?_;simp only[go_sem];refine Qa ?_;simp only[go_sem];refine Qaa ?_;refine Qa ?_;simp only[go_sem];refine Qh (Qe (Qx (fun n e1 H1=>∃(i:Nat) (ars:List Int) (c:C) (Lg:List (Nat×Obj)) (s':LS),n=x.args.length-i∧i≤x.args.length∧ars.length=i∧Gr Lg 1 (Qb ars) c∧LInv F H1 w s'∧Kn F H1 [] (s'.L w++Lg)∧
  LStep s s' (10 * Qan (x.args.take i))∧e1=[(0,.c (.ptr w 0)),(3,.c (.pp [.int .i64 x.op,.str x.name,.sl false 4 (Qbz x.args),.sl false 5 (Qa7 x.body),.sl false 5 (Qa7 x.els)])),(4,.c c),(5,.c (.int .i64 i))]) x.args.length ?_ ?_))
 ·exact⟨0,[],_,[],s,by omega,by omega,rfl,.nil 1,h,by simpa using h.kn,(LStep.refl s).mono (by omega),rfl⟩
 ·rintro n e1 H1 ⟨i,ars,c,Lg,s1,hn1,hi,harl,hgr,h1,kn,st1,rfl⟩;refine Qaa ?_;refine Qa ?_;simp only[go_sem,Qba];intro hl;simp only[LIM]at hl;refine Qh (Qd rfl ?_ ?_)
  ·intro hc;have hlt:i<x.args.length:=by simpa using hc
   have hm:=Qf8 (Jd hlt);have htk:=Qsr hlt;have htl:=Qip x.args (i+1);refine Qg ?_;simp only[go_sem];refine Qh (Qe (Qt ?_));simp only[go_sem,hlt,Qba,Qf7 _ _ hlt,Ex.take4,Ex.allOw,Ex.cells_len];obtain⟨F',hf,back⟩:=h1.beside kn hgr;refine Qbvx _ _ F' H1 w s1 _ _ (Je _) (Qaee hao _ (Jd hlt)) hf (st1.at_ hat) (st1.ok _ hsok) (by omega) fun v s2 H2 h2 st2=>?_;obtain⟨h2,kn⟩:=back s2 H2 h2;simp only[go_sem,Qw3];refine kn.grow (new:=Qb [v]) hgr (.mk' _ _ _ _) (Qz _) (by simp only[Qf,harl,Js,Jy,LIM];omega) fun y' H3 kn=>?_;simp only[go_sem,Qw2];refine Qt ?_;simp only[go_sem,X.next];refine⟨Qs (by omega) (by omega),x.args.length-(i+1),by omega,i+1,ars++[v],_,_,s2,rfl,by omega,by simp[harl],.mk y' 1 (Qb (ars++[v])) (n:=(Qb ars).length+(Qb [v]).length) (by simp[Qb]),h2.re kn.drop,by rw[Qb1];exact kn,(st1.trans st2).mono (by rw[htk];omega),by simp[Qb]⟩
  ·intro hc;have hge:x.args.length≤i:=by simpa using hc
   have hil:i=x.args.length:=by omega
   rw[Jc hge]at st1;have har0:0<ars.length:=by omega
   refine Qw ?_;simp only[go_sem,X.next];refine Qaa ?_;obtain⟨S,H2,f1,f2,kn2⟩:=hgr.freeze kn (Qz _);have h2:=h1.re kn2;refine c_gh (Qgc S (fun t=>?_) f2) (e':=[(0,.c (.ptr w 0)),(3,.c (.pp [.int .i64 x.op,.str x.name,.sl false 4 (Qbz x.args),.sl false 5 (Qa7 x.body),.sl false 5 (Qa7 x.els)])),(4,.c (.sl false 1 (Qb ars)))]) ?_
   ·simp only[lk];split
    ·exact .c _ _ (.same _ rfl)
    ·split
     ·exact .c _ _ (.same _ rfl)
     ·split
      ·exact .c _ _ f1
      ·exact .unk _
   have hsok1:=st1.ok _ hsok;have hat1:=st1.at_ hat;have hw2:=h2.hw;refine Qa ?_;simp only[go_sem];refine Qe ?_;refine Qa ?_;simp only[go_sem];refine Qd rfl ?_ ?_
   ·
    intro hc;refine Qa ?_;simp only[go_sem,hw2,LS.o];refine Q5z h2 hat1 hsok1 (by omega) fun s3 H3 h3 st3=>?_;have hw3:=h3.hw;have hvo:=h3.gv.isOw;have hsok3:=st3.ok _ hsok1;have st3:=st1.trans st3;simp only[go_sem];refine Qaj ?_;simp only[go_sem,hw3,LS.o,hvo];refine h3.addVar ⟨x.name,s3.next,0,rfl⟩ (by have:=hsok3.v1;simp only[LIM];omega) fun y H4 hw4 cont=>?_;simp only[go_sem,Qw4,hw4,LS.o];intro H5 h5;have h5':=cont H5 h5;have hw5:=h5'.hw;refine Qt ?_;have hn0:=hsok3.n0;have hn1:=hsok3.n1;simp only[go_sem,hw5,LS.o];refine⟨Qs (by omega) (by omega),fun H6 h6=>?_⟩;have h6':=h5'.setw (s':={ s3 with vc:=.vsl y 3 0 (s3.vars.length+1),lv:=[(y,.vec 3 (s3.vars++[[C.str x.name,C.int IntKind.i64 s3.next,C.int IntKind.i64 0]]))],vars:=s3.vars++[[C.str x.name,C.int IntKind.i64 s3.next,C.int IntKind.i64 0]],next:=s3.next+1 }) h6 rfl rfl rfl rfl h5'.gv h5'.rv;refine retn _ _ H6 _ (.inl rfl) h6' ⟨st3.bl,fun M hM=>?_,?_,st3.at_,st3.fn⟩
    ·have q:=st3.ok M hM;refine⟨q.r0,?_,?_,?_,?_,fun b hb=>?_,?_⟩
     ·have:=q.r1;show s3.regs≤_;omega
     ·have:=q.n0;show 0≤s3.next+1;omega
     ·have:=q.n1;show s3.next+1≤_;omega
     ·have:=q.b1;show s3.blocks.length≤_;omega
     ·have:=q.i1 b hb;omega
     ·have:=q.v1;simp;omega
    ·have:=st3.vl;simp;omega
   intro hc1;refine Qa ?_;simp only[go_sem];refine Qd rfl ?_ ?_
   ·
    intro hc;refine Qt ?_;simp only[go_sem];refine Qbwl h2 fun v=>?_;simp only[go_sem,Qw5];refine Q5z h2 hat1 hsok1 (by omega) fun s3 H3 h3 st3=>?_;exact retn _ _ H3 _ (.inl rfl) h3 ((st1.trans st3).mono (by omega))
   intro hc2;refine Qa ?_;simp only[go_sem];refine Qd rfl ?_ ?_
   ·intro hc;refine Qt ?_;simp only[go_sem];refine Q5z h2 hat1 hsok1 (by omega) fun s3 H3 h3 st3=>?_;exact retn _ _ H3 _ (.inl rfl) h3 ((st1.trans st3).mono (by omega))
   intro hc3;refine Qa ?_;simp only[go_sem];refine Qd rfl ?_ ?_
   ·intro hc;refine Qt ?_;simp only[go_sem];refine Q5z h2 hat1 hsok1 (by omega) fun s3 H3 h3 st3=>?_;exact retn _ _ H3 _ (.inl rfl) h3 ((st1.trans st3).mono (by omega))
   intro hc4;refine Qa ?_;simp only[go_sem];refine Qd rfl ?_ ?_
   ·
    intro hc;refine Qbn ?_;simp only[go_sem,har0,Qf,Qu _ _ har0];refine⟨by omega,?_⟩;refine Qh3 h2 hsok1 (by omega) fun s3 H3 h3 st3 hb3=>?_;have st3:=st1.trans st3;simp only[go_sem,Qqv,har0,Qf,Qu _ _ har0];refine⟨by omega,?_⟩;refine Qzi (next:=[]) (N:=0) h3 (st3.at_ hat) (by omega) fun s4 H4 h4 st4=>?_;exact retn _ _ H4 _ (.inl rfl) h4 ((st3.trans st4).mono (by omega))
   intro hc5;refine Qa ?_;simp only[go_sem];refine Qd rfl ?_ ?_
   ·
    intro hc;refine Qa ?_;simp only[go_sem];refine Qh3 h2 hsok1 (by omega) fun s3 H3 h3 st3 hb3=>?_;have st3:=st1.trans st3;simp only[go_sem,Qqw];refine Qa ?_;simp only[go_sem];refine Qh3 h3 (st3.ok _ hsok) (by omega) fun s4 H4 h4 st4 hb4=>?_;have st4:=st3.trans st4;simp only[go_sem,Qqx];refine Qa ?_;simp only[go_sem];refine Qh3 h4 (st4.ok _ hsok) (by omega) fun s5 H5 h5 st5 hb5=>?_;have st5:=st4.trans st5;simp only[go_sem,Qqy];refine Qa ?_;simp only[go_sem,har0,Qf,Qu _ _ har0];refine⟨by omega,?_⟩;refine Qzi (next:=[(s1.blocks.length:Int),(s3.blocks.length:Int)]) (N:=0) h5 (st5.at_ hat) (by omega) fun s6 H6 h6 st6=>?_;have hb6:=st6.bl;have st6:=st5.trans st6;refine Qa ?_;simp only[go_sem];refine hS (Q8 x.body) (by omega) x.body _ F H6 w s6 _ _ (Je _) hbo h6 (st6.at_ hat) (st6.ok _ hsok) (by omega) fun s7 H7 h7 st7=>?_;have hb7:=st7.bl;have st7:=st6.trans st7;refine Qa ?_;simp only[go_sem];refine Qzi (next:=[(s4.blocks.length:Int)]) (N:=0) h7 (st7.at_ hat) (by omega) fun s8 H8 h8 st8=>?_;have hb8:=st8.bl;have st8:=st7.trans st8;refine Qa ?_;simp only[go_sem];refine hS (Q8 x.els) (by omega) x.els _ F H8 w s8 _ _ (Je _) heo h8 (st8.at_ hat) (st8.ok _ hsok) (by omega) fun s9 H9 h9 st9=>?_;have hb9:=st9.bl;have st9:=st8.trans st9;refine Qt ?_;simp only[go_sem];refine Qzi (next:=[(s4.blocks.length:Int)]) (N:=0) h9 (st9.at_ hat) (by omega) fun s10 H10 h10 st10=>?_;exact retn _ _ H10 _ (.inl rfl) h10 ((st9.trans st10).mono (by omega))
   ·intro hc6;refine Qg ?_;simp only[go_sem];exact retn _ _ H2 _ (.inl rfl) h2 (st1.mono (by omega))
theorem Qbw3 (n:Nat):Qba9 n:=by
 induction n using Nat.strongRecOn with
 |ind n ih=>exact Qbmm (Qbrm ih)
end Go.AE.Y
namespace Go.AE.Y
open Go.Proofs.Tryz
variable {H:Heap}{K:V→Heap→Prop}
set_option maxHeartbeats 2000000 in
theorem Qbv7 {fns:List Fn}{fl:Bool}{k:Nat}(hk:k<fns.length)(hpl:fns[k].params.length≤3)(hbo:Qdh fns[k].body)(hbs:Q8 fns[k].body≤2^34)
  (hK:∀(c:CodeD) (H':Heap),Upd H H' []→c.fits→K (.ag c.cells) H'):Qr prog Qa4u [.ag [.sl fl 3 (Qcj fns)],.c (.int .i64 k)] H K:=by
 refine Q3 ?_;refine Qc Qal Qbwf ?_;refine Qa ?_;simp only[go_sem];intro x4 hx4 H1 h1;have kn:=(Kn.start0 H).al hx4 h1;refine Qa ?_;simp only[go_sem,hk,Qbp,Qil _ _ hk,Fn.take3,Fn.allOw,Fn.cells_len];generalize fns[k]=f at *;intro x5 hx5 H2 h2;have kn:=kn.al hx5 h2;have hx52:=kn.l 1 rfl;simp only[go_sem,Qa2i,hx52,Fn.cells];intro H3 h3;have kn:Kn H H3 [] [(x4,.st [.int .i64 0,.int .i64 0,.sl true 5 []]),(x5,.st [.str f.name,.sl false 1 (Qbu f.params),.sl false 5 (Qa7 f.body)])]:=kn.stL 1 rfl h3;have hx43:=kn.l 0 rfl;have hx53:=kn.l 1 rfl;have h45:=kn.neL 0 1 rfl rfl (by decide);refine Qa ?_;simp only[go_sem,hx53,Qaz];intro hpl2 w hw H4 h4;have h:LInv H3 H4 w ⟨fns,fl,0,0,.sl true 5 [],[],[],0,.sl true 3 [],[],[],f.params.length⟩:=
  ⟨(Kn.start0 H3).al hw h4,.nil 5,.inl ⟨rfl,rfl,rfl⟩,by simp,by simp,by simp⟩
 have hfr:∀(s:LS) (H':Heap),LInv H3 H' w s→H' x4=.st [.int .i64 0,.int .i64 0,.sl true 5 []]∧H' x5=.st [.str f.name,.sl false 1 (Qbu f.params),.sl false 5 (Qa7 f.body)]:=fun s H' h'=>
  ⟨by rw[h'.kn.chg x4 (by rw[hx43];simp) (by simp),hx43],by rw[h'.kn.chg x5 (by rw[hx53];simp) (by simp),hx53]⟩
 have hx54:=(hfr _ _ h).2;have hw4:=h.hw;simp only[go_sem,Qa2j];refine Qa ?_;simp only[go_sem,hx54,hw4,LS.o,Qaz];intro _ H5 h5;have h:=h.setw (s':=⟨fns,fl,f.params.length,0,.sl true 5 [],[],[],0,.sl true 3 [],[],[],f.params.length⟩) h5 rfl rfl rfl rfl h.gv h.rv;have hx55:=(hfr _ _ h).2;refine Qaj ?_;simp only[go_sem,hx55,Qaz];refine Qbot _ f.body (Je _) (by omega) fun v hv=>?_;have hw5:=h.hw;simp only[go_sem,Qa2k,hx55,hw5,LS.o,Qaz];refine⟨Qs (by omega) (by omega),fun H6 h6=>?_⟩;have h:=h.setw (s':=⟨fns,fl,f.params.length,(f.params.length:Int)+v,.sl true 5 [],[],[],0,.sl true 3 [],[],[],f.params.length⟩) h6 rfl rfl rfl rfl h.gv h.rv;refine Qaa ?_;refine Qa ?_;simp only[go_sem];refine Qh (Qe (Qx (fun n e1 H1=>∃(i:Nat) (s':LS),n=f.params.length-i∧i≤f.params.length∧LInv H3 H1 w s'∧s'.blocks=[]∧s'.at_=0∧s'.regs=(f.params.length:Int)+v∧s'.next=f.params.length∧s'.vars.length=i∧
  e1=[(4,.c (.ptr x4 0)),(5,.c (.ptr x5 0)),(6,.c (.ptr w 0)),(7,.c (.int .i64 i))]) f.params.length ?_ ?_))
 ·exact⟨0,_,by omega,by omega,h,rfl,rfl,rfl,rfl,rfl,rfl⟩
 ·rintro n e1 H1 ⟨i,s,hn1,hi,h,hb0,ha0,hr0,hn0,hvl,rfl⟩;have hx51:=(hfr _ _ h).2;have hw1:=h.hw;have hvo:=h.gv.isOw;refine Qaa ?_;refine Qa ?_;simp only[go_sem,hx51,Qaz];intro _;refine Qh (Qd rfl ?_ ?_)
  ·intro hc;have hlt:i<f.params.length:=by simpa using hc
   refine Qg ?_;simp only[go_sem];refine Qh (Qe (Qbn ?_));simp only[go_sem,hx51,hw1,LS.o,hvo,hlt,Qaz,Qjy _ _ hlt];refine h.addVar ⟨_,_,_,rfl⟩ (by simp only[LIM];omega) fun y H4 hw4 cont=>?_;simp only[go_sem,Qa2l,hw4,LS.o];intro H5 h5;have h':=cont H5 h5;refine Qt ?_;simp only[go_sem,X.next];exact⟨Qs (by omega) (by omega),f.params.length-(i+1),by omega,i+1,_,rfl,by omega,h',hb0,ha0,hr0,hn0,by simp[hvl],rfl⟩
  ·intro hc;refine Qw ?_;simp only[go_sem,X.next];have hsok:s.ok (3+v):=⟨by rw[hr0];omega,by rw[hr0];omega,by rw[hn0];omega,by rw[hn0];omega,by simp[hb0],by simp[hb0],by omega⟩;refine Qa ?_;simp only[go_sem];refine Qawt h hsok (by omega) fun s1 H4 h1 st1 hb1 hat1=>?_;have hat:s1.at_<s1.blocks.length:=by rw[hat1,ha0];omega
   have hsok1:=st1.ok _ hsok;refine Qa ?_;have hx54:=(hfr _ _ h1).2;simp only[go_sem,hx54];refine Qbw3 _ f.body _ H3 H4 w s1 _ _ (Je _) hbo h1 hat hsok1 (by omega) fun s2 H5 h2 st2=>?_;refine Qa ?_;simp only[go_sem];refine Qs3 h2 (st2.ok _ hsok1) (by omega) fun s3 H6 h3 st3=>?_;have st3:=st2.trans st3;simp only[go_sem,Qa2n];refine Q5z (args:=[]) h3 (st3.at_ hat) (st3.ok _ hsok1) (by omega) fun s4 H7 h4 st4=>?_;have st4:=st3.trans st4;simp only[go_sem,Qa2m];have hbl4:=st4.bl;refine Qa ?_;simp only[go_sem];refine Qzi (at':=0) (next:=[]) (N:=0) h4 (st4.at_ hat) (by omega) fun s5 H8 h5 st5=>?_;have hw8:=h5.hw;obtain⟨hx48,hx58⟩:=hfr _ _ h5;have hbow:=h5.gb.isOw;refine Qa ?_;simp only[go_sem,hw8,hx48,LS.o,hbow];intro H9 h9;have hx49:H9 x4=.st [.int .i64 s5.params,.int .i64 s5.regs,s5.bc]:=by rw[h9];exact Heap.set_same _ _ _
   have ho9:∀m,m≠x4→H9 m=H8 m:=fun m hm=>by rw[h9];exact Heap.set_other _ _ hm
   have huse:∀m,H m≠.none→H9 m=H m:=fun m hm=>by
    have e1:=kn.chg m hm (by simp);have e2:=h5.kn.chg m (by rw[e1];exact hm) (by simp);rw[ho9 m (fun hh=>by subst hh;exact hm (kn.free 0 rfl)),e2,e1]
   have hun:∀p∈s5.L w,H9 p.1=p.2∧un H p.1=true:=fun p hp=>by
    have e1:=(h5.kn.get p (by simpa using hp)).1;have e2:=h5.kn.loc p hp;have hne:p.1≠x4:=fun hh=>(by rw[hh,hx43]at e2;simp at e2);refine⟨by rw[ho9 _ hne,e1],Qj1 ?_⟩
    cases hh:H p.1 with
    |none=>rfl
    |_=>have:=kn.chg p.1 (by rw[hh];simp) (by simp);rw[e2,hh]at this;simp at this
   refine Qk ?_;simp only[go_sem,Q5,Qae,Qbsa,reduceIte,Ja,forall_eq,RS.op,hx49,hbow];have hok5:=(st4.trans st5).ok _ hsok1;obtain⟨bs,hbs1,hbs2,hbs3⟩:=Qbbd (H:=H9) (S:=un H) s5.blocks fun b hb=>⟨h5.gi b hb,h5.ri b hb,fun p hp=>hun p (by
    simp only[LS.L,Jh,Ja9];exact .inr (.inr (.inr ⟨b,hb,hp⟩))),by have:=hok5.i1 b hb;omega⟩
   refine⟨.ag (CodeD.mk s5.params s5.regs bs).cells,FrzL.ag (.cons (Qi rfl) (.cons (Qi rfl) (.cons (Gr.frzM h5.gb (fun p hp=>hun p (by
    simp only[LS.L,Jh];exact .inr (.inl hp))) hbs1) .nil))),hK _ _ ⟨by simp,fun m hm _=>?_⟩ hbs3⟩
   rw[Qbib hm];exact huse m hm
theorem Qbou {fns:List Fn}{fl:Bool}(hp:PrOk fns)(hK:∀(cs:List CodeD) (H':Heap),Upd H H' []→0<cs.length→(∀c∈cs,c.fits)→K (.ag [.sl false 3 (Qj cs)]) H') :
  Qr prog Qaev [.ag [.sl fl 3 (Qcj fns)]] H K:=by
 refine Q3 ?_;refine Qc Qal Qbph ?_;refine Qa ?_;simp only[go_sem];intro x2 hx2 H1 h1;have kn:=(Kn.start0 H).al hx2 h1;refine Qa ?_;simp only[go_sem];intro x3 hx3 H2 h2;have kn:=kn.al hx3 h2;have hx32:=kn.l 1 rfl;simp only[go_sem,Qalq,hx32];intro H3 h3;have kn:Kn H H3 [] [(x2,.st [.sl true 3 []]),(x3,.st [.sl true 3 []])]:=kn.stL 1 rfl h3;refine Qaa ?_;refine Qa ?_;simp only[go_sem];refine Qh (Qe (Qx (fun n e1 H1=>∃(i:Nat) (cs:List CodeD) (c:C) (Lg:List (Nat×Obj)),n=fns.length-i∧i≤fns.length∧cs.length=i∧(∀c∈cs,c.fits)∧Gr Lg 3 (Qj cs) c∧Kn H H1 [] ([(x2,.st [.sl true 3 []]),(x3,.st [c])]++Lg)∧
  e1=[(1,.c (.pp [.sl fl 3 (Qcj fns)])),(2,.c (.ptr x2 0)),(3,.c (.ptr x3 0)),(4,.c (.int .i64 i))]) fns.length ?_ ?_))
 ·exact⟨0,[],_,[],by omega,by omega,rfl,by simp,.nil 3,kn,rfl⟩
 ·rintro n e1 H1 ⟨i,cs,c,Lg,hn1,hi,hcl,hfit,hgr,kn,rfl⟩;refine Qaa ?_;refine Qa ?_;simp only[go_sem,Qbp];intro hl;simp only[LIM]at hl;have hcow:=hgr.isOw;have hx31:=kn.l 1 rfl;refine Qh (Qd rfl ?_ ?_)
  ·intro hc;have hlt:i<fns.length:=by simpa using hc
   have hm:=Jd hlt;refine Qg ?_;simp only[go_sem];refine Qh (Qe (Qbn ?_));simp only[go_sem,hx31,hcow];refine Qbv7 hlt (hp.par _ hm) (hp.ok _ hm) (by have:=Qtg hm;have:=hp.size;omega) fun x H4 hu hxf=>?_;have kn:=kn.call0 hu;have hx34:=kn.l 1 rfl;simp only[go_sem,Qals,hx34,hcow,CodeD.cells];refine kn.grow (B:=[_,_]) (new:=[x.cells]) hgr (.mk' _ _ _ _) (by intro r hr;simp only[Ja]at hr;subst hr;rfl) (by simp only[Qo,LIM,Js,Jy];omega) fun y' H5 kn=>?_;have hx35:=kn.l 1 rfl;simp only[go_sem,Qalr,hx35];intro H6 h6;have kn:=kn.stL 1 rfl h6;refine Qt ?_;simp only[go_sem,X.next];refine⟨Qs (by omega) (by omega),fns.length-(i+1),by omega,i+1,cs++[x],_,_,rfl,by omega,by simp[hcl],fun c' hc'=>by
    rcases Jh.1 hc' with h|h
    ·exact hfit c' h
    ·simp at h;subst h;exact hxf,?_,kn,rfl⟩
   rw[Qawy];exact .mk _ _ _ (by simp[Qo])
  ·intro hc;have hge:fns.length≤i:=by simpa using hc
   have hx21:=kn.l 0 rfl;refine Qw ?_;simp only[go_sem,X.next];refine Qa ?_;simp only[go_sem,hx31,hx21,hcow];intro H2 h2;have kn:=kn.stL 0 rfl h2;have hx22:=kn.l 0 rfl;refine Qk ?_;simp only[go_sem,Q5,Qae,Qbch,reduceIte,Ja,forall_eq,RS.op,hx22,hcow];exact⟨.ag [.sl false 3 (Qj cs)],FrzL.ag (.cons (hgr.frz (B:=[_,_]) kn (Qbe _)) .nil),hK _ _ kn.fin (by have:=hp.pos;omega) hfit⟩
attribute [local instance] Classical.propDecidable
def Qs7 (q:CodeD):Bool:=decide (0≤q.params∧q.params≤3)&&decide (q.params≤q.regs∧q.regs≤300)&&decide (1≤(q.blocks.length:Int)∧(q.blocks.length:Int)≤160)
def Qsq (y:BlkD):Nat:=y.ins.length+y.phis.length
def Qfb {α:Type}(f:α→Nat)(l:List α):Nat:=(l.map f).sum
theorem Qdc {α:Type}{f:α→Nat}{l:List α}{i:Nat}(h:i<l.length):Qfb f (l.take (i+1))=Qfb f (l.take i)+f l[i]:=by
 rw[Qfb,Qfb,Jf h,Jw,Jbc];simp
theorem Qawj {α:Type}{f:α→Nat}{l:List α}(i:Nat):Qfb f (l.take i)≤Qfb f l:=by
 have:Qfb f l=Qfb f (l.take i)+Qfb f (l.drop i):=by rw[Qfb,Qfb,Qfb,←Jbc,←Jw,Jaf]
 omega
def Qfc (q:CodeD):Nat:=Qfb Qsq q.blocks
def Qamj (cs:List CodeD)(k:Nat)(hk:k<cs.length):Prop:=Qs7 cs[k]=true∧∀(b:Nat) (h:b<cs[k].blocks.length),Qsn cs k b cs[k] cs[k].blocks[b]=true
def Qbu5 (cs:List CodeD):Prop:=(1≤(cs.length:Int)∧(cs.length:Int)≤4)∧(∀(k:Nat) (h:k<cs.length),Qamj cs k h)∧Qfb Qfc cs≤800
noncomputable def Qbr (cs:List CodeD):Bool:=decide (Qbu5 cs)
theorem Qbde {cs:List CodeD}(hfit:∀c∈cs,c.fits)(h:Qbr cs=true):cs.length≤4∧0<cs.length∧∀c∈cs,c.gd:=by
 obtain⟨h1,h2,_⟩:=of_decide_eq_true h;refine⟨by omega,by omega,fun c hc=>?_⟩;obtain⟨k,hk,rfl⟩:=Ja0 hc;obtain⟨g1,g2⟩:=h2 k hk;simp only[Qs7,Jn,decide_eq_true_eq]at g1;refine⟨by omega,by omega,fun b hb=>?_,fun b hb=>hfit _ (Jd hk) b hb⟩;obtain⟨i,hi,rfl⟩:=Ja0 hb;exact Qbhu (g2 i hi)
theorem Qx2 {cs:List CodeD}(h:¬Qbu5 cs):Qbr cs=false:=decide_eq_false h
theorem Qbrt {cs:List CodeD}{k j:Nat}(hk:k<cs.length)(hj:j<cs[k].blocks.length)(h:800<Qfb Qfc (cs.take k)+Qfb Qsq (cs[k].blocks.take j)+Qsq cs[k].blocks[j]):¬Qbu5 cs:=by
 rintro⟨_,_,h3⟩;have a1:=Qawj (f:=Qfc) (l:=cs) (k+1);rw[Qdc hk]at a1;have a2:=Qawj (f:=Qsq) (l:=cs[k].blocks) (j+1);rw[Qdc hj]at a2;simp only[Qfc]at *;omega
set_option maxHeartbeats 2000000 in
theorem Qj6 {cs:List CodeD}{fl:Bool}(hfit:∀c∈cs,c.fits)(hK:∀(H':Heap),Upd H H' []→K (.c (.bool (Qbr cs))) H') :
  Qr prog Qbw [.ag [.sl fl 3 (Qj cs)]] H K:=by
 refine Q3 ?_;refine Qc Qal Qam1 ?_;have retf:∀(b:Bool) (e:Env) (H':Heap) (L:List (Nat×Obj)),Qbr cs=b→Kn H H' [] L→lk 2 e=.c (.bool b)→Q5 Qdv (unK H K) .ret e H':=by
  intro b e H' L hb kn h3;simp only[go_sem,Q5,Qae,Qdv,Ja,forall_eq,RS.op,h3];rw[←hb];exact⟨_,.c _ _ (Qi rfl),hK _ kn.fin⟩
 have kn:=Kn.start0 H;refine Qa ?_;simp only[go_sem];refine Qaa ?_;refine Qa ?_;simp only[go_sem,Qo];intro hcl;refine Qc8 ?_;simp only[go_sem,Qnj];refine Qh (Qd rfl ?_ ?_)
 ·intro hc;refine Qa ?_;simp only[go_sem];refine Qk ?_;simp only[go_sem];exact retf false _ _ _ (Qx2 fun hu=>by have:=of_decide_eq_false (Qtc hc);exact this hu.1) kn (by simp[lk])
 intro hc;have hc4:cs.length≤4∧0<cs.length:=by
  have:1≤(cs.length:Int)∧(cs.length:Int)≤4:=by simpa using hc
  omega
 refine Qg ?_;simp only[go_sem];refine Qa ?_;simp only[go_sem];refine Qaa ?_;refine Qa ?_;simp only[go_sem];refine Qh (Qe (Qx (fun m e1 H1=>∃(k n:Nat),m=cs.length-k∧k≤cs.length∧n=Qfb Qfc (cs.take k)∧n≤800∧(∀(i:Nat) (hi:i<cs.length),i<k→Qamj cs i hi)∧Kn H H1 [] []∧e1=[(1,.c (.pp [.sl fl 3 (Qj cs)])),(3,.c (.int .i64 n)),(4,.c (.int .i64 k))]) cs.length ?_ ?_))
 ·exact⟨0,0,by omega,by omega,rfl,by omega,fun _ _ h=>by omega,kn,rfl⟩
 ·rintro m e1 H1 ⟨k,n,hm,hk,hns,hn,hgd,kn,rfl⟩;refine Qaa ?_;refine Qa ?_;simp only[go_sem,Qo];intro hcl;refine Qh (Qd rfl ?_ ?_)
  ·intro hc;have hlt:k<cs.length:=by simpa using hc
   refine Qg ?_;simp only[go_sem];refine Qh (Qe ?_);refine Qa ?_;simp only[go_sem,hlt,Qo,Q0 _ _ hlt,CodeD.cells];obtain⟨q,hq⟩:∃q,cs[k]=q:=⟨_,rfl⟩;rw[hq];intro x5 hx5 H2 h2;have kn:=kn.al hx5 h2;have hx52:=kn.l 0 rfl;simp only[go_sem,Qnk,hx52];intro H3 h3;have kn:Kn H H3 [] [(x5,.st [.int .i64 q.params,.int .i64 q.regs,.sl false 5 (Qn q.blocks)])]:=kn.stL 0 rfl h3;have hx53:=kn.l 0 rfl;refine Qaa ?_;refine Qa ?_;simp only[go_sem,hx53];refine Qc8 ?_;simp only[go_sem,Qnl,hx53];have rest:∀(b:Bool) (E1:Env),lk 1 E1=.c (.pp [.sl fl 3 (Qj cs)])→lk 3 E1=.c (.int .i64 n)→lk 4 E1=.c (.int .i64 k)→lk 5 E1=.c (.ptr x5 0)→lk 42 E1=.c (.bool b)→Qs7 q=(!b)→
     Qam prog (s_sp_UnitValid_6.seq Qni) (X.inBlock 1 (X.sq prog Qgh (X.next (fun e2 H2=>∃m_1,m_1<m∧∃(k n:Nat),m_1=cs.length-k∧k≤cs.length∧n=Qfb Qfc (cs.take k)∧n≤800∧(∀(i:Nat) (hi:i<cs.length),i<k→Qamj cs i hi)∧Kn H H2 [] []∧e2=[(1,.c (.pp [.sl fl 3 (Qj cs)])),(3,.c (.int .i64 n)),(4,.c (.int .i64 k))])
      (X.inBlock 0 (X.sq prog Qgi (Q5 Qdv (unK H K))))))) E1 H3:=by
    intro b E1 l1 l3 l4 l5 l42 hb;refine Qh (Qd l42 ?_ ?_)
    ·intro hc2;refine Qa ?_;simp only[go_sem];refine Qk ?_;simp only[go_sem,X.next];exact retf false _ _ _ (Qx2 fun hu=>by have:=(hu.2.1 k hlt).1;rw[hq,hb,hc2]at this;simp at this) kn (by simp[lk])
    intro hc2;rw[hc2]at hb;have hb':=hb;simp only[Qs7,Jv,Jn,decide_eq_true_eq]at hb';obtain⟨hr0,hr1,hb0,hbl⟩:0≤q.regs∧q.regs≤300∧0<q.blocks.length∧q.blocks.length≤160:=(by omega);refine Qg ?_;simp only[go_sem];refine Qa ?_;simp only[go_sem,l1,l3,l4,l5];refine Qe (Qx (fun m e1 H1=>∃(j n2:Nat),m=q.blocks.length-j∧j≤q.blocks.length∧n2=n+Qfb Qsq (q.blocks.take j)∧n2≤800∧(∀(i:Nat) (hi:i<q.blocks.length),i<j→Qsn cs k i q q.blocks[i]=true)∧Kn H H1 [] [(x5,.st [.int .i64 q.params,.int .i64 q.regs,.sl false 5 (Qn q.blocks)])]∧
     e1=[(1,.c (.pp [.sl fl 3 (Qj cs)])),(3,.c (.int .i64 n2)),(4,.c (.int .i64 k)),(5,.c (.ptr x5 0)),(6,.c (.int .i64 j))]) q.blocks.length ?_ ?_)
    ·exact⟨0,n,by omega,by omega,rfl,hn,fun _ _ h=>by omega,kn,rfl⟩
    ·rintro m2 e1 H4 ⟨j,n2,hm2,hj,hn2s,hn2,hnx,kn,rfl⟩;have hx54:=kn.l 0 rfl;refine Qaa ?_;refine Qa ?_;simp only[go_sem,hx54,Ql];intro hbl2;refine Qh (Qd rfl ?_ ?_)
     ·intro hc3;have hjl:j<q.blocks.length:=(by simpa using hc3);refine Qg ?_;simp only[go_sem];refine Qh (Qe ?_);have hqf:=hfit _ (Jd hlt);rw[hq]at hqf;have hbf:=hqf _ (Jd hjl);have hss:=Qdc (f:=Qsq) hjl;have hcy:Qsq q.blocks[j]=q.blocks[j].ins.length+q.blocks[j].phis.length:=rfl;refine Qaj ?_;simp only[go_sem,hx54,hjl,Ql,Q1 _ _ hjl,BlkD.cells,Q4,Qv];refine⟨Qs (by omega) (by omega),Qs (by omega) (by omega),?_⟩;refine Qa ?_;simp only[go_sem];have fin:∀(b3:Bool) (E1:Env) (H5:Heap),(decide (n2+Qsq q.blocks[j]≤800)&&Qsn cs k j q q.blocks[j])=(!b3)→Kn H H5 [] [(x5,.st [.int .i64 q.params,.int .i64 q.regs,.sl false 5 (Qn q.blocks)])]→lk 1 E1=.c (.pp [.sl fl 3 (Qj cs)])→
        lk 3 E1=.c (.int .i64 ((n2+q.blocks[j].ins.length+q.blocks[j].phis.length:Nat):Int))→lk 4 E1=.c (.int .i64 k)→lk 5 E1=.c (.ptr x5 0)→lk 6 E1=.c (.int .i64 j)→lk 75 E1=.c (.bool b3)→
        Qam prog Qq3 (X.inBlock 3 (X.sq prog Qnh (X.next (fun e2 H2=>∃m,m<m2∧∃(j n2:Nat),m=q.blocks.length-j∧j≤q.blocks.length∧n2=n+Qfb Qsq (q.blocks.take j)∧n2≤800∧(∀(i:Nat) (hi:i<q.blocks.length),i<j→Qsn cs k i q q.blocks[i]=true)∧Kn H H2 [] [(x5,.st [.int .i64 q.params,.int .i64 q.regs,.sl false 5 (Qn q.blocks)])]∧
         e2=[(1,.c (.pp [.sl fl 3 (Qj cs)])),(3,.c (.int .i64 n2)),(4,.c (.int .i64 k)),(5,.c (.ptr x5 0)),(6,.c (.int .i64 j))])
         (X.inBlock 2 (X.inBlock 1 (X.sq prog Qgh (X.next (fun e2 H2=>∃m_1,m_1<m∧∃(k n:Nat),m_1=cs.length-k∧k≤cs.length∧n=Qfb Qfc (cs.take k)∧n≤800∧(∀(i:Nat) (hi:i<cs.length),i<k→Qamj cs i hi)∧Kn H H2 [] []∧e2=[(1,.c (.pp [.sl fl 3 (Qj cs)])),(3,.c (.int .i64 n)),(4,.c (.int .i64 k))])
         (X.inBlock 0 (X.sq prog Qgi (Q5 Qdv (unK H K))))))))))) E1 H5:=by
       intro b3 E1 H5 hb3 kn l1 l3 l4 l5 l6 l75;refine Qd l75 ?_ ?_
       ·intro hc4;refine Qa ?_;simp only[go_sem];refine Qk ?_;simp only[go_sem,X.next];refine retf false _ _ _ (Qx2 fun hu=>?_) kn (by simp[lk]);rw[hc4]at hb3;have hblk:=(hu.2.1 k hlt).2 j (by rw[hq];exact hjl);subst hq;have hov:¬800<n2+Qsq cs[k].blocks[j]:=fun ho=>Qbrt hlt hjl (by omega) hu;rw[hblk]at hb3;simp at hb3;omega
       ·intro hc4;rw[hc4]at hb3;simp only[Jv,Jn,decide_eq_true_eq]at hb3;refine Qg ?_;simp only[go_sem];refine Qt ?_;simp only[go_sem,X.next,l1,l3,l4,l5,l6];refine⟨Qs (by omega) (by omega),q.blocks.length-(j+1),by omega,j+1,_,rfl,by omega,?_,?_,?_,kn,rfl⟩
        ·rw[hss];omega
        ·omega
        ·intro i hi hij;by_cases hij2:i<j
         ·exact hnx i hi hij2
         ·have:i=j:=(by omega);subst this;exact hb3.2
      refine⟨fun hb1=>?_,fun hb1=>?_⟩
      ·refine Qbjf hlt (by rw[hq];exact hjl) (by rw[hq];exact hr0) (by rw[hq];exact hr1) (by omega) (by rw[hq];omega) fun H5 hu=>?_;have kn:=kn.call0 hu;simp only[go_sem,Qgk];refine fin _ _ _ ?_ kn (by simp[lk]) (by simp[lk]) (by simp[lk]) (by simp[lk]) (by simp[lk]) (by simp[lk];rfl);subst hq;by_cases ho:n2+Qsq cs[k].blocks[j]≤800
       ·have ho':¬800<(n2:Int)+cs[k].blocks[j].ins.length+cs[k].blocks[j].phis.length:=(by simp only[Qsq]at ho;omega);simp[ho,ho']
       ·have ho':800<(n2:Int)+cs[k].blocks[j].ins.length+cs[k].blocks[j].phis.length:=(by simp only[Qsq]at ho;omega);simp[ho,ho']
      ·replace hb1:=Qh8 hb1;simp only[go_sem,Qgk,hb1];exact fin true _ _ (by simp at hb1;simp[hcy];omega) kn (by simp[lk]) (by simp[lk]) (by simp[lk]) (by simp[lk]) (by simp[lk]) (by simp[lk])
     ·intro hc3;refine Qw ?_;simp only[go_sem,X.next];refine Qt ?_;simp only[go_sem,X.next];have hjq:q.blocks.length≤j:=(by simpa using hc3);have hjq:j=q.blocks.length:=(by omega);refine⟨Qs (by omega) (by omega),cs.length-(k+1),by omega,k+1,n2,rfl,by omega,?_,hn2,?_,kn.drop (A:=[]),rfl⟩
      ·rw[Qdc hlt,hq,hn2s,hns,hjq,Jav];rfl
      ·intro i hi hik;by_cases hik2:i<k
       ·exact hgd i hi hik2
       ·have:i=k:=(by omega);subst this;subst hq;exact⟨by rw[hb];rfl,fun b hbl=>hnx b hbl (by omega)⟩
   refine⟨fun hb1=>?_,fun hb1=>?_⟩
   ·refine Qc8 ?_;simp only[go_sem,Qgj,hx53,Ql];intro hblim;refine⟨fun hb2=>?_,fun hb2=>?_⟩
    ·replace hb2:=Qtc hb2;refine Qc8 ?_;simp only[go_sem,Qdg];refine rest _ _ (by simp[lk]) (by simp[lk]) (by simp[lk]) (by simp[lk]) (by simp[lk];rfl) ?_;simp[Qs7]
    ·replace hb2:=Qh8 hb2;simp only[go_sem,Qdg,hb2];exact rest true _ (by simp[lk]) (by simp[lk]) (by simp[lk]) (by simp[lk]) (by simp[lk]) (by simp at hb2;simp[Qs7];omega)
   ·replace hb1:=Qh8 hb1;simp only[go_sem,Qgj,Qdg,hb1,hx53,Ql,cond_true];exact rest true _ (by simp[lk]) (by simp[lk]) (by simp[lk]) (by simp[lk]) (by simp[lk]) (by simp at hb1;simp[Qs7];omega)
  ·intro hc;refine Qw ?_;simp only[go_sem,X.next];refine Qa ?_;simp only[go_sem];refine Qk ?_;have hkc:cs.length≤k:=by simpa using hc
   refine retf true _ _ _ (decide_eq_true ⟨by omega,fun i hi=>hgd i hi (by omega),?_⟩) kn (by simp[lk]);rw[Jc hkc]at hns;omega
theorem Qa4g {cs:List CodeD}{fl:Bool}(hfit:∀c∈cs,c.fits)(hK:∀(b:Bool) (H':Heap),(b=true→cs.length≤4∧0<cs.length∧∀c∈cs,c.gd)→Upd H H' []→K (.c (.bool b)) H') :
  Qr prog Qbw [.ag [.sl fl 3 (Qj cs)]] H K:=Qj6 hfit fun H' hu=>hK _ H' (Qbde hfit) hu
end Go.AE.Y
namespace Go.AE.Y
open Go.Proofs.Tryz
variable {H:Heap}{K:V→Heap→Prop}
def UnitOk (cs:List CodeD):Prop:=0<cs.length∧cs.length≤4∧∀c∈cs,c.gd
theorem Qbi2 {R:Rdr}{k:Nat}(hH:H R.l=R.o k)(hk:k+7100000≤2^30)
  (hK:∀(cs:List CodeD) (H':Heap) (k':Nat),k<k'→k'≤k+7050000→Upd H H' [(R.l,R.o k')]→UnitOk cs→K (.ag [.sl false 3 (Qj cs)]) H') :
  Qr prog Q5b [.c (.ptr R.l 0)] H K:=by
 refine Q3 ?_;refine Qc Qal Qbjo ?_;refine Qa ?_;simp only[go_sem];intro x2 hx2 H1 h1;have kn:=(Kn.start1 hH (R.o_ne k)).al hx2 h1;have tail:∀(E1:Env) (H2:Heap) (k1:Nat) (L:List (Nat×Obj)),k<k1→k1≤k+7000500→Kn H H2 [(R.l,R.o k1)] ([(x2,.st [.sl true 3 []])]++L)→lk 0 E1=.c (.ptr R.l 0)→lk 2 E1=.c (.ptr x2 0)→
   Qam prog Qahf (Q5 Q21 (unK H K)) E1 H2:=by
  intro E1 H2 k1 L hk1 hk2 kn l0 l2;refine Qa ?_;simp only[go_sem,l0,l2];refine Qbby (kn.e 0 rfl) (by omega) fun cs H3 k2 hk3 hk4 hu hcs0 hcs3 hsm=>?_;have kn:=kn.callE 0 rfl hu (R.o_ne _);have hx2:=kn.l 0 rfl;simp only[go_sem,Q82,hx2,l2];intro H4 h4;have kn:=kn.stL 0 rfl h4;have hx2:=kn.l 0 rfl;refine Qk ?_;simp only[go_sem,Q5,Qae,Q21,reduceIte,Ja,forall_eq,RS.op,hx2];exact⟨_,FrzL.ag (.cons (FrzR.same (Qbe cs)).sl .nil),hK cs _ k2 (by omega) (by omega) kn.fin ⟨hcs0,by omega,fun c hc=>(hsm c hc).gd⟩⟩
 refine Qaa ?_;refine Qa ?_;simp only[go_sem];refine Qa8 (kn.e 0 rfl) (by omega) fun v H2 hv hu=>?_;have kn:=kn.callE 0 rfl hu (R.o_ne _);simp only[go_sem,Q8y];refine Qh (Qd rfl ?_ ?_)
 ·intro hc;refine Qa ?_;simp only[go_sem];refine Qbom (kn.e 0 rfl) (by omega) fun l H3 k1 hk1 hk2 hu hp=>?_;have kn:=kn.callE 0 rfl hu (R.o_ne _);simp only[go_sem,Q81];refine Qbou hp fun cs H4 hu hcs0 hfit=>?_;have kn:=kn.call0 hu;simp only[go_sem,Q80];intro x3 hx3 H5 h5;have kn:=kn.al hx3 h5;have hx3:=kn.l 1 rfl;simp only[go_sem,Q8z,hx3];intro H6 h6;have kn:=kn.stL 1 rfl h6;have hx3:=kn.l 1 rfl;refine Qa ?_;simp only[go_sem,hx3];refine Qa4g hfit fun b H7 hb hu=>?_;have kn:=kn.call0 hu;have hx3:=kn.l 1 rfl;have hx2:=kn.l 0 rfl;refine Qd rfl ?_ ?_
  ·intro hb1;refine Qa ?_;simp only[go_sem,hx3,hx2];intro H8 h8;have kn:=kn.stL 0 rfl h8;have hx2:=kn.l 0 rfl;refine Qk ?_;simp only[go_sem,Q5,Qae,Q21,reduceIte,Ja,forall_eq,RS.op,hx2];obtain⟨g1,g2,g3⟩:=hb hb1;exact⟨_,FrzL.ag (.cons (FrzR.same (Qbe cs)).sl .nil),hK cs _ k1 (by omega) (by omega) kn.fin ⟨g2,g1,g3⟩⟩
  ·intro hb1;refine Qg ?_;simp only[go_sem];exact tail _ _ k1 [(x3,.st [.sl false 3 (Qj cs)])] (by omega) (by omega) kn (by simp[lk]) (by simp[lk])
 ·intro hc;refine Qg ?_;simp only[go_sem];exact tail _ _ (k+1) [] (by omega) (by omega) kn (by simp[lk]) (by simp[lk])
theorem Qaxd {R:Rdr}{k:Nat}(hH:H R.l=R.o k)(hk:k+7200000≤2^30)
  (hK:∀(cs:List CodeD) (H':Heap) (k':Nat),k<k'→k'≤k+7100000→Upd H H' [(R.l,R.o k')]→UnitOk cs→K (.ag [.sl false 3 (Qj cs)]) H') :
  Qr prog Qxt [.c (.ptr R.l 0)] H K:=by
 refine Q3 ?_;refine Qc Qal Qbjl ?_;refine Qa ?_;simp only[go_sem];intro x2 hx2 H1 h1;have kn:=(Kn.start1 hH (R.o_ne k)).al hx2 h1;refine Qaa ?_;refine Qa ?_;simp only[go_sem];refine Qa8 (kn.e 0 rfl) (by omega) fun v H2 hv hu=>?_;have kn:=kn.callE 0 rfl hu (R.o_ne _);simp only[go_sem,Q8o];refine Qh (Qd rfl ?_ ?_)
 ·intro hc;refine Qa ?_;simp only[go_sem];refine Qbon (kn.e 0 rfl) (by omega) fun cs H3 k2 hk3 hk4 hu hcs0 hcs3 hgd=>?_;have kn:=kn.callE 0 rfl hu (R.o_ne _);have hx2:=kn.l 0 rfl;simp only[go_sem,Q8p,hx2];intro H4 h4;have kn:=kn.stL 0 rfl h4;have hx2:=kn.l 0 rfl;refine Qk ?_;simp only[go_sem,Q5,Qae,Qafq,reduceIte,Ja,forall_eq,RS.op,hx2];exact⟨_,FrzL.ag (.cons (FrzR.same (Qbe cs)).sl .nil),hK cs _ k2 (by omega) (by omega) kn.fin ⟨hcs0,by omega,hgd⟩⟩
 ·intro hc;refine Qg ?_;simp only[go_sem];refine Qa ?_;simp only[go_sem];refine Qbi2 (kn.e 0 rfl) (by omega) fun cs H3 k2 hk3 hk4 hu hok=>?_;have kn:=kn.callE 0 rfl hu (R.o_ne _);have hx2:=kn.l 0 rfl;simp only[go_sem,Q8q,hx2];intro H4 h4;have kn:=kn.stL 0 rfl h4;have hx2:=kn.l 0 rfl;refine Qk ?_;simp only[go_sem,Q5,Qae,Qafq,reduceIte,Ja,forall_eq,RS.op,hx2];exact⟨_,FrzL.ag (.cons (FrzR.same (Qbe cs)).sl .nil),hK cs _ k2 (by omega) (by omega) kn.fin hok⟩
theorem Qaxg {fl:Bool}{bs:List UInt8}(hK:∀(R:Rdr) (H':Heap),H R.l=.none→H'=H.set R.l (R.o 0)→K (.c (.ptr R.l 0)) H'):Qr prog Qxw [.c (.sl fl 1 (Qbs bs))] H K:=by
 refine Qc Qal Qbjz ?_;refine Qa ?_;simp only[go_sem];refine Qaa ?_;refine Qa ?_;simp only[go_sem,Qa0];intro _;have tail:∀(fl:Bool) (bs:List UInt8) (E1:Env),lk 0 E1=.c (.sl fl 1 (Qbs bs))→Qam prog Qahx (Q5 Qafu K) E1 H:=by
  intro fl bs E1 l0;refine Qa ?_;simp only[go_sem,l0];intro l hl H' h';simp only[go_sem,Q9z];refine Qk ?_;simp only[go_sem,Q5,Qae,Qafu,reduceIte,Ja,forall_eq,RS.op];exact hK ⟨l,fl,bs⟩ H' hl h'
 refine Qh (Qd rfl ?_ ?_)
 ·intro hc;have h2:(2000:Int)<bs.length:=by simpa using hc
  refine Qt ?_;simp only[go_sem,Qa0];refine⟨⟨by omega,by omega,by omega⟩,?_⟩;have ht:List.take 2000 (Qbs bs)=Qbs (bs.take 2000):=by simp[Qbs,Jbf]
  rw[ht];exact tail _ (bs.take 2000) _ (by simp[lk];rfl)
 ·intro hc;refine Qg ?_;exact tail fl bs _ (by simp[lk])
end Go.AE.Y
namespace Go.AE.Y
def nxN (nx:Nat→List Int)(b:Nat):List Nat:=(nx b).map Int.toNat
variable {g:Nat→List Nat}{xs:List Nat}{S S' S1:List Bool}{o o' o1:List Nat}
def cnt (S:List Bool):Nat:=S.count true
theorem Qbsq {x:Nat}(hx:x<S.length)(h:S.getD x false=false):cnt (S.set x true)=cnt S+1:=by
 induction S generalizing x with
 |nil=>simp at hx
 |cons a S ih=>
  cases x with
  |zero=>
   simp at h;subst h;simp[cnt]
  |succ x=>
   have:=ih (x:=x) (by simpa using hx) (by simpa using h);simp only[cnt,Jaj,Jba]at this⊢;omega
theorem Qbvl (S:List Bool):cnt S≤S.length:=List.count_le_length
end Go.AE.Y
namespace Go.AE.Y
open Go.Proofs.Tryz
variable {H:Heap}{K:V→Heap→Prop}
structure GRd (H:Heap)(c:C)(rows:List (List C))(nx:Nat→List Int):Prop where
 s:Slc H 5 rows c
 ow:c.isOw=false
 no:∀r∈rows,noOw r=true
 x:∀i,i<rows.length→∃a1 a2 a3 a4 fl,rows.getD i []=[a1,a2,a3,a4,.sl fl 1 (Qb (nx i))]
theorem GRd.keep {c:C}{rows:List (List C)}{nx:Nat→List Int}{H':Heap}{E L:List (Nat×Obj)}(h:GRd H c rows nx)(kn:Kn H H' E L)(hE:∀l a b d,c=.vsl l a b d→l∉E.map Prod.fst):GRd H' c rows nx:=⟨h.s.keep kn hE,h.ow,h.no,h.x⟩
theorem GRd.keep0 {c:C}{rows:List (List C)}{nx:Nat→List Int}{H':Heap}{L:List (Nat×Obj)}(h:GRd H c rows nx)(kn:Kn H H' [] L):GRd H' c rows nx:=h.keep kn (by simp)
def gnx (q:CodeD):Nat→List Int:=fun i=>(q.blocks.map BlkD.next).getD i []
theorem Qadw (H:Heap)(q:CodeD)(fl:Bool):GRd H (.sl fl 5 (Qn q.blocks)) (Qn q.blocks) (gnx q):=by
 refine⟨.mk' _ _ _ _,rfl,Q0s _,fun i h=>?_⟩;rw[Ql]at h;rw[Q1 _ _ h];have:gnx q i=q.blocks[i].next:=by simp[gnx,Jb,h]
 exact⟨.sl false 2 (Q7 q.blocks[i].phis),.sl false 4 (Qag q.blocks[i].ins),.int .i64 q.blocks[i].jump,.int .i64 q.blocks[i].on,false,by rw[this];rfl⟩
end Go.AE.Y
namespace Go.AE.Y
open Go.Proofs.Tryz
def Qy (S:List Bool):List (List C):=S.map fun b=>[.bool b]
theorem Qab (S:List Bool):(Qy S).length=S.length:=by simp[Qy]
theorem Qax (S:List Bool)(i:Nat)(h:i<S.length):(Qy S).getD i []=[.bool (S.getD i false)]:=by
 simp[Qy,Jb,h]
theorem Qf6 (S:List Bool)(i:Nat)(b:Bool):(Qy S).set i [.bool b]=Qy (S.set i b):=by simp[Qy,J4]
theorem Qso (S:List Bool):∀r∈Qy S,noOw r=true:=by intro r hr;obtain⟨x,_,rfl⟩:=Jk.1 hr;rfl
def Qbq (l:List Nat):List (List C):=Qb (l.map Int.ofNat)
theorem Q5x (l:List Nat):(Qbq l).length=l.length:=by simp[Qbq,Qf]
theorem Qd7 (l:List Nat):∀r∈Qbq l,noOw r=true:=Qz _
variable {H:Heap}{K:V→Heap→Prop}
theorem Qb6 {n lo hi:Int}(hK:K (.c (.bool (decide (lo≤n)&&decide (n≤hi)))) H):Qr prog Qar [.c (.int .i64 n),.c (.int .i64 lo),.c (.int .i64 hi)] H K:=by
 refine Qc Qal Qa46 ?_;refine Qa ?_;simp only[go_sem];refine Qa ?_;simp only[go_sem];refine Qk ?_;simp only[go_sem,Q5,Qae,Qafp,Ja,forall_eq,RS.op];have:(bif decide (lo≤n)then decide (n≤hi)else false)=(decide (lo≤n)&&decide (n≤hi)):=by cases decide (lo≤n) <;> rfl
 first|exact hK|(rw[this];exact hK)|(simpa[this]using hK)
def IsIx (ns:List Int)(v r:Int):Prop:=(r=-1∧v∉ns)∨∃i:Nat,r=i∧i<ns.length∧ns.getD i 0=v∧v∉ns.take i
theorem IsIx.nonneg {ns:List Int}{v r:Int}(h:IsIx ns v r):decide (0≤r)=ns.contains v:=by
 rcases h with ⟨rfl,hn⟩|⟨i,rfl,h1,h2,_⟩
 ·have:ns.contains v=false:=by
   cases hc:ns.contains v with
   |false=>rfl
   |true=>exact absurd (J1.1 hc) hn
  rw[this];rfl
 ·have:v∈ns:=by
   rw[←h2,Jb,Jg h1];exact Jd h1
  rw[J1.2 this];simp
theorem Qa4e {c:C}{ns:List Int}{v:Int}(hs:Slc H 1 (Qb ns) c)(how:c.isOw=false)(hK:∀r,IsIx ns v r→K (.c (.int .i64 r)) H) :
  Qr prog Qiz [.c c,.c (.int .i64 v)] H K:=by
 refine Qc Qal Qbeu ?_;have hok:=eq_true hs.ok;have hlen:=hs.len;have hsz:=hs.sz;have hrw:=hs.rows;refine Qa ?_;simp only[go_sem,how];refine Qaa ?_;refine Qa ?_;simp only[go_sem,how,hok,hlen,Qf];intro hl;simp only[LIM]at hl;refine Qh (Qe (Qx (fun m e1 H1=>∃(i:Nat),m=ns.length-i∧i≤ns.length∧H1=H∧v∉ns.take i∧e1=[(0,.c c),(1,.c (.int .i64 v)),(7,.c (.int .i64 ns.length)),(8,.c (.int .i64 i))]) ns.length ?_ ?_))
 ·exact⟨0,by omega,by omega,rfl,by simp,rfl⟩
 ·rintro m e1 H1 ⟨i,hm,hi,rfl,hno,rfl⟩;refine Qa ?_;simp only[go_sem,how];refine Qh (Qd rfl ?_ ?_)
  ·intro hc;have hlt:i<ns.length:=by simpa using hc
   have hgd:ns.getD i 0=ns[i]:=by simp[Jb,hlt]
   refine Qg ?_;simp only[go_sem];refine Qh (Qe ?_);refine Qa ?_;simp only[go_sem,how];refine Qa ?_;simp only[go_sem,how,hok,hlen,hsz,hrw,hlt,Qf,Qu _ _ hlt];refine Qd rfl ?_ ?_
   ·intro hc2;have hv:v=ns.getD i 0:=(by simpa using hc2);refine Qa ?_;simp only[go_sem];refine Qk ?_;simp only[go_sem,X.next,Q5,Qae,Q53,Ja,forall_eq,RS.op];exact hK _ (.inr ⟨i,rfl,hlt,hv.symm,hno⟩)
   ·intro hc2;have hv:¬v=ns.getD i 0:=(by simpa using hc2);refine Qg ?_;simp only[go_sem];refine Qt ?_;simp only[go_sem,X.next];refine⟨Qs (by omega) (by omega),ns.length-(i+1),by omega,i+1,rfl,by omega,?_,rfl⟩;rw[Jf hlt];simp only[Jh,Ja,not_or];exact⟨hno,fun h=>hv (by rw[hgd];exact h)⟩
  ·intro hc;have hge:ns.length≤i:=by simpa using hc
   rw[Jc hge]at hno;refine Qw ?_;simp only[go_sem,X.next];refine Qa ?_;simp only[go_sem];refine Qk ?_;simp only[go_sem,Q5,Qae,Q53,Ja,forall_eq,RS.op];exact hK _ (.inl ⟨rfl,hno⟩)
theorem Qbdi {c:C}{ns:List Int}{v:Int}(hs:Slc H 1 (Qb ns) c)(how:c.isOw=false)(hK:K (.c (.bool (ns.contains v))) H) :
  Qr prog Qlb [.c c,.c (.int .i64 v)] H K:=by
 refine Qc Qal Qate ?_;refine Qa ?_;simp only[go_sem,how];refine Qa ?_;simp only[go_sem,how];refine Qa4e hs how fun r hr=>?_;simp only[go_sem,Qqz];refine Qk ?_;simp only[go_sem,Q5,Qae,Q29,Ja,forall_eq,RS.op];rw[hr.nonneg];exact hK
theorem Qa4d {c:C}{ns:List Int}{f:Nat}{caps:List C}{p:Int→Bool}(hs:Slc H 1 (Qb ns) c)(how:c.isOw=false)
  (hf:∀(x:Int) (K':V→Heap→Prop),x∈ns→K' (.c (.bool (p x))) H→Qr prog f ([.c (.int .i64 x)]++caps.map .c) H K')
  (hK:∀r:Int,decide (0≤r)=ns.any p→K (.c (.int .i64 r)) H) :
  Qr prog Qi0 [.c c,.c (.fn f caps)] H K:=by
 refine Qc Qal Qamy ?_;have hok:=eq_true hs.ok;have hlen:=hs.len;have hsz:=hs.sz;have hrw:=hs.rows;refine Qa ?_;simp only[go_sem,how];refine Qaa ?_;refine Qa ?_;simp only[go_sem,how,hok,hlen,Qf];intro hl;simp only[LIM]at hl;refine Qh (Qe (Qx (fun m e1 H1=>∃(i:Nat),m=ns.length-i∧i≤ns.length∧H1=H∧(∀x∈ns.take i,p x=false)∧e1=[(0,.c c),(1,.c (.fn f caps)),(7,.c (.int .i64 ns.length)),(8,.c (.int .i64 i))]) ns.length ?_ ?_))
 ·exact⟨0,by omega,by omega,rfl,by simp,rfl⟩
 ·rintro m e1 H1 ⟨i,hm,hi,rfl,hno,rfl⟩;refine Qa ?_;simp only[go_sem,how];refine Qh (Qd rfl ?_ ?_)
  ·intro hc;have hlt:i<ns.length:=by simpa using hc
   have hgd:ns.getD i 0=ns[i]:=by simp[Jb,hlt]
   refine Qg ?_;simp only[go_sem];refine Qh (Qe ?_);refine Qa ?_;simp only[go_sem,how];refine Qa ?_;simp only[go_sem,how,hok,hlen,hsz,hrw,hlt,Qf,Qu _ _ hlt];refine hf _ _ (by rw[hgd];exact Jd hlt) ?_;refine Qd rfl ?_ ?_
   ·intro hc2;refine Qa ?_;simp only[go_sem];refine Qk ?_;simp only[go_sem,X.next,Q5,Qae,Qlj,Ja,forall_eq,RS.op];refine hK _ ?_;have:ns.any p=true:=Jag.2 ⟨ns[i],Jd hlt,by rw[←hgd];exact hc2⟩;rw[this];simp
   ·intro hc2;refine Qg ?_;simp only[go_sem];refine Qt ?_;simp only[go_sem,X.next];refine⟨Qs (by omega) (by omega),ns.length-(i+1),by omega,i+1,rfl,by omega,?_,rfl⟩;rw[Jf hlt];intro x hx;rcases Jh.1 hx with hx|hx
    ·exact hno x hx
    ·simp only[Ja]at hx;subst hx;rw[←hgd];exact hc2
  ·intro hc;have hge:ns.length≤i:=by simpa using hc
   rw[Jc hge]at hno;refine Qw ?_;simp only[go_sem,X.next];refine Qa ?_;simp only[go_sem];refine Qk ?_;simp only[go_sem,Q5,Qae,Qlj,Ja,forall_eq,RS.op];refine hK _ ?_;have:ns.any p=false:=by
    cases hc:ns.any p with
    |false=>rfl
    |true=>obtain⟨x,hx,hp⟩:=Jag.1 hc;rw[hno x hx]at hp;exact absurd hp (by simp)
   rw[this];rfl
theorem Qgn {c:C}{ns:List Int}{f:Nat}{caps:List C}{p:Int→Bool}(hs:Slc H 1 (Qb ns) c)(how:c.isOw=false)
  (hf:∀(x:Int) (K':V→Heap→Prop),x∈ns→K' (.c (.bool (p x))) H→Qr prog f ([.c (.int .i64 x)]++caps.map .c) H K')
  (hK:K (.c (.bool (ns.any p))) H):Qr prog Qbk [.c c,.c (.fn f caps)] H K:=by
 refine Qc Qal Q5t ?_;refine Qa ?_;simp only[go_sem,how];refine Qa ?_;simp only[go_sem,how];refine Qa4d hs how hf fun r hr=>?_;simp only[go_sem,Qhx];refine Qk ?_;simp only[go_sem,Q5,Qae,Qmn,Ja,forall_eq,RS.op];rw[hr];exact hK
theorem Qbis {op:Int}(hK:K (.c (.bool (decide (1≤op)&&decide (op≤14)))) H):Qr prog Qnt [.c (.int .i64 op)] H K:=by
 refine Qc Qal Qben ?_;refine Qa ?_;simp only[go_sem];refine Qa ?_;simp only[go_sem];refine Qb6 ?_;simp only[go_sem,Q3v];refine Qk ?_;simp only[go_sem,Q5,Qae,Qari,Ja,forall_eq,RS.op];exact hK
theorem Qbbt {n:Int}(hK:K (.c (.bool (decide (0≤n)&&decide (n≤255)))) H):Qr prog Qj9 [.c (.int .i64 n)] H K:=by
 refine Qc Qal Qa43 ?_;refine Qa ?_;simp only[go_sem];refine Qa ?_;simp only[go_sem];refine Qb6 ?_;simp only[go_sem,Qz3];refine Qk ?_;simp only[go_sem,Q5,Qae,Qafm,Ja,forall_eq,RS.op];exact hK
theorem Qbc5 {op:Int}(hK:K (.c (.bool (Qb9 op))) H):Qr prog Ql1 [.c (.int .i64 op)] H K:=by
 refine Qc Qal Qbjk ?_;refine Qa ?_;simp only[go_sem];refine Qa ?_;simp only[go_sem];refine Qbis ?_;simp only[go_sem,Q8n];refine Qk ?_;simp only[go_sem,Q5,Qae,Qax7,Ja,forall_eq,RS.op];have:∀a b c:Bool,(bif bif a then b else false then c else false)=(a&&b&&c):=by decide
 rw[this];have e:(decide (1≤op)&&decide (op≤14))=decide (1≤op∧op≤14):=by simp
 rw[e];exact hK
theorem Qad3 {j:Int}(hK:K (.c (.bool (decide (j=2) || decide (j=3)))) H):Qr prog Qgy [.c (.int .i64 j)] H K:=by
 refine Qc Qal Qa45 ?_;refine Qa ?_;simp only[go_sem];refine Qa ?_;simp only[go_sem];refine Qk ?_;simp only[go_sem,Q5,Qae,Qafo,Ja,forall_eq,RS.op];have:∀a b:Bool,(bif a then true else b)=(a || b):=by decide
 first|(rw[this];exact hK)|exact hK
theorem Qa5h {j:Int}(hK:K (.c (.int .i64 (Qme j))) H):Qr prog Qix [.c (.int .i64 j)] H K:=by
 refine Qc Qal Qamx ?_;have retf:∀(n:Int) (e:Env),Qme j=n→lk 2 e=.c (.int .i64 n)→Q5 Qli K .ret e H:=by
  intro b e h1 h3;simp only[go_sem,Q5,Qae,Qli,Ja,forall_eq,RS.op,h3];rw[←h1];exact hK
 refine Qa ?_;simp only[go_sem];refine Qaa ?_;refine Qa ?_;simp only[go_sem];refine Qh (Qe ?_);refine Qa ?_;simp only[go_sem];refine Qd rfl ?_ ?_
 ·intro hc;refine Qa ?_;simp only[go_sem];refine Qk ?_;simp only[go_sem];exact retf 1 _ (by simp at hc;simp[Qme,hc]) (by simp[lk])
 intro hc1;refine Qa ?_;simp only[go_sem];refine Qd rfl ?_ ?_
 ·intro hc;refine Qa ?_;simp only[go_sem];refine Qk ?_;simp only[go_sem];exact retf 2 _ (by simp at hc;simp[Qme,hc]) (by simp[lk])
 intro hc2;refine Qa ?_;simp only[go_sem];refine Qd rfl ?_ ?_
 ·intro hc;refine Qa ?_;simp only[go_sem];refine Qk ?_;simp only[go_sem];exact retf 0 _ (by simp at hc;simp[Qme,hc]) (by simp[lk])
 ·intro hc;refine Qg ?_;simp only[go_sem];refine Qa ?_;simp only[go_sem];refine Qk ?_;exact retf (-1) _ (by simp at hc hc1 hc2;simp[Qme,hc,hc1,hc2]) (by simp[lk])
def Qawr (op:Int):Int:=if op=1 then 0 else if op=2∨op=10∨op=11∨op=13 then 1 else 2
theorem Qbik {op:Int}(hK:K (.c (.int .i64 (Qawr op))) H):Qr prog Qns [.c (.int .i64 op)] H K:=by
 refine Qc Qal Qaxn ?_;have retf:∀(n:Int) (e:Env),Qawr op=n→lk 2 e=.c (.int .i64 n)→Q5 Qkj K .ret e H:=by
  intro b e h1 h3;simp only[go_sem,Q5,Qae,Qkj,Ja,forall_eq,RS.op,h3];rw[←h1];exact hK
 refine Qa ?_;simp only[go_sem];refine Qaa ?_;refine Qa ?_;simp only[go_sem];refine Qh (Qe ?_);refine Qa ?_;simp only[go_sem];refine Qd rfl ?_ ?_
 ·intro hc;refine Qa ?_;simp only[go_sem];refine Qk ?_;simp only[go_sem];exact retf 0 _ (by simp at hc;simp[Qawr,hc]) (by simp[lk])
 intro hc1;have fin:∀(b:Bool) (e:Env),b=decide (op=2∨op=10∨op=11∨op=13)→lk 6 e=.c (.bool b)→Qam prog Qz1 (X.inBlock 0 (X.sq prog Qz2 (Q5 Qkj K))) e H:=by
  intro b e hb l6;refine Qd l6 ?_ ?_
  ·intro hc;refine Qa ?_;simp only[go_sem];refine Qk ?_;simp only[go_sem];exact retf 1 _ (by rw[hc]at hb;have:=of_decide_eq_true hb.symm;simp at hc1;rw[Qawr,if_neg hc1,if_pos this]) (by simp[lk])
  ·intro hc;refine Qg ?_;simp only[go_sem];refine Qa ?_;simp only[go_sem];refine Qk ?_;exact retf 2 _ (by rw[hc]at hb;have:=of_decide_eq_false hb.symm;simp at hc1;rw[Qawr,if_neg hc1,if_neg this]) (by simp[lk])
 refine Qaa ?_;refine Qa ?_;simp only[go_sem];refine Qh (Qd rfl ?_ ?_)
 ·intro hc;refine Qg ?_;simp only[go_sem];exact fin true _ (decide_eq_true (.inl (of_decide_eq_true hc))).symm (by simp[lk];exact of_decide_eq_true hc)
 intro hc2;refine Qa ?_;simp only[go_sem];refine Qd rfl ?_ ?_
 ·intro hc;refine Qg ?_;simp only[go_sem];exact fin true _ (decide_eq_true (.inr (.inl (of_decide_eq_true hc)))).symm (by simp[lk];exact of_decide_eq_true hc)
 intro hc3;refine Qa ?_;simp only[go_sem];refine Qd rfl ?_ ?_
 ·intro hc;refine Qg ?_;simp only[go_sem];exact fin true _ (decide_eq_true (.inr (.inr (.inl (of_decide_eq_true hc))))).symm (by simp[lk];exact of_decide_eq_true hc)
 intro hc4;refine Qt ?_;simp only[go_sem];refine fin (decide (op=13)) _ ?_ (by simp[lk]);have a2:=of_decide_eq_false hc2;have a3:=of_decide_eq_false hc3;have a4:=of_decide_eq_false hc4;simp[a2,a3,a4]
theorem Qa35 {l:List BlkD}(hf:∀b∈l,b.ins.length≤2 ^ 38∧b.phis.length≤2 ^ 38):Qfb Qsq l≤l.length * 549755813888:=by
 induction l with
 |nil=>simp[Qfb]
 |cons y l ih=>
  have h1:=hf y Ju;have h2:=ih fun b hb=>hf b (Jt _ hb);simp only[Qfb,Jo,Jar,Qsq,Js]at *;omega
set_option maxHeartbeats 1000000 in
theorem Qnq {q:CodeD}{fl:Bool}(hf:q.fits)(hb:q.blocks.length≤160)(hK:∀H',Upd H H' []→K (.c (.int .i64 (Qfc q))) H') :
  Qr prog Qcd [.ag [.int .i64 q.params,.int .i64 q.regs,.sl fl 5 (Qn q.blocks)]] H K:=by
 refine Q3 ?_;refine Qc Qal Qamq ?_;have hsb:=Qa35 hf;refine Qa ?_;simp only[go_sem];refine Qa ?_;simp only[go_sem];refine Qaa ?_;refine Qa ?_;simp only[go_sem,Ql];intro _;refine Qh (Qe (Qx (fun m e1 H1=>∃(i:Nat),m=q.blocks.length-i∧i≤q.blocks.length∧Kn H H1 [] []∧
  e1=[(3,.c (.int .i64 (Qfb Qsq (q.blocks.take i):Nat))),(7,.c (.sl fl 5 (Qn q.blocks))),(8,.c (.int .i64 q.blocks.length)),(9,.c (.int .i64 i))]) q.blocks.length ?_ ?_))
 ·exact⟨0,by omega,by omega,Kn.start0 H,rfl⟩
 ·rintro m e1 H1 ⟨i,hm,hi,kn,rfl⟩;refine Qa ?_;simp only[go_sem];refine Qh (Qd rfl ?_ ?_)
  ·intro hc;have hlt:i<q.blocks.length:=by simpa using hc
   have hbf:=hf _ (Jd hlt);have hss:=Qdc (f:=Qsq) hlt;have hle:=Qawj (f:=Qsq) (l:=q.blocks) (i+1);have hcy:Qsq q.blocks[i]=q.blocks[i].ins.length+q.blocks[i].phis.length:=rfl;have hmul:q.blocks.length * 549755813888≤160 * 549755813888:=Jai _ hb;refine Qg ?_;simp only[go_sem];refine Qh (Qe ?_);refine Qa ?_;simp only[go_sem,hlt,Ql,Q1 _ _ hlt,BlkD.cells];intro x5 hx5 H2 h2;have kn:=kn.al hx5 h2;have hx5:=kn.l 0 rfl;simp only[go_sem,Qmv,hx5];intro H3 h3;have kn:Kn H H3 [] ([]++[(x5,.st [.sl false 2 (Q7 q.blocks[i].phis),.sl false 4 (Qag q.blocks[i].ins),.int .i64 q.blocks[i].jump,.int .i64 q.blocks[i].on,.sl false 1 (Qb q.blocks[i].next)])]):=kn.stL 0 rfl h3;have hx5:=kn.l 0 rfl;refine Qt ?_;simp only[go_sem,hx5,Q4,Qv];intro _ _;refine⟨Qs (by omega) (by omega),Qs (by omega) (by omega),?_⟩;refine Qt ?_;simp only[go_sem,X.next];refine⟨Qs (by omega) (by omega),q.blocks.length-(i+1),by omega,i+1,rfl,by omega,kn.drop,?_⟩;rw[hss,hcy];have:((Qfb Qsq (q.blocks.take i):Nat):Int)+((q.blocks[i].phis.length:Int)+q.blocks[i].ins.length)=((Qfb Qsq (q.blocks.take i)+(q.blocks[i].ins.length+q.blocks[i].phis.length):Nat):Int):=by omega
   rw[this];rfl
  ·intro hc;have hge:q.blocks.length≤i:=by simpa using hc
   refine Qw ?_;simp only[go_sem,X.next];refine Qa ?_;simp only[go_sem];refine Qk ?_;simp only[go_sem,Q5,Qae,Qzk,Ja,forall_eq,RS.op];rw[Jc hge];exact⟨_,.c _ _ (Qi rfl),hK _ kn.fin⟩
theorem Qaq8 {x7:Nat}{q:CodeD}{v:Int}(h7:H x7=.st q.cells)(hr:-(2^62)≤q.regs)(hr2:q.regs≤2^62)(hK:K (.c (.bool (decide (0≤v∧v≤q.regs-1)))) H) :
  Qr prog Qds [.c (.int .i64 v),.c (.ptr x7 0)] H K:=by
 refine Qc Qal Qas4 ?_;refine Qa ?_;simp only[go_sem];refine Qa ?_;simp only[go_sem,h7,CodeD.cells];refine⟨Qs (by omega) (by omega),?_⟩;refine Qb6 ?_;simp only[go_sem,Qpp];refine Qk ?_;simp only[go_sem,Q5,Qae,Q2y,Ja,forall_eq,RS.op];have e:(decide (0≤v)&&decide (v≤q.regs-1))=decide (0≤v∧v≤q.regs-1):=by simp
 rw[e];exact hK
theorem Qbef {x7 x8:Nat}{q:CodeD}{v:Int}(h7:H x7=.st q.cells)(h8:H x8=.st [.fn Qds [.ptr x7 0]])(hr:-(2^62)≤q.regs)(hr2:q.regs≤2^62)(hK:K (.c (.bool (!decide (0≤v∧v≤q.regs-1)))) H) :
  Qr prog Qk6 [.c (.int .i64 v),.c (.ptr x8 0)] H K:=by
 refine Qc Qal Qas5 ?_;refine Qa ?_;simp only[go_sem];refine Qa ?_;simp only[go_sem,h8,Jz,J0,Jo,Jaa];refine Qaq8 h7 hr hr2 ?_;simp only[go_sem,Qpq];refine Qk ?_;simp only[go_sem,Q5,Qae,Q2z,Ja,forall_eq,RS.op];exact hK
theorem Qa4h (p:Int→Bool)(l:List Int):(l.any fun x=>!p x) = !l.all p:=by
 induction l with
 |nil=>rfl
 |cons x l ih=>simp only[List.any_cons,List.all_cons,ih];cases p x <;> simp
set_option maxHeartbeats 1000000 in
theorem Qbtg {cs:List CodeD}{fl:Bool}{k:Nat}{x:InsD}(hk:k<cs.length)(hr:0≤cs[k].regs)(hr2:cs[k].regs≤300)(hcl:cs.length≤100)(hK:∀(H':Heap),Upd H H' []→K (.c (.bool (Qx0 cs k x))) H') :
  Qr prog Q0x [.ag [.sl fl 3 (Qj cs)],.c (.int .i64 k),.ag x.cells] H K:=by
 refine Q3 ?_;refine Qc Qal Qbem ?_;refine Qa ?_;simp only[go_sem,InsD.cells];refine Qa ?_;simp only[go_sem,hk,Qo,Q0 _ _ hk,CodeD.cells];intro x7 hx7 H1 h1;have kn:=(Kn.start0 H).al hx7 h1;have hx7:=kn.l 0 rfl;simp only[go_sem,Q3s,hx7];intro H2 h2;have kn:=kn.stL 0 rfl h2;refine Qa ?_;simp only[go_sem];intro x8 hx8 H3 h3;have kn:=kn.al hx8 h3;have hx8:=kn.l 1 rfl;simp only[go_sem,Q3t,hx8];intro H4 h4;have kn:Kn H H4 [] [(x7,.st cs[k].cells),(x8,.st [.fn Qds [.ptr x7 0]])]:=kn.stL 1 rfl h4;have h7:H4 x7=.st cs[k].cells:=kn.l 0 rfl;have h8:=kn.l 1 rfl;have hrg:=Qtr hk;have retf:∀(b:Bool) (e:Env),Qx0 cs k x=b→lk 6 e=.c (.bool b)→Q5 Qmh (unK H K) .ret e H4:=by
  intro b e h1 h3;simp only[go_sem,Q5,Qae,Qmh,Ja,forall_eq,RS.op,h3];rw[←h1];exact⟨_,.c _ _ (Qi rfl),hK _ kn.fin⟩
 refine Qaa ?_;refine Qa ?_;simp only[go_sem];refine Qbis ?_;simp only[go_sem,Q3u];have rest2:∀(E1:Env) (b:Bool),insH cs[k].regs x=true→insT cs[k].regs x=(!b)→lk 1 E1=.c (.int .i64 k)→lk 3 E1=.c (.pp [.sl fl 3 (Qj cs)])→lk 5 E1=.c (.pp [.int .i64 x.op,.int .i64 x.to,.sl false 1 (Qb x.args),.int .i64 x.n])→lk 45 E1=.c (.bool b)→
   Qam prog (s_im_insOk_8.seq Q3q) (Q5 Qmh (unK H K)) E1 H4:=by
  intro E1 b hb1 hb2 l1 l3 l5 l45;refine Qh (Qd l45 ?_ ?_)
  ·intro hc;refine Qa ?_;simp only[go_sem];refine Qk ?_;simp only[go_sem];exact retf false _ (by rw[Qx0,hrg,hb2,hc];simp) (by simp[lk])
  intro hc;rw[hc]at hb2;have hG:Qx0 cs k x=insL cs k x:=by rw[Qx0,hrg,hb1,hb2];rfl
  have hop14:1≤x.op∧x.op≤14:=by
   simp only[insH,Jn,decide_eq_true_eq]at hb1;exact hb1.1
  refine Qg ?_;simp only[go_sem];refine Qaa ?_;refine Qa ?_;simp only[go_sem,l1,l3,l5];refine Qh (Qe ?_);refine Qa ?_;simp only[go_sem];refine Qd rfl ?_ ?_
  ·intro hc;have hop:x.op=1:=of_decide_eq_true hc;have hL:insL cs k x=(decide ((x.args.length:Int)=0)&&(decide (0≤x.n)&&decide (x.n≤255))):=by
    rw[insL,if_neg (by omega)];simp[Qgx,hop]
   refine Qa ?_;simp only[go_sem,Qf];intro _;refine⟨fun hb=>?_,fun hb=>?_⟩
   ·refine Qbbt ?_;simp only[go_sem,Qog];refine Qk ?_;simp only[go_sem];refine retf _ _ ?_ (by simp[lk];rfl);have hb':x.args=[]:=List.length_eq_zero_iff.1 (by have:=of_decide_eq_true hb;omega);rw[hG,hL];simp[hb']
   ·simp only[go_sem,Qog,hb];refine Qk ?_;simp only[go_sem];exact retf false _ (by rw[hG,hL,hb];rfl) (by simp[lk])
  intro hc1;have hop1:¬x.op=1:=of_decide_eq_false hc1;refine Qa ?_;simp only[go_sem];refine Qd rfl ?_ ?_
  ·intro hc;have hop:x.op=14:=of_decide_eq_true hc;rw[insL,if_pos hop]at hG;refine Qaj ?_;simp only[go_sem];refine⟨Qs (by omega) (by omega),?_⟩;refine Qb6 ?_;by_cases hin:0≤x.n∧x.n≤(k:Int)-1
   ·obtain⟨m,hm⟩:=Jap hin.1;have hmk:m<cs.length:=(by omega);have h1:(0≤(m:Int))=True:=eq_true (by omega);have h2:((m:Int)≤(k:Int)-1)=True:=eq_true (by omega);simp only[go_sem,Qgv,hm,h1,h2,hmk,decide_true,Bool.and_self,Qo,Q0 _ _ hmk,CodeD.cells,Qf];refine Qk ?_;simp only[go_sem];refine retf _ _ ?_ (by simp[lk];rfl);rw[hG,hm,Int.toNat_natCast,Qtf hmk];simp only[h1,h2,and_self,decide_true,Bool.true_and]
   ·have hin':(decide (0≤x.n)&&decide (x.n≤(k:Int)-1))=false:=(by simpa using hin);have hin2:decide (0≤x.n∧x.n≤(k:Int)-1)=false:=(by simpa using hin);by_cases hm:x.n.toNat<cs.length
    ·simp only[go_sem,Qgv,hin',Q0 _ _ hm,CodeD.cells];refine Qk ?_;simp only[go_sem];exact retf false _ (by rw[hG,hin2];rfl) (by simp[lk])
    ·have hgd:(Qj cs).getD x.n.toNat []=[]:=by
      rw[Jb,Jr (by rw[Qo];omega)];rfl
     simp only[go_sem,Qgv,hin',hgd,Jbg,List.headD_nil];refine Qk ?_;simp only[go_sem];exact retf false _ (by rw[hG,hin2];rfl) (by simp[lk])
  ·intro hc;have hop:¬x.op=14:=of_decide_eq_false hc;have hA:Qgx x.op=Qawr x.op:=by
    rw[Qgx,Qawr,if_neg hop1,if_neg hop1];split
    ·rfl
    ·rw[if_pos (by omega)]
   have hL:insL cs k x=(decide (x.n=0)&&decide ((x.args.length:Int)=Qawr x.op)):=by
    rw[insL,if_neg hop,hA];by_cases hn:x.n=0
    ·simp[hn]
    ·simp[hn,hop1]
   refine Qg ?_;simp only[go_sem];refine Qaj ?_;simp only[go_sem,Qf];refine⟨fun hb=>?_,fun hb=>?_⟩
   ·refine Qbik ?_;simp only[go_sem,Qlp,hb,Qf];refine Qk ?_;refine retf _ _ ?_ (by simp[lk];rfl);have hb':=of_decide_eq_true hb;rw[hG,hL];simp[hb']
   ·simp only[go_sem,Qlp,hb,Qf];refine Qk ?_;exact retf false _ (by rw[hG,hL,hb];rfl) (by simp[lk])
 have rest:∀(E1:Env) (b:Bool),insH cs[k].regs x=(!b)→lk 1 E1=.c (.int .i64 k)→lk 3 E1=.c (.pp [.sl fl 3 (Qj cs)])→lk 5 E1=.c (.pp [.int .i64 x.op,.int .i64 x.to,.sl false 1 (Qb x.args),.int .i64 x.n])→lk 8 E1=.c (.ptr x8 0)→lk 24 E1=.c (.bool b)→
   Qam prog (s_im_insOk_4.seq Q3r) (Q5 Qmh (unK H K)) E1 H4:=by
  intro E1 b hb l1 l3 l5 l8 l24;refine Qh (Qd l24 ?_ ?_)
  ·intro hc;refine Qa ?_;simp only[go_sem];refine Qk ?_;simp only[go_sem];exact retf false _ (by rw[Qx0,hrg,hb,hc];rfl) (by simp[lk])
  intro hc;rw[hc]at hb;refine Qg ?_;simp only[go_sem];refine Qaa ?_;refine Qa ?_;simp only[go_sem,l1,l3,l5,l8];refine Qbc5 ?_
  cases hmk:Qb9 x.op with
  |true=>
   simp only[go_sem,cond_true,cond_false,J5,Jv,Qof,l1,l3,l5,l8,h8];refine Qaq8 h7 (by omega) (by omega) ?_;have hT:insT cs[k].regs x=decide (0≤x.to∧x.to≤cs[k].regs-1):=by rw[insT,hmk];rfl
   cases hd:decide (0≤x.to∧x.to≤cs[k].regs-1)with
   |true=>
    simp only[go_sem,cond_true,cond_false,J5,Jv,Qid,l1,l3,l5,l8,h8];refine Qbc5 ?_;simp only[go_sem,cond_true,cond_false,J5,Jv,Qic,l1,l3,l5,l8,hmk];exact rest2 _ false hb (by rw[hT,hd];rfl) (by simp[lk]) (by simp[lk]) (by simp[lk]) (by simp[lk])
   |false=>
    simp only[go_sem,cond_true,cond_false,J5,Jv,Qid,Qic,l1,l3,l5,l8,h8];exact rest2 _ true hb (by rw[hT,hd];rfl) (by simp[lk]) (by simp[lk]) (by simp[lk]) (by simp[lk])
  |false=>
   have hT:insT cs[k].regs x=decide (x.to=-1):=by rw[insT,hmk];rfl
   simp only[go_sem,cond_true,cond_false,J5,Jv,Qof,Qid,l1,l3,l5,l8,h8];refine Qbc5 ?_;simp only[go_sem,cond_true,cond_false,J5,Jv,Qic,l1,l3,l5,l8,hmk];refine rest2 _ (!decide (x.to=-1)) hb ?_ ?_ ?_ ?_ ?_
   ·rw[hT];simp
   ·rfl
   ·rfl
   ·rfl
   ·rfl
 cases hi:(decide (1≤x.op)&&decide (x.op≤14))with
 |false=>
  simp only[go_sem,Qoe];refine rest _ true ?_ (by simp[lk]) (by simp[lk]) (by simp[lk]) (by simp[lk]) (by simp[lk]);have:decide (1≤x.op∧x.op≤14)=false:=by simpa using hi
  rw[insH,this];rfl
 |true=>
  simp only[go_sem,h8];refine Qgn (p:=fun r=>!decide (0≤r∧r≤cs[k].regs-1)) (.mk' _ _ _ _) rfl (fun v K' hv hK'=>Qbef h7 h8 (by omega) (by omega) hK') ?_;simp only[go_sem,Qoe];refine rest _ (x.args.any fun r=>!decide (0≤r∧r≤cs[k].regs-1)) ?_ (by simp[lk]) (by simp[lk]) (by simp[lk]) (by simp[lk]) (by simp[lk]);have:decide (1≤x.op∧x.op≤14)=true:=by simpa using hi
  rw[insH,this,Qa4h,Qq9];simp
end Go.AE.Y
namespace Go.AE.Y
attribute [local instance] Classical.propDecidable
variable {g:Nat→List Nat}{A B:Nat→Prop}{x y z:Nat}
variable {xs:List Nat}{S S' S1:List Bool}{o o' o1:List Nat}
theorem Qbr2:∀{l k:List Nat},l.Pairwise (· < ·)→k.Pairwise (· < ·)→(∀x,x∈l↔x∈k)→l=k
 |[],[],_,_,_=>rfl
 |[],b::k,_,_,h=>by have:=(h b).2 Ju;simp at this
 |a::l,[],_,_,h=>by have:=(h a).1 Ju;simp at this
 |a::l,b::k,h1,h2,h=>by
  rw[List.pairwise_cons]at h1 h2;have hab:a=b:=by
   rcases J6.1 ((h a).1 Ju)with e|e
   ·exact e
   ·rcases J6.1 ((h b).2 Ju)with e'|e'
    ·exact e'.symm
    ·have:=h1.1 b e';have:=h2.1 a e;omega
  subst hab;congr 1;refine Qbr2 h1.2 h2.2 fun x=>⟨fun hx=>?_,fun hx=>?_⟩
  ·rcases J6.1 ((h x).1 (Jt _ hx))with e|e
   ·subst e;have:=h1.1 x hx;omega
   ·exact e
  ·rcases J6.1 ((h x).2 (Jt _ hx))with e|e
   ·subst e;have:=h2.1 x hx;omega
   ·exact e
end Go.AE.Y
namespace Go.AE.Y
open Go.Proofs.Tryz
variable {H:Heap}{K:V→Heap→Prop}
theorem GRd.ows {c:C}{rows:List (List C)}{nx:Nat→List Int}(h:GRd H c rows nx){i:Nat}(hi:i<rows.length){a1 a2 a3 a4 a5:C}(hr:rows.getD i []=[a1,a2,a3,a4,a5]) :
  a1.isOw=false∧a2.isOw=false∧a3.isOw=false∧a4.isOw=false∧a5.isOw=false:=by
 have:=h.no _ (Jd hi);have e:rows[i]=[a1,a2,a3,a4,a5]:=by rw[←hr];simp[Jb,hi]
 rw[e]at this;simpa[Go.AE.noOw]using this
def Q08 (nx:Nat→List Int)(b:Int)(n:Nat):List Int:=if decide (0≤b)&&decide (b≤(n:Int)-1)then Qav nx b n else []
set_option maxHeartbeats 1000000 in
theorem Qad7 {p rg:Int}{bc:C}{rows:List (List C)}{nx:Nat→List Int}{b:Int}(hg:GRd H bc rows nx)
  (hK:∀fl H',Upd H H' []→K (.c (.sl fl 1 (Qb (Q08 nx b rows.length)))) H'):Qr prog Qeq [.ag [.int .i64 p,.int .i64 rg,bc],.c (.int .i64 b)] H K:=by
 refine Q3 ?_;refine Qc Qal Qaxk ?_;have how:=hg.ow;have hok:=eq_true hg.s.ok;have hlen:=hg.s.len;have hsz:=hg.s.sz;refine Qa ?_;simp only[go_sem,how];refine Qa ?_;simp only[go_sem,how];refine Qaa ?_;refine Qa ?_;simp only[go_sem,how,hok,hlen];intro hl;simp only[LIM]at hl;refine⟨Qs (by omega) (by omega),?_⟩;refine Qb6 ?_;simp only[go_sem,Qts];refine Qh (Qd rfl ?_ ?_)
 ·intro hc;have hc':=Qtc hc;refine Qa ?_;simp only[go_sem];refine Qk ?_;simp only[go_sem,Q5,Qae,Qtj,Ja,forall_eq,RS.op];have h:=hK false _ (Kn.start0 H).fin;simp only[Q08,hc']at h;exact⟨_,.c _ _ FrzR.nil.sl,h⟩
 ·intro hc;have hc':=Qh8 hc;refine Qg ?_;simp only[go_sem];refine Qaa ?_;refine Qa ?_;simp only[go_sem,how,hok,hlen];intro _;refine Qh (Qe (Qx (fun m e1 H1=>∃(i:Nat) (c:C) (Lg:List (Nat×Obj)),m=rows.length-i∧i≤rows.length∧Gr Lg 1 (Qb (Qav nx b i)) c∧Kn H H1 [] ([]++Lg)∧
   e1=[(1,.c (.int .i64 b)),(5,.c c),(16,.c bc),(17,.c (.int .i64 rows.length)),(18,.c (.int .i64 i))]) rows.length ?_ ?_))
  ·exact⟨0,_,[],by omega,by omega,.nil 1,Kn.start0 H,rfl⟩
  ·rintro m e1 H1 ⟨i,c,Lg,hm,hi,hgr,kn,rfl⟩;have hg1:=hg.keep0 kn;have hok1:=eq_true hg1.s.ok;have hrw1:=hg1.s.rows;refine Qa ?_;simp only[go_sem];refine Qh (Qd rfl ?_ ?_)
   ·intro hc;have hlt:i<rows.length:=(by simpa using hc);obtain⟨a1,a2,a3,a4,fl,hrow⟩:=hg.x i hlt;obtain⟨o1,o2,o3,o4,_⟩:=hg.ows hlt hrow;refine Qg ?_;simp only[go_sem];refine Qd3 (fun e2 H2=>∃(c:C) (Lg:List (Nat×Obj)),Gr Lg 1 (Qb (Qav nx b (i+1))) c∧Kn H H2 [] ([]++Lg)∧
     lk 1 e2=.c (.int .i64 b)∧lk 5 e2=.c c∧lk 16 e2=.c bc∧lk 17 e2=.c (.int .i64 rows.length)∧lk 18 e2=.c (.int .i64 i)) ?_ ?_
    ·intro Q hnr _ _;refine Qe ?_;refine Qa ?_;simp only[go_sem,how,hok1,hlen,hsz,hrw1,hlt,hrow,o1,o2,o3,o4];intro x hx H2 h2;have kn:=(kn.al hx h2).perm J2;have hx2:=kn.l 0 rfl;simp only[go_sem,Qtt,hx2];intro H3 h3;have kn:=kn.stL 0 rfl h3;have hx3:=kn.l 0 rfl;refine Qa ?_;simp only[go_sem,hx3];refine Qbdi (.mk' _ _ _ _) rfl ?_;refine Qd rfl ?_ ?_
     ·intro hcon;have hpl:=Qi7 nx b i;refine Qt ?_;simp only[go_sem];refine kn.grow (B:=[_]) (new:=Qb [(i:Int)]) hgr (.mk' _ _ _ _) (Qz _) (by simp only[Qf,LIM,Js,Jy];omega) fun y' H4 kn=>?_;simp only[go_sem,Qtu];refine hnr _ _ ⟨_,_,?_,(kn.perm J2).drop,rfl,rfl,rfl,rfl,rfl⟩;rw[Qkh,hcon,if_pos rfl,Qb1];exact .mk _ _ _ (by simp)
     ·intro hcon;refine Qg ?_;simp only[go_sem];refine hnr _ _ ⟨c,Lg,?_,?_,rfl,rfl,rfl,rfl,rfl⟩
      ·rw[Qkh,hcon];simpa using hgr
      ·have kn:Kn H H3 [] ([(x,.st [a1,a2,a3,a4,.sl fl 1 (Qb (nx i))])]++([]++Lg)):=kn;exact (kn.perm J2).drop
    ·rintro e2 H2 ⟨c2,Lg2,hgr,kn,l1,l5,l16,l17,l18⟩;refine Qt ?_;simp only[go_sem,X.next,l1,l5,l16,l17,l18];exact⟨Qs (by omega) (by omega),rows.length-(i+1),by omega,i+1,c2,Lg2,rfl,by omega,hgr,kn,rfl⟩
   ·intro hc;have hge:i=rows.length:=(by have:¬i<rows.length:=(by simpa using hc);omega);subst hge;refine Qw ?_;simp only[go_sem,X.next];refine Qa ?_;simp only[go_sem,hgr.isOw];refine Qk ?_;simp only[go_sem,Q5,Qae,Qtj,Ja,forall_eq,RS.op,hgr.isOw];refine⟨_,.c _ _ (hgr.frz kn (Qz _)),?_⟩;have:=hK false _ kn.fin;simp only[Q08,hc']at this;exact this
end Go.AE.Y
namespace Go.AE.Y
attribute [local go_sem] cond_true cond_false Bool.not_true Bool.not_false
open Go.Proofs.Tryz
variable {H:Heap}{K:V→Heap→Prop}
theorem Qawo {fl:Bool}{l:List InsD}{f:Nat}{caps:List C}{p:InsD→Bool}
  (hf:∀(x:InsD) (H1:Heap) (K':V→Heap→Prop),x∈l→(∀H2,Upd H1 H2 []→K' (.c (.bool (p x))) H2)→Qr prog f ([.ag x.cells]++caps.map .c) H1 K')
  (hK:∀(r:Int) (H':Heap),Upd H H' []→decide (0≤r)=l.any p→K (.c (.int .i64 r)) H') :
  Qr prog Qd5 [.c (.sl fl 4 (Qag l)),.c (.fn f caps)] H K:=by
 refine Q3 ?_;refine Qc Qal Q2r ?_;refine Qa ?_;simp only[go_sem];refine Qaa ?_;refine Qa ?_;simp only[go_sem,Q4];intro hl;simp only[LIM]at hl;refine Qh (Qe (Qx (fun m e1 H1=>∃(i:Nat),m=l.length-i∧i≤l.length∧Kn H H1 [] []∧(∀x∈l.take i,p x=false)∧e1=[(0,.c (.sl fl 4 (Qag l))),(1,.c (.fn f caps)),(7,.c (.int .i64 l.length)),(8,.c (.int .i64 i))]) l.length ?_ ?_))
 ·exact⟨0,by omega,by omega,Kn.start0 H,by simp,rfl⟩
 ·rintro m e1 H1 ⟨i,hm,hi,kn,hall,rfl⟩;refine Qa ?_;simp only[go_sem];refine Qh (Qd rfl ?_ ?_)
  ·intro hc;have hlt:i<l.length:=by simpa using hc
   refine Qg ?_;simp only[go_sem];refine Qh (Qe ?_);refine Qa ?_;simp only[go_sem];refine Qa ?_;simp only[go_sem,hlt,Q4,Qbd _ _ hlt,InsD.take4,InsD.allOw,InsD.len4];refine hf _ _ _ (Jd hlt) fun H2 hu=>?_;have kn:=kn.call0 hu;refine Qd rfl ?_ ?_
   ·intro hc2;refine Qa ?_;simp only[go_sem];refine Qk ?_;simp only[go_sem,X.next,Q5,Qae,Qez,Ja,forall_eq,RS.op];refine⟨_,.c _ _ (Qi rfl),hK _ _ kn.fin ?_⟩;have:l.any p=true:=Jag.2 ⟨_,Jd hlt,hc2⟩;rw[this];simp
   ·intro hc2;refine Qg ?_;simp only[go_sem];refine Qt ?_;simp only[go_sem,X.next];refine⟨Qs (by omega) (by omega),l.length-(i+1),by omega,i+1,rfl,by omega,kn,?_,rfl⟩;rw[Jf hlt];intro x hx;rcases Jh.1 hx with hx|hx
    ·exact hall x hx
    ·simp only[Ja]at hx;subst hx;exact hc2
  ·intro hc;have hge:l.length≤i:=by simpa using hc
   rw[Jc hge]at hall;refine Qw ?_;simp only[go_sem,X.next];refine Qa ?_;simp only[go_sem];refine Qk ?_;simp only[go_sem,Q5,Qae,Qez,Ja,forall_eq,RS.op];refine⟨_,.c _ _ (Qi rfl),hK _ _ kn.fin ?_⟩;have:l.any p=false:=by
    cases hc:l.any p with
    |false=>rfl
    |true=>obtain⟨x,hx,hp⟩:=Jag.1 hc;rw[hall x hx]at hp;exact absurd hp (by simp)
   rw[this];rfl
theorem Qad6 {fl:Bool}{l:List InsD}{f:Nat}{caps:List C}{p:InsD→Bool}
  (hf:∀(x:InsD) (H1:Heap) (K':V→Heap→Prop),x∈l→(∀H2,Upd H1 H2 []→K' (.c (.bool (p x))) H2)→Qr prog f ([.ag x.cells]++caps.map .c) H1 K')
  (hK:∀(H':Heap),Upd H H' []→K (.c (.bool (l.any p))) H') :
  Qr prog Qcw [.c (.sl fl 4 (Qag l)),.c (.fn f caps)] H K:=by
 refine Qc Qal Qtb ?_;refine Qa ?_;simp only[go_sem];refine Qa ?_;simp only[go_sem];refine Qawo hf fun r H' hu hr=>?_;simp only[go_sem,Qel];refine Qk ?_;simp only[go_sem,Q5,Qae,Qg4,Ja,forall_eq,RS.op];rw[hr];exact hK _ hu
theorem Q0t {x5:Nat}{q:CodeD}{v:Int}(h5:H x5=.st q.cells)(hr:-(2^62)≤q.regs)(hr2:q.regs≤2^62)(hK:K (.c (.bool (decide (0≤v∧v≤q.regs-1)))) H) :
  Qr prog Qap [.c (.int .i64 v),.c (.ptr x5 0)] H K:=by
 refine Qc Qal Qamr ?_;refine Qa ?_;simp only[go_sem];refine Qa ?_;simp only[go_sem,h5,CodeD.cells];refine⟨Qs (by omega) (by omega),?_⟩;refine Qb6 ?_;simp only[go_sem,Qmw];refine Qk ?_;simp only[go_sem,Q5,Qae,Qzl,Ja,forall_eq,RS.op];have e:(decide (0≤v)&&decide (v≤q.regs-1))=decide (0≤v∧v≤q.regs-1):=by simp
 rw[e];exact hK
theorem Qa4j {x5:Nat}{q:CodeD}{v:Int}(h5:H x5=.st q.cells)(hb:q.blocks.length≤2 ^ 38)(hK:K (.c (.bool (!Qabf (Qn q.blocks).length v))) H) :
  Qr prog Qit [.c (.int .i64 v),.c (.ptr x5 0)] H K:=by
 refine Qc Qal Qams ?_;refine Qa ?_;simp only[go_sem];refine Qa ?_;simp only[go_sem,h5,CodeD.cells,Ql];intro _;refine⟨Qs (by omega) (by omega),?_⟩;refine Qb6 ?_;simp only[go_sem,Qmx];refine Qk ?_;simp only[go_sem,Q5,Qae,Qzm,Ja,forall_eq,RS.op];have e:(decide (1≤v)&&decide (v≤(q.blocks.length:Int)-1))=Qabf (Qn q.blocks).length v:=by simp[Qabf,Ql]
 rw[e];exact hK
theorem Qa4k {cs:List CodeD}{fl:Bool}{k:Nat}{x:InsD}(hk:k<cs.length)(hr:0≤cs[k].regs)(hr2:cs[k].regs≤300)(hcl:cs.length≤100)(hK:∀(H':Heap),Upd H H' []→K (.c (.bool (!Qx0 cs k x))) H') :
  Qr prog Qiu [.ag x.cells,.c (.pp [.sl fl 3 (Qj cs)]),.c (.pp [.int .i64 k])] H K:=by
 refine Qc Qal Qamt ?_;refine Qa ?_;simp only[go_sem,InsD.cells];refine Qa ?_;simp only[go_sem];refine Qbtg hk hr hr2 hcl fun H' hu=>?_;simp only[go_sem,Qmy];refine Qk ?_;simp only[go_sem,Q5,Qae,Qzn,Ja,forall_eq,RS.op];exact hK _ hu
theorem Qa4l {x5 x6:Nat}{q:CodeD}{v:Int}(h5:H x5=.st q.cells)(h6:H x6=.st [.fn Qap [.ptr x5 0]])(hr:-(2^62)≤q.regs)(hr2:q.regs≤2^62)(hK:K (.c (.bool (!decide (0≤v∧v≤q.regs-1)))) H) :
  Qr prog Qiv [.c (.int .i64 v),.c (.ptr x6 0)] H K:=by
 refine Qc Qal Qamu ?_;refine Qa ?_;simp only[go_sem];refine Qa ?_;simp only[go_sem,h6,Jz,J0,Jo,Jaa];refine Q0t h5 hr hr2 ?_;simp only[go_sem,Qmz];refine Qk ?_;simp only[go_sem,Q5,Qae,Qzo,Ja,forall_eq,RS.op];exact hK
attribute [local instance] Classical.propDecidable
def blkC (b:BlkD):Obj:=.st [.sl false 2 (Q7 b.phis),.sl false 4 (Qag b.ins),.int .i64 b.jump,.int .i64 b.on,.sl false 1 (Qb b.next)]
theorem Qawx {cs:List CodeD}{k:Nat}{hk:k<cs.length}(h:¬Qamj cs k hk):decide (Qamj cs k hk)=false:=decide_eq_false h
set_option maxHeartbeats 2000000 in
theorem Qbna {cs:List CodeD}{fl:Bool}{k:Nat}(hk:k<cs.length)(hcl:cs.length≤100)(hfit:cs[k].fits)(hK:∀(H':Heap),Upd H H' []→K (.c (.bool (decide (Qamj cs k hk)))) H') :
  Qr prog Qsw [.ag [.sl fl 3 (Qj cs)],.c (.int .i64 k)] H K:=by
 refine Q3 ?_;refine Qc Qal Qa42 ?_;have retf:∀(v:Bool) (e:Env) (H':Heap) (L:List (Nat×Obj)),decide (Qamj cs k hk)=v→Kn H H' [] L→lk 4 e=.c (.bool v)→Q5 Qi8 (unK H K) .ret e H':=by
  intro v e H' L hb kn h3;simp only[go_sem,Q5,Qae,Qi8,Ja,forall_eq,RS.op,h3];rw[←hb];exact⟨_,.c _ _ (Qi rfl),hK _ kn.fin⟩
 obtain⟨q,hq⟩:∃q,cs[k]=q:=⟨_,rfl⟩;have hP:Qamj cs k hk=(Qs7 q=true∧∀(b:Nat) (h:b<q.blocks.length),Qsn cs k b q q.blocks[b]=true):=by subst hq;rfl
 refine Qa ?_;simp only[go_sem];refine Qa ?_;simp only[go_sem,hk,Qo,Q0 _ _ hk,CodeD.cells,hq];intro x5 hx5 H1 h1;have kn:=(Kn.start0 H).al hx5 h1;have hx5:=kn.l 0 rfl;simp only[go_sem,Qzy,hx5];intro H2 h2;have kn:Kn H H2 [] [(x5,.st q.cells)]:=kn.stL 0 rfl h2;have hx5:H2 x5=.st [.int .i64 q.params,.int .i64 q.regs,.sl false 5 (Qn q.blocks)]:=kn.l 0 rfl;refine Qaa ?_;refine Qa ?_;simp only[go_sem,hx5];refine Qb6 ?_;have rest0:∀(b:Bool) (E1:Env),Qs7 q=(!b)→lk 2 E1=.c (.pp [.sl fl 3 (Qj cs)])→lk 3 E1=.c (.pp [.int .i64 k])→lk 5 E1=.c (.ptr x5 0)→lk 36 E1=.c (.bool b)→
   Qam prog (s_im_codeOk_4.seq Qzx) (Q5 Qi8 (unK H K)) E1 H2:=by
  intro b E1 hb l2 l3 l5 l36;refine Qh (Qd l36 ?_ ?_)
  ·intro hc;refine Qa ?_;simp only[go_sem];refine Qk ?_;simp only[go_sem];exact retf false _ _ _ (Qawx fun h=>by rw[hP,hb,hc]at h;simp at h) kn (by simp[lk])
  intro hc;rw[hc]at hb;have hb':=hb;simp only[Qs7,Jv,Jn,decide_eq_true_eq]at hb';obtain⟨hr0,hr1,hb0,hbl⟩:0≤q.regs∧q.regs≤300∧0<q.blocks.length∧q.blocks.length≤160:=by omega
  refine Qg ?_;simp only[go_sem];refine Qa ?_;simp only[go_sem,l2,l3,l5];intro x6 hx6 H3 h3;have kn:=kn.al hx6 h3;have hx6:=kn.l 1 rfl;simp only[go_sem,Qzz,hx6,l2,l3,l5];intro H4 h4;have kn:Kn H H4 [] [(x5,.st q.cells),(x6,.st [.fn Qap [.ptr x5 0]])]:=kn.stL 1 rfl h4;have hx5:H4 x5=.st [.int .i64 q.params,.int .i64 q.regs,.sl false 5 (Qn q.blocks)]:=kn.l 0 rfl;refine Qaa ?_;refine Qa ?_;simp only[go_sem,hx5,Ql];intro _;refine Qh (Qe (Qx (fun m e1 H1=>∃(j:Nat),m=q.blocks.length-j∧j≤q.blocks.length∧(∀(i:Nat) (hi:i<q.blocks.length),i<j→Qsn cs k i q q.blocks[i]=true)∧Kn H H1 [] [(x5,.st q.cells),(x6,.st [.fn Qap [.ptr x5 0]])]∧
   e1=[(2,.c (.pp [.sl fl 3 (Qj cs)])),(3,.c (.pp [.int .i64 k])),(5,.c (.ptr x5 0)),(6,.c (.ptr x6 0)),(39,.c (.sl false 5 (Qn q.blocks))),(40,.c (.int .i64 q.blocks.length)),(41,.c (.int .i64 j))]) q.blocks.length ?_ ?_))
  ·exact⟨0,by omega,by omega,fun _ _ h=>by omega,kn,rfl⟩
  ·rintro m e1 H5 ⟨j,hm,hj,hdone,kn,rfl⟩;refine Qa ?_;simp only[go_sem];refine Qh (Qd rfl ?_ ?_)
   ·intro hc1;have hlt:j<q.blocks.length:=(by simpa using hc1);have hbf:q.blocks[j].ins.length≤2 ^ 38∧q.blocks[j].phis.length≤2 ^ 38:=(by subst hq;exact hfit _ (Jd hlt));refine Qg ?_;simp only[go_sem];refine Qd3 (fun e2 H2=>Kn H H2 [] [(x5,.st q.cells),(x6,.st [.fn Qap [.ptr x5 0]])]∧Qsn cs k j q q.blocks[j]=true∧lk 2 e2=.c (.pp [.sl fl 3 (Qj cs)])∧lk 3 e2=.c (.pp [.int .i64 k])∧lk 5 e2=.c (.ptr x5 0)∧lk 6 e2=.c (.ptr x6 0)∧
     lk 39 e2=.c (.sl false 5 (Qn q.blocks))∧lk 40 e2=.c (.int .i64 q.blocks.length)∧lk 41 e2=.c (.int .i64 j)) ?_ ?_
    ·intro Q hnr hrt _;replace hrt:∀e H',Q5 Qi8 (unK H K) .ret e H'→Q .ret e H':=fun e H' h=>hrt e H' (by simpa only[go_sem,X.next]using h);have retq:∀(e:Env) (H':Heap) (L:List (Nat×Obj)),Qsn cs k j q q.blocks[j]=false→Kn H H' [] L→lk 4 e=.c (.bool false)→Q .ret e H':=fun e H' L hb kn l4=>
      hrt e H' (retf false e H' L (Qawx fun h=>by rw[hP]at h;rw[h.2 j hlt]at hb;exact absurd hb (by simp)) kn l4)
     have hGd:Qsn cs k j q q.blocks[j]=(Qq7 q.regs q.blocks[j]&&q.blocks[j].next.all (Qabf (Qn q.blocks).length)&&q.blocks[j].ins.all (Qx0 cs k)&&q.blocks[j].phis.all (phiG q.regs (Qav (gnx q) (j:Int) (Qn q.blocks).length).length j)):=rfl;refine Qe ?_;refine Qa ?_;simp only[go_sem,hlt,Ql,Q1 _ _ hlt,BlkD.cells];obtain⟨y,hy⟩:∃y,q.blocks[j]=y:=⟨_,rfl⟩;rw[hy]at hGd retq hbf hnr;rw[hy];intro x8 hx8 H6 h6;have kn:=kn.al hx8 h6;have hx8:=kn.l 2 rfl;simp only[go_sem,Qz0,hx8];intro H7 h7;have kn:Kn H H7 [] [(x5,.st q.cells),(x6,.st [.fn Qap [.ptr x5 0]]),(x8,blkC y)]:=kn.stL 2 rfl h7;have hx5:H7 x5=.st [.int .i64 q.params,.int .i64 q.regs,.sl false 5 (Qn q.blocks)]:=kn.l 0 rfl;have hx5':H7 x5=.st q.cells:=kn.l 0 rfl;have hx6:=kn.l 1 rfl;have hx8:H7 x8=.st [.sl false 2 (Q7 y.phis),.sl false 4 (Qag y.ins),.int .i64 y.jump,.int .i64 y.on,.sl false 1 (Qb y.next)]:=kn.l 2 rfl;have rest3:∀(E1:Env) (H8:Heap),Qq7 q.regs y=true→y.next.all (Qabf (Qn q.blocks).length)=true→y.ins.all (Qx0 cs k)=true→Kn H H8 [] [(x5,.st q.cells),(x6,.st [.fn Qap [.ptr x5 0]]),(x8,blkC y)]→
       lk 2 E1=.c (.pp [.sl fl 3 (Qj cs)])→lk 3 E1=.c (.pp [.int .i64 k])→lk 5 E1=.c (.ptr x5 0)→lk 6 E1=.c (.ptr x6 0)→lk 7 E1=.c (.int .i64 j)→lk 8 E1=.c (.ptr x8 0)→
       lk 39 E1=.c (.sl false 5 (Qn q.blocks))→lk 40 E1=.c (.int .i64 q.blocks.length)→lk 41 E1=.c (.int .i64 j)→Qam prog Qln (X.inBlock 1 Q) E1 H8:=by
      intro E1 H8 g1 g2 g3 kn l2 l3 l5 l6 l7 l8 l39 l40 l41;have hx5:H8 x5=.st [.int .i64 q.params,.int .i64 q.regs,.sl false 5 (Qn q.blocks)]:=kn.l 0 rfl;have hin:(decide (0≤(j:Int))&&decide ((j:Int)≤((Qn q.blocks).length:Int)-1))=true:=(by rw[Ql];simp;omega);refine Qa ?_;simp only[go_sem,hx5,l2,l3,l5,l6,l7,l8,l39,l40,l41];refine Qad7 (rows:=Qn q.blocks) (nx:=gnx q) (Qadw _ q false) fun fl' H9 hu=>?_;have kn:=kn.call0 hu;rw[Q08,if_pos hin];generalize hnp:Qav (gnx q) (j:Int) (Qn q.blocks).length=ps;rw[hnp]at hGd;simp only[go_sem,Qt2,l2,l3,l5,l6,l7,l8,l39,l40,l41,Qf];intro _;have hx8:H9 x8=.st [.sl false 2 (Q7 y.phis),.sl false 4 (Qag y.ins),.int .i64 y.jump,.int .i64 y.on,.sl false 1 (Qb y.next)]:=kn.l 2 rfl;refine Qa ?_;simp only[go_sem,hx8,Qv];intro _;refine Qe (Qx (fun m e1 H1=>∃(i:Nat),m=y.phis.length-i∧i≤y.phis.length∧(y.phis.take i).all (phiG q.regs ps.length j)=true∧Kn H H1 [] [(x5,.st q.cells),(x6,.st [.fn Qap [.ptr x5 0]])]∧
       e1=[(2,.c (.pp [.sl fl 3 (Qj cs)])),(3,.c (.pp [.int .i64 k])),(5,.c (.ptr x5 0)),(6,.c (.ptr x6 0)),(7,.c (.int .i64 j)),(9,.c (.int .i64 ps.length)),(39,.c (.sl false 5 (Qn q.blocks))),(40,.c (.int .i64 q.blocks.length)),(41,.c (.int .i64 j)),(91,.c (.sl false 2 (Q7 y.phis))),(92,.c (.int .i64 y.phis.length)),(93,.c (.int .i64 i))]) y.phis.length ?_ ?_)
      ·exact⟨0,by omega,by omega,rfl,kn.drop (A:=[_,_]),rfl⟩
      ·rintro m2 e1 H10 ⟨i,hm2,hi,hall,kn,rfl⟩;refine Qa ?_;simp only[go_sem];refine Qh (Qd rfl ?_ ?_)
       ·intro hc2;have hil:i<y.phis.length:=(by simpa using hc2);refine Qg ?_;simp only[go_sem];refine Qh (Qe ?_);refine Qa ?_;simp only[go_sem,hil,Qv,Qau _ _ hil,PhiD.cells];obtain⟨z,hz⟩:∃z,y.phis[i]=z:=⟨_,rfl⟩;rw[hz];intro x11 hx11 H11 h11;have kn:=kn.al hx11 h11;have hx11:=kn.l 2 rfl;simp only[go_sem,Qt3,hx11];intro H12 h12;have kn:Kn H H12 [] ([(x5,.st q.cells),(x6,.st [.fn Qap [.ptr x5 0]])]++[(x11,.st [.int .i64 z.to,.sl false 1 (Qb z.args)])]):=kn.stL 2 rfl h12;have hx5':H12 x5=.st q.cells:=kn.l 0 rfl;have hx6:=kn.l 1 rfl;have hx11:=kn.l 2 rfl;have fin:∀(b3:Bool) (E1:Env),phiG q.regs ps.length j z=(!b3)→lk 2 E1=.c (.pp [.sl fl 3 (Qj cs)])→lk 3 E1=.c (.pp [.int .i64 k])→lk 5 E1=.c (.ptr x5 0)→lk 6 E1=.c (.ptr x6 0)→lk 7 E1=.c (.int .i64 j)→lk 9 E1=.c (.int .i64 ps.length)→
          lk 39 E1=.c (.sl false 5 (Qn q.blocks))→lk 40 E1=.c (.int .i64 q.blocks.length)→lk 41 E1=.c (.int .i64 j)→lk 91 E1=.c (.sl false 2 (Q7 y.phis))→lk 92 E1=.c (.int .i64 y.phis.length)→lk 93 E1=.c (.int .i64 i)→lk 118 E1=.c (.bool b3)→
          Qam prog Qzu (X.inBlock 3 (X.sq prog Qzv (X.next (fun e2 H2=>∃m,m<m2∧∃(i:Nat),m=y.phis.length-i∧i≤y.phis.length∧(y.phis.take i).all (phiG q.regs ps.length j)=true∧Kn H H2 [] [(x5,.st q.cells),(x6,.st [.fn Qap [.ptr x5 0]])]∧
           e2=[(2,.c (.pp [.sl fl 3 (Qj cs)])),(3,.c (.pp [.int .i64 k])),(5,.c (.ptr x5 0)),(6,.c (.ptr x6 0)),(7,.c (.int .i64 j)),(9,.c (.int .i64 ps.length)),(39,.c (.sl false 5 (Qn q.blocks))),(40,.c (.int .i64 q.blocks.length)),(41,.c (.int .i64 j)),(91,.c (.sl false 2 (Q7 y.phis))),(92,.c (.int .i64 y.phis.length)),(93,.c (.int .i64 i))])
           (X.inBlock 2 (X.inBlock 1 Q))))) E1 H12:=by
         intro b3 E1 hph l2 l3 l5 l6 l7 l9 l39 l40 l41 l91 l92 l93 l118;refine Qd l118 ?_ ?_
         ·intro hc3;refine Qa ?_;simp only[go_sem];refine Qk ?_;simp only[go_sem,X.next];exact retq _ _ _ (by rw[hGd,Qar6 hil (by rw[hz,hph,hc3];rfl)];simp) kn (by simp[lk])
         ·intro hc3;refine Qg ?_;simp only[go_sem];refine Qt ?_;simp only[go_sem,X.next,l2,l3,l5,l6,l7,l9,l39,l40,l41,l91,l92,l93];exact⟨Qs (by omega) (by omega),y.phis.length-(i+1),by omega,i+1,rfl,by omega,by rw[Qadp hil,hall,hz,hph,hc3];rfl,kn.drop,rfl⟩
        have hpG:phiG q.regs ps.length j z=(!decide (j=0)&&decide ((z.args.length:Int)=ps.length)&&Qq9 q.regs z.args&&decide (0≤z.to∧z.to≤q.regs-1)):=rfl;refine Qa ?_;simp only[go_sem]
        cases hj0:decide ((j:Int)=0)with
        |true=>
         have hj0':decide (j=0)=true:=(by simpa using hj0);simp only[go_sem,Qdb,Qda];exact fin true _ (by rw[hpG,hj0'];rfl) (by simp[lk]) (by simp[lk]) (by simp[lk]) (by simp[lk]) (by simp[lk]) (by simp[lk]) (by simp[lk]) (by simp[lk]) (by simp[lk]) (by simp[lk]) (by simp[lk]) (by simp[lk]) (by simp[lk])
        |false=>
         have hj0':decide (j=0)=false:=(by simpa using hj0);simp only[go_sem,hx11,hx6,Jz,J0,Jo,Jaa];refine Q0t hx5' (by omega) (by omega) ?_
         cases ht:decide (0≤z.to∧z.to≤q.regs-1)with
         |false=>
          simp only[go_sem,Qdb,Qda];exact fin true _ (by rw[hpG,ht];simp) (by simp[lk]) (by simp[lk]) (by simp[lk]) (by simp[lk]) (by simp[lk]) (by simp[lk]) (by simp[lk]) (by simp[lk]) (by simp[lk]) (by simp[lk]) (by simp[lk]) (by simp[lk]) (by simp[lk])
         |true=>
          by_cases hal:(z.args.length:Int)=ps.length
          ·simp only[go_sem,Qdb,hx11,Qf,hal,not_true_eq_false,decide_false,decide_true,J5];intro _;refine Qgn (p:=fun r=>!decide (0≤r∧r≤q.regs-1)) (.mk' _ _ _ _) rfl (fun v K' hv hK'=>Qa4l hx5' hx6 (by omega) (by omega) hK') ?_;simp only[go_sem,Qda];refine fin (z.args.any fun r=>!decide (0≤r∧r≤q.regs-1)) _ ?_ (by simp[lk]) (by simp[lk]) (by simp[lk]) (by simp[lk]) (by simp[lk]) (by simp[lk]) (by simp[lk]) (by simp[lk]) (by simp[lk]) (by simp[lk]) (by simp[lk]) (by simp[lk]) (by simp[lk]);rw[hpG,hj0',ht,Qa4h,hal,Qq9];simp
          ·simp only[go_sem,Qdb,Qda,hx11,Qf,hal,not_false_eq_true,decide_false,decide_true,Jv];intro _;exact fin true _ (by rw[hpG];simp[hal]) (by simp[lk]) (by simp[lk]) (by simp[lk]) (by simp[lk]) (by simp[lk]) (by simp[lk]) (by simp[lk]) (by simp[lk]) (by simp[lk]) (by simp[lk]) (by simp[lk]) (by simp[lk]) (by simp[lk])
       ·intro hc2;have hge:y.phis.length≤i:=(by simpa using hc2);rw[Jc hge]at hall;refine Qw ?_;simp only[go_sem,X.next];exact hnr _ _ ⟨kn,by rw[hGd,g1,g2,g3,hall];rfl,rfl,rfl,rfl,rfl,rfl,rfl,rfl⟩
     have rest2:∀(b1:Bool) (E1:Env),Qq7 q.regs y=(!b1)→lk 2 E1=.c (.pp [.sl fl 3 (Qj cs)])→lk 3 E1=.c (.pp [.int .i64 k])→lk 5 E1=.c (.ptr x5 0)→lk 6 E1=.c (.ptr x6 0)→lk 7 E1=.c (.int .i64 j)→lk 8 E1=.c (.ptr x8 0)→
       lk 39 E1=.c (.sl false 5 (Qn q.blocks))→lk 40 E1=.c (.int .i64 q.blocks.length)→lk 41 E1=.c (.int .i64 j)→lk 75 E1=.c (.bool b1)→Qam prog (s_im_codeOk_11.seq Qzw) (X.inBlock 1 Q) E1 H7:=by
      intro b1 E1 hb1 l2 l3 l5 l6 l7 l8 l39 l40 l41 l75;refine Qh (Qd l75 ?_ ?_)
      ·intro hc2;refine Qa ?_;simp only[go_sem];refine Qk ?_;simp only[go_sem];exact retq _ _ _ (by rw[hGd,hb1,hc2];simp) kn (by simp[lk])
      intro hc2;rw[hc2]at hb1;refine Qg ?_;simp only[go_sem];refine Qaa ?_;refine Qa ?_;simp only[go_sem,hx8,l2,l3,l5,l6,l7,l8,l39,l40,l41];refine Qgn (p:=fun v=>!Qabf (Qn q.blocks).length v) (.mk' _ _ _ _) rfl (fun v K' hv hK'=>Qa4j hx5' (by omega) hK') ?_;have fin:∀(b:Bool) (E1:Env) (H8:Heap),(y.next.all (Qabf (Qn q.blocks).length)&&y.ins.all (Qx0 cs k))=(!b)→Kn H H8 [] [(x5,.st q.cells),(x6,.st [.fn Qap [.ptr x5 0]]),(x8,blkC y)]→lk 2 E1=.c (.pp [.sl fl 3 (Qj cs)])→lk 3 E1=.c (.pp [.int .i64 k])→lk 5 E1=.c (.ptr x5 0)→lk 6 E1=.c (.ptr x6 0)→lk 7 E1=.c (.int .i64 j)→lk 8 E1=.c (.ptr x8 0)→
        lk 39 E1=.c (.sl false 5 (Qn q.blocks))→lk 40 E1=.c (.int .i64 q.blocks.length)→lk 41 E1=.c (.int .i64 j)→lk 85 E1=.c (.bool b)→Qam prog (s_im_codeOk_14.seq Qln) (X.inBlock 1 Q) E1 H8:=by
       intro b E1 H8 hb kn l2 l3 l5 l6 l7 l8 l39 l40 l41 l85;refine Qh (Qd l85 ?_ ?_)
       ·intro hc3;refine Qa ?_;simp only[go_sem];refine Qk ?_;simp only[go_sem];exact retq _ _ _ (by rw[hGd,Bool.and_assoc (Qq7 _ _),hb,hc3];simp) kn (by simp[lk])
       ·intro hc3;rw[hc3]at hb;simp only[Jv,Jn]at hb;refine Qg ?_;simp only[go_sem];exact rest3 E1 H8 hb1 hb.1 hb.2 kn l2 l3 l5 l6 l7 l8 l39 l40 l41
      rw[Qa4h]
      cases ha:y.next.all (Qabf (Qn q.blocks).length)with
      |false=>
       simp only[go_sem,Qjk,Qjj,l2,l3,l5,l6,l7,l8,l39,l40,l41];exact fin true _ _ (by rw[ha];rfl) kn (by simp[lk]) (by simp[lk]) (by simp[lk]) (by simp[lk]) (by simp[lk]) (by simp[lk]) (by simp[lk]) (by simp[lk]) (by simp[lk]) (by simp[lk])
      |true=>
       simp only[go_sem,Qjk,hx8,l2,l3,l5,l6,l7,l8,l39,l40,l41];refine Qad6 (p:=fun x=>!Qx0 cs k x) (fun x H1 K' hx hK'=>Qa4k hk (by rw[hq];exact hr0) (by rw[hq];exact hr1) hcl hK') fun H8 hu=>?_;have kn:=kn.call0 hu;simp only[go_sem,Qjj,l2,l3,l5,l6,l7,l8,l39,l40,l41];refine fin (y.ins.any fun x=>!Qx0 cs k x) _ _ ?_ kn (by simp[lk]) (by simp[lk]) (by simp[lk]) (by simp[lk]) (by simp[lk]) (by simp[lk]) (by simp[lk]) (by simp[lk]) (by simp[lk]) (by simp[lk]);rw[ha,←List.not_all_eq_any_not];simp
     refine Qaa ?_;refine Qaj ?_;simp only[go_sem,hx8,Qf];refine Qa5h ?_;have hjG:Qq7 q.regs y=(decide ((y.next.length:Int)=Qme y.jump)&&if y.jump=1 then decide (y.on=0)else decide (0≤y.on∧y.on≤q.regs-1)):=rfl;by_cases hn:(y.next.length:Int)=Qme y.jump
     ·have hjmp:y.jump=1∨(y.jump=2∨y.jump=3)∧¬y.jump=1:=by
       rw[Qme]at hn;split at hn
       ·exact .inl ‹_›
       ·split at hn
        ·omega
        ·split at hn
         ·omega
         ·omega
      simp only[go_sem,Qji,hx8,Qf,hn,not_true_eq_false,decide_false,decide_true,J5];refine Qad3 ?_;rcases hjmp with h1|⟨h1,h2⟩
      ·have hu:(decide (y.jump=2) || decide (y.jump=3))=false:=(by simp[h1]);simp only[go_sem,Qgu,Qdx,hu,hx8];refine Qad3 ?_;simp only[go_sem,Qdw,hu,hx8];exact rest2 (!decide (y.on=0)) _ (by rw[hjG,if_pos h1,hn];simp) (by simp[lk]) (by simp[lk]) (by simp[lk]) (by simp[lk]) (by simp[lk]) (by simp[lk]) (by simp[lk]) (by simp[lk]) (by simp[lk]) (by simp[lk])
      ·have hu:(decide (y.jump=2) || decide (y.jump=3))=true:=(by simpa using h1);simp only[go_sem,Qgu,hu,hx8,hx6,Jz,J0,Jo,Jaa];refine Q0t hx5' (by omega) (by omega) ?_
       cases ho:decide (0≤y.on∧y.on≤q.regs-1)with
       |true=>
        simp only[go_sem,Qdx,hx8];refine Qad3 ?_;simp only[go_sem,Qdw,hu,hx8];exact rest2 false _ (by rw[hjG,if_neg h2,hn,ho];simp) (by simp[lk]) (by simp[lk]) (by simp[lk]) (by simp[lk]) (by simp[lk]) (by simp[lk]) (by simp[lk]) (by simp[lk]) (by simp[lk]) (by simp[lk])
       |false=>
        simp only[go_sem,Qdx,Qdw,hx8];exact rest2 true _ (by rw[hjG,if_neg h2,ho];simp) (by simp[lk]) (by simp[lk]) (by simp[lk]) (by simp[lk]) (by simp[lk]) (by simp[lk]) (by simp[lk]) (by simp[lk]) (by simp[lk]) (by simp[lk])
     ·simp only[go_sem,Qji,Qgu,Qdx,Qdw,hx8,Qf,hn,not_false_eq_true,decide_false,decide_true,Jv];exact rest2 true _ (by rw[hjG];simp[hn]) (by simp[lk]) (by simp[lk]) (by simp[lk]) (by simp[lk]) (by simp[lk]) (by simp[lk]) (by simp[lk]) (by simp[lk]) (by simp[lk]) (by simp[lk])
    ·rintro e2 H8 ⟨kn,hbg,l2,l3,l5,l6,l39,l40,l41⟩;refine Qt ?_;simp only[go_sem,X.next,l2,l3,l5,l6,l39,l40,l41];refine⟨Qs (by omega) (by omega),q.blocks.length-(j+1),by omega,j+1,rfl,by omega,fun i hi hij=>?_,kn,rfl⟩;by_cases h:i<j
     ·exact hdone i hi h
     ·have:i=j:=(by omega);subst this;exact hbg
   ·intro hc1;have hge:q.blocks.length≤j:=(by simpa using hc1);refine Qw ?_;simp only[go_sem,X.next];refine Qa ?_;simp only[go_sem];refine Qk ?_;exact retf true _ _ _ (decide_eq_true (by rw[hP];exact⟨by rw[hb];rfl,fun b h=>hdone b h (by omega)⟩)) kn (by simp[lk])
 have hH:Qs7 q=(decide (0≤q.params∧q.params≤3)&&decide (q.params≤q.regs∧q.regs≤300)&&decide (1≤(q.blocks.length:Int)∧(q.blocks.length:Int)≤160)):=rfl;by_cases hr:0≤q.regs∧q.regs≤300
 ·have hr':(decide (0≤q.regs)&&decide (q.regs≤300))=true:=by simpa using hr
  simp only[go_sem,Qlo,hr',hx5];refine Qb6 ?_;by_cases hp:0≤q.params∧q.params≤3∧q.params≤q.regs
  ·have hp':(decide (0≤q.params)&&decide (q.params≤if q.regs<3 then q.regs else 3))=true:=by
    split <;> simp <;> omega
   simp only[go_sem,Qgt,hp',hx5,Ql];intro _;refine Qb6 ?_;simp only[go_sem,Qgs];refine rest0 _ _ ?_ (by simp[lk]) (by simp[lk]) (by simp[lk]) (by simp[lk];rfl);have a1:decide (0≤q.params∧q.params≤3)=true:=by simp;omega
   have a2:decide (q.params≤q.regs∧q.regs≤300)=true:=by simp;omega
   rw[hH,a1,a2];simp
  ·have hp':(decide (0≤q.params)&&decide (q.params≤if q.regs<3 then q.regs else 3))=false:=by
    split <;> simp <;> omega
   simp only[go_sem,Qgt,Qgs,hp',hx5];refine rest0 true _ ?_ (by simp[lk]) (by simp[lk]) (by simp[lk]) (by simp[lk]);rw[hH];simp;omega
 ·have hr':(decide (0≤q.regs)&&decide (q.regs≤300))=false:=by simpa using hr
  simp only[go_sem,Qlo,Qgt,Qgs,hr',hx5];refine rest0 true _ ?_ (by simp[lk]) (by simp[lk]) (by simp[lk]) (by simp[lk]);rw[hH];simp;omega
set_option maxHeartbeats 1000000 in
theorem Qck {cs:List CodeD}{fl:Bool}(hfit:∀c∈cs,c.fits)(hK:∀(H':Heap),Upd H H' []→K (.c (.bool (Qbr cs))) H') :
  Qr prog Qbb [.ag [.sl fl 3 (Qj cs)]] H K:=by
 refine Q3 ?_;refine Qc Qal Qamo ?_;have retf:∀(b:Bool) (e:Env) (H':Heap) (L:List (Nat×Obj)),Qbr cs=b→Kn H H' [] L→lk 2 e=.c (.bool b)→Q5 Qlh (unK H K) .ret e H':=by
  intro b e H' L hb kn h3;simp only[go_sem,Q5,Qae,Qlh,Ja,forall_eq,RS.op,h3];rw[←hb];exact⟨_,.c _ _ (Qi rfl),hK _ kn.fin⟩
 have kn:=Kn.start0 H;refine Qa ?_;simp only[go_sem];refine Qaa ?_;refine Qa ?_;simp only[go_sem,Qo];intro hcl;refine Qb6 ?_;simp only[go_sem,Qmq];refine Qh (Qd rfl ?_ ?_)
 ·intro hc;have hc':=Qtc hc;refine Qa ?_;simp only[go_sem];refine Qk ?_;simp only[go_sem];exact retf false _ _ _ (Qx2 fun hu=>by have h1:=hu.1;simp at hc';omega) kn (by simp[lk])
 intro hc;have hc':=Qh8 hc;have hc4:1≤cs.length∧cs.length≤4:=by simp at hc';omega
 refine Qg ?_;simp only[go_sem];refine Qa ?_;simp only[go_sem];refine Qaa ?_;refine Qa ?_;simp only[go_sem,Qo];intro _;refine Qh (Qe (Qx (fun m e1 H1=>∃(k:Nat),m=cs.length-k∧k≤cs.length∧Qfb Qfc (cs.take k)≤k * (160 * 549755813888)∧(∀(i:Nat) (hi:i<cs.length),i<k→Qamj cs i hi)∧Kn H H1 [] []∧
  e1=[(1,.c (.pp [.sl fl 3 (Qj cs)])),(3,.c (.int .i64 (Qfb Qfc (cs.take k):Nat))),(12,.c (.sl fl 3 (Qj cs))),(13,.c (.int .i64 cs.length)),(14,.c (.int .i64 k))]) cs.length ?_ ?_))
 ·exact⟨0,by omega,by omega,by simp[Qfb],fun _ _ h=>by omega,kn,rfl⟩
 ·rintro m e1 H1 ⟨k,hm,hk,hsum,hdone,kn,rfl⟩;refine Qa ?_;simp only[go_sem];refine Qh (Qd rfl ?_ ?_)
  ·intro hc2;have hlt:k<cs.length:=by simpa using hc2
   have hss:=Qdc (f:=Qfc) hlt;refine Qg ?_;simp only[go_sem];refine Qh (Qe ?_);refine Qa ?_;simp only[go_sem,hlt,Qo,Q0 _ _ hlt,CodeD.cells];obtain⟨q,hq⟩:∃q,cs[k]=q:=⟨_,rfl⟩;have hqf:q.fits:=by subst hq;exact hfit _ (Jd hlt)
   rw[hq];intro x5 hx5 H2 h2;have kn:=kn.al hx5 h2;have hx5:=kn.l 0 rfl;simp only[go_sem,Qmr,hx5];intro H3 h3;have kn:Kn H H3 [] ([]++[(x5,.st [.int .i64 q.params,.int .i64 q.regs,.sl false 5 (Qn q.blocks)])]):=kn.stL 0 rfl h3;refine Qaa ?_;refine Qa ?_;simp only[go_sem];refine Qbna hlt (by omega) (by rw[hq];exact hqf) fun H4 hu=>?_;have kn:=kn.call0 hu;have hx5:=kn.l 0 rfl;simp only[go_sem,Qms];refine Qh (Qd rfl ?_ ?_)
   ·intro hc3;have hno:=of_decide_eq_false (Qtc hc3);refine Qa ?_;simp only[go_sem];refine Qk ?_;simp only[go_sem,X.next];exact retf false _ _ _ (Qx2 fun hu=>hno (hu.2.1 k hlt)) kn (by simp[lk])
   ·intro hc3;have hyes:=of_decide_eq_true (Qh8 hc3);have hbl:q.blocks.length≤160:=by
     have:=hyes.1;rw[hq]at this;simp only[Qs7,Jn,decide_eq_true_eq]at this;omega
    have hcq:Qfc q≤160 * 549755813888:=Ja6 (Qa35 hqf) (Jai _ hbl);have hk4:k * (160 * 549755813888)≤4 * (160 * 549755813888):=Jai _ (by omega);have hk1:(k+1) * (160 * 549755813888)=k * (160 * 549755813888)+160 * 549755813888:=Ja7 _ _;rw[hq]at hss;refine Qg ?_;simp only[go_sem];refine Qt ?_;simp only[go_sem,hx5];refine Qnq hqf hbl fun H5 hu=>?_;have kn:=kn.call0 hu;simp only[go_sem,Qmt];refine⟨Qs (by omega) (by omega),?_⟩;refine Qt ?_;simp only[go_sem,X.next];refine⟨Qs (by omega) (by omega),cs.length-(k+1),by omega,k+1,rfl,by omega,by rw[hss,hk1];omega,fun i hi hik=>?_,kn.drop,?_⟩
    ·by_cases h:i<k
     ·exact hdone i hi h
     ·have:i=k:=(by omega);subst this;exact hyes
    ·rw[hss];rfl
  ·intro hc2;have hge:cs.length≤k:=by simpa using hc2
   rw[Jc hge];refine Qw ?_;simp only[go_sem,X.next];refine Qa ?_;simp only[go_sem];refine Qk ?_;refine retf (decide (((Qfb Qfc cs:Nat):Int)≤800)) _ _ _ ?_ kn (by simp[lk]);by_cases hs:Qfb Qfc cs≤800
   ·have h1:Qbr cs=true:=decide_eq_true ⟨by omega,fun i hi=>hdone i hi (by omega),hs⟩;rw[h1];simp;omega
   ·rw[Qx2 fun hu=>hs hu.2.2];simp;omega
noncomputable def hasG (cs:List CodeD)(k:Int):Bool:=Qbr cs&&decide (0≤k∧k≤(cs.length:Int)-1)
theorem Qbbg {cs:List CodeD}{fl:Bool}{k:Int}(hfit:∀c∈cs,c.fits)(hK:∀(H':Heap),Upd H H' []→K (.c (.bool (hasG cs k))) H') :
  Qr prog Qsv [.ag [.sl fl 3 (Qj cs)],.c (.int .i64 k)] H K:=by
 refine Qc Qal Qa41 ?_;refine Qa ?_;simp only[go_sem];refine Qa ?_;simp only[go_sem];refine Qck hfit fun H' hu=>?_;have hK:=hK H' hu
 cases hg:Qbr cs with
 |false=>
  simp only[go_sem,Qlm,Qll];refine Qk ?_;simp only[go_sem,Q5,Qae,Q1b,Ja,forall_eq,RS.op];rw[hasG,hg]at hK;exact hK
 |true=>
  simp only[go_sem,Qlm,Qo];intro hl;simp only[LIM]at hl;refine⟨Qs (by omega) (by omega),?_⟩;refine Qb6 ?_;simp only[go_sem,Qll];refine Qk ?_;simp only[go_sem,Q5,Qae,Q1b,Ja,forall_eq,RS.op];have:hasG cs k=(decide (0≤k)&&decide (k≤(cs.length:Int)-1)):=by rw[hasG,hg];simp
  rw[this]at hK;exact hK
theorem Qboh {cs:List CodeD}{fl:Bool}{k:Int}(hfit:∀c∈cs,c.fits)(hK:∀(H':Heap),Upd H H' []→K (.c (.bool (hasG cs k))) H') :
  Qr prog Qaek [.ag [.sl fl 3 (Qj cs)],.c (.int .i64 k)] H K:=by
 refine Qc Qal Qboz ?_;refine Qa ?_;simp only[go_sem];refine Qa ?_;simp only[go_sem];refine Qj6 hfit fun H' hu=>?_;have hK:=hK H' hu
 cases hg:Qbr cs with
 |false=>
  simp only[go_sem,Q1y,Q1x];refine Qk ?_;simp only[go_sem,Q5,Qae,Qatj,Ja,forall_eq,RS.op];rw[hasG,hg]at hK;exact hK
 |true=>
  simp only[go_sem,Q1y,Qo];intro hl;simp only[LIM]at hl;refine⟨Qs (by omega) (by omega),?_⟩;refine Qc8 ?_;simp only[go_sem,Q1x];refine Qk ?_;simp only[go_sem,Q5,Qae,Qatj,Ja,forall_eq,RS.op];have:hasG cs k=decide (0≤k∧k≤(cs.length:Int)-1):=by rw[hasG,hg];simp
  rw[this]at hK;exact hK
end Go.AE.Y
namespace Go.AE.Y
attribute [local instance] Classical.propDecidable
structure Flo where
 n:Nat
 nx:Nat→List Nat
 on:Nat→List Nat
 ins:Nat→List (Option Nat×List Nat)
 ph:Nat→List Nat
 ea:Nat→Nat→List Nat
abbrev RS':=Nat→Prop
def Qaso (x:Option Nat×List Nat)(S:RS'):RS':=fun r=>r∈x.2∨(S r∧x.1≠some r)
def behL (l:List (Option Nat×List Nat))(S:RS'):RS':=l.foldr Qaso S
theorem Qbhr {l:List (Option Nat×List Nat)}{S T:RS'}(h:∀r,S r→T r):∀r,behL l S r→behL l T r:=by
 induction l with
 |nil=>exact h
 |cons x l ih=>
  rintro r (hr|⟨hr,h2⟩)
  ·exact .inl hr
  ·exact .inr ⟨ih r hr,h2⟩
variable {F:Flo}
def Flo.endS (F:Flo)(X:RS')(b:Nat):RS':=fun r=>X r∨r∈F.on b
def Flo.beh (F:Flo)(X:RS')(b k:Nat):RS':=behL ((F.ins b).drop k) (F.endS X b)
theorem Flo.beh_end (X:RS')(b k:Nat)(h:(F.ins b).length≤k):F.beh X b k=F.endS X b:=by rw[Flo.beh,List.drop_of_length_le h];rfl
theorem Flo.beh_step (X:RS')(b k:Nat)(h:k<(F.ins b).length):F.beh X b k=Qaso (F.ins b)[k] (F.beh X b (k+1)):=by
 rw[Flo.beh,J7 h];rfl
theorem Flo.beh_mono {X Y:RS'}(h:∀r,X r→Y r)(b k:Nat):∀r,F.beh X b k r→F.beh Y b k r:=
 Qbhr fun r hr=>hr.elim (fun h1=>.inl (h r h1)) .inr
theorem Flo.beh_congr {X Y:RS'}(h:∀r,X r↔Y r)(b k:Nat):∀r,F.beh X b k r↔F.beh Y b k r:=fun r=>
 ⟨Flo.beh_mono (fun r=>(h r).1) b k r,Flo.beh_mono (fun r=>(h r).2) b k r⟩
def Flo.outT (F:Flo)(I:Nat→RS')(b:Nat):RS':=fun r=>∃m∈F.nx b,I m r∨r∈F.ea b m
def Flo.thru (F:Flo)(X:RS')(b:Nat):RS':=fun r=>F.beh X b 0 r∧r∉F.ph b
def Flo.inT (F:Flo)(I:Nat→RS')(b:Nat):RS':=F.thru (F.outT I b) b
theorem Flo.thru_mono {X Y:RS'}(h:∀r,X r→Y r)(b:Nat):∀r,F.thru X b r→F.thru Y b r:=fun r hr=>⟨Flo.beh_mono h b 0 r hr.1,hr.2⟩
def Flo.fits (F:Flo):Prop:=∀b,b<F.n→∀m∈F.nx b,m<F.n
variable {I J:Nat→RS'}
theorem Flo.outT_mono (hf:F.fits)(h:∀b,b<F.n→∀r,I b r→J b r){b:Nat}(hb:b<F.n):∀r,F.outT I b r→F.outT J b r:=by
 rintro r ⟨m,hm,h1|h1⟩
 ·exact⟨m,hm,.inl (h m (hf b hb m hm) r h1)⟩
 ·exact⟨m,hm,.inr h1⟩
theorem Flo.inT_mono (hf:F.fits)(h:∀b,b<F.n→∀r,I b r→J b r){b:Nat}(hb:b<F.n):∀r,F.inT I b r→F.inT J b r:=
 Flo.thru_mono (Flo.outT_mono hf h hb) b
def Flo.Pre (F:Flo)(J:Nat→RS'):Prop:=∀b,b<F.n→∀r,F.inT J b r→J b r
def Flo.LI (F:Flo)(b:Nat):RS':=fun r=>∀J,F.Pre J→J b r
def Flo.LO (F:Flo)(b:Nat):RS':=F.outT F.LI b
def Flo.LB (F:Flo)(b k:Nat):RS':=F.beh (F.LO b) b k
theorem Flo.LI_pre (hf:F.fits):F.Pre F.LI:=fun b hb r hr J hJ=>hJ b hb r (Flo.inT_mono hf (fun b hb r hr=>hr J hJ) hb r hr)
theorem Flo.LI_fix (hf:F.fits){b:Nat}(hb:b<F.n)(r:Nat):F.inT F.LI b r↔F.LI b r:=by
 refine⟨Flo.LI_pre hf b hb r,fun h=>?_⟩;have:F.Pre (fun b r=>F.inT F.LI b r):=fun b hb r hr=>Flo.inT_mono hf (fun b hb r hr=>Flo.LI_pre hf b hb r hr) hb r hr;exact h _ this
def Flo.Below (F:Flo)(I:Nat→RS'):Prop:=∀b,b<F.n→∀r,I b r→F.LI b r
theorem Flo.is_least (h1:F.Pre I)(h2:F.Below I){b:Nat}(hb:b<F.n)(r:Nat):I b r↔F.LI b r:=⟨h2 b hb r,fun h=>h I h1⟩
theorem Flo.Below.inT (hf:F.fits)(h:F.Below I){b:Nat}(hb:b<F.n):∀r,F.inT I b r→F.LI b r:=fun r hr=>Flo.LI_pre hf b hb r (Flo.inT_mono hf h hb r hr)
theorem Flo.Below.outT (hf:F.fits)(h:F.Below I){b:Nat}(hb:b<F.n):∀r,F.outT I b r→F.LO b r:=Flo.outT_mono hf h hb
theorem Flo.outT_congr (hf:F.fits)(h:∀b,b<F.n→∀r,I b r↔J b r){b:Nat}(hb:b<F.n)(r:Nat):F.outT I b r↔F.outT J b r:=
 ⟨Flo.outT_mono hf (fun b hb r=>(h b hb r).1) hb r,Flo.outT_mono hf (fun b hb r=>(h b hb r).2) hb r⟩
structure Flo.bd (F:Flo)(R:Nat):Prop where
 on:∀b,b<F.n→∀r∈F.on b,r<R
 ins:∀b,b<F.n→∀x∈F.ins b,∀r∈x.2,r<R
 ea:∀b,b<F.n→∀m∈F.nx b,∀r∈F.ea b m,r<R
theorem Qbsm {l:List (Option Nat×List Nat)}{S:RS'}{R:Nat}(hl:∀x∈l,∀r∈x.2,r<R)(hS:∀r,S r→r<R):∀r,behL l S r→r<R:=by
 induction l with
 |nil=>exact hS
 |cons x l ih=>
  rintro r (hr|⟨hr,_⟩)
  ·exact hl x Ju r hr
  ·exact ih (fun y hy=>hl y (Jt _ hy)) r hr
theorem Flo.beh_lt {R:Nat}(h:F.bd R){b:Nat}(hb:b<F.n){X:RS'}(hX:∀r,X r→r<R)(k:Nat):∀r,F.beh X b k r→r<R:=
 Qbsm (fun x hx=>h.ins b hb x (List.mem_of_mem_drop hx)) fun r hr=>hr.elim (hX r) (h.on b hb r)
theorem Flo.outT_lt {R:Nat}(hf:F.fits)(h:F.bd R)(hI:∀b,b<F.n→∀r,I b r→r<R){b:Nat}(hb:b<F.n):∀r,F.outT I b r→r<R:=by
 rintro r ⟨m,hm,h1|h1⟩
 ·exact hI m (hf b hb m hm) r h1
 ·exact h.ea b hb m hm r h1
theorem Flo.LI_lt {R:Nat}(hf:F.fits)(h:F.bd R){b:Nat}:∀r,F.LI b r→r<R:=fun r hr=>
 hr (fun _ r=>r<R) fun b hb r hr=>Flo.beh_lt h hb (Flo.outT_lt hf h (fun _ _ _ h=>h) hb) 0 r hr.1
theorem Flo.LO_lt {R:Nat}(hf:F.fits)(h:F.bd R){b:Nat}(hb:b<F.n):∀r,F.LO b r→r<R:=Flo.outT_lt hf h (fun _ _=>Flo.LI_lt hf h) hb
theorem Flo.LB_lt {R:Nat}(hf:F.fits)(h:F.bd R){b:Nat}(hb:b<F.n)(k:Nat):∀r,F.LB b k r→r<R:=Flo.beh_lt h hb (Flo.LO_lt hf h hb) k
noncomputable def ascL (R:Nat)(S:RS'):List Nat:=(List.range R).filter fun r=>decide (S r)
theorem ascL_mem {R:Nat}{S:RS'}{r:Nat}:r∈ascL R S↔r<R∧S r:=by simp[ascL]
theorem Qbm6 {R:Nat}{S:RS'}:(ascL R S).Pairwise (· < ·):=Jbk _ List.pairwise_lt_range
theorem Qn8 {a:List Nat}(ha:a.Nodup):∀{b:List Nat},(∀x∈a,x∈b)→a.length≤b.length:=by
 induction a with
 |nil=>intro b _;simp
 |cons x a ih=>
  intro b h;have hx:=h x Ju;have hn:=Jbb.1 ha;have:=ih hn.2 (b:=b.erase x) fun y hy=>(List.mem_erase_of_ne (fun he=>by subst he;exact hn.1 hy)).2 (h y (Jt _ hy));rw[List.length_erase_of_mem hx]at this;have hp:=List.length_pos_of_mem hx;simp only[Js];omega
theorem Qax4 {a b:List Nat}(ha:a.Nodup)(h:∀x∈a,x∈b)(hl:b.length≤a.length):∀x∈b,x∈a:=fun x hx=>by
 refine Jak fun hxa=>?_;have:=Qn8 (a:=x::a) (Jbb.2 ⟨hxa,ha⟩) (b:=b) fun y hy=>by
  rcases J6.1 hy with rfl|hy
  ·exact hx
  ·exact h y hy
 simp only[Js]at this;omega
theorem Qcg {a:List Nat}{R:Nat}(ha:a.Nodup)(h:∀x∈a,x<R):a.length≤R:=by
 have:=Qn8 ha (b:=List.range R) fun x hx=>Jbd.2 (h x hx);simpa using this
def addK (ks:List Nat)(b:Nat):List Nat:=if b∈ks then ks else ks++[b]
theorem addK_mem {ks:List Nat}{b x:Nat}:x∈addK ks b↔x∈ks∨x=b:=by
 rw[addK];split
 ·exact⟨.inl,fun h=>h.elim id fun h=>h▸‹_›⟩
 ·simp
theorem Qxs {ks:List Nat}{b:Nat}(h:ks.Nodup):(addK ks b).Nodup:=by
 rw[addK];split
 ·exact h
 ·refine J3.2 ⟨h,by simp,fun a ha c hc=>?_⟩;simp at hc;subst hc;exact fun e=>‹¬_› (e▸ha)
def tot (n:Nat)(S:Nat→List Nat):Nat:=((List.range n).map fun b=>(S b).length).sum
theorem Q4z (n:Nat)(S:Nat→List Nat):tot (n+1) S=tot n S+(S n).length:=by simp[tot,List.range_succ]
theorem Qbw6 {n R:Nat}{S:Nat→List Nat}(h:∀b,b<n→(S b).length≤R):tot n S≤n * R:=by
 induction n with
 |zero=>simp[tot]
 |succ n ih=>
  rw[Q4z,Ja7];have:=ih fun b hb=>h b (by omega);have:=h n (by omega);omega
theorem Qbrv {n:Nat}{S T:Nat→List Nat}(h:∀b,b<n→(S b).length≤(T b).length):tot n S≤tot n T:=by
 induction n with
 |zero=>simp[tot]
 |succ n ih=>
  rw[Q4z,Q4z];have:=ih fun b hb=>h b (by omega);have:=h n (by omega);omega
theorem Qbw7 {n:Nat}{S T:Nat→List Nat}{c:Nat}(hc:c<n)(h:∀b,b<n→(S b).length≤(T b).length)(hlt:(S c).length<(T c).length):tot n S<tot n T:=by
 induction n with
 |zero=>omega
 |succ n ih=>
  rw[Q4z,Q4z];have h1:=h n (by omega);by_cases hcn:c=n
  ·subst hcn;have:=Qbrv (n:=c) (S:=S) (T:=T) fun b hb=>h b (by omega);omega
  ·have:=ih (by omega) fun b hb=>h b (by omega);omega
end Go.AE.Y
namespace Go.AE.Y
attribute [local go_sem] cond_true cond_false Bool.not_true Bool.not_false
open Go.Proofs.Tryz
variable {H:Heap}{K:V→Heap→Prop}
attribute [local instance] Classical.propDecidable
def Qgd (x:InsD):Option Nat:=if Qb9 x.op then some x.to.toNat else none
def toN (l:List Int):List Nat:=l.map Int.toNat
def Qbnb (q:CodeD)(b m:Nat):List Nat:=(((q.blocks[m]?.map BlkD.phis).getD []).map fun p=>(p.args.getD ((Qav (gnx q) (m:Int) q.blocks.length).idxOf (b:Int)) 0).toNat)
def Q6 (q:CodeD):Flo where
 n:=q.blocks.length
 nx b:=nxN (gnx q) b
 on b:=match q.blocks[b]? with
  |some y=>if y.jump=1 then []else [y.on.toNat]
  |none=>[]
 ins b:=match q.blocks[b]? with
  |some y=>y.ins.map fun x=>(Qgd x,toN x.args)
  |none=>[]
 ph b:=match q.blocks[b]? with
  |some y=>y.phis.map fun p=>p.to.toNat
  |none=>[]
 ea:=Qbnb q
def rIn (q:CodeD)(v:Int):Prop:=0≤v∧v<q.regs
structure BlkD.ok (q:CodeD)(b:Nat)(y:BlkD):Prop where
 nxl:y.next.length≤2
 nx:∀v∈y.next,1≤v∧v<q.blocks.length
 jmp:y.jump=1∨y.jump=2∨y.jump=3
 on:¬y.jump=1→rIn q y.on
 args:∀x∈y.ins,∀v∈x.args,rIn q v
 to:∀x∈y.ins,Qb9 x.op=true→rIn q x.to
 pto:∀p∈y.phis,rIn q p.to
 pargs:∀p∈y.phis,∀v∈p.args,rIn q v
 pal:∀p∈y.phis,p.args.length=(Qav (gnx q) (b:Int) q.blocks.length).length
 al:∀x∈y.ins,x.args.length≤3
structure CodeD.ok (q:CodeD):Prop where
 r0:0≤q.regs
 r1:q.regs≤300
 b0:0<q.blocks.length
 b1:q.blocks.length≤160
 bs:∀(b:Nat) (h:b<q.blocks.length),q.blocks[b].ok q b
 il:∀(b:Nat) (h:b<q.blocks.length),q.blocks[b].ins.length≤1200∧q.blocks[b].phis.length≤1200
theorem Qbb4 {α:Type}{f:α→Nat}{l:List α}{x:α}(h:x∈l):f x≤Qfb f l:=by
 induction l with
 |nil=>simp at h
 |cons y l ih=>
  simp only[Qfb,Jo,Jar]at *;rcases J6.1 h with rfl|h
  ·omega
  ·have:=ih h;omega
theorem Qly {cs:List CodeD}(h:Qbr cs=true){k:Nat}(hk:k<cs.length):cs[k].ok:=by
 obtain⟨_,h2,h3⟩:=of_decide_eq_true h;obtain⟨g1,g2⟩:=h2 k hk;simp only[Qs7,Jn,decide_eq_true_eq]at g1;refine⟨by omega,by omega,by omega,by omega,fun b hb=>?_,fun b hb=>?_⟩
 ·have g:=g2 b hb;simp only[Qsn,Jn]at g;obtain⟨⟨⟨j,nx⟩,ins⟩,ph⟩:=g;simp only[Qq7,Jn,decide_eq_true_eq]at j;obtain⟨j1,j2⟩:=j;rw[Jat]at nx ins ph;have hj:(cs[k].blocks[b].jump=1∨cs[k].blocks[b].jump=2∨cs[k].blocks[b].jump=3)∧cs[k].blocks[b].next.length≤2:=by
   rw[Qme]at j1;split at j1
   ·omega
   ·split at j1
    ·omega
    ·split at j1 <;> omega
  have hi:∀x∈cs[k].blocks[b].ins,(∀v∈x.args,rIn cs[k] v)∧(Qb9 x.op=true→rIn cs[k] x.to):=fun x hx=>by
   have:=ins x hx;simp only[Qx0,insH,Qq9,Jn,Jat,decide_eq_true_eq,Qtr hk]at this;obtain⟨⟨⟨_,a1⟩,a2⟩,_⟩:=this;refine⟨fun v hv=>by have:=a1 v hv;exact⟨by omega,by omega⟩,fun hm=>?_⟩;rw[insT,hm,if_pos rfl,decide_eq_true_eq]at a2;exact⟨by omega,by omega⟩
  have hal:∀x∈cs[k].blocks[b].ins,x.args.length≤3:=fun x hx=>by
   have:=ins x hx;simp only[Qx0,Jn]at this;have h3:=this.2;rw[insL]at h3;split at h3
   ·simp only[Jn,decide_eq_true_eq]at h3;have hn:x.n.toNat<cs.length:=(by omega);have:=(h2 x.n.toNat hn).1;simp only[Qs7,Jn,decide_eq_true_eq]at this;rw[Qtf hn]at h3;omega
   ·simp only[Jn,decide_eq_true_eq]at h3;have:=argsN_in (op:=x.op);omega
  have hp:∀p∈cs[k].blocks[b].phis,rIn cs[k] p.to∧(∀v∈p.args,rIn cs[k] v)∧p.args.length=(Qav (gnx cs[k]) (b:Int) cs[k].blocks.length).length:=fun p hp=>by
   have:=ph p hp;simp only[phiG,Qq9,Jn,Jat,decide_eq_true_eq,Ql]at this;obtain⟨⟨⟨_,a1⟩,a2⟩,a3⟩:=this;have hgn:(fun i=>(cs[k].blocks.map BlkD.next).getD i [])=gnx cs[k]:=rfl;rw[hgn]at a1;exact⟨⟨by omega,by omega⟩,fun v hv=>by have:=a2 v hv;exact⟨by omega,by omega⟩,by omega⟩
  refine⟨hj.2,fun v hv=>?_,hj.1,fun hn=>?_,fun x hx=>(hi x hx).1,fun x hx=>(hi x hx).2,fun p h=>(hp p h).1,fun p h=>(hp p h).2.1,fun p h=>(hp p h).2.2,hal⟩
  ·have:=nx v hv;simp only[Qabf,decide_eq_true_eq,Ql]at this;omega
  ·rw[if_neg hn,decide_eq_true_eq]at j2;exact⟨by omega,by omega⟩
 ·have a1:=Qbb4 (f:=Qfc) (Jd hk);have a2:=Qbb4 (f:=Qsq) (Jd hb);simp only[Qfc,Qsq]at *;omega
variable {q:CodeD}
theorem Qasa {b:Nat}(h:b<q.blocks.length):(Q6 q).on b=if q.blocks[b].jump=1 then []else [q.blocks[b].on.toNat]:=by simp[Q6,h]
theorem Qaeh {b:Nat}(h:b<q.blocks.length):(Q6 q).ins b=q.blocks[b].ins.map fun x=>(Qgd x,toN x.args):=by simp[Q6,h]
theorem Qbbo {b:Nat}(h:b<q.blocks.length):(Q6 q).ph b=q.blocks[b].phis.map fun p=>p.to.toNat:=by simp[Q6,h]
theorem Qar9 {b m:Nat}(h:m<q.blocks.length):(Q6 q).ea b m=q.blocks[m].phis.map fun p=>(p.args.getD ((Qav (gnx q) (m:Int) q.blocks.length).idxOf (b:Int)) 0).toNat:=by simp[Q6,Qbnb,h]
theorem Qaew {b:Nat}(h:b<q.blocks.length):gnx q b=q.blocks[b].next:=by simp[gnx,Jb,h]
theorem CodeD.ok.next (h:q.ok){b m:Nat}(hb:b<q.blocks.length)(hm:m∈(Q6 q).nx b):m<q.blocks.length∧(m:Int)∈gnx q b:=by
 obtain⟨v,hv,rfl⟩:=Jk.1 hm;have hv':=hv;rw[Qaew hb]at hv';have:=(h.bs b hb).nx v hv';refine⟨by omega,?_⟩;have e:((v.toNat:Nat):Int)=v:=by omega
 rw[e];exact hv
theorem CodeD.ok.fitsF (h:q.ok):(Q6 q).fits:=fun b hb m hm=>(h.next hb hm).1
theorem CodeD.ok.ix (h:q.ok){b m:Nat}(hb:b<q.blocks.length)(hm:(m:Int)∈gnx q b):(Qav (gnx q) (m:Int) q.blocks.length).idxOf (b:Int)<(Qav (gnx q) (m:Int) q.blocks.length).length:=by
 refine List.idxOf_lt_length_of_mem ?_;simp only[Qav,Jk,List.mem_filter,Jbd];exact⟨b,⟨hb,J1.2 hm⟩,rfl⟩
theorem CodeD.ok.bdF (h:q.ok):(Q6 q).bd q.regs.toNat:=by
 refine⟨fun b hb r hr=>?_,fun b hb x hx r hr=>?_,fun b hb m hm r hr=>?_⟩
 ·rw[Qasa hb]at hr;split at hr
  ·simp at hr
  ·have:=(h.bs b hb).on ‹_›;simp only[Ja]at hr;obtain⟨a,b⟩:=this;omega
 ·rw[Qaeh hb]at hx;obtain⟨y,hy,rfl⟩:=Jk.1 hx;obtain⟨v,hv,rfl⟩:=Jk.1 hr;obtain⟨a,b⟩:=(h.bs b hb).args y hy v hv;omega
 ·obtain⟨h1,h2⟩:=h.next hb hm;rw[Qar9 h1]at hr;obtain⟨p,hp,rfl⟩:=Jk.1 hr;have hix:=h.ix hb h2;have:=(h.bs m h1).pal p hp;have hmem:p.args.getD ((Qav (gnx q) (m:Int) q.blocks.length).idxOf (b:Int)) 0∈p.args:=by
   rw[Jb,Jg (by omega)];exact Jd _
  obtain⟨a,b⟩:=(h.bs m h1).pargs p hp _ hmem;omega
theorem IsIx.idx {ns:List Int}{v r:Int}(h:IsIx ns v r)(hm:v∈ns):r=(ns.idxOf v:Nat):=by
 rcases h with ⟨_,hn⟩|⟨i,rfl,h1,h2,h3⟩
 ·exact absurd hm hn
 ·have h4:ns[i]=v:=by rw[←h2,Jb,Jg h1];rfl
  have h5:ns.idxOf v=i:=by
   have e:ns=ns.take i++ns[i]::ns.drop (i+1):=by rw[←J7 h1,Jaf]
   rw[e,List.idxOf_append,if_neg h3,h4];simp[Jx];omega
  rw[h5]
def Mem (bs:List Bool)(S:RS'):Prop:=∀r,bs.getD r false=true↔S r
theorem Mem.congr {bs:List Bool}{S T:RS'}(h:Mem bs S)(hST:∀r,S r↔T r):Mem bs T:=fun r=>(h r).trans (hST r)
theorem Qaw4 (S:List Bool)(x y:Nat)(v:Bool):(S.set x v).getD y false=(if y=x∧x<S.length then v else S.getD y false):=by
 simp only[Jb,Jad];by_cases h:x=y
 ·subst h;by_cases h2:x<S.length <;> simp[h2]
 ·have:¬y=x:=fun e=>h e.symm;simp[h,this]
theorem Mem.ins {bs:List Bool}{S:RS'}(h:Mem bs S){x:Nat}(hx:x<bs.length):Mem (bs.set x true) (fun r=>r=x∨S r):=fun r=>by
 rw[Qaw4];by_cases hr:r=x
 ·simp[hr,hx]
 ·simp only[hr,false_and,if_false,false_or];exact h r
theorem Mem.del {bs:List Bool}{S:RS'}(h:Mem bs S){x:Nat}(hx:x<bs.length):Mem (bs.set x false) (fun r=>S r∧r≠x):=fun r=>by
 rw[Qaw4];by_cases hr:r=x
 ·simp[hr,hx]
 ·simp only[hr,false_and,if_false,ne_eq,not_false_eq_true,and_true];exact h r
theorem Mem.lt {bs:List Bool}{S:RS'}(h:Mem bs S){r:Nat}(hr:S r):r<bs.length:=by
 have:=(h r).2 hr;refine Jak fun hn=>?_;rw[Jb,Jr (by omega)]at this;exact absurd this (by simp)
theorem Mem.none (n:Nat):Mem (List.replicate n false) fun _=>False:=fun r=>by
 rw[Jb,Jaq];split <;> simp
end Go.AE.Y
namespace Go.AE.Y
attribute [local go_sem] cond_true cond_false Bool.not_true Bool.not_false
open Go.Proofs.Tryz
variable {H H0:Heap}{K:V→Heap→Prop}{E L:List (Nat×Obj)}
def Q2t (x:InsD):Int:=if Qb9 x.op then x.to else -1
theorem Qbhd {x:InsD}(hK:K (.c (.int .i64 (Q2t x))) H):Qr prog Qs2 [.ag x.cells] H K:=by
 refine Qc Qal Qa5f ?_;refine Qa ?_;simp only[go_sem,InsD.cells];refine Qaa ?_;refine Qa ?_;simp only[go_sem];refine Q2p ?_;refine Qh (Qd rfl ?_ ?_)
 ·intro hc;refine Qa ?_;simp only[go_sem];refine Qk ?_;simp only[go_sem,X.next,Q5,Qae,Q1f,Ja,forall_eq,RS.op];rw[Q2t,hc,if_pos rfl]at hK;exact hK
 ·intro hc;refine Qg ?_;try simp only[go_sem]
  refine Qa ?_;simp only[go_sem];refine Qk ?_;simp only[go_sem,Q5,Qae,Q1f,Ja,forall_eq,RS.op];rw[Q2t,hc,if_neg (by simp)]at hK;exact hK
theorem Qbeb {x:InsD}(hK:K (.c (.int .i64 (Q2t x))) H):Qr prog Qss [.ag x.cells] H K:=by
 refine Qc Qal Qa40 ?_;refine Qa ?_;simp only[go_sem,InsD.cells];refine Qaa ?_;refine Qa ?_;simp only[go_sem];refine Qbc5 ?_;simp only[go_sem,Qzs];refine Qh (Qd rfl ?_ ?_)
 ·intro hc;have hc:=Qtc hc;refine Qa ?_;simp only[go_sem];refine Qk ?_;simp only[go_sem,X.next,Q5,Qae,Q1a,Ja,forall_eq,RS.op];rw[Q2t,hc,if_neg (by simp)]at hK;exact hK
 ·intro hc;have hc:=Qh8 hc;refine Qg ?_;try simp only[go_sem]
  refine Qa ?_;simp only[go_sem];refine Qk ?_;simp only[go_sem,Q5,Qae,Q1a,Ja,forall_eq,RS.op];rw[Q2t,hc,if_pos rfl]at hK;exact hK
theorem Qbdc {l:List Int}{a:Nat}(h:a<l.length):(toN l).take (a+1)=(toN l).take a++[(l.getD a 0).toNat]:=by
 have h':a<(toN l).length:=by simpa[toN]using h
 rw[Jf h'];simp[toN,Jb,h]
theorem Qs6 {l:List Int}{a:Nat}(h:a<l.length):l.getD a 0∈l:=by
 rw[Jb,Jg h];exact Jd h
theorem rIn.nat {q:CodeD}{v:Int}(h:rIn q v):v=(v.toNat:Int)∧v.toNat<q.regs.toNat:=by obtain⟨a,b⟩:=h;omega
structure CodeR (F:Heap)(X:List Nat)(bc:C)(q:CodeD):Prop where
 ow:bc.isOw=false
 s:∀H1:Heap,(∀m,F m≠.none→m∉X→H1 m=F m)→Slc H1 5 (Qn q.blocks) bc
theorem CodeR.sl (F:Heap)(X:List Nat)(fl:Bool)(q:CodeD):CodeR F X (.sl fl 5 (Qn q.blocks)) q:=⟨rfl,fun _ _=>.mk' _ _ _ _⟩
theorem CodeR.rd {F H:Heap}{X:List Nat}{bc:C}{q:CodeD}{E L:List (Nat×Obj)}(h:CodeR F X bc q)(kn:Kn F H E L)(hX:∀x∈E.map Prod.fst,x∈X):Slc H 5 (Qn q.blocks) bc:=
 h.s H fun m hm hx=>kn.chg m hm fun hh=>hx (hX m hh)
theorem CodeR.facts {F H:Heap}{X:List Nat}{bc:C}{q:CodeD}{E L:List (Nat×Obj)}(h:CodeR F X bc q)(kn:Kn F H E L)(hX:∀x∈E.map Prod.fst,x∈X) :
  okSl H bc=True∧lenC bc=q.blocks.length∧bc.elemSz=5∧rowsOf H bc=Qn q.blocks:=
 have s:=h.rd kn hX
 ⟨eq_true s.ok,by rw[s.len,Ql],s.sz,s.rows⟩
theorem CodeR.mid {F H:Heap}{bc:C}{q:CodeD}{L:List (Nat×Obj)}(h:CodeR F [] bc q)(kn:Kn F H [] L):CodeR H (L.map Prod.fst) bc q:=
 ⟨h.ow,fun H1 hh=>h.s H1 fun m hm _=>by
  have h1:=kn.chg m hm (by simp);rw[hh m (by rw[h1];exact hm) fun hx=>?_,h1];obtain⟨p,hp,he⟩:=Jk.1 hx;exact hm (he▸kn.loc p hp)⟩
theorem CodeR.nil {F:Heap}{X:List Nat}{bc:C}{q:CodeD}(h:CodeR F X bc q):CodeR F [] bc q:=⟨h.ow,fun H1 hh=>h.s H1 fun m hm _=>hh m hm (by simp)⟩
theorem CodeR.vsl {F:Heap}{X:List Nat}{q:CodeD}{z:Nat}(hz:F z=.vec 5 (Qn q.blocks))(hX:z∉X):CodeR F X (.vsl z 5 0 q.blocks.length) q:=
 ⟨rfl,fun H1 hh=>by
  have h1:H1 z=.vec 5 (Qn q.blocks):=by rw[hh z (by rw[hz];simp) hX,hz]
  exact⟨by simp only[okSl,h1,Ql];exact⟨trivial,by omega⟩,rfl,by simp only[rowsOf,h1,Jaz];exact Jc (by rw[Ql];exact Je _),by simp only[lenC,Ql]⟩⟩
set_option maxHeartbeats 2000000 in
theorem Qae1 {q:CodeD}{bc:C}{ic oc cb:C}{orows:List (List C)}{b:Nat}{i:Int}{bs:List Bool}{W:RS'}(ho:q.ok)(hbc:CodeR H [] bc q)(hb:b<q.blocks.length)(hi:-1≤i)(hi2:i<q.blocks[b].ins.length)
  (kn:Kn H0 H E L) (hs:Slc H 1 orows oc) (how:oc.isOw=false) (hiw:ic.isOw=false) (hbl:b<orows.length) (hrow:orows.getD b []=[cb]) (hcb:Slc H 1 (Qy bs) cb) (hcw:cb.isOw=false) (hlen:bs.length=q.regs.toNat) (hm:Mem bs W)
  (hK:∀y bs' H',bs'.length=q.regs.toNat→Mem bs' ((Q6 q).beh W b (i+1).toNat)→Kn H0 H' E (L++[(y,.vec 1 (Qy bs'))])→K (.c (.vsl y 1 0 q.regs.toNat)) H') :
  Qr prog Qc5 [.ag [.int .i64 q.params,.int .i64 q.regs,bc],.ag [ic,oc],.c (.int .i64 b),.c (.int .i64 i)] H K:=by
 have hr0:=ho.r0;have hr1:=ho.r1;obtain⟨y,hy⟩:∃y,q.blocks[b]=y:=⟨_,rfl⟩;have hyo:y.ok q b:=by rw[←hy];exact ho.bs b hb
 have hil:y.ins.length≤1200∧y.phis.length≤1200:=by rw[←hy];exact ho.il b hb
 rw[hy]at hi2;have hon:(Q6 q).on b=if y.jump=1 then []else [y.on.toNat]:=by rw[Qasa hb,hy]
 have hins:(Q6 q).ins b=y.ins.map fun x=>(Qgd x,toN x.args):=by rw[Qaeh hb,hy]
 have hok:=eq_true hs.ok;have hol:=hs.len;have hoz:=hs.sz;have hor:=hs.rows;have hok2:=eq_true hcb.ok;have hol2:=hcb.len;have hoz2:=hcb.sz;have hor2:=hcb.rows;refine Qc Qal Qa47 ?_;refine Qa ?_;have hbw:=hbc.ow;simp only[go_sem,how,hiw,hbw];refine Qa ?_;simp only[go_sem,how,hiw,hbw,hcw,hok,hol,hoz,hor,hbl,hrow,hok2,hol2,hoz2,hor2,Qab,hlen,J0,Jy,Jl];refine⟨.inl trivial,Qso _,by simp only[LIM];omega,fun y9 hy9 H1 h1=>?_⟩;have kn:=kn.al hy9 h1;simp only[go_sem,Q0a,hbw];refine Qa ?_;have hbs:=hbc.s H1 fun m hm _=>by
  have hne:m≠y9:=fun hh=>hm (by rw[hh];exact hy9);rw[h1,Heap.set_other _ _ hne]
 have hbok:=eq_true hbs.ok;have hbln:=hbs.len;have hbsz:=hbs.sz;have hbrw:=hbs.rows;simp only[go_sem,hbw,hbok,hbln,hbsz,hbrw,hb,Ql,Q1 _ _ hb,BlkD.cells,hy];intro x10 hx10 H2 h2;have kn:=kn.al hx10 h2;have hx10:=kn.l (L++[(y9,Obj.vec 1 (Qy bs))]).length (l:=x10) (o:=.st [.sl true 2 [],.sl true 4 [],.int .i64 0,.int .i64 0,.sl true 1 []]) (by simp);simp only[go_sem,Q0b,hx10];intro H3 h3;have kn:Kn H0 H3 E ((L++[(y9,.vec 1 (Qy bs))])++[(x10,blkC y)]):=by
  have:=kn.stL (L++[(y9,Obj.vec 1 (Qy bs))]).length (x:=x10) (o:=.st [.sl true 2 [],.sl true 4 [],.int .i64 0,.int .i64 0,.sl true 1 []]) (by simp) h3;simpa[blkC]using this
 have getx:∀{bs1:List Bool} {H4:Heap},Kn H0 H4 E ((L++[(y9,.vec 1 (Qy bs1))])++[(x10,blkC y)])→H4 x10=.st [.sl false 2 (Q7 y.phis),.sl false 4 (Qag y.ins),.int .i64 y.jump,.int .i64 y.on,.sl false 1 (Qb y.next)]∧H4 y9=.vec 1 (Qy bs1):=fun {bs1 H4} kn=>
  ⟨(kn.get (x10,blkC y) (by simp)).1,(kn.get (y9,.vec 1 (Qy bs1)) (by simp)).1⟩
 have putx:∀{bs1 bs2:List Bool} {H4 H5:Heap},Kn H0 H4 E ((L++[(y9,.vec 1 (Qy bs1))])++[(x10,blkC y)])→H5=H4.set y9 (.vec 1 (Qy bs2))→Kn H0 H5 E ((L++[(y9,.vec 1 (Qy bs2))])++[(x10,blkC y)]):=fun {bs1 bs2 H4 H5} kn h=>by
  have:=kn.stL L.length (x:=y9) (o:=.vec 1 (Qy bs1)) (by simp) h;simpa using this
 have htk:∀(bs1:List Bool),bs1.length=q.regs.toNat→(Qy bs1).take q.regs.toNat=Qy bs1:=fun bs1 h=>Jc (by rw[Qab];omega);refine Qaa ?_;refine Qa ?_;obtain⟨hx10,hy9⟩:=getx kn;simp only[go_sem,hx10];refine Qd3 (fun e2 H4=>∃(bs1:List Bool),bs1.length=q.regs.toNat∧Mem bs1 ((Q6 q).endS W b)∧Kn H0 H4 E ((L++[(y9,.vec 1 (Qy bs1))])++[(x10,blkC y)])∧
  lk 3 e2=.c (.int .i64 i)∧lk 9 e2=.c (.vsl y9 1 0 q.regs.toNat)∧lk 10 e2=.c (.ptr x10 0)) ?_ ?_
 ·intro Q hnr _ _;refine Qd rfl ?_ ?_
  ·intro hc;have hj:¬y.jump=1:=by simpa using hc
   obtain⟨hv,hvl⟩:=(hyo.on hj).nat;have hvl':y.on.toNat<bs.length:=by omega
   generalize hr:y.on.toNat=r at *;refine Qt ?_;simp only[go_sem,hx10,hy9,hv,hvl,htk _ hlen,Qab,hlen,Qf6,Qax _ _ hvl',Jl,Je];intro H4 h4;refine hnr _ _ ⟨_,by rw[Jp];exact hlen,?_,putx kn h4,rfl,rfl,rfl⟩;refine (hm.ins (by omega)).congr fun z=>?_;rw[Flo.endS,hon,if_neg hj];simp[or_comm]
  ·intro hc;have hj:y.jump=1:=by simpa using hc
   refine Qg ?_;try simp only[go_sem]
   refine hnr _ _ ⟨bs,hlen,?_,kn,rfl,rfl,rfl⟩;refine hm.congr fun z=>?_;rw[Flo.endS,hon,if_pos hj];simp
 ·rintro e2 H4 ⟨bs1,hlen,hm,kn,l3,l9,l10⟩;obtain⟨hx10,hy9⟩:=getx kn;refine Qaa ?_;refine Qa ?_;simp only[go_sem,l3,l9,l10,hx10,Q4];intro _;refine⟨Qs (by omega) (by omega),?_⟩;refine Qh (Qe (Qx (fun m e1 H1=>∃(k:Nat) (j:Int) (bs1:List Bool),m=k∧k≤y.ins.length∧i+1≤k∧j=(k:Int)-1∧bs1.length=q.regs.toNat∧Mem bs1 ((Q6 q).beh W b k)∧Kn H0 H1 E ((L++[(y9,.vec 1 (Qy bs1))])++[(x10,blkC y)])∧
   e1=[(3,.c (.int .i64 i)),(9,.c (.vsl y9 1 0 q.regs.toNat)),(10,.c (.ptr x10 0)),(11,.c (.int .i64 j))]) y.ins.length ?_ ?_))
  ·refine⟨y.ins.length,_,bs1,rfl,Je _,by omega,rfl,hlen,hm.congr fun z=>?_,kn,rfl⟩;rw[Flo.beh_end _ _ _ (by rw[hins,Jm];exact Je _)]
  ·rintro m e1 H5 ⟨k,j,bs1,rfl,hk,hik,hjk,hlen,hm,kn,rfl⟩;obtain⟨hx10,hy9⟩:=getx kn;refine Qaa ?_;refine Qa ?_;simp only[go_sem];refine Qh (Qd rfl ?_ ?_)
   ·intro hc;have hgt:i<j:=(by simpa using hc);obtain⟨k,rfl⟩:∃k',m=k'+1:=⟨m-1,by omega⟩;have hj:j=(k:Int):=(by omega);subst hj;have hkl:k<y.ins.length:=(by omega);obtain⟨x,hx⟩:∃x,y.ins[k]=x:=⟨_,rfl⟩;have hxm:x∈y.ins:=(by rw[←hx];exact Jd hkl);have hstep:(Q6 q).beh W b k=Qaso (Qgd x,toN x.args) ((Q6 q).beh W b (k+1)):=by
     rw[Flo.beh_step _ _ _ (by rw[hins,Jm];exact hkl)];simp only[hins,Ja8,hx]
    refine Qg ?_;try simp only[go_sem]
    refine Qd3 (fun e2 H6=>∃(bs2:List Bool),bs2.length=q.regs.toNat∧Mem bs2 ((Q6 q).beh W b k)∧Kn H0 H6 E ((L++[(y9,.vec 1 (Qy bs2))])++[(x10,blkC y)])∧
     lk 3 e2=.c (.int .i64 i)∧lk 9 e2=.c (.vsl y9 1 0 q.regs.toNat)∧lk 10 e2=.c (.ptr x10 0)∧lk 11 e2=.c (.int .i64 k)) ?_ ?_
    ·intro Q hnr _ _;refine Qe ?_;refine Qa ?_;simp only[go_sem,hx10,hkl,Q4,Qbd _ _ hkl,InsD.take4,InsD.allOw,InsD.len4,hx];refine Qbhd ?_;simp only[go_sem,Q0c];refine Qaa ?_;refine Qa ?_;simp only[go_sem];refine Qd3 (fun e2 H6=>∃(bs2:List Bool),bs2.length=q.regs.toNat∧Mem bs2 (fun r=>(Q6 q).beh W b (k+1) r∧Qgd x≠some r)∧Kn H0 H6 E ((L++[(y9,.vec 1 (Qy bs2))])++[(x10,blkC y)])∧
      lk 3 e2=.c (.int .i64 i)∧lk 9 e2=.c (.vsl y9 1 0 q.regs.toNat)∧lk 10 e2=.c (.ptr x10 0)∧lk 11 e2=.c (.int .i64 k)) ?_ ?_
     ·intro Q hnr _ _;refine Qd rfl ?_ ?_
      ·intro hc2;have hmk:Qb9 x.op=true:=by
        cases hmk:Qb9 x.op with
        |true=>rfl
        |false=>simp[Q2t,hmk]at hc2
       obtain⟨hv,hvl⟩:=(hyo.to x hxm hmk).nat;have hvl':x.to.toNat<bs1.length:=(by omega);have hmi:Q2t x=x.to:=(by rw[Q2t,hmk];rfl);have hmo:Qgd x=some x.to.toNat:=(by rw[Qgd,hmk];rfl);rw[hmi];rw[hmo]at hnr;generalize hr:x.to.toNat=r at *;refine Qt ?_;simp only[go_sem,hx10,hy9,hv,hvl,htk _ hlen,Qab,hlen,Qf6,Qax _ _ hvl',Jl,Je];intro H6 h6;refine hnr _ _ ⟨_,by rw[Jp];exact hlen,?_,putx kn h6,rfl,rfl,rfl,rfl⟩;refine (hm.del (by omega)).congr fun z=>?_;simp[eq_comm]
      ·intro hc2;have hmk:Qb9 x.op=false:=by
        cases hmk:Qb9 x.op with
        |false=>rfl
        |true=>
         have:=(hyo.to x hxm hmk).1;simp[Q2t,hmk]at hc2;omega
       have hmo:Qgd x=none:=(by rw[Qgd,hmk];rfl);rw[hmo]at hnr;refine Qg ?_;try simp only[go_sem]
       exact hnr _ _ ⟨bs1,hlen,hm.congr fun z=>by simp,kn,rfl,rfl,rfl,rfl⟩
     ·rintro e2 H6 ⟨bs2,hlen,hm,kn,l3,l9,l10,l11⟩;refine Qa ?_;simp only[go_sem,l3,l9,l10,l11];refine Qe (Qx (fun m e1 H1=>∃(a:Nat) (bs2:List Bool),m=x.args.length-a∧a≤x.args.length∧bs2.length=q.regs.toNat∧Mem bs2 (fun r=>r∈(toN x.args).take a∨((Q6 q).beh W b (k+1) r∧Qgd x≠some r))∧Kn H0 H1 E ((L++[(y9,.vec 1 (Qy bs2))])++[(x10,blkC y)])∧
       e1=[(3,.c (.int .i64 i)),(9,.c (.vsl y9 1 0 q.regs.toNat)),(10,.c (.ptr x10 0)),(11,.c (.int .i64 k)),(13,.c (.int .i64 a))]) x.args.length ?_ ?_)
      ·exact⟨0,bs2,by omega,by omega,hlen,hm.congr fun z=>by simp,kn,rfl⟩
      ·rintro m2 e1 H7 ⟨a,bs2,hm2,ha,hlen,hm,kn,rfl⟩;obtain⟨hx10,hy9⟩:=getx kn;refine Qaa ?_;refine Qa ?_;simp only[go_sem,hx10,hkl,Q4,Qbd _ _ hkl,InsD.cells,hx,Qf];intro hal;simp only[LIM]at hal;refine Qh (Qd rfl ?_ ?_)
       ·intro hc2;have hlt:a<x.args.length:=(by simpa using hc2);obtain⟨hv,hvl⟩:=(hyo.args x hxm _ (Qs6 hlt)).nat;have htk2:=Qbdc hlt;have hvl':(x.args.getD a 0).toNat<bs2.length:=(by omega);generalize hr:(x.args.getD a 0).toNat=r at *;refine Qg ?_;try simp only[go_sem]
        refine Qh (Qe ?_);refine Qt ?_;simp only[go_sem,hx10,hy9,hkl,Q4,Qbd _ _ hkl,InsD.cells,hx,hlt,Qf,Qu _ _ hlt,hv,hvl,htk _ hlen,Qab,hlen,Qf6,Qax _ _ hvl',Jl,Je];intro H8 h8;refine Qt ?_;simp only[go_sem,X.next];refine⟨Qs (by omega) (by omega),x.args.length-(a+1),by omega,a+1,_,rfl,by omega,by rw[Jp];exact hlen,?_,putx kn h8,rfl⟩;refine (hm.ins (by omega)).congr fun z=>?_;rw[htk2];simp only[Jh,Ja];constructor
        ·rintro (h|h|h)
         ·exact .inl (.inr h)
         ·exact .inl (.inl h)
         ·exact .inr h
        ·rintro ((h|h)|h)
         ·exact .inr (.inl h)
         ·exact .inl h
         ·exact .inr (.inr h)
       ·intro hc2;have hge:x.args.length≤a:=(by simpa using hc2);refine Qw ?_;simp only[go_sem,X.next];refine hnr _ _ ⟨bs2,hlen,hm.congr fun z=>?_,kn,rfl,rfl,rfl,rfl⟩;rw[hstep,Jc (by simpa[toN]using hge)];rfl
    ·rintro e2 H6 ⟨bs2,hlen,hm,kn,l3,l9,l10,l11⟩;refine Qt ?_;simp only[go_sem,X.next,l3,l9,l10,l11];exact⟨Qs (by omega) (by omega),k,by omega,k,(k:Int)-1,bs2,rfl,by omega,by omega,rfl,hlen,hm,kn,rfl⟩
   ·intro hc;have hle:¬i<j:=(by simpa using hc);refine Qw ?_;simp only[go_sem,X.next];refine Qa ?_;simp only[go_sem];refine Qk ?_;simp only[go_sem,Q5,Qae,Qafs,Ja,forall_eq,RS.op];have e1:(i+1).toNat=m:=(by omega);exact hK y9 bs1 H5 hlen (by rw[e1];exact hm) kn.drop
theorem Q00 {q:CodeD}{fl:Bool}{ic oc cb:C}{orows:List (List C)}{b:Nat}{i:Int}{bs:List Bool}{W:RS'}(ho:q.ok)(hb:b<q.blocks.length)(hi:-1≤i)(hi2:i<q.blocks[b].ins.length)
  (kn:Kn H0 H E L) (hs:Slc H 1 orows oc) (how:oc.isOw=false) (hiw:ic.isOw=false) (hbl:b<orows.length) (hrow:orows.getD b []=[cb]) (hcb:Slc H 1 (Qy bs) cb) (hcw:cb.isOw=false) (hlen:bs.length=q.regs.toNat) (hm:Mem bs W)
  (hK:∀y bs' H',bs'.length=q.regs.toNat→Mem bs' ((Q6 q).beh W b (i+1).toNat)→Kn H0 H' E (L++[(y,.vec 1 (Qy bs'))])→K (.c (.vsl y 1 0 q.regs.toNat)) H') :
  Qr prog Qc5 [.ag [.int .i64 q.params,.int .i64 q.regs,.sl fl 5 (Qn q.blocks)],.ag [ic,oc],.c (.int .i64 b),.c (.int .i64 i)] H K:=
 Qae1 ho (.sl _ _ _ _) hb hi hi2 kn hs how hiw hbl hrow hcb hcw hlen hm hK
end Go.AE.Y
namespace Go.AE.Y
open Go.Proofs.Tryz
variable {H H0:Heap}{K:V→Heap→Prop}
theorem Qlz (n:Nat):List.replicate n [C.bool false]=Qy (List.replicate n false):=by simp[Qy]
theorem Q5w (a b:List Nat):Qbq (a++b)=Qbq a++Qbq b:=by simp[Qbq,Qb]
end Go.AE.Y
namespace Go.AE
variable {H0 F H:Heap}{E E0 E' L L1 L2 M:List (Nat×Obj)}
theorem Kn.startE (h:∀p∈E,H p.1=p.2∧p.2≠.none)(hd:(E.map Prod.fst).Nodup):Kn H H E []:=
 ⟨by simpa using h,fun p hp=>by rw[(h p hp).1];exact (h p hp).2,by simp,hd,by simp,fun _ _ _=>rfl⟩
theorem Kn.mid (k:Kn H0 F E0 (L1++L2)):Kn F F L1 []:=
 .startE (fun p hp=>k.get p (Jj _ (Ji _ hp))) (by
  have:=k.dL;rw[Jw]at this;exact (J3.1 this).1)
theorem Kn.comp (k1:Kn H0 F E0 (L1++L2))(k2:Kn F H E' M)(hE:E'.map Prod.fst=L1.map Prod.fst):Kn H0 H E0 ((E'++L2)++M):=by
 have hd:=k1.dL;rw[Jw]at hd;obtain⟨d1,d2,d3⟩:=J3.1 hd;have hE0:∀p∈E0,F p.1=p.2∧p.2≠.none:=fun p hp=>k1.get p (Ji _ hp);have hL2:∀p∈L2,F p.1=p.2∧p.2≠.none:=fun p hp=>k1.get p (Jj _ (Jj _ hp));have inL1:∀p∈E',∃q∈L1,q.1=p.1:=fun p hp=>by
  have:=Qa6 hp;rw[hE]at this;obtain⟨q,h1,h2⟩:=Jk.1 this;exact⟨q,h1,h2⟩
 have keep:∀m,F m≠.none→m∉L1.map Prod.fst→H m=F m:=fun m h1 h2=>k2.chg m h1 (by rw[hE];exact h2);have hE0L:∀p∈E0,∀q∈L1,p.1≠q.1:=fun p hp q hq hh=>k1.ext p hp (hh▸k1.loc q (Ji _ hq));refine⟨fun p hp=>?_,k1.ext,fun p hp=>?_,k1.dE,?_,fun m hm hn=>?_⟩
 ·rcases Jh.1 hp with hp|hp
  ·obtain⟨h1,h2⟩:=hE0 p hp;refine⟨?_,h2⟩;rw[keep p.1 (by rw[h1];exact h2) (fun hh=>?_),h1];obtain⟨q,hq,hqq⟩:=Jk.1 hh;exact hE0L p hp q hq hqq.symm
  ·rcases Jh.1 hp with hp|hp
   ·rcases Jh.1 hp with hp|hp
    ·exact k2.get p (Ji _ hp)
    ·obtain⟨h1,h2⟩:=hL2 p hp;refine⟨?_,h2⟩;rw[keep p.1 (by rw[h1];exact h2) (fun hh=>?_),h1];exact d3 _ hh _ (Qa6 hp) rfl
   ·exact k2.get p (Jj _ hp)
 ·rcases Jh.1 hp with hp|hp
  ·rcases Jh.1 hp with hp|hp
   ·obtain⟨q,hq,hh⟩:=inL1 p hp;rw[←hh];exact k1.loc q (Ji _ hq)
   ·exact k1.loc p (Jj _ hp)
  ·have h1:=k2.loc p hp
   cases h0:H0 p.1 with
   |none=>rfl
   |_=>
    by_cases hx:p.1∈E0.map Prod.fst
    ·obtain⟨q,hq,hh⟩:=Jk.1 hx;obtain⟨a1,a2⟩:=hE0 q hq;rw[hh,h1]at a1;exact absurd a1.symm a2
    ·have:=k1.chg p.1 (by rw[h0];simp) hx;rw[h1,h0]at this;simp at this
 ·rw[Jw,Jw];refine J3.2 ⟨J3.2 ⟨k2.dE,d2,fun a ha b hb=>?_⟩,k2.dL,fun a ha b hb hab=>?_⟩
  ·rw[hE]at ha;exact d3 a ha b hb
  ·obtain⟨q,hq,rfl⟩:=Jk.1 hb;have hf:=k2.loc q hq;rcases Jh.1 ha with ha|ha
   ·obtain⟨r,hr,rfl⟩:=Jk.1 ha;exact k2.ext r hr (hab▸hf)
   ·obtain⟨r,hr,rfl⟩:=Jk.1 ha;obtain⟨a1,a2⟩:=hL2 r hr;rw[hab,hf]at a1;exact a2 a1.symm
 ·rw[keep m (by rw[k1.chg m hm hn];exact hm) (fun hh=>?_),k1.chg m hm hn];obtain⟨q,hq,rfl⟩:=Jk.1 hh;exact hm (k1.loc q (Ji _ hq))
theorem Kn.upd (k:Kn H0 H E L):Upd H0 H E:=⟨fun p hp=>(k.get p (Ji _ hp)).1,fun m hm hn=>k.chg m hm hn⟩
theorem Y.FrzL.ptr {S:Nat→Bool}{l:Nat}{cells cells':List C}(hS:S l=true)(hH:H l=.st cells)(h:FrzL H S cells cells'):FrzC H S (.ptr l 0) (.pp cells'):=by
 obtain⟨h1,h2⟩:=h.spec;exact .ptr l 0 cells cells cells' hS hH rfl h1 h2
theorem Kn.growR {B Lg:List (Nat×Obj)}{K:V→Heap→Prop}{sz:Nat}{rows new:List (List C)}{b c:C}(kn:Kn H0 H E (B++Lg))(hc:Gr Lg sz rows c)(hb:Slc H sz new b)
  (h1:∀r∈new,noOw r=true) (h2:rows.length+new.length≤LIM)
  (h:∀t Lg' H',Gr Lg' sz (rows++new) t→t.isOw=false→Kn H0 H' E (B++Lg')→K (.c t) H'):appQ H sz c b K:=
 kn.grow hc hb h1 h2 fun y' H' k=>h _ _ H' (.mk y' sz _ (by simp)) rfl k
end Go.AE
namespace Go.AE.Y
open Go.Proofs.Tryz
variable {H H0:Heap}{K:V→Heap→Prop}
theorem Qbi1 {c:C}{ns:List Int}{v:Int}(hs:Slc H 1 (Qb ns) c)(how:c.isOw=false)(hK:∀r,IsIx ns v r→K (.c (.int .i64 r)) H) :
  Qr prog Qadt [.c c,.c (.int .i64 v)] H K:=by
 refine Qc Qal Qbt4 ?_;have hok:=eq_true hs.ok;have hlen:=hs.len;have hsz:=hs.sz;have hrw:=hs.rows;refine Qa ?_;simp only[go_sem,how];refine Qaa ?_;refine Qa ?_;simp only[go_sem,how];refine Qh (Qe (Qx (fun m e1 H1=>∃(i:Nat),m=ns.length-i∧i≤ns.length∧H1=H∧v∉ns.take i∧e1=[(0,.c c),(1,.c (.int .i64 v)),(5,.c (.int .i64 i))]) ns.length ?_ ?_))
 ·exact⟨0,by omega,by omega,rfl,by simp,rfl⟩
 ·rintro m e1 H1 ⟨i,hm,hi,rfl,hno,rfl⟩;refine Qaa ?_;refine Qa ?_;simp only[go_sem,how,hok,hlen,Qf];intro hl;simp only[LIM]at hl;refine Qh (Qd rfl ?_ ?_)
  ·intro hc;have hlt:i<ns.length:=by simpa using hc
   have hgd:ns.getD i 0=ns[i]:=by simp[Jb,hlt]
   refine Qg ?_;simp only[go_sem];refine Qh (Qe ?_);refine Qa ?_;simp only[go_sem,how,hok,hlen,hsz,hrw,hlt,Qf,Qu _ _ hlt];refine Qd rfl ?_ ?_
   ·intro hc2;have hv:ns.getD i 0=v:=(by simpa using hc2);refine Qa ?_;simp only[go_sem];refine Qk ?_;simp only[go_sem,X.next,Q5,Qae,Qa5m,Ja,forall_eq,RS.op];exact hK _ (.inr ⟨i,rfl,hlt,hv,hno⟩)
   ·intro hc2;have hv:¬ns.getD i 0=v:=(by simpa using hc2);refine Qg ?_;simp only[go_sem];refine Qt ?_;simp only[go_sem,how,X.next];refine⟨Qs (by omega) (by omega),ns.length-(i+1),by omega,i+1,rfl,by omega,?_,rfl⟩;rw[Jf hlt];simp only[Jh,Ja,not_or];exact⟨hno,fun h=>hv (by rw[hgd];exact h.symm)⟩
  ·intro hc;have hge:ns.length≤i:=by simpa using hc
   rw[Jc hge]at hno;refine Qw ?_;simp only[go_sem,X.next];refine Qa ?_;simp only[go_sem];refine Qk ?_;simp only[go_sem,Q5,Qae,Qa5m,Ja,forall_eq,RS.op];exact hK _ (.inl ⟨rfl,hno⟩)
theorem Qbva {c:C}{ns:List Int}{v:Int}(hs:Slc H 1 (Qb ns) c)(how:c.isOw=false)(hK:K (.c (.bool (ns.contains v))) H) :
  Qr prog Q0z [.c c,.c (.int .i64 v)] H K:=by
 refine Qc Qal Qber ?_;have hok:=eq_true hs.ok;have hlen:=hs.len;have hsz:=hs.sz;have hrw:=hs.rows;refine Qa ?_;simp only[go_sem,how];refine Qaa ?_;refine Qa ?_;simp only[go_sem,how,hok,hlen,Qf];intro hl;simp only[LIM]at hl;refine Qh (Qe (Qx (fun m e1 H1=>∃(i:Nat),m=ns.length-i∧i≤ns.length∧H1=H∧v∉ns.take i∧e1=[(1,.c (.int .i64 v)),(7,.c c),(8,.c (.int .i64 ns.length)),(9,.c (.int .i64 i))]) ns.length ?_ ?_))
 ·exact⟨0,by omega,by omega,rfl,by simp,rfl⟩
 ·rintro m e1 H1 ⟨i,hm,hi,rfl,hno,rfl⟩;refine Qa ?_;simp only[go_sem,how];refine Qh (Qd rfl ?_ ?_)
  ·intro hc;have hlt:i<ns.length:=by simpa using hc
   have hgd:ns.getD i 0=ns[i]:=by simp[Jb,hlt]
   refine Qg ?_;simp only[go_sem];refine Qh (Qe ?_);refine Qa ?_;simp only[go_sem,how,hok,hlen,hsz,hrw,hlt,Qf,Qu _ _ hlt];refine Qa ?_;simp only[go_sem,how];refine Qd rfl ?_ ?_
   ·intro hc2;have hv:ns.getD i 0=v:=(by simpa using hc2);refine Qa ?_;simp only[go_sem];refine Qk ?_;simp only[go_sem,X.next,Q5,Qae,Q51,Ja,forall_eq,RS.op];have:ns.contains v=true:=J1.2 (by rw[←hv,hgd];exact Jd hlt);rw[this]at hK;exact hK
   ·intro hc2;have hv:¬ns.getD i 0=v:=(by simpa using hc2);refine Qg ?_;simp only[go_sem];refine Qt ?_;simp only[go_sem,how,X.next];refine⟨Qs (by omega) (by omega),ns.length-(i+1),by omega,i+1,rfl,by omega,?_,rfl⟩;rw[Jf hlt];simp only[Jh,Ja,not_or];exact⟨hno,fun h=>hv (by rw[hgd];exact h.symm)⟩
  ·intro hc;have hge:ns.length≤i:=by simpa using hc
   rw[Jc hge]at hno;refine Qw ?_;simp only[go_sem,X.next];refine Qa ?_;simp only[go_sem];refine Qk ?_;simp only[go_sem,Q5,Qae,Q51,Ja,forall_eq,RS.op];have:ns.contains v=false:=by
    cases hcc:ns.contains v with
    |false=>rfl
    |true=>exact absurd (J1.1 hcc) hno
   rw[this]at hK;exact hK
theorem Qbdg {a b:C}{ns ms:List Int}(hs:Slc H 1 (Qb ns) a)(how:a.isOw=false)(hs2:Slc H 1 (Qb ms) b)(how2:b.isOw=false)(hK:K (.c (.bool (decide (ns=ms)))) H) :
  Qr prog Qke [.c a,.c b] H K:=by
 refine Qc Qal Qa5d ?_;have hok:=eq_true hs.ok;have hlen:=hs.len;have hsz:=hs.sz;have hrw:=hs.rows;have hok2:=eq_true hs2.ok;have hlen2:=hs2.len;have hsz2:=hs2.sz;have hrw2:=hs2.rows;refine Qa ?_;simp only[go_sem,how,how2];refine Qaa ?_;refine Qa ?_;simp only[go_sem,how,how2,hok,hlen,hok2,hlen2,Qf];intro hl hl2;simp only[LIM]at hl hl2;have hmn:(if (ms.length:Int)<ns.length then (ms.length:Int)else ns.length)=((min ns.length ms.length:Nat):Int):=by split <;> omega
 simp only[hmn];refine Qh (Qe (Qx (fun m e1 H1=>∃(i:Nat),m=min ns.length ms.length-i∧i≤min ns.length ms.length∧H1=H∧ns.take i=ms.take i∧e1=[(0,.c a),(1,.c b),(10,.c (.int .i64 (min ns.length ms.length:Nat))),(11,.c (.int .i64 i))]) (min ns.length ms.length) ?_ ?_))
 ·exact⟨0,by omega,by omega,rfl,by simp,rfl⟩
 ·rintro m e1 H1 ⟨i,hm,hi,rfl,hsame,rfl⟩;refine Qa ?_;simp only[go_sem,how,how2];refine Qh (Qd rfl ?_ ?_)
  ·intro hc;have hlt:i<min ns.length ms.length:=by
    have:=of_decide_eq_true hc;omega
   have h1:i<ns.length:=by omega
   have h2:i<ms.length:=by omega
   have hgd:ns.getD i 0=ns[i]:=by simp[Jb,h1]
   have hgd2:ms.getD i 0=ms[i]:=by simp[Jb,h2]
   refine Qg ?_;simp only[go_sem];refine Qh (Qe ?_);refine Qa ?_;simp only[go_sem,how,how2];refine Qaj ?_;simp only[go_sem,how,how2,hok,hlen,hsz,hrw,hok2,hlen2,hsz2,hrw2,h1,h2,Qf,Qu _ _ h1,Qu _ _ h2];refine Qd rfl ?_ ?_
   ·intro hc2;refine Qa ?_;simp only[go_sem];refine Qk ?_;simp only[go_sem,X.next,Q5,Qae,Q1d,Ja,forall_eq,RS.op];have hne:ns≠ms:=by
     rintro rfl;simp at hc2
    rw[decide_eq_false hne]at hK;exact hK
   ·intro hc2;have hv:ns.getD i 0=ms.getD i 0:=(by simpa using hc2);refine Qg ?_;simp only[go_sem];refine Qt ?_;simp only[go_sem,how,how2,X.next];refine⟨Qs (by omega) (by omega),min ns.length ms.length-(i+1),by omega,i+1,rfl,by omega,?_,rfl⟩;rw[Jf h1,Jf h2,hsame,←hgd,←hgd2,hv]
  ·intro hc;have hge:min ns.length ms.length≤i:=by
    have:=of_decide_eq_false hc;omega
   refine Qw ?_;simp only[go_sem,X.next];refine Qa ?_;simp only[go_sem,how,how2,hok,hlen,hok2,hlen2,Qf];intro _ _;refine Qk ?_;simp only[go_sem,Q5,Qae,Q1d,Ja,forall_eq,RS.op];have:decide ((ns.length:Int)=ms.length)=decide (ns=ms):=by
    by_cases he:ns=ms
    ·simp[he]
    ·have:¬(ns.length:Int)=ms.length:=by
      intro hh;refine he ?_;have hh':ns.length=ms.length:=(by omega);rw[Jc (by omega),Jc (by omega)]at hsame;exact hsame
     simp[he,this]
   rw[this];exact hK
end Go.AE.Y
namespace Go.AE.Y
variable {P:Program}{H:Heap}{g:G}{w:World}
theorem Qbrs (hs:Sat H g w)(os:Array Go.Obj):∃g',Stp H g w H g' (Go.Sort.grow w os):=by
 obtain⟨l⟩:=os
 induction l generalizing g w with
 |nil=>exact⟨g,by rw[Go.Sort.grow_empty];exact .refl hs⟩
 |cons x l ih=>
  have h1:=Q7y hs x;obtain⟨g',h2⟩:=ih h1.sat;refine⟨g',?_⟩;have e:Go.Sort.grow w ⟨x::l⟩=Go.Sort.grow (w.alloc x) ⟨l⟩:=by
   rw[Go.Sort.alloc_eq_grow,Go.Sort.grow_grow];congr 1;simp
  rw[e];exact h1.trans h2
theorem Qbkj {b off:Nat}{cs:Array Value}{T:TypeId}{d:Array Int}(h:w.heap[b]? = some (.cells cs T (0,0))) :
  Go.Sort.putRow (Value.int .i64) w b off d=World.putCells w b (Go.Sort.putCells (Value.int .i64) off d cs) T:=by
 simp only[Go.Sort.putRow,Go.Sort.mapBlock,World.putCells];congr 1;apply Array.ext_getElem?;intro i;simp only[Array.getElem?_modify];by_cases hi:b=i
 ·subst hi;have hlt:b<w.heap.size:=Qj8 h;rw[if_pos rfl,h];simp[hlt,Go.Sort.onCells]
 ·rw[if_neg hi,Array.getElem?_setIfInBounds_ne hi]
theorem Qbdo {f:Nat}(hf:fnOk P f=true)
  (hc:∀(blk off cap:Nat) (zs:List Int) (w:World),Go.Sort.Holds (Value.int .i64) w blk off zs.toArray→blk<w.heap.size→zs.length<4611686018427387904→
   Calls P f #[.slice (some ⟨blk,off,none⟩) zs.length cap] w fun e w'=>
    e=.returned (.tuple #[])∧∃n os,w'=Go.Sort.grow (Go.Sort.putRow (Value.int .i64) (Go.Sort.ahead w n) blk off (zs.mergeSort fun x y=>decide (x≤y)).toArray) os)
  {z n:Nat} {ns:List Int} {K:V→Heap→Prop} (hz:H z=.vec 1 (Qb ns)) (hn:n=ns.length) (h0:0<n)
  (hK:∀H',Upd H H' [(z,.vec 1 (Qb (ns.mergeSort fun x y=>decide (x≤y))))]→K (.tup []) H'):Qr P f [.c (.vsl z 1 0 n)] H K:=by
 refine⟨hf,fun g w vs hs hl hv=>?_⟩;obtain⟨v,rfl⟩:∃v,vs=[v]:=by
  match vs,hl with
  |[v],_=>exact⟨v,rfl⟩
 have hr:=hv 0 _ v rfl rfl;have ho:=hs.objs z;rw[hz]at ho
 cases hr with
 |c _ _ hr=>
  cases hr with
  |vslnil=>omega
  |vsl l sz st n cap b base T m hio hnc hsh hm=>
   obtain⟨b',base',T',cs,val,hio',hown,hblk,hsz,hlim,hrow,hcell,hrep⟩:=SatVec.of ho hio;rw[hio]at hio';simp only[Jao,Jas,true_and]at hio';obtain⟨rfl,rfl⟩:=hio';have hlt:=Qj8 hblk;rw[Qf]at hsz hlim;have hel:∀j (hj:j<ns.length),cs[base+j]? = some (.int .i64 ns[j]):=by
    intro j hj;have h1:(Qb ns)[j]? = some [.int .i64 ns[j]]:=(by simp[Qb,hj]);have h2:=hcell j _ 0 _ h1 rfl;have h3:=hrep j _ 0 _ h1 rfl;have h4:val j 0=.int .i64 ns[j]:=by
     exact (fun vv (h:RepC w g (.int .i64 ns[j]) vv)=>by cases h;rfl:∀vv,RepC w g (.int .i64 ns[j]) vv→vv=.int .i64 ns[j]) _ (h3.toC rfl)
    simpa[h4]using h2
   have hH:Go.Sort.Holds (Value.int .i64) w b base ns.toArray:=by
    intro j hj;have hj':j<ns.length:=(by simpa using hj);refine⟨?_,?_⟩
    ·rw[Qch hblk,hel j hj'];simp[getElem!_pos,hj']
    ·simp[World.frozen?,hblk]
   subst hn;simp only[Nat.zero_mul,Jbi];refine (hc b base cap ns w hH hlt (by simp only[LIM]at hlim;omega)).mono fun e w'=>?_;rintro⟨rfl,nn,os,rfl⟩;have s1:Stp H g w H g (Go.Sort.ahead w nn):=Qa34 hs (w.drawn+nn);have hblk1:(Go.Sort.ahead w nn).heap[b]? = some (.cells cs T' (0,0)):=hblk;have hel2:∀i (c:C),((Qb (ns.mergeSort fun x y=>decide (x≤y)))[i]? = some [c])→∃x:Int,c=.int .i64 x∧(Go.Sort.putCells (Value.int .i64) base (ns.mergeSort fun x y=>decide (x≤y)).toArray cs)[base+i]? = some (.int .i64 x):=by
    intro i c hi;have hlen:(ns.mergeSort fun x y=>decide (x≤y)).length=ns.length:=List.length_mergeSort _;have hil:i<(ns.mergeSort fun x y=>decide (x≤y)).length:=by
     rcases Jbj i (ns.mergeSort fun x y=>decide (x≤y)).length with h|h
     ·exact h
     ·rw[Jr (by rw[Qf];exact h)]at hi;simp at hi
    refine⟨(ns.mergeSort fun x y=>decide (x≤y))[i],?_,?_⟩
    ·simp only[Qb,Jac,Jg hil,Jay,Jao,List.cons.injEq,and_true]at hi;exact hi.symm
    ·simp only[Go.Sort.putCells,Array.getElem?_mapIdx];rw[Array.getElem?_eq_getElem (by omega)];simp only[Jay,Jao];rw[if_pos ⟨by omega,by simp only[List.size_toArray];omega⟩];congr 1;simp[getElem!_pos];rw[Jg hil];rfl
   have s2:=Qeg s1.sat hown hblk1 (cs':=Go.Sort.putCells (Value.int .i64) base (ns.mergeSort fun x y=>decide (x≤y)).toArray cs) (by simp[Go.Sort.putCells])
    (.vec 1 (Qb (ns.mergeSort fun x y=>decide (x≤y)))) (by rw[hz];simp) (fun hle hb2=>.inr ⟨b,base,T',_,fun i _=>.int .i64 ((ns.mergeSort fun x y=>decide (x≤y)).getD i 0),hio,hown,hb2,by
      rw[Qf,List.length_mergeSort];simp[Go.Sort.putCells];omega,by rw[Qf,List.length_mergeSort];exact hlim,fun i row hi=>by
       simp only[Qb,Jac,Option.map_eq_some_iff]at hi;obtain⟨x,_,rfl⟩:=hi;rfl,fun i row j c hi hj=>by
       have hi':=hi;simp only[Qb,Jac,Option.map_eq_some_iff]at hi';obtain⟨y,hy,rfl⟩:=hi';have hj0:j=0:=by
        rcases Ja4 j with h|h
        ·exact h
        ·rw[Jr (by simp;omega)]at hj;simp at hj
       subst hj0;obtain⟨x,hx,he⟩:=hel2 i _ hi;simp only[C.int.injEq,true_and]at hx;subst hx;simp only[Nat.mul_one,Jbi];rw[he,Jb,hy];rfl,fun i row j c hi hj=>by
       have hi':=hi;simp only[Qb,Jac,Option.map_eq_some_iff]at hi';obtain⟨y,hy,rfl⟩:=hi';have hj0:j=0:=by
        rcases Ja4 j with h|h
        ·exact h
        ·rw[Jr (by simp;omega)]at hj;simp at hj
       subst hj0;simp at hj;subst hj;show RepO _ _ _ _ _ (Value.int .i64 ((ns.mergeSort fun x y=>decide (x≤y)).getD i 0));rw[Jb,hy];exact .plain _ _ _ _ (.int _ _)⟩) (by simp)
   rw[←Qbkj hblk1]at s2;obtain⟨g',s3⟩:=Qbrs s2.sat os;refine .inl ⟨.tuple #[],.tup [],_,g',rfl,hK _ ⟨by simp[Heap.set_same],fun m _ hm=>Heap.set_other _ _ (by simpa using hm)⟩,s1.trans (s2.trans s3),?_⟩;exact .tup [] [] rfl (by simp)
theorem Qbhp {f:Nat}(hf:fnOk P f=true){k:IntKind}{x r:Int}(hc:∀w,Calls P f #[.int k x] w fun e w'=>e=.returned (.int .i64 r)∧w'=w){K:V→Heap→Prop}(hK:K (.c (.int .i64 r)) H) :
  Qr P f [.c (.int k x)] H K:=by
 refine⟨hf,fun g w vs hs hl hv=>?_⟩;obtain⟨v,rfl⟩:∃v,vs=[v]:=by
  match vs,hl with
  |[v],_=>exact⟨v,rfl⟩
 have hr:=hv 0 _ v rfl rfl
 cases hr with
 |c _ _ hr=>
  cases hr;refine (hc w).mono fun e w'=>?_;rintro⟨rfl,rfl⟩;exact .inl ⟨_,_,H,g,rfl,hK,.refl hs,.c _ _ (.int _ _)⟩
end Go.AE.Y
namespace Go.AE.Y
structure Cmp (ns R:List Int)(k j:Nat):Prop where
 len:R.length=ns.length
 kj:k<j
 jn:j≤ns.length
 asc:(R.take k).Pairwise (· < ·)
 mem:∀x,x∈R.take k↔x∈ns.take j
 same:∀i,j≤i+1→R.getD i 0=ns.getD i 0
variable {ns R:List Int}{k j:Nat}
theorem take_mem {l:List Int}{j:Nat}{x:Int}:x∈l.take j↔∃i,i<j∧i<l.length∧l.getD i 0=x:=by
 constructor
 ·intro h;obtain⟨i,hi,rfl⟩:=Jah.1 h;rw[Jx]at hi;refine⟨i,by omega,by omega,?_⟩;rw[Jae,Jb,Jg (by omega)];rfl
 ·rintro⟨i,h1,h2,rfl⟩;rw[Jb,Jg h2];exact Jah.2 ⟨i,by rw[Jx];omega,by rw[Jae];rfl⟩
theorem Qgl {ns:List Int}(h:ns.Pairwise (·≤·)){a b:Nat}(hab:a≤b)(hb:b<ns.length):ns.getD a 0≤ns.getD b 0:=by
 rcases Jbj a b with h1|h1
 ·have:=J9.1 h a b (by omega) hb h1;simpa[Jb,hb,show a<ns.length by omega]using this
 ·have:a=b:=by omega
  subst this;exact Int.le_refl _
theorem Cmp.start (hs:ns.Pairwise (·≤·))(hk0:0<k)(hk:k<ns.length)(hne:∀i,0<i→i<k→ns.getD i 0≠ns.getD (i-1) 0)(he:ns.getD k 0=ns.getD (k-1) 0):Cmp ns ns k (k+1):=by
 refine⟨rfl,by omega,by omega,?_,fun x=>?_,fun i _=>rfl⟩
 ·rw[J9];intro a b ha hb hab;rw[Jx]at ha hb;rw[Jae,Jae];have h1:=Qgl hs (a:=a) (b:=b-1) (by omega) (by omega);have h2:=Qgl hs (a:=b-1) (b:=b) (by omega) (by omega);have h3:=hne b (by omega) (by omega);have e1:ns.getD a 0=ns[a]:=by simp[Jb,show a<ns.length by omega]
  have e2:ns.getD b 0=ns[b]:=by simp[Jb,show b<ns.length by omega]
  rw[e1]at h1;rw[e2]at h2 h3;omega
 ·rw[take_mem,take_mem];constructor
  ·rintro⟨i,h1,h2,h3⟩;exact⟨i,by omega,h2,h3⟩
  ·rintro⟨i,h1,h2,h3⟩;by_cases h:i<k
   ·exact⟨i,h,h2,h3⟩
   ·have:i=k:=(by omega);subst this;exact⟨i-1,by omega,by omega,by rw[←he];exact h3⟩
theorem Cmp.eq (c:Cmp ns R k j)(hj:j<ns.length)(he:ns.getD j 0=ns.getD (j-1) 0):Cmp ns R k (j+1):=by
 have:=c.kj;refine⟨c.len,by omega,by omega,c.asc,fun x=>?_,fun i hi=>c.same i (by omega)⟩;rw[c.mem,take_mem,take_mem];constructor
 ·rintro⟨i,h1,h2,h3⟩;exact⟨i,by omega,h2,h3⟩
 ·rintro⟨i,h1,h2,h3⟩;by_cases h:i<j
  ·exact⟨i,h,h2,h3⟩
  ·have:i=j:=by omega
   subst this;exact⟨i-1,by omega,by omega,by rw[←he];exact h3⟩
theorem Cmp.ne (c:Cmp ns R k j)(hs:ns.Pairwise (·≤·))(hj:j<ns.length)(he:ns.getD j 0≠ns.getD (j-1) 0):Cmp ns (R.set k (ns.getD j 0)) (k+1) (j+1):=by
 have hkj:=c.kj;have hkl:k<R.length:=by rw[c.len];omega
 have htk:(R.set k (ns.getD j 0)).take (k+1)=R.take k++[ns.getD j 0]:=by
  rw[Jf (by rw[Jp];exact hkl),Jaw];congr 1;rw[List.take_set_of_le (Je _)]
 refine⟨by rw[Jp];exact c.len,by omega,by omega,?_,fun x=>?_,fun i hi=>?_⟩
 ·rw[htk,List.pairwise_append];refine⟨c.asc,by simp,fun a ha b hb=>?_⟩;simp at hb;subst hb;obtain⟨i,h1,h2,rfl⟩:=take_mem.1 ((c.mem a).1 ha);have h3:=Qgl hs (a:=i) (b:=j-1) (by omega) (by omega);have h4:=Qgl hs (a:=j-1) (b:=j) (by omega) hj;simp only[Jb]at *;omega
 ·rw[htk,Jh,c.mem,take_mem,take_mem];simp only[Ja];constructor
  ·rintro (⟨i,h1,h2,h3⟩|rfl)
   ·exact⟨i,by omega,h2,h3⟩
   ·exact⟨j,by omega,hj,rfl⟩
  ·rintro⟨i,h1,h2,h3⟩;by_cases h:i<j
   ·exact .inl ⟨i,h,h2,h3⟩
   ·have:i=j:=(by omega);subst this;exact .inr h3.symm
 ·have:k≠i:=by omega
  rw[←c.same i (by omega)];simp[Jb,this]
theorem Qaws (hs:ns.Pairwise (·≤·))(hne:∀i,0<i→i<ns.length→ns.getD i 0≠ns.getD (i-1) 0):ns.Pairwise (· < ·):=by
 rw[J9];intro a b ha hb hab;have h1:=Qgl hs (a:=a) (b:=b-1) (by omega) (by omega);have h2:=Qgl hs (a:=b-1) (b:=b) (by omega) (by omega);have h3:=hne b (by omega) (by omega);have e1:ns.getD a 0=ns[a]:=by simp[Jb,ha]
 have e2:ns.getD b 0=ns[b]:=by simp[Jb,hb]
 rw[e1]at h1;rw[e2]at h2 h3;omega
def srt (ns:List Int):List Int:=ns.mergeSort fun x y=>decide (x≤y)
theorem Qba4 (ns:List Int):(srt ns).length=ns.length:=List.length_mergeSort _
theorem Qal8 (ns:List Int)(x:Int):x∈srt ns↔x∈ns:=(List.mergeSort_perm ns _).mem_iff
theorem Qar1 (ns:List Int):(srt ns).Pairwise (·≤·):=by
 have:=List.pairwise_mergeSort (le:=fun x y:Int=>decide (x≤y)) (by simp only[decide_eq_true_eq];omega) (by simp only[Bool.or_eq_true,decide_eq_true_eq];omega) ns;exact this.imp (by simp)
theorem Qbml {ns:List Int}(h:ns.Nodup):(srt ns).Pairwise (· < ·):=by
 have h1:=Qar1 ns;have h2:(srt ns).Nodup:=(List.mergeSort_perm ns _).nodup_iff.2 h;exact h1.imp₂ (fun a b hab hne=>by omega) h2
end Go.AE.Y
namespace Go.Proofs
open Go.Shelf
def Tryz.lays189_ren:Go.Shelf.Ren:=⟨fun|189=>118|125=>186|257=>185|128=>250|129=>251|294=>241|295=>242|296=>243|297=>244|298=>245|299=>246|216=>247|300=>248|301=>249|328=>296|329=>297|330=>298|331=>299|332=>300|215=>301|343=>318|n=>n,fun|28=>32|3=>3|46=>179|0=>0|51=>238|53=>240|4=>4|183=>232|182=>231|131=>134|5=>5|9=>9|218=>291|222=>262|228=>306|229=>257|n=>n,fun|n=>n⟩
theorem Tryz.lays189:Go.Proofs.Lays.n189 Tryz.prog Tryz.lays189_ren:={
 mixed:=by kernel_rfl
 f125:=Tryz.func186.trans (congrArg some (by kernel_rfl))
 f128:=Tryz.func250.trans (congrArg some (by kernel_rfl))
 f129:=Tryz.func251.trans (congrArg some (by kernel_rfl))
 f189:=Tryz.func118.trans (congrArg some (by kernel_rfl))
 f215:=Tryz.func301.trans (congrArg some (by kernel_rfl))
 f216:=Tryz.func247.trans (congrArg some (by kernel_rfl))
 f257:=Tryz.func185.trans (congrArg some (by kernel_rfl))
 f294:=Tryz.func241.trans (congrArg some (by kernel_rfl))
 f295:=Tryz.func242.trans (congrArg some (by kernel_rfl))
 f296:=Tryz.func243.trans (congrArg some (by kernel_rfl))
 f297:=Tryz.func244.trans (congrArg some (by kernel_rfl))
 f298:=Tryz.func245.trans (congrArg some (by kernel_rfl))
 f299:=Tryz.func246.trans (congrArg some (by kernel_rfl))
 f300:=Tryz.func248.trans (congrArg some (by kernel_rfl))
 f301:=Tryz.func249.trans (congrArg some (by kernel_rfl))
 f328:=Tryz.func296.trans (congrArg some (by kernel_rfl))
 f329:=Tryz.func297.trans (congrArg some (by kernel_rfl))
 f330:=Tryz.func298.trans (congrArg some (by kernel_rfl))
 f331:=Tryz.func299.trans (congrArg some (by kernel_rfl))
 f332:=Tryz.func300.trans (congrArg some (by kernel_rfl))
 f343:=Tryz.func318.trans (congrArg some (by kernel_rfl))
 t0:=Tryz.underlying0
 a0:=Tryz.isAgg0
 z0:=Tryz.sizeOf0
 v0:=Tryz.zeroValue0
 t3:=Tryz.underlying3
 a3:=Tryz.isAgg3
 z3:=Tryz.sizeOf3
 v3:=Tryz.zeroValue3
 t4:=Tryz.underlying4
 a4:=Tryz.isAgg4
 z4:=Tryz.sizeOf4
 v4:=Tryz.zeroValue4
 t5:=Tryz.underlying5
 a5:=Tryz.isAgg5
 z5:=Tryz.sizeOf5
 v5:=Tryz.zeroValue5
 t9:=Tryz.underlying9
 a9:=Tryz.isAgg9
 z9:=Tryz.sizeOf9
 v9:=Tryz.zeroValue9
 t28:=Tryz.underlying32
 a28:=Tryz.isAgg32
 z28:=Tryz.sizeOf32
 v28:=Tryz.zeroValue32
 t46:=Tryz.underlying179
 a46:=Tryz.isAgg179
 z46:=Tryz.sizeOf179
 v46:=Tryz.zeroValue179
 t51:=Tryz.underlying238
 a51:=Tryz.isAgg238
 z51:=Tryz.sizeOf238
 v51:=Tryz.zeroValue238
 t53:=Tryz.underlying240
 a53:=Tryz.isAgg240
 z53:=Tryz.sizeOf240
 v53:=Tryz.zeroValue240
 t131:=Tryz.underlying134
 a131:=Tryz.isAgg134
 z131:=Tryz.sizeOf134
 v131:=Tryz.zeroValue134
 t182:=Tryz.underlying231
 a182:=Tryz.isAgg231
 z182:=Tryz.sizeOf231
 v182:=Tryz.zeroValue231
 t183:=Tryz.underlying232
 a183:=Tryz.isAgg232
 z183:=Tryz.sizeOf232
 v183:=Tryz.zeroValue232
 t218:=Tryz.underlying291
 a218:=Tryz.isAgg291
 z218:=Tryz.sizeOf291
 v218:=Tryz.zeroValue291
 t222:=Tryz.underlying262
 a222:=Tryz.isAgg262
 z222:=Tryz.sizeOf262
 v222:=Tryz.zeroValue262
 t228:=Tryz.underlying306
 a228:=Tryz.isAgg306
 z228:=Tryz.sizeOf306
 v228:=Tryz.zeroValue306
 t229:=Tryz.underlying257
 a229:=Tryz.isAgg257
 z229:=Tryz.sizeOf257
 v229:=Tryz.zeroValue257 }
end Go.Proofs
namespace Go.AE.Y
open Go.Proofs.Tryz
variable {H H0:Heap}{K:V→Heap→Prop}{E B Lg:List (Nat×Obj)}
theorem Qbht {x:Int}(h0:0≤x)(h1:x≤18446744073709551615)(hK:∀n:Int,K (.c (.int .i64 n)) H):Qr prog Qaei [.c (.int .u64 x)] H K:=
 Qbhp (by kernel_rfl) (fun w=>calls_of_every_depth fun D=>Go.Proofs.AnyS.bits_LenIn (ρ:=lays189_ren) { lays189 with } D x w h0 h1) (hK _)
theorem Qbv3 {c:C}(how:c.isOw=false)(hK:K (.tup []) H):Qr prog Qb0 [.c c,.c (.int .i64 0),.c (.int .i64 0)] H K:=by
 refine Qc Qal Qlg ?_;refine Qa ?_;simp only[go_sem,how];refine⟨Qs (by omega) (by omega),?_⟩;refine Qe (Qx (fun m e1 H1=>H1=H∧e1=[(0,.c c),(1,.c (.int .i64 0)),(2,.c (.int .i64 0)),(6,.c (.int .i64 1))]) 0 ⟨rfl,rfl⟩ ?_);rintro m e1 H1 ⟨rfl,rfl⟩;refine Qaa ?_;refine Qa ?_;simp only[go_sem,how];refine Qh (Qd rfl (fun h=>by simp at h) fun _=>?_);refine Qw ?_;simp only[go_sem,X.next,Q5,Qae,Qdu,Jau];exact⟨fun _=>trivial,hK⟩
theorem Qbwj {c:C}{l:Int}(how:c.isOw=false)(hK:K (.tup []) H):Qr prog Qbo [.c c,.c (.int .i64 0),.c (.int .i64 0),.c (.int .i64 l)] H K:=by
 refine Qc Qal Q05 ?_;refine Qa ?_;simp only[go_sem,how];refine Qa ?_;simp only[go_sem,how];refine Qe (Qx (fun m e1 H1=>H1=H∧e1=[(0,.c c),(1,.c (.int .i64 0)),(2,.c (.int .i64 0)),(3,.c (.int .i64 l)),(8,.c (.bool true)),(9,.c (.bool true))]) 0 ⟨rfl,rfl⟩ ?_);rintro m e1 H1 ⟨rfl,rfl⟩;refine Qe ?_;refine Qa ?_;simp only[go_sem,how];refine⟨Qs (by omega) (by omega),?_⟩;refine Qaa ?_;refine Qa ?_;simp only[go_sem,how];refine Qh (Qd rfl (fun _=>?_) (fun h=>by simp at h));refine Qa ?_;simp only[go_sem,how];refine Qbv3 how ?_;simp only[Qal9];refine Qk ?_;simp only[go_sem,X.next,Q5,Qae,Qjc,Jau];exact⟨fun _=>trivial,hK⟩
theorem Qbsg {c:C}(hok:okSl H c)(hl:lenC c=0)(how:c.isOw=false)(hK:K (.tup []) H):Qr prog Ql8 [.c c] H K:=by
 have hok:=eq_true hok;refine Qc Qal Qbj6 ?_;refine Qa ?_;simp only[go_sem,how,hok,hl];have e0:((0:Nat):Int)=0:=rfl;refine Qt ?_;simp only[go_sem,how,e0];refine⟨⟨by decide,by decide⟩,?_⟩;refine Qbht (by omega) (by omega) fun n=>?_;simp only[go_sem,how,Qaa4];refine Qbwj how ?_;simp only[go_sem,Q5,Qae,Qayk,Jau];exact⟨fun _=>trivial,hK⟩
theorem Qbr1 {c:C}{ns:List Int}(kn:Kn H0 H E (B++Lg))(hgr:Gr Lg 1 (Qb ns) c)
  (hK:∀Lg' H',Gr Lg' 1 (Qb (srt ns)) c→Kn H0 H' E (B++Lg')→K (.tup []) H'):Qr prog Ql8 [.c c] H K:=by
 by_cases h0:ns=[]
 ·subst h0;refine Qbsg (hgr.okSl kn) (by rw[hgr.lenC];rfl) hgr.isOw (hK Lg H ?_ kn);have:srt []=[]:=by simp[srt]
  rw[this];exact hgr
 ·rcases hgr with ⟨_,h,_⟩|⟨y,rfl,rfl⟩
  ·cases ns with
   |nil=>exact absurd rfl h0
   |cons a b=>simp[Qb]at h
  ·have hy:=kn.l B.length (l:=y) (o:=.vec 1 (Qb ns)) (by simp);have hpos:0<ns.length:=List.length_pos_iff.2 h0;refine Qbdo (by kernel_rfl) (fun blk off cap zs w h1 h2 h3=>Go.Proofs.Any.slices_Sort_int lays189 blk off cap zs w h1 h2 h3) hy (by rw[Qf]) (by rw[Qf];exact hpos) fun H' hu=>?_;refine hK [(y,.vec 1 (Qb (srt ns)))] H' (.inr ⟨y,by rw[Qf,Qf,Qba4],rfl⟩) ?_;have:=kn.callL B.length (l:=y) (o:=.vec 1 (Qb ns)) (by simp) hu (by simp);simpa[srt]using this
def Qas (ks:List Nat):List (C×V):=ks.map fun k:Nat=>(.int .i64 (k:Int),.c (.bool true))
theorem Qi4 (ks:List Nat):(Qas ks).length=ks.length:=by simp[Qas]
theorem Qc9 (ks:List Nat)(n:Int):Qtd 0 (.int .i64 n) (Qas ks)=True:=by
 refine eq_true ?_;simp only[Qtd,Qas,Jk];rintro e ⟨k,_,rfl⟩;exact⟨k,rfl⟩
theorem Qaeg (ks:List Nat)(b:Nat):(Qq5 (.int .i64 (b:Int)) (Qas ks)).getD (.c (.bool false))=.c (.bool (decide (b∈ks))):=by
 induction ks with
 |nil=>simp[Qas,Qq5]
 |cons k ks ih=>
  simp only[Qas,Jo,Qq5,Qev]at ih⊢;by_cases h:b=k
  ·subst h;simp
  ·have:¬(b:Int)=(k:Int):=by omega
   simp only[this,decide_false,Jab,if_false];rw[ih];simp[h]
theorem Qbhg (ks:List Nat)(b:Nat)(h:b∉ks):updE (.int .i64 (b:Int)) (.c (.bool true)) (Qas ks)=Qas (ks++[b]):=by
 induction ks with
 |nil=>simp[Qas,updE]
 |cons k ks ih=>
  simp only[J6,not_or]at h;have hk:¬(b:Int)=(k:Int):=by omega
  have ih:=ih h.2;simp only[Qas,Jo,updE,Qev,hk,decide_false,Jab,if_false,Jz]at ih⊢;rw[ih]
theorem Qn7 {ks:List Nat}(h:ks.Nodup):(Qas ks).Nodup:=by
 rw[Qas,List.Nodup,Jan];refine List.Pairwise.imp (fun {a b} hab he=>?_) h;simp only[Jas,C.int.injEq,true_and,and_true]at he;exact hab (by omega)
set_option maxHeartbeats 1000000 in
theorem Qawh {M ver:Nat}{ks:List Nat}(hM:H M=.map ver (Qas ks))(hnd:ks.Nodup)(hl:ks.length≤LIM)
  (hK:∀l H',Upd H H' []→l.Pairwise (· < ·)→(∀x,x∈l↔x∈ks)→K (.c (.sl false 1 (Qbq l))) H') :
  Qr prog Qc4 [.c (.mp M)] H K:=by
 refine Q3 ?_;refine Qc Qal Qyc ?_;have hMn:H M≠.none:=by rw[hM];simp
 have kn0:=Kn.start1 hM (by simp);refine Qa ?_;simp only[go_sem];refine Qa ?_;simp only[go_sem];refine Qaa ?_;refine Qa ?_;simp only[go_sem,hM];refine⟨Qn7 hnd,fun it hit H1 h1=>?_⟩;have kn:=kn0.al hit h1;refine Qh (Qe (Qx (fun m e1 H1=>∃(left:List (C×V)) (cur:Option (C×V)) (os:List Nat) (c:C) (Lg:List (Nat×Obj)),m=left.length∧os.Nodup∧(∀x,x∈os→x∈ks)∧(∀x∈ks,x∈os∨(C.int .i64 (x:Int),V.c (.bool true))∈left)∧
  (∀y∈left,∃x∈ks,x∉os∧y=(C.int .i64 (x:Int),V.c (.bool true)))∧left.Nodup∧os.length+left.length=ks.length∧
  Gr Lg 1 (Qbq os) c∧Kn H H1 [(M,.map ver (Qas ks))] ([(it,.iter (some (M,ver)) left cur)]++Lg)∧e1=[(3,.c c),(6,.c (.itr it))]) (Qas ks).length ?_ ?_))
 ·refine⟨Qas ks,none,[],_,[],rfl,by simp,by simp,fun x hx=>.inr ?_,fun y hy=>?_,Qn7 hnd,by simp[Qas],.nil 1,kn,rfl⟩
  ·exact Jk.2 ⟨x,hx,rfl⟩
  ·obtain⟨x,hx,rfl⟩:=Jk.1 hy;exact⟨x,hx,by simp,rfl⟩
 ·rintro m e1 H2 ⟨left,cur,os,c,Lg,rfl,hond,hosub,hall,hleft,hlnd,hlen,hgr,kn,rfl⟩;have hM2:=kn.e 0 rfl;have hit2:=kn.l 0 rfl;have hcw:=hgr.isOw;refine Qa ?_;simp only[go_sem,hcw,hit2,hM2];refine⟨⟨_,rfl⟩,fun hnil=>?_,fun y left' hy hl' hnd' hlen' H3 h3=>?_⟩
  ·subst hnil;simp only[go_sem,Qcm,Jq];refine Qh (Qd rfl (fun h=>by simp at h) fun _=>?_);refine Qw ?_;simp only[go_sem,X.next];refine Qa ?_;simp only[go_sem,hcw];refine Qbr1 kn hgr fun Lg2 H3 hgr kn=>?_;refine Qa ?_;simp only[go_sem,hcw];refine Qk ?_;simp only[go_sem,Q5,Qae,Qhn,Ja,forall_eq,RS.op,hcw];have hmem:∀x,x∈os↔x∈ks:=fun x=>⟨hosub x,fun hx=>(hall x hx).resolve_right (by simp)⟩;have hni:(os.map Int.ofNat).Nodup:=by
    rw[List.Nodup,Jan];exact List.Pairwise.imp (fun {a b} hab he=>hab (Int.ofNat.inj he)) hond
   have hsn:=Qbml hni;obtain⟨l,hl1,hl2,hl3⟩:∃l:List Nat,srt (os.map Int.ofNat)=l.map Int.ofNat∧l.Pairwise (· < ·)∧∀x,x∈l↔x∈ks:=by
    refine⟨(srt (os.map Int.ofNat)).map Int.toNat,?_,?_,fun x=>?_⟩
    ·rw[Jbh]
     conv=>lhs;rw[←List.map_id (srt (os.map Int.ofNat))]
     refine List.map_congr_left fun x hx=>?_;rw[Qal8]at hx;obtain⟨y,_,rfl⟩:=Jk.1 hx;simp
    ·rw[Jan];refine List.Pairwise.imp_of_mem (fun {a b} ha hb hab=>?_) hsn;rw[Qal8]at ha hb;obtain⟨x,_,rfl⟩:=Jk.1 ha;obtain⟨y,_,rfl⟩:=Jk.1 hb;simpa using hab
    ·rw[←hmem];constructor
     ·intro hx;obtain⟨y,hy,rfl⟩:=Jk.1 hx;rw[Qal8]at hy;obtain⟨z,hz,rfl⟩:=Jk.1 hy;simpa using hz
     ·intro hx;exact Jk.2 ⟨(x:Int),by rw[Qal8];exact Jk.2 ⟨x,hx,rfl⟩,by simp⟩
   have:=hgr.frz kn (Qz _);rw[hl1]at this;exact⟨_,.c _ _ this,hK l _ (kn.fin.drop1 hM) hl2 hl3⟩
  ·obtain⟨k,hk,hkos,rfl⟩:=hleft y hy;have kn:=kn.stL 0 rfl h3;have hM3:=kn.e 0 rfl;have hit3:=kn.l 0 rfl;simp only[go_sem,Qcm,Jq];refine Qh (Qd rfl (fun _=>?_) (fun h=>by simp at h));refine Qg ?_;simp only[go_sem];refine Qe ?_;refine Qa ?_;simp only[go_sem,hcw,hit3,hM3];refine⟨⟨_,rfl⟩,?_⟩;simp only[go_sem,Qe2,Jq];refine Qt ?_;simp only[go_sem,hcw];have hol:os.length+1≤LIM:=by omega
   refine kn.growR (B:=[_]) (new:=Qbq [k]) hgr (.mk' _ _ _ _) (Qd7 _) (by simp only[Q5x,Js,Jy];omega) fun t Lg' H4 hgr ht kn=>?_;simp only[go_sem,Qe3,X.next];refine⟨left'.length,by omega,left',_,os++[k],t,Lg',rfl,?_,fun x hx=>?_,fun x hx=>?_,fun y hy'=>?_,hnd',?_,?_,kn,rfl⟩
   ·refine J3.2 ⟨hond,by simp,fun a ha b hb=>?_⟩;simp at hb;subst hb;exact fun e=>hkos (e▸ha)
   ·rcases Jh.1 hx with hx|hx
    ·exact hosub x hx
    ·simp at hx;subst hx;exact hk
   ·rcases hall x hx with h|h
    ·exact .inl (Ji _ h)
    ·by_cases hxk:x=k
     ·subst hxk;exact .inl (Jj _ (by simp))
     ·refine .inr ((hl' _).2 ⟨h,fun he=>hxk ?_⟩);simp only[Jas,C.int.injEq,true_and,and_true]at he;omega
   ·obtain⟨h1,h2⟩:=(hl' y).1 hy';obtain⟨x,hx,hxo,rfl⟩:=hleft y h1;refine⟨x,hx,fun hh=>?_,rfl⟩;rcases Jh.1 hh with hh|hh
    ·exact hxo hh
    ·simp at hh;subst hh;exact h2 rfl
   ·simp;omega
   ·rw[Q5w];exact hgr
def Gw (Lg:List (Nat×Obj))(sz:Nat)(rows:List (List C))(c:C):Prop:=
 (c=.sl true sz []∧rows=[]∧Lg=[])∨∃y R,c=.vsl y sz 0 rows.length∧Lg=[(y,.vec sz R)]∧R.take rows.length=rows
end Go.AE.Y
namespace Go.AE
open Go.AE.Y
open Go.Proofs.Tryz
variable {H H0:Heap}{K:V→Heap→Prop}{E B Lg:List (Nat×Obj)}
theorem Gr.gw {sz:Nat}{rows:List (List C)}{c:C}(h:Gr Lg sz rows c):Gw Lg sz rows c:=by
 rcases h with h|⟨y,h1,h2⟩
 ·exact .inl h
 ·exact .inr ⟨y,rows,h1,h2,Jav⟩
end Go.AE
namespace Go.AE.Y
open Go.Proofs.Tryz
variable {H H0:Heap}{K:V→Heap→Prop}{E B Lg:List (Nat×Obj)}
theorem Gw.isOw {sz:Nat}{rows:List (List C)}{c:C}(h:Gw Lg sz rows c):c.isOw=false:=by rcases h with ⟨rfl,_⟩|⟨y,R,rfl,_⟩ <;> rfl
theorem Gw.frz {ns:List Int}{c:C}(h:Gw Lg 1 (Qb ns) c)(kn:Kn H0 H E (B++Lg)):FrzC H (un H0) c (.sl false 1 (Qb ns)):=by
 rcases h with ⟨rfl,h2,_⟩|⟨y,R,rfl,rfl,hR⟩
 ·rw[h2];exact FrzR.nil.sl
 ·have hle:(Qb ns).length≤R.length:=by
   have:=congrArg List.length hR;rw[Jx]at this;omega
  have h:=FrzR.same (H:=H) (S:=un H0) (Qz ns);exact .vsl y 1 0 _ R (Qb ns) (Qb ns) (Qj1 (kn.loc (y,.vec 1 R) (by simp))) (kn.get (y,.vec 1 R) (by simp)).1 (by omega) (by simpa using hR.symm) h.spec.1 (fun i r r' h1 h2=>(h.spec.2 i r r' h1 h2).spec.1) fun i r r' j c c' h1 h2 h3 h4=>(h.spec.2 i r r' h1 h2).spec.2 j c c' h3 h4
theorem Q42 {fl:Bool}{ns:List Int}{L:List (Nat×Obj)}(kn:Kn H0 H E L)(hl:ns.length≤LIM)(hK:∀t Lg H',Gr Lg 1 (Qb ns) t→t.isOw=false→Kn H0 H' E (L++Lg)→K (.c t) H') :
  Qr prog Qc6 [.c (.sl fl 1 (Qb ns))] H K:=by
 refine Qc Qal Qbes ?_;refine Qa ?_;simp only[go_sem];refine Qaa ?_;refine Qa ?_;simp only[go_sem];intro b hb;refine Qh (Qd rfl ?_ ?_)
 ·intro hbt;have hn:=hb hbt;refine Qa ?_;simp only[go_sem];refine Qk ?_;simp only[go_sem,Q5,Qae,Q52,Ja,forall_eq,RS.op];refine hK _ [] H ?_ rfl (by simpa using kn);rw[hn];exact .nil 1
 ·intro hbf;refine Qg ?_;simp only[go_sem];refine Qa ?_;simp only[go_sem,Qf];refine⟨.inl trivial,Qz _,by omega,fun z hz H1 h1=>?_⟩;have kn:=kn.al hz h1;simp only[go_sem,Q4r];refine Qk ?_;simp only[go_sem,Q5,Qae,Q52,Ja,forall_eq,RS.op];exact hK _ _ H1 (.mk z 1 _ (by rw[Qf];omega)) rfl kn
theorem Qee (ns:List Int)(i:Nat)(x:Int):(Qb ns).set i [.int .i64 x]=Qb (ns.set i x):=by simp[Qb,J4]
theorem Qa4y (ns:List Int)(k:Nat):(Qb ns).take k=Qb (ns.take k):=by simp[Qb,Jbf]
set_option maxHeartbeats 2000000 in
theorem Qbhj {c:C}{ns:List Int}(kn:Kn H0 H E (B++Lg))(hgr:Gr Lg 1 (Qb ns) c)(hs:ns.Pairwise (·≤·))(hL:ns.length≤2 ^ 38)
  (hK:∀t Lg' ns' H',Gw Lg' 1 (Qb ns') t→t.isOw=false→Kn H0 H' E (B++Lg')→ns'.Pairwise (· < ·)→(∀x,x∈ns'↔x∈ns)→ns'.length≤ns.length→K (.c t) H') :
  Qr prog Qn4 [.c c] H K:=by
 have how:=hgr.isOw;have hok:=eq_true (hgr.okSl kn);have hlen:=hgr.lenC;have hrw:=hgr.rowsOf kn;have hsz:=hgr.elemSz;refine Qc Qal Qax2 ?_;refine Qa ?_;simp only[go_sem,how];refine Qaa ?_;refine Qa ?_;simp only[go_sem,how,hok,hlen,Qf];intro _;refine Qh (Qd rfl ?_ ?_)
 ·intro hc;have h2:ns.length<2:=by have:=of_decide_eq_true hc;omega
  refine Qa ?_;simp only[go_sem,how];refine Qk ?_;simp only[go_sem,Q5,Qae,Qkm,Ja,forall_eq,RS.op,how];exact hK c Lg ns H hgr.gw how kn (Qaws hs fun i h0 hi=>by omega) (fun _=>Jbl) (Je _)
 ·intro hc;have h2:2≤ns.length:=by have:=of_decide_eq_false hc;omega
  obtain⟨z,rfl,rfl⟩:∃z,c=.vsl z 1 0 ns.length∧Lg=[(z,.vec 1 (Qb ns))]:=by
   rcases hgr with ⟨_,h,_⟩|⟨y,h1,h2⟩
   ·have:ns.length=0:=(by rw[←Qf,h];rfl);omega
   ·exact⟨y,by rw[h1,Qf],h2⟩
  have hz:=kn.l B.length (l:=z) (o:=.vec 1 (Qb ns)) (by simp);refine Qg ?_;simp only[go_sem];refine Qaa ?_;refine Qa ?_;simp only[go_sem];refine Qh (Qe (Qx (fun m e1 H1=>∃(k:Nat),m=ns.length-k∧0<k∧k≤ns.length∧H1=H∧(∀i,0<i→i<k→ns.getD i 0≠ns.getD (i-1) 0)∧e1=[(0,.c (.vsl z 1 0 ns.length)),(3,.c (.int .i64 k))]) (ns.length-1) ?_ ?_))
  ·exact⟨1,rfl,by omega,by omega,rfl,fun i h0 h1=>by omega,rfl⟩
  ·rintro m e1 H1 ⟨k,hm,hk0,hk,rfl,hne,rfl⟩;refine Qaa ?_;refine Qa ?_;simp only[go_sem,hz,Qf,Jl,Je];intro hlim;simp only[LIM]at hlim;refine Qh (Qd rfl ?_ ?_)
   ·intro hc2;have hlt:k<ns.length:=(by simpa using hc2);have hlt1:k-1<ns.length:=(by omega);have e1:((k:Int)-1)=((k-1:Nat):Int):=(by omega);have htk:(Qb ns).take ns.length=Qb ns:=Jc (by rw[Qf];exact Je _);refine Qg ?_;simp only[go_sem];refine Qh (Qe ?_);refine Qaj ?_;simp only[go_sem,hz,e1,hlt,hlt1,htk,Qf,Qu _ _ hlt,Qu _ _ hlt1,Jl,Je];refine⟨Qs (by omega) (by omega),?_⟩;refine Qd rfl ?_ ?_
    ·intro hc3;have heq:ns.getD k 0=ns.getD (k-1) 0:=(by simpa using hc3);refine Qa ?_;simp only[go_sem,hz,hlt,Qf,Jl,Je];refine⟨by omega,?_⟩;refine Qaa ?_;refine Qa ?_;simp only[go_sem];refine Qh (Qe (Qx (fun m e1 H2=>∃(j kk:Nat) (R:List Int),m=ns.length-j∧k<j∧j≤ns.length∧Cmp ns R kk j∧Kn H0 H2 E (B++[(z,.vec 1 (Qb R))])∧
      e1=[(0,.c (.vsl z 1 0 ns.length)),(3,.c (.int .i64 kk)),(4,.c (.vsl z 1 k (ns.length-k))),(5,.c (.int .i64 ((j-k:Nat):Int)))]) (ns.length-(k+1)) ?_ ?_))
     ·refine⟨k+1,k,ns,rfl,by omega,by omega,.start hs hk0 hlt hne heq,kn,?_⟩;have:k+1-k=1:=(by omega);rw[this];rfl
     ·rintro m2 e1 H2 ⟨j,kk,R,hm2,hkj,hj,hcm,kn,rfl⟩;have hz:=kn.l B.length (l:=z) (o:=.vec 1 (Qb R)) (by simp);have hRl:=hcm.len;have hkkj:=hcm.kj;refine Qaa ?_;refine Qa ?_;have e3:k+(ns.length-k)=ns.length:=(by omega);simp only[go_sem,hz,Qf,hRl,e3,Jl,Je];intro _;refine Qh (Qd rfl ?_ ?_)
      ·intro hc4;have hjl:j<ns.length:=(by have:=of_decide_eq_true hc4;omega);have hjR:j<R.length:=(by omega);have hjR1:j-1<R.length:=(by omega);have hjk:j-k<ns.length-k:=(by omega);have hjk1:j-k-1<ns.length-k:=(by omega);have e4:(((j-k:Nat):Int)-1)=((j-k-1:Nat):Int):=(by omega);have hr1:(((Qb R).drop k).take (ns.length-k)).getD (j-k) []=[.int .i64 (ns.getD j 0)]:=by
        rw[←hcm.same j (by omega),←Qu _ _ hjR];simp only[Jb,Ja2,Ja1];rw[if_pos hjk];have:k+(j-k)=j:=(by omega);rw[this]
       have hr2:(((Qb R).drop k).take (ns.length-k)).getD (j-k-1) []=[.int .i64 (ns.getD (j-1) 0)]:=by
        rw[←hcm.same (j-1) (by omega),←Qu _ _ hjR1];simp only[Jb,Ja2,Ja1];rw[if_pos hjk1];have:k+(j-k-1)=j-1:=(by omega);rw[this]
       refine Qg ?_;simp only[go_sem];refine Qd3 (fun e2 H3=>∃(kk:Nat) (R:List Int),Cmp ns R kk (j+1)∧Kn H0 H3 E (B++[(z,.vec 1 (Qb R))])∧
        lk 0 e2=.c (.vsl z 1 0 ns.length)∧lk 3 e2=.c (.int .i64 kk)∧lk 4 e2=.c (.vsl z 1 k (ns.length-k))∧lk 5 e2=.c (.int .i64 ((j-k:Nat):Int))) ?_ ?_
       ·intro Q hnr _ _;refine Qe ?_;refine Qaj ?_;simp only[go_sem,hz,e3,e4,hr1,hr2,hjk,hjk1,Qf,hRl,Je];refine⟨Qs (by omega) (by omega),?_⟩;refine Qd rfl ?_ ?_
        ·intro hc5;have hne5:ns.getD j 0≠ns.getD (j-1) 0:=(by simpa using hc5);have hkkl:kk<ns.length:=(by omega);have hkkR:kk<R.length:=(by omega);have htk:(Qb R).take ns.length=Qb R:=Jc (by rw[Qf];omega);refine Qa ?_;simp only[go_sem,hz,e3,hr1,hjk,hkkl,htk,Qu _ _ hkkR,Qee,Qf,hRl,Jl,Je];intro H3 h3;have kn3:=kn.stL B.length (x:=z) (o:=.vec 1 (Qb R)) (by simp) h3;have kn:Kn H0 H3 E (B++[(z,.vec 1 (Qb (R.set kk (ns.getD j 0))))]):=(by simpa using kn3);refine Qt ?_;simp only[go_sem];refine⟨Qs (by omega) (by omega),?_⟩;exact hnr _ _ ⟨kk+1,_,hcm.ne hs hjl hne5,kn,rfl,rfl,rfl,rfl⟩
        ·intro hc5;have heq5:ns.getD j 0=ns.getD (j-1) 0:=(by simpa using hc5);refine Qg ?_;simp only[go_sem];exact hnr _ _ ⟨kk,R,hcm.eq hjl heq5,kn,rfl,rfl,rfl,rfl⟩
       ·rintro e2 H3 ⟨kk,R,hcm,kn,l0,l3,l4,l5⟩;refine Qt ?_;simp only[go_sem,X.next,l0,l3,l4,l5];refine⟨Qs (by omega) (by omega),ns.length-(j+1),by omega,j+1,kk,R,rfl,by omega,by omega,hcm,kn,?_⟩;have:(((j-k:Nat):Int)+1)=((j+1-k:Nat):Int):=(by omega);rw[this]
      ·intro hc4;have hje:j=ns.length:=(by have:=of_decide_eq_false hc4;omega);subst hje;have hkkl:kk≤R.length:=(by omega);refine Qw ?_;simp only[go_sem,X.next];refine Qa ?_;have e5:kk+(ns.length-kk)=ns.length:=(by omega);simp only[go_sem,hz,e5,Qf,hRl,Jl,Je];refine⟨by omega,fun H3 h3=>?_⟩;have kn3:=kn.stL B.length (x:=z) (o:=.vec 1 (Qb R)) (by simp) h3;have htk2:((Qb R).take kk++List.replicate (ns.length-kk) [C.int .i64 0]++(Qb R).drop ns.length).take kk=Qb (R.take kk):=by
        rw[Ja5,List.take_append_of_le_length (by rw[Jx,Qf];omega),Jbe,Nat.min_self,Qa4y]
       have hl2:ns.length≤((Qb R).take kk++List.replicate (ns.length-kk) [C.int .i64 0]++(Qb R).drop ns.length).length:=by
        simp only[Ja3,Jx,List.length_replicate,List.length_drop,Qf];omega
       generalize (Qb R).take kk++List.replicate (ns.length-kk) [C.int .i64 0]++(Qb R).drop ns.length=R2 at *;have kn:Kn H0 H3 E (B++[(z,.vec 1 R2)]):=(by simpa using kn3);have hz3:=kn.l B.length (l:=z) (o:=.vec 1 R2) (by simp);refine Qa ?_;simp only[go_sem,hz3,hl2,Jl,Nat.sub_zero];refine⟨by omega,?_⟩;refine Qk ?_;simp only[go_sem,X.next,Q5,Qae,Qkm,Ja,forall_eq,RS.op];have hrl:(Qb (R.take kk)).length=kk:=(by rw[Qf,Jx];omega);refine hK (.vsl z 1 0 kk) _ (R.take kk) H3 (.inr ⟨z,R2,?_,rfl,?_⟩) rfl kn hcm.asc (fun x=>?_) (by rw[Jx];omega)
       ·rw[hrl]
       ·rw[hrl];exact htk2
       ·rw[hcm.mem,Jav]
    ·intro hc3;have hneq:¬ns.getD k 0=ns.getD (k-1) 0:=(by simpa using hc3);refine Qg ?_;simp only[go_sem];refine Qt ?_;simp only[go_sem,X.next];refine⟨Qs (by omega) (by omega),ns.length-(k+1),by omega,k+1,rfl,by omega,by omega,fun i h0 h1=>?_,rfl⟩;by_cases h:i<k
     ·exact hne i h0 h
     ·have:i=k:=(by omega);subst this;exact hneq
   ·intro hc2;have hge:ns.length≤k:=(by simpa using hc2);refine Qw ?_;simp only[go_sem,X.next];refine Qa ?_;simp only[go_sem];refine Qk ?_;simp only[go_sem,Q5,Qae,Qkm,Ja,forall_eq,RS.op];exact hK _ _ ns H1 hgr.gw rfl kn (Qaws hs fun i h0 hi=>hne i h0 (by omega)) (fun _=>Jbl) (Je _)
theorem Qbwg {fl:Bool}{ns:List Int}(hL:ns.length≤2 ^ 38)(hK:∀ns' H',Upd H H' []→ns'.Pairwise (· < ·)→(∀x,x∈ns'↔x∈ns)→ns'.length≤ns.length→K (.c (.sl false 1 (Qb ns'))) H') :
  Qr prog Q48 [.c (.sl fl 1 (Qb ns))] H K:=by
 refine Q3 ?_;refine Qc Qal Qbjj ?_;refine Qa ?_;simp only[go_sem];refine Qa ?_;simp only[go_sem];refine Q42 (Kn.start0 H) (by simp only[LIM];omega) fun t Lg H1 hgr how kn=>?_;simp only[go_sem,Q8l];refine Qa ?_;simp only[go_sem,how];refine Qbr1 kn hgr fun Lg H2 hgr kn=>?_;refine Qa ?_;simp only[go_sem,how];refine Qbhj kn hgr (Qar1 ns) (by rw[Qba4];exact hL) fun t2 Lg2 ns' H3 hgw how2 kn h1 h2 h3=>?_;simp only[go_sem,Q8m,how2];refine Qk ?_;simp only[go_sem,Q5,Qae,Qax6,Ja,forall_eq,RS.op,how2];exact⟨_,.c _ _ (hgw.frz kn),hK ns' _ kn.fin h1 (fun x=>by rw[h2,Qal8]) (by rw[Qba4]at h3;exact h3)⟩
end Go.AE.Y
namespace Go.AE.Y
attribute [local go_sem] cond_true cond_false Bool.not_true Bool.not_false
open Go.Proofs.Tryz
variable {H H0 F:Heap}{K:V→Heap→Prop}{E L:List (Nat×Obj)}
theorem Q40 (ks:List Nat)(b:Nat):updE (.int .i64 (b:Int)) (.c (.bool true)) (Qas ks)=Qas (addK ks b):=by
 by_cases h:b∈ks
 ·rw[addK,if_pos h]
  induction ks with
  |nil=>simp at h
  |cons k ks ih=>
   by_cases hk:b=k
   ·subst hk;simp[Qas,updE,Qev]
   ·have hk':¬(b:Int)=(k:Int):=(by omega);have ih:=ih (by simpa[hk]using h);simp only[Qas,Jo,updE,Qev,hk',decide_false,Jab,if_false]at ih⊢;rw[ih]
 ·rw[addK,if_neg h];exact Qbhg ks b h
theorem Qaq1 (ks:List Nat)(b:Nat):delE (.int .i64 (b:Int)) (Qas ks)=Qas (ks.erase b):=by
 induction ks with
 |nil=>simp[Qas,delE]
 |cons k ks ih=>
  by_cases hk:b=k
  ·subst hk;simp[Qas,delE,Qev]
  ·have hk':¬(b:Int)=(k:Int):=by omega
   have hk2:(k == b)=false:=by simp;omega
   simp only[Qas,Jo,delE,Qev,hk',decide_false,Jab,if_false,List.erase_cons,hk2]at ih⊢;rw[ih]
theorem Qar5 {ks:List Nat}{b R:Nat}(h:∀x∈ks,x<R)(hb:b<R):∀x∈addK ks b,x<R:=fun x hx=>by
 rcases addK_mem.1 hx with h1|h1
 ·exact h x h1
 ·omega
theorem Qbxc {M ver R:Nat}{ks:List Nat}{args:List Int}{fl:Bool}(hM:H M=.map ver (Qas ks))(hnd:ks.Nodup)(hlt:∀x∈ks,x<R)(hR:R≤300)(hargs:∀v∈args,0≤v∧v.toNat<R)
  (hK:∀ver' ks' H',Upd H H' [(M,.map ver' (Qas ks'))]→ks'.Nodup→(∀r,r∈ks'↔r∈ks∨r∈toN args)→K (.c (.mp M)) H') :
  Qr prog Qgb [.c (.mp M),.c (.sl fl 1 (Qb args))] H K:=by
 refine Q3 ?_;refine Qc Qal Qabe ?_;have kn:=Kn.start1 hM (by simp);refine Qa ?_;simp only[go_sem];refine Qaa ?_;refine Qa ?_;simp only[go_sem,Qf];intro hal;simp only[LIM]at hal;refine Qh (Qe (Qx (fun m e1 H1=>∃(i ver1:Nat) (ks1:List Nat),m=args.length-i∧i≤args.length∧ks1.Nodup∧(∀x∈ks1,x<R)∧(∀r,r∈ks1↔r∈ks∨r∈(toN args).take i)∧Kn H H1 [(M,.map ver1 (Qas ks1))] []∧
  e1=[(0,.c (.mp M)),(7,.c (.sl fl 1 (Qb args))),(8,.c (.int .i64 args.length)),(9,.c (.int .i64 i))]) args.length ?_ ?_))
 ·exact⟨0,ver,ks,by omega,by omega,hnd,hlt,by simp,kn,rfl⟩
 ·clear hM kn;rintro m e1 H1 ⟨i,ver1,ks1,hm,hi,hnd1,hlt1,hmem,kn,rfl⟩;have hM:=kn.e 0 rfl;have hkl:=Qcg hnd1 hlt1;refine Qa ?_;simp only[go_sem];refine Qh (Qd rfl ?_ ?_)
  ·intro hc;have hl:i<args.length:=by simpa using hc
   have hv:=hargs _ (Qs6 hl);have htk:=Qbdc hl;have hve:args.getD i 0=((args.getD i 0).toNat:Int):=by omega
   generalize hr:(args.getD i 0).toNat=r at *;refine Qg ?_;try simp only[go_sem]
   refine Qh (Qe ?_);refine Qa ?_;simp only[go_sem,hl,Qf,Qu _ _ hl,hve];refine Qt ?_;simp only[go_sem,hM,Qc9,Qi4,Q40];refine⟨by simp only[LIM];omega,fun H2 h2=>?_⟩;have kn:=kn.stE 0 rfl h2;refine Qt ?_;simp only[go_sem,X.next];refine⟨Qs (by omega) (by omega),args.length-(i+1),by omega,i+1,ver1+1,addK ks1 r,rfl,by omega,Qxs hnd1,Qar5 hlt1 hv.2,fun x=>?_,kn,rfl⟩;rw[addK_mem,hmem,htk,Jh,Ja,or_assoc]
  ·intro hc;have hge:args.length≤i:=by simpa using hc
   refine Qw ?_;simp only[go_sem,X.next];refine Qa ?_;simp only[go_sem];refine Qk ?_;simp only[go_sem,Q5,Qae,Qpa,Ja,forall_eq,RS.op];refine⟨_,.c _ _ (.same _ rfl),hK ver1 ks1 _ kn.fin hnd1 fun r=>?_⟩;rw[hmem,Jc (by simpa[toN]using hge)]
structure SetO where
 c:C
 lg:List (Nat×Obj)
 ks:List Nat
structure SetO.ok (R:Nat)(s:SetO):Prop where
 nd:s.ks.Nodup
 lt:∀x∈s.ks,x<R
 m:(s.c=.mnil∧s.lg=[]∧s.ks=[])∨∃M ver,s.c=.mp M∧s.lg=[(M,.map ver (Qas s.ks))]
def Qxo (ss:List SetO):List (List C):=ss.map fun s=>[s.c]
theorem Qnm (ss:List SetO):(Qxo ss).length=ss.length:=by simp[Qxo]
theorem Qx9 (ss:List SetO)(i:Nat)(h:i<ss.length):(Qxo ss).getD i []=[ss[i].c]:=by simp[Qxo,Jb,h]
theorem SetO.ok.isOw {R:Nat}{s:SetO}(h:s.ok R):s.c.isOw=false:=by rcases h.m with ⟨h,_⟩|⟨M,ver,h,_⟩ <;> rw[h] <;> rfl
theorem SetO.ok.len {R:Nat}{s:SetO}(h:s.ok R):s.ks.length≤R:=Qcg h.nd h.lt
def imE (q:CodeD)(fl:Bool)(l yi yp:Nat)(ss:List SetO)(pr:List (List C)):List (Nat×Obj):=
 [(l,.st [.int .i64 q.params,.int .i64 q.regs,.sl fl 5 (Qn q.blocks),.vsl yi 1 0 q.blocks.length,.vsl yp 1 0 q.blocks.length]),(yi,.vec 1 (Qxo ss)),(yp,.vec 1 pr)]++ss.flatMap SetO.lg
structure imOk (q:CodeD)(ss:List SetO)(pr:List (List C)):Prop where
 l:ss.length=q.blocks.length
 s:∀s∈ss,s.ok q.regs.toNat
 pl:pr.length=q.blocks.length
 p:∀b,b<q.blocks.length→∃fl,pr.getD b []=[.sl fl 1 (Qb (Qav (gnx q) (b:Int) q.blocks.length))]
def tabS (ss:List SetO)(b:Nat):RS':=fun r=>r∈((ss[b]?.map SetO.ks).getD [])
theorem Qbu1 {ss:List SetO}{b:Nat}(h:b<ss.length)(r:Nat):tabS ss b r↔r∈ss[b].ks:=by simp[tabS,h]
variable {q:CodeD}{fl:Bool}{l yi yp:Nat}{ss:List SetO}{pr:List (List C)}
theorem Q5n (kn:Kn F H (imE q fl l yi yp ss pr) L):H l=.st [.int .i64 q.params,.int .i64 q.regs,.sl fl 5 (Qn q.blocks),.vsl yi 1 0 q.blocks.length,.vsl yp 1 0 q.blocks.length]∧H yi=.vec 1 (Qxo ss)∧H yp=.vec 1 pr:=
 ⟨kn.e 0 rfl,kn.e 1 rfl,kn.e 2 rfl⟩
theorem Qaey (kn:Kn F H (imE q fl l yi yp ss pr) L){s:SetO}(hs:s∈ss){M ver:Nat}(hl:s.lg=[(M,.map ver (Qas s.ks))]):H M=.map ver (Qas s.ks):=
 (kn.get (M,.map ver (Qas s.ks)) (Ji _ (Jj _ (Ja9.2 ⟨s,hs,by rw[hl];simp⟩)))).1
set_option maxHeartbeats 4000000 in
theorem Qbwh {b:Nat}(ho:q.ok)(hb:b<q.blocks.length)(him:imOk q ss pr)(kn:Kn F H (imE q fl l yi yp ss pr) [])
  (hK:∀M ver ks H',ks.Nodup→(∀x∈ks,x<q.regs.toNat)→(∀r,r∈ks↔(Q6 q).outT (tabS ss) b r)→Kn F H' (imE q fl l yi yp ss pr) [(M,.map ver (Qas ks))]→K (.c (.mp M)) H') :
  Qr prog Qiw [.c (.ptr l 0),.c (.int .i64 b)] H K:=by
 have hr0:=ho.r0;have hr1:=ho.r1;have hb1:=ho.b1;have hFn:(Q6 q).n=q.blocks.length:=rfl;have hsl:=him.l;have hpl:=him.pl;have hbd:=ho.bdF;obtain⟨y,hy⟩:∃y,q.blocks[b]=y:=⟨_,rfl⟩;have hyo:y.ok q b:=by rw[←hy];exact ho.bs b hb
 have hnx:(Q6 q).nx b=y.next.map Int.toNat:=by rw[←hy,←Qaew hb];rfl
 have hnl:=hyo.nxl;have htks:(Qxo ss).take q.blocks.length=Qxo ss:=Jc (by rw[Qnm];omega);have htkp:pr.take q.blocks.length=pr:=Jc (by omega);refine Qc Qal Qamw ?_;refine Qa ?_;simp only[go_sem];refine Qa ?_;simp only[go_sem];intro M hM H1 h1;have kn:Kn F H1 (imE q fl l yi yp ss pr) [(M,.map 0 (Qas []))]:=kn.al hM h1;obtain⟨hl,hyi,hyp⟩:=Q5n kn;simp only[go_sem,Qm9];refine Qaa ?_;refine Qa ?_;simp only[go_sem,hl,hb,Ql,Q1 _ _ hb,BlkD.cells,hy];refine Qbwg (by omega) fun ns H2 hu hasc hmem hlen=>?_;have kn:=kn.call0 hu;simp only[go_sem,Qna,Qf];intro _;have hns:∀v∈ns,∃m:Nat,v=(m:Int)∧m<q.blocks.length∧m∈(Q6 q).nx b∧(m:Int)∈gnx q b:=fun v hv=>by
  have hv':=(hmem v).1 hv;have:=hyo.nx v hv';refine⟨v.toNat,by omega,by omega,?_,?_⟩
  ·rw[hnx];exact Jk.2 ⟨v,hv',rfl⟩
  ·rw[Qaew hb,hy];have:((v.toNat:Nat):Int)=v:=by omega
   rw[this];exact hv'
 clear hl hyi hyp hM h1;refine Qh (Qe (Qx (fun m e1 H1=>∃(i ver:Nat) (ks:List Nat),m=ns.length-i∧i≤ns.length∧ks.Nodup∧(∀x∈ks,x<q.regs.toNat)∧(∀r,r∈ks↔∃v∈ns.take i,tabS ss v.toNat r∨r∈(Q6 q).ea b v.toNat)∧
  Kn F H1 (imE q fl l yi yp ss pr) [(M,.map ver (Qas ks))]∧
  e1=[(0,.c (.ptr l 0)),(1,.c (.int .i64 b)),(5,.c (.mp M)),(22,.c (.sl false 1 (Qb ns))),(23,.c (.int .i64 ns.length)),(24,.c (.int .i64 i))]) ns.length ?_ ?_))
 ·exact⟨0,0,[],by omega,by omega,by simp,by simp,by simp,kn,rfl⟩
 ·clear kn hu;rintro m e1 H3 ⟨i,ver,ks,hm,hi,hnd,hlt,hks,kn,rfl⟩;refine Qa ?_;simp only[go_sem];refine Qh (Qd rfl ?_ ?_)
  ·intro hc;have hil:i<ns.length:=by simpa using hc
   obtain⟨d,hd,hdb,hdF,hdx⟩:=hns _ (Qs6 hil);have htk:ns.take (i+1)=ns.take i++[(d:Int)]:=by
    rw[Jf hil,←hd];simp[Jb,hil]
   have hdss:d<ss.length:=by omega
   obtain⟨s,hs⟩:∃s,ss[d]=s:=⟨_,rfl⟩;have hsm:s∈ss:=by rw[←hs];exact Jd hdss
   have hso:=him.s s hsm;have hsw:=hso.isOw;have htabd:∀r,tabS ss d r↔r∈s.ks:=fun r=>by rw[Qbu1 hdss,hs]
   obtain⟨flp,hpr⟩:=him.p d hdb;obtain⟨z,hz⟩:∃z,q.blocks[d]=z:=⟨_,rfl⟩;have hzo:z.ok q d:=by rw[←hz];exact ho.bs d hdb
   have hea:(Q6 q).ea b d=z.phis.map fun p=>(p.args.getD ((Qav (gnx q) (d:Int) q.blocks.length).idxOf (b:Int)) 0).toNat:=by rw[Qar9 hdb,hz]
   have hix:=ho.ix hb hdx;have hpe:(b:Int)∈Qav (gnx q) (d:Int) q.blocks.length:=Jam.1 hix;generalize hat:(Qav (gnx q) (d:Int) q.blocks.length).idxOf (b:Int)=at_ at *;refine Qg ?_;try simp only[go_sem]
   refine Qd3 (fun e2 H2=>∃(ver:Nat) (ks:List Nat),ks.Nodup∧(∀x∈ks,x<q.regs.toNat)∧(∀r,r∈ks↔∃v∈ns.take (i+1),tabS ss v.toNat r∨r∈(Q6 q).ea b v.toNat)∧
    Kn F H2 (imE q fl l yi yp ss pr) [(M,.map ver (Qas ks))]∧
    lk 0 e2=.c (.ptr l 0)∧lk 1 e2=.c (.int .i64 b)∧lk 5 e2=.c (.mp M)∧lk 22 e2=.c (.sl false 1 (Qb ns))∧lk 23 e2=.c (.int .i64 ns.length)∧lk 24 e2=.c (.int .i64 i)) ?_ ?_
   ·intro Q hnr _ _;refine Qe ?_;refine Qa ?_;simp only[go_sem,hil,Qf,Qu _ _ hil,hd];refine Qd3 (fun e2 H2=>∃(ver:Nat) (ks1:List Nat),ks1.Nodup∧(∀x∈ks1,x<q.regs.toNat)∧(∀r,r∈ks1↔r∈ks∨r∈s.ks)∧
     Kn F H2 (imE q fl l yi yp ss pr) [(M,.map ver (Qas ks1))]∧
     lk 0 e2=.c (.ptr l 0)∧lk 1 e2=.c (.int .i64 b)∧lk 5 e2=.c (.mp M)∧lk 7 e2=.c (.int .i64 d)∧lk 22 e2=.c (.sl false 1 (Qb ns))∧lk 23 e2=.c (.int .i64 ns.length)∧lk 24 e2=.c (.int .i64 i)) ?_ ?_
    ·intro Q hnr _ _;obtain⟨hl,hyi,hyp⟩:=Q5n kn;have hMk:=kn.l 0 rfl;refine Qa ?_;rcases hso.m with ⟨hsc,_,hsk⟩|⟨N,verN,hsc,hslg⟩
     ·simp only[go_sem,hl,hyi,htks,Qnm,Qx9 _ _ hdss,hs,hsc,hdb,hsl,Jl,Je];intro it hit H4 h4;have kn:=kn.al hit h4;have hit4:=kn.l 1 rfl;refine Qe (Qx (fun m e1 H1=>H1=H4∧e1=[(0,.c (.ptr l 0)),(1,.c (.int .i64 b)),(5,.c (.mp M)),(7,.c (.int .i64 d)),(22,.c (.sl false 1 (Qb ns))),(23,.c (.int .i64 ns.length)),(24,.c (.int .i64 i)),(35,.c (.itr it))]) 0 ⟨rfl,rfl⟩ ?_);rintro m e1 H5 ⟨rfl,rfl⟩;refine Qa ?_;simp only[go_sem,hit4,Qdf,Jq];refine Qh (Qd rfl (fun h=>by simp at h) fun _=>?_);refine Qw ?_;simp only[go_sem,X.next];exact hnr _ _ ⟨ver,ks,hnd,hlt,fun r=>by rw[hsk];simp,kn.drop (A:=[_]),rfl,rfl,rfl,rfl,rfl,rfl,rfl⟩
     ·have hN:=Qaey kn hsm hslg;have hkl2:=hso.len;simp only[go_sem,hl,hyi,htks,Qnm,Qx9 _ _ hdss,hs,hsc,hdb,hsl,hN,Jl,Je];refine⟨Qn7 hso.nd,fun it hit H4 h4=>?_⟩;have kn:=kn.al hit h4;refine Qe (Qx (fun m e1 H1=>∃(left:List (C×V)) (cur:Option (C×V)) (ver:Nat) (ks1:List Nat),m=left.length∧(∀y∈left,∃x∈s.ks,y=(C.int .i64 (x:Int),V.c (.bool true)))∧left.Nodup∧ks1.Nodup∧(∀x∈ks1,x<q.regs.toNat)∧
       (∀r,r∈ks1↔r∈ks∨(r∈s.ks∧(C.int .i64 (r:Int),V.c (.bool true))∉left))∧
       Kn F H1 (imE q fl l yi yp ss pr) [(M,.map ver (Qas ks1)),(it,.iter (some (N,verN)) left cur)]∧
       e1=[(0,.c (.ptr l 0)),(1,.c (.int .i64 b)),(5,.c (.mp M)),(7,.c (.int .i64 d)),(22,.c (.sl false 1 (Qb ns))),(23,.c (.int .i64 ns.length)),(24,.c (.int .i64 i)),(35,.c (.itr it))]) (Qas s.ks).length ?_ ?_)
      ·refine⟨Qas s.ks,none,ver,ks,rfl,fun y hy=>?_,Qn7 hso.nd,hnd,hlt,fun r=>?_,kn,rfl⟩
       ·obtain⟨x,hx,rfl⟩:=Jk.1 hy;exact⟨x,hx,rfl⟩
       ·constructor
        ·exact .inl
        ·rintro (h|⟨h1,h2⟩)
         ·exact h
         ·exact absurd (Jk.2 ⟨r,h1,rfl⟩) h2
      ·clear kn h4 hit;rintro m e1 H5 ⟨left,cur,ver1,ks1,rfl,hleft,hlnd,hnd1,hlt1,hmem1,kn,rfl⟩;have hN:=Qaey kn hsm hslg;have hM5:=kn.l 0 rfl;have hit5:=kn.l 1 rfl;have hkl:=Qcg hnd1 hlt1;refine Qa ?_;simp only[go_sem,hit5,hN];refine⟨⟨_,rfl⟩,fun hnil=>?_,fun y left' hyl hl' hnd' hlen' H6 h6=>?_⟩
       ·subst hnil;simp only[go_sem,Qdf,Jq];refine Qh (Qd rfl (fun h=>by simp at h) fun _=>?_);refine Qw ?_;simp only[go_sem,X.next];exact hnr _ _ ⟨ver1,ks1,hnd1,hlt1,fun r=>by rw[hmem1];simp,kn.drop (A:=[_]),rfl,rfl,rfl,rfl,rfl,rfl,rfl⟩
       ·obtain⟨k,hk,rfl⟩:=hleft y hyl;have kn:=kn.stL 1 rfl h6;have hN6:=Qaey kn hsm hslg;have hit6:=kn.l 1 rfl;have hM6:=kn.l 0 rfl;simp only[go_sem,Qdf,Jq];refine Qh (Qd rfl (fun _=>?_) (fun h=>by simp at h));refine Qg ?_;try simp only[go_sem]
        refine Qe ?_;refine Qa ?_;simp only[go_sem,hit6,hN6];refine⟨⟨_,rfl⟩,?_⟩;simp only[go_sem,Qnb,Jq];refine Qt ?_;simp only[go_sem,hM6,Qc9,Qi4,Q40];refine⟨by simp only[LIM];omega,fun H7 h7=>?_⟩;have kn:=kn.stL 0 rfl h7;simp only[X.next];refine⟨left'.length,by omega,left',_,ver1+1,addK ks1 k,rfl,fun y hy=>hleft y ((hl' y).1 hy).1,hnd',Qxs hnd1,Qar5 hlt1 (hso.lt k hk),fun r=>?_,kn,by trivial⟩;rw[addK_mem,hmem1,hl'];simp only[ne_eq,Jas,C.int.injEq,true_and,and_true,not_and,Classical.not_not];constructor
        ·rintro ((h|⟨h1,h2⟩)|h)
         ·exact .inl h
         ·exact .inr ⟨h1,fun h3=>absurd h3 h2⟩
         ·subst h;exact .inr ⟨hk,fun _=>rfl⟩
        ·rintro (h|⟨h1,h2⟩)
         ·exact .inl (.inl h)
         ·by_cases h3:(C.int .i64 (r:Int),V.c (.bool true))∈left
          ·have:=h2 h3;exact .inr (by omega)
          ·exact .inl (.inr ⟨h1,h3⟩)
    ·rintro e2 H4 ⟨ver1,ks1,hnd1,hlt1,hmem1,kn,l0,l1,l5,l7,l22,l23,l24⟩;obtain⟨hl,hyi,hyp⟩:=Q5n kn;refine Qa ?_;simp only[go_sem,l0,l1,l5,l7,l22,l23,l24,hl,hyp,htkp,hpl,hdb,hpr,Jl,Je];refine Qa4e (.mk' _ _ _ _) rfl fun r hr=>?_;have hr:=hr.idx hpe;rw[hat]at hr;subst hr;simp only[go_sem,Qnc,l0,l1,l5,l7,l22,l23,l24];refine Qa ?_;simp only[go_sem,hl,hdb,Ql,Q1 _ _ hdb,BlkD.cells,hz,Qv];intro hzl;simp only[LIM]at hzl;refine Qe (Qx (fun m e1 H1=>∃(i2 ver2:Nat) (ks2:List Nat),m=z.phis.length-i2∧i2≤z.phis.length∧ks2.Nodup∧(∀x∈ks2,x<q.regs.toNat)∧(∀r,r∈ks2↔(r∈ks∨r∈s.ks)∨r∈((Q6 q).ea b d).take i2)∧
      Kn F H1 (imE q fl l yi yp ss pr) [(M,.map ver2 (Qas ks2))]∧
      e1=[(0,.c (.ptr l 0)),(1,.c (.int .i64 b)),(5,.c (.mp M)),(9,.c (.int .i64 at_)),(22,.c (.sl false 1 (Qb ns))),(23,.c (.int .i64 ns.length)),(24,.c (.int .i64 i)),(59,.c (.sl false 2 (Q7 z.phis))),(60,.c (.int .i64 z.phis.length)),(61,.c (.int .i64 i2))]) z.phis.length ?_ ?_)
     ·exact⟨0,ver1,ks1,by omega,by omega,hnd1,hlt1,fun r=>by rw[hmem1];simp,kn,rfl⟩
     ·clear kn hl hyi hyp;rintro m e1 H5 ⟨i2,ver2,ks2,hm2,hi2,hnd2,hlt2,hmem2,kn,rfl⟩;have hkl:=Qcg hnd2 hlt2;refine Qa ?_;simp only[go_sem];refine Qh (Qd rfl ?_ ?_)
      ·intro hc2;have hl2:i2<z.phis.length:=(by simpa using hc2);obtain⟨p,hp⟩:∃p,z.phis[i2]=p:=⟨_,rfl⟩;have hpm:p∈z.phis:=(by rw[←hp];exact Jd hl2);have hpal:=hzo.pal p hpm;have hal:at_<p.args.length:=(by omega);obtain⟨hv,hvl⟩:=(hzo.pargs p hpm _ (Qs6 hal)).nat;have htk2:((Q6 q).ea b d).take (i2+1)=((Q6 q).ea b d).take i2++[(p.args.getD at_ 0).toNat]:=by
        rw[Jf (by rw[hea,Jm];exact hl2)];simp[hea,hp]
       generalize hr:(p.args.getD at_ 0).toNat=r at *;refine Qg ?_;try simp only[go_sem]
       refine Qh (Qe ?_);refine Qa ?_;simp only[go_sem,hl2,Qv,Qau _ _ hl2,PhiD.cells,hp];intro x11 hx11 H6 h6;have kn:=kn.al hx11 h6;have hx11:=kn.l 1 rfl;simp only[go_sem,Qnd,hx11];intro H7 h7;have kn:Kn F H7 (imE q fl l yi yp ss pr) [(M,.map ver2 (Qas ks2)),(x11,.st [.int .i64 p.to,.sl false 1 (Qb p.args)])]:=kn.stL 1 rfl h7;have hx11:=kn.l 1 rfl;have hM7:=kn.l 0 rfl;refine Qt ?_;simp only[go_sem,hx11,hM7,hal,Qf,Qu _ _ hal,hv,Qc9,Qi4,Q40];refine⟨by simp only[LIM];omega,fun H8 h8=>?_⟩;have kn:=kn.stL 0 rfl h8;refine Qt ?_;simp only[go_sem,X.next];refine⟨Qs (by omega) (by omega),z.phis.length-(i2+1),by omega,i2+1,ver2+1,addK ks2 r,rfl,by omega,Qxs hnd2,Qar5 hlt2 hvl,fun x=>?_,kn.drop (A:=[_]),rfl⟩;rw[addK_mem,hmem2,htk2,Jh,Ja,or_assoc]
      ·intro hc2;have hge2:z.phis.length≤i2:=(by simpa using hc2);refine Qw ?_;simp only[go_sem,X.next];refine hnr _ _ ⟨ver2,ks2,hnd2,hlt2,fun r=>?_,kn,rfl,rfl,rfl,rfl,rfl,rfl⟩;have hte:((Q6 q).ea b d).take i2=(Q6 q).ea b d:=Jc (by rw[hea,Jm];exact hge2);rw[hmem2,hks,htk,hte];constructor
       ·rintro ((⟨v,hv,h⟩|h)|h)
        ·exact⟨v,Ji _ hv,h⟩
        ·exact⟨(d:Int),Jj _ (by simp),.inl ((htabd r).2 h)⟩
        ·exact⟨(d:Int),Jj _ (by simp),.inr h⟩
       ·rintro⟨v,hv,h⟩;rcases Jh.1 hv with hv|hv
        ·exact .inl (.inl ⟨v,hv,h⟩)
        ·simp only[Ja]at hv;subst hv;rcases h with h|h
         ·exact .inl (.inr ((htabd r).1 h))
         ·exact .inr h
   ·rintro e2 H4 ⟨ver1,ks1,hnd1,hlt1,hks1,kn,l0,l1,l5,l22,l23,l24⟩;refine Qt ?_;simp only[go_sem,X.next,l0,l1,l5,l22,l23,l24];exact⟨Qs (by omega) (by omega),ns.length-(i+1),by omega,i+1,ver1,ks1,rfl,by omega,hnd1,hlt1,hks1,kn,rfl⟩
  ·intro hc;have hge:ns.length≤i:=by simpa using hc
   rw[Jc hge]at hks;refine Qw ?_;simp only[go_sem,X.next];refine Qa ?_;simp only[go_sem];refine Qk ?_;simp only[go_sem,Q5,Qae,Qzq,Ja,forall_eq,RS.op];refine hK M ver ks H3 hnd hlt (fun r=>?_) kn;rw[hks];constructor
   ·rintro⟨v,hv,h⟩;exact⟨v.toNat,by rw[hnx];exact Jk.2 ⟨v,(hmem v).1 hv,rfl⟩,h⟩
   ·rintro⟨d,hd,h⟩;rw[hnx]at hd;obtain⟨v,hv,rfl⟩:=Jk.1 hd;exact⟨v,(hmem v).2 hv,h⟩
end Go.AE.Y
namespace Go.AE.Y
attribute [local instance] Classical.propDecidable
def tab (zs:List (Nat×List Bool))(b:Nat):RS':=fun r=>(((zs[b]?).map Prod.snd).getD []).getD r false=true
variable {zs zi zo:List (Nat×List Bool)}{F:Flo}
theorem Qbmr {b:Nat}(h:b<zs.length)(r:Nat):tab zs b r↔zs[b].2.getD r false=true:=by simp[tab,h]
theorem Qbda {b:Nat}{x:Nat×List Bool}(h:b<zs.length)(r:Nat):tab (zs.set b x) b r↔x.2.getD r false=true:=by simp[tab,h]
theorem Qxq {b c:Nat}{x:Nat×List Bool}(h:c≠b):tab (zs.set b x) c=tab zs c:=by
 funext r
 simp only[tab];rw[List.getElem?_set_ne (fun e=>h e.symm)]
theorem Qa3w {α:Type}{l:List α}{i:Nat}{x:α}(h:l[i]? = some x):l.set i x=l:=by
 have hi:=(List.getElem?_eq_some_iff.1 h).1;refine Jal fun j=>?_;rw[Jad];by_cases hij:i=j
 ·subst hij;rw[if_pos rfl,if_pos hi,h]
 ·rw[if_neg hij]
theorem Qaeb {a b:List Bool}(hl:a.length=b.length)(h:∀r,a.getD r false=true→b.getD r false=true):cnt a≤cnt b∧(∀r,a.getD r false≠b.getD r false→cnt a<cnt b):=by
 induction a generalizing b with
 |nil=>
  cases b with
  |nil=>exact⟨Je _,fun r hr=>absurd rfl hr⟩
  |cons=>simp at hl
 |cons x a ih=>
  cases b with
  |nil=>simp at hl
  |cons y b=>
   have ih':=ih (b:=b) (by simpa using hl) fun r hr=>by have:=h (r+1);simpa using this (by simpa using hr)
   have h0:x=true→y=true:=by have:=h 0;simpa using this
   have hc:∀(z:Bool) (l:List Bool),cnt (z::l)=cnt l+(if z=true then 1 else 0):=fun z l=>by
    simp only[cnt,Jba];cases z <;> simp
   rw[hc,hc];refine⟨?_,fun r hr=>?_⟩
   ·cases x with
    |false=>have:=ih'.1;cases y <;> simp <;> omega
    |true=>rw[h0 rfl];have:=ih'.1;simp;omega
   ·cases r with
    |zero=>
     have hxy:x≠y:=by simpa using hr
     cases x with
     |true=>exact absurd (h0 rfl).symm hxy
     |false=>
      cases y with
      |false=>exact absurd rfl hxy
      |true=>have:=ih'.1;simp;omega
    |succ r=>
     have:=ih'.2 r (by simpa using hr)
     cases x with
     |false=>cases y <;> simp <;> omega
     |true=>rw[h0 rfl];simp;omega
def Qnn (zs:List (Nat×List Bool)):Nat:=(zs.map fun p=>cnt p.2).sum
theorem Qbdd {b:Nat}{x:Nat×List Bool}(h:b<zs.length):Qnn (zs.set b x)+cnt zs[b].2=Qnn zs+cnt x.2:=by
 induction zs generalizing b with
 |nil=>simp at h
 |cons z zs ih=>
  cases b with
  |zero=>simp[Qnn];omega
  |succ b=>
   have:=ih (b:=b) (by simpa using h);simp only[Qnn,Jaj,Jo,Jar,List.getElem_cons_succ]at this⊢;omega
theorem Qawl {R:Nat}(h:∀p∈zs,p.2.length=R):Qnn zs≤zs.length * R:=by
 induction zs with
 |nil=>simp[Qnn]
 |cons z zs ih=>
  have h1:=Qbvl z.2;rw[h z Ju]at h1;have h2:=ih fun p hp=>h p (Jt _ hp);simp only[Qnn,Jo,Jar,Js,Ja7]at *;omega
structure LvInv (F:Flo)(zi zo:List (Nat×List Bool)):Prop where
 bi:∀b,b<F.n→∀r,tab zi b r→F.LI b r
 bo:∀b,b<F.n→∀r,tab zo b r→F.LO b r
 post:∀b,b<F.n→∀r,tab zi b r→F.thru (tab zo b) b r
def LvCl (F:Flo)(zi zo:List (Nat×List Bool))(b:Nat):Prop:=(∀r,F.outT (tab zi) b r→tab zo b r)∧∀r,F.thru (tab zo b) b r→tab zi b r
theorem LvInv.done (h:LvInv F zi zo)(hf:F.fits)(hc:∀b,b<F.n→LvCl F zi zo b):∀b,b<F.n→∀r,(tab zi b r↔F.LI b r)∧(tab zo b r↔F.LO b r):=by
 have hp:F.Pre (tab zi):=fun b hb r hr=>(hc b hb).2 r (Flo.thru_mono (hc b hb).1 b r hr);intro b hb r;refine⟨Flo.is_least hp h.bi hb r,h.bo b hb r,fun hr=>(hc b hb).1 r ?_⟩;exact Flo.outT_mono hf (fun c hc r hr=>(Flo.is_least hp h.bi hc r).2 hr) hb r hr
theorem LvInv.step {R z w y b:Nat}{bs bw bs1 nb:List Bool}{a a1 a2:Bool}(h:LvInv F zi zo)(hf:F.fits)(hb:b<F.n)(hil:zi.length=F.n)(hol:zo.length=F.n)(hRi:∀p∈zi,p.2.length=R)(hRo:∀p∈zo,p.2.length=R)
  (hl1:bs1.length=R) (hln:nb.length=R) (hzo:zo[b]? = some (z,bs)) (hzi:zi[b]? = some (w,bw))
  (g1:∀r,bs.getD r false=true→bs1.getD r false=true) (g2:∀r,bs1.getD r false=true→F.LO b r) (g3:∀r,F.outT (tab zi) b r→bs1.getD r false=true)
  (g4:∀r,nb.getD r false=true↔F.thru (fun r=>bs1.getD r false=true) b r)
  (k1:a1=true→a=true∨cnt bs<cnt bs1) (k2:a1=false→a=false∧bs1=bs)
  (k3:a2=true→a1=true∨∃r,nb.getD r false≠bw.getD r false) (k4:a2=false→a1=false∧∀r,r<R→nb.getD r false=bw.getD r false) :
  LvInv F (zi.set b (y,nb)) (zo.set b (z,bs1))∧Qnn zi+Qnn zo≤Qnn (zi.set b (y,nb))+Qnn (zo.set b (z,bs1))∧
   (a2=true→a=true∨Qnn zi+Qnn zo<Qnn (zi.set b (y,nb))+Qnn (zo.set b (z,bs1)))∧
   (a2=false→a=false∧LvCl F (zi.set b (y,nb)) (zo.set b (z,bs1)) b∧∀c,LvCl F zi zo c→LvCl F (zi.set b (y,nb)) (zo.set b (z,bs1)) c):=by
 have hbi:b<zi.length:=by omega
 have hbo:b<zo.length:=by omega
 have ezo:zo[b]=(z,bs):=by rw[Jg hbo]at hzo;simpa using hzo
 have ezi:zi[b]=(w,bw):=by rw[Jg hbi]at hzi;simpa using hzi
 have hlb:bs.length=R:=hRo (z,bs) (by rw[←ezo];exact Jd hbo);have hlw:bw.length=R:=hRi (w,bw) (by rw[←ezi];exact Jd hbi);have tzo:∀r,tab zo b r↔bs.getD r false=true:=fun r=>by rw[Qbmr hbo,ezo]
 have tzi:∀r,tab zi b r↔bw.getD r false=true:=fun r=>by rw[Qbmr hbi,ezi]
 have tzo':∀r,tab (zo.set b (z,bs1)) b r↔bs1.getD r false=true:=fun r=>Qbda hbo r;have tzi':∀r,tab (zi.set b (y,nb)) b r↔nb.getD r false=true:=fun r=>Qbda hbi r;have hsub:∀r,bw.getD r false=true→nb.getD r false=true:=fun r hr=>by
  rw[g4];exact Flo.thru_mono (fun r hr=>g1 r ((tzo r).1 hr)) b r (h.post b hb r ((tzi r).2 hr))
 have c1:=Qaeb (a:=bs) (b:=bs1) (by omega) g1;have c2:=Qaeb (a:=bw) (b:=nb) (by omega) hsub;have t1:=Qbdd (zs:=zo) (x:=(z,bs1)) hbo;have t2:=Qbdd (zs:=zi) (x:=(y,nb)) hbi;rw[ezo]at t1;rw[ezi]at t2;simp only at t1 t2;refine⟨⟨fun c hc r hr=>?_,fun c hc r hr=>?_,fun c hc r hr=>?_⟩,by have:=c1.1;have:=c2.1;omega,fun ha=>?_,fun ha=>?_⟩
 ·by_cases hcb:c=b
  ·subst hcb;rw[tzi',g4]at hr;exact Flo.LI_pre hf c hb r (Flo.thru_mono g2 c r hr)
  ·rw[Qxq hcb]at hr;exact h.bi c hc r hr
 ·by_cases hcb:c=b
  ·subst hcb;rw[tzo']at hr;exact g2 r hr
  ·rw[Qxq hcb]at hr;exact h.bo c hc r hr
 ·by_cases hcb:c=b
  ·subst hcb;rw[tzi',g4]at hr;exact Flo.thru_mono (fun r hr=>(tzo' r).2 hr) c r hr
  ·rw[Qxq hcb]at hr⊢;exact h.post c hc r hr
 ·rcases k3 ha with h1|⟨r,hr⟩
  ·rcases k1 h1 with h2|h2
   ·exact .inl h2
   ·right;have:=c2.1;omega
  ·right;have:=c2.2 r (fun e=>hr e.symm);have:=c1.1;omega
 ·obtain⟨h1,h2⟩:=k4 ha;obtain⟨h3,h4⟩:=k2 h1;have hnb:∀r,nb.getD r false=bw.getD r false:=fun r=>by
   by_cases hr:r<R
   ·exact h2 r hr
   ·rw[Jb,Jb,Jr (by omega),Jr (by omega)]
  have ti:tab (zi.set b (y,nb))=tab zi:=by
   funext c r
   by_cases hcb:c=b
   ·subst hcb;refine propext ?_;rw[tzi',tzi,hnb]
   ·rw[Qxq hcb]
  have to:tab (zo.set b (z,bs1))=tab zo:=by
   funext c r
   by_cases hcb:c=b
   ·subst hcb;refine propext ?_;rw[tzo',tzo,h4]
   ·rw[Qxq hcb]
  refine⟨h3,⟨fun r hr=>?_,fun r hr=>?_⟩,fun c hc=>?_⟩
  ·rw[ti]at hr;exact (tzo' r).2 (g3 r hr)
  ·rw[tzi',g4];exact Flo.thru_mono (fun r hr=>(tzo' r).1 hr) b r hr
  ·rw[LvCl,ti,to];exact hc
end Go.AE.Y
namespace Go.AE.Y
attribute [local go_sem] cond_true cond_false Bool.not_true Bool.not_false
open Go.Proofs.Tryz
variable {H H0 F:Heap}{K:V→Heap→Prop}{E L:List (Nat×Obj)}
def Qb8 (R:Nat)(zs:List (Nat×List Bool)):List (List C):=zs.map fun p=>[.vsl p.1 1 0 R]
def obZ (zs:List (Nat×List Bool)):List (Nat×Obj):=zs.map fun p=>(p.1,.vec 1 (Qy p.2))
theorem Qa2 (R:Nat)(zs:List (Nat×List Bool)):(Qb8 R zs).length=zs.length:=by simp[Qb8]
theorem Qeh (R:Nat)(zs:List (Nat×List Bool))(i:Nat)(h:i<zs.length):(Qb8 R zs).getD i []=[.vsl zs[i].1 1 0 R]:=by simp[Qb8,Jb,h]
theorem Qayn {R:Nat}{zs:List (Nat×List Bool)}{i:Nat}{x:Nat×List Bool}(h:i<zs.length)(hx:x.1=zs[i].1):Qb8 R (zs.set i x)=Qb8 R zs:=by
 rw[Qb8,J4,hx];refine Jal fun j=>?_;rw[Jad];split
 ·subst_vars;rw[if_pos (by simpa using h)];simp[Qb8,h]
 ·rfl
def lvE (R yi yo:Nat)(zi zo:List (Nat×List Bool)):List (Nat×Obj):=[(yi,.vec 1 (Qb8 R zi)),(yo,.vec 1 (Qb8 R zo))]++(obZ zi++obZ zo)
variable {R yi yo:Nat}{zi zo:List (Nat×List Bool)}
theorem Qbxp {b:Nat}(hb:b<zo.length):(lvE R yi yo zi zo)[2+zi.length+b]? = some (zo[b].1,.vec 1 (Qy zo[b].2)):=by
 have:2+zi.length+b=(zi.length+b)+1+1:=by omega
 rw[lvE,this];simp only[Jz,J0,List.getElem?_cons_succ];rw[List.getElem?_append_right (by simp[obZ])];simp[obZ,hb]
theorem Qbty {b z:Nat}{bs:List Bool}(hb:b<zo.length)(hz:zo[b].1=z):(lvE R yi yo zi zo).set (2+zi.length+b) (z,.vec 1 (Qy bs))=lvE R yi yo zi (zo.set b (z,bs)):=by
 have:2+zi.length+b=(zi.length+b)+1+1:=by omega
 rw[lvE,lvE,this,Qayn hb hz.symm];simp only[Jz,J0,Jaj];rw[List.set_append_right _ _ (by simp[obZ])];simp[obZ,J4]
theorem Qasw {b m z w:Nat}{bs nb:List Bool}(kn:Kn F H (lvE R yi yo zi (zo.set b (z,bs))) L)(hb:b<zo.length)(hz:zo[b].1=z)(hm:m<zi.length)(hw:zi[m]=(w,nb)) :
  H yi=.vec 1 (Qb8 R zi)∧H yo=.vec 1 (Qb8 R zo)∧H z=.vec 1 (Qy bs)∧H w=.vec 1 (Qy nb):=by
 refine⟨(kn.get (yi,.vec 1 (Qb8 R zi)) (by simp[lvE])).1,?_,(kn.get (z,.vec 1 (Qy bs)) ?_).1,(kn.get (w,.vec 1 (Qy nb)) ?_).1⟩
 ·rw[←Qayn (R:=R) (x:=(z,bs)) hb hz.symm];exact (kn.get (yo,.vec 1 (Qb8 R (zo.set b (z,bs)))) (by simp[lvE])).1
 ·refine Ji _ (Jj _ (Jj _ (Jk.2 ⟨(z,bs),?_,rfl⟩)));exact Jah.2 ⟨b,by simpa using hb,by simp⟩
 ·exact Ji _ (Jj _ (Ji _ (Jk.2 ⟨(w,nb),by rw[←hw];exact Jd hm,rfl⟩)))
theorem Qbtx {b z:Nat}{bs bs2:List Bool}{H':Heap}(kn:Kn F H (lvE R yi yo zi (zo.set b (z,bs))) L)(hb:b<zo.length)(h:H'=H.set z (.vec 1 (Qy bs2))):Kn F H' (lvE R yi yo zi (zo.set b (z,bs2))) L:=by
 have hb':b<(zo.set b (z,bs)).length:=by simpa using hb
 have:=kn.stE (2+zi.length+b) (x:=z) (o:=.vec 1 (Qy bs)) (by have h:=Qbxp (R:=R) (yi:=yi) (yo:=yo) (zi:=zi) hb';simpa using h) h;rw[Qbty hb' (by simp),Jax]at this;exact this
theorem Qbji {b z:Nat}{bs bs2:List Bool}:(lvE R yi yo zi (zo.set b (z,bs))).map Prod.fst=(lvE R yi yo zi (zo.set b (z,bs2))).map Prod.fst:=by
 have e:∀bs:List Bool,(obZ (zo.set b (z,bs))).map Prod.fst=(zo.map Prod.fst).set b z:=fun bs=>by
  simp only[obZ,J4,Jbh];rfl
 simp only[lvE,Jw,Jo,Jaa,e]
theorem Q4w {bs:List Bool}{r:Nat}(h:bs.getD r false=true):bs.set r true=bs:=by
 refine Jal fun j=>?_;rw[Jad];split
 ·subst_vars
  rw[Jb]at h;split
  ·rename_i hl;rw[Jg hl]at h⊢;simp at h;rw[h]
  ·rename_i hl;rw[Jr (by omega)]
 ·rfl
structure lvOk (R n:Nat)(zi zo:List (Nat×List Bool)):Prop where
 i:zi.length=n
 o:zo.length=n
 li:∀p∈zi,p.2.length=R
 lo:∀p∈zo,p.2.length=R
set_option maxHeartbeats 4000000 in
theorem Qbi5 {q:CodeD}{bc:C}{Xs:List Nat}{b m z:Nat}{bs nb:List Bool}{w:Nat}(ho:q.ok)(hbc:CodeR F Xs bc q)(hX:∀x∈(lvE q.regs.toNat yi yo zi zo).map Prod.fst,x∈Xs)(hb:b<q.blocks.length)(hmx:(m:Int)∈gnx q b)(hok:lvOk q.regs.toNat q.blocks.length zi zo)
  (hz:zo[b]? = some (z,bs)) (hw:zi[m]? = some (w,nb)) {O I:RS'} (hO:Mem bs O) (hI:Mem nb I)
  (kn:Kn F H (lvE q.regs.toNat yi yo zi zo) [])
  (hK:∀(bs':List Bool) (a:Bool) H',bs'.length=q.regs.toNat→Mem bs' (fun r=>O r∨I r∨r∈(Q6 q).ea b m)→(a=true→cnt bs<cnt bs')→(a=false→bs'=bs)→Kn F H' (lvE q.regs.toNat yi yo zi (zo.set b (z,bs'))) []→K (.c (.bool a)) H') :
  Qr prog Q5e [.ag [.int .i64 q.params,.int .i64 q.regs,bc],.ag [.vsl yi 1 0 q.blocks.length,.vsl yo 1 0 q.blocks.length],.c (.int .i64 b),.c (.int .i64 m)] H K:=by
 have hr0:=ho.r0;have hr1:=ho.r1;have hb1:=ho.b1;have hmb:m<q.blocks.length:=by
  have:=(ho.bs b hb).nx (m:Int) (by rw[←Qaew hb];exact hmx);omega
 have hix:=ho.ix hb hmx;have hpe:(b:Int)∈Qav (gnx q) (m:Int) q.blocks.length:=Jam.1 hix;obtain⟨y,hy⟩:∃y,q.blocks[m]=y:=⟨_,rfl⟩;have hyo:y.ok q m:=by rw[←hy];exact ho.bs m hmb
 have hil:y.ins.length≤1200∧y.phis.length≤1200:=by rw[←hy];exact ho.il m hmb
 have hea:(Q6 q).ea b m=y.phis.map fun p=>(p.args.getD ((Qav (gnx q) (m:Int) q.blocks.length).idxOf (b:Int)) 0).toNat:=by rw[Qar9 hmb,hy]
 generalize hat:(Qav (gnx q) (m:Int) q.blocks.length).idxOf (b:Int)=at_ at *;have hbo:b<zo.length:=by rw[hok.o];exact hb
 have hmi:m<zi.length:=by rw[hok.i];exact hmb
 have hz':zo[b]=(z,bs):=by rw[Jg hbo]at hz;simpa using hz
 have hw':zi[m]=(w,nb):=by rw[Jg hmi]at hw;simpa using hw
 have hz1:zo[b].1=z:=by rw[hz']
 have hw1:zi[m].1=w:=by rw[hw']
 have hbl:bs.length=q.regs.toNat:=hok.lo (z,bs) (by rw[←hz'];exact Jd hbo);have hnl:nb.length=q.regs.toNat:=hok.li (w,nb) (by rw[←hw'];exact Jd hmi);have hzl:=hok.o;have hil2:=hok.i;have hset:zo.set b (z,bs)=zo:=Qa3w hz;have htk:∀(bs1:List Bool),bs1.length=q.regs.toNat→(Qy bs1).take q.regs.toNat=Qy bs1:=fun bs1 h=>Jc (by rw[Qab];omega);have htz:∀(zs:List (Nat×List Bool)),zs.length=q.blocks.length→(Qb8 q.regs.toNat zs).take q.blocks.length=Qb8 q.regs.toNat zs:=fun zs h=>Jc (by rw[Qa2];omega);rw[←hset]at kn hX;have hbw:=hbc.ow;have hX2:∀(bs1:List Bool),∀x∈(lvE q.regs.toNat yi yo zi (zo.set b (z,bs1))).map Prod.fst,x∈Xs:=fun bs1 x hx=>hX x (by rw[Qbji (bs2:=bs)]at hx;exact hx);obtain⟨hyi,hyo',hzz,hww⟩:=Qasw kn hbo hz1 hmi hw';refine Qc Qal Qbjr ?_;refine Qa ?_;simp only[go_sem,hbw];refine Qa ?_;simp only[go_sem,hbw,hyi,hww,htz _ hil2,htk _ hnl,Qa2,Qeh _ _ _ hmi,hw1,hmb,hil2,Qab,hnl,Jl,Je,J0,Jy];refine⟨.inl trivial,Qso _,by simp only[LIM];omega,fun y9 hy9 H1 h1=>?_⟩;have kn:=kn.al hy9 h1;simp only[go_sem,Q9d,hbw];refine Qa ?_;simp only[go_sem,hbw];refine Qae3 (rows:=Qn q.blocks) (nx:=gnx q) (hbc.rd kn hX) hbw (Qadw H1 q false).x fun H2 hu=>?_;have kn:=kn.call0 hu;rw[Ql];simp only[go_sem,Q9f];refine Qbi1 (.mk' _ _ _ _) rfl fun r hr=>?_;have hr:=hr.idx hpe;rw[hat]at hr;subst hr;simp only[go_sem,Q9e];refine Qaa ?_;refine Qa ?_;simp only[go_sem];refine Qh (Qe (Qx (fun m1 e1 H1=>∃(i:Nat) (nb1:List Bool),m1=y.phis.length-i∧i≤y.phis.length∧nb1.length=q.regs.toNat∧Mem nb1 (fun r=>I r∨r∈((Q6 q).ea b m).take i)∧Kn F H1 (lvE q.regs.toNat yi yo zi (zo.set b (z,bs))) [(y9,.vec 1 (Qy nb1))]∧
  e1=[(2,.c (.int .i64 b)),(3,.c (.int .i64 m)),(4,.c (.pp [.int .i64 q.params,.int .i64 q.regs,bc])),(5,.c (.pp [.vsl yi 1 0 q.blocks.length,.vsl yo 1 0 q.blocks.length])),(9,.c (.vsl y9 1 0 q.regs.toNat)),(10,.c (.int .i64 at_)),(11,.c (.int .i64 i))]) y.phis.length ?_ ?_))
 ·exact⟨0,nb,by omega,by omega,hnl,hI.congr fun r=>by simp,kn,rfl⟩
 ·rintro m1 e1 H3 ⟨i,nb1,hm1,hi,hnl,hN,kn,rfl⟩;have hy9:=kn.l 0 rfl;obtain⟨hbok,hbln,hbsz,hbrw⟩:=hbc.facts kn (hX2 bs);refine Qaa ?_;refine Qa ?_;simp only[go_sem,hbw,hbok,hbln,hbsz,hbrw,hmb,Ql,Q1 _ _ hmb,hy,BlkD.cells,Qv];intro _;refine Qh (Qd rfl ?_ ?_)
  ·intro hc;have hlt:i<y.phis.length:=by simpa using hc
   have hpal:=hyo.pal _ (Jd hlt);have hal:at_<y.phis[i].args.length:=by omega
   obtain⟨hv,hvl⟩:=(hyo.pargs _ (Jd hlt) _ (Qs6 hal)).nat;have htk2:((Q6 q).ea b m).take (i+1)=((Q6 q).ea b m).take i++[(y.phis[i].args.getD at_ 0).toNat]:=by
    rw[Jf (by rw[hea,Jm];exact hlt)];simp[hea]
   have hvl':(y.phis[i].args.getD at_ 0).toNat<nb1.length:=by omega
   generalize hr:(y.phis[i].args.getD at_ 0).toNat=r at *;refine Qg ?_;try simp only[go_sem]
   refine Qh (Qe ?_);refine Qt ?_;simp only[go_sem,hbw,hbok,hbln,hbsz,hbrw,hmb,Ql,Q1 _ _ hmb,hy,BlkD.cells,Qv,hlt,Qau _ _ hlt,PhiD.cells,hal,Qf,Qu _ _ hal,hv,hvl,hy9,htk _ hnl,Qab,hnl,Qf6,Qax _ _ hvl',Jl,Je];intro H4 h4;have kn:=kn.stL 0 rfl h4;refine Qt ?_;simp only[go_sem,X.next];refine⟨Qs (by omega) (by omega),y.phis.length-(i+1),by omega,i+1,_,rfl,by omega,by rw[Jp];exact hnl,?_,kn,rfl⟩;refine (hN.ins (by omega)).congr fun x=>?_;rw[htk2];simp only[Jh,Ja];constructor
   ·rintro (h|h|h)
    ·exact .inr (.inr h)
    ·exact .inl h
    ·exact .inr (.inl h)
   ·rintro (h|h|h)
    ·exact .inr (.inl h)
    ·exact .inr (.inr h)
    ·exact .inl h
  ·intro hc;have hge:y.phis.length≤i:=by simpa using hc
   have hN:Mem nb1 (fun r=>I r∨r∈(Q6 q).ea b m):=hN.congr fun r=>by rw[Jc (by rw[hea,Jm];exact hge)]
   refine Qw ?_;simp only[go_sem,X.next];refine Qa ?_;simp only[go_sem];refine Qaa ?_;refine Qa ?_;simp only[go_sem];refine Qh (Qe (Qx (fun m1 e1 H1=>∃(i:Nat) (bs1:List Bool) (more:Bool),m1=q.regs.toNat-i∧i≤q.regs.toNat∧bs1.length=q.regs.toNat∧Mem bs1 (fun r=>O r∨(r<i∧(I r∨r∈(Q6 q).ea b m)))∧(more=true→cnt bs<cnt bs1)∧(more=false→bs1=bs)∧
    Kn F H1 (lvE q.regs.toNat yi yo zi (zo.set b (z,bs1))) [(y9,.vec 1 (Qy nb1))]∧
    e1=[(2,.c (.int .i64 b)),(4,.c (.pp [.int .i64 q.params,.int .i64 q.regs,bc])),(5,.c (.pp [.vsl yi 1 0 q.blocks.length,.vsl yo 1 0 q.blocks.length])),(9,.c (.vsl y9 1 0 q.regs.toNat)),(12,.c (.bool more)),(13,.c (.int .i64 i))]) q.regs.toNat ?_ ?_))
   ·exact⟨0,bs,false,by omega,by omega,hbl,hO.congr fun r=>by simp,by simp,fun _=>rfl,kn,rfl⟩
   ·rintro m1 e1 H4 ⟨i,bs1,more,hm1,hi,hbl1,hB,hmt,hmf,kn,rfl⟩;have hy9:=kn.l 0 rfl;obtain⟨hyi,hyo',hzz,hww⟩:=Qasw kn hbo hz1 hmi hw';refine Qaa ?_;refine Qa ?_;simp only[go_sem];refine Qh (Qd rfl ?_ ?_)
    ·intro hc;have hlt:i<q.regs.toNat:=(by have:(i:Int)<q.regs:=(by simpa using hc);omega);have hlt':i<nb1.length:=(by omega);have hlt2:i<bs1.length:=(by omega);refine Qg ?_;try simp only[go_sem]
     refine Qd3 (fun e2 H2=>∃(bs2:List Bool) (more:Bool),bs2.length=q.regs.toNat∧Mem bs2 (fun r=>O r∨(r<i+1∧(I r∨r∈(Q6 q).ea b m)))∧(more=true→cnt bs<cnt bs2)∧(more=false→bs2=bs)∧
      Kn F H2 (lvE q.regs.toNat yi yo zi (zo.set b (z,bs2))) [(y9,.vec 1 (Qy nb1))]∧
      lk 2 e2=.c (.int .i64 b)∧lk 4 e2=.c (.pp [.int .i64 q.params,.int .i64 q.regs,bc])∧lk 5 e2=.c (.pp [.vsl yi 1 0 q.blocks.length,.vsl yo 1 0 q.blocks.length])∧lk 9 e2=.c (.vsl y9 1 0 q.regs.toNat)∧lk 12 e2=.c (.bool more)∧lk 13 e2=.c (.int .i64 i)) ?_ ?_
     ·intro Q hnr _ _;refine Qe ?_;refine Qa ?_;simp only[go_sem,hy9,hlt,htk _ hnl,Qab,hnl,Qax _ _ hlt',Jl,Je];refine Qd rfl ?_ ?_
      ·intro hc2;have hneed:=(hN i).1 hc2;have hMem:Mem (bs1.set i true) (fun r=>O r∨(r<i+1∧(I r∨r∈(Q6 q).ea b m))):=(hB.ins hlt2).congr fun r=>by
        constructor
        ·rintro (rfl|h|h)
         ·exact .inr ⟨by omega,hneed⟩
         ·exact .inl h
         ·exact .inr ⟨by omega,h.2⟩
        ·rintro (h|h)
         ·exact .inr (.inl h)
         ·by_cases hri:r=i
          ·exact .inl hri
          ·exact .inr (.inr ⟨by omega,h.2⟩)
       have hset2:∀(e:Env),lk 2 e=.c (.int .i64 b)→lk 4 e=.c (.pp [.int .i64 q.params,.int .i64 q.regs,bc])→lk 5 e=.c (.pp [.vsl yi 1 0 q.blocks.length,.vsl yo 1 0 q.blocks.length])→lk 9 e=.c (.vsl y9 1 0 q.regs.toNat)→lk 12 e=.c (.bool (bif more then true else !bs1.getD i false))→lk 13 e=.c (.int .i64 i)→
         Qam prog Qahh (X.inBlock 3 Q) e H4:=by
        intro e l2 l4 l5 l9 l12 l13;refine Qt ?_;simp only[go_sem,l2,l4,l5,l9,l12,l13,hyo',hzz,htz _ hzl,htk _ hbl1,Qa2,Qeh _ _ _ hbo,hz1,hb,hzl,hlt,Qab,hbl1,Qf6,Qax _ _ hlt2,Jl,Je];intro H5 h5;refine hnr _ _ ⟨bs1.set i true,_,by rw[Jp];exact hbl1,hMem,?_,?_,Qbtx kn hbo h5,rfl,rfl,rfl,rfl,rfl,rfl⟩
        ·intro hmo
         cases hg:bs1.getD i false with
         |true=>
          rw[Q4w hg];rw[hg]at hmo
          cases hmm:more with
          |true=>exact hmt hmm
          |false=>rw[hmm]at hmo;simp at hmo
         |false=>
          rw[Qbsq hlt2 hg]
          cases hmm:more with
          |true=>have:=hmt hmm;omega
          |false=>rw[hmf hmm];omega
        ·intro hmo
         cases hmm:more with
         |true=>rw[hmm]at hmo;simp at hmo
         |false=>
          rw[hmm]at hmo;have hg:bs1.getD i false=true:=(by simpa using hmo);rw[Q4w hg];exact hmf hmm
       cases hmm:more with
       |true=>
        refine Qa ?_;simp only[go_sem,hyo',hzz,htz _ hzl,htk _ hbl1,Qa2,Qeh _ _ _ hbo,hz1,hb,hzl,hlt,Qab,hbl1,Qax _ _ hlt2,Jl,Je];exact hset2 _ rfl rfl rfl rfl (by rw[hmm];rfl) rfl
       |false=>
        refine Qa ?_;simp only[go_sem,hyo',hzz,htz _ hzl,htk _ hbl1,Qa2,Qeh _ _ _ hbo,hz1,hb,hzl,hlt,Qab,hbl1,Qax _ _ hlt2,Jl,Je];exact hset2 _ rfl rfl rfl rfl (by rw[hmm];rfl) rfl
      ·intro hc2;refine Qg ?_;try simp only[go_sem]
       refine hnr _ _ ⟨bs1,more,hbl1,hB.congr fun r=>?_,hmt,hmf,kn,rfl,rfl,rfl,rfl,rfl,rfl⟩;constructor
       ·rintro (h|h)
        ·exact .inl h
        ·exact .inr ⟨by omega,h.2⟩
       ·rintro (h|h)
        ·exact .inl h
        ·by_cases hri:r=i
         ·subst hri;have:=(hN r).2 h.2;rw[this]at hc2;exact absurd hc2 (by simp)
         ·exact .inr ⟨by omega,h.2⟩
     ·rintro e2 H5 ⟨bs2,more2,hbl2,hB2,hmt2,hmf2,kn,l2,l4,l5,l9,l12,l13⟩;refine Qt ?_;simp only[go_sem,X.next,l2,l4,l5,l9,l12,l13];exact⟨Qs (by omega) (by omega),q.regs.toNat-(i+1),by omega,i+1,bs2,more2,rfl,by omega,hbl2,hB2,hmt2,hmf2,kn,rfl⟩
    ·intro hc;have hge:q.regs.toNat≤i:=(by have:q.regs≤(i:Int):=(by simpa using hc);omega);refine Qw ?_;simp only[go_sem,X.next];refine Qa ?_;simp only[go_sem];refine Qk ?_;simp only[go_sem,Q5,Qae,Qayb,Ja,forall_eq,RS.op];refine hK bs1 more H4 hbl1 (hB.congr fun r=>?_) hmt hmf (kn.drop (A:=[]));constructor
     ·rintro (h|h)
      ·exact .inl h
      ·exact .inr h.2
     ·rintro (h|h)
      ·exact .inl h
      ·have:r<nb1.length:=hN.lt h;exact .inr ⟨by omega,h⟩
end Go.AE.Y
namespace Go.AE.Y
attribute [local go_sem] cond_true cond_false Bool.not_true Bool.not_false
open Go.Proofs.Tryz
variable {H H0 F:Heap}{K:V→Heap→Prop}{E L:List (Nat×Obj)}
def Qib (zs:List (Nat×List Bool)):List (List C):=zs.map fun p=>[.sl false 1 (Qy p.2)]
theorem Qaf5 (zs:List (Nat×List Bool)):(Qib zs).length=zs.length:=by simp[Qib]
theorem Q55 (zs:List (Nat×List Bool))(i:Nat)(h:i<zs.length):(Qib zs).getD i []=[.sl false 1 (Qy zs[i].2)]:=by simp[Qib,Jb,h]
theorem Qaym {S:Nat→Bool}{R:Nat}{zs:List (Nat×List Bool)}(hl:∀p∈zs,p.2.length=R)(hH:∀p∈obZ zs,H p.1=p.2∧S p.1=true):FrzR H S (Qb8 R zs) (Qib zs):=by
 induction zs with
 |nil=>exact .nil
 |cons z zs ih=>
  have h1:=hH (z.1,.vec 1 (Qy z.2)) (by simp[obZ]);refine .cons (.cons ?_ .nil) (ih (fun p hp=>hl p (Jt _ hp)) fun p hp=>hH p (by simp only[obZ,Jo];exact Jt _ hp));exact (FrzR.same (Qso _)).vsl h1.2 h1.1 (by rw[Qab];exact (hl z Ju).symm)
theorem Qbrk {α:Type}{l:List α}{i:Nat}{x:α}(h:i<l.length):(l++[x]).Perm (l.set i x++[l[i]]):=by
 have e:∀(m:List α) (hm:i<m.length),m.Perm (m[i]::m.eraseIdx i):=fun m hm=>by
  have h1:(m[i]::m.eraseIdx i).Perm m:=by
   rw[List.eraseIdx_eq_take_drop_succ];refine List.perm_middle.symm.trans ?_;rw[←J7 hm,Jaf]
  exact h1.symm
 have h1:=e l h;have h2:=e (l.set i x) (by simpa using h);simp only[Jaw,List.eraseIdx_set_eq]at h2;refine (h1.append_right [x]).trans ?_;refine List.Perm.trans ?_ (h2.append_right [l[i]]).symm;simp only[Jz];refine (List.Perm.cons _ J2).trans ?_;refine List.Perm.trans ?_ (List.Perm.cons _ J2);exact List.Perm.swap _ _ _
def Qbtv (q:CodeD)(zi zo:List (Nat×List Bool)):Prop:=lvOk q.regs.toNat q.blocks.length zi zo∧∀b,b<q.blocks.length→∀r,(tab zi b r↔(Q6 q).LI b r)∧(tab zo b r↔(Q6 q).LO b r)
theorem Qaff {zs:List (Nat×List Bool)}{b:Nat}(h:b<zs.length):Mem zs[b].2 (tab zs b):=fun r=>(Qbmr h r).symm
theorem Qaf4 (n r:Nat):(List.replicate n false).getD r false=false:=by
 rw[Jb,Jaq];split <;> rfl
def Qxr (x2 x3 yi yo n:Nat):List (Nat×Obj):=[(x2,.st [.sl true 1 [],.sl true 1 []]),(x3,.st [.vsl yi 1 0 n,.vsl yo 1 0 n])]
set_option maxHeartbeats 4000000 in
theorem Qbi8 {q:CodeD}{bc:C}(ho:q.ok)(hbc:CodeR H [] bc q)
  (hK:∀(zi zo:List (Nat×List Bool)) H',Upd H H' []→Qbtv q zi zo→K (.ag [.sl false 1 (Qib zi),.sl false 1 (Qib zo)]) H') :
  Qr prog Ql3 [.ag [.int .i64 q.params,.int .i64 q.regs,bc]] H K:=by
 have hr0:=ho.r0;have hr1:=ho.r1;have hb0:=ho.b0;have hb1:=ho.b1;have hfit:=ho.fitsF;have hFn:(Q6 q).n=q.blocks.length:=rfl;obtain⟨R,hR⟩:∃R,q.regs.toNat=R:=⟨_,rfl⟩;obtain⟨n,hn⟩:∃n,q.blocks.length=n:=⟨_,rfl⟩;have hRq:q.regs=(R:Int):=by omega
 refine Q3 ?_;have hbw:=hbc.ow;refine Qc Qal Qbju ?_;refine Qa ?_;simp only[go_sem,hbw];intro x2 hx2 H1 h1;have kn:=(Kn.start0 H).al hx2 h1;refine Qa ?_;simp only[go_sem,hbw];intro x3 hx3 H2 h2;have kn:=kn.al hx3 h2;have hx3:=kn.l 1 rfl;simp only[go_sem,Q9j,hx3];intro H3 h3;have kn:Kn H H3 [] [(x2,.st [.sl true 1 [],.sl true 1 []]),(x3,.st [.sl true 1 [],.sl true 1 []])]:=kn.stL 1 rfl h3;refine Qa ?_;obtain⟨hbok,hbln,hbsz,hbrw⟩:=hbc.facts kn (by simp);simp only[go_sem,hbw,hbok,hbln,hbsz,hbrw,hn];clear hbok hbrw;intro _;refine Qaa ?_;refine Qa ?_;simp only[go_sem];refine Qh (Qe (Qx (fun m e1 H1=>∃(i:Nat) (zi zo:List (Nat×List Bool)) (ci co:C) (Li Lo:List (Nat×Obj)),m=n-i∧i≤n∧zi.length=i∧zo.length=i∧(∀p∈zi,p.2=List.replicate R false)∧(∀p∈zo,p.2=List.replicate R false)∧
  Gr Li 1 (Qb8 R zi) ci∧Gr Lo 1 (Qb8 R zo) co∧Kn H H1 [] ([(x2,.st [.sl true 1 [],.sl true 1 []]),(x3,.st [ci,co])]++(obZ zi++(obZ zo++(Li++Lo))))∧
  e1=[(1,.c (.pp [.int .i64 q.params,.int .i64 q.regs,bc])),(2,.c (.ptr x2 0)),(3,.c (.ptr x3 0)),(4,.c (.int .i64 n)),(5,.c (.int .i64 i))]) n ?_ ?_))
 ·exact⟨0,[],[],_,_,[],[],by omega,by omega,rfl,rfl,by simp,by simp,.nil 1,.nil 1,kn,rfl⟩
 ·rintro m e1 H4 ⟨i,zi,zo,ci,co,Li,Lo,hm,hi,hzil,hzol,hzi,hzo,hgi,hgo,kn,rfl⟩;refine Qaa ?_;refine Qa ?_;simp only[go_sem];refine Qh (Qd rfl ?_ ?_)
  ·intro hc;have hlt:i<n:=by simpa using hc
   have hciw:=hgi.isOw;have hcow:=hgo.isOw;have hx3:=kn.l 1 rfl;refine Qg ?_;try simp only[go_sem]
   refine Qh (Qe ?_);refine Qaj ?_;simp only[go_sem,hx3,hciw,hcow];refine⟨by omega,by simp only[LIM];omega,fun y1 hy1 H5 h5=>?_⟩;have kn:Kn H H5 [] (([(x2,.st [.sl true 1 [],.sl true 1 []]),(x3,.st [ci,co])]++(obZ (zi++[(y1,List.replicate R false)])++(obZ zo++Lo)))++Li):=
    (kn.al hy1 h5).perm (Qp fun f hf h0 hc hp=>by
     have hc':=hc (x2,.st [.sl true 1 [],.sl true 1 []]) [(x3,.st [ci,co])];simp only[hf,obZ,Jw,Jo,Jaa,Qlz,hR];omega)
   have hx3:=kn.l 1 rfl;simp only[go_sem,Q9l,hx3,hciw,hcow];refine kn.growR hgi (.mk' _ _ _ _) (by intro r hr;simp at hr;subst hr;rfl) (by simp only[LIM,Qa2,Js,Jy];omega) fun ci2 Li2 H6 hgi2 hciw2 kn=>?_;have hx3:=kn.l 1 rfl;simp only[go_sem,Q9k,hx3,hciw2,hcow];intro H7 h7;have kn:Kn H H7 [] ([(x2,.st [.sl true 1 [],.sl true 1 []]),(x3,.st [ci2,co])]++(obZ (zi++[(y1,List.replicate R false)])++(obZ zo++Lo))++Li2):=kn.stL 1 rfl h7;have hgi2:Gr Li2 1 (Qb8 R (zi++[(y1,List.replicate R false)])) ci2:=by
    have:Qb8 R (zi++[(y1,List.replicate R false)])=Qb8 R zi++[[C.vsl y1 1 0 q.regs.toNat]]:=(by simp[Qb8,hR]);rw[this];exact hgi2
   have hx3:=kn.l 1 rfl;refine Qbn ?_;simp only[go_sem,hx3,hciw2,hcow];refine⟨by omega,by simp only[LIM];omega,fun y2 hy2 H8 h8=>?_⟩;have kn:Kn H H8 [] (([(x2,.st [.sl true 1 [],.sl true 1 []]),(x3,.st [ci2,co])]++(obZ (zi++[(y1,List.replicate R false)])++(obZ (zo++[(y2,List.replicate R false)])++Li2)))++Lo):=
    (kn.al hy2 h8).perm (Qp fun f hf h0 hc hp=>by
     simp only[hf,obZ,Jw,Jo,Jaa,Qlz,hR];omega)
   have hx3:=kn.l 1 rfl;simp only[go_sem,Q9n,hx3,hciw2,hcow];refine kn.growR hgo (.mk' _ _ _ _) (by intro r hr;simp at hr;subst hr;rfl) (by simp only[LIM,Qa2,Js,Jy];omega) fun co2 Lo2 H9 hgo2 hcow2 kn=>?_;have hx3:=kn.l 1 rfl;simp only[go_sem,Q9m,hx3,hciw2,hcow2];intro H10 h10;have kn:Kn H H10 [] ([(x2,.st [.sl true 1 [],.sl true 1 []]),(x3,.st [ci2,co2])]++(obZ (zi++[(y1,List.replicate R false)])++(obZ (zo++[(y2,List.replicate R false)])++Li2))++Lo2):=kn.stL 1 rfl h10;have hgo2:Gr Lo2 1 (Qb8 R (zo++[(y2,List.replicate R false)])) co2:=by
    have:Qb8 R (zo++[(y2,List.replicate R false)])=Qb8 R zo++[[C.vsl y2 1 0 q.regs.toNat]]:=(by simp[Qb8,hR]);rw[this];exact hgo2
   refine Qt ?_;simp only[go_sem,X.next];refine⟨Qs (by omega) (by omega),n-(i+1),by omega,i+1,zi++[(y1,List.replicate R false)],zo++[(y2,List.replicate R false)],ci2,co2,Li2,Lo2,rfl,by omega,by simp[hzil],by simp[hzol],?_,?_,hgi2,hgo2,?_,rfl⟩
   ·intro p hp;rcases Jh.1 hp with hp|hp
    ·exact hzi p hp
    ·simp at hp;rw[hp]
   ·intro p hp;rcases Jh.1 hp with hp|hp
    ·exact hzo p hp
    ·simp at hp;rw[hp]
   ·exact kn.perm (by simp only[Ja5];exact .refl _)
  ·intro hc;have hin:i=n:=by have:n≤i:=(by simpa using hc);omega
   subst hin;obtain⟨yi,hyi,hLi⟩:∃yi,ci=.vsl yi 1 0 i∧Li=[(yi,.vec 1 (Qb8 R zi))]:=by
    rcases hgi with ⟨_,h,_⟩|⟨y,h1,h2⟩
    ·have:=congrArg List.length h;rw[Qa2,hzil]at this;simp at this;omega
    ·exact⟨y,by rw[h1,Qa2,hzil],h2⟩
   obtain⟨yo,hyo,hLo⟩:∃yo,co=.vsl yo 1 0 i∧Lo=[(yo,.vec 1 (Qb8 R zo))]:=by
    rcases hgo with ⟨_,h,_⟩|⟨y,h1,h2⟩
    ·have:=congrArg List.length h;rw[Qa2,hzol]at this;simp at this;omega
    ·exact⟨y,by rw[h1,Qa2,hzol],h2⟩
   have kn:Kn H H4 [] (lvE R yi yo zi zo++Qxr x2 x3 yi yo i):=by
    refine kn.perm (Qp fun f hf h0 hc hp=>?_);rw[hLi,hLo,hyi,hyo];have e1:=hc (x2,.st [.sl true 1 [],.sl true 1 []]) [(x3,.st [.vsl yi 1 0 i,.vsl yo 1 0 i])];have e2:=hc (yi,.vec 1 (Qb8 R zi)) [(yo,.vec 1 (Qb8 R zo))];simp only[hf,lvE,Qxr];omega
   have hlv:lvOk R i zi zo:=⟨hzil,hzol,fun p hp=>by rw[hzi p hp];simp,fun p hp=>by rw[hzo p hp];simp⟩;have hno:∀(zs:List (Nat×List Bool)),(∀p∈zs,p.2=List.replicate R false)→∀b r,¬tab zs b r:=fun zs h b r hr=>by
    rw[tab]at hr
    cases hg:zs[b]? with
    |none=>rw[hg]at hr;simp at hr
    |some p=>
     rw[hg]at hr;have:=h p (List.mem_of_getElem? hg);simp only[Jay,Option.getD_some,this,Qaf4]at hr;exact absurd hr (by simp)
   have hinv:LvInv (Q6 q) zi zo:=⟨fun b _ r hr=>absurd hr (hno zi hzi b r),fun b _ r hr=>absurd hr (hno zo hzo b r),fun b _ r hr=>absurd hr (hno zi hzi b r)⟩;refine Qw ?_;simp only[go_sem,X.next];refine Qaa ?_;refine Qa ?_;simp only[go_sem];clear hno hzi hzo hgi hgo hLi hLo hyi hyo hzil hzol hm hc hi;refine Qh (Qe (Qx (fun m e1 H1=>∃(zi zo:List (Nat×List Bool)) (a:Bool) (yi yo:Nat),m=(if a=true then 2 * (i * R)+1-(Qnn zi+Qnn zo)else 0)∧lvOk R i zi zo∧LvInv (Q6 q) zi zo∧(a=false→∀b,b<i→LvCl (Q6 q) zi zo b)∧
    Kn H H1 [] (lvE R yi yo zi zo++Qxr x2 x3 yi yo i)∧
    lk 1 e1=.c (.pp [.int .i64 q.params,.int .i64 q.regs,bc])∧lk 2 e1=.c (.ptr x2 0)∧lk 3 e1=.c (.ptr x3 0)∧lk 4 e1=.c (.int .i64 i)∧lk 6 e1=.c (.bool a)) (2 * (i * R)+1-(Qnn zi+Qnn zo)) ?_ ?_))
   ·exact⟨zi,zo,true,yi,yo,rfl,hlv,hinv,fun h=>by simp at h,kn,rfl,rfl,rfl,rfl,rfl⟩
   ·clear hlv hinv kn;rintro m e1 H5 ⟨zi,zo,a,yi,yo,hm,hlv,hinv,hcl,kn,l1,l2,l3,l4,l6⟩;have htl0:=Qawl hlv.li;have hto0:=Qawl hlv.lo;rw[hlv.i]at htl0;rw[hlv.o]at hto0;refine Qaa ?_;refine Qa ?_;simp only[go_sem,l1,l2,l3,l4,l6];refine Qh (Qd rfl ?_ ?_)
    ·intro hat;rw[hat,if_pos rfl]at hm;refine Qg ?_;try simp only[go_sem]
     refine Qe ?_;refine Qa ?_;simp only[go_sem];refine Qa ?_;simp only[go_sem];refine⟨Qs (by omega) (by omega),?_⟩;clear hcl;refine Qe (Qx (fun m1 e1 H1=>∃(k:Nat) (j:Int) (zi1 zo1:List (Nat×List Bool)) (a:Bool) (yi yo:Nat),m1=k∧k≤i∧j=(k:Int)-1∧lvOk R i zi1 zo1∧LvInv (Q6 q) zi1 zo1∧Qnn zi+Qnn zo≤Qnn zi1+Qnn zo1∧
      (a=true→Qnn zi+Qnn zo<Qnn zi1+Qnn zo1)∧(a=false→∀b,k≤b→b<i→LvCl (Q6 q) zi1 zo1 b)∧
      Kn H H1 [] (lvE R yi yo zi1 zo1++Qxr x2 x3 yi yo i)∧
      e1=[(1,.c (.pp [.int .i64 q.params,.int .i64 q.regs,bc])),(2,.c (.ptr x2 0)),(3,.c (.ptr x3 0)),(4,.c (.int .i64 i)),(6,.c (.bool a)),(7,.c (.int .i64 j))]) i ?_ ?_)
     ·exact⟨i,_,zi,zo,false,yi,yo,rfl,Je _,rfl,hlv,hinv,Je _,fun h=>by simp at h,fun _ b h1 h2=>by omega,kn,rfl⟩
     ·have hTb:Qnn zi+Qnn zo≤2 * (i * R):=(by omega);generalize hT0:Qnn zi+Qnn zo=T0 at *;clear hinv hlv kn hto0 htl0 hT0;clear zi zo yi yo;rintro m1 e1 H6 ⟨k,j,zi,zo,a,yi,yo,rfl,hk,hjk,hlv,hinv,htot,htt,htf,kn,rfl⟩;have htl0:=Qawl hlv.li;have hto0:=Qawl hlv.lo;rw[hlv.i]at htl0;rw[hlv.o]at hto0;refine Qaa ?_;refine Qa ?_;simp only[go_sem];refine Qh (Qd rfl ?_ ?_)
      ·intro hc;have hge:0≤j:=(by simpa using hc);obtain⟨b,rfl⟩:∃b,m1=b+1:=⟨m1-1,by omega⟩;have hj:j=(b:Int):=(by omega);subst hj;have hbn:b<i:=(by omega);have hbq:b<q.blocks.length:=(by omega);have hbo:b<zo.length:=(by rw[hlv.o];exact hbn);have hbi:b<zi.length:=(by rw[hlv.i];exact hbn);obtain⟨⟨z,bs⟩,hz⟩:∃p,zo[b]=p:=⟨_,rfl⟩;obtain⟨⟨w,bw⟩,hw⟩:∃p,zi[b]=p:=⟨_,rfl⟩;have hz':zo[b]? = some (z,bs):=(by rw[Jg hbo,hz]);have hw':zi[b]? = some (w,bw):=(by rw[Jg hbi,hw]);have hbsl:bs.length=R:=hlv.lo (z,bs) (by rw[←hz];exact Jd hbo);have hbwl:bw.length=R:=hlv.li (w,bw) (by rw[←hw];exact Jd hbi);have hmo:Mem bs (tab zo b):=(by have:=Qaff hbo;rw[hz]at this;exact this);have hzs:zo.set b (z,bs)=zo:=Qa3w hz';obtain⟨y,hy⟩:∃y,q.blocks[b]=y:=⟨_,rfl⟩;have hyo:y.ok q b:=(by rw[←hy];exact ho.bs b hbq);have hil:y.ins.length≤1200∧y.phis.length≤1200:=(by rw[←hy];exact ho.il b hbq);have hnx:(Q6 q).nx b=y.next.map Int.toNat:=(by rw[←hy,←Qaew hbq];rfl);have hph:(Q6 q).ph b=y.phis.map fun p=>p.to.toNat:=(by rw[Qbbo hbq,hy]);refine Qg ?_;try simp only[go_sem]
       refine Qd3 (fun e2 H2=>∃(zi2 zo2:List (Nat×List Bool)) (a2:Bool) (yi yo:Nat),lvOk R i zi2 zo2∧LvInv (Q6 q) zi2 zo2∧Qnn zi+Qnn zo≤Qnn zi2+Qnn zo2∧
        (a2=true→a=true∨Qnn zi+Qnn zo<Qnn zi2+Qnn zo2)∧(a2=false→a=false∧LvCl (Q6 q) zi2 zo2 b∧∀c,LvCl (Q6 q) zi zo c→LvCl (Q6 q) zi2 zo2 c)∧
        Kn H H2 [] (lvE R yi yo zi2 zo2++Qxr x2 x3 yi yo i)∧
        lk 1 e2=.c (.pp [.int .i64 q.params,.int .i64 q.regs,bc])∧lk 2 e2=.c (.ptr x2 0)∧lk 3 e2=.c (.ptr x3 0)∧lk 4 e2=.c (.int .i64 i)∧lk 6 e2=.c (.bool a2)∧lk 7 e2=.c (.int .i64 b)) ?_ ?_
       ·intro Q hnr _ _;refine Qe ?_;refine Qaa ?_;refine Qa ?_;simp only[go_sem];refine Qh (Qe (Qx (fun m2 e1 H1=>∃(i2:Nat) (bs1:List Bool) (a1:Bool),m2=y.next.length-i2∧i2≤y.next.length∧bs1.length=R∧(∀r,bs.getD r false=true→bs1.getD r false=true)∧(∀r,bs1.getD r false=true→(Q6 q).LO b r)∧
         (∀m∈((Q6 q).nx b).take i2,∀r,tab zi m r∨r∈(Q6 q).ea b m→bs1.getD r false=true)∧(a1=true→a=true∨cnt bs<cnt bs1)∧(a1=false→a=false∧bs1=bs)∧
         Kn H H1 [] (lvE R yi yo zi (zo.set b (z,bs1))++Qxr x2 x3 yi yo i)∧
         e1=[(1,.c (.pp [.int .i64 q.params,.int .i64 q.regs,bc])),(2,.c (.ptr x2 0)),(3,.c (.ptr x3 0)),(4,.c (.int .i64 i)),(6,.c (.bool a1)),(7,.c (.int .i64 b)),(8,.c (.int .i64 i2))]) y.next.length ?_ ?_))
        ·exact⟨0,bs,a,by omega,by omega,hbsl,fun r h=>h,fun r h=>hinv.bo b hbq r ((hmo r).1 h),by simp,fun h=>.inl h,fun h=>⟨h,rfl⟩,by rw[hzs];exact kn,rfl⟩
        ·rintro m2 e1 H7 ⟨i2,bs1,a1,hm2,hi2,hb1l,g1,g2,g3,k1,k2,kn,rfl⟩;have hx3:H7 x3=.st [.vsl yi 1 0 i,.vsl yo 1 0 i]:=(kn.get (x3,.st [.vsl yi 1 0 i,.vsl yo 1 0 i]) (by simp[Qxr])).1;obtain⟨hbok,_,_,hbrw⟩:=hbc.facts kn (by simp);refine Qaa ?_;refine Qa ?_;simp only[go_sem,hbw,hbok,hbln,hbsz,hbrw,hbq,Ql,Q1 _ _ hbq,hy,BlkD.cells,Qf];intro _;refine Qh (Qd rfl ?_ ?_)
         ·intro hc2;have hlt:i2<y.next.length:=(by simpa using hc2);have hnl2:=hyo.nxl;have hgd:y.next.getD i2 0=y.next[i2]:=(by simp[Jb,hlt]);have hmx:y.next[i2]∈gnx q b:=(by rw[Qaew hbq,hy];exact Jd hlt);have hmr:=hyo.nx _ (Jd hlt);obtain⟨mm,hmm⟩:=Jap (show 0≤y.next[i2]by omega);have hmi:mm<zi.length:=(by rw[hlv.i];omega);have hmF:mm∈(Q6 q).nx b:=(by rw[hnx];exact Jk.2 ⟨y.next[i2],Jd hlt,by rw[hmm];rfl⟩);have htk:((Q6 q).nx b).take (i2+1)=((Q6 q).nx b).take i2++[mm]:=by
           rw[Jf (by rw[hnx,Jm];exact hlt)];congr 1;simp only[hnx,Ja8,hmm];rfl
          rw[hmm]at hmx hgd;have hbo':b<(zo.set b (z,bs1)).length:=(by simpa using hbo);have hlv':lvOk R i zi (zo.set b (z,bs1)):=⟨hlv.i,by rw[Jp];exact hlv.o,hlv.li,fun p hp=>by
           rcases J8 hp with hp|rfl
           ·exact hlv.lo p hp
           ·exact hb1l⟩
          refine Qg ?_;try simp only[go_sem]
          refine Qh (Qe ?_);refine Qbn ?_;simp only[go_sem,hx3,hbw,hbok,hbln,hbsz,hbrw,hbq,Ql,Q1 _ _ hbq,hy,BlkD.cells,hlt,Qf,Qu _ _ hlt,hgd];subst hR;subst hn;refine Qbi5 (F:=H7) (z:=z) (bs:=bs1) (w:=zi[mm].1) (nb:=zi[mm].2) (O:=fun r=>bs1.getD r false=true) (I:=tab zi mm) ho (hbc.mid kn) (fun x hx=>by rw[Jw];exact Ji _ hx) hbq hmx hlv' (by rw[List.getElem?_set_self hbo]) (by rw[Jg hmi]) (fun r=>Jbl) (Qaff hmi) kn.mid fun bs2 f H8 hb2l hm2' hf1 hf2 k2'=>?_;rw[Jax]at k2';have kn:=(kn.comp k2' Qbji).drop;have stepT:∀a1',(a1'=(f || a1))→∃m,m<m2∧∃(i5:Nat) (bs1:List Bool) (a1:Bool),m=y.next.length-i5∧i5≤y.next.length∧bs1.length=q.regs.toNat∧(∀r,bs.getD r false=true→bs1.getD r false=true)∧(∀r,bs1.getD r false=true→(Q6 q).LO b r)∧
            (∀m∈((Q6 q).nx b).take i5,∀r,tab zi m r∨r∈(Q6 q).ea b m→bs1.getD r false=true)∧(a1=true→a=true∨cnt bs<cnt bs1)∧(a1=false→a=false∧bs1=bs)∧
            Kn H H8 [] (lvE q.regs.toNat yi yo zi (zo.set b (z,bs1))++Qxr x2 x3 yi yo q.blocks.length)∧
            [(1,V.c (.pp [.int .i64 q.params,.int .i64 q.regs,bc])),(2,.c (.ptr x2 0)),(3,.c (.ptr x3 0)),(4,.c (.int .i64 q.blocks.length)),(6,.c (.bool a1')),(7,.c (.int .i64 b)),(8,.c (.int .i64 ((i2:Int)+1)))]=[(1,.c (.pp [.int .i64 q.params,.int .i64 q.regs,bc])),(2,.c (.ptr x2 0)),(3,.c (.ptr x3 0)),(4,.c (.int .i64 q.blocks.length)),(6,.c (.bool a1)),(7,.c (.int .i64 b)),(8,.c (.int .i64 i5))]:=by
           intro a1' ha1';refine⟨y.next.length-(i2+1),by omega,i2+1,bs2,a1',rfl,by omega,hb2l,fun r hr=>(hm2' r).2 (.inl (g1 r hr)),fun r hr=>?_,fun m hm r hr=>?_,fun ha=>?_,fun ha=>?_,kn,rfl⟩
           ·rcases (hm2' r).1 hr with h|h|h
            ·exact g2 r h
            ·exact⟨mm,hmF,.inl (hinv.bi mm (hfit b hbq mm hmF) r h)⟩
            ·exact⟨mm,hmF,.inr h⟩
           ·rw[htk]at hm;rcases Jh.1 hm with hm|hm
            ·exact (hm2' r).2 (.inl (g3 m hm r hr))
            ·simp only[Ja]at hm;subst hm;exact (hm2' r).2 (.inr hr)
           ·have c1:cnt bs≤cnt bs1:=(Qaeb (by omega) g1).1
            cases hf:f with
            |true=>have:=hf1 hf;right;omega
            |false=>
             rw[hf2 hf];rw[ha1',hf]at ha;exact k1 (by simpa using ha)
           ·rw[ha1']at ha;have hff:f=false:=by cases hf:f with
             |true=>rw[hf]at ha;simp at ha
             |false=>rfl
            rw[hff]at ha;obtain⟨q1,q2⟩:=k2 (by simpa using ha);exact⟨q1,by rw[hf2 hff,q2]⟩
          cases hfc:f with
          |true=>
           simp only[go_sem,Qvs];refine Qt ?_;simp only[go_sem,X.next];exact⟨Qs (by omega) (by omega),stepT true (by rw[hfc];rfl)⟩
          |false=>
           simp only[go_sem,Qvs];refine Qt ?_;simp only[go_sem,X.next];exact⟨Qs (by omega) (by omega),stepT a1 (by rw[hfc];rfl)⟩
         ·intro hc2;have hge2:y.next.length≤i2:=(by simpa using hc2);have g3:∀r,(Q6 q).outT (tab zi) b r→bs1.getD r false=true:=fun r ⟨m,hm,hr⟩=>
           g3 m (by rw[Jc (by rw[hnx,Jm];exact hge2)];exact hm) r hr
          refine Qw ?_;simp only[go_sem,X.next];refine Qa ?_;simp only[go_sem,hx3,hbw];have hbo':b<(zo.set b (z,bs1)).length:=(by simpa using hbo);obtain⟨hyiH,hyoH,hzzH,hwwH⟩:=Qasw kn.mid hbo (by rw[hz]) hbi hw;have hsl:Slc H7 1 (Qb8 R zo) (.vsl yo 1 0 i):=⟨by simp only[okSl,hyoH,Qa2,hlv.o];exact⟨trivial,by omega⟩,rfl,by simp only[rowsOf,hyoH,Jaz];exact Jc (by rw[Qa2,hlv.o];exact Je _),by simp only[lenC,Qa2,hlv.o]⟩;have hsb:Slc H7 1 (Qy bs1) (.vsl z 1 0 R):=⟨by simp only[okSl,hzzH,Qab,hb1l];exact⟨trivial,by omega⟩,rfl,by simp only[rowsOf,hzzH,Jaz];exact Jc (by rw[Qab,hb1l];exact Je _),by simp only[lenC,Qab,hb1l]⟩;refine Qae1 (i:=-1) (ic:=.vsl yi 1 0 i) (bc:=bc) (W:=fun r=>bs1.getD r false=true) ho (hbc.mid kn).nil hbq (by omega) (by omega) kn hsl rfl rfl (by rw[Qa2];exact hbo) (by rw[Qeh _ _ _ hbo,hz]) hsb rfl (by rw[hR];exact hb1l) (fun r=>Jbl) fun y9 nb0 H8 hnl0 hm0 kn=>?_;rw[hR]at hnl0;simp only[go_sem,Q4e,hR];refine Qaa ?_;refine Qa ?_;simp only[go_sem];refine Qh (Qe (Qx (fun m2 e1 H1=>∃(i2:Nat) (nb:List Bool),m2=y.phis.length-i2∧i2≤y.phis.length∧nb.length=R∧Mem nb (fun r=>(Q6 q).beh (fun r=>bs1.getD r false=true) b 0 r∧r∉((Q6 q).ph b).take i2)∧
           Kn H H1 [] ((lvE R yi yo zi (zo.set b (z,bs1))++Qxr x2 x3 yi yo i)++[(y9,.vec 1 (Qy nb))])∧
           e1=[(1,.c (.pp [.int .i64 q.params,.int .i64 q.regs,bc])),(2,.c (.ptr x2 0)),(3,.c (.ptr x3 0)),(4,.c (.int .i64 i)),(6,.c (.bool a1)),(7,.c (.int .i64 b)),(9,.c (.vsl y9 1 0 R)),(10,.c (.int .i64 i2))]) y.phis.length ?_ ?_))
          ·exact⟨0,nb0,by omega,by omega,hnl0,hm0.congr fun r=>by simp,kn,rfl⟩
          ·clear hm0 hnl0 kn;rintro m3 e1 H9 ⟨i3,nb,hm3,hi3,hnl,hmn,kn,rfl⟩;have hy9:H9 y9=.vec 1 (Qy nb):=(kn.get (y9,.vec 1 (Qy nb)) (by simp)).1;have htkn:(Qy nb).take R=Qy nb:=Jc (by rw[Qab];omega);obtain⟨hbok,_,_,hbrw⟩:=hbc.facts kn (by simp);refine Qaa ?_;refine Qa ?_;simp only[go_sem,hbw,hbok,hbln,hbsz,hbrw,hbq,Ql,Q1 _ _ hbq,hy,BlkD.cells,Qv];intro _;refine Qh (Qd rfl ?_ ?_)
           ·intro hc3;have hlt3:i3<y.phis.length:=(by simpa using hc3);obtain⟨hv,hvl⟩:=(hyo.pto _ (Jd hlt3)).nat;rw[hR]at hvl;have htk3:((Q6 q).ph b).take (i3+1)=((Q6 q).ph b).take i3++[(y.phis[i3].to).toNat]:=by
             rw[Jf (by rw[hph,Jm];exact hlt3)];simp[hph]
            have hvl':(y.phis[i3].to).toNat<nb.length:=(by omega);generalize hr:(y.phis[i3].to).toNat=r at *;refine Qg ?_;try simp only[go_sem]
            refine Qh (Qe ?_);refine Qt ?_;simp only[go_sem,hbw,hbok,hbln,hbsz,hbrw,hbq,Ql,Q1 _ _ hbq,hy,BlkD.cells,hlt3,Qv,Qau _ _ hlt3,PhiD.cells,hv,hvl,hy9,htkn,Qab,hnl,Qf6,Qax _ _ hvl',Jl,Je];intro H10 h10;have kn:=kn.stL (lvE R yi yo zi (zo.set b (z,bs1))++Qxr x2 x3 yi yo i).length (x:=y9) (o:=.vec 1 (Qy nb)) (by simp) h10;refine Qt ?_;simp only[go_sem,X.next];refine⟨Qs (by omega) (by omega),y.phis.length-(i3+1),by omega,i3+1,nb.set r false,rfl,by omega,by rw[Jp];exact hnl,?_,by simpa using kn,rfl⟩;refine (hmn.del hvl').congr fun x=>?_;rw[htk3];simp only[Jh,Ja,not_or,and_assoc]
           ·intro hc3;have hge3:y.phis.length≤i3:=(by simpa using hc3);have hmn:Mem nb ((Q6 q).thru (fun r=>bs1.getD r false=true) b):=hmn.congr fun r=>(by rw[Jc (by rw[hph,Jm];exact hge3)];rfl);refine Qw ?_;simp only[go_sem,X.next];refine Qaa ?_;refine Qa ?_;simp only[go_sem];refine Qh (Qe (Qx (fun m4 e1 H1=>∃(i4:Nat) (a2:Bool),m4=R-i4∧i4≤R∧H1=H9∧(a2=true→a1=true∨∃r,nb.getD r false≠bw.getD r false)∧(a2=false→a1=false∧∀r,r<i4→nb.getD r false=bw.getD r false)∧
             e1=[(1,.c (.pp [.int .i64 q.params,.int .i64 q.regs,bc])),(2,.c (.ptr x2 0)),(3,.c (.ptr x3 0)),(4,.c (.int .i64 i)),(6,.c (.bool a2)),(7,.c (.int .i64 b)),(9,.c (.vsl y9 1 0 R)),(11,.c (.int .i64 i4))]) R ?_ ?_))
            ·exact⟨0,a1,by omega,by omega,rfl,fun h=>.inl h,fun h=>⟨h,fun r hr=>by omega⟩,rfl⟩
            ·have hx3:H9 x3=.st [.vsl yi 1 0 i,.vsl yo 1 0 i]:=(kn.get (x3,.st [.vsl yi 1 0 i,.vsl yo 1 0 i]) (by simp[Qxr])).1;have knA:=kn.drop;obtain⟨hyiH,hyoH,hzzH,hwwH⟩:=Qasw knA.mid hbo (by rw[hz]) hbi hw;rintro m4 e1 H10 ⟨i4,a2,hm4,hi4,rfl,k3,k4,rfl⟩;have htz:∀(zs:List (Nat×List Bool)),zs.length=i→(Qb8 R zs).take i=Qb8 R zs:=fun zs h=>Jc (by rw[Qa2];omega);have htb:∀(bs:List Bool),bs.length=R→(Qy bs).take R=Qy bs:=fun bs h=>Jc (by rw[Qab];omega);have hw1:zi[b].1=w:=(by rw[hw]);have hil3:=hlv.i;refine Qaa ?_;refine Qa ?_;simp only[go_sem];refine Qh (Qd rfl ?_ ?_)
             ·intro hc4;have hlt4:i4<R:=(by have:(i4:Int)<q.regs:=(by simpa using hc4);omega);have hln4:i4<nb.length:=(by omega);have hlw4:i4<bw.length:=(by omega);refine Qg ?_;try simp only[go_sem]
              refine Qd3 (fun e2 H2=>∃(a3:Bool),H2=H10∧(a3=true→a2=true∨nb.getD i4 false≠bw.getD i4 false)∧(a3=false→a2=false∧nb.getD i4 false=bw.getD i4 false)∧
               lk 1 e2=.c (.pp [.int .i64 q.params,.int .i64 q.regs,bc])∧lk 2 e2=.c (.ptr x2 0)∧lk 3 e2=.c (.ptr x3 0)∧lk 4 e2=.c (.int .i64 i)∧lk 6 e2=.c (.bool a3)∧lk 7 e2=.c (.int .i64 b)∧lk 9 e2=.c (.vsl y9 1 0 R)∧lk 11 e2=.c (.int .i64 i4)) ?_ ?_
              ·intro Q hnr _ _;refine Qe ?_
               cases ha2:a2 with
               |true=>
                refine Qbn ?_;simp only[go_sem,hx3,hyiH,hwwH,hy9,htz _ hil3,htb _ hnl,htb _ hbwl,Qa2,Qeh _ _ _ hbi,hw1,hbn,hil3,hlt4,Qab,hnl,hbwl,Qax _ _ hln4,Qax _ _ hlw4,Jl,Je];exact hnr _ _ ⟨true,rfl,fun _=>.inl ha2,fun h=>by simp at h,rfl,rfl,rfl,rfl,rfl,rfl,rfl,rfl⟩
               |false=>
                refine Qbn ?_;simp only[go_sem,hx3,hyiH,hwwH,hy9,htz _ hil3,htb _ hnl,htb _ hbwl,Qa2,Qeh _ _ _ hbi,hw1,hbn,hil3,hlt4,Qab,hnl,hbwl,Qax _ _ hln4,Qax _ _ hlw4,Jl,Je];refine hnr _ _ ⟨_,rfl,fun h=>?_,fun h=>?_,rfl,rfl,rfl,rfl,rfl,rfl,rfl,rfl⟩
                ·right;intro he;rw[he]at h;simp at h
                ·exact⟨ha2,by simpa using h⟩
              ·rintro e2 H11 ⟨a3,rfl,q1,q2,l1,l2,l3,l4,l6,l7,l9,l11⟩;refine Qt ?_;simp only[go_sem,X.next,l1,l2,l3,l4,l6,l7,l9,l11];refine⟨Qs (by omega) (by omega),R-(i4+1),by omega,i4+1,a3,rfl,by omega,fun h=>?_,fun h=>?_,rfl⟩
               ·rcases q1 h with h1|h1
                ·exact k3 h1
                ·exact .inr ⟨i4,h1⟩
               ·obtain⟨h1,h2⟩:=q2 h;obtain⟨h3,h4⟩:=k4 h1;refine⟨h3,fun r hr=>?_⟩;by_cases hri:r<i4
                ·exact h4 r hri
                ·have:r=i4:=(by omega);subst this;exact h2
             ·intro hc4;have hge4:i4=R:=(by have:¬(i4:Int)<q.regs:=(by simpa using hc4);omega);subst hge4;refine Qw ?_;simp only[go_sem,X.next];refine Qt ?_;simp only[go_sem,hx3,hyiH,htz _ hil3,Qa2,Qeh _ _ _ hbi,hbn,hil3,Jl,Je];intro H11 h11;have hrow:(Qb8 i4 zi).set b [.vsl y9 1 0 i4]=Qb8 i4 (zi.set b (y9,nb)):=(by rw[Qb8,Qb8,J4]);rw[hrow]at h11;have hobs:obZ (zi.set b (y9,nb))=(obZ zi).set b (y9,.vec 1 (Qy nb)):=(by rw[obZ,obZ,J4]);have hmv:=Qbrk (l:=obZ zi) (i:=b) (x:=(y9,Obj.vec 1 (Qy nb))) (by simpa[obZ]using hbi);have kn:Kn H H11 [] ((lvE i4 yi yo (zi.set b (y9,nb)) (zo.set b (z,bs1))++Qxr x2 x3 yi yo i)++[(obZ zi)[b]'(by simpa[obZ]using hbi)]):=by
               have k5:Kn H H11 [] ((([(yi,.vec 1 (Qb8 i4 (zi.set b (y9,nb)))),(yo,.vec 1 (Qb8 i4 (zo.set b (z,bs1))))]++(obZ zi++obZ (zo.set b (z,bs1))))++Qxr x2 x3 yi yo i)++[(y9,.vec 1 (Qy nb))]):=kn.stL 0 (x:=yi) (o:=.vec 1 (Qb8 i4 zi)) rfl h11;refine k5.perm (Qp fun f hf h0 hc hp=>?_);have e1:=hp _ _ hmv;simp only[hf]at e1;simp only[lvE,hf,hobs];omega
              have kn:=kn.drop;have hst:=hinv.step (y:=y9) hfit hbq (hlv.i.trans hn.symm) (hlv.o.trans hn.symm) hlv.li hlv.lo hb1l hnl hz' hw' g1 g2 g3 (fun r=>hmn r) k1 k2 k3 k4;obtain⟨s1,s2,s3,s4⟩:=hst;refine hnr _ _ ⟨zi.set b (y9,nb),zo.set b (z,bs1),a2,yi,yo,⟨by rw[Jp];exact hlv.i,by rw[Jp];exact hlv.o,fun p hp=>?_,fun p hp=>?_⟩,s1,s2,s3,s4,kn,rfl,rfl,rfl,rfl,rfl,rfl⟩
              ·rcases J8 hp with hp|rfl
               ·exact hlv.li p hp
               ·exact hnl
              ·rcases J8 hp with hp|rfl
               ·exact hlv.lo p hp
               ·exact hb1l
       ·rintro e2 H7 ⟨zi2,zo2,a2,yi2,yo2,hlv2,hinv2,t1,t2,t3,kn,l1,l2,l3,l4,l6,l7⟩;refine Qt ?_;simp only[go_sem,X.next,l1,l2,l3,l4,l6,l7];refine⟨Qs (by omega) (by omega),b,by omega,b,(b:Int)-1,zi2,zo2,a2,yi2,yo2,rfl,by omega,rfl,hlv2,hinv2,by omega,fun ha=>?_,fun ha c hbc hci=>?_,kn,rfl⟩
        ·rcases t2 ha with h|h
         ·have:=htt h;omega
         ·omega
        ·obtain⟨u1,u2,u3⟩:=t3 ha;by_cases hcb:c=b
         ·subst hcb;exact u2
         ·exact u3 c (htf u1 c (by omega) hci)
      ·intro hc;have hlt0:¬0≤j:=(by simpa using hc);have hk0:m1=0:=(by omega);subst hk0;refine Qw ?_;simp only[go_sem,X.next];refine⟨if a=true then 2 * (i * R)+1-(Qnn zi+Qnn zo)else 0,?_,zi,zo,a,yi,yo,rfl,hlv,hinv,fun ha b hb=>htf ha b (by omega) hb,kn,by first|exact⟨rfl,rfl,rfl,rfl⟩|exact rfl|trivial⟩;split
       ·have:=htt ‹_›;omega
       ·omega
    ·intro haf;have hcl:=hcl haf;have hdone:=hinv.done hfit fun b hb=>hcl b (by rw[←hn];exact hb);have hx3:H5 x3=.st [.vsl yi 1 0 i,.vsl yo 1 0 i]:=(kn.get (x3,.st [.vsl yi 1 0 i,.vsl yo 1 0 i]) (by simp[Qxr])).1;have hx2:H5 x2=.st [.sl true 1 [],.sl true 1 []]:=(kn.get (x2,.st [.sl true 1 [],.sl true 1 []]) (by simp[Qxr])).1;refine Qw ?_;simp only[go_sem,X.next];refine Qa ?_;simp only[go_sem,hx2,hx3];intro H6 h6;have kn:Kn H H6 [] (lvE R yi yo zi zo++[(x2,.st [.vsl yi 1 0 i,.vsl yo 1 0 i]),(x3,.st [.vsl yi 1 0 i,.vsl yo 1 0 i])]):=by
      have:=kn.stL (lvE R yi yo zi zo).length (x:=x2) (o:=.st [.sl true 1 [],.sl true 1 []]) (by simp[Qxr]) h6;simpa[Qxr]using this
     have hx2:H6 x2=.st [.vsl yi 1 0 i,.vsl yo 1 0 i]:=(kn.get (x2,.st [.vsl yi 1 0 i,.vsl yo 1 0 i]) (by simp)).1;have hg:∀p∈lvE R yi yo zi zo,H6 p.1=p.2∧un H p.1=true:=fun p hp=>⟨(kn.get p (Jj _ (Ji _ hp))).1,Qj1 (kn.loc p (Ji _ hp))⟩;have g1:=hg (yi,.vec 1 (Qb8 R zi)) (by simp[lvE]);have g2:=hg (yo,.vec 1 (Qb8 R zo)) (by simp[lvE]);refine Qk ?_;simp only[go_sem,Q5,Qae,Qaye,Ja,forall_eq,RS.op,hx2];refine⟨_,(FrzL.cons (FrzR.vsl g1.2 g1.1 (by rw[Qa2,hlv.i]) (Qaym hlv.li fun p hp=>hg p (by simp only[lvE];exact Jj _ (Ji _ hp))))
      (FrzL.cons (FrzR.vsl g2.2 g2.1 (by rw[Qa2,hlv.o]) (Qaym hlv.lo fun p hp=>hg p (by simp only[lvE];exact Jj _ (Jj _ hp)))) FrzL.nil)).ag,hK zi zo _ kn.fin ⟨by rw[hR,hn];exact hlv,fun b hb=>hdone b hb⟩⟩
theorem Qaxe {q:CodeD}{fl:Bool}(ho:q.ok)
  (hK:∀(zi zo:List (Nat×List Bool)) H',Upd H H' []→Qbtv q zi zo→K (.ag [.sl false 1 (Qib zi),.sl false 1 (Qib zo)]) H') :
  Qr prog Ql3 [.ag [.int .i64 q.params,.int .i64 q.regs,.sl fl 5 (Qn q.blocks)]] H K:=
 Qbi8 ho (.sl _ _ _ _) hK
end Go.AE.Y
