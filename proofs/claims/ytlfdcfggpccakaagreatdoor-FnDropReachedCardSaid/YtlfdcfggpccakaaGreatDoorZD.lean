/- Part 4 of the proof: the engine, codes, walks and plain laws, each named where it stands. -/
import Derived.Test.YtlfdcfggpccakaaGreatDoorZC
import Derived.Shelf.Sort.Plain
import Derived.Shelf.Sort.So_math_bits_LenIn
open Nat (reduceEqDiff reduceAdd reduceLeDiff reduceLT)
set_option linter.unusedVariables false
set_option linter.unusedSimpArgs false
set_option maxRecDepth 4000
open Bool renaming and_eq_true->Jl,not_false->Ju,not_true->J7,false_eq_true->Ja0,true_and->Jbk
open Classical renaming byContradiction->Jaq
open List renaming mem_singleton->Ja,getD_eq_getElem?_getD->Jb,take_of_length_le->Jc,getElem_mem->Jd,mem_append->Je,take_succ_eq_append_getElem->Jf,getElem?_eq_getElem->Jg,mem_cons_of_mem->Jh,mem_append_left->Ji,getElem?_eq_none->Jj,mem_cons_self->Jm,length_replicate->Jn,length_take->Jo,length_cons->Jp,length_set->Jq,length_nil->Jr,mem_append_right->Js,mem_map->Jt,mem_cons->Jv,mem_iff_getElem->Jx,mem_filter->Jy,perm_append_comm->Jz,mem_range->J0,take_length->J1,length_append->J2,map_cons->J3,pairwise_iff_getElem->J4,mem_of_mem_take->J5,nil_append->J6,all_eq_true->J8,any_eq_true->J9,cons_append->Jaa,drop_zero->Jac,map_append->Jad,map_nil->Jae,getElem?_map->Jaf,getElem_take->Jag,nodup_append->Jah,drop_eq_getElem_cons->Jai,pairwise_lt_range->Jaj,contains_iff_mem->Jak,take_append_drop->Jal,length_drop->Jam,not_mem_nil->Jan,getElem?_replicate->Jas,getElem_map->Jat,map_set->Jau,getElem?_set_ne->Jaw,pairwise_append->Jax,getElem_of_mem->Jay,map_congr_left->Jaz,getElem?_drop->Ja1,getElem?_take->Ja2,map_take->Ja3,pairwise_cons->Ja4,set_cons_succ->Ja5,sum_cons->Ja6,append_assoc->Ja8,getElem?_set->Ja9,getElem_drop->Jba,pairwise_map->Jbb,ext_getElem->Jbd,append_nil->Jbe,count_cons->Jbf,length_map->Jbg,nodup_cons->Jbh,sum_append->Jbi,take_take->Jbj,all_cons->Jbl,take_nil->Jbm,map_map->Jbn,map_id->Jbp
open List.Pairwise renaming filter->Jao
open Nat renaming le_refl->Jk,zero_add->Jw,mul_le_mul_right->Jap,eq_zero_or_pos->Ja7,lt_or_ge->Jbc,add_zero->Jbo
open Option renaming getD_some->Jab,map_some->Jav
open Option.some renaming injEq->Jar
namespace Go.AE.Y
open Go.Proofs.Tryz
variable {F H:Heap}{w:Nat}{s:LS}{K:V→Heap→Prop}
theorem Qbi7:∀(n:Nat) (l:List St) {fl:Bool} {H:Heap} {K:V→Heap→Prop},Q1 l≤n→Q1 l≤2^40→(∀v:Nat,v≤Q1 l→K (.c (.int .i64 v)) H)→Qo prog Qq3 [.c (.sl fl 5 (Qaz l))] H K:=by
 intro n
 induction n using Nat.strongRecOn with
 |ind n ih=>
 intro l fl H K hn hb hK;have hlen:=Qah0 l;refine Qd Qai Qbjt ?_;refine Qa ?_;simp only[go_sem];refine Qa ?_;simp only[go_sem];refine Q5 ?_;refine Qa ?_;simp only[go_sem];refine Qh (Qf (Qw (fun n e1 H1=>∃(i v:Nat),n=l.length-i∧i≤l.length∧v≤Q1 (l.take i)∧H1=H∧e1=[(0,.c (.sl fl 5 (Qaz l))),(3,.c (.int .i64 v)),(4,.c (.int .i64 i))]) l.length ?_ ?_))
 ·exact⟨0,0,by omega,by omega,by omega,rfl,rfl⟩
 ·rintro n e1 H1 ⟨i,v,hn1,hi,hv,rfl,rfl⟩;refine Q5 ?_;refine Qa ?_;simp only[go_sem,Qa5];intro hl;simp only[LIM]at hl;refine Qh (Qe rfl ?_ ?_)
  ·intro hc;have hlt:i<l.length:=by simpa using hc
   have hm:=Qnu (Jd hlt);have htk:=Qvp hlt;have htl:=Qiw l (i+1);have hse:=(l[i]'hlt).size_eq;refine Qi ?_;simp only[go_sem];refine Qh (Qf (Qbg ?_));simp only[go_sem,hlt,Qa5,Qe7 _ _ hlt,St.cells_eq];refine Qbd1 ?_;obtain⟨t,ht,ht1⟩:∃t:Nat,(if decide (l[i].op=1)=true then (1:Int)else 0)=t∧t≤1:=by
    by_cases h:l[i].op=1
    ·exact⟨1,by simp[h],Jk _⟩
    ·exact⟨0,by simp[h],by omega⟩
   simp only[go_sem,Qage,hlt,Qa5,Qe7 _ _ hlt,St.cells_eq,ht];refine⟨Qr (by omega) (by omega),?_⟩;refine ih (Q1 l[i].body) (by omega) l[i].body (Jk _) (by omega) fun a ha=>?_;simp only[go_sem,Qagd,hlt,Qa5,Qe7 _ _ hlt,St.cells_eq];refine⟨Qr (by omega) (by omega),?_⟩;refine ih (Q1 l[i].els) (by omega) l[i].els (Jk _) (by omega) fun c hc=>?_;simp only[go_sem,Qagc];refine⟨Qr (by omega) (by omega),?_⟩;refine Qt ?_;simp only[go_sem,X.next];refine⟨Qr (by omega) (by omega),l.length-(i+1),by omega,i+1,v+t+a+c,rfl,by omega,by omega,rfl⟩
  ·intro hc;have hge:l.length≤i:=by simpa using hc
   refine Qv ?_;simp only[go_sem,X.next];refine Qa ?_;simp only[go_sem];refine Qk ?_;simp only[go_sem,Qz,Q8,Qa7p,reduceIte,Ja,forall_eq,RS.op];rw[Jc hge]at hv;exact hK v (by omega)
def Qbpn (n:Nat):Prop:=∀(x:St) (F H:Heap) (w:Nat) (s:LS) (N:Nat) (K:V→Heap→Prop),x.size≤n→x.ok→LInv F H w s→s.at_<s.blocks.length→s.ok N→N+10 * x.size≤2^38→
  (∀(s':LS) (H':Heap),LInv F H' w s'→LStep s s' (10 * x.size)→K (.tup []) H')→Qo prog Qmo [.c (.ptr w 0),.ag x.cells] H K
def Qbro (n:Nat):Prop:=∀(x:St) (F H:Heap) (w:Nat) (s:LS) (N:Nat) (K:V→Heap→Prop),x.size≤n→x.ok→LInv F H w s→s.at_<s.blocks.length→s.ok N→N+10 * x.size≤2^38→
  (∀(s':LS) (H':Heap),LInv F H' w s'→LStep s s' (10 * x.size)→K (.tup []) H')→Qo prog Qmn [.c (.ptr w 0),.ag x.cells] H K
def Qa6j (n:Nat):Prop:=∀(l:List St) (fl:Bool) (F H:Heap) (w:Nat) (s:LS) (N:Nat) (K:V→Heap→Prop),Q1 l≤n→Qcx l→LInv F H w s→s.at_<s.blocks.length→s.ok N→N+10 * Q1 l≤2^38→
  (∀(s':LS) (H':Heap),LInv F H' w s'→LStep s s' (10 * Q1 l)→K (.tup []) H')→Qo prog Qcb [.c (.ptr w 0),.c (.sl fl 5 (Qaz l))] H K
theorem Qbg9 {n:Nat}(hS:Qbpn n):Qa6j n:=by
 intro l fl F H w s N K hn hok h hat hsok hN hK;have hw:=h.hw;obtain⟨hv1,hv2⟩:=h.vget;have hvl:=h.gv.lenC;have hvo:=h.gv.isOw;refine Qd Qai Qapo ?_;refine Qa ?_;simp only[go_sem,hw,LS.o,hv1,hvl,hvo];intro hvlim;refine Q5 ?_;refine Qa ?_;simp only[go_sem];refine Qh (Qf (Qw (fun n e1 H1=>∃(i:Nat) (s':LS),n=l.length-i∧i≤l.length∧LInv F H1 w s'∧LStep s s' (10 * Q1 (l.take i))∧e1=[(0,.c (.ptr w 0)),(1,.c (.sl fl 5 (Qaz l))),(4,.c (.int .i64 s.vars.length)),(5,.c (.int .i64 i))]) l.length ?_ ?_))
 ·exact⟨0,s,by omega,by omega,h,(LStep.refl s).mono (by omega),rfl⟩
 ·rintro n e1 H1 ⟨i,s1,hn1,hi,h1,st1,rfl⟩;refine Q5 ?_;refine Qa ?_;simp only[go_sem,Qa5];intro hl;simp only[LIM]at hl;refine Qh (Qe rfl ?_ ?_)
  ·intro hc;have hlt:i<l.length:=by simpa using hc
   have hm:=Qnu (Jd hlt);have htk:=Qvp hlt;have htl:=Qiw l (i+1);refine Qi ?_;simp only[go_sem];refine Qh (Qf (Qt ?_));simp only[go_sem,hlt,Qa5,Qe7 _ _ hlt,St.take5,St.allOw,St.cells_len];refine hS l[i] F H1 w s1 _ _ (by omega) (Qbhd hok _ (Jd hlt)) h1 (st1.at_ hat) (st1.ok _ hsok) (by omega) fun s2 H2 h2 st2=>?_;refine Qt ?_;simp only[go_sem,X.next];exact⟨Qr (by omega) (by omega),l.length-(i+1),by omega,i+1,s2,rfl,by omega,h2,(st1.trans st2).mono (by rw[htk];omega),rfl⟩
  ·intro hc;have hge:l.length≤i:=by simpa using hc
   rw[Jc hge]at st1;have hw1:=h1.hw;obtain⟨hv1',hv2'⟩:=h1.vget;have hvl':=h1.gv.lenC;have hvo':=h1.gv.isOw;have hve':=h1.gv.elemSz;have hvle:=st1.vl;have hrv:∀r∈s1.vars.take s.vars.length,VarRow r:=fun r hr=>h1.rv r (J5 hr);have fin:∀(H2:Heap) (c:C),H2=H1.set w (LS.o { s1 with vc:=c })→VGr s1.lv (s1.vars.take s.vars.length) c→Qz Qm5 K .nrm [] H2:=by
    intro H2 c h2 hg;simp only[Qz,Q8,Qm5];refine⟨by simp,hK { s1 with vc:=c,vars:=s1.vars.take s.vars.length } H2 (h1.setw h2 rfl rfl rfl rfl hg hrv) ⟨st1.bl,fun M hM=>?_,by simp;omega,st1.at_,st1.fn⟩⟩;have:=st1.ok M hM;exact⟨this.r0,this.r1,this.n0,this.n1,this.b1,this.i1,by have:=this.v1;simp;omega⟩
   refine Qv ?_;simp only[go_sem,X.next];refine Qt ?_;rcases h1.gv with ⟨g1,g2,g3⟩|⟨y,all,k,g1,g2,g3,g4⟩
   ·have hz:s.vars.length=0:=(by rw[g2]at hvle;simpa using hvle);simp only[go_sem,hw1,LS.o,g1,hz,Jbm,List.drop_nil];refine⟨⟨by omega,by omega⟩,fun H2 h2=>?_⟩;refine fin H2 (.sl true 3 []) h2 (.inl ⟨rfl,by rw[g2];simp,g3⟩)
   ·rw[g1]at hv1' hvl';have hk:k=s1.vars.length:=(by simpa[lenC]using hvl');simp only[go_sem]at hv1';simp only[go_sem,hw1,LS.o,g1,hv1'];refine⟨⟨by omega,by omega⟩,fun H2 h2=>?_⟩;refine fin H2 (.vsl y 3 0 (s.vars.length-0)) h2 (.inr ⟨y,all,s.vars.length-0,rfl,by omega,?_,g4⟩);rw[g3,Jbj];congr 1;omega
set_option maxHeartbeats 1000000 in
theorem Qbjb {n:Nat}(hS:∀m,m<n→Qa6j m):Qbro n:=by
 intro x F H w s N K hn hok h hat hsok hN hK;have hsz:=x.size_eq;rw[St.ok_eq]at hok;obtain⟨hap,hao,hbo,heo⟩:=hok;have ham:=Qeu (Jd hap);refine Qd Qai Qaua ?_;refine Qa ?_;simp only[go_sem,x.cells_eq];refine Qa ?_;simp only[go_sem];refine Qgw h hsok (by omega) fun s1 H1 h1 st1 hb1=>?_;simp only[go_sem,Qu5];refine Qa ?_;simp only[go_sem];refine Qgw h1 (st1.ok _ hsok) (by omega) fun s2 H2 h2 st2 hb2=>?_;have st2:=st1.trans st2;simp only[go_sem,Qu6];refine Qa ?_;simp only[go_sem];refine Qgw h2 (st2.ok _ hsok) (by omega) fun s3 H3 h3 st3 hb3=>?_;have st3:=st2.trans st3;simp only[go_sem,Qu7];refine Qa ?_;simp only[go_sem];refine Qxi (next:=[(s.blocks.length:Int)]) (N:=0) h3 (st3.at_ hat) (by omega) fun s4 H4 h4 st4=>?_;have hb4:=st4.bl;have st4:=st3.trans st4;refine Qa ?_;simp only[go_sem,hap,Qa1,Qet _ _ hap,Ex.take4,Ex.allOw,Ex.cells_len];refine⟨by omega,?_⟩;refine Qbp3 _ x.args[0] F H4 w s4 _ _ (Jk _) (Qaas hao _ (Jd hap)) h4 (st4.at_ hat) (st4.ok _ hsok) (by omega) fun v s5 H5 h5 st5=>?_;have hb5:=st5.bl;have st5:=st4.trans st5;simp only[go_sem,Qu8];refine Qa ?_;simp only[go_sem];refine Qxi (next:=[(s1.blocks.length:Int),(s2.blocks.length:Int)]) (N:=0) h5 (st5.at_ hat) (by omega) fun s6 H6 h6 st6=>?_;have hb6:=st6.bl;have st6:=st5.trans st6;refine Qa ?_;simp only[go_sem];refine hS (Q1 x.body) (by omega) x.body _ F H6 w s6 _ _ (Jk _) hbo h6 (st6.at_ hat) (st6.ok _ hsok) (by omega) fun s7 H7 h7 st7=>?_;have hb7:=st7.bl;have st7:=st6.trans st7;refine Qt ?_;simp only[go_sem];refine Qxi (next:=[(s.blocks.length:Int)]) (N:=0) h7 (st7.at_ hat) (by omega) fun s8 H8 h8 st8=>?_;have st8:=st7.trans st8;simp only[Qz,Q8,Q5i];exact⟨by simp,hK s8 H8 h8 (st8.mono (by omega))⟩
set_option maxHeartbeats 2000000 in
theorem Qblo {n:Nat}(hS:∀m,m<n→Qa6j m):Qbpn n:=by
 intro x F H w s N K hn hok h hat hsok hN hK;have hok':=hok;have hsz:=x.size_eq;rw[St.ok_eq]at hok;obtain⟨hap,hao,hbo,heo⟩:=hok;refine Qd Qai Qaub ?_;have retn:∀(e:Env) (s':LS) (H':Heap) (q:X),(q=.nrm∨q=.ret)→LInv F H' w s'→LStep s s' (10 * x.size)→Qz Qrp K q e H':=by
  intro e s' H' q hq a1 a2;rcases hq with rfl|rfl <;> exact⟨by simp[Qrp],hK s' H' a1 a2⟩
 refine Qa ?_;simp only[go_sem,x.cells_eq];refine Q5 ?_;refine Qa ?_;simp only[go_sem];refine Qh (Qe rfl ?_ ?_)
 ·intro hc;refine Qa ?_;simp only[go_sem];rw[←x.cells_eq];refine Qbjb hS x F H w s N _ hn hok' h hat hsok hN fun s1 H1 h1 st1=>?_;simp only[Qahv];refine Qk ?_;simp only[go_sem];exact retn _ s1 H1 _ (.inr rfl) h1 st1
 intro hc0;refine Qi ?_;simp only[go_sem];refine Qa ?_;simp only[go_sem];refine Q5 ?_;refine Qa ?_;simp only[go_sem];refine Qh (Qf (Qw (fun n e1 H1=>∃(i:Nat) (ars:List Int) (c:C) (Lg:List (Nat×Obj)) (s':LS),n=x.args.length-i∧i≤x.args.length∧ars.length=i∧Gr Lg 1 (Qb ars) c∧LInv F H1 w s'∧Kn F H1 [] (s'.L w++Lg)∧
  LStep s s' (10 * Qah (x.args.take i))∧e1=[(0,.c (.ptr w 0)),(3,.c (.pp [.int .i64 x.op,.str x.name,.sl false 4 (Qbn x.args),.sl false 5 (Qaz x.body),.sl false 5 (Qaz x.els)])),(4,.c c),(5,.c (.int .i64 i))]) x.args.length ?_ ?_))
 ·exact⟨0,[],_,[],s,by omega,by omega,rfl,.nil 1,h,by simpa using h.kn,(LStep.refl s).mono (by omega),rfl⟩
 ·rintro n e1 H1 ⟨i,ars,c,Lg,s1,hn1,hi,harl,hgr,h1,kn,st1,rfl⟩;refine Q5 ?_;refine Qa ?_;simp only[go_sem,Qa1];intro hl;simp only[LIM]at hl;refine Qh (Qe rfl ?_ ?_)
  ·intro hc;have hlt:i<x.args.length:=by simpa using hc
   have hm:=Qeu (Jd hlt);have htk:=Qqu hlt;have htl:=Qhm x.args (i+1);refine Qi ?_;simp only[go_sem];refine Qh (Qf (Qt ?_));simp only[go_sem,hlt,Qa1,Qet _ _ hlt,Ex.take4,Ex.allOw,Ex.cells_len];obtain⟨F',hf,back⟩:=h1.beside kn hgr;refine Qbp3 _ _ F' H1 w s1 _ _ (Jk _) (Qaas hao _ (Jd hlt)) hf (st1.at_ hat) (st1.ok _ hsok) (by omega) fun v s2 H2 h2 st2=>?_;obtain⟨h2,kn⟩:=back s2 H2 h2;simp only[go_sem,Qva];refine kn.grow (new:=Qb [v]) hgr (.mk' _ _ _ _) (Qn _) (by simp only[Qc,harl,Jp,Jr,LIM];omega) fun y' H3 kn=>?_;simp only[go_sem,Qu9];refine Qt ?_;simp only[go_sem,X.next];refine⟨Qr (by omega) (by omega),x.args.length-(i+1),by omega,i+1,ars++[v],_,_,s2,rfl,by omega,by simp[harl],.mk y' 1 (Qb (ars++[v])) (n:=(Qb ars).length+(Qb [v]).length) (by simp[Qb]),h2.re kn.drop,by rw[Qbc];exact kn,(st1.trans st2).mono (by rw[htk];omega),by simp[Qb]⟩
  ·intro hc;have hge:x.args.length≤i:=by simpa using hc
   have hil:i=x.args.length:=by omega
   rw[Jc hge]at st1;have har0:0<ars.length:=by omega
   refine Qv ?_;simp only[go_sem,X.next];refine Q5 ?_;obtain⟨S,H2,f1,f2,kn2⟩:=hgr.freeze kn (Qn _);have h2:=h1.re kn2;refine c_gh (Qdr S (fun t=>?_) f2) (e':=[(0,.c (.ptr w 0)),(3,.c (.pp [.int .i64 x.op,.str x.name,.sl false 4 (Qbn x.args),.sl false 5 (Qaz x.body),.sl false 5 (Qaz x.els)])),(4,.c (.sl false 1 (Qb ars)))]) ?_
   ·simp only[lk];split
    ·exact .c _ _ (.same _ rfl)
    ·split
     ·exact .c _ _ (.same _ rfl)
     ·split
      ·exact .c _ _ f1
      ·exact .unk _
   have hsok1:=st1.ok _ hsok;have hat1:=st1.at_ hat;have hw2:=h2.hw;refine Qa ?_;simp only[go_sem];refine Qf ?_;refine Qa ?_;simp only[go_sem];refine Qe rfl ?_ ?_
   ·
    intro hc;refine Qa ?_;simp only[go_sem,hw2,LS.o];refine Q3v h2 hat1 hsok1 (by omega) fun s3 H3 h3 st3=>?_;have hw3:=h3.hw;have hvo:=h3.gv.isOw;have hsok3:=st3.ok _ hsok1;have st3:=st1.trans st3;simp only[go_sem];refine Qad ?_;simp only[go_sem,hw3,LS.o,hvo];refine h3.addVar ⟨x.name,s3.next,0,rfl⟩ (by have:=hsok3.v1;simp only[LIM];omega) fun y H4 hw4 cont=>?_;simp only[go_sem,Qvb,hw4,LS.o];intro H5 h5;have h5':=cont H5 h5;have hw5:=h5'.hw;refine Qt ?_;have hn0:=hsok3.n0;have hn1:=hsok3.n1;simp only[go_sem,hw5,LS.o];refine⟨Qr (by omega) (by omega),fun H6 h6=>?_⟩;have h6':=h5'.setw (s':={ s3 with vc:=.vsl y 3 0 (s3.vars.length+1),lv:=[(y,.vec 3 (s3.vars++[[C.str x.name,C.int IntKind.i64 s3.next,C.int IntKind.i64 0]]))],vars:=s3.vars++[[C.str x.name,C.int IntKind.i64 s3.next,C.int IntKind.i64 0]],next:=s3.next+1 }) h6 rfl rfl rfl rfl h5'.gv h5'.rv;refine retn _ _ H6 _ (.inl rfl) h6' ⟨st3.bl,fun M hM=>?_,?_,st3.at_,st3.fn⟩
    ·have q:=st3.ok M hM;refine⟨q.r0,?_,?_,?_,?_,fun b hb=>?_,?_⟩
     ·have:=q.r1;show s3.regs≤_;omega
     ·have:=q.n0;show 0≤s3.next+1;omega
     ·have:=q.n1;show s3.next+1≤_;omega
     ·have:=q.b1;show s3.blocks.length≤_;omega
     ·have:=q.i1 b hb;omega
     ·have:=q.v1;simp;omega
    ·have:=st3.vl;simp;omega
   intro hc1;refine Qa ?_;simp only[go_sem];refine Qe rfl ?_ ?_
   ·
    intro hc;refine Qt ?_;simp only[go_sem];refine Qbqv h2 fun v=>?_;simp only[go_sem,Qvc];refine Q3v h2 hat1 hsok1 (by omega) fun s3 H3 h3 st3=>?_;exact retn _ _ H3 _ (.inl rfl) h3 ((st1.trans st3).mono (by omega))
   intro hc2;refine Qa ?_;simp only[go_sem];refine Qe rfl ?_ ?_
   ·intro hc;refine Qt ?_;simp only[go_sem];refine Q3v h2 hat1 hsok1 (by omega) fun s3 H3 h3 st3=>?_;exact retn _ _ H3 _ (.inl rfl) h3 ((st1.trans st3).mono (by omega))
   intro hc3;refine Qa ?_;simp only[go_sem];refine Qe rfl ?_ ?_
   ·intro hc;refine Qt ?_;simp only[go_sem];refine Q3v h2 hat1 hsok1 (by omega) fun s3 H3 h3 st3=>?_;exact retn _ _ H3 _ (.inl rfl) h3 ((st1.trans st3).mono (by omega))
   intro hc4;refine Qa ?_;simp only[go_sem];refine Qe rfl ?_ ?_
   ·
    intro hc;refine Qbg ?_;simp only[go_sem,har0,Qc,Qm _ _ har0];refine⟨by omega,?_⟩;refine Qgw h2 hsok1 (by omega) fun s3 H3 h3 st3 hb3=>?_;have st3:=st1.trans st3;simp only[go_sem,Qpf,har0,Qc,Qm _ _ har0];refine⟨by omega,?_⟩;refine Qxi (next:=[]) (N:=0) h3 (st3.at_ hat) (by omega) fun s4 H4 h4 st4=>?_;exact retn _ _ H4 _ (.inl rfl) h4 ((st3.trans st4).mono (by omega))
   intro hc5;refine Qa ?_;simp only[go_sem];refine Qe rfl ?_ ?_
   ·
    intro hc;refine Qa ?_;simp only[go_sem];refine Qgw h2 hsok1 (by omega) fun s3 H3 h3 st3 hb3=>?_;have st3:=st1.trans st3;simp only[go_sem,Qpg];refine Qa ?_;simp only[go_sem];refine Qgw h3 (st3.ok _ hsok) (by omega) fun s4 H4 h4 st4 hb4=>?_;have st4:=st3.trans st4;simp only[go_sem,Qph];refine Qa ?_;simp only[go_sem];refine Qgw h4 (st4.ok _ hsok) (by omega) fun s5 H5 h5 st5 hb5=>?_;have st5:=st4.trans st5;simp only[go_sem,Qpi];refine Qa ?_;simp only[go_sem,har0,Qc,Qm _ _ har0];refine⟨by omega,?_⟩;refine Qxi (next:=[(s1.blocks.length:Int),(s3.blocks.length:Int)]) (N:=0) h5 (st5.at_ hat) (by omega) fun s6 H6 h6 st6=>?_;have hb6:=st6.bl;have st6:=st5.trans st6;refine Qa ?_;simp only[go_sem];refine hS (Q1 x.body) (by omega) x.body _ F H6 w s6 _ _ (Jk _) hbo h6 (st6.at_ hat) (st6.ok _ hsok) (by omega) fun s7 H7 h7 st7=>?_;have hb7:=st7.bl;have st7:=st6.trans st7;refine Qa ?_;simp only[go_sem];refine Qxi (next:=[(s4.blocks.length:Int)]) (N:=0) h7 (st7.at_ hat) (by omega) fun s8 H8 h8 st8=>?_;have hb8:=st8.bl;have st8:=st7.trans st8;refine Qa ?_;simp only[go_sem];refine hS (Q1 x.els) (by omega) x.els _ F H8 w s8 _ _ (Jk _) heo h8 (st8.at_ hat) (st8.ok _ hsok) (by omega) fun s9 H9 h9 st9=>?_;have hb9:=st9.bl;have st9:=st8.trans st9;refine Qt ?_;simp only[go_sem];refine Qxi (next:=[(s4.blocks.length:Int)]) (N:=0) h9 (st9.at_ hat) (by omega) fun s10 H10 h10 st10=>?_;exact retn _ _ H10 _ (.inl rfl) h10 ((st9.trans st10).mono (by omega))
   ·intro hc6;refine Qi ?_;simp only[go_sem];exact retn _ _ H2 _ (.inl rfl) h2 (st1.mono (by omega))
theorem Qbrg (n:Nat):Qa6j n:=by
 induction n using Nat.strongRecOn with
 |ind n ih=>exact Qbg9 (Qblo ih)
end Go.AE.Y
namespace Go.AE.Y
open Go.Proofs.Tryz
variable {H:Heap}{K:V→Heap→Prop}
set_option maxHeartbeats 2000000 in
theorem Qbqd {fns:List Fn}{fl:Bool}{k:Nat}(hk:k<fns.length)(hpl:fns[k].params.length≤3)(hbo:Qcx fns[k].body)(hbs:Q1 fns[k].body≤2^34)
  (hK:∀(c:CodeD) (H':Heap),Upd H H' []→c.fits→K (.ag c.cells) H'):Qo prog Qa0c [.ag [.sl fl 3 (Qb2 fns)],.c (.int .i64 k)] H K:=by
 refine Qu ?_;refine Qd Qai Qbqj ?_;refine Qa ?_;simp only[go_sem];intro x4 hx4 H1 h1;have kn:=(Kn.start0 H).al hx4 h1;refine Qa ?_;simp only[go_sem,hk,Qbe,Qhg _ _ hk,Fn.take3,Fn.allOw,Fn.cells_len];generalize fns[k]=f at *;intro x5 hx5 H2 h2;have kn:=kn.al hx5 h2;have hx52:=kn.l 1 rfl;simp only[go_sem,Qayj,hx52,Fn.cells];intro H3 h3;have kn:Kn H H3 [] [(x4,.st [.int .i64 0,.int .i64 0,.sl true 5 []]),(x5,.st [.str f.name,.sl false 1 (Qbj f.params),.sl false 5 (Qaz f.body)])]:=kn.stL 1 rfl h3;have hx43:=kn.l 0 rfl;have hx53:=kn.l 1 rfl;have h45:=kn.neL 0 1 rfl rfl (by decide);refine Qa ?_;simp only[go_sem,hx53,Qao];intro hpl2 w hw H4 h4;have h:LInv H3 H4 w ⟨fns,fl,0,0,.sl true 5 [],[],[],0,.sl true 3 [],[],[],f.params.length⟩:=
  ⟨(Kn.start0 H3).al hw h4,.nil 5,.inl ⟨rfl,rfl,rfl⟩,by simp,by simp,by simp⟩
 have hfr:∀(s:LS) (H':Heap),LInv H3 H' w s→H' x4=.st [.int .i64 0,.int .i64 0,.sl true 5 []]∧H' x5=.st [.str f.name,.sl false 1 (Qbj f.params),.sl false 5 (Qaz f.body)]:=fun s H' h'=>
  ⟨by rw[h'.kn.chg x4 (by rw[hx43];simp) (by simp),hx43],by rw[h'.kn.chg x5 (by rw[hx53];simp) (by simp),hx53]⟩
 have hx54:=(hfr _ _ h).2;have hw4:=h.hw;simp only[go_sem,Qayk];refine Qa ?_;simp only[go_sem,hx54,hw4,LS.o,Qao];intro _ H5 h5;have h:=h.setw (s':=⟨fns,fl,f.params.length,0,.sl true 5 [],[],[],0,.sl true 3 [],[],[],f.params.length⟩) h5 rfl rfl rfl rfl h.gv h.rv;have hx55:=(hfr _ _ h).2;refine Qad ?_;simp only[go_sem,hx55,Qao];refine Qbi7 _ f.body (Jk _) (by omega) fun v hv=>?_;have hw5:=h.hw;simp only[go_sem,Qayl,hx55,hw5,LS.o,Qao];refine⟨Qr (by omega) (by omega),fun H6 h6=>?_⟩;have h:=h.setw (s':=⟨fns,fl,f.params.length,(f.params.length:Int)+v,.sl true 5 [],[],[],0,.sl true 3 [],[],[],f.params.length⟩) h6 rfl rfl rfl rfl h.gv h.rv;refine Q5 ?_;refine Qa ?_;simp only[go_sem];refine Qh (Qf (Qw (fun n e1 H1=>∃(i:Nat) (s':LS),n=f.params.length-i∧i≤f.params.length∧LInv H3 H1 w s'∧s'.blocks=[]∧s'.at_=0∧s'.regs=(f.params.length:Int)+v∧s'.next=f.params.length∧s'.vars.length=i∧
  e1=[(4,.c (.ptr x4 0)),(5,.c (.ptr x5 0)),(6,.c (.ptr w 0)),(7,.c (.int .i64 i))]) f.params.length ?_ ?_))
 ·exact⟨0,_,by omega,by omega,h,rfl,rfl,rfl,rfl,rfl,rfl⟩
 ·rintro n e1 H1 ⟨i,s,hn1,hi,h,hb0,ha0,hr0,hn0,hvl,rfl⟩;have hx51:=(hfr _ _ h).2;have hw1:=h.hw;have hvo:=h.gv.isOw;refine Q5 ?_;refine Qa ?_;simp only[go_sem,hx51,Qao];intro _;refine Qh (Qe rfl ?_ ?_)
  ·intro hc;have hlt:i<f.params.length:=by simpa using hc
   refine Qi ?_;simp only[go_sem];refine Qh (Qf (Qbg ?_));simp only[go_sem,hx51,hw1,LS.o,hvo,hlt,Qao,Qiu _ _ hlt];refine h.addVar ⟨_,_,_,rfl⟩ (by simp only[LIM];omega) fun y H4 hw4 cont=>?_;simp only[go_sem,Qaym,hw4,LS.o];intro H5 h5;have h':=cont H5 h5;refine Qt ?_;simp only[go_sem,X.next];exact⟨Qr (by omega) (by omega),f.params.length-(i+1),by omega,i+1,_,rfl,by omega,h',hb0,ha0,hr0,hn0,by simp[hvl],rfl⟩
  ·intro hc;refine Qv ?_;simp only[go_sem,X.next];have hsok:s.ok (3+v):=⟨by rw[hr0];omega,by rw[hr0];omega,by rw[hn0];omega,by rw[hn0];omega,by simp[hb0],by simp[hb0],by omega⟩;refine Qa ?_;simp only[go_sem];refine Qas4 h hsok (by omega) fun s1 H4 h1 st1 hb1 hat1=>?_;have hat:s1.at_<s1.blocks.length:=by rw[hat1,ha0];omega
   have hsok1:=st1.ok _ hsok;refine Qa ?_;have hx54:=(hfr _ _ h1).2;simp only[go_sem,hx54];refine Qbrg _ f.body _ H3 H4 w s1 _ _ (Jk _) hbo h1 hat hsok1 (by omega) fun s2 H5 h2 st2=>?_;refine Qa ?_;simp only[go_sem];refine Qq6 h2 (st2.ok _ hsok1) (by omega) fun s3 H6 h3 st3=>?_;have st3:=st2.trans st3;simp only[go_sem,Qayo];refine Q3v (args:=[]) h3 (st3.at_ hat) (st3.ok _ hsok1) (by omega) fun s4 H7 h4 st4=>?_;have st4:=st3.trans st4;simp only[go_sem,Qayn];have hbl4:=st4.bl;refine Qa ?_;simp only[go_sem];refine Qxi (at':=0) (next:=[]) (N:=0) h4 (st4.at_ hat) (by omega) fun s5 H8 h5 st5=>?_;have hw8:=h5.hw;obtain⟨hx48,hx58⟩:=hfr _ _ h5;have hbow:=h5.gb.isOw;refine Qa ?_;simp only[go_sem,hw8,hx48,LS.o,hbow];intro H9 h9;have hx49:H9 x4=.st [.int .i64 s5.params,.int .i64 s5.regs,s5.bc]:=by rw[h9];exact Heap.set_same _ _ _
   have ho9:∀m,m≠x4→H9 m=H8 m:=fun m hm=>by rw[h9];exact Heap.set_other _ _ hm
   have huse:∀m,H m≠.none→H9 m=H m:=fun m hm=>by
    have e1:=kn.chg m hm (by simp);have e2:=h5.kn.chg m (by rw[e1];exact hm) (by simp);rw[ho9 m (fun hh=>by subst hh;exact hm (kn.free 0 rfl)),e2,e1]
   have hun:∀p∈s5.L w,H9 p.1=p.2∧un H p.1=true:=fun p hp=>by
    have e1:=(h5.kn.get p (by simpa using hp)).1;have e2:=h5.kn.loc p hp;have hne:p.1≠x4:=fun hh=>(by rw[hh,hx43]at e2;simp at e2);refine⟨by rw[ho9 _ hne,e1],Qkj ?_⟩
    cases hh:H p.1 with
    |none=>rfl
    |_=>have:=kn.chg p.1 (by rw[hh];simp) (by simp);rw[e2,hh]at this;simp at this
   refine Qk ?_;simp only[go_sem,Qz,Q8,Qbmf,reduceIte,Ja,forall_eq,RS.op,hx49,hbow];have hok5:=(st4.trans st5).ok _ hsok1;obtain⟨bs,hbs1,hbs2,hbs3⟩:=Qa6n (H:=H9) (S:=un H) s5.blocks fun b hb=>⟨h5.gi b hb,h5.ri b hb,fun p hp=>hun p (by
    simp only[LS.L,Je,List.mem_flatMap];exact .inr (.inr (.inr ⟨b,hb,hp⟩))),by have:=hok5.i1 b hb;omega⟩
   refine⟨.ag (CodeD.mk s5.params s5.regs bs).cells,FrzL.ag (.cons (Qg rfl) (.cons (Qg rfl) (.cons (Gr.frzM h5.gb (fun p hp=>hun p (by
    simp only[LS.L,Je];exact .inr (.inl hp))) hbs1) .nil))),hK _ _ ⟨by simp,fun m hm _=>?_⟩ hbs3⟩
   rw[Qbdd hm];exact huse m hm
theorem Qbi8 {fns:List Fn}{fl:Bool}(hp:PrOk fns)(hK:∀(cs:List CodeD) (H':Heap),Upd H H' []→0<cs.length→(∀c∈cs,c.fits)→K (.ag [.sl false 3 (Ql cs)]) H') :
  Qo prog Qaa5 [.ag [.sl fl 3 (Qb2 fns)]] H K:=by
 refine Qu ?_;refine Qd Qai Qbju ?_;refine Qa ?_;simp only[go_sem];intro x2 hx2 H1 h1;have kn:=(Kn.start0 H).al hx2 h1;refine Qa ?_;simp only[go_sem];intro x3 hx3 H2 h2;have kn:=kn.al hx3 h2;have hx32:=kn.l 1 rfl;simp only[go_sem,Qahj,hx32];intro H3 h3;have kn:Kn H H3 [] [(x2,.st [.sl true 3 []]),(x3,.st [.sl true 3 []])]:=kn.stL 1 rfl h3;refine Q5 ?_;refine Qa ?_;simp only[go_sem];refine Qh (Qf (Qw (fun n e1 H1=>∃(i:Nat) (cs:List CodeD) (c:C) (Lg:List (Nat×Obj)),n=fns.length-i∧i≤fns.length∧cs.length=i∧(∀c∈cs,c.fits)∧Gr Lg 3 (Ql cs) c∧Kn H H1 [] ([(x2,.st [.sl true 3 []]),(x3,.st [c])]++Lg)∧
  e1=[(1,.c (.pp [.sl fl 3 (Qb2 fns)])),(2,.c (.ptr x2 0)),(3,.c (.ptr x3 0)),(4,.c (.int .i64 i))]) fns.length ?_ ?_))
 ·exact⟨0,[],_,[],by omega,by omega,rfl,by simp,.nil 3,kn,rfl⟩
 ·rintro n e1 H1 ⟨i,cs,c,Lg,hn1,hi,hcl,hfit,hgr,kn,rfl⟩;refine Q5 ?_;refine Qa ?_;simp only[go_sem,Qbe];intro hl;simp only[LIM]at hl;have hcow:=hgr.isOw;have hx31:=kn.l 1 rfl;refine Qh (Qe rfl ?_ ?_)
  ·intro hc;have hlt:i<fns.length:=by simpa using hc
   have hm:=Jd hlt;refine Qi ?_;simp only[go_sem];refine Qh (Qf (Qbg ?_));simp only[go_sem,hx31,hcow];refine Qbqd hlt (hp.par _ hm) (hp.ok _ hm) (by have:=Qre hm;have:=hp.size;omega) fun x H4 hu hxf=>?_;have kn:=kn.call0 hu;have hx34:=kn.l 1 rfl;simp only[go_sem,Qahl,hx34,hcow,CodeD.cells];refine kn.grow (B:=[_,_]) (new:=[x.cells]) hgr (.mk' _ _ _ _) (by intro r hr;simp only[Ja]at hr;subst hr;rfl) (by simp only[Q3,LIM,Jp,Jr];omega) fun y' H5 kn=>?_;have hx35:=kn.l 1 rfl;simp only[go_sem,Qahk,hx35];intro H6 h6;have kn:=kn.stL 1 rfl h6;refine Qt ?_;simp only[go_sem,X.next];refine⟨Qr (by omega) (by omega),fns.length-(i+1),by omega,i+1,cs++[x],_,_,rfl,by omega,by simp[hcl],fun c' hc'=>by
    rcases Je.1 hc' with h|h
    ·exact hfit c' h
    ·simp at h;subst h;exact hxf,?_,kn,rfl⟩
   rw[Qas9];exact .mk _ _ _ (by simp[Q3])
  ·intro hc;have hge:fns.length≤i:=by simpa using hc
   have hx21:=kn.l 0 rfl;refine Qv ?_;simp only[go_sem,X.next];refine Qa ?_;simp only[go_sem,hx31,hx21,hcow];intro H2 h2;have kn:=kn.stL 0 rfl h2;have hx22:=kn.l 0 rfl;refine Qk ?_;simp only[go_sem,Qz,Q8,Qa7q,reduceIte,Ja,forall_eq,RS.op,hx22,hcow];exact⟨.ag [.sl false 3 (Ql cs)],FrzL.ag (.cons (hgr.frz (B:=[_,_]) kn (Qbh _)) .nil),hK _ _ kn.fin (by have:=hp.pos;omega) hfit⟩
attribute [local instance] Classical.propDecidable
def Qq8 (q:CodeD):Bool:=decide (0≤q.params∧q.params≤3)&&decide (q.params≤q.regs∧q.regs≤300)&&decide (1≤(q.blocks.length:Int)∧(q.blocks.length:Int)≤160)
def Qxg (y:BlkD):Nat:=y.ins.length+y.phis.length
def Qf6 {α:Type}(f:α→Nat)(l:List α):Nat:=(l.map f).sum
theorem Qb8 {α:Type}{f:α→Nat}{l:List α}{i:Nat}(h:i<l.length):Qf6 f (l.take (i+1))=Qf6 f (l.take i)+f l[i]:=by
 rw[Qf6,Qf6,Jf h,Jad,Jbi];simp
theorem Qa6e {α:Type}{f:α→Nat}{l:List α}(i:Nat):Qf6 f (l.take i)≤Qf6 f l:=by
 have:Qf6 f l=Qf6 f (l.take i)+Qf6 f (l.drop i):=by rw[Qf6,Qf6,Qf6,←Jbi,←Jad,Jal]
 omega
def Qqt (q:CodeD):Nat:=Qf6 Qxg q.blocks
def Qah9 (cs:List CodeD)(k:Nat)(hk:k<cs.length):Prop:=Qq8 cs[k]=true∧∀(b:Nat) (h:b<cs[k].blocks.length),Q0k cs k b cs[k] cs[k].blocks[b]=true
def Qbo8 (cs:List CodeD):Prop:=(1≤(cs.length:Int)∧(cs.length:Int)≤4)∧(∀(k:Nat) (h:k<cs.length),Qah9 cs k h)∧Qf6 Qqt cs≤800
noncomputable def Qas (cs:List CodeD):Bool:=decide (Qbo8 cs)
theorem Qa78 {cs:List CodeD}(hfit:∀c∈cs,c.fits)(h:Qas cs=true):cs.length≤4∧0<cs.length∧∀c∈cs,c.gd:=by
 obtain⟨h1,h2,_⟩:=of_decide_eq_true h;refine⟨by omega,by omega,fun c hc=>?_⟩;obtain⟨k,hk,rfl⟩:=Jay hc;obtain⟨g1,g2⟩:=h2 k hk;simp only[Qq8,Jl,decide_eq_true_eq]at g1;refine⟨by omega,by omega,fun b hb=>?_,fun b hb=>hfit _ (Jd hk) b hb⟩;obtain⟨i,hi,rfl⟩:=Jay hb;exact Qbcu (g2 i hi)
theorem Qv3 {cs:List CodeD}(h:¬Qbo8 cs):Qas cs=false:=decide_eq_false h
theorem Qblv {cs:List CodeD}{k j:Nat}(hk:k<cs.length)(hj:j<cs[k].blocks.length)(h:800<Qf6 Qqt (cs.take k)+Qf6 Qxg (cs[k].blocks.take j)+Qxg cs[k].blocks[j]):¬Qbo8 cs:=by
 rintro⟨_,_,h3⟩;have a1:=Qa6e (f:=Qqt) (l:=cs) (k+1);rw[Qb8 hk]at a1;have a2:=Qa6e (f:=Qxg) (l:=cs[k].blocks) (j+1);rw[Qb8 hj]at a2;simp only[Qqt]at *;omega
set_option maxHeartbeats 2000000 in
theorem Qqr {cs:List CodeD}{fl:Bool}(hfit:∀c∈cs,c.fits)(hK:∀(H':Heap),Upd H H' []→K (.c (.bool (Qas cs))) H') :
  Qo prog Qbx [.ag [.sl fl 3 (Ql cs)]] H K:=by
 refine Qu ?_;refine Qd Qai Qait ?_;have retf:∀(b:Bool) (e:Env) (H':Heap) (L:List (Nat×Obj)),Qas cs=b→Kn H H' [] L→lk 2 e=.c (.bool b)→Qz Qdd (unK H K) .ret e H':=by
  intro b e H' L hb kn h3;simp only[go_sem,Qz,Q8,Qdd,Ja,forall_eq,RS.op,h3];rw[←hb];exact⟨_,.c _ _ (Qg rfl),hK _ kn.fin⟩
 have kn:=Kn.start0 H;refine Qa ?_;simp only[go_sem];refine Q5 ?_;refine Qa ?_;simp only[go_sem,Q3];intro hcl;refine Qds ?_;simp only[go_sem,Ql5];refine Qh (Qe rfl ?_ ?_)
 ·intro hc;refine Qa ?_;simp only[go_sem];refine Qk ?_;simp only[go_sem];exact retf false _ _ _ (Qv3 fun hu=>by have:=of_decide_eq_false (Qpp hc);exact this hu.1) kn (by simp[lk])
 intro hc;have hc4:cs.length≤4∧0<cs.length:=by
  have:1≤(cs.length:Int)∧(cs.length:Int)≤4:=by simpa using hc
  omega
 refine Qi ?_;simp only[go_sem];refine Qa ?_;simp only[go_sem];refine Q5 ?_;refine Qa ?_;simp only[go_sem];refine Qh (Qf (Qw (fun m e1 H1=>∃(k n:Nat),m=cs.length-k∧k≤cs.length∧n=Qf6 Qqt (cs.take k)∧n≤800∧(∀(i:Nat) (hi:i<cs.length),i<k→Qah9 cs i hi)∧Kn H H1 [] []∧e1=[(1,.c (.pp [.sl fl 3 (Ql cs)])),(3,.c (.int .i64 n)),(4,.c (.int .i64 k))]) cs.length ?_ ?_))
 ·exact⟨0,0,by omega,by omega,rfl,by omega,fun _ _ h=>by omega,kn,rfl⟩
 ·rintro m e1 H1 ⟨k,n,hm,hk,hns,hn,hgd,kn,rfl⟩;refine Q5 ?_;refine Qa ?_;simp only[go_sem,Q3];intro hcl;refine Qh (Qe rfl ?_ ?_)
  ·intro hc;have hlt:k<cs.length:=by simpa using hc
   refine Qi ?_;simp only[go_sem];refine Qh (Qf ?_);refine Qa ?_;simp only[go_sem,hlt,Q3,Qal _ _ hlt,CodeD.cells];obtain⟨q,hq⟩:∃q,cs[k]=q:=⟨_,rfl⟩;rw[hq];intro x5 hx5 H2 h2;have kn:=kn.al hx5 h2;have hx52:=kn.l 0 rfl;simp only[go_sem,Ql6,hx52];intro H3 h3;have kn:Kn H H3 [] [(x5,.st [.int .i64 q.params,.int .i64 q.regs,.sl false 5 (Qs q.blocks)])]:=kn.stL 0 rfl h3;have hx53:=kn.l 0 rfl;refine Q5 ?_;refine Qa ?_;simp only[go_sem,hx53];refine Qds ?_;simp only[go_sem,Ql7,hx53];have rest:∀(b:Bool) (E1:Env),lk 1 E1=.c (.pp [.sl fl 3 (Ql cs)])→lk 3 E1=.c (.int .i64 n)→lk 4 E1=.c (.int .i64 k)→lk 5 E1=.c (.ptr x5 0)→lk 42 E1=.c (.bool b)→Qq8 q=(!b)→
     Qae prog (s_sp_UnitValid_6.seq Ql4) (X.inBlock 1 (X.sq prog Qe2 (X.next (fun e2 H2=>∃m_1,m_1<m∧∃(k n:Nat),m_1=cs.length-k∧k≤cs.length∧n=Qf6 Qqt (cs.take k)∧n≤800∧(∀(i:Nat) (hi:i<cs.length),i<k→Qah9 cs i hi)∧Kn H H2 [] []∧e2=[(1,.c (.pp [.sl fl 3 (Ql cs)])),(3,.c (.int .i64 n)),(4,.c (.int .i64 k))])
      (X.inBlock 0 (X.sq prog Qe3 (Qz Qdd (unK H K))))))) E1 H3:=by
    intro b E1 l1 l3 l4 l5 l42 hb;refine Qh (Qe l42 ?_ ?_)
    ·intro hc2;refine Qa ?_;simp only[go_sem];refine Qk ?_;simp only[go_sem,X.next];exact retf false _ _ _ (Qv3 fun hu=>by have:=(hu.2.1 k hlt).1;rw[hq,hb,hc2]at this;simp at this) kn (by simp[lk])
    intro hc2;rw[hc2]at hb;have hb':=hb;simp only[Qq8,Ju,Jl,decide_eq_true_eq]at hb';obtain⟨hr0,hr1,hb0,hbl⟩:0≤q.regs∧q.regs≤300∧0<q.blocks.length∧q.blocks.length≤160:=(by omega);refine Qi ?_;simp only[go_sem];refine Qa ?_;simp only[go_sem,l1,l3,l4,l5];refine Qf (Qw (fun m e1 H1=>∃(j n2:Nat),m=q.blocks.length-j∧j≤q.blocks.length∧n2=n+Qf6 Qxg (q.blocks.take j)∧n2≤800∧(∀(i:Nat) (hi:i<q.blocks.length),i<j→Q0k cs k i q q.blocks[i]=true)∧Kn H H1 [] [(x5,.st [.int .i64 q.params,.int .i64 q.regs,.sl false 5 (Qs q.blocks)])]∧
     e1=[(1,.c (.pp [.sl fl 3 (Ql cs)])),(3,.c (.int .i64 n2)),(4,.c (.int .i64 k)),(5,.c (.ptr x5 0)),(6,.c (.int .i64 j))]) q.blocks.length ?_ ?_)
    ·exact⟨0,n,by omega,by omega,rfl,hn,fun _ _ h=>by omega,kn,rfl⟩
    ·rintro m2 e1 H4 ⟨j,n2,hm2,hj,hn2s,hn2,hnx,kn,rfl⟩;have hx54:=kn.l 0 rfl;refine Q5 ?_;refine Qa ?_;simp only[go_sem,hx54,Qp];intro hbl2;refine Qh (Qe rfl ?_ ?_)
     ·intro hc3;have hjl:j<q.blocks.length:=(by simpa using hc3);refine Qi ?_;simp only[go_sem];refine Qh (Qf ?_);have hqf:=hfit _ (Jd hlt);rw[hq]at hqf;have hbf:=hqf _ (Jd hjl);have hss:=Qb8 (f:=Qxg) hjl;have hcy:Qxg q.blocks[j]=q.blocks[j].ins.length+q.blocks[j].phis.length:=rfl;refine Qad ?_;simp only[go_sem,hx54,hjl,Qp,Qa6 _ _ hjl,BlkD.cells,Qay,Qy];refine⟨Qr (by omega) (by omega),Qr (by omega) (by omega),?_⟩;refine Qa ?_;simp only[go_sem];have fin:∀(b3:Bool) (E1:Env) (H5:Heap),(decide (n2+Qxg q.blocks[j]≤800)&&Q0k cs k j q q.blocks[j])=(!b3)→Kn H H5 [] [(x5,.st [.int .i64 q.params,.int .i64 q.regs,.sl false 5 (Qs q.blocks)])]→lk 1 E1=.c (.pp [.sl fl 3 (Ql cs)])→
        lk 3 E1=.c (.int .i64 ((n2+q.blocks[j].ins.length+q.blocks[j].phis.length:Nat):Int))→lk 4 E1=.c (.int .i64 k)→lk 5 E1=.c (.ptr x5 0)→lk 6 E1=.c (.int .i64 j)→lk 75 E1=.c (.bool b3)→
        Qae prog Qpk (X.inBlock 3 (X.sq prog Ql3 (X.next (fun e2 H2=>∃m,m<m2∧∃(j n2:Nat),m=q.blocks.length-j∧j≤q.blocks.length∧n2=n+Qf6 Qxg (q.blocks.take j)∧n2≤800∧(∀(i:Nat) (hi:i<q.blocks.length),i<j→Q0k cs k i q q.blocks[i]=true)∧Kn H H2 [] [(x5,.st [.int .i64 q.params,.int .i64 q.regs,.sl false 5 (Qs q.blocks)])]∧
         e2=[(1,.c (.pp [.sl fl 3 (Ql cs)])),(3,.c (.int .i64 n2)),(4,.c (.int .i64 k)),(5,.c (.ptr x5 0)),(6,.c (.int .i64 j))])
         (X.inBlock 2 (X.inBlock 1 (X.sq prog Qe2 (X.next (fun e2 H2=>∃m_1,m_1<m∧∃(k n:Nat),m_1=cs.length-k∧k≤cs.length∧n=Qf6 Qqt (cs.take k)∧n≤800∧(∀(i:Nat) (hi:i<cs.length),i<k→Qah9 cs i hi)∧Kn H H2 [] []∧e2=[(1,.c (.pp [.sl fl 3 (Ql cs)])),(3,.c (.int .i64 n)),(4,.c (.int .i64 k))])
         (X.inBlock 0 (X.sq prog Qe3 (Qz Qdd (unK H K))))))))))) E1 H5:=by
       intro b3 E1 H5 hb3 kn l1 l3 l4 l5 l6 l75;refine Qe l75 ?_ ?_
       ·intro hc4;refine Qa ?_;simp only[go_sem];refine Qk ?_;simp only[go_sem,X.next];refine retf false _ _ _ (Qv3 fun hu=>?_) kn (by simp[lk]);rw[hc4]at hb3;have hblk:=(hu.2.1 k hlt).2 j (by rw[hq];exact hjl);subst hq;have hov:¬800<n2+Qxg cs[k].blocks[j]:=fun ho=>Qblv hlt hjl (by omega) hu;rw[hblk]at hb3;simp at hb3;omega
       ·intro hc4;rw[hc4]at hb3;simp only[Ju,Jl,decide_eq_true_eq]at hb3;refine Qi ?_;simp only[go_sem];refine Qt ?_;simp only[go_sem,X.next,l1,l3,l4,l5,l6];refine⟨Qr (by omega) (by omega),q.blocks.length-(j+1),by omega,j+1,_,rfl,by omega,?_,?_,?_,kn,rfl⟩
        ·rw[hss];omega
        ·omega
        ·intro i hi hij;by_cases hij2:i<j
         ·exact hnx i hi hij2
         ·have:i=j:=(by omega);subst this;exact hb3.2
      refine⟨fun hb1=>?_,fun hb1=>?_⟩
      ·refine Qbd3 hlt (by rw[hq];exact hjl) (by rw[hq];exact hr0) (by rw[hq];exact hr1) (by omega) (by rw[hq];omega) fun H5 hu=>?_;have kn:=kn.call0 hu;simp only[go_sem,Qe5];refine fin _ _ _ ?_ kn (by simp[lk]) (by simp[lk]) (by simp[lk]) (by simp[lk]) (by simp[lk]) (by simp[lk];rfl);subst hq;by_cases ho:n2+Qxg cs[k].blocks[j]≤800
       ·have ho':¬800<(n2:Int)+cs[k].blocks[j].ins.length+cs[k].blocks[j].phis.length:=(by simp only[Qxg]at ho;omega);simp[ho,ho']
       ·have ho':800<(n2:Int)+cs[k].blocks[j].ins.length+cs[k].blocks[j].phis.length:=(by simp only[Qxg]at ho;omega);simp[ho,ho']
      ·replace hb1:=Qgc hb1;simp only[go_sem,Qe5,hb1];exact fin true _ _ (by simp at hb1;simp[hcy];omega) kn (by simp[lk]) (by simp[lk]) (by simp[lk]) (by simp[lk]) (by simp[lk]) (by simp[lk])
     ·intro hc3;refine Qv ?_;simp only[go_sem,X.next];refine Qt ?_;simp only[go_sem,X.next];have hjq:q.blocks.length≤j:=(by simpa using hc3);have hjq:j=q.blocks.length:=(by omega);refine⟨Qr (by omega) (by omega),cs.length-(k+1),by omega,k+1,n2,rfl,by omega,?_,hn2,?_,kn.drop (A:=[]),rfl⟩
      ·rw[Qb8 hlt,hq,hn2s,hns,hjq,J1];rfl
      ·intro i hi hik;by_cases hik2:i<k
       ·exact hgd i hi hik2
       ·have:i=k:=(by omega);subst this;subst hq;exact⟨by rw[hb];rfl,fun b hbl=>hnx b hbl (by omega)⟩
   refine⟨fun hb1=>?_,fun hb1=>?_⟩
   ·refine Qds ?_;simp only[go_sem,Qe4,hx53,Qp];intro hblim;refine⟨fun hb2=>?_,fun hb2=>?_⟩
    ·replace hb2:=Qpp hb2;refine Qds ?_;simp only[go_sem,Qcw];refine rest _ _ (by simp[lk]) (by simp[lk]) (by simp[lk]) (by simp[lk]) (by simp[lk];rfl) ?_;simp[Qq8]
    ·replace hb2:=Qgc hb2;simp only[go_sem,Qcw,hb2];exact rest true _ (by simp[lk]) (by simp[lk]) (by simp[lk]) (by simp[lk]) (by simp[lk]) (by simp at hb2;simp[Qq8];omega)
   ·replace hb1:=Qgc hb1;simp only[go_sem,Qe4,Qcw,hb1,hx53,Qp,cond_true];exact rest true _ (by simp[lk]) (by simp[lk]) (by simp[lk]) (by simp[lk]) (by simp[lk]) (by simp at hb1;simp[Qq8];omega)
  ·intro hc;refine Qv ?_;simp only[go_sem,X.next];refine Qa ?_;simp only[go_sem];refine Qk ?_;have hkc:cs.length≤k:=by simpa using hc
   refine retf true _ _ _ (decide_eq_true ⟨by omega,fun i hi=>hgd i hi (by omega),?_⟩) kn (by simp[lk]);rw[Jc hkc]at hns;omega
theorem Qazz {cs:List CodeD}{fl:Bool}(hfit:∀c∈cs,c.fits)(hK:∀(b:Bool) (H':Heap),(b=true→cs.length≤4∧0<cs.length∧∀c∈cs,c.gd)→Upd H H' []→K (.c (.bool b)) H') :
  Qo prog Qbx [.ag [.sl fl 3 (Ql cs)]] H K:=Qqr hfit fun H' hu=>hK _ H' (Qa78 hfit) hu
end Go.AE.Y
namespace Go.AE.Y
open Go.Proofs.Tryz
variable {H:Heap}{K:V→Heap→Prop}
def UnitOk (cs:List CodeD):Prop:=0<cs.length∧cs.length≤4∧∀c∈cs,c.gd
theorem Qbdw {R:Rdr}{k:Nat}(hH:H R.l=R.o k)(hk:k+7100000≤2^30)
  (hK:∀(cs:List CodeD) (H':Heap) (k':Nat),k<k'→k'≤k+7050000→Upd H H' [(R.l,R.o k')]→UnitOk cs→K (.ag [.sl false 3 (Ql cs)]) H') :
  Qo prog Q3c [.c (.ptr R.l 0)] H K:=by
 refine Qu ?_;refine Qd Qai Qbec ?_;refine Qa ?_;simp only[go_sem];intro x2 hx2 H1 h1;have kn:=(Kn.start1 hH (R.o_ne k)).al hx2 h1;have tail:∀(E1:Env) (H2:Heap) (k1:Nat) (L:List (Nat×Obj)),k<k1→k1≤k+7000500→Kn H H2 [(R.l,R.o k1)] ([(x2,.st [.sl true 3 []])]++L)→lk 0 E1=.c (.ptr R.l 0)→lk 2 E1=.c (.ptr x2 0)→
   Qae prog Qadb (Qz Q1a (unK H K)) E1 H2:=by
  intro E1 H2 k1 L hk1 hk2 kn l0 l2;refine Qa ?_;simp only[go_sem,l0,l2];refine Qa64 (kn.e 0 rfl) (by omega) fun cs H3 k2 hk3 hk4 hu hcs0 hcs3 hsm=>?_;have kn:=kn.callE 0 rfl hu (R.o_ne _);have hx2:=kn.l 0 rfl;simp only[go_sem,Q6d,hx2,l2];intro H4 h4;have kn:=kn.stL 0 rfl h4;have hx2:=kn.l 0 rfl;refine Qk ?_;simp only[go_sem,Qz,Q8,Q1a,reduceIte,Ja,forall_eq,RS.op,hx2];exact⟨_,FrzL.ag (.cons (FrzR.same (Qbh cs)).sl .nil),hK cs _ k2 (by omega) (by omega) kn.fin ⟨hcs0,by omega,fun c hc=>(hsm c hc).gd⟩⟩
 refine Q5 ?_;refine Qa ?_;simp only[go_sem];refine Qba (kn.e 0 rfl) (by omega) fun v H2 hv hu=>?_;have kn:=kn.callE 0 rfl hu (R.o_ne _);simp only[go_sem,Q59];refine Qh (Qe rfl ?_ ?_)
 ·intro hc;refine Qa ?_;simp only[go_sem];refine Qbi1 (kn.e 0 rfl) (by omega) fun l H3 k1 hk1 hk2 hu hp=>?_;have kn:=kn.callE 0 rfl hu (R.o_ne _);simp only[go_sem,Q6c];refine Qbi8 hp fun cs H4 hu hcs0 hfit=>?_;have kn:=kn.call0 hu;simp only[go_sem,Q6b];intro x3 hx3 H5 h5;have kn:=kn.al hx3 h5;have hx3:=kn.l 1 rfl;simp only[go_sem,Q6a,hx3];intro H6 h6;have kn:=kn.stL 1 rfl h6;have hx3:=kn.l 1 rfl;refine Qa ?_;simp only[go_sem,hx3];refine Qazz hfit fun b H7 hb hu=>?_;have kn:=kn.call0 hu;have hx3:=kn.l 1 rfl;have hx2:=kn.l 0 rfl;refine Qe rfl ?_ ?_
  ·intro hb1;refine Qa ?_;simp only[go_sem,hx3,hx2];intro H8 h8;have kn:=kn.stL 0 rfl h8;have hx2:=kn.l 0 rfl;refine Qk ?_;simp only[go_sem,Qz,Q8,Q1a,reduceIte,Ja,forall_eq,RS.op,hx2];obtain⟨g1,g2,g3⟩:=hb hb1;exact⟨_,FrzL.ag (.cons (FrzR.same (Qbh cs)).sl .nil),hK cs _ k1 (by omega) (by omega) kn.fin ⟨g2,g1,g3⟩⟩
  ·intro hb1;refine Qi ?_;simp only[go_sem];exact tail _ _ k1 [(x3,.st [.sl false 3 (Ql cs)])] (by omega) (by omega) kn (by simp[lk]) (by simp[lk])
 ·intro hc;refine Qi ?_;simp only[go_sem];exact tail _ _ (k+1) [] (by omega) (by omega) kn (by simp[lk]) (by simp[lk])
theorem Qatm {R:Rdr}{k:Nat}(hH:H R.l=R.o k)(hk:k+7200000≤2^30)
  (hK:∀(cs:List CodeD) (H':Heap) (k':Nat),k<k'→k'≤k+7100000→Upd H H' [(R.l,R.o k')]→UnitOk cs→K (.ag [.sl false 3 (Ql cs)]) H') :
  Qo prog Qvs [.c (.ptr R.l 0)] H K:=by
 refine Qu ?_;refine Qd Qai Qbd7 ?_;refine Qa ?_;simp only[go_sem];intro x2 hx2 H1 h1;have kn:=(Kn.start1 hH (R.o_ne k)).al hx2 h1;refine Q5 ?_;refine Qa ?_;simp only[go_sem];refine Qba (kn.e 0 rfl) (by omega) fun v H2 hv hu=>?_;have kn:=kn.callE 0 rfl hu (R.o_ne _);simp only[go_sem,Q5o];refine Qh (Qe rfl ?_ ?_)
 ·intro hc;refine Qa ?_;simp only[go_sem];refine Qbi2 (kn.e 0 rfl) (by omega) fun cs H3 k2 hk3 hk4 hu hcs0 hcs3 hgd=>?_;have kn:=kn.callE 0 rfl hu (R.o_ne _);have hx2:=kn.l 0 rfl;simp only[go_sem,Q5p,hx2];intro H4 h4;have kn:=kn.stL 0 rfl h4;have hx2:=kn.l 0 rfl;refine Qk ?_;simp only[go_sem,Qz,Q8,Qab0,reduceIte,Ja,forall_eq,RS.op,hx2];exact⟨_,FrzL.ag (.cons (FrzR.same (Qbh cs)).sl .nil),hK cs _ k2 (by omega) (by omega) kn.fin ⟨hcs0,by omega,hgd⟩⟩
 ·intro hc;refine Qi ?_;simp only[go_sem];refine Qa ?_;simp only[go_sem];refine Qbdw (kn.e 0 rfl) (by omega) fun cs H3 k2 hk3 hk4 hu hok=>?_;have kn:=kn.callE 0 rfl hu (R.o_ne _);have hx2:=kn.l 0 rfl;simp only[go_sem,Q5q,hx2];intro H4 h4;have kn:=kn.stL 0 rfl h4;have hx2:=kn.l 0 rfl;refine Qk ?_;simp only[go_sem,Qz,Q8,Qab0,reduceIte,Ja,forall_eq,RS.op,hx2];exact⟨_,FrzL.ag (.cons (FrzR.same (Qbh cs)).sl .nil),hK cs _ k2 (by omega) (by omega) kn.fin hok⟩
theorem Qatn {fl:Bool}{bs:List UInt8}(hK:∀(R:Rdr) (H':Heap),H R.l=.none→H'=H.set R.l (R.o 0)→K (.c (.ptr R.l 0)) H'):Qo prog Qvw [.c (.sl fl 1 (Qbf bs))] H K:=by
 refine Qd Qai Qbeg ?_;refine Qa ?_;simp only[go_sem];refine Q5 ?_;refine Qa ?_;simp only[go_sem,Qat];intro _;have tail:∀(fl:Bool) (bs:List UInt8) (E1:Env),lk 0 E1=.c (.sl fl 1 (Qbf bs))→Qae prog Qadr (Qz Qab5 K) E1 H:=by
  intro fl bs E1 l0;refine Qa ?_;simp only[go_sem,l0];intro l hl H' h';simp only[go_sem,Q6g];refine Qk ?_;simp only[go_sem,Qz,Q8,Qab5,reduceIte,Ja,forall_eq,RS.op];exact hK ⟨l,fl,bs⟩ H' hl h'
 refine Qh (Qe rfl ?_ ?_)
 ·intro hc;have h2:(2000:Int)<bs.length:=by simpa using hc
  refine Qt ?_;simp only[go_sem,Qat];refine⟨⟨by omega,by omega,by omega⟩,?_⟩;have ht:List.take 2000 (Qbf bs)=Qbf (bs.take 2000):=by simp[Qbf,Ja3]
  rw[ht];exact tail _ (bs.take 2000) _ (by simp[lk];rfl)
 ·intro hc;refine Qi ?_;exact tail fl bs _ (by simp[lk])
end Go.AE.Y
namespace Go.AE.Y
def Qev (n:Nat)(nx:Nat→List Int):Bool:=(List.range n).all (fun i=>(nx i).all fun x=>decide (0≤x∧x≤(n:Int)-1))&&decide (0<n)
def nxN (nx:Nat→List Int)(b:Nat):List Nat:=(nx b).map Int.toNat
theorem Q0n {n:Nat}{nx:Nat→List Int}(h:Qev n nx=true){b:Nat}(hb:b<n){x:Int}(hx:x∈nx b):0≤x∧x≤(n:Int)-1:=by
 simp only[Qev,Jl,J8,J0,decide_eq_true_eq]at h;exact h.1 b hb x hx
theorem Qkn {n:Nat}{nx:Nat→List Int}(h:Qev n nx=true):0<n:=by
 simp only[Qev,Jl,decide_eq_true_eq]at h;exact h.2
theorem Qxj {n:Nat}{nx:Nat→List Int}(h:Qev n nx=true){b:Nat}(hb:b<n){x:Nat}(hx:x∈nxN nx b):x<n:=by
 obtain⟨y,hy,rfl⟩:=Jt.1 hx;have:=Q0n h hb hy;omega
inductive Dfs (g:Nat→List Nat):List Nat→List Bool→List Nat→List Bool→List Nat→Prop
 |nil (S:List Bool) (o:List Nat):Dfs g [] S o S o
 |skip {x:Nat} {xs:List Nat} {S S':List Bool} {o o':List Nat}:S.getD x false=true→Dfs g xs S o S' o'→Dfs g (x::xs) S o S' o'
 |go {x:Nat} {xs:List Nat} {S S1 S':List Bool} {o o1 o':List Nat}:S.getD x false=false→Dfs g (g x) (S.set x true) o S1 o1→Dfs g xs S1 (o1++[x]) S' o'→Dfs g (x::xs) S o S' o'
variable {g:Nat→List Nat}{xs:List Nat}{S S' S1:List Bool}{o o' o1:List Nat}
theorem Dfs.app (h:Dfs g xs S o S1 o1):∀{ys:List Nat},Dfs g ys S1 o1 S' o'→Dfs g (xs++ys) S o S' o':=by
 induction h with
 |nil S o=>exact fun h=>h
 |skip h1 h2 ih=>exact fun h=>.skip h1 (ih h)
 |go h1 h2 h3 ih1 ih2=>exact fun h=>.go h1 h2 (ih2 h)
theorem Dfs.one {x:Nat}(h1:S.getD x false=false)(h:Dfs g (g x) (S.set x true) o S1 o1):Dfs g [x] S o S1 (o1++[x]):=.go h1 h (.nil _ _)
theorem Dfs.len (h:Dfs g xs S o S' o'):S'.length=S.length:=by
 induction h with
 |nil=>rfl
 |skip _ _ ih=>exact ih
 |go _ _ _ ih1 ih2=>rw[ih2,ih1,Jq]
theorem Qg3 (S:List Bool)(x y:Nat):(S.set x true).getD y false=(if y=x∧x<S.length then true else S.getD y false):=by
 simp only[Jb,Ja9];by_cases h:x=y
 ·subst h;by_cases h2:x<S.length
  ·simp[h2]
  ·simp[h2]
 ·have h':¬y=x:=fun hh=>h hh.symm;simp[h,h']
theorem Dfs.mono (h:Dfs g xs S o S' o'):∀x,S.getD x false=true→S'.getD x false=true:=by
 induction h with
 |nil=>exact fun _ h=>h
 |skip _ _ ih=>exact ih
 |go _ _ _ ih1 ih2=>
  intro x hx;refine ih2 x (ih1 x ?_);rw[Qg3];split
  ·rfl
  ·exact hx
def cnt (S:List Bool):Nat:=S.count true
theorem Qzb {x:Nat}(hx:x<S.length)(h:S.getD x false=false):cnt (S.set x true)=cnt S+1:=by
 induction S generalizing x with
 |nil=>simp at hx
 |cons a S ih=>
  cases x with
  |zero=>
   simp at h;subst h;simp[cnt]
  |succ x=>
   have:=ih (x:=x) (by simpa using hx) (by simpa using h);simp only[cnt,Ja5,Jbf]at this⊢;omega
theorem Q0l (S:List Bool):cnt S≤S.length:=List.count_le_length
theorem Dfs.count (h:Dfs g xs S o S' o'):(∀x,x<S.length→∀y∈g x,y<S.length)→(∀x∈xs,x<S.length)→o'.length+cnt S=o.length+cnt S':=by
 induction h with
 |nil=>intros;rfl
 |skip _ _ ih=>exact fun h1 h2=>ih h1 fun x hx=>h2 x (Jh _ hx)
 |@go x xs S S1 S' o o1 o' h1 h2 h3 ih1 ih2=>
  intro hg hxs;have hx:=hxs x Jm;have e1:=ih1 (by simpa using hg) (by simpa using hg x hx);have hl:=h2.len;rw[Jq]at hl;have e2:=ih2 (by rw[hl];exact hg) (by rw[hl];exact fun y hy=>hxs y (Jh _ hy));rw[Qzb hx h1]at e1;simp only[J2,Jp,Jr]at e2;omega
theorem Dfs.olen (h:Dfs g xs S o S' o'):o.length≤o'.length:=by
 induction h with
 |nil=>exact Jk _
 |skip _ _ ih=>exact ih
 |go _ _ _ ih1 ih2=>rw[J2]at ih2;omega
theorem Dfs.all (h:Dfs g xs S o S' o'):∀P:Nat→Prop,(∀x,P x→∀y∈g x,P y)→(∀x∈xs,P x)→(∀x∈o,P x)→∀x∈o',P x:=by
 induction h with
 |nil=>exact fun P _ _ h=>h
 |skip _ _ ih=>exact fun P h1 h2 h3=>ih P h1 (fun x hx=>h2 x (Jh _ hx)) h3
 |go h1 h2 h3 ih1 ih2=>
  intro P hg hxs ho;have hx:=hxs _ Jm;refine ih2 P hg (fun y hy=>hxs y (Jh _ hy)) fun y hy=>?_;rcases Je.1 hy with hy|hy
  ·exact ih1 P hg (hg _ hx) ho y hy
  ·simp at hy;subst hy;exact hx
end Go.AE.Y
namespace Go.AE.Y
open Go.Proofs.Tryz
variable {H:Heap}{K:V→Heap→Prop}
structure GRd (H:Heap)(c:C)(rows:List (List C))(nx:Nat→List Int):Prop where
 s:Slc H 5 rows c
 ow:c.isOw=false
 no:∀r∈rows,noOw r=true
 x:∀i,i<rows.length→∃a1 a2 a3 a4 fl,rows.getD i []=[a1,a2,a3,a4,.sl fl 1 (Qb (nx i))]
theorem GRd.keep {c:C}{rows:List (List C)}{nx:Nat→List Int}{H':Heap}{E L:List (Nat×Obj)}(h:GRd H c rows nx)(kn:Kn H H' E L)(hE:∀l a b d,c=.vsl l a b d→l∉E.map Prod.fst):GRd H' c rows nx:=⟨h.s.keep kn hE,h.ow,h.no,h.x⟩
theorem GRd.keep0 {c:C}{rows:List (List C)}{nx:Nat→List Int}{H':Heap}{L:List (Nat×Obj)}(h:GRd H c rows nx)(kn:Kn H H' [] L):GRd H' c rows nx:=h.keep kn (by simp)
def gnx (q:CodeD):Nat→List Int:=fun i=>(q.blocks.map BlkD.next).getD i []
theorem Qmu (H:Heap)(q:CodeD)(fl:Bool):GRd H (.sl fl 5 (Qs q.blocks)) (Qs q.blocks) (gnx q):=by
 refine⟨.mk' _ _ _ _,rfl,Qza _,fun i h=>?_⟩;rw[Qp]at h;rw[Qa6 _ _ h];have:gnx q i=q.blocks[i].next:=by simp[gnx,Jb,h]
 exact⟨.sl false 2 (Q2 q.blocks[i].phis),.sl false 4 (Qaw q.blocks[i].ins),.int .i64 q.blocks[i].jump,.int .i64 q.blocks[i].on,false,by rw[this];rfl⟩
set_option maxHeartbeats 1000000 in
theorem Qbdv {p rg:Int}{bc:C}{rows:List (List C)}{nx:Nat→List Int}(hg:GRd H bc rows nx)(hK:K (.c (.bool (Qev rows.length nx))) H):Qo prog Q3b [.ag [.int .i64 p,.int .i64 rg,bc]] H K:=by
 refine Qd Qai Qbea ?_;have how:=hg.ow;have hok:=eq_true hg.s.ok;have hlen:=hg.s.len;have hsz:=hg.s.sz;have hrw:=hg.s.rows;have retf:∀(b:Bool) (e:Env),b=Qev rows.length nx→lk 2 e=.c (.bool b)→Qz Qab1 K .ret e H:=by
  intro b e hb h3;simp only[go_sem,Qz,Q8,Qab1,Ja,forall_eq,RS.op,h3];rw[hb];exact hK
 refine Qa ?_;simp only[go_sem];refine Q5 ?_;refine Qa ?_;simp only[go_sem];refine Qh (Qf (Qw (fun m e1 H1=>∃(i:Nat),m=rows.length-i∧i≤rows.length∧H1=H∧(∀j,j<i→∀x∈nx j,0≤x∧x≤(rows.length:Int)-1)∧e1=[(1,.c (.pp [.int .i64 p,.int .i64 rg,bc])),(3,.c (.int .i64 i))]) rows.length ?_ ?_))
 ·exact⟨0,by omega,by omega,rfl,fun j hj=>by omega,rfl⟩
 ·rintro m e1 H1 ⟨i,hm,hi,rfl,hall,rfl⟩;refine Q5 ?_;refine Qa ?_;simp only[go_sem,how,hok,hlen];intro hl;simp only[LIM]at hl;refine Qh (Qe rfl ?_ ?_)
  ·intro hc;have hlt:i<rows.length:=by simpa using hc
   obtain⟨a1,a2,a3,a4,fl,hrow⟩:=hg.x i hlt;refine Qi ?_;simp only[go_sem];refine Q28 (fun e2 H2=>H2=H1∧(∀x∈nx i,0≤x∧x≤(rows.length:Int)-1)∧lk 1 e2=.c (.pp [.int .i64 p,.int .i64 rg,bc])∧lk 3 e2=.c (.int .i64 i)) ?_ ?_
   ·intro Q hn hr _;refine Qf ?_;refine Qa ?_;simp only[go_sem];refine Qf (Qw (fun m e1 H2=>∃(k:Nat),m=(nx i).length-k∧k≤(nx i).length∧H2=H1∧(∀x∈(nx i).take k,0≤x∧x≤(rows.length:Int)-1)∧e1=[(1,.c (.pp [.int .i64 p,.int .i64 rg,bc])),(3,.c (.int .i64 i)),(4,.c (.int .i64 k))]) (nx i).length ?_ ?_)
    ·exact⟨0,by omega,by omega,rfl,by simp,rfl⟩
    ·rintro m2 e1 H2 ⟨k,hm2,hk,rfl,hall2,rfl⟩;refine Q5 ?_;refine Qa ?_;simp only[go_sem,how,hok,hlen,hsz,hrw,hlt,hrow,Qc];intro hl2;simp only[LIM]at hl2;refine Qh (Qe rfl ?_ ?_)
     ·intro hc;have hlt2:k<(nx i).length:=(by simpa using hc);have hgd:(nx i).getD k 0=(nx i)[k]:=(by simp[Jb,hlt2]);refine Qi ?_;simp only[go_sem];refine Qh (Qf ?_);refine Qad ?_;simp only[go_sem,how,hok,hlen,hsz,hrw,hlt,hrow,hlt2,Qc,Qm _ _ hlt2,hgd];refine⟨Qr (by omega) (by omega),?_⟩;refine Qds ?_;simp only[go_sem,Q5z];refine Qe rfl ?_ ?_
      ·intro hc2;refine Qa ?_;simp only[go_sem];refine Qk ?_;simp only[go_sem,X.next];refine hr _ _ (retf false _ ?_ (by simp[lk]))
       cases hf:Qev rows.length nx with
       |false=>rfl
       |true=>
        have:=Q0n hf hlt (Jd hlt2);simp at hc2;omega
      ·intro hc2;refine Qi ?_;simp only[go_sem];refine Qt ?_;simp only[go_sem,X.next];refine⟨Qr (by omega) (by omega),(nx i).length-(k+1),by omega,k+1,rfl,by omega,fun x hx=>?_,rfl⟩;rw[Jf hlt2]at hx;rcases Je.1 hx with hx|hx
       ·exact hall2 x hx
       ·simp only[Ja]at hx;subst hx;simpa using hc2
     ·intro hc;have hge:(nx i).length≤k:=(by simpa using hc);rw[Jc hge]at hall2;refine Qv ?_;simp only[go_sem,X.next];exact hn _ _ ⟨rfl,hall2,by simp[lk],by simp[lk]⟩
   ·rintro e2 H2 ⟨rfl,hx,l1,l3⟩;refine Qt ?_;simp only[go_sem,X.next,l1,l3];refine⟨Qr (by omega) (by omega),rows.length-(i+1),by omega,i+1,rfl,by omega,fun j hj=>?_,rfl⟩;by_cases h:j<i
    ·exact hall j h
    ·have:j=i:=(by omega);subst this;exact hx
  ·intro hc;have hge:i=rows.length:=by have:¬i<rows.length:=(by simpa using hc);omega
   subst hge;refine Qv ?_;simp only[go_sem,X.next];refine Qa ?_;simp only[go_sem,how,hok,hlen];intro _;refine Qk ?_;refine retf _ _ ?_ (by simp[lk];rfl);have:(List.range rows.length).all (fun i=>(nx i).all fun x=>decide (0≤x∧x≤(rows.length:Int)-1))=true:=by
    simp only[J8,J0,decide_eq_true_eq];exact hall
   simp only[Qev,this,Jbk];try (by_cases h:0<rows.length <;> simp[h])
end Go.AE.Y
namespace Go.AE.Y
open Go.Proofs.Tryz
def Qav (S:List Bool):List (List C):=S.map fun b=>[.bool b]
theorem Qck (S:List Bool):(Qav S).length=S.length:=by simp[Qav]
theorem Qi2 (S:List Bool)(i:Nat)(h:i<S.length):(Qav S).getD i []=[.bool (S.getD i false)]:=by
 simp[Qav,Jb,h]
theorem Qaan (S:List Bool)(i:Nat)(b:Bool):(Qav S).set i [.bool b]=Qav (S.set i b):=by simp[Qav,Jau]
def Qag (l:List Nat):List (List C):=Qb (l.map Int.ofNat)
theorem Qan (l:List Nat):(Qag l).length=l.length:=by simp[Qag,Qc]
theorem Qabn (l:List Nat)(n:Nat):Qag l++[[.int .i64 (n:Int)]]=Qag (l++[n]):=by simp[Qag,Qb]
theorem Qmx (l:List Nat):∀r∈Qag l,noOw r=true:=Qn _
set_option maxHeartbeats 2000000 in
theorem Qa9d {F:Heap}{p rg:Int}{bc:C}{rows:List (List C)}{nx:Nat→List Int}{y:Nat}(hfit:Qev rows.length nx=true)(hn:rows.length≤1000000)(hg:GRd F bc rows nx)(hyb:∀l a b d,bc=.vsl l a b d→l≠y) :
  ∀(u b:Nat) (S:List Bool) (o:List Nat) (oc:C) (Lg:List (Nat×Obj)) (H:Heap) (K:V→Heap→Prop),S.length=rows.length→rows.length-cnt S≤u→b<rows.length→S.getD b false=false→
   Kn F H [(y,.vec 1 (Qav S))] ([]++Lg)→Gr Lg 1 (Qag o) oc→o.length≤cnt S→
   (∀(S':List Bool) (o':List Nat) (oc':C) (Lg':List (Nat×Obj)) (H':Heap),Dfs (nxN nx) [b] S o S' o'→Kn F H' [(y,.vec 1 (Qav S'))] ([]++Lg')→Gr Lg' 1 (Qag o') oc'→K (.c oc') H')→
   Qo prog Qmh [.ag [.int .i64 p,.int .i64 rg,bc],.c (.int .i64 b),.c (.vsl y 1 0 rows.length),.c oc] H K:=by
 intro u
 induction u with
 |zero=>
  intro b S o oc Lg H K hS hu hb hsb;have h1:=Qzb (S:=S) (x:=b) (by omega) hsb;have h2:=Q0l (S.set b true);rw[Jq]at h2;omega
 |succ u ih=>
  intro b S o oc Lg H K hS hu hb hsb kn hgr hol hK;have how:=hg.ow;have hbS:b<S.length:=by omega
  obtain⟨a1,a2,a3,a4,fl,hrow⟩:=hg.x b hb;have hsz:=hg.s.sz;have hlen:=hg.s.len;have hy:=kn.e 0 rfl;have hocw:=hgr.isOw;refine Qd Qai Qa9l ?_;refine Qa ?_;simp only[go_sem,how];refine Qa ?_;have htk:List.take rows.length (Qav S)=Qav S:=Jc (by rw[Qck];omega);simp only[go_sem,hy,hb,hbS,Qck,hS,Qi2 _ _ hbS,Qaan,Jac,Jw,Jk];intro H1 h1;have kn:=kn.stE 0 rfl h1;have hcS:=Qzb hbS hsb;have hnxl:(nxN nx b).length=(nx b).length:=by simp[nxN]
  refine Q5 ?_;refine Qa ?_;simp only[go_sem];refine Qh (Qf (Qw (fun m e1 H1=>∃(i:Nat) (S1:List Bool) (o1:List Nat) (oc1:C) (Lg1:List (Nat×Obj)),m=(nx b).length-i∧i≤(nx b).length∧Dfs (nxN nx) ((nxN nx b).take i) (S.set b true) o S1 o1∧
   Kn F H1 [(y,.vec 1 (Qav S1))] ([]++Lg1)∧Gr Lg1 1 (Qag o1) oc1∧
   e1=[(1,.c (.int .i64 b)),(2,.c (.vsl y 1 0 rows.length)),(3,.c oc1),(4,.c (.pp [.int .i64 p,.int .i64 rg,bc])),(9,.c (.int .i64 i))]) (nx b).length ?_ ?_))
  ·exact⟨0,_,o,oc,Lg,by omega,by omega,.nil _ _,kn,hgr,rfl⟩
  ·rintro m e1 H2 ⟨i,S1,o1,oc1,Lg1,hm,hi,hd,kn,hgr,rfl⟩;have hgd:∀x,x<(S.set b true).length→∀z∈nxN nx x,z<(S.set b true).length:=by
    rw[Jq,hS];exact fun x hx z hz=>Qxj hfit hx hz
   have hd1:=hd.len;rw[Jq,hS]at hd1;have hd2:=hd.count hgd (fun x hx=>hgd b (by rw[Jq];exact hbS) x (J5 hx));have hd3:=hd.olen;have hd4:=Q0l S1;have hg2:=hg.keep kn (fun l a b d hh=>by simpa using hyb l a b d hh);have hok2:=eq_true hg2.s.ok;have hrw2:=hg2.s.rows;have hy:=kn.e 0 rfl;refine Q5 ?_;refine Qa ?_;simp only[go_sem,how,hok2,hlen,hsz,hrw2,hb,hrow,Qc];intro hl;simp only[LIM]at hl;refine Qh (Qe rfl ?_ ?_)
   ·intro hc;have hlt:i<(nx b).length:=(by simpa using hc);obtain⟨w,hw⟩:∃w:Nat,(nx b).getD i 0=w:=by
     have h1:=Q0n hfit hb (Jd hlt);refine⟨((nx b)[i]).toNat,?_⟩;simp only[Jb,Jg hlt,Jab];omega
    have hwn:(nxN nx b).take (i+1)=(nxN nx b).take i++[w]:=by
     rw[Jf (by rw[hnxl];exact hlt)];congr 1;simp only[nxN,Jat];simp only[Jb,Jg hlt,Jab]at hw;rw[hw];simp
    have hwl:w<rows.length:=Qxj hfit hb (x:=w) (by
     have:w∈(nxN nx b).take (i+1):=(by rw[hwn];simp);exact J5 this)
    have hwS:w<S1.length:=(by omega);refine Qi ?_;simp only[go_sem];refine Q28 (fun e2 H2=>∃(S2:List Bool) (o2:List Nat) (oc2:C) (Lg2:List (Nat×Obj)),Dfs (nxN nx) ((nxN nx b).take (i+1)) (S.set b true) o S2 o2∧
     Kn F H2 [(y,.vec 1 (Qav S2))] ([]++Lg2)∧Gr Lg2 1 (Qag o2) oc2∧
     lk 1 e2=.c (.int .i64 b)∧lk 2 e2=.c (.vsl y 1 0 rows.length)∧lk 3 e2=.c oc2∧lk 4 e2=.c (.pp [.int .i64 p,.int .i64 rg,bc])∧lk 9 e2=.c (.int .i64 i)) ?_ ?_
    ·intro Q hnr _ _;have htk2:List.take rows.length (Qav S1)=Qav S1:=Jc (by rw[Qck];omega);refine Qf ?_;refine Qa ?_;simp only[go_sem,how,hok2,hlen,hsz,hrw2,hb,hrow,hlt,hy,hw,hwl,hwS,htk2,hd1,Qck,Qi2 _ _ hwS,Qc,Qm _ _ hlt,Jac,Jw,Jk];refine Qe rfl ?_ ?_
     ·intro hc2;have hsw:S1.getD w false=false:=Qpp hc2;refine Qbg ?_;simp only[go_sem,how,hok2,hlen,hsz,hrw2,hb,hrow,hlt,hw,Qc,Qm _ _ hlt,hgr.isOw];refine ih w S1 o1 oc1 Lg1 H2 _ hd1 (by omega) hwl hsw kn hgr (by omega) fun S2 o2 oc2 Lg2 H3 hd' kn hgr=>?_;simp only[go_sem,Q2f];refine hnr _ _ ⟨S2,o2,oc2,Lg2,?_,kn,hgr,rfl,rfl,rfl,rfl,rfl⟩;rw[hwn];exact hd.app hd'
     ·intro hc2;have hsw:S1.getD w false=true:=Qgc hc2;refine Qi ?_;simp only[go_sem];refine hnr _ _ ⟨S1,o1,oc1,Lg1,?_,kn,hgr,rfl,rfl,rfl,rfl,rfl⟩;rw[hwn];exact hd.app (.skip hsw (.nil _ _))
    ·rintro e2 H3 ⟨S2,o2,oc2,Lg2,hd,kn,hgr,l1,l2,l3,l4,l9⟩;refine Qt ?_;simp only[go_sem,X.next,l1,l2,l3,l4,l9];exact⟨Qr (by omega) (by omega),(nx b).length-(i+1),by omega,i+1,S2,o2,oc2,Lg2,rfl,by omega,hd,kn,hgr,rfl⟩
   ·intro hc;have hge:(nx b).length≤i:=(by simpa using hc);rw[Jc (by rw[hnxl];exact hge)]at hd;have hocw:=hgr.isOw;refine Qv ?_;simp only[go_sem,X.next];refine Qa ?_;simp only[go_sem,hocw];refine kn.grow (new:=Qb [(b:Int)]) hgr (.mk' _ _ _ _) (Qn _) (by simp only[Qan,Qc,LIM,Jp,Jr];omega) fun z H3 kn=>?_;simp only[go_sem,Q2g];refine Qk ?_;simp only[go_sem,Qz,Q8,Qan5,reduceIte,Ja,forall_eq,RS.op];refine hK S1 (o1++[b]) _ _ H3 (.one hsb hd) kn ?_;rw[←Qabn];exact .mk _ _ _ (by simp)
variable {H:Heap}{K:V→Heap→Prop}
theorem Qcy {n lo hi:Int}(hK:K (.c (.bool (decide (lo≤n)&&decide (n≤hi)))) H):Qo prog Qaq [.c (.int .i64 n),.c (.int .i64 lo),.c (.int .i64 hi)] H K:=by
 refine Qd Qai Qa0t ?_;refine Qa ?_;simp only[go_sem];refine Qa ?_;simp only[go_sem];refine Qk ?_;simp only[go_sem,Qz,Q8,Qabz,Ja,forall_eq,RS.op];have:(bif decide (lo≤n)then decide (n≤hi)else false)=(decide (lo≤n)&&decide (n≤hi)):=by cases decide (lo≤n) <;> rfl
 first|exact hK|(rw[this];exact hK)|(simpa[this]using hK)
def IsIx (ns:List Int)(v r:Int):Prop:=(r=-1∧v∉ns)∨∃i:Nat,r=i∧i<ns.length∧ns.getD i 0=v∧v∉ns.take i
theorem IsIx.nonneg {ns:List Int}{v r:Int}(h:IsIx ns v r):decide (0≤r)=ns.contains v:=by
 rcases h with ⟨rfl,hn⟩|⟨i,rfl,h1,h2,_⟩
 ·have:ns.contains v=false:=by
   cases hc:ns.contains v with
   |false=>rfl
   |true=>exact absurd (Jak.1 hc) hn
  rw[this];rfl
 ·have:v∈ns:=by
   rw[←h2,Jb,Jg h1];exact Jd h1
  rw[Jak.2 this];simp
theorem Qbcm {c:C}{ns:List Int}{v:Int}(hs:Slc H 1 (Qb ns) c)(how:c.isOw=false)(hK:∀r,IsIx ns v r→K (.c (.int .i64 r)) H) :
  Qo prog Qmr [.c c,.c (.int .i64 v)] H K:=by
 refine Qd Qai Qa9r ?_;have hok:=eq_true hs.ok;have hlen:=hs.len;have hsz:=hs.sz;have hrw:=hs.rows;refine Qa ?_;simp only[go_sem,how];refine Q5 ?_;refine Qa ?_;simp only[go_sem,how,hok,hlen,Qc];intro hl;simp only[LIM]at hl;refine Qh (Qf (Qw (fun m e1 H1=>∃(i:Nat),m=ns.length-i∧i≤ns.length∧H1=H∧v∉ns.take i∧e1=[(0,.c c),(1,.c (.int .i64 v)),(7,.c (.int .i64 ns.length)),(8,.c (.int .i64 i))]) ns.length ?_ ?_))
 ·exact⟨0,by omega,by omega,rfl,by simp,rfl⟩
 ·rintro m e1 H1 ⟨i,hm,hi,rfl,hno,rfl⟩;refine Qa ?_;simp only[go_sem,how];refine Qh (Qe rfl ?_ ?_)
  ·intro hc;have hlt:i<ns.length:=by simpa using hc
   have hgd:ns.getD i 0=ns[i]:=by simp[Jb,hlt]
   refine Qi ?_;simp only[go_sem];refine Qh (Qf ?_);refine Qa ?_;simp only[go_sem,how];refine Qa ?_;simp only[go_sem,how,hok,hlen,hsz,hrw,hlt,Qc,Qm _ _ hlt];refine Qe rfl ?_ ?_
   ·intro hc2;have hv:v=ns.getD i 0:=(by simpa using hc2);refine Qa ?_;simp only[go_sem];refine Qk ?_;simp only[go_sem,X.next,Qz,Q8,Q3y,Ja,forall_eq,RS.op];exact hK _ (.inr ⟨i,rfl,hlt,hv.symm,hno⟩)
   ·intro hc2;have hv:¬v=ns.getD i 0:=(by simpa using hc2);refine Qi ?_;simp only[go_sem];refine Qt ?_;simp only[go_sem,X.next];refine⟨Qr (by omega) (by omega),ns.length-(i+1),by omega,i+1,rfl,by omega,?_,rfl⟩;rw[Jf hlt];simp only[Je,Ja,not_or];exact⟨hno,fun h=>hv (by rw[hgd];exact h)⟩
  ·intro hc;have hge:ns.length≤i:=by simpa using hc
   rw[Jc hge]at hno;refine Qv ?_;simp only[go_sem,X.next];refine Qa ?_;simp only[go_sem];refine Qk ?_;simp only[go_sem,Qz,Q8,Q3y,Ja,forall_eq,RS.op];exact hK _ (.inl ⟨rfl,hno⟩)
theorem Qa8c {c:C}{ns:List Int}{v:Int}(hs:Slc H 1 (Qb ns) c)(how:c.isOw=false)(hK:K (.c (.bool (ns.contains v))) H) :
  Qo prog Qj0 [.c c,.c (.int .i64 v)] H K:=by
 refine Qd Qai Qapp ?_;refine Qa ?_;simp only[go_sem,how];refine Qa ?_;simp only[go_sem,how];refine Qbcm hs how fun r hr=>?_;simp only[go_sem,Qpj];refine Qk ?_;simp only[go_sem,Qz,Q8,Q1i,Ja,forall_eq,RS.op];rw[hr.nonneg];exact hK
theorem Qazv {c:C}{ns:List Int}{f:Nat}{caps:List C}{p:Int→Bool}(hs:Slc H 1 (Qb ns) c)(how:c.isOw=false)
  (hf:∀(x:Int) (K':V→Heap→Prop),x∈ns→K' (.c (.bool (p x))) H→Qo prog f ([.c (.int .i64 x)]++caps.map .c) H K')
  (hK:∀r:Int,decide (0≤r)=ns.any p→K (.c (.int .i64 r)) H) :
  Qo prog Qhy [.c c,.c (.fn f caps)] H K:=by
 refine Qd Qai Qaio ?_;have hok:=eq_true hs.ok;have hlen:=hs.len;have hsz:=hs.sz;have hrw:=hs.rows;refine Qa ?_;simp only[go_sem,how];refine Q5 ?_;refine Qa ?_;simp only[go_sem,how,hok,hlen,Qc];intro hl;simp only[LIM]at hl;refine Qh (Qf (Qw (fun m e1 H1=>∃(i:Nat),m=ns.length-i∧i≤ns.length∧H1=H∧(∀x∈ns.take i,p x=false)∧e1=[(0,.c c),(1,.c (.fn f caps)),(7,.c (.int .i64 ns.length)),(8,.c (.int .i64 i))]) ns.length ?_ ?_))
 ·exact⟨0,by omega,by omega,rfl,by simp,rfl⟩
 ·rintro m e1 H1 ⟨i,hm,hi,rfl,hno,rfl⟩;refine Qa ?_;simp only[go_sem,how];refine Qh (Qe rfl ?_ ?_)
  ·intro hc;have hlt:i<ns.length:=by simpa using hc
   have hgd:ns.getD i 0=ns[i]:=by simp[Jb,hlt]
   refine Qi ?_;simp only[go_sem];refine Qh (Qf ?_);refine Qa ?_;simp only[go_sem,how];refine Qa ?_;simp only[go_sem,how,hok,hlen,hsz,hrw,hlt,Qc,Qm _ _ hlt];refine hf _ _ (by rw[hgd];exact Jd hlt) ?_;refine Qe rfl ?_ ?_
   ·intro hc2;refine Qa ?_;simp only[go_sem];refine Qk ?_;simp only[go_sem,X.next,Qz,Q8,Qkb,Ja,forall_eq,RS.op];refine hK _ ?_;have:ns.any p=true:=J9.2 ⟨ns[i],Jd hlt,by rw[←hgd];exact hc2⟩;rw[this];simp
   ·intro hc2;refine Qi ?_;simp only[go_sem];refine Qt ?_;simp only[go_sem,X.next];refine⟨Qr (by omega) (by omega),ns.length-(i+1),by omega,i+1,rfl,by omega,?_,rfl⟩;rw[Jf hlt];intro x hx;rcases Je.1 hx with hx|hx
    ·exact hno x hx
    ·simp only[Ja]at hx;subst hx;rw[←hgd];exact hc2
  ·intro hc;have hge:ns.length≤i:=by simpa using hc
   rw[Jc hge]at hno;refine Qv ?_;simp only[go_sem,X.next];refine Qa ?_;simp only[go_sem];refine Qk ?_;simp only[go_sem,Qz,Q8,Qkb,Ja,forall_eq,RS.op];refine hK _ ?_;have:ns.any p=false:=by
    cases hc:ns.any p with
    |false=>rfl
    |true=>obtain⟨x,hx,hp⟩:=J9.1 hc;rw[hno x hx]at hp;exact absurd hp (by simp)
   rw[this];rfl
theorem Qc6 {c:C}{ns:List Int}{f:Nat}{caps:List C}{p:Int→Bool}(hs:Slc H 1 (Qb ns) c)(how:c.isOw=false)
  (hf:∀(x:Int) (K':V→Heap→Prop),x∈ns→K' (.c (.bool (p x))) H→Qo prog f ([.c (.int .i64 x)]++caps.map .c) H K')
  (hK:K (.c (.bool (ns.any p))) H):Qo prog Qa2 [.c c,.c (.fn f caps)] H K:=by
 refine Qd Qai Q3r ?_;refine Qa ?_;simp only[go_sem,how];refine Qa ?_;simp only[go_sem,how];refine Qazv hs how hf fun r hr=>?_;simp only[go_sem,Qgs];refine Qk ?_;simp only[go_sem,Qz,Q8,Qla,Ja,forall_eq,RS.op];rw[hr];exact hK
theorem Qasw {c:C}{rows:List (List C)}{f:Nat}{caps:List C}{p:Nat→Bool}(hs:Slc H 5 rows c)(how:c.isOw=false)(hno:∀r∈rows,noOw r=true)(h5:∀i,i<rows.length→(rows.getD i []).length=5)
  (hf:∀(i:Nat) (K':V→Heap→Prop),i<rows.length→K' (.c (.bool (p i))) H→Qo prog f ([.ag (rows.getD i [])]++caps.map .c) H K')
  (hK:∀r:Int,decide (0≤r)=(List.range rows.length).any p→K (.c (.int .i64 r)) H) :
  Qo prog Qcp [.c c,.c (.fn f caps)] H K:=by
 refine Qd Qai Qwd ?_;have hok:=eq_true hs.ok;have hlen:=hs.len;have hsz:=hs.sz;have hrw:=hs.rows;refine Qa ?_;simp only[go_sem,how];refine Q5 ?_;refine Qa ?_;simp only[go_sem,how,hok,hlen];intro hl;simp only[LIM]at hl;refine Qh (Qf (Qw (fun m e1 H1=>∃(i:Nat),m=rows.length-i∧i≤rows.length∧H1=H∧(∀x,x<i→p x=false)∧e1=[(0,.c c),(1,.c (.fn f caps)),(7,.c (.int .i64 rows.length)),(8,.c (.int .i64 i))]) rows.length ?_ ?_))
 ·exact⟨0,by omega,by omega,rfl,by simp,rfl⟩
 ·rintro m e1 H1 ⟨i,hm,hi,rfl,hall,rfl⟩;refine Qa ?_;simp only[go_sem,how];refine Qh (Qe rfl ?_ ?_)
  ·intro hc;have hlt:i<rows.length:=by simpa using hc
   have htk:(rows.getD i []).take 5=rows.getD i []:=Jc (by rw[h5 i hlt];omega);have hle:(5≤(rows.getD i []).length)=True:=eq_true (by rw[h5 i hlt];omega);have hnw:noOw (rows.getD i [])=true:=hno _ (by rw[Jb,Jg hlt];exact Jd hlt);have haw:((rows.getD i []).all fun c=>!c.isOw)=true:=hnw;refine Qi ?_;simp only[go_sem];refine Qh (Qf ?_);refine Qa ?_;simp only[go_sem,how];refine Qa ?_;simp only[go_sem,how,hok,hlen,hsz,hrw,hlt,htk,hle,hnw,haw,Jac];refine hf _ _ hlt ?_;refine Qe rfl ?_ ?_
   ·intro hc2;refine Qa ?_;simp only[go_sem];refine Qk ?_;simp only[go_sem,X.next,Qz,Q8,Qc5,Ja,forall_eq,RS.op];refine hK _ ?_;have:(List.range rows.length).any p=true:=J9.2 ⟨i,J0.2 hlt,hc2⟩;rw[this];simp
   ·intro hc2;refine Qi ?_;simp only[go_sem];refine Qt ?_;simp only[go_sem,X.next];refine⟨Qr (by omega) (by omega),rows.length-(i+1),by omega,i+1,rfl,by omega,?_,rfl⟩;intro x hx;by_cases h:x<i
    ·exact hall x h
    ·have:x=i:=(by omega);subst this;exact hc2
  ·intro hc;have hge:rows.length≤i:=by simpa using hc
   refine Qv ?_;simp only[go_sem,X.next];refine Qa ?_;simp only[go_sem];refine Qk ?_;simp only[go_sem,Qz,Q8,Qc5,Ja,forall_eq,RS.op];refine hK _ ?_;have:(List.range rows.length).any p=false:=by
    cases hc:(List.range rows.length).any p with
    |false=>rfl
    |true=>obtain⟨x,hx,hp⟩:=J9.1 hc;rw[hall x (by have:=J0.1 hx;omega)]at hp;exact absurd hp (by simp)
   rw[this];rfl
theorem Qaaj {c:C}{rows:List (List C)}{f:Nat}{caps:List C}{p:Nat→Bool}(hs:Slc H 5 rows c)(how:c.isOw=false)(hno:∀r∈rows,noOw r=true)(h5:∀i,i<rows.length→(rows.getD i []).length=5)
  (hf:∀(i:Nat) (K':V→Heap→Prop),i<rows.length→K' (.c (.bool (p i))) H→Qo prog f ([.ag (rows.getD i [])]++caps.map .c) H K')
  (hK:K (.c (.bool ((List.range rows.length).any p))) H):Qo prog Qbw [.c c,.c (.fn f caps)] H K:=by
 refine Qd Qai Qmw ?_;refine Qa ?_;simp only[go_sem,how];refine Qa ?_;simp only[go_sem,how];refine Qasw hs how hno h5 hf fun r hr=>?_;simp only[go_sem,Qcz];refine Qk ?_;simp only[go_sem,Qz,Q8,Qd7,Ja,forall_eq,RS.op];rw[hr];exact hK
theorem Qatg {p rg:Int}{bc:C}{rows:List (List C)}{nx:Nat→List Int}(hg:GRd H bc rows nx)(hK:K (.c (.bool (Qev rows.length nx))) H):Qo prog Qg0 [.ag [.int .i64 p,.int .i64 rg,bc]] H K:=by
 have how:=hg.ow;have hok:=eq_true hg.s.ok;have hlen:=hg.s.len;have h5:∀i,i<rows.length→(rows.getD i []).length=5:=fun i hi=>by obtain⟨a1,a2,a3,a4,fl,h⟩:=hg.x i hi;rw[h];rfl
 refine Qd Qai Qatv ?_;refine Qa ?_;simp only[go_sem,how];refine Qa ?_;simp only[go_sem,how,hok,hlen];intro hl;simp only[LIM]at hl;refine⟨fun hc=>?_,fun hc=>?_⟩
 ·have hn:0<rows.length:=by simpa using hc
  refine Qaaj (p:=fun i=>(nx i).any fun x=>!(decide (0≤x)&&decide (x≤(rows.length:Int)-1))) hg.s how hg.no h5 (fun i K' hi hK'=>?_) ?_
  ·obtain⟨a1,a2,a3,a4,fl,hrow⟩:=hg.x i hi;rw[hrow];refine Qd Qai Qabj ?_;refine Qa ?_;simp only[go_sem,Jaa,J6,J3,Jae];refine Qa ?_;simp only[go_sem];refine Qc6 (ns:=nx i) (p:=fun x=>!(decide (0≤x)&&decide (x≤(rows.length:Int)-1))) (.mk' _ _ _ _) rfl (fun x K'' hx hK''=>?_) ?_
   ·refine Qd Qai Q0w ?_;refine Qa ?_;simp only[go_sem,Jaa,J6,J3,Jae];refine Qa ?_;simp only[go_sem,how,hok,hlen];intro _;refine⟨Qr (by omega) (by omega),?_⟩;refine Qcy ?_;simp only[go_sem,Qfp];refine Qk ?_;simp only[go_sem,Qz,Q8,Qjd,Ja,forall_eq,RS.op];exact hK''
   ·simp only[go_sem,Qjo];refine Qk ?_;simp only[go_sem,Qz,Q8,Qrk,Ja,forall_eq,RS.op];exact hK'
  ·simp only[go_sem,Qij,hc];refine Qk ?_;simp only[go_sem,Qz,Q8,Qrj,Ja,forall_eq,RS.op];have:Qev rows.length nx = !((List.range rows.length).any fun i=>(nx i).any fun x=>!(decide (0≤x)&&decide (x≤(rows.length:Int)-1))):=by
    simp only[Qev,hn,decide_true,Bool.and_true,List.not_any_eq_all_not,Bool.not_not,Bool.decide_and]
   rw[←this];exact hK
 ·have hn:rows.length=0:=by have:¬0<rows.length:=(by simpa using hc);omega
  simp only[go_sem,Qij,hc];refine Qk ?_;simp only[go_sem,Qz,Q8,Qrj,Ja,forall_eq,RS.op];have:Qev rows.length nx=false:=by simp[Qev,hn]
  rw[this]at hK;exact hK
end Go.AE.Y
namespace Go.AE.Y
attribute [local instance] Classical.propDecidable
inductive Rch (g:Nat→List Nat)(A:Nat→Prop):Nat→Nat→Prop
 |refl {x:Nat}:¬A x→Rch g A x x
 |step {x y z:Nat}:Rch g A x y→z∈g y→¬A z→Rch g A x z
variable {g:Nat→List Nat}{A B:Nat→Prop}{x y z:Nat}
theorem Rch.mono (h:Rch g A x y)(hAB:∀z,B z→A z):Rch g B x y:=by
 induction h with
 |refl h=>exact .refl fun hb=>h (hAB _ hb)
 |step h1 h2 h3 ih=>exact ih.step h2 fun hb=>h3 (hAB _ hb)
theorem Rch.fst (h:Rch g A x y):¬A x:=by
 induction h with
 |refl h=>exact h
 |step _ _ _ ih=>exact ih
theorem Rch.snd (h:Rch g A x y):¬A y:=by
 cases h with
 |refl h=>exact h
 |step _ _ h=>exact h
theorem Rch.trans (h:Rch g A x y)(k:Rch g A y z):Rch g A x z:=by
 induction k with
 |refl _=>exact h
 |step _ h2 h3 ih=>exact ih.step h2 h3
theorem Rch.head (hx:¬A x)(hy:y∈g x)(h:Rch g A y z):Rch g A x z:=(Rch.step (.refl hx) hy h.fst).trans h
theorem Rch.lt {n:Nat}(hg:∀x,x<n→∀y∈g x,y<n)(h:Rch g A x y)(hx:x<n):y<n:=by
 induction h with
 |refl _=>exact hx
 |step _ h2 _ ih=>exact hg _ ih _ h2
variable {xs:List Nat}{S S' S1:List Bool}{o o' o1:List Nat}
theorem Dfs.adds (h:Dfs g xs S o S' o'):(∀x,x<S.length→∀y∈g x,y<S.length)→(∀x∈xs,x<S.length)→
  ∃t,o'=o++t∧(∀x,S'.getD x false=true↔S.getD x false=true∨x∈t)∧(∀x∈t,∀y∈g x,S'.getD y false=true)∧
   (∀x∈xs,S'.getD x false=true)∧(∀y∈t,∃x∈xs,Rch g (fun z=>S.getD z false=true) x y):=by
 induction h with
 |nil S o=>exact fun _ _=>⟨[],by simp,by simp,by simp,by simp,by simp⟩
 |@skip x xs S S' o o' h1 h2 ih=>
  intro hg hx;obtain⟨t,e,a1,a2,a3,a4⟩:=ih hg fun y hy=>hx y (Jh _ hy);refine⟨t,e,a1,a2,fun y hy=>?_,fun y hy=>?_⟩
  ·rcases Jv.1 hy with rfl|hy
   ·exact h2.mono _ h1
   ·exact a3 y hy
  ·obtain⟨z,hz,hr⟩:=a4 y hy;exact⟨z,Jh _ hz,hr⟩
 |@go x xs S S1 S' o o1 o' h1 h2 h3 ih1 ih2=>
  intro hg hxs;have hx:=hxs x Jm;have hl:=h2.len;rw[Jq]at hl;obtain⟨t1,e1,a1,a2,a3,a4⟩:=ih1 (by simpa using hg) (by simpa using hg x hx);obtain⟨t2,e2,b1,b2,b3,b4⟩:=ih2 (by rw[hl];exact hg) (by rw[hl];exact fun y hy=>hxs y (Jh _ hy));have hset:∀y,(S.set x true).getD y false=true↔y=x∨S.getD y false=true:=by
   intro y;rw[Qg3];by_cases hyx:y=x
   ·simp[hyx,hx]
   ·simp[hyx]
  have hmono:∀y,S.getD y false=true→S1.getD y false=true:=fun y hy=>(a1 y).2 (.inl ((hset y).2 (.inr hy)));have hxS1:S1.getD x false=true:=(a1 x).2 (.inl ((hset x).2 (.inl rfl)));refine⟨t1++[x]++t2,by rw[e2,e1];simp,fun y=>?_,fun y hy z hz=>?_,fun y hy=>?_,fun y hy=>?_⟩
  ·rw[b1,a1,hset];simp only[Je,Ja];constructor
   ·rintro (((h|h)|h)|h)
    ·exact .inr (.inl (.inr h))
    ·exact .inl h
    ·exact .inr (.inl (.inl h))
    ·exact .inr (.inr h)
   ·rintro (h|((h|h)|h))
    ·exact .inl (.inl (.inr h))
    ·exact .inl (.inr h)
    ·exact .inl (.inl (.inl h))
    ·exact .inr h
  ·rcases Je.1 hy with hy|hy
   ·rcases Je.1 hy with hy|hy
    ·exact (b1 z).2 (.inl (a2 y hy z hz))
    ·simp only[Ja]at hy;subst hy;exact (b1 z).2 (.inl (a3 z hz))
   ·exact b2 y hy z hz
  ·rcases Jv.1 hy with rfl|hy
   ·exact (b1 y).2 (.inl hxS1)
   ·exact b3 y hy
  ·rcases Je.1 hy with hy|hy
   ·rcases Je.1 hy with hy|hy
    ·obtain⟨z,hz,hr⟩:=a4 y hy;exact⟨x,Jm,.head (by rw[h1];simp) hz (hr.mono fun w hw=>(hset w).2 (.inr hw))⟩
    ·simp only[Ja]at hy;subst hy;exact⟨y,Jm,.refl (by rw[h1];simp)⟩
   ·obtain⟨z,hz,hr⟩:=b4 y hy;exact⟨z,Jh _ hz,hr.mono hmono⟩
theorem Dfs.seen (h:Dfs g xs S o S' o')(hg:∀x,x<S.length→∀y∈g x,y<S.length)(hxs:∀x∈xs,x<S.length)(y:Nat) :
  S'.getD y false=true↔S.getD y false=true∨∃x∈xs,Rch g (fun z=>S.getD z false=true) x y:=by
 obtain⟨t,e,a1,a2,a3,a4⟩:=h.adds hg hxs;constructor
 ·intro hy;rcases (a1 y).1 hy with hy|hy
  ·exact .inl hy
  ·exact .inr (a4 y hy)
 ·rintro (hy|⟨x,hx,hr⟩)
  ·exact h.mono y hy
  ·induction hr with
   |refl _=>exact a3 _ hx
   |step h1 h2 h3 ih=>
    rcases (a1 _).1 ih with h|h
    ·exact absurd h h1.snd
    ·exact a2 _ h _ h2
theorem Dfs.list (h:Dfs g xs S [] S' o')(hg:∀x,x<S.length→∀y∈g x,y<S.length)(hxs:∀x∈xs,x<S.length)(hS:∀x,S.getD x false=false)(y:Nat) :
  y∈o'↔S'.getD y false=true:=by
 obtain⟨t,e,a1,_⟩:=h.adds hg hxs;rw[a1,hS];simp[e]
theorem Qa6m:∀{l k:List Nat},l.Pairwise (· < ·)→k.Pairwise (· < ·)→(∀x,x∈l↔x∈k)→l=k
 |[],[],_,_,_=>rfl
 |[],b::k,_,_,h=>by have:=(h b).2 Jm;simp at this
 |a::l,[],_,_,h=>by have:=(h a).1 Jm;simp at this
 |a::l,b::k,h1,h2,h=>by
  rw[Ja4]at h1 h2;have hab:a=b:=by
   rcases Jv.1 ((h a).1 Jm)with e|e
   ·exact e
   ·rcases Jv.1 ((h b).2 Jm)with e'|e'
    ·exact e'.symm
    ·have:=h1.1 b e';have:=h2.1 a e;omega
  subst hab;congr 1;refine Qa6m h1.2 h2.2 fun x=>⟨fun hx=>?_,fun hx=>?_⟩
  ·rcases Jv.1 ((h x).1 (Jh _ hx))with e|e
   ·subst e;have:=h1.1 x hx;omega
   ·exact e
  ·rcases Jv.1 ((h x).2 (Jh _ hx))with e|e
   ·subst e;have:=h2.1 x hx;omega
   ·exact e
theorem Qas3 {l:List Nat}{n:Nat}{p:Nat→Bool}(h1:l.Pairwise (· < ·))(h:∀x,x∈l↔x<n∧p x=true):l=(List.range n).filter p:=
 Qa6m h1 (Jao _ Jaj) fun x=>by rw[h];simp[Jy]
noncomputable def Q7u (g:Nat→List Nat)(a:Int)(x:Nat):Bool:=decide (Rch g (fun z=>(z:Int)=a) 0 x)
noncomputable def domB (g:Nat→List Nat)(a b:Nat):Bool:=Q7u g (-1) a&&Q7u g (-1) b&&!Q7u g a b
def Qaps (n:Nat)(g:Nat→List Nat)(h:Nat):List Nat:=(List.range n).filter fun i=>decide (h∈g i)
noncomputable def Qbr0 (n:Nat)(g:Nat→List Nat)(h:Nat):Bool:=(Qaps n g h).any fun p=>domB g h p
noncomputable def Qbig (n:Nat)(g:Nat→List Nat):List Nat:=(List.range n).filter (Qbr0 n g)
inductive Bdy (n:Nat)(g:Nat→List Nat)(h:Nat):Nat→Prop
 |head:Bdy n g h h
 |back {p:Nat}:p∈Qaps n g h→domB g h p=true→Bdy n g h p
 |more {b p:Nat}:Bdy n g h b→b≠h→p∈Qaps n g b→Q7u g (-1) p=true→Bdy n g h p
noncomputable def Qah8 (n:Nat)(g:Nat→List Nat)(h:Nat):List Nat:=(List.range n).filter fun b=>decide (Bdy n g h b)
variable {n h:Nat}
theorem predL_mem {p:Nat}:p∈Qaps n g h↔p<n∧h∈g p:=by simp[Qaps]
theorem Bdy.lt {b:Nat}(hh:h<n)(hb:Bdy n g h b):b<n:=by
 cases hb with
 |head=>exact hh
 |back h1 _=>exact (predL_mem.1 h1).1
 |more _ _ h1 _=>exact (predL_mem.1 h1).1
theorem Qbcw (hh:h<n){b:Nat}:b∈Qah8 n g h↔Bdy n g h b:=by
 simp only[Qah8,Jy,J0,decide_eq_true_eq];exact⟨fun h=>h.2,fun h=>⟨h.lt hh,h⟩⟩
theorem Qbcv:(Qah8 n g h).Pairwise (· < ·):=Jao _ Jaj
end Go.AE.Y
namespace Go.AE.Y
open Go.Proofs.Tryz
variable {H:Heap}{K:V→Heap→Prop}
theorem GRd.ows {c:C}{rows:List (List C)}{nx:Nat→List Int}(h:GRd H c rows nx){i:Nat}(hi:i<rows.length){a1 a2 a3 a4 a5:C}(hr:rows.getD i []=[a1,a2,a3,a4,a5]) :
  a1.isOw=false∧a2.isOw=false∧a3.isOw=false∧a4.isOw=false∧a5.isOw=false:=by
 have:=h.no _ (Jd hi);have e:rows[i]=[a1,a2,a3,a4,a5]:=by rw[←hr];simp[Jb,hi]
 rw[e]at this;simpa[Go.AE.noOw]using this
def Qj7 (nx:Nat→List Int)(b:Int)(n:Nat):List Int:=if decide (0≤b)&&decide (b≤(n:Int)-1)then Q0 nx b n else []
set_option maxHeartbeats 1000000 in
theorem Q0j {p rg:Int}{bc:C}{rows:List (List C)}{nx:Nat→List Int}{b:Int}(hg:GRd H bc rows nx)
  (hK:∀fl H',Upd H H' []→K (.c (.sl fl 1 (Qb (Qj7 nx b rows.length)))) H'):Qo prog Qcu [.ag [.int .i64 p,.int .i64 rg,bc],.c (.int .i64 b)] H K:=by
 refine Qu ?_;refine Qd Qai Qats ?_;have how:=hg.ow;have hok:=eq_true hg.s.ok;have hlen:=hg.s.len;have hsz:=hg.s.sz;refine Qa ?_;simp only[go_sem,how];refine Qa ?_;simp only[go_sem,how];refine Q5 ?_;refine Qa ?_;simp only[go_sem,how,hok,hlen];intro hl;simp only[LIM]at hl;refine⟨Qr (by omega) (by omega),?_⟩;refine Qcy ?_;simp only[go_sem,Qrt];refine Qh (Qe rfl ?_ ?_)
 ·intro hc;have hc':=Qpp hc;refine Qa ?_;simp only[go_sem];refine Qk ?_;simp only[go_sem,Qz,Q8,Qrh,Ja,forall_eq,RS.op];have h:=hK false _ (Kn.start0 H).fin;simp only[Qj7,hc']at h;exact⟨_,.c _ _ FrzR.nil.sl,h⟩
 ·intro hc;have hc':=Qgc hc;refine Qi ?_;simp only[go_sem];refine Q5 ?_;refine Qa ?_;simp only[go_sem,how,hok,hlen];intro _;refine Qh (Qf (Qw (fun m e1 H1=>∃(i:Nat) (c:C) (Lg:List (Nat×Obj)),m=rows.length-i∧i≤rows.length∧Gr Lg 1 (Qb (Q0 nx b i)) c∧Kn H H1 [] ([]++Lg)∧
   e1=[(1,.c (.int .i64 b)),(5,.c c),(16,.c bc),(17,.c (.int .i64 rows.length)),(18,.c (.int .i64 i))]) rows.length ?_ ?_))
  ·exact⟨0,_,[],by omega,by omega,.nil 1,Kn.start0 H,rfl⟩
  ·rintro m e1 H1 ⟨i,c,Lg,hm,hi,hgr,kn,rfl⟩;have hg1:=hg.keep0 kn;have hok1:=eq_true hg1.s.ok;have hrw1:=hg1.s.rows;refine Qa ?_;simp only[go_sem];refine Qh (Qe rfl ?_ ?_)
   ·intro hc;have hlt:i<rows.length:=(by simpa using hc);obtain⟨a1,a2,a3,a4,fl,hrow⟩:=hg.x i hlt;obtain⟨o1,o2,o3,o4,_⟩:=hg.ows hlt hrow;refine Qi ?_;simp only[go_sem];refine Q28 (fun e2 H2=>∃(c:C) (Lg:List (Nat×Obj)),Gr Lg 1 (Qb (Q0 nx b (i+1))) c∧Kn H H2 [] ([]++Lg)∧
     lk 1 e2=.c (.int .i64 b)∧lk 5 e2=.c c∧lk 16 e2=.c bc∧lk 17 e2=.c (.int .i64 rows.length)∧lk 18 e2=.c (.int .i64 i)) ?_ ?_
    ·intro Q hnr _ _;refine Qf ?_;refine Qa ?_;simp only[go_sem,how,hok1,hlen,hsz,hrw1,hlt,hrow,o1,o2,o3,o4];intro x hx H2 h2;have kn:=(kn.al hx h2).perm Jz;have hx2:=kn.l 0 rfl;simp only[go_sem,Qru,hx2];intro H3 h3;have kn:=kn.stL 0 rfl h3;have hx3:=kn.l 0 rfl;refine Qa ?_;simp only[go_sem,hx3];refine Qa8c (.mk' _ _ _ _) rfl ?_;refine Qe rfl ?_ ?_
     ·intro hcon;have hpl:=Qb5 nx b i;refine Qt ?_;simp only[go_sem];refine kn.grow (B:=[_]) (new:=Qb [(i:Int)]) hgr (.mk' _ _ _ _) (Qn _) (by simp only[Qc,LIM,Jp,Jr];omega) fun y' H4 kn=>?_;simp only[go_sem,Qrv];refine hnr _ _ ⟨_,_,?_,(kn.perm Jz).drop,rfl,rfl,rfl,rfl,rfl⟩;rw[Qja,hcon,if_pos rfl,Qbc];exact .mk _ _ _ (by simp)
     ·intro hcon;refine Qi ?_;simp only[go_sem];refine hnr _ _ ⟨c,Lg,?_,?_,rfl,rfl,rfl,rfl,rfl⟩
      ·rw[Qja,hcon];simpa using hgr
      ·have kn:Kn H H3 [] ([(x,.st [a1,a2,a3,a4,.sl fl 1 (Qb (nx i))])]++([]++Lg)):=kn;exact (kn.perm Jz).drop
    ·rintro e2 H2 ⟨c2,Lg2,hgr,kn,l1,l5,l16,l17,l18⟩;refine Qt ?_;simp only[go_sem,X.next,l1,l5,l16,l17,l18];exact⟨Qr (by omega) (by omega),rows.length-(i+1),by omega,i+1,c2,Lg2,rfl,by omega,hgr,kn,rfl⟩
   ·intro hc;have hge:i=rows.length:=(by have:¬i<rows.length:=(by simpa using hc);omega);subst hge;refine Qv ?_;simp only[go_sem,X.next];refine Qa ?_;simp only[go_sem,hgr.isOw];refine Qk ?_;simp only[go_sem,Qz,Q8,Qrh,Ja,forall_eq,RS.op,hgr.isOw];refine⟨_,.c _ _ (hgr.frz kn (Qn _)),?_⟩;have:=hK false _ kn.fin;simp only[Qj7,hc']at this;exact this
end Go.AE.Y
namespace Go.AE.Y
attribute [local instance] Classical.propDecidable
structure Wk (g:Nat→List Nat)(a:Int)(n:Nat)(S:List Bool)(T:List Nat):Prop where
 len:S.length=n
 s:∀x,S.getD x false=true→Rch g (fun z=>(z:Int)=a) 0 x
 t:∀x∈T,(x:Int)≠a→Rch g (fun z=>(z:Int)=a) 0 x
 c:∀x,S.getD x false=true→∀y∈g x,S.getD y false=true∨(y:Int)=a∨y∈T
 z:S.getD 0 false=true∨((0:Nat):Int)=a∨0∈T
 r:∀x∈T,x<n
variable {g:Nat→List Nat}{a:Int}{n:Nat}{S:List Bool}{T:List Nat}{b:Nat}
theorem Qab (n x:Nat):(List.replicate n false).getD x false=false:=by
 simp only[Jb,Jas];split <;> rfl
theorem Wk.init (hn:0<n):Wk g a n (List.replicate n false) [0]:=by
 refine⟨by simp,fun x h=>?_,fun x hx ha=>?_,fun x h=>?_,.inr (.inr (by simp)),fun x hx=>?_⟩
 ·rw[Qab]at h;simp at h
 ·simp at hx;subst hx;exact .refl (by simpa using ha)
 ·rw[Qab]at h;simp at h
 ·simp at hx;omega
theorem Wk.skip (h:Wk g a n S (T++[b]))(hb:(b:Int)=a∨S.getD b false=true):Wk g a n S T:=by
 refine⟨h.len,h.s,fun x hx=>h.t x (Ji _ hx),fun x hx y hy=>?_,?_,fun x hx=>h.r x (Ji _ hx)⟩
 ·rcases h.c x hx y hy with h1|h1|h1
  ·exact .inl h1
  ·exact .inr (.inl h1)
  ·rcases Je.1 h1 with h1|h1
   ·exact .inr (.inr h1)
   ·simp at h1;subst h1;rcases hb with hb|hb
    ·exact .inr (.inl hb)
    ·exact .inl hb
 ·rcases h.z with h1|h1|h1
  ·exact .inl h1
  ·exact .inr (.inl h1)
  ·rcases Je.1 h1 with h1|h1
   ·exact .inr (.inr h1)
   ·simp at h1;subst h1;rcases hb with hb|hb
    ·exact .inr (.inl hb)
    ·exact .inl hb
theorem Wk.go (h:Wk g a n S (T++[b]))(hba:(b:Int)≠a)(hg:∀y∈g b,y<n):Wk g a n (S.set b true) (T++g b):=by
 have hb:=h.t b (by simp) hba;have hbn:=h.r b (by simp);have hset:∀y,(S.set b true).getD y false=true↔y=b∨S.getD y false=true:=by
  intro y;rw[Qg3];by_cases hyx:y=b
  ·simp[hyx,h.len,hbn]
  ·simp[hyx]
 refine⟨by simp[h.len],fun x hx=>?_,fun x hx ha=>?_,fun x hx y hy=>?_,?_,fun x hx=>?_⟩
 ·rcases (hset x).1 hx with rfl|hx
  ·exact hb
  ·exact h.s x hx
 ·rcases Je.1 hx with hx|hx
  ·exact h.t x (Ji _ hx) ha
  ·exact hb.step hx ha
 ·rcases (hset x).1 hx with rfl|hx
  ·exact .inr (.inr (Js _ hy))
  ·rcases h.c x hx y hy with h1|h1|h1
   ·exact .inl ((hset y).2 (.inr h1))
   ·exact .inr (.inl h1)
   ·rcases Je.1 h1 with h1|h1
    ·exact .inr (.inr (Ji _ h1))
    ·simp at h1;subst h1;exact .inl ((hset y).2 (.inl rfl))
 ·rcases h.z with h1|h1|h1
  ·exact .inl ((hset 0).2 (.inr h1))
  ·exact .inr (.inl h1)
  ·rcases Je.1 h1 with h1|h1
   ·exact .inr (.inr (Ji _ h1))
   ·simp at h1;exact .inl ((hset 0).2 (.inl h1))
 ·rcases Je.1 hx with hx|hx
  ·exact h.r x (Ji _ hx)
  ·exact hg x hx
theorem Wk.fin (h:Wk g a n S []):S=(List.range n).map (Q7u g a):=by
 have hh:∀x,S.getD x false=true↔Rch g (fun z=>(z:Int)=a) 0 x:=by
  refine fun x=>⟨h.s x,fun hr=>?_⟩
  induction hr with
  |refl h0=>
   rcases h.z with h1|h1|h1
   ·exact h1
   ·exact absurd h1 h0
   ·simp at h1
  |step h1 h2 h3 ih=>
   rcases h.c _ ih _ h2 with h4|h4|h4
   ·exact h4
   ·exact absurd h4 h3
   ·simp at h4
 refine List.ext_getElem? fun x=>?_;by_cases hx:x<n
 ·have hxs:x<S.length:=by rw[h.len];exact hx
  have:=hh x;simp only[Jb,Jg hxs,Jab]at this;rw[Jg hxs];simp only[Jaf,List.getElem?_range hx,Jav,Q7u];congr 1;by_cases hr:Rch g (fun z=>(z:Int)=a) 0 x
  ·rw[this.2 hr,decide_eq_true hr]
  ·rw[decide_eq_false hr]
   cases hv:S[x]with
   |false=>rfl
   |true=>exact absurd (this.1 hv) hr
 ·rw[Jj (by rw[h.len];omega),Jj (by simp;omega)]
end Go.AE.Y
namespace Go.AE.Y
open Go.Proofs.Tryz
variable {H H0:Heap}{K:V→Heap→Prop}
theorem Qkk (n:Nat):List.replicate n [C.bool false]=Qav (List.replicate n false):=by simp[Qav]
theorem Qb4 (l:List Nat)(i:Nat)(h:i<l.length):(Qag l).getD i []=[.int .i64 ((l.getD i 0:Nat):Int)]:=by
 simp[Qag,Qb,Jb,h]
theorem Qa9t (a b:List Nat):Qag (a++b)=Qag a++Qag b:=by simp[Qag,Qb]
end Go.AE.Y
namespace Go.AE
variable {H0 F H:Heap}{E E0 E' L L1 L2 M:List (Nat×Obj)}
theorem Kn.startE (h:∀p∈E,H p.1=p.2∧p.2≠.none)(hd:(E.map Prod.fst).Nodup):Kn H H E []:=
 ⟨by simpa using h,fun p hp=>by rw[(h p hp).1];exact (h p hp).2,by simp,hd,by simp,fun _ _ _=>rfl⟩
theorem Kn.mid (k:Kn H0 F E0 (L1++L2)):Kn F F L1 []:=
 .startE (fun p hp=>k.get p (Js _ (Ji _ hp))) (by
  have:=k.dL;rw[Jad]at this;exact (Jah.1 this).1)
theorem Kn.comp (k1:Kn H0 F E0 (L1++L2))(k2:Kn F H E' M)(hE:E'.map Prod.fst=L1.map Prod.fst):Kn H0 H E0 ((E'++L2)++M):=by
 have hd:=k1.dL;rw[Jad]at hd;obtain⟨d1,d2,d3⟩:=Jah.1 hd;have hE0:∀p∈E0,F p.1=p.2∧p.2≠.none:=fun p hp=>k1.get p (Ji _ hp);have hL2:∀p∈L2,F p.1=p.2∧p.2≠.none:=fun p hp=>k1.get p (Js _ (Js _ hp));have inL1:∀p∈E',∃q∈L1,q.1=p.1:=fun p hp=>by
  have:=Qbq hp;rw[hE]at this;obtain⟨q,h1,h2⟩:=Jt.1 this;exact⟨q,h1,h2⟩
 have keep:∀m,F m≠.none→m∉L1.map Prod.fst→H m=F m:=fun m h1 h2=>k2.chg m h1 (by rw[hE];exact h2);have hE0L:∀p∈E0,∀q∈L1,p.1≠q.1:=fun p hp q hq hh=>k1.ext p hp (hh▸k1.loc q (Ji _ hq));refine⟨fun p hp=>?_,k1.ext,fun p hp=>?_,k1.dE,?_,fun m hm hn=>?_⟩
 ·rcases Je.1 hp with hp|hp
  ·obtain⟨h1,h2⟩:=hE0 p hp;refine⟨?_,h2⟩;rw[keep p.1 (by rw[h1];exact h2) (fun hh=>?_),h1];obtain⟨q,hq,hqq⟩:=Jt.1 hh;exact hE0L p hp q hq hqq.symm
  ·rcases Je.1 hp with hp|hp
   ·rcases Je.1 hp with hp|hp
    ·exact k2.get p (Ji _ hp)
    ·obtain⟨h1,h2⟩:=hL2 p hp;refine⟨?_,h2⟩;rw[keep p.1 (by rw[h1];exact h2) (fun hh=>?_),h1];exact d3 _ hh _ (Qbq hp) rfl
   ·exact k2.get p (Js _ hp)
 ·rcases Je.1 hp with hp|hp
  ·rcases Je.1 hp with hp|hp
   ·obtain⟨q,hq,hh⟩:=inL1 p hp;rw[←hh];exact k1.loc q (Ji _ hq)
   ·exact k1.loc p (Js _ hp)
  ·have h1:=k2.loc p hp
   cases h0:H0 p.1 with
   |none=>rfl
   |_=>
    by_cases hx:p.1∈E0.map Prod.fst
    ·obtain⟨q,hq,hh⟩:=Jt.1 hx;obtain⟨a1,a2⟩:=hE0 q hq;rw[hh,h1]at a1;exact absurd a1.symm a2
    ·have:=k1.chg p.1 (by rw[h0];simp) hx;rw[h1,h0]at this;simp at this
 ·rw[Jad,Jad];refine Jah.2 ⟨Jah.2 ⟨k2.dE,d2,fun a ha b hb=>?_⟩,k2.dL,fun a ha b hb hab=>?_⟩
  ·rw[hE]at ha;exact d3 a ha b hb
  ·obtain⟨q,hq,rfl⟩:=Jt.1 hb;have hf:=k2.loc q hq;rcases Je.1 ha with ha|ha
   ·obtain⟨r,hr,rfl⟩:=Jt.1 ha;exact k2.ext r hr (hab▸hf)
   ·obtain⟨r,hr,rfl⟩:=Jt.1 ha;obtain⟨a1,a2⟩:=hL2 r hr;rw[hab,hf]at a1;exact a2 a1.symm
 ·rw[keep m (by rw[k1.chg m hm hn];exact hm) (fun hh=>?_),k1.chg m hm hn];obtain⟨q,hq,rfl⟩:=Jt.1 hh;exact hm (k1.loc q (Ji _ hq))
theorem Kn.upd (k:Kn H0 H E L):Upd H0 H E:=⟨fun p hp=>(k.get p (Ji _ hp)).1,fun m hm hn=>k.chg m hm hn⟩
theorem Y.FrzL.ptr {S:Nat→Bool}{l:Nat}{cells cells':List C}(hS:S l=true)(hH:H l=.st cells)(h:FrzL H S cells cells'):FrzC H S (.ptr l 0) (.pp cells'):=by
 obtain⟨h1,h2⟩:=h.spec;exact .ptr l 0 cells cells cells' hS hH rfl h1 h2
theorem Kn.growR {B Lg:List (Nat×Obj)}{K:V→Heap→Prop}{sz:Nat}{rows new:List (List C)}{b c:C}(kn:Kn H0 H E (B++Lg))(hc:Gr Lg sz rows c)(hb:Slc H sz new b)
  (h1:∀r∈new,noOw r=true) (h2:rows.length+new.length≤LIM)
  (h:∀t Lg' H',Gr Lg' sz (rows++new) t→t.isOw=false→Kn H0 H' E (B++Lg')→K (.c t) H'):appQ H sz c b K:=
 kn.grow hc hb h1 h2 fun y' H' k=>h _ _ H' (.mk y' sz _ (by simp)) rfl k
end Go.AE
namespace Go.AE.Y
open Go.Proofs.Tryz
variable {H H0:Heap}{K:V→Heap→Prop}
def Qasu (x3 x4 x5:Nat)(p rg:Int)(bc:C):List C:=[.ptr x4 0,.pp [.int .i64 p,.int .i64 rg,bc],.ptr x5 0,.ptr x3 0]
def visE (x3 x4 x5 y n:Nat)(p rg:Int)(bc:C)(S:List Bool)(oc:C):List (Nat×Obj):=
 [(y,.vec 1 (Qav S)),(x3,.st [oc]),(x4,.st [.vsl y 1 0 n]),(x5,.st [.fn Qcn (Qasu x3 x4 x5 p rg bc)])]
set_option maxHeartbeats 2000000 in
theorem Qbpf {F:Heap}{p rg:Int}{bc:C}{rows:List (List C)}{nx:Nat→List Int}{y x3 x4 x5:Nat}(hfit:Qev rows.length nx=true)(hn:rows.length≤1000000)(hg:GRd F bc rows nx)
  (hyb:∀l a b d,bc=.vsl l a b d→l≠y∧l≠x3∧l≠x4∧l≠x5) :
  ∀(u b:Nat) (S:List Bool) (o:List Nat) (oc:C) (Lg:List (Nat×Obj)) (H:Heap) (K:V→Heap→Prop),S.length=rows.length→rows.length-cnt S≤u→b<rows.length→S.getD b false=false→
   Kn F H (visE x3 x4 x5 y rows.length p rg bc S oc) ([]++Lg)→Gr Lg 1 (Qag o) oc→o.length≤cnt S→
   (∀(S':List Bool) (o':List Nat) (oc':C) (Lg':List (Nat×Obj)) (H':Heap),Dfs (nxN nx) [b] S o S' o'→Kn F H' (visE x3 x4 x5 y rows.length p rg bc S' oc') ([]++Lg')→Gr Lg' 1 (Qag o') oc'→K (.tup []) H')→
   Qo prog Qcn ([.c (.int .i64 b)]++(Qasu x3 x4 x5 p rg bc).map .c) H K:=by
 intro u
 induction u with
 |zero=>
  intro b S o oc Lg H K hS hu hb hsb;have h1:=Qzb (S:=S) (x:=b) (by omega) hsb;have h2:=Q0l (S.set b true);rw[Jq]at h2;omega
 |succ u ih=>
  intro b S o oc Lg H K hS hu hb hsb kn hgr hol hK;have how:=hg.ow;have hbS:b<S.length:=by omega
  obtain⟨a1,a2,a3,a4,fl,hrow⟩:=hg.x b hb;have hsz:=hg.s.sz;have hlen:=hg.s.len;have hocw:=hgr.isOw;refine Qd Qai Qain ?_;have hy:=kn.e 0 rfl;have hx4:=kn.e 2 rfl;have htk:List.take rows.length (Qav S)=Qav S:=Jc (by rw[Qck];omega);refine Qa ?_;simp only[go_sem,Qasu,hx4,hy,hb,hbS,htk,Qck,hS,Qi2 _ _ hbS,Qaan,Jac,Jw,Jk];intro H1 h1;have kn:Kn F H1 (visE x3 x4 x5 y rows.length p rg bc (S.set b true) oc) ([]++Lg):=kn.stE 0 rfl h1;have hcS:=Qzb hbS hsb;have hnxl:(nxN nx b).length=(nx b).length:=by simp[nxN]
  have hbc:∀(S:List Bool) (oc:C) (l a b d),bc=.vsl l a b d→l∉(visE x3 x4 x5 y rows.length p rg bc S oc).map Prod.fst:=by
   intro S oc l a b d hh;obtain⟨q1,q2,q3,q4⟩:=hyb l a b d hh;simp[visE,q1,q2,q3,q4]
  have hg1:=hg.keep kn (hbc _ _);have hok1:=eq_true hg1.s.ok;have hrw1:=hg1.s.rows;refine Q5 ?_;refine Qa ?_;simp only[go_sem,how,hok1,hlen,hsz,hrw1,hb,hrow,Qc];intro hl0;simp only[LIM]at hl0;refine Qh (Qf (Qw (fun m e1 H1=>∃(i:Nat) (S1:List Bool) (o1:List Nat) (oc1:C) (Lg1:List (Nat×Obj)),m=(nx b).length-i∧i≤(nx b).length∧Dfs (nxN nx) ((nxN nx b).take i) (S.set b true) o S1 o1∧
   Kn F H1 (visE x3 x4 x5 y rows.length p rg bc S1 oc1) ([]++Lg1)∧Gr Lg1 1 (Qag o1) oc1∧
   e1=[(0,.c (.int .i64 b)),(1,.c (.ptr x4 0)),(3,.c (.ptr x5 0)),(4,.c (.ptr x3 0)),(16,.c (.sl fl 1 (Qb (nx b)))),(17,.c (.int .i64 (nx b).length)),(18,.c (.int .i64 i))]) (nx b).length ?_ ?_))
  ·exact⟨0,_,o,oc,Lg,by omega,by omega,.nil _ _,kn,hgr,rfl⟩
  ·rintro m e1 H2 ⟨i,S1,o1,oc1,Lg1,hm,hi,hd,kn,hgr,rfl⟩;have hgd:∀x,x<(S.set b true).length→∀z∈nxN nx x,z<(S.set b true).length:=by
    rw[Jq,hS];exact fun x hx z hz=>Qxj hfit hx hz
   have hd1:=hd.len;rw[Jq,hS]at hd1;have hd2:=hd.count hgd (fun x hx=>hgd b (by rw[Jq];exact hbS) x (J5 hx));have hd3:=hd.olen;have hd4:=Q0l S1;have hy:=kn.e 0 rfl;have hx3:=kn.e 1 rfl;have hx4:=kn.e 2 rfl;have hx5:=kn.e 3 rfl;refine Qa ?_;simp only[go_sem];refine Qh (Qe rfl ?_ ?_)
   ·intro hc;have hlt:i<(nx b).length:=(by simpa using hc);obtain⟨w,hw⟩:∃w:Nat,(nx b).getD i 0=w:=by
     have h1:=Q0n hfit hb (Jd hlt);refine⟨((nx b)[i]).toNat,?_⟩;simp only[Jb,Jg hlt,Jab];omega
    have hwn:(nxN nx b).take (i+1)=(nxN nx b).take i++[w]:=by
     rw[Jf (by rw[hnxl];exact hlt)];congr 1;simp only[nxN,Jat];simp only[Jb,Jg hlt,Jab]at hw;rw[hw];simp
    have hwl:w<rows.length:=Qxj hfit hb (x:=w) (by
     have:w∈(nxN nx b).take (i+1):=(by rw[hwn];simp);exact J5 this)
    have hwS:w<S1.length:=(by omega);refine Qi ?_;simp only[go_sem];refine Q28 (fun e2 H2=>∃(S2:List Bool) (o2:List Nat) (oc2:C) (Lg2:List (Nat×Obj)),Dfs (nxN nx) ((nxN nx b).take (i+1)) (S.set b true) o S2 o2∧
     Kn F H2 (visE x3 x4 x5 y rows.length p rg bc S2 oc2) ([]++Lg2)∧Gr Lg2 1 (Qag o2) oc2∧
     lk 0 e2=.c (.int .i64 b)∧lk 1 e2=.c (.ptr x4 0)∧lk 3 e2=.c (.ptr x5 0)∧lk 4 e2=.c (.ptr x3 0)∧lk 16 e2=.c (.sl fl 1 (Qb (nx b)))∧lk 17 e2=.c (.int .i64 (nx b).length)∧lk 18 e2=.c (.int .i64 i)) ?_ ?_
    ·intro Q hnr _ _;have htk2:List.take rows.length (Qav S1)=Qav S1:=Jc (by rw[Qck];omega);refine Qf ?_;refine Qa ?_;simp only[go_sem,hw,hlt,Qc,Qm _ _ hlt];refine Qa ?_;simp only[go_sem,hx4,hy,hwl,hwS,htk2,hd1,Qck,Qi2 _ _ hwS,Jac,Jw,Jk];refine Qe rfl ?_ ?_
     ·intro hc2;have hsw:S1.getD w false=false:=Qpp hc2;refine Qt ?_;simp only[go_sem,hx5];refine ih w S1 o1 oc1 Lg1 H2 _ hd1 (by omega) hwl hsw kn hgr (by omega) fun S2 o2 oc2 Lg2 H3 hd' kn hgr=>?_;refine hnr _ _ ⟨S2,o2,oc2,Lg2,?_,kn,hgr,rfl,rfl,rfl,rfl,rfl,rfl,rfl⟩;rw[hwn];exact hd.app hd'
     ·intro hc2;have hsw:S1.getD w false=true:=Qgc hc2;refine Qi ?_;simp only[go_sem];refine hnr _ _ ⟨S1,o1,oc1,Lg1,?_,kn,hgr,rfl,rfl,rfl,rfl,rfl,rfl,rfl⟩;rw[hwn];exact hd.app (.skip hsw (.nil _ _))
    ·rintro e2 H3 ⟨S2,o2,oc2,Lg2,hd,kn,hgr,l0,l1,l3,l4,l16,l17,l18⟩;refine Qt ?_;simp only[go_sem,X.next,l0,l1,l3,l4,l16,l17,l18];exact⟨Qr (by omega) (by omega),(nx b).length-(i+1),by omega,i+1,S2,o2,oc2,Lg2,rfl,by omega,hd,kn,hgr,rfl⟩
   ·intro hc;have hge:(nx b).length≤i:=(by simpa using hc);rw[Jc (by rw[hnxl];exact hge)]at hd;have hocw:=hgr.isOw;refine Qv ?_;simp only[go_sem,X.next];refine Qt ?_;simp only[go_sem,hx3,hocw];refine kn.grow (new:=Qb [(b:Int)]) hgr (.mk' _ _ _ _) (Qn _) (by simp only[Qan,Qc,LIM,Jp,Jr];omega) fun z H3 kn=>?_;have hx3:=kn.e 1 rfl;simp only[go_sem,Qlt,hx3];intro H4 h4;have kn:=kn.stE 1 rfl h4;simp only[go_sem,Qz,Q8,Qxt,Jan];refine⟨fun _=>trivial,hK S1 (o1++[b]) _ _ H4 (.one hsb hd) kn ?_⟩;rw[←Qabn];exact .mk _ _ _ (by simp)
set_option maxHeartbeats 1000000 in
theorem Q7p {p rg:Int}{bc:C}{rows:List (List C)}{nx:Nat→List Int}(hg:GRd H bc rows nx)(hfit:Qev rows.length nx=true)(hn:rows.length≤1000000)
  (hK:∀(S:List Bool) (o:List Nat) (t:C) (Lg:List (Nat×Obj)) (H':Heap),Gr Lg 1 (Qag o) t→Kn H H' [] ([]++Lg)→Dfs (nxN nx) [0] (List.replicate rows.length false) [] S o→K (.c t) H') :
  Qo prog Qff [.ag [.int .i64 p,.int .i64 rg,bc]] H K:=by
 refine Qd Qai Qa0s ?_;have how:=hg.ow;have hlen:=hg.s.len;have hn0:=Qkn hfit;refine Qa ?_;simp only[go_sem,how];refine Qa ?_;simp only[go_sem];intro x3 hx3 H1 h1;have kn:=(Kn.start0 H).al hx3 h1;have hg1:=hg.keep0 kn;have hok1:=eq_true hg1.s.ok;refine Qa ?_;simp only[go_sem,how,hok1,hlen,Qkk];intro hl;refine⟨by simp only[LIM];omega,fun y hy H2 h2=>?_⟩;have kn:=kn.al hy h2;simp only[go_sem,Qys];intro x4 hx4 H3 h3;have kn:=kn.al hx4 h3;have hx4:=kn.l 2 rfl;simp only[go_sem,Qyr,hx4];intro H4 h4;have kn:=kn.stL 2 rfl h4;refine Qa ?_;simp only[go_sem];intro x5 hx5 H5 h5;have kn:=kn.al hx5 h5;have hx5:=kn.l 3 rfl;refine Qa ?_;simp only[go_sem,how,hx5];intro H6 h6;have kn:=kn.stL 3 rfl h6;have kn:Kn H H6 [] ([(x3,.st [.sl true 1 []]),(y,.vec 1 (Qav (List.replicate rows.length false))),(x4,.st [.vsl y 1 0 rows.length]),(x5,.st [.fn Qcn (Qasu x3 x4 x5 p rg bc)])]):=kn;have kn:Kn H H6 [] (visE x3 x4 x5 y rows.length p rg bc (List.replicate rows.length false) (.sl true 1 [])++[]):=kn.perm (List.Perm.swap _ _ _);have hx5:=kn.l 3 rfl;have hg6:=hg.keep0 kn;have hyb:∀l a b d,bc=.vsl l a b d→l≠y∧l≠x3∧l≠x4∧l≠x5:=by
  intro l a b d hh;have hu:H l≠.none:=by
   have:=hg.s.ok;rw[hh]at this;intro h0;simp only[okSl,h0]at this
  exact⟨fun h=>hu (h▸kn.free 0 rfl),fun h=>hu (h▸kn.free 1 rfl),fun h=>hu (h▸kn.free 2 rfl),fun h=>hu (h▸kn.free 3 rfl)⟩
 refine Qa ?_;simp only[go_sem,hx5];refine Qbpf hfit hn hg6 hyb rows.length 0 (List.replicate rows.length false) [] (.sl true 1 []) [] H6 _ (by simp) (by omega) hn0 (Qab _ _) kn.mid (.nil 1) (by simp) fun S o oc Lg H7 hd k2 hgr=>?_;have kn:=kn.comp k2 rfl;have hx3:=kn.l 1 rfl;have hocw:=hgr.isOw;refine Qa ?_;simp only[go_sem,hx3,hocw];refine Qk ?_;simp only[go_sem,Qz,Q8,Qaby,Ja,forall_eq,RS.op];have kn:=kn.perm (L':=([]++Lg)++(visE x3 x4 x5 y rows.length p rg bc S oc++[])) (by rw[J6];exact Jz);exact hK S o oc Lg _ hgr kn.drop hd
theorem Qbl2 {p rg:Int}{bc:C}{rows:List (List C)}{nx:Nat→List Int}(hg:GRd H bc rows nx)(hfit:Qev rows.length nx=true)(hn:rows.length≤1000000)
  (hK:∀(S:List Bool) (o:List Nat) (H':Heap),Upd H H' []→Dfs (nxN nx) [0] (List.replicate rows.length false) [] S o→K (.c (.sl false 1 (Qag o))) H') :
  Qo prog Qff [.ag [.int .i64 p,.int .i64 rg,bc]] H K:=
 Qu (Q7p hg hfit hn fun S o t Lg H' hgr kn hd=>⟨_,.c _ _ (hgr.frz kn (Qn _)),hK S o _ kn.fin hd⟩)
end Go.AE.Y
namespace Go.AE.Y
variable {ns:List Int}{n:Int}{at':Nat}
structure InsAt (ns:List Int)(n:Int)(k:Nat):Prop where
 le:k≤ns.length
 lo:∀i,i<k→∀(h:i<ns.length),ns[i]<n
 hi:∀(h:k<ns.length),n≤ns[k]
theorem InsAt.mem_of_asc {k:Nat}(h:InsAt ns n k)(ha:ns.Pairwise (· < ·)):(∀x∈ns.take k,x<n)∧(∀x∈ns.drop k,n≤x)∧(∀x∈ns.drop (k+1),n<x):=by
 have hp:=J4.1 ha;refine⟨fun x hx=>?_,fun x hx=>?_,fun x hx=>?_⟩
 ·obtain⟨i,hi,rfl⟩:=Jx.1 hx;rw[Jag];rw[Jo]at hi;exact h.lo i (by omega) (by omega)
 ·obtain⟨i,hi,rfl⟩:=Jx.1 hx;rw[Jba];rw[Jam]at hi;have h1:=h.hi (by omega);by_cases h0:i=0
  ·subst h0;exact h1
  ·have:=hp k (k+i) (by omega) (by omega) (by omega);exact Int.le_trans h1 (Int.le_of_lt this)
 ·obtain⟨i,hi,rfl⟩:=Jx.1 hx;rw[Jba];rw[Jam]at hi;have h1:=h.hi (by omega);have:=hp k (k+1+i) (by omega) (by omega) (by omega);exact Int.lt_of_le_of_lt h1 this
theorem InsAt.new {k:Nat}(h:InsAt ns n k)(ha:ns.Pairwise (· < ·))(hn:∀(h:k<ns.length),ns[k]≠n) :
  (ns.take k++[n]++ns.drop k).Pairwise (· < ·)∧(∀x,x∈ns.take k++[n]++ns.drop k↔x=n∨x∈ns):=by
 obtain⟨h1,h2,h3⟩:=h.mem_of_asc ha;have h4:∀x∈ns.drop k,n<x:=by
  intro x hx;have hk:k<ns.length:=by
   rcases Jbc k ns.length with h|h
   ·exact h
   ·rw[List.drop_eq_nil_of_le h]at hx;simp at hx
  rw[Jai hk]at hx;rcases Jv.1 hx with rfl|hx
  ·have:=h.hi hk;have:=hn hk;omega
  ·exact h3 x hx
 refine⟨?_,fun x=>?_⟩
 ·rw[Ja8,Jax];refine⟨ha.sublist (List.take_sublist _ _),?_,fun a ha' b hb=>?_⟩
  ·rw[List.singleton_append,Ja4];exact⟨h4,ha.sublist (List.drop_sublist _ _)⟩
  ·have:=h1 a ha';rcases Je.1 hb with hb|hb
   ·simp at hb;subst hb;exact this
   ·have:=h2 b hb;omega
 ·conv=>rhs;rw[←Jal k ns]
  simp only[Je,Ja];constructor
  ·rintro ((h|h)|h)
   ·exact .inr (.inl h)
   ·exact .inl h
   ·exact .inr (.inr h)
  ·rintro (h|h|h)
   ·exact .inl (.inr h)
   ·exact .inl (.inl h)
   ·exact .inr h
theorem Qbhu {ns:List Int}{l:List Nat}(h1:ns.Pairwise (· < ·))(h2:l.Pairwise (· < ·))(h:∀x,x∈ns↔∃y∈l,(y:Int)=x):ns=l.map Int.ofNat:=by
 have hnn:∀x∈ns,0≤x:=fun x hx=>by obtain⟨y,_,rfl⟩:=(h x).1 hx;omega
 have e:ns=(ns.map Int.toNat).map Int.ofNat:=by
  rw[Jbn]
  conv=>lhs;rw[←Jbp ns]
  refine Jaz fun x hx=>?_;have:=hnn x hx;simp only[Function.comp_def,id];exact (Int.toNat_of_nonneg this).symm
 rw[e];congr 1;refine Qa6m ?_ h2 fun x=>?_
 ·rw[Jbb];refine List.Pairwise.imp_of_mem (fun {a b} ha hb hab=>?_) h1;have:=hnn a ha;have:=hnn b hb;omega
 ·constructor
  ·intro hx;obtain⟨y,hy,rfl⟩:=Jt.1 hx;obtain⟨z,hz,rfl⟩:=(h y).1 hy;simpa using hz
  ·intro hx;exact Jt.2 ⟨(x:Int),(h x).2 ⟨x,hx,rfl⟩,by simp⟩
end Go.AE.Y
namespace Go.AE.Y
open Go.Proofs.Tryz
variable {H H0:Heap}{K:V→Heap→Prop}
theorem Qbns {c:C}{ns:List Int}{v:Int}(hs:Slc H 1 (Qb ns) c)(how:c.isOw=false)(hK:∀r,IsIx ns v r→K (.c (.int .i64 r)) H) :
  Qo prog Qaow [.c c,.c (.int .i64 v)] H K:=by
 refine Qd Qai Qbn1 ?_;have hok:=eq_true hs.ok;have hlen:=hs.len;have hsz:=hs.sz;have hrw:=hs.rows;refine Qa ?_;simp only[go_sem,how];refine Q5 ?_;refine Qa ?_;simp only[go_sem,how];refine Qh (Qf (Qw (fun m e1 H1=>∃(i:Nat),m=ns.length-i∧i≤ns.length∧H1=H∧v∉ns.take i∧e1=[(0,.c c),(1,.c (.int .i64 v)),(5,.c (.int .i64 i))]) ns.length ?_ ?_))
 ·exact⟨0,by omega,by omega,rfl,by simp,rfl⟩
 ·rintro m e1 H1 ⟨i,hm,hi,rfl,hno,rfl⟩;refine Q5 ?_;refine Qa ?_;simp only[go_sem,how,hok,hlen,Qc];intro hl;simp only[LIM]at hl;refine Qh (Qe rfl ?_ ?_)
  ·intro hc;have hlt:i<ns.length:=by simpa using hc
   have hgd:ns.getD i 0=ns[i]:=by simp[Jb,hlt]
   refine Qi ?_;simp only[go_sem];refine Qh (Qf ?_);refine Qa ?_;simp only[go_sem,how,hok,hlen,hsz,hrw,hlt,Qc,Qm _ _ hlt];refine Qe rfl ?_ ?_
   ·intro hc2;have hv:ns.getD i 0=v:=(by simpa using hc2);refine Qa ?_;simp only[go_sem];refine Qk ?_;simp only[go_sem,X.next,Qz,Q8,Qa09,Ja,forall_eq,RS.op];exact hK _ (.inr ⟨i,rfl,hlt,hv,hno⟩)
   ·intro hc2;have hv:¬ns.getD i 0=v:=(by simpa using hc2);refine Qi ?_;simp only[go_sem];refine Qt ?_;simp only[go_sem,how,X.next];refine⟨Qr (by omega) (by omega),ns.length-(i+1),by omega,i+1,rfl,by omega,?_,rfl⟩;rw[Jf hlt];simp only[Je,Ja,not_or];exact⟨hno,fun h=>hv (by rw[hgd];exact h.symm)⟩
  ·intro hc;have hge:ns.length≤i:=by simpa using hc
   rw[Jc hge]at hno;refine Qv ?_;simp only[go_sem,X.next];refine Qa ?_;simp only[go_sem];refine Qk ?_;simp only[go_sem,Qz,Q8,Qa09,Ja,forall_eq,RS.op];exact hK _ (.inl ⟨rfl,hno⟩)
set_option maxHeartbeats 1000000 in
theorem Qa9e {fl:Bool}{ns:List Int}{n:Int}(ha:ns.Pairwise (· < ·))(hL:ns.length+1≤2 ^ 38)
  (hK:∀(fl':Bool) (ns':List Int) (H':Heap),Upd H H' []→ns'.Pairwise (· < ·)→(∀x,x∈ns'↔x=n∨x∈ns)→ns'.length≤ns.length+1→K (.c (.sl fl' 1 (Qb ns'))) H') :
  Qo prog Qzi [.c (.sl fl 1 (Qb ns)),.c (.int .i64 n)] H K:=by
 refine Qu ?_;refine Qd Qai Qa9o ?_;have rest:∀i:Nat,InsAt ns n i→Qae prog Q7a (Qz Qk9 (unK H K)) [(0,V.c (.sl fl 1 (Qb ns))),(1,.c (.int .i64 n)),(5,.c (.int .i64 i))] H:=by
  intro i hat;have hile:=hat.le;refine Q5 ?_;refine Qa ?_;have tail:∀e:Env,(∀(h:i<ns.length),ns[i]≠n)→lk 0 e=.c (.sl fl 1 (Qb ns))→lk 1 e=.c (.int .i64 n)→lk 5 e=.c (.int .i64 i)→Qae prog Q69 (Qz Qk9 (unK H K)) e H:=by
   intro e hne l0 l1 l5;obtain⟨q1,q2⟩:=hat.new ha hne;have ht1:List.take i (Qb ns)=Qb (ns.take i):=by simp[Qb,Ja3]
   have ht2:List.drop i (List.take ns.length (Qb ns))=Qb (ns.drop i):=by
    rw[Jc (by rw[Qc];exact Jk _)];simp[Qb,List.map_drop]
   refine Qa ?_;simp only[go_sem,l0,l1,l5,Qc,ht1];refine⟨by omega,?_⟩;refine⟨.inl trivial,Qn _,by simp only[LIM,Jo];omega,fun z hz H1 h1=>?_⟩;have kn:Kn H H1 [] ([]++[(z,.vec 1 (Qb (ns.take i)))]):=(Kn.start0 H).al hz h1;simp only[go_sem,Q2p,l0,l1,l5];generalize ht6:C.vsl z 1 0 (0+(List.take i ns).length)=t6;have hgr:Gr [(z,.vec 1 (Qb (ns.take i)))] 1 (Qb (ns.take i)) t6:=by rw[←ht6];exact .mk z 1 _ (by simp[Qc])
   have hw6:=hgr.isOw;refine Qad ?_;simp only[go_sem,hw6,Qc,ht2];refine⟨by omega,?_⟩;refine kn.growR (new:=Qb [n]) hgr (.mk' _ _ _ _) (Qn _) (by simp only[Qc,LIM,Jo,Jr,Jp];omega) fun t7 Lg H2 hgr hw7 kn=>?_;simp only[go_sem,Q2r,hw7,Qc,ht2];refine⟨by omega,?_⟩;refine kn.growR (new:=Qb (ns.drop i)) hgr (.mk' _ _ _ _) (Qn _) (by simp only[Qc,LIM,Jo,Jam,Jr,Jp,J2];omega) fun t8 Lg H3 hgr hw8 kn=>?_;simp only[go_sem,Q2q];refine Qk ?_;simp only[go_sem,Qz,Q8,Qk9,Ja,forall_eq,RS.op];have e0:Qb (ns.take i)++Qb [n]++Qb (ns.drop i)=Qb (ns.take i++[n]++ns.drop i):=by simp[Qb]
   rw[e0]at hgr;refine⟨_,.c _ _ (hgr.frz kn (Qn _)),hK _ _ _ kn.fin q1 q2 ?_⟩;simp;omega
  simp only[go_sem,Qc];by_cases hlt:i<ns.length
  ·have hgd:ns.getD i 0=ns[i]:=by simp[Jb,hlt]
   simp only[go_sem,hlt,Qc,Qm _ _ hlt];intro _;refine Qh (Qe rfl ?_ ?_)
   ·intro hc2;have he:ns[i]=n:=(by rw[←hgd];simpa[hlt]using hc2);refine Qa ?_;simp only[go_sem];refine Qk ?_;simp only[go_sem,Qz,Q8,Qk9,Ja,forall_eq,RS.op];refine⟨_,.c _ _ (Qaa6 (noOw_mem (Qn _))),hK _ ns _ (Kn.start0 H).fin ha (fun x=>⟨.inr,?_⟩) (by omega)⟩;rintro (rfl|h)
    ·rw[←he];exact Jd hlt
    ·exact h
   ·intro hc2;have he:ns[i]≠n:=(by rw[←hgd];simpa[hlt]using hc2);refine Qi ?_;simp only[go_sem];exact tail _ (fun _=>he) rfl rfl rfl
  ·have hdf:decide ((i:Int)<(ns.length:Int))=false:=by simp;omega
   have hgo:(Qb ns).getD i []=[]:=by rw[Jb,Jj (by rw[Qc];omega)];rfl
   simp only[go_sem,hdf,hgo,Qc,cond_false];intro _;refine Qh (Qe rfl ?_ ?_)
   ·intro hc2;simp at hc2
   ·intro _;refine Qi ?_;simp only[go_sem];exact tail _ (fun h=>absurd h hlt) rfl rfl rfl
 refine Qa ?_;simp only[go_sem];refine Qa ?_;simp only[go_sem];refine Qh (Qf (Qw (fun m e1 H1=>∃(i:Nat),m=ns.length-i∧i≤ns.length∧H1=H∧(∀k,k<i→∀(h:k<ns.length),ns[k]<n)∧e1=[(0,.c (.sl fl 1 (Qb ns))),(1,.c (.int .i64 n)),(5,.c (.int .i64 i))]) ns.length ?_ ?_))
 ·exact⟨0,by omega,by omega,rfl,fun k hk=>by omega,rfl⟩
 ·rintro m e1 H1 ⟨i,hm,hi,rfl,hlo,rfl⟩;refine Q5 ?_;refine Qa ?_;by_cases hlt:i<ns.length
  ·have hgd:ns.getD i 0=ns[i]:=by simp[Jb,hlt]
   simp only[go_sem,hlt,Qc,Qm _ _ hlt];intro _;refine Qh (Qe rfl ?_ ?_)
   ·intro hc;have hv:ns[i]<n:=(by rw[←hgd];simpa[hlt]using hc);refine Qi ?_;simp only[go_sem];refine Qf ?_;refine Qt ?_;simp only[go_sem,X.next];refine⟨Qr (by omega) (by omega),ns.length-(i+1),by omega,i+1,rfl,by omega,fun k hk h=>?_,rfl⟩;by_cases h':k<i
    ·exact hlo k h' h
    ·have:k=i:=(by omega);subst this;exact hv
   ·intro hc;have hv:¬ns[i]<n:=(by rw[←hgd];simpa[hlt]using hc);refine Qv ?_;simp only[go_sem,X.next];exact rest i ⟨hi,hlo,fun _=>by omega⟩
  ·have hdf:decide ((i:Int)<(ns.length:Int))=false:=by simp;omega
   have hgo:(Qb ns).getD i []=[]:=by rw[Jb,Jj (by rw[Qc];omega)];rfl
   simp only[go_sem,hdf,hgo,Qc,cond_false];intro _;refine Qh (Qe rfl ?_ ?_)
   ·intro hc2;simp at hc2
   ·intro _;refine Qv ?_;simp only[go_sem,X.next];exact rest i ⟨hi,hlo,fun h=>absurd h hlt⟩
end Go.AE.Y
namespace Go.AE.Y
attribute [local instance] Classical.propDecidable
variable {g:Nat→List Nat}{n h:Nat}
theorem rchB_iff {a:Int}{x:Nat}:Q7u g a x=true↔Rch g (fun z=>(z:Int)=a) 0 x:=by simp[Q7u]
theorem Qbmz {a b:Nat}(h:domB g a b=true):Q7u g (-1) a=true∧Q7u g (-1) b=true:=by
 simp only[domB,Jl]at h;exact⟨h.1.1,h.1.2⟩
structure BWk (n:Nat)(g:Nat→List Nat)(h:Nat)(O W:List Nat):Prop where
 asc:O.Pairwise (· < ·)
 o:∀x∈O,Bdy n g h x
 w:∀x∈W,Q7u g (-1) x=true→Bdy n g h x
 c:∀x∈O,x≠h→∀p∈Qaps n g x,Q7u g (-1) p=true→p∈O∨p∈W
 l:∀p∈Qaps n g h,domB g h p=true→p∈O∨p∈W
 h:h∈O
 r:∀x∈W,x<n
variable {O W:List Nat}{b:Nat}
theorem BWk.init:BWk n g h [h] ((Qaps n g h).filter (domB g h)):=by
 refine⟨by simp,fun x hx=>?_,fun x hx _=>?_,fun x hx hne=>?_,fun p hp hd=>.inr (Jy.2 ⟨hp,hd⟩),by simp,fun x hx=>(predL_mem.1 (Jy.1 hx).1).1⟩
 ·simp at hx;subst hx;exact .head
 ·exact .back (Jy.1 hx).1 (Jy.1 hx).2
 ·simp at hx;exact absurd hx hne
theorem BWk.skip (k:BWk n g h O (b::W))(hb:b∈O∨Q7u g (-1) b=false):BWk n g h O W:=by
 refine⟨k.asc,k.o,fun x hx=>k.w x (Jh _ hx),fun x hx hne p hp hi=>?_,fun p hp hd=>?_,k.h,fun x hx=>k.r x (Jh _ hx)⟩
 ·rcases k.c x hx hne p hp hi with h1|h1
  ·exact .inl h1
  ·rcases Jv.1 h1 with rfl|h1
   ·rcases hb with hb|hb
    ·exact .inl hb
    ·rw[hb]at hi;simp at hi
   ·exact .inr h1
 ·rcases k.l p hp hd with h1|h1
  ·exact .inl h1
  ·rcases Jv.1 h1 with rfl|h1
   ·rcases hb with hb|hb
    ·exact .inl hb
    ·rw[(Qbmz hd).2]at hb;simp at hb
   ·exact .inr h1
theorem BWk.go {O':List Nat}(k:BWk n g h O (b::W))(hbO:b∉O)(hi:Q7u g (-1) b=true)(h1:O'.Pairwise (· < ·))(h2:∀x,x∈O'↔x=b∨x∈O):BWk n g h O' (W++Qaps n g b):=by
 have hB:=k.w b Jm hi;have hbh:b≠h:=fun e=>hbO (e▸k.h);refine⟨h1,fun x hx=>?_,fun x hx hix=>?_,fun x hx hne p hp hip=>?_,fun p hp hd=>?_,(h2 h).2 (.inr k.h),fun x hx=>?_⟩
 ·rcases (h2 x).1 hx with rfl|hx
  ·exact hB
  ·exact k.o x hx
 ·rcases Je.1 hx with hx|hx
  ·exact k.w x (Jh _ hx) hix
  ·exact .more hB hbh hx hix
 ·rcases (h2 x).1 hx with rfl|hx
  ·exact .inr (Js _ hp)
  ·rcases k.c x hx hne p hp hip with h3|h3
   ·exact .inl ((h2 p).2 (.inr h3))
   ·rcases Jv.1 h3 with rfl|h3
    ·exact .inl ((h2 p).2 (.inl rfl))
    ·exact .inr (Ji _ h3)
 ·rcases k.l p hp hd with h3|h3
  ·exact .inl ((h2 p).2 (.inr h3))
  ·rcases Jv.1 h3 with rfl|h3
   ·exact .inl ((h2 p).2 (.inl rfl))
   ·exact .inr (Ji _ h3)
 ·rcases Je.1 hx with hx|hx
  ·exact k.r x (Jh _ hx)
  ·exact (predL_mem.1 hx).1
theorem BWk.fin (hh:h<n)(k:BWk n g h O []):O=Qah8 n g h:=by
 refine Qa6m k.asc Qbcv fun x=>?_;rw[Qbcw hh];refine⟨k.o x,fun hb=>?_⟩
 induction hb with
 |head=>exact k.h
 |back h1 h2=>exact (k.l _ h1 h2).resolve_right (by simp)
 |more h1 h2 h3 h4 ih=>exact (k.c _ ih h2 _ h3 h4).resolve_right (by simp)
theorem BWk.len (k:BWk n g h O W)(hh:h<n):O.length≤n:=by
 have e:=Qas3 (n:=n) (p:=fun x=>decide (x∈O)) k.asc fun x=>⟨fun hx=>⟨(k.o x hx).lt hh,by simpa using hx⟩,fun hx=>by simpa using hx.2⟩;have:=List.length_filter_le (fun x=>decide (x∈O)) (List.range n);rw[←e]at this;simpa using this
end Go.AE.Y
namespace Go.AE.Y
open Go.Proofs.Tryz
variable {H H0:Heap}{K:V→Heap→Prop}
structure GF (rows:List (List C))(nx:Nat→List Int):Prop where
 no:∀r∈rows,noOw r=true
 x:∀i,i<rows.length→∃a1 a2 a3 a4 fl,rows.getD i []=[a1,a2,a3,a4,.sl fl 1 (Qb (nx i))]
 n:rows.length≤10000
 m:∀i,i<rows.length→(nx i).length≤1000
theorem GF.grd {rows:List (List C)}{nx:Nat→List Int}(h:GF rows nx)(H:Heap)(fl:Bool):GRd H (.sl fl 5 rows) rows nx:=⟨.mk' _ _ _ _,rfl,h.no,h.x⟩
theorem Qa0g {q:CodeD}(h:q.gd):GF (Qs q.blocks) (gnx q):=by
 refine⟨(Qmu (fun _=>.none) q false).no,(Qmu (fun _=>.none) q false).x,by rw[Qp];have:=h.b1;omega,fun i hi=>?_⟩;rw[Qp]at hi;have:gnx q i=q.blocks[i].next:=by simp[gnx,Jb,hi]
 rw[this];have:=h.n _ (Jd hi);omega
noncomputable def inL (n:Nat)(g:Nat→List Nat):List Bool:=(List.range n).map (Q7u g (-1))
noncomputable def Qbl6 (n:Nat)(g:Nat→List Nat)(a:Nat):List Bool:=(List.range n).map (domB g a)
noncomputable def ovOf (n:Nat)(g:Nat→List Nat)(k:Nat):List (List C):=(List.range k).map fun a=>[.sl false 1 (Qav (Qbl6 n g a))]
theorem Qaiu (n:Nat)(f:Nat→Bool){i:Nat}(h:i<n):((List.range n).map f).getD i false=f i:=by simp[Jb,h]
noncomputable def domC (p rg:Int)(fl:Bool)(rows:List (List C))(g:Nat→List Nat):List C:=
 [.int .i64 p,.int .i64 rg,.sl fl 5 rows,.sl false 1 (ovOf rows.length g rows.length),.sl false 1 (Qav (inL rows.length g))]
noncomputable def ysL (n:Nat)(g:Nat→List Nat)(ys:List Nat):List (Nat×Obj):=ys.zipIdx.map fun x=>(x.1,.vec 1 (Qav (Qbl6 n g x.2)))
def ysR (n:Nat)(ys:List Nat):List (List C):=ys.map fun y=>[.vsl y 1 0 n]
end Go.AE.Y
namespace Go.AE.Y
variable {P:Program}{H:Heap}{g:G}{w:World}
theorem Qblu (hs:Sat H g w)(os:Array Go.Obj):∃g',Stp H g w H g' (Go.Sort.grow w os):=by
 obtain⟨l⟩:=os
 induction l generalizing g w with
 |nil=>exact⟨g,by rw[Go.Sort.grow_empty];exact .refl hs⟩
 |cons x l ih=>
  have h1:=Q4x hs x;obtain⟨g',h2⟩:=ih h1.sat;refine⟨g',?_⟩;have e:Go.Sort.grow w ⟨x::l⟩=Go.Sort.grow (w.alloc x) ⟨l⟩:=by
   rw[Go.Sort.alloc_eq_grow,Go.Sort.grow_grow];congr 1;simp
  rw[e];exact h1.trans h2
theorem Qbfa {b off:Nat}{cs:Array Value}{T:TypeId}{d:Array Int}(h:w.heap[b]? = some (.cells cs T (0,0))) :
  Go.Sort.putRow (Value.int .i64) w b off d=World.putCells w b (Go.Sort.putCells (Value.int .i64) off d cs) T:=by
 simp only[Go.Sort.putRow,Go.Sort.mapBlock,World.putCells];congr 1;apply Array.ext_getElem?;intro i;simp only[Array.getElem?_modify];by_cases hi:b=i
 ·subst hi;have hlt:b<w.heap.size:=Qi1 h;rw[if_pos rfl,h];simp[hlt,Go.Sort.onCells]
 ·rw[if_neg hi,Array.getElem?_setIfInBounds_ne hi]
theorem Qa8i {f:Nat}(hf:fnOk P f=true)
  (hc:∀(blk off cap:Nat) (zs:List Int) (w:World),Go.Sort.Holds (Value.int .i64) w blk off zs.toArray→blk<w.heap.size→zs.length<4611686018427387904→
   Calls P f #[.slice (some ⟨blk,off,none⟩) zs.length cap] w fun e w'=>
    e=.returned (.tuple #[])∧∃n os,w'=Go.Sort.grow (Go.Sort.putRow (Value.int .i64) (Go.Sort.ahead w n) blk off (zs.mergeSort fun x y=>decide (x≤y)).toArray) os)
  {z n:Nat} {ns:List Int} {K:V→Heap→Prop} (hz:H z=.vec 1 (Qb ns)) (hn:n=ns.length) (h0:0<n)
  (hK:∀H',Upd H H' [(z,.vec 1 (Qb (ns.mergeSort fun x y=>decide (x≤y))))]→K (.tup []) H'):Qo P f [.c (.vsl z 1 0 n)] H K:=by
 refine⟨hf,fun g w vs hs hl hv=>?_⟩;obtain⟨v,rfl⟩:∃v,vs=[v]:=by
  match vs,hl with
  |[v],_=>exact⟨v,rfl⟩
 have hr:=hv 0 _ v rfl rfl;have ho:=hs.objs z;rw[hz]at ho
 cases hr with
 |c _ _ hr=>
  cases hr with
  |vslnil=>omega
  |vsl l sz st n cap b base T m hio hnc hsh hm=>
   obtain⟨b',base',T',cs,val,hio',hown,hblk,hsz,hlim,hrow,hcell,hrep⟩:=SatVec.of ho hio;rw[hio]at hio';simp only[Jar,Prod.mk.injEq,true_and]at hio';obtain⟨rfl,rfl⟩:=hio';have hlt:=Qi1 hblk;rw[Qc]at hsz hlim;have hel:∀j (hj:j<ns.length),cs[base+j]? = some (.int .i64 ns[j]):=by
    intro j hj;have h1:(Qb ns)[j]? = some [.int .i64 ns[j]]:=(by simp[Qb,hj]);have h2:=hcell j _ 0 _ h1 rfl;have h3:=hrep j _ 0 _ h1 rfl;have h4:val j 0=.int .i64 ns[j]:=by
     exact (fun vv (h:RepC w g (.int .i64 ns[j]) vv)=>by cases h;rfl:∀vv,RepC w g (.int .i64 ns[j]) vv→vv=.int .i64 ns[j]) _ (h3.toC rfl)
    simpa[h4]using h2
   have hH:Go.Sort.Holds (Value.int .i64) w b base ns.toArray:=by
    intro j hj;have hj':j<ns.length:=(by simpa using hj);refine⟨?_,?_⟩
    ·rw[Qbz hblk,hel j hj'];simp[getElem!_pos,hj']
    ·simp[World.frozen?,hblk]
   subst hn;simp only[Nat.zero_mul,Jbo];refine (hc b base cap ns w hH hlt (by simp only[LIM]at hlim;omega)).mono fun e w'=>?_;rintro⟨rfl,nn,os,rfl⟩;have s1:Stp H g w H g (Go.Sort.ahead w nn):=Qazm hs (w.drawn+nn);have hblk1:(Go.Sort.ahead w nn).heap[b]? = some (.cells cs T' (0,0)):=hblk;have hel2:∀i (c:C),((Qb (ns.mergeSort fun x y=>decide (x≤y)))[i]? = some [c])→∃x:Int,c=.int .i64 x∧(Go.Sort.putCells (Value.int .i64) base (ns.mergeSort fun x y=>decide (x≤y)).toArray cs)[base+i]? = some (.int .i64 x):=by
    intro i c hi;have hlen:(ns.mergeSort fun x y=>decide (x≤y)).length=ns.length:=List.length_mergeSort _;have hil:i<(ns.mergeSort fun x y=>decide (x≤y)).length:=by
     rcases Jbc i (ns.mergeSort fun x y=>decide (x≤y)).length with h|h
     ·exact h
     ·rw[Jj (by rw[Qc];exact h)]at hi;simp at hi
    refine⟨(ns.mergeSort fun x y=>decide (x≤y))[i],?_,?_⟩
    ·simp only[Qb,Jaf,Jg hil,Jav,Jar,List.cons.injEq,and_true]at hi;exact hi.symm
    ·simp only[Go.Sort.putCells,Array.getElem?_mapIdx];rw[Array.getElem?_eq_getElem (by omega)];simp only[Jav,Jar];rw[if_pos ⟨by omega,by simp only[List.size_toArray];omega⟩];congr 1;simp[getElem!_pos];rw[Jg hil];rfl
   have s2:=Qdu s1.sat hown hblk1 (cs':=Go.Sort.putCells (Value.int .i64) base (ns.mergeSort fun x y=>decide (x≤y)).toArray cs) (by simp[Go.Sort.putCells])
    (.vec 1 (Qb (ns.mergeSort fun x y=>decide (x≤y)))) (by rw[hz];simp) (fun hle hb2=>.inr ⟨b,base,T',_,fun i _=>.int .i64 ((ns.mergeSort fun x y=>decide (x≤y)).getD i 0),hio,hown,hb2,by
      rw[Qc,List.length_mergeSort];simp[Go.Sort.putCells];omega,by rw[Qc,List.length_mergeSort];exact hlim,fun i row hi=>by
       simp only[Qb,Jaf,Option.map_eq_some_iff]at hi;obtain⟨x,_,rfl⟩:=hi;rfl,fun i row j c hi hj=>by
       have hi':=hi;simp only[Qb,Jaf,Option.map_eq_some_iff]at hi';obtain⟨y,hy,rfl⟩:=hi';have hj0:j=0:=by
        rcases Ja7 j with h|h
        ·exact h
        ·rw[Jj (by simp;omega)]at hj;simp at hj
       subst hj0;obtain⟨x,hx,he⟩:=hel2 i _ hi;simp only[C.int.injEq,true_and]at hx;subst hx;simp only[Nat.mul_one,Jbo];rw[he,Jb,hy];rfl,fun i row j c hi hj=>by
       have hi':=hi;simp only[Qb,Jaf,Option.map_eq_some_iff]at hi';obtain⟨y,hy,rfl⟩:=hi';have hj0:j=0:=by
        rcases Ja7 j with h|h
        ·exact h
        ·rw[Jj (by simp;omega)]at hj;simp at hj
       subst hj0;simp at hj;subst hj;show RepO _ _ _ _ _ (Value.int .i64 ((ns.mergeSort fun x y=>decide (x≤y)).getD i 0));rw[Jb,hy];exact .plain _ _ _ _ (.int _ _)⟩) (by simp)
   rw[←Qbfa hblk1]at s2;obtain⟨g',s3⟩:=Qblu s2.sat os;refine .inl ⟨.tuple #[],.tup [],_,g',rfl,hK _ ⟨by simp[Heap.set_same],fun m _ hm=>Heap.set_other _ _ (by simpa using hm)⟩,s1.trans (s2.trans s3),?_⟩;exact .tup [] [] rfl (by simp)
theorem Qbcq {f:Nat}(hf:fnOk P f=true){k:IntKind}{x r:Int}(hc:∀w,Calls P f #[.int k x] w fun e w'=>e=.returned (.int .i64 r)∧w'=w){K:V→Heap→Prop}(hK:K (.c (.int .i64 r)) H) :
  Qo P f [.c (.int k x)] H K:=by
 refine⟨hf,fun g w vs hs hl hv=>?_⟩;obtain⟨v,rfl⟩:∃v,vs=[v]:=by
  match vs,hl with
  |[v],_=>exact⟨v,rfl⟩
 have hr:=hv 0 _ v rfl rfl
 cases hr with
 |c _ _ hr=>
  cases hr;refine (hc w).mono fun e w'=>?_;rintro⟨rfl,rfl⟩;exact .inl ⟨_,_,H,g,rfl,hK,.refl hs,.c _ _ (.int _ _)⟩
end Go.AE.Y
namespace Go.AE.Y
structure Cmp (ns R:List Int)(k j:Nat):Prop where
 len:R.length=ns.length
 kj:k<j
 jn:j≤ns.length
 asc:(R.take k).Pairwise (· < ·)
 mem:∀x,x∈R.take k↔x∈ns.take j
 same:∀i,j≤i+1→R.getD i 0=ns.getD i 0
variable {ns R:List Int}{k j:Nat}
theorem take_mem {l:List Int}{j:Nat}{x:Int}:x∈l.take j↔∃i,i<j∧i<l.length∧l.getD i 0=x:=by
 constructor
 ·intro h;obtain⟨i,hi,rfl⟩:=Jx.1 h;rw[Jo]at hi;refine⟨i,by omega,by omega,?_⟩;rw[Jag,Jb,Jg (by omega)];rfl
 ·rintro⟨i,h1,h2,rfl⟩;rw[Jb,Jg h2];exact Jx.2 ⟨i,by rw[Jo];omega,by rw[Jag];rfl⟩
theorem Qe6 {ns:List Int}(h:ns.Pairwise (·≤·)){a b:Nat}(hab:a≤b)(hb:b<ns.length):ns.getD a 0≤ns.getD b 0:=by
 rcases Jbc a b with h1|h1
 ·have:=J4.1 h a b (by omega) hb h1;simpa[Jb,hb,show a<ns.length by omega]using this
 ·have:a=b:=by omega
  subst this;exact Int.le_refl _
theorem Cmp.start (hs:ns.Pairwise (·≤·))(hk0:0<k)(hk:k<ns.length)(hne:∀i,0<i→i<k→ns.getD i 0≠ns.getD (i-1) 0)(he:ns.getD k 0=ns.getD (k-1) 0):Cmp ns ns k (k+1):=by
 refine⟨rfl,by omega,by omega,?_,fun x=>?_,fun i _=>rfl⟩
 ·rw[J4];intro a b ha hb hab;rw[Jo]at ha hb;rw[Jag,Jag];have h1:=Qe6 hs (a:=a) (b:=b-1) (by omega) (by omega);have h2:=Qe6 hs (a:=b-1) (b:=b) (by omega) (by omega);have h3:=hne b (by omega) (by omega);have e1:ns.getD a 0=ns[a]:=by simp[Jb,show a<ns.length by omega]
  have e2:ns.getD b 0=ns[b]:=by simp[Jb,show b<ns.length by omega]
  rw[e1]at h1;rw[e2]at h2 h3;omega
 ·rw[take_mem,take_mem];constructor
  ·rintro⟨i,h1,h2,h3⟩;exact⟨i,by omega,h2,h3⟩
  ·rintro⟨i,h1,h2,h3⟩;by_cases h:i<k
   ·exact⟨i,h,h2,h3⟩
   ·have:i=k:=(by omega);subst this;exact⟨i-1,by omega,by omega,by rw[←he];exact h3⟩
theorem Cmp.eq (c:Cmp ns R k j)(hj:j<ns.length)(he:ns.getD j 0=ns.getD (j-1) 0):Cmp ns R k (j+1):=by
 have:=c.kj;refine⟨c.len,by omega,by omega,c.asc,fun x=>?_,fun i hi=>c.same i (by omega)⟩;rw[c.mem,take_mem,take_mem];constructor
 ·rintro⟨i,h1,h2,h3⟩;exact⟨i,by omega,h2,h3⟩
 ·rintro⟨i,h1,h2,h3⟩;by_cases h:i<j
  ·exact⟨i,h,h2,h3⟩
  ·have:i=j:=by omega
   subst this;exact⟨i-1,by omega,by omega,by rw[←he];exact h3⟩
theorem Cmp.ne (c:Cmp ns R k j)(hs:ns.Pairwise (·≤·))(hj:j<ns.length)(he:ns.getD j 0≠ns.getD (j-1) 0):Cmp ns (R.set k (ns.getD j 0)) (k+1) (j+1):=by
 have hkj:=c.kj;have hkl:k<R.length:=by rw[c.len];omega
 have htk:(R.set k (ns.getD j 0)).take (k+1)=R.take k++[ns.getD j 0]:=by
  rw[Jf (by rw[Jq];exact hkl),List.getElem_set_self];congr 1;rw[List.take_set_of_le (Jk _)]
 refine⟨by rw[Jq];exact c.len,by omega,by omega,?_,fun x=>?_,fun i hi=>?_⟩
 ·rw[htk,Jax];refine⟨c.asc,by simp,fun a ha b hb=>?_⟩;simp at hb;subst hb;obtain⟨i,h1,h2,rfl⟩:=take_mem.1 ((c.mem a).1 ha);have h3:=Qe6 hs (a:=i) (b:=j-1) (by omega) (by omega);have h4:=Qe6 hs (a:=j-1) (b:=j) (by omega) hj;simp only[Jb]at *;omega
 ·rw[htk,Je,c.mem,take_mem,take_mem];simp only[Ja];constructor
  ·rintro (⟨i,h1,h2,h3⟩|rfl)
   ·exact⟨i,by omega,h2,h3⟩
   ·exact⟨j,by omega,hj,rfl⟩
  ·rintro⟨i,h1,h2,h3⟩;by_cases h:i<j
   ·exact .inl ⟨i,h,h2,h3⟩
   ·have:i=j:=(by omega);subst this;exact .inr h3.symm
 ·have:k≠i:=by omega
  rw[←c.same i (by omega)];simp[Jb,this]
theorem Qas2 (hs:ns.Pairwise (·≤·))(hne:∀i,0<i→i<ns.length→ns.getD i 0≠ns.getD (i-1) 0):ns.Pairwise (· < ·):=by
 rw[J4];intro a b ha hb hab;have h1:=Qe6 hs (a:=a) (b:=b-1) (by omega) (by omega);have h2:=Qe6 hs (a:=b-1) (b:=b) (by omega) (by omega);have h3:=hne b (by omega) (by omega);have e1:ns.getD a 0=ns[a]:=by simp[Jb,ha]
 have e2:ns.getD b 0=ns[b]:=by simp[Jb,hb]
 rw[e1]at h1;rw[e2]at h2 h3;omega
def srt (ns:List Int):List Int:=ns.mergeSort fun x y=>decide (x≤y)
theorem Qa6c (ns:List Int):(srt ns).length=ns.length:=List.length_mergeSort _
theorem Qbox (ns:List Int)(x:Int):x∈srt ns↔x∈ns:=(List.mergeSort_perm ns _).mem_iff
theorem Qbcf (ns:List Int):(srt ns).Pairwise (·≤·):=by
 have:=List.pairwise_mergeSort (le:=fun x y:Int=>decide (x≤y)) (by simp only[decide_eq_true_eq];omega) (by simp only[Bool.or_eq_true,decide_eq_true_eq];omega) ns;exact this.imp (by simp)
end Go.AE.Y
namespace Go.Proofs
open Go.Shelf
def Tryz.lays189_ren:Go.Shelf.Ren:=⟨fun|189=>118|125=>186|257=>185|128=>250|129=>251|294=>241|295=>242|296=>243|297=>244|298=>245|299=>246|216=>247|300=>248|301=>249|328=>296|329=>297|330=>298|331=>299|332=>300|215=>301|343=>318|n=>n,fun|28=>32|3=>3|46=>179|0=>0|51=>238|53=>240|4=>4|183=>232|182=>231|131=>134|5=>5|9=>9|218=>291|222=>262|228=>306|229=>257|n=>n,fun|n=>n⟩
theorem Tryz.lays189:Go.Proofs.Lays.n189 Tryz.prog Tryz.lays189_ren:={
 mixed:=by kernel_rfl
 f125:=Tryz.func186.trans (congrArg some (by kernel_rfl))
 f128:=Tryz.func250.trans (congrArg some (by kernel_rfl))
 f129:=Tryz.func251.trans (congrArg some (by kernel_rfl))
 f189:=Tryz.func118.trans (congrArg some (by kernel_rfl))
 f215:=Tryz.func301.trans (congrArg some (by kernel_rfl))
 f216:=Tryz.func247.trans (congrArg some (by kernel_rfl))
 f257:=Tryz.func185.trans (congrArg some (by kernel_rfl))
 f294:=Tryz.func241.trans (congrArg some (by kernel_rfl))
 f295:=Tryz.func242.trans (congrArg some (by kernel_rfl))
 f296:=Tryz.func243.trans (congrArg some (by kernel_rfl))
 f297:=Tryz.func244.trans (congrArg some (by kernel_rfl))
 f298:=Tryz.func245.trans (congrArg some (by kernel_rfl))
 f299:=Tryz.func246.trans (congrArg some (by kernel_rfl))
 f300:=Tryz.func248.trans (congrArg some (by kernel_rfl))
 f301:=Tryz.func249.trans (congrArg some (by kernel_rfl))
 f328:=Tryz.func296.trans (congrArg some (by kernel_rfl))
 f329:=Tryz.func297.trans (congrArg some (by kernel_rfl))
 f330:=Tryz.func298.trans (congrArg some (by kernel_rfl))
 f331:=Tryz.func299.trans (congrArg some (by kernel_rfl))
 f332:=Tryz.func300.trans (congrArg some (by kernel_rfl))
 f343:=Tryz.func318.trans (congrArg some (by kernel_rfl))
 t0:=Tryz.underlying0
 a0:=Tryz.isAgg0
 z0:=Tryz.sizeOf0
 v0:=Tryz.zeroValue0
 t3:=Tryz.underlying3
 a3:=Tryz.isAgg3
 z3:=Tryz.sizeOf3
 v3:=Tryz.zeroValue3
 t4:=Tryz.underlying4
 a4:=Tryz.isAgg4
 z4:=Tryz.sizeOf4
 v4:=Tryz.zeroValue4
 t5:=Tryz.underlying5
 a5:=Tryz.isAgg5
 z5:=Tryz.sizeOf5
 v5:=Tryz.zeroValue5
 t9:=Tryz.underlying9
 a9:=Tryz.isAgg9
 z9:=Tryz.sizeOf9
 v9:=Tryz.zeroValue9
 t28:=Tryz.underlying32
 a28:=Tryz.isAgg32
 z28:=Tryz.sizeOf32
 v28:=Tryz.zeroValue32
 t46:=Tryz.underlying179
 a46:=Tryz.isAgg179
 z46:=Tryz.sizeOf179
 v46:=Tryz.zeroValue179
 t51:=Tryz.underlying238
 a51:=Tryz.isAgg238
 z51:=Tryz.sizeOf238
 v51:=Tryz.zeroValue238
 t53:=Tryz.underlying240
 a53:=Tryz.isAgg240
 z53:=Tryz.sizeOf240
 v53:=Tryz.zeroValue240
 t131:=Tryz.underlying134
 a131:=Tryz.isAgg134
 z131:=Tryz.sizeOf134
 v131:=Tryz.zeroValue134
 t182:=Tryz.underlying231
 a182:=Tryz.isAgg231
 z182:=Tryz.sizeOf231
 v182:=Tryz.zeroValue231
 t183:=Tryz.underlying232
 a183:=Tryz.isAgg232
 z183:=Tryz.sizeOf232
 v183:=Tryz.zeroValue232
 t218:=Tryz.underlying291
 a218:=Tryz.isAgg291
 z218:=Tryz.sizeOf291
 v218:=Tryz.zeroValue291
 t222:=Tryz.underlying262
 a222:=Tryz.isAgg262
 z222:=Tryz.sizeOf262
 v222:=Tryz.zeroValue262
 t228:=Tryz.underlying306
 a228:=Tryz.isAgg306
 z228:=Tryz.sizeOf306
 v228:=Tryz.zeroValue306
 t229:=Tryz.underlying257
 a229:=Tryz.isAgg257
 z229:=Tryz.sizeOf257
 v229:=Tryz.zeroValue257 }
end Go.Proofs
namespace Go.AE.Y
open Go.Proofs.Tryz
variable {H H0:Heap}{K:V→Heap→Prop}{E B Lg:List (Nat×Obj)}
theorem Qbct {x:Int}(h0:0≤x)(h1:x≤18446744073709551615)(hK:∀n:Int,K (.c (.int .i64 n)) H):Qo prog Qaau [.c (.int .u64 x)] H K:=
 Qbcq (by kernel_rfl) (fun w=>calls_of_every_depth fun D=>Go.Proofs.AnyS.bits_LenIn (ρ:=lays189_ren) { lays189 with } D x w h0 h1) (hK _)
theorem Qbqa {c:C}(how:c.isOw=false)(hK:K (.tup []) H):Qo prog Qbp [.c c,.c (.int .i64 0),.c (.int .i64 0)] H K:=by
 refine Qd Qai Qj4 ?_;refine Qa ?_;simp only[go_sem,how];refine⟨Qr (by omega) (by omega),?_⟩;refine Qf (Qw (fun m e1 H1=>H1=H∧e1=[(0,.c c),(1,.c (.int .i64 0)),(2,.c (.int .i64 0)),(6,.c (.int .i64 1))]) 0 ⟨rfl,rfl⟩ ?_);rintro m e1 H1 ⟨rfl,rfl⟩;refine Q5 ?_;refine Qa ?_;simp only[go_sem,how];refine Qh (Qe rfl (fun h=>by simp at h) fun _=>?_);refine Qv ?_;simp only[go_sem,X.next,Qz,Q8,Qdc,Jan];exact⟨fun _=>trivial,hK⟩
theorem Qbqn {c:C}{l:Int}(how:c.isOw=false)(hK:K (.tup []) H):Qo prog Qbd [.c c,.c (.int .i64 0),.c (.int .i64 0),.c (.int .i64 l)] H K:=by
 refine Qd Qai Qzo ?_;refine Qa ?_;simp only[go_sem,how];refine Qa ?_;simp only[go_sem,how];refine Qf (Qw (fun m e1 H1=>H1=H∧e1=[(0,.c c),(1,.c (.int .i64 0)),(2,.c (.int .i64 0)),(3,.c (.int .i64 l)),(8,.c (.bool true)),(9,.c (.bool true))]) 0 ⟨rfl,rfl⟩ ?_);rintro m e1 H1 ⟨rfl,rfl⟩;refine Qf ?_;refine Qa ?_;simp only[go_sem,how];refine⟨Qr (by omega) (by omega),?_⟩;refine Q5 ?_;refine Qa ?_;simp only[go_sem,how];refine Qh (Qe rfl (fun _=>?_) (fun h=>by simp at h));refine Qa ?_;simp only[go_sem,how];refine Qbqa how ?_;simp only[Qahv];refine Qk ?_;simp only[go_sem,X.next,Qz,Q8,Qia,Jan];exact⟨fun _=>trivial,hK⟩
theorem Qbmn {c:C}(hok:okSl H c)(hl:lenC c=0)(how:c.isOw=false)(hK:K (.tup []) H):Qo prog Qvx [.c c] H K:=by
 have hok:=eq_true hok;refine Qd Qai Qben ?_;refine Qa ?_;simp only[go_sem,how,hok,hl];have e0:((0:Nat):Int)=0:=rfl;refine Qt ?_;simp only[go_sem,how,e0];refine⟨⟨by decide,by decide⟩,?_⟩;refine Qbct (by omega) (by omega) fun n=>?_;simp only[go_sem,how,Q7n];refine Qbqn how ?_;simp only[go_sem,Qz,Q8,Qauv,Jan];exact⟨fun _=>trivial,hK⟩
theorem Qbpm {c:C}{ns:List Int}(kn:Kn H0 H E (B++Lg))(hgr:Gr Lg 1 (Qb ns) c)
  (hK:∀Lg' H',Gr Lg' 1 (Qb (srt ns)) c→Kn H0 H' E (B++Lg')→K (.tup []) H'):Qo prog Qvx [.c c] H K:=by
 by_cases h0:ns=[]
 ·subst h0;refine Qbmn (hgr.okSl kn) (by rw[hgr.lenC];rfl) hgr.isOw (hK Lg H ?_ kn);have:srt []=[]:=by simp[srt]
  rw[this];exact hgr
 ·rcases hgr with ⟨_,h,_⟩|⟨y,rfl,rfl⟩
  ·cases ns with
   |nil=>exact absurd rfl h0
   |cons a b=>simp[Qb]at h
  ·have hy:=kn.l B.length (l:=y) (o:=.vec 1 (Qb ns)) (by simp);have hpos:0<ns.length:=List.length_pos_iff.2 h0;refine Qa8i (by kernel_rfl) (fun blk off cap zs w h1 h2 h3=>Go.Proofs.Any.slices_Sort_int lays189 blk off cap zs w h1 h2 h3) hy (by rw[Qc]) (by rw[Qc];exact hpos) fun H' hu=>?_;refine hK [(y,.vec 1 (Qb (srt ns)))] H' (.inr ⟨y,by rw[Qc,Qc,Qa6c],rfl⟩) ?_;have:=kn.callL B.length (l:=y) (o:=.vec 1 (Qb ns)) (by simp) hu (by simp);simpa[srt]using this
def Qbr3 (ks:List Nat):List (C×V):=ks.map fun k:Nat=>(.int .i64 (k:Int),.c (.bool true))
end Go.AE.Y
namespace Go.AE.Y
open Go.Proofs.Tryz
variable {H H0:Heap}{K:V→Heap→Prop}
structure InB (n:Nat)(g:Nat→List Nat)(S:List Bool)(ks:List Nat):Prop where
 len:S.length=n
 s:∀x,x<n→S.getD x false=(decide (x∈ks) || !Q7u g (-1) x)
 nd:ks.Nodup
 lt:∀x∈ks,x<n
 i:∀x∈ks,Q7u g (-1) x=true
 c:ks.length≤cnt S
theorem InB.add {n:Nat}{g:Nat→List Nat}{S:List Bool}{ks:List Nat}{b:Nat}(h:InB n g S ks)(hb:b<n)(hbs:b∉ks)(hi:Q7u g (-1) b=true):S.getD b false=false∧InB n g (S.set b true) (ks++[b]):=by
 have hsb:S.getD b false=false:=by rw[h.s b hb];simp[hbs,hi]
 have hbS:b<S.length:=by rw[h.len];exact hb
 refine⟨hsb,by rw[Jq];exact h.len,fun x hx=>?_,?_,fun x hx=>?_,fun x hx=>?_,?_⟩
 ·rw[Qg3];by_cases hxb:x=b
  ·subst hxb;simp[hbS]
  ·simp only[hxb,false_and,if_false,Je,Ja,or_false];exact h.s x hx
 ·refine Jah.2 ⟨h.nd,by simp,fun a ha c hc=>?_⟩;simp at hc;subst hc;exact fun e=>hbs (e▸ha)
 ·rcases Je.1 hx with hx|hx
  ·exact h.lt x hx
  ·simp at hx;omega
 ·rcases Je.1 hx with hx|hx
  ·exact h.i x hx
  ·simp at hx;subst hx;exact hi
 ·rw[Qzb hbS hsb,J2];have:=h.c;simp;omega
def bdCaps (x5 x6:Nat)(dc:List C):List C:=[.ptr x5 0,.pp [.pp dc],.ptr x6 0]
end Go.AE.Y
namespace Go.AE.Y
open Go.Proofs.Tryz
variable {H H0:Heap}{K:V→Heap→Prop}{E B Lg:List (Nat×Obj)}
def Gw (Lg:List (Nat×Obj))(sz:Nat)(rows:List (List C))(c:C):Prop:=
 (c=.sl true sz []∧rows=[]∧Lg=[])∨∃y R,c=.vsl y sz 0 rows.length∧Lg=[(y,.vec sz R)]∧R.take rows.length=rows
end Go.AE.Y
namespace Go.AE
open Go.AE.Y
open Go.Proofs.Tryz
variable {H H0:Heap}{K:V→Heap→Prop}{E B Lg:List (Nat×Obj)}
theorem Gr.gw {sz:Nat}{rows:List (List C)}{c:C}(h:Gr Lg sz rows c):Gw Lg sz rows c:=by
 rcases h with h|⟨y,h1,h2⟩
 ·exact .inl h
 ·exact .inr ⟨y,rows,h1,h2,J1⟩
end Go.AE
namespace Go.AE.Y
open Go.Proofs.Tryz
variable {H H0:Heap}{K:V→Heap→Prop}{E B Lg:List (Nat×Obj)}
theorem Gw.isOw {sz:Nat}{rows:List (List C)}{c:C}(h:Gw Lg sz rows c):c.isOw=false:=by rcases h with ⟨rfl,_⟩|⟨y,R,rfl,_⟩ <;> rfl
theorem Gw.frz {ns:List Int}{c:C}(h:Gw Lg 1 (Qb ns) c)(kn:Kn H0 H E (B++Lg)):FrzC H (un H0) c (.sl false 1 (Qb ns)):=by
 rcases h with ⟨rfl,h2,_⟩|⟨y,R,rfl,rfl,hR⟩
 ·rw[h2];exact FrzR.nil.sl
 ·have hle:(Qb ns).length≤R.length:=by
   have:=congrArg List.length hR;rw[Jo]at this;omega
  have h:=FrzR.same (H:=H) (S:=un H0) (Qn ns);exact .vsl y 1 0 _ R (Qb ns) (Qb ns) (Qkj (kn.loc (y,.vec 1 R) (by simp))) (kn.get (y,.vec 1 R) (by simp)).1 (by omega) (by simpa using hR.symm) h.spec.1 (fun i r r' h1 h2=>(h.spec.2 i r r' h1 h2).spec.1) fun i r r' j c c' h1 h2 h3 h4=>(h.spec.2 i r r' h1 h2).spec.2 j c c' h3 h4
theorem Q22 {fl:Bool}{ns:List Int}{L:List (Nat×Obj)}(kn:Kn H0 H E L)(hl:ns.length≤LIM)(hK:∀t Lg H',Gr Lg 1 (Qb ns) t→t.isOw=false→Kn H0 H' E (L++Lg)→K (.c t) H') :
  Qo prog Qco [.c (.sl fl 1 (Qb ns))] H K:=by
 refine Qd Qai Qa9p ?_;refine Qa ?_;simp only[go_sem];refine Q5 ?_;refine Qa ?_;simp only[go_sem];intro b hb;refine Qh (Qe rfl ?_ ?_)
 ·intro hbt;have hn:=hb hbt;refine Qa ?_;simp only[go_sem];refine Qk ?_;simp only[go_sem,Qz,Q8,Q3x,Ja,forall_eq,RS.op];refine hK _ [] H ?_ rfl (by simpa using kn);rw[hn];exact .nil 1
 ·intro hbf;refine Qi ?_;simp only[go_sem];refine Qa ?_;simp only[go_sem,Qc];refine⟨.inl trivial,Qn _,by omega,fun z hz H1 h1=>?_⟩;have kn:=kn.al hz h1;simp only[go_sem,Q2s];refine Qk ?_;simp only[go_sem,Qz,Q8,Q3x,Ja,forall_eq,RS.op];exact hK _ _ H1 (.mk z 1 _ (by rw[Qc];omega)) rfl kn
theorem Qcc (ns:List Int)(i:Nat)(x:Int):(Qb ns).set i [.int .i64 x]=Qb (ns.set i x):=by simp[Qb,Jau]
theorem Qa0i (ns:List Int)(k:Nat):(Qb ns).take k=Qb (ns.take k):=by simp[Qb,Ja3]
set_option maxHeartbeats 2000000 in
theorem Qbcj {c:C}{ns:List Int}(kn:Kn H0 H E (B++Lg))(hgr:Gr Lg 1 (Qb ns) c)(hs:ns.Pairwise (·≤·))(hL:ns.length≤2 ^ 38)
  (hK:∀t Lg' ns' H',Gw Lg' 1 (Qb ns') t→t.isOw=false→Kn H0 H' E (B++Lg')→ns'.Pairwise (· < ·)→(∀x,x∈ns'↔x∈ns)→ns'.length≤ns.length→K (.c t) H') :
  Qo prog Qmp [.c c] H K:=by
 have how:=hgr.isOw;have hok:=eq_true (hgr.okSl kn);have hlen:=hgr.lenC;have hrw:=hgr.rowsOf kn;have hsz:=hgr.elemSz;refine Qd Qai Qauc ?_;refine Qa ?_;simp only[go_sem,how];refine Q5 ?_;refine Qa ?_;simp only[go_sem,how,hok,hlen,Qc];intro _;refine Qh (Qe rfl ?_ ?_)
 ·intro hc;have h2:ns.length<2:=by have:=of_decide_eq_true hc;omega
  refine Qa ?_;simp only[go_sem,how];refine Qk ?_;simp only[go_sem,Qz,Q8,Qjh,Ja,forall_eq,RS.op,how];exact hK c Lg ns H hgr.gw how kn (Qas2 hs fun i h0 hi=>by omega) (fun _=>Iff.rfl) (Jk _)
 ·intro hc;have h2:2≤ns.length:=by have:=of_decide_eq_false hc;omega
  obtain⟨z,rfl,rfl⟩:∃z,c=.vsl z 1 0 ns.length∧Lg=[(z,.vec 1 (Qb ns))]:=by
   rcases hgr with ⟨_,h,_⟩|⟨y,h1,h2⟩
   ·have:ns.length=0:=(by rw[←Qc,h];rfl);omega
   ·exact⟨y,by rw[h1,Qc],h2⟩
  have hz:=kn.l B.length (l:=z) (o:=.vec 1 (Qb ns)) (by simp);refine Qi ?_;simp only[go_sem];refine Q5 ?_;refine Qa ?_;simp only[go_sem];refine Qh (Qf (Qw (fun m e1 H1=>∃(k:Nat),m=ns.length-k∧0<k∧k≤ns.length∧H1=H∧(∀i,0<i→i<k→ns.getD i 0≠ns.getD (i-1) 0)∧e1=[(0,.c (.vsl z 1 0 ns.length)),(3,.c (.int .i64 k))]) (ns.length-1) ?_ ?_))
  ·exact⟨1,rfl,by omega,by omega,rfl,fun i h0 h1=>by omega,rfl⟩
  ·rintro m e1 H1 ⟨k,hm,hk0,hk,rfl,hne,rfl⟩;refine Q5 ?_;refine Qa ?_;simp only[go_sem,hz,Qc,Jw,Jk];intro hlim;simp only[LIM]at hlim;refine Qh (Qe rfl ?_ ?_)
   ·intro hc2;have hlt:k<ns.length:=(by simpa using hc2);have hlt1:k-1<ns.length:=(by omega);have e1:((k:Int)-1)=((k-1:Nat):Int):=(by omega);have htk:(Qb ns).take ns.length=Qb ns:=Jc (by rw[Qc];exact Jk _);refine Qi ?_;simp only[go_sem];refine Qh (Qf ?_);refine Qad ?_;simp only[go_sem,hz,e1,hlt,hlt1,htk,Qc,Qm _ _ hlt,Qm _ _ hlt1,Jw,Jk];refine⟨Qr (by omega) (by omega),?_⟩;refine Qe rfl ?_ ?_
    ·intro hc3;have heq:ns.getD k 0=ns.getD (k-1) 0:=(by simpa using hc3);refine Qa ?_;simp only[go_sem,hz,hlt,Qc,Jw,Jk];refine⟨by omega,?_⟩;refine Q5 ?_;refine Qa ?_;simp only[go_sem];refine Qh (Qf (Qw (fun m e1 H2=>∃(j kk:Nat) (R:List Int),m=ns.length-j∧k<j∧j≤ns.length∧Cmp ns R kk j∧Kn H0 H2 E (B++[(z,.vec 1 (Qb R))])∧
      e1=[(0,.c (.vsl z 1 0 ns.length)),(3,.c (.int .i64 kk)),(4,.c (.vsl z 1 k (ns.length-k))),(5,.c (.int .i64 ((j-k:Nat):Int)))]) (ns.length-(k+1)) ?_ ?_))
     ·refine⟨k+1,k,ns,rfl,by omega,by omega,.start hs hk0 hlt hne heq,kn,?_⟩;have:k+1-k=1:=(by omega);rw[this];rfl
     ·rintro m2 e1 H2 ⟨j,kk,R,hm2,hkj,hj,hcm,kn,rfl⟩;have hz:=kn.l B.length (l:=z) (o:=.vec 1 (Qb R)) (by simp);have hRl:=hcm.len;have hkkj:=hcm.kj;refine Q5 ?_;refine Qa ?_;have e3:k+(ns.length-k)=ns.length:=(by omega);simp only[go_sem,hz,Qc,hRl,e3,Jw,Jk];intro _;refine Qh (Qe rfl ?_ ?_)
      ·intro hc4;have hjl:j<ns.length:=(by have:=of_decide_eq_true hc4;omega);have hjR:j<R.length:=(by omega);have hjR1:j-1<R.length:=(by omega);have hjk:j-k<ns.length-k:=(by omega);have hjk1:j-k-1<ns.length-k:=(by omega);have e4:(((j-k:Nat):Int)-1)=((j-k-1:Nat):Int):=(by omega);have hr1:(((Qb R).drop k).take (ns.length-k)).getD (j-k) []=[.int .i64 (ns.getD j 0)]:=by
        rw[←hcm.same j (by omega),←Qm _ _ hjR];simp only[Jb,Ja2,Ja1];rw[if_pos hjk];have:k+(j-k)=j:=(by omega);rw[this]
       have hr2:(((Qb R).drop k).take (ns.length-k)).getD (j-k-1) []=[.int .i64 (ns.getD (j-1) 0)]:=by
        rw[←hcm.same (j-1) (by omega),←Qm _ _ hjR1];simp only[Jb,Ja2,Ja1];rw[if_pos hjk1];have:k+(j-k-1)=j-1:=(by omega);rw[this]
       refine Qi ?_;simp only[go_sem];refine Q28 (fun e2 H3=>∃(kk:Nat) (R:List Int),Cmp ns R kk (j+1)∧Kn H0 H3 E (B++[(z,.vec 1 (Qb R))])∧
        lk 0 e2=.c (.vsl z 1 0 ns.length)∧lk 3 e2=.c (.int .i64 kk)∧lk 4 e2=.c (.vsl z 1 k (ns.length-k))∧lk 5 e2=.c (.int .i64 ((j-k:Nat):Int))) ?_ ?_
       ·intro Q hnr _ _;refine Qf ?_;refine Qad ?_;simp only[go_sem,hz,e3,e4,hr1,hr2,hjk,hjk1,Qc,hRl,Jk];refine⟨Qr (by omega) (by omega),?_⟩;refine Qe rfl ?_ ?_
        ·intro hc5;have hne5:ns.getD j 0≠ns.getD (j-1) 0:=(by simpa using hc5);have hkkl:kk<ns.length:=(by omega);have hkkR:kk<R.length:=(by omega);have htk:(Qb R).take ns.length=Qb R:=Jc (by rw[Qc];omega);refine Qa ?_;simp only[go_sem,hz,e3,hr1,hjk,hkkl,htk,Qm _ _ hkkR,Qcc,Qc,hRl,Jw,Jk];intro H3 h3;have kn3:=kn.stL B.length (x:=z) (o:=.vec 1 (Qb R)) (by simp) h3;have kn:Kn H0 H3 E (B++[(z,.vec 1 (Qb (R.set kk (ns.getD j 0))))]):=(by simpa using kn3);refine Qt ?_;simp only[go_sem];refine⟨Qr (by omega) (by omega),?_⟩;exact hnr _ _ ⟨kk+1,_,hcm.ne hs hjl hne5,kn,rfl,rfl,rfl,rfl⟩
        ·intro hc5;have heq5:ns.getD j 0=ns.getD (j-1) 0:=(by simpa using hc5);refine Qi ?_;simp only[go_sem];exact hnr _ _ ⟨kk,R,hcm.eq hjl heq5,kn,rfl,rfl,rfl,rfl⟩
       ·rintro e2 H3 ⟨kk,R,hcm,kn,l0,l3,l4,l5⟩;refine Qt ?_;simp only[go_sem,X.next,l0,l3,l4,l5];refine⟨Qr (by omega) (by omega),ns.length-(j+1),by omega,j+1,kk,R,rfl,by omega,by omega,hcm,kn,?_⟩;have:(((j-k:Nat):Int)+1)=((j+1-k:Nat):Int):=(by omega);rw[this]
      ·intro hc4;have hje:j=ns.length:=(by have:=of_decide_eq_false hc4;omega);subst hje;have hkkl:kk≤R.length:=(by omega);refine Qv ?_;simp only[go_sem,X.next];refine Qa ?_;have e5:kk+(ns.length-kk)=ns.length:=(by omega);simp only[go_sem,hz,e5,Qc,hRl,Jw,Jk];refine⟨by omega,fun H3 h3=>?_⟩;have kn3:=kn.stL B.length (x:=z) (o:=.vec 1 (Qb R)) (by simp) h3;have htk2:((Qb R).take kk++List.replicate (ns.length-kk) [C.int .i64 0]++(Qb R).drop ns.length).take kk=Qb (R.take kk):=by
        rw[Ja8,List.take_append_of_le_length (by rw[Jo,Qc];omega),Jbj,Nat.min_self,Qa0i]
       have hl2:ns.length≤((Qb R).take kk++List.replicate (ns.length-kk) [C.int .i64 0]++(Qb R).drop ns.length).length:=by
        simp only[J2,Jo,Jn,Jam,Qc];omega
       generalize (Qb R).take kk++List.replicate (ns.length-kk) [C.int .i64 0]++(Qb R).drop ns.length=R2 at *;have kn:Kn H0 H3 E (B++[(z,.vec 1 R2)]):=(by simpa using kn3);have hz3:=kn.l B.length (l:=z) (o:=.vec 1 R2) (by simp);refine Qa ?_;simp only[go_sem,hz3,hl2,Jw,Nat.sub_zero];refine⟨by omega,?_⟩;refine Qk ?_;simp only[go_sem,X.next,Qz,Q8,Qjh,Ja,forall_eq,RS.op];have hrl:(Qb (R.take kk)).length=kk:=(by rw[Qc,Jo];omega);refine hK (.vsl z 1 0 kk) _ (R.take kk) H3 (.inr ⟨z,R2,?_,rfl,?_⟩) rfl kn hcm.asc (fun x=>?_) (by rw[Jo];omega)
       ·rw[hrl]
       ·rw[hrl];exact htk2
       ·rw[hcm.mem,J1]
    ·intro hc3;have hneq:¬ns.getD k 0=ns.getD (k-1) 0:=(by simpa using hc3);refine Qi ?_;simp only[go_sem];refine Qt ?_;simp only[go_sem,X.next];refine⟨Qr (by omega) (by omega),ns.length-(k+1),by omega,k+1,rfl,by omega,by omega,fun i h0 h1=>?_,rfl⟩;by_cases h:i<k
     ·exact hne i h0 h
     ·have:i=k:=(by omega);subst this;exact hneq
   ·intro hc2;have hge:ns.length≤k:=(by simpa using hc2);refine Qv ?_;simp only[go_sem,X.next];refine Qa ?_;simp only[go_sem];refine Qk ?_;simp only[go_sem,Qz,Q8,Qjh,Ja,forall_eq,RS.op];exact hK _ _ ns H1 hgr.gw rfl kn (Qas2 hs fun i h0 hi=>hne i h0 (by omega)) (fun _=>Iff.rfl) (Jk _)
theorem Qbql {fl:Bool}{ns:List Int}(hL:ns.length≤2 ^ 38)(hK:∀ns' H',Upd H H' []→ns'.Pairwise (· < ·)→(∀x,x∈ns'↔x∈ns)→ns'.length≤ns.length→K (.c (.sl false 1 (Qb ns'))) H') :
  Qo prog Q29 [.c (.sl fl 1 (Qb ns))] H K:=by
 refine Qu ?_;refine Qd Qai Qbd5 ?_;refine Qa ?_;simp only[go_sem];refine Qa ?_;simp only[go_sem];refine Q22 (Kn.start0 H) (by simp only[LIM];omega) fun t Lg H1 hgr how kn=>?_;simp only[go_sem,Q5l];refine Qa ?_;simp only[go_sem,how];refine Qbpm kn hgr fun Lg H2 hgr kn=>?_;refine Qa ?_;simp only[go_sem,how];refine Qbcj kn hgr (Qbcf ns) (by rw[Qa6c];exact hL) fun t2 Lg2 ns' H3 hgw how2 kn h1 h2 h3=>?_;simp only[go_sem,Q5m,how2];refine Qk ?_;simp only[go_sem,Qz,Q8,Qaun,Ja,forall_eq,RS.op,how2];exact⟨_,.c _ _ (hgw.frz kn),hK ns' _ kn.fin h1 (fun x=>by rw[h2,Qbox]) (by rw[Qa6c]at h3;exact h3)⟩
noncomputable def Qbl8 (n:Nat)(nx:Nat→List Int):List Nat:=if Qev n nx then Qbig n (nxN nx)else []
noncomputable def loopL (n:Nat)(nx:Nat→List Int)(h:Int):List Nat:=if ((Qbl8 n nx).map Int.ofNat).contains h then Qah8 n (nxN nx) h.toNat else []
noncomputable def Qan8 (n:Nat)(nx:Nat→List Int):List Nat:=if Qev n nx then (List.range n).filter (Q7u (nxN nx) (-1))else []
theorem Qazx {p rg:Int}{bc:C}{rows:List (List C)}{nx:Nat→List Int}(hg:GRd H bc rows nx)(hn:rows.length≤1000000)
  (hK:∀H',Upd H H' []→K (.c (.sl false 1 (Qag (Qan8 rows.length nx)))) H') :
  Qo prog Qho [.ag [.int .i64 p,.int .i64 rg,bc]] H K:=by
 have how:=hg.ow;refine Qu ?_;refine Qd Qai Qaid ?_;refine Qa ?_;simp only[go_sem,how];refine Q5 ?_;refine Qa ?_;simp only[go_sem,how];refine Qatg hg ?_;simp only[go_sem,Qlf];refine Qh (Qe rfl (fun hc=>?_) (fun hc=>?_))
 ·have hf:=Qpp hc;refine Qa ?_;simp only[go_sem];refine Qk ?_;simp only[go_sem,Qz,Q8,Qj8,Ja,forall_eq,RS.op];have:=hK _ (Kn.start0 H).fin;simp only[Qan8,hf]at this;exact⟨_,.c _ _ FrzR.nil.sl,this⟩
 ·have hf:=Qgc hc;have hn0:=Qkn hf;refine Qi ?_;simp only[go_sem];refine Qa ?_;simp only[go_sem,how];refine Qbl2 hg hf hn fun S o H1 hu hd=>?_;have kn:=(Kn.start0 H).call0 hu;simp only[go_sem,Qlh];have hgl:∀x,x<(List.replicate rows.length false).length→∀y∈nxN nx x,y<(List.replicate rows.length false).length:=by
   rw[Jn];exact fun x hx y hy=>Qxj hf hx hy
  have hx0:∀x∈[0],x<(List.replicate rows.length false).length:=by rw[Jn];simpa using hn0
  have hcount:=hd.count hgl hx0;have hc0:cnt (List.replicate rows.length false)=0:=by simp[cnt,List.count_replicate]
  have hcl:=Q0l S;have hSl:=hd.len;rw[Jn]at hSl;have hol:o.length≤1000000:=by simp only[Jr]at hcount;omega
  refine Qbql (ns:=o.map Int.ofNat) (by rw[Jbg];omega) fun ns' H2 hu h1 h2 h3=>?_;have kn:=kn.call0 hu;simp only[go_sem,Qlg];refine Qk ?_;simp only[go_sem,Qz,Q8,Qj8,Ja,forall_eq,RS.op];have he:ns'=(Qan8 rows.length nx).map Int.ofNat:=by
   simp only[Qan8,hf,if_pos];refine Qbhu h1 (Jao _ Jaj) fun x=>?_;rw[h2];have hmem:∀y,y∈o↔y<rows.length∧Q7u (nxN nx) (-1) y=true:=by
    intro y;rw[hd.list hgl hx0 (Qab _) y,hd.seen hgl hx0 y];rw[Qab];simp only[Ja0,false_or,Ja,exists_eq_left,rchB_iff];constructor
    ·intro hr;have hr2:=hr.mono (B:=fun z=>(z:Int)=-1) (fun z hz=>by omega);exact⟨hr2.lt (fun x hx y hy=>Qxj hf hx hy) hn0,hr2⟩
    ·intro hr;exact hr.2.mono fun z hz=>by rw[Qab]at hz;simp at hz
   constructor
   ·intro hx;obtain⟨y,hy,rfl⟩:=Jt.1 hx;obtain⟨h1,h2⟩:=(hmem y).1 hy;exact⟨y,Jy.2 ⟨J0.2 h1,h2⟩,rfl⟩
   ·rintro⟨y,hy,rfl⟩;obtain⟨h1,h2⟩:=Jy.1 hy;exact Jt.2 ⟨y,(hmem y).2 ⟨J0.1 h1,h2⟩,rfl⟩
  have:=hK _ kn.fin;rw[Qag,←he]at this;exact⟨_,.c _ _ (Qaa6 (noOw_mem (Qn _))),this⟩
theorem Qbcx {n:Nat}{S:List Bool}{f:Nat→Bool}(hl:S.length=n)(h:∀x,x<n→S.getD x false=f x):S=(List.range n).map f:=by
 refine Jbd (by simp[hl]) fun i h1 h2=>?_;have hi:i<n:=by rw[←hl];exact h1
 have:=h i hi;simp only[Jb,Jg h1,Jab]at this;simp[this]
theorem Qa8j {n:Nat}{nx:Nat→List Int}{S:List Bool}{o:List Nat}(hf:Qev n nx=true)(hd:Dfs (nxN nx) [0] (List.replicate n false) [] S o):S=inL n (nxN nx):=by
 have hn0:=Qkn hf;have hgl:∀x,x<(List.replicate n false).length→∀y∈nxN nx x,y<(List.replicate n false).length:=by
  rw[Jn];exact fun x hx y hy=>Qxj hf hx hy
 have hx0:∀x∈[0],x<(List.replicate n false).length:=by rw[Jn];simpa using hn0
 have hl:=hd.len;rw[Jn]at hl;refine Qbcx hl fun x hx=>?_;have hs:=hd.seen hgl hx0 x;rw[Qab]at hs;simp only[Ja0,false_or,Ja,exists_eq_left]at hs;rw[Bool.eq_iff_iff,hs,rchB_iff];exact⟨fun hr=>hr.mono fun z hz=>by omega,fun hr=>hr.mono fun z hz=>by rw[Qab]at hz;simp at hz⟩
end Go.AE.Y
namespace Go.AE.Y
open Go.Proofs.Tryz
def Q17:List Item:=[mJ 3 12]
def Q18:List Item:=.chk 6 none (.ld 3 true (.t 1))::aJ 12 Qmh [.t 6,kI 0,.t 10,.t 11]::Q17
def Q19:List Item:=[mJ 4 27]
def Qavo:SC:=.reg [mJ 19 5,cJ 20 .sub 19 1,mJ 5 20] [3,4,5]
def Qavp:SC:=.seq (.block 1 (.reg (mJ 21 4::mJ 22 3::mJ 23 5::iJ 24 1 22 23::lJ 25 24::fI 26 (.bsl 1 [.t 25])::xJ 27 1 21 26::Q19) [3,4,5])) Qavo
def Qaq7:SC:=.seq (sR [mJ 17 5,cJ 18 .geq 17 0] [3,4,5,18] (cT 18 .skip (.exit 0))) Qavp
def Qavq:SC:=sR [mJ 28 4,mJ 2 28] [2] .ret
def Qavr:SC:=.seq (sR [mJ 14 3,nJ 15 14,cJ 16 .sub 15 1,mJ 5 16] [3,4,5] (bL 0 Qaq7)) Qavq
def Qavs:SC:=sR [fI 13 (.bsl 1 []),mJ 4 13] [3,4] Qavr
def Qavt:SC:=.seq (.dreg 8 [0,1,2,3,5,4,0,6,7] ( tJ 6 3 1::fJ 7 2 1::lJ 8 7::nJ 9 8::fI 11 (.bsl 1 [])::eI 10 (.mks 1 [.bool false] (.t 9))::Q18) [3]) Qavs
def Qa99:SC:=sR [vJ 1 0,fI 2 (.mv (.k (.c (.sl true 1 []))))] [1] Qavt
def Qan3:List RS:=[.tmp 2]
theorem Qa9j:mFn prog Qhw 1 29 Qa99 Qan3=true:=by kernel_rfl
def Qyt:List Item:=[mJ 3 17]
def Qarf:SC:=.reg [mJ 10 4,cJ 11 .add 10 1,mJ 4 11] [0,3,4]
def Qarg:SC:=.seq (.block 1 (.reg (mJ 12 3::mJ 13 0::mJ 14 4::iJ 15 1 13 14::lJ 16 15::aJ 17 Qzi [.t 12,.t 16]::Qyt) [0,3,4])) Qarf
def Qalh:SC:=.seq (sR [mJ 6 4,mJ 7 0,nJ 8 7,bJ 9 .lss 6 8] [0,3,4,9] (cT 9 .skip (.exit 0))) Qarg
def Qarh:SC:=sR [mJ 18 3,mJ 2 18] [2] .ret
def Qari:SC:=.seq (sR [zJ 4 0] [0,3,4] (bL 0 Qalh)) Qarh
def Qarj:SC:=sR [fI 5 (.bsl 1 []),mJ 3 5] [0,3] Qari
def Qa19:SC:=sR [fI 2 (.mv (.k (.c (.sl true 1 []))))] [0] Qarj
def Qab2:List RS:=[.tmp 2]
theorem Qa0u:mFn prog Qq0 1 19 Qa19 Qab2=true:=by kernel_rfl
def Qlz:List Item:=[oJ 5 4]
def Q9t:SC:=cT 5 (sR [fI 6 (.bsl 1 []),mJ 2 6] [2] .ret) .skip
def Ql0:List Item:=[mJ 2 9]
def Ql1:List Item:=aJ 9 Qq0 [.t 8]::Ql0
def Q9u:SC:=sR (tJ 7 3 1::aJ 8 Qhw [.t 7]::Ql1) [2] .ret
def Q9v:SC:=.seq (sR (tJ 3 3 1::aJ 4 Q3b [.t 3]::Qlz) [1,5] Q9t) Q9u
def Qane:SC:=sR [vJ 1 0,fI 2 (.mv (.k (.c (.sl true 1 []))))] [1] Q9v
def Qxv:List RS:=[.tmp 2]
theorem Qair:mFn prog Qh2 1 10 Qane Qxv=true:=by kernel_rfl
def Q2e:List Item:=[mJ 5 9]
def Qawb:SC:=.reg [mJ 13 6,cJ 14 .add 13 1,mJ 6 14] [0,1,5,6]
def Qawc:SC:=.seq (.block 1 (.reg [mJ 15 5,mJ 16 6,iJ 17 1 15 16,.e none none (.sto 1 (.t 17) (kI (-1)))] [0,1,5,6])) Qawb
def Qard:SC:=.seq (sR [mJ 10 6,mJ 11 0,bJ 12 .lss 10 11] [0,1,5,6,12] (cT 12 .skip (.exit 0))) Qawc
def Qawd:SC:=.reg [mJ 22 7,cJ 23 .add 22 1,mJ 7 23] [1,5,7]
def Qawe:SC:=.seq (.block 3 (.reg [mJ 24 5,mJ 25 1,mJ 26 7,iJ 27 1 25 26,lJ 28 27,mJ 29 7,iJ 30 1 24 28,sJ 1 30 29] [1,5,7])) Qawd
def Qare:SC:=.seq (sR [mJ 18 7,mJ 19 1,nJ 20 19,bJ 21 .lss 18 20] [1,5,7,21] (cT 21 .skip (.exit 2))) Qawe
def Qawf:SC:=sR [mJ 31 5,mJ 4 31] [4] .ret
def Qawg:SC:=.seq (sR [zJ 7 0] [1,5,7] (bL 2 Qare)) Qawf
def Qawh:SC:=.seq (sR [zJ 6 0] [0,1,5,6] (bL 0 Qard)) Qawg
def Qarc:SC:=sR (mJ 8 0::eI 9 (.mks 1 [.int .i64 0] (.t 8))::Q2e) [0,1,5] Qawh
def Qbaa:SC:=sR [fI 4 (.mv (.k (.c (.sl true 1 []))))] [0,1] Qarc
def Qan4:List RS:=[.tmp 4]
theorem Qa9k:mFn prog Qzh 2 32 Qbaa Qan4=true:=by kernel_rfl
def Q51:List Item:=[mJ 5 20]
def Q52:List Item:=[sJ 3 6 25]
def Q53:List Item:=[hJ 33 32,.chk 36 none (.iad 1 (.t 34) (.t 35)),hJ 37 36,.chk 38 none (.iad 5 (.t 33) (.t 37)),.chk 39 none (.ld 5 true (.t 38)),sJ 5 8 40]
def Q54:List Item:=eI 8 (.alloc [.sl true 2 [],.sl true 4 [],.int .i64 0,.int .i64 0,.sl true 1 []])::Q53
def Qa15:SC:=.reg [mJ 46 9,cJ 47 .add 46 1,mJ 9 47] [1,2,4,5,6,7,8,9]
def Qa16:SC:=.seq (.block 3 (.dreg 13 [0,1,2,3,4,5,6,7,8,9,10,11,12] ( fJ 48 4 8::lJ 49 48::mJ 50 9::mJ 51 5::fJ 52 4 8::lJ 53 52::mJ 54 9::iJ 55 1 53 54::lJ 56 55::iJ 57 1 51 56::lJ 58 57::iJ 59 1 49 50::sJ 1 59 58::[]) [1,2,4,5,6,7,8,9])) Qa15
def Qawa:SC:=.seq (sR [mJ 41 9,fJ 42 4 8,lJ 43 42,nJ 44 43,bJ 45 .lss 41 44] [1,2,4,5,6,7,8,9,45] (cT 45 .skip (.exit 2))) Qa16
def Q55:List Item:=[fJ 65 2 6,sJ 1 65 64]
def Qa17:SC:=.reg (fJ 60 2 6::lJ 61 60::tJ 62 5 8::fI 63 (.bsl 5 [.t 62])::xJ 64 5 61 63::Q55) [1,2,4,5,6,7]
def Qa18:SC:=.seq (sR [zJ 9 0] [1,2,4,5,6,7,8,9] (bL 2 Qawa)) (.seq .gh Qa17)
def Qavu:SC:=.reg [mJ 30 7,cJ 31 .add 30 1,mJ 7 31] [1,2,4,5,6,7]
def Qavv:SC:=.seq (.block 1 (.seq (.dreg 9 [0,1,2,3,4,5,6,7,8,9,1,4,5,6,7,10] ( fJ 32 2 2::lJ 33 32::mJ 34 1::mJ 35 7::iJ 36 1 34 35::lJ 37 36::iJ 38 5 33 37::tJ 39 5 38::aJ 40 Qe9 [.t 39]::Q54) [1,2,4,5,6,7,8]) Qa18)) Qavu
def Qaq8:SC:=.seq (sR [mJ 26 7,mJ 27 1,nJ 28 27,bJ 29 .lss 26 28] [1,2,4,5,6,7,29] (cT 29 .skip (.exit 0))) Qavv
def Q2a:List Item:=[mJ 11 77]
def Q2b:List Item:=[mJ 12 80]
def Q2c:List Item:=[mJ 14 122]
def Q2d:List Item:=hJ 101 100::.chk 103 none (.iad 5 (.t 101) (.t 102))::hJ 105 104::.chk 107 none (.iad 2 (.t 105) (.t 106))::hJ 109 108::iJ 119 1 109 118::lJ 120 119::fI 121 (.bsl 1 [.t 120])::xJ 122 1 99 121::Q2c
def Qavw:SC:=.reg [mJ 97 15,cJ 98 .add 97 1,mJ 15 98] [1,2,4,6,10,11,12,13,14,15]
def Qavx:SC:=.seq (.block 9 (.dreg 25 [0,1,2,3,4,5,6,7,8,9,10,11,12,13,14,15,16,17,18,19,2,4,6,8,10,20,21,22,23,24] ( mJ 99 14::fJ 100 2 6::lJ 101 100::mJ 102 10::iJ 103 5 101 102::fJ 104 0 103::lJ 105 104::mJ 106 13::iJ 107 2 105 106::fJ 108 1 107::lJ 109 108::mJ 110 11::mJ 111 1::mJ 112 12::mJ 113 15::iJ 114 1 112 113::lJ 115 114::iJ 116 1 111 115::lJ 117 116::aJ 118 Qaow [.t 110,.t 117]::Q2d) [1,2,4,6,10,11,12,13,14,15])) Qavw
def Qaq9:SC:=.seq (sR [mJ 93 15,mJ 94 12,nJ 95 94,bJ 96 .lss 93 95] [1,2,4,6,10,11,12,13,14,15,96] (cT 96 .skip (.exit 8))) Qavx
def Qavy:SC:=.reg [fJ 123 2 6,lJ 124 123,mJ 125 10,iJ 126 5 124 125,fJ 127 0 126,lJ 128 127,mJ 129 13,mJ 130 14,iJ 131 2 128 129,fJ 132 1 131,sJ 1 132 130] [1,2,4,6,10,11,12,13]
def Qavz:SC:=.seq (sR [zJ 15 0] [1,2,4,6,10,11,12,13,14,15] (bL 8 Qaq9)) (.seq .gh Qavy)
def Qav0:SC:=.reg [mJ 90 13,cJ 91 .add 90 1,mJ 13 91] [1,2,4,6,10,11,12,13]
def Qav1:SC:=.seq (.block 7 (sR [fI 92 (.bsl 1 []),mJ 14 92] [1,2,4,6,10,11,12,13,14] Qavz)) Qav0
def Qara:SC:=.seq (sR [mJ 81 13,fJ 82 2 6,lJ 83 82,mJ 84 10,iJ 85 5 83 84,fJ 86 0 85,lJ 87 86,nJ 88 87,bJ 89 .lss 81 88] [1,2,4,6,10,11,12,13,89] (cT 89 .skip (.exit 6))) Qav1
def Qav2:SC:=sR [zJ 13 0] [1,2,4,6,10,11,12,13] (bL 6 Qara)
def Qav3:SC:=sR (tJ 78 3 6::mJ 79 10::aJ 80 Qhf [.t 78,.t 79]::Q2b) [1,2,4,6,10,11,12] Qav2
def Qav4:SC:=.reg [mJ 70 10,cJ 71 .add 70 1,mJ 10 71] [1,2,4,6,10]
def Qav5:SC:=.seq (.block 5 (.seq (.dreg 7 [0,1,2,3,4,5,6] ( tJ 72 3 2::mJ 73 1::mJ 74 10::iJ 75 1 73 74::lJ 76 75::aJ 77 Qhf [.t 72,.t 76]::Q2a) [1,2,4,6,10,11]) Qav3)) Qav4
def Qarb:SC:=.seq (sR [mJ 66 10,mJ 67 1,nJ 68 67,bJ 69 .lss 66 68] [1,2,4,6,10,69] (cT 69 .skip (.exit 4))) Qav5
def Qav6:SC:=sR [tJ 133 3 6,sJ 3 4 133] [4] .ret
def Q50:SC:=.seq (sR [zJ 10 0] [1,2,4,6,10] (bL 4 Qarb)) Qav6
def Qav7:SC:=.seq (sR [zJ 7 0] [1,2,4,5,6,7] (bL 0 Qaq8)) Q50
def Qav8:SC:=sR (fJ 21 0 2::lJ 22 21::fJ 23 1 2::lJ 24 23::fI 25 (.bld [.int .i64 0,.int .i64 0,.sl true 5 []] [(0,1,.t 22),(1,1,.t 24)])::eI 6 (.alloc [.int .i64 0,.int .i64 0,.sl true 5 []])::Q52) [1,2,4,5,6] Qav7
def Qav9:SC:=sR (fJ 16 2 2::lJ 17 16::nJ 18 17::mJ 19 1::aJ 20 Qzh [.t 18,.t 19]::Q51) [1,2,4,5] Qav8
def Qbfw:SC:=sR [vJ 2 0,eI 4 (.alloc [.int .i64 0,.int .i64 0,.sl true 5 []])] [1,2,4] Qav9
def Qauq:List RS:=[.cell 4 3 true]
theorem Qbeb:mFn prog Qvu 2 134 Qbfw Qauq=true:=by kernel_rfl
def Q5r:List Item:=[sJ 3 2 6]
def Q5s:List Item:=.chk 3 none (.ld 3 true (.t 1))::aJ 6 Qvu [.t 3,.t 5]::Q5r
def Qa1u:SC:=.seq (.dreg 5 [0,1,2,0,3,4] ( tJ 3 3 1::tJ 4 3 1::aJ 5 Qh2 [.t 4]::Q5s) [2]) .ret
def Qbft:SC:=sR [vJ 1 0,eI 2 (.alloc [.int .i64 0,.int .i64 0,.sl true 5 []])] [1,2] Qa1u
def Qaup:List RS:=[.cell 2 3 true]
theorem Qbd8:mFn prog Q3a 1 7 Qbft Qaup=true:=by kernel_rfl
def Q56:List Item:=[sJ 3 4 9]
def Q57:List Item:=[sJ 3 4 15]
def Q58:List Item:=.chk 12 none (.ld 3 true (.t 2))::aJ 15 Qvu [.t 12,.t 14]::Q57
def Qaww:List Item:=[sJ 3 4 19]
def Qawx:List Item:=[sJ 3 4 23]
def Qawy:List Item:=[sJ 3 4 27]
def Qawz:List Item:=[sJ 3 4 31]
def Qaw0:List Item:=[sJ 3 4 35]
def Qaw1:List Item:=[sJ 3 4 39]
def Qaw2:List Item:=[sJ 3 4 43]
def Qark:List Item:=[sJ 3 4 47]
def Qarl:List Item:=[sJ 3 4 51]
def Qawi:SC:=cT 48 (sR (tJ 50 3 2::aJ 51 Qa83 [.t 50]::Qarl) [4] .ret) .skip
def Qawj:SC:=cT 44 (sR (tJ 46 3 2::aJ 47 Qa84 [.t 46]::Qark) [4] .ret) (sR [fI 49 (.bin 0 .eql (.t 5) (.k (.c (.str [106,111,105,110])))),mJ 48 49] [2,4,48] Qawi)
def Qawk:SC:=cT 40 (sR (tJ 42 3 2::aJ 43 Qa82 [.t 42]::Qaw2) [4] .ret) (sR [fI 45 (.bin 0 .eql (.t 5) (.k (.c (.str [115,107,105,112])))),mJ 44 45] [2,4,5,44] Qawj)
def Qawl:SC:=cT 36 (sR (tJ 38 3 2::aJ 39 Qaz9 [.t 38]::Qaw1) [4] .ret) (sR [fI 41 (.bin 0 .eql (.t 5) (.k (.c (.str [101,118,101,110])))),mJ 40 41] [2,4,5,40] Qawk)
def Qawm:SC:=cT 32 (sR (tJ 34 3 2::aJ 35 Qaz8 [.t 34]::Qaw0) [4] .ret) (sR [fI 37 (.bin 0 .eql (.t 5) (.k (.c (.str [104,111,105,115,116])))),mJ 36 37] [2,4,5,36] Qawl)
def Qawn:SC:=cT 28 (sR (tJ 30 3 2::aJ 31 Qbdb [.t 30]::Qawz) [4] .ret) (sR [fI 33 (.bin 0 .eql (.t 5) (.k (.c (.str [115,104,97,114,101])))),mJ 32 33] [2,4,5,32] Qawm)
def Qawo:SC:=cT 24 (sR (tJ 26 3 2::aJ 27 Qatd [.t 26]::Qawy) [4] .ret) (sR [fI 29 (.bin 0 .eql (.t 5) (.k (.c (.str [107,110,111,119,110])))),mJ 28 29] [2,4,5,28] Qawn)
def Qawp:SC:=cT 20 (sR (tJ 22 3 2::aJ 23 Qa81 [.t 22]::Qawx) [4] .ret) (sR [fI 25 (.bin 0 .eql (.t 5) (.k (.c (.str [115,105,110,103,108,101])))),mJ 24 25] [2,4,5,24] Qawo)
def Qawq:SC:=cT 16 (sR (tJ 18 3 2::aJ 19 Qaz7 [.t 18]::Qaww) [4] .ret) (sR [fI 21 (.bin 0 .eql (.t 5) (.k (.c (.str [105,100,108,101])))),mJ 20 21] [2,4,5,20] Qawp)
def Qawr:SC:=cT 10 (.seq (.dreg 5 [0,1,2,0,3,4] ( tJ 12 3 2::tJ 13 3 2::aJ 14 Qhw [.t 13]::Q58) [4]) .ret) (sR [fI 17 (.bin 0 .eql (.t 5) (.k (.c (.str [115,112,108,105,116])))),mJ 16 17] [2,4,5,16] Qawq)
def Qaws:SC:=cT 6 (sR (tJ 8 3 2::aJ 9 Q3a [.t 8]::Q56) [4] .ret) (sR [fI 11 (.bin 0 .eql (.t 5) (.k (.c (.str [111,114,100,101,114])))),mJ 10 11] [2,4,5,10] Qawr)
def Qawt:SC:=.block 0 (sR [fI 7 (.bin 0 .eql (.t 5) (.k (.c (.str [114,101,97,99,104])))),mJ 6 7] [2,4,5,6] Qaws)
def Qarm:List Item:=[sJ 3 4 53]
def Qawu:SC:=sR (tJ 52 3 2::aJ 53 Qa0a [.t 52]::Qarm) [4] .ret
def Qawv:SC:=.seq (sR [mJ 5 1] [2,4,5] Qawt) Qawu
def Qbfx:SC:=sR [vJ 2 0,eI 4 (.alloc [.int .i64 0,.int .i64 0,.sl true 5 []])] [1,2,4] Qawv
def Qab3:List RS:=[.cell 4 3 true]
theorem Qat0:mFn prog Qkp 2 54 Qbfx Qab3=true:=by kernel_rfl
def Q5t:List Item:=[fB 5 false]
def Q5u:List Item:=[oJ 10 9]
def Q5v:List Item:=[fB 5 false]
def Qa1v:SC:=cT 10 (sR (fI 11 (.bld [.sl true 3 []] [])::sJ 1 4 11::Q5v) [4,5] .ret) .skip
def Q5w:List Item:=[sJ 1 6 12]
def Q5x:List Item:=[fJ 31 0 6,sJ 1 31 30]
def Q5y:List Item:=hJ 21 20::fI 29 (.bsl 3 [.t 28])::xJ 30 3 21 29::Q5x
def Qa1w:SC:=.reg [mJ 18 7,cJ 19 .add 18 1,mJ 7 19] [1,2,4,6,7]
def Qa1x:SC:=.seq (.block 1 (.dreg 13 [0,1,2,3,4,5,6,7,8,1,9,10,11,12] ( fJ 20 0 6::lJ 21 20::fJ 22 0 2::lJ 23 22::mJ 24 7::iJ 25 3 23 24::tJ 26 3 25::mJ 27 1::aJ 28 Qkp [.t 26,.t 27]::Q5y) [1,2,4,6,7])) Qa1w
def Qavl:SC:=.seq (sR [mJ 13 7,fJ 14 0 2,lJ 15 14,nJ 16 15,bJ 17 .lss 13 16] [1,2,4,6,7,17] (cT 17 .skip (.exit 0))) Qa1x
def Q14:List Item:=[oJ 34 33]
def Q15:List Item:=[fB 5 false]
def Qavf:SC:=cT 34 (sR (fI 35 (.bld [.sl true 3 []] [])::sJ 1 4 35::Q15) [4,5] .ret) .skip
def Q16:List Item:=[fB 5 true]
def Qavg:SC:=sR (tJ 36 1 6::sJ 1 4 36::Q16) [4,5] .ret
def Qavh:SC:=.seq .gh (.seq (sR (tJ 32 1 6::aJ 33 Qbx [.t 32]::Q14) [4,6,34] Qavf) Qavg)
def Qavi:SC:=.seq (sR [zJ 7 0] [1,2,4,6,7] (bL 0 Qavl)) Qavh
def Qavj:SC:=sR (fI 12 (.bld [.sl true 3 []] [])::eI 6 (.alloc [.sl true 3 []])::Q5w) [1,2,4,6] Qavi
def Qavk:SC:=.seq (sR (tJ 8 1 2::aJ 9 Qbx [.t 8]::Q5u) [1,2,4,10] Qa1v) Qavj
def Qbfu:SC:=sR (vJ 2 0::eI 4 (.alloc [.sl true 3 []])::Q5t) [1,2,4] Qavk
def Q09:List RS:=[.cell 4 1 true,.tmp 5]
theorem Qbd9:mFn prog Qvt 2 37 Qbfu Q09=true:=by kernel_rfl
end Go.AE.Y
namespace Go.AE.Y
attribute [local instance] Classical.propDecidable
variable {g:Nat→List Nat}{n:Nat}
theorem Rch.two {A:Nat→Prop}{a b z:Nat}(hab:a≠b)(h:Rch g A 0 z):Rch g (fun w=>w=a∨w=b) 0 z∨Rch g (fun w=>(w:Int)=b) 0 a∨Rch g (fun w=>(w:Int)=a) 0 b:=by
 induction h with
 |refl _=>
  by_cases ha:0=a
  ·subst ha;exact .inr (.inl (.refl fun hh=>hab (by omega)))
  ·by_cases hb:0=b
   ·subst hb;exact .inr (.inr (.refl fun hh=>hab (by omega)))
   ·exact .inl (.refl fun hh=>hh.elim ha hb)
 |@step y z h1 h2 h3 ih=>
  rcases ih with h|h
  ·by_cases ha:z=a
   ·subst ha;exact .inr (.inl (.step (h.mono fun w hw=>.inr (by omega)) h2 fun hh=>hab (by omega)))
   ·by_cases hb:z=b
    ·subst hb;exact .inr (.inr (.step (h.mono fun w hw=>.inl (by omega)) h2 fun hh=>hab (by omega)))
    ·exact .inl (.step h h2 fun hh=>hh.elim ha hb)
  ·exact .inr h
noncomputable def depL (n:Nat)(g:Nat→List Nat)(b:Nat):Nat:=((List.range n).filter fun a=>domB g a b).length
def Tree (n:Nat)(ids:List Int)(dp:Nat→Nat):Prop:=ids.length=n∧∀b,b<n→ids.getD b 0=-1∨∃a:Nat,ids.getD b 0=a∧a<n∧dp a<dp b
inductive Sub (ids:List Int)(b:Nat):Nat→Prop
 |refl:Sub ids b b
 |step {y x:Nat}:Sub ids b y→x<ids.length→ids.getD x 0=(y:Int)→Sub ids b x
variable {ids:List Int}{dp:Nat→Nat}
def Qbnr (ids:List Int)(b:Nat):List Nat:=(List.range ids.length).filter fun i=>decide (ids.getD i 0=(b:Int))
theorem kidsL_mem {b k:Nat}:k∈Qbnr ids b↔k<ids.length∧ids.getD k 0=(b:Int):=by simp[Qbnr]
theorem Sub.split {b x:Nat}(h:Sub ids b x):x=b∨∃k∈Qbnr ids b,Sub ids k x:=by
 induction h with
 |refl=>exact .inl rfl
 |@step y x h1 h2 h3 ih=>
  rcases ih with rfl|⟨k,hk,h⟩
  ·exact .inr ⟨x,kidsL_mem.2 ⟨h2,h3⟩,.refl⟩
  ·exact .inr ⟨k,hk,h.step h2 h3⟩
theorem Sub.lt {b x:Nat}(hb:b<ids.length)(h:Sub ids b x):x<ids.length:=by
 cases h with
 |refl=>exact hb
 |step _ h _=>exact h
def potW (n:Nat)(w:Nat→Nat)(U:Nat→Prop) [DecidablePred U]:Nat:=(((List.range n).filter fun x=>decide (U x)).map w).sum
end Go.AE.Y
namespace Go.AE.Y
attribute [local go_sem] cond_true cond_false Bool.not_true Bool.not_false
open Go.Proofs.Tryz
variable {H H0:Heap}{K:V→Heap→Prop}{E B Lg:List (Nat×Obj)}
theorem Qa0k {fl:Bool}{l:List Nat}(hl:l.length≤2 ^ 30)(hK:∀(fl':Bool) (k:List Nat) H',Upd H H' []→k.Pairwise (· < ·)→(∀x,x∈k↔x∈l)→K (.c (.sl false 1 (Qag k))) H') :
  Qo prog Qq0 [.c (.sl fl 1 (Qag l))] H K:=by
 refine Qu ?_;refine Qd Qai Qa0u ?_;refine Qa ?_;simp only[go_sem];refine Qa ?_;simp only[go_sem];refine Q5 ?_;refine Qa ?_;simp only[go_sem];refine Qh (Qf (Qw (fun m e1 H1=>∃(i:Nat) (fl':Bool) (ns:List Int),m=l.length-i∧i≤l.length∧ns.Pairwise (· < ·)∧(∀x,x∈ns↔∃y∈l.take i,(y:Int)=x)∧ns.length≤i∧Kn H H1 [] []∧
  lk 0 e1=.c (.sl fl 1 (Qag l))∧lk 3 e1=.c (.sl fl' 1 (Qb ns))∧lk 4 e1=.c (.int .i64 i)) l.length ?_ ?_))
 ·exact⟨0,_,[],by omega,by omega,by simp,by simp,by simp,Kn.start0 H,rfl,rfl,rfl⟩
 ·rintro m e1 H1 ⟨i,fl',ns,hm,hi,ha,hns,hnl,kn,l0,l3,l4⟩;refine Q5 ?_;refine Qa ?_;simp only[go_sem,l0,l3,l4,Qan];intro _;refine Qh (Qe rfl ?_ ?_)
  ·intro hc;have hlt:i<l.length:=by simpa using hc
   have hg:l.getD i 0=l[i]:=by simp[Jb,hlt]
   refine Qi ?_;try simp only[go_sem]
   refine Qh (Qf ?_);refine Qt ?_;simp only[go_sem,hlt,Qan,Qb4 _ _ hlt,hg];refine Qa9e ha (by omega) fun fl2 ns2 H2 hu ha2 hm2 hl2=>?_;have kn:=kn.call0 hu;simp only[go_sem,Qyt];refine Qt ?_;simp only[go_sem,X.next];refine⟨Qr (by omega) (by omega),l.length-(i+1),by omega,i+1,fl2,ns2,rfl,by omega,ha2,fun x=>?_,by omega,kn,?_⟩
   ·rw[hm2,hns,Jf hlt];constructor
    ·rintro (rfl|⟨y,hy,rfl⟩)
     ·exact⟨l[i],Js _ (Ja.2 rfl),rfl⟩
     ·exact⟨y,Ji _ hy,rfl⟩
    ·rintro⟨y,hy,rfl⟩;rcases Je.1 hy with hy|hy
     ·exact .inr ⟨y,hy,rfl⟩
     ·simp only[Ja]at hy;rw[hy];exact .inl rfl
   ·first|exact⟨rfl,rfl,rfl⟩|exact rfl|trivial
  ·intro hc;have hge:l.length≤i:=by simpa using hc
   rw[Jc hge]at hns;have hk:ns=(ns.map Int.toNat).map Int.ofNat:=by
    rw[Jbn]
    conv=>lhs;rw[←Jbp ns]
    refine Jaz fun x hx=>?_;obtain⟨y,_,rfl⟩:=(hns x).1 hx;simp
   have hko:Qb ns=Qag (ns.map Int.toNat):=by (conv=>lhs;rw[hk]);rfl
   refine Qv ?_;simp only[go_sem,X.next];refine Qa ?_;simp only[go_sem,l3,hko];refine Qk ?_;simp only[go_sem,Qz,Q8,Qab2,Ja,forall_eq,RS.op];refine⟨_,.c _ _ (FrzR.same (Qmx _)).sl,hK true (ns.map Int.toNat) _ kn.fin ?_ fun x=>?_⟩
   ·rw[hk,Jbb]at ha;exact ha.imp fun h=>by simpa using h
   ·rw[Jt];constructor
    ·rintro⟨v,hv,rfl⟩;obtain⟨y,hy,rfl⟩:=(hns v).1 hv;simpa using hy
    ·exact fun h=>⟨(x:Int),(hns _).2 ⟨x,h,rfl⟩,by simp⟩
set_option maxHeartbeats 1000000 in
theorem Qaba {p rg:Int}{fl:Bool}{rows:List (List C)}{nx:Nat→List Int}(hg:GF rows nx)(hf:Qev rows.length nx=true)
  (hK:∀(S:List Bool) (o:List Nat) H',Upd H H' []→Dfs (nxN nx) [0] (List.replicate rows.length false) [] S o→K (.c (.sl false 1 (Qag o.reverse))) H') :
  Qo prog Qhw [.ag [.int .i64 p,.int .i64 rg,.sl fl 5 rows]] H K:=by
 have hn:=hg.n;have hn0:=Qkn hf;have hyb:∀(y:Nat) l a b d,C.sl fl 5 rows=.vsl l a b d→l≠y:=by intro y l a b d h;cases h
 refine Qu ?_;refine Qd Qai Qa9j ?_;refine Qa ?_;simp only[go_sem];refine Qad ?_;simp only[go_sem,Qkk];try intro _
 refine⟨by simp only[LIM];omega,fun al hal H1 h1=>?_⟩;have kn:Kn H H1 [] ([(al,.vec 1 (Qav (List.replicate rows.length false)))]++[]):=(Kn.start0 H).al hal h1;simp only[go_sem,Q18];refine Qa9d (F:=H1) hf (by omega) (hg.grd H1 fl) (hyb al) rows.length 0 (List.replicate rows.length false) [] (.sl true 1 []) [] H1 _ (by simp) (by omega) hn0 (Qab _ _) kn.mid (.nil 1) (by simp) fun S o oc Lg0 H2 hd k2 hgo=>?_;have kn:Kn H H2 [] ([(al,.vec 1 (Qav S))]++Lg0):=by
  have:=(kn.comp k2 rfl);simpa using this
 have how:=hgo.isOw;have hsz:=hgo.elemSz;have hlen:=hgo.lenC;rw[Qan]at hlen;have hgl:∀x,x<(List.replicate rows.length false).length→∀y∈nxN nx x,y<(List.replicate rows.length false).length:=by
  rw[Jn];exact fun x hx y hy=>Qxj hf hx hy
 have hx0:∀x∈[0],x<(List.replicate rows.length false).length:=by rw[Jn];simpa using hn0
 have hol:o.length≤rows.length:=by
  have h1:=hd.count hgl hx0;have h2:=Q0l S;rw[hd.len,Jn]at h2;simp only[Jr]at h1;omega
 simp only[go_sem,Q17,how];refine Qa ?_;simp only[go_sem,how];refine Q5 ?_;refine Qa ?_;have hok0:=eq_true (hgo.get kn).1;simp only[go_sem,how,hok0,hlen];try intro _
 refine⟨Qr (by omega) (by omega),?_⟩;refine Qh (Qf (Qw (fun m e1 H1=>∃(k:Nat) (r:List Nat) (t:C) (Lg:List (Nat×Obj)),m=k∧k≤o.length∧r.length+k=o.length∧r=(o.drop k).reverse∧Gr Lg 1 (Qag r) t∧Kn H H1 [] (([(al,.vec 1 (Qav S))]++Lg0)++Lg)∧
  lk 3 e1=.c oc∧lk 4 e1=.c t∧lk 5 e1=.c (.int .i64 ((k:Int)-1))) o.length ?_ ?_))
 ·exact⟨o.length,[],_,[],rfl,by omega,by simp,by simp,.nil 1,by simpa using kn,rfl,rfl,rfl⟩
 ·clear kn hok0;rintro m e1 H3 ⟨k,r,t,Lg,rfl,hk,hrl,hrm,hgr,kn,l3,l4,l5⟩;have htw:=hgr.isOw;have hok0:=eq_true (hgo.get kn.drop).1;have hrw:=(hgo.get kn.drop).2;refine Q5 ?_;refine Qa ?_;simp only[go_sem,l3,l4,l5,htw,how];refine Qh (Qe rfl ?_ ?_)
  ·intro hc;have hge:(0:Int)≤(m:Int)-1:=by simpa using hc
   obtain⟨k,rfl⟩:∃k,m=k+1:=⟨m-1,by omega⟩;have ek:((k+1:Nat):Int)-1=(k:Int):=by omega
   have hlt:k<o.length:=by omega
   have hgd:o.getD k 0=o[k]:=by simp[Jb,hlt]
   rw[ek];refine Qi ?_;try simp only[go_sem]
   refine Qh (Qf ?_);refine Qt ?_;simp only[go_sem,htw,how,hok0,hlen,hsz,hrw,hlt,Qan,Qb4 _ _ hlt,hgd];refine kn.growR (new:=Qag [o[k]]) hgr (.mk' _ _ _ _) (Qmx _) (by simp only[Qan,LIM,Jp,Jr];omega) fun t2 Lg2 H4 hgr2 ht2 kn=>?_;simp only[go_sem,Q19,how,ht2];refine Qt ?_;simp only[go_sem,X.next,how,ht2];refine⟨Qr (by omega) (by omega),k,by omega,k,r++[o[k]],t2,Lg2,rfl,by omega,by simp only[J2,Jp,Jr];omega,?_,?_,kn,?_⟩
   ·rw[hrm,Jai hlt,List.reverse_cons]
   ·rw[Qa9t];exact hgr2
   ·first|exact⟨rfl,rfl,rfl⟩|exact rfl|trivial
  ·intro hc;have hk0:m=0:=by have:¬(0:Int)≤(m:Int)-1:=(by simpa using hc);omega
   subst hk0;refine Qv ?_;simp only[go_sem,X.next];refine Qa ?_;simp only[go_sem,l4,htw];refine Qk ?_;simp only[go_sem,Qz,Q8,Qan3,Ja,forall_eq,RS.op,htw];rw[Jac]at hrm;subst hrm;exact⟨_,.c _ _ (hgr.frz kn (Qmx _)),hK S o _ kn.fin hd⟩
theorem Qa89 {p rg:Int}{fl:Bool}{rows:List (List C)}{nx:Nat→List Int}(hg:GF rows nx)(hf:Qev rows.length nx=true)
  (hK:∀(o:List Nat) H',Upd H H' []→o.length≤rows.length→(∀x,x∈o↔x<rows.length∧Q7u (nxN nx) (-1) x=true)→K (.c (.sl false 1 (Qag o))) H') :
  Qo prog Qhw [.ag [.int .i64 p,.int .i64 rg,.sl fl 5 rows]] H K:=by
 have hn0:=Qkn hf;refine Qaba hg hf fun S o H' hu hd=>?_;have hgl:∀x,x<(List.replicate rows.length false).length→∀y∈nxN nx x,y<(List.replicate rows.length false).length:=by
  rw[Jn];exact fun x hx y hy=>Qxj hf hx hy
 have hx0:∀x∈[0],x<(List.replicate rows.length false).length:=by rw[Jn];simpa using hn0
 have hmem:∀x,x∈o↔x<rows.length∧Q7u (nxN nx) (-1) x=true:=fun x=>by
  rw[hd.list hgl hx0 (Qab _),Qa8j hf hd,inL];by_cases hx:x<rows.length
  ·rw[Qaiu _ _ hx];simp[hx]
  ·rw[Jb,Jj (by simpa using hx)];simp[hx]
 have hol:o.length≤rows.length:=by
  have h1:=hd.count hgl hx0;have h2:=Q0l S;rw[hd.len,Jn]at h2;simp only[Jr]at h1;omega
 exact hK o.reverse H' hu (by rw[List.length_reverse];exact hol) fun x=>by rw[List.mem_reverse,hmem]
noncomputable def rchL (n:Nat)(g:Nat→List Nat):List Nat:=(List.range n).filter (Q7u g (-1))
theorem Qasp {p rg:Int}{fl:Bool}{rows:List (List C)}{nx:Nat→List Int}(hg:GF rows nx)(hf:Qev rows.length nx=true)
  (hK:∀H',Upd H H' []→K (.c (.sl false 1 (Qag (rchL rows.length (nxN nx))))) H') :
  Qo prog Qh2 [.ag [.int .i64 p,.int .i64 rg,.sl fl 5 rows]] H K:=by
 have hn:=hg.n;refine Qu ?_;refine Qd Qai Qair ?_;refine Qa ?_;simp only[go_sem];refine Q5 ?_;refine Qa ?_;simp only[go_sem];refine Qbdv (hg.grd H fl) ?_;simp only[go_sem,Qlz,hf];refine Qh (Qe rfl (fun h=>by simp at h) (fun _=>?_));refine Qi ?_;try simp only[go_sem]
 refine Qa ?_;simp only[go_sem];refine Qa89 hg hf fun o H1 hu hol hom=>?_;have kn:=(Kn.start0 H).call0 hu;simp only[go_sem,Ql1];refine Qa0k (by omega) fun _ k H2 hu ha hk=>?_;have kn:=kn.call0 hu;simp only[go_sem,Ql0];have e:k=rchL rows.length (nxN nx):=Qas3 ha fun x=>by rw[hk,hom]
 refine Qk ?_;simp only[go_sem,Qz,Q8,Qxv,Ja,forall_eq,RS.op];rw[e];exact⟨_,.c _ _ (FrzR.same (Qmx _)).sl,hK _ kn.fin⟩
theorem Qao5 (n:Nat)(v:Int):List.replicate n [C.int .i64 v]=Qb (List.replicate n v):=by simp[Qb]
theorem Qv2 (l:List Int)(i:Nat)(v:Int):(Qb l).set i [C.int .i64 v]=Qb (l.set i v):=by simp[Qb,Jau]
def Q24 (n:Nat)(l:List Nat)(P:List Int):Prop:=P.length=n∧∀x∈l,∃i,∃h:i<l.length,l[i]=x∧P.getD x 0=(i:Int)
set_option maxHeartbeats 1000000 in
theorem Qa9a {n:Nat}{fl:Bool}{l:List Nat}(hn:n≤1000000)(hl:l.length≤1000000)(hx:∀x∈l,x<n)(hK:∀P H',Q24 n l P→Upd H H' []→K (.c (.sl false 1 (Qb P))) H') :
  Qo prog Qzh [.c (.int .i64 n),.c (.sl fl 1 (Qag l))] H K:=by
 refine Qu ?_;refine Qd Qai Qa9k ?_;refine Qa ?_;simp only[go_sem];refine Qa ?_;simp only[go_sem];refine⟨by simp only[LIM];omega,fun y hy H1 h1=>?_⟩;rw[Qao5]at h1;have kn:=(Kn.start0 H).al hy h1;simp only[go_sem,Q2e];refine Q5 ?_;refine Qa ?_;simp only[go_sem];refine Qh (Qf (Qw (fun m e1 H1=>∃(i:Nat) (P:List Int),m=n-i∧i≤n∧P.length=n∧Kn H H1 [] [(y,.vec 1 (Qb P))]∧
  lk 0 e1=.c (.int .i64 n)∧lk 1 e1=.c (.sl fl 1 (Qag l))∧lk 5 e1=.c (.vsl y 1 0 n)∧lk 6 e1=.c (.int .i64 i)) n ?_ ?_))
 ·exact⟨0,List.replicate n 0,by omega,by omega,by simp,kn,rfl,rfl,rfl,rfl⟩
 ·clear kn h1;rintro m e1 H2 ⟨i,P,hm,hi,hP,kn,l0,l1,l5,l6⟩;have hy:=kn.l 0 rfl;have htk:(Qb P).take n=Qb P:=Jc (by rw[Qc];omega);refine Q5 ?_;refine Qa ?_;simp only[go_sem,l0,l1,l5,l6];refine Qh (Qe rfl ?_ ?_)
  ·intro hc;have hlt:i<n:=by simpa using hc
   refine Qi ?_;try simp only[go_sem]
   refine Qh (Qf ?_);have hltP:i<P.length:=by omega
   refine Qt ?_;simp only[go_sem,hy,hlt,Qc,hP,Qm _ _ hltP,Qv2,Jw,Jk];intro H3 h3;have kn:=kn.stL 0 rfl h3;refine Qt ?_;simp only[go_sem,X.next];refine⟨Qr (by omega) (by omega),n-(i+1),by omega,i+1,_,rfl,by omega,by rw[Jq];exact hP,kn,?_⟩
   first|exact⟨rfl,rfl,rfl,rfl⟩|exact rfl|trivial
  ·intro hc;refine Qv ?_;simp only[go_sem,X.next];refine Q5 ?_;refine Qa ?_;simp only[go_sem,l0,l1,l5,l6];refine Qh (Qf (Qw (fun m e1 H1=>∃(j:Nat) (P:List Int),m=l.length-j∧j≤l.length∧P.length=n∧(∀x∈l.take j,∃i,∃h:i<l.length,l[i]=x∧P.getD x 0=(i:Int))∧Kn H H1 [] [(y,.vec 1 (Qb P))]∧
    lk 1 e1=.c (.sl fl 1 (Qag l))∧lk 5 e1=.c (.vsl y 1 0 n)∧lk 7 e1=.c (.int .i64 j)) l.length ?_ ?_))
   ·exact⟨0,P,by omega,by omega,hP,by simp,kn,rfl,rfl,rfl⟩
   ·clear kn hy htk hP;clear P;rintro m e1 H3 ⟨j,P,hm,hj,hP,hpl,kn,l1,l5,l7⟩;have hy:=kn.l 0 rfl;refine Q5 ?_;refine Qa ?_;simp only[go_sem,l1,l5,l7,Qan];intro _;refine Qh (Qe rfl ?_ ?_)
    ·intro hc;have hlt:j<l.length:=(by simpa using hc);have hgd:l.getD j 0=l[j]:=(by simp[Jb,hlt]);have hxn:=hx _ (Jd hlt);have hxP:l[j]<P.length:=(by omega);refine Qi ?_;try simp only[go_sem]
     refine Qh (Qf ?_);refine Qt ?_;simp only[go_sem,hy,hlt,Qan,Qb4 _ _ hlt,hgd,hxn,Qc,hP,Qm _ _ hxP,Qv2,Jw,Jk];intro H4 h4;have kn:=kn.stL 0 rfl h4;refine Qt ?_;simp only[go_sem,X.next];refine⟨Qr (by omega) (by omega),l.length-(j+1),by omega,j+1,_,rfl,by omega,by rw[Jq];exact hP,fun x hxm=>?_,kn,?_⟩
     ·by_cases hxe:x=l[j]
      ·refine⟨j,hlt,hxe.symm,?_⟩;rw[hxe,Jb,List.getElem?_set_self hxP];rfl
      ·rw[Jf hlt]at hxm;rcases Je.1 hxm with h|h
       ·obtain⟨i,hi,h1,h2⟩:=hpl x h;refine⟨i,hi,h1,?_⟩;rw[Jb,Jaw (fun h=>hxe h.symm),←Jb];exact h2
       ·exact absurd (Ja.1 h) hxe
     ·first|exact⟨rfl,rfl,rfl⟩|exact rfl|trivial
    ·intro hc;have hge:l.length≤j:=(by simpa using hc);rw[Jc hge]at hpl;refine Qv ?_;simp only[go_sem,X.next];refine Qa ?_;simp only[go_sem,l5];refine Qk ?_;simp only[go_sem,Qz,Q8,Qan4,Ja,forall_eq,RS.op];exact⟨_,.c _ _ ((FrzR.same (Qn _)).vsl (kn.un 0 rfl) hy (by rw[Qc,hP])),hK P _ ⟨hP,hpl⟩ kn.fin⟩
def kidsN (ids:List Int)(b n:Nat):List Nat:=(List.range n).filter fun i=>decide (ids.getD i 0=(b:Int))
end Go.AE.Y
namespace Go.AE.Y
open Go.Proofs.Tryz
variable {H:Heap}{K:V→Heap→Prop}
theorem Qbdo {op:Int}(hK:K (.c (.bool (decide (1≤op)&&decide (op≤14)))) H):Qo prog Qme [.c (.int .i64 op)] H K:=by
 refine Qd Qai Qa9i ?_;refine Qa ?_;simp only[go_sem];refine Qa ?_;simp only[go_sem];refine Qcy ?_;simp only[go_sem,Q11];refine Qk ?_;simp only[go_sem,Qz,Q8,Qan2,Ja,forall_eq,RS.op];exact hK
theorem Qa60 {n:Int}(hK:K (.c (.bool (decide (0≤n)&&decide (n≤255)))) H):Qo prog Qi3 [.c (.int .i64 n)] H K:=by
 refine Qd Qai Qa0n ?_;refine Qa ?_;simp only[go_sem];refine Qa ?_;simp only[go_sem];refine Qcy ?_;simp only[go_sem,Qx7];refine Qk ?_;simp only[go_sem,Qz,Q8,Qabt,Ja,forall_eq,RS.op];exact hK
theorem Qbg4 {op:Int}(hK:K (.c (.bool (Qh3 op))) H):Qo prog Qvr [.c (.int .i64 op)] H K:=by
 refine Qd Qai Qbd6 ?_;refine Qa ?_;simp only[go_sem];refine Qa ?_;simp only[go_sem];refine Qbdo ?_;simp only[go_sem,Q5n];refine Qk ?_;simp only[go_sem,Qz,Q8,Qauo,Ja,forall_eq,RS.op];have:∀a b c:Bool,(bif bif a then b else false then c else false)=(a&&b&&c):=by decide
 rw[this];have e:(decide (1≤op)&&decide (op≤14))=decide (1≤op∧op≤14):=by simp
 rw[e];exact hK
theorem Qast {j:Int}(hK:K (.c (.bool (decide (j=2) || decide (j=3)))) H):Qo prog Qi5 [.c (.int .i64 j)] H K:=by
 refine Qd Qai Qa0r ?_;refine Qa ?_;simp only[go_sem];refine Qa ?_;simp only[go_sem];refine Qk ?_;simp only[go_sem,Qz,Q8,Qabx,Ja,forall_eq,RS.op];have:∀a b:Bool,(bif a then true else b)=(a || b):=by decide
 first|(rw[this];exact hK)|exact hK
theorem Qa04 {j:Int}(hK:K (.c (.int .i64 (Qky j))) H):Qo prog Qhv [.c (.int .i64 j)] H K:=by
 refine Qd Qai Qail ?_;have retf:∀(n:Int) (e:Env),Qky j=n→lk 2 e=.c (.int .i64 n)→Qz Qka K .ret e H:=by
  intro b e h1 h3;simp only[go_sem,Qz,Q8,Qka,Ja,forall_eq,RS.op,h3];rw[←h1];exact hK
 refine Qa ?_;simp only[go_sem];refine Q5 ?_;refine Qa ?_;simp only[go_sem];refine Qh (Qf ?_);refine Qa ?_;simp only[go_sem];refine Qe rfl ?_ ?_
 ·intro hc;refine Qa ?_;simp only[go_sem];refine Qk ?_;simp only[go_sem];exact retf 1 _ (by simp at hc;simp[Qky,hc]) (by simp[lk])
 intro hc1;refine Qa ?_;simp only[go_sem];refine Qe rfl ?_ ?_
 ·intro hc;refine Qa ?_;simp only[go_sem];refine Qk ?_;simp only[go_sem];exact retf 2 _ (by simp at hc;simp[Qky,hc]) (by simp[lk])
 intro hc2;refine Qa ?_;simp only[go_sem];refine Qe rfl ?_ ?_
 ·intro hc;refine Qa ?_;simp only[go_sem];refine Qk ?_;simp only[go_sem];exact retf 0 _ (by simp at hc;simp[Qky,hc]) (by simp[lk])
 ·intro hc;refine Qi ?_;simp only[go_sem];refine Qa ?_;simp only[go_sem];refine Qk ?_;exact retf (-1) _ (by simp at hc hc1 hc2;simp[Qky,hc,hc1,hc2]) (by simp[lk])
def Qas1 (op:Int):Int:=if op=1 then 0 else if op=2∨op=10∨op=11∨op=13 then 1 else 2
theorem Qbdn {op:Int}(hK:K (.c (.int .i64 (Qas1 op))) H):Qo prog Qmd [.c (.int .i64 op)] H K:=by
 refine Qd Qai Qatw ?_;have retf:∀(n:Int) (e:Env),Qas1 op=n→lk 2 e=.c (.int .i64 n)→Qz Qje K .ret e H:=by
  intro b e h1 h3;simp only[go_sem,Qz,Q8,Qje,Ja,forall_eq,RS.op,h3];rw[←h1];exact hK
 refine Qa ?_;simp only[go_sem];refine Q5 ?_;refine Qa ?_;simp only[go_sem];refine Qh (Qf ?_);refine Qa ?_;simp only[go_sem];refine Qe rfl ?_ ?_
 ·intro hc;refine Qa ?_;simp only[go_sem];refine Qk ?_;simp only[go_sem];exact retf 0 _ (by simp at hc;simp[Qas1,hc]) (by simp[lk])
 intro hc1;have fin:∀(b:Bool) (e:Env),b=decide (op=2∨op=10∨op=11∨op=13)→lk 6 e=.c (.bool b)→Qae prog Qx5 (X.inBlock 0 (X.sq prog Qx6 (Qz Qje K))) e H:=by
  intro b e hb l6;refine Qe l6 ?_ ?_
  ·intro hc;refine Qa ?_;simp only[go_sem];refine Qk ?_;simp only[go_sem];exact retf 1 _ (by rw[hc]at hb;have:=of_decide_eq_true hb.symm;simp at hc1;rw[Qas1,if_neg hc1,if_pos this]) (by simp[lk])
  ·intro hc;refine Qi ?_;simp only[go_sem];refine Qa ?_;simp only[go_sem];refine Qk ?_;exact retf 2 _ (by rw[hc]at hb;have:=of_decide_eq_false hb.symm;simp at hc1;rw[Qas1,if_neg hc1,if_neg this]) (by simp[lk])
 refine Q5 ?_;refine Qa ?_;simp only[go_sem];refine Qh (Qe rfl ?_ ?_)
 ·intro hc;refine Qi ?_;simp only[go_sem];exact fin true _ (decide_eq_true (.inl (of_decide_eq_true hc))).symm (by simp[lk];exact of_decide_eq_true hc)
 intro hc2;refine Qa ?_;simp only[go_sem];refine Qe rfl ?_ ?_
 ·intro hc;refine Qi ?_;simp only[go_sem];exact fin true _ (decide_eq_true (.inr (.inl (of_decide_eq_true hc)))).symm (by simp[lk];exact of_decide_eq_true hc)
 intro hc3;refine Qa ?_;simp only[go_sem];refine Qe rfl ?_ ?_
 ·intro hc;refine Qi ?_;simp only[go_sem];exact fin true _ (decide_eq_true (.inr (.inr (.inl (of_decide_eq_true hc))))).symm (by simp[lk];exact of_decide_eq_true hc)
 intro hc4;refine Qt ?_;simp only[go_sem];refine fin (decide (op=13)) _ ?_ (by simp[lk]);have a2:=of_decide_eq_false hc2;have a3:=of_decide_eq_false hc3;have a4:=of_decide_eq_false hc4;simp[a2,a3,a4]
theorem Qazn {l:List BlkD}(hf:∀b∈l,b.ins.length≤2 ^ 38∧b.phis.length≤2 ^ 38):Qf6 Qxg l≤l.length * 549755813888:=by
 induction l with
 |nil=>simp[Qf6]
 |cons y l ih=>
  have h1:=hf y Jm;have h2:=ih fun b hb=>hf b (Jh _ hb);simp only[Qf6,J3,Ja6,Qxg,Jp]at *;omega
set_option maxHeartbeats 1000000 in
theorem Qaz1 {q:CodeD}{fl:Bool}(hf:q.fits)(hb:q.blocks.length≤160)(hK:∀H',Upd H H' []→K (.c (.int .i64 (Qqt q))) H') :
  Qo prog Qhq [.ag [.int .i64 q.params,.int .i64 q.regs,.sl fl 5 (Qs q.blocks)]] H K:=by
 refine Qu ?_;refine Qd Qai Qaig ?_;have hsb:=Qazn hf;refine Qa ?_;simp only[go_sem];refine Qa ?_;simp only[go_sem];refine Q5 ?_;refine Qa ?_;simp only[go_sem,Qp];intro _;refine Qh (Qf (Qw (fun m e1 H1=>∃(i:Nat),m=q.blocks.length-i∧i≤q.blocks.length∧Kn H H1 [] []∧
  e1=[(3,.c (.int .i64 (Qf6 Qxg (q.blocks.take i):Nat))),(7,.c (.sl fl 5 (Qs q.blocks))),(8,.c (.int .i64 q.blocks.length)),(9,.c (.int .i64 i))]) q.blocks.length ?_ ?_))
 ·exact⟨0,by omega,by omega,Kn.start0 H,rfl⟩
 ·rintro m e1 H1 ⟨i,hm,hi,kn,rfl⟩;refine Qa ?_;simp only[go_sem];refine Qh (Qe rfl ?_ ?_)
  ·intro hc;have hlt:i<q.blocks.length:=by simpa using hc
   have hbf:=hf _ (Jd hlt);have hss:=Qb8 (f:=Qxg) hlt;have hle:=Qa6e (f:=Qxg) (l:=q.blocks) (i+1);have hcy:Qxg q.blocks[i]=q.blocks[i].ins.length+q.blocks[i].phis.length:=rfl;have hmul:q.blocks.length * 549755813888≤160 * 549755813888:=Jap _ hb;refine Qi ?_;simp only[go_sem];refine Qh (Qf ?_);refine Qa ?_;simp only[go_sem,hlt,Qp,Qa6 _ _ hlt,BlkD.cells];intro x5 hx5 H2 h2;have kn:=kn.al hx5 h2;have hx5:=kn.l 0 rfl;simp only[go_sem,Qln,hx5];intro H3 h3;have kn:Kn H H3 [] ([]++[(x5,.st [.sl false 2 (Q2 q.blocks[i].phis),.sl false 4 (Qaw q.blocks[i].ins),.int .i64 q.blocks[i].jump,.int .i64 q.blocks[i].on,.sl false 1 (Qb q.blocks[i].next)])]):=kn.stL 0 rfl h3;have hx5:=kn.l 0 rfl;refine Qt ?_;simp only[go_sem,hx5,Qay,Qy];intro _ _;refine⟨Qr (by omega) (by omega),Qr (by omega) (by omega),?_⟩;refine Qt ?_;simp only[go_sem,X.next];refine⟨Qr (by omega) (by omega),q.blocks.length-(i+1),by omega,i+1,rfl,by omega,kn.drop,?_⟩;rw[hss,hcy];have:((Qf6 Qxg (q.blocks.take i):Nat):Int)+((q.blocks[i].phis.length:Int)+q.blocks[i].ins.length)=((Qf6 Qxg (q.blocks.take i)+(q.blocks[i].ins.length+q.blocks[i].phis.length):Nat):Int):=by omega
   rw[this];rfl
  ·intro hc;have hge:q.blocks.length≤i:=by simpa using hc
   refine Qv ?_;simp only[go_sem,X.next];refine Qa ?_;simp only[go_sem];refine Qk ?_;simp only[go_sem,Qz,Q8,Qxn,Ja,forall_eq,RS.op];rw[Jc hge];exact⟨_,.c _ _ (Qg rfl),hK _ kn.fin⟩
theorem Qanq {x7:Nat}{q:CodeD}{v:Int}(h7:H x7=.st q.cells)(hr:-(2^62)≤q.regs)(hr2:q.regs≤2^62)(hK:K (.c (.bool (decide (0≤v∧v≤q.regs-1)))) H) :
  Qo prog Qda [.c (.int .i64 v),.c (.ptr x7 0)] H K:=by
 refine Qd Qai Qapf ?_;refine Qa ?_;simp only[go_sem];refine Qa ?_;simp only[go_sem,h7,CodeD.cells];refine⟨Qr (by omega) (by omega),?_⟩;refine Qcy ?_;simp only[go_sem,Qn9];refine Qk ?_;simp only[go_sem,Qz,Q8,Q06,Ja,forall_eq,RS.op];have e:(decide (0≤v)&&decide (v≤q.regs-1))=decide (0≤v∧v≤q.regs-1):=by simp
 rw[e];exact hK
theorem Qa86 {x7 x8:Nat}{q:CodeD}{v:Int}(h7:H x7=.st q.cells)(h8:H x8=.st [.fn Qda [.ptr x7 0]])(hr:-(2^62)≤q.regs)(hr2:q.regs≤2^62)(hK:K (.c (.bool (!decide (0≤v∧v≤q.regs-1)))) H) :
  Qo prog Qjw [.c (.int .i64 v),.c (.ptr x8 0)] H K:=by
 refine Qd Qai Qapg ?_;refine Qa ?_;simp only[go_sem];refine Qa ?_;simp only[go_sem,h8,Jaa,J6,J3,Jae];refine Qanq h7 hr hr2 ?_;simp only[go_sem,Qoa];refine Qk ?_;simp only[go_sem,Qz,Q8,Q07,Ja,forall_eq,RS.op];exact hK
theorem Qaz0 (p:Int→Bool)(l:List Int):(l.any fun x=>!p x) = !l.all p:=by
 induction l with
 |nil=>rfl
 |cons x l ih=>simp only[List.any_cons,Jbl,ih];cases p x <;> simp
set_option maxHeartbeats 1000000 in
theorem Qbnj {cs:List CodeD}{fl:Bool}{k:Nat}{x:InsD}(hk:k<cs.length)(hr:0≤cs[k].regs)(hr2:cs[k].regs≤300)(hcl:cs.length≤100)(hK:∀(H':Heap),Upd H H' []→K (.c (.bool (Q42 cs k x))) H') :
  Qo prog Qzg [.ag [.sl fl 3 (Ql cs)],.c (.int .i64 k),.ag x.cells] H K:=by
 refine Qu ?_;refine Qd Qai Qa9h ?_;refine Qa ?_;simp only[go_sem,InsD.cells];refine Qa ?_;simp only[go_sem,hk,Q3,Qal _ _ hk,CodeD.cells];intro x7 hx7 H1 h1;have kn:=(Kn.start0 H).al hx7 h1;have hx7:=kn.l 0 rfl;simp only[go_sem,Q1y,hx7];intro H2 h2;have kn:=kn.stL 0 rfl h2;refine Qa ?_;simp only[go_sem];intro x8 hx8 H3 h3;have kn:=kn.al hx8 h3;have hx8:=kn.l 1 rfl;simp only[go_sem,Q1z,hx8];intro H4 h4;have kn:Kn H H4 [] [(x7,.st cs[k].cells),(x8,.st [.fn Qda [.ptr x7 0]])]:=kn.stL 1 rfl h4;have h7:H4 x7=.st cs[k].cells:=kn.l 0 rfl;have h8:=kn.l 1 rfl;have hrg:=Qrq hk;have retf:∀(b:Bool) (e:Env),Q42 cs k x=b→lk 6 e=.c (.bool b)→Qz Qk3 (unK H K) .ret e H4:=by
  intro b e h1 h3;simp only[go_sem,Qz,Q8,Qk3,Ja,forall_eq,RS.op,h3];rw[←h1];exact⟨_,.c _ _ (Qg rfl),hK _ kn.fin⟩
 refine Q5 ?_;refine Qa ?_;simp only[go_sem];refine Qbdo ?_;simp only[go_sem,Q10];have rest2:∀(E1:Env) (b:Bool),insH cs[k].regs x=true→insT cs[k].regs x=(!b)→lk 1 E1=.c (.int .i64 k)→lk 3 E1=.c (.pp [.sl fl 3 (Ql cs)])→lk 5 E1=.c (.pp [.int .i64 x.op,.int .i64 x.to,.sl false 1 (Qb x.args),.int .i64 x.n])→lk 45 E1=.c (.bool b)→
   Qae prog (s_im_insOk_8.seq Q1w) (Qz Qk3 (unK H K)) E1 H4:=by
  intro E1 b hb1 hb2 l1 l3 l5 l45;refine Qh (Qe l45 ?_ ?_)
  ·intro hc;refine Qa ?_;simp only[go_sem];refine Qk ?_;simp only[go_sem];exact retf false _ (by rw[Q42,hrg,hb2,hc];simp) (by simp[lk])
  intro hc;rw[hc]at hb2;have hG:Q42 cs k x=insL cs k x:=by rw[Q42,hrg,hb1,hb2];rfl
  have hop14:1≤x.op∧x.op≤14:=by
   simp only[insH,Jl,decide_eq_true_eq]at hb1;exact hb1.1
  refine Qi ?_;simp only[go_sem];refine Q5 ?_;refine Qa ?_;simp only[go_sem,l1,l3,l5];refine Qh (Qf ?_);refine Qa ?_;simp only[go_sem];refine Qe rfl ?_ ?_
  ·intro hc;have hop:x.op=1:=of_decide_eq_true hc;have hL:insL cs k x=(decide ((x.args.length:Int)=0)&&(decide (0≤x.n)&&decide (x.n≤255))):=by
    rw[insL,if_neg (by omega)];simp[Qhk,hop]
   refine Qa ?_;simp only[go_sem,Qc];intro _;refine⟨fun hb=>?_,fun hb=>?_⟩
   ·refine Qa60 ?_;simp only[go_sem,Qm9];refine Qk ?_;simp only[go_sem];refine retf _ _ ?_ (by simp[lk];rfl);have hb':x.args=[]:=List.length_eq_zero_iff.1 (by have:=of_decide_eq_true hb;omega);rw[hG,hL];simp[hb']
   ·simp only[go_sem,Qm9,hb];refine Qk ?_;simp only[go_sem];exact retf false _ (by rw[hG,hL,hb];rfl) (by simp[lk])
  intro hc1;have hop1:¬x.op=1:=of_decide_eq_false hc1;refine Qa ?_;simp only[go_sem];refine Qe rfl ?_ ?_
  ·intro hc;have hop:x.op=14:=of_decide_eq_true hc;rw[insL,if_pos hop]at hG;refine Qad ?_;simp only[go_sem];refine⟨Qr (by omega) (by omega),?_⟩;refine Qcy ?_;by_cases hin:0≤x.n∧x.n≤(k:Int)-1
   ·obtain⟨m,hm⟩:=Int.eq_ofNat_of_zero_le hin.1;have hmk:m<cs.length:=(by omega);have h1:(0≤(m:Int))=True:=eq_true (by omega);have h2:((m:Int)≤(k:Int)-1)=True:=eq_true (by omega);simp only[go_sem,Qfd,hm,h1,h2,hmk,decide_true,Bool.and_self,Q3,Qal _ _ hmk,CodeD.cells,Qc];refine Qk ?_;simp only[go_sem];refine retf _ _ ?_ (by simp[lk];rfl);rw[hG,hm,Int.toNat_natCast,Qrd hmk];simp only[h1,h2,and_self,decide_true,Jbk]
   ·have hin':(decide (0≤x.n)&&decide (x.n≤(k:Int)-1))=false:=(by simpa using hin);have hin2:decide (0≤x.n∧x.n≤(k:Int)-1)=false:=(by simpa using hin);by_cases hm:x.n.toNat<cs.length
    ·simp only[go_sem,Qfd,hin',Qal _ _ hm,CodeD.cells];refine Qk ?_;simp only[go_sem];exact retf false _ (by rw[hG,hin2];rfl) (by simp[lk])
    ·have hgd:(Ql cs).getD x.n.toNat []=[]:=by
      rw[Jb,Jj (by rw[Q3];omega)];rfl
     simp only[go_sem,Qfd,hin',hgd,Jbm,List.headD_nil];refine Qk ?_;simp only[go_sem];exact retf false _ (by rw[hG,hin2];rfl) (by simp[lk])
  ·intro hc;have hop:¬x.op=14:=of_decide_eq_false hc;have hA:Qhk x.op=Qas1 x.op:=by
    rw[Qhk,Qas1,if_neg hop1,if_neg hop1];split
    ·rfl
    ·rw[if_pos (by omega)]
   have hL:insL cs k x=(decide (x.n=0)&&decide ((x.args.length:Int)=Qas1 x.op)):=by
    rw[insL,if_neg hop,hA];by_cases hn:x.n=0
    ·simp[hn]
    ·simp[hn,hop1]
   refine Qi ?_;simp only[go_sem];refine Qad ?_;simp only[go_sem,Qc];refine⟨fun hb=>?_,fun hb=>?_⟩
   ·refine Qbdn ?_;simp only[go_sem,Qkf,hb,Qc];refine Qk ?_;refine retf _ _ ?_ (by simp[lk];rfl);have hb':=of_decide_eq_true hb;rw[hG,hL];simp[hb']
   ·simp only[go_sem,Qkf,hb,Qc];refine Qk ?_;exact retf false _ (by rw[hG,hL,hb];rfl) (by simp[lk])
 have rest:∀(E1:Env) (b:Bool),insH cs[k].regs x=(!b)→lk 1 E1=.c (.int .i64 k)→lk 3 E1=.c (.pp [.sl fl 3 (Ql cs)])→lk 5 E1=.c (.pp [.int .i64 x.op,.int .i64 x.to,.sl false 1 (Qb x.args),.int .i64 x.n])→lk 8 E1=.c (.ptr x8 0)→lk 24 E1=.c (.bool b)→
   Qae prog (s_im_insOk_4.seq Q1x) (Qz Qk3 (unK H K)) E1 H4:=by
  intro E1 b hb l1 l3 l5 l8 l24;refine Qh (Qe l24 ?_ ?_)
  ·intro hc;refine Qa ?_;simp only[go_sem];refine Qk ?_;simp only[go_sem];exact retf false _ (by rw[Q42,hrg,hb,hc];rfl) (by simp[lk])
  intro hc;rw[hc]at hb;refine Qi ?_;simp only[go_sem];refine Q5 ?_;refine Qa ?_;simp only[go_sem,l1,l3,l5,l8];refine Qbg4 ?_
  cases hmk:Qh3 x.op with
  |true=>
   simp only[go_sem,cond_true,cond_false,J7,Ju,Qm8,l1,l3,l5,l8,h8];refine Qanq h7 (by omega) (by omega) ?_;have hT:insT cs[k].regs x=decide (0≤x.to∧x.to≤cs[k].regs-1):=by rw[insT,hmk];rfl
   cases hd:decide (0≤x.to∧x.to≤cs[k].regs-1)with
   |true=>
    simp only[go_sem,cond_true,cond_false,J7,Ju,Qg8,l1,l3,l5,l8,h8];refine Qbg4 ?_;simp only[go_sem,cond_true,cond_false,J7,Ju,Qg7,l1,l3,l5,l8,hmk];exact rest2 _ false hb (by rw[hT,hd];rfl) (by simp[lk]) (by simp[lk]) (by simp[lk]) (by simp[lk])
   |false=>
    simp only[go_sem,cond_true,cond_false,J7,Ju,Qg8,Qg7,l1,l3,l5,l8,h8];exact rest2 _ true hb (by rw[hT,hd];rfl) (by simp[lk]) (by simp[lk]) (by simp[lk]) (by simp[lk])
  |false=>
   have hT:insT cs[k].regs x=decide (x.to=-1):=by rw[insT,hmk];rfl
   simp only[go_sem,cond_true,cond_false,J7,Ju,Qm8,Qg8,l1,l3,l5,l8,h8];refine Qbg4 ?_;simp only[go_sem,cond_true,cond_false,J7,Ju,Qg7,l1,l3,l5,l8,hmk];refine rest2 _ (!decide (x.to=-1)) hb ?_ ?_ ?_ ?_ ?_
   ·rw[hT];simp
   ·rfl
   ·rfl
   ·rfl
   ·rfl
 cases hi:(decide (1≤x.op)&&decide (x.op≤14))with
 |false=>
  simp only[go_sem,Qm7];refine rest _ true ?_ (by simp[lk]) (by simp[lk]) (by simp[lk]) (by simp[lk]) (by simp[lk]);have:decide (1≤x.op∧x.op≤14)=false:=by simpa using hi
  rw[insH,this];rfl
 |true=>
  simp only[go_sem,h8];refine Qc6 (p:=fun r=>!decide (0≤r∧r≤cs[k].regs-1)) (.mk' _ _ _ _) rfl (fun v K' hv hK'=>Qa86 h7 h8 (by omega) (by omega) hK') ?_;simp only[go_sem,Qm7];refine rest _ (x.args.any fun r=>!decide (0≤r∧r≤cs[k].regs-1)) ?_ (by simp[lk]) (by simp[lk]) (by simp[lk]) (by simp[lk]) (by simp[lk]);have:decide (1≤x.op∧x.op≤14)=true:=by simpa using hi
  rw[insH,this,Qaz0,Qpq];simp
end Go.AE.Y
namespace Go.AE.Y
attribute [local go_sem] cond_true cond_false Bool.not_true Bool.not_false
open Go.Proofs.Tryz
variable {H:Heap}{K:V→Heap→Prop}
theorem Qasx {fl:Bool}{l:List InsD}{f:Nat}{caps:List C}{p:InsD→Bool}
  (hf:∀(x:InsD) (H1:Heap) (K':V→Heap→Prop),x∈l→(∀H2,Upd H1 H2 []→K' (.c (.bool (p x))) H2)→Qo prog f ([.ag x.cells]++caps.map .c) H1 K')
  (hK:∀(r:Int) (H':Heap),Upd H H' []→decide (0≤r)=l.any p→K (.c (.int .i64 r)) H') :
  Qo prog Qdm [.c (.sl fl 4 (Qaw l)),.c (.fn f caps)] H K:=by
 refine Qu ?_;refine Qd Qai Q0y ?_;refine Qa ?_;simp only[go_sem];refine Q5 ?_;refine Qa ?_;simp only[go_sem,Qay];intro hl;simp only[LIM]at hl;refine Qh (Qf (Qw (fun m e1 H1=>∃(i:Nat),m=l.length-i∧i≤l.length∧Kn H H1 [] []∧(∀x∈l.take i,p x=false)∧e1=[(0,.c (.sl fl 4 (Qaw l))),(1,.c (.fn f caps)),(7,.c (.int .i64 l.length)),(8,.c (.int .i64 i))]) l.length ?_ ?_))
 ·exact⟨0,by omega,by omega,Kn.start0 H,by simp,rfl⟩
 ·rintro m e1 H1 ⟨i,hm,hi,kn,hall,rfl⟩;refine Qa ?_;simp only[go_sem];refine Qh (Qe rfl ?_ ?_)
  ·intro hc;have hlt:i<l.length:=by simpa using hc
   refine Qi ?_;simp only[go_sem];refine Qh (Qf ?_);refine Qa ?_;simp only[go_sem];refine Qa ?_;simp only[go_sem,hlt,Qay,Qey _ _ hlt,InsD.take4,InsD.allOw,InsD.len4];refine hf _ _ _ (Jd hlt) fun H2 hu=>?_;have kn:=kn.call0 hu;refine Qe rfl ?_ ?_
   ·intro hc2;refine Qa ?_;simp only[go_sem];refine Qk ?_;simp only[go_sem,X.next,Qz,Q8,Qd8,Ja,forall_eq,RS.op];refine⟨_,.c _ _ (Qg rfl),hK _ _ kn.fin ?_⟩;have:l.any p=true:=J9.2 ⟨_,Jd hlt,hc2⟩;rw[this];simp
   ·intro hc2;refine Qi ?_;simp only[go_sem];refine Qt ?_;simp only[go_sem,X.next];refine⟨Qr (by omega) (by omega),l.length-(i+1),by omega,i+1,rfl,by omega,kn,?_,rfl⟩;rw[Jf hlt];intro x hx;rcases Je.1 hx with hx|hx
    ·exact hall x hx
    ·simp only[Ja]at hx;subst hx;exact hc2
  ·intro hc;have hge:l.length≤i:=by simpa using hc
   rw[Jc hge]at hall;refine Qv ?_;simp only[go_sem,X.next];refine Qa ?_;simp only[go_sem];refine Qk ?_;simp only[go_sem,Qz,Q8,Qd8,Ja,forall_eq,RS.op];refine⟨_,.c _ _ (Qg rfl),hK _ _ kn.fin ?_⟩;have:l.any p=false:=by
    cases hc:l.any p with
    |false=>rfl
    |true=>obtain⟨x,hx,hp⟩:=J9.1 hc;rw[hall x hx]at hp;exact absurd hp (by simp)
   rw[this];rfl
theorem Qaak {fl:Bool}{l:List InsD}{f:Nat}{caps:List C}{p:InsD→Bool}
  (hf:∀(x:InsD) (H1:Heap) (K':V→Heap→Prop),x∈l→(∀H2,Upd H1 H2 []→K' (.c (.bool (p x))) H2)→Qo prog f ([.ag x.cells]++caps.map .c) H1 K')
  (hK:∀(H':Heap),Upd H H' []→K (.c (.bool (l.any p))) H') :
  Qo prog Qcf [.c (.sl fl 4 (Qaw l)),.c (.fn f caps)] H K:=by
 refine Qd Qai Qrb ?_;refine Qa ?_;simp only[go_sem];refine Qa ?_;simp only[go_sem];refine Qasx hf fun r H' hu hr=>?_;simp only[go_sem,Qdy];refine Qk ?_;simp only[go_sem,Qz,Q8,Qfk,Ja,forall_eq,RS.op];rw[hr];exact hK _ hu
theorem Qzc {x5:Nat}{q:CodeD}{v:Int}(h5:H x5=.st q.cells)(hr:-(2^62)≤q.regs)(hr2:q.regs≤2^62)(hK:K (.c (.bool (decide (0≤v∧v≤q.regs-1)))) H) :
  Qo prog Qaj [.c (.int .i64 v),.c (.ptr x5 0)] H K:=by
 refine Qd Qai Qaih ?_;refine Qa ?_;simp only[go_sem];refine Qa ?_;simp only[go_sem,h5,CodeD.cells];refine⟨Qr (by omega) (by omega),?_⟩;refine Qcy ?_;simp only[go_sem,Qlo];refine Qk ?_;simp only[go_sem,Qz,Q8,Qxo,Ja,forall_eq,RS.op];have e:(decide (0≤v)&&decide (v≤q.regs-1))=decide (0≤v∧v≤q.regs-1):=by simp
 rw[e];exact hK
theorem Qaz2 {x5:Nat}{q:CodeD}{v:Int}(h5:H x5=.st q.cells)(hb:q.blocks.length≤2 ^ 38)(hK:K (.c (.bool (!Q3t (Qs q.blocks).length v))) H) :
  Qo prog Qhr [.c (.int .i64 v),.c (.ptr x5 0)] H K:=by
 refine Qd Qai Qaii ?_;refine Qa ?_;simp only[go_sem];refine Qa ?_;simp only[go_sem,h5,CodeD.cells,Qp];intro _;refine⟨Qr (by omega) (by omega),?_⟩;refine Qcy ?_;simp only[go_sem,Qlp];refine Qk ?_;simp only[go_sem,Qz,Q8,Qxp,Ja,forall_eq,RS.op];have e:(decide (1≤v)&&decide (v≤(q.blocks.length:Int)-1))=Q3t (Qs q.blocks).length v:=by simp[Q3t,Qp]
 rw[e];exact hK
theorem Qaz3 {cs:List CodeD}{fl:Bool}{k:Nat}{x:InsD}(hk:k<cs.length)(hr:0≤cs[k].regs)(hr2:cs[k].regs≤300)(hcl:cs.length≤100)(hK:∀(H':Heap),Upd H H' []→K (.c (.bool (!Q42 cs k x))) H') :
  Qo prog Qhs [.ag x.cells,.c (.pp [.sl fl 3 (Ql cs)]),.c (.pp [.int .i64 k])] H K:=by
 refine Qd Qai Qaij ?_;refine Qa ?_;simp only[go_sem,InsD.cells];refine Qa ?_;simp only[go_sem];refine Qbnj hk hr hr2 hcl fun H' hu=>?_;simp only[go_sem,Qlq];refine Qk ?_;simp only[go_sem,Qz,Q8,Qxq,Ja,forall_eq,RS.op];exact hK _ hu
theorem Qaz4 {x5 x6:Nat}{q:CodeD}{v:Int}(h5:H x5=.st q.cells)(h6:H x6=.st [.fn Qaj [.ptr x5 0]])(hr:-(2^62)≤q.regs)(hr2:q.regs≤2^62)(hK:K (.c (.bool (!decide (0≤v∧v≤q.regs-1)))) H) :
  Qo prog Qht [.c (.int .i64 v),.c (.ptr x6 0)] H K:=by
 refine Qd Qai Qaik ?_;refine Qa ?_;simp only[go_sem];refine Qa ?_;simp only[go_sem,h6,Jaa,J6,J3,Jae];refine Qzc h5 hr hr2 ?_;simp only[go_sem,Qlr];refine Qk ?_;simp only[go_sem,Qz,Q8,Qxr,Ja,forall_eq,RS.op];exact hK
attribute [local instance] Classical.propDecidable
def blkC (b:BlkD):Obj:=.st [.sl false 2 (Q2 b.phis),.sl false 4 (Qaw b.ins),.int .i64 b.jump,.int .i64 b.on,.sl false 1 (Qb b.next)]
theorem Qas8 {cs:List CodeD}{k:Nat}{hk:k<cs.length}(h:¬Qah9 cs k hk):decide (Qah9 cs k hk)=false:=decide_eq_false h
set_option maxHeartbeats 2000000 in
theorem Qbhz {cs:List CodeD}{fl:Bool}{k:Nat}(hk:k<cs.length)(hcl:cs.length≤100)(hfit:cs[k].fits)(hK:∀(H':Heap),Upd H H' []→K (.c (.bool (decide (Qah9 cs k hk)))) H') :
  Qo prog Qqx [.ag [.sl fl 3 (Ql cs)],.c (.int .i64 k)] H K:=by
 refine Qu ?_;refine Qd Qai Qa0m ?_;have retf:∀(v:Bool) (e:Env) (H':Heap) (L:List (Nat×Obj)),decide (Qah9 cs k hk)=v→Kn H H' [] L→lk 4 e=.c (.bool v)→Qz Qh5 (unK H K) .ret e H':=by
  intro v e H' L hb kn h3;simp only[go_sem,Qz,Q8,Qh5,Ja,forall_eq,RS.op,h3];rw[←hb];exact⟨_,.c _ _ (Qg rfl),hK _ kn.fin⟩
 obtain⟨q,hq⟩:∃q,cs[k]=q:=⟨_,rfl⟩;have hP:Qah9 cs k hk=(Qq8 q=true∧∀(b:Nat) (h:b<q.blocks.length),Q0k cs k b q q.blocks[b]=true):=by subst hq;rfl
 refine Qa ?_;simp only[go_sem];refine Qa ?_;simp only[go_sem,hk,Q3,Qal _ _ hk,CodeD.cells,hq];intro x5 hx5 H1 h1;have kn:=(Kn.start0 H).al hx5 h1;have hx5:=kn.l 0 rfl;simp only[go_sem,Qx2,hx5];intro H2 h2;have kn:Kn H H2 [] [(x5,.st q.cells)]:=kn.stL 0 rfl h2;have hx5:H2 x5=.st [.int .i64 q.params,.int .i64 q.regs,.sl false 5 (Qs q.blocks)]:=kn.l 0 rfl;refine Q5 ?_;refine Qa ?_;simp only[go_sem,hx5];refine Qcy ?_;have rest0:∀(b:Bool) (E1:Env),Qq8 q=(!b)→lk 2 E1=.c (.pp [.sl fl 3 (Ql cs)])→lk 3 E1=.c (.pp [.int .i64 k])→lk 5 E1=.c (.ptr x5 0)→lk 36 E1=.c (.bool b)→
   Qae prog (s_im_codeOk_4.seq Qx1) (Qz Qh5 (unK H K)) E1 H2:=by
  intro b E1 hb l2 l3 l5 l36;refine Qh (Qe l36 ?_ ?_)
  ·intro hc;refine Qa ?_;simp only[go_sem];refine Qk ?_;simp only[go_sem];exact retf false _ _ _ (Qas8 fun h=>by rw[hP,hb,hc]at h;simp at h) kn (by simp[lk])
  intro hc;rw[hc]at hb;have hb':=hb;simp only[Qq8,Ju,Jl,decide_eq_true_eq]at hb';obtain⟨hr0,hr1,hb0,hbl⟩:0≤q.regs∧q.regs≤300∧0<q.blocks.length∧q.blocks.length≤160:=by omega
  refine Qi ?_;simp only[go_sem];refine Qa ?_;simp only[go_sem,l2,l3,l5];intro x6 hx6 H3 h3;have kn:=kn.al hx6 h3;have hx6:=kn.l 1 rfl;simp only[go_sem,Qx3,hx6,l2,l3,l5];intro H4 h4;have kn:Kn H H4 [] [(x5,.st q.cells),(x6,.st [.fn Qaj [.ptr x5 0]])]:=kn.stL 1 rfl h4;have hx5:H4 x5=.st [.int .i64 q.params,.int .i64 q.regs,.sl false 5 (Qs q.blocks)]:=kn.l 0 rfl;refine Q5 ?_;refine Qa ?_;simp only[go_sem,hx5,Qp];intro _;refine Qh (Qf (Qw (fun m e1 H1=>∃(j:Nat),m=q.blocks.length-j∧j≤q.blocks.length∧(∀(i:Nat) (hi:i<q.blocks.length),i<j→Q0k cs k i q q.blocks[i]=true)∧Kn H H1 [] [(x5,.st q.cells),(x6,.st [.fn Qaj [.ptr x5 0]])]∧
   e1=[(2,.c (.pp [.sl fl 3 (Ql cs)])),(3,.c (.pp [.int .i64 k])),(5,.c (.ptr x5 0)),(6,.c (.ptr x6 0)),(39,.c (.sl false 5 (Qs q.blocks))),(40,.c (.int .i64 q.blocks.length)),(41,.c (.int .i64 j))]) q.blocks.length ?_ ?_))
  ·exact⟨0,by omega,by omega,fun _ _ h=>by omega,kn,rfl⟩
  ·rintro m e1 H5 ⟨j,hm,hj,hdone,kn,rfl⟩;refine Qa ?_;simp only[go_sem];refine Qh (Qe rfl ?_ ?_)
   ·intro hc1;have hlt:j<q.blocks.length:=(by simpa using hc1);have hbf:q.blocks[j].ins.length≤2 ^ 38∧q.blocks[j].phis.length≤2 ^ 38:=(by subst hq;exact hfit _ (Jd hlt));refine Qi ?_;simp only[go_sem];refine Q28 (fun e2 H2=>Kn H H2 [] [(x5,.st q.cells),(x6,.st [.fn Qaj [.ptr x5 0]])]∧Q0k cs k j q q.blocks[j]=true∧lk 2 e2=.c (.pp [.sl fl 3 (Ql cs)])∧lk 3 e2=.c (.pp [.int .i64 k])∧lk 5 e2=.c (.ptr x5 0)∧lk 6 e2=.c (.ptr x6 0)∧
     lk 39 e2=.c (.sl false 5 (Qs q.blocks))∧lk 40 e2=.c (.int .i64 q.blocks.length)∧lk 41 e2=.c (.int .i64 j)) ?_ ?_
    ·intro Q hnr hrt _;replace hrt:∀e H',Qz Qh5 (unK H K) .ret e H'→Q .ret e H':=fun e H' h=>hrt e H' (by simpa only[go_sem,X.next]using h);have retq:∀(e:Env) (H':Heap) (L:List (Nat×Obj)),Q0k cs k j q q.blocks[j]=false→Kn H H' [] L→lk 4 e=.c (.bool false)→Q .ret e H':=fun e H' L hb kn l4=>
      hrt e H' (retf false e H' L (Qas8 fun h=>by rw[hP]at h;rw[h.2 j hlt]at hb;exact absurd hb (by simp)) kn l4)
     have hGd:Q0k cs k j q q.blocks[j]=(Qmv q.regs q.blocks[j]&&q.blocks[j].next.all (Q3t (Qs q.blocks).length)&&q.blocks[j].ins.all (Q42 cs k)&&q.blocks[j].phis.all (phiG q.regs (Q0 (gnx q) (j:Int) (Qs q.blocks).length).length j)):=rfl;refine Qf ?_;refine Qa ?_;simp only[go_sem,hlt,Qp,Qa6 _ _ hlt,BlkD.cells];obtain⟨y,hy⟩:∃y,q.blocks[j]=y:=⟨_,rfl⟩;rw[hy]at hGd retq hbf hnr;rw[hy];intro x8 hx8 H6 h6;have kn:=kn.al hx8 h6;have hx8:=kn.l 2 rfl;simp only[go_sem,Qx4,hx8];intro H7 h7;have kn:Kn H H7 [] [(x5,.st q.cells),(x6,.st [.fn Qaj [.ptr x5 0]]),(x8,blkC y)]:=kn.stL 2 rfl h7;have hx5:H7 x5=.st [.int .i64 q.params,.int .i64 q.regs,.sl false 5 (Qs q.blocks)]:=kn.l 0 rfl;have hx5':H7 x5=.st q.cells:=kn.l 0 rfl;have hx6:=kn.l 1 rfl;have hx8:H7 x8=.st [.sl false 2 (Q2 y.phis),.sl false 4 (Qaw y.ins),.int .i64 y.jump,.int .i64 y.on,.sl false 1 (Qb y.next)]:=kn.l 2 rfl;have rest3:∀(E1:Env) (H8:Heap),Qmv q.regs y=true→y.next.all (Q3t (Qs q.blocks).length)=true→y.ins.all (Q42 cs k)=true→Kn H H8 [] [(x5,.st q.cells),(x6,.st [.fn Qaj [.ptr x5 0]]),(x8,blkC y)]→
       lk 2 E1=.c (.pp [.sl fl 3 (Ql cs)])→lk 3 E1=.c (.pp [.int .i64 k])→lk 5 E1=.c (.ptr x5 0)→lk 6 E1=.c (.ptr x6 0)→lk 7 E1=.c (.int .i64 j)→lk 8 E1=.c (.ptr x8 0)→
       lk 39 E1=.c (.sl false 5 (Qs q.blocks))→lk 40 E1=.c (.int .i64 q.blocks.length)→lk 41 E1=.c (.int .i64 j)→Qae prog Qkd (X.inBlock 1 Q) E1 H8:=by
      intro E1 H8 g1 g2 g3 kn l2 l3 l5 l6 l7 l8 l39 l40 l41;have hx5:H8 x5=.st [.int .i64 q.params,.int .i64 q.regs,.sl false 5 (Qs q.blocks)]:=kn.l 0 rfl;have hin:(decide (0≤(j:Int))&&decide ((j:Int)≤((Qs q.blocks).length:Int)-1))=true:=(by rw[Qp];simp;omega);refine Qa ?_;simp only[go_sem,hx5,l2,l3,l5,l6,l7,l8,l39,l40,l41];refine Q0j (rows:=Qs q.blocks) (nx:=gnx q) (Qmu _ q false) fun fl' H9 hu=>?_;have kn:=kn.call0 hu;rw[Qj7,if_pos hin];generalize hnp:Q0 (gnx q) (j:Int) (Qs q.blocks).length=ps;rw[hnp]at hGd;simp only[go_sem,Qr3,l2,l3,l5,l6,l7,l8,l39,l40,l41,Qc];intro _;have hx8:H9 x8=.st [.sl false 2 (Q2 y.phis),.sl false 4 (Qaw y.ins),.int .i64 y.jump,.int .i64 y.on,.sl false 1 (Qb y.next)]:=kn.l 2 rfl;refine Qa ?_;simp only[go_sem,hx8,Qy];intro _;refine Qf (Qw (fun m e1 H1=>∃(i:Nat),m=y.phis.length-i∧i≤y.phis.length∧(y.phis.take i).all (phiG q.regs ps.length j)=true∧Kn H H1 [] [(x5,.st q.cells),(x6,.st [.fn Qaj [.ptr x5 0]])]∧
       e1=[(2,.c (.pp [.sl fl 3 (Ql cs)])),(3,.c (.pp [.int .i64 k])),(5,.c (.ptr x5 0)),(6,.c (.ptr x6 0)),(7,.c (.int .i64 j)),(9,.c (.int .i64 ps.length)),(39,.c (.sl false 5 (Qs q.blocks))),(40,.c (.int .i64 q.blocks.length)),(41,.c (.int .i64 j)),(91,.c (.sl false 2 (Q2 y.phis))),(92,.c (.int .i64 y.phis.length)),(93,.c (.int .i64 i))]) y.phis.length ?_ ?_)
      ·exact⟨0,by omega,by omega,rfl,kn.drop (A:=[_,_]),rfl⟩
      ·rintro m2 e1 H10 ⟨i,hm2,hi,hall,kn,rfl⟩;refine Qa ?_;simp only[go_sem];refine Qh (Qe rfl ?_ ?_)
       ·intro hc2;have hil:i<y.phis.length:=(by simpa using hc2);refine Qi ?_;simp only[go_sem];refine Qh (Qf ?_);refine Qa ?_;simp only[go_sem,hil,Qy,Qa7 _ _ hil,PhiD.cells];obtain⟨z,hz⟩:∃z,y.phis[i]=z:=⟨_,rfl⟩;rw[hz];intro x11 hx11 H11 h11;have kn:=kn.al hx11 h11;have hx11:=kn.l 2 rfl;simp only[go_sem,Qr4,hx11];intro H12 h12;have kn:Kn H H12 [] ([(x5,.st q.cells),(x6,.st [.fn Qaj [.ptr x5 0]])]++[(x11,.st [.int .i64 z.to,.sl false 1 (Qb z.args)])]):=kn.stL 2 rfl h12;have hx5':H12 x5=.st q.cells:=kn.l 0 rfl;have hx6:=kn.l 1 rfl;have hx11:=kn.l 2 rfl;have fin:∀(b3:Bool) (E1:Env),phiG q.regs ps.length j z=(!b3)→lk 2 E1=.c (.pp [.sl fl 3 (Ql cs)])→lk 3 E1=.c (.pp [.int .i64 k])→lk 5 E1=.c (.ptr x5 0)→lk 6 E1=.c (.ptr x6 0)→lk 7 E1=.c (.int .i64 j)→lk 9 E1=.c (.int .i64 ps.length)→
          lk 39 E1=.c (.sl false 5 (Qs q.blocks))→lk 40 E1=.c (.int .i64 q.blocks.length)→lk 41 E1=.c (.int .i64 j)→lk 91 E1=.c (.sl false 2 (Q2 y.phis))→lk 92 E1=.c (.int .i64 y.phis.length)→lk 93 E1=.c (.int .i64 i)→lk 118 E1=.c (.bool b3)→
          Qae prog Qxy (X.inBlock 3 (X.sq prog Qxz (X.next (fun e2 H2=>∃m,m<m2∧∃(i:Nat),m=y.phis.length-i∧i≤y.phis.length∧(y.phis.take i).all (phiG q.regs ps.length j)=true∧Kn H H2 [] [(x5,.st q.cells),(x6,.st [.fn Qaj [.ptr x5 0]])]∧
           e2=[(2,.c (.pp [.sl fl 3 (Ql cs)])),(3,.c (.pp [.int .i64 k])),(5,.c (.ptr x5 0)),(6,.c (.ptr x6 0)),(7,.c (.int .i64 j)),(9,.c (.int .i64 ps.length)),(39,.c (.sl false 5 (Qs q.blocks))),(40,.c (.int .i64 q.blocks.length)),(41,.c (.int .i64 j)),(91,.c (.sl false 2 (Q2 y.phis))),(92,.c (.int .i64 y.phis.length)),(93,.c (.int .i64 i))])
           (X.inBlock 2 (X.inBlock 1 Q))))) E1 H12:=by
         intro b3 E1 hph l2 l3 l5 l6 l7 l9 l39 l40 l41 l91 l92 l93 l118;refine Qe l118 ?_ ?_
         ·intro hc3;refine Qa ?_;simp only[go_sem];refine Qk ?_;simp only[go_sem,X.next];exact retq _ _ _ (by rw[hGd,Qaoq hil (by rw[hz,hph,hc3];rfl)];simp) kn (by simp[lk])
         ·intro hc3;refine Qi ?_;simp only[go_sem];refine Qt ?_;simp only[go_sem,X.next,l2,l3,l5,l6,l7,l9,l39,l40,l41,l91,l92,l93];exact⟨Qr (by omega) (by omega),y.phis.length-(i+1),by omega,i+1,rfl,by omega,by rw[Q97 hil,hall,hz,hph,hc3];rfl,kn.drop,rfl⟩
        have hpG:phiG q.regs ps.length j z=(!decide (j=0)&&decide ((z.args.length:Int)=ps.length)&&Qpq q.regs z.args&&decide (0≤z.to∧z.to≤q.regs-1)):=rfl;refine Qa ?_;simp only[go_sem]
        cases hj0:decide ((j:Int)=0)with
        |true=>
         have hj0':decide (j=0)=true:=(by simpa using hj0);simp only[go_sem,Qcs,Qcr];exact fin true _ (by rw[hpG,hj0'];rfl) (by simp[lk]) (by simp[lk]) (by simp[lk]) (by simp[lk]) (by simp[lk]) (by simp[lk]) (by simp[lk]) (by simp[lk]) (by simp[lk]) (by simp[lk]) (by simp[lk]) (by simp[lk]) (by simp[lk])
        |false=>
         have hj0':decide (j=0)=false:=(by simpa using hj0);simp only[go_sem,hx11,hx6,Jaa,J6,J3,Jae];refine Qzc hx5' (by omega) (by omega) ?_
         cases ht:decide (0≤z.to∧z.to≤q.regs-1)with
         |false=>
          simp only[go_sem,Qcs,Qcr];exact fin true _ (by rw[hpG,ht];simp) (by simp[lk]) (by simp[lk]) (by simp[lk]) (by simp[lk]) (by simp[lk]) (by simp[lk]) (by simp[lk]) (by simp[lk]) (by simp[lk]) (by simp[lk]) (by simp[lk]) (by simp[lk]) (by simp[lk])
         |true=>
          by_cases hal:(z.args.length:Int)=ps.length
          ·simp only[go_sem,Qcs,hx11,Qc,hal,not_true_eq_false,decide_false,decide_true,J7];intro _;refine Qc6 (p:=fun r=>!decide (0≤r∧r≤q.regs-1)) (.mk' _ _ _ _) rfl (fun v K' hv hK'=>Qaz4 hx5' hx6 (by omega) (by omega) hK') ?_;simp only[go_sem,Qcr];refine fin (z.args.any fun r=>!decide (0≤r∧r≤q.regs-1)) _ ?_ (by simp[lk]) (by simp[lk]) (by simp[lk]) (by simp[lk]) (by simp[lk]) (by simp[lk]) (by simp[lk]) (by simp[lk]) (by simp[lk]) (by simp[lk]) (by simp[lk]) (by simp[lk]) (by simp[lk]);rw[hpG,hj0',ht,Qaz0,hal,Qpq];simp
          ·simp only[go_sem,Qcs,Qcr,hx11,Qc,hal,not_false_eq_true,decide_false,decide_true,Ju];intro _;exact fin true _ (by rw[hpG];simp[hal]) (by simp[lk]) (by simp[lk]) (by simp[lk]) (by simp[lk]) (by simp[lk]) (by simp[lk]) (by simp[lk]) (by simp[lk]) (by simp[lk]) (by simp[lk]) (by simp[lk]) (by simp[lk]) (by simp[lk])
       ·intro hc2;have hge:y.phis.length≤i:=(by simpa using hc2);rw[Jc hge]at hall;refine Qv ?_;simp only[go_sem,X.next];exact hnr _ _ ⟨kn,by rw[hGd,g1,g2,g3,hall];rfl,rfl,rfl,rfl,rfl,rfl,rfl,rfl⟩
     have rest2:∀(b1:Bool) (E1:Env),Qmv q.regs y=(!b1)→lk 2 E1=.c (.pp [.sl fl 3 (Ql cs)])→lk 3 E1=.c (.pp [.int .i64 k])→lk 5 E1=.c (.ptr x5 0)→lk 6 E1=.c (.ptr x6 0)→lk 7 E1=.c (.int .i64 j)→lk 8 E1=.c (.ptr x8 0)→
       lk 39 E1=.c (.sl false 5 (Qs q.blocks))→lk 40 E1=.c (.int .i64 q.blocks.length)→lk 41 E1=.c (.int .i64 j)→lk 75 E1=.c (.bool b1)→Qae prog (s_im_codeOk_11.seq Qx0) (X.inBlock 1 Q) E1 H7:=by
      intro b1 E1 hb1 l2 l3 l5 l6 l7 l8 l39 l40 l41 l75;refine Qh (Qe l75 ?_ ?_)
      ·intro hc2;refine Qa ?_;simp only[go_sem];refine Qk ?_;simp only[go_sem];exact retq _ _ _ (by rw[hGd,hb1,hc2];simp) kn (by simp[lk])
      intro hc2;rw[hc2]at hb1;refine Qi ?_;simp only[go_sem];refine Q5 ?_;refine Qa ?_;simp only[go_sem,hx8,l2,l3,l5,l6,l7,l8,l39,l40,l41];refine Qc6 (p:=fun v=>!Q3t (Qs q.blocks).length v) (.mk' _ _ _ _) rfl (fun v K' hv hK'=>Qaz2 hx5' (by omega) hK') ?_;have fin:∀(b:Bool) (E1:Env) (H8:Heap),(y.next.all (Q3t (Qs q.blocks).length)&&y.ins.all (Q42 cs k))=(!b)→Kn H H8 [] [(x5,.st q.cells),(x6,.st [.fn Qaj [.ptr x5 0]]),(x8,blkC y)]→lk 2 E1=.c (.pp [.sl fl 3 (Ql cs)])→lk 3 E1=.c (.pp [.int .i64 k])→lk 5 E1=.c (.ptr x5 0)→lk 6 E1=.c (.ptr x6 0)→lk 7 E1=.c (.int .i64 j)→lk 8 E1=.c (.ptr x8 0)→
        lk 39 E1=.c (.sl false 5 (Qs q.blocks))→lk 40 E1=.c (.int .i64 q.blocks.length)→lk 41 E1=.c (.int .i64 j)→lk 85 E1=.c (.bool b)→Qae prog (s_im_codeOk_14.seq Qkd) (X.inBlock 1 Q) E1 H8:=by
       intro b E1 H8 hb kn l2 l3 l5 l6 l7 l8 l39 l40 l41 l85;refine Qh (Qe l85 ?_ ?_)
       ·intro hc3;refine Qa ?_;simp only[go_sem];refine Qk ?_;simp only[go_sem];exact retq _ _ _ (by rw[hGd,Bool.and_assoc (Qmv _ _),hb,hc3];simp) kn (by simp[lk])
       ·intro hc3;rw[hc3]at hb;simp only[Ju,Jl]at hb;refine Qi ?_;simp only[go_sem];exact rest3 E1 H8 hb1 hb.1 hb.2 kn l2 l3 l5 l6 l7 l8 l39 l40 l41
      rw[Qaz0]
      cases ha:y.next.all (Q3t (Qs q.blocks).length)with
      |false=>
       simp only[go_sem,Qii,Qih,l2,l3,l5,l6,l7,l8,l39,l40,l41];exact fin true _ _ (by rw[ha];rfl) kn (by simp[lk]) (by simp[lk]) (by simp[lk]) (by simp[lk]) (by simp[lk]) (by simp[lk]) (by simp[lk]) (by simp[lk]) (by simp[lk]) (by simp[lk])
      |true=>
       simp only[go_sem,Qii,hx8,l2,l3,l5,l6,l7,l8,l39,l40,l41];refine Qaak (p:=fun x=>!Q42 cs k x) (fun x H1 K' hx hK'=>Qaz3 hk (by rw[hq];exact hr0) (by rw[hq];exact hr1) hcl hK') fun H8 hu=>?_;have kn:=kn.call0 hu;simp only[go_sem,Qih,l2,l3,l5,l6,l7,l8,l39,l40,l41];refine fin (y.ins.any fun x=>!Q42 cs k x) _ _ ?_ kn (by simp[lk]) (by simp[lk]) (by simp[lk]) (by simp[lk]) (by simp[lk]) (by simp[lk]) (by simp[lk]) (by simp[lk]) (by simp[lk]) (by simp[lk]);rw[ha,←List.not_all_eq_any_not];simp
     refine Q5 ?_;refine Qad ?_;simp only[go_sem,hx8,Qc];refine Qa04 ?_;have hjG:Qmv q.regs y=(decide ((y.next.length:Int)=Qky y.jump)&&if y.jump=1 then decide (y.on=0)else decide (0≤y.on∧y.on≤q.regs-1)):=rfl;by_cases hn:(y.next.length:Int)=Qky y.jump
     ·have hjmp:y.jump=1∨(y.jump=2∨y.jump=3)∧¬y.jump=1:=by
       rw[Qky]at hn;split at hn
       ·exact .inl ‹_›
       ·split at hn
        ·omega
        ·split at hn
         ·omega
         ·omega
      simp only[go_sem,Qig,hx8,Qc,hn,not_true_eq_false,decide_false,decide_true,J7];refine Qast ?_;rcases hjmp with h1|⟨h1,h2⟩
      ·have hu:(decide (y.jump=2) || decide (y.jump=3))=false:=(by simp[h1]);simp only[go_sem,Qfc,Qdf,hu,hx8];refine Qast ?_;simp only[go_sem,Qde,hu,hx8];exact rest2 (!decide (y.on=0)) _ (by rw[hjG,if_pos h1,hn];simp) (by simp[lk]) (by simp[lk]) (by simp[lk]) (by simp[lk]) (by simp[lk]) (by simp[lk]) (by simp[lk]) (by simp[lk]) (by simp[lk]) (by simp[lk])
      ·have hu:(decide (y.jump=2) || decide (y.jump=3))=true:=(by simpa using h1);simp only[go_sem,Qfc,hu,hx8,hx6,Jaa,J6,J3,Jae];refine Qzc hx5' (by omega) (by omega) ?_
       cases ho:decide (0≤y.on∧y.on≤q.regs-1)with
       |true=>
        simp only[go_sem,Qdf,hx8];refine Qast ?_;simp only[go_sem,Qde,hu,hx8];exact rest2 false _ (by rw[hjG,if_neg h2,hn,ho];simp) (by simp[lk]) (by simp[lk]) (by simp[lk]) (by simp[lk]) (by simp[lk]) (by simp[lk]) (by simp[lk]) (by simp[lk]) (by simp[lk]) (by simp[lk])
       |false=>
        simp only[go_sem,Qdf,Qde,hx8];exact rest2 true _ (by rw[hjG,if_neg h2,ho];simp) (by simp[lk]) (by simp[lk]) (by simp[lk]) (by simp[lk]) (by simp[lk]) (by simp[lk]) (by simp[lk]) (by simp[lk]) (by simp[lk]) (by simp[lk])
     ·simp only[go_sem,Qig,Qfc,Qdf,Qde,hx8,Qc,hn,not_false_eq_true,decide_false,decide_true,Ju];exact rest2 true _ (by rw[hjG];simp[hn]) (by simp[lk]) (by simp[lk]) (by simp[lk]) (by simp[lk]) (by simp[lk]) (by simp[lk]) (by simp[lk]) (by simp[lk]) (by simp[lk]) (by simp[lk])
    ·rintro e2 H8 ⟨kn,hbg,l2,l3,l5,l6,l39,l40,l41⟩;refine Qt ?_;simp only[go_sem,X.next,l2,l3,l5,l6,l39,l40,l41];refine⟨Qr (by omega) (by omega),q.blocks.length-(j+1),by omega,j+1,rfl,by omega,fun i hi hij=>?_,kn,rfl⟩;by_cases h:i<j
     ·exact hdone i hi h
     ·have:i=j:=(by omega);subst this;exact hbg
   ·intro hc1;have hge:q.blocks.length≤j:=(by simpa using hc1);refine Qv ?_;simp only[go_sem,X.next];refine Qa ?_;simp only[go_sem];refine Qk ?_;exact retf true _ _ _ (decide_eq_true (by rw[hP];exact⟨by rw[hb];rfl,fun b h=>hdone b h (by omega)⟩)) kn (by simp[lk])
 have hH:Qq8 q=(decide (0≤q.params∧q.params≤3)&&decide (q.params≤q.regs∧q.regs≤300)&&decide (1≤(q.blocks.length:Int)∧(q.blocks.length:Int)≤160)):=rfl;by_cases hr:0≤q.regs∧q.regs≤300
 ·have hr':(decide (0≤q.regs)&&decide (q.regs≤300))=true:=by simpa using hr
  simp only[go_sem,Qke,hr',hx5];refine Qcy ?_;by_cases hp:0≤q.params∧q.params≤3∧q.params≤q.regs
  ·have hp':(decide (0≤q.params)&&decide (q.params≤if q.regs<3 then q.regs else 3))=true:=by
    split <;> simp <;> omega
   simp only[go_sem,Qfb,hp',hx5,Qp];intro _;refine Qcy ?_;simp only[go_sem,Qfa];refine rest0 _ _ ?_ (by simp[lk]) (by simp[lk]) (by simp[lk]) (by simp[lk];rfl);have a1:decide (0≤q.params∧q.params≤3)=true:=by simp;omega
   have a2:decide (q.params≤q.regs∧q.regs≤300)=true:=by simp;omega
   rw[hH,a1,a2];simp
  ·have hp':(decide (0≤q.params)&&decide (q.params≤if q.regs<3 then q.regs else 3))=false:=by
    split <;> simp <;> omega
   simp only[go_sem,Qfb,Qfa,hp',hx5];refine rest0 true _ ?_ (by simp[lk]) (by simp[lk]) (by simp[lk]) (by simp[lk]);rw[hH];simp;omega
 ·have hr':(decide (0≤q.regs)&&decide (q.regs≤300))=false:=by simpa using hr
  simp only[go_sem,Qke,Qfb,Qfa,hr',hx5];refine rest0 true _ ?_ (by simp[lk]) (by simp[lk]) (by simp[lk]) (by simp[lk]);rw[hH];simp;omega
set_option maxHeartbeats 1000000 in
theorem Qg4 {cs:List CodeD}{fl:Bool}(hfit:∀c∈cs,c.fits)(hK:∀(H':Heap),Upd H H' []→K (.c (.bool (Qas cs))) H') :
  Qo prog Qbv [.ag [.sl fl 3 (Ql cs)]] H K:=by
 refine Qu ?_;refine Qd Qai Qaie ?_;have retf:∀(b:Bool) (e:Env) (H':Heap) (L:List (Nat×Obj)),Qas cs=b→Kn H H' [] L→lk 2 e=.c (.bool b)→Qz Qj9 (unK H K) .ret e H':=by
  intro b e H' L hb kn h3;simp only[go_sem,Qz,Q8,Qj9,Ja,forall_eq,RS.op,h3];rw[←hb];exact⟨_,.c _ _ (Qg rfl),hK _ kn.fin⟩
 have kn:=Kn.start0 H;refine Qa ?_;simp only[go_sem];refine Q5 ?_;refine Qa ?_;simp only[go_sem,Q3];intro hcl;refine Qcy ?_;simp only[go_sem,Qli];refine Qh (Qe rfl ?_ ?_)
 ·intro hc;have hc':=Qpp hc;refine Qa ?_;simp only[go_sem];refine Qk ?_;simp only[go_sem];exact retf false _ _ _ (Qv3 fun hu=>by have h1:=hu.1;simp at hc';omega) kn (by simp[lk])
 intro hc;have hc':=Qgc hc;have hc4:1≤cs.length∧cs.length≤4:=by simp at hc';omega
 refine Qi ?_;simp only[go_sem];refine Qa ?_;simp only[go_sem];refine Q5 ?_;refine Qa ?_;simp only[go_sem,Q3];intro _;refine Qh (Qf (Qw (fun m e1 H1=>∃(k:Nat),m=cs.length-k∧k≤cs.length∧Qf6 Qqt (cs.take k)≤k * (160 * 549755813888)∧(∀(i:Nat) (hi:i<cs.length),i<k→Qah9 cs i hi)∧Kn H H1 [] []∧
  e1=[(1,.c (.pp [.sl fl 3 (Ql cs)])),(3,.c (.int .i64 (Qf6 Qqt (cs.take k):Nat))),(12,.c (.sl fl 3 (Ql cs))),(13,.c (.int .i64 cs.length)),(14,.c (.int .i64 k))]) cs.length ?_ ?_))
 ·exact⟨0,by omega,by omega,by simp[Qf6],fun _ _ h=>by omega,kn,rfl⟩
 ·rintro m e1 H1 ⟨k,hm,hk,hsum,hdone,kn,rfl⟩;refine Qa ?_;simp only[go_sem];refine Qh (Qe rfl ?_ ?_)
  ·intro hc2;have hlt:k<cs.length:=by simpa using hc2
   have hss:=Qb8 (f:=Qqt) hlt;refine Qi ?_;simp only[go_sem];refine Qh (Qf ?_);refine Qa ?_;simp only[go_sem,hlt,Q3,Qal _ _ hlt,CodeD.cells];obtain⟨q,hq⟩:∃q,cs[k]=q:=⟨_,rfl⟩;have hqf:q.fits:=by subst hq;exact hfit _ (Jd hlt)
   rw[hq];intro x5 hx5 H2 h2;have kn:=kn.al hx5 h2;have hx5:=kn.l 0 rfl;simp only[go_sem,Qlj,hx5];intro H3 h3;have kn:Kn H H3 [] ([]++[(x5,.st [.int .i64 q.params,.int .i64 q.regs,.sl false 5 (Qs q.blocks)])]):=kn.stL 0 rfl h3;refine Q5 ?_;refine Qa ?_;simp only[go_sem];refine Qbhz hlt (by omega) (by rw[hq];exact hqf) fun H4 hu=>?_;have kn:=kn.call0 hu;have hx5:=kn.l 0 rfl;simp only[go_sem,Qlk];refine Qh (Qe rfl ?_ ?_)
   ·intro hc3;have hno:=of_decide_eq_false (Qpp hc3);refine Qa ?_;simp only[go_sem];refine Qk ?_;simp only[go_sem,X.next];exact retf false _ _ _ (Qv3 fun hu=>hno (hu.2.1 k hlt)) kn (by simp[lk])
   ·intro hc3;have hyes:=of_decide_eq_true (Qgc hc3);have hbl:q.blocks.length≤160:=by
     have:=hyes.1;rw[hq]at this;simp only[Qq8,Jl,decide_eq_true_eq]at this;omega
    have hcq:Qqt q≤160 * 549755813888:=Nat.le_trans (Qazn hqf) (Jap _ hbl);have hk4:k * (160 * 549755813888)≤4 * (160 * 549755813888):=Jap _ (by omega);have hk1:(k+1) * (160 * 549755813888)=k * (160 * 549755813888)+160 * 549755813888:=Nat.succ_mul _ _;rw[hq]at hss;refine Qi ?_;simp only[go_sem];refine Qt ?_;simp only[go_sem,hx5];refine Qaz1 hqf hbl fun H5 hu=>?_;have kn:=kn.call0 hu;simp only[go_sem,Qll];refine⟨Qr (by omega) (by omega),?_⟩;refine Qt ?_;simp only[go_sem,X.next];refine⟨Qr (by omega) (by omega),cs.length-(k+1),by omega,k+1,rfl,by omega,by rw[hss,hk1];omega,fun i hi hik=>?_,kn.drop,?_⟩
    ·by_cases h:i<k
     ·exact hdone i hi h
     ·have:i=k:=(by omega);subst this;exact hyes
    ·rw[hss];rfl
  ·intro hc2;have hge:cs.length≤k:=by simpa using hc2
   rw[Jc hge];refine Qv ?_;simp only[go_sem,X.next];refine Qa ?_;simp only[go_sem];refine Qk ?_;refine retf (decide (((Qf6 Qqt cs:Nat):Int)≤800)) _ _ _ ?_ kn (by simp[lk]);by_cases hs:Qf6 Qqt cs≤800
   ·have h1:Qas cs=true:=decide_eq_true ⟨by omega,fun i hi=>hdone i hi (by omega),hs⟩;rw[h1];simp;omega
   ·rw[Qv3 fun hu=>hs hu.2.2];simp;omega
noncomputable def hasG (cs:List CodeD)(k:Int):Bool:=Qas cs&&decide (0≤k∧k≤(cs.length:Int)-1)
end Go.AE.Y
namespace Go.AE.Y
attribute [local instance] Classical.propDecidable
structure Flo where
 n:Nat
 nx:Nat→List Nat
 on:Nat→List Nat
 ins:Nat→List (Option Nat×List Nat)
 ph:Nat→List Nat
 ea:Nat→Nat→List Nat
abbrev RS':=Nat→Prop
def Qbim (x:Option Nat×List Nat)(S:RS'):RS':=fun r=>r∈x.2∨(S r∧x.1≠some r)
def behL (l:List (Option Nat×List Nat))(S:RS'):RS':=l.foldr Qbim S
theorem Qbcr {l:List (Option Nat×List Nat)}{S T:RS'}(h:∀r,S r→T r):∀r,behL l S r→behL l T r:=by
 induction l with
 |nil=>exact h
 |cons x l ih=>
  rintro r (hr|⟨hr,h2⟩)
  ·exact .inl hr
  ·exact .inr ⟨ih r hr,h2⟩
variable {F:Flo}
def Flo.endS (F:Flo)(X:RS')(b:Nat):RS':=fun r=>X r∨r∈F.on b
def Flo.beh (F:Flo)(X:RS')(b k:Nat):RS':=behL ((F.ins b).drop k) (F.endS X b)
theorem Flo.beh_mono {X Y:RS'}(h:∀r,X r→Y r)(b k:Nat):∀r,F.beh X b k r→F.beh Y b k r:=
 Qbcr fun r hr=>hr.elim (fun h1=>.inl (h r h1)) .inr
def Flo.outT (F:Flo)(I:Nat→RS')(b:Nat):RS':=fun r=>∃m∈F.nx b,I m r∨r∈F.ea b m
def Flo.thru (F:Flo)(X:RS')(b:Nat):RS':=fun r=>F.beh X b 0 r∧r∉F.ph b
def Flo.inT (F:Flo)(I:Nat→RS')(b:Nat):RS':=F.thru (F.outT I b) b
theorem Flo.thru_mono {X Y:RS'}(h:∀r,X r→Y r)(b:Nat):∀r,F.thru X b r→F.thru Y b r:=fun r hr=>⟨Flo.beh_mono h b 0 r hr.1,hr.2⟩
def Flo.fits (F:Flo):Prop:=∀b,b<F.n→∀m∈F.nx b,m<F.n
variable {I J:Nat→RS'}
theorem Flo.outT_mono (hf:F.fits)(h:∀b,b<F.n→∀r,I b r→J b r){b:Nat}(hb:b<F.n):∀r,F.outT I b r→F.outT J b r:=by
 rintro r ⟨m,hm,h1|h1⟩
 ·exact⟨m,hm,.inl (h m (hf b hb m hm) r h1)⟩
 ·exact⟨m,hm,.inr h1⟩
theorem Flo.inT_mono (hf:F.fits)(h:∀b,b<F.n→∀r,I b r→J b r){b:Nat}(hb:b<F.n):∀r,F.inT I b r→F.inT J b r:=
 Flo.thru_mono (Flo.outT_mono hf h hb) b
def Flo.Pre (F:Flo)(J:Nat→RS'):Prop:=∀b,b<F.n→∀r,F.inT J b r→J b r
def Flo.LI (F:Flo)(b:Nat):RS':=fun r=>∀J,F.Pre J→J b r
def Flo.LO (F:Flo)(b:Nat):RS':=F.outT F.LI b
def Flo.LB (F:Flo)(b k:Nat):RS':=F.beh (F.LO b) b k
theorem Flo.LI_pre (hf:F.fits):F.Pre F.LI:=fun b hb r hr J hJ=>hJ b hb r (Flo.inT_mono hf (fun b hb r hr=>hr J hJ) hb r hr)
def Flo.Below (F:Flo)(I:Nat→RS'):Prop:=∀b,b<F.n→∀r,I b r→F.LI b r
theorem Flo.is_least (h1:F.Pre I)(h2:F.Below I){b:Nat}(hb:b<F.n)(r:Nat):I b r↔F.LI b r:=⟨h2 b hb r,fun h=>h I h1⟩
theorem Flo.Below.inT (hf:F.fits)(h:F.Below I){b:Nat}(hb:b<F.n):∀r,F.inT I b r→F.LI b r:=fun r hr=>Flo.LI_pre hf b hb r (Flo.inT_mono hf h hb r hr)
theorem Flo.Below.outT (hf:F.fits)(h:F.Below I){b:Nat}(hb:b<F.n):∀r,F.outT I b r→F.LO b r:=Flo.outT_mono hf h hb
structure Flo.bd (F:Flo)(R:Nat):Prop where
 on:∀b,b<F.n→∀r∈F.on b,r<R
 ins:∀b,b<F.n→∀x∈F.ins b,∀r∈x.2,r<R
 ea:∀b,b<F.n→∀m∈F.nx b,∀r∈F.ea b m,r<R
noncomputable def ascL (R:Nat)(S:RS'):List Nat:=(List.range R).filter fun r=>decide (S r)
theorem Qg5 {a:List Nat}(ha:a.Nodup):∀{b:List Nat},(∀x∈a,x∈b)→a.length≤b.length:=by
 induction a with
 |nil=>intro b _;simp
 |cons x a ih=>
  intro b h;have hx:=h x Jm;have hn:=Jbh.1 ha;have:=ih hn.2 (b:=b.erase x) fun y hy=>(List.mem_erase_of_ne (fun he=>by subst he;exact hn.1 hy)).2 (h y (Jh _ hy));rw[List.length_erase_of_mem hx]at this;have hp:=List.length_pos_of_mem hx;simp only[Jp];omega
theorem Qaui {a b:List Nat}(ha:a.Nodup)(h:∀x∈a,x∈b)(hl:b.length≤a.length):∀x∈b,x∈a:=fun x hx=>by
 refine Jaq fun hxa=>?_;have:=Qg5 (a:=x::a) (Jbh.2 ⟨hxa,ha⟩) (b:=b) fun y hy=>by
  rcases Jv.1 hy with rfl|hy
  ·exact hx
  ·exact h y hy
 simp only[Jp]at this;omega
theorem Qauh {a:List Nat}{R:Nat}(ha:a.Nodup)(h:∀x∈a,x<R):a.length≤R:=by
 have:=Qg5 ha (b:=List.range R) fun x hx=>J0.2 (h x hx);simpa using this
def addK (ks:List Nat)(b:Nat):List Nat:=if b∈ks then ks else ks++[b]
def tot (n:Nat)(S:Nat→List Nat):Nat:=((List.range n).map fun b=>(S b).length).sum
theorem Qaaf (n:Nat)(S:Nat→List Nat):tot (n+1) S=tot n S+(S n).length:=by simp[tot,List.range_succ]
theorem Qblx {n:Nat}{S T:Nat→List Nat}(h:∀b,b<n→(S b).length≤(T b).length):tot n S≤tot n T:=by
 induction n with
 |zero=>simp[tot]
 |succ n ih=>
  rw[Qaaf,Qaaf];have:=ih fun b hb=>h b (by omega);have:=h n (by omega);omega
theorem Qbrj {n:Nat}{S T:Nat→List Nat}{c:Nat}(hc:c<n)(h:∀b,b<n→(S b).length≤(T b).length)(hlt:(S c).length<(T c).length):tot n S<tot n T:=by
 induction n with
 |zero=>omega
 |succ n ih=>
  rw[Qaaf,Qaaf];have h1:=h n (by omega);by_cases hcn:c=n
  ·subst hcn;have:=Qblx (n:=c) (S:=S) (T:=T) fun b hb=>h b (by omega);omega
  ·have:=ih (by omega) fun b hb=>h b (by omega);omega
end Go.AE.Y
namespace Go.AE.Y
attribute [local go_sem] cond_true cond_false Bool.not_true Bool.not_false
open Go.Proofs.Tryz
variable {H:Heap}{K:V→Heap→Prop}
attribute [local instance] Classical.propDecidable
def Qaue (x:InsD):Option Nat:=if Qh3 x.op then some x.to.toNat else none
def toN (l:List Int):List Nat:=l.map Int.toNat
def Qbrz (q:CodeD)(b m:Nat):List Nat:=(((q.blocks[m]?.map BlkD.phis).getD []).map fun p=>(p.args.getD ((Q0 (gnx q) (m:Int) q.blocks.length).idxOf (b:Int)) 0).toNat)
def Qa80 (q:CodeD):Flo where
 n:=q.blocks.length
 nx b:=nxN (gnx q) b
 on b:=match q.blocks[b]? with
  |some y=>if y.jump=1 then []else [y.on.toNat]
  |none=>[]
 ins b:=match q.blocks[b]? with
  |some y=>y.ins.map fun x=>(Qaue x,toN x.args)
  |none=>[]
 ph b:=match q.blocks[b]? with
  |some y=>y.phis.map fun p=>p.to.toNat
  |none=>[]
 ea:=Qbrz q
def rIn (q:CodeD)(v:Int):Prop:=0≤v∧v<q.regs
structure BlkD.ok (q:CodeD)(b:Nat)(y:BlkD):Prop where
 nxl:y.next.length≤2
 nx:∀v∈y.next,1≤v∧v<q.blocks.length
 jmp:y.jump=1∨y.jump=2∨y.jump=3
 on:¬y.jump=1→rIn q y.on
 args:∀x∈y.ins,∀v∈x.args,rIn q v
 to:∀x∈y.ins,Qh3 x.op=true→rIn q x.to
 pto:∀p∈y.phis,rIn q p.to
 pargs:∀p∈y.phis,∀v∈p.args,rIn q v
 pal:∀p∈y.phis,p.args.length=(Q0 (gnx q) (b:Int) q.blocks.length).length
 al:∀x∈y.ins,x.args.length≤3
structure CodeD.ok (q:CodeD):Prop where
 r0:0≤q.regs
 r1:q.regs≤300
 b0:0<q.blocks.length
 b1:q.blocks.length≤160
 bs:∀(b:Nat) (h:b<q.blocks.length),q.blocks[b].ok q b
 il:∀(b:Nat) (h:b<q.blocks.length),q.blocks[b].ins.length≤1200∧q.blocks[b].phis.length≤1200
theorem Qa69 {α:Type}{f:α→Nat}{l:List α}{x:α}(h:x∈l):f x≤Qf6 f l:=by
 induction l with
 |nil=>simp at h
 |cons y l ih=>
  simp only[Qf6,J3,Ja6]at *;rcases Jv.1 h with rfl|h
  ·omega
  ·have:=ih h;omega
theorem Qge {cs:List CodeD}(h:Qas cs=true){k:Nat}(hk:k<cs.length):cs[k].ok:=by
 obtain⟨_,h2,h3⟩:=of_decide_eq_true h;obtain⟨g1,g2⟩:=h2 k hk;simp only[Qq8,Jl,decide_eq_true_eq]at g1;refine⟨by omega,by omega,by omega,by omega,fun b hb=>?_,fun b hb=>?_⟩
 ·have g:=g2 b hb;simp only[Q0k,Jl]at g;obtain⟨⟨⟨j,nx⟩,ins⟩,ph⟩:=g;simp only[Qmv,Jl,decide_eq_true_eq]at j;obtain⟨j1,j2⟩:=j;rw[J8]at nx ins ph;have hj:(cs[k].blocks[b].jump=1∨cs[k].blocks[b].jump=2∨cs[k].blocks[b].jump=3)∧cs[k].blocks[b].next.length≤2:=by
   rw[Qky]at j1;split at j1
   ·omega
   ·split at j1
    ·omega
    ·split at j1 <;> omega
  have hi:∀x∈cs[k].blocks[b].ins,(∀v∈x.args,rIn cs[k] v)∧(Qh3 x.op=true→rIn cs[k] x.to):=fun x hx=>by
   have:=ins x hx;simp only[Q42,insH,Qpq,Jl,J8,decide_eq_true_eq,Qrq hk]at this;obtain⟨⟨⟨_,a1⟩,a2⟩,_⟩:=this;refine⟨fun v hv=>by have:=a1 v hv;exact⟨by omega,by omega⟩,fun hm=>?_⟩;rw[insT,hm,if_pos rfl,decide_eq_true_eq]at a2;exact⟨by omega,by omega⟩
  have hal:∀x∈cs[k].blocks[b].ins,x.args.length≤3:=fun x hx=>by
   have:=ins x hx;simp only[Q42,Jl]at this;have h3:=this.2;rw[insL]at h3;split at h3
   ·simp only[Jl,decide_eq_true_eq]at h3;have hn:x.n.toNat<cs.length:=(by omega);have:=(h2 x.n.toNat hn).1;simp only[Qq8,Jl,decide_eq_true_eq]at this;rw[Qrd hn]at h3;omega
   ·simp only[Jl,decide_eq_true_eq]at h3;have:=argsN_in (op:=x.op);omega
  have hp:∀p∈cs[k].blocks[b].phis,rIn cs[k] p.to∧(∀v∈p.args,rIn cs[k] v)∧p.args.length=(Q0 (gnx cs[k]) (b:Int) cs[k].blocks.length).length:=fun p hp=>by
   have:=ph p hp;simp only[phiG,Qpq,Jl,J8,decide_eq_true_eq,Qp]at this;obtain⟨⟨⟨_,a1⟩,a2⟩,a3⟩:=this;have hgn:(fun i=>(cs[k].blocks.map BlkD.next).getD i [])=gnx cs[k]:=rfl;rw[hgn]at a1;exact⟨⟨by omega,by omega⟩,fun v hv=>by have:=a2 v hv;exact⟨by omega,by omega⟩,by omega⟩
  refine⟨hj.2,fun v hv=>?_,hj.1,fun hn=>?_,fun x hx=>(hi x hx).1,fun x hx=>(hi x hx).2,fun p h=>(hp p h).1,fun p h=>(hp p h).2.1,fun p h=>(hp p h).2.2,hal⟩
  ·have:=nx v hv;simp only[Q3t,decide_eq_true_eq,Qp]at this;omega
  ·rw[if_neg hn,decide_eq_true_eq]at j2;exact⟨by omega,by omega⟩
 ·have a1:=Qa69 (f:=Qqt) (Jd hk);have a2:=Qa69 (f:=Qxg) (Jd hb);simp only[Qqt,Qxg]at *;omega
variable {q:CodeD}
theorem Qxh {b:Nat}(h:b<q.blocks.length):gnx q b=q.blocks[b].next:=by simp[gnx,Jb,h]
theorem CodeD.ok.next (h:q.ok){b m:Nat}(hb:b<q.blocks.length)(hm:m∈(Qa80 q).nx b):m<q.blocks.length∧(m:Int)∈gnx q b:=by
 obtain⟨v,hv,rfl⟩:=Jt.1 hm;have hv':=hv;rw[Qxh hb]at hv';have:=(h.bs b hb).nx v hv';refine⟨by omega,?_⟩;have e:((v.toNat:Nat):Int)=v:=by omega
 rw[e];exact hv
theorem CodeD.ok.ix (h:q.ok){b m:Nat}(hb:b<q.blocks.length)(hm:(m:Int)∈gnx q b):(Q0 (gnx q) (m:Int) q.blocks.length).idxOf (b:Int)<(Q0 (gnx q) (m:Int) q.blocks.length).length:=by
 refine List.idxOf_lt_length_of_mem ?_;simp only[Q0,Jt,Jy,J0];exact⟨b,⟨hb,Jak.2 hm⟩,rfl⟩
theorem IsIx.idx {ns:List Int}{v r:Int}(h:IsIx ns v r)(hm:v∈ns):r=(ns.idxOf v:Nat):=by
 rcases h with ⟨_,hn⟩|⟨i,rfl,h1,h2,h3⟩
 ·exact absurd hm hn
 ·have h4:ns[i]=v:=by rw[←h2,Jb,Jg h1];rfl
  have h5:ns.idxOf v=i:=by
   have e:ns=ns.take i++ns[i]::ns.drop (i+1):=by rw[←Jai h1,Jal]
   rw[e,List.idxOf_append,if_neg h3,h4];simp[Jo];omega
  rw[h5]
def Mem (bs:List Bool)(S:RS'):Prop:=∀r,bs.getD r false=true↔S r
theorem Mem.congr {bs:List Bool}{S T:RS'}(h:Mem bs S)(hST:∀r,S r↔T r):Mem bs T:=fun r=>(h r).trans (hST r)
theorem Qatf (S:List Bool)(x y:Nat)(v:Bool):(S.set x v).getD y false=(if y=x∧x<S.length then v else S.getD y false):=by
 simp only[Jb,Ja9];by_cases h:x=y
 ·subst h;by_cases h2:x<S.length <;> simp[h2]
 ·have:¬y=x:=fun e=>h e.symm;simp[h,this]
theorem Mem.ins {bs:List Bool}{S:RS'}(h:Mem bs S){x:Nat}(hx:x<bs.length):Mem (bs.set x true) (fun r=>r=x∨S r):=fun r=>by
 rw[Qatf];by_cases hr:r=x
 ·simp[hr,hx]
 ·simp only[hr,false_and,if_false,false_or];exact h r
theorem Mem.del {bs:List Bool}{S:RS'}(h:Mem bs S){x:Nat}(hx:x<bs.length):Mem (bs.set x false) (fun r=>S r∧r≠x):=fun r=>by
 rw[Qatf];by_cases hr:r=x
 ·simp[hr,hx]
 ·simp only[hr,false_and,if_false,ne_eq,not_false_eq_true,and_true];exact h r
theorem Mem.lt {bs:List Bool}{S:RS'}(h:Mem bs S){r:Nat}(hr:S r):r<bs.length:=by
 have:=(h r).2 hr;refine Jaq fun hn=>?_;rw[Jb,Jj (by omega)]at this;exact absurd this (by simp)
theorem Mem.none (n:Nat):Mem (List.replicate n false) fun _=>False:=fun r=>by
 rw[Jb,Jas];split <;> simp
end Go.AE.Y
namespace Go.AE.Y
attribute [local go_sem] cond_true cond_false Bool.not_true Bool.not_false
open Go.Proofs.Tryz
variable {H H0:Heap}{K:V→Heap→Prop}{E L:List (Nat×Obj)}
def madeI (x:InsD):Int:=if Qh3 x.op then x.to else -1
theorem Qbde {l:List Int}{a:Nat}(h:a<l.length):l.getD a 0∈l:=by
 rw[Jb,Jg h];exact Jd h
structure CodeR (F:Heap)(X:List Nat)(bc:C)(q:CodeD):Prop where
 ow:bc.isOw=false
 s:∀H1:Heap,(∀m,F m≠.none→m∉X→H1 m=F m)→Slc H1 5 (Qs q.blocks) bc
theorem CodeR.sl (F:Heap)(X:List Nat)(fl:Bool)(q:CodeD):CodeR F X (.sl fl 5 (Qs q.blocks)) q:=⟨rfl,fun _ _=>.mk' _ _ _ _⟩
theorem CodeR.rd {F H:Heap}{X:List Nat}{bc:C}{q:CodeD}{E L:List (Nat×Obj)}(h:CodeR F X bc q)(kn:Kn F H E L)(hX:∀x∈E.map Prod.fst,x∈X):Slc H 5 (Qs q.blocks) bc:=
 h.s H fun m hm hx=>kn.chg m hm fun hh=>hx (hX m hh)
theorem CodeR.mid {F H:Heap}{bc:C}{q:CodeD}{L:List (Nat×Obj)}(h:CodeR F [] bc q)(kn:Kn F H [] L):CodeR H (L.map Prod.fst) bc q:=
 ⟨h.ow,fun H1 hh=>h.s H1 fun m hm _=>by
  have h1:=kn.chg m hm (by simp);rw[hh m (by rw[h1];exact hm) fun hx=>?_,h1];obtain⟨p,hp,he⟩:=Jt.1 hx;exact hm (he▸kn.loc p hp)⟩
theorem CodeR.nil {F:Heap}{X:List Nat}{bc:C}{q:CodeD}(h:CodeR F X bc q):CodeR F [] bc q:=⟨h.ow,fun H1 hh=>h.s H1 fun m hm _=>hh m hm (by simp)⟩
theorem CodeR.vsl {F:Heap}{X:List Nat}{q:CodeD}{z:Nat}(hz:F z=.vec 5 (Qs q.blocks))(hX:z∉X):CodeR F X (.vsl z 5 0 q.blocks.length) q:=
 ⟨rfl,fun H1 hh=>by
  have h1:H1 z=.vec 5 (Qs q.blocks):=by rw[hh z (by rw[hz];simp) hX,hz]
  exact⟨by simp only[okSl,h1,Qp];exact⟨trivial,by omega⟩,rfl,by simp only[rowsOf,h1,Jac];exact Jc (by rw[Qp];exact Jk _),by simp only[lenC,Qp]⟩⟩
end Go.AE.Y
namespace Go.AE.Y
attribute [local go_sem] cond_true cond_false Bool.not_true Bool.not_false
open Go.Proofs.Tryz
variable {H H0 F:Heap}{K:V→Heap→Prop}{E L:List (Nat×Obj)}
structure SetO where
 c:C
 lg:List (Nat×Obj)
 ks:List Nat
structure SetO.ok (R:Nat)(s:SetO):Prop where
 nd:s.ks.Nodup
 lt:∀x∈s.ks,x<R
 m:(s.c=.mnil∧s.lg=[]∧s.ks=[])∨∃M ver,s.c=.mp M∧s.lg=[(M,.map ver (Qbr3 s.ks))]
def Qbst (ss:List SetO):List (List C):=ss.map fun s=>[s.c]
theorem SetO.ok.isOw {R:Nat}{s:SetO}(h:s.ok R):s.c.isOw=false:=by rcases h.m with ⟨h,_⟩|⟨M,ver,h,_⟩ <;> rw[h] <;> rfl
theorem SetO.ok.len {R:Nat}{s:SetO}(h:s.ok R):s.ks.length≤R:=Qauh h.nd h.lt
def imE (q:CodeD)(fl:Bool)(l yi yp:Nat)(ss:List SetO)(pr:List (List C)):List (Nat×Obj):=
 [(l,.st [.int .i64 q.params,.int .i64 q.regs,.sl fl 5 (Qs q.blocks),.vsl yi 1 0 q.blocks.length,.vsl yp 1 0 q.blocks.length]),(yi,.vec 1 (Qbst ss)),(yp,.vec 1 pr)]++ss.flatMap SetO.lg
structure imOk (q:CodeD)(ss:List SetO)(pr:List (List C)):Prop where
 l:ss.length=q.blocks.length
 s:∀s∈ss,s.ok q.regs.toNat
 pl:pr.length=q.blocks.length
 p:∀b,b<q.blocks.length→∃fl,pr.getD b []=[.sl fl 1 (Qb (Q0 (gnx q) (b:Int) q.blocks.length))]
def tabS (ss:List SetO)(b:Nat):RS':=fun r=>r∈((ss[b]?.map SetO.ks).getD [])
end Go.AE.Y
namespace Go.AE.Y
attribute [local instance] Classical.propDecidable
def tab (zs:List (Nat×List Bool))(b:Nat):RS':=fun r=>(((zs[b]?).map Prod.snd).getD []).getD r false=true
variable {zs zi zo:List (Nat×List Bool)}{F:Flo}
theorem Qbmg {b:Nat}(h:b<zs.length)(r:Nat):tab zs b r↔zs[b].2.getD r false=true:=by simp[tab,h]
theorem Qa74 {b:Nat}{x:Nat×List Bool}(h:b<zs.length)(r:Nat):tab (zs.set b x) b r↔x.2.getD r false=true:=by simp[tab,h]
theorem Qvq {b c:Nat}{x:Nat×List Bool}(h:c≠b):tab (zs.set b x) c=tab zs c:=by
 funext r
 simp only[tab];rw[Jaw (fun e=>h e.symm)]
theorem Qas7 {a b:List Bool}(hl:a.length=b.length)(h:∀r,a.getD r false=true→b.getD r false=true):cnt a≤cnt b∧(∀r,a.getD r false≠b.getD r false→cnt a<cnt b):=by
 induction a generalizing b with
 |nil=>
  cases b with
  |nil=>exact⟨Jk _,fun r hr=>absurd rfl hr⟩
  |cons=>simp at hl
 |cons x a ih=>
  cases b with
  |nil=>simp at hl
  |cons y b=>
   have ih':=ih (b:=b) (by simpa using hl) fun r hr=>by have:=h (r+1);simpa using this (by simpa using hr)
   have h0:x=true→y=true:=by have:=h 0;simpa using this
   have hc:∀(z:Bool) (l:List Bool),cnt (z::l)=cnt l+(if z=true then 1 else 0):=fun z l=>by
    simp only[cnt,Jbf];cases z <;> simp
   rw[hc,hc];refine⟨?_,fun r hr=>?_⟩
   ·cases x with
    |false=>have:=ih'.1;cases y <;> simp <;> omega
    |true=>rw[h0 rfl];have:=ih'.1;simp;omega
   ·cases r with
    |zero=>
     have hxy:x≠y:=by simpa using hr
     cases x with
     |true=>exact absurd (h0 rfl).symm hxy
     |false=>
      cases y with
      |false=>exact absurd rfl hxy
      |true=>have:=ih'.1;simp;omega
    |succ r=>
     have:=ih'.2 r (by simpa using hr)
     cases x with
     |false=>cases y <;> simp <;> omega
     |true=>rw[h0 rfl];simp;omega
def totZ (zs:List (Nat×List Bool)):Nat:=(zs.map fun p=>cnt p.2).sum
theorem Qa76 {b:Nat}{x:Nat×List Bool}(h:b<zs.length):totZ (zs.set b x)+cnt zs[b].2=totZ zs+cnt x.2:=by
 induction zs generalizing b with
 |nil=>simp at h
 |cons z zs ih=>
  cases b with
  |zero=>simp[totZ];omega
  |succ b=>
   have:=ih (b:=b) (by simpa using h);simp only[totZ,Ja5,J3,Ja6,List.getElem_cons_succ]at this⊢;omega
structure LvInv (F:Flo)(zi zo:List (Nat×List Bool)):Prop where
 bi:∀b,b<F.n→∀r,tab zi b r→F.LI b r
 bo:∀b,b<F.n→∀r,tab zo b r→F.LO b r
 post:∀b,b<F.n→∀r,tab zi b r→F.thru (tab zo b) b r
def LvCl (F:Flo)(zi zo:List (Nat×List Bool))(b:Nat):Prop:=(∀r,F.outT (tab zi) b r→tab zo b r)∧∀r,F.thru (tab zo b) b r→tab zi b r
theorem LvInv.done (h:LvInv F zi zo)(hf:F.fits)(hc:∀b,b<F.n→LvCl F zi zo b):∀b,b<F.n→∀r,(tab zi b r↔F.LI b r)∧(tab zo b r↔F.LO b r):=by
 have hp:F.Pre (tab zi):=fun b hb r hr=>(hc b hb).2 r (Flo.thru_mono (hc b hb).1 b r hr);intro b hb r;refine⟨Flo.is_least hp h.bi hb r,h.bo b hb r,fun hr=>(hc b hb).1 r ?_⟩;exact Flo.outT_mono hf (fun c hc r hr=>(Flo.is_least hp h.bi hc r).2 hr) hb r hr
theorem LvInv.step {R z w y b:Nat}{bs bw bs1 nb:List Bool}{a a1 a2:Bool}(h:LvInv F zi zo)(hf:F.fits)(hb:b<F.n)(hil:zi.length=F.n)(hol:zo.length=F.n)(hRi:∀p∈zi,p.2.length=R)(hRo:∀p∈zo,p.2.length=R)
  (hl1:bs1.length=R) (hln:nb.length=R) (hzo:zo[b]? = some (z,bs)) (hzi:zi[b]? = some (w,bw))
  (g1:∀r,bs.getD r false=true→bs1.getD r false=true) (g2:∀r,bs1.getD r false=true→F.LO b r) (g3:∀r,F.outT (tab zi) b r→bs1.getD r false=true)
  (g4:∀r,nb.getD r false=true↔F.thru (fun r=>bs1.getD r false=true) b r)
  (k1:a1=true→a=true∨cnt bs<cnt bs1) (k2:a1=false→a=false∧bs1=bs)
  (k3:a2=true→a1=true∨∃r,nb.getD r false≠bw.getD r false) (k4:a2=false→a1=false∧∀r,r<R→nb.getD r false=bw.getD r false) :
  LvInv F (zi.set b (y,nb)) (zo.set b (z,bs1))∧totZ zi+totZ zo≤totZ (zi.set b (y,nb))+totZ (zo.set b (z,bs1))∧
   (a2=true→a=true∨totZ zi+totZ zo<totZ (zi.set b (y,nb))+totZ (zo.set b (z,bs1)))∧
   (a2=false→a=false∧LvCl F (zi.set b (y,nb)) (zo.set b (z,bs1)) b∧∀c,LvCl F zi zo c→LvCl F (zi.set b (y,nb)) (zo.set b (z,bs1)) c):=by
 have hbi:b<zi.length:=by omega
 have hbo:b<zo.length:=by omega
 have ezo:zo[b]=(z,bs):=by rw[Jg hbo]at hzo;simpa using hzo
 have ezi:zi[b]=(w,bw):=by rw[Jg hbi]at hzi;simpa using hzi
 have hlb:bs.length=R:=hRo (z,bs) (by rw[←ezo];exact Jd hbo);have hlw:bw.length=R:=hRi (w,bw) (by rw[←ezi];exact Jd hbi);have tzo:∀r,tab zo b r↔bs.getD r false=true:=fun r=>by rw[Qbmg hbo,ezo]
 have tzi:∀r,tab zi b r↔bw.getD r false=true:=fun r=>by rw[Qbmg hbi,ezi]
 have tzo':∀r,tab (zo.set b (z,bs1)) b r↔bs1.getD r false=true:=fun r=>Qa74 hbo r;have tzi':∀r,tab (zi.set b (y,nb)) b r↔nb.getD r false=true:=fun r=>Qa74 hbi r;have hsub:∀r,bw.getD r false=true→nb.getD r false=true:=fun r hr=>by
  rw[g4];exact Flo.thru_mono (fun r hr=>g1 r ((tzo r).1 hr)) b r (h.post b hb r ((tzi r).2 hr))
 have c1:=Qas7 (a:=bs) (b:=bs1) (by omega) g1;have c2:=Qas7 (a:=bw) (b:=nb) (by omega) hsub;have t1:=Qa76 (zs:=zo) (x:=(z,bs1)) hbo;have t2:=Qa76 (zs:=zi) (x:=(y,nb)) hbi;rw[ezo]at t1;rw[ezi]at t2;simp only at t1 t2;refine⟨⟨fun c hc r hr=>?_,fun c hc r hr=>?_,fun c hc r hr=>?_⟩,by have:=c1.1;have:=c2.1;omega,fun ha=>?_,fun ha=>?_⟩
 ·by_cases hcb:c=b
  ·subst hcb;rw[tzi',g4]at hr;exact Flo.LI_pre hf c hb r (Flo.thru_mono g2 c r hr)
  ·rw[Qvq hcb]at hr;exact h.bi c hc r hr
 ·by_cases hcb:c=b
  ·subst hcb;rw[tzo']at hr;exact g2 r hr
  ·rw[Qvq hcb]at hr;exact h.bo c hc r hr
 ·by_cases hcb:c=b
  ·subst hcb;rw[tzi',g4]at hr;exact Flo.thru_mono (fun r hr=>(tzo' r).2 hr) c r hr
  ·rw[Qvq hcb]at hr⊢;exact h.post c hc r hr
 ·rcases k3 ha with h1|⟨r,hr⟩
  ·rcases k1 h1 with h2|h2
   ·exact .inl h2
   ·right;have:=c2.1;omega
  ·right;have:=c2.2 r (fun e=>hr e.symm);have:=c1.1;omega
 ·obtain⟨h1,h2⟩:=k4 ha;obtain⟨h3,h4⟩:=k2 h1;have hnb:∀r,nb.getD r false=bw.getD r false:=fun r=>by
   by_cases hr:r<R
   ·exact h2 r hr
   ·rw[Jb,Jb,Jj (by omega),Jj (by omega)]
  have ti:tab (zi.set b (y,nb))=tab zi:=by
   funext c r
   by_cases hcb:c=b
   ·subst hcb;refine propext ?_;rw[tzi',tzi,hnb]
   ·rw[Qvq hcb]
  have to:tab (zo.set b (z,bs1))=tab zo:=by
   funext c r
   by_cases hcb:c=b
   ·subst hcb;refine propext ?_;rw[tzo',tzo,h4]
   ·rw[Qvq hcb]
  refine⟨h3,⟨fun r hr=>?_,fun r hr=>?_⟩,fun c hc=>?_⟩
  ·rw[ti]at hr;exact (tzo' r).2 (g3 r hr)
  ·rw[tzi',g4];exact Flo.thru_mono (fun r hr=>(tzo' r).1 hr) b r hr
  ·rw[LvCl,ti,to];exact hc
end Go.AE.Y
namespace Go.AE.Y
attribute [local go_sem] cond_true cond_false Bool.not_true Bool.not_false
open Go.Proofs.Tryz
variable {H H0 F:Heap}{K:V→Heap→Prop}{E L:List (Nat×Obj)}
def Qbqx (R:Nat)(zs:List (Nat×List Bool)):List (List C):=zs.map fun p=>[.vsl p.1 1 0 R]
def obZ (zs:List (Nat×List Bool)):List (Nat×Obj):=zs.map fun p=>(p.1,.vec 1 (Qav p.2))
def lvE (R yi yo:Nat)(zi zo:List (Nat×List Bool)):List (Nat×Obj):=[(yi,.vec 1 (Qbqx R zi)),(yo,.vec 1 (Qbqx R zo))]++(obZ zi++obZ zo)
variable {R yi yo:Nat}{zi zo:List (Nat×List Bool)}
structure lvOk (R n:Nat)(zi zo:List (Nat×List Bool)):Prop where
 i:zi.length=n
 o:zo.length=n
 li:∀p∈zi,p.2.length=R
 lo:∀p∈zo,p.2.length=R
end Go.AE.Y
namespace Go.AE.Y
attribute [local go_sem] cond_true cond_false Bool.not_true Bool.not_false
open Go.Proofs.Tryz
variable {H H0 F:Heap}{K:V→Heap→Prop}{E L:List (Nat×Obj)}
def Qbqw (zs:List (Nat×List Bool)):List (List C):=zs.map fun p=>[.sl false 1 (Qav p.2)]
def liveB (q:CodeD)(zi zo:List (Nat×List Bool)):Prop:=lvOk q.regs.toNat q.blocks.length zi zo∧∀b,b<q.blocks.length→∀r,(tab zi b r↔(Qa80 q).LI b r)∧(tab zo b r↔(Qa80 q).LO b r)
def tailL (x2 x3 yi yo n:Nat):List (Nat×Obj):=[(x2,.st [.sl true 1 [],.sl true 1 []]),(x3,.st [.vsl yi 1 0 n,.vsl yo 1 0 n])]
end Go.AE.Y
namespace Go.AE.Y
attribute [local go_sem] cond_true cond_false Bool.not_true Bool.not_false
open Go.Proofs.Tryz
variable {H H0:Heap}{K:V→Heap→Prop}{E L:List (Nat×Obj)}
def onesL (bs:List Bool)(n:Nat):List Nat:=(List.range n).filter fun r=>bs.getD r false
def listsR (ls:List (List Nat)):List (List C):=ls.map fun l=>[.sl false 1 (Qag l)]
noncomputable def insLs (q:CodeD):List (List Nat):=(List.range q.blocks.length).map fun b=>ascL q.regs.toNat ((Qa80 q).LI b)
noncomputable def outsLs (q:CodeD):List (List Nat):=(List.range q.blocks.length).map fun b=>ascL q.regs.toNat ((Qa80 q).LO b)
noncomputable def Qbhv (q:CodeD)(b k:Nat):List Nat:=ascL q.regs.toNat ((Qa80 q).LB b k)
noncomputable def codeOr (cs:List CodeD)(k:Int)(f:CodeD→List (List Nat)):List (List Nat):=if hasG cs k=true then match cs[k.toNat]? with
 |some q=>f q
 |none=>[]else []
def mxF (f:Nat→Nat):Nat→Nat
 |0=>0
 |m+1=>max (mxF f m) (f m)
noncomputable def Qbpr (q:CodeD)(b:Nat):Nat:=mxF (fun k=>(Qbhv q b k).length) (((q.blocks[b]?.map BlkD.ins).getD []).length+1)
noncomputable def Qbr4 (q:CodeD):Nat:=mxF (Qbpr q) q.blocks.length
noncomputable def upTo (q:CodeD)(b k:Nat):Nat:=max (mxF (Qbpr q) b) (mxF (fun k=>(Qbhv q b k).length) k)
noncomputable def mostI (cs:List CodeD)(k:Int):Int:=if hasG cs k=true then match cs[k.toNat]? with
 |some q=>(Qbr4 q:Int)
 |none=>-1 else -1
def spS (zi zo:List (Nat×List Bool)):Obj:=.st [.sl false 1 (Qbqw zi),.sl false 1 (Qbqw zo)]
end Go.AE.Y
namespace Go.AE.Y
attribute [local instance] Classical.propDecidable
def asS (S:Nat→List Nat)(b:Nat):RS':=fun r=>r∈S b
structure ImInv (F:Flo)(R:Nat)(S:Nat→List Nat):Prop where
 below:F.Below (asS S)
 post:∀b,b<F.n→∀r,asS S b r→F.inT (asS S) b r
 nd:∀b,(S b).Nodup
 lt:∀b,∀r∈S b,r<R
variable {F:Flo}{R:Nat}{S:Nat→List Nat}
theorem ImInv.same {b:Nat}{ks:List Nat}(h:ImInv F R S)(hb:b<F.n)(hnd:ks.Nodup)(hks:∀r,r∈ks↔F.inT (asS S) b r)(hl:ks.length=(S b).length):∀r,F.inT (asS S) b r→asS S b r:=fun r hr=>
 Qaui (h.nd b) (fun x hx=>(hks x).2 (h.post b hb x hx)) (by omega) r ((hks r).2 hr)
theorem ImInv.step {b:Nat}{ks:List Nat}(h:ImInv F R S)(hf:F.fits)(hb:b<F.n)(hnd:ks.Nodup)(hlt:∀r∈ks,r<R)(hks:∀r,r∈ks↔F.inT (asS S) b r)(hl:¬ks.length=(S b).length) :
  ImInv F R (fun c=>if c=b then ks else S c)∧tot F.n S<tot F.n (fun c=>if c=b then ks else S c):=by
 have hsub:∀r,r∈S b→r∈ks:=fun r hr=>(hks r).2 (h.post b hb r hr);have hle:=Qg5 (h.nd b) hsub;have hS:∀c,c<F.n→∀r,asS S c r→asS (fun c=>if c=b then ks else S c) c r:=fun c _ r hr=>by
  simp only[asS];by_cases hc:c=b
  ·subst hc;rw[if_pos rfl];exact hsub r hr
  ·rw[if_neg hc];exact hr
 refine⟨⟨fun c hc r hr=>?_,fun c hc r hr=>?_,fun c=>?_,fun c r hr=>?_⟩,Qbrj hb (fun c hc=>?_) ?_⟩
 ·simp only[asS]at hr;by_cases hcb:c=b
  ·subst hcb;rw[if_pos rfl]at hr;exact h.below.inT hf hb r ((hks r).1 hr)
  ·rw[if_neg hcb]at hr;exact h.below c hc r hr
 ·have h1:F.inT (asS S) c r:=by
   simp only[asS]at hr;by_cases hcb:c=b
   ·subst hcb;rw[if_pos rfl]at hr;exact (hks r).1 hr
   ·rw[if_neg hcb]at hr;exact h.post c hc r hr
  exact Flo.inT_mono hf hS hc r h1
 ·by_cases hcb:c=b
  ·subst hcb;simpa using hnd
  ·simpa[hcb]using h.nd c
 ·by_cases hcb:c=b
  ·subst hcb;exact hlt r (by simpa using hr)
  ·exact h.lt c r (by simpa[hcb]using hr)
 ·by_cases hcb:c=b
  ·subst hcb;simpa using hle
  ·simp[hcb]
 ·simp only[if_pos];omega
theorem ImInv.done (h:ImInv F R S)(hc:∀b,b<F.n→∀r,F.inT (asS S) b r→asS S b r){b:Nat}(hb:b<F.n)(r:Nat):r∈S b↔F.LI b r:=
 Flo.is_least hc h.below hb r
theorem ImInv.start:ImInv F R fun _=>[]:=⟨fun b _ r hr=>absurd hr (by simp[asS]),fun b _ r hr=>absurd hr (by simp[asS]),fun _=>by simp,fun _ r hr=>by simp at hr⟩
end Go.AE.Y
namespace Go.AE.Y
attribute [local go_sem] cond_true cond_false Bool.not_true Bool.not_false
open Go.Proofs.Tryz
variable {H H0 F:Heap}{K:V→Heap→Prop}{E L:List (Nat×Obj)}
def ksOf (ss:List SetO)(b:Nat):List Nat:=(ss[b]?.map SetO.ks).getD []
end Go.AE.Y
namespace Go.AE.Y
attribute [local go_sem] cond_true cond_false Bool.not_true Bool.not_false
open Go.Proofs.Tryz
variable {H H0:Heap}{K:V→Heap→Prop}{E B Lg:List (Nat×Obj)}
theorem Qmt {S:Nat→Bool}{a b a' b':V}(h:FrzV H S a a')(k:FrzV H S b b'):FrzV H S (.tup [a,b]) (.tup [a',b']):=by
 refine .tup _ _ rfl fun j x x' h1 h2=>?_
 match j with
 |0=>simp at h1 h2;subst h1;subst h2;exact h
 |1=>simp at h1 h2;subst h1;subst h2;exact k
 |j+2=>simp at h1
theorem Qjs {S:Nat→Bool}(cs:List CodeD):FrzV H S (.ag [.sl false 3 (Ql cs)]) (.ag [.sl false 3 (Ql cs)]):=FrzL.ag (.cons (FrzR.same (Qbh cs)).sl .nil)
theorem UnitOk.fits {cs:List CodeD}(h:UnitOk cs):∀c∈cs,c.fits:=fun c hc=>(h.2.2 c hc).f
end Go.AE.Y
namespace Go.AE.Y
attribute [local go_sem] cond_true cond_false Bool.not_true Bool.not_false
open Go.Proofs.Tryz
variable {H H0 F:Heap}{K:V→Heap→Prop}{E L:List (Nat×Obj)}
variable {q:CodeD}{fl:Bool}{l yi yp:Nat}{ss:List SetO}{pr:List (List C)}
attribute [local instance] Classical.propDecidable
def Qbqu (op:Int):Bool:=decide (1≤op∧op≤10)&&!decide (op=6)&&!decide (op=7)
noncomputable def Qbr1 (q:CodeD)(b i:Nat)(x:InsD):Bool:=Qbqu x.op&&!decide (x.to.toNat∈Qbhv q b (i+1))
noncomputable def Qbp9 (q:CodeD)(b i:Nat):Bool:=match (q.blocks[b]?).bind (fun y=>y.ins[i]?)with
 |some x=>Qbr1 q b i x
 |none=>false
end Go.AE.Y
namespace Go.AE.Y
attribute [local go_sem] cond_true cond_false Bool.not_true Bool.not_false
open Go.Proofs.Tryz
variable {H H0 F:Heap}{K:V→Heap→Prop}{E L:List (Nat×Obj)}
variable {q:CodeD}{fl:Bool}
attribute [local instance] Classical.propDecidable
def Qbma (q:CodeD)(b:Nat):Nat:=((q.blocks[b]?.map BlkD.ins).getD []).length
noncomputable def idlB (q:CodeD)(b n:Nat):List Nat:=(List.range n).filter (Qbp9 q b)
def itB (k b:Nat)(l:List Nat):List (List Nat):=l.map fun i=>[k,b,i]
noncomputable def itC (q:CodeD)(k nb:Nat):List (List Nat):=(List.range nb).flatMap fun b=>itB k b (idlB q b (Qbma q b))
noncomputable def itU (cs:List CodeD)(nk:Nat):List (List Nat):=(List.range nk).flatMap fun k=>match cs[k]? with
 |some q=>itC q k q.blocks.length
 |none=>[]
noncomputable def idleAll (cs:List CodeD):List (List Nat):=if Qas cs=true then itU cs cs.length else []
noncomputable def idlN (q:CodeD)(nb:Nat):Nat:=((List.range nb).map fun b=>(idlB q b (Qbma q b)).length).sum
def listsT (ls:List (List Nat)):List (List C):=ls.map fun l=>[.sl true 1 (Qag l)]
noncomputable def Qa6r (cs:List CodeD):Int:=if Qas cs=true then (Qf6 Qqt cs:Nat)else -1
end Go.AE.Y
namespace Go.AE.Y
open Go.Proofs.Tryz
def Qlm:List Item:=[fJ 6 2 1,sJ 1 6 5]
def Q77:SC:=sR [tJ 7 4 1,sJ 4 2 7] [2] .ret
def Q78:SC:=sR (fJ 3 2 1::lJ 4 3::aJ 5 Qco [.t 4]::Qlm) [1,2] Q77
def Qajd:SC:=sR [eI 1 (.boxm (.t 0)),eI 2 (.alloc [.int .i64 0,.int .i64 0,.sl true 1 [],.int .i64 0])] [1,2] Q78
def Qxm:List RS:=[.cell 2 4 true]
theorem Qaif:mFn prog Qc8 1 8 Qajd Qxm=true:=by kernel_rfl
def Qid:List Item:=[fJ 6 0 1,sJ 1 6 5]
def Qie:List Item:=[fJ 10 1 1,sJ 1 10 9]
def Qif:List Item:=[fJ 14 4 1,sJ 1 14 13]
def Q1r:SC:=sR [tJ 15 5 1,sJ 5 2 15] [2] .ret
def Q1s:SC:=sR (fJ 11 4 1::lJ 12 11::aJ 13 Qco [.t 12]::Qif) [1,2] Q1r
def Q1t:SC:=sR (fJ 7 1 1::lJ 8 7::eI 9 (.call Qc0 [.t 8,.k (.c (.fn Qc8 []))])::Qie) [1,2] Q1s
def Q1u:SC:=sR (fJ 3 0 1::lJ 4 3::eI 5 (.call Qc1 [.t 4,.k (.c (.fn Qc9 []))])::Qid) [1,2] Q1t
def Q76:SC:=sR [eI 1 (.boxm (.t 0)),eI 2 (.alloc [.sl true 2 [],.sl true 4 [],.int .i64 0,.int .i64 0,.sl true 1 []])] [1,2] Q1u
def Qnz:List RS:=[.cell 2 5 true]
theorem Q7r:mFn prog Qf9 1 16 Q76 Qnz=true:=by kernel_rfl
end Go.AE.Y
namespace Go.AE.Y
attribute [local go_sem] cond_true cond_false Bool.not_true Bool.not_false
open Go.Proofs.Tryz
variable {H H0 F:Heap}{K:V→Heap→Prop}{E L:List (Nat×Obj)}
theorem PhiD.allOw (x:PhiD):(x.cells.all fun c=>!c.isOw)=true:=rfl
theorem PhiD.len2 (x:PhiD):x.cells.length=2:=rfl
theorem Qa8s {x:PhiD}(hl:x.args.length≤LIM)(hK:∀H',Upd H H' []→K (.ag x.cells) H'):Qo prog Qc9 [.ag x.cells] H K:=by
 refine Qu ?_;refine Qd Qai Qape ?_;refine Qa ?_;simp only[go_sem,PhiD.cells];intro x2 hx2 H1 h1;have kn:=(Kn.start0 H).al hx2 h1;refine Qad ?_;simp only[go_sem];refine Q22 kn hl fun t Lg H2 hgr how kn=>?_;have hx2:=kn.l 0 rfl;simp only[go_sem,Qn8,how,hx2];intro H3 h3;have kn:Kn H H3 [] ([(x2,.st [.int .i64 x.to,t])]++Lg):=kn.stL 0 rfl h3;have hx2:=kn.l 0 rfl;refine Qk ?_;simp only[go_sem,Qz,Q8,Q05,Ja,forall_eq,RS.op,how,hx2];exact⟨_,FrzL.ag (.cons (Qg rfl) (.cons (hgr.frz kn (Qn _)) .nil)),hK _ kn.fin⟩
theorem Qa8r {x:InsD}(hl:x.args.length≤LIM)(hK:∀H',Upd H H' []→K (.ag x.cells) H'):Qo prog Qc8 [.ag x.cells] H K:=by
 refine Qu ?_;refine Qd Qai Qaif ?_;refine Qa ?_;simp only[go_sem,InsD.cells];intro x1 hx1 H0 h0;have kn:=(Kn.start0 H).al hx1 h0;intro x2 hx2 H1 h1;have kn:=kn.al hx2 h1;have hx1:=kn.l 0 rfl;refine Qa ?_;simp only[go_sem,hx1];refine Q22 kn hl fun t Lg H2 hgr how kn=>?_;have hx1:=kn.l 0 rfl;simp only[go_sem,Qlm,how,hx1];intro H3 h3;have kn:=kn.stL 0 rfl h3;have hx1:=kn.l 0 rfl;have hx2:=kn.l 1 rfl;refine Qa ?_;simp only[go_sem,hx1,hx2,how];intro H4 h4;have kn:Kn H H4 [] ([(x1,.st [.int .i64 x.op,.int .i64 x.to,t,.int .i64 x.n]),(x2,.st [.int .i64 x.op,.int .i64 x.to,t,.int .i64 x.n])]++Lg):=kn.stL 1 rfl h4;have hx2:=kn.l 1 rfl;refine Qk ?_;simp only[go_sem,Qz,Q8,Qxm,Ja,forall_eq,RS.op,how,hx2];exact⟨_,FrzL.ag (.cons (Qg rfl) (.cons (Qg rfl) (.cons (hgr.frz kn (Qn _)) (.cons (Qg rfl) .nil)))),hK _ kn.fin⟩
theorem Qbjw {l:List PhiD}{fl:Bool}(hl:l.length≤2 ^ 38)(ha:∀x∈l,x.args.length≤LIM)(kn:Kn H0 H E L)(hK:∀t Lg H',Gr Lg 2 (Q2 l) t→Kn H0 H' E (L++Lg)→K (.c t) H') :
  Qo prog Qc1 [.c (.sl fl 2 (Q2 l)),.c (.fn Qc9 [])] H K:=by
 refine Qd Qai Qzl ?_;refine Qa ?_;simp only[go_sem];refine Qa ?_;simp only[go_sem];refine Q5 ?_;refine Qa ?_;simp only[go_sem,Qy];intro _;refine Qh (Qf (Qw (fun m e1 H1=>∃(i:Nat) (t:C) (Lg:List (Nat×Obj)),m=l.length-i∧i≤l.length∧Gr Lg 2 (Q2 (l.take i)) t∧Kn H0 H1 E (L++Lg)∧
  e1=[(1,.c (.fn Qc9 [])),(5,.c t),(8,.c (.sl fl 2 (Q2 l))),(9,.c (.int .i64 l.length)),(10,.c (.int .i64 i))]) l.length ?_ ?_))
 ·exact⟨0,_,[],by omega,by omega,.nil 2,by simpa using kn,rfl⟩
 ·clear kn;rintro m e1 H1 ⟨i,t,Lg,hm,hi,hgr,kn,rfl⟩;have htw:=hgr.isOw;refine Qa ?_;simp only[go_sem,htw];refine Qh (Qe rfl ?_ ?_)
  ·intro hc;have hlt:i<l.length:=by simpa using hc
   obtain⟨p,hp⟩:∃p,l[i]=p:=⟨_,rfl⟩;have hpm:p∈l:=by rw[←hp];exact Jd hlt
   have htk:l.take (i+1)=l.take i++[p]:=by rw[Jf hlt,hp]
   refine Qi ?_;try simp only[go_sem]
   refine Qh (Qf ?_);refine Qa ?_;simp only[go_sem,htw,hlt,Qy,Qa7 _ _ hlt,PhiD.cells,hp];intro x7 hx7 H2 h2;have kn:=kn.al hx7 h2;have hx7:H2 x7=.st [.int .i64 0,.sl true 1 []]:=(kn.get (x7,.st [.int .i64 0,.sl true 1 []]) (by simp)).1;simp only[go_sem,Qee,hx7,htw];intro H3 h3;have kn:Kn H0 H3 E ((L++[(x7,.st [.int .i64 p.to,.sl false 1 (Qb p.args)])])++Lg):=by
    have:=kn.stL (L++Lg).length (x:=x7) (o:=.st [.int .i64 0,.sl true 1 []]) (by simp) h3;refine Kn.perm (by simpa using this) (Qj fun f hf h0 hc hp=>by simp only[hf];omega)
   have hx7:H3 x7=.st [.int .i64 p.to,.sl false 1 (Qb p.args)]:=(kn.get (x7,.st [.int .i64 p.to,.sl false 1 (Qb p.args)]) (by simp)).1;refine Qt ?_;simp only[go_sem,htw,hx7,Jbe,Jae];refine Qa8s (x:=p) (ha p hpm) fun H4 hu=>?_;have kn:=kn.call0 hu;simp only[go_sem,Qeg,htw,PhiD.cells];have hsm:(l.take i).length≤l.length:=by rw[Jo];omega
   refine kn.growR (new:=Q2 [p]) hgr (.mk' _ _ _ _) (Qm1 _) (by simp only[Qy,LIM,Jp,Jr];omega) fun t2 Lg2 H5 hgr2 ht2 kn=>?_;simp only[go_sem,Qef,ht2];refine Qt ?_;simp only[go_sem,X.next,ht2];refine⟨Qr (by omega) (by omega),l.length-(i+1),by omega,i+1,t2,Lg2,rfl,by omega,?_,?_,rfl⟩
   ·rw[htk];have:Q2 (l.take i++[p])=Q2 (l.take i)++Q2 [p]:=(by simp[Q2]);rw[this];exact hgr2
   ·exact Kn.drop (B:=[(x7,.st [.int .i64 p.to,.sl false 1 (Qb p.args)])]) (kn.perm (Qj fun f hf h0 hc hp=>by simp only[hf];omega))
  ·intro hc;have hge:l.length≤i:=by simpa using hc
   rw[Jc hge]at hgr;refine Qv ?_;simp only[go_sem,X.next];refine Qa ?_;simp only[go_sem,htw];refine Qk ?_;simp only[go_sem,Qz,Q8,Qh7,Ja,forall_eq,RS.op,htw];exact hK t Lg H1 hgr kn
theorem Qbjv {l:List InsD}{fl:Bool}(hl:l.length≤2 ^ 38)(ha:∀x∈l,x.args.length≤LIM)(hK:∀H',Upd H H' []→K (.c (.sl false 4 (Qaw l))) H') :
  Qo prog Qc0 [.c (.sl fl 4 (Qaw l)),.c (.fn Qc8 [])] H K:=by
 refine Qu ?_;refine Qd Qai Qzk ?_;refine Qa ?_;simp only[go_sem];refine Qa ?_;simp only[go_sem];refine Q5 ?_;refine Qa ?_;simp only[go_sem,Qay];intro _;refine Qh (Qf (Qw (fun m e1 H1=>∃(i:Nat) (t:C) (Lg:List (Nat×Obj)),m=l.length-i∧i≤l.length∧Gr Lg 4 (Qaw (l.take i)) t∧Kn H H1 [] ([]++Lg)∧
  e1=[(1,.c (.fn Qc8 [])),(5,.c t),(8,.c (.sl fl 4 (Qaw l))),(9,.c (.int .i64 l.length)),(10,.c (.int .i64 i))]) l.length ?_ ?_))
 ·exact⟨0,_,[],by omega,by omega,.nil 4,Kn.start0 H,rfl⟩
 ·rintro m e1 H1 ⟨i,t,Lg,hm,hi,hgr,kn,rfl⟩;have htw:=hgr.isOw;refine Qa ?_;simp only[go_sem,htw];refine Qh (Qe rfl ?_ ?_)
  ·intro hc;have hlt:i<l.length:=by simpa using hc
   obtain⟨p,hp⟩:∃p,l[i]=p:=⟨_,rfl⟩;have hpm:p∈l:=by rw[←hp];exact Jd hlt
   have htk:l.take (i+1)=l.take i++[p]:=by rw[Jf hlt,hp]
   refine Qi ?_;try simp only[go_sem]
   refine Qh (Qf ?_);refine Qa ?_;simp only[go_sem,htw,hlt,Qay,Qey _ _ hlt,InsD.cells,hp];intro x7 hx7 H2 h2;have kn:=kn.al hx7 h2;have hx7:H2 x7=.st [.int .i64 0,.int .i64 0,.sl true 1 [],.int .i64 0]:=(kn.get (x7,.st [.int .i64 0,.int .i64 0,.sl true 1 [],.int .i64 0]) (by simp)).1;simp only[go_sem,Qeb,hx7,htw];intro H3 h3;have kn:Kn H H3 [] ([(x7,.st [.int .i64 p.op,.int .i64 p.to,.sl false 1 (Qb p.args),.int .i64 p.n])]++Lg):=by
    have:=kn.stL ([]++Lg).length (x:=x7) (o:=.st [.int .i64 0,.int .i64 0,.sl true 1 [],.int .i64 0]) (by simp) h3;refine Kn.perm (by simpa using this) ?_;exact Jz
   have hx7:=kn.l 0 rfl;refine Qt ?_;simp only[go_sem,htw,hx7,Jbe,Jae];refine Qa8r (x:=p) (ha p hpm) fun H4 hu=>?_;have kn:=kn.call0 hu;simp only[go_sem,Qed,htw,InsD.cells];have hsm:(l.take i).length≤l.length:=by rw[Jo];omega
   refine kn.growR (new:=Qaw [p]) hgr (.mk' _ _ _ _) (Qv1 _) (by simp only[Qay,LIM,Jp,Jr];omega) fun t2 Lg2 H5 hgr2 ht2 kn=>?_;simp only[go_sem,Qec,ht2];refine Qt ?_;simp only[go_sem,X.next,ht2];refine⟨Qr (by omega) (by omega),l.length-(i+1),by omega,i+1,t2,Lg2,rfl,by omega,?_,?_,rfl⟩
   ·rw[htk];have:Qaw (l.take i++[p])=Qaw (l.take i)++Qaw [p]:=(by simp[Qaw]);rw[this];exact hgr2
   ·exact Kn.drop (B:=[(x7,.st [.int .i64 p.op,.int .i64 p.to,.sl false 1 (Qb p.args),.int .i64 p.n])]) (kn.perm Jz)
  ·intro hc;have hge:l.length≤i:=by simpa using hc
   rw[Jc hge]at hgr;refine Qv ?_;simp only[go_sem,X.next];refine Qa ?_;simp only[go_sem,htw];refine Qk ?_;simp only[go_sem,Qz,Q8,Qh6,Ja,forall_eq,RS.op,htw];exact⟨_,.c _ _ (hgr.frz kn (Qv1 _)),hK _ kn.fin⟩
def kRow (y:BlkD)(pc:C):List C:=[pc,.sl false 4 (Qaw y.ins),.int .i64 y.jump,.int .i64 y.on,.sl false 1 (Qb y.next)]
structure BlkD.cl (y:BlkD):Prop where
 i:y.ins.length≤2 ^ 38
 p:y.phis.length≤2 ^ 38
 n:y.next.length≤LIM
 ia:∀x∈y.ins,x.args.length≤LIM
 pa:∀x∈y.phis,x.args.length≤LIM
structure KBlk where
 y:BlkD
 pc:C
 pl:List (Nat×Obj)
def KBlk.row (b:KBlk):List C:=kRow b.y b.pc
def KBlk.ok (b:KBlk):Prop:=Gr b.pl 2 (Q2 b.y.phis) b.pc
theorem KBlk.noOw {b:KBlk}(h:b.ok):Go.AE.noOw b.row=true:=by
 have:=h.isOw;simp only[Go.AE.noOw,KBlk.row,kRow,Jbl,List.all_nil,this];rfl
end Go.AE.Y
namespace Go.AE.Y
attribute [local go_sem] cond_true cond_false Bool.not_true Bool.not_false
open Go.Proofs.Tryz
variable {H H0 F:Heap}{K:V→Heap→Prop}{E L B pl:List (Nat×Obj)}
def keepK (ks:List Nat)(f:PhiD):Bool:=decide (f.to.toNat∈ks)
theorem Qa9x (l:List PhiD)(i:Nat)(x:PhiD):(Q2 l).set i x.cells=Q2 (l.set i x):=by simp[Q2,Jau]
end Go.AE.Y
namespace Go.AE.Y
open Go.Proofs.Tryz
attribute [local instance] Classical.propDecidable
variable {q:CodeD}
noncomputable def kpD (q:CodeD)(b:Nat):Nat→List InsD→List InsD
 |_,[]=>[]
 |k,x::l=>if Qbp9 q b k=true then kpD q b (k+1) l else x::kpD q b (k+1) l
theorem Qa0j {b:Nat}:∀{l:List InsD} {k:Nat},(kpD q b k l).Sublist l
 |[],_=>.slnil
 |x::l,k=>by
  rw[kpD];split
  ·exact (Qa0j).cons x
  ·exact (Qa0j).cons_cons x
noncomputable def kpP (q:CodeD)(b:Nat)(l:List PhiD):List PhiD:=l.filter fun f=>decide (f.to.toNat∈Qbhv q b 0)
noncomputable def Qbqk (q:CodeD)(b:Nat)(y:BlkD):BlkD:={ y with phis:=kpP q b y.phis,ins:=kpD q b 0 y.ins }
noncomputable def Qiz (q:CodeD):CodeD:={ q with blocks:=q.blocks.mapIdx (Qbqk q) }
theorem Qbeu:(Qiz q).blocks.length=q.blocks.length:=by simp[Qiz]
theorem Qbj1 {b:Nat}(h:b<q.blocks.length)(h2:b<(Qiz q).blocks.length):(Qiz q).blocks[b]=Qbqk q b q.blocks[b]:=by simp[Qiz]
structure Shr (c d:CodeD):Prop where
 pr:d.params=c.params
 rg:d.regs=c.regs
 bl:d.blocks.length=c.blocks.length
 j:∀b (h1:b<c.blocks.length) (h2:b<d.blocks.length),d.blocks[b].jump=c.blocks[b].jump∧d.blocks[b].on=c.blocks[b].on∧d.blocks[b].next=c.blocks[b].next∧d.blocks[b].ins.Sublist c.blocks[b].ins∧d.blocks[b].phis.Sublist c.blocks[b].phis
theorem Shr.refl (c:CodeD):Shr c c:=⟨rfl,rfl,rfl,fun b h1 h2=>⟨rfl,rfl,rfl,.refl _,.refl _⟩⟩
theorem Shr.trans {c d e:CodeD}(h:Shr c d)(k:Shr d e):Shr c e:=⟨k.pr.trans h.pr,k.rg.trans h.rg,k.bl.trans h.bl,fun b h1 h2=>by
 have hd:b<d.blocks.length:=by rw[h.bl];exact h1
 obtain⟨a1,a2,a3,a4,a5⟩:=h.j b h1 hd;obtain⟨b1,b2,b3,b4,b5⟩:=k.j b hd h2;exact⟨b1.trans a1,b2.trans a2,b3.trans a3,b4.trans a4,b5.trans a5⟩⟩
theorem Qbj2:Shr q (Qiz q):=⟨rfl,rfl,Qbeu,fun b h1 h2=>by
 rw[Qbj1 h1 h2];exact⟨rfl,rfl,rfl,Qa0j,List.filter_sublist⟩⟩
theorem Shr.next {c d:CodeD}(h:Shr c d):d.blocks.map BlkD.next=c.blocks.map BlkD.next:=Jbd (by simp[h.bl]) fun b h1 h2=>by
 simp only[Jbg]at h1 h2;simp only[Jat];exact (h.j b h2 h1).2.2.1
theorem Shr.gnx {c d:CodeD}(h:Shr c d):gnx d=gnx c:=by funext i;rw[Y.gnx,Y.gnx,h.next]
theorem Shr.cnt {c d:CodeD}(h:Shr c d):Qqt d≤Qqt c∧(Qqt d=Qqt c→∀b (h1:b<c.blocks.length) (h2:b<d.blocks.length),d.blocks[b].ins.length=c.blocks[b].ins.length∧d.blocks[b].phis.length=c.blocks[b].phis.length):=by
 have key:∀m,m≤c.blocks.length→Qf6 Qxg (d.blocks.take m)≤Qf6 Qxg (c.blocks.take m)∧(Qf6 Qxg (d.blocks.take m)=Qf6 Qxg (c.blocks.take m)→∀b,b<m→∀(h1:b<c.blocks.length) (h2:b<d.blocks.length),d.blocks[b].ins.length=c.blocks[b].ins.length∧d.blocks[b].phis.length=c.blocks[b].phis.length):=fun m=>by
  induction m with
  |zero=>intro _;exact⟨by simp[Qf6],fun _ b hb=>absurd hb (by omega)⟩
  |succ m ih=>
   intro hm;obtain⟨i1,i2⟩:=ih (by omega);have hc:m<c.blocks.length:=by omega
   have hd:m<d.blocks.length:=by rw[h.bl];exact hc
   obtain⟨_,_,_,s1,s2⟩:=h.j m hc hd;have l1:=s1.length_le;have l2:=s2.length_le;rw[Qb8 hc,Qb8 hd,Qxg,Qxg];refine⟨by omega,fun he b hb h1 h2=>?_⟩;by_cases hbm:b=m
   ·subst hbm;exact⟨by omega,by omega⟩
   ·exact i2 (by omega) b (by omega) h1 h2
 obtain⟨k1,k2⟩:=key _ (Jk _);have e1:d.blocks.take c.blocks.length=d.blocks:=by rw[←h.bl,J1]
 have e2:c.blocks.take c.blocks.length=c.blocks:=J1;rw[e1,e2]at k1 k2;exact⟨k1,fun he b h1 h2=>k2 he b h1 h1 h2⟩
theorem Qbhw {cs ds:List CodeD}{k b:Nat}{c d:CodeD}{y z:BlkD}(hr:rgOf ds k=rgOf cs k)(hp:∀n,pmOf ds n=pmOf cs n)(hcd:Shr c d)(hj:z.jump=y.jump∧z.on=y.on∧z.next=y.next∧z.ins.Sublist y.ins∧z.phis.Sublist y.phis)
  (g:Q0k cs k b c y=true):Q0k ds k b d z=true:=by
 obtain⟨j1,j2,j3,j4,j5⟩:=hj;have hl:(Qs d.blocks).length=(Qs c.blocks).length:=by rw[Qp,Qp,hcd.bl]
 simp only[Q0k,Jl,J8]at g⊢;obtain⟨⟨⟨gj,gn⟩,gi⟩,gp⟩:=g;refine⟨⟨⟨?_,fun x hx=>?_⟩,fun x hx=>?_⟩,fun x hx=>?_⟩
 ·simpa only[Qmv,j1,j2,j3,hcd.rg]using gj
 ·rw[hl];exact gn x (by rw[←j3];exact hx)
 ·have:=gi x (j4.subset hx);simp only[Q42,insL,hr,hp]at this⊢;exact this
 ·have:=gp x (j5.subset hx);rw[hcd.rg,hcd.next,hl];exact this
theorem Qblm {cs ds:List CodeD}(hg:Qas cs=true)(hl:ds.length=cs.length)(h:∀k (h1:k<cs.length) (h2:k<ds.length),Shr cs[k] ds[k]):Qas ds=true:=by
 obtain⟨h1,h2,h3⟩:=of_decide_eq_true hg;have hr:∀k,rgOf ds k=rgOf cs k:=fun k=>by
  by_cases hk:k<cs.length
  ·rw[Qrq hk,Qrq (by omega),(h k hk (by omega)).rg]
  ·simp[rgOf,Jj (show cs.length≤k by omega),Jj (show ds.length≤k by omega)]
 have hp:∀k,pmOf ds k=pmOf cs k:=fun k=>by
  by_cases hk:k<cs.length
  ·rw[Qrd hk,Qrd (by omega),(h k hk (by omega)).pr]
  ·simp[pmOf,Jj (show cs.length≤k by omega),Jj (show ds.length≤k by omega)]
 refine decide_eq_true ⟨by omega,fun k hk=>?_,?_⟩
 ·have hc:k<cs.length:=by omega
  have s:=h k hc hk;obtain⟨g1,g2⟩:=h2 k hc;refine⟨by simpa only[Qq8,s.pr,s.rg,s.bl]using g1,fun b hb=>?_⟩;have hb':b<cs[k].blocks.length:=by rw[←s.bl];exact hb
  exact Qbhw (hr k) hp s (s.j b hb' hb) (g2 b hb')
 ·have key:∀m,m≤cs.length→Qf6 Qqt (ds.take m)≤Qf6 Qqt (cs.take m):=fun m=>by
   induction m with
   |zero=>intro _;simp[Qf6]
   |succ m ih=>
    intro hm;have i1:=ih (by omega);have hc:m<cs.length:=(by omega);have hd:m<ds.length:=(by omega);rw[Qb8 hc,Qb8 hd];have:=(h m hc hd).cnt.1;omega
  have:=key _ (Jk _);have e1:ds.take cs.length=ds:=by rw[←hl,J1]
  rw[e1,J1]at this;omega
def flI (x:InsD):Option Nat×List Nat:=(Qaue x,toN x.args)
theorem Qa1d {d:CodeD}(h:Qiz d=d):∀n,Nat.repeat Qiz n d=d
 |0=>rfl
 |n+1=>by rw[Nat.repeat,Qa1d h n,h]
theorem Qa1c (q:CodeD):∀n m,Nat.repeat Qiz (m+n) q=Nat.repeat Qiz m (Nat.repeat Qiz n q)
 |n,0=>by rw[Jw];rfl
 |n,m+1=>by rw[Nat.succ_add,Nat.repeat,Qa1c q n m];rfl
theorem Qbkg {n m:Nat}(h1:Qiz (Nat.repeat Qiz n q)=Nat.repeat Qiz n q)(h2:Qiz (Nat.repeat Qiz m q)=Nat.repeat Qiz m q):Nat.repeat Qiz n q=Nat.repeat Qiz m q:=by
 have a:=Qa1c q n m;have b:=Qa1c q m n;rw[Qa1d h1 m]at a;rw[Qa1d h2 n]at b;rw[←a,←b,Nat.add_comm]
theorem Shr.ok {c d:CodeD}(s:Shr c d)(ho:c.ok):d.ok:=by
 have hg:=s.gnx;refine⟨by rw[s.rg];exact ho.r0,by rw[s.rg];exact ho.r1,by rw[s.bl];exact ho.b0,by rw[s.bl];exact ho.b1,fun b hb=>?_,fun b hb=>?_⟩
 ·have hb':b<c.blocks.length:=by rw[←s.bl];exact hb
  obtain⟨g1,g2,g3,g4,g5⟩:=s.j b hb' hb;have o:=ho.bs b hb';have rr:∀v,rIn c v→rIn d v:=fun v hv=>by simp only[rIn,s.rg]at hv⊢;exact hv
  refine⟨by rw[g3];exact o.nxl,fun v hv=>?_,by rw[g1];exact o.jmp,fun hj=>?_,fun x hx v hv=>rr _ (o.args x (g4.subset hx) v hv),fun x hx hm=>rr _ (o.to x (g4.subset hx) hm),
   fun x hx=>rr _ (o.pto x (g5.subset hx)),fun x hx v hv=>rr _ (o.pargs x (g5.subset hx) v hv),fun x hx=>?_,fun x hx=>o.al x (g4.subset hx)⟩
  ·rw[g3]at hv;rw[s.bl];exact o.nx v hv
  ·rw[g1]at hj;rw[g2];exact rr _ (o.on hj)
  ·rw[hg,s.bl];exact o.pal x (g5.subset hx)
 ·have hb':b<c.blocks.length:=by rw[←s.bl];exact hb
  obtain⟨g1,g2,g3,g4,g5⟩:=s.j b hb' hb;have o:=ho.il b hb';have:=g4.length_le;have:=g5.length_le;omega
def Idl (q d:CodeD):Prop:=∃n,d=Nat.repeat Qiz n q∧Qiz d=d
theorem Idl.uniq {d e:CodeD}(h:Idl q d)(k:Idl q e):d=e:=by
 obtain⟨n,rfl,h1⟩:=h;obtain⟨m,rfl,h2⟩:=k;exact Qbkg h1 h2
theorem Qbfi:∀n,Shr q (Nat.repeat Qiz n q)
 |0=>.refl q
 |n+1=>(Qbfi n).trans Qbj2
theorem Idl.shr {d:CodeD}(h:Idl q d):Shr q d:=by
 obtain⟨n,rfl,_⟩:=h;exact Qbfi n
theorem Idl.again {d:CodeD}(h:Idl q d):Idl d d:=⟨0,rfl,h.choose_spec.2⟩
end Go.AE.Y
namespace Go.AE.Y
attribute [local go_sem] cond_true cond_false Bool.not_true Bool.not_false
open Go.Proofs.Tryz
variable {H H0 F:Heap}{K:V→Heap→Prop}{E L B:List (Nat×Obj)}{q:CodeD}
structure DBlk where
 y:BlkD
 pc:C
 pl:List (Nat×Obj)
 ic:C
 il:List (Nat×Obj)
def DBlk.row (d:DBlk):List C:=[d.pc,d.ic,.int .i64 d.y.jump,.int .i64 d.y.on,.sl false 1 (Qb d.y.next)]
def DBlk.lg (d:DBlk):List (Nat×Obj):=d.pl++d.il
structure DBlk.ok (d:DBlk):Prop where
 p:Gw d.pl 2 (Q2 d.y.phis) d.pc
 i:Gr d.il 4 (Qaw d.y.ins) d.ic
theorem Gw.frzM {Lg:List (Nat×Obj)}{S:Nat→Bool}{sz:Nat}{rows:List (List C)}{c:C}(h:Gw Lg sz rows c)(hm:∀p∈Lg,H p.1=p.2∧S p.1=true)(hr:∀r∈rows,noOw r=true):FrzC H S c (.sl false sz rows):=by
 rcases h with ⟨rfl,rfl,_⟩|⟨y,R,rfl,rfl,hR⟩
 ·exact FrzR.nil.sl
 ·have hle:rows.length≤R.length:=by
   have:=congrArg List.length hR;rw[Jo]at this;omega
  obtain⟨h1,h2⟩:=hm (y,.vec sz R) (by simp);have h:=FrzR.same (H:=H) (S:=S) hr;exact .vsl y sz 0 _ R rows rows h2 h1 (by omega) (by simpa using hR.symm) h.spec.1 (fun i r r' h1 h2=>(h.spec.2 i r r' h1 h2).spec.1) fun i r r' j c c' h1 h2 h3 h4=>(h.spec.2 i r r' h1 h2).spec.2 j c c' h3 h4
theorem DBlk.frzR {S:Nat→Bool}:∀{ds:List DBlk},(∀d∈ds,d.ok)→(∀d∈ds,∀p∈d.lg,H p.1=p.2∧S p.1=true)→FrzR H S (ds.map DBlk.row) (Qs (ds.map DBlk.y))
 |[],_,_=>.nil
 |d::ds,h,hm=>.cons (.cons ((h d Jm).p.frzM (fun p hp=>hm d Jm p (Ji _ hp)) (Qm1 _))
   (.cons (Gr.frzM (h d Jm).i (fun p hp=>hm d Jm p (Js _ hp)) (FrzR.same (Qv1 _)))
   (.cons (Qg rfl) (.cons (Qg rfl) (.cons (Qaa6 (noOw_mem (Qn _))) .nil)))))
   (DBlk.frzR (fun d hd=>h d (Jh _ hd)) fun d hd=>hm d (Jh _ hd))
theorem CodeD.ok.fts (h:q.ok):q.fits:=fun y hy=>by
 obtain⟨b,hb,rfl⟩:=Jx.1 hy;have:=h.il b hb;omega
theorem CodeD.ok.cl (h:q.ok):∀y∈q.blocks,y.cl:=fun y hy=>by
 obtain⟨b,hb,rfl⟩:=Jx.1 hy;have h1:=h.il b hb;have h2:=h.bs b hb;have h3:=h2.nxl;have h4:=h.b1;refine⟨by omega,by omega,by simp only[LIM];omega,fun x hx=>?_,fun x hx=>?_⟩
 ·have:=h2.al x hx;simp only[LIM];omega
 ·have:=h2.pal x hx;have h5:=Qb5 (gnx q) (b:Int) q.blocks.length;simp only[LIM];omega
end Go.AE.Y
