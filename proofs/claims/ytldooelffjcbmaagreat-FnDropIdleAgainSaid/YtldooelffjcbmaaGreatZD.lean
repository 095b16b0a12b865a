/- Part 4 of the proof: the engine, codes, walks and plain laws, each named where it stands. -/
import Derived.Test.YtldooelffjcbmaaGreatZC
import Derived.Shelf.Sort.Plain
import Derived.Shelf.Sort.So_math_bits_LenIn
open Nat (reduceEqDiff reduceAdd reduceLeDiff reduceLT)
set_option linter.unusedVariables false
set_option linter.unusedSimpArgs false
set_option maxRecDepth 4000
open Bool renaming and_eq_true->Jl,not_false->Ju,not_true->J7,false_eq_true->Jag
open Classical renaming byContradiction->Jar
open Iff renaming rfl->Jbq
open Int renaming eq_ofNat_of_zero_le->Jav
open List renaming mem_singleton->Ja,getD_eq_getElem?_getD->Jb,take_of_length_le->Jc,getElem_mem->Jd,mem_append->Je,mem_append_left->Jf,getElem?_eq_getElem->Jg,take_succ_eq_append_getElem->Ji,mem_cons_of_mem->Jj,mem_append_right->Jk,mem_cons_self->Jm,mem_map->Jo,getElem?_eq_none->Jp,length_set->Jq,map_cons->Jr,length_cons->Js,mem_cons->Jt,length_take->Jv,length_map->Jw,map_append->Jx,length_nil->Jy,cons_append->Jz,mem_iff_getElem->J0,nil_append->J1,perm_append_comm->J2,drop_eq_getElem_cons->J3,pairwise_iff_getElem->J4,mem_filter->J5,nodup_append->J6,take_append_drop->J8,getElem?_map->J9,getElem?_set->Jaa,getElem_take->Jab,mem_or_eq_of_mem_set->Jac,getD_cons_zero->Jad,map_nil->Jae,map_set->Jaf,getElem?_replicate->Jah,pairwise_lt_range->Jai,ext_getElem?->Jaj,contains_iff_mem->Jak,any_eq_true->Jal,length_append->Jap,set_cons_succ->Jaq,append_assoc->Jas,idxOf_lt_length_iff->Jat,sum_cons->Jaw,all_eq_true->Jax,length_drop->Jay,not_mem_nil->Jaz,take_length->Ja0,getElem_set_self->Ja1,length_filter_le->Ja2,pairwise_append->Ja3,drop_zero->Ja4,mem_range->Ja5,getElem_of_mem->Ja6,getElem?_drop->Ja7,getElem?_take->Ja8,pairwise_cons->Ja9,getElem_drop->Jbc,getElem_map->Jbf,mem_flatMap->Jbg,count_cons->Jbi,nodup_cons->Jbj,sum_append->Jbk,take_take->Jbl,map_take->Jbm,take_nil->Jbn,set_set->Jbo
open List.Pairwise renaming filter->Jam
open Nat renaming le_refl->Jh,zero_add->Jn,mul_le_mul_right->Jan,eq_zero_or_pos->Jba,lt_or_ge->Jbd,succ_mul->Jbe,add_zero->Jbp
open Option renaming map_some->Jao,getD_some->Jbh
open Option.some renaming injEq->Jau
open Prod.mk renaming injEq->Jbb
namespace Go.AE.Y
open Go.Proofs.Tryz
variable {F H:Heap}{w:Nat}{s:LS}{K:V→Heap→Prop}
set_option maxHeartbeats 2000000 in
theorem Qbrm {n:Nat}(hA:AndL n)(hE:∀m,m<n→Qbm5 m):Qbm5 n:=by
 intro x F H w s N K hn hok h hat hsok hN hK;have hsz:=x.size_kids;have hkok:=Ex.ok_kids hok;refine Qb Qap Qa0s ?_;have retf:∀(v:Int) (e:Env) (s':LS) (H':Heap),LInv F H' w s'→LStep s s' (10 * x.size)→lk 4 e=.c (.int .i64 v)→Q4 Qsu K .ret e H':=by
  intro v e s' H' a1 a2 h1;simp only[go_sem,Q4,Qaa,Qsu,Ja,forall_eq,RS.op,h1];exact hK _ _ _ a1 a2
 refine Qa ?_;simp only[go_sem,x.cells_eq];refine Q5 ?_;refine Qa ?_;simp only[go_sem];refine Qh (Qc ?_);refine Qa ?_;simp only[go_sem];refine Qd rfl ?_ ?_
 ·intro hc;refine Qao ?_;simp only[go_sem];refine Qsg h hsok (by omega) fun s1 H1 h1 st1=>?_;simp only[go_sem,Qu0];refine Q6z (args:=[]) h1 (st1.at_ hat) (st1.ok _ hsok) (by omega) fun s2 H2 h2 st2=>?_;simp only[go_sem,Quz];refine Qj ?_;simp only[go_sem];exact retf _ _ s2 H2 h2 ((st1.trans st2).mono (by omega)) (by simp[lk];rfl)
 intro hc1;refine Qa ?_;simp only[go_sem];refine Qd rfl ?_ ?_
 ·intro hc;refine Qa ?_;simp only[go_sem];refine Qbuf h fun v=>?_;simp only[go_sem,Qu1];refine Qj ?_;simp only[go_sem];exact retf _ _ s H h ((LStep.refl s).mono (by omega)) (by simp[lk];rfl)
 intro hc2;refine Qa ?_;simp only[go_sem];refine Qd rfl ?_ ?_
 ·intro hc;have hop:x.op=10:=by simpa using hc
  refine Qa ?_;simp only[go_sem];rw[←x.cells_eq];refine hA x F H w s N _ hn hok hop h hat hsok hN fun v s1 H1 h1 st1=>?_;simp only[go_sem,Qu2];refine Qj ?_;simp only[go_sem];exact retf _ _ s1 H1 h1 st1 (by simp[lk];rfl)
 intro hc3;refine Qf ?_;simp only[go_sem];refine Qa ?_;simp only[go_sem];refine Q5 ?_;refine Qa ?_;simp only[go_sem];refine Qh (Qc (Qu (fun n e1 H1=>∃(i:Nat) (ars:List Int) (c:C) (Lg:List (Nat×Obj)) (s':LS),n=x.kids.length-i∧i≤x.kids.length∧ars.length=i∧Gr Lg 1 (Qe ars) c∧LInv F H1 w s'∧Kn F H1 [] (s'.L w++Lg)∧
  LStep s s' (10 * Qaf (x.kids.take i))∧e1=[(0,.c (.ptr w 0)),(3,.c (.pp [.int .i64 x.op,.int .i64 x.n,.str x.name,.sl false 4 (Qbl x.kids)])),(5,.c c),(6,.c (.int .i64 i))]) x.kids.length ?_ ?_))
 ·exact⟨0,[],_,[],s,by omega,by omega,rfl,.nil 1,h,by simpa using h.kn,(LStep.refl s).mono (by omega),rfl⟩
 ·rintro n e1 H1 ⟨i,ars,c,Lg,s1,hn1,hi,hasl,hgr,h1,kn,st1,rfl⟩;refine Q5 ?_;refine Qa ?_;simp only[go_sem,Qa5];intro hl;simp only[LIM]at hl;refine Qh (Qd rfl ?_ ?_)
  ·intro hc;have hlt:i<x.kids.length:=by simpa using hc
   have hm:=Qfb (Jd hlt);have htk:=Qr0 hlt;have htl:=Qha x.kids (i+1);refine Qf ?_;simp only[go_sem];refine Qh (Qc (Qr ?_));simp only[go_sem,hlt,Qa5,Qfa _ _ hlt,Ex.take4,Ex.allOw,Ex.cells_len];obtain⟨F',hf,back⟩:=h1.beside kn hgr;refine hE x.kids[i].size (by omega) _ F' H1 w s1 _ _ (Jh _) (Qahd hkok _ (Jd hlt)) hf (st1.at_ hat) (st1.ok _ hsok) (by omega) fun v s2 H2 h2 st2=>?_;obtain⟨h2,kn⟩:=back s2 H2 h2;simp only[go_sem,Qu4];refine kn.grow (new:=Qe [v]) hgr (.mk' _ _ _ _) (Q6 _) (by simp only[Qi,hasl,Js,Jy,LIM];omega) fun y' H3 kn=>?_;simp only[go_sem,Qu3];refine Qr ?_;simp only[go_sem,X.next];refine⟨Qp (by omega) (by omega),x.kids.length-(i+1),by omega,i+1,ars++[v],_,_,s2,rfl,by omega,by simp[hasl],.mk y' 1 (Qe (ars++[v])) (n:=(Qe ars).length+(Qe [v]).length) (by simp[Qe]),h2.re kn.drop,by rw[Qdn];exact kn,(st1.trans st2).mono (by rw[htk];omega),by simp[Qe]⟩
  ·intro hc;have hge:x.kids.length≤i:=by simpa using hc
   rw[Jc hge]at st1;refine Qv ?_;simp only[go_sem,X.next];refine Q5 ?_;refine Q5 ?_;obtain⟨S,H2,f1,f2,kn2⟩:=hgr.freeze kn (Q6 _);have h2:=h1.re kn2;refine c_gh (Qkc S (fun t=>?_) f2) (e':=[(0,.c (.ptr w 0)),(3,.c (.pp [.int .i64 x.op,.int .i64 x.n,.str x.name,.sl false 4 (Qbl x.kids)])),(5,.c (.sl false 1 (Qe ars)))]) ?_
   ·simp only[lk];split
    ·exact .c _ _ (.same _ rfl)
    ·split
     ·exact .c _ _ (.same _ rfl)
     ·split
      ·exact .c _ _ f1
      ·exact .unk _
   refine Qa ?_;simp only[go_sem];refine Qh (Qc ?_);refine Qa ?_;simp only[go_sem];refine Qd rfl ?_ ?_
   ·intro hc;refine Qa ?_;simp only[go_sem];refine Qsg h2 (st1.ok _ hsok) (by omega) fun s3 H3 h3 st3=>?_;have st3:=st1.trans st3;simp only[go_sem,Qpj];refine Q6z h3 (st3.at_ hat) (st3.ok _ hsok) (by omega) fun s4 H4 h4 st4=>?_;simp only[go_sem,Qpi];refine Qj ?_;simp only[go_sem];exact retf _ _ s4 H4 h4 ((st3.trans st4).mono (by omega)) (by simp[lk];rfl)
   intro hc4;refine Qa ?_;simp only[go_sem];refine Qd rfl ?_ ?_
   ·intro hc;refine Qa ?_;simp only[go_sem];refine Qsg h2 (st1.ok _ hsok) (by omega) fun s3 H3 h3 st3=>?_;have st3:=st1.trans st3;simp only[go_sem,Qpl];refine Q6z h3 (st3.at_ hat) (st3.ok _ hsok) (by omega) fun s4 H4 h4 st4=>?_;simp only[go_sem,Qpk];refine Qj ?_;simp only[go_sem];exact retf _ _ s4 H4 h4 ((st3.trans st4).mono (by omega)) (by simp[lk];rfl)
   intro hc5;refine Qa ?_;simp only[go_sem];refine Qd rfl ?_ ?_
   ·intro hc;have hw2:=h2.hw;refine Qao ?_;simp only[go_sem,hw2,LS.o];refine Qsg h2 (st1.ok _ hsok) (by omega) fun s3 H3 h3 st3=>?_;have hw3:=h3.hw;have hfn:=st3.fn;have st3:=st1.trans st3;simp only[go_sem,Qpo,hw3,LS.o,hfn.1,hfn.2];refine Qbtd fun q=>?_;simp only[go_sem,Qpn];refine Q6z h3 (st3.at_ hat) (st3.ok _ hsok) (by omega) fun s4 H4 h4 st4=>?_;simp only[go_sem,Qpm];refine Qj ?_;simp only[go_sem];exact retf _ _ s4 H4 h4 ((st3.trans st4).mono (by omega)) (by simp[lk];rfl)
   intro hc6;refine Qf ?_;simp only[go_sem];refine Qao ?_;simp only[go_sem];refine Qsg h2 (st1.ok _ hsok) (by omega) fun s3 H3 h3 st3=>?_;have st3:=st1.trans st3;simp only[go_sem,Qpq];refine Q6z h3 (st3.at_ hat) (st3.ok _ hsok) (by omega) fun s4 H4 h4 st4=>?_;simp only[go_sem,Qpp];refine Qj ?_;exact retf _ _ s4 H4 h4 ((st3.trans st4).mono (by omega)) (by simp[lk];rfl)
theorem Qbtt (n:Nat):Qbm5 n:=by
 induction n using Nat.strongRecOn with
 |ind n ih=>exact Qbrm (Qbth ih) ih
theorem Qboh:∀(n:Nat) (l:List St) {fl:Bool} {H:Heap} {K:V→Heap→Prop},Q0 l≤n→Q0 l≤2^40→(∀v:Nat,v≤Q0 l→K (.c (.int .i64 v)) H)→Qo prog Qsa [.c (.sl fl 5 (Qa3 l))] H K:=by
 intro n
 induction n using Nat.strongRecOn with
 |ind n ih=>
 intro l fl H K hn hb hK;have hlen:=Qapo l;refine Qb Qap Qbo2 ?_;refine Qa ?_;simp only[go_sem];refine Qa ?_;simp only[go_sem];refine Q5 ?_;refine Qa ?_;simp only[go_sem];refine Qh (Qc (Qu (fun n e1 H1=>∃(i v:Nat),n=l.length-i∧i≤l.length∧v≤Q0 (l.take i)∧H1=H∧e1=[(0,.c (.sl fl 5 (Qa3 l))),(3,.c (.int .i64 v)),(4,.c (.int .i64 i))]) l.length ?_ ?_))
 ·exact⟨0,0,by omega,by omega,by omega,rfl,rfl⟩
 ·rintro n e1 H1 ⟨i,v,hn1,hi,hv,rfl,rfl⟩;refine Q5 ?_;refine Qa ?_;simp only[go_sem,Qba];intro hl;simp only[LIM]at hl;refine Qh (Qd rfl ?_ ?_)
  ·intro hc;have hlt:i<l.length:=by simpa using hc
   have hm:=Qn8 (Jd hlt);have htk:=Qw3 hlt;have htl:=Qid l (i+1);have hse:=(l[i]'hlt).size_eq;refine Qf ?_;simp only[go_sem];refine Qh (Qc (Qbw ?_));simp only[go_sem,hlt,Qba,Qfp _ _ hlt,St.cells_eq];refine Qbjx ?_;obtain⟨t,ht,ht1⟩:∃t:Nat,(if decide (l[i].op=1)=true then (1:Int)else 0)=t∧t≤1:=by
    by_cases h:l[i].op=1
    ·exact⟨1,by simp[h],Jh _⟩
    ·exact⟨0,by simp[h],by omega⟩
   simp only[go_sem,Qant,hlt,Qba,Qfp _ _ hlt,St.cells_eq,ht];refine⟨Qp (by omega) (by omega),?_⟩;refine ih (Q0 l[i].body) (by omega) l[i].body (Jh _) (by omega) fun a ha=>?_;simp only[go_sem,Qans,hlt,Qba,Qfp _ _ hlt,St.cells_eq];refine⟨Qp (by omega) (by omega),?_⟩;refine ih (Q0 l[i].els) (by omega) l[i].els (Jh _) (by omega) fun c hc=>?_;simp only[go_sem,Qanr];refine⟨Qp (by omega) (by omega),?_⟩;refine Qr ?_;simp only[go_sem,X.next];refine⟨Qp (by omega) (by omega),l.length-(i+1),by omega,i+1,v+t+a+c,rfl,by omega,by omega,rfl⟩
  ·intro hc;have hge:l.length≤i:=by simpa using hc
   refine Qv ?_;simp only[go_sem,X.next];refine Qa ?_;simp only[go_sem];refine Qj ?_;simp only[go_sem,Q4,Qaa,Qbdy,reduceIte,Ja,forall_eq,RS.op];rw[Jc hge]at hv;exact hK v (by omega)
def Qbtf (n:Nat):Prop:=∀(x:St) (F H:Heap) (w:Nat) (s:LS) (N:Nat) (K:V→Heap→Prop),x.size≤n→x.ok→LInv F H w s→s.at_<s.blocks.length→s.ok N→N+10 * x.size≤2^38→
  (∀(s':LS) (H':Heap),LInv F H' w s'→LStep s s' (10 * x.size)→K (.tup []) H')→Qo prog Qmp [.c (.ptr w 0),.ag x.cells] H K
def Qbuy (n:Nat):Prop:=∀(x:St) (F H:Heap) (w:Nat) (s:LS) (N:Nat) (K:V→Heap→Prop),x.size≤n→x.ok→LInv F H w s→s.at_<s.blocks.length→s.ok N→N+10 * x.size≤2^38→
  (∀(s':LS) (H':Heap),LInv F H' w s'→LStep s s' (10 * x.size)→K (.tup []) H')→Qo prog Qmo [.c (.ptr w 0),.ag x.cells] H K
def Qbcu (n:Nat):Prop:=∀(l:List St) (fl:Bool) (F H:Heap) (w:Nat) (s:LS) (N:Nat) (K:V→Heap→Prop),Q0 l≤n→Qcs l→LInv F H w s→s.at_<s.blocks.length→s.ok N→N+10 * Q0 l≤2^38→
  (∀(s':LS) (H':Heap),LInv F H' w s'→LStep s s' (10 * Q0 l)→K (.tup []) H')→Qo prog Qb9 [.c (.ptr w 0),.c (.sl fl 5 (Qa3 l))] H K
theorem Qbmv {n:Nat}(hS:Qbtf n):Qbcu n:=by
 intro l fl F H w s N K hn hok h hat hsok hN hK;have hw:=h.hw;obtain⟨hv1,hv2⟩:=h.vget;have hvl:=h.gv.lenC;have hvo:=h.gv.isOw;refine Qb Qap Qawy ?_;refine Qa ?_;simp only[go_sem,hw,LS.o,hv1,hvl,hvo];intro hvlim;refine Q5 ?_;refine Qa ?_;simp only[go_sem];refine Qh (Qc (Qu (fun n e1 H1=>∃(i:Nat) (s':LS),n=l.length-i∧i≤l.length∧LInv F H1 w s'∧LStep s s' (10 * Q0 (l.take i))∧e1=[(0,.c (.ptr w 0)),(1,.c (.sl fl 5 (Qa3 l))),(4,.c (.int .i64 s.vars.length)),(5,.c (.int .i64 i))]) l.length ?_ ?_))
 ·exact⟨0,s,by omega,by omega,h,(LStep.refl s).mono (by omega),rfl⟩
 ·rintro n e1 H1 ⟨i,s1,hn1,hi,h1,st1,rfl⟩;refine Q5 ?_;refine Qa ?_;simp only[go_sem,Qba];intro hl;simp only[LIM]at hl;refine Qh (Qd rfl ?_ ?_)
  ·intro hc;have hlt:i<l.length:=by simpa using hc
   have hm:=Qn8 (Jd hlt);have htk:=Qw3 hlt;have htl:=Qid l (i+1);refine Qf ?_;simp only[go_sem];refine Qh (Qc (Qr ?_));simp only[go_sem,hlt,Qba,Qfp _ _ hlt,St.take5,St.allOw,St.cells_len];refine hS l[i] F H1 w s1 _ _ (by omega) (Qbmy hok _ (Jd hlt)) h1 (st1.at_ hat) (st1.ok _ hsok) (by omega) fun s2 H2 h2 st2=>?_;refine Qr ?_;simp only[go_sem,X.next];exact⟨Qp (by omega) (by omega),l.length-(i+1),by omega,i+1,s2,rfl,by omega,h2,(st1.trans st2).mono (by rw[htk];omega),rfl⟩
  ·intro hc;have hge:l.length≤i:=by simpa using hc
   rw[Jc hge]at st1;have hw1:=h1.hw;obtain⟨hv1',hv2'⟩:=h1.vget;have hvl':=h1.gv.lenC;have hvo':=h1.gv.isOw;have hve':=h1.gv.elemSz;have hvle:=st1.vl;have hrv:∀r∈s1.vars.take s.vars.length,VarRow r:=fun r hr=>h1.rv r (List.mem_of_mem_take hr);have fin:∀(H2:Heap) (c:C),H2=H1.set w (LS.o { s1 with vc:=c })→VGr s1.lv (s1.vars.take s.vars.length) c→Q4 Qmx K .nrm [] H2:=by
    intro H2 c h2 hg;simp only[Q4,Qaa,Qmx];refine⟨by simp,hK { s1 with vc:=c,vars:=s1.vars.take s.vars.length } H2 (h1.setw h2 rfl rfl rfl rfl hg hrv) ⟨st1.bl,fun M hM=>?_,by simp;omega,st1.at_,st1.fn⟩⟩;have:=st1.ok M hM;exact⟨this.r0,this.r1,this.n0,this.n1,this.b1,this.i1,by have:=this.v1;simp;omega⟩
   refine Qv ?_;simp only[go_sem,X.next];refine Qr ?_;rcases h1.gv with ⟨g1,g2,g3⟩|⟨y,all,k,g1,g2,g3,g4⟩
   ·have hz:s.vars.length=0:=(by rw[g2]at hvle;simpa using hvle);simp only[go_sem,hw1,LS.o,g1,hz,Jbn,List.drop_nil];refine⟨⟨by omega,by omega⟩,fun H2 h2=>?_⟩;refine fin H2 (.sl true 3 []) h2 (.inl ⟨rfl,by rw[g2];simp,g3⟩)
   ·rw[g1]at hv1' hvl';have hk:k=s1.vars.length:=(by simpa[lenC]using hvl');simp only[go_sem]at hv1';simp only[go_sem,hw1,LS.o,g1,hv1'];refine⟨⟨by omega,by omega⟩,fun H2 h2=>?_⟩;refine fin H2 (.vsl y 3 0 (s.vars.length-0)) h2 (.inr ⟨y,all,s.vars.length-0,rfl,by omega,?_,g4⟩);rw[g3,Jbl];congr 1;omega
set_option maxHeartbeats 1000000 in
theorem Qbok {n:Nat}(hS:∀m,m<n→Qbcu m):Qbuy n:=by
 intro x F H w s N K hn hok h hat hsok hN hK;have hsz:=x.size_eq;rw[St.ok_eq]at hok;obtain⟨hap,hao,hbo,heo⟩:=hok;have ham:=Qfb (Jd hap);refine Qb Qap Qa0u ?_;refine Qa ?_;simp only[go_sem,x.cells_eq];refine Qa ?_;simp only[go_sem];refine Qgn h hsok (by omega) fun s1 H1 h1 st1 hb1=>?_;simp only[go_sem,Qu5];refine Qa ?_;simp only[go_sem];refine Qgn h1 (st1.ok _ hsok) (by omega) fun s2 H2 h2 st2 hb2=>?_;have st2:=st1.trans st2;simp only[go_sem,Qu6];refine Qa ?_;simp only[go_sem];refine Qgn h2 (st2.ok _ hsok) (by omega) fun s3 H3 h3 st3 hb3=>?_;have st3:=st2.trans st3;simp only[go_sem,Qu7];refine Qa ?_;simp only[go_sem];refine Qy1 (next:=[(s.blocks.length:Int)]) (N:=0) h3 (st3.at_ hat) (by omega) fun s4 H4 h4 st4=>?_;have hb4:=st4.bl;have st4:=st3.trans st4;refine Qa ?_;simp only[go_sem,hap,Qa5,Qfa _ _ hap,Ex.take4,Ex.allOw,Ex.cells_len];refine⟨by omega,?_⟩;refine Qbtt _ x.args[0] F H4 w s4 _ _ (Jh _) (Qahd hao _ (Jd hap)) h4 (st4.at_ hat) (st4.ok _ hsok) (by omega) fun v s5 H5 h5 st5=>?_;have hb5:=st5.bl;have st5:=st4.trans st5;simp only[go_sem,Qu8];refine Qa ?_;simp only[go_sem];refine Qy1 (next:=[(s1.blocks.length:Int),(s2.blocks.length:Int)]) (N:=0) h5 (st5.at_ hat) (by omega) fun s6 H6 h6 st6=>?_;have hb6:=st6.bl;have st6:=st5.trans st6;refine Qa ?_;simp only[go_sem];refine hS (Q0 x.body) (by omega) x.body _ F H6 w s6 _ _ (Jh _) hbo h6 (st6.at_ hat) (st6.ok _ hsok) (by omega) fun s7 H7 h7 st7=>?_;have hb7:=st7.bl;have st7:=st6.trans st7;refine Qr ?_;simp only[go_sem];refine Qy1 (next:=[(s.blocks.length:Int)]) (N:=0) h7 (st7.at_ hat) (by omega) fun s8 H8 h8 st8=>?_;have st8:=st7.trans st8;simp only[Q4,Qaa,Qaak];exact⟨by simp,hK s8 H8 h8 (st8.mono (by omega))⟩
set_option maxHeartbeats 2000000 in
theorem Qbqb {n:Nat}(hS:∀m,m<n→Qbcu m):Qbtf n:=by
 intro x F H w s N K hn hok h hat hsok hN hK;have hok':=hok;have hsz:=x.size_eq;rw[St.ok_eq]at hok;obtain⟨hap,hao,hbo,heo⟩:=hok;refine Qb Qap Qa0v ?_;have retn:∀(e:Env) (s':LS) (H':Heap) (q:X),(q=.nrm∨q=.ret)→LInv F H' w s'→LStep s s' (10 * x.size)→Q4 Qsv K q e H':=by
  intro e s' H' q hq a1 a2;rcases hq with rfl|rfl <;> exact⟨by simp[Qsv],hK s' H' a1 a2⟩
 refine Qa ?_;simp only[go_sem,x.cells_eq];refine Q5 ?_;refine Qa ?_;simp only[go_sem];refine Qh (Qd rfl ?_ ?_)
 ·intro hc;refine Qa ?_;simp only[go_sem];rw[←x.cells_eq];refine Qbok hS x F H w s N _ hn hok' h hat hsok hN fun s1 H1 h1 st1=>?_;refine Qj ?_;simp only[go_sem];exact retn _ s1 H1 _ (.inr rfl) h1 st1
 intro hc0;refine Qf ?_;simp only[go_sem];refine Qa ?_;simp only[go_sem];refine Q5 ?_;refine Qa ?_;simp only[go_sem];refine Qh (Qc (Qu (fun n e1 H1=>∃(i:Nat) (ars:List Int) (c:C) (Lg:List (Nat×Obj)) (s':LS),n=x.args.length-i∧i≤x.args.length∧ars.length=i∧Gr Lg 1 (Qe ars) c∧LInv F H1 w s'∧Kn F H1 [] (s'.L w++Lg)∧
  LStep s s' (10 * Qaf (x.args.take i))∧e1=[(0,.c (.ptr w 0)),(3,.c (.pp [.int .i64 x.op,.str x.name,.sl false 4 (Qbl x.args),.sl false 5 (Qa3 x.body),.sl false 5 (Qa3 x.els)])),(4,.c c),(5,.c (.int .i64 i))]) x.args.length ?_ ?_))
 ·exact⟨0,[],_,[],s,by omega,by omega,rfl,.nil 1,h,by simpa using h.kn,(LStep.refl s).mono (by omega),rfl⟩
 ·rintro n e1 H1 ⟨i,ars,c,Lg,s1,hn1,hi,harl,hgr,h1,kn,st1,rfl⟩;refine Q5 ?_;refine Qa ?_;simp only[go_sem,Qa5];intro hl;simp only[LIM]at hl;refine Qh (Qd rfl ?_ ?_)
  ·intro hc;have hlt:i<x.args.length:=by simpa using hc
   have hm:=Qfb (Jd hlt);have htk:=Qr0 hlt;have htl:=Qha x.args (i+1);refine Qf ?_;simp only[go_sem];refine Qh (Qc (Qr ?_));simp only[go_sem,hlt,Qa5,Qfa _ _ hlt,Ex.take4,Ex.allOw,Ex.cells_len];obtain⟨F',hf,back⟩:=h1.beside kn hgr;refine Qbtt _ _ F' H1 w s1 _ _ (Jh _) (Qahd hao _ (Jd hlt)) hf (st1.at_ hat) (st1.ok _ hsok) (by omega) fun v s2 H2 h2 st2=>?_;obtain⟨h2,kn⟩:=back s2 H2 h2;simp only[go_sem,Qva];refine kn.grow (new:=Qe [v]) hgr (.mk' _ _ _ _) (Q6 _) (by simp only[Qi,harl,Js,Jy,LIM];omega) fun y' H3 kn=>?_;simp only[go_sem,Qu9];refine Qr ?_;simp only[go_sem,X.next];refine⟨Qp (by omega) (by omega),x.args.length-(i+1),by omega,i+1,ars++[v],_,_,s2,rfl,by omega,by simp[harl],.mk y' 1 (Qe (ars++[v])) (n:=(Qe ars).length+(Qe [v]).length) (by simp[Qe]),h2.re kn.drop,by rw[Qdn];exact kn,(st1.trans st2).mono (by rw[htk];omega),by simp[Qe]⟩
  ·intro hc;have hge:x.args.length≤i:=by simpa using hc
   have hil:i=x.args.length:=by omega
   rw[Jc hge]at st1;have har0:0<ars.length:=by omega
   refine Qv ?_;simp only[go_sem,X.next];refine Q5 ?_;obtain⟨S,H2,f1,f2,kn2⟩:=hgr.freeze kn (Q6 _);have h2:=h1.re kn2;refine c_gh (Qkc S (fun t=>?_) f2) (e':=[(0,.c (.ptr w 0)),(3,.c (.pp [.int .i64 x.op,.str x.name,.sl false 4 (Qbl x.args),.sl false 5 (Qa3 x.body),.sl false 5 (Qa3 x.els)])),(4,.c (.sl false 1 (Qe ars)))]) ?_
   ·simp only[lk];split
    ·exact .c _ _ (.same _ rfl)
    ·split
     ·exact .c _ _ (.same _ rfl)
     ·split
      ·exact .c _ _ f1
      ·exact .unk _
   have hsok1:=st1.ok _ hsok;have hat1:=st1.at_ hat;have hw2:=h2.hw;refine Qa ?_;simp only[go_sem];refine Qc ?_;refine Qa ?_;simp only[go_sem];refine Qd rfl ?_ ?_
   ·
    intro hc;refine Qa ?_;simp only[go_sem,hw2,LS.o];refine Q6z h2 hat1 hsok1 (by omega) fun s3 H3 h3 st3=>?_;have hw3:=h3.hw;have hvo:=h3.gv.isOw;have hsok3:=st3.ok _ hsok1;have st3:=st1.trans st3;refine Qao ?_;simp only[go_sem,hw3,LS.o,hvo];refine h3.addVar ⟨x.name,s3.next,0,rfl⟩ (by have:=hsok3.v1;simp only[LIM];omega) fun y H4 hw4 cont=>?_;simp only[go_sem,Qvb,hw4,LS.o];intro H5 h5;have h5':=cont H5 h5;have hw5:=h5'.hw;refine Qr ?_;have hn0:=hsok3.n0;have hn1:=hsok3.n1;simp only[go_sem,hw5,LS.o];refine⟨Qp (by omega) (by omega),fun H6 h6=>?_⟩;have h6':=h5'.setw (s':={ s3 with vc:=.vsl y 3 0 (s3.vars.length+1),lv:=[(y,.vec 3 (s3.vars++[[C.str x.name,C.int IntKind.i64 s3.next,C.int IntKind.i64 0]]))],vars:=s3.vars++[[C.str x.name,C.int IntKind.i64 s3.next,C.int IntKind.i64 0]],next:=s3.next+1 }) h6 rfl rfl rfl rfl h5'.gv h5'.rv;refine retn _ _ H6 _ (.inl rfl) h6' ⟨st3.bl,fun M hM=>?_,?_,st3.at_,st3.fn⟩
    ·have q:=st3.ok M hM;refine⟨q.r0,?_,?_,?_,?_,fun b hb=>?_,?_⟩
     ·have:=q.r1;show s3.regs≤_;omega
     ·have:=q.n0;show 0≤s3.next+1;omega
     ·have:=q.n1;show s3.next+1≤_;omega
     ·have:=q.b1;show s3.blocks.length≤_;omega
     ·have:=q.i1 b hb;omega
     ·have:=q.v1;simp;omega
    ·have:=st3.vl;simp;omega
   intro hc1;refine Qa ?_;simp only[go_sem];refine Qd rfl ?_ ?_
   ·
    intro hc;refine Qr ?_;simp only[go_sem];refine Qbuf h2 fun v=>?_;simp only[go_sem,Qvc];refine Q6z h2 hat1 hsok1 (by omega) fun s3 H3 h3 st3=>?_;exact retn _ _ H3 _ (.inl rfl) h3 ((st1.trans st3).mono (by omega))
   intro hc2;refine Qa ?_;simp only[go_sem];refine Qd rfl ?_ ?_
   ·intro hc;refine Qr ?_;simp only[go_sem];refine Q6z h2 hat1 hsok1 (by omega) fun s3 H3 h3 st3=>?_;exact retn _ _ H3 _ (.inl rfl) h3 ((st1.trans st3).mono (by omega))
   intro hc3;refine Qa ?_;simp only[go_sem];refine Qd rfl ?_ ?_
   ·intro hc;refine Qr ?_;simp only[go_sem];refine Q6z h2 hat1 hsok1 (by omega) fun s3 H3 h3 st3=>?_;exact retn _ _ H3 _ (.inl rfl) h3 ((st1.trans st3).mono (by omega))
   intro hc4;refine Qa ?_;simp only[go_sem];refine Qd rfl ?_ ?_
   ·
    intro hc;refine Qbw ?_;simp only[go_sem,har0,Qi,Q9 _ _ har0];refine⟨by omega,?_⟩;refine Qgn h2 hsok1 (by omega) fun s3 H3 h3 st3 hb3=>?_;have st3:=st1.trans st3;simp only[go_sem,Qpr,har0,Qi,Q9 _ _ har0];refine⟨by omega,?_⟩;refine Qy1 (next:=[]) (N:=0) h3 (st3.at_ hat) (by omega) fun s4 H4 h4 st4=>?_;exact retn _ _ H4 _ (.inl rfl) h4 ((st3.trans st4).mono (by omega))
   intro hc5;refine Qa ?_;simp only[go_sem];refine Qd rfl ?_ ?_
   ·
    intro hc;refine Qa ?_;simp only[go_sem];refine Qgn h2 hsok1 (by omega) fun s3 H3 h3 st3 hb3=>?_;have st3:=st1.trans st3;simp only[go_sem,Qps];refine Qa ?_;simp only[go_sem];refine Qgn h3 (st3.ok _ hsok) (by omega) fun s4 H4 h4 st4 hb4=>?_;have st4:=st3.trans st4;simp only[go_sem,Qpt];refine Qa ?_;simp only[go_sem];refine Qgn h4 (st4.ok _ hsok) (by omega) fun s5 H5 h5 st5 hb5=>?_;have st5:=st4.trans st5;simp only[go_sem,Qpu];refine Qa ?_;simp only[go_sem,har0,Qi,Q9 _ _ har0];refine⟨by omega,?_⟩;refine Qy1 (next:=[(s1.blocks.length:Int),(s3.blocks.length:Int)]) (N:=0) h5 (st5.at_ hat) (by omega) fun s6 H6 h6 st6=>?_;have hb6:=st6.bl;have st6:=st5.trans st6;refine Qa ?_;simp only[go_sem];refine hS (Q0 x.body) (by omega) x.body _ F H6 w s6 _ _ (Jh _) hbo h6 (st6.at_ hat) (st6.ok _ hsok) (by omega) fun s7 H7 h7 st7=>?_;have hb7:=st7.bl;have st7:=st6.trans st7;refine Qa ?_;simp only[go_sem];refine Qy1 (next:=[(s4.blocks.length:Int)]) (N:=0) h7 (st7.at_ hat) (by omega) fun s8 H8 h8 st8=>?_;have hb8:=st8.bl;have st8:=st7.trans st8;refine Qa ?_;simp only[go_sem];refine hS (Q0 x.els) (by omega) x.els _ F H8 w s8 _ _ (Jh _) heo h8 (st8.at_ hat) (st8.ok _ hsok) (by omega) fun s9 H9 h9 st9=>?_;have hb9:=st9.bl;have st9:=st8.trans st9;refine Qr ?_;simp only[go_sem];refine Qy1 (next:=[(s4.blocks.length:Int)]) (N:=0) h9 (st9.at_ hat) (by omega) fun s10 H10 h10 st10=>?_;exact retn _ _ H10 _ (.inl rfl) h10 ((st9.trans st10).mono (by omega))
   ·intro hc6;refine Qf ?_;simp only[go_sem];exact retn _ _ H2 _ (.inl rfl) h2 (st1.mono (by omega))
theorem Qbus (n:Nat):Qbcu n:=by
 induction n using Nat.strongRecOn with
 |ind n ih=>exact Qbmv (Qbqb ih)
end Go.AE.Y
namespace Go.AE.Y
open Go.Proofs.Tryz
variable {H:Heap}{K:V→Heap→Prop}
set_option maxHeartbeats 2000000 in
theorem Qbt2 {fns:List Fn}{fl:Bool}{k:Nat}(hk:k<fns.length)(hpl:fns[k].params.length≤3)(hbo:Qcs fns[k].body)(hbs:Q0 fns[k].body≤2^34)
  (hK:∀(c:CodeD) (H':Heap),Upd H H' []→c.fits→K (.ag c.cells) H'):Qo prog Qa6q [.ag [.sl fl 3 (Qb3 fns)],.c (.int .i64 k)] H K:=by
 refine Qy ?_;refine Qb Qap Qbt8 ?_;refine Qa ?_;simp only[go_sem];intro x4 hx4 H1 h1;have kn:=(Kn.start0 H).al hx4 h1;refine Qa ?_;simp only[go_sem,hk,Qbg,Qg7 _ _ hk,Fn.take3,Fn.allOw,Fn.cells_len];generalize fns[k]=f at *;intro x5 hx5 H2 h2;have kn:=kn.al hx5 h2;have hx52:=kn.l 1 rfl;simp only[go_sem,Qa42,hx52,Fn.cells];intro H3 h3;have kn:Kn H H3 [] [(x4,.st [.int .i64 0,.int .i64 0,.sl true 5 []]),(x5,.st [.str f.name,.sl false 1 (Qbi f.params),.sl false 5 (Qa3 f.body)])]:=kn.stL 1 rfl h3;have hx43:=kn.l 0 rfl;have hx53:=kn.l 1 rfl;have h45:=kn.neL 0 1 rfl rfl (by decide);refine Qa ?_;simp only[go_sem,hx53,Qat];intro hpl2 w hw H4 h4;have h:LInv H3 H4 w ⟨fns,fl,0,0,.sl true 5 [],[],[],0,.sl true 3 [],[],[],f.params.length⟩:=
  ⟨(Kn.start0 H3).al hw h4,.nil 5,.inl ⟨rfl,rfl,rfl⟩,by simp,by simp,by simp⟩
 have hfr:∀(s:LS) (H':Heap),LInv H3 H' w s→H' x4=.st [.int .i64 0,.int .i64 0,.sl true 5 []]∧H' x5=.st [.str f.name,.sl false 1 (Qbi f.params),.sl false 5 (Qa3 f.body)]:=fun s H' h'=>
  ⟨by rw[h'.kn.chg x4 (by rw[hx43];simp) (by simp),hx43],by rw[h'.kn.chg x5 (by rw[hx53];simp) (by simp),hx53]⟩
 have hx54:=(hfr _ _ h).2;have hw4:=h.hw;simp only[go_sem,Qa43];refine Qa ?_;simp only[go_sem,hx54,hw4,LS.o,Qat];intro _ H5 h5;have h:=h.setw (s':=⟨fns,fl,f.params.length,0,.sl true 5 [],[],[],0,.sl true 3 [],[],[],f.params.length⟩) h5 rfl rfl rfl rfl h.gv h.rv;have hx55:=(hfr _ _ h).2;refine Qao ?_;simp only[go_sem,hx55,Qat];refine Qboh _ f.body (Jh _) (by omega) fun v hv=>?_;have hw5:=h.hw;simp only[go_sem,Qa44,hx55,hw5,LS.o,Qat];refine⟨Qp (by omega) (by omega),fun H6 h6=>?_⟩;have h:=h.setw (s':=⟨fns,fl,f.params.length,(f.params.length:Int)+v,.sl true 5 [],[],[],0,.sl true 3 [],[],[],f.params.length⟩) h6 rfl rfl rfl rfl h.gv h.rv;refine Q5 ?_;refine Qa ?_;simp only[go_sem];refine Qh (Qc (Qu (fun n e1 H1=>∃(i:Nat) (s':LS),n=f.params.length-i∧i≤f.params.length∧LInv H3 H1 w s'∧s'.blocks=[]∧s'.at_=0∧s'.regs=(f.params.length:Int)+v∧s'.next=f.params.length∧s'.vars.length=i∧
  e1=[(4,.c (.ptr x4 0)),(5,.c (.ptr x5 0)),(6,.c (.ptr w 0)),(7,.c (.int .i64 i))]) f.params.length ?_ ?_))
 ·exact⟨0,_,by omega,by omega,h,rfl,rfl,rfl,rfl,rfl,rfl⟩
 ·rintro n e1 H1 ⟨i,s,hn1,hi,h,hb0,ha0,hr0,hn0,hvl,rfl⟩;have hx51:=(hfr _ _ h).2;have hw1:=h.hw;have hvo:=h.gv.isOw;refine Q5 ?_;refine Qa ?_;simp only[go_sem,hx51,Qat];intro _;refine Qh (Qd rfl ?_ ?_)
  ·intro hc;have hlt:i<f.params.length:=by simpa using hc
   refine Qf ?_;simp only[go_sem];refine Qh (Qc (Qbw ?_));simp only[go_sem,hx51,hw1,LS.o,hvo,hlt,Qat,Qib _ _ hlt];refine h.addVar ⟨_,_,_,rfl⟩ (by simp only[LIM];omega) fun y H4 hw4 cont=>?_;simp only[go_sem,Qa45,hw4,LS.o];intro H5 h5;have h':=cont H5 h5;refine Qr ?_;simp only[go_sem,X.next];exact⟨Qp (by omega) (by omega),f.params.length-(i+1),by omega,i+1,_,rfl,by omega,h',hb0,ha0,hr0,hn0,by simp[hvl],rfl⟩
  ·intro hc;refine Qv ?_;simp only[go_sem,X.next];have hsok:s.ok (3+v):=⟨by rw[hr0];omega,by rw[hr0];omega,by rw[hn0];omega,by rw[hn0];omega,by simp[hb0],by simp[hb0],by omega⟩;refine Qa ?_;simp only[go_sem];refine Qazv h hsok (by omega) fun s1 H4 h1 st1 hb1 hat1=>?_;have hat:s1.at_<s1.blocks.length:=by rw[hat1,ha0];omega
   have hsok1:=st1.ok _ hsok;refine Qa ?_;have hx54:=(hfr _ _ h1).2;simp only[go_sem,hx54];refine Qbus _ f.body _ H3 H4 w s1 _ _ (Jh _) hbo h1 hat hsok1 (by omega) fun s2 H5 h2 st2=>?_;refine Qa ?_;simp only[go_sem];refine Qsg h2 (st2.ok _ hsok1) (by omega) fun s3 H6 h3 st3=>?_;have st3:=st2.trans st3;simp only[go_sem,Qa47];refine Q6z (args:=[]) h3 (st3.at_ hat) (st3.ok _ hsok1) (by omega) fun s4 H7 h4 st4=>?_;have st4:=st3.trans st4;simp only[go_sem,Qa46];have hbl4:=st4.bl;refine Qa ?_;simp only[go_sem];refine Qy1 (at':=0) (next:=[]) (N:=0) h4 (st4.at_ hat) (by omega) fun s5 H8 h5 st5=>?_;have hw8:=h5.hw;obtain⟨hx48,hx58⟩:=hfr _ _ h5;have hbow:=h5.gb.isOw;refine Qa ?_;simp only[go_sem,hw8,hx48,LS.o,hbow];intro H9 h9;have hx49:H9 x4=.st [.int .i64 s5.params,.int .i64 s5.regs,s5.bc]:=by rw[h9];exact Heap.set_same _ _ _
   have ho9:∀m,m≠x4→H9 m=H8 m:=fun m hm=>by rw[h9];exact Heap.set_other _ _ hm
   have huse:∀m,H m≠.none→H9 m=H m:=fun m hm=>by
    have e1:=kn.chg m hm (by simp);have e2:=h5.kn.chg m (by rw[e1];exact hm) (by simp);rw[ho9 m (fun hh=>by subst hh;exact hm (kn.free 0 rfl)),e2,e1]
   have hun:∀p∈s5.L w,H9 p.1=p.2∧un H p.1=true:=fun p hp=>by
    have e1:=(h5.kn.get p (by simpa using hp)).1;have e2:=h5.kn.loc p hp;have hne:p.1≠x4:=fun hh=>(by rw[hh,hx43]at e2;simp at e2);refine⟨by rw[ho9 _ hne,e1],Qj2 ?_⟩
    cases hh:H p.1 with
    |none=>rfl
    |_=>have:=kn.chg p.1 (by rw[hh];simp) (by simp);rw[e2,hh]at this;simp at this
   refine Qj ?_;simp only[go_sem,Q4,Qaa,Qbqr,reduceIte,Ja,forall_eq,RS.op,hx49,hbow];have hok5:=(st4.trans st5).ok _ hsok1;obtain⟨bs,hbs1,hbs2,hbs3⟩:=Qbc0 (H:=H9) (S:=un H) s5.blocks fun b hb=>⟨h5.gi b hb,h5.ri b hb,fun p hp=>hun p (by
    simp only[LS.L,Je,Jbg];exact .inr (.inr (.inr ⟨b,hb,hp⟩))),by have:=hok5.i1 b hb;omega⟩
   refine⟨.ag (CodeD.mk s5.params s5.regs bs).cells,FrzL.ag (.cons (Qg rfl) (.cons (Qg rfl) (.cons (Gr.frzM h5.gb (fun p hp=>hun p (by
    simp only[LS.L,Je];exact .inr (.inl hp))) hbs1) .nil))),hK _ _ ⟨by simp,fun m hm _=>?_⟩ hbs3⟩
   rw[Qbi0 hm];exact huse m hm
theorem Qboi {fns:List Fn}{fl:Bool}(hp:PrOk fns)(hK:∀(cs:List CodeD) (H':Heap),Upd H H' []→0<cs.length→(∀c∈cs,c.fits)→K (.ag [.sl false 3 (Qk cs)]) H') :
  Qo prog Qahu [.ag [.sl fl 3 (Qb3 fns)]] H K:=by
 refine Qy ?_;refine Qb Qap Qbo3 ?_;refine Qa ?_;simp only[go_sem];intro x2 hx2 H1 h1;have kn:=(Kn.start0 H).al hx2 h1;refine Qa ?_;simp only[go_sem];intro x3 hx3 H2 h2;have kn:=kn.al hx3 h2;have hx32:=kn.l 1 rfl;simp only[go_sem,Qaoy,hx32];intro H3 h3;have kn:Kn H H3 [] [(x2,.st [.sl true 3 []]),(x3,.st [.sl true 3 []])]:=kn.stL 1 rfl h3;refine Q5 ?_;refine Qa ?_;simp only[go_sem];refine Qh (Qc (Qu (fun n e1 H1=>∃(i:Nat) (cs:List CodeD) (c:C) (Lg:List (Nat×Obj)),n=fns.length-i∧i≤fns.length∧cs.length=i∧(∀c∈cs,c.fits)∧Gr Lg 3 (Qk cs) c∧Kn H H1 [] ([(x2,.st [.sl true 3 []]),(x3,.st [c])]++Lg)∧
  e1=[(1,.c (.pp [.sl fl 3 (Qb3 fns)])),(2,.c (.ptr x2 0)),(3,.c (.ptr x3 0)),(4,.c (.int .i64 i))]) fns.length ?_ ?_))
 ·exact⟨0,[],_,[],by omega,by omega,rfl,by simp,.nil 3,kn,rfl⟩
 ·rintro n e1 H1 ⟨i,cs,c,Lg,hn1,hi,hcl,hfit,hgr,kn,rfl⟩;refine Q5 ?_;refine Qa ?_;simp only[go_sem,Qbg];intro hl;simp only[LIM]at hl;have hcow:=hgr.isOw;have hx31:=kn.l 1 rfl;refine Qh (Qd rfl ?_ ?_)
  ·intro hc;have hlt:i<fns.length:=by simpa using hc
   have hm:=Jd hlt;refine Qf ?_;simp only[go_sem];refine Qh (Qc (Qbw ?_));simp only[go_sem,hx31,hcow];refine Qbt2 hlt (hp.par _ hm) (hp.ok _ hm) (by have:=Qso hm;have:=hp.size;omega) fun x H4 hu hxf=>?_;have kn:=kn.call0 hu;have hx34:=kn.l 1 rfl;simp only[go_sem,Qao0,hx34,hcow,CodeD.cells];refine kn.grow (B:=[_,_]) (new:=[x.cells]) hgr (.mk' _ _ _ _) (by intro r hr;simp only[Ja]at hr;subst hr;rfl) (by simp only[Qx,LIM,Js,Jy];omega) fun y' H5 kn=>?_;have hx35:=kn.l 1 rfl;simp only[go_sem,Qaoz,hx35];intro H6 h6;have kn:=kn.stL 1 rfl h6;refine Qr ?_;simp only[go_sem,X.next];refine⟨Qp (by omega) (by omega),fns.length-(i+1),by omega,i+1,cs++[x],_,_,rfl,by omega,by simp[hcl],fun c' hc'=>by
    rcases Je.1 hc' with h|h
    ·exact hfit c' h
    ·simp at h;subst h;exact hxf,?_,kn,rfl⟩
   rw[Qaz0];exact .mk _ _ _ (by simp[Qx])
  ·intro hc;have hge:fns.length≤i:=by simpa using hc
   have hx21:=kn.l 0 rfl;refine Qv ?_;simp only[go_sem,X.next];refine Qa ?_;simp only[go_sem,hx31,hx21,hcow];intro H2 h2;have kn:=kn.stL 0 rfl h2;have hx22:=kn.l 0 rfl;refine Qj ?_;simp only[go_sem,Q4,Qaa,Qbdz,reduceIte,Ja,forall_eq,RS.op,hx22,hcow];exact⟨.ag [.sl false 3 (Qk cs)],FrzL.ag (.cons (hgr.frz (B:=[_,_]) kn (Qbh _)) .nil),hK _ _ kn.fin (by have:=hp.pos;omega) hfit⟩
attribute [local instance] Classical.propDecidable
def Q0p (q:CodeD):Bool:=decide (0≤q.params∧q.params≤3)&&decide (q.params≤q.regs∧q.regs≤300)&&decide (1≤(q.blocks.length:Int)∧(q.blocks.length:Int)≤160)
def Qxk (y:BlkD):Nat:=y.ins.length+y.phis.length
def Qie {α:Type}(f:α→Nat)(l:List α):Nat:=(l.map f).sum
theorem Qbz {α:Type}{f:α→Nat}{l:List α}{i:Nat}(h:i<l.length):Qie f (l.take (i+1))=Qie f (l.take i)+f l[i]:=by
 rw[Qie,Qie,Ji h,Jx,Jbk];simp
theorem Qapp {α:Type}{f:α→Nat}{l:List α}(i:Nat):Qie f (l.take i)≤Qie f l:=by
 have:Qie f l=Qie f (l.take i)+Qie f (l.drop i):=by rw[Qie,Qie,Qie,←Jbk,←Jx,J8]
 omega
def Qgp (q:CodeD):Nat:=Qie Qxk q.blocks
def Qapt (cs:List CodeD)(k:Nat)(hk:k<cs.length):Prop:=Q0p cs[k]=true∧∀(b:Nat) (h:b<cs[k].blocks.length),blkG cs k b cs[k] cs[k].blocks[b]=true
def Qbs4 (cs:List CodeD):Prop:=(1≤(cs.length:Int)∧(cs.length:Int)≤4)∧(∀(k:Nat) (h:k<cs.length),Qapt cs k h)∧Qie Qgp cs≤800
noncomputable def Qew (cs:List CodeD):Bool:=decide (Qbs4 cs)
theorem Qbd8 {cs:List CodeD}(hfit:∀c∈cs,c.fits)(h:Qew cs=true):cs.length≤4∧0<cs.length∧∀c∈cs,c.gd:=by
 obtain⟨h1,h2,_⟩:=of_decide_eq_true h;refine⟨by omega,by omega,fun c hc=>?_⟩;obtain⟨k,hk,rfl⟩:=Ja6 hc;obtain⟨g1,g2⟩:=h2 k hk;simp only[Q0p,Jl,decide_eq_true_eq]at g1;refine⟨by omega,by omega,fun b hb=>?_,fun b hb=>hfit _ (Jd hk) b hb⟩;obtain⟨i,hi,rfl⟩:=Ja6 hb;exact Qbik (g2 i hi)
theorem Qxd {cs:List CodeD}(h:¬Qbs4 cs):Qew cs=false:=decide_eq_false h
theorem Qbqf {cs:List CodeD}{k j:Nat}(hk:k<cs.length)(hj:j<cs[k].blocks.length)(h:800<Qie Qgp (cs.take k)+Qie Qxk (cs[k].blocks.take j)+Qxk cs[k].blocks[j]):¬Qbs4 cs:=by
 rintro⟨_,_,h3⟩;have a1:=Qapp (f:=Qgp) (l:=cs) (k+1);rw[Qbz hk]at a1;have a2:=Qapp (f:=Qxk) (l:=cs[k].blocks) (j+1);rw[Qbz hj]at a2;simp only[Qgp]at *;omega
set_option maxHeartbeats 2000000 in
theorem Qry {cs:List CodeD}{fl:Bool}(hfit:∀c∈cs,c.fits)(hK:∀(H':Heap),Upd H H' []→K (.c (.bool (Qew cs))) H') :
  Qo prog Qa7 [.ag [.sl fl 3 (Qk cs)]] H K:=by
 refine Qy ?_;refine Qb Qap Qaqg ?_;have retf:∀(b:Bool) (e:Env) (H':Heap) (L:List (Nat×Obj)),Qew cs=b→Kn H H' [] L→lk 2 e=.c (.bool b)→Q4 Qc8 (fun x H'=>∃x',FrzV H' (un H) x x'∧K x' (H'.frz (un H))) .ret e H':=by
  intro b e H' L hb kn h3;simp only[go_sem,Q4,Qaa,Qc8,Ja,forall_eq,RS.op,h3];rw[←hb];exact⟨_,.c _ _ (Qg rfl),hK _ kn.fin⟩
 have kn:=Kn.start0 H;refine Qa ?_;simp only[go_sem];refine Q5 ?_;refine Qa ?_;simp only[go_sem,Qx];intro hcl;refine Qdo ?_;simp only[go_sem,Ql4];refine Qh (Qd rfl ?_ ?_)
 ·intro hc;refine Qa ?_;simp only[go_sem];refine Qj ?_;simp only[go_sem];exact retf false _ _ _ (Qxd fun hu=>by have:=of_decide_eq_false (Qsm hc);exact this hu.1) kn (by simp[lk])
 intro hc;have hc4:cs.length≤4∧0<cs.length:=by
  have:1≤(cs.length:Int)∧(cs.length:Int)≤4:=by simpa using hc
  omega
 refine Qf ?_;simp only[go_sem];refine Qa ?_;simp only[go_sem];refine Q5 ?_;refine Qa ?_;simp only[go_sem];refine Qh (Qc (Qu (fun m e1 H1=>∃(k n:Nat),m=cs.length-k∧k≤cs.length∧n=Qie Qgp (cs.take k)∧n≤800∧(∀(i:Nat) (hi:i<cs.length),i<k→Qapt cs i hi)∧Kn H H1 [] []∧e1=[(1,.c (.pp [.sl fl 3 (Qk cs)])),(3,.c (.int .i64 n)),(4,.c (.int .i64 k))]) cs.length ?_ ?_))
 ·exact⟨0,0,by omega,by omega,rfl,by omega,fun _ _ h=>by omega,kn,rfl⟩
 ·rintro m e1 H1 ⟨k,n,hm,hk,hns,hn,hgd,kn,rfl⟩;refine Q5 ?_;refine Qa ?_;simp only[go_sem,Qx];intro hcl;refine Qh (Qd rfl ?_ ?_)
  ·intro hc;have hlt:k<cs.length:=by simpa using hc
   refine Qf ?_;simp only[go_sem];refine Qh (Qc ?_);refine Qa ?_;simp only[go_sem,hlt,Qx,Qad _ _ hlt,CodeD.cells];obtain⟨q,hq⟩:∃q,cs[k]=q:=⟨_,rfl⟩;rw[hq];intro x5 hx5 H2 h2;have kn:=kn.al hx5 h2;have hx52:=kn.l 0 rfl;simp only[go_sem,Ql5,hx52];intro H3 h3;have kn:Kn H H3 [] [(x5,.st [.int .i64 q.params,.int .i64 q.regs,.sl false 5 (Qm q.blocks)])]:=kn.stL 0 rfl h3;have hx53:=kn.l 0 rfl;refine Q5 ?_;refine Qa ?_;simp only[go_sem,hx53];refine Qdo ?_;simp only[go_sem,Ql6,hx53];have rest:∀(b:Bool) (E1:Env),lk 1 E1=.c (.pp [.sl fl 3 (Qk cs)])→lk 3 E1=.c (.int .i64 n)→lk 4 E1=.c (.int .i64 k)→lk 5 E1=.c (.ptr x5 0)→lk 42 E1=.c (.bool b)→Q0p q=(!b)→
     Qaj prog (s_sp_UnitValid_6.seq Ql3) (X.inBlock 1 (X.sq prog Qfk (X.next (fun e2 H2=>∃m_1,m_1<m∧∃(k n:Nat),m_1=cs.length-k∧k≤cs.length∧n=Qie Qgp (cs.take k)∧n≤800∧(∀(i:Nat) (hi:i<cs.length),i<k→Qapt cs i hi)∧Kn H H2 [] []∧e2=[(1,.c (.pp [.sl fl 3 (Qk cs)])),(3,.c (.int .i64 n)),(4,.c (.int .i64 k))])
      (X.inBlock 0 (X.sq prog Qfl (Q4 Qc8 (fun x H'=>∃x',FrzV H' (un H) x x'∧K x' (H'.frz (un H))))))))) E1 H3:=by
    intro b E1 l1 l3 l4 l5 l42 hb;refine Qh (Qd l42 ?_ ?_)
    ·intro hc2;refine Qa ?_;simp only[go_sem];refine Qj ?_;simp only[go_sem,X.next];exact retf false _ _ _ (Qxd fun hu=>by have:=(hu.2.1 k hlt).1;rw[hq,hb,hc2]at this;simp at this) kn (by simp[lk])
    intro hc2;rw[hc2]at hb;have hb':=hb;simp only[Q0p,Ju,Jl,decide_eq_true_eq]at hb';obtain⟨hr0,hr1,hb0,hbl⟩:0≤q.regs∧q.regs≤300∧0<q.blocks.length∧q.blocks.length≤160:=(by omega);refine Qf ?_;simp only[go_sem];refine Qa ?_;simp only[go_sem,l1,l3,l4,l5];refine Qc (Qu (fun m e1 H1=>∃(j n2:Nat),m=q.blocks.length-j∧j≤q.blocks.length∧n2=n+Qie Qxk (q.blocks.take j)∧n2≤800∧(∀(i:Nat) (hi:i<q.blocks.length),i<j→blkG cs k i q q.blocks[i]=true)∧Kn H H1 [] [(x5,.st [.int .i64 q.params,.int .i64 q.regs,.sl false 5 (Qm q.blocks)])]∧
     e1=[(1,.c (.pp [.sl fl 3 (Qk cs)])),(3,.c (.int .i64 n2)),(4,.c (.int .i64 k)),(5,.c (.ptr x5 0)),(6,.c (.int .i64 j))]) q.blocks.length ?_ ?_)
    ·exact⟨0,n,by omega,by omega,rfl,hn,fun _ _ h=>by omega,kn,rfl⟩
    ·rintro m2 e1 H4 ⟨j,n2,hm2,hj,hn2s,hn2,hnx,kn,rfl⟩;have hx54:=kn.l 0 rfl;refine Q5 ?_;refine Qa ?_;simp only[go_sem,hx54,Ql];intro hbl2;refine Qh (Qd rfl ?_ ?_)
     ·intro hc3;have hjl:j<q.blocks.length:=(by simpa using hc3);refine Qf ?_;simp only[go_sem];refine Qh (Qc ?_);have hqf:=hfit _ (Jd hlt);rw[hq]at hqf;have hbf:=hqf _ (Jd hjl);have hss:=Qbz (f:=Qxk) hjl;have hcy:Qxk q.blocks[j]=q.blocks[j].ins.length+q.blocks[j].phis.length:=rfl;refine Qao ?_;simp only[go_sem,hx54,hjl,Ql,Q1 _ _ hjl,BlkD.cells,Q3,Qq];refine⟨Qp (by omega) (by omega),Qp (by omega) (by omega),?_⟩;refine Qa ?_;simp only[go_sem];have fin:∀(b3:Bool) (E1:Env) (H5:Heap),(decide (n2+Qxk q.blocks[j]≤800)&&blkG cs k j q q.blocks[j])=(!b3)→Kn H H5 [] [(x5,.st [.int .i64 q.params,.int .i64 q.regs,.sl false 5 (Qm q.blocks)])]→lk 1 E1=.c (.pp [.sl fl 3 (Qk cs)])→
        lk 3 E1=.c (.int .i64 ((n2+q.blocks[j].ins.length+q.blocks[j].phis.length:Nat):Int))→lk 4 E1=.c (.int .i64 k)→lk 5 E1=.c (.ptr x5 0)→lk 6 E1=.c (.int .i64 j)→lk 75 E1=.c (.bool b3)→
        Qaj prog Qpz (X.inBlock 3 (X.sq prog Ql2 (X.next (fun e2 H2=>∃m,m<m2∧∃(j n2:Nat),m=q.blocks.length-j∧j≤q.blocks.length∧n2=n+Qie Qxk (q.blocks.take j)∧n2≤800∧(∀(i:Nat) (hi:i<q.blocks.length),i<j→blkG cs k i q q.blocks[i]=true)∧Kn H H2 [] [(x5,.st [.int .i64 q.params,.int .i64 q.regs,.sl false 5 (Qm q.blocks)])]∧
         e2=[(1,.c (.pp [.sl fl 3 (Qk cs)])),(3,.c (.int .i64 n2)),(4,.c (.int .i64 k)),(5,.c (.ptr x5 0)),(6,.c (.int .i64 j))])
         (X.inBlock 2 (X.inBlock 1 (X.sq prog Qfk (X.next (fun e2 H2=>∃m_1,m_1<m∧∃(k n:Nat),m_1=cs.length-k∧k≤cs.length∧n=Qie Qgp (cs.take k)∧n≤800∧(∀(i:Nat) (hi:i<cs.length),i<k→Qapt cs i hi)∧Kn H H2 [] []∧e2=[(1,.c (.pp [.sl fl 3 (Qk cs)])),(3,.c (.int .i64 n)),(4,.c (.int .i64 k))])
         (X.inBlock 0 (X.sq prog Qfl (Q4 Qc8 (fun x H'=>∃x',FrzV H' (un H) x x'∧K x' (H'.frz (un H))))))))))))) E1 H5:=by
       intro b3 E1 H5 hb3 kn l1 l3 l4 l5 l6 l75;refine Qd l75 ?_ ?_
       ·intro hc4;refine Qa ?_;simp only[go_sem];refine Qj ?_;simp only[go_sem,X.next];refine retf false _ _ _ (Qxd fun hu=>?_) kn (by simp[lk]);rw[hc4]at hb3;have hblk:=(hu.2.1 k hlt).2 j (by rw[hq];exact hjl);subst hq;have hov:¬800<n2+Qxk cs[k].blocks[j]:=fun ho=>Qbqf hlt hjl (by omega) hu;rw[hblk]at hb3;simp at hb3;omega
       ·intro hc4;rw[hc4]at hb3;simp only[Ju,Jl,decide_eq_true_eq]at hb3;refine Qf ?_;simp only[go_sem];refine Qr ?_;simp only[go_sem,X.next,l1,l3,l4,l5,l6];refine⟨Qp (by omega) (by omega),q.blocks.length-(j+1),by omega,j+1,_,rfl,by omega,?_,?_,?_,kn,rfl⟩
        ·rw[hss];omega
        ·omega
        ·intro i hi hij;by_cases hij2:i<j
         ·exact hnx i hi hij2
         ·have:i=j:=(by omega);subst this;exact hb3.2
      refine⟨fun hb1=>?_,fun hb1=>?_⟩
      ·refine Qbjz hlt (by rw[hq];exact hjl) (by rw[hq];exact hr0) (by rw[hq];exact hr1) (by omega) (by rw[hq];omega) fun H5 hu=>?_;have kn:=kn.call0 hu;simp only[go_sem,Qfn];refine fin _ _ _ ?_ kn (by simp[lk]) (by simp[lk]) (by simp[lk]) (by simp[lk]) (by simp[lk]) (by simp[lk];rfl);subst hq;by_cases ho:n2+Qxk cs[k].blocks[j]≤800
       ·have ho':¬800<(n2:Int)+cs[k].blocks[j].ins.length+cs[k].blocks[j].phis.length:=(by simp only[Qxk]at ho;omega);simp[ho,ho']
       ·have ho':800<(n2:Int)+cs[k].blocks[j].ins.length+cs[k].blocks[j].phis.length:=(by simp only[Qxk]at ho;omega);simp[ho,ho']
      ·replace hb1:=Qgt hb1;simp only[go_sem,Qfn,hb1];exact fin true _ _ (by simp at hb1;simp[hcy];omega) kn (by simp[lk]) (by simp[lk]) (by simp[lk]) (by simp[lk]) (by simp[lk]) (by simp[lk])
     ·intro hc3;refine Qv ?_;simp only[go_sem,X.next];refine Qr ?_;simp only[go_sem,X.next];have hjq:q.blocks.length≤j:=(by simpa using hc3);have hjq:j=q.blocks.length:=(by omega);refine⟨Qp (by omega) (by omega),cs.length-(k+1),by omega,k+1,n2,rfl,by omega,?_,hn2,?_,kn.drop (A:=[]),rfl⟩
      ·rw[Qbz hlt,hq,hn2s,hns,hjq,Ja0];rfl
      ·intro i hi hik;by_cases hik2:i<k
       ·exact hgd i hi hik2
       ·have:i=k:=(by omega);subst this;subst hq;exact⟨by rw[hb];rfl,fun b hbl=>hnx b hbl (by omega)⟩
   refine⟨fun hb1=>?_,fun hb1=>?_⟩
   ·refine Qdo ?_;simp only[go_sem,Qfm,hx53,Ql];intro hblim;refine⟨fun hb2=>?_,fun hb2=>?_⟩
    ·replace hb2:=Qsm hb2;refine Qdo ?_;simp only[go_sem,Qcq];refine rest _ _ (by simp[lk]) (by simp[lk]) (by simp[lk]) (by simp[lk]) (by simp[lk];rfl) ?_;simp[Q0p]
    ·replace hb2:=Qgt hb2;simp only[go_sem,Qcq,hb2];exact rest true _ (by simp[lk]) (by simp[lk]) (by simp[lk]) (by simp[lk]) (by simp[lk]) (by simp at hb2;simp[Q0p];omega)
   ·replace hb1:=Qgt hb1;simp only[go_sem,Qfm,Qcq,hb1,hx53,Ql,cond_true];exact rest true _ (by simp[lk]) (by simp[lk]) (by simp[lk]) (by simp[lk]) (by simp[lk]) (by simp at hb1;simp[Q0p];omega)
  ·intro hc;refine Qv ?_;simp only[go_sem,X.next];refine Qa ?_;simp only[go_sem];refine Qj ?_;have hkc:cs.length≤k:=by simpa using hc
   refine retf true _ _ _ (decide_eq_true ⟨by omega,fun i hi=>hgd i hi (by omega),?_⟩) kn (by simp[lk]);rw[Jc hkc]at hns;omega
theorem Qa59 {cs:List CodeD}{fl:Bool}(hfit:∀c∈cs,c.fits)(hK:∀(b:Bool) (H':Heap),(b=true→cs.length≤4∧0<cs.length∧∀c∈cs,c.gd)→Upd H H' []→K (.c (.bool b)) H') :
  Qo prog Qa7 [.ag [.sl fl 3 (Qk cs)]] H K:=Qry hfit fun H' hu=>hK _ H' (Qbd8 hfit) hu
end Go.AE.Y
namespace Go.AE.Y
open Go.Proofs.Tryz
variable {H:Heap}{K:V→Heap→Prop}
def UnitOk (cs:List CodeD):Prop:=0<cs.length∧cs.length≤4∧∀c∈cs,c.gd
theorem Qbjm {R:Rdr}{k:Nat}(hH:H R.l=R.o k)(hk:k+7100000≤2^30)
  (hK:∀(cs:List CodeD) (H':Heap) (k':Nat),k<k'→k'≤k+7050000→Upd H H' [(R.l,R.o k')]→UnitOk cs→K (.ag [.sl false 3 (Qk cs)]) H') :
  Qo prog Q6i [.c (.ptr R.l 0)] H K:=by
 refine Qy ?_;refine Qb Qap Qbka ?_;refine Qa ?_;simp only[go_sem];intro x2 hx2 H1 h1;have kn:=(Kn.start1 hH (R.o_ne k)).al hx2 h1;have tail:∀(E1:Env) (H2:Heap) (k1:Nat) (L:List (Nat×Obj)),k<k1→k1≤k+7000500→Kn H H2 [(R.l,R.o k1)] ([(x2,.st [.sl true 3 []])]++L)→lk 0 E1=.c (.ptr R.l 0)→lk 2 E1=.c (.ptr x2 0)→
   Qaj prog Qakn (Q4 Q28 fun x H'=>∃x',FrzV H' (un H) x x'∧K x' (H'.frz (un H))) E1 H2:=by
  intro E1 H2 k1 L hk1 hk2 kn l0 l2;refine Qa ?_;simp only[go_sem,l0,l2];refine Qbdf (kn.e 0 rfl) (by omega) fun cs H3 k2 hk3 hk4 hu hcs0 hcs3 hsm=>?_;have kn:=kn.callE 0 rfl hu (R.o_ne _);have hx2:=kn.l 0 rfl;simp only[go_sem,Qaa3,hx2,l2];intro H4 h4;have kn:=kn.stL 0 rfl h4;have hx2:=kn.l 0 rfl;refine Qj ?_;simp only[go_sem,Q4,Qaa,Q28,reduceIte,Ja,forall_eq,RS.op,hx2];exact⟨_,FrzL.ag (.cons (FrzR.same (Qbh cs)).sl .nil),hK cs _ k2 (by omega) (by omega) kn.fin ⟨hcs0,by omega,fun c hc=>(hsm c hc).gd⟩⟩
 refine Q5 ?_;refine Qa ?_;simp only[go_sem];refine Qbc (kn.e 0 rfl) (by omega) fun v H2 hv hu=>?_;have kn:=kn.callE 0 rfl hu (R.o_ne _);simp only[go_sem,Qaaz];refine Qh (Qd rfl ?_ ?_)
 ·intro hc;refine Qa ?_;simp only[go_sem];refine Qboa (kn.e 0 rfl) (by omega) fun l H3 k1 hk1 hk2 hu hp=>?_;have kn:=kn.callE 0 rfl hu (R.o_ne _);simp only[go_sem,Qaa2];refine Qboi hp fun cs H4 hu hcs0 hfit=>?_;have kn:=kn.call0 hu;simp only[go_sem,Qaa1];intro x3 hx3 H5 h5;have kn:=kn.al hx3 h5;have hx3:=kn.l 1 rfl;simp only[go_sem,Qaa0,hx3];intro H6 h6;have kn:=kn.stL 1 rfl h6;have hx3:=kn.l 1 rfl;refine Qa ?_;simp only[go_sem,hx3];refine Qa59 hfit fun b H7 hb hu=>?_;have kn:=kn.call0 hu;have hx3:=kn.l 1 rfl;have hx2:=kn.l 0 rfl;refine Qd rfl ?_ ?_
  ·intro hb1;refine Qa ?_;simp only[go_sem,hx3,hx2];intro H8 h8;have kn:=kn.stL 0 rfl h8;have hx2:=kn.l 0 rfl;refine Qj ?_;simp only[go_sem,Q4,Qaa,Q28,reduceIte,Ja,forall_eq,RS.op,hx2];obtain⟨g1,g2,g3⟩:=hb hb1;exact⟨_,FrzL.ag (.cons (FrzR.same (Qbh cs)).sl .nil),hK cs _ k1 (by omega) (by omega) kn.fin ⟨g2,g1,g3⟩⟩
  ·intro hb1;refine Qf ?_;simp only[go_sem];exact tail _ _ k1 [(x3,.st [.sl false 3 (Qk cs)])] (by omega) (by omega) kn (by simp[lk]) (by simp[lk])
 ·intro hc;refine Qf ?_;simp only[go_sem];exact tail _ _ (k+1) [] (by omega) (by omega) kn (by simp[lk]) (by simp[lk])
theorem Qbjl {R:Rdr}{k:Nat}(hH:H R.l=R.o k)(hk:k+7200000≤2^30)
  (hK:∀(cs:List CodeD) (H':Heap) (k':Nat),k<k'→k'≤k+7100000→Upd H H' [(R.l,R.o k')]→UnitOk cs→K (.ag [.sl false 3 (Qk cs)]) H') :
  Qo prog Q6f [.c (.ptr R.l 0)] H K:=by
 refine Qy ?_;refine Qb Qap Qbj7 ?_;refine Qa ?_;simp only[go_sem];intro x2 hx2 H1 h1;have kn:=(Kn.start1 hH (R.o_ne k)).al hx2 h1;refine Q5 ?_;refine Qa ?_;simp only[go_sem];refine Qbc (kn.e 0 rfl) (by omega) fun v H2 hv hu=>?_;have kn:=kn.callE 0 rfl hu (R.o_ne _);simp only[go_sem,Qaap];refine Qh (Qd rfl ?_ ?_)
 ·intro hc;refine Qa ?_;simp only[go_sem];refine Qbob (kn.e 0 rfl) (by omega) fun cs H3 k2 hk3 hk4 hu hcs0 hcs3 hgd=>?_;have kn:=kn.callE 0 rfl hu (R.o_ne _);have hx2:=kn.l 0 rfl;simp only[go_sem,Qaaq,hx2];intro H4 h4;have kn:=kn.stL 0 rfl h4;have hx2:=kn.l 0 rfl;refine Qj ?_;simp only[go_sem,Q4,Qaa,Qaim,reduceIte,Ja,forall_eq,RS.op,hx2];exact⟨_,FrzL.ag (.cons (FrzR.same (Qbh cs)).sl .nil),hK cs _ k2 (by omega) (by omega) kn.fin ⟨hcs0,by omega,hgd⟩⟩
 ·intro hc;refine Qf ?_;simp only[go_sem];refine Qa ?_;simp only[go_sem];refine Qbjm (kn.e 0 rfl) (by omega) fun cs H3 k2 hk3 hk4 hu hok=>?_;have kn:=kn.callE 0 rfl hu (R.o_ne _);have hx2:=kn.l 0 rfl;simp only[go_sem,Qaar,hx2];intro H4 h4;have kn:=kn.stL 0 rfl h4;have hx2:=kn.l 0 rfl;refine Qj ?_;simp only[go_sem,Q4,Qaa,Qaim,reduceIte,Ja,forall_eq,RS.op,hx2];exact⟨_,FrzL.ag (.cons (FrzR.same (Qbh cs)).sl .nil),hK cs _ k2 (by omega) (by omega) kn.fin hok⟩
theorem Qbjv {fl:Bool}{bs:List UInt8}(hK:∀(R:Rdr) (H':Heap),H R.l=.none→H'=H.set R.l (R.o 0)→K (.c (.ptr R.l 0)) H'):Qo prog Qg5 [.c (.sl fl 1 (Qbv bs))] H K:=by
 refine Qb Qap Qbkj ?_;refine Qa ?_;simp only[go_sem];refine Q5 ?_;refine Qa ?_;simp only[go_sem,Qax];intro _;have tail:∀(fl:Bool) (bs:List UInt8) (E1:Env),lk 0 E1=.c (.sl fl 1 (Qbv bs))→Qaj prog Qak5 (Q4 Qaiq K) E1 H:=by
  intro fl bs E1 l0;refine Qa ?_;simp only[go_sem,l0];intro l hl H' h';simp only[go_sem,Qabu];refine Qj ?_;simp only[go_sem,Q4,Qaa,Qaiq,reduceIte,Ja,forall_eq,RS.op];exact hK ⟨l,fl,bs⟩ H' hl h'
 refine Qh (Qd rfl ?_ ?_)
 ·intro hc;have h2:(2000:Int)<bs.length:=by simpa using hc
  refine Qr ?_;simp only[go_sem,Qax];refine⟨⟨by omega,by omega,by omega⟩,?_⟩;have ht:List.take 2000 (Qbv bs)=Qbv (bs.take 2000):=by simp[Qbv,Jbm]
  rw[ht];exact tail _ (bs.take 2000) _ (by simp[lk];rfl)
 ·intro hc;refine Qf ?_;exact tail fl bs _ (by simp[lk])
end Go.AE.Y
namespace Go.AE.Y
def Qbtu (n:Nat)(nx:Nat→List Int):Bool:=(List.range n).all (fun i=>(nx i).all fun x=>decide (0≤x∧x≤(n:Int)-1))&&decide (0<n)
def nxN (nx:Nat→List Int)(b:Nat):List Nat:=(nx b).map Int.toNat
inductive Dfs (g:Nat→List Nat):List Nat→List Bool→List Nat→List Bool→List Nat→Prop
 |nil (S:List Bool) (o:List Nat):Dfs g [] S o S o
 |skip {x:Nat} {xs:List Nat} {S S':List Bool} {o o':List Nat}:S.getD x false=true→Dfs g xs S o S' o'→Dfs g (x::xs) S o S' o'
 |go {x:Nat} {xs:List Nat} {S S1 S':List Bool} {o o1 o':List Nat}:S.getD x false=false→Dfs g (g x) (S.set x true) o S1 o1→Dfs g xs S1 (o1++[x]) S' o'→Dfs g (x::xs) S o S' o'
variable {g:Nat→List Nat}{xs:List Nat}{S S' S1:List Bool}{o o' o1:List Nat}
theorem Dfs.app (h:Dfs g xs S o S1 o1):∀{ys:List Nat},Dfs g ys S1 o1 S' o'→Dfs g (xs++ys) S o S' o':=by
 induction h with
 |nil S o=>exact fun h=>h
 |skip h1 h2 ih=>exact fun h=>.skip h1 (ih h)
 |go h1 h2 h3 ih1 ih2=>exact fun h=>.go h1 h2 (ih2 h)
theorem Dfs.one {x:Nat}(h1:S.getD x false=false)(h:Dfs g (g x) (S.set x true) o S1 o1):Dfs g [x] S o S1 (o1++[x]):=.go h1 h (.nil _ _)
theorem Dfs.len (h:Dfs g xs S o S' o'):S'.length=S.length:=by
 induction h with
 |nil=>rfl
 |skip _ _ ih=>exact ih
 |go _ _ _ ih1 ih2=>rw[ih2,ih1,Jq]
theorem Qag2 (S:List Bool)(x y:Nat):(S.set x true).getD y false=(if y=x∧x<S.length then true else S.getD y false):=by
 simp only[Jb,Jaa];by_cases h:x=y
 ·subst h;by_cases h2:x<S.length
  ·simp[h2]
  ·simp[h2]
 ·have h':¬y=x:=fun hh=>h hh.symm;simp[h,h']
theorem Dfs.mono (h:Dfs g xs S o S' o'):∀x,S.getD x false=true→S'.getD x false=true:=by
 induction h with
 |nil=>exact fun _ h=>h
 |skip _ _ ih=>exact ih
 |go _ _ _ ih1 ih2=>
  intro x hx;refine ih2 x (ih1 x ?_);rw[Qag2];split
  ·rfl
  ·exact hx
def cnt (S:List Bool):Nat:=S.count true
theorem Qa6d {x:Nat}(hx:x<S.length)(h:S.getD x false=false):cnt (S.set x true)=cnt S+1:=by
 induction S generalizing x with
 |nil=>simp at hx
 |cons a S ih=>
  cases x with
  |zero=>
   simp at h;subst h;simp[cnt]
  |succ x=>
   have:=ih (x:=x) (by simpa using hx) (by simpa using h);simp only[cnt,Jaq,Jbi]at this⊢;omega
theorem Qbtj (S:List Bool):cnt S≤S.length:=List.count_le_length
theorem Dfs.count (h:Dfs g xs S o S' o'):(∀x,x<S.length→∀y∈g x,y<S.length)→(∀x∈xs,x<S.length)→o'.length+cnt S=o.length+cnt S':=by
 induction h with
 |nil=>intros;rfl
 |skip _ _ ih=>exact fun h1 h2=>ih h1 fun x hx=>h2 x (Jj _ hx)
 |@go x xs S S1 S' o o1 o' h1 h2 h3 ih1 ih2=>
  intro hg hxs;have hx:=hxs x Jm;have e1:=ih1 (by simpa using hg) (by simpa using hg x hx);have hl:=h2.len;rw[Jq]at hl;have e2:=ih2 (by rw[hl];exact hg) (by rw[hl];exact fun y hy=>hxs y (Jj _ hy));rw[Qa6d hx h1]at e1;simp only[Jap,Js,Jy]at e2;omega
theorem Dfs.all (h:Dfs g xs S o S' o'):∀P:Nat→Prop,(∀x,P x→∀y∈g x,P y)→(∀x∈xs,P x)→(∀x∈o,P x)→∀x∈o',P x:=by
 induction h with
 |nil=>exact fun P _ _ h=>h
 |skip _ _ ih=>exact fun P h1 h2 h3=>ih P h1 (fun x hx=>h2 x (Jj _ hx)) h3
 |go h1 h2 h3 ih1 ih2=>
  intro P hg hxs ho;have hx:=hxs _ Jm;refine ih2 P hg (fun y hy=>hxs y (Jj _ hy)) fun y hy=>?_;rcases Je.1 hy with hy|hy
  ·exact ih1 P hg (hg _ hx) ho y hy
  ·simp at hy;subst hy;exact hx
end Go.AE.Y
namespace Go.AE.Y
open Go.Proofs.Tryz
variable {H:Heap}{K:V→Heap→Prop}
structure GRd (H:Heap)(c:C)(rows:List (List C))(nx:Nat→List Int):Prop where
 s:Slc H 5 rows c
 ow:c.isOw=false
 no:∀r∈rows,noOw r=true
 x:∀i,i<rows.length→∃a1 a2 a3 a4 fl,rows.getD i []=[a1,a2,a3,a4,.sl fl 1 (Qe (nx i))]
theorem GRd.keep {c:C}{rows:List (List C)}{nx:Nat→List Int}{H':Heap}{E L:List (Nat×Obj)}(h:GRd H c rows nx)(kn:Kn H H' E L)(hE:∀l a b d,c=.vsl l a b d→l∉E.map Prod.fst):GRd H' c rows nx:=⟨h.s.keep kn hE,h.ow,h.no,h.x⟩
theorem GRd.keep0 {c:C}{rows:List (List C)}{nx:Nat→List Int}{H':Heap}{L:List (Nat×Obj)}(h:GRd H c rows nx)(kn:Kn H H' [] L):GRd H' c rows nx:=h.keep kn (by simp)
def gnx (q:CodeD):Nat→List Int:=fun i=>(q.blocks.map BlkD.next).getD i []
theorem Qav1 (H:Heap)(q:CodeD)(fl:Bool):GRd H (.sl fl 5 (Qm q.blocks)) (Qm q.blocks) (gnx q):=by
 refine⟨.mk' _ _ _ _,rfl,Qa6b _,fun i h=>?_⟩;rw[Ql]at h;rw[Q1 _ _ h];have:gnx q i=q.blocks[i].next:=by simp[gnx,Jb,h]
 exact⟨.sl false 2 (Qz q.blocks[i].phis),.sl false 4 (Qac q.blocks[i].ins),.int .i64 q.blocks[i].jump,.int .i64 q.blocks[i].on,false,by rw[this];rfl⟩
end Go.AE.Y
namespace Go.AE.Y
open Go.Proofs.Tryz
def Qs (S:List Bool):List (List C):=S.map fun b=>[.bool b]
theorem Q7 (S:List Bool):(Qs S).length=S.length:=by simp[Qs]
theorem Qau (S:List Bool)(i:Nat)(h:i<S.length):(Qs S).getD i []=[.bool (S.getD i false)]:=by
 simp[Qs,Jb,h]
theorem Qe9 (S:List Bool)(i:Nat)(b:Bool):(Qs S).set i [.bool b]=Qs (S.set i b):=by simp[Qs,Jaf]
theorem Qrz (S:List Bool):∀r∈Qs S,noOw r=true:=by intro r hr;obtain⟨x,_,rfl⟩:=Jo.1 hr;rfl
def Qc6 (l:List Nat):List (List C):=Qe (l.map Int.ofNat)
theorem Qbfp (l:List Nat):(Qc6 l).length=l.length:=by simp[Qc6,Qi]
theorem Q0w (l:List Nat):∀r∈Qc6 l,noOw r=true:=Q6 _
variable {H:Heap}{K:V→Heap→Prop}
theorem Qdc {n lo hi:Int}(hK:K (.c (.bool (decide (lo≤n)&&decide (n≤hi)))) H):Qo prog Qay [.c (.int .i64 n),.c (.int .i64 lo),.c (.int .i64 hi)] H K:=by
 refine Qb Qap Qa64 ?_;refine Qa ?_;simp only[go_sem];refine Qa ?_;simp only[go_sem];refine Qj ?_;simp only[go_sem,Q4,Qaa,Qail,Ja,forall_eq,RS.op];have:(bif decide (lo≤n)then decide (n≤hi)else false)=(decide (lo≤n)&&decide (n≤hi)):=by cases decide (lo≤n) <;> rfl
 first|exact hK|(rw[this];exact hK)|(simpa[this]using hK)
def IsIx (ns:List Int)(v r:Int):Prop:=(r=-1∧v∉ns)∨∃i:Nat,r=i∧i<ns.length∧ns.getD i 0=v∧v∉ns.take i
theorem IsIx.nonneg {ns:List Int}{v r:Int}(h:IsIx ns v r):decide (0≤r)=ns.contains v:=by
 rcases h with ⟨rfl,hn⟩|⟨i,rfl,h1,h2,_⟩
 ·have:ns.contains v=false:=by
   cases hc:ns.contains v with
   |false=>rfl
   |true=>exact absurd (Jak.1 hc) hn
  rw[this];rfl
 ·have:v∈ns:=by
   rw[←h2,Jb,Jg h1];exact Jd h1
  rw[Jak.2 this];simp
theorem Qbia {c:C}{ns:List Int}{v:Int}(hs:Slc H 1 (Qe ns) c)(how:c.isOw=false)(hK:∀r,IsIx ns v r→K (.c (.int .i64 r)) H) :
  Qo prog Qhk [.c c,.c (.int .i64 v)] H K:=by
 refine Qb Qap Qbfn ?_;have hok:=eq_true hs.ok;have hlen:=hs.len;have hsz:=hs.sz;have hrw:=hs.rows;refine Qa ?_;simp only[go_sem,how];refine Q5 ?_;refine Qa ?_;simp only[go_sem,how,hok,hlen,Qi];intro hl;simp only[LIM]at hl;refine Qh (Qc (Qu (fun m e1 H1=>∃(i:Nat),m=ns.length-i∧i≤ns.length∧H1=H∧v∉ns.take i∧e1=[(0,.c c),(1,.c (.int .i64 v)),(7,.c (.int .i64 ns.length)),(8,.c (.int .i64 i))]) ns.length ?_ ?_))
 ·exact⟨0,by omega,by omega,rfl,by simp,rfl⟩
 ·rintro m e1 H1 ⟨i,hm,hi,rfl,hno,rfl⟩;refine Qa ?_;simp only[go_sem,how];refine Qh (Qd rfl ?_ ?_)
  ·intro hc;have hlt:i<ns.length:=by simpa using hc
   have hgd:ns.getD i 0=ns[i]:=by simp[Jb,hlt]
   refine Qf ?_;simp only[go_sem];refine Qh (Qc ?_);refine Qa ?_;simp only[go_sem,how];refine Qa ?_;simp only[go_sem,how,hok,hlen,hsz,hrw,hlt,Qi,Q9 _ _ hlt];refine Qd rfl ?_ ?_
   ·intro hc2;have hv:v=ns.getD i 0:=(by simpa using hc2);refine Qa ?_;simp only[go_sem];refine Qj ?_;simp only[go_sem,X.next,Q4,Qaa,Q62,Ja,forall_eq,RS.op];exact hK _ (.inr ⟨i,rfl,hlt,hv.symm,hno⟩)
   ·intro hc2;have hv:¬v=ns.getD i 0:=(by simpa using hc2);refine Qf ?_;simp only[go_sem];refine Qr ?_;simp only[go_sem,X.next];refine⟨Qp (by omega) (by omega),ns.length-(i+1),by omega,i+1,rfl,by omega,?_,rfl⟩;rw[Ji hlt];simp only[Je,Ja,not_or];exact⟨hno,fun h=>hv (by rw[hgd];exact h)⟩
  ·intro hc;have hge:ns.length≤i:=by simpa using hc
   rw[Jc hge]at hno;refine Qv ?_;simp only[go_sem,X.next];refine Qa ?_;simp only[go_sem];refine Qj ?_;simp only[go_sem,Q4,Qaa,Q62,Ja,forall_eq,RS.op];exact hK _ (.inl ⟨rfl,hno⟩)
theorem Qbea {c:C}{ns:List Int}{v:Int}(hs:Slc H 1 (Qe ns) c)(how:c.isOw=false)(hK:K (.c (.bool (ns.contains v))) H) :
  Qo prog Qi8 [.c c,.c (.int .i64 v)] H K:=by
 refine Qb Qap Qawz ?_;refine Qa ?_;simp only[go_sem,how];refine Qa ?_;simp only[go_sem,how];refine Qbia hs how fun r hr=>?_;simp only[go_sem,Qpv];refine Qj ?_;simp only[go_sem,Q4,Qaa,Q3g,Ja,forall_eq,RS.op];rw[hr.nonneg];exact hK
theorem Qa58 {c:C}{ns:List Int}{f:Nat}{caps:List C}{p:Int→Bool}(hs:Slc H 1 (Qe ns) c)(how:c.isOw=false)
  (hf:∀(x:Int) (K':V→Heap→Prop),x∈ns→K' (.c (.bool (p x))) H→Qo prog f ([.c (.int .i64 x)]++caps.map .c) H K')
  (hK:∀r:Int,decide (0≤r)=ns.any p→K (.c (.int .i64 r)) H) :
  Qo prog Qhl [.c c,.c (.fn f caps)] H K:=by
 refine Qb Qap Qaqd ?_;have hok:=eq_true hs.ok;have hlen:=hs.len;have hsz:=hs.sz;have hrw:=hs.rows;refine Qa ?_;simp only[go_sem,how];refine Q5 ?_;refine Qa ?_;simp only[go_sem,how,hok,hlen,Qi];intro hl;simp only[LIM]at hl;refine Qh (Qc (Qu (fun m e1 H1=>∃(i:Nat),m=ns.length-i∧i≤ns.length∧H1=H∧(∀x∈ns.take i,p x=false)∧e1=[(0,.c c),(1,.c (.fn f caps)),(7,.c (.int .i64 ns.length)),(8,.c (.int .i64 i))]) ns.length ?_ ?_))
 ·exact⟨0,by omega,by omega,rfl,by simp,rfl⟩
 ·rintro m e1 H1 ⟨i,hm,hi,rfl,hno,rfl⟩;refine Qa ?_;simp only[go_sem,how];refine Qh (Qd rfl ?_ ?_)
  ·intro hc;have hlt:i<ns.length:=by simpa using hc
   have hgd:ns.getD i 0=ns[i]:=by simp[Jb,hlt]
   refine Qf ?_;simp only[go_sem];refine Qh (Qc ?_);refine Qa ?_;simp only[go_sem,how];refine Qa ?_;simp only[go_sem,how,hok,hlen,hsz,hrw,hlt,Qi,Q9 _ _ hlt];refine hf _ _ (by rw[hgd];exact Jd hlt) ?_;refine Qd rfl ?_ ?_
   ·intro hc2;refine Qa ?_;simp only[go_sem];refine Qj ?_;simp only[go_sem,X.next,Q4,Qaa,Qjg,Ja,forall_eq,RS.op];refine hK _ ?_;have:ns.any p=true:=Jal.2 ⟨ns[i],Jd hlt,by rw[←hgd];exact hc2⟩;rw[this];simp
   ·intro hc2;refine Qf ?_;simp only[go_sem];refine Qr ?_;simp only[go_sem,X.next];refine⟨Qp (by omega) (by omega),ns.length-(i+1),by omega,i+1,rfl,by omega,?_,rfl⟩;rw[Ji hlt];intro x hx;rcases Je.1 hx with hx|hx
    ·exact hno x hx
    ·simp only[Ja]at hx;subst hx;rw[←hgd];exact hc2
  ·intro hc;have hge:ns.length≤i:=by simpa using hc
   rw[Jc hge]at hno;refine Qv ?_;simp only[go_sem,X.next];refine Qa ?_;simp only[go_sem];refine Qj ?_;simp only[go_sem,Q4,Qaa,Qjg,Ja,forall_eq,RS.op];refine hK _ ?_;have:ns.any p=false:=by
    cases hc:ns.any p with
    |false=>rfl
    |true=>obtain⟨x,hx,hp⟩:=Jal.1 hc;rw[hno x hx]at hp;exact absurd hp (by simp)
   rw[this];rfl
theorem Qi2 {c:C}{ns:List Int}{f:Nat}{caps:List C}{p:Int→Bool}(hs:Slc H 1 (Qe ns) c)(how:c.isOw=false)
  (hf:∀(x:Int) (K':V→Heap→Prop),x∈ns→K' (.c (.bool (p x))) H→Qo prog f ([.c (.int .i64 x)]++caps.map .c) H K')
  (hK:K (.c (.bool (ns.any p))) H):Qo prog Qbo [.c c,.c (.fn f caps)] H K:=by
 refine Qb Qap Q6v ?_;refine Qa ?_;simp only[go_sem,how];refine Qa ?_;simp only[go_sem,how];refine Qa58 hs how hf fun r hr=>?_;simp only[go_sem,Qgg];refine Qj ?_;simp only[go_sem,Q4,Qaa,Qkl,Ja,forall_eq,RS.op];rw[hr];exact hK
theorem Qbjb {op:Int}(hK:K (.c (.bool (decide (1≤op)&&decide (op≤14)))) H):Qo prog Qmh [.c (.int .i64 op)] H K:=by
 refine Qb Qap Qbfh ?_;refine Qa ?_;simp only[go_sem];refine Qa ?_;simp only[go_sem];refine Qdc ?_;simp only[go_sem,Q4f];refine Qj ?_;simp only[go_sem,Q4,Qaa,Qau0,Ja,forall_eq,RS.op];exact hK
theorem Qbnt {n:Int}(hK:K (.c (.bool (decide (0≤n)&&decide (n≤255)))) H):Qo prog Qr4 [.c (.int .i64 n)] H K:=by
 refine Qb Qap Qa61 ?_;refine Qa ?_;simp only[go_sem];refine Qa ?_;simp only[go_sem];refine Qdc ?_;simp only[go_sem,Qzp];refine Qj ?_;simp only[go_sem,Q4,Qaa,Qaii,Ja,forall_eq,RS.op];exact hK
theorem Qbd2 {op:Int}(hK:K (.c (.bool (Qdp op))) H):Qo prog Qj6 [.c (.int .i64 op)] H K:=by
 refine Qb Qap Qbj6 ?_;refine Qa ?_;simp only[go_sem];refine Qa ?_;simp only[go_sem];refine Qbjb ?_;simp only[go_sem,Qaao];refine Qj ?_;simp only[go_sem,Q4,Qaa,Qa02,Ja,forall_eq,RS.op];have:∀a b c:Bool,(bif bif a then b else false then c else false)=(a&&b&&c):=by decide
 rw[this];have e:(decide (1≤op)&&decide (op≤14))=decide (1≤op∧op≤14):=by simp
 rw[e];exact hK
theorem Qag6 {j:Int}(hK:K (.c (.bool (decide (j=2) || decide (j=3)))) H):Qo prog Qfz [.c (.int .i64 j)] H K:=by
 refine Qb Qap Qa63 ?_;refine Qa ?_;simp only[go_sem];refine Qa ?_;simp only[go_sem];refine Qj ?_;simp only[go_sem,Q4,Qaa,Qaik,Ja,forall_eq,RS.op];have:∀a b:Bool,(bif a then true else b)=(a || b):=by decide
 first|(rw[this];exact hK)|exact hK
theorem Qa7f {j:Int}(hK:K (.c (.int .i64 (Qp2 j))) H):Qo prog Qhg [.c (.int .i64 j)] H K:=by
 refine Qb Qap Qaqb ?_;have retf:∀(n:Int) (e:Env),Qp2 j=n→lk 2 e=.c (.int .i64 n)→Q4 Qjf K .ret e H:=by
  intro b e h1 h3;simp only[go_sem,Q4,Qaa,Qjf,Ja,forall_eq,RS.op,h3];rw[←h1];exact hK
 refine Qa ?_;simp only[go_sem];refine Q5 ?_;refine Qa ?_;simp only[go_sem];refine Qh (Qc ?_);refine Qa ?_;simp only[go_sem];refine Qd rfl ?_ ?_
 ·intro hc;refine Qa ?_;simp only[go_sem];refine Qj ?_;simp only[go_sem];exact retf 1 _ (by simp at hc;simp[Qp2,hc]) (by simp[lk])
 intro hc1;refine Qa ?_;simp only[go_sem];refine Qd rfl ?_ ?_
 ·intro hc;refine Qa ?_;simp only[go_sem];refine Qj ?_;simp only[go_sem];exact retf 2 _ (by simp at hc;simp[Qp2,hc]) (by simp[lk])
 intro hc2;refine Qa ?_;simp only[go_sem];refine Qd rfl ?_ ?_
 ·intro hc;refine Qa ?_;simp only[go_sem];refine Qj ?_;simp only[go_sem];exact retf 0 _ (by simp at hc;simp[Qp2,hc]) (by simp[lk])
 ·intro hc;refine Qf ?_;simp only[go_sem];refine Qa ?_;simp only[go_sem];refine Qj ?_;exact retf (-1) _ (by simp at hc hc1 hc2;simp[Qp2,hc,hc1,hc2]) (by simp[lk])
def Qazs (op:Int):Int:=if op=1 then 0 else if op=2∨op=10∨op=11∨op=13 then 1 else 2
theorem Qbi9 {op:Int}(hK:K (.c (.int .i64 (Qazs op))) H):Qo prog Qmg [.c (.int .i64 op)] H K:=by
 refine Qb Qap Qa0h ?_;have retf:∀(n:Int) (e:Env),Qazs op=n→lk 2 e=.c (.int .i64 n)→Q4 Qiq K .ret e H:=by
  intro b e h1 h3;simp only[go_sem,Q4,Qaa,Qiq,Ja,forall_eq,RS.op,h3];rw[←h1];exact hK
 refine Qa ?_;simp only[go_sem];refine Q5 ?_;refine Qa ?_;simp only[go_sem];refine Qh (Qc ?_);refine Qa ?_;simp only[go_sem];refine Qd rfl ?_ ?_
 ·intro hc;refine Qa ?_;simp only[go_sem];refine Qj ?_;simp only[go_sem];exact retf 0 _ (by simp at hc;simp[Qazs,hc]) (by simp[lk])
 intro hc1;have fin:∀(b:Bool) (e:Env),b=decide (op=2∨op=10∨op=11∨op=13)→lk 6 e=.c (.bool b)→Qaj prog Qzn (X.inBlock 0 (X.sq prog Qzo (Q4 Qiq K))) e H:=by
  intro b e hb l6;refine Qd l6 ?_ ?_
  ·intro hc;refine Qa ?_;simp only[go_sem];refine Qj ?_;simp only[go_sem];exact retf 1 _ (by rw[hc]at hb;have:=of_decide_eq_true hb.symm;simp at hc1;rw[Qazs,if_neg hc1,if_pos this]) (by simp[lk])
  ·intro hc;refine Qf ?_;simp only[go_sem];refine Qa ?_;simp only[go_sem];refine Qj ?_;exact retf 2 _ (by rw[hc]at hb;have:=of_decide_eq_false hb.symm;simp at hc1;rw[Qazs,if_neg hc1,if_neg this]) (by simp[lk])
 refine Q5 ?_;refine Qa ?_;simp only[go_sem];refine Qh (Qd rfl ?_ ?_)
 ·intro hc;refine Qf ?_;simp only[go_sem];exact fin true _ (decide_eq_true (.inl (of_decide_eq_true hc))).symm (by simp[lk];exact of_decide_eq_true hc)
 intro hc2;refine Qa ?_;simp only[go_sem];refine Qd rfl ?_ ?_
 ·intro hc;refine Qf ?_;simp only[go_sem];exact fin true _ (decide_eq_true (.inr (.inl (of_decide_eq_true hc)))).symm (by simp[lk];exact of_decide_eq_true hc)
 intro hc3;refine Qa ?_;simp only[go_sem];refine Qd rfl ?_ ?_
 ·intro hc;refine Qf ?_;simp only[go_sem];exact fin true _ (decide_eq_true (.inr (.inr (.inl (of_decide_eq_true hc))))).symm (by simp[lk];exact of_decide_eq_true hc)
 intro hc4;refine Qr ?_;simp only[go_sem];refine fin (decide (op=13)) _ ?_ (by simp[lk]);have a2:=of_decide_eq_false hc2;have a3:=of_decide_eq_false hc3;have a4:=of_decide_eq_false hc4;simp[a2,a3,a4]
theorem Qa50 {l:List BlkD}(hf:∀b∈l,b.ins.length≤2 ^ 38∧b.phis.length≤2 ^ 38):Qie Qxk l≤l.length * 549755813888:=by
 induction l with
 |nil=>simp[Qie]
 |cons y l ih=>
  have h1:=hf y Jm;have h2:=ih fun b hb=>hf b (Jj _ hb);simp only[Qie,Jr,Jaw,Qxk,Js]at *;omega
set_option maxHeartbeats 1000000 in
theorem Q0f {q:CodeD}{fl:Bool}(hf:q.fits)(hb:q.blocks.length≤160)(hK:∀H',Upd H H' []→K (.c (.int .i64 (Qgp q))) H') :
  Qo prog Qcd [.ag [.int .i64 q.params,.int .i64 q.regs,.sl fl 5 (Qm q.blocks)]] H K:=by
 refine Qy ?_;refine Qb Qap Qap4 ?_;have hsb:=Qa50 hf;refine Qa ?_;simp only[go_sem];refine Qa ?_;simp only[go_sem];refine Q5 ?_;refine Qa ?_;simp only[go_sem,Ql];intro _;refine Qh (Qc (Qu (fun m e1 H1=>∃(i:Nat),m=q.blocks.length-i∧i≤q.blocks.length∧Kn H H1 [] []∧
  e1=[(3,.c (.int .i64 (Qie Qxk (q.blocks.take i):Nat))),(7,.c (.sl fl 5 (Qm q.blocks))),(8,.c (.int .i64 q.blocks.length)),(9,.c (.int .i64 i))]) q.blocks.length ?_ ?_))
 ·exact⟨0,by omega,by omega,Kn.start0 H,rfl⟩
 ·rintro m e1 H1 ⟨i,hm,hi,kn,rfl⟩;refine Qa ?_;simp only[go_sem];refine Qh (Qd rfl ?_ ?_)
  ·intro hc;have hlt:i<q.blocks.length:=by simpa using hc
   have hbf:=hf _ (Jd hlt);have hss:=Qbz (f:=Qxk) hlt;have hle:=Qapp (f:=Qxk) (l:=q.blocks) (i+1);have hcy:Qxk q.blocks[i]=q.blocks[i].ins.length+q.blocks[i].phis.length:=rfl;have hmul:q.blocks.length * 549755813888≤160 * 549755813888:=Jan _ hb;refine Qf ?_;simp only[go_sem];refine Qh (Qc ?_);refine Qa ?_;simp only[go_sem,hlt,Ql,Q1 _ _ hlt,BlkD.cells];intro x5 hx5 H2 h2;have kn:=kn.al hx5 h2;have hx5:=kn.l 0 rfl;simp only[go_sem,Qku,hx5];intro H3 h3;have kn:Kn H H3 [] ([]++[(x5,.st [.sl false 2 (Qz q.blocks[i].phis),.sl false 4 (Qac q.blocks[i].ins),.int .i64 q.blocks[i].jump,.int .i64 q.blocks[i].on,.sl false 1 (Qe q.blocks[i].next)])]):=kn.stL 0 rfl h3;have hx5:=kn.l 0 rfl;refine Qr ?_;simp only[go_sem,hx5,Q3,Qq];intro _ _;refine⟨Qp (by omega) (by omega),Qp (by omega) (by omega),?_⟩;refine Qr ?_;simp only[go_sem,X.next];refine⟨Qp (by omega) (by omega),q.blocks.length-(i+1),by omega,i+1,rfl,by omega,kn.drop,?_⟩;rw[hss,hcy];have:((Qie Qxk (q.blocks.take i):Nat):Int)+((q.blocks[i].phis.length:Int)+q.blocks[i].ins.length)=((Qie Qxk (q.blocks.take i)+(q.blocks[i].ins.length+q.blocks[i].phis.length):Nat):Int):=by omega
   rw[this];rfl
  ·intro hc;have hge:q.blocks.length≤i:=by simpa using hc
   refine Qv ?_;simp only[go_sem,X.next];refine Qa ?_;simp only[go_sem];refine Qj ?_;simp only[go_sem,Q4,Qaa,Qy4,Ja,forall_eq,RS.op];rw[Jc hge];exact⟨_,.c _ _ (Qg rfl),hK _ kn.fin⟩
theorem Qaur {x7:Nat}{q:CodeD}{v:Int}(h7:H x7=.st q.cells)(hr:-(2^62)≤q.regs)(hr2:q.regs≤2^62)(hK:K (.c (.bool (decide (0≤v∧v≤q.regs-1)))) H) :
  Qo prog Qc3 [.c (.int .i64 v),.c (.ptr x7 0)] H K:=by
 refine Qb Qap Qawp ?_;refine Qa ?_;simp only[go_sem];refine Qa ?_;simp only[go_sem,h7,CodeD.cells];refine⟨Qp (by omega) (by omega),?_⟩;refine Qdc ?_;simp only[go_sem,Qoo];refine Qj ?_;simp only[go_sem,Q4,Qaa,Q25,Ja,forall_eq,RS.op];have e:(decide (0≤v)&&decide (v≤q.regs-1))=decide (0≤v∧v≤q.regs-1):=by simp
 rw[e];exact hK
theorem Qbe4 {x7 x8:Nat}{q:CodeD}{v:Int}(h7:H x7=.st q.cells)(h8:H x8=.st [.fn Qc3 [.ptr x7 0]])(hr:-(2^62)≤q.regs)(hr2:q.regs≤2^62)(hK:K (.c (.bool (!decide (0≤v∧v≤q.regs-1)))) H) :
  Qo prog Qi4 [.c (.int .i64 v),.c (.ptr x8 0)] H K:=by
 refine Qb Qap Qawq ?_;refine Qa ?_;simp only[go_sem];refine Qa ?_;simp only[go_sem,h8,Jz,J1,Jr,Jae];refine Qaur h7 hr hr2 ?_;simp only[go_sem,Qop];refine Qj ?_;simp only[go_sem,Q4,Qaa,Q26,Ja,forall_eq,RS.op];exact hK
theorem Qa6a (p:Int→Bool)(l:List Int):(l.any fun x=>!p x) = !l.all p:=by
 induction l with
 |nil=>rfl
 |cons x l ih=>simp only[List.any_cons,List.all_cons,ih];cases p x <;> simp
set_option maxHeartbeats 1000000 in
theorem Qbrs {cs:List CodeD}{fl:Bool}{k:Nat}{x:InsD}(hk:k<cs.length)(hr:0≤cs[k].regs)(hr2:cs[k].regs≤300)(hcl:cs.length≤100)(hK:∀(H':Heap),Upd H H' []→K (.c (.bool (insG cs k x))) H') :
  Qo prog Q0k [.ag [.sl fl 3 (Qk cs)],.c (.int .i64 k),.ag x.cells] H K:=by
 refine Qy ?_;refine Qb Qap Qbfg ?_;refine Qa ?_;simp only[go_sem,InsD.cells];refine Qa ?_;simp only[go_sem,hk,Qx,Qad _ _ hk,CodeD.cells];intro x7 hx7 H1 h1;have kn:=(Kn.start0 H).al hx7 h1;have hx7:=kn.l 0 rfl;simp only[go_sem,Q4c,hx7];intro H2 h2;have kn:=kn.stL 0 rfl h2;refine Qa ?_;simp only[go_sem];intro x8 hx8 H3 h3;have kn:=kn.al hx8 h3;have hx8:=kn.l 1 rfl;simp only[go_sem,Q4d,hx8];intro H4 h4;have kn:Kn H H4 [] [(x7,.st cs[k].cells),(x8,.st [.fn Qc3 [.ptr x7 0]])]:=kn.stL 1 rfl h4;have h7:H4 x7=.st cs[k].cells:=kn.l 0 rfl;have h8:=kn.l 1 rfl;have hrg:=Qai1 hk;have retf:∀(b:Bool) (e:Env),insG cs k x=b→lk 6 e=.c (.bool b)→Q4 Qki (fun x H'=>∃x',FrzV H' (un H) x x'∧K x' (H'.frz (un H))) .ret e H4:=by
  intro b e h1 h3;simp only[go_sem,Q4,Qaa,Qki,Ja,forall_eq,RS.op,h3];rw[←h1];exact⟨_,.c _ _ (Qg rfl),hK _ kn.fin⟩
 refine Q5 ?_;refine Qa ?_;simp only[go_sem];refine Qbjb ?_;simp only[go_sem,Q4e];have rest2:∀(E1:Env) (b:Bool),insH cs[k].regs x=true→insT cs[k].regs x=(!b)→lk 1 E1=.c (.int .i64 k)→lk 3 E1=.c (.pp [.sl fl 3 (Qk cs)])→lk 5 E1=.c (.pp [.int .i64 x.op,.int .i64 x.to,.sl false 1 (Qe x.args),.int .i64 x.n])→lk 45 E1=.c (.bool b)→
   Qaj prog (s_im_insOk_8.seq Q4a) (Q4 Qki (fun x H'=>∃x',FrzV H' (un H) x x'∧K x' (H'.frz (un H)))) E1 H4:=by
  intro E1 b hb1 hb2 l1 l3 l5 l45;refine Qh (Qd l45 ?_ ?_)
  ·intro hc;refine Qa ?_;simp only[go_sem];refine Qj ?_;simp only[go_sem];exact retf false _ (by rw[insG,hrg,hb2,hc];simp) (by simp[lk])
  intro hc;rw[hc]at hb2;have hG:insG cs k x=insL cs k x:=by rw[insG,hrg,hb1,hb2];rfl
  have hop14:1≤x.op∧x.op≤14:=by
   simp only[insH,Jl,decide_eq_true_eq]at hb1;exact hb1.1
  refine Qf ?_;simp only[go_sem];refine Q5 ?_;refine Qa ?_;simp only[go_sem,l1,l3,l5];refine Qh (Qc ?_);refine Qa ?_;simp only[go_sem];refine Qd rfl ?_ ?_
  ·intro hc;have hop:x.op=1:=of_decide_eq_true hc;have hL:insL cs k x=(decide ((x.args.length:Int)=0)&&(decide (0≤x.n)&&decide (x.n≤255))):=by
    rw[insL,if_neg (by omega)];simp[Q0e,hop]
   refine Qa ?_;simp only[go_sem,Qi];intro _;refine⟨fun hb=>?_,fun hb=>?_⟩
   ·refine Qbnt ?_;simp only[go_sem,Qm0];refine Qj ?_;simp only[go_sem];refine retf _ _ ?_ (by simp[lk];rfl);have hb':x.args=[]:=List.length_eq_zero_iff.1 (by have:=of_decide_eq_true hb;omega);rw[hG,hL];simp[hb']
   ·simp only[go_sem,Qm0,hb];refine Qj ?_;simp only[go_sem];exact retf false _ (by rw[hG,hL,hb];rfl) (by simp[lk])
  intro hc1;have hop1:¬x.op=1:=of_decide_eq_false hc1;refine Qa ?_;simp only[go_sem];refine Qd rfl ?_ ?_
  ·intro hc;have hop:x.op=14:=of_decide_eq_true hc;rw[insL,if_pos hop]at hG;refine Qao ?_;simp only[go_sem];refine⟨Qp (by omega) (by omega),?_⟩;refine Qdc ?_;by_cases hin:0≤x.n∧x.n≤(k:Int)-1
   ·obtain⟨m,hm⟩:=Jav hin.1;have hmk:m<cs.length:=(by omega);have h1:(0≤(m:Int))=True:=eq_true (by omega);have h2:((m:Int)≤(k:Int)-1)=True:=eq_true (by omega);simp only[go_sem,Qfw,hm,h1,h2,hmk,decide_true,Bool.and_self,Qx,Qad _ _ hmk,CodeD.cells,Qi];refine Qj ?_;simp only[go_sem];refine retf _ _ ?_ (by simp[lk];rfl);rw[hG,hm,Int.toNat_natCast,Qaid hmk];simp only[h1,h2,and_self,decide_true,Bool.true_and]
   ·have hin':(decide (0≤x.n)&&decide (x.n≤(k:Int)-1))=false:=(by simpa using hin);have hin2:decide (0≤x.n∧x.n≤(k:Int)-1)=false:=(by simpa using hin);by_cases hm:x.n.toNat<cs.length
    ·simp only[go_sem,Qfw,hin',Qad _ _ hm,CodeD.cells];refine Qj ?_;simp only[go_sem];exact retf false _ (by rw[hG,hin2];rfl) (by simp[lk])
    ·have hgd:(Qk cs).getD x.n.toNat []=[]:=by
      rw[Jb,Jp (by rw[Qx];omega)];rfl
     simp only[go_sem,Qfw,hin',hgd,Jbn,List.headD_nil];refine Qj ?_;simp only[go_sem];exact retf false _ (by rw[hG,hin2];rfl) (by simp[lk])
  ·intro hc;have hop:¬x.op=14:=of_decide_eq_false hc;have hA:Q0e x.op=Qazs x.op:=by
    rw[Q0e,Qazs,if_neg hop1,if_neg hop1];split
    ·rfl
    ·rw[if_pos (by omega)]
   have hL:insL cs k x=(decide (x.n=0)&&decide ((x.args.length:Int)=Qazs x.op)):=by
    rw[insL,if_neg hop,hA];by_cases hn:x.n=0
    ·simp[hn]
    ·simp[hn,hop1]
   refine Qf ?_;simp only[go_sem];refine Qao ?_;simp only[go_sem,Qi];refine⟨fun hb=>?_,fun hb=>?_⟩
   ·refine Qbi9 ?_;simp only[go_sem,Qjm,hb,Qi];refine Qj ?_;refine retf _ _ ?_ (by simp[lk];rfl);have hb':=of_decide_eq_true hb;rw[hG,hL];simp[hb']
   ·simp only[go_sem,Qjm,hb,Qi];refine Qj ?_;exact retf false _ (by rw[hG,hL,hb];rfl) (by simp[lk])
 have rest:∀(E1:Env) (b:Bool),insH cs[k].regs x=(!b)→lk 1 E1=.c (.int .i64 k)→lk 3 E1=.c (.pp [.sl fl 3 (Qk cs)])→lk 5 E1=.c (.pp [.int .i64 x.op,.int .i64 x.to,.sl false 1 (Qe x.args),.int .i64 x.n])→lk 8 E1=.c (.ptr x8 0)→lk 24 E1=.c (.bool b)→
   Qaj prog (s_im_insOk_4.seq Q4b) (Q4 Qki (fun x H'=>∃x',FrzV H' (un H) x x'∧K x' (H'.frz (un H)))) E1 H4:=by
  intro E1 b hb l1 l3 l5 l8 l24;refine Qh (Qd l24 ?_ ?_)
  ·intro hc;refine Qa ?_;simp only[go_sem];refine Qj ?_;simp only[go_sem];exact retf false _ (by rw[insG,hrg,hb,hc];rfl) (by simp[lk])
  intro hc;rw[hc]at hb;refine Qf ?_;simp only[go_sem];refine Q5 ?_;refine Qa ?_;simp only[go_sem,l1,l3,l5,l8];refine Qbd2 ?_
  cases hmk:Qdp x.op with
  |true=>
   simp only[go_sem,cond_true,cond_false,J7,Ju,Qmz,l1,l3,l5,l8,h8];refine Qaur h7 (by omega) (by omega) ?_;have hT:insT cs[k].regs x=decide (0≤x.to∧x.to≤cs[k].regs-1):=by rw[insT,hmk];rfl
   cases hd:decide (0≤x.to∧x.to≤cs[k].regs-1)with
   |true=>
    simp only[go_sem,cond_true,cond_false,J7,Ju,Qgy,l1,l3,l5,l8,h8];refine Qbd2 ?_;simp only[go_sem,cond_true,cond_false,J7,Ju,Qgx,l1,l3,l5,l8,hmk];exact rest2 _ false hb (by rw[hT,hd];rfl) (by simp[lk]) (by simp[lk]) (by simp[lk]) (by simp[lk])
   |false=>
    simp only[go_sem,cond_true,cond_false,J7,Ju,Qgy,Qgx,l1,l3,l5,l8,h8];exact rest2 _ true hb (by rw[hT,hd];rfl) (by simp[lk]) (by simp[lk]) (by simp[lk]) (by simp[lk])
  |false=>
   have hT:insT cs[k].regs x=decide (x.to=-1):=by rw[insT,hmk];rfl
   simp only[go_sem,cond_true,cond_false,J7,Ju,Qmz,Qgy,l1,l3,l5,l8,h8];refine Qbd2 ?_;simp only[go_sem,cond_true,cond_false,J7,Ju,Qgx,l1,l3,l5,l8,hmk];refine rest2 _ (!decide (x.to=-1)) hb ?_ ?_ ?_ ?_ ?_
   ·rw[hT];simp
   ·rfl
   ·rfl
   ·rfl
   ·rfl
 cases hi:(decide (1≤x.op)&&decide (x.op≤14))with
 |false=>
  simp only[go_sem,Qmy];refine rest _ true ?_ (by simp[lk]) (by simp[lk]) (by simp[lk]) (by simp[lk]) (by simp[lk]);have:decide (1≤x.op∧x.op≤14)=false:=by simpa using hi
  rw[insH,this];rfl
 |true=>
  simp only[go_sem,h8];refine Qi2 (p:=fun r=>!decide (0≤r∧r≤cs[k].regs-1)) (.mk' _ _ _ _) rfl (fun v K' hv hK'=>Qbe4 h7 h8 (by omega) (by omega) hK') ?_;simp only[go_sem,Qmy];refine rest _ (x.args.any fun r=>!decide (0≤r∧r≤cs[k].regs-1)) ?_ (by simp[lk]) (by simp[lk]) (by simp[lk]) (by simp[lk]) (by simp[lk]);have:decide (1≤x.op∧x.op≤14)=true:=by simpa using hi
  rw[insH,this,Qa6a,Qsw];simp
end Go.AE.Y
namespace Go.AE.Y
attribute [local instance] Classical.propDecidable
inductive Rch (g:Nat→List Nat)(A:Nat→Prop):Nat→Nat→Prop
 |refl {x:Nat}:¬A x→Rch g A x x
 |step {x y z:Nat}:Rch g A x y→z∈g y→¬A z→Rch g A x z
variable {g:Nat→List Nat}{A B:Nat→Prop}{x y z:Nat}
theorem Rch.mono (h:Rch g A x y)(hAB:∀z,B z→A z):Rch g B x y:=by
 induction h with
 |refl h=>exact .refl fun hb=>h (hAB _ hb)
 |step h1 h2 h3 ih=>exact ih.step h2 fun hb=>h3 (hAB _ hb)
theorem Rch.fst (h:Rch g A x y):¬A x:=by
 induction h with
 |refl h=>exact h
 |step _ _ _ ih=>exact ih
theorem Rch.snd (h:Rch g A x y):¬A y:=by
 cases h with
 |refl h=>exact h
 |step _ _ h=>exact h
theorem Rch.trans (h:Rch g A x y)(k:Rch g A y z):Rch g A x z:=by
 induction k with
 |refl _=>exact h
 |step _ h2 h3 ih=>exact ih.step h2 h3
theorem Rch.head (hx:¬A x)(hy:y∈g x)(h:Rch g A y z):Rch g A x z:=(Rch.step (.refl hx) hy h.fst).trans h
theorem Rch.lt {n:Nat}(hg:∀x,x<n→∀y∈g x,y<n)(h:Rch g A x y)(hx:x<n):y<n:=by
 induction h with
 |refl _=>exact hx
 |step _ h2 _ ih=>exact hg _ ih _ h2
variable {xs:List Nat}{S S' S1:List Bool}{o o' o1:List Nat}
theorem Dfs.adds (h:Dfs g xs S o S' o'):(∀x,x<S.length→∀y∈g x,y<S.length)→(∀x∈xs,x<S.length)→
  ∃t,o'=o++t∧(∀x,S'.getD x false=true↔S.getD x false=true∨x∈t)∧(∀x∈t,∀y∈g x,S'.getD y false=true)∧
   (∀x∈xs,S'.getD x false=true)∧(∀y∈t,∃x∈xs,Rch g (fun z=>S.getD z false=true) x y):=by
 induction h with
 |nil S o=>exact fun _ _=>⟨[],by simp,by simp,by simp,by simp,by simp⟩
 |@skip x xs S S' o o' h1 h2 ih=>
  intro hg hx;obtain⟨t,e,a1,a2,a3,a4⟩:=ih hg fun y hy=>hx y (Jj _ hy);refine⟨t,e,a1,a2,fun y hy=>?_,fun y hy=>?_⟩
  ·rcases Jt.1 hy with rfl|hy
   ·exact h2.mono _ h1
   ·exact a3 y hy
  ·obtain⟨z,hz,hr⟩:=a4 y hy;exact⟨z,Jj _ hz,hr⟩
 |@go x xs S S1 S' o o1 o' h1 h2 h3 ih1 ih2=>
  intro hg hxs;have hx:=hxs x Jm;have hl:=h2.len;rw[Jq]at hl;obtain⟨t1,e1,a1,a2,a3,a4⟩:=ih1 (by simpa using hg) (by simpa using hg x hx);obtain⟨t2,e2,b1,b2,b3,b4⟩:=ih2 (by rw[hl];exact hg) (by rw[hl];exact fun y hy=>hxs y (Jj _ hy));have hset:∀y,(S.set x true).getD y false=true↔y=x∨S.getD y false=true:=by
   intro y;rw[Qag2];by_cases hyx:y=x
   ·simp[hyx,hx]
   ·simp[hyx]
  have hmono:∀y,S.getD y false=true→S1.getD y false=true:=fun y hy=>(a1 y).2 (.inl ((hset y).2 (.inr hy)));have hxS1:S1.getD x false=true:=(a1 x).2 (.inl ((hset x).2 (.inl rfl)));refine⟨t1++[x]++t2,by rw[e2,e1];simp,fun y=>?_,fun y hy z hz=>?_,fun y hy=>?_,fun y hy=>?_⟩
  ·rw[b1,a1,hset];simp only[Je,Ja];constructor
   ·rintro (((h|h)|h)|h)
    ·exact .inr (.inl (.inr h))
    ·exact .inl h
    ·exact .inr (.inl (.inl h))
    ·exact .inr (.inr h)
   ·rintro (h|((h|h)|h))
    ·exact .inl (.inl (.inr h))
    ·exact .inl (.inr h)
    ·exact .inl (.inl (.inl h))
    ·exact .inr h
  ·rcases Je.1 hy with hy|hy
   ·rcases Je.1 hy with hy|hy
    ·exact (b1 z).2 (.inl (a2 y hy z hz))
    ·simp only[Ja]at hy;subst hy;exact (b1 z).2 (.inl (a3 z hz))
   ·exact b2 y hy z hz
  ·rcases Jt.1 hy with rfl|hy
   ·exact (b1 y).2 (.inl hxS1)
   ·exact b3 y hy
  ·rcases Je.1 hy with hy|hy
   ·rcases Je.1 hy with hy|hy
    ·obtain⟨z,hz,hr⟩:=a4 y hy;exact⟨x,Jm,.head (by rw[h1];simp) hz (hr.mono fun w hw=>(hset w).2 (.inr hw))⟩
    ·simp only[Ja]at hy;subst hy;exact⟨y,Jm,.refl (by rw[h1];simp)⟩
   ·obtain⟨z,hz,hr⟩:=b4 y hy;exact⟨z,Jj _ hz,hr.mono hmono⟩
theorem Dfs.seen (h:Dfs g xs S o S' o')(hg:∀x,x<S.length→∀y∈g x,y<S.length)(hxs:∀x∈xs,x<S.length)(y:Nat) :
  S'.getD y false=true↔S.getD y false=true∨∃x∈xs,Rch g (fun z=>S.getD z false=true) x y:=by
 obtain⟨t,e,a1,a2,a3,a4⟩:=h.adds hg hxs;constructor
 ·intro hy;rcases (a1 y).1 hy with hy|hy
  ·exact .inl hy
  ·exact .inr (a4 y hy)
 ·rintro (hy|⟨x,hx,hr⟩)
  ·exact h.mono y hy
  ·induction hr with
   |refl _=>exact a3 _ hx
   |step h1 h2 h3 ih=>
    rcases (a1 _).1 ih with h|h
    ·exact absurd h h1.snd
    ·exact a2 _ h _ h2
theorem Qbie:∀{l k:List Nat},l.Pairwise (· < ·)→k.Pairwise (· < ·)→(∀x,x∈l↔x∈k)→l=k
 |[],[],_,_,_=>rfl
 |[],b::k,_,_,h=>by have:=(h b).2 Jm;simp at this
 |a::l,[],_,_,h=>by have:=(h a).1 Jm;simp at this
 |a::l,b::k,h1,h2,h=>by
  rw[Ja9]at h1 h2;have hab:a=b:=by
   rcases Jt.1 ((h a).1 Jm)with e|e
   ·exact e
   ·rcases Jt.1 ((h b).2 Jm)with e'|e'
    ·exact e'.symm
    ·have:=h1.1 b e';have:=h2.1 a e;omega
  subst hab;congr 1;refine Qbie h1.2 h2.2 fun x=>⟨fun hx=>?_,fun hx=>?_⟩
  ·rcases Jt.1 ((h x).1 (Jj _ hx))with e|e
   ·subst e;have:=h1.1 x hx;omega
   ·exact e
  ·rcases Jt.1 ((h x).2 (Jj _ hx))with e|e
   ·subst e;have:=h2.1 x hx;omega
   ·exact e
theorem Qbif {l:List Nat}{n:Nat}{p:Nat→Bool}(h1:l.Pairwise (· < ·))(h:∀x,x∈l↔x<n∧p x=true):l=(List.range n).filter p:=
 Qbie h1 (Jam _ Jai) fun x=>by rw[h];simp[J5]
noncomputable def rchB (g:Nat→List Nat)(a:Int)(x:Nat):Bool:=decide (Rch g (fun z=>(z:Int)=a) 0 x)
noncomputable def domB (g:Nat→List Nat)(a b:Nat):Bool:=rchB g (-1) a&&rchB g (-1) b&&!rchB g a b
def Qaw6 (n:Nat)(g:Nat→List Nat)(h:Nat):List Nat:=(List.range n).filter fun i=>decide (h∈g i)
noncomputable def Qbu9 (n:Nat)(g:Nat→List Nat)(h:Nat):Bool:=(Qaw6 n g h).any fun p=>domB g h p
noncomputable def Qbva (n:Nat)(g:Nat→List Nat):List Nat:=(List.range n).filter (Qbu9 n g)
inductive Bdy (n:Nat)(g:Nat→List Nat)(h:Nat):Nat→Prop
 |head:Bdy n g h h
 |back {p:Nat}:p∈Qaw6 n g h→domB g h p=true→Bdy n g h p
 |more {b p:Nat}:Bdy n g h b→b≠h→p∈Qaw6 n g b→rchB g (-1) p=true→Bdy n g h p
noncomputable def Qbim (n:Nat)(g:Nat→List Nat)(h:Nat):List Nat:=(List.range n).filter fun b=>decide (Bdy n g h b)
variable {n h:Nat}
theorem predL_mem {p:Nat}:p∈Qaw6 n g h↔p<n∧h∈g p:=by simp[Qaw6]
theorem Bdy.lt {b:Nat}(hh:h<n)(hb:Bdy n g h b):b<n:=by
 cases hb with
 |head=>exact hh
 |back h1 _=>exact (predL_mem.1 h1).1
 |more _ _ h1 _=>exact (predL_mem.1 h1).1
theorem Qbio (hh:h<n){b:Nat}:b∈Qbim n g h↔Bdy n g h b:=by
 simp only[Qbim,J5,Ja5,decide_eq_true_eq];exact⟨fun h=>h.2,fun h=>⟨h.lt hh,h⟩⟩
theorem Qbin:(Qbim n g h).Pairwise (· < ·):=Jam _ Jai
end Go.AE.Y
namespace Go.AE.Y
open Go.Proofs.Tryz
variable {H:Heap}{K:V→Heap→Prop}
theorem GRd.ows {c:C}{rows:List (List C)}{nx:Nat→List Int}(h:GRd H c rows nx){i:Nat}(hi:i<rows.length){a1 a2 a3 a4 a5:C}(hr:rows.getD i []=[a1,a2,a3,a4,a5]) :
  a1.isOw=false∧a2.isOw=false∧a3.isOw=false∧a4.isOw=false∧a5.isOw=false:=by
 have:=h.no _ (Jd hi);have e:rows[i]=[a1,a2,a3,a4,a5]:=by rw[←hr];simp[Jb,hi]
 rw[e]at this;simpa[Go.AE.noOw]using this
def Qaie (nx:Nat→List Int)(b:Int)(n:Nat):List Int:=if decide (0≤b)&&decide (b≤(n:Int)-1)then Qam nx b n else []
set_option maxHeartbeats 1000000 in
theorem Qazq {p rg:Int}{bc:C}{rows:List (List C)}{nx:Nat→List Int}{b:Int}(hg:GRd H bc rows nx)
  (hK:∀fl H',Upd H H' []→K (.c (.sl fl 1 (Qe (Qaie nx b rows.length)))) H'):Qo prog Qgq [.ag [.int .i64 p,.int .i64 rg,bc],.c (.int .i64 b)] H K:=by
 refine Qy ?_;refine Qb Qap Qa0g ?_;have how:=hg.ow;have hok:=eq_true hg.s.ok;have hlen:=hg.s.len;have hsz:=hg.s.sz;refine Qa ?_;simp only[go_sem,how];refine Qa ?_;simp only[go_sem,how];refine Q5 ?_;refine Qa ?_;simp only[go_sem,how,hok,hlen];intro hl;simp only[LIM]at hl;refine⟨Qp (by omega) (by omega),?_⟩;refine Qdc ?_;simp only[go_sem,Qs3];refine Qh (Qd rfl ?_ ?_)
 ·intro hc;have hc':=Qsm hc;refine Qa ?_;simp only[go_sem];refine Qj ?_;simp only[go_sem,Q4,Qaa,Qsr,Ja,forall_eq,RS.op];have h:=hK false _ (Kn.start0 H).fin;simp only[Qaie,hc']at h;exact⟨_,.c _ _ FrzR.nil.sl,h⟩
 ·intro hc;have hc':=Qgt hc;refine Qf ?_;simp only[go_sem];refine Q5 ?_;refine Qa ?_;simp only[go_sem,how,hok,hlen];intro _;refine Qh (Qc (Qu (fun m e1 H1=>∃(i:Nat) (c:C) (Lg:List (Nat×Obj)),m=rows.length-i∧i≤rows.length∧Gr Lg 1 (Qe (Qam nx b i)) c∧Kn H H1 [] ([]++Lg)∧
   e1=[(1,.c (.int .i64 b)),(5,.c c),(16,.c bc),(17,.c (.int .i64 rows.length)),(18,.c (.int .i64 i))]) rows.length ?_ ?_))
  ·exact⟨0,_,[],by omega,by omega,.nil 1,Kn.start0 H,rfl⟩
  ·rintro m e1 H1 ⟨i,c,Lg,hm,hi,hgr,kn,rfl⟩;have hg1:=hg.keep0 kn;have hok1:=eq_true hg1.s.ok;have hrw1:=hg1.s.rows;refine Qa ?_;simp only[go_sem];refine Qh (Qd rfl ?_ ?_)
   ·intro hc;have hlt:i<rows.length:=(by simpa using hc);obtain⟨a1,a2,a3,a4,fl,hrow⟩:=hg.x i hlt;obtain⟨o1,o2,o3,o4,_⟩:=hg.ows hlt hrow;refine Qf ?_;simp only[go_sem];refine Qd3 (fun e2 H2=>∃(c:C) (Lg:List (Nat×Obj)),Gr Lg 1 (Qe (Qam nx b (i+1))) c∧Kn H H2 [] ([]++Lg)∧
     lk 1 e2=.c (.int .i64 b)∧lk 5 e2=.c c∧lk 16 e2=.c bc∧lk 17 e2=.c (.int .i64 rows.length)∧lk 18 e2=.c (.int .i64 i)) ?_ ?_
    ·intro Q hnr _ _;refine Qc ?_;refine Qa ?_;simp only[go_sem,how,hok1,hlen,hsz,hrw1,hlt,hrow,o1,o2,o3,o4];intro x hx H2 h2;have kn:=(kn.al hx h2).perm J2;have hx2:=kn.l 0 rfl;simp only[go_sem,Qs4,hx2];intro H3 h3;have kn:=kn.stL 0 rfl h3;have hx3:=kn.l 0 rfl;refine Qa ?_;simp only[go_sem,hx3];refine Qbea (.mk' _ _ _ _) rfl ?_;refine Qd rfl ?_ ?_
     ·intro hcon;have hpl:=Qhp nx b i;refine Qr ?_;simp only[go_sem];refine kn.grow (B:=[_]) (new:=Qe [(i:Int)]) hgr (.mk' _ _ _ _) (Q6 _) (by simp only[Qi,LIM,Js,Jy];omega) fun y' H4 kn=>?_;simp only[go_sem,Qs5];refine hnr _ _ ⟨_,_,?_,(kn.perm J2).drop,rfl,rfl,rfl,rfl,rfl⟩;rw[Qin,hcon,if_pos rfl,Qdn];exact .mk _ _ _ (by simp)
     ·intro hcon;refine Qf ?_;simp only[go_sem];refine hnr _ _ ⟨c,Lg,?_,?_,rfl,rfl,rfl,rfl,rfl⟩
      ·rw[Qin,hcon];simpa using hgr
      ·have kn:Kn H H3 [] ([(x,.st [a1,a2,a3,a4,.sl fl 1 (Qe (nx i))])]++([]++Lg)):=kn;exact (kn.perm J2).drop
    ·rintro e2 H2 ⟨c2,Lg2,hgr,kn,l1,l5,l16,l17,l18⟩;refine Qr ?_;simp only[go_sem,X.next,l1,l5,l16,l17,l18];exact⟨Qp (by omega) (by omega),rows.length-(i+1),by omega,i+1,c2,Lg2,rfl,by omega,hgr,kn,rfl⟩
   ·intro hc;have hge:i=rows.length:=(by have:¬i<rows.length:=(by simpa using hc);omega);subst hge;refine Qv ?_;simp only[go_sem,X.next];refine Qa ?_;simp only[go_sem,hgr.isOw];refine Qj ?_;simp only[go_sem,Q4,Qaa,Qsr,Ja,forall_eq,RS.op,hgr.isOw];refine⟨_,.c _ _ (hgr.frz kn (Q6 _)),?_⟩;have:=hK false _ kn.fin;simp only[Qaie,hc']at this;exact this
end Go.AE.Y
namespace Go.AE.Y
attribute [local go_sem] cond_true cond_false Bool.not_true Bool.not_false
open Go.Proofs.Tryz
variable {H:Heap}{K:V→Heap→Prop}
theorem Qazp {fl:Bool}{l:List InsD}{f:Nat}{caps:List C}{p:InsD→Bool}
  (hf:∀(x:InsD) (H1:Heap) (K':V→Heap→Prop),x∈l→(∀H2,Upd H1 H2 []→K' (.c (.bool (p x))) H2)→Qo prog f ([.ag x.cells]++caps.map .c) H1 K')
  (hK:∀(r:Int) (H':Heap),Upd H H' []→decide (0≤r)=l.any p→K (.c (.int .i64 r)) H') :
  Qo prog Qdf [.c (.sl fl 4 (Qac l)),.c (.fn f caps)] H K:=by
 refine Qy ?_;refine Qb Qap Q2y ?_;refine Qa ?_;simp only[go_sem];refine Q5 ?_;refine Qa ?_;simp only[go_sem,Q3];intro hl;simp only[LIM]at hl;refine Qh (Qc (Qu (fun m e1 H1=>∃(i:Nat),m=l.length-i∧i≤l.length∧Kn H H1 [] []∧(∀x∈l.take i,p x=false)∧e1=[(0,.c (.sl fl 4 (Qac l))),(1,.c (.fn f caps)),(7,.c (.int .i64 l.length)),(8,.c (.int .i64 i))]) l.length ?_ ?_))
 ·exact⟨0,by omega,by omega,Kn.start0 H,by simp,rfl⟩
 ·rintro m e1 H1 ⟨i,hm,hi,kn,hall,rfl⟩;refine Qa ?_;simp only[go_sem];refine Qh (Qd rfl ?_ ?_)
  ·intro hc;have hlt:i<l.length:=by simpa using hc
   refine Qf ?_;simp only[go_sem];refine Qh (Qc ?_);refine Qa ?_;simp only[go_sem];refine Qa ?_;simp only[go_sem,hlt,Q3,Qa2 _ _ hlt,InsD.take4,InsD.allOw,InsD.len4];refine hf _ _ _ (Jd hlt) fun H2 hu=>?_;have kn:=kn.call0 hu;refine Qd rfl ?_ ?_
   ·intro hc2;refine Qa ?_;simp only[go_sem];refine Qj ?_;simp only[go_sem,X.next,Q4,Qaa,Qej,Ja,forall_eq,RS.op];refine⟨_,.c _ _ (Qg rfl),hK _ _ kn.fin ?_⟩;have:l.any p=true:=Jal.2 ⟨_,Jd hlt,hc2⟩;rw[this];simp
   ·intro hc2;refine Qf ?_;simp only[go_sem];refine Qr ?_;simp only[go_sem,X.next];refine⟨Qp (by omega) (by omega),l.length-(i+1),by omega,i+1,rfl,by omega,kn,?_,rfl⟩;rw[Ji hlt];intro x hx;rcases Je.1 hx with hx|hx
    ·exact hall x hx
    ·simp only[Ja]at hx;subst hx;exact hc2
  ·intro hc;have hge:l.length≤i:=by simpa using hc
   rw[Jc hge]at hall;refine Qv ?_;simp only[go_sem,X.next];refine Qa ?_;simp only[go_sem];refine Qj ?_;simp only[go_sem,Q4,Qaa,Qej,Ja,forall_eq,RS.op];refine⟨_,.c _ _ (Qg rfl),hK _ _ kn.fin ?_⟩;have:l.any p=false:=by
    cases hc:l.any p with
    |false=>rfl
    |true=>obtain⟨x,hx,hp⟩:=Jal.1 hc;rw[hall x hx]at hp;exact absurd hp (by simp)
   rw[this];rfl
theorem Qag9 {fl:Bool}{l:List InsD}{f:Nat}{caps:List C}{p:InsD→Bool}
  (hf:∀(x:InsD) (H1:Heap) (K':V→Heap→Prop),x∈l→(∀H2,Upd H1 H2 []→K' (.c (.bool (p x))) H2)→Qo prog f ([.ag x.cells]++caps.map .c) H1 K')
  (hK:∀(H':Heap),Upd H H' []→K (.c (.bool (l.any p))) H') :
  Qo prog Qcb [.c (.sl fl 4 (Qac l)),.c (.fn f caps)] H K:=by
 refine Qb Qap Qsl ?_;refine Qa ?_;simp only[go_sem];refine Qa ?_;simp only[go_sem];refine Qazp hf fun r H' hu hr=>?_;simp only[go_sem,Qd2];refine Qj ?_;simp only[go_sem,Q4,Qaa,Qf4,Ja,forall_eq,RS.op];rw[hr];exact hK _ hu
theorem Q0g {x5:Nat}{q:CodeD}{v:Int}(h5:H x5=.st q.cells)(hr:-(2^62)≤q.regs)(hr2:q.regs≤2^62)(hK:K (.c (.bool (decide (0≤v∧v≤q.regs-1)))) H) :
  Qo prog Qag [.c (.int .i64 v),.c (.ptr x5 0)] H K:=by
 refine Qb Qap Qap5 ?_;refine Qa ?_;simp only[go_sem];refine Qa ?_;simp only[go_sem,h5,CodeD.cells];refine⟨Qp (by omega) (by omega),?_⟩;refine Qdc ?_;simp only[go_sem,Qkv];refine Qj ?_;simp only[go_sem,Q4,Qaa,Qy5,Ja,forall_eq,RS.op];have e:(decide (0≤v)&&decide (v≤q.regs-1))=decide (0≤v∧v≤q.regs-1):=by simp
 rw[e];exact hK
theorem Qa6e {x5:Nat}{q:CodeD}{v:Int}(h5:H x5=.st q.cells)(hb:q.blocks.length≤2 ^ 38)(hK:K (.c (.bool (!Qadc (Qm q.blocks).length v))) H) :
  Qo prog Qhc [.c (.int .i64 v),.c (.ptr x5 0)] H K:=by
 refine Qb Qap Qap6 ?_;refine Qa ?_;simp only[go_sem];refine Qa ?_;simp only[go_sem,h5,CodeD.cells,Ql];intro _;refine⟨Qp (by omega) (by omega),?_⟩;refine Qdc ?_;simp only[go_sem,Qkw];refine Qj ?_;simp only[go_sem,Q4,Qaa,Qy6,Ja,forall_eq,RS.op];have e:(decide (1≤v)&&decide (v≤(q.blocks.length:Int)-1))=Qadc (Qm q.blocks).length v:=by simp[Qadc,Ql]
 rw[e];exact hK
theorem Qa6f {cs:List CodeD}{fl:Bool}{k:Nat}{x:InsD}(hk:k<cs.length)(hr:0≤cs[k].regs)(hr2:cs[k].regs≤300)(hcl:cs.length≤100)(hK:∀(H':Heap),Upd H H' []→K (.c (.bool (!insG cs k x))) H') :
  Qo prog Qhd [.ag x.cells,.c (.pp [.sl fl 3 (Qk cs)]),.c (.pp [.int .i64 k])] H K:=by
 refine Qb Qap Qap7 ?_;refine Qa ?_;simp only[go_sem,InsD.cells];refine Qa ?_;simp only[go_sem];refine Qbrs hk hr hr2 hcl fun H' hu=>?_;simp only[go_sem,Qkx];refine Qj ?_;simp only[go_sem,Q4,Qaa,Qy7,Ja,forall_eq,RS.op];exact hK _ hu
theorem Qa6g {x5 x6:Nat}{q:CodeD}{v:Int}(h5:H x5=.st q.cells)(h6:H x6=.st [.fn Qag [.ptr x5 0]])(hr:-(2^62)≤q.regs)(hr2:q.regs≤2^62)(hK:K (.c (.bool (!decide (0≤v∧v≤q.regs-1)))) H) :
  Qo prog Qhe [.c (.int .i64 v),.c (.ptr x6 0)] H K:=by
 refine Qb Qap Qap8 ?_;refine Qa ?_;simp only[go_sem];refine Qa ?_;simp only[go_sem,h6,Jz,J1,Jr,Jae];refine Q0g h5 hr hr2 ?_;simp only[go_sem,Qky];refine Qj ?_;simp only[go_sem,Q4,Qaa,Qy8,Ja,forall_eq,RS.op];exact hK
attribute [local instance] Classical.propDecidable
def Q2f (b:BlkD):Obj:=.st [.sl false 2 (Qz b.phis),.sl false 4 (Qac b.ins),.int .i64 b.jump,.int .i64 b.on,.sl false 1 (Qe b.next)]
theorem Qazz {cs:List CodeD}{k:Nat}{hk:k<cs.length}(h:¬Qapt cs k hk):decide (Qapt cs k hk)=false:=decide_eq_false h
set_option maxHeartbeats 2000000 in
theorem Qbnb {cs:List CodeD}{fl:Bool}{k:Nat}(hk:k<cs.length)(hcl:cs.length≤100)(hfit:cs[k].fits)(hK:∀(H':Heap),Upd H H' []→K (.c (.bool (decide (Qapt cs k hk)))) H') :
  Qo prog Qr3 [.ag [.sl fl 3 (Qk cs)],.c (.int .i64 k)] H K:=by
 refine Qy ?_;refine Qb Qap Qa60 ?_;have retf:∀(v:Bool) (e:Env) (H':Heap) (L:List (Nat×Obj)),decide (Qapt cs k hk)=v→Kn H H' [] L→lk 4 e=.c (.bool v)→Q4 Qhq (fun x H'=>∃x',FrzV H' (un H) x x'∧K x' (H'.frz (un H))) .ret e H':=by
  intro v e H' L hb kn h3;simp only[go_sem,Q4,Qaa,Qhq,Ja,forall_eq,RS.op,h3];rw[←hb];exact⟨_,.c _ _ (Qg rfl),hK _ kn.fin⟩
 obtain⟨q,hq⟩:∃q,cs[k]=q:=⟨_,rfl⟩;have hP:Qapt cs k hk=(Q0p q=true∧∀(b:Nat) (h:b<q.blocks.length),blkG cs k b q q.blocks[b]=true):=by subst hq;rfl
 refine Qa ?_;simp only[go_sem];refine Qa ?_;simp only[go_sem,hk,Qx,Qad _ _ hk,CodeD.cells,hq];intro x5 hx5 H1 h1;have kn:=(Kn.start0 H).al hx5 h1;have hx5:=kn.l 0 rfl;simp only[go_sem,Qzk,hx5];intro H2 h2;have kn:Kn H H2 [] [(x5,.st q.cells)]:=kn.stL 0 rfl h2;have hx5:H2 x5=.st [.int .i64 q.params,.int .i64 q.regs,.sl false 5 (Qm q.blocks)]:=kn.l 0 rfl;refine Q5 ?_;refine Qa ?_;simp only[go_sem,hx5];refine Qdc ?_;have rest0:∀(b:Bool) (E1:Env),Q0p q=(!b)→lk 2 E1=.c (.pp [.sl fl 3 (Qk cs)])→lk 3 E1=.c (.pp [.int .i64 k])→lk 5 E1=.c (.ptr x5 0)→lk 36 E1=.c (.bool b)→
   Qaj prog (s_im_codeOk_4.seq Qzj) (Q4 Qhq (fun x H'=>∃x',FrzV H' (un H) x x'∧K x' (H'.frz (un H)))) E1 H2:=by
  intro b E1 hb l2 l3 l5 l36;refine Qh (Qd l36 ?_ ?_)
  ·intro hc;refine Qa ?_;simp only[go_sem];refine Qj ?_;simp only[go_sem];exact retf false _ _ _ (Qazz fun h=>by rw[hP,hb,hc]at h;simp at h) kn (by simp[lk])
  intro hc;rw[hc]at hb;have hb':=hb;simp only[Q0p,Ju,Jl,decide_eq_true_eq]at hb';obtain⟨hr0,hr1,hb0,hbl⟩:0≤q.regs∧q.regs≤300∧0<q.blocks.length∧q.blocks.length≤160:=by omega
  refine Qf ?_;simp only[go_sem];refine Qa ?_;simp only[go_sem,l2,l3,l5];intro x6 hx6 H3 h3;have kn:=kn.al hx6 h3;have hx6:=kn.l 1 rfl;simp only[go_sem,Qzl,hx6,l2,l3,l5];intro H4 h4;have kn:Kn H H4 [] [(x5,.st q.cells),(x6,.st [.fn Qag [.ptr x5 0]])]:=kn.stL 1 rfl h4;have hx5:H4 x5=.st [.int .i64 q.params,.int .i64 q.regs,.sl false 5 (Qm q.blocks)]:=kn.l 0 rfl;refine Q5 ?_;refine Qa ?_;simp only[go_sem,hx5,Ql];intro _;refine Qh (Qc (Qu (fun m e1 H1=>∃(j:Nat),m=q.blocks.length-j∧j≤q.blocks.length∧(∀(i:Nat) (hi:i<q.blocks.length),i<j→blkG cs k i q q.blocks[i]=true)∧Kn H H1 [] [(x5,.st q.cells),(x6,.st [.fn Qag [.ptr x5 0]])]∧
   e1=[(2,.c (.pp [.sl fl 3 (Qk cs)])),(3,.c (.pp [.int .i64 k])),(5,.c (.ptr x5 0)),(6,.c (.ptr x6 0)),(39,.c (.sl false 5 (Qm q.blocks))),(40,.c (.int .i64 q.blocks.length)),(41,.c (.int .i64 j))]) q.blocks.length ?_ ?_))
  ·exact⟨0,by omega,by omega,fun _ _ h=>by omega,kn,rfl⟩
  ·rintro m e1 H5 ⟨j,hm,hj,hdone,kn,rfl⟩;refine Qa ?_;simp only[go_sem];refine Qh (Qd rfl ?_ ?_)
   ·intro hc1;have hlt:j<q.blocks.length:=(by simpa using hc1);have hbf:q.blocks[j].ins.length≤2 ^ 38∧q.blocks[j].phis.length≤2 ^ 38:=(by subst hq;exact hfit _ (Jd hlt));refine Qf ?_;simp only[go_sem];refine Qd3 (fun e2 H2=>Kn H H2 [] [(x5,.st q.cells),(x6,.st [.fn Qag [.ptr x5 0]])]∧blkG cs k j q q.blocks[j]=true∧lk 2 e2=.c (.pp [.sl fl 3 (Qk cs)])∧lk 3 e2=.c (.pp [.int .i64 k])∧lk 5 e2=.c (.ptr x5 0)∧lk 6 e2=.c (.ptr x6 0)∧
     lk 39 e2=.c (.sl false 5 (Qm q.blocks))∧lk 40 e2=.c (.int .i64 q.blocks.length)∧lk 41 e2=.c (.int .i64 j)) ?_ ?_
    ·intro Q hnr hrt _;replace hrt:∀e H',Q4 Qhq (fun x H'=>∃x',FrzV H' (un H) x x'∧K x' (H'.frz (un H))) .ret e H'→Q .ret e H':=fun e H' h=>hrt e H' (by simpa only[go_sem,X.next]using h);have retq:∀(e:Env) (H':Heap) (L:List (Nat×Obj)),blkG cs k j q q.blocks[j]=false→Kn H H' [] L→lk 4 e=.c (.bool false)→Q .ret e H':=fun e H' L hb kn l4=>
      hrt e H' (retf false e H' L (Qazz fun h=>by rw[hP]at h;rw[h.2 j hlt]at hb;exact absurd hb (by simp)) kn l4)
     have hGd:blkG cs k j q q.blocks[j]=(Qsj q.regs q.blocks[j]&&q.blocks[j].next.all (Qadc (Qm q.blocks).length)&&q.blocks[j].ins.all (insG cs k)&&q.blocks[j].phis.all (phiG q.regs (Qam (gnx q) (j:Int) (Qm q.blocks).length).length j)):=rfl;refine Qc ?_;refine Qa ?_;simp only[go_sem,hlt,Ql,Q1 _ _ hlt,BlkD.cells];obtain⟨y,hy⟩:∃y,q.blocks[j]=y:=⟨_,rfl⟩;rw[hy]at hGd retq hbf hnr;rw[hy];intro x8 hx8 H6 h6;have kn:=kn.al hx8 h6;have hx8:=kn.l 2 rfl;simp only[go_sem,Qzm,hx8];intro H7 h7;have kn:Kn H H7 [] [(x5,.st q.cells),(x6,.st [.fn Qag [.ptr x5 0]]),(x8,Q2f y)]:=kn.stL 2 rfl h7;have hx5:H7 x5=.st [.int .i64 q.params,.int .i64 q.regs,.sl false 5 (Qm q.blocks)]:=kn.l 0 rfl;have hx5':H7 x5=.st q.cells:=kn.l 0 rfl;have hx6:=kn.l 1 rfl;have hx8:H7 x8=.st [.sl false 2 (Qz y.phis),.sl false 4 (Qac y.ins),.int .i64 y.jump,.int .i64 y.on,.sl false 1 (Qe y.next)]:=kn.l 2 rfl;have rest3:∀(E1:Env) (H8:Heap),Qsj q.regs y=true→y.next.all (Qadc (Qm q.blocks).length)=true→y.ins.all (insG cs k)=true→Kn H H8 [] [(x5,.st q.cells),(x6,.st [.fn Qag [.ptr x5 0]]),(x8,Q2f y)]→
       lk 2 E1=.c (.pp [.sl fl 3 (Qk cs)])→lk 3 E1=.c (.pp [.int .i64 k])→lk 5 E1=.c (.ptr x5 0)→lk 6 E1=.c (.ptr x6 0)→lk 7 E1=.c (.int .i64 j)→lk 8 E1=.c (.ptr x8 0)→
       lk 39 E1=.c (.sl false 5 (Qm q.blocks))→lk 40 E1=.c (.int .i64 q.blocks.length)→lk 41 E1=.c (.int .i64 j)→Qaj prog Qjk (X.inBlock 1 Q) E1 H8:=by
      intro E1 H8 g1 g2 g3 kn l2 l3 l5 l6 l7 l8 l39 l40 l41;have hx5:H8 x5=.st [.int .i64 q.params,.int .i64 q.regs,.sl false 5 (Qm q.blocks)]:=kn.l 0 rfl;have hin:(decide (0≤(j:Int))&&decide ((j:Int)≤((Qm q.blocks).length:Int)-1))=true:=(by rw[Ql];simp;omega);refine Qa ?_;simp only[go_sem,hx5,l2,l3,l5,l6,l7,l8,l39,l40,l41];refine Qazq (rows:=Qm q.blocks) (nx:=gnx q) (Qav1 _ q false) fun fl' H9 hu=>?_;have kn:=kn.call0 hu;rw[Qaie,if_pos hin];generalize hnp:Qam (gnx q) (j:Int) (Qm q.blocks).length=ps;rw[hnp]at hGd;simp only[go_sem,Qs6,l2,l3,l5,l6,l7,l8,l39,l40,l41,Qi];intro _;have hx8:H9 x8=.st [.sl false 2 (Qz y.phis),.sl false 4 (Qac y.ins),.int .i64 y.jump,.int .i64 y.on,.sl false 1 (Qe y.next)]:=kn.l 2 rfl;refine Qa ?_;simp only[go_sem,hx8,Qq];intro _;refine Qc (Qu (fun m e1 H1=>∃(i:Nat),m=y.phis.length-i∧i≤y.phis.length∧(y.phis.take i).all (phiG q.regs ps.length j)=true∧Kn H H1 [] [(x5,.st q.cells),(x6,.st [.fn Qag [.ptr x5 0]])]∧
       e1=[(2,.c (.pp [.sl fl 3 (Qk cs)])),(3,.c (.pp [.int .i64 k])),(5,.c (.ptr x5 0)),(6,.c (.ptr x6 0)),(7,.c (.int .i64 j)),(9,.c (.int .i64 ps.length)),(39,.c (.sl false 5 (Qm q.blocks))),(40,.c (.int .i64 q.blocks.length)),(41,.c (.int .i64 j)),(91,.c (.sl false 2 (Qz y.phis))),(92,.c (.int .i64 y.phis.length)),(93,.c (.int .i64 i))]) y.phis.length ?_ ?_)
      ·exact⟨0,by omega,by omega,rfl,kn.drop (A:=[_,_]),rfl⟩
      ·rintro m2 e1 H10 ⟨i,hm2,hi,hall,kn,rfl⟩;refine Qa ?_;simp only[go_sem];refine Qh (Qd rfl ?_ ?_)
       ·intro hc2;have hil:i<y.phis.length:=(by simpa using hc2);refine Qf ?_;simp only[go_sem];refine Qh (Qc ?_);refine Qa ?_;simp only[go_sem,hil,Qq,Qal _ _ hil,PhiD.cells];obtain⟨z,hz⟩:∃z,y.phis[i]=z:=⟨_,rfl⟩;rw[hz];intro x11 hx11 H11 h11;have kn:=kn.al hx11 h11;have hx11:=kn.l 2 rfl;simp only[go_sem,Qs7,hx11];intro H12 h12;have kn:Kn H H12 [] ([(x5,.st q.cells),(x6,.st [.fn Qag [.ptr x5 0]])]++[(x11,.st [.int .i64 z.to,.sl false 1 (Qe z.args)])]):=kn.stL 2 rfl h12;have hx5':H12 x5=.st q.cells:=kn.l 0 rfl;have hx6:=kn.l 1 rfl;have hx11:=kn.l 2 rfl;have fin:∀(b3:Bool) (E1:Env),phiG q.regs ps.length j z=(!b3)→lk 2 E1=.c (.pp [.sl fl 3 (Qk cs)])→lk 3 E1=.c (.pp [.int .i64 k])→lk 5 E1=.c (.ptr x5 0)→lk 6 E1=.c (.ptr x6 0)→lk 7 E1=.c (.int .i64 j)→lk 9 E1=.c (.int .i64 ps.length)→
          lk 39 E1=.c (.sl false 5 (Qm q.blocks))→lk 40 E1=.c (.int .i64 q.blocks.length)→lk 41 E1=.c (.int .i64 j)→lk 91 E1=.c (.sl false 2 (Qz y.phis))→lk 92 E1=.c (.int .i64 y.phis.length)→lk 93 E1=.c (.int .i64 i)→lk 118 E1=.c (.bool b3)→
          Qaj prog Qzg (X.inBlock 3 (X.sq prog Qzh (X.next (fun e2 H2=>∃m,m<m2∧∃(i:Nat),m=y.phis.length-i∧i≤y.phis.length∧(y.phis.take i).all (phiG q.regs ps.length j)=true∧Kn H H2 [] [(x5,.st q.cells),(x6,.st [.fn Qag [.ptr x5 0]])]∧
           e2=[(2,.c (.pp [.sl fl 3 (Qk cs)])),(3,.c (.pp [.int .i64 k])),(5,.c (.ptr x5 0)),(6,.c (.ptr x6 0)),(7,.c (.int .i64 j)),(9,.c (.int .i64 ps.length)),(39,.c (.sl false 5 (Qm q.blocks))),(40,.c (.int .i64 q.blocks.length)),(41,.c (.int .i64 j)),(91,.c (.sl false 2 (Qz y.phis))),(92,.c (.int .i64 y.phis.length)),(93,.c (.int .i64 i))])
           (X.inBlock 2 (X.inBlock 1 Q))))) E1 H12:=by
         intro b3 E1 hph l2 l3 l5 l6 l7 l9 l39 l40 l41 l91 l92 l93 l118;refine Qd l118 ?_ ?_
         ·intro hc3;refine Qa ?_;simp only[go_sem];refine Qj ?_;simp only[go_sem,X.next];exact retq _ _ _ (by rw[hGd,Qavn hil (by rw[hz,hph,hc3];rfl)];simp) kn (by simp[lk])
         ·intro hc3;refine Qf ?_;simp only[go_sem];refine Qr ?_;simp only[go_sem,X.next,l2,l3,l5,l6,l7,l9,l39,l40,l41,l91,l92,l93];exact⟨Qp (by omega) (by omega),y.phis.length-(i+1),by omega,i+1,rfl,by omega,by rw[Qagy hil,hall,hz,hph,hc3];rfl,kn.drop,rfl⟩
        have hpG:phiG q.regs ps.length j z=(!decide (j=0)&&decide ((z.args.length:Int)=ps.length)&&Qsw q.regs z.args&&decide (0≤z.to∧z.to≤q.regs-1)):=rfl;refine Qa ?_;simp only[go_sem]
        cases hj0:decide ((j:Int)=0)with
        |true=>
         have hj0':decide (j=0)=true:=(by simpa using hj0);simp only[go_sem,Qcj,Qci];exact fin true _ (by rw[hpG,hj0'];rfl) (by simp[lk]) (by simp[lk]) (by simp[lk]) (by simp[lk]) (by simp[lk]) (by simp[lk]) (by simp[lk]) (by simp[lk]) (by simp[lk]) (by simp[lk]) (by simp[lk]) (by simp[lk]) (by simp[lk])
        |false=>
         have hj0':decide (j=0)=false:=(by simpa using hj0);simp only[go_sem,hx11,hx6,Jz,J1,Jr,Jae];refine Q0g hx5' (by omega) (by omega) ?_
         cases ht:decide (0≤z.to∧z.to≤q.regs-1)with
         |false=>
          simp only[go_sem,Qcj,Qci];exact fin true _ (by rw[hpG,ht];simp) (by simp[lk]) (by simp[lk]) (by simp[lk]) (by simp[lk]) (by simp[lk]) (by simp[lk]) (by simp[lk]) (by simp[lk]) (by simp[lk]) (by simp[lk]) (by simp[lk]) (by simp[lk]) (by simp[lk])
         |true=>
          by_cases hal:(z.args.length:Int)=ps.length
          ·simp only[go_sem,Qcj,hx11,Qi,hal,not_true_eq_false,decide_false,decide_true,J7];intro _;refine Qi2 (p:=fun r=>!decide (0≤r∧r≤q.regs-1)) (.mk' _ _ _ _) rfl (fun v K' hv hK'=>Qa6g hx5' hx6 (by omega) (by omega) hK') ?_;simp only[go_sem,Qci];refine fin (z.args.any fun r=>!decide (0≤r∧r≤q.regs-1)) _ ?_ (by simp[lk]) (by simp[lk]) (by simp[lk]) (by simp[lk]) (by simp[lk]) (by simp[lk]) (by simp[lk]) (by simp[lk]) (by simp[lk]) (by simp[lk]) (by simp[lk]) (by simp[lk]) (by simp[lk]);rw[hpG,hj0',ht,Qa6a,hal,Qsw];simp
          ·simp only[go_sem,Qcj,Qci,hx11,Qi,hal,not_false_eq_true,decide_false,decide_true,Ju];intro _;exact fin true _ (by rw[hpG];simp[hal]) (by simp[lk]) (by simp[lk]) (by simp[lk]) (by simp[lk]) (by simp[lk]) (by simp[lk]) (by simp[lk]) (by simp[lk]) (by simp[lk]) (by simp[lk]) (by simp[lk]) (by simp[lk]) (by simp[lk])
       ·intro hc2;have hge:y.phis.length≤i:=(by simpa using hc2);rw[Jc hge]at hall;refine Qv ?_;simp only[go_sem,X.next];exact hnr _ _ ⟨kn,by rw[hGd,g1,g2,g3,hall];rfl,rfl,rfl,rfl,rfl,rfl,rfl,rfl⟩
     have rest2:∀(b1:Bool) (E1:Env),Qsj q.regs y=(!b1)→lk 2 E1=.c (.pp [.sl fl 3 (Qk cs)])→lk 3 E1=.c (.pp [.int .i64 k])→lk 5 E1=.c (.ptr x5 0)→lk 6 E1=.c (.ptr x6 0)→lk 7 E1=.c (.int .i64 j)→lk 8 E1=.c (.ptr x8 0)→
       lk 39 E1=.c (.sl false 5 (Qm q.blocks))→lk 40 E1=.c (.int .i64 q.blocks.length)→lk 41 E1=.c (.int .i64 j)→lk 75 E1=.c (.bool b1)→Qaj prog (s_im_codeOk_11.seq Qzi) (X.inBlock 1 Q) E1 H7:=by
      intro b1 E1 hb1 l2 l3 l5 l6 l7 l8 l39 l40 l41 l75;refine Qh (Qd l75 ?_ ?_)
      ·intro hc2;refine Qa ?_;simp only[go_sem];refine Qj ?_;simp only[go_sem];exact retq _ _ _ (by rw[hGd,hb1,hc2];simp) kn (by simp[lk])
      intro hc2;rw[hc2]at hb1;refine Qf ?_;simp only[go_sem];refine Q5 ?_;refine Qa ?_;simp only[go_sem,hx8,l2,l3,l5,l6,l7,l8,l39,l40,l41];refine Qi2 (p:=fun v=>!Qadc (Qm q.blocks).length v) (.mk' _ _ _ _) rfl (fun v K' hv hK'=>Qa6e hx5' (by omega) hK') ?_;have fin:∀(b:Bool) (E1:Env) (H8:Heap),(y.next.all (Qadc (Qm q.blocks).length)&&y.ins.all (insG cs k))=(!b)→Kn H H8 [] [(x5,.st q.cells),(x6,.st [.fn Qag [.ptr x5 0]]),(x8,Q2f y)]→lk 2 E1=.c (.pp [.sl fl 3 (Qk cs)])→lk 3 E1=.c (.pp [.int .i64 k])→lk 5 E1=.c (.ptr x5 0)→lk 6 E1=.c (.ptr x6 0)→lk 7 E1=.c (.int .i64 j)→lk 8 E1=.c (.ptr x8 0)→
        lk 39 E1=.c (.sl false 5 (Qm q.blocks))→lk 40 E1=.c (.int .i64 q.blocks.length)→lk 41 E1=.c (.int .i64 j)→lk 85 E1=.c (.bool b)→Qaj prog (s_im_codeOk_14.seq Qjk) (X.inBlock 1 Q) E1 H8:=by
       intro b E1 H8 hb kn l2 l3 l5 l6 l7 l8 l39 l40 l41 l85;refine Qh (Qd l85 ?_ ?_)
       ·intro hc3;refine Qa ?_;simp only[go_sem];refine Qj ?_;simp only[go_sem];exact retq _ _ _ (by rw[hGd,Bool.and_assoc (Qsj _ _),hb,hc3];simp) kn (by simp[lk])
       ·intro hc3;rw[hc3]at hb;simp only[Ju,Jl]at hb;refine Qf ?_;simp only[go_sem];exact rest3 E1 H8 hb1 hb.1 hb.2 kn l2 l3 l5 l6 l7 l8 l39 l40 l41
      rw[Qa6a]
      cases ha:y.next.all (Qadc (Qm q.blocks).length)with
      |false=>
       simp only[go_sem,Qh0,Qhz,l2,l3,l5,l6,l7,l8,l39,l40,l41];exact fin true _ _ (by rw[ha];rfl) kn (by simp[lk]) (by simp[lk]) (by simp[lk]) (by simp[lk]) (by simp[lk]) (by simp[lk]) (by simp[lk]) (by simp[lk]) (by simp[lk]) (by simp[lk])
      |true=>
       simp only[go_sem,Qh0,hx8,l2,l3,l5,l6,l7,l8,l39,l40,l41];refine Qag9 (p:=fun x=>!insG cs k x) (fun x H1 K' hx hK'=>Qa6f hk (by rw[hq];exact hr0) (by rw[hq];exact hr1) hcl hK') fun H8 hu=>?_;have kn:=kn.call0 hu;simp only[go_sem,Qhz,l2,l3,l5,l6,l7,l8,l39,l40,l41];refine fin (y.ins.any fun x=>!insG cs k x) _ _ ?_ kn (by simp[lk]) (by simp[lk]) (by simp[lk]) (by simp[lk]) (by simp[lk]) (by simp[lk]) (by simp[lk]) (by simp[lk]) (by simp[lk]) (by simp[lk]);rw[ha,←List.not_all_eq_any_not];simp
     refine Q5 ?_;refine Qao ?_;simp only[go_sem,hx8,Qi];refine Qa7f ?_;have hjG:Qsj q.regs y=(decide ((y.next.length:Int)=Qp2 y.jump)&&if y.jump=1 then decide (y.on=0)else decide (0≤y.on∧y.on≤q.regs-1)):=rfl;by_cases hn:(y.next.length:Int)=Qp2 y.jump
     ·have hjmp:y.jump=1∨(y.jump=2∨y.jump=3)∧¬y.jump=1:=by
       rw[Qp2]at hn;split at hn
       ·exact .inl ‹_›
       ·split at hn
        ·omega
        ·split at hn
         ·omega
         ·omega
      simp only[go_sem,Qhy,hx8,Qi,hn,not_true_eq_false,decide_false,decide_true,J7];refine Qag6 ?_;rcases hjmp with h1|⟨h1,h2⟩
      ·have hu:(decide (y.jump=2) || decide (y.jump=3))=false:=(by simp[h1]);simp only[go_sem,Qfv,Qda,hu,hx8];refine Qag6 ?_;simp only[go_sem,Qc9,hu,hx8];exact rest2 (!decide (y.on=0)) _ (by rw[hjG,if_pos h1,hn];simp) (by simp[lk]) (by simp[lk]) (by simp[lk]) (by simp[lk]) (by simp[lk]) (by simp[lk]) (by simp[lk]) (by simp[lk]) (by simp[lk]) (by simp[lk])
      ·have hu:(decide (y.jump=2) || decide (y.jump=3))=true:=(by simpa using h1);simp only[go_sem,Qfv,hu,hx8,hx6,Jz,J1,Jr,Jae];refine Q0g hx5' (by omega) (by omega) ?_
       cases ho:decide (0≤y.on∧y.on≤q.regs-1)with
       |true=>
        simp only[go_sem,Qda,hx8];refine Qag6 ?_;simp only[go_sem,Qc9,hu,hx8];exact rest2 false _ (by rw[hjG,if_neg h2,hn,ho];simp) (by simp[lk]) (by simp[lk]) (by simp[lk]) (by simp[lk]) (by simp[lk]) (by simp[lk]) (by simp[lk]) (by simp[lk]) (by simp[lk]) (by simp[lk])
       |false=>
        simp only[go_sem,Qda,Qc9,hx8];exact rest2 true _ (by rw[hjG,if_neg h2,ho];simp) (by simp[lk]) (by simp[lk]) (by simp[lk]) (by simp[lk]) (by simp[lk]) (by simp[lk]) (by simp[lk]) (by simp[lk]) (by simp[lk]) (by simp[lk])
     ·simp only[go_sem,Qhy,Qfv,Qda,Qc9,hx8,Qi,hn,not_false_eq_true,decide_false,decide_true,Ju];exact rest2 true _ (by rw[hjG];simp[hn]) (by simp[lk]) (by simp[lk]) (by simp[lk]) (by simp[lk]) (by simp[lk]) (by simp[lk]) (by simp[lk]) (by simp[lk]) (by simp[lk]) (by simp[lk])
    ·rintro e2 H8 ⟨kn,hbg,l2,l3,l5,l6,l39,l40,l41⟩;refine Qr ?_;simp only[go_sem,X.next,l2,l3,l5,l6,l39,l40,l41];refine⟨Qp (by omega) (by omega),q.blocks.length-(j+1),by omega,j+1,rfl,by omega,fun i hi hij=>?_,kn,rfl⟩;by_cases h:i<j
     ·exact hdone i hi h
     ·have:i=j:=(by omega);subst this;exact hbg
   ·intro hc1;have hge:q.blocks.length≤j:=(by simpa using hc1);refine Qv ?_;simp only[go_sem,X.next];refine Qa ?_;simp only[go_sem];refine Qj ?_;exact retf true _ _ _ (decide_eq_true (by rw[hP];exact⟨by rw[hb];rfl,fun b h=>hdone b h (by omega)⟩)) kn (by simp[lk])
 have hH:Q0p q=(decide (0≤q.params∧q.params≤3)&&decide (q.params≤q.regs∧q.regs≤300)&&decide (1≤(q.blocks.length:Int)∧(q.blocks.length:Int)≤160)):=rfl;by_cases hr:0≤q.regs∧q.regs≤300
 ·have hr':(decide (0≤q.regs)&&decide (q.regs≤300))=true:=by simpa using hr
  simp only[go_sem,Qjl,hr',hx5];refine Qdc ?_;by_cases hp:0≤q.params∧q.params≤3∧q.params≤q.regs
  ·have hp':(decide (0≤q.params)&&decide (q.params≤if q.regs<3 then q.regs else 3))=true:=by
    split <;> simp <;> omega
   simp only[go_sem,Qfu,hp',hx5,Ql];intro _;refine Qdc ?_;simp only[go_sem,Qft];refine rest0 _ _ ?_ (by simp[lk]) (by simp[lk]) (by simp[lk]) (by simp[lk];rfl);have a1:decide (0≤q.params∧q.params≤3)=true:=by simp;omega
   have a2:decide (q.params≤q.regs∧q.regs≤300)=true:=by simp;omega
   rw[hH,a1,a2];simp
  ·have hp':(decide (0≤q.params)&&decide (q.params≤if q.regs<3 then q.regs else 3))=false:=by
    split <;> simp <;> omega
   simp only[go_sem,Qfu,Qft,hp',hx5];refine rest0 true _ ?_ (by simp[lk]) (by simp[lk]) (by simp[lk]) (by simp[lk]);rw[hH];simp;omega
 ·have hr':(decide (0≤q.regs)&&decide (q.regs≤300))=false:=by simpa using hr
  simp only[go_sem,Qjl,Qfu,Qft,hr',hx5];refine rest0 true _ ?_ (by simp[lk]) (by simp[lk]) (by simp[lk]) (by simp[lk]);rw[hH];simp;omega
set_option maxHeartbeats 1000000 in
theorem Qmr {cs:List CodeD}{fl:Bool}(hfit:∀c∈cs,c.fits)(hK:∀(H':Heap),Upd H H' []→K (.c (.bool (Qew cs))) H') :
  Qo prog Qa6 [.ag [.sl fl 3 (Qk cs)]] H K:=by
 refine Qy ?_;refine Qb Qap Qap2 ?_;have retf:∀(b:Bool) (e:Env) (H':Heap) (L:List (Nat×Obj)),Qew cs=b→Kn H H' [] L→lk 2 e=.c (.bool b)→Q4 Qje (fun x H'=>∃x',FrzV H' (un H) x x'∧K x' (H'.frz (un H))) .ret e H':=by
  intro b e H' L hb kn h3;simp only[go_sem,Q4,Qaa,Qje,Ja,forall_eq,RS.op,h3];rw[←hb];exact⟨_,.c _ _ (Qg rfl),hK _ kn.fin⟩
 have kn:=Kn.start0 H;refine Qa ?_;simp only[go_sem];refine Q5 ?_;refine Qa ?_;simp only[go_sem,Qx];intro hcl;refine Qdc ?_;simp only[go_sem,Qkp];refine Qh (Qd rfl ?_ ?_)
 ·intro hc;have hc':=Qsm hc;refine Qa ?_;simp only[go_sem];refine Qj ?_;simp only[go_sem];exact retf false _ _ _ (Qxd fun hu=>by have h1:=hu.1;simp at hc';omega) kn (by simp[lk])
 intro hc;have hc':=Qgt hc;have hc4:1≤cs.length∧cs.length≤4:=by simp at hc';omega
 refine Qf ?_;simp only[go_sem];refine Qa ?_;simp only[go_sem];refine Q5 ?_;refine Qa ?_;simp only[go_sem,Qx];intro _;refine Qh (Qc (Qu (fun m e1 H1=>∃(k:Nat),m=cs.length-k∧k≤cs.length∧Qie Qgp (cs.take k)≤k * (160 * 549755813888)∧(∀(i:Nat) (hi:i<cs.length),i<k→Qapt cs i hi)∧Kn H H1 [] []∧
  e1=[(1,.c (.pp [.sl fl 3 (Qk cs)])),(3,.c (.int .i64 (Qie Qgp (cs.take k):Nat))),(12,.c (.sl fl 3 (Qk cs))),(13,.c (.int .i64 cs.length)),(14,.c (.int .i64 k))]) cs.length ?_ ?_))
 ·exact⟨0,by omega,by omega,by simp[Qie],fun _ _ h=>by omega,kn,rfl⟩
 ·rintro m e1 H1 ⟨k,hm,hk,hsum,hdone,kn,rfl⟩;refine Qa ?_;simp only[go_sem];refine Qh (Qd rfl ?_ ?_)
  ·intro hc2;have hlt:k<cs.length:=by simpa using hc2
   have hss:=Qbz (f:=Qgp) hlt;refine Qf ?_;simp only[go_sem];refine Qh (Qc ?_);refine Qa ?_;simp only[go_sem,hlt,Qx,Qad _ _ hlt,CodeD.cells];obtain⟨q,hq⟩:∃q,cs[k]=q:=⟨_,rfl⟩;have hqf:q.fits:=by subst hq;exact hfit _ (Jd hlt)
   rw[hq];intro x5 hx5 H2 h2;have kn:=kn.al hx5 h2;have hx5:=kn.l 0 rfl;simp only[go_sem,Qkq,hx5];intro H3 h3;have kn:Kn H H3 [] ([]++[(x5,.st [.int .i64 q.params,.int .i64 q.regs,.sl false 5 (Qm q.blocks)])]):=kn.stL 0 rfl h3;refine Q5 ?_;refine Qa ?_;simp only[go_sem];refine Qbnb hlt (by omega) (by rw[hq];exact hqf) fun H4 hu=>?_;have kn:=kn.call0 hu;have hx5:=kn.l 0 rfl;simp only[go_sem,Qkr];refine Qh (Qd rfl ?_ ?_)
   ·intro hc3;have hno:=of_decide_eq_false (Qsm hc3);refine Qa ?_;simp only[go_sem];refine Qj ?_;simp only[go_sem,X.next];exact retf false _ _ _ (Qxd fun hu=>hno (hu.2.1 k hlt)) kn (by simp[lk])
   ·intro hc3;have hyes:=of_decide_eq_true (Qgt hc3);have hbl:q.blocks.length≤160:=by
     have:=hyes.1;rw[hq]at this;simp only[Q0p,Jl,decide_eq_true_eq]at this;omega
    have hcq:Qgp q≤160 * 549755813888:=Nat.le_trans (Qa50 hqf) (Jan _ hbl);have hk4:k * (160 * 549755813888)≤4 * (160 * 549755813888):=Jan _ (by omega);have hk1:(k+1) * (160 * 549755813888)=k * (160 * 549755813888)+160 * 549755813888:=Jbe _ _;rw[hq]at hss;refine Qf ?_;simp only[go_sem];refine Qa ?_;simp only[go_sem,hx5];refine Q0f hqf hbl fun H5 hu=>?_;have kn:=kn.call0 hu;simp only[go_sem,Qks];refine⟨Qp (by omega) (by omega),?_⟩;refine Qr ?_;simp only[go_sem,X.next];refine⟨Qp (by omega) (by omega),cs.length-(k+1),by omega,k+1,rfl,by omega,by rw[hss,hk1];omega,fun i hi hik=>?_,kn.drop,?_⟩
    ·by_cases h:i<k
     ·exact hdone i hi h
     ·have:i=k:=(by omega);subst this;exact hyes
    ·rw[hss];rfl
  ·intro hc2;have hge:cs.length≤k:=by simpa using hc2
   rw[Jc hge];refine Qv ?_;simp only[go_sem,X.next];refine Qa ?_;simp only[go_sem];refine Qj ?_;refine retf (decide (((Qie Qgp cs:Nat):Int)≤800)) _ _ _ ?_ kn (by simp[lk]);by_cases hs:Qie Qgp cs≤800
   ·have h1:Qew cs=true:=decide_eq_true ⟨by omega,fun i hi=>hdone i hi (by omega),hs⟩;rw[h1];simp;omega
   ·rw[Qxd fun hu=>hs hu.2.2];simp;omega
noncomputable def hasG (cs:List CodeD)(k:Int):Bool:=Qew cs&&decide (0≤k∧k≤(cs.length:Int)-1)
theorem Qbna {cs:List CodeD}{fl:Bool}{k:Int}(hfit:∀c∈cs,c.fits)(hK:∀(H':Heap),Upd H H' []→K (.c (.bool (hasG cs k))) H') :
  Qo prog Qii [.ag [.sl fl 3 (Qk cs)],.c (.int .i64 k)] H K:=by
 refine Qb Qap Qa6z ?_;refine Qa ?_;simp only[go_sem];refine Qa ?_;simp only[go_sem];refine Qmr hfit fun H' hu=>?_;have hK:=hK H' hu
 cases hg:Qew cs with
 |false=>
  simp only[go_sem,Qjj,Qji];refine Qj ?_;simp only[go_sem,Q4,Qaa,Q00,Ja,forall_eq,RS.op];rw[hasG,hg]at hK;exact hK
 |true=>
  simp only[go_sem,Qjj,Qx];intro hl;simp only[LIM]at hl;refine⟨Qp (by omega) (by omega),?_⟩;refine Qdc ?_;simp only[go_sem,Qji];refine Qj ?_;simp only[go_sem,Q4,Qaa,Q00,Ja,forall_eq,RS.op];have:hasG cs k=(decide (0≤k)&&decide (k≤(cs.length:Int)-1)):=by rw[hasG,hg];simp
  rw[this]at hK;exact hK
end Go.AE.Y
namespace Go.AE.Y
attribute [local instance] Classical.propDecidable
structure Flo where
 n:Nat
 nx:Nat→List Nat
 on:Nat→List Nat
 ins:Nat→List (Option Nat×List Nat)
 ph:Nat→List Nat
 ea:Nat→Nat→List Nat
abbrev RS':=Nat→Prop
def Qbja (x:Option Nat×List Nat)(S:RS'):RS':=fun r=>r∈x.2∨(S r∧x.1≠some r)
def behL (l:List (Option Nat×List Nat))(S:RS'):RS':=l.foldr Qbja S
theorem Qbih {l:List (Option Nat×List Nat)}{S T:RS'}(h:∀r,S r→T r):∀r,behL l S r→behL l T r:=by
 induction l with
 |nil=>exact h
 |cons x l ih=>
  rintro r (hr|⟨hr,h2⟩)
  ·exact .inl hr
  ·exact .inr ⟨ih r hr,h2⟩
theorem Qbig {l:List (Option Nat×List Nat)}{x:Option Nat×List Nat}{S:RS'}:behL (x::l) S=Qbja x (behL l S):=rfl
variable {F:Flo}
def Flo.endS (F:Flo)(X:RS')(b:Nat):RS':=fun r=>X r∨r∈F.on b
def Flo.beh (F:Flo)(X:RS')(b k:Nat):RS':=behL ((F.ins b).drop k) (F.endS X b)
theorem Flo.beh_end (X:RS')(b k:Nat)(h:(F.ins b).length≤k):F.beh X b k=F.endS X b:=by rw[Flo.beh,List.drop_of_length_le h];rfl
theorem Flo.beh_step (X:RS')(b k:Nat)(h:k<(F.ins b).length):F.beh X b k=Qbja (F.ins b)[k] (F.beh X b (k+1)):=by
 rw[Flo.beh,J3 h];rfl
theorem Flo.beh_mono {X Y:RS'}(h:∀r,X r→Y r)(b k:Nat):∀r,F.beh X b k r→F.beh Y b k r:=
 Qbih fun r hr=>hr.elim (fun h1=>.inl (h r h1)) .inr
theorem Flo.beh_congr {X Y:RS'}(h:∀r,X r↔Y r)(b k:Nat):∀r,F.beh X b k r↔F.beh Y b k r:=fun r=>
 ⟨Flo.beh_mono (fun r=>(h r).1) b k r,Flo.beh_mono (fun r=>(h r).2) b k r⟩
def Flo.outT (F:Flo)(I:Nat→RS')(b:Nat):RS':=fun r=>∃m∈F.nx b,I m r∨r∈F.ea b m
def Flo.thru (F:Flo)(X:RS')(b:Nat):RS':=fun r=>F.beh X b 0 r∧r∉F.ph b
def Flo.inT (F:Flo)(I:Nat→RS')(b:Nat):RS':=F.thru (F.outT I b) b
theorem Flo.thru_mono {X Y:RS'}(h:∀r,X r→Y r)(b:Nat):∀r,F.thru X b r→F.thru Y b r:=fun r hr=>⟨Flo.beh_mono h b 0 r hr.1,hr.2⟩
def Flo.fits (F:Flo):Prop:=∀b,b<F.n→∀m∈F.nx b,m<F.n
variable {I J:Nat→RS'}
theorem Flo.outT_mono (hf:F.fits)(h:∀b,b<F.n→∀r,I b r→J b r){b:Nat}(hb:b<F.n):∀r,F.outT I b r→F.outT J b r:=by
 rintro r ⟨m,hm,h1|h1⟩
 ·exact⟨m,hm,.inl (h m (hf b hb m hm) r h1)⟩
 ·exact⟨m,hm,.inr h1⟩
theorem Flo.inT_mono (hf:F.fits)(h:∀b,b<F.n→∀r,I b r→J b r){b:Nat}(hb:b<F.n):∀r,F.inT I b r→F.inT J b r:=
 Flo.thru_mono (Flo.outT_mono hf h hb) b
def Flo.Pre (F:Flo)(J:Nat→RS'):Prop:=∀b,b<F.n→∀r,F.inT J b r→J b r
def Flo.LI (F:Flo)(b:Nat):RS':=fun r=>∀J,F.Pre J→J b r
def Flo.LO (F:Flo)(b:Nat):RS':=F.outT F.LI b
def Flo.LB (F:Flo)(b k:Nat):RS':=F.beh (F.LO b) b k
theorem Flo.LI_pre (hf:F.fits):F.Pre F.LI:=fun b hb r hr J hJ=>hJ b hb r (Flo.inT_mono hf (fun b hb r hr=>hr J hJ) hb r hr)
theorem Flo.LI_fix (hf:F.fits){b:Nat}(hb:b<F.n)(r:Nat):F.inT F.LI b r↔F.LI b r:=by
 refine⟨Flo.LI_pre hf b hb r,fun h=>?_⟩;have:F.Pre (fun b r=>F.inT F.LI b r):=fun b hb r hr=>Flo.inT_mono hf (fun b hb r hr=>Flo.LI_pre hf b hb r hr) hb r hr;exact h _ this
def Flo.Below (F:Flo)(I:Nat→RS'):Prop:=∀b,b<F.n→∀r,I b r→F.LI b r
theorem Flo.is_least (h1:F.Pre I)(h2:F.Below I){b:Nat}(hb:b<F.n)(r:Nat):I b r↔F.LI b r:=⟨h2 b hb r,fun h=>h I h1⟩
theorem Flo.Below.inT (hf:F.fits)(h:F.Below I){b:Nat}(hb:b<F.n):∀r,F.inT I b r→F.LI b r:=fun r hr=>Flo.LI_pre hf b hb r (Flo.inT_mono hf h hb r hr)
theorem Flo.Below.outT (hf:F.fits)(h:F.Below I){b:Nat}(hb:b<F.n):∀r,F.outT I b r→F.LO b r:=Flo.outT_mono hf h hb
theorem Flo.outT_congr (hf:F.fits)(h:∀b,b<F.n→∀r,I b r↔J b r){b:Nat}(hb:b<F.n)(r:Nat):F.outT I b r↔F.outT J b r:=
 ⟨Flo.outT_mono hf (fun b hb r=>(h b hb r).1) hb r,Flo.outT_mono hf (fun b hb r=>(h b hb r).2) hb r⟩
structure Flo.bd (F:Flo)(R:Nat):Prop where
 on:∀b,b<F.n→∀r∈F.on b,r<R
 ins:∀b,b<F.n→∀x∈F.ins b,∀r∈x.2,r<R
 ea:∀b,b<F.n→∀m∈F.nx b,∀r∈F.ea b m,r<R
theorem Qbq4 {l:List (Option Nat×List Nat)}{S:RS'}{R:Nat}(hl:∀x∈l,∀r∈x.2,r<R)(hS:∀r,S r→r<R):∀r,behL l S r→r<R:=by
 induction l with
 |nil=>exact hS
 |cons x l ih=>
  rintro r (hr|⟨hr,_⟩)
  ·exact hl x Jm r hr
  ·exact ih (fun y hy=>hl y (Jj _ hy)) r hr
theorem Flo.beh_lt {R:Nat}(h:F.bd R){b:Nat}(hb:b<F.n){X:RS'}(hX:∀r,X r→r<R)(k:Nat):∀r,F.beh X b k r→r<R:=
 Qbq4 (fun x hx=>h.ins b hb x (List.mem_of_mem_drop hx)) fun r hr=>hr.elim (hX r) (h.on b hb r)
theorem Flo.outT_lt {R:Nat}(hf:F.fits)(h:F.bd R)(hI:∀b,b<F.n→∀r,I b r→r<R){b:Nat}(hb:b<F.n):∀r,F.outT I b r→r<R:=by
 rintro r ⟨m,hm,h1|h1⟩
 ·exact hI m (hf b hb m hm) r h1
 ·exact h.ea b hb m hm r h1
theorem Flo.LI_lt {R:Nat}(hf:F.fits)(h:F.bd R){b:Nat}:∀r,F.LI b r→r<R:=fun r hr=>
 hr (fun _ r=>r<R) fun b hb r hr=>Flo.beh_lt h hb (Flo.outT_lt hf h (fun _ _ _ h=>h) hb) 0 r hr.1
theorem Flo.LO_lt {R:Nat}(hf:F.fits)(h:F.bd R){b:Nat}(hb:b<F.n):∀r,F.LO b r→r<R:=Flo.outT_lt hf h (fun _ _=>Flo.LI_lt hf h) hb
theorem Flo.LB_lt {R:Nat}(hf:F.fits)(h:F.bd R){b:Nat}(hb:b<F.n)(k:Nat):∀r,F.LB b k r→r<R:=Flo.beh_lt h hb (Flo.LO_lt hf h hb) k
noncomputable def ascL (R:Nat)(S:RS'):List Nat:=(List.range R).filter fun r=>decide (S r)
theorem ascL_mem {R:Nat}{S:RS'}{r:Nat}:r∈ascL R S↔r<R∧S r:=by simp[ascL]
theorem Qbcx {R:Nat}{S:RS'}:(ascL R S).Pairwise (· < ·):=Jam _ Jai
theorem Qbq3 {R:Nat}{S:RS'}:(ascL R S).length≤R:=by
 have:=Ja2 (fun r=>decide (S r)) (List.range R);simpa[ascL]using this
theorem Qcm {a:List Nat}(ha:a.Nodup):∀{b:List Nat},(∀x∈a,x∈b)→a.length≤b.length:=by
 induction a with
 |nil=>intro b _;simp
 |cons x a ih=>
  intro b h;have hx:=h x Jm;have hn:=Jbj.1 ha;have:=ih hn.2 (b:=b.erase x) fun y hy=>(List.mem_erase_of_ne (fun he=>by subst he;exact hn.1 hy)).2 (h y (Jj _ hy));rw[List.length_erase_of_mem hx]at this;have hp:=List.length_pos_of_mem hx;simp only[Js];omega
theorem Qa0z {a b:List Nat}(ha:a.Nodup)(h:∀x∈a,x∈b)(hl:b.length≤a.length):∀x∈b,x∈a:=fun x hx=>by
 refine Jar fun hxa=>?_;have:=Qcm (a:=x::a) (Jbj.2 ⟨hxa,ha⟩) (b:=b) fun y hy=>by
  rcases Jt.1 hy with rfl|hy
  ·exact hx
  ·exact h y hy
 simp only[Js]at this;omega
theorem Qb1 {a:List Nat}{R:Nat}(ha:a.Nodup)(h:∀x∈a,x<R):a.length≤R:=by
 have:=Qcm ha (b:=List.range R) fun x hx=>Ja5.2 (h x hx);simpa using this
theorem Qaqi {a b:List Nat}(ha:a.Nodup)(hb:b.Nodup)(h:∀x,x∈a↔x∈b):a.length=b.length:=
 Nat.le_antisymm (Qcm ha fun x hx=>(h x).1 hx) (Qcm hb fun x hx=>(h x).2 hx)
theorem Qazt {l:List Nat}(h:l.Pairwise (· < ·)):l.Nodup:=List.Pairwise.imp (fun {a b} hab he=>by omega) h
def addK (ks:List Nat)(b:Nat):List Nat:=if b∈ks then ks else ks++[b]
theorem addK_mem {ks:List Nat}{b x:Nat}:x∈addK ks b↔x∈ks∨x=b:=by
 rw[addK];split
 ·exact⟨.inl,fun h=>h.elim id fun h=>h▸‹_›⟩
 ·simp
theorem Qw6 {ks:List Nat}{b:Nat}(h:ks.Nodup):(addK ks b).Nodup:=by
 rw[addK];split
 ·exact h
 ·refine J6.2 ⟨h,by simp,fun a ha c hc=>?_⟩;simp at hc;subst hc;exact fun e=>‹¬_› (e▸ha)
def tot (n:Nat)(S:Nat→List Nat):Nat:=((List.range n).map fun b=>(S b).length).sum
theorem Q55 (n:Nat)(S:Nat→List Nat):tot (n+1) S=tot n S+(S n).length:=by simp[tot,List.range_succ]
theorem Qbuv {n R:Nat}{S:Nat→List Nat}(h:∀b,b<n→(S b).length≤R):tot n S≤n * R:=by
 induction n with
 |zero=>simp[tot]
 |succ n ih=>
  rw[Q55,Jbe];have:=ih fun b hb=>h b (by omega);have:=h n (by omega);omega
theorem Qbqg {n:Nat}{S T:Nat→List Nat}(h:∀b,b<n→(S b).length≤(T b).length):tot n S≤tot n T:=by
 induction n with
 |zero=>simp[tot]
 |succ n ih=>
  rw[Q55,Q55];have:=ih fun b hb=>h b (by omega);have:=h n (by omega);omega
theorem Qbuw {n:Nat}{S T:Nat→List Nat}{c:Nat}(hc:c<n)(h:∀b,b<n→(S b).length≤(T b).length)(hlt:(S c).length<(T c).length):tot n S<tot n T:=by
 induction n with
 |zero=>omega
 |succ n ih=>
  rw[Q55,Q55];have h1:=h n (by omega);by_cases hcn:c=n
  ·subst hcn;have:=Qbqg (n:=c) (S:=S) (T:=T) fun b hb=>h b (by omega);omega
  ·have:=ih (by omega) fun b hb=>h b (by omega);omega
end Go.AE.Y
namespace Go.AE.Y
attribute [local go_sem] cond_true cond_false Bool.not_true Bool.not_false
open Go.Proofs.Tryz
variable {H:Heap}{K:V→Heap→Prop}
attribute [local instance] Classical.propDecidable
def Qmt (x:InsD):Option Nat:=if Qdp x.op then some x.to.toNat else none
def toN (l:List Int):List Nat:=l.map Int.toNat
def Qbts (q:CodeD)(b m:Nat):List Nat:=(((q.blocks[m]?.map BlkD.phis).getD []).map fun p=>(p.args.getD ((Qam (gnx q) (m:Int) q.blocks.length).idxOf (b:Int)) 0).toNat)
def Qw (q:CodeD):Flo where
 n:=q.blocks.length
 nx b:=nxN (gnx q) b
 on b:=match q.blocks[b]? with
  |some y=>if y.jump=1 then []else [y.on.toNat]
  |none=>[]
 ins b:=match q.blocks[b]? with
  |some y=>y.ins.map fun x=>(Qmt x,toN x.args)
  |none=>[]
 ph b:=match q.blocks[b]? with
  |some y=>y.phis.map fun p=>p.to.toNat
  |none=>[]
 ea:=Qbts q
def rIn (q:CodeD)(v:Int):Prop:=0≤v∧v<q.regs
structure BlkD.ok (q:CodeD)(b:Nat)(y:BlkD):Prop where
 nxl:y.next.length≤2
 nx:∀v∈y.next,1≤v∧v<q.blocks.length
 jmp:y.jump=1∨y.jump=2∨y.jump=3
 on:¬y.jump=1→rIn q y.on
 args:∀x∈y.ins,∀v∈x.args,rIn q v
 to:∀x∈y.ins,Qdp x.op=true→rIn q x.to
 pto:∀p∈y.phis,rIn q p.to
 pargs:∀p∈y.phis,∀v∈p.args,rIn q v
 pal:∀p∈y.phis,p.args.length=(Qam (gnx q) (b:Int) q.blocks.length).length
 al:∀x∈y.ins,x.args.length≤3
structure CodeD.ok (q:CodeD):Prop where
 r0:0≤q.regs
 r1:q.regs≤300
 b0:0<q.blocks.length
 b1:q.blocks.length≤160
 bs:∀(b:Nat) (h:b<q.blocks.length),q.blocks[b].ok q b
 il:∀(b:Nat) (h:b<q.blocks.length),q.blocks[b].ins.length≤1200∧q.blocks[b].phis.length≤1200
theorem Qbdl {α:Type}{f:α→Nat}{l:List α}{x:α}(h:x∈l):f x≤Qie f l:=by
 induction l with
 |nil=>simp at h
 |cons y l ih=>
  simp only[Qie,Jr,Jaw]at *;rcases Jt.1 h with rfl|h
  ·omega
  ·have:=ih h;omega
theorem Q93 {cs:List CodeD}(h:Qew cs=true){k:Nat}(hk:k<cs.length):cs[k].ok:=by
 obtain⟨_,h2,h3⟩:=of_decide_eq_true h;obtain⟨g1,g2⟩:=h2 k hk;simp only[Q0p,Jl,decide_eq_true_eq]at g1;refine⟨by omega,by omega,by omega,by omega,fun b hb=>?_,fun b hb=>?_⟩
 ·have g:=g2 b hb;simp only[blkG,Jl]at g;obtain⟨⟨⟨j,nx⟩,ins⟩,ph⟩:=g;simp only[Qsj,Jl,decide_eq_true_eq]at j;obtain⟨j1,j2⟩:=j;rw[Jax]at nx ins ph;have hj:(cs[k].blocks[b].jump=1∨cs[k].blocks[b].jump=2∨cs[k].blocks[b].jump=3)∧cs[k].blocks[b].next.length≤2:=by
   rw[Qp2]at j1;split at j1
   ·omega
   ·split at j1
    ·omega
    ·split at j1 <;> omega
  have hi:∀x∈cs[k].blocks[b].ins,(∀v∈x.args,rIn cs[k] v)∧(Qdp x.op=true→rIn cs[k] x.to):=fun x hx=>by
   have:=ins x hx;simp only[insG,insH,Qsw,Jl,Jax,decide_eq_true_eq,Qai1 hk]at this;obtain⟨⟨⟨_,a1⟩,a2⟩,_⟩:=this;refine⟨fun v hv=>by have:=a1 v hv;exact⟨by omega,by omega⟩,fun hm=>?_⟩;rw[insT,hm,if_pos rfl,decide_eq_true_eq]at a2;exact⟨by omega,by omega⟩
  have hal:∀x∈cs[k].blocks[b].ins,x.args.length≤3:=fun x hx=>by
   have:=ins x hx;simp only[insG,Jl]at this;have h3:=this.2;rw[insL]at h3;split at h3
   ·simp only[Jl,decide_eq_true_eq]at h3;have hn:x.n.toNat<cs.length:=(by omega);have:=(h2 x.n.toNat hn).1;simp only[Q0p,Jl,decide_eq_true_eq]at this;rw[Qaid hn]at h3;omega
   ·simp only[Jl,decide_eq_true_eq]at h3;have:=argsN_in (op:=x.op);omega
  have hp:∀p∈cs[k].blocks[b].phis,rIn cs[k] p.to∧(∀v∈p.args,rIn cs[k] v)∧p.args.length=(Qam (gnx cs[k]) (b:Int) cs[k].blocks.length).length:=fun p hp=>by
   have:=ph p hp;simp only[phiG,Qsw,Jl,Jax,decide_eq_true_eq,Ql]at this;obtain⟨⟨⟨_,a1⟩,a2⟩,a3⟩:=this;have hgn:(fun i=>(cs[k].blocks.map BlkD.next).getD i [])=gnx cs[k]:=rfl;rw[hgn]at a1;exact⟨⟨by omega,by omega⟩,fun v hv=>by have:=a2 v hv;exact⟨by omega,by omega⟩,by omega⟩
  refine⟨hj.2,fun v hv=>?_,hj.1,fun hn=>?_,fun x hx=>(hi x hx).1,fun x hx=>(hi x hx).2,fun p h=>(hp p h).1,fun p h=>(hp p h).2.1,fun p h=>(hp p h).2.2,hal⟩
  ·have:=nx v hv;simp only[Qadc,decide_eq_true_eq,Ql]at this;omega
  ·rw[if_neg hn,decide_eq_true_eq]at j2;exact⟨by omega,by omega⟩
 ·have a1:=Qbdl (f:=Qgp) (Jd hk);have a2:=Qbdl (f:=Qxk) (Jd hb);simp only[Qgp,Qxk]at *;omega
variable {q:CodeD}
theorem Q2j {b:Nat}(h:b<q.blocks.length):(Qw q).on b=if q.blocks[b].jump=1 then []else [q.blocks[b].on.toNat]:=by simp[Qw,h]
theorem Qd8 {b:Nat}(h:b<q.blocks.length):(Qw q).ins b=q.blocks[b].ins.map fun x=>(Qmt x,toN x.args):=by simp[Qw,h]
theorem Qag1 {b:Nat}(h:b<q.blocks.length):(Qw q).ph b=q.blocks[b].phis.map fun p=>p.to.toNat:=by simp[Qw,h]
theorem Q2i {b m:Nat}(h:m<q.blocks.length):(Qw q).ea b m=q.blocks[m].phis.map fun p=>(p.args.getD ((Qam (gnx q) (m:Int) q.blocks.length).idxOf (b:Int)) 0).toNat:=by simp[Qw,Qbts,h]
theorem Qahw {b:Nat}(h:b<q.blocks.length):gnx q b=q.blocks[b].next:=by simp[gnx,Jb,h]
theorem CodeD.ok.next (h:q.ok){b m:Nat}(hb:b<q.blocks.length)(hm:m∈(Qw q).nx b):m<q.blocks.length∧(m:Int)∈gnx q b:=by
 obtain⟨v,hv,rfl⟩:=Jo.1 hm;have hv':=hv;rw[Qahw hb]at hv';have:=(h.bs b hb).nx v hv';refine⟨by omega,?_⟩;have e:((v.toNat:Nat):Int)=v:=by omega
 rw[e];exact hv
theorem CodeD.ok.fitsF (h:q.ok):(Qw q).fits:=fun b hb m hm=>(h.next hb hm).1
theorem CodeD.ok.ix (h:q.ok){b m:Nat}(hb:b<q.blocks.length)(hm:(m:Int)∈gnx q b):(Qam (gnx q) (m:Int) q.blocks.length).idxOf (b:Int)<(Qam (gnx q) (m:Int) q.blocks.length).length:=by
 refine List.idxOf_lt_length_of_mem ?_;simp only[Qam,Jo,J5,Ja5];exact⟨b,⟨hb,Jak.2 hm⟩,rfl⟩
theorem CodeD.ok.bdF (h:q.ok):(Qw q).bd q.regs.toNat:=by
 refine⟨fun b hb r hr=>?_,fun b hb x hx r hr=>?_,fun b hb m hm r hr=>?_⟩
 ·rw[Q2j hb]at hr;split at hr
  ·simp at hr
  ·have:=(h.bs b hb).on ‹_›;simp only[Ja]at hr;obtain⟨a,b⟩:=this;omega
 ·rw[Qd8 hb]at hx;obtain⟨y,hy,rfl⟩:=Jo.1 hx;obtain⟨v,hv,rfl⟩:=Jo.1 hr;obtain⟨a,b⟩:=(h.bs b hb).args y hy v hv;omega
 ·obtain⟨h1,h2⟩:=h.next hb hm;rw[Q2i h1]at hr;obtain⟨p,hp,rfl⟩:=Jo.1 hr;have hix:=h.ix hb h2;have:=(h.bs m h1).pal p hp;have hmem:p.args.getD ((Qam (gnx q) (m:Int) q.blocks.length).idxOf (b:Int)) 0∈p.args:=by
   rw[Jb,Jg (by omega)];exact Jd _
  obtain⟨a,b⟩:=(h.bs m h1).pargs p hp _ hmem;omega
theorem IsIx.idx {ns:List Int}{v r:Int}(h:IsIx ns v r)(hm:v∈ns):r=(ns.idxOf v:Nat):=by
 rcases h with ⟨_,hn⟩|⟨i,rfl,h1,h2,h3⟩
 ·exact absurd hm hn
 ·have h4:ns[i]=v:=by rw[←h2,Jb,Jg h1];rfl
  have h5:ns.idxOf v=i:=by
   have e:ns=ns.take i++ns[i]::ns.drop (i+1):=by rw[←J3 h1,J8]
   rw[e,List.idxOf_append,if_neg h3,h4];simp[Jv];omega
  rw[h5]
def Mem (bs:List Bool)(S:RS'):Prop:=∀r,bs.getD r false=true↔S r
theorem Mem.congr {bs:List Bool}{S T:RS'}(h:Mem bs S)(hST:∀r,S r↔T r):Mem bs T:=fun r=>(h r).trans (hST r)
theorem Qaz8 (S:List Bool)(x y:Nat)(v:Bool):(S.set x v).getD y false=(if y=x∧x<S.length then v else S.getD y false):=by
 simp only[Jb,Jaa];by_cases h:x=y
 ·subst h;by_cases h2:x<S.length <;> simp[h2]
 ·have:¬y=x:=fun e=>h e.symm;simp[h,this]
theorem Mem.ins {bs:List Bool}{S:RS'}(h:Mem bs S){x:Nat}(hx:x<bs.length):Mem (bs.set x true) (fun r=>r=x∨S r):=fun r=>by
 rw[Qaz8];by_cases hr:r=x
 ·simp[hr,hx]
 ·simp only[hr,false_and,if_false,false_or];exact h r
theorem Mem.del {bs:List Bool}{S:RS'}(h:Mem bs S){x:Nat}(hx:x<bs.length):Mem (bs.set x false) (fun r=>S r∧r≠x):=fun r=>by
 rw[Qaz8];by_cases hr:r=x
 ·simp[hr,hx]
 ·simp only[hr,false_and,if_false,ne_eq,not_false_eq_true,and_true];exact h r
theorem Mem.lt {bs:List Bool}{S:RS'}(h:Mem bs S){r:Nat}(hr:S r):r<bs.length:=by
 have:=(h r).2 hr;refine Jar fun hn=>?_;rw[Jb,Jp (by omega)]at this;exact absurd this (by simp)
theorem Mem.none (n:Nat):Mem (List.replicate n false) fun _=>False:=fun r=>by
 rw[Jb,Jah];split <;> simp
end Go.AE.Y
namespace Go.AE.Y
attribute [local go_sem] cond_true cond_false Bool.not_true Bool.not_false
open Go.Proofs.Tryz
variable {H H0:Heap}{K:V→Heap→Prop}{E L:List (Nat×Obj)}
def Q0v (x:InsD):Int:=if Qdp x.op then x.to else -1
theorem Qbh5 {x:InsD}(hK:K (.c (.int .i64 (Q0v x))) H):Qo prog Qsf [.ag x.cells] H K:=by
 refine Qb Qap Qa7c ?_;refine Qa ?_;simp only[go_sem,InsD.cells];refine Q5 ?_;refine Qa ?_;simp only[go_sem];refine Q2u ?_;refine Qh (Qd rfl ?_ ?_)
 ·intro hc;refine Qa ?_;simp only[go_sem];refine Qj ?_;simp only[go_sem,X.next,Q4,Qaa,Q03,Ja,forall_eq,RS.op];rw[Q0v,hc,if_pos rfl]at hK;exact hK
 ·intro hc;refine Qf ?_;try simp only[go_sem]
  refine Qa ?_;simp only[go_sem];refine Qj ?_;simp only[go_sem,Q4,Qaa,Q03,Ja,forall_eq,RS.op];rw[Q0v,hc,if_neg (by simp)]at hK;exact hK
theorem Qbe2 {x:InsD}(hK:K (.c (.int .i64 (Q0v x))) H):Qo prog Qr2 [.ag x.cells] H K:=by
 refine Qb Qap Qa6y ?_;refine Qa ?_;simp only[go_sem,InsD.cells];refine Q5 ?_;refine Qa ?_;simp only[go_sem];refine Qbd2 ?_;simp only[go_sem,Qzf];refine Qh (Qd rfl ?_ ?_)
 ·intro hc;have hc:=Qsm hc;refine Qa ?_;simp only[go_sem];refine Qj ?_;simp only[go_sem,X.next,Q4,Qaa,Q0z,Ja,forall_eq,RS.op];rw[Q0v,hc,if_neg (by simp)]at hK;exact hK
 ·intro hc;have hc:=Qgt hc;refine Qf ?_;try simp only[go_sem]
  refine Qa ?_;simp only[go_sem];refine Qj ?_;simp only[go_sem,Q4,Qaa,Q0z,Ja,forall_eq,RS.op];rw[Q0v,hc,if_pos rfl]at hK;exact hK
theorem Qbd6 {l:List Int}{a:Nat}(h:a<l.length):(toN l).take (a+1)=(toN l).take a++[(l.getD a 0).toNat]:=by
 have h':a<(toN l).length:=by simpa[toN]using h
 rw[Ji h'];simp[toN,Jb,h]
theorem Qsi {l:List Int}{a:Nat}(h:a<l.length):l.getD a 0∈l:=by
 rw[Jb,Jg h];exact Jd h
theorem rIn.nat {q:CodeD}{v:Int}(h:rIn q v):v=(v.toNat:Int)∧v.toNat<q.regs.toNat:=by obtain⟨a,b⟩:=h;omega
structure CodeR (F:Heap)(X:List Nat)(bc:C)(q:CodeD):Prop where
 ow:bc.isOw=false
 s:∀H1:Heap,(∀m,F m≠.none→m∉X→H1 m=F m)→Slc H1 5 (Qm q.blocks) bc
theorem CodeR.sl (F:Heap)(X:List Nat)(fl:Bool)(q:CodeD):CodeR F X (.sl fl 5 (Qm q.blocks)) q:=⟨rfl,fun _ _=>.mk' _ _ _ _⟩
theorem CodeR.rd {F H:Heap}{X:List Nat}{bc:C}{q:CodeD}{E L:List (Nat×Obj)}(h:CodeR F X bc q)(kn:Kn F H E L)(hX:∀x∈E.map Prod.fst,x∈X):Slc H 5 (Qm q.blocks) bc:=
 h.s H fun m hm hx=>kn.chg m hm fun hh=>hx (hX m hh)
theorem CodeR.facts {F H:Heap}{X:List Nat}{bc:C}{q:CodeD}{E L:List (Nat×Obj)}(h:CodeR F X bc q)(kn:Kn F H E L)(hX:∀x∈E.map Prod.fst,x∈X) :
  okSl H bc=True∧lenC bc=q.blocks.length∧bc.elemSz=5∧rowsOf H bc=Qm q.blocks:=
 have s:=h.rd kn hX
 ⟨eq_true s.ok,by rw[s.len,Ql],s.sz,s.rows⟩
theorem CodeR.mid {F H:Heap}{bc:C}{q:CodeD}{L:List (Nat×Obj)}(h:CodeR F [] bc q)(kn:Kn F H [] L):CodeR H (L.map Prod.fst) bc q:=
 ⟨h.ow,fun H1 hh=>h.s H1 fun m hm _=>by
  have h1:=kn.chg m hm (by simp);rw[hh m (by rw[h1];exact hm) fun hx=>?_,h1];obtain⟨p,hp,he⟩:=Jo.1 hx;exact hm (he▸kn.loc p hp)⟩
theorem CodeR.nil {F:Heap}{X:List Nat}{bc:C}{q:CodeD}(h:CodeR F X bc q):CodeR F [] bc q:=⟨h.ow,fun H1 hh=>h.s H1 fun m hm _=>hh m hm (by simp)⟩
theorem CodeR.vsl {F:Heap}{X:List Nat}{q:CodeD}{z:Nat}(hz:F z=.vec 5 (Qm q.blocks))(hX:z∉X):CodeR F X (.vsl z 5 0 q.blocks.length) q:=
 ⟨rfl,fun H1 hh=>by
  have h1:H1 z=.vec 5 (Qm q.blocks):=by rw[hh z (by rw[hz];simp) hX,hz]
  exact⟨by simp only[okSl,h1,Ql];exact⟨trivial,by omega⟩,rfl,by simp only[rowsOf,h1,Ja4];exact Jc (by rw[Ql];exact Jh _),by simp only[lenC,Ql]⟩⟩
set_option maxHeartbeats 2000000 in
theorem Qah1 {q:CodeD}{bc:C}{ic oc cb:C}{orows:List (List C)}{b:Nat}{i:Int}{bs:List Bool}{W:RS'}(ho:q.ok)(hbc:CodeR H [] bc q)(hb:b<q.blocks.length)(hi:-1≤i)(hi2:i<q.blocks[b].ins.length)
  (kn:Kn H0 H E L) (hs:Slc H 1 orows oc) (how:oc.isOw=false) (hiw:ic.isOw=false) (hbl:b<orows.length) (hrow:orows.getD b []=[cb]) (hcb:Slc H 1 (Qs bs) cb) (hcw:cb.isOw=false) (hlen:bs.length=q.regs.toNat) (hm:Mem bs W)
  (hK:∀y bs' H',bs'.length=q.regs.toNat→Mem bs' ((Qw q).beh W b (i+1).toNat)→Kn H0 H' E (L++[(y,.vec 1 (Qs bs'))])→K (.c (.vsl y 1 0 q.regs.toNat)) H') :
  Qo prog Qdl [.ag [.int .i64 q.params,.int .i64 q.regs,bc],.ag [ic,oc],.c (.int .i64 b),.c (.int .i64 i)] H K:=by
 have hr0:=ho.r0;have hr1:=ho.r1;obtain⟨y,hy⟩:∃y,q.blocks[b]=y:=⟨_,rfl⟩;have hyo:y.ok q b:=by rw[←hy];exact ho.bs b hb
 have hil:y.ins.length≤1200∧y.phis.length≤1200:=by rw[←hy];exact ho.il b hb
 rw[hy]at hi2;have hon:(Qw q).on b=if y.jump=1 then []else [y.on.toNat]:=by rw[Q2j hb,hy]
 have hins:(Qw q).ins b=y.ins.map fun x=>(Qmt x,toN x.args):=by rw[Qd8 hb,hy]
 have hok:=eq_true hs.ok;have hol:=hs.len;have hoz:=hs.sz;have hor:=hs.rows;have hok2:=eq_true hcb.ok;have hol2:=hcb.len;have hoz2:=hcb.sz;have hor2:=hcb.rows;refine Qb Qap Qa65 ?_;refine Qa ?_;have hbw:=hbc.ow;simp only[go_sem,how,hiw,hbw];refine Qa ?_;simp only[go_sem,how,hiw,hbw,hcw,hok,hol,hoz,hor,hbl,hrow,hok2,hol2,hoz2,hor2,Q7,hlen,J1,Jy,Jn];refine⟨.inl trivial,Qrz _,by simp only[LIM];omega,fun y9 hy9 H1 h1=>?_⟩;have kn:=kn.al hy9 h1;simp only[go_sem,Qzw,hbw];refine Qa ?_;have hbs:=hbc.s H1 fun m hm _=>by
  have hne:m≠y9:=fun hh=>hm (by rw[hh];exact hy9);rw[h1,Heap.set_other _ _ hne]
 have hbok:=eq_true hbs.ok;have hbln:=hbs.len;have hbsz:=hbs.sz;have hbrw:=hbs.rows;simp only[go_sem,hbw,hbok,hbln,hbsz,hbrw,hb,Ql,Q1 _ _ hb,BlkD.cells,hy];intro x10 hx10 H2 h2;have kn:=kn.al hx10 h2;have hx10:=kn.l (L++[(y9,Obj.vec 1 (Qs bs))]).length (l:=x10) (o:=.st [.sl true 2 [],.sl true 4 [],.int .i64 0,.int .i64 0,.sl true 1 []]) (by simp);simp only[go_sem,Qzx,hx10];intro H3 h3;have kn:Kn H0 H3 E ((L++[(y9,.vec 1 (Qs bs))])++[(x10,Q2f y)]):=by
  have:=kn.stL (L++[(y9,Obj.vec 1 (Qs bs))]).length (x:=x10) (o:=.st [.sl true 2 [],.sl true 4 [],.int .i64 0,.int .i64 0,.sl true 1 []]) (by simp) h3;simpa[Q2f]using this
 have getx:∀{bs1:List Bool} {H4:Heap},Kn H0 H4 E ((L++[(y9,.vec 1 (Qs bs1))])++[(x10,Q2f y)])→H4 x10=.st [.sl false 2 (Qz y.phis),.sl false 4 (Qac y.ins),.int .i64 y.jump,.int .i64 y.on,.sl false 1 (Qe y.next)]∧H4 y9=.vec 1 (Qs bs1):=fun {bs1 H4} kn=>
  ⟨(kn.get (x10,Q2f y) (by simp)).1,(kn.get (y9,.vec 1 (Qs bs1)) (by simp)).1⟩
 have putx:∀{bs1 bs2:List Bool} {H4 H5:Heap},Kn H0 H4 E ((L++[(y9,.vec 1 (Qs bs1))])++[(x10,Q2f y)])→H5=H4.set y9 (.vec 1 (Qs bs2))→Kn H0 H5 E ((L++[(y9,.vec 1 (Qs bs2))])++[(x10,Q2f y)]):=fun {bs1 bs2 H4 H5} kn h=>by
  have:=kn.stL L.length (x:=y9) (o:=.vec 1 (Qs bs1)) (by simp) h;simpa using this
 have htk:∀(bs1:List Bool),bs1.length=q.regs.toNat→(Qs bs1).take q.regs.toNat=Qs bs1:=fun bs1 h=>Jc (by rw[Q7];omega);refine Q5 ?_;refine Qa ?_;obtain⟨hx10,hy9⟩:=getx kn;simp only[go_sem,hx10];refine Qd3 (fun e2 H4=>∃(bs1:List Bool),bs1.length=q.regs.toNat∧Mem bs1 ((Qw q).endS W b)∧Kn H0 H4 E ((L++[(y9,.vec 1 (Qs bs1))])++[(x10,Q2f y)])∧
  lk 3 e2=.c (.int .i64 i)∧lk 9 e2=.c (.vsl y9 1 0 q.regs.toNat)∧lk 10 e2=.c (.ptr x10 0)) ?_ ?_
 ·intro Q hnr _ _;refine Qd rfl ?_ ?_
  ·intro hc;have hj:¬y.jump=1:=by simpa using hc
   obtain⟨hv,hvl⟩:=(hyo.on hj).nat;have hvl':y.on.toNat<bs.length:=by omega
   generalize hr:y.on.toNat=r at *;refine Qr ?_;simp only[go_sem,hx10,hy9,hv,hvl,htk _ hlen,Q7,hlen,Qe9,Qau _ _ hvl',Jn,Jh];intro H4 h4;refine hnr _ _ ⟨_,by rw[Jq];exact hlen,?_,putx kn h4,rfl,rfl,rfl⟩;refine (hm.ins (by omega)).congr fun z=>?_;rw[Flo.endS,hon,if_neg hj];simp[or_comm]
  ·intro hc;have hj:y.jump=1:=by simpa using hc
   refine Qf ?_;try simp only[go_sem]
   refine hnr _ _ ⟨bs,hlen,?_,kn,rfl,rfl,rfl⟩;refine hm.congr fun z=>?_;rw[Flo.endS,hon,if_pos hj];simp
 ·rintro e2 H4 ⟨bs1,hlen,hm,kn,l3,l9,l10⟩;obtain⟨hx10,hy9⟩:=getx kn;refine Q5 ?_;refine Qa ?_;simp only[go_sem,l3,l9,l10,hx10,Q3];intro _;refine⟨Qp (by omega) (by omega),?_⟩;refine Qh (Qc (Qu (fun m e1 H1=>∃(k:Nat) (j:Int) (bs1:List Bool),m=k∧k≤y.ins.length∧i+1≤k∧j=(k:Int)-1∧bs1.length=q.regs.toNat∧Mem bs1 ((Qw q).beh W b k)∧Kn H0 H1 E ((L++[(y9,.vec 1 (Qs bs1))])++[(x10,Q2f y)])∧
   e1=[(3,.c (.int .i64 i)),(9,.c (.vsl y9 1 0 q.regs.toNat)),(10,.c (.ptr x10 0)),(11,.c (.int .i64 j))]) y.ins.length ?_ ?_))
  ·refine⟨y.ins.length,_,bs1,rfl,Jh _,by omega,rfl,hlen,hm.congr fun z=>?_,kn,rfl⟩;rw[Flo.beh_end _ _ _ (by rw[hins,Jw];exact Jh _)]
  ·rintro m e1 H5 ⟨k,j,bs1,rfl,hk,hik,hjk,hlen,hm,kn,rfl⟩;obtain⟨hx10,hy9⟩:=getx kn;refine Q5 ?_;refine Qa ?_;simp only[go_sem];refine Qh (Qd rfl ?_ ?_)
   ·intro hc;have hgt:i<j:=(by simpa using hc);obtain⟨k,rfl⟩:∃k',m=k'+1:=⟨m-1,by omega⟩;have hj:j=(k:Int):=(by omega);subst hj;have hkl:k<y.ins.length:=(by omega);obtain⟨x,hx⟩:∃x,y.ins[k]=x:=⟨_,rfl⟩;have hxm:x∈y.ins:=(by rw[←hx];exact Jd hkl);have hstep:(Qw q).beh W b k=Qbja (Qmt x,toN x.args) ((Qw q).beh W b (k+1)):=by
     rw[Flo.beh_step _ _ _ (by rw[hins,Jw];exact hkl)];simp only[hins,Jbf,hx]
    refine Qf ?_;try simp only[go_sem]
    refine Qd3 (fun e2 H6=>∃(bs2:List Bool),bs2.length=q.regs.toNat∧Mem bs2 ((Qw q).beh W b k)∧Kn H0 H6 E ((L++[(y9,.vec 1 (Qs bs2))])++[(x10,Q2f y)])∧
     lk 3 e2=.c (.int .i64 i)∧lk 9 e2=.c (.vsl y9 1 0 q.regs.toNat)∧lk 10 e2=.c (.ptr x10 0)∧lk 11 e2=.c (.int .i64 k)) ?_ ?_
    ·intro Q hnr _ _;refine Qc ?_;refine Qa ?_;simp only[go_sem,hx10,hkl,Q3,Qa2 _ _ hkl,InsD.take4,InsD.allOw,InsD.len4,hx];refine Qbh5 ?_;simp only[go_sem,Qzy];refine Q5 ?_;refine Qa ?_;simp only[go_sem];refine Qd3 (fun e2 H6=>∃(bs2:List Bool),bs2.length=q.regs.toNat∧Mem bs2 (fun r=>(Qw q).beh W b (k+1) r∧Qmt x≠some r)∧Kn H0 H6 E ((L++[(y9,.vec 1 (Qs bs2))])++[(x10,Q2f y)])∧
      lk 3 e2=.c (.int .i64 i)∧lk 9 e2=.c (.vsl y9 1 0 q.regs.toNat)∧lk 10 e2=.c (.ptr x10 0)∧lk 11 e2=.c (.int .i64 k)) ?_ ?_
     ·intro Q hnr _ _;refine Qd rfl ?_ ?_
      ·intro hc2;have hmk:Qdp x.op=true:=by
        cases hmk:Qdp x.op with
        |true=>rfl
        |false=>simp[Q0v,hmk]at hc2
       obtain⟨hv,hvl⟩:=(hyo.to x hxm hmk).nat;have hvl':x.to.toNat<bs1.length:=(by omega);have hmi:Q0v x=x.to:=(by rw[Q0v,hmk];rfl);have hmo:Qmt x=some x.to.toNat:=(by rw[Qmt,hmk];rfl);rw[hmi];rw[hmo]at hnr;generalize hr:x.to.toNat=r at *;refine Qr ?_;simp only[go_sem,hx10,hy9,hv,hvl,htk _ hlen,Q7,hlen,Qe9,Qau _ _ hvl',Jn,Jh];intro H6 h6;refine hnr _ _ ⟨_,by rw[Jq];exact hlen,?_,putx kn h6,rfl,rfl,rfl,rfl⟩;refine (hm.del (by omega)).congr fun z=>?_;simp[eq_comm]
      ·intro hc2;have hmk:Qdp x.op=false:=by
        cases hmk:Qdp x.op with
        |false=>rfl
        |true=>
         have:=(hyo.to x hxm hmk).1;simp[Q0v,hmk]at hc2;omega
       have hmo:Qmt x=none:=(by rw[Qmt,hmk];rfl);rw[hmo]at hnr;refine Qf ?_;try simp only[go_sem]
       exact hnr _ _ ⟨bs1,hlen,hm.congr fun z=>by simp,kn,rfl,rfl,rfl,rfl⟩
     ·rintro e2 H6 ⟨bs2,hlen,hm,kn,l3,l9,l10,l11⟩;refine Qa ?_;simp only[go_sem,l3,l9,l10,l11];refine Qc (Qu (fun m e1 H1=>∃(a:Nat) (bs2:List Bool),m=x.args.length-a∧a≤x.args.length∧bs2.length=q.regs.toNat∧Mem bs2 (fun r=>r∈(toN x.args).take a∨((Qw q).beh W b (k+1) r∧Qmt x≠some r))∧Kn H0 H1 E ((L++[(y9,.vec 1 (Qs bs2))])++[(x10,Q2f y)])∧
       e1=[(3,.c (.int .i64 i)),(9,.c (.vsl y9 1 0 q.regs.toNat)),(10,.c (.ptr x10 0)),(11,.c (.int .i64 k)),(13,.c (.int .i64 a))]) x.args.length ?_ ?_)
      ·exact⟨0,bs2,by omega,by omega,hlen,hm.congr fun z=>by simp,kn,rfl⟩
      ·rintro m2 e1 H7 ⟨a,bs2,hm2,ha,hlen,hm,kn,rfl⟩;obtain⟨hx10,hy9⟩:=getx kn;refine Q5 ?_;refine Qa ?_;simp only[go_sem,hx10,hkl,Q3,Qa2 _ _ hkl,InsD.cells,hx,Qi];intro hal;simp only[LIM]at hal;refine Qh (Qd rfl ?_ ?_)
       ·intro hc2;have hlt:a<x.args.length:=(by simpa using hc2);obtain⟨hv,hvl⟩:=(hyo.args x hxm _ (Qsi hlt)).nat;have htk2:=Qbd6 hlt;have hvl':(x.args.getD a 0).toNat<bs2.length:=(by omega);generalize hr:(x.args.getD a 0).toNat=r at *;refine Qf ?_;try simp only[go_sem]
        refine Qh (Qc ?_);refine Qr ?_;simp only[go_sem,hx10,hy9,hkl,Q3,Qa2 _ _ hkl,InsD.cells,hx,hlt,Qi,Q9 _ _ hlt,hv,hvl,htk _ hlen,Q7,hlen,Qe9,Qau _ _ hvl',Jn,Jh];intro H8 h8;refine Qr ?_;simp only[go_sem,X.next];refine⟨Qp (by omega) (by omega),x.args.length-(a+1),by omega,a+1,_,rfl,by omega,by rw[Jq];exact hlen,?_,putx kn h8,rfl⟩;refine (hm.ins (by omega)).congr fun z=>?_;rw[htk2];simp only[Je,Ja];constructor
        ·rintro (h|h|h)
         ·exact .inl (.inr h)
         ·exact .inl (.inl h)
         ·exact .inr h
        ·rintro ((h|h)|h)
         ·exact .inr (.inl h)
         ·exact .inl h
         ·exact .inr (.inr h)
       ·intro hc2;have hge:x.args.length≤a:=(by simpa using hc2);refine Qv ?_;simp only[go_sem,X.next];refine hnr _ _ ⟨bs2,hlen,hm.congr fun z=>?_,kn,rfl,rfl,rfl,rfl⟩;rw[hstep,Jc (by simpa[toN]using hge)];rfl
    ·rintro e2 H6 ⟨bs2,hlen,hm,kn,l3,l9,l10,l11⟩;refine Qr ?_;simp only[go_sem,X.next,l3,l9,l10,l11];exact⟨Qp (by omega) (by omega),k,by omega,k,(k:Int)-1,bs2,rfl,by omega,by omega,rfl,hlen,hm,kn,rfl⟩
   ·intro hc;have hle:¬i<j:=(by simpa using hc);refine Qv ?_;simp only[go_sem,X.next];refine Qa ?_;simp only[go_sem];refine Qj ?_;simp only[go_sem,Q4,Qaa,Qaio,Ja,forall_eq,RS.op];have e1:(i+1).toNat=m:=(by omega);exact hK y9 bs1 H5 hlen (by rw[e1];exact hm) kn.drop
theorem Qah0 {q:CodeD}{fl:Bool}{ic oc cb:C}{orows:List (List C)}{b:Nat}{i:Int}{bs:List Bool}{W:RS'}(ho:q.ok)(hb:b<q.blocks.length)(hi:-1≤i)(hi2:i<q.blocks[b].ins.length)
  (kn:Kn H0 H E L) (hs:Slc H 1 orows oc) (how:oc.isOw=false) (hiw:ic.isOw=false) (hbl:b<orows.length) (hrow:orows.getD b []=[cb]) (hcb:Slc H 1 (Qs bs) cb) (hcw:cb.isOw=false) (hlen:bs.length=q.regs.toNat) (hm:Mem bs W)
  (hK:∀y bs' H',bs'.length=q.regs.toNat→Mem bs' ((Qw q).beh W b (i+1).toNat)→Kn H0 H' E (L++[(y,.vec 1 (Qs bs'))])→K (.c (.vsl y 1 0 q.regs.toNat)) H') :
  Qo prog Qdl [.ag [.int .i64 q.params,.int .i64 q.regs,.sl fl 5 (Qm q.blocks)],.ag [ic,oc],.c (.int .i64 b),.c (.int .i64 i)] H K:=
 Qah1 ho (.sl _ _ _ _) hb hi hi2 kn hs how hiw hbl hrow hcb hcw hlen hm hK
end Go.AE.Y
namespace Go.AE.Y
attribute [local instance] Classical.propDecidable
structure Wk (g:Nat→List Nat)(a:Int)(n:Nat)(S:List Bool)(T:List Nat):Prop where
 len:S.length=n
 s:∀x,S.getD x false=true→Rch g (fun z=>(z:Int)=a) 0 x
 t:∀x∈T,(x:Int)≠a→Rch g (fun z=>(z:Int)=a) 0 x
 c:∀x,S.getD x false=true→∀y∈g x,S.getD y false=true∨(y:Int)=a∨y∈T
 z:S.getD 0 false=true∨((0:Nat):Int)=a∨0∈T
 r:∀x∈T,x<n
variable {g:Nat→List Nat}{a:Int}{n:Nat}{S:List Bool}{T:List Nat}{b:Nat}
theorem Qze (n x:Nat):(List.replicate n false).getD x false=false:=by
 simp only[Jb,Jah];split <;> rfl
theorem Wk.init (hn:0<n):Wk g a n (List.replicate n false) [0]:=by
 refine⟨by simp,fun x h=>?_,fun x hx ha=>?_,fun x h=>?_,.inr (.inr (by simp)),fun x hx=>?_⟩
 ·rw[Qze]at h;simp at h
 ·simp at hx;subst hx;exact .refl (by simpa using ha)
 ·rw[Qze]at h;simp at h
 ·simp at hx;omega
theorem Wk.skip (h:Wk g a n S (T++[b]))(hb:(b:Int)=a∨S.getD b false=true):Wk g a n S T:=by
 refine⟨h.len,h.s,fun x hx=>h.t x (Jf _ hx),fun x hx y hy=>?_,?_,fun x hx=>h.r x (Jf _ hx)⟩
 ·rcases h.c x hx y hy with h1|h1|h1
  ·exact .inl h1
  ·exact .inr (.inl h1)
  ·rcases Je.1 h1 with h1|h1
   ·exact .inr (.inr h1)
   ·simp at h1;subst h1;rcases hb with hb|hb
    ·exact .inr (.inl hb)
    ·exact .inl hb
 ·rcases h.z with h1|h1|h1
  ·exact .inl h1
  ·exact .inr (.inl h1)
  ·rcases Je.1 h1 with h1|h1
   ·exact .inr (.inr h1)
   ·simp at h1;subst h1;rcases hb with hb|hb
    ·exact .inr (.inl hb)
    ·exact .inl hb
theorem Wk.go (h:Wk g a n S (T++[b]))(hba:(b:Int)≠a)(hg:∀y∈g b,y<n):Wk g a n (S.set b true) (T++g b):=by
 have hb:=h.t b (by simp) hba;have hbn:=h.r b (by simp);have hset:∀y,(S.set b true).getD y false=true↔y=b∨S.getD y false=true:=by
  intro y;rw[Qag2];by_cases hyx:y=b
  ·simp[hyx,h.len,hbn]
  ·simp[hyx]
 refine⟨by simp[h.len],fun x hx=>?_,fun x hx ha=>?_,fun x hx y hy=>?_,?_,fun x hx=>?_⟩
 ·rcases (hset x).1 hx with rfl|hx
  ·exact hb
  ·exact h.s x hx
 ·rcases Je.1 hx with hx|hx
  ·exact h.t x (Jf _ hx) ha
  ·exact hb.step hx ha
 ·rcases (hset x).1 hx with rfl|hx
  ·exact .inr (.inr (Jk _ hy))
  ·rcases h.c x hx y hy with h1|h1|h1
   ·exact .inl ((hset y).2 (.inr h1))
   ·exact .inr (.inl h1)
   ·rcases Je.1 h1 with h1|h1
    ·exact .inr (.inr (Jf _ h1))
    ·simp at h1;subst h1;exact .inl ((hset y).2 (.inl rfl))
 ·rcases h.z with h1|h1|h1
  ·exact .inl ((hset 0).2 (.inr h1))
  ·exact .inr (.inl h1)
  ·rcases Je.1 h1 with h1|h1
   ·exact .inr (.inr (Jf _ h1))
   ·simp at h1;exact .inl ((hset 0).2 (.inl h1))
 ·rcases Je.1 hx with hx|hx
  ·exact h.r x (Jf _ hx)
  ·exact hg x hx
theorem Wk.fin (h:Wk g a n S []):S=(List.range n).map (rchB g a):=by
 have hh:∀x,S.getD x false=true↔Rch g (fun z=>(z:Int)=a) 0 x:=by
  refine fun x=>⟨h.s x,fun hr=>?_⟩
  induction hr with
  |refl h0=>
   rcases h.z with h1|h1|h1
   ·exact h1
   ·exact absurd h1 h0
   ·simp at h1
  |step h1 h2 h3 ih=>
   rcases h.c _ ih _ h2 with h4|h4|h4
   ·exact h4
   ·exact absurd h4 h3
   ·simp at h4
 refine Jaj fun x=>?_;by_cases hx:x<n
 ·have hxs:x<S.length:=by rw[h.len];exact hx
  have:=hh x;simp only[Jb,Jg hxs,Jbh]at this;rw[Jg hxs];simp only[J9,List.getElem?_range hx,Jao,rchB];congr 1;by_cases hr:Rch g (fun z=>(z:Int)=a) 0 x
  ·rw[this.2 hr,decide_eq_true hr]
  ·rw[decide_eq_false hr]
   cases hv:S[x]with
   |false=>rfl
   |true=>exact absurd (this.1 hv) hr
 ·rw[Jp (by rw[h.len];omega),Jp (by simp;omega)]
end Go.AE.Y
namespace Go.AE.Y
open Go.Proofs.Tryz
variable {H H0:Heap}{K:V→Heap→Prop}
theorem Qj3 (n:Nat):List.replicate n [C.bool false]=Qs (List.replicate n false):=by simp[Qs]
theorem Qbfo (a b:List Nat):Qc6 (a++b)=Qc6 a++Qc6 b:=by simp[Qc6,Qe]
end Go.AE.Y
namespace Go.AE
variable {H0 F H:Heap}{E E0 E' L L1 L2 M:List (Nat×Obj)}
theorem Kn.startE (h:∀p∈E,H p.1=p.2∧p.2≠.none)(hd:(E.map Prod.fst).Nodup):Kn H H E []:=
 ⟨by simpa using h,fun p hp=>by rw[(h p hp).1];exact (h p hp).2,by simp,hd,by simp,fun _ _ _=>rfl⟩
theorem Kn.mid (k:Kn H0 F E0 (L1++L2)):Kn F F L1 []:=
 .startE (fun p hp=>k.get p (Jk _ (Jf _ hp))) (by
  have:=k.dL;rw[Jx]at this;exact (J6.1 this).1)
theorem Kn.comp (k1:Kn H0 F E0 (L1++L2))(k2:Kn F H E' M)(hE:E'.map Prod.fst=L1.map Prod.fst):Kn H0 H E0 ((E'++L2)++M):=by
 have hd:=k1.dL;rw[Jx]at hd;obtain⟨d1,d2,d3⟩:=J6.1 hd;have hE0:∀p∈E0,F p.1=p.2∧p.2≠.none:=fun p hp=>k1.get p (Jf _ hp);have hL2:∀p∈L2,F p.1=p.2∧p.2≠.none:=fun p hp=>k1.get p (Jk _ (Jk _ hp));have inL1:∀p∈E',∃q∈L1,q.1=p.1:=fun p hp=>by
  have:=Qah hp;rw[hE]at this;obtain⟨q,h1,h2⟩:=Jo.1 this;exact⟨q,h1,h2⟩
 have keep:∀m,F m≠.none→m∉L1.map Prod.fst→H m=F m:=fun m h1 h2=>k2.chg m h1 (by rw[hE];exact h2);have hE0L:∀p∈E0,∀q∈L1,p.1≠q.1:=fun p hp q hq hh=>k1.ext p hp (hh▸k1.loc q (Jf _ hq));refine⟨fun p hp=>?_,k1.ext,fun p hp=>?_,k1.dE,?_,fun m hm hn=>?_⟩
 ·rcases Je.1 hp with hp|hp
  ·obtain⟨h1,h2⟩:=hE0 p hp;refine⟨?_,h2⟩;rw[keep p.1 (by rw[h1];exact h2) (fun hh=>?_),h1];obtain⟨q,hq,hqq⟩:=Jo.1 hh;exact hE0L p hp q hq hqq.symm
  ·rcases Je.1 hp with hp|hp
   ·rcases Je.1 hp with hp|hp
    ·exact k2.get p (Jf _ hp)
    ·obtain⟨h1,h2⟩:=hL2 p hp;refine⟨?_,h2⟩;rw[keep p.1 (by rw[h1];exact h2) (fun hh=>?_),h1];exact d3 _ hh _ (Qah hp) rfl
   ·exact k2.get p (Jk _ hp)
 ·rcases Je.1 hp with hp|hp
  ·rcases Je.1 hp with hp|hp
   ·obtain⟨q,hq,hh⟩:=inL1 p hp;rw[←hh];exact k1.loc q (Jf _ hq)
   ·exact k1.loc p (Jk _ hp)
  ·have h1:=k2.loc p hp
   cases h0:H0 p.1 with
   |none=>rfl
   |_=>
    by_cases hx:p.1∈E0.map Prod.fst
    ·obtain⟨q,hq,hh⟩:=Jo.1 hx;obtain⟨a1,a2⟩:=hE0 q hq;rw[hh,h1]at a1;exact absurd a1.symm a2
    ·have:=k1.chg p.1 (by rw[h0];simp) hx;rw[h1,h0]at this;simp at this
 ·rw[Jx,Jx];refine J6.2 ⟨J6.2 ⟨k2.dE,d2,fun a ha b hb=>?_⟩,k2.dL,fun a ha b hb hab=>?_⟩
  ·rw[hE]at ha;exact d3 a ha b hb
  ·obtain⟨q,hq,rfl⟩:=Jo.1 hb;have hf:=k2.loc q hq;rcases Je.1 ha with ha|ha
   ·obtain⟨r,hr,rfl⟩:=Jo.1 ha;exact k2.ext r hr (hab▸hf)
   ·obtain⟨r,hr,rfl⟩:=Jo.1 ha;obtain⟨a1,a2⟩:=hL2 r hr;rw[hab,hf]at a1;exact a2 a1.symm
 ·rw[keep m (by rw[k1.chg m hm hn];exact hm) (fun hh=>?_),k1.chg m hm hn];obtain⟨q,hq,rfl⟩:=Jo.1 hh;exact hm (k1.loc q (Jf _ hq))
theorem Kn.upd (k:Kn H0 H E L):Upd H0 H E:=⟨fun p hp=>(k.get p (Jf _ hp)).1,fun m hm hn=>k.chg m hm hn⟩
theorem Y.FrzL.ptr {S:Nat→Bool}{l:Nat}{cells cells':List C}(hS:S l=true)(hH:H l=.st cells)(h:FrzL H S cells cells'):FrzC H S (.ptr l 0) (.pp cells'):=by
 obtain⟨h1,h2⟩:=h.spec;exact .ptr l 0 cells cells cells' hS hH rfl h1 h2
theorem Kn.growR {B Lg:List (Nat×Obj)}{K:V→Heap→Prop}{sz:Nat}{rows new:List (List C)}{b c:C}(kn:Kn H0 H E (B++Lg))(hc:Gr Lg sz rows c)(hb:Slc H sz new b)
  (h1:∀r∈new,noOw r=true) (h2:rows.length+new.length≤LIM)
  (h:∀t Lg' H',Gr Lg' sz (rows++new) t→t.isOw=false→Kn H0 H' E (B++Lg')→K (.c t) H'):appQ H sz c b K:=
 kn.grow hc hb h1 h2 fun y' H' k=>h _ _ H' (.mk y' sz _ (by simp)) rfl k
end Go.AE
namespace Go.AE.Y
open Go.Proofs.Tryz
variable {H H0:Heap}{K:V→Heap→Prop}
def Qbta (x3 x4 x5:Nat)(p rg:Int)(bc:C):List C:=[.ptr x4 0,.pp [.int .i64 p,.int .i64 rg,bc],.ptr x5 0,.ptr x3 0]
def visE (x3 x4 x5 y n:Nat)(p rg:Int)(bc:C)(S:List Bool)(oc:C):List (Nat×Obj):=
 [(y,.vec 1 (Qs S)),(x3,.st [oc]),(x4,.st [.vsl y 1 0 n]),(x5,.st [.fn Qahj (Qbta x3 x4 x5 p rg bc)])]
end Go.AE.Y
namespace Go.AE.Y
variable {ns:List Int}{n:Int}{at':Nat}
structure InsAt (ns:List Int)(n:Int)(k:Nat):Prop where
 le:k≤ns.length
 lo:∀i,i<k→∀(h:i<ns.length),ns[i]<n
 hi:∀(h:k<ns.length),n≤ns[k]
theorem InsAt.mem_of_asc {k:Nat}(h:InsAt ns n k)(ha:ns.Pairwise (· < ·)):(∀x∈ns.take k,x<n)∧(∀x∈ns.drop k,n≤x)∧(∀x∈ns.drop (k+1),n<x):=by
 have hp:=J4.1 ha;refine⟨fun x hx=>?_,fun x hx=>?_,fun x hx=>?_⟩
 ·obtain⟨i,hi,rfl⟩:=J0.1 hx;rw[Jab];rw[Jv]at hi;exact h.lo i (by omega) (by omega)
 ·obtain⟨i,hi,rfl⟩:=J0.1 hx;rw[Jbc];rw[Jay]at hi;have h1:=h.hi (by omega);by_cases h0:i=0
  ·subst h0;exact h1
  ·have:=hp k (k+i) (by omega) (by omega) (by omega);exact Int.le_trans h1 (Int.le_of_lt this)
 ·obtain⟨i,hi,rfl⟩:=J0.1 hx;rw[Jbc];rw[Jay]at hi;have h1:=h.hi (by omega);have:=hp k (k+1+i) (by omega) (by omega) (by omega);exact Int.lt_of_le_of_lt h1 this
theorem InsAt.new {k:Nat}(h:InsAt ns n k)(ha:ns.Pairwise (· < ·))(hn:∀(h:k<ns.length),ns[k]≠n) :
  (ns.take k++[n]++ns.drop k).Pairwise (· < ·)∧(∀x,x∈ns.take k++[n]++ns.drop k↔x=n∨x∈ns):=by
 obtain⟨h1,h2,h3⟩:=h.mem_of_asc ha;have h4:∀x∈ns.drop k,n<x:=by
  intro x hx;have hk:k<ns.length:=by
   rcases Jbd k ns.length with h|h
   ·exact h
   ·rw[List.drop_eq_nil_of_le h]at hx;simp at hx
  rw[J3 hk]at hx;rcases Jt.1 hx with rfl|hx
  ·have:=h.hi hk;have:=hn hk;omega
  ·exact h3 x hx
 refine⟨?_,fun x=>?_⟩
 ·rw[Jas,Ja3];refine⟨ha.sublist (List.take_sublist _ _),?_,fun a ha' b hb=>?_⟩
  ·rw[List.singleton_append,Ja9];exact⟨h4,ha.sublist (List.drop_sublist _ _)⟩
  ·have:=h1 a ha';rcases Je.1 hb with hb|hb
   ·simp at hb;subst hb;exact this
   ·have:=h2 b hb;omega
 ·conv=>rhs;rw[←J8 k ns]
  simp only[Je,Ja];constructor
  ·rintro ((h|h)|h)
   ·exact .inr (.inl h)
   ·exact .inl h
   ·exact .inr (.inr h)
  ·rintro (h|h|h)
   ·exact .inl (.inr h)
   ·exact .inl (.inl h)
   ·exact .inr h
end Go.AE.Y
namespace Go.AE.Y
open Go.Proofs.Tryz
variable {H H0:Heap}{K:V→Heap→Prop}
theorem Qbjk {c:C}{ns:List Int}{v:Int}(hs:Slc H 1 (Qe ns) c)(how:c.isOw=false)(hK:∀r,IsIx ns v r→K (.c (.int .i64 r)) H) :
  Qo prog Q2l [.c c,.c (.int .i64 v)] H K:=by
 refine Qb Qap Qbsc ?_;have hok:=eq_true hs.ok;have hlen:=hs.len;have hsz:=hs.sz;have hrw:=hs.rows;refine Qa ?_;simp only[go_sem,how];refine Q5 ?_;refine Qa ?_;simp only[go_sem,how];refine Qh (Qc (Qu (fun m e1 H1=>∃(i:Nat),m=ns.length-i∧i≤ns.length∧H1=H∧v∉ns.take i∧e1=[(0,.c c),(1,.c (.int .i64 v)),(5,.c (.int .i64 i))]) ns.length ?_ ?_))
 ·exact⟨0,by omega,by omega,rfl,by simp,rfl⟩
 ·rintro m e1 H1 ⟨i,hm,hi,rfl,hno,rfl⟩;refine Q5 ?_;refine Qa ?_;simp only[go_sem,how,hok,hlen,Qi];intro hl;simp only[LIM]at hl;refine Qh (Qd rfl ?_ ?_)
  ·intro hc;have hlt:i<ns.length:=by simpa using hc
   have hgd:ns.getD i 0=ns[i]:=by simp[Jb,hlt]
   refine Qf ?_;simp only[go_sem];refine Qh (Qc ?_);refine Qa ?_;simp only[go_sem,how,hok,hlen,hsz,hrw,hlt,Qi,Q9 _ _ hlt];refine Qd rfl ?_ ?_
   ·intro hc2;have hv:ns.getD i 0=v:=(by simpa using hc2);refine Qa ?_;simp only[go_sem];refine Qj ?_;simp only[go_sem,X.next,Q4,Qaa,Qa7i,Ja,forall_eq,RS.op];exact hK _ (.inr ⟨i,rfl,hlt,hv,hno⟩)
   ·intro hc2;have hv:¬ns.getD i 0=v:=(by simpa using hc2);refine Qf ?_;simp only[go_sem];refine Qr ?_;simp only[go_sem,how,X.next];refine⟨Qp (by omega) (by omega),ns.length-(i+1),by omega,i+1,rfl,by omega,?_,rfl⟩;rw[Ji hlt];simp only[Je,Ja,not_or];exact⟨hno,fun h=>hv (by rw[hgd];exact h.symm)⟩
  ·intro hc;have hge:ns.length≤i:=by simpa using hc
   rw[Jc hge]at hno;refine Qv ?_;simp only[go_sem,X.next];refine Qa ?_;simp only[go_sem];refine Qj ?_;simp only[go_sem,Q4,Qaa,Qa7i,Ja,forall_eq,RS.op];exact hK _ (.inl ⟨rfl,hno⟩)
end Go.AE.Y
namespace Go.AE.Y
attribute [local instance] Classical.propDecidable
variable {g:Nat→List Nat}{n h:Nat}
theorem Qbra {a b:Nat}(h:domB g a b=true):rchB g (-1) a=true∧rchB g (-1) b=true:=by
 simp only[domB,Jl]at h;exact⟨h.1.1,h.1.2⟩
structure BWk (n:Nat)(g:Nat→List Nat)(h:Nat)(O W:List Nat):Prop where
 asc:O.Pairwise (· < ·)
 o:∀x∈O,Bdy n g h x
 w:∀x∈W,rchB g (-1) x=true→Bdy n g h x
 c:∀x∈O,x≠h→∀p∈Qaw6 n g x,rchB g (-1) p=true→p∈O∨p∈W
 l:∀p∈Qaw6 n g h,domB g h p=true→p∈O∨p∈W
 h:h∈O
 r:∀x∈W,x<n
variable {O W:List Nat}{b:Nat}
theorem BWk.init:BWk n g h [h] ((Qaw6 n g h).filter (domB g h)):=by
 refine⟨by simp,fun x hx=>?_,fun x hx _=>?_,fun x hx hne=>?_,fun p hp hd=>.inr (J5.2 ⟨hp,hd⟩),by simp,fun x hx=>(predL_mem.1 (J5.1 hx).1).1⟩
 ·simp at hx;subst hx;exact .head
 ·exact .back (J5.1 hx).1 (J5.1 hx).2
 ·simp at hx;exact absurd hx hne
theorem BWk.skip (k:BWk n g h O (b::W))(hb:b∈O∨rchB g (-1) b=false):BWk n g h O W:=by
 refine⟨k.asc,k.o,fun x hx=>k.w x (Jj _ hx),fun x hx hne p hp hi=>?_,fun p hp hd=>?_,k.h,fun x hx=>k.r x (Jj _ hx)⟩
 ·rcases k.c x hx hne p hp hi with h1|h1
  ·exact .inl h1
  ·rcases Jt.1 h1 with rfl|h1
   ·rcases hb with hb|hb
    ·exact .inl hb
    ·rw[hb]at hi;simp at hi
   ·exact .inr h1
 ·rcases k.l p hp hd with h1|h1
  ·exact .inl h1
  ·rcases Jt.1 h1 with rfl|h1
   ·rcases hb with hb|hb
    ·exact .inl hb
    ·rw[(Qbra hd).2]at hb;simp at hb
   ·exact .inr h1
theorem BWk.go {O':List Nat}(k:BWk n g h O (b::W))(hbO:b∉O)(hi:rchB g (-1) b=true)(h1:O'.Pairwise (· < ·))(h2:∀x,x∈O'↔x=b∨x∈O):BWk n g h O' (W++Qaw6 n g b):=by
 have hB:=k.w b Jm hi;have hbh:b≠h:=fun e=>hbO (e▸k.h);refine⟨h1,fun x hx=>?_,fun x hx hix=>?_,fun x hx hne p hp hip=>?_,fun p hp hd=>?_,(h2 h).2 (.inr k.h),fun x hx=>?_⟩
 ·rcases (h2 x).1 hx with rfl|hx
  ·exact hB
  ·exact k.o x hx
 ·rcases Je.1 hx with hx|hx
  ·exact k.w x (Jj _ hx) hix
  ·exact .more hB hbh hx hix
 ·rcases (h2 x).1 hx with rfl|hx
  ·exact .inr (Jk _ hp)
  ·rcases k.c x hx hne p hp hip with h3|h3
   ·exact .inl ((h2 p).2 (.inr h3))
   ·rcases Jt.1 h3 with rfl|h3
    ·exact .inl ((h2 p).2 (.inl rfl))
    ·exact .inr (Jf _ h3)
 ·rcases k.l p hp hd with h3|h3
  ·exact .inl ((h2 p).2 (.inr h3))
  ·rcases Jt.1 h3 with rfl|h3
   ·exact .inl ((h2 p).2 (.inl rfl))
   ·exact .inr (Jf _ h3)
 ·rcases Je.1 hx with hx|hx
  ·exact k.r x (Jj _ hx)
  ·exact (predL_mem.1 hx).1
theorem BWk.fin (hh:h<n)(k:BWk n g h O []):O=Qbim n g h:=by
 refine Qbie k.asc Qbin fun x=>?_;rw[Qbio hh];refine⟨k.o x,fun hb=>?_⟩
 induction hb with
 |head=>exact k.h
 |back h1 h2=>exact (k.l _ h1 h2).resolve_right (by simp)
 |more h1 h2 h3 h4 ih=>exact (k.c _ ih h2 _ h3 h4).resolve_right (by simp)
theorem BWk.len (k:BWk n g h O W)(hh:h<n):O.length≤n:=by
 have e:=Qbif (n:=n) (p:=fun x=>decide (x∈O)) k.asc fun x=>⟨fun hx=>⟨(k.o x hx).lt hh,by simpa using hx⟩,fun hx=>by simpa using hx.2⟩;have:=Ja2 (fun x=>decide (x∈O)) (List.range n);rw[←e]at this;simpa using this
end Go.AE.Y
namespace Go.AE.Y
open Go.Proofs.Tryz
variable {H H0:Heap}{K:V→Heap→Prop}
structure GF (rows:List (List C))(nx:Nat→List Int):Prop where
 no:∀r∈rows,noOw r=true
 x:∀i,i<rows.length→∃a1 a2 a3 a4 fl,rows.getD i []=[a1,a2,a3,a4,.sl fl 1 (Qe (nx i))]
 n:rows.length≤10000
 m:∀i,i<rows.length→(nx i).length≤1000
noncomputable def inL (n:Nat)(g:Nat→List Nat):List Bool:=(List.range n).map (rchB g (-1))
noncomputable def Qbqn (n:Nat)(g:Nat→List Nat)(a:Nat):List Bool:=(List.range n).map (domB g a)
noncomputable def ovOf (n:Nat)(g:Nat→List Nat)(k:Nat):List (List C):=(List.range k).map fun a=>[.sl false 1 (Qs (Qbqn n g a))]
noncomputable def domC (p rg:Int)(fl:Bool)(rows:List (List C))(g:Nat→List Nat):List C:=
 [.int .i64 p,.int .i64 rg,.sl fl 5 rows,.sl false 1 (ovOf rows.length g rows.length),.sl false 1 (Qs (inL rows.length g))]
noncomputable def ysL (n:Nat)(g:Nat→List Nat)(ys:List Nat):List (Nat×Obj):=ys.zipIdx.map fun x=>(x.1,.vec 1 (Qs (Qbqn n g x.2)))
def ysR (n:Nat)(ys:List Nat):List (List C):=ys.map fun y=>[.vsl y 1 0 n]
end Go.AE.Y
namespace Go.AE.Y
variable {P:Program}{H:Heap}{g:G}{w:World}
theorem Qbqe (hs:Sat H g w)(os:Array Go.Obj):∃g',Stp H g w H g' (Go.Sort.grow w os):=by
 obtain⟨l⟩:=os
 induction l generalizing g w with
 |nil=>exact⟨g,by rw[Go.Sort.grow_empty];exact .refl hs⟩
 |cons x l ih=>
  have h1:=Q92 hs x;obtain⟨g',h2⟩:=ih h1.sat;refine⟨g',?_⟩;have e:Go.Sort.grow w ⟨x::l⟩=Go.Sort.grow (w.alloc x) ⟨l⟩:=by
   rw[Go.Sort.alloc_eq_grow,Go.Sort.grow_grow];congr 1;simp
  rw[e];exact h1.trans h2
theorem Qbky {b off:Nat}{cs:Array Value}{T:TypeId}{d:Array Int}(h:w.heap[b]? = some (.cells cs T (0,0))) :
  Go.Sort.putRow (Value.int .i64) w b off d=World.putCells w b (Go.Sort.putCells (Value.int .i64) off d cs) T:=by
 simp only[Go.Sort.putRow,Go.Sort.mapBlock,World.putCells];congr 1;apply Array.ext_getElem?;intro i;simp only[Array.getElem?_modify];by_cases hi:b=i
 ·subst hi;have hlt:b<w.heap.size:=Qmc h;rw[if_pos rfl,h];simp[hlt,Go.Sort.onCells]
 ·rw[if_neg hi,Array.getElem?_setIfInBounds_ne hi]
theorem Qbee {f:Nat}(hf:fnOk P f=true)
  (hc:∀(blk off cap:Nat) (zs:List Int) (w:World),Go.Sort.Holds (Value.int .i64) w blk off zs.toArray→blk<w.heap.size→zs.length<4611686018427387904→
   Calls P f #[.slice (some ⟨blk,off,none⟩) zs.length cap] w fun e w'=>
    e=.returned (.tuple #[])∧∃n os,w'=Go.Sort.grow (Go.Sort.putRow (Value.int .i64) (Go.Sort.ahead w n) blk off (zs.mergeSort fun x y=>decide (x≤y)).toArray) os)
  {z n:Nat} {ns:List Int} {K:V→Heap→Prop} (hz:H z=.vec 1 (Qe ns)) (hn:n=ns.length) (h0:0<n)
  (hK:∀H',Upd H H' [(z,.vec 1 (Qe (ns.mergeSort fun x y=>decide (x≤y))))]→K (.tup []) H'):Qo P f [.c (.vsl z 1 0 n)] H K:=by
 refine⟨hf,fun g w vs hs hl hv=>?_⟩;obtain⟨v,rfl⟩:∃v,vs=[v]:=by
  match vs,hl with
  |[v],_=>exact⟨v,rfl⟩
 have hr:=hv 0 _ v rfl rfl;have ho:=hs.objs z;rw[hz]at ho
 cases hr with
 |c _ _ hr=>
  cases hr with
  |vslnil=>omega
  |vsl l sz st n cap b base T m hio hnc hsh hm=>
   obtain⟨b',base',T',cs,val,hio',hown,hblk,hsz,hlim,hrow,hcell,hrep⟩:=SatVec.of ho hio;rw[hio]at hio';simp only[Jau,Jbb,true_and]at hio';obtain⟨rfl,rfl⟩:=hio';have hlt:=Qmc hblk;rw[Qi]at hsz hlim;have hel:∀j (hj:j<ns.length),cs[base+j]? = some (.int .i64 ns[j]):=by
    intro j hj;have h1:(Qe ns)[j]? = some [.int .i64 ns[j]]:=(by simp[Qe,hj]);have h2:=hcell j _ 0 _ h1 rfl;have h3:=hrep j _ 0 _ h1 rfl;have h4:val j 0=.int .i64 ns[j]:=by
     exact (fun vv (h:RepC w g (.int .i64 ns[j]) vv)=>by cases h;rfl:∀vv,RepC w g (.int .i64 ns[j]) vv→vv=.int .i64 ns[j]) _ (h3.toC rfl)
    simpa[h4]using h2
   have hH:Go.Sort.Holds (Value.int .i64) w b base ns.toArray:=by
    intro j hj;have hj':j<ns.length:=(by simpa using hj);refine⟨?_,?_⟩
    ·rw[Qcc hblk,hel j hj'];simp[getElem!_pos,hj']
    ·simp[World.frozen?,hblk]
   subst hn;simp only[Nat.zero_mul,Jbp];refine (hc b base cap ns w hH hlt (by simp only[LIM]at hlim;omega)).mono fun e w'=>?_;rintro⟨rfl,nn,os,rfl⟩;have s1:Stp H g w H g (Go.Sort.ahead w nn):=Qa5z hs (w.drawn+nn);have hblk1:(Go.Sort.ahead w nn).heap[b]? = some (.cells cs T' (0,0)):=hblk;have hel2:∀i (c:C),((Qe (ns.mergeSort fun x y=>decide (x≤y)))[i]? = some [c])→∃x:Int,c=.int .i64 x∧(Go.Sort.putCells (Value.int .i64) base (ns.mergeSort fun x y=>decide (x≤y)).toArray cs)[base+i]? = some (.int .i64 x):=by
    intro i c hi;have hlen:(ns.mergeSort fun x y=>decide (x≤y)).length=ns.length:=List.length_mergeSort _;have hil:i<(ns.mergeSort fun x y=>decide (x≤y)).length:=by
     rcases Jbd i (ns.mergeSort fun x y=>decide (x≤y)).length with h|h
     ·exact h
     ·rw[Jp (by rw[Qi];exact h)]at hi;simp at hi
    refine⟨(ns.mergeSort fun x y=>decide (x≤y))[i],?_,?_⟩
    ·simp only[Qe,J9,Jg hil,Jao,Jau,List.cons.injEq,and_true]at hi;exact hi.symm
    ·simp only[Go.Sort.putCells,Array.getElem?_mapIdx];rw[Array.getElem?_eq_getElem (by omega)];simp only[Jao,Jau];rw[if_pos ⟨by omega,by simp only[List.size_toArray];omega⟩];congr 1;simp[getElem!_pos];rw[Jg hil];rfl
   have s2:=Qip s1.sat hown hblk1 (cs':=Go.Sort.putCells (Value.int .i64) base (ns.mergeSort fun x y=>decide (x≤y)).toArray cs) (by simp[Go.Sort.putCells])
    (.vec 1 (Qe (ns.mergeSort fun x y=>decide (x≤y)))) (by rw[hz];simp) (fun hle hb2=>.inr ⟨b,base,T',_,fun i _=>.int .i64 ((ns.mergeSort fun x y=>decide (x≤y)).getD i 0),hio,hown,hb2,by
      rw[Qi,List.length_mergeSort];simp[Go.Sort.putCells];omega,by rw[Qi,List.length_mergeSort];exact hlim,fun i row hi=>by
       simp only[Qe,J9,Option.map_eq_some_iff]at hi;obtain⟨x,_,rfl⟩:=hi;rfl,fun i row j c hi hj=>by
       have hi':=hi;simp only[Qe,J9,Option.map_eq_some_iff]at hi';obtain⟨y,hy,rfl⟩:=hi';have hj0:j=0:=by
        rcases Jba j with h|h
        ·exact h
        ·rw[Jp (by simp;omega)]at hj;simp at hj
       subst hj0;obtain⟨x,hx,he⟩:=hel2 i _ hi;simp only[C.int.injEq,true_and]at hx;subst hx;simp only[Nat.mul_one,Jbp];rw[he,Jb,hy];rfl,fun i row j c hi hj=>by
       have hi':=hi;simp only[Qe,J9,Option.map_eq_some_iff]at hi';obtain⟨y,hy,rfl⟩:=hi';have hj0:j=0:=by
        rcases Jba j with h|h
        ·exact h
        ·rw[Jp (by simp;omega)]at hj;simp at hj
       subst hj0;simp at hj;subst hj;show RepO _ _ _ _ _ (Value.int .i64 ((ns.mergeSort fun x y=>decide (x≤y)).getD i 0));rw[Jb,hy];exact .plain _ _ _ _ (.int _ _)⟩) (by simp)
   rw[←Qbky hblk1]at s2;obtain⟨g',s3⟩:=Qbqe s2.sat os;refine⟨.tuple #[],.tup [],_,g',rfl,hK _ ⟨by simp[Heap.set_same],fun m _ hm=>Heap.set_other _ _ (by simpa using hm)⟩,s1.trans (s2.trans s3),?_⟩;exact .tup [] [] rfl (by simp)
theorem Qbid {f:Nat}(hf:fnOk P f=true){k:IntKind}{x r:Int}(hc:∀w,Calls P f #[.int k x] w fun e w'=>e=.returned (.int .i64 r)∧w'=w){K:V→Heap→Prop}(hK:K (.c (.int .i64 r)) H) :
  Qo P f [.c (.int k x)] H K:=by
 refine⟨hf,fun g w vs hs hl hv=>?_⟩;obtain⟨v,rfl⟩:∃v,vs=[v]:=by
  match vs,hl with
  |[v],_=>exact⟨v,rfl⟩
 have hr:=hv 0 _ v rfl rfl
 cases hr with
 |c _ _ hr=>
  cases hr;refine (hc w).mono fun e w'=>?_;rintro⟨rfl,rfl⟩;exact⟨_,_,H,g,rfl,hK,.refl hs,.c _ _ (.int _ _)⟩
end Go.AE.Y
namespace Go.AE.Y
structure Cmp (ns R:List Int)(k j:Nat):Prop where
 len:R.length=ns.length
 kj:k<j
 jn:j≤ns.length
 asc:(R.take k).Pairwise (· < ·)
 mem:∀x,x∈R.take k↔x∈ns.take j
 same:∀i,j≤i+1→R.getD i 0=ns.getD i 0
variable {ns R:List Int}{k j:Nat}
theorem take_mem {l:List Int}{j:Nat}{x:Int}:x∈l.take j↔∃i,i<j∧i<l.length∧l.getD i 0=x:=by
 constructor
 ·intro h;obtain⟨i,hi,rfl⟩:=J0.1 h;rw[Jv]at hi;refine⟨i,by omega,by omega,?_⟩;rw[Jab,Jb,Jg (by omega)];rfl
 ·rintro⟨i,h1,h2,rfl⟩;rw[Jb,Jg h2];exact J0.2 ⟨i,by rw[Jv];omega,by rw[Jab];rfl⟩
theorem Qfo {ns:List Int}(h:ns.Pairwise (·≤·)){a b:Nat}(hab:a≤b)(hb:b<ns.length):ns.getD a 0≤ns.getD b 0:=by
 rcases Jbd a b with h1|h1
 ·have:=J4.1 h a b (by omega) hb h1;simpa[Jb,hb,show a<ns.length by omega]using this
 ·have:a=b:=by omega
  subst this;exact Int.le_refl _
theorem Cmp.start (hs:ns.Pairwise (·≤·))(hk0:0<k)(hk:k<ns.length)(hne:∀i,0<i→i<k→ns.getD i 0≠ns.getD (i-1) 0)(he:ns.getD k 0=ns.getD (k-1) 0):Cmp ns ns k (k+1):=by
 refine⟨rfl,by omega,by omega,?_,fun x=>?_,fun i _=>rfl⟩
 ·rw[J4];intro a b ha hb hab;rw[Jv]at ha hb;rw[Jab,Jab];have h1:=Qfo hs (a:=a) (b:=b-1) (by omega) (by omega);have h2:=Qfo hs (a:=b-1) (b:=b) (by omega) (by omega);have h3:=hne b (by omega) (by omega);have e1:ns.getD a 0=ns[a]:=by simp[Jb,show a<ns.length by omega]
  have e2:ns.getD b 0=ns[b]:=by simp[Jb,show b<ns.length by omega]
  rw[e1]at h1;rw[e2]at h2 h3;omega
 ·rw[take_mem,take_mem];constructor
  ·rintro⟨i,h1,h2,h3⟩;exact⟨i,by omega,h2,h3⟩
  ·rintro⟨i,h1,h2,h3⟩;by_cases h:i<k
   ·exact⟨i,h,h2,h3⟩
   ·have:i=k:=(by omega);subst this;exact⟨i-1,by omega,by omega,by rw[←he];exact h3⟩
theorem Cmp.eq (c:Cmp ns R k j)(hj:j<ns.length)(he:ns.getD j 0=ns.getD (j-1) 0):Cmp ns R k (j+1):=by
 have:=c.kj;refine⟨c.len,by omega,by omega,c.asc,fun x=>?_,fun i hi=>c.same i (by omega)⟩;rw[c.mem,take_mem,take_mem];constructor
 ·rintro⟨i,h1,h2,h3⟩;exact⟨i,by omega,h2,h3⟩
 ·rintro⟨i,h1,h2,h3⟩;by_cases h:i<j
  ·exact⟨i,h,h2,h3⟩
  ·have:i=j:=by omega
   subst this;exact⟨i-1,by omega,by omega,by rw[←he];exact h3⟩
theorem Cmp.ne (c:Cmp ns R k j)(hs:ns.Pairwise (·≤·))(hj:j<ns.length)(he:ns.getD j 0≠ns.getD (j-1) 0):Cmp ns (R.set k (ns.getD j 0)) (k+1) (j+1):=by
 have hkj:=c.kj;have hkl:k<R.length:=by rw[c.len];omega
 have htk:(R.set k (ns.getD j 0)).take (k+1)=R.take k++[ns.getD j 0]:=by
  rw[Ji (by rw[Jq];exact hkl),Ja1];congr 1;rw[List.take_set_of_le (Jh _)]
 refine⟨by rw[Jq];exact c.len,by omega,by omega,?_,fun x=>?_,fun i hi=>?_⟩
 ·rw[htk,Ja3];refine⟨c.asc,by simp,fun a ha b hb=>?_⟩;simp at hb;subst hb;obtain⟨i,h1,h2,rfl⟩:=take_mem.1 ((c.mem a).1 ha);have h3:=Qfo hs (a:=i) (b:=j-1) (by omega) (by omega);have h4:=Qfo hs (a:=j-1) (b:=j) (by omega) hj;simp only[Jb]at *;omega
 ·rw[htk,Je,c.mem,take_mem,take_mem];simp only[Ja];constructor
  ·rintro (⟨i,h1,h2,h3⟩|rfl)
   ·exact⟨i,by omega,h2,h3⟩
   ·exact⟨j,by omega,hj,rfl⟩
  ·rintro⟨i,h1,h2,h3⟩;by_cases h:i<j
   ·exact .inl ⟨i,h,h2,h3⟩
   ·have:i=j:=(by omega);subst this;exact .inr h3.symm
 ·have:k≠i:=by omega
  rw[←c.same i (by omega)];simp[Jb,this]
theorem Qazu (hs:ns.Pairwise (·≤·))(hne:∀i,0<i→i<ns.length→ns.getD i 0≠ns.getD (i-1) 0):ns.Pairwise (· < ·):=by
 rw[J4];intro a b ha hb hab;have h1:=Qfo hs (a:=a) (b:=b-1) (by omega) (by omega);have h2:=Qfo hs (a:=b-1) (b:=b) (by omega) (by omega);have h3:=hne b (by omega) (by omega);have e1:ns.getD a 0=ns[a]:=by simp[Jb,ha]
 have e2:ns.getD b 0=ns[b]:=by simp[Jb,hb]
 rw[e1]at h1;rw[e2]at h2 h3;omega
def srt (ns:List Int):List Int:=ns.mergeSort fun x y=>decide (x≤y)
theorem Qbcr (ns:List Int):(srt ns).length=ns.length:=List.length_mergeSort _
theorem Qbsz (ns:List Int)(x:Int):x∈srt ns↔x∈ns:=(List.mergeSort_perm ns _).mem_iff
theorem Qbh6 (ns:List Int):(srt ns).Pairwise (·≤·):=by
 have:=List.pairwise_mergeSort (le:=fun x y:Int=>decide (x≤y)) (by simp only[decide_eq_true_eq];omega) (by simp only[Bool.or_eq_true,decide_eq_true_eq];omega) ns;exact this.imp (by simp)
end Go.AE.Y
namespace Go.Proofs
open Go.Shelf
def Tryz.lays189_ren:Go.Shelf.Ren:=⟨fun|189=>165|125=>230|257=>229|128=>275|129=>276|294=>266|295=>267|296=>268|297=>269|298=>270|299=>271|216=>272|300=>273|301=>274|328=>307|329=>308|330=>309|331=>310|332=>311|215=>312|343=>329|n=>n,fun|28=>27|3=>3|46=>178|0=>0|51=>233|53=>235|4=>4|183=>227|182=>226|131=>154|5=>5|9=>9|218=>273|222=>186|228=>288|229=>289|n=>n,fun|n=>n⟩
theorem Tryz.lays189:Go.Proofs.Lays.n189 Tryz.prog Tryz.lays189_ren:={
 mixed:=by kernel_rfl
 f125:=Tryz.func230.trans (congrArg some (by kernel_rfl))
 f128:=Tryz.func275.trans (congrArg some (by kernel_rfl))
 f129:=Tryz.func276.trans (congrArg some (by kernel_rfl))
 f189:=Tryz.func165.trans (congrArg some (by kernel_rfl))
 f215:=Tryz.func312.trans (congrArg some (by kernel_rfl))
 f216:=Tryz.func272.trans (congrArg some (by kernel_rfl))
 f257:=Tryz.func229.trans (congrArg some (by kernel_rfl))
 f294:=Tryz.func266.trans (congrArg some (by kernel_rfl))
 f295:=Tryz.func267.trans (congrArg some (by kernel_rfl))
 f296:=Tryz.func268.trans (congrArg some (by kernel_rfl))
 f297:=Tryz.func269.trans (congrArg some (by kernel_rfl))
 f298:=Tryz.func270.trans (congrArg some (by kernel_rfl))
 f299:=Tryz.func271.trans (congrArg some (by kernel_rfl))
 f300:=Tryz.func273.trans (congrArg some (by kernel_rfl))
 f301:=Tryz.func274.trans (congrArg some (by kernel_rfl))
 f328:=Tryz.func307.trans (congrArg some (by kernel_rfl))
 f329:=Tryz.func308.trans (congrArg some (by kernel_rfl))
 f330:=Tryz.func309.trans (congrArg some (by kernel_rfl))
 f331:=Tryz.func310.trans (congrArg some (by kernel_rfl))
 f332:=Tryz.func311.trans (congrArg some (by kernel_rfl))
 f343:=Tryz.func329.trans (congrArg some (by kernel_rfl))
 t0:=Tryz.underlying0
 a0:=Tryz.isAgg0
 z0:=Tryz.sizeOf0
 v0:=Tryz.zeroValue0
 t3:=Tryz.underlying3
 a3:=Tryz.isAgg3
 z3:=Tryz.sizeOf3
 v3:=Tryz.zeroValue3
 t4:=Tryz.underlying4
 a4:=Tryz.isAgg4
 z4:=Tryz.sizeOf4
 v4:=Tryz.zeroValue4
 t5:=Tryz.underlying5
 a5:=Tryz.isAgg5
 z5:=Tryz.sizeOf5
 v5:=Tryz.zeroValue5
 t9:=Tryz.underlying9
 a9:=Tryz.isAgg9
 z9:=Tryz.sizeOf9
 v9:=Tryz.zeroValue9
 t28:=Tryz.underlying27
 a28:=Tryz.isAgg27
 z28:=Tryz.sizeOf27
 v28:=Tryz.zeroValue27
 t46:=Tryz.underlying178
 a46:=Tryz.isAgg178
 z46:=Tryz.sizeOf178
 v46:=Tryz.zeroValue178
 t51:=Tryz.underlying233
 a51:=Tryz.isAgg233
 z51:=Tryz.sizeOf233
 v51:=Tryz.zeroValue233
 t53:=Tryz.underlying235
 a53:=Tryz.isAgg235
 z53:=Tryz.sizeOf235
 v53:=Tryz.zeroValue235
 t131:=Tryz.underlying154
 a131:=Tryz.isAgg154
 z131:=Tryz.sizeOf154
 v131:=Tryz.zeroValue154
 t182:=Tryz.underlying226
 a182:=Tryz.isAgg226
 z182:=Tryz.sizeOf226
 v182:=Tryz.zeroValue226
 t183:=Tryz.underlying227
 a183:=Tryz.isAgg227
 z183:=Tryz.sizeOf227
 v183:=Tryz.zeroValue227
 t218:=Tryz.underlying273
 a218:=Tryz.isAgg273
 z218:=Tryz.sizeOf273
 v218:=Tryz.zeroValue273
 t222:=Tryz.underlying186
 a222:=Tryz.isAgg186
 z222:=Tryz.sizeOf186
 v222:=Tryz.zeroValue186
 t228:=Tryz.underlying288
 a228:=Tryz.isAgg288
 z228:=Tryz.sizeOf288
 v228:=Tryz.zeroValue288
 t229:=Tryz.underlying289
 a229:=Tryz.isAgg289
 z229:=Tryz.sizeOf289
 v229:=Tryz.zeroValue289 }
end Go.Proofs
namespace Go.AE.Y
open Go.Proofs.Tryz
variable {H H0:Heap}{K:V→Heap→Prop}{E B Lg:List (Nat×Obj)}
theorem Qbij {x:Int}(h0:0≤x)(h1:x≤18446744073709551615)(hK:∀n:Int,K (.c (.int .i64 n)) H):Qo prog Qahh [.c (.int .u64 x)] H K:=
 Qbid (by kernel_rfl) (fun w=>calls_of_every_depth fun D=>Go.Proofs.AnyS.bits_LenIn (ρ:=lays189_ren) { lays189 with } D x w h0 h1) (hK _)
theorem Qbtz {c:C}(how:c.isOw=false)(hK:K (.tup []) H):Qo prog Qbn [.c c,.c (.int .i64 0),.c (.int .i64 0)] H K:=by
 refine Qb Qap Qjd ?_;refine Qa ?_;simp only[go_sem,how];refine⟨Qp (by omega) (by omega),?_⟩;refine Qc (Qu (fun m e1 H1=>H1=H∧e1=[(0,.c c),(1,.c (.int .i64 0)),(2,.c (.int .i64 0)),(6,.c (.int .i64 1))]) 0 ⟨rfl,rfl⟩ ?_);rintro m e1 H1 ⟨rfl,rfl⟩;refine Q5 ?_;refine Qa ?_;simp only[go_sem,how];refine Qh (Qd rfl (fun h=>by simp at h) fun _=>?_);refine Qv ?_;simp only[go_sem,X.next,Q4,Qaa,Qc7,Jaz];exact⟨fun _=>trivial,hK⟩
theorem Qbud {c:C}{l:Int}(how:c.isOw=false)(hK:K (.tup []) H):Qo prog Qbf [.c c,.c (.int .i64 0),.c (.int .i64 0),.c (.int .i64 l)] H K:=by
 refine Qb Qap Q0u ?_;refine Qa ?_;simp only[go_sem,how];refine Qa ?_;simp only[go_sem,how];refine Qc (Qu (fun m e1 H1=>H1=H∧e1=[(0,.c c),(1,.c (.int .i64 0)),(2,.c (.int .i64 0)),(3,.c (.int .i64 l)),(8,.c (.bool true)),(9,.c (.bool true))]) 0 ⟨rfl,rfl⟩ ?_);rintro m e1 H1 ⟨rfl,rfl⟩;refine Qc ?_;refine Qa ?_;simp only[go_sem,how];refine⟨Qp (by omega) (by omega),?_⟩;refine Q5 ?_;refine Qa ?_;simp only[go_sem,how];refine Qh (Qd rfl (fun _=>?_) (fun h=>by simp at h));refine Qa ?_;simp only[go_sem,how];refine Qbtz how ?_;refine Qj ?_;simp only[go_sem,X.next,Q4,Qaa,Qhu,Jaz];exact⟨fun _=>trivial,hK⟩
theorem Qbqy {c:C}(hok:okSl H c)(hl:lenC c=0)(how:c.isOw=false)(hK:K (.tup []) H):Qo prog Qxa [.c c] H K:=by
 have hok:=eq_true hok;refine Qb Qap Qbkq ?_;refine Qa ?_;simp only[go_sem,how,hok,hl];have e0:((0:Nat):Int)=0:=rfl;refine Qr ?_;simp only[go_sem,how,e0];refine⟨⟨by decide,by decide⟩,?_⟩;refine Qbij (by omega) (by omega) fun n=>?_;simp only[go_sem,how,Qacz];refine Qbud how ?_;simp only[go_sem,Q4,Qaa,Qa1c,Jaz];exact⟨fun _=>trivial,hK⟩
theorem Qbte {c:C}{ns:List Int}(kn:Kn H0 H E (B++Lg))(hgr:Gr Lg 1 (Qe ns) c)
  (hK:∀Lg' H',Gr Lg' 1 (Qe (srt ns)) c→Kn H0 H' E (B++Lg')→K (.tup []) H'):Qo prog Qxa [.c c] H K:=by
 by_cases h0:ns=[]
 ·subst h0;refine Qbqy (hgr.okSl kn) (by rw[hgr.lenC];rfl) hgr.isOw (hK Lg H ?_ kn);have:srt []=[]:=by simp[srt]
  rw[this];exact hgr
 ·rcases hgr with ⟨_,h,_⟩|⟨y,rfl,rfl⟩
  ·cases ns with
   |nil=>exact absurd rfl h0
   |cons a b=>simp[Qe]at h
  ·have hy:=kn.l B.length (l:=y) (o:=.vec 1 (Qe ns)) (by simp);have hpos:0<ns.length:=List.length_pos_iff.2 h0;refine Qbee (by kernel_rfl) (fun blk off cap zs w h1 h2 h3=>Go.Proofs.Any.slices_Sort_int lays189 blk off cap zs w h1 h2 h3) hy (by rw[Qi]) (by rw[Qi];exact hpos) fun H' hu=>?_;refine hK [(y,.vec 1 (Qe (srt ns)))] H' (.inr ⟨y,by rw[Qi,Qi,Qbcr],rfl⟩) ?_;have:=kn.callL B.length (l:=y) (o:=.vec 1 (Qe ns)) (by simp) hu (by simp);simpa[srt]using this
def Qan (ks:List Nat):List (C×V):=ks.map fun k:Nat=>(.int .i64 (k:Int),.c (.bool true))
theorem Qf2 (ks:List Nat):(Qan ks).length=ks.length:=by simp[Qan]
theorem Qcg (ks:List Nat)(n:Int):Qxp 0 (.int .i64 n) (Qan ks)=True:=by
 refine eq_true ?_;simp only[Qxp,Qan,Jo];rintro e ⟨k,_,rfl⟩;exact⟨k,rfl⟩
theorem Qahf (ks:List Nat)(b:Nat):(Q0i (.int .i64 (b:Int)) (Qan ks)).getD (.c (.bool false))=.c (.bool (decide (b∈ks))):=by
 induction ks with
 |nil=>simp[Qan,Q0i]
 |cons k ks ih=>
  simp only[Qan,Jr,Q0i,Qeh]at ih⊢;by_cases h:b=k
  ·subst h;simp
  ·have:¬(b:Int)=(k:Int):=by omega
   simp only[this,decide_false,Jag,if_false];rw[ih];simp[h]
theorem Qbh7 (ks:List Nat)(b:Nat)(h:b∉ks):updE (.int .i64 (b:Int)) (.c (.bool true)) (Qan ks)=Qan (ks++[b]):=by
 induction ks with
 |nil=>simp[Qan,updE]
 |cons k ks ih=>
  simp only[Jt,not_or]at h;have hk:¬(b:Int)=(k:Int):=by omega
  have ih:=ih h.2;simp only[Qan,Jr,updE,Qeh,hk,decide_false,Jag,if_false,Jz]at ih⊢;rw[ih]
theorem Qah9 {ks:List Nat}(h:ks.Nodup):(Qan ks).Nodup:=by
 rw[Qan,List.Nodup,List.pairwise_map];refine List.Pairwise.imp (fun {a b} hab he=>?_) h;simp only[Jbb,C.int.injEq,true_and,and_true]at he;exact hab (by omega)
end Go.AE.Y
namespace Go.AE.Y
open Go.Proofs.Tryz
variable {H H0:Heap}{K:V→Heap→Prop}
structure InB (n:Nat)(g:Nat→List Nat)(S:List Bool)(ks:List Nat):Prop where
 len:S.length=n
 s:∀x,x<n→S.getD x false=(decide (x∈ks) || !rchB g (-1) x)
 nd:ks.Nodup
 lt:∀x∈ks,x<n
 i:∀x∈ks,rchB g (-1) x=true
 c:ks.length≤cnt S
theorem InB.add {n:Nat}{g:Nat→List Nat}{S:List Bool}{ks:List Nat}{b:Nat}(h:InB n g S ks)(hb:b<n)(hbs:b∉ks)(hi:rchB g (-1) b=true):S.getD b false=false∧InB n g (S.set b true) (ks++[b]):=by
 have hsb:S.getD b false=false:=by rw[h.s b hb];simp[hbs,hi]
 have hbS:b<S.length:=by rw[h.len];exact hb
 refine⟨hsb,by rw[Jq];exact h.len,fun x hx=>?_,?_,fun x hx=>?_,fun x hx=>?_,?_⟩
 ·rw[Qag2];by_cases hxb:x=b
  ·subst hxb;simp[hbS]
  ·simp only[hxb,false_and,if_false,Je,Ja,or_false];exact h.s x hx
 ·refine J6.2 ⟨h.nd,by simp,fun a ha c hc=>?_⟩;simp at hc;subst hc;exact fun e=>hbs (e▸ha)
 ·rcases Je.1 hx with hx|hx
  ·exact h.lt x hx
  ·simp at hx;omega
 ·rcases Je.1 hx with hx|hx
  ·exact h.i x hx
  ·simp at hx;subst hx;exact hi
 ·rw[Qa6d hbS hsb,Jap];have:=h.c;simp;omega
def Qbti (x5 x6:Nat)(dc:List C):List C:=[.ptr x5 0,.pp [.pp dc],.ptr x6 0]
end Go.AE.Y
namespace Go.AE.Y
open Go.Proofs.Tryz
variable {H H0:Heap}{K:V→Heap→Prop}{E B Lg:List (Nat×Obj)}
def Gw (Lg:List (Nat×Obj))(sz:Nat)(rows:List (List C))(c:C):Prop:=
 (c=.sl true sz []∧rows=[]∧Lg=[])∨∃y R,c=.vsl y sz 0 rows.length∧Lg=[(y,.vec sz R)]∧R.take rows.length=rows
end Go.AE.Y
namespace Go.AE
open Go.AE.Y
open Go.Proofs.Tryz
variable {H H0:Heap}{K:V→Heap→Prop}{E B Lg:List (Nat×Obj)}
theorem Gr.gw {sz:Nat}{rows:List (List C)}{c:C}(h:Gr Lg sz rows c):Gw Lg sz rows c:=by
 rcases h with h|⟨y,h1,h2⟩
 ·exact .inl h
 ·exact .inr ⟨y,rows,h1,h2,Ja0⟩
end Go.AE
namespace Go.AE.Y
open Go.Proofs.Tryz
variable {H H0:Heap}{K:V→Heap→Prop}{E B Lg:List (Nat×Obj)}
theorem Gw.isOw {sz:Nat}{rows:List (List C)}{c:C}(h:Gw Lg sz rows c):c.isOw=false:=by rcases h with ⟨rfl,_⟩|⟨y,R,rfl,_⟩ <;> rfl
theorem Gw.frz {ns:List Int}{c:C}(h:Gw Lg 1 (Qe ns) c)(kn:Kn H0 H E (B++Lg)):FrzC H (un H0) c (.sl false 1 (Qe ns)):=by
 rcases h with ⟨rfl,h2,_⟩|⟨y,R,rfl,rfl,hR⟩
 ·rw[h2];exact FrzR.nil.sl
 ·have hle:(Qe ns).length≤R.length:=by
   have:=congrArg List.length hR;rw[Jv]at this;omega
  have h:=FrzR.same (H:=H) (S:=un H0) (Q6 ns);exact .vsl y 1 0 _ R (Qe ns) (Qe ns) (Qj2 (kn.loc (y,.vec 1 R) (by simp))) (kn.get (y,.vec 1 R) (by simp)).1 (by omega) (by simpa using hR.symm) h.spec.1 (fun i r r' h1 h2=>(h.spec.2 i r r' h1 h2).spec.1) fun i r r' j c c' h1 h2 h3 h4=>(h.spec.2 i r r' h1 h2).spec.2 j c c' h3 h4
theorem Qavl {fl:Bool}{ns:List Int}{L:List (Nat×Obj)}(kn:Kn H0 H E L)(hl:ns.length≤LIM)(hK:∀t Lg H',Gr Lg 1 (Qe ns) t→t.isOw=false→Kn H0 H' E (L++Lg)→K (.c t) H') :
  Qo prog Qfe [.c (.sl fl 1 (Qe ns))] H K:=by
 refine Qb Qap Qbfl ?_;refine Qa ?_;simp only[go_sem];refine Q5 ?_;refine Qa ?_;simp only[go_sem];intro b hb;refine Qh (Qd rfl ?_ ?_)
 ·intro hbt;have hn:=hb hbt;refine Qa ?_;simp only[go_sem];refine Qj ?_;simp only[go_sem,Q4,Qaa,Q61,Ja,forall_eq,RS.op];refine hK _ [] H ?_ rfl (by simpa using kn);rw[hn];exact .nil 1
 ·intro hbf;refine Qf ?_;simp only[go_sem];refine Qa ?_;simp only[go_sem,Qi];refine⟨.inl trivial,Q6 _,by omega,fun z hz H1 h1=>?_⟩;have kn:=kn.al hz h1;simp only[go_sem,Q5a];refine Qj ?_;simp only[go_sem,Q4,Qaa,Q61,Ja,forall_eq,RS.op];exact hK _ _ H1 (.mk z 1 _ (by rw[Qi];omega)) rfl kn
theorem Qbe5 (ns:List Int)(i:Nat)(x:Int):(Qe ns).set i [.int .i64 x]=Qe (ns.set i x):=by simp[Qe,Jaf]
theorem Qa6v (ns:List Int)(k:Nat):(Qe ns).take k=Qe (ns.take k):=by simp[Qe,Jbm]
set_option maxHeartbeats 2000000 in
theorem Qbh9 {c:C}{ns:List Int}(kn:Kn H0 H E (B++Lg))(hgr:Gr Lg 1 (Qe ns) c)(hs:ns.Pairwise (·≤·))(hL:ns.length≤2 ^ 38)
  (hK:∀t Lg' ns' H',Gw Lg' 1 (Qe ns') t→t.isOw=false→Kn H0 H' E (B++Lg')→ns'.Pairwise (· < ·)→(∀x,x∈ns'↔x∈ns)→ns'.length≤ns.length→K (.c t) H') :
  Qo prog Qmq [.c c] H K:=by
 have how:=hgr.isOw;have hok:=eq_true (hgr.okSl kn);have hlen:=hgr.lenC;have hrw:=hgr.rowsOf kn;have hsz:=hgr.elemSz;refine Qb Qap Qa0w ?_;refine Qa ?_;simp only[go_sem,how];refine Q5 ?_;refine Qa ?_;simp only[go_sem,how,hok,hlen,Qi];intro _;refine Qh (Qd rfl ?_ ?_)
 ·intro hc;have h2:ns.length<2:=by have:=of_decide_eq_true hc;omega
  refine Qa ?_;simp only[go_sem,how];refine Qj ?_;simp only[go_sem,Q4,Qaa,Qit,Ja,forall_eq,RS.op,how];exact hK c Lg ns H hgr.gw how kn (Qazu hs fun i h0 hi=>by omega) (fun _=>Jbq) (Jh _)
 ·intro hc;have h2:2≤ns.length:=by have:=of_decide_eq_false hc;omega
  obtain⟨z,rfl,rfl⟩:∃z,c=.vsl z 1 0 ns.length∧Lg=[(z,.vec 1 (Qe ns))]:=by
   rcases hgr with ⟨_,h,_⟩|⟨y,h1,h2⟩
   ·have:ns.length=0:=(by rw[←Qi,h];rfl);omega
   ·exact⟨y,by rw[h1,Qi],h2⟩
  have hz:=kn.l B.length (l:=z) (o:=.vec 1 (Qe ns)) (by simp);refine Qf ?_;simp only[go_sem];refine Q5 ?_;refine Qa ?_;simp only[go_sem];refine Qh (Qc (Qu (fun m e1 H1=>∃(k:Nat),m=ns.length-k∧0<k∧k≤ns.length∧H1=H∧(∀i,0<i→i<k→ns.getD i 0≠ns.getD (i-1) 0)∧e1=[(0,.c (.vsl z 1 0 ns.length)),(3,.c (.int .i64 k))]) (ns.length-1) ?_ ?_))
  ·exact⟨1,rfl,by omega,by omega,rfl,fun i h0 h1=>by omega,rfl⟩
  ·rintro m e1 H1 ⟨k,hm,hk0,hk,rfl,hne,rfl⟩;refine Q5 ?_;refine Qa ?_;simp only[go_sem,hz,Qi,Jn,Jh];intro hlim;simp only[LIM]at hlim;refine Qh (Qd rfl ?_ ?_)
   ·intro hc2;have hlt:k<ns.length:=(by simpa using hc2);have hlt1:k-1<ns.length:=(by omega);have e1:((k:Int)-1)=((k-1:Nat):Int):=(by omega);have htk:(Qe ns).take ns.length=Qe ns:=Jc (by rw[Qi];exact Jh _);refine Qf ?_;simp only[go_sem];refine Qh (Qc ?_);refine Qao ?_;simp only[go_sem,hz,e1,hlt,hlt1,htk,Qi,Q9 _ _ hlt,Q9 _ _ hlt1,Jn,Jh];refine⟨Qp (by omega) (by omega),?_⟩;refine Qd rfl ?_ ?_
    ·intro hc3;have heq:ns.getD k 0=ns.getD (k-1) 0:=(by simpa using hc3);refine Qa ?_;simp only[go_sem,hz,hlt,Qi,Jn,Jh];refine⟨by omega,?_⟩;refine Q5 ?_;refine Qa ?_;simp only[go_sem];refine Qh (Qc (Qu (fun m e1 H2=>∃(j kk:Nat) (R:List Int),m=ns.length-j∧k<j∧j≤ns.length∧Cmp ns R kk j∧Kn H0 H2 E (B++[(z,.vec 1 (Qe R))])∧
      e1=[(0,.c (.vsl z 1 0 ns.length)),(3,.c (.int .i64 kk)),(4,.c (.vsl z 1 k (ns.length-k))),(5,.c (.int .i64 ((j-k:Nat):Int)))]) (ns.length-(k+1)) ?_ ?_))
     ·refine⟨k+1,k,ns,rfl,by omega,by omega,.start hs hk0 hlt hne heq,kn,?_⟩;have:k+1-k=1:=(by omega);rw[this];rfl
     ·rintro m2 e1 H2 ⟨j,kk,R,hm2,hkj,hj,hcm,kn,rfl⟩;have hz:=kn.l B.length (l:=z) (o:=.vec 1 (Qe R)) (by simp);have hRl:=hcm.len;have hkkj:=hcm.kj;refine Q5 ?_;refine Qa ?_;have e3:k+(ns.length-k)=ns.length:=(by omega);simp only[go_sem,hz,Qi,hRl,e3,Jn,Jh];intro _;refine Qh (Qd rfl ?_ ?_)
      ·intro hc4;have hjl:j<ns.length:=(by have:=of_decide_eq_true hc4;omega);have hjR:j<R.length:=(by omega);have hjR1:j-1<R.length:=(by omega);have hjk:j-k<ns.length-k:=(by omega);have hjk1:j-k-1<ns.length-k:=(by omega);have e4:(((j-k:Nat):Int)-1)=((j-k-1:Nat):Int):=(by omega);have hr1:(((Qe R).drop k).take (ns.length-k)).getD (j-k) []=[.int .i64 (ns.getD j 0)]:=by
        rw[←hcm.same j (by omega),←Q9 _ _ hjR];simp only[Jb,Ja8,Ja7];rw[if_pos hjk];have:k+(j-k)=j:=(by omega);rw[this]
       have hr2:(((Qe R).drop k).take (ns.length-k)).getD (j-k-1) []=[.int .i64 (ns.getD (j-1) 0)]:=by
        rw[←hcm.same (j-1) (by omega),←Q9 _ _ hjR1];simp only[Jb,Ja8,Ja7];rw[if_pos hjk1];have:k+(j-k-1)=j-1:=(by omega);rw[this]
       refine Qf ?_;simp only[go_sem];refine Qd3 (fun e2 H3=>∃(kk:Nat) (R:List Int),Cmp ns R kk (j+1)∧Kn H0 H3 E (B++[(z,.vec 1 (Qe R))])∧
        lk 0 e2=.c (.vsl z 1 0 ns.length)∧lk 3 e2=.c (.int .i64 kk)∧lk 4 e2=.c (.vsl z 1 k (ns.length-k))∧lk 5 e2=.c (.int .i64 ((j-k:Nat):Int))) ?_ ?_
       ·intro Q hnr _ _;refine Qc ?_;refine Qao ?_;simp only[go_sem,hz,e3,e4,hr1,hr2,hjk,hjk1,Qi,hRl,Jh];refine⟨Qp (by omega) (by omega),?_⟩;refine Qd rfl ?_ ?_
        ·intro hc5;have hne5:ns.getD j 0≠ns.getD (j-1) 0:=(by simpa using hc5);have hkkl:kk<ns.length:=(by omega);have hkkR:kk<R.length:=(by omega);have htk:(Qe R).take ns.length=Qe R:=Jc (by rw[Qi];omega);refine Qa ?_;simp only[go_sem,hz,e3,hr1,hjk,hkkl,htk,Q9 _ _ hkkR,Qbe5,Qi,hRl,Jn,Jh];intro H3 h3;have kn3:=kn.stL B.length (x:=z) (o:=.vec 1 (Qe R)) (by simp) h3;have kn:Kn H0 H3 E (B++[(z,.vec 1 (Qe (R.set kk (ns.getD j 0))))]):=(by simpa using kn3);refine Qr ?_;simp only[go_sem];refine⟨Qp (by omega) (by omega),?_⟩;exact hnr _ _ ⟨kk+1,_,hcm.ne hs hjl hne5,kn,rfl,rfl,rfl,rfl⟩
        ·intro hc5;have heq5:ns.getD j 0=ns.getD (j-1) 0:=(by simpa using hc5);refine Qf ?_;simp only[go_sem];exact hnr _ _ ⟨kk,R,hcm.eq hjl heq5,kn,rfl,rfl,rfl,rfl⟩
       ·rintro e2 H3 ⟨kk,R,hcm,kn,l0,l3,l4,l5⟩;refine Qr ?_;simp only[go_sem,X.next,l0,l3,l4,l5];refine⟨Qp (by omega) (by omega),ns.length-(j+1),by omega,j+1,kk,R,rfl,by omega,by omega,hcm,kn,?_⟩;have:(((j-k:Nat):Int)+1)=((j+1-k:Nat):Int):=(by omega);rw[this]
      ·intro hc4;have hje:j=ns.length:=(by have:=of_decide_eq_false hc4;omega);subst hje;have hkkl:kk≤R.length:=(by omega);refine Qv ?_;simp only[go_sem,X.next];refine Qa ?_;have e5:kk+(ns.length-kk)=ns.length:=(by omega);simp only[go_sem,hz,e5,Qi,hRl,Jn,Jh];refine⟨by omega,fun H3 h3=>?_⟩;have kn3:=kn.stL B.length (x:=z) (o:=.vec 1 (Qe R)) (by simp) h3;have htk2:((Qe R).take kk++List.replicate (ns.length-kk) [C.int .i64 0]++(Qe R).drop ns.length).take kk=Qe (R.take kk):=by
        rw[Jas,List.take_append_of_le_length (by rw[Jv,Qi];omega),Jbl,Nat.min_self,Qa6v]
       have hl2:ns.length≤((Qe R).take kk++List.replicate (ns.length-kk) [C.int .i64 0]++(Qe R).drop ns.length).length:=by
        simp only[Jap,Jv,List.length_replicate,Jay,Qi];omega
       generalize (Qe R).take kk++List.replicate (ns.length-kk) [C.int .i64 0]++(Qe R).drop ns.length=R2 at *;have kn:Kn H0 H3 E (B++[(z,.vec 1 R2)]):=(by simpa using kn3);have hz3:=kn.l B.length (l:=z) (o:=.vec 1 R2) (by simp);refine Qa ?_;simp only[go_sem,hz3,hl2,Jn,Nat.sub_zero];refine⟨by omega,?_⟩;refine Qj ?_;simp only[go_sem,X.next,Q4,Qaa,Qit,Ja,forall_eq,RS.op];have hrl:(Qe (R.take kk)).length=kk:=(by rw[Qi,Jv];omega);refine hK (.vsl z 1 0 kk) _ (R.take kk) H3 (.inr ⟨z,R2,?_,rfl,?_⟩) rfl kn hcm.asc (fun x=>?_) (by rw[Jv];omega)
       ·rw[hrl]
       ·rw[hrl];exact htk2
       ·rw[hcm.mem,Ja0]
    ·intro hc3;have hneq:¬ns.getD k 0=ns.getD (k-1) 0:=(by simpa using hc3);refine Qf ?_;simp only[go_sem];refine Qr ?_;simp only[go_sem,X.next];refine⟨Qp (by omega) (by omega),ns.length-(k+1),by omega,k+1,rfl,by omega,by omega,fun i h0 h1=>?_,rfl⟩;by_cases h:i<k
     ·exact hne i h0 h
     ·have:i=k:=(by omega);subst this;exact hneq
   ·intro hc2;have hge:ns.length≤k:=(by simpa using hc2);refine Qv ?_;simp only[go_sem,X.next];refine Qa ?_;simp only[go_sem];refine Qj ?_;simp only[go_sem,Q4,Qaa,Qit,Ja,forall_eq,RS.op];exact hK _ _ ns H1 hgr.gw rfl kn (Qazu hs fun i h0 hi=>hne i h0 (by omega)) (fun _=>Jbq) (Jh _)
theorem Qbub {fl:Bool}{ns:List Int}(hL:ns.length≤2 ^ 38)(hK:∀ns' H',Upd H H' []→ns'.Pairwise (· < ·)→(∀x,x∈ns'↔x∈ns)→ns'.length≤ns.length→K (.c (.sl false 1 (Qe ns'))) H') :
  Qo prog Q6e [.c (.sl fl 1 (Qe ns))] H K:=by
 refine Qy ?_;refine Qb Qap Qbj5 ?_;refine Qa ?_;simp only[go_sem];refine Qa ?_;simp only[go_sem];refine Qavl (Kn.start0 H) (by simp only[LIM];omega) fun t Lg H1 hgr how kn=>?_;simp only[go_sem,Qaam];refine Qa ?_;simp only[go_sem,how];refine Qbte kn hgr fun Lg H2 hgr kn=>?_;refine Qa ?_;simp only[go_sem,how];refine Qbh9 kn hgr (Qbh6 ns) (by rw[Qbcr];exact hL) fun t2 Lg2 ns' H3 hgw how2 kn h1 h2 h3=>?_;simp only[go_sem,Qaan,how2];refine Qj ?_;simp only[go_sem,Q4,Qaa,Qa01,Ja,forall_eq,RS.op,how2];exact⟨_,.c _ _ (hgw.frz kn),hK ns' _ kn.fin h1 (fun x=>by rw[h2,Qbsz]) (by rw[Qbcr]at h3;exact h3)⟩
end Go.AE.Y
namespace Go.AE.Y
attribute [local go_sem] cond_true cond_false Bool.not_true Bool.not_false
open Go.Proofs.Tryz
variable {H H0 F:Heap}{K:V→Heap→Prop}{E L:List (Nat×Obj)}
theorem Q57 (ks:List Nat)(b:Nat):updE (.int .i64 (b:Int)) (.c (.bool true)) (Qan ks)=Qan (addK ks b):=by
 by_cases h:b∈ks
 ·rw[addK,if_pos h]
  induction ks with
  |nil=>simp at h
  |cons k ks ih=>
   by_cases hk:b=k
   ·subst hk;simp[Qan,updE,Qeh]
   ·have hk':¬(b:Int)=(k:Int):=(by omega);have ih:=ih (by simpa[hk]using h);simp only[Qan,Jr,updE,Qeh,hk',decide_false,Jag,if_false]at ih⊢;rw[ih]
 ·rw[addK,if_neg h];exact Qbh7 ks b h
theorem Qauj (ks:List Nat)(b:Nat):delE (.int .i64 (b:Int)) (Qan ks)=Qan (ks.erase b):=by
 induction ks with
 |nil=>simp[Qan,delE]
 |cons k ks ih=>
  by_cases hk:b=k
  ·subst hk;simp[Qan,delE,Qeh]
  ·have hk':¬(b:Int)=(k:Int):=by omega
   have hk2:(k == b)=false:=by simp;omega
   simp only[Qan,Jr,delE,Qeh,hk',decide_false,Jag,if_false,List.erase_cons,hk2]at ih⊢;rw[ih]
theorem Qavm {ks:List Nat}{b R:Nat}(h:∀x∈ks,x<R)(hb:b<R):∀x∈addK ks b,x<R:=fun x hx=>by
 rcases addK_mem.1 hx with h1|h1
 ·exact h x h1
 ·omega
theorem Qbux {M ver R:Nat}{ks:List Nat}{args:List Int}{fl:Bool}(hM:H M=.map ver (Qan ks))(hnd:ks.Nodup)(hlt:∀x∈ks,x<R)(hR:R≤300)(hargs:∀v∈args,0≤v∧v.toNat<R)
  (hK:∀ver' ks' H',Upd H H' [(M,.map ver' (Qan ks'))]→ks'.Nodup→(∀r,r∈ks'↔r∈ks∨r∈toN args)→K (.c (.mp M)) H') :
  Qo prog Qfd [.c (.mp M),.c (.sl fl 1 (Qe args))] H K:=by
 refine Qy ?_;refine Qb Qap Qadb ?_;have kn:=Kn.start1 hM (by simp);refine Qa ?_;simp only[go_sem];refine Q5 ?_;refine Qa ?_;simp only[go_sem,Qi];intro hal;simp only[LIM]at hal;refine Qh (Qc (Qu (fun m e1 H1=>∃(i ver1:Nat) (ks1:List Nat),m=args.length-i∧i≤args.length∧ks1.Nodup∧(∀x∈ks1,x<R)∧(∀r,r∈ks1↔r∈ks∨r∈(toN args).take i)∧Kn H H1 [(M,.map ver1 (Qan ks1))] []∧
  e1=[(0,.c (.mp M)),(7,.c (.sl fl 1 (Qe args))),(8,.c (.int .i64 args.length)),(9,.c (.int .i64 i))]) args.length ?_ ?_))
 ·exact⟨0,ver,ks,by omega,by omega,hnd,hlt,by simp,kn,rfl⟩
 ·clear hM kn;rintro m e1 H1 ⟨i,ver1,ks1,hm,hi,hnd1,hlt1,hmem,kn,rfl⟩;have hM:=kn.e 0 rfl;have hkl:=Qb1 hnd1 hlt1;refine Qa ?_;simp only[go_sem];refine Qh (Qd rfl ?_ ?_)
  ·intro hc;have hl:i<args.length:=by simpa using hc
   have hv:=hargs _ (Qsi hl);have htk:=Qbd6 hl;have hve:args.getD i 0=((args.getD i 0).toNat:Int):=by omega
   generalize hr:(args.getD i 0).toNat=r at *;refine Qf ?_;try simp only[go_sem]
   refine Qh (Qc ?_);refine Qa ?_;simp only[go_sem,hl,Qi,Q9 _ _ hl,hve];refine Qr ?_;simp only[go_sem,hM,Qcg,Qf2,Q57];refine⟨by simp only[LIM];omega,fun H2 h2=>?_⟩;have kn:=kn.stE 0 rfl h2;refine Qr ?_;simp only[go_sem,X.next];refine⟨Qp (by omega) (by omega),args.length-(i+1),by omega,i+1,ver1+1,addK ks1 r,rfl,by omega,Qw6 hnd1,Qavm hlt1 hv.2,fun x=>?_,kn,rfl⟩;rw[addK_mem,hmem,htk,Je,Ja,or_assoc]
  ·intro hc;have hge:args.length≤i:=by simpa using hc
   refine Qv ?_;simp only[go_sem,X.next];refine Qa ?_;simp only[go_sem];refine Qj ?_;simp only[go_sem,Q4,Qaa,Qof,Ja,forall_eq,RS.op];refine⟨_,.c _ _ (.same _ rfl),hK ver1 ks1 _ kn.fin hnd1 fun r=>?_⟩;rw[hmem,Jc (by simpa[toN]using hge)]
structure SetO where
 c:C
 lg:List (Nat×Obj)
 ks:List Nat
structure SetO.ok (R:Nat)(s:SetO):Prop where
 nd:s.ks.Nodup
 lt:∀x∈s.ks,x<R
 m:(s.c=.mnil∧s.lg=[]∧s.ks=[])∨∃M ver,s.c=.mp M∧s.lg=[(M,.map ver (Qan s.ks))]
def Qw2 (ss:List SetO):List (List C):=ss.map fun s=>[s.c]
theorem Ql7 (ss:List SetO):(Qw2 ss).length=ss.length:=by simp[Qw2]
theorem Qxi (ss:List SetO)(i:Nat)(h:i<ss.length):(Qw2 ss).getD i []=[ss[i].c]:=by simp[Qw2,Jb,h]
theorem SetO.ok.isOw {R:Nat}{s:SetO}(h:s.ok R):s.c.isOw=false:=by rcases h.m with ⟨h,_⟩|⟨M,ver,h,_⟩ <;> rw[h] <;> rfl
theorem SetO.ok.len {R:Nat}{s:SetO}(h:s.ok R):s.ks.length≤R:=Qb1 h.nd h.lt
def imE (q:CodeD)(fl:Bool)(l yi yp:Nat)(ss:List SetO)(pr:List (List C)):List (Nat×Obj):=
 [(l,.st [.int .i64 q.params,.int .i64 q.regs,.sl fl 5 (Qm q.blocks),.vsl yi 1 0 q.blocks.length,.vsl yp 1 0 q.blocks.length]),(yi,.vec 1 (Qw2 ss)),(yp,.vec 1 pr)]++ss.flatMap SetO.lg
structure imOk (q:CodeD)(ss:List SetO)(pr:List (List C)):Prop where
 l:ss.length=q.blocks.length
 s:∀s∈ss,s.ok q.regs.toNat
 pl:pr.length=q.blocks.length
 p:∀b,b<q.blocks.length→∃fl,pr.getD b []=[.sl fl 1 (Qe (Qam (gnx q) (b:Int) q.blocks.length))]
def tabS (ss:List SetO)(b:Nat):RS':=fun r=>r∈((ss[b]?.map SetO.ks).getD [])
theorem Qbs2 {ss:List SetO}{b:Nat}(h:b<ss.length)(r:Nat):tabS ss b r↔r∈ss[b].ks:=by simp[tabS,h]
variable {q:CodeD}{fl:Bool}{l yi yp:Nat}{ss:List SetO}{pr:List (List C)}
theorem Q6s (kn:Kn F H (imE q fl l yi yp ss pr) L):H l=.st [.int .i64 q.params,.int .i64 q.regs,.sl fl 5 (Qm q.blocks),.vsl yi 1 0 q.blocks.length,.vsl yp 1 0 q.blocks.length]∧H yi=.vec 1 (Qw2 ss)∧H yp=.vec 1 pr:=
 ⟨kn.e 0 rfl,kn.e 1 rfl,kn.e 2 rfl⟩
theorem Qahx (kn:Kn F H (imE q fl l yi yp ss pr) L){s:SetO}(hs:s∈ss){M ver:Nat}(hl:s.lg=[(M,.map ver (Qan s.ks))]):H M=.map ver (Qan s.ks):=
 (kn.get (M,.map ver (Qan s.ks)) (Jf _ (Jk _ (Jbg.2 ⟨s,hs,by rw[hl];simp⟩)))).1
set_option maxHeartbeats 4000000 in
theorem Qbuc {b:Nat}(ho:q.ok)(hb:b<q.blocks.length)(him:imOk q ss pr)(kn:Kn F H (imE q fl l yi yp ss pr) [])
  (hK:∀M ver ks H',ks.Nodup→(∀x∈ks,x<q.regs.toNat)→(∀r,r∈ks↔(Qw q).outT (tabS ss) b r)→Kn F H' (imE q fl l yi yp ss pr) [(M,.map ver (Qan ks))]→K (.c (.mp M)) H') :
  Qo prog Qhf [.c (.ptr l 0),.c (.int .i64 b)] H K:=by
 have hr0:=ho.r0;have hr1:=ho.r1;have hb1:=ho.b1;have hFn:(Qw q).n=q.blocks.length:=rfl;have hsl:=him.l;have hpl:=him.pl;have hbd:=ho.bdF;obtain⟨y,hy⟩:∃y,q.blocks[b]=y:=⟨_,rfl⟩;have hyo:y.ok q b:=by rw[←hy];exact ho.bs b hb
 have hnx:(Qw q).nx b=y.next.map Int.toNat:=by rw[←hy,←Qahw hb];rfl
 have hnl:=hyo.nxl;have htks:(Qw2 ss).take q.blocks.length=Qw2 ss:=Jc (by rw[Ql7];omega);have htkp:pr.take q.blocks.length=pr:=Jc (by omega);refine Qb Qap Qaqa ?_;refine Qa ?_;simp only[go_sem];refine Qa ?_;simp only[go_sem];intro M hM H1 h1;have kn:Kn F H1 (imE q fl l yi yp ss pr) [(M,.map 0 (Qan []))]:=kn.al hM h1;obtain⟨hl,hyi,hyp⟩:=Q6s kn;simp only[go_sem,Qk9];refine Q5 ?_;refine Qa ?_;simp only[go_sem,hl,hb,Ql,Q1 _ _ hb,BlkD.cells,hy];refine Qbub (by omega) fun ns H2 hu hasc hmem hlen=>?_;have kn:=kn.call0 hu;simp only[go_sem,Qla,Qi];intro _;have hns:∀v∈ns,∃m:Nat,v=(m:Int)∧m<q.blocks.length∧m∈(Qw q).nx b∧(m:Int)∈gnx q b:=fun v hv=>by
  have hv':=(hmem v).1 hv;have:=hyo.nx v hv';refine⟨v.toNat,by omega,by omega,?_,?_⟩
  ·rw[hnx];exact Jo.2 ⟨v,hv',rfl⟩
  ·rw[Qahw hb,hy];have:((v.toNat:Nat):Int)=v:=by omega
   rw[this];exact hv'
 clear hl hyi hyp hM h1;refine Qh (Qc (Qu (fun m e1 H1=>∃(i ver:Nat) (ks:List Nat),m=ns.length-i∧i≤ns.length∧ks.Nodup∧(∀x∈ks,x<q.regs.toNat)∧(∀r,r∈ks↔∃v∈ns.take i,tabS ss v.toNat r∨r∈(Qw q).ea b v.toNat)∧
  Kn F H1 (imE q fl l yi yp ss pr) [(M,.map ver (Qan ks))]∧
  e1=[(0,.c (.ptr l 0)),(1,.c (.int .i64 b)),(5,.c (.mp M)),(22,.c (.sl false 1 (Qe ns))),(23,.c (.int .i64 ns.length)),(24,.c (.int .i64 i))]) ns.length ?_ ?_))
 ·exact⟨0,0,[],by omega,by omega,by simp,by simp,by simp,kn,rfl⟩
 ·clear kn hu;rintro m e1 H3 ⟨i,ver,ks,hm,hi,hnd,hlt,hks,kn,rfl⟩;refine Qa ?_;simp only[go_sem];refine Qh (Qd rfl ?_ ?_)
  ·intro hc;have hil:i<ns.length:=by simpa using hc
   obtain⟨d,hd,hdb,hdF,hdx⟩:=hns _ (Qsi hil);have htk:ns.take (i+1)=ns.take i++[(d:Int)]:=by
    rw[Ji hil,←hd];simp[Jb,hil]
   have hdss:d<ss.length:=by omega
   obtain⟨s,hs⟩:∃s,ss[d]=s:=⟨_,rfl⟩;have hsm:s∈ss:=by rw[←hs];exact Jd hdss
   have hso:=him.s s hsm;have hsw:=hso.isOw;have htabd:∀r,tabS ss d r↔r∈s.ks:=fun r=>by rw[Qbs2 hdss,hs]
   obtain⟨flp,hpr⟩:=him.p d hdb;obtain⟨z,hz⟩:∃z,q.blocks[d]=z:=⟨_,rfl⟩;have hzo:z.ok q d:=by rw[←hz];exact ho.bs d hdb
   have hea:(Qw q).ea b d=z.phis.map fun p=>(p.args.getD ((Qam (gnx q) (d:Int) q.blocks.length).idxOf (b:Int)) 0).toNat:=by rw[Q2i hdb,hz]
   have hix:=ho.ix hb hdx;have hpe:(b:Int)∈Qam (gnx q) (d:Int) q.blocks.length:=Jat.1 hix;generalize hat:(Qam (gnx q) (d:Int) q.blocks.length).idxOf (b:Int)=at_ at *;refine Qf ?_;try simp only[go_sem]
   refine Qd3 (fun e2 H2=>∃(ver:Nat) (ks:List Nat),ks.Nodup∧(∀x∈ks,x<q.regs.toNat)∧(∀r,r∈ks↔∃v∈ns.take (i+1),tabS ss v.toNat r∨r∈(Qw q).ea b v.toNat)∧
    Kn F H2 (imE q fl l yi yp ss pr) [(M,.map ver (Qan ks))]∧
    lk 0 e2=.c (.ptr l 0)∧lk 1 e2=.c (.int .i64 b)∧lk 5 e2=.c (.mp M)∧lk 22 e2=.c (.sl false 1 (Qe ns))∧lk 23 e2=.c (.int .i64 ns.length)∧lk 24 e2=.c (.int .i64 i)) ?_ ?_
   ·intro Q hnr _ _;refine Qc ?_;refine Qa ?_;simp only[go_sem,hil,Qi,Q9 _ _ hil,hd];refine Qd3 (fun e2 H2=>∃(ver:Nat) (ks1:List Nat),ks1.Nodup∧(∀x∈ks1,x<q.regs.toNat)∧(∀r,r∈ks1↔r∈ks∨r∈s.ks)∧
     Kn F H2 (imE q fl l yi yp ss pr) [(M,.map ver (Qan ks1))]∧
     lk 0 e2=.c (.ptr l 0)∧lk 1 e2=.c (.int .i64 b)∧lk 5 e2=.c (.mp M)∧lk 7 e2=.c (.int .i64 d)∧lk 22 e2=.c (.sl false 1 (Qe ns))∧lk 23 e2=.c (.int .i64 ns.length)∧lk 24 e2=.c (.int .i64 i)) ?_ ?_
    ·intro Q hnr _ _;obtain⟨hl,hyi,hyp⟩:=Q6s kn;have hMk:=kn.l 0 rfl;refine Qa ?_;rcases hso.m with ⟨hsc,_,hsk⟩|⟨N,verN,hsc,hslg⟩
     ·simp only[go_sem,hl,hyi,htks,Ql7,Qxi _ _ hdss,hs,hsc,hdb,hsl,Jn,Jh];intro it hit H4 h4;have kn:=kn.al hit h4;have hit4:=kn.l 1 rfl;refine Qc (Qu (fun m e1 H1=>H1=H4∧e1=[(0,.c (.ptr l 0)),(1,.c (.int .i64 b)),(5,.c (.mp M)),(7,.c (.int .i64 d)),(22,.c (.sl false 1 (Qe ns))),(23,.c (.int .i64 ns.length)),(24,.c (.int .i64 i)),(35,.c (.itr it))]) 0 ⟨rfl,rfl⟩ ?_);rintro m e1 H5 ⟨rfl,rfl⟩;refine Qa ?_;simp only[go_sem,hit4,Qcp,Jad];refine Qh (Qd rfl (fun h=>by simp at h) fun _=>?_);refine Qv ?_;simp only[go_sem,X.next];exact hnr _ _ ⟨ver,ks,hnd,hlt,fun r=>by rw[hsk];simp,kn.drop (A:=[_]),rfl,rfl,rfl,rfl,rfl,rfl,rfl⟩
     ·have hN:=Qahx kn hsm hslg;have hkl2:=hso.len;simp only[go_sem,hl,hyi,htks,Ql7,Qxi _ _ hdss,hs,hsc,hdb,hsl,hN,Jn,Jh];refine⟨Qah9 hso.nd,fun it hit H4 h4=>?_⟩;have kn:=kn.al hit h4;refine Qc (Qu (fun m e1 H1=>∃(left:List (C×V)) (cur:Option (C×V)) (ver:Nat) (ks1:List Nat),m=left.length∧(∀y∈left,∃x∈s.ks,y=(C.int .i64 (x:Int),V.c (.bool true)))∧left.Nodup∧ks1.Nodup∧(∀x∈ks1,x<q.regs.toNat)∧
       (∀r,r∈ks1↔r∈ks∨(r∈s.ks∧(C.int .i64 (r:Int),V.c (.bool true))∉left))∧
       Kn F H1 (imE q fl l yi yp ss pr) [(M,.map ver (Qan ks1)),(it,.iter (some (N,verN)) left cur)]∧
       e1=[(0,.c (.ptr l 0)),(1,.c (.int .i64 b)),(5,.c (.mp M)),(7,.c (.int .i64 d)),(22,.c (.sl false 1 (Qe ns))),(23,.c (.int .i64 ns.length)),(24,.c (.int .i64 i)),(35,.c (.itr it))]) (Qan s.ks).length ?_ ?_)
      ·refine⟨Qan s.ks,none,ver,ks,rfl,fun y hy=>?_,Qah9 hso.nd,hnd,hlt,fun r=>?_,kn,rfl⟩
       ·obtain⟨x,hx,rfl⟩:=Jo.1 hy;exact⟨x,hx,rfl⟩
       ·constructor
        ·exact .inl
        ·rintro (h|⟨h1,h2⟩)
         ·exact h
         ·exact absurd (Jo.2 ⟨r,h1,rfl⟩) h2
      ·clear kn h4 hit;rintro m e1 H5 ⟨left,cur,ver1,ks1,rfl,hleft,hlnd,hnd1,hlt1,hmem1,kn,rfl⟩;have hN:=Qahx kn hsm hslg;have hM5:=kn.l 0 rfl;have hit5:=kn.l 1 rfl;have hkl:=Qb1 hnd1 hlt1;refine Qa ?_;simp only[go_sem,hit5,hN];refine⟨⟨_,rfl⟩,fun hnil=>?_,fun y left' hyl hl' hnd' hlen' H6 h6=>?_⟩
       ·subst hnil;simp only[go_sem,Qcp,Jad];refine Qh (Qd rfl (fun h=>by simp at h) fun _=>?_);refine Qv ?_;simp only[go_sem,X.next];exact hnr _ _ ⟨ver1,ks1,hnd1,hlt1,fun r=>by rw[hmem1];simp,kn.drop (A:=[_]),rfl,rfl,rfl,rfl,rfl,rfl,rfl⟩
       ·obtain⟨k,hk,rfl⟩:=hleft y hyl;have kn:=kn.stL 1 rfl h6;have hN6:=Qahx kn hsm hslg;have hit6:=kn.l 1 rfl;have hM6:=kn.l 0 rfl;simp only[go_sem,Qcp,Jad];refine Qh (Qd rfl (fun _=>?_) (fun h=>by simp at h));refine Qf ?_;try simp only[go_sem]
        refine Qc ?_;refine Qa ?_;simp only[go_sem,hit6,hN6];refine⟨⟨_,rfl⟩,?_⟩;simp only[go_sem,Qlb,Jad];refine Qr ?_;simp only[go_sem,hM6,Qcg,Qf2,Q57];refine⟨by simp only[LIM];omega,fun H7 h7=>?_⟩;have kn:=kn.stL 0 rfl h7;simp only[X.next];refine⟨left'.length,by omega,left',_,ver1+1,addK ks1 k,rfl,fun y hy=>hleft y ((hl' y).1 hy).1,hnd',Qw6 hnd1,Qavm hlt1 (hso.lt k hk),fun r=>?_,kn,by trivial⟩;rw[addK_mem,hmem1,hl'];simp only[ne_eq,Jbb,C.int.injEq,true_and,and_true,not_and,Classical.not_not];constructor
        ·rintro ((h|⟨h1,h2⟩)|h)
         ·exact .inl h
         ·exact .inr ⟨h1,fun h3=>absurd h3 h2⟩
         ·subst h;exact .inr ⟨hk,fun _=>rfl⟩
        ·rintro (h|⟨h1,h2⟩)
         ·exact .inl (.inl h)
         ·by_cases h3:(C.int .i64 (r:Int),V.c (.bool true))∈left
          ·have:=h2 h3;exact .inr (by omega)
          ·exact .inl (.inr ⟨h1,h3⟩)
    ·rintro e2 H4 ⟨ver1,ks1,hnd1,hlt1,hmem1,kn,l0,l1,l5,l7,l22,l23,l24⟩;obtain⟨hl,hyi,hyp⟩:=Q6s kn;refine Qa ?_;simp only[go_sem,l0,l1,l5,l7,l22,l23,l24,hl,hyp,htkp,hpl,hdb,hpr,Jn,Jh];refine Qbia (.mk' _ _ _ _) rfl fun r hr=>?_;have hr:=hr.idx hpe;rw[hat]at hr;subst hr;simp only[go_sem,Qlc,l0,l1,l5,l7,l22,l23,l24];refine Qa ?_;simp only[go_sem,hl,hdb,Ql,Q1 _ _ hdb,BlkD.cells,hz,Qq];intro hzl;simp only[LIM]at hzl;refine Qc (Qu (fun m e1 H1=>∃(i2 ver2:Nat) (ks2:List Nat),m=z.phis.length-i2∧i2≤z.phis.length∧ks2.Nodup∧(∀x∈ks2,x<q.regs.toNat)∧(∀r,r∈ks2↔(r∈ks∨r∈s.ks)∨r∈((Qw q).ea b d).take i2)∧
      Kn F H1 (imE q fl l yi yp ss pr) [(M,.map ver2 (Qan ks2))]∧
      e1=[(0,.c (.ptr l 0)),(1,.c (.int .i64 b)),(5,.c (.mp M)),(9,.c (.int .i64 at_)),(22,.c (.sl false 1 (Qe ns))),(23,.c (.int .i64 ns.length)),(24,.c (.int .i64 i)),(59,.c (.sl false 2 (Qz z.phis))),(60,.c (.int .i64 z.phis.length)),(61,.c (.int .i64 i2))]) z.phis.length ?_ ?_)
     ·exact⟨0,ver1,ks1,by omega,by omega,hnd1,hlt1,fun r=>by rw[hmem1];simp,kn,rfl⟩
     ·clear kn hl hyi hyp;rintro m e1 H5 ⟨i2,ver2,ks2,hm2,hi2,hnd2,hlt2,hmem2,kn,rfl⟩;have hkl:=Qb1 hnd2 hlt2;refine Qa ?_;simp only[go_sem];refine Qh (Qd rfl ?_ ?_)
      ·intro hc2;have hl2:i2<z.phis.length:=(by simpa using hc2);obtain⟨p,hp⟩:∃p,z.phis[i2]=p:=⟨_,rfl⟩;have hpm:p∈z.phis:=(by rw[←hp];exact Jd hl2);have hpal:=hzo.pal p hpm;have hal:at_<p.args.length:=(by omega);obtain⟨hv,hvl⟩:=(hzo.pargs p hpm _ (Qsi hal)).nat;have htk2:((Qw q).ea b d).take (i2+1)=((Qw q).ea b d).take i2++[(p.args.getD at_ 0).toNat]:=by
        rw[Ji (by rw[hea,Jw];exact hl2)];simp[hea,hp]
       generalize hr:(p.args.getD at_ 0).toNat=r at *;refine Qf ?_;try simp only[go_sem]
       refine Qh (Qc ?_);refine Qa ?_;simp only[go_sem,hl2,Qq,Qal _ _ hl2,PhiD.cells,hp];intro x11 hx11 H6 h6;have kn:=kn.al hx11 h6;have hx11:=kn.l 1 rfl;simp only[go_sem,Qld,hx11];intro H7 h7;have kn:Kn F H7 (imE q fl l yi yp ss pr) [(M,.map ver2 (Qan ks2)),(x11,.st [.int .i64 p.to,.sl false 1 (Qe p.args)])]:=kn.stL 1 rfl h7;have hx11:=kn.l 1 rfl;have hM7:=kn.l 0 rfl;refine Qr ?_;simp only[go_sem,hx11,hM7,hal,Qi,Q9 _ _ hal,hv,Qcg,Qf2,Q57];refine⟨by simp only[LIM];omega,fun H8 h8=>?_⟩;have kn:=kn.stL 0 rfl h8;refine Qr ?_;simp only[go_sem,X.next];refine⟨Qp (by omega) (by omega),z.phis.length-(i2+1),by omega,i2+1,ver2+1,addK ks2 r,rfl,by omega,Qw6 hnd2,Qavm hlt2 hvl,fun x=>?_,kn.drop (A:=[_]),rfl⟩;rw[addK_mem,hmem2,htk2,Je,Ja,or_assoc]
      ·intro hc2;have hge2:z.phis.length≤i2:=(by simpa using hc2);refine Qv ?_;simp only[go_sem,X.next];refine hnr _ _ ⟨ver2,ks2,hnd2,hlt2,fun r=>?_,kn,rfl,rfl,rfl,rfl,rfl,rfl⟩;have hte:((Qw q).ea b d).take i2=(Qw q).ea b d:=Jc (by rw[hea,Jw];exact hge2);rw[hmem2,hks,htk,hte];constructor
       ·rintro ((⟨v,hv,h⟩|h)|h)
        ·exact⟨v,Jf _ hv,h⟩
        ·exact⟨(d:Int),Jk _ (by simp),.inl ((htabd r).2 h)⟩
        ·exact⟨(d:Int),Jk _ (by simp),.inr h⟩
       ·rintro⟨v,hv,h⟩;rcases Je.1 hv with hv|hv
        ·exact .inl (.inl ⟨v,hv,h⟩)
        ·simp only[Ja]at hv;subst hv;rcases h with h|h
         ·exact .inl (.inr ((htabd r).1 h))
         ·exact .inr h
   ·rintro e2 H4 ⟨ver1,ks1,hnd1,hlt1,hks1,kn,l0,l1,l5,l22,l23,l24⟩;refine Qr ?_;simp only[go_sem,X.next,l0,l1,l5,l22,l23,l24];exact⟨Qp (by omega) (by omega),ns.length-(i+1),by omega,i+1,ver1,ks1,rfl,by omega,hnd1,hlt1,hks1,kn,rfl⟩
  ·intro hc;have hge:ns.length≤i:=by simpa using hc
   rw[Jc hge]at hks;refine Qv ?_;simp only[go_sem,X.next];refine Qa ?_;simp only[go_sem];refine Qj ?_;simp only[go_sem,Q4,Qaa,Qza,Ja,forall_eq,RS.op];refine hK M ver ks H3 hnd hlt (fun r=>?_) kn;rw[hks];constructor
   ·rintro⟨v,hv,h⟩;exact⟨v.toNat,by rw[hnx];exact Jo.2 ⟨v,(hmem v).1 hv,rfl⟩,h⟩
   ·rintro⟨d,hd,h⟩;rw[hnx]at hd;obtain⟨v,hv,rfl⟩:=Jo.1 hd;exact⟨v,(hmem v).2 hv,h⟩
end Go.AE.Y
namespace Go.AE.Y
attribute [local instance] Classical.propDecidable
def tab (zs:List (Nat×List Bool))(b:Nat):RS':=fun r=>(((zs[b]?).map Prod.snd).getD []).getD r false=true
variable {zs zi zo:List (Nat×List Bool)}{F:Flo}
theorem Qbmz {b:Nat}(h:b<zs.length)(r:Nat):tab zs b r↔zs[b].2.getD r false=true:=by simp[tab,h]
theorem Qbd5 {b:Nat}{x:Nat×List Bool}(h:b<zs.length)(r:Nat):tab (zs.set b x) b r↔x.2.getD r false=true:=by simp[tab,h]
theorem Qw4 {b c:Nat}{x:Nat×List Bool}(h:c≠b):tab (zs.set b x) c=tab zs c:=by
 funext r
 simp only[tab];rw[List.getElem?_set_ne (fun e=>h e.symm)]
theorem Qa5w {α:Type}{l:List α}{i:Nat}{x:α}(h:l[i]? = some x):l.set i x=l:=by
 have hi:=(List.getElem?_eq_some_iff.1 h).1;refine Jaj fun j=>?_;rw[Jaa];by_cases hij:i=j
 ·subst hij;rw[if_pos rfl,if_pos hi,h]
 ·rw[if_neg hij]
theorem Qahb {a b:List Bool}(hl:a.length=b.length)(h:∀r,a.getD r false=true→b.getD r false=true):cnt a≤cnt b∧(∀r,a.getD r false≠b.getD r false→cnt a<cnt b):=by
 induction a generalizing b with
 |nil=>
  cases b with
  |nil=>exact⟨Jh _,fun r hr=>absurd rfl hr⟩
  |cons=>simp at hl
 |cons x a ih=>
  cases b with
  |nil=>simp at hl
  |cons y b=>
   have ih':=ih (b:=b) (by simpa using hl) fun r hr=>by have:=h (r+1);simpa using this (by simpa using hr)
   have h0:x=true→y=true:=by have:=h 0;simpa using this
   have hc:∀(z:Bool) (l:List Bool),cnt (z::l)=cnt l+(if z=true then 1 else 0):=fun z l=>by
    simp only[cnt,Jbi];cases z <;> simp
   rw[hc,hc];refine⟨?_,fun r hr=>?_⟩
   ·cases x with
    |false=>have:=ih'.1;cases y <;> simp <;> omega
    |true=>rw[h0 rfl];have:=ih'.1;simp;omega
   ·cases r with
    |zero=>
     have hxy:x≠y:=by simpa using hr
     cases x with
     |true=>exact absurd (h0 rfl).symm hxy
     |false=>
      cases y with
      |false=>exact absurd rfl hxy
      |true=>have:=ih'.1;simp;omega
    |succ r=>
     have:=ih'.2 r (by simpa using hr)
     cases x with
     |false=>cases y <;> simp <;> omega
     |true=>rw[h0 rfl];simp;omega
def Ql8 (zs:List (Nat×List Bool)):Nat:=(zs.map fun p=>cnt p.2).sum
theorem Qbd7 {b:Nat}{x:Nat×List Bool}(h:b<zs.length):Ql8 (zs.set b x)+cnt zs[b].2=Ql8 zs+cnt x.2:=by
 induction zs generalizing b with
 |nil=>simp at h
 |cons z zs ih=>
  cases b with
  |zero=>simp[Ql8];omega
  |succ b=>
   have:=ih (b:=b) (by simpa using h);simp only[Ql8,Jaq,Jr,Jaw,List.getElem_cons_succ]at this⊢;omega
theorem Qazn {R:Nat}(h:∀p∈zs,p.2.length=R):Ql8 zs≤zs.length * R:=by
 induction zs with
 |nil=>simp[Ql8]
 |cons z zs ih=>
  have h1:=Qbtj z.2;rw[h z Jm]at h1;have h2:=ih fun p hp=>h p (Jj _ hp);simp only[Ql8,Jr,Jaw,Js,Jbe]at *;omega
structure LvInv (F:Flo)(zi zo:List (Nat×List Bool)):Prop where
 bi:∀b,b<F.n→∀r,tab zi b r→F.LI b r
 bo:∀b,b<F.n→∀r,tab zo b r→F.LO b r
 post:∀b,b<F.n→∀r,tab zi b r→F.thru (tab zo b) b r
def LvCl (F:Flo)(zi zo:List (Nat×List Bool))(b:Nat):Prop:=(∀r,F.outT (tab zi) b r→tab zo b r)∧∀r,F.thru (tab zo b) b r→tab zi b r
theorem LvInv.done (h:LvInv F zi zo)(hf:F.fits)(hc:∀b,b<F.n→LvCl F zi zo b):∀b,b<F.n→∀r,(tab zi b r↔F.LI b r)∧(tab zo b r↔F.LO b r):=by
 have hp:F.Pre (tab zi):=fun b hb r hr=>(hc b hb).2 r (Flo.thru_mono (hc b hb).1 b r hr);intro b hb r;refine⟨Flo.is_least hp h.bi hb r,h.bo b hb r,fun hr=>(hc b hb).1 r ?_⟩;exact Flo.outT_mono hf (fun c hc r hr=>(Flo.is_least hp h.bi hc r).2 hr) hb r hr
theorem LvInv.step {R z w y b:Nat}{bs bw bs1 nb:List Bool}{a a1 a2:Bool}(h:LvInv F zi zo)(hf:F.fits)(hb:b<F.n)(hil:zi.length=F.n)(hol:zo.length=F.n)(hRi:∀p∈zi,p.2.length=R)(hRo:∀p∈zo,p.2.length=R)
  (hl1:bs1.length=R) (hln:nb.length=R) (hzo:zo[b]? = some (z,bs)) (hzi:zi[b]? = some (w,bw))
  (g1:∀r,bs.getD r false=true→bs1.getD r false=true) (g2:∀r,bs1.getD r false=true→F.LO b r) (g3:∀r,F.outT (tab zi) b r→bs1.getD r false=true)
  (g4:∀r,nb.getD r false=true↔F.thru (fun r=>bs1.getD r false=true) b r)
  (k1:a1=true→a=true∨cnt bs<cnt bs1) (k2:a1=false→a=false∧bs1=bs)
  (k3:a2=true→a1=true∨∃r,nb.getD r false≠bw.getD r false) (k4:a2=false→a1=false∧∀r,r<R→nb.getD r false=bw.getD r false) :
  LvInv F (zi.set b (y,nb)) (zo.set b (z,bs1))∧Ql8 zi+Ql8 zo≤Ql8 (zi.set b (y,nb))+Ql8 (zo.set b (z,bs1))∧
   (a2=true→a=true∨Ql8 zi+Ql8 zo<Ql8 (zi.set b (y,nb))+Ql8 (zo.set b (z,bs1)))∧
   (a2=false→a=false∧LvCl F (zi.set b (y,nb)) (zo.set b (z,bs1)) b∧∀c,LvCl F zi zo c→LvCl F (zi.set b (y,nb)) (zo.set b (z,bs1)) c):=by
 have hbi:b<zi.length:=by omega
 have hbo:b<zo.length:=by omega
 have ezo:zo[b]=(z,bs):=by rw[Jg hbo]at hzo;simpa using hzo
 have ezi:zi[b]=(w,bw):=by rw[Jg hbi]at hzi;simpa using hzi
 have hlb:bs.length=R:=hRo (z,bs) (by rw[←ezo];exact Jd hbo);have hlw:bw.length=R:=hRi (w,bw) (by rw[←ezi];exact Jd hbi);have tzo:∀r,tab zo b r↔bs.getD r false=true:=fun r=>by rw[Qbmz hbo,ezo]
 have tzi:∀r,tab zi b r↔bw.getD r false=true:=fun r=>by rw[Qbmz hbi,ezi]
 have tzo':∀r,tab (zo.set b (z,bs1)) b r↔bs1.getD r false=true:=fun r=>Qbd5 hbo r;have tzi':∀r,tab (zi.set b (y,nb)) b r↔nb.getD r false=true:=fun r=>Qbd5 hbi r;have hsub:∀r,bw.getD r false=true→nb.getD r false=true:=fun r hr=>by
  rw[g4];exact Flo.thru_mono (fun r hr=>g1 r ((tzo r).1 hr)) b r (h.post b hb r ((tzi r).2 hr))
 have c1:=Qahb (a:=bs) (b:=bs1) (by omega) g1;have c2:=Qahb (a:=bw) (b:=nb) (by omega) hsub;have t1:=Qbd7 (zs:=zo) (x:=(z,bs1)) hbo;have t2:=Qbd7 (zs:=zi) (x:=(y,nb)) hbi;rw[ezo]at t1;rw[ezi]at t2;simp only at t1 t2;refine⟨⟨fun c hc r hr=>?_,fun c hc r hr=>?_,fun c hc r hr=>?_⟩,by have:=c1.1;have:=c2.1;omega,fun ha=>?_,fun ha=>?_⟩
 ·by_cases hcb:c=b
  ·subst hcb;rw[tzi',g4]at hr;exact Flo.LI_pre hf c hb r (Flo.thru_mono g2 c r hr)
  ·rw[Qw4 hcb]at hr;exact h.bi c hc r hr
 ·by_cases hcb:c=b
  ·subst hcb;rw[tzo']at hr;exact g2 r hr
  ·rw[Qw4 hcb]at hr;exact h.bo c hc r hr
 ·by_cases hcb:c=b
  ·subst hcb;rw[tzi',g4]at hr;exact Flo.thru_mono (fun r hr=>(tzo' r).2 hr) c r hr
  ·rw[Qw4 hcb]at hr⊢;exact h.post c hc r hr
 ·rcases k3 ha with h1|⟨r,hr⟩
  ·rcases k1 h1 with h2|h2
   ·exact .inl h2
   ·right;have:=c2.1;omega
  ·right;have:=c2.2 r (fun e=>hr e.symm);have:=c1.1;omega
 ·obtain⟨h1,h2⟩:=k4 ha;obtain⟨h3,h4⟩:=k2 h1;have hnb:∀r,nb.getD r false=bw.getD r false:=fun r=>by
   by_cases hr:r<R
   ·exact h2 r hr
   ·rw[Jb,Jb,Jp (by omega),Jp (by omega)]
  have ti:tab (zi.set b (y,nb))=tab zi:=by
   funext c r
   by_cases hcb:c=b
   ·subst hcb;refine propext ?_;rw[tzi',tzi,hnb]
   ·rw[Qw4 hcb]
  have to:tab (zo.set b (z,bs1))=tab zo:=by
   funext c r
   by_cases hcb:c=b
   ·subst hcb;refine propext ?_;rw[tzo',tzo,h4]
   ·rw[Qw4 hcb]
  refine⟨h3,⟨fun r hr=>?_,fun r hr=>?_⟩,fun c hc=>?_⟩
  ·rw[ti]at hr;exact (tzo' r).2 (g3 r hr)
  ·rw[tzi',g4];exact Flo.thru_mono (fun r hr=>(tzo' r).1 hr) b r hr
  ·rw[LvCl,ti,to];exact hc
end Go.AE.Y
namespace Go.AE.Y
attribute [local go_sem] cond_true cond_false Bool.not_true Bool.not_false
open Go.Proofs.Tryz
variable {H H0 F:Heap}{K:V→Heap→Prop}{E L:List (Nat×Obj)}
def Qbr (R:Nat)(zs:List (Nat×List Bool)):List (List C):=zs.map fun p=>[.vsl p.1 1 0 R]
def obZ (zs:List (Nat×List Bool)):List (Nat×Obj):=zs.map fun p=>(p.1,.vec 1 (Qs p.2))
theorem Qaz (R:Nat)(zs:List (Nat×List Bool)):(Qbr R zs).length=zs.length:=by simp[Qbr]
theorem Qdq (R:Nat)(zs:List (Nat×List Bool))(i:Nat)(h:i<zs.length):(Qbr R zs).getD i []=[.vsl zs[i].1 1 0 R]:=by simp[Qbr,Jb,h]
theorem Qa1g {R:Nat}{zs:List (Nat×List Bool)}{i:Nat}{x:Nat×List Bool}(h:i<zs.length)(hx:x.1=zs[i].1):Qbr R (zs.set i x)=Qbr R zs:=by
 rw[Qbr,Jaf,hx];refine Jaj fun j=>?_;rw[Jaa];split
 ·subst_vars;rw[if_pos (by simpa using h)];simp[Qbr,h]
 ·rfl
def lvE (R yi yo:Nat)(zi zo:List (Nat×List Bool)):List (Nat×Obj):=[(yi,.vec 1 (Qbr R zi)),(yo,.vec 1 (Qbr R zo))]++(obZ zi++obZ zo)
variable {R yi yo:Nat}{zi zo:List (Nat×List Bool)}
theorem Qbvc {b:Nat}(hb:b<zo.length):(lvE R yi yo zi zo)[2+zi.length+b]? = some (zo[b].1,.vec 1 (Qs zo[b].2)):=by
 have:2+zi.length+b=(zi.length+b)+1+1:=by omega
 rw[lvE,this];simp only[Jz,J1,List.getElem?_cons_succ];rw[List.getElem?_append_right (by simp[obZ])];simp[obZ,hb]
theorem Qbr9 {b z:Nat}{bs:List Bool}(hb:b<zo.length)(hz:zo[b].1=z):(lvE R yi yo zi zo).set (2+zi.length+b) (z,.vec 1 (Qs bs))=lvE R yi yo zi (zo.set b (z,bs)):=by
 have:2+zi.length+b=(zi.length+b)+1+1:=by omega
 rw[lvE,lvE,this,Qa1g hb hz.symm];simp only[Jz,J1,Jaq];rw[List.set_append_right _ _ (by simp[obZ])];simp[obZ,Jaf]
theorem Qawj {b m z w:Nat}{bs nb:List Bool}(kn:Kn F H (lvE R yi yo zi (zo.set b (z,bs))) L)(hb:b<zo.length)(hz:zo[b].1=z)(hm:m<zi.length)(hw:zi[m]=(w,nb)) :
  H yi=.vec 1 (Qbr R zi)∧H yo=.vec 1 (Qbr R zo)∧H z=.vec 1 (Qs bs)∧H w=.vec 1 (Qs nb):=by
 refine⟨(kn.get (yi,.vec 1 (Qbr R zi)) (by simp[lvE])).1,?_,(kn.get (z,.vec 1 (Qs bs)) ?_).1,(kn.get (w,.vec 1 (Qs nb)) ?_).1⟩
 ·rw[←Qa1g (R:=R) (x:=(z,bs)) hb hz.symm];exact (kn.get (yo,.vec 1 (Qbr R (zo.set b (z,bs)))) (by simp[lvE])).1
 ·refine Jf _ (Jk _ (Jk _ (Jo.2 ⟨(z,bs),?_,rfl⟩)));exact J0.2 ⟨b,by simpa using hb,by simp⟩
 ·exact Jf _ (Jk _ (Jf _ (Jo.2 ⟨(w,nb),by rw[←hw];exact Jd hm,rfl⟩)))
theorem Qbr8 {b z:Nat}{bs bs2:List Bool}{H':Heap}(kn:Kn F H (lvE R yi yo zi (zo.set b (z,bs))) L)(hb:b<zo.length)(h:H'=H.set z (.vec 1 (Qs bs2))):Kn F H' (lvE R yi yo zi (zo.set b (z,bs2))) L:=by
 have hb':b<(zo.set b (z,bs)).length:=by simpa using hb
 have:=kn.stE (2+zi.length+b) (x:=z) (o:=.vec 1 (Qs bs)) (by have h:=Qbvc (R:=R) (yi:=yi) (yo:=yo) (zi:=zi) hb';simpa using h) h;rw[Qbr9 hb' (by simp),Jbo]at this;exact this
theorem Qbj3 {b z:Nat}{bs bs2:List Bool}:(lvE R yi yo zi (zo.set b (z,bs))).map Prod.fst=(lvE R yi yo zi (zo.set b (z,bs2))).map Prod.fst:=by
 have e:∀bs:List Bool,(obZ (zo.set b (z,bs))).map Prod.fst=(zo.map Prod.fst).set b z:=fun bs=>by
  simp only[obZ,Jaf,List.map_map];rfl
 simp only[lvE,Jx,Jr,Jae,e]
theorem Q53 {bs:List Bool}{r:Nat}(h:bs.getD r false=true):bs.set r true=bs:=by
 refine Jaj fun j=>?_;rw[Jaa];split
 ·subst_vars
  rw[Jb]at h;split
  ·rename_i hl;rw[Jg hl]at h⊢;simp at h;rw[h]
  ·rename_i hl;rw[Jp (by omega)]
 ·rfl
structure lvOk (R n:Nat)(zi zo:List (Nat×List Bool)):Prop where
 i:zi.length=n
 o:zo.length=n
 li:∀p∈zi,p.2.length=R
 lo:∀p∈zo,p.2.length=R
set_option maxHeartbeats 4000000 in
theorem Qbjo {q:CodeD}{bc:C}{Xs:List Nat}{b m z:Nat}{bs nb:List Bool}{w:Nat}(ho:q.ok)(hbc:CodeR F Xs bc q)(hX:∀x∈(lvE q.regs.toNat yi yo zi zo).map Prod.fst,x∈Xs)(hb:b<q.blocks.length)(hmx:(m:Int)∈gnx q b)(hok:lvOk q.regs.toNat q.blocks.length zi zo)
  (hz:zo[b]? = some (z,bs)) (hw:zi[m]? = some (w,nb)) {O I:RS'} (hO:Mem bs O) (hI:Mem nb I)
  (kn:Kn F H (lvE q.regs.toNat yi yo zi zo) [])
  (hK:∀(bs':List Bool) (a:Bool) H',bs'.length=q.regs.toNat→Mem bs' (fun r=>O r∨I r∨r∈(Qw q).ea b m)→(a=true→cnt bs<cnt bs')→(a=false→bs'=bs)→Kn F H' (lvE q.regs.toNat yi yo zi (zo.set b (z,bs'))) []→K (.c (.bool a)) H') :
  Qo prog Q6k [.ag [.int .i64 q.params,.int .i64 q.regs,bc],.ag [.vsl yi 1 0 q.blocks.length,.vsl yo 1 0 q.blocks.length],.c (.int .i64 b),.c (.int .i64 m)] H K:=by
 have hr0:=ho.r0;have hr1:=ho.r1;have hb1:=ho.b1;have hmb:m<q.blocks.length:=by
  have:=(ho.bs b hb).nx (m:Int) (by rw[←Qahw hb];exact hmx);omega
 have hix:=ho.ix hb hmx;have hpe:(b:Int)∈Qam (gnx q) (m:Int) q.blocks.length:=Jat.1 hix;obtain⟨y,hy⟩:∃y,q.blocks[m]=y:=⟨_,rfl⟩;have hyo:y.ok q m:=by rw[←hy];exact ho.bs m hmb
 have hil:y.ins.length≤1200∧y.phis.length≤1200:=by rw[←hy];exact ho.il m hmb
 have hea:(Qw q).ea b m=y.phis.map fun p=>(p.args.getD ((Qam (gnx q) (m:Int) q.blocks.length).idxOf (b:Int)) 0).toNat:=by rw[Q2i hmb,hy]
 generalize hat:(Qam (gnx q) (m:Int) q.blocks.length).idxOf (b:Int)=at_ at *;have hbo:b<zo.length:=by rw[hok.o];exact hb
 have hmi:m<zi.length:=by rw[hok.i];exact hmb
 have hz':zo[b]=(z,bs):=by rw[Jg hbo]at hz;simpa using hz
 have hw':zi[m]=(w,nb):=by rw[Jg hmi]at hw;simpa using hw
 have hz1:zo[b].1=z:=by rw[hz']
 have hw1:zi[m].1=w:=by rw[hw']
 have hbl:bs.length=q.regs.toNat:=hok.lo (z,bs) (by rw[←hz'];exact Jd hbo);have hnl:nb.length=q.regs.toNat:=hok.li (w,nb) (by rw[←hw'];exact Jd hmi);have hzl:=hok.o;have hil2:=hok.i;have hset:zo.set b (z,bs)=zo:=Qa5w hz;have htk:∀(bs1:List Bool),bs1.length=q.regs.toNat→(Qs bs1).take q.regs.toNat=Qs bs1:=fun bs1 h=>Jc (by rw[Q7];omega);have htz:∀(zs:List (Nat×List Bool)),zs.length=q.blocks.length→(Qbr q.regs.toNat zs).take q.blocks.length=Qbr q.regs.toNat zs:=fun zs h=>Jc (by rw[Qaz];omega);rw[←hset]at kn hX;have hbw:=hbc.ow;have hX2:∀(bs1:List Bool),∀x∈(lvE q.regs.toNat yi yo zi (zo.set b (z,bs1))).map Prod.fst,x∈Xs:=fun bs1 x hx=>hX x (by rw[Qbj3 (bs2:=bs)]at hx;exact hx);obtain⟨hyi,hyo',hzz,hww⟩:=Qawj kn hbo hz1 hmi hw';refine Qb Qap Qbkc ?_;refine Qa ?_;simp only[go_sem,hbw];refine Qa ?_;simp only[go_sem,hbw,hyi,hww,htz _ hil2,htk _ hnl,Qaz,Qdq _ _ _ hmi,hw1,hmb,hil2,Q7,hnl,Jn,Jh,J1,Jy];refine⟨.inl trivial,Qrz _,by simp only[LIM];omega,fun y9 hy9 H1 h1=>?_⟩;have kn:=kn.al hy9 h1;simp only[go_sem,Qaa9,hbw];refine Qa ?_;simp only[go_sem,hbw];refine Qah3 (rows:=Qm q.blocks) (nx:=gnx q) (hbc.rd kn hX) hbw (Qav1 H1 q false).x fun H2 hu=>?_;have kn:=kn.call0 hu;rw[Ql];simp only[go_sem,Qabb];refine Qbjk (.mk' _ _ _ _) rfl fun r hr=>?_;have hr:=hr.idx hpe;rw[hat]at hr;subst hr;simp only[go_sem,Qaba];refine Q5 ?_;refine Qa ?_;simp only[go_sem];refine Qh (Qc (Qu (fun m1 e1 H1=>∃(i:Nat) (nb1:List Bool),m1=y.phis.length-i∧i≤y.phis.length∧nb1.length=q.regs.toNat∧Mem nb1 (fun r=>I r∨r∈((Qw q).ea b m).take i)∧Kn F H1 (lvE q.regs.toNat yi yo zi (zo.set b (z,bs))) [(y9,.vec 1 (Qs nb1))]∧
  e1=[(2,.c (.int .i64 b)),(3,.c (.int .i64 m)),(4,.c (.pp [.int .i64 q.params,.int .i64 q.regs,bc])),(5,.c (.pp [.vsl yi 1 0 q.blocks.length,.vsl yo 1 0 q.blocks.length])),(9,.c (.vsl y9 1 0 q.regs.toNat)),(10,.c (.int .i64 at_)),(11,.c (.int .i64 i))]) y.phis.length ?_ ?_))
 ·exact⟨0,nb,by omega,by omega,hnl,hI.congr fun r=>by simp,kn,rfl⟩
 ·rintro m1 e1 H3 ⟨i,nb1,hm1,hi,hnl,hN,kn,rfl⟩;have hy9:=kn.l 0 rfl;obtain⟨hbok,hbln,hbsz,hbrw⟩:=hbc.facts kn (hX2 bs);refine Q5 ?_;refine Qa ?_;simp only[go_sem,hbw,hbok,hbln,hbsz,hbrw,hmb,Ql,Q1 _ _ hmb,hy,BlkD.cells,Qq];intro _;refine Qh (Qd rfl ?_ ?_)
  ·intro hc;have hlt:i<y.phis.length:=by simpa using hc
   have hpal:=hyo.pal _ (Jd hlt);have hal:at_<y.phis[i].args.length:=by omega
   obtain⟨hv,hvl⟩:=(hyo.pargs _ (Jd hlt) _ (Qsi hal)).nat;have htk2:((Qw q).ea b m).take (i+1)=((Qw q).ea b m).take i++[(y.phis[i].args.getD at_ 0).toNat]:=by
    rw[Ji (by rw[hea,Jw];exact hlt)];simp[hea]
   have hvl':(y.phis[i].args.getD at_ 0).toNat<nb1.length:=by omega
   generalize hr:(y.phis[i].args.getD at_ 0).toNat=r at *;refine Qf ?_;try simp only[go_sem]
   refine Qh (Qc ?_);refine Qr ?_;simp only[go_sem,hbw,hbok,hbln,hbsz,hbrw,hmb,Ql,Q1 _ _ hmb,hy,BlkD.cells,Qq,hlt,Qal _ _ hlt,PhiD.cells,hal,Qi,Q9 _ _ hal,hv,hvl,hy9,htk _ hnl,Q7,hnl,Qe9,Qau _ _ hvl',Jn,Jh];intro H4 h4;have kn:=kn.stL 0 rfl h4;refine Qr ?_;simp only[go_sem,X.next];refine⟨Qp (by omega) (by omega),y.phis.length-(i+1),by omega,i+1,_,rfl,by omega,by rw[Jq];exact hnl,?_,kn,rfl⟩;refine (hN.ins (by omega)).congr fun x=>?_;rw[htk2];simp only[Je,Ja];constructor
   ·rintro (h|h|h)
    ·exact .inr (.inr h)
    ·exact .inl h
    ·exact .inr (.inl h)
   ·rintro (h|h|h)
    ·exact .inr (.inl h)
    ·exact .inr (.inr h)
    ·exact .inl h
  ·intro hc;have hge:y.phis.length≤i:=by simpa using hc
   have hN:Mem nb1 (fun r=>I r∨r∈(Qw q).ea b m):=hN.congr fun r=>by rw[Jc (by rw[hea,Jw];exact hge)]
   refine Qv ?_;simp only[go_sem,X.next];refine Qa ?_;simp only[go_sem];refine Q5 ?_;refine Qa ?_;simp only[go_sem];refine Qh (Qc (Qu (fun m1 e1 H1=>∃(i:Nat) (bs1:List Bool) (more:Bool),m1=q.regs.toNat-i∧i≤q.regs.toNat∧bs1.length=q.regs.toNat∧Mem bs1 (fun r=>O r∨(r<i∧(I r∨r∈(Qw q).ea b m)))∧(more=true→cnt bs<cnt bs1)∧(more=false→bs1=bs)∧
    Kn F H1 (lvE q.regs.toNat yi yo zi (zo.set b (z,bs1))) [(y9,.vec 1 (Qs nb1))]∧
    e1=[(2,.c (.int .i64 b)),(4,.c (.pp [.int .i64 q.params,.int .i64 q.regs,bc])),(5,.c (.pp [.vsl yi 1 0 q.blocks.length,.vsl yo 1 0 q.blocks.length])),(9,.c (.vsl y9 1 0 q.regs.toNat)),(12,.c (.bool more)),(13,.c (.int .i64 i))]) q.regs.toNat ?_ ?_))
   ·exact⟨0,bs,false,by omega,by omega,hbl,hO.congr fun r=>by simp,by simp,fun _=>rfl,kn,rfl⟩
   ·rintro m1 e1 H4 ⟨i,bs1,more,hm1,hi,hbl1,hB,hmt,hmf,kn,rfl⟩;have hy9:=kn.l 0 rfl;obtain⟨hyi,hyo',hzz,hww⟩:=Qawj kn hbo hz1 hmi hw';refine Q5 ?_;refine Qa ?_;simp only[go_sem];refine Qh (Qd rfl ?_ ?_)
    ·intro hc;have hlt:i<q.regs.toNat:=(by have:(i:Int)<q.regs:=(by simpa using hc);omega);have hlt':i<nb1.length:=(by omega);have hlt2:i<bs1.length:=(by omega);refine Qf ?_;try simp only[go_sem]
     refine Qd3 (fun e2 H2=>∃(bs2:List Bool) (more:Bool),bs2.length=q.regs.toNat∧Mem bs2 (fun r=>O r∨(r<i+1∧(I r∨r∈(Qw q).ea b m)))∧(more=true→cnt bs<cnt bs2)∧(more=false→bs2=bs)∧
      Kn F H2 (lvE q.regs.toNat yi yo zi (zo.set b (z,bs2))) [(y9,.vec 1 (Qs nb1))]∧
      lk 2 e2=.c (.int .i64 b)∧lk 4 e2=.c (.pp [.int .i64 q.params,.int .i64 q.regs,bc])∧lk 5 e2=.c (.pp [.vsl yi 1 0 q.blocks.length,.vsl yo 1 0 q.blocks.length])∧lk 9 e2=.c (.vsl y9 1 0 q.regs.toNat)∧lk 12 e2=.c (.bool more)∧lk 13 e2=.c (.int .i64 i)) ?_ ?_
     ·intro Q hnr _ _;refine Qc ?_;refine Qa ?_;simp only[go_sem,hy9,hlt,htk _ hnl,Q7,hnl,Qau _ _ hlt',Jn,Jh];refine Qd rfl ?_ ?_
      ·intro hc2;have hneed:=(hN i).1 hc2;have hMem:Mem (bs1.set i true) (fun r=>O r∨(r<i+1∧(I r∨r∈(Qw q).ea b m))):=(hB.ins hlt2).congr fun r=>by
        constructor
        ·rintro (rfl|h|h)
         ·exact .inr ⟨by omega,hneed⟩
         ·exact .inl h
         ·exact .inr ⟨by omega,h.2⟩
        ·rintro (h|h)
         ·exact .inr (.inl h)
         ·by_cases hri:r=i
          ·exact .inl hri
          ·exact .inr (.inr ⟨by omega,h.2⟩)
       have hset2:∀(e:Env),lk 2 e=.c (.int .i64 b)→lk 4 e=.c (.pp [.int .i64 q.params,.int .i64 q.regs,bc])→lk 5 e=.c (.pp [.vsl yi 1 0 q.blocks.length,.vsl yo 1 0 q.blocks.length])→lk 9 e=.c (.vsl y9 1 0 q.regs.toNat)→lk 12 e=.c (.bool (bif more then true else !bs1.getD i false))→lk 13 e=.c (.int .i64 i)→
         Qaj prog Qakp (X.inBlock 3 Q) e H4:=by
        intro e l2 l4 l5 l9 l12 l13;refine Qr ?_;simp only[go_sem,l2,l4,l5,l9,l12,l13,hyo',hzz,htz _ hzl,htk _ hbl1,Qaz,Qdq _ _ _ hbo,hz1,hb,hzl,hlt,Q7,hbl1,Qe9,Qau _ _ hlt2,Jn,Jh];intro H5 h5;refine hnr _ _ ⟨bs1.set i true,_,by rw[Jq];exact hbl1,hMem,?_,?_,Qbr8 kn hbo h5,rfl,rfl,rfl,rfl,rfl,rfl⟩
        ·intro hmo
         cases hg:bs1.getD i false with
         |true=>
          rw[Q53 hg];rw[hg]at hmo
          cases hmm:more with
          |true=>exact hmt hmm
          |false=>rw[hmm]at hmo;simp at hmo
         |false=>
          rw[Qa6d hlt2 hg]
          cases hmm:more with
          |true=>have:=hmt hmm;omega
          |false=>rw[hmf hmm];omega
        ·intro hmo
         cases hmm:more with
         |true=>rw[hmm]at hmo;simp at hmo
         |false=>
          rw[hmm]at hmo;have hg:bs1.getD i false=true:=(by simpa using hmo);rw[Q53 hg];exact hmf hmm
       cases hmm:more with
       |true=>
        refine Qa ?_;simp only[go_sem,hyo',hzz,htz _ hzl,htk _ hbl1,Qaz,Qdq _ _ _ hbo,hz1,hb,hzl,hlt,Q7,hbl1,Qau _ _ hlt2,Jn,Jh];exact hset2 _ rfl rfl rfl rfl (by rw[hmm];rfl) rfl
       |false=>
        refine Qa ?_;simp only[go_sem,hyo',hzz,htz _ hzl,htk _ hbl1,Qaz,Qdq _ _ _ hbo,hz1,hb,hzl,hlt,Q7,hbl1,Qau _ _ hlt2,Jn,Jh];exact hset2 _ rfl rfl rfl rfl (by rw[hmm];rfl) rfl
      ·intro hc2;refine Qf ?_;try simp only[go_sem]
       refine hnr _ _ ⟨bs1,more,hbl1,hB.congr fun r=>?_,hmt,hmf,kn,rfl,rfl,rfl,rfl,rfl,rfl⟩;constructor
       ·rintro (h|h)
        ·exact .inl h
        ·exact .inr ⟨by omega,h.2⟩
       ·rintro (h|h)
        ·exact .inl h
        ·by_cases hri:r=i
         ·subst hri;have:=(hN r).2 h.2;rw[this]at hc2;exact absurd hc2 (by simp)
         ·exact .inr ⟨by omega,h.2⟩
     ·rintro e2 H5 ⟨bs2,more2,hbl2,hB2,hmt2,hmf2,kn,l2,l4,l5,l9,l12,l13⟩;refine Qr ?_;simp only[go_sem,X.next,l2,l4,l5,l9,l12,l13];exact⟨Qp (by omega) (by omega),q.regs.toNat-(i+1),by omega,i+1,bs2,more2,rfl,by omega,hbl2,hB2,hmt2,hmf2,kn,rfl⟩
    ·intro hc;have hge:q.regs.toNat≤i:=(by have:q.regs≤(i:Int):=(by simpa using hc);omega);refine Qv ?_;simp only[go_sem,X.next];refine Qa ?_;simp only[go_sem];refine Qj ?_;simp only[go_sem,Q4,Qaa,Qa05,Ja,forall_eq,RS.op];refine hK bs1 more H4 hbl1 (hB.congr fun r=>?_) hmt hmf (kn.drop (A:=[]));constructor
     ·rintro (h|h)
      ·exact .inl h
      ·exact .inr h.2
     ·rintro (h|h)
      ·exact .inl h
      ·have:r<nb1.length:=hN.lt h;exact .inr ⟨by omega,h⟩
end Go.AE.Y
namespace Go.AE.Y
attribute [local go_sem] cond_true cond_false Bool.not_true Bool.not_false
open Go.Proofs.Tryz
variable {H H0 F:Heap}{K:V→Heap→Prop}{E L:List (Nat×Obj)}
def Qgc (zs:List (Nat×List Bool)):List (List C):=zs.map fun p=>[.sl false 1 (Qs p.2)]
theorem Qa1d (zs:List (Nat×List Bool)):(Qgc zs).length=zs.length:=by simp[Qgc]
theorem Qau4 (zs:List (Nat×List Bool))(i:Nat)(h:i<zs.length):(Qgc zs).getD i []=[.sl false 1 (Qs zs[i].2)]:=by simp[Qgc,Jb,h]
theorem Qa1f {S:Nat→Bool}{R:Nat}{zs:List (Nat×List Bool)}(hl:∀p∈zs,p.2.length=R)(hH:∀p∈obZ zs,H p.1=p.2∧S p.1=true):FrzR H S (Qbr R zs) (Qgc zs):=by
 induction zs with
 |nil=>exact .nil
 |cons z zs ih=>
  have h1:=hH (z.1,.vec 1 (Qs z.2)) (by simp[obZ]);refine .cons (.cons ?_ .nil) (ih (fun p hp=>hl p (Jj _ hp)) fun p hp=>hH p (by simp only[obZ,Jr];exact Jj _ hp));exact (FrzR.same (Qrz _)).vsl h1.2 h1.1 (by rw[Q7];exact (hl z Jm).symm)
theorem Qbp8 {α:Type}{l:List α}{i:Nat}{x:α}(h:i<l.length):(l++[x]).Perm (l.set i x++[l[i]]):=by
 have e:∀(m:List α) (hm:i<m.length),m.Perm (m[i]::m.eraseIdx i):=fun m hm=>by
  have h1:(m[i]::m.eraseIdx i).Perm m:=by
   rw[List.eraseIdx_eq_take_drop_succ];refine List.perm_middle.symm.trans ?_;rw[←J3 hm,J8]
  exact h1.symm
 have h1:=e l h;have h2:=e (l.set i x) (by simpa using h);simp only[Ja1,List.eraseIdx_set_eq]at h2;refine (h1.append_right [x]).trans ?_;refine List.Perm.trans ?_ (h2.append_right [l[i]]).symm;simp only[Jz];refine (List.Perm.cons _ J2).trans ?_;refine List.Perm.trans ?_ (List.Perm.cons _ J2);exact List.Perm.swap _ _ _
def Qbr6 (q:CodeD)(zi zo:List (Nat×List Bool)):Prop:=lvOk q.regs.toNat q.blocks.length zi zo∧∀b,b<q.blocks.length→∀r,(tab zi b r↔(Qw q).LI b r)∧(tab zo b r↔(Qw q).LO b r)
theorem Qaw2 {zs:List (Nat×List Bool)}{b:Nat}(h:b<zs.length):Mem zs[b].2 (tab zs b):=fun r=>(Qbmz h r).symm
theorem Qai0 (n r:Nat):(List.replicate n false).getD r false=false:=by
 rw[Jb,Jah];split <;> rfl
def Qw5 (x2 x3 yi yo n:Nat):List (Nat×Obj):=[(x2,.st [.sl true 1 [],.sl true 1 []]),(x3,.st [.vsl yi 1 0 n,.vsl yo 1 0 n])]
set_option maxHeartbeats 4000000 in
theorem Qbjr {q:CodeD}{bc:C}(ho:q.ok)(hbc:CodeR H [] bc q)
  (hK:∀(zi zo:List (Nat×List Bool)) H',Upd H H' []→Qbr6 q zi zo→K (.ag [.sl false 1 (Qgc zi),.sl false 1 (Qgc zo)]) H') :
  Qo prog Qw7 [.ag [.int .i64 q.params,.int .i64 q.regs,bc]] H K:=by
 have hr0:=ho.r0;have hr1:=ho.r1;have hb0:=ho.b0;have hb1:=ho.b1;have hfit:=ho.fitsF;have hFn:(Qw q).n=q.blocks.length:=rfl;obtain⟨R,hR⟩:∃R,q.regs.toNat=R:=⟨_,rfl⟩;obtain⟨n,hn⟩:∃n,q.blocks.length=n:=⟨_,rfl⟩;have hRq:q.regs=(R:Int):=by omega
 refine Qy ?_;have hbw:=hbc.ow;refine Qb Qap Qbke ?_;refine Qa ?_;simp only[go_sem,hbw];intro x2 hx2 H1 h1;have kn:=(Kn.start0 H).al hx2 h1;refine Qa ?_;simp only[go_sem,hbw];intro x3 hx3 H2 h2;have kn:=kn.al hx3 h2;have hx3:=kn.l 1 rfl;simp only[go_sem,Qabe,hx3];intro H3 h3;have kn:Kn H H3 [] [(x2,.st [.sl true 1 [],.sl true 1 []]),(x3,.st [.sl true 1 [],.sl true 1 []])]:=kn.stL 1 rfl h3;refine Qa ?_;obtain⟨hbok,hbln,hbsz,hbrw⟩:=hbc.facts kn (by simp);simp only[go_sem,hbw,hbok,hbln,hbsz,hbrw,hn];clear hbok hbrw;intro _;refine Q5 ?_;refine Qa ?_;simp only[go_sem];refine Qh (Qc (Qu (fun m e1 H1=>∃(i:Nat) (zi zo:List (Nat×List Bool)) (ci co:C) (Li Lo:List (Nat×Obj)),m=n-i∧i≤n∧zi.length=i∧zo.length=i∧(∀p∈zi,p.2=List.replicate R false)∧(∀p∈zo,p.2=List.replicate R false)∧
  Gr Li 1 (Qbr R zi) ci∧Gr Lo 1 (Qbr R zo) co∧Kn H H1 [] ([(x2,.st [.sl true 1 [],.sl true 1 []]),(x3,.st [ci,co])]++(obZ zi++(obZ zo++(Li++Lo))))∧
  e1=[(1,.c (.pp [.int .i64 q.params,.int .i64 q.regs,bc])),(2,.c (.ptr x2 0)),(3,.c (.ptr x3 0)),(4,.c (.int .i64 n)),(5,.c (.int .i64 i))]) n ?_ ?_))
 ·exact⟨0,[],[],_,_,[],[],by omega,by omega,rfl,rfl,by simp,by simp,.nil 1,.nil 1,kn,rfl⟩
 ·rintro m e1 H4 ⟨i,zi,zo,ci,co,Li,Lo,hm,hi,hzil,hzol,hzi,hzo,hgi,hgo,kn,rfl⟩;refine Q5 ?_;refine Qa ?_;simp only[go_sem];refine Qh (Qd rfl ?_ ?_)
  ·intro hc;have hlt:i<n:=by simpa using hc
   have hciw:=hgi.isOw;have hcow:=hgo.isOw;have hx3:=kn.l 1 rfl;refine Qf ?_;try simp only[go_sem]
   refine Qh (Qc ?_);refine Qao ?_;simp only[go_sem,hx3,hciw,hcow];refine⟨by omega,by simp only[LIM];omega,fun y1 hy1 H5 h5=>?_⟩;have kn:Kn H H5 [] (([(x2,.st [.sl true 1 [],.sl true 1 []]),(x3,.st [ci,co])]++(obZ (zi++[(y1,List.replicate R false)])++(obZ zo++Lo)))++Li):=
    (kn.al hy1 h5).perm (Qt fun f hf h0 hc hp=>by
     have hc':=hc (x2,.st [.sl true 1 [],.sl true 1 []]) [(x3,.st [ci,co])];simp only[hf,obZ,Jx,Jr,Jae,Qj3,hR];omega)
   have hx3:=kn.l 1 rfl;simp only[go_sem,Qabg,hx3,hciw,hcow];refine kn.growR hgi (.mk' _ _ _ _) (by intro r hr;simp at hr;subst hr;rfl) (by simp only[LIM,Qaz,Js,Jy];omega) fun ci2 Li2 H6 hgi2 hciw2 kn=>?_;have hx3:=kn.l 1 rfl;simp only[go_sem,Qabf,hx3,hciw2,hcow];intro H7 h7;have kn:Kn H H7 [] ([(x2,.st [.sl true 1 [],.sl true 1 []]),(x3,.st [ci2,co])]++(obZ (zi++[(y1,List.replicate R false)])++(obZ zo++Lo))++Li2):=kn.stL 1 rfl h7;have hgi2:Gr Li2 1 (Qbr R (zi++[(y1,List.replicate R false)])) ci2:=by
    have:Qbr R (zi++[(y1,List.replicate R false)])=Qbr R zi++[[C.vsl y1 1 0 q.regs.toNat]]:=(by simp[Qbr,hR]);rw[this];exact hgi2
   have hx3:=kn.l 1 rfl;refine Qbw ?_;simp only[go_sem,hx3,hciw2,hcow];refine⟨by omega,by simp only[LIM];omega,fun y2 hy2 H8 h8=>?_⟩;have kn:Kn H H8 [] (([(x2,.st [.sl true 1 [],.sl true 1 []]),(x3,.st [ci2,co])]++(obZ (zi++[(y1,List.replicate R false)])++(obZ (zo++[(y2,List.replicate R false)])++Li2)))++Lo):=
    (kn.al hy2 h8).perm (Qt fun f hf h0 hc hp=>by
     simp only[hf,obZ,Jx,Jr,Jae,Qj3,hR];omega)
   have hx3:=kn.l 1 rfl;simp only[go_sem,Qabi,hx3,hciw2,hcow];refine kn.growR hgo (.mk' _ _ _ _) (by intro r hr;simp at hr;subst hr;rfl) (by simp only[LIM,Qaz,Js,Jy];omega) fun co2 Lo2 H9 hgo2 hcow2 kn=>?_;have hx3:=kn.l 1 rfl;simp only[go_sem,Qabh,hx3,hciw2,hcow2];intro H10 h10;have kn:Kn H H10 [] ([(x2,.st [.sl true 1 [],.sl true 1 []]),(x3,.st [ci2,co2])]++(obZ (zi++[(y1,List.replicate R false)])++(obZ (zo++[(y2,List.replicate R false)])++Li2))++Lo2):=kn.stL 1 rfl h10;have hgo2:Gr Lo2 1 (Qbr R (zo++[(y2,List.replicate R false)])) co2:=by
    have:Qbr R (zo++[(y2,List.replicate R false)])=Qbr R zo++[[C.vsl y2 1 0 q.regs.toNat]]:=(by simp[Qbr,hR]);rw[this];exact hgo2
   refine Qr ?_;simp only[go_sem,X.next];refine⟨Qp (by omega) (by omega),n-(i+1),by omega,i+1,zi++[(y1,List.replicate R false)],zo++[(y2,List.replicate R false)],ci2,co2,Li2,Lo2,rfl,by omega,by simp[hzil],by simp[hzol],?_,?_,hgi2,hgo2,?_,rfl⟩
   ·intro p hp;rcases Je.1 hp with hp|hp
    ·exact hzi p hp
    ·simp at hp;rw[hp]
   ·intro p hp;rcases Je.1 hp with hp|hp
    ·exact hzo p hp
    ·simp at hp;rw[hp]
   ·exact kn.perm (by simp only[Jas];exact .refl _)
  ·intro hc;have hin:i=n:=by have:n≤i:=(by simpa using hc);omega
   subst hin;obtain⟨yi,hyi,hLi⟩:∃yi,ci=.vsl yi 1 0 i∧Li=[(yi,.vec 1 (Qbr R zi))]:=by
    rcases hgi with ⟨_,h,_⟩|⟨y,h1,h2⟩
    ·have:=congrArg List.length h;rw[Qaz,hzil]at this;simp at this;omega
    ·exact⟨y,by rw[h1,Qaz,hzil],h2⟩
   obtain⟨yo,hyo,hLo⟩:∃yo,co=.vsl yo 1 0 i∧Lo=[(yo,.vec 1 (Qbr R zo))]:=by
    rcases hgo with ⟨_,h,_⟩|⟨y,h1,h2⟩
    ·have:=congrArg List.length h;rw[Qaz,hzol]at this;simp at this;omega
    ·exact⟨y,by rw[h1,Qaz,hzol],h2⟩
   have kn:Kn H H4 [] (lvE R yi yo zi zo++Qw5 x2 x3 yi yo i):=by
    refine kn.perm (Qt fun f hf h0 hc hp=>?_);rw[hLi,hLo,hyi,hyo];have e1:=hc (x2,.st [.sl true 1 [],.sl true 1 []]) [(x3,.st [.vsl yi 1 0 i,.vsl yo 1 0 i])];have e2:=hc (yi,.vec 1 (Qbr R zi)) [(yo,.vec 1 (Qbr R zo))];simp only[hf,lvE,Qw5];omega
   have hlv:lvOk R i zi zo:=⟨hzil,hzol,fun p hp=>by rw[hzi p hp];simp,fun p hp=>by rw[hzo p hp];simp⟩;have hno:∀(zs:List (Nat×List Bool)),(∀p∈zs,p.2=List.replicate R false)→∀b r,¬tab zs b r:=fun zs h b r hr=>by
    rw[tab]at hr
    cases hg:zs[b]? with
    |none=>rw[hg]at hr;simp at hr
    |some p=>
     rw[hg]at hr;have:=h p (List.mem_of_getElem? hg);simp only[Jao,Jbh,this,Qai0]at hr;exact absurd hr (by simp)
   have hinv:LvInv (Qw q) zi zo:=⟨fun b _ r hr=>absurd hr (hno zi hzi b r),fun b _ r hr=>absurd hr (hno zo hzo b r),fun b _ r hr=>absurd hr (hno zi hzi b r)⟩;refine Qv ?_;simp only[go_sem,X.next];refine Q5 ?_;refine Qa ?_;simp only[go_sem];clear hno hzi hzo hgi hgo hLi hLo hyi hyo hzil hzol hm hc hi;refine Qh (Qc (Qu (fun m e1 H1=>∃(zi zo:List (Nat×List Bool)) (a:Bool) (yi yo:Nat),m=(if a=true then 2 * (i * R)+1-(Ql8 zi+Ql8 zo)else 0)∧lvOk R i zi zo∧LvInv (Qw q) zi zo∧(a=false→∀b,b<i→LvCl (Qw q) zi zo b)∧
    Kn H H1 [] (lvE R yi yo zi zo++Qw5 x2 x3 yi yo i)∧
    lk 1 e1=.c (.pp [.int .i64 q.params,.int .i64 q.regs,bc])∧lk 2 e1=.c (.ptr x2 0)∧lk 3 e1=.c (.ptr x3 0)∧lk 4 e1=.c (.int .i64 i)∧lk 6 e1=.c (.bool a)) (2 * (i * R)+1-(Ql8 zi+Ql8 zo)) ?_ ?_))
   ·exact⟨zi,zo,true,yi,yo,rfl,hlv,hinv,fun h=>by simp at h,kn,rfl,rfl,rfl,rfl,rfl⟩
   ·clear hlv hinv kn;rintro m e1 H5 ⟨zi,zo,a,yi,yo,hm,hlv,hinv,hcl,kn,l1,l2,l3,l4,l6⟩;have htl0:=Qazn hlv.li;have hto0:=Qazn hlv.lo;rw[hlv.i]at htl0;rw[hlv.o]at hto0;refine Q5 ?_;refine Qa ?_;simp only[go_sem,l1,l2,l3,l4,l6];refine Qh (Qd rfl ?_ ?_)
    ·intro hat;rw[hat,if_pos rfl]at hm;refine Qf ?_;try simp only[go_sem]
     refine Qc ?_;refine Qa ?_;simp only[go_sem];refine Qa ?_;simp only[go_sem];refine⟨Qp (by omega) (by omega),?_⟩;clear hcl;refine Qc (Qu (fun m1 e1 H1=>∃(k:Nat) (j:Int) (zi1 zo1:List (Nat×List Bool)) (a:Bool) (yi yo:Nat),m1=k∧k≤i∧j=(k:Int)-1∧lvOk R i zi1 zo1∧LvInv (Qw q) zi1 zo1∧Ql8 zi+Ql8 zo≤Ql8 zi1+Ql8 zo1∧
      (a=true→Ql8 zi+Ql8 zo<Ql8 zi1+Ql8 zo1)∧(a=false→∀b,k≤b→b<i→LvCl (Qw q) zi1 zo1 b)∧
      Kn H H1 [] (lvE R yi yo zi1 zo1++Qw5 x2 x3 yi yo i)∧
      e1=[(1,.c (.pp [.int .i64 q.params,.int .i64 q.regs,bc])),(2,.c (.ptr x2 0)),(3,.c (.ptr x3 0)),(4,.c (.int .i64 i)),(6,.c (.bool a)),(7,.c (.int .i64 j))]) i ?_ ?_)
     ·exact⟨i,_,zi,zo,false,yi,yo,rfl,Jh _,rfl,hlv,hinv,Jh _,fun h=>by simp at h,fun _ b h1 h2=>by omega,kn,rfl⟩
     ·have hTb:Ql8 zi+Ql8 zo≤2 * (i * R):=(by omega);generalize hT0:Ql8 zi+Ql8 zo=T0 at *;clear hinv hlv kn hto0 htl0 hT0;clear zi zo yi yo;rintro m1 e1 H6 ⟨k,j,zi,zo,a,yi,yo,rfl,hk,hjk,hlv,hinv,htot,htt,htf,kn,rfl⟩;have htl0:=Qazn hlv.li;have hto0:=Qazn hlv.lo;rw[hlv.i]at htl0;rw[hlv.o]at hto0;refine Q5 ?_;refine Qa ?_;simp only[go_sem];refine Qh (Qd rfl ?_ ?_)
      ·intro hc;have hge:0≤j:=(by simpa using hc);obtain⟨b,rfl⟩:∃b,m1=b+1:=⟨m1-1,by omega⟩;have hj:j=(b:Int):=(by omega);subst hj;have hbn:b<i:=(by omega);have hbq:b<q.blocks.length:=(by omega);have hbo:b<zo.length:=(by rw[hlv.o];exact hbn);have hbi:b<zi.length:=(by rw[hlv.i];exact hbn);obtain⟨⟨z,bs⟩,hz⟩:∃p,zo[b]=p:=⟨_,rfl⟩;obtain⟨⟨w,bw⟩,hw⟩:∃p,zi[b]=p:=⟨_,rfl⟩;have hz':zo[b]? = some (z,bs):=(by rw[Jg hbo,hz]);have hw':zi[b]? = some (w,bw):=(by rw[Jg hbi,hw]);have hbsl:bs.length=R:=hlv.lo (z,bs) (by rw[←hz];exact Jd hbo);have hbwl:bw.length=R:=hlv.li (w,bw) (by rw[←hw];exact Jd hbi);have hmo:Mem bs (tab zo b):=(by have:=Qaw2 hbo;rw[hz]at this;exact this);have hzs:zo.set b (z,bs)=zo:=Qa5w hz';obtain⟨y,hy⟩:∃y,q.blocks[b]=y:=⟨_,rfl⟩;have hyo:y.ok q b:=(by rw[←hy];exact ho.bs b hbq);have hil:y.ins.length≤1200∧y.phis.length≤1200:=(by rw[←hy];exact ho.il b hbq);have hnx:(Qw q).nx b=y.next.map Int.toNat:=(by rw[←hy,←Qahw hbq];rfl);have hph:(Qw q).ph b=y.phis.map fun p=>p.to.toNat:=(by rw[Qag1 hbq,hy]);refine Qf ?_;try simp only[go_sem]
       refine Qd3 (fun e2 H2=>∃(zi2 zo2:List (Nat×List Bool)) (a2:Bool) (yi yo:Nat),lvOk R i zi2 zo2∧LvInv (Qw q) zi2 zo2∧Ql8 zi+Ql8 zo≤Ql8 zi2+Ql8 zo2∧
        (a2=true→a=true∨Ql8 zi+Ql8 zo<Ql8 zi2+Ql8 zo2)∧(a2=false→a=false∧LvCl (Qw q) zi2 zo2 b∧∀c,LvCl (Qw q) zi zo c→LvCl (Qw q) zi2 zo2 c)∧
        Kn H H2 [] (lvE R yi yo zi2 zo2++Qw5 x2 x3 yi yo i)∧
        lk 1 e2=.c (.pp [.int .i64 q.params,.int .i64 q.regs,bc])∧lk 2 e2=.c (.ptr x2 0)∧lk 3 e2=.c (.ptr x3 0)∧lk 4 e2=.c (.int .i64 i)∧lk 6 e2=.c (.bool a2)∧lk 7 e2=.c (.int .i64 b)) ?_ ?_
       ·intro Q hnr _ _;refine Qc ?_;refine Q5 ?_;refine Qa ?_;simp only[go_sem];refine Qh (Qc (Qu (fun m2 e1 H1=>∃(i2:Nat) (bs1:List Bool) (a1:Bool),m2=y.next.length-i2∧i2≤y.next.length∧bs1.length=R∧(∀r,bs.getD r false=true→bs1.getD r false=true)∧(∀r,bs1.getD r false=true→(Qw q).LO b r)∧
         (∀m∈((Qw q).nx b).take i2,∀r,tab zi m r∨r∈(Qw q).ea b m→bs1.getD r false=true)∧(a1=true→a=true∨cnt bs<cnt bs1)∧(a1=false→a=false∧bs1=bs)∧
         Kn H H1 [] (lvE R yi yo zi (zo.set b (z,bs1))++Qw5 x2 x3 yi yo i)∧
         e1=[(1,.c (.pp [.int .i64 q.params,.int .i64 q.regs,bc])),(2,.c (.ptr x2 0)),(3,.c (.ptr x3 0)),(4,.c (.int .i64 i)),(6,.c (.bool a1)),(7,.c (.int .i64 b)),(8,.c (.int .i64 i2))]) y.next.length ?_ ?_))
        ·exact⟨0,bs,a,by omega,by omega,hbsl,fun r h=>h,fun r h=>hinv.bo b hbq r ((hmo r).1 h),by simp,fun h=>.inl h,fun h=>⟨h,rfl⟩,by rw[hzs];exact kn,rfl⟩
        ·rintro m2 e1 H7 ⟨i2,bs1,a1,hm2,hi2,hb1l,g1,g2,g3,k1,k2,kn,rfl⟩;have hx3:H7 x3=.st [.vsl yi 1 0 i,.vsl yo 1 0 i]:=(kn.get (x3,.st [.vsl yi 1 0 i,.vsl yo 1 0 i]) (by simp[Qw5])).1;obtain⟨hbok,_,_,hbrw⟩:=hbc.facts kn (by simp);refine Q5 ?_;refine Qa ?_;simp only[go_sem,hbw,hbok,hbln,hbsz,hbrw,hbq,Ql,Q1 _ _ hbq,hy,BlkD.cells,Qi];intro _;refine Qh (Qd rfl ?_ ?_)
         ·intro hc2;have hlt:i2<y.next.length:=(by simpa using hc2);have hnl2:=hyo.nxl;have hgd:y.next.getD i2 0=y.next[i2]:=(by simp[Jb,hlt]);have hmx:y.next[i2]∈gnx q b:=(by rw[Qahw hbq,hy];exact Jd hlt);have hmr:=hyo.nx _ (Jd hlt);obtain⟨mm,hmm⟩:=Jav (show 0≤y.next[i2]by omega);have hmi:mm<zi.length:=(by rw[hlv.i];omega);have hmF:mm∈(Qw q).nx b:=(by rw[hnx];exact Jo.2 ⟨y.next[i2],Jd hlt,by rw[hmm];rfl⟩);have htk:((Qw q).nx b).take (i2+1)=((Qw q).nx b).take i2++[mm]:=by
           rw[Ji (by rw[hnx,Jw];exact hlt)];congr 1;simp only[hnx,Jbf,hmm];rfl
          rw[hmm]at hmx hgd;have hbo':b<(zo.set b (z,bs1)).length:=(by simpa using hbo);have hlv':lvOk R i zi (zo.set b (z,bs1)):=⟨hlv.i,by rw[Jq];exact hlv.o,hlv.li,fun p hp=>by
           rcases Jac hp with hp|rfl
           ·exact hlv.lo p hp
           ·exact hb1l⟩
          refine Qf ?_;try simp only[go_sem]
          refine Qh (Qc ?_);refine Qbw ?_;simp only[go_sem,hx3,hbw,hbok,hbln,hbsz,hbrw,hbq,Ql,Q1 _ _ hbq,hy,BlkD.cells,hlt,Qi,Q9 _ _ hlt,hgd];subst hR;subst hn;refine Qbjo (F:=H7) (z:=z) (bs:=bs1) (w:=zi[mm].1) (nb:=zi[mm].2) (O:=fun r=>bs1.getD r false=true) (I:=tab zi mm) ho (hbc.mid kn) (fun x hx=>by rw[Jx];exact Jf _ hx) hbq hmx hlv' (by rw[List.getElem?_set_self hbo]) (by rw[Jg hmi]) (fun r=>Jbq) (Qaw2 hmi) kn.mid fun bs2 f H8 hb2l hm2' hf1 hf2 k2'=>?_;rw[Jbo]at k2';have kn:=(kn.comp k2' Qbj3).drop;have stepT:∀a1',(a1'=(f || a1))→∃m,m<m2∧∃(i5:Nat) (bs1:List Bool) (a1:Bool),m=y.next.length-i5∧i5≤y.next.length∧bs1.length=q.regs.toNat∧(∀r,bs.getD r false=true→bs1.getD r false=true)∧(∀r,bs1.getD r false=true→(Qw q).LO b r)∧
            (∀m∈((Qw q).nx b).take i5,∀r,tab zi m r∨r∈(Qw q).ea b m→bs1.getD r false=true)∧(a1=true→a=true∨cnt bs<cnt bs1)∧(a1=false→a=false∧bs1=bs)∧
            Kn H H8 [] (lvE q.regs.toNat yi yo zi (zo.set b (z,bs1))++Qw5 x2 x3 yi yo q.blocks.length)∧
            [(1,V.c (.pp [.int .i64 q.params,.int .i64 q.regs,bc])),(2,.c (.ptr x2 0)),(3,.c (.ptr x3 0)),(4,.c (.int .i64 q.blocks.length)),(6,.c (.bool a1')),(7,.c (.int .i64 b)),(8,.c (.int .i64 ((i2:Int)+1)))]=[(1,.c (.pp [.int .i64 q.params,.int .i64 q.regs,bc])),(2,.c (.ptr x2 0)),(3,.c (.ptr x3 0)),(4,.c (.int .i64 q.blocks.length)),(6,.c (.bool a1)),(7,.c (.int .i64 b)),(8,.c (.int .i64 i5))]:=by
           intro a1' ha1';refine⟨y.next.length-(i2+1),by omega,i2+1,bs2,a1',rfl,by omega,hb2l,fun r hr=>(hm2' r).2 (.inl (g1 r hr)),fun r hr=>?_,fun m hm r hr=>?_,fun ha=>?_,fun ha=>?_,kn,rfl⟩
           ·rcases (hm2' r).1 hr with h|h|h
            ·exact g2 r h
            ·exact⟨mm,hmF,.inl (hinv.bi mm (hfit b hbq mm hmF) r h)⟩
            ·exact⟨mm,hmF,.inr h⟩
           ·rw[htk]at hm;rcases Je.1 hm with hm|hm
            ·exact (hm2' r).2 (.inl (g3 m hm r hr))
            ·simp only[Ja]at hm;subst hm;exact (hm2' r).2 (.inr hr)
           ·have c1:cnt bs≤cnt bs1:=(Qahb (by omega) g1).1
            cases hf:f with
            |true=>have:=hf1 hf;right;omega
            |false=>
             rw[hf2 hf];rw[ha1',hf]at ha;exact k1 (by simpa using ha)
           ·rw[ha1']at ha;have hff:f=false:=by cases hf:f with
             |true=>rw[hf]at ha;simp at ha
             |false=>rfl
            rw[hff]at ha;obtain⟨q1,q2⟩:=k2 (by simpa using ha);exact⟨q1,by rw[hf2 hff,q2]⟩
          cases hfc:f with
          |true=>
           simp only[go_sem,Qtz];refine Qr ?_;simp only[go_sem,X.next];exact⟨Qp (by omega) (by omega),stepT true (by rw[hfc];rfl)⟩
          |false=>
           simp only[go_sem,Qtz];refine Qr ?_;simp only[go_sem,X.next];exact⟨Qp (by omega) (by omega),stepT a1 (by rw[hfc];rfl)⟩
         ·intro hc2;have hge2:y.next.length≤i2:=(by simpa using hc2);have g3:∀r,(Qw q).outT (tab zi) b r→bs1.getD r false=true:=fun r ⟨m,hm,hr⟩=>
           g3 m (by rw[Jc (by rw[hnx,Jw];exact hge2)];exact hm) r hr
          refine Qv ?_;simp only[go_sem,X.next];refine Qa ?_;simp only[go_sem,hx3,hbw];have hbo':b<(zo.set b (z,bs1)).length:=(by simpa using hbo);obtain⟨hyiH,hyoH,hzzH,hwwH⟩:=Qawj kn.mid hbo (by rw[hz]) hbi hw;have hsl:Slc H7 1 (Qbr R zo) (.vsl yo 1 0 i):=⟨by simp only[okSl,hyoH,Qaz,hlv.o];exact⟨trivial,by omega⟩,rfl,by simp only[rowsOf,hyoH,Ja4];exact Jc (by rw[Qaz,hlv.o];exact Jh _),by simp only[lenC,Qaz,hlv.o]⟩;have hsb:Slc H7 1 (Qs bs1) (.vsl z 1 0 R):=⟨by simp only[okSl,hzzH,Q7,hb1l];exact⟨trivial,by omega⟩,rfl,by simp only[rowsOf,hzzH,Ja4];exact Jc (by rw[Q7,hb1l];exact Jh _),by simp only[lenC,Q7,hb1l]⟩;refine Qah1 (i:=-1) (ic:=.vsl yi 1 0 i) (bc:=bc) (W:=fun r=>bs1.getD r false=true) ho (hbc.mid kn).nil hbq (by omega) (by omega) kn hsl rfl rfl (by rw[Qaz];exact hbo) (by rw[Qdq _ _ _ hbo,hz]) hsb rfl (by rw[hR];exact hb1l) (fun r=>Jbq) fun y9 nb0 H8 hnl0 hm0 kn=>?_;rw[hR]at hnl0;simp only[go_sem,Q4x,hR];refine Q5 ?_;refine Qa ?_;simp only[go_sem];refine Qh (Qc (Qu (fun m2 e1 H1=>∃(i2:Nat) (nb:List Bool),m2=y.phis.length-i2∧i2≤y.phis.length∧nb.length=R∧Mem nb (fun r=>(Qw q).beh (fun r=>bs1.getD r false=true) b 0 r∧r∉((Qw q).ph b).take i2)∧
           Kn H H1 [] ((lvE R yi yo zi (zo.set b (z,bs1))++Qw5 x2 x3 yi yo i)++[(y9,.vec 1 (Qs nb))])∧
           e1=[(1,.c (.pp [.int .i64 q.params,.int .i64 q.regs,bc])),(2,.c (.ptr x2 0)),(3,.c (.ptr x3 0)),(4,.c (.int .i64 i)),(6,.c (.bool a1)),(7,.c (.int .i64 b)),(9,.c (.vsl y9 1 0 R)),(10,.c (.int .i64 i2))]) y.phis.length ?_ ?_))
          ·exact⟨0,nb0,by omega,by omega,hnl0,hm0.congr fun r=>by simp,kn,rfl⟩
          ·clear hm0 hnl0 kn;rintro m3 e1 H9 ⟨i3,nb,hm3,hi3,hnl,hmn,kn,rfl⟩;have hy9:H9 y9=.vec 1 (Qs nb):=(kn.get (y9,.vec 1 (Qs nb)) (by simp)).1;have htkn:(Qs nb).take R=Qs nb:=Jc (by rw[Q7];omega);obtain⟨hbok,_,_,hbrw⟩:=hbc.facts kn (by simp);refine Q5 ?_;refine Qa ?_;simp only[go_sem,hbw,hbok,hbln,hbsz,hbrw,hbq,Ql,Q1 _ _ hbq,hy,BlkD.cells,Qq];intro _;refine Qh (Qd rfl ?_ ?_)
           ·intro hc3;have hlt3:i3<y.phis.length:=(by simpa using hc3);obtain⟨hv,hvl⟩:=(hyo.pto _ (Jd hlt3)).nat;rw[hR]at hvl;have htk3:((Qw q).ph b).take (i3+1)=((Qw q).ph b).take i3++[(y.phis[i3].to).toNat]:=by
             rw[Ji (by rw[hph,Jw];exact hlt3)];simp[hph]
            have hvl':(y.phis[i3].to).toNat<nb.length:=(by omega);generalize hr:(y.phis[i3].to).toNat=r at *;refine Qf ?_;try simp only[go_sem]
            refine Qh (Qc ?_);refine Qr ?_;simp only[go_sem,hbw,hbok,hbln,hbsz,hbrw,hbq,Ql,Q1 _ _ hbq,hy,BlkD.cells,hlt3,Qq,Qal _ _ hlt3,PhiD.cells,hv,hvl,hy9,htkn,Q7,hnl,Qe9,Qau _ _ hvl',Jn,Jh];intro H10 h10;have kn:=kn.stL (lvE R yi yo zi (zo.set b (z,bs1))++Qw5 x2 x3 yi yo i).length (x:=y9) (o:=.vec 1 (Qs nb)) (by simp) h10;refine Qr ?_;simp only[go_sem,X.next];refine⟨Qp (by omega) (by omega),y.phis.length-(i3+1),by omega,i3+1,nb.set r false,rfl,by omega,by rw[Jq];exact hnl,?_,by simpa using kn,rfl⟩;refine (hmn.del hvl').congr fun x=>?_;rw[htk3];simp only[Je,Ja,not_or,and_assoc]
           ·intro hc3;have hge3:y.phis.length≤i3:=(by simpa using hc3);have hmn:Mem nb ((Qw q).thru (fun r=>bs1.getD r false=true) b):=hmn.congr fun r=>(by rw[Jc (by rw[hph,Jw];exact hge3)];rfl);refine Qv ?_;simp only[go_sem,X.next];refine Q5 ?_;refine Qa ?_;simp only[go_sem];refine Qh (Qc (Qu (fun m4 e1 H1=>∃(i4:Nat) (a2:Bool),m4=R-i4∧i4≤R∧H1=H9∧(a2=true→a1=true∨∃r,nb.getD r false≠bw.getD r false)∧(a2=false→a1=false∧∀r,r<i4→nb.getD r false=bw.getD r false)∧
             e1=[(1,.c (.pp [.int .i64 q.params,.int .i64 q.regs,bc])),(2,.c (.ptr x2 0)),(3,.c (.ptr x3 0)),(4,.c (.int .i64 i)),(6,.c (.bool a2)),(7,.c (.int .i64 b)),(9,.c (.vsl y9 1 0 R)),(11,.c (.int .i64 i4))]) R ?_ ?_))
            ·exact⟨0,a1,by omega,by omega,rfl,fun h=>.inl h,fun h=>⟨h,fun r hr=>by omega⟩,rfl⟩
            ·have hx3:H9 x3=.st [.vsl yi 1 0 i,.vsl yo 1 0 i]:=(kn.get (x3,.st [.vsl yi 1 0 i,.vsl yo 1 0 i]) (by simp[Qw5])).1;have knA:=kn.drop;obtain⟨hyiH,hyoH,hzzH,hwwH⟩:=Qawj knA.mid hbo (by rw[hz]) hbi hw;rintro m4 e1 H10 ⟨i4,a2,hm4,hi4,rfl,k3,k4,rfl⟩;have htz:∀(zs:List (Nat×List Bool)),zs.length=i→(Qbr R zs).take i=Qbr R zs:=fun zs h=>Jc (by rw[Qaz];omega);have htb:∀(bs:List Bool),bs.length=R→(Qs bs).take R=Qs bs:=fun bs h=>Jc (by rw[Q7];omega);have hw1:zi[b].1=w:=(by rw[hw]);have hil3:=hlv.i;refine Q5 ?_;refine Qa ?_;simp only[go_sem];refine Qh (Qd rfl ?_ ?_)
             ·intro hc4;have hlt4:i4<R:=(by have:(i4:Int)<q.regs:=(by simpa using hc4);omega);have hln4:i4<nb.length:=(by omega);have hlw4:i4<bw.length:=(by omega);refine Qf ?_;try simp only[go_sem]
              refine Qd3 (fun e2 H2=>∃(a3:Bool),H2=H10∧(a3=true→a2=true∨nb.getD i4 false≠bw.getD i4 false)∧(a3=false→a2=false∧nb.getD i4 false=bw.getD i4 false)∧
               lk 1 e2=.c (.pp [.int .i64 q.params,.int .i64 q.regs,bc])∧lk 2 e2=.c (.ptr x2 0)∧lk 3 e2=.c (.ptr x3 0)∧lk 4 e2=.c (.int .i64 i)∧lk 6 e2=.c (.bool a3)∧lk 7 e2=.c (.int .i64 b)∧lk 9 e2=.c (.vsl y9 1 0 R)∧lk 11 e2=.c (.int .i64 i4)) ?_ ?_
              ·intro Q hnr _ _;refine Qc ?_
               cases ha2:a2 with
               |true=>
                refine Qbw ?_;simp only[go_sem,hx3,hyiH,hwwH,hy9,htz _ hil3,htb _ hnl,htb _ hbwl,Qaz,Qdq _ _ _ hbi,hw1,hbn,hil3,hlt4,Q7,hnl,hbwl,Qau _ _ hln4,Qau _ _ hlw4,Jn,Jh];exact hnr _ _ ⟨true,rfl,fun _=>.inl ha2,fun h=>by simp at h,rfl,rfl,rfl,rfl,rfl,rfl,rfl,rfl⟩
               |false=>
                refine Qbw ?_;simp only[go_sem,hx3,hyiH,hwwH,hy9,htz _ hil3,htb _ hnl,htb _ hbwl,Qaz,Qdq _ _ _ hbi,hw1,hbn,hil3,hlt4,Q7,hnl,hbwl,Qau _ _ hln4,Qau _ _ hlw4,Jn,Jh];refine hnr _ _ ⟨_,rfl,fun h=>?_,fun h=>?_,rfl,rfl,rfl,rfl,rfl,rfl,rfl,rfl⟩
                ·right;intro he;rw[he]at h;simp at h
                ·exact⟨ha2,by simpa using h⟩
              ·rintro e2 H11 ⟨a3,rfl,q1,q2,l1,l2,l3,l4,l6,l7,l9,l11⟩;refine Qr ?_;simp only[go_sem,X.next,l1,l2,l3,l4,l6,l7,l9,l11];refine⟨Qp (by omega) (by omega),R-(i4+1),by omega,i4+1,a3,rfl,by omega,fun h=>?_,fun h=>?_,rfl⟩
               ·rcases q1 h with h1|h1
                ·exact k3 h1
                ·exact .inr ⟨i4,h1⟩
               ·obtain⟨h1,h2⟩:=q2 h;obtain⟨h3,h4⟩:=k4 h1;refine⟨h3,fun r hr=>?_⟩;by_cases hri:r<i4
                ·exact h4 r hri
                ·have:r=i4:=(by omega);subst this;exact h2
             ·intro hc4;have hge4:i4=R:=(by have:¬(i4:Int)<q.regs:=(by simpa using hc4);omega);subst hge4;refine Qv ?_;simp only[go_sem,X.next];refine Qr ?_;simp only[go_sem,hx3,hyiH,htz _ hil3,Qaz,Qdq _ _ _ hbi,hbn,hil3,Jn,Jh];intro H11 h11;have hrow:(Qbr i4 zi).set b [.vsl y9 1 0 i4]=Qbr i4 (zi.set b (y9,nb)):=(by rw[Qbr,Qbr,Jaf]);rw[hrow]at h11;have hobs:obZ (zi.set b (y9,nb))=(obZ zi).set b (y9,.vec 1 (Qs nb)):=(by rw[obZ,obZ,Jaf]);have hmv:=Qbp8 (l:=obZ zi) (i:=b) (x:=(y9,Obj.vec 1 (Qs nb))) (by simpa[obZ]using hbi);have kn:Kn H H11 [] ((lvE i4 yi yo (zi.set b (y9,nb)) (zo.set b (z,bs1))++Qw5 x2 x3 yi yo i)++[(obZ zi)[b]'(by simpa[obZ]using hbi)]):=by
               have k5:Kn H H11 [] ((([(yi,.vec 1 (Qbr i4 (zi.set b (y9,nb)))),(yo,.vec 1 (Qbr i4 (zo.set b (z,bs1))))]++(obZ zi++obZ (zo.set b (z,bs1))))++Qw5 x2 x3 yi yo i)++[(y9,.vec 1 (Qs nb))]):=kn.stL 0 (x:=yi) (o:=.vec 1 (Qbr i4 zi)) rfl h11;refine k5.perm (Qt fun f hf h0 hc hp=>?_);have e1:=hp _ _ hmv;simp only[hf]at e1;simp only[lvE,hf,hobs];omega
              have kn:=kn.drop;have hst:=hinv.step (y:=y9) hfit hbq (hlv.i.trans hn.symm) (hlv.o.trans hn.symm) hlv.li hlv.lo hb1l hnl hz' hw' g1 g2 g3 (fun r=>hmn r) k1 k2 k3 k4;obtain⟨s1,s2,s3,s4⟩:=hst;refine hnr _ _ ⟨zi.set b (y9,nb),zo.set b (z,bs1),a2,yi,yo,⟨by rw[Jq];exact hlv.i,by rw[Jq];exact hlv.o,fun p hp=>?_,fun p hp=>?_⟩,s1,s2,s3,s4,kn,rfl,rfl,rfl,rfl,rfl,rfl⟩
              ·rcases Jac hp with hp|rfl
               ·exact hlv.li p hp
               ·exact hnl
              ·rcases Jac hp with hp|rfl
               ·exact hlv.lo p hp
               ·exact hb1l
       ·rintro e2 H7 ⟨zi2,zo2,a2,yi2,yo2,hlv2,hinv2,t1,t2,t3,kn,l1,l2,l3,l4,l6,l7⟩;refine Qr ?_;simp only[go_sem,X.next,l1,l2,l3,l4,l6,l7];refine⟨Qp (by omega) (by omega),b,by omega,b,(b:Int)-1,zi2,zo2,a2,yi2,yo2,rfl,by omega,rfl,hlv2,hinv2,by omega,fun ha=>?_,fun ha c hbc hci=>?_,kn,rfl⟩
        ·rcases t2 ha with h|h
         ·have:=htt h;omega
         ·omega
        ·obtain⟨u1,u2,u3⟩:=t3 ha;by_cases hcb:c=b
         ·subst hcb;exact u2
         ·exact u3 c (htf u1 c (by omega) hci)
      ·intro hc;have hlt0:¬0≤j:=(by simpa using hc);have hk0:m1=0:=(by omega);subst hk0;refine Qv ?_;simp only[go_sem,X.next];refine⟨if a=true then 2 * (i * R)+1-(Ql8 zi+Ql8 zo)else 0,?_,zi,zo,a,yi,yo,rfl,hlv,hinv,fun ha b hb=>htf ha b (by omega) hb,kn,by first|exact⟨rfl,rfl,rfl,rfl⟩|exact rfl|trivial⟩;split
       ·have:=htt ‹_›;omega
       ·omega
    ·intro haf;have hcl:=hcl haf;have hdone:=hinv.done hfit fun b hb=>hcl b (by rw[←hn];exact hb);have hx3:H5 x3=.st [.vsl yi 1 0 i,.vsl yo 1 0 i]:=(kn.get (x3,.st [.vsl yi 1 0 i,.vsl yo 1 0 i]) (by simp[Qw5])).1;have hx2:H5 x2=.st [.sl true 1 [],.sl true 1 []]:=(kn.get (x2,.st [.sl true 1 [],.sl true 1 []]) (by simp[Qw5])).1;refine Qv ?_;simp only[go_sem,X.next];refine Qa ?_;simp only[go_sem,hx2,hx3];intro H6 h6;have kn:Kn H H6 [] (lvE R yi yo zi zo++[(x2,.st [.vsl yi 1 0 i,.vsl yo 1 0 i]),(x3,.st [.vsl yi 1 0 i,.vsl yo 1 0 i])]):=by
      have:=kn.stL (lvE R yi yo zi zo).length (x:=x2) (o:=.st [.sl true 1 [],.sl true 1 []]) (by simp[Qw5]) h6;simpa[Qw5]using this
     have hx2:H6 x2=.st [.vsl yi 1 0 i,.vsl yo 1 0 i]:=(kn.get (x2,.st [.vsl yi 1 0 i,.vsl yo 1 0 i]) (by simp)).1;have hg:∀p∈lvE R yi yo zi zo,H6 p.1=p.2∧un H p.1=true:=fun p hp=>⟨(kn.get p (Jk _ (Jf _ hp))).1,Qj2 (kn.loc p (Jf _ hp))⟩;have g1:=hg (yi,.vec 1 (Qbr R zi)) (by simp[lvE]);have g2:=hg (yo,.vec 1 (Qbr R zo)) (by simp[lvE]);refine Qj ?_;simp only[go_sem,Q4,Qaa,Qa07,Ja,forall_eq,RS.op,hx2];refine⟨_,(FrzL.cons (FrzR.vsl g1.2 g1.1 (by rw[Qaz,hlv.i]) (Qa1f hlv.li fun p hp=>hg p (by simp only[lvE];exact Jk _ (Jf _ hp))))
      (FrzL.cons (FrzR.vsl g2.2 g2.1 (by rw[Qaz,hlv.o]) (Qa1f hlv.lo fun p hp=>hg p (by simp only[lvE];exact Jk _ (Jk _ hp)))) FrzL.nil)).ag,hK zi zo _ kn.fin ⟨by rw[hR,hn];exact hlv,fun b hb=>hdone b hb⟩⟩
theorem Qbjq {q:CodeD}{fl:Bool}(ho:q.ok)
  (hK:∀(zi zo:List (Nat×List Bool)) H',Upd H H' []→Qbr6 q zi zo→K (.ag [.sl false 1 (Qgc zi),.sl false 1 (Qgc zo)]) H') :
  Qo prog Qw7 [.ag [.int .i64 q.params,.int .i64 q.regs,.sl fl 5 (Qm q.blocks)]] H K:=
 Qbjr ho (.sl _ _ _ _) hK
end Go.AE.Y
namespace Go.AE.Y
attribute [local go_sem] cond_true cond_false Bool.not_true Bool.not_false
open Go.Proofs.Tryz
variable {H H0:Heap}{K:V→Heap→Prop}{E L:List (Nat×Obj)}
def onesL (bs:List Bool)(n:Nat):List Nat:=(List.range n).filter fun r=>bs.getD r false
def Qbdg (ls:List (List Nat)):List (List C):=ls.map fun l=>[.sl false 1 (Qc6 l)]
theorem Qbfb (ls:List (List Nat)):(Qbdg ls).length=ls.length:=by simp[Qbdg]
noncomputable def insLs (q:CodeD):List (List Nat):=(List.range q.blocks.length).map fun b=>ascL q.regs.toNat ((Qw q).LI b)
noncomputable def outsLs (q:CodeD):List (List Nat):=(List.range q.blocks.length).map fun b=>ascL q.regs.toNat ((Qw q).LO b)
noncomputable def Qgm (q:CodeD)(b k:Nat):List Nat:=ascL q.regs.toNat ((Qw q).LB b k)
noncomputable def codeOr (cs:List CodeD)(k:Int)(f:CodeD→List (List Nat)):List (List Nat):=if hasG cs k=true then match cs[k.toNat]? with
 |some q=>f q
 |none=>[]else []
theorem Qbi2 {cs:List CodeD}{k:Int}(h:hasG cs k=true):∃(m:Nat) (hm:m<cs.length),k=(m:Int)∧cs[m].ok:=by
 simp only[hasG,Jl,decide_eq_true_eq]at h;obtain⟨h1,h2,h3⟩:=h;refine⟨k.toNat,by omega,by omega,Q93 h1 _⟩
def mxF (f:Nat→Nat):Nat→Nat
 |0=>0
 |m+1=>max (mxF f m) (f m)
theorem Qa0x {f:Nat→Nat}{B:Nat}(h:∀i,f i≤B):∀n,mxF f n≤B
 |0=>Nat.zero_le _
 |n+1=>by rw[mxF];have:=Qa0x h n;have:=h n;omega
noncomputable def Qxj (q:CodeD)(b:Nat):Nat:=mxF (fun k=>(Qgm q b k).length) (((q.blocks[b]?.map BlkD.ins).getD []).length+1)
noncomputable def Qaw3 (q:CodeD):Nat:=mxF (Qxj q) q.blocks.length
theorem Qavo (q:CodeD)(b k:Nat):(Qgm q b k).length≤q.regs.toNat:=Qbq3
theorem Qbcz (q:CodeD)(b:Nat):Qxj q b≤q.regs.toNat:=Qa0x (fun _=>Qavo q b _) _
noncomputable def upTo (q:CodeD)(b k:Nat):Nat:=max (mxF (Qxj q) b) (mxF (fun k=>(Qgm q b k).length) k)
theorem Qbs6 (q:CodeD)(b k:Nat):upTo q b k≤q.regs.toNat:=by
 have h1:=Qa0x (Qbcz q) b;have h2:=Qa0x (fun k=>Qavo q b k) k;rw[upTo];omega
theorem Qbm4 (q:CodeD)(b:Nat):upTo q b 0=mxF (Qxj q) b:=by simp[upTo,mxF]
theorem Qbm3 (q:CodeD)(b k:Nat):upTo q b (k+1)=max (upTo q b k) (Qgm q b k).length:=by rw[upTo,upTo,mxF];omega
theorem Qbqj {q:CodeD}{b:Nat}(h:b<q.blocks.length):upTo q b (q.blocks[b].ins.length+1)=mxF (Qxj q) (b+1):=by
 have e:Qxj q b=mxF (fun k=>(Qgm q b k).length) (q.blocks[b].ins.length+1):=by simp[Qxj,h]
 have e2:mxF (Qxj q) (b+1)=max (mxF (Qxj q) b) (Qxj q b):=rfl;rw[upTo,e2,e]
theorem Qbua (a b:Nat):(if (b:Int) > (a:Int)then (b:Int)else (a:Int))=((max a b:Nat):Int):=by split <;> omega
noncomputable def Qaqh (cs:List CodeD)(k:Int):Int:=if hasG cs k=true then match cs[k.toNat]? with
 |some q=>(Qaw3 q:Int)
 |none=>-1 else -1
def spS (zi zo:List (Nat×List Bool)):Obj:=.st [.sl false 1 (Qgc zi),.sl false 1 (Qgc zo)]
end Go.AE.Y
namespace Go.AE.Y
attribute [local instance] Classical.propDecidable
def asS (S:Nat→List Nat)(b:Nat):RS':=fun r=>r∈S b
structure ImInv (F:Flo)(R:Nat)(S:Nat→List Nat):Prop where
 below:F.Below (asS S)
 post:∀b,b<F.n→∀r,asS S b r→F.inT (asS S) b r
 nd:∀b,(S b).Nodup
 lt:∀b,∀r∈S b,r<R
variable {F:Flo}{R:Nat}{S:Nat→List Nat}
theorem ImInv.same {b:Nat}{ks:List Nat}(h:ImInv F R S)(hb:b<F.n)(hnd:ks.Nodup)(hks:∀r,r∈ks↔F.inT (asS S) b r)(hl:ks.length=(S b).length):∀r,F.inT (asS S) b r→asS S b r:=fun r hr=>
 Qa0z (h.nd b) (fun x hx=>(hks x).2 (h.post b hb x hx)) (by omega) r ((hks r).2 hr)
theorem ImInv.step {b:Nat}{ks:List Nat}(h:ImInv F R S)(hf:F.fits)(hb:b<F.n)(hnd:ks.Nodup)(hlt:∀r∈ks,r<R)(hks:∀r,r∈ks↔F.inT (asS S) b r)(hl:¬ks.length=(S b).length) :
  ImInv F R (fun c=>if c=b then ks else S c)∧tot F.n S<tot F.n (fun c=>if c=b then ks else S c):=by
 have hsub:∀r,r∈S b→r∈ks:=fun r hr=>(hks r).2 (h.post b hb r hr);have hle:=Qcm (h.nd b) hsub;have hS:∀c,c<F.n→∀r,asS S c r→asS (fun c=>if c=b then ks else S c) c r:=fun c _ r hr=>by
  simp only[asS];by_cases hc:c=b
  ·subst hc;rw[if_pos rfl];exact hsub r hr
  ·rw[if_neg hc];exact hr
 refine⟨⟨fun c hc r hr=>?_,fun c hc r hr=>?_,fun c=>?_,fun c r hr=>?_⟩,Qbuw hb (fun c hc=>?_) ?_⟩
 ·simp only[asS]at hr;by_cases hcb:c=b
  ·subst hcb;rw[if_pos rfl]at hr;exact h.below.inT hf hb r ((hks r).1 hr)
  ·rw[if_neg hcb]at hr;exact h.below c hc r hr
 ·have h1:F.inT (asS S) c r:=by
   simp only[asS]at hr;by_cases hcb:c=b
   ·subst hcb;rw[if_pos rfl]at hr;exact (hks r).1 hr
   ·rw[if_neg hcb]at hr;exact h.post c hc r hr
  exact Flo.inT_mono hf hS hc r h1
 ·by_cases hcb:c=b
  ·subst hcb;simpa using hnd
  ·simpa[hcb]using h.nd c
 ·by_cases hcb:c=b
  ·subst hcb;exact hlt r (by simpa using hr)
  ·exact h.lt c r (by simpa[hcb]using hr)
 ·by_cases hcb:c=b
  ·subst hcb;simpa using hle
  ·simp[hcb]
 ·simp only[if_pos];omega
theorem ImInv.done (h:ImInv F R S)(hc:∀b,b<F.n→∀r,F.inT (asS S) b r→asS S b r){b:Nat}(hb:b<F.n)(r:Nat):r∈S b↔F.LI b r:=
 Flo.is_least hc h.below hb r
theorem ImInv.bound (h:ImInv F R S):tot F.n S≤F.n * R:=Qbuv fun b _=>Qb1 (h.nd b) (h.lt b)
theorem ImInv.start:ImInv F R fun _=>[]:=⟨fun b _ r hr=>absurd hr (by simp[asS]),fun b _ r hr=>absurd hr (by simp[asS]),fun _=>by simp,fun _ r hr=>by simp at hr⟩
end Go.AE.Y
