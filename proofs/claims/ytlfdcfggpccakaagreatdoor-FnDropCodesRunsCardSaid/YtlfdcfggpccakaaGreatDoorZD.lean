/- Part 4 of the proof: the engine, codes, walks and plain laws, each named where it stands. -/
import Derived.Test.YtlfdcfggpccakaaGreatDoorZC
import Derived.Shelf.Sort.Plain
import Derived.Shelf.Sort.So_math_bits_LenIn
open Nat (reduceEqDiff reduceAdd reduceLeDiff reduceLT)
set_option linter.unusedVariables false
set_option linter.unusedSimpArgs false
set_option maxRecDepth 4000
open Bool renaming and_eq_true->Ji,not_false->Js,false_eq_true->J4,not_true->Jah,not_eq_true'->Ja8,eq_iff_iff->Jbf,true_and->Jbj
open List renaming mem_singleton->Ja,getD_eq_getElem?_getD->Jb,take_of_length_le->Jc,getElem_mem->Jd,mem_append->Je,length_replicate->Jf,take_succ_eq_append_getElem->Jg,mem_cons_of_mem->Jh,mem_cons_self->Jj,length_cons->Jk,length_set->Jl,getElem?_eq_getElem->Jm,mem_map->Jn,length_nil->Jo,getElem?_eq_none->Jq,mem_append_left->Jr,map_append->Jt,map_cons->Ju,mem_append_right->Jv,mem_cons->Jx,drop_eq_getElem_cons->Jy,filter_append->Jz,sum_append->J0,nodup_append->J1,all_eq_true->J2,length_take->J3,length_append->J5,getElem?_map->J6,getElem?_set->J7,pairwise_map->J8,mem_range->J9,contains_iff_mem->Jaa,perm_append_comm->Jab,take_append_drop->Jac,any_eq_true->Jad,cons_append->Jae,mem_iff_getElem->Jaf,getD_cons_zero->Jai,length_map->Jaj,nil_append->Jak,range_succ->Jal,map_nil->Jam,drop_zero->Jan,getElem?_replicate->Jap,sum_cons->Jaq,filter_cons->Jar,length_drop->Jas,not_mem_nil->Jat,pairwise_lt_range->Jav,filter_nil->Jaw,length_filter_le->Jax,singleton_append->Jay,getElem?_set_ne->Ja0,mem_of_mem_take->Ja1,getElem_of_mem->Ja2,map_congr_left->Ja3,pairwise_cons->Ja4,set_cons_succ->Ja5,append_assoc->Ja9,ext_getElem?->Jba,getElem_drop->Jbb,length_range->Jbc,map_set->Jbd,getElem_map->Jbe,count_cons->Jbg,mem_filter->Jbh,map_take->Jbk,map_map->Jbl,map_id->Jbp
open List.Pairwise renaming filter->Jaz
open Nat renaming le_refl->Jp,zero_add->Jw,mul_le_mul_right->Jag,eq_zero_or_pos->Ja6,add_zero->Jbm,lt_or_ge->Jbn,succ_mul->Jbo
open Option renaming getD_some->Jau,map_some->Jbi
open Option.some renaming injEq->Jao
open Prod.mk renaming injEq->Ja7
namespace Go.AE.Y
open Go.Proofs.Tryz
variable {F H:Heap}{w:Nat}{s:LS}{K:V→Heap→Prop}
set_option maxHeartbeats 1000000 in
theorem Qbue {n:Nat}(hS:∀m,m<n→DA m):Qb2z n:=by
 intro x F H w s N K hn au h b7 aN hN hK;have bz:=x.size_eq;rw[St.ok_eq]at au;obtain⟨j4,xj,cA,yR⟩:=au;have zg:=GP (Jd j4);refine Qc Ab Qa0l ?_;refine Zs ?_;refine Za ?_;refine Dn h aN Zx fun s1 H1 h1 st1 bj=>?_;simp only[go_sem,Qwt];refine Za ?_;refine Dn h1 (st1.ok _ aN) Zx fun s2 H2 h2 st2 bX=>?_;have st2:=st1.trans st2;simp only[go_sem,Qwu];refine Za ?_;refine Dn h2 (st2.ok _ aN) Zx fun s3 H3 h3 st3 m7=>?_;have st3:=st2.trans st3;simp only[go_sem,Qwv];refine Za ?_;refine CX (next:=[(s.blocks.length:Int)]) (N:=0) h3 (st3.at_ b7) Zx fun s4 H4 h4 st4=>?_;have ze:=st4.bl;have st4:=st3.trans st4;refine Qa ?_;simp only[go_sem,j4,Bk,Ev _ _ j4,Ex.cn,Ex.bv,Ex.ax];refine⟨Zx,?_⟩;refine K7 _ x.args[0] F H4 w s4 _ _ (Jp _) (FW xj _ (Jd j4)) h4 (st4.at_ b7) (st4.ok _ aN) Zx fun v s5 H5 h5 st5=>?_;have zd:=st5.bl;have st5:=st4.trans st5;simp only[go_sem,Qww];refine Za ?_;refine CX (next:=[(s1.blocks.length:Int),(s2.blocks.length:Int)]) (N:=0) h5 (st5.at_ b7) Zx fun s6 H6 h6 st6=>?_;have zc:=st6.bl;have st6:=st5.trans st6;refine Za ?_;refine hS (Q8 x.body) Zx x.body _ F H6 w s6 _ _ (Jp _) cA h6 (st6.at_ b7) (st6.ok _ aN) Zx fun s7 H7 h7 st7=>?_;have za:=st7.bl;have st7:=st6.trans st7;refine Zh ?_;refine CX (next:=[(s.blocks.length:Int)]) (N:=0) h7 (st7.at_ b7) Zx fun s8 H8 h8 st8=>?_;have st8:=st7.trans st8;simp only[Q6,Aa,Pn];exact⟨Zz,hK s8 H8 h8 (st8.mono Zx)⟩
set_option maxHeartbeats 2000000 in
theorem Yj {n:Nat}(hS:∀m,m<n→DA m):KE n:=by
 intro x F H w s N K hn au h b7 aN hN hK;have oR:=au;have bz:=x.size_eq;rw[St.ok_eq]at au;obtain⟨j4,xj,cA,yR⟩:=au;refine Qc Ab Qa0m ?_;have retn:∀(e:Env) (s':LS) (H':Heap) (q:X),(q=.nrm∨q=.ret)→LInv F H' w s'→LStep s s' (10 * x.size)→Q6 SK K q e H':=by
  intro e s' H' q hq a1 a2;rcases hq with rfl|rfl <;> exact⟨by simp[SK],hK s' H' a1 a2⟩
 refine Zs ?_;refine Wa ?_;refine Wu ?_ ?_
 ·intro hc;refine Za ?_;rw[←x.aF];refine Qbue hS x F H w s N _ hn oR h b7 aN hN fun s1 H1 h1 st1=>?_;simp only[F7];refine Zk ?_;exact retn _ s1 H1 _ (.inr rfl) h1 st1
 intro cR;refine Ze ?_;refine Wf ?_;refine Qh (Qd (Qw (fun n e1 H1=>∃(i:Nat) (ars:List Int) (c:C) (Lg:List (Nat×Obj)) (s':LS),n=x.args.length-i∧i≤x.args.length∧ars.length=i∧Gr Lg 1 (Qb ars) c∧LInv F H1 w s'∧Kn F H1 [] (s'.L w++Lg)∧
  LStep s s' (10 * At (x.args.take i))∧e1=[(0,.c (.ptr w 0)),(3,.c (.pp [.int .i64 x.op,.str x.name,.sl false 4 (Ap x.args),.sl false 5 (Ak x.body),.sl false 5 (Ak x.els)])),(4,.c c),(5,.c (.int .i64 i))]) x.args.length ?_ ?_))
 ·exact⟨0,[],_,[],s,Zx,Zx,rfl,.nil 1,h,by simpa using h.kn,(LStep.refl s).mono Zx,rfl⟩
 ·rintro n e1 H1 ⟨i,ars,c,Lg,s1,dk,hi,sE,ao,h1,kn,st1,rfl⟩;refine Q1 (Qa ?_);simp only[go_sem,Bk];intro hl;simp only[LIM]at hl;refine Wu ?_ ?_
  ·intro hc;have ae:i<x.args.length:=ZA
   have hm:=GP (Jd ae);have bN:=SV ae;have lH:=TY x.args (i+1);refine Ze ?_;refine Qh (Qd (Qp ?_));simp only[go_sem,ae,Bk,Ev _ _ ae,Ex.cn,Ex.bv,Ex.ax];obtain⟨F',hf,back⟩:=h1.beside kn ao;refine K7 _ _ F' H1 w s1 _ _ (Jp _) (FW xj _ (Jd ae)) hf (st1.at_ b7) (st1.ok _ aN) Zx fun v s2 H2 h2 st2=>?_;obtain⟨h2,kn⟩:=back s2 H2 h2;simp only[go_sem,Qwy];refine kn.grow (new:=Qb [v]) ao (.mk' _ _ _ _) (Qq _) (by simp only[Qf,sE,Jk,Jo,LIM];omega) fun y' H3 kn=>?_;simp only[go_sem,Qwx];refine Zf ?_;refine⟨Qr,x.args.length-(i+1),Zx,i+1,ars++[v],_,_,s2,rfl,Zx,by simp[sE],.mk y' 1 (Qb (ars++[v])) (n:=(Qb ars).length+(Qb [v]).length) Zae,h2.re kn.drop,by rw[Cb];exact kn,(st1.trans st2).mono (by rw[bN];omega),Zae⟩
  ·intro hc;have bd:x.args.length≤i:=ZA
   have ck:i=x.args.length:=Zx
   rw[Jc bd]at st1;have j3:0<ars.length:=Zx
   refine Zc ?_;refine Q1 ?_;obtain⟨S,H2,f1,f2,kn2⟩:=ao.freeze kn (Qq _);have h2:=h1.re kn2;refine c_gh (Et S (fun t=>?_) f2) (e':=[(0,.c (.ptr w 0)),(3,.c (.pp [.int .i64 x.op,.str x.name,.sl false 4 (Ap x.args),.sl false 5 (Ak x.body),.sl false 5 (Ak x.els)])),(4,.c (.sl false 1 (Qb ars)))]) ?_
   ·simp only[lk];split
    ·exact .c _ _ (.same _ rfl)
    ·split
     ·exact .c _ _ (.same _ rfl)
     ·split
      ·exact .c _ _ f1
      ·exact .unk _
   have di:=st1.ok _ aN;have jz:=st1.at_ b7;have lE:=h2.hw;refine Za ?_;refine Ws ?_;refine Wv ?_ ?_
   ·
    intro hc;refine Qa ?_;simp only[go_sem,lE,LS.o];refine Cz h2 jz di Zx fun s3 H3 h3 st3=>?_;have qO:=h3.hw;have jU:=h3.gv.ah;have jZ:=st3.ok _ di;have st3:=st1.trans st3;simp only[go_sem];refine Aj ?_;simp only[go_sem,qO,LS.o,jU];refine h3.addVar ⟨x.name,s3.next,0,rfl⟩ (by have:=jZ.v1;simp only[LIM];omega) fun y H4 qN cont=>?_;simp only[go_sem,Qwz,qN,LS.o];intro H5 h5;have tU:=cont H5 h5;have uB:=tU.hw;refine Qp ?_;have cC:=jZ.n0;have dk:=jZ.n1;simp only[go_sem,uB,LS.o];refine⟨Qr,fun H6 h6=>?_⟩;have h6':=tU.setw (s':={ s3 with vc:=.af y 3 0 (s3.vars.length+1),lv:=[(y,.vec 3 (s3.vars++[[C.str x.name,C.int IntKind.i64 s3.next,C.int IntKind.i64 0]]))],vars:=s3.vars++[[C.str x.name,C.int IntKind.i64 s3.next,C.int IntKind.i64 0]],next:=s3.next+1 }) h6 rfl rfl rfl rfl tU.gv tU.rv;refine retn _ _ H6 _ (.inl rfl) h6' ⟨st3.bl,fun M hM=>?_,?_,st3.at_,st3.fn⟩
    ·have q:=st3.ok M hM;refine⟨q.r0,?_,?_,?_,?_,fun b hb=>?_,?_⟩
     ·have:=q.r1;show s3.ab≤_;omega
     ·have:=q.n0;show 0≤s3.next+1;omega
     ·have:=q.n1;show s3.next+1≤_;omega
     ·have:=q.b1;show s3.blocks.length≤_;omega
     ·have:=q.i1 b hb;omega
     ·have:=q.v1;simp;omega
    ·have:=st3.vl;simp;omega
   intro bF;refine Za ?_;refine Wv ?_ ?_
   ·
    intro hc;refine Zh ?_;refine KA h2 fun v=>?_;simp only[go_sem,Qw0];refine Cz h2 jz di Zx fun s3 H3 h3 st3=>?_;exact retn _ _ H3 _ (.inl rfl) h3 ((st1.trans st3).mono Zx)
   intro aC;refine Za ?_;refine Wv ?_ ?_
   ·intro hc;refine Zh ?_;refine Cz h2 jz di Zx fun s3 H3 h3 st3=>?_;exact retn _ _ H3 _ (.inl rfl) h3 ((st1.trans st3).mono Zx)
   intro bI;refine Za ?_;refine Wv ?_ ?_
   ·intro hc;refine Zh ?_;refine Cz h2 jz di Zx fun s3 H3 h3 st3=>?_;exact retn _ _ H3 _ (.inl rfl) h3 ((st1.trans st3).mono Zx)
   intro dq;refine Za ?_;refine Wv ?_ ?_
   ·
    intro hc;refine Au ?_;simp only[go_sem,j3,Qf,Qn _ _ j3];refine⟨Zx,?_⟩;refine Dn h2 di Zx fun s3 H3 h3 st3 m7=>?_;have st3:=st1.trans st3;simp only[go_sem,Qqz,j3,Qf,Qn _ _ j3];refine⟨Zx,?_⟩;refine CX (next:=[]) (N:=0) h3 (st3.at_ b7) Zx fun s4 H4 h4 st4=>?_;exact retn _ _ H4 _ (.inl rfl) h4 ((st3.trans st4).mono Zx)
   intro pH;refine Za ?_;refine Wv ?_ ?_
   ·
    intro hc;refine Za ?_;refine Dn h2 di Zx fun s3 H3 h3 st3 m7=>?_;have st3:=st1.trans st3;simp only[go_sem,Qq0];refine Za ?_;refine Dn h3 (st3.ok _ aN) Zx fun s4 H4 h4 st4 ze=>?_;have st4:=st3.trans st4;simp only[go_sem,Qq1];refine Za ?_;refine Dn h4 (st4.ok _ aN) Zx fun s5 H5 h5 st5 zd=>?_;have st5:=st4.trans st5;simp only[go_sem,Qq2];refine Qa ?_;simp only[go_sem,j3,Qf,Qn _ _ j3];refine⟨Zx,?_⟩;refine CX (next:=[(s1.blocks.length:Int),(s3.blocks.length:Int)]) (N:=0) h5 (st5.at_ b7) Zx fun s6 H6 h6 st6=>?_;have zc:=st6.bl;have st6:=st5.trans st6;refine Za ?_;refine hS (Q8 x.body) Zx x.body _ F H6 w s6 _ _ (Jp _) cA h6 (st6.at_ b7) (st6.ok _ aN) Zx fun s7 H7 h7 st7=>?_;have za:=st7.bl;have st7:=st6.trans st7;refine Za ?_;refine CX (next:=[(s4.blocks.length:Int)]) (N:=0) h7 (st7.at_ b7) Zx fun s8 H8 h8 st8=>?_;have hb8:=st8.bl;have st8:=st7.trans st8;refine Za ?_;refine hS (Q8 x.els) Zx x.els _ F H8 w s8 _ _ (Jp _) yR h8 (st8.at_ b7) (st8.ok _ aN) Zx fun s9 H9 h9 st9=>?_;have hb9:=st9.bl;have st9:=st8.trans st9;refine Zh ?_;refine CX (next:=[(s4.blocks.length:Int)]) (N:=0) h9 (st9.at_ b7) Zx fun s10 H10 cS st10=>?_;exact retn _ _ H10 _ (.inl rfl) cS ((st9.trans st10).mono Zx)
   ·intro yX;refine Ze ?_;exact retn _ _ H2 _ (.inl rfl) h2 (st1.mono Zx)
theorem Qb2q (n:Nat):DA n:=by
 induction n using Nat.strongRecOn with
 |ind n ih=>exact Qbr9 (Yj ih)
end Go.AE.Y
namespace Go.AE.Y
open Go.Proofs.Tryz
variable {H:Heap}{K:V→Heap→Prop}
set_option maxHeartbeats 2000000 in
theorem Qb1u {fns:List Fn}{fl:Bool}{k:Nat}(hk:k<fns.length)(dH:fns[k].params.length≤3)(cA:A7 fns[k].body)(jy:Q8 fns[k].body≤2^34)
  (hK:∀(c:CodeD) (H':Heap),Upd H H' []→c.fits→K (.ag c.cells) H'):Qs prog G2 [.ag [.sl fl 3 (Az fns)],.c (.int .i64 k)] H K:=by
 refine Qx ?_;refine Qc Ab Qb10 ?_;refine Za ?_;intro x4 br H1 h1;have kn:=(Kn.aq H).al br h1;refine Qa ?_;simp only[go_sem,hk,BK,GK _ _ hk,Fn.take3,Fn.bv,Fn.ax];generalize fns[k]=f at *;intro x5 bf H2 h2;have kn:=kn.al bf h2;have jO:=kn.l 1 rfl;simp only[go_sem,PM,jO,Fn.cells];intro H3 h3;have kn:Kn H H3 [] [(x4,.st [.int .i64 0,.int .i64 0,.sl true 5 []]),(x5,.st [.str f.name,.sl false 1 (A8 f.params),.sl false 5 (Ak f.body)])]:=kn.aB 1 rfl h3;have nV:=kn.l 0 rfl;have dR:=kn.l 1 rfl;have h45:=kn.neL 0 1 rfl rfl ZK;refine Qa ?_;simp only[go_sem,dR,Bj];intro hpl2 w hw H4 h4;have h:LInv H3 H4 w ⟨fns,fl,0,0,.sl true 5 [],[],[],0,.sl true 3 [],[],[],f.params.length⟩:=
  ⟨(Kn.aq H3).al hw h4,.nil 5,.inl ⟨rfl,rfl,rfl⟩,Zz,Zz,Zz⟩
 have eS:∀(s:LS) (H':Heap),LInv H3 H' w s→H' x4=.st [.int .i64 0,.int .i64 0,.sl true 5 []]∧H' x5=.st [.str f.name,.sl false 1 (A8 f.params),.sl false 5 (Ak f.body)]:=fun s H' h'=>
  ⟨by rw[h'.kn.chg x4 (by rw[nV];simp) Zz,nV],by rw[h'.kn.chg x5 (by rw[dR];simp) Zz,dR]⟩
 have fk:=(eS _ _ h).2;have qN:=h.hw;simp only[go_sem,PL];refine Qa ?_;simp only[go_sem,fk,qN,LS.o,Bj];intro _ H5 h5;have h:=h.setw (s':=⟨fns,fl,f.params.length,0,.sl true 5 [],[],[],0,.sl true 3 [],[],[],f.params.length⟩) h5 rfl rfl rfl rfl h.gv h.rv;have lD:=(eS _ _ h).2;refine Aj ?_;simp only[go_sem,lD,Bj];refine Qbub _ f.body (Jp _) Zx fun v hv=>?_;have uB:=h.hw;simp only[go_sem,PK,lD,uB,LS.o,Bj];refine⟨Qr,fun H6 h6=>?_⟩;have h:=h.setw (s':=⟨fns,fl,f.params.length,(f.params.length:Int)+v,.sl true 5 [],[],[],0,.sl true 3 [],[],[],f.params.length⟩) h6 rfl rfl rfl rfl h.gv h.rv;refine Wa ?_;refine Qh (Qd (Qw (fun n e1 H1=>∃(i:Nat) (s':LS),n=f.params.length-i∧i≤f.params.length∧LInv H3 H1 w s'∧s'.blocks=[]∧s'.at_=0∧s'.ab=(f.params.length:Int)+v∧s'.next=f.params.length∧s'.vars.length=i∧
  e1=[(4,.c (.ptr x4 0)),(5,.c (.ptr x5 0)),(6,.c (.ptr w 0)),(7,.c (.int .i64 i))]) f.params.length ?_ ?_))
 ·exact⟨0,_,Zx,Zx,h,rfl,rfl,rfl,rfl,rfl,rfl⟩
 ·rintro n e1 H1 ⟨i,s,dk,hi,h,eH,sG,bM,cC,bQ,rfl⟩;have qL:=(eS _ _ h).2;have fy:=h.hw;have jU:=h.gv.ah;refine Q1 (Qa ?_);simp only[go_sem,qL,Bj];intro _;refine Wu ?_ ?_
  ·intro hc;have ae:i<f.params.length:=ZA
   refine Wn ?_;simp only[go_sem,qL,fy,LS.o,jU,ae,Bj,HH _ _ ae];refine h.addVar ⟨_,_,_,rfl⟩ ZM fun y H4 qN cont=>?_;simp only[go_sem,PJ,qN,LS.o];intro H5 h5;have h':=cont H5 h5;refine Zf ?_;exact⟨Qr,f.params.length-(i+1),Zx,i+1,_,rfl,Zx,h',eH,sG,bM,cC,by simp[bQ],rfl⟩
  ·intro hc;refine Zc ?_;have aN:s.ok (3+v):=⟨by rw[bM];omega,by rw[bM];omega,by rw[cC];omega,by rw[cC];omega,by simp[eH],by simp[eH],Zx⟩;refine Za ?_;refine KO h aN Zx fun s1 H4 h1 st1 bj jz=>?_;have b7:s1.at_<s1.blocks.length:=by rw[jz,sG];omega
   have di:=st1.ok _ aN;refine Qa ?_;have fk:=(eS _ _ h1).2;simp only[go_sem,fk];refine Qb2q _ f.body _ H3 H4 w s1 _ _ (Jp _) cA h1 b7 di Zx fun s2 H5 h2 st2=>?_;refine Za ?_;refine Ea h2 (st2.ok _ di) Zx fun s3 H6 h3 st3=>?_;have st3:=st2.trans st3;simp only[go_sem,PC];refine Cz (args:=[]) h3 (st3.at_ b7) (st3.ok _ di) Zx fun s4 H7 h4 st4=>?_;have st4:=st3.trans st4;simp only[go_sem,PD];have hbl4:=st4.bl;refine Za ?_;refine CX (at':=0) (next:=[]) (N:=0) h4 (st4.at_ b7) Zx fun s5 H8 h5 st5=>?_;have yh:=h5.hw;obtain⟨uv,hx58⟩:=eS _ _ h5;have cQ:=h5.gb.ah;refine Qa ?_;simp only[go_sem,yh,uv,LS.o,cQ];intro H9 h9;have uu:H9 x4=.st [.int .i64 s5.params,.int .i64 s5.ab,s5.bc]:=by rw[h9];exact Heap.aE _ _ _
   have tw:∀m,m≠x4→H9 m=H8 m:=fun m hm=>by rw[h9];exact Heap.ai _ _ hm
   have uF:∀m,H m≠.none→H9 m=H m:=fun m hm=>by
    have e1:=kn.chg m hm Zz;have e2:=h5.kn.chg m (by rw[e1];exact hm) Zz;rw[tw m (fun hh=>by subst hh;exact hm (kn.free 0 rfl)),e2,e1]
   have om:∀p∈s5.L w,H9 p.1=p.2∧un H p.1=true:=fun p hp=>by
    have e1:=(h5.kn.get p (by simpa using hp)).1;have e2:=h5.kn.loc p hp;have bx:p.1≠x4:=fun hh=>(by rw[hh,nV]at e2;simp at e2);refine⟨by rw[tw _ bx,e1],BN ?_⟩
    cases hh:H p.1 with
    |none=>rfl
    |_=>have:=kn.chg p.1 (by rw[hh];simp) Zz;rw[e2,hh]at this;simp at this
   refine Zn uu cQ ?_;have iB:=(st4.trans st5).ok _ di;obtain⟨bs,wX,hbs2,wW⟩:=Kt (H:=H9) (S:=un H) s5.blocks fun b hb=>⟨h5.gi b hb,h5.ri b hb,fun p hp=>om p (by
    simp only[LS.L,Je,List.mem_flatMap];exact .inr (.inr (.inr ⟨b,hb,hp⟩))),by have:=iB.i1 b hb;omega⟩
   refine⟨.ag (CodeD.mk s5.params s5.ab bs).cells,FrzL.ag (.cons (Qg rfl) (.cons (Qg rfl) (.cons (Gr.frzM h5.gb (fun p hp=>om p (by
    simp only[LS.L,Je];exact .inr (.inl hp))) wX) .nil))),hK _ _ ⟨Zz,fun m hm _=>?_⟩ wW⟩
   rw[ES hm];exact uF m hm
theorem Qbuc {fns:List Fn}{fl:Bool}(hp:PrOk fns)(hK:∀(cs:List CodeD) (H':Heap),Upd H H' []→0<cs.length→(∀c∈cs,c.fits)→K (.ag [.sl false 3 (Qk cs)]) H') :
  Qs prog Gc [.ag [.sl fl 3 (Az fns)]] H K:=by
 refine Qx ?_;refine Qc Ab Qbux ?_;refine Za ?_;intro x2 aI H1 h1;have kn:=(Kn.aq H).al aI h1;refine Za ?_;intro x3 aP H2 h2;have kn:=kn.al aP h2;have iu:=kn.l 1 rfl;simp only[go_sem,LU,iu];intro H3 h3;have kn:Kn H H3 [] [(x2,.st [.sl true 3 []]),(x3,.st [.sl true 3 []])]:=kn.aB 1 rfl h3;refine Wa ?_;refine Qh (Qd (Qw (fun n e1 H1=>∃(i:Nat) (cs:List CodeD) (c:C) (Lg:List (Nat×Obj)),n=fns.length-i∧i≤fns.length∧cs.length=i∧(∀c∈cs,c.fits)∧Gr Lg 3 (Qk cs) c∧Kn H H1 [] ([(x2,.st [.sl true 3 []]),(x3,.st [c])]++Lg)∧
  e1=[(1,.c (.pp [.sl fl 3 (Az fns)])),(2,.c (.ptr x2 0)),(3,.c (.ptr x3 0)),(4,.c (.int .i64 i))]) fns.length ?_ ?_))
 ·exact⟨0,[],_,[],Zx,Zx,rfl,Zz,.nil 3,kn,rfl⟩
 ·rintro n e1 H1 ⟨i,cs,c,Lg,dk,hi,cm,aW,ao,kn,rfl⟩;refine Q1 (Qa ?_);simp only[go_sem,BK];intro hl;simp only[LIM]at hl;have bH:=ao.ah;have eK:=kn.l 1 rfl;refine Wu ?_ ?_
  ·intro hc;have ae:i<fns.length:=ZA
   have hm:=Jd ae;refine Wn ?_;simp only[go_sem,eK,bH];refine Qb1u ae (hp.par _ hm) (hp.ok _ hm) (by have:=SO hm;have:=hp.size;omega) fun x H4 hu hxf=>?_;have kn:=kn.aw hu;have jQ:=kn.l 1 rfl;simp only[go_sem,LR,jQ,bH,CodeD.cells];refine kn.grow (B:=[_,_]) (new:=[x.cells]) ao (.mk' _ _ _ _) (by intro r hr;simp only[Ja]at hr;subst hr;rfl) (by simp only[Q0,LIM,Jk,Jo];omega) fun y' H5 kn=>?_;have ir:=kn.l 1 rfl;simp only[go_sem,LT,ir];intro H6 h6;have kn:=kn.aB 1 rfl h6;refine Zf ?_;refine⟨Qr,fns.length-(i+1),Zx,i+1,cs++[x],_,_,rfl,Zx,by simp[cm],fun c' cz=>by
    rcases Je.1 cz with h|h
    ·exact aW c' h
    ·simp at h;subst h;exact hxf,?_,kn,rfl⟩
   rw[Qazo];exact .mk _ _ _ (by simp[Q0])
  ·intro hc;have bd:fns.length≤i:=ZA
   have iv:=kn.l 0 rfl;refine Zc ?_;refine Zp eK iv bH ?_;intro H2 h2;have kn:=kn.aB 0 rfl h2;have u7:=kn.l 0 rfl;refine Zn u7 bH ?_;exact⟨.ag [.sl false 3 (Qk cs)],FrzL.ag (.cons (ao.frz (B:=[_,_]) kn (Dg _)) .nil),hK _ _ kn.fin (by have:=hp.pos;omega) aW⟩
attribute [local instance] Classical.propDecidable
def B6 (q:CodeD):Bool:=decide (0≤q.params∧q.params≤3)&&decide (q.params≤q.ab∧q.ab≤300)&&decide (1≤(q.blocks.length:Int)∧(q.blocks.length:Int)≤160)
def AF (y:BlkD):Nat:=y.ins.length+y.aa.length
def Ay {α:Type}(f:α→Nat)(l:List α):Nat:=(l.map f).sum
theorem GB {α:Type}{f:α→Nat}{l:List α}{i:Nat}(h:i<l.length):Ay f (l.take (i+1))=Ay f (l.take i)+f l[i]:=by
 rw[Ay,Ay,Jg h,Jt,J0];simp
theorem Fc {α:Type}{f:α→Nat}{l:List α}(i:Nat):Ay f (l.take i)≤Ay f l:=by
 have:Ay f l=Ay f (l.take i)+Ay f (l.drop i):=by rw[Ay,Ay,Ay,←J0,←Jt,Jac]
 omega
def AH (q:CodeD):Nat:=Ay AF q.blocks
def AZ (cs:List CodeD)(k:Nat)(hk:k<cs.length):Prop:=B6 cs[k]=true∧∀(b:Nat) (h:b<cs[k].blocks.length),blkG cs k b cs[k] cs[k].blocks[b]=true
def Fe (cs:List CodeD):Prop:=(1≤(cs.length:Int)∧(cs.length:Int)≤4)∧(∀(k:Nat) (h:k<cs.length),AZ cs k h)∧Ay AH cs≤800
noncomputable def Ah (cs:List CodeD):Bool:=decide (Fe cs)
theorem Fj {cs:List CodeD}(aW:∀c∈cs,c.fits)(h:Ah cs=true):cs.length≤4∧0<cs.length∧∀c∈cs,c.gd:=by
 obtain⟨h1,h2,_⟩:=of_decide_eq_true h;refine⟨Zx,Zx,fun c hc=>?_⟩;obtain⟨k,hk,rfl⟩:=Ja2 hc;obtain⟨g1,g2⟩:=h2 k hk;simp only[B6,Ji,decide_eq_true_eq]at g1;refine⟨Zx,Zx,fun b hb=>?_,fun b hb=>aW _ (Jd hk) b hb⟩;obtain⟨i,hi,rfl⟩:=Ja2 hb;exact Qbmq (g2 i hi)
theorem G8 {cs:List CodeD}(h:¬Fe cs):Ah cs=false:=decide_eq_false h
theorem Yc {cs:List CodeD}{k j:Nat}(hk:k<cs.length)(hj:j<cs[k].blocks.length)(h:800<Ay AH (cs.take k)+Ay AF (cs[k].blocks.take j)+AF cs[k].blocks[j]):¬Fe cs:=by
 rintro⟨_,_,h3⟩;have a1:=Fc (f:=AH) (l:=cs) (k+1);rw[GB hk]at a1;have a2:=Fc (f:=AF) (l:=cs[k].blocks) (j+1);rw[GB hj]at a2;simp only[AH]at *;omega
set_option maxHeartbeats 2000000 in
theorem GU {cs:List CodeD}{fl:Bool}(aW:∀c∈cs,c.fits)(hK:∀(H':Heap),Upd H H' []→K (.c (.bool (Ah cs))) H') :
  Qs prog DC [.ag [.sl fl 3 (Qk cs)]] H K:=by
 refine Qx ?_;refine Qc Ab Qao5 ?_;have retf:∀(b:Bool) (e:Env) (H':Heap) (L:List (Nat×Obj)),Ah cs=b→Kn H H' [] L→lk 2 e=.c (.bool b)→Q6 HS (unK H K) .ret e H':=by
  intro b e H' L hb kn h3;simp only[go_sem,Q6,Aa,Ja,forall_eq,RS.op,h3];rw[←hb];exact⟨_,.c _ _ (Qg rfl),hK _ kn.fin⟩
 have kn:=Kn.aq H;refine Wj ?_;simp only[go_sem,Q0];intro cm;refine AS ?_;simp only[go_sem,Qn0];refine Wu ?_ ?_
 ·intro hc;refine We ?_;exact retf false _ _ _ (G8 fun hu=>by have:=of_decide_eq_false (B4 hc);exact this hu.1) kn Zy
 intro hc;have dq:cs.length≤4∧0<cs.length:=by
  have:1≤(cs.length:Int)∧(cs.length:Int)≤4:=ZA
  omega
 refine Ze ?_;refine Wf ?_;refine Qh (Qd (Qw (fun m e1 H1=>∃(k n:Nat),m=cs.length-k∧k≤cs.length∧n=Ay AH (cs.take k)∧n≤800∧(∀(i:Nat) (hi:i<cs.length),i<k→AZ cs i hi)∧Kn H H1 [] []∧e1=[(1,.c (.pp [.sl fl 3 (Qk cs)])),(3,.c (.int .i64 n)),(4,.c (.int .i64 k))]) cs.length ?_ ?_))
 ·exact⟨0,0,Zx,Zx,rfl,Zx,fun _ _ h=>Zx,kn,rfl⟩
 ·rintro m e1 H1 ⟨k,n,hm,hk,cP,hn,bG,kn,rfl⟩;refine Q1 (Qa ?_);simp only[go_sem,Q0];intro cm;refine Wu ?_ ?_
  ·intro hc;have ae:k<cs.length:=ZA
   refine Wo ?_;simp only[go_sem,ae,Q0,Bc _ _ ae,CodeD.cells];obtain⟨q,hq⟩:∃q,cs[k]=q:=⟨_,rfl⟩;rw[hq];intro x5 bf H2 h2;have kn:=kn.al bf h2;have jO:=kn.l 0 rfl;simp only[go_sem,Qn1,jO];intro H3 h3;have kn:Kn H H3 [] [(x5,.st [.int .i64 q.params,.int .i64 q.ab,.sl false 5 (Qo q.blocks)])]:=kn.aB 0 rfl h3;have dR:=kn.l 0 rfl;refine Q1 (Qa ?_);simp only[go_sem,dR];refine AS ?_;simp only[go_sem,Qn2,dR];have rest:∀(b:Bool) (E1:Env),lk 1 E1=.c (.pp [.sl fl 3 (Qk cs)])→lk 3 E1=.c (.int .i64 n)→lk 4 E1=.c (.int .i64 k)→lk 5 E1=.c (.ptr x5 0)→lk 42 E1=.c (.bool b)→B6 q=(!b)→
     Ac prog (s_sp_UnitValid_6.seq Qnz) (X.inBlock 1 (X.sq prog Vr (X.next (fun e2 H2=>∃m_1,m_1<m∧∃(k n:Nat),m_1=cs.length-k∧k≤cs.length∧n=Ay AH (cs.take k)∧n≤800∧(∀(i:Nat) (hi:i<cs.length),i<k→AZ cs i hi)∧Kn H H2 [] []∧e2=[(1,.c (.pp [.sl fl 3 (Qk cs)])),(3,.c (.int .i64 n)),(4,.c (.int .i64 k))])
      (X.inBlock 0 (X.sq prog Vq (Q6 HS (unK H K))))))) E1 H3:=by
    intro b E1 l1 l3 l4 l5 l42 hb;refine Qh (Qe l42 ?_ ?_)
    ·intro aC;refine Wp ?_;exact retf false _ _ _ (G8 fun hu=>by have:=(hu.2.1 k ae).1;rw[hq,hb,aC]at this;simp at this) kn Zy
    intro aC;rw[aC]at hb;have aZ:=hb;simp only[B6,Js,Ji,decide_eq_true_eq]at aZ;obtain⟨bM,cG,eH,bB⟩:0≤q.ab∧q.ab≤300∧0<q.blocks.length∧q.blocks.length≤160:=Zx;refine Ze ?_;refine Qa ?_;simp only[go_sem,l1,l3,l4,l5];refine Qd (Qw (fun m e1 H1=>∃(j n2:Nat),m=q.blocks.length-j∧j≤q.blocks.length∧n2=n+Ay AF (q.blocks.take j)∧n2≤800∧(∀(i:Nat) (hi:i<q.blocks.length),i<j→blkG cs k i q q.blocks[i]=true)∧Kn H H1 [] [(x5,.st [.int .i64 q.params,.int .i64 q.ab,.sl false 5 (Qo q.blocks)])]∧
     e1=[(1,.c (.pp [.sl fl 3 (Qk cs)])),(3,.c (.int .i64 n2)),(4,.c (.int .i64 k)),(5,.c (.ptr x5 0)),(6,.c (.int .i64 j))]) q.blocks.length ?_ ?_)
    ·exact⟨0,n,Zx,Zx,rfl,hn,fun _ _ h=>Zx,kn,rfl⟩
    ·rintro m2 e1 H4 ⟨j,n2,eo,hj,vK,jr,eW,kn,rfl⟩;have fk:=kn.l 0 rfl;refine Q1 (Qa ?_);simp only[go_sem,fk,Qm];intro sB;refine Wu ?_ ?_
     ·intro bI;have fb:j<q.blocks.length:=ZL;refine Wd ?_;have qh:=aW _ (Jd ae);rw[hq]at qh;have qw:=qh _ (Jd fb);have o7:=GB (f:=AF) fb;have fu:AF q.blocks[j]=q.blocks[j].ins.length+q.blocks[j].aa.length:=rfl;refine Aj ?_;simp only[go_sem,fk,fb,Qm,Q9 _ _ fb,BlkD.cells,Ax,Q7];refine⟨Qr,Qr,?_⟩;refine Za ?_;have fin:∀(b3:Bool) (E1:Env) (H5:Heap),(decide (n2+AF q.blocks[j]≤800)&&blkG cs k j q q.blocks[j])=(!b3)→Kn H H5 [] [(x5,.st [.int .i64 q.params,.int .i64 q.ab,.sl false 5 (Qo q.blocks)])]→lk 1 E1=.c (.pp [.sl fl 3 (Qk cs)])→
        lk 3 E1=.c (.int .i64 ((n2+q.blocks[j].ins.length+q.blocks[j].aa.length:Nat):Int))→lk 4 E1=.c (.int .i64 k)→lk 5 E1=.c (.ptr x5 0)→lk 6 E1=.c (.int .i64 j)→lk 75 E1=.c (.bool b3)→
        Ac prog Qq4 (X.inBlock 3 (X.sq prog Qny (X.next (fun e2 H2=>∃m,m<m2∧∃(j n2:Nat),m=q.blocks.length-j∧j≤q.blocks.length∧n2=n+Ay AF (q.blocks.take j)∧n2≤800∧(∀(i:Nat) (hi:i<q.blocks.length),i<j→blkG cs k i q q.blocks[i]=true)∧Kn H H2 [] [(x5,.st [.int .i64 q.params,.int .i64 q.ab,.sl false 5 (Qo q.blocks)])]∧
         e2=[(1,.c (.pp [.sl fl 3 (Qk cs)])),(3,.c (.int .i64 n2)),(4,.c (.int .i64 k)),(5,.c (.ptr x5 0)),(6,.c (.int .i64 j))])
         (X.inBlock 2 (X.inBlock 1 (X.sq prog Vr (X.next (fun e2 H2=>∃m_1,m_1<m∧∃(k n:Nat),m_1=cs.length-k∧k≤cs.length∧n=Ay AH (cs.take k)∧n≤800∧(∀(i:Nat) (hi:i<cs.length),i<k→AZ cs i hi)∧Kn H H2 [] []∧e2=[(1,.c (.pp [.sl fl 3 (Qk cs)])),(3,.c (.int .i64 n)),(4,.c (.int .i64 k))])
         (X.inBlock 0 (X.sq prog Vq (Q6 HS (unK H K))))))))))) E1 H5:=by
       intro b3 E1 H5 m7 kn l1 l3 l4 l5 l6 l75;refine Qe l75 ?_ ?_
       ·intro dq;refine Wp ?_;refine retf false _ _ _ (G8 fun hu=>?_) kn Zy;rw[dq]at m7;have cM:=(hu.2.1 k ae).2 j (by rw[hq];exact fb);subst hq;have hov:¬800<n2+AF cs[k].blocks[j]:=fun ho=>Yc ae fb Zx hu;rw[cM]at m7;simp at m7;omega
       ·intro dq;rw[dq]at m7;simp only[Js,Ji,decide_eq_true_eq]at m7;refine Ze ?_;refine Qp ?_;simp only[go_sem,X.next,l1,l3,l4,l5,l6];refine⟨Qr,q.blocks.length-(j+1),Zx,j+1,_,rfl,Zx,?_,?_,?_,kn,rfl⟩
        ·rw[o7];omega
        ·omega
        ·intro i hi fV;by_cases w3:i<j
         ·exact eW i hi w3
         ·have:i=j:=Zx;subst this;exact m7.2
      refine⟨fun bj=>?_,fun bj=>?_⟩
      ·refine Qbog ae (by rw[hq];exact fb) (by rw[hq];exact bM) (by rw[hq];exact cG) Zx (by rw[hq];omega) fun H5 hu=>?_;have kn:=kn.aw hu;simp only[go_sem,Vo];refine fin _ _ _ ?_ kn Zy Zy Zy Zy Zy ZE;subst hq;by_cases ho:n2+AF cs[k].blocks[j]≤800
       ·have eQ:¬800<(n2:Int)+cs[k].blocks[j].ins.length+cs[k].blocks[j].aa.length:=(by simp only[AF]at ho;omega);simp[ho,eQ]
       ·have eQ:800<(n2:Int)+cs[k].blocks[j].ins.length+cs[k].blocks[j].aa.length:=(by simp only[AF]at ho;omega);simp[ho,eQ]
      ·replace bj:=AD bj;simp only[go_sem,Vo,bj];exact fin true _ _ (by simp at bj;simp[fu];omega) kn Zy Zy Zy Zy Zy Zy
     ·intro bI;refine Zc ?_;refine Zf ?_;have yJ:q.blocks.length≤j:=ZL;have yJ:j=q.blocks.length:=Zx;refine⟨Qr,cs.length-(k+1),Zx,k+1,n2,rfl,Zx,?_,jr,?_,kn.drop (A:=[]),rfl⟩
      ·rw[GB ae,hq,vK,cP,yJ,List.take_length];rfl
      ·intro i hi yM;by_cases wz:i<k
       ·exact bG i hi wz
       ·have:i=k:=Zx;subst this;subst hq;exact⟨by rw[hb];rfl,fun b bB=>eW b bB Zx⟩
   refine⟨fun bj=>?_,fun bj=>?_⟩
   ·refine AS ?_;simp only[go_sem,Vp,dR,Qm];intro yY;refine⟨fun bX=>?_,fun bX=>?_⟩
    ·replace bX:=B4 bX;refine AS ?_;simp only[go_sem,Sv];refine rest _ _ Zy Zy Zy Zy ZE ?_;simp[B6]
    ·replace bX:=AD bX;simp only[go_sem,Sv,bX];exact rest true _ Zy Zy Zy Zy Zy (by simp at bX;simp[B6];omega)
   ·replace bj:=AD bj;simp only[go_sem,Vp,Sv,bj,dR,Qm,cond_true];exact rest true _ Zy Zy Zy Zy Zy (by simp at bj;simp[B6];omega)
  ·intro hc;refine Wc ?_;refine Ql ?_;have pd:cs.length≤k:=ZA
   refine retf true _ _ _ (decide_eq_true ⟨Zx,fun i hi=>bG i hi Zx,?_⟩) kn Zy;rw[Jc pd]at cP;omega
theorem Qa8m {cs:List CodeD}{fl:Bool}(aW:∀c∈cs,c.fits)(hK:∀(b:Bool) (H':Heap),(b=true→cs.length≤4∧0<cs.length∧∀c∈cs,c.gd)→Upd H H' []→K (.c (.bool b)) H') :
  Qs prog DC [.ag [.sl fl 3 (Qk cs)]] H K:=GU aW fun H' hu=>hK _ H' (Fj aW) hu
end Go.AE.Y
namespace Go.AE.Y
open Go.Proofs.Tryz
variable {H:Heap}{K:V→Heap→Prop}
def UnitOk (cs:List CodeD):Prop:=0<cs.length∧cs.length≤4∧∀c∈cs,c.gd
theorem KG {R:Rdr}{k:Nat}(hH:H R.l=R.o k)(hk:k+7100000≤2^30)
  (hK:∀(cs:List CodeD) (H':Heap) (k':Nat),k<k'→k'≤k+7050000→Upd H H' [(R.l,R.o k')]→UnitOk cs→K (.ag [.sl false 3 (Qk cs)]) H') :
  Qs prog R5 [.c (.ptr R.l 0)] H K:=by
 refine Qx ?_;refine Qc Ab Qbor ?_;refine Za ?_;intro x2 aI H1 h1;have kn:=(Kn.start1 hH (R.aj k)).al aI h1;have tail:∀(E1:Env) (H2:Heap) (k1:Nat) (L:List (Nat×Obj)),k<k1→k1≤k+7000500→Kn H H2 [(R.l,R.o k1)] ([(x2,.st [.sl true 3 []])]++L)→lk 0 E1=.c (.ptr R.l 0)→lk 2 E1=.c (.ptr x2 0)→
   Ac prog MU (Q6 S8 (unK H K)) E1 H2:=by
  intro E1 H2 k1 L fT fA kn l0 l2;refine Zi l0 ?_;refine K1 (kn.e 0 rfl) Zx fun cs H3 k2 gu f9 hu kO sn ll=>?_;have kn:=kn.an 0 rfl hu (R.aj _);have aI:=kn.l 0 rfl;simp only[go_sem,Px,aI,l2];intro H4 h4;have kn:=kn.aB 0 rfl h4;have aI:=kn.l 0 rfl;refine Zg aI ?_;exact⟨_,FrzL.ag (.cons (FrzR.same (Dg cs)).sl .nil),hK cs _ k2 Zx Zx kn.fin ⟨kO,Zx,fun c hc=>(ll c hc).gd⟩⟩
 refine Wa ?_;refine A5 (kn.e 0 rfl) Zx fun v H2 hv hu=>?_;have kn:=kn.an 0 rfl hu (R.aj _);simp only[go_sem,OP];refine Wu ?_ ?_
 ·intro hc;refine Za ?_;refine Qbt6 (kn.e 0 rfl) Zx fun l H3 k1 fT fA hu hp=>?_;have kn:=kn.an 0 rfl hu (R.aj _);simp only[go_sem,Py];refine Qbuc hp fun cs H4 hu kO aW=>?_;have kn:=kn.aw hu;simp only[go_sem,Pz];intro x3 aP H5 h5;have kn:=kn.al aP h5;have aP:=kn.l 1 rfl;simp only[go_sem,P0,aP];intro H6 h6;have kn:=kn.aB 1 rfl h6;have aP:=kn.l 1 rfl;refine Zi aP ?_;refine Qa8m aW fun b H7 hb hu=>?_;have kn:=kn.aw hu;have aP:=kn.l 1 rfl;have aI:=kn.l 0 rfl;refine Wv ?_ ?_
  ·intro bj;refine Zl aP aI ?_;intro H8 h8;have kn:=kn.aB 0 rfl h8;have aI:=kn.l 0 rfl;refine Zg aI ?_;obtain⟨g1,g2,g3⟩:=hb bj;exact⟨_,FrzL.ag (.cons (FrzR.same (Dg cs)).sl .nil),hK cs _ k1 Zx Zx kn.fin ⟨g2,g1,g3⟩⟩
  ·intro bj;refine Ze ?_;exact tail _ _ k1 [(x3,.st [.sl false 3 (Qk cs)])] Zx Zx kn Zy Zy
 ·intro hc;refine Ze ?_;exact tail _ _ (k+1) [] Zx Zx kn Zy Zy
theorem FP {R:Rdr}{k:Nat}(hH:H R.l=R.o k)(hk:k+7200000≤2^30)
  (hK:∀(cs:List CodeD) (H':Heap) (k':Nat),k<k'→k'≤k+7100000→Upd H H' [(R.l,R.o k')]→UnitOk cs→K (.ag [.sl false 3 (Qk cs)]) H') :
  Qs prog HD [.c (.ptr R.l 0)] H K:=by
 refine Qx ?_;refine Qc Ab Qbol ?_;refine Za ?_;intro x2 aI H1 h1;have kn:=(Kn.start1 hH (R.aj k)).al aI h1;refine Wa ?_;refine A5 (kn.e 0 rfl) Zx fun v H2 hv hu=>?_;have kn:=kn.an 0 rfl hu (R.aj _);simp only[go_sem,Pj];refine Wu ?_ ?_
 ·intro hc;refine Za ?_;refine Qbt7 (kn.e 0 rfl) Zx fun cs H3 k2 gu f9 hu kO sn bG=>?_;have kn:=kn.an 0 rfl hu (R.aj _);have aI:=kn.l 0 rfl;simp only[go_sem,Pi,aI];intro H4 h4;have kn:=kn.aB 0 rfl h4;have aI:=kn.l 0 rfl;refine Zg aI ?_;exact⟨_,FrzL.ag (.cons (FrzR.same (Dg cs)).sl .nil),hK cs _ k2 Zx Zx kn.fin ⟨kO,Zx,bG⟩⟩
 ·intro hc;refine Ze ?_;refine Za ?_;refine KG (kn.e 0 rfl) Zx fun cs H3 k2 gu f9 hu au=>?_;have kn:=kn.an 0 rfl hu (R.aj _);have aI:=kn.l 0 rfl;simp only[go_sem,Ph,aI];intro H4 h4;have kn:=kn.aB 0 rfl h4;have aI:=kn.l 0 rfl;refine Zg aI ?_;exact⟨_,FrzL.ag (.cons (FrzR.same (Dg cs)).sl .nil),hK cs _ k2 Zx Zx kn.fin au⟩
theorem Qboc {fl:Bool}{bs:List UInt8}(hK:∀(R:Rdr) (H':Heap),H R.l=.none→H'=H.set R.l (R.o 0)→K (.c (.ptr R.l 0)) H'):Qs prog Q64 [.c (.sl fl 1 (AT bs))] H K:=by
 refine Qc Ab Qbo5 ?_;refine Wj ?_;simp only[go_sem,C9];intro _;have tail:∀(fl:Bool) (bs:List UInt8) (E1:Env),lk 0 E1=.c (.sl fl 1 (AT bs))→Ac prog MN (Q6 FF K) E1 H:=by
  intro fl bs E1 l0;refine Zi l0 ?_;intro l hl H' h';simp only[go_sem,OI];refine Zb ?_;exact hK ⟨l,fl,bs⟩ H' hl h'
 refine Wu ?_ ?_
 ·intro hc;have h2:(2000:Int)<bs.length:=ZA
  refine Qp ?_;simp only[go_sem,C9];refine⟨⟨Zx,Zx,Zx⟩,?_⟩;have ht:List.take 2000 (AT bs)=AT (bs.take 2000):=by simp[AT,Jbk]
  rw[ht];exact tail _ (bs.take 2000) _ ZE
 ·intro hc;refine Qi ?_;exact tail fl bs _ Zy
end Go.AE.Y
namespace Go.AE.Y
def Bt (n:Nat)(nx:Nat→List Int):Bool:=(List.range n).all (fun i=>(nx i).all fun x=>decide (0≤x∧x≤(n:Int)-1))&&decide (0<n)
def nxN (nx:Nat→List Int)(b:Nat):List Nat:=(nx b).map Int.toNat
theorem FU {n:Nat}{nx:Nat→List Int}(h:Bt n nx=true){b:Nat}(hb:b<n){x:Int}(hx:x∈nx b):0≤x∧x≤(n:Int)-1:=by
 simp only[Bt,Ji,J2,J9,decide_eq_true_eq]at h;exact h.1 b hb x hx
theorem Hn {n:Nat}{nx:Nat→List Int}(h:Bt n nx=true):0<n:=by
 simp only[Bt,Ji,decide_eq_true_eq]at h;exact h.2
theorem Cu {n:Nat}{nx:Nat→List Int}(h:Bt n nx=true){b:Nat}(hb:b<n){x:Nat}(hx:x∈nxN nx b):x<n:=by
 obtain⟨y,hy,rfl⟩:=Jn.1 hx;have:=FU h hb hy;omega
inductive Dfs (g:Nat→List Nat):List Nat→List Bool→List Nat→List Bool→List Nat→Prop
 |nil (S:List Bool) (o:List Nat):Dfs g [] S o S o
 |skip {x:Nat} {xs:List Nat} {S S':List Bool} {o o':List Nat}:S.getD x false=true→Dfs g xs S o S' o'→Dfs g (x::xs) S o S' o'
 |go {x:Nat} {xs:List Nat} {S S1 S':List Bool} {o o1 o':List Nat}:S.getD x false=false→Dfs g (g x) (S.set x true) o S1 o1→Dfs g xs S1 (o1++[x]) S' o'→Dfs g (x::xs) S o S' o'
variable {g:Nat→List Nat}{xs:List Nat}{S S' S1:List Bool}{o o' o1:List Nat}
theorem Dfs.app (h:Dfs g xs S o S1 o1):∀{ys:List Nat},Dfs g ys S1 o1 S' o'→Dfs g (xs++ys) S o S' o':=by
 induction h with
 |nil S o=>exact fun h=>h
 |skip h1 h2 ih=>exact fun h=>.skip h1 (ih h)
 |go h1 h2 h3 ih1 ih2=>exact fun h=>.go h1 h2 (ih2 h)
theorem Dfs.one {x:Nat}(h1:S.getD x false=false)(h:Dfs g (g x) (S.set x true) o S1 o1):Dfs g [x] S o S1 (o1++[x]):=.go h1 h (.nil _ _)
theorem Dfs.len (h:Dfs g xs S o S' o'):S'.length=S.length:=by
 induction h with
 |nil=>rfl
 |skip _ _ ih=>exact ih
 |go _ _ _ ih1 ih2=>rw[ih2,ih1,Jl]
theorem C6 (S:List Bool)(x y:Nat):(S.set x true).getD y false=(if y=x∧x<S.length then true else S.getD y false):=by
 simp only[Jb,J7];by_cases h:x=y
 ·subst h;by_cases h2:x<S.length
  ·simp[h2]
  ·simp[h2]
 ·have h':¬y=x:=fun hh=>h hh.symm;simp[h,h']
theorem Dfs.mono (h:Dfs g xs S o S' o'):∀x,S.getD x false=true→S'.getD x false=true:=by
 induction h with
 |nil=>exact fun _ h=>h
 |skip _ _ ih=>exact ih
 |go _ _ _ ih1 ih2=>
  intro x hx;refine ih2 x (ih1 x ?_);rw[C6];split
  ·rfl
  ·exact hx
def cnt (S:List Bool):Nat:=S.count true
theorem DK {x:Nat}(hx:x<S.length)(h:S.getD x false=false):cnt (S.set x true)=cnt S+1:=by
 induction S generalizing x with
 |nil=>simp at hx
 |cons a S ih=>
  cases x with
  |zero=>
   simp at h;subst h;simp[cnt]
  |succ x=>
   have:=ih (x:=x) ZaN ZI;simp only[cnt,Ja5,Jbg]at this⊢;omega
theorem CH (S:List Bool):cnt S≤S.length:=List.count_le_length
theorem Dfs.count (h:Dfs g xs S o S' o'):(∀x,x<S.length→∀y∈g x,y<S.length)→(∀x∈xs,x<S.length)→o'.length+cnt S=o.length+cnt S':=by
 induction h with
 |nil=>intros;rfl
 |skip _ _ ih=>exact fun h1 h2=>ih h1 fun x hx=>h2 x (Jh _ hx)
 |@go x xs S S1 S' o o1 o' h1 h2 h3 ih1 ih2=>
  intro hg j7;have hx:=j7 x Jj;have e1:=ih1 Zab (by simpa using hg x hx);have hl:=h2.len;rw[Jl]at hl;have e2:=ih2 (by rw[hl];exact hg) (by rw[hl];exact fun y hy=>j7 y (Jh _ hy));rw[DK hx h1]at e1;simp only[J5,Jk,Jo]at e2;omega
theorem Dfs.olen (h:Dfs g xs S o S' o'):o.length≤o'.length:=by
 induction h with
 |nil=>exact Jp _
 |skip _ _ ih=>exact ih
 |go _ _ _ ih1 ih2=>rw[J5]at ih2;omega
theorem Dfs.all (h:Dfs g xs S o S' o'):∀P:Nat→Prop,(∀x,P x→∀y∈g x,P y)→(∀x∈xs,P x)→(∀x∈o,P x)→∀x∈o',P x:=by
 induction h with
 |nil=>exact fun P _ _ h=>h
 |skip _ _ ih=>exact fun P h1 h2 h3=>ih P h1 (fun x hx=>h2 x (Jh _ hx)) h3
 |go h1 h2 h3 ih1 ih2=>
  intro P hg j7 ho;have hx:=j7 _ Jj;refine ih2 P hg (fun y hy=>j7 y (Jh _ hy)) fun y hy=>?_;rcases Je.1 hy with hy|hy
  ·exact ih1 P hg (hg _ hx) ho y hy
  ·simp at hy;subst hy;exact hx
end Go.AE.Y
namespace Go.AE.Y
open Go.Proofs.Tryz
variable {H:Heap}{K:V→Heap→Prop}
structure GRd (H:Heap)(c:C)(rows:List (List C))(nx:Nat→List Int):Prop where
 s:Slc H 5 rows c
 ow:c.ah=false
 no:∀r∈rows,ak r=true
 x:∀i,i<rows.length→∃a1 a2 a3 a4 fl,rows.getD i []=[a1,a2,a3,a4,.sl fl 1 (Qb (nx i))]
theorem GRd.keep {c:C}{rows:List (List C)}{nx:Nat→List Int}{H':Heap}{E L:List (Nat×Obj)}(h:GRd H c rows nx)(kn:Kn H H' E L)(hE:∀l a b d,c=.af l a b d→l∉E.map Prod.fst):GRd H' c rows nx:=⟨h.s.keep kn hE,h.ow,h.no,h.x⟩
theorem GRd.keep0 {c:C}{rows:List (List C)}{nx:Nat→List Int}{H':Heap}{L:List (Nat×Obj)}(h:GRd H c rows nx)(kn:Kn H H' [] L):GRd H' c rows nx:=h.keep kn Zz
def gnx (q:CodeD):Nat→List Int:=fun i=>(q.blocks.map BlkD.next).getD i []
theorem Do (H:Heap)(q:CodeD)(fl:Bool):GRd H (.sl fl 5 (Qo q.blocks)) (Qo q.blocks) (gnx q):=by
 refine⟨.mk' _ _ _ _,rfl,N4 _,fun i h=>?_⟩;rw[Qm]at h;rw[Q9 _ _ h];have:gnx q i=q.blocks[i].next:=by simp[gnx,Jb,h]
 exact⟨.sl false 2 (Ae q.blocks[i].aa),.sl false 4 (Af q.blocks[i].ins),.int .i64 q.blocks[i].jump,.int .i64 q.blocks[i].on,false,by rw[this];rfl⟩
set_option maxHeartbeats 1000000 in
theorem Qbnz {p rg:Int}{bc:C}{rows:List (List C)}{nx:Nat→List Int}(hg:GRd H bc rows nx)(hK:K (.c (.bool (Bt rows.length nx))) H):Qs prog Q6s [.ag [.int .i64 p,.int .i64 rg,bc]] H K:=by
 refine Qc Ab Qboo ?_;have b8:=hg.ow;have au:=eq_true hg.s.ok;have am:=hg.s.len;have bz:=hg.s.sz;have fg:=hg.s.rows;have retf:∀(b:Bool) (e:Env),b=Bt rows.length nx→lk 2 e=.c (.bool b)→Q6 FQ K .ret e H:=by
  intro b e hb h3;simp only[go_sem,Q6,Aa,Ja,forall_eq,RS.op,h3];rw[hb];exact hK
 refine Wf ?_;refine Qh (Qd (Qw (fun m e1 H1=>∃(i:Nat),m=rows.length-i∧i≤rows.length∧H1=H∧(∀j,j<i→∀x∈nx j,0≤x∧x≤(rows.length:Int)-1)∧e1=[(1,.c (.pp [.int .i64 p,.int .i64 rg,bc])),(3,.c (.int .i64 i))]) rows.length ?_ ?_))
 ·exact⟨0,Zx,Zx,rfl,fun j hj=>Zx,rfl⟩
 ·rintro m e1 H1 ⟨i,hm,hi,rfl,cq,rfl⟩;refine Q1 (Qa ?_);simp only[go_sem,b8,au,am];intro hl;simp only[LIM]at hl;refine Wu ?_ ?_
  ·intro hc;have ae:i<rows.length:=ZA
   obtain⟨a1,a2,a3,a4,fl,aK⟩:=hg.x i ae;refine Ze ?_;refine A4 (fun e2 H2=>H2=H1∧(∀x∈nx i,0≤x∧x≤(rows.length:Int)-1)∧lk 1 e2=.c (.pp [.int .i64 p,.int .i64 rg,bc])∧lk 3 e2=.c (.int .i64 i)) ?_ ?_
   ·intro Q hn hr _;refine Ws ?_;refine Qd (Qw (fun m e1 H2=>∃(k:Nat),m=(nx i).length-k∧k≤(nx i).length∧H2=H1∧(∀x∈(nx i).take k,0≤x∧x≤(rows.length:Int)-1)∧e1=[(1,.c (.pp [.int .i64 p,.int .i64 rg,bc])),(3,.c (.int .i64 i)),(4,.c (.int .i64 k))]) (nx i).length ?_ ?_)
    ·exact⟨0,Zx,Zx,rfl,Zz,rfl⟩
    ·rintro m2 e1 H2 ⟨k,eo,hk,rfl,fd,rfl⟩;refine Q1 (Qa ?_);simp only[go_sem,b8,au,am,bz,fg,ae,aK,Qf];intro ig;simp only[LIM]at ig;refine Wu ?_ ?_
     ·intro hc;have aT:k<(nx i).length:=ZA;have bG:(nx i).getD k 0=(nx i)[k]:=(by simp[Jb,aT]);refine Wd ?_;refine Aj ?_;simp only[go_sem,b8,au,am,bz,fg,ae,aK,aT,Qf,Qn _ _ aT,bG];refine⟨Qr,?_⟩;refine AS ?_;simp only[go_sem,OY];refine Wv ?_ ?_
      ·intro aC;refine Wp ?_;refine hr _ _ (retf false _ ?_ Zy)
       cases hf:Bt rows.length nx with
       |false=>rfl
       |true=>
        have:=FU hf ae (Jd aT);simp at aC;omega
      ·intro aC;refine Wl ?_;refine⟨Qr,(nx i).length-(k+1),Zx,k+1,rfl,Zx,fun x hx=>?_,rfl⟩;rw[Jg aT]at hx;rcases Je.1 hx with hx|hx
       ·exact fd x hx
       ·simp only[Ja]at hx;subst hx;simpa using aC
     ·intro hc;have bd:(nx i).length≤k:=ZA;rw[Jc bd]at fd;refine Zc ?_;exact hn _ _ ⟨rfl,fd,Zy,Zy⟩
   ·rintro e2 H2 ⟨rfl,hx,l1,l3⟩;refine Qp ?_;simp only[go_sem,X.next,l1,l3];refine⟨Qr,rows.length-(i+1),Zx,i+1,rfl,Zx,fun j hj=>?_,rfl⟩;by_cases h:j<i
    ·exact cq j h
    ·have:j=i:=Zx;subst this;exact hx
  ·intro hc;have bd:i=rows.length:=by have:¬i<rows.length:=ZA;omega
   subst bd;refine Zc ?_;refine Zp b8 au am ?_;intro _;refine Ql ?_;refine retf _ _ ?_ ZE;have:(List.range rows.length).all (fun i=>(nx i).all fun x=>decide (0≤x∧x≤(rows.length:Int)-1))=true:=by
    simp only[J2,J9,decide_eq_true_eq];exact cq
   simp only[Bt,this,Jbj];try (by_cases h:0<rows.length <;> simp[h])
end Go.AE.Y
namespace Go.AE.Y
open Go.Proofs.Tryz
def Qt (S:List Bool):List (List C):=S.map fun b=>[.bool b]
theorem Qy (S:List Bool):(Qt S).length=S.length:=by simp[Qt]
theorem Q4 (S:List Bool)(i:Nat)(h:i<S.length):(Qt S).getD i []=[.bool (S.getD i false)]:=by
 simp[Qt,Jb,h]
theorem Cl (S:List Bool)(i:Nat)(b:Bool):(Qt S).set i [.bool b]=Qt (S.set i b):=by simp[Qt,Jbd]
theorem RX (S:List Bool):∀r∈Qt S,ak r=true:=by intro r hr;obtain⟨x,_,rfl⟩:=Jn.1 hr;rfl
def Q5 (l:List Nat):List (List C):=Qb (l.map Int.ofNat)
theorem Qz (l:List Nat):(Q5 l).length=l.length:=by simp[Q5,Qf]
theorem Qa9u (l:List Nat)(n:Nat):Q5 l++[[.int .i64 (n:Int)]]=Q5 (l++[n]):=by simp[Q5,Qb]
theorem BC (l:List Nat):∀r∈Q5 l,ak r=true:=Qq _
set_option maxHeartbeats 2000000 in
theorem Q68 {F:Heap}{p rg:Int}{bc:C}{rows:List (List C)}{nx:Nat→List Int}{y:Nat}(aW:Bt rows.length nx=true)(hn:rows.length≤1000000)(hg:GRd F bc rows nx)(cF:∀l a b d,bc=.af l a b d→l≠y) :
  ∀(u b:Nat) (S:List Bool) (o:List Nat) (oc:C) (Lg:List (Nat×Obj)) (H:Heap) (K:V→Heap→Prop),S.length=rows.length→rows.length-cnt S≤u→b<rows.length→S.getD b false=false→
   Kn F H [(y,.vec 1 (Qt S))] ([]++Lg)→Gr Lg 1 (Q5 o) oc→o.length≤cnt S→
   (∀(S':List Bool) (o':List Nat) (oc':C) (Lg':List (Nat×Obj)) (H':Heap),Dfs (nxN nx) [b] S o S' o'→Kn F H' [(y,.vec 1 (Qt S'))] ([]++Lg')→Gr Lg' 1 (Q5 o') oc'→K (.c oc') H')→
   Qs prog GO [.ag [.int .i64 p,.int .i64 rg,bc],.c (.int .i64 b),.c (.af y 1 0 rows.length),.c oc] H K:=by
 intro u
 induction u with
 |zero=>
  intro b S o oc Lg H K hS hu hb ka;have h1:=DK (S:=S) (x:=b) Zx ka;have h2:=CH (S.set b true);rw[Jl]at h2;omega
 |succ u ih=>
  intro b S o oc Lg H K hS hu hb ka kn ao em hK;have b8:=hg.ow;have xc:b<S.length:=Zx
  obtain⟨a1,a2,a3,a4,fl,aK⟩:=hg.x b hb;have bz:=hg.s.sz;have am:=hg.s.len;have hy:=kn.e 0 rfl;have vB:=ao.ah;refine Qc Ab Qbjd ?_;refine Wg ?_;have bN:List.take rows.length (Qt S)=Qt S:=Jc Zai;simp only[go_sem,hy,hb,Qy,hS,Q4 _ _ xc,Cl,Jan,Jw,Jp];intro H1 h1;have kn:=kn.stE 0 rfl h1;have hcS:=DK xc ka;have rA:(nxN nx b).length=(nx b).length:=by simp[nxN]
  refine Wa ?_;refine Qh (Qd (Qw (fun m e1 H1=>∃(i:Nat) (S1:List Bool) (o1:List Nat) (oc1:C) (Lg1:List (Nat×Obj)),m=(nx b).length-i∧i≤(nx b).length∧Dfs (nxN nx) ((nxN nx b).take i) (S.set b true) o S1 o1∧
   Kn F H1 [(y,.vec 1 (Qt S1))] ([]++Lg1)∧Gr Lg1 1 (Q5 o1) oc1∧
   e1=[(1,.c (.int .i64 b)),(2,.c (.af y 1 0 rows.length)),(3,.c oc1),(4,.c (.pp [.int .i64 p,.int .i64 rg,bc])),(9,.c (.int .i64 i))]) (nx b).length ?_ ?_))
  ·exact⟨0,_,o,oc,Lg,Zx,Zx,.nil _ _,kn,ao,rfl⟩
  ·rintro m e1 H2 ⟨i,S1,o1,oc1,Lg1,hm,hi,hd,kn,ao,rfl⟩;have bG:∀x,x<(S.set b true).length→∀z∈nxN nx x,z<(S.set b true).length:=by
    rw[Jl,hS];exact fun x hx z hz=>Cu aW hx hz
   have d9:=hd.len;rw[Jl,hS]at d9;have dF:=hd.count bG (fun x hx=>bG b (by rw[Jl];exact xc) x (Ja1 hx));have hd3:=hd.olen;have hd4:=CH S1;have dD:=hg.keep kn (fun l a b d hh=>by simpa using cF l a b d hh);have eM:=eq_true dD.s.ok;have oA:=dD.s.rows;have hy:=kn.e 0 rfl;refine Q1 (Qa ?_);simp only[go_sem,b8,eM,am,bz,oA,hb,aK,Qf];intro hl;simp only[LIM]at hl;refine Wu ?_ ?_
   ·intro hc;have ae:i<(nx b).length:=ZA;obtain⟨w,hw⟩:∃w:Nat,(nx b).getD i 0=w:=by
     have h1:=FU aW hb (Jd ae);refine⟨((nx b)[i]).toNat,?_⟩;simp only[Jb,Jm ae,Jau];omega
    have qd:(nxN nx b).take (i+1)=(nxN nx b).take i++[w]:=by
     rw[Jg (by rw[rA];exact ae)];congr 1;simp only[nxN,Jbe];simp only[Jb,Jm ae,Jau]at hw;rw[hw];simp
    have oe:w<rows.length:=Cu aW hb (x:=w) (by
     have:w∈(nxN nx b).take (i+1):=(by rw[qd];simp);exact Ja1 this)
    have hwS:w<S1.length:=Zx;refine Ze ?_;refine A4 (fun e2 H2=>∃(S2:List Bool) (o2:List Nat) (oc2:C) (Lg2:List (Nat×Obj)),Dfs (nxN nx) ((nxN nx b).take (i+1)) (S.set b true) o S2 o2∧
     Kn F H2 [(y,.vec 1 (Qt S2))] ([]++Lg2)∧Gr Lg2 1 (Q5 o2) oc2∧
     lk 1 e2=.c (.int .i64 b)∧lk 2 e2=.c (.af y 1 0 rows.length)∧lk 3 e2=.c oc2∧lk 4 e2=.c (.pp [.int .i64 p,.int .i64 rg,bc])∧lk 9 e2=.c (.int .i64 i)) ?_ ?_
    ·intro Q bD _ _;have ey:List.take rows.length (Qt S1)=Qt S1:=Jc Zai;refine Qd (Qa ?_);simp only[go_sem,b8,eM,am,bz,oA,hb,aK,ae,hy,hw,oe,ey,d9,Qy,Q4 _ _ hwS,Qf,Qn _ _ ae,Jan,Jw,Jp];refine Wv ?_ ?_
     ·intro aC;have o0:S1.getD w false=false:=B4 aC;refine Au ?_;simp only[go_sem,b8,eM,am,bz,oA,hb,aK,ae,hw,Qf,Qn _ _ ae];refine ih w S1 o1 oc1 Lg1 H2 _ d9 Zx oe o0 kn ao Zx fun S2 o2 oc2 Lg2 H3 fh kn ao=>?_;simp only[go_sem,Q4y];refine bD _ _ ⟨S2,o2,oc2,Lg2,?_,kn,ao,rfl,rfl,rfl,rfl,rfl⟩;rw[qd];exact hd.app fh
     ·intro aC;have o0:S1.getD w false=true:=AD aC;refine Ze ?_;refine bD _ _ ⟨S1,o1,oc1,Lg1,?_,kn,ao,rfl,rfl,rfl,rfl,rfl⟩;rw[qd];exact hd.app (.skip o0 (.nil _ _))
    ·rintro e2 H3 ⟨S2,o2,oc2,Lg2,hd,kn,ao,l1,l2,l3,l4,l9⟩;refine Qp ?_;simp only[go_sem,X.next,l1,l2,l3,l4,l9];exact⟨Qr,(nx b).length-(i+1),Zx,i+1,S2,o2,oc2,Lg2,rfl,Zx,hd,kn,ao,rfl⟩
   ·intro hc;have bd:(nx b).length≤i:=ZA;rw[Jc (by rw[rA];exact bd)]at hd;have vB:=ao.ah;refine Wc ?_;refine kn.grow (new:=Qb [(b:Int)]) ao (.mk' _ _ _ _) (Qq _) (by simp only[Qz,Qf,LIM,Jk,Jo];omega) fun z H3 kn=>?_;simp only[go_sem,Q4z];refine Zb ?_;refine hK S1 (o1++[b]) _ _ H3 (.one ka hd) kn ?_;rw[←Qa9u];exact .mk _ _ _ Zz
variable {H:Heap}{K:V→Heap→Prop}
theorem C2 {n lo hi:Int}(hK:K (.c (.bool (decide (lo≤n)&&decide (n≤hi)))) H):Qs prog Cd [.c (.int .i64 n),.c (.int .i64 lo),.c (.int .i64 hi)] H K:=by
 refine Qc Ab Qa9g ?_;refine Wb ?_;refine Zb ?_;have:(bif decide (lo≤n)then decide (n≤hi)else false)=(decide (lo≤n)&&decide (n≤hi)):=by cases decide (lo≤n) <;> rfl
 first|exact hK|(rw[this];exact hK)|(simpa[this]using hK)
def IsIx (ns:List Int)(v r:Int):Prop:=(r=-1∧v∉ns)∨∃i:Nat,r=i∧i<ns.length∧ns.getD i 0=v∧v∉ns.take i
theorem IsIx.nonneg {ns:List Int}{v r:Int}(h:IsIx ns v r):decide (0≤r)=ns.contains v:=by
 rcases h with ⟨rfl,hn⟩|⟨i,rfl,h1,h2,_⟩
 ·have:ns.contains v=false:=by
   cases hc:ns.contains v with
   |false=>rfl
   |true=>exact absurd (Jaa.1 hc) hn
  rw[this];rfl
 ·have:v∈ns:=by
   rw[←h2,Jb,Jm h1];exact Jd h1
  rw[Jaa.2 this];simp
theorem Gv {c:C}{ns:List Int}{v:Int}(hs:Slc H 1 (Qb ns) c)(b8:c.ah=false)(hK:∀r,IsIx ns v r→K (.c (.int .i64 r)) H) :
  Qs prog HI [.c c,.c (.int .i64 v)] H K:=by
 refine Qc Ab Qbjl ?_;have au:=eq_true hs.ok;have am:=hs.len;have bz:=hs.sz;have fg:=hs.rows;refine Wj ?_;simp only[go_sem,au,am,Qf];intro hl;simp only[LIM]at hl;refine Qh (Qd (Qw (fun m e1 H1=>∃(i:Nat),m=ns.length-i∧i≤ns.length∧H1=H∧v∉ns.take i∧e1=[(0,.c c),(1,.c (.int .i64 v)),(7,.c (.int .i64 ns.length)),(8,.c (.int .i64 i))]) ns.length ?_ ?_))
 ·exact⟨0,Zx,Zx,rfl,Zz,rfl⟩
 ·rintro m e1 H1 ⟨i,hm,hi,rfl,cd,rfl⟩;refine Za ?_;refine Wu ?_ ?_
  ·intro hc;have ae:i<ns.length:=ZA
   have bG:ns.getD i 0=ns[i]:=ZX
   refine Wd ?_;refine Wg ?_;simp only[go_sem,au,am,bz,fg,ae,Qf,Qn _ _ ae];refine Wv ?_ ?_
   ·intro aC;have hv:v=ns.getD i 0:=ZC;refine Za ?_;refine Zm ?_;exact hK _ (.inr ⟨i,rfl,ae,hv.symm,cd⟩)
   ·intro aC;have hv:¬v=ns.getD i 0:=ZC;refine Wl ?_;refine⟨Qr,ns.length-(i+1),Zx,i+1,rfl,Zx,?_,rfl⟩;rw[Jg ae];simp only[Je,Ja,not_or];exact⟨cd,fun h=>hv (by rw[bG];exact h)⟩
  ·intro hc;have bd:ns.length≤i:=ZA
   rw[Jc bd]at cd;refine Wh ?_;exact hK _ (.inl ⟨rfl,cd⟩)
theorem Qbh6 {c:C}{ns:List Int}{v:Int}(hs:Slc H 1 (Qb ns) c)(b8:c.ah=false)(hK:K (.c (.bool (ns.contains v))) H) :
  Qs prog T6 [.c c,.c (.int .i64 v)] H K:=by
 refine Qc Ab Qava ?_;refine Wb ?_;refine Gv hs b8 fun r hr=>?_;simp only[go_sem,Qq3];refine Zb ?_;rw[hr.nonneg];exact hK
theorem Qa8j {c:C}{ns:List Int}{f:Nat}{caps:List C}{p:Int→Bool}(hs:Slc H 1 (Qb ns) c)(b8:c.ah=false)
  (hf:∀(x:Int) (K':V→Heap→Prop),x∈ns→K' (.c (.bool (p x))) H→Qs prog f ([.c (.int .i64 x)]++caps.map .c) H K')
  (hK:∀r:Int,decide (0≤r)=ns.any p→K (.c (.int .i64 r)) H) :
  Qs prog TO [.c c,.c (.fn f caps)] H K:=by
 refine Qc Ab Qao0 ?_;have au:=eq_true hs.ok;have am:=hs.len;have bz:=hs.sz;have fg:=hs.rows;refine Wj ?_;simp only[go_sem,au,am,Qf];intro hl;simp only[LIM]at hl;refine Qh (Qd (Qw (fun m e1 H1=>∃(i:Nat),m=ns.length-i∧i≤ns.length∧H1=H∧(∀x∈ns.take i,p x=false)∧e1=[(0,.c c),(1,.c (.fn f caps)),(7,.c (.int .i64 ns.length)),(8,.c (.int .i64 i))]) ns.length ?_ ?_))
 ·exact⟨0,Zx,Zx,rfl,Zz,rfl⟩
 ·rintro m e1 H1 ⟨i,hm,hi,rfl,cd,rfl⟩;refine Za ?_;refine Wu ?_ ?_
  ·intro hc;have ae:i<ns.length:=ZA
   have bG:ns.getD i 0=ns[i]:=ZX
   refine Wd ?_;refine Wg ?_;simp only[go_sem,au,am,bz,fg,ae,Qf,Qn _ _ ae];refine hf _ _ (by rw[bG];exact Jd ae) ?_;refine Wv ?_ ?_
   ·intro aC;refine Za ?_;refine Zm ?_;refine hK _ ?_;have:ns.any p=true:=Jad.2 ⟨ns[i],Jd ae,by rw[←bG];exact aC⟩;rw[this];simp
   ·intro aC;refine Wl ?_;refine⟨Qr,ns.length-(i+1),Zx,i+1,rfl,Zx,?_,rfl⟩;rw[Jg ae];intro x hx;rcases Je.1 hx with hx|hx
    ·exact cd x hx
    ·simp only[Ja]at hx;subst hx;rw[←bG];exact aC
  ·intro hc;have bd:ns.length≤i:=ZA
   rw[Jc bd]at cd;refine Wh ?_;refine hK _ ?_;have:ns.any p=false:=by
    cases hc:ns.any p with
    |false=>rfl
    |true=>obtain⟨x,hx,hp⟩:=Jad.1 hc;rw[cd x hx]at hp;exact absurd hp Zz
   rw[this];rfl
theorem So {c:C}{ns:List Int}{f:Nat}{caps:List C}{p:Int→Bool}(hs:Slc H 1 (Qb ns) c)(b8:c.ah=false)
  (hf:∀(x:Int) (K':V→Heap→Prop),x∈ns→K' (.c (.bool (p x))) H→Qs prog f ([.c (.int .i64 x)]++caps.map .c) H K')
  (hK:K (.c (.bool (ns.any p))) H):Qs prog GZ [.c c,.c (.fn f caps)] H K:=by
 refine Qc Ab Q7d ?_;refine Wb ?_;refine Qa8j hs b8 hf fun r hr=>?_;simp only[go_sem,Qhs];refine Zb ?_;rw[hr];exact hK
end Go.AE.Y
namespace Go.AE.Y
attribute [local instance] Classical.propDecidable
inductive Rch (g:Nat→List Nat)(A:Nat→Prop):Nat→Nat→Prop
 |refl {x:Nat}:¬A x→Rch g A x x
 |step {x y z:Nat}:Rch g A x y→z∈g y→¬A z→Rch g A x z
variable {g:Nat→List Nat}{A B:Nat→Prop}{x y z:Nat}
theorem Rch.mono (h:Rch g A x y)(lu:∀z,B z→A z):Rch g B x y:=by
 induction h with
 |refl h=>exact .refl fun hb=>h (lu _ hb)
 |step h1 h2 h3 ih=>exact ih.step h2 fun hb=>h3 (lu _ hb)
theorem Rch.fst (h:Rch g A x y):¬A x:=by
 induction h with
 |refl h=>exact h
 |step _ _ _ ih=>exact ih
theorem Rch.snd (h:Rch g A x y):¬A y:=by
 cases h with
 |refl h=>exact h
 |step _ _ h=>exact h
theorem Rch.trans (h:Rch g A x y)(k:Rch g A y z):Rch g A x z:=by
 induction k with
 |refl _=>exact h
 |step _ h2 h3 ih=>exact ih.step h2 h3
theorem Rch.head (hx:¬A x)(hy:y∈g x)(h:Rch g A y z):Rch g A x z:=(Rch.step (.refl hx) hy h.fst).trans h
theorem Rch.lt {n:Nat}(hg:∀x,x<n→∀y∈g x,y<n)(h:Rch g A x y)(hx:x<n):y<n:=by
 induction h with
 |refl _=>exact hx
 |step _ h2 _ ih=>exact hg _ ih _ h2
variable {xs:List Nat}{S S' S1:List Bool}{o o' o1:List Nat}
theorem Dfs.adds (h:Dfs g xs S o S' o'):(∀x,x<S.length→∀y∈g x,y<S.length)→(∀x∈xs,x<S.length)→
  ∃t,o'=o++t∧(∀x,S'.getD x false=true↔S.getD x false=true∨x∈t)∧(∀x∈t,∀y∈g x,S'.getD y false=true)∧
   (∀x∈xs,S'.getD x false=true)∧(∀y∈t,∃x∈xs,Rch g (fun z=>S.getD z false=true) x y):=by
 induction h with
 |nil S o=>exact fun _ _=>⟨[],Zz,Zz,Zz,Zz,Zz⟩
 |@skip x xs S S' o o' h1 h2 ih=>
  intro hg hx;obtain⟨t,e,a1,a2,a3,a4⟩:=ih hg fun y hy=>hx y (Jh _ hy);refine⟨t,e,a1,a2,fun y hy=>?_,fun y hy=>?_⟩
  ·rcases Jx.1 hy with rfl|hy
   ·exact h2.mono _ h1
   ·exact a3 y hy
  ·obtain⟨z,hz,hr⟩:=a4 y hy;exact⟨z,Jh _ hz,hr⟩
 |@go x xs S S1 S' o o1 o' h1 h2 h3 ih1 ih2=>
  intro hg j7;have hx:=j7 x Jj;have hl:=h2.len;rw[Jl]at hl;obtain⟨t1,e1,a1,a2,a3,a4⟩:=ih1 Zab (by simpa using hg x hx);obtain⟨t2,e2,b1,b2,b3,b4⟩:=ih2 (by rw[hl];exact hg) (by rw[hl];exact fun y hy=>j7 y (Jh _ hy));have bY:∀y,(S.set x true).getD y false=true↔y=x∨S.getD y false=true:=by
   intro y;rw[C6];by_cases xV:y=x
   ·simp[xV,hx]
   ·simp[xV]
  have rJ:∀y,S.getD y false=true→S1.getD y false=true:=fun y hy=>(a1 y).2 (.inl ((bY y).2 (.inr hy)));have ue:S1.getD x false=true:=(a1 x).2 (.inl ((bY x).2 (.inl rfl)));refine⟨t1++[x]++t2,by rw[e2,e1];simp,fun y=>?_,fun y hy z hz=>?_,fun y hy=>?_,fun y hy=>?_⟩
  ·rw[b1,a1,bY];simp only[Je,Ja];constructor
   ·rintro (((h|h)|h)|h)
    ·exact .inr (.inl (.inr h))
    ·exact .inl h
    ·exact .inr (.inl (.inl h))
    ·exact .inr (.inr h)
   ·rintro (h|((h|h)|h))
    ·exact .inl (.inl (.inr h))
    ·exact .inl (.inr h)
    ·exact .inl (.inl (.inl h))
    ·exact .inr h
  ·rcases Je.1 hy with hy|hy
   ·rcases Je.1 hy with hy|hy
    ·exact (b1 z).2 (.inl (a2 y hy z hz))
    ·simp only[Ja]at hy;subst hy;exact (b1 z).2 (.inl (a3 z hz))
   ·exact b2 y hy z hz
  ·rcases Jx.1 hy with rfl|hy
   ·exact (b1 y).2 (.inl ue)
   ·exact b3 y hy
  ·rcases Je.1 hy with hy|hy
   ·rcases Je.1 hy with hy|hy
    ·obtain⟨z,hz,hr⟩:=a4 y hy;exact⟨x,Jj,.head (by rw[h1];simp) hz (hr.mono fun w hw=>(bY w).2 (.inr hw))⟩
    ·simp only[Ja]at hy;subst hy;exact⟨y,Jj,.refl (by rw[h1];simp)⟩
   ·obtain⟨z,hz,hr⟩:=b4 y hy;exact⟨z,Jh _ hz,hr.mono rJ⟩
theorem Dfs.seen (h:Dfs g xs S o S' o')(hg:∀x,x<S.length→∀y∈g x,y<S.length)(j7:∀x∈xs,x<S.length)(y:Nat) :
  S'.getD y false=true↔S.getD y false=true∨∃x∈xs,Rch g (fun z=>S.getD z false=true) x y:=by
 obtain⟨t,e,a1,a2,a3,a4⟩:=h.adds hg j7;constructor
 ·intro hy;rcases (a1 y).1 hy with hy|hy
  ·exact .inl hy
  ·exact .inr (a4 y hy)
 ·rintro (hy|⟨x,hx,hr⟩)
  ·exact h.mono y hy
  ·induction hr with
   |refl _=>exact a3 _ hx
   |step h1 h2 h3 ih=>
    rcases (a1 _).1 ih with h|h
    ·exact absurd h h1.snd
    ·exact a2 _ h _ h2
theorem Dfs.list (h:Dfs g xs S [] S' o')(hg:∀x,x<S.length→∀y∈g x,y<S.length)(j7:∀x∈xs,x<S.length)(hS:∀x,S.getD x false=false)(y:Nat) :
  y∈o'↔S'.getD y false=true:=by
 obtain⟨t,e,a1,_⟩:=h.adds hg j7;rw[a1,hS];simp[e]
theorem CJ:∀{l k:List Nat},l.Pairwise (· < ·)→k.Pairwise (· < ·)→(∀x,x∈l↔x∈k)→l=k
 |[],[],_,_,_=>rfl
 |[],b::k,_,_,h=>by have:=(h b).2 Jj;simp at this
 |a::l,[],_,_,h=>by have:=(h a).1 Jj;simp at this
 |a::l,b::k,h1,h2,h=>by
  rw[Ja4]at h1 h2;have dw:a=b:=by
   rcases Jx.1 ((h a).1 Jj)with e|e
   ·exact e
   ·rcases Jx.1 ((h b).2 Jj)with e'|e'
    ·exact e'.symm
    ·have:=h1.1 b e';have:=h2.1 a e;omega
  subst dw;congr 1;refine CJ h1.2 h2.2 fun x=>⟨fun hx=>?_,fun hx=>?_⟩
  ·rcases Jx.1 ((h x).1 (Jh _ hx))with e|e
   ·subst e;have:=h1.1 x hx;omega
   ·exact e
  ·rcases Jx.1 ((h x).2 (Jh _ hx))with e|e
   ·subst e;have:=h2.1 x hx;omega
   ·exact e
theorem Qbmm {l:List Nat}{n:Nat}{p:Nat→Bool}(h1:l.Pairwise (· < ·))(h:∀x,x∈l↔x<n∧p x=true):l=(List.range n).filter p:=
 CJ h1 (Jaz _ Jav) fun x=>by rw[h];simp[Jbh]
noncomputable def A6 (g:Nat→List Nat)(a:Int)(x:Nat):Bool:=decide (Rch g (fun z=>(z:Int)=a) 0 x)
noncomputable def domB (g:Nat→List Nat)(a b:Nat):Bool:=A6 g (-1) a&&A6 g (-1) b&&!A6 g a b
end Go.AE.Y
namespace Go.AE.Y
open Go.Proofs.Tryz
variable {H:Heap}{K:V→Heap→Prop}
theorem YP {rows:List (List C)}(h:∀r∈rows,ak r=true){i:Nat}(hi:i<rows.length){a1 a2 a3 a4 a5:C}(hr:rows.getD i []=[a1,a2,a3,a4,a5]) :
  a1.ah=false∧a2.ah=false∧a3.ah=false∧a4.ah=false∧a5.ah=false:=by
 have:=h _ (Jd hi);have e:rows[i]=[a1,a2,a3,a4,a5]:=by rw[←hr];simp[Jb,hi]
 rw[e]at this;simpa[Go.AE.ak]using this
def G4 (nx:Nat→List Int)(b:Int)(n:Nat):List Int:=if decide (0≤b)&&decide (b≤(n:Int)-1)then Am nx b n else []
set_option maxHeartbeats 1000000 in
theorem Qbh8 {p rg:Int}{bc:C}{rows:List (List C)}{nx:Nat→List Int}{b:Int}(hs:Slc H 5 rows bc)(b8:bc.ah=false)(cd:∀r∈rows,ak r=true)
  (hx:∀i,i<rows.length→∃a1 a2 a3 a4 a5,rows.getD i []=[a1,a2,a3,a4,a5]∧Slc H 1 (Qb (nx i)) a5)
  (hK:∀fl H',Upd H H' []→K (.c (.sl fl 1 (Qb (G4 nx b rows.length)))) H'):Qs prog HP [.ag [.int .i64 p,.int .i64 rg,bc],.c (.int .i64 b)] H K:=by
 refine Qx ?_;refine Qc Ab Qaz5 ?_;have au:=eq_true hs.ok;have am:=hs.len;have bz:=hs.sz;refine Wq ?_;simp only[go_sem,b8,au,am];intro hl;simp only[LIM]at hl;refine⟨Qr,?_⟩;refine C2 ?_;simp only[go_sem,Qts];refine Wu ?_ ?_
 ·intro hc;have cz:=B4 hc;refine Wm ?_;have h:=hK false _ (Kn.aq H).fin;simp only[G4,cz]at h;exact⟨_,.c _ _ FrzR.nil.sl,h⟩
 ·intro hc;have cz:=AD hc;refine Ze ?_;refine Q1 (Qa ?_);simp only[go_sem,b8,au,am];intro _;refine Qh (Qd (Qw (fun m e1 H1=>∃(i:Nat) (c:C) (Lg:List (Nat×Obj)),m=rows.length-i∧i≤rows.length∧Gr Lg 1 (Qb (Am nx b i)) c∧Kn H H1 [] ([]++Lg)∧
   e1=[(1,.c (.int .i64 b)),(5,.c c),(16,.c bc),(17,.c (.int .i64 rows.length)),(18,.c (.int .i64 i))]) rows.length ?_ ?_))
  ·exact⟨0,_,[],Zx,Zx,.nil 1,Kn.aq H,rfl⟩
  ·rintro m e1 H1 ⟨i,c,Lg,hm,hi,ao,kn,rfl⟩;have db:=hs.keep0 kn;have fp:=eq_true db.ok;have jl:=db.rows;refine Za ?_;refine Wu ?_ ?_
   ·intro hc;have ae:i<rows.length:=ZA;obtain⟨a1,a2,a3,a4,a5,aK,mX⟩:=hx i ae;obtain⟨o1,o2,o3,o4,o5⟩:=YP cd ae aK;refine Ze ?_;refine A4 (fun e2 H2=>∃(c:C) (Lg:List (Nat×Obj)),Gr Lg 1 (Qb (Am nx b (i+1))) c∧Kn H H2 [] ([]++Lg)∧
     lk 1 e2=.c (.int .i64 b)∧lk 5 e2=.c c∧lk 16 e2=.c bc∧lk 17 e2=.c (.int .i64 rows.length)∧lk 18 e2=.c (.int .i64 i)) ?_ ?_
    ·intro Q bD _ _;refine Qd (Qa ?_);simp only[go_sem,fp,am,bz,jl,ae,aK,o1,o2,o3,o4,o5];intro x hx H2 h2;have kn:=(kn.al hx h2).perm Jab;have aI:=kn.l 0 rfl;simp only[go_sem,Qtt,aI];intro H3 h3;have kn:=kn.aB 0 rfl h3;have aP:=kn.l 0 rfl;refine Zl aP o5 ?_;refine Qbh6 (mX.keep0 kn) o5 ?_;refine Wv ?_ ?_
     ·intro fX;have dH:=El nx b i;refine Zh ?_;refine kn.grow (B:=[_]) (new:=Qb [(i:Int)]) ao (.mk' _ _ _ _) (Qq _) (by simp only[Qf,LIM,Jk,Jo];omega) fun y' H4 kn=>?_;simp only[go_sem,Qtu];refine bD _ _ ⟨_,_,?_,(kn.perm Jab).drop,rfl,rfl,rfl,rfl,rfl⟩;rw[RP,fX,if_pos rfl,Cb];exact .mk _ _ _ Zz
     ·intro fX;refine Ze ?_;refine bD _ _ ⟨c,Lg,?_,?_,rfl,rfl,rfl,rfl,rfl⟩
      ·rw[RP,fX];simpa using ao
      ·have kn:Kn H H3 [] ([(x,.st [a1,a2,a3,a4,a5])]++([]++Lg)):=kn;exact (kn.perm Jab).drop
    ·rintro e2 H2 ⟨c2,Lg2,ao,kn,l1,l5,l16,l17,l18⟩;refine Qp ?_;simp only[go_sem,X.next,l1,l5,l16,l17,l18];exact⟨Qr,rows.length-(i+1),Zx,i+1,c2,Lg2,rfl,Zx,ao,kn,rfl⟩
   ·intro hc;have bd:i=rows.length:=(by have:¬i<rows.length:=(by simpa using hc);omega);subst bd;refine Wh ?_;refine⟨_,.c _ _ (ao.frz kn (Qq _)),?_⟩;have:=hK false _ kn.fin;simp only[G4,cz]at this;exact this
theorem KR {p rg:Int}{bc:C}{rows:List (List C)}{nx:Nat→List Int}{b:Int}(hg:GRd H bc rows nx)
  (hK:∀fl H',Upd H H' []→K (.c (.sl fl 1 (Qb (G4 nx b rows.length)))) H'):Qs prog HP [.ag [.int .i64 p,.int .i64 rg,bc],.c (.int .i64 b)] H K:=
 Qbh8 hg.s hg.ow hg.no (fun i hi=>by
  obtain⟨a1,a2,a3,a4,fl,h⟩:=hg.x i hi;exact⟨a1,a2,a3,a4,_,h,.mk' _ _ _ _⟩) hK
end Go.AE.Y
namespace Go.AE.Y
attribute [local instance] Classical.propDecidable
variable {g:Nat→List Nat}{a:Int}{n:Nat}{S:List Bool}{T:List Nat}{b:Nat}
theorem Di (n x:Nat):(List.replicate n false).getD x false=false:=by
 simp only[Jb,Jap];split <;> rfl
end Go.AE.Y
namespace Go.AE.Y
open Go.Proofs.Tryz
variable {H H0:Heap}{K:V→Heap→Prop}
theorem EY (n:Nat):List.replicate n [C.bool false]=Qt (List.replicate n false):=by simp[Qt]
theorem AU (l:List Nat)(i:Nat)(h:i<l.length):(Q5 l).getD i []=[.int .i64 ((l.getD i 0:Nat):Int)]:=by
 simp[Q5,Qb,Jb,h]
theorem Hx (a b:List Nat):Q5 (a++b)=Q5 a++Q5 b:=by simp[Q5,Qb]
end Go.AE.Y
namespace Go.AE
variable {H0 F H:Heap}{E E0 E' L L1 L2 M:List (Nat×Obj)}
theorem Kn.startE (h:∀p∈E,H p.1=p.2∧p.2≠.none)(hd:(E.map Prod.fst).Nodup):Kn H H E []:=
 ⟨ZI,fun p hp=>by rw[(h p hp).1];exact (h p hp).2,Zz,hd,Zz,fun _ _ _=>rfl⟩
theorem Kn.mid (k:Kn H0 F E0 (L1++L2)):Kn F F L1 []:=
 .startE (fun p hp=>k.get p (Jv _ (Jr _ hp))) (by
  have:=k.dL;rw[Jt]at this;exact (J1.1 this).1)
theorem Kn.comp (k1:Kn H0 F E0 (L1++L2))(k2:Kn F H E' M)(hE:E'.map Prod.fst=L1.map Prod.fst):Kn H0 H E0 ((E'++L2)++M):=by
 have hd:=k1.dL;rw[Jt]at hd;obtain⟨d1,d2,d3⟩:=J1.1 hd;have zA:∀p∈E0,F p.1=p.2∧p.2≠.none:=fun p hp=>k1.get p (Jr _ hp);have sP:∀p∈L2,F p.1=p.2∧p.2≠.none:=fun p hp=>k1.get p (Jv _ (Jv _ hp));have inL1:∀p∈E',∃q∈L1,q.1=p.1:=fun p hp=>by
  have:=A1 hp;rw[hE]at this;obtain⟨q,h1,h2⟩:=Jn.1 this;exact⟨q,h1,h2⟩
 have keep:∀m,F m≠.none→m∉L1.map Prod.fst→H m=F m:=fun m h1 h2=>k2.chg m h1 (by rw[hE];exact h2);have xN:∀p∈E0,∀q∈L1,p.1≠q.1:=fun p hp q hq hh=>k1.ext p hp (hh▸k1.loc q (Jr _ hq));refine⟨fun p hp=>?_,k1.ext,fun p hp=>?_,k1.dE,?_,fun m hm hn=>?_⟩
 ·rcases Je.1 hp with hp|hp
  ·obtain⟨h1,h2⟩:=zA p hp;refine⟨?_,h2⟩;rw[keep p.1 (by rw[h1];exact h2) (fun hh=>?_),h1];obtain⟨q,hq,hqq⟩:=Jn.1 hh;exact xN p hp q hq hqq.symm
  ·rcases Je.1 hp with hp|hp
   ·rcases Je.1 hp with hp|hp
    ·exact k2.get p (Jr _ hp)
    ·obtain⟨h1,h2⟩:=sP p hp;refine⟨?_,h2⟩;rw[keep p.1 (by rw[h1];exact h2) (fun hh=>?_),h1];exact d3 _ hh _ (A1 hp) rfl
   ·exact k2.get p (Jv _ hp)
 ·rcases Je.1 hp with hp|hp
  ·rcases Je.1 hp with hp|hp
   ·obtain⟨q,hq,hh⟩:=inL1 p hp;rw[←hh];exact k1.loc q (Jr _ hq)
   ·exact k1.loc p (Jv _ hp)
  ·have h1:=k2.loc p hp
   cases h0:H0 p.1 with
   |none=>rfl
   |_=>
    by_cases hx:p.1∈E0.map Prod.fst
    ·obtain⟨q,hq,hh⟩:=Jn.1 hx;obtain⟨a1,a2⟩:=zA q hq;rw[hh,h1]at a1;exact absurd a1.symm a2
    ·have:=k1.chg p.1 (by rw[h0];simp) hx;rw[h1,h0]at this;simp at this
 ·rw[Jt,Jt];refine J1.2 ⟨J1.2 ⟨k2.dE,d2,fun a ha b hb=>?_⟩,k2.dL,fun a ha b hb dw=>?_⟩
  ·rw[hE]at ha;exact d3 a ha b hb
  ·obtain⟨q,hq,rfl⟩:=Jn.1 hb;have hf:=k2.loc q hq;rcases Je.1 ha with ha|ha
   ·obtain⟨r,hr,rfl⟩:=Jn.1 ha;exact k2.ext r hr (dw▸hf)
   ·obtain⟨r,hr,rfl⟩:=Jn.1 ha;obtain⟨a1,a2⟩:=sP r hr;rw[dw,hf]at a1;exact a2 a1.symm
 ·rw[keep m (by rw[k1.chg m hm hn];exact hm) (fun hh=>?_),k1.chg m hm hn];obtain⟨q,hq,rfl⟩:=Jn.1 hh;exact hm (k1.loc q (Jr _ hq))
theorem Kn.upd (k:Kn H0 H E L):Upd H0 H E:=⟨fun p hp=>(k.get p (Jr _ hp)).1,fun m hm hn=>k.chg m hm hn⟩
theorem Y.FrzL.ptr {S:Nat→Bool}{l:Nat}{cells cells':List C}(hS:S l=true)(hH:H l=.st cells)(h:FrzL H S cells cells'):FrzC H S (.ptr l 0) (.pp cells'):=by
 obtain⟨h1,h2⟩:=h.spec;exact .ptr l 0 cells cells cells' hS hH rfl h1 h2
theorem Kn.bg {B Lg:List (Nat×Obj)}{K:V→Heap→Prop}{sz:Nat}{rows new:List (List C)}{b c:C}(kn:Kn H0 H E (B++Lg))(hc:Gr Lg sz rows c)(hb:Slc H sz new b)
  (h1:∀r∈new,ak r=true) (h2:rows.length+new.length≤LIM)
  (h:∀t Lg' H',Gr Lg' sz (rows++new) t→t.ah=false→Kn H0 H' E (B++Lg')→K (.c t) H'):appQ H sz c b K:=
 kn.grow hc hb h1 h2 fun y' H' k=>h _ _ H' (.mk y' sz _ Zz) rfl k
end Go.AE
namespace Go.AE.Y
variable {ns:List Int}{n:Int}{at':Nat}
structure InsAt (ns:List Int)(n:Int)(k:Nat):Prop where
 le:k≤ns.length
 lo:∀i,i<k→∀(h:i<ns.length),ns[i]<n
 hi:∀(h:k<ns.length),n≤ns[k]
theorem InsAt.mem_of_asc {k:Nat}(h:InsAt ns n k)(ha:ns.Pairwise (· < ·)):(∀x∈ns.take k,x<n)∧(∀x∈ns.drop k,n≤x)∧(∀x∈ns.drop (k+1),n<x):=by
 have hp:=List.pairwise_iff_getElem.1 ha;refine⟨fun x hx=>?_,fun x hx=>?_,fun x hx=>?_⟩
 ·obtain⟨i,hi,rfl⟩:=Jaf.1 hx;rw[List.getElem_take];rw[J3]at hi;exact h.lo i Zx Zx
 ·obtain⟨i,hi,rfl⟩:=Jaf.1 hx;rw[Jbb];rw[Jas]at hi;have h1:=h.hi Zx;by_cases h0:i=0
  ·subst h0;exact h1
  ·have:=hp k (k+i) Zx Zx Zx;exact Int.le_trans h1 (Int.le_of_lt this)
 ·obtain⟨i,hi,rfl⟩:=Jaf.1 hx;rw[Jbb];rw[Jas]at hi;have h1:=h.hi Zx;have:=hp k (k+1+i) Zx Zx Zx;exact Int.lt_of_le_of_lt h1 this
theorem InsAt.new {k:Nat}(h:InsAt ns n k)(ha:ns.Pairwise (· < ·))(hn:∀(h:k<ns.length),ns[k]≠n) :
  (ns.take k++[n]++ns.drop k).Pairwise (· < ·)∧(∀x,x∈ns.take k++[n]++ns.drop k↔x=n∨x∈ns):=by
 obtain⟨h1,h2,h3⟩:=h.mem_of_asc ha;have h4:∀x∈ns.drop k,n<x:=by
  intro x hx;have hk:k<ns.length:=by
   rcases Jbn k ns.length with h|h
   ·exact h
   ·rw[List.drop_eq_nil_of_le h]at hx;simp at hx
  rw[Jy hk]at hx;rcases Jx.1 hx with rfl|hx
  ·have:=h.hi hk;have:=hn hk;omega
  ·exact h3 x hx
 refine⟨?_,fun x=>?_⟩
 ·rw[Ja9,List.pairwise_append];refine⟨ha.sublist (List.take_sublist _ _),?_,fun a zh b hb=>?_⟩
  ·rw[Jay,Ja4];exact⟨h4,ha.sublist (List.drop_sublist _ _)⟩
  ·have:=h1 a zh;rcases Je.1 hb with hb|hb
   ·simp at hb;subst hb;exact this
   ·have:=h2 b hb;omega
 ·conv=>rhs;rw[←Jac k ns]
  simp only[Je,Ja];constructor
  ·rintro ((h|h)|h)
   ·exact .inr (.inl h)
   ·exact .inl h
   ·exact .inr (.inr h)
  ·rintro (h|h|h)
   ·exact .inl (.inr h)
   ·exact .inl (.inl h)
   ·exact .inr h
end Go.AE.Y
namespace Go.AE.Y
open Go.Proofs.Tryz
variable {H H0:Heap}{K:V→Heap→Prop}
theorem CN {c:C}{ns:List Int}{v:Int}(hs:Slc H 1 (Qb ns) c)(b8:c.ah=false)(hK:∀r,IsIx ns v r→K (.c (.int .i64 r)) H) :
  Qs prog En [.c c,.c (.int .i64 v)] H K:=by
 refine Qc Ab VM ?_;have au:=eq_true hs.ok;have am:=hs.len;have bz:=hs.sz;have fg:=hs.rows;refine Wf ?_;refine Qh (Qd (Qw (fun m e1 H1=>∃(i:Nat),m=ns.length-i∧i≤ns.length∧H1=H∧v∉ns.take i∧e1=[(0,.c c),(1,.c (.int .i64 v)),(5,.c (.int .i64 i))]) ns.length ?_ ?_))
 ·exact⟨0,Zx,Zx,rfl,Zz,rfl⟩
 ·rintro m e1 H1 ⟨i,hm,hi,rfl,cd,rfl⟩;refine Q1 (Qa ?_);simp only[go_sem,au,am,Qf];intro hl;simp only[LIM]at hl;refine Wu ?_ ?_
  ·intro hc;have ae:i<ns.length:=ZA
   have bG:ns.getD i 0=ns[i]:=ZX
   refine Wo ?_;simp only[go_sem,au,am,bz,fg,ae,Qf,Qn _ _ ae];refine Wv ?_ ?_
   ·intro aC;have hv:ns.getD i 0=v:=ZC;refine Za ?_;refine Zm ?_;exact hK _ (.inr ⟨i,rfl,ae,hv,cd⟩)
   ·intro aC;have hv:¬ns.getD i 0=v:=ZC;refine Wl ?_;refine⟨Qr,ns.length-(i+1),Zx,i+1,rfl,Zx,?_,rfl⟩;rw[Jg ae];simp only[Je,Ja,not_or];exact⟨cd,fun h=>hv (by rw[bG];exact h.symm)⟩
  ·intro hc;have bd:ns.length≤i:=ZA
   rw[Jc bd]at cd;refine Wh ?_;exact hK _ (.inl ⟨rfl,cd⟩)
set_option maxHeartbeats 1000000 in
theorem Rw {fl:Bool}{ns:List Int}{n:Int}(ha:ns.Pairwise (· < ·))(hL:ns.length+1≤2 ^ 38)
  (hK:∀(fl':Bool) (ns':List Int) (H':Heap),Upd H H' []→ns'.Pairwise (· < ·)→(∀x,x∈ns'↔x=n∨x∈ns)→ns'.length≤ns.length+1→K (.c (.sl fl' 1 (Qb ns'))) H') :
  Qs prog GN [.c (.sl fl 1 (Qb ns)),.c (.int .i64 n)] H K:=by
 refine Qx ?_;refine Qc Ab Qbji ?_;have rest:∀i:Nat,InsAt ns n i→Ac prog Ok (Q6 Ht (unK H K)) [(0,V.c (.sl fl 1 (Qb ns))),(1,.c (.int .i64 n)),(5,.c (.int .i64 i))] H:=by
  intro i b7;have hile:=b7.le;refine Q1 (Qa ?_);have tail:∀e:Env,(∀(h:i<ns.length),ns[i]≠n)→lk 0 e=.c (.sl fl 1 (Qb ns))→lk 1 e=.c (.int .i64 n)→lk 5 e=.c (.int .i64 i)→Ac prog NA (Q6 Ht (unK H K)) e H:=by
   intro e bx l0 l1 l5;obtain⟨q1,q2⟩:=b7.new ha bx;have tj:List.take i (Qb ns)=Qb (ns.take i):=by simp[Qb,Jbk]
   have ca:List.drop i (List.take ns.length (Qb ns))=Qb (ns.drop i):=by
    rw[Jc (by rw[Qf];exact Jp _)];simp[Qb,List.map_drop]
   refine Qa ?_;simp only[go_sem,l0,l5,Qf,tj];refine⟨Zx,?_⟩;refine⟨.inl trivial,Qq _,by simp only[LIM,J3];omega,fun z hz H1 h1=>?_⟩;have kn:Kn H H1 [] ([]++[(z,.vec 1 (Qb (ns.take i)))]):=(Kn.aq H).al hz h1;simp only[go_sem,Q5v,l0,l1,l5];generalize ht6:C.af z 1 0 (0+(List.take i ns).length)=t6;have ao:Gr [(z,.vec 1 (Qb (ns.take i)))] 1 (Qb (ns.take i)) t6:=by rw[←ht6];exact .mk z 1 _ (by simp[Qf])
   have hw6:=ao.ah;refine Aj ?_;simp only[go_sem,Qf,ca];refine⟨Zx,?_⟩;refine kn.bg (new:=Qb [n]) ao (.mk' _ _ _ _) (Qq _) (by simp only[Qf,LIM,J3,Jo,Jk];omega) fun t7 Lg H2 ao hw7 kn=>?_;simp only[go_sem,Q5x,Qf,ca];refine⟨Zx,?_⟩;refine kn.bg (new:=Qb (ns.drop i)) ao (.mk' _ _ _ _) (Qq _) (by simp only[Qf,LIM,J3,Jas,Jo,Jk,J5];omega) fun t8 Lg H3 ao yh kn=>?_;simp only[go_sem,Q5w];refine Zb ?_;have e0:Qb (ns.take i)++Qb [n]++Qb (ns.drop i)=Qb (ns.take i++[n]++ns.drop i):=Zae
   rw[e0]at ao;refine⟨_,.c _ _ (ao.frz kn (Qq _)),hK _ _ _ kn.fin q1 q2 ?_⟩;simp;omega
  simp only[go_sem,Qf];by_cases ae:i<ns.length
  ·have bG:ns.getD i 0=ns[i]:=ZX
   simp only[go_sem,ae,Qn _ _ ae];intro _;refine Wu ?_ ?_
   ·intro aC;have he:ns[i]=n:=(by rw[←bG];simpa[ae]using aC);refine Wm ?_;refine⟨_,.c _ _ (Da (noOw_mem (Qq _))),hK _ ns _ (Kn.aq H).fin ha (fun x=>⟨.inr,?_⟩) Zx⟩;rintro (rfl|h)
    ·rw[←he];exact Jd ae
    ·exact h
   ·intro aC;have he:ns[i]≠n:=(by rw[←bG];simpa[ae]using aC);refine Ze ?_;exact tail _ (fun _=>he) rfl rfl rfl
  ·have wL:decide ((i:Int)<(ns.length:Int))=false:=ZD
   have df:(Qb ns).getD i []=[]:=by rw[Jb,Jq ZO];rfl
   simp only[go_sem,wL,df,cond_false];intro _;refine Wu ?_ ?_
   ·intro aC;simp at aC
   ·intro _;refine Ze ?_;exact tail _ (fun h=>absurd h ae) rfl rfl rfl
 refine Wb ?_;refine Qh (Qd (Qw (fun m e1 H1=>∃(i:Nat),m=ns.length-i∧i≤ns.length∧H1=H∧(∀k,k<i→∀(h:k<ns.length),ns[k]<n)∧e1=[(0,.c (.sl fl 1 (Qb ns))),(1,.c (.int .i64 n)),(5,.c (.int .i64 i))]) ns.length ?_ ?_))
 ·exact⟨0,Zx,Zx,rfl,fun k hk=>Zx,rfl⟩
 ·rintro m e1 H1 ⟨i,hm,hi,rfl,oY,rfl⟩;refine Q1 (Qa ?_);by_cases ae:i<ns.length
  ·have bG:ns.getD i 0=ns[i]:=ZX
   simp only[go_sem,ae,Qf,Qn _ _ ae];intro _;refine Wu ?_ ?_
   ·intro hc;have hv:ns[i]<n:=(by rw[←bG];simpa[ae]using hc);refine Ze ?_;refine Qd (Qp ?_);simp only[go_sem,X.next];refine⟨Qr,ns.length-(i+1),Zx,i+1,rfl,Zx,fun k hk h=>?_,rfl⟩;by_cases h':k<i
    ·exact oY k h' h
    ·have:k=i:=Zx;subst this;exact hv
   ·intro hc;have hv:¬ns[i]<n:=(by rw[←bG];simpa[ae]using hc);refine Zc ?_;exact rest i ⟨hi,oY,fun _=>Zx⟩
  ·have wL:decide ((i:Int)<(ns.length:Int))=false:=ZD
   have df:(Qb ns).getD i []=[]:=by rw[Jb,Jq ZO];rfl
   simp only[go_sem,wL,df,Qf,cond_false];intro _;refine Wu ?_ ?_
   ·intro aC;simp at aC
   ·intro _;refine Zc ?_;exact rest i ⟨hi,oY,fun h=>absurd h ae⟩
end Go.AE.Y
namespace Go.AE.Y
attribute [local instance] Classical.propDecidable
variable {g:Nat→List Nat}{n h:Nat}
theorem rchB_iff {a:Int}{x:Nat}:A6 g a x=true↔Rch g (fun z=>(z:Int)=a) 0 x:=by simp[A6]
theorem Rg (b:Nat):A6 g (b:Int) b=false:=by
 cases hc:A6 g (b:Int) b with
 |false=>rfl
 |true=>exact absurd rfl (rchB_iff.1 hc).snd
theorem Qbm0 (b:Nat):domB g b b=A6 g (-1) b:=by simp[domB,Rg]
theorem X0 {a b:Nat}(h:domB g a b=true):A6 g (-1) a=true∧A6 g (-1) b=true:=by
 simp only[domB,Ji]at h;exact⟨h.1.1,h.1.2⟩
end Go.AE.Y
namespace Go.AE.Y
open Go.Proofs.Tryz
variable {H H0:Heap}{K:V→Heap→Prop}
structure GF (rows:List (List C))(nx:Nat→List Int):Prop where
 no:∀r∈rows,ak r=true
 x:∀i,i<rows.length→∃a1 a2 a3 a4 fl,rows.getD i []=[a1,a2,a3,a4,.sl fl 1 (Qb (nx i))]
 n:rows.length≤10000
 m:∀i,i<rows.length→(nx i).length≤1000
theorem GF.grd {rows:List (List C)}{nx:Nat→List Int}(h:GF rows nx)(H:Heap)(fl:Bool):GRd H (.sl fl 5 rows) rows nx:=⟨.mk' _ _ _ _,rfl,h.no,h.x⟩
theorem Gy {q:CodeD}(h:q.gd):GF (Qo q.blocks) (gnx q):=by
 refine⟨(Do (fun _=>.none) q false).no,(Do (fun _=>.none) q false).x,by rw[Qm];have:=h.b1;omega,fun i hi=>?_⟩;rw[Qm]at hi;have:gnx q i=q.blocks[i].next:=by simp[gnx,Jb,hi]
 rw[this];have:=h.n _ (Jd hi);omega
noncomputable def inL (n:Nat)(g:Nat→List Nat):List Bool:=(List.range n).map (A6 g (-1))
noncomputable def BM (n:Nat)(g:Nat→List Nat)(a:Nat):List Bool:=(List.range n).map (domB g a)
noncomputable def ovOf (n:Nat)(g:Nat→List Nat)(k:Nat):List (List C):=(List.range k).map fun a=>[.sl false 1 (Qt (BM n g a))]
theorem Sl (n:Nat)(f:Nat→Bool){i:Nat}(h:i<n):((List.range n).map f).getD i false=f i:=by simp[Jb,h]
theorem DJ {n:Nat}{g:Nat→List Nat}:(inL n g).length=n:=by simp[inL]
theorem Ew {n:Nat}{g:Nat→List Nat}{a:Nat}:(BM n g a).length=n:=by simp[BM]
theorem G7 {n:Nat}{g:Nat→List Nat}{k:Nat}:(ovOf n g k).length=k:=by simp[ovOf]
theorem Kd {n:Nat}{g:Nat→List Nat}{i:Nat}(h:i<n):(inL n g).getD i false=A6 g (-1) i:=Sl _ _ h
theorem N3 {n:Nat}{g:Nat→List Nat}{a i:Nat}(h:i<n):(BM n g a).getD i false=domB g a i:=Sl _ _ h
theorem FL {n:Nat}{g:Nat→List Nat}{k a:Nat}(h:a<k):(ovOf n g k).getD a []=[.sl false 1 (Qt (BM n g a))]:=by simp[ovOf,Jb,h]
noncomputable def ysL (n:Nat)(g:Nat→List Nat)(ys:List Nat):List (Nat×Obj):=ys.zipIdx.map fun x=>(x.1,.vec 1 (Qt (BM n g x.2)))
def ysR (n:Nat)(ys:List Nat):List (List C):=ys.map fun y=>[.af y 1 0 n]
theorem Y2 (n:Nat)(g:Nat→List Nat)(ys:List Nat)(y:Nat):ysL n g (ys++[y])=ysL n g ys++[(y,.vec 1 (Qt (BM n g ys.length)))]:=by
 simp[ysL,List.zipIdx_append]
theorem Y1 (n:Nat)(ys:List Nat)(y:Nat):ysR n (ys++[y])=ysR n ys++[[.af y 1 0 n]]:=by simp[ysR]
theorem Qb00 (n:Nat)(ys:List Nat):(ysR n ys).length=ys.length:=by simp[ysR]
theorem Qb2y {S:Nat→Bool}{n:Nat}{g:Nat→List Nat}(ys:List Nat):∀(k:Nat),(∀p∈(ys.zipIdx k).map fun x=>(x.1,Obj.vec 1 (Qt (BM n g x.2))),H p.1=p.2∧S p.1=true)→
  FrzR H S (ysR n ys) ((List.range' k ys.length).map fun a=>[.sl false 1 (Qt (BM n g a))]):=by
 induction ys with
 |nil=>intro k _;exact .nil
 |cons y ys ih=>
  intro k h;rw[List.zipIdx_cons,Ju]at h;obtain⟨h1,h2⟩:=h _ Jj;simp only[Jk,List.range'_succ,Ju,ysR];refine .cons (.cons ((FrzR.same (RX _)).af h2 h1 (by rw[Qy,Ew])) .nil) (ih (k+1) fun p hp=>h p (Jh _ hp))
theorem Qb01 {S:Nat→Bool}{n:Nat}{g:Nat→List Nat}(ys:List Nat)(h:∀p∈ysL n g ys,H p.1=p.2∧S p.1=true):FrzR H S (ysR n ys) (ovOf n g ys.length):=by
 have:=Qb2y (H:=H) (S:=S) (n:=n) (g:=g) ys 0 h;rw[←List.range_eq_range']at this;exact this
theorem Qa0n (n:Nat)(f:Nat→Bool){i:Nat}(h:i<n):((List.range i).map f++List.replicate (n-i) false).set i (f i)=(List.range (i+1)).map f++List.replicate (n-(i+1)) false:=by
 refine Jba fun j=>?_;have e:n-i=(n-(i+1))+1:=Zx
 rw[e,List.replicate_succ,Jal,Jt];rw[List.set_append];simp only[Jaj,Jbc,Nat.lt_irrefl,if_false,Nat.sub_self,List.set_cons_zero,Ju,Jam,Ja9,Jay]
end Go.AE.Y
namespace Go.AE.Y
variable {P:Program}{H:Heap}{g:G}{w:World}
theorem Yd (hs:Sat H g w)(os:Array Go.Obj):∃g',Stp H g w H g' (Go.Sort.grow w os):=by
 obtain⟨l⟩:=os
 induction l generalizing g w with
 |nil=>exact⟨g,by rw[Go.Sort.grow_empty];exact .refl hs⟩
 |cons x l ih=>
  have h1:=Q9r hs x;obtain⟨g',h2⟩:=ih h1.sat;refine⟨g',?_⟩;have e:Go.Sort.grow w ⟨x::l⟩=Go.Sort.grow (w.alloc x) ⟨l⟩:=by
   rw[Go.Sort.alloc_eq_grow,Go.Sort.grow_grow];congr 1;simp
  rw[e];exact h1.trans h2
theorem Qbpx {b off:Nat}{cs:Array Value}{T:TypeId}{d:Array Int}(h:w.heap[b]? = some (.cells cs T (0,0))) :
  Go.Sort.putRow (Value.int .i64) w b off d=World.az w b (Go.Sort.putCells (Value.int .i64) off d cs) T:=by
 simp only[Go.Sort.putRow,Go.Sort.mapBlock,World.az];congr 1;apply Array.ext_getElem?;intro i;simp only[Array.getElem?_modify];by_cases hi:b=i
 ·subst hi;have ae:b<w.heap.size:=Ee h;rw[if_pos rfl,h];simp[ae,Go.Sort.onCells]
 ·rw[if_neg hi,Array.getElem?_setIfInBounds_ne hi]
theorem Qbib {f:Nat}(hf:fnOk P f=true)
  (hc:∀(blk off cap:Nat) (zs:List Int) (w:World),Go.Sort.Holds (Value.int .i64) w blk off zs.toArray→blk<w.heap.size→zs.length<4611686018427387904→
   Calls P f #[.slice (some ⟨blk,off,none⟩) zs.length cap] w fun e w'=>
    e=.returned (.tuple #[])∧∃n os,w'=Go.Sort.grow (Go.Sort.putRow (Value.int .i64) (Go.Sort.ahead w n) blk off (zs.mergeSort fun x y=>decide (x≤y)).toArray) os)
  {z n:Nat} {ns:List Int} {K:V→Heap→Prop} (hz:H z=.vec 1 (Qb ns)) (hn:n=ns.length) (h0:0<n)
  (hK:∀H',Upd H H' [(z,.vec 1 (Qb (ns.mergeSort fun x y=>decide (x≤y))))]→K (.tup []) H'):Qs P f [.c (.af z 1 0 n)] H K:=by
 refine⟨hf,fun g w vs hs hl hv=>?_⟩;obtain⟨v,rfl⟩:∃v,vs=[v]:=by
  match vs,hl with
  |[v],_=>exact⟨v,rfl⟩
 have hr:=hv 0 _ v rfl rfl;have ho:=hs.objs z;rw[hz]at ho
 cases hr with
 |c _ _ hr=>
  cases hr with
  |bS=>omega
  |af l sz st n cap b base T m bR tz gI hm=>
   obtain⟨b',base',T',cs,val,pj,i9,cM,bz,eA,aK,bW,dc⟩:=SatVec.of ho bR;rw[bR]at pj;simp only[Jao,Ja7,true_and]at pj;obtain⟨rfl,rfl⟩:=pj;have ae:=Ee cM;rw[Qf]at bz eA;have ft:∀j (hj:j<ns.length),cs[base+j]? = some (.int .i64 ns[j]):=by
    intro j hj;have h1:(Qb ns)[j]? = some [.int .i64 ns[j]]:=(by simp[Qb,hj]);have h2:=bW j _ 0 _ h1 rfl;have h3:=dc j _ 0 _ h1 rfl;have h4:val j 0=.int .i64 ns[j]:=by
     exact (fun vv (h:RepC w g (.int .i64 ns[j]) vv)=>by cases h;rfl:∀vv,RepC w g (.int .i64 ns[j]) vv→vv=.int .i64 ns[j]) _ (h3.toC rfl)
    simpa[h4]using h2
   have hH:Go.Sort.Holds (Value.int .i64) w b base ns.toArray:=by
    intro j hj;have cw:j<ns.length:=ZU;refine⟨?_,?_⟩
    ·rw[Dt cM,ft j cw];simp[getElem!_pos,cw]
    ·simp[World.frozen?,cM]
   subst hn;simp only[Nat.zero_mul,Jbm];refine (hc b base cap ns w hH ae (by simp only[LIM]at eA;omega)).mono fun e w'=>?_;rintro⟨rfl,nn,os,rfl⟩;have s1:Stp H g w H g (Go.Sort.ahead w nn):=PF hs (w.drawn+nn);have nD:(Go.Sort.ahead w nn).heap[b]? = some (.cells cs T' (0,0)):=cM;have wJ:∀i (c:C),((Qb (ns.mergeSort fun x y=>decide (x≤y)))[i]? = some [c])→∃x:Int,c=.int .i64 x∧(Go.Sort.putCells (Value.int .i64) base (ns.mergeSort fun x y=>decide (x≤y)).toArray cs)[base+i]? = some (.int .i64 x):=by
    intro i c hi;have am:(ns.mergeSort fun x y=>decide (x≤y)).length=ns.length:=List.length_mergeSort _;have ck:i<(ns.mergeSort fun x y=>decide (x≤y)).length:=by
     rcases Jbn i (ns.mergeSort fun x y=>decide (x≤y)).length with h|h
     ·exact h
     ·rw[Jq (by rw[Qf];exact h)]at hi;simp at hi
    refine⟨(ns.mergeSort fun x y=>decide (x≤y))[i],?_,?_⟩
    ·simp only[Qb,J6,Jm ck,Jbi,Jao,List.cons.injEq,and_true]at hi;exact hi.symm
    ·simp only[Go.Sort.putCells,Array.getElem?_mapIdx];rw[Array.getElem?_eq_getElem Zx];simp only[Jbi,Jao];rw[if_pos ⟨Zx,by simp only[List.size_toArray];omega⟩];congr 1;simp[getElem!_pos];rw[Jm ck];rfl
   have s2:=HO s1.sat i9 nD (cs':=Go.Sort.putCells (Value.int .i64) base (ns.mergeSort fun x y=>decide (x≤y)).toArray cs) (by simp[Go.Sort.putCells])
    (.vec 1 (Qb (ns.mergeSort fun x y=>decide (x≤y)))) Za3 (fun aU bX=>.inr ⟨b,base,T',_,fun i _=>.int .i64 ((ns.mergeSort fun x y=>decide (x≤y)).getD i 0),bR,i9,bX,by
      rw[Qf,List.length_mergeSort];simp[Go.Sort.putCells];omega,by rw[Qf,List.length_mergeSort];exact eA,fun i row hi=>by
       simp only[Qb,J6,Option.map_eq_some_iff]at hi;obtain⟨x,_,rfl⟩:=hi;rfl,fun i row j c hi hj=>by
       have bO:=hi;simp only[Qb,J6,Option.map_eq_some_iff]at bO;obtain⟨y,hy,rfl⟩:=bO;have jB:j=0:=by
        rcases Ja6 j with h|h
        ·exact h
        ·rw[Jq ZD]at hj;simp at hj
       subst jB;obtain⟨x,hx,he⟩:=wJ i _ hi;simp only[C.int.injEq,true_and]at hx;subst hx;simp only[Nat.mul_one,Jbm];rw[he,Jb,hy];rfl,fun i row j c hi hj=>by
       have bO:=hi;simp only[Qb,J6,Option.map_eq_some_iff]at bO;obtain⟨y,hy,rfl⟩:=bO;have jB:j=0:=by
        rcases Ja6 j with h|h
        ·exact h
        ·rw[Jq ZD]at hj;simp at hj
       subst jB;simp at hj;subst hj;show RepO _ _ _ _ _ (Value.int .i64 ((ns.mergeSort fun x y=>decide (x≤y)).getD i 0));rw[Jb,hy];exact .plain _ _ _ _ (.int _ _)⟩) Zz
   rw[←Qbpx nD]at s2;obtain⟨g',s3⟩:=Yd s2.sat os;refine .inl ⟨.tuple #[],.tup [],_,g',rfl,hK _ ⟨by simp[Heap.aE],fun m _ hm=>Heap.ai _ _ (by simpa using hm)⟩,s1.trans (s2.trans s3),?_⟩;exact .tup [] [] rfl Zz
theorem Qbml {f:Nat}(hf:fnOk P f=true){k:IntKind}{x r:Int}(hc:∀w,Calls P f #[.int k x] w fun e w'=>e=.returned (.int .i64 r)∧w'=w){K:V→Heap→Prop}(hK:K (.c (.int .i64 r)) H) :
  Qs P f [.c (.int k x)] H K:=by
 refine⟨hf,fun g w vs hs hl hv=>?_⟩;obtain⟨v,rfl⟩:∃v,vs=[v]:=by
  match vs,hl with
  |[v],_=>exact⟨v,rfl⟩
 have hr:=hv 0 _ v rfl rfl
 cases hr with
 |c _ _ hr=>
  cases hr;refine (hc w).mono fun e w'=>?_;rintro⟨rfl,rfl⟩;exact .inl ⟨_,_,H,g,rfl,hK,.refl hs,.c _ _ (.int _ _)⟩
end Go.AE.Y
namespace Go.AE.Y
variable {ns R:List Int}{k j:Nat}
def srt (ns:List Int):List Int:=ns.mergeSort fun x y=>decide (x≤y)
theorem Qb0i (ns:List Int):(srt ns).length=ns.length:=List.length_mergeSort _
theorem DF (ns:List Int)(x:Int):x∈srt ns↔x∈ns:=(List.mergeSort_perm ns _).mem_iff
theorem Qbl9 (ns:List Int):(srt ns).Pairwise (·≤·):=by
 have:=List.pairwise_mergeSort (le:=fun x y:Int=>decide (x≤y)) (by simp only[decide_eq_true_eq];omega) (by simp only[Bool.or_eq_true,decide_eq_true_eq];omega) ns;exact this.imp Zz
theorem Qbr6 {ns:List Int}(h:ns.Nodup):(srt ns).Pairwise (· < ·):=by
 have h1:=Qbl9 ns;have h2:(srt ns).Nodup:=(List.mergeSort_perm ns _).nodup_iff.2 h;exact h1.imp₂ (fun a b dw bx=>Zx) h2
end Go.AE.Y
namespace Go.Proofs
open Go.Shelf
def Tryz.lays189_ren:Go.Shelf.Ren:=⟨fun|189=>118|125=>186|257=>185|128=>250|129=>251|294=>241|295=>242|296=>243|297=>244|298=>245|299=>246|216=>247|300=>248|301=>249|328=>296|329=>297|330=>298|331=>299|332=>300|215=>301|343=>318|n=>n,fun|28=>32|3=>3|46=>179|0=>0|51=>238|53=>240|4=>4|183=>232|182=>231|131=>134|5=>5|9=>9|218=>291|222=>262|228=>306|229=>257|n=>n,fun|n=>n⟩
theorem Tryz.lays189:Go.Proofs.Lays.n189 Tryz.prog Tryz.lays189_ren:={
 mixed:=by kernel_rfl
 f125:=Tryz.func186.trans (congrArg some (by kernel_rfl))
 f128:=Tryz.func250.trans (congrArg some (by kernel_rfl))
 f129:=Tryz.func251.trans (congrArg some (by kernel_rfl))
 f189:=Tryz.func118.trans (congrArg some (by kernel_rfl))
 f215:=Tryz.func301.trans (congrArg some (by kernel_rfl))
 f216:=Tryz.func247.trans (congrArg some (by kernel_rfl))
 f257:=Tryz.func185.trans (congrArg some (by kernel_rfl))
 f294:=Tryz.func241.trans (congrArg some (by kernel_rfl))
 f295:=Tryz.func242.trans (congrArg some (by kernel_rfl))
 f296:=Tryz.func243.trans (congrArg some (by kernel_rfl))
 f297:=Tryz.func244.trans (congrArg some (by kernel_rfl))
 f298:=Tryz.func245.trans (congrArg some (by kernel_rfl))
 f299:=Tryz.func246.trans (congrArg some (by kernel_rfl))
 f300:=Tryz.func248.trans (congrArg some (by kernel_rfl))
 f301:=Tryz.func249.trans (congrArg some (by kernel_rfl))
 f328:=Tryz.func296.trans (congrArg some (by kernel_rfl))
 f329:=Tryz.func297.trans (congrArg some (by kernel_rfl))
 f330:=Tryz.func298.trans (congrArg some (by kernel_rfl))
 f331:=Tryz.func299.trans (congrArg some (by kernel_rfl))
 f332:=Tryz.func300.trans (congrArg some (by kernel_rfl))
 f343:=Tryz.func318.trans (congrArg some (by kernel_rfl))
 t0:=Tryz.underlying0
 a0:=Tryz.isAgg0
 z0:=Tryz.sizeOf0
 v0:=Tryz.zeroValue0
 t3:=Tryz.underlying3
 a3:=Tryz.isAgg3
 z3:=Tryz.sizeOf3
 v3:=Tryz.zeroValue3
 t4:=Tryz.underlying4
 a4:=Tryz.isAgg4
 z4:=Tryz.sizeOf4
 v4:=Tryz.zeroValue4
 t5:=Tryz.underlying5
 a5:=Tryz.isAgg5
 z5:=Tryz.sizeOf5
 v5:=Tryz.zeroValue5
 t9:=Tryz.underlying9
 a9:=Tryz.isAgg9
 z9:=Tryz.sizeOf9
 v9:=Tryz.zeroValue9
 t28:=Tryz.underlying32
 a28:=Tryz.isAgg32
 z28:=Tryz.sizeOf32
 v28:=Tryz.zeroValue32
 t46:=Tryz.underlying179
 a46:=Tryz.isAgg179
 z46:=Tryz.sizeOf179
 v46:=Tryz.zeroValue179
 t51:=Tryz.underlying238
 a51:=Tryz.isAgg238
 z51:=Tryz.sizeOf238
 v51:=Tryz.zeroValue238
 t53:=Tryz.underlying240
 a53:=Tryz.isAgg240
 z53:=Tryz.sizeOf240
 v53:=Tryz.zeroValue240
 t131:=Tryz.underlying134
 a131:=Tryz.isAgg134
 z131:=Tryz.sizeOf134
 v131:=Tryz.zeroValue134
 t182:=Tryz.underlying231
 a182:=Tryz.isAgg231
 z182:=Tryz.sizeOf231
 v182:=Tryz.zeroValue231
 t183:=Tryz.underlying232
 a183:=Tryz.isAgg232
 z183:=Tryz.sizeOf232
 v183:=Tryz.zeroValue232
 t218:=Tryz.underlying291
 a218:=Tryz.isAgg291
 z218:=Tryz.sizeOf291
 v218:=Tryz.zeroValue291
 t222:=Tryz.underlying262
 a222:=Tryz.isAgg262
 z222:=Tryz.sizeOf262
 v222:=Tryz.zeroValue262
 t228:=Tryz.underlying306
 a228:=Tryz.isAgg306
 z228:=Tryz.sizeOf306
 v228:=Tryz.zeroValue306
 t229:=Tryz.underlying257
 a229:=Tryz.isAgg257
 z229:=Tryz.sizeOf257
 v229:=Tryz.zeroValue257 }
end Go.Proofs
namespace Go.AE.Y
open Go.Proofs.Tryz
variable {H H0:Heap}{K:V→Heap→Prop}{E B Lg:List (Nat×Obj)}
theorem Qbmp {x:Int}(h0:0≤x)(h1:x≤18446744073709551615)(hK:∀n:Int,K (.c (.int .i64 n)) H):Qs prog N2 [.c (.int .u64 x)] H K:=
 Qbml ZB (fun w=>calls_of_every_depth fun D=>Go.Proofs.AnyS.bits_LenIn (ρ:=lays189_ren) { lays189 with } D x w h0 h1) (hK _)
theorem Qb1r {c:C}(b8:c.ah=false)(hK:K (.tup []) H):Qs prog Qb4 [.c c,.c (.int .i64 0),.c (.int .i64 0)] H K:=by
 refine Qc Ab Qlm ?_;refine Za ?_;refine⟨Qr,?_⟩;refine Qd (Qw (fun m e1 H1=>H1=H∧e1=[(0,.c c),(1,.c (.int .i64 0)),(2,.c (.int .i64 0)),(6,.c (.int .i64 1))]) 0 ⟨rfl,rfl⟩ ?_);rintro m e1 H1 ⟨rfl,rfl⟩;refine Wa ?_;refine Qh (Qe rfl (fun h=>ZF) fun _=>?_);refine Qu ?_;simp only[go_sem,X.next,Q6,Aa,Qdq,Jat];exact⟨fun _=>trivial,hK⟩
theorem Qb16 {c:C}{l:Int}(b8:c.ah=false)(hK:K (.tup []) H):Qs prog In [.c c,.c (.int .i64 0),.c (.int .i64 0),.c (.int .i64 l)] H K:=by
 refine Qc Ab Q09 ?_;refine Wb ?_;refine Qd (Qw (fun m e1 H1=>H1=H∧e1=[(0,.c c),(1,.c (.int .i64 0)),(2,.c (.int .i64 0)),(3,.c (.int .i64 l)),(8,.c (.bool true)),(9,.c (.bool true))]) 0 ⟨rfl,rfl⟩ ?_);rintro m e1 H1 ⟨rfl,rfl⟩;refine Ws ?_;refine⟨Qr,?_⟩;refine Wa ?_;refine Qh (Qe rfl (fun _=>?_) (fun h=>ZF));refine Za ?_;refine Qb1r b8 ?_;simp only[F7];refine Ql ?_;simp only[go_sem,X.next,Q6,Aa,Qi8,Jat];exact⟨fun _=>trivial,hK⟩
theorem XN {c:C}(au:bh H c)(hl:ay c=0)(b8:c.ah=false)(hK:K (.tup []) H):Qs prog Rx [.c c] H K:=by
 have au:=eq_true au;refine Qc Ab Qbpc ?_;refine Zl au hl ?_;have e0:((0:Nat):Int)=0:=rfl;refine Zq e0 ?_;refine⟨⟨ZK,ZK⟩,?_⟩;refine Qbmp Zx Zx fun n=>?_;simp only[go_sem,N6];refine Qb16 b8 ?_;simp only[go_sem,Q6,Aa,Rh,Jat];exact⟨fun _=>trivial,hK⟩
theorem Qb06 {c:C}{ns:List Int}(kn:Kn H0 H E (B++Lg))(ao:Gr Lg 1 (Qb ns) c)
  (hK:∀Lg' H',Gr Lg' 1 (Qb (srt ns)) c→Kn H0 H' E (B++Lg')→K (.tup []) H'):Qs prog Rx [.c c] H K:=by
 by_cases h0:ns=[]
 ·subst h0;refine XN (ao.bh kn) (by rw[ao.ay];rfl) ao.ah (hK Lg H ?_ kn);have:srt []=[]:=by simp[srt]
  rw[this];exact ao
 ·rcases ao with ⟨_,h,_⟩|⟨y,rfl,rfl⟩
  ·cases ns with
   |nil=>exact absurd rfl h0
   |cons a b=>simp[Qb]at h
  ·have hy:=kn.l B.length (l:=y) (o:=.vec 1 (Qb ns)) Zz;have kh:0<ns.length:=List.length_pos_iff.2 h0;refine Qbib ZB (fun blk off cap zs w h1 h2 h3=>Go.Proofs.Any.slices_Sort_int lays189 blk off cap zs w h1 h2 h3) hy (by rw[Qf]) (by rw[Qf];exact kh) fun H' hu=>?_;refine hK [(y,.vec 1 (Qb (srt ns)))] H' (.inr ⟨y,by rw[Qf,Qf,Qb0i],rfl⟩) ?_;have:=kn.callL B.length (l:=y) (o:=.vec 1 (Qb ns)) Zz hu Zz;simpa[srt]using this
def AQ (ks:List Nat):List (C×V):=ks.map fun k:Nat=>(.int .i64 (k:Int),.c (.bool true))
theorem Qbpj (ks:List Nat):(AQ ks).length=ks.length:=by simp[AQ]
theorem Nm (ks:List Nat)(n:Int):B3 0 (.int .i64 n) (AQ ks)=True:=by
 refine eq_true ?_;simp only[B3,AQ,Jn];rintro e ⟨k,_,rfl⟩;exact⟨k,rfl⟩
theorem Qa8u (ks:List Nat)(b:Nat):(BH (.int .i64 (b:Int)) (AQ ks)).getD (.c (.bool false))=.c (.bool (decide (b∈ks))):=by
 induction ks with
 |nil=>simp[AQ,BH]
 |cons k ks ih=>
  simp only[AQ,Ju,BH,AR]at ih⊢;by_cases h:b=k
  ·subst h;simp
  ·have:¬(b:Int)=(k:Int):=Zx
   simp only[this,decide_false,J4,if_false];rw[ih];simp[h]
theorem Qbmd (ks:List Nat)(b:Nat)(h:b∉ks):updE (.int .i64 (b:Int)) (.c (.bool true)) (AQ ks)=AQ (ks++[b]):=by
 induction ks with
 |nil=>simp[AQ,updE]
 |cons k ks ih=>
  simp only[Jx,not_or]at h;have hk:¬(b:Int)=(k:Int):=Zx
  have ih:=ih h.2;simp only[AQ,Ju,updE,AR,hk,decide_false,J4,if_false,Jae]at ih⊢;rw[ih]
theorem Np {ks:List Nat}(h:ks.Nodup):(AQ ks).Nodup:=by
 rw[AQ,List.Nodup,J8];refine List.Pairwise.imp (fun {a b} dw he=>?_) h;simp only[Ja7,C.int.injEq,true_and,and_true]at he;exact dw Zx
set_option maxHeartbeats 1000000 in
theorem Qayz {M ver:Nat}{ks:List Nat}(hM:H M=.map ver (AQ ks))(cr:ks.Nodup)(hl:ks.length≤LIM)
  (hK:∀l H',Upd H H' []→l.Pairwise (· < ·)→(∀x,x∈l↔x∈ks)→K (.c (.sl false 1 (Q5 l))) H') :
  Qs prog S5 [.c (.mp M)] H K:=by
 refine Qx ?_;refine Qc Ab Qx4 ?_;have hMn:H M≠.none:=by rw[hM];simp
 have kn0:=Kn.start1 hM Zz;refine Wq ?_;simp only[go_sem,hM];refine⟨Np cr,fun it wv H1 h1=>?_⟩;have kn:=kn0.al wv h1;refine Qh (Qd (Qw (fun m e1 H1=>∃(left:List (C×V)) (cur:Option (C×V)) (os:List Nat) (c:C) (Lg:List (Nat×Obj)),m=left.length∧os.Nodup∧(∀x,x∈os→x∈ks)∧(∀x∈ks,x∈os∨(C.int .i64 (x:Int),V.c (.bool true))∈left)∧
  (∀y∈left,∃x∈ks,x∉os∧y=(C.int .i64 (x:Int),V.c (.bool true)))∧left.Nodup∧os.length+left.length=ks.length∧
  Gr Lg 1 (Q5 os) c∧Kn H H1 [(M,.map ver (AQ ks))] ([(it,.iter (some (M,ver)) left cur)]++Lg)∧e1=[(3,.c c),(6,.c (.itr it))]) (AQ ks).length ?_ ?_))
 ·refine⟨AQ ks,none,[],_,[],rfl,Zz,Zz,fun x hx=>.inr ?_,fun y hy=>?_,Np cr,by simp[AQ],.nil 1,kn,rfl⟩
  ·exact Jn.2 ⟨x,hx,rfl⟩
  ·obtain⟨x,hx,rfl⟩:=Jn.1 hy;exact⟨x,hx,Zz,rfl⟩
 ·rintro m e1 H2 ⟨left,cur,os,c,Lg,rfl,rz,nc,cq,gP,hlnd,am,ao,kn,rfl⟩;have zu:=kn.e 0 rfl;have wu:=kn.l 0 rfl;have nA:=ao.ah;refine Zp nA wu zu ?_;refine⟨⟨_,rfl⟩,fun ku=>?_,fun y left' hy du vI yC H3 h3=>?_⟩
  ·subst ku;simp only[go_sem,V4,Jai];refine Qh (Qe rfl (fun h=>ZF) fun _=>?_);refine Zc ?_;refine Zi nA ?_;refine Qb06 kn ao fun Lg2 H3 ao kn=>?_;refine Zi nA ?_;refine Zg nA ?_;have bZ:∀x,x∈os↔x∈ks:=fun x=>⟨nc x,fun hx=>(cq x hx).resolve_right Zz⟩;have vG:(os.map Int.ofNat).Nodup:=by
    rw[List.Nodup,J8];exact List.Pairwise.imp (fun {a b} dw he=>dw (Int.ofNat.inj he)) rz
   have tn:=Qbr6 vG;obtain⟨l,iT,ig,qq⟩:∃l:List Nat,srt (os.map Int.ofNat)=l.map Int.ofNat∧l.Pairwise (· < ·)∧∀x,x∈l↔x∈ks:=by
    refine⟨(srt (os.map Int.ofNat)).map Int.toNat,?_,?_,fun x=>?_⟩
    ·rw[Jbl]
     conv=>lhs;rw[←Jbp (srt (os.map Int.ofNat))]
     refine Ja3 fun x hx=>?_;rw[DF]at hx;obtain⟨y,_,rfl⟩:=Jn.1 hx;simp
    ·rw[J8];refine List.Pairwise.imp_of_mem (fun {a b} ha hb dw=>?_) tn;rw[DF]at ha hb;obtain⟨x,_,rfl⟩:=Jn.1 ha;obtain⟨y,_,rfl⟩:=Jn.1 hb;simpa using dw
    ·rw[←bZ];constructor
     ·intro hx;obtain⟨y,hy,rfl⟩:=Jn.1 hx;rw[DF]at hy;obtain⟨z,hz,rfl⟩:=Jn.1 hy;simpa using hz
     ·intro hx;exact Jn.2 ⟨(x:Int),by rw[DF];exact Jn.2 ⟨x,hx,rfl⟩,Zz⟩
   have:=ao.frz kn (Qq _);rw[iT]at this;exact⟨_,.c _ _ this,hK l _ (kn.fin.drop1 hM) ig qq⟩
  ·obtain⟨k,hk,wi,rfl⟩:=gP y hy;have kn:=kn.aB 0 rfl h3;have hM3:=kn.e 0 rfl;have wt:=kn.l 0 rfl;simp only[go_sem,V4,Jai];refine Qh (Qe rfl (fun _=>?_) (fun h=>ZF));refine Ze ?_;refine Qd (Qa ?_);simp only[go_sem,nA,wt,hM3];refine⟨⟨_,rfl⟩,?_⟩;simp only[go_sem,Qeu,Jai];refine Zq nA ?_;have em:os.length+1≤LIM:=by omega
   refine kn.bg (B:=[_]) (new:=Q5 [k]) ao (.mk' _ _ _ _) (BC _) (by simp only[Qz,Jk,Jo];omega) fun t Lg' H4 ao ht kn=>?_;simp only[go_sem,Qev,X.next];refine⟨left'.length,Zx,left',_,os++[k],t,Lg',rfl,?_,fun x hx=>?_,fun x hx=>?_,fun y iM=>?_,vI,?_,?_,kn,rfl⟩
   ·refine J1.2 ⟨rz,Zz,fun a ha b hb=>?_⟩;simp at hb;subst hb;exact fun e=>wi (e▸ha)
   ·rcases Je.1 hx with hx|hx
    ·exact nc x hx
    ·simp at hx;subst hx;exact hk
   ·rcases cq x hx with h|h
    ·exact .inl (Jr _ h)
    ·by_cases sZ:x=k
     ·subst sZ;exact .inl (Jv _ Zz)
     ·refine .inr ((du _).2 ⟨h,fun he=>sZ ?_⟩);simp only[Ja7,C.int.injEq,true_and,and_true]at he;omega
   ·obtain⟨h1,h2⟩:=(du y).1 iM;obtain⟨x,hx,ud,rfl⟩:=gP y h1;refine⟨x,hx,fun hh=>?_,rfl⟩;rcases Je.1 hh with hh|hh
    ·exact ud hh
    ·simp at hh;subst hh;exact h2 rfl
   ·simp;omega
   ·rw[Hx];exact ao
theorem Q9p {M ver:Nat}{ks:List Nat}(hM:H M=.map ver (AQ ks))(cr:ks.Nodup)(hl:ks.length≤LIM)
  (hK:∀fl l H',Upd H H' []→l.Pairwise (· < ·)→(∀x,x∈l↔x∈ks)→K (.c (.sl fl 1 (Q5 l))) H') :
  Qs prog S5 [.c (.mp M)] H K:=Qayz hM cr hl fun l H'=>hK false l H'
theorem CS {fl:Bool}{ns:List Int}{L:List (Nat×Obj)}(kn:Kn H0 H E L)(hl:ns.length≤LIM)(hK:∀t Lg H',Gr Lg 1 (Qb ns) t→t.ah=false→Kn H0 H' E (L++Lg)→K (.c t) H') :
  Qs prog Ez [.c (.sl fl 1 (Qb ns))] H K:=by
 refine Qc Ab Qbjj ?_;refine Wf ?_;intro b hb;refine Wu ?_ ?_
 ·intro mz;have hn:=hb mz;refine Wm ?_;refine hK _ [] H ?_ rfl ZH;rw[hn];exact .nil 1
 ·intro qw;refine Ze ?_;refine Qa ?_;simp only[go_sem,Qf];refine⟨.inl trivial,Qq _,Zx,fun z hz H1 h1=>?_⟩;have kn:=kn.al hz h1;simp only[go_sem,Q5y];refine Zb ?_;exact hK _ _ H1 (.mk z 1 _ ZO) rfl kn
theorem Es (ns:List Int)(i:Nat)(x:Int):(Qb ns).set i [.int .i64 x]=Qb (ns.set i x):=by simp[Qb,Jbd]
theorem Gb {n:Nat}{S:List Bool}{f:Nat→Bool}(hl:S.length=n)(h:∀x,x<n→S.getD x false=f x):S=(List.range n).map f:=by
 refine List.ext_getElem Za8 fun i h1 h2=>?_;have hi:i<n:=by rw[←hl];exact h1
 have:=h i hi;simp only[Jb,Jm h1,Jau]at this;simp[this]
theorem LC {n:Nat}{nx:Nat→List Int}{S:List Bool}{o:List Nat}(hf:Bt n nx=true)(hd:Dfs (nxN nx) [0] (List.replicate n false) [] S o):S=inL n (nxN nx):=by
 have cC:=Hn hf;have dX:∀x,x<(List.replicate n false).length→∀y∈nxN nx x,y<(List.replicate n false).length:=by
  rw[Jf];exact fun x hx y hy=>Cu hf hx hy
 have mH:∀x∈[0],x<(List.replicate n false).length:=ZaJ
 have hl:=hd.len;rw[Jf]at hl;refine Gb hl fun x hx=>?_;have hs:=hd.seen dX mH x;rw[Di]at hs;simp only[J4,false_or,Ja,exists_eq_left]at hs;rw[Jbf,hs,rchB_iff];exact⟨fun hr=>hr.mono fun z hz=>Zx,fun hr=>hr.mono fun z hz=>by rw[Di]at hz;simp at hz⟩
theorem Qasq {n:Nat}{nx:Nat→List Int}{S:List Bool}{o:List Nat}{a:Nat}(hf:Bt n nx=true)(ha:a<n)(hd:Dfs (nxN nx) [0] ((List.replicate n false).set a true) [] S o) :
  S.set a false=(List.range n).map (A6 (nxN nx) a):=by
 have cC:=Hn hf;have dX:∀x,x<((List.replicate n false).set a true).length→∀y∈nxN nx x,y<((List.replicate n false).set a true).length:=by
  rw[Jl,Jf];exact fun x hx y hy=>Cu hf hx hy
 have mH:∀x∈[0],x<((List.replicate n false).set a true).length:=by rw[Jl,Jf];simpa using cC
 have hl:=hd.len;rw[Jl,Jf]at hl;refine Gb (by rw[Jl];exact hl) fun x hx=>?_;have uU:∀z,((List.replicate n false).set a true).getD z false=true↔z=a:=by
  intro z;rw[C6,Jf,Di];by_cases hz:z=a
  ·simp[hz,ha]
  ·simp[hz]
 have bY:(S.set a false).getD x false=if x=a then false else S.getD x false:=by
  simp only[Jb,J7];by_cases lj:a=x
  ·subst lj;simp[hl,ha]
  ·have:¬x=a:=fun h=>lj h.symm;simp[lj,this]
 rw[bY];by_cases lj:x=a
 ·subst lj;rw[if_pos rfl,Rg]
 ·rw[if_neg lj,Jbf,hd.seen dX mH x,uU,rchB_iff];simp only[lj,false_or,Ja,exists_eq_left];exact⟨fun hr=>hr.mono fun z hz=>(uU z).2 Zx,fun hr=>hr.mono fun z hz=>by have:=(uU z).1 hz;omega⟩
theorem Y3 {n:Nat}{g:Nat→List Nat}:((List.replicate n false).set 0 true).set 0 false=(List.range n).map (A6 g (0:Nat)):=by
 refine Gb Zz fun x hx=>?_;have:A6 g ((0:Nat):Int) x=false:=by
  cases hc:A6 g ((0:Nat):Int) x with
  |false=>rfl
  |true=>exact absurd rfl (rchB_iff.1 hc).fst
 rw[this,List.set_set];have:(List.replicate n false).set 0 false=List.replicate n false:=by
  cases n with
  |zero=>rfl
  |succ n=>rfl
 rw[this,Di]
set_option maxHeartbeats 4000000 in
theorem KF {p rg:Int}{fl:Bool}{rows:List (List C)}{nx:Nat→List Int}(hg:GF rows nx)(hf:Bt rows.length nx=true)
  (hK:∀H',Upd H H' []→K (.c (.sl false 1 (ovOf rows.length (nxN nx) rows.length))) H') :
  Qs prog R0 [.ag [.int .i64 p,.int .i64 rg,.sl fl 5 rows]] H K:=by
 have hn:=hg.n;have cC:=Hn hf;have cF:∀(y:Nat) l a b d,C.sl fl 5 rows=.af l a b d→l≠y:=by intro y l a b d h;cases h
 refine Qx ?_;refine Qc Ab Qbos ?_;refine Wb ?_;intro _;refine Wg ?_;simp only[go_sem,EY];refine⟨by simp only[LIM];omega,fun al dM H1 h1=>?_⟩;have kn:Kn H H1 [] ([(al,.vec 1 (Qt (List.replicate rows.length false)))]++[]):=(Kn.aq H).al dM h1;simp only[go_sem,Pv];refine Za ?_;refine Q68 (F:=H1) hf Zx (hg.grd H1 fl) (cF al) rows.length 0 (List.replicate rows.length false) [] (.sl true 1 []) [] H1 _ Zz Zx cC (Di _ _) kn.mid (.nil 1) Zz fun S o oc Lg0 H2 hd k2 _=>?_;have kn:Kn H H2 [] [(al,.vec 1 (Qt (inL rows.length (nxN nx))))]:=by
  have:=(kn.comp k2 rfl).drop;rw[LC hf hd]at this;exact this
 refine Wa ?_;refine Qh (Qd (Qw (fun m e1 H1=>∃(ys:List Nat) (oc:C) (Lg:List (Nat×Obj)),m=rows.length-ys.length∧ys.length≤rows.length∧Gr Lg 1 (ysR rows.length ys) oc∧
  Kn H H1 [] (([(al,.vec 1 (Qt (inL rows.length (nxN nx))))]++ysL rows.length (nxN nx) ys)++Lg)∧
  e1=[(1,.c (.pp [.int .i64 p,.int .i64 rg,.sl fl 5 rows])),(3,.c (.int .i64 rows.length)),(4,.c oc),(5,.c (.af al 1 0 rows.length)),(6,.c (.int .i64 ys.length))]) rows.length ?_ ?_))
 ·exact⟨[],_,[],Zz,Zz,.nil 1,kn,rfl⟩
 ·rintro m e1 H3 ⟨ys,oc,Lg,hm,hi,ao,kn,rfl⟩;have hoc:=ao.ah;refine Wa ?_;refine Wu ?_ ?_
  ·intro hc;have ae:ys.length<rows.length:=ZA
   have vY:ys.length<(inL rows.length (nxN nx)).length:=by rw[DJ];exact ae
   refine Ze ?_;refine A4 (fun e2 H4=>∃(oc:C) (Lg:List (Nat×Obj)) (y:Nat),Gr Lg 1 (ysR rows.length (ys++[y])) oc∧
    Kn H H4 [] (([(al,.vec 1 (Qt (inL rows.length (nxN nx))))]++ysL rows.length (nxN nx) (ys++[y]))++Lg)∧
    lk 1 e2=.c (.pp [.int .i64 p,.int .i64 rg,.sl fl 5 rows])∧lk 3 e2=.c (.int .i64 rows.length)∧lk 4 e2=.c oc∧lk 5 e2=.c (.af al 1 0 rows.length)∧lk 6 e2=.c (.int .i64 ys.length)) ?_ ?_
   ·intro Q bD _ _;refine Qd (Qa ?_);simp only[go_sem,EY];refine⟨by simp only[LIM];omega,fun y2 ji H4 h4=>?_⟩;have kn:Kn H H4 [] ([(y2,.vec 1 (Qt (List.replicate rows.length false)))]++([(al,.vec 1 (Qt (inL rows.length (nxN nx))))]++(ysL rows.length (nxN nx) ys++Lg))):=
     (kn.al ji h4).perm (Qj fun f hf h0 hc hp=>by simp only[hf];omega)
    have hy:=kn.l 0 rfl;have bM:ys.length<(List.replicate rows.length false).length:=(by rw[Jf];exact ae);simp only[go_sem,Pu];refine Qa ?_;have ov:∀(S:List Bool),S.length=rows.length→(Qt S).take rows.length=Qt S:=fun S h=>Jc Zai;simp only[go_sem,hy,ae,Qy,Jf,Q4 _ _ bM,Cl,Jw,Jp];intro H5 h5;have kn:Kn H H5 [] ([(y2,.vec 1 (Qt ((List.replicate rows.length false).set ys.length true)))]++([(al,.vec 1 (Qt (inL rows.length (nxN nx))))]++(ysL rows.length (nxN nx) ys++Lg))):=kn.aB 0 rfl h5;refine Wa ?_;have rest:∀(e:Env) (H6:Heap),lk 1 e=.c (.pp [.int .i64 p,.int .i64 rg,.sl fl 5 rows])→lk 3 e=.c (.int .i64 rows.length)→lk 4 e=.c oc→lk 5 e=.c (.af al 1 0 rows.length)→lk 6 e=.c (.int .i64 ys.length)→lk 7 e=.c (.af y2 1 0 rows.length)→
      Kn H H6 [] ([(y2,.vec 1 (Qt ((List.range rows.length).map (A6 (nxN nx) ys.length))))]++([(al,.vec 1 (Qt (inL rows.length (nxN nx))))]++(ysL rows.length (nxN nx) ys++Lg)))→
      Ac prog Pw Q e H6:=by
     intro e H6 l1 l3 l4 l5 l6 l7 kn;refine Qa ?_;simp only[go_sem,l3,EY];refine⟨by simp only[LIM];omega,fun y3 ub H7 h7=>?_⟩;have kn:Kn H H7 [] ([(y3,.vec 1 (Qt (List.replicate rows.length false)))]++([(y2,.vec 1 (Qt ((List.range rows.length).map (A6 (nxN nx) ys.length))))]++([(al,.vec 1 (Qt (inL rows.length (nxN nx))))]++(ysL rows.length (nxN nx) ys++Lg)))):=
      (kn.al ub h7).perm (Qj fun f hf h0 hc hp=>by simp only[hf];omega)
     simp only[go_sem,Pt,l1,l3,l4,l5,l6,l7];refine Wa ?_;refine Qh (Qd (Qw (fun m e1 H1=>∃b:Nat,m=rows.length-b∧b≤rows.length∧
      Kn H H1 [] ([(y3,.vec 1 (Qt ((List.range b).map (domB (nxN nx) ys.length)++List.replicate (rows.length-b) false)))]++([(y2,.vec 1 (Qt ((List.range rows.length).map (A6 (nxN nx) ys.length))))]++([(al,.vec 1 (Qt (inL rows.length (nxN nx))))]++(ysL rows.length (nxN nx) ys++Lg))))∧
      e1=[(1,.c (.pp [.int .i64 p,.int .i64 rg,.sl fl 5 rows])),(3,.c (.int .i64 rows.length)),(4,.c oc),(5,.c (.af al 1 0 rows.length)),(6,.c (.int .i64 ys.length)),(7,.c (.af y2 1 0 rows.length)),(8,.c (.af y3 1 0 rows.length)),(9,.c (.int .i64 b))]) rows.length ?_ ?_))
     ·exact⟨0,Zx,Zx,ZH,rfl⟩
     ·rintro m2 e1 H8 ⟨b,eo,hb,kn,rfl⟩;have ub:=kn.l 0 rfl;have ji:=kn.l 1 rfl;have dM:=kn.l 2 rfl;have lf:((List.range b).map (domB (nxN nx) ys.length)++List.replicate (rows.length-b) false).length=rows.length:=ZD;refine Wa ?_;refine Wu ?_ ?_
      ·intro aC;have bB:b<rows.length:=ZC;have cf:b<(inL rows.length (nxN nx)).length:=(by rw[DJ];exact bB);have fi:b<((List.range rows.length).map (A6 (nxN nx) ys.length)).length:=(by simpa using bB);have pI:b<((List.range b).map (domB (nxN nx) ys.length)++List.replicate (rows.length-b) false).length:=(by rw[lf];exact bB);have t1:=ov (inL rows.length (nxN nx)) DJ;have t2:=ov ((List.range rows.length).map (A6 (nxN nx) ys.length)) Zz;have t3:=ov _ lf;refine Wd ?_;refine Qp ?_;simp only[go_sem,ub,ji,dM,bB,ae,t1,t2,Qy,lf,DJ,Jaj,Jbc,Q4 _ _ vY,Kd ae,Q4 _ _ cf,Kd bB,Q4 _ _ fi,Sl _ _ bB,Q4 _ _ pI,Cl,Jw,Jp];intro H9 h9;have kn:=kn.aB 0 rfl h9;refine Zf ?_;refine⟨Qr,rows.length-(b+1),Zx,b+1,rfl,Zx,?_,rfl⟩;rw[←Qa0n _ _ bB];have:domB (nxN nx) ys.length b=(bif (bif A6 (nxN nx) (-1) ys.length then A6 (nxN nx) (-1) b else false)then !A6 (nxN nx) (↑ys.length) b else false):=by
        simp only[domB];cases A6 (nxN nx) (-1) ys.length <;> cases A6 (nxN nx) (-1) b <;> rfl
       rw[this];exact kn
      ·intro aC;have je:b=rows.length:=(by have:¬b<rows.length:=(by simpa using aC);omega);subst je;refine Zc ?_;refine Zh ?_;have kn:Kn H H8 [] (([(al,.vec 1 (Qt (inL rows.length (nxN nx))))]++ysL rows.length (nxN nx) (ys++[y3]))++Lg):=by
        have aK:(List.range rows.length).map (domB (nxN nx) ys.length)++List.replicate (rows.length-rows.length) false=BM rows.length (nxN nx) ys.length:=(by simp[BM]);rw[aK]at kn;have:=kn.perm (L':=(([(al,.vec 1 (Qt (inL rows.length (nxN nx))))]++ysL rows.length (nxN nx) (ys++[y3]))++Lg)++[(y2,.vec 1 (Qt ((List.range rows.length).map (A6 (nxN nx) ys.length))))]) (Qj fun f hf h0 hc hp=>by simp only[Y2,hf];omega);exact this.drop
       refine kn.bg (new:=[[.af y3 1 0 rows.length]]) ao (.mk' _ _ _ _) (by simp[Go.AE.ak,C.ah]) (by simp only[Qb00,LIM,Jk,Jo];omega) fun t Lg' H9 ao ht kn=>?_;simp only[go_sem,Ps];refine bD _ _ ⟨t,Lg',y3,?_,kn,rfl,rfl,rfl,rfl,rfl⟩;rw[Y1];exact ao
    refine Wu ?_ ?_
    ·intro ha;have sG:ys.length≠0:=Zaz;refine Za ?_;refine Q68 (F:=H5) hf Zx (hg.grd H5 fl) (cF y2) rows.length 0 ((List.replicate rows.length false).set ys.length true) [] (.sl true 1 []) [] H5 _ Zz Zx cC (by rw[C6,Di,if_neg (by omega)]) kn.mid (.nil 1) Zz fun S o oc' Lg0 H6 hd k2 _=>?_;have zp:=hd.len;rw[Jl,Jf]at zp;have kn:Kn H H6 [] ([(y2,.vec 1 (Qt S))]++([(al,.vec 1 (Qt (inL rows.length (nxN nx))))]++(ysL rows.length (nxN nx) ys++Lg))):=(kn.comp k2 rfl).drop;have hy:=kn.l 0 rfl;have ua:ys.length<S.length:=Zx;refine Qp ?_;simp only[go_sem,hy,ae,Qy,zp,Q4 _ _ ua,Cl,Jw,Jp];intro H7 h7;have kn:=kn.aB 0 rfl h7;refine rest _ H7 rfl rfl rfl rfl rfl rfl ?_;rw[←Qasq hf ae hd];exact kn
    ·intro ha;have sG:ys.length=0:=Zaz;have hy:=kn.l 0 rfl;have ua:ys.length<((List.replicate rows.length false).set ys.length true).length:=(by simpa using ae);refine Qp ?_;simp only[go_sem,hy,ae,Qy,Jl,Jf,Q4 _ _ ua,Cl,Jw,Jp];intro H7 h7;have kn:=kn.aB 0 rfl h7;refine rest _ H7 rfl rfl rfl rfl rfl rfl ?_;have:=Y3 (n:=rows.length) (g:=nxN nx);rw[sG]at kn⊢;rw[←this];exact kn
   ·rintro e2 H4 ⟨oc2,Lg2,y,ao,kn,l1,l3,l4,l5,l6⟩;refine Qp ?_;simp only[go_sem,X.next,l1,l3,l4,l5,l6];exact⟨Qr,rows.length-(ys.length+1),Zx,ys++[y],oc2,Lg2,Zz,by simp;omega,ao,kn,Zz⟩
  ·intro hc;have bd:ys.length=rows.length:=by have:¬ys.length<rows.length:=ZA;omega
   refine Wh ?_;have eS:=Qb01 (H:=H3) (S:=un H) (n:=rows.length) (g:=nxN nx) ys (fun q hq=>⟨(kn.get q (by simp[hq])).1,BN (kn.loc q (by simp[hq]))⟩);rw[bd]at eS;exact⟨_,.c _ _ (ao.frzR kn eS),hK _ kn.fin⟩
end Go.AE.Y
namespace Go.AE.Y
open Go.Proofs.Tryz
def Q4q:List Item:=[mJ 3 12]
def Q4r:List Item:=.chk 6 none (.ld 3 true (.t 1))::aJ 12 GO [.t 6,kI 0,.t 10,.t 11]::Q4q
def Q4s:List Item:=[mJ 4 27]
def Qa1z:SC:=.reg [mJ 19 5,cJ 20 .sub 19 1,mJ 5 20] [3,4,5]
def Qa10:SC:=.seq (.block 1 (.reg (mJ 21 4::mJ 22 3::mJ 23 5::iJ 24 1 22 23::lJ 25 24::fI 26 (.aG 1 [.t 25])::xJ 27 1 21 26::Q4s) [3,4,5])) Qa1z
def Qawe:SC:=.seq (sR [mJ 17 5,cJ 18 .geq 17 0] [3,4,5,18] (cT 18 .skip (.exit 0))) Qa10
def Qa11:SC:=sR [mJ 28 4,mJ 2 28] [2] .ret
def Qa12:SC:=.seq (sR [mJ 14 3,nJ 15 14,cJ 16 .sub 15 1,mJ 5 16] [3,4,5] (bL 0 Qawe)) Qa11
def Qa13:SC:=sR [fI 13 (.aG 1 []),mJ 4 13] [3,4] Qa12
def Qa14:SC:=.seq (.aA 8 [0,1,2,3,5,4,0,6,7] ( tJ 6 3 1::fJ 7 2 1::lJ 8 7::nJ 9 8::fI 11 (.aG 1 [])::eI 10 (.mks 1 [.bool false] (.t 9))::Q4r) [3]) Qa13
def Qbj1:SC:=sR [vJ 1 0,fI 2 (.mv (.k (.c (.sl true 1 []))))] [1] Qa14
abbrev Ls:List RS:=[.tmp 2]
theorem Qbjb:mFn prog HK 1 29 Qbj1 Ls=true:=ZB
def Qz3:List Item:=[mJ 3 17]
def Qawm:SC:=.reg [mJ 10 4,cJ 11 .add 10 1,mJ 4 11] [0,3,4]
def Qawn:SC:=.seq (.block 1 (.reg (mJ 12 3::mJ 13 0::mJ 14 4::iJ 15 1 13 14::lJ 16 15::aJ 17 GN [.t 12,.t 16]::Qz3) [0,3,4])) Qawm
def Qaql:SC:=.seq (sR [mJ 6 4,mJ 7 0,nJ 8 7,bJ 9 .lss 6 8] [0,3,4,9] (cT 9 .skip (.exit 0))) Qawn
def Qawo:SC:=sR [mJ 18 3,mJ 2 18] [2] .ret
def Qawp:SC:=.seq (sR [zJ 4 0] [0,3,4] (bL 0 Qaql)) Qawo
def Qawq:SC:=sR [fI 5 (.aG 1 []),mJ 3 5] [0,3] Qawp
def Qbar:SC:=sR [fI 2 (.mv (.k (.c (.sl true 1 []))))] [0] Qawq
abbrev Nu:List RS:=[.tmp 2]
theorem Qa9h:mFn prog SS 1 19 Qbar Nu=true:=ZB
def Qnu:List Item:=[oJ 5 4]
def Qafp:SC:=cT 5 (sR [fI 6 (.aG 1 []),mJ 2 6] [2] .ret) .skip
def Qnv:List Item:=[mJ 2 9]
def Qnw:List Item:=aJ 9 SS [.t 8]::Qnv
def Qafq:SC:=sR (tJ 7 3 1::aJ 8 HK [.t 7]::Qnw) [2] .ret
def Qafr:SC:=.seq (sR (tJ 3 3 1::aJ 4 Q6s [.t 3]::Qnu) [1,5] Qafp) Qafq
def Qasn:SC:=sR [vJ 1 0,fI 2 (.mv (.k (.c (.sl true 1 []))))] [1] Qafr
abbrev Qzp:List RS:=[.tmp 2]
theorem Qao3:mFn prog Vb 1 10 Qasn Qzp=true:=ZB
def Q4x:List Item:=[mJ 5 9]
def Qa2m:SC:=.reg [mJ 13 6,cJ 14 .add 13 1,mJ 6 14] [0,1,5,6]
def Qa2n:SC:=.seq (.block 1 (.reg [mJ 15 5,mJ 16 6,iJ 17 1 15 16,.e none none (.sto 1 (.t 17) (kI (-1)))] [0,1,5,6])) Qa2m
def Qawk:SC:=.seq (sR [mJ 10 6,mJ 11 0,bJ 12 .lss 10 11] [0,1,5,6,12] (cT 12 .skip (.exit 0))) Qa2n
def Qa2o:SC:=.reg [mJ 22 7,cJ 23 .add 22 1,mJ 7 23] [1,5,7]
def Qa2p:SC:=.seq (.block 3 (.reg [mJ 24 5,mJ 25 1,mJ 26 7,iJ 27 1 25 26,lJ 28 27,mJ 29 7,iJ 30 1 24 28,sJ 1 30 29] [1,5,7])) Qa2o
def Qawl:SC:=.seq (sR [mJ 18 7,mJ 19 1,nJ 20 19,bJ 21 .lss 18 20] [1,5,7,21] (cT 21 .skip (.exit 2))) Qa2p
def Qa2q:SC:=sR [mJ 31 5,mJ 4 31] [4] .ret
def Qa2r:SC:=.seq (sR [zJ 7 0] [1,5,7] (bL 2 Qawl)) Qa2q
def Qa2s:SC:=.seq (sR [zJ 6 0] [0,1,5,6] (bL 0 Qawk)) Qa2r
def Qawj:SC:=sR (mJ 8 0::eI 9 (.mks 1 [.int .i64 0] (.t 8))::Q4x) [0,1,5] Qa2s
def Qbj2:SC:=sR [fI 4 (.mv (.k (.c (.sl true 1 []))))] [0,1] Qawj
abbrev Lr:List RS:=[.tmp 4]
theorem Qbjc:mFn prog Q02 2 32 Qbj2 Lr=true:=ZB
def OW:List Item:=[mJ 5 20]
def OU:List Item:=[sJ 3 6 25]
def OT:List Item:=[hJ 33 32,.chk 36 none (.iad 1 (.t 34) (.t 35)),hJ 37 36,.chk 38 none (.iad 5 (.t 33) (.t 37)),.chk 39 none (.ld 5 true (.t 38)),sJ 5 8 40]
def OS:List Item:=eI 8 (.alloc [.sl true 2 [],.sl true 4 [],.int .i64 0,.int .i64 0,.sl true 1 []])::OT
def Qban:SC:=.reg [mJ 46 9,cJ 47 .add 46 1,mJ 9 47] [1,2,4,5,6,7,8,9]
def Qbao:SC:=.seq (.block 3 (.aA 13 [0,1,2,3,4,5,6,7,8,9,10,11,12] ( fJ 48 4 8::lJ 49 48::mJ 50 9::mJ 51 5::fJ 52 4 8::lJ 53 52::mJ 54 9::iJ 55 1 53 54::lJ 56 55::iJ 57 1 51 56::lJ 58 57::iJ 59 1 49 50::sJ 1 59 58::[]) [1,2,4,5,6,7,8,9])) Qban
def Qa2l:SC:=.seq (sR [mJ 41 9,fJ 42 4 8,lJ 43 42,nJ 44 43,bJ 45 .lss 41 44] [1,2,4,5,6,7,8,9,45] (cT 45 .skip (.exit 2))) Qbao
def OR:List Item:=[fJ 65 2 6,sJ 1 65 64]
def Qbap:SC:=.reg (fJ 60 2 6::lJ 61 60::tJ 62 5 8::fI 63 (.aG 5 [.t 62])::xJ 64 5 61 63::OR) [1,2,4,5,6,7]
def Qbaq:SC:=.seq (sR [zJ 9 0] [1,2,4,5,6,7,8,9] (bL 2 Qa2l)) (.seq .gh Qbap)
def Qa15:SC:=.reg [mJ 30 7,cJ 31 .add 30 1,mJ 7 31] [1,2,4,5,6,7]
def Qa16:SC:=.seq (.block 1 (.seq (.aA 9 [0,1,2,3,4,5,6,7,8,9,1,4,5,6,7,10] ( fJ 32 2 2::lJ 33 32::mJ 34 1::mJ 35 7::iJ 36 1 34 35::lJ 37 36::iJ 38 5 33 37::tJ 39 5 38::aJ 40 Sm [.t 39]::OS) [1,2,4,5,6,7,8]) Qbaq)) Qa15
def Qawf:SC:=.seq (sR [mJ 26 7,mJ 27 1,nJ 28 27,bJ 29 .lss 26 28] [1,2,4,5,6,7,29] (cT 29 .skip (.exit 0))) Qa16
def Q4t:List Item:=[mJ 11 77]
def Q4u:List Item:=[mJ 12 80]
def Q4v:List Item:=[mJ 14 122]
def Q4w:List Item:=hJ 101 100::.chk 103 none (.iad 5 (.t 101) (.t 102))::hJ 105 104::.chk 107 none (.iad 2 (.t 105) (.t 106))::hJ 109 108::iJ 119 1 109 118::lJ 120 119::fI 121 (.aG 1 [.t 120])::xJ 122 1 99 121::Q4v
def Qa17:SC:=.reg [mJ 97 15,cJ 98 .add 97 1,mJ 15 98] [1,2,4,6,10,11,12,13,14,15]
def Qa18:SC:=.seq (.block 9 (.aA 25 [0,1,2,3,4,5,6,7,8,9,10,11,12,13,14,15,16,17,18,19,2,4,6,8,10,20,21,22,23,24] ( mJ 99 14::fJ 100 2 6::lJ 101 100::mJ 102 10::iJ 103 5 101 102::fJ 104 0 103::lJ 105 104::mJ 106 13::iJ 107 2 105 106::fJ 108 1 107::lJ 109 108::mJ 110 11::mJ 111 1::mJ 112 12::mJ 113 15::iJ 114 1 112 113::lJ 115 114::iJ 116 1 111 115::lJ 117 116::aJ 118 En [.t 110,.t 117]::Q4w) [1,2,4,6,10,11,12,13,14,15])) Qa17
def Qawg:SC:=.seq (sR [mJ 93 15,mJ 94 12,nJ 95 94,bJ 96 .lss 93 95] [1,2,4,6,10,11,12,13,14,15,96] (cT 96 .skip (.exit 8))) Qa18
def Qa19:SC:=.reg [fJ 123 2 6,lJ 124 123,mJ 125 10,iJ 126 5 124 125,fJ 127 0 126,lJ 128 127,mJ 129 13,mJ 130 14,iJ 131 2 128 129,fJ 132 1 131,sJ 1 132 130] [1,2,4,6,10,11,12,13]
def Qa2a:SC:=.seq (sR [zJ 15 0] [1,2,4,6,10,11,12,13,14,15] (bL 8 Qawg)) (.seq .gh Qa19)
def Qa2b:SC:=.reg [mJ 90 13,cJ 91 .add 90 1,mJ 13 91] [1,2,4,6,10,11,12,13]
def Qa2c:SC:=.seq (.block 7 (sR [fI 92 (.aG 1 []),mJ 14 92] [1,2,4,6,10,11,12,13,14] Qa2a)) Qa2b
def Qawh:SC:=.seq (sR [mJ 81 13,fJ 82 2 6,lJ 83 82,mJ 84 10,iJ 85 5 83 84,fJ 86 0 85,lJ 87 86,nJ 88 87,bJ 89 .lss 81 88] [1,2,4,6,10,11,12,13,89] (cT 89 .skip (.exit 6))) Qa2c
def Qa2d:SC:=sR [zJ 13 0] [1,2,4,6,10,11,12,13] (bL 6 Qawh)
def Qa2e:SC:=sR (tJ 78 3 6::mJ 79 10::aJ 80 C8 [.t 78,.t 79]::Q4u) [1,2,4,6,10,11,12] Qa2d
def Qa2f:SC:=.reg [mJ 70 10,cJ 71 .add 70 1,mJ 10 71] [1,2,4,6,10]
def Qa2g:SC:=.seq (.block 5 (.seq (.aA 7 [0,1,2,3,4,5,6] ( tJ 72 3 2::mJ 73 1::mJ 74 10::iJ 75 1 73 74::lJ 76 75::aJ 77 C8 [.t 72,.t 76]::Q4t) [1,2,4,6,10,11]) Qa2e)) Qa2f
def Qawi:SC:=.seq (sR [mJ 66 10,mJ 67 1,nJ 68 67,bJ 69 .lss 66 68] [1,2,4,6,10,69] (cT 69 .skip (.exit 4))) Qa2g
def Qa2h:SC:=sR [tJ 133 3 6,sJ 3 4 133] [4] .ret
def OX:SC:=.seq (sR [zJ 10 0] [1,2,4,6,10] (bL 4 Qawi)) Qa2h
def Qa2i:SC:=.seq (sR [zJ 7 0] [1,2,4,5,6,7] (bL 0 Qawf)) OX
def Qa2j:SC:=sR (fJ 21 0 2::lJ 22 21::fJ 23 1 2::lJ 24 23::fI 25 (.bld [.int .i64 0,.int .i64 0,.sl true 5 []] [(0,1,.t 22),(1,1,.t 24)])::eI 6 (.alloc [.int .i64 0,.int .i64 0,.sl true 5 []])::OU) [1,2,4,5,6] Qa2i
def Qa2k:SC:=sR (fJ 16 2 2::lJ 17 16::nJ 18 17::mJ 19 1::aJ 20 Q02 [.t 18,.t 19]::OW) [1,2,4,5] Qa2j
def Qbql:SC:=sR [vJ 2 0,eI 4 (.alloc [.int .i64 0,.int .i64 0,.sl true 5 []])] [1,2,4] Qa2k
abbrev Rb:List RS:=[.cell 4 3 true]
theorem Qbop:mFn prog R6 2 134 Qbql Rb=true:=ZB
def Pg:List Item:=[sJ 3 2 6]
def Pf:List Item:=.chk 3 none (.ld 3 true (.t 1))::aJ 6 R6 [.t 3,.t 5]::Pg
def Qbac:SC:=.seq (.aA 5 [0,1,2,0,3,4] ( tJ 3 3 1::tJ 4 3 1::aJ 5 Vb [.t 4]::Pf) [2]) .ret
def Qbqi:SC:=sR [vJ 1 0,eI 2 (.alloc [.int .i64 0,.int .i64 0,.sl true 5 []])] [1,2] Qbac
abbrev Rc:List RS:=[.cell 2 3 true]
theorem Qbom:mFn prog R7 1 7 Qbqi Rc=true:=ZB
def Qpx:List Item:=[mJ 9 20]
def Qpy:List Item:=[mJ 7 54]
def Qajp:SC:=cT 51 (.reg (mJ 52 7::mJ 53 8::aJ 54 GN [.t 52,.t 53]::Qpy) [1,2,3,7,8,9,10]) .skip
def Qajq:SC:=.reg [mJ 25 10,cJ 26 .add 25 1,mJ 10 26] [1,2,3,7,8,9,10]
def Qajr:SC:=.seq (.block 3 (.seq (.aA 25 [0,1,2,3,4,5,6,7,8,9,10,11,12,13,14,15,16,17,18,19,20,21,22,23,24] ( mJ 27 1::mJ 28 2::iJ 29 1 27 28::lJ 30 29::mJ 31 9::mJ 32 10::iJ 33 1 31 32::lJ 34 33::iJ 35 1 30 34::lJ 36 35::mJ 37 36::gTm 38 37 8::gTm 39 37 2::gT 40 37 (.bin 0 .eql (.t 38) (.t 39))::gTm 41 37 40::gFm 42 41 1::gFm 43 41 2::gF 44 41 (.iad 1 (.t 42) (.t 43))::gFl 45 41 44::gFm 46 41 8::gF 47 41 (.iad 1 (.t 45) (.t 46))::gFl 48 41 47::gF 49 41 (.not (.t 48))::gT 50 37 (.pick (.t 41) (.k (.c (.bool true))) (.t 49))::pF 51 37 50::[]) [1,2,3,7,8,9,10,51]) Qajp)) Qajq
def Qaek:SC:=.seq (sR [mJ 21 10,mJ 22 9,nJ 23 22,bJ 24 .lss 21 23] [1,2,3,7,8,9,10,24] (cT 24 .skip (.exit 2))) Qajr
def Qajs:SC:=sR [zJ 10 0] [1,2,3,7,8,9,10] (bL 2 Qaek)
def Qajt:SC:=.reg [mJ 16 8,cJ 17 .add 16 1,mJ 8 17] [1,2,3,7,8]
def Qaju:SC:=.seq (.block 1 (sR (tJ 18 3 3::mJ 19 8::aJ 20 C8 [.t 18,.t 19]::Qpx) [1,2,3,7,8,9] Qajs)) Qajt
def Qael:SC:=.seq (sR [mJ 12 8,mJ 13 1,nJ 14 13,bJ 15 .lss 12 14] [1,2,3,7,8,15] (cT 15 .skip (.exit 0))) Qaju
def Qaeh:SC:=sR [mJ 55 7,mJ 6 55] [6] .ret
def Qaei:SC:=.seq (sR [zJ 8 0] [1,2,3,7,8] (bL 0 Qael)) Qaeh
def Qaej:SC:=sR [fI 11 (.aG 1 []),mJ 7 11] [1,2,3,7] Qaei
def Qaww:SC:=sR [vJ 3 0,fI 6 (.mv (.k (.c (.sl true 1 []))))] [1,2,3] Qaej
abbrev Q3o:List RS:=[.tmp 6]
theorem Qau2:mFn prog T9 3 56 Qaww Q3o=true:=ZB
def Qnf:List Item:=[mJ 8 15]
def Qng:List Item:=[oJ 29 28]
def Qnh:List Item:=[mJ 10 33]
def Qni:List Item:=[cJ 46 .lss 45 0]
def Qnj:List Item:=[mJ 7 52]
def Qnk:List Item:=[mJ 8 59]
def Qaem:SC:=.reg (mJ 53 8::mJ 54 10::mJ 55 11::iJ 56 1 54 55::lJ 57 56::fI 58 (.aG 1 [.t 57])::xJ 59 1 53 58::Qnk) [1,3,7,8,10,11]
def Qaen:SC:=cT 46 (sR (mJ 47 7::mJ 48 10::mJ 49 11::iJ 50 1 48 49::lJ 51 50::aJ 52 GN [.t 47,.t 51]::Qnj) [1,3,7,8,10,11] Qaem) .skip
def Qaeo:SC:=.reg [mJ 38 11,cJ 39 .add 38 1,mJ 11 39] [1,3,7,8,10,11]
def Qaep:SC:=.seq (.block 3 (sR (mJ 40 7::mJ 41 10::mJ 42 11::iJ 43 1 41 42::lJ 44 43::aJ 45 En [.t 40,.t 44]::Qni) [1,3,7,8,10,11,46] Qaen)) Qaeo
def Q40:SC:=.seq (sR [mJ 34 11,mJ 35 10,nJ 36 35,bJ 37 .lss 34 36] [1,3,7,8,10,11,37] (cT 37 .skip (.exit 2))) Qaep
def Q8h:SC:=sR [zJ 11 0] [1,3,7,8,10,11] (bL 2 Q40)
def Q8i:SC:=sR (tJ 30 3 3::mJ 31 1::mJ 32 9::aJ 33 T9 [.t 30,.t 31,.t 32]::Qnh) [1,3,7,8,10] Q8h
def Q8j:SC:=.seq (sR (mJ 24 9::mJ 25 1::nJ 26 25::cJ 27 .sub 26 1::aJ 28 AJ [.t 24,kI 0,.t 27]::Qng) [1,3,7,8,9,29] (cT 29 (.exit 1) .skip)) Q8i
def Q8k:SC:=sR [mJ 22 8,fI 23 (.sli 1 (.t 22) (some (kI 1)) none),mJ 8 23] [1,3,7,8,9] Q8j
def Q8l:SC:=.block 1 (sR [mJ 19 8,fI 20 (.iad 1 (.t 19) (kI 0)),lJ 21 20,mJ 9 21] [1,3,7,8,9] Q8k)
def Q41:SC:=.seq (sR [mJ 16 8,nJ 17 16,cJ 18 .gtr 17 0] [1,3,7,8,18] (cT 18 .skip (.exit 0))) Q8l
def Q8m:SC:=sR [mJ 60 7,mJ 6 60] [6] .ret
def Q8n:SC:=sR (fI 13 (.aG 1 [])::mJ 14 2::xJ 15 1 13 14::Qnf) [1,3,7,8] (.seq (bL 0 Q41) Q8m)
def Q8o:SC:=sR [fI 12 (.aG 1 []),mJ 7 12] [1,2,3,7] Q8n
def Qaqm:SC:=sR [vJ 3 0,fI 6 (.mv (.k (.c (.sl true 1 []))))] [1,2,3] Q8o
abbrev Qzo:List RS:=[.tmp 6]
theorem Qaoz:mFn prog TP 3 61 Qaqm Qzo=true:=ZB
def Qa3y:SC:=cT 44 (.reg [mJ 45 6,mJ 5 45] [0,3,4,5,6]) .skip
def Qa3z:SC:=.reg [mJ 18 6,cJ 19 .add 18 1,mJ 6 19] [0,3,4,5,6]
def Qa30:SC:=.seq (.block 3 (sR [mJ 20 6,mJ 21 4,bJ 22 .neq 20 21,mJ 23 22,gTm 24 23 0,gTm 25 23 6,gT 26 23 (.iad 1 (.t 24) (.t 25)),gTl 27 23 26,gTm 28 23 4,gT 29 23 (.iad 1 (.t 27) (.t 28)),gTl 30 23 29,pF 31 23 30,mJ 32 31,gTm 33 32 5,gT 34 32 (.bin 0 .lss (.t 33) (kI 0)),gTm 35 32 34,gFm 36 35 0,gFm 37 35 5,gF 38 35 (.iad 1 (.t 36) (.t 37)),gFl 39 35 38,gFm 40 35 6,gF 41 35 (.iad 1 (.t 39) (.t 40)),gFl 42 35 41,gT 43 32 (.pick (.t 35) (.k (.c (.bool true))) (.t 42)),pF 44 32 43] [0,3,4,5,6,44] Qa3y)) Qa3z
def Qaw0:SC:=.seq (sR [mJ 14 6,mJ 15 0,nJ 16 15,bJ 17 .lss 14 16] [0,3,4,5,6,17] (cT 17 .skip (.exit 2))) Qa30
def Q42:List Item:=[mJ 3 49]
def Qa31:SC:=.reg (mJ 46 3::mJ 47 5::fI 48 (.aG 1 [.t 47])::xJ 49 1 46 48::Q42) [0,3,4]
def Qa32:SC:=.seq (sR [zJ 6 0] [0,3,4,5,6] (bL 2 Qaw0)) Qa31
def Qa33:SC:=.reg [mJ 12 4,cJ 13 .add 12 1,mJ 4 13] [0,3,4]
def Qa34:SC:=.seq (.block 1 (sR [zJ 5 (-1)] [0,3,4,5] Qa32)) Qa33
def Qaw1:SC:=.seq (sR [mJ 8 4,mJ 9 0,nJ 10 9,bJ 11 .lss 8 10] [0,3,4,11] (cT 11 .skip (.exit 0))) Qa34
def Qawx:SC:=sR [mJ 50 3,mJ 2 50] [2] .ret
def Qawy:SC:=.seq (sR [zJ 4 0] [0,3,4] (bL 0 Qaw1)) Qawx
def Qawz:SC:=sR [fI 7 (.aG 1 []),mJ 3 7] [0,3] Qawy
def Qbj4:SC:=sR [fI 2 (.mv (.k (.c (.sl true 1 []))))] [0] Qawz
abbrev Lp:List RS:=[.tmp 2]
theorem Qbje:mFn prog Q03 1 51 Qbj4 Lp=true:=ZB
def Pr:List Item:=[mJ 5 23]
def Qba1:SC:=cT 19 (.reg (mJ 20 5::mJ 21 6::fI 22 (.aG 1 [.t 21])::xJ 23 1 20 22::Pr) [0,1,5,6]) .skip
def Qba2:SC:=.reg [mJ 12 6,cJ 13 .add 12 1,mJ 6 13] [0,1,5,6]
def Qba3:SC:=.seq (.block 1 (sR [mJ 14 0,mJ 15 6,iJ 16 1 14 15,lJ 17 16,mJ 18 1,bJ 19 .eql 17 18] [0,1,5,6,19] Qba1)) Qba2
def Qa35:SC:=.seq (sR [mJ 8 6,mJ 9 0,nJ 10 9,bJ 11 .lss 8 10] [0,1,5,6,11] (cT 11 .skip (.exit 0))) Qba3
def Qba4:SC:=sR [mJ 24 5,mJ 4 24] [4] .ret
def Qba5:SC:=.seq (sR [zJ 6 0] [0,1,5,6] (bL 0 Qa35)) Qba4
def Qba6:SC:=sR [fI 7 (.aG 1 []),mJ 5 7] [0,1,5] Qba5
def Qbqp:SC:=sR [fI 4 (.mv (.k (.c (.sl true 1 []))))] [0,1] Qba6
abbrev PY:List RS:=[.tmp 4]
theorem Qbot:mFn prog Q6u 2 25 Qbqp PY=true:=ZB
def On:List Item:=[mJ 3 11]
def Om:List Item:=[iJ 50 1 40 41,sJ 1 50 49]
def Qbbw:SC:=.reg (mJ 40 3::mJ 41 6::mJ 42 3::mJ 43 6::iJ 44 1 42 43::lJ 45 44::mJ 46 4::fI 47 (.aG 1 [.t 46,kI (-1)])::fI 48 (.aG 1 [.t 47])::xJ 49 1 45 48::Om) [1,3,4,5]
def Qbbx:SC:=.reg [mJ 28 5,cJ 29 .add 28 1,mJ 5 29] [1,3,4,5]
def Qbby:SC:=.seq (.block 3 (sR [fJ 30 2 1,lJ 31 30,mJ 32 4,iJ 33 5 31 32,fJ 34 0 33,lJ 35 34,mJ 36 5,iJ 37 2 35 36,fJ 38 0 37,lJ 39 38,mJ 6 39] [1,3,4,5,6] Qbbw)) Qbbx
def Qa5t:SC:=.seq (sR [mJ 19 5,fJ 20 2 1,lJ 21 20,mJ 22 4,iJ 23 5 21 22,fJ 24 0 23,lJ 25 24,nJ 26 25,bJ 27 .lss 19 26] [1,3,4,5,27] (cT 27 .skip (.exit 2))) Qbby
def Ol:List Item:=[mJ 8 71]
def OO:List Item:=[iJ 85 1 74 75,sJ 1 85 84]
def Qbbz:SC:=cT 73 (.reg (mJ 74 3::mJ 75 8::mJ 76 3::mJ 77 8::iJ 78 1 76 77::lJ 79 78::mJ 80 4::mJ 81 7::fI 82 (.aG 1 [.t 80,.t 81])::fI 83 (.aG 1 [.t 82])::xJ 84 1 79 83::OO) [1,3,4,7]) .skip
def Qbb0:SC:=sR [mJ 72 8,cJ 73 .geq 72 0] [1,3,4,7,8,73] Qbbz
def Qa5l:SC:=.reg [mJ 60 7,cJ 61 .add 60 1,mJ 7 61] [1,3,4,7]
def Qa5m:SC:=.seq (.block 5 (sR (fJ 62 2 1::lJ 63 62::mJ 64 4::iJ 65 5 63 64::fJ 66 1 65::lJ 67 66::mJ 68 7::iJ 69 4 67 68::tJ 70 4 69::aJ 71 RQ [.t 70]::Ol) [1,3,4,7,8] Qbb0)) Qa5l
def Qaxo:SC:=.seq (sR [mJ 51 7,fJ 52 2 1,lJ 53 52,mJ 54 4,iJ 55 5 53 54,fJ 56 1 55,lJ 57 56,nJ 58 57,bJ 59 .lss 51 58] [1,3,4,7,59] (cT 59 .skip (.exit 4))) Qa5m
def Qa5n:SC:=sR [zJ 7 0] [1,3,4,7] (bL 4 Qaxo)
def Qa5o:SC:=.reg [mJ 17 4,cJ 18 .add 17 1,mJ 4 18] [1,3,4]
def Qa5p:SC:=.seq (.block 1 (.seq (sR [zJ 5 0] [1,3,4,5] (bL 2 Qa5t)) Qa5n)) Qa5o
def Qaxp:SC:=.seq (sR [mJ 12 4,fJ 13 2 1,lJ 14 13,nJ 15 14,bJ 16 .lss 12 15] [1,3,4,16] (cT 16 .skip (.exit 0))) Qa5p
def Qa5q:SC:=sR [mJ 86 3,mJ 2 86] [2] .ret
def Qa5r:SC:=.seq (sR [zJ 4 0] [1,3,4] (bL 0 Qaxp)) Qa5q
def Qa5s:SC:=sR (fJ 9 1 1::lJ 10 9::eI 11 (.mks 1 [.sl true 1 []] (.t 10))::On) [1,3] Qa5r
def Qbqw:SC:=sR [vJ 1 0,fI 2 (.mv (.k (.c (.sl true 1 []))))] [1] Qa5s
abbrev PT:List RS:=[.tmp 2]
theorem Qbo0:mFn prog Q60 1 87 Qbqw PT=true:=ZB
def Q44:List Item:=[sJ 3 3 8]
def Q45:List Item:=eI 3 (.alloc [.int .i64 0,.int .i64 0,.sl true 5 []])::Q44
def Q46:List Item:=[fI 11 (.fld 0 1 false (.t 10)),fI 12 (.iad 1 (.t 11) (kI 0)),lJ 13 12,mJ 4 13]
def Q47:List Item:=[mJ 5 32]
def Qa4y:SC:=cT 26 (.reg (mJ 27 5::mJ 28 6::fI 29 (.aG 1 [])::fI 30 (.bld [.int .i64 0,.int .i64 0,.sl true 1 [],.int .i64 0] [(0,1,kI 1),(1,1,.t 28),(2,1,.t 29)])::fI 31 (.aG 4 [.t 30])::xJ 32 4 27 31::Q47) [2,3,4,5,6]) .skip
def Qa4z:SC:=.reg [mJ 21 6,cJ 22 .add 21 1,mJ 6 22] [2,3,4,5,6]
def Qa40:SC:=.seq (.block 1 (sR [mJ 23 4,mJ 24 6,iJ 25 1 23 24,lJ 26 25] [2,3,4,5,6,26] Qa4y)) Qa4z
def Qaxj:SC:=.seq (sR [mJ 17 6,fJ 18 1 3,lJ 19 18,bJ 20 .lss 17 19] [2,3,4,5,6,20] (cT 20 .skip (.exit 0))) Qa40
def Q48:List Item:=[hJ 34 33,fI 42 (.iad 5 (.t 34) (kI 0)),fJ 43 1 42,sJ 1 43 41]
def Qa41:SC:=sR [tJ 44 3 3,sJ 3 2 44] [2] .ret
def Qaxe:SC:=.seq (.aA 12 [0,1,2,3,4,5,6,7,8,1,9,10,11] ( fJ 33 2 3::lJ 34 33::mJ 35 5::fJ 36 2 3::lJ 37 36::fI 38 (.iad 5 (.t 37) (kI 0))::fJ 39 1 38::lJ 40 39::xJ 41 4 35 40::Q48) [2,3]) Qa41
def Qaxf:SC:=.seq (sR [fJ 15 0 3,lJ 16 15,mJ 6 16] [2,3,4,5,6] (bL 0 Qaxj)) Qaxe
def Qaxg:SC:=sR [fI 14 (.aG 4 []),mJ 5 14] [2,3,4,5] Qaxf
def Qaxh:SC:=sR (tJ 9 3 3::aJ 10 Rz [.t 9]::Q46) [2,3,4] Qaxg
def Qaxi:SC:=sR (tJ 7 3 1::aJ 8 R7 [.t 7]::Q45) [2,3] Qaxh
def Qbj6:SC:=sR [vJ 1 0,eI 2 (.alloc [.int .i64 0,.int .i64 0,.sl true 5 []])] [1,2] Qaxi
abbrev Ln:List RS:=[.cell 2 3 true]
theorem Qbjf:mFn prog Q04 1 45 Qbj6 Ln=true:=ZB
def Ox:List Item:=[sJ 3 3 14]
def Ow:List Item:=eI 3 (.alloc [.int .i64 0,.int .i64 0,.sl true 5 []])::Ox
def Ov:List Item:=[mJ 4 16]
def Ou:List Item:=[sJ 2 5 18]
def Ot:List Item:=eI 5 (.alloc [.sl true 1 [],.sl true 1 []])::Ou
def Oq:List Item:=[mJ 6 20]
def Qbbt:SC:=cT 32 (.reg [fI 33 (.aG 1 [kI 0]),mJ 8 33] [1,2,3,4,5,6,7,8]) .skip
def Oo:List Item:=[mJ 8 53]
def Qbbu:SC:=.reg [mJ 41 9,cJ 42 .add 41 1,mJ 9 42] [1,2,3,4,5,6,7,8,9]
def Qbbv:SC:=.seq (.block 3 (.reg (mJ 43 8::mJ 44 6::mJ 45 7::iJ 46 1 44 45::lJ 47 46::mJ 48 9::iJ 49 1 47 48::lJ 50 49::fI 51 (.iad 1 (.t 50) (kI 0))::lJ 52 51::aJ 53 GN [.t 43,.t 52]::Oo) [1,2,3,4,5,6,7,8,9])) Qbbu
def Qaxk:SC:=.seq (sR [mJ 34 9,mJ 35 6,mJ 36 7,iJ 37 1 35 36,lJ 38 37,nJ 39 38,bJ 40 .lss 34 39] [1,2,3,4,5,6,7,8,9,40] (cT 40 .skip (.exit 2))) Qbbv
def Q5h:List Item:=[mJ 10 57]
def Q5i:List Item:=[sJ 2 12 78]
def Q5j:List Item:=[nJ 85 84]
def Q5k:List Item:=[fJ 93 1 12,sJ 1 93 92]
def Qa42:SC:=.reg [cJ 94 .add 86 1,mJ 86 94] [1,2,3,4,5,6,7,10,11,12,85,86]
def Qa43:SC:=.seq (.block 7 (.reg (fJ 88 1 12::lJ 89 88::mJ 90 7::fI 91 (.aG 1 [.t 90])::xJ 92 1 89 91::Q5k) [1,2,3,4,5,6,7,10,11,12,85,86])) Qa42
def Qaxl:SC:=sR [bJ 87 .lss 86 85] [1,2,3,4,5,6,7,10,11,12,85,86,87] (cX 87 6 Qa43)
def Q5l:List Item:=[hJ 96 95,.chk 99 none (.iad 1 (.t 97) (.t 98)),hJ 100 99,iJ 113 5 96 100,fJ 114 0 113,sJ 1 114 112]
def Q5m:List Item:=hJ 96 95::.chk 99 none (.iad 1 (.t 97) (.t 98))::hJ 100 99::hJ 104 103::.chk 107 none (.iad 1 (.t 105) (.t 106))::hJ 108 107::.chk 109 none (.iad 5 (.t 104) (.t 108))::hJ 111 110::xJ 112 2 102 111::Q5l
def Qa44:SC:=.aA 21 [0,1,2,3,4,5,6,8,9,10,11,12,13,14,15,16,7,1,4,5,9,12,13,14,16,17,1,4,5,18,19,20] ( fJ 95 2 3::lJ 96 95::mJ 97 10::mJ 98 11::iJ 99 1 97 98::lJ 100 99::tJ 101 2 12::fJ 103 2 3::lJ 104 103::mJ 105 10::mJ 106 11::iJ 107 1 105 106::lJ 108 107::iJ 109 5 104 108::fJ 110 0 109::lJ 111 110::eI 102 (.bslm 2 [.t 101])::Q5m) [1,2,3,4,5,6,7,10,11]
def Qa45:SC:=.seq (.seq (.aA 8 [0,1,2,3,4,7,5,6] ( tJ 79 3 1::mJ 80 10::mJ 81 11::iJ 82 1 80 81::lJ 83 82::zJ 86 0::aJ 84 C8 [.t 79,.t 83]::Q5j) [1,2,3,4,5,6,7,10,11,12,85,86]) (bL 6 Qaxl)) Qa44
def Qa46:SC:=sR (mJ 76 7::fI 77 (.aG 1 [])::fI 78 (.bld [.int .i64 0,.sl true 1 []] [(0,1,.t 76),(1,1,.t 77)])::eI 12 (.alloc [.int .i64 0,.sl true 1 []])::Q5i) [1,2,3,4,5,6,7,10,11,12] Qa45
def Qa47:SC:=.reg [mJ 62 11,cJ 63 .add 62 1,mJ 11 63] [1,2,3,4,5,6,7,10,11]
def Qa48:SC:=.seq (.block 5 (.seq (.seq (.aA 12 [0,1,2,3,4,5,6,7,8,9,10,11] ( fJ 64 0 5::lJ 65 64::mJ 66 10::mJ 67 11::iJ 68 1 66 67::lJ 69 68::iJ 70 1 65 69::lJ 71 70::mJ 72 7::iJ 73 1 71 72::lJ 74 73::oJ 75 74::[]) [1,2,3,4,5,6,7,10,11,75]) (cT 75 (.exit 5) .skip)) Qa46)) Qa47
def Qaxm:SC:=.seq (sR [mJ 58 11,mJ 59 10,nJ 60 59,bJ 61 .lss 58 60] [1,2,3,4,5,6,7,10,11,61] (cT 61 .skip (.exit 4))) Qa48
def Qa49:SC:=sR [zJ 11 0] [1,2,3,4,5,6,7,10,11] (bL 4 Qaxm)
def Qa5a:SC:=sR (tJ 54 3 1::mJ 55 4::mJ 56 8::aJ 57 TP [.t 54,.t 55,.t 56]::Q5h) [1,2,3,4,5,6,7,10] Qa49
def Qa5b:SC:=.seq (sR [zJ 9 0] [1,2,3,4,5,6,7,8,9] (bL 2 Qaxk)) Qa5a
def Qa5c:SC:=.seq (sR [mJ 29 7,fJ 30 0 1,lJ 31 30,bJ 32 .lss 29 31] [1,2,3,4,5,6,7,8,32] Qbbt) Qa5b
def Qa5d:SC:=.reg [mJ 26 7,cJ 27 .sub 26 1,mJ 7 27] [1,2,3,4,5,6,7]
def Qa5e:SC:=.seq (.block 1 (sR [fI 28 (.aG 1 []),mJ 8 28] [1,2,3,4,5,6,7,8] Qa5c)) Qa5d
def Qaxn:SC:=.seq (sR [mJ 24 7,cJ 25 .geq 24 0] [1,2,3,4,5,6,7,25] (cT 25 .skip (.exit 0))) Qa5e
def Qa5f:SC:=sR [tJ 115 3 3,sJ 3 2 115] [2] .ret
def Qa5g:SC:=.seq (sR [fJ 21 1 1,lJ 22 21,cJ 23 .sub 22 1,mJ 7 23] [1,2,3,4,5,6,7] (bL 0 Qaxn)) Qa5f
def Qa5h:SC:=sR (tJ 19 3 1::aJ 20 Q60 [.t 19]::Oq) [1,2,3,4,5,6] Qa5g
def Qa5i:SC:=sR (tJ 17 3 1::aJ 18 Rz [.t 17]::Ot) [1,2,3,4,5] Qa5h
def Qa5j:SC:=sR (tJ 15 3 1::aJ 16 R0 [.t 15]::Ov) [1,2,3,4] Qa5i
def Qa5k:SC:=sR (tJ 13 3 1::aJ 14 Eo [.t 13]::Ow) [1,2,3] Qa5j
def Qbqv:SC:=sR [vJ 1 0,eI 2 (.alloc [.int .i64 0,.int .i64 0,.sl true 5 []])] [1,2] Qa5k
abbrev PU:List RS:=[.cell 2 3 true]
theorem Qboz:mFn prog Q6z 1 116 Qbqv PU=true:=ZB
def Q5f:SC:=sR [mJ 11 0,kJ 12 11,fJ 13 7 12,lJ 14 13,cJ 15 .sub 14 1,mJ 2 15] [2] .ret
def Q5g:SC:=sR [mJ 3 0,mJ 4 0,kJ 5 4,fJ 6 7 5,lJ 7 6,cJ 8 .add 7 1,kJ 9 3,fJ 10 7 9,sJ 1 10 8] [0] Q5f
def Qaer:SC:=sR [zJ 2 0] [0] Q5g
abbrev Qpj:List RS:=[.tmp 2]
theorem Qadj:mFn prog Sw 1 16 Qaer Qpj=true:=ZB
def Qjm:List Item:=[hJ 37 36,iJ 41 2 37 38,fJ 42 0 41,sJ 1 42 40]
def Q49:SC:=.reg [mJ 32 7,cJ 33 .add 32 1,mJ 7 33] [0,1,2,6,7]
def Q5a:SC:=.seq (.block 1 (.aA 10 [0,1,2,3,4,5,6,3,7,8,9] ( mJ 34 6::kJ 35 34::fJ 36 0 35::lJ 37 36::mJ 38 7::mJ 39 0::aJ 40 Sw [.t 39]::Qjm) [0,1,2,6,7])) Q49
def Q2e:SC:=.seq (sR [mJ 25 7,mJ 26 6,kJ 27 26,fJ 28 0 27,lJ 29 28,nJ 30 29,bJ 31 .lss 25 30] [0,1,2,6,7,31] (cT 31 .skip (.exit 0))) Q5a
def Q5b:SC:=.reg [mJ 50 8,cJ 51 .add 50 1,mJ 8 51] [0,1,2,6,8]
def Q5c:SC:=.seq (.block 3 (.aA 24 [0,1,2,3,4,5,6,7,8,9,10,11,12,13,14,15,16,17,18,19,20,21,22,23] ( mJ 52 2::mJ 53 0::kJ 54 53::fJ 55 0 54::fJ 56 2 55::lJ 57 56::mJ 58 1::iJ 59 5 57 58::fJ 60 0 59::lJ 61 60::mJ 62 8::iJ 63 2 61 62::fJ 64 0 63::lJ 65 64::mJ 66 6::kJ 67 66::fJ 68 0 67::lJ 69 68::mJ 70 8::iJ 71 2 69 70::fJ 72 0 71::lJ 73 72::iJ 74 1 52 65::sJ 1 74 73::[]) [0,1,2,6,8])) Q5b
def Q2f:SC:=.seq (sR [mJ 43 8,mJ 44 6,kJ 45 44,fJ 46 0 45,lJ 47 46,nJ 48 47,bJ 49 .lss 43 48] [0,1,2,6,8,49] (cT 49 .skip (.exit 2))) Q5c
def Q5d:SC:=.reg [mJ 95 10,cJ 96 .add 95 1,mJ 10 96] [0,1,2,6,9,10]
def Q5e:SC:=.seq (.block 7 (.aA 25 [0,1,2,3,4,5,6,7,8,9,10,11,12,13,14,15,16,17,18,19,20,21,22,23,24] ( mJ 97 6::kJ 98 97::fJ 99 1 98::lJ 100 99::mJ 101 9::iJ 102 4 100 101::fJ 103 2 102::lJ 104 103::mJ 105 10::mJ 106 2::mJ 107 6::kJ 108 107::fJ 109 1 108::lJ 110 109::mJ 111 9::iJ 112 4 110 111::fJ 113 2 112::lJ 114 113::mJ 115 10::iJ 116 1 114 115::lJ 117 116::iJ 118 1 106 117::lJ 119 118::iJ 120 1 104 105::sJ 1 120 119::[]) [0,1,2,6,9,10])) Q5d
def Q2g:SC:=.seq (sR [mJ 84 10,mJ 85 6,kJ 86 85,fJ 87 1 86,lJ 88 87,mJ 89 9,iJ 90 4 88 89,fJ 91 2 90,lJ 92 91,nJ 93 92,bJ 94 .lss 84 93] [0,1,2,6,9,10,94] (cT 94 .skip (.exit 6))) Q5e
def Qhn:List Item:=[mJ 11 131]
def Q1y:SC:=.reg [mJ 143 6,kJ 144 143,fJ 145 1 144,lJ 146 145,mJ 147 9,mJ 148 11,iJ 149 4 146 147,fJ 150 1 149,sJ 1 150 148] [0,1,2,6,9]
def Q1z:SC:=sR [mJ 132 2,mJ 133 6,kJ 134 133,fJ 135 1 134,lJ 136 135,mJ 137 9,iJ 138 4 136 137,fJ 139 1 138,lJ 140 139,mJ 141 11,iJ 142 1 132 140,sJ 1 142 141] [0,1,2,6,9,11] Q1y
def Q10:SC:=cT 129 (sR (mJ 130 0::aJ 131 Sw [.t 130]::Qhn) [0,1,2,6,9,11] Q1z) .skip
def Q11:SC:=sR [mJ 121 6,kJ 122 121,fJ 123 1 122,lJ 124 123,mJ 125 9,iJ 126 4 124 125,fJ 127 0 126,lJ 128 127,aJ 129 Eu [.t 128]] [0,1,2,6,9,129] Q10
def Q12:SC:=.reg [mJ 82 9,cJ 83 .add 82 1,mJ 9 83] [0,1,2,6,9]
def Q13:SC:=.seq (.block 5 (.seq (sR [zJ 10 0] [0,1,2,6,9,10] (bL 6 Q2g)) Q11)) Q12
def Qy1:SC:=.seq (sR [mJ 75 9,mJ 76 6,kJ 77 76,fJ 78 1 77,lJ 79 78,nJ 80 79,bJ 81 .lss 75 80] [0,1,2,6,9,81] (cT 81 .skip (.exit 4))) Q13
def Q14:SC:=cT 155 (.reg [mJ 156 6,mJ 157 2,mJ 158 6,kJ 159 158,fJ 160 3 159,lJ 161 160,iJ 162 1 157 161,lJ 163 162,kJ 164 156,fJ 165 3 164,sJ 1 165 163] [0,1,2,6]) .skip
def Qho:List Item:=[mJ 14 189]
def Qhp:List Item:=mJ 188 1::aJ 189 En [.t 187,.t 188]::Qho
def Q15:SC:=.reg [mJ 202 15,cJ 203 .add 202 1,mJ 15 203] [0,1,2,6,12,13,14,15]
def Q16:SC:=.seq (.block 11 (.aA 35 [0,1,2,3,4,5,6,7,8,9,10,11,12,13,14,15,16,17,18,19,20,21,22,23,24,25,26,27,28,29,30,31,32,33,34] ( mJ 204 0::kJ 205 204::fJ 206 3 205::fJ 207 2 206::lJ 208 207::mJ 209 13::iJ 210 5 208 209::fJ 211 0 210::lJ 212 211::mJ 213 15::iJ 214 2 212 213::fJ 215 1 214::lJ 216 215::mJ 217 14::mJ 218 2::mJ 219 0::kJ 220 219::fJ 221 0 220::fJ 222 2 221::lJ 223 222::mJ 224 13::iJ 225 5 223 224::fJ 226 0 225::lJ 227 226::mJ 228 15::iJ 229 2 227 228::fJ 230 1 229::lJ 231 230::mJ 232 14::iJ 233 1 231 232::lJ 234 233::iJ 235 1 218 234::lJ 236 235::iJ 237 1 216 217::sJ 1 237 236::[]) [0,1,2,6,12,13,14,15])) Q15
def Qy2:SC:=.seq (sR [mJ 190 15,mJ 191 0,kJ 192 191,fJ 193 0 192,fJ 194 2 193,lJ 195 194,mJ 196 13,iJ 197 5 195 196,fJ 198 0 197,lJ 199 198,nJ 200 199,bJ 201 .lss 190 200] [0,1,2,6,12,13,14,15,201] (cT 201 .skip (.exit 10))) Q16
def Q17:SC:=sR [zJ 15 0] [0,1,2,6,12,13,14,15] (bL 10 Qy2)
def Q18:SC:=sR (mJ 182 0::kJ 183 182::fJ 184 0 183::tJ 185 3 184::mJ 186 13::aJ 187 C8 [.t 185,.t 186]::Qhp) [0,1,2,6,12,13,14] Q17
def Q19:SC:=.reg [mJ 173 12,cJ 174 .add 173 1,mJ 12 174] [0,1,2,6,12]
def Q2a:SC:=.seq (.block 9 (sR [mJ 175 6,kJ 176 175,fJ 177 4 176,lJ 178 177,mJ 179 12,iJ 180 1 178 179,lJ 181 180,mJ 13 181] [0,1,2,6,12,13] Q18)) Q19
def Qy3:SC:=.seq (sR [mJ 166 12,mJ 167 6,kJ 168 167,fJ 169 4 168,lJ 170 169,nJ 171 170,bJ 172 .lss 166 171] [0,1,2,6,12,172] (cT 172 .skip (.exit 8))) Q2a
def Qhq:List Item:=[mJ 16 243]
def Qhr:List Item:=[.chk 253 none (.iad 1 (.t 251) (.t 252)),hJ 254 253,aJ 258 Sz [.t 250,.t 254,.t 257]]
def Q2b:SC:=.reg [mJ 248 17,cJ 249 .add 248 1,mJ 17 249] [0,2,16,17]
def Q2c:SC:=.seq (.block 13 (.aA 9 [0,1,2,3,4,5,6,7,3,4,8] ( mJ 250 0::mJ 251 16::mJ 252 17::iJ 253 1 251 252::lJ 254 253::fI 255 (.aG 1 [])::mJ 256 2::xJ 257 1 255 256::Qhr) [0,2,16,17])) Q2b
def Qy4:SC:=.seq (sR [mJ 244 17,mJ 245 16,nJ 246 245,bJ 247 .lss 244 246] [0,2,16,17,247] (cT 247 .skip (.exit 12))) Q2c
def Q2d:SC:=sR [zJ 17 0] [0,2,16,17] (bL 12 Qy4)
def Qjk:SC:=sR (mJ 238 0::kJ 239 238::fJ 240 6 239::lJ 241 240::mJ 242 1::aJ 243 Q6u [.t 241,.t 242]::Qhq) [0,2,16] Q2d
def V0:SC:=.seq (sR [zJ 12 0] [0,1,2,6,12] (bL 8 Qy3)) Qjk
def Vz:SC:=.seq (sR [mJ 151 6,kJ 152 151,fJ 153 2 152,lJ 154 153,cJ 155 .neq 154 1] [0,1,2,6,155] Q14) V0
def Vy:SC:=.seq (sR [zJ 9 0] [0,1,2,6,9] (bL 4 Qy1)) Vz
def Vx:SC:=.seq (sR [zJ 8 0] [0,1,2,6,8] (bL 2 Q2f)) Vy
def Qjl:SC:=.seq (sR [zJ 7 0] [0,1,2,6,7] (bL 0 Q2e)) Vx
def Qaeq:SC:=sR [mJ 18 0,kJ 19 18,fJ 20 3 19,fJ 21 2 20,lJ 22 21,mJ 23 1,iJ 24 5 22 23,mJ 6 24] [0,1,2,6] Qjl
abbrev Qpi:List RS:=[]
theorem Qadi:mFn prog Sz 3 259 Qaeq Qpi=true:=ZB
def Qz7:List Item:=[sJ 3 3 9]
def Qz8:List Item:=eI 3 (.alloc [.int .i64 0,.int .i64 0,.sl true 5 []])::Qz7
def Qz9:List Item:=aJ 9 Q6z [.t 8]::Qz8
def Q0a:List Item:=[mJ 4 19]
def Q0b:List Item:=.chk 10 none (.ld 3 true (.t 3))::hJ 17 16::fI 18 (.bld [.int .i64 0,.int .i64 0,.sl true 5 [],.int .i64 0,.int .i64 0,.sl true 5 [],.sl true 1 [],.int .i64 0] [(0,3,.t 10),(3,3,.t 12),(6,1,.t 15),(7,1,.t 17)])::eI 19 (.boxm (.t 18))::Q0a
def Q0c:List Item:=.chk 10 none (.ld 3 true (.t 3))::hJ 17 16::aJ 15 Q03 [.t 14]::Q0b
def Q0d:List Item:=.chk 10 none (.ld 3 true (.t 3))::.chk 13 none (.ld 3 true (.t 3))::hJ 17 16::aJ 14 R0 [.t 13]::Q0c
def Q0e:List Item:=[mJ 5 22]
def Qaxq:SC:=.reg [mJ 27 6,cJ 28 .add 27 1,mJ 6 28] [1,2,4,5,6]
def Qaxr:SC:=.seq (.block 1 (.reg [mJ 29 5,mJ 30 6,mJ 31 6,iJ 32 1 29 30,sJ 1 32 31] [1,2,4,5,6])) Qaxq
def Qajx:SC:=.seq (sR [mJ 23 6,fJ 24 0 1,lJ 25 24,bJ 26 .lss 23 25] [1,2,4,5,6,26] (cT 26 .skip (.exit 0))) Qaxr
def Qaqv:SC:=sR [mJ 44 4,kJ 45 44,fJ 46 3 45,tJ 47 3 46,sJ 3 2 47] [2] .ret
def Qaqw:SC:=sR [mJ 36 4,mJ 37 4,kJ 38 37,fJ 39 7 38,lJ 40 39,kJ 41 36,fJ 42 3 41,fJ 43 1 42,sJ 1 43 40] [2,4] Qaqv
def Qaqx:SC:=sR [mJ 33 4,mJ 34 5,aJ 35 Sz [.t 33,kI 0,.t 34]] [2,4] Qaqw
def Qaqy:SC:=.seq (sR [zJ 6 0] [1,2,4,5,6] (bL 0 Qajx)) Qaqx
def Qaqz:SC:=sR (fJ 20 1 3::lJ 21 20::eI 22 (.mks 1 [.int .i64 0] (.t 21))::Q0e) [1,2,4,5] Qaqy
def Qaq0:SC:=.seq (.aA 11 [0,1,3,6,7,2,0,3,7,4,0,7,5,0,7,8,9,10] ( tJ 10 3 3::tJ 11 3 3::tJ 13 3 3::fJ 16 0 1::lJ 17 16::aJ 12 Eo [.t 11]::Q0d) [1,2,3,4]) Qaqz
def Qaq1:SC:=sR (tJ 7 3 1::aJ 8 Q04 [.t 7]::Qz9) [1,2,3] Qaq0
def Qbb1:SC:=sR [vJ 1 0,eI 2 (.alloc [.int .i64 0,.int .i64 0,.sl true 5 []])] [1,2] Qaq1
abbrev Nl:List RS:=[.cell 2 3 true]
theorem Qa9j:mFn prog SQ 1 48 Qbb1 Nl=true:=ZB
def Qa27:List Item:=[sJ 3 4 9]
def Qa28:List Item:=[sJ 3 4 15]
def Qa29:List Item:=.chk 12 none (.ld 3 true (.t 2))::aJ 15 R6 [.t 12,.t 14]::Qa28
def Qa3a:List Item:=[sJ 3 4 19]
def Qa3b:List Item:=[sJ 3 4 23]
def OQ:List Item:=[sJ 3 4 27]
def Qa3c:List Item:=[sJ 3 4 31]
def Qa3d:List Item:=[sJ 3 4 35]
def Qa3e:List Item:=[sJ 3 4 39]
def Qa3f:List Item:=[sJ 3 4 43]
def Qawr:List Item:=[sJ 3 4 47]
def Qaws:List Item:=[sJ 3 4 51]
def Qa2t:SC:=cT 48 (sR (tJ 50 3 2::aJ 51 Qbix [.t 50]::Qaws) [4] .ret) .skip
def Qa2u:SC:=cT 44 (sR (tJ 46 3 2::aJ 47 Qbiy [.t 46]::Qawr) [4] .ret) (sR [fI 49 (.bin 0 .eql (.t 5) (.k (.c (.str [106,111,105,110])))),mJ 48 49] [2,4,48] Qa2t)
def Qa2v:SC:=cT 40 (sR (tJ 42 3 2::aJ 43 Qbiw [.t 42]::Qa3f) [4] .ret) (sR [fI 45 (.bin 0 .eql (.t 5) (.k (.c (.str [115,107,105,112])))),mJ 44 45] [2,4,5,44] Qa2u)
def Qa2w:SC:=cT 36 (sR (tJ 38 3 2::aJ 39 Qa8x [.t 38]::Qa3e) [4] .ret) (sR [fI 41 (.bin 0 .eql (.t 5) (.k (.c (.str [101,118,101,110])))),mJ 40 41] [2,4,5,40] Qa2v)
def Qa2x:SC:=cT 32 (sR (tJ 34 3 2::aJ 35 Qa8w [.t 34]::Qa3d) [4] .ret) (sR [fI 37 (.bin 0 .eql (.t 5) (.k (.c (.str [104,111,105,115,116])))),mJ 36 37] [2,4,5,36] Qa2w)
def Qa2y:SC:=cT 28 (sR (tJ 30 3 2::aJ 31 Qbnc [.t 30]::Qa3c) [4] .ret) (sR [fI 33 (.bin 0 .eql (.t 5) (.k (.c (.str [115,104,97,114,101])))),mJ 32 33] [2,4,5,32] Qa2x)
def Qa2z:SC:=cT 24 (sR (tJ 26 3 2::aJ 27 SQ [.t 26]::OQ) [4] .ret) (sR [fI 29 (.bin 0 .eql (.t 5) (.k (.c (.str [107,110,111,119,110])))),mJ 28 29] [2,4,5,28] Qa2y)
def Qa20:SC:=cT 20 (sR (tJ 22 3 2::aJ 23 Qbiv [.t 22]::Qa3b) [4] .ret) (sR [fI 25 (.bin 0 .eql (.t 5) (.k (.c (.str [115,105,110,103,108,101])))),mJ 24 25] [2,4,5,24] Qa2z)
def Qa21:SC:=cT 16 (sR (tJ 18 3 2::aJ 19 Qa8v [.t 18]::Qa3a) [4] .ret) (sR [fI 21 (.bin 0 .eql (.t 5) (.k (.c (.str [105,100,108,101])))),mJ 20 21] [2,4,5,20] Qa20)
def Qa22:SC:=cT 10 (.seq (.aA 5 [0,1,2,0,3,4] ( tJ 12 3 2::tJ 13 3 2::aJ 14 HK [.t 13]::Qa29) [4]) .ret) (sR [fI 17 (.bin 0 .eql (.t 5) (.k (.c (.str [115,112,108,105,116])))),mJ 16 17] [2,4,5,16] Qa21)
def Qa23:SC:=cT 6 (sR (tJ 8 3 2::aJ 9 R7 [.t 8]::Qa27) [4] .ret) (sR [fI 11 (.bin 0 .eql (.t 5) (.k (.c (.str [111,114,100,101,114])))),mJ 10 11] [2,4,5,10] Qa22)
def Qa24:SC:=.block 0 (sR [fI 7 (.bin 0 .eql (.t 5) (.k (.c (.str [114,101,97,99,104])))),mJ 6 7] [2,4,5,6] Qa23)
def Qawt:List Item:=[sJ 3 4 53]
def Qa25:SC:=sR (tJ 52 3 2::aJ 53 Qa8y [.t 52]::Qawt) [4] .ret
def Qa26:SC:=.seq (sR [mJ 5 1] [2,4,5] Qa24) Qa25
def Qbqm:SC:=sR [vJ 2 0,eI 4 (.alloc [.int .i64 0,.int .i64 0,.sl true 5 []])] [1,2,4] Qa26
abbrev Ra:List RS:=[.cell 4 3 true]
theorem Qboq:mFn prog Q6t 2 54 Qbqm Ra=true:=ZB
def Pe:List Item:=[fB 5 false]
def Pd:List Item:=[oJ 10 9]
def Pc:List Item:=[fB 5 false]
def Qbad:SC:=cT 10 (sR (fI 11 (.bld [.sl true 3 []] [])::sJ 1 4 11::Pc) [4,5] .ret) .skip
def Pb:List Item:=[sJ 1 6 12]
def Pa:List Item:=[fJ 31 0 6,sJ 1 31 30]
def OZ:List Item:=hJ 21 20::fI 29 (.aG 3 [.t 28])::xJ 30 3 21 29::Pa
def Qbae:SC:=.reg [mJ 18 7,cJ 19 .add 18 1,mJ 7 19] [1,2,4,6,7]
def Qbaf:SC:=.seq (.block 1 (.aA 13 [0,1,2,3,4,5,6,7,8,1,9,10,11,12] ( fJ 20 0 6::lJ 21 20::fJ 22 0 2::lJ 23 22::mJ 24 7::iJ 25 3 23 24::tJ 26 3 25::mJ 27 1::aJ 28 Q6t [.t 26,.t 27]::OZ) [1,2,4,6,7])) Qbae
def Qa1w:SC:=.seq (sR [mJ 13 7,fJ 14 0 2,lJ 15 14,nJ 16 15,bJ 17 .lss 13 16] [1,2,4,6,7,17] (cT 17 .skip (.exit 0))) Qbaf
def Q4n:List Item:=[oJ 34 33]
def Q4o:List Item:=[fB 5 false]
def Qa1q:SC:=cT 34 (sR (fI 35 (.bld [.sl true 3 []] [])::sJ 1 4 35::Q4o) [4,5] .ret) .skip
def Q4p:List Item:=[fB 5 true]
def Qa1r:SC:=sR (tJ 36 1 6::sJ 1 4 36::Q4p) [4,5] .ret
def Qa1s:SC:=.seq .gh (.seq (sR (tJ 32 1 6::aJ 33 DC [.t 32]::Q4n) [4,6,34] Qa1q) Qa1r)
def Qa1t:SC:=.seq (sR [zJ 7 0] [1,2,4,6,7] (bL 0 Qa1w)) Qa1s
def Qa1u:SC:=sR (fI 12 (.bld [.sl true 3 []] [])::eI 6 (.alloc [.sl true 3 []])::Pb) [1,2,4,6] Qa1t
def Qa1v:SC:=.seq (sR (tJ 8 1 2::aJ 9 DC [.t 8]::Pd) [1,2,4,10] Qbad) Qa1u
def Qbqj:SC:=sR (vJ 2 0::eI 4 (.alloc [.sl true 3 []])::Pe) [1,2,4] Qa1v
abbrev S9:List RS:=[.cell 4 1 true,.tmp 5]
theorem Qbon:mFn prog Q6r 2 37 Qbqj S9=true:=ZB
def Qk4:List Item:=[fB 3 false]
def Qk5:List Item:=[mJ 3 7]
def Qk6:List Item:=fI 6 (.ext (.t 5) 0)::fI 7 (.ext (.t 5) 1)::sJ 1 2 6::Qk5
def Q9i:SC:=sR (tJ 4 1 1::eI 5 (.call Q6r [.t 4,.k (.c (.str [115,105,110,103,108,101]))])::Qk6) [2,3] .ret
def Qaoc:SC:=sR (vJ 1 0::eI 2 (.alloc [.sl true 3 []])::Qk4) [1,2] Q9i
abbrev Qtp:List RS:=[.cell 2 1 true,.tmp 3]
theorem Qahq:mFn prog Vg 1 8 Qaoc Qtp=true:=ZB
def O1:List Item:=[mJ 4 10]
def O0:List Item:=sJ 1 3 9::O1
def Oz:List Item:=mJ 5 8::fI 9 (.ext (.t 5) 0)::fI 10 (.ext (.t 5) 1)::eI 3 (.alloc [.sl true 3 []])::O0
def Oy:List Item:=aJ 8 Vg [.t 7]::Oz
def Qbbp:SC:=cT 12 (sR [fI 13 (.aG 1 []),fI 14 (.bld [.int .i64 0,.int .i64 0,.sl true 1 [],.int .i64 0] [(0,1,kI 1),(2,1,.t 13)]),fI 15 (.aG 4 [.t 14]),fI 16 (.bld [.sl true 2 [],.sl true 4 [],.int .i64 0,.int .i64 0,.sl true 1 []] [(1,1,.t 15),(2,1,kI 3)]),fI 17 (.aG 5 [.t 16]),fI 18 (.bld [.int .i64 0,.int .i64 0,.sl true 5 []] [(1,1,kI 1),(2,1,.t 17)]),fI 19 (.aG 3 [.t 18]),fI 20 (.bld [.sl true 3 []] [(0,1,.t 19)]),sJ 1 2 20] [2] .ret) .skip
def Qbbq:SC:=sR [tJ 21 1 3,sJ 1 2 21] [2] .ret
def Qbbr:SC:=.seq (sR [mJ 11 4,oJ 12 11] [2,3,12] Qbbp) Qbbq
def Qbbs:SC:=sR (mJ 6 0::aJ 7 R5 [.t 6]::Oy) [2,3,4] Qbbr
def Qbqu:SC:=sR [eI 2 (.alloc [.sl true 3 []])] [0,2] Qbbs
abbrev FI:List RS:=[.cell 2 1 true]
theorem Qboy:mFn prog Q6y 1 22 Qbqu FI=true:=ZB
def O5:List Item:=[cJ 5 .eql 4 0]
def O4:List Item:=[sJ 1 2 7]
def Qbbm:SC:=cT 5 (sR (mJ 6 0::aJ 7 HD [.t 6]::O4) [2] .ret) .skip
def O3:List Item:=[sJ 1 2 9]
def Qbbn:SC:=sR (mJ 8 0::aJ 9 Q6y [.t 8]::O3) [2] .ret
def Qbbo:SC:=.seq (sR (mJ 3 0::aJ 4 Qv [.t 3,kI 8]::O5) [0,2,5] Qbbm) Qbbn
def Qbqt:SC:=sR [eI 2 (.alloc [.sl true 3 []])] [0,2] Qbbo
abbrev FJ:List RS:=[.cell 2 1 true]
theorem Qbox:mFn prog Q6x 1 10 Qbqt FJ=true:=ZB
def Q0f:List Item:=[cJ 5 .eql 4 0]
def Q0g:List Item:=[sJ 1 2 7]
def Qaxs:SC:=cT 5 (sR (mJ 6 0::aJ 7 Q6x [.t 6]::Q0g) [2] .ret) .skip
def Q0h:List Item:=[sJ 1 2 9]
def Qaxt:SC:=sR (mJ 8 0::aJ 9 HD [.t 8]::Q0h) [2] .ret
def Qaxu:SC:=.seq (sR (mJ 3 0::aJ 4 Qv [.t 3,kI 3]::Q0f) [0,2,5] Qaxs) Qaxt
def Qbb2:SC:=sR [eI 2 (.alloc [.sl true 3 []])] [0,2] Qaxu
abbrev Q1b:List RS:=[.cell 2 1 true]
theorem Qa9k:mFn prog SP 1 10 Qbb2 Q1b=true:=ZB
def Qkz:List Item:=[oJ 13 12]
def Q8w:SC:=cT 13 (sR [mJ 14 5,mJ 4 14] [4] .ret) .skip
def Qk0:List Item:=[sJ 3 6 19]
def Qk1:List Item:=[mJ 5 54]
def Q8x:SC:=cT 48 (.reg (mJ 49 5::mJ 50 7::mJ 51 8::fI 52 (.aG 1 [.t 50,.t 51])::fI 53 (.aG 1 [.t 52])::xJ 54 1 49 53::Qk1) [5,6,7,8]) .skip
def Q8y:SC:=.reg [mJ 36 8,cJ 37 .add 36 1,mJ 8 37] [5,6,7,8]
def Q8z:SC:=.seq (.block 3 (sR [fJ 38 2 6,lJ 39 38,mJ 40 7,iJ 41 5 39 40,fJ 42 1 41,lJ 43 42,mJ 44 8,iJ 45 4 43 44,fJ 46 0 45,lJ 47 46,cJ 48 .eql 47 14] [5,6,7,8,48] Q8x)) Q8y
def Q55:SC:=.seq (sR [mJ 27 8,fJ 28 2 6,lJ 29 28,mJ 30 7,iJ 31 5 29 30,fJ 32 1 31,lJ 33 32,nJ 34 33,bJ 35 .lss 27 34] [5,6,7,8,35] (cT 35 .skip (.exit 2))) Q8z
def Q80:SC:=.reg [mJ 25 7,cJ 26 .add 25 1,mJ 7 26] [5,6,7]
def Q81:SC:=.seq (.block 1 (sR [zJ 8 0] [5,6,7,8] (bL 2 Q55))) Q80
def Q2p:SC:=.seq (sR [mJ 20 7,fJ 21 2 6,lJ 22 21,nJ 23 22,bJ 24 .lss 20 23] [5,6,7,24] (cT 24 .skip (.exit 0))) Q81
def Q50:SC:=sR [mJ 55 5,mJ 4 55] [4] .ret
def Q51:SC:=.seq (sR [zJ 7 0] [5,6,7] (bL 0 Q2p)) Q50
def Q52:SC:=sR (fJ 15 0 2::lJ 16 15::mJ 17 1::iJ 18 3 16 17::tJ 19 3 18::eI 6 (.alloc [.int .i64 0,.int .i64 0,.sl true 5 []])::Qk0) [5,6] Q51
def Q53:SC:=.seq (sR (tJ 10 1 2::mJ 11 1::aJ 12 FS [.t 10,.t 11]::Qkz) [1,2,5,13] Q8w) Q52
def Q54:SC:=sR [fI 9 (.aG 1 []),mJ 5 9] [1,2,5] Q53
def Qaoa:SC:=sR [vJ 2 0,fI 4 (.mv (.k (.c (.sl true 1 []))))] [1,2] Q54
abbrev TZ:List RS:=[.tmp 4]
theorem Qahp:mFn prog Sr 2 56 Qaoa TZ=true:=ZB
def ON:List Item:=[sJ 1 3 7]
def OM:List Item:=eI 3 (.alloc [.sl true 3 []])::ON
def SI:List Item:=[gT 19 12 (.len (.t 18)),gT 20 12 (.bin 0 .gtr (.t 19) (kI 0)),pF 21 12 20]
def Qbb3:SC:=cT 21 (sR [tJ 22 1 3,sJ 1 2 22] [2] .ret) .skip
def Qbb4:SC:=sR (fJ 8 0 3::lJ 9 8::nJ 10 9::cJ 11 .gtr 10 1::mJ 12 11::gT 13 12 (.ld 1 true (.t 3))::gTf 14 12 0 3::gTl 15 12 14::gT 16 12 (.len (.t 15))::gT 17 12 (.bin 0 .sub (.t 16) (kI 1))::.e (some 18) (some (12,true)) (.call Sr [.t 13,.t 17])::SI) [0,2,3,4,21] Qbb3
def Qbb5:SC:=.reg [cJ 23 .add 4 1,mJ 4 23] [0,2,4]
def Qbb6:SC:=.seq (.block 1 (sR (mJ 6 0::aJ 7 SP [.t 6]::OM) [0,2,3,4] Qbb4)) Qbb5
def Qa5v:SC:=sR [cJ 5 .lss 4 4] [0,2,4,5] (cX 5 0 Qbb6)
def OL:List Item:=[sJ 1 2 25]
def Qbb7:SC:=sR (mJ 24 0::aJ 25 HD [.t 24]::OL) [2] .ret
def Qa5u:SC:=.seq (sR [zJ 4 0] [0,2,4] (bL 0 Qa5v)) Qbb7
def Qbqx:SC:=sR [eI 2 (.alloc [.sl true 3 []])] [0,2] Qa5u
abbrev FH:List RS:=[.cell 2 1 true]
theorem Qbo1:mFn prog Q61 1 26 Qbqx FH=true:=ZB
def Qkr:List Item:=[mJ 4 13,sJ 5 5 15]
def Qks:List Item:=[mJ 6 21,sJ 4 7 23]
def Qkt:List Item:=[mJ 3 32]
def Q7z:SC:=cT 26 (.reg (mJ 27 3::mJ 28 4::mJ 29 6::fI 30 (.aG 1 [.t 28,.t 29])::fI 31 (.aG 1 [.t 30])::xJ 32 1 27 31::Qkt) [3,4,9,10,11,17,18,19]) .skip
def Q70:SC:=sR [fJ 24 0 7,lJ 25 24,cJ 26 .eql 25 14] [3,4,6,9,10,11,17,18,19,26] Q7z
def Q71:SC:=.reg [cJ 33 .add 19 1,mJ 19 33] [3,4,9,10,11,17,18,19]
def Q72:SC:=.seq (.block 3 (sR (mJ 21 19::iJ 22 4 17 19::tJ 23 4 22::eI 7 (.alloc [.int .i64 0,.int .i64 0,.sl true 1 [],.int .i64 0])::Qks) [3,4,6,7,9,10,11,17,18,19] Q70)) Q71
def Q39:SC:=sR [bJ 20 .lss 19 18] [3,4,9,10,11,17,18,19,20] (cX 20 2 Q72)
def Q73:SC:=sR [fJ 16 1 5,lJ 17 16,nJ 18 17,zJ 19 0] [3,4,9,10,11,17,18,19] (bL 2 Q39)
def Q74:SC:=.reg [cJ 34 .add 11 1,mJ 11 34] [3,9,10,11]
def Q35:SC:=.seq (.block 1 (sR (mJ 13 11::iJ 14 5 9 11::tJ 15 5 14::eI 5 (.alloc [.sl true 2 [],.sl true 4 [],.int .i64 0,.int .i64 0,.sl true 1 []])::Qkr) [3,4,5,9,10,11] Q73)) Q74
def Q1l:SC:=sR [bJ 12 .lss 11 10] [3,9,10,11,12] (cX 12 0 Q35)
def Q36:SC:=sR [mJ 35 3,mJ 2 35] [2] .ret
def Q37:SC:=.seq (sR [fJ 8 2 1,lJ 9 8,nJ 10 9,zJ 11 0] [3,9,10,11] (bL 0 Q1l)) Q36
def Q38:SC:=sR [fI 3 (.mv (.k (.c (.sl true 1 []))))] [1,3] Q37
def Qai7:SC:=sR [vJ 1 0,fI 2 (.mv (.k (.c (.sl true 1 []))))] [1] Q38
abbrev Qtj:List RS:=[.tmp 2]
theorem Qahk:mFn prog Vi 1 36 Qai7 Qtj=true:=ZB
end Go.AE.Y
namespace Go.AE.Y
attribute [local instance] Classical.propDecidable
variable {g:Nat→List Nat}{n:Nat}
theorem Km {a b:Nat}:domB g a b=true↔A6 g (-1) a=true∧A6 g (-1) b=true∧¬Rch g (fun z=>(z:Int)=a) 0 b:=by
 simp only[domB,Ji,Ja8,and_assoc];refine and_congr_right fun _=>and_congr_right fun _=>?_;rw[←Bool.not_eq_true,rchB_iff]
theorem Rch.via {A:Nat→Prop}{a b:Nat}(h:Rch g A 0 b)(hn:¬Rch g (fun z=>(z:Int)=a) 0 b):Rch g A 0 a:=by
 induction h with
 |refl h=>
  by_cases ha:0=a
  ·subst ha;exact .refl h
  ·exact absurd (Rch.refl fun hh=>ha Zx) hn
 |@step y z h1 h2 h3 ih=>
  by_cases hy:Rch g (fun z=>(z:Int)=a) 0 y
  ·by_cases ha:z=a
   ·subst ha;exact .step h1 h2 h3
   ·exact absurd (Rch.step hy h2 fun hh=>ha Zx) hn
  ·exact ih hy
theorem Qbin {x a b:Nat}(h1:domB g x a=true)(h2:domB g a b=true):domB g x b=true:=by
 rw[Km]at *;exact⟨h1.1,h2.2.1,fun h=>h1.2.2 (h.via h2.2.2)⟩
theorem Rch.two {A:Nat→Prop}{a b z:Nat}(dw:a≠b)(h:Rch g A 0 z):Rch g (fun w=>w=a∨w=b) 0 z∨Rch g (fun w=>(w:Int)=b) 0 a∨Rch g (fun w=>(w:Int)=a) 0 b:=by
 induction h with
 |refl _=>
  by_cases ha:0=a
  ·subst ha;exact .inr (.inl (.refl fun hh=>dw Zx))
  ·by_cases hb:0=b
   ·subst hb;exact .inr (.inr (.refl fun hh=>dw Zx))
   ·exact .inl (.refl fun hh=>hh.elim ha hb)
 |@step y z h1 h2 h3 ih=>
  rcases ih with h|h
  ·by_cases ha:z=a
   ·subst ha;exact .inr (.inl (.step (h.mono fun w hw=>.inr Zx) h2 fun hh=>dw Zx))
   ·by_cases hb:z=b
    ·subst hb;exact .inr (.inr (.step (h.mono fun w hw=>.inl Zx) h2 fun hh=>dw Zx))
    ·exact .inl (.step h h2 fun hh=>hh.elim ha hb)
  ·exact .inr h
theorem Qbmz {a b:Nat}(h1:domB g a b=true)(h2:domB g b a=true):a=b:=by
 by_cases dw:a=b
 ·exact dw
 rw[Km]at *;rcases (rchB_iff.1 h1.1).two dw with h|h|h
 ·exact absurd (.inl rfl) h.snd
 ·exact absurd h h2.2.2
 ·exact absurd h h1.2.2
noncomputable def depL (n:Nat)(g:Nat→List Nat)(b:Nat):Nat:=((List.range n).filter fun a=>domB g a b).length
theorem Qbna {α:Type}{p q:α→Bool}{l:List α}(h:∀x∈l,p x=true→q x=true){y:α}(hy:y∈l)(hq:q y=true)(hp:p y=false):(l.filter p).length<(l.filter q).length:=by
 have le:∀(l:List α),(∀x∈l,p x=true→q x=true)→(l.filter p).length≤(l.filter q).length:=fun l=>by
  induction l with
  |nil=>intro _;simp
  |cons x l ih=>
   intro h;have h1:=ih fun z hz=>h z (Jh _ hz);have h2:=h x Jj
   cases oH:p x with
   |false=>cases lM:q x <;> simp[oH,lM] <;> omega
   |true=>have:=h2 oH;simp[oH,this];omega
 induction l with
 |nil=>simp at hy
 |cons x l ih=>
  have h2:=h x Jj;have h3:=le l fun z hz=>h z (Jh _ hz);rcases Jx.1 hy with rfl|hy
  ·simp[hq,hp];omega
  ·have h1:=ih (fun z hz=>h z (Jh _ hz)) hy
   cases oH:p x with
   |false=>cases lM:q x <;> simp[oH,lM] <;> omega
   |true=>have:=h2 oH;simp[oH,this];omega
theorem X2 {a b:Nat}(hb:b<n)(h:domB g a b=true)(dw:a≠b):depL n g a<depL n g b:=by
 refine Qbna (fun x _ hx=>Qbin hx h) (y:=b) (J9.2 hb) ?_ ?_
 ·rw[Qbm0];exact (X0 h).2
 ·cases hc:domB g b a with
  |false=>rfl
  |true=>exact absurd (Qbmz h hc) dw
def Tree (n:Nat)(ids:List Int)(dp:Nat→Nat):Prop:=ids.length=n∧∀b,b<n→ids.getD b 0=-1∨∃a:Nat,ids.getD b 0=a∧a<n∧dp a<dp b
inductive Sub (ids:List Int)(b:Nat):Nat→Prop
 |refl:Sub ids b b
 |step {y x:Nat}:Sub ids b y→x<ids.length→ids.getD x 0=(y:Int)→Sub ids b x
variable {ids:List Int}{dp:Nat→Nat}
def BI (ids:List Int)(b:Nat):List Nat:=(List.range ids.length).filter fun i=>decide (ids.getD i 0=(b:Int))
theorem kidsL_mem {b k:Nat}:k∈BI ids b↔k<ids.length∧ids.getD k 0=(b:Int):=by simp[BI]
theorem Tree.up (t:Tree n ids dp){b k:Nat}(hk:k<ids.length)(h:ids.getD k 0=(b:Int)):b<n∧dp b<dp k:=by
 have kC:k<n:=by rw[←t.1];exact hk
 rcases t.2 k kC with h1|⟨a,h1,h2,h3⟩
 ·omega
 ·have:a=b:=Zx
  subst this;exact⟨h2,h3⟩
theorem Sub.dep (t:Tree n ids dp){b x:Nat}(h:Sub ids b x):x=b∨dp b<dp x:=by
 induction h with
 |refl=>exact .inl rfl
 |step h1 h2 h3 ih=>
  have:=(t.up h2 h3).2;rcases ih with rfl|ih
  ·exact .inr this
  ·exact .inr Zx
theorem Sub.kid {b k x:Nat}(hk:k∈BI ids b)(h:Sub ids k x):Sub ids b x:=by
 obtain⟨h1,h2⟩:=kidsL_mem.1 hk
 induction h with
 |refl=>exact .step .refl h1 h2
 |step _ h3 h4 ih=>exact ih.step h3 h4
theorem Sub.kid_ne (t:Tree n ids dp){b k:Nat}(hk:k∈BI ids b):¬Sub ids k b:=fun h=>by
 obtain⟨h1,h2⟩:=kidsL_mem.1 hk;have:=(t.up h1 h2).2;rcases h.dep t with rfl|h
 ·omega
 ·omega
theorem Sub.line {a b x:Nat}(h1:Sub ids a x)(h2:Sub ids b x):Sub ids a b∨Sub ids b a:=by
 induction h1 with
 |refl=>exact .inr h2
 |@step y x h3 h4 h5 ih=>
  cases h2 with
  |refl=>exact .inl (.step h3 h4 h5)
  |@step y' _ h6 h7 h8=>
   have:y=y':=Zx
   subst this;exact ih h6
theorem Sub.kids_apart (t:Tree n ids dp){b k j x:Nat}(hk:k∈BI ids b)(hj:j∈BI ids b)(h1:Sub ids k x)(h2:Sub ids j x):k=j:=by
 have one:∀{k j:Nat},k∈BI ids b→j∈BI ids b→Sub ids k j→k=j:=fun {k j} hk hj h=>by
  cases h with
  |refl=>rfl
  |@step y _ h3 h4 h5=>
   have h6:=(kidsL_mem.1 hj).2;have:y=b:=Zx
   subst this;exact absurd h3 (Sub.kid_ne t hk)
 rcases h1.line h2 with h|h
 ·exact one hk hj h
 ·exact (one hj hk h).symm
theorem Sub.split {b x:Nat}(h:Sub ids b x):x=b∨∃k∈BI ids b,Sub ids k x:=by
 induction h with
 |refl=>exact .inl rfl
 |@step y x h1 h2 h3 ih=>
  rcases ih with rfl|⟨k,hk,h⟩
  ·exact .inr ⟨x,kidsL_mem.2 ⟨h2,h3⟩,.refl⟩
  ·exact .inr ⟨k,hk,h.step h2 h3⟩
theorem Sub.lt {b x:Nat}(hb:b<ids.length)(h:Sub ids b x):x<ids.length:=by
 cases h with
 |refl=>exact hb
 |step _ h _=>exact h
def potW (n:Nat)(w:Nat→Nat)(U:Nat→Prop) [DecidablePred U]:Nat:=(((List.range n).filter fun x=>decide (U x)).map w).sum
theorem YS {w:Nat→Nat}{U V:Nat→Prop}{b:Nat}(hb:b<n)(hU:U b)(hV:∀x,V x↔U x∧x≠b):potW n w V+w b=potW n w U:=by
 have key:∀m,(((List.range m).filter fun x=>decide (V x)).map w).sum+(if b<m then w b else 0)=(((List.range m).filter fun x=>decide (U x)).map w).sum:=fun m=>by
  induction m with
  |zero=>simp
  |succ m ih=>
   rw[Jal,Jz,Jz,Jt,Jt,J0,J0];by_cases hm:m=b
   ·subst hm;have h1:decide (V m)=false:=decide_eq_false fun h=>((hV m).1 h).2 rfl;have h2:decide (U m)=true:=decide_eq_true hU;have h3:¬m<m:=Zx;rw[if_neg h3]at ih;simp[h1,h2];omega
   ·have h1:decide (V m)=decide (U m):=(by rw[decide_eq_decide,hV];exact⟨fun h=>h.1,fun h=>⟨h,hm⟩⟩);have h2:(b<m+1)=(b<m):=(by rw[eq_iff_iff];omega);simp only[Jar,Jaw,h1,h2];omega
 have:=key n;rw[if_pos hb]at this;exact this
theorem Xb {w:Nat→Nat}{U V:Nat→Prop}(h:∀x,V x→U x):potW n w V≤potW n w U:=by
 have key:∀m,(((List.range m).filter fun x=>decide (V x)).map w).sum≤(((List.range m).filter fun x=>decide (U x)).map w).sum:=fun m=>by
  induction m with
  |zero=>simp
  |succ m ih=>
   rw[Jal,Jz,Jz,Jt,Jt,J0,J0];by_cases hv:V m
   ·have h1:decide (V m)=true:=decide_eq_true hv;have h2:decide (U m)=true:=decide_eq_true (h m hv);simp[h1,h2];omega
   ·have h1:decide (V m)=false:=decide_eq_false hv;simp[h1];omega
 exact key n
end Go.AE.Y
namespace Go.AE.Y
attribute [local go_sem] cond_true cond_false Bool.not_true Bool.not_false
open Go.Proofs.Tryz
variable {H H0:Heap}{K:V→Heap→Prop}{E B Lg:List (Nat×Obj)}
theorem Qa88 {fl:Bool}{l:List Nat}(hl:l.length≤2 ^ 30)(hK:∀(fl':Bool) (k:List Nat) H',Upd H H' []→k.Pairwise (· < ·)→(∀x,x∈k↔x∈l)→K (.c (.sl false 1 (Q5 k))) H') :
  Qs prog SS [.c (.sl fl 1 (Q5 l))] H K:=by
 refine Qx ?_;refine Qc Ab Qa9h ?_;refine Wb ?_;refine Wa ?_;refine Qh (Qd (Qw (fun m e1 H1=>∃(i:Nat) (fl':Bool) (ns:List Int),m=l.length-i∧i≤l.length∧ns.Pairwise (· < ·)∧(∀x,x∈ns↔∃y∈l.take i,(y:Int)=x)∧ns.length≤i∧Kn H H1 [] []∧
  lk 0 e1=.c (.sl fl 1 (Q5 l))∧lk 3 e1=.c (.sl fl' 1 (Qb ns))∧lk 4 e1=.c (.int .i64 i)) l.length ?_ ?_))
 ·exact⟨0,_,[],Zx,Zx,Zz,Zz,Zz,Kn.aq H,rfl,rfl,rfl⟩
 ·rintro m e1 H1 ⟨i,fl',ns,hm,hi,ha,cP,ce,kn,l0,l3,l4⟩;refine Q1 (Qa ?_);simp only[go_sem,l0,l3,l4,Qz];intro _;refine Wu ?_ ?_
  ·intro hc;have ae:i<l.length:=ZA
   have hg:l.getD i 0=l[i]:=ZX
   refine Zd ?_
   refine Wt ?_;simp only[go_sem,ae,Qz,AU _ _ ae,hg];refine Rw ha Zx fun fl2 ns2 H2 hu kW eo ig=>?_;have kn:=kn.aw hu;simp only[go_sem,Qz3];refine Zf ?_;refine⟨Qr,l.length-(i+1),Zx,i+1,fl2,ns2,rfl,Zx,kW,fun x=>?_,Zx,kn,?_⟩
   ·rw[eo,cP,Jg ae];constructor
    ·rintro (rfl|⟨y,hy,rfl⟩)
     ·exact⟨l[i],Jv _ (Ja.2 rfl),rfl⟩
     ·exact⟨y,Jr _ hy,rfl⟩
    ·rintro⟨y,hy,rfl⟩;rcases Je.1 hy with hy|hy
     ·exact .inr ⟨y,hy,rfl⟩
     ·simp only[Ja]at hy;rw[hy];exact .inl rfl
   ·first|exact⟨rfl,rfl,rfl⟩|exact rfl|trivial
  ·intro hc;have bd:l.length≤i:=ZA
   rw[Jc bd]at cP;have hk:ns=(ns.map Int.toNat).map Int.ofNat:=by
    rw[Jbl]
    conv=>lhs;rw[←Jbp ns]
    refine Ja3 fun x hx=>?_;obtain⟨y,_,rfl⟩:=(cP x).1 hx;simp
   have fS:Qb ns=Q5 (ns.map Int.toNat):=by (conv=>lhs;rw[hk]);rfl
   refine Zc ?_;refine Zi fS ?_;refine Zb ?_;refine⟨_,.c _ _ (FrzR.same (BC _)).sl,hK true (ns.map Int.toNat) _ kn.fin ?_ fun x=>?_⟩
   ·rw[hk,J8]at ha;exact ha.imp fun h=>ZI
   ·rw[Jn];constructor
    ·rintro⟨v,hv,rfl⟩;obtain⟨y,hy,rfl⟩:=(cP v).1 hv;simpa using hy
    ·exact fun h=>⟨(x:Int),(cP _).2 ⟨x,h,rfl⟩,Zz⟩
set_option maxHeartbeats 1000000 in
theorem Qa87 {p rg:Int}{fl:Bool}{rows:List (List C)}{nx:Nat→List Int}(hg:GF rows nx)(hf:Bt rows.length nx=true)
  (hK:∀(S:List Bool) (o:List Nat) H',Upd H H' []→Dfs (nxN nx) [0] (List.replicate rows.length false) [] S o→K (.c (.sl false 1 (Q5 o.reverse))) H') :
  Qs prog HK [.ag [.int .i64 p,.int .i64 rg,.sl fl 5 rows]] H K:=by
 have hn:=hg.n;have cC:=Hn hf;have cF:∀(y:Nat) l a b d,C.sl fl 5 rows=.af l a b d→l≠y:=by intro y l a b d h;cases h
 refine Qx ?_;refine Qc Ab Qbjb ?_;refine Za ?_;refine Aj ?_;simp only[go_sem,EY];try intro _
 refine⟨by simp only[LIM];omega,fun al dM H1 h1=>?_⟩;have kn:Kn H H1 [] ([(al,.vec 1 (Qt (List.replicate rows.length false)))]++[]):=(Kn.aq H).al dM h1;simp only[go_sem,Q4r];refine Q68 (F:=H1) hf Zx (hg.grd H1 fl) (cF al) rows.length 0 (List.replicate rows.length false) [] (.sl true 1 []) [] H1 _ Zz Zx cC (Di _ _) kn.mid (.nil 1) Zz fun S o oc Lg0 H2 hd k2 df=>?_;have kn:Kn H H2 [] ([(al,.vec 1 (Qt S))]++Lg0):=by
  have:=(kn.comp k2 rfl);simpa using this
 have b8:=df.ah;have bz:=df.aO;have am:=df.ay;rw[Qz]at am;have dX:∀x,x<(List.replicate rows.length false).length→∀y∈nxN nx x,y<(List.replicate rows.length false).length:=by
  rw[Jf];exact fun x hx y hy=>Cu hf hx hy
 have mH:∀x∈[0],x<(List.replicate rows.length false).length:=ZaJ
 have em:o.length≤rows.length:=by
  have h1:=hd.count dX mH;have h2:=CH S;rw[hd.len,Jf]at h2;simp only[Jo]at h1;omega
 simp only[go_sem,Q4q];refine Wj ?_;have lT:=eq_true (df.get kn).1;simp only[go_sem,lT,am];try intro _
 refine⟨Qr,?_⟩;refine Qh (Qd (Qw (fun m e1 H1=>∃(k:Nat) (r:List Nat) (t:C) (Lg:List (Nat×Obj)),m=k∧k≤o.length∧r.length+k=o.length∧r=(o.drop k).reverse∧Gr Lg 1 (Q5 r) t∧Kn H H1 [] (([(al,.vec 1 (Qt S))]++Lg0)++Lg)∧
  lk 3 e1=.c oc∧lk 4 e1=.c t∧lk 5 e1=.c (.int .i64 ((k:Int)-1))) o.length ?_ ?_))
 ·exact⟨o.length,[],_,[],rfl,Zx,Zz,Zz,.nil 1,ZH,rfl,rfl,rfl⟩
 ·clear kn lT;rintro m e1 H3 ⟨k,r,t,Lg,rfl,hk,dQ,tp,ao,kn,l3,l4,l5⟩;have bp:=ao.ah;have lT:=eq_true (df.get kn.drop).1;have fg:=(df.get kn.drop).2;refine Q1 (Qa ?_);simp only[go_sem,l3,l4,l5];refine Wu ?_ ?_
  ·intro hc;have bd:(0:Int)≤(m:Int)-1:=ZA
   obtain⟨k,rfl⟩:∃k,m=k+1:=⟨m-1,Zx⟩;have ek:((k+1:Nat):Int)-1=(k:Int):=Zx
   have ae:k<o.length:=Zx
   have bG:o.getD k 0=o[k]:=ZX
   rw[ek];refine Zd ?_
   refine Wt ?_;simp only[go_sem,lT,am,bz,fg,ae,AU _ _ ae,bG];refine kn.bg (new:=Q5 [o[k]]) ao (.mk' _ _ _ _) (BC _) (by simp only[Qz,LIM,Jk,Jo];omega) fun t2 Lg2 H4 bq ca kn=>?_;simp only[go_sem,Q4s];refine Zf ?_;refine⟨Qr,k,Zx,k,r++[o[k]],t2,Lg2,rfl,Zx,by simp only[J5,Jk,Jo];omega,?_,?_,kn,?_⟩
   ·rw[tp,Jy ae,List.reverse_cons]
   ·rw[Hx];exact bq
   ·first|exact⟨rfl,rfl,rfl⟩|exact rfl|trivial
  ·intro hc;have wq:m=0:=by have:¬(0:Int)≤(m:Int)-1:=ZA;omega
   subst wq;refine Wh ?_;rw[Jan]at tp;subst tp;exact⟨_,.c _ _ (ao.frz kn (BC _)),hK S o _ kn.fin hd⟩
theorem Qbi2 {p rg:Int}{fl:Bool}{rows:List (List C)}{nx:Nat→List Int}(hg:GF rows nx)(hf:Bt rows.length nx=true)
  (hK:∀(o:List Nat) H',Upd H H' []→o.length≤rows.length→(∀x,x∈o↔x<rows.length∧A6 (nxN nx) (-1) x=true)→K (.c (.sl false 1 (Q5 o))) H') :
  Qs prog HK [.ag [.int .i64 p,.int .i64 rg,.sl fl 5 rows]] H K:=by
 have cC:=Hn hf;refine Qa87 hg hf fun S o H' hu hd=>?_;have dX:∀x,x<(List.replicate rows.length false).length→∀y∈nxN nx x,y<(List.replicate rows.length false).length:=by
  rw[Jf];exact fun x hx y hy=>Cu hf hx hy
 have mH:∀x∈[0],x<(List.replicate rows.length false).length:=ZaJ
 have bZ:∀x,x∈o↔x<rows.length∧A6 (nxN nx) (-1) x=true:=fun x=>by
  rw[hd.list dX mH (Di _),LC hf hd,inL];by_cases hx:x<rows.length
  ·rw[Sl _ _ hx];simp[hx]
  ·rw[Jb,Jq ZaN];simp[hx]
 have em:o.length≤rows.length:=by
  have h1:=hd.count dX mH;have h2:=CH S;rw[hd.len,Jf]at h2;simp only[Jo]at h1;omega
 exact hK o.reverse H' hu (by rw[List.length_reverse];exact em) fun x=>by rw[List.mem_reverse,bZ]
noncomputable def rchL (n:Nat)(g:Nat→List Nat):List Nat:=(List.range n).filter (A6 g (-1))
theorem Qay1 {p rg:Int}{fl:Bool}{rows:List (List C)}{nx:Nat→List Int}(hg:GF rows nx)(hf:Bt rows.length nx=true)
  (hK:∀H',Upd H H' []→K (.c (.sl false 1 (Q5 (rchL rows.length (nxN nx))))) H') :
  Qs prog Vb [.ag [.int .i64 p,.int .i64 rg,.sl fl 5 rows]] H K:=by
 have hn:=hg.n;refine Qx ?_;refine Qc Ab Qao3 ?_;refine Wf ?_;refine Qbnz (hg.grd H fl) ?_;simp only[go_sem,Qnu,hf];refine Qh (Qe rfl (fun h=>ZF) (fun _=>?_));refine Zd ?_
 refine Za ?_;refine Qbi2 hg hf fun o H1 hu em hom=>?_;have kn:=(Kn.aq H).aw hu;simp only[go_sem,Qnw];refine Qa88 Zx fun _ k H2 hu ha hk=>?_;have kn:=kn.aw hu;simp only[go_sem,Qnv];have e:k=rchL rows.length (nxN nx):=Qbmm ha fun x=>by rw[hk,hom]
 refine Zb ?_;rw[e];exact⟨_,.c _ _ (FrzR.same (BC _)).sl,hK _ kn.fin⟩
theorem Q3c (n:Nat)(v:Int):List.replicate n [C.int .i64 v]=Qb (List.replicate n v):=Zae
theorem Ds (l:List Int)(i:Nat)(v:Int):(Qb l).set i [C.int .i64 v]=Qb (l.set i v):=by simp[Qb,Jbd]
def CE (n:Nat)(l:List Nat)(P:List Int):Prop:=P.length=n∧∀x∈l,∃i,∃h:i<l.length,l[i]=x∧P.getD x 0=(i:Int)
set_option maxHeartbeats 1000000 in
theorem Qbi4 {n:Nat}{fl:Bool}{l:List Nat}(hn:n≤1000000)(hl:l.length≤1000000)(hx:∀x∈l,x<n)(hK:∀P H',CE n l P→Upd H H' []→K (.c (.sl false 1 (Qb P))) H') :
  Qs prog Q02 [.c (.int .i64 n),.c (.sl fl 1 (Q5 l))] H K:=by
 refine Qx ?_;refine Qc Ab Qbjc ?_;refine Wb ?_;refine⟨by simp only[LIM];omega,fun y hy H1 h1=>?_⟩;rw[Q3c]at h1;have kn:=(Kn.aq H).al hy h1;simp only[go_sem,Q4x];refine Wa ?_;refine Qh (Qd (Qw (fun m e1 H1=>∃(i:Nat) (P:List Int),m=n-i∧i≤n∧P.length=n∧Kn H H1 [] [(y,.vec 1 (Qb P))]∧
  lk 0 e1=.c (.int .i64 n)∧lk 1 e1=.c (.sl fl 1 (Q5 l))∧lk 5 e1=.c (.af y 1 0 n)∧lk 6 e1=.c (.int .i64 i)) n ?_ ?_))
 ·exact⟨0,List.replicate n 0,Zx,Zx,Zz,kn,rfl,rfl,rfl,rfl⟩
 ·clear kn h1;rintro m e1 H2 ⟨i,P,hm,hi,hP,kn,l0,l1,l5,l6⟩;have hy:=kn.l 0 rfl;have bN:(Qb P).take n=Qb P:=Jc ZO;refine Q1 (Qa ?_);simp only[go_sem,l0,l1,l5,l6];refine Wu ?_ ?_
  ·intro hc;have ae:i<n:=ZA
   refine Zd ?_
   refine Qh (Qd ?_);have vZ:i<P.length:=Zx
   refine Qp ?_;simp only[go_sem,hy,ae,Qf,hP,Qn _ _ vZ,Ds,Jw,Jp];intro H3 h3;have kn:=kn.aB 0 rfl h3;refine Zf ?_;refine⟨Qr,n-(i+1),Zx,i+1,_,rfl,Zx,by rw[Jl];exact hP,kn,?_⟩
   first|exact⟨rfl,rfl,rfl,rfl⟩|exact rfl|trivial
  ·intro hc;refine Zc ?_;refine Wa ?_;refine Qh (Qd (Qw (fun m e1 H1=>∃(j:Nat) (P:List Int),m=l.length-j∧j≤l.length∧P.length=n∧(∀x∈l.take j,∃i,∃h:i<l.length,l[i]=x∧P.getD x 0=(i:Int))∧Kn H H1 [] [(y,.vec 1 (Qb P))]∧
    lk 1 e1=.c (.sl fl 1 (Q5 l))∧lk 5 e1=.c (.af y 1 0 n)∧lk 7 e1=.c (.int .i64 j)) l.length ?_ ?_))
   ·exact⟨0,P,Zx,Zx,hP,Zz,kn,rfl,rfl,rfl⟩
   ·clear kn hy bN hP;clear P;rintro m e1 H3 ⟨j,P,hm,hj,hP,dH,kn,l1,l5,l7⟩;have hy:=kn.l 0 rfl;refine Q1 (Qa ?_);simp only[go_sem,l1,l5,l7,Qz];intro _;refine Wu ?_ ?_
    ·intro hc;have ae:j<l.length:=ZA;have bG:l.getD j 0=l[j]:=ZX;have qc:=hx _ (Jd ae);have xY:l[j]<P.length:=Zx;refine Zd ?_
     refine Wt ?_;simp only[go_sem,hy,ae,Qz,AU _ _ ae,bG,qc,Qf,hP,Qn _ _ xY,Ds,Jw,Jp];intro H4 h4;have kn:=kn.aB 0 rfl h4;refine Zf ?_;refine⟨Qr,l.length-(j+1),Zx,j+1,_,rfl,Zx,by rw[Jl];exact hP,fun x iN=>?_,kn,?_⟩
     ·by_cases gD:x=l[j]
      ·refine⟨j,ae,gD.symm,?_⟩;rw[gD,Jb,List.getElem?_set_self xY];rfl
      ·rw[Jg ae]at iN;rcases Je.1 iN with h|h
       ·obtain⟨i,hi,h1,h2⟩:=dH x h;refine⟨i,hi,h1,?_⟩;rw[Jb,Ja0 (fun h=>gD h.symm),←Jb];exact h2
       ·exact absurd (Ja.1 h) gD
     ·first|exact⟨rfl,rfl,rfl⟩|exact rfl|trivial
    ·intro hc;have bd:l.length≤j:=ZA;rw[Jc bd]at dH;refine Wh ?_;exact⟨_,.c _ _ ((FrzR.same (Qq _)).af (kn.un 0 rfl) hy (by rw[Qf,hP])),hK P _ ⟨hP,dH⟩ kn.fin⟩
def B8 (ids:List Int)(b n:Nat):List Nat:=(List.range n).filter fun i=>decide (ids.getD i 0=(b:Int))
theorem LL (ids:List Int)(b n:Nat):B8 ids b (n+1)=B8 ids b n++if decide (ids.getD n 0=(b:Int))=true then [n]else []:=by
 simp only[B8,Jal,Jz];congr 1;by_cases h:ids.getD n 0=(b:Int)
 ·rw[decide_eq_true h,if_pos rfl];simp only[Jar,Jaw,h,decide_true,if_true]
 ·rw[decide_eq_false h,if_neg Zz];simp only[Jar,Jaw,h,decide_false,J4,if_false]
theorem Qbnw (ids:List Int)(b n:Nat):(B8 ids b n).length≤n:=by
 have:=Jax (fun i=>decide (ids.getD i 0=(b:Int))) (List.range n);simpa[B8]using this
theorem Qbn1 {fl:Bool}{ids:List Int}{b:Nat}(hl:ids.length≤1000000)(hK:∀H',Upd H H' []→K (.c (.sl false 1 (Q5 (BI ids b)))) H') :
  Qs prog Q6u [.c (.sl fl 1 (Qb ids)),.c (.int .i64 b)] H K:=by
 refine Qx ?_;refine Qc Ab Qbot ?_;refine Wb ?_;refine Wa ?_;refine Qh (Qd (Qw (fun m e1 H1=>∃(i:Nat) (t:C) (Lg:List (Nat×Obj)),m=ids.length-i∧i≤ids.length∧Gr Lg 1 (Q5 (B8 ids b i)) t∧Kn H H1 [] ([]++Lg)∧
  lk 0 e1=.c (.sl fl 1 (Qb ids))∧lk 1 e1=.c (.int .i64 b)∧lk 5 e1=.c t∧lk 6 e1=.c (.int .i64 i)) ids.length ?_ ?_))
 ·exact⟨0,_,[],Zx,Zx,.nil 1,Kn.aq H,rfl,rfl,rfl,rfl⟩
 ·rintro m e1 H1 ⟨i,t,Lg,hm,hi,ao,kn,l0,l1,l5,l6⟩;have bp:=ao.ah;refine Q1 (Qa ?_);simp only[go_sem,l0,l1,l5,l6,Qf];intro _;refine Wu ?_ ?_
  ·intro hc;have ae:i<ids.length:=ZA
   have cO:=Qbnw ids b i;refine Zd ?_
   refine A4 (fun e2 H2=>∃(t:C) (Lg:List (Nat×Obj)),Gr Lg 1 (Q5 (B8 ids b (i+1))) t∧Kn H H2 [] ([]++Lg)∧
    lk 0 e2=.c (.sl fl 1 (Qb ids))∧lk 1 e2=.c (.int .i64 b)∧lk 5 e2=.c t∧lk 6 e2=.c (.int .i64 i)) ?_ ?_
   ·intro Q bD _ _;refine Qd (Qa ?_);simp only[go_sem,ae,Qf,Qn _ _ ae];refine Wv ?_ ?_
    ·intro aC;refine Zh ?_;refine kn.bg (B:=[]) (new:=Q5 [i]) ao (.mk' _ _ _ _) (BC _) (by simp only[Qz,LIM,Jk,Jo];omega) fun t2 Lg2 H2 bq ca kn=>?_;simp only[go_sem,Pr];refine bD _ _ ⟨t2,Lg2,?_,kn,rfl,rfl,rfl,rfl⟩;rw[LL,aC,if_pos rfl,Hx];exact bq
    ·intro aC;refine Zd ?_
     refine bD _ _ ⟨t,Lg,?_,kn,rfl,rfl,rfl,rfl⟩;rw[LL,aC];simpa using ao
   ·rintro e2 H2 ⟨t2,Lg2,bq,kn,l0,l1,l5,l6⟩;have ca:=bq.ah;refine Qp ?_;simp only[go_sem,X.next,l0,l1,l5,l6];refine⟨Qr,ids.length-(i+1),Zx,i+1,t2,Lg2,rfl,Zx,bq,kn,?_⟩
    first|exact⟨rfl,rfl,rfl,rfl⟩|exact rfl|trivial
  ·intro hc;have bd:i=ids.length:=by have:ids.length≤i:=ZA;omega
   refine Wh ?_;have e:B8 ids b i=BI ids b:=by rw[bd];rfl
   rw[e]at ao;exact⟨_,.c _ _ (ao.frz kn (BC _)),hK _ kn.fin⟩
set_option maxHeartbeats 2000000 in
theorem Qbi5 {fl:Bool}{n:Nat}{g:Nat→List Nat}(cC:0<n)(hn:n≤1000000)(hK:∀ids H',Tree n ids (depL n g)→Upd H H' []→K (.c (.sl false 1 (Qb ids))) H') :
  Qs prog Q03 [.c (.sl fl 1 (ovOf n g n))] H K:=by
 have qo:Int.toNat (-1)=0:=rfl;refine Qx ?_;refine Qc Ab Qbje ?_;refine Wb ?_;refine Wa ?_;refine Qh (Qd (Qw (fun m e1 H1=>∃(b:Nat) (ids:List Int) (t:C) (Lg:List (Nat×Obj)),m=n-b∧b≤n∧ids.length=b∧(∀x,x<b→ids.getD x 0=-1∨∃a:Nat,ids.getD x 0=a∧a<n∧depL n g a<depL n g x)∧Gr Lg 1 (Qb ids) t∧Kn H H1 [] ([]++Lg)∧
  lk 0 e1=.c (.sl fl 1 (ovOf n g n))∧lk 3 e1=.c t∧lk 4 e1=.c (.int .i64 b)) n ?_ ?_))
 ·exact⟨0,[],_,[],Zx,Zx,rfl,fun x hx=>Zx,.nil 1,Kn.aq H,rfl,rfl,rfl⟩
 ·rintro m e1 H1 ⟨b,ids,t,Lg,hm,hb,ck,rV,ao,kn,l0,l3,l4⟩;have bp:=ao.ah;refine Q1 (Qa ?_);simp only[go_sem,l0,l3,l4,G7];intro _;refine Wu ?_ ?_
  ·intro hc;have ae:b<n:=ZA
   refine Zd ?_
   refine A4 (fun e2 H2=>∃(v:Int),(v=-1∨∃a:Nat,v=a∧a<n∧depL n g a<depL n g b)∧∃(t:C) (Lg:List (Nat×Obj)),Gr Lg 1 (Qb (ids++[v])) t∧Kn H H2 [] ([]++Lg)∧
    lk 0 e2=.c (.sl fl 1 (ovOf n g n))∧lk 3 e2=.c t∧lk 4 e2=.c (.int .i64 b)) ?_ ?_
   ·intro Q bD _ _;refine Ws ?_;refine Wa ?_;refine Qh (Qd (Qw (fun m e1 H1'=>∃(a:Nat) (v:Int),m=n-a∧a≤n∧H1'=H1∧(v=-1∨∃a:Nat,v=a∧a<n∧depL n g a<depL n g b)∧
     lk 0 e1=.c (.sl fl 1 (ovOf n g n))∧lk 3 e1=.c t∧lk 4 e1=.c (.int .i64 b)∧lk 5 e1=.c (.int .i64 v)∧lk 6 e1=.c (.int .i64 a)) n ?_ ?_))
    ·exact⟨0,-1,Zx,Zx,rfl,.inl rfl,rfl,rfl,rfl,rfl,rfl⟩
    ·rintro m2 e2 H2 ⟨a,v,eo,ha,rfl,hv,l0,l3,l4,l5,l6⟩;refine Q1 (Qa ?_);simp only[go_sem,l0,l3,l4,l5,l6,G7];intro _;refine Wu ?_ ?_
     ·intro aC;have dM:a<n:=ZC;have pL:b<(BM n g a).length:=(by rw[Ew];exact ae);refine Zd ?_
      refine A4 (fun e2 H2'=>∃(v:Int),H2'=H2∧(v=-1∨∃a:Nat,v=a∧a<n∧depL n g a<depL n g b)∧
       lk 0 e2=.c (.sl fl 1 (ovOf n g n))∧lk 3 e2=.c t∧lk 4 e2=.c (.int .i64 b)∧lk 5 e2=.c (.int .i64 v)∧lk 6 e2=.c (.int .i64 a)) ?_ ?_
      ·intro Q2 iC _ _;refine Qd ?_;obtain⟨w,hw,qd,lZ⟩:∃w:Nat,v.toNat=w∧w<n∧(decide (v<0)=false→v=(w:Int)):=by
        rcases hv with rfl|⟨a',rfl,h1,_⟩
        ·exact⟨0,rfl,cC,fun h=>ZF⟩
        ·exact⟨a',Zx,h1,fun _=>rfl⟩
       have had:a<(BM n g w).length:=(by rw[Ew];exact dM);refine Qa ?_;simp only[go_sem,dM,ae,hw,qd,G7,FL dM,FL qd,Qy,Ew,Q4 _ _ pL,Q4 _ _ had,N3 ae,N3 dM];refine⟨fun h=>?_,?_⟩
       ·rw[Ji,Ja8,decide_eq_false_iff_not]at h;omega
       refine Wv ?_ ?_
       ·intro bI;have hd:¬((a:Int)=b)∧domB g a b=true:=by
         by_cases dw:(a:Int)=b
         ·rw[decide_eq_true dw]at bI;simp at bI
         ·refine⟨dw,?_⟩
          cases hd:domB g a b with
          |true=>rfl
          |false=>rw[decide_eq_false dw,hd]at bI;simp at bI
        refine Zh ?_;exact iC _ _ ⟨(a:Int),rfl,.inr ⟨a,rfl,dM,X2 ae hd.2 fun h=>hd.1 (by rw[h])⟩,rfl,rfl,rfl,rfl,rfl⟩
       ·intro _;refine Zd ?_
        exact iC _ _ ⟨v,rfl,hv,rfl,rfl,rfl,rfl,rfl⟩
      ·rintro e3 H3 ⟨v2,rfl,ge,l0,l3,l4,l5,l6⟩;refine Qp ?_;simp only[go_sem,l0,l3,l4,l5,l6];refine⟨Qr,?_⟩;show ∃m,_;exact⟨n-(a+1),by rw[eo];exact Nat.sub_lt_sub_left dM (Nat.lt_succ_self a),a+1,v2,rfl,dM,rfl,ge,rfl,rfl,rfl,rfl,rfl⟩
     ·intro aC;refine Zc ?_;refine Zh ?_;refine kn.bg (B:=[]) (new:=Qb [v]) ao (.mk' _ _ _ _) (Qq _) (by simp only[Qf,LIM,Jk,Jo];omega) fun t2 Lg2 H3 bq ca kn=>?_;simp only[go_sem,Q42];refine bD _ _ ⟨v,hv,t2,Lg2,?_,kn,rfl,rfl,rfl⟩;have:Qb (ids++[v])=Qb ids++Qb [v]:=Zae;rw[this];exact bq
   ·rintro e2 H2 ⟨v,hv,t2,Lg2,bq,kn,l0,l3,l4⟩;have ca:=bq.ah;refine Qp ?_;simp only[go_sem,X.next,l0,l3,l4];refine⟨Qr,n-(b+1),Zx,b+1,ids++[v],t2,Lg2,rfl,Zx,by simp[ck],fun x hx=>?_,bq,kn,?_⟩
    ·by_cases qJ:x<b
     ·have e:(ids++[v]).getD x 0=ids.getD x 0:=(by simp[Jb,List.getElem?_append_left (show x<ids.length by omega)]);rw[e];exact rV x qJ
     ·have gD:x=b:=Zx;subst gD;have e:(ids++[v]).getD x 0=v:=(by simp[Jb,←ck]);rw[e];exact hv
    ·first|exact⟨rfl,rfl,rfl⟩|exact rfl|trivial
  ·intro hc;have je:b=n:=by have:n≤b:=ZA;omega
   subst je;refine Wh ?_;exact⟨_,.c _ _ (ao.frz kn (Qq _)),hK ids _ ⟨ck,rV⟩ kn.fin⟩
end Go.AE.Y
namespace Go.AE.Y
open Go.Proofs.Tryz
variable {H:Heap}{K:V→Heap→Prop}
theorem I6 {op:Int}(hK:K (.c (.bool (decide (1≤op)&&decide (op≤14)))) H):Qs prog RD [.c (.int .i64 op)] H K:=by
 refine Qc Ab Qbja ?_;refine Wb ?_;refine C2 ?_;simp only[go_sem,Q4l];refine Zb ?_;exact hK
theorem K4 {n:Int}(hK:K (.c (.bool (decide (0≤n)&&decide (n≤255)))) H):Qs prog RV [.c (.int .i64 n)] H K:=by
 refine Qc Ab Qa9e ?_;refine Wb ?_;refine C2 ?_;simp only[go_sem,Qz2];refine Zb ?_;exact hK
theorem EI {op:Int}(hK:K (.c (.bool (Bh op))) H):Qs prog R8 [.c (.int .i64 op)] H K:=by
 refine Qc Ab Qbok ?_;refine Wb ?_;refine I6 ?_;simp only[go_sem,Pl];refine Zb ?_;have:∀a b c:Bool,(bif bif a then b else false then c else false)=(a&&b&&c):=ZK
 rw[this];have e:(decide (1≤op)&&decide (op≤14))=decide (1≤op∧op≤14):=Zz
 rw[e];exact hK
theorem Fi {j:Int}(hK:K (.c (.bool (decide (j=2) || decide (j=3)))) H):Qs prog RU [.c (.int .i64 j)] H K:=by
 refine Qc Ab Qa9f ?_;refine Wb ?_;refine Zb ?_;have:∀a b:Bool,(bif a then true else b)=(a || b):=ZK
 first|(rw[this];exact hK)|exact hK
theorem Qa9v {j:Int}(hK:K (.c (.int .i64 (Bg j))) H):Qs prog TQ [.c (.int .i64 j)] H K:=by
 refine Qc Ab Qaoy ?_;have retf:∀(n:Int) (e:Env),Bg j=n→lk 2 e=.c (.int .i64 n)→Q6 T2 K .ret e H:=by
  intro b e h1 h3;simp only[go_sem,Q6,Aa,Ja,forall_eq,RS.op,h3];rw[←h1];exact hK
 refine Wf ?_;refine Wi ?_;refine Wv ?_ ?_
 ·intro hc;refine We ?_;exact retf 1 _ ZW Zy
 intro bF;refine Za ?_;refine Wv ?_ ?_
 ·intro hc;refine We ?_;exact retf 2 _ ZW Zy
 intro aC;refine Za ?_;refine Wv ?_ ?_
 ·intro hc;refine We ?_;exact retf 0 _ ZW Zy
 ·intro hc;refine Ze ?_;refine Za ?_;refine Ql ?_;exact retf (-1) _ (by simp at hc bF aC;simp[Bg,hc,bF,aC]) Zy
def BA (op:Int):Int:=if op=1 then 0 else if op=2∨op=10∨op=11∨op=13 then 1 else 2
theorem Qbnn {op:Int}(hK:K (.c (.int .i64 (BA op))) H):Qs prog Tn [.c (.int .i64 op)] H K:=by
 refine Qc Ab Qaz9 ?_;have retf:∀(n:Int) (e:Env),BA op=n→lk 2 e=.c (.int .i64 n)→Q6 RN K .ret e H:=by
  intro b e h1 h3;simp only[go_sem,Q6,Aa,Ja,forall_eq,RS.op,h3];rw[←h1];exact hK
 refine Wf ?_;refine Wi ?_;refine Wv ?_ ?_
 ·intro hc;refine We ?_;exact retf 0 _ (by simp at hc;simp[BA,hc]) Zy
 intro bF;have fin:∀(b:Bool) (e:Env),b=decide (op=2∨op=10∨op=11∨op=13)→lk 6 e=.c (.bool b)→Ac prog Qz0 (X.inBlock 0 (X.sq prog Qz1 (Q6 RN K))) e H:=by
  intro b e hb l6;refine Qe l6 ?_ ?_
  ·intro hc;refine We ?_;exact retf 1 _ (by rw[hc]at hb;have:=of_decide_eq_true hb.symm;simp at bF;rw[BA,if_neg bF,if_pos this]) Zy
  ·intro hc;refine Ze ?_;refine Za ?_;refine Ql ?_;exact retf 2 _ (by rw[hc]at hb;have:=of_decide_eq_false hb.symm;simp at bF;rw[BA,if_neg bF,if_neg this]) Zy
 refine Wa ?_;refine Wu ?_ ?_
 ·intro hc;refine Ze ?_;exact fin true _ (decide_eq_true (.inl (of_decide_eq_true hc))).symm Zaj
 intro aC;refine Za ?_;refine Wv ?_ ?_
 ·intro hc;refine Ze ?_;exact fin true _ (decide_eq_true (.inr (.inl (of_decide_eq_true hc)))).symm Zaj
 intro bI;refine Za ?_;refine Wv ?_ ?_
 ·intro hc;refine Ze ?_;exact fin true _ (decide_eq_true (.inr (.inr (.inl (of_decide_eq_true hc))))).symm Zaj
 intro dq;refine Zh ?_;refine fin (decide (op=13)) _ ?_ Zy;have a2:=of_decide_eq_false aC;have a3:=of_decide_eq_false bI;have a4:=of_decide_eq_false dq;simp[a2,a3,a4]
theorem PE {l:List BlkD}(hf:∀b∈l,b.ins.length≤2 ^ 38∧b.aa.length≤2 ^ 38):Ay AF l≤l.length * 549755813888:=by
 induction l with
 |nil=>simp[Ay]
 |cons y l ih=>
  have h1:=hf y Jj;have h2:=ih fun b hb=>hf b (Jh _ hb);simp only[Ay,Ju,Jaq,AF,Jk]at *;omega
set_option maxHeartbeats 1000000 in
theorem Qa8o {q:CodeD}{fl:Bool}(hf:q.fits)(hb:q.blocks.length≤160)(hK:∀H',Upd H H' []→K (.c (.int .i64 (AH q))) H') :
  Qs prog TV [.ag [.int .i64 q.params,.int .i64 q.ab,.sl fl 5 (Qo q.blocks)]] H K:=by
 refine Qx ?_;refine Qc Ab Qaot ?_;have ka:=PE hf;refine Wq ?_;simp only[go_sem,Qm];intro _;refine Qh (Qd (Qw (fun m e1 H1=>∃(i:Nat),m=q.blocks.length-i∧i≤q.blocks.length∧Kn H H1 [] []∧
  e1=[(3,.c (.int .i64 (Ay AF (q.blocks.take i):Nat))),(7,.c (.sl fl 5 (Qo q.blocks))),(8,.c (.int .i64 q.blocks.length)),(9,.c (.int .i64 i))]) q.blocks.length ?_ ?_))
 ·exact⟨0,Zx,Zx,Kn.aq H,rfl⟩
 ·rintro m e1 H1 ⟨i,hm,hi,kn,rfl⟩;refine Za ?_;refine Wu ?_ ?_
  ·intro hc;have ae:i<q.blocks.length:=ZA
   have qw:=hf _ (Jd ae);have o7:=GB (f:=AF) ae;have aU:=Fc (f:=AF) (l:=q.blocks) (i+1);have fu:AF q.blocks[i]=q.blocks[i].ins.length+q.blocks[i].aa.length:=rfl;have rI:q.blocks.length * 549755813888≤160 * 549755813888:=Jag _ hb;refine Wo ?_;simp only[go_sem,ae,Qm,Q9 _ _ ae,BlkD.cells];intro x5 bf H2 h2;have kn:=kn.al bf h2;have bf:=kn.l 0 rfl;simp only[go_sem,Qm9,bf];intro H3 h3;have kn:Kn H H3 [] ([]++[(x5,.st [.sl false 2 (Ae q.blocks[i].aa),.sl false 4 (Af q.blocks[i].ins),.int .i64 q.blocks[i].jump,.int .i64 q.blocks[i].on,.sl false 1 (Qb q.blocks[i].next)])]):=kn.aB 0 rfl h3;have bf:=kn.l 0 rfl;refine Qp ?_;simp only[go_sem,bf,Ax,Q7];intro _ _;refine⟨Qr,Qr,?_⟩;refine Zf ?_;refine⟨Qr,q.blocks.length-(i+1),Zx,i+1,rfl,Zx,kn.drop,?_⟩;rw[o7,fu];have:((Ay AF (q.blocks.take i):Nat):Int)+((q.blocks[i].aa.length:Int)+q.blocks[i].ins.length)=((Ay AF (q.blocks.take i)+(q.blocks[i].ins.length+q.blocks[i].aa.length):Nat):Int):=Zx
   rw[this];rfl
  ·intro hc;have bd:q.blocks.length≤i:=ZA
   refine Wh ?_;rw[Jc bd];exact⟨_,.c _ _ (Qg rfl),hK _ kn.fin⟩
theorem LN {x7:Nat}{q:CodeD}{v:Int}(h7:H x7=.st q.cells)(hr:-(2^62)≤q.ab)(eE:q.ab≤2^62)(hK:K (.c (.bool (decide (0≤v∧v≤q.ab-1)))) H) :
  Qs prog HT [.c (.int .i64 v),.c (.ptr x7 0)] H K:=by
 refine Qc Ab Qauz ?_;refine Wg ?_;simp only[go_sem,h7,CodeD.cells];refine⟨Qr,?_⟩;refine C2 ?_;simp only[go_sem,Qpr];refine Zb ?_;have e:(decide (0≤v)&&decide (v≤q.ab-1))=decide (0≤v∧v≤q.ab-1):=Zz
 rw[e];exact hK
theorem Qbi0 {x7 x8:Nat}{q:CodeD}{v:Int}(h7:H x7=.st q.cells)(h8:H x8=.st [.fn HT [.ptr x7 0]])(hr:-(2^62)≤q.ab)(eE:q.ab≤2^62)(hK:K (.c (.bool (!decide (0≤v∧v≤q.ab-1)))) H) :
  Qs prog TB [.c (.int .i64 v),.c (.ptr x8 0)] H K:=by
 refine Qc Ab Qau0 ?_;refine Wg ?_;simp only[go_sem,h8,Jae,Jak,Ju,Jam];refine LN h7 hr eE ?_;simp only[go_sem,Qps];refine Zb ?_;exact hK
theorem Gu (p:Int→Bool)(l:List Int):(l.any fun x=>!p x) = !l.all p:=by
 induction l with
 |nil=>rfl
 |cons x l ih=>simp only[List.any_cons,List.all_cons,ih];cases p x <;> simp
set_option maxHeartbeats 1000000 in
theorem Xf {cs:List CodeD}{fl:Bool}{k:Nat}{x:InsD}(hk:k<cs.length)(hr:0≤cs[k].ab)(eE:cs[k].ab≤300)(cm:cs.length≤100)(hK:∀(H':Heap),Upd H H' []→K (.c (.bool (AC cs k x))) H') :
  Qs prog Q01 [.ag [.sl fl 3 (Qk cs)],.c (.int .i64 k),.ag x.cells] H K:=by
 refine Qx ?_;refine Qc Ab Qbi9 ?_;refine Zu ?_;refine Qa ?_;simp only[go_sem,hk,Q0,Bc _ _ hk,CodeD.cells];intro x7 bC H1 h1;have kn:=(Kn.aq H).al bC h1;have bC:=kn.l 0 rfl;simp only[go_sem,Q4i,bC];intro H2 h2;have kn:=kn.aB 0 rfl h2;refine Za ?_;intro x8 aV H3 h3;have kn:=kn.al aV h3;have aV:=kn.l 1 rfl;simp only[go_sem,Q4j,aV];intro H4 h4;have kn:Kn H H4 [] [(x7,.st cs[k].cells),(x8,.st [.fn HT [.ptr x7 0]])]:=kn.aB 1 rfl h4;have h7:H4 x7=.st cs[k].cells:=kn.l 0 rfl;have h8:=kn.l 1 rfl;have gM:=CK hk;have retf:∀(b:Bool) (e:Env),AC cs k x=b→lk 6 e=.c (.bool b)→Q6 Hu (unK H K) .ret e H4:=by
  intro b e h1 h3;simp only[go_sem,Q6,Aa,Ja,forall_eq,RS.op,h3];rw[←h1];exact⟨_,.c _ _ (Qg rfl),hK _ kn.fin⟩
 refine Wa ?_;refine I6 ?_;simp only[go_sem,Q4k];have rest2:∀(E1:Env) (b:Bool),insH cs[k].ab x=true→insT cs[k].ab x=(!b)→lk 1 E1=.c (.int .i64 k)→lk 3 E1=.c (.pp [.sl fl 3 (Qk cs)])→lk 5 E1=.c (.pp [.int .i64 x.op,.int .i64 x.to,.sl false 1 (Qb x.args),.int .i64 x.n])→lk 45 E1=.c (.bool b)→
   Ac prog (s_im_insOk_8.seq Q4g) (Q6 Hu (unK H K)) E1 H4:=by
  intro E1 b bj bX l1 l3 l5 l45;refine Qh (Qe l45 ?_ ?_)
  ·intro hc;refine We ?_;exact retf false _ (by rw[AC,gM,bX,hc];simp) Zy
  intro hc;rw[hc]at bX;have hG:AC cs k x=insL cs k x:=by rw[AC,gM,bj,bX];rfl
  have nf:1≤x.op∧x.op≤14:=by
   simp only[insH,Ji,decide_eq_true_eq]at bj;exact bj.1
  refine Ze ?_;refine Q1 (Qa ?_);simp only[go_sem,l1,l3,l5];refine Wi ?_;refine Wv ?_ ?_
  ·intro hc;have bA:x.op=1:=of_decide_eq_true hc;have hL:insL cs k x=(decide ((x.args.length:Int)=0)&&(decide (0≤x.n)&&decide (x.n≤255))):=by
    rw[insL,if_neg Zx];simp[AL,bA]
   refine Qa ?_;simp only[go_sem,Qf];intro _;refine⟨fun hb=>?_,fun hb=>?_⟩
   ·refine K4 ?_;simp only[go_sem,SY];refine Zk ?_;refine retf _ _ ?_ ZE;have aZ:x.args=[]:=List.length_eq_zero_iff.1 (by have:=of_decide_eq_true hb;omega);rw[hG,hL];simp[aZ]
   ·simp only[go_sem,SY,hb];refine Zk ?_;exact retf false _ (by rw[hG,hL,hb];rfl) Zy
  intro bF;have oQ:¬x.op=1:=of_decide_eq_false bF;refine Za ?_;refine Wv ?_ ?_
  ·intro hc;have bA:x.op=14:=of_decide_eq_true hc;rw[insL,if_pos bA]at hG;refine Zv ?_;refine⟨Qr,?_⟩;refine C2 ?_;by_cases dm:0≤x.n∧x.n≤(k:Int)-1
   ·obtain⟨m,hm⟩:=Int.eq_ofNat_of_zero_le dm.1;have dd:m<cs.length:=Zx;have h1:(0≤(m:Int))=True:=eq_true Zx;have h2:((m:Int)≤(k:Int)-1)=True:=eq_true Zx;simp only[go_sem,Sh,hm,h1,h2,dd,decide_true,Bool.and_self,Q0,Bc _ _ dd,CodeD.cells,Qf];refine Zk ?_;refine retf _ _ ?_ ZE;rw[hG,hm,Int.toNat_natCast,Hb dd];simp only[h1,h2,and_self,decide_true,Jbj]
   ·have fU:(decide (0≤x.n)&&decide (x.n≤(k:Int)-1))=false:=(by simpa using dm);have rU:decide (0≤x.n∧x.n≤(k:Int)-1)=false:=(by simpa using dm);by_cases hm:x.n.toNat<cs.length
    ·simp only[go_sem,Sh,fU,Bc _ _ hm,CodeD.cells];refine Zk ?_;exact retf false _ (by rw[hG,rU];rfl) Zy
    ·have bG:(Qk cs).getD x.n.toNat []=[]:=by
      rw[Jb,Jq (by rw[Q0];omega)];rfl
     simp only[go_sem,Sh,fU,bG,List.take_nil,List.headD_nil];refine Zk ?_;exact retf false _ (by rw[hG,rU];rfl) Zy
  ·intro hc;have bA:¬x.op=14:=of_decide_eq_false hc;have hA:AL x.op=BA x.op:=by
    rw[AL,BA,if_neg oQ,if_neg oQ];split
    ·rfl
    ·rw[if_pos Zx]
   have hL:insL cs k x=(decide (x.n=0)&&decide ((x.args.length:Int)=BA x.op)):=by
    rw[insL,if_neg bA,hA];by_cases hn:x.n=0
    ·simp[hn]
    ·simp[hn,oQ]
   refine Ze ?_;refine Aj ?_;simp only[go_sem,Qf];refine⟨fun hb=>?_,fun hb=>?_⟩
   ·refine Qbnn ?_;simp only[go_sem,Tu,hb,Qf];refine Ql ?_;refine retf _ _ ?_ ZE;have aZ:=of_decide_eq_true hb;rw[hG,hL];simp[aZ]
   ·simp only[go_sem,Tu,hb,Qf];refine Ql ?_;exact retf false _ (by rw[hG,hL,hb];rfl) Zy
 have rest:∀(E1:Env) (b:Bool),insH cs[k].ab x=(!b)→lk 1 E1=.c (.int .i64 k)→lk 3 E1=.c (.pp [.sl fl 3 (Qk cs)])→lk 5 E1=.c (.pp [.int .i64 x.op,.int .i64 x.to,.sl false 1 (Qb x.args),.int .i64 x.n])→lk 8 E1=.c (.ptr x8 0)→lk 24 E1=.c (.bool b)→
   Ac prog (s_im_insOk_4.seq Q4h) (Q6 Hu (unK H K)) E1 H4:=by
  intro E1 b hb l1 l3 l5 l8 l24;refine Qh (Qe l24 ?_ ?_)
  ·intro hc;refine We ?_;exact retf false _ (by rw[AC,gM,hb,hc];rfl) Zy
  intro hc;rw[hc]at hb;refine Ze ?_;refine Q1 (Qa ?_);simp only[go_sem,l5];refine EI ?_
  cases dd:Bh x.op with
  |true=>
   simp only[go_sem,Js,SZ,l5,l8,h8];refine LN h7 Zx Zx ?_;have hT:insT cs[k].ab x=decide (0≤x.to∧x.to≤cs[k].ab-1):=by rw[insT,dd];rfl
   cases hd:decide (0≤x.to∧x.to≤cs[k].ab-1)with
   |true=>
    simp only[go_sem,cond_true,Jah,Js,Sa,l5];refine EI ?_;simp only[go_sem,cond_false,Jah,Js,Sb,l1,l3,l5,dd];exact rest2 _ false hb (by rw[hT,hd];rfl) Zy Zy Zy Zy
   |false=>
    simp only[go_sem,cond_true,Jah,Js,Sa,Sb,l1,l3,l5];exact rest2 _ true hb (by rw[hT,hd];rfl) Zy Zy Zy Zy
  |false=>
   have hT:insT cs[k].ab x=decide (x.to=-1):=by rw[insT,dd];rfl
   simp only[go_sem,cond_false,Js,SZ,Sa,l5,l8,h8];refine EI ?_;simp only[go_sem,cond_true,cond_false,Js,Sb,l1,l3,l5,dd];refine rest2 _ (!decide (x.to=-1)) hb ?_ ?_ ?_ ?_ ?_
   ·rw[hT];simp
   ·rfl
   ·rfl
   ·rfl
   ·rfl
 cases hi:(decide (1≤x.op)&&decide (x.op≤14))with
 |false=>
  simp only[go_sem,Ta];refine rest _ true ?_ Zy Zy Zy Zy Zy;have:decide (1≤x.op∧x.op≤14)=false:=ZV
  rw[insH,this];rfl
 |true=>
  simp only[go_sem];refine So (p:=fun r=>!decide (0≤r∧r≤cs[k].ab-1)) (.mk' _ _ _ _) rfl (fun v K' hv pS=>Qbi0 h7 h8 Zx Zx pS) ?_;simp only[go_sem,Ta];refine rest _ (x.args.any fun r=>!decide (0≤r∧r≤cs[k].ab-1)) ?_ Zy Zy Zy Zy Zy;have:decide (1≤x.op∧x.op≤14)=true:=ZV
  rw[insH,this,Gu,B2];simp
end Go.AE.Y
namespace Go.AE.Y
attribute [local go_sem] cond_true cond_false Bool.not_true Bool.not_false
open Go.Proofs.Tryz
variable {H:Heap}{K:V→Heap→Prop}
theorem Qay8 {fl:Bool}{l:List InsD}{f:Nat}{caps:List C}{p:InsD→Bool}
  (hf:∀(x:InsD) (H1:Heap) (K':V→Heap→Prop),x∈l→(∀H2,Upd H1 H2 []→K' (.c (.bool (p x))) H2)→Qs prog f ([.ag x.cells]++caps.map .c) H1 K')
  (hK:∀(r:Int) (H':Heap),Upd H H' []→decide (0≤r)=l.any p→K (.c (.int .i64 r)) H') :
  Qs prog V2 [.c (.sl fl 4 (Af l)),.c (.fn f caps)] H K:=by
 refine Qx ?_;refine Qc Ab Q3f ?_;refine Wj ?_;simp only[go_sem,Ax];intro hl;simp only[LIM]at hl;refine Qh (Qd (Qw (fun m e1 H1=>∃(i:Nat),m=l.length-i∧i≤l.length∧Kn H H1 [] []∧(∀x∈l.take i,p x=false)∧e1=[(0,.c (.sl fl 4 (Af l))),(1,.c (.fn f caps)),(7,.c (.int .i64 l.length)),(8,.c (.int .i64 i))]) l.length ?_ ?_))
 ·exact⟨0,Zx,Zx,Kn.aq H,Zz,rfl⟩
 ·rintro m e1 H1 ⟨i,hm,hi,kn,cq,rfl⟩;refine Za ?_;refine Wu ?_ ?_
  ·intro hc;have ae:i<l.length:=ZA
   refine Wd ?_;refine Wg ?_;simp only[go_sem,ae,Ax,B0 _ _ ae,InsD.cn,InsD.bv,InsD.len4];refine hf _ _ _ (Jd ae) fun H2 hu=>?_;have kn:=kn.aw hu;refine Wv ?_ ?_
   ·intro aC;refine Za ?_;refine Zm ?_;refine⟨_,.c _ _ (Qg rfl),hK _ _ kn.fin ?_⟩;have:l.any p=true:=Jad.2 ⟨_,Jd ae,aC⟩;rw[this];simp
   ·intro aC;refine Wl ?_;refine⟨Qr,l.length-(i+1),Zx,i+1,rfl,Zx,kn,?_,rfl⟩;rw[Jg ae];intro x hx;rcases Je.1 hx with hx|hx
    ·exact cq x hx
    ·simp only[Ja]at hx;subst hx;exact aC
  ·intro hc;have bd:l.length≤i:=ZA
   rw[Jc bd]at cq;refine Wh ?_;refine⟨_,.c _ _ (Qg rfl),hK _ _ kn.fin ?_⟩;have:l.any p=false:=by
    cases hc:l.any p with
    |false=>rfl
    |true=>obtain⟨x,hx,hp⟩:=Jad.1 hc;rw[cq x hx]at hp;exact absurd hp Zz
   rw[this];rfl
theorem Qagf {fl:Bool}{l:List InsD}{f:Nat}{caps:List C}{p:InsD→Bool}
  (hf:∀(x:InsD) (H1:Heap) (K':V→Heap→Prop),x∈l→(∀H2,Upd H1 H2 []→K' (.c (.bool (p x))) H2)→Qs prog f ([.ag x.cells]++caps.map .c) H1 K')
  (hK:∀(H':Heap),Upd H H' []→K (.c (.bool (l.any p))) H') :
  Qs prog V3 [.c (.sl fl 4 (Af l)),.c (.fn f caps)] H K:=by
 refine Qc Ab Qta ?_;refine Wb ?_;refine Qay8 hf fun r H' hu hr=>?_;simp only[go_sem,Qee];refine Zb ?_;rw[hr];exact hK _ hu
theorem Q0y {x5:Nat}{q:CodeD}{v:Int}(h5:H x5=.st q.cells)(hr:-(2^62)≤q.ab)(eE:q.ab≤2^62)(hK:K (.c (.bool (decide (0≤v∧v≤q.ab-1)))) H) :
  Qs prog Cx [.c (.int .i64 v),.c (.ptr x5 0)] H K:=by
 refine Qc Ab Qaou ?_;refine Wg ?_;simp only[go_sem,h5,CodeD.cells];refine⟨Qr,?_⟩;refine C2 ?_;simp only[go_sem,Qna];refine Zb ?_;have e:(decide (0≤v)&&decide (v≤q.ab-1))=decide (0≤v∧v≤q.ab-1):=Zz
 rw[e];exact hK
theorem Qa8p {x5:Nat}{q:CodeD}{v:Int}(h5:H x5=.st q.cells)(hb:q.blocks.length≤2 ^ 38)(hK:K (.c (.bool (!AB (Qo q.blocks).length v))) H) :
  Qs prog TU [.c (.int .i64 v),.c (.ptr x5 0)] H K:=by
 refine Qc Ab Qaov ?_;refine Wg ?_;simp only[go_sem,h5,CodeD.cells,Qm];intro _;refine⟨Qr,?_⟩;refine C2 ?_;simp only[go_sem,Qnb];refine Zb ?_;have e:(decide (1≤v)&&decide (v≤(q.blocks.length:Int)-1))=AB (Qo q.blocks).length v:=by simp[AB,Qm]
 rw[e];exact hK
theorem Qa8q {cs:List CodeD}{fl:Bool}{k:Nat}{x:InsD}(hk:k<cs.length)(hr:0≤cs[k].ab)(eE:cs[k].ab≤300)(cm:cs.length≤100)(hK:∀(H':Heap),Upd H H' []→K (.c (.bool (!AC cs k x))) H') :
  Qs prog TS [.ag x.cells,.c (.pp [.sl fl 3 (Qk cs)]),.c (.pp [.int .i64 k])] H K:=by
 refine Qc Ab Qaow ?_;refine Zu ?_;refine Za ?_;refine Xf hk hr eE cm fun H' hu=>?_;simp only[go_sem,Qnc];refine Zb ?_;exact hK _ hu
theorem Qa8r {x5 x6:Nat}{q:CodeD}{v:Int}(h5:H x5=.st q.cells)(h6:H x6=.st [.fn Cx [.ptr x5 0]])(hr:-(2^62)≤q.ab)(eE:q.ab≤2^62)(hK:K (.c (.bool (!decide (0≤v∧v≤q.ab-1)))) H) :
  Qs prog TR [.c (.int .i64 v),.c (.ptr x6 0)] H K:=by
 refine Qc Ab Qaox ?_;refine Wg ?_;simp only[go_sem,h6,Jae,Jak,Ju,Jam];refine Q0y h5 hr eE ?_;simp only[go_sem,Qnd];refine Zb ?_;exact hK
attribute [local instance] Classical.propDecidable
def blkC (b:BlkD):Obj:=.st [.sl false 2 (Ae b.aa),.sl false 4 (Af b.ins),.int .i64 b.jump,.int .i64 b.on,.sl false 1 (Qb b.next)]
theorem KN {cs:List CodeD}{k:Nat}{hk:k<cs.length}(h:¬AZ cs k hk):decide (AZ cs k hk)=false:=decide_eq_false h
set_option maxHeartbeats 2000000 in
theorem Qbs0 {cs:List CodeD}{fl:Bool}{k:Nat}(hk:k<cs.length)(cm:cs.length≤100)(aW:cs[k].fits)(hK:∀(H':Heap),Upd H H' []→K (.c (.bool (decide (AZ cs k hk)))) H') :
  Qs prog ST [.ag [.sl fl 3 (Qk cs)],.c (.int .i64 k)] H K:=by
 refine Qx ?_;refine Qc Ab Qa9d ?_;have retf:∀(v:Bool) (e:Env) (H':Heap) (L:List (Nat×Obj)),decide (AZ cs k hk)=v→Kn H H' [] L→lk 4 e=.c (.bool v)→Q6 HM (unK H K) .ret e H':=by
  intro v e H' L hb kn h3;simp only[go_sem,Q6,Aa,Ja,forall_eq,RS.op,h3];rw[←hb];exact⟨_,.c _ _ (Qg rfl),hK _ kn.fin⟩
 obtain⟨q,hq⟩:∃q,cs[k]=q:=⟨_,rfl⟩;have hP:AZ cs k hk=(B6 q=true∧∀(b:Nat) (h:b<q.blocks.length),blkG cs k b q q.blocks[b]=true):=by subst hq;rfl
 refine Wg ?_;simp only[go_sem,hk,Q0,Bc _ _ hk,CodeD.cells,hq];intro x5 bf H1 h1;have kn:=(Kn.aq H).al bf h1;have bf:=kn.l 0 rfl;simp only[go_sem,Qzx,bf];intro H2 h2;have kn:Kn H H2 [] [(x5,.st q.cells)]:=kn.aB 0 rfl h2;have bf:H2 x5=.st [.int .i64 q.params,.int .i64 q.ab,.sl false 5 (Qo q.blocks)]:=kn.l 0 rfl;refine Q1 (Qa ?_);simp only[go_sem,bf];refine C2 ?_;have rest0:∀(b:Bool) (E1:Env),B6 q=(!b)→lk 2 E1=.c (.pp [.sl fl 3 (Qk cs)])→lk 3 E1=.c (.pp [.int .i64 k])→lk 5 E1=.c (.ptr x5 0)→lk 36 E1=.c (.bool b)→
   Ac prog (s_im_codeOk_4.seq Qzw) (Q6 HM (unK H K)) E1 H2:=by
  intro b E1 hb l2 l3 l5 l36;refine Qh (Qe l36 ?_ ?_)
  ·intro hc;refine We ?_;exact retf false _ _ _ (KN fun h=>by rw[hP,hb,hc]at h;simp at h) kn Zy
  intro hc;rw[hc]at hb;have aZ:=hb;simp only[B6,Js,Ji,decide_eq_true_eq]at aZ;obtain⟨bM,cG,eH,bB⟩:0≤q.ab∧q.ab≤300∧0<q.blocks.length∧q.blocks.length≤160:=Zx
  refine Ze ?_;refine Zi l5 ?_;intro x6 aY H3 h3;have kn:=kn.al aY h3;have aY:=kn.l 1 rfl;simp only[go_sem,Qzy,aY,l2,l3,l5];intro H4 h4;have kn:Kn H H4 [] [(x5,.st q.cells),(x6,.st [.fn Cx [.ptr x5 0]])]:=kn.aB 1 rfl h4;have bf:H4 x5=.st [.int .i64 q.params,.int .i64 q.ab,.sl false 5 (Qo q.blocks)]:=kn.l 0 rfl;refine Q1 (Qa ?_);simp only[go_sem,bf,Qm];intro _;refine Qh (Qd (Qw (fun m e1 H1=>∃(j:Nat),m=q.blocks.length-j∧j≤q.blocks.length∧(∀(i:Nat) (hi:i<q.blocks.length),i<j→blkG cs k i q q.blocks[i]=true)∧Kn H H1 [] [(x5,.st q.cells),(x6,.st [.fn Cx [.ptr x5 0]])]∧
   e1=[(2,.c (.pp [.sl fl 3 (Qk cs)])),(3,.c (.pp [.int .i64 k])),(5,.c (.ptr x5 0)),(6,.c (.ptr x6 0)),(39,.c (.sl false 5 (Qo q.blocks))),(40,.c (.int .i64 q.blocks.length)),(41,.c (.int .i64 j))]) q.blocks.length ?_ ?_))
  ·exact⟨0,Zx,Zx,fun _ _ h=>Zx,kn,rfl⟩
  ·rintro m e1 H5 ⟨j,hm,hj,cK,kn,rfl⟩;refine Za ?_;refine Wu ?_ ?_
   ·intro bF;have ae:j<q.blocks.length:=Zap;have qw:q.blocks[j].ins.length≤2 ^ 38∧q.blocks[j].aa.length≤2 ^ 38:=(by subst hq;exact aW _ (Jd ae));refine Ze ?_;refine A4 (fun e2 H2=>Kn H H2 [] [(x5,.st q.cells),(x6,.st [.fn Cx [.ptr x5 0]])]∧blkG cs k j q q.blocks[j]=true∧lk 2 e2=.c (.pp [.sl fl 3 (Qk cs)])∧lk 3 e2=.c (.pp [.int .i64 k])∧lk 5 e2=.c (.ptr x5 0)∧lk 6 e2=.c (.ptr x6 0)∧
     lk 39 e2=.c (.sl false 5 (Qo q.blocks))∧lk 40 e2=.c (.int .i64 q.blocks.length)∧lk 41 e2=.c (.int .i64 j)) ?_ ?_
    ·intro Q bD oC _;replace oC:∀e H',Q6 HM (unK H K) .ret e H'→Q .ret e H':=fun e H' h=>oC e H' (by simpa only[go_sem,X.next]using h);have retq:∀(e:Env) (H':Heap) (L:List (Nat×Obj)),blkG cs k j q q.blocks[j]=false→Kn H H' [] L→lk 4 e=.c (.bool false)→Q .ret e H':=fun e H' L hb kn l4=>
      oC e H' (retf false e H' L (KN fun h=>by rw[hP]at h;rw[h.2 j ae]at hb;exact absurd hb Zz) kn l4)
     have jg:blkG cs k j q q.blocks[j]=(B5 q.ab q.blocks[j]&&q.blocks[j].next.all (AB (Qo q.blocks).length)&&q.blocks[j].ins.all (AC cs k)&&q.blocks[j].aa.all (phiG q.ab (Am (gnx q) (j:Int) (Qo q.blocks).length).length j)):=rfl;refine Qd (Qa ?_);simp only[go_sem,ae,Qm,Q9 _ _ ae,BlkD.cells];obtain⟨y,hy⟩:∃y,q.blocks[j]=y:=⟨_,rfl⟩;rw[hy]at jg retq qw bD;rw[hy];intro x8 aV H6 h6;have kn:=kn.al aV h6;have aV:=kn.l 2 rfl;simp only[go_sem,Qzz,aV];intro H7 h7;have kn:Kn H H7 [] [(x5,.st q.cells),(x6,.st [.fn Cx [.ptr x5 0]]),(x8,blkC y)]:=kn.aB 2 rfl h7;have bf:H7 x5=.st [.int .i64 q.params,.int .i64 q.ab,.sl false 5 (Qo q.blocks)]:=kn.l 0 rfl;have jP:H7 x5=.st q.cells:=kn.l 0 rfl;have aY:=kn.l 1 rfl;have aV:H7 x8=.st [.sl false 2 (Ae y.aa),.sl false 4 (Af y.ins),.int .i64 y.jump,.int .i64 y.on,.sl false 1 (Qb y.next)]:=kn.l 2 rfl;have rest3:∀(E1:Env) (H8:Heap),B5 q.ab y=true→y.next.all (AB (Qo q.blocks).length)=true→y.ins.all (AC cs k)=true→Kn H H8 [] [(x5,.st q.cells),(x6,.st [.fn Cx [.ptr x5 0]]),(x8,blkC y)]→
       lk 2 E1=.c (.pp [.sl fl 3 (Qk cs)])→lk 3 E1=.c (.pp [.int .i64 k])→lk 5 E1=.c (.ptr x5 0)→lk 6 E1=.c (.ptr x6 0)→lk 7 E1=.c (.int .i64 j)→lk 8 E1=.c (.ptr x8 0)→
       lk 39 E1=.c (.sl false 5 (Qo q.blocks))→lk 40 E1=.c (.int .i64 q.blocks.length)→lk 41 E1=.c (.int .i64 j)→Ac prog Tw (X.inBlock 1 Q) E1 H8:=by
      intro E1 H8 g1 g2 g3 kn l2 l3 l5 l6 l7 l8 l39 l40 l41;have bf:H8 x5=.st [.int .i64 q.params,.int .i64 q.ab,.sl false 5 (Qo q.blocks)]:=kn.l 0 rfl;have dm:(decide (0≤(j:Int))&&decide ((j:Int)≤((Qo q.blocks).length:Int)-1))=true:=(by rw[Qm];simp;omega);refine Zp bf l5 l7 ?_;refine KR (rows:=Qo q.blocks) (nx:=gnx q) (Do _ q false) fun fl' H9 hu=>?_;have kn:=kn.aw hu;rw[G4,if_pos dm];generalize kq:Am (gnx q) (j:Int) (Qo q.blocks).length=ps;rw[kq]at jg;simp only[go_sem,Qt5,l2,l3,l5,l6,l7,l8,l39,l40,l41,Qf];intro _;have aV:H9 x8=.st [.sl false 2 (Ae y.aa),.sl false 4 (Af y.ins),.int .i64 y.jump,.int .i64 y.on,.sl false 1 (Qb y.next)]:=kn.l 2 rfl;refine Qa ?_;simp only[go_sem,aV,Q7];intro _;refine Qd (Qw (fun m e1 H1=>∃(i:Nat),m=y.aa.length-i∧i≤y.aa.length∧(y.aa.take i).all (phiG q.ab ps.length j)=true∧Kn H H1 [] [(x5,.st q.cells),(x6,.st [.fn Cx [.ptr x5 0]])]∧
       e1=[(2,.c (.pp [.sl fl 3 (Qk cs)])),(3,.c (.pp [.int .i64 k])),(5,.c (.ptr x5 0)),(6,.c (.ptr x6 0)),(7,.c (.int .i64 j)),(9,.c (.int .i64 ps.length)),(39,.c (.sl false 5 (Qo q.blocks))),(40,.c (.int .i64 q.blocks.length)),(41,.c (.int .i64 j)),(91,.c (.sl false 2 (Ae y.aa))),(92,.c (.int .i64 y.aa.length)),(93,.c (.int .i64 i))]) y.aa.length ?_ ?_)
      ·exact⟨0,Zx,Zx,rfl,kn.drop (A:=[_,_]),rfl⟩
      ·rintro m2 e1 H10 ⟨i,eo,hi,cq,kn,rfl⟩;refine Za ?_;refine Wu ?_ ?_
       ·intro aC;have ck:i<y.aa.length:=ZC;refine Wo ?_;simp only[go_sem,ck,Q7,BL _ _ ck,PhiD.cells];obtain⟨z,hz⟩:∃z,y.aa[i]=z:=⟨_,rfl⟩;rw[hz];intro x11 dN H11 dY;have kn:=kn.al dN dY;have dN:=kn.l 2 rfl;simp only[go_sem,Qt6,dN];intro H12 fe;have kn:Kn H H12 [] ([(x5,.st q.cells),(x6,.st [.fn Cx [.ptr x5 0]])]++[(x11,.st [.int .i64 z.to,.sl false 1 (Qb z.args)])]):=kn.aB 2 rfl fe;have jP:H12 x5=.st q.cells:=kn.l 0 rfl;have aY:=kn.l 1 rfl;have dN:=kn.l 2 rfl;have fin:∀(b3:Bool) (E1:Env),phiG q.ab ps.length j z=(!b3)→lk 2 E1=.c (.pp [.sl fl 3 (Qk cs)])→lk 3 E1=.c (.pp [.int .i64 k])→lk 5 E1=.c (.ptr x5 0)→lk 6 E1=.c (.ptr x6 0)→lk 7 E1=.c (.int .i64 j)→lk 9 E1=.c (.int .i64 ps.length)→
          lk 39 E1=.c (.sl false 5 (Qo q.blocks))→lk 40 E1=.c (.int .i64 q.blocks.length)→lk 41 E1=.c (.int .i64 j)→lk 91 E1=.c (.sl false 2 (Ae y.aa))→lk 92 E1=.c (.int .i64 y.aa.length)→lk 93 E1=.c (.int .i64 i)→lk 118 E1=.c (.bool b3)→
          Ac prog Qzt (X.inBlock 3 (X.sq prog Qzu (X.next (fun e2 H2=>∃m,m<m2∧∃(i:Nat),m=y.aa.length-i∧i≤y.aa.length∧(y.aa.take i).all (phiG q.ab ps.length j)=true∧Kn H H2 [] [(x5,.st q.cells),(x6,.st [.fn Cx [.ptr x5 0]])]∧
           e2=[(2,.c (.pp [.sl fl 3 (Qk cs)])),(3,.c (.pp [.int .i64 k])),(5,.c (.ptr x5 0)),(6,.c (.ptr x6 0)),(7,.c (.int .i64 j)),(9,.c (.int .i64 ps.length)),(39,.c (.sl false 5 (Qo q.blocks))),(40,.c (.int .i64 q.blocks.length)),(41,.c (.int .i64 j)),(91,.c (.sl false 2 (Ae y.aa))),(92,.c (.int .i64 y.aa.length)),(93,.c (.int .i64 i))])
           (X.inBlock 2 (X.inBlock 1 Q))))) E1 H12:=by
         intro b3 E1 eG l2 l3 l5 l6 l7 l9 l39 l40 l41 l91 l92 l93 l118;refine Qe l118 ?_ ?_
         ·intro bI;refine Wp ?_;exact retq _ _ _ (by rw[jg,DL ck (by rw[hz,eG,bI];rfl)];simp) kn Zy
         ·intro bI;refine Ze ?_;refine Qp ?_;simp only[go_sem,X.next,l2,l3,l5,l6,l7,l9,l39,l40,l41,l91,l92,l93];exact⟨Qr,y.aa.length-(i+1),Zx,i+1,rfl,Zx,by rw[DU ck,cq,hz,eG,bI];rfl,kn.drop,rfl⟩
        have tv:phiG q.ab ps.length j z=(!decide (j=0)&&decide ((z.args.length:Int)=ps.length)&&B2 q.ab z.args&&decide (0≤z.to∧z.to≤q.ab-1)):=rfl;refine Za ?_
        cases jB:decide ((j:Int)=0)with
        |true=>
         have pf:decide (j=0)=true:=(by simpa using jB);simp only[go_sem,HW,HX];exact fin true _ (by rw[tv,pf];rfl) Zy Zy Zy Zy Zy Zy Zy Zy Zy Zy Zy Zy Zy
        |false=>
         have pf:decide (j=0)=false:=(by simpa using jB);simp only[go_sem,dN,aY,Ju,Jam];refine Q0y jP Zx Zx ?_
         cases ht:decide (0≤z.to∧z.to≤q.ab-1)with
         |false=>
          simp only[go_sem,HW,HX];exact fin true _ (by rw[tv,ht];simp) Zy Zy Zy Zy Zy Zy Zy Zy Zy Zy Zy Zy Zy
         |true=>
          by_cases dM:(z.args.length:Int)=ps.length
          ·simp only[go_sem,HW,dN,Qf,dM,decide_true,Jah];intro _;refine So (p:=fun r=>!decide (0≤r∧r≤q.ab-1)) (.mk' _ _ _ _) rfl (fun v K' hv pS=>Qa8r jP aY Zx Zx pS) ?_;simp only[go_sem,HX];refine fin (z.args.any fun r=>!decide (0≤r∧r≤q.ab-1)) _ ?_ Zy Zy Zy Zy Zy Zy Zy Zy Zy Zy Zy Zy Zy;rw[tv,pf,ht,Gu,dM,B2];simp
          ·simp only[go_sem,HW,HX,dN,Qf,dM,decide_false,Js];intro _;exact fin true _ (by rw[tv];simp[dM]) Zy Zy Zy Zy Zy Zy Zy Zy Zy Zy Zy Zy Zy
       ·intro aC;have bd:y.aa.length≤i:=ZC;rw[Jc bd]at cq;refine Zc ?_;exact bD _ _ ⟨kn,by rw[jg,g1,g2,g3,cq];rfl,rfl,rfl,rfl,rfl,rfl,rfl,rfl⟩
     have rest2:∀(b1:Bool) (E1:Env),B5 q.ab y=(!b1)→lk 2 E1=.c (.pp [.sl fl 3 (Qk cs)])→lk 3 E1=.c (.pp [.int .i64 k])→lk 5 E1=.c (.ptr x5 0)→lk 6 E1=.c (.ptr x6 0)→lk 7 E1=.c (.int .i64 j)→lk 8 E1=.c (.ptr x8 0)→
       lk 39 E1=.c (.sl false 5 (Qo q.blocks))→lk 40 E1=.c (.int .i64 q.blocks.length)→lk 41 E1=.c (.int .i64 j)→lk 75 E1=.c (.bool b1)→Ac prog (s_im_codeOk_11.seq Qzv) (X.inBlock 1 Q) E1 H7:=by
      intro b1 E1 bj l2 l3 l5 l6 l7 l8 l39 l40 l41 l75;refine Qh (Qe l75 ?_ ?_)
      ·intro aC;refine We ?_;exact retq _ _ _ (by rw[jg,bj,aC];simp) kn Zy
      intro aC;rw[aC]at bj;refine Ze ?_;refine Q1 (Qa ?_);simp only[go_sem,aV,l5,l8];refine So (p:=fun v=>!AB (Qo q.blocks).length v) (.mk' _ _ _ _) rfl (fun v K' hv pS=>Qa8p jP Zx pS) ?_;have fin:∀(b:Bool) (E1:Env) (H8:Heap),(y.next.all (AB (Qo q.blocks).length)&&y.ins.all (AC cs k))=(!b)→Kn H H8 [] [(x5,.st q.cells),(x6,.st [.fn Cx [.ptr x5 0]]),(x8,blkC y)]→lk 2 E1=.c (.pp [.sl fl 3 (Qk cs)])→lk 3 E1=.c (.pp [.int .i64 k])→lk 5 E1=.c (.ptr x5 0)→lk 6 E1=.c (.ptr x6 0)→lk 7 E1=.c (.int .i64 j)→lk 8 E1=.c (.ptr x8 0)→
        lk 39 E1=.c (.sl false 5 (Qo q.blocks))→lk 40 E1=.c (.int .i64 q.blocks.length)→lk 41 E1=.c (.int .i64 j)→lk 85 E1=.c (.bool b)→Ac prog (s_im_codeOk_14.seq Tw) (X.inBlock 1 Q) E1 H8:=by
       intro b E1 H8 hb kn l2 l3 l5 l6 l7 l8 l39 l40 l41 l85;refine Qh (Qe l85 ?_ ?_)
       ·intro bI;refine We ?_;exact retq _ _ _ (by rw[jg,Bool.and_assoc (B5 _ _),hb,bI];simp) kn Zy
       ·intro bI;rw[bI]at hb;simp only[Js,Ji]at hb;refine Ze ?_;exact rest3 E1 H8 bj hb.1 hb.2 kn l2 l3 l5 l6 l7 l8 l39 l40 l41
      rw[Gu]
      cases ha:y.next.all (AB (Qo q.blocks).length)with
      |false=>
       simp only[go_sem,TJ,TK,l2,l3,l5,l6,l7,l8,l39,l40,l41];exact fin true _ _ (by rw[ha];rfl) kn Zy Zy Zy Zy Zy Zy Zy Zy Zy Zy
      |true=>
       simp only[go_sem,TJ,aV,l2,l3,l8];refine Qagf (p:=fun x=>!AC cs k x) (fun x H1 K' hx pS=>Qa8q hk (by rw[hq];exact bM) (by rw[hq];exact cG) cm pS) fun H8 hu=>?_;have kn:=kn.aw hu;simp only[go_sem,TK,l2,l3,l5,l6,l7,l8,l39,l40,l41];refine fin (y.ins.any fun x=>!AC cs k x) _ _ ?_ kn Zy Zy Zy Zy Zy Zy Zy Zy Zy Zy;rw[ha,←List.not_all_eq_any_not];simp
     refine Q1 (Aj ?_);simp only[go_sem,aV,Qf];refine Qa9v ?_;have tH:B5 q.ab y=(decide ((y.next.length:Int)=Bg y.jump)&&if y.jump=1 then decide (y.on=0)else decide (0≤y.on∧y.on≤q.ab-1)):=rfl;by_cases hn:(y.next.length:Int)=Bg y.jump
     ·have ws:y.jump=1∨(y.jump=2∨y.jump=3)∧¬y.jump=1:=by
       rw[Bg]at hn;split at hn
       ·exact .inl ‹_›
       ·split at hn
        ·omega
        ·split at hn
         ·omega
         ·omega
      simp only[go_sem,TL,aV,Qf,hn,decide_true,Jah];refine Fi ?_;rcases ws with h1|⟨h1,h2⟩
      ·have hu:(decide (y.jump=2) || decide (y.jump=3))=false:=(by simp[h1]);simp only[go_sem,Si,HQ,hu,aV];refine Fi ?_;simp only[go_sem,HR,hu,aV];exact rest2 (!decide (y.on=0)) _ (by rw[tH,if_pos h1,hn];simp) Zy Zy Zy Zy Zy Zy Zy Zy Zy Zy
      ·have hu:(decide (y.jump=2) || decide (y.jump=3))=true:=Zah;simp only[go_sem,Si,hu,aV,aY,Jae,Jak,Ju,Jam];refine Q0y jP Zx Zx ?_
       cases ho:decide (0≤y.on∧y.on≤q.ab-1)with
       |true=>
        simp only[go_sem,HQ,aV];refine Fi ?_;simp only[go_sem,HR,hu,aV];exact rest2 false _ (by rw[tH,if_neg h2,hn,ho];simp) Zy Zy Zy Zy Zy Zy Zy Zy Zy Zy
       |false=>
        simp only[go_sem,HQ,HR,aV];exact rest2 true _ (by rw[tH,if_neg h2,ho];simp) Zy Zy Zy Zy Zy Zy Zy Zy Zy Zy
     ·simp only[go_sem,TL,Si,HQ,HR,aV,Qf,hn,decide_false,Js];exact rest2 true _ (by rw[tH];simp[hn]) Zy Zy Zy Zy Zy Zy Zy Zy Zy Zy
    ·rintro e2 H8 ⟨kn,hbg,l2,l3,l5,l6,l39,l40,l41⟩;refine Qp ?_;simp only[go_sem,X.next,l2,l3,l5,l6,l39,l40,l41];refine⟨Qr,q.blocks.length-(j+1),Zx,j+1,rfl,Zx,fun i hi fV=>?_,kn,rfl⟩;by_cases h:i<j
     ·exact cK i hi h
     ·have:i=j:=Zx;subst this;exact hbg
   ·intro bF;have bd:q.blocks.length≤j:=Zap;refine Wc ?_;refine Ql ?_;exact retf true _ _ _ (decide_eq_true (by rw[hP];exact⟨by rw[hb];rfl,fun b h=>cK b h (by omega)⟩)) kn Zy
 have hH:B6 q=(decide (0≤q.params∧q.params≤3)&&decide (q.params≤q.ab∧q.ab≤300)&&decide (1≤(q.blocks.length:Int)∧(q.blocks.length:Int)≤160)):=rfl;by_cases hr:0≤q.ab∧q.ab≤300
 ·have be:(decide (0≤q.ab)&&decide (q.ab≤300))=true:=Zaq
  simp only[go_sem,Tv,be,bf];refine C2 ?_;by_cases hp:0≤q.params∧q.params≤3∧q.params≤q.ab
  ·have cg:(decide (0≤q.params)&&decide (q.params≤if q.ab<3 then q.ab else 3))=true:=by
    split <;> simp <;> omega
   simp only[go_sem,Sj,cg,bf,Qm];intro _;refine C2 ?_;simp only[go_sem,Sk];refine rest0 _ _ ?_ Zy Zy Zy ZE;have a1:decide (0≤q.params∧q.params≤3)=true:=ZD
   have a2:decide (q.params≤q.ab∧q.ab≤300)=true:=ZD
   rw[hH,a1,a2];simp
  ·have cg:(decide (0≤q.params)&&decide (q.params≤if q.ab<3 then q.ab else 3))=false:=by
    split <;> simp <;> omega
   simp only[go_sem,Sj,Sk,cg,bf];refine rest0 true _ ?_ Zy Zy Zy Zy;rw[hH];simp;omega
 ·have be:(decide (0≤q.ab)&&decide (q.ab≤300))=false:=Zaq
  simp only[go_sem,Tv,Sj,Sk,be,bf];refine rest0 true _ ?_ Zy Zy Zy Zy;rw[hH];simp;omega
set_option maxHeartbeats 1000000 in
theorem Sd {cs:List CodeD}{fl:Bool}(aW:∀c∈cs,c.fits)(hK:∀(H':Heap),Upd H H' []→K (.c (.bool (Ah cs))) H') :
  Qs prog GY [.ag [.sl fl 3 (Qk cs)]] H K:=by
 refine Qx ?_;refine Qc Ab Qaor ?_;have retf:∀(b:Bool) (e:Env) (H':Heap) (L:List (Nat×Obj)),Ah cs=b→Kn H H' [] L→lk 2 e=.c (.bool b)→Q6 T3 (unK H K) .ret e H':=by
  intro b e H' L hb kn h3;simp only[go_sem,Q6,Aa,Ja,forall_eq,RS.op,h3];rw[←hb];exact⟨_,.c _ _ (Qg rfl),hK _ kn.fin⟩
 have kn:=Kn.aq H;refine Wj ?_;simp only[go_sem,Q0];intro cm;refine C2 ?_;simp only[go_sem,Qm4];refine Wu ?_ ?_
 ·intro hc;have cz:=B4 hc;refine We ?_;exact retf false _ _ _ (G8 fun hu=>by have h1:=hu.1;simp at cz;omega) kn Zy
 intro hc;have cz:=AD hc;have dq:1≤cs.length∧cs.length≤4:=by simp at cz;omega
 refine Ze ?_;refine Wj ?_;simp only[go_sem,Q0];intro _;refine Qh (Qd (Qw (fun m e1 H1=>∃(k:Nat),m=cs.length-k∧k≤cs.length∧Ay AH (cs.take k)≤k * (160 * 549755813888)∧(∀(i:Nat) (hi:i<cs.length),i<k→AZ cs i hi)∧Kn H H1 [] []∧
  e1=[(1,.c (.pp [.sl fl 3 (Qk cs)])),(3,.c (.int .i64 (Ay AH (cs.take k):Nat))),(12,.c (.sl fl 3 (Qk cs))),(13,.c (.int .i64 cs.length)),(14,.c (.int .i64 k))]) cs.length ?_ ?_))
 ·exact⟨0,Zx,Zx,by simp[Ay],fun _ _ h=>Zx,kn,rfl⟩
 ·rintro m e1 H1 ⟨k,hm,hk,hsum,cK,kn,rfl⟩;refine Za ?_;refine Wu ?_ ?_
  ·intro aC;have ae:k<cs.length:=ZC
   have o7:=GB (f:=AH) ae;refine Wo ?_;simp only[go_sem,ae,Q0,Bc _ _ ae,CodeD.cells];obtain⟨q,hq⟩:∃q,cs[k]=q:=⟨_,rfl⟩;have qh:q.fits:=by subst hq;exact aW _ (Jd ae)
   rw[hq];intro x5 bf H2 h2;have kn:=kn.al bf h2;have bf:=kn.l 0 rfl;simp only[go_sem,Qm5,bf];intro H3 h3;have kn:Kn H H3 [] ([]++[(x5,.st [.int .i64 q.params,.int .i64 q.ab,.sl false 5 (Qo q.blocks)])]):=kn.aB 0 rfl h3;refine Wa ?_;refine Qbs0 ae Zx (by rw[hq];exact qh) fun H4 hu=>?_;have kn:=kn.aw hu;have bf:=kn.l 0 rfl;simp only[go_sem,Qm6];refine Wu ?_ ?_
   ·intro bI;have cd:=of_decide_eq_false (B4 bI);refine Wp ?_;exact retf false _ _ _ (G8 fun hu=>cd (hu.2.1 k ae)) kn Zy
   ·intro bI;have qF:=of_decide_eq_true (AD bI);have bB:q.blocks.length≤160:=by
     have:=qF.1;rw[hq]at this;simp only[B6,Ji,decide_eq_true_eq]at this;omega
    have hcq:AH q≤160 * 549755813888:=Nat.le_trans (PE qh) (Jag _ bB);have f9:k * (160 * 549755813888)≤4 * (160 * 549755813888):=Jag _ Zx;have fT:(k+1) * (160 * 549755813888)=k * (160 * 549755813888)+160 * 549755813888:=Jbo _ _;rw[hq]at o7;refine Ze ?_;refine Zq bf ?_;refine Qa8o qh bB fun H5 hu=>?_;have kn:=kn.aw hu;simp only[go_sem,Qm7];refine⟨Qr,?_⟩;refine Zf ?_;refine⟨Qr,cs.length-(k+1),Zx,k+1,rfl,Zx,by rw[o7,fT];omega,fun i hi yM=>?_,kn.drop,?_⟩
    ·by_cases h:i<k
     ·exact cK i hi h
     ·have:i=k:=Zx;subst this;exact qF
    ·rw[o7];rfl
  ·intro aC;have bd:cs.length≤k:=ZC
   rw[Jc bd];refine Wc ?_;refine Ql ?_;refine retf (decide (((Ay AH cs:Nat):Int)≤800)) _ _ _ ?_ kn Zy;by_cases hs:Ay AH cs≤800
   ·have h1:Ah cs=true:=decide_eq_true ⟨Zx,fun i hi=>cK i hi Zx,hs⟩;rw[h1];simp;omega
   ·rw[G8 fun hu=>hs hu.2.2];simp;omega
noncomputable def hasG (cs:List CodeD)(k:Int):Bool:=Ah cs&&decide (0≤k∧k≤(cs.length:Int)-1)
theorem Qbt1 {cs:List CodeD}{fl:Bool}{k:Int}(aW:∀c∈cs,c.fits)(hK:∀(H':Heap),Upd H H' []→K (.c (.bool (hasG cs k))) H') :
  Qs prog FS [.ag [.sl fl 3 (Qk cs)],.c (.int .i64 k)] H K:=by
 refine Qc Ab Qbug ?_;refine Wb ?_;refine GU aW fun H' hu=>?_;have hK:=hK H' hu
 cases hg:Ah cs with
 |false=>
  simp only[go_sem,Q1x,Q1w];refine Zb ?_;rw[hasG,hg]at hK;exact hK
 |true=>
  simp only[go_sem,Q1x,Q0];intro hl;simp only[LIM]at hl;refine⟨Qr,?_⟩;refine AS ?_;simp only[go_sem,Q1w];refine Zb ?_;have:hasG cs k=decide (0≤k∧k≤(cs.length:Int)-1):=by rw[hasG,hg];simp
  rw[this]at hK;exact hK
end Go.AE.Y
namespace Go.AE.Y
attribute [local instance] Classical.propDecidable
structure Flo where
 n:Nat
 nx:Nat→List Nat
 on:Nat→List Nat
 ins:Nat→List (Option Nat×List Nat)
 ph:Nat→List Nat
 ea:Nat→Nat→List Nat
abbrev RS':=Nat→Prop
def E9 (x:Option Nat×List Nat)(S:RS'):RS':=fun r=>r∈x.2∨(S r∧x.1≠some r)
def behL (l:List (Option Nat×List Nat))(S:RS'):RS':=l.foldr E9 S
theorem Qbmn {l:List (Option Nat×List Nat)}{S T:RS'}(h:∀r,S r→T r):∀r,behL l S r→behL l T r:=by
 induction l with
 |nil=>exact h
 |cons x l ih=>
  rintro r (hr|⟨hr,h2⟩)
  ·exact .inl hr
  ·exact .inr ⟨ih r hr,h2⟩
variable {F:Flo}
def Flo.endS (F:Flo)(X:RS')(b:Nat):RS':=fun r=>X r∨r∈F.on b
def Flo.beh (F:Flo)(X:RS')(b k:Nat):RS':=behL ((F.ins b).drop k) (F.endS X b)
theorem Flo.beh_end (X:RS')(b k:Nat)(h:(F.ins b).length≤k):F.beh X b k=F.endS X b:=by rw[Flo.beh,List.drop_of_length_le h];rfl
theorem Flo.beh_step (X:RS')(b k:Nat)(h:k<(F.ins b).length):F.beh X b k=E9 (F.ins b)[k] (F.beh X b (k+1)):=by
 rw[Flo.beh,Jy h];rfl
theorem Flo.beh_mono {X Y:RS'}(h:∀r,X r→Y r)(b k:Nat):∀r,F.beh X b k r→F.beh Y b k r:=
 Qbmn fun r hr=>hr.elim (fun h1=>.inl (h r h1)) .inr
def Flo.outT (F:Flo)(I:Nat→RS')(b:Nat):RS':=fun r=>∃m∈F.nx b,I m r∨r∈F.ea b m
def Flo.thru (F:Flo)(X:RS')(b:Nat):RS':=fun r=>F.beh X b 0 r∧r∉F.ph b
def Flo.inT (F:Flo)(I:Nat→RS')(b:Nat):RS':=F.thru (F.outT I b) b
theorem Flo.thru_mono {X Y:RS'}(h:∀r,X r→Y r)(b:Nat):∀r,F.thru X b r→F.thru Y b r:=fun r hr=>⟨Flo.beh_mono h b 0 r hr.1,hr.2⟩
def Flo.fits (F:Flo):Prop:=∀b,b<F.n→∀m∈F.nx b,m<F.n
variable {I J:Nat→RS'}
theorem Flo.outT_mono (hf:F.fits)(h:∀b,b<F.n→∀r,I b r→J b r){b:Nat}(hb:b<F.n):∀r,F.outT I b r→F.outT J b r:=by
 rintro r ⟨m,hm,h1|h1⟩
 ·exact⟨m,hm,.inl (h m (hf b hb m hm) r h1)⟩
 ·exact⟨m,hm,.inr h1⟩
theorem Flo.inT_mono (hf:F.fits)(h:∀b,b<F.n→∀r,I b r→J b r){b:Nat}(hb:b<F.n):∀r,F.inT I b r→F.inT J b r:=
 Flo.thru_mono (Flo.outT_mono hf h hb) b
def Flo.Pre (F:Flo)(J:Nat→RS'):Prop:=∀b,b<F.n→∀r,F.inT J b r→J b r
def Flo.LI (F:Flo)(b:Nat):RS':=fun r=>∀J,F.Pre J→J b r
def Flo.LO (F:Flo)(b:Nat):RS':=F.outT F.LI b
theorem Flo.LI_pre (hf:F.fits):F.Pre F.LI:=fun b hb r hr J hJ=>hJ b hb r (Flo.inT_mono hf (fun b hb r hr=>hr J hJ) hb r hr)
def Flo.Below (F:Flo)(I:Nat→RS'):Prop:=∀b,b<F.n→∀r,I b r→F.LI b r
theorem Flo.is_least (h1:F.Pre I)(h2:F.Below I){b:Nat}(hb:b<F.n)(r:Nat):I b r↔F.LI b r:=⟨h2 b hb r,fun h=>h I h1⟩
theorem Flo.Below.outT (hf:F.fits)(h:F.Below I){b:Nat}(hb:b<F.n):∀r,F.outT I b r→F.LO b r:=Flo.outT_mono hf h hb
noncomputable def ascL (R:Nat)(S:RS'):List Nat:=(List.range R).filter fun r=>decide (S r)
theorem Qbsv {R:Nat}{S:RS'}{r:Nat}:r∈ascL R S↔r<R∧S r:=by simp[ascL]
theorem Qbsu {R:Nat}{S:RS'}:(ascL R S).Pairwise (· < ·):=Jaz _ Jav
theorem XZ {R:Nat}{S:RS'}:(ascL R S).length≤R:=by
 have:=Jax (fun r=>decide (S r)) (List.range R);simpa[ascL]using this
theorem Qave {a:List Nat}(ha:a.Nodup):∀{b:List Nat},(∀x∈a,x∈b)→a.length≤b.length:=by
 induction a with
 |nil=>intro b _;simp
 |cons x a ih=>
  intro b h;have hx:=h x Jj;have hn:=List.nodup_cons.1 ha;have:=ih hn.2 (b:=b.erase x) fun y hy=>(List.mem_erase_of_ne (fun he=>by subst he;exact hn.1 hy)).2 (h y (Jh _ hy));rw[List.length_erase_of_mem hx]at this;have hp:=List.length_pos_of_mem hx;simp only[Jk];omega
theorem Q90 {a:List Nat}{R:Nat}(ha:a.Nodup)(h:∀x∈a,x<R):a.length≤R:=by
 have:=Qave ha (b:=List.range R) fun x hx=>J9.2 (h x hx);simpa using this
end Go.AE.Y
namespace Go.AE.Y
attribute [local go_sem] cond_true cond_false Bool.not_true Bool.not_false
open Go.Proofs.Tryz
variable {H:Heap}{K:V→Heap→Prop}
attribute [local instance] Classical.propDecidable
def Bb (x:InsD):Option Nat:=if Bh x.op then some x.to.toNat else none
def toN (l:List Int):List Nat:=l.map Int.toNat
def K8 (q:CodeD)(b m:Nat):List Nat:=(((q.blocks[m]?.map BlkD.aa).getD []).map fun p=>(p.args.getD ((Am (gnx q) (m:Int) q.blocks.length).idxOf (b:Int)) 0).toNat)
def Al (q:CodeD):Flo where
 n:=q.blocks.length
 nx b:=nxN (gnx q) b
 on b:=match q.blocks[b]? with
  |some y=>if y.jump=1 then []else [y.on.toNat]
  |none=>[]
 ins b:=match q.blocks[b]? with
  |some y=>y.ins.map fun x=>(Bb x,toN x.args)
  |none=>[]
 ph b:=match q.blocks[b]? with
  |some y=>y.aa.map fun p=>p.to.toNat
  |none=>[]
 ea:=K8 q
def rIn (q:CodeD)(v:Int):Prop:=0≤v∧v<q.ab
structure BlkD.ok (q:CodeD)(b:Nat)(y:BlkD):Prop where
 nxl:y.next.length≤2
 nx:∀v∈y.next,1≤v∧v<q.blocks.length
 jmp:y.jump=1∨y.jump=2∨y.jump=3
 on:¬y.jump=1→rIn q y.on
 args:∀x∈y.ins,∀v∈x.args,rIn q v
 to:∀x∈y.ins,Bh x.op=true→rIn q x.to
 pto:∀p∈y.aa,rIn q p.to
 pargs:∀p∈y.aa,∀v∈p.args,rIn q v
 pal:∀p∈y.aa,p.args.length=(Am (gnx q) (b:Int) q.blocks.length).length
 al:∀x∈y.ins,x.args.length≤3
structure CodeD.ok (q:CodeD):Prop where
 r0:0≤q.ab
 r1:q.ab≤300
 b0:0<q.blocks.length
 b1:q.blocks.length≤160
 bs:∀(b:Nat) (h:b<q.blocks.length),q.blocks[b].ok q b
 il:∀(b:Nat) (h:b<q.blocks.length),q.blocks[b].ins.length≤1200∧q.blocks[b].aa.length≤1200
theorem DP {α:Type}{f:α→Nat}{l:List α}{x:α}(h:x∈l):f x≤Ay f l:=by
 induction l with
 |nil=>simp at h
 |cons y l ih=>
  simp only[Ay,Ju,Jaq]at *;rcases Jx.1 h with rfl|h
  ·omega
  ·have:=ih h;omega
theorem DY {cs:List CodeD}(h:Ah cs=true){k:Nat}(hk:k<cs.length):cs[k].ok:=by
 obtain⟨_,h2,h3⟩:=of_decide_eq_true h;obtain⟨g1,g2⟩:=h2 k hk;simp only[B6,Ji,decide_eq_true_eq]at g1;refine⟨Zx,Zx,Zx,Zx,fun b hb=>?_,fun b hb=>?_⟩
 ·have g:=g2 b hb;simp only[blkG,Ji]at g;obtain⟨⟨⟨j,nx⟩,ins⟩,ph⟩:=g;simp only[B5,Ji,decide_eq_true_eq]at j;obtain⟨j1,j2⟩:=j;rw[J2]at nx ins ph;have hj:(cs[k].blocks[b].jump=1∨cs[k].blocks[b].jump=2∨cs[k].blocks[b].jump=3)∧cs[k].blocks[b].next.length≤2:=by
   rw[Bg]at j1;split at j1
   ·omega
   ·split at j1
    ·omega
    ·split at j1 <;> omega
  have hi:∀x∈cs[k].blocks[b].ins,(∀v∈x.args,rIn cs[k] v)∧(Bh x.op=true→rIn cs[k] x.to):=fun x hx=>by
   have:=ins x hx;simp only[AC,insH,B2,Ji,J2,decide_eq_true_eq,CK hk]at this;obtain⟨⟨⟨_,a1⟩,a2⟩,_⟩:=this;refine⟨fun v hv=>by have:=a1 v hv;exact⟨Zx,Zx⟩,fun hm=>?_⟩;rw[insT,hm,if_pos rfl,decide_eq_true_eq]at a2;exact⟨Zx,Zx⟩
  have dM:∀x∈cs[k].blocks[b].ins,x.args.length≤3:=fun x hx=>by
   have:=ins x hx;simp only[AC,Ji]at this;have h3:=this.2;rw[insL]at h3;split at h3
   ·simp only[Ji,decide_eq_true_eq]at h3;have hn:x.n.toNat<cs.length:=Zx;have:=(h2 x.n.toNat hn).1;simp only[B6,Ji,decide_eq_true_eq]at this;rw[Hb hn]at h3;omega
   ·simp only[Ji,decide_eq_true_eq]at h3;have:=argsN_in (op:=x.op);omega
  have hp:∀p∈cs[k].blocks[b].aa,rIn cs[k] p.to∧(∀v∈p.args,rIn cs[k] v)∧p.args.length=(Am (gnx cs[k]) (b:Int) cs[k].blocks.length).length:=fun p hp=>by
   have:=ph p hp;simp only[phiG,B2,Ji,J2,decide_eq_true_eq,Qm]at this;obtain⟨⟨⟨_,a1⟩,a2⟩,a3⟩:=this;have hgn:(fun i=>(cs[k].blocks.map BlkD.next).getD i [])=gnx cs[k]:=rfl;rw[hgn]at a1;exact⟨⟨Zx,Zx⟩,fun v hv=>by have:=a2 v hv;exact⟨Zx,Zx⟩,Zx⟩
  refine⟨hj.2,fun v hv=>?_,hj.1,fun hn=>?_,fun x hx=>(hi x hx).1,fun x hx=>(hi x hx).2,fun p h=>(hp p h).1,fun p h=>(hp p h).2.1,fun p h=>(hp p h).2.2,dM⟩
  ·have:=nx v hv;simp only[AB,decide_eq_true_eq,Qm]at this;omega
  ·rw[if_neg hn,decide_eq_true_eq]at j2;exact⟨Zx,Zx⟩
 ·have a1:=DP (f:=AH) (Jd hk);have a2:=DP (f:=AF) (Jd hb);simp only[AH,AF]at *;omega
variable {q:CodeD}
theorem Qbtd {b:Nat}(h:b<q.blocks.length):(Al q).on b=if q.blocks[b].jump=1 then []else [q.blocks[b].on.toNat]:=by simp[Al,h]
theorem Qbnb {b:Nat}(h:b<q.blocks.length):(Al q).ins b=q.blocks[b].ins.map fun x=>(Bb x,toN x.args):=by simp[Al,h]
theorem Qbte {b:Nat}(h:b<q.blocks.length):(Al q).ph b=q.blocks[b].aa.map fun p=>p.to.toNat:=by simp[Al,h]
theorem Qbtc {b m:Nat}(h:m<q.blocks.length):(Al q).ea b m=q.blocks[m].aa.map fun p=>(p.args.getD ((Am (gnx q) (m:Int) q.blocks.length).idxOf (b:Int)) 0).toNat:=by simp[Al,K8,h]
theorem DX {b:Nat}(h:b<q.blocks.length):gnx q b=q.blocks[b].next:=by simp[gnx,Jb,h]
theorem CodeD.ok.next (h:q.ok){b m:Nat}(hb:b<q.blocks.length)(hm:m∈(Al q).nx b):m<q.blocks.length∧(m:Int)∈gnx q b:=by
 obtain⟨v,hv,rfl⟩:=Jn.1 hm;have iw:=hv;rw[DX hb]at iw;have:=(h.bs b hb).nx v iw;refine⟨Zx,?_⟩;have e:((v.toNat:Nat):Int)=v:=Zx
 rw[e];exact hv
theorem CodeD.ok.fitsF (h:q.ok):(Al q).fits:=fun b hb m hm=>(h.next hb hm).1
theorem CodeD.ok.ix (h:q.ok){b m:Nat}(hb:b<q.blocks.length)(hm:(m:Int)∈gnx q b):(Am (gnx q) (m:Int) q.blocks.length).idxOf (b:Int)<(Am (gnx q) (m:Int) q.blocks.length).length:=by
 refine List.idxOf_lt_length_of_mem ?_;simp only[Am,Jn,Jbh,J9];exact⟨b,⟨hb,Jaa.2 hm⟩,rfl⟩
theorem IsIx.idx {ns:List Int}{v r:Int}(h:IsIx ns v r)(hm:v∈ns):r=(ns.idxOf v:Nat):=by
 rcases h with ⟨_,hn⟩|⟨i,rfl,h1,h2,h3⟩
 ·exact absurd hm hn
 ·have h4:ns[i]=v:=by rw[←h2,Jb,Jm h1];rfl
  have h5:ns.idxOf v=i:=by
   have e:ns=ns.take i++ns[i]::ns.drop (i+1):=by rw[←Jy h1,Jac]
   rw[e,List.idxOf_append,if_neg h3,h4];simp[J3];omega
  rw[h5]
def Mem (bs:List Bool)(S:RS'):Prop:=∀r,bs.getD r false=true↔S r
theorem Mem.congr {bs:List Bool}{S T:RS'}(h:Mem bs S)(hST:∀r,S r↔T r):Mem bs T:=fun r=>(h r).trans (hST r)
theorem KJ (S:List Bool)(x y:Nat)(v:Bool):(S.set x v).getD y false=(if y=x∧x<S.length then v else S.getD y false):=by
 simp only[Jb,J7];by_cases h:x=y
 ·subst h;by_cases h2:x<S.length <;> simp[h2]
 ·have:¬y=x:=fun e=>h e.symm;simp[h,this]
theorem Mem.ins {bs:List Bool}{S:RS'}(h:Mem bs S){x:Nat}(hx:x<bs.length):Mem (bs.set x true) (fun r=>r=x∨S r):=fun r=>by
 rw[KJ];by_cases hr:r=x
 ·simp[hr,hx]
 ·simp only[hr,false_and,if_false,false_or];exact h r
theorem Mem.del {bs:List Bool}{S:RS'}(h:Mem bs S){x:Nat}(hx:x<bs.length):Mem (bs.set x false) (fun r=>S r∧r≠x):=fun r=>by
 rw[KJ];by_cases hr:r=x
 ·simp[hr,hx]
 ·simp only[hr,false_and,if_false,ne_eq,not_false_eq_true,and_true];exact h r
theorem Mem.lt {bs:List Bool}{S:RS'}(h:Mem bs S){r:Nat}(hr:S r):r<bs.length:=by
 have:=(h r).2 hr;refine Classical.byContradiction fun hn=>?_;rw[Jb,Jq Zx]at this;exact absurd this Zz
theorem Mem.none (n:Nat):Mem (List.replicate n false) fun _=>False:=fun r=>by
 rw[Jb,Jap];split <;> simp
end Go.AE.Y
namespace Go.AE.Y
attribute [local go_sem] cond_true cond_false Bool.not_true Bool.not_false
open Go.Proofs.Tryz
variable {H H0:Heap}{K:V→Heap→Prop}{E L:List (Nat×Obj)}
def Bs (x:InsD):Int:=if Bh x.op then x.to else -1
theorem Ly {x:InsD}(hK:K (.c (.int .i64 (Bs x))) H):Qs prog RQ [.ag x.cells] H K:=by
 refine Qc Ab Qa9r ?_;refine Zu ?_;refine Wa ?_;refine Hq ?_;refine Wu ?_ ?_
 ·intro hc;refine Wm ?_;rw[Bs,hc,if_pos rfl]at hK;exact hK
 ·intro hc;refine Zd ?_
  refine Wm ?_;rw[Bs,hc,if_neg Zz]at hK;exact hK
theorem Yb {l:List Int}{a:Nat}(h:a<l.length):(toN l).take (a+1)=(toN l).take a++[(l.getD a 0).toNat]:=by
 have h':a<(toN l).length:=by simpa[toN]using h
 rw[Jg h'];simp[toN,Jb,h]
theorem GH {l:List Int}{a:Nat}(h:a<l.length):l.getD a 0∈l:=by
 rw[Jb,Jm h];exact Jd h
theorem rIn.nat {q:CodeD}{v:Int}(h:rIn q v):v=(v.toNat:Int)∧v.toNat<q.ab.toNat:=by obtain⟨a,b⟩:=h;omega
structure CodeR (F:Heap)(X:List Nat)(bc:C)(q:CodeD):Prop where
 ow:bc.ah=false
 s:∀H1:Heap,(∀m,F m≠.none→m∉X→H1 m=F m)→Slc H1 5 (Qo q.blocks) bc
theorem CodeR.sl (F:Heap)(X:List Nat)(fl:Bool)(q:CodeD):CodeR F X (.sl fl 5 (Qo q.blocks)) q:=⟨rfl,fun _ _=>.mk' _ _ _ _⟩
theorem CodeR.rd {F H:Heap}{X:List Nat}{bc:C}{q:CodeD}{E L:List (Nat×Obj)}(h:CodeR F X bc q)(kn:Kn F H E L)(hX:∀x∈E.map Prod.fst,x∈X):Slc H 5 (Qo q.blocks) bc:=
 h.s H fun m hm hx=>kn.chg m hm fun hh=>hx (hX m hh)
theorem CodeR.facts {F H:Heap}{X:List Nat}{bc:C}{q:CodeD}{E L:List (Nat×Obj)}(h:CodeR F X bc q)(kn:Kn F H E L)(hX:∀x∈E.map Prod.fst,x∈X) :
  bh H bc=True∧ay bc=q.blocks.length∧bc.aO=5∧rowsOf H bc=Qo q.blocks:=
 have s:=h.rd kn hX
 ⟨eq_true s.ok,by rw[s.len,Qm],s.sz,s.rows⟩
theorem CodeR.mid {F H:Heap}{bc:C}{q:CodeD}{L:List (Nat×Obj)}(h:CodeR F [] bc q)(kn:Kn F H [] L):CodeR H (L.map Prod.fst) bc q:=
 ⟨h.ow,fun H1 hh=>h.s H1 fun m hm _=>by
  have h1:=kn.chg m hm Zz;rw[hh m (by rw[h1];exact hm) fun hx=>?_,h1];obtain⟨p,hp,he⟩:=Jn.1 hx;exact hm (he▸kn.loc p hp)⟩
theorem CodeR.nil {F:Heap}{X:List Nat}{bc:C}{q:CodeD}(h:CodeR F X bc q):CodeR F [] bc q:=⟨h.ow,fun H1 hh=>h.s H1 fun m hm _=>hh m hm Zz⟩
theorem CodeR.af {F:Heap}{X:List Nat}{q:CodeD}{z:Nat}(hz:F z=.vec 5 (Qo q.blocks))(hX:z∉X):CodeR F X (.af z 5 0 q.blocks.length) q:=
 ⟨rfl,fun H1 hh=>by
  have h1:H1 z=.vec 5 (Qo q.blocks):=by rw[hh z Za3 hX,hz]
  exact⟨by simp only[bh,h1,Qm];exact⟨trivial,Zx⟩,rfl,by simp only[rowsOf,h1,Jan];exact Jc (by rw[Qm];exact Jp _),by simp only[ay,Qm]⟩⟩
set_option maxHeartbeats 2000000 in
theorem Qa89 {q:CodeD}{bc:C}{ic oc cb:C}{orows:List (List C)}{b:Nat}{i:Int}{bs:List Bool}{W:RS'}(ho:q.ok)(dv:CodeR H [] bc q)(hb:b<q.blocks.length)(hi:-1≤i)(pm:i<q.blocks[b].ins.length)
  (kn:Kn H0 H E L) (hs:Slc H 1 orows oc) (b8:oc.ah=false) (kD:ic.ah=false) (bB:b<orows.length) (aK:orows.getD b []=[cb]) (fv:Slc H 1 (Qt bs) cb) (nA:cb.ah=false) (am:bs.length=q.ab.toNat) (hm:Mem bs W)
  (hK:∀y bs' H',bs'.length=q.ab.toNat→Mem bs' ((Al q).beh W b (i+1).toNat)→Kn H0 H' E (L++[(y,.vec 1 (Qt bs'))])→K (.c (.af y 1 0 q.ab.toNat)) H') :
  Qs prog SR [.ag [.int .i64 q.params,.int .i64 q.ab,bc],.ag [ic,oc],.c (.int .i64 b),.c (.int .i64 i)] H K:=by
 have bM:=ho.r0;have cG:=ho.r1;obtain⟨y,hy⟩:∃y,q.blocks[b]=y:=⟨_,rfl⟩;have cD:y.ok q b:=by rw[←hy];exact ho.bs b hb
 have ck:y.ins.length≤1200∧y.aa.length≤1200:=by rw[←hy];exact ho.il b hb
 rw[hy]at pm;have v7:(Al q).on b=if y.jump=1 then []else [y.on.toNat]:=by rw[Qbtd hb,hy]
 have gQ:(Al q).ins b=y.ins.map fun x=>(Bb x,toN x.args):=by rw[Qbnb hb,hy]
 have au:=eq_true hs.ok;have em:=hs.len;have hoz:=hs.sz;have jp:=hs.rows;have eM:=eq_true fv.ok;have km:=fv.len;have vz:=fv.sz;have oP:=fv.rows;refine Qc Ab Qa9i ?_;refine Qa ?_;have fD:=dv.ow;simp only[go_sem];refine Qa ?_;simp only[go_sem,b8,nA,au,em,hoz,jp,bB,aK,eM,km,vz,oP,Qy,am,Jak,Jo,Jw];refine⟨.inl trivial,RX _,by simp only[LIM];omega,fun y9 fM H1 h1=>?_⟩;have kn:=kn.al fM h1;simp only[go_sem,Qz4];refine Qa ?_;have jy:=dv.s H1 fun m hm _=>by
  have bx:m≠y9:=fun hh=>hm (by rw[hh];exact fM);rw[h1,Heap.ai _ _ bx]
 have b6:=eq_true jy.ok;have fx:=jy.len;have fY:=jy.sz;have eO:=jy.rows;simp only[go_sem,fD,b6,fx,fY,eO,hb,Qm,Q9 _ _ hb,BlkD.cells,hy];intro x10 bK H2 h2;have kn:=kn.al bK h2;have bK:=kn.l (L++[(y9,Obj.vec 1 (Qt bs))]).length (l:=x10) (o:=.st [.sl true 2 [],.sl true 4 [],.int .i64 0,.int .i64 0,.sl true 1 []]) Zz;simp only[go_sem,Qz5,bK];intro H3 h3;have kn:Kn H0 H3 E ((L++[(y9,.vec 1 (Qt bs))])++[(x10,blkC y)]):=by
  have:=kn.aB (L++[(y9,Obj.vec 1 (Qt bs))]).length (x:=x10) (o:=.st [.sl true 2 [],.sl true 4 [],.int .i64 0,.int .i64 0,.sl true 1 []]) Zz h3;simpa[blkC]using this
 have getx:∀{bs1:List Bool} {H4:Heap},Kn H0 H4 E ((L++[(y9,.vec 1 (Qt bs1))])++[(x10,blkC y)])→H4 x10=.st [.sl false 2 (Ae y.aa),.sl false 4 (Af y.ins),.int .i64 y.jump,.int .i64 y.on,.sl false 1 (Qb y.next)]∧H4 y9=.vec 1 (Qt bs1):=fun {bs1 H4} kn=>
  ⟨(kn.get (x10,blkC y) Zz).1,(kn.get (y9,.vec 1 (Qt bs1)) Zz).1⟩
 have putx:∀{bs1 bs2:List Bool} {H4 H5:Heap},Kn H0 H4 E ((L++[(y9,.vec 1 (Qt bs1))])++[(x10,blkC y)])→H5=H4.set y9 (.vec 1 (Qt bs2))→Kn H0 H5 E ((L++[(y9,.vec 1 (Qt bs2))])++[(x10,blkC y)]):=fun {bs1 bs2 H4 H5} kn h=>by
  have:=kn.aB L.length (x:=y9) (o:=.vec 1 (Qt bs1)) Zz h;simpa using this
 have bN:∀(bs1:List Bool),bs1.length=q.ab.toNat→(Qt bs1).take q.ab.toNat=Qt bs1:=fun bs1 h=>Jc Zai;refine Q1 (Qa ?_);obtain⟨bK,fM⟩:=getx kn;simp only[go_sem,bK];refine A4 (fun e2 H4=>∃(bs1:List Bool),bs1.length=q.ab.toNat∧Mem bs1 ((Al q).endS W b)∧Kn H0 H4 E ((L++[(y9,.vec 1 (Qt bs1))])++[(x10,blkC y)])∧
  lk 3 e2=.c (.int .i64 i)∧lk 9 e2=.c (.af y9 1 0 q.ab.toNat)∧lk 10 e2=.c (.ptr x10 0)) ?_ ?_
 ·intro Q bD _ _;refine Wv ?_ ?_
  ·intro hc;have hj:¬y.jump=1:=ZA
   obtain⟨hv,bQ⟩:=(cD.on hj).nat;have ew:y.on.toNat<bs.length:=Zx
   generalize hr:y.on.toNat=r at *;refine Qp ?_;simp only[go_sem,bK,fM,hv,bQ,Qy,am,Cl,Q4 _ _ ew,Jw,Jp];intro H4 h4;refine bD _ _ ⟨_,by rw[Jl];exact am,?_,putx kn h4,rfl,rfl,rfl⟩;refine (hm.ins Zx).congr fun z=>?_;rw[Flo.endS,v7,if_neg hj];simp[or_comm]
  ·intro hc;have hj:y.jump=1:=ZA
   refine Zd ?_
   refine bD _ _ ⟨bs,am,?_,kn,rfl,rfl,rfl⟩;refine hm.congr fun z=>?_;rw[Flo.endS,v7,if_pos hj];simp
 ·rintro e2 H4 ⟨bs1,am,hm,kn,l3,l9,l10⟩;obtain⟨bK,fM⟩:=getx kn;refine Q1 (Qa ?_);simp only[go_sem,l3,l9,l10,bK,Ax];intro _;refine⟨Qr,?_⟩;refine Qh (Qd (Qw (fun m e1 H1=>∃(k:Nat) (j:Int) (bs1:List Bool),m=k∧k≤y.ins.length∧i+1≤k∧j=(k:Int)-1∧bs1.length=q.ab.toNat∧Mem bs1 ((Al q).beh W b k)∧Kn H0 H1 E ((L++[(y9,.vec 1 (Qt bs1))])++[(x10,blkC y)])∧
   e1=[(3,.c (.int .i64 i)),(9,.c (.af y9 1 0 q.ab.toNat)),(10,.c (.ptr x10 0)),(11,.c (.int .i64 j))]) y.ins.length ?_ ?_))
  ·refine⟨y.ins.length,_,bs1,rfl,Jp _,Zx,rfl,am,hm.congr fun z=>?_,kn,rfl⟩;rw[Flo.beh_end _ _ _ (by rw[gQ,Jaj];exact Jp _)]
  ·rintro m e1 H5 ⟨k,j,bs1,rfl,hk,yM,hjk,am,hm,kn,rfl⟩;obtain⟨bK,fM⟩:=getx kn;refine Wa ?_;refine Wu ?_ ?_
   ·intro hc;have n7:i<j:=ZA;obtain⟨k,rfl⟩:∃k',m=k'+1:=⟨m-1,Zx⟩;have hj:j=(k:Int):=Zx;subst hj;have cO:k<y.ins.length:=Zx;obtain⟨x,hx⟩:∃x,y.ins[k]=x:=⟨_,rfl⟩;have iN:x∈y.ins:=(by rw[←hx];exact Jd cO);have iQ:(Al q).beh W b k=E9 (Bb x,toN x.args) ((Al q).beh W b (k+1)):=by
     rw[Flo.beh_step _ _ _ (by rw[gQ,Jaj];exact cO)];simp only[gQ,Jbe,hx]
    refine Zd ?_
    refine A4 (fun e2 H6=>∃(bs2:List Bool),bs2.length=q.ab.toNat∧Mem bs2 ((Al q).beh W b k)∧Kn H0 H6 E ((L++[(y9,.vec 1 (Qt bs2))])++[(x10,blkC y)])∧
     lk 3 e2=.c (.int .i64 i)∧lk 9 e2=.c (.af y9 1 0 q.ab.toNat)∧lk 10 e2=.c (.ptr x10 0)∧lk 11 e2=.c (.int .i64 k)) ?_ ?_
    ·intro Q bD _ _;refine Qd (Qa ?_);simp only[go_sem,bK,cO,Ax,B0 _ _ cO,InsD.cn,InsD.bv,InsD.len4,hx];refine Ly ?_;simp only[go_sem,Qz6];refine Wa ?_;refine A4 (fun e2 H6=>∃(bs2:List Bool),bs2.length=q.ab.toNat∧Mem bs2 (fun r=>(Al q).beh W b (k+1) r∧Bb x≠some r)∧Kn H0 H6 E ((L++[(y9,.vec 1 (Qt bs2))])++[(x10,blkC y)])∧
      lk 3 e2=.c (.int .i64 i)∧lk 9 e2=.c (.af y9 1 0 q.ab.toNat)∧lk 10 e2=.c (.ptr x10 0)∧lk 11 e2=.c (.int .i64 k)) ?_ ?_
     ·intro Q bD _ _;refine Wv ?_ ?_
      ·intro aC;have dd:Bh x.op=true:=by
        cases dd:Bh x.op with
        |true=>rfl
        |false=>simp[Bs,dd]at aC
       obtain⟨hv,bQ⟩:=(cD.to x iN dd).nat;have ew:x.to.toNat<bs1.length:=Zx;have eR:Bs x=x.to:=(by rw[Bs,dd];rfl);have eX:Bb x=some x.to.toNat:=(by rw[Bb,dd];rfl);rw[eR];rw[eX]at bD;generalize hr:x.to.toNat=r at *;refine Qp ?_;simp only[go_sem,fM,hv,bQ,Qy,am,Cl,Q4 _ _ ew,Jw,Jp];intro H6 h6;refine bD _ _ ⟨_,by rw[Jl];exact am,?_,putx kn h6,rfl,rfl,rfl,rfl⟩;refine (hm.del Zx).congr fun z=>?_;simp[eq_comm]
      ·intro aC;have dd:Bh x.op=false:=by
        cases dd:Bh x.op with
        |false=>rfl
        |true=>
         have:=(cD.to x iN dd).1;simp[Bs,dd]at aC;omega
       have eX:Bb x=none:=(by rw[Bb,dd];rfl);rw[eX]at bD;refine Zd ?_
       exact bD _ _ ⟨bs1,am,hm.congr fun z=>Zz,kn,rfl,rfl,rfl,rfl⟩
     ·rintro e2 H6 ⟨bs2,am,hm,kn,l3,l9,l10,l11⟩;refine Qa ?_;simp only[go_sem,l3,l9,l10,l11];refine Qd (Qw (fun m e1 H1=>∃(a:Nat) (bs2:List Bool),m=x.args.length-a∧a≤x.args.length∧bs2.length=q.ab.toNat∧Mem bs2 (fun r=>r∈(toN x.args).take a∨((Al q).beh W b (k+1) r∧Bb x≠some r))∧Kn H0 H1 E ((L++[(y9,.vec 1 (Qt bs2))])++[(x10,blkC y)])∧
       e1=[(3,.c (.int .i64 i)),(9,.c (.af y9 1 0 q.ab.toNat)),(10,.c (.ptr x10 0)),(11,.c (.int .i64 k)),(13,.c (.int .i64 a))]) x.args.length ?_ ?_)
      ·exact⟨0,bs2,Zx,Zx,am,hm.congr fun z=>Zz,kn,rfl⟩
      ·rintro m2 e1 H7 ⟨a,bs2,eo,ha,am,hm,kn,rfl⟩;obtain⟨bK,fM⟩:=getx kn;refine Q1 (Qa ?_);simp only[go_sem,bK,cO,Ax,B0 _ _ cO,InsD.cells,hx,Qf];intro dM;simp only[LIM]at dM;refine Wu ?_ ?_
       ·intro aC;have ae:a<x.args.length:=ZC;obtain⟨hv,bQ⟩:=(cD.args x iN _ (GH ae)).nat;have ey:=Yb ae;have ew:(x.args.getD a 0).toNat<bs2.length:=Zx;generalize hr:(x.args.getD a 0).toNat=r at *;refine Zd ?_
        refine Wt ?_;simp only[go_sem,bK,fM,cO,Ax,B0 _ _ cO,InsD.cells,hx,ae,Qf,Qn _ _ ae,hv,bQ,Qy,am,Cl,Q4 _ _ ew,Jw,Jp];intro H8 h8;refine Zf ?_;refine⟨Qr,x.args.length-(a+1),Zx,a+1,_,rfl,Zx,by rw[Jl];exact am,?_,putx kn h8,rfl⟩;refine (hm.ins Zx).congr fun z=>?_;rw[ey];simp only[Je,Ja];constructor
        ·rintro (h|h|h)
         ·exact .inl (.inr h)
         ·exact .inl (.inl h)
         ·exact .inr h
        ·rintro ((h|h)|h)
         ·exact .inr (.inl h)
         ·exact .inl h
         ·exact .inr (.inr h)
       ·intro aC;have bd:x.args.length≤a:=ZC;refine Zc ?_;refine bD _ _ ⟨bs2,am,hm.congr fun z=>?_,kn,rfl,rfl,rfl,rfl⟩;rw[iQ,Jc (by simpa[toN]using bd)];rfl
    ·rintro e2 H6 ⟨bs2,am,hm,kn,l3,l9,l10,l11⟩;refine Qp ?_;simp only[go_sem,X.next,l3,l9,l10,l11];exact⟨Qr,k,Zx,k,(k:Int)-1,bs2,rfl,Zx,Zx,rfl,am,hm,kn,rfl⟩
   ·intro hc;have aU:¬i<j:=ZA;refine Wh ?_;have e1:(i+1).toNat=m:=Zx;exact hK y9 bs1 H5 am (by rw[e1];exact hm) kn.drop
end Go.AE.Y
namespace Go.AE.Y
attribute [local go_sem] cond_true cond_false Bool.not_true Bool.not_false
open Go.Proofs.Tryz
variable {H H0 F:Heap}{K:V→Heap→Prop}{E L:List (Nat×Obj)}
structure SetO where
 c:C
 lg:List (Nat×Obj)
 ks:List Nat
structure SetO.ok (R:Nat)(s:SetO):Prop where
 nd:s.ks.Nodup
 lt:∀x∈s.ks,x<R
 m:(s.c=.mnil∧s.lg=[]∧s.ks=[])∨∃M ver,s.c=.mp M∧s.lg=[(M,.map ver (AQ s.ks))]
theorem SetO.ok.ah {R:Nat}{s:SetO}(h:s.ok R):s.c.ah=false:=by rcases h.m with ⟨h,_⟩|⟨M,ver,h,_⟩ <;> rw[h] <;> rfl
theorem SetO.ok.len {R:Nat}{s:SetO}(h:s.ok R):s.ks.length≤R:=Q90 h.nd h.lt
end Go.AE.Y
namespace Go.AE.Y
attribute [local instance] Classical.propDecidable
def tab (zs:List (Nat×List Bool))(b:Nat):RS':=fun r=>(((zs[b]?).map Prod.snd).getD []).getD r false=true
variable {zs zi zo:List (Nat×List Bool)}{F:Flo}
theorem EE {b:Nat}(h:b<zs.length)(r:Nat):tab zs b r↔zs[b].2.getD r false=true:=by simp[tab,h]
theorem Kb {b:Nat}{x:Nat×List Bool}(h:b<zs.length)(r:Nat):tab (zs.set b x) b r↔x.2.getD r false=true:=by simp[tab,h]
theorem Hh {b c:Nat}{x:Nat×List Bool}(h:c≠b):tab (zs.set b x) c=tab zs c:=by
 funext r
 simp only[tab];rw[Ja0 (fun e=>h e.symm)]
theorem PI {α:Type}{l:List α}{i:Nat}{x:α}(h:l[i]? = some x):l.set i x=l:=by
 have hi:=(List.getElem?_eq_some_iff.1 h).1;refine Jba fun j=>?_;rw[J7];by_cases fV:i=j
 ·subst fV;rw[if_pos rfl,if_pos hi,h]
 ·rw[if_neg fV]
theorem FZ {a b:List Bool}(hl:a.length=b.length)(h:∀r,a.getD r false=true→b.getD r false=true):cnt a≤cnt b∧(∀r,a.getD r false≠b.getD r false→cnt a<cnt b):=by
 induction a generalizing b with
 |nil=>
  cases b with
  |nil=>exact⟨Jp _,fun r hr=>absurd rfl hr⟩
  |cons=>simp at hl
 |cons x a ih=>
  cases b with
  |nil=>simp at hl
  |cons y b=>
   have ih':=ih (b:=b) Zaa fun r hr=>by have:=h (r+1);simpa using this Zaq
   have h0:x=true→y=true:=by have:=h 0;simpa using this
   have hc:∀(z:Bool) (l:List Bool),cnt (z::l)=cnt l+(if z=true then 1 else 0):=fun z l=>by
    simp only[cnt,Jbg];cases z <;> simp
   rw[hc,hc];refine⟨?_,fun r hr=>?_⟩
   ·cases x with
    |false=>have:=ih'.1;cases y <;> simp <;> omega
    |true=>rw[h0 rfl];have:=ih'.1;simp;omega
   ·cases r with
    |zero=>
     have nO:x≠y:=Zaq
     cases x with
     |true=>exact absurd (h0 rfl).symm nO
     |false=>
      cases y with
      |false=>exact absurd rfl nO
      |true=>have:=ih'.1;simp;omega
    |succ r=>
     have:=ih'.2 r Zaq
     cases x with
     |false=>cases y <;> simp <;> omega
     |true=>rw[h0 rfl];simp;omega
def Av (zs:List (Nat×List Bool)):Nat:=(zs.map fun p=>cnt p.2).sum
theorem Ka {b:Nat}{x:Nat×List Bool}(h:b<zs.length):Av (zs.set b x)+cnt zs[b].2=Av zs+cnt x.2:=by
 induction zs generalizing b with
 |nil=>simp at h
 |cons z zs ih=>
  cases b with
  |zero=>simp[Av];omega
  |succ b=>
   have:=ih (b:=b) ZI;simp only[Av,Ja5,Ju,Jaq,List.getElem_cons_succ]at this⊢;omega
theorem DD {R:Nat}(h:∀p∈zs,p.2.length=R):Av zs≤zs.length * R:=by
 induction zs with
 |nil=>simp[Av]
 |cons z zs ih=>
  have h1:=CH z.2;rw[h z Jj]at h1;have h2:=ih fun p hp=>h p (Jh _ hp);simp only[Av,Ju,Jaq,Jk,Jbo]at *;omega
structure LvInv (F:Flo)(zi zo:List (Nat×List Bool)):Prop where
 bi:∀b,b<F.n→∀r,tab zi b r→F.LI b r
 bo:∀b,b<F.n→∀r,tab zo b r→F.LO b r
 post:∀b,b<F.n→∀r,tab zi b r→F.thru (tab zo b) b r
def LvCl (F:Flo)(zi zo:List (Nat×List Bool))(b:Nat):Prop:=(∀r,F.outT (tab zi) b r→tab zo b r)∧∀r,F.thru (tab zo b) b r→tab zi b r
theorem LvInv.done (h:LvInv F zi zo)(hf:F.fits)(hc:∀b,b<F.n→LvCl F zi zo b):∀b,b<F.n→∀r,(tab zi b r↔F.LI b r)∧(tab zo b r↔F.LO b r):=by
 have hp:F.Pre (tab zi):=fun b hb r hr=>(hc b hb).2 r (Flo.thru_mono (hc b hb).1 b r hr);intro b hb r;refine⟨Flo.is_least hp h.bi hb r,h.bo b hb r,fun hr=>(hc b hb).1 r ?_⟩;exact Flo.outT_mono hf (fun c hc r hr=>(Flo.is_least hp h.bi hc r).2 hr) hb r hr
theorem LvInv.step {R z w y b:Nat}{bs bw bs1 nb:List Bool}{a a1 a2:Bool}(h:LvInv F zi zo)(hf:F.fits)(hb:b<F.n)(ck:zi.length=F.n)(em:zo.length=F.n)(hRi:∀p∈zi,p.2.length=R)(hRo:∀p∈zo,p.2.length=R)
  (iT:bs1.length=R) (qp:nb.length=R) (nL:zo[b]? = some (z,bs)) (gB:zi[b]? = some (w,bw))
  (g1:∀r,bs.getD r false=true→bs1.getD r false=true) (g2:∀r,bs1.getD r false=true→F.LO b r) (g3:∀r,F.outT (tab zi) b r→bs1.getD r false=true)
  (g4:∀r,nb.getD r false=true↔F.thru (fun r=>bs1.getD r false=true) b r)
  (k1:a1=true→a=true∨cnt bs<cnt bs1) (k2:a1=false→a=false∧bs1=bs)
  (k3:a2=true→a1=true∨∃r,nb.getD r false≠bw.getD r false) (k4:a2=false→a1=false∧∀r,r<R→nb.getD r false=bw.getD r false) :
  LvInv F (zi.set b (y,nb)) (zo.set b (z,bs1))∧Av zi+Av zo≤Av (zi.set b (y,nb))+Av (zo.set b (z,bs1))∧
   (a2=true→a=true∨Av zi+Av zo<Av (zi.set b (y,nb))+Av (zo.set b (z,bs1)))∧
   (a2=false→a=false∧LvCl F (zi.set b (y,nb)) (zo.set b (z,bs1)) b∧∀c,LvCl F zi zo c→LvCl F (zi.set b (y,nb)) (zo.set b (z,bs1)) c):=by
 have cf:b<zi.length:=Zx
 have cA:b<zo.length:=Zx
 have ezo:zo[b]=(z,bs):=by rw[Jm cA]at nL;simpa using nL
 have ezi:zi[b]=(w,bw):=by rw[Jm cf]at gB;simpa using gB
 have nt:bs.length=R:=hRo (z,bs) (by rw[←ezo];exact Jd cA);have ky:bw.length=R:=hRi (w,bw) (by rw[←ezi];exact Jd cf);have tzo:∀r,tab zo b r↔bs.getD r false=true:=fun r=>by rw[EE cA,ezo]
 have tzi:∀r,tab zi b r↔bw.getD r false=true:=fun r=>by rw[EE cf,ezi]
 have tzo':∀r,tab (zo.set b (z,bs1)) b r↔bs1.getD r false=true:=fun r=>Kb cA r;have tzi':∀r,tab (zi.set b (y,nb)) b r↔nb.getD r false=true:=fun r=>Kb cf r;have o6:∀r,bw.getD r false=true→nb.getD r false=true:=fun r hr=>by
  rw[g4];exact Flo.thru_mono (fun r hr=>g1 r ((tzo r).1 hr)) b r (h.post b hb r ((tzi r).2 hr))
 have c1:=FZ (a:=bs) (b:=bs1) Zx g1;have c2:=FZ (a:=bw) (b:=nb) Zx o6;have t1:=Ka (zs:=zo) (x:=(z,bs1)) cA;have t2:=Ka (zs:=zi) (x:=(y,nb)) cf;rw[ezo]at t1;rw[ezi]at t2;simp only at t1 t2;refine⟨⟨fun c hc r hr=>?_,fun c hc r hr=>?_,fun c hc r hr=>?_⟩,by have:=c1.1;have:=c2.1;omega,fun ha=>?_,fun ha=>?_⟩
 ·by_cases fv:c=b
  ·subst fv;rw[tzi',g4]at hr;exact Flo.LI_pre hf c hb r (Flo.thru_mono g2 c r hr)
  ·rw[Hh fv]at hr;exact h.bi c hc r hr
 ·by_cases fv:c=b
  ·subst fv;rw[tzo']at hr;exact g2 r hr
  ·rw[Hh fv]at hr;exact h.bo c hc r hr
 ·by_cases fv:c=b
  ·subst fv;rw[tzi',g4]at hr;exact Flo.thru_mono (fun r hr=>(tzo' r).2 hr) c r hr
  ·rw[Hh fv]at hr⊢;exact h.post c hc r hr
 ·rcases k3 ha with h1|⟨r,hr⟩
  ·rcases k1 h1 with h2|h2
   ·exact .inl h2
   ·right;have:=c2.1;omega
  ·right;have:=c2.2 r (fun e=>hr e.symm);have:=c1.1;omega
 ·obtain⟨h1,h2⟩:=k4 ha;obtain⟨h3,h4⟩:=k2 h1;have ma:∀r,nb.getD r false=bw.getD r false:=fun r=>by
   by_cases hr:r<R
   ·exact h2 r hr
   ·rw[Jb,Jb,Jq Zx,Jq Zx]
  have ti:tab (zi.set b (y,nb))=tab zi:=by
   funext c r
   by_cases fv:c=b
   ·subst fv;refine propext ?_;rw[tzi',tzi,ma]
   ·rw[Hh fv]
  have to:tab (zo.set b (z,bs1))=tab zo:=by
   funext c r
   by_cases fv:c=b
   ·subst fv;refine propext ?_;rw[tzo',tzo,h4]
   ·rw[Hh fv]
  refine⟨h3,⟨fun r hr=>?_,fun r hr=>?_⟩,fun c hc=>?_⟩
  ·rw[ti]at hr;exact (tzo' r).2 (g3 r hr)
  ·rw[tzi',g4];exact Flo.thru_mono (fun r hr=>(tzo' r).1 hr) b r hr
  ·rw[LvCl,ti,to];exact hc
end Go.AE.Y
