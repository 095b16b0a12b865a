/- Part 4 of the proof: the engine, codes, walks and plain laws, each named where it stands. -/
import Derived.Test.YtklkchlmmdjpaaaGreatZC
import Derived.Shelf.Sort.Plain
import Derived.Shelf.Sort.So_math_bits_LenIn
open Nat (reduceEqDiff reduceAdd reduceLeDiff reduceLT)
set_option linter.unusedVariables false
set_option linter.unusedSimpArgs false
set_option maxRecDepth 4000
open Bool renaming and_eq_true->Jq,false_eq_true->Jaf,not_eq_true'->Jbd,eq_iff_iff->Jbn,not_false->Jbo,true_and->Jbp
open Function renaming comp_def->Jbe
open List renaming getD_eq_getElem?_getD->Ja,mem_singleton->Jb,take_of_length_le->Jc,length_replicate->Jd,mem_append->Je,getElem_mem->Jg,take_succ_eq_append_getElem->Jh,length_set->Ji,getElem?_eq_getElem->Jj,mem_append_left->Jl,mem_cons_of_mem->Jm,length_nil->Jn,length_cons->Jo,mem_map->Jp,length_take->Jr,mem_cons_self->Js,getElem?_eq_none->Jt,length_map->Ju,mem_append_right->Jv,length_append->Jw,map_append->Jx,mem_cons->Jy,pairwise_iff_getElem->Jz,mem_iff_getElem->J0,mem_of_mem_take->J1,getD_cons_zero->J2,drop_zero->J4,mem_range->J5,filter_append->J6,perm_append_comm->J7,sum_append->J8,getElem?_map->J9,getElem_take->Jaa,nodup_append->Jab,pairwise_map->Jac,getElem_of_mem->Jad,map_congr_left->Jae,getElem?_take->Jag,map_cons->Jah,any_eq_true->Jai,length_drop->Jaj,not_mem_nil->Jak,range_succ->Jal,map_set->Jam,drop_eq_getElem_cons->Jan,append_assoc->Jao,length_range->Jap,all_eq_true->Jar,cons_append->Jas,filter_cons->Jat,take_length->Jau,pairwise_lt_range->Jav,contains_iff_mem->Jaw,filter_nil->Jax,map_map->Jay,mem_filter->Jaz,nil_append->Ja0,singleton_append->Ja1,take_append_drop->Ja2,pairwise_append->Ja5,take_take->Ja6,map_id->Ja7,getElem?_drop->Ja8,map_take->Ja9,pairwise_cons->Jba,ext_getElem?->Jbf,getElem?_set->Jbg,getElem_drop->Jbh,map_nil->Jbi,set_set->Jbj,ext_getElem->Jbl,getElem_map->Jbm
open List.Pairwise renaming filter->Ja4
open Nat renaming le_refl->Jf,zero_add->Jk,eq_zero_or_pos->Jbb,lt_or_ge->Jbk,add_zero->Jbq,le_trans->Jbr,sub_zero->Jbs
open Option renaming getD_some->J3,map_some->Ja3
open Option.some renaming injEq->Jaq
open Prod.mk renaming injEq->Jbc
namespace Go.AE.Y
open Go.Proofs.Tryz
variable {F H:Heap}{w:Nat}{s:LS}{K:V->Heap->Prop}
structure LStep (s s':LS)(d:Nat):Prop where
 bl:s.blocks.length<=s'.blocks.length
 ok:∀N,s.ok N->s'.ok (N+d)
 vl:s.vars.length<=s'.vars.length
 at_:s.at_<s.blocks.length->s'.at_<s'.blocks.length
 fn:s'.fns=s.fns/\s'.pfl=s.pfl
theorem LStep.trans {s s' s'':LS}{d e:Nat}(h:LStep s s' d)(k:LStep s' s'' e):LStep s s'' (d+e):=
 ⟨Jbr h.bl k.bl,λN hN=>by rw[<-Nat.add_assoc];exact k.ok _ (h.ok N hN),Jbr h.vl k.vl,λha=>k.at_ (h.at_ ha),k.fn.1.trans h.fn.1,k.fn.2.trans h.fn.2⟩
theorem LStep.refl (s:LS):LStep s s 0:=⟨Jf _,λN h=>h,Jf _,λh=>h,rfl,rfl⟩
theorem LStep.mono {s s':LS}{d e:Nat}(h:LStep s s' d)(hd:d<=e):LStep s s' e:=⟨h.bl,λN hN=>(h.ok N hN).mono ZD,h.vl,h.at_,h.fn⟩
theorem DM {N:Nat}(h:LInv F H w s)(ay:s.ok N)(hN:N+1<=2^38)(hK:∀(s':LS) (H':Heap),LInv F H' w s'->LStep s s' 1->K (.c (.int .i64 s.ab)) H') :
  Qv prog CQ [.c (.ptr w 0)] H K:=by
 have hw:=h.hw;have h0:=ay.r0;have h1:=ay.r1;refine Qc Ab Qauv ?_;refine Wj ?_;simp only[go_sem,hw,LS.o];refine⟨Qo,λH1 pY=>?_⟩;have h':LInv F H1 w { s with ab:=s.ab+1 }:=h.setw pY rfl rfl rfl rfl h.gv h.rv;have fQ:=h'.hw;refine Qa ?_;simp only[go_sem,fQ,LS.o];refine⟨Qo,?_⟩;refine Zf ?_;refine hK _ H1 h' ⟨Jf _,λM hM=>⟨?_,?_,hM.n0,?_,?_,?_,?_⟩,Jf _,λh=>h,rfl,rfl⟩
 ·have:=hM.r0;show 0<=s.ab+1;omega
 ·have:=hM.r1;show s.ab+1<=_;omega
 ·have:=hM.n1;show s.next<=_;omega
 ·have:=hM.b1;show s.blocks.length<=_;omega
 ·intro b hb;have:=hM.i1 b hb;omega
 ·have:=hM.v1;show s.vars.length<=_;omega
theorem Kh {N:Nat}(h:LInv F H w s)(ay:s.ok N)(hN:N+1<=2^38)(hK:∀(s':LS) (H':Heap),LInv F H' w s'->LStep s s' 1->s.blocks.length<s'.blocks.length->s'.at_=s.at_->K (.c (.int .i64 s.blocks.length)) H') :
  Qv prog Ce [.c (.ptr w 0)] H K:=by
 have hw:=h.hw;have bf:=ay.b1;have cw:=h.gb.ai;refine Qc Ab Qauu ?_;refine Wj ?_;simp only[go_sem,hw,LS.o,cw];refine h.addBlk (b:=⟨.sl true 4 [],[],[],0,0,true,[]⟩) ZU rfl rfl rfl λy H1 fQ cont=>?_;simp only[go_sem,Qqc,fQ,LS.o];intro H2 h2;have h':=cont H2 h2;have mc:=h'.hw;obtain⟨y2,ey,ny,hv3⟩:=h'.bvec ZF;simp only[C.ah.injEq]at ey;obtain⟨rfl,_⟩:=ey;refine Qa ?_;simp only[go_sem,mc,LS.o,hv3,Ju,Jw];refine⟨ZD,λhl=>⟨Qo,?_⟩⟩;refine Zf ?_;have e1:(((s.blocks.length+1:Nat):Int)-1)=s.blocks.length:=ZD
 rw[e1];refine hK _ H2 h' ⟨ZF,λM hM=>⟨hM.r0,?_,hM.n0,?_,?_,?_,?_⟩,Jf _,λha=>by simp;show s.at_<_;omega,rfl,rfl⟩ ZF rfl
 ·have:=hM.r1;show s.ab<=_;omega
 ·have:=hM.n1;show s.next<=_;omega
 ·have:=hM.b1;simp;omega
 ·intro b hb;rcases Je.1 hb with hb|hb
  ·have:=hM.i1 b hb;omega
  ·simp at hb;subst hb;simp
 ·have:=hM.v1;show s.vars.length<=_;omega
theorem CU {N:Nat}(h:LInv F H w s)(ay:s.ok N)(hN:N+1<=2^38)(hK:∀(s':LS) (H':Heap),LInv F H' w s'->LStep s s' 1->s.blocks.length<s'.blocks.length->K (.c (.int .i64 s.blocks.length)) H') :
  Qv prog Ce [.c (.ptr w 0)] H K:=Kh h ay hN λs' H' a b c _=>hK s' H' a b c
theorem Cl {N:Nat}{op to n:Int}{fl:Bool}{args:List Int}(h:LInv F H w s)(bp:s.at_<s.blocks.length)(ay:s.ok N)(hN:N+1<=2^38)
  (hK:∀(s':LS) (H':Heap),LInv F H' w s'->LStep s s' 1->K (.c (.int .i64 to)) H') :
  Qv prog BN [.c (.ptr w 0),.c (.int .i64 op),.c (.int .i64 to),.c (.int .i64 n),.c (.sl fl 1 (Qb args))] H K:=by
 have hw:=h.hw;obtain⟨y,db,nI,hy⟩:=h.bvec ZD;have hm:=Jg bp;have wm:=ay.i1 _ hm;have wh:=(h.gi _ hm).ai;have iQ:List.getD (List.map Blk.row s.blocks) s.at_ []=s.blocks[s.at_].row:=Zba
 have eC:List.getD (List.take s.blocks.length (List.map Blk.row s.blocks)) s.at_ []=s.blocks[s.at_].row:=by
  rw[Jc ZF];exact iQ
 refine Qc Ab Qa9l ?_;refine Za ?_;refine Aj ?_;simp only[go_sem,hw,LS.o,db,hy,bp,Jk,Ju];refine Qa ?_;simp only[go_sem,hy,bp,eC,Blk.row,wh,Jk,Ju];refine h.addIns bp db nI ⟨op,to,n,fl,args,rfl⟩ ZU λz H1 fQ jZ cont=>?_;simp only[go_sem,Qy1,jZ,iQ,bp,Blk.row,Jk,Ju];intro H2 h2;obtain⟨b',aU,h'⟩:=cont H2 h2;refine Za ?_;refine Zf ?_;refine hK _ H2 h' ⟨ZF,λM hM=>⟨hM.r0,?_,hM.n0,?_,?_,?_,?_⟩,Jf _,λha=>by simp;show s.at_<_;omega,rfl,rfl⟩
 ·have:=hM.r1;show s.ab<=_;omega
 ·have:=hM.n1;show s.next<=_;omega
 ·have:=hM.b1;simp;omega
 ·intro b hb;rcases Gs hb with rfl|hb
  ·have:=hM.i1 _ hm;omega
  ·have:=hM.i1 b hb;omega
 ·have:=hM.v1;show s.vars.length<=_;omega
theorem CK {N:Nat}{kind on:Int}{at':Nat}{fl:Bool}{next:List Int}(h:LInv F H w s)(bp:s.at_<s.blocks.length)(wL:at'<s.blocks.length)
  (hK:∀(s':LS) (H':Heap),LInv F H' w s'->LStep s s' 0->K (.tup []) H') :
  Qv prog Cx [.c (.ptr w 0),.c (.int .i64 kind),.c (.int .i64 on),.c (.sl fl 1 (Qb next)),.c (.int .i64 at')] H K:=by
 have hw:=h.hw;obtain⟨y,db,nI,hy⟩:=h.bvec ZD;have hm:=Jg bp;have iQ:List.getD (List.map Blk.row s.blocks) s.at_ []=s.blocks[s.at_].row:=Zba
 refine Qc Ab Qa0j ?_;refine Aj ?_;simp only[go_sem,hw,LS.o,db,hy,bp,Jk,Ju];refine Qa ?_;simp only[go_sem,hy,iQ,bp,Blk.row,Jk,Ju];intro H1 h1;have h1:H1=H.set y (.vec 5 ((s.blocks.set s.at_ { s.blocks[s.at_]with jump:=kind }).map Blk.row)):=by rw[h1,<-ML];rfl
 have hv:=h.setBlk bp db nI h1 rfl rfl rfl;obtain⟨b1,bf,gC,hb1i⟩:∃b1:Blk,b1={ s.blocks[s.at_]with jump:=kind }/\b1.aT=s.blocks[s.at_].aT/\b1.ic=s.blocks[s.at_].ic:=⟨_,rfl,rfl,rfl⟩;rw[<-bf]at hv h1;have jZ:H1 y=.vec 5 ((s.blocks.set s.at_ b1).map Blk.row):=by rw[h1];exact Heap.aC _ _ _
 have eC:List.getD ((s.blocks.set s.at_ b1).map Blk.row) s.at_ []=b1.row:=Zba
 refine Qa ?_;simp only[go_sem,jZ,eC,bp,Blk.row,Jk,Ju,Ji];intro H2 h2;have h2:H2=H1.set y (.vec 5 (((s.blocks.set s.at_ b1).set s.at_ { b1 with on:=on }).map Blk.row)):=by rw[h2];simp only[Jam];rfl
 have hv:=hv.setBlk (i:=s.at_) (b':={ b1 with on:=on }) (by simpa using bp) (by simpa using db) (by rfl) h2 ZF ZF ZF;simp only[Jbj]at hv h2;obtain⟨b2,cI,wK⟩:∃b2:Blk,b2={ b1 with on:=on }/\b2.aT=b1.aT:=⟨_,rfl,rfl⟩;rw[<-cI]at hv h2;have lW:H2 y=.vec 5 ((s.blocks.set s.at_ b2).map Blk.row):=by rw[h2];exact Heap.aC _ _ _
 have hg3:List.getD ((s.blocks.set s.at_ b2).map Blk.row) s.at_ []=b2.row:=Zba
 refine Qa ?_;simp only[go_sem,lW,hg3,bp,Blk.row,Jk,Ju,Ji];intro H3 h3;have h3:H3=H2.set y (.vec 5 (((s.blocks.set s.at_ b2).set s.at_ { b2 with next:=next,nfl:=fl }).map Blk.row)):=by rw[h3];simp only[Jam];rfl
 have hv:=hv.setBlk (i:=s.at_) (b':={ b2 with next:=next,nfl:=fl }) (by simpa using bp) (by simpa using db) (by rfl) h3 ZF ZF ZF;simp only[Jbj]at hv;have qI:=hv.hw;refine Qp ?_;simp only[go_sem,qI,LS.o];intro H4 h4;have h':=hv.setw (s':={ s with lb:=[(y,.vec 5 ((s.blocks.set s.at_ { b2 with next:=next,nfl:=fl }).map Blk.row))],blocks:=s.blocks.set s.at_ { b2 with next:=next,nfl:=fl },at_:=at' }) h4 rfl rfl rfl rfl hv.gv hv.rv;simp only[Q4,Aa,Q8y];refine⟨ZF,hK _ H4 h' ⟨ZF,λM hM=>⟨hM.r0,hM.r1,hM.n0,hM.n1,?_,?_,hM.v1⟩,Jf _,λha=>by simpa using wL,rfl,rfl⟩⟩
 ·have:=hM.b1;simpa using this
 ·intro b hb;rcases Gs hb with rfl|hb
  ·show b2.aT.length<=_;rw[wK,gC];exact hM.i1 _ hm
  ·exact hM.i1 b hb
theorem V6 {l:List Fn}{fl:Bool}{name:List UInt8}(hK:∀n:Int,K (.c (.int .i64 n)) H):Qv prog Q6d [.ag [.sl fl 3 (Av l)],.c (.str name)] H K:=by
 refine Qc Ab Qboc ?_;have retf:∀(n:Int) (e:Env),lk 4 e=.c (.int .i64 n)->Q4 Fg K .ret e H:=by
  intro b e h1;simp only[go_sem,Q4,Aa,Jb,forall_eq,RS.op,h1];exact hK _
 refine Wf ?_;refine Qg (Qd (Qs (λn e1 H1=>∃(i:Nat),n=l.length-i/\i<=l.length/\H1=H/\e1=[(1,.c (.str name)),(2,.c (.pp [.sl fl 3 (Av l)])),(5,.c (.int .i64 i))]) l.length ?_ ?_))
 ·exact⟨0,ZD,ZD,rfl,rfl⟩
 ·rintro n e1 H1 ⟨i,dz,hi,rfl,rfl⟩;refine Q3 (Qa ?_);simp only[go_sem,BC];intro hl;simp only[LIM]at hl;refine Wv ?_ ?_
  ·intro hc;have ae:i<l.length:=ZG
   refine Wq ?_;simp only[go_sem,ae,BC,Gl _ _ ae,Fn.cells];refine Ww ?_ ?_
   ·intro ao;refine Wi ?_;exact retf _ _ ZL
   ·intro ao;refine Wl ?_;exact⟨Qo,l.length-(i+1),ZD,i+1,rfl,ZD,rfl⟩
  ·intro hc;refine Wc ?_;refine Qk ?_;exact retf _ _ ZL
theorem HC {name:List UInt8}(h:LInv F H w s)(hK:∀n:Int,K (.c (.int .i64 n)) H):Qv prog P5 [.c (.ptr w 0),.c (.str name)] H K:=by
 have hw:=h.hw;obtain⟨ey,ny⟩:=h.vget;have b6:=h.gv.ax;have qf:=h.gv.aN;have md:=h.gv.ai;refine Qc Ab Qa9m ?_;have retf:∀(n:Int) (e:Env),lk 4 e=.c (.int .i64 n)->Q4 Rl K .ret e H:=by
  intro b e h1;simp only[go_sem,Q4,Aa,Jb,forall_eq,RS.op,h1];exact hK _
 refine Wg ?_;simp only[go_sem,hw,LS.o,ey,b6,md];intro hl;simp only[LIM]at hl;refine⟨Qo,?_⟩;refine Qg (Qd (Qs (λn e1 H1=>∃(j:Nat),n=j/\j<=s.vars.length/\H1=H/\e1=[(0,.c (.ptr w 0)),(1,.c (.str name)),(5,.c (.int .i64 ((j:Int)-1)))]) s.vars.length ?_ ?_))
 ·exact⟨s.vars.length,rfl,ZD,rfl,rfl⟩
 ·rintro n e1 H1 ⟨j,vp,hj,rfl,rfl⟩;refine Wa ?_;refine Wv ?_ ?_
  ·intro hc;have jP:1<=j:=Za7
   obtain⟨i,rfl⟩:∃i,j=i+1:=⟨j-1,ZD⟩;have e1:(((i+1:Nat):Int)-1)=(i:Int):=ZD
   have ae:i<s.vars.length:=ZD
   obtain⟨nm,a,b,hr⟩:=h.rv _ (Jg ae);have bh:List.getD s.vars i []=[.str nm,.int .i64 a,.int .i64 b]:=by rw[<-hr];simp[Ja,ae]
   rw[e1]at hc⊢;refine Wq ?_;simp only[go_sem,hw,LS.o,ey,ny,b6,md,qf,ae,bh];refine Ww ?_ ?_
   ·intro ao;refine Qa ?_;simp only[go_sem,hw,LS.o,ey,ny,b6,md,qf,ae,bh];refine Zl ?_;exact retf _ _ ZL
   ·intro ao;refine Wl ?_;exact⟨Qo,i,ZD,i,rfl,ZD,rfl⟩
  ·intro hc;refine Wc ?_;refine Qk ?_;exact retf _ _ ZL
def Dh (n:Nat):Prop:=∀(x:Ex) (F H:Heap) (w:Nat) (s:LS) (N:Nat) (K:V->Heap->Prop),x.size<=n->x.ok->LInv F H w s->s.at_<s.blocks.length->s.ok N->N+10 * x.size<=2^38->
  (∀(v:Int) (s':LS) (H':Heap),LInv F H' w s'->LStep s s' (10 * x.size)->K (.c (.int .i64 v)) H')->Qv prog Em [.c (.ptr w 0),.ag x.cells] H K
def AndL (n:Nat):Prop:=∀(x:Ex) (F H:Heap) (w:Nat) (s:LS) (N:Nat) (K:V->Heap->Prop),x.size<=n->x.ok->x.op=10->LInv F H w s->s.at_<s.blocks.length->s.ok N->N+10 * x.size<=2^38->
  (∀(v:Int) (s':LS) (H':Heap),LInv F H' w s'->LStep s s' (10 * x.size)->K (.c (.int .i64 v)) H')->Qv prog RA [.c (.ptr w 0),.ag x.cells] H K
theorem V5 {n:Nat}(hE:∀m,m<n->Dh m):AndL n:=by
 intro x F H w s N K hn ay bP h bp aE hN hK;have bj:=x.size_kids;have dK:=Ex.ok_and ay bP;have fG:=Ex.ok_kids ay;obtain⟨a,b,df⟩:∃a b,x.kids=[a,b]:=by
  match hx:x.kids,dK with
  |[a,b],_=>exact⟨a,b,rfl⟩
 rw[df]at bj fG;simp only[As,A9]at bj fG;refine Qc Ab Qa9k ?_;refine Zx ?_;refine Qa ?_;simp only[go_sem,df,Ap,Ex.cK,Ex.bt,Ex.au,J2];refine⟨ZD,?_⟩;refine hE a.size ZD a F H w s N _ (Jf _) fG.1 h bp aE ZD λva s1 H1 h1 st1=>?_;simp only[go_sem,Qyt];refine Za ?_;refine DM h1 (st1.ok _ aE) ZD λs2 H2 h2 st2=>?_;have st2:=st1.trans st2;simp only[go_sem,Qyv];refine Cl (args:=[]) h2 (st2.at_ bp) (st2.ok _ aE) ZD λs3 H3 h3 st3=>?_;have st3:=st2.trans st3;simp only[go_sem,Qyu];refine Za ?_;refine CU h3 (st3.ok _ aE) ZD λs4 H4 h4 st4 yI=>?_;have st4':=st4;have st4:=st3.trans st4;simp only[go_sem,Qyw];refine Za ?_;refine CU h4 (st4.ok _ aE) ZD λs5 H5 h5 st5 yH=>?_;have st5:=st4.trans st5;simp only[go_sem,Qyx];refine Za ?_;refine CK (next:=[(s3.blocks.length:Int),(s4.blocks.length:Int)]) (N:=0) h5 (st5.at_ bp) ZD λs6 H6 h6 st6=>?_;have yG:=st6.bl;have st6:=st5.trans st6;refine Qa ?_;simp only[go_sem,Ex.cK,Ex.bt,Ex.au,J2,List.getD_cons_succ];refine⟨ZD,?_⟩;refine hE b.size ZD b F H6 w s6 _ _ (Jf _) fG.2.1 h6 (st6.at_ bp) (st6.ok _ aE) ZD λvb s7 H7 h7 st7=>?_;have yF:=st7.bl;have st7:=st6.trans st7;simp only[go_sem,Qyy];refine Za ?_;refine DM h7 (st7.ok _ aE) ZD λs8 H8 h8 st8=>?_;have hb8:=st8.bl;have st8:=st7.trans st8;simp only[go_sem,Qy0];refine Cl (args:=[vb]) h8 (st8.at_ bp) (st8.ok _ aE) ZD λs9 H9 h9 st9=>?_;have hb9:=st9.bl;have st9:=st8.trans st9;simp only[go_sem,Qyz];refine Za ?_;refine Cl (args:=[s7.ab]) h9 (st9.at_ bp) (st9.ok _ aE) ZD λs10 H10 dg st10=>?_;have hb10:=st10.bl;have st10:=st9.trans st10;refine Za ?_;refine CK (next:=[(s4.blocks.length:Int)]) (N:=0) dg (st10.at_ bp) ZD λs11 H11 dG st11=>?_;have st11:=st10.trans st11;refine Za ?_;refine Zf ?_;exact hK _ s11 H11 dG (st11.mono ZD)
set_option maxHeartbeats 2000000 in
theorem XJ {n:Nat}(hA:AndL n)(hE:∀m,m<n->Dh m):Dh n:=by
 intro x F H w s N K hn ay h bp aE hN hK;have bj:=x.size_kids;have fG:=Ex.ok_kids ay;refine Qc Ab Qa0i ?_;have retf:∀(v:Int) (e:Env) (s':LS) (H':Heap),LInv F H' w s'->LStep s s' (10 * x.size)->lk 4 e=.c (.int .i64 v)->Q4 RJ K .ret e H':=by
  intro v e s' H' a1 a2 h1;simp only[go_sem,Q4,Aa,Jb,forall_eq,RS.op,h1];exact hK _ _ _ a1 a2
 refine Zx ?_;refine Wa ?_;refine Wm ?_;refine Ww ?_ ?_
 ·intro hc;refine ZB ?_;refine DM h aE ZD λs1 H1 h1 st1=>?_;simp only[go_sem,Qup];refine Cl (args:=[]) h1 (st1.at_ bp) (st1.ok _ aE) ZD λs2 H2 h2 st2=>?_;simp only[go_sem,Quo];refine Zk ?_;exact retf _ _ s2 H2 h2 ((st1.trans st2).mono ZD) ZL
 intro bF;refine Za ?_;refine Ww ?_ ?_
 ·intro hc;refine Za ?_;refine HC h λv=>?_;simp only[go_sem,Quq];refine Zk ?_;exact retf _ _ s H h ((LStep.refl s).mono ZD) ZL
 intro ao;refine Za ?_;refine Ww ?_ ?_
 ·intro hc;have bP:x.op=10:=ZG
  refine Za ?_;rw[<-x.aD];refine hA x F H w s N _ hn ay bP h bp aE hN λv s1 H1 h1 st1=>?_;simp only[go_sem,Qur];refine Zk ?_;exact retf _ _ s1 H1 h1 st1 ZL
 intro bk;refine Zd ?_;refine Wf ?_;refine Qg (Qd (Qs (λn e1 H1=>∃(i:Nat) (ars:List Int) (c:C) (Lg:List (Nat×Obj)) (s':LS),n=x.kids.length-i/\i<=x.kids.length/\ars.length=i/\Gr Lg 1 (Qb ars) c/\LInv F H1 w s'/\Kn F H1 [] (s'.L w++Lg)/\
  LStep s s' (10 * As (x.kids.take i))/\e1=[(0,.c (.ptr w 0)),(3,.c (.pp [.int .i64 x.op,.int .i64 x.n,.str x.name,.sl false 4 (Ap x.kids)])),(5,.c c),(6,.c (.int .i64 i))]) x.kids.length ?_ ?_))
 ·exact⟨0,[],_,[],s,ZD,ZD,rfl,.nil 1,h,by simpa using h.kn,(LStep.refl s).mono ZD,rfl⟩
 ·rintro n e1 H1 ⟨i,ars,c,Lg,s1,dz,hi,pO,aq,h1,kn,st1,rfl⟩;refine Q3 (Qa ?_);simp only[go_sem,Bi];intro hl;simp only[LIM]at hl;refine Wv ?_ ?_
  ·intro hc;have ae:i<x.kids.length:=ZG
   have hm:=Gv (Jg ae);have b8:=RP ae;have qh:=Tb x.kids (i+1);refine Zd ?_;refine Qg (Qd (Qp ?_));simp only[go_sem,ae,Bi,Ei _ _ ae,Ex.cK,Ex.bt,Ex.au];obtain⟨F',hf,back⟩:=h1.beside kn aq;refine hE x.kids[i].size ZD _ F' H1 w s1 _ _ (Jf _) (F8 fG _ (Jg ae)) hf (st1.at_ bp) (st1.ok _ aE) ZD λv s2 H2 h2 st2=>?_;obtain⟨h2,kn⟩:=back s2 H2 h2;simp only[go_sem,Qut];refine kn.grow (new:=Qb [v]) aq (.mk' _ _ _ _) (Qy _) (by simp only[Qe,pO,Jo,Jn,LIM];omega) λy' H3 kn=>?_;simp only[go_sem,Qus];refine Zg ?_;refine⟨Qo,x.kids.length-(i+1),ZD,i+1,ars++[v],_,_,s2,rfl,ZD,by simp[pO],.mk y' 1 (Qb (ars++[v])) (n:=(Qb ars).length+(Qb [v]).length) Zar,h2.re kn.drop,by rw[CO];exact kn,(st1.trans st2).mono (by rw[b8];omega),Zar⟩
  ·intro hc;have aY:x.kids.length<=i:=ZG
   rw[Jc aY]at st1;refine Zb ?_;refine Q3 (Q3 ?_);obtain⟨S,H2,f1,f2,kn2⟩:=aq.freeze kn (Qy _);have h2:=h1.re kn2;refine c_gh (Gk S (λt=>?_) f2) (e':=[(0,.c (.ptr w 0)),(3,.c (.pp [.int .i64 x.op,.int .i64 x.n,.str x.name,.sl false 4 (Ap x.kids)])),(5,.c (.sl false 1 (Qb ars)))]) ?_
   ·simp only[lk];split
    ·exact .c _ _ (.same _ rfl)
    ·split
     ·exact .c _ _ (.same _ rfl)
     ·split
      ·exact .c _ _ f1
      ·exact .unk _
   refine Za ?_;refine Wm ?_;refine Ww ?_ ?_
   ·intro hc;refine Za ?_;refine DM h2 (st1.ok _ aE) ZD λs3 H3 h3 st3=>?_;have st3:=st1.trans st3;simp only[go_sem,Qqe];refine Cl h3 (st3.at_ bp) (st3.ok _ aE) ZD λs4 H4 h4 st4=>?_;simp only[go_sem,Qqd];refine Zk ?_;exact retf _ _ s4 H4 h4 ((st3.trans st4).mono ZD) ZL
   intro bN;refine Za ?_;refine Ww ?_ ?_
   ·intro hc;refine Za ?_;refine DM h2 (st1.ok _ aE) ZD λs3 H3 h3 st3=>?_;have st3:=st1.trans st3;simp only[go_sem,Qqg];refine Cl h3 (st3.at_ bp) (st3.ok _ aE) ZD λs4 H4 h4 st4=>?_;simp only[go_sem,Qqf];refine Zk ?_;exact retf _ _ s4 H4 h4 ((st3.trans st4).mono ZD) ZL
   intro iS;refine Za ?_;refine Ww ?_ ?_
   ·intro hc;have mc:=h2.hw;refine Aj ?_;simp only[go_sem,mc,LS.o];refine DM h2 (st1.ok _ aE) ZD λs3 H3 h3 st3=>?_;have qI:=h3.hw;have iR:=st3.fn;have st3:=st1.trans st3;simp only[go_sem,Qqj,qI,LS.o,iR.1,iR.2];refine V6 λq=>?_;simp only[go_sem,Qqi];refine Cl h3 (st3.at_ bp) (st3.ok _ aE) ZD λs4 H4 h4 st4=>?_;simp only[go_sem,Qqh];refine Zk ?_;exact retf _ _ s4 H4 h4 ((st3.trans st4).mono ZD) ZL
   intro yB;refine Zd ?_;refine ZB ?_;refine DM h2 (st1.ok _ aE) ZD λs3 H3 h3 st3=>?_;have st3:=st1.trans st3;simp only[go_sem,Qql];refine Cl h3 (st3.at_ bp) (st3.ok _ aE) ZD λs4 H4 h4 st4=>?_;simp only[go_sem,Qqk];refine Qk ?_;exact retf _ _ s4 H4 h4 ((st3.trans st4).mono ZD) ZL
theorem HG (n:Nat):Dh n:=by
 induction n using Nat.strongRecOn with
 |ind n ih=>exact XJ (V5 ih) ih
theorem Qbsx:∀(n:Nat) (l:List St) {fl:Bool} {H:Heap} {K:V->Heap->Prop},Ah l<=n->Ah l<=2^40->(∀v:Nat,v<=Ah l->K (.c (.int .i64 v)) H)->Qv prog GO [.c (.sl fl 5 (Ak l))] H K:=by
 intro n
 induction n using Nat.strongRecOn with
 |ind n ih=>
 intro l fl H K hn hb hK;have ak:=Lj l;refine Qc Ab Qbth ?_;refine Wd ?_;refine Wa ?_;refine Qg (Qd (Qs (λn e1 H1=>∃(i v:Nat),n=l.length-i/\i<=l.length/\v<=Ah (l.take i)/\H1=H/\e1=[(0,.c (.sl fl 5 (Ak l))),(3,.c (.int .i64 v)),(4,.c (.int .i64 i))]) l.length ?_ ?_))
 ·exact⟨0,0,ZD,ZD,ZD,rfl,rfl⟩
 ·rintro n e1 H1 ⟨i,v,dz,hi,hv,rfl,rfl⟩;refine Q3 (Qa ?_);simp only[go_sem,Bp];intro hl;simp only[LIM]at hl;refine Wv ?_ ?_
  ·intro hc;have ae:i<l.length:=ZG
   have hm:=Pi (Jg ae);have b8:=R0 ae;have qh:=SE l (i+1);have hse:=(l[i]'ae).size_eq;refine Wo ?_;simp only[go_sem,ae,Bp,Ej _ _ ae,St.aD];refine Qbne ?_;obtain⟨t,ht,xO⟩:∃t:Nat,(if decide (l[i].op=1)=true then (1:Int)else 0)=t/\t<=1:=by
    by_cases h:l[i].op=1
    ·exact⟨1,ZaY,Jf _⟩
    ·exact⟨0,ZaY,ZD⟩
   simp only[go_sem,Lp,ae,Bp,Ej _ _ ae,St.aD,ht];refine⟨Qo,?_⟩;refine ih (Ah l[i].body) ZD l[i].body (Jf _) ZD λa ha=>?_;simp only[go_sem,Lq,ae,Bp,Ej _ _ ae,St.aD];refine⟨Qo,?_⟩;refine ih (Ah l[i].els) ZD l[i].els (Jf _) ZD λc hc=>?_;simp only[go_sem,Lr];refine⟨Qo,?_⟩;refine Zg ?_;refine⟨Qo,l.length-(i+1),ZD,i+1,v+t+a+c,rfl,ZD,ZD,rfl⟩
  ·intro hc;have aY:l.length<=i:=ZG
   refine Ws ?_;rw[Jc aY]at hv;exact hK v ZD
def HJ (n:Nat):Prop:=∀(x:St) (F H:Heap) (w:Nat) (s:LS) (N:Nat) (K:V->Heap->Prop),x.size<=n->x.ok->LInv F H w s->s.at_<s.blocks.length->s.ok N->N+10 * x.size<=2^38->
  (∀(s':LS) (H':Heap),LInv F H' w s'->LStep s s' (10 * x.size)->K (.tup []) H')->Qv prog Sj [.c (.ptr w 0),.ag x.cells] H K
def Vr (n:Nat):Prop:=∀(x:St) (F H:Heap) (w:Nat) (s:LS) (N:Nat) (K:V->Heap->Prop),x.size<=n->x.ok->LInv F H w s->s.at_<s.blocks.length->s.ok N->N+10 * x.size<=2^38->
  (∀(s':LS) (H':Heap),LInv F H' w s'->LStep s s' (10 * x.size)->K (.tup []) H')->Qv prog Sk [.c (.ptr w 0),.ag x.cells] H K
def Dr (n:Nat):Prop:=∀(l:List St) (fl:Bool) (F H:Heap) (w:Nat) (s:LS) (N:Nat) (K:V->Heap->Prop),Ah l<=n->A2 l->LInv F H w s->s.at_<s.blocks.length->s.ok N->N+10 * Ah l<=2^38->
  (∀(s':LS) (H':Heap),LInv F H' w s'->LStep s s' (10 * Ah l)->K (.tup []) H')->Qv prog G5 [.c (.ptr w 0),.c (.sl fl 5 (Ak l))] H K
theorem Qbqz {n:Nat}(hS:HJ n):Dr n:=by
 intro l fl F H w s N K hn ay h bp aE hN hK;have hw:=h.hw;obtain⟨ey,ny⟩:=h.vget;have b6:=h.gv.ax;have md:=h.gv.ai;refine Qc Ab Qauw ?_;refine Qa ?_;simp only[go_sem,hw,LS.o,ey,b6,md];intro xM;refine Wa ?_;refine Qg (Qd (Qs (λn e1 H1=>∃(i:Nat) (s':LS),n=l.length-i/\i<=l.length/\LInv F H1 w s'/\LStep s s' (10 * Ah (l.take i))/\e1=[(0,.c (.ptr w 0)),(1,.c (.sl fl 5 (Ak l))),(4,.c (.int .i64 s.vars.length)),(5,.c (.int .i64 i))]) l.length ?_ ?_))
 ·exact⟨0,s,ZD,ZD,h,(LStep.refl s).mono ZD,rfl⟩
 ·rintro n e1 H1 ⟨i,s1,dz,hi,h1,st1,rfl⟩;refine Q3 (Qa ?_);simp only[go_sem,Bp];intro hl;simp only[LIM]at hl;refine Wv ?_ ?_
  ·intro hc;have ae:i<l.length:=ZG
   have hm:=Pi (Jg ae);have b8:=R0 ae;have qh:=SE l (i+1);refine Zd ?_;refine Qg (Qd (Qp ?_));simp only[go_sem,ae,Bp,Ej _ _ ae,St.take5,St.bt,St.au];refine hS l[i] F H1 w s1 _ _ ZD (Qbq2 ay _ (Jg ae)) h1 (st1.at_ bp) (st1.ok _ aE) ZD λs2 H2 h2 st2=>?_;refine Zg ?_;exact⟨Qo,l.length-(i+1),ZD,i+1,s2,rfl,ZD,h2,(st1.trans st2).mono (by rw[b8];omega),rfl⟩
  ·intro hc;have aY:l.length<=i:=ZG
   rw[Jc aY]at st1;have fQ:=h1.hw;obtain⟨oA,hv2'⟩:=h1.vget;have eJ:=h1.gv.ax;have hvo':=h1.gv.ai;have hve':=h1.gv.aN;have qO:=st1.vl;have uI:∀r∈s1.vars.take s.vars.length,VarRow r:=λr hr=>h1.rv r (J1 hr);have fin:∀(H2:Heap) (c:C),H2=H1.set w (LS.o { s1 with vc:=c })->VGr s1.lv (s1.vars.take s.vars.length) c->Q4 Sa K .nrm [] H2:=by
    intro H2 c h2 hg;simp only[Q4,Aa,Sa];refine⟨ZF,hK { s1 with vc:=c,vars:=s1.vars.take s.vars.length } H2 (h1.setw h2 rfl rfl rfl rfl hg uI) ⟨st1.bl,λM hM=>?_,by simp;omega,st1.at_,st1.fn⟩⟩;have:=st1.ok M hM;exact⟨this.r0,this.r1,this.n0,this.n1,this.b1,this.i1,by have:=this.v1;simp;omega⟩
   refine Zb ?_;refine Qp ?_;rcases h1.gv with ⟨g1,g2,g3⟩|⟨y,all,k,g1,g2,g3,g4⟩
   ·have hz:s.vars.length=0:=(by rw[g2]at qO;simpa using qO);simp only[go_sem,fQ,LS.o,g1,hz,List.take_nil,List.drop_nil];refine⟨⟨ZD,ZD⟩,λH2 h2=>?_⟩;refine fin H2 (.sl true 3 []) h2 (.inl ⟨rfl,by rw[g2];simp,g3⟩)
   ·rw[g1]at oA eJ;have hk:k=s1.vars.length:=(by simpa[ax]using eJ);simp only[go_sem]at oA;simp only[go_sem,fQ,LS.o,g1,oA];refine⟨⟨ZD,ZD⟩,λH2 h2=>?_⟩;refine fin H2 (.ah y 3 0 (s.vars.length-0)) h2 (.inr ⟨y,all,s.vars.length-0,rfl,ZD,?_,g4⟩);rw[g3,Ja6];congr 1;omega
set_option maxHeartbeats 1000000 in
theorem Qbs1 {n:Nat}(hS:∀m,m<n->Dr m):Vr n:=by
 intro x F H w s N K hn ay h bp aE hN hK;have bj:=x.size_eq;rw[St.ok_eq]at ay;obtain⟨jG,wM,dr,yz⟩:=ay;have yJ:=Gv (Jg jG);refine Qc Ab Qa0k ?_;refine Zx ?_;refine Za ?_;refine CU h aE ZD λs1 H1 h1 st1 bf=>?_;simp only[go_sem,Quu];refine Za ?_;refine CU h1 (st1.ok _ aE) ZD λs2 H2 h2 st2 cI=>?_;have st2:=st1.trans st2;simp only[go_sem,Quv];refine Za ?_;refine CU h2 (st2.ok _ aE) ZD λs3 H3 h3 st3 nh=>?_;have st3:=st2.trans st3;simp only[go_sem,Quw];refine Za ?_;refine CK (next:=[(s.blocks.length:Int)]) (N:=0) h3 (st3.at_ bp) ZD λs4 H4 h4 st4=>?_;have yI:=st4.bl;have st4:=st3.trans st4;refine Qa ?_;simp only[go_sem,jG,Bi,Ei _ _ jG,Ex.cK,Ex.bt,Ex.au];refine⟨ZD,?_⟩;refine HG _ x.args[0] F H4 w s4 _ _ (Jf _) (F8 wM _ (Jg jG)) h4 (st4.at_ bp) (st4.ok _ aE) ZD λv s5 H5 h5 st5=>?_;have yH:=st5.bl;have st5:=st4.trans st5;simp only[go_sem,Qux];refine Za ?_;refine CK (next:=[(s1.blocks.length:Int),(s2.blocks.length:Int)]) (N:=0) h5 (st5.at_ bp) ZD λs6 H6 h6 st6=>?_;have yG:=st6.bl;have st6:=st5.trans st6;refine Za ?_;refine hS (Ah x.body) ZD x.body _ F H6 w s6 _ _ (Jf _) dr h6 (st6.at_ bp) (st6.ok _ aE) ZD λs7 H7 h7 st7=>?_;have yF:=st7.bl;have st7:=st6.trans st7;refine Zi ?_;refine CK (next:=[(s.blocks.length:Int)]) (N:=0) h7 (st7.at_ bp) ZD λs8 H8 h8 st8=>?_;have st8:=st7.trans st8;simp only[Q4,Aa,Q8z];exact⟨ZF,hK s8 H8 h8 (st8.mono ZD)⟩
set_option maxHeartbeats 2000000 in
theorem Y3 {n:Nat}(hS:∀m,m<n->Dr m):HJ n:=by
 intro x F H w s N K hn ay h bp aE hN hK;have kK:=ay;have bj:=x.size_eq;rw[St.ok_eq]at ay;obtain⟨jG,wM,dr,yz⟩:=ay;refine Qc Ab Qa0l ?_;have retn:∀(e:Env) (s':LS) (H':Heap) (q:X),(q=.nrm\/q=.ret)->LInv F H' w s'->LStep s s' (10 * x.size)->Q4 RI K q e H':=by
  intro e s' H' q hq a1 a2;rcases hq with rfl|rfl <;> exact⟨by simp[RI],hK s' H' a1 a2⟩
 refine Zx ?_;refine Wa ?_;refine Wv ?_ ?_
 ·intro hc;refine Za ?_;rw[<-x.aD];refine Qbs1 hS x F H w s N _ hn kK h bp aE hN λs1 H1 h1 st1=>?_;simp only[Fd];refine Zk ?_;exact retn _ s1 H1 _ (.inr rfl) h1 st1
 intro de;refine Zd ?_;refine Wf ?_;refine Qg (Qd (Qs (λn e1 H1=>∃(i:Nat) (ars:List Int) (c:C) (Lg:List (Nat×Obj)) (s':LS),n=x.args.length-i/\i<=x.args.length/\ars.length=i/\Gr Lg 1 (Qb ars) c/\LInv F H1 w s'/\Kn F H1 [] (s'.L w++Lg)/\
  LStep s s' (10 * As (x.args.take i))/\e1=[(0,.c (.ptr w 0)),(3,.c (.pp [.int .i64 x.op,.str x.name,.sl false 4 (Ap x.args),.sl false 5 (Ak x.body),.sl false 5 (Ak x.els)])),(4,.c c),(5,.c (.int .i64 i))]) x.args.length ?_ ?_))
 ·exact⟨0,[],_,[],s,ZD,ZD,rfl,.nil 1,h,by simpa using h.kn,(LStep.refl s).mono ZD,rfl⟩
 ·rintro n e1 H1 ⟨i,ars,c,Lg,s1,dz,hi,sF,aq,h1,kn,st1,rfl⟩;refine Q3 (Qa ?_);simp only[go_sem,Bi];intro hl;simp only[LIM]at hl;refine Wv ?_ ?_
  ·intro hc;have ae:i<x.args.length:=ZG
   have hm:=Gv (Jg ae);have b8:=RP ae;have qh:=Tb x.args (i+1);refine Zd ?_;refine Qg (Qd (Qp ?_));simp only[go_sem,ae,Bi,Ei _ _ ae,Ex.cK,Ex.bt,Ex.au];obtain⟨F',hf,back⟩:=h1.beside kn aq;refine HG _ _ F' H1 w s1 _ _ (Jf _) (F8 wM _ (Jg ae)) hf (st1.at_ bp) (st1.ok _ aE) ZD λv s2 H2 h2 st2=>?_;obtain⟨h2,kn⟩:=back s2 H2 h2;simp only[go_sem,Quz];refine kn.grow (new:=Qb [v]) aq (.mk' _ _ _ _) (Qy _) (by simp only[Qe,sF,Jo,Jn,LIM];omega) λy' H3 kn=>?_;simp only[go_sem,Quy];refine Zg ?_;refine⟨Qo,x.args.length-(i+1),ZD,i+1,ars++[v],_,_,s2,rfl,ZD,by simp[sF],.mk y' 1 (Qb (ars++[v])) (n:=(Qb ars).length+(Qb [v]).length) Zar,h2.re kn.drop,by rw[CO];exact kn,(st1.trans st2).mono (by rw[b8];omega),Zar⟩
  ·intro hc;have aY:x.args.length<=i:=ZG
   have ck:i=x.args.length:=ZD
   rw[Jc aY]at st1;have jF:0<ars.length:=ZD
   refine Zb ?_;refine Q3 ?_;obtain⟨S,H2,f1,f2,kn2⟩:=aq.freeze kn (Qy _);have h2:=h1.re kn2;refine c_gh (Gk S (λt=>?_) f2) (e':=[(0,.c (.ptr w 0)),(3,.c (.pp [.int .i64 x.op,.str x.name,.sl false 4 (Ap x.args),.sl false 5 (Ak x.body),.sl false 5 (Ak x.els)])),(4,.c (.sl false 1 (Qb ars)))]) ?_
   ·simp only[lk];split
    ·exact .c _ _ (.same _ rfl)
    ·split
     ·exact .c _ _ (.same _ rfl)
     ·split
      ·exact .c _ _ f1
      ·exact .unk _
   have dm:=st1.ok _ aE;have jE:=st1.at_ bp;have mc:=h2.hw;refine Za ?_;refine Wp ?_;refine Ww ?_ ?_
   ·
    intro hc;refine Qa ?_;simp only[go_sem,mc,LS.o];refine Cl h2 jE dm ZD λs3 H3 h3 st3=>?_;have qI:=h3.hw;have md:=h3.gv.ai;have k9:=st3.ok _ dm;have st3:=st1.trans st3;simp only[go_sem];refine Aj ?_;simp only[go_sem,qI,LS.o,md];refine h3.addVar ⟨x.name,s3.next,0,rfl⟩ (by have:=k9.v1;simp only[LIM];omega) λy H4 qH cont=>?_;simp only[go_sem,Qu0,qH,LS.o];intro H5 h5;have tI:=cont H5 h5;have uw:=tI.hw;refine Qp ?_;have bY:=k9.n0;have dz:=k9.n1;simp only[go_sem,uw,LS.o];refine⟨Qo,λH6 h6=>?_⟩;have h6':=tI.setw (s':={ s3 with vc:=.ah y 3 0 (s3.vars.length+1),lv:=[(y,.vec 3 (s3.vars++[[C.str x.name,C.int IntKind.i64 s3.next,C.int IntKind.i64 0]]))],vars:=s3.vars++[[C.str x.name,C.int IntKind.i64 s3.next,C.int IntKind.i64 0]],next:=s3.next+1 }) h6 rfl rfl rfl rfl tI.gv tI.rv;refine retn _ _ H6 _ (.inl rfl) h6' ⟨st3.bl,λM hM=>?_,?_,st3.at_,st3.fn⟩
    ·have q:=st3.ok M hM;refine⟨q.r0,?_,?_,?_,?_,λb hb=>?_,?_⟩
     ·have:=q.r1;show s3.ab<=_;omega
     ·have:=q.n0;show 0<=s3.next+1;omega
     ·have:=q.n1;show s3.next+1<=_;omega
     ·have:=q.b1;show s3.blocks.length<=_;omega
     ·have:=q.i1 b hb;omega
     ·have:=q.v1;simp;omega
    ·have:=st3.vl;simp;omega
   intro bF;refine Za ?_;refine Ww ?_ ?_
   ·
    intro hc;refine Zi ?_;refine HC h2 λv=>?_;simp only[go_sem,Qu1];refine Cl h2 jE dm ZD λs3 H3 h3 st3=>?_;exact retn _ _ H3 _ (.inl rfl) h3 ((st1.trans st3).mono ZD)
   intro ao;refine Za ?_;refine Ww ?_ ?_
   ·intro hc;refine Zi ?_;refine Cl h2 jE dm ZD λs3 H3 h3 st3=>?_;exact retn _ _ H3 _ (.inl rfl) h3 ((st1.trans st3).mono ZD)
   intro bk;refine Za ?_;refine Ww ?_ ?_
   ·intro hc;refine Zi ?_;refine Cl h2 jE dm ZD λs3 H3 h3 st3=>?_;exact retn _ _ H3 _ (.inl rfl) h3 ((st1.trans st3).mono ZD)
   intro bN;refine Za ?_;refine Ww ?_ ?_
   ·
    intro hc;refine Aw ?_;simp only[go_sem,jF,Qe,Qn _ _ jF];refine⟨ZD,?_⟩;refine CU h2 dm ZD λs3 H3 h3 st3 nh=>?_;have st3:=st1.trans st3;simp only[go_sem,Qqm,jF,Qe,Qn _ _ jF];refine⟨ZD,?_⟩;refine CK (next:=[]) (N:=0) h3 (st3.at_ bp) ZD λs4 H4 h4 st4=>?_;exact retn _ _ H4 _ (.inl rfl) h4 ((st3.trans st4).mono ZD)
   intro iS;refine Za ?_;refine Ww ?_ ?_
   ·
    intro hc;refine Za ?_;refine CU h2 dm ZD λs3 H3 h3 st3 nh=>?_;have st3:=st1.trans st3;simp only[go_sem,Qqn];refine Za ?_;refine CU h3 (st3.ok _ aE) ZD λs4 H4 h4 st4 yI=>?_;have st4:=st3.trans st4;simp only[go_sem,Qqo];refine Za ?_;refine CU h4 (st4.ok _ aE) ZD λs5 H5 h5 st5 yH=>?_;have st5:=st4.trans st5;simp only[go_sem,Qqp];refine Qa ?_;simp only[go_sem,jF,Qe,Qn _ _ jF];refine⟨ZD,?_⟩;refine CK (next:=[(s1.blocks.length:Int),(s3.blocks.length:Int)]) (N:=0) h5 (st5.at_ bp) ZD λs6 H6 h6 st6=>?_;have yG:=st6.bl;have st6:=st5.trans st6;refine Za ?_;refine hS (Ah x.body) ZD x.body _ F H6 w s6 _ _ (Jf _) dr h6 (st6.at_ bp) (st6.ok _ aE) ZD λs7 H7 h7 st7=>?_;have yF:=st7.bl;have st7:=st6.trans st7;refine Za ?_;refine CK (next:=[(s4.blocks.length:Int)]) (N:=0) h7 (st7.at_ bp) ZD λs8 H8 h8 st8=>?_;have hb8:=st8.bl;have st8:=st7.trans st8;refine Za ?_;refine hS (Ah x.els) ZD x.els _ F H8 w s8 _ _ (Jf _) yz h8 (st8.at_ bp) (st8.ok _ aE) ZD λs9 H9 h9 st9=>?_;have hb9:=st9.bl;have st9:=st8.trans st9;refine Zi ?_;refine CK (next:=[(s4.blocks.length:Int)]) (N:=0) h9 (st9.at_ bp) ZD λs10 H10 dg st10=>?_;exact retn _ _ H10 _ (.inl rfl) dg ((st9.trans st10).mono ZD)
   ·intro yB;refine Zd ?_;exact retn _ _ H2 _ (.inl rfl) h2 (st1.mono ZD)
theorem TU (n:Nat):Dr n:=by
 induction n using Nat.strongRecOn with
 |ind n ih=>exact Qbqz (Y3 ih)
end Go.AE.Y
namespace Go.AE.Y
open Go.Proofs.Tryz
variable {H:Heap}{K:V->Heap->Prop}
set_option maxHeartbeats 2000000 in
theorem VL {fns:List Fn}{fl:Bool}{k:Nat}(hk:k<fns.length)(cP:fns[k].params.length<=3)(dr:A2 fns[k].body)(fO:Ah fns[k].body<=2^34)
  (hK:∀(c:CodeD) (H':Heap),Upd H H' []->c.fits->K (.ag c.cells) H'):Qv prog FU [.ag [.sl fl 3 (Av fns)],.c (.int .i64 k)] H K:=by
 refine Q0 ?_;refine Qc Ab VF ?_;refine Za ?_;intro x4 bO H1 h1;have kn:=(Kn.ar H).al bO h1;refine Qa ?_;simp only[go_sem,hk,BC,Gl _ _ hk,Fn.take3,Fn.bt,Fn.au];generalize fns[k]=f at *;intro x5 bm H2 h2;have kn:=kn.al bm h2;have ko:=kn.l 1 rfl;simp only[go_sem,Oq,ko,Fn.cells];intro H3 h3;have kn:Kn H H3 [] [(x4,.st [.int .i64 0,.int .i64 0,.sl true 5 []]),(x5,.st [.str f.name,.sl false 1 (A5 f.params),.sl false 5 (Ak f.body)])]:=kn.aB 1 rfl h3;have oy:=kn.l 0 rfl;have dZ:=kn.l 1 rfl;have h45:=kn.neL 0 1 rfl rfl ZR;refine Qa ?_;simp only[go_sem,dZ,Bc];intro hpl2 w hw H4 h4;have h:LInv H3 H4 w ⟨fns,fl,0,0,.sl true 5 [],[],[],0,.sl true 3 [],[],[],f.params.length⟩:=
  ⟨(Kn.ar H3).al hw h4,.nil 5,.inl ⟨rfl,rfl,rfl⟩,ZF,ZF,ZF⟩
 have gz:∀(s:LS) (H':Heap),LInv H3 H' w s->H' x4=.st [.int .i64 0,.int .i64 0,.sl true 5 []]/\H' x5=.st [.str f.name,.sl false 1 (A5 f.params),.sl false 5 (Ak f.body)]:=λs H' h'=>
  ⟨by rw[h'.kn.chg x4 (by rw[oy];simp) ZF,oy],by rw[h'.kn.chg x5 (by rw[dZ];simp) ZF,dZ]⟩
 have fA:=(gz _ _ h).2;have qH:=h.hw;simp only[go_sem,Oo];refine Qa ?_;simp only[go_sem,fA,qH,LS.o,Bc];intro _ H5 h5;have h:=h.setw (s':=⟨fns,fl,f.params.length,0,.sl true 5 [],[],[],0,.sl true 3 [],[],[],f.params.length⟩) h5 rfl rfl rfl rfl h.gv h.rv;have ma:=(gz _ _ h).2;refine Aj ?_;simp only[go_sem,ma,Bc];refine Qbsx _ f.body (Jf _) ZD λv hv=>?_;have uw:=h.hw;simp only[go_sem,On,ma,uw,LS.o,Bc];refine⟨Qo,λH6 h6=>?_⟩;have h:=h.setw (s':=⟨fns,fl,f.params.length,(f.params.length:Int)+v,.sl true 5 [],[],[],0,.sl true 3 [],[],[],f.params.length⟩) h6 rfl rfl rfl rfl h.gv h.rv;refine Wa ?_;refine Qg (Qd (Qs (λn e1 H1=>∃(i:Nat) (s':LS),n=f.params.length-i/\i<=f.params.length/\LInv H3 H1 w s'/\s'.blocks=[]/\s'.at_=0/\s'.ab=(f.params.length:Int)+v/\s'.next=f.params.length/\s'.vars.length=i/\
  e1=[(4,.c (.ptr x4 0)),(5,.c (.ptr x5 0)),(6,.c (.ptr w 0)),(7,.c (.int .i64 i))]) f.params.length ?_ ?_))
 ·exact⟨0,_,ZD,ZD,h,rfl,rfl,rfl,rfl,rfl,rfl⟩
 ·rintro n e1 H1 ⟨i,s,dz,hi,h,fw,nT,bH,bY,b6,rfl⟩;have qD:=(gz _ _ h).2;have fQ:=h.hw;have md:=h.gv.ai;refine Q3 (Qa ?_);simp only[go_sem,qD,Bc];intro _;refine Wv ?_ ?_
  ·intro hc;have ae:i<f.params.length:=ZG
   refine Wo ?_;simp only[go_sem,qD,fQ,LS.o,md,ae,Bc,Hj _ _ ae];refine h.addVar ⟨_,_,_,rfl⟩ ZU λy H4 qH cont=>?_;simp only[go_sem,Om,qH,LS.o];intro H5 h5;have h':=cont H5 h5;refine Zg ?_;exact⟨Qo,f.params.length-(i+1),ZD,i+1,_,rfl,ZD,h',fw,nT,bH,bY,by simp[b6],rfl⟩
  ·intro hc;refine Zb ?_;have aE:s.ok (3+v):=⟨by rw[bH];omega,by rw[bH];omega,by rw[bY];omega,by rw[bY];omega,by simp[fw],by simp[fw],ZD⟩;refine Za ?_;refine Kh h aE ZD λs1 H4 h1 st1 bf jE=>?_;have bp:s1.at_<s1.blocks.length:=by rw[jE,nT];omega
   have dm:=st1.ok _ aE;refine Qa ?_;have fA:=(gz _ _ h1).2;simp only[go_sem,fA];refine TU _ f.body _ H3 H4 w s1 _ _ (Jf _) dr h1 bp dm ZD λs2 H5 h2 st2=>?_;refine Za ?_;refine DM h2 (st2.ok _ dm) ZD λs3 H6 h3 st3=>?_;have st3:=st2.trans st3;simp only[go_sem,Oi];refine Cl (args:=[]) h3 (st3.at_ bp) (st3.ok _ dm) ZD λs4 H7 h4 st4=>?_;have st4:=st3.trans st4;simp only[go_sem,Ol];have hbl4:=st4.bl;refine Za ?_;refine CK (at':=0) (next:=[]) (N:=0) h4 (st4.at_ bp) ZD λs5 H8 h5 st5=>?_;have xH:=h5.hw;obtain⟨uj,hx58⟩:=gz _ _ h5;have cw:=h5.gb.ai;refine Qa ?_;simp only[go_sem,xH,uj,LS.o,cw];intro H9 h9;have ui:H9 x4=.st [.int .i64 s5.params,.int .i64 s5.ab,s5.bc]:=by rw[h9];exact Heap.aC _ _ _
   have td:∀m,m≠x4->H9 m=H8 m:=λm hm=>by rw[h9];exact Heap.af _ _ hm
   have uy:∀m,H m≠.none->H9 m=H m:=λm hm=>by
    have e1:=kn.chg m hm ZF;have e2:=h5.kn.chg m (by rw[e1];exact hm) ZF;rw[td m (λhh=>by subst hh;exact hm (kn.free 0 rfl)),e2,e1]
   have qP:∀p∈s5.L w,H9 p.1=p.2/\un H p.1=true:=λp hp=>by
    have e1:=(h5.kn.get p ZaI).1;have e2:=h5.kn.loc p hp;have be:p.1≠x4:=λhh=>(by rw[hh,oy]at e2;simp at e2);refine⟨by rw[td _ be,e1],BE ?_⟩
    cases hh:H p.1 with
    |none=>rfl
    |_=>have:=kn.chg p.1 (by rw[hh];simp) ZF;rw[e2,hh]at this;simp at this
   refine Qk ?_;simp only[go_sem,Q4,Aa,Jb,forall_eq,RS.op,ui,cw];have iL:=(st4.trans st5).ok _ dm;obtain⟨bs,wE,hbs2,wD⟩:=IN (H:=H9) (S:=un H) s5.blocks λb hb=>⟨h5.gi b hb,h5.ri b hb,λp hp=>qP p (by
    simp only[LS.L,Je,List.mem_flatMap];exact .inr (.inr (.inr ⟨b,hb,hp⟩))),by have:=iL.i1 b hb;omega⟩
   refine⟨.ag (CodeD.mk s5.params s5.ab bs).cells,FrzL.ag (.cons (Qi rfl) (.cons (Qi rfl) (.cons (Gr.frzM h5.gb (λp hp=>qP p (by
    simp only[LS.L,Je];exact .inr (.inl hp))) wE) .nil))),hK _ _ ⟨ZF,λm hm _=>?_⟩ wD⟩
   rw[EB hm];exact uy m hm
theorem Qbsy {fns:List Fn}{fl:Bool}(hp:PrOk fns)(hK:∀(cs:List CodeD) (H':Heap),Upd H H' []->0<cs.length->(∀c∈cs,c.fits)->K (.ag [.sl false 3 (Qw cs)]) H') :
  Qv prog Fw [.ag [.sl fl 3 (Av fns)]] H K:=by
 refine Q0 ?_;refine Qc Ab Qbti ?_;refine Za ?_;intro x2 aW H1 h1;have kn:=(Kn.ar H).al aW h1;refine Za ?_;intro x3 aF H2 h2;have kn:=kn.al aF h2;have ge:=kn.l 1 rfl;simp only[go_sem,Ln,ge];intro H3 h3;have kn:Kn H H3 [] [(x2,.st [.sl true 3 []]),(x3,.st [.sl true 3 []])]:=kn.aB 1 rfl h3;refine Wa ?_;refine Qg (Qd (Qs (λn e1 H1=>∃(i:Nat) (cs:List CodeD) (c:C) (Lg:List (Nat×Obj)),n=fns.length-i/\i<=fns.length/\cs.length=i/\(∀c∈cs,c.fits)/\Gr Lg 3 (Qw cs) c/\Kn H H1 [] ([(x2,.st [.sl true 3 []]),(x3,.st [c])]++Lg)/\
  e1=[(1,.c (.pp [.sl fl 3 (Av fns)])),(2,.c (.ptr x2 0)),(3,.c (.ptr x3 0)),(4,.c (.int .i64 i))]) fns.length ?_ ?_))
 ·exact⟨0,[],_,[],ZD,ZD,rfl,ZF,.nil 3,kn,rfl⟩
 ·rintro n e1 H1 ⟨i,cs,c,Lg,dz,hi,cB,aL,aq,kn,rfl⟩;refine Q3 (Qa ?_);simp only[go_sem,BC];intro hl;simp only[LIM]at hl;have b9:=aq.ai;have dP:=kn.l 1 rfl;refine Wv ?_ ?_
  ·intro hc;have ae:i<fns.length:=ZG
   have hm:=Jg ae;refine Wo ?_;simp only[go_sem,dP,b9];refine VL ae (hp.par _ hm) (hp.ok _ hm) (by have:=R8 hm;have:=hp.size;omega) λx H4 hu hxf=>?_;have kn:=kn.aw hu;have i8:=kn.l 1 rfl;simp only[go_sem,Ll,i8,b9,CodeD.cells];refine kn.grow (B:=[_,_]) (new:=[x.cells]) aq (.mk' _ _ _ _) (by intro r hr;simp only[Jb]at hr;subst hr;rfl) (by simp only[Q6,LIM,Jo,Jn];omega) λy' H5 kn=>?_;have gc:=kn.l 1 rfl;simp only[go_sem,Lm,gc];intro H6 h6;have kn:=kn.aB 1 rfl h6;refine Zg ?_;refine⟨Qo,fns.length-(i+1),ZD,i+1,cs++[x],_,_,rfl,ZD,by simp[cB],λc' cq=>by
    rcases Je.1 cq with h|h
    ·exact aL c' h
    ·simp at h;subst h;exact hxf,?_,kn,rfl⟩
   rw[Qazp];exact .mk _ _ _ (by simp[Q6])
  ·intro hc;have aY:fns.length<=i:=ZG
   have gf:=kn.l 0 rfl;refine Zb ?_;refine Zo dP gf b9 ?_;intro H2 h2;have kn:=kn.aB 0 rfl h2;have ut:=kn.l 0 rfl;refine Qk ?_;simp only[go_sem,Q4,Aa,Jb,forall_eq,RS.op,ut,b9];exact⟨.ag [.sl false 3 (Qw cs)],FrzL.ag (.cons (aq.frz (B:=[_,_]) kn (DV _)) .nil),hK _ _ kn.fin (by have:=hp.pos;omega) aL⟩
attribute [local instance] Classical.propDecidable
def Bv (q:CodeD):Bool:=decide (0<=q.params/\q.params<=3)&&decide (q.params<=q.ab/\q.ab<=300)&&decide (1<=(q.blocks.length:Int)/\(q.blocks.length:Int)<=160)
def AH (y:BlkD):Nat:=y.ins.length+y.aa.length
def Ay {α:Type}(f:α->Nat)(l:List α):Nat:=(l.map f).sum
theorem Ee {α:Type}{f:α->Nat}{l:List α}{i:Nat}(h:i<l.length):Ay f (l.take (i+1))=Ay f (l.take i)+f l[i]:=by
 rw[Ay,Ay,Jh h,Jx,J8];simp
theorem Du {α:Type}{f:α->Nat}{l:List α}(i:Nat):Ay f (l.take i)<=Ay f l:=by
 have:Ay f l=Ay f (l.take i)+Ay f (l.drop i):=by rw[Ay,Ay,Ay,<-J8,<-Jx,Ja2]
 omega
def cntQ (q:CodeD):Nat:=Ay AH q.blocks
def AX (cs:List CodeD)(k:Nat)(hk:k<cs.length):Prop:=Bv cs[k]=true/\∀(b:Nat) (h:b<cs[k].blocks.length),blkG cs k b cs[k] cs[k].blocks[b]=true
def Es (cs:List CodeD):Prop:=(1<=(cs.length:Int)/\(cs.length:Int)<=4)/\(∀(k:Nat) (h:k<cs.length),AX cs k h)/\Ay cntQ cs<=800
noncomputable def Bg (cs:List CodeD):Bool:=decide (Es cs)
theorem O8 {α:Type}{f:α->Nat}{l:List α}{x:α}(h:x∈l):f x<=Ay f l:=by
 obtain⟨i,hi,rfl⟩:=Jad h;have h1:=Du (f:=f) (l:=l) (i+1);rw[Ee hi]at h1;omega
theorem YS {cs:List CodeD}(h:Bg cs=true){k:Nat}(hk:k<cs.length):cs[k].sg:=by
 obtain⟨_,h2,h3⟩:=of_decide_eq_true h;obtain⟨g1,g2⟩:=h2 k hk;have hq:cntQ cs[k]<=Ay cntQ cs:=O8 (Jg hk);simp only[Bv,Jq,decide_eq_true_eq]at g1;refine⟨ZD,λy hy=>?_⟩;have lW:AH y<=Ay AH cs[k].blocks:=O8 hy;simp only[cntQ]at hq;simp only[AH]at lW;obtain⟨b,hb,rfl⟩:=Jad hy;have g:=g2 b hb;have hn:=Ki g;simp only[blkG,Jq]at g;obtain⟨⟨_,ins⟩,ph⟩:=g;rw[Jar]at ins ph;refine⟨ZD,ZD,ZD,λx hx=>?_,λx hx=>?_⟩
 ·have:=ins x hx;simp only[insG,Jq]at this;have h3:=this.2;rw[insL]at h3;split at h3
  ·simp only[Jq,decide_eq_true_eq]at h3;have hn:x.n.toNat<cs.length:=ZD
   have:=(h2 x.n.toNat hn).1;simp only[Bv,Jq,decide_eq_true_eq]at this;rw[D2 hn]at h3;omega
  ·simp only[Jq,decide_eq_true_eq]at h3;have:Bx x.op<=2:=by rw[Bx];split <;> (try split) <;> (try split) <;> omega
   omega
 ·have:=ph x hx;simp only[phiG,Jq,decide_eq_true_eq,Qj]at this;obtain⟨⟨⟨_,a1⟩,_⟩,_⟩:=this;have a3:=Ct (λi=>(cs[k].blocks.map BlkD.next).getD i []) (b:Int) cs[k].blocks.length;omega
theorem DC {cs:List CodeD}(aL:∀c∈cs,c.fits)(h:Bg cs=true):cs.length<=4/\0<cs.length/\∀c∈cs,c.gd:=by
 obtain⟨h1,h2,_⟩:=of_decide_eq_true h;refine⟨ZD,ZD,λc hc=>?_⟩;obtain⟨k,hk,rfl⟩:=Jad hc;obtain⟨g1,g2⟩:=h2 k hk;simp only[Bv,Jq,decide_eq_true_eq]at g1;refine⟨ZD,ZD,λb hb=>?_,λb hb=>aL _ (Jg hk) b hb,YS h hk⟩;obtain⟨i,hi,rfl⟩:=Jad hb;exact Ki (g2 i hi)
theorem Gc {cs:List CodeD}(h:¬Es cs):Bg cs=false:=decide_eq_false h
theorem Yx {cs:List CodeD}{k j:Nat}(hk:k<cs.length)(hj:j<cs[k].blocks.length)(h:800<Ay cntQ (cs.take k)+Ay AH (cs[k].blocks.take j)+AH cs[k].blocks[j]):¬Es cs:=by
 rintro⟨_,_,h3⟩;have a1:=Du (f:=cntQ) (l:=cs) (k+1);rw[Ee hk]at a1;have a2:=Du (f:=AH) (l:=cs[k].blocks) (j+1);rw[Ee hj]at a2;simp only[cntQ]at *;omega
set_option maxHeartbeats 2000000 in
theorem Hq {cs:List CodeD}{fl:Bool}(aL:∀c∈cs,c.fits)(hK:∀(H':Heap),Upd H H' []->K (.c (.bool (Bg cs))) H') :
  Qv prog DY [.ag [.sl fl 3 (Qw cs)]] H K:=by
 refine Q0 ?_;refine Qc Ab Qan0 ?_;have retf:∀(b:Bool) (e:Env) (H':Heap) (L:List (Nat×Obj)),Bg cs=b->Kn H H' [] L->lk 2 e=.c (.bool b)->Q4 Hx (unK H K) .ret e H':=by
  intro b e H' L hb kn h3;simp only[go_sem,Q4,Aa,Jb,forall_eq,RS.op,h3];rw[<-hb];exact⟨_,.c _ _ (Qi rfl),hK _ kn.fin⟩
 have kn:=Kn.ar H;refine Wg ?_;simp only[go_sem,Q6];intro cB;refine AW ?_;simp only[go_sem,Qnn];refine Wv ?_ ?_
 ·intro hc;refine We ?_;exact retf false _ _ _ (Gc λhu=>by have:=of_decide_eq_false (Bf hc);exact this hu.1) kn ZE
 intro hc;have bN:cs.length<=4/\0<cs.length:=by
  have:1<=(cs.length:Int)/\(cs.length:Int)<=4:=ZG
  omega
 refine Zd ?_;refine Wf ?_;refine Qg (Qd (Qs (λm e1 H1=>∃(k n:Nat),m=cs.length-k/\k<=cs.length/\n=Ay cntQ (cs.take k)/\n<=800/\(∀(i:Nat) (hi:i<cs.length),i<k->AX cs i hi)/\Kn H H1 [] []/\e1=[(1,.c (.pp [.sl fl 3 (Qw cs)])),(3,.c (.int .i64 n)),(4,.c (.int .i64 k))]) cs.length ?_ ?_))
 ·exact⟨0,0,ZD,ZD,rfl,ZD,λ_ _ h=>ZD,kn,rfl⟩
 ·rintro m e1 H1 ⟨k,n,hm,hk,dq,hn,bQ,kn,rfl⟩;refine Q3 (Qa ?_);simp only[go_sem,Q6];intro cB;refine Wv ?_ ?_
  ·intro hc;have ae:k<cs.length:=ZG
   refine Wq ?_;simp only[go_sem,ae,Q6,Bd _ _ ae,CodeD.cells];obtain⟨q,hq⟩:∃q,cs[k]=q:=⟨_,rfl⟩;rw[hq];intro x5 bm H2 h2;have kn:=kn.al bm h2;have ko:=kn.l 0 rfl;simp only[go_sem,Qno,ko];intro H3 h3;have kn:Kn H H3 [] [(x5,.st [.int .i64 q.params,.int .i64 q.ab,.sl false 5 (Ql q.blocks)])]:=kn.aB 0 rfl h3;have dZ:=kn.l 0 rfl;refine Q3 (Qa ?_);simp only[go_sem,dZ];refine AW ?_;simp only[go_sem,Qnp,dZ];have rest:∀(b:Bool) (E1:Env),lk 1 E1=.c (.pp [.sl fl 3 (Qw cs)])->lk 3 E1=.c (.int .i64 n)->lk 4 E1=.c (.int .i64 k)->lk 5 E1=.c (.ptr x5 0)->lk 42 E1=.c (.bool b)->Bv q=(!b)->
     Ad prog (s_sp_UnitValid_6.seq Qnm) (X.inBlock 1 (X.sq prog Tk (X.next (λe2 H2=>∃m_1,m_1<m/\∃(k n:Nat),m_1=cs.length-k/\k<=cs.length/\n=Ay cntQ (cs.take k)/\n<=800/\(∀(i:Nat) (hi:i<cs.length),i<k->AX cs i hi)/\Kn H H2 [] []/\e2=[(1,.c (.pp [.sl fl 3 (Qw cs)])),(3,.c (.int .i64 n)),(4,.c (.int .i64 k))])
      (X.inBlock 0 (X.sq prog Tj (Q4 Hx (unK H K))))))) E1 H3:=by
    intro b E1 l1 l3 l4 l5 l42 hb;refine Qg (Qf l42 ?_ ?_)
    ·intro ao;refine Wi ?_;exact retf false _ _ _ (Gc λhu=>by have:=(hu.2.1 k ae).1;rw[hq,hb,ao]at this;simp at this) kn ZE
    intro ao;rw[ao]at hb;have aU:=hb;simp only[Bv,Jbo,Jq,decide_eq_true_eq]at aU;obtain⟨bH,dC,fw,bG⟩:0<=q.ab/\q.ab<=300/\0<q.blocks.length/\q.blocks.length<=160:=ZD;refine Zd ?_;refine Qa ?_;simp only[go_sem,l1,l3,l4,l5];refine Qd (Qs (λm e1 H1=>∃(j n2:Nat),m=q.blocks.length-j/\j<=q.blocks.length/\n2=n+Ay AH (q.blocks.take j)/\n2<=800/\(∀(i:Nat) (hi:i<q.blocks.length),i<j->blkG cs k i q q.blocks[i]=true)/\Kn H H1 [] [(x5,.st [.int .i64 q.params,.int .i64 q.ab,.sl false 5 (Ql q.blocks)])]/\
     e1=[(1,.c (.pp [.sl fl 3 (Qw cs)])),(3,.c (.int .i64 n2)),(4,.c (.int .i64 k)),(5,.c (.ptr x5 0)),(6,.c (.int .i64 j))]) q.blocks.length ?_ ?_)
    ·exact⟨0,n,ZD,ZD,rfl,hn,λ_ _ h=>ZD,kn,rfl⟩
    ·rintro m2 e1 H4 ⟨j,n2,eK,hj,vu,mH,fd,kn,rfl⟩;have fA:=kn.l 0 rfl;refine Q3 (Qa ?_);simp only[go_sem,fA,Qj];intro sA;refine Wv ?_ ?_
     ·intro bk;have eS:j<q.blocks.length:=ZM;refine Wb ?_;have qj:=aL _ (Jg ae);rw[hq]at qj;have qs:=qj _ (Jg eS);have oF:=Ee (f:=AH) eS;have fN:AH q.blocks[j]=q.blocks[j].ins.length+q.blocks[j].aa.length:=rfl;refine Aj ?_;simp only[go_sem,fA,eS,Qj,Q9 _ _ eS,BlkD.cells,A0,Q5];refine⟨Qo,Qo,?_⟩;refine Za ?_;have fin:∀(b3:Bool) (E1:Env) (H5:Heap),(decide (n2+AH q.blocks[j]<=800)&&blkG cs k j q q.blocks[j])=(!b3)->Kn H H5 [] [(x5,.st [.int .i64 q.params,.int .i64 q.ab,.sl false 5 (Ql q.blocks)])]->lk 1 E1=.c (.pp [.sl fl 3 (Qw cs)])->
        lk 3 E1=.c (.int .i64 ((n2+q.blocks[j].ins.length+q.blocks[j].aa.length:Nat):Int))->lk 4 E1=.c (.int .i64 k)->lk 5 E1=.c (.ptr x5 0)->lk 6 E1=.c (.int .i64 j)->lk 75 E1=.c (.bool b3)->
        Ad prog Qqt (X.inBlock 3 (X.sq prog Qnl (X.next (λe2 H2=>∃m,m<m2/\∃(j n2:Nat),m=q.blocks.length-j/\j<=q.blocks.length/\n2=n+Ay AH (q.blocks.take j)/\n2<=800/\(∀(i:Nat) (hi:i<q.blocks.length),i<j->blkG cs k i q q.blocks[i]=true)/\Kn H H2 [] [(x5,.st [.int .i64 q.params,.int .i64 q.ab,.sl false 5 (Ql q.blocks)])]/\
         e2=[(1,.c (.pp [.sl fl 3 (Qw cs)])),(3,.c (.int .i64 n2)),(4,.c (.int .i64 k)),(5,.c (.ptr x5 0)),(6,.c (.int .i64 j))])
         (X.inBlock 2 (X.inBlock 1 (X.sq prog Tk (X.next (λe2 H2=>∃m_1,m_1<m/\∃(k n:Nat),m_1=cs.length-k/\k<=cs.length/\n=Ay cntQ (cs.take k)/\n<=800/\(∀(i:Nat) (hi:i<cs.length),i<k->AX cs i hi)/\Kn H H2 [] []/\e2=[(1,.c (.pp [.sl fl 3 (Qw cs)])),(3,.c (.int .i64 n)),(4,.c (.int .i64 k))])
         (X.inBlock 0 (X.sq prog Tj (Q4 Hx (unK H K))))))))))) E1 H5:=by
       intro b3 E1 H5 nh kn l1 l3 l4 l5 l6 l75;refine Qf l75 ?_ ?_
       ·intro bN;refine Wi ?_;refine retf false _ _ _ (Gc λhu=>?_) kn ZE;rw[bN]at nh;have cH:=(hu.2.1 k ae).2 j (by rw[hq];exact eS);subst hq;have hov:¬800<n2+AH cs[k].blocks[j]:=λho=>Yx ae eS ZD hu;rw[cH]at nh;simp at nh;omega
       ·intro bN;rw[bN]at nh;simp only[Jbo,Jq,decide_eq_true_eq]at nh;refine Zd ?_;refine Qp ?_;simp only[go_sem,X.next,l1,l3,l4,l5,l6];refine⟨Qo,q.blocks.length-(j+1),ZD,j+1,_,rfl,ZD,?_,?_,?_,kn,rfl⟩
        ·rw[oF];omega
        ·omega
        ·intro i hi gy;by_cases wk:i<j
         ·exact fd i hi wk
         ·have:i=j:=ZD;subst this;exact nh.2
      refine⟨λbf=>?_,λbf=>?_⟩
      ·refine Qbng ae (by rw[hq];exact eS) (by rw[hq];exact bH) (by rw[hq];exact dC) ZD (by rw[hq];omega) λH5 hu=>?_;have kn:=kn.aw hu;simp only[go_sem,Ts];refine fin _ _ _ ?_ kn ZE ZE ZE ZE ZE ZL;subst hq;by_cases ho:n2+AH cs[k].blocks[j]<=800
       ·have eQ:¬800<(n2:Int)+cs[k].blocks[j].ins.length+cs[k].blocks[j].aa.length:=(by simp only[AH]at ho;omega);simp[ho,eQ]
       ·have eQ:800<(n2:Int)+cs[k].blocks[j].ins.length+cs[k].blocks[j].aa.length:=(by simp only[AH]at ho;omega);simp[ho,eQ]
      ·replace bf:=A8 bf;simp only[go_sem,Ts,bf];exact fin true _ _ (by simp at bf;simp[fN];omega) kn ZE ZE ZE ZE ZE ZE
     ·intro bk;refine Zb ?_;refine Zg ?_;have yq:q.blocks.length<=j:=ZM;have yq:j=q.blocks.length:=ZD;refine⟨Qo,cs.length-(k+1),ZD,k+1,n2,rfl,ZD,?_,mH,?_,kn.drop (A:=[]),rfl⟩
      ·rw[Ee ae,hq,vu,dq,yq,Jau];rfl
      ·intro i hi rW;by_cases wj:i<k
       ·exact bQ i hi wj
       ·have:i=k:=ZD;subst this;subst hq;exact⟨by rw[hb];rfl,λb bG=>fd b bG ZD⟩
   refine⟨λbf=>?_,λbf=>?_⟩
   ·refine AW ?_;simp only[go_sem,Tt,dZ,Qj];intro yC;refine⟨λcI=>?_,λcI=>?_⟩
    ·replace cI:=Bf cI;refine AW ?_;simp only[go_sem,PN];refine rest _ _ ZE ZE ZE ZE ZL ?_;simp[Bv]
    ·replace cI:=A8 cI;simp only[go_sem,PN,cI];exact rest true _ ZE ZE ZE ZE ZE (by simp at cI;simp[Bv];omega)
   ·replace bf:=A8 bf;simp only[go_sem,Tt,PN,bf,dZ,Qj,cond_true];exact rest true _ ZE ZE ZE ZE ZE (by simp at bf;simp[Bv];omega)
  ·intro hc;refine Wc ?_;refine Qk ?_;have hkc:cs.length<=k:=ZG
   refine retf true _ _ _ (decide_eq_true ⟨ZD,λi hi=>bQ i hi ZD,?_⟩) kn ZE;rw[Jc hkc]at dq;omega
theorem Qa78 {cs:List CodeD}{fl:Bool}(aL:∀c∈cs,c.fits)(hK:∀(b:Bool) (H':Heap),(b=true->cs.length<=4/\0<cs.length/\∀c∈cs,c.gd)->Upd H H' []->K (.c (.bool b)) H') :
  Qv prog DY [.ag [.sl fl 3 (Qw cs)]] H K:=Hq aL λH' hu=>hK _ H' (DC aL) hu
end Go.AE.Y
namespace Go.AE.Y
open Go.Proofs.Tryz
variable {H:Heap}{K:V->Heap->Prop}
def UnitOk (cs:List CodeD):Prop:=0<cs.length/\cs.length<=4/\∀c∈cs,c.gd
theorem Ko {R:Rdr}{k:Nat}(hH:H R.l=R.o k)(hk:k+7100000<=2^30)
  (hK:∀(cs:List CodeD) (H':Heap) (k':Nat),k<k'->k'<=k+7050000->Upd H H' [(R.l,R.o k')]->UnitOk cs->K (.ag [.sl false 3 (Qw cs)]) H') :
  Qv prog OX [.c (.ptr R.l 0)] H K:=by
 refine Q0 ?_;refine Qc Ab Qbns ?_;refine Za ?_;intro x2 aW H1 h1;have kn:=(Kn.start1 hH (R.aj k)).al aW h1;have tail:∀(E1:Env) (H2:Heap) (k1:Nat) (L:List (Nat×Obj)),k<k1->k1<=k+7000500->Kn H H2 [(R.l,R.o k1)] ([(x2,.st [.sl true 3 []])]++L)->lk 0 E1=.c (.ptr R.l 0)->lk 2 E1=.c (.ptr x2 0)->
   Ad prog M8 (Q4 Rb (unK H K)) E1 H2:=by
  intro E1 H2 k1 L gr dK kn l0 l2;refine Zh l0 ?_;refine I6 (kn.e 0 rfl) ZD λcs H3 k2 j5 iO hu j9 so fy=>?_;have kn:=kn.am 0 rfl hu (R.aj _);have aW:=kn.l 0 rfl;simp only[go_sem,Q9s,aW,l2];intro H4 h4;have kn:=kn.aB 0 rfl h4;have aW:=kn.l 0 rfl;refine Zt aW ?_;exact⟨_,FrzL.ag (.cons (FrzR.same (DV cs)).sl .nil),hK cs _ k2 ZD ZD kn.fin ⟨j9,ZD,λc hc=>(fy c hc).gd⟩⟩
 refine Wa ?_;refine Au (kn.e 0 rfl) ZD λv H2 hv hu=>?_;have kn:=kn.am 0 rfl hu (R.aj _);simp only[go_sem,Q9o];refine Wv ?_ ?_
 ·intro hc;refine Za ?_;refine Qbss (kn.e 0 rfl) ZD λl H3 k1 gr dK hu hp=>?_;have kn:=kn.am 0 rfl hu (R.aj _);simp only[go_sem,Q9r];refine Qbsy hp λcs H4 hu j9 aL=>?_;have kn:=kn.aw hu;simp only[go_sem,Q9q];intro x3 aF H5 h5;have kn:=kn.al aF h5;have aF:=kn.l 1 rfl;simp only[go_sem,Q9p,aF];intro H6 h6;have kn:=kn.aB 1 rfl h6;have aF:=kn.l 1 rfl;refine Zh aF ?_;refine Qa78 aL λb H7 hb hu=>?_;have kn:=kn.aw hu;have aF:=kn.l 1 rfl;have aW:=kn.l 0 rfl;refine Ww ?_ ?_
  ·intro bf;refine Zn aF aW ?_;intro H8 h8;have kn:=kn.aB 0 rfl h8;have aW:=kn.l 0 rfl;refine Zt aW ?_;obtain⟨g1,g2,g3⟩:=hb bf;exact⟨_,FrzL.ag (.cons (FrzR.same (DV cs)).sl .nil),hK cs _ k1 ZD ZD kn.fin ⟨g2,g1,g3⟩⟩
  ·intro bf;refine Zd ?_;exact tail _ _ k1 [(x3,.st [.sl false 3 (Qw cs)])] ZD ZD kn ZE ZE
 ·intro hc;refine Zd ?_;exact tail _ _ (k+1) [] ZD ZD kn ZE ZE
theorem Qbmz {R:Rdr}{k:Nat}(hH:H R.l=R.o k)(hk:k+7200000<=2^30)
  (hK:∀(cs:List CodeD) (H':Heap) (k':Nat),k<k'->k'<=k+7100000->Upd H H' [(R.l,R.o k')]->UnitOk cs->K (.ag [.sl false 3 (Qw cs)]) H') :
  Qv prog Q5z [.c (.ptr R.l 0)] H K:=by
 refine Q0 ?_;refine Qc Ab Qbnm ?_;refine Za ?_;intro x2 aW H1 h1;have kn:=(Kn.start1 hH (R.aj k)).al aW h1;refine Wa ?_;refine Au (kn.e 0 rfl) ZD λv H2 hv hu=>?_;have kn:=kn.am 0 rfl hu (R.aj _);simp only[go_sem,Q85];refine Wv ?_ ?_
 ·intro hc;refine Za ?_;refine Qbst (kn.e 0 rfl) ZD λcs H3 k2 j5 iO hu j9 so bQ=>?_;have kn:=kn.am 0 rfl hu (R.aj _);have aW:=kn.l 0 rfl;simp only[go_sem,Q86,aW];intro H4 h4;have kn:=kn.aB 0 rfl h4;have aW:=kn.l 0 rfl;refine Zt aW ?_;exact⟨_,FrzL.ag (.cons (FrzR.same (DV cs)).sl .nil),hK cs _ k2 ZD ZD kn.fin ⟨j9,ZD,bQ⟩⟩
 ·intro hc;refine Zd ?_;refine Za ?_;refine Ko (kn.e 0 rfl) ZD λcs H3 k2 j5 iO hu ay=>?_;have kn:=kn.am 0 rfl hu (R.aj _);have aW:=kn.l 0 rfl;simp only[go_sem,Q87,aW];intro H4 h4;have kn:=kn.aB 0 rfl h4;have aW:=kn.l 0 rfl;refine Zt aW ?_;exact⟨_,FrzL.ag (.cons (FrzR.same (DV cs)).sl .nil),hK cs _ k2 ZD ZD kn.fin ay⟩
theorem Qbnc {fl:Bool}{bs:List UInt8}(hK:∀(R:Rdr) (H':Heap),H R.l=.none->H'=H.set R.l (R.o 0)->K (.c (.ptr R.l 0)) H'):Qv prog Q6a [.c (.sl fl 1 (Bb bs))] H K:=by
 refine Qc Ab Qbn4 ?_;refine Wg ?_;simp only[go_sem,C8];intro _;have tail:∀(fl:Bool) (bs:List UInt8) (E1:Env),lk 0 E1=.c (.sl fl 1 (Bb bs))->Ad prog Mp (Q4 Fs K) E1 H:=by
  intro fl bs E1 l0;refine Zh l0 ?_;intro l hl H' h';simp only[go_sem,N7];refine Zf ?_;exact hK ⟨l,fl,bs⟩ H' hl h'
 refine Wv ?_ ?_
 ·intro hc;have h2:(2000:Int)<bs.length:=ZG
  refine Qp ?_;simp only[go_sem,C8];refine⟨⟨ZD,ZD,ZD⟩,?_⟩;have ht:List.take 2000 (Bb bs)=Bb (bs.take 2000):=by simp[Bb,Ja9]
  rw[ht];exact tail _ (bs.take 2000) _ ZL
 ·intro hc;refine Qh ?_;exact tail fl bs _ ZE
end Go.AE.Y
namespace Go.AE.Y
def A4 (n:Nat)(nx:Nat->List Int):Bool:=(List.range n).all (λi=>(nx i).all λx=>decide (0<=x/\x<=(n:Int)-1))&&decide (0<n)
def nxN (nx:Nat->List Int)(b:Nat):List Nat:=(nx b).map Int.toNat
theorem GQ {n:Nat}{nx:Nat->List Int}(h:A4 n nx=true){b:Nat}(hb:b<n){x:Int}(hx:x∈nx b):0<=x/\x<=(n:Int)-1:=by
 simp only[A4,Jq,Jar,J5,decide_eq_true_eq]at h;exact h.1 b hb x hx
theorem CN {n:Nat}{nx:Nat->List Int}(h:A4 n nx=true):0<n:=by
 simp only[A4,Jq,decide_eq_true_eq]at h;exact h.2
theorem Co {n:Nat}{nx:Nat->List Int}(h:A4 n nx=true){b:Nat}(hb:b<n){x:Nat}(hx:x∈nxN nx b):x<n:=by
 obtain⟨y,hy,rfl⟩:=Jp.1 hx;have:=GQ h hb hy;omega
inductive Dfs (g:Nat->List Nat):List Nat->List Bool->List Nat->List Bool->List Nat->Prop
 |nil (S:List Bool) (o:List Nat):Dfs g [] S o S o
 |skip {x:Nat} {xs:List Nat} {S S':List Bool} {o o':List Nat}:S.getD x false=true->Dfs g xs S o S' o'->Dfs g (x::xs) S o S' o'
 |go {x:Nat} {xs:List Nat} {S S1 S':List Bool} {o o1 o':List Nat}:S.getD x false=false->Dfs g (g x) (S.set x true) o S1 o1->Dfs g xs S1 (o1++[x]) S' o'->Dfs g (x::xs) S o S' o'
variable {g:Nat->List Nat}{xs:List Nat}{S S' S1:List Bool}{o o' o1:List Nat}
theorem Dfs.app (h:Dfs g xs S o S1 o1):∀{ys:List Nat},Dfs g ys S1 o1 S' o'->Dfs g (xs++ys) S o S' o':=by
 induction h with
 |nil S o=>exact λh=>h
 |skip h1 h2 ih=>exact λh=>.skip h1 (ih h)
 |go h1 h2 h3 ih1 ih2=>exact λh=>.go h1 h2 (ih2 h)
theorem Dfs.one {x:Nat}(h1:S.getD x false=false)(h:Dfs g (g x) (S.set x true) o S1 o1):Dfs g [x] S o S1 (o1++[x]):=.go h1 h (.nil _ _)
theorem Dfs.len (h:Dfs g xs S o S' o'):S'.length=S.length:=by
 induction h with
 |nil=>rfl
 |skip _ _ ih=>exact ih
 |go _ _ _ ih1 ih2=>rw[ih2,ih1,Ji]
theorem OO (S:List Bool)(x y:Nat):(S.set x true).getD y false=(if y=x/\x<S.length then true else S.getD y false):=by
 simp only[Ja,Jbg];by_cases h:x=y
 ·subst h;by_cases h2:x<S.length
  ·simp[h2]
  ·simp[h2]
 ·have h':¬y=x:=λhh=>h hh.symm;simp[h,h']
theorem Dfs.mono (h:Dfs g xs S o S' o'):∀x,S.getD x false=true->S'.getD x false=true:=by
 induction h with
 |nil=>exact λ_ h=>h
 |skip _ _ ih=>exact ih
 |go _ _ _ ih1 ih2=>
  intro x hx;refine ih2 x (ih1 x ?_);rw[OO];split
  ·rfl
  ·exact hx
def cnt (S:List Bool):Nat:=S.count true
theorem Ec {x:Nat}(hx:x<S.length)(h:S.getD x false=false):cnt (S.set x true)=cnt S+1:=by
 induction S generalizing x with
 |nil=>simp at hx
 |cons a S ih=>
  cases x with
  |zero=>
   simp at h;subst h;simp[cnt]
  |succ x=>
   have:=ih (x:=x) (by simpa using hx) ZP;simp only[cnt,List.set_cons_succ,List.count_cons]at this⊢;omega
theorem C0 (S:List Bool):cnt S<=S.length:=List.count_le_length
theorem Dfs.count (h:Dfs g xs S o S' o'):(∀x,x<S.length->∀y∈g x,y<S.length)->(∀x∈xs,x<S.length)->o'.length+cnt S=o.length+cnt S':=by
 induction h with
 |nil=>intros;rfl
 |skip _ _ ih=>exact λh1 h2=>ih h1 λx hx=>h2 x (Jm _ hx)
 |@go x xs S S1 S' o o1 o' h1 h2 h3 ih1 ih2=>
  intro hg iz;have hx:=iz x Js;have e1:=ih1 Zai (by simpa using hg x hx);have hl:=h2.len;rw[Ji]at hl;have e2:=ih2 (by rw[hl];exact hg) (by rw[hl];exact λy hy=>iz y (Jm _ hy));rw[Ec hx h1]at e1;simp only[Jw,Jo,Jn]at e2;omega
theorem Dfs.olen (h:Dfs g xs S o S' o'):o.length<=o'.length:=by
 induction h with
 |nil=>exact Jf _
 |skip _ _ ih=>exact ih
 |go _ _ _ ih1 ih2=>rw[Jw]at ih2;omega
theorem Dfs.all (h:Dfs g xs S o S' o'):∀P:Nat->Prop,(∀x,P x->∀y∈g x,P y)->(∀x∈xs,P x)->(∀x∈o,P x)->∀x∈o',P x:=by
 induction h with
 |nil=>exact λP _ _ h=>h
 |skip _ _ ih=>exact λP h1 h2 h3=>ih P h1 (λx hx=>h2 x (Jm _ hx)) h3
 |go h1 h2 h3 ih1 ih2=>
  intro P hg iz ho;have hx:=iz _ Js;refine ih2 P hg (λy hy=>iz y (Jm _ hy)) λy hy=>?_;rcases Je.1 hy with hy|hy
  ·exact ih1 P hg (hg _ hx) ho y hy
  ·simp at hy;subst hy;exact hx
end Go.AE.Y
namespace Go.AE.Y
open Go.Proofs.Tryz
variable {H:Heap}{K:V->Heap->Prop}
structure GRd (H:Heap)(c:C)(rows:List (List C))(nx:Nat->List Int):Prop where
 s:Slc H 5 rows c
 ow:c.ai=false
 no:∀r∈rows,an r=true
 x:∀i,i<rows.length->∃a1 a2 a3 a4 fl,rows.getD i []=[a1,a2,a3,a4,.sl fl 1 (Qb (nx i))]
theorem GRd.keep {c:C}{rows:List (List C)}{nx:Nat->List Int}{H':Heap}{E L:List (Nat×Obj)}(h:GRd H c rows nx)(kn:Kn H H' E L)(hE:∀l a b d,c=.ah l a b d->l∉E.map Prod.fst):GRd H' c rows nx:=⟨h.s.keep kn hE,h.ow,h.no,h.x⟩
theorem GRd.keep0 {c:C}{rows:List (List C)}{nx:Nat->List Int}{H':Heap}{L:List (Nat×Obj)}(h:GRd H c rows nx)(kn:Kn H H' [] L):GRd H' c rows nx:=h.keep kn ZF
def gnx (q:CodeD):Nat->List Int:=λi=>(q.blocks.map BlkD.next).getD i []
theorem Cs (H:Heap)(q:CodeD)(fl:Bool):GRd H (.sl fl 5 (Ql q.blocks)) (Ql q.blocks) (gnx q):=by
 refine⟨.mk' _ _ _ _,rfl,MS _,λi h=>?_⟩;rw[Qj]at h;rw[Q9 _ _ h];have:gnx q i=q.blocks[i].next:=by simp[gnx,Ja,h]
 exact⟨.sl false 2 (Q8 q.blocks[i].aa),.sl false 4 (Af q.blocks[i].ins),.int .i64 q.blocks[i].jump,.int .i64 q.blocks[i].on,false,by rw[this];rfl⟩
set_option maxHeartbeats 1000000 in
theorem Qbm2 {p rg:Int}{bc:C}{rows:List (List C)}{nx:Nat->List Int}(hg:GRd H bc rows nx)(hK:K (.c (.bool (A4 rows.length nx))) H):Qv prog Q51 [.ag [.int .i64 p,.int .i64 rg,bc]] H K:=by
 refine Qc Ab Qbnp ?_;have bM:=hg.ow;have ay:=eq_true hg.s.ok;have ak:=hg.s.len;have bj:=hg.s.sz;have eY:=hg.s.rows;have retf:∀(b:Bool) (e:Env),b=A4 rows.length nx->lk 2 e=.c (.bool b)->Q4 Fj K .ret e H:=by
  intro b e hb h3;simp only[go_sem,Q4,Aa,Jb,forall_eq,RS.op,h3];rw[hb];exact hK
 refine Wf ?_;refine Qg (Qd (Qs (λm e1 H1=>∃(i:Nat),m=rows.length-i/\i<=rows.length/\H1=H/\(∀j,j<i->∀x∈nx j,0<=x/\x<=(rows.length:Int)-1)/\e1=[(1,.c (.pp [.int .i64 p,.int .i64 rg,bc])),(3,.c (.int .i64 i))]) rows.length ?_ ?_))
 ·exact⟨0,ZD,ZD,rfl,λj hj=>ZD,rfl⟩
 ·rintro m e1 H1 ⟨i,hm,hi,rfl,bg,rfl⟩;refine Q3 (Qa ?_);simp only[go_sem,bM,ay,ak];intro hl;simp only[LIM]at hl;refine Wv ?_ ?_
  ·intro hc;have ae:i<rows.length:=ZG
   obtain⟨a1,a2,a3,a4,fl,a8⟩:=hg.x i ae;refine Zd ?_;refine Az (λe2 H2=>H2=H1/\(∀x∈nx i,0<=x/\x<=(rows.length:Int)-1)/\lk 1 e2=.c (.pp [.int .i64 p,.int .i64 rg,bc])/\lk 3 e2=.c (.int .i64 i)) ?_ ?_
   ·intro Q hn hr _;refine Wp ?_;refine Qd (Qs (λm e1 H2=>∃(k:Nat),m=(nx i).length-k/\k<=(nx i).length/\H2=H1/\(∀x∈(nx i).take k,0<=x/\x<=(rows.length:Int)-1)/\e1=[(1,.c (.pp [.int .i64 p,.int .i64 rg,bc])),(3,.c (.int .i64 i)),(4,.c (.int .i64 k))]) (nx i).length ?_ ?_)
    ·exact⟨0,ZD,ZD,rfl,ZF,rfl⟩
    ·rintro m2 e1 H2 ⟨k,eK,hk,rfl,dc,rfl⟩;refine Q3 (Qa ?_);simp only[go_sem,bM,ay,ak,bj,eY,ae,a8,Qe];intro ft;simp only[LIM]at ft;refine Wv ?_ ?_
     ·intro hc;have aI:k<(nx i).length:=ZG;have bQ:(nx i).getD k 0=(nx i)[k]:=(by simp[Ja,aI]);refine Wb ?_;refine Aj ?_;simp only[go_sem,bM,ay,ak,bj,eY,ae,a8,aI,Qe,Qn _ _ aI,bQ];refine⟨Qo,?_⟩;refine AW ?_;simp only[go_sem,Q9g];refine Ww ?_ ?_
      ·intro ao;refine Wi ?_;refine hr _ _ (retf false _ ?_ ZE)
       cases hf:A4 rows.length nx with
       |false=>rfl
       |true=>
        have:=GQ hf ae (Jg aI);simp at ao;omega
      ·intro ao;refine Wl ?_;refine⟨Qo,(nx i).length-(k+1),ZD,k+1,rfl,ZD,λx hx=>?_,rfl⟩;rw[Jh aI]at hx;rcases Je.1 hx with hx|hx
       ·exact dc x hx
       ·simp only[Jb]at hx;subst hx;simpa using ao
     ·intro hc;have aY:(nx i).length<=k:=ZG;rw[Jc aY]at dc;refine Zb ?_;exact hn _ _ ⟨rfl,dc,ZE,ZE⟩
   ·rintro e2 H2 ⟨rfl,hx,l1,l3⟩;refine Qp ?_;simp only[go_sem,X.next,l1,l3];refine⟨Qo,rows.length-(i+1),ZD,i+1,rfl,ZD,λj hj=>?_,rfl⟩;by_cases h:j<i
    ·exact bg j h
    ·have:j=i:=ZD;subst this;exact hx
  ·intro hc;have aY:i=rows.length:=by have:¬i<rows.length:=ZG;omega
   subst aY;refine Zb ?_;refine Zo bM ay ak ?_;intro _;refine Qk ?_;refine retf _ _ ?_ ZL;have:(List.range rows.length).all (λi=>(nx i).all λx=>decide (0<=x/\x<=(rows.length:Int)-1))=true:=by
    simp only[Jar,J5,decide_eq_true_eq];exact bg
   simp only[A4,this,Jbp];try (by_cases h:0<rows.length <;> simp[h])
end Go.AE.Y
namespace Go.AE.Y
open Go.Proofs.Tryz
def Qm (S:List Bool):List (List C):=S.map λb=>[.bool b]
theorem Qu (S:List Bool):(Qm S).length=S.length:=by simp[Qm]
theorem Qx (S:List Bool)(i:Nat)(h:i<S.length):(Qm S).getD i []=[.bool (S.getD i false)]:=by
 simp[Qm,Ja,h]
theorem BS (S:List Bool)(i:Nat)(b:Bool):(Qm S).set i [.bool b]=Qm (S.set i b):=by simp[Qm,Jam]
theorem Hp (S:List Bool):∀r∈Qm S,an r=true:=by intro r hr;obtain⟨x,_,rfl⟩:=Jp.1 hr;rfl
def Q7 (l:List Nat):List (List C):=Qb (l.map Int.ofNat)
theorem Q1 (l:List Nat):(Q7 l).length=l.length:=by simp[Q7,Qe]
theorem MK (l:List Nat)(n:Nat):Q7 l++[[.int .i64 (n:Int)]]=Q7 (l++[n]):=by simp[Q7,Qb]
theorem Cu (l:List Nat):∀r∈Q7 l,an r=true:=Qy _
set_option maxHeartbeats 2000000 in
theorem Q6h {F:Heap}{p rg:Int}{bc:C}{rows:List (List C)}{nx:Nat->List Int}{y:Nat}(aL:A4 rows.length nx=true)(hn:rows.length<=1000000)(hg:GRd F bc rows nx)(cd:∀l a b d,bc=.ah l a b d->l≠y) :
  ∀(u b:Nat) (S:List Bool) (o:List Nat) (oc:C) (Lg:List (Nat×Obj)) (H:Heap) (K:V->Heap->Prop),S.length=rows.length->rows.length-cnt S<=u->b<rows.length->S.getD b false=false->
   Kn F H [(y,.vec 1 (Qm S))] ([]++Lg)->Gr Lg 1 (Q7 o) oc->o.length<=cnt S->
   (∀(S':List Bool) (o':List Nat) (oc':C) (Lg':List (Nat×Obj)) (H':Heap),Dfs (nxN nx) [b] S o S' o'->Kn F H' [(y,.vec 1 (Qm S'))] ([]++Lg')->Gr Lg' 1 (Q7 o') oc'->K (.c oc') H')->
   Qv prog Gu [.ag [.int .i64 p,.int .i64 rg,bc],.c (.int .i64 b),.c (.ah y 1 0 rows.length),.c oc] H K:=by
 intro u
 induction u with
 |zero=>
  intro b S o oc Lg H K hS hu hb gG;have h1:=Ec (S:=S) (x:=b) ZD gG;have h2:=C0 (S.set b true);rw[Ji]at h2;omega
 |succ u ih=>
  intro b S o oc Lg H K hS hu hb gG kn aq dJ hK;have bM:=hg.ow;have jD:b<S.length:=ZD
  obtain⟨a1,a2,a3,a4,fl,a8⟩:=hg.x b hb;have bj:=hg.s.sz;have ak:=hg.s.len;have hy:=kn.e 0 rfl;have j3:=aq.ai;refine Qc Ab Qbir ?_;refine Wj ?_;have b8:List.take rows.length (Qm S)=Qm S:=Jc Zae;simp only[go_sem,hy,hb,Qu,hS,Qx _ _ jD,BS,J4,Jk,Jf];intro H1 h1;have kn:=kn.stE 0 rfl h1;have y8:=Ec jD gG;have kL:(nxN nx b).length=(nx b).length:=by simp[nxN]
  refine Wa ?_;refine Qg (Qd (Qs (λm e1 H1=>∃(i:Nat) (S1:List Bool) (o1:List Nat) (oc1:C) (Lg1:List (Nat×Obj)),m=(nx b).length-i/\i<=(nx b).length/\Dfs (nxN nx) ((nxN nx b).take i) (S.set b true) o S1 o1/\
   Kn F H1 [(y,.vec 1 (Qm S1))] ([]++Lg1)/\Gr Lg1 1 (Q7 o1) oc1/\
   e1=[(1,.c (.int .i64 b)),(2,.c (.ah y 1 0 rows.length)),(3,.c oc1),(4,.c (.pp [.int .i64 p,.int .i64 rg,bc])),(9,.c (.int .i64 i))]) (nx b).length ?_ ?_))
  ·exact⟨0,_,o,oc,Lg,ZD,ZD,.nil _ _,kn,aq,rfl⟩
  ·rintro m e1 H2 ⟨i,S1,o1,oc1,Lg1,hm,hi,hd,kn,aq,rfl⟩;have bQ:∀x,x<(S.set b true).length->∀z∈nxN nx x,z<(S.set b true).length:=by
    rw[Ji,hS];exact λx hx z hz=>Co aL hx hz
   have bT:=hd.len;rw[Ji,hS]at bT;have cD:=hd.count bQ (λx hx=>bQ b (by rw[Ji];exact jD) x (J1 hx));have w5:=hd.olen;have pI:=C0 S1;have eC:=hg.keep kn (λl a b d hh=>by simpa using cd l a b d hh);have fk:=eq_true eC.s.ok;have kA:=eC.s.rows;have hy:=kn.e 0 rfl;refine Q3 (Qa ?_);simp only[go_sem,bM,fk,ak,bj,kA,hb,a8,Qe];intro hl;simp only[LIM]at hl;refine Wv ?_ ?_
   ·intro hc;have ae:i<(nx b).length:=ZG;obtain⟨w,hw⟩:∃w:Nat,(nx b).getD i 0=w:=by
     have h1:=GQ aL hb (Jg ae);refine⟨((nx b)[i]).toNat,?_⟩;simp only[Ja,Jj ae,J3];omega
    have lE:(nxN nx b).take (i+1)=(nxN nx b).take i++[w]:=by
     rw[Jh (by rw[kL];exact ae)];congr 1;simp only[nxN,Jbm];simp only[Ja,Jj ae,J3]at hw;rw[hw];simp
    have qe:w<rows.length:=Co aL hb (x:=w) (by
     have:w∈(nxN nx b).take (i+1):=(by rw[lE];simp);exact J1 this)
    have uv:w<S1.length:=ZD;refine Zd ?_;refine Az (λe2 H2=>∃(S2:List Bool) (o2:List Nat) (oc2:C) (Lg2:List (Nat×Obj)),Dfs (nxN nx) ((nxN nx b).take (i+1)) (S.set b true) o S2 o2/\
     Kn F H2 [(y,.vec 1 (Qm S2))] ([]++Lg2)/\Gr Lg2 1 (Q7 o2) oc2/\
     lk 1 e2=.c (.int .i64 b)/\lk 2 e2=.c (.ah y 1 0 rows.length)/\lk 3 e2=.c oc2/\lk 4 e2=.c (.pp [.int .i64 p,.int .i64 rg,bc])/\lk 9 e2=.c (.int .i64 i)) ?_ ?_
    ·intro Q br _ _;have eW:List.take rows.length (Qm S1)=Qm S1:=Jc Zae;refine Qd (Qa ?_);simp only[go_sem,bM,fk,ak,bj,kA,hb,a8,ae,hy,hw,qe,eW,bT,Qu,Qx _ _ uv,Qe,Qn _ _ ae,J4,Jk,Jf];refine Ww ?_ ?_
     ·intro ao;have fi:S1.getD w false=false:=Bf ao;refine Aw ?_;simp only[go_sem,bM,fk,ak,bj,kA,hb,a8,ae,hw,Qe,Qn _ _ ae];refine ih w S1 o1 oc1 Lg1 H2 _ bT ZD qe fi kn aq ZD λS2 o2 oc2 Lg2 H3 cY kn aq=>?_;simp only[go_sem,Q3u];refine br _ _ ⟨S2,o2,oc2,Lg2,?_,kn,aq,rfl,rfl,rfl,rfl,rfl⟩;rw[lE];exact hd.app cY
     ·intro ao;have fi:S1.getD w false=true:=A8 ao;refine Zd ?_;refine br _ _ ⟨S1,o1,oc1,Lg1,?_,kn,aq,rfl,rfl,rfl,rfl,rfl⟩;rw[lE];exact hd.app (.skip fi (.nil _ _))
    ·rintro e2 H3 ⟨S2,o2,oc2,Lg2,hd,kn,aq,l1,l2,l3,l4,l9⟩;refine Qp ?_;simp only[go_sem,X.next,l1,l2,l3,l4,l9];exact⟨Qo,(nx b).length-(i+1),ZD,i+1,S2,o2,oc2,Lg2,rfl,ZD,hd,kn,aq,rfl⟩
   ·intro hc;have aY:(nx b).length<=i:=ZG;rw[Jc (by rw[kL];exact aY)]at hd;have j3:=aq.ai;refine Wc ?_;refine kn.grow (new:=Qb [(b:Int)]) aq (.mk' _ _ _ _) (Qy _) ZaS λz H3 kn=>?_;simp only[go_sem,Q3v];refine Zf ?_;refine hK S1 (o1++[b]) _ _ H3 (.one gG hd) kn ?_;rw[<-MK];exact .mk _ _ _ ZF
variable {H:Heap}{K:V->Heap->Prop}
theorem BF {n lo hi:Int}(hK:K (.c (.bool (decide (lo<=n)&&decide (n<=hi)))) H):Qv prog B3 [.c (.int .i64 n),.c (.int .i64 lo),.c (.int .i64 hi)] H K:=by
 refine Qc Ab Qa9e ?_;refine Wd ?_;refine Zf ?_;have:(bif decide (lo<=n)then decide (n<=hi)else false)=(decide (lo<=n)&&decide (n<=hi)):=by cases decide (lo<=n) <;> rfl
 first|exact hK|(rw[this];exact hK)|(simpa[this]using hK)
def IsIx (ns:List Int)(v r:Int):Prop:=(r=-1/\v∉ns)\/∃i:Nat,r=i/\i<ns.length/\ns.getD i 0=v/\v∉ns.take i
theorem IsIx.nonneg {ns:List Int}{v r:Int}(h:IsIx ns v r):decide (0<=r)=ns.contains v:=by
 rcases h with ⟨rfl,hn⟩|⟨i,rfl,h1,h2,_⟩
 ·have:ns.contains v=false:=by
   cases hc:ns.contains v with
   |false=>rfl
   |true=>exact absurd (Jaw.1 hc) hn
  rw[this];rfl
 ·have:v∈ns:=by
   rw[<-h2,Ja,Jj h1];exact Jg h1
  rw[Jaw.2 this];simp
theorem Im {c:C}{ns:List Int}{v:Int}(hs:Slc H 1 (Qb ns) c)(bM:c.ai=false)(hK:∀r,IsIx ns v r->K (.c (.int .i64 r)) H) :
  Qv prog Pp [.c c,.c (.int .i64 v)] H K:=by
 refine Qc Ab Qbi0 ?_;have ay:=eq_true hs.ok;have ak:=hs.len;have bj:=hs.sz;have eY:=hs.rows;refine Wg ?_;simp only[go_sem,ay,ak,Qe];intro hl;simp only[LIM]at hl;refine Qg (Qd (Qs (λm e1 H1=>∃(i:Nat),m=ns.length-i/\i<=ns.length/\H1=H/\v∉ns.take i/\e1=[(0,.c c),(1,.c (.int .i64 v)),(7,.c (.int .i64 ns.length)),(8,.c (.int .i64 i))]) ns.length ?_ ?_))
 ·exact⟨0,ZD,ZD,rfl,ZF,rfl⟩
 ·rintro m e1 H1 ⟨i,hm,hi,rfl,bR,rfl⟩;refine Za ?_;refine Wv ?_ ?_
  ·intro hc;have ae:i<ns.length:=ZG
   have bQ:ns.getD i 0=ns[i]:=Zat
   refine Wb ?_;refine Wj ?_;simp only[go_sem,ay,ak,bj,eY,ae,Qe,Qn _ _ ae];refine Ww ?_ ?_
   ·intro ao;have hv:v=ns.getD i 0:=ZI;refine Za ?_;refine Zq ?_;exact hK _ (.inr ⟨i,rfl,ae,hv.symm,bR⟩)
   ·intro ao;have hv:¬v=ns.getD i 0:=ZI;refine Wl ?_;refine⟨Qo,ns.length-(i+1),ZD,i+1,rfl,ZD,?_,rfl⟩;rw[Jh ae];simp only[Je,Jb,not_or];exact⟨bR,λh=>hv (by rw[bQ];exact h)⟩
  ·intro hc;have aY:ns.length<=i:=ZG
   rw[Jc aY]at bR;refine Ws ?_;exact hK _ (.inl ⟨rfl,bR⟩)
theorem Qbhn {c:C}{ns:List Int}{v:Int}(hs:Slc H 1 (Qb ns) c)(bM:c.ai=false)(hK:K (.c (.bool (ns.contains v))) H) :
  Qv prog S6 [.c c,.c (.int .i64 v)] H K:=by
 refine Qc Ab Qauy ?_;refine Wd ?_;refine Im hs bM λr hr=>?_;simp only[go_sem,Qqq];refine Zf ?_;rw[hr.nonneg];exact hK
theorem Qa76 {c:C}{ns:List Int}{f:Nat}{caps:List C}{p:Int->Bool}(hs:Slc H 1 (Qb ns) c)(bM:c.ai=false)
  (hf:∀(x:Int) (K':V->Heap->Prop),x∈ns->K' (.c (.bool (p x))) H->Qv prog f ([.c (.int .i64 x)]++caps.map .c) H K')
  (hK:∀r:Int,decide (0<=r)=ns.any p->K (.c (.int .i64 r)) H) :
  Qv prog SS [.c c,.c (.fn f caps)] H K:=by
 refine Qc Ab Qanx ?_;have ay:=eq_true hs.ok;have ak:=hs.len;have bj:=hs.sz;have eY:=hs.rows;refine Wg ?_;simp only[go_sem,ay,ak,Qe];intro hl;simp only[LIM]at hl;refine Qg (Qd (Qs (λm e1 H1=>∃(i:Nat),m=ns.length-i/\i<=ns.length/\H1=H/\(∀x∈ns.take i,p x=false)/\e1=[(0,.c c),(1,.c (.fn f caps)),(7,.c (.int .i64 ns.length)),(8,.c (.int .i64 i))]) ns.length ?_ ?_))
 ·exact⟨0,ZD,ZD,rfl,ZF,rfl⟩
 ·rintro m e1 H1 ⟨i,hm,hi,rfl,bR,rfl⟩;refine Za ?_;refine Wv ?_ ?_
  ·intro hc;have ae:i<ns.length:=ZG
   have bQ:ns.getD i 0=ns[i]:=Zat
   refine Wb ?_;refine Wj ?_;simp only[go_sem,ay,ak,bj,eY,ae,Qe,Qn _ _ ae];refine hf _ _ (by rw[bQ];exact Jg ae) ?_;refine Ww ?_ ?_
   ·intro ao;refine Za ?_;refine Zq ?_;refine hK _ ?_;have:ns.any p=true:=Jai.2 ⟨ns[i],Jg ae,by rw[<-bQ];exact ao⟩;rw[this];simp
   ·intro ao;refine Wl ?_;refine⟨Qo,ns.length-(i+1),ZD,i+1,rfl,ZD,?_,rfl⟩;rw[Jh ae];intro x hx;rcases Je.1 hx with hx|hx
    ·exact bR x hx
    ·simp only[Jb]at hx;subst hx;rw[<-bQ];exact ao
  ·intro hc;have aY:ns.length<=i:=ZG
   rw[Jc aY]at bR;refine Ws ?_;refine hK _ ?_;have:ns.any p=false:=by
    cases hc:ns.any p with
    |false=>rfl
    |true=>obtain⟨x,hx,hp⟩:=Jai.1 hc;rw[bR x hx]at hp;exact absurd hp ZF
   rw[this];rfl
theorem Hu {c:C}{ns:List Int}{f:Nat}{caps:List C}{p:Int->Bool}(hs:Slc H 1 (Qb ns) c)(bM:c.ai=false)
  (hf:∀(x:Int) (K':V->Heap->Prop),x∈ns->K' (.c (.bool (p x))) H->Qv prog f ([.c (.int .i64 x)]++caps.map .c) H K')
  (hK:K (.c (.bool (ns.any p))) H):Qv prog EH [.c c,.c (.fn f caps)] H K:=by
 refine Qc Ab Q6k ?_;refine Wd ?_;refine Qa76 hs bM hf λr hr=>?_;simp only[go_sem,Qg6];refine Zf ?_;rw[hr];exact hK
theorem Qazc {c:C}{rows:List (List C)}{f:Nat}{caps:List C}{p:Nat->Bool}(hs:Slc H 5 rows c)(bM:c.ai=false)(bR:∀r∈rows,an r=true)(h5:∀i,i<rows.length->(rows.getD i []).length=5)
  (hf:∀(i:Nat) (K':V->Heap->Prop),i<rows.length->K' (.c (.bool (p i))) H->Qv prog f ([.ag (rows.getD i [])]++caps.map .c) H K')
  (hK:∀r:Int,decide (0<=r)=(List.range rows.length).any p->K (.c (.int .i64 r)) H) :
  Qv prog TL [.c c,.c (.fn f caps)] H K:=by
 refine Qc Ab Qwb ?_;have ay:=eq_true hs.ok;have ak:=hs.len;have bj:=hs.sz;have eY:=hs.rows;refine Wg ?_;simp only[go_sem,ay,ak];intro hl;simp only[LIM]at hl;refine Qg (Qd (Qs (λm e1 H1=>∃(i:Nat),m=rows.length-i/\i<=rows.length/\H1=H/\(∀x,x<i->p x=false)/\e1=[(0,.c c),(1,.c (.fn f caps)),(7,.c (.int .i64 rows.length)),(8,.c (.int .i64 i))]) rows.length ?_ ?_))
 ·exact⟨0,ZD,ZD,rfl,ZF,rfl⟩
 ·rintro m e1 H1 ⟨i,hm,hi,rfl,bg,rfl⟩;refine Za ?_;refine Wv ?_ ?_
  ·intro hc;have ae:i<rows.length:=ZG
   have b8:(rows.getD i []).take 5=rows.getD i []:=Jc (by rw[h5 i ae];omega);have aP:(5<=(rows.getD i []).length)=True:=eq_true (by rw[h5 i ae];omega);have m9:an (rows.getD i [])=true:=bR _ (by rw[Ja,Jj ae];exact Jg ae);have haw:((rows.getD i []).all λc=>!c.ai)=true:=m9;refine Wb ?_;refine Wj ?_;simp only[go_sem,ay,ak,bj,eY,ae,b8,aP,haw,J4];refine hf _ _ ae ?_;refine Ww ?_ ?_
   ·intro ao;refine Za ?_;refine Zq ?_;refine hK _ ?_;have:(List.range rows.length).any p=true:=Jai.2 ⟨i,J5.2 ae,ao⟩;rw[this];simp
   ·intro ao;refine Wl ?_;refine⟨Qo,rows.length-(i+1),ZD,i+1,rfl,ZD,?_,rfl⟩;intro x hx;by_cases h:x<i
    ·exact bg x h
    ·have:x=i:=ZD;subst this;exact ao
  ·intro hc;have aY:rows.length<=i:=ZG
   refine Ws ?_;refine hK _ ?_;have:(List.range rows.length).any p=false:=by
    cases hc:(List.range rows.length).any p with
    |false=>rfl
    |true=>obtain⟨x,hx,hp⟩:=Jai.1 hc;rw[bg x (by have:=J5.1 hx;omega)]at hp;exact absurd hp ZF
   rw[this];rfl
theorem Qae9 {c:C}{rows:List (List C)}{f:Nat}{caps:List C}{p:Nat->Bool}(hs:Slc H 5 rows c)(bM:c.ai=false)(bR:∀r∈rows,an r=true)(h5:∀i,i<rows.length->(rows.getD i []).length=5)
  (hf:∀(i:Nat) (K':V->Heap->Prop),i<rows.length->K' (.c (.bool (p i))) H->Qv prog f ([.ag (rows.getD i [])]++caps.map .c) H K')
  (hK:K (.c (.bool ((List.range rows.length).any p))) H):Qv prog TJ [.c c,.c (.fn f caps)] H K:=by
 refine Qc Ab Qn8 ?_;refine Wd ?_;refine Qazc hs bM bR h5 hf λr hr=>?_;simp only[go_sem,Qdm];refine Zf ?_;rw[hr];exact hK
theorem Ka {p rg:Int}{bc:C}{rows:List (List C)}{nx:Nat->List Int}(hg:GRd H bc rows nx)(hK:K (.c (.bool (A4 rows.length nx))) H):Qv prog PB [.ag [.int .i64 p,.int .i64 rg,bc]] H K:=by
 have bM:=hg.ow;have ay:=eq_true hg.s.ok;have ak:=hg.s.len;have h5:∀i,i<rows.length->(rows.getD i []).length=5:=λi hi=>by obtain⟨a1,a2,a3,a4,fl,h⟩:=hg.x i hi;rw[h];rfl
 refine Qc Ab Qa0b ?_;refine Za ?_;refine Zo bM ay ak ?_;intro hl;simp only[LIM]at hl;refine⟨λhc=>?_,λhc=>?_⟩
 ·have hn:0<rows.length:=ZG
  refine Qae9 (p:=λi=>(nx i).any λx=>!(decide (0<=x)&&decide (x<=(rows.length:Int)-1))) hg.s bM hg.no h5 (λi K' hi jH=>?_) ?_
  ·obtain⟨a1,a2,a3,a4,fl,a8⟩:=hg.x i hi;rw[a8];refine Qc Ab Qagb ?_;refine Qa ?_;simp only[go_sem,Jas,Ja0,Jah,Jbi];refine Za ?_;refine Hu (ns:=nx i) (p:=λx=>!(decide (0<=x)&&decide (x<=(rows.length:Int)-1))) (.mk' _ _ _ _) rfl (λx K'' hx hK''=>?_) ?_
   ·refine Qc Ab Q1l ?_;refine Qa ?_;simp only[go_sem,Jas,Ja0,Jah,Jbi];refine Zo bM ay ak ?_;intro _;refine⟨Qo,?_⟩;refine BF ?_;simp only[go_sem,Qgl];refine Zf ?_;exact hK''
   ·simp only[go_sem,Qkg];refine Zf ?_;exact jH
  ·simp only[go_sem,SK,hc];refine Zf ?_;have:A4 rows.length nx = !((List.range rows.length).any λi=>(nx i).any λx=>!(decide (0<=x)&&decide (x<=(rows.length:Int)-1))):=by
    simp only[A4,hn,decide_true,Bool.and_true,List.not_any_eq_all_not,Bool.not_not,Bool.decide_and]
   rw[<-this];exact hK
 ·have hn:rows.length=0:=by have:¬0<rows.length:=ZG;omega
  simp only[go_sem,SK,hc];refine Zf ?_;have:A4 rows.length nx=false:=by simp[A4,hn]
  rw[this]at hK;exact hK
end Go.AE.Y
namespace Go.AE.Y
attribute [local instance] Classical.propDecidable
inductive Rch (g:Nat->List Nat)(A:Nat->Prop):Nat->Nat->Prop
 |refl {x:Nat}:¬A x->Rch g A x x
 |step {x y z:Nat}:Rch g A x y->z∈g y->¬A z->Rch g A x z
variable {g:Nat->List Nat}{A B:Nat->Prop}{x y z:Nat}
theorem Rch.mono (h:Rch g A x y)(lR:∀z,B z->A z):Rch g B x y:=by
 induction h with
 |refl h=>exact .refl λhb=>h (lR _ hb)
 |step h1 h2 h3 ih=>exact ih.step h2 λhb=>h3 (lR _ hb)
theorem Rch.fst (h:Rch g A x y):¬A x:=by
 induction h with
 |refl h=>exact h
 |step _ _ _ ih=>exact ih
theorem Rch.snd (h:Rch g A x y):¬A y:=by
 cases h with
 |refl h=>exact h
 |step _ _ h=>exact h
theorem Rch.trans (h:Rch g A x y)(k:Rch g A y z):Rch g A x z:=by
 induction k with
 |refl _=>exact h
 |step _ h2 h3 ih=>exact ih.step h2 h3
theorem Rch.head (hx:¬A x)(hy:y∈g x)(h:Rch g A y z):Rch g A x z:=(Rch.step (.refl hx) hy h.fst).trans h
theorem Rch.lt {n:Nat}(hg:∀x,x<n->∀y∈g x,y<n)(h:Rch g A x y)(hx:x<n):y<n:=by
 induction h with
 |refl _=>exact hx
 |step _ h2 _ ih=>exact hg _ ih _ h2
variable {xs:List Nat}{S S' S1:List Bool}{o o' o1:List Nat}
theorem Dfs.adds (h:Dfs g xs S o S' o'):(∀x,x<S.length->∀y∈g x,y<S.length)->(∀x∈xs,x<S.length)->
  ∃t,o'=o++t/\(∀x,S'.getD x false=true↔S.getD x false=true\/x∈t)/\(∀x∈t,∀y∈g x,S'.getD y false=true)/\
   (∀x∈xs,S'.getD x false=true)/\(∀y∈t,∃x∈xs,Rch g (λz=>S.getD z false=true) x y):=by
 induction h with
 |nil S o=>exact λ_ _=>⟨[],ZF,ZF,ZF,ZF,ZF⟩
 |@skip x xs S S' o o' h1 h2 ih=>
  intro hg hx;obtain⟨t,e,a1,a2,a3,a4⟩:=ih hg λy hy=>hx y (Jm _ hy);refine⟨t,e,a1,a2,λy hy=>?_,λy hy=>?_⟩
  ·rcases Jy.1 hy with rfl|hy
   ·exact h2.mono _ h1
   ·exact a3 y hy
  ·obtain⟨z,hz,hr⟩:=a4 y hy;exact⟨z,Jm _ hz,hr⟩
 |@go x xs S S1 S' o o1 o' h1 h2 h3 ih1 ih2=>
  intro hg iz;have hx:=iz x Js;have hl:=h2.len;rw[Ji]at hl;obtain⟨t1,e1,a1,a2,a3,a4⟩:=ih1 Zai (by simpa using hg x hx);obtain⟨t2,e2,b1,b2,b3,b4⟩:=ih2 (by rw[hl];exact hg) (by rw[hl];exact λy hy=>iz y (Jm _ hy));have bK:∀y,(S.set x true).getD y false=true↔y=x\/S.getD y false=true:=by
   intro y;rw[OO];by_cases q9:y=x
   ·simp[q9,hx]
   ·simp[q9]
  have rC:∀y,S.getD y false=true->S1.getD y false=true:=λy hy=>(a1 y).2 (.inl ((bK y).2 (.inr hy)));have tV:S1.getD x false=true:=(a1 x).2 (.inl ((bK x).2 (.inl rfl)));refine⟨t1++[x]++t2,by rw[e2,e1];simp,λy=>?_,λy hy z hz=>?_,λy hy=>?_,λy hy=>?_⟩
  ·rw[b1,a1,bK];simp only[Je,Jb];constructor
   ·rintro (((h|h)|h)|h)
    ·exact .inr (.inl (.inr h))
    ·exact .inl h
    ·exact .inr (.inl (.inl h))
    ·exact .inr (.inr h)
   ·rintro (h|((h|h)|h))
    ·exact .inl (.inl (.inr h))
    ·exact .inl (.inr h)
    ·exact .inl (.inl (.inl h))
    ·exact .inr h
  ·rcases Je.1 hy with hy|hy
   ·rcases Je.1 hy with hy|hy
    ·exact (b1 z).2 (.inl (a2 y hy z hz))
    ·simp only[Jb]at hy;subst hy;exact (b1 z).2 (.inl (a3 z hz))
   ·exact b2 y hy z hz
  ·rcases Jy.1 hy with rfl|hy
   ·exact (b1 y).2 (.inl tV)
   ·exact b3 y hy
  ·rcases Je.1 hy with hy|hy
   ·rcases Je.1 hy with hy|hy
    ·obtain⟨z,hz,hr⟩:=a4 y hy;exact⟨x,Js,.head (by rw[h1];simp) hz (hr.mono λw hw=>(bK w).2 (.inr hw))⟩
    ·simp only[Jb]at hy;subst hy;exact⟨y,Js,.refl (by rw[h1];simp)⟩
   ·obtain⟨z,hz,hr⟩:=b4 y hy;exact⟨z,Jm _ hz,hr.mono rC⟩
theorem Dfs.seen (h:Dfs g xs S o S' o')(hg:∀x,x<S.length->∀y∈g x,y<S.length)(iz:∀x∈xs,x<S.length)(y:Nat) :
  S'.getD y false=true↔S.getD y false=true\/∃x∈xs,Rch g (λz=>S.getD z false=true) x y:=by
 obtain⟨t,e,a1,a2,a3,a4⟩:=h.adds hg iz;constructor
 ·intro hy;rcases (a1 y).1 hy with hy|hy
  ·exact .inl hy
  ·exact .inr (a4 y hy)
 ·rintro (hy|⟨x,hx,hr⟩)
  ·exact h.mono y hy
  ·induction hr with
   |refl _=>exact a3 _ hx
   |step h1 h2 h3 ih=>
    rcases (a1 _).1 ih with h|h
    ·exact absurd h h1.snd
    ·exact a2 _ h _ h2
theorem Dfs.list (h:Dfs g xs S [] S' o')(hg:∀x,x<S.length->∀y∈g x,y<S.length)(iz:∀x∈xs,x<S.length)(hS:∀x,S.getD x false=false)(y:Nat) :
  y∈o'↔S'.getD y false=true:=by
 obtain⟨t,e,a1,_⟩:=h.adds hg iz;rw[a1,hS];simp[e]
theorem Dq:∀{l k:List Nat},l.Pairwise (· < ·)->k.Pairwise (· < ·)->(∀x,x∈l↔x∈k)->l=k
 |[],[],_,_,_=>rfl
 |[],b::k,_,_,h=>by have:=(h b).2 Js;simp at this
 |a::l,[],_,_,h=>by have:=(h a).1 Js;simp at this
 |a::l,b::k,h1,h2,h=>by
  rw[Jba]at h1 h2;have df:a=b:=by
   rcases Jy.1 ((h a).1 Js)with e|e
   ·exact e
   ·rcases Jy.1 ((h b).2 Js)with e'|e'
    ·exact e'.symm
    ·have:=h1.1 b e';have:=h2.1 a e;omega
  subst df;congr 1;refine Dq h1.2 h2.2 λx=>⟨λhx=>?_,λhx=>?_⟩
  ·rcases Jy.1 ((h x).1 (Jm _ hx))with e|e
   ·subst e;have:=h1.1 x hx;omega
   ·exact e
  ·rcases Jy.1 ((h x).2 (Jm _ hx))with e|e
   ·subst e;have:=h2.1 x hx;omega
   ·exact e
theorem Qbl5 {l:List Nat}{n:Nat}{p:Nat->Bool}(h1:l.Pairwise (· < ·))(h:∀x,x∈l↔x<n/\p x=true):l=(List.range n).filter p:=
 Dq h1 (Ja4 _ Jav) λx=>by rw[h];simp[Jaz]
noncomputable def Al (g:Nat->List Nat)(a:Int)(x:Nat):Bool:=decide (Rch g (λz=>(z:Int)=a) 0 x)
noncomputable def Aq (g:Nat->List Nat)(a b:Nat):Bool:=Al g (-1) a&&Al g (-1) b&&!Al g a b
end Go.AE.Y
namespace Go.AE.Y
open Go.Proofs.Tryz
variable {H:Heap}{K:V->Heap->Prop}
theorem YX {rows:List (List C)}(h:∀r∈rows,an r=true){i:Nat}(hi:i<rows.length){a1 a2 a3 a4 a5:C}(hr:rows.getD i []=[a1,a2,a3,a4,a5]) :
  a1.ai=false/\a2.ai=false/\a3.ai=false/\a4.ai=false/\a5.ai=false:=by
 have:=h _ (Jg hi);have e:rows[i]=[a1,a2,a3,a4,a5]:=by rw[<-hr];simp[Ja,hi]
 rw[e]at this;simpa[Go.AE.an]using this
def DK (nx:Nat->List Int)(b:Int)(n:Nat):List Int:=if decide (0<=b)&&decide (b<=(n:Int)-1)then Qz nx b n else []
set_option maxHeartbeats 1000000 in
theorem Qbhp {p rg:Int}{bc:C}{rows:List (List C)}{nx:Nat->List Int}{b:Int}(hs:Slc H 5 rows bc)(bM:bc.ai=false)(bR:∀r∈rows,an r=true)
  (hx:∀i,i<rows.length->∃a1 a2 a3 a4 a5,rows.getD i []=[a1,a2,a3,a4,a5]/\Slc H 1 (Qb (nx i)) a5)
  (hK:∀fl H',Upd H H' []->K (.c (.sl fl 1 (Qb (DK nx b rows.length)))) H'):Qv prog G0 [.ag [.int .i64 p,.int .i64 rg,bc],.c (.int .i64 b)] H K:=by
 refine Q0 ?_;refine Qc Ab Qa0a ?_;have ay:=eq_true hs.ok;have ak:=hs.len;have bj:=hs.sz;refine Wd ?_;refine Q3 (Qa ?_);simp only[go_sem,bM,ay,ak];intro hl;simp only[LIM]at hl;refine⟨Qo,?_⟩;refine BF ?_;simp only[go_sem,Qtc];refine Wv ?_ ?_
 ·intro hc;have cq:=Bf hc;refine Za ?_;refine Zf ?_;have h:=hK false _ (Kn.ar H).fin;simp only[DK,cq]at h;exact⟨_,.c _ _ FrzR.nil.sl,h⟩
 ·intro hc;have cq:=A8 hc;refine Zd ?_;refine Q3 (Qa ?_);simp only[go_sem,bM,ay,ak];intro _;refine Qg (Qd (Qs (λm e1 H1=>∃(i:Nat) (c:C) (Lg:List (Nat×Obj)),m=rows.length-i/\i<=rows.length/\Gr Lg 1 (Qb (Qz nx b i)) c/\Kn H H1 [] ([]++Lg)/\
   e1=[(1,.c (.int .i64 b)),(5,.c c),(16,.c bc),(17,.c (.int .i64 rows.length)),(18,.c (.int .i64 i))]) rows.length ?_ ?_))
  ·exact⟨0,_,[],ZD,ZD,.nil 1,Kn.ar H,rfl⟩
  ·rintro m e1 H1 ⟨i,c,Lg,hm,hi,aq,kn,rfl⟩;have di:=hs.keep0 kn;have dR:=eq_true di.ok;have jt:=di.rows;refine Za ?_;refine Wv ?_ ?_
   ·intro hc;have ae:i<rows.length:=ZG;obtain⟨a1,a2,a3,a4,a5,a8,n5⟩:=hx i ae;obtain⟨o1,o2,o3,o4,o5⟩:=YX bR ae a8;refine Zd ?_;refine Az (λe2 H2=>∃(c:C) (Lg:List (Nat×Obj)),Gr Lg 1 (Qb (Qz nx b (i+1))) c/\Kn H H2 [] ([]++Lg)/\
     lk 1 e2=.c (.int .i64 b)/\lk 5 e2=.c c/\lk 16 e2=.c bc/\lk 17 e2=.c (.int .i64 rows.length)/\lk 18 e2=.c (.int .i64 i)) ?_ ?_
    ·intro Q br _ _;refine Qd (Qa ?_);simp only[go_sem,dR,ak,bj,jt,ae,a8,o1,o2,o3,o4,o5];intro x hx H2 h2;have kn:=(kn.al hx h2).perm J7;have aW:=kn.l 0 rfl;simp only[go_sem,Qtd,aW];intro H3 h3;have kn:=kn.aB 0 rfl h3;have aF:=kn.l 0 rfl;refine Zn aF o5 ?_;refine Qbhn (n5.keep0 kn) o5 ?_;refine Ww ?_ ?_
     ·intro gA;have cP:=Ct nx b i;refine Zi ?_;refine kn.grow (B:=[_]) (new:=Qb [(i:Int)]) aq (.mk' _ _ _ _) (Qy _) (by simp only[Qe,LIM,Jo,Jn];omega) λy' H4 kn=>?_;simp only[go_sem,Qte];refine br _ _ ⟨_,_,?_,(kn.perm J7).drop,rfl,rfl,rfl,rfl,rfl⟩;rw[P3,gA,if_pos rfl,CO];exact .mk _ _ _ ZF
     ·intro gA;refine Zd ?_;refine br _ _ ⟨c,Lg,?_,?_,rfl,rfl,rfl,rfl,rfl⟩
      ·rw[P3,gA];simpa using aq
      ·have kn:Kn H H3 [] ([(x,.st [a1,a2,a3,a4,a5])]++([]++Lg)):=kn;exact (kn.perm J7).drop
    ·rintro e2 H2 ⟨c2,Lg2,aq,kn,l1,l5,l16,l17,l18⟩;refine Qp ?_;simp only[go_sem,X.next,l1,l5,l16,l17,l18];exact⟨Qo,rows.length-(i+1),ZD,i+1,c2,Lg2,rfl,ZD,aq,kn,rfl⟩
   ·intro hc;have aY:i=rows.length:=(by have:¬i<rows.length:=(by simpa using hc);omega);subst aY;refine Ws ?_;refine⟨_,.c _ _ (aq.frz kn (Qy _)),?_⟩;have:=hK false _ kn.fin;simp only[DK,cq]at this;exact this
theorem FD {p rg:Int}{bc:C}{rows:List (List C)}{nx:Nat->List Int}{b:Int}(hg:GRd H bc rows nx)
  (hK:∀fl H',Upd H H' []->K (.c (.sl fl 1 (Qb (DK nx b rows.length)))) H'):Qv prog G0 [.ag [.int .i64 p,.int .i64 rg,bc],.c (.int .i64 b)] H K:=
 Qbhp hg.s hg.ow hg.no (λi hi=>by
  obtain⟨a1,a2,a3,a4,fl,h⟩:=hg.x i hi;exact⟨a1,a2,a3,a4,_,h,.mk' _ _ _ _⟩) hK
end Go.AE.Y
namespace Go.AE.Y
attribute [local instance] Classical.propDecidable
structure Wk (g:Nat->List Nat)(a:Int)(n:Nat)(S:List Bool)(T:List Nat):Prop where
 len:S.length=n
 s:∀x,S.getD x false=true->Rch g (λz=>(z:Int)=a) 0 x
 t:∀x∈T,(x:Int)≠a->Rch g (λz=>(z:Int)=a) 0 x
 c:∀x,S.getD x false=true->∀y∈g x,S.getD y false=true\/(y:Int)=a\/y∈T
 z:S.getD 0 false=true\/((0:Nat):Int)=a\/0∈T
 r:∀x∈T,x<n
variable {g:Nat->List Nat}{a:Int}{n:Nat}{S:List Bool}{T:List Nat}{b:Nat}
theorem BU (n x:Nat):(List.replicate n false).getD x false=false:=by
 simp only[Ja,List.getElem?_replicate];split <;> rfl
theorem Wk.init (hn:0<n):Wk g a n (List.replicate n false) [0]:=by
 refine⟨ZF,λx h=>?_,λx hx ha=>?_,λx h=>?_,.inr (.inr ZF),λx hx=>?_⟩
 ·rw[BU]at h;simp at h
 ·simp at hx;subst hx;exact .refl Zax
 ·rw[BU]at h;simp at h
 ·simp at hx;omega
theorem Wk.skip (h:Wk g a n S (T++[b]))(hb:(b:Int)=a\/S.getD b false=true):Wk g a n S T:=by
 refine⟨h.len,h.s,λx hx=>h.t x (Jl _ hx),λx hx y hy=>?_,?_,λx hx=>h.r x (Jl _ hx)⟩
 ·rcases h.c x hx y hy with h1|h1|h1
  ·exact .inl h1
  ·exact .inr (.inl h1)
  ·rcases Je.1 h1 with h1|h1
   ·exact .inr (.inr h1)
   ·simp at h1;subst h1;rcases hb with hb|hb
    ·exact .inr (.inl hb)
    ·exact .inl hb
 ·rcases h.z with h1|h1|h1
  ·exact .inl h1
  ·exact .inr (.inl h1)
  ·rcases Je.1 h1 with h1|h1
   ·exact .inr (.inr h1)
   ·simp at h1;subst h1;rcases hb with hb|hb
    ·exact .inr (.inl hb)
    ·exact .inl hb
theorem Wk.go (h:Wk g a n S (T++[b]))(hba:(b:Int)≠a)(hg:∀y∈g b,y<n):Wk g a n (S.set b true) (T++g b):=by
 have hb:=h.t b ZF hba;have cM:=h.r b ZF;have bK:∀y,(S.set b true).getD y false=true↔y=b\/S.getD y false=true:=by
  intro y;rw[OO];by_cases q9:y=b
  ·simp[q9,h.len,cM]
  ·simp[q9]
 refine⟨by simp[h.len],λx hx=>?_,λx hx ha=>?_,λx hx y hy=>?_,?_,λx hx=>?_⟩
 ·rcases (bK x).1 hx with rfl|hx
  ·exact hb
  ·exact h.s x hx
 ·rcases Je.1 hx with hx|hx
  ·exact h.t x (Jl _ hx) ha
  ·exact hb.step hx ha
 ·rcases (bK x).1 hx with rfl|hx
  ·exact .inr (.inr (Jv _ hy))
  ·rcases h.c x hx y hy with h1|h1|h1
   ·exact .inl ((bK y).2 (.inr h1))
   ·exact .inr (.inl h1)
   ·rcases Je.1 h1 with h1|h1
    ·exact .inr (.inr (Jl _ h1))
    ·simp at h1;subst h1;exact .inl ((bK y).2 (.inl rfl))
 ·rcases h.z with h1|h1|h1
  ·exact .inl ((bK 0).2 (.inr h1))
  ·exact .inr (.inl h1)
  ·rcases Je.1 h1 with h1|h1
   ·exact .inr (.inr (Jl _ h1))
   ·simp at h1;exact .inl ((bK 0).2 (.inl h1))
 ·rcases Je.1 hx with hx|hx
  ·exact h.r x (Jl _ hx)
  ·exact hg x hx
theorem Wk.fin (h:Wk g a n S []):S=(List.range n).map (Al g a):=by
 have hh:∀x,S.getD x false=true↔Rch g (λz=>(z:Int)=a) 0 x:=by
  refine λx=>⟨h.s x,λhr=>?_⟩
  induction hr with
  |refl h0=>
   rcases h.z with h1|h1|h1
   ·exact h1
   ·exact absurd h1 h0
   ·simp at h1
  |step h1 h2 h3 ih=>
   rcases h.c _ ih _ h2 with h4|h4|h4
   ·exact h4
   ·exact absurd h4 h3
   ·simp at h4
 refine Jbf λx=>?_;by_cases hx:x<n
 ·have iz:x<S.length:=by rw[h.len];exact hx
  have:=hh x;simp only[Ja,Jj iz,J3]at this;rw[Jj iz];simp only[J9,List.getElem?_range hx,Ja3,Al];congr 1;by_cases hr:Rch g (λz=>(z:Int)=a) 0 x
  ·rw[this.2 hr,decide_eq_true hr]
  ·rw[decide_eq_false hr]
   cases hv:S[x]with
   |false=>rfl
   |true=>exact absurd (this.1 hv) hr
 ·rw[Jt (by rw[h.len];omega),Jt ZJ]
end Go.AE.Y
namespace Go.AE.Y
open Go.Proofs.Tryz
variable {H H0:Heap}{K:V->Heap->Prop}
theorem Qbi1 {n:Nat}{nx:Nat->List Int}(h:A4 n nx=true){b:Nat}(hb:b<n):Q7 (nxN nx b)=Qb (nx b):=by
 simp only[Q7,nxN,Jay];congr 1
 conv=>rhs;rw[<-Ja7 (nx b)]
 refine Jae λx hx=>?_;have:=GQ h hb hx;simp only[Jbe,id];exact Int.toNat_of_nonneg this.1
theorem DJ (n:Nat):List.replicate n [C.bool false]=Qm (List.replicate n false):=by simp[Qm]
theorem Bk (l:List Nat)(i:Nat)(h:i<l.length):(Q7 l).getD i []=[.int .i64 ((l.getD i 0:Nat):Int)]:=by
 simp[Q7,Qb,Ja,h]
theorem Gi (a b:List Nat):Q7 (a++b)=Q7 a++Q7 b:=by simp[Q7,Qb]
end Go.AE.Y
namespace Go.AE
open Go.AE.Y
open Go.Proofs.Tryz
variable {H H0:Heap}{K:V->Heap->Prop}
theorem Kn.growW {E B:List (Nat×Obj)}{K:V->Heap->Prop}{sz z k:Nat}{R rows new:List (List C)}{b:C}(kn:Kn H0 H E (B++[(z,.vec sz R)]))(hR:R.take k=rows)(hk:k=rows.length)(hb:Slc H sz new b)
  (h1:∀r∈new,an r=true) (h2:rows.length+new.length<=LIM)
  (h:∀y' H',Kn H0 H' E (B++[(y',.vec sz (rows++new))])->K (.c (.ah y' sz 0 (rows.length+new.length))) H'):appQ H sz (.ah z sz 0 k) b K:=by
 have aP:rows.length<=R.length:=by rw[<-hR,Jr];omega
 subst hk;refine⟨hb.ok,hb.sz,?_⟩;have hy:H z=.vec sz R:=(kn.get (z,.vec sz R) ZF).1;simp only[hy,hb.rows,hb.len,J4,hR];refine⟨trivial,trivial,ZD,h1,h2,λl' cZ H' dt=>?_⟩;refine h l' H' ?_;have:=kn.ap B.length (y:=z) (o:=.vec sz R) ZF cZ dt;simpa using this
end Go.AE
namespace Go.AE.Y
open Go.Proofs.Tryz
variable {H H0:Heap}{K:V->Heap->Prop}
set_option maxHeartbeats 2000000 in
theorem Qpc {p rg:Int}{bc:C}{rows:List (List C)}{nx:Nat->List Int}{a:Int}(hg:GRd H bc rows nx)(aL:A4 rows.length nx=true)(hn:rows.length<=10000)(hM:∀i,i<rows.length->(nx i).length<=1000)
  (hK:∀H',Upd H H' []->K (.c (.sl false 1 (Qm ((List.range rows.length).map (Al (nxN nx) a))))) H') :
  Qv prog PV [.ag [.int .i64 p,.int .i64 rg,bc],.c (.int .i64 a)] H K:=by
 refine Q0 ?_;refine Qc Ab Qzf ?_;have bM:=hg.ow;have ay:=eq_true hg.s.ok;have ak:=hg.s.len;have bj:=hg.s.sz;have bY:=CN aL;refine Zh bM ?_;refine Qa ?_;simp only[go_sem,bM,ay,ak,DJ];intro hl;refine⟨by simp only[LIM];omega,λy hy H1 h1=>?_⟩;have kn:=(Kn.ar H).al hy h1;simp only[go_sem,Qfk];refine Za ?_;intro z hz H2 h2;have kn:=kn.al hz h2;have inv0:Kn H H2 [] ([(y,.vec 1 (Qm (List.replicate rows.length false)))]++[(z,.vec 1 (Q7 [0]))]):=kn;refine Qg (Qd (Qs (λm e1 H1=>∃(S:List Bool) (T:List Nat) (z:Nat) (R:List (List C)),m=(rows.length-cnt S) * 1001+T.length/\Wk (nxN nx) a rows.length S T/\T.length<=1+1000 * cnt S/\R.take T.length=Q7 T/\
   Kn H H1 [] ([(y,.vec 1 (Qm S))]++[(z,.vec 1 R)])/\lk 1 e1=.c (.int .i64 a)/\lk 2 e1=.c (.pp [.int .i64 p,.int .i64 rg,bc])/\lk 5 e1=.c (.ah y 1 0 rows.length)/\lk 6 e1=.c (.ah z 1 0 T.length)) ((rows.length-cnt (List.replicate rows.length false)) * 1001+1) ?_ ?_))
 ·exact⟨List.replicate rows.length false,[0],z,Q7 [0],rfl,.init bY,ZF,by simp[Q7,Qb],inv0,ZE,ZE,ZE,ZE⟩
 ·rintro m e1 H1 ⟨S,T,z,R,hm,hw,hT,hR,kn,l1,l2,l5,l6⟩;have hz:=kn.l 1 rfl;have hy:=kn.l 0 rfl;have nW:=hw.len;have cB:=C0 S;have nk:T.length<=R.length:=by
   have:=congrArg List.length hR;rw[Jr,Q1]at this;omega
  refine Q3 (Qa ?_);simp only[go_sem,l1,l2,l5,l6,hz,nk,Jk];intro vI;refine Wv ?_ ?_
  ·intro hc;have pQ:0<T.length:=ZG
   obtain⟨T',b,rfl⟩:∃T' b,T=T'++[b]:=⟨T.dropLast,T.getLast (by intro h;subst h;simp at pQ),(List.dropLast_concat_getLast _).symm⟩;have yN:(T'++[b]).length=T'.length+1:=ZF
   rw[yN]at hm hT hR nk vI;have cM:=hw.r b ZF;have jD:b<S.length:=ZD
   have yO:R.getD T'.length []=[.int .i64 (b:Int)]:=by
    have h1:(Q7 (T'++[b])).getD T'.length []=[.int .i64 (b:Int)]:=by
     rw[Bk _ _ ZF];simp[Ja]
    rw[<-h1,<-hR];simp only[Ja,Jag];rw[if_pos ZD]
   have yP:R.take T'.length=Q7 T':=by
    have:=congrArg (List.take T'.length) hR;rw[Ja6,Nat.min_eq_left ZD,Gi]at this;rw[this,List.take_append_of_le_length (by rw[Q1];omega),Jc (by rw[Q1];omega)]
   have tE:(R.take (T'.length+1)).getD T'.length []=[.int .i64 (b:Int)]:=by
    rw[<-yO];simp only[Ja,Jag];rw[if_pos ZD]
   have hR3:T'.length<(R.take (T'.length+1)).length:=by rw[Jr];omega
   have e1:(((T'.length+1:Nat):Int)-1)=(T'.length:Int):=ZD
   simp only[yN]at *;refine Zd ?_;refine Qd (Qa ?_);have dT:T'.length<T'.length+1:=ZD
   simp only[go_sem,l1,l2,l5,l6,hz,nk,yO,tE,hR3,e1,dT,Jk];intro _;refine⟨Qo,?_⟩;refine Qa ?_;simp only[go_sem,l1,l2,l5,l6,hz,nk,e1,Jk,Jbs];intro _;refine⟨Qo,ZD,?_⟩;refine Q3 (Qa ?_);have b8:List.take rows.length (Qm S)=Qm S:=Jc Zae;simp only[go_sem,hy,jD,cM,nW,b8,Qu,Qx _ _ jD,Jk,Jf];refine Wv ?_ ?_
   ·intro ao;have hb:(b:Int)=a\/S.getD b false=true:=by
     by_cases h:(b:Int)=a
     ·exact .inl h
     ·simp only[h,decide_false,cond_false]at ao;exact .inr ao
    refine Zb ?_;exact⟨(rows.length-cnt S) * 1001+T'.length,ZD,S,T',z,R,rfl,hw.skip hb,ZD,yP,kn,rfl⟩
   ·intro ao;have hb:(b:Int)≠a/\S.getD b false=false:=by
     by_cases h:(b:Int)=a
     ·simp only[h,decide_true,cond_true]at ao;simp at ao
     ·simp only[h,decide_false,cond_false]at ao;exact⟨h,ao⟩
    refine Zd ?_;refine Qa ?_;simp only[go_sem,hy,jD,cM,nW,b8,Qu,Qx _ _ jD,BS,Jk,Jf];intro H3 h3;have kn:=kn.aB 0 rfl h3;have y8:=Ec jD hb.2;have su:=C0 (S.set b true);rw[Ji]at su;obtain⟨a1,a2,a3,a4,fl,a8⟩:=hg.x b cM;have eC:=hg.keep0 kn;have fk:=eq_true eC.s.ok;have kA:=eC.s.rows;have hMb:=hM b cM;have cC:(nxN nx b).length=(nx b).length:=(by simp[nxN]);refine Qp ?_;generalize lS:C.ah z 1 0 T'.length=tc;have eb:tc.ai=false:=(by rw[<-lS];rfl);simp only[go_sem,bM,eb,fk,ak,bj,kA,cM,a8];rw[<-lS];refine kn.growW (B:=[(y,.vec 1 (Qm (S.set b true)))]) (new:=Qb (nx b)) yP (by rw[Q1]) (.mk' _ _ _ _) (Qy _) (by simp only[Q1,Qe,LIM];omega) λz2 H4 kn=>?_;simp only[go_sem,Qfl,X.next];refine⟨(rows.length-cnt (S.set b true)) * 1001+(T'++nxN nx b).length,?_,S.set b true,T'++nxN nx b,z2,Q7 (T'++nxN nx b),rfl,hw.go hb.1 (λx hx=>Co aL cM hx),?_,Jc (by rw[Q1];exact Jf _),?_,?_⟩
    ·rw[Jw,cC];omega
    ·rw[Jw,cC];omega
    ·rw[Gi,Qbi1 aL cM];exact kn
    ·simp only[Jw,cC,Q1,Qe]
  ·intro hc;have pQ:T=[]:=by
    cases T with
    |nil=>rfl
    |cons x r=>simp at hc
   subst pQ;refine Zb ?_;refine Zh l5 ?_;refine Zf ?_;have wt:=hw.fin;refine⟨_,.c _ _ ((FrzR.same (Hp S)).ah (kn.un 0 rfl) hy ?_),?_⟩
   ·rw[Qu,nW]
   ·have:=hK _ kn.fin;rw[<-wt]at this;exact this
end Go.AE.Y
namespace Go.AE
variable {H0 F H:Heap}{E E0 E' L L1 L2 M:List (Nat×Obj)}
theorem Kn.startE (h:∀p∈E,H p.1=p.2/\p.2≠.none)(hd:(E.map Prod.fst).Nodup):Kn H H E []:=
 ⟨ZP,λp hp=>by rw[(h p hp).1];exact (h p hp).2,ZF,hd,ZF,λ_ _ _=>rfl⟩
theorem Kn.mid (k:Kn H0 F E0 (L1++L2)):Kn F F L1 []:=
 .startE (λp hp=>k.get p (Jv _ (Jl _ hp))) (by
  have:=k.dL;rw[Jx]at this;exact (Jab.1 this).1)
theorem Kn.comp (k1:Kn H0 F E0 (L1++L2))(k2:Kn F H E' M)(hE:E'.map Prod.fst=L1.map Prod.fst):Kn H0 H E0 ((E'++L2)++M):=by
 have hd:=k1.dL;rw[Jx]at hd;obtain⟨d1,d2,d3⟩:=Jab.1 hd;have yZ:∀p∈E0,F p.1=p.2/\p.2≠.none:=λp hp=>k1.get p (Jl _ hp);have yV:∀p∈L2,F p.1=p.2/\p.2≠.none:=λp hp=>k1.get p (Jv _ (Jv _ hp));have inL1:∀p∈E',∃q∈L1,q.1=p.1:=λp hp=>by
  have:=Ax hp;rw[hE]at this;obtain⟨q,h1,h2⟩:=Jp.1 this;exact⟨q,h1,h2⟩
 have keep:∀m,F m≠.none->m∉L1.map Prod.fst->H m=F m:=λm h1 h2=>k2.chg m h1 (by rw[hE];exact h2);have xr:∀p∈E0,∀q∈L1,p.1≠q.1:=λp hp q hq hh=>k1.ext p hp (hh▸k1.loc q (Jl _ hq));refine⟨λp hp=>?_,k1.ext,λp hp=>?_,k1.dE,?_,λm hm hn=>?_⟩
 ·rcases Je.1 hp with hp|hp
  ·obtain⟨h1,h2⟩:=yZ p hp;refine⟨?_,h2⟩;rw[keep p.1 (by rw[h1];exact h2) (λhh=>?_),h1];obtain⟨q,hq,hqq⟩:=Jp.1 hh;exact xr p hp q hq hqq.symm
  ·rcases Je.1 hp with hp|hp
   ·rcases Je.1 hp with hp|hp
    ·exact k2.get p (Jl _ hp)
    ·obtain⟨h1,h2⟩:=yV p hp;refine⟨?_,h2⟩;rw[keep p.1 (by rw[h1];exact h2) (λhh=>?_),h1];exact d3 _ hh _ (Ax hp) rfl
   ·exact k2.get p (Jv _ hp)
 ·rcases Je.1 hp with hp|hp
  ·rcases Je.1 hp with hp|hp
   ·obtain⟨q,hq,hh⟩:=inL1 p hp;rw[<-hh];exact k1.loc q (Jl _ hq)
   ·exact k1.loc p (Jv _ hp)
  ·have h1:=k2.loc p hp
   cases h0:H0 p.1 with
   |none=>rfl
   |_=>
    by_cases hx:p.1∈E0.map Prod.fst
    ·obtain⟨q,hq,hh⟩:=Jp.1 hx;obtain⟨a1,a2⟩:=yZ q hq;rw[hh,h1]at a1;exact absurd a1.symm a2
    ·have:=k1.chg p.1 (by rw[h0];simp) hx;rw[h1,h0]at this;simp at this
 ·rw[Jx,Jx];refine Jab.2 ⟨Jab.2 ⟨k2.dE,d2,λa ha b hb=>?_⟩,k2.dL,λa ha b hb df=>?_⟩
  ·rw[hE]at ha;exact d3 a ha b hb
  ·obtain⟨q,hq,rfl⟩:=Jp.1 hb;have hf:=k2.loc q hq;rcases Je.1 ha with ha|ha
   ·obtain⟨r,hr,rfl⟩:=Jp.1 ha;exact k2.ext r hr (df▸hf)
   ·obtain⟨r,hr,rfl⟩:=Jp.1 ha;obtain⟨a1,a2⟩:=yV r hr;rw[df,hf]at a1;exact a2 a1.symm
 ·rw[keep m (by rw[k1.chg m hm hn];exact hm) (λhh=>?_),k1.chg m hm hn];obtain⟨q,hq,rfl⟩:=Jp.1 hh;exact hm (k1.loc q (Jl _ hq))
theorem Kn.upd (k:Kn H0 H E L):Upd H0 H E:=⟨λp hp=>(k.get p (Jl _ hp)).1,λm hm hn=>k.chg m hm hn⟩
theorem Y.FrzL.ptr {S:Nat->Bool}{l:Nat}{cells cells':List C}(hS:S l=true)(hH:H l=.st cells)(h:FrzL H S cells cells'):FrzC H S (.ptr l 0) (.pp cells'):=by
 obtain⟨h1,h2⟩:=h.spec;exact .ptr l 0 cells cells cells' hS hH rfl h1 h2
theorem Kn.bD {B Lg:List (Nat×Obj)}{K:V->Heap->Prop}{sz:Nat}{rows new:List (List C)}{b c:C}(kn:Kn H0 H E (B++Lg))(hc:Gr Lg sz rows c)(hb:Slc H sz new b)
  (h1:∀r∈new,an r=true) (h2:rows.length+new.length<=LIM)
  (h:∀t Lg' H',Gr Lg' sz (rows++new) t->t.ai=false->Kn H0 H' E (B++Lg')->K (.c t) H'):appQ H sz c b K:=
 kn.grow hc hb h1 h2 λy' H' k=>h _ _ H' (.mk y' sz _ ZF) rfl k
end Go.AE
namespace Go.AE.Y
open Go.Proofs.Tryz
variable {H H0:Heap}{K:V->Heap->Prop}
def Ds (x3 x4 x5:Nat)(p rg:Int)(bc:C):List C:=[.ptr x4 0,.pp [.int .i64 p,.int .i64 rg,bc],.ptr x5 0,.ptr x3 0]
def visE (x3 x4 x5 y n:Nat)(p rg:Int)(bc:C)(S:List Bool)(oc:C):List (Nat×Obj):=
 [(y,.vec 1 (Qm S)),(x3,.st [oc]),(x4,.st [.ah y 1 0 n]),(x5,.st [.fn HB (Ds x3 x4 x5 p rg bc)])]
set_option maxHeartbeats 2000000 in
theorem V9 {F:Heap}{p rg:Int}{bc:C}{rows:List (List C)}{nx:Nat->List Int}{y x3 x4 x5:Nat}(aL:A4 rows.length nx=true)(hn:rows.length<=1000000)(hg:GRd F bc rows nx)
  (cd:∀l a b d,bc=.ah l a b d->l≠y/\l≠x3/\l≠x4/\l≠x5) :
  ∀(u b:Nat) (S:List Bool) (o:List Nat) (oc:C) (Lg:List (Nat×Obj)) (H:Heap) (K:V->Heap->Prop),S.length=rows.length->rows.length-cnt S<=u->b<rows.length->S.getD b false=false->
   Kn F H (visE x3 x4 x5 y rows.length p rg bc S oc) ([]++Lg)->Gr Lg 1 (Q7 o) oc->o.length<=cnt S->
   (∀(S':List Bool) (o':List Nat) (oc':C) (Lg':List (Nat×Obj)) (H':Heap),Dfs (nxN nx) [b] S o S' o'->Kn F H' (visE x3 x4 x5 y rows.length p rg bc S' oc') ([]++Lg')->Gr Lg' 1 (Q7 o') oc'->K (.tup []) H')->
   Qv prog HB ([.c (.int .i64 b)]++(Ds x3 x4 x5 p rg bc).map .c) H K:=by
 intro u
 induction u with
 |zero=>
  intro b S o oc Lg H K hS hu hb gG;have h1:=Ec (S:=S) (x:=b) ZD gG;have h2:=C0 (S.set b true);rw[Ji]at h2;omega
 |succ u ih=>
  intro b S o oc Lg H K hS hu hb gG kn aq dJ hK;have bM:=hg.ow;have jD:b<S.length:=ZD
  obtain⟨a1,a2,a3,a4,fl,a8⟩:=hg.x b hb;have bj:=hg.s.sz;have ak:=hg.s.len;have j3:=aq.ai;refine Qc Ab Qanv ?_;have hy:=kn.e 0 rfl;have bO:=kn.e 2 rfl;have b8:List.take rows.length (Qm S)=Qm S:=Jc Zae;refine Qa ?_;simp only[go_sem,Ds,bO,hy,hb,Qu,hS,Qx _ _ jD,BS,J4,Jk,Jf];intro H1 h1;have kn:Kn F H1 (visE x3 x4 x5 y rows.length p rg bc (S.set b true) oc) ([]++Lg):=kn.stE 0 rfl h1;have y8:=Ec jD gG;have kL:(nxN nx b).length=(nx b).length:=by simp[nxN]
  have db:∀(S:List Bool) (oc:C) (l a b d),bc=.ah l a b d->l∉(visE x3 x4 x5 y rows.length p rg bc S oc).map Prod.fst:=by
   intro S oc l a b d hh;obtain⟨q1,q2,q3,q4⟩:=cd l a b d hh;simp[visE,q1,q2,q3,q4]
  have iQ:=hg.keep kn (db _ _);have dR:=eq_true iQ.s.ok;have jt:=iQ.s.rows;refine Q3 (Qa ?_);simp only[go_sem,bM,dR,ak,bj,jt,hb,a8,Qe];intro gp;simp only[LIM]at gp;refine Qg (Qd (Qs (λm e1 H1=>∃(i:Nat) (S1:List Bool) (o1:List Nat) (oc1:C) (Lg1:List (Nat×Obj)),m=(nx b).length-i/\i<=(nx b).length/\Dfs (nxN nx) ((nxN nx b).take i) (S.set b true) o S1 o1/\
   Kn F H1 (visE x3 x4 x5 y rows.length p rg bc S1 oc1) ([]++Lg1)/\Gr Lg1 1 (Q7 o1) oc1/\
   e1=[(0,.c (.int .i64 b)),(1,.c (.ptr x4 0)),(3,.c (.ptr x5 0)),(4,.c (.ptr x3 0)),(16,.c (.sl fl 1 (Qb (nx b)))),(17,.c (.int .i64 (nx b).length)),(18,.c (.int .i64 i))]) (nx b).length ?_ ?_))
  ·exact⟨0,_,o,oc,Lg,ZD,ZD,.nil _ _,kn,aq,rfl⟩
  ·rintro m e1 H2 ⟨i,S1,o1,oc1,Lg1,hm,hi,hd,kn,aq,rfl⟩;have bQ:∀x,x<(S.set b true).length->∀z∈nxN nx x,z<(S.set b true).length:=by
    rw[Ji,hS];exact λx hx z hz=>Co aL hx hz
   have bT:=hd.len;rw[Ji,hS]at bT;have cD:=hd.count bQ (λx hx=>bQ b (by rw[Ji];exact jD) x (J1 hx));have w5:=hd.olen;have pI:=C0 S1;have hy:=kn.e 0 rfl;have aF:=kn.e 1 rfl;have bO:=kn.e 2 rfl;have bm:=kn.e 3 rfl;refine Za ?_;refine Wv ?_ ?_
   ·intro hc;have ae:i<(nx b).length:=ZG;obtain⟨w,hw⟩:∃w:Nat,(nx b).getD i 0=w:=by
     have h1:=GQ aL hb (Jg ae);refine⟨((nx b)[i]).toNat,?_⟩;simp only[Ja,Jj ae,J3];omega
    have lE:(nxN nx b).take (i+1)=(nxN nx b).take i++[w]:=by
     rw[Jh (by rw[kL];exact ae)];congr 1;simp only[nxN,Jbm];simp only[Ja,Jj ae,J3]at hw;rw[hw];simp
    have qe:w<rows.length:=Co aL hb (x:=w) (by
     have:w∈(nxN nx b).take (i+1):=(by rw[lE];simp);exact J1 this)
    have uv:w<S1.length:=ZD;refine Zd ?_;refine Az (λe2 H2=>∃(S2:List Bool) (o2:List Nat) (oc2:C) (Lg2:List (Nat×Obj)),Dfs (nxN nx) ((nxN nx b).take (i+1)) (S.set b true) o S2 o2/\
     Kn F H2 (visE x3 x4 x5 y rows.length p rg bc S2 oc2) ([]++Lg2)/\Gr Lg2 1 (Q7 o2) oc2/\
     lk 0 e2=.c (.int .i64 b)/\lk 1 e2=.c (.ptr x4 0)/\lk 3 e2=.c (.ptr x5 0)/\lk 4 e2=.c (.ptr x3 0)/\lk 16 e2=.c (.sl fl 1 (Qb (nx b)))/\lk 17 e2=.c (.int .i64 (nx b).length)/\lk 18 e2=.c (.int .i64 i)) ?_ ?_
    ·intro Q br _ _;have eW:List.take rows.length (Qm S1)=Qm S1:=Jc Zae;refine Qd (Qa ?_);simp only[go_sem,hw,ae,Qe,Qn _ _ ae];refine Qa ?_;simp only[go_sem,bO,hy,qe,eW,bT,Qu,Qx _ _ uv,J4,Jk,Jf];refine Ww ?_ ?_
     ·intro ao;have fi:S1.getD w false=false:=Bf ao;refine Zv bm ?_;refine ih w S1 o1 oc1 Lg1 H2 _ bT ZD qe fi kn aq ZD λS2 o2 oc2 Lg2 H3 cY kn aq=>?_;refine br _ _ ⟨S2,o2,oc2,Lg2,?_,kn,aq,rfl,rfl,rfl,rfl,rfl,rfl,rfl⟩;rw[lE];exact hd.app cY
     ·intro ao;have fi:S1.getD w false=true:=A8 ao;refine Zd ?_;refine br _ _ ⟨S1,o1,oc1,Lg1,?_,kn,aq,rfl,rfl,rfl,rfl,rfl,rfl,rfl⟩;rw[lE];exact hd.app (.skip fi (.nil _ _))
    ·rintro e2 H3 ⟨S2,o2,oc2,Lg2,hd,kn,aq,l0,l1,l3,l4,l16,l17,l18⟩;refine Qp ?_;simp only[go_sem,X.next,l0,l1,l3,l4,l16,l17,l18];exact⟨Qo,(nx b).length-(i+1),ZD,i+1,S2,o2,oc2,Lg2,rfl,ZD,hd,kn,aq,rfl⟩
   ·intro hc;have aY:(nx b).length<=i:=ZG;rw[Jc (by rw[kL];exact aY)]at hd;have j3:=aq.ai;refine Zb ?_;refine Qp ?_;simp only[go_sem,aF,j3];refine kn.grow (new:=Qb [(b:Int)]) aq (.mk' _ _ _ _) (Qy _) ZaS λz H3 kn=>?_;have aF:=kn.e 1 rfl;simp only[go_sem,Qm9,aF];intro H4 h4;have kn:=kn.stE 1 rfl h4;simp only[go_sem,Q4,Aa,Qxc,Jak];refine⟨λ_=>trivial,hK S1 (o1++[b]) _ _ H4 (.one gG hd) kn ?_⟩;rw[<-MK];exact .mk _ _ _ ZF
set_option maxHeartbeats 1000000 in
theorem Qa72 {p rg:Int}{bc:C}{rows:List (List C)}{nx:Nat->List Int}(hg:GRd H bc rows nx)(aL:A4 rows.length nx=true)(hn:rows.length<=1000000)
  (hK:∀(S:List Bool) (o:List Nat) (t:C) (Lg:List (Nat×Obj)) (H':Heap),Gr Lg 1 (Q7 o) t->Kn H H' [] ([]++Lg)->Dfs (nxN nx) [0] (List.replicate rows.length false) [] S o->K (.c t) H') :
  Qv prog Px [.ag [.int .i64 p,.int .i64 rg,bc]] H K:=by
 refine Qc Ab Qa9d ?_;have bM:=hg.ow;have ak:=hg.s.len;have bY:=CN aL;refine Wd ?_;intro x3 aF H1 h1;have kn:=(Kn.ar H).al aF h1;have iQ:=hg.keep0 kn;have dR:=eq_true iQ.s.ok;refine Qa ?_;simp only[go_sem,bM,dR,ak,DJ];intro hl;refine⟨by simp only[LIM];omega,λy hy H2 h2=>?_⟩;have kn:=kn.al hy h2;simp only[go_sem,Qyb];intro x4 bO H3 h3;have kn:=kn.al bO h3;have bO:=kn.l 2 rfl;simp only[go_sem,Qya,bO];intro H4 h4;have kn:=kn.aB 2 rfl h4;refine Za ?_;intro x5 bm H5 h5;have kn:=kn.al bm h5;have bm:=kn.l 3 rfl;refine Zh bm ?_;intro H6 h6;have kn:=kn.aB 3 rfl h6;have kn:Kn H H6 [] ([(x3,.st [.sl true 1 []]),(y,.vec 1 (Qm (List.replicate rows.length false))),(x4,.st [.ah y 1 0 rows.length]),(x5,.st [.fn HB (Ds x3 x4 x5 p rg bc)])]):=kn;have kn:Kn H H6 [] (visE x3 x4 x5 y rows.length p rg bc (List.replicate rows.length false) (.sl true 1 [])++[]):=kn.perm (List.Perm.swap _ _ _);have bm:=kn.l 3 rfl;have hg6:=hg.keep0 kn;have cd:∀l a b d,bc=.ah l a b d->l≠y/\l≠x3/\l≠x4/\l≠x5:=by
  intro l a b d hh;have hu:H l≠.none:=by
   have:=hg.s.ok;rw[hh]at this;intro h0;simp only[aZ,h0]at this
  exact⟨λh=>hu (h▸kn.free 0 rfl),λh=>hu (h▸kn.free 1 rfl),λh=>hu (h▸kn.free 2 rfl),λh=>hu (h▸kn.free 3 rfl)⟩
 refine Zh bm ?_;refine V9 aL hn hg6 cd rows.length 0 (List.replicate rows.length false) [] (.sl true 1 []) [] H6 _ ZF ZD bY (BU _ _) kn.mid (.nil 1) ZF λS o oc Lg H7 hd k2 aq=>?_;have kn:=kn.comp k2 rfl;have aF:=kn.l 1 rfl;have j3:=aq.ai;refine Zn aF j3 ?_;refine Zf ?_;have kn:=kn.perm (L':=([]++Lg)++(visE x3 x4 x5 y rows.length p rg bc S oc++[])) (by rw[Ja0];exact J7);exact hK S o oc Lg _ aq kn.drop hd
theorem YO {p rg:Int}{bc:C}{rows:List (List C)}{nx:Nat->List Int}(hg:GRd H bc rows nx)(aL:A4 rows.length nx=true)(hn:rows.length<=1000000)
  (hK:∀(S:List Bool) (o:List Nat) (H':Heap),Upd H H' []->Dfs (nxN nx) [0] (List.replicate rows.length false) [] S o->K (.c (.sl false 1 (Q7 o))) H') :
  Qv prog Px [.ag [.int .i64 p,.int .i64 rg,bc]] H K:=
 Q0 (Qa72 hg aL hn λS o t Lg H' aq kn hd=>⟨_,.c _ _ (aq.frz kn (Qy _)),hK S o _ kn.fin hd⟩)
end Go.AE.Y
namespace Go.AE.Y
variable {ns:List Int}{n:Int}{at':Nat}
structure InsAt (ns:List Int)(n:Int)(k:Nat):Prop where
 le:k<=ns.length
 lo:∀i,i<k->∀(h:i<ns.length),ns[i]<n
 hi:∀(h:k<ns.length),n<=ns[k]
theorem InsAt.mem_of_asc {k:Nat}(h:InsAt ns n k)(ha:ns.Pairwise (· < ·)):(∀x∈ns.take k,x<n)/\(∀x∈ns.drop k,n<=x)/\(∀x∈ns.drop (k+1),n<x):=by
 have hp:=Jz.1 ha;refine⟨λx hx=>?_,λx hx=>?_,λx hx=>?_⟩
 ·obtain⟨i,hi,rfl⟩:=J0.1 hx;rw[Jaa];rw[Jr]at hi;exact h.lo i ZD ZD
 ·obtain⟨i,hi,rfl⟩:=J0.1 hx;rw[Jbh];rw[Jaj]at hi;have h1:=h.hi ZD;by_cases h0:i=0
  ·subst h0;exact h1
  ·have:=hp k (k+i) ZD ZD ZD;exact Int.le_trans h1 (Int.le_of_lt this)
 ·obtain⟨i,hi,rfl⟩:=J0.1 hx;rw[Jbh];rw[Jaj]at hi;have h1:=h.hi ZD;have:=hp k (k+1+i) ZD ZD ZD;exact Int.lt_of_le_of_lt h1 this
theorem InsAt.new {k:Nat}(h:InsAt ns n k)(ha:ns.Pairwise (· < ·))(hn:∀(h:k<ns.length),ns[k]≠n) :
  (ns.take k++[n]++ns.drop k).Pairwise (· < ·)/\(∀x,x∈ns.take k++[n]++ns.drop k↔x=n\/x∈ns):=by
 obtain⟨h1,h2,h3⟩:=h.mem_of_asc ha;have h4:∀x∈ns.drop k,n<x:=by
  intro x hx;have hk:k<ns.length:=by
   rcases Jbk k ns.length with h|h
   ·exact h
   ·rw[List.drop_eq_nil_of_le h]at hx;simp at hx
  rw[Jan hk]at hx;rcases Jy.1 hx with rfl|hx
  ·have:=h.hi hk;have:=hn hk;omega
  ·exact h3 x hx
 refine⟨?_,λx=>?_⟩
 ·rw[Jao,Ja5];refine⟨ha.sublist (List.take_sublist _ _),?_,λa yK b hb=>?_⟩
  ·rw[Ja1,Jba];exact⟨h4,ha.sublist (List.drop_sublist _ _)⟩
  ·have:=h1 a yK;rcases Je.1 hb with hb|hb
   ·simp at hb;subst hb;exact this
   ·have:=h2 b hb;omega
 ·conv=>rhs;rw[<-Ja2 k ns]
  simp only[Je,Jb];constructor
  ·rintro ((h|h)|h)
   ·exact .inr (.inl h)
   ·exact .inl h
   ·exact .inr (.inr h)
  ·rintro (h|h|h)
   ·exact .inl (.inr h)
   ·exact .inl (.inl h)
   ·exact .inr h
theorem Qbrh {ns:List Int}{l:List Nat}(h1:ns.Pairwise (· < ·))(h2:l.Pairwise (· < ·))(h:∀x,x∈ns↔∃y∈l,(y:Int)=x):ns=l.map Int.ofNat:=by
 have vo:∀x∈ns,0<=x:=λx hx=>by obtain⟨y,_,rfl⟩:=(h x).1 hx;omega
 have e:ns=(ns.map Int.toNat).map Int.ofNat:=by
  rw[Jay]
  conv=>lhs;rw[<-Ja7 ns]
  refine Jae λx hx=>?_;have:=vo x hx;simp only[Jbe,id];exact (Int.toNat_of_nonneg this).symm
 rw[e];congr 1;refine Dq ?_ h2 λx=>?_
 ·rw[Jac];refine List.Pairwise.imp_of_mem (λ{a b} ha hb df=>?_) h1;have:=vo a ha;have:=vo b hb;omega
 ·constructor
  ·intro hx;obtain⟨y,hy,rfl⟩:=Jp.1 hx;obtain⟨z,hz,rfl⟩:=(h y).1 hy;simpa using hz
  ·intro hx;exact Jp.2 ⟨(x:Int),(h x).2 ⟨x,hx,rfl⟩,ZF⟩
end Go.AE.Y
namespace Go.AE.Y
open Go.Proofs.Tryz
variable {H H0:Heap}{K:V->Heap->Prop}
theorem Dy {c:C}{ns:List Int}{v:Int}(hs:Slc H 1 (Qb ns) c)(bM:c.ai=false)(hK:∀r,IsIx ns v r->K (.c (.int .i64 r)) H) :
  Qv prog FY [.c c,.c (.int .i64 v)] H K:=by
 refine Qc Ab XS ?_;have ay:=eq_true hs.ok;have ak:=hs.len;have bj:=hs.sz;have eY:=hs.rows;refine Wf ?_;refine Qg (Qd (Qs (λm e1 H1=>∃(i:Nat),m=ns.length-i/\i<=ns.length/\H1=H/\v∉ns.take i/\e1=[(0,.c c),(1,.c (.int .i64 v)),(5,.c (.int .i64 i))]) ns.length ?_ ?_))
 ·exact⟨0,ZD,ZD,rfl,ZF,rfl⟩
 ·rintro m e1 H1 ⟨i,hm,hi,rfl,bR,rfl⟩;refine Q3 (Qa ?_);simp only[go_sem,ay,ak,Qe];intro hl;simp only[LIM]at hl;refine Wv ?_ ?_
  ·intro hc;have ae:i<ns.length:=ZG
   have bQ:ns.getD i 0=ns[i]:=Zat
   refine Wq ?_;simp only[go_sem,ay,ak,bj,eY,ae,Qe,Qn _ _ ae];refine Ww ?_ ?_
   ·intro ao;have hv:ns.getD i 0=v:=ZI;refine Za ?_;refine Zq ?_;exact hK _ (.inr ⟨i,rfl,ae,hv,bR⟩)
   ·intro ao;have hv:¬ns.getD i 0=v:=ZI;refine Wl ?_;refine⟨Qo,ns.length-(i+1),ZD,i+1,rfl,ZD,?_,rfl⟩;rw[Jh ae];simp only[Je,Jb,not_or];exact⟨bR,λh=>hv (by rw[bQ];exact h.symm)⟩
  ·intro hc;have aY:ns.length<=i:=ZG
   rw[Jc aY]at bR;refine Ws ?_;exact hK _ (.inl ⟨rfl,bR⟩)
set_option maxHeartbeats 1000000 in
theorem Pe {fl:Bool}{ns:List Int}{n:Int}(ha:ns.Pairwise (· < ·))(hL:ns.length+1<=2 ^ 38)
  (hK:∀(fl':Bool) (ns':List Int) (H':Heap),Upd H H' []->ns'.Pairwise (· < ·)->(∀x,x∈ns'↔x=n\/x∈ns)->ns'.length<=ns.length+1->K (.c (.sl fl' 1 (Qb ns'))) H') :
  Qv prog Gt [.c (.sl fl 1 (Qb ns)),.c (.int .i64 n)] H K:=by
 refine Q0 ?_;refine Qc Ab Qbiy ?_;have rest:∀i:Nat,InsAt ns n i->Ad prog Nm (Q4 GV (unK H K)) [(0,V.c (.sl fl 1 (Qb ns))),(1,.c (.int .i64 n)),(5,.c (.int .i64 i))] H:=by
  intro i bp;have hile:=bp.le;refine Q3 (Qa ?_);have tail:∀e:Env,(∀(h:i<ns.length),ns[i]≠n)->lk 0 e=.c (.sl fl 1 (Qb ns))->lk 1 e=.c (.int .i64 n)->lk 5 e=.c (.int .i64 i)->Ad prog Nn (Q4 GV (unK H K)) e H:=by
   intro e be l0 l1 l5;obtain⟨q1,q2⟩:=bp.new ha be;have xO:List.take i (Qb ns)=Qb (ns.take i):=by simp[Qb,Ja9]
   have ee:List.drop i (List.take ns.length (Qb ns))=Qb (ns.drop i):=by
    rw[Jc (by rw[Qe];exact Jf _)];simp[Qb,List.map_drop]
   refine Qa ?_;simp only[go_sem,l0,l5,Qe,xO];refine⟨ZD,?_⟩;refine⟨.inl trivial,Qy _,by simp only[LIM,Jr];omega,λz hz H1 h1=>?_⟩;have kn:Kn H H1 [] ([]++[(z,.vec 1 (Qb (ns.take i)))]):=(Kn.ar H).al hz h1;simp only[go_sem,Q4u,l0,l1,l5];generalize ht6:C.ah z 1 0 (0+(List.take i ns).length)=t6;have aq:Gr [(z,.vec 1 (Qb (ns.take i)))] 1 (Qb (ns.take i)) t6:=by rw[<-ht6];exact .mk z 1 _ (by simp[Qe])
   have hw6:=aq.ai;refine Aj ?_;simp only[go_sem,Qe,ee];refine⟨ZD,?_⟩;refine kn.bD (new:=Qb [n]) aq (.mk' _ _ _ _) (Qy _) (by simp only[Qe,LIM,Jr,Jn,Jo];omega) λt7 Lg H2 aq hw7 kn=>?_;simp only[go_sem,Q4w,Qe,ee];refine⟨ZD,?_⟩;refine kn.bD (new:=Qb (ns.drop i)) aq (.mk' _ _ _ _) (Qy _) (by simp only[Qe,LIM,Jr,Jaj,Jn,Jo,Jw];omega) λt8 Lg H3 aq xH kn=>?_;simp only[go_sem,Q4v];refine Zf ?_;have e0:Qb (ns.take i)++Qb [n]++Qb (ns.drop i)=Qb (ns.take i++[n]++ns.drop i):=Zar
   rw[e0]at aq;refine⟨_,.c _ _ (aq.frz kn (Qy _)),hK _ _ _ kn.fin q1 q2 ?_⟩;simp;omega
  simp only[go_sem,Qe];by_cases ae:i<ns.length
  ·have bQ:ns.getD i 0=ns[i]:=Zat
   simp only[go_sem,ae,Qn _ _ ae];intro _;refine Wv ?_ ?_
   ·intro ao;have he:ns[i]=n:=(by rw[<-bQ];simpa[ae]using ao);refine Za ?_;refine Zf ?_;refine⟨_,.c _ _ (D0 (noOw_mem (Qy _))),hK _ ns _ (Kn.ar H).fin ha (λx=>⟨.inr,?_⟩) ZD⟩;rintro (rfl|h)
    ·rw[<-he];exact Jg ae
    ·exact h
   ·intro ao;have he:ns[i]≠n:=(by rw[<-bQ];simpa[ae]using ao);refine Zd ?_;exact tail _ (λ_=>he) rfl rfl rfl
  ·have w3:decide ((i:Int)<(ns.length:Int))=false:=ZJ
   have dV:(Qb ns).getD i []=[]:=by rw[Ja,Jt ZZ];rfl
   simp only[go_sem,w3,dV,cond_false];intro _;refine Wv ?_ ?_
   ·intro ao;simp at ao
   ·intro _;refine Zd ?_;exact tail _ (λh=>absurd h ae) rfl rfl rfl
 refine Wd ?_;refine Qg (Qd (Qs (λm e1 H1=>∃(i:Nat),m=ns.length-i/\i<=ns.length/\H1=H/\(∀k,k<i->∀(h:k<ns.length),ns[k]<n)/\e1=[(0,.c (.sl fl 1 (Qb ns))),(1,.c (.int .i64 n)),(5,.c (.int .i64 i))]) ns.length ?_ ?_))
 ·exact⟨0,ZD,ZD,rfl,λk hk=>ZD,rfl⟩
 ·rintro m e1 H1 ⟨i,hm,hi,rfl,pj,rfl⟩;refine Q3 (Qa ?_);by_cases ae:i<ns.length
  ·have bQ:ns.getD i 0=ns[i]:=Zat
   simp only[go_sem,ae,Qe,Qn _ _ ae];intro _;refine Wv ?_ ?_
   ·intro hc;have hv:ns[i]<n:=(by rw[<-bQ];simpa[ae]using hc);refine Zd ?_;refine Qd (Qp ?_);simp only[go_sem,X.next];refine⟨Qo,ns.length-(i+1),ZD,i+1,rfl,ZD,λk hk h=>?_,rfl⟩;by_cases h':k<i
    ·exact pj k h' h
    ·have:k=i:=ZD;subst this;exact hv
   ·intro hc;have hv:¬ns[i]<n:=(by rw[<-bQ];simpa[ae]using hc);refine Zb ?_;exact rest i ⟨hi,pj,λ_=>ZD⟩
  ·have w3:decide ((i:Int)<(ns.length:Int))=false:=ZJ
   have dV:(Qb ns).getD i []=[]:=by rw[Ja,Jt ZZ];rfl
   simp only[go_sem,w3,dV,Qe,cond_false];intro _;refine Wv ?_ ?_
   ·intro ao;simp at ao
   ·intro _;refine Zb ?_;exact rest i ⟨hi,pj,λh=>absurd h ae⟩
end Go.AE.Y
namespace Go.AE.Y
attribute [local instance] Classical.propDecidable
variable {g:Nat->List Nat}{n h:Nat}
theorem rchB_iff {a:Int}{x:Nat}:Al g a x=true↔Rch g (λz=>(z:Int)=a) 0 x:=by simp[Al]
theorem OC (b:Nat):Al g (b:Int) b=false:=by
 cases hc:Al g (b:Int) b with
 |false=>rfl
 |true=>exact absurd rfl (rchB_iff.1 hc).snd
theorem Qbmc (b:Nat):Aq g b b=Al g (-1) b:=by simp[Aq,OC]
theorem Yu {a b:Nat}(h:Aq g a b=true):Al g (-1) a=true/\Al g (-1) b=true:=by
 simp only[Aq,Jq]at h;exact⟨h.1.1,h.1.2⟩
end Go.AE.Y
namespace Go.AE.Y
open Go.Proofs.Tryz
variable {H H0:Heap}{K:V->Heap->Prop}
structure GF (rows:List (List C))(nx:Nat->List Int):Prop where
 no:∀r∈rows,an r=true
 x:∀i,i<rows.length->∃a1 a2 a3 a4 fl,rows.getD i []=[a1,a2,a3,a4,.sl fl 1 (Qb (nx i))]
 n:rows.length<=10000
 m:∀i,i<rows.length->(nx i).length<=1000
theorem GF.grd {rows:List (List C)}{nx:Nat->List Int}(h:GF rows nx)(H:Heap)(fl:Bool):GRd H (.sl fl 5 rows) rows nx:=⟨.mk' _ _ _ _,rfl,h.no,h.x⟩
theorem GC {q:CodeD}(h:q.gd):GF (Ql q.blocks) (gnx q):=by
 refine⟨(Cs (λ_=>.none) q false).no,(Cs (λ_=>.none) q false).x,by rw[Qj];have:=h.b1;omega,λi hi=>?_⟩;rw[Qj]at hi;have:gnx q i=q.blocks[i].next:=by simp[gnx,Ja,hi]
 rw[this];have:=h.n _ (Jg hi);omega
noncomputable def inL (n:Nat)(g:Nat->List Nat):List Bool:=(List.range n).map (Al g (-1))
noncomputable def AS (n:Nat)(g:Nat->List Nat)(a:Nat):List Bool:=(List.range n).map (Aq g a)
noncomputable def A7 (n:Nat)(g:Nat->List Nat)(k:Nat):List (List C):=(List.range k).map λa=>[.sl false 1 (Qm (AS n g a))]
theorem Hs (n:Nat)(f:Nat->Bool){i:Nat}(h:i<n):((List.range n).map f).getD i false=f i:=by simp[Ja,h]
theorem Cq {n:Nat}{g:Nat->List Nat}:(inL n g).length=n:=by simp[inL]
theorem Cw {n:Nat}{g:Nat->List Nat}{a:Nat}:(AS n g a).length=n:=by simp[AS]
theorem CS {n:Nat}{g:Nat->List Nat}{k:Nat}:(A7 n g k).length=k:=by simp[A7]
theorem ON {n:Nat}{g:Nat->List Nat}{i:Nat}(h:i<n):(inL n g).getD i false=Al g (-1) i:=Hs _ _ h
theorem Ho {n:Nat}{g:Nat->List Nat}{a i:Nat}(h:i<n):(AS n g a).getD i false=Aq g a i:=Hs _ _ h
theorem Gg {n:Nat}{g:Nat->List Nat}{k a:Nat}(h:a<k):(A7 n g k).getD a []=[.sl false 1 (Qm (AS n g a))]:=by simp[A7,Ja,h]
noncomputable def domC (p rg:Int)(fl:Bool)(rows:List (List C))(g:Nat->List Nat):List C:=
 [.int .i64 p,.int .i64 rg,.sl fl 5 rows,.sl false 1 (A7 rows.length g rows.length),.sl false 1 (Qm (inL rows.length g))]
noncomputable def ysL (n:Nat)(g:Nat->List Nat)(ys:List Nat):List (Nat×Obj):=ys.zipIdx.map λx=>(x.1,.vec 1 (Qm (AS n g x.2)))
def ysR (n:Nat)(ys:List Nat):List (List C):=ys.map λy=>[.ah y 1 0 n]
theorem Ir (n:Nat)(g:Nat->List Nat)(ys:List Nat)(y:Nat):ysL n g (ys++[y])=ysL n g ys++[(y,.vec 1 (Qm (AS n g ys.length)))]:=by
 simp[ysL,List.zipIdx_append]
theorem Iq (n:Nat)(ys:List Nat)(y:Nat):ysR n (ys++[y])=ysR n ys++[[.ah y 1 0 n]]:=by simp[ysR]
theorem ED (n:Nat)(ys:List Nat):(ysR n ys).length=ys.length:=by simp[ysR]
theorem Vs {S:Nat->Bool}{n:Nat}{g:Nat->List Nat}(ys:List Nat):∀(k:Nat),(∀p∈(ys.zipIdx k).map λx=>(x.1,Obj.vec 1 (Qm (AS n g x.2))),H p.1=p.2/\S p.1=true)->
  FrzR H S (ysR n ys) ((List.range' k ys.length).map λa=>[.sl false 1 (Qm (AS n g a))]):=by
 induction ys with
 |nil=>intro k _;exact .nil
 |cons y ys ih=>
  intro k h;rw[List.zipIdx_cons,Jah]at h;obtain⟨h1,h2⟩:=h _ Js;simp only[Jo,List.range'_succ,Jah,ysR];refine .cons (.cons ((FrzR.same (Hp _)).ah h2 h1 (by rw[Qu,Cw])) .nil) (ih (k+1) λp hp=>h p (Jm _ hp))
theorem HX {S:Nat->Bool}{n:Nat}{g:Nat->List Nat}(ys:List Nat)(h:∀p∈ysL n g ys,H p.1=p.2/\S p.1=true):FrzR H S (ysR n ys) (A7 n g ys.length):=by
 have:=Vs (H:=H) (S:=S) (n:=n) (g:=g) ys 0 h;rw[<-List.range_eq_range']at this;exact this
theorem HF {p rg:Int}{fl:Bool}{rows:List (List C)}{g:Nat->List Nat}{b:Nat}(hb:b<rows.length)(hK:K (.c (.bool (Al g (-1) b))) H) :
  Qv prog PK [.c (.pp (domC p rg fl rows g)),.c (.int .i64 b)] H K:=by
 refine Qc Ab Qaum ?_;refine Wj ?_;simp only[go_sem,domC,C.isPtr,Qu,Cq];refine⟨.inl trivial,λhl=>?_⟩;simp only[LIM]at hl;refine⟨Qo,?_⟩;refine BF ?_;have h1:(decide ((0:Int)<=(b:Int))&&decide ((b:Int)<=(rows.length:Int)-1))=true:=ZJ
 have bA:b<(inL rows.length g).length:=by rw[Cq];exact hb
 rw[h1];simp only[go_sem,Qpg,Qu,Cq,hb,Qx _ _ bA,ON hb];refine Zf ?_;exact hK
theorem Qa8e {p rg:Int}{fl:Bool}{rows:List (List C)}{g:Nat->List Nat}{a b:Nat}(ha:a<rows.length)(hb:b<rows.length)(hK:K (.c (.bool (Aq g a b))) H) :
  Qv prog TE [.c (.pp (domC p rg fl rows g)),.c (.int .i64 a),.c (.int .i64 b)] H K:=by
 refine Qc Ab Qze ?_;refine Wd ?_;refine HF ha ?_;simp only[go_sem,Qfj];have pN:b<(AS rows.length g a).length:=by rw[Cw];exact hb
 refine⟨λcV=>?_,λcV=>?_⟩
 ·refine HF hb ?_;simp only[go_sem,TF,cV,cond_true,cond_false,domC,ha,hb,CS,Gg ha,Qu,Cw,Qx _ _ pN,Ho hb];refine Zf ?_;have:(bif Al g (-1) b then Aq g a b else false)=Aq g a b:=by cases h:Al g (-1) b <;> simp[Aq,h]
  rw[this];exact hK
 ·simp only[go_sem,TF,cV,cond_true,cond_false,domC,ha,hb,CS,Gg ha,Qu,Cw,Qx _ _ pN,Ho hb];refine Zf ?_;have:Aq g a b=false:=by simp[Aq,cV]
  rw[this]at hK;exact hK
theorem Q8u (n:Nat)(f:Nat->Bool){i:Nat}(h:i<n):((List.range i).map f++List.replicate (n-i) false).set i (f i)=(List.range (i+1)).map f++List.replicate (n-(i+1)) false:=by
 refine Jbf λj=>?_;have e:n-i=(n-(i+1))+1:=ZD
 rw[e,List.replicate_succ,Jal,Jx];rw[List.set_append];simp only[Ju,Jap,Nat.lt_irrefl,if_false,Nat.sub_self,List.set_cons_zero,Jah,Jbi,Jao,Ja1]
set_option maxHeartbeats 2000000 in
theorem Qbrn {p rg:Int}{fl:Bool}{rows:List (List C)}{nx:Nat->List Int}(hg:GF rows nx)
  (hN:A4 rows.length nx=false->∀H',Upd H H' []->K (.c .pnil) H')
  (hK:A4 rows.length nx=true->∀H',Upd H H' []->K (.c (.pp (domC p rg fl rows (nxN nx)))) H') :
  Qv prog RH [.ag [.int .i64 p,.int .i64 rg,.sl fl 5 rows]] H K:=by
 have hn:=hg.n;refine Q0 ?_;refine Qc Ab Qa88 ?_;refine Wf ?_;refine Ka (hg.grd _ _) ?_;simp only[go_sem,Qxq];refine Wv ?_ ?_
 ·intro hc;have hf:=Bf hc;refine Za ?_;refine Zf ?_;exact⟨_,.c _ _ (Qi rfl),hN hf _ (Kn.ar H).fin⟩
 ·intro hc;have hf:=A8 hc;have bY:=CN hf;refine Zd ?_;refine ZB ?_;refine Qpc (hg.grd _ _) hf hn hg.m λH1 hu=>?_;have kn:=(Kn.ar H).aw hu;simp only[go_sem,Qxs];intro x3 aF H2 h2;have kn:=kn.al aF h2;simp only[go_sem,Qxr];refine Wa ?_;intro _;refine Qg (Qd (Qs (λm e1 H1=>∃(ys:List Nat) (oc:C) (Lg:List (Nat×Obj)),m=rows.length-ys.length/\ys.length<=rows.length/\Gr Lg 1 (ysR rows.length ys) oc/\
   Kn H H1 [] (([(x3,.st [.int .i64 p,.int .i64 rg,.sl fl 5 rows,oc,.sl false 1 (Qm (inL rows.length (nxN nx)))])]++ysL rows.length (nxN nx) ys)++Lg)/\
   e1=[(1,.c (.pp [.int .i64 p,.int .i64 rg,.sl fl 5 rows])),(3,.c (.ptr x3 0)),(18,.c (.int .i64 rows.length)),(19,.c (.int .i64 ys.length))]) rows.length ?_ ?_))
  ·exact⟨[],_,[],ZF,ZF,.nil 1,kn,rfl⟩
  ·rintro m e1 H1 ⟨ys,oc,Lg,hm,hi,aq,kn,rfl⟩;have aF:=kn.l 0 rfl;refine Za ?_;refine Wv ?_ ?_
   ·intro hc;have ae:ys.length<rows.length:=ZG;have pg:ys.length<(inL rows.length (nxN nx)).length:=(by rw[Cq];exact ae);refine Zd ?_;refine Az (λe2 H2=>∃(oc:C) (Lg:List (Nat×Obj)) (y:Nat),Gr Lg 1 (ysR rows.length (ys++[y])) oc/\
     Kn H H2 [] (([(x3,.st [.int .i64 p,.int .i64 rg,.sl fl 5 rows,oc,.sl false 1 (Qm (inL rows.length (nxN nx)))])]++ysL rows.length (nxN nx) (ys++[y]))++Lg)/\
     lk 1 e2=.c (.pp [.int .i64 p,.int .i64 rg,.sl fl 5 rows])/\lk 3 e2=.c (.ptr x3 0)/\lk 18 e2=.c (.int .i64 rows.length)/\lk 19 e2=.c (.int .i64 ys.length)) ?_ ?_
    ·intro Q br _ _;refine Wp ?_;refine Qa ?_;simp only[go_sem,DJ];intro _;refine⟨by simp only[LIM];omega,λy hy H2 h2=>?_⟩;have kn:=(kn.al hy h2).perm (L':=[(x3,.st [.int .i64 p,.int .i64 rg,.sl fl 5 rows,oc,.sl false 1 (Qm (inL rows.length (nxN nx)))])]++([(y,.vec 1 (Qm (List.replicate rows.length false)))]++(ysL rows.length (nxN nx) ys++Lg))) (Qt λf hf h0 hc hp=>by simp only[hf];omega);simp only[go_sem,Qxt];have tail:∀(e:Env) (H3:Heap),lk 1 e=.c (.pp [.int .i64 p,.int .i64 rg,.sl fl 5 rows])->lk 3 e=.c (.ptr x3 0)->lk 18 e=.c (.int .i64 rows.length)->lk 19 e=.c (.int .i64 ys.length)->lk 5 e=.c (.ah y 1 0 rows.length)->
       Kn H H3 [] ([(x3,.st [.int .i64 p,.int .i64 rg,.sl fl 5 rows,oc,.sl false 1 (Qm (inL rows.length (nxN nx)))])]++([(y,.vec 1 (Qm (AS rows.length (nxN nx) ys.length)))]++(ysL rows.length (nxN nx) ys++Lg)))->
       Ad prog Qxp Q e H3:=by
      intro e H3 l1 l3 l18 l19 l5 kn;have aF:=kn.l 0 rfl;have xY:=aq.ai;refine Qp ?_;simp only[go_sem,l1,l3,l18,l19,l5,aF,xY];have kn:=kn.perm (L':=([(x3,.st [.int .i64 p,.int .i64 rg,.sl fl 5 rows,oc,.sl false 1 (Qm (inL rows.length (nxN nx)))])]++ysL rows.length (nxN nx) (ys++[y]))++Lg) (Qt λf hf h0 hc hp=>by simp only[Ir,hf];omega);refine kn.grow (new:=[[.ah y 1 0 rows.length]]) aq (.mk' _ _ _ _) (by simp[Go.AE.an,C.ai]) (by simp only[ED,LIM,Jo,Jn];omega) λz H4 kn=>?_;have aF:=kn.l 0 rfl;simp only[go_sem,Qth,aF];intro H5 h5;have kn:=kn.aB 0 rfl h5;refine br _ _ ⟨_,[(z,.vec 1 (ysR rows.length (ys++[y])))],y,.mk (n:=(ysR rows.length ys).length+1) z 1 _ (by simp[ED]),?_,by simp[lk,l1],by simp[lk,l3],by simp[lk,l18],by simp[lk,l19]⟩;rw[Iq];exact kn
     refine Q3 (Qa ?_);have aF:=kn.l 0 rfl;simp only[go_sem,aF,ae,Qu,Cq,Qx _ _ pg,ON ae];refine Wv ?_ ?_
     ·intro cV;refine Za ?_;refine Qpc (hg.grd _ _) hf hn hg.m λH3 hu=>?_;have kn:=kn.aw hu;simp only[go_sem,Qxu];refine Qa ?_;have hy:=kn.l 1 rfl;simp only[go_sem,hy,Qu,Jd,Jk,Jf];intro _;refine Qd (Qs (λm e1 H1=>∃b:Nat,m=rows.length-b/\b<=rows.length/\
       Kn H H1 [] ([(x3,.st [.int .i64 p,.int .i64 rg,.sl fl 5 rows,oc,.sl false 1 (Qm (inL rows.length (nxN nx)))])]++([(y,.vec 1 (Qm ((List.range b).map (Aq (nxN nx) ys.length)++List.replicate (rows.length-b) false)))]++(ysL rows.length (nxN nx) ys++Lg)))/\
       e1=[(1,.c (.pp [.int .i64 p,.int .i64 rg,.sl fl 5 rows])),(3,.c (.ptr x3 0)),(5,.c (.ah y 1 0 rows.length)),(6,.c (.sl false 1 (Qm ((List.range rows.length).map (Al (nxN nx) ys.length))))),(18,.c (.int .i64 rows.length)),(19,.c (.int .i64 ys.length)),(37,.c (.int .i64 rows.length)),(38,.c (.int .i64 b))]) rows.length ?_ ?_)
      ·exact⟨0,ZD,ZD,ZO,rfl⟩
      ·rintro m2 e1 H4 ⟨b,eK,hb,kn,rfl⟩;have aF:=kn.l 0 rfl;have hy:=kn.l 1 rfl;have fg:((List.range b).map (Aq (nxN nx) ys.length)++List.replicate (rows.length-b) false).length=rows.length:=ZJ;refine Za ?_;refine Wv ?_ ?_
       ·intro ao;have bG:b<rows.length:=ZI;have bA:b<(inL rows.length (nxN nx)).length:=(by rw[Cq];exact bG);have du:b<((List.range rows.length).map (Al (nxN nx) ys.length)).length:=(by simpa using bG);have nc:b<((List.range b).map (Aq (nxN nx) ys.length)++List.replicate (rows.length-b) false).length:=(by rw[fg];exact bG);refine Wb ?_;refine Za ?_;refine Qp ?_;simp only[go_sem,aF,hy,bG,Qu,fg,Cq,Ju,Jap,Qx _ _ bA,ON bG,Qx _ _ du,Hs _ _ bG,Qx _ _ nc,BS,Jk,Jf];intro H5 h5;have kn:=kn.aB 1 rfl h5;refine Zg ?_;refine⟨Qo,rows.length-(b+1),ZD,b+1,rfl,ZD,?_,rfl⟩;rw[<-Q8u _ _ bG];have:Aq (nxN nx) ys.length b=(bif Al (nxN nx) (-1) b then !Al (nxN nx) (↑ys.length) b else false):=by
         simp only[Aq,cV,Jbp];cases Al (nxN nx) (-1) b <;> rfl
        rw[this];exact kn
       ·intro ao;have iv:b=rows.length:=(by have:¬b<rows.length:=(by simpa using ao);omega);subst iv;refine Zb ?_;refine tail _ _ rfl rfl rfl rfl rfl ?_;simpa[AS]using kn
     ·intro cV;refine Zd ?_;refine tail _ _ rfl rfl rfl rfl rfl ?_;have:AS rows.length (nxN nx) ys.length=List.replicate rows.length false:=by
       refine Jbl (by simp[AS]) λi h1 h2=>?_;simp[AS,Aq,cV]
      rw[this];exact kn
    ·rintro e2 H2 ⟨oc2,Lg2,y,aq,kn,l1,l3,l18,l19⟩;refine Qp ?_;simp only[go_sem,X.next,l1,l3,l18,l19];exact⟨Qo,rows.length-(ys.length+1),ZD,ys++[y],oc2,Lg2,ZF,by simp;omega,aq,kn,ZF⟩
   ·intro hc;have aY:ys.length=rows.length:=(by have:¬ys.length<rows.length:=(by simpa using hc);omega);refine Ws ?_;have gz:=HX (H:=H1) (S:=un H) (n:=rows.length) (g:=nxN nx) ys (λq hq=>⟨(kn.get q (by simp[hq])).1,BE (kn.loc q (by simp[hq]))⟩);rw[aY]at gz;refine⟨_,.c _ _ (FrzL.ptr (kn.un 0 rfl) aF ?_),hK hf _ kn.fin⟩;exact .cons (Qi rfl) (.cons (Qi rfl) (.cons (.same _ rfl) (.cons (aq.frzR kn gz) (.cons (.same _ rfl) .nil))))
end Go.AE.Y
namespace Go.AE.Y
variable {P:Program}{H:Heap}{g:G}{w:World}
theorem Yy (hs:Sat H g w)(os:Array Go.Obj):∃g',Stp H g w H g' (Go.Sort.grow w os):=by
 obtain⟨l⟩:=os
 induction l generalizing g w with
 |nil=>exact⟨g,by rw[Go.Sort.grow_empty];exact .refl hs⟩
 |cons x l ih=>
  have h1:=Q8m hs x;obtain⟨g',h2⟩:=ih h1.sat;refine⟨g',?_⟩;have e:Go.Sort.grow w ⟨x::l⟩=Go.Sort.grow (w.alloc x) ⟨l⟩:=by
   rw[Go.Sort.alloc_eq_grow,Go.Sort.grow_grow];congr 1;simp
  rw[e];exact h1.trans h2
theorem Qbon {b off:Nat}{cs:Array Value}{T:TypeId}{d:Array Int}(h:w.heap[b]? = some (.cells cs T (0,0))) :
  Go.Sort.putRow (Value.int .i64) w b off d=World.az w b (Go.Sort.putCells (Value.int .i64) off d cs) T:=by
 simp only[Go.Sort.putRow,Go.Sort.mapBlock,World.az];congr 1;apply Array.ext_getElem?;intro i;simp only[Array.getElem?_modify];by_cases hi:b=i
 ·subst hi;have ae:b<w.heap.size:=Ed h;rw[if_pos rfl,h];simp[ae,Go.Sort.onCells]
 ·rw[if_neg hi,Array.getElem?_setIfInBounds_ne hi]
theorem Qbhr {f:Nat}(hf:fnOk P f=true)
  (hc:∀(blk off cap:Nat) (zs:List Int) (w:World),Go.Sort.Holds (Value.int .i64) w blk off zs.toArray->blk<w.heap.size->zs.length<4611686018427387904->
   Calls P f #[.slice (some ⟨blk,off,none⟩) zs.length cap] w λe w'=>
    e=.returned (.tuple #[])/\∃n os,w'=Go.Sort.grow (Go.Sort.putRow (Value.int .i64) (Go.Sort.ahead w n) blk off (zs.mergeSort λx y=>decide (x<=y)).toArray) os)
  {z n:Nat} {ns:List Int} {K:V->Heap->Prop} (hz:H z=.vec 1 (Qb ns)) (hn:n=ns.length) (h0:0<n)
  (hK:∀H',Upd H H' [(z,.vec 1 (Qb (ns.mergeSort λx y=>decide (x<=y))))]->K (.tup []) H'):Qv P f [.c (.ah z 1 0 n)] H K:=by
 refine⟨hf,λg w vs hs hl hv=>?_⟩;obtain⟨v,rfl⟩:∃v,vs=[v]:=by
  match vs,hl with
  |[v],_=>exact⟨v,rfl⟩
 have hr:=hv 0 _ v rfl rfl;have ho:=hs.objs z;rw[hz]at ho
 cases hr with
 |c _ _ hr=>
  cases hr with
  |bZ=>omega
  |ah l sz st n cap b base T m cg tg gN hm=>
   obtain⟨b',base',T',cs,val,pu,iH,cH,bj,eu,a8,cj,dj⟩:=SatVec.of ho cg;rw[cg]at pu;simp only[Jaq,Jbc,true_and]at pu;obtain⟨rfl,rfl⟩:=pu;have ae:=Ed cH;rw[Qe]at bj eu;have lN:∀j (hj:j<ns.length),cs[base+j]? = some (.int .i64 ns[j]):=by
    intro j hj;have h1:(Qb ns)[j]? = some [.int .i64 ns[j]]:=(by simp[Qb,hj]);have h2:=cj j _ 0 _ h1 rfl;have h3:=dj j _ 0 _ h1 rfl;have h4:val j 0=.int .i64 ns[j]:=by
     exact (λvv (h:RepC w g (.int .i64 ns[j]) vv)=>by cases h;rfl:∀vv,RepC w g (.int .i64 ns[j]) vv->vv=.int .i64 ns[j]) _ (h3.toC rfl)
    simpa[h4]using h2
   have hH:Go.Sort.Holds (Value.int .i64) w b base ns.toArray:=by
    intro j hj;have cQ:j<ns.length:=Zac;refine⟨?_,?_⟩
    ·rw[DX cH,lN j cQ];simp[getElem!_pos,cQ]
    ·simp[World.frozen?,cH]
   subst hn;simp only[Nat.zero_mul,Jbq];refine (hc b base cap ns w hH ae (by simp only[LIM]at eu;omega)).mono λe w'=>?_;rintro⟨rfl,nn,os,rfl⟩;have s1:Stp H g w H g (Go.Sort.ahead w nn):=Oe hs (w.drawn+nn);have nR:(Go.Sort.ahead w nn).heap[b]? = some (.cells cs T' (0,0)):=cH;have wy:∀i (c:C),((Qb (ns.mergeSort λx y=>decide (x<=y)))[i]? = some [c])->∃x:Int,c=.int .i64 x/\(Go.Sort.putCells (Value.int .i64) base (ns.mergeSort λx y=>decide (x<=y)).toArray cs)[base+i]? = some (.int .i64 x):=by
    intro i c hi;have ak:(ns.mergeSort λx y=>decide (x<=y)).length=ns.length:=List.length_mergeSort _;have ck:i<(ns.mergeSort λx y=>decide (x<=y)).length:=by
     rcases Jbk i (ns.mergeSort λx y=>decide (x<=y)).length with h|h
     ·exact h
     ·rw[Jt (by rw[Qe];exact h)]at hi;simp at hi
    refine⟨(ns.mergeSort λx y=>decide (x<=y))[i],?_,?_⟩
    ·simp only[Qb,J9,Jj ck,Ja3,Jaq,List.cons.injEq,and_true]at hi;exact hi.symm
    ·simp only[Go.Sort.putCells,Array.getElem?_mapIdx];rw[Array.getElem?_eq_getElem ZD];simp only[Ja3,Jaq];rw[if_pos ⟨ZD,by simp only[List.size_toArray];omega⟩];congr 1;simp[getElem!_pos];rw[Jj ck];rfl
   have s2:=P1 s1.sat iH nR (cs':=Go.Sort.putCells (Value.int .i64) base (ns.mergeSort λx y=>decide (x<=y)).toArray cs) (by simp[Go.Sort.putCells])
    (.vec 1 (Qb (ns.mergeSort λx y=>decide (x<=y)))) Zbb (λaP cI=>.inr ⟨b,base,T',_,λi _=>.int .i64 ((ns.mergeSort λx y=>decide (x<=y)).getD i 0),cg,iH,cI,by
      rw[Qe,List.length_mergeSort];simp[Go.Sort.putCells];omega,by rw[Qe,List.length_mergeSort];exact eu,λi row hi=>by
       simp only[Qb,J9,Option.map_eq_some_iff]at hi;obtain⟨x,_,rfl⟩:=hi;rfl,λi row j c hi hj=>by
       have bS:=hi;simp only[Qb,J9,Option.map_eq_some_iff]at bS;obtain⟨y,hy,rfl⟩:=bS;have jQ:j=0:=by
        rcases Jbb j with h|h
        ·exact h
        ·rw[Jt ZJ]at hj;simp at hj
       subst jQ;obtain⟨x,hx,he⟩:=wy i _ hi;simp only[C.int.injEq,true_and]at hx;subst hx;simp only[Nat.mul_one,Jbq];rw[he,Ja,hy];rfl,λi row j c hi hj=>by
       have bS:=hi;simp only[Qb,J9,Option.map_eq_some_iff]at bS;obtain⟨y,hy,rfl⟩:=bS;have jQ:j=0:=by
        rcases Jbb j with h|h
        ·exact h
        ·rw[Jt ZJ]at hj;simp at hj
       subst jQ;simp at hj;subst hj;show RepO _ _ _ _ _ (Value.int .i64 ((ns.mergeSort λx y=>decide (x<=y)).getD i 0));rw[Ja,hy];exact .plain _ _ _ _ (.int _ _)⟩) ZF
   rw[<-Qbon nR]at s2;obtain⟨g',s3⟩:=Yy s2.sat os;refine .inl ⟨.tuple #[],.tup [],_,g',rfl,hK _ ⟨by simp[Heap.aC],λm _ hm=>Heap.af _ _ (by simpa using hm)⟩,s1.trans (s2.trans s3),?_⟩;exact .tup [] [] rfl ZF
theorem Qbl4 {f:Nat}(hf:fnOk P f=true){k:IntKind}{x r:Int}(hc:∀w,Calls P f #[.int k x] w λe w'=>e=.returned (.int .i64 r)/\w'=w){K:V->Heap->Prop}(hK:K (.c (.int .i64 r)) H) :
  Qv P f [.c (.int k x)] H K:=by
 refine⟨hf,λg w vs hs hl hv=>?_⟩;obtain⟨v,rfl⟩:∃v,vs=[v]:=by
  match vs,hl with
  |[v],_=>exact⟨v,rfl⟩
 have hr:=hv 0 _ v rfl rfl
 cases hr with
 |c _ _ hr=>
  cases hr;refine (hc w).mono λe w'=>?_;rintro⟨rfl,rfl⟩;exact .inl ⟨_,_,H,g,rfl,hK,.refl hs,.c _ _ (.int _ _)⟩
end Go.AE.Y
namespace Go.AE.Y
structure Cmp (ns R:List Int)(k j:Nat):Prop where
 len:R.length=ns.length
 kj:k<j
 jn:j<=ns.length
 asc:(R.take k).Pairwise (· < ·)
 mem:∀x,x∈R.take k↔x∈ns.take j
 same:∀i,j<=i+1->R.getD i 0=ns.getD i 0
variable {ns R:List Int}{k j:Nat}
theorem take_mem {l:List Int}{j:Nat}{x:Int}:x∈l.take j↔∃i,i<j/\i<l.length/\l.getD i 0=x:=by
 constructor
 ·intro h;obtain⟨i,hi,rfl⟩:=J0.1 h;rw[Jr]at hi;refine⟨i,ZD,ZD,?_⟩;rw[Jaa,Ja,Jj ZD];rfl
 ·rintro⟨i,h1,h2,rfl⟩;rw[Ja,Jj h2];exact J0.2 ⟨i,by rw[Jr];omega,by rw[Jaa];rfl⟩
theorem Gx {ns:List Int}(h:ns.Pairwise (·<=·)){a b:Nat}(df:a<=b)(hb:b<ns.length):ns.getD a 0<=ns.getD b 0:=by
 rcases Jbk a b with h1|h1
 ·have:=Jz.1 h a b ZD hb h1;simpa[Ja,hb,show a<ns.length by omega]using this
 ·have:a=b:=ZD
  subst this;exact Int.le_refl _
theorem Cmp.start (hs:ns.Pairwise (·<=·))(iP:0<k)(hk:k<ns.length)(be:∀i,0<i->i<k->ns.getD i 0≠ns.getD (i-1) 0)(he:ns.getD k 0=ns.getD (k-1) 0):Cmp ns ns k (k+1):=by
 refine⟨rfl,ZD,ZD,?_,λx=>?_,λi _=>rfl⟩
 ·rw[Jz];intro a b ha hb df;rw[Jr]at ha hb;rw[Jaa,Jaa];have h1:=Gx hs (a:=a) (b:=b-1) ZD ZD;have h2:=Gx hs (a:=b-1) (b:=b) ZD ZD;have h3:=be b ZD ZD;have e1:ns.getD a 0=ns[a]:=by simp[Ja,show a<ns.length by omega]
  have e2:ns.getD b 0=ns[b]:=by simp[Ja,show b<ns.length by omega]
  rw[e1]at h1;rw[e2]at h2 h3;omega
 ·rw[take_mem,take_mem];constructor
  ·rintro⟨i,h1,h2,h3⟩;exact⟨i,ZD,h2,h3⟩
  ·rintro⟨i,h1,h2,h3⟩;by_cases h:i<k
   ·exact⟨i,h,h2,h3⟩
   ·have:i=k:=ZD;subst this;exact⟨i-1,ZD,ZD,by rw[<-he];exact h3⟩
theorem Cmp.eq (c:Cmp ns R k j)(hj:j<ns.length)(he:ns.getD j 0=ns.getD (j-1) 0):Cmp ns R k (j+1):=by
 have:=c.kj;refine⟨c.len,ZD,ZD,c.asc,λx=>?_,λi hi=>c.same i ZD⟩;rw[c.mem,take_mem,take_mem];constructor
 ·rintro⟨i,h1,h2,h3⟩;exact⟨i,ZD,h2,h3⟩
 ·rintro⟨i,h1,h2,h3⟩;by_cases h:i<j
  ·exact⟨i,h,h2,h3⟩
  ·have:i=j:=ZD
   subst this;exact⟨i-1,ZD,ZD,by rw[<-he];exact h3⟩
theorem Cmp.ne (c:Cmp ns R k j)(hs:ns.Pairwise (·<=·))(hj:j<ns.length)(he:ns.getD j 0≠ns.getD (j-1) 0):Cmp ns (R.set k (ns.getD j 0)) (k+1) (j+1):=by
 have hkj:=c.kj;have dd:k<R.length:=by rw[c.len];omega
 have b8:(R.set k (ns.getD j 0)).take (k+1)=R.take k++[ns.getD j 0]:=by
  rw[Jh (by rw[Ji];exact dd),List.getElem_set_self];congr 1;rw[List.take_set_of_le (Jf _)]
 refine⟨by rw[Ji];exact c.len,ZD,ZD,?_,λx=>?_,λi hi=>?_⟩
 ·rw[b8,Ja5];refine⟨c.asc,ZF,λa ha b hb=>?_⟩;simp at hb;subst hb;obtain⟨i,h1,h2,rfl⟩:=take_mem.1 ((c.mem a).1 ha);have h3:=Gx hs (a:=i) (b:=j-1) ZD ZD;have h4:=Gx hs (a:=j-1) (b:=j) ZD hj;simp only[Ja]at *;omega
 ·rw[b8,Je,c.mem,take_mem,take_mem];simp only[Jb];constructor
  ·rintro (⟨i,h1,h2,h3⟩|rfl)
   ·exact⟨i,ZD,h2,h3⟩
   ·exact⟨j,ZD,hj,rfl⟩
  ·rintro⟨i,h1,h2,h3⟩;by_cases h:i<j
   ·exact .inl ⟨i,h,h2,h3⟩
   ·have:i=j:=ZD;subst this;exact .inr h3.symm
 ·have:k≠i:=ZD
  rw[<-c.same i ZD];simp[Ja,this]
theorem Kj (hs:ns.Pairwise (·<=·))(be:∀i,0<i->i<ns.length->ns.getD i 0≠ns.getD (i-1) 0):ns.Pairwise (· < ·):=by
 rw[Jz];intro a b ha hb df;have h1:=Gx hs (a:=a) (b:=b-1) ZD ZD;have h2:=Gx hs (a:=b-1) (b:=b) ZD ZD;have h3:=be b ZD ZD;have e1:ns.getD a 0=ns[a]:=by simp[Ja,ha]
 have e2:ns.getD b 0=ns[b]:=by simp[Ja,hb]
 rw[e1]at h1;rw[e2]at h2 h3;omega
def srt (ns:List Int):List Int:=ns.mergeSort λx y=>decide (x<=y)
theorem EG (ns:List Int):(srt ns).length=ns.length:=List.length_mergeSort _
theorem CB (ns:List Int)(x:Int):x∈srt ns↔x∈ns:=(List.mergeSort_perm ns _).mem_iff
theorem Kq (ns:List Int):(srt ns).Pairwise (·<=·):=by
 have:=List.pairwise_mergeSort (le:=λx y:Int=>decide (x<=y)) (by simp only[decide_eq_true_eq];omega) (by simp only[Bool.or_eq_true,decide_eq_true_eq];omega) ns;exact this.imp ZF
theorem Qbqy {ns:List Int}(h:ns.Nodup):(srt ns).Pairwise (· < ·):=by
 have h1:=Kq ns;have h2:(srt ns).Nodup:=(List.mergeSort_perm ns _).nodup_iff.2 h;exact h1.imp₂ (λa b df be=>ZD) h2
end Go.AE.Y
namespace Go.Proofs
open Go.Shelf
def Tryz.lays189_ren:Go.Shelf.Ren:=⟨fun|189=>68|125=>104|257=>103|128=>139|129=>140|294=>130|295=>131|296=>132|297=>133|298=>134|299=>135|216=>136|300=>137|301=>138|328=>153|329=>154|330=>155|331=>156|332=>157|215=>158|343=>185|n=>n,fun|28=>35|3=>3|46=>135|0=>0|51=>162|53=>164|4=>4|183=>155|182=>154|131=>159|5=>5|9=>9|218=>190|222=>194|228=>215|229=>171|n=>n,fun|n=>n⟩
theorem Tryz.lays189:Go.Proofs.Lays.n189 Tryz.prog Tryz.lays189_ren:={
 mixed:=by kernel_rfl
 f125:=Tryz.func104.trans (congrArg some (by kernel_rfl))
 f128:=Tryz.func139.trans (congrArg some (by kernel_rfl))
 f129:=Tryz.func140.trans (congrArg some (by kernel_rfl))
 f189:=Tryz.func68.trans (congrArg some (by kernel_rfl))
 f215:=Tryz.func158.trans (congrArg some (by kernel_rfl))
 f216:=Tryz.func136.trans (congrArg some (by kernel_rfl))
 f257:=Tryz.func103.trans (congrArg some (by kernel_rfl))
 f294:=Tryz.func130.trans (congrArg some (by kernel_rfl))
 f295:=Tryz.func131.trans (congrArg some (by kernel_rfl))
 f296:=Tryz.func132.trans (congrArg some (by kernel_rfl))
 f297:=Tryz.func133.trans (congrArg some (by kernel_rfl))
 f298:=Tryz.func134.trans (congrArg some (by kernel_rfl))
 f299:=Tryz.func135.trans (congrArg some (by kernel_rfl))
 f300:=Tryz.func137.trans (congrArg some (by kernel_rfl))
 f301:=Tryz.func138.trans (congrArg some (by kernel_rfl))
 f328:=Tryz.func153.trans (congrArg some (by kernel_rfl))
 f329:=Tryz.func154.trans (congrArg some (by kernel_rfl))
 f330:=Tryz.func155.trans (congrArg some (by kernel_rfl))
 f331:=Tryz.func156.trans (congrArg some (by kernel_rfl))
 f332:=Tryz.func157.trans (congrArg some (by kernel_rfl))
 f343:=Tryz.func185.trans (congrArg some (by kernel_rfl))
 t0:=Tryz.underlying0
 a0:=Tryz.isAgg0
 z0:=Tryz.sizeOf0
 v0:=Tryz.zeroValue0
 t3:=Tryz.underlying3
 a3:=Tryz.isAgg3
 z3:=Tryz.sizeOf3
 v3:=Tryz.zeroValue3
 t4:=Tryz.underlying4
 a4:=Tryz.isAgg4
 z4:=Tryz.sizeOf4
 v4:=Tryz.zeroValue4
 t5:=Tryz.underlying5
 a5:=Tryz.isAgg5
 z5:=Tryz.sizeOf5
 v5:=Tryz.zeroValue5
 t9:=Tryz.underlying9
 a9:=Tryz.isAgg9
 z9:=Tryz.sizeOf9
 v9:=Tryz.zeroValue9
 t28:=Tryz.underlying35
 a28:=Tryz.isAgg35
 z28:=Tryz.sizeOf35
 v28:=Tryz.zeroValue35
 t46:=Tryz.underlying135
 a46:=Tryz.isAgg135
 z46:=Tryz.sizeOf135
 v46:=Tryz.zeroValue135
 t51:=Tryz.underlying162
 a51:=Tryz.isAgg162
 z51:=Tryz.sizeOf162
 v51:=Tryz.zeroValue162
 t53:=Tryz.underlying164
 a53:=Tryz.isAgg164
 z53:=Tryz.sizeOf164
 v53:=Tryz.zeroValue164
 t131:=Tryz.underlying159
 a131:=Tryz.isAgg159
 z131:=Tryz.sizeOf159
 v131:=Tryz.zeroValue159
 t182:=Tryz.underlying154
 a182:=Tryz.isAgg154
 z182:=Tryz.sizeOf154
 v182:=Tryz.zeroValue154
 t183:=Tryz.underlying155
 a183:=Tryz.isAgg155
 z183:=Tryz.sizeOf155
 v183:=Tryz.zeroValue155
 t218:=Tryz.underlying190
 a218:=Tryz.isAgg190
 z218:=Tryz.sizeOf190
 v218:=Tryz.zeroValue190
 t222:=Tryz.underlying194
 a222:=Tryz.isAgg194
 z222:=Tryz.sizeOf194
 v222:=Tryz.zeroValue194
 t228:=Tryz.underlying215
 a228:=Tryz.isAgg215
 z228:=Tryz.sizeOf215
 v228:=Tryz.zeroValue215
 t229:=Tryz.underlying171
 a229:=Tryz.isAgg171
 z229:=Tryz.sizeOf171
 v229:=Tryz.zeroValue171 }
end Go.Proofs
namespace Go.AE.Y
open Go.Proofs.Tryz
variable {H H0:Heap}{K:V->Heap->Prop}{E B Lg:List (Nat×Obj)}
theorem Qbl8 {x:Int}(h0:0<=x)(h1:x<=18446744073709551615)(hK:∀n:Int,K (.c (.int .i64 n)) H):Qv prog MR [.c (.int .u64 x)] H K:=
 Qbl4 ZH (λw=>calls_of_every_depth λD=>Go.Proofs.AnyS.bits_LenIn (ρ:=lays189_ren) { lays189 with } D x w h0 h1) (hK _)
theorem Vu {c:C}(bM:c.ai=false)(hK:K (.tup []) H):Qv prog Qb4 [.c c,.c (.int .i64 0),.c (.int .i64 0)] H K:=by
 refine Qc Ab Qla ?_;refine Za ?_;refine⟨Qo,?_⟩;refine Qd (Qs (λm e1 H1=>H1=H/\e1=[(0,.c c),(1,.c (.int .i64 0)),(2,.c (.int .i64 0)),(6,.c (.int .i64 1))]) 0 ⟨rfl,rfl⟩ ?_);rintro m e1 H1 ⟨rfl,rfl⟩;refine Wa ?_;refine Qg (Qf rfl (λh=>ZK) λ_=>?_);refine Qq ?_;simp only[go_sem,X.next,Q4,Aa,Qd0,Jak];exact⟨λ_=>trivial,hK⟩
theorem Vg {c:C}{l:Int}(bM:c.ai=false)(hK:K (.tup []) H):Qv prog HU [.c c,.c (.int .i64 0),.c (.int .i64 0),.c (.int .i64 l)] H K:=by
 refine Qc Ab Qzh ?_;refine Wd ?_;refine Qd (Qs (λm e1 H1=>H1=H/\e1=[(0,.c c),(1,.c (.int .i64 0)),(2,.c (.int .i64 0)),(3,.c (.int .i64 l)),(8,.c (.bool true)),(9,.c (.bool true))]) 0 ⟨rfl,rfl⟩ ?_);rintro m e1 H1 ⟨rfl,rfl⟩;refine Wp ?_;refine⟨Qo,?_⟩;refine Wa ?_;refine Qg (Qf rfl (λ_=>?_) (λh=>ZK));refine Za ?_;refine Vu bM ?_;simp only[Fd];refine Qk ?_;simp only[go_sem,X.next,Q4,Aa,Qip,Jak];exact⟨λ_=>trivial,hK⟩
theorem In {c:C}(ay:aZ H c)(hl:ax c=0)(bM:c.ai=false)(hK:K (.tup []) H):Qv prog Hc [.c c] H K:=by
 have ay:=eq_true ay;refine Qc Ab Qbob ?_;refine Zn ay hl ?_;have e0:((0:Nat):Int)=0:=rfl;refine Zv e0 ?_;refine⟨⟨ZR,ZR⟩,?_⟩;refine Qbl8 ZD ZD λn=>?_;simp only[go_sem,MY];refine Vg bM ?_;simp only[go_sem,Q4,Aa,OD,Jak];exact⟨λ_=>trivial,hK⟩
theorem HT {c:C}{ns:List Int}(kn:Kn H0 H E (B++Lg))(aq:Gr Lg 1 (Qb ns) c)
  (hK:∀Lg' H',Gr Lg' 1 (Qb (srt ns)) c->Kn H0 H' E (B++Lg')->K (.tup []) H'):Qv prog Hc [.c c] H K:=by
 by_cases h0:ns=[]
 ·subst h0;refine In (aq.aZ kn) (by rw[aq.ax];rfl) aq.ai (hK Lg H ?_ kn);have:srt []=[]:=by simp[srt]
  rw[this];exact aq
 ·rcases aq with ⟨_,h,_⟩|⟨y,rfl,rfl⟩
  ·cases ns with
   |nil=>exact absurd rfl h0
   |cons a b=>simp[Qb]at h
  ·have hy:=kn.l B.length (l:=y) (o:=.vec 1 (Qb ns)) ZF;have kE:0<ns.length:=List.length_pos_iff.2 h0;refine Qbhr ZH (λblk off cap zs w h1 h2 h3=>Go.Proofs.Any.slices_Sort_int lays189 blk off cap zs w h1 h2 h3) hy (by rw[Qe]) (by rw[Qe];exact kE) λH' hu=>?_;refine hK [(y,.vec 1 (Qb (srt ns)))] H' (.inr ⟨y,by rw[Qe,Qe,EG],rfl⟩) ?_;have:=kn.callL B.length (l:=y) (o:=.vec 1 (Qb ns)) ZF hu ZF;simpa[srt]using this
def Ai (ks:List Nat):List (C×V):=ks.map λk:Nat=>(.int .i64 (k:Int),.c (.bool true))
theorem Eg (ks:List Nat):(Ai ks).length=ks.length:=by simp[Ai]
theorem Gp (ks:List Nat)(n:Int):Bu 0 (.int .i64 n) (Ai ks)=True:=by
 refine eq_true ?_;simp only[Bu,Ai,Jp];rintro e ⟨k,_,rfl⟩;exact⟨k,rfl⟩
theorem Qblu (ks:List Nat)(b:Nat)(h:b∉ks):updE (.int .i64 (b:Int)) (.c (.bool true)) (Ai ks)=Ai (ks++[b]):=by
 induction ks with
 |nil=>simp[Ai,updE]
 |cons k ks ih=>
  simp only[Jy,not_or]at h;have hk:¬(b:Int)=(k:Int):=ZD
  have ih:=ih h.2;simp only[Ai,Jah,updE,AD,hk,decide_false,Jaf,if_false,Jas]at ih⊢;rw[ih]
theorem Po {ks:List Nat}(h:ks.Nodup):(Ai ks).Nodup:=by
 rw[Ai,List.Nodup,Jac];refine List.Pairwise.imp (λ{a b} df he=>?_) h;simp only[Jbc,C.int.injEq,true_and,and_true]at he;exact df ZD
set_option maxHeartbeats 1000000 in
theorem Qay7 {M ver:Nat}{ks:List Nat}(hM:H M=.map ver (Ai ks))(bE:ks.Nodup)(hl:ks.length<=LIM)
  (hK:∀l H',Upd H H' []->l.Pairwise (· < ·)->(∀x,x∈l↔x∈ks)->K (.c (.sl false 1 (Q7 l))) H') :
  Qv prog Ip [.c (.mp M)] H K:=by
 refine Q0 ?_;refine Qc Ab Qgz ?_;have hMn:H M≠.none:=by rw[hM];simp
 have kn0:=Kn.start1 hM ZF;refine Wd ?_;refine Q3 (Qa ?_);simp only[go_sem,hM];refine⟨Po bE,λit lM H1 h1=>?_⟩;have kn:=kn0.al lM h1;refine Qg (Qd (Qs (λm e1 H1=>∃(left:List (C×V)) (cur:Option (C×V)) (os:List Nat) (c:C) (Lg:List (Nat×Obj)),m=left.length/\os.Nodup/\(∀x,x∈os->x∈ks)/\(∀x∈ks,x∈os\/(C.int .i64 (x:Int),V.c (.bool true))∈left)/\
  (∀y∈left,∃x∈ks,x∉os/\y=(C.int .i64 (x:Int),V.c (.bool true)))/\left.Nodup/\os.length+left.length=ks.length/\
  Gr Lg 1 (Q7 os) c/\Kn H H1 [(M,.map ver (Ai ks))] ([(it,.iter (some (M,ver)) left cur)]++Lg)/\e1=[(3,.c c),(6,.c (.itr it))]) (Ai ks).length ?_ ?_))
 ·refine⟨Ai ks,none,[],_,[],rfl,ZF,ZF,λx hx=>.inr ?_,λy hy=>?_,Po bE,by simp[Ai],.nil 1,kn,rfl⟩
  ·exact Jp.2 ⟨x,hx,rfl⟩
  ·obtain⟨x,hx,rfl⟩:=Jp.1 hy;exact⟨x,hx,ZF,rfl⟩
 ·rintro m e1 H2 ⟨left,cur,os,c,Lg,rfl,rq,n8,bg,eR,vF,ak,aq,kn,rfl⟩;have yQ:=kn.e 0 rfl;have wa:=kn.l 0 rfl;have jV:=aq.ai;refine Zo jV wa yQ ?_;refine⟨⟨_,rfl⟩,λkP=>?_,λy left' hy cZ kQ rH H3 h3=>?_⟩
  ·subst kP;simp only[go_sem,PX,J2];refine Qg (Qf rfl (λh=>ZK) λ_=>?_);refine Zb ?_;refine Zh jV ?_;refine HT kn aq λLg2 H3 aq kn=>?_;refine Zh jV ?_;refine Zt jV ?_;have bz:∀x,x∈os↔x∈ks:=λx=>⟨n8 x,λhx=>(bg x hx).resolve_right ZF⟩;have hni:(os.map Int.ofNat).Nodup:=by
    rw[List.Nodup,Jac];exact List.Pairwise.imp (λ{a b} df he=>df (Int.ofNat.inj he)) rq
   have sY:=Qbqy hni;obtain⟨l,mL,ft,qn⟩:∃l:List Nat,srt (os.map Int.ofNat)=l.map Int.ofNat/\l.Pairwise (· < ·)/\∀x,x∈l↔x∈ks:=by
    refine⟨(srt (os.map Int.ofNat)).map Int.toNat,?_,?_,λx=>?_⟩
    ·rw[Jay]
     conv=>lhs;rw[<-Ja7 (srt (os.map Int.ofNat))]
     refine Jae λx hx=>?_;rw[CB]at hx;obtain⟨y,_,rfl⟩:=Jp.1 hx;simp
    ·rw[Jac];refine List.Pairwise.imp_of_mem (λ{a b} ha hb df=>?_) sY;rw[CB]at ha hb;obtain⟨x,_,rfl⟩:=Jp.1 ha;obtain⟨y,_,rfl⟩:=Jp.1 hb;simpa using df
    ·rw[<-bz];constructor
     ·intro hx;obtain⟨y,hy,rfl⟩:=Jp.1 hx;rw[CB]at hy;obtain⟨z,hz,rfl⟩:=Jp.1 hy;simpa using hz
     ·intro hx;exact Jp.2 ⟨(x:Int),by rw[CB];exact Jp.2 ⟨x,hx,rfl⟩,ZF⟩
   have:=aq.frz kn (Qy _);rw[mL]at this;exact⟨_,.c _ _ this,hK l _ (kn.fin.drop1 hM) ft qn⟩
  ·obtain⟨k,hk,vM,rfl⟩:=eR y hy;have kn:=kn.aB 0 rfl h3;have hM3:=kn.e 0 rfl;have vZ:=kn.l 0 rfl;simp only[go_sem,PX,J2];refine Qg (Qf rfl (λ_=>?_) (λh=>ZK));refine Zd ?_;refine Qd (Qa ?_);simp only[go_sem,jV,vZ,hM3];refine⟨⟨_,rfl⟩,?_⟩;simp only[go_sem,Qfb,J2];refine Zv jV ?_;have dJ:os.length+1<=LIM:=by omega
   refine kn.bD (B:=[_]) (new:=Q7 [k]) aq (.mk' _ _ _ _) (Cu _) (by simp only[Q1,Jo,Jn];omega) λt Lg' H4 aq ht kn=>?_;simp only[go_sem,Qfc,X.next];refine⟨left'.length,ZD,left',_,os++[k],t,Lg',rfl,?_,λx hx=>?_,λx hx=>?_,λy dO=>?_,kQ,?_,?_,kn,rfl⟩
   ·refine Jab.2 ⟨rq,ZF,λa ha b hb=>?_⟩;simp at hb;subst hb;exact λe=>vM (e▸ha)
   ·rcases Je.1 hx with hx|hx
    ·exact n8 x hx
    ·simp at hx;subst hx;exact hk
   ·rcases bg x hx with h|h
    ·exact .inl (Jl _ h)
    ·by_cases xB:x=k
     ·subst xB;exact .inl (Jv _ ZF)
     ·refine .inr ((cZ _).2 ⟨h,λhe=>xB ?_⟩);simp only[Jbc,C.int.injEq,true_and,and_true]at he;omega
   ·obtain⟨h1,h2⟩:=(cZ y).1 dO;obtain⟨x,hx,tU,rfl⟩:=eR y h1;refine⟨x,hx,λhh=>?_,rfl⟩;rcases Je.1 hh with hh|hh
    ·exact tU hh
    ·simp at hh;subst hh;exact h2 rfl
   ·simp;omega
   ·rw[Gi];exact aq
def Gw (Lg:List (Nat×Obj))(sz:Nat)(rows:List (List C))(c:C):Prop:=
 (c=.sl true sz []/\rows=[]/\Lg=[])\/∃y R,c=.ah y sz 0 rows.length/\Lg=[(y,.vec sz R)]/\R.take rows.length=rows
end Go.AE.Y
namespace Go.AE
open Go.AE.Y
open Go.Proofs.Tryz
variable {H H0:Heap}{K:V->Heap->Prop}{E B Lg:List (Nat×Obj)}
theorem Gr.gw {sz:Nat}{rows:List (List C)}{c:C}(h:Gr Lg sz rows c):Gw Lg sz rows c:=by
 rcases h with h|⟨y,h1,h2⟩
 ·exact .inl h
 ·exact .inr ⟨y,rows,h1,h2,Jau⟩
end Go.AE
namespace Go.AE.Y
open Go.Proofs.Tryz
variable {H H0:Heap}{K:V->Heap->Prop}{E B Lg:List (Nat×Obj)}
theorem Gw.ai {sz:Nat}{rows:List (List C)}{c:C}(h:Gw Lg sz rows c):c.ai=false:=by rcases h with ⟨rfl,_⟩|⟨y,R,rfl,_⟩ <;> rfl
theorem Gw.frz {ns:List Int}{c:C}(h:Gw Lg 1 (Qb ns) c)(kn:Kn H0 H E (B++Lg)):FrzC H (un H0) c (.sl false 1 (Qb ns)):=by
 rcases h with ⟨rfl,h2,_⟩|⟨y,R,rfl,rfl,hR⟩
 ·rw[h2];exact FrzR.nil.sl
 ·have aP:(Qb ns).length<=R.length:=by
   have:=congrArg List.length hR;rw[Jr]at this;omega
  have h:=FrzR.same (H:=H) (S:=un H0) (Qy ns);exact .ah y 1 0 _ R (Qb ns) (Qb ns) (BE (kn.loc (y,.vec 1 R) ZF)) (kn.get (y,.vec 1 R) ZF).1 ZD (by simpa using hR.symm) h.spec.1 (λi r r' h1 h2=>(h.spec.2 i r r' h1 h2).spec.1) λi r r' j c c' h1 h2 h3 h4=>(h.spec.2 i r r' h1 h2).spec.2 j c c' h3 h4
theorem Yl {fl:Bool}{ns:List Int}{L:List (Nat×Obj)}(kn:Kn H0 H E L)(hl:ns.length<=LIM)(hK:∀t Lg H',Gr Lg 1 (Qb ns) t->t.ai=false->Kn H0 H' E (L++Lg)->K (.c t) H') :
  Qv prog Rr [.c (.sl fl 1 (Qb ns))] H K:=by
 refine Qc Ab Qbiz ?_;refine Wf ?_;intro b hb;refine Wv ?_ ?_
 ·intro ng;have hn:=hb ng;refine Za ?_;refine Zf ?_;refine hK _ [] H ?_ rfl ZO;rw[hn];exact .nil 1
 ·intro qs;refine Zd ?_;refine Qa ?_;simp only[go_sem,Qe];refine⟨.inl trivial,Qy _,ZD,λz hz H1 h1=>?_⟩;have kn:=kn.al hz h1;simp only[go_sem,Q5d];refine Zf ?_;exact hK _ _ H1 (.mk z 1 _ ZZ) rfl kn
theorem Qbia (ns:List Int)(i:Nat)(x:Int):(Qb ns).set i [.int .i64 x]=Qb (ns.set i x):=by simp[Qb,Jam]
theorem Qa8t (ns:List Int)(k:Nat):(Qb ns).take k=Qb (ns.take k):=by simp[Qb,Ja9]
set_option maxHeartbeats 2000000 in
theorem Qbly {c:C}{ns:List Int}(kn:Kn H0 H E (B++Lg))(aq:Gr Lg 1 (Qb ns) c)(hs:ns.Pairwise (·<=·))(hL:ns.length<=2 ^ 38)
  (hK:∀t Lg' ns' H',Gw Lg' 1 (Qb ns') t->t.ai=false->Kn H0 H' E (B++Lg')->ns'.Pairwise (· < ·)->(∀x,x∈ns'↔x∈ns)->ns'.length<=ns.length->K (.c t) H') :
  Qv prog Si [.c c] H K:=by
 have bM:=aq.ai;have ay:=eq_true (aq.aZ kn);have ak:=aq.ax;have eY:=aq.rowsOf kn;have bj:=aq.aN;refine Qc Ab Qa0m ?_;refine Wg ?_;simp only[go_sem,ay,ak,Qe];intro _;refine Wv ?_ ?_
 ·intro hc;have h2:ns.length<2:=by have:=of_decide_eq_true hc;omega
  refine Za ?_;refine Zf ?_;exact hK c Lg ns H aq.gw bM kn (Kj hs λi h0 hi=>ZD) (λ_=>Iff.rfl) (Jf _)
 ·intro hc;have h2:2<=ns.length:=by have:=of_decide_eq_false hc;omega
  obtain⟨z,rfl,rfl⟩:∃z,c=.ah z 1 0 ns.length/\Lg=[(z,.vec 1 (Qb ns))]:=by
   rcases aq with ⟨_,h,_⟩|⟨y,h1,h2⟩
   ·have:ns.length=0:=(by rw[<-Qe,h];rfl);omega
   ·exact⟨y,by rw[h1,Qe],h2⟩
  have hz:=kn.l B.length (l:=z) (o:=.vec 1 (Qb ns)) ZF;refine Zd ?_;refine Wa ?_;refine Qg (Qd (Qs (λm e1 H1=>∃(k:Nat),m=ns.length-k/\0<k/\k<=ns.length/\H1=H/\(∀i,0<i->i<k->ns.getD i 0≠ns.getD (i-1) 0)/\e1=[(0,.c (.ah z 1 0 ns.length)),(3,.c (.int .i64 k))]) (ns.length-1) ?_ ?_))
  ·exact⟨1,rfl,ZD,ZD,rfl,λi h0 h1=>ZD,rfl⟩
  ·rintro m e1 H1 ⟨k,hm,iP,hk,rfl,be,rfl⟩;refine Q3 (Qa ?_);simp only[go_sem,hz,Qe,Jk,Jf];intro eu;simp only[LIM]at eu;refine Wv ?_ ?_
   ·intro ao;have ae:k<ns.length:=ZI;have dT:k-1<ns.length:=ZD;have e1:((k:Int)-1)=((k-1:Nat):Int):=ZD;have b8:(Qb ns).take ns.length=Qb ns:=Jc (by rw[Qe];exact Jf _);refine Wb ?_;refine Aj ?_;simp only[go_sem,hz,e1,ae,dT,b8,Qe,Qn _ _ ae,Qn _ _ dT,Jk,Jf];refine⟨Qo,?_⟩;refine Ww ?_ ?_
    ·intro bk;have mV:ns.getD k 0=ns.getD (k-1) 0:=ZM;refine Qa ?_;simp only[go_sem,hz,Qe,Jk,Jf];refine⟨ZD,?_⟩;refine Wa ?_;refine Qg (Qd (Qs (λm e1 H2=>∃(j kk:Nat) (R:List Int),m=ns.length-j/\k<j/\j<=ns.length/\Cmp ns R kk j/\Kn H0 H2 E (B++[(z,.vec 1 (Qb R))])/\
      e1=[(0,.c (.ah z 1 0 ns.length)),(3,.c (.int .i64 kk)),(4,.c (.ah z 1 k (ns.length-k))),(5,.c (.int .i64 ((j-k:Nat):Int)))]) (ns.length-(k+1)) ?_ ?_))
     ·refine⟨k+1,k,ns,rfl,ZD,ZD,.start hs iP ae be mV,kn,?_⟩;have:k+1-k=1:=ZD;rw[this];rfl
     ·rintro m2 e1 H2 ⟨j,kk,R,eK,hkj,hj,lO,kn,rfl⟩;have hz:=kn.l B.length (l:=z) (o:=.vec 1 (Qb R)) ZF;have nk:=lO.len;have hkkj:=lO.kj;refine Q3 (Qa ?_);have e3:k+(ns.length-k)=ns.length:=ZD;simp only[go_sem,hz,Qe,nk,e3,Jf];intro _;refine Wv ?_ ?_
      ·intro bN;have eS:j<ns.length:=(by have:=of_decide_eq_true bN;omega);have hjR:j<R.length:=ZD;have vV:j-1<R.length:=ZD;have po:j-k<ns.length-k:=ZD;have rS:j-k-1<ns.length-k:=ZD;have e4:(((j-k:Nat):Int)-1)=((j-k-1:Nat):Int):=ZD;have dC:(((Qb R).drop k).take (ns.length-k)).getD (j-k) []=[.int .i64 (ns.getD j 0)]:=by
        rw[<-lO.same j ZD,<-Qn _ _ hjR];simp only[Ja,Jag,Ja8];rw[if_pos po];have:k+(j-k)=j:=ZD;rw[this]
       have fD:(((Qb R).drop k).take (ns.length-k)).getD (j-k-1) []=[.int .i64 (ns.getD (j-1) 0)]:=by
        rw[<-lO.same (j-1) ZD,<-Qn _ _ vV];simp only[Ja,Jag,Ja8];rw[if_pos rS];have:k+(j-k-1)=j-1:=ZD;rw[this]
       refine Zd ?_;refine Az (λe2 H3=>∃(kk:Nat) (R:List Int),Cmp ns R kk (j+1)/\Kn H0 H3 E (B++[(z,.vec 1 (Qb R))])/\
        lk 0 e2=.c (.ah z 1 0 ns.length)/\lk 3 e2=.c (.int .i64 kk)/\lk 4 e2=.c (.ah z 1 k (ns.length-k))/\lk 5 e2=.c (.int .i64 ((j-k:Nat):Int))) ?_ ?_
       ·intro Q br _ _;refine Qd (Aj ?_);simp only[go_sem,hz,e3,e4,dC,fD,po,rS,Qe,nk,Jf];refine⟨Qo,?_⟩;refine Ww ?_ ?_
        ·intro iS;have vt:ns.getD j 0≠ns.getD (j-1) 0:=ZaJ;have rP:kk<ns.length:=ZD;have vP:kk<R.length:=ZD;have b8:(Qb R).take ns.length=Qb R:=Jc ZZ;refine Qa ?_;simp only[go_sem,hz,e3,dC,po,rP,Qn _ _ vP,Qbia,Qe,nk,Jk,Jf];intro H3 h3;have kn3:=kn.aB B.length (x:=z) (o:=.vec 1 (Qb R)) ZF h3;have kn:Kn H0 H3 E (B++[(z,.vec 1 (Qb (R.set kk (ns.getD j 0))))]):=(by simpa using kn3);refine Zi ?_;refine⟨Qo,?_⟩;exact br _ _ ⟨kk+1,_,lO.ne hs eS vt,kn,rfl,rfl,rfl,rfl⟩
        ·intro iS;have wv:ns.getD j 0=ns.getD (j-1) 0:=ZaJ;refine Zd ?_;exact br _ _ ⟨kk,R,lO.eq eS wv,kn,rfl,rfl,rfl,rfl⟩
       ·rintro e2 H3 ⟨kk,R,lO,kn,l0,l3,l4,l5⟩;refine Qp ?_;simp only[go_sem,X.next,l0,l3,l4,l5];refine⟨Qo,ns.length-(j+1),ZD,j+1,kk,R,rfl,ZD,ZD,lO,kn,?_⟩;have:(((j-k:Nat):Int)+1)=((j+1-k:Nat):Int):=ZD;rw[this]
      ·intro bN;have lL:j=ns.length:=(by have:=of_decide_eq_false bN;omega);subst lL;have rP:kk<=R.length:=ZD;refine Zb ?_;refine Qa ?_;have e5:kk+(ns.length-kk)=ns.length:=ZD;simp only[go_sem,hz,e5,Qe,nk,Jk,Jf];refine⟨ZD,λH3 h3=>?_⟩;have kn3:=kn.aB B.length (x:=z) (o:=.vec 1 (Qb R)) ZF h3;have eW:((Qb R).take kk++List.replicate (ns.length-kk) [C.int .i64 0]++(Qb R).drop ns.length).take kk=Qb (R.take kk):=by
        rw[Jao,List.take_append_of_le_length (by rw[Jr,Qe];omega),Ja6,Nat.min_self,Qa8t]
       have ft:ns.length<=((Qb R).take kk++List.replicate (ns.length-kk) [C.int .i64 0]++(Qb R).drop ns.length).length:=by
        simp only[Jw,Jr,Jd,Jaj,Qe];omega
       generalize (Qb R).take kk++List.replicate (ns.length-kk) [C.int .i64 0]++(Qb R).drop ns.length=R2 at *;have kn:Kn H0 H3 E (B++[(z,.vec 1 R2)]):=(by simpa using kn3);have tO:=kn.l B.length (l:=z) (o:=.vec 1 R2) ZF;refine Qa ?_;simp only[go_sem,tO,ft,Jk,Jbs];refine⟨ZD,?_⟩;refine Zq ?_;have dA:(Qb (R.take kk)).length=kk:=(by rw[Qe,Jr];omega);refine hK (.ah z 1 0 kk) _ (R.take kk) H3 (.inr ⟨z,R2,?_,rfl,?_⟩) rfl kn lO.asc (λx=>?_) (by rw[Jr];omega)
       ·rw[dA]
       ·rw[dA];exact eW
       ·rw[lO.mem,Jau]
    ·intro bk;have vr:¬ns.getD k 0=ns.getD (k-1) 0:=ZM;refine Wl ?_;refine⟨Qo,ns.length-(k+1),ZD,k+1,rfl,ZD,ZD,λi h0 h1=>?_,rfl⟩;by_cases h:i<k
     ·exact be i h0 h
     ·have:i=k:=ZD;subst this;exact vr
   ·intro ao;have aY:ns.length<=k:=ZI;refine Ws ?_;exact hK _ _ ns H1 aq.gw rfl kn (Kj hs λi h0 hi=>be i h0 ZD) (λ_=>Iff.rfl) (Jf _)
theorem HQ {fl:Bool}{ns:List Int}(hL:ns.length<=2 ^ 38)(hK:∀ns' H',Upd H H' []->ns'.Pairwise (· < ·)->(∀x,x∈ns'↔x∈ns)->ns'.length<=ns.length->K (.c (.sl false 1 (Qb ns'))) H') :
  Qv prog OZ [.c (.sl fl 1 (Qb ns))] H K:=by
 refine Q0 ?_;refine Qc Ab Qbnk ?_;refine Wd ?_;refine Yl (Kn.ar H) ZU λt Lg H1 aq bM kn=>?_;simp only[go_sem,Q82];refine Za ?_;refine HT kn aq λLg H2 aq kn=>?_;refine Za ?_;refine Qbly kn aq (Kq ns) (by rw[EG];exact hL) λt2 Lg2 ns' H3 hgw how2 kn h1 h2 h3=>?_;simp only[go_sem,Q83];refine Zf ?_;exact⟨_,.c _ _ (hgw.frz kn),hK ns' _ kn.fin h1 (λx=>by rw[h2,CB]) (by rw[EG]at h3;exact h3)⟩
noncomputable def Ci (n:Nat)(nx:Nat->List Int):List Nat:=if A4 n nx then (List.range n).filter (Al (nxN nx) (-1))else []
theorem Qa77 {p rg:Int}{bc:C}{rows:List (List C)}{nx:Nat->List Int}(hg:GRd H bc rows nx)(hn:rows.length<=1000000)
  (hK:∀H',Upd H H' []->K (.c (.sl false 1 (Q7 (Ci rows.length nx)))) H') :
  Qv prog Ta [.ag [.int .i64 p,.int .i64 rg,bc]] H K:=by
 have bM:=hg.ow;refine Q0 ?_;refine Qc Ab Qanl ?_;refine Wg ?_;simp only[go_sem,bM];refine Ka hg ?_;simp only[go_sem,Qml];refine Qg (Qf rfl (λhc=>?_) (λhc=>?_))
 ·have hf:=Bf hc;refine Za ?_;refine Zf ?_;have:=hK _ (Kn.ar H).fin;simp only[Ci,hf]at this;exact⟨_,.c _ _ FrzR.nil.sl,this⟩
 ·have hf:=A8 hc;have bY:=CN hf;refine Zd ?_;refine Zh bM ?_;refine YO hg hf hn λS o H1 hu hd=>?_;have kn:=(Kn.ar H).aw hu;simp only[go_sem,Qmn];have fe:∀x,x<(List.replicate rows.length false).length->∀y∈nxN nx x,y<(List.replicate rows.length false).length:=by
   rw[Jd];exact λx hx y hy=>Co hf hx hy
  have iY:∀x∈[0],x<(List.replicate rows.length false).length:=ZaA
  have pK:=hd.count fe iY;have de:cnt (List.replicate rows.length false)=0:=by simp[cnt,List.count_replicate]
  have cB:=C0 S;have nW:=hd.len;rw[Jd]at nW;have dJ:o.length<=1000000:=by simp only[Jn]at pK;omega
  refine HQ (ns:=o.map Int.ofNat) (by rw[Ju];omega) λns' H2 hu h1 h2 h3=>?_;have kn:=kn.aw hu;simp only[go_sem,Qmm];refine Zf ?_;have he:ns'=(Ci rows.length nx).map Int.ofNat:=by
   simp only[Ci,hf,if_pos];refine Qbrh h1 (Ja4 _ Jav) λx=>?_;rw[h2];have bz:∀y,y∈o↔y<rows.length/\Al (nxN nx) (-1) y=true:=by
    intro y;rw[hd.list fe iY (BU _) y,hd.seen fe iY y];rw[BU];simp only[Jaf,false_or,Jb,exists_eq_left,rchB_iff];constructor
    ·intro hr;have fD:=hr.mono (B:=λz=>(z:Int)=-1) (λz hz=>ZD);exact⟨fD.lt (λx hx y hy=>Co hf hx hy) bY,fD⟩
    ·intro hr;exact hr.2.mono λz hz=>by rw[BU]at hz;simp at hz
   constructor
   ·intro hx;obtain⟨y,hy,rfl⟩:=Jp.1 hx;obtain⟨h1,h2⟩:=(bz y).1 hy;exact⟨y,Jaz.2 ⟨J5.2 h1,h2⟩,rfl⟩
   ·rintro⟨y,hy,rfl⟩;obtain⟨h1,h2⟩:=Jaz.1 hy;exact Jp.2 ⟨y,(bz y).2 ⟨J5.1 h1,h2⟩,rfl⟩
  have:=hK _ kn.fin;rw[Q7,<-he]at this;exact⟨_,.c _ _ (D0 (noOw_mem (Qy _))),this⟩
theorem FC {n:Nat}{S:List Bool}{f:Nat->Bool}(hl:S.length=n)(h:∀x,x<n->S.getD x false=f x):S=(List.range n).map f:=by
 refine Jbl Zbd λi h1 h2=>?_;have hi:i<n:=by rw[<-hl];exact h1
 have:=h i hi;simp only[Ja,Jj h1,J3]at this;simp[this]
theorem Q5v {n:Nat}{nx:Nat->List Int}{S:List Bool}{o:List Nat}(hf:A4 n nx=true)(hd:Dfs (nxN nx) [0] (List.replicate n false) [] S o):S=inL n (nxN nx):=by
 have bY:=CN hf;have fe:∀x,x<(List.replicate n false).length->∀y∈nxN nx x,y<(List.replicate n false).length:=by
  rw[Jd];exact λx hx y hy=>Co hf hx hy
 have iY:∀x∈[0],x<(List.replicate n false).length:=ZaA
 have hl:=hd.len;rw[Jd]at hl;refine FC hl λx hx=>?_;have hs:=hd.seen fe iY x;rw[BU]at hs;simp only[Jaf,false_or,Jb,exists_eq_left]at hs;rw[Jbn,hs,rchB_iff];exact⟨λhr=>hr.mono λz hz=>ZD,λhr=>hr.mono λz hz=>by rw[BU]at hz;simp at hz⟩
theorem Qasa {n:Nat}{nx:Nat->List Int}{S:List Bool}{o:List Nat}{a:Nat}(hf:A4 n nx=true)(ha:a<n)(hd:Dfs (nxN nx) [0] ((List.replicate n false).set a true) [] S o) :
  S.set a false=(List.range n).map (Al (nxN nx) a):=by
 have bY:=CN hf;have fe:∀x,x<((List.replicate n false).set a true).length->∀y∈nxN nx x,y<((List.replicate n false).set a true).length:=by
  rw[Ji,Jd];exact λx hx y hy=>Co hf hx hy
 have iY:∀x∈[0],x<((List.replicate n false).set a true).length:=by rw[Ji,Jd];simpa using bY
 have hl:=hd.len;rw[Ji,Jd]at hl;refine FC (by rw[Ji];exact hl) λx hx=>?_;have uF:∀z,((List.replicate n false).set a true).getD z false=true↔z=a:=by
  intro z;rw[OO,Jd,BU];by_cases hz:z=a
  ·simp[hz,ha]
  ·simp[hz]
 have bK:(S.set a false).getD x false=if x=a then false else S.getD x false:=by
  simp only[Ja,Jbg];by_cases jJ:a=x
  ·subst jJ;simp[hl,ha]
  ·have:¬x=a:=λh=>jJ h.symm;simp[jJ,this]
 rw[bK];by_cases jJ:x=a
 ·subst jJ;rw[if_pos rfl,OC]
 ·rw[if_neg jJ,Jbn,hd.seen fe iY x,uF,rchB_iff];simp only[jJ,false_or,Jb,exists_eq_left];exact⟨λhr=>hr.mono λz hz=>(uF z).2 ZD,λhr=>hr.mono λz hz=>by have:=(uF z).1 hz;omega⟩
theorem YN {n:Nat}{g:Nat->List Nat}:((List.replicate n false).set 0 true).set 0 false=(List.range n).map (Al g (0:Nat)):=by
 refine FC ZF λx hx=>?_;have:Al g ((0:Nat):Int) x=false:=by
  cases hc:Al g ((0:Nat):Int) x with
  |false=>rfl
  |true=>exact absurd rfl (rchB_iff.1 hc).fst
 rw[this,Jbj];have:(List.replicate n false).set 0 false=List.replicate n false:=by
  cases n with
  |zero=>rfl
  |succ n=>rfl
 rw[this,BU]
set_option maxHeartbeats 4000000 in
theorem FG {p rg:Int}{fl:Bool}{rows:List (List C)}{nx:Nat->List Int}(hg:GF rows nx)(hf:A4 rows.length nx=true)
  (hK:∀H',Upd H H' []->K (.c (.sl false 1 (A7 rows.length (nxN nx) rows.length))) H') :
  Qv prog Hf [.ag [.int .i64 p,.int .i64 rg,.sl fl 5 rows]] H K:=by
 have hn:=hg.n;have bY:=CN hf;have cd:∀(y:Nat) l a b d,C.sl fl 5 rows=.ah l a b d->l≠y:=by intro y l a b d h;cases h
 refine Q0 ?_;refine Qc Ab Qbnt ?_;refine Wd ?_;intro _;refine Wj ?_;simp only[go_sem,DJ];refine⟨by simp only[LIM];omega,λal dk H1 h1=>?_⟩;have kn:Kn H H1 [] ([(al,.vec 1 (Qm (List.replicate rows.length false)))]++[]):=(Kn.ar H).al dk h1;simp only[go_sem,Q9u];refine Za ?_;refine Q6h (F:=H1) hf ZD (hg.grd H1 fl) (cd al) rows.length 0 (List.replicate rows.length false) [] (.sl true 1 []) [] H1 _ ZF ZD bY (BU _ _) kn.mid (.nil 1) ZF λS o oc Lg0 H2 hd k2 _=>?_;have kn:Kn H H2 [] [(al,.vec 1 (Qm (inL rows.length (nxN nx))))]:=by
  have:=(kn.comp k2 rfl).drop;rw[Q5v hf hd]at this;exact this
 refine Wa ?_;refine Qg (Qd (Qs (λm e1 H1=>∃(ys:List Nat) (oc:C) (Lg:List (Nat×Obj)),m=rows.length-ys.length/\ys.length<=rows.length/\Gr Lg 1 (ysR rows.length ys) oc/\
  Kn H H1 [] (([(al,.vec 1 (Qm (inL rows.length (nxN nx))))]++ysL rows.length (nxN nx) ys)++Lg)/\
  e1=[(1,.c (.pp [.int .i64 p,.int .i64 rg,.sl fl 5 rows])),(3,.c (.int .i64 rows.length)),(4,.c oc),(5,.c (.ah al 1 0 rows.length)),(6,.c (.int .i64 ys.length))]) rows.length ?_ ?_))
 ·exact⟨[],_,[],ZF,ZF,.nil 1,kn,rfl⟩
 ·rintro m e1 H3 ⟨ys,oc,Lg,hm,hi,aq,kn,rfl⟩;have xY:=aq.ai;refine Wa ?_;refine Wv ?_ ?_
  ·intro hc;have ae:ys.length<rows.length:=ZG
   have pg:ys.length<(inL rows.length (nxN nx)).length:=by rw[Cq];exact ae
   refine Zd ?_;refine Az (λe2 H4=>∃(oc:C) (Lg:List (Nat×Obj)) (y:Nat),Gr Lg 1 (ysR rows.length (ys++[y])) oc/\
    Kn H H4 [] (([(al,.vec 1 (Qm (inL rows.length (nxN nx))))]++ysL rows.length (nxN nx) (ys++[y]))++Lg)/\
    lk 1 e2=.c (.pp [.int .i64 p,.int .i64 rg,.sl fl 5 rows])/\lk 3 e2=.c (.int .i64 rows.length)/\lk 4 e2=.c oc/\lk 5 e2=.c (.ah al 1 0 rows.length)/\lk 6 e2=.c (.int .i64 ys.length)) ?_ ?_
   ·intro Q br _ _;refine Qd (Qa ?_);simp only[go_sem,DJ];refine⟨by simp only[LIM];omega,λy2 lW H4 h4=>?_⟩;have kn:Kn H H4 [] ([(y2,.vec 1 (Qm (List.replicate rows.length false)))]++([(al,.vec 1 (Qm (inL rows.length (nxN nx))))]++(ysL rows.length (nxN nx) ys++Lg))):=
     (kn.al lW h4).perm (Qt λf hf h0 hc hp=>by simp only[hf];omega)
    have hy:=kn.l 0 rfl;have bH:ys.length<(List.replicate rows.length false).length:=(by rw[Jd];exact ae);simp only[go_sem,Q9v];refine Qa ?_;have oD:∀(S:List Bool),S.length=rows.length->(Qm S).take rows.length=Qm S:=λS h=>Jc Zae;simp only[go_sem,hy,ae,Qu,Jd,Qx _ _ bH,BS,Jk,Jf];intro H5 h5;have kn:Kn H H5 [] ([(y2,.vec 1 (Qm ((List.replicate rows.length false).set ys.length true)))]++([(al,.vec 1 (Qm (inL rows.length (nxN nx))))]++(ysL rows.length (nxN nx) ys++Lg))):=kn.aB 0 rfl h5;refine Wa ?_;have rest:∀(e:Env) (H6:Heap),lk 1 e=.c (.pp [.int .i64 p,.int .i64 rg,.sl fl 5 rows])->lk 3 e=.c (.int .i64 rows.length)->lk 4 e=.c oc->lk 5 e=.c (.ah al 1 0 rows.length)->lk 6 e=.c (.int .i64 ys.length)->lk 7 e=.c (.ah y2 1 0 rows.length)->
      Kn H H6 [] ([(y2,.vec 1 (Qm ((List.range rows.length).map (Al (nxN nx) ys.length))))]++([(al,.vec 1 (Qm (inL rows.length (nxN nx))))]++(ysL rows.length (nxN nx) ys++Lg)))->
      Ad prog Q9t Q e H6:=by
     intro e H6 l1 l3 l4 l5 l6 l7 kn;refine Qa ?_;simp only[go_sem,l3,DJ];refine⟨by simp only[LIM];omega,λy3 tS H7 h7=>?_⟩;have kn:Kn H H7 [] ([(y3,.vec 1 (Qm (List.replicate rows.length false)))]++([(y2,.vec 1 (Qm ((List.range rows.length).map (Al (nxN nx) ys.length))))]++([(al,.vec 1 (Qm (inL rows.length (nxN nx))))]++(ysL rows.length (nxN nx) ys++Lg)))):=
      (kn.al tS h7).perm (Qt λf hf h0 hc hp=>by simp only[hf];omega)
     simp only[go_sem,Q9w,l1,l3,l4,l5,l6,l7];refine Wa ?_;refine Qg (Qd (Qs (λm e1 H1=>∃b:Nat,m=rows.length-b/\b<=rows.length/\
      Kn H H1 [] ([(y3,.vec 1 (Qm ((List.range b).map (Aq (nxN nx) ys.length)++List.replicate (rows.length-b) false)))]++([(y2,.vec 1 (Qm ((List.range rows.length).map (Al (nxN nx) ys.length))))]++([(al,.vec 1 (Qm (inL rows.length (nxN nx))))]++(ysL rows.length (nxN nx) ys++Lg))))/\
      e1=[(1,.c (.pp [.int .i64 p,.int .i64 rg,.sl fl 5 rows])),(3,.c (.int .i64 rows.length)),(4,.c oc),(5,.c (.ah al 1 0 rows.length)),(6,.c (.int .i64 ys.length)),(7,.c (.ah y2 1 0 rows.length)),(8,.c (.ah y3 1 0 rows.length)),(9,.c (.int .i64 b))]) rows.length ?_ ?_))
     ·exact⟨0,ZD,ZD,ZO,rfl⟩
     ·rintro m2 e1 H8 ⟨b,eK,hb,kn,rfl⟩;have tS:=kn.l 0 rfl;have lW:=kn.l 1 rfl;have dk:=kn.l 2 rfl;have fg:((List.range b).map (Aq (nxN nx) ys.length)++List.replicate (rows.length-b) false).length=rows.length:=ZJ;refine Wa ?_;refine Wv ?_ ?_
      ·intro ao;have bG:b<rows.length:=ZI;have bA:b<(inL rows.length (nxN nx)).length:=(by rw[Cq];exact bG);have du:b<((List.range rows.length).map (Al (nxN nx) ys.length)).length:=(by simpa using bG);have nc:b<((List.range b).map (Aq (nxN nx) ys.length)++List.replicate (rows.length-b) false).length:=(by rw[fg];exact bG);have t1:=oD (inL rows.length (nxN nx)) Cq;have t2:=oD ((List.range rows.length).map (Al (nxN nx) ys.length)) ZF;have t3:=oD _ fg;refine Wb ?_;refine Qp ?_;simp only[go_sem,tS,lW,dk,bG,ae,t1,t2,Qu,fg,Cq,Ju,Jap,Qx _ _ pg,ON ae,Qx _ _ bA,ON bG,Qx _ _ du,Hs _ _ bG,Qx _ _ nc,BS,Jk,Jf];intro H9 h9;have kn:=kn.aB 0 rfl h9;refine Zg ?_;refine⟨Qo,rows.length-(b+1),ZD,b+1,rfl,ZD,?_,rfl⟩;rw[<-Q8u _ _ bG];have:Aq (nxN nx) ys.length b=(bif (bif Al (nxN nx) (-1) ys.length then Al (nxN nx) (-1) b else false)then !Al (nxN nx) (↑ys.length) b else false):=by
        simp only[Aq];cases Al (nxN nx) (-1) ys.length <;> cases Al (nxN nx) (-1) b <;> rfl
       rw[this];exact kn
      ·intro ao;have iv:b=rows.length:=(by have:¬b<rows.length:=(by simpa using ao);omega);subst iv;refine Zb ?_;refine Zi ?_;have kn:Kn H H8 [] (([(al,.vec 1 (Qm (inL rows.length (nxN nx))))]++ysL rows.length (nxN nx) (ys++[y3]))++Lg):=by
        have a8:(List.range rows.length).map (Aq (nxN nx) ys.length)++List.replicate (rows.length-rows.length) false=AS rows.length (nxN nx) ys.length:=(by simp[AS]);rw[a8]at kn;have:=kn.perm (L':=(([(al,.vec 1 (Qm (inL rows.length (nxN nx))))]++ysL rows.length (nxN nx) (ys++[y3]))++Lg)++[(y2,.vec 1 (Qm ((List.range rows.length).map (Al (nxN nx) ys.length))))]) (Qt λf hf h0 hc hp=>by simp only[Ir,hf];omega);exact this.drop
       refine kn.bD (new:=[[.ah y3 1 0 rows.length]]) aq (.mk' _ _ _ _) (by simp[Go.AE.an,C.ai]) (by simp only[ED,LIM,Jo,Jn];omega) λt Lg' H9 aq ht kn=>?_;simp only[go_sem,Q9x];refine br _ _ ⟨t,Lg',y3,?_,kn,rfl,rfl,rfl,rfl,rfl⟩;rw[Iq];exact aq
    refine Wv ?_ ?_
    ·intro ha;have nT:ys.length≠0:=Zax;refine Za ?_;refine Q6h (F:=H5) hf ZD (hg.grd H5 fl) (cd y2) rows.length 0 ((List.replicate rows.length false).set ys.length true) [] (.sl true 1 []) [] H5 _ ZF ZD bY (by rw[OO,BU,if_neg (by omega)]) kn.mid (.nil 1) ZF λS o oc' Lg0 H6 hd k2 _=>?_;have nW:=hd.len;rw[Ji,Jd]at nW;have kn:Kn H H6 [] ([(y2,.vec 1 (Qm S))]++([(al,.vec 1 (Qm (inL rows.length (nxN nx))))]++(ysL rows.length (nxN nx) ys++Lg))):=(kn.comp k2 rfl).drop;have hy:=kn.l 0 rfl;have tR:ys.length<S.length:=ZD;refine Qp ?_;simp only[go_sem,hy,ae,Qu,nW,Qx _ _ tR,BS,Jk,Jf];intro H7 h7;have kn:=kn.aB 0 rfl h7;refine rest _ H7 rfl rfl rfl rfl rfl rfl ?_;rw[<-Qasa hf ae hd];exact kn
    ·intro ha;have nT:ys.length=0:=Zax;have hy:=kn.l 0 rfl;have tR:ys.length<((List.replicate rows.length false).set ys.length true).length:=(by simpa using ae);refine Qp ?_;simp only[go_sem,hy,ae,Qu,Ji,Jd,Qx _ _ tR,BS,Jk,Jf];intro H7 h7;have kn:=kn.aB 0 rfl h7;refine rest _ H7 rfl rfl rfl rfl rfl rfl ?_;have:=YN (n:=rows.length) (g:=nxN nx);rw[nT]at kn⊢;rw[<-this];exact kn
   ·rintro e2 H4 ⟨oc2,Lg2,y,aq,kn,l1,l3,l4,l5,l6⟩;refine Qp ?_;simp only[go_sem,X.next,l1,l3,l4,l5,l6];exact⟨Qo,rows.length-(ys.length+1),ZD,ys++[y],oc2,Lg2,ZF,by simp;omega,aq,kn,ZF⟩
  ·intro hc;have aY:ys.length=rows.length:=by have:¬ys.length<rows.length:=ZG;omega
   refine Ws ?_;have gz:=HX (H:=H3) (S:=un H) (n:=rows.length) (g:=nxN nx) ys (λq hq=>⟨(kn.get q (by simp[hq])).1,BE (kn.loc q (by simp[hq]))⟩);rw[aY]at gz;exact⟨_,.c _ _ (aq.frzR kn gz),hK _ kn.fin⟩
end Go.AE.Y
namespace Go.AE.Y
open Go.Proofs.Tryz
def Q3m:List Item:=[mJ 3 12]
def Q3n:List Item:=.chk 6 none (.ld 3 true (.t 1))::aJ 12 Gu [.t 6,kI 0,.t 10,.t 11]::Q3m
def Q3o:List Item:=[mJ 4 27]
def Qa1p:SC:=.reg [mJ 19 5,cJ 20 .sub 19 1,mJ 5 20] [3,4,5]
def Qa1q:SC:=.seq (.block 1 (.reg (mJ 21 4::mJ 22 3::mJ 23 5::iJ 24 1 22 23::lJ 25 24::fI 26 (.aH 1 [.t 25])::xJ 27 1 21 26::Q3o) [3,4,5])) Qa1p
def Qawd:SC:=.seq (sR [mJ 17 5,cJ 18 .geq 17 0] [3,4,5,18] (cT 18 .skip (.exit 0))) Qa1q
def Qa1r:SC:=sR [mJ 28 4,mJ 2 28] [2] .ret
def Qa1s:SC:=.seq (sR [mJ 14 3,nJ 15 14,cJ 16 .sub 15 1,mJ 5 16] [3,4,5] (bL 0 Qawd)) Qa1r
def Qa1t:SC:=sR [fI 13 (.aH 1 []),mJ 4 13] [3,4] Qa1s
def Qa1u:SC:=.seq (.a7 8 [0,1,2,3,5,4,0,6,7] ( tJ 6 3 1::fJ 7 2 1::lJ 8 7::nJ 9 8::fI 11 (.aH 1 [])::eI 10 (.mks 1 [.bool false] (.t 9))::Q3n) [3]) Qa1t
def Qbjk:SC:=sR [vJ 1 0,fI 2 (.mv (.k (.c (.sl true 1 []))))] [1] Qa1u
abbrev Lh:List RS:=[.tmp 2]
theorem Qbip:mFn prog El 1 29 Qbjk Lh=true:=ZH
def Qyc:List Item:=[mJ 3 17]
def Qawl:SC:=.reg [mJ 10 4,cJ 11 .add 10 1,mJ 4 11] [0,3,4]
def Qawm:SC:=.seq (.block 1 (.reg (mJ 12 3::mJ 13 0::mJ 14 4::iJ 15 1 13 14::lJ 16 15::aJ 17 Gt [.t 12,.t 16]::Qyc) [0,3,4])) Qawl
def Qap3:SC:=.seq (sR [mJ 6 4,mJ 7 0,nJ 8 7,bJ 9 .lss 6 8] [0,3,4,9] (cT 9 .skip (.exit 0))) Qawm
def Qawn:SC:=sR [mJ 18 3,mJ 2 18] [2] .ret
def Qawo:SC:=.seq (sR [zJ 4 0] [0,3,4] (bL 0 Qap3)) Qawn
def Qawp:SC:=sR [fI 5 (.aH 1 []),mJ 3 5] [0,3] Qawo
def Qbay:SC:=sR [fI 2 (.mv (.k (.c (.sl true 1 []))))] [0] Qawp
abbrev M9:List RS:=[.tmp 2]
theorem Qa9f:mFn prog RD 1 19 Qbay M9=true:=ZH
def Qni:List Item:=[oJ 5 4]
def Qaep:SC:=cT 5 (sR [fI 6 (.aH 1 []),mJ 2 6] [2] .ret) .skip
def Qnj:List Item:=[mJ 2 9]
def Qnk:List Item:=aJ 9 RD [.t 8]::Qnj
def Qaeq:SC:=sR (tJ 7 3 1::aJ 8 El [.t 7]::Qnk) [2] .ret
def Qaer:SC:=.seq (sR (tJ 3 3 1::aJ 4 Q51 [.t 3]::Qni) [1,5] Qaep) Qaeq
def Qar8:SC:=sR [vJ 1 0,fI 2 (.mv (.k (.c (.sl true 1 []))))] [1] Qaer
abbrev Qxe:List RS:=[.tmp 2]
theorem Qanz:mFn prog SQ 1 10 Qar8 Qxe=true:=ZH
def Q3t:List Item:=[mJ 5 9]
def Qa2c:SC:=.reg [mJ 13 6,cJ 14 .add 13 1,mJ 6 14] [0,1,5,6]
def Qa2d:SC:=.seq (.block 1 (.reg [mJ 15 5,mJ 16 6,iJ 17 1 15 16,.e none none (.sto 1 (.t 17) (kI (-1)))] [0,1,5,6])) Qa2c
def Qawj:SC:=.seq (sR [mJ 10 6,mJ 11 0,bJ 12 .lss 10 11] [0,1,5,6,12] (cT 12 .skip (.exit 0))) Qa2d
def Qa2e:SC:=.reg [mJ 22 7,cJ 23 .add 22 1,mJ 7 23] [1,5,7]
def Qa2f:SC:=.seq (.block 3 (.reg [mJ 24 5,mJ 25 1,mJ 26 7,iJ 27 1 25 26,lJ 28 27,mJ 29 7,iJ 30 1 24 28,sJ 1 30 29] [1,5,7])) Qa2e
def Qawk:SC:=.seq (sR [mJ 18 7,mJ 19 1,nJ 20 19,bJ 21 .lss 18 20] [1,5,7,21] (cT 21 .skip (.exit 2))) Qa2f
def Qa2g:SC:=sR [mJ 31 5,mJ 4 31] [4] .ret
def Qa2h:SC:=.seq (sR [zJ 7 0] [1,5,7] (bL 2 Qawk)) Qa2g
def Qa2i:SC:=.seq (sR [zJ 6 0] [0,1,5,6] (bL 0 Qawj)) Qa2h
def Qawi:SC:=sR (mJ 8 0::eI 9 (.mks 1 [.int .i64 0] (.t 8))::Q3t) [0,1,5] Qa2i
def Qbjl:SC:=sR [fI 4 (.mv (.k (.c (.sl true 1 []))))] [0,1] Qawi
abbrev Lf:List RS:=[.tmp 4]
theorem Qbiq:mFn prog Rv 2 32 Qbjl Lf=true:=ZH
def Q9i:List Item:=[mJ 5 20]
def Q9j:List Item:=[sJ 3 6 25]
def Q9k:List Item:=[hJ 33 32,.chk 36 none (.iad 1 (.t 34) (.t 35)),hJ 37 36,.chk 38 none (.iad 5 (.t 33) (.t 37)),.chk 39 none (.ld 5 true (.t 38)),sJ 5 8 40]
def Q9l:List Item:=eI 8 (.alloc [.sl true 2 [],.sl true 4 [],.int .i64 0,.int .i64 0,.sl true 1 []])::Q9k
def Qbau:SC:=.reg [mJ 46 9,cJ 47 .add 46 1,mJ 9 47] [1,2,4,5,6,7,8,9]
def Qbav:SC:=.seq (.block 3 (.a7 13 [0,1,2,3,4,5,6,7,8,9,10,11,12] ( fJ 48 4 8::lJ 49 48::mJ 50 9::mJ 51 5::fJ 52 4 8::lJ 53 52::mJ 54 9::iJ 55 1 53 54::lJ 56 55::iJ 57 1 51 56::lJ 58 57::iJ 59 1 49 50::sJ 1 59 58::[]) [1,2,4,5,6,7,8,9])) Qbau
def Qa2b:SC:=.seq (sR [mJ 41 9,fJ 42 4 8,lJ 43 42,nJ 44 43,bJ 45 .lss 41 44] [1,2,4,5,6,7,8,9,45] (cT 45 .skip (.exit 2))) Qbav
def Q9m:List Item:=[fJ 65 2 6,sJ 1 65 64]
def Qbaw:SC:=.reg (fJ 60 2 6::lJ 61 60::tJ 62 5 8::fI 63 (.aH 5 [.t 62])::xJ 64 5 61 63::Q9m) [1,2,4,5,6,7]
def Qbax:SC:=.seq (sR [zJ 9 0] [1,2,4,5,6,7,8,9] (bL 2 Qa2b)) (.seq .gh Qbaw)
def Qa1v:SC:=.reg [mJ 30 7,cJ 31 .add 30 1,mJ 7 31] [1,2,4,5,6,7]
def Qa1w:SC:=.seq (.block 1 (.seq (.a7 9 [0,1,2,3,4,5,6,7,8,9,1,4,5,6,7,10] ( fJ 32 2 2::lJ 33 32::mJ 34 1::mJ 35 7::iJ 36 1 34 35::lJ 37 36::iJ 38 5 33 37::tJ 39 5 38::aJ 40 PI [.t 39]::Q9l) [1,2,4,5,6,7,8]) Qbax)) Qa1v
def Qawe:SC:=.seq (sR [mJ 26 7,mJ 27 1,nJ 28 27,bJ 29 .lss 26 28] [1,2,4,5,6,7,29] (cT 29 .skip (.exit 0))) Qa1w
def Q3p:List Item:=[mJ 11 77]
def Q3q:List Item:=[mJ 12 80]
def Q3r:List Item:=[mJ 14 122]
def Q3s:List Item:=hJ 101 100::.chk 103 none (.iad 5 (.t 101) (.t 102))::hJ 105 104::.chk 107 none (.iad 2 (.t 105) (.t 106))::hJ 109 108::iJ 119 1 109 118::lJ 120 119::fI 121 (.aH 1 [.t 120])::xJ 122 1 99 121::Q3r
def Qa1x:SC:=.reg [mJ 97 15,cJ 98 .add 97 1,mJ 15 98] [1,2,4,6,10,11,12,13,14,15]
def Qa1y:SC:=.seq (.block 9 (.a7 25 [0,1,2,3,4,5,6,7,8,9,10,11,12,13,14,15,16,17,18,19,2,4,6,8,10,20,21,22,23,24] ( mJ 99 14::fJ 100 2 6::lJ 101 100::mJ 102 10::iJ 103 5 101 102::fJ 104 0 103::lJ 105 104::mJ 106 13::iJ 107 2 105 106::fJ 108 1 107::lJ 109 108::mJ 110 11::mJ 111 1::mJ 112 12::mJ 113 15::iJ 114 1 112 113::lJ 115 114::iJ 116 1 111 115::lJ 117 116::aJ 118 FY [.t 110,.t 117]::Q3s) [1,2,4,6,10,11,12,13,14,15])) Qa1x
def Qawf:SC:=.seq (sR [mJ 93 15,mJ 94 12,nJ 95 94,bJ 96 .lss 93 95] [1,2,4,6,10,11,12,13,14,15,96] (cT 96 .skip (.exit 8))) Qa1y
def Qa1z:SC:=.reg [fJ 123 2 6,lJ 124 123,mJ 125 10,iJ 126 5 124 125,fJ 127 0 126,lJ 128 127,mJ 129 13,mJ 130 14,iJ 131 2 128 129,fJ 132 1 131,sJ 1 132 130] [1,2,4,6,10,11,12,13]
def Qa10:SC:=.seq (sR [zJ 15 0] [1,2,4,6,10,11,12,13,14,15] (bL 8 Qawf)) (.seq .gh Qa1z)
def Qa11:SC:=.reg [mJ 90 13,cJ 91 .add 90 1,mJ 13 91] [1,2,4,6,10,11,12,13]
def Qa12:SC:=.seq (.block 7 (sR [fI 92 (.aH 1 []),mJ 14 92] [1,2,4,6,10,11,12,13,14] Qa10)) Qa11
def Qawg:SC:=.seq (sR [mJ 81 13,fJ 82 2 6,lJ 83 82,mJ 84 10,iJ 85 5 83 84,fJ 86 0 85,lJ 87 86,nJ 88 87,bJ 89 .lss 81 88] [1,2,4,6,10,11,12,13,89] (cT 89 .skip (.exit 6))) Qa12
def Qa13:SC:=sR [zJ 13 0] [1,2,4,6,10,11,12,13] (bL 6 Qawg)
def Qa14:SC:=sR (tJ 78 3 6::mJ 79 10::aJ 80 Cv [.t 78,.t 79]::Q3q) [1,2,4,6,10,11,12] Qa13
def Qa15:SC:=.reg [mJ 70 10,cJ 71 .add 70 1,mJ 10 71] [1,2,4,6,10]
def Qa16:SC:=.seq (.block 5 (.seq (.a7 7 [0,1,2,3,4,5,6] ( tJ 72 3 2::mJ 73 1::mJ 74 10::iJ 75 1 73 74::lJ 76 75::aJ 77 Cv [.t 72,.t 76]::Q3p) [1,2,4,6,10,11]) Qa14)) Qa15
def Qawh:SC:=.seq (sR [mJ 66 10,mJ 67 1,nJ 68 67,bJ 69 .lss 66 68] [1,2,4,6,10,69] (cT 69 .skip (.exit 4))) Qa16
def Qa17:SC:=sR [tJ 133 3 6,sJ 3 4 133] [4] .ret
def Q9h:SC:=.seq (sR [zJ 10 0] [1,2,4,6,10] (bL 4 Qawh)) Qa17
def Qa18:SC:=.seq (sR [zJ 7 0] [1,2,4,5,6,7] (bL 0 Qawe)) Q9h
def Qa19:SC:=sR (fJ 21 0 2::lJ 22 21::fJ 23 1 2::lJ 24 23::fI 25 (.bld [.int .i64 0,.int .i64 0,.sl true 5 []] [(0,1,.t 22),(1,1,.t 24)])::eI 6 (.alloc [.int .i64 0,.int .i64 0,.sl true 5 []])::Q9j) [1,2,4,5,6] Qa18
def Qa2a:SC:=sR (fJ 16 2 2::lJ 17 16::nJ 18 17::mJ 19 1::aJ 20 Rv [.t 18,.t 19]::Q9i) [1,2,4,5] Qa19
def Qbo7:SC:=sR [vJ 2 0,eI 4 (.alloc [.int .i64 0,.int .i64 0,.sl true 5 []])] [1,2,4] Qa2a
abbrev O4:List RS:=[.cell 4 3 true]
theorem Qbnq:mFn prog OY 2 134 Qbo7 O4=true:=ZH
def Q88:List Item:=[sJ 3 2 6]
def Q89:List Item:=.chk 3 none (.ld 3 true (.t 1))::aJ 6 OY [.t 3,.t 5]::Q88
def Qbaj:SC:=.seq (.a7 5 [0,1,2,0,3,4] ( tJ 3 3 1::tJ 4 3 1::aJ 5 SQ [.t 4]::Q89) [2]) .ret
def Qbo4:SC:=sR [vJ 1 0,eI 2 (.alloc [.int .i64 0,.int .i64 0,.sl true 5 []])] [1,2] Qbaj
abbrev O5:List RS:=[.cell 2 3 true]
theorem Qbnn:mFn prog Hg 1 7 Qbo4 O5=true:=ZH
def Qpp:List Item:=[mJ 9 20]
def Qpq:List Item:=[mJ 7 54]
def Qah7:SC:=cT 51 (.reg (mJ 52 7::mJ 53 8::aJ 54 Gt [.t 52,.t 53]::Qpq) [1,2,3,7,8,9,10]) .skip
def Qah8:SC:=.reg [mJ 25 10,cJ 26 .add 25 1,mJ 10 26] [1,2,3,7,8,9,10]
def Qah9:SC:=.seq (.block 3 (.seq (.a7 25 [0,1,2,3,4,5,6,7,8,9,10,11,12,13,14,15,16,17,18,19,20,21,22,23,24] ( mJ 27 1::mJ 28 2::iJ 29 1 27 28::lJ 30 29::mJ 31 9::mJ 32 10::iJ 33 1 31 32::lJ 34 33::iJ 35 1 30 34::lJ 36 35::mJ 37 36::gTm 38 37 8::gTm 39 37 2::gT 40 37 (.bin 0 .eql (.t 38) (.t 39))::gTm 41 37 40::gFm 42 41 1::gFm 43 41 2::gF 44 41 (.iad 1 (.t 42) (.t 43))::gFl 45 41 44::gFm 46 41 8::gF 47 41 (.iad 1 (.t 45) (.t 46))::gFl 48 41 47::gF 49 41 (.not (.t 48))::gT 50 37 (.pick (.t 41) (.k (.c (.bool true))) (.t 49))::pF 51 37 50::[]) [1,2,3,7,8,9,10,51]) Qah7)) Qah8
def Qadu:SC:=.seq (sR [mJ 21 10,mJ 22 9,nJ 23 22,bJ 24 .lss 21 23] [1,2,3,7,8,9,10,24] (cT 24 .skip (.exit 2))) Qah9
def Qaia:SC:=sR [zJ 10 0] [1,2,3,7,8,9,10] (bL 2 Qadu)
def Qaib:SC:=.reg [mJ 16 8,cJ 17 .add 16 1,mJ 8 17] [1,2,3,7,8]
def Qaic:SC:=.seq (.block 1 (sR (tJ 18 3 3::mJ 19 8::aJ 20 Cv [.t 18,.t 19]::Qpp) [1,2,3,7,8,9] Qaia)) Qaib
def Qadv:SC:=.seq (sR [mJ 12 8,mJ 13 1,nJ 14 13,bJ 15 .lss 12 14] [1,2,3,7,8,15] (cT 15 .skip (.exit 0))) Qaic
def Qadr:SC:=sR [mJ 55 7,mJ 6 55] [6] .ret
def Qads:SC:=.seq (sR [zJ 8 0] [1,2,3,7,8] (bL 0 Qadv)) Qadr
def Qadt:SC:=sR [fI 11 (.aH 1 []),mJ 7 11] [1,2,3,7] Qads
def Qawv:SC:=sR [vJ 3 0,fI 6 (.mv (.k (.c (.sl true 1 []))))] [1,2,3] Qadt
abbrev Q1x:List RS:=[.tmp 6]
theorem Qauq:mFn prog S9 3 56 Qawv Q1x=true:=ZH
def Qna:List Item:=[mJ 8 15]
def Qnb:List Item:=[oJ 29 28]
def Qnc:List Item:=[mJ 10 33]
def Qnd:List Item:=[cJ 46 .lss 45 0]
def Qne:List Item:=[mJ 7 52]
def Qnf:List Item:=[mJ 8 59]
def Qadw:SC:=.reg (mJ 53 8::mJ 54 10::mJ 55 11::iJ 56 1 54 55::lJ 57 56::fI 58 (.aH 1 [.t 57])::xJ 59 1 53 58::Qnf) [1,3,7,8,10,11]
def Qadx:SC:=cT 46 (sR (mJ 47 7::mJ 48 10::mJ 49 11::iJ 50 1 48 49::lJ 51 50::aJ 52 Gt [.t 47,.t 51]::Qne) [1,3,7,8,10,11] Qadw) .skip
def Qady:SC:=.reg [mJ 38 11,cJ 39 .add 38 1,mJ 11 39] [1,3,7,8,10,11]
def Qadz:SC:=.seq (.block 3 (sR (mJ 40 7::mJ 41 10::mJ 42 11::iJ 43 1 41 42::lJ 44 43::aJ 45 FY [.t 40,.t 44]::Qnd) [1,3,7,8,10,11,46] Qadx)) Qady
def Q3w:SC:=.seq (sR [mJ 34 11,mJ 35 10,nJ 36 35,bJ 37 .lss 34 36] [1,3,7,8,10,11,37] (cT 37 .skip (.exit 2))) Qadz
def Q7o:SC:=sR [zJ 11 0] [1,3,7,8,10,11] (bL 2 Q3w)
def Q7p:SC:=sR (tJ 30 3 3::mJ 31 1::mJ 32 9::aJ 33 S9 [.t 30,.t 31,.t 32]::Qnc) [1,3,7,8,10] Q7o
def Q7q:SC:=.seq (sR (mJ 24 9::mJ 25 1::nJ 26 25::cJ 27 .sub 26 1::aJ 28 AM [.t 24,kI 0,.t 27]::Qnb) [1,3,7,8,9,29] (cT 29 (.exit 1) .skip)) Q7p
def Q7r:SC:=sR [mJ 22 8,fI 23 (.sli 1 (.t 22) (some (kI 1)) none),mJ 8 23] [1,3,7,8,9] Q7q
def Q7s:SC:=.block 1 (sR [mJ 19 8,fI 20 (.iad 1 (.t 19) (kI 0)),lJ 21 20,mJ 9 21] [1,3,7,8,9] Q7r)
def Q3x:SC:=.seq (sR [mJ 16 8,nJ 17 16,cJ 18 .gtr 17 0] [1,3,7,8,18] (cT 18 .skip (.exit 0))) Q7s
def Q7t:SC:=sR [mJ 60 7,mJ 6 60] [6] .ret
def Q7u:SC:=sR (fI 13 (.aH 1 [])::mJ 14 2::xJ 15 1 13 14::Qna) [1,3,7,8] (.seq (bL 0 Q3x) Q7t)
def Q7v:SC:=sR [fI 12 (.aH 1 []),mJ 7 12] [1,2,3,7] Q7u
def Qap4:SC:=sR [vJ 3 0,fI 6 (.mv (.k (.c (.sl true 1 []))))] [1,2,3] Q7v
abbrev Qxd:List RS:=[.tmp 6]
theorem Qanw:mFn prog ST 3 61 Qap4 Qxd=true:=ZH
def Qa3o:SC:=cT 44 (.reg [mJ 45 6,mJ 5 45] [0,3,4,5,6]) .skip
def Qa3p:SC:=.reg [mJ 18 6,cJ 19 .add 18 1,mJ 6 19] [0,3,4,5,6]
def Qa3q:SC:=.seq (.block 3 (sR [mJ 20 6,mJ 21 4,bJ 22 .neq 20 21,mJ 23 22,gTm 24 23 0,gTm 25 23 6,gT 26 23 (.iad 1 (.t 24) (.t 25)),gTl 27 23 26,gTm 28 23 4,gT 29 23 (.iad 1 (.t 27) (.t 28)),gTl 30 23 29,pF 31 23 30,mJ 32 31,gTm 33 32 5,gT 34 32 (.bin 0 .lss (.t 33) (kI 0)),gTm 35 32 34,gFm 36 35 0,gFm 37 35 5,gF 38 35 (.iad 1 (.t 36) (.t 37)),gFl 39 35 38,gFm 40 35 6,gF 41 35 (.iad 1 (.t 39) (.t 40)),gFl 42 35 41,gT 43 32 (.pick (.t 35) (.k (.c (.bool true))) (.t 42)),pF 44 32 43] [0,3,4,5,6,44] Qa3o)) Qa3p
def Qawz:SC:=.seq (sR [mJ 14 6,mJ 15 0,nJ 16 15,bJ 17 .lss 14 16] [0,3,4,5,6,17] (cT 17 .skip (.exit 2))) Qa3q
def Q3y:List Item:=[mJ 3 49]
def Qa3r:SC:=.reg (mJ 46 3::mJ 47 5::fI 48 (.aH 1 [.t 47])::xJ 49 1 46 48::Q3y) [0,3,4]
def Qa3s:SC:=.seq (sR [zJ 6 0] [0,3,4,5,6] (bL 2 Qawz)) Qa3r
def Qa3t:SC:=.reg [mJ 12 4,cJ 13 .add 12 1,mJ 4 13] [0,3,4]
def Qa3u:SC:=.seq (.block 1 (sR [zJ 5 (-1)] [0,3,4,5] Qa3s)) Qa3t
def Qaw0:SC:=.seq (sR [mJ 8 4,mJ 9 0,nJ 10 9,bJ 11 .lss 8 10] [0,3,4,11] (cT 11 .skip (.exit 0))) Qa3u
def Qaww:SC:=sR [mJ 50 3,mJ 2 50] [2] .ret
def Qawx:SC:=.seq (sR [zJ 4 0] [0,3,4] (bL 0 Qaw0)) Qaww
def Qawy:SC:=sR [fI 7 (.aH 1 []),mJ 3 7] [0,3] Qawx
def Qbjn:SC:=sR [fI 2 (.mv (.k (.c (.sl true 1 []))))] [0] Qawy
abbrev Lc:List RS:=[.tmp 2]
theorem Qbis:mFn prog Ru 1 51 Qbjn Lc=true:=ZH
def Q9y:List Item:=[mJ 5 23]
def Qba8:SC:=cT 19 (.reg (mJ 20 5::mJ 21 6::fI 22 (.aH 1 [.t 21])::xJ 23 1 20 22::Q9y) [0,1,5,6]) .skip
def Qba9:SC:=.reg [mJ 12 6,cJ 13 .add 12 1,mJ 6 13] [0,1,5,6]
def Qbba:SC:=.seq (.block 1 (sR [mJ 14 0,mJ 15 6,iJ 16 1 14 15,lJ 17 16,mJ 18 1,bJ 19 .eql 17 18] [0,1,5,6,19] Qba8)) Qba9
def Qa3v:SC:=.seq (sR [mJ 8 6,mJ 9 0,nJ 10 9,bJ 11 .lss 8 10] [0,1,5,6,11] (cT 11 .skip (.exit 0))) Qbba
def Qbbb:SC:=sR [mJ 24 5,mJ 4 24] [4] .ret
def Qbbc:SC:=.seq (sR [zJ 6 0] [0,1,5,6] (bL 0 Qa3v)) Qbbb
def Qbbd:SC:=sR [fI 7 (.aH 1 []),mJ 5 7] [0,1,5] Qbbc
def Qbpb:SC:=sR [fI 4 (.mv (.k (.c (.sl true 1 []))))] [0,1] Qbbd
abbrev O0:List RS:=[.tmp 4]
theorem Qbnu:mFn prog Q53 2 25 Qbpb O0=true:=ZH
def NF:List Item:=[mJ 3 11]
def NE:List Item:=[iJ 50 1 40 41,sJ 1 50 49]
def Qbby:SC:=.reg (mJ 40 3::mJ 41 6::mJ 42 3::mJ 43 6::iJ 44 1 42 43::lJ 45 44::mJ 46 4::fI 47 (.aH 1 [.t 46,kI (-1)])::fI 48 (.aH 1 [.t 47])::xJ 49 1 45 48::NE) [1,3,4,5]
def Qbbz:SC:=.reg [mJ 28 5,cJ 29 .add 28 1,mJ 5 29] [1,3,4,5]
def Qbb0:SC:=.seq (.block 3 (sR [fJ 30 2 1,lJ 31 30,mJ 32 4,iJ 33 5 31 32,fJ 34 0 33,lJ 35 34,mJ 36 5,iJ 37 2 35 36,fJ 38 0 37,lJ 39 38,mJ 6 39] [1,3,4,5,6] Qbby)) Qbbz
def Qa5v:SC:=.seq (sR [mJ 19 5,fJ 20 2 1,lJ 21 20,mJ 22 4,iJ 23 5 21 22,fJ 24 0 23,lJ 25 24,nJ 26 25,bJ 27 .lss 19 26] [1,3,4,5,27] (cT 27 .skip (.exit 2))) Qbb0
def ND:List Item:=[mJ 8 71]
def NB:List Item:=[iJ 85 1 74 75,sJ 1 85 84]
def Qbb1:SC:=cT 73 (.reg (mJ 74 3::mJ 75 8::mJ 76 3::mJ 77 8::iJ 78 1 76 77::lJ 79 78::mJ 80 4::mJ 81 7::fI 82 (.aH 1 [.t 80,.t 81])::fI 83 (.aH 1 [.t 82])::xJ 84 1 79 83::NB) [1,3,4,7]) .skip
def Qbb2:SC:=sR [mJ 72 8,cJ 73 .geq 72 0] [1,3,4,7,8,73] Qbb1
def Qa5n:SC:=.reg [mJ 60 7,cJ 61 .add 60 1,mJ 7 61] [1,3,4,7]
def Qa5o:SC:=.seq (.block 5 (sR (fJ 62 2 1::lJ 63 62::mJ 64 4::iJ 65 5 63 64::fJ 66 1 65::lJ 67 66::mJ 68 7::iJ 69 4 67 68::tJ 70 4 69::aJ 71 P4 [.t 70]::ND) [1,3,4,7,8] Qbb2)) Qa5n
def Qaxz:SC:=.seq (sR [mJ 51 7,fJ 52 2 1,lJ 53 52,mJ 54 4,iJ 55 5 53 54,fJ 56 1 55,lJ 57 56,nJ 58 57,bJ 59 .lss 51 58] [1,3,4,7,59] (cT 59 .skip (.exit 4))) Qa5o
def Qa5p:SC:=sR [zJ 7 0] [1,3,4,7] (bL 4 Qaxz)
def Qa5q:SC:=.reg [mJ 17 4,cJ 18 .add 17 1,mJ 4 18] [1,3,4]
def Qa5r:SC:=.seq (.block 1 (.seq (sR [zJ 5 0] [1,3,4,5] (bL 2 Qa5v)) Qa5p)) Qa5q
def Qax0:SC:=.seq (sR [mJ 12 4,fJ 13 2 1,lJ 14 13,nJ 15 14,bJ 16 .lss 12 15] [1,3,4,16] (cT 16 .skip (.exit 0))) Qa5r
def Qa5s:SC:=sR [mJ 86 3,mJ 2 86] [2] .ret
def Qa5t:SC:=.seq (sR [zJ 4 0] [1,3,4] (bL 0 Qax0)) Qa5s
def Qa5u:SC:=sR (fJ 9 1 1::lJ 10 9::eI 11 (.mks 1 [.sl true 1 []] (.t 10))::NF) [1,3] Qa5t
def Qbpm:SC:=sR [vJ 1 0,fI 2 (.mv (.k (.c (.sl true 1 []))))] [1] Qa5u
abbrev OH:List RS:=[.tmp 2]
theorem Qbn0:mFn prog OU 1 87 Qbpm OH=true:=ZH
def Q30:List Item:=[sJ 3 3 8]
def Q31:List Item:=eI 3 (.alloc [.int .i64 0,.int .i64 0,.sl true 5 []])::Q30
def Q32:List Item:=[fI 11 (.fld 0 1 false (.t 10)),fI 12 (.iad 1 (.t 11) (kI 0)),lJ 13 12,mJ 4 13]
def Q33:List Item:=[mJ 5 32]
def Qa4n:SC:=cT 26 (.reg (mJ 27 5::mJ 28 6::fI 29 (.aH 1 [])::fI 30 (.bld [.int .i64 0,.int .i64 0,.sl true 1 [],.int .i64 0] [(0,1,kI 1),(1,1,.t 28),(2,1,.t 29)])::fI 31 (.aH 4 [.t 30])::xJ 32 4 27 31::Q33) [2,3,4,5,6]) .skip
def Qa4o:SC:=.reg [mJ 21 6,cJ 22 .add 21 1,mJ 6 22] [2,3,4,5,6]
def Qa4p:SC:=.seq (.block 1 (sR [mJ 23 4,mJ 24 6,iJ 25 1 23 24,lJ 26 25] [2,3,4,5,6,26] Qa4n)) Qa4o
def Qaxi:SC:=.seq (sR [mJ 17 6,fJ 18 1 3,lJ 19 18,bJ 20 .lss 17 19] [2,3,4,5,6,20] (cT 20 .skip (.exit 0))) Qa4p
def Q34:List Item:=[hJ 34 33,fI 42 (.iad 5 (.t 34) (kI 0)),fJ 43 1 42,sJ 1 43 41]
def Qa4q:SC:=sR [tJ 44 3 3,sJ 3 2 44] [2] .ret
def Qaxd:SC:=.seq (.a7 12 [0,1,2,3,4,5,6,7,8,1,9,10,11] ( fJ 33 2 3::lJ 34 33::mJ 35 5::fJ 36 2 3::lJ 37 36::fI 38 (.iad 5 (.t 37) (kI 0))::fJ 39 1 38::lJ 40 39::xJ 41 4 35 40::Q34) [2,3]) Qa4q
def Qaxe:SC:=.seq (sR [fJ 15 0 3,lJ 16 15,mJ 6 16] [2,3,4,5,6] (bL 0 Qaxi)) Qaxd
def Qaxf:SC:=sR [fI 14 (.aH 4 []),mJ 5 14] [2,3,4,5] Qaxe
def Qaxg:SC:=sR (tJ 9 3 3::aJ 10 OW [.t 9]::Q32) [2,3,4] Qaxf
def Qaxh:SC:=sR (tJ 7 3 1::aJ 8 Hg [.t 7]::Q31) [2,3] Qaxg
def Qbjo:SC:=sR [vJ 1 0,eI 2 (.alloc [.int .i64 0,.int .i64 0,.sl true 5 []])] [1,2] Qaxh
abbrev Lb:List RS:=[.cell 2 3 true]
theorem Qbit:mFn prog Rt 1 45 Qbjo Lb=true:=ZH
def NM:List Item:=[sJ 3 3 14]
def NL:List Item:=eI 3 (.alloc [.int .i64 0,.int .i64 0,.sl true 5 []])::NM
def NK:List Item:=[mJ 4 16]
def NJ:List Item:=[sJ 2 5 18]
def NI:List Item:=eI 5 (.alloc [.sl true 1 [],.sl true 1 []])::NJ
def NH:List Item:=[mJ 6 20]
def Qbbv:SC:=cT 32 (.reg [fI 33 (.aH 1 [kI 0]),mJ 8 33] [1,2,3,4,5,6,7,8]) .skip
def NG:List Item:=[mJ 8 53]
def Qbbw:SC:=.reg [mJ 41 9,cJ 42 .add 41 1,mJ 9 42] [1,2,3,4,5,6,7,8,9]
def Qbbx:SC:=.seq (.block 3 (.reg (mJ 43 8::mJ 44 6::mJ 45 7::iJ 46 1 44 45::lJ 47 46::mJ 48 9::iJ 49 1 47 48::lJ 50 49::fI 51 (.iad 1 (.t 50) (kI 0))::lJ 52 51::aJ 53 Gt [.t 43,.t 52]::NG) [1,2,3,4,5,6,7,8,9])) Qbbw
def Qaxv:SC:=.seq (sR [mJ 34 9,mJ 35 6,mJ 36 7,iJ 37 1 35 36,lJ 38 37,nJ 39 38,bJ 40 .lss 34 39] [1,2,3,4,5,6,7,8,9,40] (cT 40 .skip (.exit 2))) Qbbx
def Q4g:List Item:=[mJ 10 57]
def Q4h:List Item:=[sJ 2 12 78]
def Q4i:List Item:=[nJ 85 84]
def Q4j:List Item:=[fJ 93 1 12,sJ 1 93 92]
def Qa4w:SC:=.reg [cJ 94 .add 86 1,mJ 86 94] [1,2,3,4,5,6,7,10,11,12,85,86]
def Qa4x:SC:=.seq (.block 7 (.reg (fJ 88 1 12::lJ 89 88::mJ 90 7::fI 91 (.aH 1 [.t 90])::xJ 92 1 89 91::Q4j) [1,2,3,4,5,6,7,10,11,12,85,86])) Qa4w
def Qaxw:SC:=sR [bJ 87 .lss 86 85] [1,2,3,4,5,6,7,10,11,12,85,86,87] (cX 87 6 Qa4x)
def Q4k:List Item:=[hJ 96 95,.chk 99 none (.iad 1 (.t 97) (.t 98)),hJ 100 99,iJ 113 5 96 100,fJ 114 0 113,sJ 1 114 112]
def Q4l:List Item:=hJ 96 95::.chk 99 none (.iad 1 (.t 97) (.t 98))::hJ 100 99::hJ 104 103::.chk 107 none (.iad 1 (.t 105) (.t 106))::hJ 108 107::.chk 109 none (.iad 5 (.t 104) (.t 108))::hJ 111 110::xJ 112 2 102 111::Q4k
def Qa4y:SC:=.a7 21 [0,1,2,3,4,5,6,8,9,10,11,12,13,14,15,16,7,1,4,5,9,12,13,14,16,17,1,4,5,18,19,20] ( fJ 95 2 3::lJ 96 95::mJ 97 10::mJ 98 11::iJ 99 1 97 98::lJ 100 99::tJ 101 2 12::fJ 103 2 3::lJ 104 103::mJ 105 10::mJ 106 11::iJ 107 1 105 106::lJ 108 107::iJ 109 5 104 108::fJ 110 0 109::lJ 111 110::eI 102 (.bslm 2 [.t 101])::Q4l) [1,2,3,4,5,6,7,10,11]
def Qa4z:SC:=.seq (.seq (.a7 8 [0,1,2,3,4,7,5,6] ( tJ 79 3 1::mJ 80 10::mJ 81 11::iJ 82 1 80 81::lJ 83 82::zJ 86 0::aJ 84 Cv [.t 79,.t 83]::Q4i) [1,2,3,4,5,6,7,10,11,12,85,86]) (bL 6 Qaxw)) Qa4y
def Qa40:SC:=sR (mJ 76 7::fI 77 (.aH 1 [])::fI 78 (.bld [.int .i64 0,.sl true 1 []] [(0,1,.t 76),(1,1,.t 77)])::eI 12 (.alloc [.int .i64 0,.sl true 1 []])::Q4h) [1,2,3,4,5,6,7,10,11,12] Qa4z
def Qa41:SC:=.reg [mJ 62 11,cJ 63 .add 62 1,mJ 11 63] [1,2,3,4,5,6,7,10,11]
def Qa42:SC:=.seq (.block 5 (.seq (.seq (.a7 12 [0,1,2,3,4,5,6,7,8,9,10,11] ( fJ 64 0 5::lJ 65 64::mJ 66 10::mJ 67 11::iJ 68 1 66 67::lJ 69 68::iJ 70 1 65 69::lJ 71 70::mJ 72 7::iJ 73 1 71 72::lJ 74 73::oJ 75 74::[]) [1,2,3,4,5,6,7,10,11,75]) (cT 75 (.exit 5) .skip)) Qa40)) Qa41
def Qaxx:SC:=.seq (sR [mJ 58 11,mJ 59 10,nJ 60 59,bJ 61 .lss 58 60] [1,2,3,4,5,6,7,10,11,61] (cT 61 .skip (.exit 4))) Qa42
def Qa43:SC:=sR [zJ 11 0] [1,2,3,4,5,6,7,10,11] (bL 4 Qaxx)
def Qa44:SC:=sR (tJ 54 3 1::mJ 55 4::mJ 56 8::aJ 57 ST [.t 54,.t 55,.t 56]::Q4g) [1,2,3,4,5,6,7,10] Qa43
def Qa45:SC:=.seq (sR [zJ 9 0] [1,2,3,4,5,6,7,8,9] (bL 2 Qaxv)) Qa44
def Qa46:SC:=.seq (sR [mJ 29 7,fJ 30 0 1,lJ 31 30,bJ 32 .lss 29 31] [1,2,3,4,5,6,7,8,32] Qbbv) Qa45
def Qa47:SC:=.reg [mJ 26 7,cJ 27 .sub 26 1,mJ 7 27] [1,2,3,4,5,6,7]
def Qa48:SC:=.seq (.block 1 (sR [fI 28 (.aH 1 []),mJ 8 28] [1,2,3,4,5,6,7,8] Qa46)) Qa47
def Qaxy:SC:=.seq (sR [mJ 24 7,cJ 25 .geq 24 0] [1,2,3,4,5,6,7,25] (cT 25 .skip (.exit 0))) Qa48
def Qa49:SC:=sR [tJ 115 3 3,sJ 3 2 115] [2] .ret
def Qa5a:SC:=.seq (sR [fJ 21 1 1,lJ 22 21,cJ 23 .sub 22 1,mJ 7 23] [1,2,3,4,5,6,7] (bL 0 Qaxy)) Qa49
def Qa5b:SC:=sR (tJ 19 3 1::aJ 20 OU [.t 19]::NH) [1,2,3,4,5,6] Qa5a
def Qa5c:SC:=sR (tJ 17 3 1::aJ 18 OW [.t 17]::NI) [1,2,3,4,5] Qa5b
def Qa5d:SC:=sR (tJ 15 3 1::aJ 16 Hf [.t 15]::NK) [1,2,3,4] Qa5c
def Qa5e:SC:=sR (tJ 13 3 1::aJ 14 Gh [.t 13]::NL) [1,2,3] Qa5d
def Qbpl:SC:=sR [vJ 1 0,eI 2 (.alloc [.int .i64 0,.int .i64 0,.sl true 5 []])] [1,2] Qa5e
abbrev Ox:List RS:=[.cell 2 3 true]
theorem Qbnz:mFn prog Q57 1 116 Qbpl Ox=true:=ZH
def Q4e:SC:=sR [mJ 11 0,kJ 12 11,fJ 13 7 12,lJ 14 13,cJ 15 .sub 14 1,mJ 2 15] [2] .ret
def Q4f:SC:=sR [mJ 3 0,mJ 4 0,kJ 5 4,fJ 6 7 5,lJ 7 6,cJ 8 .add 7 1,kJ 9 3,fJ 10 7 9,sJ 1 10 8] [0] Q4e
def Qad1:SC:=sR [zJ 2 0] [0] Q4f
abbrev Qpb:List RS:=[.tmp 2]
theorem Qab6:mFn prog PQ 1 16 Qad1 Qpb=true:=ZH
def Qja:List Item:=[hJ 37 36,iJ 41 2 37 38,fJ 42 0 41,sJ 1 42 40]
def Q38:SC:=.reg [mJ 32 7,cJ 33 .add 32 1,mJ 7 33] [0,1,2,6,7]
def Q39:SC:=.seq (.block 1 (.a7 10 [0,1,2,3,4,5,6,3,7,8,9] ( mJ 34 6::kJ 35 34::fJ 36 0 35::lJ 37 36::mJ 38 7::mJ 39 0::aJ 40 PQ [.t 39]::Qja) [0,1,2,6,7])) Q38
def Q0m:SC:=.seq (sR [mJ 25 7,mJ 26 6,kJ 27 26,fJ 28 0 27,lJ 29 28,nJ 30 29,bJ 31 .lss 25 30] [0,1,2,6,7,31] (cT 31 .skip (.exit 0))) Q39
def Q4a:SC:=.reg [mJ 50 8,cJ 51 .add 50 1,mJ 8 51] [0,1,2,6,8]
def Q4b:SC:=.seq (.block 3 (.a7 24 [0,1,2,3,4,5,6,7,8,9,10,11,12,13,14,15,16,17,18,19,20,21,22,23] ( mJ 52 2::mJ 53 0::kJ 54 53::fJ 55 0 54::fJ 56 2 55::lJ 57 56::mJ 58 1::iJ 59 5 57 58::fJ 60 0 59::lJ 61 60::mJ 62 8::iJ 63 2 61 62::fJ 64 0 63::lJ 65 64::mJ 66 6::kJ 67 66::fJ 68 0 67::lJ 69 68::mJ 70 8::iJ 71 2 69 70::fJ 72 0 71::lJ 73 72::iJ 74 1 52 65::sJ 1 74 73::[]) [0,1,2,6,8])) Q4a
def Q0n:SC:=.seq (sR [mJ 43 8,mJ 44 6,kJ 45 44,fJ 46 0 45,lJ 47 46,nJ 48 47,bJ 49 .lss 43 48] [0,1,2,6,8,49] (cT 49 .skip (.exit 2))) Q4b
def Q4c:SC:=.reg [mJ 95 10,cJ 96 .add 95 1,mJ 10 96] [0,1,2,6,9,10]
def Q4d:SC:=.seq (.block 7 (.a7 25 [0,1,2,3,4,5,6,7,8,9,10,11,12,13,14,15,16,17,18,19,20,21,22,23,24] ( mJ 97 6::kJ 98 97::fJ 99 1 98::lJ 100 99::mJ 101 9::iJ 102 4 100 101::fJ 103 2 102::lJ 104 103::mJ 105 10::mJ 106 2::mJ 107 6::kJ 108 107::fJ 109 1 108::lJ 110 109::mJ 111 9::iJ 112 4 110 111::fJ 113 2 112::lJ 114 113::mJ 115 10::iJ 116 1 114 115::lJ 117 116::iJ 118 1 106 117::lJ 119 118::iJ 120 1 104 105::sJ 1 120 119::[]) [0,1,2,6,9,10])) Q4c
def Q0o:SC:=.seq (sR [mJ 84 10,mJ 85 6,kJ 86 85,fJ 87 1 86,lJ 88 87,mJ 89 9,iJ 90 4 88 89,fJ 91 2 90,lJ 92 91,nJ 93 92,bJ 94 .lss 84 93] [0,1,2,6,9,10,94] (cT 94 .skip (.exit 6))) Q4d
def Qg1:List Item:=[mJ 11 131]
def Qz6:SC:=.reg [mJ 143 6,kJ 144 143,fJ 145 1 144,lJ 146 145,mJ 147 9,mJ 148 11,iJ 149 4 146 147,fJ 150 1 149,sJ 1 150 148] [0,1,2,6,9]
def Qz7:SC:=sR [mJ 132 2,mJ 133 6,kJ 134 133,fJ 135 1 134,lJ 136 135,mJ 137 9,iJ 138 4 136 137,fJ 139 1 138,lJ 140 139,mJ 141 11,iJ 142 1 132 140,sJ 1 142 141] [0,1,2,6,9,11] Qz6
def Qz8:SC:=cT 129 (sR (mJ 130 0::aJ 131 PQ [.t 130]::Qg1) [0,1,2,6,9,11] Qz7) .skip
def Qz9:SC:=sR [mJ 121 6,kJ 122 121,fJ 123 1 122,lJ 124 123,mJ 125 9,iJ 126 4 124 125,fJ 127 0 126,lJ 128 127,aJ 129 Eh [.t 128]] [0,1,2,6,9,129] Qz8
def Q0a:SC:=.reg [mJ 82 9,cJ 83 .add 82 1,mJ 9 83] [0,1,2,6,9]
def Q0b:SC:=.seq (.block 5 (.seq (sR [zJ 10 0] [0,1,2,6,9,10] (bL 6 Q0o)) Qz9)) Q0a
def Qwi:SC:=.seq (sR [mJ 75 9,mJ 76 6,kJ 77 76,fJ 78 1 77,lJ 79 78,nJ 80 79,bJ 81 .lss 75 80] [0,1,2,6,9,81] (cT 81 .skip (.exit 4))) Q0b
def Q0c:SC:=cT 155 (.reg [mJ 156 6,mJ 157 2,mJ 158 6,kJ 159 158,fJ 160 3 159,lJ 161 160,iJ 162 1 157 161,lJ 163 162,kJ 164 156,fJ 165 3 164,sJ 1 165 163] [0,1,2,6]) .skip
def Qg2:List Item:=[mJ 14 189]
def Qg3:List Item:=mJ 188 1::aJ 189 FY [.t 187,.t 188]::Qg2
def Q0d:SC:=.reg [mJ 202 15,cJ 203 .add 202 1,mJ 15 203] [0,1,2,6,12,13,14,15]
def Q0e:SC:=.seq (.block 11 (.a7 35 [0,1,2,3,4,5,6,7,8,9,10,11,12,13,14,15,16,17,18,19,20,21,22,23,24,25,26,27,28,29,30,31,32,33,34] ( mJ 204 0::kJ 205 204::fJ 206 3 205::fJ 207 2 206::lJ 208 207::mJ 209 13::iJ 210 5 208 209::fJ 211 0 210::lJ 212 211::mJ 213 15::iJ 214 2 212 213::fJ 215 1 214::lJ 216 215::mJ 217 14::mJ 218 2::mJ 219 0::kJ 220 219::fJ 221 0 220::fJ 222 2 221::lJ 223 222::mJ 224 13::iJ 225 5 223 224::fJ 226 0 225::lJ 227 226::mJ 228 15::iJ 229 2 227 228::fJ 230 1 229::lJ 231 230::mJ 232 14::iJ 233 1 231 232::lJ 234 233::iJ 235 1 218 234::lJ 236 235::iJ 237 1 216 217::sJ 1 237 236::[]) [0,1,2,6,12,13,14,15])) Q0d
def Qwj:SC:=.seq (sR [mJ 190 15,mJ 191 0,kJ 192 191,fJ 193 0 192,fJ 194 2 193,lJ 195 194,mJ 196 13,iJ 197 5 195 196,fJ 198 0 197,lJ 199 198,nJ 200 199,bJ 201 .lss 190 200] [0,1,2,6,12,13,14,15,201] (cT 201 .skip (.exit 10))) Q0e
def Q0f:SC:=sR [zJ 15 0] [0,1,2,6,12,13,14,15] (bL 10 Qwj)
def Q0g:SC:=sR (mJ 182 0::kJ 183 182::fJ 184 0 183::tJ 185 3 184::mJ 186 13::aJ 187 Cv [.t 185,.t 186]::Qg3) [0,1,2,6,12,13,14] Q0f
def Q0h:SC:=.reg [mJ 173 12,cJ 174 .add 173 1,mJ 12 174] [0,1,2,6,12]
def Q0i:SC:=.seq (.block 9 (sR [mJ 175 6,kJ 176 175,fJ 177 4 176,lJ 178 177,mJ 179 12,iJ 180 1 178 179,lJ 181 180,mJ 13 181] [0,1,2,6,12,13] Q0g)) Q0h
def Qwk:SC:=.seq (sR [mJ 166 12,mJ 167 6,kJ 168 167,fJ 169 4 168,lJ 170 169,nJ 171 170,bJ 172 .lss 166 171] [0,1,2,6,12,172] (cT 172 .skip (.exit 8))) Q0i
def Qg4:List Item:=[mJ 16 243]
def Qg5:List Item:=[.chk 253 none (.iad 1 (.t 251) (.t 252)),hJ 254 253,aJ 258 PS [.t 250,.t 254,.t 257]]
def Q0j:SC:=.reg [mJ 248 17,cJ 249 .add 248 1,mJ 17 249] [0,2,16,17]
def Q0k:SC:=.seq (.block 13 (.a7 9 [0,1,2,3,4,5,6,7,3,4,8] ( mJ 250 0::mJ 251 16::mJ 252 17::iJ 253 1 251 252::lJ 254 253::fI 255 (.aH 1 [])::mJ 256 2::xJ 257 1 255 256::Qg5) [0,2,16,17])) Q0j
def Qwl:SC:=.seq (sR [mJ 244 17,mJ 245 16,nJ 246 245,bJ 247 .lss 244 246] [0,2,16,17,247] (cT 247 .skip (.exit 12))) Q0k
def Q0l:SC:=sR [zJ 17 0] [0,2,16,17] (bL 12 Qwl)
def Qi8:SC:=sR (mJ 238 0::kJ 239 238::fJ 240 6 239::lJ 241 240::mJ 242 1::aJ 243 Q53 [.t 241,.t 242]::Qg4) [0,2,16] Q0l
def Tz:SC:=.seq (sR [zJ 12 0] [0,1,2,6,12] (bL 8 Qwk)) Qi8
def Tx:SC:=.seq (sR [mJ 151 6,kJ 152 151,fJ 153 2 152,lJ 154 153,cJ 155 .neq 154 1] [0,1,2,6,155] Q0c) Tz
def Tw:SC:=.seq (sR [zJ 9 0] [0,1,2,6,9] (bL 4 Qwi)) Tx
def Tv:SC:=.seq (sR [zJ 8 0] [0,1,2,6,8] (bL 2 Q0n)) Tw
def Qi9:SC:=.seq (sR [zJ 7 0] [0,1,2,6,7] (bL 0 Q0m)) Tv
def Qad0:SC:=sR [mJ 18 0,kJ 19 18,fJ 20 3 19,fJ 21 2 20,lJ 22 21,mJ 23 1,iJ 24 5 22 23,mJ 6 24] [0,1,2,6] Qi9
abbrev Qpa:List RS:=[]
theorem Qab5:mFn prog PS 3 259 Qad0 Qpa=true:=ZH
def Qyh:List Item:=[sJ 3 3 9]
def Qyi:List Item:=eI 3 (.alloc [.int .i64 0,.int .i64 0,.sl true 5 []])::Qyh
def Qyj:List Item:=aJ 9 Q57 [.t 8]::Qyi
def Qyk:List Item:=[mJ 4 19]
def Qyl:List Item:=.chk 10 none (.ld 3 true (.t 3))::hJ 17 16::fI 18 (.bld [.int .i64 0,.int .i64 0,.sl true 5 [],.int .i64 0,.int .i64 0,.sl true 5 [],.sl true 1 [],.int .i64 0] [(0,3,.t 10),(3,3,.t 12),(6,1,.t 15),(7,1,.t 17)])::eI 19 (.boxm (.t 18))::Qyk
def Qym:List Item:=.chk 10 none (.ld 3 true (.t 3))::hJ 17 16::aJ 15 Ru [.t 14]::Qyl
def Qyn:List Item:=.chk 10 none (.ld 3 true (.t 3))::.chk 13 none (.ld 3 true (.t 3))::hJ 17 16::aJ 14 Hf [.t 13]::Qym
def Qyo:List Item:=[mJ 5 22]
def Qax1:SC:=.reg [mJ 27 6,cJ 28 .add 27 1,mJ 6 28] [1,2,4,5,6]
def Qax2:SC:=.seq (.block 1 (.reg [mJ 29 5,mJ 30 6,mJ 31 6,iJ 32 1 29 30,sJ 1 32 31] [1,2,4,5,6])) Qax1
def Qaif:SC:=.seq (sR [mJ 23 6,fJ 24 0 1,lJ 25 24,bJ 26 .lss 23 25] [1,2,4,5,6,26] (cT 26 .skip (.exit 0))) Qax2
def Qaqf:SC:=sR [mJ 44 4,kJ 45 44,fJ 46 3 45,tJ 47 3 46,sJ 3 2 47] [2] .ret
def Qaqg:SC:=sR [mJ 36 4,mJ 37 4,kJ 38 37,fJ 39 7 38,lJ 40 39,kJ 41 36,fJ 42 3 41,fJ 43 1 42,sJ 1 43 40] [2,4] Qaqf
def Qaqh:SC:=sR [mJ 33 4,mJ 34 5,aJ 35 PS [.t 33,kI 0,.t 34]] [2,4] Qaqg
def Qaqi:SC:=.seq (sR [zJ 6 0] [1,2,4,5,6] (bL 0 Qaif)) Qaqh
def Qaqj:SC:=sR (fJ 20 1 3::lJ 21 20::eI 22 (.mks 1 [.int .i64 0] (.t 21))::Qyo) [1,2,4,5] Qaqi
def Qaqk:SC:=.seq (.a7 11 [0,1,3,6,7,2,0,3,7,4,0,7,5,0,7,8,9,10] ( tJ 10 3 3::tJ 11 3 3::tJ 13 3 3::fJ 16 0 1::lJ 17 16::aJ 12 Gh [.t 11]::Qyn) [1,2,3,4]) Qaqj
def Qaql:SC:=sR (tJ 7 3 1::aJ 8 Rt [.t 7]::Qyj) [1,2,3] Qaqk
def Qbb3:SC:=sR [vJ 1 0,eI 2 (.alloc [.int .i64 0,.int .i64 0,.sl true 5 []])] [1,2] Qaql
abbrev MO:List RS:=[.cell 2 3 true]
theorem Qa9h:mFn prog RB 1 48 Qbb3 MO=true:=ZH
def Qa2x:List Item:=[sJ 3 4 9]
def Qa2y:List Item:=[sJ 3 4 15]
def Qa2z:List Item:=.chk 12 none (.ld 3 true (.t 2))::aJ 15 OY [.t 12,.t 14]::Qa2y
def Qa20:List Item:=[sJ 3 4 19]
def Qa21:List Item:=[sJ 3 4 23]
def Q9n:List Item:=[sJ 3 4 27]
def Qa22:List Item:=[sJ 3 4 31]
def Qa23:List Item:=[sJ 3 4 35]
def Qa24:List Item:=[sJ 3 4 39]
def Qa25:List Item:=[sJ 3 4 43]
def Qawq:List Item:=[sJ 3 4 47]
def Qawr:List Item:=[sJ 3 4 51]
def Qa2j:SC:=cT 48 (sR (tJ 50 3 2::aJ 51 Qbh4 [.t 50]::Qawr) [4] .ret) .skip
def Qa2k:SC:=cT 44 (sR (tJ 46 3 2::aJ 47 Qbh5 [.t 46]::Qawq) [4] .ret) (sR [fI 49 (.bin 0 .eql (.t 5) (.k (.c (.str [106,111,105,110])))),mJ 48 49] [2,4,48] Qa2j)
def Qa2l:SC:=cT 40 (sR (tJ 42 3 2::aJ 43 Qbh3 [.t 42]::Qa25) [4] .ret) (sR [fI 45 (.bin 0 .eql (.t 5) (.k (.c (.str [115,107,105,112])))),mJ 44 45] [2,4,5,44] Qa2k)
def Qa2m:SC:=cT 36 (sR (tJ 38 3 2::aJ 39 Qa8j [.t 38]::Qa24) [4] .ret) (sR [fI 41 (.bin 0 .eql (.t 5) (.k (.c (.str [101,118,101,110])))),mJ 40 41] [2,4,5,40] Qa2l)
def Qa2n:SC:=cT 32 (sR (tJ 34 3 2::aJ 35 Qa8i [.t 34]::Qa23) [4] .ret) (sR [fI 37 (.bin 0 .eql (.t 5) (.k (.c (.str [104,111,105,115,116])))),mJ 36 37] [2,4,5,36] Qa2m)
def Qa2o:SC:=cT 28 (sR (tJ 30 3 2::aJ 31 Qbmn [.t 30]::Qa22) [4] .ret) (sR [fI 33 (.bin 0 .eql (.t 5) (.k (.c (.str [115,104,97,114,101])))),mJ 32 33] [2,4,5,32] Qa2n)
def Qa2p:SC:=cT 24 (sR (tJ 26 3 2::aJ 27 RB [.t 26]::Q9n) [4] .ret) (sR [fI 29 (.bin 0 .eql (.t 5) (.k (.c (.str [107,110,111,119,110])))),mJ 28 29] [2,4,5,28] Qa2o)
def Qa2q:SC:=cT 20 (sR (tJ 22 3 2::aJ 23 Qbh2 [.t 22]::Qa21) [4] .ret) (sR [fI 25 (.bin 0 .eql (.t 5) (.k (.c (.str [115,105,110,103,108,101])))),mJ 24 25] [2,4,5,24] Qa2p)
def Qa2r:SC:=cT 16 (sR (tJ 18 3 2::aJ 19 Qa8h [.t 18]::Qa20) [4] .ret) (sR [fI 21 (.bin 0 .eql (.t 5) (.k (.c (.str [105,100,108,101])))),mJ 20 21] [2,4,5,20] Qa2q)
def Qa2s:SC:=cT 10 (.seq (.a7 5 [0,1,2,0,3,4] ( tJ 12 3 2::tJ 13 3 2::aJ 14 El [.t 13]::Qa2z) [4]) .ret) (sR [fI 17 (.bin 0 .eql (.t 5) (.k (.c (.str [115,112,108,105,116])))),mJ 16 17] [2,4,5,16] Qa2r)
def Qa2t:SC:=cT 6 (sR (tJ 8 3 2::aJ 9 Hg [.t 8]::Qa2x) [4] .ret) (sR [fI 11 (.bin 0 .eql (.t 5) (.k (.c (.str [111,114,100,101,114])))),mJ 10 11] [2,4,5,10] Qa2s)
def Qa2u:SC:=.block 0 (sR [fI 7 (.bin 0 .eql (.t 5) (.k (.c (.str [114,101,97,99,104])))),mJ 6 7] [2,4,5,6] Qa2t)
def Qaws:List Item:=[sJ 3 4 53]
def Qa2v:SC:=sR (tJ 52 3 2::aJ 53 Qa8k [.t 52]::Qaws) [4] .ret
def Qa2w:SC:=.seq (sR [mJ 5 1] [2,4,5] Qa2u) Qa2v
def Qbo8:SC:=sR [vJ 2 0,eI 4 (.alloc [.int .i64 0,.int .i64 0,.sl true 5 []])] [1,2,4] Qa2w
abbrev O3:List RS:=[.cell 4 3 true]
theorem Qbnr:mFn prog Q52 2 54 Qbo8 O3=true:=ZH
def Q9a:List Item:=[fB 5 false]
def Q9b:List Item:=[oJ 10 9]
def Q9c:List Item:=[fB 5 false]
def Qbak:SC:=cT 10 (sR (fI 11 (.bld [.sl true 3 []] [])::sJ 1 4 11::Q9c) [4,5] .ret) .skip
def Q9d:List Item:=[sJ 1 6 12]
def Q9e:List Item:=[fJ 31 0 6,sJ 1 31 30]
def Q9f:List Item:=hJ 21 20::fI 29 (.aH 3 [.t 28])::xJ 30 3 21 29::Q9e
def Qbal:SC:=.reg [mJ 18 7,cJ 19 .add 18 1,mJ 7 19] [1,2,4,6,7]
def Qbam:SC:=.seq (.block 1 (.a7 13 [0,1,2,3,4,5,6,7,8,1,9,10,11,12] ( fJ 20 0 6::lJ 21 20::fJ 22 0 2::lJ 23 22::mJ 24 7::iJ 25 3 23 24::tJ 26 3 25::mJ 27 1::aJ 28 Q52 [.t 26,.t 27]::Q9f) [1,2,4,6,7])) Qbal
def Qa1m:SC:=.seq (sR [mJ 13 7,fJ 14 0 2,lJ 15 14,nJ 16 15,bJ 17 .lss 13 16] [1,2,4,6,7,17] (cT 17 .skip (.exit 0))) Qbam
def Q3j:List Item:=[oJ 34 33]
def Q3k:List Item:=[fB 5 false]
def Qa1g:SC:=cT 34 (sR (fI 35 (.bld [.sl true 3 []] [])::sJ 1 4 35::Q3k) [4,5] .ret) .skip
def Q3l:List Item:=[fB 5 true]
def Qa1h:SC:=sR (tJ 36 1 6::sJ 1 4 36::Q3l) [4,5] .ret
def Qa1i:SC:=.seq .gh (.seq (sR (tJ 32 1 6::aJ 33 DY [.t 32]::Q3j) [4,6,34] Qa1g) Qa1h)
def Qa1j:SC:=.seq (sR [zJ 7 0] [1,2,4,6,7] (bL 0 Qa1m)) Qa1i
def Qa1k:SC:=sR (fI 12 (.bld [.sl true 3 []] [])::eI 6 (.alloc [.sl true 3 []])::Q9d) [1,2,4,6] Qa1j
def Qa1l:SC:=.seq (sR (tJ 8 1 2::aJ 9 DY [.t 8]::Q9b) [1,2,4,10] Qbak) Qa1k
def Qbo5:SC:=sR (vJ 2 0::eI 4 (.alloc [.sl true 3 []])::Q9a) [1,2,4] Qa1l
abbrev Rc:List RS:=[.cell 4 1 true,.tmp 5]
theorem Qbno:mFn prog Q50 2 37 Qbo5 Rc=true:=ZH
def Qkw:List Item:=[fB 3 false]
def Qkx:List Item:=[mJ 3 7]
def Qky:List Item:=fI 6 (.ext (.t 5) 0)::fI 7 (.ext (.t 5) 1)::sJ 1 2 6::Qkx
def Q8c:SC:=sR (tJ 4 1 1::eI 5 (.call Q50 [.t 4,.k (.c (.str [115,105,110,103,108,101]))])::Qky) [2,3] .ret
def Qam6:SC:=sR (vJ 1 0::eI 2 (.alloc [.sl true 3 []])::Qkw) [1,2] Q8c
abbrev Qs7:List RS:=[.cell 2 1 true,.tmp 3]
theorem Qagf:mFn prog Tg 1 8 Qam6 Qs7=true:=ZH
def NQ:List Item:=[mJ 4 10]
def NP:List Item:=sJ 1 3 9::NQ
def NO:List Item:=mJ 5 8::fI 9 (.ext (.t 5) 0)::fI 10 (.ext (.t 5) 1)::eI 3 (.alloc [.sl true 3 []])::NP
def NN:List Item:=aJ 8 Tg [.t 7]::NO
def Qbbq:SC:=cT 12 (sR [fI 13 (.aH 1 []),fI 14 (.bld [.int .i64 0,.int .i64 0,.sl true 1 [],.int .i64 0] [(0,1,kI 1),(2,1,.t 13)]),fI 15 (.aH 4 [.t 14]),fI 16 (.bld [.sl true 2 [],.sl true 4 [],.int .i64 0,.int .i64 0,.sl true 1 []] [(1,1,.t 15),(2,1,kI 3)]),fI 17 (.aH 5 [.t 16]),fI 18 (.bld [.int .i64 0,.int .i64 0,.sl true 5 []] [(1,1,kI 1),(2,1,.t 17)]),fI 19 (.aH 3 [.t 18]),fI 20 (.bld [.sl true 3 []] [(0,1,.t 19)]),sJ 1 2 20] [2] .ret) .skip
def Qbbr:SC:=sR [tJ 21 1 3,sJ 1 2 21] [2] .ret
def Qbbs:SC:=.seq (sR [mJ 11 4,oJ 12 11] [2,3,12] Qbbq) Qbbr
def Qbbt:SC:=sR (mJ 6 0::aJ 7 OX [.t 6]::NN) [2,3,4] Qbbs
def Qbpf:SC:=sR [eI 2 (.alloc [.sl true 3 []])] [0,2] Qbbt
abbrev Fu:List RS:=[.cell 2 1 true]
theorem Qbny:mFn prog Q56 1 22 Qbpf Fu=true:=ZH
def Q97:List Item:=[cJ 5 .eql 4 0]
def Q98:List Item:=[sJ 1 2 7]
def Qbbn:SC:=cT 5 (sR (mJ 6 0::aJ 7 Q5z [.t 6]::Q98) [2] .ret) .skip
def Q99:List Item:=[sJ 1 2 9]
def Qbbo:SC:=sR (mJ 8 0::aJ 9 Q56 [.t 8]::Q99) [2] .ret
def Qbbp:SC:=.seq (sR (mJ 3 0::aJ 4 Qr [.t 3,kI 8]::Q97) [0,2,5] Qbbn) Qbbo
def Qbpe:SC:=sR [eI 2 (.alloc [.sl true 3 []])] [0,2] Qbbp
abbrev Fv:List RS:=[.cell 2 1 true]
theorem Qbnx:mFn prog Q55 1 10 Qbpe Fv=true:=ZH
def Qpd:List Item:=[oJ 11 10]
def Qahk:SC:=cT 11 (sR [fI 6 (.mv (.k (.c (.sl true 1 []))))] [6] .ret) .skip
def Qpe:List Item:=[mJ 6 21]
def Qpf:List Item:=mJ 18 2::iJ 19 1 17 18::lJ 20 19::eI 21 (.call TI [.t 20,.k (.c (.fn Hy []))])::Qpe
def Qahl:SC:=sR (fJ 12 0 3::lJ 13 12::mJ 14 1::iJ 15 3 13 14::tJ 16 3 15::aJ 17 PJ [.t 16]::Qpf) [6] .ret
def Qahm:SC:=.seq (sR (tJ 7 1 3::mJ 8 1::mJ 9 2::aJ 10 Pl [.t 7,.t 8,.t 9]::Qpd) [1,2,3,11] Qahk) Qahl
def Qavd:SC:=sR [vJ 3 0,fI 6 (.mv (.k (.c (.sl true 1 []))))] [1,2,3] Qahm
abbrev Sc:List RS:=[.tmp 6]
theorem Qaul:mFn prog SB 3 22 Qavd Sc=true:=ZH
def RT:List Item:=[pF 20 10 19,mJ 6 20]
def Q2p:List Item:=mJ 10 9::gTm 11 10 2::gTf 12 10 0 3::gTl 13 10 12::gTm 14 10 1::gT 15 10 (.iad 3 (.t 13) (.t 14))::gTf 16 10 1 15::gTl 17 10 16::gT 18 10 (.bin 0 .sub (.t 17) (kI 1))::.e (some 19) (some (10,true)) (.call B3 [.t 11,kI 0,.t 18])::RT
def Qa1f:SC:=sR (tJ 7 1 3::mJ 8 1::aJ 9 Py [.t 7,.t 8]::Q2p) [6] .ret
def Qbji:SC:=sR [vJ 3 0,fB 6 false] [1,2,3] Qa1f
abbrev Q6r:List RS:=[.tmp 6]
theorem Qbio:mFn prog Pl 3 21 Qbji Q6r=true:=ZH
def Qd4:List Item:=[sJ 2 7 13]
def Qd5:List Item:=[mJ 5 19]
def Qd6:List Item:=fI 18 (.aH 1 [.t 17])::xJ 19 1 14 18::Qd5
def Qm2:SC:=.reg (mJ 14 5::mJ 15 1::tJ 16 2 7::eI 17 (.bB (.t 15) [.t 16])::Qd6) [1,5,8,9,10]
def Qm3:SC:=.reg [cJ 20 .add 10 1,mJ 10 20] [1,5,8,9,10]
def Qm4:SC:=.seq (.block 1 (sR (iJ 12 2 8 10::tJ 13 2 12::eI 7 (.alloc [.int .i64 0,.int .i64 0])::Qd4) [1,5,7,8,9,10] Qm2)) Qm3
def Qlm:SC:=sR [bJ 11 .lss 10 9] [1,5,8,9,10,11] (cX 11 0 Qm4)
def Qm5:SC:=sR [mJ 21 5,mJ 4 21] [4] .ret
def Qm6:SC:=.seq (sR [mJ 8 0,nJ 9 8,zJ 10 0] [1,5,8,9,10] (bL 0 Qlm)) Qm5
def Qm7:SC:=sR [fI 5 (.mv (.k (.c (.sl true 1 []))))] [0,1,5] Qm6
def Qqz:SC:=sR [fI 4 (.mv (.k (.c (.sl true 1 []))))] [0,1] Qm7
abbrev Qfh:List RS:=[.tmp 4]
theorem Qqw:mFn prog TI 2 22 Qqz Qfh=true:=ZH
def Qpj:List Item:=[mJ 3 13]
def Qpk:List Item:=[mJ 4 19,sJ 5 5 21]
def Qpl:List Item:=[sJ 2 7 28]
def Qpm:List Item:=[hJ 31 30,iJ 41 1 29 31,sJ 1 41 40]
def Qah1:SC:=.a7 14 [0,1,2,3,4,5,6,7,8,9,10,11,2,12,13] ( mJ 29 3::fJ 30 0 7::lJ 31 30::mJ 32 3::fJ 33 0 7::lJ 34 33::iJ 35 1 32 34::lJ 36 35::mJ 37 4::fI 38 (.bld [.int .i64 0,.int .i64 0] [(0,1,.t 37),(1,1,kI (-1))])::fI 39 (.aH 2 [.t 38])::xJ 40 2 36 39::Qpm) [3,4,5,15,16,17,23,24,25]
def Qah2:SC:=.reg [cJ 42 .add 25 1,mJ 25 42] [3,4,5,15,16,17,23,24,25]
def Qah3:SC:=.seq (.block 3 (sR (iJ 27 2 23 25::tJ 28 2 27::eI 7 (.alloc [.int .i64 0,.sl true 1 []])::Qpl) [3,4,5,7,15,16,17,23,24,25] Qah1)) Qah2
def Qadg:SC:=sR [bJ 26 .lss 25 24] [3,4,5,15,16,17,23,24,25,26] (cX 26 2 Qah3)
def Qpn:List Item:=[mJ 8 48,sJ 4 9 50]
def Qpo:List Item:=[mJ 10 52]
def Qm8:List Item:=[iJ 66 1 55 56,sJ 1 66 65]
def Qac4:SC:=cT 54 (.reg (mJ 55 3::mJ 56 10::mJ 57 3::mJ 58 10::iJ 59 1 57 58::lJ 60 59::mJ 61 4::mJ 62 8::fI 63 (.bld [.int .i64 0,.int .i64 0] [(0,1,.t 61),(1,1,.t 62)])::fI 64 (.aH 2 [.t 63])::xJ 65 2 60 64::Qm8) [3,4,15,16,17,44,45,46]) .skip
def Qac5:SC:=sR [mJ 53 10,cJ 54 .geq 53 0] [3,4,8,10,15,16,17,44,45,46,54] Qac4
def Qac6:SC:=sR (tJ 51 4 9::aJ 52 Pz [.t 51]::Qpo) [3,4,8,10,15,16,17,44,45,46] Qac5
def Qac7:SC:=.reg [cJ 67 .add 46 1,mJ 46 67] [3,4,15,16,17,44,45,46]
def Qac8:SC:=.seq (.block 5 (sR (mJ 48 46::iJ 49 4 44 46::tJ 50 4 49::eI 9 (.alloc [.int .i64 0,.int .i64 0,.sl true 1 [],.int .i64 0])::Qpn) [3,4,8,9,15,16,17,44,45,46] Qac6)) Qac7
def Q7f:SC:=sR [bJ 47 .lss 46 45] [3,4,15,16,17,44,45,46,47] (cX 47 4 Qac8)
def Qac9:SC:=sR [fJ 43 1 5,lJ 44 43,nJ 45 44,zJ 46 0] [3,4,15,16,17,44,45,46] (bL 4 Q7f)
def Qada:SC:=.seq (sR [fJ 22 0 5,lJ 23 22,nJ 24 23,zJ 25 0] [3,4,5,15,16,17,23,24,25] (bL 2 Qadg)) Qac9
def Qadb:SC:=.reg [cJ 68 .add 17 1,mJ 17 68] [3,15,16,17]
def Qadc:SC:=.seq (.block 1 (sR (mJ 19 17::iJ 20 5 15 17::tJ 21 5 20::eI 5 (.alloc [.sl true 2 [],.sl true 4 [],.int .i64 0,.int .i64 0,.sl true 1 []])::Qpk) [3,4,5,15,16,17] Qada)) Qadb
def Q7g:SC:=sR [bJ 18 .lss 17 16] [3,15,16,17,18] (cX 18 0 Qadc)
def Qadd:SC:=sR [mJ 69 3,mJ 2 69] [2] .ret
def Qade:SC:=.seq (sR [fJ 14 2 1,lJ 15 14,nJ 16 15,zJ 17 0] [3,15,16,17] (bL 0 Q7g)) Qadd
def Qadf:SC:=sR (fJ 11 1 1::lJ 12 11::eI 13 (.mks 1 [.sl true 2 []] (.t 12))::Qpj) [1,3] Qade
def Qav0:SC:=sR [vJ 1 0,fI 2 (.mv (.k (.c (.sl true 1 []))))] [1] Qadf
abbrev Q1u:List RS:=[.tmp 2]
theorem Qaup:mFn prog PJ 1 70 Qav0 Q1u=true:=ZH
def Q18:SC:=sR [fJ 3 0 1,lJ 4 3,fJ 5 1 1,lJ 6 5,fI 7 (.aH 1 [.t 4,.t 6]),mJ 2 7] [2] .ret
def Qaca:SC:=sR [vJ 1 0,fI 2 (.mv (.k (.c (.sl true 1 []))))] [1] Q18
abbrev Qo7:List RS:=[.tmp 2]
theorem Qab2:mFn prog Hy 1 8 Qaca Qo7=true:=ZH
def Qxg:List Item:=[oJ 11 10]
def Qave:SC:=cT 11 (sR [zJ 6 (-1)] [6] .ret) .skip
def Qxh:List Item:=[mJ 18 2,iJ 19 1 17 18,lJ 20 19,mJ 6 20]
def Qavf:SC:=sR (fJ 12 0 3::lJ 13 12::mJ 14 1::iJ 15 3 13 14::tJ 16 3 15::aJ 17 RE [.t 16]::Qxh) [6] .ret
def Qavg:SC:=.seq (sR (tJ 7 1 3::mJ 8 1::mJ 9 2::aJ 10 Pl [.t 7,.t 8,.t 9]::Qxg) [1,2,3,11] Qave) Qavf
def Qa92:SC:=sR [vJ 3 0,zJ 6 0] [1,2,3] Qavg
abbrev Ro:List RS:=[.tmp 6]
theorem Qa85:mFn prog RO 3 21 Qa92 Ro=true:=ZH
def Qx4:List Item:=[sJ 1 3 13]
def Qx5:List Item:=eI 3 (.alloc [.sl true 1 []])::Qx4
def Qx6:List Item:=[sJ 5 6 21]
def Qx7:List Item:=[sJ 2 8 28]
def Qav1:SC:=.reg [mJ 29 4,fJ 30 1 8,lJ 31 30,eI 32 (.bB (.t 29) [.t 31])] [3,4,6,16,17,18,23,24,25]
def Qav2:SC:=.reg [cJ 33 .add 25 1,mJ 25 33] [3,4,6,16,17,18,23,24,25]
def Qav3:SC:=.seq (.block 3 (sR (iJ 27 2 23 25::tJ 28 2 27::eI 8 (.alloc [.int .i64 0,.sl true 1 []])::Qx7) [3,4,6,8,16,17,18,23,24,25] Qav1)) Qav2
def Qx9:SC:=sR [bJ 26 .lss 25 24] [3,4,6,16,17,18,23,24,25,26] (cX 26 2 Qav3)
def Qx8:List Item:=[sJ 4 10 40]
def Qav4:SC:=.reg [mJ 41 4,fJ 42 2 10,lJ 43 42,eI 44 (.bB (.t 41) [.t 43])] [3,4,6,16,17,18,35,36,37]
def Qapr:SC:=.reg [cJ 45 .add 37 1,mJ 37 45] [3,4,6,16,17,18,35,36,37]
def Qaps:SC:=.seq (.block 5 (sR (iJ 39 4 35 37::tJ 40 4 39::eI 10 (.alloc [.int .i64 0,.int .i64 0,.sl true 1 [],.int .i64 0])::Qx8) [3,4,6,10,16,17,18,35,36,37] Qav4)) Qapr
def Qtr:SC:=sR [bJ 38 .lss 37 36] [3,4,6,16,17,18,35,36,37,38] (cX 38 4 Qaps)
def Qapt:SC:=cT 48 (.reg [lJ 49 3,fJ 50 3 6,lJ 51 50,iJ 52 1 49 51,lJ 53 52,cJ 54 .add 53 1,iJ 55 1 49 51,sJ 1 55 54] [3,4,16,17,18]) .skip
def Sq:SC:=sR [fJ 46 2 6,lJ 47 46,aJ 48 Eo [.t 47]] [3,4,6,16,17,18,48] Qapt
def Sp:SC:=.seq (sR [fJ 34 1 6,lJ 35 34,nJ 36 35,zJ 37 0] [3,4,6,16,17,18,35,36,37] (bL 4 Qtr)) Sq
def Qapu:SC:=.seq (sR [fJ 22 0 6,lJ 23 22,nJ 24 23,zJ 25 0] [3,4,6,16,17,18,23,24,25] (bL 2 Qx9)) Sp
def Qapv:SC:=.reg [cJ 56 .add 18 1,mJ 18 56] [3,4,16,17,18]
def Qapw:SC:=.seq (.block 1 (sR (iJ 20 5 16 18::tJ 21 5 20::eI 6 (.alloc [.sl true 2 [],.sl true 4 [],.int .i64 0,.int .i64 0,.sl true 1 []])::Qx6) [3,4,6,16,17,18] Qapu)) Qapv
def Qah5:SC:=sR [bJ 19 .lss 18 17] [3,4,16,17,18,19] (cX 19 0 Qapw)
def Qapx:SC:=sR [lJ 57 3,mJ 2 57] [2] .ret
def Qapy:SC:=.seq (sR [fJ 15 2 1,lJ 16 15,nJ 17 16,zJ 18 0] [3,4,16,17,18] (bL 0 Qah5)) Qapx
def Qapz:SC:=sR [fI 14 (.mkf CH [.t 3]),mJ 4 14] [1,3,4] Qapy
def Qap0:SC:=sR (fJ 11 1 1::lJ 12 11::eI 13 (.mks 1 [.int .i64 0] (.t 12))::Qx5) [1,3] Qapz
def Qbac:SC:=sR [vJ 1 0,fI 2 (.mv (.k (.c (.sl true 1 []))))] [1] Qap0
abbrev MD:List RS:=[.tmp 2]
theorem Qa9b:mFn prog RE 1 58 Qbac MD=true:=ZH
def Qadi:SC:=.reg [lJ 11 1,mJ 12 4,iJ 13 1 11 12,lJ 14 13,cJ 15 .add 14 1,iJ 16 1 11 12,sJ 1 16 15] [1,5,6,7]
def Qadj:SC:=.reg [cJ 17 .add 7 1,mJ 7 17] [1,5,6,7]
def Qadk:SC:=.seq (.block 1 (sR [iJ 9 1 5 7,lJ 10 9,mJ 4 10] [1,4,5,6,7] Qadi)) Qadj
def Q7m:SC:=sR [bJ 8 .lss 7 6] [1,5,6,7,8] (cX 8 0 Qadk)
def Qap1:SC:=sR [mJ 5 0,nJ 6 5,zJ 7 0] [1,5,6,7] (bL 0 Q7m)
abbrev Qxb:List RS:=[]
theorem Qanu:mFn prog CH 2 18 Qap1 Qxb=true:=ZH
end Go.AE.Y
namespace Go.AE.Y
attribute [local instance] Classical.propDecidable
variable {g:Nat->List Nat}{n:Nat}
theorem II {a b:Nat}:Aq g a b=true↔Al g (-1) a=true/\Al g (-1) b=true/\¬Rch g (λz=>(z:Int)=a) 0 b:=by
 simp only[Aq,Jq,Jbd,and_assoc];refine and_congr_right λ_=>and_congr_right λ_=>?_;rw[<-Bool.not_eq_true,rchB_iff]
theorem Rch.via {A:Nat->Prop}{a b:Nat}(h:Rch g A 0 b)(hn:¬Rch g (λz=>(z:Int)=a) 0 b):Rch g A 0 a:=by
 induction h with
 |refl h=>
  by_cases ha:0=a
  ·subst ha;exact .refl h
  ·exact absurd (Rch.refl λhh=>ha ZD) hn
 |@step y z h1 h2 h3 ih=>
  by_cases hy:Rch g (λz=>(z:Int)=a) 0 y
  ·by_cases ha:z=a
   ·subst ha;exact .step h1 h2 h3
   ·exact absurd (Rch.step hy h2 λhh=>ha ZD) hn
  ·exact ih hy
theorem Qbhw {x a b:Nat}(h1:Aq g x a=true)(h2:Aq g a b=true):Aq g x b=true:=by
 rw[II]at *;exact⟨h1.1,h2.2.1,λh=>h1.2.2 (h.via h2.2.2)⟩
theorem Rch.two {A:Nat->Prop}{a b z:Nat}(df:a≠b)(h:Rch g A 0 z):Rch g (λw=>w=a\/w=b) 0 z\/Rch g (λw=>(w:Int)=b) 0 a\/Rch g (λw=>(w:Int)=a) 0 b:=by
 induction h with
 |refl _=>
  by_cases ha:0=a
  ·subst ha;exact .inr (.inl (.refl λhh=>df ZD))
  ·by_cases hb:0=b
   ·subst hb;exact .inr (.inr (.refl λhh=>df ZD))
   ·exact .inl (.refl λhh=>hh.elim ha hb)
 |@step y z h1 h2 h3 ih=>
  rcases ih with h|h
  ·by_cases ha:z=a
   ·subst ha;exact .inr (.inl (.step (h.mono λw hw=>.inr ZD) h2 λhh=>df ZD))
   ·by_cases hb:z=b
    ·subst hb;exact .inr (.inr (.step (h.mono λw hw=>.inl ZD) h2 λhh=>df ZD))
    ·exact .inl (.step h h2 λhh=>hh.elim ha hb)
  ·exact .inr h
theorem Qbma {a b:Nat}(h1:Aq g a b=true)(h2:Aq g b a=true):a=b:=by
 by_cases df:a=b
 ·exact df
 rw[II]at *;rcases (rchB_iff.1 h1.1).two df with h|h|h
 ·exact absurd (.inl rfl) h.snd
 ·exact absurd h h2.2.2
 ·exact absurd h h1.2.2
noncomputable def depL (n:Nat)(g:Nat->List Nat)(b:Nat):Nat:=((List.range n).filter λa=>Aq g a b).length
theorem Qbml {α:Type}{p q:α->Bool}{l:List α}(h:∀x∈l,p x=true->q x=true){y:α}(hy:y∈l)(hq:q y=true)(hp:p y=false):(l.filter p).length<(l.filter q).length:=by
 have le:∀(l:List α),(∀x∈l,p x=true->q x=true)->(l.filter p).length<=(l.filter q).length:=λl=>by
  induction l with
  |nil=>intro _;simp
  |cons x l ih=>
   intro h;have h1:=ih λz hz=>h z (Jm _ hz);have h2:=h x Js
   cases oO:p x with
   |false=>cases kB:q x <;> simp[oO,kB] <;> omega
   |true=>have:=h2 oO;simp[oO,this];omega
 induction l with
 |nil=>simp at hy
 |cons x l ih=>
  have h2:=h x Js;have h3:=le l λz hz=>h z (Jm _ hz);rcases Jy.1 hy with rfl|hy
  ·simp[hq,hp];omega
  ·have h1:=ih (λz hz=>h z (Jm _ hz)) hy
   cases oO:p x with
   |false=>cases kB:q x <;> simp[oO,kB] <;> omega
   |true=>have:=h2 oO;simp[oO,this];omega
theorem Yv {a b:Nat}(hb:b<n)(h:Aq g a b=true)(df:a≠b):depL n g a<depL n g b:=by
 refine Qbml (λx _ hx=>Qbhw hx h) (y:=b) (J5.2 hb) ?_ ?_
 ·rw[Qbmc];exact (Yu h).2
 ·cases hc:Aq g b a with
  |false=>rfl
  |true=>exact absurd (Qbma h hc) df
def Tree (n:Nat)(ids:List Int)(dp:Nat->Nat):Prop:=ids.length=n/\∀b,b<n->ids.getD b 0=-1\/∃a:Nat,ids.getD b 0=a/\a<n/\dp a<dp b
inductive Sub (ids:List Int)(b:Nat):Nat->Prop
 |refl:Sub ids b b
 |step {y x:Nat}:Sub ids b y->x<ids.length->ids.getD x 0=(y:Int)->Sub ids b x
variable {ids:List Int}{dp:Nat->Nat}
def B6 (ids:List Int)(b:Nat):List Nat:=(List.range ids.length).filter λi=>decide (ids.getD i 0=(b:Int))
theorem kidsL_mem {b k:Nat}:k∈B6 ids b↔k<ids.length/\ids.getD k 0=(b:Int):=by simp[B6]
theorem Tree.up (t:Tree n ids dp){b k:Nat}(hk:k<ids.length)(h:ids.getD k 0=(b:Int)):b<n/\dp b<dp k:=by
 have fu:k<n:=by rw[<-t.1];exact hk
 rcases t.2 k fu with h1|⟨a,h1,h2,h3⟩
 ·omega
 ·have:a=b:=ZD
  subst this;exact⟨h2,h3⟩
theorem Sub.dep (t:Tree n ids dp){b x:Nat}(h:Sub ids b x):x=b\/dp b<dp x:=by
 induction h with
 |refl=>exact .inl rfl
 |step h1 h2 h3 ih=>
  have:=(t.up h2 h3).2;rcases ih with rfl|ih
  ·exact .inr this
  ·exact .inr ZD
theorem Sub.kid {b k x:Nat}(hk:k∈B6 ids b)(h:Sub ids k x):Sub ids b x:=by
 obtain⟨h1,h2⟩:=kidsL_mem.1 hk
 induction h with
 |refl=>exact .step .refl h1 h2
 |step _ h3 h4 ih=>exact ih.step h3 h4
theorem Sub.kid_ne (t:Tree n ids dp){b k:Nat}(hk:k∈B6 ids b):¬Sub ids k b:=λh=>by
 obtain⟨h1,h2⟩:=kidsL_mem.1 hk;have:=(t.up h1 h2).2;rcases h.dep t with rfl|h
 ·omega
 ·omega
theorem Sub.line {a b x:Nat}(h1:Sub ids a x)(h2:Sub ids b x):Sub ids a b\/Sub ids b a:=by
 induction h1 with
 |refl=>exact .inr h2
 |@step y x h3 h4 h5 ih=>
  cases h2 with
  |refl=>exact .inl (.step h3 h4 h5)
  |@step y' _ h6 h7 h8=>
   have:y=y':=ZD
   subst this;exact ih h6
theorem Sub.kids_apart (t:Tree n ids dp){b k j x:Nat}(hk:k∈B6 ids b)(hj:j∈B6 ids b)(h1:Sub ids k x)(h2:Sub ids j x):k=j:=by
 have one:∀{k j:Nat},k∈B6 ids b->j∈B6 ids b->Sub ids k j->k=j:=λ{k j} hk hj h=>by
  cases h with
  |refl=>rfl
  |@step y _ h3 h4 h5=>
   have h6:=(kidsL_mem.1 hj).2;have:y=b:=ZD
   subst this;exact absurd h3 (Sub.kid_ne t hk)
 rcases h1.line h2 with h|h
 ·exact one hk hj h
 ·exact (one hj hk h).symm
theorem Sub.split {b x:Nat}(h:Sub ids b x):x=b\/∃k∈B6 ids b,Sub ids k x:=by
 induction h with
 |refl=>exact .inl rfl
 |@step y x h1 h2 h3 ih=>
  rcases ih with rfl|⟨k,hk,h⟩
  ·exact .inr ⟨x,kidsL_mem.2 ⟨h2,h3⟩,.refl⟩
  ·exact .inr ⟨k,hk,h.step h2 h3⟩
theorem Sub.lt {b x:Nat}(hb:b<ids.length)(h:Sub ids b x):x<ids.length:=by
 cases h with
 |refl=>exact hb
 |step _ h _=>exact h
def potW (n:Nat)(w:Nat->Nat)(U:Nat->Prop) [DecidablePred U]:Nat:=(((List.range n).filter λx=>decide (U x)).map w).sum
theorem Qbtv {w:Nat->Nat}{U V:Nat->Prop}{b:Nat}(hb:b<n)(hU:U b)(hV:∀x,V x↔U x/\x≠b):potW n w V+w b=potW n w U:=by
 have key:∀m,(((List.range m).filter λx=>decide (V x)).map w).sum+(if b<m then w b else 0)=(((List.range m).filter λx=>decide (U x)).map w).sum:=λm=>by
  induction m with
  |zero=>simp
  |succ m ih=>
   rw[Jal,J6,J6,Jx,Jx,J8,J8];by_cases hm:m=b
   ·subst hm;have h1:decide (V m)=false:=decide_eq_false λh=>((hV m).1 h).2 rfl;have h2:decide (U m)=true:=decide_eq_true hU;have h3:¬m<m:=ZD;rw[if_neg h3]at ih;simp[h1,h2];omega
   ·have h1:decide (V m)=decide (U m):=(by rw[decide_eq_decide,hV];exact⟨λh=>h.1,λh=>⟨h,hm⟩⟩);have h2:(b<m+1)=(b<m):=(by rw[eq_iff_iff];omega);simp only[Jat,Jax,h1,h2];omega
 have:=key n;rw[if_pos hb]at this;exact this
theorem VY {w:Nat->Nat}{U V:Nat->Prop}(h:∀x,V x->U x):potW n w V<=potW n w U:=by
 have key:∀m,(((List.range m).filter λx=>decide (V x)).map w).sum<=(((List.range m).filter λx=>decide (U x)).map w).sum:=λm=>by
  induction m with
  |zero=>simp
  |succ m ih=>
   rw[Jal,J6,J6,Jx,Jx,J8,J8];by_cases hv:V m
   ·have h1:decide (V m)=true:=decide_eq_true hv;have h2:decide (U m)=true:=decide_eq_true (h m hv);simp[h1,h2];omega
   ·have h1:decide (V m)=false:=decide_eq_false hv;simp[h1];omega
 exact key n
end Go.AE.Y
namespace Go.AE.Y
attribute [local go_sem] cond_true cond_false Bool.not_true Bool.not_false
open Go.Proofs.Tryz
variable {H H0:Heap}{K:V->Heap->Prop}{E B Lg:List (Nat×Obj)}
theorem Qa8w {fl:Bool}{l:List Nat}(hl:l.length<=2 ^ 30)(hK:∀(fl':Bool) (k:List Nat) H',Upd H H' []->k.Pairwise (· < ·)->(∀x,x∈k↔x∈l)->K (.c (.sl false 1 (Q7 k))) H') :
  Qv prog RD [.c (.sl fl 1 (Q7 l))] H K:=by
 refine Q0 ?_;refine Qc Ab Qa9f ?_;refine Wd ?_;refine Wa ?_;refine Qg (Qd (Qs (λm e1 H1=>∃(i:Nat) (fl':Bool) (ns:List Int),m=l.length-i/\i<=l.length/\ns.Pairwise (· < ·)/\(∀x,x∈ns↔∃y∈l.take i,(y:Int)=x)/\ns.length<=i/\Kn H H1 [] []/\
  lk 0 e1=.c (.sl fl 1 (Q7 l))/\lk 3 e1=.c (.sl fl' 1 (Qb ns))/\lk 4 e1=.c (.int .i64 i)) l.length ?_ ?_))
 ·exact⟨0,_,[],ZD,ZD,ZF,ZF,ZF,Kn.ar H,rfl,rfl,rfl⟩
 ·rintro m e1 H1 ⟨i,fl',ns,hm,hi,ha,dq,cC,kn,l0,l3,l4⟩;refine Q3 (Qa ?_);simp only[go_sem,l0,l3,l4,Q1];intro _;refine Wv ?_ ?_
  ·intro hc;have ae:i<l.length:=ZG
   have hg:l.getD i 0=l[i]:=Zat
   refine Ze ?_
   refine Wt ?_;simp only[go_sem,ae,Q1,Bk _ _ ae,hg];refine Pe ha ZD λfl2 ns2 H2 hu ly eK ft=>?_;have kn:=kn.aw hu;simp only[go_sem,Qyc];refine Zg ?_;refine⟨Qo,l.length-(i+1),ZD,i+1,fl2,ns2,rfl,ZD,ly,λx=>?_,ZD,kn,?_⟩
   ·rw[eK,dq,Jh ae];constructor
    ·rintro (rfl|⟨y,hy,rfl⟩)
     ·exact⟨l[i],Jv _ (Jb.2 rfl),rfl⟩
     ·exact⟨y,Jl _ hy,rfl⟩
    ·rintro⟨y,hy,rfl⟩;rcases Je.1 hy with hy|hy
     ·exact .inr ⟨y,hy,rfl⟩
     ·simp only[Jb]at hy;rw[hy];exact .inl rfl
   ·first|exact⟨rfl,rfl,rfl⟩|exact rfl|trivial
  ·intro hc;have aY:l.length<=i:=ZG
   rw[Jc aY]at dq;have hk:ns=(ns.map Int.toNat).map Int.ofNat:=by
    rw[Jay]
    conv=>lhs;rw[<-Ja7 ns]
    refine Jae λx hx=>?_;obtain⟨y,_,rfl⟩:=(dq x).1 hx;simp
   have rM:Qb ns=Q7 (ns.map Int.toNat):=by (conv=>lhs;rw[hk]);rfl
   refine Zb ?_;refine Zh rM ?_;refine Zf ?_;refine⟨_,.c _ _ (FrzR.same (Cu _)).sl,hK true (ns.map Int.toNat) _ kn.fin ?_ λx=>?_⟩
   ·rw[hk,Jac]at ha;exact ha.imp λh=>ZP
   ·rw[Jp];constructor
    ·rintro⟨v,hv,rfl⟩;obtain⟨y,hy,rfl⟩:=(dq v).1 hv;simpa using hy
    ·exact λh=>⟨(x:Int),(dq _).2 ⟨x,h,rfl⟩,ZF⟩
set_option maxHeartbeats 1000000 in
theorem MV {p rg:Int}{fl:Bool}{rows:List (List C)}{nx:Nat->List Int}(hg:GF rows nx)(hf:A4 rows.length nx=true)
  (hK:∀(S:List Bool) (o:List Nat) H',Upd H H' []->Dfs (nxN nx) [0] (List.replicate rows.length false) [] S o->K (.c (.sl false 1 (Q7 o.reverse))) H') :
  Qv prog El [.ag [.int .i64 p,.int .i64 rg,.sl fl 5 rows]] H K:=by
 have hn:=hg.n;have bY:=CN hf;have cd:∀(y:Nat) l a b d,C.sl fl 5 rows=.ah l a b d->l≠y:=by intro y l a b d h;cases h
 refine Q0 ?_;refine Qc Ab Qbip ?_;refine Za ?_;refine Aj ?_;simp only[go_sem,DJ];try intro _
 refine⟨by simp only[LIM];omega,λal dk H1 h1=>?_⟩;have kn:Kn H H1 [] ([(al,.vec 1 (Qm (List.replicate rows.length false)))]++[]):=(Kn.ar H).al dk h1;simp only[go_sem,Q3n];refine Q6h (F:=H1) hf ZD (hg.grd H1 fl) (cd al) rows.length 0 (List.replicate rows.length false) [] (.sl true 1 []) [] H1 _ ZF ZD bY (BU _ _) kn.mid (.nil 1) ZF λS o oc Lg0 H2 hd k2 dV=>?_;have kn:Kn H H2 [] ([(al,.vec 1 (Qm S))]++Lg0):=by
  have:=(kn.comp k2 rfl);simpa using this
 have bM:=dV.ai;have bj:=dV.aN;have ak:=dV.ax;rw[Q1]at ak;have fe:∀x,x<(List.replicate rows.length false).length->∀y∈nxN nx x,y<(List.replicate rows.length false).length:=by
  rw[Jd];exact λx hx y hy=>Co hf hx hy
 have iY:∀x∈[0],x<(List.replicate rows.length false).length:=ZaA
 have dJ:o.length<=rows.length:=by
  have h1:=hd.count fe iY;have h2:=C0 S;rw[hd.len,Jd]at h2;simp only[Jn]at h1;omega
 simp only[go_sem,Q3m];refine Wg ?_;have mw:=eq_true (dV.get kn).1;simp only[go_sem,mw,ak];try intro _
 refine⟨Qo,?_⟩;refine Qg (Qd (Qs (λm e1 H1=>∃(k:Nat) (r:List Nat) (t:C) (Lg:List (Nat×Obj)),m=k/\k<=o.length/\r.length+k=o.length/\r=(o.drop k).reverse/\Gr Lg 1 (Q7 r) t/\Kn H H1 [] (([(al,.vec 1 (Qm S))]++Lg0)++Lg)/\
  lk 3 e1=.c oc/\lk 4 e1=.c t/\lk 5 e1=.c (.int .i64 ((k:Int)-1))) o.length ?_ ?_))
 ·exact⟨o.length,[],_,[],rfl,ZD,ZF,ZF,.nil 1,ZO,rfl,rfl,rfl⟩
 ·clear kn mw;rintro m e1 H3 ⟨k,r,t,Lg,rfl,hk,dA,uK,aq,kn,l3,l4,l5⟩;have eb:=aq.ai;have mw:=eq_true (dV.get kn.drop).1;have eY:=(dV.get kn.drop).2;refine Q3 (Qa ?_);simp only[go_sem,l3,l4,l5];refine Wv ?_ ?_
  ·intro hc;have aY:(0:Int)<=(m:Int)-1:=ZG
   obtain⟨k,rfl⟩:∃k,m=k+1:=⟨m-1,ZD⟩;have ek:((k+1:Nat):Int)-1=(k:Int):=ZD
   have ae:k<o.length:=ZD
   have bQ:o.getD k 0=o[k]:=Zat
   rw[ek];refine Ze ?_
   refine Wt ?_;simp only[go_sem,mw,ak,bj,eY,ae,Bk _ _ ae,bQ];refine kn.bD (new:=Q7 [o[k]]) aq (.mk' _ _ _ _) (Cu _) (by simp only[Q1,LIM,Jo,Jn];omega) λt2 Lg2 H4 cG ee kn=>?_;simp only[go_sem,Q3o];refine Zg ?_;refine⟨Qo,k,ZD,k,r++[o[k]],t2,Lg2,rfl,ZD,by simp only[Jw,Jo,Jn];omega,?_,?_,kn,?_⟩
   ·rw[uK,Jan ae,List.reverse_cons]
   ·rw[Gi];exact cG
   ·first|exact⟨rfl,rfl,rfl⟩|exact rfl|trivial
  ·intro hc;have iP:m=0:=by have:¬(0:Int)<=(m:Int)-1:=ZG;omega
   subst iP;refine Ws ?_;rw[J4]at uK;subst uK;exact⟨_,.c _ _ (aq.frz kn (Cu _)),hK S o _ kn.fin hd⟩
theorem Qbie {p rg:Int}{fl:Bool}{rows:List (List C)}{nx:Nat->List Int}(hg:GF rows nx)(hf:A4 rows.length nx=true)
  (hK:∀(o:List Nat) H',Upd H H' []->o.length<=rows.length->(∀x,x∈o↔x<rows.length/\Al (nxN nx) (-1) x=true)->K (.c (.sl false 1 (Q7 o))) H') :
  Qv prog El [.ag [.int .i64 p,.int .i64 rg,.sl fl 5 rows]] H K:=by
 have bY:=CN hf;refine MV hg hf λS o H' hu hd=>?_;have fe:∀x,x<(List.replicate rows.length false).length->∀y∈nxN nx x,y<(List.replicate rows.length false).length:=by
  rw[Jd];exact λx hx y hy=>Co hf hx hy
 have iY:∀x∈[0],x<(List.replicate rows.length false).length:=ZaA
 have bz:∀x,x∈o↔x<rows.length/\Al (nxN nx) (-1) x=true:=λx=>by
  rw[hd.list fe iY (BU _),Q5v hf hd,inL];by_cases hx:x<rows.length
  ·rw[Hs _ _ hx];simp[hx]
  ·rw[Ja,Jt (by simpa using hx)];simp[hx]
 have dJ:o.length<=rows.length:=by
  have h1:=hd.count fe iY;have h2:=C0 S;rw[hd.len,Jd]at h2;simp only[Jn]at h1;omega
 exact hK o.reverse H' hu (by rw[List.length_reverse];exact dJ) λx=>by rw[List.mem_reverse,bz]
noncomputable def rchL (n:Nat)(g:Nat->List Nat):List Nat:=(List.range n).filter (Al g (-1))
theorem Qay8 {p rg:Int}{fl:Bool}{rows:List (List C)}{nx:Nat->List Int}(hg:GF rows nx)(hf:A4 rows.length nx=true)
  (hK:∀H',Upd H H' []->K (.c (.sl false 1 (Q7 (rchL rows.length (nxN nx))))) H') :
  Qv prog SQ [.ag [.int .i64 p,.int .i64 rg,.sl fl 5 rows]] H K:=by
 have hn:=hg.n;refine Q0 ?_;refine Qc Ab Qanz ?_;refine Wf ?_;refine Qbm2 (hg.grd H fl) ?_;simp only[go_sem,Qni,hf];refine Qg (Qf rfl (λh=>ZK) (λ_=>?_));refine Ze ?_
 refine Za ?_;refine Qbie hg hf λo H1 hu dJ rr=>?_;have kn:=(Kn.ar H).aw hu;simp only[go_sem,Qnk];refine Qa8w ZD λ_ k H2 hu ha hk=>?_;have kn:=kn.aw hu;simp only[go_sem,Qnj];have e:k=rchL rows.length (nxN nx):=Qbl5 ha λx=>by rw[hk,rr]
 refine Zf ?_;rw[e];exact⟨_,.c _ _ (FrzR.same (Cu _)).sl,hK _ kn.fin⟩
theorem Sh (n:Nat)(v:Int):List.replicate n [C.int .i64 v]=Qb (List.replicate n v):=Zar
theorem C3 (l:List Int)(i:Nat)(v:Int):(Qb l).set i [C.int .i64 v]=Qb (l.set i v):=by simp[Qb,Jam]
def B0 (n:Nat)(l:List Nat)(P:List Int):Prop:=P.length=n/\∀x∈l,∃i,∃h:i<l.length,l[i]=x/\P.getD x 0=(i:Int)
set_option maxHeartbeats 1000000 in
theorem Qbig {n:Nat}{fl:Bool}{l:List Nat}(hn:n<=1000000)(hl:l.length<=1000000)(hx:∀x∈l,x<n)(hK:∀P H',B0 n l P->Upd H H' []->K (.c (.sl false 1 (Qb P))) H') :
  Qv prog Rv [.c (.int .i64 n),.c (.sl fl 1 (Q7 l))] H K:=by
 refine Q0 ?_;refine Qc Ab Qbiq ?_;refine Wd ?_;refine⟨by simp only[LIM];omega,λy hy H1 h1=>?_⟩;rw[Sh]at h1;have kn:=(Kn.ar H).al hy h1;simp only[go_sem,Q3t];refine Wa ?_;refine Qg (Qd (Qs (λm e1 H1=>∃(i:Nat) (P:List Int),m=n-i/\i<=n/\P.length=n/\Kn H H1 [] [(y,.vec 1 (Qb P))]/\
  lk 0 e1=.c (.int .i64 n)/\lk 1 e1=.c (.sl fl 1 (Q7 l))/\lk 5 e1=.c (.ah y 1 0 n)/\lk 6 e1=.c (.int .i64 i)) n ?_ ?_))
 ·exact⟨0,List.replicate n 0,ZD,ZD,ZF,kn,rfl,rfl,rfl,rfl⟩
 ·clear kn h1;rintro m e1 H2 ⟨i,P,hm,hi,hP,kn,l0,l1,l5,l6⟩;have hy:=kn.l 0 rfl;have b8:(Qb P).take n=Qb P:=Jc ZZ;refine Q3 (Qa ?_);simp only[go_sem,l0,l1,l5,l6];refine Wv ?_ ?_
  ·intro hc;have ae:i<n:=ZG
   refine Ze ?_
   refine Qg (Qd ?_);have vD:i<P.length:=ZD
   refine Qp ?_;simp only[go_sem,hy,ae,Qe,hP,Qn _ _ vD,C3,Jk,Jf];intro H3 h3;have kn:=kn.aB 0 rfl h3;refine Zg ?_;refine⟨Qo,n-(i+1),ZD,i+1,_,rfl,ZD,by rw[Ji];exact hP,kn,?_⟩
   first|exact⟨rfl,rfl,rfl,rfl⟩|exact rfl|trivial
  ·intro hc;refine Zb ?_;refine Wa ?_;refine Qg (Qd (Qs (λm e1 H1=>∃(j:Nat) (P:List Int),m=l.length-j/\j<=l.length/\P.length=n/\(∀x∈l.take j,∃i,∃h:i<l.length,l[i]=x/\P.getD x 0=(i:Int))/\Kn H H1 [] [(y,.vec 1 (Qb P))]/\
    lk 1 e1=.c (.sl fl 1 (Q7 l))/\lk 5 e1=.c (.ah y 1 0 n)/\lk 7 e1=.c (.int .i64 j)) l.length ?_ ?_))
   ·exact⟨0,P,ZD,ZD,hP,ZF,kn,rfl,rfl,rfl⟩
   ·clear kn hy b8 hP;clear P;rintro m e1 H3 ⟨j,P,hm,hj,hP,cP,kn,l1,l5,l7⟩;have hy:=kn.l 0 rfl;refine Q3 (Qa ?_);simp only[go_sem,l1,l5,l7,Q1];intro _;refine Wv ?_ ?_
    ·intro hc;have ae:j<l.length:=ZG;have bQ:l.getD j 0=l[j]:=Zat;have qd:=hx _ (Jg ae);have xC:l[j]<P.length:=ZD;refine Ze ?_
     refine Wt ?_;simp only[go_sem,hy,ae,Q1,Bk _ _ ae,bQ,qd,Qe,hP,Qn _ _ xC,C3,Jk,Jf];intro H4 h4;have kn:=kn.aB 0 rfl h4;refine Zg ?_;refine⟨Qo,l.length-(j+1),ZD,j+1,_,rfl,ZD,by rw[Ji];exact hP,λx gL=>?_,kn,?_⟩
     ·by_cases jI:x=l[j]
      ·refine⟨j,ae,jI.symm,?_⟩;rw[jI,Ja,List.getElem?_set_self xC];rfl
      ·rw[Jh ae]at gL;rcases Je.1 gL with h|h
       ·obtain⟨i,hi,h1,h2⟩:=cP x h;refine⟨i,hi,h1,?_⟩;rw[Ja,List.getElem?_set_ne (λh=>jI h.symm),<-Ja];exact h2
       ·exact absurd (Jb.1 h) jI
     ·first|exact⟨rfl,rfl,rfl⟩|exact rfl|trivial
    ·intro hc;have aY:l.length<=j:=ZG;rw[Jc aY]at cP;refine Ws ?_;exact⟨_,.c _ _ ((FrzR.same (Qy _)).ah (kn.un 0 rfl) hy (by rw[Qe,hP])),hK P _ ⟨hP,cP⟩ kn.fin⟩
def B1 (ids:List Int)(b n:Nat):List Nat:=(List.range n).filter λi=>decide (ids.getD i 0=(b:Int))
theorem KI (ids:List Int)(b n:Nat):B1 ids b (n+1)=B1 ids b n++if decide (ids.getD n 0=(b:Int))=true then [n]else []:=by
 simp only[B1,Jal,J6];congr 1;by_cases h:ids.getD n 0=(b:Int)
 ·rw[decide_eq_true h,if_pos rfl];simp only[Jat,Jax,h,decide_true,if_true]
 ·rw[decide_eq_false h,if_neg ZF];simp only[Jat,Jax,h,decide_false,Jaf,if_false]
theorem Qbmy (ids:List Int)(b n:Nat):(B1 ids b n).length<=n:=by
 have:=List.length_filter_le (λi=>decide (ids.getD i 0=(b:Int))) (List.range n);simpa[B1]using this
theorem Qbm4 {fl:Bool}{ids:List Int}{b:Nat}(hl:ids.length<=1000000)(hK:∀H',Upd H H' []->K (.c (.sl false 1 (Q7 (B6 ids b)))) H') :
  Qv prog Q53 [.c (.sl fl 1 (Qb ids)),.c (.int .i64 b)] H K:=by
 refine Q0 ?_;refine Qc Ab Qbnu ?_;refine Wd ?_;refine Wa ?_;refine Qg (Qd (Qs (λm e1 H1=>∃(i:Nat) (t:C) (Lg:List (Nat×Obj)),m=ids.length-i/\i<=ids.length/\Gr Lg 1 (Q7 (B1 ids b i)) t/\Kn H H1 [] ([]++Lg)/\
  lk 0 e1=.c (.sl fl 1 (Qb ids))/\lk 1 e1=.c (.int .i64 b)/\lk 5 e1=.c t/\lk 6 e1=.c (.int .i64 i)) ids.length ?_ ?_))
 ·exact⟨0,_,[],ZD,ZD,.nil 1,Kn.ar H,rfl,rfl,rfl,rfl⟩
 ·rintro m e1 H1 ⟨i,t,Lg,hm,hi,aq,kn,l0,l1,l5,l6⟩;have eb:=aq.ai;refine Q3 (Qa ?_);simp only[go_sem,l0,l1,l5,l6,Qe];intro _;refine Wv ?_ ?_
  ·intro hc;have ae:i<ids.length:=ZG
   have dd:=Qbmy ids b i;refine Ze ?_
   refine Az (λe2 H2=>∃(t:C) (Lg:List (Nat×Obj)),Gr Lg 1 (Q7 (B1 ids b (i+1))) t/\Kn H H2 [] ([]++Lg)/\
    lk 0 e2=.c (.sl fl 1 (Qb ids))/\lk 1 e2=.c (.int .i64 b)/\lk 5 e2=.c t/\lk 6 e2=.c (.int .i64 i)) ?_ ?_
   ·intro Q br _ _;refine Qd (Qa ?_);simp only[go_sem,ae,Qe,Qn _ _ ae];refine Ww ?_ ?_
    ·intro ao;refine Zi ?_;refine kn.bD (B:=[]) (new:=Q7 [i]) aq (.mk' _ _ _ _) (Cu _) (by simp only[Q1,LIM,Jo,Jn];omega) λt2 Lg2 H2 cG ee kn=>?_;simp only[go_sem,Q9y];refine br _ _ ⟨t2,Lg2,?_,kn,rfl,rfl,rfl,rfl⟩;rw[KI,ao,if_pos rfl,Gi];exact cG
    ·intro ao;refine Ze ?_
     refine br _ _ ⟨t,Lg,?_,kn,rfl,rfl,rfl,rfl⟩;rw[KI,ao];simpa using aq
   ·rintro e2 H2 ⟨t2,Lg2,cG,kn,l0,l1,l5,l6⟩;have ee:=cG.ai;refine Qp ?_;simp only[go_sem,X.next,l0,l1,l5,l6];refine⟨Qo,ids.length-(i+1),ZD,i+1,t2,Lg2,rfl,ZD,cG,kn,?_⟩
    first|exact⟨rfl,rfl,rfl,rfl⟩|exact rfl|trivial
  ·intro hc;have aY:i=ids.length:=by have:ids.length<=i:=ZG;omega
   refine Ws ?_;have e:B1 ids b i=B6 ids b:=by rw[aY];rfl
   rw[e]at aq;exact⟨_,.c _ _ (aq.frz kn (Cu _)),hK _ kn.fin⟩
set_option maxHeartbeats 2000000 in
theorem Qbih {fl:Bool}{n:Nat}{g:Nat->List Nat}(bY:0<n)(hn:n<=1000000)(hK:∀ids H',Tree n ids (depL n g)->Upd H H' []->K (.c (.sl false 1 (Qb ids))) H') :
  Qv prog Ru [.c (.sl fl 1 (A7 n g n))] H K:=by
 have vA:Int.toNat (-1)=0:=rfl;refine Q0 ?_;refine Qc Ab Qbis ?_;refine Wd ?_;refine Wa ?_;refine Qg (Qd (Qs (λm e1 H1=>∃(b:Nat) (ids:List Int) (t:C) (Lg:List (Nat×Obj)),m=n-b/\b<=n/\ids.length=b/\(∀x,x<b->ids.getD x 0=-1\/∃a:Nat,ids.getD x 0=a/\a<n/\depL n g a<depL n g x)/\Gr Lg 1 (Qb ids) t/\Kn H H1 [] ([]++Lg)/\
  lk 0 e1=.c (.sl fl 1 (A7 n g n))/\lk 3 e1=.c t/\lk 4 e1=.c (.int .i64 b)) n ?_ ?_))
 ·exact⟨0,[],_,[],ZD,ZD,rfl,λx hx=>ZD,.nil 1,Kn.ar H,rfl,rfl,rfl⟩
 ·rintro m e1 H1 ⟨b,ids,t,Lg,hm,hb,ck,rX,aq,kn,l0,l3,l4⟩;have eb:=aq.ai;refine Q3 (Qa ?_);simp only[go_sem,l0,l3,l4,CS];intro _;refine Wv ?_ ?_
  ·intro hc;have ae:b<n:=ZG
   refine Ze ?_
   refine Az (λe2 H2=>∃(v:Int),(v=-1\/∃a:Nat,v=a/\a<n/\depL n g a<depL n g b)/\∃(t:C) (Lg:List (Nat×Obj)),Gr Lg 1 (Qb (ids++[v])) t/\Kn H H2 [] ([]++Lg)/\
    lk 0 e2=.c (.sl fl 1 (A7 n g n))/\lk 3 e2=.c t/\lk 4 e2=.c (.int .i64 b)) ?_ ?_
   ·intro Q br _ _;refine Wp ?_;refine Wa ?_;refine Qg (Qd (Qs (λm e1 H1'=>∃(a:Nat) (v:Int),m=n-a/\a<=n/\H1'=H1/\(v=-1\/∃a:Nat,v=a/\a<n/\depL n g a<depL n g b)/\
     lk 0 e1=.c (.sl fl 1 (A7 n g n))/\lk 3 e1=.c t/\lk 4 e1=.c (.int .i64 b)/\lk 5 e1=.c (.int .i64 v)/\lk 6 e1=.c (.int .i64 a)) n ?_ ?_))
    ·exact⟨0,-1,ZD,ZD,rfl,.inl rfl,rfl,rfl,rfl,rfl,rfl⟩
    ·rintro m2 e2 H2 ⟨a,v,eK,ha,rfl,hv,l0,l3,l4,l5,l6⟩;refine Q3 (Qa ?_);simp only[go_sem,l0,l3,l4,l5,l6,CS];intro _;refine Wv ?_ ?_
     ·intro ao;have dk:a<n:=ZI;have pN:b<(AS n g a).length:=(by rw[Cw];exact ae);refine Ze ?_
      refine Az (λe2 H2'=>∃(v:Int),H2'=H2/\(v=-1\/∃a:Nat,v=a/\a<n/\depL n g a<depL n g b)/\
       lk 0 e2=.c (.sl fl 1 (A7 n g n))/\lk 3 e2=.c t/\lk 4 e2=.c (.int .i64 b)/\lk 5 e2=.c (.int .i64 v)/\lk 6 e2=.c (.int .i64 a)) ?_ ?_
      ·intro Q2 ru _ _;refine Qd ?_;obtain⟨w,hw,lE,oX⟩:∃w:Nat,v.toNat=w/\w<n/\(decide (v<0)=false->v=(w:Int)):=by
        rcases hv with rfl|⟨a',rfl,h1,_⟩
        ·exact⟨0,rfl,bY,λh=>ZK⟩
        ·exact⟨a',ZD,h1,λ_=>rfl⟩
       have had:a<(AS n g w).length:=(by rw[Cw];exact dk);refine Qa ?_;simp only[go_sem,dk,ae,hw,lE,CS,Gg dk,Gg lE,Qu,Cw,Qx _ _ pN,Qx _ _ had,Ho ae,Ho dk];refine⟨λh=>?_,?_⟩
       ·rw[Jq,Jbd,decide_eq_false_iff_not]at h;omega
       refine Ww ?_ ?_
       ·intro bk;have hd:¬((a:Int)=b)/\Aq g a b=true:=by
         by_cases df:(a:Int)=b
         ·rw[decide_eq_true df]at bk;simp at bk
         ·refine⟨df,?_⟩
          cases hd:Aq g a b with
          |true=>rfl
          |false=>rw[decide_eq_false df,hd]at bk;simp at bk
        refine Zi ?_;exact ru _ _ ⟨(a:Int),rfl,.inr ⟨a,rfl,dk,Yv ae hd.2 λh=>hd.1 (by rw[h])⟩,rfl,rfl,rfl,rfl,rfl⟩
       ·intro _;refine Ze ?_
        exact ru _ _ ⟨v,rfl,hv,rfl,rfl,rfl,rfl,rfl⟩
      ·rintro e3 H3 ⟨v2,rfl,ny,l0,l3,l4,l5,l6⟩;refine Qp ?_;simp only[go_sem,l0,l3,l4,l5,l6];refine⟨Qo,?_⟩;show ∃m,_;exact⟨n-(a+1),by rw[eK];exact Nat.sub_lt_sub_left dk (Nat.lt_succ_self a),a+1,v2,rfl,dk,rfl,ny,rfl,rfl,rfl,rfl,rfl⟩
     ·intro ao;refine Zb ?_;refine Zi ?_;refine kn.bD (B:=[]) (new:=Qb [v]) aq (.mk' _ _ _ _) (Qy _) (by simp only[Qe,LIM,Jo,Jn];omega) λt2 Lg2 H3 cG ee kn=>?_;simp only[go_sem,Q3y];refine br _ _ ⟨v,hv,t2,Lg2,?_,kn,rfl,rfl,rfl⟩;have:Qb (ids++[v])=Qb ids++Qb [v]:=Zar;rw[this];exact cG
   ·rintro e2 H2 ⟨v,hv,t2,Lg2,cG,kn,l0,l3,l4⟩;have ee:=cG.ai;refine Qp ?_;simp only[go_sem,X.next,l0,l3,l4];refine⟨Qo,n-(b+1),ZD,b+1,ids++[v],t2,Lg2,rfl,ZD,by simp[ck],λx hx=>?_,cG,kn,?_⟩
    ·by_cases lD:x<b
     ·have e:(ids++[v]).getD x 0=ids.getD x 0:=(by simp[Ja,List.getElem?_append_left (show x<ids.length by omega)]);rw[e];exact rX x lD
     ·have jI:x=b:=ZD;subst jI;have e:(ids++[v]).getD x 0=v:=(by simp[Ja,<-ck]);rw[e];exact hv
    ·first|exact⟨rfl,rfl,rfl⟩|exact rfl|trivial
  ·intro hc;have iv:b=n:=by have:n<=b:=ZG;omega
   subst iv;refine Ws ?_;exact⟨_,.c _ _ (aq.frz kn (Qy _)),hK ids _ ⟨ck,rX⟩ kn.fin⟩
end Go.AE.Y
