/- Part 4 of the proof: the engine, codes, walks and plain laws, each named where it stands. -/
import Derived.Test.YtchjcdooknkfpaaGreatDoorZC
import Derived.Shelf.Sort.Plain
import Derived.Shelf.Sort.So_math_bits_LenIn
open Nat (reduceEqDiff reduceAdd reduceLeDiff reduceLT)
set_option linter.unusedVariables false
set_option linter.unusedSimpArgs false
set_option maxRecDepth 4000
set_option maxHeartbeats 4000000
open Bool renaming and_eq_true->Je,not_false->Ju,not_true->Jaq,false_eq_true->Jat,not_eq_true'->Jbe,eq_iff_iff->Jbl,true_and->Jbo
open List renaming getD_eq_getElem?_getD->Ja,mem_singleton->Jb,take_of_length_le->Jc,length_replicate->Jd,getElem_mem->Jf,take_succ_eq_append_getElem->Jg,getElem?_eq_getElem->Jh,mem_append->Ji,mem_cons_of_mem->Jj,length_set->Jk,mem_cons_self->Jm,length_cons->Jn,length_nil->Jo,getElem?_eq_none->Jp,length_take->Jr,mem_map->Js,mem_append_left->Jt,map_append->Jv,map_cons->Jw,mem_append_right->Jx,mem_range->Jy,mem_cons->Jz,drop_eq_getElem_cons->J0,pairwise_iff_getElem->J1,mem_iff_getElem->J2,nil_append->J3,all_eq_true->J4,any_eq_true->J5,drop_zero->J6,filter_append->J7,length_append->J8,perm_append_comm->J9,sum_append->Jaa,getElem_take->Jab,mem_of_mem_take->Jac,cons_append->Jad,getElem_of_mem->Jaf,map_nil->Jag,length_map->Jah,getElem?_map->Jai,getElem?_set->Jaj,nodup_append->Jak,contains_iff_mem->Jal,take_append_drop->Jam,length_drop->Jan,not_mem_nil->Jao,mem_filter->Jar,range_succ->Jas,append_assoc->Jau,getElem?_replicate->Jaw,sum_cons->Jax,filter_cons->Jay,getElem_map->Jaz,take_length->Ja0,pairwise_lt_range->Ja1,filter_nil->Ja2,singleton_append->Ja3,getElem?_set_ne->Ja5,pairwise_append->Ja6,map_congr_left->Ja7,getElem?_drop->Ja8,getElem?_take->Ja9,map_take->Jba,pairwise_cons->Jbb,set_cons_succ->Jbc,ext_getElem?->Jbf,getElem_drop->Jbg,length_range->Jbh,pairwise_map->Jbi,map_set->Jbj,count_cons->Jbm,map_map->Jbp,map_id->Jbs
open List.Pairwise renaming filter->Ja4
open Nat renaming le_refl->Jl,zero_add->Jq,mul_le_mul_right->Jap,eq_zero_or_pos->Jbd,lt_or_ge->Jbk,add_zero->Jbq,succ_mul->Jbr
open Option renaming getD_some->Jae,map_some->Jbn
open Option.some renaming injEq->Jav
namespace Go.AE.Y
open Go.Proofs.Tryz
variable {H:Heap}{K:Uk}
theorem Qb42 {fns:List Fn}{fl:Bool}{k:Nat}(hk:k<fns.length)(da:fns[k].params.length<=3)(cQ:Cj fns[k].body)(kL:Q9 fns[k].body<=2^34)
  (hK:∀(c:CodeD) (H':Heap),Upd H H' []->c.fits->K (.ag c.cells) H'):Qr prog K5 [.ag [.sl fl 3 (Cb fns)],Uv k] H K:=by
 refine Qy ?_;refine Qd BF Qb48 ?_;refine Za ?_;intro x4 aY H1 h1;have kn:=(Kn.an H).al aY h1;refine Qa ?_;simp only[go_sem,hk,D0,I0 _ _ hk,Fn.take3,Fn.bv,Fn.az];generalize fns[k]=f at *;intro x5 bq H2 h2;have kn:=kn.al bq h2;have lG:=kn.l 1 rfl;simp only[go_sem,FO,lG,Fn.cells];intro H3 h3;have kn:Kn H H3 [] [(x4,.st [Ui 0,Ui 0,.sl true 5 []]),(x5,.st [.str f.name,.sl false 1 (Cn f.params),.sl false 5 (BO f.body)])]:=kn.aB 1 rfl h3;have pZ:=kn.l 0 rfl;have eY:=kn.l 1 rfl;have h45:=kn.neL 0 1 rfl rfl ZO;refine Qa ?_;simp only[go_sem,eY,CR];intro qE w hw H4 h4;have h:LInv H3 H4 w ⟨fns,fl,0,0,.sl true 5 [],[],[],0,.sl true 3 [],[],[],f.params.length⟩:=
  ⟨(Kn.an H3).al hw h4,.nil 5,.inl ⟨rfl,rfl,rfl⟩,ZD,ZD,ZD⟩
 have fG:∀(s:LS) (H':Heap),LInv H3 H' w s->H' x4=.st [Ui 0,Ui 0,.sl true 5 []]/\H' x5=.st [.str f.name,.sl false 1 (Cn f.params),.sl false 5 (BO f.body)]:=λs H' h'=>
  ⟨by rw[h'.kn.chg x4 (by rw[pZ];simp) ZD,pZ],by rw[h'.kn.chg x5 (by rw[eY];simp) ZD,eY]⟩
 have gA:=(fG _ _ h).2;have sY:=h.hw;simp only[go_sem,Rf];refine Qa ?_;simp only[go_sem,gA,sY,LS.o,CR];intro _ H5 h5;have h:=h.setw (s':=⟨fns,fl,f.params.length,0,.sl true 5 [],[],[],0,.sl true 3 [],[],[],f.params.length⟩) h5 rfl rfl rfl rfl h.gv h.rv;have nD:=(fG _ _ h).2;refine BM ?_;simp only[go_sem,nD,CR];refine Qbw4 _ f.body (Jl _) ZB λv hv=>?_;have wI:=h.hw;simp only[go_sem,Re,nD,wI,LS.o,CR];refine⟨Qs,λH6 h6=>?_⟩;have h:=h.setw (s':=⟨fns,fl,f.params.length,(f.params.length:Int)+v,.sl true 5 [],[],[],0,.sl true 3 [],[],[],f.params.length⟩) h6 rfl rfl rfl rfl h.gv h.rv;refine Wa ?_;refine Qh (Qe (Qw (λn e1 H1=>∃(i:Nat) (s':LS),n=f.params.length-i/\i<=f.params.length/\LInv H3 H1 w s'/\s'.blocks=[]/\s'.at_=0/\s'.ae=(f.params.length:Int)+v/\s'.next=f.params.length/\s'.vars.length=i/\
  e1=[(4,Up x4),(5,Up x5),(6,Up w),(7,Uv i)]) f.params.length ?_ ?_))
 ·exact⟨0,_,ZB,ZB,h,rfl,rfl,rfl,rfl,rfl,rfl⟩
 ·rintro n e1 H1 ⟨i,s,cO,hi,h,eV,uR,bE,cC,bN,rfl⟩;have sW:=(fG _ _ h).2;have gW:=h.hw;have lO:=h.gv.ai;refine Q1 (Qa ?_);simp only[go_sem,sW,CR];intro _;refine Wu ?_ ?_
  ·intro hc;have af:i<f.params.length:=ZE
   refine Wl ?_;simp only[go_sem,sW,gW,LS.o,lO,af,CR,IW _ _ af];refine h.addVar ⟨_,_,_,rfl⟩ ZU λy H4 sY cont=>?_;simp only[go_sem,Rd,sY,LS.o];intro H5 h5;have h':=cont H5 h5;refine Zg ?_;exact⟨Qs,f.params.length-(i+1),ZB,i+1,_,rfl,ZB,h',eV,uR,bE,cC,by simp[bN],rfl⟩
  ·intro hc;refine Zb ?_;have aK:s.ok (3+v):=⟨by rw[bE];omega,by rw[bE];omega,by rw[cC];omega,by rw[cC];omega,by simp[eV],by simp[eV],ZB⟩;refine Za ?_;refine RG h aK ZB λs1 H4 h1 st1 ba kM=>?_;have br:s1.at_<s1.blocks.length:=by rw[kM,uR];omega
   have dz:=st1.ok _ aK;refine Qa ?_;have gA:=(fG _ _ h1).2;simp only[go_sem,gA];refine Qb53 _ f.body _ H3 H4 w s1 _ _ (Jl _) cQ h1 br dz ZB λs2 H5 h2 st2=>?_;refine Za ?_;refine Gk h2 (st2.ok _ dz) ZB λs3 H6 h3 st3=>?_;have st3:=st2.trans st3;simp only[go_sem,Rc];refine Ej (args:=[]) h3 (st3.at_ br) (st3.ok _ dz) ZB λs4 H7 h4 st4=>?_;have st4:=st3.trans st4;simp only[go_sem,Gc];have hbl4:=st4.bl;refine Za ?_;refine EW (at':=0) (next:=[]) (N:=0) h4 (st4.at_ br) ZB λs5 H8 h5 st5=>?_;have Ay:=h5.hw;obtain⟨w8,hx58⟩:=fG _ _ h5;have de:=h5.gb.ai;refine Qa ?_;simp only[go_sem,Ay,w8,LS.o,de];intro H9 h9;have w7:H9 x4=.st [Ui s5.params,Ui s5.ae,s5.bc]:=by rw[h9];exact Heap.aF _ _ _
   have vA:∀m,m≠x4->H9 m=H8 m:=λm hm=>by rw[h9];exact Heap.aj _ _ hm
   have wM:∀m,H m≠.none->H9 m=H m:=λm hm=>by
    have e1:=kn.chg m hm ZD;have e2:=h5.kn.chg m (by rw[e1];exact hm) ZD;rw[vA m (λhh=>by subst hh;exact hm (kn.free 0 rfl)),e2,e1]
   have qi:∀p∈s5.L w,H9 p.1=p.2/\un H p.1=true:=λp hp=>by
    have e1:=(h5.kn.get p (by simpa using hp)).1;have e2:=h5.kn.loc p hp;have bd:p.1≠x4:=λhh=>(by rw[hh,pZ]at e2;simp at e2);refine⟨by rw[vA _ bd,e1],DG ?_⟩
    cases hh:H p.1 with
    |none=>rfl
    |_=>have:=kn.chg p.1 (by rw[hh];simp) ZD;rw[e2,hh]at this;simp at this
   refine Ql ?_;simp only[go_sem,Q4,BE,Jb,forall_eq,RS.op,w7,de];have dg:=(st4.trans st5).ok _ dz;obtain⟨bs,z7,hbs2,z6⟩:=LM (H:=H9) (S:=un H) s5.blocks λb hb=>⟨h5.gi b hb,h5.ri b hb,λp hp=>qi p (by
    simp only[LS.L,Ji,List.mem_flatMap];exact .inr (.inr (.inr ⟨b,hb,hp⟩))),by have:=dg.i1 b hb;omega⟩
   refine⟨.ag (CodeD.mk s5.params s5.ae bs).cells,FrzL.ag (.cons (Qg rfl) (.cons (Qg rfl) (.cons (Gr.frzM h5.gb (λp hp=>qi p (by
    simp only[LS.L,Ji];exact .inr (.inl hp))) z7) .nil))),hK _ _ ⟨ZD,λm hm _=>?_⟩ z6⟩
   rw[GN hm];exact wM m hm
theorem YZ {fns:List Fn}{fl:Bool}(hp:PrOk fns)(hK:∀(cs:List CodeD) (H':Heap),Upd H H' []->0<cs.length->(∀c∈cs,c.fits)->K (.ag [.sl false 3 (Qm cs)]) H') :
  Qr prog R9 [.ag [.sl fl 3 (Cb fns)]] H K:=by
 refine Qy ?_;refine Qd BF Yf ?_;refine Za ?_;intro x2 aI H1 h1;have kn:=(Kn.an H).al aI h1;refine Za ?_;intro x3 aL H2 h2;have kn:=kn.al aL h2;have j7:=kn.l 1 rfl;simp only[go_sem,Sn,j7];intro H3 h3;have kn:Kn H H3 [] [(x2,.st [.sl true 3 []]),(x3,.st [.sl true 3 []])]:=kn.aB 1 rfl h3;refine Wa ?_;refine Qh (Qe (Qw (λn e1 H1=>∃(i:Nat) (cs:List CodeD) (c:C) (Lg:Ul),n=fns.length-i/\i<=fns.length/\cs.length=i/\(∀c∈cs,c.fits)/\Gr Lg 3 (Qm cs) c/\Kn H H1 [] ([(x2,.st [.sl true 3 []]),(x3,.st [c])]++Lg)/\
  e1=[(1,.c (.pp [.sl fl 3 (Cb fns)])),(2,Up x2),(3,Up x3),(4,Uv i)]) fns.length ?_ ?_))
 ·exact⟨0,[],_,[],ZB,ZB,rfl,ZD,.nil 3,kn,rfl⟩
 ·rintro n e1 H1 ⟨i,cs,c,Lg,cO,hi,cG,aR,aq,kn,rfl⟩;refine Q1 (Qa ?_);simp only[go_sem,D0];intro hl;simp only[LIM]at hl;have bG:=aq.ai;have fC:=kn.l 1 rfl;refine Wu ?_ ?_
  ·intro hc;have af:i<fns.length:=ZE
   have hm:=Jf af;refine Wl ?_;simp only[go_sem,fC,bG];refine Qb42 af (hp.par _ hm) (hp.ok _ hm) (by have:=TE hm;have:=hp.size;omega) λx H4 hu hxf=>?_;have kn:=kn.aw hu;have lI:=kn.l 1 rfl;simp only[go_sem,N9,lI,bG,CodeD.cells];refine kn.grow (B:=[_,_]) (new:=[x.cells]) aq (.mk' _ _ _ _) (by intro r hr;simp only[Jb]at hr;subst hr;rfl) (by simp only[Q8,LIM,Jn,Jo];omega) λy' H5 kn=>?_;have j6:=kn.l 1 rfl;simp only[go_sem,NB,j6];intro H6 h6;have kn:=kn.aB 1 rfl h6;refine Zg ?_;refine⟨Qs,fns.length-(i+1),ZB,i+1,cs++[x],_,_,rfl,ZB,by simp[cG],λc' cn=>by
    rcases Ji.1 cn with h|h
    ·exact aR c' h
    ·simp at h;subst h;exact hxf,?_,kn,rfl⟩
   rw[Qa0z];exact .mk _ _ _ (by simp[Q8])
  ·intro hc;have bh:fns.length<=i:=ZE
   have j8:=kn.l 0 rfl;refine Zb ?_;refine Zq fC j8 bG ?_;intro H2 h2;have kn:=kn.aB 0 rfl h2;have wF:=kn.l 0 rfl;refine Ql ?_;simp only[go_sem,Q4,BE,Jb,forall_eq,RS.op,wF,bG];exact⟨.ag [.sl false 3 (Qm cs)],FrzL.ag (.cons (aq.frz (B:=[_,_]) kn (Ey _)) .nil),hK _ _ kn.fin (by have:=hp.pos;omega) aR⟩
attribute [local instance] Classical.propDecidable
def CP (q:CodeD):Bool:=decide (0<=q.params/\q.params<=3)&&decide (q.params<=q.ae/\q.ae<=300)&&decide (1<=(q.blocks.length:Int)/\(q.blocks.length:Int)<=160)
def Co (y:BlkD):Nat:=y.ins.length+y.ab.length
def BU {α:Type}(f:α->Nat)(l:List α):Nat:=(l.map f).sum
theorem Fl {α:Type}{f:α->Nat}{l:List α}{i:Nat}(h:i<l.length):BU f (l.take (i+1))=BU f (l.take i)+f l[i]:=by
 rw[BU,BU,Jg h,Jv,Jaa];simp
theorem Gh {α:Type}{f:α->Nat}{l:List α}(i:Nat):BU f (l.take i)<=BU f l:=by
 have:BU f l=BU f (l.take i)+BU f (l.drop i):=by rw[BU,BU,BU,<-Jaa,<-Jv,Jam]
 omega
def Ci (q:CodeD):Nat:=BU Co q.blocks
def CL (cs:List CodeD)(k:Nat)(hk:k<cs.length):Prop:=CP cs[k]=true/\∀(b:Nat) (h:b<cs[k].blocks.length),Cs cs k b cs[k] cs[k].blocks[b]=true
def Hn (cs:List CodeD):Prop:=(1<=(cs.length:Int)/\(cs.length:Int)<=4)/\(∀(k:Nat) (h:k<cs.length),CL cs k h)/\BU Ci cs<=800
noncomputable def BP (cs:List CodeD):Bool:=decide (Hn cs)
theorem Rm {α:Type}{f:α->Nat}{l:List α}{x:α}(h:x∈l):f x<=BU f l:=by
 obtain⟨i,hi,rfl⟩:=Jaf h;have h1:=Gh (f:=f) (l:=l) (i+1);rw[Fl hi]at h1;omega
theorem Xi {cs:List CodeD}(h:BP cs=true){k:Nat}(hk:k<cs.length):cs[k].sg:=by
 obtain⟨_,h2,h3⟩:=of_decide_eq_true h;obtain⟨g1,g2⟩:=h2 k hk;have hq:Ci cs[k]<=BU Ci cs:=Rm (Jf hk);simp only[CP,Je,decide_eq_true_eq]at g1;refine⟨ZB,λy hy=>?_⟩;have nf:Co y<=BU Co cs[k].blocks:=Rm hy;simp only[Ci]at hq;simp only[Co]at nf;obtain⟨b,hb,rfl⟩:=Jaf hy;have g:=g2 b hb;have hn:=RH g;simp only[Cs,Je]at g;obtain⟨⟨_,ins⟩,ph⟩:=g;rw[J4]at ins ph;refine⟨ZB,ZB,ZB,λx hx=>?_,λx hx=>?_⟩
 ·have:=ins x hx;simp only[Cr,Je]at this;have h3:=this.2;rw[insL]at h3;split at h3
  ·simp only[Je,decide_eq_true_eq]at h3;have hn:x.n.toNat<cs.length:=ZB
   have:=(h2 x.n.toNat hn).1;simp only[CP,Je,decide_eq_true_eq]at this;rw[G2 hn]at h3;omega
  ·simp only[Je,decide_eq_true_eq]at h3;have:C3 x.op<=2:=by rw[C3];split <;> (try split) <;> (try split) <;> omega
   omega
 ·have:=ph x hx;simp only[phiG,Je,decide_eq_true_eq,Qn]at this;obtain⟨⟨⟨_,a1⟩,_⟩,_⟩:=this;have a3:=Es (λi=>(cs[k].blocks.map BlkD.next).getD i []) (b:Int) cs[k].blocks.length;omega
theorem FQ {cs:List CodeD}(aR:∀c∈cs,c.fits)(h:BP cs=true):cs.length<=4/\0<cs.length/\∀c∈cs,c.gd:=by
 obtain⟨h1,h2,_⟩:=of_decide_eq_true h;refine⟨ZB,ZB,λc hc=>?_⟩;obtain⟨k,hk,rfl⟩:=Jaf hc;obtain⟨g1,g2⟩:=h2 k hk;simp only[CP,Je,decide_eq_true_eq]at g1;refine⟨ZB,ZB,λb hb=>?_,λb hb=>aR _ (Jf hk) b hb,Xi h hk⟩;obtain⟨i,hi,rfl⟩:=Jaf hb;exact RH (g2 i hi)
theorem Ii {cs:List CodeD}(h:¬Hn cs):BP cs=false:=decide_eq_false h
theorem Xo {cs:List CodeD}{k j:Nat}(hk:k<cs.length)(hj:j<cs[k].blocks.length)(h:800<BU Ci (cs.take k)+BU Co (cs[k].blocks.take j)+Co cs[k].blocks[j]):¬Hn cs:=by
 rintro⟨_,_,h3⟩;have a1:=Gh (f:=Ci) (l:=cs) (k+1);rw[Fl hk]at a1;have a2:=Gh (f:=Co) (l:=cs[k].blocks) (j+1);rw[Fl hj]at a2;simp only[Ci]at *;omega
theorem IZ {cs:List CodeD}{fl:Bool}(aR:∀c∈cs,c.fits)(hK:∀(H':Heap),Upd H H' []->K (.c (.bool (BP cs))) H') :
  Qr prog Vo [.ag [.sl fl 3 (Qm cs)]] H K:=by
 refine Qy ?_;refine Qd BF Qanv ?_;have retf:∀(b:Bool) (e:Env) (H':Heap) (L:Ul),BP cs=b->Kn H H' [] L->lk 2 e=.c (.bool b)->Q4 BH (unK H K) .ret e H':=by
  intro b e H' L hb kn h3;simp only[go_sem,Q4,BE,Jb,forall_eq,RS.op,h3];rw[<-hb];exact⟨_,.c _ _ (Qg rfl),hK _ kn.fin⟩
 have kn:=Kn.an H;refine Wh ?_;simp only[go_sem,Q8];intro cG;refine CG ?_;simp only[go_sem,Qlw];refine Wu ?_ ?_
 ·intro hc;refine We ?_;exact retf false _ _ _ (Ii λhu=>by have:=of_decide_eq_false (Dd hc);exact this hu.1) kn ZC
 intro hc;have ef:cs.length<=4/\0<cs.length:=by
  have:1<=(cs.length:Int)/\(cs.length:Int)<=4:=ZE
  omega
 refine Zd ?_;refine Wj ?_;refine Qh (Qe (Qw (λm e1 H1=>∃(k n:Nat),m=cs.length-k/\k<=cs.length/\n=BU Ci (cs.take k)/\n<=800/\(∀(i:Nat) (hi:i<cs.length),i<k->CL cs i hi)/\Kn H H1 [] []/\e1=[(1,.c (.pp [.sl fl 3 (Qm cs)])),(3,Uv n),(4,Uv k)]) cs.length ?_ ?_))
 ·exact⟨0,0,ZB,ZB,rfl,ZB,λ_ _ h=>ZB,kn,rfl⟩
 ·rintro m e1 H1 ⟨k,n,hm,hk,dA,hn,bm,kn,rfl⟩;refine Q1 (Qa ?_);simp only[go_sem,Q8];intro cG;refine Wu ?_ ?_
  ·intro hc;have af:k<cs.length:=ZE
   refine Wm ?_;simp only[go_sem,af,Q8,Do _ _ af,CodeD.cells];obtain⟨q,hq⟩:∃q,cs[k]=q:=⟨_,rfl⟩;rw[hq];intro x5 bq H2 h2;have kn:=kn.al bq h2;have lG:=kn.l 0 rfl;simp only[go_sem,Qlx,lG];intro H3 h3;have kn:Kn H H3 [] [(x5,.st [Ui q.params,Ui q.ae,.sl false 5 (Qo q.blocks)])]:=kn.aB 0 rfl h3;have eY:=kn.l 0 rfl;refine Q1 (Qa ?_);simp only[go_sem,eY];refine CG ?_;simp only[go_sem,Qly,eY];have rest:∀(b:Bool) (E1:Env),lk 1 E1=.c (.pp [.sl fl 3 (Qm cs)])->lk 3 E1=Uv n->lk 4 E1=Uv k->lk 5 E1=Up x5->lk 42 E1=.c (.bool b)->CP q=(!b)->
     BI prog (s_sp_UnitValid_6.seq Qlv) (X.inBlock 1 (X.sq prog SD (X.next (λe2 H2=>∃m_1,m_1<m/\∃(k n:Nat),m_1=cs.length-k/\k<=cs.length/\n=BU Ci (cs.take k)/\n<=800/\(∀(i:Nat) (hi:i<cs.length),i<k->CL cs i hi)/\Kn H H2 [] []/\e2=[(1,.c (.pp [.sl fl 3 (Qm cs)])),(3,Uv n),(4,Uv k)])
      (X.inBlock 0 (X.sq prog V4 (Q4 BH (unK H K))))))) E1 H3:=by
    intro b E1 l1 l3 l4 l5 l42 hb;refine Qh (Qf l42 ?_ ?_)
    ·intro aD;refine Wn ?_;exact retf false _ _ _ (Ii λhu=>by have:=(hu.2.1 k af).1;rw[hq,hb,aD]at this;simp at this) kn ZC
    intro aD;rw[aD]at hb;have aW:=hb;simp only[CP,Ju,Je,decide_eq_true_eq]at aW;obtain⟨bE,cI,eV,bu⟩:0<=q.ae/\q.ae<=300/\0<q.blocks.length/\q.blocks.length<=160:=ZB;refine Zd ?_;refine Qa ?_;simp only[go_sem,l1,l3,l4,l5];refine Qe (Qw (λm e1 H1=>∃(j n2:Nat),m=q.blocks.length-j/\j<=q.blocks.length/\n2=n+BU Co (q.blocks.take j)/\n2<=800/\(∀(i:Nat) (hi:i<q.blocks.length),i<j->Cs cs k i q q.blocks[i]=true)/\Kn H H1 [] [(x5,.st [Ui q.params,Ui q.ae,.sl false 5 (Qo q.blocks)])]/\
     e1=[(1,.c (.pp [.sl fl 3 (Qm cs)])),(3,Uv n2),(4,Uv k),(5,Up x5),(6,Uv j)]) q.blocks.length ?_ ?_)
    ·exact⟨0,n,ZB,ZB,rfl,hn,λ_ _ h=>ZB,kn,rfl⟩
    ·rintro m2 e1 H4 ⟨j,n2,fw,hj,yf,jw,fj,kn,rfl⟩;have gA:=kn.l 0 rfl;refine Q1 (Qa ?_);simp only[go_sem,gA,Qn];intro uL;refine Wu ?_ ?_
     ·intro bA;have cN:j<q.blocks.length:=ZT;refine Wc ?_;have sb:=aR _ (Jf af);rw[hq]at sb;have pE:=sb _ (Jf cN);have qq:=Fl (f:=Co) cN;have gO:Co q.blocks[j]=q.blocks[j].ins.length+q.blocks[j].ab.length:=rfl;refine BM ?_;simp only[go_sem,gA,cN,Qn,Cy _ _ cN,BlkD.cells,Cv,Q0];refine⟨Qs,Qs,?_⟩;refine Za ?_;have fin:∀(b3:Bool) (E1:Env) (H5:Heap),(decide (n2+Co q.blocks[j]<=800)&&Cs cs k j q q.blocks[j])=(!b3)->Kn H H5 [] [(x5,.st [Ui q.params,Ui q.ae,.sl false 5 (Qo q.blocks)])]->lk 1 E1=.c (.pp [.sl fl 3 (Qm cs)])->
        lk 3 E1=Uv ((n2+q.blocks[j].ins.length+q.blocks[j].ab.length:Nat):Int)->lk 4 E1=Uv k->lk 5 E1=Up x5->lk 6 E1=Uv j->lk 75 E1=.c (.bool b3)->
        BI prog Qo6 (X.inBlock 3 (X.sq prog Qlu (X.next (λe2 H2=>∃m,m<m2/\∃(j n2:Nat),m=q.blocks.length-j/\j<=q.blocks.length/\n2=n+BU Co (q.blocks.take j)/\n2<=800/\(∀(i:Nat) (hi:i<q.blocks.length),i<j->Cs cs k i q q.blocks[i]=true)/\Kn H H2 [] [(x5,.st [Ui q.params,Ui q.ae,.sl false 5 (Qo q.blocks)])]/\
         e2=[(1,.c (.pp [.sl fl 3 (Qm cs)])),(3,Uv n2),(4,Uv k),(5,Up x5),(6,Uv j)])
         (X.inBlock 2 (X.inBlock 1 (X.sq prog SD (X.next (λe2 H2=>∃m_1,m_1<m/\∃(k n:Nat),m_1=cs.length-k/\k<=cs.length/\n=BU Ci (cs.take k)/\n<=800/\(∀(i:Nat) (hi:i<cs.length),i<k->CL cs i hi)/\Kn H H2 [] []/\e2=[(1,.c (.pp [.sl fl 3 (Qm cs)])),(3,Uv n),(4,Uv k)])
         (X.inBlock 0 (X.sq prog V4 (Q4 BH (unK H K))))))))))) E1 H5:=by
       intro b3 E1 H5 o8 kn l1 l3 l4 l5 l6 l75;refine Qf l75 ?_ ?_
       ·intro ef;refine Wn ?_;refine retf false _ _ _ (Ii λhu=>?_) kn ZC;rw[ef]at o8;have cr:=(hu.2.1 k af).2 j (by rw[hq];exact cN);subst hq;have AF:¬800<n2+Co cs[k].blocks[j]:=λho=>Xo af cN ZB hu;rw[cr]at o8;simp at o8;omega
       ·intro ef;rw[ef]at o8;simp only[Ju,Je,decide_eq_true_eq]at o8;refine Zd ?_;refine Qp ?_;simp only[go_sem,X.next,l1,l3,l4,l5,l6];refine⟨Qs,q.blocks.length-(j+1),ZB,j+1,_,rfl,ZB,?_,?_,?_,kn,rfl⟩
        ·rw[qq];omega
        ·omega
        ·intro i hi gL;by_cases yO:i<j
         ·exact fj i hi yO
         ·have:i=j:=ZB;subst this;exact o8.2
      refine⟨λba=>?_,λba=>?_⟩
      ·refine Qbrc af (by rw[hq];exact cN) (by rw[hq];exact bE) (by rw[hq];exact cI) ZB (by rw[hq];omega) λH5 hu=>?_;have kn:=kn.aw hu;simp only[go_sem,V2];refine fin _ _ _ ?_ kn ZC ZC ZC ZC ZC ZJ;subst hq;by_cases ho:n2+Co cs[k].blocks[j]<=800
       ·have fN:¬800<(n2:Int)+cs[k].blocks[j].ins.length+cs[k].blocks[j].ab.length:=(by simp only[Co]at ho;omega);simp[ho,fN]
       ·have fN:800<(n2:Int)+cs[k].blocks[j].ins.length+cs[k].blocks[j].ab.length:=(by simp only[Co]at ho;omega);simp[ho,fN]
      ·replace ba:=Ct ba;simp only[go_sem,V2,ba];exact fin true _ _ (by simp at ba;simp[gO];omega) kn ZC ZC ZC ZC ZC ZC
     ·intro bA;refine Zb ?_;refine Zg ?_;have AU:q.blocks.length<=j:=ZT;have AU:j=q.blocks.length:=ZB;refine⟨Qs,cs.length-(k+1),ZB,k+1,n2,rfl,ZB,?_,jw,?_,kn.drop (A:=[]),rfl⟩
      ·rw[Fl af,hq,yf,dA,AU,Ja0];rfl
      ·intro i hi AX;by_cases yN:i<k
       ·exact bm i hi yN
       ·have:i=k:=ZB;subst this;subst hq;exact⟨by rw[hb];rfl,λb bu=>fj b bu ZB⟩
   refine⟨λba=>?_,λba=>?_⟩
   ·refine CG ?_;simp only[go_sem,V3,eY,Qn];intro Bj;refine⟨λcp=>?_,λcp=>?_⟩
    ·replace cp:=Dd cp;refine CG ?_;simp only[go_sem,SR];refine rest _ _ ZC ZC ZC ZC ZJ ?_;simp[CP]
    ·replace cp:=Ct cp;simp only[go_sem,SR,cp];exact rest true _ ZC ZC ZC ZC ZC (by simp at cp;simp[CP];omega)
   ·replace ba:=Ct ba;simp only[go_sem,V3,SR,ba,eY,Qn,cond_true];exact rest true _ ZC ZC ZC ZC ZC (by simp at ba;simp[CP];omega)
  ·intro hc;refine Wb ?_;refine Ql ?_;have oq:cs.length<=k:=ZE
   refine retf true _ _ _ (decide_eq_true ⟨ZB,λi hi=>bm i hi ZB,?_⟩) kn ZC;rw[Jc oq]at dA;omega
theorem Qbaz {cs:List CodeD}{fl:Bool}(aR:∀c∈cs,c.fits)(hK:∀(b:Bool) (H':Heap),(b=true->cs.length<=4/\0<cs.length/\∀c∈cs,c.gd)->Upd H H' []->K (.c (.bool b)) H') :
  Qr prog Vo [.ag [.sl fl 3 (Qm cs)]] H K:=IZ aR λH' hu=>hK _ H' (FQ aR) hu
end Go.AE.Y
namespace Go.AE.Y
open Go.Proofs.Tryz
variable {H:Heap}{K:Uk}
def UnitOk (cs:List CodeD):Prop:=0<cs.length/\cs.length<=4/\∀c∈cs,c.gd
theorem Rx {R:Rdr}{k:Nat}(hH:H R.l=R.o k)(hk:k+7100000<=2^30)
  (hK:∀(cs:List CodeD) (H':Heap) (k':Nat),k<k'->k'<=k+7050000->Upd H H' [(R.l,R.o k')]->UnitOk cs->K (.ag [.sl false 3 (Qm cs)]) H') :
  Qr prog Nm [.c (.ptr R.l 0)] H K:=by
 refine Qy ?_;refine Qd BF Qbrl ?_;refine Za ?_;intro x2 aI H1 h1;have kn:=(Kn.start1 hH (R.ao k)).al aI h1;have tail:∀(E1:Env) (H2:Heap) (k1:Nat) (L:Ul),k<k1->k1<=k+7000500->Kn H H2 [(R.l,R.o k1)] ([(x2,.st [.sl true 3 []])]++L)->lk 0 E1=.c (.ptr R.l 0)->lk 2 E1=Up x2->
   BI prog OM (Q4 BQ (unK H K)) E1 H2:=by
  intro E1 H2 k1 L iM fy kn l0 l2;refine Zj l0 ?_;refine Lm (kn.e 0 rfl) ZB λcs H3 k2 jJ ja hu mH uE js=>?_;have kn:=kn.au 0 rfl hu (R.ao _);have aI:=kn.l 0 rfl;simp only[go_sem,Q82,aI,l2];intro H4 h4;have kn:=kn.aB 0 rfl h4;have aI:=kn.l 0 rfl;refine Zu aI ?_;exact⟨_,FrzL.ag (.cons (FrzR.same (Ey cs)).sl .nil),hK cs _ k2 ZB ZB kn.fin ⟨mH,ZB,λc hc=>(js c hc).gd⟩⟩
 refine Wa ?_;refine Cg (kn.e 0 rfl) ZB λv H2 hv hu=>?_;have kn:=kn.au 0 rfl hu (R.ao _);simp only[go_sem,Q8y];refine Wu ?_ ?_
 ·intro hc;refine Za ?_;refine Y9 (kn.e 0 rfl) ZB λl H3 k1 iM fy hu hp=>?_;have kn:=kn.au 0 rfl hu (R.ao _);simp only[go_sem,Q81];refine YZ hp λcs H4 hu mH aR=>?_;have kn:=kn.aw hu;simp only[go_sem,FP];intro x3 aL H5 h5;have kn:=kn.al aL h5;have aL:=kn.l 1 rfl;simp only[go_sem,EL,aL];intro H6 h6;have kn:=kn.aB 1 rfl h6;have aL:=kn.l 1 rfl;refine Zj aL ?_;refine Qbaz aR λb H7 hb hu=>?_;have kn:=kn.aw hu;have aL:=kn.l 1 rfl;have aI:=kn.l 0 rfl;refine Wv ?_ ?_
  ·intro ba;refine Zm aL aI ?_;intro H8 h8;have kn:=kn.aB 0 rfl h8;have aI:=kn.l 0 rfl;refine Zu aI ?_;obtain⟨g1,g2,g3⟩:=hb ba;exact⟨_,FrzL.ag (.cons (FrzR.same (Ey cs)).sl .nil),hK cs _ k1 ZB ZB kn.fin ⟨g2,g1,g3⟩⟩
  ·intro ba;refine Zd ?_;exact tail _ _ k1 [(x3,.st [.sl false 3 (Qm cs)])] ZB ZB kn ZC ZC
 ·intro hc;refine Zd ?_;exact tail _ _ (k+1) [] ZB ZB kn ZC ZC
theorem Ry {R:Rdr}{k:Nat}(hH:H R.l=R.o k)(hk:k+7200000<=2^30)
  (hK:∀(cs:List CodeD) (H':Heap) (k':Nat),k<k'->k'<=k+7100000->Upd H H' [(R.l,R.o k')]->UnitOk cs->K (.ag [.sl false 3 (Qm cs)]) H') :
  Qr prog Nw [.c (.ptr R.l 0)] H K:=by
 refine Qy ?_;refine Qd BF Qbrh ?_;refine Za ?_;intro x2 aI H1 h1;have kn:=(Kn.start1 hH (R.ao k)).al aI h1;refine Wa ?_;refine Cg (kn.e 0 rfl) ZB λv H2 hv hu=>?_;have kn:=kn.au 0 rfl hu (R.ao _);simp only[go_sem,Tb];refine Wu ?_ ?_
 ·intro hc;refine Za ?_;refine Y8 (kn.e 0 rfl) ZB λcs H3 k2 jJ ja hu mH uE bm=>?_;have kn:=kn.au 0 rfl hu (R.ao _);have aI:=kn.l 0 rfl;simp only[go_sem,Ta,aI];intro H4 h4;have kn:=kn.aB 0 rfl h4;have aI:=kn.l 0 rfl;refine Zu aI ?_;exact⟨_,FrzL.ag (.cons (FrzR.same (Ey cs)).sl .nil),hK cs _ k2 ZB ZB kn.fin ⟨mH,ZB,bm⟩⟩
 ·intro hc;refine Zd ?_;refine Za ?_;refine Rx (kn.e 0 rfl) ZB λcs H3 k2 jJ ja hu ax=>?_;have kn:=kn.au 0 rfl hu (R.ao _);have aI:=kn.l 0 rfl;simp only[go_sem,SZ,aI];intro H4 h4;have kn:=kn.aB 0 rfl h4;have aI:=kn.l 0 rfl;refine Zu aI ?_;exact⟨_,FrzL.ag (.cons (FrzR.same (Ey cs)).sl .nil),hK cs _ k2 ZB ZB kn.fin ax⟩
theorem Qbq8 {fl:Bool}{bs:List UInt8}(hK:∀(R:Rdr) (H':Heap),H R.l=.none->H'=H.set R.l (R.o 0)->K (.c (.ptr R.l 0)) H'):Qr prog Na [.c (.sl fl 1 (C7 bs))] H K:=by
 refine Qd BF Qbrz ?_;refine Wh ?_;simp only[go_sem,EE];intro _;have tail:∀(fl:Bool) (bs:List UInt8) (E1:Env),lk 0 E1=.c (.sl fl 1 (C7 bs))->BI prog O5 (Q4 BH K) E1 H:=by
  intro fl bs E1 l0;refine Zj l0 ?_;intro l hl H' h';simp only[go_sem,Q98];refine Zf ?_;exact hK ⟨l,fl,bs⟩ H' hl h'
 refine Wu ?_ ?_
 ·intro hc;have h2:(2000:Int)<bs.length:=ZE
  refine Qp ?_;simp only[go_sem,EE];refine⟨⟨ZB,ZB,ZB⟩,?_⟩;have ht:List.take 2000 (C7 bs)=C7 (bs.take 2000):=by simp[C7,Jba]
  rw[ht];exact tail _ (bs.take 2000) _ ZJ
 ·intro hc;refine Qi ?_;exact tail fl bs _ ZC
end Go.AE.Y
namespace Go.AE.Y
def C1 (n:Nat)(nx:Nat->List Int):Bool:=(List.range n).all (λi=>(nx i).all λx=>decide (0<=x/\x<=(n:Int)-1))&&decide (0<n)
def nxN (nx:Nat->List Int)(b:Nat):List Nat:=(nx b).map Int.toNat
theorem Tq {n:Nat}{nx:Nat->List Int}(h:C1 n nx=true){b:Nat}(hb:b<n){x:Int}(hx:x∈nx b):0<=x/\x<=(n:Int)-1:=by
 simp only[C1,Je,J4,Jy,decide_eq_true_eq]at h;exact h.1 b hb x hx
theorem GA {n:Nat}{nx:Nat->List Int}(h:C1 n nx=true):0<n:=by
 simp only[C1,Je,decide_eq_true_eq]at h;exact h.2
theorem EV {n:Nat}{nx:Nat->List Int}(h:C1 n nx=true){b:Nat}(hb:b<n){x:Nat}(hx:x∈nxN nx b):x<n:=by
 obtain⟨y,hy,rfl⟩:=Js.1 hx;have:=Tq h hb hy;omega
inductive Dfs (g:Nat->List Nat):List Nat->List Bool->List Nat->List Bool->List Nat->Prop
 |nil (S:List Bool) (o:List Nat):Dfs g [] S o S o
 |skip {x:Nat} {xs:List Nat} {S S':List Bool} {o o':List Nat}:S.getD x false=true->Dfs g xs S o S' o'->Dfs g (x::xs) S o S' o'
 |go {x:Nat} {xs:List Nat} {S S1 S':List Bool} {o o1 o':List Nat}:S.getD x false=false->Dfs g (g x) (S.set x true) o S1 o1->Dfs g xs S1 (o1++[x]) S' o'->Dfs g (x::xs) S o S' o'
variable {g:Nat->List Nat}{xs:List Nat}{S S' S1:List Bool}{o o' o1:List Nat}
theorem Dfs.app (h:Dfs g xs S o S1 o1):∀{ys:List Nat},Dfs g ys S1 o1 S' o'->Dfs g (xs++ys) S o S' o':=by
 induction h with
 |nil S o=>exact λh=>h
 |skip h1 h2 ih=>exact λh=>.skip h1 (ih h)
 |go h1 h2 h3 ih1 ih2=>exact λh=>.go h1 h2 (ih2 h)
theorem Dfs.one {x:Nat}(h1:S.getD x false=false)(h:Dfs g (g x) (S.set x true) o S1 o1):Dfs g [x] S o S1 (o1++[x]):=.go h1 h (.nil _ _)
theorem Dfs.len (h:Dfs g xs S o S' o'):S'.length=S.length:=by
 induction h with
 |nil=>rfl
 |skip _ _ ih=>exact ih
 |go _ _ _ ih1 ih2=>rw[ih2,ih1,Jk]
theorem G9 (S:List Bool)(x y:Nat):(S.set x true).getD y false=(if y=x/\x<S.length then true else S.getD y false):=by
 simp only[Ja,Jaj];by_cases h:x=y
 ·subst h;by_cases h2:x<S.length
  ·simp[h2]
  ·simp[h2]
 ·have h':¬y=x:=λhh=>h hh.symm;simp[h,h']
theorem Dfs.mono (h:Dfs g xs S o S' o'):∀x,S.getD x false=true->S'.getD x false=true:=by
 induction h with
 |nil=>exact λ_ h=>h
 |skip _ _ ih=>exact ih
 |go _ _ _ ih1 ih2=>
  intro x hx;refine ih2 x (ih1 x ?_);rw[G9];split
  ·rfl
  ·exact hx
def cnt (S:List Bool):Nat:=S.count true
theorem I9 {x:Nat}(hx:x<S.length)(h:S.getD x false=false):cnt (S.set x true)=cnt S+1:=by
 induction S generalizing x with
 |nil=>simp at hx
 |cons a S ih=>
  cases x with
  |zero=>
   simp at h;subst h;simp[cnt]
  |succ x=>
   have:=ih (x:=x) ZaX ZL;simp only[cnt,Jbc,Jbm]at this⊢;omega
theorem G0 (S:List Bool):cnt S<=S.length:=List.count_le_length
theorem Dfs.count (h:Dfs g xs S o S' o'):(∀x,x<S.length->∀y∈g x,y<S.length)->(∀x∈xs,x<S.length)->o'.length+cnt S=o.length+cnt S':=by
 induction h with
 |nil=>intros;rfl
 |skip _ _ ih=>exact λh1 h2=>ih h1 λx hx=>h2 x (Jj _ hx)
 |@go x xs S S1 S' o o1 o' h1 h2 h3 ih1 ih2=>
  intro hg kT;have hx:=kT x Jm;have e1:=ih1 Zak (by simpa using hg x hx);have hl:=h2.len;rw[Jk]at hl;have e2:=ih2 (by rw[hl];exact hg) (by rw[hl];exact λy hy=>kT y (Jj _ hy));rw[I9 hx h1]at e1;simp only[J8,Jn,Jo]at e2;omega
theorem Dfs.olen (h:Dfs g xs S o S' o'):o.length<=o'.length:=by
 induction h with
 |nil=>exact Jl _
 |skip _ _ ih=>exact ih
 |go _ _ _ ih1 ih2=>rw[J8]at ih2;omega
theorem Dfs.all (h:Dfs g xs S o S' o'):∀P:Nat->Prop,(∀x,P x->∀y∈g x,P y)->(∀x∈xs,P x)->(∀x∈o,P x)->∀x∈o',P x:=by
 induction h with
 |nil=>exact λP _ _ h=>h
 |skip _ _ ih=>exact λP h1 h2 h3=>ih P h1 (λx hx=>h2 x (Jj _ hx)) h3
 |go h1 h2 h3 ih1 ih2=>
  intro P hg kT ho;have hx:=kT _ Jm;refine ih2 P hg (λy hy=>kT y (Jj _ hy)) λy hy=>?_;rcases Ji.1 hy with hy|hy
  ·exact ih1 P hg (hg _ hx) ho y hy
  ·simp at hy;subst hy;exact hx
end Go.AE.Y
namespace Go.AE.Y
open Go.Proofs.Tryz
variable {H:Heap}{K:Uk}
structure GRd (H:Heap)(c:C)(rows:List (List C))(nx:Nat->List Int):Prop where
 s:Slc H 5 rows c
 ow:c.ai=false
 no:∀r∈rows,ak r=true
 x:∀i,i<rows.length->∃a1 a2 a3 a4 fl,rows.getD i []=[a1,a2,a3,a4,.sl fl 1 (Qb (nx i))]
theorem GRd.keep {c:C}{rows:List (List C)}{nx:Nat->List Int}{H':Heap}{E L:Ul}(h:GRd H c rows nx)(kn:Kn H H' E L)(hE:∀l a b d,c=.ah l a b d->l∉E.map Prod.fst):GRd H' c rows nx:=⟨h.s.keep kn hE,h.ow,h.no,h.x⟩
theorem GRd.keep0 {c:C}{rows:List (List C)}{nx:Nat->List Int}{H':Heap}{L:Ul}(h:GRd H c rows nx)(kn:Kn H H' [] L):GRd H' c rows nx:=h.keep kn ZD
def gnx (q:CodeD):Nat->List Int:=λi=>(q.blocks.map BlkD.next).getD i []
theorem E5 (H:Heap)(q:CodeD)(fl:Bool):GRd H (.sl fl 5 (Qo q.blocks)) (Qo q.blocks) (gnx q):=by
 refine⟨.mk' _ _ _ _,rfl,T2 _,λi h=>?_⟩;rw[Qn]at h;rw[Cy _ _ h];have:gnx q i=q.blocks[i].next:=by simp[gnx,Ja,h]
 exact⟨.sl false 2 (Q6 q.blocks[i].ab),.sl false 4 (BJ q.blocks[i].ins),Ui q.blocks[i].jump,Ui q.blocks[i].on,false,by rw[this];rfl⟩
theorem Qbqv {p rg:Int}{bc:C}{rows:List (List C)}{nx:Nat->List Int}(hg:GRd H bc rows nx)(hK:K (.c (.bool (C1 rows.length nx))) H):Qr prog Nv [.ag [Ui p,Ui rg,bc]] H K:=by
 refine Qd BF Qbrj ?_;have bt:=hg.ow;have ax:=eq_true hg.s.ok;have am:=hg.s.len;have bp:=hg.s.sz;have ew:=hg.s.rows;have retf:∀(b:Bool) (e:Env),b=C1 rows.length nx->lk 2 e=.c (.bool b)->Q4 BH K .ret e H:=by
  intro b e hb h3;simp only[go_sem,Q4,BE,Jb,forall_eq,RS.op,h3];rw[hb];exact hK
 refine Wj ?_;refine Qh (Qe (Qw (λm e1 H1=>∃(i:Nat),m=rows.length-i/\i<=rows.length/\H1=H/\(∀j,j<i->∀x∈nx j,0<=x/\x<=(rows.length:Int)-1)/\e1=[(1,.c (.pp [Ui p,Ui rg,bc])),(3,Uv i)]) rows.length ?_ ?_))
 ·exact⟨0,ZB,ZB,rfl,λj hj=>ZB,rfl⟩
 ·rintro m e1 H1 ⟨i,hm,hi,rfl,bT,rfl⟩;refine Q1 (Qa ?_);simp only[go_sem,bt,ax,am];intro hl;simp only[LIM]at hl;refine Wu ?_ ?_
  ·intro hc;have af:i<rows.length:=ZE
   obtain⟨a1,a2,a3,a4,fl,aC⟩:=hg.x i af;refine Zd ?_;refine Ck (λe2 H2=>H2=H1/\(∀x∈nx i,0<=x/\x<=(rows.length:Int)-1)/\lk 1 e2=.c (.pp [Ui p,Ui rg,bc])/\lk 3 e2=Uv i) ?_ ?_
   ·intro Q hn hr _;refine Wq ?_;refine Qe (Qw (λm e1 H2=>∃(k:Nat),m=(nx i).length-k/\k<=(nx i).length/\H2=H1/\(∀x∈(nx i).take k,0<=x/\x<=(rows.length:Int)-1)/\e1=[(1,.c (.pp [Ui p,Ui rg,bc])),(3,Uv i),(4,Uv k)]) (nx i).length ?_ ?_)
    ·exact⟨0,ZB,ZB,rfl,ZD,rfl⟩
    ·rintro m2 e1 H2 ⟨k,fw,hk,rfl,ge,rfl⟩;refine Q1 (Qa ?_);simp only[go_sem,bt,ax,am,bp,ew,af,aC,Qc];intro kB;simp only[LIM]at kB;refine Wu ?_ ?_
     ·intro hc;have aT:k<(nx i).length:=ZE;have bm:(nx i).getD k 0=(nx i)[k]:=(by simp[Ja,aT]);refine Wc ?_;refine BM ?_;simp only[go_sem,bt,ax,am,bp,ew,af,aC,aT,Qc,Qk _ _ aT,bm];refine⟨Qs,?_⟩;refine CG ?_;simp only[go_sem,Q8q];refine Wv ?_ ?_
      ·intro aD;refine Wn ?_;refine hr _ _ (retf false _ ?_ ZC)
       cases hf:C1 rows.length nx with
       |false=>rfl
       |true=>
        have:=Tq hf af (Jf aT);simp at aD;omega
      ·intro aD;refine Wk ?_;refine⟨Qs,(nx i).length-(k+1),ZB,k+1,rfl,ZB,λx hx=>?_,rfl⟩;rw[Jg aT]at hx;rcases Ji.1 hx with hx|hx
       ·exact ge x hx
       ·simp only[Jb]at hx;subst hx;simpa using aD
     ·intro hc;have bh:(nx i).length<=k:=ZE;rw[Jc bh]at ge;refine Zb ?_;exact hn _ _ ⟨rfl,ge,ZC,ZC⟩
   ·rintro e2 H2 ⟨rfl,hx,l1,l3⟩;refine Qp ?_;simp only[go_sem,X.next,l1,l3];refine⟨Qs,rows.length-(i+1),ZB,i+1,rfl,ZB,λj hj=>?_,rfl⟩;by_cases h:j<i
    ·exact bT j h
    ·have:j=i:=ZB;subst this;exact hx
  ·intro hc;have bh:i=rows.length:=by have:¬i<rows.length:=ZE;omega
   subst bh;refine Zb ?_;refine Zq bt ax am ?_;intro _;refine Ql ?_;refine retf _ _ ?_ ZJ;have:(List.range rows.length).all (λi=>(nx i).all λx=>decide (0<=x/\x<=(rows.length:Int)-1))=true:=by
    simp only[J4,Jy,decide_eq_true_eq];exact bT
   simp only[C1,this,Jbo];try (by_cases h:0<rows.length <;> simp[h])
end Go.AE.Y
namespace Go.AE.Y
open Go.Proofs.Tryz
def Qv (S:List Bool):List (List C):=S.map λb=>[.bool b]
theorem Q3 (S:List Bool):(Qv S).length=S.length:=by simp[Qv]
theorem Q7 (S:List Bool)(i:Nat)(h:i<S.length):(Qv S).getD i []=[.bool (S.getD i false)]:=by
 simp[Qv,Ja,h]
theorem Et (S:List Bool)(i:Nat)(b:Bool):(Qv S).set i [.bool b]=Qv (S.set i b):=by simp[Qv,Jbj]
theorem S3 (S:List Bool):∀r∈Qv S,ak r=true:=by intro r hr;obtain⟨x,_,rfl⟩:=Js.1 hr;rfl
def BK (l:List Nat):List (List C):=Qb (l.map Int.ofNat)
theorem Q5 (l:List Nat):(BK l).length=l.length:=by simp[BK,Qc]
theorem Pi (l:List Nat)(n:Nat):BK l++[[Ui (n:Int)]]=BK (l++[n]):=by simp[BK,Qb]
theorem ED (l:List Nat):∀r∈BK l,ak r=true:=Qq _
theorem Q5g {F:Heap}{p rg:Int}{bc:C}{rows:List (List C)}{nx:Nat->List Int}{y:Nat}(aR:C1 rows.length nx=true)(hn:rows.length<=1000000)(hg:GRd F bc rows nx)(cF:∀l a b d,bc=.ah l a b d->l≠y) :
  ∀(u b:Nat) (S:List Bool) (o:List Nat) (oc:C) (Lg:Ul) (H:Heap) (K:V->Heap->Prop),S.length=rows.length->rows.length-cnt S<=u->b<rows.length->S.getD b false=false->
   Kn F H [(y,.vec 1 (Qv S))] ([]++Lg)->Gr Lg 1 (BK o) oc->o.length<=cnt S->
   (∀(S':List Bool) (o':List Nat) (oc':C) (Lg':Ul) (H':Heap),Dfs (nxN nx) [b] S o S' o'->Kn F H' [(y,.vec 1 (Qv S'))] ([]++Lg')->Gr Lg' 1 (BK o') oc'->K (.c oc') H')->
   Qr prog Pb [.ag [Ui p,Ui rg,bc],Uv b,.c (.ah y 1 0 rows.length),.c oc] H K:=by
 intro u
 induction u with
 |zero=>
  intro b S o oc Lg H K hS hu hb fS;have h1:=I9 (S:=S) (x:=b) ZB fS;have h2:=G0 (S.set b true);rw[Jk]at h2;omega
 |succ u ih=>
  intro b S o oc Lg H K hS hu hb fS kn aq eS hK;have bt:=hg.ow;have rG:b<S.length:=ZB
  obtain⟨a1,a2,a3,a4,fl,aC⟩:=hg.x b hb;have bp:=hg.s.sz;have am:=hg.s.len;have hy:=kn.e 0 rfl;have kA:=aq.ai;refine Qd BF Qbl4 ?_;refine Wf ?_;have bF:List.take rows.length (Qv S)=Qv S:=Jc Zan;simp only[go_sem,hy,hb,Q3,hS,Q7 _ _ rG,Et,J6,Jq,Jl];intro H1 h1;have kn:=kn.stE 0 rfl h1;have hcS:=I9 rG fS;have mg:(nxN nx b).length=(nx b).length:=by simp[nxN]
  refine Wa ?_;refine Qh (Qe (Qw (λm e1 H1=>∃(i:Nat) (S1:List Bool) (o1:List Nat) (oc1:C) (Lg1:Ul),m=(nx b).length-i/\i<=(nx b).length/\Dfs (nxN nx) ((nxN nx b).take i) (S.set b true) o S1 o1/\
   Kn F H1 [(y,.vec 1 (Qv S1))] ([]++Lg1)/\Gr Lg1 1 (BK o1) oc1/\
   e1=[(1,Uv b),(2,.c (.ah y 1 0 rows.length)),(3,.c oc1),(4,.c (.pp [Ui p,Ui rg,bc])),(9,Uv i)]) (nx b).length ?_ ?_))
  ·exact⟨0,_,o,oc,Lg,ZB,ZB,.nil _ _,kn,aq,rfl⟩
  ·rintro m e1 H2 ⟨i,S1,o1,oc1,Lg1,hm,hi,hd,kn,aq,rfl⟩;have bm:∀x,x<(S.set b true).length->∀z∈nxN nx x,z<(S.set b true).length:=by
    rw[Jk,hS];exact λx hx z hz=>EV aR hx hz
   have dv:=hd.len;rw[Jk,hS]at dv;have eU:=hd.count bm (λx hx=>bm b (by rw[Jk];exact rG) x (Jac hx));have hd3:=hd.olen;have hd4:=G0 S1;have cZ:=hg.keep kn (λl a b d hh=>by simpa using cF l a b d hh);have iw:=eq_true cZ.s.ok;have qu:=cZ.s.rows;have hy:=kn.e 0 rfl;refine Q1 (Qa ?_);simp only[go_sem,bt,iw,am,bp,qu,hb,aC,Qc];intro hl;simp only[LIM]at hl;refine Wu ?_ ?_
   ·intro hc;have af:i<(nx b).length:=ZE;obtain⟨w,hw⟩:∃w:Nat,(nx b).getD i 0=w:=by
     have h1:=Tq aR hb (Jf af);refine⟨((nx b)[i]).toNat,?_⟩;simp only[Ja,Jh af,Jae];omega
    have eQ:(nxN nx b).take (i+1)=(nxN nx b).take i++[w]:=by
     rw[Jg (by rw[mg];exact af)];congr 1;simp only[nxN,Jaz];simp only[Ja,Jh af,Jae]at hw;rw[hw];simp
    have gk:w<rows.length:=EV aR hb (x:=w) (by
     have:w∈(nxN nx b).take (i+1):=(by rw[eQ];simp);exact Jac this)
    have wH:w<S1.length:=ZB;refine Zd ?_;refine Ck (λe2 H2=>∃(S2:List Bool) (o2:List Nat) (oc2:C) (Lg2:Ul),Dfs (nxN nx) ((nxN nx b).take (i+1)) (S.set b true) o S2 o2/\
     Kn F H2 [(y,.vec 1 (Qv S2))] ([]++Lg2)/\Gr Lg2 1 (BK o2) oc2/\
     lk 1 e2=Uv b/\lk 2 e2=.c (.ah y 1 0 rows.length)/\lk 3 e2=.c oc2/\lk 4 e2=.c (.pp [Ui p,Ui rg,bc])/\lk 9 e2=Uv i) ?_ ?_
    ·intro Q bB _ _;have gC:List.take rows.length (Qv S1)=Qv S1:=Jc Zan;refine Qe (Qa ?_);simp only[go_sem,bt,iw,am,bp,qu,hb,aC,af,hy,hw,gk,gC,dv,Q3,Q7 _ _ wH,Qc,Qk _ _ af,J6,Jq,Jl];refine Wv ?_ ?_
     ·intro aD;have iq:S1.getD w false=false:=Dd aD;refine BY ?_;simp only[go_sem,bt,iw,am,bp,qu,hb,aC,af,hw,Qc,Qk _ _ af];refine ih w S1 o1 oc1 Lg1 H2 _ dv ZB gk iq kn aq ZB λS2 o2 oc2 Lg2 H3 dc kn aq=>?_;simp only[go_sem,Ti];refine bB _ _ ⟨S2,o2,oc2,Lg2,?_,kn,aq,rfl,rfl,rfl,rfl,rfl⟩;rw[eQ];exact hd.app dc
     ·intro aD;have iq:S1.getD w false=true:=Ct aD;refine Zd ?_;refine bB _ _ ⟨S1,o1,oc1,Lg1,?_,kn,aq,rfl,rfl,rfl,rfl,rfl⟩;rw[eQ];exact hd.app (.skip iq (.nil _ _))
    ·rintro e2 H3 ⟨S2,o2,oc2,Lg2,hd,kn,aq,l1,l2,l3,l4,l9⟩;refine Qp ?_;simp only[go_sem,X.next,l1,l2,l3,l4,l9];exact⟨Qs,(nx b).length-(i+1),ZB,i+1,S2,o2,oc2,Lg2,rfl,ZB,hd,kn,aq,rfl⟩
   ·intro hc;have bh:(nx b).length<=i:=ZE;rw[Jc (by rw[mg];exact bh)]at hd;have kA:=aq.ai;refine Wb ?_;refine kn.grow (new:=Qb [(b:Int)]) aq (.mk' _ _ _ _) (Qq _) ZaT λz H3 kn=>?_;simp only[go_sem,Th];refine Zf ?_;refine hK S1 (o1++[b]) _ _ H3 (.one fS hd) kn ?_;rw[<-Pi];exact .mk _ _ _ ZD
variable {H:Heap}{K:Uk}
theorem DQ {n lo hi:Int}(hK:K (.c (.bool (decide (lo<=n)&&decide (n<=hi)))) H):Qr prog Q7r [Uv n,Uv lo,Uv hi] H K:=by
 refine Qd BF Qbbs ?_;refine Wd ?_;refine Zf ?_;have:(bif decide (lo<=n)then decide (n<=hi)else false)=(decide (lo<=n)&&decide (n<=hi)):=by cases decide (lo<=n) <;> rfl
 first|exact hK|(rw[this];exact hK)|(simpa[this]using hK)
def IsIx (ns:List Int)(v r:Int):Prop:=(r=-1/\v∉ns)\/∃i:Nat,r=i/\i<ns.length/\ns.getD i 0=v/\v∉ns.take i
theorem IsIx.nonneg {ns:List Int}{v r:Int}(h:IsIx ns v r):decide (0<=r)=ns.contains v:=by
 rcases h with ⟨rfl,hn⟩|⟨i,rfl,h1,h2,_⟩
 ·have:ns.contains v=false:=by
   cases hc:ns.contains v with
   |false=>rfl
   |true=>exact absurd (Jal.1 hc) hn
  rw[this];rfl
 ·have:v∈ns:=by
   rw[<-h2,Ja,Jh h1];exact Jf h1
  rw[Jal.2 this];simp
theorem K6 {c:C}{ns:List Int}{v:Int}(hs:Slc H 1 (Qb ns) c)(bt:c.ai=false)(hK:∀r,IsIx ns v r->K (Uv r) H) :
  Qr prog OS [.c c,Uv v] H K:=by
 refine Qd BF Qbmd ?_;have ax:=eq_true hs.ok;have am:=hs.len;have bp:=hs.sz;have ew:=hs.rows;refine Wh ?_;simp only[go_sem,ax,am,Qc];intro hl;simp only[LIM]at hl;refine Qh (Qe (Qw (λm e1 H1=>∃(i:Nat),m=ns.length-i/\i<=ns.length/\H1=H/\v∉ns.take i/\e1=[(0,.c c),(1,Uv v),(7,.c (Ui ns.length)),(8,Uv i)]) ns.length ?_ ?_))
 ·exact⟨0,ZB,ZB,rfl,ZD,rfl⟩
 ·rintro m e1 H1 ⟨i,hm,hi,rfl,bD,rfl⟩;refine Za ?_;refine Wu ?_ ?_
  ·intro hc;have af:i<ns.length:=ZE
   have bm:ns.getD i 0=ns[i]:=Zai
   refine Wc ?_;refine Wf ?_;simp only[go_sem,ax,am,bp,ew,af,Qc,Qk _ _ af];refine Wv ?_ ?_
   ·intro aD;have hv:v=ns.getD i 0:=ZH;refine Za ?_;refine Zt ?_;exact hK _ (.inr ⟨i,rfl,af,hv.symm,bD⟩)
   ·intro aD;have hv:¬v=ns.getD i 0:=ZH;refine Wk ?_;refine⟨Qs,ns.length-(i+1),ZB,i+1,rfl,ZB,?_,rfl⟩;rw[Jg af];simp only[Ji,Jb,not_or];exact⟨bD,λh=>hv (by rw[bm];exact h)⟩
  ·intro hc;have bh:ns.length<=i:=ZE
   rw[Jc bh]at bD;refine Wo ?_;exact hK _ (.inl ⟨rfl,bD⟩)
theorem Qbk2 {c:C}{ns:List Int}{v:Int}(hs:Slc H 1 (Qb ns) c)(bt:c.ai=false)(hK:K (.c (.bool (ns.contains v))) H) :
  Qr prog Qxc [.c c,Uv v] H K:=by
 refine Qd BF Qav5 ?_;refine Wd ?_;refine K6 hs bt λr hr=>?_;simp only[go_sem,Gl];refine Zf ?_;rw[hr.nonneg];exact hK
theorem Qbax {c:C}{ns:List Int}{f:Nat}{caps:List C}{p:Int->Bool}(hs:Slc H 1 (Qb ns) c)(bt:c.ai=false)
  (hf:∀(x:Int) (K':V->Heap->Prop),x∈ns->K' (.c (.bool (p x))) H->Qr prog f ([Uv x]++caps.map .c) H K')
  (hK:∀r:Int,decide (0<=r)=ns.any p->K (Uv r) H) :
  Qr prog Qqn [.c c,.c (.fn f caps)] H K:=by
 refine Qd BF Qanq ?_;have ax:=eq_true hs.ok;have am:=hs.len;have bp:=hs.sz;have ew:=hs.rows;refine Wh ?_;simp only[go_sem,ax,am,Qc];intro hl;simp only[LIM]at hl;refine Qh (Qe (Qw (λm e1 H1=>∃(i:Nat),m=ns.length-i/\i<=ns.length/\H1=H/\(∀x∈ns.take i,p x=false)/\e1=[(0,.c c),(1,.c (.fn f caps)),(7,.c (Ui ns.length)),(8,Uv i)]) ns.length ?_ ?_))
 ·exact⟨0,ZB,ZB,rfl,ZD,rfl⟩
 ·rintro m e1 H1 ⟨i,hm,hi,rfl,bD,rfl⟩;refine Za ?_;refine Wu ?_ ?_
  ·intro hc;have af:i<ns.length:=ZE
   have bm:ns.getD i 0=ns[i]:=Zai
   refine Wc ?_;refine Wf ?_;simp only[go_sem,ax,am,bp,ew,af,Qc,Qk _ _ af];refine hf _ _ (by rw[bm];exact Jf af) ?_;refine Wv ?_ ?_
   ·intro aD;refine Za ?_;refine Zt ?_;refine hK _ ?_;have:ns.any p=true:=J5.2 ⟨ns[i],Jf af,by rw[<-bm];exact aD⟩;rw[this];simp
   ·intro aD;refine Wk ?_;refine⟨Qs,ns.length-(i+1),ZB,i+1,rfl,ZB,?_,rfl⟩;rw[Jg af];intro x hx;rcases Ji.1 hx with hx|hx
    ·exact bD x hx
    ·simp only[Jb]at hx;subst hx;rw[<-bm];exact aD
  ·intro hc;have bh:ns.length<=i:=ZE
   rw[Jc bh]at bD;refine Wo ?_;refine hK _ ?_;have:ns.any p=false:=by
    cases hc:ns.any p with
    |false=>rfl
    |true=>obtain⟨x,hx,hp⟩:=J5.1 hc;rw[bD x hx]at hp;exact absurd hp ZD
   rw[this];rfl
theorem Kc {c:C}{ns:List Int}{f:Nat}{caps:List C}{p:Int->Bool}(hs:Slc H 1 (Qb ns) c)(bt:c.ai=false)
  (hf:∀(x:Int) (K':V->Heap->Prop),x∈ns->K' (.c (.bool (p x))) H->Qr prog f ([Uv x]++caps.map .c) H K')
  (hK:K (.c (.bool (ns.any p))) H):Qr prog V7 [.c c,.c (.fn f caps)] H K:=by
 refine Qd BF Q5k ?_;refine Wd ?_;refine Qbax hs bt hf λr hr=>?_;simp only[go_sem,Gl];refine Zf ?_;rw[hr];exact hK
theorem Qa0k {c:C}{rows:List (List C)}{f:Nat}{caps:List C}{p:Nat->Bool}(hs:Slc H 5 rows c)(bt:c.ai=false)(bD:∀r∈rows,ak r=true)(h5:∀i,i<rows.length->(rows.getD i []).length=5)
  (hf:∀(i:Nat) (K':V->Heap->Prop),i<rows.length->K' (.c (.bool (p i))) H->Qr prog f ([.ag (rows.getD i [])]++caps.map .c) H K')
  (hK:∀r:Int,decide (0<=r)=(List.range rows.length).any p->K (Uv r) H) :
  Qr prog Qe9 [.c c,.c (.fn f caps)] H K:=by
 refine Qd BF Qvz ?_;have ax:=eq_true hs.ok;have am:=hs.len;have bp:=hs.sz;have ew:=hs.rows;refine Wh ?_;simp only[go_sem,ax,am];intro hl;simp only[LIM]at hl;refine Qh (Qe (Qw (λm e1 H1=>∃(i:Nat),m=rows.length-i/\i<=rows.length/\H1=H/\(∀x,x<i->p x=false)/\e1=[(0,.c c),(1,.c (.fn f caps)),(7,.c (Ui rows.length)),(8,Uv i)]) rows.length ?_ ?_))
 ·exact⟨0,ZB,ZB,rfl,ZD,rfl⟩
 ·rintro m e1 H1 ⟨i,hm,hi,rfl,bT,rfl⟩;refine Za ?_;refine Wu ?_ ?_
  ·intro hc;have af:i<rows.length:=ZE
   have bF:(rows.getD i []).take 5=rows.getD i []:=Jc (by rw[h5 i af];omega);have aS:(5<=(rows.getD i []).length)=True:=eq_true (by rw[h5 i af];omega);have lc:ak (rows.getD i [])=true:=bD _ (by rw[Ja,Jh af];exact Jf af);have haw:((rows.getD i []).all λc=>!c.ai)=true:=lc;refine Wc ?_;refine Wf ?_;simp only[go_sem,ax,am,bp,ew,af,bF,aS,haw,J6];refine hf _ _ af ?_;refine Wv ?_ ?_
   ·intro aD;refine Za ?_;refine Zt ?_;refine hK _ ?_;have:(List.range rows.length).any p=true:=J5.2 ⟨i,Jy.2 af,aD⟩;rw[this];simp
   ·intro aD;refine Wk ?_;refine⟨Qs,rows.length-(i+1),ZB,i+1,rfl,ZB,?_,rfl⟩;intro x hx;by_cases h:x<i
    ·exact bT x h
    ·have:x=i:=ZB;subst this;exact aD
  ·intro hc;have bh:rows.length<=i:=ZE
   refine Wo ?_;refine hK _ ?_;have:(List.range rows.length).any p=false:=by
    cases hc:(List.range rows.length).any p with
    |false=>rfl
    |true=>obtain⟨x,hx,hp⟩:=J5.1 hc;rw[bT x (by have:=Jy.1 hx;omega)]at hp;exact absurd hp ZD
   rw[this];rfl
theorem Qaev {c:C}{rows:List (List C)}{f:Nat}{caps:List C}{p:Nat->Bool}(hs:Slc H 5 rows c)(bt:c.ai=false)(bD:∀r∈rows,ak r=true)(h5:∀i,i<rows.length->(rows.getD i []).length=5)
  (hf:∀(i:Nat) (K':V->Heap->Prop),i<rows.length->K' (.c (.bool (p i))) H->Qr prog f ([.ag (rows.getD i [])]++caps.map .c) H K')
  (hK:K (.c (.bool ((List.range rows.length).any p))) H):Qr prog Qdd [.c c,.c (.fn f caps)] H K:=by
 refine Qd BF Qmb ?_;refine Wd ?_;refine Qa0k hs bt bD h5 hf λr hr=>?_;simp only[go_sem,Gl];refine Zf ?_;rw[hr];exact hK
theorem Qbqe {p rg:Int}{bc:C}{rows:List (List C)}{nx:Nat->List Int}(hg:GRd H bc rows nx)(hK:K (.c (.bool (C1 rows.length nx))) H):Qr prog Q1k [.ag [Ui p,Ui rg,bc]] H K:=by
 have bt:=hg.ow;have ax:=eq_true hg.s.ok;have am:=hg.s.len;have h5:∀i,i<rows.length->(rows.getD i []).length=5:=λi hi=>by obtain⟨a1,a2,a3,a4,fl,h⟩:=hg.x i hi;rw[h];rfl
 refine Qd BF Qa1x ?_;refine Za ?_;refine Zq bt ax am ?_;intro hl;simp only[LIM]at hl;refine⟨λhc=>?_,λhc=>?_⟩
 ·have hn:0<rows.length:=ZE
  refine Qaev (p:=λi=>(nx i).any λx=>!(decide (0<=x)&&decide (x<=(rows.length:Int)-1))) hg.s bt hg.no h5 (λi K' hi oE=>?_) ?_
  ·obtain⟨a1,a2,a3,a4,fl,aC⟩:=hg.x i hi;rw[aC];refine Qd BF Qafw ?_;refine Qa ?_;simp only[go_sem,Jad,J3,Jw,Jag];refine Za ?_;refine Kc (ns:=nx i) (p:=λx=>!(decide (0<=x)&&decide (x<=(rows.length:Int)-1))) (.mk' _ _ _ _) rfl (λx K'' hx hK''=>?_) ?_
   ·refine Qd BF Q17 ?_;refine Qa ?_;simp only[go_sem,Jad,J3,Jw,Jag];refine Zq bt ax am ?_;intro _;refine⟨Qs,?_⟩;refine DQ ?_;simp only[go_sem,SB];refine Zf ?_;exact hK''
   ·simp only[go_sem,Iw];refine Zf ?_;exact oE
  ·simp only[go_sem,Vk,hc];refine Zf ?_;have:C1 rows.length nx = !((List.range rows.length).any λi=>(nx i).any λx=>!(decide (0<=x)&&decide (x<=(rows.length:Int)-1))):=by
    simp only[C1,hn,decide_true,Bool.and_true,List.not_any_eq_all_not,Bool.not_not,Bool.decide_and]
   rw[<-this];exact hK
 ·have hn:rows.length=0:=by have:¬0<rows.length:=ZE;omega
  simp only[go_sem,Vk,hc];refine Zf ?_;have:C1 rows.length nx=false:=by simp[C1,hn]
  rw[this]at hK;exact hK
end Go.AE.Y
namespace Go.AE.Y
attribute [local instance] Classical.propDecidable
inductive Rch (g:Nat->List Nat)(A:Nat->Prop):Nat->Nat->Prop
 |refl {x:Nat}:¬A x->Rch g A x x
 |step {x y z:Nat}:Rch g A x y->z∈g y->¬A z->Rch g A x z
variable {g:Nat->List Nat}{A B:Nat->Prop}{x y z:Nat}
theorem Rch.mono (h:Rch g A x y)(ny:∀z,B z->A z):Rch g B x y:=by
 induction h with
 |refl h=>exact .refl λhb=>h (ny _ hb)
 |step h1 h2 h3 ih=>exact ih.step h2 λhb=>h3 (ny _ hb)
theorem Rch.fst (h:Rch g A x y):¬A x:=by
 induction h with
 |refl h=>exact h
 |step _ _ _ ih=>exact ih
theorem Rch.snd (h:Rch g A x y):¬A y:=by
 cases h with
 |refl h=>exact h
 |step _ _ h=>exact h
theorem Rch.trans (h:Rch g A x y)(k:Rch g A y z):Rch g A x z:=by
 induction k with
 |refl _=>exact h
 |step _ h2 h3 ih=>exact ih.step h2 h3
theorem Rch.head (hx:¬A x)(hy:y∈g x)(h:Rch g A y z):Rch g A x z:=(Rch.step (.refl hx) hy h.fst).trans h
theorem Rch.lt {n:Nat}(hg:∀x,x<n->∀y∈g x,y<n)(h:Rch g A x y)(hx:x<n):y<n:=by
 induction h with
 |refl _=>exact hx
 |step _ h2 _ ih=>exact hg _ ih _ h2
variable {xs:List Nat}{S S' S1:List Bool}{o o' o1:List Nat}
theorem Dfs.adds (h:Dfs g xs S o S' o'):(∀x,x<S.length->∀y∈g x,y<S.length)->(∀x∈xs,x<S.length)->
  ∃t,o'=o++t/\(∀x,S'.getD x false=true↔S.getD x false=true\/x∈t)/\(∀x∈t,∀y∈g x,S'.getD y false=true)/\
   (∀x∈xs,S'.getD x false=true)/\(∀y∈t,∃x∈xs,Rch g (λz=>S.getD z false=true) x y):=by
 induction h with
 |nil S o=>exact λ_ _=>⟨[],ZD,ZD,ZD,ZD,ZD⟩
 |@skip x xs S S' o o' h1 h2 ih=>
  intro hg hx;obtain⟨t,e,a1,a2,a3,a4⟩:=ih hg λy hy=>hx y (Jj _ hy);refine⟨t,e,a1,a2,λy hy=>?_,λy hy=>?_⟩
  ·rcases Jz.1 hy with rfl|hy
   ·exact h2.mono _ h1
   ·exact a3 y hy
  ·obtain⟨z,hz,hr⟩:=a4 y hy;exact⟨z,Jj _ hz,hr⟩
 |@go x xs S S1 S' o o1 o' h1 h2 h3 ih1 ih2=>
  intro hg kT;have hx:=kT x Jm;have hl:=h2.len;rw[Jk]at hl;obtain⟨t1,e1,a1,a2,a3,a4⟩:=ih1 Zak (by simpa using hg x hx);obtain⟨t2,e2,b1,b2,b3,b4⟩:=ih2 (by rw[hl];exact hg) (by rw[hl];exact λy hy=>kT y (Jj _ hy));have bW:∀y,(S.set x true).getD y false=true↔y=x\/S.getD y false=true:=by
   intro y;rw[G9];by_cases vm:y=x
   ·simp[vm,hx]
   ·simp[vm]
  have tY:∀y,S.getD y false=true->S1.getD y false=true:=λy hy=>(a1 y).2 (.inl ((bW y).2 (.inr hy)));have wr:S1.getD x false=true:=(a1 x).2 (.inl ((bW x).2 (.inl rfl)));refine⟨t1++[x]++t2,by rw[e2,e1];simp,λy=>?_,λy hy z hz=>?_,λy hy=>?_,λy hy=>?_⟩
  ·rw[b1,a1,bW];simp only[Ji,Jb];constructor
   ·rintro (((h|h)|h)|h)
    ·exact .inr (.inl (.inr h))
    ·exact .inl h
    ·exact .inr (.inl (.inl h))
    ·exact .inr (.inr h)
   ·rintro (h|((h|h)|h))
    ·exact .inl (.inl (.inr h))
    ·exact .inl (.inr h)
    ·exact .inl (.inl (.inl h))
    ·exact .inr h
  ·rcases Ji.1 hy with hy|hy
   ·rcases Ji.1 hy with hy|hy
    ·exact (b1 z).2 (.inl (a2 y hy z hz))
    ·simp only[Jb]at hy;subst hy;exact (b1 z).2 (.inl (a3 z hz))
   ·exact b2 y hy z hz
  ·rcases Jz.1 hy with rfl|hy
   ·exact (b1 y).2 (.inl wr)
   ·exact b3 y hy
  ·rcases Ji.1 hy with hy|hy
   ·rcases Ji.1 hy with hy|hy
    ·obtain⟨z,hz,hr⟩:=a4 y hy;exact⟨x,Jm,.head (by rw[h1];simp) hz (hr.mono λw hw=>(bW w).2 (.inr hw))⟩
    ·simp only[Jb]at hy;subst hy;exact⟨y,Jm,.refl (by rw[h1];simp)⟩
   ·obtain⟨z,hz,hr⟩:=b4 y hy;exact⟨z,Jj _ hz,hr.mono tY⟩
theorem Dfs.seen (h:Dfs g xs S o S' o')(hg:∀x,x<S.length->∀y∈g x,y<S.length)(kT:∀x∈xs,x<S.length)(y:Nat) :
  S'.getD y false=true↔S.getD y false=true\/∃x∈xs,Rch g (λz=>S.getD z false=true) x y:=by
 obtain⟨t,e,a1,a2,a3,a4⟩:=h.adds hg kT;constructor
 ·intro hy;rcases (a1 y).1 hy with hy|hy
  ·exact .inl hy
  ·exact .inr (a4 y hy)
 ·rintro (hy|⟨x,hx,hr⟩)
  ·exact h.mono y hy
  ·induction hr with
   |refl _=>exact a3 _ hx
   |step h1 h2 h3 ih=>
    rcases (a1 _).1 ih with h|h
    ·exact absurd h h1.snd
    ·exact a2 _ h _ h2
theorem Dfs.list (h:Dfs g xs S [] S' o')(hg:∀x,x<S.length->∀y∈g x,y<S.length)(kT:∀x∈xs,x<S.length)(hS:∀x,S.getD x false=false)(y:Nat) :
  y∈o'↔S'.getD y false=true:=by
 obtain⟨t,e,a1,_⟩:=h.adds hg kT;rw[a1,hS];simp[e]
theorem GQ:∀{l k:List Nat},l.Pairwise (· < ·)->k.Pairwise (· < ·)->(∀x,x∈l↔x∈k)->l=k
 |[],[],_,_,_=>rfl
 |[],b::k,_,_,h=>by have:=(h b).2 Jm;simp at this
 |a::l,[],_,_,h=>by have:=(h a).1 Jm;simp at this
 |a::l,b::k,h1,h2,h=>by
  rw[Jbb]at h1 h2;have eD:a=b:=by
   rcases Jz.1 ((h a).1 Jm)with e|e
   ·exact e
   ·rcases Jz.1 ((h b).2 Jm)with e'|e'
    ·exact e'.symm
    ·have:=h1.1 b e';have:=h2.1 a e;omega
  subst eD;congr 1;refine GQ h1.2 h2.2 λx=>⟨λhx=>?_,λhx=>?_⟩
  ·rcases Jz.1 ((h x).1 (Jj _ hx))with e|e
   ·subst e;have:=h1.1 x hx;omega
   ·exact e
  ·rcases Jz.1 ((h x).2 (Jj _ hx))with e|e
   ·subst e;have:=h2.1 x hx;omega
   ·exact e
theorem Qbpm {l:List Nat}{n:Nat}{p:Nat->Bool}(h1:l.Pairwise (· < ·))(h:∀x,x∈l↔x<n/\p x=true):l=(List.range n).filter p:=
 GQ h1 (Ja4 _ Ja1) λx=>by rw[h];simp[Jar]
noncomputable def Ch (g:Nat->List Nat)(a:Int)(x:Nat):Bool:=decide (Rch g (λz=>(z:Int)=a) 0 x)
noncomputable def domB (g:Nat->List Nat)(a b:Nat):Bool:=Ch g (-1) a&&Ch g (-1) b&&!Ch g a b
end Go.AE.Y
namespace Go.AE.Y
open Go.Proofs.Tryz
variable {H:Heap}{K:Uk}
theorem X9 {rows:List (List C)}(h:∀r∈rows,ak r=true){i:Nat}(hi:i<rows.length){a1 a2 a3 a4 a5:C}(hr:rows.getD i []=[a1,a2,a3,a4,a5]) :
  a1.ai=false/\a2.ai=false/\a3.ai=false/\a4.ai=false/\a5.ai=false:=by
 have:=h _ (Jf hi);have e:rows[i]=[a1,a2,a3,a4,a5]:=by rw[<-hr];simp[Ja,hi]
 rw[e]at this;simpa[Go.AE.ak]using this
def DP (nx:Nat->List Int)(b:Int)(n:Nat):List Int:=if decide (0<=b)&&decide (b<=(n:Int)-1)then Qz nx b n else []
theorem Nt {p rg:Int}{bc:C}{rows:List (List C)}{nx:Nat->List Int}{b:Int}(hs:Slc H 5 rows bc)(bt:bc.ai=false)(bD:∀r∈rows,ak r=true)
  (hx:∀i,i<rows.length->∃a1 a2 a3 a4 a5,rows.getD i []=[a1,a2,a3,a4,a5]/\Slc H 1 (Qb (nx i)) a5)
  (hK:∀fl H',Upd H H' []->K (.c (.sl fl 1 (Qb (DP nx b rows.length)))) H'):Qr prog TX [.ag [Ui p,Ui rg,bc],Uv b] H K:=by
 refine Qy ?_;refine Qd BF Qa1u ?_;have ax:=eq_true hs.ok;have am:=hs.len;have bp:=hs.sz;refine Ws ?_;simp only[go_sem,bt,ax,am];intro hl;simp only[LIM]at hl;refine⟨Qs,?_⟩;refine DQ ?_;simp only[go_sem,Sp];refine Wu ?_ ?_
 ·intro hc;have cn:=Dd hc;refine Za ?_;refine Zf ?_;have h:=hK false _ (Kn.an H).fin;simp only[DP,cn]at h;exact⟨_,.c _ _ FrzR.nil.sl,h⟩
 ·intro hc;have cn:=Ct hc;refine Zd ?_;refine Q1 (Qa ?_);simp only[go_sem,bt,ax,am];intro _;refine Qh (Qe (Qw (λm e1 H1=>∃(i:Nat) (c:C) (Lg:Ul),m=rows.length-i/\i<=rows.length/\Gr Lg 1 (Qb (Qz nx b i)) c/\Kn H H1 [] ([]++Lg)/\
   e1=[(1,Uv b),(5,.c c),(16,.c bc),(17,.c (Ui rows.length)),(18,Uv i)]) rows.length ?_ ?_))
  ·exact⟨0,_,[],ZB,ZB,.nil 1,Kn.an H,rfl⟩
  ·rintro m e1 H1 ⟨i,c,Lg,hm,hi,aq,kn,rfl⟩;have dD:=hs.keep0 kn;have fV:=eq_true dD.ok;have kq:=dD.rows;refine Za ?_;refine Wu ?_ ?_
   ·intro hc;have af:i<rows.length:=ZE;obtain⟨a1,a2,a3,a4,a5,aC,d9⟩:=hx i af;obtain⟨o1,o2,o3,o4,o5⟩:=X9 bD af aC;refine Zd ?_;refine Ck (λe2 H2=>∃(c:C) (Lg:Ul),Gr Lg 1 (Qb (Qz nx b (i+1))) c/\Kn H H2 [] ([]++Lg)/\
     lk 1 e2=Uv b/\lk 5 e2=.c c/\lk 16 e2=.c bc/\lk 17 e2=.c (Ui rows.length)/\lk 18 e2=Uv i) ?_ ?_
    ·intro Q bB _ _;refine Qe (Qa ?_);simp only[go_sem,fV,am,bp,kq,af,aC,o1,o2,o3,o4,o5];intro x hx H2 h2;have kn:=(kn.al hx h2).perm J9;have aI:=kn.l 0 rfl;simp only[go_sem,Qrd,aI];intro H3 h3;have kn:=kn.aB 0 rfl h3;have aL:=kn.l 0 rfl;refine Zm aL o5 ?_;refine Qbk2 (d9.keep0 kn) o5 ?_;refine Wv ?_ ?_
     ·intro gP;have da:=Es nx b i;refine Zh ?_;refine kn.grow (B:=[_]) (new:=Qb [(i:Int)]) aq (.mk' _ _ _ _) (Qq _) Zao λy' H4 kn=>?_;simp only[go_sem,Qre];refine bB _ _ ⟨_,_,?_,(kn.perm J9).drop,rfl,rfl,rfl,rfl,rfl⟩;rw[S0,gP,if_pos rfl,D8];exact .mk _ _ _ ZD
     ·intro gP;refine Zd ?_;refine bB _ _ ⟨c,Lg,?_,?_,rfl,rfl,rfl,rfl,rfl⟩
      ·rw[S0,gP];simpa using aq
      ·have kn:Kn H H3 [] ([(x,.st [a1,a2,a3,a4,a5])]++([]++Lg)):=kn;exact (kn.perm J9).drop
    ·rintro e2 H2 ⟨c2,Lg2,aq,kn,l1,l5,l16,l17,l18⟩;refine Qp ?_;simp only[go_sem,X.next,l1,l5,l16,l17,l18];exact⟨Qs,rows.length-(i+1),ZB,i+1,c2,Lg2,rfl,ZB,aq,kn,rfl⟩
   ·intro hc;have bh:i=rows.length:=(by have:¬i<rows.length:=(by simpa using hc);omega);subst bh;refine Wo ?_;refine⟨_,.c _ _ (aq.frz kn (Qq _)),?_⟩;have:=hK false _ kn.fin;simp only[DP,cn]at this;exact this
theorem Ts {p rg:Int}{bc:C}{rows:List (List C)}{nx:Nat->List Int}{b:Int}(hg:GRd H bc rows nx)
  (hK:∀fl H',Upd H H' []->K (.c (.sl fl 1 (Qb (DP nx b rows.length)))) H'):Qr prog TX [.ag [Ui p,Ui rg,bc],Uv b] H K:=
 Nt hg.s hg.ow hg.no (λi hi=>by
  obtain⟨a1,a2,a3,a4,fl,h⟩:=hg.x i hi;exact⟨a1,a2,a3,a4,_,h,.mk' _ _ _ _⟩) hK
end Go.AE.Y
namespace Go.AE.Y
attribute [local instance] Classical.propDecidable
variable {g:Nat->List Nat}{a:Int}{n:Nat}{S:List Bool}{T:List Nat}{b:Nat}
theorem Ev (n x:Nat):(List.replicate n false).getD x false=false:=by
 simp only[Ja,Jaw];split <;> rfl
end Go.AE.Y
namespace Go.AE.Y
open Go.Proofs.Tryz
variable {H H0:Heap}{K:Uk}
theorem Hm (n:Nat):List.replicate n [C.bool false]=Qv (List.replicate n false):=by simp[Qv]
theorem CZ (l:List Nat)(i:Nat)(h:i<l.length):(BK l).getD i []=[Ui ((l.getD i 0:Nat):Int)]:=by
 simp[BK,Qb,Ja,h]
theorem Q5m (a b:List Nat):BK (a++b)=BK a++BK b:=by simp[BK,Qb]
end Go.AE.Y
namespace Go.AE
variable {H0 F H:Heap}{E E0 E' L L1 L2 M:Ul}
theorem Kn.startE (h:∀p∈E,H p.1=p.2/\p.2≠.none)(hd:(E.map Prod.fst).Nodup):Kn H H E []:=
 ⟨ZL,λp hp=>by rw[(h p hp).1];exact (h p hp).2,ZD,hd,ZD,λ_ _ _=>rfl⟩
theorem Kn.mid (k:Kn H0 F E0 (L1++L2)):Kn F F L1 []:=
 .startE (λp hp=>k.get p (Jx _ (Jt _ hp))) (by
  have:=k.dL;rw[Jv]at this;exact (Jak.1 this).1)
theorem Kn.comp (k1:Kn H0 F E0 (L1++L2))(k2:Kn F H E' M)(hE:E'.map Prod.fst=L1.map Prod.fst):Kn H0 H E0 ((E'++L2)++M):=by
 have hd:=k1.dL;rw[Jv]at hd;obtain⟨d1,d2,d3⟩:=Jak.1 hd;have BA:∀p∈E0,F p.1=p.2/\p.2≠.none:=λp hp=>k1.get p (Jt _ hp);have B4:∀p∈L2,F p.1=p.2/\p.2≠.none:=λp hp=>k1.get p (Jx _ (Jx _ hp));have inL1:∀p∈E',∃q∈L1,q.1=p.1:=λp hp=>by
  have:=Cc hp;rw[hE]at this;obtain⟨q,h1,h2⟩:=Js.1 this;exact⟨q,h1,h2⟩
 have keep:∀m,F m≠.none->m∉L1.map Prod.fst->H m=F m:=λm h1 h2=>k2.chg m h1 (by rw[hE];exact h2);have Ak:∀p∈E0,∀q∈L1,p.1≠q.1:=λp hp q hq hh=>k1.ext p hp (hh▸k1.loc q (Jt _ hq));refine⟨λp hp=>?_,k1.ext,λp hp=>?_,k1.dE,?_,λm hm hn=>?_⟩
 ·rcases Ji.1 hp with hp|hp
  ·obtain⟨h1,h2⟩:=BA p hp;refine⟨?_,h2⟩;rw[keep p.1 (by rw[h1];exact h2) (λhh=>?_),h1];obtain⟨q,hq,hqq⟩:=Js.1 hh;exact Ak p hp q hq hqq.symm
  ·rcases Ji.1 hp with hp|hp
   ·rcases Ji.1 hp with hp|hp
    ·exact k2.get p (Jt _ hp)
    ·obtain⟨h1,h2⟩:=B4 p hp;refine⟨?_,h2⟩;rw[keep p.1 (by rw[h1];exact h2) (λhh=>?_),h1];exact d3 _ hh _ (Cc hp) rfl
   ·exact k2.get p (Jx _ hp)
 ·rcases Ji.1 hp with hp|hp
  ·rcases Ji.1 hp with hp|hp
   ·obtain⟨q,hq,hh⟩:=inL1 p hp;rw[<-hh];exact k1.loc q (Jt _ hq)
   ·exact k1.loc p (Jx _ hp)
  ·have h1:=k2.loc p hp
   cases h0:H0 p.1 with
   |none=>rfl
   |_=>
    by_cases hx:p.1∈E0.map Prod.fst
    ·obtain⟨q,hq,hh⟩:=Js.1 hx;obtain⟨a1,a2⟩:=BA q hq;rw[hh,h1]at a1;exact absurd a1.symm a2
    ·have:=k1.chg p.1 (by rw[h0];simp) hx;rw[h1,h0]at this;simp at this
 ·rw[Jv,Jv];refine Jak.2 ⟨Jak.2 ⟨k2.dE,d2,λa ha b hb=>?_⟩,k2.dL,λa ha b hb eD=>?_⟩
  ·rw[hE]at ha;exact d3 a ha b hb
  ·obtain⟨q,hq,rfl⟩:=Js.1 hb;have hf:=k2.loc q hq;rcases Ji.1 ha with ha|ha
   ·obtain⟨r,hr,rfl⟩:=Js.1 ha;exact k2.ext r hr (eD▸hf)
   ·obtain⟨r,hr,rfl⟩:=Js.1 ha;obtain⟨a1,a2⟩:=B4 r hr;rw[eD,hf]at a1;exact a2 a1.symm
 ·rw[keep m (by rw[k1.chg m hm hn];exact hm) (λhh=>?_),k1.chg m hm hn];obtain⟨q,hq,rfl⟩:=Js.1 hh;exact hm (k1.loc q (Jt _ hq))
theorem Kn.upd (k:Kn H0 H E L):Upd H0 H E:=⟨λp hp=>(k.get p (Jt _ hp)).1,λm hm hn=>k.chg m hm hn⟩
theorem Y.FrzL.ptr {S:Nat->Bool}{l:Nat}{cells cells':List C}(hS:S l=true)(hH:H l=.st cells)(h:FrzL H S cells cells'):FrzC H S (.ptr l 0) (.pp cells'):=by
 obtain⟨h1,h2⟩:=h.spec;exact .ptr l 0 cells cells cells' hS hH rfl h1 h2
theorem Kn.bk {B Lg:Ul}{K:Uk}{sz:Nat}{rows new:List (List C)}{b c:C}(kn:Kn H0 H E (B++Lg))(hc:Gr Lg sz rows c)(hb:Slc H sz new b)
  (h1:∀r∈new,ak r=true) (h2:rows.length+new.length<=LIM)
  (h:∀t Lg' H',Gr Lg' sz (rows++new) t->t.ai=false->Kn H0 H' E (B++Lg')->K (.c t) H'):appQ H sz c b K:=
 kn.grow hc hb h1 h2 λy' H' k=>h _ _ H' (.mk y' sz _ ZD) rfl k
end Go.AE
namespace Go.AE.Y
open Go.Proofs.Tryz
variable {H H0:Heap}{K:Uk}
def Ge (x3 x4 x5:Nat)(p rg:Int)(bc:C):List C:=[.ptr x4 0,.pp [.int .i64 p,.int .i64 rg,bc],.ptr x5 0,.ptr x3 0]
def visE (x3 x4 x5 y n:Nat)(p rg:Int)(bc:C)(S:List Bool)(oc:C):List (Nat×Obj):=
 [(y,.vec 1 (Qv S)),(x3,.st [oc]),(x4,.st [.ah y 1 0 n]),(x5,.st [.fn SO (Ge x3 x4 x5 p rg bc)])]
theorem Qb35 {F:Heap}{p rg:Int}{bc:C}{rows:List (List C)}{nx:Nat->List Int}{y x3 x4 x5:Nat}(aR:C1 rows.length nx=true)(hn:rows.length<=1000000)(hg:GRd F bc rows nx)
  (cF:∀l a b d,bc=.ah l a b d->l≠y/\l≠x3/\l≠x4/\l≠x5) :
  ∀(u b:Nat) (S:List Bool) (o:List Nat) (oc:C) (Lg:Ul) (H:Heap) (K:V->Heap->Prop),S.length=rows.length->rows.length-cnt S<=u->b<rows.length->S.getD b false=false->
   Kn F H (visE x3 x4 x5 y rows.length p rg bc S oc) ([]++Lg)->Gr Lg 1 (BK o) oc->o.length<=cnt S->
   (∀(S':List Bool) (o':List Nat) (oc':C) (Lg':Ul) (H':Heap),Dfs (nxN nx) [b] S o S' o'->Kn F H' (visE x3 x4 x5 y rows.length p rg bc S' oc') ([]++Lg')->Gr Lg' 1 (BK o') oc'->K (.tup []) H')->
   Qr prog SO ([Uv b]++(Ge x3 x4 x5 p rg bc).map .c) H K:=by
 intro u
 induction u with
 |zero=>
  intro b S o oc Lg H K hS hu hb fS;have h1:=I9 (S:=S) (x:=b) ZB fS;have h2:=G0 (S.set b true);rw[Jk]at h2;omega
 |succ u ih=>
  intro b S o oc Lg H K hS hu hb fS kn aq eS hK;have bt:=hg.ow;have rG:b<S.length:=ZB
  obtain⟨a1,a2,a3,a4,fl,aC⟩:=hg.x b hb;have bp:=hg.s.sz;have am:=hg.s.len;have kA:=aq.ai;refine Qd BF Qano ?_;have hy:=kn.e 0 rfl;have aY:=kn.e 2 rfl;have bF:List.take rows.length (Qv S)=Qv S:=Jc Zan;refine Qa ?_;simp only[go_sem,Ge,aY,hy,hb,Q3,hS,Q7 _ _ rG,Et,J6,Jq,Jl];intro H1 h1;have kn:Kn F H1 (visE x3 x4 x5 y rows.length p rg bc (S.set b true) oc) ([]++Lg):=kn.stE 0 rfl h1;have hcS:=I9 rG fS;have mg:(nxN nx b).length=(nx b).length:=by simp[nxN]
  have dB:∀(S:List Bool) (oc:C) (l a b d),bc=.ah l a b d->l∉(visE x3 x4 x5 y rows.length p rg bc S oc).map Prod.fst:=by
   intro S oc l a b d hh;obtain⟨q1,q2,q3,q4⟩:=cF l a b d hh;simp[visE,q1,q2,q3,q4]
  have eO:=hg.keep kn (dB _ _);have fV:=eq_true eO.s.ok;have kq:=eO.s.rows;refine Q1 (Qa ?_);simp only[go_sem,bt,fV,am,bp,kq,hb,aC,Qc];intro iK;simp only[LIM]at iK;refine Qh (Qe (Qw (λm e1 H1=>∃(i:Nat) (S1:List Bool) (o1:List Nat) (oc1:C) (Lg1:Ul),m=(nx b).length-i/\i<=(nx b).length/\Dfs (nxN nx) ((nxN nx b).take i) (S.set b true) o S1 o1/\
   Kn F H1 (visE x3 x4 x5 y rows.length p rg bc S1 oc1) ([]++Lg1)/\Gr Lg1 1 (BK o1) oc1/\
   e1=[(0,Uv b),(1,Up x4),(3,Up x5),(4,Up x3),(16,.c (.sl fl 1 (Qb (nx b)))),(17,.c (Ui (nx b).length)),(18,Uv i)]) (nx b).length ?_ ?_))
  ·exact⟨0,_,o,oc,Lg,ZB,ZB,.nil _ _,kn,aq,rfl⟩
  ·rintro m e1 H2 ⟨i,S1,o1,oc1,Lg1,hm,hi,hd,kn,aq,rfl⟩;have bm:∀x,x<(S.set b true).length->∀z∈nxN nx x,z<(S.set b true).length:=by
    rw[Jk,hS];exact λx hx z hz=>EV aR hx hz
   have dv:=hd.len;rw[Jk,hS]at dv;have eU:=hd.count bm (λx hx=>bm b (by rw[Jk];exact rG) x (Jac hx));have hd3:=hd.olen;have hd4:=G0 S1;have hy:=kn.e 0 rfl;have aL:=kn.e 1 rfl;have aY:=kn.e 2 rfl;have bq:=kn.e 3 rfl;refine Za ?_;refine Wu ?_ ?_
   ·intro hc;have af:i<(nx b).length:=ZE;obtain⟨w,hw⟩:∃w:Nat,(nx b).getD i 0=w:=by
     have h1:=Tq aR hb (Jf af);refine⟨((nx b)[i]).toNat,?_⟩;simp only[Ja,Jh af,Jae];omega
    have eQ:(nxN nx b).take (i+1)=(nxN nx b).take i++[w]:=by
     rw[Jg (by rw[mg];exact af)];congr 1;simp only[nxN,Jaz];simp only[Ja,Jh af,Jae]at hw;rw[hw];simp
    have gk:w<rows.length:=EV aR hb (x:=w) (by
     have:w∈(nxN nx b).take (i+1):=(by rw[eQ];simp);exact Jac this)
    have wH:w<S1.length:=ZB;refine Zd ?_;refine Ck (λe2 H2=>∃(S2:List Bool) (o2:List Nat) (oc2:C) (Lg2:Ul),Dfs (nxN nx) ((nxN nx b).take (i+1)) (S.set b true) o S2 o2/\
     Kn F H2 (visE x3 x4 x5 y rows.length p rg bc S2 oc2) ([]++Lg2)/\Gr Lg2 1 (BK o2) oc2/\
     lk 0 e2=Uv b/\lk 1 e2=Up x4/\lk 3 e2=Up x5/\lk 4 e2=Up x3/\lk 16 e2=.c (.sl fl 1 (Qb (nx b)))/\lk 17 e2=.c (Ui (nx b).length)/\lk 18 e2=Uv i) ?_ ?_
    ·intro Q bB _ _;have gC:List.take rows.length (Qv S1)=Qv S1:=Jc Zan;refine Qe (Qa ?_);simp only[go_sem,hw,af,Qc,Qk _ _ af];refine Qa ?_;simp only[go_sem,aY,hy,gk,gC,dv,Q3,Q7 _ _ wH,J6,Jq,Jl];refine Wv ?_ ?_
     ·intro aD;have iq:S1.getD w false=false:=Dd aD;refine Qp ?_;simp only[go_sem,bq];refine ih w S1 o1 oc1 Lg1 H2 _ dv ZB gk iq kn aq ZB λS2 o2 oc2 Lg2 H3 dc kn aq=>?_;refine bB _ _ ⟨S2,o2,oc2,Lg2,?_,kn,aq,rfl,rfl,rfl,rfl,rfl,rfl,rfl⟩;rw[eQ];exact hd.app dc
     ·intro aD;have iq:S1.getD w false=true:=Ct aD;refine Zd ?_;refine bB _ _ ⟨S1,o1,oc1,Lg1,?_,kn,aq,rfl,rfl,rfl,rfl,rfl,rfl,rfl⟩;rw[eQ];exact hd.app (.skip iq (.nil _ _))
    ·rintro e2 H3 ⟨S2,o2,oc2,Lg2,hd,kn,aq,l0,l1,l3,l4,l16,l17,l18⟩;refine Qp ?_;simp only[go_sem,X.next,l0,l1,l3,l4,l16,l17,l18];exact⟨Qs,(nx b).length-(i+1),ZB,i+1,S2,o2,oc2,Lg2,rfl,ZB,hd,kn,aq,rfl⟩
   ·intro hc;have bh:(nx b).length<=i:=ZE;rw[Jc (by rw[mg];exact bh)]at hd;have kA:=aq.ai;refine Zb ?_;refine Qp ?_;simp only[go_sem,aL,kA];refine kn.grow (new:=Qb [(b:Int)]) aq (.mk' _ _ _ _) (Qq _) ZaT λz H3 kn=>?_;have aL:=kn.e 1 rfl;simp only[go_sem,Qlf,aL];intro H4 h4;have kn:=kn.stE 1 rfl h4;simp only[go_sem,Q4,BE,Cp,Jao];refine⟨λ_=>trivial,hK S1 (o1++[b]) _ _ H4 (.one fS hd) kn ?_⟩;rw[<-Pi];exact .mk _ _ _ ZD
theorem Qbas {p rg:Int}{bc:C}{rows:List (List C)}{nx:Nat->List Int}(hg:GRd H bc rows nx)(aR:C1 rows.length nx=true)(hn:rows.length<=1000000)
  (hK:∀(S:List Bool) (o:List Nat) (t:C) (Lg:Ul) (H':Heap),Gr Lg 1 (BK o) t->Kn H H' [] ([]++Lg)->Dfs (nxN nx) [0] (List.replicate rows.length false) [] S o->K (.c t) H') :
  Qr prog TG [.ag [Ui p,Ui rg,bc]] H K:=by
 refine Qd BF Qbbr ?_;have bt:=hg.ow;have am:=hg.s.len;have cC:=GA aR;refine Wd ?_;intro x3 aL H1 h1;have kn:=(Kn.an H).al aL h1;have eO:=hg.keep0 kn;have fV:=eq_true eO.s.ok;refine Qa ?_;simp only[go_sem,bt,fV,am,Hm];intro hl;refine⟨by simp only[LIM];omega,λy hy H2 h2=>?_⟩;have kn:=kn.al hy h2;simp only[go_sem,Qyo];intro x4 aY H3 h3;have kn:=kn.al aY h3;have aY:=kn.l 2 rfl;simp only[go_sem,Qyn,aY];intro H4 h4;have kn:=kn.aB 2 rfl h4;refine Za ?_;intro x5 bq H5 h5;have kn:=kn.al bq h5;have bq:=kn.l 3 rfl;refine Zj bq ?_;intro H6 h6;have kn:=kn.aB 3 rfl h6;have kn:Kn H H6 [] ([(x3,.st [.sl true 1 []]),(y,.vec 1 (Qv (List.replicate rows.length false))),(x4,.st [.ah y 1 0 rows.length]),(x5,.st [.fn SO (Ge x3 x4 x5 p rg bc)])]):=kn;have kn:Kn H H6 [] (visE x3 x4 x5 y rows.length p rg bc (List.replicate rows.length false) (.sl true 1 [])++[]):=kn.perm (List.Perm.swap _ _ _);have bq:=kn.l 3 rfl;have hg6:=hg.keep0 kn;have cF:∀l a b d,bc=.ah l a b d->l≠y/\l≠x3/\l≠x4/\l≠x5:=by
  intro l a b d hh;have hu:H l≠.none:=by
   have:=hg.s.ok;rw[hh]at this;intro h0;simp only[aZ,h0]at this
  exact⟨λh=>hu (h▸kn.free 0 rfl),λh=>hu (h▸kn.free 1 rfl),λh=>hu (h▸kn.free 2 rfl),λh=>hu (h▸kn.free 3 rfl)⟩
 refine Zj bq ?_;refine Qb35 aR hn hg6 cF rows.length 0 (List.replicate rows.length false) [] (.sl true 1 []) [] H6 _ ZD ZB cC (Ev _ _) kn.mid (.nil 1) ZD λS o oc Lg H7 hd k2 aq=>?_;have kn:=kn.comp k2 rfl;have aL:=kn.l 1 rfl;have kA:=aq.ai;refine Zm aL kA ?_;refine Zf ?_;have kn:=kn.perm (L':=([]++Lg)++(visE x3 x4 x5 y rows.length p rg bc S oc++[])) (by rw[J3];exact J9);exact hK S o oc Lg _ aq kn.drop hd
theorem Xf {p rg:Int}{bc:C}{rows:List (List C)}{nx:Nat->List Int}(hg:GRd H bc rows nx)(aR:C1 rows.length nx=true)(hn:rows.length<=1000000)
  (hK:∀(S:List Bool) (o:List Nat) (H':Heap),Upd H H' []->Dfs (nxN nx) [0] (List.replicate rows.length false) [] S o->K (.c (.sl false 1 (BK o))) H') :
  Qr prog TG [.ag [Ui p,Ui rg,bc]] H K:=
 Qy (Qbas hg aR hn λS o t Lg H' aq kn hd=>⟨_,.c _ _ (aq.frz kn (Qq _)),hK S o _ kn.fin hd⟩)
end Go.AE.Y
namespace Go.AE.Y
variable {ns:List Int}{n:Int}{at':Nat}
structure InsAt (ns:List Int)(n:Int)(k:Nat):Prop where
 le:k<=ns.length
 lo:∀i,i<k->∀(h:i<ns.length),ns[i]<n
 hi:∀(h:k<ns.length),n<=ns[k]
theorem InsAt.mem_of_asc {k:Nat}(h:InsAt ns n k)(ha:ns.Pairwise (· < ·)):(∀x∈ns.take k,x<n)/\(∀x∈ns.drop k,n<=x)/\(∀x∈ns.drop (k+1),n<x):=by
 have hp:=J1.1 ha;refine⟨λx hx=>?_,λx hx=>?_,λx hx=>?_⟩
 ·obtain⟨i,hi,rfl⟩:=J2.1 hx;rw[Jab];rw[Jr]at hi;exact h.lo i ZB ZB
 ·obtain⟨i,hi,rfl⟩:=J2.1 hx;rw[Jbg];rw[Jan]at hi;have h1:=h.hi ZB;by_cases h0:i=0
  ·subst h0;exact h1
  ·have:=hp k (k+i) ZB ZB ZB;exact Int.le_trans h1 (Int.le_of_lt this)
 ·obtain⟨i,hi,rfl⟩:=J2.1 hx;rw[Jbg];rw[Jan]at hi;have h1:=h.hi ZB;have:=hp k (k+1+i) ZB ZB ZB;exact Int.lt_of_le_of_lt h1 this
theorem InsAt.new {k:Nat}(h:InsAt ns n k)(ha:ns.Pairwise (· < ·))(hn:∀(h:k<ns.length),ns[k]≠n) :
  (ns.take k++[n]++ns.drop k).Pairwise (· < ·)/\(∀x,x∈ns.take k++[n]++ns.drop k↔x=n\/x∈ns):=by
 obtain⟨h1,h2,h3⟩:=h.mem_of_asc ha;have h4:∀x∈ns.drop k,n<x:=by
  intro x hx;have hk:k<ns.length:=by
   rcases Jbk k ns.length with h|h
   ·exact h
   ·rw[List.drop_eq_nil_of_le h]at hx;simp at hx
  rw[J0 hk]at hx;rcases Jz.1 hx with rfl|hx
  ·have:=h.hi hk;have:=hn hk;omega
  ·exact h3 x hx
 refine⟨?_,λx=>?_⟩
 ·rw[Jau,Ja6];refine⟨ha.sublist (List.take_sublist _ _),?_,λa Bq b hb=>?_⟩
  ·rw[Ja3,Jbb];exact⟨h4,ha.sublist (List.drop_sublist _ _)⟩
  ·have:=h1 a Bq;rcases Ji.1 hb with hb|hb
   ·simp at hb;subst hb;exact this
   ·have:=h2 b hb;omega
 ·conv=>rhs;rw[<-Jam k ns]
  simp only[Ji,Jb];constructor
  ·rintro ((h|h)|h)
   ·exact .inr (.inl h)
   ·exact .inl h
   ·exact .inr (.inr h)
  ·rintro (h|h|h)
   ·exact .inl (.inr h)
   ·exact .inl (.inl h)
   ·exact .inr h
theorem Qbvo {ns:List Int}{l:List Nat}(h1:ns.Pairwise (· < ·))(h2:l.Pairwise (· < ·))(h:∀x,x∈ns↔∃y∈l,(y:Int)=x):ns=l.map Int.ofNat:=by
 have sk:∀x∈ns,0<=x:=λx hx=>by obtain⟨y,_,rfl⟩:=(h x).1 hx;omega
 have e:ns=(ns.map Int.toNat).map Int.ofNat:=by
  rw[Jbp]
  conv=>lhs;rw[<-Jbs ns]
  refine Ja7 λx hx=>?_;have:=sk x hx;simp only[Function.comp_def,id];exact (Int.toNat_of_nonneg this).symm
 rw[e];congr 1;refine GQ ?_ h2 λx=>?_
 ·rw[Jbi];refine List.Pairwise.imp_of_mem (λ{a b} ha hb eD=>?_) h1;have:=sk a ha;have:=sk b hb;omega
 ·constructor
  ·intro hx;obtain⟨y,hy,rfl⟩:=Js.1 hx;obtain⟨z,hz,rfl⟩:=(h y).1 hy;simpa using hz
  ·intro hx;exact Js.2 ⟨(x:Int),(h x).2 ⟨x,hx,rfl⟩,ZD⟩
end Go.AE.Y
namespace Go.AE.Y
open Go.Proofs.Tryz
variable {H H0:Heap}{K:Uk}
theorem FF {c:C}{ns:List Int}{v:Int}(hs:Slc H 1 (Qb ns) c)(bt:c.ai=false)(hK:∀r,IsIx ns v r->K (Uv r) H) :
  Qr prog L4 [.c c,Uv v] H K:=by
 refine Qd BF Qb2m ?_;have ax:=eq_true hs.ok;have am:=hs.len;have bp:=hs.sz;have ew:=hs.rows;refine Wj ?_;refine Qh (Qe (Qw (λm e1 H1=>∃(i:Nat),m=ns.length-i/\i<=ns.length/\H1=H/\v∉ns.take i/\e1=[(0,.c c),(1,Uv v),(5,Uv i)]) ns.length ?_ ?_))
 ·exact⟨0,ZB,ZB,rfl,ZD,rfl⟩
 ·rintro m e1 H1 ⟨i,hm,hi,rfl,bD,rfl⟩;refine Q1 (Qa ?_);simp only[go_sem,ax,am,Qc];intro hl;simp only[LIM]at hl;refine Wu ?_ ?_
  ·intro hc;have af:i<ns.length:=ZE
   have bm:ns.getD i 0=ns[i]:=Zai
   refine Wm ?_;simp only[go_sem,ax,am,bp,ew,af,Qc,Qk _ _ af];refine Wv ?_ ?_
   ·intro aD;have hv:ns.getD i 0=v:=ZH;refine Za ?_;refine Zt ?_;exact hK _ (.inr ⟨i,rfl,af,hv,bD⟩)
   ·intro aD;have hv:¬ns.getD i 0=v:=ZH;refine Wk ?_;refine⟨Qs,ns.length-(i+1),ZB,i+1,rfl,ZB,?_,rfl⟩;rw[Jg af];simp only[Ji,Jb,not_or];exact⟨bD,λh=>hv (by rw[bm];exact h.symm)⟩
  ·intro hc;have bh:ns.length<=i:=ZE
   rw[Jc bh]at bD;refine Wo ?_;exact hK _ (.inl ⟨rfl,bD⟩)
theorem Si {fl:Bool}{ns:List Int}{n:Int}(ha:ns.Pairwise (· < ·))(hL:ns.length+1<=2 ^ 38)
  (hK:∀(fl':Bool) (ns':List Int) (H':Heap),Upd H H' []->ns'.Pairwise (· < ·)->(∀x,x∈ns'↔x=n\/x∈ns)->ns'.length<=ns.length+1->K (.c (.sl fl' 1 (Qb ns'))) H') :
  Qr prog OW [.c (.sl fl 1 (Qb ns)),Uv n] H K:=by
 refine Qy ?_;refine Qd BF Qbma ?_;have rest:∀i:Nat,InsAt ns n i->BI prog PU (Q4 BG (unK H K)) [(0,V.c (.sl fl 1 (Qb ns))),(1,Uv n),(5,Uv i)] H:=by
  intro i br;have hile:=br.le;refine Q1 (Qa ?_);have tail:∀e:Env,(∀(h:i<ns.length),ns[i]≠n)->lk 0 e=.c (.sl fl 1 (Qb ns))->lk 1 e=Uv n->lk 5 e=Uv i->BI prog PV (Q4 BG (unK H K)) e H:=by
   intro e bd l0 l1 l5;obtain⟨q1,q2⟩:=br.new ha bd;have rY:List.take i (Qb ns)=Qb (ns.take i):=by simp[Qb,Jba]
   have dy:List.drop i (List.take ns.length (Qb ns))=Qb (ns.drop i):=by
    rw[Jc (by rw[Qc];exact Jl _)];simp[Qb,List.map_drop]
   refine Qa ?_;simp only[go_sem,l0,l5,Qc,rY];refine⟨ZB,?_⟩;refine⟨.inl trivial,Qq _,by simp only[LIM,Jr];omega,λz hz H1 h1=>?_⟩;have kn:Kn H H1 [] ([]++[(z,.vec 1 (Qb (ns.take i)))]):=(Kn.an H).al hz h1;simp only[go_sem,Q4n,l0,l1,l5];generalize ht6:C.ah z 1 0 (0+(List.take i ns).length)=t6;have aq:Gr [(z,.vec 1 (Qb (ns.take i)))] 1 (Qb (ns.take i)) t6:=by rw[<-ht6];exact .mk z 1 _ (by simp[Qc])
   have hw6:=aq.ai;refine BM ?_;simp only[go_sem,Qc,dy];refine⟨ZB,?_⟩;refine kn.bk (new:=Qb [n]) aq (.mk' _ _ _ _) (Qq _) (by simp only[Qc,LIM,Jr,Jo,Jn];omega) λt7 Lg H2 aq hw7 kn=>?_;simp only[go_sem,Q4p,Qc,dy];refine⟨ZB,?_⟩;refine kn.bk (new:=Qb (ns.drop i)) aq (.mk' _ _ _ _) (Qq _) (by simp only[Qc,LIM,Jr,Jan,Jo,Jn,J8];omega) λt8 Lg H3 aq Ay kn=>?_;simp only[go_sem,Q4o];refine Zf ?_;have e0:Qb (ns.take i)++Qb [n]++Qb (ns.drop i)=Qb (ns.take i++[n]++ns.drop i):=Zaq
   rw[e0]at aq;refine⟨_,.c _ _ (aq.frz kn (Qq _)),hK _ _ _ kn.fin q1 q2 ?_⟩;simp;omega
  simp only[go_sem,Qc];by_cases af:i<ns.length
  ·have bm:ns.getD i 0=ns[i]:=Zai
   simp only[go_sem,af,Qk _ _ af];intro _;refine Wu ?_ ?_
   ·intro aD;have he:ns[i]=n:=(by rw[<-bm];simpa[af]using aD);refine Za ?_;refine Zf ?_;refine⟨_,.c _ _ (FI (noOw_mem (Qq _))),hK _ ns _ (Kn.an H).fin ha (λx=>⟨.inr,?_⟩) ZB⟩;rintro (rfl|h)
    ·rw[<-he];exact Jf af
    ·exact h
   ·intro aD;have he:ns[i]≠n:=(by rw[<-bm];simpa[af]using aD);refine Zd ?_;exact tail _ (λ_=>he) rfl rfl rfl
  ·have zn:decide ((i:Int)<(ns.length:Int))=false:=ZG
   have cP:(Qb ns).getD i []=[]:=by rw[Ja,Jp ZS];rfl
   simp only[go_sem,zn,cP,cond_false];intro _;refine Wu ?_ ?_
   ·intro aD;simp at aD
   ·intro _;refine Zd ?_;exact tail _ (λh=>absurd h af) rfl rfl rfl
 refine Wd ?_;refine Qh (Qe (Qw (λm e1 H1=>∃(i:Nat),m=ns.length-i/\i<=ns.length/\H1=H/\(∀k,k<i->∀(h:k<ns.length),ns[k]<n)/\e1=[(0,.c (.sl fl 1 (Qb ns))),(1,Uv n),(5,Uv i)]) ns.length ?_ ?_))
 ·exact⟨0,ZB,ZB,rfl,λk hk=>ZB,rfl⟩
 ·rintro m e1 H1 ⟨i,hm,hi,rfl,qT,rfl⟩;refine Q1 (Qa ?_);by_cases af:i<ns.length
  ·have bm:ns.getD i 0=ns[i]:=Zai
   simp only[go_sem,af,Qc,Qk _ _ af];intro _;refine Wu ?_ ?_
   ·intro hc;have hv:ns[i]<n:=(by rw[<-bm];simpa[af]using hc);refine Zd ?_;refine Qe (Qp ?_);simp only[go_sem,X.next];refine⟨Qs,ns.length-(i+1),ZB,i+1,rfl,ZB,λk hk h=>?_,rfl⟩;by_cases h':k<i
    ·exact qT k h' h
    ·have:k=i:=ZB;subst this;exact hv
   ·intro hc;have hv:¬ns[i]<n:=(by rw[<-bm];simpa[af]using hc);refine Zb ?_;exact rest i ⟨hi,qT,λ_=>ZB⟩
  ·have zn:decide ((i:Int)<(ns.length:Int))=false:=ZG
   have cP:(Qb ns).getD i []=[]:=by rw[Ja,Jp ZS];rfl
   simp only[go_sem,zn,cP,Qc,cond_false];intro _;refine Wu ?_ ?_
   ·intro aD;simp at aD
   ·intro _;refine Zb ?_;exact rest i ⟨hi,qT,λh=>absurd h af⟩
end Go.AE.Y
namespace Go.AE.Y
attribute [local instance] Classical.propDecidable
variable {g:Nat->List Nat}{n h:Nat}
theorem rchB_iff {a:Int}{x:Nat}:Ch g a x=true↔Rch g (λz=>(z:Int)=a) 0 x:=by simp[Ch]
theorem Rr (b:Nat):Ch g (b:Int) b=false:=by
 cases hc:Ch g (b:Int) b with
 |false=>rfl
 |true=>exact absurd rfl (rchB_iff.1 hc).snd
theorem Qbpw (b:Nat):domB g b b=Ch g (-1) b:=by simp[domB,Rr]
theorem Qb1g {a b:Nat}(h:domB g a b=true):Ch g (-1) a=true/\Ch g (-1) b=true:=by
 simp only[domB,Je]at h;exact⟨h.1.1,h.1.2⟩
end Go.AE.Y
namespace Go.AE.Y
open Go.Proofs.Tryz
variable {H H0:Heap}{K:Uk}
structure GF (rows:List (List C))(nx:Nat->List Int):Prop where
 no:∀r∈rows,ak r=true
 x:∀i,i<rows.length->∃a1 a2 a3 a4 fl,rows.getD i []=[a1,a2,a3,a4,.sl fl 1 (Qb (nx i))]
 n:rows.length<=10000
 m:∀i,i<rows.length->(nx i).length<=1000
theorem GF.grd {rows:List (List C)}{nx:Nat->List Int}(h:GF rows nx)(H:Heap)(fl:Bool):GRd H (.sl fl 5 rows) rows nx:=⟨.mk' _ _ _ _,rfl,h.no,h.x⟩
theorem Hd {q:CodeD}(h:q.gd):GF (Qo q.blocks) (gnx q):=by
 refine⟨(E5 (λ_=>.none) q false).no,(E5 (λ_=>.none) q false).x,by rw[Qn];have:=h.b1;omega,λi hi=>?_⟩;rw[Qn]at hi;have:gnx q i=q.blocks[i].next:=by simp[gnx,Ja,hi]
 rw[this];have:=h.n _ (Jf hi);omega
noncomputable def inL (n:Nat)(g:Nat->List Nat):List Bool:=(List.range n).map (Ch g (-1))
noncomputable def D3 (n:Nat)(g:Nat->List Nat)(a:Nat):List Bool:=(List.range n).map (domB g a)
noncomputable def ovOf (n:Nat)(g:Nat->List Nat)(k:Nat):List (List C):=(List.range k).map λa=>[.sl false 1 (Qv (D3 n g a))]
theorem SK (n:Nat)(f:Nat->Bool){i:Nat}(h:i<n):((List.range n).map f).getD i false=f i:=by simp[Ja,h]
theorem FH {n:Nat}{g:Nat->List Nat}:(inL n g).length=n:=by simp[inL]
theorem GE {n:Nat}{g:Nat->List Nat}{a:Nat}:(D3 n g a).length=n:=by simp[D3]
theorem Ih {n:Nat}{g:Nat->List Nat}{k:Nat}:(ovOf n g k).length=k:=by simp[ovOf]
theorem Lu {n:Nat}{g:Nat->List Nat}{i:Nat}(h:i<n):(inL n g).getD i false=Ch g (-1) i:=SK _ _ h
theorem Pn {n:Nat}{g:Nat->List Nat}{a i:Nat}(h:i<n):(D3 n g a).getD i false=domB g a i:=SK _ _ h
theorem HV {n:Nat}{g:Nat->List Nat}{k a:Nat}(h:a<k):(ovOf n g k).getD a []=[.sl false 1 (Qv (D3 n g a))]:=by simp[ovOf,Ja,h]
noncomputable def ysL (n:Nat)(g:Nat->List Nat)(ys:List Nat):List (Nat×Obj):=ys.zipIdx.map λx=>(x.1,.vec 1 (Qv (D3 n g x.2)))
def ysR (n:Nat)(ys:List Nat):List (List C):=ys.map λy=>[.ah y 1 0 n]
theorem Qb0b (n:Nat)(g:Nat->List Nat)(ys:List Nat)(y:Nat):ysL n g (ys++[y])=ysL n g ys++[(y,.vec 1 (Qv (D3 n g ys.length)))]:=by
 simp[ysL,List.zipIdx_append]
theorem Qb0c (n:Nat)(ys:List Nat)(y:Nat):ysR n (ys++[y])=ysR n ys++[[.ah y 1 0 n]]:=by simp[ysR]
theorem Qb37 (n:Nat)(ys:List Nat):(ysR n ys).length=ys.length:=by simp[ysR]
theorem Qb6b {S:Nat->Bool}{n:Nat}{g:Nat->List Nat}(ys:List Nat):∀(k:Nat),(∀p∈(ys.zipIdx k).map λx=>(x.1,Obj.vec 1 (Qv (D3 n g x.2))),H p.1=p.2/\S p.1=true)->
  FrzR H S (ysR n ys) ((List.range' k ys.length).map λa=>[.sl false 1 (Qv (D3 n g a))]):=by
 induction ys with
 |nil=>intro k _;exact .nil
 |cons y ys ih=>
  intro k h;rw[List.zipIdx_cons,Jw]at h;obtain⟨h1,h2⟩:=h _ Jm;simp only[Jn,List.range'_succ,Jw,ysR];refine .cons (.cons ((FrzR.same (S3 _)).ah h2 h1 (by rw[Q3,GE])) .nil) (ih (k+1) λp hp=>h p (Jj _ hp))
theorem Qb38 {S:Nat->Bool}{n:Nat}{g:Nat->List Nat}(ys:List Nat)(h:∀p∈ysL n g ys,H p.1=p.2/\S p.1=true):FrzR H S (ysR n ys) (ovOf n g ys.length):=by
 have:=Qb6b (H:=H) (S:=S) (n:=n) (g:=g) ys 0 h;rw[<-List.range_eq_range']at this;exact this
theorem Qa2h (n:Nat)(f:Nat->Bool){i:Nat}(h:i<n):((List.range i).map f++List.replicate (n-i) false).set i (f i)=(List.range (i+1)).map f++List.replicate (n-(i+1)) false:=by
 refine Jbf λj=>?_;have e:n-i=(n-(i+1))+1:=ZB
 rw[e,List.replicate_succ,Jas,Jv];rw[List.set_append];simp only[Jah,Jbh,Nat.lt_irrefl,if_false,Nat.sub_self,List.set_cons_zero,Jw,Jag,Jau,Ja3]
end Go.AE.Y
namespace Go.AE.Y
variable {P:Program}{H:Heap}{g:G}{w:World}
theorem VF (hs:Sat H g w)(os:Array Go.Obj):∃g',Stp H g w H g' (Go.Sort.grow w os):=by
 obtain⟨l⟩:=os
 induction l generalizing g w with
 |nil=>exact⟨g,by rw[Go.Sort.grow_empty];exact .refl hs⟩
 |cons x l ih=>
  have h1:=Q7e hs x;obtain⟨g',h2⟩:=ih h1.sat;refine⟨g',?_⟩;have e:Go.Sort.grow w ⟨x::l⟩=Go.Sort.grow (w.alloc x) ⟨l⟩:=by
   rw[Go.Sort.alloc_eq_grow,Go.Sort.grow_grow];congr 1;simp
  rw[e];exact h1.trans h2
theorem Qbso {b off:Nat}{cs:Array Value}{T:TypeId}{d:Array Int}(h:w.heap[b]? = some (.cells cs T (0,0))) :
  Go.Sort.putRow (Value.int .i64) w b off d=World.aA w b (Go.Sort.putCells (Value.int .i64) off d cs) T:=by
 simp only[Go.Sort.putRow,Go.Sort.mapBlock,World.aA];congr 1;apply Array.ext_getElem?;intro i;simp only[Array.getElem?_modify];by_cases hi:b=i
 ·subst hi;have af:b<w.heap.size:=Gs h;rw[if_pos rfl,h];simp[af,Go.Sort.onCells]
 ·rw[if_neg hi,Array.getElem?_setIfInBounds_ne hi]
theorem Qbk6 {f:Nat}(hf:fnOk P f=true)
  (hc:∀(blk off cap:Nat) (zs:List Int) (w:World),Go.Sort.Holds (Value.int .i64) w blk off zs.toArray->blk<w.heap.size->zs.length<4611686018427387904->
   Calls P f #[.slice (some ⟨blk,off,none⟩) zs.length cap] w λe w'=>
    e=.returned (.tuple #[])/\∃n os,w'=Go.Sort.grow (Go.Sort.putRow (Value.int .i64) (Go.Sort.ahead w n) blk off (zs.mergeSort λx y=>decide (x<=y)).toArray) os)
  {z n:Nat} {ns:List Int} {K:V->Heap->Prop} (hz:H z=.vec 1 (Qb ns)) (hn:n=ns.length) (h0:0<n)
  (hK:∀H',Upd H H' [(z,.vec 1 (Qb (ns.mergeSort λx y=>decide (x<=y))))]->K (.tup []) H'):Qr P f [.c (.ah z 1 0 n)] H K:=by
 refine⟨hf,λg w vs hs hl hv=>?_⟩;obtain⟨v,rfl⟩:∃v,vs=[v]:=by
  match vs,hl with
  |[v],_=>exact⟨v,rfl⟩
 have hr:=hv 0 _ v rfl rfl;have ho:=hs.objs z;rw[hz]at ho
 cases hr with
 |c _ _ hr=>
  cases hr with
  |bK=>omega
  |ah l sz st n cap b base T m bP vC iH hm=>
   obtain⟨b',base',T',cs,val,rf,jD,cr,bp,fF,aC,bZ,dt⟩:=SatVec.of ho bP;rw[bP]at rf;simp only[Jav,Prod.mk.injEq,true_and]at rf;obtain⟨rfl,rfl⟩:=rf;have af:=Gs cr;rw[Qc]at bp fF;have gN:∀j (hj:j<ns.length),cs[base+j]? = some (.int .i64 ns[j]):=by
    intro j hj;have h1:(Qb ns)[j]? = some [.int .i64 ns[j]]:=(by simp[Qb,hj]);have h2:=bZ j _ 0 _ h1 rfl;have h3:=dt j _ 0 _ h1 rfl;have h4:val j 0=.int .i64 ns[j]:=by
     exact (λvv (h:RepC w g (.int .i64 ns[j]) vv)=>by cases h;rfl:∀vv,RepC w g (.int .i64 ns[j]) vv->vv=.int .i64 ns[j]) _ (h3.toC rfl)
    simpa[h4]using h2
   have hH:Go.Sort.Holds (Value.int .i64) w b base ns.toArray:=by
    intro j hj;have b6:j<ns.length:=ZV;refine⟨?_,?_⟩
    ·rw[F8 cr,gN j b6];simp[getElem!_pos,b6]
    ·simp[World.frozen?,cr]
   subst hn;simp only[Nat.zero_mul,Jbq];refine (hc b base cap ns w hH af (by simp only[LIM]at fF;omega)).mono λe w'=>?_;rintro⟨rfl,nn,os,rfl⟩;have s1:Stp H g w H g (Go.Sort.ahead w nn):=LY hs (w.drawn+nn);have pD:(Go.Sort.ahead w nn).heap[b]? = some (.cells cs T' (0,0)):=cr;have zj:∀i (c:C),((Qb (ns.mergeSort λx y=>decide (x<=y)))[i]? = some [c])->∃x:Int,c=.int .i64 x/\(Go.Sort.putCells (Value.int .i64) base (ns.mergeSort λx y=>decide (x<=y)).toArray cs)[base+i]? = some (.int .i64 x):=by
    intro i c hi;have am:(ns.mergeSort λx y=>decide (x<=y)).length=ns.length:=List.length_mergeSort _;have cM:i<(ns.mergeSort λx y=>decide (x<=y)).length:=by
     rcases Jbk i (ns.mergeSort λx y=>decide (x<=y)).length with h|h
     ·exact h
     ·rw[Jp (by rw[Qc];exact h)]at hi;simp at hi
    refine⟨(ns.mergeSort λx y=>decide (x<=y))[i],?_,?_⟩
    ·simp only[Qb,Jai,Jh cM,Jbn,Jav,List.cons.injEq,and_true]at hi;exact hi.symm
    ·simp only[Go.Sort.putCells,Array.getElem?_mapIdx];rw[Array.getElem?_eq_getElem ZB];simp only[Jbn,Jav];rw[if_pos ⟨ZB,by simp only[List.size_toArray];omega⟩];congr 1;simp[getElem!_pos];rw[Jh cM];rfl
   have s2:=I4 s1.sat jD pD (cs':=Go.Sort.putCells (Value.int .i64) base (ns.mergeSort λx y=>decide (x<=y)).toArray cs) (by simp[Go.Sort.putCells])
    (.vec 1 (Qb (ns.mergeSort λx y=>decide (x<=y)))) Zbg (λaS cp=>.inr ⟨b,base,T',_,λi _=>.int .i64 ((ns.mergeSort λx y=>decide (x<=y)).getD i 0),bP,jD,cp,by
      rw[Qc,List.length_mergeSort];simp[Go.Sort.putCells];omega,by rw[Qc,List.length_mergeSort];exact fF,λi row hi=>by
       simp only[Qb,Jai,Option.map_eq_some_iff]at hi;obtain⟨x,_,rfl⟩:=hi;rfl,λi row j c hi hj=>by
       have bR:=hi;simp only[Qb,Jai,Option.map_eq_some_iff]at bR;obtain⟨y,hy,rfl⟩:=bR;have lh:j=0:=by
        rcases Jbd j with h|h
        ·exact h
        ·rw[Jp ZG]at hj;simp at hj
       subst lh;obtain⟨x,hx,he⟩:=zj i _ hi;simp only[C.int.injEq,true_and]at hx;subst hx;simp only[Nat.mul_one,Jbq];rw[he,Ja,hy];rfl,λi row j c hi hj=>by
       have bR:=hi;simp only[Qb,Jai,Option.map_eq_some_iff]at bR;obtain⟨y,hy,rfl⟩:=bR;have lh:j=0:=by
        rcases Jbd j with h|h
        ·exact h
        ·rw[Jp ZG]at hj;simp at hj
       subst lh;simp at hj;subst hj;show RepO _ _ _ _ _ (Value.int .i64 ((ns.mergeSort λx y=>decide (x<=y)).getD i 0));rw[Ja,hy];exact .plain _ _ _ _ (.int _ _)⟩) ZD
   rw[<-Qbso pD]at s2;obtain⟨g',s3⟩:=VF s2.sat os;refine .inl ⟨.tuple #[],.tup [],_,g',rfl,hK _ ⟨by simp[Heap.aF],λm _ hm=>Heap.aj _ _ (by simpa using hm)⟩,s1.trans (s2.trans s3),?_⟩;exact .tup [] [] rfl ZD
theorem Qbpk {f:Nat}(hf:fnOk P f=true){k:IntKind}{x r:Int}(hc:∀w,Calls P f #[.int k x] w λe w'=>e=.returned (.int .i64 r)/\w'=w){K:V->Heap->Prop}(hK:K (.c (.int .i64 r)) H) :
  Qr P f [.c (.int k x)] H K:=by
 refine⟨hf,λg w vs hs hl hv=>?_⟩;obtain⟨v,rfl⟩:∃v,vs=[v]:=by
  match vs,hl with
  |[v],_=>exact⟨v,rfl⟩
 have hr:=hv 0 _ v rfl rfl
 cases hr with
 |c _ _ hr=>
  cases hr;refine (hc w).mono λe w'=>?_;rintro⟨rfl,rfl⟩;exact .inl ⟨_,_,H,g,rfl,hK,.refl hs,.c _ _ (.int _ _)⟩
end Go.AE.Y
namespace Go.AE.Y
structure Cmp (ns R:List Int)(k j:Nat):Prop where
 len:R.length=ns.length
 kj:k<j
 jn:j<=ns.length
 asc:(R.take k).Pairwise (· < ·)
 mem:∀x,x∈R.take k↔x∈ns.take j
 same:∀i,j<=i+1->R.getD i 0=ns.getD i 0
variable {ns R:List Int}{k j:Nat}
theorem take_mem {l:List Int}{j:Nat}{x:Int}:x∈l.take j↔∃i,i<j/\i<l.length/\l.getD i 0=x:=by
 constructor
 ·intro h;obtain⟨i,hi,rfl⟩:=J2.1 h;rw[Jr]at hi;refine⟨i,ZB,ZB,?_⟩;rw[Jab,Ja,Jh ZB];rfl
 ·rintro⟨i,h1,h2,rfl⟩;rw[Ja,Jh h2];exact J2.2 ⟨i,by rw[Jr];omega,by rw[Jab];rfl⟩
theorem I1 {ns:List Int}(h:ns.Pairwise (·<=·)){a b:Nat}(eD:a<=b)(hb:b<ns.length):ns.getD a 0<=ns.getD b 0:=by
 rcases Jbk a b with h1|h1
 ·have:=J1.1 h a b ZB hb h1;simpa[Ja,hb,show a<ns.length by omega]using this
 ·have:a=b:=ZB
  subst this;exact Int.le_refl _
theorem Cmp.start (hs:ns.Pairwise (·<=·))(nr:0<k)(hk:k<ns.length)(bd:∀i,0<i->i<k->ns.getD i 0≠ns.getD (i-1) 0)(he:ns.getD k 0=ns.getD (k-1) 0):Cmp ns ns k (k+1):=by
 refine⟨rfl,ZB,ZB,?_,λx=>?_,λi _=>rfl⟩
 ·rw[J1];intro a b ha hb eD;rw[Jr]at ha hb;rw[Jab,Jab];have h1:=I1 hs (a:=a) (b:=b-1) ZB ZB;have h2:=I1 hs (a:=b-1) (b:=b) ZB ZB;have h3:=bd b ZB ZB;have e1:ns.getD a 0=ns[a]:=by simp[Ja,show a<ns.length by omega]
  have e2:ns.getD b 0=ns[b]:=by simp[Ja,show b<ns.length by omega]
  rw[e1]at h1;rw[e2]at h2 h3;omega
 ·rw[take_mem,take_mem];constructor
  ·rintro⟨i,h1,h2,h3⟩;exact⟨i,ZB,h2,h3⟩
  ·rintro⟨i,h1,h2,h3⟩;by_cases h:i<k
   ·exact⟨i,h,h2,h3⟩
   ·have:i=k:=ZB;subst this;exact⟨i-1,ZB,ZB,by rw[<-he];exact h3⟩
theorem Cmp.eq (c:Cmp ns R k j)(hj:j<ns.length)(he:ns.getD j 0=ns.getD (j-1) 0):Cmp ns R k (j+1):=by
 have:=c.kj;refine⟨c.len,ZB,ZB,c.asc,λx=>?_,λi hi=>c.same i ZB⟩;rw[c.mem,take_mem,take_mem];constructor
 ·rintro⟨i,h1,h2,h3⟩;exact⟨i,ZB,h2,h3⟩
 ·rintro⟨i,h1,h2,h3⟩;by_cases h:i<j
  ·exact⟨i,h,h2,h3⟩
  ·have:i=j:=ZB
   subst this;exact⟨i-1,ZB,ZB,by rw[<-he];exact h3⟩
theorem Cmp.ne (c:Cmp ns R k j)(hs:ns.Pairwise (·<=·))(hj:j<ns.length)(he:ns.getD j 0≠ns.getD (j-1) 0):Cmp ns (R.set k (ns.getD j 0)) (k+1) (j+1):=by
 have hkj:=c.kj;have cg:k<R.length:=by rw[c.len];omega
 have bF:(R.set k (ns.getD j 0)).take (k+1)=R.take k++[ns.getD j 0]:=by
  rw[Jg (by rw[Jk];exact cg),List.getElem_set_self];congr 1;rw[List.take_set_of_le (Jl _)]
 refine⟨by rw[Jk];exact c.len,ZB,ZB,?_,λx=>?_,λi hi=>?_⟩
 ·rw[bF,Ja6];refine⟨c.asc,ZD,λa ha b hb=>?_⟩;simp at hb;subst hb;obtain⟨i,h1,h2,rfl⟩:=take_mem.1 ((c.mem a).1 ha);have h3:=I1 hs (a:=i) (b:=j-1) ZB ZB;have h4:=I1 hs (a:=j-1) (b:=j) ZB hj;simp only[Ja]at *;omega
 ·rw[bF,Ji,c.mem,take_mem,take_mem];simp only[Jb];constructor
  ·rintro (⟨i,h1,h2,h3⟩|rfl)
   ·exact⟨i,ZB,h2,h3⟩
   ·exact⟨j,ZB,hj,rfl⟩
  ·rintro⟨i,h1,h2,h3⟩;by_cases h:i<j
   ·exact .inl ⟨i,h,h2,h3⟩
   ·have:i=j:=ZB;subst this;exact .inr h3.symm
 ·have:k≠i:=ZB
  rw[<-c.same i ZB];simp[Ja,this]
theorem RI (hs:ns.Pairwise (·<=·))(bd:∀i,0<i->i<ns.length->ns.getD i 0≠ns.getD (i-1) 0):ns.Pairwise (· < ·):=by
 rw[J1];intro a b ha hb eD;have h1:=I1 hs (a:=a) (b:=b-1) ZB ZB;have h2:=I1 hs (a:=b-1) (b:=b) ZB ZB;have h3:=bd b ZB ZB;have e1:ns.getD a 0=ns[a]:=by simp[Ja,ha]
 have e2:ns.getD b 0=ns[b]:=by simp[Ja,hb]
 rw[e1]at h1;rw[e2]at h2 h3;omega
def srt (ns:List Int):List Int:=ns.mergeSort λx y=>decide (x<=y)
theorem GZ (ns:List Int):(srt ns).length=ns.length:=List.length_mergeSort _
theorem Qb3q (ns:List Int)(x:Int):x∈srt ns↔x∈ns:=(List.mergeSort_perm ns _).mem_iff
theorem Qbo8 (ns:List Int):(srt ns).Pairwise (·<=·):=by
 have:=List.pairwise_mergeSort (le:=λx y:Int=>decide (x<=y)) (by simp only[decide_eq_true_eq];omega) (by simp only[Bool.or_eq_true,decide_eq_true_eq];omega) ns;exact this.imp ZD
end Go.AE.Y
namespace Go.Proofs
open Go.Shelf
def Tryz.lays189_ren:Go.Shelf.Ren:=⟨fun|189=>109|125=>165|257=>164|128=>203|129=>204|294=>194|295=>195|296=>196|297=>197|298=>198|299=>199|216=>200|300=>201|301=>202|328=>230|329=>231|330=>232|331=>233|332=>234|215=>235|343=>245|n=>n,fun|28=>32|3=>3|46=>161|0=>0|51=>212|53=>214|4=>4|183=>205|182=>204|131=>133|5=>5|9=>9|218=>239|222=>162|228=>251|229=>248|n=>n,fun|n=>n⟩
theorem Tryz.lays189:Go.Proofs.Lays.n189 Tryz.prog Tryz.lays189_ren:={
 mixed:=by kernel_rfl
 f125:=Tryz.func165.trans (congrArg some (by kernel_rfl))
 f128:=Tryz.func203.trans (congrArg some (by kernel_rfl))
 f129:=Tryz.func204.trans (congrArg some (by kernel_rfl))
 f189:=Tryz.func109.trans (congrArg some (by kernel_rfl))
 f215:=Tryz.func235.trans (congrArg some (by kernel_rfl))
 f216:=Tryz.func200.trans (congrArg some (by kernel_rfl))
 f257:=Tryz.func164.trans (congrArg some (by kernel_rfl))
 f294:=Tryz.func194.trans (congrArg some (by kernel_rfl))
 f295:=Tryz.func195.trans (congrArg some (by kernel_rfl))
 f296:=Tryz.func196.trans (congrArg some (by kernel_rfl))
 f297:=Tryz.func197.trans (congrArg some (by kernel_rfl))
 f298:=Tryz.func198.trans (congrArg some (by kernel_rfl))
 f299:=Tryz.func199.trans (congrArg some (by kernel_rfl))
 f300:=Tryz.func201.trans (congrArg some (by kernel_rfl))
 f301:=Tryz.func202.trans (congrArg some (by kernel_rfl))
 f328:=Tryz.func230.trans (congrArg some (by kernel_rfl))
 f329:=Tryz.func231.trans (congrArg some (by kernel_rfl))
 f330:=Tryz.func232.trans (congrArg some (by kernel_rfl))
 f331:=Tryz.func233.trans (congrArg some (by kernel_rfl))
 f332:=Tryz.func234.trans (congrArg some (by kernel_rfl))
 f343:=Tryz.func245.trans (congrArg some (by kernel_rfl))
 t0:=Tryz.underlying0
 a0:=Tryz.isAgg0
 z0:=Tryz.sizeOf0
 v0:=Tryz.zeroValue0
 t3:=Tryz.underlying3
 a3:=Tryz.isAgg3
 z3:=Tryz.sizeOf3
 v3:=Tryz.zeroValue3
 t4:=Tryz.underlying4
 a4:=Tryz.isAgg4
 z4:=Tryz.sizeOf4
 v4:=Tryz.zeroValue4
 t5:=Tryz.underlying5
 a5:=Tryz.isAgg5
 z5:=Tryz.sizeOf5
 v5:=Tryz.zeroValue5
 t9:=Tryz.underlying9
 a9:=Tryz.isAgg9
 z9:=Tryz.sizeOf9
 v9:=Tryz.zeroValue9
 t28:=Tryz.underlying32
 a28:=Tryz.isAgg32
 z28:=Tryz.sizeOf32
 v28:=Tryz.zeroValue32
 t46:=Tryz.underlying161
 a46:=Tryz.isAgg161
 z46:=Tryz.sizeOf161
 v46:=Tryz.zeroValue161
 t51:=Tryz.underlying212
 a51:=Tryz.isAgg212
 z51:=Tryz.sizeOf212
 v51:=Tryz.zeroValue212
 t53:=Tryz.underlying214
 a53:=Tryz.isAgg214
 z53:=Tryz.sizeOf214
 v53:=Tryz.zeroValue214
 t131:=Tryz.underlying133
 a131:=Tryz.isAgg133
 z131:=Tryz.sizeOf133
 v131:=Tryz.zeroValue133
 t182:=Tryz.underlying204
 a182:=Tryz.isAgg204
 z182:=Tryz.sizeOf204
 v182:=Tryz.zeroValue204
 t183:=Tryz.underlying205
 a183:=Tryz.isAgg205
 z183:=Tryz.sizeOf205
 v183:=Tryz.zeroValue205
 t218:=Tryz.underlying239
 a218:=Tryz.isAgg239
 z218:=Tryz.sizeOf239
 v218:=Tryz.zeroValue239
 t222:=Tryz.underlying162
 a222:=Tryz.isAgg162
 z222:=Tryz.sizeOf162
 v222:=Tryz.zeroValue162
 t228:=Tryz.underlying251
 a228:=Tryz.isAgg251
 z228:=Tryz.sizeOf251
 v228:=Tryz.zeroValue251
 t229:=Tryz.underlying248
 a229:=Tryz.isAgg248
 z229:=Tryz.sizeOf248
 v229:=Tryz.zeroValue248 }
end Go.Proofs
namespace Go.AE.Y
open Go.Proofs.Tryz
variable {H H0:Heap}{K:Uk}{E B Lg:Ul}
theorem Qbpp {x:Int}(h0:0<=x)(h1:x<=18446744073709551615)(hK:∀n:Int,K (Uv n) H):Qr prog Qba8 [.c (.int .u64 x)] H K:=
 Qbpk ZF (λw=>calls_of_every_depth λD=>Go.Proofs.AnyS.bits_LenIn (ρ:=lays189_ren) { lays189 with } D x w h0 h1) (hK _)
theorem Qb4y {c:C}(bt:c.ai=false)(hK:K (.tup []) H):Qr prog Qcl [.c c,Uv 0,Uv 0] H K:=by
 refine Qd BF Qjm ?_;refine Za ?_;refine⟨Qs,?_⟩;refine Qe (Qw (λm e1 H1=>H1=H/\e1=[(0,.c c),(1,Uv 0),(2,Uv 0),(6,Uv 1)]) 0 ⟨rfl,rfl⟩ ?_);rintro m e1 H1 ⟨rfl,rfl⟩;refine Wa ?_;refine Qh (Qf rfl (λh=>ZI) λ_=>?_);refine Qu ?_;simp only[go_sem,X.next,Q4,BE,Cp,Jao];exact⟨λ_=>trivial,hK⟩
theorem Qb5d {c:C}{l:Int}(bt:c.ai=false)(hK:K (.tup []) H):Qr prog Qf2 [.c c,Uv 0,Uv 0,Uv l] H K:=by
 refine Qd BF Qzv ?_;refine Wd ?_;refine Qe (Qw (λm e1 H1=>H1=H/\e1=[(0,.c c),(1,Uv 0),(2,Uv 0),(3,Uv l),(8,.c (.bool true)),(9,.c (.bool true))]) 0 ⟨rfl,rfl⟩ ?_);rintro m e1 H1 ⟨rfl,rfl⟩;refine Wq ?_;refine⟨Qs,?_⟩;refine Wa ?_;refine Qh (Qf rfl (λ_=>?_) (λh=>ZI));refine Za ?_;refine Qb4y bt ?_;simp only[HJ];refine Ql ?_;simp only[go_sem,X.next,Q4,BE,Cp,Jao];exact⟨λ_=>trivial,hK⟩
theorem Qb0y {c:C}(ax:aZ H c)(hl:ay c=0)(bt:c.ai=false)(hK:K (.tup []) H):Qr prog Q5c [.c c] H K:=by
 have ax:=eq_true ax;refine Qd BF Qbr6 ?_;refine Zm ax hl ?_;have e0:((0:Nat):Int)=0:=rfl;refine Qp ?_;simp only[go_sem,e0];refine⟨⟨ZO,ZO⟩,?_⟩;refine Qbpp ZB ZB λn=>?_;simp only[go_sem,Pq];refine Qb5d bt ?_;simp only[go_sem,Q4,BE,Cp,Jao];exact⟨λ_=>trivial,hK⟩
theorem Qb4e {c:C}{ns:List Int}(kn:Kn H0 H E (B++Lg))(aq:Gr Lg 1 (Qb ns) c)
  (hK:∀Lg' H',Gr Lg' 1 (Qb (srt ns)) c->Kn H0 H' E (B++Lg')->K (.tup []) H'):Qr prog Q5c [.c c] H K:=by
 by_cases h0:ns=[]
 ·subst h0;refine Qb0y (aq.aZ kn) (by rw[aq.ay];rfl) aq.ai (hK Lg H ?_ kn);have:srt []=[]:=by simp[srt]
  rw[this];exact aq
 ·rcases aq with ⟨_,h,_⟩|⟨y,rfl,rfl⟩
  ·cases ns with
   |nil=>exact absurd rfl h0
   |cons a b=>simp[Qb]at h
  ·have hy:=kn.l B.length (l:=y) (o:=.vec 1 (Qb ns)) ZD;have mc:0<ns.length:=List.length_pos_iff.2 h0;refine Qbk6 ZF (λblk off cap zs w h1 h2 h3=>Go.Proofs.Any.slices_Sort_int lays189 blk off cap zs w h1 h2 h3) hy (by rw[Qc]) (by rw[Qc];exact mc) λH' hu=>?_;refine hK [(y,.vec 1 (Qb (srt ns)))] H' (.inr ⟨y,by rw[Qc,Qc,GZ],rfl⟩) ?_;have:=kn.callL B.length (l:=y) (o:=.vec 1 (Qb ns)) ZD hu ZD;simpa[srt]using this
def Qb6q (ks:List Nat):List (C×V):=ks.map λk:Nat=>(.int .i64 (k:Int),.c (.bool true))
def Gw (Lg:List (Nat×Obj))(sz:Nat)(rows:List (List C))(c:C):Prop:=
 (c=.sl true sz []/\rows=[]/\Lg=[])\/∃y R,c=.ah y sz 0 rows.length/\Lg=[(y,.vec sz R)]/\R.take rows.length=rows
end Go.AE.Y
namespace Go.AE
open Go.AE.Y
open Go.Proofs.Tryz
variable {H H0:Heap}{K:Uk}{E B Lg:Ul}
theorem Gr.gw {sz:Nat}{rows:List (List C)}{c:C}(h:Gr Lg sz rows c):Gw Lg sz rows c:=by
 rcases h with h|⟨y,h1,h2⟩
 ·exact .inl h
 ·exact .inr ⟨y,rows,h1,h2,Ja0⟩
end Go.AE
namespace Go.AE.Y
open Go.Proofs.Tryz
variable {H H0:Heap}{K:Uk}{E B Lg:Ul}
theorem Gw.ai {sz:Nat}{rows:List (List C)}{c:C}(h:Gw Lg sz rows c):c.ai=false:=by rcases h with ⟨rfl,_⟩|⟨y,R,rfl,_⟩ <;> rfl
theorem Gw.frz {ns:List Int}{c:C}(h:Gw Lg 1 (Qb ns) c)(kn:Kn H0 H E (B++Lg)):FrzC H (un H0) c (.sl false 1 (Qb ns)):=by
 rcases h with ⟨rfl,h2,_⟩|⟨y,R,rfl,rfl,hR⟩
 ·rw[h2];exact FrzR.nil.sl
 ·have aS:(Qb ns).length<=R.length:=by
   have:=congrArg List.length hR;rw[Jr]at this;omega
  have h:=FrzR.same (H:=H) (S:=un H0) (Qq ns);exact .ah y 1 0 _ R (Qb ns) (Qb ns) (DG (kn.loc (y,.vec 1 R) ZD)) (kn.get (y,.vec 1 R) ZD).1 ZB (by simpa using hR.symm) h.spec.1 (λi r r' h1 h2=>(h.spec.2 i r r' h1 h2).spec.1) λi r r' j c c' h1 h2 h3 h4=>(h.spec.2 i r r' h1 h2).spec.2 j c c' h3 h4
theorem IC {fl:Bool}{ns:List Int}{L:Ul}(kn:Kn H0 H E L)(hl:ns.length<=LIM)(hK:∀t Lg H',Gr Lg 1 (Qb ns) t->t.ai=false->Kn H0 H' E (L++Lg)->K (.c t) H') :
  Qr prog OU [.c (.sl fl 1 (Qb ns))] H K:=by
 refine Qd BF Qbmb ?_;refine Wj ?_;intro b hb;refine Wu ?_ ?_
 ·intro mN;have hn:=hb mN;refine Za ?_;refine Zf ?_;refine hK _ [] H ?_ rfl ZM;rw[hn];exact .nil 1
 ·intro pE;refine Zd ?_;refine Qa ?_;simp only[go_sem,Qc];refine⟨.inl trivial,Qq _,ZB,λz hz H1 h1=>?_⟩;have kn:=kn.al hz h1;simp only[go_sem,Q4q];refine Zf ?_;exact hK _ _ H1 (.mk z 1 _ ZS) rfl kn
theorem Fg (ns:List Int)(i:Nat)(x:Int):(Qb ns).set i [Ui x]=Qb (ns.set i x):=by simp[Qb,Jbj]
theorem Qbbd (ns:List Int)(k:Nat):(Qb ns).take k=Qb (ns.take k):=by simp[Qb,Jba]
theorem Qbpd {c:C}{ns:List Int}(kn:Kn H0 H E (B++Lg))(aq:Gr Lg 1 (Qb ns) c)(hs:ns.Pairwise (·<=·))(hL:ns.length<=2 ^ 38)
  (hK:∀t Lg' ns' H',Gw Lg' 1 (Qb ns') t->t.ai=false->Kn H0 H' E (B++Lg')->ns'.Pairwise (· < ·)->(∀x,x∈ns'↔x∈ns)->ns'.length<=ns.length->K (.c t) H') :
  Qr prog Q11 [.c c] H K:=by
 have bt:=aq.ai;have ax:=eq_true (aq.aZ kn);have am:=aq.ay;have ew:=aq.rowsOf kn;have bp:=aq.aP;refine Qd BF Qa2g ?_;refine Wh ?_;simp only[go_sem,ax,am,Qc];intro _;refine Wu ?_ ?_
 ·intro hc;have h2:ns.length<2:=by have:=of_decide_eq_true hc;omega
  refine Za ?_;refine Zf ?_;exact hK c Lg ns H aq.gw bt kn (RI hs λi h0 hi=>ZB) (λ_=>Iff.rfl) (Jl _)
 ·intro hc;have h2:2<=ns.length:=by have:=of_decide_eq_false hc;omega
  obtain⟨z,rfl,rfl⟩:∃z,c=.ah z 1 0 ns.length/\Lg=[(z,.vec 1 (Qb ns))]:=by
   rcases aq with ⟨_,h,_⟩|⟨y,h1,h2⟩
   ·have:ns.length=0:=(by rw[<-Qc,h];rfl);omega
   ·exact⟨y,by rw[h1,Qc],h2⟩
  have hz:=kn.l B.length (l:=z) (o:=.vec 1 (Qb ns)) ZD;refine Zd ?_;refine Wa ?_;refine Qh (Qe (Qw (λm e1 H1=>∃(k:Nat),m=ns.length-k/\0<k/\k<=ns.length/\H1=H/\(∀i,0<i->i<k->ns.getD i 0≠ns.getD (i-1) 0)/\e1=[(0,.c (.ah z 1 0 ns.length)),(3,Uv k)]) (ns.length-1) ?_ ?_))
  ·exact⟨1,rfl,ZB,ZB,rfl,λi h0 h1=>ZB,rfl⟩
  ·rintro m e1 H1 ⟨k,hm,nr,hk,rfl,bd,rfl⟩;refine Q1 (Qa ?_);simp only[go_sem,hz,Qc,Jq,Jl];intro fF;simp only[LIM]at fF;refine Wu ?_ ?_
   ·intro aD;have af:k<ns.length:=ZH;have oh:k-1<ns.length:=ZB;have e1:((k:Int)-1)=((k-1:Nat):Int):=ZB;have bF:(Qb ns).take ns.length=Qb ns:=Jc (by rw[Qc];exact Jl _);refine Wc ?_;refine BM ?_;simp only[go_sem,hz,e1,af,oh,bF,Qc,Qk _ _ af,Qk _ _ oh,Jq,Jl];refine⟨Qs,?_⟩;refine Wv ?_ ?_
    ·intro bA;have i8:ns.getD k 0=ns.getD (k-1) 0:=ZT;refine Qa ?_;simp only[go_sem,hz,Qc,Jq,Jl];refine⟨ZB,?_⟩;refine Wa ?_;refine Qh (Qe (Qw (λm e1 H2=>∃(j kk:Nat) (R:List Int),m=ns.length-j/\k<j/\j<=ns.length/\Cmp ns R kk j/\Kn H0 H2 E (B++[(z,.vec 1 (Qb R))])/\
      e1=[(0,.c (.ah z 1 0 ns.length)),(3,Uv kk),(4,.c (.ah z 1 k (ns.length-k))),(5,Uv ((j-k:Nat):Int))]) (ns.length-(k+1)) ?_ ?_))
     ·refine⟨k+1,k,ns,rfl,ZB,ZB,.start hs nr af bd i8,kn,?_⟩;have:k+1-k=1:=ZB;rw[this];rfl
     ·rintro m2 e1 H2 ⟨j,kk,R,fw,hkj,hj,nv,kn,rfl⟩;have hz:=kn.l B.length (l:=z) (o:=.vec 1 (Qb R)) ZD;have mX:=nv.len;have hkkj:=nv.kj;refine Q1 (Qa ?_);have e3:k+(ns.length-k)=ns.length:=ZB;simp only[go_sem,hz,Qc,mX,e3,Jl];intro _;refine Wu ?_ ?_
      ·intro ef;have cN:j<ns.length:=(by have:=of_decide_eq_true ef;omega);have hjR:j<R.length:=ZB;have yH:j-1<R.length:=ZB;have um:j-k<ns.length-k:=ZB;have ul:j-k-1<ns.length-k:=ZB;have e4:(((j-k:Nat):Int)-1)=((j-k-1:Nat):Int):=ZB;have cI:(((Qb R).drop k).take (ns.length-k)).getD (j-k) []=[Ui (ns.getD j 0)]:=by
        rw[<-nv.same j ZB,<-Qk _ _ hjR];simp only[Ja,Ja9,Ja8];rw[if_pos um];have:k+(j-k)=j:=ZB;rw[this]
       have ey:(((Qb R).drop k).take (ns.length-k)).getD (j-k-1) []=[Ui (ns.getD (j-1) 0)]:=by
        rw[<-nv.same (j-1) ZB,<-Qk _ _ yH];simp only[Ja,Ja9,Ja8];rw[if_pos ul];have:k+(j-k-1)=j-1:=ZB;rw[this]
       refine Zd ?_;refine Ck (λe2 H3=>∃(kk:Nat) (R:List Int),Cmp ns R kk (j+1)/\Kn H0 H3 E (B++[(z,.vec 1 (Qb R))])/\
        lk 0 e2=.c (.ah z 1 0 ns.length)/\lk 3 e2=Uv kk/\lk 4 e2=.c (.ah z 1 k (ns.length-k))/\lk 5 e2=Uv ((j-k:Nat):Int)) ?_ ?_
       ·intro Q bB _ _;refine Qe (BM ?_);simp only[go_sem,hz,e3,e4,cI,ey,um,ul,Qc,mX,Jl];refine⟨Qs,?_⟩;refine Wv ?_ ?_
        ·intro jh;have ye:ns.getD j 0≠ns.getD (j-1) 0:=(by simpa using jh);have uh:kk<ns.length:=ZB;have y8:kk<R.length:=ZB;have bF:(Qb R).take ns.length=Qb R:=Jc ZS;refine Qa ?_;simp only[go_sem,hz,e3,cI,um,uh,Qk _ _ y8,Fg,Qc,mX,Jq,Jl];intro H3 h3;have kn3:=kn.aB B.length (x:=z) (o:=.vec 1 (Qb R)) ZD h3;have kn:Kn H0 H3 E (B++[(z,.vec 1 (Qb (R.set kk (ns.getD j 0))))]):=(by simpa using kn3);refine Zh ?_;refine⟨Qs,?_⟩;exact bB _ _ ⟨kk+1,_,nv.ne hs cN ye,kn,rfl,rfl,rfl,rfl⟩
        ·intro jh;have zh:ns.getD j 0=ns.getD (j-1) 0:=(by simpa using jh);refine Zd ?_;exact bB _ _ ⟨kk,R,nv.eq cN zh,kn,rfl,rfl,rfl,rfl⟩
       ·rintro e2 H3 ⟨kk,R,nv,kn,l0,l3,l4,l5⟩;refine Qp ?_;simp only[go_sem,X.next,l0,l3,l4,l5];refine⟨Qs,ns.length-(j+1),ZB,j+1,kk,R,rfl,ZB,ZB,nv,kn,?_⟩;have:(((j-k:Nat):Int)+1)=((j+1-k:Nat):Int):=ZB;rw[this]
      ·intro ef;have jX:j=ns.length:=(by have:=of_decide_eq_false ef;omega);subst jX;have uh:kk<=R.length:=ZB;refine Zb ?_;refine Qa ?_;have e5:kk+(ns.length-kk)=ns.length:=ZB;simp only[go_sem,hz,e5,Qc,mX,Jq,Jl];refine⟨ZB,λH3 h3=>?_⟩;have kn3:=kn.aB B.length (x:=z) (o:=.vec 1 (Qb R)) ZD h3;have gC:((Qb R).take kk++List.replicate (ns.length-kk) [C.int .i64 0]++(Qb R).drop ns.length).take kk=Qb (R.take kk):=by
        rw[Jau,List.take_append_of_le_length (by rw[Jr,Qc];omega),List.take_take,Nat.min_self,Qbbd]
       have kB:ns.length<=((Qb R).take kk++List.replicate (ns.length-kk) [C.int .i64 0]++(Qb R).drop ns.length).length:=by
        simp only[J8,Jr,Jd,Jan,Qc];omega
       generalize (Qb R).take kk++List.replicate (ns.length-kk) [C.int .i64 0]++(Qb R).drop ns.length=R2 at *;have kn:Kn H0 H3 E (B++[(z,.vec 1 R2)]):=(by simpa using kn3);have wh:=kn.l B.length (l:=z) (o:=.vec 1 R2) ZD;refine Qa ?_;simp only[go_sem,wh,kB,Jq,Nat.sub_zero];refine⟨ZB,?_⟩;refine Zt ?_;have cA:(Qb (R.take kk)).length=kk:=(by rw[Qc,Jr];omega);refine hK (.ah z 1 0 kk) _ (R.take kk) H3 (.inr ⟨z,R2,?_,rfl,?_⟩) rfl kn nv.asc (λx=>?_) (by rw[Jr];omega)
       ·rw[cA]
       ·rw[cA];exact gC
       ·rw[nv.mem,Ja0]
    ·intro bA;have yd:¬ns.getD k 0=ns.getD (k-1) 0:=ZT;refine Wk ?_;refine⟨Qs,ns.length-(k+1),ZB,k+1,rfl,ZB,ZB,λi h0 h1=>?_,rfl⟩;by_cases h:i<k
     ·exact bd i h0 h
     ·have:i=k:=ZB;subst this;exact yd
   ·intro aD;have bh:ns.length<=k:=ZH;refine Wo ?_;exact hK _ _ ns H1 aq.gw rfl kn (RI hs λi h0 hi=>bd i h0 ZB) (λ_=>Iff.rfl) (Jl _)
theorem Qb49 {fl:Bool}{ns:List Int}(hL:ns.length<=2 ^ 38)(hK:∀ns' H',Upd H H' []->ns'.Pairwise (· < ·)->(∀x,x∈ns'↔x∈ns)->ns'.length<=ns.length->K (.c (.sl false 1 (Qb ns'))) H') :
  Qr prog Nz [.c (.sl fl 1 (Qb ns))] H K:=by
 refine Qy ?_;refine Qd BF Qbrf ?_;refine Wd ?_;refine IC (Kn.an H) ZU λt Lg H1 aq bt kn=>?_;simp only[go_sem,Ea];refine Za ?_;refine Qb4e kn aq λLg H2 aq kn=>?_;refine Za ?_;refine Qbpd kn aq (Qbo8 ns) (by rw[GZ];exact hL) λt2 Lg2 ns' H3 yR how2 kn h1 h2 h3=>?_;simp only[go_sem,Tc];refine Zf ?_;exact⟨_,.c _ _ (yR.frz kn),hK ns' _ kn.fin h1 (λx=>by rw[h2,Qb3q]) (by rw[GZ]at h3;exact h3)⟩
noncomputable def Eb (n:Nat)(nx:Nat->List Int):List Nat:=if C1 n nx then (List.range n).filter (Ch (nxN nx) (-1))else []
theorem Qbay {p rg:Int}{bc:C}{rows:List (List C)}{nx:Nat->List Int}(hg:GRd H bc rows nx)(hn:rows.length<=1000000)
  (hK:∀H',Upd H H' []->K (.c (.sl false 1 (BK (Eb rows.length nx)))) H') :
  Qr prog Qqd [.ag [Ui p,Ui rg,bc]] H K:=by
 have bt:=hg.ow;refine Qy ?_;refine Qd BF Qanc ?_;refine Wh ?_;simp only[go_sem,bt];refine Qbqe hg ?_;simp only[go_sem,Iq];refine Qh (Qf rfl (λhc=>?_) (λhc=>?_))
 ·have hf:=Dd hc;refine Za ?_;refine Zf ?_;have:=hK _ (Kn.an H).fin;simp only[Eb,hf]at this;exact⟨_,.c _ _ FrzR.nil.sl,this⟩
 ·have hf:=Ct hc;have cC:=GA hf;refine Zd ?_;refine Zj bt ?_;refine Xf hg hf hn λS o H1 hu hd=>?_;have kn:=(Kn.an H).aw hu;simp only[go_sem,Qkx];have dM:∀x,x<(List.replicate rows.length false).length->∀y∈nxN nx x,y<(List.replicate rows.length false).length:=by
   rw[Jd];exact λx hx y hy=>EV hf hx hy
  have kU:∀x∈[0],x<(List.replicate rows.length false).length:=ZaC
  have rA:=hd.count dM kU;have dd:cnt (List.replicate rows.length false)=0:=by simp[cnt,List.count_replicate]
  have cG:=G0 S;have vU:=hd.len;rw[Jd]at vU;have eS:o.length<=1000000:=by simp only[Jo]at rA;omega
  refine Qb49 (ns:=o.map Int.ofNat) (by rw[Jah];omega) λns' H2 hu h1 h2 h3=>?_;have kn:=kn.aw hu;simp only[go_sem,Sw];refine Zf ?_;have he:ns'=(Eb rows.length nx).map Int.ofNat:=by
   simp only[Eb,hf,if_pos];refine Qbvo h1 (Ja4 _ Ja1) λx=>?_;rw[h2];have ce:∀y,y∈o↔y<rows.length/\Ch (nxN nx) (-1) y=true:=by
    intro y;rw[hd.list dM kU (Ev _) y,hd.seen dM kU y];rw[Ev];simp only[Jat,false_or,Jb,exists_eq_left,rchB_iff];constructor
    ·intro hr;have ey:=hr.mono (B:=λz=>(z:Int)=-1) (λz hz=>ZB);exact⟨ey.lt (λx hx y hy=>EV hf hx hy) cC,ey⟩
    ·intro hr;exact hr.2.mono λz hz=>by rw[Ev]at hz;simp at hz
   constructor
   ·intro hx;obtain⟨y,hy,rfl⟩:=Js.1 hx;obtain⟨h1,h2⟩:=(ce y).1 hy;exact⟨y,Jar.2 ⟨Jy.2 h1,h2⟩,rfl⟩
   ·rintro⟨y,hy,rfl⟩;obtain⟨h1,h2⟩:=Jar.1 hy;exact Js.2 ⟨y,(ce y).2 ⟨Jy.1 h1,h2⟩,rfl⟩
  have:=hK _ kn.fin;rw[BK,<-he]at this;exact⟨_,.c _ _ (FI (noOw_mem (Qq _))),this⟩
theorem HX {n:Nat}{S:List Bool}{f:Nat->Bool}(hl:S.length=n)(h:∀x,x<n->S.getD x false=f x):S=(List.range n).map f:=by
 refine List.ext_getElem Za3 λi h1 h2=>?_;have hi:i<n:=by rw[<-hl];exact h1
 have:=h i hi;simp only[Ja,Jh h1,Jae]at this;simp[this]
theorem Nr {n:Nat}{nx:Nat->List Int}{S:List Bool}{o:List Nat}(hf:C1 n nx=true)(hd:Dfs (nxN nx) [0] (List.replicate n false) [] S o):S=inL n (nxN nx):=by
 have cC:=GA hf;have dM:∀x,x<(List.replicate n false).length->∀y∈nxN nx x,y<(List.replicate n false).length:=by
  rw[Jd];exact λx hx y hy=>EV hf hx hy
 have kU:∀x∈[0],x<(List.replicate n false).length:=ZaC
 have hl:=hd.len;rw[Jd]at hl;refine HX hl λx hx=>?_;have hs:=hd.seen dM kU x;rw[Ev]at hs;simp only[Jat,false_or,Jb,exists_eq_left]at hs;rw[Jbl,hs,rchB_iff];exact⟨λhr=>hr.mono λz hz=>ZB,λhr=>hr.mono λz hz=>by rw[Ev]at hz;simp at hz⟩
theorem Qasw {n:Nat}{nx:Nat->List Int}{S:List Bool}{o:List Nat}{a:Nat}(hf:C1 n nx=true)(ha:a<n)(hd:Dfs (nxN nx) [0] ((List.replicate n false).set a true) [] S o) :
  S.set a false=(List.range n).map (Ch (nxN nx) a):=by
 have cC:=GA hf;have dM:∀x,x<((List.replicate n false).set a true).length->∀y∈nxN nx x,y<((List.replicate n false).set a true).length:=by
  rw[Jk,Jd];exact λx hx y hy=>EV hf hx hy
 have kU:∀x∈[0],x<((List.replicate n false).set a true).length:=by rw[Jk,Jd];simpa using cC
 have hl:=hd.len;rw[Jk,Jd]at hl;refine HX (by rw[Jk];exact hl) λx hx=>?_;have xb:∀z,((List.replicate n false).set a true).getD z false=true↔z=a:=by
  intro z;rw[G9,Jd,Ev];by_cases hz:z=a
  ·simp[hz,ha]
  ·simp[hz]
 have bW:(S.set a false).getD x false=if x=a then false else S.getD x false:=by
  simp only[Ja,Jaj];by_cases ng:a=x
  ·subst ng;simp[hl,ha]
  ·have:¬x=a:=λh=>ng h.symm;simp[ng,this]
 rw[bW];by_cases ng:x=a
 ·subst ng;rw[if_pos rfl,Rr]
 ·rw[if_neg ng,Jbl,hd.seen dM kU x,xb,rchB_iff];simp only[ng,false_or,Jb,exists_eq_left];exact⟨λhr=>hr.mono λz hz=>(xb z).2 ZB,λhr=>hr.mono λz hz=>by have:=(xb z).1 hz;omega⟩
theorem Qb0a {n:Nat}{g:Nat->List Nat}:((List.replicate n false).set 0 true).set 0 false=(List.range n).map (Ch g (0:Nat)):=by
 refine HX ZD λx hx=>?_;have:Ch g ((0:Nat):Int) x=false:=by
  cases hc:Ch g ((0:Nat):Int) x with
  |false=>rfl
  |true=>exact absurd rfl (rchB_iff.1 hc).fst
 rw[this,List.set_set];have:(List.replicate n false).set 0 false=List.replicate n false:=by
  cases n with
  |zero=>rfl
  |succ n=>rfl
 rw[this,Ev]
theorem Rw {p rg:Int}{fl:Bool}{rows:List (List C)}{nx:Nat->List Int}(hg:GF rows nx)(hf:C1 rows.length nx=true)
  (hK:∀H',Upd H H' []->K (.c (.sl false 1 (ovOf rows.length (nxN nx) rows.length))) H') :
  Qr prog Nl [.ag [Ui p,Ui rg,.sl fl 5 rows]] H K:=by
 have hn:=hg.n;have cC:=GA hf;have cF:∀(y:Nat) l a b d,C.sl fl 5 rows=.ah l a b d->l≠y:=by intro y l a b d h;cases h
 refine Qy ?_;refine Qd BF Qbrm ?_;refine Wd ?_;intro _;refine Wf ?_;simp only[go_sem,Hm];refine⟨by simp only[LIM];omega,λal em H1 h1=>?_⟩;have kn:Kn H H1 [] ([(al,.vec 1 (Qv (List.replicate rows.length false)))]++[]):=(Kn.an H).al em h1;simp only[go_sem,Q84];refine Za ?_;refine Q5g (F:=H1) hf ZB (hg.grd H1 fl) (cF al) rows.length 0 (List.replicate rows.length false) [] (.sl true 1 []) [] H1 _ ZD ZB cC (Ev _ _) kn.mid (.nil 1) ZD λS o oc Lg0 H2 hd k2 _=>?_;have kn:Kn H H2 [] [(al,.vec 1 (Qv (inL rows.length (nxN nx))))]:=by
  have:=(kn.comp k2 rfl).drop;rw[Nr hf hd]at this;exact this
 refine Wa ?_;refine Qh (Qe (Qw (λm e1 H1=>∃(ys:List Nat) (oc:C) (Lg:Ul),m=rows.length-ys.length/\ys.length<=rows.length/\Gr Lg 1 (ysR rows.length ys) oc/\
  Kn H H1 [] (([(al,.vec 1 (Qv (inL rows.length (nxN nx))))]++ysL rows.length (nxN nx) ys)++Lg)/\
  e1=[(1,.c (.pp [Ui p,Ui rg,.sl fl 5 rows])),(3,.c (Ui rows.length)),(4,.c oc),(5,.c (.ah al 1 0 rows.length)),(6,.c (Ui ys.length))]) rows.length ?_ ?_))
 ·exact⟨[],_,[],ZD,ZD,.nil 1,kn,rfl⟩
 ·rintro m e1 H3 ⟨ys,oc,Lg,hm,hi,aq,kn,rfl⟩;have hoc:=aq.ai;refine Wa ?_;refine Wu ?_ ?_
  ·intro hc;have af:ys.length<rows.length:=ZE
   have yu:ys.length<(inL rows.length (nxN nx)).length:=by rw[FH];exact af
   refine Zd ?_;refine Ck (λe2 H4=>∃(oc:C) (Lg:Ul) (y:Nat),Gr Lg 1 (ysR rows.length (ys++[y])) oc/\
    Kn H H4 [] (([(al,.vec 1 (Qv (inL rows.length (nxN nx))))]++ysL rows.length (nxN nx) (ys++[y]))++Lg)/\
    lk 1 e2=.c (.pp [Ui p,Ui rg,.sl fl 5 rows])/\lk 3 e2=.c (Ui rows.length)/\lk 4 e2=.c oc/\lk 5 e2=.c (.ah al 1 0 rows.length)/\lk 6 e2=.c (Ui ys.length)) ?_ ?_
   ·intro Q bB _ _;refine Qe (Qa ?_);simp only[go_sem,Hm];refine⟨by simp only[LIM];omega,λy2 nf H4 h4=>?_⟩;have kn:Kn H H4 [] ([(y2,.vec 1 (Qv (List.replicate rows.length false)))]++([(al,.vec 1 (Qv (inL rows.length (nxN nx))))]++(ysL rows.length (nxN nx) ys++Lg))):=
     (kn.al nf h4).perm (Qj λf hf h0 hc hp=>by simp only[Ui,hf];omega)
    have hy:=kn.l 0 rfl;have bE:ys.length<(List.replicate rows.length false).length:=(by rw[Jd];exact af);simp only[go_sem,Q85];refine Qa ?_;have qn:∀(S:List Bool),S.length=rows.length->(Qv S).take rows.length=Qv S:=λS h=>Jc Zan;simp only[go_sem,hy,af,Q3,Jd,Q7 _ _ bE,Et,Jq,Jl];intro H5 h5;have kn:Kn H H5 [] ([(y2,.vec 1 (Qv ((List.replicate rows.length false).set ys.length true)))]++([(al,.vec 1 (Qv (inL rows.length (nxN nx))))]++(ysL rows.length (nxN nx) ys++Lg))):=kn.aB 0 rfl h5;refine Wa ?_;have rest:∀(e:Env) (H6:Heap),lk 1 e=.c (.pp [Ui p,Ui rg,.sl fl 5 rows])->lk 3 e=.c (Ui rows.length)->lk 4 e=.c oc->lk 5 e=.c (.ah al 1 0 rows.length)->lk 6 e=.c (Ui ys.length)->lk 7 e=.c (.ah y2 1 0 rows.length)->
      Kn H H6 [] ([(y2,.vec 1 (Qv ((List.range rows.length).map (Ch (nxN nx) ys.length))))]++([(al,.vec 1 (Qv (inL rows.length (nxN nx))))]++(ysL rows.length (nxN nx) ys++Lg)))->
      BI prog Q83 Q e H6:=by
     intro e H6 l1 l3 l4 l5 l6 l7 kn;refine Qa ?_;simp only[go_sem,l3,Hm];refine⟨by simp only[LIM];omega,λy3 wn H7 h7=>?_⟩;have kn:Kn H H7 [] ([(y3,.vec 1 (Qv (List.replicate rows.length false)))]++([(y2,.vec 1 (Qv ((List.range rows.length).map (Ch (nxN nx) ys.length))))]++([(al,.vec 1 (Qv (inL rows.length (nxN nx))))]++(ysL rows.length (nxN nx) ys++Lg)))):=
      (kn.al wn h7).perm (Qj λf hf h0 hc hp=>by simp only[Ui,hf];omega)
     simp only[go_sem,Q86,l1,l3,l4,l5,l6,l7];refine Wa ?_;refine Qh (Qe (Qw (λm e1 H1=>∃b:Nat,m=rows.length-b/\b<=rows.length/\
      Kn H H1 [] ([(y3,.vec 1 (Qv ((List.range b).map (domB (nxN nx) ys.length)++List.replicate (rows.length-b) false)))]++([(y2,.vec 1 (Qv ((List.range rows.length).map (Ch (nxN nx) ys.length))))]++([(al,.vec 1 (Qv (inL rows.length (nxN nx))))]++(ysL rows.length (nxN nx) ys++Lg))))/\
      e1=[(1,.c (.pp [Ui p,Ui rg,.sl fl 5 rows])),(3,.c (Ui rows.length)),(4,.c oc),(5,.c (.ah al 1 0 rows.length)),(6,.c (Ui ys.length)),(7,.c (.ah y2 1 0 rows.length)),(8,.c (.ah y3 1 0 rows.length)),(9,Uv b)]) rows.length ?_ ?_))
     ·exact⟨0,ZB,ZB,ZM,rfl⟩
     ·rintro m2 e1 H8 ⟨b,fw,hb,kn,rfl⟩;have wn:=kn.l 0 rfl;have nf:=kn.l 1 rfl;have em:=kn.l 2 rfl;have kS:((List.range b).map (domB (nxN nx) ys.length)++List.replicate (rows.length-b) false).length=rows.length:=ZG;refine Wa ?_;refine Wu ?_ ?_
      ·intro aD;have bu:b<rows.length:=ZH;have cK:b<(inL rows.length (nxN nx)).length:=(by rw[FH];exact bu);have gr:b<((List.range rows.length).map (Ch (nxN nx) ys.length)).length:=(by simpa using bu);have rC:b<((List.range b).map (domB (nxN nx) ys.length)++List.replicate (rows.length-b) false).length:=(by rw[kS];exact bu);have t1:=qn (inL rows.length (nxN nx)) FH;have t2:=qn ((List.range rows.length).map (Ch (nxN nx) ys.length)) ZD;have t3:=qn _ kS;refine Wc ?_;refine Qp ?_;simp only[go_sem,wn,nf,em,bu,af,t1,t2,Q3,kS,FH,Jah,Jbh,Q7 _ _ yu,Lu af,Q7 _ _ cK,Lu bu,Q7 _ _ gr,SK _ _ bu,Q7 _ _ rC,Et,Jq,Jl];intro H9 h9;have kn:=kn.aB 0 rfl h9;refine Zg ?_;refine⟨Qs,rows.length-(b+1),ZB,b+1,rfl,ZB,?_,rfl⟩;rw[<-Qa2h _ _ bu];have:domB (nxN nx) ys.length b=(bif (bif Ch (nxN nx) (-1) ys.length then Ch (nxN nx) (-1) b else false)then !Ch (nxN nx) (↑ys.length) b else false):=by
        simp only[domB];cases Ch (nxN nx) (-1) ys.length <;> cases Ch (nxN nx) (-1) b <;> rfl
       rw[this];exact kn
      ·intro aD;have jz:b=rows.length:=(by have:¬b<rows.length:=(by simpa using aD);omega);subst jz;refine Zb ?_;refine Zh ?_;have kn:Kn H H8 [] (([(al,.vec 1 (Qv (inL rows.length (nxN nx))))]++ysL rows.length (nxN nx) (ys++[y3]))++Lg):=by
        have aC:(List.range rows.length).map (domB (nxN nx) ys.length)++List.replicate (rows.length-rows.length) false=D3 rows.length (nxN nx) ys.length:=(by simp[D3]);rw[aC]at kn;have:=kn.perm (L':=(([(al,.vec 1 (Qv (inL rows.length (nxN nx))))]++ysL rows.length (nxN nx) (ys++[y3]))++Lg)++[(y2,.vec 1 (Qv ((List.range rows.length).map (Ch (nxN nx) ys.length))))]) (Qj λf hf h0 hc hp=>by simp only[Ui,Qb0b,hf];omega);exact this.drop
       refine kn.bk (new:=[[.ah y3 1 0 rows.length]]) aq (.mk' _ _ _ _) (by simp[Go.AE.ak,C.ai]) (by simp only[Qb37,LIM,Jn,Jo];omega) λt Lg' H9 aq ht kn=>?_;simp only[go_sem,Q87];refine bB _ _ ⟨t,Lg',y3,?_,kn,rfl,rfl,rfl,rfl,rfl⟩;rw[Qb0c];exact aq
    refine Wu ?_ ?_
    ·intro ha;have uR:ys.length≠0:=ZaG;refine Za ?_;refine Q5g (F:=H5) hf ZB (hg.grd H5 fl) (cF y2) rows.length 0 ((List.replicate rows.length false).set ys.length true) [] (.sl true 1 []) [] H5 _ ZD ZB cC (by rw[G9,Ev,if_neg (by omega)]) kn.mid (.nil 1) ZD λS o oc' Lg0 H6 hd k2 _=>?_;have vU:=hd.len;rw[Jk,Jd]at vU;have kn:Kn H H6 [] ([(y2,.vec 1 (Qv S))]++([(al,.vec 1 (Qv (inL rows.length (nxN nx))))]++(ysL rows.length (nxN nx) ys++Lg))):=(kn.comp k2 rfl).drop;have hy:=kn.l 0 rfl;have wm:ys.length<S.length:=ZB;refine Qp ?_;simp only[go_sem,hy,af,Q3,vU,Q7 _ _ wm,Et,Jq,Jl];intro H7 h7;have kn:=kn.aB 0 rfl h7;refine rest _ H7 rfl rfl rfl rfl rfl rfl ?_;rw[<-Qasw hf af hd];exact kn
    ·intro ha;have uR:ys.length=0:=ZaG;have hy:=kn.l 0 rfl;have wm:ys.length<((List.replicate rows.length false).set ys.length true).length:=(by simpa using af);refine Qp ?_;simp only[go_sem,hy,af,Q3,Jk,Jd,Q7 _ _ wm,Et,Jq,Jl];intro H7 h7;have kn:=kn.aB 0 rfl h7;refine rest _ H7 rfl rfl rfl rfl rfl rfl ?_;have:=Qb0a (n:=rows.length) (g:=nxN nx);rw[uR]at kn⊢;rw[<-this];exact kn
   ·rintro e2 H4 ⟨oc2,Lg2,y,aq,kn,l1,l3,l4,l5,l6⟩;refine Qp ?_;simp only[go_sem,X.next,l1,l3,l4,l5,l6];exact⟨Qs,rows.length-(ys.length+1),ZB,ys++[y],oc2,Lg2,ZD,by simp;omega,aq,kn,ZD⟩
  ·intro hc;have bh:ys.length=rows.length:=by have:¬ys.length<rows.length:=ZE;omega
   refine Wo ?_;have fG:=Qb38 (H:=H3) (S:=un H) (n:=rows.length) (g:=nxN nx) ys (λq hq=>⟨(kn.get q (by simp[hq])).1,DG (kn.loc q (by simp[hq]))⟩);rw[bh]at fG;exact⟨_,.c _ _ (aq.frzR kn fG),hK _ kn.fin⟩
end Go.AE.Y
namespace Go.AE.Y
open Go.Proofs.Tryz
def Q3f:=dY 0xc80031
def Q3g:=dY 0x1010f548fd1830664f0c2 Q3f
def Q3h:=dY 0xb90041
def Qa3y:=dZ 0x330490059f1f0145801330
def Qa3z:=dZ 0x90033105122f011c01011358038048015700142 Qa3y Q3h
def Qaxs:=dZ 0x90068123c003400f07458011212 Qa3z
def Qa30:=dZ 0x7210c90029f4801c21
def Qa31:=dZ 0x1909500400330090059f1f014053800e412 Qaxs [] Qa30
def Qa32:=dZ 0x90320d80049f01c0d21 Qa31
def Qa33:=dW 0x931108f0a9f01c0b9f05015224360660706000405030201000908a2 [Qa32] [Q3g] [eI 10 (.mks 1 [.bool false] (.t 9))]
def Qbmx:=dZ 0x911014f0090121 Qa33
theorem Qbl2:mFn prog Tv 1 29 Qbmx BH=true:=ZF
def Qyp:=dY 1638449
def Qax1:=dZ 0x902031042b9d0101134800803800c600142 Ku Qyp
def Qaqi:=dZ 0x90068093402040024405601006412 Qax1
def Qax2:=dZ 0x7210290029f3801221
def Qax3:=dZ 0x19095004020300f004112 Qaqi [] Qax2
def Qax4:=dZ 0x92020580039f01c0521 Qax3
def Qbda:=dZ 0x901014f00211 Qax4
theorem Qbbt:mFn prog Q7s 1 19 Qbda BH=true:=ZF
def Qad1:=dZ 0x87210680029f01c0621053
def Qlp:=dY 4323594385 Tc
def Qad2:=dZ 0x72110159d5360721 .skip Qlp
def Qad3:=dZ 0x1909312101b3d13603212 Qad1 Iq Qad2
def Qass:=dZ 0x911014f0090121 Qad3
theorem Qans:mFn prog Qqo 1 10 Qass BH=true:=ZF
def Q3m:=dY 9961553
def Qa4l:=dZ 0x30040e80069f1f004600d30
def Qa4m:=dZ 0x90300407f01e01136805800f400142 Qa4l
def Qaxy:=dZ 0x900680c350300500144080300a312 Qa4m
def Qa4n:=dZ 0x13130790079f1f0047801630
def Qa4o:=dZ 0x913130101e151378001011378018058018800342 Qa4n
def Qaxz:=dZ 0x90268153d1314002440518078012412 Qa4o
def Qa4p:=dZ 0x7410f90049f5801f21
def Qa4q:=dZ 0x19095024131300f007112 Qaxz [] Qa4p
def Qa4r:=dZ 0x190950040300400f006112 Qaxy [] Qa4q
def Qaxx:=dW 0x93003108f700821 [Qa4r] [Q3m] [eI 9 (.mks 1 [.int .i64 0] (.t 8))]
def Qbmy:=dZ 0x9002014f00411 Qaxx
theorem Qbl3:mFn prog Pc 2 32 Qbmy BG=true:=ZF
def SX:=dY 4784209
def Q8t:=dY 0x99683e001
def Q8u:=dY 0x8a885e6a52764f5a1a52634f4a2514f3a2a12434f0a2114f006
def Q8v:=dY 0x117004727532f081 Q8u
def Qbc6:=dZ 0x10180fa0099f1f0049802e30
def Qbc7:=dZ 0x90000010180101e2b1b1301051301011398001884258098001884230dd0df0342 Qbc6
def Qa4k:=dZ 0x902682d32df000001019003440501884298029512 Qbc7
def Q8w:=dY 0x101e6822412
def Qbc8:=dZ 0x1016102522f015c88560168223c50 .skip Q8w
def Qbc9:=dZ 0x19d209502400000101800f009112 Qa4k [] Qbc8
def Qa34:=dZ 0x10160f90079f1f0047801e30
def Qa35:=dZ 0x1909000010171018dd05604530101137801800128222090a0706050401090807060504030201001009a20142 Qbc9 Q8v Qa34
def Qaxt:=dZ 0x900681d31df000101700244051807801a412 Qa35
def Q3i:=dY 0xdc00b1
def Q3j:=dY 852161
def Q3k:=dY 0x7a5f00e1
def Q3l:=dY 0x103e122f011c010de13ce6d14fae9e26b34f8e6914f6e5e56734f4e6514f779 Q3k
def Qa36:=dZ 0x31101a02e00f9f1f004f806130
def Qa37:=dZ 0x90000031101a10728ed010413010113f80c80180b80010120123d80010020153a80016822e806314f18171615140a08060402131211100f0e0d0c0b0a090807060504030201001e19a0942 Qa36 Q3l
def Qaxu:=dZ 0x9086860360f0000031101b0024405c80f805d412 Qa37
def Qa38:=dZ 0x3110180201e0121223e80d80010020153a800168227bb0
def Qa39:=dZ 0x19d20950840000031101a00f00f112 Qaxu [] Qa38
def Qa4a:=dZ 0x3110180bd00d9f1f004d805a30
def Qa4b:=dZ 0x190900003110190cd00e9f01c5c210742 Qa39 [] Qa4a
def Qaxv:=dZ 0x9066859359f0003110190074405010020153a80016822d8051912 Qa4b
def Qa4c:=dZ 0x9506400031101800f00d11 Qaxv
def Qa4d:=dZ 0x900311017101289da8068364e31 Qa4c Q3j
def Qa4e:=dZ 0x31101507c00a9f1f004a804630
def Qa4f:=dZ 0x19090311016104289d010113a801802836486707f20542 Qa4d Q3i Qa4e
def Qaxw:=dZ 0x9046845345f3110160024405180a8042412 Qa4f
def Qa4g:=dZ 0x74100483e68368521
def Q8r:=dZ 0x1909504431101500f00a112 Qaxw [] Qa4g
def Qa4h:=dZ 0x19095004000101600f007112 Qaxt [] Q8r
def Qa4i:=dZ 0x900101515700332f069f011210257003d1f0128120128021561 Qa4h Q8t
def Qa4j:=dZ 0x90101410128cd180050128221051 Qa4i SX
def Qbtb:=dZ 0x9101305700332f049f190221 Qa4j
theorem Qbrk:mFn prog Nu 2 134 Qbtb C8=true:=ZF
def SY:=dY 0x68283e001
def Q8p:=dY 0x102258d430364f062 SY
def Qbcv:=dZ 0x7211018bd2361360330403000201000605a2 .skip Q8p
def Qbs8:=dZ 0x901205700332f090121 Qbcv
theorem Qbri:mFn prog Sl 1 7 Qbs8 Ce=true:=ZF
def Qn0:=dY 7012465
def Qah2:=dZ 0x8000300171012b9d8807803430333 .skip Qn0
def Qah3:=dZ 0x300170a900a9f1f004a801930
def Qah4:=dZ 0x190933f0003001802f05aa03f9a4ba0f05280f05210f0115230f885200f05210f0115230f285200f185200f04b00f0124b40f284b00f884b00f00010413010113a809800101132801801b19f19f19f20342 Qah2 [] Qah3
def Qacy:=dZ 0x90268183d000300180024405980a8015412 Qah4
def Qah5:=dZ 0x950240003001700f00a11 Qacy
def Qah6:=dZ 0x300150190089f1f004701030
def Qah7:=dZ 0x19090030016101289d880383612310142 Qah5 Dp Qah6
def Qacz:=dZ 0x900680f360300160024405180300c412 Qah7
def Qacv:=dZ 0x76107b0069f7803721
def Qacw:=dZ 0x1909500403001500f008112 Qacz [] Qacv
def Qacx:=dZ 0x9300140b80079f01c0b21 Qacw
def Qax9:=dZ 0x90013014f0069f290321 Qacx
theorem Qavx:mFn prog Qw6 3 56 Qax9 BN=true:=ZF
def Qlg:=dY 0xf80081
def Qlh:=dY 33233
def Qli:=dY 1704097
def Qlj:=dY 0xf0442e1
def Qlk:=dY 4915313
def Qll:=dY 0xbb0081
def Qac0:=dZ 0x103116105122f011c010113b80a808803570 .skip Qll
def Qac1:=dZ 0x80901031161042b9d010113b80a807802f612e3 Qac0 Qlk
def Qac2:=dZ 0x10311607a00b9f1f004b802630
def Qac3:=dZ 0x19092ef010311710428ed010113b80a8078028610342 Qac1 Qlj Qac2
def Q3q:=dZ 0x9026825325f01031170024405a80b8022412 Qac3
def Q6o:=dZ 0x95024010311600f00b11 Q3q
def Q6p:=dZ 0x910311510123ded98018038361e41 Q6o Qli
def Q6q:=dZ 0x980161d31df003116100f3355d1f0140518098018512 Q6p Qlh
def Q6r:=dW 0x90031150790089f08f8801631 [Q6q] [] [fI 23 (.sli 1 (.t 22) (some (kI 1)) none)]
def Q6s:=dZ 0x90031150590099f010f0138801341014 Q6r
def Q3r:=dZ 0x9006812390311500f064057010312 Q6s
def Q6t:=dZ 0x7610cb0069f7803c21
def Q6u:=dZ 0x19095004203114101122f28001c0d31 Q3r Qlg Q6t
def Q6v:=dZ 0x9300140c80079f01c0c21 Q6u
def Qaqj:=dZ 0x90013014f0069f290321 Q6v
theorem Qanp:mFn prog Qql 3 61 Qaqj BN=true:=ZF
def Qa5x:=dZ 0x80002050da0059f6802d202c3
def Qa5y:=dZ 0x2050390069f1f0046801230
def Qa5z:=dZ 0x19092cf00020602f00aa03f741a0f04610f0114630f684600f04610f0114630f584600f084600f04100f0f044140f584100f002f07a02f10f0112f30f482f00f02f10f0112f30f682f00f082f00f0001344806801419f10342 Qa5x [] Qa5y
def Qayd:=dZ 0x90268113a0002060024405080700e412 Qa5z
def Qa50:=dZ 0x203102122f011c5803802e40 .skip Ti
def Qa51:=dZ 0x1909502400020500f006112 Qayd [] Qa50
def Qa52:=dZ 0x2030d80049f1f004700c30
def Qa53:=dZ 0x19090020407f005110142 Qa51 [] Qa52
def Qaye:=dZ 0x900680b36020400244050803008412 Qa53
def Qaya:=dZ 0x72102b0029f3803221
def Qayb:=dZ 0x19095004020300f004112 Qaye [] Qaya
def Qayc:=dZ 0x92020780039f01c0721 Qayb
def Qbm0:=dZ 0x901014f00211 Qayc
theorem Qbl5:mFn prog Pa 1 51 Qbm0 BH=true:=ZF
def Te:=dY 7929937
def Qbdk:=dZ 0x803004102122f011c6805801440133 .skip Te
def Qbdl:=dZ 0x30040d80069f1f004500c30
def Qbdm:=dZ 0x1909c03005001241800101136800800e610142 Qbdk [] Qbdl
def Qa54:=dZ 0x900680b340300500244050801008412 Qbdm
def Qbdn:=dZ 0x7410890049f5801821
def Qbdo:=dZ 0x190950040300400f006112 Qa54 [] Qbdn
def Qbdp:=dZ 0x930030780059f01c0721 Qbdo
def Qbtf:=dZ 0x9002014f00411 Qbdp
theorem Qbrn:mFn prog Nk 2 25 Qbtf BG=true:=ZF
def Q9v:=dY 0xb80031
def Q9w:=dY 0x101e9a8a13322
def Qbd9:=dZ 0x114103122f011c7f021c48001011368038068038028a0 .skip Q9w
def Qbea:=dZ 0x1140d90059f1f0045801c30
def Qbeb:=dZ 0x190900011507a0069f0100201235800100201534800118221eb10342 Qbd9 [] Qbea
def Qa7r:=dZ 0x902681b31bf00115007440501002015348001182258013912 Qbeb
def Q9y:=dY 0x101ebcac13552
def Qbec:=dZ 0x820114104122f011c0121c7804800101138803808803804ab0493 .skip Q9y
def Qbed:=dZ 0x949f02011600f0748804821 Qbec
def Qa7j:=dZ 0x201140db0079f1f0047803c30
def Qa7k:=dZ 0x1909020115101ddd04601437800101201534800118223ea10542 Qbed Gc Qa7j
def Qay1:=dZ 0x904683b33bf20115007440501012015348001182278033912 Qa7k
def Qa7l:=dZ 0x950442011400f00711 Qay1
def Qa7n:=dW 0x29190950240011400f0051120142 [Qa7r,Qa7l,SD] []
def Qay2:=dZ 0x90068103b01140034405011822700c512 Qa7n
def Qa7o:=dZ 0x72106d0029f3805621
def Qa7p:=dZ 0x19095004011300f004112 Qay2 [] Qa7o
def Qa7q:=dW 0x9112108f017120931 [Qa7p] [Q9v] [eI 11 (.mks 1 [.sl true 1 []] (.t 10))]
def Qbtl:=dZ 0x911014f0090121 Qa7q
theorem Qbrt:mFn prog Nd 1 87 Qbtl BH=true:=ZF
def Q3u:=dY 0x88383e001
def Q3v:=dY 0x15700332f031 Q3u
def Q3w:=dY 0xd80049f010f01308f0b4 [] [fI 11 (.fld 0 1 false (.t 10))]
def Q3x:=dY 655441
def Qa6w:=dZ 0x8000025104422f014c0121111f103017004d1f01c6805801b601a3 .skip Q3x
def Qa6x:=dZ 0x250690069f1f0046801530
def Qa6y:=dZ 0x19091af000026001011368048017410142 Qa6w [] Qa6x
def Qayw:=dZ 0x90068143d0000260024401381268011412 Qa6y
def Q3y:=dY 0x201e0120f7531a2214f2a4
def Qa6z:=dZ 0x72100283e38362c21
def Qayr:=dZ 0x9022105422f010120f0530138225800138222190b0a09010807060504030201000d0ca2 Qa6z Q3y
def Qays:=dZ 0x190950040000250090069f0138020f312 Qayw [] Qayr
def Qayt:=dZ 0x9000240e80059f04c0e21 Qays
def Qayu:=dZ 0x90023101b5d5360921 Qayt Q3w
def Qayv:=dZ 0x902210157d5360721 Qayu Q3v
def Qbm1:=dZ 0x901205700332f090121 Qayv
theorem Qbl6:mFn prog OZ 1 45 Qbm1 Ce=true:=ZF
def Q9o:=dY 0xe8383e001
def Q9p:=dY 0x15700332f031 Q9o
def Q9r:=dY 0x29582e001
def Q9s:=dY 0x11717232f051 Q9r
def Q9t:=dY 4784225
def Qbd6:=dZ 0x800000001801a0089f0f11c2120203
def Qbd7:=dZ 0x190aa0099f1f0049802930
def Qbd8:=dZ 0x9000000001910ba2b9d010f0130101139800101137806808802bb00342 Qbd7 Th
def Qayx:=dZ 0x9026828328f000000001a005440501011378068098022712 Qbd8
def Q37:=dY 0x9b00a1
def Q38:=dY 0xecc82e001
def Q39:=dY 21841
def Q4a:=dY 0x101ec8125d2
def Qa60:=dZ 0x55f0020000001c0ed0569f1f7045e20
def Qa61:=dZ 0x9055f0020000001c102122f011c78001c81258500742 Qa60 Q4a
def Qayy:=dZ 0x90657b0055f0020000001d010445711 Qa61
def Q4b:=dY 0x201e0024e0e533e6414f2e1e16334ffd6014f716
def Q4c:=dY 0x106e222f16f14f3756d34f46c14f5616b34f7e6814f3e6414f2e1e16334ffd6014f709 Q4b
def Qa62:=dW 0x200000019108f669f010020453010113b80a80013822679fc826010113b80a800138225f11f14131205040111100e0d0c0905040107100f0e0d0c0b0a0908060504030201002015a [] [Q4c] [eI 102 (.bslm 2 [.t 101])]
def Qa63:=dZ 0x19095064055f0020000001c104289d549f0f0569f010113b80a8018364f706050704030201000808a22 Qayy Q39 Qa62
def Qa64:=dZ 0x90020000001a1170232f0c9f01111021702d1f01c7804c41 Qa63 Q38
def Qa65:=dZ 0x2000000190fb00b9f1f004b803e30
def Qa66:=dZ 0x190980564b34bf020000001a008010113780010413010113b80a8001580240cc0cf220542 Qa64 [] Qa65
def Qayz:=dZ 0x904683d33df020000001a0024405a80b803a412 Qa66
def Qa67:=dZ 0x95044020000001900f00b11 Qayz
def Qa68:=dZ 0x920000001810123bad88048018363641 Qa67 Q37
def Qa69:=dZ 0x19095024000000001900f009112 Qayx [] Qa68
def Qa7a:=dZ 0x190920f000000019002440118027801d412 Qbd6 [] Qa69
def Qa7b:=dZ 0x170b90079f1f0147801a30
def Qa7c:=dZ 0x19090000000180c90089f01c1c210142 Qa7a [] Qa7b
def Qay0:=dZ 0x9006819319f0000001800f07478018212 Qa7c
def Qa7d:=dZ 0x72100283e38367321
def Qa7e:=dZ 0x19095004000000170790079f1f01401181215412 Qay0 [] Qa7d
def Qa7f:=dZ 0x90000016101b8d18361321 Qa7e Q9t
def Qa7g:=dZ 0x9000015101b5d18361121 Qa7f Q9s
def Qa7h:=dZ 0x90001410196d18360f21 Qa7g FN
def Qa7i:=dZ 0x9001310190d18360d21 Qa7h Q9p
def Qbtk:=dZ 0x901205700332f090121 Qa7i
theorem Qbrs:mFn prog Nf 1 116 Qbtk Ce=true:=ZF
def Q35:=dZ 0x7210f80029f1f01401072070800b61
def Q36:=dZ 0x9010201e072571f004010720730200391 Q35
def Qac5:=dZ 0x90100f00211 Q36
theorem Qabn:mFn prog Qkb 1 16 Qac5 BH=true:=ZF
def Qh5:=dY 0x201e002232342514f294
def Q3z:=dZ 0x3000501a0079f1f0047802030
def Q30:=dZ 0x9030005101bbd080780010020768022709080703060504030201000b0aa0142 Q3z Qh5
def Q0t:=dZ 0x900681f31ff0300060054405010020768078019712 Q30
def Q31:=dZ 0x13000503b0089f1f0048803230
def Q32:=dZ 0x91300050101e1c4b13010020123880010020768001002012388001002015318001022002070802803418f18f18f0342 Q31
def Q0u:=dZ 0x9026831331f130006005440501002076808802b712 Q32
def Q33:=dZ 0x23000600e00a9f1f004a805f30
def Q34:=dZ 0x902300060101e9e8e13010ae13010113a800102201439800101207680280a8001022014398001012076806119f19f19f0742 Q33
def Q0v:=dZ 0x906685e35ef0230007004d44050102201439800101207680a8054b12 Q34
def Qge:=dY 0x835f00b1
def Q0d:=dZ 0x2300050201e0121243b8098001012076808f90
def Q0e:=dZ 0x912300060101e1845f13b80010120143980010120768028084c1 Q0d
def Q0f:=dZ 0x8091230006101bbd0808221813 Q0e Qge
def Q0g:=dZ 0x981f2300060019bd01002014398001012076807991 Q0f
def Q0h:=dZ 0x23000503d0099f1f0049805230
def Q0i:=dW 0x2919095064023000600f00a1120542 [Q0v,Q0g,Q0h] []
def Qwp:=dZ 0x9046851351f230006005440501012076809804b712 Q0i
def Q0j:=dZ 0x8300040201e0327701041301032076802806809cb09b3
def Qgf:=dY 0xbd5f00e1
def Qgg:=dY 0x10128ed180bc2 Qgf
def Q0k:=dZ 0x5300080cb5f00f9f1f004f80ca30
def Q0l:=dZ 0x90005300080101ed95fd85f13010da5f13010113e80010120123f80010020153d800102200207080280e80010120123f80010020153d800102203207080cc23f23f23f0b42 Q0k
def Qwq:=dZ 0x90a68c93c9f00053000900be5f4405010020153d800102200207080f80bec12 Q0l
def Q0m:=dZ 0x950a400053000800f00f11 Qwq
def Q0n:=dZ 0x900530007101289dd8003600207080b661 Q0m Qgg
def Q0o:=dZ 0x5300050ae5f00c9f1f004c80ad30
def Q0p:=dZ 0x190905300060b55f00d9f010113c800104207680af810942 Q0n [] Q0o
def Qwr:=dZ 0x90868ac3acf53000600544050104207680c80a6712 Q0p
def Qgh:=dY 0xf35f0101
def Qgi:List Item:=[.chk 253 none (.iad 1 (.t 251) (.t 252)),hJ 254 253,aJ 258 V6 [.t 250,.t 254,.t 257]]
def Q0q:=dZ 0xd1040f95f0119f1f004190f830
def Q0r:=dZ 0x90d104101122f28001c010113190090080fa808040307060504030201000b09a0d42 Q0q Qgi
def Qws:=dZ 0x90c68f73f7f0d1050024405090190f4412 Q0r
def Q0s:=dZ 0x950c40d10400f01111 Qws
def Qh3:=dZ 0x9d1031012bcd1800106207080ee61 Q0s Qgh
def VD:=dZ 0x1909508453000500f00c112 Qwr [] Qh3
def VA:=dZ 0x19099bf3000501f034010220768097512 Q0j [] VD
def V9:=dZ 0x1909504423000500f009112 Qwp [] VA
def V8:=dZ 0x1909502413000500f008112 Q0u [] V9
def Qh4:=dZ 0x1909500403000500f007112 Q0t [] V8
def Qac4:=dZ 0x9300040890069f015318001022032070801281 Qh4
theorem Qabm:mFn prog V6 3 259 Qac4 Cp=true:=ZF
def Sc:=dY 0x15700332f031 EK
def Qyv:=dY 4321431697 Sc
def Qyw:=dY 3735617
def Qyx:=dY 0x1052f0172165337304017570057008d1f11114f3830a64f124 Qyw
def Qyy:=dY 0x10195d091114f3830a64f0f3 Qyx
def Qyz:=dY 0x10196d091114f3830d64f3830a64f0e4 Qyy
def Qy0:=dY 6881361
def Qay3:=dZ 0x10150c90069f1f0046801b30
def Qay4:=dZ 0x90010150101e12136806805801d500142 Qay3
def Qaia:=dZ 0x900681a31af0010160024401180268017412 Qay4
def Qaqs:=dZ 0x72100283e036032074802c51
def Qaqt:=dZ 0x91220301e0120324701072074804802491 Qaqs
def Qaqu:=dZ 0x9122000f1397d5804802131 Qaqt
def Qaqv:=dZ 0x1909500400101500f006112 Qaia [] Qaqu
def Qaqw:=dW 0x901014108f0138121431 [Qaqv] [Qy0] [eI 22 (.mks 1 [.int .i64 0] (.t 21))]
def Qaqx:=dZ 0x90001410190d0c9f011802109f38360d9f7366360a60a0908070005070004070300020706030100120ba2 Qaqw Qyz
def Qaqy:=dZ 0x9001310194d5360721 Qaqx Qyv
def Qbee:=dZ 0x901205700332f090121 Qaqy
theorem Qbbv:mFn prog Q7u 1 48 Qbee Ce=true:=ZF
def Qa46:=dY 0x98483e001
def Qa47:=dY 0xf8483e001
def Qa48:=dY 0x102258d2830c64f0f2 Qa47
def Qa49:=dY 0x39483e001
def Qa5a:=dY 0x79483e001
def Q8x:=dY 0xb9483e001
def Qa5b:=dY 0xf9483e001
def Qa5c:=dY 0x3a483e001
def Qa5d:=dY 0x7a483e001
def Qa5e:=dY 0xba483e001
def Q3n:=dY 0xfa483e001
def Qax5:=dY 0x3b483e001
def Qa4s:=dZ 0x874110162d28363221303 .skip Qax5
def Qa4t:=dW 0x930f12301b0309f08f312174110161d28362e212c3 [Qa4s] [Q3n] [fI 49 (.bin 0 .eql (.t 5) (.k (.c (.str [106,111,105,110]))))]
def Qa4u:=dW 0x92cf01240da02c9f08f2d2174110160d28362a21283 [Qa4t] [Qa5e] [fI 45 (.bin 0 .eql (.t 5) (.k (.c (.str [115,107,105,112]))))]
def Qa4v:=dW 0x928f012409a0289f08f29217411015fd28362621243 [Qa4u] [Qa5d] [fI 41 (.bin 0 .eql (.t 5) (.k (.c (.str [101,118,101,110]))))]
def Qa4w:=dW 0x924f012405a0249f08f25217411015ed28362221203 [Qa4v] [Qa5c] [fI 37 (.bin 0 .eql (.t 5) (.k (.c (.str [104,111,105,115,116]))))]
def Qa4x:=dW 0x920f012401a0209f08f21217411015dd28361e211c3 [Qa4w] [Qa5b] [fI 33 (.bin 0 .eql (.t 5) (.k (.c (.str [115,104,97,114,101]))))]
def Qa4y:=dW 0x91cf01240d901c9f08f1d217411015cd28361a21183 [Qa4x] [Q8x] [fI 29 (.bin 0 .eql (.t 5) (.k (.c (.str [107,110,111,119,110]))))]
def Qa4z:=dW 0x918f01240990189f08f19217411015bd28361621143 [Qa4y] [Qa5a] [fI 25 (.bin 0 .eql (.t 5) (.k (.c (.str [115,105,110,103,108,101]))))]
def Qa40:=dW 0x9e01240590149f08f15217411015ad28361221103 [Qa4z] [Qa49] [fI 21 (.bin 0 .eql (.t 5) (.k (.c (.str [105,100,108,101]))))]
def Qa41:=dW 0x9a01240190109f08f112174110159d283628360c30403000201000605a20a3 [Qa40] [Qa48] [fI 17 (.bin 0 .eql (.t 5) (.k (.c (.str [115,112,108,105,116]))))]
def Qa42:=dW 0x9401240b800a9f08f0b2174110157d5360821063 [Qa41] [Qa46] [fI 11 (.bin 0 .eql (.t 5) (.k (.c (.str [111,114,100,101,114]))))]
def Qa43:=dW 0x9001240780069f08f0721004 [Qa42] [] [fI 7 (.bin 0 .eql (.t 5) (.k (.c (.str [114,101,97,99,104]))))]
def Qax6:=dY 0x5b483e001
def Qa44:=dZ 0x74110163d28363421 .skip Qax6
def Qa45:=dZ 0x1909012303005112 Qa43 [] Qa44
def Qbtc:=dZ 0x9101305700332f049f190221 Qa45
theorem RC:mFn prog Sk 2 54 Qbtc C8=true:=ZF
def Qbcw:=dZ 0x870421071e0371d1f0b210a3 .skip DN
def TA:=dY 0xc8681e001
def T9:=dY 0x101e68021f2
def T8:=dY 0x1059322f013c491514f1d3 T9
def Qbcx:=dZ 0x110150390079f1f0047801230
def Qbcy:=dZ 0x9011015101235d18003601337800128020168021490c0b0a09010807060504030201000e0da0142 Qbcx T8
def Qa3v:=dZ 0x9006811390110160034405012802500d512 Qbcy
def TL:=dY 33313
def Qa3p:=dZ 0x8704210481e0371d1f2321223 .skip DN
def Qa3q:=dZ 0x704210481e68162421 .skip IF
def Qa3r:=dZ 0x190922f14310134d681620212d2 Qa3p TL Qa3q
def Qa3s:=dZ 0x1909500401101500f007112 Qa3v [] Qa3r
def Qa3t:=dZ 0x911014137132f069f0371d1f0c21 Qa3s TA
def Qa3u:=dZ 0x19095101410134d51608212 Qbcw IT Qa3t
def Qbs9:=dZ 0x91013137132f049f190221 Qa3u DN
theorem RD:mFn prog IS 2 37 Qbs9 EZ=true:=ZF
def Iu:=dY 3080241
def It:=dY 0x1151e11b00b063 Iw
def Q65:=dW 0x7022108f2160421 [] [It] [eI 5 (.call IS [.t 4,.k (.c (.str [115,105,110,103,108,101]))])]
def Qamu:=dZ 0x9012137132f090121 Q65 Iu
abbrev Ik:List RS:=[.cell 2 1 true,.tmp 3]
theorem Qafz:mFn prog Qnf 1 8 Qamu Ik=true:=ZF
def Q9k:=dY 0xa80041
def Q9l:=dY 0x198381e001 Q9k
def Q9m:=dY 0x137132f039f41b30b099f880054 Q9l
def Q9n:=dY 4319924353 Q9m
def Qbd2:=dZ 0x872100281e0101371d1f013c0121f11257003d1f015c036f120112170047275d1f014c0121f102017004d1f01c0d910c3
def Qbd4:=dZ 0x19098023008600b212 Qbd2 [] KA
def Qbd5:=dZ 0x900231014fd500621 Qbd4 Q9n
def Qbtj:=dZ 0x9102037132f0211 Qbd5
theorem Qbrr:mFn prog Ng 1 22 Qbtj BQ=true:=ZF
def Qbdz:=dZ 0x87211012ed500621053 .skip Ta
def Qbd0:=dZ 0x7211014dd700821 .skip SZ
def Qbd1:=dZ 0x190921031086f022cd2003212 Qbdz Tb Qbd0
def Qbti:=dZ 0x9102037132f0211 Qbd1
theorem Qbrq:mFn prog Nh 1 10 Qbti BQ=true:=ZF
def Q90:=dY 0xf024081
def Q91:=dY 0xa8281e001
def Qbef:=dZ 0x87211012dd500921083 .skip Q91
def Q92:=dY 0xc8281e001
def Qbeg:=dZ 0x7211012ed700b21 .skip Q92
def Qbeh:=dZ 0x190940231026f022cd2006212 Qbef Q90 Qbeg
def Qbei:=dZ 0x90221012bd300421 Qbeh Ea
def Qbtm:=dZ 0x9102037132f0211 Qbei
theorem Qbru:mFn prog Nc 1 13 Qbtm BQ=true:=ZF
end Go.AE.Y
namespace Go.AE.Y
attribute [local instance] Classical.propDecidable
variable {g:Nat->List Nat}{n:Nat}
theorem LF {a b:Nat}:domB g a b=true↔Ch g (-1) a=true/\Ch g (-1) b=true/\¬Rch g (λz=>(z:Int)=a) 0 b:=by
 simp only[domB,Je,Jbe,and_assoc];refine and_congr_right λ_=>and_congr_right λ_=>?_;rw[<-Bool.not_eq_true,rchB_iff]
theorem Rch.via {A:Nat->Prop}{a b:Nat}(h:Rch g A 0 b)(hn:¬Rch g (λz=>(z:Int)=a) 0 b):Rch g A 0 a:=by
 induction h with
 |refl h=>
  by_cases ha:0=a
  ·subst ha;exact .refl h
  ·exact absurd (Rch.refl λhh=>ha ZB) hn
 |@step y z h1 h2 h3 ih=>
  by_cases hy:Rch g (λz=>(z:Int)=a) 0 y
  ·by_cases ha:z=a
   ·subst ha;exact .step h1 h2 h3
   ·exact absurd (Rch.step hy h2 λhh=>ha ZB) hn
  ·exact ih hy
theorem Qblh {x a b:Nat}(h1:domB g x a=true)(h2:domB g a b=true):domB g x b=true:=by
 rw[LF]at *;exact⟨h1.1,h2.2.1,λh=>h1.2.2 (h.via h2.2.2)⟩
theorem Rch.two {A:Nat->Prop}{a b z:Nat}(eD:a≠b)(h:Rch g A 0 z):Rch g (λw=>w=a\/w=b) 0 z\/Rch g (λw=>(w:Int)=b) 0 a\/Rch g (λw=>(w:Int)=a) 0 b:=by
 induction h with
 |refl _=>
  by_cases ha:0=a
  ·subst ha;exact .inr (.inl (.refl λhh=>eD ZB))
  ·by_cases hb:0=b
   ·subst hb;exact .inr (.inr (.refl λhh=>eD ZB))
   ·exact .inl (.refl λhh=>hh.elim ha hb)
 |@step y z h1 h2 h3 ih=>
  rcases ih with h|h
  ·by_cases ha:z=a
   ·subst ha;exact .inr (.inl (.step (h.mono λw hw=>.inr ZB) h2 λhh=>eD ZB))
   ·by_cases hb:z=b
    ·subst hb;exact .inr (.inr (.step (h.mono λw hw=>.inl ZB) h2 λhh=>eD ZB))
    ·exact .inl (.step h h2 λhh=>hh.elim ha hb)
  ·exact .inr h
theorem Qbpv {a b:Nat}(h1:domB g a b=true)(h2:domB g b a=true):a=b:=by
 by_cases eD:a=b
 ·exact eD
 rw[LF]at *;rcases (rchB_iff.1 h1.1).two eD with h|h|h
 ·exact absurd (.inl rfl) h.snd
 ·exact absurd h h2.2.2
 ·exact absurd h h1.2.2
noncomputable def depL (n:Nat)(g:Nat->List Nat)(b:Nat):Nat:=((List.range n).filter λa=>domB g a b).length
theorem Qbp5 {α:Type}{p q:α->Bool}{l:List α}(h:∀x∈l,p x=true->q x=true){y:α}(hy:y∈l)(hq:q y=true)(hp:p y=false):(l.filter p).length<(l.filter q).length:=by
 have le:∀(l:List α),(∀x∈l,p x=true->q x=true)->(l.filter p).length<=(l.filter q).length:=λl=>by
  induction l with
  |nil=>intro _;simp
  |cons x l ih=>
   intro h;have h1:=ih λz hz=>h z (Jj _ hz);have h2:=h x Jm
   cases q9:p x with
   |false=>cases nO:q x <;> simp[q9,nO] <;> omega
   |true=>have:=h2 q9;simp[q9,this];omega
 induction l with
 |nil=>simp at hy
 |cons x l ih=>
  have h2:=h x Jm;have h3:=le l λz hz=>h z (Jj _ hz);rcases Jz.1 hy with rfl|hy
  ·simp[hq,hp];omega
  ·have h1:=ih (λz hz=>h z (Jj _ hz)) hy
   cases q9:p x with
   |false=>cases nO:q x <;> simp[q9,nO] <;> omega
   |true=>have:=h2 q9;simp[q9,this];omega
theorem Qb1e {a b:Nat}(hb:b<n)(h:domB g a b=true)(eD:a≠b):depL n g a<depL n g b:=by
 refine Qbp5 (λx _ hx=>Qblh hx h) (y:=b) (Jy.2 hb) ?_ ?_
 ·rw[Qbpw];exact (Qb1g h).2
 ·cases hc:domB g b a with
  |false=>rfl
  |true=>exact absurd (Qbpv h hc) eD
def Tree (n:Nat)(ids:List Int)(dp:Nat->Nat):Prop:=ids.length=n/\∀b,b<n->ids.getD b 0=-1\/∃a:Nat,ids.getD b 0=a/\a<n/\dp a<dp b
inductive Sub (ids:List Int)(b:Nat):Nat->Prop
 |refl:Sub ids b b
 |step {y x:Nat}:Sub ids b y->x<ids.length->ids.getD x 0=(y:Int)->Sub ids b x
variable {ids:List Int}{dp:Nat->Nat}
def Du (ids:List Int)(b:Nat):List Nat:=(List.range ids.length).filter λi=>decide (ids.getD i 0=(b:Int))
theorem kidsL_mem {b k:Nat}:k∈Du ids b↔k<ids.length/\ids.getD k 0=(b:Int):=by simp[Du]
theorem Tree.up (t:Tree n ids dp){b k:Nat}(hk:k<ids.length)(h:ids.getD k 0=(b:Int)):b<n/\dp b<dp k:=by
 have fz:k<n:=by rw[<-t.1];exact hk
 rcases t.2 k fz with h1|⟨a,h1,h2,h3⟩
 ·omega
 ·have:a=b:=ZB
  subst this;exact⟨h2,h3⟩
theorem Sub.dep (t:Tree n ids dp){b x:Nat}(h:Sub ids b x):x=b\/dp b<dp x:=by
 induction h with
 |refl=>exact .inl rfl
 |step h1 h2 h3 ih=>
  have:=(t.up h2 h3).2;rcases ih with rfl|ih
  ·exact .inr this
  ·exact .inr ZB
theorem Sub.kid {b k x:Nat}(hk:k∈Du ids b)(h:Sub ids k x):Sub ids b x:=by
 obtain⟨h1,h2⟩:=kidsL_mem.1 hk
 induction h with
 |refl=>exact .step .refl h1 h2
 |step _ h3 h4 ih=>exact ih.step h3 h4
theorem Sub.kid_ne (t:Tree n ids dp){b k:Nat}(hk:k∈Du ids b):¬Sub ids k b:=λh=>by
 obtain⟨h1,h2⟩:=kidsL_mem.1 hk;have:=(t.up h1 h2).2;rcases h.dep t with rfl|h
 ·omega
 ·omega
theorem Sub.line {a b x:Nat}(h1:Sub ids a x)(h2:Sub ids b x):Sub ids a b\/Sub ids b a:=by
 induction h1 with
 |refl=>exact .inr h2
 |@step y x h3 h4 h5 ih=>
  cases h2 with
  |refl=>exact .inl (.step h3 h4 h5)
  |@step y' _ h6 h7 h8=>
   have:y=y':=ZB
   subst this;exact ih h6
theorem Sub.kids_apart (t:Tree n ids dp){b k j x:Nat}(hk:k∈Du ids b)(hj:j∈Du ids b)(h1:Sub ids k x)(h2:Sub ids j x):k=j:=by
 have one:∀{k j:Nat},k∈Du ids b->j∈Du ids b->Sub ids k j->k=j:=λ{k j} hk hj h=>by
  cases h with
  |refl=>rfl
  |@step y _ h3 h4 h5=>
   have h6:=(kidsL_mem.1 hj).2;have:y=b:=ZB
   subst this;exact absurd h3 (Sub.kid_ne t hk)
 rcases h1.line h2 with h|h
 ·exact one hk hj h
 ·exact (one hj hk h).symm
theorem Sub.split {b x:Nat}(h:Sub ids b x):x=b\/∃k∈Du ids b,Sub ids k x:=by
 induction h with
 |refl=>exact .inl rfl
 |@step y x h1 h2 h3 ih=>
  rcases ih with rfl|⟨k,hk,h⟩
  ·exact .inr ⟨x,kidsL_mem.2 ⟨h2,h3⟩,.refl⟩
  ·exact .inr ⟨k,hk,h.step h2 h3⟩
theorem Sub.lt {b x:Nat}(hb:b<ids.length)(h:Sub ids b x):x<ids.length:=by
 cases h with
 |refl=>exact hb
 |step _ h _=>exact h
def potW (n:Nat)(w:Nat->Nat)(U:Nat->Prop) [DecidablePred U]:Nat:=(((List.range n).filter λx=>decide (U x)).map w).sum
theorem XD {w:Nat->Nat}{U V:Nat->Prop}{b:Nat}(hb:b<n)(hU:U b)(hV:∀x,V x↔U x/\x≠b):potW n w V+w b=potW n w U:=by
 have key:∀m,(((List.range m).filter λx=>decide (V x)).map w).sum+(if b<m then w b else 0)=(((List.range m).filter λx=>decide (U x)).map w).sum:=λm=>by
  induction m with
  |zero=>simp
  |succ m ih=>
   rw[Jas,J7,J7,Jv,Jv,Jaa,Jaa];by_cases hm:m=b
   ·subst hm;have h1:decide (V m)=false:=decide_eq_false λh=>((hV m).1 h).2 rfl;have h2:decide (U m)=true:=decide_eq_true hU;have h3:¬m<m:=ZB;rw[if_neg h3]at ih;simp[h1,h2];omega
   ·have h1:decide (V m)=decide (U m):=(by rw[decide_eq_decide,hV];exact⟨λh=>h.1,λh=>⟨h,hm⟩⟩);have h2:(b<m+1)=(b<m):=(by rw[eq_iff_iff];omega);simp only[Jay,Ja2,h1,h2];omega
 have:=key n;rw[if_pos hb]at this;exact this
theorem Qb29 {w:Nat->Nat}{U V:Nat->Prop}(h:∀x,V x->U x):potW n w V<=potW n w U:=by
 have key:∀m,(((List.range m).filter λx=>decide (V x)).map w).sum<=(((List.range m).filter λx=>decide (U x)).map w).sum:=λm=>by
  induction m with
  |zero=>simp
  |succ m ih=>
   rw[Jas,J7,J7,Jv,Jv,Jaa,Jaa];by_cases hv:V m
   ·have h1:decide (V m)=true:=decide_eq_true hv;have h2:decide (U m)=true:=decide_eq_true (h m hv);simp[h1,h2];omega
   ·have h1:decide (V m)=false:=decide_eq_false hv;simp[h1];omega
 exact key n
end Go.AE.Y
namespace Go.AE.Y
attribute [local go_sem] cond_true cond_false Bool.not_true Bool.not_false
open Go.Proofs.Tryz
variable {H H0:Heap}{K:Uk}{E B Lg:Ul}
theorem Qbbg {fl:Bool}{l:List Nat}(hl:l.length<=2 ^ 30)(hK:∀(fl':Bool) (k:List Nat) H',Upd H H' []->k.Pairwise (· < ·)->(∀x,x∈k↔x∈l)->K (.c (.sl false 1 (BK k))) H') :
  Qr prog Q7s [.c (.sl fl 1 (BK l))] H K:=by
 refine Qy ?_;refine Qd BF Qbbt ?_;refine Wd ?_;refine Wa ?_;refine Qh (Qe (Qw (λm e1 H1=>∃(i:Nat) (fl':Bool) (ns:List Int),m=l.length-i/\i<=l.length/\ns.Pairwise (· < ·)/\(∀x,x∈ns↔∃y∈l.take i,(y:Int)=x)/\ns.length<=i/\Kn H H1 [] []/\
  lk 0 e1=.c (.sl fl 1 (BK l))/\lk 3 e1=.c (.sl fl' 1 (Qb ns))/\lk 4 e1=Uv i) l.length ?_ ?_))
 ·exact⟨0,_,[],ZB,ZB,ZD,ZD,ZD,Kn.an H,rfl,rfl,rfl⟩
 ·rintro m e1 H1 ⟨i,fl',ns,hm,hi,ha,dA,ck,kn,l0,l3,l4⟩;refine Q1 (Qa ?_);simp only[go_sem,l0,l3,l4,Q5];intro _;refine Wu ?_ ?_
  ·intro hc;have af:i<l.length:=ZE
   have hg:l.getD i 0=l[i]:=Zai
   refine Zc ?_
   refine Wt ?_;simp only[go_sem,af,Q5,CZ _ _ af,hg];refine Si ha ZB λfl2 ns2 H2 hu mV fw kB=>?_;have kn:=kn.aw hu;simp only[go_sem,Qyp];refine Zg ?_;refine⟨Qs,l.length-(i+1),ZB,i+1,fl2,ns2,rfl,ZB,mV,λx=>?_,ZB,kn,?_⟩
   ·rw[fw,dA,Jg af];constructor
    ·rintro (rfl|⟨y,hy,rfl⟩)
     ·exact⟨l[i],Jx _ (Jb.2 rfl),rfl⟩
     ·exact⟨y,Jt _ hy,rfl⟩
    ·rintro⟨y,hy,rfl⟩;rcases Ji.1 hy with hy|hy
     ·exact .inr ⟨y,hy,rfl⟩
     ·simp only[Jb]at hy;rw[hy];exact .inl rfl
   ·first|exact⟨rfl,rfl,rfl⟩|exact rfl|trivial
  ·intro hc;have bh:l.length<=i:=ZE
   rw[Jc bh]at dA;have hk:ns=(ns.map Int.toNat).map Int.ofNat:=by
    rw[Jbp]
    conv=>lhs;rw[<-Jbs ns]
    refine Ja7 λx hx=>?_;obtain⟨y,_,rfl⟩:=(dA x).1 hx;simp
   have dq:Qb ns=BK (ns.map Int.toNat):=by (conv=>lhs;rw[hk]);rfl
   refine Zb ?_;refine Zj dq ?_;refine Zf ?_;refine⟨_,.c _ _ (FrzR.same (ED _)).sl,hK true (ns.map Int.toNat) _ kn.fin ?_ λx=>?_⟩
   ·rw[hk,Jbi]at ha;exact ha.imp λh=>ZL
   ·rw[Js];constructor
    ·rintro⟨v,hv,rfl⟩;obtain⟨y,hy,rfl⟩:=(dA v).1 hv;simpa using hy
    ·exact λh=>⟨(x:Int),(dA _).2 ⟨x,h,rfl⟩,ZD⟩
theorem Qbbf {p rg:Int}{fl:Bool}{rows:List (List C)}{nx:Nat->List Int}(hg:GF rows nx)(hf:C1 rows.length nx=true)
  (hK:∀(S:List Bool) (o:List Nat) H',Upd H H' []->Dfs (nxN nx) [0] (List.replicate rows.length false) [] S o->K (.c (.sl false 1 (BK o.reverse))) H') :
  Qr prog Tv [.ag [Ui p,Ui rg,.sl fl 5 rows]] H K:=by
 have hn:=hg.n;have cC:=GA hf;have cF:∀(y:Nat) l a b d,C.sl fl 5 rows=.ah l a b d->l≠y:=by intro y l a b d h;cases h
 refine Qy ?_;refine Qd BF Qbl2 ?_;refine Za ?_;refine BM ?_;simp only[go_sem,Hm];try intro _
 refine⟨by simp only[LIM];omega,λal em H1 h1=>?_⟩;have kn:Kn H H1 [] ([(al,.vec 1 (Qv (List.replicate rows.length false)))]++[]):=(Kn.an H).al em h1;simp only[go_sem,Q3g];refine Q5g (F:=H1) hf ZB (hg.grd H1 fl) (cF al) rows.length 0 (List.replicate rows.length false) [] (.sl true 1 []) [] H1 _ ZD ZB cC (Ev _ _) kn.mid (.nil 1) ZD λS o oc Lg0 H2 hd k2 cP=>?_;have kn:Kn H H2 [] ([(al,.vec 1 (Qv S))]++Lg0):=by
  have:=(kn.comp k2 rfl);simpa using this
 have bt:=cP.ai;have bp:=cP.aP;have am:=cP.ay;rw[Q5]at am;have dM:∀x,x<(List.replicate rows.length false).length->∀y∈nxN nx x,y<(List.replicate rows.length false).length:=by
  rw[Jd];exact λx hx y hy=>EV hf hx hy
 have kU:∀x∈[0],x<(List.replicate rows.length false).length:=ZaC
 have eS:o.length<=rows.length:=by
  have h1:=hd.count dM kU;have h2:=G0 S;rw[hd.len,Jd]at h2;simp only[Jo]at h1;omega
 simp only[go_sem,Q3f];refine Wh ?_;have nU:=eq_true (cP.get kn).1;simp only[go_sem,nU,am];try intro _
 refine⟨Qs,?_⟩;refine Qh (Qe (Qw (λm e1 H1=>∃(k:Nat) (r:List Nat) (t:C) (Lg:Ul),m=k/\k<=o.length/\r.length+k=o.length/\r=(o.drop k).reverse/\Gr Lg 1 (BK r) t/\Kn H H1 [] (([(al,.vec 1 (Qv S))]++Lg0)++Lg)/\
  lk 3 e1=.c oc/\lk 4 e1=.c t/\lk 5 e1=Uv ((k:Int)-1)) o.length ?_ ?_))
 ·exact⟨o.length,[],_,[],rfl,ZB,ZD,ZD,.nil 1,ZM,rfl,rfl,rfl⟩
 ·clear kn nU;rintro m e1 H3 ⟨k,r,t,Lg,rfl,hk,cA,vx,aq,kn,l3,l4,l5⟩;have fM:=aq.ai;have nU:=eq_true (cP.get kn.drop).1;have ew:=(cP.get kn.drop).2;refine Q1 (Qa ?_);simp only[go_sem,l3,l4,l5];refine Wu ?_ ?_
  ·intro hc;have bh:(0:Int)<=(m:Int)-1:=ZE
   obtain⟨k,rfl⟩:∃k,m=k+1:=⟨m-1,ZB⟩;have ek:((k+1:Nat):Int)-1=(k:Int):=ZB
   have af:k<o.length:=ZB
   have bm:o.getD k 0=o[k]:=Zai
   rw[ek];refine Zc ?_
   refine Wt ?_;simp only[go_sem,nU,am,bp,ew,af,CZ _ _ af,bm];refine kn.bk (new:=BK [o[k]]) aq (.mk' _ _ _ _) (ED _) (by simp only[Q5,LIM,Jn,Jo];omega) λt2 Lg2 H4 bO dy kn=>?_;simp only[go_sem,Q3h];refine Zg ?_;refine⟨Qs,k,ZB,k,r++[o[k]],t2,Lg2,rfl,ZB,by simp only[J8,Jn,Jo];omega,?_,?_,kn,?_⟩
   ·rw[vx,J0 af,List.reverse_cons]
   ·rw[Q5m];exact bO
   ·first|exact⟨rfl,rfl,rfl⟩|exact rfl|trivial
  ·intro hc;have nr:m=0:=by have:¬(0:Int)<=(m:Int)-1:=ZE;omega
   subst nr;refine Wo ?_;rw[J6]at vx;subst vx;exact⟨_,.c _ _ (aq.frz kn (ED _)),hK S o _ kn.fin hd⟩
theorem Qbls {p rg:Int}{fl:Bool}{rows:List (List C)}{nx:Nat->List Int}(hg:GF rows nx)(hf:C1 rows.length nx=true)
  (hK:∀(o:List Nat) H',Upd H H' []->o.length<=rows.length->(∀x,x∈o↔x<rows.length/\Ch (nxN nx) (-1) x=true)->K (.c (.sl false 1 (BK o))) H') :
  Qr prog Tv [.ag [Ui p,Ui rg,.sl fl 5 rows]] H K:=by
 have cC:=GA hf;refine Qbbf hg hf λS o H' hu hd=>?_;have dM:∀x,x<(List.replicate rows.length false).length->∀y∈nxN nx x,y<(List.replicate rows.length false).length:=by
  rw[Jd];exact λx hx y hy=>EV hf hx hy
 have kU:∀x∈[0],x<(List.replicate rows.length false).length:=ZaC
 have ce:∀x,x∈o↔x<rows.length/\Ch (nxN nx) (-1) x=true:=λx=>by
  rw[hd.list dM kU (Ev _),Nr hf hd,inL];by_cases hx:x<rows.length
  ·rw[SK _ _ hx];simp[hx]
  ·rw[Ja,Jp ZaX];simp[hx]
 have eS:o.length<=rows.length:=by
  have h1:=hd.count dM kU;have h2:=G0 S;rw[hd.len,Jd]at h2;simp only[Jo]at h1;omega
 exact hK o.reverse H' hu (by rw[List.length_reverse];exact eS) λx=>by rw[List.mem_reverse,ce]
noncomputable def rchL (n:Nat)(g:Nat->List Nat):List Nat:=(List.range n).filter (Ch g (-1))
theorem Qa0b {p rg:Int}{fl:Bool}{rows:List (List C)}{nx:Nat->List Int}(hg:GF rows nx)(hf:C1 rows.length nx=true)
  (hK:∀H',Upd H H' []->K (.c (.sl false 1 (BK (rchL rows.length (nxN nx))))) H') :
  Qr prog Qqo [.ag [Ui p,Ui rg,.sl fl 5 rows]] H K:=by
 have hn:=hg.n;refine Qy ?_;refine Qd BF Qans ?_;refine Wj ?_;refine Qbqv (hg.grd H fl) ?_;simp only[go_sem,Iq,hf];refine Qh (Qf rfl (λh=>ZI) (λ_=>?_));refine Zc ?_
 refine Za ?_;refine Qbls hg hf λo H1 hu eS hom=>?_;have kn:=(Kn.an H).aw hu;simp only[go_sem,Qlp];refine Qbbg ZB λ_ k H2 hu ha hk=>?_;have kn:=kn.aw hu;simp only[go_sem,Tc];have e:k=rchL rows.length (nxN nx):=Qbpm ha λx=>by rw[hk,hom]
 refine Zf ?_;rw[e];exact⟨_,.c _ _ (FrzR.same (ED _)).sl,hK _ kn.fin⟩
theorem Q14 (n:Nat)(v:Int):List.replicate n [C.int .i64 v]=Qb (List.replicate n v):=Zaq
theorem Fh (l:List Int)(i:Nat)(v:Int):(Qb l).set i [C.int .i64 v]=Qb (l.set i v):=by simp[Qb,Jbj]
def DL (n:Nat)(l:List Nat)(P:List Int):Prop:=P.length=n/\∀x∈l,∃i,∃h:i<l.length,l[i]=x/\P.getD x 0=(i:Int)
theorem Qblu {n:Nat}{fl:Bool}{l:List Nat}(hn:n<=1000000)(hl:l.length<=1000000)(hx:∀x∈l,x<n)(hK:∀P H',DL n l P->Upd H H' []->K (.c (.sl false 1 (Qb P))) H') :
  Qr prog Pc [Uv n,.c (.sl fl 1 (BK l))] H K:=by
 refine Qy ?_;refine Qd BF Qbl3 ?_;refine Wd ?_;refine⟨by simp only[LIM];omega,λy hy H1 h1=>?_⟩;rw[Q14]at h1;have kn:=(Kn.an H).al hy h1;simp only[go_sem,Q3m];refine Wa ?_;refine Qh (Qe (Qw (λm e1 H1=>∃(i:Nat) (P:List Int),m=n-i/\i<=n/\P.length=n/\Kn H H1 [] [(y,.vec 1 (Qb P))]/\
  lk 0 e1=Uv n/\lk 1 e1=.c (.sl fl 1 (BK l))/\lk 5 e1=.c (.ah y 1 0 n)/\lk 6 e1=Uv i) n ?_ ?_))
 ·exact⟨0,List.replicate n 0,ZB,ZB,ZD,kn,rfl,rfl,rfl,rfl⟩
 ·clear kn h1;rintro m e1 H2 ⟨i,P,hm,hi,hP,kn,l0,l1,l5,l6⟩;have hy:=kn.l 0 rfl;have bF:(Qb P).take n=Qb P:=Jc ZS;refine Q1 (Qa ?_);simp only[go_sem,l0,l1,l5,l6];refine Wu ?_ ?_
  ·intro hc;have af:i<n:=ZE
   refine Zc ?_
   refine Qh (Qe ?_);have yw:i<P.length:=ZB
   refine Qp ?_;simp only[go_sem,hy,af,Qc,hP,Qk _ _ yw,Fh,Jq,Jl];intro H3 h3;have kn:=kn.aB 0 rfl h3;refine Zg ?_;refine⟨Qs,n-(i+1),ZB,i+1,_,rfl,ZB,by rw[Jk];exact hP,kn,?_⟩
   first|exact⟨rfl,rfl,rfl,rfl⟩|exact rfl|trivial
  ·intro hc;refine Zb ?_;refine Wa ?_;refine Qh (Qe (Qw (λm e1 H1=>∃(j:Nat) (P:List Int),m=l.length-j/\j<=l.length/\P.length=n/\(∀x∈l.take j,∃i,∃h:i<l.length,l[i]=x/\P.getD x 0=(i:Int))/\Kn H H1 [] [(y,.vec 1 (Qb P))]/\
    lk 1 e1=.c (.sl fl 1 (BK l))/\lk 5 e1=.c (.ah y 1 0 n)/\lk 7 e1=Uv j) l.length ?_ ?_))
   ·exact⟨0,P,ZB,ZB,hP,ZD,kn,rfl,rfl,rfl⟩
   ·clear kn hy bF hP;clear P;rintro m e1 H3 ⟨j,P,hm,hj,hP,da,kn,l1,l5,l7⟩;have hy:=kn.l 0 rfl;refine Q1 (Qa ?_);simp only[go_sem,l1,l5,l7,Q5];intro _;refine Wu ?_ ?_
    ·intro hc;have af:j<l.length:=ZE;have bm:l.getD j 0=l[j]:=Zai;have rU:=hx _ (Jf af);have At:l[j]<P.length:=ZB;refine Zc ?_
     refine Wt ?_;simp only[go_sem,hy,af,Q5,CZ _ _ af,bm,rU,Qc,hP,Qk _ _ At,Fh,Jq,Jl];intro H4 h4;have kn:=kn.aB 0 rfl h4;refine Zg ?_;refine⟨Qs,l.length-(j+1),ZB,j+1,_,rfl,ZB,by rw[Jk];exact hP,λx jQ=>?_,kn,?_⟩
     ·by_cases iR:x=l[j]
      ·refine⟨j,af,iR.symm,?_⟩;rw[iR,Ja,List.getElem?_set_self At];rfl
      ·rw[Jg af]at jQ;rcases Ji.1 jQ with h|h
       ·obtain⟨i,hi,h1,h2⟩:=da x h;refine⟨i,hi,h1,?_⟩;rw[Ja,Ja5 (λh=>iR h.symm),<-Ja];exact h2
       ·exact absurd (Jb.1 h) iR
     ·first|exact⟨rfl,rfl,rfl⟩|exact rfl|trivial
    ·intro hc;have bh:l.length<=j:=ZE;rw[Jc bh]at da;refine Wo ?_;exact⟨_,.c _ _ ((FrzR.same (Qq _)).ah (kn.un 0 rfl) hy (by rw[Qc,hP])),hK P _ ⟨hP,da⟩ kn.fin⟩
def Dq (ids:List Int)(b n:Nat):List Nat:=(List.range n).filter λi=>decide (ids.getD i 0=(b:Int))
theorem MR (ids:List Int)(b n:Nat):Dq ids b (n+1)=Dq ids b n++if decide (ids.getD n 0=(b:Int))=true then [n]else []:=by
 simp only[Dq,Jas,J7];congr 1;by_cases h:ids.getD n 0=(b:Int)
 ·rw[decide_eq_true h,if_pos rfl];simp only[Jay,Ja2,h,decide_true,if_true]
 ·rw[decide_eq_false h,if_neg ZD];simp only[Jay,Ja2,h,decide_false,Jat,if_false]
theorem Qbqs (ids:List Int)(b n:Nat):(Dq ids b n).length<=n:=by
 have:=List.length_filter_le (λi=>decide (ids.getD i 0=(b:Int))) (List.range n);simpa[Dq]using this
theorem Qbqx {fl:Bool}{ids:List Int}{b:Nat}(hl:ids.length<=1000000)(hK:∀H',Upd H H' []->K (.c (.sl false 1 (BK (Du ids b)))) H') :
  Qr prog Nk [.c (.sl fl 1 (Qb ids)),Uv b] H K:=by
 refine Qy ?_;refine Qd BF Qbrn ?_;refine Wd ?_;refine Wa ?_;refine Qh (Qe (Qw (λm e1 H1=>∃(i:Nat) (t:C) (Lg:Ul),m=ids.length-i/\i<=ids.length/\Gr Lg 1 (BK (Dq ids b i)) t/\Kn H H1 [] ([]++Lg)/\
  lk 0 e1=.c (.sl fl 1 (Qb ids))/\lk 1 e1=Uv b/\lk 5 e1=.c t/\lk 6 e1=Uv i) ids.length ?_ ?_))
 ·exact⟨0,_,[],ZB,ZB,.nil 1,Kn.an H,rfl,rfl,rfl,rfl⟩
 ·rintro m e1 H1 ⟨i,t,Lg,hm,hi,aq,kn,l0,l1,l5,l6⟩;have fM:=aq.ai;refine Q1 (Qa ?_);simp only[go_sem,l0,l1,l5,l6,Qc];intro _;refine Wu ?_ ?_
  ·intro hc;have af:i<ids.length:=ZE
   have cg:=Qbqs ids b i;refine Zc ?_
   refine Ck (λe2 H2=>∃(t:C) (Lg:Ul),Gr Lg 1 (BK (Dq ids b (i+1))) t/\Kn H H2 [] ([]++Lg)/\
    lk 0 e2=.c (.sl fl 1 (Qb ids))/\lk 1 e2=Uv b/\lk 5 e2=.c t/\lk 6 e2=Uv i) ?_ ?_
   ·intro Q bB _ _;refine Qe (Qa ?_);simp only[go_sem,af,Qc,Qk _ _ af];refine Wv ?_ ?_
    ·intro aD;refine Zh ?_;refine kn.bk (B:=[]) (new:=BK [i]) aq (.mk' _ _ _ _) (ED _) (by simp only[Q5,LIM,Jn,Jo];omega) λt2 Lg2 H2 bO dy kn=>?_;simp only[go_sem,Te];refine bB _ _ ⟨t2,Lg2,?_,kn,rfl,rfl,rfl,rfl⟩;rw[MR,aD,if_pos rfl,Q5m];exact bO
    ·intro aD;refine Zc ?_
     refine bB _ _ ⟨t,Lg,?_,kn,rfl,rfl,rfl,rfl⟩;rw[MR,aD];simpa using aq
   ·rintro e2 H2 ⟨t2,Lg2,bO,kn,l0,l1,l5,l6⟩;have dy:=bO.ai;refine Qp ?_;simp only[go_sem,X.next,l0,l1,l5,l6];refine⟨Qs,ids.length-(i+1),ZB,i+1,t2,Lg2,rfl,ZB,bO,kn,?_⟩
    first|exact⟨rfl,rfl,rfl,rfl⟩|exact rfl|trivial
  ·intro hc;have bh:i=ids.length:=by have:ids.length<=i:=ZE;omega
   refine Wo ?_;have e:Dq ids b i=Du ids b:=by rw[bh];rfl
   rw[e]at aq;exact⟨_,.c _ _ (aq.frz kn (ED _)),hK _ kn.fin⟩
theorem Qblw {fl:Bool}{n:Nat}{g:Nat->List Nat}(cC:0<n)(hn:n<=1000000)(hK:∀ids H',Tree n ids (depL n g)->Upd H H' []->K (.c (.sl false 1 (Qb ids))) H') :
  Qr prog Pa [.c (.sl fl 1 (ovOf n g n))] H K:=by
 have su:Int.toNat (-1)=0:=rfl;refine Qy ?_;refine Qd BF Qbl5 ?_;refine Wd ?_;refine Wa ?_;refine Qh (Qe (Qw (λm e1 H1=>∃(b:Nat) (ids:List Int) (t:C) (Lg:Ul),m=n-b/\b<=n/\ids.length=b/\(∀x,x<b->ids.getD x 0=-1\/∃a:Nat,ids.getD x 0=a/\a<n/\depL n g a<depL n g x)/\Gr Lg 1 (Qb ids) t/\Kn H H1 [] ([]++Lg)/\
  lk 0 e1=.c (.sl fl 1 (ovOf n g n))/\lk 3 e1=.c t/\lk 4 e1=Uv b) n ?_ ?_))
 ·exact⟨0,[],_,[],ZB,ZB,rfl,λx hx=>ZB,.nil 1,Kn.an H,rfl,rfl,rfl⟩
 ·rintro m e1 H1 ⟨b,ids,t,Lg,hm,hb,cM,uv,aq,kn,l0,l3,l4⟩;have fM:=aq.ai;refine Q1 (Qa ?_);simp only[go_sem,l0,l3,l4,Ih];intro _;refine Wu ?_ ?_
  ·intro hc;have af:b<n:=ZE
   refine Zc ?_
   refine Ck (λe2 H2=>∃(v:Int),(v=-1\/∃a:Nat,v=a/\a<n/\depL n g a<depL n g b)/\∃(t:C) (Lg:Ul),Gr Lg 1 (Qb (ids++[v])) t/\Kn H H2 [] ([]++Lg)/\
    lk 0 e2=.c (.sl fl 1 (ovOf n g n))/\lk 3 e2=.c t/\lk 4 e2=Uv b) ?_ ?_
   ·intro Q bB _ _;refine Wq ?_;refine Wa ?_;refine Qh (Qe (Qw (λm e1 H1'=>∃(a:Nat) (v:Int),m=n-a/\a<=n/\H1'=H1/\(v=-1\/∃a:Nat,v=a/\a<n/\depL n g a<depL n g b)/\
     lk 0 e1=.c (.sl fl 1 (ovOf n g n))/\lk 3 e1=.c t/\lk 4 e1=Uv b/\lk 5 e1=Uv v/\lk 6 e1=Uv a) n ?_ ?_))
    ·exact⟨0,-1,ZB,ZB,rfl,.inl rfl,rfl,rfl,rfl,rfl,rfl⟩
    ·rintro m2 e2 H2 ⟨a,v,fw,ha,rfl,hv,l0,l3,l4,l5,l6⟩;refine Q1 (Qa ?_);simp only[go_sem,l0,l3,l4,l5,l6,Ih];intro _;refine Wu ?_ ?_
     ·intro aD;have em:a<n:=ZH;have rF:b<(D3 n g a).length:=(by rw[GE];exact af);refine Zc ?_
      refine Ck (λe2 H2'=>∃(v:Int),H2'=H2/\(v=-1\/∃a:Nat,v=a/\a<n/\depL n g a<depL n g b)/\
       lk 0 e2=.c (.sl fl 1 (ovOf n g n))/\lk 3 e2=.c t/\lk 4 e2=Uv b/\lk 5 e2=Uv v/\lk 6 e2=Uv a) ?_ ?_
      ·intro Q2 tQ _ _;refine Qe ?_;obtain⟨w,hw,eQ,od⟩:∃w:Nat,v.toNat=w/\w<n/\(decide (v<0)=false->v=(w:Int)):=by
        rcases hv with rfl|⟨a',rfl,h1,_⟩
        ·exact⟨0,rfl,cC,λh=>ZI⟩
        ·exact⟨a',ZB,h1,λ_=>rfl⟩
       have had:a<(D3 n g w).length:=(by rw[GE];exact em);refine Qa ?_;simp only[go_sem,em,af,hw,eQ,Ih,HV em,HV eQ,Q3,GE,Q7 _ _ rF,Q7 _ _ had,Pn af,Pn em];refine⟨λh=>?_,?_⟩
       ·rw[Je,Jbe,decide_eq_false_iff_not]at h;omega
       refine Wv ?_ ?_
       ·intro bA;have hd:¬((a:Int)=b)/\domB g a b=true:=by
         by_cases eD:(a:Int)=b
         ·rw[decide_eq_true eD]at bA;simp at bA
         ·refine⟨eD,?_⟩
          cases hd:domB g a b with
          |true=>rfl
          |false=>rw[decide_eq_false eD,hd]at bA;simp at bA
        refine Zh ?_;exact tQ _ _ ⟨(a:Int),rfl,.inr ⟨a,rfl,em,Qb1e af hd.2 λh=>hd.1 (by rw[h])⟩,rfl,rfl,rfl,rfl,rfl⟩
       ·intro _;refine Zc ?_
        exact tQ _ _ ⟨v,rfl,hv,rfl,rfl,rfl,rfl,rfl⟩
      ·rintro e3 H3 ⟨v2,rfl,jS,l0,l3,l4,l5,l6⟩;refine Qp ?_;simp only[go_sem,l0,l3,l4,l5,l6];refine⟨Qs,?_⟩;show ∃m,_;exact⟨n-(a+1),by rw[fw];exact Nat.sub_lt_sub_left em (Nat.lt_succ_self a),a+1,v2,rfl,em,rfl,jS,rfl,rfl,rfl,rfl,rfl⟩
     ·intro aD;refine Zb ?_;refine Zh ?_;refine kn.bk (B:=[]) (new:=Qb [v]) aq (.mk' _ _ _ _) (Qq _) Zao λt2 Lg2 H3 bO dy kn=>?_;simp only[go_sem,Ti];refine bB _ _ ⟨v,hv,t2,Lg2,?_,kn,rfl,rfl,rfl⟩;have:Qb (ids++[v])=Qb ids++Qb [v]:=Zaq;rw[this];exact bO
   ·rintro e2 H2 ⟨v,hv,t2,Lg2,bO,kn,l0,l3,l4⟩;have dy:=bO.ai;refine Qp ?_;simp only[go_sem,X.next,l0,l3,l4];refine⟨Qs,n-(b+1),ZB,b+1,ids++[v],t2,Lg2,rfl,ZB,by simp[cM],λx hx=>?_,bO,kn,?_⟩
    ·by_cases sU:x<b
     ·have e:(ids++[v]).getD x 0=ids.getD x 0:=(by simp[Ja,List.getElem?_append_left (show x<ids.length by omega)]);rw[e];exact uv x sU
     ·have iR:x=b:=ZB;subst iR;have e:(ids++[v]).getD x 0=v:=(by simp[Ja,<-cM]);rw[e];exact hv
    ·first|exact⟨rfl,rfl,rfl⟩|exact rfl|trivial
  ·intro hc;have jz:b=n:=by have:n<=b:=ZE;omega
   subst jz;refine Wo ?_;exact⟨_,.c _ _ (aq.frz kn (Qq _)),hK ids _ ⟨cM,uv⟩ kn.fin⟩
end Go.AE.Y
namespace Go.AE.Y
open Go.Proofs.Tryz
variable {H:Heap}{K:Uk}
theorem K2 {op:Int}(hK:K (.c (.bool (decide (1<=op)&&decide (op<=14)))) H):Qr prog Pd [Uv op] H K:=by
 refine Qd BF Qbl1 ?_;refine Wd ?_;refine DQ ?_;simp only[go_sem,Se];refine Zf ?_;exact hK
theorem Lr {n:Int}(hK:K (.c (.bool (decide (0<=n)&&decide (n<=255)))) H):Qr prog Q7m [Uv n] H K:=by
 refine Qd BF Qbbm ?_;refine Wd ?_;refine DQ ?_;simp only[go_sem,Se];refine Zf ?_;exact hK
theorem GG {op:Int}(hK:K (.c (.bool (CQ op))) H):Qr prog Ny [Uv op] H K:=by
 refine Qd BF Qbrg ?_;refine Wd ?_;refine K2 ?_;simp only[go_sem,Gb];refine Zf ?_;have:∀a b c:Bool,(bif bif a then b else false then c else false)=(a&&b&&c):=ZO
 rw[this];have e:(decide (1<=op)&&decide (op<=14))=decide (1<=op/\op<=14):=ZD
 rw[e];exact hK
theorem Ie {j:Int}(hK:K (.c (.bool (decide (j=2) || decide (j=3)))) H):Qr prog Q7q [.c (.int .i64 j)] H K:=by
 refine Qd BF Qbbq ?_;refine Wd ?_;refine Zf ?_;have:∀a b:Bool,(bif a then true else b)=(a || b):=ZO
 first|(rw[this];exact hK)|exact hK
theorem Qbb7 {j:Int}(hK:K (Uv (Cq j)) H):Qr prog Qqj [Uv j] H K:=by
 refine Qd BF Qanl ?_;have retf:∀(n:Int) (e:Env),Cq j=n->lk 2 e=Uv n->Q4 BH K .ret e H:=by
  intro b e h1 h3;simp only[go_sem,Q4,BE,Jb,forall_eq,RS.op,h3];rw[<-h1];exact hK
 refine Wj ?_;refine Wg ?_;refine Wv ?_ ?_
 ·intro hc;refine We ?_;exact retf 1 _ Zag ZC
 intro bH;refine Za ?_;refine Wv ?_ ?_
 ·intro hc;refine We ?_;exact retf 2 _ Zag ZC
 intro aD;refine Za ?_;refine Wv ?_ ?_
 ·intro hc;refine We ?_;exact retf 0 _ Zag ZC
 ·intro hc;refine Zd ?_;refine Za ?_;refine Ql ?_;exact retf (-1) _ (by simp at hc bH aD;simp[Cq,hc,bH,aD]) ZC
def Ds (op:Int):Int:=if op=1 then 0 else if op=2\/op=10\/op=11\/op=13 then 1 else 2
theorem Qbqj {op:Int}(hK:K (Uv (Ds op)) H):Qr prog Q1l [Uv op] H K:=by
 refine Qd BF Qa1y ?_;have retf:∀(n:Int) (e:Env),Ds op=n->lk 2 e=Uv n->Q4 BH K .ret e H:=by
  intro b e h1 h3;simp only[go_sem,Q4,BE,Jb,forall_eq,RS.op,h3];rw[<-h1];exact hK
 refine Wj ?_;refine Wg ?_;refine Wv ?_ ?_
 ·intro hc;refine We ?_;exact retf 0 _ (by simp at hc;simp[Ds,hc]) ZC
 intro bH;have fin:∀(b:Bool) (e:Env),b=decide (op=2\/op=10\/op=11\/op=13)->lk 6 e=.c (.bool b)->BI prog Qx1 (X.inBlock 0 (X.sq prog Qx2 (Q4 BH K))) e H:=by
  intro b e hb l6;refine Qf l6 ?_ ?_
  ·intro hc;refine We ?_;exact retf 1 _ (by rw[hc]at hb;have:=of_decide_eq_true hb.symm;simp at bH;rw[Ds,if_neg bH,if_pos this]) ZC
  ·intro hc;refine Zd ?_;refine Za ?_;refine Ql ?_;exact retf 2 _ (by rw[hc]at hb;have:=of_decide_eq_false hb.symm;simp at bH;rw[Ds,if_neg bH,if_neg this]) ZC
 refine Wa ?_;refine Wu ?_ ?_
 ·intro hc;refine Zd ?_;exact fin true _ (decide_eq_true (.inl (of_decide_eq_true hc))).symm Zat
 intro aD;refine Za ?_;refine Wv ?_ ?_
 ·intro hc;refine Zd ?_;exact fin true _ (decide_eq_true (.inr (.inl (of_decide_eq_true hc)))).symm Zat
 intro bA;refine Za ?_;refine Wv ?_ ?_
 ·intro hc;refine Zd ?_;exact fin true _ (decide_eq_true (.inr (.inr (.inl (of_decide_eq_true hc))))).symm Zat
 intro ef;refine Zh ?_;refine fin (decide (op=13)) _ ?_ ZC;have a2:=of_decide_eq_false aD;have a3:=of_decide_eq_false bA;have a4:=of_decide_eq_false ef;simp[a2,a3,a4]
theorem LX {l:List BlkD}(hf:∀b∈l,b.ins.length<=2 ^ 38/\b.ab.length<=2 ^ 38):BU Co l<=l.length * 549755813888:=by
 induction l with
 |nil=>simp[BU]
 |cons y l ih=>
  have h1:=hf y Jm;have h2:=ih λb hb=>hf b (Jj _ hb);simp only[BU,Jw,Jax,Co,Jn]at *;omega
theorem Qba2 {q:CodeD}{fl:Bool}(hf:q.fits)(hb:q.blocks.length<=160)(hK:∀H',Upd H H' []->K (Uv (Ci q)) H') :
  Qr prog Qqf [.ag [Ui q.params,Ui q.ae,.sl fl 5 (Qo q.blocks)]] H K:=by
 refine Qy ?_;refine Qd BF Qang ?_;have fS:=LX hf;refine Ws ?_;simp only[go_sem,Qn];intro _;refine Qh (Qe (Qw (λm e1 H1=>∃(i:Nat),m=q.blocks.length-i/\i<=q.blocks.length/\Kn H H1 [] []/\
  e1=[(3,Uv (BU Co (q.blocks.take i):Nat)),(7,.c (.sl fl 5 (Qo q.blocks))),(8,.c (Ui q.blocks.length)),(9,Uv i)]) q.blocks.length ?_ ?_))
 ·exact⟨0,ZB,ZB,Kn.an H,rfl⟩
 ·rintro m e1 H1 ⟨i,hm,hi,kn,rfl⟩;refine Za ?_;refine Wu ?_ ?_
  ·intro hc;have af:i<q.blocks.length:=ZE
   have pE:=hf _ (Jf af);have qq:=Fl (f:=Co) af;have aS:=Gh (f:=Co) (l:=q.blocks) (i+1);have gO:Co q.blocks[i]=q.blocks[i].ins.length+q.blocks[i].ab.length:=rfl;have tX:q.blocks.length * 549755813888<=160 * 549755813888:=Jap _ hb;refine Wm ?_;simp only[go_sem,af,Qn,Cy _ _ af,BlkD.cells];intro x5 bq H2 h2;have kn:=kn.al bq h2;have bq:=kn.l 0 rfl;simp only[go_sem,Qk6,bq];intro H3 h3;have kn:Kn H H3 [] ([]++[(x5,.st [.sl false 2 (Q6 q.blocks[i].ab),.sl false 4 (BJ q.blocks[i].ins),Ui q.blocks[i].jump,Ui q.blocks[i].on,.sl false 1 (Qb q.blocks[i].next)])]):=kn.aB 0 rfl h3;have bq:=kn.l 0 rfl;refine Qp ?_;simp only[go_sem,bq,Cv,Q0];intro _ _;refine⟨Qs,Qs,?_⟩;refine Zg ?_;refine⟨Qs,q.blocks.length-(i+1),ZB,i+1,rfl,ZB,kn.drop,?_⟩;rw[qq,gO];have:((BU Co (q.blocks.take i):Nat):Int)+((q.blocks[i].ab.length:Int)+q.blocks[i].ins.length)=((BU Co (q.blocks.take i)+(q.blocks[i].ins.length+q.blocks[i].ab.length):Nat):Int):=ZB
   rw[this];rfl
  ·intro hc;have bh:q.blocks.length<=i:=ZE
   refine Wo ?_;rw[Jc bh];exact⟨_,.c _ _ (Qg rfl),hK _ kn.fin⟩
theorem MS {x7:Nat}{q:CodeD}{v:Int}(h7:H x7=.st q.cells)(hr:-(2^62)<=q.ae)(ey:q.ae<=2^62)(hK:K (.c (.bool (decide (0<=v/\v<=q.ae-1)))) H) :
  Qr prog SL [Uv v,Up x7] H K:=by
 refine Qd BF Qavu ?_;refine Wf ?_;simp only[go_sem,h7,CodeD.cells];refine⟨Qs,?_⟩;refine DQ ?_;simp only[go_sem,TY];refine Zf ?_;have e:(decide (0<=v)&&decide (v<=q.ae-1))=decide (0<=v/\v<=q.ae-1):=ZD
 rw[e];exact hK
theorem Qblo {x7 x8:Nat}{q:CodeD}{v:Int}(h7:H x7=.st q.cells)(h8:H x8=.st [.fn SL [.ptr x7 0]])(hr:-(2^62)<=q.ae)(ey:q.ae<=2^62)(hK:K (.c (.bool (!decide (0<=v/\v<=q.ae-1)))) H) :
  Qr prog Qw4 [Uv v,Up x8] H K:=by
 refine Qd BF Qavv ?_;refine Wf ?_;simp only[go_sem,h8,Jad,J3,Jw,Jag];refine MS h7 hr ey ?_;simp only[go_sem,TU];refine Zf ?_;exact hK
theorem Hl (p:Int->Bool)(l:List Int):(l.any λx=>!p x) = !l.all p:=by
 induction l with
 |nil=>rfl
 |cons x l ih=>simp only[List.any_cons,List.all_cons,ih];cases p x <;> simp
theorem Qb12 {cs:List CodeD}{fl:Bool}{k:Nat}{x:InsD}(hk:k<cs.length)(hr:0<=cs[k].ae)(ey:cs[k].ae<=300)(cG:cs.length<=100)(hK:∀(H':Heap),Upd H H' []->K (.c (.bool (Cr cs k x))) H') :
  Qr prog Pl [.ag [.sl fl 3 (Qm cs)],Uv k,.ag x.cells] H K:=by
 refine Qy ?_;refine Qd BF Qbl0 ?_;refine Zz ?_;refine Qa ?_;simp only[go_sem,hk,Q8,Do _ _ hk,CodeD.cells];intro x7 cd H1 h1;have kn:=(Kn.an H).al cd h1;have cd:=kn.l 0 rfl;simp only[go_sem,Tn,cd];intro H2 h2;have kn:=kn.aB 0 rfl h2;refine Za ?_;intro x8 aV H3 h3;have kn:=kn.al aV h3;have aV:=kn.l 1 rfl;simp only[go_sem,Q27,aV];intro H4 h4;have kn:Kn H H4 [] [(x7,.st cs[k].cells),(x8,.st [.fn SL [.ptr x7 0]])]:=kn.aB 1 rfl h4;have h7:H4 x7=.st cs[k].cells:=kn.l 0 rfl;have h8:=kn.l 1 rfl;have iU:=I8 hk;have retf:∀(b:Bool) (e:Env),Cr cs k x=b->lk 6 e=.c (.bool b)->Q4 BN (unK H K) .ret e H4:=by
  intro b e h1 h3;simp only[go_sem,Q4,BE,Jb,forall_eq,RS.op,h3];rw[<-h1];exact⟨_,.c _ _ (Qg rfl),hK _ kn.fin⟩
 refine Wa ?_;refine K2 ?_;simp only[go_sem,Q28];have rest2:∀(E1:Env) (b:Bool),insH cs[k].ae x=true->insT cs[k].ae x=(!b)->lk 1 E1=Uv k->lk 3 E1=.c (.pp [.sl fl 3 (Qm cs)])->lk 5 E1=.c (.pp [Ui x.op,Ui x.to,.sl false 1 (Qb x.args),Ui x.n])->lk 45 E1=.c (.bool b)->
   BI prog (s_im_insOk_8.seq Q24) (Q4 BN (unK H K)) E1 H4:=by
  intro E1 b ba cp l1 l3 l5 l45;refine Qh (Qf l45 ?_ ?_)
  ·intro hc;refine We ?_;exact retf false _ (by rw[Cr,iU,cp,hc];simp) ZC
  intro hc;rw[hc]at cp;have hG:Cr cs k x=insL cs k x:=by rw[Cr,iU,ba,cp];rfl
  have oW:1<=x.op/\x.op<=14:=by
   simp only[insH,Je,decide_eq_true_eq]at ba;exact ba.1
  refine Zd ?_;refine Q1 (Qa ?_);simp only[go_sem,l1,l3,l5];refine Wg ?_;refine Wv ?_ ?_
  ·intro hc;have b9:x.op=1:=of_decide_eq_true hc;have hL:insL cs k x=(decide ((x.args.length:Int)=0)&&(decide (0<=x.n)&&decide (x.n<=255))):=by
    rw[insL,if_neg ZB];simp[C3,b9]
   refine Qa ?_;simp only[go_sem,Qc];intro _;refine⟨λhb=>?_,λhb=>?_⟩
   ·refine Lr ?_;simp only[go_sem,TM];refine Zi ?_;refine retf _ _ ?_ ZJ;have aW:x.args=[]:=List.length_eq_zero_iff.1 (by have:=of_decide_eq_true hb;omega);rw[hG,hL];simp[aW]
   ·simp only[go_sem,TM,hb];refine Zi ?_;exact retf false _ (by rw[hG,hL,hb];rfl) ZC
  intro bH;have qH:¬x.op=1:=of_decide_eq_false bH;refine Za ?_;refine Wv ?_ ?_
  ·intro hc;have b9:x.op=14:=of_decide_eq_true hc;rw[insL,if_pos b9]at hG;refine Zw ?_;refine⟨Qs,?_⟩;refine DQ ?_;by_cases dH:0<=x.n/\x.n<=(k:Int)-1
   ·obtain⟨m,hm⟩:=Int.eq_ofNat_of_zero_le dH.1;have di:m<cs.length:=ZB;have h1:(0<=(m:Int))=True:=eq_true ZB;have h2:((m:Int)<=(k:Int)-1)=True:=eq_true ZB;simp only[go_sem,SG,hm,h1,h2,di,decide_true,Bool.and_self,Q8,Do _ _ di,CodeD.cells,Qc];refine Zi ?_;refine retf _ _ ?_ ZJ;rw[hG,hm,Int.toNat_natCast,G2 di];simp only[h1,h2,and_self,decide_true,Jbo]
   ·have i7:(decide (0<=x.n)&&decide (x.n<=(k:Int)-1))=false:=(by simpa using dH);have ur:decide (0<=x.n/\x.n<=(k:Int)-1)=false:=(by simpa using dH);by_cases hm:x.n.toNat<cs.length
    ·simp only[go_sem,SG,i7,Do _ _ hm,CodeD.cells];refine Zi ?_;exact retf false _ (by rw[hG,ur];rfl) ZC
    ·have bm:(Qm cs).getD x.n.toNat []=[]:=by
      rw[Ja,Jp (by rw[Q8];omega)];rfl
     simp only[go_sem,SG,i7,bm,List.take_nil,List.headD_nil];refine Zi ?_;exact retf false _ (by rw[hG,ur];rfl) ZC
  ·intro hc;have b9:¬x.op=14:=of_decide_eq_false hc;have hA:C3 x.op=Ds x.op:=by
    rw[C3,Ds,if_neg qH,if_neg qH];split
    ·rfl
    ·rw[if_pos ZB]
   have hL:insL cs k x=(decide (x.n=0)&&decide ((x.args.length:Int)=Ds x.op)):=by
    rw[insL,if_neg b9,hA];by_cases hn:x.n=0
    ·simp[hn]
    ·simp[hn,qH]
   refine Zd ?_;refine BM ?_;simp only[go_sem,Qc];refine⟨λhb=>?_,λhb=>?_⟩
   ·refine Qbqj ?_;simp only[go_sem,TZ,hb,Qc];refine Ql ?_;refine retf _ _ ?_ ZJ;have aW:=of_decide_eq_true hb;rw[hG,hL];simp[aW]
   ·simp only[go_sem,TZ,hb,Qc];refine Ql ?_;exact retf false _ (by rw[hG,hL,hb];rfl) ZC
 have rest:∀(E1:Env) (b:Bool),insH cs[k].ae x=(!b)->lk 1 E1=Uv k->lk 3 E1=.c (.pp [.sl fl 3 (Qm cs)])->lk 5 E1=.c (.pp [Ui x.op,Ui x.to,.sl false 1 (Qb x.args),Ui x.n])->lk 8 E1=Up x8->lk 24 E1=.c (.bool b)->
   BI prog (s_im_insOk_4.seq Q25) (Q4 BN (unK H K)) E1 H4:=by
  intro E1 b hb l1 l3 l5 l8 l24;refine Qh (Qf l24 ?_ ?_)
  ·intro hc;refine We ?_;exact retf false _ (by rw[Cr,iU,hb,hc];rfl) ZC
  intro hc;rw[hc]at hb;refine Zd ?_;refine Q1 (Qa ?_);simp only[go_sem,l5];refine GG ?_
  cases di:CQ x.op with
  |true=>
   simp only[go_sem,Ju,TN,l5,l8,h8];refine MS h7 ZB ZB ?_;have hT:insT cs[k].ae x=decide (0<=x.to/\x.to<=cs[k].ae-1):=by rw[insT,di];rfl
   cases hd:decide (0<=x.to/\x.to<=cs[k].ae-1)with
   |true=>
    simp only[go_sem,cond_true,Jaq,Ju,S6,l5];refine GG ?_;simp only[go_sem,cond_false,Jaq,Ju,S7,l1,l3,l5,di];exact rest2 _ false hb (by rw[hT,hd];rfl) ZC ZC ZC ZC
   |false=>
    simp only[go_sem,cond_true,Jaq,Ju,S6,S7,l1,l3,l5];exact rest2 _ true hb (by rw[hT,hd];rfl) ZC ZC ZC ZC
  |false=>
   have hT:insT cs[k].ae x=decide (x.to=-1):=by rw[insT,di];rfl
   simp only[go_sem,cond_false,Ju,TN,S6,l5,l8,h8];refine GG ?_;simp only[go_sem,cond_true,cond_false,Ju,S7,l1,l3,l5,di];refine rest2 _ (!decide (x.to=-1)) hb ?_ ?_ ?_ ?_ ?_
   ·rw[hT];simp
   ·rfl
   ·rfl
   ·rfl
   ·rfl
 cases hi:(decide (1<=x.op)&&decide (x.op<=14))with
 |false=>
  simp only[go_sem,TO];refine rest _ true ?_ ZC ZC ZC ZC ZC;have:decide (1<=x.op/\x.op<=14)=false:=Zaf
  rw[insH,this];rfl
 |true=>
  simp only[go_sem];refine Kc (p:=λr=>!decide (0<=r/\r<=cs[k].ae-1)) (.mk' _ _ _ _) rfl (λv K' hv oE=>Qblo h7 h8 ZB ZB oE) ?_;simp only[go_sem,TO];refine rest _ (x.args.any λr=>!decide (0<=r/\r<=cs[k].ae-1)) ?_ ZC ZC ZC ZC ZC;have:decide (1<=x.op/\x.op<=14)=true:=Zaf
  rw[insH,this,Hl,Dc];simp
end Go.AE.Y
namespace Go.AE.Y
attribute [local go_sem] cond_true cond_false Bool.not_true Bool.not_false
open Go.Proofs.Tryz
variable {H:Heap}{K:Uk}
theorem Qa0l {fl:Bool}{l:List InsD}{f:Nat}{caps:List C}{p:InsD->Bool}
  (hf:∀(x:InsD) (H1:Heap) (K':V->Heap->Prop),x∈l->(∀H2,Upd H1 H2 []->K' (.c (.bool (p x))) H2)->Qr prog f ([.ag x.cells]++caps.map .c) H1 K')
  (hK:∀(r:Int) (H':Heap),Upd H H' []->decide (0<=r)=l.any p->K (Uv r) H') :
  Qr prog Qhc [.c (.sl fl 4 (BJ l)),.c (.fn f caps)] H K:=by
 refine Qy ?_;refine Qd BF Q19 ?_;refine Wh ?_;simp only[go_sem,Cv];intro hl;simp only[LIM]at hl;refine Qh (Qe (Qw (λm e1 H1=>∃(i:Nat),m=l.length-i/\i<=l.length/\Kn H H1 [] []/\(∀x∈l.take i,p x=false)/\e1=[(0,.c (.sl fl 4 (BJ l))),(1,.c (.fn f caps)),(7,.c (Ui l.length)),(8,Uv i)]) l.length ?_ ?_))
 ·exact⟨0,ZB,ZB,Kn.an H,ZD,rfl⟩
 ·rintro m e1 H1 ⟨i,hm,hi,kn,bT,rfl⟩;refine Za ?_;refine Wu ?_ ?_
  ·intro hc;have af:i<l.length:=ZE
   refine Wc ?_;refine Wf ?_;simp only[go_sem,af,Cv,E6 _ _ af,InsD.cD,InsD.bv,InsD.len4];refine hf _ _ _ (Jf af) λH2 hu=>?_;have kn:=kn.aw hu;refine Wv ?_ ?_
   ·intro aD;refine Za ?_;refine Zt ?_;refine⟨_,.c _ _ (Qg rfl),hK _ _ kn.fin ?_⟩;have:l.any p=true:=J5.2 ⟨_,Jf af,aD⟩;rw[this];simp
   ·intro aD;refine Wk ?_;refine⟨Qs,l.length-(i+1),ZB,i+1,rfl,ZB,kn,?_,rfl⟩;rw[Jg af];intro x hx;rcases Ji.1 hx with hx|hx
    ·exact bT x hx
    ·simp only[Jb]at hx;subst hx;exact aD
  ·intro hc;have bh:l.length<=i:=ZE
   rw[Jc bh]at bT;refine Wo ?_;refine⟨_,.c _ _ (Qg rfl),hK _ _ kn.fin ?_⟩;have:l.any p=false:=by
    cases hc:l.any p with
    |false=>rfl
    |true=>obtain⟨x,hx,hp⟩:=J5.1 hc;rw[bT x hx]at hp;exact absurd hp ZD
   rw[this];rfl
theorem Qaew {fl:Bool}{l:List InsD}{f:Nat}{caps:List C}{p:InsD->Bool}
  (hf:∀(x:InsD) (H1:Heap) (K':V->Heap->Prop),x∈l->(∀H2,Upd H1 H2 []->K' (.c (.bool (p x))) H2)->Qr prog f ([.ag x.cells]++caps.map .c) H1 K')
  (hK:∀(H':Heap),Upd H H' []->K (.c (.bool (l.any p))) H') :
  Qr prog Qd1 [.c (.sl fl 4 (BJ l)),.c (.fn f caps)] H K:=by
 refine Qd BF Qqv ?_;refine Wd ?_;refine Qa0l hf λr H' hu hr=>?_;simp only[go_sem,Gl];refine Zf ?_;rw[hr];exact hK _ hu
theorem T1 {x5:Nat}{q:CodeD}{v:Int}(h5:H x5=.st q.cells)(hr:-(2^62)<=q.ae)(ey:q.ae<=2^62)(hK:K (.c (.bool (decide (0<=v/\v<=q.ae-1)))) H) :
  Qr prog Ew [Uv v,Up x5] H K:=by
 refine Qd BF Qanh ?_;refine Wf ?_;simp only[go_sem,h5,CodeD.cells];refine⟨Qs,?_⟩;refine DQ ?_;simp only[go_sem,TY];refine Zf ?_;have e:(decide (0<=v)&&decide (v<=q.ae-1))=decide (0<=v/\v<=q.ae-1):=ZD
 rw[e];exact hK
theorem Qba3 {x5:Nat}{q:CodeD}{v:Int}(h5:H x5=.st q.cells)(hb:q.blocks.length<=2 ^ 38)(hK:K (.c (.bool (!DC (Qo q.blocks).length v))) H) :
  Qr prog Qqg [Uv v,Up x5] H K:=by
 refine Qd BF Qani ?_;refine Wf ?_;simp only[go_sem,h5,CodeD.cells,Qn];intro _;refine⟨Qs,?_⟩;refine DQ ?_;simp only[go_sem,SB];refine Zf ?_;have e:(decide (1<=v)&&decide (v<=(q.blocks.length:Int)-1))=DC (Qo q.blocks).length v:=by simp[DC,Qn]
 rw[e];exact hK
theorem Qba4 {cs:List CodeD}{fl:Bool}{k:Nat}{x:InsD}(hk:k<cs.length)(hr:0<=cs[k].ae)(ey:cs[k].ae<=300)(cG:cs.length<=100)(hK:∀(H':Heap),Upd H H' []->K (.c (.bool (!Cr cs k x))) H') :
  Qr prog Qqh [.ag x.cells,.c (.pp [.sl fl 3 (Qm cs)]),.c (.pp [Ui k])] H K:=by
 refine Qd BF Qanj ?_;refine Zz ?_;refine Za ?_;refine Qb12 hk hr ey cG λH' hu=>?_;simp only[go_sem,Qk9];refine Zf ?_;exact hK _ hu
theorem Qba5 {x5 x6:Nat}{q:CodeD}{v:Int}(h5:H x5=.st q.cells)(h6:H x6=.st [.fn Ew [.ptr x5 0]])(hr:-(2^62)<=q.ae)(ey:q.ae<=2^62)(hK:K (.c (.bool (!decide (0<=v/\v<=q.ae-1)))) H) :
  Qr prog Qqi [Uv v,Up x6] H K:=by
 refine Qd BF Qank ?_;refine Wf ?_;simp only[go_sem,h6,Jad,J3,Jw,Jag];refine T1 h5 hr ey ?_;simp only[go_sem,TU];refine Zf ?_;exact hK
attribute [local instance] Classical.propDecidable
def blkC (b:BlkD):Obj:=.st [.sl false 2 (Q6 b.ab),.sl false 4 (BJ b.ins),.int .i64 b.jump,.int .i64 b.on,.sl false 1 (Qb b.next)]
theorem RE {cs:List CodeD}{k:Nat}{hk:k<cs.length}(h:¬CL cs k hk):decide (CL cs k hk)=false:=decide_eq_false h
theorem Qbvs {cs:List CodeD}{fl:Bool}{k:Nat}(hk:k<cs.length)(cG:cs.length<=100)(aR:cs[k].fits)(hK:∀(H':Heap),Upd H H' []->K (.c (.bool (decide (CL cs k hk)))) H') :
  Qr prog Q7l [.ag [.sl fl 3 (Qm cs)],Uv k] H K:=by
 refine Qy ?_;refine Qd BF Qbbl ?_;have retf:∀(v:Bool) (e:Env) (H':Heap) (L:Ul),decide (CL cs k hk)=v->Kn H H' [] L->lk 4 e=.c (.bool v)->Q4 BG (unK H K) .ret e H':=by
  intro v e H' L hb kn h3;simp only[go_sem,Q4,BE,Jb,forall_eq,RS.op,h3];rw[<-hb];exact⟨_,.c _ _ (Qg rfl),hK _ kn.fin⟩
 obtain⟨q,hq⟩:∃q,cs[k]=q:=⟨_,rfl⟩;have hP:CL cs k hk=(CP q=true/\∀(b:Nat) (h:b<q.blocks.length),Cs cs k b q q.blocks[b]=true):=by subst hq;rfl
 refine Wf ?_;simp only[go_sem,hk,Q8,Do _ _ hk,CodeD.cells,hq];intro x5 bq H1 h1;have kn:=(Kn.an H).al bq h1;have bq:=kn.l 0 rfl;simp only[go_sem,Qxy,bq];intro H2 h2;have kn:Kn H H2 [] [(x5,.st q.cells)]:=kn.aB 0 rfl h2;have bq:H2 x5=.st [Ui q.params,Ui q.ae,.sl false 5 (Qo q.blocks)]:=kn.l 0 rfl;refine Q1 (Qa ?_);simp only[go_sem,bq];refine DQ ?_;have rest0:∀(b:Bool) (E1:Env),CP q=(!b)->lk 2 E1=.c (.pp [.sl fl 3 (Qm cs)])->lk 3 E1=.c (.pp [Ui k])->lk 5 E1=Up x5->lk 36 E1=.c (.bool b)->
   BI prog (s_im_codeOk_4.seq Qxx) (Q4 BG (unK H K)) E1 H2:=by
  intro b E1 hb l2 l3 l5 l36;refine Qh (Qf l36 ?_ ?_)
  ·intro hc;refine We ?_;exact retf false _ _ _ (RE λh=>by rw[hP,hb,hc]at h;simp at h) kn ZC
  intro hc;rw[hc]at hb;have aW:=hb;simp only[CP,Ju,Je,decide_eq_true_eq]at aW;obtain⟨bE,cI,eV,bu⟩:0<=q.ae/\q.ae<=300/\0<q.blocks.length/\q.blocks.length<=160:=ZB
  refine Zd ?_;refine Zj l5 ?_;intro x6 be H3 h3;have kn:=kn.al be h3;have be:=kn.l 1 rfl;simp only[go_sem,Qxz,be,l2,l3,l5];intro H4 h4;have kn:Kn H H4 [] [(x5,.st q.cells),(x6,.st [.fn Ew [.ptr x5 0]])]:=kn.aB 1 rfl h4;have bq:H4 x5=.st [Ui q.params,Ui q.ae,.sl false 5 (Qo q.blocks)]:=kn.l 0 rfl;refine Q1 (Qa ?_);simp only[go_sem,bq,Qn];intro _;refine Qh (Qe (Qw (λm e1 H1=>∃(j:Nat),m=q.blocks.length-j/\j<=q.blocks.length/\(∀(i:Nat) (hi:i<q.blocks.length),i<j->Cs cs k i q q.blocks[i]=true)/\Kn H H1 [] [(x5,.st q.cells),(x6,.st [.fn Ew [.ptr x5 0]])]/\
   e1=[(2,.c (.pp [.sl fl 3 (Qm cs)])),(3,.c (.pp [Ui k])),(5,Up x5),(6,Up x6),(39,.c (.sl false 5 (Qo q.blocks))),(40,.c (Ui q.blocks.length)),(41,Uv j)]) q.blocks.length ?_ ?_))
  ·exact⟨0,ZB,ZB,λ_ _ h=>ZB,kn,rfl⟩
  ·rintro m e1 H5 ⟨j,hm,hj,cV,kn,rfl⟩;refine Za ?_;refine Wu ?_ ?_
   ·intro bH;have af:j<q.blocks.length:=ZaY;have pE:q.blocks[j].ins.length<=2 ^ 38/\q.blocks[j].ab.length<=2 ^ 38:=(by subst hq;exact aR _ (Jf af));refine Zd ?_;refine Ck (λe2 H2=>Kn H H2 [] [(x5,.st q.cells),(x6,.st [.fn Ew [.ptr x5 0]])]/\Cs cs k j q q.blocks[j]=true/\lk 2 e2=.c (.pp [.sl fl 3 (Qm cs)])/\lk 3 e2=.c (.pp [Ui k])/\lk 5 e2=Up x5/\lk 6 e2=Up x6/\
     lk 39 e2=.c (.sl false 5 (Qo q.blocks))/\lk 40 e2=.c (Ui q.blocks.length)/\lk 41 e2=Uv j) ?_ ?_
    ·intro Q bB lW _;replace lW:∀e H',Q4 BG (unK H K) .ret e H'->Q .ret e H':=λe H' h=>lW e H' (by simpa only[go_sem,X.next]using h);have retq:∀(e:Env) (H':Heap) (L:Ul),Cs cs k j q q.blocks[j]=false->Kn H H' [] L->lk 4 e=.c (.bool false)->Q .ret e H':=λe H' L hb kn l4=>
      lW e H' (retf false e H' L (RE λh=>by rw[hP]at h;rw[h.2 j af]at hb;exact absurd hb ZD) kn l4)
     have ke:Cs cs k j q q.blocks[j]=(CT q.ae q.blocks[j]&&q.blocks[j].next.all (DC (Qo q.blocks).length)&&q.blocks[j].ins.all (Cr cs k)&&q.blocks[j].ab.all (phiG q.ae (Qz (gnx q) (j:Int) (Qo q.blocks).length).length j)):=rfl;refine Qe (Qa ?_);simp only[go_sem,af,Qn,Cy _ _ af,BlkD.cells];obtain⟨y,hy⟩:∃y,q.blocks[j]=y:=⟨_,rfl⟩;rw[hy]at ke retq pE bB;rw[hy];intro x8 aV H6 h6;have kn:=kn.al aV h6;have aV:=kn.l 2 rfl;simp only[go_sem,Qx0,aV];intro H7 h7;have kn:Kn H H7 [] [(x5,.st q.cells),(x6,.st [.fn Ew [.ptr x5 0]]),(x8,blkC y)]:=kn.aB 2 rfl h7;have bq:H7 x5=.st [Ui q.params,Ui q.ae,.sl false 5 (Qo q.blocks)]:=kn.l 0 rfl;have lH:H7 x5=.st q.cells:=kn.l 0 rfl;have be:=kn.l 1 rfl;have aV:H7 x8=.st [.sl false 2 (Q6 y.ab),.sl false 4 (BJ y.ins),Ui y.jump,Ui y.on,.sl false 1 (Qb y.next)]:=kn.l 2 rfl;have rest3:∀(E1:Env) (H8:Heap),CT q.ae y=true->y.next.all (DC (Qo q.blocks).length)=true->y.ins.all (Cr cs k)=true->Kn H H8 [] [(x5,.st q.cells),(x6,.st [.fn Ew [.ptr x5 0]]),(x8,blkC y)]->
       lk 2 E1=.c (.pp [.sl fl 3 (Qm cs)])->lk 3 E1=.c (.pp [Ui k])->lk 5 E1=Up x5->lk 6 E1=Up x6->lk 7 E1=Uv j->lk 8 E1=Up x8->
       lk 39 E1=.c (.sl false 5 (Qo q.blocks))->lk 40 E1=.c (Ui q.blocks.length)->lk 41 E1=Uv j->BI prog Vb (X.inBlock 1 Q) E1 H8:=by
      intro E1 H8 g1 g2 g3 kn l2 l3 l5 l6 l7 l8 l39 l40 l41;have bq:H8 x5=.st [Ui q.params,Ui q.ae,.sl false 5 (Qo q.blocks)]:=kn.l 0 rfl;have dH:(decide (0<=(j:Int))&&decide ((j:Int)<=((Qo q.blocks).length:Int)-1))=true:=(by rw[Qn];simp;omega);refine Zq bq l5 l7 ?_;refine Ts (rows:=Qo q.blocks) (nx:=gnx q) (E5 _ q false) λfl' H9 hu=>?_;have kn:=kn.aw hu;rw[DP,if_pos dH];generalize jG:Qz (gnx q) (j:Int) (Qo q.blocks).length=ps;rw[jG]at ke;simp only[go_sem,Qrm,l2,l3,l5,l6,l7,l8,l39,l40,l41,Qc];intro _;have aV:H9 x8=.st [.sl false 2 (Q6 y.ab),.sl false 4 (BJ y.ins),Ui y.jump,Ui y.on,.sl false 1 (Qb y.next)]:=kn.l 2 rfl;refine Qa ?_;simp only[go_sem,aV,Q0];intro _;refine Qe (Qw (λm e1 H1=>∃(i:Nat),m=y.ab.length-i/\i<=y.ab.length/\(y.ab.take i).all (phiG q.ae ps.length j)=true/\Kn H H1 [] [(x5,.st q.cells),(x6,.st [.fn Ew [.ptr x5 0]])]/\
       e1=[(2,.c (.pp [.sl fl 3 (Qm cs)])),(3,.c (.pp [Ui k])),(5,Up x5),(6,Up x6),(7,Uv j),(9,.c (Ui ps.length)),(39,.c (.sl false 5 (Qo q.blocks))),(40,.c (Ui q.blocks.length)),(41,Uv j),(91,.c (.sl false 2 (Q6 y.ab))),(92,.c (Ui y.ab.length)),(93,Uv i)]) y.ab.length ?_ ?_)
      ·exact⟨0,ZB,ZB,rfl,kn.drop (A:=[_,_]),rfl⟩
      ·rintro m2 e1 H10 ⟨i,fw,hi,bT,kn,rfl⟩;refine Za ?_;refine Wu ?_ ?_
       ·intro aD;have cM:i<y.ab.length:=ZH;refine Wm ?_;simp only[go_sem,cM,Q0,Dh _ _ cM,PhiD.cells];obtain⟨z,hz⟩:∃z,y.ab[i]=z:=⟨_,rfl⟩;rw[hz];intro x11 eF H11 ev;have kn:=kn.al eF ev;have eF:=kn.l 2 rfl;simp only[go_sem,Qrn,eF];intro H12 iP;have kn:Kn H H12 [] ([(x5,.st q.cells),(x6,.st [.fn Ew [.ptr x5 0]])]++[(x11,.st [Ui z.to,.sl false 1 (Qb z.args)])]):=kn.aB 2 rfl iP;have lH:H12 x5=.st q.cells:=kn.l 0 rfl;have be:=kn.l 1 rfl;have eF:=kn.l 2 rfl;have fin:∀(b3:Bool) (E1:Env),phiG q.ae ps.length j z=(!b3)->lk 2 E1=.c (.pp [.sl fl 3 (Qm cs)])->lk 3 E1=.c (.pp [Ui k])->lk 5 E1=Up x5->lk 6 E1=Up x6->lk 7 E1=Uv j->lk 9 E1=.c (Ui ps.length)->
          lk 39 E1=.c (.sl false 5 (Qo q.blocks))->lk 40 E1=.c (Ui q.blocks.length)->lk 41 E1=Uv j->lk 91 E1=.c (.sl false 2 (Q6 y.ab))->lk 92 E1=.c (Ui y.ab.length)->lk 93 E1=Uv i->lk 118 E1=.c (.bool b3)->
          BI prog Qxu (X.inBlock 3 (X.sq prog Qxv (X.next (λe2 H2=>∃m,m<m2/\∃(i:Nat),m=y.ab.length-i/\i<=y.ab.length/\(y.ab.take i).all (phiG q.ae ps.length j)=true/\Kn H H2 [] [(x5,.st q.cells),(x6,.st [.fn Ew [.ptr x5 0]])]/\
           e2=[(2,.c (.pp [.sl fl 3 (Qm cs)])),(3,.c (.pp [Ui k])),(5,Up x5),(6,Up x6),(7,Uv j),(9,.c (Ui ps.length)),(39,.c (.sl false 5 (Qo q.blocks))),(40,.c (Ui q.blocks.length)),(41,Uv j),(91,.c (.sl false 2 (Q6 y.ab))),(92,.c (Ui y.ab.length)),(93,Uv i)])
           (X.inBlock 2 (X.inBlock 1 Q))))) E1 H12:=by
         intro b3 E1 dV l2 l3 l5 l6 l7 l9 l39 l40 l41 l91 l92 l93 l118;refine Qf l118 ?_ ?_
         ·intro bA;refine Wn ?_;exact retq _ _ _ (by rw[ke,FL cM (by rw[hz,dV,bA];rfl)];simp) kn ZC
         ·intro bA;refine Zd ?_;refine Qp ?_;simp only[go_sem,X.next,l2,l3,l5,l6,l7,l9,l39,l40,l41,l91,l92,l93];exact⟨Qs,y.ab.length-(i+1),ZB,i+1,rfl,ZB,by rw[FZ cM,bT,hz,dV,bA];rfl,kn.drop,rfl⟩
        have v8:phiG q.ae ps.length j z=(!decide (j=0)&&decide ((z.args.length:Int)=ps.length)&&Dc q.ae z.args&&decide (0<=z.to/\z.to<=q.ae-1)):=rfl;refine Za ?_
        cases lh:decide ((j:Int)=0)with
        |true=>
         have rb:decide (j=0)=true:=(by simpa using lh);simp only[go_sem,Kd,Ke];exact fin true _ (by rw[v8,rb];rfl) ZC ZC ZC ZC ZC ZC ZC ZC ZC ZC ZC ZC ZC
        |false=>
         have rb:decide (j=0)=false:=(by simpa using lh);simp only[go_sem,eF,be,Jw,Jag];refine T1 lH ZB ZB ?_
         cases ht:decide (0<=z.to/\z.to<=q.ae-1)with
         |false=>
          simp only[go_sem,Kd,Ke];exact fin true _ (by rw[v8,ht];simp) ZC ZC ZC ZC ZC ZC ZC ZC ZC ZC ZC ZC ZC
         |true=>
          by_cases em:(z.args.length:Int)=ps.length
          ·simp only[go_sem,Kd,eF,Qc,em,decide_true,Jaq];intro _;refine Kc (p:=λr=>!decide (0<=r/\r<=q.ae-1)) (.mk' _ _ _ _) rfl (λv K' hv oE=>Qba5 lH be ZB ZB oE) ?_;simp only[go_sem,Ke];refine fin (z.args.any λr=>!decide (0<=r/\r<=q.ae-1)) _ ?_ ZC ZC ZC ZC ZC ZC ZC ZC ZC ZC ZC ZC ZC;rw[v8,rb,ht,Hl,em,Dc];simp
          ·simp only[go_sem,Kd,Ke,eF,Qc,em,decide_false,Ju];intro _;exact fin true _ (by rw[v8];simp[em]) ZC ZC ZC ZC ZC ZC ZC ZC ZC ZC ZC ZC ZC
       ·intro aD;have bh:y.ab.length<=i:=ZH;rw[Jc bh]at bT;refine Zb ?_;exact bB _ _ ⟨kn,by rw[ke,g1,g2,g3,bT];rfl,rfl,rfl,rfl,rfl,rfl,rfl,rfl⟩
     have rest2:∀(b1:Bool) (E1:Env),CT q.ae y=(!b1)->lk 2 E1=.c (.pp [.sl fl 3 (Qm cs)])->lk 3 E1=.c (.pp [Ui k])->lk 5 E1=Up x5->lk 6 E1=Up x6->lk 7 E1=Uv j->lk 8 E1=Up x8->
       lk 39 E1=.c (.sl false 5 (Qo q.blocks))->lk 40 E1=.c (Ui q.blocks.length)->lk 41 E1=Uv j->lk 75 E1=.c (.bool b1)->BI prog (s_im_codeOk_11.seq Qxw) (X.inBlock 1 Q) E1 H7:=by
      intro b1 E1 ba l2 l3 l5 l6 l7 l8 l39 l40 l41 l75;refine Qh (Qf l75 ?_ ?_)
      ·intro aD;refine We ?_;exact retq _ _ _ (by rw[ke,ba,aD];simp) kn ZC
      intro aD;rw[aD]at ba;refine Zd ?_;refine Q1 (Qa ?_);simp only[go_sem,aV,l5,l8];refine Kc (p:=λv=>!DC (Qo q.blocks).length v) (.mk' _ _ _ _) rfl (λv K' hv oE=>Qba3 lH ZB oE) ?_;have fin:∀(b:Bool) (E1:Env) (H8:Heap),(y.next.all (DC (Qo q.blocks).length)&&y.ins.all (Cr cs k))=(!b)->Kn H H8 [] [(x5,.st q.cells),(x6,.st [.fn Ew [.ptr x5 0]]),(x8,blkC y)]->lk 2 E1=.c (.pp [.sl fl 3 (Qm cs)])->lk 3 E1=.c (.pp [Ui k])->lk 5 E1=Up x5->lk 6 E1=Up x6->lk 7 E1=Uv j->lk 8 E1=Up x8->
        lk 39 E1=.c (.sl false 5 (Qo q.blocks))->lk 40 E1=.c (Ui q.blocks.length)->lk 41 E1=Uv j->lk 85 E1=.c (.bool b)->BI prog (s_im_codeOk_14.seq Vb) (X.inBlock 1 Q) E1 H8:=by
       intro b E1 H8 hb kn l2 l3 l5 l6 l7 l8 l39 l40 l41 l85;refine Qh (Qf l85 ?_ ?_)
       ·intro bA;refine We ?_;exact retq _ _ _ (by rw[ke,Bool.and_assoc (CT _ _),hb,bA];simp) kn ZC
       ·intro bA;rw[bA]at hb;simp only[Ju,Je]at hb;refine Zd ?_;exact rest3 E1 H8 ba hb.1 hb.2 kn l2 l3 l5 l6 l7 l8 l39 l40 l41
      rw[Hl]
      cases ha:y.next.all (DC (Qo q.blocks).length)with
      |false=>
       simp only[go_sem,Vl,Vm,l2,l3,l5,l6,l7,l8,l39,l40,l41];exact fin true _ _ (by rw[ha];rfl) kn ZC ZC ZC ZC ZC ZC ZC ZC ZC ZC
      |true=>
       simp only[go_sem,Vl,aV,l2,l3,l8];refine Qaew (p:=λx=>!Cr cs k x) (λx H1 K' hx oE=>Qba4 hk (by rw[hq];exact bE) (by rw[hq];exact cI) cG oE) λH8 hu=>?_;have kn:=kn.aw hu;simp only[go_sem,Vm,l2,l3,l5,l6,l7,l8,l39,l40,l41];refine fin (y.ins.any λx=>!Cr cs k x) _ _ ?_ kn ZC ZC ZC ZC ZC ZC ZC ZC ZC ZC;rw[ha,<-List.not_all_eq_any_not];simp
     refine Q1 (BM ?_);simp only[go_sem,aV,Qc];refine Qbb7 ?_;have vL:CT q.ae y=(decide ((y.next.length:Int)=Cq y.jump)&&if y.jump=1 then decide (y.on=0)else decide (0<=y.on/\y.on<=q.ae-1)):=rfl;by_cases hn:(y.next.length:Int)=Cq y.jump
     ·have yG:y.jump=1\/(y.jump=2\/y.jump=3)/\¬y.jump=1:=by
       rw[Cq]at hn;split at hn
       ·exact .inl ‹_›
       ·split at hn
        ·omega
        ·split at hn
         ·omega
         ·omega
      simp only[go_sem,Vn,aV,Qc,hn,decide_true,Jaq];refine Ie ?_;rcases yG with h1|⟨h1,h2⟩
      ·have hu:(decide (y.jump=2) || decide (y.jump=3))=false:=Zbk;simp only[go_sem,SH,Kf,hu,aV];refine Ie ?_;simp only[go_sem,Kg,hu,aV];exact rest2 (!decide (y.on=0)) _ (by rw[vL,if_pos h1,hn];simp) ZC ZC ZC ZC ZC ZC ZC ZC ZC ZC
      ·have hu:(decide (y.jump=2) || decide (y.jump=3))=true:=ZZ;simp only[go_sem,SH,hu,aV,be,Jad,J3,Jw,Jag];refine T1 lH ZB ZB ?_
       cases ho:decide (0<=y.on/\y.on<=q.ae-1)with
       |true=>
        simp only[go_sem,Kf,aV];refine Ie ?_;simp only[go_sem,Kg,hu,aV];exact rest2 false _ (by rw[vL,if_neg h2,hn,ho];simp) ZC ZC ZC ZC ZC ZC ZC ZC ZC ZC
       |false=>
        simp only[go_sem,Kf,Kg,aV];exact rest2 true _ (by rw[vL,if_neg h2,ho];simp) ZC ZC ZC ZC ZC ZC ZC ZC ZC ZC
     ·simp only[go_sem,Vn,SH,Kf,Kg,aV,Qc,hn,decide_false,Ju];exact rest2 true _ (by rw[vL];simp[hn]) ZC ZC ZC ZC ZC ZC ZC ZC ZC ZC
    ·rintro e2 H8 ⟨kn,hbg,l2,l3,l5,l6,l39,l40,l41⟩;refine Qp ?_;simp only[go_sem,X.next,l2,l3,l5,l6,l39,l40,l41];refine⟨Qs,q.blocks.length-(j+1),ZB,j+1,rfl,ZB,λi hi gL=>?_,kn,rfl⟩;by_cases h:i<j
     ·exact cV i hi h
     ·have:i=j:=ZB;subst this;exact hbg
   ·intro bH;have bh:q.blocks.length<=j:=ZaY;refine Wb ?_;refine Ql ?_;exact retf true _ _ _ (decide_eq_true (by rw[hP];exact⟨by rw[hb];rfl,λb h=>cV b h (by omega)⟩)) kn ZC
 have hH:CP q=(decide (0<=q.params/\q.params<=3)&&decide (q.params<=q.ae/\q.ae<=300)&&decide (1<=(q.blocks.length:Int)/\(q.blocks.length:Int)<=160)):=rfl;by_cases hr:0<=q.ae/\q.ae<=300
 ·have bf:(decide (0<=q.ae)&&decide (q.ae<=300))=true:=Zah
  simp only[go_sem,Va,bf,bq];refine DQ ?_;by_cases hp:0<=q.params/\q.params<=3/\q.params<=q.ae
  ·have cB:(decide (0<=q.params)&&decide (q.params<=if q.ae<3 then q.ae else 3))=true:=by
    split <;> simp <;> omega
   simp only[go_sem,SI,cB,bq,Qn];intro _;refine DQ ?_;simp only[go_sem,SJ];refine rest0 _ _ ?_ ZC ZC ZC ZJ;have a1:decide (0<=q.params/\q.params<=3)=true:=ZG
   have a2:decide (q.params<=q.ae/\q.ae<=300)=true:=ZG
   rw[hH,a1,a2];simp
  ·have cB:(decide (0<=q.params)&&decide (q.params<=if q.ae<3 then q.ae else 3))=false:=by
    split <;> simp <;> omega
   simp only[go_sem,SI,SJ,cB,bq];refine rest0 true _ ?_ ZC ZC ZC ZC;rw[hH];simp;omega
 ·have bf:(decide (0<=q.ae)&&decide (q.ae<=300))=false:=Zah
  simp only[go_sem,Va,SI,SJ,bf,bq];refine rest0 true _ ?_ ZC ZC ZC ZC;rw[hH];simp;omega
theorem S8 {cs:List CodeD}{fl:Bool}(aR:∀c∈cs,c.fits)(hK:∀(H':Heap),Upd H H' []->K (.c (.bool (BP cs))) H') :
  Qr prog Vw [.ag [.sl fl 3 (Qm cs)]] H K:=by
 refine Qy ?_;refine Qd BF Qane ?_;have retf:∀(b:Bool) (e:Env) (H':Heap) (L:Ul),BP cs=b->Kn H H' [] L->lk 2 e=.c (.bool b)->Q4 BH (unK H K) .ret e H':=by
  intro b e H' L hb kn h3;simp only[go_sem,Q4,BE,Jb,forall_eq,RS.op,h3];rw[<-hb];exact⟨_,.c _ _ (Qg rfl),hK _ kn.fin⟩
 have kn:=Kn.an H;refine Wh ?_;simp only[go_sem,Q8];intro cG;refine DQ ?_;simp only[go_sem,IT];refine Wu ?_ ?_
 ·intro hc;have cn:=Dd hc;refine We ?_;exact retf false _ _ _ (Ii λhu=>by have h1:=hu.1;simp at cn;omega) kn ZC
 intro hc;have cn:=Ct hc;have ef:1<=cs.length/\cs.length<=4:=by simp at cn;omega
 refine Zd ?_;refine Wh ?_;simp only[go_sem,Q8];intro _;refine Qh (Qe (Qw (λm e1 H1=>∃(k:Nat),m=cs.length-k/\k<=cs.length/\BU Ci (cs.take k)<=k * (160 * 549755813888)/\(∀(i:Nat) (hi:i<cs.length),i<k->CL cs i hi)/\Kn H H1 [] []/\
  e1=[(1,.c (.pp [.sl fl 3 (Qm cs)])),(3,Uv (BU Ci (cs.take k):Nat)),(12,.c (.sl fl 3 (Qm cs))),(13,.c (Ui cs.length)),(14,Uv k)]) cs.length ?_ ?_))
 ·exact⟨0,ZB,ZB,by simp[BU],λ_ _ h=>ZB,kn,rfl⟩
 ·rintro m e1 H1 ⟨k,hm,hk,hsum,cV,kn,rfl⟩;refine Za ?_;refine Wu ?_ ?_
  ·intro aD;have af:k<cs.length:=ZH
   have qq:=Fl (f:=Ci) af;refine Wm ?_;simp only[go_sem,af,Q8,Do _ _ af,CodeD.cells];obtain⟨q,hq⟩:∃q,cs[k]=q:=⟨_,rfl⟩;have sb:q.fits:=by subst hq;exact aR _ (Jf af)
   rw[hq];intro x5 bq H2 h2;have kn:=kn.al bq h2;have bq:=kn.l 0 rfl;simp only[go_sem,Qk2,bq];intro H3 h3;have kn:Kn H H3 [] ([]++[(x5,.st [Ui q.params,Ui q.ae,.sl false 5 (Qo q.blocks)])]):=kn.aB 0 rfl h3;refine Wa ?_;refine Qbvs af ZB (by rw[hq];exact sb) λH4 hu=>?_;have kn:=kn.aw hu;have bq:=kn.l 0 rfl;simp only[go_sem,S9];refine Wu ?_ ?_
   ·intro bA;have bD:=of_decide_eq_false (Dd bA);refine Wn ?_;exact retf false _ _ _ (Ii λhu=>bD (hu.2.1 k af)) kn ZC
   ·intro bA;have sP:=of_decide_eq_true (Ct bA);have bu:q.blocks.length<=160:=by
     have:=sP.1;rw[hq]at this;simp only[CP,Je,decide_eq_true_eq]at this;omega
    have hcq:Ci q<=160 * 549755813888:=Nat.le_trans (LX sb) (Jap _ bu);have ja:k * (160 * 549755813888)<=4 * (160 * 549755813888):=Jap _ ZB;have iM:(k+1) * (160 * 549755813888)=k * (160 * 549755813888)+160 * 549755813888:=Jbr _ _;rw[hq]at qq;refine Zd ?_;refine Qp ?_;simp only[go_sem,bq];refine Qba2 sb bu λH5 hu=>?_;have kn:=kn.aw hu;simp only[go_sem,Qk4];refine⟨Qs,?_⟩;refine Zg ?_;refine⟨Qs,cs.length-(k+1),ZB,k+1,rfl,ZB,by rw[qq,iM];omega,λi hi AX=>?_,kn.drop,?_⟩
    ·by_cases h:i<k
     ·exact cV i hi h
     ·have:i=k:=ZB;subst this;exact sP
    ·rw[qq];rfl
  ·intro aD;have bh:cs.length<=k:=ZH
   rw[Jc bh];refine Wb ?_;refine Ql ?_;refine retf (decide (((BU Ci cs:Nat):Int)<=800)) _ _ _ ?_ kn ZC;by_cases hs:BU Ci cs<=800
   ·have h1:BP cs=true:=decide_eq_true ⟨ZB,λi hi=>cV i hi ZB,hs⟩;rw[h1];simp;omega
   ·rw[Ii λhu=>hs hu.2.2];simp;omega
end Go.AE.Y
namespace Go.AE.Y
attribute [local instance] Classical.propDecidable
structure Flo where
 n:Nat
 nx:Nat->List Nat
 on:Nat->List Nat
 ins:Nat->List (Option Nat×List Nat)
 ph:Nat->List Nat
 ea:Nat->Nat->List Nat
abbrev RS':=Nat->Prop
def Hq (x:Option Nat×List Nat)(S:RS'):RS':=λr=>r∈x.2\/(S r/\x.1≠some r)
def behL (l:List (Option Nat×List Nat))(S:RS'):RS':=l.foldr Hq S
theorem Qbpn {l:List (Option Nat×List Nat)}{S T:RS'}(h:∀r,S r->T r):∀r,behL l S r->behL l T r:=by
 induction l with
 |nil=>exact h
 |cons x l ih=>
  rintro r (hr|⟨hr,h2⟩)
  ·exact .inl hr
  ·exact .inr ⟨ih r hr,h2⟩
variable {F:Flo}
def Flo.endS (F:Flo)(X:RS')(b:Nat):RS':=λr=>X r\/r∈F.on b
def Flo.beh (F:Flo)(X:RS')(b k:Nat):RS':=behL ((F.ins b).drop k) (F.endS X b)
theorem Flo.beh_end (X:RS')(b k:Nat)(h:(F.ins b).length<=k):F.beh X b k=F.endS X b:=by rw[Flo.beh,List.drop_of_length_le h];rfl
theorem Flo.beh_step (X:RS')(b k:Nat)(h:k<(F.ins b).length):F.beh X b k=Hq (F.ins b)[k] (F.beh X b (k+1)):=by
 rw[Flo.beh,J0 h];rfl
theorem Flo.beh_mono {X Y:RS'}(h:∀r,X r->Y r)(b k:Nat):∀r,F.beh X b k r->F.beh Y b k r:=
 Qbpn λr hr=>hr.elim (λh1=>.inl (h r h1)) .inr
def Flo.outT (F:Flo)(I:Nat->RS')(b:Nat):RS':=λr=>∃m∈F.nx b,I m r\/r∈F.ea b m
def Flo.thru (F:Flo)(X:RS')(b:Nat):RS':=λr=>F.beh X b 0 r/\r∉F.ph b
def Flo.inT (F:Flo)(I:Nat->RS')(b:Nat):RS':=F.thru (F.outT I b) b
theorem Flo.thru_mono {X Y:RS'}(h:∀r,X r->Y r)(b:Nat):∀r,F.thru X b r->F.thru Y b r:=λr hr=>⟨Flo.beh_mono h b 0 r hr.1,hr.2⟩
def Flo.fits (F:Flo):Prop:=∀b,b<F.n->∀m∈F.nx b,m<F.n
variable {I J:Nat->RS'}
theorem Flo.outT_mono (hf:F.fits)(h:∀b,b<F.n->∀r,I b r->J b r){b:Nat}(hb:b<F.n):∀r,F.outT I b r->F.outT J b r:=by
 rintro r ⟨m,hm,h1|h1⟩
 ·exact⟨m,hm,.inl (h m (hf b hb m hm) r h1)⟩
 ·exact⟨m,hm,.inr h1⟩
theorem Flo.inT_mono (hf:F.fits)(h:∀b,b<F.n->∀r,I b r->J b r){b:Nat}(hb:b<F.n):∀r,F.inT I b r->F.inT J b r:=
 Flo.thru_mono (Flo.outT_mono hf h hb) b
def Flo.Pre (F:Flo)(J:Nat->RS'):Prop:=∀b,b<F.n->∀r,F.inT J b r->J b r
def Flo.LI (F:Flo)(b:Nat):RS':=λr=>∀J,F.Pre J->J b r
def Flo.LO (F:Flo)(b:Nat):RS':=F.outT F.LI b
theorem Flo.LI_pre (hf:F.fits):F.Pre F.LI:=λb hb r hr J hJ=>hJ b hb r (Flo.inT_mono hf (λb hb r hr=>hr J hJ) hb r hr)
def Flo.Below (F:Flo)(I:Nat->RS'):Prop:=∀b,b<F.n->∀r,I b r->F.LI b r
theorem Flo.is_least (h1:F.Pre I)(h2:F.Below I){b:Nat}(hb:b<F.n)(r:Nat):I b r↔F.LI b r:=⟨h2 b hb r,λh=>h I h1⟩
theorem Flo.Below.outT (hf:F.fits)(h:F.Below I){b:Nat}(hb:b<F.n):∀r,F.outT I b r->F.LO b r:=Flo.outT_mono hf h hb
theorem Qav8 {a:List Nat}(ha:a.Nodup):∀{b:List Nat},(∀x∈a,x∈b)->a.length<=b.length:=by
 induction a with
 |nil=>intro b _;simp
 |cons x a ih=>
  intro b h;have hx:=h x Jm;have hn:=List.nodup_cons.1 ha;have:=ih hn.2 (b:=b.erase x) λy hy=>(List.mem_erase_of_ne (λhe=>by subst he;exact hn.1 hy)).2 (h y (Jj _ hy));rw[List.length_erase_of_mem hx]at this;have hp:=List.length_pos_of_mem hx;simp only[Jn];omega
theorem Qa2k {a:List Nat}{R:Nat}(ha:a.Nodup)(h:∀x∈a,x<R):a.length<=R:=by
 have:=Qav8 ha (b:=List.range R) λx hx=>Jy.2 (h x hx);simpa using this
end Go.AE.Y
namespace Go.AE.Y
attribute [local go_sem] cond_true cond_false Bool.not_true Bool.not_false
open Go.Proofs.Tryz
variable {H:Heap}{K:Uk}
attribute [local instance] Classical.propDecidable
def CK (x:InsD):Option Nat:=if CQ x.op then some x.to.toNat else none
def toN (l:List Int):List Nat:=l.map Int.toNat
def Mk (q:CodeD)(b m:Nat):List Nat:=(((q.blocks[m]?.map BlkD.ab).getD []).map λp=>(p.args.getD ((Qz (gnx q) (m:Int) q.blocks.length).idxOf (b:Int)) 0).toNat)
def BR (q:CodeD):Flo where
 n:=q.blocks.length
 nx b:=nxN (gnx q) b
 on b:=match q.blocks[b]? with
  |some y=>if y.jump=1 then []else [y.on.toNat]
  |none=>[]
 ins b:=match q.blocks[b]? with
  |some y=>y.ins.map λx=>(CK x,toN x.args)
  |none=>[]
 ph b:=match q.blocks[b]? with
  |some y=>y.ab.map λp=>p.to.toNat
  |none=>[]
 ea:=Mk q
def rIn (q:CodeD)(v:Int):Prop:=0<=v/\v<q.ae
structure BlkD.ok (q:CodeD)(b:Nat)(y:BlkD):Prop where
 nxl:y.next.length<=2
 nx:∀v∈y.next,1<=v/\v<q.blocks.length
 jmp:y.jump=1\/y.jump=2\/y.jump=3
 on:¬y.jump=1->rIn q y.on
 args:∀x∈y.ins,∀v∈x.args,rIn q v
 to:∀x∈y.ins,CQ x.op=true->rIn q x.to
 pto:∀p∈y.ab,rIn q p.to
 pargs:∀p∈y.ab,∀v∈p.args,rIn q v
 pal:∀p∈y.ab,p.args.length=(Qz (gnx q) (b:Int) q.blocks.length).length
 al:∀x∈y.ins,x.args.length<=3
structure CodeD.ok (q:CodeD):Prop where
 r0:0<=q.ae
 r1:q.ae<=300
 b0:0<q.blocks.length
 b1:q.blocks.length<=160
 bs:∀(b:Nat) (h:b<q.blocks.length),q.blocks[b].ok q b
 il:∀(b:Nat) (h:b<q.blocks.length),q.blocks[b].ins.length<=1200/\q.blocks[b].ab.length<=1200
theorem FT {α:Type}{f:α->Nat}{l:List α}{x:α}(h:x∈l):f x<=BU f l:=by
 induction l with
 |nil=>simp at h
 |cons y l ih=>
  simp only[BU,Jw,Jax]at *;rcases Jz.1 h with rfl|h
  ·omega
  ·have:=ih h;omega
theorem EJ {cs:List CodeD}(h:BP cs=true){k:Nat}(hk:k<cs.length):cs[k].ok:=by
 obtain⟨_,h2,h3⟩:=of_decide_eq_true h;obtain⟨g1,g2⟩:=h2 k hk;simp only[CP,Je,decide_eq_true_eq]at g1;refine⟨ZB,ZB,ZB,ZB,λb hb=>?_,λb hb=>?_⟩
 ·have g:=g2 b hb;simp only[Cs,Je]at g;obtain⟨⟨⟨j,nx⟩,ins⟩,ph⟩:=g;simp only[CT,Je,decide_eq_true_eq]at j;obtain⟨j1,j2⟩:=j;rw[J4]at nx ins ph;have hj:(cs[k].blocks[b].jump=1\/cs[k].blocks[b].jump=2\/cs[k].blocks[b].jump=3)/\cs[k].blocks[b].next.length<=2:=by
   rw[Cq]at j1;split at j1
   ·omega
   ·split at j1
    ·omega
    ·split at j1 <;> omega
  have hi:∀x∈cs[k].blocks[b].ins,(∀v∈x.args,rIn cs[k] v)/\(CQ x.op=true->rIn cs[k] x.to):=λx hx=>by
   have:=ins x hx;simp only[Cr,insH,Dc,Je,J4,decide_eq_true_eq,I8 hk]at this;obtain⟨⟨⟨_,a1⟩,a2⟩,_⟩:=this;refine⟨λv hv=>by have:=a1 v hv;exact⟨ZB,ZB⟩,λhm=>?_⟩;rw[insT,hm,if_pos rfl,decide_eq_true_eq]at a2;exact⟨ZB,ZB⟩
  have em:∀x∈cs[k].blocks[b].ins,x.args.length<=3:=λx hx=>by
   have:=ins x hx;simp only[Cr,Je]at this;have h3:=this.2;rw[insL]at h3;split at h3
   ·simp only[Je,decide_eq_true_eq]at h3;have hn:x.n.toNat<cs.length:=ZB;have:=(h2 x.n.toNat hn).1;simp only[CP,Je,decide_eq_true_eq]at this;rw[G2 hn]at h3;omega
   ·simp only[Je,decide_eq_true_eq]at h3;have:=argsN_in (op:=x.op);omega
  have hp:∀p∈cs[k].blocks[b].ab,rIn cs[k] p.to/\(∀v∈p.args,rIn cs[k] v)/\p.args.length=(Qz (gnx cs[k]) (b:Int) cs[k].blocks.length).length:=λp hp=>by
   have:=ph p hp;simp only[phiG,Dc,Je,J4,decide_eq_true_eq,Qn]at this;obtain⟨⟨⟨_,a1⟩,a2⟩,a3⟩:=this;have ll:(λi=>(cs[k].blocks.map BlkD.next).getD i [])=gnx cs[k]:=rfl;rw[ll]at a1;exact⟨⟨ZB,ZB⟩,λv hv=>by have:=a2 v hv;exact⟨ZB,ZB⟩,ZB⟩
  refine⟨hj.2,λv hv=>?_,hj.1,λhn=>?_,λx hx=>(hi x hx).1,λx hx=>(hi x hx).2,λp h=>(hp p h).1,λp h=>(hp p h).2.1,λp h=>(hp p h).2.2,em⟩
  ·have:=nx v hv;simp only[DC,decide_eq_true_eq,Qn]at this;omega
  ·rw[if_neg hn,decide_eq_true_eq]at j2;exact⟨ZB,ZB⟩
 ·have a1:=FT (f:=Ci) (Jf hk);have a2:=FT (f:=Co) (Jf hb);simp only[Ci,Co]at *;omega
variable {q:CodeD}
theorem Qbv7 {b:Nat}(h:b<q.blocks.length):(BR q).on b=if q.blocks[b].jump=1 then []else [q.blocks[b].on.toNat]:=by simp[BR,h]
theorem Qbp6 {b:Nat}(h:b<q.blocks.length):(BR q).ins b=q.blocks[b].ins.map λx=>(CK x,toN x.args):=by simp[BR,h]
theorem Qbv8 {b:Nat}(h:b<q.blocks.length):(BR q).ph b=q.blocks[b].ab.map λp=>p.to.toNat:=by simp[BR,h]
theorem Qbv6 {b m:Nat}(h:m<q.blocks.length):(BR q).ea b m=q.blocks[m].ab.map λp=>(p.args.getD ((Qz (gnx q) (m:Int) q.blocks.length).idxOf (b:Int)) 0).toNat:=by simp[BR,Mk,h]
theorem Ez {b:Nat}(h:b<q.blocks.length):gnx q b=q.blocks[b].next:=by simp[gnx,Ja,h]
theorem CodeD.ok.next (h:q.ok){b m:Nat}(hb:b<q.blocks.length)(hm:m∈(BR q).nx b):m<q.blocks.length/\(m:Int)∈gnx q b:=by
 obtain⟨v,hv,rfl⟩:=Js.1 hm;have iG:=hv;rw[Ez hb]at iG;have:=(h.bs b hb).nx v iG;refine⟨ZB,?_⟩;have e:((v.toNat:Nat):Int)=v:=ZB
 rw[e];exact hv
theorem CodeD.ok.fitsF (h:q.ok):(BR q).fits:=λb hb m hm=>(h.next hb hm).1
theorem CodeD.ok.ix (h:q.ok){b m:Nat}(hb:b<q.blocks.length)(hm:(m:Int)∈gnx q b):(Qz (gnx q) (m:Int) q.blocks.length).idxOf (b:Int)<(Qz (gnx q) (m:Int) q.blocks.length).length:=by
 refine List.idxOf_lt_length_of_mem ?_;simp only[Qz,Js,Jar,Jy];exact⟨b,⟨hb,Jal.2 hm⟩,rfl⟩
theorem IsIx.idx {ns:List Int}{v r:Int}(h:IsIx ns v r)(hm:v∈ns):r=(ns.idxOf v:Nat):=by
 rcases h with ⟨_,hn⟩|⟨i,rfl,h1,h2,h3⟩
 ·exact absurd hm hn
 ·have h4:ns[i]=v:=by rw[<-h2,Ja,Jh h1];rfl
  have h5:ns.idxOf v=i:=by
   have e:ns=ns.take i++ns[i]::ns.drop (i+1):=by rw[<-J0 h1,Jam]
   rw[e,List.idxOf_append,if_neg h3,h4];simp[Jr];omega
  rw[h5]
def Mem (bs:List Bool)(S:RS'):Prop:=∀r,bs.getD r false=true↔S r
theorem Mem.congr {bs:List Bool}{S T:RS'}(h:Mem bs S)(hST:∀r,S r↔T r):Mem bs T:=λr=>(h r).trans (hST r)
theorem R7 (S:List Bool)(x y:Nat)(v:Bool):(S.set x v).getD y false=(if y=x/\x<S.length then v else S.getD y false):=by
 simp only[Ja,Jaj];by_cases h:x=y
 ·subst h;by_cases h2:x<S.length <;> simp[h2]
 ·have:¬y=x:=λe=>h e.symm;simp[h,this]
theorem Mem.ins {bs:List Bool}{S:RS'}(h:Mem bs S){x:Nat}(hx:x<bs.length):Mem (bs.set x true) (λr=>r=x\/S r):=λr=>by
 rw[R7];by_cases hr:r=x
 ·simp[hr,hx]
 ·simp only[hr,false_and,if_false,false_or];exact h r
theorem Mem.del {bs:List Bool}{S:RS'}(h:Mem bs S){x:Nat}(hx:x<bs.length):Mem (bs.set x false) (λr=>S r/\r≠x):=λr=>by
 rw[R7];by_cases hr:r=x
 ·simp[hr,hx]
 ·simp only[hr,false_and,if_false,ne_eq,not_false_eq_true,and_true];exact h r
theorem Mem.lt {bs:List Bool}{S:RS'}(h:Mem bs S){r:Nat}(hr:S r):r<bs.length:=by
 have:=(h r).2 hr;refine Classical.byContradiction λhn=>?_;rw[Ja,Jp ZB]at this;exact absurd this ZD
theorem Mem.none (n:Nat):Mem (List.replicate n false) λ_=>False:=λr=>by
 rw[Ja,Jaw];split <;> simp
end Go.AE.Y
namespace Go.AE.Y
attribute [local go_sem] cond_true cond_false Bool.not_true Bool.not_false
open Go.Proofs.Tryz
variable {H H0:Heap}{K:Uk}{E L:Ul}
def De (x:InsD):Int:=if CQ x.op then x.to else -1
theorem M5 {x:InsD}(hK:K (Uv (De x)) H):Qr prog Q70 [.ag x.cells] H K:=by
 refine Qd BF Qbb2 ?_;refine Zz ?_;refine Wa ?_;refine IH ?_;refine Wu ?_ ?_
 ·intro hc;refine Za ?_;refine Zf ?_;rw[De,hc,if_pos rfl]at hK;exact hK
 ·intro hc;refine Zc ?_
  refine Za ?_;refine Zf ?_;rw[De,hc,if_neg ZD]at hK;exact hK
theorem Xn {l:List Int}{a:Nat}(h:a<l.length):(toN l).take (a+1)=(toN l).take a++[(l.getD a 0).toNat]:=by
 have h':a<(toN l).length:=by simpa[toN]using h
 rw[Jg h'];simp[toN,Ja,h]
theorem Ir {l:List Int}{a:Nat}(h:a<l.length):l.getD a 0∈l:=by
 rw[Ja,Jh h];exact Jf h
theorem rIn.nat {q:CodeD}{v:Int}(h:rIn q v):v=(v.toNat:Int)/\v.toNat<q.ae.toNat:=by obtain⟨a,b⟩:=h;omega
structure CodeR (F:Heap)(X:List Nat)(bc:C)(q:CodeD):Prop where
 ow:bc.ai=false
 s:∀H1:Heap,(∀m,F m≠.none->m∉X->H1 m=F m)->Slc H1 5 (Qo q.blocks) bc
theorem CodeR.sl (F:Heap)(X:List Nat)(fl:Bool)(q:CodeD):CodeR F X (.sl fl 5 (Qo q.blocks)) q:=⟨rfl,λ_ _=>.mk' _ _ _ _⟩
theorem CodeR.rd {F H:Heap}{X:List Nat}{bc:C}{q:CodeD}{E L:Ul}(h:CodeR F X bc q)(kn:Kn F H E L)(hX:∀x∈E.map Prod.fst,x∈X):Slc H 5 (Qo q.blocks) bc:=
 h.s H λm hm hx=>kn.chg m hm λhh=>hx (hX m hh)
theorem CodeR.facts {F H:Heap}{X:List Nat}{bc:C}{q:CodeD}{E L:Ul}(h:CodeR F X bc q)(kn:Kn F H E L)(hX:∀x∈E.map Prod.fst,x∈X) :
  aZ H bc=True/\ay bc=q.blocks.length/\bc.aP=5/\rowsOf H bc=Qo q.blocks:=
 have s:=h.rd kn hX
 ⟨eq_true s.ok,by rw[s.len,Qn],s.sz,s.rows⟩
theorem CodeR.mid {F H:Heap}{bc:C}{q:CodeD}{L:Ul}(h:CodeR F [] bc q)(kn:Kn F H [] L):CodeR H (L.map Prod.fst) bc q:=
 ⟨h.ow,λH1 hh=>h.s H1 λm hm _=>by
  have h1:=kn.chg m hm ZD;rw[hh m (by rw[h1];exact hm) λhx=>?_,h1];obtain⟨p,hp,he⟩:=Js.1 hx;exact hm (he▸kn.loc p hp)⟩
theorem CodeR.nil {F:Heap}{X:List Nat}{bc:C}{q:CodeD}(h:CodeR F X bc q):CodeR F [] bc q:=⟨h.ow,λH1 hh=>h.s H1 λm hm _=>hh m hm ZD⟩
theorem CodeR.ah {F:Heap}{X:List Nat}{q:CodeD}{z:Nat}(hz:F z=.vec 5 (Qo q.blocks))(hX:z∉X):CodeR F X (.ah z 5 0 q.blocks.length) q:=
 ⟨rfl,λH1 hh=>by
  have h1:H1 z=.vec 5 (Qo q.blocks):=by rw[hh z Zbg hX,hz]
  exact⟨by simp only[aZ,h1,Qn];exact⟨trivial,ZB⟩,rfl,by simp only[rowsOf,h1,J6];exact Jc (by rw[Qn];exact Jl _),by simp only[ay,Qn]⟩⟩
theorem Qbbh {q:CodeD}{bc:C}{ic oc cb:C}{orows:List (List C)}{b:Nat}{i:Int}{bs:List Bool}{W:RS'}(ho:q.ok)(dB:CodeR H [] bc q)(hb:b<q.blocks.length)(hi:-1<=i)(ov:i<q.blocks[b].ins.length)
  (kn:Kn H0 H E L) (hs:Slc H 1 orows oc) (bt:oc.ai=false) (ot:ic.ai=false) (bu:b<orows.length) (aC:orows.getD b []=[cb]) (fK:Slc H 1 (Qv bs) cb) (sy:cb.ai=false) (am:bs.length=q.ae.toNat) (hm:Mem bs W)
  (hK:∀y bs' H',bs'.length=q.ae.toNat->Mem bs' ((BR q).beh W b (i+1).toNat)->Kn H0 H' E (L++[(y,.vec 1 (Qv bs'))])->K (.c (.ah y 1 0 q.ae.toNat)) H') :
  Qr prog Q7t [.ag [Ui q.params,Ui q.ae,bc],.ag [ic,oc],Uv b,Uv i] H K:=by
 have bE:=ho.r0;have cI:=ho.r1;obtain⟨y,hy⟩:∃y,q.blocks[b]=y:=⟨_,rfl⟩;have cz:y.ok q b:=by rw[<-hy];exact ho.bs b hb
 have cM:y.ins.length<=1200/\y.ab.length<=1200:=by rw[<-hy];exact ho.il b hb
 rw[hy]at ov;have xS:(BR q).on b=if y.jump=1 then []else [y.on.toNat]:=by rw[Qbv7 hb,hy]
 have jc:(BR q).ins b=y.ins.map λx=>(CK x,toN x.args):=by rw[Qbp6 hb,hy]
 have ax:=eq_true hs.ok;have eS:=hs.len;have hoz:=hs.sz;have kx:=hs.rows;have iw:=eq_true fK.ok;have xT:=fK.len;have xM:=fK.sz;have xR:=fK.rows;refine Qd BF Qbbu ?_;refine Qa ?_;have gQ:=dB.ow;simp only[go_sem];refine Qa ?_;simp only[go_sem,bt,sy,ax,eS,hoz,kx,bu,aC,iw,xT,xM,xR,Q3,am,J3,Jo,Jq];refine⟨.inl trivial,S3 _,by simp only[LIM];omega,λy9 ik H1 h1=>?_⟩;have kn:=kn.al ik h1;simp only[go_sem,Dp];refine Qa ?_;have kL:=dB.s H1 λm hm _=>by
  have bd:m≠y9:=λhh=>hm (by rw[hh];exact ik);rw[h1,Heap.aj _ _ bd]
 have b8:=eq_true kL.ok;have gS:=kL.len;have i9:=kL.sz;have fL:=kL.rows;simp only[go_sem,gQ,b8,gS,i9,fL,hb,Qn,Cy _ _ hb,BlkD.cells,hy];intro x10 bM H2 h2;have kn:=kn.al bM h2;have bM:=kn.l (L++[(y9,Obj.vec 1 (Qv bs))]).length (l:=x10) (o:=.st [.sl true 2 [],.sl true 4 [],Ui 0,Ui 0,.sl true 1 []]) ZD;simp only[go_sem,Qyr,bM];intro H3 h3;have kn:Kn H0 H3 E ((L++[(y9,.vec 1 (Qv bs))])++[(x10,blkC y)]):=by
  have:=kn.aB (L++[(y9,Obj.vec 1 (Qv bs))]).length (x:=x10) (o:=.st [.sl true 2 [],.sl true 4 [],Ui 0,Ui 0,.sl true 1 []]) ZD h3;simpa[blkC]using this
 have getx:∀{bs1:List Bool} {H4:Heap},Kn H0 H4 E ((L++[(y9,.vec 1 (Qv bs1))])++[(x10,blkC y)])->H4 x10=.st [.sl false 2 (Q6 y.ab),.sl false 4 (BJ y.ins),Ui y.jump,Ui y.on,.sl false 1 (Qb y.next)]/\H4 y9=.vec 1 (Qv bs1):=λ{bs1 H4} kn=>
  ⟨(kn.get (x10,blkC y) ZD).1,(kn.get (y9,.vec 1 (Qv bs1)) ZD).1⟩
 have putx:∀{bs1 bs2:List Bool} {H4 H5:Heap},Kn H0 H4 E ((L++[(y9,.vec 1 (Qv bs1))])++[(x10,blkC y)])->H5=H4.set y9 (.vec 1 (Qv bs2))->Kn H0 H5 E ((L++[(y9,.vec 1 (Qv bs2))])++[(x10,blkC y)]):=λ{bs1 bs2 H4 H5} kn h=>by
  have:=kn.aB L.length (x:=y9) (o:=.vec 1 (Qv bs1)) ZD h;simpa using this
 have bF:∀(bs1:List Bool),bs1.length=q.ae.toNat->(Qv bs1).take q.ae.toNat=Qv bs1:=λbs1 h=>Jc Zan;refine Q1 (Qa ?_);obtain⟨bM,ik⟩:=getx kn;simp only[go_sem,bM];refine Ck (λe2 H4=>∃(bs1:List Bool),bs1.length=q.ae.toNat/\Mem bs1 ((BR q).endS W b)/\Kn H0 H4 E ((L++[(y9,.vec 1 (Qv bs1))])++[(x10,blkC y)])/\
  lk 3 e2=Uv i/\lk 9 e2=.c (.ah y9 1 0 q.ae.toNat)/\lk 10 e2=Up x10) ?_ ?_
 ·intro Q bB _ _;refine Wv ?_ ?_
  ·intro hc;have hj:¬y.jump=1:=ZE
   obtain⟨hv,bN⟩:=(cz.on hj).nat;have fh:y.on.toNat<bs.length:=ZB
   generalize hr:y.on.toNat=r at *;refine Qp ?_;simp only[go_sem,bM,ik,hv,bN,Q3,am,Et,Q7 _ _ fh,Jq,Jl];intro H4 h4;refine bB _ _ ⟨_,by rw[Jk];exact am,?_,putx kn h4,rfl,rfl,rfl⟩;refine (hm.ins ZB).congr λz=>?_;rw[Flo.endS,xS,if_neg hj];simp[or_comm]
  ·intro hc;have hj:y.jump=1:=ZE
   refine Zc ?_
   refine bB _ _ ⟨bs,am,?_,kn,rfl,rfl,rfl⟩;refine hm.congr λz=>?_;rw[Flo.endS,xS,if_pos hj];simp
 ·rintro e2 H4 ⟨bs1,am,hm,kn,l3,l9,l10⟩;obtain⟨bM,ik⟩:=getx kn;refine Q1 (Qa ?_);simp only[go_sem,l3,l9,l10,bM,Cv];intro _;refine⟨Qs,?_⟩;refine Qh (Qe (Qw (λm e1 H1=>∃(k:Nat) (j:Int) (bs1:List Bool),m=k/\k<=y.ins.length/\i+1<=k/\j=(k:Int)-1/\bs1.length=q.ae.toNat/\Mem bs1 ((BR q).beh W b k)/\Kn H0 H1 E ((L++[(y9,.vec 1 (Qv bs1))])++[(x10,blkC y)])/\
   e1=[(3,Uv i),(9,.c (.ah y9 1 0 q.ae.toNat)),(10,Up x10),(11,Uv j)]) y.ins.length ?_ ?_))
  ·refine⟨y.ins.length,_,bs1,rfl,Jl _,ZB,rfl,am,hm.congr λz=>?_,kn,rfl⟩;rw[Flo.beh_end _ _ _ (by rw[jc,Jah];exact Jl _)]
  ·rintro m e1 H5 ⟨k,j,bs1,rfl,hk,AX,um,am,hm,kn,rfl⟩;obtain⟨bM,ik⟩:=getx kn;refine Wa ?_;refine Wu ?_ ?_
   ·intro hc;have px:i<j:=ZE;obtain⟨k,rfl⟩:∃k',m=k'+1:=⟨m-1,ZB⟩;have hj:j=(k:Int):=ZB;subst hj;have cg:k<y.ins.length:=ZB;obtain⟨x,hx⟩:∃x,y.ins[k]=x:=⟨_,rfl⟩;have jQ:x∈y.ins:=(by rw[<-hx];exact Jf cg);have jU:(BR q).beh W b k=Hq (CK x,toN x.args) ((BR q).beh W b (k+1)):=by
     rw[Flo.beh_step _ _ _ (by rw[jc,Jah];exact cg)];simp only[jc,Jaz,hx]
    refine Zc ?_
    refine Ck (λe2 H6=>∃(bs2:List Bool),bs2.length=q.ae.toNat/\Mem bs2 ((BR q).beh W b k)/\Kn H0 H6 E ((L++[(y9,.vec 1 (Qv bs2))])++[(x10,blkC y)])/\
     lk 3 e2=Uv i/\lk 9 e2=.c (.ah y9 1 0 q.ae.toNat)/\lk 10 e2=Up x10/\lk 11 e2=Uv k) ?_ ?_
    ·intro Q bB _ _;refine Qe (Qa ?_);simp only[go_sem,bM,cg,Cv,E6 _ _ cg,InsD.cD,InsD.bv,InsD.len4,hx];refine M5 ?_;simp only[go_sem,Qys];refine Wa ?_;refine Ck (λe2 H6=>∃(bs2:List Bool),bs2.length=q.ae.toNat/\Mem bs2 (λr=>(BR q).beh W b (k+1) r/\CK x≠some r)/\Kn H0 H6 E ((L++[(y9,.vec 1 (Qv bs2))])++[(x10,blkC y)])/\
      lk 3 e2=Uv i/\lk 9 e2=.c (.ah y9 1 0 q.ae.toNat)/\lk 10 e2=Up x10/\lk 11 e2=Uv k) ?_ ?_
     ·intro Q bB _ _;refine Wv ?_ ?_
      ·intro aD;have di:CQ x.op=true:=by
        cases di:CQ x.op with
        |true=>rfl
        |false=>simp[De,di]at aD
       obtain⟨hv,bN⟩:=(cz.to x jQ di).nat;have fh:x.to.toNat<bs1.length:=ZB;have nq:De x=x.to:=(by rw[De,di];rfl);have eM:CK x=some x.to.toNat:=(by rw[CK,di];rfl);rw[nq];rw[eM]at bB;generalize hr:x.to.toNat=r at *;refine Qp ?_;simp only[go_sem,ik,hv,bN,Q3,am,Et,Q7 _ _ fh,Jq,Jl];intro H6 h6;refine bB _ _ ⟨_,by rw[Jk];exact am,?_,putx kn h6,rfl,rfl,rfl,rfl⟩;refine (hm.del ZB).congr λz=>?_;simp[eq_comm]
      ·intro aD;have di:CQ x.op=false:=by
        cases di:CQ x.op with
        |false=>rfl
        |true=>
         have:=(cz.to x jQ di).1;simp[De,di]at aD;omega
       have eM:CK x=none:=(by rw[CK,di];rfl);rw[eM]at bB;refine Zc ?_
       exact bB _ _ ⟨bs1,am,hm.congr λz=>ZD,kn,rfl,rfl,rfl,rfl⟩
     ·rintro e2 H6 ⟨bs2,am,hm,kn,l3,l9,l10,l11⟩;refine Qa ?_;simp only[go_sem,l3,l9,l10,l11];refine Qe (Qw (λm e1 H1=>∃(a:Nat) (bs2:List Bool),m=x.args.length-a/\a<=x.args.length/\bs2.length=q.ae.toNat/\Mem bs2 (λr=>r∈(toN x.args).take a\/((BR q).beh W b (k+1) r/\CK x≠some r))/\Kn H0 H1 E ((L++[(y9,.vec 1 (Qv bs2))])++[(x10,blkC y)])/\
       e1=[(3,Uv i),(9,.c (.ah y9 1 0 q.ae.toNat)),(10,Up x10),(11,Uv k),(13,Uv a)]) x.args.length ?_ ?_)
      ·exact⟨0,bs2,ZB,ZB,am,hm.congr λz=>ZD,kn,rfl⟩
      ·rintro m2 e1 H7 ⟨a,bs2,fw,ha,am,hm,kn,rfl⟩;obtain⟨bM,ik⟩:=getx kn;refine Q1 (Qa ?_);simp only[go_sem,bM,cg,Cv,E6 _ _ cg,InsD.cells,hx,Qc];intro em;simp only[LIM]at em;refine Wu ?_ ?_
       ·intro aD;have af:a<x.args.length:=ZH;obtain⟨hv,bN⟩:=(cz.args x jQ _ (Ir af)).nat;have gC:=Xn af;have fh:(x.args.getD a 0).toNat<bs2.length:=ZB;generalize hr:(x.args.getD a 0).toNat=r at *;refine Zc ?_
        refine Wt ?_;simp only[go_sem,bM,ik,cg,Cv,E6 _ _ cg,InsD.cells,hx,af,Qc,Qk _ _ af,hv,bN,Q3,am,Et,Q7 _ _ fh,Jq,Jl];intro H8 h8;refine Zg ?_;refine⟨Qs,x.args.length-(a+1),ZB,a+1,_,rfl,ZB,by rw[Jk];exact am,?_,putx kn h8,rfl⟩;refine (hm.ins ZB).congr λz=>?_;rw[gC];simp only[Ji,Jb];constructor
        ·rintro (h|h|h)
         ·exact .inl (.inr h)
         ·exact .inl (.inl h)
         ·exact .inr h
        ·rintro ((h|h)|h)
         ·exact .inr (.inl h)
         ·exact .inl h
         ·exact .inr (.inr h)
       ·intro aD;have bh:x.args.length<=a:=ZH;refine Zb ?_;refine bB _ _ ⟨bs2,am,hm.congr λz=>?_,kn,rfl,rfl,rfl,rfl⟩;rw[jU,Jc (by simpa[toN]using bh)];rfl
    ·rintro e2 H6 ⟨bs2,am,hm,kn,l3,l9,l10,l11⟩;refine Qp ?_;simp only[go_sem,X.next,l3,l9,l10,l11];exact⟨Qs,k,ZB,k,(k:Int)-1,bs2,rfl,ZB,ZB,rfl,am,hm,kn,rfl⟩
   ·intro hc;have aS:¬i<j:=ZE;refine Wo ?_;have e1:(i+1).toNat=m:=ZB;exact hK y9 bs1 H5 am (by rw[e1];exact hm) kn.drop
end Go.AE.Y
namespace Go.AE.Y
attribute [local go_sem] cond_true cond_false Bool.not_true Bool.not_false
open Go.Proofs.Tryz
variable {H H0 F:Heap}{K:Uk}{E L:Ul}
structure SetO where
 c:C
 lg:Ul
 ks:List Nat
structure SetO.ok (R:Nat)(s:SetO):Prop where
 nd:s.ks.Nodup
 lt:∀x∈s.ks,x<R
 m:(s.c=.mnil/\s.lg=[]/\s.ks=[])\/∃M ver,s.c=.mp M/\s.lg=[(M,.map ver (Qb6q s.ks))]
theorem SetO.ok.ai {R:Nat}{s:SetO}(h:s.ok R):s.c.ai=false:=by rcases h.m with ⟨h,_⟩|⟨M,ver,h,_⟩ <;> rw[h] <;> rfl
theorem SetO.ok.len {R:Nat}{s:SetO}(h:s.ok R):s.ks.length<=R:=Qa2k h.nd h.lt
end Go.AE.Y
namespace Go.AE.Y
attribute [local instance] Classical.propDecidable
def tab (zs:List (Nat×List Bool))(b:Nat):RS':=λr=>(((zs[b]?).map Prod.snd).getD []).getD r false=true
variable {zs zi zo:List (Nat×List Bool)}{F:Flo}
theorem GH {b:Nat}(h:b<zs.length)(r:Nat):tab zs b r↔zs[b].2.getD r false=true:=by simp[tab,h]
theorem KG {b:Nat}{x:Nat×List Bool}(h:b<zs.length)(r:Nat):tab (zs.set b x) b r↔x.2.getD r false=true:=by simp[tab,h]
theorem ID {b c:Nat}{x:Nat×List Bool}(h:c≠b):tab (zs.set b x) c=tab zs c:=by
 funext r
 simp only[tab];rw[Ja5 (λe=>h e.symm)]
theorem Me {α:Type}{l:List α}{i:Nat}{x:α}(h:l[i]? = some x):l.set i x=l:=by
 have hi:=(List.getElem?_eq_some_iff.1 h).1;refine Jbf λj=>?_;rw[Jaj];by_cases gL:i=j
 ·subst gL;rw[if_pos rfl,if_pos hi,h]
 ·rw[if_neg gL]
theorem Ic {a b:List Bool}(hl:a.length=b.length)(h:∀r,a.getD r false=true->b.getD r false=true):cnt a<=cnt b/\(∀r,a.getD r false≠b.getD r false->cnt a<cnt b):=by
 induction a generalizing b with
 |nil=>
  cases b with
  |nil=>exact⟨Jl _,λr hr=>absurd rfl hr⟩
  |cons=>simp at hl
 |cons x a ih=>
  cases b with
  |nil=>simp at hl
  |cons y b=>
   have ih':=ih (b:=b) Zaj λr hr=>by have:=h (r+1);simpa using this Zah
   have h0:x=true->y=true:=by have:=h 0;simpa using this
   have hc:∀(z:Bool) (l:List Bool),cnt (z::l)=cnt l+(if z=true then 1 else 0):=λz l=>by
    simp only[cnt,Jbm];cases z <;> simp
   rw[hc,hc];refine⟨?_,λr hr=>?_⟩
   ·cases x with
    |false=>have:=ih'.1;cases y <;> simp <;> omega
    |true=>rw[h0 rfl];have:=ih'.1;simp;omega
   ·cases r with
    |zero=>
     have pP:x≠y:=Zah
     cases x with
     |true=>exact absurd (h0 rfl).symm pP
     |false=>
      cases y with
      |false=>exact absurd rfl pP
      |true=>have:=ih'.1;simp;omega
    |succ r=>
     have:=ih'.2 r Zah
     cases x with
     |false=>cases y <;> simp <;> omega
     |true=>rw[h0 rfl];simp;omega
def Ca (zs:List (Nat×List Bool)):Nat:=(zs.map λp=>cnt p.2).sum
theorem KF {b:Nat}{x:Nat×List Bool}(h:b<zs.length):Ca (zs.set b x)+cnt zs[b].2=Ca zs+cnt x.2:=by
 induction zs generalizing b with
 |nil=>simp at h
 |cons z zs ih=>
  cases b with
  |zero=>simp[Ca];omega
  |succ b=>
   have:=ih (b:=b) ZL;simp only[Ca,Jbc,Jw,Jax,List.getElem_cons_succ]at this⊢;omega
theorem Gg {R:Nat}(h:∀p∈zs,p.2.length=R):Ca zs<=zs.length * R:=by
 induction zs with
 |nil=>simp[Ca]
 |cons z zs ih=>
  have h1:=G0 z.2;rw[h z Jm]at h1;have h2:=ih λp hp=>h p (Jj _ hp);simp only[Ca,Jw,Jax,Jn,Jbr]at *;omega
structure LvInv (F:Flo)(zi zo:List (Nat×List Bool)):Prop where
 bi:∀b,b<F.n->∀r,tab zi b r->F.LI b r
 bo:∀b,b<F.n->∀r,tab zo b r->F.LO b r
 post:∀b,b<F.n->∀r,tab zi b r->F.thru (tab zo b) b r
def LvCl (F:Flo)(zi zo:List (Nat×List Bool))(b:Nat):Prop:=(∀r,F.outT (tab zi) b r->tab zo b r)/\∀r,F.thru (tab zo b) b r->tab zi b r
theorem LvInv.done (h:LvInv F zi zo)(hf:F.fits)(hc:∀b,b<F.n->LvCl F zi zo b):∀b,b<F.n->∀r,(tab zi b r↔F.LI b r)/\(tab zo b r↔F.LO b r):=by
 have hp:F.Pre (tab zi):=λb hb r hr=>(hc b hb).2 r (Flo.thru_mono (hc b hb).1 b r hr);intro b hb r;refine⟨Flo.is_least hp h.bi hb r,h.bo b hb r,λhr=>(hc b hb).1 r ?_⟩;exact Flo.outT_mono hf (λc hc r hr=>(Flo.is_least hp h.bi hc r).2 hr) hb r hr
theorem LvInv.step {R z w y b:Nat}{bs bw bs1 nb:List Bool}{a a1 a2:Bool}(h:LvInv F zi zo)(hf:F.fits)(hb:b<F.n)(cM:zi.length=F.n)(eS:zo.length=F.n)(hRi:∀p∈zi,p.2.length=R)(hRo:∀p∈zo,p.2.length=R)
  (qV:bs1.length=R) (qU:nb.length=R) (pM:zo[b]? = some (z,bs)) (oI:zi[b]? = some (w,bw))
  (g1:∀r,bs.getD r false=true->bs1.getD r false=true) (g2:∀r,bs1.getD r false=true->F.LO b r) (g3:∀r,F.outT (tab zi) b r->bs1.getD r false=true)
  (g4:∀r,nb.getD r false=true↔F.thru (λr=>bs1.getD r false=true) b r)
  (k1:a1=true->a=true\/cnt bs<cnt bs1) (k2:a1=false->a=false/\bs1=bs)
  (k3:a2=true->a1=true\/∃r,nb.getD r false≠bw.getD r false) (k4:a2=false->a1=false/\∀r,r<R->nb.getD r false=bw.getD r false) :
  LvInv F (zi.set b (y,nb)) (zo.set b (z,bs1))/\Ca zi+Ca zo<=Ca (zi.set b (y,nb))+Ca (zo.set b (z,bs1))/\
   (a2=true->a=true\/Ca zi+Ca zo<Ca (zi.set b (y,nb))+Ca (zo.set b (z,bs1)))/\
   (a2=false->a=false/\LvCl F (zi.set b (y,nb)) (zo.set b (z,bs1)) b/\∀c,LvCl F zi zo c->LvCl F (zi.set b (y,nb)) (zo.set b (z,bs1)) c):=by
 have cK:b<zi.length:=ZB
 have cQ:b<zo.length:=ZB
 have ezo:zo[b]=(z,bs):=by rw[Jh cQ]at pM;simpa using pM
 have ezi:zi[b]=(w,bw):=by rw[Jh cK]at oI;simpa using oI
 have pk:bs.length=R:=hRo (z,bs) (by rw[<-ezo];exact Jf cQ);have mr:bw.length=R:=hRi (w,bw) (by rw[<-ezi];exact Jf cK);have tzo:∀r,tab zo b r↔bs.getD r false=true:=λr=>by rw[GH cQ,ezo]
 have tzi:∀r,tab zi b r↔bw.getD r false=true:=λr=>by rw[GH cK,ezi]
 have tzo':∀r,tab (zo.set b (z,bs1)) b r↔bs1.getD r false=true:=λr=>KG cQ r;have tzi':∀r,tab (zi.set b (y,nb)) b r↔nb.getD r false=true:=λr=>KG cK r;have jA:∀r,bw.getD r false=true->nb.getD r false=true:=λr hr=>by
  rw[g4];exact Flo.thru_mono (λr hr=>g1 r ((tzo r).1 hr)) b r (h.post b hb r ((tzi r).2 hr))
 have c1:=Ic (a:=bs) (b:=bs1) ZB g1;have c2:=Ic (a:=bw) (b:=nb) ZB jA;have t1:=KF (zs:=zo) (x:=(z,bs1)) cQ;have t2:=KF (zs:=zi) (x:=(y,nb)) cK;rw[ezo]at t1;rw[ezi]at t2;simp only at t1 t2;refine⟨⟨λc hc r hr=>?_,λc hc r hr=>?_,λc hc r hr=>?_⟩,by have:=c1.1;have:=c2.1;omega,λha=>?_,λha=>?_⟩
 ·by_cases fK:c=b
  ·subst fK;rw[tzi',g4]at hr;exact Flo.LI_pre hf c hb r (Flo.thru_mono g2 c r hr)
  ·rw[ID fK]at hr;exact h.bi c hc r hr
 ·by_cases fK:c=b
  ·subst fK;rw[tzo']at hr;exact g2 r hr
  ·rw[ID fK]at hr;exact h.bo c hc r hr
 ·by_cases fK:c=b
  ·subst fK;rw[tzi',g4]at hr;exact Flo.thru_mono (λr hr=>(tzo' r).2 hr) c r hr
  ·rw[ID fK]at hr⊢;exact h.post c hc r hr
 ·rcases k3 ha with h1|⟨r,hr⟩
  ·rcases k1 h1 with h2|h2
   ·exact .inl h2
   ·right;have:=c2.1;omega
  ·right;have:=c2.2 r (λe=>hr e.symm);have:=c1.1;omega
 ·obtain⟨h1,h2⟩:=k4 ha;obtain⟨h3,h4⟩:=k2 h1;have oe:∀r,nb.getD r false=bw.getD r false:=λr=>by
   by_cases hr:r<R
   ·exact h2 r hr
   ·rw[Ja,Ja,Jp ZB,Jp ZB]
  have ti:tab (zi.set b (y,nb))=tab zi:=by
   funext c r
   by_cases fK:c=b
   ·subst fK;refine propext ?_;rw[tzi',tzi,oe]
   ·rw[ID fK]
  have to:tab (zo.set b (z,bs1))=tab zo:=by
   funext c r
   by_cases fK:c=b
   ·subst fK;refine propext ?_;rw[tzo',tzo,h4]
   ·rw[ID fK]
  refine⟨h3,⟨λr hr=>?_,λr hr=>?_⟩,λc hc=>?_⟩
  ·rw[ti]at hr;exact (tzo' r).2 (g3 r hr)
  ·rw[tzi',g4];exact Flo.thru_mono (λr hr=>(tzo' r).1 hr) b r hr
  ·rw[LvCl,ti,to];exact hc
end Go.AE.Y
