/- Part 4 of the proof: the engine, codes, walks and plain laws, each named where it stands. -/
import Derived.Test.YtldooelffjcbmaaGreatZC
import Derived.Shelf.Sort.Plain
import Derived.Shelf.Sort.So_math_bits_LenIn
open Nat (reduceEqDiff reduceAdd reduceLeDiff reduceLT)
set_option linter.unusedVariables false
set_option linter.unusedSimpArgs false
set_option maxRecDepth 4000
namespace Go.AE.Y
open Go.Proofs.Tryz
variable {H:Heap}{K:V→Heap→Prop}
set_option maxHeartbeats 2000000 in
theorem Qbla {fns:List Fn}{fl:Bool}{k:Nat}(hk:k<fns.length)(hpl:fns[k].params.length≤3)(hbo:Qct fns[k].body)(hbs:Qz fns[k].body≤2^34)
  (hK:∀(c:CodeD) (H':Heap),Upd H H' []→c.fits→K (.ag c.cells) H'):Qp prog Qayc [.ag [.sl fl 3 (Qb3 fns)],.c (.int .i64 k)] H K:=by
 refine Qu ?_
 refine Qb Qai Qblg ?_
 refine Qa ?_
 simp only[go_sem]
 intro x4 hx4 H1 h1
 have kn:=(Kn.start0 H).al hx4 h1
 refine Qa ?_
 simp only[go_sem,hk,Qba,Qg9 _ _ hk,Fn.take3,Fn.allOw,Fn.cells_len]
 generalize fns[k]=f at *
 intro x5 hx5 H2 h2
 have kn:=kn.al hx5 h2
 have hx52:=kn.l 1 rfl
 simp only[go_sem,Qawu,hx52,Fn.cells]
 intro H3 h3
 have kn:Kn H H3 [] [(x4,.st [.int .i64 0,.int .i64 0,.sl true 5 []]),(x5,.st [.str f.name,.sl false 1 (Qbb f.params),.sl false 5 (Qau f.body)])]:=kn.stL 1 rfl h3
 have hx43:=kn.l 0 rfl
 have hx53:=kn.l 1 rfl
 have h45:=kn.neL 0 1 rfl rfl (by decide)
 refine Qa ?_
 simp only[go_sem,hx53,Qao]
 intro hpl2 w hw H4 h4
 have h:LInv H3 H4 w ⟨fns,fl,0,0,.sl true 5 [],[],[],0,.sl true 3 [],[],[],f.params.length⟩:=
  ⟨(Kn.start0 H3).al hw h4,.nil 5,.inl ⟨rfl,rfl,rfl⟩,by simp,by simp,by simp⟩
 have hfr:∀(s:LS) (H':Heap),LInv H3 H' w s→H' x4=.st [.int .i64 0,.int .i64 0,.sl true 5 []]∧H' x5=.st [.str f.name,.sl false 1 (Qbb f.params),.sl false 5 (Qau f.body)]:=fun s H' h'=>
  ⟨by rw[h'.kn.chg x4 (by rw[hx43];simp) (by simp),hx43],by rw[h'.kn.chg x5 (by rw[hx53];simp) (by simp),hx53]⟩
 have hx54:=(hfr _ _ h).2
 have hw4:=h.hw
 simp only[go_sem,Qawv]
 refine Qa ?_
 simp only[go_sem,hx54,hw4,LS.o,Qao]
 intro _ H5 h5
 have h:=h.setw (s':=⟨fns,fl,f.params.length,0,.sl true 5 [],[],[],0,.sl true 3 [],[],[],f.params.length⟩) h5 rfl rfl rfl rfl h.gv h.rv
 have hx55:=(hfr _ _ h).2
 refine Qae ?_
 simp only[go_sem,hx55,Qao]
 refine Qbe9 _ f.body (Nat.le_refl _) (by omega) fun v hv=>?_
 have hw5:=h.hw
 simp only[go_sem,Qaww,hx55,hw5,LS.o,Qao]
 refine⟨Qr (by omega) (by omega),fun H6 h6=>?_⟩
 have h:=h.setw (s':=⟨fns,fl,f.params.length,(f.params.length:Int)+v,.sl true 5 [],[],[],0,.sl true 3 [],[],[],f.params.length⟩) h6 rfl rfl rfl rfl h.gv h.rv
 refine Q5 ?_
 refine Qa ?_
 simp only[go_sem]
 refine Qi (Qf (Qx (fun n e1 H1=>∃(i:Nat) (s':LS),n=f.params.length-i∧i≤f.params.length∧LInv H3 H1 w s'∧s'.blocks=[]∧s'.at_=0∧s'.regs=(f.params.length:Int)+v∧s'.next=f.params.length∧s'.vars.length=i∧
  e1=[(4,.c (.ptr x4 0)),(5,.c (.ptr x5 0)),(6,.c (.ptr w 0)),(7,.c (.int .i64 i))]) f.params.length ?_ ?_))
 ·exact⟨0,_,by omega,by omega,h,rfl,rfl,rfl,rfl,rfl,rfl⟩
 ·rintro n e1 H1 ⟨i,s,hn1,hi,h,hb0,ha0,hr0,hn0,hvl,rfl⟩
  have hx51:=(hfr _ _ h).2
  have hw1:=h.hw
  have hvo:=h.gv.isOw
  refine Q5 ?_
  refine Qa ?_
  simp only[go_sem,hx51,Qao]
  intro _
  refine Qi (Qe rfl ?_ ?_)
  ·intro hc
   have hlt:i<f.params.length:=by simpa using hc
   refine Qh ?_
   simp only[go_sem]
   refine Qi (Qf (Qb5 ?_))
   simp only[go_sem,hx51,hw1,LS.o,hvo,hlt,Qao,Qio _ _ hlt]
   refine h.addVar ⟨_,_,_,rfl⟩ (by simp only[LIM];omega) fun y H4 hw4 cont=>?_
   simp only[go_sem,Qawx,hw4,LS.o]
   intro H5 h5
   have h':=cont H5 h5
   refine Qv ?_
   simp only[go_sem,X.next]
   exact⟨Qr (by omega) (by omega),f.params.length-(i+1),by omega,i+1,_,rfl,by omega,h',hb0,ha0,hr0,hn0,by simp[hvl],rfl⟩
  ·intro hc
   refine Qw ?_
   simp only[go_sem,X.next]
   have hsok:s.ok (3+v):=⟨by rw[hr0];omega,by rw[hr0];omega,by rw[hn0];omega,by rw[hn0];omega,by simp[hb0],by simp[hb0],by omega⟩
   refine Qa ?_
   simp only[go_sem]
   refine Qasq h hsok (by omega) fun s1 H4 h1 st1 hb1 hat1=>?_
   have hat:s1.at_<s1.blocks.length:=by rw[hat1,ha0];omega
   have hsok1:=st1.ok _ hsok
   refine Qa ?_
   have hx54:=(hfr _ _ h1).2
   simp only[go_sem,hx54]
   refine Qbmb _ f.body _ H3 H4 w s1 _ _ (Nat.le_refl _) hbo h1 hat hsok1 (by omega) fun s2 H5 h2 st2=>?_
   refine Qa ?_
   simp only[go_sem]
   refine Qq4 h2 (st2.ok _ hsok1) (by omega) fun s3 H6 h3 st3=>?_
   have st3:=st2.trans st3
   simp only[go_sem,Qawz]
   refine Q22 (args:=[]) h3 (st3.at_ hat) (st3.ok _ hsok1) (by omega) fun s4 H7 h4 st4=>?_
   have st4:=st3.trans st4
   simp only[go_sem,Qawy]
   have hbl4:=st4.bl
   refine Qa ?_
   simp only[go_sem]
   refine Qwk (at':=0) (next:=[]) (N:=0) h4 (st4.at_ hat) (by omega) fun s5 H8 h5 st5=>?_
   have hw8:=h5.hw
   obtain⟨hx48,hx58⟩:=hfr _ _ h5
   have hbow:=h5.gb.isOw
   refine Qa ?_
   simp only[go_sem,hw8,hx48,LS.o,hbow]
   intro H9 h9
   have hx49:H9 x4=.st [.int .i64 s5.params,.int .i64 s5.regs,s5.bc]:=by rw[h9];exact Heap.set_same _ _ _
   have ho9:∀m,m≠x4→H9 m=H8 m:=fun m hm=>by rw[h9];exact Heap.set_other _ _ hm
   have huse:∀m,H m≠.none→H9 m=H m:=fun m hm=>by
    have e1:=kn.chg m hm (by simp)
    have e2:=h5.kn.chg m (by rw[e1];exact hm) (by simp)
    rw[ho9 m (fun hh=>by subst hh;exact hm (kn.free 0 rfl)),e2,e1]
   have hun:∀p∈s5.L w,H9 p.1=p.2∧un H p.1=true:=fun p hp=>by
    have e1:=(h5.kn.get p (by simpa using hp)).1
    have e2:=h5.kn.loc p hp
    have hne:p.1≠x4:=fun hh=>by rw[hh,hx43]at e2;simp at e2
    refine⟨by rw[ho9 _ hne,e1],Qir ?_⟩
    cases hh:H p.1 with
    |none=>rfl
    |_=>have:=kn.chg p.1 (by rw[hh];simp) (by simp);rw[e2,hh]at this;simp at this
   refine Qk ?_
   simp only[go_sem,Q4,Q7,Qbhu,reduceIte,List.mem_singleton,forall_eq,RS.op,hx49,hbow]
   have hok5:=(st4.trans st5).ok _ hsok1
   obtain⟨bs,hbs1,hbs2,hbs3⟩:=Qa37 (H:=H9) (S:=un H) s5.blocks fun b hb=>⟨h5.gi b hb,h5.ri b hb,fun p hp=>hun p (by
    simp only[LS.L,List.mem_append,List.mem_flatMap]
    exact .inr (.inr (.inr ⟨b,hb,hp⟩))),by have:=hok5.i1 b hb;omega⟩
   refine⟨.ag (CodeD.mk s5.params s5.regs bs).cells,FrzL.ag (.cons (Qd rfl) (.cons (Qd rfl) (.cons (Gr.frzM h5.gb (fun p hp=>hun p (by
    simp only[LS.L,List.mem_append]
    exact .inr (.inl hp))) hbs1) .nil))),hK _ _ ⟨by simp,fun m hm _=>?_⟩ hbs3⟩
   rw[Qa9z hm];exact huse m hm
theorem Qbfa {fns:List Fn}{fl:Bool}(hp:PrOk fns)(hK:∀(cs:List CodeD) (H':Heap),Upd H H' []→0<cs.length→(∀c∈cs,c.fits)→K (.ag [.sl false 3 (Qj cs)]) H') :
  Qp prog Qaan [.ag [.sl fl 3 (Qb3 fns)]] H K:=by
 refine Qu ?_
 refine Qb Qai Qbfu ?_
 refine Qa ?_
 simp only[go_sem]
 intro x2 hx2 H1 h1
 have kn:=(Kn.start0 H).al hx2 h1
 refine Qa ?_
 simp only[go_sem]
 intro x3 hx3 H2 h2
 have kn:=kn.al hx3 h2
 have hx32:=kn.l 1 rfl
 simp only[go_sem,Qag9,hx32]
 intro H3 h3
 have kn:Kn H H3 [] [(x2,.st [.sl true 3 []]),(x3,.st [.sl true 3 []])]:=kn.stL 1 rfl h3
 refine Q5 ?_
 refine Qa ?_
 simp only[go_sem]
 refine Qi (Qf (Qx (fun n e1 H1=>∃(i:Nat) (cs:List CodeD) (c:C) (Lg:List (Nat×Obj)),n=fns.length-i∧i≤fns.length∧cs.length=i∧(∀c∈cs,c.fits)∧Gr Lg 3 (Qj cs) c∧Kn H H1 [] ([(x2,.st [.sl true 3 []]),(x3,.st [c])]++Lg)∧
  e1=[(1,.c (.pp [.sl fl 3 (Qb3 fns)])),(2,.c (.ptr x2 0)),(3,.c (.ptr x3 0)),(4,.c (.int .i64 i))]) fns.length ?_ ?_))
 ·exact⟨0,[],_,[],by omega,by omega,rfl,by simp,.nil 3,kn,rfl⟩
 ·rintro n e1 H1 ⟨i,cs,c,Lg,hn1,hi,hcl,hfit,hgr,kn,rfl⟩
  refine Q5 ?_
  refine Qa ?_
  simp only[go_sem,Qba]
  intro hl
  simp only[LIM]at hl
  have hcow:=hgr.isOw
  have hx31:=kn.l 1 rfl
  refine Qi (Qe rfl ?_ ?_)
  ·intro hc
   have hlt:i<fns.length:=by simpa using hc
   have hm:=List.getElem_mem hlt
   refine Qh ?_
   simp only[go_sem]
   refine Qi (Qf (Qb5 ?_))
   simp only[go_sem,hx31,hcow]
   refine Qbla hlt (hp.par _ hm) (hp.ok _ hm) (by have:=Qrb hm;have:=hp.size;omega) fun x H4 hu hxf=>?_
   have kn:=kn.call0 hu
   have hx34:=kn.l 1 rfl
   simp only[go_sem,Qahb,hx34,hcow,CodeD.cells]
   refine kn.grow (B:=[_,_]) (new:=[x.cells]) hgr (.mk' _ _ _ _) (by intro r hr;simp only[List.mem_singleton]at hr;subst hr;rfl) (by simp only[Qq,LIM,List.length_cons,List.length_nil];omega) fun y' H5 kn=>?_
   have hx35:=kn.l 1 rfl
   simp only[go_sem,Qaha,hx35]
   intro H6 h6
   have kn:=kn.stL 1 rfl h6
   refine Qv ?_
   simp only[go_sem,X.next]
   refine⟨Qr (by omega) (by omega),fns.length-(i+1),by omega,i+1,cs++[x],_,_,rfl,by omega,by simp[hcl],fun c' hc'=>by
    rcases List.mem_append.1 hc' with h|h
    ·exact hfit c' h
    ·simp at h;subst h;exact hxf,?_,kn,rfl⟩
   rw[Qasw];exact .mk _ _ _ (by simp[Qq])
  ·intro hc
   have hge:fns.length≤i:=by simpa using hc
   have hx21:=kn.l 0 rfl
   refine Qw ?_
   simp only[go_sem,X.next]
   refine Qa ?_
   simp only[go_sem,hx31,hx21,hcow]
   intro H2 h2
   have kn:=kn.stL 0 rfl h2
   have hx22:=kn.l 0 rfl
   refine Qk ?_
   simp only[go_sem,Q4,Q7,Qa40,reduceIte,List.mem_singleton,forall_eq,RS.op,hx22,hcow]
   exact⟨.ag [.sl false 3 (Qj cs)],FrzL.ag (.cons (hgr.frz (B:=[_,_]) kn (Qa4 _)) .nil),hK _ _ kn.fin (by have:=hp.pos;omega) hfit⟩
end Go.AE.Y

namespace Go.AE.Y
open Go.Proofs.Tryz
variable {H:Heap}{K:V→Heap→Prop}
attribute [local instance] Classical.propDecidable
def Qyk (q:CodeD):Bool:=decide (0≤q.params∧q.params≤3)&&decide (q.params≤q.regs∧q.regs≤300)&&decide (1≤(q.blocks.length:Int)∧(q.blocks.length:Int)≤160)
def Qzt (y:BlkD):Nat:=y.ins.length+y.phis.length
def Qg7 {α:Type}(f:α→Nat)(l:List α):Nat:=(l.map f).sum
theorem Qcl {α:Type}{f:α→Nat}{l:List α}{i:Nat}(h:i<l.length):Qg7 f (l.take (i+1))=Qg7 f (l.take i)+f l[i]:=by
 rw[Qg7,Qg7,List.take_succ_eq_append_getElem h,List.map_append,List.sum_append];simp
theorem Qash {α:Type}{f:α→Nat}{l:List α}(i:Nat):Qg7 f (l.take i)≤Qg7 f l:=by
 have:Qg7 f l=Qg7 f (l.take i)+Qg7 f (l.drop i):=by rw[Qg7,Qg7,Qg7,←List.sum_append,←List.map_append,List.take_append_drop]
 omega
def Qve (q:CodeD):Nat:=Qg7 Qzt q.blocks
def Qahx (cs:List CodeD)(k:Nat)(hk:k<cs.length):Prop:=Qyk cs[k]=true∧∀(b:Nat) (h:b<cs[k].blocks.length),blkG cs k b cs[k] cs[k].blocks[b]=true
def Qbkb (cs:List CodeD):Prop:=(1≤(cs.length:Int)∧(cs.length:Int)≤4)∧(∀(k:Nat) (h:k<cs.length),Qahx cs k h)∧Qg7 Qve cs≤800
noncomputable def Qb0 (cs:List CodeD):Bool:=decide (Qbkb cs)
theorem Qa49 {cs:List CodeD}(hfit:∀c∈cs,c.fits)(h:Qb0 cs=true):cs.length≤4∧0<cs.length∧∀c∈cs,c.gd:=by
 obtain⟨h1,h2,_⟩:=of_decide_eq_true h
 refine⟨by omega,by omega,fun c hc=>?_⟩
 obtain⟨k,hk,rfl⟩:=List.getElem_of_mem hc
 obtain⟨g1,g2⟩:=h2 k hk
 simp only[Qyk,Bool.and_eq_true,decide_eq_true_eq]at g1
 refine⟨by omega,by omega,fun b hb=>?_,fun b hb=>hfit _ (List.getElem_mem hk) b hb⟩
 obtain⟨i,hi,rfl⟩:=List.getElem_of_mem hb
 exact Qa9f (g2 i hi)
theorem Qu6 {cs:List CodeD}(h:¬Qbkb cs):Qb0 cs=false:=decide_eq_false h
theorem Qbhc {cs:List CodeD}{k j:Nat}(hk:k<cs.length)(hj:j<cs[k].blocks.length)(h:800<Qg7 Qve (cs.take k)+Qg7 Qzt (cs[k].blocks.take j)+Qzt cs[k].blocks[j]):¬Qbkb cs:=by
 rintro⟨_,_,h3⟩
 have a1:=Qash (f:=Qve) (l:=cs) (k+1)
 rw[Qcl hk]at a1
 have a2:=Qash (f:=Qzt) (l:=cs[k].blocks) (j+1)
 rw[Qcl hj]at a2
 simp only[Qve]at *
 omega
set_option maxHeartbeats 2000000 in
theorem Qqs {cs:List CodeD}{fl:Bool}(hfit:∀c∈cs,c.fits)(hK:∀(H':Heap),Upd H H' []→K (.c (.bool (Qb0 cs))) H') :
  Qp prog Qbx [.ag [.sl fl 3 (Qj cs)]] H K:=by
 refine Qu ?_
 refine Qb Qai Qaih ?_
 have retf:∀(b:Bool) (e:Env) (H':Heap) (L:List (Nat×Obj)),Qb0 cs=b→Kn H H' [] L→lk 2 e=.c (.bool b)→Q4 Qdb (fun x H'=>∃x',FrzV H' (un H) x x'∧K x' (H'.frz (un H))) .ret e H':=by
  intro b e H' L hb kn h3
  simp only[go_sem,Q4,Q7,Qdb,List.mem_singleton,forall_eq,RS.op,h3]
  rw[←hb];exact⟨_,.c _ _ (Qd rfl),hK _ kn.fin⟩
 have kn:=Kn.start0 H
 refine Qa ?_
 simp only[go_sem]
 refine Q5 ?_
 refine Qa ?_
 simp only[go_sem,Qq]
 intro hcl
 refine Qd5 ?_
 simp only[go_sem,Qma]
 refine Qi (Qe rfl ?_ ?_)
 ·intro hc
  refine Qa ?_
  simp only[go_sem]
  refine Qk ?_
  simp only[go_sem]
  exact retf false _ _ _ (Qu6 fun hu=>by have:=of_decide_eq_false (Qvh hc);exact this hu.1) kn (by simp[lk])
 intro hc
 have hc4:cs.length≤4∧0<cs.length:=by
  have:1≤(cs.length:Int)∧(cs.length:Int)≤4:=by simpa using hc
  omega
 refine Qh ?_
 simp only[go_sem]
 refine Qa ?_
 simp only[go_sem]
 refine Q5 ?_
 refine Qa ?_
 simp only[go_sem]
 refine Qi (Qf (Qx (fun m e1 H1=>∃(k n:Nat),m=cs.length-k∧k≤cs.length∧n=Qg7 Qve (cs.take k)∧n≤800∧(∀(i:Nat) (hi:i<cs.length),i<k→Qahx cs i hi)∧Kn H H1 [] []∧e1=[(1,.c (.pp [.sl fl 3 (Qj cs)])),(3,.c (.int .i64 n)),(4,.c (.int .i64 k))]) cs.length ?_ ?_))
 ·exact⟨0,0,by omega,by omega,rfl,by omega,fun _ _ h=>by omega,kn,rfl⟩
 ·rintro m e1 H1 ⟨k,n,hm,hk,hns,hn,hgd,kn,rfl⟩
  refine Q5 ?_
  refine Qa ?_
  simp only[go_sem,Qq]
  intro hcl
  refine Qi (Qe rfl ?_ ?_)
  ·intro hc
   have hlt:k<cs.length:=by simpa using hc
   refine Qh ?_
   simp only[go_sem]
   refine Qi (Qf ?_)
   refine Qa ?_
   simp only[go_sem,hlt,Qq,Q3 _ _ hlt,CodeD.cells]
   obtain⟨q,hq⟩:∃q,cs[k]=q:=⟨_,rfl⟩
   rw[hq]
   intro x5 hx5 H2 h2
   have kn:=kn.al hx5 h2
   have hx52:=kn.l 0 rfl
   simp only[go_sem,Qmb,hx52]
   intro H3 h3
   have kn:Kn H H3 [] [(x5,.st [.int .i64 q.params,.int .i64 q.regs,.sl false 5 (Qn q.blocks)])]:=kn.stL 0 rfl h3
   have hx53:=kn.l 0 rfl
   refine Q5 ?_
   refine Qa ?_
   simp only[go_sem,hx53]
   refine Qd5 ?_
   simp only[go_sem,Qmc,hx53]
   have rest:∀(b:Bool) (E1:Env),lk 1 E1=.c (.pp [.sl fl 3 (Qj cs)])→lk 3 E1=.c (.int .i64 n)→lk 4 E1=.c (.int .i64 k)→lk 5 E1=.c (.ptr x5 0)→lk 42 E1=.c (.bool b)→Qyk q=(!b)→
     Qac prog (s_sp_UnitValid_6.seq Ql9) (X.inBlock 1 (X.sq prog Qfa (X.next (fun e2 H2=>∃m_1,m_1<m∧∃(k n:Nat),m_1=cs.length-k∧k≤cs.length∧n=Qg7 Qve (cs.take k)∧n≤800∧(∀(i:Nat) (hi:i<cs.length),i<k→Qahx cs i hi)∧Kn H H2 [] []∧e2=[(1,.c (.pp [.sl fl 3 (Qj cs)])),(3,.c (.int .i64 n)),(4,.c (.int .i64 k))])
      (X.inBlock 0 (X.sq prog Qfb (Q4 Qdb (fun x H'=>∃x',FrzV H' (un H) x x'∧K x' (H'.frz (un H))))))))) E1 H3:=by
    intro b E1 l1 l3 l4 l5 l42 hb
    refine Qi (Qe l42 ?_ ?_)
    ·intro hc2
     refine Qa ?_
     simp only[go_sem]
     refine Qk ?_
     simp only[go_sem,X.next]
     exact retf false _ _ _ (Qu6 fun hu=>by have:=(hu.2.1 k hlt).1;rw[hq,hb,hc2]at this;simp at this) kn (by simp[lk])
    intro hc2
    rw[hc2]at hb
    have hb':=hb
    simp only[Qyk,Bool.not_false,Bool.and_eq_true,decide_eq_true_eq]at hb'
    obtain⟨hr0,hr1,hb0,hbl⟩:0≤q.regs∧q.regs≤300∧0<q.blocks.length∧q.blocks.length≤160:=by omega
    refine Qh ?_
    simp only[go_sem]
    refine Qa ?_
    simp only[go_sem,l1,l3,l4,l5]
    refine Qf (Qx (fun m e1 H1=>∃(j n2:Nat),m=q.blocks.length-j∧j≤q.blocks.length∧n2=n+Qg7 Qzt (q.blocks.take j)∧n2≤800∧(∀(i:Nat) (hi:i<q.blocks.length),i<j→blkG cs k i q q.blocks[i]=true)∧Kn H H1 [] [(x5,.st [.int .i64 q.params,.int .i64 q.regs,.sl false 5 (Qn q.blocks)])]∧
     e1=[(1,.c (.pp [.sl fl 3 (Qj cs)])),(3,.c (.int .i64 n2)),(4,.c (.int .i64 k)),(5,.c (.ptr x5 0)),(6,.c (.int .i64 j))]) q.blocks.length ?_ ?_)
    ·exact⟨0,n,by omega,by omega,rfl,hn,fun _ _ h=>by omega,kn,rfl⟩
    ·rintro m2 e1 H4 ⟨j,n2,hm2,hj,hn2s,hn2,hnx,kn,rfl⟩
     have hx54:=kn.l 0 rfl
     refine Q5 ?_
     refine Qa ?_
     simp only[go_sem,hx54,Ql]
     intro hbl2
     refine Qi (Qe rfl ?_ ?_)
     ·intro hc3
      have hjl:j<q.blocks.length:=by simpa using hc3
      refine Qh ?_
      simp only[go_sem]
      refine Qi (Qf ?_)
      have hqf:=hfit _ (List.getElem_mem hlt)
      rw[hq]at hqf
      have hbf:=hqf _ (List.getElem_mem hjl)
      have hss:=Qcl (f:=Qzt) hjl
      have hcy:Qzt q.blocks[j]=q.blocks[j].ins.length+q.blocks[j].phis.length:=rfl
      refine Qae ?_
      simp only[go_sem,hx54,hjl,Ql,Qak _ _ hjl,BlkD.cells,Qar,Qy]
      refine⟨Qr (by omega) (by omega),Qr (by omega) (by omega),?_⟩
      refine Qa ?_
      simp only[go_sem]
      have fin:∀(b3:Bool) (E1:Env) (H5:Heap),(decide (n2+Qzt q.blocks[j]≤800)&&blkG cs k j q q.blocks[j])=(!b3)→Kn H H5 [] [(x5,.st [.int .i64 q.params,.int .i64 q.regs,.sl false 5 (Qn q.blocks)])]→lk 1 E1=.c (.pp [.sl fl 3 (Qj cs)])→
        lk 3 E1=.c (.int .i64 ((n2+q.blocks[j].ins.length+q.blocks[j].phis.length:Nat):Int))→lk 4 E1=.c (.int .i64 k)→lk 5 E1=.c (.ptr x5 0)→lk 6 E1=.c (.int .i64 j)→lk 75 E1=.c (.bool b3)→
        Qac prog Qpg (X.inBlock 3 (X.sq prog Ql8 (X.next (fun e2 H2=>∃m,m<m2∧∃(j n2:Nat),m=q.blocks.length-j∧j≤q.blocks.length∧n2=n+Qg7 Qzt (q.blocks.take j)∧n2≤800∧(∀(i:Nat) (hi:i<q.blocks.length),i<j→blkG cs k i q q.blocks[i]=true)∧Kn H H2 [] [(x5,.st [.int .i64 q.params,.int .i64 q.regs,.sl false 5 (Qn q.blocks)])]∧
         e2=[(1,.c (.pp [.sl fl 3 (Qj cs)])),(3,.c (.int .i64 n2)),(4,.c (.int .i64 k)),(5,.c (.ptr x5 0)),(6,.c (.int .i64 j))])
         (X.inBlock 2 (X.inBlock 1 (X.sq prog Qfa (X.next (fun e2 H2=>∃m_1,m_1<m∧∃(k n:Nat),m_1=cs.length-k∧k≤cs.length∧n=Qg7 Qve (cs.take k)∧n≤800∧(∀(i:Nat) (hi:i<cs.length),i<k→Qahx cs i hi)∧Kn H H2 [] []∧e2=[(1,.c (.pp [.sl fl 3 (Qj cs)])),(3,.c (.int .i64 n)),(4,.c (.int .i64 k))])
         (X.inBlock 0 (X.sq prog Qfb (Q4 Qdb (fun x H'=>∃x',FrzV H' (un H) x x'∧K x' (H'.frz (un H))))))))))))) E1 H5:=by
       intro b3 E1 H5 hb3 kn l1 l3 l4 l5 l6 l75
       refine Qe l75 ?_ ?_
       ·intro hc4
        refine Qa ?_
        simp only[go_sem]
        refine Qk ?_
        simp only[go_sem,X.next]
        refine retf false _ _ _ (Qu6 fun hu=>?_) kn (by simp[lk])
        rw[hc4]at hb3
        have hblk:=(hu.2.1 k hlt).2 j (by rw[hq];exact hjl)
        subst hq
        have hov:¬800<n2+Qzt cs[k].blocks[j]:=fun ho=>Qbhc hlt hjl (by omega) hu
        rw[hblk]at hb3
        simp at hb3
        omega
       ·intro hc4
        rw[hc4]at hb3
        simp only[Bool.not_false,Bool.and_eq_true,decide_eq_true_eq]at hb3
        refine Qh ?_
        simp only[go_sem]
        refine Qv ?_
        simp only[go_sem,X.next,l1,l3,l4,l5,l6]
        refine⟨Qr (by omega) (by omega),q.blocks.length-(j+1),by omega,j+1,_,rfl,by omega,?_,?_,?_,kn,rfl⟩
        ·rw[hss];omega
        ·omega
        ·intro i hi hij
         by_cases hij2:i<j
         ·exact hnx i hi hij2
         ·have:i=j:=by omega
          subst this
          exact hb3.2
      refine⟨fun hb1=>?_,fun hb1=>?_⟩
      ·refine Qban hlt (by rw[hq];exact hjl) (by rw[hq];exact hr0) (by rw[hq];exact hr1) (by omega) (by rw[hq];omega) fun H5 hu=>?_
       have kn:=kn.call0 hu
       simp only[go_sem,Qfd]
       refine fin _ _ _ ?_ kn (by simp[lk]) (by simp[lk]) (by simp[lk]) (by simp[lk]) (by simp[lk]) (by simp[lk];rfl)
       subst hq
       by_cases ho:n2+Qzt cs[k].blocks[j]≤800
       ·have ho':¬800<(n2:Int)+cs[k].blocks[j].ins.length+cs[k].blocks[j].phis.length:=by simp only[Qzt]at ho;omega
        simp[ho,ho']
       ·have ho':800<(n2:Int)+cs[k].blocks[j].ins.length+cs[k].blocks[j].phis.length:=by simp only[Qzt]at ho;omega
        simp[ho,ho']
      ·replace hb1:=Qht hb1
       simp only[go_sem,Qfd,hb1]
       exact fin true _ _ (by simp at hb1;simp[hcy];omega) kn (by simp[lk]) (by simp[lk]) (by simp[lk]) (by simp[lk]) (by simp[lk]) (by simp[lk])
     ·intro hc3
      refine Qw ?_
      simp only[go_sem,X.next]
      refine Qv ?_
      simp only[go_sem,X.next]
      have hjq:q.blocks.length≤j:=by simpa using hc3
      have hjq:j=q.blocks.length:=by omega
      refine⟨Qr (by omega) (by omega),cs.length-(k+1),by omega,k+1,n2,rfl,by omega,?_,hn2,?_,kn.drop (A:=[]),rfl⟩
      ·rw[Qcl hlt,hq,hn2s,hns,hjq,List.take_length];rfl
      ·intro i hi hik
       by_cases hik2:i<k
       ·exact hgd i hi hik2
       ·have:i=k:=by omega
        subst this
        subst hq
        exact⟨by rw[hb];rfl,fun b hbl=>hnx b hbl (by omega)⟩
   refine⟨fun hb1=>?_,fun hb1=>?_⟩
   ·refine Qd5 ?_
    simp only[go_sem,Qfc,hx53,Ql]
    intro hblim
    refine⟨fun hb2=>?_,fun hb2=>?_⟩
    ·replace hb2:=Qvh hb2
     refine Qd5 ?_
     simp only[go_sem,Qcq]
     refine rest _ _ (by simp[lk]) (by simp[lk]) (by simp[lk]) (by simp[lk]) (by simp[lk];rfl) ?_
     simp[Qyk]
    ·replace hb2:=Qht hb2
     simp only[go_sem,Qcq,hb2]
     exact rest true _ (by simp[lk]) (by simp[lk]) (by simp[lk]) (by simp[lk]) (by simp[lk]) (by simp at hb2;simp[Qyk];omega)
   ·replace hb1:=Qht hb1
    simp only[go_sem,Qfc,Qcq,hb1,hx53,Ql,cond_true]
    exact rest true _ (by simp[lk]) (by simp[lk]) (by simp[lk]) (by simp[lk]) (by simp[lk]) (by simp at hb1;simp[Qyk];omega)
  ·intro hc
   refine Qw ?_
   simp only[go_sem,X.next]
   refine Qa ?_
   simp only[go_sem]
   refine Qk ?_
   have hkc:cs.length≤k:=by simpa using hc
   refine retf true _ _ _ (decide_eq_true ⟨by omega,fun i hi=>hgd i hi (by omega),?_⟩) kn (by simp[lk])
   rw[List.take_of_length_le hkc]at hns
   omega
theorem Qaxy {cs:List CodeD}{fl:Bool}(hfit:∀c∈cs,c.fits)(hK:∀(b:Bool) (H':Heap),(b=true→cs.length≤4∧0<cs.length∧∀c∈cs,c.gd)→Upd H H' []→K (.c (.bool b)) H') :
  Qp prog Qbx [.ag [.sl fl 3 (Qj cs)]] H K:=Qqs hfit fun H' hu=>hK _ H' (Qa49 hfit) hu
end Go.AE.Y

namespace Go.AE.Y
open Go.Proofs.Tryz
variable {H:Heap}{K:V→Heap→Prop}
def UnitOk (cs:List CodeD):Prop:=0<cs.length∧cs.length≤4∧∀c∈cs,c.gd
theorem Qbaf {R:Rdr}{k:Nat}(hH:H R.l=R.o k)(hk:k+7100000≤2^30)
  (hK:∀(cs:List CodeD) (H':Heap) (k':Nat),k<k'→k'≤k+7050000→Upd H H' [(R.l,R.o k')]→UnitOk cs→K (.ag [.sl false 3 (Qj cs)]) H') :
  Qp prog Q2k [.c (.ptr R.l 0)] H K:=by
 refine Qu ?_
 refine Qb Qai Qbav ?_
 refine Qa ?_
 simp only[go_sem]
 intro x2 hx2 H1 h1
 have kn:=(Kn.start1 hH (R.o_ne k)).al hx2 h1
 have tail:∀(E1:Env) (H2:Heap) (k1:Nat) (L:List (Nat×Obj)),k<k1→k1≤k+7000500→Kn H H2 [(R.l,R.o k1)] ([(x2,.st [.sl true 3 []])]++L)→lk 0 E1=.c (.ptr R.l 0)→lk 2 E1=.c (.ptr x2 0)→
   Qac prog Qac1 (Q4 Q0e fun x H'=>∃x',FrzV H' (un H) x x'∧K x' (H'.frz (un H))) E1 H2:=by
  intro E1 H2 k1 L hk1 hk2 kn l0 l2
  refine Qa ?_
  simp only[go_sem,l0,l2]
  refine Qa4j (kn.e 0 rfl) (by omega) fun cs H3 k2 hk3 hk4 hu hcs0 hcs3 hsm=>?_
  have kn:=kn.callE 0 rfl hu (R.o_ne _)
  have hx2:=kn.l 0 rfl
  simp only[go_sem,Q5t,hx2,l2]
  intro H4 h4
  have kn:=kn.stL 0 rfl h4
  have hx2:=kn.l 0 rfl
  refine Qk ?_
  simp only[go_sem,Q4,Q7,Q0e,reduceIte,List.mem_singleton,forall_eq,RS.op,hx2]
  exact⟨_,FrzL.ag (.cons (FrzR.same (Qa4 cs)).sl .nil),hK cs _ k2 (by omega) (by omega) kn.fin ⟨hcs0,by omega,fun c hc=>(hsm c hc).gd⟩⟩
 refine Q5 ?_
 refine Qa ?_
 simp only[go_sem]
 refine Qa5 (kn.e 0 rfl) (by omega) fun v H2 hv hu=>?_
 have kn:=kn.callE 0 rfl hu (R.o_ne _)
 simp only[go_sem,Q5p]
 refine Qi (Qe rfl ?_ ?_)
 ·intro hc
  refine Qa ?_
  simp only[go_sem]
  refine Qbe4 (kn.e 0 rfl) (by omega) fun l H3 k1 hk1 hk2 hu hp=>?_
  have kn:=kn.callE 0 rfl hu (R.o_ne _)
  simp only[go_sem,Q5s]
  refine Qbfa hp fun cs H4 hu hcs0 hfit=>?_
  have kn:=kn.call0 hu
  simp only[go_sem,Q5r]
  intro x3 hx3 H5 h5
  have kn:=kn.al hx3 h5
  have hx3:=kn.l 1 rfl
  simp only[go_sem,Q5q,hx3]
  intro H6 h6
  have kn:=kn.stL 1 rfl h6
  have hx3:=kn.l 1 rfl
  refine Qa ?_
  simp only[go_sem,hx3]
  refine Qaxy hfit fun b H7 hb hu=>?_
  have kn:=kn.call0 hu
  have hx3:=kn.l 1 rfl
  have hx2:=kn.l 0 rfl
  refine Qe rfl ?_ ?_
  ·intro hb1
   refine Qa ?_
   simp only[go_sem,hx3,hx2]
   intro H8 h8
   have kn:=kn.stL 0 rfl h8
   have hx2:=kn.l 0 rfl
   refine Qk ?_
   simp only[go_sem,Q4,Q7,Q0e,reduceIte,List.mem_singleton,forall_eq,RS.op,hx2]
   obtain⟨g1,g2,g3⟩:=hb hb1
   exact⟨_,FrzL.ag (.cons (FrzR.same (Qa4 cs)).sl .nil),hK cs _ k1 (by omega) (by omega) kn.fin ⟨g2,g1,g3⟩⟩
  ·intro hb1
   refine Qh ?_
   simp only[go_sem]
   exact tail _ _ k1 [(x3,.st [.sl false 3 (Qj cs)])] (by omega) (by omega) kn (by simp[lk]) (by simp[lk])
 ·intro hc
  refine Qh ?_
  simp only[go_sem]
  exact tail _ _ (k+1) [] (by omega) (by omega) kn (by simp[lk]) (by simp[lk])
theorem Qbae {R:Rdr}{k:Nat}(hH:H R.l=R.o k)(hk:k+7200000≤2^30)
  (hK:∀(cs:List CodeD) (H':Heap) (k':Nat),k<k'→k'≤k+7100000→Upd H H' [(R.l,R.o k')]→UnitOk cs→K (.ag [.sl false 3 (Qj cs)]) H') :
  Qp prog Q2i [.c (.ptr R.l 0)] H K:=by
 refine Qu ?_
 refine Qb Qai Qbas ?_
 refine Qa ?_
 simp only[go_sem]
 intro x2 hx2 H1 h1
 have kn:=(Kn.start1 hH (R.o_ne k)).al hx2 h1
 refine Q5 ?_
 refine Qa ?_
 simp only[go_sem]
 refine Qa5 (kn.e 0 rfl) (by omega) fun v H2 hv hu=>?_
 have kn:=kn.callE 0 rfl hu (R.o_ne _)
 simp only[go_sem,Q5e]
 refine Qi (Qe rfl ?_ ?_)
 ·intro hc
  refine Qa ?_
  simp only[go_sem]
  refine Qbe5 (kn.e 0 rfl) (by omega) fun cs H3 k2 hk3 hk4 hu hcs0 hcs3 hgd=>?_
  have kn:=kn.callE 0 rfl hu (R.o_ne _)
  have hx2:=kn.l 0 rfl
  simp only[go_sem,Q5f,hx2]
  intro H4 h4
  have kn:=kn.stL 0 rfl h4
  have hx2:=kn.l 0 rfl
  refine Qk ?_
  simp only[go_sem,Q4,Q7,Qabf,reduceIte,List.mem_singleton,forall_eq,RS.op,hx2]
  exact⟨_,FrzL.ag (.cons (FrzR.same (Qa4 cs)).sl .nil),hK cs _ k2 (by omega) (by omega) kn.fin ⟨hcs0,by omega,hgd⟩⟩
 ·intro hc
  refine Qh ?_
  simp only[go_sem]
  refine Qa ?_
  simp only[go_sem]
  refine Qbaf (kn.e 0 rfl) (by omega) fun cs H3 k2 hk3 hk4 hu hok=>?_
  have kn:=kn.callE 0 rfl hu (R.o_ne _)
  have hx2:=kn.l 0 rfl
  simp only[go_sem,Q5g,hx2]
  intro H4 h4
  have kn:=kn.stL 0 rfl h4
  have hx2:=kn.l 0 rfl
  refine Qk ?_
  simp only[go_sem,Q4,Q7,Qabf,reduceIte,List.mem_singleton,forall_eq,RS.op,hx2]
  exact⟨_,FrzL.ag (.cons (FrzR.same (Qa4 cs)).sl .nil),hK cs _ k2 (by omega) (by omega) kn.fin hok⟩
end Go.AE.Y

namespace Go.AE.Y
open Go.Proofs.Tryz
variable {H:Heap}{K:V→Heap→Prop}
theorem Qbaj {fl:Bool}{bs:List UInt8}(hK:∀(R:Rdr) (H':Heap),H R.l=.none→H'=H.set R.l (R.o 0)→K (.c (.ptr R.l 0)) H'):Qp prog Q2n [.c (.sl fl 1 (Qbi bs))] H K:=by
 refine Qb Qai Qbaz ?_
 refine Qa ?_
 simp only[go_sem]
 refine Q5 ?_
 refine Qa ?_
 simp only[go_sem,Qap]
 intro _
 have tail:∀(fl:Bool) (bs:List UInt8) (E1:Env),lk 0 E1=.c (.sl fl 1 (Qbi bs))→Qac prog Qadh (Q4 Qabh K) E1 H:=by
  intro fl bs E1 l0
  refine Qa ?_
  simp only[go_sem,l0]
  intro l hl H' h'
  simp only[go_sem,Q5w]
  refine Qk ?_
  simp only[go_sem,Q4,Q7,Qabh,reduceIte,List.mem_singleton,forall_eq,RS.op]
  exact hK ⟨l,fl,bs⟩ H' hl h'
 refine Qi (Qe rfl ?_ ?_)
 ·intro hc
  have h2:(2000:Int)<bs.length:=by simpa using hc
  refine Qv ?_
  simp only[go_sem,Qap]
  refine⟨⟨by omega,by omega,by omega⟩,?_⟩
  have ht:List.take 2000 (Qbi bs)=Qbi (bs.take 2000):=by simp[Qbi,List.map_take]
  rw[ht]
  exact tail _ (bs.take 2000) _ (by simp[lk];rfl)
 ·intro hc
  refine Qh ?_
  exact tail fl bs _ (by simp[lk])
end Go.AE.Y

namespace Go.AE.Y
def Qmi (n:Nat)(nx:Nat→List Int):Bool:=(List.range n).all (fun i=>(nx i).all fun x=>decide (0≤x∧x≤(n:Int)-1))&&decide (0<n)
def nxN (nx:Nat→List Int)(b:Nat):List Nat:=(nx b).map Int.toNat
theorem Qas0 {n:Nat}{nx:Nat→List Int}(h:Qmi n nx=true){b:Nat}(hb:b<n){x:Int}(hx:x∈nx b):0≤x∧x≤(n:Int)-1:=by
 simp only[Qmi,Bool.and_eq_true,List.all_eq_true,List.mem_range,decide_eq_true_eq]at h
 exact h.1 b hb x hx
theorem Qas1 {n:Nat}{nx:Nat→List Int}(h:Qmi n nx=true):0<n:=by
 simp only[Qmi,Bool.and_eq_true,decide_eq_true_eq]at h
 exact h.2
theorem Qblj {n:Nat}{nx:Nat→List Int}(h:Qmi n nx=true){b:Nat}(hb:b<n){x:Nat}(hx:x∈nxN nx b):x<n:=by
 obtain⟨y,hy,rfl⟩:=List.mem_map.1 hx
 have:=Qas0 h hb hy
 omega
inductive Dfs (g:Nat→List Nat):List Nat→List Bool→List Nat→List Bool→List Nat→Prop
 |nil (S:List Bool) (o:List Nat):Dfs g [] S o S o
 |skip {x:Nat} {xs:List Nat} {S S':List Bool} {o o':List Nat}:S.getD x false=true→Dfs g xs S o S' o'→Dfs g (x::xs) S o S' o'
 |go {x:Nat} {xs:List Nat} {S S1 S':List Bool} {o o1 o':List Nat}:S.getD x false=false→Dfs g (g x) (S.set x true) o S1 o1→Dfs g xs S1 (o1++[x]) S' o'→Dfs g (x::xs) S o S' o'
variable {g:Nat→List Nat}{xs:List Nat}{S S' S1:List Bool}{o o' o1:List Nat}
theorem Dfs.app (h:Dfs g xs S o S1 o1):∀{ys:List Nat},Dfs g ys S1 o1 S' o'→Dfs g (xs++ys) S o S' o':=by
 induction h with
 |nil S o=>exact fun h=>h
 |skip h1 h2 ih=>exact fun h=>.skip h1 (ih h)
 |go h1 h2 h3 ih1 ih2=>exact fun h=>.go h1 h2 (ih2 h)
theorem Dfs.one {x:Nat}(h1:S.getD x false=false)(h:Dfs g (g x) (S.set x true) o S1 o1):Dfs g [x] S o S1 (o1++[x]):=.go h1 h (.nil _ _)
theorem Dfs.len (h:Dfs g xs S o S' o'):S'.length=S.length:=by
 induction h with
 |nil=>rfl
 |skip _ _ ih=>exact ih
 |go _ _ _ ih1 ih2=>rw[ih2,ih1,List.length_set]
theorem Q9p (S:List Bool)(x y:Nat):(S.set x true).getD y false=(if y=x∧x<S.length then true else S.getD y false):=by
 simp only[List.getD_eq_getElem?_getD,List.getElem?_set]
 by_cases h:x=y
 ·subst h
  by_cases h2:x<S.length
  ·simp[h2]
  ·simp[h2]
 ·have h':¬y=x:=fun hh=>h hh.symm
  simp[h,h']
theorem Dfs.mono (h:Dfs g xs S o S' o'):∀x,S.getD x false=true→S'.getD x false=true:=by
 induction h with
 |nil=>exact fun _ h=>h
 |skip _ _ ih=>exact ih
 |go _ _ _ ih1 ih2=>
  intro x hx
  refine ih2 x (ih1 x ?_)
  rw[Q9p]
  split
  ·rfl
  ·exact hx
def cnt (S:List Bool):Nat:=S.count true
theorem Qax1 {x:Nat}(hx:x<S.length)(h:S.getD x false=false):cnt (S.set x true)=cnt S+1:=by
 induction S generalizing x with
 |nil=>simp at hx
 |cons a S ih=>
  cases x with
  |zero=>
   simp at h;subst h
   simp[cnt]
  |succ x=>
   have:=ih (x:=x) (by simpa using hx) (by simpa using h)
   simp only[cnt,List.set_cons_succ,List.count_cons]at this⊢
   omega
theorem Qbhm (S:List Bool):cnt S≤S.length:=List.count_le_length
theorem Dfs.count (h:Dfs g xs S o S' o'):(∀x,x<S.length→∀y∈g x,y<S.length)→(∀x∈xs,x<S.length)→o'.length+cnt S=o.length+cnt S':=by
 induction h with
 |nil=>intros;rfl
 |skip _ _ ih=>exact fun h1 h2=>ih h1 fun x hx=>h2 x (List.mem_cons_of_mem _ hx)
 |@go x xs S S1 S' o o1 o' h1 h2 h3 ih1 ih2=>
  intro hg hxs
  have hx:=hxs x List.mem_cons_self
  have e1:=ih1 (by simpa using hg) (by simpa using hg x hx)
  have hl:=h2.len
  rw[List.length_set]at hl
  have e2:=ih2 (by rw[hl];exact hg) (by rw[hl];exact fun y hy=>hxs y (List.mem_cons_of_mem _ hy))
  rw[Qax1 hx h1]at e1
  simp only[List.length_append,List.length_cons,List.length_nil]at e2
  omega
theorem Dfs.all (h:Dfs g xs S o S' o'):∀P:Nat→Prop,(∀x,P x→∀y∈g x,P y)→(∀x∈xs,P x)→(∀x∈o,P x)→∀x∈o',P x:=by
 induction h with
 |nil=>exact fun P _ _ h=>h
 |skip _ _ ih=>exact fun P h1 h2 h3=>ih P h1 (fun x hx=>h2 x (List.mem_cons_of_mem _ hx)) h3
 |go h1 h2 h3 ih1 ih2=>
  intro P hg hxs ho
  have hx:=hxs _ List.mem_cons_self
  refine ih2 P hg (fun y hy=>hxs y (List.mem_cons_of_mem _ hy)) fun y hy=>?_
  rcases List.mem_append.1 hy with hy|hy
  ·exact ih1 P hg (hg _ hx) ho y hy
  ·simp at hy;subst hy;exact hx
end Go.AE.Y

namespace Go.AE.Y
open Go.Proofs.Tryz
variable {H:Heap}{K:V→Heap→Prop}
structure GRd (H:Heap)(c:C)(rows:List (List C))(nx:Nat→List Int):Prop where
 s:Slc H 5 rows c
 ow:c.isOw=false
 no:∀r∈rows,noOw r=true
 x:∀i,i<rows.length→∃a1 a2 a3 a4 fl,rows.getD i []=[a1,a2,a3,a4,.sl fl 1 (Qg (nx i))]
theorem GRd.keep {c:C}{rows:List (List C)}{nx:Nat→List Int}{H':Heap}{E L:List (Nat×Obj)}(h:GRd H c rows nx)(kn:Kn H H' E L)(hE:∀l a b d,c=.vsl l a b d→l∉E.map Prod.fst):GRd H' c rows nx:=⟨h.s.keep kn hE,h.ow,h.no,h.x⟩
theorem GRd.keep0 {c:C}{rows:List (List C)}{nx:Nat→List Int}{H':Heap}{L:List (Nat×Obj)}(h:GRd H c rows nx)(kn:Kn H H' [] L):GRd H' c rows nx:=h.keep kn (by simp)
def gnx (q:CodeD):Nat→List Int:=fun i=>(q.blocks.map BlkD.next).getD i []
theorem Qi2 (H:Heap)(q:CodeD)(fl:Bool):GRd H (.sl fl 5 (Qn q.blocks)) (Qn q.blocks) (gnx q):=by
 refine⟨.mk' _ _ _ _,rfl,Qax0 _,fun i h=>?_⟩
 rw[Ql]at h
 rw[Qak _ _ h]
 have:gnx q i=q.blocks[i].next:=by simp[gnx,List.getD_eq_getElem?_getD,h]
 exact⟨.sl false 2 (Q0 q.blocks[i].phis),.sl false 4 (Qa1 q.blocks[i].ins),.int .i64 q.blocks[i].jump,.int .i64 q.blocks[i].on,false,by rw[this];rfl⟩
end Go.AE.Y

namespace Go.AE.Y
open Go.Proofs.Tryz
def Qan (S:List Bool):List (List C):=S.map fun b=>[.bool b]
theorem Qal (S:List Bool):(Qan S).length=S.length:=by simp[Qan]
theorem Qaf (S:List Bool)(i:Nat)(h:i<S.length):(Qan S).getD i []=[.bool (S.getD i false)]:=by
 simp[Qan,List.getD_eq_getElem?_getD,h]
theorem Q93 (S:List Bool)(i:Nat)(b:Bool):(Qan S).set i [.bool b]=Qan (S.set i b):=by simp[Qan,List.map_set]
theorem Q4s (S:List Bool):∀r∈Qan S,noOw r=true:=by intro r hr;obtain⟨x,_,rfl⟩:=List.mem_map.1 hr;rfl
def Qd6 (l:List Nat):List (List C):=Qg (l.map Int.ofNat)
theorem Qe1 (l:List Nat):(Qd6 l).length=l.length:=by simp[Qd6,Qc]
end Go.AE.Y

namespace Go.AE.Y
open Go.Proofs.Tryz
variable {H:Heap}{K:V→Heap→Prop}
theorem Qdg {n lo hi:Int}(hK:K (.c (.bool (decide (lo≤n)&&decide (n≤hi)))) H):Qp prog Qas [.c (.int .i64 n),.c (.int .i64 lo),.c (.int .i64 hi)] H K:=by
 refine Qb Qai Qayt ?_
 refine Qa ?_
 simp only[go_sem]
 refine Qa ?_
 simp only[go_sem]
 refine Qk ?_
 simp only[go_sem,Q4,Q7,Qabe,List.mem_singleton,forall_eq,RS.op]
 have:(bif decide (lo≤n)then decide (n≤hi)else false)=(decide (lo≤n)&&decide (n≤hi)):=by cases decide (lo≤n) <;> rfl
 first|exact hK|(rw[this];exact hK)|(simpa[this]using hK)
def IsIx (ns:List Int)(v r:Int):Prop:=(r=-1∧v∉ns)∨∃i:Nat,r=i∧i<ns.length∧ns.getD i 0=v∧v∉ns.take i
theorem IsIx.nonneg {ns:List Int}{v r:Int}(h:IsIx ns v r):decide (0≤r)=ns.contains v:=by
 rcases h with ⟨rfl,hn⟩|⟨i,rfl,h1,h2,_⟩
 ·have:ns.contains v=false:=by
   cases hc:ns.contains v with
   |false=>rfl
   |true=>exact absurd (List.contains_iff_mem.1 hc) hn
  rw[this];rfl
 ·have:v∈ns:=by
   rw[←h2,List.getD_eq_getElem?_getD,List.getElem?_eq_getElem h1];exact List.getElem_mem h1
  rw[List.contains_iff_mem.2 this];simp
theorem Qbhy {c:C}{ns:List Int}{v:Int}(hs:Slc H 1 (Qg ns) c)(how:c.isOw=false)(hK:∀r,IsIx ns v r→K (.c (.int .i64 r)) H) :
  Qp prog Qyj [.c c,.c (.int .i64 v)] H K:=by
 refine Qb Qai Qa6g ?_
 have hok:=eq_true hs.ok
 have hlen:=hs.len
 have hsz:=hs.sz
 have hrw:=hs.rows
 refine Qa ?_
 simp only[go_sem,how]
 refine Q5 ?_
 refine Qa ?_
 simp only[go_sem,how,hok,hlen,Qc]
 intro hl
 simp only[LIM]at hl
 refine Qi (Qf (Qx (fun m e1 H1=>∃(i:Nat),m=ns.length-i∧i≤ns.length∧H1=H∧v∉ns.take i∧e1=[(0,.c c),(1,.c (.int .i64 v)),(7,.c (.int .i64 ns.length)),(8,.c (.int .i64 i))]) ns.length ?_ ?_))
 ·exact⟨0,by omega,by omega,rfl,by simp,rfl⟩
 ·rintro m e1 H1 ⟨i,hm,hi,rfl,hno,rfl⟩
  refine Qa ?_
  simp only[go_sem,how]
  refine Qi (Qe rfl ?_ ?_)
  ·intro hc
   have hlt:i<ns.length:=by simpa using hc
   have hgd:ns.getD i 0=ns[i]:=by simp[List.getD_eq_getElem?_getD,hlt]
   refine Qh ?_
   simp only[go_sem]
   refine Qi (Qf ?_)
   refine Qa ?_
   simp only[go_sem,how]
   refine Qa ?_
   simp only[go_sem,how,hok,hlen,hsz,hrw,hlt,Qc,Qs _ _ hlt]
   refine Qe rfl ?_ ?_
   ·intro hc2
    have hv:v=ns.getD i 0:=by simpa using hc2
    refine Qa ?_
    simp only[go_sem]
    refine Qk ?_
    simp only[go_sem,X.next,Q4,Q7,Q26,List.mem_singleton,forall_eq,RS.op]
    exact hK _ (.inr ⟨i,rfl,hlt,hv.symm,hno⟩)
   ·intro hc2
    have hv:¬v=ns.getD i 0:=by simpa using hc2
    refine Qh ?_
    simp only[go_sem]
    refine Qv ?_
    simp only[go_sem,X.next]
    refine⟨Qr (by omega) (by omega),ns.length-(i+1),by omega,i+1,rfl,by omega,?_,rfl⟩
    rw[List.take_succ_eq_append_getElem hlt]
    simp only[List.mem_append,List.mem_singleton,not_or]
    exact⟨hno,fun h=>hv (by rw[hgd];exact h)⟩
  ·intro hc
   have hge:ns.length≤i:=by simpa using hc
   rw[List.take_of_length_le hge]at hno
   refine Qw ?_
   simp only[go_sem,X.next]
   refine Qa ?_
   simp only[go_sem]
   refine Qk ?_
   simp only[go_sem,Q4,Q7,Q26,List.mem_singleton,forall_eq,RS.op]
   exact hK _ (.inl ⟨rfl,hno⟩)
theorem Qanf {c:C}{ns:List Int}{v:Int}(hs:Slc H 1 (Qg ns) c)(how:c.isOw=false)(hK:K (.c (.bool (ns.contains v))) H) :
  Qp prog Qfj [.c c,.c (.int .i64 v)] H K:=by
 refine Qb Qai Qapo ?_
 refine Qa ?_
 simp only[go_sem,how]
 refine Qa ?_
 simp only[go_sem,how]
 refine Qbhy hs how fun r hr=>?_
 simp only[go_sem,Qpf]
 refine Qk ?_
 simp only[go_sem,Q4,Q7,Q0m,List.mem_singleton,forall_eq,RS.op]
 rw[hr.nonneg];exact hK
theorem Qaxx {c:C}{ns:List Int}{f:Nat}{caps:List C}{p:Int→Bool}(hs:Slc H 1 (Qg ns) c)(how:c.isOw=false)
  (hf:∀(x:Int) (K':V→Heap→Prop),x∈ns→K' (.c (.bool (p x))) H→Qp prog f ([.c (.int .i64 x)]++caps.map .c) H K')
  (hK:∀r:Int,decide (0≤r)=ns.any p→K (.c (.int .i64 r)) H) :
  Qp prog Qhp [.c c,.c (.fn f caps)] H K:=by
 refine Qb Qai Qaie ?_
 have hok:=eq_true hs.ok
 have hlen:=hs.len
 have hsz:=hs.sz
 have hrw:=hs.rows
 refine Qa ?_
 simp only[go_sem,how]
 refine Q5 ?_
 refine Qa ?_
 simp only[go_sem,how,hok,hlen,Qc]
 intro hl
 simp only[LIM]at hl
 refine Qi (Qf (Qx (fun m e1 H1=>∃(i:Nat),m=ns.length-i∧i≤ns.length∧H1=H∧(∀x∈ns.take i,p x=false)∧e1=[(0,.c c),(1,.c (.fn f caps)),(7,.c (.int .i64 ns.length)),(8,.c (.int .i64 i))]) ns.length ?_ ?_))
 ·exact⟨0,by omega,by omega,rfl,by simp,rfl⟩
 ·rintro m e1 H1 ⟨i,hm,hi,rfl,hno,rfl⟩
  refine Qa ?_
  simp only[go_sem,how]
  refine Qi (Qe rfl ?_ ?_)
  ·intro hc
   have hlt:i<ns.length:=by simpa using hc
   have hgd:ns.getD i 0=ns[i]:=by simp[List.getD_eq_getElem?_getD,hlt]
   refine Qh ?_
   simp only[go_sem]
   refine Qi (Qf ?_)
   refine Qa ?_
   simp only[go_sem,how]
   refine Qa ?_
   simp only[go_sem,how,hok,hlen,hsz,hrw,hlt,Qc,Qs _ _ hlt]
   refine hf _ _ (by rw[hgd];exact List.getElem_mem hlt) ?_
   refine Qe rfl ?_ ?_
   ·intro hc2
    refine Qa ?_
    simp only[go_sem]
    refine Qk ?_
    simp only[go_sem,X.next,Q4,Q7,Qkh,List.mem_singleton,forall_eq,RS.op]
    refine hK _ ?_
    have:ns.any p=true:=List.any_eq_true.2 ⟨ns[i],List.getElem_mem hlt,by rw[←hgd];exact hc2⟩
    rw[this];simp
   ·intro hc2
    refine Qh ?_
    simp only[go_sem]
    refine Qv ?_
    simp only[go_sem,X.next]
    refine⟨Qr (by omega) (by omega),ns.length-(i+1),by omega,i+1,rfl,by omega,?_,rfl⟩
    rw[List.take_succ_eq_append_getElem hlt]
    intro x hx
    rcases List.mem_append.1 hx with hx|hx
    ·exact hno x hx
    ·simp only[List.mem_singleton]at hx;subst hx;rw[←hgd];exact hc2
  ·intro hc
   have hge:ns.length≤i:=by simpa using hc
   rw[List.take_of_length_le hge]at hno
   refine Qw ?_
   simp only[go_sem,X.next]
   refine Qa ?_
   simp only[go_sem]
   refine Qk ?_
   simp only[go_sem,Q4,Q7,Qkh,List.mem_singleton,forall_eq,RS.op]
   refine hK _ ?_
   have:ns.any p=false:=by
    cases hc:ns.any p with
    |false=>rfl
    |true=>obtain⟨x,hx,hp⟩:=List.any_eq_true.1 hc;rw[hno x hx]at hp;exact absurd hp (by simp)
   rw[this];rfl
theorem Qfg {c:C}{ns:List Int}{f:Nat}{caps:List C}{p:Int→Bool}(hs:Slc H 1 (Qg ns) c)(how:c.isOw=false)
  (hf:∀(x:Int) (K':V→Heap→Prop),x∈ns→K' (.c (.bool (p x))) H→Qp prog f ([.c (.int .i64 x)]++caps.map .c) H K')
  (hK:K (.c (.bool (ns.any p))) H):Qp prog Qa8 [.c c,.c (.fn f caps)] H K:=by
 refine Qb Qai Q2y ?_
 refine Qa ?_
 simp only[go_sem,how]
 refine Qa ?_
 simp only[go_sem,how]
 refine Qaxx hs how hf fun r hr=>?_
 simp only[go_sem,Qgn]
 refine Qk ?_
 simp only[go_sem,Q4,Q7,Qlc,List.mem_singleton,forall_eq,RS.op]
 rw[hr];exact hK
theorem Qasl {c:C}{rows:List (List C)}{f:Nat}{caps:List C}{p:Nat→Bool}(hs:Slc H 5 rows c)(how:c.isOw=false)(hno:∀r∈rows,noOw r=true)(h5:∀i,i<rows.length→(rows.getD i []).length=5)
  (hf:∀(i:Nat) (K':V→Heap→Prop),i<rows.length→K' (.c (.bool (p i))) H→Qp prog f ([.ag (rows.getD i [])]++caps.map .c) H K')
  (hK:∀r:Int,decide (0≤r)=(List.range rows.length).any p→K (.c (.int .i64 r)) H) :
  Qp prog Qch [.c c,.c (.fn f caps)] H K:=by
 refine Qb Qai Qvg ?_
 have hok:=eq_true hs.ok
 have hlen:=hs.len
 have hsz:=hs.sz
 have hrw:=hs.rows
 refine Qa ?_
 simp only[go_sem,how]
 refine Q5 ?_
 refine Qa ?_
 simp only[go_sem,how,hok,hlen]
 intro hl
 simp only[LIM]at hl
 refine Qi (Qf (Qx (fun m e1 H1=>∃(i:Nat),m=rows.length-i∧i≤rows.length∧H1=H∧(∀x,x<i→p x=false)∧e1=[(0,.c c),(1,.c (.fn f caps)),(7,.c (.int .i64 rows.length)),(8,.c (.int .i64 i))]) rows.length ?_ ?_))
 ·exact⟨0,by omega,by omega,rfl,by simp,rfl⟩
 ·rintro m e1 H1 ⟨i,hm,hi,rfl,hall,rfl⟩
  refine Qa ?_
  simp only[go_sem,how]
  refine Qi (Qe rfl ?_ ?_)
  ·intro hc
   have hlt:i<rows.length:=by simpa using hc
   have htk:(rows.getD i []).take 5=rows.getD i []:=List.take_of_length_le (by rw[h5 i hlt];omega)
   have hle:(5≤(rows.getD i []).length)=True:=eq_true (by rw[h5 i hlt];omega)
   have hnw:noOw (rows.getD i [])=true:=hno _ (by rw[List.getD_eq_getElem?_getD,List.getElem?_eq_getElem hlt];exact List.getElem_mem hlt)
   have haw:((rows.getD i []).all fun c=>!c.isOw)=true:=hnw
   refine Qh ?_
   simp only[go_sem]
   refine Qi (Qf ?_)
   refine Qa ?_
   simp only[go_sem,how]
   refine Qa ?_
   simp only[go_sem,how,hok,hlen,hsz,hrw,hlt,htk,hle,hnw,haw,List.drop_zero]
   refine hf _ _ hlt ?_
   refine Qe rfl ?_ ?_
   ·intro hc2
    refine Qa ?_
    simp only[go_sem]
    refine Qk ?_
    simp only[go_sem,X.next,Q4,Q7,Qc2,List.mem_singleton,forall_eq,RS.op]
    refine hK _ ?_
    have:(List.range rows.length).any p=true:=List.any_eq_true.2 ⟨i,List.mem_range.2 hlt,hc2⟩
    rw[this];simp
   ·intro hc2
    refine Qh ?_
    simp only[go_sem]
    refine Qv ?_
    simp only[go_sem,X.next]
    refine⟨Qr (by omega) (by omega),rows.length-(i+1),by omega,i+1,rfl,by omega,?_,rfl⟩
    intro x hx
    by_cases h:x<i
    ·exact hall x h
    ·have:x=i:=by omega
     subst this;exact hc2
  ·intro hc
   have hge:rows.length≤i:=by simpa using hc
   refine Qw ?_
   simp only[go_sem,X.next]
   refine Qa ?_
   simp only[go_sem]
   refine Qk ?_
   simp only[go_sem,Q4,Q7,Qc2,List.mem_singleton,forall_eq,RS.op]
   refine hK _ ?_
   have:(List.range rows.length).any p=false:=by
    cases hc:(List.range rows.length).any p with
    |false=>rfl
    |true=>obtain⟨x,hx,hp⟩:=List.any_eq_true.1 hc;rw[hall x (by have:=List.mem_range.1 hx;omega)]at hp;exact absurd hp (by simp)
   rw[this];rfl
theorem Q91 {c:C}{rows:List (List C)}{f:Nat}{caps:List C}{p:Nat→Bool}(hs:Slc H 5 rows c)(how:c.isOw=false)(hno:∀r∈rows,noOw r=true)(h5:∀i,i<rows.length→(rows.getD i []).length=5)
  (hf:∀(i:Nat) (K':V→Heap→Prop),i<rows.length→K' (.c (.bool (p i))) H→Qp prog f ([.ag (rows.getD i [])]++caps.map .c) H K')
  (hK:K (.c (.bool ((List.range rows.length).any p))) H):Qp prog Qbv [.c c,.c (.fn f caps)] H K:=by
 refine Qb Qai Qmw ?_
 refine Qa ?_
 simp only[go_sem,how]
 refine Qa ?_
 simp only[go_sem,how]
 refine Qasl hs how hno h5 hf fun r hr=>?_
 simp only[go_sem,Qcx]
 refine Qk ?_
 simp only[go_sem,Q4,Q7,Qd9,List.mem_singleton,forall_eq,RS.op]
 rw[hr];exact hK
theorem Qas5 {p rg:Int}{bc:C}{rows:List (List C)}{nx:Nat→List Int}(hg:GRd H bc rows nx)(hK:K (.c (.bool (Qmi rows.length nx))) H):Qp prog Qgv [.ag [.int .i64 p,.int .i64 rg,bc]] H K:=by
 have how:=hg.ow
 have hok:=eq_true hg.s.ok
 have hlen:=hg.s.len
 have h5:∀i,i<rows.length→(rows.getD i []).length=5:=fun i hi=>by obtain⟨a1,a2,a3,a4,fl,h⟩:=hg.x i hi;rw[h];rfl
 refine Qb Qai Qate ?_
 refine Qa ?_
 simp only[go_sem,how]
 refine Qa ?_
 simp only[go_sem,how,hok,hlen]
 intro hl
 simp only[LIM]at hl
 refine⟨fun hc=>?_,fun hc=>?_⟩
 ·have hn:0<rows.length:=by simpa using hc
  refine Q91 (p:=fun i=>(nx i).any fun x=>!(decide (0≤x)&&decide (x≤(rows.length:Int)-1))) hg.s how hg.no h5 (fun i K' hi hK'=>?_) ?_
  ·obtain⟨a1,a2,a3,a4,fl,hrow⟩:=hg.x i hi
   rw[hrow]
   refine Qb Qai Qaax ?_
   refine Qa ?_
   simp only[go_sem,List.cons_append,List.nil_append,List.map_cons,List.map_nil]
   refine Qa ?_
   simp only[go_sem]
   refine Qfg (ns:=nx i) (p:=fun x=>!(decide (0≤x)&&decide (x≤(rows.length:Int)-1))) (.mk' _ _ _ _) rfl (fun x K'' hx hK''=>?_) ?_
   ·refine Qb Qai Qz2 ?_
    refine Qa ?_
    simp only[go_sem,List.cons_append,List.nil_append,List.map_cons,List.map_nil]
    refine Qa ?_
    simp only[go_sem,how,hok,hlen]
    intro _
    refine⟨Qr (by omega) (by omega),?_⟩
    refine Qdg ?_
    simp only[go_sem,Qfv]
    refine Qk ?_
    simp only[go_sem,Q4,Q7,Qi8,List.mem_singleton,forall_eq,RS.op]
    exact hK''
   ·simp only[go_sem,Qjl]
    refine Qk ?_
    simp only[go_sem,Q4,Q7,Qrh,List.mem_singleton,forall_eq,RS.op]
    exact hK'
  ·simp only[go_sem,Qia,hc]
   refine Qk ?_
   simp only[go_sem,Q4,Q7,Qrg,List.mem_singleton,forall_eq,RS.op]
   have:Qmi rows.length nx = !((List.range rows.length).any fun i=>(nx i).any fun x=>!(decide (0≤x)&&decide (x≤(rows.length:Int)-1))):=by
    simp only[Qmi,hn,decide_true,Bool.and_true,List.not_any_eq_all_not,Bool.not_not,Bool.decide_and]
   rw[←this];exact hK
 ·have hn:rows.length=0:=by have:¬0<rows.length:=(by simpa using hc);omega
  simp only[go_sem,Qia,hc]
  refine Qk ?_
  simp only[go_sem,Q4,Q7,Qrg,List.mem_singleton,forall_eq,RS.op]
  have:Qmi rows.length nx=false:=by simp[Qmi,hn]
  rw[this]at hK;exact hK
end Go.AE.Y

namespace Go.AE.Y
attribute [local instance] Classical.propDecidable
inductive Rch (g:Nat→List Nat)(A:Nat→Prop):Nat→Nat→Prop
 |refl {x:Nat}:¬A x→Rch g A x x
 |step {x y z:Nat}:Rch g A x y→z∈g y→¬A z→Rch g A x z
variable {g:Nat→List Nat}{A B:Nat→Prop}{x y z:Nat}
theorem Rch.mono (h:Rch g A x y)(hAB:∀z,B z→A z):Rch g B x y:=by
 induction h with
 |refl h=>exact .refl fun hb=>h (hAB _ hb)
 |step h1 h2 h3 ih=>exact ih.step h2 fun hb=>h3 (hAB _ hb)
theorem Rch.fst (h:Rch g A x y):¬A x:=by
 induction h with
 |refl h=>exact h
 |step _ _ _ ih=>exact ih
theorem Rch.snd (h:Rch g A x y):¬A y:=by
 cases h with
 |refl h=>exact h
 |step _ _ h=>exact h
theorem Rch.trans (h:Rch g A x y)(k:Rch g A y z):Rch g A x z:=by
 induction k with
 |refl _=>exact h
 |step _ h2 h3 ih=>exact ih.step h2 h3
theorem Rch.head (hx:¬A x)(hy:y∈g x)(h:Rch g A y z):Rch g A x z:=(Rch.step (.refl hx) hy h.fst).trans h
theorem Rch.lt {n:Nat}(hg:∀x,x<n→∀y∈g x,y<n)(h:Rch g A x y)(hx:x<n):y<n:=by
 induction h with
 |refl _=>exact hx
 |step _ h2 _ ih=>exact hg _ ih _ h2
variable {xs:List Nat}{S S' S1:List Bool}{o o' o1:List Nat}
theorem Dfs.adds (h:Dfs g xs S o S' o'):(∀x,x<S.length→∀y∈g x,y<S.length)→(∀x∈xs,x<S.length)→
  ∃t,o'=o++t∧(∀x,S'.getD x false=true↔S.getD x false=true∨x∈t)∧(∀x∈t,∀y∈g x,S'.getD y false=true)∧
   (∀x∈xs,S'.getD x false=true)∧(∀y∈t,∃x∈xs,Rch g (fun z=>S.getD z false=true) x y):=by
 induction h with
 |nil S o=>exact fun _ _=>⟨[],by simp,by simp,by simp,by simp,by simp⟩
 |@skip x xs S S' o o' h1 h2 ih=>
  intro hg hx
  obtain⟨t,e,a1,a2,a3,a4⟩:=ih hg fun y hy=>hx y (List.mem_cons_of_mem _ hy)
  refine⟨t,e,a1,a2,fun y hy=>?_,fun y hy=>?_⟩
  ·rcases List.mem_cons.1 hy with rfl|hy
   ·exact h2.mono _ h1
   ·exact a3 y hy
  ·obtain⟨z,hz,hr⟩:=a4 y hy
   exact⟨z,List.mem_cons_of_mem _ hz,hr⟩
 |@go x xs S S1 S' o o1 o' h1 h2 h3 ih1 ih2=>
  intro hg hxs
  have hx:=hxs x List.mem_cons_self
  have hl:=h2.len
  rw[List.length_set]at hl
  obtain⟨t1,e1,a1,a2,a3,a4⟩:=ih1 (by simpa using hg) (by simpa using hg x hx)
  obtain⟨t2,e2,b1,b2,b3,b4⟩:=ih2 (by rw[hl];exact hg) (by rw[hl];exact fun y hy=>hxs y (List.mem_cons_of_mem _ hy))
  have hset:∀y,(S.set x true).getD y false=true↔y=x∨S.getD y false=true:=by
   intro y
   rw[Q9p]
   by_cases hyx:y=x
   ·simp[hyx,hx]
   ·simp[hyx]
  have hmono:∀y,S.getD y false=true→S1.getD y false=true:=fun y hy=>(a1 y).2 (.inl ((hset y).2 (.inr hy)))
  have hxS1:S1.getD x false=true:=(a1 x).2 (.inl ((hset x).2 (.inl rfl)))
  refine⟨t1++[x]++t2,by rw[e2,e1];simp,fun y=>?_,fun y hy z hz=>?_,fun y hy=>?_,fun y hy=>?_⟩
  ·rw[b1,a1,hset]
   simp only[List.mem_append,List.mem_singleton]
   constructor
   ·rintro (((h|h)|h)|h)
    ·exact .inr (.inl (.inr h))
    ·exact .inl h
    ·exact .inr (.inl (.inl h))
    ·exact .inr (.inr h)
   ·rintro (h|((h|h)|h))
    ·exact .inl (.inl (.inr h))
    ·exact .inl (.inr h)
    ·exact .inl (.inl (.inl h))
    ·exact .inr h
  ·rcases List.mem_append.1 hy with hy|hy
   ·rcases List.mem_append.1 hy with hy|hy
    ·exact (b1 z).2 (.inl (a2 y hy z hz))
    ·simp only[List.mem_singleton]at hy;subst hy
     exact (b1 z).2 (.inl (a3 z hz))
   ·exact b2 y hy z hz
  ·rcases List.mem_cons.1 hy with rfl|hy
   ·exact (b1 y).2 (.inl hxS1)
   ·exact b3 y hy
  ·rcases List.mem_append.1 hy with hy|hy
   ·rcases List.mem_append.1 hy with hy|hy
    ·obtain⟨z,hz,hr⟩:=a4 y hy
     exact⟨x,List.mem_cons_self,.head (by rw[h1];simp) hz (hr.mono fun w hw=>(hset w).2 (.inr hw))⟩
    ·simp only[List.mem_singleton]at hy;subst hy
     exact⟨y,List.mem_cons_self,.refl (by rw[h1];simp)⟩
   ·obtain⟨z,hz,hr⟩:=b4 y hy
    exact⟨z,List.mem_cons_of_mem _ hz,hr.mono hmono⟩
theorem Dfs.seen (h:Dfs g xs S o S' o')(hg:∀x,x<S.length→∀y∈g x,y<S.length)(hxs:∀x∈xs,x<S.length)(y:Nat) :
  S'.getD y false=true↔S.getD y false=true∨∃x∈xs,Rch g (fun z=>S.getD z false=true) x y:=by
 obtain⟨t,e,a1,a2,a3,a4⟩:=h.adds hg hxs
 constructor
 ·intro hy
  rcases (a1 y).1 hy with hy|hy
  ·exact .inl hy
  ·exact .inr (a4 y hy)
 ·rintro (hy|⟨x,hx,hr⟩)
  ·exact h.mono y hy
  ·induction hr with
   |refl _=>exact a3 _ hx
   |step h1 h2 h3 ih=>
    rcases (a1 _).1 ih with h|h
    ·exact absurd h h1.snd
    ·exact a2 _ h _ h2
theorem Qa9a:∀{l k:List Nat},l.Pairwise (· < ·)→k.Pairwise (· < ·)→(∀x,x∈l↔x∈k)→l=k
 |[],[],_,_,_=>rfl
 |[],b::k,_,_,h=>by have:=(h b).2 List.mem_cons_self;simp at this
 |a::l,[],_,_,h=>by have:=(h a).1 List.mem_cons_self;simp at this
 |a::l,b::k,h1,h2,h=>by
  rw[List.pairwise_cons]at h1 h2
  have hab:a=b:=by
   rcases List.mem_cons.1 ((h a).1 List.mem_cons_self)with e|e
   ·exact e
   ·rcases List.mem_cons.1 ((h b).2 List.mem_cons_self)with e'|e'
    ·exact e'.symm
    ·have:=h1.1 b e';have:=h2.1 a e;omega
  subst hab
  congr 1
  refine Qa9a h1.2 h2.2 fun x=>⟨fun hx=>?_,fun hx=>?_⟩
  ·rcases List.mem_cons.1 ((h x).1 (List.mem_cons_of_mem _ hx))with e|e
   ·subst e;have:=h1.1 x hx;omega
   ·exact e
  ·rcases List.mem_cons.1 ((h x).2 (List.mem_cons_of_mem _ hx))with e|e
   ·subst e;have:=h2.1 x hx;omega
   ·exact e
theorem Qa9b {l:List Nat}{n:Nat}{p:Nat→Bool}(h1:l.Pairwise (· < ·))(h:∀x,x∈l↔x<n∧p x=true):l=(List.range n).filter p:=
 Qa9a h1 (List.Pairwise.filter _ List.pairwise_lt_range) fun x=>by rw[h];simp[List.mem_filter]
noncomputable def Qva (g:Nat→List Nat)(a:Int)(x:Nat):Bool:=decide (Rch g (fun z=>(z:Int)=a) 0 x)
noncomputable def Qef (g:Nat→List Nat)(a b:Nat):Bool:=Qva g (-1) a&&Qva g (-1) b&&!Qva g a b
def Qapt (n:Nat)(g:Nat→List Nat)(h:Nat):List Nat:=(List.range n).filter fun i=>decide (h∈g i)
noncomputable def Qbms (n:Nat)(g:Nat→List Nat)(h:Nat):Bool:=(Qapt n g h).any fun p=>Qef g h p
noncomputable def Qbmt (n:Nat)(g:Nat→List Nat):List Nat:=(List.range n).filter (Qbms n g)
inductive Bdy (n:Nat)(g:Nat→List Nat)(h:Nat):Nat→Prop
 |head:Bdy n g h h
 |back {p:Nat}:p∈Qapt n g h→Qef g h p=true→Bdy n g h p
 |more {b p:Nat}:Bdy n g h b→b≠h→p∈Qapt n g b→Qva g (-1) p=true→Bdy n g h p
noncomputable def Qa9g (n:Nat)(g:Nat→List Nat)(h:Nat):List Nat:=(List.range n).filter fun b=>decide (Bdy n g h b)
variable {n h:Nat}
theorem predL_mem {p:Nat}:p∈Qapt n g h↔p<n∧h∈g p:=by simp[Qapt]
theorem Bdy.lt {b:Nat}(hh:h<n)(hb:Bdy n g h b):b<n:=by
 cases hb with
 |head=>exact hh
 |back h1 _=>exact (predL_mem.1 h1).1
 |more _ _ h1 _=>exact (predL_mem.1 h1).1
theorem Qa9i (hh:h<n){b:Nat}:b∈Qa9g n g h↔Bdy n g h b:=by
 simp only[Qa9g,List.mem_filter,List.mem_range,decide_eq_true_eq]
 exact⟨fun h=>h.2,fun h=>⟨h.lt hh,h⟩⟩
theorem Qa9h:(Qa9g n g h).Pairwise (· < ·):=List.Pairwise.filter _ List.pairwise_lt_range
end Go.AE.Y

namespace Go.AE.Y
open Go.Proofs.Tryz
variable {H:Heap}{K:V→Heap→Prop}
theorem GRd.ows {c:C}{rows:List (List C)}{nx:Nat→List Int}(h:GRd H c rows nx){i:Nat}(hi:i<rows.length){a1 a2 a3 a4 a5:C}(hr:rows.getD i []=[a1,a2,a3,a4,a5]) :
  a1.isOw=false∧a2.isOw=false∧a3.isOw=false∧a4.isOw=false∧a5.isOw=false:=by
 have:=h.no _ (List.getElem_mem hi)
 have e:rows[i]=[a1,a2,a3,a4,a5]:=by rw[←hr];simp[List.getD_eq_getElem?_getD,hi]
 rw[e]at this
 simpa[Go.AE.noOw]using this
def Qkd (nx:Nat→List Int)(b:Int)(n:Nat):List Int:=if decide (0≤b)&&decide (b≤(n:Int)-1)then Q1 nx b n else []
set_option maxHeartbeats 1000000 in
theorem Qzu {p rg:Int}{bc:C}{rows:List (List C)}{nx:Nat→List Int}{b:Int}(hg:GRd H bc rows nx)
  (hK:∀fl H',Upd H H' []→K (.c (.sl fl 1 (Qg (Qkd nx b rows.length)))) H'):Qp prog Qcn [.ag [.int .i64 p,.int .i64 rg,bc],.c (.int .i64 b)] H K:=by
 refine Qu ?_
 refine Qb Qai Qatd ?_
 have how:=hg.ow
 have hok:=eq_true hg.s.ok
 have hlen:=hg.s.len
 have hsz:=hg.s.sz
 refine Qa ?_
 simp only[go_sem,how]
 refine Qa ?_
 simp only[go_sem,how]
 refine Q5 ?_
 refine Qa ?_
 simp only[go_sem,how,hok,hlen]
 intro hl
 simp only[LIM]at hl
 refine⟨Qr (by omega) (by omega),?_⟩
 refine Qdg ?_
 simp only[go_sem,Qrq]
 refine Qi (Qe rfl ?_ ?_)
 ·intro hc
  have hc':=Qvh hc
  refine Qa ?_
  simp only[go_sem]
  refine Qk ?_
  simp only[go_sem,Q4,Q7,Qrd,List.mem_singleton,forall_eq,RS.op]
  have h:=hK false _ (Kn.start0 H).fin
  simp only[Qkd,hc']at h
  exact⟨_,.c _ _ FrzR.nil.sl,h⟩
 ·intro hc
  have hc':=Qht hc
  refine Qh ?_
  simp only[go_sem]
  refine Q5 ?_
  refine Qa ?_
  simp only[go_sem,how,hok,hlen]
  intro _
  refine Qi (Qf (Qx (fun m e1 H1=>∃(i:Nat) (c:C) (Lg:List (Nat×Obj)),m=rows.length-i∧i≤rows.length∧Gr Lg 1 (Qg (Q1 nx b i)) c∧Kn H H1 [] ([]++Lg)∧
   e1=[(1,.c (.int .i64 b)),(5,.c c),(16,.c bc),(17,.c (.int .i64 rows.length)),(18,.c (.int .i64 i))]) rows.length ?_ ?_))
  ·exact⟨0,_,[],by omega,by omega,.nil 1,Kn.start0 H,rfl⟩
  ·rintro m e1 H1 ⟨i,c,Lg,hm,hi,hgr,kn,rfl⟩
   have hg1:=hg.keep0 kn
   have hok1:=eq_true hg1.s.ok
   have hrw1:=hg1.s.rows
   refine Qa ?_
   simp only[go_sem]
   refine Qi (Qe rfl ?_ ?_)
   ·intro hc
    have hlt:i<rows.length:=by simpa using hc
    obtain⟨a1,a2,a3,a4,fl,hrow⟩:=hg.x i hlt
    obtain⟨o1,o2,o3,o4,_⟩:=hg.ows hlt hrow
    refine Qh ?_
    simp only[go_sem]
    refine Qvd (fun e2 H2=>∃(c:C) (Lg:List (Nat×Obj)),Gr Lg 1 (Qg (Q1 nx b (i+1))) c∧Kn H H2 [] ([]++Lg)∧
     lk 1 e2=.c (.int .i64 b)∧lk 5 e2=.c c∧lk 16 e2=.c bc∧lk 17 e2=.c (.int .i64 rows.length)∧lk 18 e2=.c (.int .i64 i)) ?_ ?_
    ·intro Q hnr _ _
     refine Qf ?_
     refine Qa ?_
     simp only[go_sem,how,hok1,hlen,hsz,hrw1,hlt,hrow,o1,o2,o3,o4]
     intro x hx H2 h2
     have kn:=(kn.al hx h2).perm List.perm_append_comm
     have hx2:=kn.l 0 rfl
     simp only[go_sem,Qrr,hx2]
     intro H3 h3
     have kn:=kn.stL 0 rfl h3
     have hx3:=kn.l 0 rfl
     refine Qa ?_
     simp only[go_sem,hx3]
     refine Qanf (.mk' _ _ _ _) rfl ?_
     refine Qe rfl ?_ ?_
     ·intro hcon
      have hpl:=Qbk nx b i
      refine Qv ?_
      simp only[go_sem]
      refine kn.grow (B:=[_]) (new:=Qg [(i:Int)]) hgr (.mk' _ _ _ _) (Qt _) (by simp only[Qc,LIM,List.length_cons,List.length_nil];omega) fun y' H4 kn=>?_
      simp only[go_sem,Qrs]
      refine hnr _ _ ⟨_,_,?_,(kn.perm List.perm_append_comm).drop,rfl,rfl,rfl,rfl,rfl⟩
      rw[Qi5,hcon,if_pos rfl,Qby]
      exact .mk _ _ _ (by simp)
     ·intro hcon
      refine Qh ?_
      simp only[go_sem]
      refine hnr _ _ ⟨c,Lg,?_,?_,rfl,rfl,rfl,rfl,rfl⟩
      ·rw[Qi5,hcon]
       simpa using hgr
      ·have kn:Kn H H3 [] ([(x,.st [a1,a2,a3,a4,.sl fl 1 (Qg (nx i))])]++([]++Lg)):=kn
       exact (kn.perm List.perm_append_comm).drop
    ·rintro e2 H2 ⟨c2,Lg2,hgr,kn,l1,l5,l16,l17,l18⟩
     refine Qv ?_
     simp only[go_sem,X.next,l1,l5,l16,l17,l18]
     exact⟨Qr (by omega) (by omega),rows.length-(i+1),by omega,i+1,c2,Lg2,rfl,by omega,hgr,kn,rfl⟩
   ·intro hc
    have hge:i=rows.length:=by have:¬i<rows.length:=(by simpa using hc);omega
    subst hge
    refine Qw ?_
    simp only[go_sem,X.next]
    refine Qa ?_
    simp only[go_sem,hgr.isOw]
    refine Qk ?_
    simp only[go_sem,Q4,Q7,Qrd,List.mem_singleton,forall_eq,RS.op,hgr.isOw]
    refine⟨_,.c _ _ (hgr.frz kn (Qt _)),?_⟩
    have:=hK false _ kn.fin
    simp only[Qkd,hc']at this
    exact this
end Go.AE.Y

namespace Go.AE.Y
attribute [local instance] Classical.propDecidable
structure Wk (g:Nat→List Nat)(a:Int)(n:Nat)(S:List Bool)(T:List Nat):Prop where
 len:S.length=n
 s:∀x,S.getD x false=true→Rch g (fun z=>(z:Int)=a) 0 x
 t:∀x∈T,(x:Int)≠a→Rch g (fun z=>(z:Int)=a) 0 x
 c:∀x,S.getD x false=true→∀y∈g x,S.getD y false=true∨(y:Int)=a∨y∈T
 z:S.getD 0 false=true∨((0:Nat):Int)=a∨0∈T
 r:∀x∈T,x<n
variable {g:Nat→List Nat}{a:Int}{n:Nat}{S:List Bool}{T:List Nat}{b:Nat}
theorem Qwy (n x:Nat):(List.replicate n false).getD x false=false:=by
 simp only[List.getD_eq_getElem?_getD,List.getElem?_replicate]
 split <;> rfl
theorem Wk.init (hn:0<n):Wk g a n (List.replicate n false) [0]:=by
 refine⟨by simp,fun x h=>?_,fun x hx ha=>?_,fun x h=>?_,.inr (.inr (by simp)),fun x hx=>?_⟩
 ·rw[Qwy]at h;simp at h
 ·simp at hx;subst hx;exact .refl (by simpa using ha)
 ·rw[Qwy]at h;simp at h
 ·simp at hx;omega
theorem Wk.skip (h:Wk g a n S (T++[b]))(hb:(b:Int)=a∨S.getD b false=true):Wk g a n S T:=by
 refine⟨h.len,h.s,fun x hx=>h.t x (List.mem_append_left _ hx),fun x hx y hy=>?_,?_,fun x hx=>h.r x (List.mem_append_left _ hx)⟩
 ·rcases h.c x hx y hy with h1|h1|h1
  ·exact .inl h1
  ·exact .inr (.inl h1)
  ·rcases List.mem_append.1 h1 with h1|h1
   ·exact .inr (.inr h1)
   ·simp at h1;subst h1
    rcases hb with hb|hb
    ·exact .inr (.inl hb)
    ·exact .inl hb
 ·rcases h.z with h1|h1|h1
  ·exact .inl h1
  ·exact .inr (.inl h1)
  ·rcases List.mem_append.1 h1 with h1|h1
   ·exact .inr (.inr h1)
   ·simp at h1;subst h1
    rcases hb with hb|hb
    ·exact .inr (.inl hb)
    ·exact .inl hb
theorem Wk.go (h:Wk g a n S (T++[b]))(hba:(b:Int)≠a)(hg:∀y∈g b,y<n):Wk g a n (S.set b true) (T++g b):=by
 have hb:=h.t b (by simp) hba
 have hbn:=h.r b (by simp)
 have hset:∀y,(S.set b true).getD y false=true↔y=b∨S.getD y false=true:=by
  intro y
  rw[Q9p]
  by_cases hyx:y=b
  ·simp[hyx,h.len,hbn]
  ·simp[hyx]
 refine⟨by simp[h.len],fun x hx=>?_,fun x hx ha=>?_,fun x hx y hy=>?_,?_,fun x hx=>?_⟩
 ·rcases (hset x).1 hx with rfl|hx
  ·exact hb
  ·exact h.s x hx
 ·rcases List.mem_append.1 hx with hx|hx
  ·exact h.t x (List.mem_append_left _ hx) ha
  ·exact hb.step hx ha
 ·rcases (hset x).1 hx with rfl|hx
  ·exact .inr (.inr (List.mem_append_right _ hy))
  ·rcases h.c x hx y hy with h1|h1|h1
   ·exact .inl ((hset y).2 (.inr h1))
   ·exact .inr (.inl h1)
   ·rcases List.mem_append.1 h1 with h1|h1
    ·exact .inr (.inr (List.mem_append_left _ h1))
    ·simp at h1;subst h1;exact .inl ((hset y).2 (.inl rfl))
 ·rcases h.z with h1|h1|h1
  ·exact .inl ((hset 0).2 (.inr h1))
  ·exact .inr (.inl h1)
  ·rcases List.mem_append.1 h1 with h1|h1
   ·exact .inr (.inr (List.mem_append_left _ h1))
   ·simp at h1;exact .inl ((hset 0).2 (.inl h1))
 ·rcases List.mem_append.1 hx with hx|hx
  ·exact h.r x (List.mem_append_left _ hx)
  ·exact hg x hx
theorem Wk.fin (h:Wk g a n S []):S=(List.range n).map (Qva g a):=by
 have hh:∀x,S.getD x false=true↔Rch g (fun z=>(z:Int)=a) 0 x:=by
  refine fun x=>⟨h.s x,fun hr=>?_⟩
  induction hr with
  |refl h0=>
   rcases h.z with h1|h1|h1
   ·exact h1
   ·exact absurd h1 h0
   ·simp at h1
  |step h1 h2 h3 ih=>
   rcases h.c _ ih _ h2 with h4|h4|h4
   ·exact h4
   ·exact absurd h4 h3
   ·simp at h4
 refine List.ext_getElem? fun x=>?_
 by_cases hx:x<n
 ·have hxs:x<S.length:=by rw[h.len];exact hx
  have:=hh x
  simp only[List.getD_eq_getElem?_getD,List.getElem?_eq_getElem hxs,Option.getD_some]at this
  rw[List.getElem?_eq_getElem hxs]
  simp only[List.getElem?_map,List.getElem?_range hx,Option.map_some,Qva]
  congr 1
  by_cases hr:Rch g (fun z=>(z:Int)=a) 0 x
  ·rw[this.2 hr,decide_eq_true hr]
  ·rw[decide_eq_false hr]
   cases hv:S[x]with
   |false=>rfl
   |true=>exact absurd (this.1 hv) hr
 ·rw[List.getElem?_eq_none (by rw[h.len];omega),List.getElem?_eq_none (by simp;omega)]
end Go.AE.Y

namespace Go.AE.Y
open Go.Proofs.Tryz
variable {H H0:Heap}{K:V→Heap→Prop}
theorem Qa6i {n:Nat}{nx:Nat→List Int}(h:Qmi n nx=true){b:Nat}(hb:b<n):Qd6 (nxN nx b)=Qg (nx b):=by
 simp only[Qd6,nxN,List.map_map]
 congr 1
 conv=>rhs;rw[←List.map_id (nx b)]
 refine List.map_congr_left fun x hx=>?_
 have:=Qas0 h hb hx
 simp only[Function.comp_def,id]
 exact Int.toNat_of_nonneg this.1
theorem Qkv (n:Nat):List.replicate n [C.bool false]=Qan (List.replicate n false):=by simp[Qan]
theorem Qay1 (l:List Nat)(i:Nat)(h:i<l.length):(Qd6 l).getD i []=[.int .i64 ((l.getD i 0:Nat):Int)]:=by
 simp[Qd6,Qg,List.getD_eq_getElem?_getD,h]
theorem Qan1 (a b:List Nat):Qd6 (a++b)=Qd6 a++Qd6 b:=by simp[Qd6,Qg]
end Go.AE.Y
namespace Go.AE
open Go.AE.Y
open Go.Proofs.Tryz
variable {H H0:Heap}{K:V→Heap→Prop}
theorem Kn.growW {E B:List (Nat×Obj)}{K:V→Heap→Prop}{sz z k:Nat}{R rows new:List (List C)}{b:C}(kn:Kn H0 H E (B++[(z,.vec sz R)]))(hR:R.take k=rows)(hk:k=rows.length)(hb:Slc H sz new b)
  (h1:∀r∈new,noOw r=true) (h2:rows.length+new.length≤LIM)
  (h:∀y' H',Kn H0 H' E (B++[(y',.vec sz (rows++new))])→K (.c (.vsl y' sz 0 (rows.length+new.length))) H'):appQ H sz (.vsl z sz 0 k) b K:=by
 have hle:rows.length≤R.length:=by rw[←hR,List.length_take];omega
 subst hk
 refine⟨hb.ok,hb.sz,?_⟩
 have hy:H z=.vec sz R:=(kn.get (z,.vec sz R) (by simp)).1
 simp only[hy,hb.rows,hb.len,List.drop_zero,hR]
 refine⟨trivial,trivial,by omega,h1,h2,fun l' hl' H' hH'=>?_⟩
 refine h l' H' ?_
 have:=kn.ap B.length (y:=z) (o:=.vec sz R) (by simp) hl' hH'
 simpa using this
end Go.AE
namespace Go.AE.Y
open Go.Proofs.Tryz
variable {H H0:Heap}{K:V→Heap→Prop}
set_option maxHeartbeats 2000000 in
theorem Qn1 {p rg:Int}{bc:C}{rows:List (List C)}{nx:Nat→List Int}{a:Int}(hg:GRd H bc rows nx)(hfit:Qmi rows.length nx=true)(hn:rows.length≤10000)(hM:∀i,i<rows.length→(nx i).length≤1000)
  (hK:∀H',Upd H H' []→K (.c (.sl false 1 (Qan ((List.range rows.length).map (Qva (nxN nx) a))))) H') :
  Qp prog Qbn [.ag [.int .i64 p,.int .i64 rg,bc],.c (.int .i64 a)] H K:=by
 refine Qu ?_
 refine Qb Qai Qyo ?_
 have how:=hg.ow
 have hok:=eq_true hg.s.ok
 have hlen:=hg.s.len
 have hsz:=hg.s.sz
 have hn0:=Qas1 hfit
 refine Qa ?_
 simp only[go_sem,how]
 refine Qa ?_
 simp only[go_sem,how,hok,hlen,Qkv]
 intro hl
 refine⟨by simp only[LIM];omega,fun y hy H1 h1=>?_⟩
 have kn:=(Kn.start0 H).al hy h1
 simp only[go_sem,Qep]
 refine Qa ?_
 simp only[go_sem]
 intro z hz H2 h2
 have kn:=kn.al hz h2
 have inv0:Kn H H2 [] ([(y,.vec 1 (Qan (List.replicate rows.length false)))]++[(z,.vec 1 (Qd6 [0]))]):=kn
 refine Qi (Qf (Qx (fun m e1 H1=>∃(S:List Bool) (T:List Nat) (z:Nat) (R:List (List C)),m=(rows.length-cnt S) * 1001+T.length∧Wk (nxN nx) a rows.length S T∧T.length≤1+1000 * cnt S∧R.take T.length=Qd6 T∧
   Kn H H1 [] ([(y,.vec 1 (Qan S))]++[(z,.vec 1 R)])∧lk 1 e1=.c (.int .i64 a)∧lk 2 e1=.c (.pp [.int .i64 p,.int .i64 rg,bc])∧lk 5 e1=.c (.vsl y 1 0 rows.length)∧lk 6 e1=.c (.vsl z 1 0 T.length)) ((rows.length-cnt (List.replicate rows.length false)) * 1001+1) ?_ ?_))
 ·exact⟨List.replicate rows.length false,[0],z,Qd6 [0],rfl,.init hn0,by simp,by simp[Qd6,Qg],inv0,by simp[lk],by simp[lk],by simp[lk],by simp[lk]⟩
 ·rintro m e1 H1 ⟨S,T,z,R,hm,hw,hT,hR,kn,l1,l2,l5,l6⟩
  have hz:=kn.l 1 rfl
  have hy:=kn.l 0 rfl
  have hSl:=hw.len
  have hcl:=Qbhm S
  have hRl:T.length≤R.length:=by
   have:=congrArg List.length hR
   rw[List.length_take,Qe1]at this
   omega
  refine Q5 ?_
  refine Qa ?_
  simp only[go_sem,l1,l2,l5,l6,hz,hRl,Nat.zero_add]
  intro hlT
  refine Qi (Qe rfl ?_ ?_)
  ·intro hc
   have hT0:0<T.length:=by simpa using hc
   obtain⟨T',b,rfl⟩:∃T' b,T=T'++[b]:=⟨T.dropLast,T.getLast (by intro h;subst h;simp at hT0),(List.dropLast_concat_getLast _).symm⟩
   have hTl:(T'++[b]).length=T'.length+1:=by simp
   rw[hTl]at hm hT hR hRl hlT
   have hbn:=hw.r b (by simp)
   have hbS:b<S.length:=by omega
   have hRb:R.getD T'.length []=[.int .i64 (b:Int)]:=by
    have h1:(Qd6 (T'++[b])).getD T'.length []=[.int .i64 (b:Int)]:=by
     rw[Qay1 _ _ (by simp)];simp[List.getD_eq_getElem?_getD]
    rw[←h1,←hR]
    simp only[List.getD_eq_getElem?_getD,List.getElem?_take]
    rw[if_pos (by omega)]
   have hR':R.take T'.length=Qd6 T':=by
    have:=congrArg (List.take T'.length) hR
    rw[List.take_take,Nat.min_eq_left (by omega),Qan1]at this
    rw[this,List.take_append_of_le_length (by rw[Qe1];omega),List.take_of_length_le (by rw[Qe1];omega)]
   have hR2:(R.take (T'.length+1)).getD T'.length []=[.int .i64 (b:Int)]:=by
    rw[←hRb]
    simp only[List.getD_eq_getElem?_getD,List.getElem?_take]
    rw[if_pos (by omega)]
   have hR3:T'.length<(R.take (T'.length+1)).length:=by rw[List.length_take];omega
   have e1:(((T'.length+1:Nat):Int)-1)=(T'.length:Int):=by omega
   simp only[hTl]at *
   refine Qh ?_
   simp only[go_sem]
   refine Qf ?_
   refine Qa ?_
   have hlt1:T'.length<T'.length+1:=by omega
   simp only[go_sem,l1,l2,l5,l6,hz,hRl,hRb,hR2,hR3,e1,hlt1,Nat.zero_add]
   intro _
   refine⟨Qr (by omega) (by omega),?_⟩
   refine Qa ?_
   simp only[go_sem,l1,l2,l5,l6,hz,hRl,e1,Nat.zero_add,Nat.sub_zero]
   intro _
   refine⟨Qr (by omega) (by omega),by omega,?_⟩
   refine Q5 ?_
   refine Qa ?_
   have htk:List.take rows.length (Qan S)=Qan S:=List.take_of_length_le (by rw[Qal];omega)
   simp only[go_sem,hy,hbS,hbn,hSl,htk,Qal,Qaf _ _ hbS,Nat.zero_add,Nat.le_refl]
   refine Qi (Qe rfl ?_ ?_)
   ·intro hc2
    have hb:(b:Int)=a∨S.getD b false=true:=by
     by_cases h:(b:Int)=a
     ·exact .inl h
     ·simp only[h,decide_false,cond_false]at hc2;exact .inr hc2
    refine Qw ?_
    simp only[go_sem,X.next]
    exact⟨(rows.length-cnt S) * 1001+T'.length,by omega,S,T',z,R,rfl,hw.skip hb,by omega,hR',kn,rfl⟩
   ·intro hc2
    have hb:(b:Int)≠a∧S.getD b false=false:=by
     by_cases h:(b:Int)=a
     ·simp only[h,decide_true,cond_true]at hc2;simp at hc2
     ·simp only[h,decide_false,cond_false]at hc2;exact⟨h,hc2⟩
    refine Qh ?_
    simp only[go_sem]
    refine Qa ?_
    simp only[go_sem,hy,hbS,hbn,hSl,htk,Qal,Qaf _ _ hbS,Q93,Nat.zero_add,Nat.le_refl]
    intro H3 h3
    have kn:=kn.stL 0 rfl h3
    have hcS:=Qax1 hbS hb.2
    have hcl2:=Qbhm (S.set b true)
    rw[List.length_set]at hcl2
    obtain⟨a1,a2,a3,a4,fl,hrow⟩:=hg.x b hbn
    have hg2:=hg.keep0 kn
    have hok2:=eq_true hg2.s.ok
    have hrw2:=hg2.s.rows
    have hMb:=hM b hbn
    have hnl:(nxN nx b).length=(nx b).length:=by simp[nxN]
    refine Qv ?_
    generalize hzz:C.vsl z 1 0 T'.length=tc
    have htw:tc.isOw=false:=by rw[←hzz];rfl
    simp only[go_sem,how,htw,hok2,hlen,hsz,hrw2,hbn,hrow]
    rw[←hzz]
    refine kn.growW (B:=[(y,.vec 1 (Qan (S.set b true)))]) (new:=Qg (nx b)) hR' (by rw[Qe1]) (.mk' _ _ _ _) (Qt _) (by simp only[Qe1,Qc,LIM];omega) fun z2 H4 kn=>?_
    simp only[go_sem,Qeq,X.next]
    refine⟨(rows.length-cnt (S.set b true)) * 1001+(T'++nxN nx b).length,?_,S.set b true,T'++nxN nx b,z2,Qd6 (T'++nxN nx b),rfl,hw.go hb.1 (fun x hx=>Qblj hfit hbn hx),?_,List.take_of_length_le (by rw[Qe1];exact Nat.le_refl _),?_,?_⟩
    ·rw[List.length_append,hnl];omega
    ·rw[List.length_append,hnl];omega
    ·rw[Qan1,Qa6i hfit hbn];exact kn
    ·simp only[List.length_append,hnl,Qe1,Qc]
  ·intro hc
   have hT0:T=[]:=by
    cases T with
    |nil=>rfl
    |cons x r=>simp at hc
   subst hT0
   refine Qw ?_
   simp only[go_sem,X.next]
   refine Qa ?_
   simp only[go_sem,l5]
   refine Qk ?_
   simp only[go_sem,Q4,Q7,Qhz,List.mem_singleton,forall_eq,RS.op]
   have hfin:=hw.fin
   refine⟨_,.c _ _ ((FrzR.same (Q4s S)).vsl (kn.un 0 rfl) hy ?_),?_⟩
   ·rw[Qal,hSl]
   ·have:=hK _ kn.fin
    rw[←hfin]at this
    exact this
end Go.AE.Y

namespace Go.AE
variable {H0 F H:Heap}{E E0 E' L L1 L2 M:List (Nat×Obj)}
theorem Kn.startE (h:∀p∈E,H p.1=p.2∧p.2≠.none)(hd:(E.map Prod.fst).Nodup):Kn H H E []:=
 ⟨by simpa using h,fun p hp=>by rw[(h p hp).1];exact (h p hp).2,by simp,hd,by simp,fun _ _ _=>rfl⟩
theorem Kn.mid (k:Kn H0 F E0 (L1++L2)):Kn F F L1 []:=
 .startE (fun p hp=>k.get p (List.mem_append_right _ (List.mem_append_left _ hp))) (by
  have:=k.dL;rw[List.map_append]at this;exact (List.nodup_append.1 this).1)
theorem Kn.upd (k:Kn H0 H E L):Upd H0 H E:=⟨fun p hp=>(k.get p (List.mem_append_left _ hp)).1,fun m hm hn=>k.chg m hm hn⟩
theorem Y.FrzL.ptr {S:Nat→Bool}{l:Nat}{cells cells':List C}(hS:S l=true)(hH:H l=.st cells)(h:FrzL H S cells cells'):FrzC H S (.ptr l 0) (.pp cells'):=by
 obtain⟨h1,h2⟩:=h.spec
 exact .ptr l 0 cells cells cells' hS hH rfl h1 h2
theorem Kn.growR {B Lg:List (Nat×Obj)}{K:V→Heap→Prop}{sz:Nat}{rows new:List (List C)}{b c:C}(kn:Kn H0 H E (B++Lg))(hc:Gr Lg sz rows c)(hb:Slc H sz new b)
  (h1:∀r∈new,noOw r=true) (h2:rows.length+new.length≤LIM)
  (h:∀t Lg' H',Gr Lg' sz (rows++new) t→t.isOw=false→Kn H0 H' E (B++Lg')→K (.c t) H'):appQ H sz c b K:=
 kn.grow hc hb h1 h2 fun y' H' k=>h _ _ H' (.mk y' sz _ (by simp)) rfl k
end Go.AE

namespace Go.AE.Y
open Go.Proofs.Tryz
variable {H H0:Heap}{K:V→Heap→Prop}
def Qbkg (x3 x4 x5:Nat)(p rg:Int)(bc:C):List C:=[.ptr x4 0,.pp [.int .i64 p,.int .i64 rg,bc],.ptr x5 0,.ptr x3 0]
def visE (x3 x4 x5 y n:Nat)(p rg:Int)(bc:C)(S:List Bool)(oc:C):List (Nat×Obj):=
 [(y,.vec 1 (Qan S)),(x3,.st [oc]),(x4,.st [.vsl y 1 0 n]),(x5,.st [.fn Qaad (Qbkg x3 x4 x5 p rg bc)])]
end Go.AE.Y

namespace Go.AE.Y
variable {ns:List Int}{n:Int}{at':Nat}
structure InsAt (ns:List Int)(n:Int)(k:Nat):Prop where
 le:k≤ns.length
 lo:∀i,i<k→∀(h:i<ns.length),ns[i]<n
 hi:∀(h:k<ns.length),n≤ns[k]
theorem InsAt.mem_of_asc {k:Nat}(h:InsAt ns n k)(ha:ns.Pairwise (· < ·)):(∀x∈ns.take k,x<n)∧(∀x∈ns.drop k,n≤x)∧(∀x∈ns.drop (k+1),n<x):=by
 have hp:=List.pairwise_iff_getElem.1 ha
 refine⟨fun x hx=>?_,fun x hx=>?_,fun x hx=>?_⟩
 ·obtain⟨i,hi,rfl⟩:=List.mem_iff_getElem.1 hx
  rw[List.getElem_take]
  rw[List.length_take]at hi
  exact h.lo i (by omega) (by omega)
 ·obtain⟨i,hi,rfl⟩:=List.mem_iff_getElem.1 hx
  rw[List.getElem_drop]
  rw[List.length_drop]at hi
  have h1:=h.hi (by omega)
  by_cases h0:i=0
  ·subst h0;exact h1
  ·have:=hp k (k+i) (by omega) (by omega) (by omega)
   exact Int.le_trans h1 (Int.le_of_lt this)
 ·obtain⟨i,hi,rfl⟩:=List.mem_iff_getElem.1 hx
  rw[List.getElem_drop]
  rw[List.length_drop]at hi
  have h1:=h.hi (by omega)
  have:=hp k (k+1+i) (by omega) (by omega) (by omega)
  exact Int.lt_of_le_of_lt h1 this
theorem InsAt.new {k:Nat}(h:InsAt ns n k)(ha:ns.Pairwise (· < ·))(hn:∀(h:k<ns.length),ns[k]≠n) :
  (ns.take k++[n]++ns.drop k).Pairwise (· < ·)∧(∀x,x∈ns.take k++[n]++ns.drop k↔x=n∨x∈ns):=by
 obtain⟨h1,h2,h3⟩:=h.mem_of_asc ha
 have h4:∀x∈ns.drop k,n<x:=by
  intro x hx
  have hk:k<ns.length:=by
   rcases Nat.lt_or_ge k ns.length with h|h
   ·exact h
   ·rw[List.drop_eq_nil_of_le h]at hx;simp at hx
  rw[List.drop_eq_getElem_cons hk]at hx
  rcases List.mem_cons.1 hx with rfl|hx
  ·have:=h.hi hk;have:=hn hk;omega
  ·exact h3 x hx
 refine⟨?_,fun x=>?_⟩
 ·rw[List.append_assoc,List.pairwise_append]
  refine⟨ha.sublist (List.take_sublist _ _),?_,fun a ha' b hb=>?_⟩
  ·rw[List.singleton_append,List.pairwise_cons]
   exact⟨h4,ha.sublist (List.drop_sublist _ _)⟩
  ·have:=h1 a ha'
   rcases List.mem_append.1 hb with hb|hb
   ·simp at hb;subst hb;exact this
   ·have:=h2 b hb;omega
 ·conv=>rhs;rw[←List.take_append_drop k ns]
  simp only[List.mem_append,List.mem_singleton]
  constructor
  ·rintro ((h|h)|h)
   ·exact .inr (.inl h)
   ·exact .inl h
   ·exact .inr (.inr h)
  ·rintro (h|h|h)
   ·exact .inl (.inr h)
   ·exact .inl (.inl h)
   ·exact .inr h
end Go.AE.Y

namespace Go.AE.Y
open Go.Proofs.Tryz
variable {H H0:Heap}{K:V→Heap→Prop}
theorem Qbi3 {c:C}{ns:List Int}{v:Int}(hs:Slc H 1 (Qg ns) c)(how:c.isOw=false)(hK:∀r,IsIx ns v r→K (.c (.int .i64 r)) H) :
  Qp prog Qaot [.c c,.c (.int .i64 v)] H K:=by
 refine Qb Qai Qbje ?_
 have hok:=eq_true hs.ok
 have hlen:=hs.len
 have hsz:=hs.sz
 have hrw:=hs.rows
 refine Qa ?_
 simp only[go_sem,how]
 refine Q5 ?_
 refine Qa ?_
 simp only[go_sem,how]
 refine Qi (Qf (Qx (fun m e1 H1=>∃(i:Nat),m=ns.length-i∧i≤ns.length∧H1=H∧v∉ns.take i∧e1=[(0,.c c),(1,.c (.int .i64 v)),(5,.c (.int .i64 i))]) ns.length ?_ ?_))
 ·exact⟨0,by omega,by omega,rfl,by simp,rfl⟩
 ·rintro m e1 H1 ⟨i,hm,hi,rfl,hno,rfl⟩
  refine Q5 ?_
  refine Qa ?_
  simp only[go_sem,how,hok,hlen,Qc]
  intro hl
  simp only[LIM]at hl
  refine Qi (Qe rfl ?_ ?_)
  ·intro hc
   have hlt:i<ns.length:=by simpa using hc
   have hgd:ns.getD i 0=ns[i]:=by simp[List.getD_eq_getElem?_getD,hlt]
   refine Qh ?_
   simp only[go_sem]
   refine Qi (Qf ?_)
   refine Qa ?_
   simp only[go_sem,how,hok,hlen,hsz,hrw,hlt,Qc,Qs _ _ hlt]
   refine Qe rfl ?_ ?_
   ·intro hc2
    have hv:ns.getD i 0=v:=by simpa using hc2
    refine Qa ?_
    simp only[go_sem]
    refine Qk ?_
    simp only[go_sem,X.next,Q4,Q7,Qay7,List.mem_singleton,forall_eq,RS.op]
    exact hK _ (.inr ⟨i,rfl,hlt,hv,hno⟩)
   ·intro hc2
    have hv:¬ns.getD i 0=v:=by simpa using hc2
    refine Qh ?_
    simp only[go_sem]
    refine Qv ?_
    simp only[go_sem,how,X.next]
    refine⟨Qr (by omega) (by omega),ns.length-(i+1),by omega,i+1,rfl,by omega,?_,rfl⟩
    rw[List.take_succ_eq_append_getElem hlt]
    simp only[List.mem_append,List.mem_singleton,not_or]
    exact⟨hno,fun h=>hv (by rw[hgd];exact h.symm)⟩
  ·intro hc
   have hge:ns.length≤i:=by simpa using hc
   rw[List.take_of_length_le hge]at hno
   refine Qw ?_
   simp only[go_sem,X.next]
   refine Qa ?_
   simp only[go_sem]
   refine Qk ?_
   simp only[go_sem,Q4,Q7,Qay7,List.mem_singleton,forall_eq,RS.op]
   exact hK _ (.inl ⟨rfl,hno⟩)
end Go.AE.Y

namespace Go.AE.Y
attribute [local instance] Classical.propDecidable
variable {g:Nat→List Nat}{n h:Nat}
theorem rchB_iff {a:Int}{x:Nat}:Qva g a x=true↔Rch g (fun z=>(z:Int)=a) 0 x:=by simp[Qva]
theorem Qbbq (b:Nat):Qva g (b:Int) b=false:=by
 cases hc:Qva g (b:Int) b with
 |false=>rfl
 |true=>exact absurd rfl (rchB_iff.1 hc).snd
theorem Q97 (b:Nat):Qef g b b=Qva g (-1) b:=by simp[Qef,Qbbq]
theorem Qa9m {a b:Nat}(h:Qef g a b=true):Qva g (-1) a=true∧Qva g (-1) b=true:=by
 simp only[Qef,Bool.and_eq_true]at h
 exact⟨h.1.1,h.1.2⟩
structure BWk (n:Nat)(g:Nat→List Nat)(h:Nat)(O W:List Nat):Prop where
 asc:O.Pairwise (· < ·)
 o:∀x∈O,Bdy n g h x
 w:∀x∈W,Qva g (-1) x=true→Bdy n g h x
 c:∀x∈O,x≠h→∀p∈Qapt n g x,Qva g (-1) p=true→p∈O∨p∈W
 l:∀p∈Qapt n g h,Qef g h p=true→p∈O∨p∈W
 h:h∈O
 r:∀x∈W,x<n
variable {O W:List Nat}{b:Nat}
theorem BWk.init:BWk n g h [h] ((Qapt n g h).filter (Qef g h)):=by
 refine⟨by simp,fun x hx=>?_,fun x hx _=>?_,fun x hx hne=>?_,fun p hp hd=>.inr (List.mem_filter.2 ⟨hp,hd⟩),by simp,fun x hx=>(predL_mem.1 (List.mem_filter.1 hx).1).1⟩
 ·simp at hx;subst hx;exact .head
 ·exact .back (List.mem_filter.1 hx).1 (List.mem_filter.1 hx).2
 ·simp at hx;exact absurd hx hne
theorem BWk.skip (k:BWk n g h O (b::W))(hb:b∈O∨Qva g (-1) b=false):BWk n g h O W:=by
 refine⟨k.asc,k.o,fun x hx=>k.w x (List.mem_cons_of_mem _ hx),fun x hx hne p hp hi=>?_,fun p hp hd=>?_,k.h,fun x hx=>k.r x (List.mem_cons_of_mem _ hx)⟩
 ·rcases k.c x hx hne p hp hi with h1|h1
  ·exact .inl h1
  ·rcases List.mem_cons.1 h1 with rfl|h1
   ·rcases hb with hb|hb
    ·exact .inl hb
    ·rw[hb]at hi;simp at hi
   ·exact .inr h1
 ·rcases k.l p hp hd with h1|h1
  ·exact .inl h1
  ·rcases List.mem_cons.1 h1 with rfl|h1
   ·rcases hb with hb|hb
    ·exact .inl hb
    ·rw[(Qa9m hd).2]at hb;simp at hb
   ·exact .inr h1
theorem BWk.go {O':List Nat}(k:BWk n g h O (b::W))(hbO:b∉O)(hi:Qva g (-1) b=true)(h1:O'.Pairwise (· < ·))(h2:∀x,x∈O'↔x=b∨x∈O):BWk n g h O' (W++Qapt n g b):=by
 have hB:=k.w b List.mem_cons_self hi
 have hbh:b≠h:=fun e=>hbO (e▸k.h)
 refine⟨h1,fun x hx=>?_,fun x hx hix=>?_,fun x hx hne p hp hip=>?_,fun p hp hd=>?_,(h2 h).2 (.inr k.h),fun x hx=>?_⟩
 ·rcases (h2 x).1 hx with rfl|hx
  ·exact hB
  ·exact k.o x hx
 ·rcases List.mem_append.1 hx with hx|hx
  ·exact k.w x (List.mem_cons_of_mem _ hx) hix
  ·exact .more hB hbh hx hix
 ·rcases (h2 x).1 hx with rfl|hx
  ·exact .inr (List.mem_append_right _ hp)
  ·rcases k.c x hx hne p hp hip with h3|h3
   ·exact .inl ((h2 p).2 (.inr h3))
   ·rcases List.mem_cons.1 h3 with rfl|h3
    ·exact .inl ((h2 p).2 (.inl rfl))
    ·exact .inr (List.mem_append_left _ h3)
 ·rcases k.l p hp hd with h3|h3
  ·exact .inl ((h2 p).2 (.inr h3))
  ·rcases List.mem_cons.1 h3 with rfl|h3
   ·exact .inl ((h2 p).2 (.inl rfl))
   ·exact .inr (List.mem_append_left _ h3)
 ·rcases List.mem_append.1 hx with hx|hx
  ·exact k.r x (List.mem_cons_of_mem _ hx)
  ·exact (predL_mem.1 hx).1
theorem BWk.fin (hh:h<n)(k:BWk n g h O []):O=Qa9g n g h:=by
 refine Qa9a k.asc Qa9h fun x=>?_
 rw[Qa9i hh]
 refine⟨k.o x,fun hb=>?_⟩
 induction hb with
 |head=>exact k.h
 |back h1 h2=>exact (k.l _ h1 h2).resolve_right (by simp)
 |more h1 h2 h3 h4 ih=>exact (k.c _ ih h2 _ h3 h4).resolve_right (by simp)
theorem BWk.len (k:BWk n g h O W)(hh:h<n):O.length≤n:=by
 have e:=Qa9b (n:=n) (p:=fun x=>decide (x∈O)) k.asc fun x=>⟨fun hx=>⟨(k.o x hx).lt hh,by simpa using hx⟩,fun hx=>by simpa using hx.2⟩
 have:=List.length_filter_le (fun x=>decide (x∈O)) (List.range n)
 rw[←e]at this
 simpa using this
end Go.AE.Y

namespace Go.AE.Y
open Go.Proofs.Tryz
variable {H H0:Heap}{K:V→Heap→Prop}
structure GF (rows:List (List C))(nx:Nat→List Int):Prop where
 no:∀r∈rows,noOw r=true
 x:∀i,i<rows.length→∃a1 a2 a3 a4 fl,rows.getD i []=[a1,a2,a3,a4,.sl fl 1 (Qg (nx i))]
 n:rows.length≤10000
 m:∀i,i<rows.length→(nx i).length≤1000
theorem GF.grd {rows:List (List C)}{nx:Nat→List Int}(h:GF rows nx)(H:Heap)(fl:Bool):GRd H (.sl fl 5 rows) rows nx:=⟨.mk' _ _ _ _,rfl,h.no,h.x⟩
theorem Qa91 {q:CodeD}(h:q.gd):GF (Qn q.blocks) (gnx q):=by
 refine⟨(Qi2 (fun _=>.none) q false).no,(Qi2 (fun _=>.none) q false).x,by rw[Ql];have:=h.b1;omega,fun i hi=>?_⟩
 rw[Ql]at hi
 have:gnx q i=q.blocks[i].next:=by simp[gnx,List.getD_eq_getElem?_getD,hi]
 rw[this]
 have:=h.n _ (List.getElem_mem hi);omega
noncomputable def inL (n:Nat)(g:Nat→List Nat):List Bool:=(List.range n).map (Qva g (-1))
noncomputable def Qfq (n:Nat)(g:Nat→List Nat)(a:Nat):List Bool:=(List.range n).map (Qef g a)
noncomputable def ovOf (n:Nat)(g:Nat→List Nat)(k:Nat):List (List C):=(List.range k).map fun a=>[.sl false 1 (Qan (Qfq n g a))]
theorem Qkb (n:Nat)(f:Nat→Bool){i:Nat}(h:i<n):((List.range n).map f).getD i false=f i:=by simp[List.getD_eq_getElem?_getD,h]
theorem Qj8 {n:Nat}{g:Nat→List Nat}:(inL n g).length=n:=by simp[inL]
theorem Qbt {n:Nat}{g:Nat→List Nat}{a:Nat}:(Qfq n g a).length=n:=by simp[Qfq]
theorem Qi4 {n:Nat}{g:Nat→List Nat}{k:Nat}:(ovOf n g k).length=k:=by simp[ovOf]
theorem Qu4 {n:Nat}{g:Nat→List Nat}{i:Nat}(h:i<n):(inL n g).getD i false=Qva g (-1) i:=Qkb _ _ h
theorem Qdh {n:Nat}{g:Nat→List Nat}{a i:Nat}(h:i<n):(Qfq n g a).getD i false=Qef g a i:=Qkb _ _ h
theorem Qhu {n:Nat}{g:Nat→List Nat}{k a:Nat}(h:a<k):(ovOf n g k).getD a []=[.sl false 1 (Qan (Qfq n g a))]:=by simp[ovOf,List.getD_eq_getElem?_getD,h]
noncomputable def domC (p rg:Int)(fl:Bool)(rows:List (List C))(g:Nat→List Nat):List C:=
 [.int .i64 p,.int .i64 rg,.sl fl 5 rows,.sl false 1 (ovOf rows.length g rows.length),.sl false 1 (Qan (inL rows.length g))]
noncomputable def ysL (n:Nat)(g:Nat→List Nat)(ys:List Nat):List (Nat×Obj):=ys.zipIdx.map fun x=>(x.1,.vec 1 (Qan (Qfq n g x.2)))
def ysR (n:Nat)(ys:List Nat):List (List C):=ys.map fun y=>[.vsl y 1 0 n]
theorem Qbhh (n:Nat)(g:Nat→List Nat)(ys:List Nat)(y:Nat):ysL n g (ys++[y])=ysL n g ys++[(y,.vec 1 (Qan (Qfq n g ys.length)))]:=by
 simp[ysL,List.zipIdx_append]
theorem Qbhi (n:Nat)(ys:List Nat)(y:Nat):ysR n (ys++[y])=ysR n ys++[[.vsl y 1 0 n]]:=by simp[ysR]
theorem Qbd0 (n:Nat)(ys:List Nat):(ysR n ys).length=ys.length:=by simp[ysR]
theorem Qbmf {S:Nat→Bool}{n:Nat}{g:Nat→List Nat}(ys:List Nat):∀(k:Nat),(∀p∈(ys.zipIdx k).map fun x=>(x.1,Obj.vec 1 (Qan (Qfq n g x.2))),H p.1=p.2∧S p.1=true)→
  FrzR H S (ysR n ys) ((List.range' k ys.length).map fun a=>[.sl false 1 (Qan (Qfq n g a))]):=by
 induction ys with
 |nil=>intro k _;exact .nil
 |cons y ys ih=>
  intro k h
  rw[List.zipIdx_cons,List.map_cons]at h
  obtain⟨h1,h2⟩:=h _ List.mem_cons_self
  simp only[List.length_cons,List.range'_succ,List.map_cons,ysR]
  refine .cons (.cons ((FrzR.same (Q4s _)).vsl h2 h1 (by rw[Qal,Qbt])) .nil) (ih (k+1) fun p hp=>h p (List.mem_cons_of_mem _ hp))
theorem Qbki {S:Nat→Bool}{n:Nat}{g:Nat→List Nat}(ys:List Nat)(h:∀p∈ysL n g ys,H p.1=p.2∧S p.1=true):FrzR H S (ysR n ys) (ovOf n g ys.length):=by
 have:=Qbmf (H:=H) (S:=S) (n:=n) (g:=g) ys 0 h
 rw[←List.range_eq_range']at this
 exact this
end Go.AE.Y

namespace Go.AE.Y
open Go.Proofs.Tryz
variable {H H0:Heap}{K:V→Heap→Prop}
theorem Qatv (n:Nat)(f:Nat→Bool){i:Nat}(h:i<n):((List.range i).map f++List.replicate (n-i) false).set i (f i)=(List.range (i+1)).map f++List.replicate (n-(i+1)) false:=by
 refine List.ext_getElem? fun j=>?_
 have e:n-i=(n-(i+1))+1:=by omega
 rw[e,List.replicate_succ,List.range_succ,List.map_append]
 rw[List.set_append]
 simp only[List.length_map,List.length_range,Nat.lt_irrefl,if_false,Nat.sub_self,List.set_cons_zero,List.map_cons,List.map_nil,List.append_assoc,List.singleton_append]
set_option maxHeartbeats 2000000 in
theorem Qbd8 {p rg:Int}{fl:Bool}{rows:List (List C)}{nx:Nat→List Int}(hg:GF rows nx)
  (hN:Qmi rows.length nx=false→∀H',Upd H H' []→K (.c .pnil) H')
  (hK:Qmi rows.length nx=true→∀H',Upd H H' []→K (.c (.pp (domC p rg fl rows (nxN nx)))) H') :
  Qp prog Qqw [.ag [.int .i64 p,.int .i64 rg,.sl fl 5 rows]] H K:=by
 have hn:=hg.n
 refine Qu ?_
 refine Qb Qai Qayo ?_
 refine Qa ?_
 simp only[go_sem]
 refine Q5 ?_
 refine Qa ?_
 simp only[go_sem]
 refine Qas5 (hg.grd _ _) ?_
 simp only[go_sem,Qw7]
 refine Qi (Qe rfl ?_ ?_)
 ·intro hc
  have hf:=Qvh hc
  refine Qa ?_
  simp only[go_sem]
  refine Qk ?_
  simp only[go_sem,Q4,Q7,Qyt,List.mem_singleton,forall_eq,RS.op]
  exact⟨_,.c _ _ (Qd rfl),hN hf _ (Kn.start0 H).fin⟩
 ·intro hc
  have hf:=Qht hc
  have hn0:=Qas1 hf
  refine Qh ?_
  simp only[go_sem]
  refine Qae ?_
  simp only[go_sem]
  refine Qn1 (hg.grd _ _) hf hn hg.m fun H1 hu=>?_
  have kn:=(Kn.start0 H).call0 hu
  simp only[go_sem,Qw9]
  intro x3 hx3 H2 h2
  have kn:=kn.al hx3 h2
  simp only[go_sem,Qw8]
  refine Q5 ?_
  refine Qa ?_
  simp only[go_sem]
  intro _
  refine Qi (Qf (Qx (fun m e1 H1=>∃(ys:List Nat) (oc:C) (Lg:List (Nat×Obj)),m=rows.length-ys.length∧ys.length≤rows.length∧Gr Lg 1 (ysR rows.length ys) oc∧
   Kn H H1 [] (([(x3,.st [.int .i64 p,.int .i64 rg,.sl fl 5 rows,oc,.sl false 1 (Qan (inL rows.length (nxN nx)))])]++ysL rows.length (nxN nx) ys)++Lg)∧
   e1=[(1,.c (.pp [.int .i64 p,.int .i64 rg,.sl fl 5 rows])),(3,.c (.ptr x3 0)),(18,.c (.int .i64 rows.length)),(19,.c (.int .i64 ys.length))]) rows.length ?_ ?_))
  ·exact⟨[],_,[],by simp,by simp,.nil 1,kn,rfl⟩
  ·rintro m e1 H1 ⟨ys,oc,Lg,hm,hi,hgr,kn,rfl⟩
   have hx3:=kn.l 0 rfl
   refine Qa ?_
   simp only[go_sem]
   refine Qi (Qe rfl ?_ ?_)
   ·intro hc
    have hlt:ys.length<rows.length:=by simpa using hc
    have hlti:ys.length<(inL rows.length (nxN nx)).length:=by rw[Qj8];exact hlt
    refine Qh ?_
    simp only[go_sem]
    refine Qvd (fun e2 H2=>∃(oc:C) (Lg:List (Nat×Obj)) (y:Nat),Gr Lg 1 (ysR rows.length (ys++[y])) oc∧
     Kn H H2 [] (([(x3,.st [.int .i64 p,.int .i64 rg,.sl fl 5 rows,oc,.sl false 1 (Qan (inL rows.length (nxN nx)))])]++ysL rows.length (nxN nx) (ys++[y]))++Lg)∧
     lk 1 e2=.c (.pp [.int .i64 p,.int .i64 rg,.sl fl 5 rows])∧lk 3 e2=.c (.ptr x3 0)∧lk 18 e2=.c (.int .i64 rows.length)∧lk 19 e2=.c (.int .i64 ys.length)) ?_ ?_
    ·intro Q hnr _ _
     refine Qf ?_
     refine Qa ?_
     simp only[go_sem]
     refine Qa ?_
     simp only[go_sem,Qkv]
     intro _
     refine⟨by simp only[LIM];omega,fun y hy H2 h2=>?_⟩
     have kn:=(kn.al hy h2).perm (L':=[(x3,.st [.int .i64 p,.int .i64 rg,.sl fl 5 rows,oc,.sl false 1 (Qan (inL rows.length (nxN nx)))])]++([(y,.vec 1 (Qan (List.replicate rows.length false)))]++(ysL rows.length (nxN nx) ys++Lg))) (Qm fun f hf h0 hc hp=>by simp only[hf];omega)
     simp only[go_sem,Qxa]
     have tail:∀(e:Env) (H3:Heap),lk 1 e=.c (.pp [.int .i64 p,.int .i64 rg,.sl fl 5 rows])→lk 3 e=.c (.ptr x3 0)→lk 18 e=.c (.int .i64 rows.length)→lk 19 e=.c (.int .i64 ys.length)→lk 5 e=.c (.vsl y 1 0 rows.length)→
       Kn H H3 [] ([(x3,.st [.int .i64 p,.int .i64 rg,.sl fl 5 rows,oc,.sl false 1 (Qan (inL rows.length (nxN nx)))])]++([(y,.vec 1 (Qan (Qfq rows.length (nxN nx) ys.length)))]++(ysL rows.length (nxN nx) ys++Lg)))→
       Qac prog Qw6 Q e H3:=by
      intro e H3 l1 l3 l18 l19 l5 kn
      have hx3:=kn.l 0 rfl
      have hoc:=hgr.isOw
      refine Qv ?_
      simp only[go_sem,l1,l3,l18,l19,l5,hx3,hoc]
      have kn:=kn.perm (L':=([(x3,.st [.int .i64 p,.int .i64 rg,.sl fl 5 rows,oc,.sl false 1 (Qan (inL rows.length (nxN nx)))])]++ysL rows.length (nxN nx) (ys++[y]))++Lg) (Qm fun f hf h0 hc hp=>by simp only[Qbhh,hf];omega)
      refine kn.grow (new:=[[.vsl y 1 0 rows.length]]) hgr (.mk' _ _ _ _) (by simp[Go.AE.noOw,C.isOw]) (by simp only[Qbd0,LIM,List.length_cons,List.length_nil];omega) fun z H4 kn=>?_
      have hx3:=kn.l 0 rfl
      simp only[go_sem,Qrv,hx3]
      intro H5 h5
      have kn:=kn.stL 0 rfl h5
      refine hnr _ _ ⟨_,[(z,.vec 1 (ysR rows.length (ys++[y])))],y,.mk (n:=(ysR rows.length ys).length+1) z 1 _ (by simp[Qbd0]),?_,by simp[lk,l1],by simp[lk,l3],by simp[lk,l18],by simp[lk,l19]⟩
      rw[Qbhi]
      exact kn
     refine Q5 ?_
     refine Qa ?_
     have hx3:=kn.l 0 rfl
     simp only[go_sem,hx3,hlt,Qal,Qj8,Qaf _ _ hlti,Qu4 hlt]
     refine Qi (Qe rfl ?_ ?_)
     ·intro hin
      refine Qa ?_
      simp only[go_sem]
      refine Qn1 (hg.grd _ _) hf hn hg.m fun H3 hu=>?_
      have kn:=kn.call0 hu
      simp only[go_sem,Qxb]
      refine Qa ?_
      have hy:=kn.l 1 rfl
      simp only[go_sem,hy,Qal,List.length_replicate,Nat.zero_add,Nat.le_refl]
      intro _
      refine Qf (Qx (fun m e1 H1=>∃b:Nat,m=rows.length-b∧b≤rows.length∧
       Kn H H1 [] ([(x3,.st [.int .i64 p,.int .i64 rg,.sl fl 5 rows,oc,.sl false 1 (Qan (inL rows.length (nxN nx)))])]++([(y,.vec 1 (Qan ((List.range b).map (Qef (nxN nx) ys.length)++List.replicate (rows.length-b) false)))]++(ysL rows.length (nxN nx) ys++Lg)))∧
       e1=[(1,.c (.pp [.int .i64 p,.int .i64 rg,.sl fl 5 rows])),(3,.c (.ptr x3 0)),(5,.c (.vsl y 1 0 rows.length)),(6,.c (.sl false 1 (Qan ((List.range rows.length).map (Qva (nxN nx) ys.length))))),(18,.c (.int .i64 rows.length)),(19,.c (.int .i64 ys.length)),(37,.c (.int .i64 rows.length)),(38,.c (.int .i64 b))]) rows.length ?_ ?_)
      ·exact⟨0,by omega,by omega,by simpa using kn,rfl⟩
      ·rintro m2 e1 H4 ⟨b,hm2,hb,kn,rfl⟩
       have hx3:=kn.l 0 rfl
       have hy:=kn.l 1 rfl
       have hyl:((List.range b).map (Qef (nxN nx) ys.length)++List.replicate (rows.length-b) false).length=rows.length:=by simp;omega
       refine Qa ?_
       simp only[go_sem]
       refine Qi (Qe rfl ?_ ?_)
       ·intro hc2
        have hbl:b<rows.length:=by simpa using hc2
        have hbi:b<(inL rows.length (nxN nx)).length:=by rw[Qj8];exact hbl
        have hbr:b<((List.range rows.length).map (Qva (nxN nx) ys.length)).length:=by simpa using hbl
        have hby:b<((List.range b).map (Qef (nxN nx) ys.length)++List.replicate (rows.length-b) false).length:=by rw[hyl];exact hbl
        refine Qh ?_
        simp only[go_sem]
        refine Qi (Qf ?_)
        refine Qa ?_
        simp only[go_sem]
        refine Qv ?_
        simp only[go_sem,hx3,hy,hbl,Qal,hyl,Qj8,List.length_map,List.length_range,Qaf _ _ hbi,Qu4 hbl,Qaf _ _ hbr,Qkb _ _ hbl,Qaf _ _ hby,Q93,Nat.zero_add,Nat.le_refl]
        intro H5 h5
        have kn:=kn.stL 1 rfl h5
        refine Qv ?_
        simp only[go_sem,X.next]
        refine⟨Qr (by omega) (by omega),rows.length-(b+1),by omega,b+1,rfl,by omega,?_,rfl⟩
        rw[←Qatv _ _ hbl]
        have:Qef (nxN nx) ys.length b=(bif Qva (nxN nx) (-1) b then !Qva (nxN nx) (↑ys.length) b else false):=by
         simp only[Qef,hin,Bool.true_and]
         cases Qva (nxN nx) (-1) b <;> rfl
        rw[this]
        exact kn
       ·intro hc2
        have hbe:b=rows.length:=by have:¬b<rows.length:=(by simpa using hc2);omega
        subst hbe
        refine Qw ?_
        simp only[go_sem,X.next]
        refine tail _ _ rfl rfl rfl rfl rfl ?_
        simpa[Qfq]using kn
     ·intro hin
      refine Qh ?_
      simp only[go_sem]
      refine tail _ _ rfl rfl rfl rfl rfl ?_
      have:Qfq rows.length (nxN nx) ys.length=List.replicate rows.length false:=by
       refine List.ext_getElem (by simp[Qfq]) fun i h1 h2=>?_
       simp[Qfq,Qef,hin]
      rw[this];exact kn
    ·rintro e2 H2 ⟨oc2,Lg2,y,hgr,kn,l1,l3,l18,l19⟩
     refine Qv ?_
     simp only[go_sem,X.next,l1,l3,l18,l19]
     exact⟨Qr (by omega) (by omega),rows.length-(ys.length+1),by omega,ys++[y],oc2,Lg2,by simp,by simp;omega,hgr,kn,by simp⟩
   ·intro hc
    have hge:ys.length=rows.length:=by have:¬ys.length<rows.length:=(by simpa using hc);omega
    refine Qw ?_
    simp only[go_sem,X.next]
    refine Qa ?_
    simp only[go_sem]
    refine Qk ?_
    simp only[go_sem,Q4,Q7,Qyt,List.mem_singleton,forall_eq,RS.op]
    have hfr:=Qbki (H:=H1) (S:=un H) (n:=rows.length) (g:=nxN nx) ys (fun q hq=>⟨(kn.get q (by simp[hq])).1,Qir (kn.loc q (by simp[hq]))⟩)
    rw[hge]at hfr
    refine⟨_,.c _ _ (FrzL.ptr (kn.un 0 rfl) hx3 ?_),hK hf _ kn.fin⟩
    exact .cons (Qd rfl) (.cons (Qd rfl) (.cons (.same _ rfl) (.cons (hgr.frzR kn hfr) (.cons (.same _ rfl) .nil))))
end Go.AE.Y

namespace Go.AE.Y
open Go.Proofs.Tryz
variable {H H0:Heap}{K:V→Heap→Prop}
end Go.AE.Y

namespace Go.AE.Y
variable {P:Program}{H:Heap}{g:G}{w:World}
theorem Qbhb (hs:Sat H g w)(os:Array Go.Obj):∃g',Stp H g w H g' (Go.Sort.grow w os):=by
 obtain⟨l⟩:=os
 induction l generalizing g w with
 |nil=>exact⟨g,by rw[Go.Sort.grow_empty];exact .refl hs⟩
 |cons x l ih=>
  have h1:=Q4p hs x
  obtain⟨g',h2⟩:=ih h1.sat
  refine⟨g',?_⟩
  have e:Go.Sort.grow w ⟨x::l⟩=Go.Sort.grow (w.alloc x) ⟨l⟩:=by
   rw[Go.Sort.alloc_eq_grow,Go.Sort.grow_grow]
   congr 1
   simp
  rw[e];exact h1.trans h2
theorem Qbbk {b off:Nat}{cs:Array Value}{T:TypeId}{d:Array Int}(h:w.heap[b]? = some (.cells cs T (0,0))) :
  Go.Sort.putRow (Value.int .i64) w b off d=World.putCells w b (Go.Sort.putCells (Value.int .i64) off d cs) T:=by
 simp only[Go.Sort.putRow,Go.Sort.mapBlock,World.putCells]
 congr 1
 apply Array.ext_getElem?
 intro i
 simp only[Array.getElem?_modify]
 by_cases hi:b=i
 ·subst hi
  have hlt:b<w.heap.size:=Qmg h
  rw[if_pos rfl,h]
  simp[hlt,Go.Sort.onCells]
 ·rw[if_neg hi,Array.getElem?_setIfInBounds_ne hi]
theorem Qa5d {f:Nat}(hf:fnOk P f=true)
  (hc:∀(blk off cap:Nat) (zs:List Int) (w:World),Go.Sort.Holds (Value.int .i64) w blk off zs.toArray→blk<w.heap.size→zs.length<4611686018427387904→
   Calls P f #[.slice (some ⟨blk,off,none⟩) zs.length cap] w fun e w'=>
    e=.returned (.tuple #[])∧∃n os,w'=Go.Sort.grow (Go.Sort.putRow (Value.int .i64) (Go.Sort.ahead w n) blk off (zs.mergeSort fun x y=>decide (x≤y)).toArray) os)
  {z n:Nat} {ns:List Int} {K:V→Heap→Prop} (hz:H z=.vec 1 (Qg ns)) (hn:n=ns.length) (h0:0<n)
  (hK:∀H',Upd H H' [(z,.vec 1 (Qg (ns.mergeSort fun x y=>decide (x≤y))))]→K (.tup []) H'):Qp P f [.c (.vsl z 1 0 n)] H K:=by
 refine⟨hf,fun g w vs hs hl hv=>?_⟩
 obtain⟨v,rfl⟩:∃v,vs=[v]:=by
  match vs,hl with
  |[v],_=>exact⟨v,rfl⟩
 have hr:=hv 0 _ v rfl rfl
 have ho:=hs.objs z
 rw[hz]at ho
 cases hr with
 |c _ _ hr=>
  cases hr with
  |vslnil=>omega
  |vsl l sz st n cap b base T m hio hnc hsh hm=>
   obtain⟨b',base',T',cs,val,hio',hown,hblk,hsz,hlim,hrow,hcell,hrep⟩:=SatVec.of ho hio
   rw[hio]at hio'
   simp only[Option.some.injEq,Prod.mk.injEq,true_and]at hio'
   obtain⟨rfl,rfl⟩:=hio'
   have hlt:=Qmg hblk
   rw[Qc]at hsz hlim
   have hel:∀j (hj:j<ns.length),cs[base+j]? = some (.int .i64 ns[j]):=by
    intro j hj
    have h1:(Qg ns)[j]? = some [.int .i64 ns[j]]:=by simp[Qg,hj]
    have h2:=hcell j _ 0 _ h1 rfl
    have h3:=hrep j _ 0 _ h1 rfl
    have h4:val j 0=.int .i64 ns[j]:=by
     exact (fun vv (h:RepC w g (.int .i64 ns[j]) vv)=>by cases h;rfl:∀vv,RepC w g (.int .i64 ns[j]) vv→vv=.int .i64 ns[j]) _ (h3.toC rfl)
    simpa[h4]using h2
   have hH:Go.Sort.Holds (Value.int .i64) w b base ns.toArray:=by
    intro j hj
    have hj':j<ns.length:=by simpa using hj
    refine⟨?_,?_⟩
    ·rw[Qcc hblk,hel j hj']
     simp[getElem!_pos,hj']
    ·simp[World.frozen?,hblk]
   subst hn
   simp only[Nat.zero_mul,Nat.add_zero]
   refine (hc b base cap ns w hH hlt (by simp only[LIM]at hlim;omega)).mono fun e w'=>?_
   rintro⟨rfl,nn,os,rfl⟩
   have s1:Stp H g w H g (Go.Sort.ahead w nn):=Qaxq hs (w.drawn+nn)
   have hblk1:(Go.Sort.ahead w nn).heap[b]? = some (.cells cs T' (0,0)):=hblk
   have hel2:∀i (c:C),((Qg (ns.mergeSort fun x y=>decide (x≤y)))[i]? = some [c])→∃x:Int,c=.int .i64 x∧(Go.Sort.putCells (Value.int .i64) base (ns.mergeSort fun x y=>decide (x≤y)).toArray cs)[base+i]? = some (.int .i64 x):=by
    intro i c hi
    have hlen:(ns.mergeSort fun x y=>decide (x≤y)).length=ns.length:=List.length_mergeSort _
    have hil:i<(ns.mergeSort fun x y=>decide (x≤y)).length:=by
     rcases Nat.lt_or_ge i (ns.mergeSort fun x y=>decide (x≤y)).length with h|h
     ·exact h
     ·rw[List.getElem?_eq_none (by rw[Qc];exact h)]at hi;simp at hi
    refine⟨(ns.mergeSort fun x y=>decide (x≤y))[i],?_,?_⟩
    ·simp only[Qg,List.getElem?_map,List.getElem?_eq_getElem hil,Option.map_some,Option.some.injEq,List.cons.injEq,and_true]at hi
     exact hi.symm
    ·simp only[Go.Sort.putCells,Array.getElem?_mapIdx]
     rw[Array.getElem?_eq_getElem (by omega)]
     simp only[Option.map_some,Option.some.injEq]
     rw[if_pos ⟨by omega,by simp only[List.size_toArray];omega⟩]
     congr 1
     simp[getElem!_pos]
     rw[List.getElem?_eq_getElem hil];rfl
   have s2:=Qi7 s1.sat hown hblk1 (cs':=Go.Sort.putCells (Value.int .i64) base (ns.mergeSort fun x y=>decide (x≤y)).toArray cs) (by simp[Go.Sort.putCells])
    (.vec 1 (Qg (ns.mergeSort fun x y=>decide (x≤y)))) (by rw[hz];simp) (fun hle hb2=>.inr ⟨b,base,T',_,fun i _=>.int .i64 ((ns.mergeSort fun x y=>decide (x≤y)).getD i 0),hio,hown,hb2,by
      rw[Qc,List.length_mergeSort];simp[Go.Sort.putCells];omega,by rw[Qc,List.length_mergeSort];exact hlim,fun i row hi=>by
       simp only[Qg,List.getElem?_map,Option.map_eq_some_iff]at hi;obtain⟨x,_,rfl⟩:=hi;rfl,fun i row j c hi hj=>by
       have hi':=hi
       simp only[Qg,List.getElem?_map,Option.map_eq_some_iff]at hi'
       obtain⟨y,hy,rfl⟩:=hi'
       have hj0:j=0:=by
        rcases Nat.eq_zero_or_pos j with h|h
        ·exact h
        ·rw[List.getElem?_eq_none (by simp;omega)]at hj;simp at hj
       subst hj0
       obtain⟨x,hx,he⟩:=hel2 i _ hi
       simp only[C.int.injEq,true_and]at hx
       subst hx
       simp only[Nat.mul_one,Nat.add_zero]
       rw[he,List.getD_eq_getElem?_getD,hy];rfl,fun i row j c hi hj=>by
       have hi':=hi
       simp only[Qg,List.getElem?_map,Option.map_eq_some_iff]at hi'
       obtain⟨y,hy,rfl⟩:=hi'
       have hj0:j=0:=by
        rcases Nat.eq_zero_or_pos j with h|h
        ·exact h
        ·rw[List.getElem?_eq_none (by simp;omega)]at hj;simp at hj
       subst hj0
       simp at hj;subst hj
       show RepO _ _ _ _ _ (Value.int .i64 ((ns.mergeSort fun x y=>decide (x≤y)).getD i 0))
       rw[List.getD_eq_getElem?_getD,hy]
       exact .plain _ _ _ _ (.int _ _)⟩) (by simp)
   rw[←Qbbk hblk1]at s2
   obtain⟨g',s3⟩:=Qbhb s2.sat os
   refine⟨.tuple #[],.tup [],_,g',rfl,hK _ ⟨by simp[Heap.set_same],fun m _ hm=>Heap.set_other _ _ (by simpa using hm)⟩,s1.trans (s2.trans s3),?_⟩
   exact .tup [] [] rfl (by simp)
theorem Qa89 {f:Nat}(hf:fnOk P f=true){k:IntKind}{x r:Int}(hc:∀w,Calls P f #[.int k x] w fun e w'=>e=.returned (.int .i64 r)∧w'=w){K:V→Heap→Prop}(hK:K (.c (.int .i64 r)) H) :
  Qp P f [.c (.int k x)] H K:=by
 refine⟨hf,fun g w vs hs hl hv=>?_⟩
 obtain⟨v,rfl⟩:∃v,vs=[v]:=by
  match vs,hl with
  |[v],_=>exact⟨v,rfl⟩
 have hr:=hv 0 _ v rfl rfl
 cases hr with
 |c _ _ hr=>
  cases hr
  refine (hc w).mono fun e w'=>?_
  rintro⟨rfl,rfl⟩
  exact⟨_,_,H,g,rfl,hK,.refl hs,.c _ _ (.int _ _)⟩
end Go.AE.Y

namespace Go.AE.Y
structure Cmp (ns R:List Int)(k j:Nat):Prop where
 len:R.length=ns.length
 kj:k<j
 jn:j≤ns.length
 asc:(R.take k).Pairwise (· < ·)
 mem:∀x,x∈R.take k↔x∈ns.take j
 same:∀i,j≤i+1→R.getD i 0=ns.getD i 0
variable {ns R:List Int}{k j:Nat}
theorem take_mem {l:List Int}{j:Nat}{x:Int}:x∈l.take j↔∃i,i<j∧i<l.length∧l.getD i 0=x:=by
 constructor
 ·intro h
  obtain⟨i,hi,rfl⟩:=List.mem_iff_getElem.1 h
  rw[List.length_take]at hi
  refine⟨i,by omega,by omega,?_⟩
  rw[List.getElem_take,List.getD_eq_getElem?_getD,List.getElem?_eq_getElem (by omega)];rfl
 ·rintro⟨i,h1,h2,rfl⟩
  rw[List.getD_eq_getElem?_getD,List.getElem?_eq_getElem h2]
  exact List.mem_iff_getElem.2 ⟨i,by rw[List.length_take];omega,by rw[List.getElem_take];rfl⟩
theorem Qfe {ns:List Int}(h:ns.Pairwise (·≤·)){a b:Nat}(hab:a≤b)(hb:b<ns.length):ns.getD a 0≤ns.getD b 0:=by
 rcases Nat.lt_or_ge a b with h1|h1
 ·have:=List.pairwise_iff_getElem.1 h a b (by omega) hb h1
  simpa[List.getD_eq_getElem?_getD,hb,show a<ns.length by omega]using this
 ·have:a=b:=by omega
  subst this;exact Int.le_refl _
theorem Cmp.start (hs:ns.Pairwise (·≤·))(hk0:0<k)(hk:k<ns.length)(hne:∀i,0<i→i<k→ns.getD i 0≠ns.getD (i-1) 0)(he:ns.getD k 0=ns.getD (k-1) 0):Cmp ns ns k (k+1):=by
 refine⟨rfl,by omega,by omega,?_,fun x=>?_,fun i _=>rfl⟩
 ·rw[List.pairwise_iff_getElem]
  intro a b ha hb hab
  rw[List.length_take]at ha hb
  rw[List.getElem_take,List.getElem_take]
  have h1:=Qfe hs (a:=a) (b:=b-1) (by omega) (by omega)
  have h2:=Qfe hs (a:=b-1) (b:=b) (by omega) (by omega)
  have h3:=hne b (by omega) (by omega)
  have e1:ns.getD a 0=ns[a]:=by simp[List.getD_eq_getElem?_getD,show a<ns.length by omega]
  have e2:ns.getD b 0=ns[b]:=by simp[List.getD_eq_getElem?_getD,show b<ns.length by omega]
  rw[e1]at h1;rw[e2]at h2 h3
  omega
 ·rw[take_mem,take_mem]
  constructor
  ·rintro⟨i,h1,h2,h3⟩;exact⟨i,by omega,h2,h3⟩
  ·rintro⟨i,h1,h2,h3⟩
   by_cases h:i<k
   ·exact⟨i,h,h2,h3⟩
   ·have:i=k:=by omega
    subst this
    exact⟨i-1,by omega,by omega,by rw[←he];exact h3⟩
theorem Cmp.eq (c:Cmp ns R k j)(hj:j<ns.length)(he:ns.getD j 0=ns.getD (j-1) 0):Cmp ns R k (j+1):=by
 have:=c.kj
 refine⟨c.len,by omega,by omega,c.asc,fun x=>?_,fun i hi=>c.same i (by omega)⟩
 rw[c.mem,take_mem,take_mem]
 constructor
 ·rintro⟨i,h1,h2,h3⟩;exact⟨i,by omega,h2,h3⟩
 ·rintro⟨i,h1,h2,h3⟩
  by_cases h:i<j
  ·exact⟨i,h,h2,h3⟩
  ·have:i=j:=by omega
   subst this
   exact⟨i-1,by omega,by omega,by rw[←he];exact h3⟩
theorem Cmp.ne (c:Cmp ns R k j)(hs:ns.Pairwise (·≤·))(hj:j<ns.length)(he:ns.getD j 0≠ns.getD (j-1) 0):Cmp ns (R.set k (ns.getD j 0)) (k+1) (j+1):=by
 have hkj:=c.kj
 have hkl:k<R.length:=by rw[c.len];omega
 have htk:(R.set k (ns.getD j 0)).take (k+1)=R.take k++[ns.getD j 0]:=by
  rw[List.take_succ_eq_append_getElem (by rw[List.length_set];exact hkl),List.getElem_set_self]
  congr 1
  rw[List.take_set_of_le (Nat.le_refl _)]
 refine⟨by rw[List.length_set];exact c.len,by omega,by omega,?_,fun x=>?_,fun i hi=>?_⟩
 ·rw[htk,List.pairwise_append]
  refine⟨c.asc,by simp,fun a ha b hb=>?_⟩
  simp at hb;subst hb
  obtain⟨i,h1,h2,rfl⟩:=take_mem.1 ((c.mem a).1 ha)
  have h3:=Qfe hs (a:=i) (b:=j-1) (by omega) (by omega)
  have h4:=Qfe hs (a:=j-1) (b:=j) (by omega) hj
  simp only[List.getD_eq_getElem?_getD]at *
  omega
 ·rw[htk,List.mem_append,c.mem,take_mem,take_mem]
  simp only[List.mem_singleton]
  constructor
  ·rintro (⟨i,h1,h2,h3⟩|rfl)
   ·exact⟨i,by omega,h2,h3⟩
   ·exact⟨j,by omega,hj,rfl⟩
  ·rintro⟨i,h1,h2,h3⟩
   by_cases h:i<j
   ·exact .inl ⟨i,h,h2,h3⟩
   ·have:i=j:=by omega
    subst this;exact .inr h3.symm
 ·have:k≠i:=by omega
  rw[←c.same i (by omega)]
  simp[List.getD_eq_getElem?_getD,this]
theorem Qasp (hs:ns.Pairwise (·≤·))(hne:∀i,0<i→i<ns.length→ns.getD i 0≠ns.getD (i-1) 0):ns.Pairwise (· < ·):=by
 rw[List.pairwise_iff_getElem]
 intro a b ha hb hab
 have h1:=Qfe hs (a:=a) (b:=b-1) (by omega) (by omega)
 have h2:=Qfe hs (a:=b-1) (b:=b) (by omega) (by omega)
 have h3:=hne b (by omega) (by omega)
 have e1:ns.getD a 0=ns[a]:=by simp[List.getD_eq_getElem?_getD,ha]
 have e2:ns.getD b 0=ns[b]:=by simp[List.getD_eq_getElem?_getD,hb]
 rw[e1]at h1;rw[e2]at h2 h3
 omega
def srt (ns:List Int):List Int:=ns.mergeSort fun x y=>decide (x≤y)
theorem Qa30 (ns:List Int):(srt ns).length=ns.length:=List.length_mergeSort _
theorem Qbj5 (ns:List Int)(x:Int):x∈srt ns↔x∈ns:=(List.mergeSort_perm ns _).mem_iff
theorem Qa83 (ns:List Int):(srt ns).Pairwise (·≤·):=by
 have:=List.pairwise_mergeSort (le:=fun x y:Int=>decide (x≤y)) (by simp only[decide_eq_true_eq];omega) (by simp only[Bool.or_eq_true,decide_eq_true_eq];omega) ns
 exact this.imp (by simp)
end Go.AE.Y

namespace Go.Proofs
open Go.Shelf
def Tryz.lays189_ren:Go.Shelf.Ren:=⟨fun|189=>165|125=>230|257=>229|128=>275|129=>276|294=>266|295=>267|296=>268|297=>269|298=>270|299=>271|216=>272|300=>273|301=>274|328=>307|329=>308|330=>309|331=>310|332=>311|215=>312|343=>329|n=>n,fun|28=>27|3=>3|46=>178|0=>0|51=>233|53=>235|4=>4|183=>227|182=>226|131=>154|5=>5|9=>9|218=>273|222=>186|228=>288|229=>289|n=>n,fun|n=>n⟩
theorem Tryz.lays189:Go.Proofs.Lays.n189 Tryz.prog Tryz.lays189_ren:={
 mixed:=by kernel_rfl
 f125:=Tryz.func230.trans (congrArg some (by kernel_rfl))
 f128:=Tryz.func275.trans (congrArg some (by kernel_rfl))
 f129:=Tryz.func276.trans (congrArg some (by kernel_rfl))
 f189:=Tryz.func165.trans (congrArg some (by kernel_rfl))
 f215:=Tryz.func312.trans (congrArg some (by kernel_rfl))
 f216:=Tryz.func272.trans (congrArg some (by kernel_rfl))
 f257:=Tryz.func229.trans (congrArg some (by kernel_rfl))
 f294:=Tryz.func266.trans (congrArg some (by kernel_rfl))
 f295:=Tryz.func267.trans (congrArg some (by kernel_rfl))
 f296:=Tryz.func268.trans (congrArg some (by kernel_rfl))
 f297:=Tryz.func269.trans (congrArg some (by kernel_rfl))
 f298:=Tryz.func270.trans (congrArg some (by kernel_rfl))
 f299:=Tryz.func271.trans (congrArg some (by kernel_rfl))
 f300:=Tryz.func273.trans (congrArg some (by kernel_rfl))
 f301:=Tryz.func274.trans (congrArg some (by kernel_rfl))
 f328:=Tryz.func307.trans (congrArg some (by kernel_rfl))
 f329:=Tryz.func308.trans (congrArg some (by kernel_rfl))
 f330:=Tryz.func309.trans (congrArg some (by kernel_rfl))
 f331:=Tryz.func310.trans (congrArg some (by kernel_rfl))
 f332:=Tryz.func311.trans (congrArg some (by kernel_rfl))
 f343:=Tryz.func329.trans (congrArg some (by kernel_rfl))
 t0:=Tryz.underlying0
 a0:=Tryz.isAgg0
 z0:=Tryz.sizeOf0
 v0:=Tryz.zeroValue0
 t3:=Tryz.underlying3
 a3:=Tryz.isAgg3
 z3:=Tryz.sizeOf3
 v3:=Tryz.zeroValue3
 t4:=Tryz.underlying4
 a4:=Tryz.isAgg4
 z4:=Tryz.sizeOf4
 v4:=Tryz.zeroValue4
 t5:=Tryz.underlying5
 a5:=Tryz.isAgg5
 z5:=Tryz.sizeOf5
 v5:=Tryz.zeroValue5
 t9:=Tryz.underlying9
 a9:=Tryz.isAgg9
 z9:=Tryz.sizeOf9
 v9:=Tryz.zeroValue9
 t28:=Tryz.underlying27
 a28:=Tryz.isAgg27
 z28:=Tryz.sizeOf27
 v28:=Tryz.zeroValue27
 t46:=Tryz.underlying178
 a46:=Tryz.isAgg178
 z46:=Tryz.sizeOf178
 v46:=Tryz.zeroValue178
 t51:=Tryz.underlying233
 a51:=Tryz.isAgg233
 z51:=Tryz.sizeOf233
 v51:=Tryz.zeroValue233
 t53:=Tryz.underlying235
 a53:=Tryz.isAgg235
 z53:=Tryz.sizeOf235
 v53:=Tryz.zeroValue235
 t131:=Tryz.underlying154
 a131:=Tryz.isAgg154
 z131:=Tryz.sizeOf154
 v131:=Tryz.zeroValue154
 t182:=Tryz.underlying226
 a182:=Tryz.isAgg226
 z182:=Tryz.sizeOf226
 v182:=Tryz.zeroValue226
 t183:=Tryz.underlying227
 a183:=Tryz.isAgg227
 z183:=Tryz.sizeOf227
 v183:=Tryz.zeroValue227
 t218:=Tryz.underlying273
 a218:=Tryz.isAgg273
 z218:=Tryz.sizeOf273
 v218:=Tryz.zeroValue273
 t222:=Tryz.underlying186
 a222:=Tryz.isAgg186
 z222:=Tryz.sizeOf186
 v222:=Tryz.zeroValue186
 t228:=Tryz.underlying288
 a228:=Tryz.isAgg288
 z228:=Tryz.sizeOf288
 v228:=Tryz.zeroValue288
 t229:=Tryz.underlying289
 a229:=Tryz.isAgg289
 z229:=Tryz.sizeOf289
 v229:=Tryz.zeroValue289 }
end Go.Proofs

namespace Go.AE.Y
open Go.Proofs.Tryz
variable {H H0:Heap}{K:V→Heap→Prop}{E B Lg:List (Nat×Obj)}
theorem Qa9e {x:Int}(h0:0≤x)(h1:x≤18446744073709551615)(hK:∀n:Int,K (.c (.int .i64 n)) H):Qp prog Qaab [.c (.int .u64 x)] H K:=
 Qa89 (by kernel_rfl) (fun w=>calls_of_every_depth fun D=>Go.Proofs.AnyS.bits_LenIn (ρ:=lays189_ren) { lays189 with } D x w h0 h1) (hK _)
theorem Qbk6 {c:C}(how:c.isOw=false)(hK:K (.tup []) H):Qp prog Qbf [.c c,.c (.int .i64 0),.c (.int .i64 0)] H K:=by
 refine Qb Qai Qka ?_
 refine Qa ?_
 simp only[go_sem,how]
 refine⟨Qr (by omega) (by omega),?_⟩
 refine Qf (Qx (fun m e1 H1=>H1=H∧e1=[(0,.c c),(1,.c (.int .i64 0)),(2,.c (.int .i64 0)),(6,.c (.int .i64 1))]) 0 ⟨rfl,rfl⟩ ?_)
 rintro m e1 H1 ⟨rfl,rfl⟩
 refine Q5 ?_
 refine Qa ?_
 simp only[go_sem,how]
 refine Qi (Qe rfl (fun h=>by simp at h) fun _=>?_)
 refine Qw ?_
 simp only[go_sem,X.next,Q4,Q7,Qda,List.not_mem_nil]
 exact⟨fun _=>trivial,hK⟩
theorem Qbln {c:C}{l:Int}(how:c.isOw=false)(hK:K (.tup []) H):Qp prog Qa9 [.c c,.c (.int .i64 0),.c (.int .i64 0),.c (.int .i64 l)] H K:=by
 refine Qb Qai Qyq ?_
 refine Qa ?_
 simp only[go_sem,how]
 refine Qa ?_
 simp only[go_sem,how]
 refine Qf (Qx (fun m e1 H1=>H1=H∧e1=[(0,.c c),(1,.c (.int .i64 0)),(2,.c (.int .i64 0)),(3,.c (.int .i64 l)),(8,.c (.bool true)),(9,.c (.bool true))]) 0 ⟨rfl,rfl⟩ ?_)
 rintro m e1 H1 ⟨rfl,rfl⟩
 refine Qf ?_
 refine Qa ?_
 simp only[go_sem,how]
 refine⟨Qr (by omega) (by omega),?_⟩
 refine Q5 ?_
 refine Qa ?_
 simp only[go_sem,how]
 refine Qi (Qe rfl (fun _=>?_) (fun h=>by simp at h))
 refine Qa ?_
 simp only[go_sem,how]
 refine Qbk6 how ?_
 refine Qk ?_
 simp only[go_sem,X.next,Q4,Q7,Qh2,List.not_mem_nil]
 exact⟨fun _=>trivial,hK⟩
theorem Qbh3 {c:C}(hok:okSl H c)(hl:lenC c=0)(how:c.isOw=false)(hK:K (.tup []) H):Qp prog Qu2 [.c c] H K:=by
 have hok:=eq_true hok
 refine Qb Qai Qba6 ?_
 refine Qa ?_
 simp only[go_sem,how,hok,hl]
 have e0:((0:Nat):Int)=0:=rfl
 refine Qv ?_
 simp only[go_sem,how,e0]
 refine⟨⟨by decide,by decide⟩,?_⟩
 refine Qa9e (by omega) (by omega) fun n=>?_
 simp only[go_sem,how,Q61]
 refine Qbln how ?_
 simp only[go_sem,Q4,Q7,Qat9,List.not_mem_nil]
 exact⟨fun _=>trivial,hK⟩
theorem Qbkl {c:C}{ns:List Int}(kn:Kn H0 H E (B++Lg))(hgr:Gr Lg 1 (Qg ns) c)
  (hK:∀Lg' H',Gr Lg' 1 (Qg (srt ns)) c→Kn H0 H' E (B++Lg')→K (.tup []) H'):Qp prog Qu2 [.c c] H K:=by
 by_cases h0:ns=[]
 ·subst h0
  refine Qbh3 (hgr.okSl kn) (by rw[hgr.lenC];rfl) hgr.isOw (hK Lg H ?_ kn)
  have:srt []=[]:=by simp[srt]
  rw[this];exact hgr
 ·rcases hgr with ⟨_,h,_⟩|⟨y,rfl,rfl⟩
  ·cases ns with
   |nil=>exact absurd rfl h0
   |cons a b=>simp[Qg]at h
  ·have hy:=kn.l B.length (l:=y) (o:=.vec 1 (Qg ns)) (by simp)
   have hpos:0<ns.length:=List.length_pos_iff.2 h0
   refine Qa5d (by kernel_rfl) (fun blk off cap zs w h1 h2 h3=>Go.Proofs.Any.slices_Sort_int lays189 blk off cap zs w h1 h2 h3) hy (by rw[Qc]) (by rw[Qc];exact hpos) fun H' hu=>?_
   refine hK [(y,.vec 1 (Qg (srt ns)))] H' (.inr ⟨y,by rw[Qc,Qc,Qa30],rfl⟩) ?_
   have:=kn.callL B.length (l:=y) (o:=.vec 1 (Qg ns)) (by simp) hu (by simp)
   simpa[srt]using this
def Qbmx (ks:List Nat):List (C×V):=ks.map fun k:Nat=>(.int .i64 (k:Int),.c (.bool true))
end Go.AE.Y

namespace Go.AE.Y
open Go.Proofs.Tryz
variable {H H0:Heap}{K:V→Heap→Prop}
structure InB (n:Nat)(g:Nat→List Nat)(S:List Bool)(ks:List Nat):Prop where
 len:S.length=n
 s:∀x,x<n→S.getD x false=(decide (x∈ks) || !Qva g (-1) x)
 nd:ks.Nodup
 lt:∀x∈ks,x<n
 i:∀x∈ks,Qva g (-1) x=true
 c:ks.length≤cnt S
theorem InB.add {n:Nat}{g:Nat→List Nat}{S:List Bool}{ks:List Nat}{b:Nat}(h:InB n g S ks)(hb:b<n)(hbs:b∉ks)(hi:Qva g (-1) b=true):S.getD b false=false∧InB n g (S.set b true) (ks++[b]):=by
 have hsb:S.getD b false=false:=by rw[h.s b hb];simp[hbs,hi]
 have hbS:b<S.length:=by rw[h.len];exact hb
 refine⟨hsb,by rw[List.length_set];exact h.len,fun x hx=>?_,?_,fun x hx=>?_,fun x hx=>?_,?_⟩
 ·rw[Q9p]
  by_cases hxb:x=b
  ·subst hxb;simp[hbS]
  ·simp only[hxb,false_and,if_false,List.mem_append,List.mem_singleton,or_false]
   exact h.s x hx
 ·refine List.nodup_append.2 ⟨h.nd,by simp,fun a ha c hc=>?_⟩
  simp at hc;subst hc;exact fun e=>hbs (e▸ha)
 ·rcases List.mem_append.1 hx with hx|hx
  ·exact h.lt x hx
  ·simp at hx;omega
 ·rcases List.mem_append.1 hx with hx|hx
  ·exact h.i x hx
  ·simp at hx;subst hx;exact hi
 ·rw[Qax1 hbS hsb,List.length_append]
  have:=h.c
  simp;omega
def bdCaps (x5 x6:Nat)(dc:List C):List C:=[.ptr x5 0,.pp [.pp dc],.ptr x6 0]
end Go.AE.Y

namespace Go.AE.Y
open Go.Proofs.Tryz
variable {H H0:Heap}{K:V→Heap→Prop}{E B Lg:List (Nat×Obj)}
def Gw (Lg:List (Nat×Obj))(sz:Nat)(rows:List (List C))(c:C):Prop:=
 (c=.sl true sz []∧rows=[]∧Lg=[])∨∃y R,c=.vsl y sz 0 rows.length∧Lg=[(y,.vec sz R)]∧R.take rows.length=rows
end Go.AE.Y
namespace Go.AE
open Go.AE.Y
open Go.Proofs.Tryz
variable {H H0:Heap}{K:V→Heap→Prop}{E B Lg:List (Nat×Obj)}
theorem Gr.gw {sz:Nat}{rows:List (List C)}{c:C}(h:Gr Lg sz rows c):Gw Lg sz rows c:=by
 rcases h with h|⟨y,h1,h2⟩
 ·exact .inl h
 ·exact .inr ⟨y,rows,h1,h2,List.take_length⟩
end Go.AE
namespace Go.AE.Y
open Go.Proofs.Tryz
variable {H H0:Heap}{K:V→Heap→Prop}{E B Lg:List (Nat×Obj)}
theorem Gw.isOw {sz:Nat}{rows:List (List C)}{c:C}(h:Gw Lg sz rows c):c.isOw=false:=by rcases h with ⟨rfl,_⟩|⟨y,R,rfl,_⟩ <;> rfl
theorem Gw.frz {ns:List Int}{c:C}(h:Gw Lg 1 (Qg ns) c)(kn:Kn H0 H E (B++Lg)):FrzC H (un H0) c (.sl false 1 (Qg ns)):=by
 rcases h with ⟨rfl,h2,_⟩|⟨y,R,rfl,rfl,hR⟩
 ·rw[h2];exact FrzR.nil.sl
 ·have hle:(Qg ns).length≤R.length:=by
   have:=congrArg List.length hR
   rw[List.length_take]at this
   omega
  have h:=FrzR.same (H:=H) (S:=un H0) (Qt ns)
  exact .vsl y 1 0 _ R (Qg ns) (Qg ns) (Qir (kn.loc (y,.vec 1 R) (by simp))) (kn.get (y,.vec 1 R) (by simp)).1 (by omega) (by simpa using hR.symm) h.spec.1 (fun i r r' h1 h2=>(h.spec.2 i r r' h1 h2).spec.1) fun i r r' j c c' h1 h2 h3 h4=>(h.spec.2 i r r' h1 h2).spec.2 j c c' h3 h4
theorem Qaop {fl:Bool}{ns:List Int}{L:List (Nat×Obj)}(kn:Kn H0 H E L)(hl:ns.length≤LIM)(hK:∀t Lg H',Gr Lg 1 (Qg ns) t→t.isOw=false→Kn H0 H' E (L++Lg)→K (.c t) H') :
  Qp prog Qey [.c (.sl fl 1 (Qg ns))] H K:=by
 refine Qb Qai Qa6e ?_
 refine Qa ?_
 simp only[go_sem]
 refine Q5 ?_
 refine Qa ?_
 simp only[go_sem]
 intro b hb
 refine Qi (Qe rfl ?_ ?_)
 ·intro hbt
  have hn:=hb hbt
  refine Qa ?_
  simp only[go_sem]
  refine Qk ?_
  simp only[go_sem,Q4,Q7,Q25,List.mem_singleton,forall_eq,RS.op]
  refine hK _ [] H ?_ rfl (by simpa using kn)
  rw[hn];exact .nil 1
 ·intro hbf
  refine Qh ?_
  simp only[go_sem]
  refine Qa ?_
  simp only[go_sem,Qc]
  refine⟨.inl trivial,Qt _,by omega,fun z hz H1 h1=>?_⟩
  have kn:=kn.al hz h1
  simp only[go_sem,Q11]
  refine Qk ?_
  simp only[go_sem,Q4,Q7,Q25,List.mem_singleton,forall_eq,RS.op]
  exact hK _ _ H1 (.mk z 1 _ (by rw[Qc];omega)) rfl kn
theorem Qa50 (ns:List Int)(i:Nat)(x:Int):(Qg ns).set i [.int .i64 x]=Qg (ns.set i x):=by simp[Qg,List.map_set]
theorem Qayk (ns:List Int)(k:Nat):(Qg ns).take k=Qg (ns.take k):=by simp[Qg,List.map_take]
set_option maxHeartbeats 2000000 in
theorem Qa86 {c:C}{ns:List Int}(kn:Kn H0 H E (B++Lg))(hgr:Gr Lg 1 (Qg ns) c)(hs:ns.Pairwise (·≤·))(hL:ns.length≤2 ^ 38)
  (hK:∀t Lg' ns' H',Gw Lg' 1 (Qg ns') t→t.isOw=false→Kn H0 H' E (B++Lg')→ns'.Pairwise (· < ·)→(∀x,x∈ns'↔x∈ns)→ns'.length≤ns.length→K (.c t) H') :
  Qp prog Qmt [.c c] H K:=by
 have how:=hgr.isOw
 have hok:=eq_true (hgr.okSl kn)
 have hlen:=hgr.lenC
 have hrw:=hgr.rowsOf kn
 have hsz:=hgr.elemSz
 refine Qb Qai Qatu ?_
 refine Qa ?_
 simp only[go_sem,how]
 refine Q5 ?_
 refine Qa ?_
 simp only[go_sem,how,hok,hlen,Qc]
 intro _
 refine Qi (Qe rfl ?_ ?_)
 ·intro hc
  have h2:ns.length<2:=by have:=of_decide_eq_true hc;omega
  refine Qa ?_
  simp only[go_sem,how]
  refine Qk ?_
  simp only[go_sem,Q4,Q7,Qjc,List.mem_singleton,forall_eq,RS.op,how]
  exact hK c Lg ns H hgr.gw how kn (Qasp hs fun i h0 hi=>by omega) (fun _=>Iff.rfl) (Nat.le_refl _)
 ·intro hc
  have h2:2≤ns.length:=by have:=of_decide_eq_false hc;omega
  obtain⟨z,rfl,rfl⟩:∃z,c=.vsl z 1 0 ns.length∧Lg=[(z,.vec 1 (Qg ns))]:=by
   rcases hgr with ⟨_,h,_⟩|⟨y,h1,h2⟩
   ·have:ns.length=0:=by rw[←Qc,h];rfl
    omega
   ·exact⟨y,by rw[h1,Qc],h2⟩
  have hz:=kn.l B.length (l:=z) (o:=.vec 1 (Qg ns)) (by simp)
  refine Qh ?_
  simp only[go_sem]
  refine Q5 ?_
  refine Qa ?_
  simp only[go_sem]
  refine Qi (Qf (Qx (fun m e1 H1=>∃(k:Nat),m=ns.length-k∧0<k∧k≤ns.length∧H1=H∧(∀i,0<i→i<k→ns.getD i 0≠ns.getD (i-1) 0)∧e1=[(0,.c (.vsl z 1 0 ns.length)),(3,.c (.int .i64 k))]) (ns.length-1) ?_ ?_))
  ·exact⟨1,rfl,by omega,by omega,rfl,fun i h0 h1=>by omega,rfl⟩
  ·rintro m e1 H1 ⟨k,hm,hk0,hk,rfl,hne,rfl⟩
   refine Q5 ?_
   refine Qa ?_
   simp only[go_sem,hz,Qc,Nat.zero_add,Nat.le_refl]
   intro hlim
   simp only[LIM]at hlim
   refine Qi (Qe rfl ?_ ?_)
   ·intro hc2
    have hlt:k<ns.length:=by simpa using hc2
    have hlt1:k-1<ns.length:=by omega
    have e1:((k:Int)-1)=((k-1:Nat):Int):=by omega
    have htk:(Qg ns).take ns.length=Qg ns:=List.take_of_length_le (by rw[Qc];exact Nat.le_refl _)
    refine Qh ?_
    simp only[go_sem]
    refine Qi (Qf ?_)
    refine Qae ?_
    simp only[go_sem,hz,e1,hlt,hlt1,htk,Qc,Qs _ _ hlt,Qs _ _ hlt1,Nat.zero_add,Nat.le_refl]
    refine⟨Qr (by omega) (by omega),?_⟩
    refine Qe rfl ?_ ?_
    ·intro hc3
     have heq:ns.getD k 0=ns.getD (k-1) 0:=by simpa using hc3
     refine Qa ?_
     simp only[go_sem,hz,hlt,Qc,Nat.zero_add,Nat.le_refl]
     refine⟨by omega,?_⟩
     refine Q5 ?_
     refine Qa ?_
     simp only[go_sem]
     refine Qi (Qf (Qx (fun m e1 H2=>∃(j kk:Nat) (R:List Int),m=ns.length-j∧k<j∧j≤ns.length∧Cmp ns R kk j∧Kn H0 H2 E (B++[(z,.vec 1 (Qg R))])∧
      e1=[(0,.c (.vsl z 1 0 ns.length)),(3,.c (.int .i64 kk)),(4,.c (.vsl z 1 k (ns.length-k))),(5,.c (.int .i64 ((j-k:Nat):Int)))]) (ns.length-(k+1)) ?_ ?_))
     ·refine⟨k+1,k,ns,rfl,by omega,by omega,.start hs hk0 hlt hne heq,kn,?_⟩
      have:k+1-k=1:=by omega
      rw[this];rfl
     ·rintro m2 e1 H2 ⟨j,kk,R,hm2,hkj,hj,hcm,kn,rfl⟩
      have hz:=kn.l B.length (l:=z) (o:=.vec 1 (Qg R)) (by simp)
      have hRl:=hcm.len
      have hkkj:=hcm.kj
      refine Q5 ?_
      refine Qa ?_
      have e3:k+(ns.length-k)=ns.length:=by omega
      simp only[go_sem,hz,Qc,hRl,e3,Nat.zero_add,Nat.le_refl]
      intro _
      refine Qi (Qe rfl ?_ ?_)
      ·intro hc4
       have hjl:j<ns.length:=by have:=of_decide_eq_true hc4;omega
       have hjR:j<R.length:=by omega
       have hjR1:j-1<R.length:=by omega
       have hjk:j-k<ns.length-k:=by omega
       have hjk1:j-k-1<ns.length-k:=by omega
       have e4:(((j-k:Nat):Int)-1)=((j-k-1:Nat):Int):=by omega
       have hr1:(((Qg R).drop k).take (ns.length-k)).getD (j-k) []=[.int .i64 (ns.getD j 0)]:=by
        rw[←hcm.same j (by omega),←Qs _ _ hjR]
        simp only[List.getD_eq_getElem?_getD,List.getElem?_take,List.getElem?_drop]
        rw[if_pos hjk]
        have:k+(j-k)=j:=by omega
        rw[this]
       have hr2:(((Qg R).drop k).take (ns.length-k)).getD (j-k-1) []=[.int .i64 (ns.getD (j-1) 0)]:=by
        rw[←hcm.same (j-1) (by omega),←Qs _ _ hjR1]
        simp only[List.getD_eq_getElem?_getD,List.getElem?_take,List.getElem?_drop]
        rw[if_pos hjk1]
        have:k+(j-k-1)=j-1:=by omega
        rw[this]
       refine Qh ?_
       simp only[go_sem]
       refine Qvd (fun e2 H3=>∃(kk:Nat) (R:List Int),Cmp ns R kk (j+1)∧Kn H0 H3 E (B++[(z,.vec 1 (Qg R))])∧
        lk 0 e2=.c (.vsl z 1 0 ns.length)∧lk 3 e2=.c (.int .i64 kk)∧lk 4 e2=.c (.vsl z 1 k (ns.length-k))∧lk 5 e2=.c (.int .i64 ((j-k:Nat):Int))) ?_ ?_
       ·intro Q hnr _ _
        refine Qf ?_
        refine Qae ?_
        simp only[go_sem,hz,e3,e4,hr1,hr2,hjk,hjk1,Qc,hRl,Nat.le_refl]
        refine⟨Qr (by omega) (by omega),?_⟩
        refine Qe rfl ?_ ?_
        ·intro hc5
         have hne5:ns.getD j 0≠ns.getD (j-1) 0:=by simpa using hc5
         have hkkl:kk<ns.length:=by omega
         have hkkR:kk<R.length:=by omega
         have htk:(Qg R).take ns.length=Qg R:=List.take_of_length_le (by rw[Qc];omega)
         refine Qa ?_
         simp only[go_sem,hz,e3,hr1,hjk,hkkl,htk,Qs _ _ hkkR,Qa50,Qc,hRl,Nat.zero_add,Nat.le_refl]
         intro H3 h3
         have kn3:=kn.stL B.length (x:=z) (o:=.vec 1 (Qg R)) (by simp) h3
         have kn:Kn H0 H3 E (B++[(z,.vec 1 (Qg (R.set kk (ns.getD j 0))))]):=by simpa using kn3
         refine Qv ?_
         simp only[go_sem]
         refine⟨Qr (by omega) (by omega),?_⟩
         exact hnr _ _ ⟨kk+1,_,hcm.ne hs hjl hne5,kn,rfl,rfl,rfl,rfl⟩
        ·intro hc5
         have heq5:ns.getD j 0=ns.getD (j-1) 0:=by simpa using hc5
         refine Qh ?_
         simp only[go_sem]
         exact hnr _ _ ⟨kk,R,hcm.eq hjl heq5,kn,rfl,rfl,rfl,rfl⟩
       ·rintro e2 H3 ⟨kk,R,hcm,kn,l0,l3,l4,l5⟩
        refine Qv ?_
        simp only[go_sem,X.next,l0,l3,l4,l5]
        refine⟨Qr (by omega) (by omega),ns.length-(j+1),by omega,j+1,kk,R,rfl,by omega,by omega,hcm,kn,?_⟩
        have:(((j-k:Nat):Int)+1)=((j+1-k:Nat):Int):=by omega
        rw[this]
      ·intro hc4
       have hje:j=ns.length:=by have:=of_decide_eq_false hc4;omega
       subst hje
       have hkkl:kk≤R.length:=by omega
       refine Qw ?_
       simp only[go_sem,X.next]
       refine Qa ?_
       have e5:kk+(ns.length-kk)=ns.length:=by omega
       simp only[go_sem,hz,e5,Qc,hRl,Nat.zero_add,Nat.le_refl]
       refine⟨by omega,fun H3 h3=>?_⟩
       have kn3:=kn.stL B.length (x:=z) (o:=.vec 1 (Qg R)) (by simp) h3
       have htk2:((Qg R).take kk++List.replicate (ns.length-kk) [C.int .i64 0]++(Qg R).drop ns.length).take kk=Qg (R.take kk):=by
        rw[List.append_assoc,List.take_append_of_le_length (by rw[List.length_take,Qc];omega),List.take_take,Nat.min_self,Qayk]
       have hl2:ns.length≤((Qg R).take kk++List.replicate (ns.length-kk) [C.int .i64 0]++(Qg R).drop ns.length).length:=by
        simp only[List.length_append,List.length_take,List.length_replicate,List.length_drop,Qc];omega
       generalize (Qg R).take kk++List.replicate (ns.length-kk) [C.int .i64 0]++(Qg R).drop ns.length=R2 at *
       have kn:Kn H0 H3 E (B++[(z,.vec 1 R2)]):=by simpa using kn3
       have hz3:=kn.l B.length (l:=z) (o:=.vec 1 R2) (by simp)
       refine Qa ?_
       simp only[go_sem,hz3,hl2,Nat.zero_add,Nat.sub_zero]
       refine⟨by omega,?_⟩
       refine Qk ?_
       simp only[go_sem,X.next,Q4,Q7,Qjc,List.mem_singleton,forall_eq,RS.op]
       have hrl:(Qg (R.take kk)).length=kk:=by rw[Qc,List.length_take];omega
       refine hK (.vsl z 1 0 kk) _ (R.take kk) H3 (.inr ⟨z,R2,?_,rfl,?_⟩) rfl kn hcm.asc (fun x=>?_) (by rw[List.length_take];omega)
       ·rw[hrl]
       ·rw[hrl];exact htk2
       ·rw[hcm.mem,List.take_length]
    ·intro hc3
     have hneq:¬ns.getD k 0=ns.getD (k-1) 0:=by simpa using hc3
     refine Qh ?_
     simp only[go_sem]
     refine Qv ?_
     simp only[go_sem,X.next]
     refine⟨Qr (by omega) (by omega),ns.length-(k+1),by omega,k+1,rfl,by omega,by omega,fun i h0 h1=>?_,rfl⟩
     by_cases h:i<k
     ·exact hne i h0 h
     ·have:i=k:=by omega
      subst this;exact hneq
   ·intro hc2
    have hge:ns.length≤k:=by simpa using hc2
    refine Qw ?_
    simp only[go_sem,X.next]
    refine Qa ?_
    simp only[go_sem]
    refine Qk ?_
    simp only[go_sem,Q4,Q7,Qjc,List.mem_singleton,forall_eq,RS.op]
    exact hK _ _ ns H1 hgr.gw rfl kn (Qasp hs fun i h0 hi=>hne i h0 (by omega)) (fun _=>Iff.rfl) (Nat.le_refl _)
theorem Qbll {fl:Bool}{ns:List Int}(hL:ns.length≤2 ^ 38)(hK:∀ns' H',Upd H H' []→ns'.Pairwise (· < ·)→(∀x,x∈ns'↔x∈ns)→ns'.length≤ns.length→K (.c (.sl false 1 (Qg ns'))) H') :
  Qp prog Q2h [.c (.sl fl 1 (Qg ns))] H K:=by
 refine Qu ?_
 refine Qb Qai Qbaq ?_
 refine Qa ?_
 simp only[go_sem]
 refine Qa ?_
 simp only[go_sem]
 refine Qaop (Kn.start0 H) (by simp only[LIM];omega) fun t Lg H1 hgr how kn=>?_
 simp only[go_sem,Q5b]
 refine Qa ?_
 simp only[go_sem,how]
 refine Qbkl kn hgr fun Lg H2 hgr kn=>?_
 refine Qa ?_
 simp only[go_sem,how]
 refine Qa86 kn hgr (Qa83 ns) (by rw[Qa30];exact hL) fun t2 Lg2 ns' H3 hgw how2 kn h1 h2 h3=>?_
 simp only[go_sem,Q5c,how2]
 refine Qk ?_
 simp only[go_sem,Q4,Q7,Qat3,List.mem_singleton,forall_eq,RS.op,how2]
 exact⟨_,.c _ _ (hgw.frz kn),hK ns' _ kn.fin h1 (fun x=>by rw[h2,Qbj5]) (by rw[Qa30]at h3;exact h3)⟩
end Go.AE.Y

namespace Go.AE.Y
open Go.Proofs.Tryz
variable {H H0:Heap}{K:V→Heap→Prop}{E B Lg:List (Nat×Obj)}
noncomputable def Qbk1 (n:Nat)(nx:Nat→List Int):List Nat:=if Qmi n nx then Qbmt n (nxN nx)else []
noncomputable def loopL (n:Nat)(nx:Nat→List Int)(h:Int):List Nat:=if ((Qbk1 n nx).map Int.ofNat).contains h then Qa9g n (nxN nx) h.toNat else []
noncomputable def reachL (n:Nat)(nx:Nat→List Int):List Nat:=if Qmi n nx then (List.range n).filter (Qva (nxN nx) (-1))else []
end Go.AE.Y

namespace Go.AE.Y
open Go.Proofs.Tryz
variable {H H0:Heap}{K:V→Heap→Prop}{E B Lg:List (Nat×Obj)}
end Go.AE.Y

namespace Go.AE.Y
open Go.Proofs.Tryz
def Qavf:List Item:=[sJ 3 4 9]
def Qavg:List Item:=[sJ 3 4 15]
def Qavh:List Item:=.chk 12 none (.ld 3 true (.t 2))::aJ 15 Qa5s [.t 12,.t 14]::Qavg
def Q5o:List Item:=[sJ 3 4 19]
def Qavi:List Item:=[sJ 3 4 23]
def Qavj:List Item:=[sJ 3 4 27]
def Qavk:List Item:=[sJ 3 4 31]
def Qavl:List Item:=[sJ 3 4 35]
def Qavm:List Item:=[sJ 3 4 39]
def Qavn:List Item:=[sJ 3 4 43]
def Qarg:List Item:=[sJ 3 4 47]
def Qarh:List Item:=[sJ 3 4 51]
def Qau1:SC:=cT 48 (sR (tJ 50 3 2::aJ 51 Qa5v [.t 50]::Qarh) [4] .ret) .skip
def Qau2:SC:=cT 44 (sR (tJ 46 3 2::aJ 47 Qa5w [.t 46]::Qarg) [4] .ret) (sR [fI 49 (.bin 0 .eql (.t 5) (.k (.c (.str [106,111,105,110])))),mJ 48 49] [2,4,48] Qau1)
def Qau3:SC:=cT 40 (sR (tJ 42 3 2::aJ 43 Qa5u [.t 42]::Qavn) [4] .ret) (sR [fI 45 (.bin 0 .eql (.t 5) (.k (.c (.str [115,107,105,112])))),mJ 44 45] [2,4,5,44] Qau2)
def Qau4:SC:=cT 36 (sR (tJ 38 3 2::aJ 39 Qax9 [.t 38]::Qavm) [4] .ret) (sR [fI 41 (.bin 0 .eql (.t 5) (.k (.c (.str [101,118,101,110])))),mJ 40 41] [2,4,5,40] Qau3)
def Qau5:SC:=cT 32 (sR (tJ 34 3 2::aJ 35 Qax8 [.t 34]::Qavl) [4] .ret) (sR [fI 37 (.bin 0 .eql (.t 5) (.k (.c (.str [104,111,105,115,116])))),mJ 36 37] [2,4,5,36] Qau4)
def Qau6:SC:=cT 28 (sR (tJ 30 3 2::aJ 31 Qa9y [.t 30]::Qavk) [4] .ret) (sR [fI 33 (.bin 0 .eql (.t 5) (.k (.c (.str [115,104,97,114,101])))),mJ 32 33] [2,4,5,32] Qau5)
def Qau7:SC:=cT 24 (sR (tJ 26 3 2::aJ 27 Qas2 [.t 26]::Qavj) [4] .ret) (sR [fI 29 (.bin 0 .eql (.t 5) (.k (.c (.str [107,110,111,119,110])))),mJ 28 29] [2,4,5,28] Qau6)
def Qau8:SC:=cT 20 (sR (tJ 22 3 2::aJ 23 Qa5t [.t 22]::Qavi) [4] .ret) (sR [fI 25 (.bin 0 .eql (.t 5) (.k (.c (.str [115,105,110,103,108,101])))),mJ 24 25] [2,4,5,24] Qau7)
def Qau9:SC:=cT 16 (sR (tJ 18 3 2::aJ 19 Qyi [.t 18]::Q5o) [4] .ret) (sR [fI 21 (.bin 0 .eql (.t 5) (.k (.c (.str [105,100,108,101])))),mJ 20 21] [2,4,5,20] Qau8)
def Qava:SC:=cT 10 (.seq (.dreg 5 [0,1,2,0,3,4] ( tJ 12 3 2::tJ 13 3 2::aJ 14 Qax7 [.t 13]::Qavh) [4]) .ret) (sR [fI 17 (.bin 0 .eql (.t 5) (.k (.c (.str [115,112,108,105,116])))),mJ 16 17] [2,4,5,16] Qau9)
def Qavb:SC:=cT 6 (sR (tJ 8 3 2::aJ 9 Qa5r [.t 8]::Qavf) [4] .ret) (sR [fI 11 (.bin 0 .eql (.t 5) (.k (.c (.str [111,114,100,101,114])))),mJ 10 11] [2,4,5,10] Qava)
def Qavc:SC:=.block 0 (sR [fI 7 (.bin 0 .eql (.t 5) (.k (.c (.str [114,101,97,99,104])))),mJ 6 7] [2,4,5,6] Qavb)
def Qari:List Item:=[sJ 3 4 53]
def Qavd:SC:=sR (tJ 52 3 2::aJ 53 Qaya [.t 52]::Qari) [4] .ret
def Qave:SC:=.seq (sR [mJ 5 1] [2,4,5] Qavc) Qavd
def Qbb4:SC:=sR [vJ 2 0,eI 4 (.alloc [.int .i64 0,.int .i64 0,.sl true 5 []])] [1,2,4] Qave
def Qat5:List RS:=[.cell 4 3 true]
theorem Qbau:mFn prog Qu0 2 54 Qbb4 Qat5=true:=by kernel_rfl
def Q5h:List Item:=[fB 5 false]
def Q5i:List Item:=[oJ 10 9]
def Q5j:List Item:=[fB 5 false]
def Qazt:SC:=cT 10 (sR (fI 11 (.bld [.sl true 3 []] [])::sJ 1 4 11::Q5j) [4,5] .ret) .skip
def Q5k:List Item:=[sJ 1 6 12]
def Q5l:List Item:=[fJ 31 0 6,sJ 1 31 30]
def Q5m:List Item:=hJ 21 20::fI 29 (.bsl 3 [.t 28])::xJ 30 3 21 29::Q5l
def Qazu:SC:=.reg [mJ 18 7,cJ 19 .add 18 1,mJ 7 19] [1,2,4,6,7]
def Qazv:SC:=.seq (.block 1 (.dreg 13 [0,1,2,3,4,5,6,7,8,1,9,10,11,12] ( fJ 20 0 6::lJ 21 20::fJ 22 0 2::lJ 23 22::mJ 24 7::iJ 25 3 23 24::tJ 26 3 25::mJ 27 1::aJ 28 Qu0 [.t 26,.t 27]::Q5m) [1,2,4,6,7])) Qazu
def Qaup:SC:=.seq (sR [mJ 13 7,fJ 14 0 2,lJ 15 14,nJ 16 15,bJ 17 .lss 13 16] [1,2,4,6,7,17] (cT 17 .skip (.exit 0))) Qazv
def Q06:List Item:=[oJ 34 33]
def Q07:List Item:=[fB 5 false]
def Qauj:SC:=cT 34 (sR (fI 35 (.bld [.sl true 3 []] [])::sJ 1 4 35::Q07) [4,5] .ret) .skip
def Q08:List Item:=[fB 5 true]
def Qauk:SC:=sR (tJ 36 1 6::sJ 1 4 36::Q08) [4,5] .ret
def Qaul:SC:=.seq .gh (.seq (sR (tJ 32 1 6::aJ 33 Qbx [.t 32]::Q06) [4,6,34] Qauj) Qauk)
def Qaum:SC:=.seq (sR [zJ 7 0] [1,2,4,6,7] (bL 0 Qaup)) Qaul
def Qaun:SC:=sR (fI 12 (.bld [.sl true 3 []] [])::eI 6 (.alloc [.sl true 3 []])::Q5k) [1,2,4,6] Qaum
def Qauo:SC:=.seq (sR (tJ 8 1 2::aJ 9 Qbx [.t 8]::Q5i) [1,2,4,10] Qazt) Qaun
def Qbb3:SC:=sR (vJ 2 0::eI 4 (.alloc [.sl true 3 []])::Q5h) [1,2,4] Qauo
def Q0d:List RS:=[.cell 4 1 true,.tmp 5]
theorem Qbat:mFn prog Q2j 2 37 Qbb3 Q0d=true:=by kernel_rfl
end Go.AE.Y

namespace Go.AE.Y
attribute [local instance] Classical.propDecidable
variable {g:Nat→List Nat}{n:Nat}
theorem domB_iff {a b:Nat}:Qef g a b=true↔Qva g (-1) a=true∧Qva g (-1) b=true∧¬Rch g (fun z=>(z:Int)=a) 0 b:=by
 simp only[Qef,Bool.and_eq_true,Bool.not_eq_true',and_assoc]
 refine and_congr_right fun _=>and_congr_right fun _=>?_
 rw[←Bool.not_eq_true,rchB_iff]
theorem Rch.via {A:Nat→Prop}{a b:Nat}(h:Rch g A 0 b)(hn:¬Rch g (fun z=>(z:Int)=a) 0 b):Rch g A 0 a:=by
 induction h with
 |refl h=>
  by_cases ha:0=a
  ·subst ha;exact .refl h
  ·exact absurd (Rch.refl fun hh=>ha (by omega)) hn
 |@step y z h1 h2 h3 ih=>
  by_cases hy:Rch g (fun z=>(z:Int)=a) 0 y
  ·by_cases ha:z=a
   ·subst ha;exact .step h1 h2 h3
   ·exact absurd (Rch.step hy h2 fun hh=>ha (by omega)) hn
  ·exact ih hy
theorem Q2f {x a b:Nat}(h1:Qef g x a=true)(h2:Qef g a b=true):Qef g x b=true:=by
 rw[domB_iff]at *
 exact⟨h1.1,h2.2.1,fun h=>h1.2.2 (h.via h2.2.2)⟩
theorem Rch.two {A:Nat→Prop}{a b z:Nat}(hab:a≠b)(h:Rch g A 0 z):Rch g (fun w=>w=a∨w=b) 0 z∨Rch g (fun w=>(w:Int)=b) 0 a∨Rch g (fun w=>(w:Int)=a) 0 b:=by
 induction h with
 |refl _=>
  by_cases ha:0=a
  ·subst ha;exact .inr (.inl (.refl fun hh=>hab (by omega)))
  ·by_cases hb:0=b
   ·subst hb;exact .inr (.inr (.refl fun hh=>hab (by omega)))
   ·exact .inl (.refl fun hh=>hh.elim ha hb)
 |@step y z h1 h2 h3 ih=>
  rcases ih with h|h
  ·by_cases ha:z=a
   ·subst ha
    exact .inr (.inl (.step (h.mono fun w hw=>.inr (by omega)) h2 fun hh=>hab (by omega)))
   ·by_cases hb:z=b
    ·subst hb
     exact .inr (.inr (.step (h.mono fun w hw=>.inl (by omega)) h2 fun hh=>hab (by omega)))
    ·exact .inl (.step h h2 fun hh=>hh.elim ha hb)
  ·exact .inr h
theorem Q96 {a b:Nat}(h1:Qef g a b=true)(h2:Qef g b a=true):a=b:=by
 by_cases hab:a=b
 ·exact hab
 rw[domB_iff]at *
 rcases (rchB_iff.1 h1.1).two hab with h|h|h
 ·exact absurd (.inl rfl) h.snd
 ·exact absurd h h2.2.2
 ·exact absurd h h1.2.2
noncomputable def depL (n:Nat)(g:Nat→List Nat)(b:Nat):Nat:=((List.range n).filter fun a=>Qef g a b).length
theorem Qa9w {α:Type}{p q:α→Bool}{l:List α}(h:∀x∈l,p x=true→q x=true){y:α}(hy:y∈l)(hq:q y=true)(hp:p y=false):(l.filter p).length<(l.filter q).length:=by
 have le:∀(l:List α),(∀x∈l,p x=true→q x=true)→(l.filter p).length≤(l.filter q).length:=fun l=>by
  induction l with
  |nil=>intro _;simp
  |cons x l ih=>
   intro h
   have h1:=ih fun z hz=>h z (List.mem_cons_of_mem _ hz)
   have h2:=h x List.mem_cons_self
   cases hpx:p x with
   |false=>cases hqx:q x <;> simp[hpx,hqx] <;> omega
   |true=>have:=h2 hpx;simp[hpx,this];omega
 induction l with
 |nil=>simp at hy
 |cons x l ih=>
  have h2:=h x List.mem_cons_self
  have h3:=le l fun z hz=>h z (List.mem_cons_of_mem _ hz)
  rcases List.mem_cons.1 hy with rfl|hy
  ·simp[hq,hp];omega
  ·have h1:=ih (fun z hz=>h z (List.mem_cons_of_mem _ hz)) hy
   cases hpx:p x with
   |false=>cases hqx:q x <;> simp[hpx,hqx] <;> omega
   |true=>have:=h2 hpx;simp[hpx,this];omega
theorem Qbic {a b:Nat}(hb:b<n)(h:Qef g a b=true)(hab:a≠b):depL n g a<depL n g b:=by
 refine Qa9w (fun x _ hx=>Q2f hx h) (y:=b) (List.mem_range.2 hb) ?_ ?_
 ·rw[Q97];exact (Qa9m h).2
 ·cases hc:Qef g b a with
  |false=>rfl
  |true=>exact absurd (Q96 h hc) hab
def Tree (n:Nat)(ids:List Int)(dp:Nat→Nat):Prop:=ids.length=n∧∀b,b<n→ids.getD b 0=-1∨∃a:Nat,ids.getD b 0=a∧a<n∧dp a<dp b
inductive Sub (ids:List Int)(b:Nat):Nat→Prop
 |refl:Sub ids b b
 |step {y x:Nat}:Sub ids b y→x<ids.length→ids.getD x 0=(y:Int)→Sub ids b x
variable {ids:List Int}{dp:Nat→Nat}
def Qbi2 (ids:List Int)(b:Nat):List Nat:=(List.range ids.length).filter fun i=>decide (ids.getD i 0=(b:Int))
theorem kidsL_mem {b k:Nat}:k∈Qbi2 ids b↔k<ids.length∧ids.getD k 0=(b:Int):=by simp[Qbi2]
theorem Tree.up (t:Tree n ids dp){b k:Nat}(hk:k<ids.length)(h:ids.getD k 0=(b:Int)):b<n∧dp b<dp k:=by
 have hk':k<n:=by rw[←t.1];exact hk
 rcases t.2 k hk' with h1|⟨a,h1,h2,h3⟩
 ·omega
 ·have:a=b:=by omega
  subst this;exact⟨h2,h3⟩
theorem Sub.split {b x:Nat}(h:Sub ids b x):x=b∨∃k∈Qbi2 ids b,Sub ids k x:=by
 induction h with
 |refl=>exact .inl rfl
 |@step y x h1 h2 h3 ih=>
  rcases ih with rfl|⟨k,hk,h⟩
  ·exact .inr ⟨x,kidsL_mem.2 ⟨h2,h3⟩,.refl⟩
  ·exact .inr ⟨k,hk,h.step h2 h3⟩
theorem Sub.lt {b x:Nat}(hb:b<ids.length)(h:Sub ids b x):x<ids.length:=by
 cases h with
 |refl=>exact hb
 |step _ h _=>exact h
def potW (n:Nat)(w:Nat→Nat)(U:Nat→Prop) [DecidablePred U]:Nat:=(((List.range n).filter fun x=>decide (U x)).map w).sum
end Go.AE.Y

namespace Go.AE.Y
attribute [local go_sem] cond_true cond_false Bool.not_true Bool.not_false
open Go.Proofs.Tryz
variable {H H0:Heap}{K:V→Heap→Prop}{E B Lg:List (Nat×Obj)}
noncomputable def rchL (n:Nat)(g:Nat→List Nat):List Nat:=(List.range n).filter (Qva g (-1))
end Go.AE.Y

namespace Go.AE.Y
attribute [local go_sem] cond_true cond_false Bool.not_true Bool.not_false
open Go.Proofs.Tryz
variable {H H0:Heap}{K:V→Heap→Prop}{E B Lg:List (Nat×Obj)}
theorem Qanv (l:List Int)(i:Nat)(v:Int):(Qg l).set i [C.int .i64 v]=Qg (l.set i v):=by simp[Qg,List.map_set]
def Qbmh (n:Nat)(l:List Nat)(P:List Int):Prop:=P.length=n∧∀x∈l,∃i,∃h:i<l.length,l[i]=x∧P.getD x 0=(i:Int)
end Go.AE.Y

namespace Go.AE.Y
attribute [local go_sem] cond_true cond_false Bool.not_true Bool.not_false
open Go.Proofs.Tryz
variable {H H0:Heap}{K:V→Heap→Prop}{E B Lg:List (Nat×Obj)}
def kidsN (ids:List Int)(b n:Nat):List Nat:=(List.range n).filter fun i=>decide (ids.getD i 0=(b:Int))
end Go.AE.Y

namespace Go.AE.Y
attribute [local go_sem] cond_true cond_false Bool.not_true Bool.not_false
open Go.Proofs.Tryz
variable {H H0:Heap}{K:V→Heap→Prop}{E B Lg:List (Nat×Obj)}
end Go.AE.Y

namespace Go.AE.Y
open Go.Proofs.Tryz
variable {H:Heap}{K:V→Heap→Prop}
theorem Qa97 {op:Int}(hK:K (.c (.bool (decide (1≤op)&&decide (op≤14)))) H):Qp prog Qmk [.c (.int .i64 op)] H K:=by
 refine Qb Qai Qa59 ?_
 refine Qa ?_
 simp only[go_sem]
 refine Qa ?_
 simp only[go_sem]
 refine Qdg ?_
 simp only[go_sem,Q01]
 refine Qk ?_
 simp only[go_sem,Q4,Q7,Qan5,List.mem_singleton,forall_eq,RS.op]
 exact hK
theorem Qbeq {n:Int}(hK:K (.c (.bool (decide (0≤n)&&decide (n≤255)))) H):Qp prog Qqx [.c (.int .i64 n)] H K:=by
 refine Qb Qai Qayp ?_
 refine Qa ?_
 simp only[go_sem]
 refine Qa ?_
 simp only[go_sem]
 refine Qdg ?_
 simp only[go_sem,Qxe]
 refine Qk ?_
 simp only[go_sem,Q4,Q7,Qaba,List.mem_singleton,forall_eq,RS.op]
 exact hK
theorem Qbdd {op:Int}(hK:K (.c (.bool (Qwl op))) H):Qp prog Quz [.c (.int .i64 op)] H K:=by
 refine Qb Qai Qbar ?_
 refine Qa ?_
 simp only[go_sem]
 refine Qa ?_
 simp only[go_sem]
 refine Qa97 ?_
 simp only[go_sem,Q5d]
 refine Qk ?_
 simp only[go_sem,Q4,Q7,Qat4,List.mem_singleton,forall_eq,RS.op]
 have:∀a b c:Bool,(bif bif a then b else false then c else false)=(a&&b&&c):=by decide
 rw[this]
 have e:(decide (1≤op)&&decide (op≤14))=decide (1≤op∧op≤14):=by simp
 rw[e];exact hK
theorem Qasi {j:Int}(hK:K (.c (.bool (decide (j=2) || decide (j=3)))) H):Qp prog Qiy [.c (.int .i64 j)] H K:=by
 refine Qb Qai Qays ?_
 refine Qa ?_
 simp only[go_sem]
 refine Qa ?_
 simp only[go_sem]
 refine Qk ?_
 simp only[go_sem,Q4,Q7,Qabd,List.mem_singleton,forall_eq,RS.op]
 have:∀a b:Bool,(bif a then true else b)=(a || b):=by decide
 first|(rw[this];exact hK)|exact hK
theorem Qay3 {j:Int}(hK:K (.c (.int .i64 (Qpj j))) H):Qp prog Qhk [.c (.int .i64 j)] H K:=by
 refine Qb Qai Qah8 ?_
 have retf:∀(n:Int) (e:Env),Qpj j=n→lk 2 e=.c (.int .i64 n)→Q4 Qkf K .ret e H:=by
  intro b e h1 h3
  simp only[go_sem,Q4,Q7,Qkf,List.mem_singleton,forall_eq,RS.op,h3]
  rw[←h1];exact hK
 refine Qa ?_
 simp only[go_sem]
 refine Q5 ?_
 refine Qa ?_
 simp only[go_sem]
 refine Qi (Qf ?_)
 refine Qa ?_
 simp only[go_sem]
 refine Qe rfl ?_ ?_
 ·intro hc
  refine Qa ?_
  simp only[go_sem]
  refine Qk ?_
  simp only[go_sem]
  exact retf 1 _ (by simp at hc;simp[Qpj,hc]) (by simp[lk])
 intro hc1
 refine Qa ?_
 simp only[go_sem]
 refine Qe rfl ?_ ?_
 ·intro hc
  refine Qa ?_
  simp only[go_sem]
  refine Qk ?_
  simp only[go_sem]
  exact retf 2 _ (by simp at hc;simp[Qpj,hc]) (by simp[lk])
 intro hc2
 refine Qa ?_
 simp only[go_sem]
 refine Qe rfl ?_ ?_
 ·intro hc
  refine Qa ?_
  simp only[go_sem]
  refine Qk ?_
  simp only[go_sem]
  exact retf 0 _ (by simp at hc;simp[Qpj,hc]) (by simp[lk])
 ·intro hc
  refine Qh ?_
  simp only[go_sem]
  refine Qa ?_
  simp only[go_sem]
  refine Qk ?_
  exact retf (-1) _ (by simp at hc hc1 hc2;simp[Qpj,hc,hc1,hc2]) (by simp[lk])
def Qaso (op:Int):Int:=if op=1 then 0 else if op=2∨op=10∨op=11∨op=13 then 1 else 2
theorem Qa96 {op:Int}(hK:K (.c (.int .i64 (Qaso op))) H):Qp prog Qmj [.c (.int .i64 op)] H K:=by
 refine Qb Qai Qatf ?_
 have retf:∀(n:Int) (e:Env),Qaso op=n→lk 2 e=.c (.int .i64 n)→Q4 Qi9 K .ret e H:=by
  intro b e h1 h3
  simp only[go_sem,Q4,Q7,Qi9,List.mem_singleton,forall_eq,RS.op,h3]
  rw[←h1];exact hK
 refine Qa ?_
 simp only[go_sem]
 refine Q5 ?_
 refine Qa ?_
 simp only[go_sem]
 refine Qi (Qf ?_)
 refine Qa ?_
 simp only[go_sem]
 refine Qe rfl ?_ ?_
 ·intro hc
  refine Qa ?_
  simp only[go_sem]
  refine Qk ?_
  simp only[go_sem]
  exact retf 0 _ (by simp at hc;simp[Qaso,hc]) (by simp[lk])
 intro hc1
 have fin:∀(b:Bool) (e:Env),b=decide (op=2∨op=10∨op=11∨op=13)→lk 6 e=.c (.bool b)→Qac prog Qxc (X.inBlock 0 (X.sq prog Qxd (Q4 Qi9 K))) e H:=by
  intro b e hb l6
  refine Qe l6 ?_ ?_
  ·intro hc
   refine Qa ?_
   simp only[go_sem]
   refine Qk ?_
   simp only[go_sem]
   exact retf 1 _ (by rw[hc]at hb;have:=of_decide_eq_true hb.symm;simp at hc1;rw[Qaso,if_neg hc1,if_pos this]) (by simp[lk])
  ·intro hc
   refine Qh ?_
   simp only[go_sem]
   refine Qa ?_
   simp only[go_sem]
   refine Qk ?_
   exact retf 2 _ (by rw[hc]at hb;have:=of_decide_eq_false hb.symm;simp at hc1;rw[Qaso,if_neg hc1,if_neg this]) (by simp[lk])
 refine Q5 ?_
 refine Qa ?_
 simp only[go_sem]
 refine Qi (Qe rfl ?_ ?_)
 ·intro hc
  refine Qh ?_
  simp only[go_sem]
  exact fin true _ (decide_eq_true (.inl (of_decide_eq_true hc))).symm (by simp[lk];exact of_decide_eq_true hc)
 intro hc2
 refine Qa ?_
 simp only[go_sem]
 refine Qe rfl ?_ ?_
 ·intro hc
  refine Qh ?_
  simp only[go_sem]
  exact fin true _ (decide_eq_true (.inr (.inl (of_decide_eq_true hc)))).symm (by simp[lk];exact of_decide_eq_true hc)
 intro hc3
 refine Qa ?_
 simp only[go_sem]
 refine Qe rfl ?_ ?_
 ·intro hc
  refine Qh ?_
  simp only[go_sem]
  exact fin true _ (decide_eq_true (.inr (.inr (.inl (of_decide_eq_true hc))))).symm (by simp[lk];exact of_decide_eq_true hc)
 intro hc4
 refine Qv ?_
 simp only[go_sem]
 refine fin (decide (op=13)) _ ?_ (by simp[lk])
 have a2:=of_decide_eq_false hc2
 have a3:=of_decide_eq_false hc3
 have a4:=of_decide_eq_false hc4
 simp[a2,a3,a4]
end Go.AE.Y

namespace Go.AE.Y
open Go.Proofs.Tryz
variable {H:Heap}{K:V→Heap→Prop}
theorem Qaxr {l:List BlkD}(hf:∀b∈l,b.ins.length≤2 ^ 38∧b.phis.length≤2 ^ 38):Qg7 Qzt l≤l.length * 549755813888:=by
 induction l with
 |nil=>simp[Qg7]
 |cons y l ih=>
  have h1:=hf y List.mem_cons_self
  have h2:=ih fun b hb=>hf b (List.mem_cons_of_mem _ hb)
  simp only[Qg7,List.map_cons,List.sum_cons,Qzt,List.length_cons]at *
  omega
set_option maxHeartbeats 1000000 in
theorem Q95 {q:CodeD}{fl:Bool}(hf:q.fits)(hb:q.blocks.length≤160)(hK:∀H',Upd H H' []→K (.c (.int .i64 (Qve q))) H') :
  Qp prog Qdy [.ag [.int .i64 q.params,.int .i64 q.regs,.sl fl 5 (Qn q.blocks)]] H K:=by
 refine Qu ?_
 refine Qb Qai Qah2 ?_
 have hsb:=Qaxr hf
 refine Qa ?_
 simp only[go_sem]
 refine Qa ?_
 simp only[go_sem]
 refine Q5 ?_
 refine Qa ?_
 simp only[go_sem,Ql]
 intro _
 refine Qi (Qf (Qx (fun m e1 H1=>∃(i:Nat),m=q.blocks.length-i∧i≤q.blocks.length∧Kn H H1 [] []∧
  e1=[(3,.c (.int .i64 (Qg7 Qzt (q.blocks.take i):Nat))),(7,.c (.sl fl 5 (Qn q.blocks))),(8,.c (.int .i64 q.blocks.length)),(9,.c (.int .i64 i))]) q.blocks.length ?_ ?_))
 ·exact⟨0,by omega,by omega,Kn.start0 H,rfl⟩
 ·rintro m e1 H1 ⟨i,hm,hi,kn,rfl⟩
  refine Qa ?_
  simp only[go_sem]
  refine Qi (Qe rfl ?_ ?_)
  ·intro hc
   have hlt:i<q.blocks.length:=by simpa using hc
   have hbf:=hf _ (List.getElem_mem hlt)
   have hss:=Qcl (f:=Qzt) hlt
   have hle:=Qash (f:=Qzt) (l:=q.blocks) (i+1)
   have hcy:Qzt q.blocks[i]=q.blocks[i].ins.length+q.blocks[i].phis.length:=rfl
   have hmul:q.blocks.length * 549755813888≤160 * 549755813888:=Nat.mul_le_mul_right _ hb
   refine Qh ?_
   simp only[go_sem]
   refine Qi (Qf ?_)
   refine Qa ?_
   simp only[go_sem,hlt,Ql,Qak _ _ hlt,BlkD.cells]
   intro x5 hx5 H2 h2
   have kn:=kn.al hx5 h2
   have hx5:=kn.l 0 rfl
   simp only[go_sem,Qlk,hx5]
   intro H3 h3
   have kn:Kn H H3 [] ([]++[(x5,.st [.sl false 2 (Q0 q.blocks[i].phis),.sl false 4 (Qa1 q.blocks[i].ins),.int .i64 q.blocks[i].jump,.int .i64 q.blocks[i].on,.sl false 1 (Qg q.blocks[i].next)])]):=kn.stL 0 rfl h3
   have hx5:=kn.l 0 rfl
   refine Qv ?_
   simp only[go_sem,hx5,Qar,Qy]
   intro _ _
   refine⟨Qr (by omega) (by omega),Qr (by omega) (by omega),?_⟩
   refine Qv ?_
   simp only[go_sem,X.next]
   refine⟨Qr (by omega) (by omega),q.blocks.length-(i+1),by omega,i+1,rfl,by omega,kn.drop,?_⟩
   rw[hss,hcy]
   have:((Qg7 Qzt (q.blocks.take i):Nat):Int)+((q.blocks[i].phis.length:Int)+q.blocks[i].ins.length)=((Qg7 Qzt (q.blocks.take i)+(q.blocks[i].ins.length+q.blocks[i].phis.length):Nat):Int):=by omega
   rw[this];rfl
  ·intro hc
   have hge:q.blocks.length≤i:=by simpa using hc
   refine Qw ?_
   simp only[go_sem,X.next]
   refine Qa ?_
   simp only[go_sem]
   refine Qk ?_
   simp only[go_sem,Q4,Q7,Qwo,List.mem_singleton,forall_eq,RS.op]
   rw[List.take_of_length_le hge]
   exact⟨_,.c _ _ (Qd rfl),hK _ kn.fin⟩
end Go.AE.Y

namespace Go.AE.Y
open Go.Proofs.Tryz
variable {H:Heap}{K:V→Heap→Prop}
theorem Qanu {x7:Nat}{q:CodeD}{v:Int}(h7:H x7=.st q.cells)(hr:-(2^62)≤q.regs)(hr2:q.regs≤2^62)(hK:K (.c (.bool (decide (0≤v∧v≤q.regs-1)))) H) :
  Qp prog Qc6 [.c (.int .i64 v),.c (.ptr x7 0)] H K:=by
 refine Qb Qai Qape ?_
 refine Qa ?_
 simp only[go_sem]
 refine Qa ?_
 simp only[go_sem,h7,CodeD.cells]
 refine⟨Qr (by omega) (by omega),?_⟩
 refine Qdg ?_
 simp only[go_sem,Qn8]
 refine Qk ?_
 simp only[go_sem,Q4,Q7,Q0a,List.mem_singleton,forall_eq,RS.op]
 have e:(decide (0≤v)&&decide (v≤q.regs-1))=decide (0≤v∧v≤q.regs-1):=by simp
 rw[e];exact hK
theorem Qa5z {x7 x8:Nat}{q:CodeD}{v:Int}(h7:H x7=.st q.cells)(h8:H x8=.st [.fn Qc6 [.ptr x7 0]])(hr:-(2^62)≤q.regs)(hr2:q.regs≤2^62)(hK:K (.c (.bool (!decide (0≤v∧v≤q.regs-1)))) H) :
  Qp prog Qj0 [.c (.int .i64 v),.c (.ptr x8 0)] H K:=by
 refine Qb Qai Qapf ?_
 refine Qa ?_
 simp only[go_sem]
 refine Qa ?_
 simp only[go_sem,h8,List.cons_append,List.nil_append,List.map_cons,List.map_nil]
 refine Qanu h7 hr hr2 ?_
 simp only[go_sem,Qn9]
 refine Qk ?_
 simp only[go_sem,Q4,Q7,Q0b,List.mem_singleton,forall_eq,RS.op]
 exact hK
theorem Qaxz (p:Int→Bool)(l:List Int):(l.any fun x=>!p x) = !l.all p:=by
 induction l with
 |nil=>rfl
 |cons x l ih=>simp only[List.any_cons,List.all_cons,ih];cases p x <;> simp
set_option maxHeartbeats 1000000 in
theorem Qbiv {cs:List CodeD}{fl:Bool}{k:Nat}{x:InsD}(hk:k<cs.length)(hr:0≤cs[k].regs)(hr2:cs[k].regs≤300)(hcl:cs.length≤100)(hK:∀(H':Heap),Upd H H' []→K (.c (.bool (insG cs k x))) H') :
  Qp prog Qyg [.ag [.sl fl 3 (Qj cs)],.c (.int .i64 k),.ag x.cells] H K:=by
 refine Qu ?_
 refine Qb Qai Qa58 ?_
 refine Qa ?_
 simp only[go_sem,InsD.cells]
 refine Qa ?_
 simp only[go_sem,hk,Qq,Q3 _ _ hk,CodeD.cells]
 intro x7 hx7 H1 h1
 have kn:=(Kn.start0 H).al hx7 h1
 have hx7:=kn.l 0 rfl
 simp only[go_sem,Q0y,hx7]
 intro H2 h2
 have kn:=kn.stL 0 rfl h2
 refine Qa ?_
 simp only[go_sem]
 intro x8 hx8 H3 h3
 have kn:=kn.al hx8 h3
 have hx8:=kn.l 1 rfl
 simp only[go_sem,Q0z,hx8]
 intro H4 h4
 have kn:Kn H H4 [] [(x7,.st cs[k].cells),(x8,.st [.fn Qc6 [.ptr x7 0]])]:=kn.stL 1 rfl h4
 have h7:H4 x7=.st cs[k].cells:=kn.l 0 rfl
 have h8:=kn.l 1 rfl
 have hrg:=Qabr hk
 have retf:∀(b:Bool) (e:Env),insG cs k x=b→lk 6 e=.c (.bool b)→Q4 Qk9 (fun x H'=>∃x',FrzV H' (un H) x x'∧K x' (H'.frz (un H))) .ret e H4:=by
  intro b e h1 h3
  simp only[go_sem,Q4,Q7,Qk9,List.mem_singleton,forall_eq,RS.op,h3]
  rw[←h1];exact⟨_,.c _ _ (Qd rfl),hK _ kn.fin⟩
 refine Q5 ?_
 refine Qa ?_
 simp only[go_sem]
 refine Qa97 ?_
 simp only[go_sem,Q00]
 have rest2:∀(E1:Env) (b:Bool),insH cs[k].regs x=true→insT cs[k].regs x=(!b)→lk 1 E1=.c (.int .i64 k)→lk 3 E1=.c (.pp [.sl fl 3 (Qj cs)])→lk 5 E1=.c (.pp [.int .i64 x.op,.int .i64 x.to,.sl false 1 (Qg x.args),.int .i64 x.n])→lk 45 E1=.c (.bool b)→
   Qac prog (s_im_insOk_8.seq Q0w) (Q4 Qk9 (fun x H'=>∃x',FrzV H' (un H) x x'∧K x' (H'.frz (un H)))) E1 H4:=by
  intro E1 b hb1 hb2 l1 l3 l5 l45
  refine Qi (Qe l45 ?_ ?_)
  ·intro hc
   refine Qa ?_
   simp only[go_sem]
   refine Qk ?_
   simp only[go_sem]
   exact retf false _ (by rw[insG,hrg,hb2,hc];simp) (by simp[lk])
  intro hc
  rw[hc]at hb2
  have hG:insG cs k x=insL cs k x:=by rw[insG,hrg,hb1,hb2];rfl
  have hop14:1≤x.op∧x.op≤14:=by
   simp only[insH,Bool.and_eq_true,decide_eq_true_eq]at hb1
   exact hb1.1
  refine Qh ?_
  simp only[go_sem]
  refine Q5 ?_
  refine Qa ?_
  simp only[go_sem,l1,l3,l5]
  refine Qi (Qf ?_)
  refine Qa ?_
  simp only[go_sem]
  refine Qe rfl ?_ ?_
  ·intro hc
   have hop:x.op=1:=of_decide_eq_true hc
   have hL:insL cs k x=(decide ((x.args.length:Int)=0)&&(decide (0≤x.n)&&decide (x.n≤255))):=by
    rw[insL,if_neg (by omega)]
    simp[Qyc,hop]
   refine Qa ?_
   simp only[go_sem,Qc]
   intro _
   refine⟨fun hb=>?_,fun hb=>?_⟩
   ·refine Qbeq ?_
    simp only[go_sem,Qm4]
    refine Qk ?_
    simp only[go_sem]
    refine retf _ _ ?_ (by simp[lk];rfl)
    have hb':x.args=[]:=List.length_eq_zero_iff.1 (by have:=of_decide_eq_true hb;omega)
    rw[hG,hL];simp[hb']
   ·simp only[go_sem,Qm4,hb]
    refine Qk ?_
    simp only[go_sem]
    exact retf false _ (by rw[hG,hL,hb];rfl) (by simp[lk])
  intro hc1
  have hop1:¬x.op=1:=of_decide_eq_false hc1
  refine Qa ?_
  simp only[go_sem]
  refine Qe rfl ?_ ?_
  ·intro hc
   have hop:x.op=14:=of_decide_eq_true hc
   rw[insL,if_pos hop]at hG
   refine Qae ?_
   simp only[go_sem]
   refine⟨Qr (by omega) (by omega),?_⟩
   refine Qdg ?_
   by_cases hin:0≤x.n∧x.n≤(k:Int)-1
   ·obtain⟨m,hm⟩:=Int.eq_ofNat_of_zero_le hin.1
    have hmk:m<cs.length:=by omega
    have h1:(0≤(m:Int))=True:=eq_true (by omega)
    have h2:((m:Int)≤(k:Int)-1)=True:=eq_true (by omega)
    simp only[go_sem,Qfo,hm,h1,h2,hmk,decide_true,Bool.and_self,Qq,Q3 _ _ hmk,CodeD.cells,Qc]
    refine Qk ?_
    simp only[go_sem]
    refine retf _ _ ?_ (by simp[lk];rfl)
    rw[hG,hm,Int.toNat_natCast,Qaa5 hmk]
    simp only[h1,h2,and_self,decide_true,Bool.true_and]
   ·have hin':(decide (0≤x.n)&&decide (x.n≤(k:Int)-1))=false:=by simpa using hin
    have hin2:decide (0≤x.n∧x.n≤(k:Int)-1)=false:=by simpa using hin
    by_cases hm:x.n.toNat<cs.length
    ·simp only[go_sem,Qfo,hin',Q3 _ _ hm,CodeD.cells]
     refine Qk ?_
     simp only[go_sem]
     exact retf false _ (by rw[hG,hin2];rfl) (by simp[lk])
    ·have hgd:(Qj cs).getD x.n.toNat []=[]:=by
      rw[List.getD_eq_getElem?_getD,List.getElem?_eq_none (by rw[Qq];omega)];rfl
     simp only[go_sem,Qfo,hin',hgd,List.take_nil,List.headD_nil]
     refine Qk ?_
     simp only[go_sem]
     exact retf false _ (by rw[hG,hin2];rfl) (by simp[lk])
  ·intro hc
   have hop:¬x.op=14:=of_decide_eq_false hc
   have hA:Qyc x.op=Qaso x.op:=by
    rw[Qyc,Qaso,if_neg hop1,if_neg hop1]
    split
    ·rfl
    ·rw[if_pos (by omega)]
   have hL:insL cs k x=(decide (x.n=0)&&decide ((x.args.length:Int)=Qaso x.op)):=by
    rw[insL,if_neg hop,hA]
    by_cases hn:x.n=0
    ·simp[hn]
    ·simp[hn,hop1]
   refine Qh ?_
   simp only[go_sem]
   refine Qae ?_
   simp only[go_sem,Qc]
   refine⟨fun hb=>?_,fun hb=>?_⟩
   ·refine Qa96 ?_
    simp only[go_sem,Qkl,hb,Qc]
    refine Qk ?_
    refine retf _ _ ?_ (by simp[lk];rfl)
    have hb':=of_decide_eq_true hb
    rw[hG,hL];simp[hb']
   ·simp only[go_sem,Qkl,hb,Qc]
    refine Qk ?_
    exact retf false _ (by rw[hG,hL,hb];rfl) (by simp[lk])
 have rest:∀(E1:Env) (b:Bool),insH cs[k].regs x=(!b)→lk 1 E1=.c (.int .i64 k)→lk 3 E1=.c (.pp [.sl fl 3 (Qj cs)])→lk 5 E1=.c (.pp [.int .i64 x.op,.int .i64 x.to,.sl false 1 (Qg x.args),.int .i64 x.n])→lk 8 E1=.c (.ptr x8 0)→lk 24 E1=.c (.bool b)→
   Qac prog (s_im_insOk_4.seq Q0x) (Q4 Qk9 (fun x H'=>∃x',FrzV H' (un H) x x'∧K x' (H'.frz (un H)))) E1 H4:=by
  intro E1 b hb l1 l3 l5 l8 l24
  refine Qi (Qe l24 ?_ ?_)
  ·intro hc
   refine Qa ?_
   simp only[go_sem]
   refine Qk ?_
   simp only[go_sem]
   exact retf false _ (by rw[insG,hrg,hb,hc];rfl) (by simp[lk])
  intro hc
  rw[hc]at hb
  refine Qh ?_
  simp only[go_sem]
  refine Q5 ?_
  refine Qa ?_
  simp only[go_sem,l1,l3,l5,l8]
  refine Qbdd ?_
  cases hmk:Qwl x.op with
  |true=>
   simp only[go_sem,cond_true,cond_false,Bool.not_true,Bool.not_false,Qm3,l1,l3,l5,l8,h8]
   refine Qanu h7 (by omega) (by omega) ?_
   have hT:insT cs[k].regs x=decide (0≤x.to∧x.to≤cs[k].regs-1):=by rw[insT,hmk];rfl
   cases hd:decide (0≤x.to∧x.to≤cs[k].regs-1)with
   |true=>
    simp only[go_sem,cond_true,cond_false,Bool.not_true,Bool.not_false,Qg1,l1,l3,l5,l8,h8]
    refine Qbdd ?_
    simp only[go_sem,cond_true,cond_false,Bool.not_true,Bool.not_false,Qg0,l1,l3,l5,l8,hmk]
    exact rest2 _ false hb (by rw[hT,hd];rfl) (by simp[lk]) (by simp[lk]) (by simp[lk]) (by simp[lk])
   |false=>
    simp only[go_sem,cond_true,cond_false,Bool.not_true,Bool.not_false,Qg1,Qg0,l1,l3,l5,l8,h8]
    exact rest2 _ true hb (by rw[hT,hd];rfl) (by simp[lk]) (by simp[lk]) (by simp[lk]) (by simp[lk])
  |false=>
   have hT:insT cs[k].regs x=decide (x.to=-1):=by rw[insT,hmk];rfl
   simp only[go_sem,cond_true,cond_false,Bool.not_true,Bool.not_false,Qm3,Qg1,l1,l3,l5,l8,h8]
   refine Qbdd ?_
   simp only[go_sem,cond_true,cond_false,Bool.not_true,Bool.not_false,Qg0,l1,l3,l5,l8,hmk]
   refine rest2 _ (!decide (x.to=-1)) hb ?_ ?_ ?_ ?_ ?_
   ·rw[hT];simp
   ·rfl
   ·rfl
   ·rfl
   ·rfl
 cases hi:(decide (1≤x.op)&&decide (x.op≤14))with
 |false=>
  simp only[go_sem,Qm2]
  refine rest _ true ?_ (by simp[lk]) (by simp[lk]) (by simp[lk]) (by simp[lk]) (by simp[lk])
  have:decide (1≤x.op∧x.op≤14)=false:=by simpa using hi
  rw[insH,this];rfl
 |true=>
  simp only[go_sem,h8]
  refine Qfg (p:=fun r=>!decide (0≤r∧r≤cs[k].regs-1)) (.mk' _ _ _ _) rfl (fun v K' hv hK'=>Qa5z h7 h8 (by omega) (by omega) hK') ?_
  simp only[go_sem,Qm2]
  refine rest _ (x.args.any fun r=>!decide (0≤r∧r≤cs[k].regs-1)) ?_ (by simp[lk]) (by simp[lk]) (by simp[lk]) (by simp[lk]) (by simp[lk])
  have:decide (1≤x.op∧x.op≤14)=true:=by simpa using hi
  rw[insH,this,Qaxz,Qrm];simp
end Go.AE.Y

namespace Go.AE.Y
attribute [local go_sem] cond_true cond_false Bool.not_true Bool.not_false
open Go.Proofs.Tryz
variable {H:Heap}{K:V→Heap→Prop}
theorem Qasm {fl:Bool}{l:List InsD}{f:Nat}{caps:List C}{p:InsD→Bool}
  (hf:∀(x:InsD) (H1:Heap) (K':V→Heap→Prop),x∈l→(∀H2,Upd H1 H2 []→K' (.c (.bool (p x))) H2)→Qp prog f ([.ag x.cells]++caps.map .c) H1 K')
  (hK:∀(r:Int) (H':Heap),Upd H H' []→decide (0≤r)=l.any p→K (.c (.int .i64 r)) H') :
  Qp prog Qdk [.c (.sl fl 4 (Qa1 l)),.c (.fn f caps)] H K:=by
 refine Qu ?_
 refine Qb Qai Qz5 ?_
 refine Qa ?_
 simp only[go_sem]
 refine Q5 ?_
 refine Qa ?_
 simp only[go_sem,Qar]
 intro hl
 simp only[LIM]at hl
 refine Qi (Qf (Qx (fun m e1 H1=>∃(i:Nat),m=l.length-i∧i≤l.length∧Kn H H1 [] []∧(∀x∈l.take i,p x=false)∧e1=[(0,.c (.sl fl 4 (Qa1 l))),(1,.c (.fn f caps)),(7,.c (.int .i64 l.length)),(8,.c (.int .i64 i))]) l.length ?_ ?_))
 ·exact⟨0,by omega,by omega,Kn.start0 H,by simp,rfl⟩
 ·rintro m e1 H1 ⟨i,hm,hi,kn,hall,rfl⟩
  refine Qa ?_
  simp only[go_sem]
  refine Qi (Qe rfl ?_ ?_)
  ·intro hc
   have hlt:i<l.length:=by simpa using hc
   refine Qh ?_
   simp only[go_sem]
   refine Qi (Qf ?_)
   refine Qa ?_
   simp only[go_sem]
   refine Qa ?_
   simp only[go_sem,hlt,Qar,Qdp _ _ hlt,InsD.take4,InsD.allOw,InsD.len4]
   refine hf _ _ _ (List.getElem_mem hlt) fun H2 hu=>?_
   have kn:=kn.call0 hu
   refine Qe rfl ?_ ?_
   ·intro hc2
    refine Qa ?_
    simp only[go_sem]
    refine Qk ?_
    simp only[go_sem,X.next,Q4,Q7,Qea,List.mem_singleton,forall_eq,RS.op]
    refine⟨_,.c _ _ (Qd rfl),hK _ _ kn.fin ?_⟩
    have:l.any p=true:=List.any_eq_true.2 ⟨_,List.getElem_mem hlt,hc2⟩
    rw[this];simp
   ·intro hc2
    refine Qh ?_
    simp only[go_sem]
    refine Qv ?_
    simp only[go_sem,X.next]
    refine⟨Qr (by omega) (by omega),l.length-(i+1),by omega,i+1,rfl,by omega,kn,?_,rfl⟩
    rw[List.take_succ_eq_append_getElem hlt]
    intro x hx
    rcases List.mem_append.1 hx with hx|hx
    ·exact hall x hx
    ·simp only[List.mem_singleton]at hx;subst hx;exact hc2
  ·intro hc
   have hge:l.length≤i:=by simpa using hc
   rw[List.take_of_length_le hge]at hall
   refine Qw ?_
   simp only[go_sem,X.next]
   refine Qa ?_
   simp only[go_sem]
   refine Qk ?_
   simp only[go_sem,Q4,Q7,Qea,List.mem_singleton,forall_eq,RS.op]
   refine⟨_,.c _ _ (Qd rfl),hK _ _ kn.fin ?_⟩
   have:l.any p=false:=by
    cases hc:l.any p with
    |false=>rfl
    |true=>obtain⟨x,hx,hp⟩:=List.any_eq_true.1 hc;rw[hall x hx]at hp;exact absurd hp (by simp)
   rw[this];rfl
theorem Q92 {fl:Bool}{l:List InsD}{f:Nat}{caps:List C}{p:InsD→Bool}
  (hf:∀(x:InsD) (H1:Heap) (K':V→Heap→Prop),x∈l→(∀H2,Upd H1 H2 []→K' (.c (.bool (p x))) H2)→Qp prog f ([.ag x.cells]++caps.map .c) H1 K')
  (hK:∀(H':Heap),Upd H H' []→K (.c (.bool (l.any p))) H') :
  Qp prog Qcb [.c (.sl fl 4 (Qa1 l)),.c (.fn f caps)] H K:=by
 refine Qb Qai Qq8 ?_
 refine Qa ?_
 simp only[go_sem]
 refine Qa ?_
 simp only[go_sem]
 refine Qasm hf fun r H' hu hr=>?_
 simp only[go_sem,Qdt]
 refine Qk ?_
 simp only[go_sem,Q4,Q7,Qfu,List.mem_singleton,forall_eq,RS.op]
 rw[hr];exact hK _ hu
theorem Qyd {x5:Nat}{q:CodeD}{v:Int}(h5:H x5=.st q.cells)(hr:-(2^62)≤q.regs)(hr2:q.regs≤2^62)(hK:K (.c (.bool (decide (0≤v∧v≤q.regs-1)))) H) :
  Qp prog Qad [.c (.int .i64 v),.c (.ptr x5 0)] H K:=by
 refine Qb Qai Qah3 ?_
 refine Qa ?_
 simp only[go_sem]
 refine Qa ?_
 simp only[go_sem,h5,CodeD.cells]
 refine⟨Qr (by omega) (by omega),?_⟩
 refine Qdg ?_
 simp only[go_sem,Qll]
 refine Qk ?_
 simp only[go_sem,Q4,Q7,Qwp,List.mem_singleton,forall_eq,RS.op]
 have e:(decide (0≤v)&&decide (v≤q.regs-1))=decide (0≤v∧v≤q.regs-1):=by simp
 rw[e];exact hK
theorem Qax2 {x5:Nat}{q:CodeD}{v:Int}(h5:H x5=.st q.cells)(hb:q.blocks.length≤2 ^ 38)(hK:K (.c (.bool (!Q64 (Qn q.blocks).length v))) H) :
  Qp prog Qhf [.c (.int .i64 v),.c (.ptr x5 0)] H K:=by
 refine Qb Qai Qah4 ?_
 refine Qa ?_
 simp only[go_sem]
 refine Qa ?_
 simp only[go_sem,h5,CodeD.cells,Ql]
 intro _
 refine⟨Qr (by omega) (by omega),?_⟩
 refine Qdg ?_
 simp only[go_sem,Qlm]
 refine Qk ?_
 simp only[go_sem,Q4,Q7,Qwq,List.mem_singleton,forall_eq,RS.op]
 have e:(decide (1≤v)&&decide (v≤(q.blocks.length:Int)-1))=Q64 (Qn q.blocks).length v:=by simp[Q64,Ql]
 rw[e];exact hK
theorem Qax3 {cs:List CodeD}{fl:Bool}{k:Nat}{x:InsD}(hk:k<cs.length)(hr:0≤cs[k].regs)(hr2:cs[k].regs≤300)(hcl:cs.length≤100)(hK:∀(H':Heap),Upd H H' []→K (.c (.bool (!insG cs k x))) H') :
  Qp prog Qhg [.ag x.cells,.c (.pp [.sl fl 3 (Qj cs)]),.c (.pp [.int .i64 k])] H K:=by
 refine Qb Qai Qah5 ?_
 refine Qa ?_
 simp only[go_sem,InsD.cells]
 refine Qa ?_
 simp only[go_sem]
 refine Qbiv hk hr hr2 hcl fun H' hu=>?_
 simp only[go_sem,Qln]
 refine Qk ?_
 simp only[go_sem,Q4,Q7,Qwr,List.mem_singleton,forall_eq,RS.op]
 exact hK _ hu
theorem Qax4 {x5 x6:Nat}{q:CodeD}{v:Int}(h5:H x5=.st q.cells)(h6:H x6=.st [.fn Qad [.ptr x5 0]])(hr:-(2^62)≤q.regs)(hr2:q.regs≤2^62)(hK:K (.c (.bool (!decide (0≤v∧v≤q.regs-1)))) H) :
  Qp prog Qhh [.c (.int .i64 v),.c (.ptr x6 0)] H K:=by
 refine Qb Qai Qah6 ?_
 refine Qa ?_
 simp only[go_sem]
 refine Qa ?_
 simp only[go_sem,h6,List.cons_append,List.nil_append,List.map_cons,List.map_nil]
 refine Qyd h5 hr hr2 ?_
 simp only[go_sem,Qlo]
 refine Qk ?_
 simp only[go_sem,Q4,Q7,Qws,List.mem_singleton,forall_eq,RS.op]
 exact hK
end Go.AE.Y

namespace Go.AE.Y
attribute [local go_sem] cond_true cond_false Bool.not_true Bool.not_false
open Go.Proofs.Tryz
variable {H:Heap}{K:V→Heap→Prop}
attribute [local instance] Classical.propDecidable
def blkC (b:BlkD):Obj:=.st [.sl false 2 (Q0 b.phis),.sl false 4 (Qa1 b.ins),.int .i64 b.jump,.int .i64 b.on,.sl false 1 (Qg b.next)]
theorem Qasv {cs:List CodeD}{k:Nat}{hk:k<cs.length}(h:¬Qahx cs k hk):decide (Qahx cs k hk)=false:=decide_eq_false h
set_option maxHeartbeats 2000000 in
theorem Qbd6 {cs:List CodeD}{fl:Bool}{k:Nat}(hk:k<cs.length)(hcl:cs.length≤100)(hfit:cs[k].fits)(hK:∀(H':Heap),Upd H H' []→K (.c (.bool (decide (Qahx cs k hk)))) H') :
  Qp prog Qqv [.ag [.sl fl 3 (Qj cs)],.c (.int .i64 k)] H K:=by
 refine Qu ?_
 refine Qb Qai Qayn ?_
 have retf:∀(v:Bool) (e:Env) (H':Heap) (L:List (Nat×Obj)),decide (Qahx cs k hk)=v→Kn H H' [] L→lk 4 e=.c (.bool v)→Q4 Qhv (fun x H'=>∃x',FrzV H' (un H) x x'∧K x' (H'.frz (un H))) .ret e H':=by
  intro v e H' L hb kn h3
  simp only[go_sem,Q4,Q7,Qhv,List.mem_singleton,forall_eq,RS.op,h3]
  rw[←hb];exact⟨_,.c _ _ (Qd rfl),hK _ kn.fin⟩
 obtain⟨q,hq⟩:∃q,cs[k]=q:=⟨_,rfl⟩
 have hP:Qahx cs k hk=(Qyk q=true∧∀(b:Nat) (h:b<q.blocks.length),blkG cs k b q q.blocks[b]=true):=by subst hq;rfl
 refine Qa ?_
 simp only[go_sem]
 refine Qa ?_
 simp only[go_sem,hk,Qq,Q3 _ _ hk,CodeD.cells,hq]
 intro x5 hx5 H1 h1
 have kn:=(Kn.start0 H).al hx5 h1
 have hx5:=kn.l 0 rfl
 simp only[go_sem,Qw3,hx5]
 intro H2 h2
 have kn:Kn H H2 [] [(x5,.st q.cells)]:=kn.stL 0 rfl h2
 have hx5:H2 x5=.st [.int .i64 q.params,.int .i64 q.regs,.sl false 5 (Qn q.blocks)]:=kn.l 0 rfl
 refine Q5 ?_
 refine Qa ?_
 simp only[go_sem,hx5]
 refine Qdg ?_
 have rest0:∀(b:Bool) (E1:Env),Qyk q=(!b)→lk 2 E1=.c (.pp [.sl fl 3 (Qj cs)])→lk 3 E1=.c (.pp [.int .i64 k])→lk 5 E1=.c (.ptr x5 0)→lk 36 E1=.c (.bool b)→
   Qac prog (s_im_codeOk_4.seq Qw2) (Q4 Qhv (fun x H'=>∃x',FrzV H' (un H) x x'∧K x' (H'.frz (un H)))) E1 H2:=by
  intro b E1 hb l2 l3 l5 l36
  refine Qi (Qe l36 ?_ ?_)
  ·intro hc
   refine Qa ?_
   simp only[go_sem]
   refine Qk ?_
   simp only[go_sem]
   exact retf false _ _ _ (Qasv fun h=>by rw[hP,hb,hc]at h;simp at h) kn (by simp[lk])
  intro hc
  rw[hc]at hb
  have hb':=hb
  simp only[Qyk,Bool.not_false,Bool.and_eq_true,decide_eq_true_eq]at hb'
  obtain⟨hr0,hr1,hb0,hbl⟩:0≤q.regs∧q.regs≤300∧0<q.blocks.length∧q.blocks.length≤160:=by omega
  refine Qh ?_
  simp only[go_sem]
  refine Qa ?_
  simp only[go_sem,l2,l3,l5]
  intro x6 hx6 H3 h3
  have kn:=kn.al hx6 h3
  have hx6:=kn.l 1 rfl
  simp only[go_sem,Qw4,hx6,l2,l3,l5]
  intro H4 h4
  have kn:Kn H H4 [] [(x5,.st q.cells),(x6,.st [.fn Qad [.ptr x5 0]])]:=kn.stL 1 rfl h4
  have hx5:H4 x5=.st [.int .i64 q.params,.int .i64 q.regs,.sl false 5 (Qn q.blocks)]:=kn.l 0 rfl
  refine Q5 ?_
  refine Qa ?_
  simp only[go_sem,hx5,Ql]
  intro _
  refine Qi (Qf (Qx (fun m e1 H1=>∃(j:Nat),m=q.blocks.length-j∧j≤q.blocks.length∧(∀(i:Nat) (hi:i<q.blocks.length),i<j→blkG cs k i q q.blocks[i]=true)∧Kn H H1 [] [(x5,.st q.cells),(x6,.st [.fn Qad [.ptr x5 0]])]∧
   e1=[(2,.c (.pp [.sl fl 3 (Qj cs)])),(3,.c (.pp [.int .i64 k])),(5,.c (.ptr x5 0)),(6,.c (.ptr x6 0)),(39,.c (.sl false 5 (Qn q.blocks))),(40,.c (.int .i64 q.blocks.length)),(41,.c (.int .i64 j))]) q.blocks.length ?_ ?_))
  ·exact⟨0,by omega,by omega,fun _ _ h=>by omega,kn,rfl⟩
  ·rintro m e1 H5 ⟨j,hm,hj,hdone,kn,rfl⟩
   refine Qa ?_
   simp only[go_sem]
   refine Qi (Qe rfl ?_ ?_)
   ·intro hc1
    have hlt:j<q.blocks.length:=by simpa using hc1
    have hbf:q.blocks[j].ins.length≤2 ^ 38∧q.blocks[j].phis.length≤2 ^ 38:=by subst hq;exact hfit _ (List.getElem_mem hlt)
    refine Qh ?_
    simp only[go_sem]
    refine Qvd (fun e2 H2=>Kn H H2 [] [(x5,.st q.cells),(x6,.st [.fn Qad [.ptr x5 0]])]∧blkG cs k j q q.blocks[j]=true∧lk 2 e2=.c (.pp [.sl fl 3 (Qj cs)])∧lk 3 e2=.c (.pp [.int .i64 k])∧lk 5 e2=.c (.ptr x5 0)∧lk 6 e2=.c (.ptr x6 0)∧
     lk 39 e2=.c (.sl false 5 (Qn q.blocks))∧lk 40 e2=.c (.int .i64 q.blocks.length)∧lk 41 e2=.c (.int .i64 j)) ?_ ?_
    ·intro Q hnr hrt _
     replace hrt:∀e H',Q4 Qhv (fun x H'=>∃x',FrzV H' (un H) x x'∧K x' (H'.frz (un H))) .ret e H'→Q .ret e H':=fun e H' h=>hrt e H' (by simpa only[go_sem,X.next]using h)
     have retq:∀(e:Env) (H':Heap) (L:List (Nat×Obj)),blkG cs k j q q.blocks[j]=false→Kn H H' [] L→lk 4 e=.c (.bool false)→Q .ret e H':=fun e H' L hb kn l4=>
      hrt e H' (retf false e H' L (Qasv fun h=>by rw[hP]at h;rw[h.2 j hlt]at hb;exact absurd hb (by simp)) kn l4)
     have hGd:blkG cs k j q q.blocks[j]=(Qq6 q.regs q.blocks[j]&&q.blocks[j].next.all (Q64 (Qn q.blocks).length)&&q.blocks[j].ins.all (insG cs k)&&q.blocks[j].phis.all (phiG q.regs (Q1 (gnx q) (j:Int) (Qn q.blocks).length).length j)):=rfl
     refine Qf ?_
     refine Qa ?_
     simp only[go_sem,hlt,Ql,Qak _ _ hlt,BlkD.cells]
     obtain⟨y,hy⟩:∃y,q.blocks[j]=y:=⟨_,rfl⟩
     rw[hy]at hGd retq hbf hnr
     rw[hy]
     intro x8 hx8 H6 h6
     have kn:=kn.al hx8 h6
     have hx8:=kn.l 2 rfl
     simp only[go_sem,Qw5,hx8]
     intro H7 h7
     have kn:Kn H H7 [] [(x5,.st q.cells),(x6,.st [.fn Qad [.ptr x5 0]]),(x8,blkC y)]:=kn.stL 2 rfl h7
     have hx5:H7 x5=.st [.int .i64 q.params,.int .i64 q.regs,.sl false 5 (Qn q.blocks)]:=kn.l 0 rfl
     have hx5':H7 x5=.st q.cells:=kn.l 0 rfl
     have hx6:=kn.l 1 rfl
     have hx8:H7 x8=.st [.sl false 2 (Q0 y.phis),.sl false 4 (Qa1 y.ins),.int .i64 y.jump,.int .i64 y.on,.sl false 1 (Qg y.next)]:=kn.l 2 rfl
     have rest3:∀(E1:Env) (H8:Heap),Qq6 q.regs y=true→y.next.all (Q64 (Qn q.blocks).length)=true→y.ins.all (insG cs k)=true→Kn H H8 [] [(x5,.st q.cells),(x6,.st [.fn Qad [.ptr x5 0]]),(x8,blkC y)]→
       lk 2 E1=.c (.pp [.sl fl 3 (Qj cs)])→lk 3 E1=.c (.pp [.int .i64 k])→lk 5 E1=.c (.ptr x5 0)→lk 6 E1=.c (.ptr x6 0)→lk 7 E1=.c (.int .i64 j)→lk 8 E1=.c (.ptr x8 0)→
       lk 39 E1=.c (.sl false 5 (Qn q.blocks))→lk 40 E1=.c (.int .i64 q.blocks.length)→lk 41 E1=.c (.int .i64 j)→Qac prog Qkj (X.inBlock 1 Q) E1 H8:=by
      intro E1 H8 g1 g2 g3 kn l2 l3 l5 l6 l7 l8 l39 l40 l41
      have hx5:H8 x5=.st [.int .i64 q.params,.int .i64 q.regs,.sl false 5 (Qn q.blocks)]:=kn.l 0 rfl
      have hin:(decide (0≤(j:Int))&&decide ((j:Int)≤((Qn q.blocks).length:Int)-1))=true:=by rw[Ql];simp;omega
      refine Qa ?_
      simp only[go_sem,hx5,l2,l3,l5,l6,l7,l8,l39,l40,l41]
      refine Qzu (rows:=Qn q.blocks) (nx:=gnx q) (Qi2 _ q false) fun fl' H9 hu=>?_
      have kn:=kn.call0 hu
      rw[Qkd,if_pos hin]
      generalize hnp:Q1 (gnx q) (j:Int) (Qn q.blocks).length=ps
      rw[hnp]at hGd
      simp only[go_sem,Qrt,l2,l3,l5,l6,l7,l8,l39,l40,l41,Qc]
      intro _
      have hx8:H9 x8=.st [.sl false 2 (Q0 y.phis),.sl false 4 (Qa1 y.ins),.int .i64 y.jump,.int .i64 y.on,.sl false 1 (Qg y.next)]:=kn.l 2 rfl
      refine Qa ?_
      simp only[go_sem,hx8,Qy]
      intro _
      refine Qf (Qx (fun m e1 H1=>∃(i:Nat),m=y.phis.length-i∧i≤y.phis.length∧(y.phis.take i).all (phiG q.regs ps.length j)=true∧Kn H H1 [] [(x5,.st q.cells),(x6,.st [.fn Qad [.ptr x5 0]])]∧
       e1=[(2,.c (.pp [.sl fl 3 (Qj cs)])),(3,.c (.pp [.int .i64 k])),(5,.c (.ptr x5 0)),(6,.c (.ptr x6 0)),(7,.c (.int .i64 j)),(9,.c (.int .i64 ps.length)),(39,.c (.sl false 5 (Qn q.blocks))),(40,.c (.int .i64 q.blocks.length)),(41,.c (.int .i64 j)),(91,.c (.sl false 2 (Q0 y.phis))),(92,.c (.int .i64 y.phis.length)),(93,.c (.int .i64 i))]) y.phis.length ?_ ?_)
      ·exact⟨0,by omega,by omega,rfl,kn.drop (A:=[_,_]),rfl⟩
      ·rintro m2 e1 H10 ⟨i,hm2,hi,hall,kn,rfl⟩
       refine Qa ?_
       simp only[go_sem]
       refine Qi (Qe rfl ?_ ?_)
       ·intro hc2
        have hil:i<y.phis.length:=by simpa using hc2
        refine Qh ?_
        simp only[go_sem]
        refine Qi (Qf ?_)
        refine Qa ?_
        simp only[go_sem,hil,Qy,Qax _ _ hil,PhiD.cells]
        obtain⟨z,hz⟩:∃z,y.phis[i]=z:=⟨_,rfl⟩
        rw[hz]
        intro x11 hx11 H11 h11
        have kn:=kn.al hx11 h11
        have hx11:=kn.l 2 rfl
        simp only[go_sem,Qru,hx11]
        intro H12 h12
        have kn:Kn H H12 [] ([(x5,.st q.cells),(x6,.st [.fn Qad [.ptr x5 0]])]++[(x11,.st [.int .i64 z.to,.sl false 1 (Qg z.args)])]):=kn.stL 2 rfl h12
        have hx5':H12 x5=.st q.cells:=kn.l 0 rfl
        have hx6:=kn.l 1 rfl
        have hx11:=kn.l 2 rfl
        have fin:∀(b3:Bool) (E1:Env),phiG q.regs ps.length j z=(!b3)→lk 2 E1=.c (.pp [.sl fl 3 (Qj cs)])→lk 3 E1=.c (.pp [.int .i64 k])→lk 5 E1=.c (.ptr x5 0)→lk 6 E1=.c (.ptr x6 0)→lk 7 E1=.c (.int .i64 j)→lk 9 E1=.c (.int .i64 ps.length)→
          lk 39 E1=.c (.sl false 5 (Qn q.blocks))→lk 40 E1=.c (.int .i64 q.blocks.length)→lk 41 E1=.c (.int .i64 j)→lk 91 E1=.c (.sl false 2 (Q0 y.phis))→lk 92 E1=.c (.int .i64 y.phis.length)→lk 93 E1=.c (.int .i64 i)→lk 118 E1=.c (.bool b3)→
          Qac prog Qwz (X.inBlock 3 (X.sq prog Qw0 (X.next (fun e2 H2=>∃m,m<m2∧∃(i:Nat),m=y.phis.length-i∧i≤y.phis.length∧(y.phis.take i).all (phiG q.regs ps.length j)=true∧Kn H H2 [] [(x5,.st q.cells),(x6,.st [.fn Qad [.ptr x5 0]])]∧
           e2=[(2,.c (.pp [.sl fl 3 (Qj cs)])),(3,.c (.pp [.int .i64 k])),(5,.c (.ptr x5 0)),(6,.c (.ptr x6 0)),(7,.c (.int .i64 j)),(9,.c (.int .i64 ps.length)),(39,.c (.sl false 5 (Qn q.blocks))),(40,.c (.int .i64 q.blocks.length)),(41,.c (.int .i64 j)),(91,.c (.sl false 2 (Q0 y.phis))),(92,.c (.int .i64 y.phis.length)),(93,.c (.int .i64 i))])
           (X.inBlock 2 (X.inBlock 1 Q))))) E1 H12:=by
         intro b3 E1 hph l2 l3 l5 l6 l7 l9 l39 l40 l41 l91 l92 l93 l118
         refine Qe l118 ?_ ?_
         ·intro hc3
          refine Qa ?_
          simp only[go_sem]
          refine Qk ?_
          simp only[go_sem,X.next]
          exact retq _ _ _ (by rw[hGd,Qaoq hil (by rw[hz,hph,hc3];rfl)];simp) kn (by simp[lk])
         ·intro hc3
          refine Qh ?_
          simp only[go_sem]
          refine Qv ?_
          simp only[go_sem,X.next,l2,l3,l5,l6,l7,l9,l39,l40,l41,l91,l92,l93]
          exact⟨Qr (by omega) (by omega),y.phis.length-(i+1),by omega,i+1,rfl,by omega,by rw[Q9m hil,hall,hz,hph,hc3];rfl,kn.drop,rfl⟩
        have hpG:phiG q.regs ps.length j z=(!decide (j=0)&&decide ((z.args.length:Int)=ps.length)&&Qrm q.regs z.args&&decide (0≤z.to∧z.to≤q.regs-1)):=rfl
        refine Qa ?_
        simp only[go_sem]
        cases hj0:decide ((j:Int)=0)with
        |true=>
         have hj0':decide (j=0)=true:=by simpa using hj0
         simp only[go_sem,Qck,Qcj]
         exact fin true _ (by rw[hpG,hj0'];rfl) (by simp[lk]) (by simp[lk]) (by simp[lk]) (by simp[lk]) (by simp[lk]) (by simp[lk]) (by simp[lk]) (by simp[lk]) (by simp[lk]) (by simp[lk]) (by simp[lk]) (by simp[lk]) (by simp[lk])
        |false=>
         have hj0':decide (j=0)=false:=by simpa using hj0
         simp only[go_sem,hx11,hx6,List.cons_append,List.nil_append,List.map_cons,List.map_nil]
         refine Qyd hx5' (by omega) (by omega) ?_
         cases ht:decide (0≤z.to∧z.to≤q.regs-1)with
         |false=>
          simp only[go_sem,Qck,Qcj]
          exact fin true _ (by rw[hpG,ht];simp) (by simp[lk]) (by simp[lk]) (by simp[lk]) (by simp[lk]) (by simp[lk]) (by simp[lk]) (by simp[lk]) (by simp[lk]) (by simp[lk]) (by simp[lk]) (by simp[lk]) (by simp[lk]) (by simp[lk])
         |true=>
          by_cases hal:(z.args.length:Int)=ps.length
          ·simp only[go_sem,Qck,hx11,Qc,hal,not_true_eq_false,decide_false,decide_true,Bool.not_true]
           intro _
           refine Qfg (p:=fun r=>!decide (0≤r∧r≤q.regs-1)) (.mk' _ _ _ _) rfl (fun v K' hv hK'=>Qax4 hx5' hx6 (by omega) (by omega) hK') ?_
           simp only[go_sem,Qcj]
           refine fin (z.args.any fun r=>!decide (0≤r∧r≤q.regs-1)) _ ?_ (by simp[lk]) (by simp[lk]) (by simp[lk]) (by simp[lk]) (by simp[lk]) (by simp[lk]) (by simp[lk]) (by simp[lk]) (by simp[lk]) (by simp[lk]) (by simp[lk]) (by simp[lk]) (by simp[lk])
           rw[hpG,hj0',ht,Qaxz,hal,Qrm];simp
          ·simp only[go_sem,Qck,Qcj,hx11,Qc,hal,not_false_eq_true,decide_false,decide_true,Bool.not_false]
           intro _
           exact fin true _ (by rw[hpG];simp[hal]) (by simp[lk]) (by simp[lk]) (by simp[lk]) (by simp[lk]) (by simp[lk]) (by simp[lk]) (by simp[lk]) (by simp[lk]) (by simp[lk]) (by simp[lk]) (by simp[lk]) (by simp[lk]) (by simp[lk])
       ·intro hc2
        have hge:y.phis.length≤i:=by simpa using hc2
        rw[List.take_of_length_le hge]at hall
        refine Qw ?_
        simp only[go_sem,X.next]
        exact hnr _ _ ⟨kn,by rw[hGd,g1,g2,g3,hall];rfl,rfl,rfl,rfl,rfl,rfl,rfl,rfl⟩
     have rest2:∀(b1:Bool) (E1:Env),Qq6 q.regs y=(!b1)→lk 2 E1=.c (.pp [.sl fl 3 (Qj cs)])→lk 3 E1=.c (.pp [.int .i64 k])→lk 5 E1=.c (.ptr x5 0)→lk 6 E1=.c (.ptr x6 0)→lk 7 E1=.c (.int .i64 j)→lk 8 E1=.c (.ptr x8 0)→
       lk 39 E1=.c (.sl false 5 (Qn q.blocks))→lk 40 E1=.c (.int .i64 q.blocks.length)→lk 41 E1=.c (.int .i64 j)→lk 75 E1=.c (.bool b1)→Qac prog (s_im_codeOk_11.seq Qw1) (X.inBlock 1 Q) E1 H7:=by
      intro b1 E1 hb1 l2 l3 l5 l6 l7 l8 l39 l40 l41 l75
      refine Qi (Qe l75 ?_ ?_)
      ·intro hc2
       refine Qa ?_
       simp only[go_sem]
       refine Qk ?_
       simp only[go_sem]
       exact retq _ _ _ (by rw[hGd,hb1,hc2];simp) kn (by simp[lk])
      intro hc2
      rw[hc2]at hb1
      refine Qh ?_
      simp only[go_sem]
      refine Q5 ?_
      refine Qa ?_
      simp only[go_sem,hx8,l2,l3,l5,l6,l7,l8,l39,l40,l41]
      refine Qfg (p:=fun v=>!Q64 (Qn q.blocks).length v) (.mk' _ _ _ _) rfl (fun v K' hv hK'=>Qax2 hx5' (by omega) hK') ?_
      have fin:∀(b:Bool) (E1:Env) (H8:Heap),(y.next.all (Q64 (Qn q.blocks).length)&&y.ins.all (insG cs k))=(!b)→Kn H H8 [] [(x5,.st q.cells),(x6,.st [.fn Qad [.ptr x5 0]]),(x8,blkC y)]→lk 2 E1=.c (.pp [.sl fl 3 (Qj cs)])→lk 3 E1=.c (.pp [.int .i64 k])→lk 5 E1=.c (.ptr x5 0)→lk 6 E1=.c (.ptr x6 0)→lk 7 E1=.c (.int .i64 j)→lk 8 E1=.c (.ptr x8 0)→
        lk 39 E1=.c (.sl false 5 (Qn q.blocks))→lk 40 E1=.c (.int .i64 q.blocks.length)→lk 41 E1=.c (.int .i64 j)→lk 85 E1=.c (.bool b)→Qac prog (s_im_codeOk_14.seq Qkj) (X.inBlock 1 Q) E1 H8:=by
       intro b E1 H8 hb kn l2 l3 l5 l6 l7 l8 l39 l40 l41 l85
       refine Qi (Qe l85 ?_ ?_)
       ·intro hc3
        refine Qa ?_
        simp only[go_sem]
        refine Qk ?_
        simp only[go_sem]
        exact retq _ _ _ (by rw[hGd,Bool.and_assoc (Qq6 _ _),hb,hc3];simp) kn (by simp[lk])
       ·intro hc3
        rw[hc3]at hb
        simp only[Bool.not_false,Bool.and_eq_true]at hb
        refine Qh ?_
        simp only[go_sem]
        exact rest3 E1 H8 hb1 hb.1 hb.2 kn l2 l3 l5 l6 l7 l8 l39 l40 l41
      rw[Qaxz]
      cases ha:y.next.all (Q64 (Qn q.blocks).length)with
      |false=>
       simp only[go_sem,Qh9,Qh8,l2,l3,l5,l6,l7,l8,l39,l40,l41]
       exact fin true _ _ (by rw[ha];rfl) kn (by simp[lk]) (by simp[lk]) (by simp[lk]) (by simp[lk]) (by simp[lk]) (by simp[lk]) (by simp[lk]) (by simp[lk]) (by simp[lk]) (by simp[lk])
      |true=>
       simp only[go_sem,Qh9,hx8,l2,l3,l5,l6,l7,l8,l39,l40,l41]
       refine Q92 (p:=fun x=>!insG cs k x) (fun x H1 K' hx hK'=>Qax3 hk (by rw[hq];exact hr0) (by rw[hq];exact hr1) hcl hK') fun H8 hu=>?_
       have kn:=kn.call0 hu
       simp only[go_sem,Qh8,l2,l3,l5,l6,l7,l8,l39,l40,l41]
       refine fin (y.ins.any fun x=>!insG cs k x) _ _ ?_ kn (by simp[lk]) (by simp[lk]) (by simp[lk]) (by simp[lk]) (by simp[lk]) (by simp[lk]) (by simp[lk]) (by simp[lk]) (by simp[lk]) (by simp[lk])
       rw[ha,←List.not_all_eq_any_not];simp
     refine Q5 ?_
     refine Qae ?_
     simp only[go_sem,hx8,Qc]
     refine Qay3 ?_
     have hjG:Qq6 q.regs y=(decide ((y.next.length:Int)=Qpj y.jump)&&if y.jump=1 then decide (y.on=0)else decide (0≤y.on∧y.on≤q.regs-1)):=rfl
     by_cases hn:(y.next.length:Int)=Qpj y.jump
     ·have hjmp:y.jump=1∨(y.jump=2∨y.jump=3)∧¬y.jump=1:=by
       rw[Qpj]at hn
       split at hn
       ·exact .inl ‹_›
       ·split at hn
        ·omega
        ·split at hn
         ·omega
         ·omega
      simp only[go_sem,Qh7,hx8,Qc,hn,not_true_eq_false,decide_false,decide_true,Bool.not_true]
      refine Qasi ?_
      rcases hjmp with h1|⟨h1,h2⟩
      ·have hu:(decide (y.jump=2) || decide (y.jump=3))=false:=by simp[h1]
       simp only[go_sem,Qfn,Qdd,hu,hx8]
       refine Qasi ?_
       simp only[go_sem,Qdc,hu,hx8]
       exact rest2 (!decide (y.on=0)) _ (by rw[hjG,if_pos h1,hn];simp) (by simp[lk]) (by simp[lk]) (by simp[lk]) (by simp[lk]) (by simp[lk]) (by simp[lk]) (by simp[lk]) (by simp[lk]) (by simp[lk]) (by simp[lk])
      ·have hu:(decide (y.jump=2) || decide (y.jump=3))=true:=by simpa using h1
       simp only[go_sem,Qfn,hu,hx8,hx6,List.cons_append,List.nil_append,List.map_cons,List.map_nil]
       refine Qyd hx5' (by omega) (by omega) ?_
       cases ho:decide (0≤y.on∧y.on≤q.regs-1)with
       |true=>
        simp only[go_sem,Qdd,hx8]
        refine Qasi ?_
        simp only[go_sem,Qdc,hu,hx8]
        exact rest2 false _ (by rw[hjG,if_neg h2,hn,ho];simp) (by simp[lk]) (by simp[lk]) (by simp[lk]) (by simp[lk]) (by simp[lk]) (by simp[lk]) (by simp[lk]) (by simp[lk]) (by simp[lk]) (by simp[lk])
       |false=>
        simp only[go_sem,Qdd,Qdc,hx8]
        exact rest2 true _ (by rw[hjG,if_neg h2,ho];simp) (by simp[lk]) (by simp[lk]) (by simp[lk]) (by simp[lk]) (by simp[lk]) (by simp[lk]) (by simp[lk]) (by simp[lk]) (by simp[lk]) (by simp[lk])
     ·simp only[go_sem,Qh7,Qfn,Qdd,Qdc,hx8,Qc,hn,not_false_eq_true,decide_false,decide_true,Bool.not_false]
      exact rest2 true _ (by rw[hjG];simp[hn]) (by simp[lk]) (by simp[lk]) (by simp[lk]) (by simp[lk]) (by simp[lk]) (by simp[lk]) (by simp[lk]) (by simp[lk]) (by simp[lk]) (by simp[lk])
    ·rintro e2 H8 ⟨kn,hbg,l2,l3,l5,l6,l39,l40,l41⟩
     refine Qv ?_
     simp only[go_sem,X.next,l2,l3,l5,l6,l39,l40,l41]
     refine⟨Qr (by omega) (by omega),q.blocks.length-(j+1),by omega,j+1,rfl,by omega,fun i hi hij=>?_,kn,rfl⟩
     by_cases h:i<j
     ·exact hdone i hi h
     ·have:i=j:=by omega
      subst this;exact hbg
   ·intro hc1
    have hge:q.blocks.length≤j:=by simpa using hc1
    refine Qw ?_
    simp only[go_sem,X.next]
    refine Qa ?_
    simp only[go_sem]
    refine Qk ?_
    exact retf true _ _ _ (decide_eq_true (by rw[hP];exact⟨by rw[hb];rfl,fun b h=>hdone b h (by omega)⟩)) kn (by simp[lk])
 have hH:Qyk q=(decide (0≤q.params∧q.params≤3)&&decide (q.params≤q.regs∧q.regs≤300)&&decide (1≤(q.blocks.length:Int)∧(q.blocks.length:Int)≤160)):=rfl
 by_cases hr:0≤q.regs∧q.regs≤300
 ·have hr':(decide (0≤q.regs)&&decide (q.regs≤300))=true:=by simpa using hr
  simp only[go_sem,Qkk,hr',hx5]
  refine Qdg ?_
  by_cases hp:0≤q.params∧q.params≤3∧q.params≤q.regs
  ·have hp':(decide (0≤q.params)&&decide (q.params≤if q.regs<3 then q.regs else 3))=true:=by
    split <;> simp <;> omega
   simp only[go_sem,Qfm,hp',hx5,Ql]
   intro _
   refine Qdg ?_
   simp only[go_sem,Qfl]
   refine rest0 _ _ ?_ (by simp[lk]) (by simp[lk]) (by simp[lk]) (by simp[lk];rfl)
   have a1:decide (0≤q.params∧q.params≤3)=true:=by simp;omega
   have a2:decide (q.params≤q.regs∧q.regs≤300)=true:=by simp;omega
   rw[hH,a1,a2];simp
  ·have hp':(decide (0≤q.params)&&decide (q.params≤if q.regs<3 then q.regs else 3))=false:=by
    split <;> simp <;> omega
   simp only[go_sem,Qfm,Qfl,hp',hx5]
   refine rest0 true _ ?_ (by simp[lk]) (by simp[lk]) (by simp[lk]) (by simp[lk])
   rw[hH];simp;omega
 ·have hr':(decide (0≤q.regs)&&decide (q.regs≤300))=false:=by simpa using hr
  simp only[go_sem,Qkk,Qfm,Qfl,hr',hx5]
  refine rest0 true _ ?_ (by simp[lk]) (by simp[lk]) (by simp[lk]) (by simp[lk])
  rw[hH];simp;omega
end Go.AE.Y

namespace Go.AE.Y
attribute [local go_sem] cond_true cond_false Bool.not_true Bool.not_false
open Go.Proofs.Tryz
variable {H:Heap}{K:V→Heap→Prop}
attribute [local instance] Classical.propDecidable
set_option maxHeartbeats 1000000 in
theorem Qmu {cs:List CodeD}{fl:Bool}(hfit:∀c∈cs,c.fits)(hK:∀(H':Heap),Upd H H' []→K (.c (.bool (Qb0 cs))) H') :
  Qp prog Qcd [.ag [.sl fl 3 (Qj cs)]] H K:=by
 refine Qu ?_
 refine Qb Qai Qah0 ?_
 have retf:∀(b:Bool) (e:Env) (H':Heap) (L:List (Nat×Obj)),Qb0 cs=b→Kn H H' [] L→lk 2 e=.c (.bool b)→Q4 Qke (fun x H'=>∃x',FrzV H' (un H) x x'∧K x' (H'.frz (un H))) .ret e H':=by
  intro b e H' L hb kn h3
  simp only[go_sem,Q4,Q7,Qke,List.mem_singleton,forall_eq,RS.op,h3]
  rw[←hb];exact⟨_,.c _ _ (Qd rfl),hK _ kn.fin⟩
 have kn:=Kn.start0 H
 refine Qa ?_
 simp only[go_sem]
 refine Q5 ?_
 refine Qa ?_
 simp only[go_sem,Qq]
 intro hcl
 refine Qdg ?_
 simp only[go_sem,Qlf]
 refine Qi (Qe rfl ?_ ?_)
 ·intro hc
  have hc':=Qvh hc
  refine Qa ?_
  simp only[go_sem]
  refine Qk ?_
  simp only[go_sem]
  exact retf false _ _ _ (Qu6 fun hu=>by have h1:=hu.1;simp at hc';omega) kn (by simp[lk])
 intro hc
 have hc':=Qht hc
 have hc4:1≤cs.length∧cs.length≤4:=by simp at hc';omega
 refine Qh ?_
 simp only[go_sem]
 refine Qa ?_
 simp only[go_sem]
 refine Q5 ?_
 refine Qa ?_
 simp only[go_sem,Qq]
 intro _
 refine Qi (Qf (Qx (fun m e1 H1=>∃(k:Nat),m=cs.length-k∧k≤cs.length∧Qg7 Qve (cs.take k)≤k * (160 * 549755813888)∧(∀(i:Nat) (hi:i<cs.length),i<k→Qahx cs i hi)∧Kn H H1 [] []∧
  e1=[(1,.c (.pp [.sl fl 3 (Qj cs)])),(3,.c (.int .i64 (Qg7 Qve (cs.take k):Nat))),(12,.c (.sl fl 3 (Qj cs))),(13,.c (.int .i64 cs.length)),(14,.c (.int .i64 k))]) cs.length ?_ ?_))
 ·exact⟨0,by omega,by omega,by simp[Qg7],fun _ _ h=>by omega,kn,rfl⟩
 ·rintro m e1 H1 ⟨k,hm,hk,hsum,hdone,kn,rfl⟩
  refine Qa ?_
  simp only[go_sem]
  refine Qi (Qe rfl ?_ ?_)
  ·intro hc2
   have hlt:k<cs.length:=by simpa using hc2
   have hss:=Qcl (f:=Qve) hlt
   refine Qh ?_
   simp only[go_sem]
   refine Qi (Qf ?_)
   refine Qa ?_
   simp only[go_sem,hlt,Qq,Q3 _ _ hlt,CodeD.cells]
   obtain⟨q,hq⟩:∃q,cs[k]=q:=⟨_,rfl⟩
   have hqf:q.fits:=by subst hq;exact hfit _ (List.getElem_mem hlt)
   rw[hq]
   intro x5 hx5 H2 h2
   have kn:=kn.al hx5 h2
   have hx5:=kn.l 0 rfl
   simp only[go_sem,Qlg,hx5]
   intro H3 h3
   have kn:Kn H H3 [] ([]++[(x5,.st [.int .i64 q.params,.int .i64 q.regs,.sl false 5 (Qn q.blocks)])]):=kn.stL 0 rfl h3
   refine Q5 ?_
   refine Qa ?_
   simp only[go_sem]
   refine Qbd6 hlt (by omega) (by rw[hq];exact hqf) fun H4 hu=>?_
   have kn:=kn.call0 hu
   have hx5:=kn.l 0 rfl
   simp only[go_sem,Qlh]
   refine Qi (Qe rfl ?_ ?_)
   ·intro hc3
    have hno:=of_decide_eq_false (Qvh hc3)
    refine Qa ?_
    simp only[go_sem]
    refine Qk ?_
    simp only[go_sem,X.next]
    exact retf false _ _ _ (Qu6 fun hu=>hno (hu.2.1 k hlt)) kn (by simp[lk])
   ·intro hc3
    have hyes:=of_decide_eq_true (Qht hc3)
    have hbl:q.blocks.length≤160:=by
     have:=hyes.1
     rw[hq]at this
     simp only[Qyk,Bool.and_eq_true,decide_eq_true_eq]at this
     omega
    have hcq:Qve q≤160 * 549755813888:=Nat.le_trans (Qaxr hqf) (Nat.mul_le_mul_right _ hbl)
    have hk4:k * (160 * 549755813888)≤4 * (160 * 549755813888):=Nat.mul_le_mul_right _ (by omega)
    have hk1:(k+1) * (160 * 549755813888)=k * (160 * 549755813888)+160 * 549755813888:=Nat.succ_mul _ _
    rw[hq]at hss
    refine Qh ?_
    simp only[go_sem]
    refine Qa ?_
    simp only[go_sem,hx5]
    refine Q95 hqf hbl fun H5 hu=>?_
    have kn:=kn.call0 hu
    simp only[go_sem,Qli]
    refine⟨Qr (by omega) (by omega),?_⟩
    refine Qv ?_
    simp only[go_sem,X.next]
    refine⟨Qr (by omega) (by omega),cs.length-(k+1),by omega,k+1,rfl,by omega,by rw[hss,hk1];omega,fun i hi hik=>?_,kn.drop,?_⟩
    ·by_cases h:i<k
     ·exact hdone i hi h
     ·have:i=k:=by omega
      subst this;exact hyes
    ·rw[hss];rfl
  ·intro hc2
   have hge:cs.length≤k:=by simpa using hc2
   rw[List.take_of_length_le hge]
   refine Qw ?_
   simp only[go_sem,X.next]
   refine Qa ?_
   simp only[go_sem]
   refine Qk ?_
   refine retf (decide (((Qg7 Qve cs:Nat):Int)≤800)) _ _ _ ?_ kn (by simp[lk])
   by_cases hs:Qg7 Qve cs≤800
   ·have h1:Qb0 cs=true:=decide_eq_true ⟨by omega,fun i hi=>hdone i hi (by omega),hs⟩
    rw[h1];simp;omega
   ·rw[Qu6 fun hu=>hs hu.2.2];simp;omega
noncomputable def hasG (cs:List CodeD)(k:Int):Bool:=Qb0 cs&&decide (0≤k∧k≤(cs.length:Int)-1)
end Go.AE.Y

namespace Go.AE.Y
attribute [local instance] Classical.propDecidable
structure Flo where
 n:Nat
 nx:Nat→List Nat
 on:Nat→List Nat
 ins:Nat→List (Option Nat×List Nat)
 ph:Nat→List Nat
 ea:Nat→Nat→List Nat
abbrev RS':=Nat→Prop
def Qbmw (x:Option Nat×List Nat)(S:RS'):RS':=fun r=>r∈x.2∨(S r∧x.1≠some r)
def behL (l:List (Option Nat×List Nat))(S:RS'):RS':=l.foldr Qbmw S
theorem Qa9c {l:List (Option Nat×List Nat)}{S T:RS'}(h:∀r,S r→T r):∀r,behL l S r→behL l T r:=by
 induction l with
 |nil=>exact h
 |cons x l ih=>
  rintro r (hr|⟨hr,h2⟩)
  ·exact .inl hr
  ·exact .inr ⟨ih r hr,h2⟩
variable {F:Flo}
def Flo.endS (F:Flo)(X:RS')(b:Nat):RS':=fun r=>X r∨r∈F.on b
def Flo.beh (F:Flo)(X:RS')(b k:Nat):RS':=behL ((F.ins b).drop k) (F.endS X b)
theorem Flo.beh_mono {X Y:RS'}(h:∀r,X r→Y r)(b k:Nat):∀r,F.beh X b k r→F.beh Y b k r:=
 Qa9c fun r hr=>hr.elim (fun h1=>.inl (h r h1)) .inr
def Flo.outT (F:Flo)(I:Nat→RS')(b:Nat):RS':=fun r=>∃m∈F.nx b,I m r∨r∈F.ea b m
def Flo.thru (F:Flo)(X:RS')(b:Nat):RS':=fun r=>F.beh X b 0 r∧r∉F.ph b
def Flo.inT (F:Flo)(I:Nat→RS')(b:Nat):RS':=F.thru (F.outT I b) b
theorem Flo.thru_mono {X Y:RS'}(h:∀r,X r→Y r)(b:Nat):∀r,F.thru X b r→F.thru Y b r:=fun r hr=>⟨Flo.beh_mono h b 0 r hr.1,hr.2⟩
def Flo.fits (F:Flo):Prop:=∀b,b<F.n→∀m∈F.nx b,m<F.n
variable {I J:Nat→RS'}
theorem Flo.outT_mono (hf:F.fits)(h:∀b,b<F.n→∀r,I b r→J b r){b:Nat}(hb:b<F.n):∀r,F.outT I b r→F.outT J b r:=by
 rintro r ⟨m,hm,h1|h1⟩
 ·exact⟨m,hm,.inl (h m (hf b hb m hm) r h1)⟩
 ·exact⟨m,hm,.inr h1⟩
theorem Flo.inT_mono (hf:F.fits)(h:∀b,b<F.n→∀r,I b r→J b r){b:Nat}(hb:b<F.n):∀r,F.inT I b r→F.inT J b r:=
 Flo.thru_mono (Flo.outT_mono hf h hb) b
def Flo.Pre (F:Flo)(J:Nat→RS'):Prop:=∀b,b<F.n→∀r,F.inT J b r→J b r
def Flo.LI (F:Flo)(b:Nat):RS':=fun r=>∀J,F.Pre J→J b r
def Flo.LO (F:Flo)(b:Nat):RS':=F.outT F.LI b
def Flo.LB (F:Flo)(b k:Nat):RS':=F.beh (F.LO b) b k
theorem Flo.LI_pre (hf:F.fits):F.Pre F.LI:=fun b hb r hr J hJ=>hJ b hb r (Flo.inT_mono hf (fun b hb r hr=>hr J hJ) hb r hr)
def Flo.Below (F:Flo)(I:Nat→RS'):Prop:=∀b,b<F.n→∀r,I b r→F.LI b r
theorem Flo.is_least (h1:F.Pre I)(h2:F.Below I){b:Nat}(hb:b<F.n)(r:Nat):I b r↔F.LI b r:=⟨h2 b hb r,fun h=>h I h1⟩
theorem Flo.Below.inT (hf:F.fits)(h:F.Below I){b:Nat}(hb:b<F.n):∀r,F.inT I b r→F.LI b r:=fun r hr=>Flo.LI_pre hf b hb r (Flo.inT_mono hf h hb r hr)
theorem Flo.Below.outT (hf:F.fits)(h:F.Below I){b:Nat}(hb:b<F.n):∀r,F.outT I b r→F.LO b r:=Flo.outT_mono hf h hb
structure Flo.bd (F:Flo)(R:Nat):Prop where
 on:∀b,b<F.n→∀r∈F.on b,r<R
 ins:∀b,b<F.n→∀x∈F.ins b,∀r∈x.2,r<R
 ea:∀b,b<F.n→∀m∈F.nx b,∀r∈F.ea b m,r<R
noncomputable def ascL (R:Nat)(S:RS'):List Nat:=(List.range R).filter fun r=>decide (S r)
theorem Qgy {a:List Nat}(ha:a.Nodup):∀{b:List Nat},(∀x∈a,x∈b)→a.length≤b.length:=by
 induction a with
 |nil=>intro b _;simp
 |cons x a ih=>
  intro b h
  have hx:=h x List.mem_cons_self
  have hn:=List.nodup_cons.1 ha
  have:=ih hn.2 (b:=b.erase x) fun y hy=>(List.mem_erase_of_ne (fun he=>by subst he;exact hn.1 hy)).2 (h y (List.mem_cons_of_mem _ hy))
  rw[List.length_erase_of_mem hx]at this
  have hp:=List.length_pos_of_mem hx
  simp only[List.length_cons];omega
theorem Qaty {a b:List Nat}(ha:a.Nodup)(h:∀x∈a,x∈b)(hl:b.length≤a.length):∀x∈b,x∈a:=fun x hx=>by
 refine Classical.byContradiction fun hxa=>?_
 have:=Qgy (a:=x::a) (List.nodup_cons.2 ⟨hxa,ha⟩) (b:=b) fun y hy=>by
  rcases List.mem_cons.1 hy with rfl|hy
  ·exact hx
  ·exact h y hy
 simp only[List.length_cons]at this;omega
theorem Qatx {a:List Nat}{R:Nat}(ha:a.Nodup)(h:∀x∈a,x<R):a.length≤R:=by
 have:=Qgy ha (b:=List.range R) fun x hx=>List.mem_range.2 (h x hx)
 simpa using this
def addK (ks:List Nat)(b:Nat):List Nat:=if b∈ks then ks else ks++[b]
def tot (n:Nat)(S:Nat→List Nat):Nat:=((List.range n).map fun b=>(S b).length).sum
theorem Q9y (n:Nat)(S:Nat→List Nat):tot (n+1) S=tot n S+(S n).length:=by simp[tot,List.range_succ]
theorem Qbhd {n:Nat}{S T:Nat→List Nat}(h:∀b,b<n→(S b).length≤(T b).length):tot n S≤tot n T:=by
 induction n with
 |zero=>simp[tot]
 |succ n ih=>
  rw[Q9y,Q9y]
  have:=ih fun b hb=>h b (by omega)
  have:=h n (by omega)
  omega
theorem Qbme {n:Nat}{S T:Nat→List Nat}{c:Nat}(hc:c<n)(h:∀b,b<n→(S b).length≤(T b).length)(hlt:(S c).length<(T c).length):tot n S<tot n T:=by
 induction n with
 |zero=>omega
 |succ n ih=>
  rw[Q9y,Q9y]
  have h1:=h n (by omega)
  by_cases hcn:c=n
  ·subst hcn
   have:=Qbhd (n:=c) (S:=S) (T:=T) fun b hb=>h b (by omega)
   omega
  ·have:=ih (by omega) fun b hb=>h b (by omega)
   omega
end Go.AE.Y

namespace Go.AE.Y
attribute [local go_sem] cond_true cond_false Bool.not_true Bool.not_false
open Go.Proofs.Tryz
variable {H:Heap}{K:V→Heap→Prop}
attribute [local instance] Classical.propDecidable
def Qblh (x:InsD):Option Nat:=if Qwl x.op then some x.to.toNat else none
def toN (l:List Int):List Nat:=l.map Int.toNat
def Qbmr (q:CodeD)(b m:Nat):List Nat:=(((q.blocks[m]?.map BlkD.phis).getD []).map fun p=>(p.args.getD ((Q1 (gnx q) (m:Int) q.blocks.length).idxOf (b:Int)) 0).toNat)
def Qa5q (q:CodeD):Flo where
 n:=q.blocks.length
 nx b:=nxN (gnx q) b
 on b:=match q.blocks[b]? with
  |some y=>if y.jump=1 then []else [y.on.toNat]
  |none=>[]
 ins b:=match q.blocks[b]? with
  |some y=>y.ins.map fun x=>(Qblh x,toN x.args)
  |none=>[]
 ph b:=match q.blocks[b]? with
  |some y=>y.phis.map fun p=>p.to.toNat
  |none=>[]
 ea:=Qbmr q
def rIn (q:CodeD)(v:Int):Prop:=0≤v∧v<q.regs
structure BlkD.ok (q:CodeD)(b:Nat)(y:BlkD):Prop where
 nxl:y.next.length≤2
 nx:∀v∈y.next,1≤v∧v<q.blocks.length
 jmp:y.jump=1∨y.jump=2∨y.jump=3
 on:¬y.jump=1→rIn q y.on
 args:∀x∈y.ins,∀v∈x.args,rIn q v
 to:∀x∈y.ins,Qwl x.op=true→rIn q x.to
 pto:∀p∈y.phis,rIn q p.to
 pargs:∀p∈y.phis,∀v∈p.args,rIn q v
 pal:∀p∈y.phis,p.args.length=(Q1 (gnx q) (b:Int) q.blocks.length).length
 al:∀x∈y.ins,x.args.length≤3
structure CodeD.ok (q:CodeD):Prop where
 r0:0≤q.regs
 r1:q.regs≤300
 b0:0<q.blocks.length
 b1:q.blocks.length≤160
 bs:∀(b:Nat) (h:b<q.blocks.length),q.blocks[b].ok q b
 il:∀(b:Nat) (h:b<q.blocks.length),q.blocks[b].ins.length≤1200∧q.blocks[b].phis.length≤1200
theorem Qa4m {α:Type}{f:α→Nat}{l:List α}{x:α}(h:x∈l):f x≤Qg7 f l:=by
 induction l with
 |nil=>simp at h
 |cons y l ih=>
  simp only[Qg7,List.map_cons,List.sum_cons]at *
  rcases List.mem_cons.1 h with rfl|h
  ·omega
  ·have:=ih h;omega
theorem Qnt {cs:List CodeD}(h:Qb0 cs=true){k:Nat}(hk:k<cs.length):cs[k].ok:=by
 obtain⟨_,h2,h3⟩:=of_decide_eq_true h
 obtain⟨g1,g2⟩:=h2 k hk
 simp only[Qyk,Bool.and_eq_true,decide_eq_true_eq]at g1
 refine⟨by omega,by omega,by omega,by omega,fun b hb=>?_,fun b hb=>?_⟩
 ·have g:=g2 b hb
  simp only[blkG,Bool.and_eq_true]at g
  obtain⟨⟨⟨j,nx⟩,ins⟩,ph⟩:=g
  simp only[Qq6,Bool.and_eq_true,decide_eq_true_eq]at j
  obtain⟨j1,j2⟩:=j
  rw[List.all_eq_true]at nx ins ph
  have hj:(cs[k].blocks[b].jump=1∨cs[k].blocks[b].jump=2∨cs[k].blocks[b].jump=3)∧cs[k].blocks[b].next.length≤2:=by
   rw[Qpj]at j1
   split at j1
   ·omega
   ·split at j1
    ·omega
    ·split at j1 <;> omega
  have hi:∀x∈cs[k].blocks[b].ins,(∀v∈x.args,rIn cs[k] v)∧(Qwl x.op=true→rIn cs[k] x.to):=fun x hx=>by
   have:=ins x hx
   simp only[insG,insH,Qrm,Bool.and_eq_true,List.all_eq_true,decide_eq_true_eq,Qabr hk]at this
   obtain⟨⟨⟨_,a1⟩,a2⟩,_⟩:=this
   refine⟨fun v hv=>by have:=a1 v hv;exact⟨by omega,by omega⟩,fun hm=>?_⟩
   rw[insT,hm,if_pos rfl,decide_eq_true_eq]at a2
   exact⟨by omega,by omega⟩
  have hal:∀x∈cs[k].blocks[b].ins,x.args.length≤3:=fun x hx=>by
   have:=ins x hx
   simp only[insG,Bool.and_eq_true]at this
   have h3:=this.2
   rw[insL]at h3
   split at h3
   ·simp only[Bool.and_eq_true,decide_eq_true_eq]at h3
    have hn:x.n.toNat<cs.length:=by omega
    have:=(h2 x.n.toNat hn).1
    simp only[Qyk,Bool.and_eq_true,decide_eq_true_eq]at this
    rw[Qaa5 hn]at h3
    omega
   ·simp only[Bool.and_eq_true,decide_eq_true_eq]at h3
    have:=argsN_in (op:=x.op)
    omega
  have hp:∀p∈cs[k].blocks[b].phis,rIn cs[k] p.to∧(∀v∈p.args,rIn cs[k] v)∧p.args.length=(Q1 (gnx cs[k]) (b:Int) cs[k].blocks.length).length:=fun p hp=>by
   have:=ph p hp
   simp only[phiG,Qrm,Bool.and_eq_true,List.all_eq_true,decide_eq_true_eq,Ql]at this
   obtain⟨⟨⟨_,a1⟩,a2⟩,a3⟩:=this
   have hgn:(fun i=>(cs[k].blocks.map BlkD.next).getD i [])=gnx cs[k]:=rfl
   rw[hgn]at a1
   exact⟨⟨by omega,by omega⟩,fun v hv=>by have:=a2 v hv;exact⟨by omega,by omega⟩,by omega⟩
  refine⟨hj.2,fun v hv=>?_,hj.1,fun hn=>?_,fun x hx=>(hi x hx).1,fun x hx=>(hi x hx).2,fun p h=>(hp p h).1,fun p h=>(hp p h).2.1,fun p h=>(hp p h).2.2,hal⟩
  ·have:=nx v hv
   simp only[Q64,decide_eq_true_eq,Ql]at this
   omega
  ·rw[if_neg hn,decide_eq_true_eq]at j2
   exact⟨by omega,by omega⟩
 ·have a1:=Qa4m (f:=Qve) (List.getElem_mem hk)
  have a2:=Qa4m (f:=Qzt) (List.getElem_mem hb)
  simp only[Qve,Qzt]at *
  omega
variable {q:CodeD}
theorem Qk2 {b:Nat}(h:b<q.blocks.length):gnx q b=q.blocks[b].next:=by simp[gnx,List.getD_eq_getElem?_getD,h]
theorem CodeD.ok.next (h:q.ok){b m:Nat}(hb:b<q.blocks.length)(hm:m∈(Qa5q q).nx b):m<q.blocks.length∧(m:Int)∈gnx q b:=by
 obtain⟨v,hv,rfl⟩:=List.mem_map.1 hm
 have hv':=hv
 rw[Qk2 hb]at hv'
 have:=(h.bs b hb).nx v hv'
 refine⟨by omega,?_⟩
 have e:((v.toNat:Nat):Int)=v:=by omega
 rw[e];exact hv
theorem CodeD.ok.ix (h:q.ok){b m:Nat}(hb:b<q.blocks.length)(hm:(m:Int)∈gnx q b):(Q1 (gnx q) (m:Int) q.blocks.length).idxOf (b:Int)<(Q1 (gnx q) (m:Int) q.blocks.length).length:=by
 refine List.idxOf_lt_length_of_mem ?_
 simp only[Q1,List.mem_map,List.mem_filter,List.mem_range]
 exact⟨b,⟨hb,List.contains_iff_mem.2 hm⟩,rfl⟩
theorem IsIx.idx {ns:List Int}{v r:Int}(h:IsIx ns v r)(hm:v∈ns):r=(ns.idxOf v:Nat):=by
 rcases h with ⟨_,hn⟩|⟨i,rfl,h1,h2,h3⟩
 ·exact absurd hm hn
 ·have h4:ns[i]=v:=by rw[←h2,List.getD_eq_getElem?_getD,List.getElem?_eq_getElem h1];rfl
  have h5:ns.idxOf v=i:=by
   have e:ns=ns.take i++ns[i]::ns.drop (i+1):=by rw[←List.drop_eq_getElem_cons h1,List.take_append_drop]
   rw[e,List.idxOf_append,if_neg h3,h4]
   simp[List.length_take];omega
  rw[h5]
def Mem (bs:List Bool)(S:RS'):Prop:=∀r,bs.getD r false=true↔S r
theorem Mem.congr {bs:List Bool}{S T:RS'}(h:Mem bs S)(hST:∀r,S r↔T r):Mem bs T:=fun r=>(h r).trans (hST r)
theorem Qas4 (S:List Bool)(x y:Nat)(v:Bool):(S.set x v).getD y false=(if y=x∧x<S.length then v else S.getD y false):=by
 simp only[List.getD_eq_getElem?_getD,List.getElem?_set]
 by_cases h:x=y
 ·subst h
  by_cases h2:x<S.length <;> simp[h2]
 ·have:¬y=x:=fun e=>h e.symm
  simp[h,this]
theorem Mem.ins {bs:List Bool}{S:RS'}(h:Mem bs S){x:Nat}(hx:x<bs.length):Mem (bs.set x true) (fun r=>r=x∨S r):=fun r=>by
 rw[Qas4]
 by_cases hr:r=x
 ·simp[hr,hx]
 ·simp only[hr,false_and,if_false,false_or];exact h r
theorem Mem.del {bs:List Bool}{S:RS'}(h:Mem bs S){x:Nat}(hx:x<bs.length):Mem (bs.set x false) (fun r=>S r∧r≠x):=fun r=>by
 rw[Qas4]
 by_cases hr:r=x
 ·simp[hr,hx]
 ·simp only[hr,false_and,if_false,ne_eq,not_false_eq_true,and_true];exact h r
theorem Mem.lt {bs:List Bool}{S:RS'}(h:Mem bs S){r:Nat}(hr:S r):r<bs.length:=by
 have:=(h r).2 hr
 refine Classical.byContradiction fun hn=>?_
 rw[List.getD_eq_getElem?_getD,List.getElem?_eq_none (by omega)]at this
 exact absurd this (by simp)
theorem Mem.none (n:Nat):Mem (List.replicate n false) fun _=>False:=fun r=>by
 rw[List.getD_eq_getElem?_getD,List.getElem?_replicate]
 split <;> simp
end Go.AE.Y

namespace Go.AE.Y
attribute [local go_sem] cond_true cond_false Bool.not_true Bool.not_false
open Go.Proofs.Tryz
variable {H H0:Heap}{K:V→Heap→Prop}{E L:List (Nat×Obj)}
def madeI (x:InsD):Int:=if Qwl x.op then x.to else -1
structure CodeR (F:Heap)(X:List Nat)(bc:C)(q:CodeD):Prop where
 ow:bc.isOw=false
 s:∀H1:Heap,(∀m,F m≠.none→m∉X→H1 m=F m)→Slc H1 5 (Qn q.blocks) bc
theorem CodeR.sl (F:Heap)(X:List Nat)(fl:Bool)(q:CodeD):CodeR F X (.sl fl 5 (Qn q.blocks)) q:=⟨rfl,fun _ _=>.mk' _ _ _ _⟩
theorem CodeR.rd {F H:Heap}{X:List Nat}{bc:C}{q:CodeD}{E L:List (Nat×Obj)}(h:CodeR F X bc q)(kn:Kn F H E L)(hX:∀x∈E.map Prod.fst,x∈X):Slc H 5 (Qn q.blocks) bc:=
 h.s H fun m hm hx=>kn.chg m hm fun hh=>hx (hX m hh)
theorem CodeR.mid {F H:Heap}{bc:C}{q:CodeD}{L:List (Nat×Obj)}(h:CodeR F [] bc q)(kn:Kn F H [] L):CodeR H (L.map Prod.fst) bc q:=
 ⟨h.ow,fun H1 hh=>h.s H1 fun m hm _=>by
  have h1:=kn.chg m hm (by simp)
  rw[hh m (by rw[h1];exact hm) fun hx=>?_,h1]
  obtain⟨p,hp,he⟩:=List.mem_map.1 hx
  exact hm (he▸kn.loc p hp)⟩
theorem CodeR.nil {F:Heap}{X:List Nat}{bc:C}{q:CodeD}(h:CodeR F X bc q):CodeR F [] bc q:=⟨h.ow,fun H1 hh=>h.s H1 fun m hm _=>hh m hm (by simp)⟩
theorem CodeR.vsl {F:Heap}{X:List Nat}{q:CodeD}{z:Nat}(hz:F z=.vec 5 (Qn q.blocks))(hX:z∉X):CodeR F X (.vsl z 5 0 q.blocks.length) q:=
 ⟨rfl,fun H1 hh=>by
  have h1:H1 z=.vec 5 (Qn q.blocks):=by rw[hh z (by rw[hz];simp) hX,hz]
  exact⟨by simp only[okSl,h1,Ql];exact⟨trivial,by omega⟩,rfl,by simp only[rowsOf,h1,List.drop_zero];exact List.take_of_length_le (by rw[Ql];exact Nat.le_refl _),by simp only[lenC,Ql]⟩⟩
end Go.AE.Y

namespace Go.AE.Y
attribute [local go_sem] cond_true cond_false Bool.not_true Bool.not_false
open Go.Proofs.Tryz
variable {H H0 F:Heap}{K:V→Heap→Prop}{E L:List (Nat×Obj)}
structure SetO where
 c:C
 lg:List (Nat×Obj)
 ks:List Nat
structure SetO.ok (R:Nat)(s:SetO):Prop where
 nd:s.ks.Nodup
 lt:∀x∈s.ks,x<R
 m:(s.c=.mnil∧s.lg=[]∧s.ks=[])∨∃M ver,s.c=.mp M∧s.lg=[(M,.map ver (Qbmx s.ks))]
def Qbnf (ss:List SetO):List (List C):=ss.map fun s=>[s.c]
theorem SetO.ok.isOw {R:Nat}{s:SetO}(h:s.ok R):s.c.isOw=false:=by rcases h.m with ⟨h,_⟩|⟨M,ver,h,_⟩ <;> rw[h] <;> rfl
theorem SetO.ok.len {R:Nat}{s:SetO}(h:s.ok R):s.ks.length≤R:=Qatx h.nd h.lt
def imE (q:CodeD)(fl:Bool)(l yi yp:Nat)(ss:List SetO)(pr:List (List C)):List (Nat×Obj):=
 [(l,.st [.int .i64 q.params,.int .i64 q.regs,.sl fl 5 (Qn q.blocks),.vsl yi 1 0 q.blocks.length,.vsl yp 1 0 q.blocks.length]),(yi,.vec 1 (Qbnf ss)),(yp,.vec 1 pr)]++ss.flatMap SetO.lg
structure imOk (q:CodeD)(ss:List SetO)(pr:List (List C)):Prop where
 l:ss.length=q.blocks.length
 s:∀s∈ss,s.ok q.regs.toNat
 pl:pr.length=q.blocks.length
 p:∀b,b<q.blocks.length→∃fl,pr.getD b []=[.sl fl 1 (Qg (Q1 (gnx q) (b:Int) q.blocks.length))]
def tabS (ss:List SetO)(b:Nat):RS':=fun r=>r∈((ss[b]?.map SetO.ks).getD [])
variable {q:CodeD}{fl:Bool}{l yi yp:Nat}{ss:List SetO}{pr:List (List C)}
end Go.AE.Y

namespace Go.AE.Y
attribute [local instance] Classical.propDecidable
def tab (zs:List (Nat×List Bool))(b:Nat):RS':=fun r=>(((zs[b]?).map Prod.snd).getD []).getD r false=true
variable {zs zi zo:List (Nat×List Bool)}{F:Flo}
theorem Qbhw {b:Nat}(h:b<zs.length)(r:Nat):tab zs b r↔zs[b].2.getD r false=true:=by simp[tab,h]
theorem Qa47 {b:Nat}{x:Nat×List Bool}(h:b<zs.length)(r:Nat):tab (zs.set b x) b r↔x.2.getD r false=true:=by simp[tab,h]
theorem Quy {b c:Nat}{x:Nat×List Bool}(h:c≠b):tab (zs.set b x) c=tab zs c:=by
 funext r
 simp only[tab]
 rw[List.getElem?_set_ne (fun e=>h e.symm)]
theorem Qasu {a b:List Bool}(hl:a.length=b.length)(h:∀r,a.getD r false=true→b.getD r false=true):cnt a≤cnt b∧(∀r,a.getD r false≠b.getD r false→cnt a<cnt b):=by
 induction a generalizing b with
 |nil=>
  cases b with
  |nil=>exact⟨Nat.le_refl _,fun r hr=>absurd rfl hr⟩
  |cons=>simp at hl
 |cons x a ih=>
  cases b with
  |nil=>simp at hl
  |cons y b=>
   have ih':=ih (b:=b) (by simpa using hl) fun r hr=>by have:=h (r+1);simpa using this (by simpa using hr)
   have h0:x=true→y=true:=by have:=h 0;simpa using this
   have hc:∀(z:Bool) (l:List Bool),cnt (z::l)=cnt l+(if z=true then 1 else 0):=fun z l=>by
    simp only[cnt,List.count_cons];cases z <;> simp
   rw[hc,hc]
   refine⟨?_,fun r hr=>?_⟩
   ·cases x with
    |false=>have:=ih'.1;cases y <;> simp <;> omega
    |true=>rw[h0 rfl];have:=ih'.1;simp;omega
   ·cases r with
    |zero=>
     have hxy:x≠y:=by simpa using hr
     cases x with
     |true=>exact absurd (h0 rfl).symm hxy
     |false=>
      cases y with
      |false=>exact absurd rfl hxy
      |true=>have:=ih'.1;simp;omega
    |succ r=>
     have:=ih'.2 r (by simpa using hr)
     cases x with
     |false=>cases y <;> simp <;> omega
     |true=>rw[h0 rfl];simp;omega
def totZ (zs:List (Nat×List Bool)):Nat:=(zs.map fun p=>cnt p.2).sum
theorem Qa48 {b:Nat}{x:Nat×List Bool}(h:b<zs.length):totZ (zs.set b x)+cnt zs[b].2=totZ zs+cnt x.2:=by
 induction zs generalizing b with
 |nil=>simp at h
 |cons z zs ih=>
  cases b with
  |zero=>simp[totZ];omega
  |succ b=>
   have:=ih (b:=b) (by simpa using h)
   simp only[totZ,List.set_cons_succ,List.map_cons,List.sum_cons,List.getElem_cons_succ]at this⊢
   omega
structure LvInv (F:Flo)(zi zo:List (Nat×List Bool)):Prop where
 bi:∀b,b<F.n→∀r,tab zi b r→F.LI b r
 bo:∀b,b<F.n→∀r,tab zo b r→F.LO b r
 post:∀b,b<F.n→∀r,tab zi b r→F.thru (tab zo b) b r
def LvCl (F:Flo)(zi zo:List (Nat×List Bool))(b:Nat):Prop:=(∀r,F.outT (tab zi) b r→tab zo b r)∧∀r,F.thru (tab zo b) b r→tab zi b r
theorem LvInv.done (h:LvInv F zi zo)(hf:F.fits)(hc:∀b,b<F.n→LvCl F zi zo b):∀b,b<F.n→∀r,(tab zi b r↔F.LI b r)∧(tab zo b r↔F.LO b r):=by
 have hp:F.Pre (tab zi):=fun b hb r hr=>(hc b hb).2 r (Flo.thru_mono (hc b hb).1 b r hr)
 intro b hb r
 refine⟨Flo.is_least hp h.bi hb r,h.bo b hb r,fun hr=>(hc b hb).1 r ?_⟩
 exact Flo.outT_mono hf (fun c hc r hr=>(Flo.is_least hp h.bi hc r).2 hr) hb r hr
theorem LvInv.step {R z w y b:Nat}{bs bw bs1 nb:List Bool}{a a1 a2:Bool}(h:LvInv F zi zo)(hf:F.fits)(hb:b<F.n)(hil:zi.length=F.n)(hol:zo.length=F.n)(hRi:∀p∈zi,p.2.length=R)(hRo:∀p∈zo,p.2.length=R)
  (hl1:bs1.length=R) (hln:nb.length=R) (hzo:zo[b]? = some (z,bs)) (hzi:zi[b]? = some (w,bw))
  (g1:∀r,bs.getD r false=true→bs1.getD r false=true) (g2:∀r,bs1.getD r false=true→F.LO b r) (g3:∀r,F.outT (tab zi) b r→bs1.getD r false=true)
  (g4:∀r,nb.getD r false=true↔F.thru (fun r=>bs1.getD r false=true) b r)
  (k1:a1=true→a=true∨cnt bs<cnt bs1) (k2:a1=false→a=false∧bs1=bs)
  (k3:a2=true→a1=true∨∃r,nb.getD r false≠bw.getD r false) (k4:a2=false→a1=false∧∀r,r<R→nb.getD r false=bw.getD r false) :
  LvInv F (zi.set b (y,nb)) (zo.set b (z,bs1))∧totZ zi+totZ zo≤totZ (zi.set b (y,nb))+totZ (zo.set b (z,bs1))∧
   (a2=true→a=true∨totZ zi+totZ zo<totZ (zi.set b (y,nb))+totZ (zo.set b (z,bs1)))∧
   (a2=false→a=false∧LvCl F (zi.set b (y,nb)) (zo.set b (z,bs1)) b∧∀c,LvCl F zi zo c→LvCl F (zi.set b (y,nb)) (zo.set b (z,bs1)) c):=by
 have hbi:b<zi.length:=by omega
 have hbo:b<zo.length:=by omega
 have ezo:zo[b]=(z,bs):=by rw[List.getElem?_eq_getElem hbo]at hzo;simpa using hzo
 have ezi:zi[b]=(w,bw):=by rw[List.getElem?_eq_getElem hbi]at hzi;simpa using hzi
 have hlb:bs.length=R:=hRo (z,bs) (by rw[←ezo];exact List.getElem_mem hbo)
 have hlw:bw.length=R:=hRi (w,bw) (by rw[←ezi];exact List.getElem_mem hbi)
 have tzo:∀r,tab zo b r↔bs.getD r false=true:=fun r=>by rw[Qbhw hbo,ezo]
 have tzi:∀r,tab zi b r↔bw.getD r false=true:=fun r=>by rw[Qbhw hbi,ezi]
 have tzo':∀r,tab (zo.set b (z,bs1)) b r↔bs1.getD r false=true:=fun r=>Qa47 hbo r
 have tzi':∀r,tab (zi.set b (y,nb)) b r↔nb.getD r false=true:=fun r=>Qa47 hbi r
 have hsub:∀r,bw.getD r false=true→nb.getD r false=true:=fun r hr=>by
  rw[g4]
  exact Flo.thru_mono (fun r hr=>g1 r ((tzo r).1 hr)) b r (h.post b hb r ((tzi r).2 hr))
 have c1:=Qasu (a:=bs) (b:=bs1) (by omega) g1
 have c2:=Qasu (a:=bw) (b:=nb) (by omega) hsub
 have t1:=Qa48 (zs:=zo) (x:=(z,bs1)) hbo
 have t2:=Qa48 (zs:=zi) (x:=(y,nb)) hbi
 rw[ezo]at t1
 rw[ezi]at t2
 simp only at t1 t2
 refine⟨⟨fun c hc r hr=>?_,fun c hc r hr=>?_,fun c hc r hr=>?_⟩,by have:=c1.1;have:=c2.1;omega,fun ha=>?_,fun ha=>?_⟩
 ·by_cases hcb:c=b
  ·subst hcb
   rw[tzi',g4]at hr
   exact Flo.LI_pre hf c hb r (Flo.thru_mono g2 c r hr)
  ·rw[Quy hcb]at hr;exact h.bi c hc r hr
 ·by_cases hcb:c=b
  ·subst hcb
   rw[tzo']at hr;exact g2 r hr
  ·rw[Quy hcb]at hr;exact h.bo c hc r hr
 ·by_cases hcb:c=b
  ·subst hcb
   rw[tzi',g4]at hr
   exact Flo.thru_mono (fun r hr=>(tzo' r).2 hr) c r hr
  ·rw[Quy hcb]at hr⊢;exact h.post c hc r hr
 ·rcases k3 ha with h1|⟨r,hr⟩
  ·rcases k1 h1 with h2|h2
   ·exact .inl h2
   ·right;have:=c2.1;omega
  ·right
   have:=c2.2 r (fun e=>hr e.symm)
   have:=c1.1
   omega
 ·obtain⟨h1,h2⟩:=k4 ha
  obtain⟨h3,h4⟩:=k2 h1
  have hnb:∀r,nb.getD r false=bw.getD r false:=fun r=>by
   by_cases hr:r<R
   ·exact h2 r hr
   ·rw[List.getD_eq_getElem?_getD,List.getD_eq_getElem?_getD,List.getElem?_eq_none (by omega),List.getElem?_eq_none (by omega)]
  have ti:tab (zi.set b (y,nb))=tab zi:=by
   funext c r
   by_cases hcb:c=b
   ·subst hcb;refine propext ?_;rw[tzi',tzi,hnb]
   ·rw[Quy hcb]
  have to:tab (zo.set b (z,bs1))=tab zo:=by
   funext c r
   by_cases hcb:c=b
   ·subst hcb;refine propext ?_;rw[tzo',tzo,h4]
   ·rw[Quy hcb]
  refine⟨h3,⟨fun r hr=>?_,fun r hr=>?_⟩,fun c hc=>?_⟩
  ·rw[ti]at hr
   exact (tzo' r).2 (g3 r hr)
  ·rw[tzi',g4]
   exact Flo.thru_mono (fun r hr=>(tzo' r).1 hr) b r hr
  ·rw[LvCl,ti,to];exact hc
end Go.AE.Y

namespace Go.AE.Y
attribute [local go_sem] cond_true cond_false Bool.not_true Bool.not_false
open Go.Proofs.Tryz
variable {H H0 F:Heap}{K:V→Heap→Prop}{E L:List (Nat×Obj)}
def Qbls (R:Nat)(zs:List (Nat×List Bool)):List (List C):=zs.map fun p=>[.vsl p.1 1 0 R]
def obZ (zs:List (Nat×List Bool)):List (Nat×Obj):=zs.map fun p=>(p.1,.vec 1 (Qan p.2))
def lvE (R yi yo:Nat)(zi zo:List (Nat×List Bool)):List (Nat×Obj):=[(yi,.vec 1 (Qbls R zi)),(yo,.vec 1 (Qbls R zo))]++(obZ zi++obZ zo)
variable {R yi yo:Nat}{zi zo:List (Nat×List Bool)}
structure lvOk (R n:Nat)(zi zo:List (Nat×List Bool)):Prop where
 i:zi.length=n
 o:zo.length=n
 li:∀p∈zi,p.2.length=R
 lo:∀p∈zo,p.2.length=R
end Go.AE.Y

namespace Go.AE.Y
attribute [local go_sem] cond_true cond_false Bool.not_true Bool.not_false
open Go.Proofs.Tryz
variable {H H0 F:Heap}{K:V→Heap→Prop}{E L:List (Nat×Obj)}
def Qblr (zs:List (Nat×List Bool)):List (List C):=zs.map fun p=>[.sl false 1 (Qan p.2)]
def liveB (q:CodeD)(zi zo:List (Nat×List Bool)):Prop:=lvOk q.regs.toNat q.blocks.length zi zo∧∀b,b<q.blocks.length→∀r,(tab zi b r↔(Qa5q q).LI b r)∧(tab zo b r↔(Qa5q q).LO b r)
def tailL (x2 x3 yi yo n:Nat):List (Nat×Obj):=[(x2,.st [.sl true 1 [],.sl true 1 []]),(x3,.st [.vsl yi 1 0 n,.vsl yo 1 0 n])]
end Go.AE.Y

namespace Go.AE.Y
attribute [local go_sem] cond_true cond_false Bool.not_true Bool.not_false
open Go.Proofs.Tryz
variable {H H0:Heap}{K:V→Heap→Prop}{E L:List (Nat×Obj)}
def onesL (bs:List Bool)(n:Nat):List Nat:=(List.range n).filter fun r=>bs.getD r false
def listsR (ls:List (List Nat)):List (List C):=ls.map fun l=>[.sl false 1 (Qd6 l)]
noncomputable def insLs (q:CodeD):List (List Nat):=(List.range q.blocks.length).map fun b=>ascL q.regs.toNat ((Qa5q q).LI b)
noncomputable def outsLs (q:CodeD):List (List Nat):=(List.range q.blocks.length).map fun b=>ascL q.regs.toNat ((Qa5q q).LO b)
noncomputable def Qbd4 (q:CodeD)(b k:Nat):List Nat:=ascL q.regs.toNat ((Qa5q q).LB b k)
noncomputable def codeOr (cs:List CodeD)(k:Int)(f:CodeD→List (List Nat)):List (List Nat):=if hasG cs k=true then match cs[k.toNat]? with
 |some q=>f q
 |none=>[]else []
end Go.AE.Y

namespace Go.AE.Y
attribute [local go_sem] cond_true cond_false Bool.not_true Bool.not_false
open Go.Proofs.Tryz
variable {H H0:Heap}{K:V→Heap→Prop}{E L:List (Nat×Obj)}
def mxF (f:Nat→Nat):Nat→Nat
 |0=>0
 |m+1=>max (mxF f m) (f m)
noncomputable def Qbkp (q:CodeD)(b:Nat):Nat:=mxF (fun k=>(Qbd4 q b k).length) (((q.blocks[b]?.map BlkD.ins).getD []).length+1)
noncomputable def Qbmy (q:CodeD):Nat:=mxF (Qbkp q) q.blocks.length
noncomputable def upTo (q:CodeD)(b k:Nat):Nat:=max (mxF (Qbkp q) b) (mxF (fun k=>(Qbd4 q b k).length) k)
noncomputable def mostI (cs:List CodeD)(k:Int):Int:=if hasG cs k=true then match cs[k.toNat]? with
 |some q=>(Qbmy q:Int)
 |none=>-1 else -1
def spS (zi zo:List (Nat×List Bool)):Obj:=.st [.sl false 1 (Qblr zi),.sl false 1 (Qblr zo)]
end Go.AE.Y

namespace Go.AE.Y
attribute [local instance] Classical.propDecidable
def asS (S:Nat→List Nat)(b:Nat):RS':=fun r=>r∈S b
structure ImInv (F:Flo)(R:Nat)(S:Nat→List Nat):Prop where
 below:F.Below (asS S)
 post:∀b,b<F.n→∀r,asS S b r→F.inT (asS S) b r
 nd:∀b,(S b).Nodup
 lt:∀b,∀r∈S b,r<R
variable {F:Flo}{R:Nat}{S:Nat→List Nat}
theorem ImInv.same {b:Nat}{ks:List Nat}(h:ImInv F R S)(hb:b<F.n)(hnd:ks.Nodup)(hks:∀r,r∈ks↔F.inT (asS S) b r)(hl:ks.length=(S b).length):∀r,F.inT (asS S) b r→asS S b r:=fun r hr=>
 Qaty (h.nd b) (fun x hx=>(hks x).2 (h.post b hb x hx)) (by omega) r ((hks r).2 hr)
theorem ImInv.step {b:Nat}{ks:List Nat}(h:ImInv F R S)(hf:F.fits)(hb:b<F.n)(hnd:ks.Nodup)(hlt:∀r∈ks,r<R)(hks:∀r,r∈ks↔F.inT (asS S) b r)(hl:¬ks.length=(S b).length) :
  ImInv F R (fun c=>if c=b then ks else S c)∧tot F.n S<tot F.n (fun c=>if c=b then ks else S c):=by
 have hsub:∀r,r∈S b→r∈ks:=fun r hr=>(hks r).2 (h.post b hb r hr)
 have hle:=Qgy (h.nd b) hsub
 have hS:∀c,c<F.n→∀r,asS S c r→asS (fun c=>if c=b then ks else S c) c r:=fun c _ r hr=>by
  simp only[asS]
  by_cases hc:c=b
  ·subst hc;rw[if_pos rfl];exact hsub r hr
  ·rw[if_neg hc];exact hr
 refine⟨⟨fun c hc r hr=>?_,fun c hc r hr=>?_,fun c=>?_,fun c r hr=>?_⟩,Qbme hb (fun c hc=>?_) ?_⟩
 ·simp only[asS]at hr
  by_cases hcb:c=b
  ·subst hcb;rw[if_pos rfl]at hr;exact h.below.inT hf hb r ((hks r).1 hr)
  ·rw[if_neg hcb]at hr;exact h.below c hc r hr
 ·have h1:F.inT (asS S) c r:=by
   simp only[asS]at hr
   by_cases hcb:c=b
   ·subst hcb;rw[if_pos rfl]at hr;exact (hks r).1 hr
   ·rw[if_neg hcb]at hr;exact h.post c hc r hr
  exact Flo.inT_mono hf hS hc r h1
 ·by_cases hcb:c=b
  ·subst hcb;simpa using hnd
  ·simpa[hcb]using h.nd c
 ·by_cases hcb:c=b
  ·subst hcb;exact hlt r (by simpa using hr)
  ·exact h.lt c r (by simpa[hcb]using hr)
 ·by_cases hcb:c=b
  ·subst hcb;simpa using hle
  ·simp[hcb]
 ·simp only[if_pos];omega
theorem ImInv.done (h:ImInv F R S)(hc:∀b,b<F.n→∀r,F.inT (asS S) b r→asS S b r){b:Nat}(hb:b<F.n)(r:Nat):r∈S b↔F.LI b r:=
 Flo.is_least hc h.below hb r
theorem ImInv.start:ImInv F R fun _=>[]:=⟨fun b _ r hr=>absurd hr (by simp[asS]),fun b _ r hr=>absurd hr (by simp[asS]),fun _=>by simp,fun _ r hr=>by simp at hr⟩
end Go.AE.Y

namespace Go.AE.Y
attribute [local go_sem] cond_true cond_false Bool.not_true Bool.not_false
open Go.Proofs.Tryz
variable {H H0 F:Heap}{K:V→Heap→Prop}{E L:List (Nat×Obj)}
variable {q:CodeD}{fl:Bool}{l yi yp:Nat}{ss:List SetO}{pr:List (List C)}
end Go.AE.Y

namespace Go.AE.Y
attribute [local go_sem] cond_true cond_false Bool.not_true Bool.not_false
open Go.Proofs.Tryz
variable {H H0 F:Heap}{K:V→Heap→Prop}{E L:List (Nat×Obj)}
def ksOf (ss:List SetO)(b:Nat):List Nat:=(ss[b]?.map SetO.ks).getD []
end Go.AE.Y

namespace Go.AE.Y
attribute [local go_sem] cond_true cond_false Bool.not_true Bool.not_false
open Go.Proofs.Tryz
variable {H H0 F:Heap}{K:V→Heap→Prop}{E L:List (Nat×Obj)}
variable {q:CodeD}{fl:Bool}{l yi yp:Nat}{ss:List SetO}{pr:List (List C)}
end Go.AE.Y

namespace Go.AE.Y
attribute [local go_sem] cond_true cond_false Bool.not_true Bool.not_false
open Go.Proofs.Tryz
variable {H H0 F:Heap}{K:V→Heap→Prop}{E L:List (Nat×Obj)}
end Go.AE.Y

namespace Go.AE.Y
attribute [local go_sem] cond_true cond_false Bool.not_true Bool.not_false
open Go.Proofs.Tryz
variable {H H0:Heap}{K:V→Heap→Prop}{E B Lg:List (Nat×Obj)}
theorem Qj6 {S:Nat→Bool}{a b a' b':V}(h:FrzV H S a a')(k:FrzV H S b b'):FrzV H S (.tup [a,b]) (.tup [a',b']):=by
 refine .tup _ _ rfl fun j x x' h1 h2=>?_
 match j with
 |0=>simp at h1 h2;subst h1;subst h2;exact h
 |1=>simp at h1 h2;subst h1;subst h2;exact k
 |j+2=>simp at h1
theorem Q19 {S:Nat→Bool}(cs:List CodeD):FrzV H S (.ag [.sl false 3 (Qj cs)]) (.ag [.sl false 3 (Qj cs)]):=FrzL.ag (.cons (FrzR.same (Qa4 cs)).sl .nil)
theorem UnitOk.fits {cs:List CodeD}(h:UnitOk cs):∀c∈cs,c.fits:=fun c hc=>(h.2.2 c hc).f
end Go.AE.Y

namespace Go.AE.Y
attribute [local go_sem] cond_true cond_false Bool.not_true Bool.not_false
open Go.Proofs.Tryz
variable {H H0:Heap}{K:V→Heap→Prop}{E B Lg:List (Nat×Obj)}
attribute [local instance] Classical.propDecidable
end Go.AE.Y

namespace Go.AE.Y
attribute [local go_sem] cond_true cond_false Bool.not_true Bool.not_false
open Go.Proofs.Tryz
variable {H H0:Heap}{K:V→Heap→Prop}{E B Lg:List (Nat×Obj)}
attribute [local instance] Classical.propDecidable
end Go.AE.Y

namespace Go.AE
variable {H0 F H:Heap}{E E' L M:List (Nat×Obj)}
end Go.AE
namespace Go.AE.Y
attribute [local go_sem] cond_true cond_false Bool.not_true Bool.not_false
open Go.Proofs.Tryz
variable {H H0 F:Heap}{K:V→Heap→Prop}{E L:List (Nat×Obj)}
variable {q:CodeD}{fl:Bool}{l yi yp:Nat}{ss:List SetO}{pr:List (List C)}
attribute [local instance] Classical.propDecidable
def Qblp (op:Int):Bool:=decide (1≤op∧op≤10)&&!decide (op=6)&&!decide (op=7)
noncomputable def Qbmu (q:CodeD)(b i:Nat)(x:InsD):Bool:=Qblp x.op&&!decide (x.to.toNat∈Qbd4 q b (i+1))
noncomputable def Qbk4 (q:CodeD)(b i:Nat):Bool:=match (q.blocks[b]?).bind (fun y=>y.ins[i]?)with
 |some x=>Qbmu q b i x
 |none=>false
end Go.AE.Y

namespace Go.AE.Y
attribute [local go_sem] cond_true cond_false Bool.not_true Bool.not_false
open Go.Proofs.Tryz
variable {H H0 F:Heap}{K:V→Heap→Prop}{E L:List (Nat×Obj)}
variable {q:CodeD}{fl:Bool}
attribute [local instance] Classical.propDecidable
def Qbho (q:CodeD)(b:Nat):Nat:=((q.blocks[b]?.map BlkD.ins).getD []).length
noncomputable def idlB (q:CodeD)(b n:Nat):List Nat:=(List.range n).filter (Qbk4 q b)
def itB (k b:Nat)(l:List Nat):List (List Nat):=l.map fun i=>[k,b,i]
noncomputable def itC (q:CodeD)(k nb:Nat):List (List Nat):=(List.range nb).flatMap fun b=>itB k b (idlB q b (Qbho q b))
noncomputable def itU (cs:List CodeD)(nk:Nat):List (List Nat):=(List.range nk).flatMap fun k=>match cs[k]? with
 |some q=>itC q k q.blocks.length
 |none=>[]
noncomputable def idleAll (cs:List CodeD):List (List Nat):=if Qb0 cs=true then itU cs cs.length else []
noncomputable def idlN (q:CodeD)(nb:Nat):Nat:=((List.range nb).map fun b=>(idlB q b (Qbho q b)).length).sum
def listsT (ls:List (List Nat)):List (List C):=ls.map fun l=>[.sl true 1 (Qd6 l)]
end Go.AE.Y

namespace Go.AE.Y
attribute [local go_sem] cond_true cond_false Bool.not_true Bool.not_false
open Go.Proofs.Tryz
variable {H H0 F:Heap}{K:V→Heap→Prop}{E L:List (Nat×Obj)}
variable {q:CodeD}{fl:Bool}
attribute [local instance] Classical.propDecidable
noncomputable def Q4v (cs:List CodeD):Int:=if Qb0 cs=true then (Qg7 Qve cs:Nat)else -1
theorem Qanh {cs:List CodeD}(hfit:∀c∈cs,c.fits)(hK:∀(H':Heap),Upd H H' []→K (.c (.int .i64 (Q4v cs))) H') :
  Qp prog Qfi [.ag [.sl fl 3 (Qj cs)]] H K:=by
 refine Qu ?_
 refine Qb Qai Qapc ?_
 refine Qa ?_
 simp only[go_sem]
 refine Q5 ?_
 refine Qa ?_
 simp only[go_sem]
 refine Qmu hfit fun H1 hu=>?_
 have kn:=(Kn.start0 H).call0 hu
 simp only[go_sem,Qn4]
 refine Qi (Qe rfl ?_ ?_)
 ·intro hc
  have hc:=Qvh hc
  refine Qa ?_
  simp only[go_sem]
  refine Qk ?_
  simp only[go_sem,X.next,Q4,Q7,Qmz,List.mem_singleton,forall_eq,RS.op]
  have hK:=hK _ kn.fin
  rw[Q4v,hc]at hK
  exact⟨_,.c _ _ (Qd rfl),hK⟩
 intro hc
 have hg:=Qht hc
 have h800:=(of_decide_eq_true hg).2.2
 have hc4:cs.length≤4:=by have:=(of_decide_eq_true hg).1;omega
 have hall:Q4v cs=(Qg7 Qve cs:Nat):=by rw[Q4v,if_pos hg]
 rw[hall]at hK
 refine Qh ?_
 try simp only[go_sem]
 refine Qa ?_
 simp only[go_sem]
 refine Q5 ?_
 refine Qa ?_
 simp only[go_sem,Qq]
 intro _
 refine Qi (Qf (Qx (fun m e1 H1=>∃(k:Nat),m=cs.length-k∧k≤cs.length∧Kn H H1 [] []∧
  lk 3 e1=.c (.int .i64 (Qg7 Qve (cs.take k):Nat))∧lk 10 e1=.c (.sl fl 3 (Qj cs))∧lk 11 e1=.c (.int .i64 cs.length)∧lk 12 e1=.c (.int .i64 k)) cs.length ?_ ?_))
 ·exact⟨0,by omega,by omega,kn,rfl,rfl,rfl,rfl⟩
 ·clear kn
  rintro m e1 H2 ⟨k,hm,hk,kn,l3,l10,l11,l12⟩
  refine Qa ?_
  simp only[go_sem,l3,l10,l11,l12]
  refine Qi (Qe rfl ?_ ?_)
  ·intro hc1
   have hlt:k<cs.length:=by simpa using hc1
   have hqok:=Qnt hg hlt
   have hss:=Qcl (f:=Qve) hlt
   have hle:=Qash (f:=Qve) (l:=cs) (k+1)
   have hqf:=hfit _ (List.getElem_mem hlt)
   obtain⟨q,hq⟩:∃q,cs[k]=q:=⟨_,rfl⟩
   rw[hq]at hqok hss hqf
   have hb1:=hqok.b1
   refine Qh ?_
   try simp only[go_sem]
   refine Qi (Qf ?_)
   refine Qa ?_
   simp only[go_sem,hlt,Qq,Q3 _ _ hlt,CodeD.cells,hq]
   intro x5 hx5 H3 h3
   have kn:=kn.al hx5 h3
   have hx5:=kn.l 0 rfl
   simp only[go_sem,Qn5,hx5]
   intro H4 h4
   have kn:Kn H H4 [] ([]++[(x5,.st [.int .i64 q.params,.int .i64 q.regs,.sl false 5 (Qn q.blocks)])]):=kn.stL 0 rfl h4
   have hx5:=kn.l 0 rfl
   refine Qv ?_
   simp only[go_sem,hx5]
   refine Q95 hqf hb1 fun H5 hu=>?_
   have kn:=kn.call0 hu
   simp only[go_sem,Qn6]
   refine⟨Qr (by omega) (by omega),?_⟩
   refine Qv ?_
   simp only[go_sem]
   refine⟨Qr (by omega) (by omega),?_⟩
   show ∃m,_
   refine⟨cs.length-(k+1),by omega,k+1,rfl,by omega,kn.drop,?_,rfl,rfl,rfl⟩
   rw[hss];rfl
  ·intro hc1
   have hge:cs.length≤k:=by simpa using hc1
   refine Qw ?_
   simp only[go_sem,X.next]
   refine Qa ?_
   simp only[go_sem,l3]
   refine Qk ?_
   simp only[go_sem,X.next,Q4,Q7,Qmz,List.mem_singleton,forall_eq,RS.op]
   rw[List.take_of_length_le hge]
   exact⟨_,.c _ _ (Qd rfl),hK _ kn.fin⟩
end Go.AE.Y

namespace Go.AE.Y
open Go.Proofs.Tryz
def Qlj:List Item:=[fJ 6 2 1,sJ 1 6 5]
def Q7j:SC:=sR [tJ 7 4 1,sJ 4 2 7] [2] .ret
def Q7k:SC:=sR (fJ 3 2 1::lJ 4 3::aJ 5 Qey [.t 4]::Qlj) [1,2] Q7j
def Qaiw:SC:=sR [eI 1 (.boxm (.t 0)),eI 2 (.alloc [.int .i64 0,.int .i64 0,.sl true 1 [],.int .i64 0])] [1,2] Q7k
def Qwn:List RS:=[.cell 2 4 true]
theorem Qah1:mFn prog Qc4 1 8 Qaiw Qwn=true:=by kernel_rfl
def Qh4:List Item:=[fJ 6 0 1,sJ 1 6 5]
def Qh5:List Item:=[fJ 10 1 1,sJ 1 10 9]
def Qh6:List Item:=[fJ 14 4 1,sJ 1 14 13]
def Q0r:SC:=sR [tJ 15 5 1,sJ 5 2 15] [2] .ret
def Q0s:SC:=sR (fJ 11 4 1::lJ 12 11::aJ 13 Qey [.t 12]::Qh6) [1,2] Q0r
def Q0t:SC:=sR (fJ 7 1 1::lJ 8 7::eI 9 (.call Qcy [.t 8,.k (.c (.fn Qc4 []))])::Qh5) [1,2] Q0s
def Q0u:SC:=sR (fJ 3 0 1::lJ 4 3::eI 5 (.call Qcz [.t 4,.k (.c (.fn Qc5 []))])::Qh4) [1,2] Q0t
def Q7i:SC:=sR [eI 1 (.boxm (.t 0)),eI 2 (.alloc [.sl true 2 [],.sl true 4 [],.int .i64 0,.int .i64 0,.sl true 1 []])] [1,2] Q0u
def Qnz:List RS:=[.cell 2 5 true]
theorem Q63:mFn prog Qbh 1 16 Q7i Qnz=true:=by kernel_rfl
def Qjk:List Item:=[fJ 6 2 1,sJ 1 6 5]
def Q3c:SC:=sR [tJ 7 3 1,sJ 3 2 7] [2] .ret
def Q3d:SC:=sR (fJ 3 2 1::lJ 4 3::eI 5 (.call Qbu [.t 4,.k (.c (.fn Qbh []))])::Qjk) [1,2] Q3c
def Qacg:SC:=sR [eI 1 (.boxm (.t 0)),eI 2 (.alloc [.int .i64 0,.int .i64 0,.sl true 5 []])] [1,2] Q3d
def Qrf:List RS:=[.cell 2 3 true]
theorem Qaaw:mFn prog Qhe 1 8 Qacg Qrf=true:=by kernel_rfl
end Go.AE.Y

namespace Go.AE.Y
attribute [local go_sem] cond_true cond_false Bool.not_true Bool.not_false
open Go.Proofs.Tryz
variable {H H0 F:Heap}{K:V→Heap→Prop}{E L:List (Nat×Obj)}
theorem PhiD.allOw (x:PhiD):(x.cells.all fun c=>!c.isOw)=true:=rfl
theorem PhiD.len2 (x:PhiD):x.cells.length=2:=rfl
theorem Qa5i {x:PhiD}(hl:x.args.length≤LIM)(hK:∀H',Upd H H' []→K (.ag x.cells) H'):Qp prog Qc5 [.ag x.cells] H K:=by
 refine Qu ?_
 refine Qb Qai Qapd ?_
 refine Qa ?_
 simp only[go_sem,PhiD.cells]
 intro x2 hx2 H1 h1
 have kn:=(Kn.start0 H).al hx2 h1
 refine Qae ?_
 simp only[go_sem]
 refine Qaop kn hl fun t Lg H2 hgr how kn=>?_
 have hx2:=kn.l 0 rfl
 simp only[go_sem,Qn7,how,hx2]
 intro H3 h3
 have kn:Kn H H3 [] ([(x2,.st [.int .i64 x.to,t])]++Lg):=kn.stL 0 rfl h3
 have hx2:=kn.l 0 rfl
 refine Qk ?_
 simp only[go_sem,Q4,Q7,Qz9,List.mem_singleton,forall_eq,RS.op,how,hx2]
 exact⟨_,FrzL.ag (.cons (Qd rfl) (.cons (hgr.frz kn (Qt _)) .nil)),hK _ kn.fin⟩
theorem Qa5h {x:InsD}(hl:x.args.length≤LIM)(hK:∀H',Upd H H' []→K (.ag x.cells) H'):Qp prog Qc4 [.ag x.cells] H K:=by
 refine Qu ?_
 refine Qb Qai Qah1 ?_
 refine Qa ?_
 simp only[go_sem,InsD.cells]
 intro x1 hx1 H0 h0
 have kn:=(Kn.start0 H).al hx1 h0
 intro x2 hx2 H1 h1
 have kn:=kn.al hx2 h1
 have hx1:=kn.l 0 rfl
 refine Qa ?_
 simp only[go_sem,hx1]
 refine Qaop kn hl fun t Lg H2 hgr how kn=>?_
 have hx1:=kn.l 0 rfl
 simp only[go_sem,Qlj,how,hx1]
 intro H3 h3
 have kn:=kn.stL 0 rfl h3
 have hx1:=kn.l 0 rfl
 have hx2:=kn.l 1 rfl
 refine Qa ?_
 simp only[go_sem,hx1,hx2,how]
 intro H4 h4
 have kn:Kn H H4 [] ([(x1,.st [.int .i64 x.op,.int .i64 x.to,t,.int .i64 x.n]),(x2,.st [.int .i64 x.op,.int .i64 x.to,t,.int .i64 x.n])]++Lg):=kn.stL 1 rfl h4
 have hx2:=kn.l 1 rfl
 refine Qk ?_
 simp only[go_sem,Q4,Q7,Qwn,List.mem_singleton,forall_eq,RS.op,how,hx2]
 exact⟨_,FrzL.ag (.cons (Qd rfl) (.cons (Qd rfl) (.cons (hgr.frz kn (Qt _)) (.cons (Qd rfl) .nil)))),hK _ kn.fin⟩
theorem Qbfw {l:List PhiD}{fl:Bool}(hl:l.length≤2 ^ 38)(ha:∀x∈l,x.args.length≤LIM)(kn:Kn H0 H E L)(hK:∀t Lg H',Gr Lg 2 (Q0 l) t→Kn H0 H' E (L++Lg)→K (.c t) H') :
  Qp prog Qcz [.c (.sl fl 2 (Q0 l)),.c (.fn Qc5 [])] H K:=by
 refine Qb Qai Qym ?_
 refine Qa ?_
 simp only[go_sem]
 refine Qa ?_
 simp only[go_sem]
 refine Q5 ?_
 refine Qa ?_
 simp only[go_sem,Qy]
 intro _
 refine Qi (Qf (Qx (fun m e1 H1=>∃(i:Nat) (t:C) (Lg:List (Nat×Obj)),m=l.length-i∧i≤l.length∧Gr Lg 2 (Q0 (l.take i)) t∧Kn H0 H1 E (L++Lg)∧
  e1=[(1,.c (.fn Qc5 [])),(5,.c t),(8,.c (.sl fl 2 (Q0 l))),(9,.c (.int .i64 l.length)),(10,.c (.int .i64 i))]) l.length ?_ ?_))
 ·exact⟨0,_,[],by omega,by omega,.nil 2,by simpa using kn,rfl⟩
 ·clear kn
  rintro m e1 H1 ⟨i,t,Lg,hm,hi,hgr,kn,rfl⟩
  have htw:=hgr.isOw
  refine Qa ?_
  simp only[go_sem,htw]
  refine Qi (Qe rfl ?_ ?_)
  ·intro hc
   have hlt:i<l.length:=by simpa using hc
   obtain⟨p,hp⟩:∃p,l[i]=p:=⟨_,rfl⟩
   have hpm:p∈l:=by rw[←hp];exact List.getElem_mem hlt
   have htk:l.take (i+1)=l.take i++[p]:=by rw[List.take_succ_eq_append_getElem hlt,hp]
   refine Qh ?_
   try simp only[go_sem]
   refine Qi (Qf ?_)
   refine Qa ?_
   simp only[go_sem,htw,hlt,Qy,Qax _ _ hlt,PhiD.cells,hp]
   intro x7 hx7 H2 h2
   have kn:=kn.al hx7 h2
   have hx7:H2 x7=.st [.int .i64 0,.sl true 1 []]:=(kn.get (x7,.st [.int .i64 0,.sl true 1 []]) (by simp)).1
   simp only[go_sem,Qek,hx7,htw]
   intro H3 h3
   have kn:Kn H0 H3 E ((L++[(x7,.st [.int .i64 p.to,.sl false 1 (Qg p.args)])])++Lg):=by
    have:=kn.stL (L++Lg).length (x:=x7) (o:=.st [.int .i64 0,.sl true 1 []]) (by simp) h3
    refine Kn.perm (by simpa using this) (Qm fun f hf h0 hc hp=>by simp only[hf];omega)
   have hx7:H3 x7=.st [.int .i64 p.to,.sl false 1 (Qg p.args)]:=(kn.get (x7,.st [.int .i64 p.to,.sl false 1 (Qg p.args)]) (by simp)).1
   refine Qv ?_
   simp only[go_sem,htw,hx7,List.append_nil,List.map_nil]
   refine Qa5i (x:=p) (ha p hpm) fun H4 hu=>?_
   have kn:=kn.call0 hu
   simp only[go_sem,Qem,htw,PhiD.cells]
   have hsm:(l.take i).length≤l.length:=by rw[List.length_take];omega
   refine kn.growR (new:=Q0 [p]) hgr (.mk' _ _ _ _) (Qmx _) (by simp only[Qy,LIM,List.length_cons,List.length_nil];omega) fun t2 Lg2 H5 hgr2 ht2 kn=>?_
   simp only[go_sem,Qel,ht2]
   refine Qv ?_
   simp only[go_sem,X.next,ht2]
   refine⟨Qr (by omega) (by omega),l.length-(i+1),by omega,i+1,t2,Lg2,rfl,by omega,?_,?_,rfl⟩
   ·rw[htk];have:Q0 (l.take i++[p])=Q0 (l.take i)++Q0 [p]:=by simp[Q0]
    rw[this];exact hgr2
   ·exact Kn.drop (B:=[(x7,.st [.int .i64 p.to,.sl false 1 (Qg p.args)])]) (kn.perm (Qm fun f hf h0 hc hp=>by simp only[hf];omega))
  ·intro hc
   have hge:l.length≤i:=by simpa using hc
   rw[List.take_of_length_le hge]at hgr
   refine Qw ?_
   simp only[go_sem,X.next]
   refine Qa ?_
   simp only[go_sem,htw]
   refine Qk ?_
   simp only[go_sem,Q4,Q7,Qhx,List.mem_singleton,forall_eq,RS.op,htw]
   exact hK t Lg H1 hgr kn
theorem Qbfv {l:List InsD}{fl:Bool}(hl:l.length≤2 ^ 38)(ha:∀x∈l,x.args.length≤LIM)(hK:∀H',Upd H H' []→K (.c (.sl false 4 (Qa1 l))) H') :
  Qp prog Qcy [.c (.sl fl 4 (Qa1 l)),.c (.fn Qc4 [])] H K:=by
 refine Qu ?_
 refine Qb Qai Qyl ?_
 refine Qa ?_
 simp only[go_sem]
 refine Qa ?_
 simp only[go_sem]
 refine Q5 ?_
 refine Qa ?_
 simp only[go_sem,Qar]
 intro _
 refine Qi (Qf (Qx (fun m e1 H1=>∃(i:Nat) (t:C) (Lg:List (Nat×Obj)),m=l.length-i∧i≤l.length∧Gr Lg 4 (Qa1 (l.take i)) t∧Kn H H1 [] ([]++Lg)∧
  e1=[(1,.c (.fn Qc4 [])),(5,.c t),(8,.c (.sl fl 4 (Qa1 l))),(9,.c (.int .i64 l.length)),(10,.c (.int .i64 i))]) l.length ?_ ?_))
 ·exact⟨0,_,[],by omega,by omega,.nil 4,Kn.start0 H,rfl⟩
 ·rintro m e1 H1 ⟨i,t,Lg,hm,hi,hgr,kn,rfl⟩
  have htw:=hgr.isOw
  refine Qa ?_
  simp only[go_sem,htw]
  refine Qi (Qe rfl ?_ ?_)
  ·intro hc
   have hlt:i<l.length:=by simpa using hc
   obtain⟨p,hp⟩:∃p,l[i]=p:=⟨_,rfl⟩
   have hpm:p∈l:=by rw[←hp];exact List.getElem_mem hlt
   have htk:l.take (i+1)=l.take i++[p]:=by rw[List.take_succ_eq_append_getElem hlt,hp]
   refine Qh ?_
   try simp only[go_sem]
   refine Qi (Qf ?_)
   refine Qa ?_
   simp only[go_sem,htw,hlt,Qar,Qdp _ _ hlt,InsD.cells,hp]
   intro x7 hx7 H2 h2
   have kn:=kn.al hx7 h2
   have hx7:H2 x7=.st [.int .i64 0,.int .i64 0,.sl true 1 [],.int .i64 0]:=(kn.get (x7,.st [.int .i64 0,.int .i64 0,.sl true 1 [],.int .i64 0]) (by simp)).1
   simp only[go_sem,Qeh,hx7,htw]
   intro H3 h3
   have kn:Kn H H3 [] ([(x7,.st [.int .i64 p.op,.int .i64 p.to,.sl false 1 (Qg p.args),.int .i64 p.n])]++Lg):=by
    have:=kn.stL ([]++Lg).length (x:=x7) (o:=.st [.int .i64 0,.int .i64 0,.sl true 1 [],.int .i64 0]) (by simp) h3
    refine Kn.perm (by simpa using this) ?_
    exact List.perm_append_comm
   have hx7:=kn.l 0 rfl
   refine Qv ?_
   simp only[go_sem,htw,hx7,List.append_nil,List.map_nil]
   refine Qa5h (x:=p) (ha p hpm) fun H4 hu=>?_
   have kn:=kn.call0 hu
   simp only[go_sem,Qej,htw,InsD.cells]
   have hsm:(l.take i).length≤l.length:=by rw[List.length_take];omega
   refine kn.growR (new:=Qa1 [p]) hgr (.mk' _ _ _ _) (Qu5 _) (by simp only[Qar,LIM,List.length_cons,List.length_nil];omega) fun t2 Lg2 H5 hgr2 ht2 kn=>?_
   simp only[go_sem,Qei,ht2]
   refine Qv ?_
   simp only[go_sem,X.next,ht2]
   refine⟨Qr (by omega) (by omega),l.length-(i+1),by omega,i+1,t2,Lg2,rfl,by omega,?_,?_,rfl⟩
   ·rw[htk];have:Qa1 (l.take i++[p])=Qa1 (l.take i)++Qa1 [p]:=by simp[Qa1]
    rw[this];exact hgr2
   ·exact Kn.drop (B:=[(x7,.st [.int .i64 p.op,.int .i64 p.to,.sl false 1 (Qg p.args),.int .i64 p.n])]) (kn.perm List.perm_append_comm)
  ·intro hc
   have hge:l.length≤i:=by simpa using hc
   rw[List.take_of_length_le hge]at hgr
   refine Qw ?_
   simp only[go_sem,X.next]
   refine Qa ?_
   simp only[go_sem,htw]
   refine Qk ?_
   simp only[go_sem,Q4,Q7,Qhw,List.mem_singleton,forall_eq,RS.op,htw]
   exact⟨_,.c _ _ (hgr.frz kn (Qu5 _)),hK _ kn.fin⟩
def kRow (y:BlkD)(pc:C):List C:=[pc,.sl false 4 (Qa1 y.ins),.int .i64 y.jump,.int .i64 y.on,.sl false 1 (Qg y.next)]
structure BlkD.cl (y:BlkD):Prop where
 i:y.ins.length≤2 ^ 38
 p:y.phis.length≤2 ^ 38
 n:y.next.length≤LIM
 ia:∀x∈y.ins,x.args.length≤LIM
 pa:∀x∈y.phis,x.args.length≤LIM
structure KBlk where
 y:BlkD
 pc:C
 pl:List (Nat×Obj)
def KBlk.row (b:KBlk):List C:=kRow b.y b.pc
def KBlk.ok (b:KBlk):Prop:=Gr b.pl 2 (Q0 b.y.phis) b.pc
theorem KBlk.noOw {b:KBlk}(h:b.ok):Go.AE.noOw b.row=true:=by
 have:=h.isOw
 simp only[Go.AE.noOw,KBlk.row,kRow,List.all_cons,List.all_nil,this];rfl
end Go.AE.Y

namespace Go.AE.Y
attribute [local go_sem] cond_true cond_false Bool.not_true Bool.not_false
open Go.Proofs.Tryz
variable {H H0 F:Heap}{K:V→Heap→Prop}{E L B pl:List (Nat×Obj)}
def keepK (ks:List Nat)(f:PhiD):Bool:=decide (f.to.toNat∈ks)
theorem Qa6m (l:List PhiD)(i:Nat)(x:PhiD):(Q0 l).set i x.cells=Q0 (l.set i x):=by simp[Q0,List.map_set]
end Go.AE.Y

namespace Go.AE.Y
open Go.Proofs.Tryz
attribute [local instance] Classical.propDecidable
variable {q:CodeD}
noncomputable def kpD (q:CodeD)(b:Nat):Nat→List InsD→List InsD
 |_,[]=>[]
 |k,x::l=>if Qbk4 q b k=true then kpD q b (k+1) l else x::kpD q b (k+1) l
theorem Qayl {b:Nat}:∀{l:List InsD} {k:Nat},(kpD q b k l).Sublist l
 |[],_=>.slnil
 |x::l,k=>by
  rw[kpD]
  split
  ·exact (Qayl).cons x
  ·exact (Qayl).cons_cons x
noncomputable def kpP (q:CodeD)(b:Nat)(l:List PhiD):List PhiD:=l.filter fun f=>decide (f.to.toNat∈Qbd4 q b 0)
noncomputable def Qblk (q:CodeD)(b:Nat)(y:BlkD):BlkD:={ y with phis:=kpP q b y.phis,ins:=kpD q b 0 y.ins }
noncomputable def Qit (q:CodeD):CodeD:={ q with blocks:=q.blocks.mapIdx (Qblk q) }
theorem Qbbg:(Qit q).blocks.length=q.blocks.length:=by simp[Qit]
theorem Qbf1 {b:Nat}(h:b<q.blocks.length)(h2:b<(Qit q).blocks.length):(Qit q).blocks[b]=Qblk q b q.blocks[b]:=by simp[Qit]
structure Shr (c d:CodeD):Prop where
 pr:d.params=c.params
 rg:d.regs=c.regs
 bl:d.blocks.length=c.blocks.length
 j:∀b (h1:b<c.blocks.length) (h2:b<d.blocks.length),d.blocks[b].jump=c.blocks[b].jump∧d.blocks[b].on=c.blocks[b].on∧d.blocks[b].next=c.blocks[b].next∧d.blocks[b].ins.Sublist c.blocks[b].ins∧d.blocks[b].phis.Sublist c.blocks[b].phis
theorem Shr.refl (c:CodeD):Shr c c:=⟨rfl,rfl,rfl,fun b h1 h2=>⟨rfl,rfl,rfl,.refl _,.refl _⟩⟩
theorem Shr.trans {c d e:CodeD}(h:Shr c d)(k:Shr d e):Shr c e:=⟨k.pr.trans h.pr,k.rg.trans h.rg,k.bl.trans h.bl,fun b h1 h2=>by
 have hd:b<d.blocks.length:=by rw[h.bl];exact h1
 obtain⟨a1,a2,a3,a4,a5⟩:=h.j b h1 hd
 obtain⟨b1,b2,b3,b4,b5⟩:=k.j b hd h2
 exact⟨b1.trans a1,b2.trans a2,b3.trans a3,b4.trans a4,b5.trans a5⟩⟩
theorem Qbf2:Shr q (Qit q):=⟨rfl,rfl,Qbbg,fun b h1 h2=>by
 rw[Qbf1 h1 h2]
 exact⟨rfl,rfl,rfl,Qayl,List.filter_sublist⟩⟩
theorem Shr.next {c d:CodeD}(h:Shr c d):d.blocks.map BlkD.next=c.blocks.map BlkD.next:=List.ext_getElem (by simp[h.bl]) fun b h1 h2=>by
 simp only[List.length_map]at h1 h2
 simp only[List.getElem_map]
 exact (h.j b h2 h1).2.2.1
theorem Shr.gnx {c d:CodeD}(h:Shr c d):gnx d=gnx c:=by funext i;rw[Y.gnx,Y.gnx,h.next]
theorem Shr.cnt {c d:CodeD}(h:Shr c d):Qve d≤Qve c∧(Qve d=Qve c→∀b (h1:b<c.blocks.length) (h2:b<d.blocks.length),d.blocks[b].ins.length=c.blocks[b].ins.length∧d.blocks[b].phis.length=c.blocks[b].phis.length):=by
 have key:∀m,m≤c.blocks.length→Qg7 Qzt (d.blocks.take m)≤Qg7 Qzt (c.blocks.take m)∧(Qg7 Qzt (d.blocks.take m)=Qg7 Qzt (c.blocks.take m)→∀b,b<m→∀(h1:b<c.blocks.length) (h2:b<d.blocks.length),d.blocks[b].ins.length=c.blocks[b].ins.length∧d.blocks[b].phis.length=c.blocks[b].phis.length):=fun m=>by
  induction m with
  |zero=>intro _;exact⟨by simp[Qg7],fun _ b hb=>absurd hb (by omega)⟩
  |succ m ih=>
   intro hm
   obtain⟨i1,i2⟩:=ih (by omega)
   have hc:m<c.blocks.length:=by omega
   have hd:m<d.blocks.length:=by rw[h.bl];exact hc
   obtain⟨_,_,_,s1,s2⟩:=h.j m hc hd
   have l1:=s1.length_le
   have l2:=s2.length_le
   rw[Qcl hc,Qcl hd,Qzt,Qzt]
   refine⟨by omega,fun he b hb h1 h2=>?_⟩
   by_cases hbm:b=m
   ·subst hbm;exact⟨by omega,by omega⟩
   ·exact i2 (by omega) b (by omega) h1 h2
 obtain⟨k1,k2⟩:=key _ (Nat.le_refl _)
 have e1:d.blocks.take c.blocks.length=d.blocks:=by rw[←h.bl,List.take_length]
 have e2:c.blocks.take c.blocks.length=c.blocks:=List.take_length
 rw[e1,e2]at k1 k2
 exact⟨k1,fun he b h1 h2=>k2 he b h1 h1 h2⟩
theorem Qbd5 {cs ds:List CodeD}{k b:Nat}{c d:CodeD}{y z:BlkD}(hr:rgOf ds k=rgOf cs k)(hp:∀n,pmOf ds n=pmOf cs n)(hcd:Shr c d)(hj:z.jump=y.jump∧z.on=y.on∧z.next=y.next∧z.ins.Sublist y.ins∧z.phis.Sublist y.phis)
  (g:blkG cs k b c y=true):blkG ds k b d z=true:=by
 obtain⟨j1,j2,j3,j4,j5⟩:=hj
 have hl:(Qn d.blocks).length=(Qn c.blocks).length:=by rw[Ql,Ql,hcd.bl]
 simp only[blkG,Bool.and_eq_true,List.all_eq_true]at g⊢
 obtain⟨⟨⟨gj,gn⟩,gi⟩,gp⟩:=g
 refine⟨⟨⟨?_,fun x hx=>?_⟩,fun x hx=>?_⟩,fun x hx=>?_⟩
 ·simpa only[Qq6,j1,j2,j3,hcd.rg]using gj
 ·rw[hl];exact gn x (by rw[←j3];exact hx)
 ·have:=gi x (j4.subset hx)
  simp only[insG,insL,hr,hp]at this⊢
  exact this
 ·have:=gp x (j5.subset hx)
  rw[hcd.rg,hcd.next,hl];exact this
theorem Qbg3 {cs ds:List CodeD}(hg:Qb0 cs=true)(hl:ds.length=cs.length)(h:∀k (h1:k<cs.length) (h2:k<ds.length),Shr cs[k] ds[k]):Qb0 ds=true:=by
 obtain⟨h1,h2,h3⟩:=of_decide_eq_true hg
 have hr:∀k,rgOf ds k=rgOf cs k:=fun k=>by
  by_cases hk:k<cs.length
  ·rw[Qabr hk,Qabr (by omega),(h k hk (by omega)).rg]
  ·simp[rgOf,List.getElem?_eq_none (show cs.length≤k by omega),List.getElem?_eq_none (show ds.length≤k by omega)]
 have hp:∀k,pmOf ds k=pmOf cs k:=fun k=>by
  by_cases hk:k<cs.length
  ·rw[Qaa5 hk,Qaa5 (by omega),(h k hk (by omega)).pr]
  ·simp[pmOf,List.getElem?_eq_none (show cs.length≤k by omega),List.getElem?_eq_none (show ds.length≤k by omega)]
 refine decide_eq_true ⟨by omega,fun k hk=>?_,?_⟩
 ·have hc:k<cs.length:=by omega
  have s:=h k hc hk
  obtain⟨g1,g2⟩:=h2 k hc
  refine⟨by simpa only[Qyk,s.pr,s.rg,s.bl]using g1,fun b hb=>?_⟩
  have hb':b<cs[k].blocks.length:=by rw[←s.bl];exact hb
  exact Qbd5 (hr k) hp s (s.j b hb' hb) (g2 b hb')
 ·have key:∀m,m≤cs.length→Qg7 Qve (ds.take m)≤Qg7 Qve (cs.take m):=fun m=>by
   induction m with
   |zero=>intro _;simp[Qg7]
   |succ m ih=>
    intro hm
    have i1:=ih (by omega)
    have hc:m<cs.length:=by omega
    have hd:m<ds.length:=by omega
    rw[Qcl hc,Qcl hd]
    have:=(h m hc hd).cnt.1
    omega
  have:=key _ (Nat.le_refl _)
  have e1:ds.take cs.length=ds:=by rw[←hl,List.take_length]
  rw[e1,List.take_length]at this
  omega
def flI (x:InsD):Option Nat×List Nat:=(Qblh x,toN x.args)
theorem Qazb {d:CodeD}(h:Qit d=d):∀n,Nat.repeat Qit n d=d
 |0=>rfl
 |n+1=>by rw[Nat.repeat,Qazb h n,h]
theorem Qaza (q:CodeD):∀n m,Nat.repeat Qit (m+n) q=Nat.repeat Qit m (Nat.repeat Qit n q)
 |n,0=>by rw[Nat.zero_add];rfl
 |n,m+1=>by rw[Nat.succ_add,Nat.repeat,Qaza q n m];rfl
theorem Qbf8 {n m:Nat}(h1:Qit (Nat.repeat Qit n q)=Nat.repeat Qit n q)(h2:Qit (Nat.repeat Qit m q)=Nat.repeat Qit m q):Nat.repeat Qit n q=Nat.repeat Qit m q:=by
 have a:=Qaza q n m
 have b:=Qaza q m n
 rw[Qazb h1 m]at a
 rw[Qazb h2 n]at b
 rw[←a,←b,Nat.add_comm]
theorem Shr.ok {c d:CodeD}(s:Shr c d)(ho:c.ok):d.ok:=by
 have hg:=s.gnx
 refine⟨by rw[s.rg];exact ho.r0,by rw[s.rg];exact ho.r1,by rw[s.bl];exact ho.b0,by rw[s.bl];exact ho.b1,fun b hb=>?_,fun b hb=>?_⟩
 ·have hb':b<c.blocks.length:=by rw[←s.bl];exact hb
  obtain⟨g1,g2,g3,g4,g5⟩:=s.j b hb' hb
  have o:=ho.bs b hb'
  have rr:∀v,rIn c v→rIn d v:=fun v hv=>by simp only[rIn,s.rg]at hv⊢;exact hv
  refine⟨by rw[g3];exact o.nxl,fun v hv=>?_,by rw[g1];exact o.jmp,fun hj=>?_,fun x hx v hv=>rr _ (o.args x (g4.subset hx) v hv),fun x hx hm=>rr _ (o.to x (g4.subset hx) hm),
   fun x hx=>rr _ (o.pto x (g5.subset hx)),fun x hx v hv=>rr _ (o.pargs x (g5.subset hx) v hv),fun x hx=>?_,fun x hx=>o.al x (g4.subset hx)⟩
  ·rw[g3]at hv;rw[s.bl];exact o.nx v hv
  ·rw[g1]at hj;rw[g2];exact rr _ (o.on hj)
  ·rw[hg,s.bl];exact o.pal x (g5.subset hx)
 ·have hb':b<c.blocks.length:=by rw[←s.bl];exact hb
  obtain⟨g1,g2,g3,g4,g5⟩:=s.j b hb' hb
  have o:=ho.il b hb'
  have:=g4.length_le
  have:=g5.length_le
  omega
def Idl (q d:CodeD):Prop:=∃n,d=Nat.repeat Qit n q∧Qit d=d
theorem Idl.uniq {d e:CodeD}(h:Idl q d)(k:Idl q e):d=e:=by
 obtain⟨n,rfl,h1⟩:=h
 obtain⟨m,rfl,h2⟩:=k
 exact Qbf8 h1 h2
theorem Qbbs:∀n,Shr q (Nat.repeat Qit n q)
 |0=>.refl q
 |n+1=>(Qbbs n).trans Qbf2
theorem Idl.shr {d:CodeD}(h:Idl q d):Shr q d:=by
 obtain⟨n,rfl,_⟩:=h
 exact Qbbs n
theorem Idl.again {d:CodeD}(h:Idl q d):Idl d d:=⟨0,rfl,h.choose_spec.2⟩
end Go.AE.Y

namespace Go.AE
variable {H0 H H':Heap}{E L B Lg:List (Nat×Obj)}
end Go.AE
namespace Go.AE.Y
attribute [local go_sem] cond_true cond_false Bool.not_true Bool.not_false
open Go.Proofs.Tryz
variable {H H0 F:Heap}{K:V→Heap→Prop}{E L B:List (Nat×Obj)}{q:CodeD}
structure DBlk where
 y:BlkD
 pc:C
 pl:List (Nat×Obj)
 ic:C
 il:List (Nat×Obj)
def DBlk.row (d:DBlk):List C:=[d.pc,d.ic,.int .i64 d.y.jump,.int .i64 d.y.on,.sl false 1 (Qg d.y.next)]
def DBlk.lg (d:DBlk):List (Nat×Obj):=d.pl++d.il
structure DBlk.ok (d:DBlk):Prop where
 p:Gw d.pl 2 (Q0 d.y.phis) d.pc
 i:Gr d.il 4 (Qa1 d.y.ins) d.ic
theorem Gw.frzM {Lg:List (Nat×Obj)}{S:Nat→Bool}{sz:Nat}{rows:List (List C)}{c:C}(h:Gw Lg sz rows c)(hm:∀p∈Lg,H p.1=p.2∧S p.1=true)(hr:∀r∈rows,noOw r=true):FrzC H S c (.sl false sz rows):=by
 rcases h with ⟨rfl,rfl,_⟩|⟨y,R,rfl,rfl,hR⟩
 ·exact FrzR.nil.sl
 ·have hle:rows.length≤R.length:=by
   have:=congrArg List.length hR
   rw[List.length_take]at this
   omega
  obtain⟨h1,h2⟩:=hm (y,.vec sz R) (by simp)
  have h:=FrzR.same (H:=H) (S:=S) hr
  exact .vsl y sz 0 _ R rows rows h2 h1 (by omega) (by simpa using hR.symm) h.spec.1 (fun i r r' h1 h2=>(h.spec.2 i r r' h1 h2).spec.1) fun i r r' j c c' h1 h2 h3 h4=>(h.spec.2 i r r' h1 h2).spec.2 j c c' h3 h4
theorem DBlk.frzR {S:Nat→Bool}:∀{ds:List DBlk},(∀d∈ds,d.ok)→(∀d∈ds,∀p∈d.lg,H p.1=p.2∧S p.1=true)→FrzR H S (ds.map DBlk.row) (Qn (ds.map DBlk.y))
 |[],_,_=>.nil
 |d::ds,h,hm=>.cons (.cons ((h d List.mem_cons_self).p.frzM (fun p hp=>hm d List.mem_cons_self p (List.mem_append_left _ hp)) (Qmx _))
   (.cons (Gr.frzM (h d List.mem_cons_self).i (fun p hp=>hm d List.mem_cons_self p (List.mem_append_right _ hp)) (FrzR.same (Qu5 _)))
   (.cons (Qd rfl) (.cons (Qd rfl) (.cons (Qayh (noOw_mem (Qt _))) .nil)))))
   (DBlk.frzR (fun d hd=>h d (List.mem_cons_of_mem _ hd)) fun d hd=>hm d (List.mem_cons_of_mem _ hd))
theorem CodeD.ok.fts (h:q.ok):q.fits:=fun y hy=>by
 obtain⟨b,hb,rfl⟩:=List.mem_iff_getElem.1 hy
 have:=h.il b hb
 omega
theorem CodeD.ok.cl (h:q.ok):∀y∈q.blocks,y.cl:=fun y hy=>by
 obtain⟨b,hb,rfl⟩:=List.mem_iff_getElem.1 hy
 have h1:=h.il b hb
 have h2:=h.bs b hb
 have h3:=h2.nxl
 have h4:=h.b1
 refine⟨by omega,by omega,by simp only[LIM];omega,fun x hx=>?_,fun x hx=>?_⟩
 ·have:=h2.al x hx;simp only[LIM];omega
 ·have:=h2.pal x hx
  have h5:=Qbk (gnx q) (b:Int) q.blocks.length
  simp only[LIM];omega
end Go.AE.Y

namespace Go.AE
variable {H0 H H':Heap}{E L B Lg:List (Nat×Obj)}{S:Nat→Bool}
theorem Kn.freeze0 (kn:Kn H0 H E (B++Lg)):∃S:Nat→Bool,(∀p∈Lg,H p.1=p.2∧S p.1=true)∧(∀p∈B,H p.1=p.2∧S p.1=false)∧FrzH H S (H.frz S)∧Kn H0 (H.frz S) E B:=by
 have hd:=kn.dL
 rw[List.map_append]at hd
 obtain⟨d1,d2,d3⟩:=List.nodup_append.1 hd
 have keyB:∀m,m∉Lg.map Prod.fst→(Lg.map Prod.fst).contains m=false:=fun m hm=>by
  cases hc:(Lg.map Prod.fst).contains m with
  |false=>rfl
  |true=>exact absurd (List.contains_iff_mem.1 hc) hm
 have key:∀m,m∉Lg.map Prod.fst→(H.frz fun m=>(Lg.map Prod.fst).contains m) m=H m:=fun m hm=>by
  simp only[Heap.frz,keyB m hm];rfl
 have hB:∀p∈B,p.1∉Lg.map Prod.fst:=fun p hp hh=>d3 _ (Qbz hp) _ hh rfl
 refine⟨fun m=>(Lg.map Prod.fst).contains m,fun p hp=>⟨(kn.get p (List.mem_append_right _ (List.mem_append_right _ hp))).1,List.contains_iff_mem.2 (Qbz hp)⟩,
  fun p hp=>⟨(kn.get p (List.mem_append_right _ (List.mem_append_left _ hp))).1,keyB _ (hB p hp)⟩,Qdf _ _,?_⟩
 refine⟨fun p hp=>?_,kn.ext,fun p hp=>kn.loc p (List.mem_append_left _ hp),kn.dE,d1,fun m hm hx=>?_⟩
 ·have hg:H p.1=p.2∧p.2≠.none:=kn.get p (by
   rcases List.mem_append.1 hp with h|h
   ·exact List.mem_append_left _ h
   ·exact List.mem_append_right _ (List.mem_append_left _ h))
  refine⟨?_,hg.2⟩
  rw[key p.1 (fun hh=>?_)];exact hg.1
  rcases List.mem_append.1 hp with h|h
  ·obtain⟨r,hr,he⟩:=List.mem_map.1 hh
   exact kn.ext p h (he▸kn.loc r (List.mem_append_right _ hr))
  ·exact hB p h hh
 ·rw[key m (fun hh=>?_)]
  ·exact kn.chg m hm hx
  ·obtain⟨r,hr,he⟩:=List.mem_map.1 hh
   exact hm (he▸kn.loc r (List.mem_append_right _ hr))
theorem Qao0 {e e':Env}(h:∀p∈e',FrzV H S (lk p.1 e) p.2):∀t,FrzV H S (lk t e) (lk t e'):=fun t=>by
 induction e' with
 |nil=>exact .unk _
 |cons p e' ih=>
  obtain⟨s,v⟩:=p
  by_cases ht:t=s
  ·subst ht
   have:=h (t,v) List.mem_cons_self
   simpa[lk]using this
  ·have:=ih fun p hp=>h p (List.mem_cons_of_mem _ hp)
   simpa[lk,ht]using this
theorem FrzO.vecR {sz:Nat}{rows rows':List (List C)}(h:Y.FrzR H S rows rows')(hn:∀r∈rows,noOw r=true):FrzO H S (.vec sz rows) (.vec sz rows'):=by
 refine .vec sz rows rows' h.spec.1 (fun i r r' h1 h2=>(h.spec.2 i r r' h1 h2).spec.1) fun i r r' j c c' h1 h2 h3 h4=>.inr ⟨?_,(h.spec.2 i r r' h1 h2).spec.2 j c c' h3 h4⟩
 exact Y.noOw_mem hn r (List.mem_of_getElem? h1) c (List.mem_of_getElem? h3)
end Go.AE
namespace Go.AE.Y
variable {H H0:Heap}{E L R B Lg:List (Nat×Obj)}{S:Nat→Bool}
theorem Qgx {α:Type}{f g:α→List C}:∀(l:List α),(∀x∈l,FrzL H S (f x) (g x))→FrzR H S (l.map f) (l.map g)
 |[],_=>.nil
 |x::l,h=>.cons (h x List.mem_cons_self) (Qgx l fun y hy=>h y (List.mem_cons_of_mem _ hy))
theorem Qa4e {is:List OIns}(h:Held H S (is.flatMap OIns.lg)):FrzR H S (is.map OIns.row) (Qa1 (is.map OIns.d)):=by
 rw[Qa1,List.map_map]
 exact Qgx is fun x hx=>x.frz (h.m hx)
theorem Qat0 {ph:List OPhi}(ho:∀p∈ph,p.ok)(h:Held H S (ph.flatMap OPhi.lg)):FrzR H S (ph.map OPhi.row) (Q0 (ph.map OPhi.d)):=by
 rw[Q0,List.map_map]
 exact Qgx ph fun x hx=>x.frz (ho x hx) (h.m hx)
theorem OBlk.gh {o:OBlk}(hok:o.ok){x8:Nat}(kn:Kn H0 H E ([(x8,.st o.row)]++(R++o.lg))) :
  ∃S H3 pl,FrzH H S H3∧Gr pl 2 (Q0 o.d.phis) o.pc∧Kn H0 H3 E ([(x8,.st (kRow o.d o.pc))]++(R++pl)):=by
 have kn:Kn H0 H E (([(x8,.st o.row)]++(o.pl++R))++(o.nx.lg++(o.phis.flatMap OPhi.lg++(o.ins.flatMap OIns.lg++o.il)))):=kn.perm (Qm fun f hf h0 hc hp=>by
  simp only[hf,OBlk.lg];omega)
 obtain⟨S,hS,hB,hfz,kn⟩:=kn.freeze0
 have hHd:Held H S (o.nx.lg++(o.phis.flatMap OPhi.lg++(o.ins.flatMap OIns.lg++o.il))):=hS
 have hic:=Gr.frzM hok.i hHd.r.r.r (Qa4e hHd.r.r.l)
 have hph:=Qat0 hok.a hHd.r.l
 have hnx:=o.nx.frz hHd.l
 have hx8:=hB (x8,.st o.row) (by simp)
 have f1:FrzH H S ((H.frz S).set x8 (.st (kRow o.d o.pc))):=hfz.set hx8.2 (by
  rw[hx8.1]
  exact FrzKL.st (.same (.cons hok.i.isOw hic (.same (.same (.cons rfl hnx .nil))))))
 have kn:=kn.setL (o':=.st (kRow o.d o.pc)) 0 rfl (by simp)
 have kn:Kn H0 ((H.frz S).set x8 (.st (kRow o.d o.pc))) E ([(x8,.st (kRow o.d o.pc))]++(o.pl++R)):=kn
 rcases hok.p with ⟨h1,h2,h3⟩|⟨z,h1,h2⟩
 ·have hph0:o.phis=[]:=List.map_eq_nil_iff.1 h2
  refine⟨S,_,[],f1,?_,by rw[h3]at kn;simpa using kn⟩
  rw[h1];simp only[OBlk.d,hph0,List.map_nil];exact .nil 2
 ·rw[h2]at kn
  have hz:=hB (z,.vec 2 (o.phis.map OPhi.row)) (by rw[h2];simp)
  have hno:∀r∈o.phis.map OPhi.row,Go.AE.noOw r=true:=fun r hr=>by
   obtain⟨p,hp,rfl⟩:=List.mem_map.1 hr
   exact p.noOw (hok.a p hp)
  refine⟨S,_,[(z,.vec 2 (Q0 o.d.phis))],f1.set (o:=.vec 2 (Q0 o.d.phis)) hz.2 (by rw[hz.1];exact .vecR hph hno),?_,?_⟩
  ·rw[h1];exact .mk _ _ _ (by simp[OBlk.d,Qy])
  ·have kn:=kn.setL (o':=.vec 2 (Q0 o.d.phis)) 1 rfl (by simp)
   exact kn.perm (Qm fun f hf h0 hc hp=>by
    show f ([(x8,_)]++([(z,_)]++R))=_
    simp only[hf];omega)
def Qbs (q:CodeD)(b:Nat):BlkD:=q.blocks.getD b ⟨[],[],0,0,[]⟩
theorem Qcm {q:CodeD}{b:Nat}(h:b<q.blocks.length):Qbs q b=q.blocks[b]:=by simp[Qbs,List.getD_eq_getElem?_getD,h]
theorem Qbk0 {q:CodeD}{b:Nat}(h:b<q.blocks.length):gnx q b=(Qbs q b).next:=by rw[Qcm h,Qk2 h]
structure Pk (q:CodeD)(l:List Nat):Prop where
 n:l.length≤160
 z:l[0]? = some 0
 lt:∀x∈l,x<q.blocks.length
 cl:∀x∈l,∀v∈gnx q x,v.toNat∈l
def pkY (q:CodeD)(P:List Int)(b:Nat):BlkD:=⟨(Qbs q b).phis,(Qbs q b).ins,(Qbs q b).jump,(Qbs q b).on,(Qbs q b).next.map fun v=>P.getD v.toNat 0⟩
def pkN (q:CodeD)(P:List Int)(l:List Nat):Nat→List Int:=fun i=>(l.map fun b=>(pkY q P b).next).getD i []
structure PkB (q:CodeD)(P:List Int)(b:Nat)(y:BlkD):Prop where
 j:y.jump=(Qbs q b).jump
 o:y.on=(Qbs q b).on
 i:y.ins=(Qbs q b).ins
 n:y.next=(pkY q P b).next
 t:y.phis.map PhiD.to=(Qbs q b).phis.map PhiD.to
def PkA (q:CodeD)(P:List Int)(l:List Nat)(j:Nat)(p:PhiD):Prop:=p.args.length=(Q1 (pkN q P l) (j:Int) l.length).length∧∀v∈p.args,rIn q v
structure PkR (q d:CodeD):Prop where
 ok:d.ok
 p:d.params=q.params
 r:d.regs=q.regs
 i:∀y∈d.blocks,∃y0∈q.blocks,y.ins=y0.ins∧y.phis.length=y0.phis.length
variable {q:CodeD}{P:List Int}{l:List Nat}
theorem Pk.get (hp:Pk q l){j:Nat}(hj:j<l.length):l.getD j 0=l[j]∧l[j]∈l∧l[j]<q.blocks.length:=
 ⟨by simp[List.getD_eq_getElem?_getD,hj],List.getElem_mem hj,hp.lt _ (List.getElem_mem hj)⟩
theorem Pk.to (ho:q.ok)(hp:Pk q l)(hP:Qbmh q.blocks.length l P){b:Nat}(hb:b∈l){w:Int}(hw:w∈(Qbs q b).next):1≤w∧w.toNat<P.length∧∃i,∃h:i<l.length,l[i]=w.toNat∧P.getD w.toNat 0=(i:Int)∧1≤i:=by
 have hlt:=hp.lt b hb
 have h1:1≤w∧w<q.blocks.length:=by
  rw[Qcm hlt]at hw
  exact (ho.bs b hlt).nx w hw
 have h2:=hp.cl b hb w (by rw[Qbk0 hlt];exact hw)
 obtain⟨i,hi,h3,h4⟩:=hP.2 _ h2
 refine⟨h1.1,by rw[hP.1];exact hp.lt _ h2,i,hi,h3,h4,?_⟩
 have hz:=hp.z
 by_cases h0:i=0
 ·subst h0
  rw[List.getElem?_eq_getElem hi,h3]at hz
  have:=Option.some.inj hz
  omega
 ·omega
theorem CodeD.ok.sg (h:q.ok):q.sg:=⟨by have:=h.b1;omega,fun y hy=>by
 obtain⟨b,hb,rfl⟩:=List.mem_iff_getElem.1 hy
 have h1:=h.il b hb
 have h2:=h.bs b hb
 have h3:=h2.nxl
 have h4:=h.b1
 refine⟨by omega,by omega,by omega,fun x hx=>by have:=h2.al x hx;omega,fun x hx=>?_⟩
 have:=h2.pal x hx
 have h5:=Qbk (gnx q) (b:Int) q.blocks.length
 omega⟩
end Go.AE.Y

namespace Go.AE.Y
def mix {α:Type}(f:α→α)(is:List α)(k:Nat):List α:=(is.take k).map f++is.drop k
theorem Qaa2 {α:Type}(f:α→α)(is:List α)(k:Nat):(mix f is k).length=is.length:=by
 simp only[mix,List.length_append,List.length_map,List.length_take,List.length_drop];omega
theorem Qa4n {α:Type}{f:α→α}{is:List α}{i:Nat}(h:i<is.length)(h2:i<(mix f is i).length):(mix f is i)[i]=is[i]:=by
 have hl:((is.take i).map f).length=i:=by rw[List.length_map,List.length_take];omega
 simp only[mix]
 rw[List.getElem_append_right (by omega)]
 simp only[hl,Nat.sub_self,List.getElem_drop,Nat.add_zero]
theorem Qapq {α:Type}{f:α→α}{is:List α}{i:Nat}(h:i<is.length):(mix f is i).set i (f is[i])=mix f is (i+1):=by
 have hl:((is.take i).map f).length=i:=by rw[List.length_map,List.length_take];omega
 rw[mix,mix,List.set_append_right _ _ (by omega),hl,Nat.sub_self,List.drop_eq_getElem_cons h,List.set_cons_zero,List.take_succ_eq_append_getElem h,List.map_append,List.append_assoc]
 rfl
theorem Q9q {α:Type}(f:α→α)(is:List α):mix f is 0=is:=by simp[mix]
theorem Qaa1 {α:Type}(f:α→α)(is:List α){i:Nat}(h:is.length≤i):mix f is i=is.map f:=by
 rw[mix,List.take_of_length_le h,List.drop_of_length_le h,List.append_nil]
def twoB (ns:List Int):Bool:=ns.any fun v=>v != ns.headD 0
def shV (nx:Nat→List Int)(n b:Nat)(v:Int):Bool:=twoB (nx b)&&decide (1<(Q1 nx v n).length)
def shL (nx:Nat→List Int)(n b:Nat):List Int:=(nx b).filter (shV nx n b)
def Qbm (nx:Nat→List Int)(n m:Nat):List (Nat×Int):=(List.range m).flatMap fun b=>(shL nx n b).map fun v=>(b,v)
def Qz6 (nx:Nat→List Int)(n b:Nat):Nat:=n+(Qbm nx n b).length
def spV (nx:Nat→List Int)(n b:Nat)(v:Int):Int:=if shV nx n b v=true then ((Qz6 nx n b+(shL nx n b).idxOf v:Nat):Int)else v
def spX (nx:Nat→List Int)(n b:Nat):List Int:=if b<n then (nx b).map (spV nx n b)else match (Qbm nx n n)[b-n]? with
 |some e=>[e.2]
 |none=>[]
def org (nx:Nat→List Int)(n j:Nat):Nat:=if j<n then j else match (Qbm nx n n)[j-n]? with
 |some e=>e.1
 |none=>0
structure SpF (nx:Nat→List Int)(n:Nat):Prop where
 len:∀b,b<n→(nx b).length≤2
 rng:∀b,b<n→∀v∈nx b,1≤v∧v<n
theorem Qmd {ns:List Int}(h:ns.length≤2):(twoB ns=true→∃a c,ns=[a,c]∧a≠c)∧(twoB ns=false→ns=[]∨∃a,ns=[a]∨ns=[a,a]):=by
 match ns with
 |[]=>simp[twoB]
 |[a]=>simp[twoB]
 |[a,c]=>
  simp only[twoB,List.any_cons,List.any_nil,List.headD_cons]
  by_cases h:c=a
  ·subst h;simp
  ·refine⟨fun _=>⟨a,c,rfl,fun e=>h e.symm⟩,fun hh=>?_⟩
   simp[h]at hh
 |_::_::_::_=>simp only[List.length_cons]at h;omega
variable {nx:Nat→List Int}{n:Nat}
theorem SpF.nd (F:SpF nx n){b:Nat}(hb:b<n):(shL nx n b).Nodup:=by
 cases ht:twoB (nx b)with
 |true=>
  obtain⟨a,c,e,hne⟩:=(Qmd (F.len b hb)).1 ht
  refine List.Nodup.sublist List.filter_sublist ?_
  rw[e];simp[hne]
 |false=>
  have:shL nx n b=[]:=by
   rw[shL,List.filter_eq_nil_iff]
   intro v _;simp[shV,ht]
  rw[this];exact List.nodup_nil
theorem Qq9 (m:Nat):Qbm nx n (m+1)=Qbm nx n m++(shL nx n m).map fun v=>(m,v):=by
 simp[Qbm,List.range_succ,List.flatMap_append]
theorem mem_newL {m b:Nat}{v:Int}:(b,v)∈Qbm nx n m↔b<m∧v∈nx b∧shV nx n b v=true:=by
 simp only[Qbm,List.mem_flatMap,List.mem_range,List.mem_map,shL,List.mem_filter,Prod.mk.injEq]
 constructor
 ·rintro⟨b',h1,v',⟨h2,h3⟩,rfl,rfl⟩;exact⟨h1,h2,h3⟩
 ·rintro⟨h1,h2,h3⟩;exact⟨b,h1,v,⟨h2,h3⟩,rfl,rfl⟩
theorem SpF.newNd (F:SpF nx n):∀{m:Nat},m≤n→(Qbm nx n m).Nodup
 |0,_=>by simp[Qbm]
 |m+1,h=>by
  rw[Qq9,List.nodup_append]
  refine⟨F.newNd (by omega),?_,?_⟩
  ·rw[List.nodup_iff_pairwise_ne,List.pairwise_map]
   exact List.Pairwise.imp (fun hne he=>hne (Prod.mk.inj he).2) (F.nd (b:=m) (by omega))
  ·rintro⟨b,v⟩ h1 ⟨b',v'⟩ h2 he
   have h3:=(mem_newL.1 h1).1
   obtain⟨w,_,h4⟩:=List.mem_map.1 h2
   cases he;cases h4;omega
theorem Qapr {b i:Nat}(hi:i<(shL nx n b).length):∀{m:Nat},b<m→(Qbm nx n m)[(Qbm nx n b).length+i]? = some (b,(shL nx n b)[i])
 |0,h=>by omega
 |m+1,h=>by
  rw[Qq9]
  by_cases hb:b=m
  ·subst hb
   rw[List.getElem?_append_right (by omega)]
   simp[hi]
  ·have ih:=Qapr (m:=m) hi (by omega)
   have hl:(Qbm nx n b).length+i<(Qbm nx n m).length:=by
    rcases Nat.lt_or_ge ((Qbm nx n b).length+i) (Qbm nx n m).length with h|h
    ·exact h
    ·rw[List.getElem?_eq_none h]at ih;simp at ih
   rw[List.getElem?_append_left hl];exact ih
theorem Qaho {b:Nat}{v:Int}(hb:b<n)(hv:v∈nx b)(hs:shV nx n b v=true):∃i,(Qbm nx n n)[i]? = some (b,v)∧spV nx n b v=((n+i:Nat):Int)∧i=(Qbm nx n b).length+(shL nx n b).idxOf v:=by
 have hm:v∈shL nx n b:=List.mem_filter.2 ⟨hv,hs⟩
 have hi:=List.idxOf_lt_length_of_mem hm
 refine⟨_,?_,?_,rfl⟩
 ·rw[Qapr hi hb];simp
 ·rw[spV,if_pos hs,Qz6,Nat.add_assoc]
theorem Qay2 (F:SpF nx n){i j:Nat}{e:Nat×Int}(h1:(Qbm nx n n)[i]? = some e)(h2:(Qbm nx n n)[j]? = some e):i=j:=by
 obtain⟨hi,e1⟩:=List.getElem?_eq_some_iff.1 h1
 obtain⟨hj,e2⟩:=List.getElem?_eq_some_iff.1 h2
 have nd:=F.newNd (Nat.le_refl n)
 exact (List.getElem_inj nd).1 (e1.trans e2.symm)
theorem Qin {j:Nat}(h:n≤j):spX nx n j=match (Qbm nx n n)[j-n]? with
 |some e=>[e.2]
 |none=>[]:=by rw[spX,if_neg (by omega)]
theorem Qbhv (F:SpF nx n){i p:Nat}{e:Nat×Int}(h:(Qbm nx n n)[i]? = some e):((n+i:Nat):Int)∈spX nx n p↔p=e.1:=by
 obtain⟨b,v⟩:=e
 obtain⟨hb,hv,hs⟩:=mem_newL.1 (List.mem_of_getElem? h)
 by_cases hp:p<n
 ·rw[spX,if_pos hp,List.mem_map]
  constructor
  ·rintro⟨w,hw,he⟩
   cases hsw:shV nx n p w with
   |true=>
    obtain⟨i',h1,h2,_⟩:=Qaho hp hw hsw
    rw[h2]at he
    have:i'=i:=by omega
    subst this
    rw[h]at h1
    have:=Option.some.inj h1
    simp only[Prod.mk.injEq]at this
    exact this.1.symm
   |false=>
    rw[spV,if_neg (by simp[hsw])]at he
    have:=(F.rng p hp w hw).2
    omega
  ·rintro rfl
   obtain⟨i',h1,h2,_⟩:=Qaho hb hv hs
   exact⟨v,hv,by rw[h2,Qay2 F h1 h]⟩
 ·constructor
  ·intro hm
   rw[Qin (by omega)]at hm
   split at hm
   ·rename_i e he
    obtain⟨b',v'⟩:=e
    obtain⟨hb',hv',_⟩:=mem_newL.1 (List.mem_of_getElem? he)
    have:=(F.rng b' hb' v' hv').2
    simp only[List.mem_singleton]at hm
    omega
   ·simp at hm
  ·rintro rfl;exact absurd hb hp
theorem Qano {f:Nat→Bool}{p:Nat}:∀{N:Nat},p<N→(∀x,x<N→(f x=true↔x=p))→(List.range N).filter f=[p]
 |0,h,_=>by omega
 |N+1,h,hf=>by
  rw[List.range_succ,List.filter_append]
  by_cases hp:p=N
  ·subst hp
   have h1:(List.range p).filter f=[]:=by
    rw[List.filter_eq_nil_iff]
    intro x hx
    rw[List.mem_range]at hx
    rw[hf x (by omega)];omega
   have h2:f p=true:=(hf p (by omega)).2 rfl
   rw[h1];simp[h2]
  ·have h2:¬f N=true:=by rw[hf N (by omega)];omega
   rw[Qano (p:=p) (N:=N) (by omega) fun x hx=>hf x (by omega)]
   simp[h2]
theorem Qat2 (F:SpF nx n){i:Nat}{e:Nat×Int}(h:(Qbm nx n n)[i]? = some e):Q1 (spX nx n) ((n+i:Nat):Int) (Qz6 nx n n)=[(e.1:Int)]:=by
 have hb:=(mem_newL.1 (List.mem_of_getElem? (a:=(e.1,e.2)) h)).1
 rw[Q1,Qano (p:=e.1) (by rw[Qz6];omega) fun x hx=>by rw[List.contains_iff_mem];exact Qbhv F h]
 rfl
theorem Qahp (F:SpF nx n){j t:Nat}(ht:t<n):(t:Int)∈spX nx n j↔(j<n∧(t:Int)∈nx j∧shV nx n j t=false)∨(n≤j∧∃p,(Qbm nx n n)[j-n]? = some (p,(t:Int))):=by
 by_cases hj:j<n
 ·rw[spX,if_pos hj,List.mem_map]
  constructor
  ·rintro⟨w,hw,he⟩
   cases hsw:shV nx n j w with
   |true=>
    obtain⟨i',h1,h2,_⟩:=Qaho hj hw hsw
    rw[h2]at he;omega
   |false=>
    rw[spV,if_neg (by simp[hsw])]at he
    subst he
    exact .inl ⟨hj,hw,hsw⟩
  ·rintro (⟨_,h1,h2⟩|⟨h1,_⟩)
   ·exact⟨t,h1,by rw[spV,if_neg (by simp[h2])]⟩
   ·omega
 ·rw[Qin (by omega)]
  constructor
  ·intro hm
   split at hm
   ·rename_i e he
    simp only[List.mem_singleton]at hm
    exact .inr ⟨by omega,e.1,by rw[he,hm]⟩
   ·simp at hm
  ·rintro (⟨h1,_⟩|⟨_,p,h1⟩)
   ·omega
   ·rw[h1];simp
theorem Qbbh (F:SpF nx n){j t:Nat}(ht:t<n)(h:(t:Int)∈spX nx n j):org nx n j<n∧(t:Int)∈nx (org nx n j):=by
 rcases (Qahp F ht).1 h with ⟨h1,h2,_⟩|⟨h1,p,h2⟩
 ·rw[org,if_pos h1];exact⟨h1,h2⟩
 ·rw[org,if_neg (by omega),h2]
  obtain⟨a,b,_⟩:=mem_newL.1 (List.mem_of_getElem? h2)
  exact⟨a,b⟩
theorem Qbjo (F:SpF nx n){j j' t:Nat}(ht:t<n)(h:(t:Int)∈spX nx n j)(h':(t:Int)∈spX nx n j')(he:org nx n j=org nx n j'):j=j':=by
 rcases (Qahp F ht).1 h with ⟨h1,h2,h3⟩|⟨h1,p,h2⟩ <;> rcases (Qahp F ht).1 h' with ⟨g1,g2,g3⟩|⟨g1,p',g2⟩
 ·rw[org,if_pos h1,org,if_pos g1]at he;exact he
 ·rw[org,if_pos h1,org,if_neg (by omega),g2]at he
  have:=(mem_newL.1 (List.mem_of_getElem? g2)).2.2
  simp only at he
  subst he
  rw[h3]at this;simp at this
 ·rw[org,if_neg (by omega),h2,org,if_pos g1]at he
  have:=(mem_newL.1 (List.mem_of_getElem? h2)).2.2
  simp only at he
  subst he
  rw[g3]at this;simp at this
 ·rw[org,if_neg (by omega),h2,org,if_neg (by omega),g2]at he
  simp only at he
  subst he
  have:=Qay2 F h2 g2
  omega
theorem Qbf7 (F:SpF nx n){t:Nat}(ht:t<n):(Q1 (spX nx n) (t:Int) (Qz6 nx n n)).length≤(Q1 nx (t:Int) n).length:=by
 simp only[Q1,List.length_map]
 have hm:∀x∈(List.range (Qz6 nx n n)).filter (fun i=>(spX nx n i).contains (t:Int)),(t:Int)∈spX nx n x:=fun x hx=>List.contains_iff_mem.1 (List.mem_filter.1 hx).2
 have nd:((List.range (Qz6 nx n n)).filter (fun i=>(spX nx n i).contains (t:Int))).Nodup:=List.Nodup.sublist List.filter_sublist List.nodup_range
 have nd2:(((List.range (Qz6 nx n n)).filter (fun i=>(spX nx n i).contains (t:Int))).map (org nx n)).Nodup:=by
  rw[List.nodup_iff_pairwise_ne,List.pairwise_map]
  exact List.Pairwise.imp_of_mem (fun hx hy hne he=>hne (Qbjo F ht (hm _ hx) (hm _ hy) he)) nd
 have:=Qgy nd2 (b:=(List.range n).filter fun i=>(nx i).contains (t:Int)) fun x hx=>by
  obtain⟨j,hj,rfl⟩:=List.mem_map.1 hx
  obtain⟨h1,h2⟩:=Qbbh F ht (hm j hj)
  exact List.mem_filter.2 ⟨List.mem_range.2 h1,List.contains_iff_mem.2 h2⟩
 rw[List.length_map]at this;exact this
theorem Qbdh (F:SpF nx n){b:Nat}{v:Int}(hv:v∈spX nx n b):shV (spX nx n) (Qz6 nx n n) b v=false:=by
 by_cases hb:b<n
 ·have e:spX nx n b=(nx b).map (spV nx n b):=by rw[spX,if_pos hb]
  have hv0:=hv
  rw[e]at hv
  obtain⟨w,hw,rfl⟩:=List.mem_map.1 hv
  cases hs:shV nx n b w with
  |true=>
   obtain⟨i,h1,h2,_⟩:=Qaho hb hw hs
   rw[h2,shV,Qat2 F h1]
   simp
  |false=>
   have hw2:=F.rng b hb w hw
   rw[spV,if_neg (by simp[hs])]
   rw[shV,Bool.and_eq_false_iff]at hs⊢
   rcases hs with hs|hs
   ·refine .inl ?_
    rw[e]
    rcases (Qmd (F.len b hb)).2 hs with h|⟨a,h|h⟩ <;> simp[h,twoB]
   ·refine .inr ?_
    have:=Qbf7 F (t:=w.toNat) (by omega)
    have hwe:((w.toNat:Nat):Int)=w:=by omega
    rw[hwe]at this
    have h3:=of_decide_eq_false hs
    exact decide_eq_false (by omega)
 ·rw[shV,Bool.and_eq_false_iff]
  refine .inl ?_
  rw[Qin (by omega)]
  split <;> simp[twoB]
theorem Qbbc (h:∀b,b<n→∀v∈nx b,shV nx n b v=false):∀m,m≤n→Qbm nx n m=[]:=fun m hm=>by
 rw[List.eq_nil_iff_forall_not_mem]
 rintro⟨b,v⟩ hh
 obtain⟨h1,h2,h3⟩:=mem_newL.1 hh
 rw[h b (by omega) v h2]at h3;simp at h3
theorem Qbg6 (h:∀b,b<n→∀v∈nx b,shV nx n b v=false)(h0:∀b,n≤b→nx b=[]):spX nx n=nx:=by
 funext b
 by_cases hb:b<n
 ·rw[spX,if_pos hb]
  have:(nx b).map (spV nx n b)=(nx b).map id:=List.map_congr_left fun v hv=>by rw[spV,if_neg (by simp[h b hb v hv])];rfl
  rw[this,List.map_id]
 ·rw[Qin (by omega),Qbbc h n (Nat.le_refl n),h0 b (by omega)];simp
theorem Qbl4 (F:SpF nx n):SpF (spX nx n) (Qz6 nx n n):=by
 refine⟨fun b _=>?_,fun b _ v hv=>?_⟩
 ·by_cases hb:b<n
  ·rw[spX,if_pos hb,List.length_map];exact F.len b hb
  ·rw[Qin (by omega)];split <;> simp
 ·by_cases hb:b<n
  ·rw[spX,if_pos hb]at hv
   obtain⟨w,hw,rfl⟩:=List.mem_map.1 hv
   have h1:=F.rng b hb w hw
   cases hs:shV nx n b w with
   |true=>
    obtain⟨i,h2,h3,_⟩:=Qaho hb hw hs
    obtain⟨hi,_⟩:=List.getElem?_eq_some_iff.1 h2
    rw[h3,Qz6];omega
   |false=>rw[spV,if_neg (by simp[hs]),Qz6];omega
  ·rw[Qin (by omega)]at hv
   split at hv
   ·rename_i e he
    obtain⟨b',v'⟩:=e
    obtain⟨h1,h2,_⟩:=mem_newL.1 (List.mem_of_getElem? he)
    have:=F.rng b' h1 v' h2
    simp only[List.mem_singleton]at hv
    subst hv
    rw[Qz6];omega
   ·simp at hv
theorem Qbjk {l:List Int}(hl:l.Nodup){aa:List Int}(h:aa.length=l.length):l.map (fun w=>aa.getD (l.idxOf w) 0)=aa:=by
 refine List.ext_getElem (by rw[List.length_map,h]) fun i h1 h2=>?_
 have hi:i<l.length:=by rw[List.length_map]at h1;exact h1
 rw[List.getElem_map]
 have:l.idxOf l[i]=i:=List.Nodup.idxOf_getElem hl i hi
 rw[this,List.getD_eq_getElem?_getD,List.getElem?_eq_getElem h2];rfl
theorem Qa4s (nx:Nat→List Int)(b:Int)(n:Nat):(Q1 nx b n).Nodup:=by
 rw[Q1,List.nodup_iff_pairwise_ne,List.pairwise_map]
 exact List.Pairwise.imp (fun hne he=>hne (Int.ofNat.inj he)) (List.Nodup.sublist List.filter_sublist List.nodup_range)
theorem preds_mem {nx:Nat→List Int}{b w:Int}{n:Nat}:w∈Q1 nx b n↔∃j:Nat,j<n∧b∈nx j∧w=j:=by
 simp only[Q1,List.mem_map,List.mem_filter,List.mem_range,List.contains_iff_mem]
 constructor
 ·rintro⟨j,⟨h1,h2⟩,rfl⟩;exact⟨j,h1,h2,rfl⟩
 ·rintro⟨j,h1,h2,rfl⟩;exact⟨j,⟨h1,h2⟩,rfl⟩
def spA (q:CodeD)(b:Nat)(aa:List Int):List Int:=(Q1 (spX (gnx q) q.blocks.length) (b:Int) (Qz6 (gnx q) q.blocks.length q.blocks.length)).map fun w=>aa.getD ((Q1 (gnx q) (b:Int) q.blocks.length).idxOf ((org (gnx q) q.blocks.length w.toNat:Nat):Int)) 0
def spP (q:CodeD)(b:Nat)(p:PhiD):PhiD:=⟨p.to,spA q b p.args⟩
def spB (q:CodeD)(b:Nat):BlkD:=⟨(Qbs q b).phis.map (spP q b),(Qbs q b).ins,(Qbs q b).jump,(Qbs q b).on,spX (gnx q) q.blocks.length b⟩
def goB (v:Int):BlkD:=⟨[],[],1,0,[v]⟩
def spD (q:CodeD):CodeD:=⟨q.params,q.regs,(List.range q.blocks.length).map (spB q)++(Qbm (gnx q) q.blocks.length q.blocks.length).map fun e=>goB e.2⟩
theorem Qdl (q:CodeD):(spD q).blocks.length=Qz6 (gnx q) q.blocks.length q.blocks.length:=by simp[spD,Qz6]
theorem Qa42 {q:CodeD}{b:Nat}(h:b<q.blocks.length):(spD q).blocks[b]? = some (spB q b):=by
 rw[spD];simp only
 rw[List.getElem?_append_left (by simpa using h)];simp[h]
theorem Qbdf {q:CodeD}{b:Nat}(h:q.blocks.length≤b):(spD q).blocks[b]? = ((Qbm (gnx q) q.blocks.length q.blocks.length)[b-q.blocks.length]?).map fun e=>goB e.2:=by
 rw[spD];simp only
 rw[List.getElem?_append_right (by simpa using h)];simp
theorem Qans (q:CodeD):gnx (spD q)=spX (gnx q) q.blocks.length:=by
 funext b
 rw[gnx,List.getD_eq_getElem?_getD,List.getElem?_map]
 by_cases hb:b<q.blocks.length
 ·rw[Qa42 hb];rfl
 ·rw[Qbdf (by omega),Qin (by omega)]
  cases (Qbm (gnx q) q.blocks.length q.blocks.length)[b-q.blocks.length]? <;> rfl
def palB (q:CodeD):Prop:=∀b (h:b<q.blocks.length),∀p∈(q.blocks[b]'h).phis,p.args.length=(Q1 (gnx q) (b:Int) q.blocks.length).length
theorem Qblm (q:CodeD):palB (spD q):=fun b h p hp=>by
 rw[Qans,Qdl]
 by_cases hb:b<q.blocks.length
 ·have:=Qa42 hb
  rw[List.getElem?_eq_getElem h]at this
  rw[Option.some.inj this]at hp
  obtain⟨p0,_,rfl⟩:=List.mem_map.1 hp
  rw[spP,spA,List.length_map]
 ·have:=Qbdf (q:=q) (b:=b) (by omega)
  rw[List.getElem?_eq_getElem h]at this
  obtain⟨e,_,he⟩:=Option.map_eq_some_iff.1 this.symm
  rw[←he]at hp;simp[goB]at hp
theorem Qbiq {q:CodeD}{b:Nat}(h:q.blocks.length≤b):gnx q b=[]:=by
 rw[gnx,List.getD_eq_getElem?_getD,List.getElem?_eq_none (by simpa using h)];rfl
theorem Qbj3 {q:CodeD}(hp:palB q)(h:∀b,b<q.blocks.length→∀v∈gnx q b,shV (gnx q) q.blocks.length b v=false):spD q=q:=by
 have hnl:=Qbbc h _ (Nat.le_refl _)
 have hof:Qz6 (gnx q) q.blocks.length q.blocks.length=q.blocks.length:=by rw[Qz6,hnl];simp
 have hx:=Qbg6 h fun b hb=>Qbiq hb
 have hblk:(spD q).blocks=q.blocks:=by
  refine List.ext_getElem (by rw[Qdl,hof]) fun b h1 h2=>?_
  have e:=Qa42 h2
  rw[List.getElem?_eq_getElem h1]at e
  rw[Option.some.inj e,spB,Qcm h2,hx,Qk2 h2]
  have:(q.blocks[b]).phis.map (spP q b)=q.blocks[b].phis:=by
   refine (List.map_congr_left (g:=id) fun p hpm=>?_).trans (List.map_id _)
   rw[spP,spA,hx,hof]
   have e1:(Q1 (gnx q) (b:Int) q.blocks.length).map (fun w=>p.args.getD ((Q1 (gnx q) (b:Int) q.blocks.length).idxOf ((org (gnx q) q.blocks.length w.toNat:Nat):Int)) 0)=p.args:=by
    refine Eq.trans (List.map_congr_left fun w hw=>?_) (Qbjk (Qa4s _ _ _) (hp b h2 p hpm))
    obtain⟨j,hj,_,rfl⟩:=preds_mem.1 hw
    rw[org,if_pos (by simpa using hj)];rfl
   rw[e1];rfl
  rw[this]
 cases q;simp only[spD]at hblk⊢;rw[hblk]
theorem Qbg7 {q:CodeD}(F:SpF (gnx q) q.blocks.length):spD (spD q)=spD q:=by
 refine Qbj3 (Qblm q) fun b _ v hv=>?_
 rw[Qans,Qdl]
 rw[Qans]at hv
 exact Qbdh F hv
def hasS (q:CodeD):Bool:=(List.range q.blocks.length).any fun b=>(gnx q b).any (shV (gnx q) q.blocks.length b)
theorem Qbem (q:CodeD):hasS q=decide (q.blocks.length<(spD q).blocks.length):=by
 rw[Bool.eq_iff_iff,decide_eq_true_eq,Qdl,Qz6]
 simp only[hasS,List.any_eq_true,List.mem_range]
 constructor
 ·rintro⟨b,h1,v,h2,h3⟩
  have:=mem_newL.2 ⟨h1,h2,h3⟩
  have:=List.length_pos_of_mem this
  omega
 ·intro h
  have:0<(Qbm (gnx q) q.blocks.length q.blocks.length).length:=by omega
  obtain⟨⟨b,v⟩,hm⟩:=List.exists_mem_of_length_pos this
  obtain⟨h1,h2,h3⟩:=mem_newL.1 hm
  exact⟨b,h1,v,h2,h3⟩
theorem Qbir {q:CodeD}(F:SpF (gnx q) q.blocks.length):hasS (spD q)=false:=by
 rw[Bool.eq_false_iff]
 simp only[hasS,ne_eq,List.any_eq_true,List.mem_range,not_exists,not_and]
 intro b _ v hv hs
 rw[Qans,Qdl]at hs
 rw[Qans]at hv
 rw[Qbdh F hv]at hs;simp at hs
theorem Qbl7 {f:BlkD→Nat}(hf:∀v,f (goB v)=0)(q:CodeD)(hb:∀b,b<q.blocks.length→f (spB q b)=f (Qbs q b)):((spD q).blocks.map f).sum=(q.blocks.map f).sum:=by
 have h1:((Qbm (gnx q) q.blocks.length q.blocks.length).map fun e=>f (goB e.2)).sum=0:=by
  simp only[hf]
  generalize Qbm (gnx q) q.blocks.length q.blocks.length=l
  induction l with
  |nil=>rfl
  |cons e l ih=>rw[List.map_cons,List.sum_cons,ih]
 have h2:(List.range q.blocks.length).map (fun b=>f (spB q b))=q.blocks.map f:=by
  refine List.ext_getElem (by simp) fun i h3 h4=>?_
  have hi:i<q.blocks.length:=by simpa using h3
  simp only[List.getElem_map,List.getElem_range]
  rw[hb i hi,Qcm hi]
 rw[spD];simp only[List.map_append,List.map_map,List.sum_append,Function.comp_def]
 rw[h1,h2];rfl
variable {q:CodeD}
theorem CodeD.ok.spF (h:q.ok):SpF (gnx q) q.blocks.length:=⟨fun b hb=>by rw[Qk2 hb];exact (h.bs b hb).nxl,fun b hb v hv=>by rw[Qk2 hb]at hv;exact (h.bs b hb).nx v hv⟩
theorem CodeD.ok.palB (h:q.ok):palB q:=fun b hb p hp=>(h.bs b hb).pal p hp
end Go.AE.Y

namespace Go.AE.Y
attribute [local go_sem] cond_true cond_false Bool.not_true Bool.not_false
open Go.Proofs.Tryz
variable {H H0:Heap}{K:V→Heap→Prop}{E B Lg:List (Nat×Obj)}
theorem OBlk.row_eq (o:OBlk):o.row=[o.pc,o.ic,.int .i64 o.jump,.int .i64 o.on,.vsl o.nx.y 1 0 o.nx.ns.length]:=rfl
def OBlk.rest (o:OBlk):List (Nat×Obj):=o.phis.flatMap OPhi.lg++(o.pl++(o.ins.flatMap OIns.lg++o.il))
theorem OBlk.lg_eq (o:OBlk):o.lg=[(o.nx.y,.vec 1 (Qg o.nx.ns))]++o.rest:=rfl
theorem KBlk.row_eq (b:KBlk):b.row=[b.pc,.sl false 4 (Qa1 b.y.ins),.int .i64 b.y.jump,.int .i64 b.y.on,.sl false 1 (Qg b.y.next)]:=rfl
structure PkS (q:CodeD)(P:List Int)(l:List Nat)(i:Nat)(ks:List KBlk):Prop where
 n:ks.length=l.length
 b:∀j (h:j<ks.length),PkB q P (l.getD j 0) ks[j].y
 ok:∀b∈ks,b.ok
 a:∀j (h:j<ks.length),j<i→∀p∈ks[j].y.phis,PkA q P l j p
 u:∀j (h:j<ks.length),i≤j→ks[j].y.phis=(Qbs q (l.getD j 0)).phis
theorem Qbg {α β:Type}{f:α→List β}:∀{l:List α} {i:Nat} (h:i<l.length),(l.flatMap f).Perm (f l[i]++(l.eraseIdx i).flatMap f)
 |[],i,h=>by simp at h
 |x::l,0,h=>by simp
 |x::l,i+1,h=>by
  have:=Qbg (f:=f) (l:=l) (i:=i) (by simpa using h)
  simp only[List.flatMap_cons,List.getElem_cons_succ,List.eraseIdx_cons_succ]
  refine (List.Perm.append_left _ this).trans ?_
  rw[←List.append_assoc,←List.append_assoc]
  exact List.Perm.append_right _ List.perm_append_comm
theorem vslc {H:Heap}{z sz n:Nat}{rows:List (List C)}(h:H z=.vec sz rows)(hn:n=rows.length):Slc H sz rows (.vsl z sz 0 n):=by
 subst hn
 exact⟨by simp only[okSl,h,Nat.zero_add,Nat.le_refl,and_self],rfl,by simp only[rowsOf,h,List.drop_zero,List.take_length],rfl⟩
variable {q:CodeD}{P:List Int}{l:List Nat}{ks:List KBlk}
theorem PkS.step {i:Nat}(hS:PkS q P l i ks)(hi:i<ks.length){ph:List PhiD}{pl:List (Nat×Obj)}(h1:ph.map PhiD.to=(Qbs q (l.getD i 0)).phis.map PhiD.to)(h2:∀p∈ph,PkA q P l i p)(hg:Gr pl 2 (Q0 ph) ks[i].pc) :
  PkS q P l (i+1) (ks.set i ⟨⟨ph,ks[i].y.ins,ks[i].y.jump,ks[i].y.on,ks[i].y.next⟩,ks[i].pc,pl⟩):=by
 have hb:=hS.b i hi
 refine⟨by rw[List.length_set];exact hS.n,fun j h=>?_,fun w hw=>?_,fun j h hj=>?_,fun j h hj=>?_⟩
 ·have h':j<ks.length:=by simpa using h
  rw[List.getElem_set]
  split
  ·rename_i e;subst e;exact⟨hb.j,hb.o,hb.i,hb.n,h1⟩
  ·exact hS.b j h'
 ·rcases List.mem_or_eq_of_mem_set hw with h|rfl
  ·exact hS.ok w h
  ·exact hg
 ·have h':j<ks.length:=by simpa using h
  rw[List.getElem_set]
  split
  ·rename_i e;subst e;exact h2
  ·exact hS.a j h' (by omega)
 ·have h':j<ks.length:=by simpa using h
  rw[List.getElem_set]
  split
  ·omega
  ·exact hS.u j h' (by omega)
theorem PkS.rows {i:Nat}{ph:List PhiD}{pl:List (Nat×Obj)}(hi:i<ks.length):(ks.set i ⟨⟨ph,ks[i].y.ins,ks[i].y.jump,ks[i].y.on,ks[i].y.next⟩,ks[i].pc,pl⟩).map KBlk.row=ks.map KBlk.row:=by
 rw[List.map_set]
 have:(KBlk.mk ⟨ph,ks[i].y.ins,ks[i].y.jump,ks[i].y.on,ks[i].y.next⟩ ks[i].pc pl).row=(ks.map KBlk.row)[i]'(by simpa using hi):=by simp[KBlk.row,kRow]
 rw[this,List.set_getElem_self]
end Go.AE.Y

namespace Go.AE.Y
attribute [local go_sem] cond_true cond_false Bool.not_true Bool.not_false
open Go.Proofs.Tryz
variable {H H0:Heap}{K:V→Heap→Prop}{E B Lg:List (Nat×Obj)}{q:CodeD}
theorem CodeD.ok.gd (h:q.ok):q.gd:=⟨h.b0,h.b1,fun y hy=>by
 obtain⟨b,hb,rfl⟩:=List.mem_iff_getElem.1 hy
 exact (h.bs b hb).nxl,h.fts⟩
theorem CodeD.ok.fitB (h:q.ok):Qmi q.blocks.length (gnx q)=true:=by
 have h1:(List.range q.blocks.length).all (fun i=>(gnx q i).all fun x=>decide (0≤x∧x≤(q.blocks.length:Int)-1))=true:=by
  simp only[List.all_eq_true,List.mem_range,decide_eq_true_eq]
  intro b hb x hx
  rw[Qk2 hb]at hx
  have:=(h.bs b hb).nx x hx
  omega
 have h2:decide (0<q.blocks.length)=true:=decide_eq_true h.b0
 simp only[Qmi,h1,Bool.true_and]
 first|exact h2|simpa using h.b0
def zRow (v:Int):List C:=[.int .i64 1,.int .i64 v,.sl true 1 [],.int .i64 0]
def zIns (v:Int):InsD:=⟨1,v,[],0⟩
end Go.AE.Y

