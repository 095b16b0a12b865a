/- Part 4 of the proof: the engine, codes, walks and plain laws, each named where it stands. -/
import Derived.Test.YtlfdcfggpccakaaGreatDoorZC
import Derived.Shelf.Sort.Plain
import Derived.Shelf.Sort.So_math_bits_LenIn
import Derived.WalkLawsBesides
import Derived.WalkSmall
open Nat (reduceEqDiff reduceAdd reduceLeDiff reduceLT)
set_option linter.unusedVariables false
set_option linter.unusedSimpArgs false
set_option maxRecDepth 4000
namespace Go.AE.Y
open Go.Proofs.Tryz
variable {F H:Heap}{w:Nat}{s:LS}{K:V→Heap→Prop}
set_option maxHeartbeats 1000000 in
theorem Qbc4 {n:Nat}(hS:∀m,m<n→Qa0t m):Qbln n:=by
 intro x F H w s N K hn hok h hat hsok hN hK
 have hsz:=x.size_eq
 rw[St.ok_eq]at hok
 obtain⟨hap,hao,hbo,heo⟩:=hok
 have ham:=Qel (List.getElem_mem hap)
 refine Qd Qak Qap0 ?_
 refine Qa ?_
 simp only[go_sem,x.cells_eq]
 refine Qa ?_
 simp only[go_sem]
 refine Qge h hsok (by omega) fun s1 H1 h1 st1 hb1=>?_
 simp only[go_sem,Qto]
 refine Qa ?_
 simp only[go_sem]
 refine Qge h1 (st1.ok _ hsok) (by omega) fun s2 H2 h2 st2 hb2=>?_
 have st2:=st1.trans st2
 simp only[go_sem,Qtp]
 refine Qa ?_
 simp only[go_sem]
 refine Qge h2 (st2.ok _ hsok) (by omega) fun s3 H3 h3 st3 hb3=>?_
 have st3:=st2.trans st3
 simp only[go_sem,Qtq]
 refine Qa ?_
 simp only[go_sem]
 refine Qvp (next:=[(s.blocks.length:Int)]) (N:=0) h3 (st3.at_ hat) (by omega) fun s4 H4 h4 st4=>?_
 have hb4:=st4.bl
 have st4:=st3.trans st4
 refine Qa ?_
 simp only[go_sem,hap,Qax,Qek _ _ hap,Ex.take4,Ex.allOw,Ex.cells_len]
 refine⟨by omega,?_⟩
 refine Qbjw _ x.args[0] F H4 w s4 _ _ (Nat.le_refl _) (Q73 hao _ (List.getElem_mem hap)) h4 (st4.at_ hat) (st4.ok _ hsok) (by omega) fun v s5 H5 h5 st5=>?_
 have hb5:=st5.bl
 have st5:=st4.trans st5
 simp only[go_sem,Qtr]
 refine Qa ?_
 simp only[go_sem]
 refine Qvp (next:=[(s1.blocks.length:Int),(s2.blocks.length:Int)]) (N:=0) h5 (st5.at_ hat) (by omega) fun s6 H6 h6 st6=>?_
 have hb6:=st6.bl
 have st6:=st5.trans st6
 refine Qa ?_
 simp only[go_sem]
 refine hS (Qx x.body) (by omega) x.body _ F H6 w s6 _ _ (Nat.le_refl _) hbo h6 (st6.at_ hat) (st6.ok _ hsok) (by omega) fun s7 H7 h7 st7=>?_
 have hb7:=st7.bl
 have st7:=st6.trans st7
 refine Qt ?_
 simp only[go_sem]
 refine Qvp (next:=[(s.blocks.length:Int)]) (N:=0) h7 (st7.at_ hat) (by omega) fun s8 H8 h8 st8=>?_
 have st8:=st7.trans st8
 simp only[Q3,Q9,Q29]
 exact⟨by simp,hK s8 H8 h8 (st8.mono (by omega))⟩
set_option maxHeartbeats 2000000 in
theorem Qbfh {n:Nat}(hS:∀m,m<n→Qa0t m):Qbjg n:=by
 intro x F H w s N K hn hok h hat hsok hN hK
 have hok':=hok
 have hsz:=x.size_eq
 rw[St.ok_eq]at hok
 obtain⟨hap,hao,hbo,heo⟩:=hok
 refine Qd Qak Qap1 ?_
 have retn:∀(e:Env) (s':LS) (H':Heap) (q:X),(q=.nrm∨q=.ret)→LInv F H' w s'→LStep s s' (10 * x.size)→Q3 Qqf K q e H':=by
  intro e s' H' q hq a1 a2
  rcases hq with rfl|rfl <;> exact⟨by simp[Qqf],hK s' H' a1 a2⟩
 refine Qa ?_
 simp only[go_sem,x.cells_eq]
 refine Q6 ?_
 refine Qa ?_
 simp only[go_sem]
 refine Qh (Qe rfl ?_ ?_)
 ·intro hc
  refine Qa ?_
  simp only[go_sem]
  rw[←x.cells_eq]
  refine Qbc4 hS x F H w s N _ hn hok' h hat hsok hN fun s1 H1 h1 st1=>?_
  simp only[Qae5]
  refine Qk ?_
  simp only[go_sem]
  exact retn _ s1 H1 _ (.inr rfl) h1 st1
 intro hc0
 refine Qi ?_
 simp only[go_sem]
 refine Qa ?_
 simp only[go_sem]
 refine Q6 ?_
 refine Qa ?_
 simp only[go_sem]
 refine Qh (Qg (Qy (fun n e1 H1=>∃(i:Nat) (ars:List Int) (c:C) (Lg:List (Nat×Obj)) (s':LS),n=x.args.length-i∧i≤x.args.length∧ars.length=i∧Gr Lg 1 (Qb ars) c∧LInv F H1 w s'∧Kn F H1 [] (s'.L w++Lg)∧
  LStep s s' (10 * Qac (x.args.take i))∧e1=[(0,.c (.ptr w 0)),(3,.c (.pp [.int .i64 x.op,.str x.name,.sl false 4 (Qbk x.args),.sl false 5 (Qau x.body),.sl false 5 (Qau x.els)])),(4,.c c),(5,.c (.int .i64 i))]) x.args.length ?_ ?_))
 ·exact⟨0,[],_,[],s,by omega,by omega,rfl,.nil 1,h,by simpa using h.kn,(LStep.refl s).mono (by omega),rfl⟩
 ·rintro n e1 H1 ⟨i,ars,c,Lg,s1,hn1,hi,harl,hgr,h1,kn,st1,rfl⟩
  refine Q6 ?_
  refine Qa ?_
  simp only[go_sem,Qax]
  intro hl
  simp only[LIM]at hl
  refine Qh (Qe rfl ?_ ?_)
  ·intro hc
   have hlt:i<x.args.length:=by simpa using hc
   have hm:=Qel (List.getElem_mem hlt)
   have htk:=Qph hlt
   have htl:=Qgz x.args (i+1)
   refine Qi ?_
   simp only[go_sem]
   refine Qh (Qg (Qt ?_))
   simp only[go_sem,hlt,Qax,Qek _ _ hlt,Ex.take4,Ex.allOw,Ex.cells_len]
   obtain⟨F',hf,back⟩:=h1.beside kn hgr
   refine Qbjw _ _ F' H1 w s1 _ _ (Nat.le_refl _) (Q73 hao _ (List.getElem_mem hlt)) hf (st1.at_ hat) (st1.ok _ hsok) (by omega) fun v s2 H2 h2 st2=>?_
   obtain⟨h2,kn⟩:=back s2 H2 h2
   simp only[go_sem,Qtt]
   refine kn.grow (new:=Qb [v]) hgr (.mk' _ _ _ _) (Qo _) (by simp only[Qc,harl,List.length_cons,List.length_nil,LIM];omega) fun y' H3 kn=>?_
   simp only[go_sem,Qts]
   refine Qt ?_
   simp only[go_sem,X.next]
   refine⟨Qs (by omega) (by omega),x.args.length-(i+1),by omega,i+1,ars++[v],_,_,s2,rfl,by omega,by simp[harl],.mk y' 1 (Qb (ars++[v])) (n:=(Qb ars).length+(Qb [v]).length) (by simp[Qb]),h2.re kn.drop,by rw[Qa2];exact kn,(st1.trans st2).mono (by rw[htk];omega),by simp[Qb]⟩
  ·intro hc
   have hge:x.args.length≤i:=by simpa using hc
   have hil:i=x.args.length:=by omega
   rw[List.take_of_length_le hge]at st1
   have har0:0<ars.length:=by omega
   refine Q0 ?_
   simp only[go_sem,X.next]
   refine Q6 ?_
   obtain⟨S,H2,f1,f2,kn2⟩:=hgr.freeze kn (Qo _)
   have h2:=h1.re kn2
   refine c_gh (Qdg S (fun t=>?_) f2) (e':=[(0,.c (.ptr w 0)),(3,.c (.pp [.int .i64 x.op,.str x.name,.sl false 4 (Qbk x.args),.sl false 5 (Qau x.body),.sl false 5 (Qau x.els)])),(4,.c (.sl false 1 (Qb ars)))]) ?_
   ·simp only[lk]
    split
    ·exact .c _ _ (.same _ rfl)
    ·split
     ·exact .c _ _ (.same _ rfl)
     ·split
      ·exact .c _ _ f1
      ·exact .unk _
   have hsok1:=st1.ok _ hsok
   have hat1:=st1.at_ hat
   have hw2:=h2.hw
   refine Qa ?_
   simp only[go_sem]
   refine Qg ?_
   refine Qa ?_
   simp only[go_sem]
   refine Qe rfl ?_ ?_
   ·
    intro hc
    refine Qa ?_
    simp only[go_sem,hw2,LS.o]
    refine Q02 h2 hat1 hsok1 (by omega) fun s3 H3 h3 st3=>?_
    have hw3:=h3.hw
    have hvo:=h3.gv.isOw
    have hsok3:=st3.ok _ hsok1
    have st3:=st1.trans st3
    simp only[go_sem]
    refine Qag ?_
    simp only[go_sem,hw3,LS.o,hvo]
    refine h3.addVar ⟨x.name,s3.next,0,rfl⟩ (by have:=hsok3.v1;simp only[LIM];omega) fun y H4 hw4 cont=>?_
    simp only[go_sem,Qtu,hw4,LS.o]
    intro H5 h5
    have h5':=cont H5 h5
    have hw5:=h5'.hw
    refine Qt ?_
    have hn0:=hsok3.n0
    have hn1:=hsok3.n1
    simp only[go_sem,hw5,LS.o]
    refine⟨Qs (by omega) (by omega),fun H6 h6=>?_⟩
    have h6':=h5'.setw (s':={ s3 with vc:=.vsl y 3 0 (s3.vars.length+1),lv:=[(y,.vec 3 (s3.vars++[[C.str x.name,C.int IntKind.i64 s3.next,C.int IntKind.i64 0]]))],vars:=s3.vars++[[C.str x.name,C.int IntKind.i64 s3.next,C.int IntKind.i64 0]],next:=s3.next+1 }) h6 rfl rfl rfl rfl h5'.gv h5'.rv
    refine retn _ _ H6 _ (.inl rfl) h6' ⟨st3.bl,fun M hM=>?_,?_,st3.at_,st3.fn⟩
    ·have q:=st3.ok M hM
     refine⟨q.r0,?_,?_,?_,?_,fun b hb=>?_,?_⟩
     ·have:=q.r1;show s3.regs≤_;omega
     ·have:=q.n0;show 0≤s3.next+1;omega
     ·have:=q.n1;show s3.next+1≤_;omega
     ·have:=q.b1;show s3.blocks.length≤_;omega
     ·have:=q.i1 b hb;omega
     ·have:=q.v1;simp;omega
    ·have:=st3.vl;simp;omega
   intro hc1
   refine Qa ?_
   simp only[go_sem]
   refine Qe rfl ?_ ?_
   ·
    intro hc
    refine Qt ?_
    simp only[go_sem]
    refine Qbko h2 fun v=>?_
    simp only[go_sem,Qtv]
    refine Q02 h2 hat1 hsok1 (by omega) fun s3 H3 h3 st3=>?_
    exact retn _ _ H3 _ (.inl rfl) h3 ((st1.trans st3).mono (by omega))
   intro hc2
   refine Qa ?_
   simp only[go_sem]
   refine Qe rfl ?_ ?_
   ·intro hc
    refine Qt ?_
    simp only[go_sem]
    refine Q02 h2 hat1 hsok1 (by omega) fun s3 H3 h3 st3=>?_
    exact retn _ _ H3 _ (.inl rfl) h3 ((st1.trans st3).mono (by omega))
   intro hc3
   refine Qa ?_
   simp only[go_sem]
   refine Qe rfl ?_ ?_
   ·intro hc
    refine Qt ?_
    simp only[go_sem]
    refine Q02 h2 hat1 hsok1 (by omega) fun s3 H3 h3 st3=>?_
    exact retn _ _ H3 _ (.inl rfl) h3 ((st1.trans st3).mono (by omega))
   intro hc4
   refine Qa ?_
   simp only[go_sem]
   refine Qe rfl ?_ ?_
   ·
    intro hc
    refine Qbf ?_
    simp only[go_sem,har0,Qc,Qm _ _ har0]
    refine⟨by omega,?_⟩
    refine Qge h2 hsok1 (by omega) fun s3 H3 h3 st3 hb3=>?_
    have st3:=st1.trans st3
    simp only[go_sem,Qod,har0,Qc,Qm _ _ har0]
    refine⟨by omega,?_⟩
    refine Qvp (next:=[]) (N:=0) h3 (st3.at_ hat) (by omega) fun s4 H4 h4 st4=>?_
    exact retn _ _ H4 _ (.inl rfl) h4 ((st3.trans st4).mono (by omega))
   intro hc5
   refine Qa ?_
   simp only[go_sem]
   refine Qe rfl ?_ ?_
   ·
    intro hc
    refine Qa ?_
    simp only[go_sem]
    refine Qge h2 hsok1 (by omega) fun s3 H3 h3 st3 hb3=>?_
    have st3:=st1.trans st3
    simp only[go_sem,Qoe]
    refine Qa ?_
    simp only[go_sem]
    refine Qge h3 (st3.ok _ hsok) (by omega) fun s4 H4 h4 st4 hb4=>?_
    have st4:=st3.trans st4
    simp only[go_sem,Qof]
    refine Qa ?_
    simp only[go_sem]
    refine Qge h4 (st4.ok _ hsok) (by omega) fun s5 H5 h5 st5 hb5=>?_
    have st5:=st4.trans st5
    simp only[go_sem,Qog]
    refine Qa ?_
    simp only[go_sem,har0,Qc,Qm _ _ har0]
    refine⟨by omega,?_⟩
    refine Qvp (next:=[(s1.blocks.length:Int),(s3.blocks.length:Int)]) (N:=0) h5 (st5.at_ hat) (by omega) fun s6 H6 h6 st6=>?_
    have hb6:=st6.bl
    have st6:=st5.trans st6
    refine Qa ?_
    simp only[go_sem]
    refine hS (Qx x.body) (by omega) x.body _ F H6 w s6 _ _ (Nat.le_refl _) hbo h6 (st6.at_ hat) (st6.ok _ hsok) (by omega) fun s7 H7 h7 st7=>?_
    have hb7:=st7.bl
    have st7:=st6.trans st7
    refine Qa ?_
    simp only[go_sem]
    refine Qvp (next:=[(s4.blocks.length:Int)]) (N:=0) h7 (st7.at_ hat) (by omega) fun s8 H8 h8 st8=>?_
    have hb8:=st8.bl
    have st8:=st7.trans st8
    refine Qa ?_
    simp only[go_sem]
    refine hS (Qx x.els) (by omega) x.els _ F H8 w s8 _ _ (Nat.le_refl _) heo h8 (st8.at_ hat) (st8.ok _ hsok) (by omega) fun s9 H9 h9 st9=>?_
    have hb9:=st9.bl
    have st9:=st8.trans st9
    refine Qt ?_
    simp only[go_sem]
    refine Qvp (next:=[(s4.blocks.length:Int)]) (N:=0) h9 (st9.at_ hat) (by omega) fun s10 H10 h10 st10=>?_
    exact retn _ _ H10 _ (.inl rfl) h10 ((st9.trans st10).mono (by omega))
   ·intro hc6
    refine Qi ?_
    simp only[go_sem]
    exact retn _ _ H2 _ (.inl rfl) h2 (st1.mono (by omega))
theorem Qblf (n:Nat):Qa0t n:=by
 induction n using Nat.strongRecOn with
 |ind n ih=>exact Qba9 (Qbfh ih)
end Go.AE.Y

namespace Go.AE.Y
open Go.Proofs.Tryz
variable {H:Heap}{K:V→Heap→Prop}
set_option maxHeartbeats 2000000 in
theorem Qbka {fns:List Fn}{fl:Bool}{k:Nat}(hk:k<fns.length)(hpl:fns[k].params.length≤3)(hbo:Qcp fns[k].body)(hbs:Qx fns[k].body≤2^34)
  (hK:∀(c:CodeD) (H':Heap),Upd H H' []→c.fits→K (.ag c.cells) H'):Qp prog Qau1 [.ag [.sl fl 3 (Qb2 fns)],.c (.int .i64 k)] H K:=by
 refine Qz ?_
 refine Qd Qak Qbkg ?_
 refine Qa ?_
 simp only[go_sem]
 intro x4 hx4 H1 h1
 have kn:=(Kn.start0 H).al hx4 h1
 refine Qa ?_
 simp only[go_sem,hk,Qba,Qgu _ _ hk,Fn.take3,Fn.allOw,Fn.cells_len]
 generalize fns[k]=f at *
 intro x5 hx5 H2 h2
 have kn:=kn.al hx5 h2
 have hx52:=kn.l 1 rfl
 simp only[go_sem,Qata,hx52,Fn.cells]
 intro H3 h3
 have kn:Kn H H3 [] [(x4,.st [.int .i64 0,.int .i64 0,.sl true 5 []]),(x5,.st [.str f.name,.sl false 1 (Qbd f.params),.sl false 5 (Qau f.body)])]:=kn.stL 1 rfl h3
 have hx43:=kn.l 0 rfl
 have hx53:=kn.l 1 rfl
 have h45:=kn.neL 0 1 rfl rfl (by decide)
 refine Qa ?_
 simp only[go_sem,hx53,Qam]
 intro hpl2 w hw H4 h4
 have h:LInv H3 H4 w ⟨fns,fl,0,0,.sl true 5 [],[],[],0,.sl true 3 [],[],[],f.params.length⟩:=
  ⟨(Kn.start0 H3).al hw h4,.nil 5,.inl ⟨rfl,rfl,rfl⟩,by simp,by simp,by simp⟩
 have hfr:∀(s:LS) (H':Heap),LInv H3 H' w s→H' x4=.st [.int .i64 0,.int .i64 0,.sl true 5 []]∧H' x5=.st [.str f.name,.sl false 1 (Qbd f.params),.sl false 5 (Qau f.body)]:=fun s H' h'=>
  ⟨by rw[h'.kn.chg x4 (by rw[hx43];simp) (by simp),hx43],by rw[h'.kn.chg x5 (by rw[hx53];simp) (by simp),hx53]⟩
 have hx54:=(hfr _ _ h).2
 have hw4:=h.hw
 simp only[go_sem,Qatb]
 refine Qa ?_
 simp only[go_sem,hx54,hw4,LS.o,Qam]
 intro _ H5 h5
 have h:=h.setw (s':=⟨fns,fl,f.params.length,0,.sl true 5 [],[],[],0,.sl true 3 [],[],[],f.params.length⟩) h5 rfl rfl rfl rfl h.gv h.rv
 have hx55:=(hfr _ _ h).2
 refine Qag ?_
 simp only[go_sem,hx55,Qam]
 refine Qbc1 _ f.body (Nat.le_refl _) (by omega) fun v hv=>?_
 have hw5:=h.hw
 simp only[go_sem,Qatc,hx55,hw5,LS.o,Qam]
 refine⟨Qs (by omega) (by omega),fun H6 h6=>?_⟩
 have h:=h.setw (s':=⟨fns,fl,f.params.length,(f.params.length:Int)+v,.sl true 5 [],[],[],0,.sl true 3 [],[],[],f.params.length⟩) h6 rfl rfl rfl rfl h.gv h.rv
 refine Q6 ?_
 refine Qa ?_
 simp only[go_sem]
 refine Qh (Qg (Qy (fun n e1 H1=>∃(i:Nat) (s':LS),n=f.params.length-i∧i≤f.params.length∧LInv H3 H1 w s'∧s'.blocks=[]∧s'.at_=0∧s'.regs=(f.params.length:Int)+v∧s'.next=f.params.length∧s'.vars.length=i∧
  e1=[(4,.c (.ptr x4 0)),(5,.c (.ptr x5 0)),(6,.c (.ptr w 0)),(7,.c (.int .i64 i))]) f.params.length ?_ ?_))
 ·exact⟨0,_,by omega,by omega,h,rfl,rfl,rfl,rfl,rfl,rfl⟩
 ·rintro n e1 H1 ⟨i,s,hn1,hi,h,hb0,ha0,hr0,hn0,hvl,rfl⟩
  have hx51:=(hfr _ _ h).2
  have hw1:=h.hw
  have hvo:=h.gv.isOw
  refine Q6 ?_
  refine Qa ?_
  simp only[go_sem,hx51,Qam]
  intro _
  refine Qh (Qe rfl ?_ ?_)
  ·intro hc
   have hlt:i<f.params.length:=by simpa using hc
   refine Qi ?_
   simp only[go_sem]
   refine Qh (Qg (Qbf ?_))
   simp only[go_sem,hx51,hw1,LS.o,hvo,hlt,Qam,Qh1 _ _ hlt]
   refine h.addVar ⟨_,_,_,rfl⟩ (by simp only[LIM];omega) fun y H4 hw4 cont=>?_
   simp only[go_sem,Qatd,hw4,LS.o]
   intro H5 h5
   have h':=cont H5 h5
   refine Qt ?_
   simp only[go_sem,X.next]
   exact⟨Qs (by omega) (by omega),f.params.length-(i+1),by omega,i+1,_,rfl,by omega,h',hb0,ha0,hr0,hn0,by simp[hvl],rfl⟩
  ·intro hc
   refine Q0 ?_
   simp only[go_sem,X.next]
   have hsok:s.ok (3+v):=⟨by rw[hr0];omega,by rw[hr0];omega,by rw[hn0];omega,by rw[hn0];omega,by simp[hb0],by simp[hb0],by omega⟩
   refine Qa ?_
   simp only[go_sem]
   refine Qao0 h hsok (by omega) fun s1 H4 h1 st1 hb1 hat1=>?_
   have hat:s1.at_<s1.blocks.length:=by rw[hat1,ha0];omega
   have hsok1:=st1.ok _ hsok
   refine Qa ?_
   have hx54:=(hfr _ _ h1).2
   simp only[go_sem,hx54]
   refine Qblf _ f.body _ H3 H4 w s1 _ _ (Nat.le_refl _) hbo h1 hat hsok1 (by omega) fun s2 H5 h2 st2=>?_
   refine Qa ?_
   simp only[go_sem]
   refine Qpu h2 (st2.ok _ hsok1) (by omega) fun s3 H6 h3 st3=>?_
   have st3:=st2.trans st3
   simp only[go_sem,Qatf]
   refine Q02 (args:=[]) h3 (st3.at_ hat) (st3.ok _ hsok1) (by omega) fun s4 H7 h4 st4=>?_
   have st4:=st3.trans st4
   simp only[go_sem,Qate]
   have hbl4:=st4.bl
   refine Qa ?_
   simp only[go_sem]
   refine Qvp (at':=0) (next:=[]) (N:=0) h4 (st4.at_ hat) (by omega) fun s5 H8 h5 st5=>?_
   have hw8:=h5.hw
   obtain⟨hx48,hx58⟩:=hfr _ _ h5
   have hbow:=h5.gb.isOw
   refine Qa ?_
   simp only[go_sem,hw8,hx48,LS.o,hbow]
   intro H9 h9
   have hx49:H9 x4=.st [.int .i64 s5.params,.int .i64 s5.regs,s5.bc]:=by rw[h9];exact Heap.set_same _ _ _
   have ho9:∀m,m≠x4→H9 m=H8 m:=fun m hm=>by rw[h9];exact Heap.set_other _ _ hm
   have huse:∀m,H m≠.none→H9 m=H m:=fun m hm=>by
    have e1:=kn.chg m hm (by simp)
    have e2:=h5.kn.chg m (by rw[e1];exact hm) (by simp)
    rw[ho9 m (fun hh=>by subst hh;exact hm (kn.free 0 rfl)),e2,e1]
   have hun:∀p∈s5.L w,H9 p.1=p.2∧un H p.1=true:=fun p hp=>by
    have e1:=(h5.kn.get p (by simpa using hp)).1
    have e2:=h5.kn.loc p hp
    have hne:p.1≠x4:=fun hh=>by rw[hh,hx43]at e2;simp at e2
    refine⟨by rw[ho9 _ hne,e1],Qh4 ?_⟩
    cases hh:H p.1 with
    |none=>rfl
    |_=>have:=kn.chg p.1 (by rw[hh];simp) (by simp);rw[e2,hh]at this;simp at this
   refine Qk ?_
   simp only[go_sem,Q3,Q9,Qbf6,reduceIte,List.mem_singleton,forall_eq,RS.op,hx49,hbow]
   have hok5:=(st4.trans st5).ok _ hsok1
   obtain⟨bs,hbs1,hbs2,hbs3⟩:=Qa0w (H:=H9) (S:=un H) s5.blocks fun b hb=>⟨h5.gi b hb,h5.ri b hb,fun p hp=>hun p (by
    simp only[LS.L,List.mem_append,List.mem_flatMap]
    exact .inr (.inr (.inr ⟨b,hb,hp⟩))),by have:=hok5.i1 b hb;omega⟩
   refine⟨.ag (CodeD.mk s5.params s5.regs bs).cells,FrzL.ag (.cons (Qf rfl) (.cons (Qf rfl) (.cons (Gr.frzM h5.gb (fun p hp=>hun p (by
    simp only[LS.L,List.mem_append]
    exact .inr (.inl hp))) hbs1) .nil))),hK _ _ ⟨by simp,fun m hm _=>?_⟩ hbs3⟩
   rw[Qa7g hm];exact huse m hm
theorem Qbc2 {fns:List Fn}{fl:Bool}(hp:PrOk fns)(hK:∀(cs:List CodeD) (H':Heap),Upd H H' []→0<cs.length→(∀c∈cs,c.fits)→K (.ag [.sl false 3 (Ql cs)]) H') :
  Qp prog Q8h [.ag [.sl fl 3 (Qb2 fns)]] H K:=by
 refine Qz ?_
 refine Qd Qak Qbdm ?_
 refine Qa ?_
 simp only[go_sem]
 intro x2 hx2 H1 h1
 have kn:=(Kn.start0 H).al hx2 h1
 refine Qa ?_
 simp only[go_sem]
 intro x3 hx3 H2 h2
 have kn:=kn.al hx3 h2
 have hx32:=kn.l 1 rfl
 simp only[go_sem,Qaes,hx32]
 intro H3 h3
 have kn:Kn H H3 [] [(x2,.st [.sl true 3 []]),(x3,.st [.sl true 3 []])]:=kn.stL 1 rfl h3
 refine Q6 ?_
 refine Qa ?_
 simp only[go_sem]
 refine Qh (Qg (Qy (fun n e1 H1=>∃(i:Nat) (cs:List CodeD) (c:C) (Lg:List (Nat×Obj)),n=fns.length-i∧i≤fns.length∧cs.length=i∧(∀c∈cs,c.fits)∧Gr Lg 3 (Ql cs) c∧Kn H H1 [] ([(x2,.st [.sl true 3 []]),(x3,.st [c])]++Lg)∧
  e1=[(1,.c (.pp [.sl fl 3 (Qb2 fns)])),(2,.c (.ptr x2 0)),(3,.c (.ptr x3 0)),(4,.c (.int .i64 i))]) fns.length ?_ ?_))
 ·exact⟨0,[],_,[],by omega,by omega,rfl,by simp,.nil 3,kn,rfl⟩
 ·rintro n e1 H1 ⟨i,cs,c,Lg,hn1,hi,hcl,hfit,hgr,kn,rfl⟩
  refine Q6 ?_
  refine Qa ?_
  simp only[go_sem,Qba]
  intro hl
  simp only[LIM]at hl
  have hcow:=hgr.isOw
  have hx31:=kn.l 1 rfl
  refine Qh (Qe rfl ?_ ?_)
  ·intro hc
   have hlt:i<fns.length:=by simpa using hc
   have hm:=List.getElem_mem hlt
   refine Qi ?_
   simp only[go_sem]
   refine Qh (Qg (Qbf ?_))
   simp only[go_sem,hx31,hcow]
   refine Qbka hlt (hp.par _ hm) (hp.ok _ hm) (by have:=Qp4 hm;have:=hp.size;omega) fun x H4 hu hxf=>?_
   have kn:=kn.call0 hu
   have hx34:=kn.l 1 rfl
   simp only[go_sem,Qaeu,hx34,hcow,CodeD.cells]
   refine kn.grow (B:=[_,_]) (new:=[x.cells]) hgr (.mk' _ _ _ _) (by intro r hr;simp only[List.mem_singleton]at hr;subst hr;rfl) (by simp only[Q4,LIM,List.length_cons,List.length_nil];omega) fun y' H5 kn=>?_
   have hx35:=kn.l 1 rfl
   simp only[go_sem,Qaet,hx35]
   intro H6 h6
   have kn:=kn.stL 1 rfl h6
   refine Qt ?_
   simp only[go_sem,X.next]
   refine⟨Qs (by omega) (by omega),fns.length-(i+1),by omega,i+1,cs++[x],_,_,rfl,by omega,by simp[hcl],fun c' hc'=>by
    rcases List.mem_append.1 hc' with h|h
    ·exact hfit c' h
    ·simp at h;subst h;exact hxf,?_,kn,rfl⟩
   rw[Qao6];exact .mk _ _ _ (by simp[Q4])
  ·intro hc
   have hge:fns.length≤i:=by simpa using hc
   have hx21:=kn.l 0 rfl
   refine Q0 ?_
   simp only[go_sem,X.next]
   refine Qa ?_
   simp only[go_sem,hx31,hx21,hcow]
   intro H2 h2
   have kn:=kn.stL 0 rfl h2
   have hx22:=kn.l 0 rfl
   refine Qk ?_
   simp only[go_sem,Q3,Q9,Qa1v,reduceIte,List.mem_singleton,forall_eq,RS.op,hx22,hcow]
   exact⟨.ag [.sl false 3 (Ql cs)],FrzL.ag (.cons (hgr.frz (B:=[_,_]) kn (Qa4 _)) .nil),hK _ _ kn.fin (by have:=hp.pos;omega) hfit⟩
end Go.AE.Y

namespace Go.AE.Y
open Go.Proofs.Tryz
variable {H:Heap}{K:V→Heap→Prop}
attribute [local instance] Classical.propDecidable
def Quq (q:CodeD):Bool:=decide (0≤q.params∧q.params≤3)&&decide (q.params≤q.regs∧q.regs≤300)&&decide (1≤(q.blocks.length:Int)∧(q.blocks.length:Int)≤160)
def Qyf (y:BlkD):Nat:=y.ins.length+y.phis.length
def Qjx {α:Type}(f:α→Nat)(l:List α):Nat:=(l.map f).sum
theorem Qc6 {α:Type}{f:α→Nat}{l:List α}{i:Nat}(h:i<l.length):Qjx f (l.take (i+1))=Qjx f (l.take i)+f l[i]:=by
 rw[Qjx,Qjx,List.take_succ_eq_append_getElem h,List.map_append,List.sum_append];simp
theorem Qa0o {α:Type}{f:α→Nat}{l:List α}(i:Nat):Qjx f (l.take i)≤Qjx f l:=by
 have:Qjx f l=Qjx f (l.take i)+Qjx f (l.drop i):=by rw[Qjx,Qjx,Qjx,←List.sum_append,←List.map_append,List.take_append_drop]
 omega
def Q71 (q:CodeD):Nat:=Qjx Qyf q.blocks
def Qafd (cs:List CodeD)(k:Nat)(hk:k<cs.length):Prop:=Quq cs[k]=true∧∀(b:Nat) (h:b<cs[k].blocks.length),Q44 cs k b cs[k] cs[k].blocks[b]=true
def Qbi4 (cs:List CodeD):Prop:=(1≤(cs.length:Int)∧(cs.length:Int)≤4)∧(∀(k:Nat) (h:k<cs.length),Qafd cs k h)∧Qjx Q71 cs≤800
noncomputable def Qbb (cs:List CodeD):Bool:=decide (Qbi4 cs)
theorem Qa2f {cs:List CodeD}(hfit:∀c∈cs,c.fits)(h:Qbb cs=true):cs.length≤4∧0<cs.length∧∀c∈cs,c.gd:=by
 obtain⟨h1,h2,_⟩:=of_decide_eq_true h
 refine⟨by omega,by omega,fun c hc=>?_⟩
 obtain⟨k,hk,rfl⟩:=List.getElem_of_mem hc
 obtain⟨g1,g2⟩:=h2 k hk
 simp only[Quq,Bool.and_eq_true,decide_eq_true_eq]at g1
 refine⟨by omega,by omega,fun b hb=>?_,fun b hb=>hfit _ (List.getElem_mem hk) b hb⟩
 obtain⟨i,hi,rfl⟩:=List.getElem_of_mem hb
 exact Qa6v (g2 i hi)
theorem Quj {cs:List CodeD}(h:¬Qbi4 cs):Qbb cs=false:=decide_eq_false h
theorem Qbfo {cs:List CodeD}{k j:Nat}(hk:k<cs.length)(hj:j<cs[k].blocks.length)(h:800<Qjx Q71 (cs.take k)+Qjx Qyf (cs[k].blocks.take j)+Qyf cs[k].blocks[j]):¬Qbi4 cs:=by
 rintro⟨_,_,h3⟩
 have a1:=Qa0o (f:=Q71) (l:=cs) (k+1)
 rw[Qc6 hk]at a1
 have a2:=Qa0o (f:=Qyf) (l:=cs[k].blocks) (j+1)
 rw[Qc6 hj]at a2
 simp only[Q71]at *
 omega
set_option maxHeartbeats 2000000 in
theorem Qpf {cs:List CodeD}{fl:Bool}(hfit:∀c∈cs,c.fits)(hK:∀(H':Heap),Upd H H' []→K (.c (.bool (Qbb cs))) H') :
  Qp prog Qbv [.ag [.sl fl 3 (Ql cs)]] H K:=by
 refine Qz ?_
 refine Qd Qak Qafw ?_
 have retf:∀(b:Bool) (e:Env) (H':Heap) (L:List (Nat×Obj)),Qbb cs=b→Kn H H' [] L→lk 2 e=.c (.bool b)→Q3 Qc3 (unK H K) .ret e H':=by
  intro b e H' L hb kn h3
  simp only[go_sem,Q3,Q9,Qc3,List.mem_singleton,forall_eq,RS.op,h3]
  rw[←hb];exact⟨_,.c _ _ (Qf rfl),hK _ kn.fin⟩
 have kn:=Kn.start0 H
 refine Qa ?_
 simp only[go_sem]
 refine Q6 ?_
 refine Qa ?_
 simp only[go_sem,Q4]
 intro hcl
 refine Qdv ?_
 simp only[go_sem,Qlc]
 refine Qh (Qe rfl ?_ ?_)
 ·intro hc
  refine Qa ?_
  simp only[go_sem]
  refine Qk ?_
  simp only[go_sem]
  exact retf false _ _ _ (Quj fun hu=>by have:=of_decide_eq_false (Qxk hc);exact this hu.1) kn (by simp[lk])
 intro hc
 have hc4:cs.length≤4∧0<cs.length:=by
  have:1≤(cs.length:Int)∧(cs.length:Int)≤4:=by simpa using hc
  omega
 refine Qi ?_
 simp only[go_sem]
 refine Qa ?_
 simp only[go_sem]
 refine Q6 ?_
 refine Qa ?_
 simp only[go_sem]
 refine Qh (Qg (Qy (fun m e1 H1=>∃(k n:Nat),m=cs.length-k∧k≤cs.length∧n=Qjx Q71 (cs.take k)∧n≤800∧(∀(i:Nat) (hi:i<cs.length),i<k→Qafd cs i hi)∧Kn H H1 [] []∧e1=[(1,.c (.pp [.sl fl 3 (Ql cs)])),(3,.c (.int .i64 n)),(4,.c (.int .i64 k))]) cs.length ?_ ?_))
 ·exact⟨0,0,by omega,by omega,rfl,by omega,fun _ _ h=>by omega,kn,rfl⟩
 ·rintro m e1 H1 ⟨k,n,hm,hk,hns,hn,hgd,kn,rfl⟩
  refine Q6 ?_
  refine Qa ?_
  simp only[go_sem,Q4]
  intro hcl
  refine Qh (Qe rfl ?_ ?_)
  ·intro hc
   have hlt:k<cs.length:=by simpa using hc
   refine Qi ?_
   simp only[go_sem]
   refine Qh (Qg ?_)
   refine Qa ?_
   simp only[go_sem,hlt,Q4,Qaj _ _ hlt,CodeD.cells]
   obtain⟨q,hq⟩:∃q,cs[k]=q:=⟨_,rfl⟩
   rw[hq]
   intro x5 hx5 H2 h2
   have kn:=kn.al hx5 h2
   have hx52:=kn.l 0 rfl
   simp only[go_sem,Qld,hx52]
   intro H3 h3
   have kn:Kn H H3 [] [(x5,.st [.int .i64 q.params,.int .i64 q.regs,.sl false 5 (Qr q.blocks)])]:=kn.stL 0 rfl h3
   have hx53:=kn.l 0 rfl
   refine Q6 ?_
   refine Qa ?_
   simp only[go_sem,hx53]
   refine Qdv ?_
   simp only[go_sem,Qle,hx53]
   have rest:∀(b:Bool) (E1:Env),lk 1 E1=.c (.pp [.sl fl 3 (Ql cs)])→lk 3 E1=.c (.int .i64 n)→lk 4 E1=.c (.int .i64 k)→lk 5 E1=.c (.ptr x5 0)→lk 42 E1=.c (.bool b)→Quq q=(!b)→
     Qad prog (s_sp_UnitValid_6.seq Qlb) (X.inBlock 1 (X.sq prog Qev (X.next (fun e2 H2=>∃m_1,m_1<m∧∃(k n:Nat),m_1=cs.length-k∧k≤cs.length∧n=Qjx Q71 (cs.take k)∧n≤800∧(∀(i:Nat) (hi:i<cs.length),i<k→Qafd cs i hi)∧Kn H H2 [] []∧e2=[(1,.c (.pp [.sl fl 3 (Ql cs)])),(3,.c (.int .i64 n)),(4,.c (.int .i64 k))])
      (X.inBlock 0 (X.sq prog Qew (Q3 Qc3 (unK H K))))))) E1 H3:=by
    intro b E1 l1 l3 l4 l5 l42 hb
    refine Qh (Qe l42 ?_ ?_)
    ·intro hc2
     refine Qa ?_
     simp only[go_sem]
     refine Qk ?_
     simp only[go_sem,X.next]
     exact retf false _ _ _ (Quj fun hu=>by have:=(hu.2.1 k hlt).1;rw[hq,hb,hc2]at this;simp at this) kn (by simp[lk])
    intro hc2
    rw[hc2]at hb
    have hb':=hb
    simp only[Quq,Bool.not_false,Bool.and_eq_true,decide_eq_true_eq]at hb'
    obtain⟨hr0,hr1,hb0,hbl⟩:0≤q.regs∧q.regs≤300∧0<q.blocks.length∧q.blocks.length≤160:=by omega
    refine Qi ?_
    simp only[go_sem]
    refine Qa ?_
    simp only[go_sem,l1,l3,l4,l5]
    refine Qg (Qy (fun m e1 H1=>∃(j n2:Nat),m=q.blocks.length-j∧j≤q.blocks.length∧n2=n+Qjx Qyf (q.blocks.take j)∧n2≤800∧(∀(i:Nat) (hi:i<q.blocks.length),i<j→Q44 cs k i q q.blocks[i]=true)∧Kn H H1 [] [(x5,.st [.int .i64 q.params,.int .i64 q.regs,.sl false 5 (Qr q.blocks)])]∧
     e1=[(1,.c (.pp [.sl fl 3 (Ql cs)])),(3,.c (.int .i64 n2)),(4,.c (.int .i64 k)),(5,.c (.ptr x5 0)),(6,.c (.int .i64 j))]) q.blocks.length ?_ ?_)
    ·exact⟨0,n,by omega,by omega,rfl,hn,fun _ _ h=>by omega,kn,rfl⟩
    ·rintro m2 e1 H4 ⟨j,n2,hm2,hj,hn2s,hn2,hnx,kn,rfl⟩
     have hx54:=kn.l 0 rfl
     refine Q6 ?_
     refine Qa ?_
     simp only[go_sem,hx54,Qq]
     intro hbl2
     refine Qh (Qe rfl ?_ ?_)
     ·intro hc3
      have hjl:j<q.blocks.length:=by simpa using hc3
      refine Qi ?_
      simp only[go_sem]
      refine Qh (Qg ?_)
      have hqf:=hfit _ (List.getElem_mem hlt)
      rw[hq]at hqf
      have hbf:=hqf _ (List.getElem_mem hjl)
      have hss:=Qc6 (f:=Qyf) hjl
      have hcy:Qyf q.blocks[j]=q.blocks[j].ins.length+q.blocks[j].phis.length:=rfl
      refine Qag ?_
      simp only[go_sem,hx54,hjl,Qq,Qan _ _ hjl,BlkD.cells,Qat,Qv]
      refine⟨Qs (by omega) (by omega),Qs (by omega) (by omega),?_⟩
      refine Qa ?_
      simp only[go_sem]
      have fin:∀(b3:Bool) (E1:Env) (H5:Heap),(decide (n2+Qyf q.blocks[j]≤800)&&Q44 cs k j q q.blocks[j])=(!b3)→Kn H H5 [] [(x5,.st [.int .i64 q.params,.int .i64 q.regs,.sl false 5 (Qr q.blocks)])]→lk 1 E1=.c (.pp [.sl fl 3 (Ql cs)])→
        lk 3 E1=.c (.int .i64 ((n2+q.blocks[j].ins.length+q.blocks[j].phis.length:Nat):Int))→lk 4 E1=.c (.int .i64 k)→lk 5 E1=.c (.ptr x5 0)→lk 6 E1=.c (.int .i64 j)→lk 75 E1=.c (.bool b3)→
        Qad prog Qoi (X.inBlock 3 (X.sq prog Qla (X.next (fun e2 H2=>∃m,m<m2∧∃(j n2:Nat),m=q.blocks.length-j∧j≤q.blocks.length∧n2=n+Qjx Qyf (q.blocks.take j)∧n2≤800∧(∀(i:Nat) (hi:i<q.blocks.length),i<j→Q44 cs k i q q.blocks[i]=true)∧Kn H H2 [] [(x5,.st [.int .i64 q.params,.int .i64 q.regs,.sl false 5 (Qr q.blocks)])]∧
         e2=[(1,.c (.pp [.sl fl 3 (Ql cs)])),(3,.c (.int .i64 n2)),(4,.c (.int .i64 k)),(5,.c (.ptr x5 0)),(6,.c (.int .i64 j))])
         (X.inBlock 2 (X.inBlock 1 (X.sq prog Qev (X.next (fun e2 H2=>∃m_1,m_1<m∧∃(k n:Nat),m_1=cs.length-k∧k≤cs.length∧n=Qjx Q71 (cs.take k)∧n≤800∧(∀(i:Nat) (hi:i<cs.length),i<k→Qafd cs i hi)∧Kn H H2 [] []∧e2=[(1,.c (.pp [.sl fl 3 (Ql cs)])),(3,.c (.int .i64 n)),(4,.c (.int .i64 k))])
         (X.inBlock 0 (X.sq prog Qew (Q3 Qc3 (unK H K))))))))))) E1 H5:=by
       intro b3 E1 H5 hb3 kn l1 l3 l4 l5 l6 l75
       refine Qe l75 ?_ ?_
       ·intro hc4
        refine Qa ?_
        simp only[go_sem]
        refine Qk ?_
        simp only[go_sem,X.next]
        refine retf false _ _ _ (Quj fun hu=>?_) kn (by simp[lk])
        rw[hc4]at hb3
        have hblk:=(hu.2.1 k hlt).2 j (by rw[hq];exact hjl)
        subst hq
        have hov:¬800<n2+Qyf cs[k].blocks[j]:=fun ho=>Qbfo hlt hjl (by omega) hu
        rw[hblk]at hb3
        simp at hb3
        omega
       ·intro hc4
        rw[hc4]at hb3
        simp only[Bool.not_false,Bool.and_eq_true,decide_eq_true_eq]at hb3
        refine Qi ?_
        simp only[go_sem]
        refine Qt ?_
        simp only[go_sem,X.next,l1,l3,l4,l5,l6]
        refine⟨Qs (by omega) (by omega),q.blocks.length-(j+1),by omega,j+1,_,rfl,by omega,?_,?_,?_,kn,rfl⟩
        ·rw[hss];omega
        ·omega
        ·intro i hi hij
         by_cases hij2:i<j
         ·exact hnx i hi hij2
         ·have:i=j:=by omega
          subst this
          exact hb3.2
      refine⟨fun hb1=>?_,fun hb1=>?_⟩
      ·refine Qa74 hlt (by rw[hq];exact hjl) (by rw[hq];exact hr0) (by rw[hq];exact hr1) (by omega) (by rw[hq];omega) fun H5 hu=>?_
       have kn:=kn.call0 hu
       simp only[go_sem,Qey]
       refine fin _ _ _ ?_ kn (by simp[lk]) (by simp[lk]) (by simp[lk]) (by simp[lk]) (by simp[lk]) (by simp[lk];rfl)
       subst hq
       by_cases ho:n2+Qyf cs[k].blocks[j]≤800
       ·have ho':¬800<(n2:Int)+cs[k].blocks[j].ins.length+cs[k].blocks[j].phis.length:=by simp only[Qyf]at ho;omega
        simp[ho,ho']
       ·have ho':800<(n2:Int)+cs[k].blocks[j].ins.length+cs[k].blocks[j].phis.length:=by simp only[Qyf]at ho;omega
        simp[ho,ho']
      ·replace hb1:=Qh7 hb1
       simp only[go_sem,Qey,hb1]
       exact fin true _ _ (by simp at hb1;simp[hcy];omega) kn (by simp[lk]) (by simp[lk]) (by simp[lk]) (by simp[lk]) (by simp[lk]) (by simp[lk])
     ·intro hc3
      refine Q0 ?_
      simp only[go_sem,X.next]
      refine Qt ?_
      simp only[go_sem,X.next]
      have hjq:q.blocks.length≤j:=by simpa using hc3
      have hjq:j=q.blocks.length:=by omega
      refine⟨Qs (by omega) (by omega),cs.length-(k+1),by omega,k+1,n2,rfl,by omega,?_,hn2,?_,kn.drop (A:=[]),rfl⟩
      ·rw[Qc6 hlt,hq,hn2s,hns,hjq,List.take_length];rfl
      ·intro i hi hik
       by_cases hik2:i<k
       ·exact hgd i hi hik2
       ·have:i=k:=by omega
        subst this
        subst hq
        exact⟨by rw[hb];rfl,fun b hbl=>hnx b hbl (by omega)⟩
   refine⟨fun hb1=>?_,fun hb1=>?_⟩
   ·refine Qdv ?_
    simp only[go_sem,Qex,hx53,Qq]
    intro hblim
    refine⟨fun hb2=>?_,fun hb2=>?_⟩
    ·replace hb2:=Qxk hb2
     refine Qdv ?_
     simp only[go_sem,Qco]
     refine rest _ _ (by simp[lk]) (by simp[lk]) (by simp[lk]) (by simp[lk]) (by simp[lk];rfl) ?_
     simp[Quq]
    ·replace hb2:=Qh7 hb2
     simp only[go_sem,Qco,hb2]
     exact rest true _ (by simp[lk]) (by simp[lk]) (by simp[lk]) (by simp[lk]) (by simp[lk]) (by simp at hb2;simp[Quq];omega)
   ·replace hb1:=Qh7 hb1
    simp only[go_sem,Qex,Qco,hb1,hx53,Qq,cond_true]
    exact rest true _ (by simp[lk]) (by simp[lk]) (by simp[lk]) (by simp[lk]) (by simp[lk]) (by simp at hb1;simp[Quq];omega)
  ·intro hc
   refine Q0 ?_
   simp only[go_sem,X.next]
   refine Qa ?_
   simp only[go_sem]
   refine Qk ?_
   have hkc:cs.length≤k:=by simpa using hc
   refine retf true _ _ _ (decide_eq_true ⟨by omega,fun i hi=>hgd i hi (by omega),?_⟩) kn (by simp[lk])
   rw[List.take_of_length_le hkc]at hns
   omega
theorem Qaun {cs:List CodeD}{fl:Bool}(hfit:∀c∈cs,c.fits)(hK:∀(b:Bool) (H':Heap),(b=true→cs.length≤4∧0<cs.length∧∀c∈cs,c.gd)→Upd H H' []→K (.c (.bool b)) H') :
  Qp prog Qbv [.ag [.sl fl 3 (Ql cs)]] H K:=Qpf hfit fun H' hu=>hK _ H' (Qa2f hfit) hu
end Go.AE.Y

namespace Go.AE.Y
open Go.Proofs.Tryz
variable {H:Heap}{K:V→Heap→Prop}
def UnitOk (cs:List CodeD):Prop:=0<cs.length∧cs.length≤4∧∀c∈cs,c.gd
theorem Qa7w {R:Rdr}{k:Nat}(hH:H R.l=R.o k)(hk:k+7100000≤2^30)
  (hK:∀(cs:List CodeD) (H':Heap) (k':Nat),k<k'→k'≤k+7050000→Upd H H' [(R.l,R.o k')]→UnitOk cs→K (.ag [.sl false 3 (Ql cs)]) H') :
  Qp prog Q0j [.c (.ptr R.l 0)] H K:=by
 refine Qz ?_
 refine Qd Qak Qa8b ?_
 refine Qa ?_
 simp only[go_sem]
 intro x2 hx2 H1 h1
 have kn:=(Kn.start1 hH (R.o_ne k)).al hx2 h1
 have tail:∀(E1:Env) (H2:Heap) (k1:Nat) (L:List (Nat×Obj)),k<k1→k1≤k+7000500→Kn H H2 [(R.l,R.o k1)] ([(x2,.st [.sl true 3 []])]++L)→lk 0 E1=.c (.ptr R.l 0)→lk 2 E1=.c (.ptr x2 0)→
   Qad prog Qaak (Q3 Qyt (unK H K)) E1 H2:=by
  intro E1 H2 k1 L hk1 hk2 kn l0 l2
  refine Qa ?_
  simp only[go_sem,l0,l2]
  refine Qa1e (kn.e 0 rfl) (by omega) fun cs H3 k2 hk3 hk4 hu hcs0 hcs3 hsm=>?_
  have kn:=kn.callE 0 rfl hu (R.o_ne _)
  have hx2:=kn.l 0 rfl
  simp only[go_sem,Q3t,hx2,l2]
  intro H4 h4
  have kn:=kn.stL 0 rfl h4
  have hx2:=kn.l 0 rfl
  refine Qk ?_
  simp only[go_sem,Q3,Q9,Qyt,reduceIte,List.mem_singleton,forall_eq,RS.op,hx2]
  exact⟨_,FrzL.ag (.cons (FrzR.same (Qa4 cs)).sl .nil),hK cs _ k2 (by omega) (by omega) kn.fin ⟨hcs0,by omega,fun c hc=>(hsm c hc).gd⟩⟩
 refine Q6 ?_
 refine Qa ?_
 simp only[go_sem]
 refine Qa6 (kn.e 0 rfl) (by omega) fun v H2 hv hu=>?_
 have kn:=kn.callE 0 rfl hu (R.o_ne _)
 simp only[go_sem,Q3p]
 refine Qh (Qe rfl ?_ ?_)
 ·intro hc
  refine Qa ?_
  simp only[go_sem]
  refine Qbcw (kn.e 0 rfl) (by omega) fun l H3 k1 hk1 hk2 hu hp=>?_
  have kn:=kn.callE 0 rfl hu (R.o_ne _)
  simp only[go_sem,Q3s]
  refine Qbc2 hp fun cs H4 hu hcs0 hfit=>?_
  have kn:=kn.call0 hu
  simp only[go_sem,Q3r]
  intro x3 hx3 H5 h5
  have kn:=kn.al hx3 h5
  have hx3:=kn.l 1 rfl
  simp only[go_sem,Q3q,hx3]
  intro H6 h6
  have kn:=kn.stL 1 rfl h6
  have hx3:=kn.l 1 rfl
  refine Qa ?_
  simp only[go_sem,hx3]
  refine Qaun hfit fun b H7 hb hu=>?_
  have kn:=kn.call0 hu
  have hx3:=kn.l 1 rfl
  have hx2:=kn.l 0 rfl
  refine Qe rfl ?_ ?_
  ·intro hb1
   refine Qa ?_
   simp only[go_sem,hx3,hx2]
   intro H8 h8
   have kn:=kn.stL 0 rfl h8
   have hx2:=kn.l 0 rfl
   refine Qk ?_
   simp only[go_sem,Q3,Q9,Qyt,reduceIte,List.mem_singleton,forall_eq,RS.op,hx2]
   obtain⟨g1,g2,g3⟩:=hb hb1
   exact⟨_,FrzL.ag (.cons (FrzR.same (Qa4 cs)).sl .nil),hK cs _ k1 (by omega) (by omega) kn.fin ⟨g2,g1,g3⟩⟩
  ·intro hb1
   refine Qi ?_
   simp only[go_sem]
   exact tail _ _ k1 [(x3,.st [.sl false 3 (Ql cs)])] (by omega) (by omega) kn (by simp[lk]) (by simp[lk])
 ·intro hc
  refine Qi ?_
  simp only[go_sem]
  exact tail _ _ (k+1) [] (by omega) (by omega) kn (by simp[lk]) (by simp[lk])
theorem Qa7v {R:Rdr}{k:Nat}(hH:H R.l=R.o k)(hk:k+7200000≤2^30)
  (hK:∀(cs:List CodeD) (H':Heap) (k':Nat),k<k'→k'≤k+7100000→Upd H H' [(R.l,R.o k')]→UnitOk cs→K (.ag [.sl false 3 (Ql cs)]) H') :
  Qp prog Q0h [.c (.ptr R.l 0)] H K:=by
 refine Qz ?_
 refine Qd Qak Qa78 ?_
 refine Qa ?_
 simp only[go_sem]
 intro x2 hx2 H1 h1
 have kn:=(Kn.start1 hH (R.o_ne k)).al hx2 h1
 refine Q6 ?_
 refine Qa ?_
 simp only[go_sem]
 refine Qa6 (kn.e 0 rfl) (by omega) fun v H2 hv hu=>?_
 have kn:=kn.callE 0 rfl hu (R.o_ne _)
 simp only[go_sem,Q3e]
 refine Qh (Qe rfl ?_ ?_)
 ·intro hc
  refine Qa ?_
  simp only[go_sem]
  refine Qbcx (kn.e 0 rfl) (by omega) fun cs H3 k2 hk3 hk4 hu hcs0 hcs3 hgd=>?_
  have kn:=kn.callE 0 rfl hu (R.o_ne _)
  have hx2:=kn.l 0 rfl
  simp only[go_sem,Q3f,hx2]
  intro H4 h4
  have kn:=kn.stL 0 rfl h4
  have hx2:=kn.l 0 rfl
  refine Qk ?_
  simp only[go_sem,Q3,Q9,Q9c,reduceIte,List.mem_singleton,forall_eq,RS.op,hx2]
  exact⟨_,FrzL.ag (.cons (FrzR.same (Qa4 cs)).sl .nil),hK cs _ k2 (by omega) (by omega) kn.fin ⟨hcs0,by omega,hgd⟩⟩
 ·intro hc
  refine Qi ?_
  simp only[go_sem]
  refine Qa ?_
  simp only[go_sem]
  refine Qa7w (kn.e 0 rfl) (by omega) fun cs H3 k2 hk3 hk4 hu hok=>?_
  have kn:=kn.callE 0 rfl hu (R.o_ne _)
  have hx2:=kn.l 0 rfl
  simp only[go_sem,Q3g,hx2]
  intro H4 h4
  have kn:=kn.stL 0 rfl h4
  have hx2:=kn.l 0 rfl
  refine Qk ?_
  simp only[go_sem,Q3,Q9,Q9c,reduceIte,List.mem_singleton,forall_eq,RS.op,hx2]
  exact⟨_,FrzL.ag (.cons (FrzR.same (Qa4 cs)).sl .nil),hK cs _ k2 (by omega) (by omega) kn.fin hok⟩
end Go.AE.Y

namespace Go.AE.Y
open Go.Proofs.Tryz
variable {H:Heap}{K:V→Heap→Prop}
theorem Qa70 {fl:Bool}{bs:List UInt8}(hK:∀(R:Rdr) (H':Heap),H R.l=.none→H'=H.set R.l (R.o 0)→K (.c (.ptr R.l 0)) H'):Qp prog Q0m [.c (.sl fl 1 (Qbl bs))] H K:=by
 refine Qd Qak Qa8f ?_
 refine Qa ?_
 simp only[go_sem]
 refine Q6 ?_
 refine Qa ?_
 simp only[go_sem,Qap]
 intro _
 have tail:∀(fl:Bool) (bs:List UInt8) (E1:Env),lk 0 E1=.c (.sl fl 1 (Qbl bs))→Qad prog Qaa0 (Q3 Q9e K) E1 H:=by
  intro fl bs E1 l0
  refine Qa ?_
  simp only[go_sem,l0]
  intro l hl H' h'
  simp only[go_sem,Q3w]
  refine Qk ?_
  simp only[go_sem,Q3,Q9,Q9e,reduceIte,List.mem_singleton,forall_eq,RS.op]
  exact hK ⟨l,fl,bs⟩ H' hl h'
 refine Qh (Qe rfl ?_ ?_)
 ·intro hc
  have h2:(2000:Int)<bs.length:=by simpa using hc
  refine Qt ?_
  simp only[go_sem,Qap]
  refine⟨⟨by omega,by omega,by omega⟩,?_⟩
  have ht:List.take 2000 (Qbl bs)=Qbl (bs.take 2000):=by simp[Qbl,List.map_take]
  rw[ht]
  exact tail _ (bs.take 2000) _ (by simp[lk];rfl)
 ·intro hc
  refine Qi ?_
  exact tail fl bs _ (by simp[lk])
end Go.AE.Y

namespace Go.AE.Y
def Qbjy (n:Nat)(nx:Nat→List Int):Bool:=(List.range n).all (fun i=>(nx i).all fun x=>decide (0≤x∧x≤(n:Int)-1))&&decide (0<n)
def nxN (nx:Nat→List Int)(b:Nat):List Nat:=(nx b).map Int.toNat
inductive Dfs (g:Nat→List Nat):List Nat→List Bool→List Nat→List Bool→List Nat→Prop
 |nil (S:List Bool) (o:List Nat):Dfs g [] S o S o
 |skip {x:Nat} {xs:List Nat} {S S':List Bool} {o o':List Nat}:S.getD x false=true→Dfs g xs S o S' o'→Dfs g (x::xs) S o S' o'
 |go {x:Nat} {xs:List Nat} {S S1 S':List Bool} {o o1 o':List Nat}:S.getD x false=false→Dfs g (g x) (S.set x true) o S1 o1→Dfs g xs S1 (o1++[x]) S' o'→Dfs g (x::xs) S o S' o'
variable {g:Nat→List Nat}{xs:List Nat}{S S' S1:List Bool}{o o' o1:List Nat}
theorem Dfs.app (h:Dfs g xs S o S1 o1):∀{ys:List Nat},Dfs g ys S1 o1 S' o'→Dfs g (xs++ys) S o S' o':=by
 induction h with
 |nil S o=>exact fun h=>h
 |skip h1 h2 ih=>exact fun h=>.skip h1 (ih h)
 |go h1 h2 h3 ih1 ih2=>exact fun h=>.go h1 h2 (ih2 h)
theorem Dfs.one {x:Nat}(h1:S.getD x false=false)(h:Dfs g (g x) (S.set x true) o S1 o1):Dfs g [x] S o S1 (o1++[x]):=.go h1 h (.nil _ _)
theorem Dfs.len (h:Dfs g xs S o S' o'):S'.length=S.length:=by
 induction h with
 |nil=>rfl
 |skip _ _ ih=>exact ih
 |go _ _ _ ih1 ih2=>rw[ih2,ih1,List.length_set]
theorem Q7n (S:List Bool)(x y:Nat):(S.set x true).getD y false=(if y=x∧x<S.length then true else S.getD y false):=by
 simp only[List.getD_eq_getElem?_getD,List.getElem?_set]
 by_cases h:x=y
 ·subst h
  by_cases h2:x<S.length
  ·simp[h2]
  ·simp[h2]
 ·have h':¬y=x:=fun hh=>h hh.symm
  simp[h,h']
theorem Dfs.mono (h:Dfs g xs S o S' o'):∀x,S.getD x false=true→S'.getD x false=true:=by
 induction h with
 |nil=>exact fun _ h=>h
 |skip _ _ ih=>exact ih
 |go _ _ _ ih1 ih2=>
  intro x hx
  refine ih2 x (ih1 x ?_)
  rw[Q7n]
  split
  ·rfl
  ·exact hx
def cnt (S:List Bool):Nat:=S.count true
theorem Qa62 {x:Nat}(hx:x<S.length)(h:S.getD x false=false):cnt (S.set x true)=cnt S+1:=by
 induction S generalizing x with
 |nil=>simp at hx
 |cons a S ih=>
  cases x with
  |zero=>
   simp at h;subst h
   simp[cnt]
  |succ x=>
   have:=ih (x:=x) (by simpa using hx) (by simpa using h)
   simp only[cnt,List.set_cons_succ,List.count_cons]at this⊢
   omega
theorem Dfs.count (h:Dfs g xs S o S' o'):(∀x,x<S.length→∀y∈g x,y<S.length)→(∀x∈xs,x<S.length)→o'.length+cnt S=o.length+cnt S':=by
 induction h with
 |nil=>intros;rfl
 |skip _ _ ih=>exact fun h1 h2=>ih h1 fun x hx=>h2 x (List.mem_cons_of_mem _ hx)
 |@go x xs S S1 S' o o1 o' h1 h2 h3 ih1 ih2=>
  intro hg hxs
  have hx:=hxs x List.mem_cons_self
  have e1:=ih1 (by simpa using hg) (by simpa using hg x hx)
  have hl:=h2.len
  rw[List.length_set]at hl
  have e2:=ih2 (by rw[hl];exact hg) (by rw[hl];exact fun y hy=>hxs y (List.mem_cons_of_mem _ hy))
  rw[Qa62 hx h1]at e1
  simp only[List.length_append,List.length_cons,List.length_nil]at e2
  omega
theorem Dfs.all (h:Dfs g xs S o S' o'):∀P:Nat→Prop,(∀x,P x→∀y∈g x,P y)→(∀x∈xs,P x)→(∀x∈o,P x)→∀x∈o',P x:=by
 induction h with
 |nil=>exact fun P _ _ h=>h
 |skip _ _ ih=>exact fun P h1 h2 h3=>ih P h1 (fun x hx=>h2 x (List.mem_cons_of_mem _ hx)) h3
 |go h1 h2 h3 ih1 ih2=>
  intro P hg hxs ho
  have hx:=hxs _ List.mem_cons_self
  refine ih2 P hg (fun y hy=>hxs y (List.mem_cons_of_mem _ hy)) fun y hy=>?_
  rcases List.mem_append.1 hy with hy|hy
  ·exact ih1 P hg (hg _ hx) ho y hy
  ·simp at hy;subst hy;exact hx
end Go.AE.Y

namespace Go.AE.Y
open Go.Proofs.Tryz
variable {H:Heap}{K:V→Heap→Prop}
structure GRd (H:Heap)(c:C)(rows:List (List C))(nx:Nat→List Int):Prop where
 s:Slc H 5 rows c
 ow:c.isOw=false
 no:∀r∈rows,noOw r=true
 x:∀i,i<rows.length→∃a1 a2 a3 a4 fl,rows.getD i []=[a1,a2,a3,a4,.sl fl 1 (Qb (nx i))]
theorem GRd.keep {c:C}{rows:List (List C)}{nx:Nat→List Int}{H':Heap}{E L:List (Nat×Obj)}(h:GRd H c rows nx)(kn:Kn H H' E L)(hE:∀l a b d,c=.vsl l a b d→l∉E.map Prod.fst):GRd H' c rows nx:=⟨h.s.keep kn hE,h.ow,h.no,h.x⟩
theorem GRd.keep0 {c:C}{rows:List (List C)}{nx:Nat→List Int}{H':Heap}{L:List (Nat×Obj)}(h:GRd H c rows nx)(kn:Kn H H' [] L):GRd H' c rows nx:=h.keep kn (by simp)
def gnx (q:CodeD):Nat→List Int:=fun i=>(q.blocks.map BlkD.next).getD i []
theorem Quh (H:Heap)(q:CodeD)(fl:Bool):GRd H (.sl fl 5 (Qr q.blocks)) (Qr q.blocks) (gnx q):=by
 refine⟨.mk' _ _ _ _,rfl,Qaup _,fun i h=>?_⟩
 rw[Qq]at h
 rw[Qan _ _ h]
 have:gnx q i=q.blocks[i].next:=by simp[gnx,List.getD_eq_getElem?_getD,h]
 exact⟨.sl false 2 (Qw q.blocks[i].phis),.sl false 4 (Qav q.blocks[i].ins),.int .i64 q.blocks[i].jump,.int .i64 q.blocks[i].on,false,by rw[this];rfl⟩
end Go.AE.Y

namespace Go.AE.Y
open Go.Proofs.Tryz
def Q0f (S:List Bool):List (List C):=S.map fun b=>[.bool b]
def Qa1k (l:List Nat):List (List C):=Qb (l.map Int.ofNat)
end Go.AE.Y

namespace Go.AE.Y
open Go.Proofs.Tryz
variable {H:Heap}{K:V→Heap→Prop}
theorem Qda {n lo hi:Int}(hK:K (.c (.bool (decide (lo≤n)&&decide (n≤hi)))) H):Qp prog Qaq [.c (.int .i64 n),.c (.int .i64 lo),.c (.int .i64 hi)] H K:=by
 refine Qd Qak Qavh ?_
 refine Qa ?_
 simp only[go_sem]
 refine Qa ?_
 simp only[go_sem]
 refine Qk ?_
 simp only[go_sem,Q3,Q9,Q9b,List.mem_singleton,forall_eq,RS.op]
 have:(bif decide (lo≤n)then decide (n≤hi)else false)=(decide (lo≤n)&&decide (n≤hi)):=by cases decide (lo≤n) <;> rfl
 first|exact hK|(rw[this];exact hK)|(simpa[this]using hK)
def IsIx (ns:List Int)(v r:Int):Prop:=(r=-1∧v∉ns)∨∃i:Nat,r=i∧i<ns.length∧ns.getD i 0=v∧v∉ns.take i
theorem IsIx.nonneg {ns:List Int}{v r:Int}(h:IsIx ns v r):decide (0≤r)=ns.contains v:=by
 rcases h with ⟨rfl,hn⟩|⟨i,rfl,h1,h2,_⟩
 ·have:ns.contains v=false:=by
   cases hc:ns.contains v with
   |false=>rfl
   |true=>exact absurd (List.contains_iff_mem.1 hc) hn
  rw[this];rfl
 ·have:v∈ns:=by
   rw[←h2,List.getD_eq_getElem?_getD,List.getElem?_eq_getElem h1];exact List.getElem_mem h1
  rw[List.contains_iff_mem.2 this];simp
theorem Qa6l {c:C}{ns:List Int}{v:Int}(hs:Slc H 1 (Qb ns) c)(how:c.isOw=false)(hK:∀r,IsIx ns v r→K (.c (.int .i64 r)) H) :
  Qp prog Qlx [.c c,.c (.int .i64 v)] H K:=by
 refine Qd Qak Qa3q ?_
 have hok:=eq_true hs.ok
 have hlen:=hs.len
 have hsz:=hs.sz
 have hrw:=hs.rows
 refine Qa ?_
 simp only[go_sem,how]
 refine Q6 ?_
 refine Qa ?_
 simp only[go_sem,how,hok,hlen,Qc]
 intro hl
 simp only[LIM]at hl
 refine Qh (Qg (Qy (fun m e1 H1=>∃(i:Nat),m=ns.length-i∧i≤ns.length∧H1=H∧v∉ns.take i∧e1=[(0,.c c),(1,.c (.int .i64 v)),(7,.c (.int .i64 ns.length)),(8,.c (.int .i64 i))]) ns.length ?_ ?_))
 ·exact⟨0,by omega,by omega,rfl,by simp,rfl⟩
 ·rintro m e1 H1 ⟨i,hm,hi,rfl,hno,rfl⟩
  refine Qa ?_
  simp only[go_sem,how]
  refine Qh (Qe rfl ?_ ?_)
  ·intro hc
   have hlt:i<ns.length:=by simpa using hc
   have hgd:ns.getD i 0=ns[i]:=by simp[List.getD_eq_getElem?_getD,hlt]
   refine Qi ?_
   simp only[go_sem]
   refine Qh (Qg ?_)
   refine Qa ?_
   simp only[go_sem,how]
   refine Qa ?_
   simp only[go_sem,how,hok,hlen,hsz,hrw,hlt,Qc,Qm _ _ hlt]
   refine Qe rfl ?_ ?_
   ·intro hc2
    have hv:v=ns.getD i 0:=by simpa using hc2
    refine Qa ?_
    simp only[go_sem]
    refine Qk ?_
    simp only[go_sem,X.next,Q3,Q9,Q06,List.mem_singleton,forall_eq,RS.op]
    exact hK _ (.inr ⟨i,rfl,hlt,hv.symm,hno⟩)
   ·intro hc2
    have hv:¬v=ns.getD i 0:=by simpa using hc2
    refine Qi ?_
    simp only[go_sem]
    refine Qt ?_
    simp only[go_sem,X.next]
    refine⟨Qs (by omega) (by omega),ns.length-(i+1),by omega,i+1,rfl,by omega,?_,rfl⟩
    rw[List.take_succ_eq_append_getElem hlt]
    simp only[List.mem_append,List.mem_singleton,not_or]
    exact⟨hno,fun h=>hv (by rw[hgd];exact h)⟩
  ·intro hc
   have hge:ns.length≤i:=by simpa using hc
   rw[List.take_of_length_le hge]at hno
   refine Q0 ?_
   simp only[go_sem,X.next]
   refine Qa ?_
   simp only[go_sem]
   refine Qk ?_
   simp only[go_sem,Q3,Q9,Q06,List.mem_singleton,forall_eq,RS.op]
   exact hK _ (.inl ⟨rfl,hno⟩)
theorem Qajo {c:C}{ns:List Int}{v:Int}(hs:Slc H 1 (Qb ns) c)(how:c.isOw=false)(hK:K (.c (.bool (ns.contains v))) H) :
  Qp prog Qe3 [.c c,.c (.int .i64 v)] H K:=by
 refine Qd Qak Qalu ?_
 refine Qa ?_
 simp only[go_sem,how]
 refine Qa ?_
 simp only[go_sem,how]
 refine Qa6l hs how fun r hr=>?_
 simp only[go_sem,Qoh]
 refine Qk ?_
 simp only[go_sem,Q3,Q9,Qy1,List.mem_singleton,forall_eq,RS.op]
 rw[hr.nonneg];exact hK
theorem Qaul {c:C}{ns:List Int}{f:Nat}{caps:List C}{p:Int→Bool}(hs:Slc H 1 (Qb ns) c)(how:c.isOw=false)
  (hf:∀(x:Int) (K':V→Heap→Prop),x∈ns→K' (.c (.bool (p x))) H→Qp prog f ([.c (.int .i64 x)]++caps.map .c) H K')
  (hK:∀r:Int,decide (0≤r)=ns.any p→K (.c (.int .i64 r)) H) :
  Qp prog Qhb [.c c,.c (.fn f caps)] H K:=by
 refine Qd Qak Qaft ?_
 have hok:=eq_true hs.ok
 have hlen:=hs.len
 have hsz:=hs.sz
 have hrw:=hs.rows
 refine Qa ?_
 simp only[go_sem,how]
 refine Q6 ?_
 refine Qa ?_
 simp only[go_sem,how,hok,hlen,Qc]
 intro hl
 simp only[LIM]at hl
 refine Qh (Qg (Qy (fun m e1 H1=>∃(i:Nat),m=ns.length-i∧i≤ns.length∧H1=H∧(∀x∈ns.take i,p x=false)∧e1=[(0,.c c),(1,.c (.fn f caps)),(7,.c (.int .i64 ns.length)),(8,.c (.int .i64 i))]) ns.length ?_ ?_))
 ·exact⟨0,by omega,by omega,rfl,by simp,rfl⟩
 ·rintro m e1 H1 ⟨i,hm,hi,rfl,hno,rfl⟩
  refine Qa ?_
  simp only[go_sem,how]
  refine Qh (Qe rfl ?_ ?_)
  ·intro hc
   have hlt:i<ns.length:=by simpa using hc
   have hgd:ns.getD i 0=ns[i]:=by simp[List.getD_eq_getElem?_getD,hlt]
   refine Qi ?_
   simp only[go_sem]
   refine Qh (Qg ?_)
   refine Qa ?_
   simp only[go_sem,how]
   refine Qa ?_
   simp only[go_sem,how,hok,hlen,hsz,hrw,hlt,Qc,Qm _ _ hlt]
   refine hf _ _ (by rw[hgd];exact List.getElem_mem hlt) ?_
   refine Qe rfl ?_ ?_
   ·intro hc2
    refine Qa ?_
    simp only[go_sem]
    refine Qk ?_
    simp only[go_sem,X.next,Q3,Q9,Qjk,List.mem_singleton,forall_eq,RS.op]
    refine hK _ ?_
    have:ns.any p=true:=List.any_eq_true.2 ⟨ns[i],List.getElem_mem hlt,by rw[←hgd];exact hc2⟩
    rw[this];simp
   ·intro hc2
    refine Qi ?_
    simp only[go_sem]
    refine Qt ?_
    simp only[go_sem,X.next]
    refine⟨Qs (by omega) (by omega),ns.length-(i+1),by omega,i+1,rfl,by omega,?_,rfl⟩
    rw[List.take_succ_eq_append_getElem hlt]
    intro x hx
    rcases List.mem_append.1 hx with hx|hx
    ·exact hno x hx
    ·simp only[List.mem_singleton]at hx;subst hx;rw[←hgd];exact hc2
  ·intro hc
   have hge:ns.length≤i:=by simpa using hc
   rw[List.take_of_length_le hge]at hno
   refine Q0 ?_
   simp only[go_sem,X.next]
   refine Qa ?_
   simp only[go_sem]
   refine Qk ?_
   simp only[go_sem,Q3,Q9,Qjk,List.mem_singleton,forall_eq,RS.op]
   refine hK _ ?_
   have:ns.any p=false:=by
    cases hc:ns.any p with
    |false=>rfl
    |true=>obtain⟨x,hx,hp⟩:=List.any_eq_true.1 hc;rw[hno x hx]at hp;exact absurd hp (by simp)
   rw[this];rfl
theorem Qe1 {c:C}{ns:List Int}{f:Nat}{caps:List C}{p:Int→Bool}(hs:Slc H 1 (Qb ns) c)(how:c.isOw=false)
  (hf:∀(x:Int) (K':V→Heap→Prop),x∈ns→K' (.c (.bool (p x))) H→Qp prog f ([.c (.int .i64 x)]++caps.map .c) H K')
  (hK:K (.c (.bool (ns.any p))) H):Qp prog Qa8 [.c c,.c (.fn f caps)] H K:=by
 refine Qd Qak Q0x ?_
 refine Qa ?_
 simp only[go_sem,how]
 refine Qa ?_
 simp only[go_sem,how]
 refine Qaul hs how hf fun r hr=>?_
 simp only[go_sem,Qga]
 refine Qk ?_
 simp only[go_sem,Q3,Q9,Qkj,List.mem_singleton,forall_eq,RS.op]
 rw[hr];exact hK
end Go.AE.Y

namespace Go.AE.Y
attribute [local instance] Classical.propDecidable
inductive Rch (g:Nat→List Nat)(A:Nat→Prop):Nat→Nat→Prop
 |refl {x:Nat}:¬A x→Rch g A x x
 |step {x y z:Nat}:Rch g A x y→z∈g y→¬A z→Rch g A x z
variable {g:Nat→List Nat}{A B:Nat→Prop}{x y z:Nat}
theorem Rch.mono (h:Rch g A x y)(hAB:∀z,B z→A z):Rch g B x y:=by
 induction h with
 |refl h=>exact .refl fun hb=>h (hAB _ hb)
 |step h1 h2 h3 ih=>exact ih.step h2 fun hb=>h3 (hAB _ hb)
theorem Rch.fst (h:Rch g A x y):¬A x:=by
 induction h with
 |refl h=>exact h
 |step _ _ _ ih=>exact ih
theorem Rch.snd (h:Rch g A x y):¬A y:=by
 cases h with
 |refl h=>exact h
 |step _ _ h=>exact h
theorem Rch.trans (h:Rch g A x y)(k:Rch g A y z):Rch g A x z:=by
 induction k with
 |refl _=>exact h
 |step _ h2 h3 ih=>exact ih.step h2 h3
theorem Rch.head (hx:¬A x)(hy:y∈g x)(h:Rch g A y z):Rch g A x z:=(Rch.step (.refl hx) hy h.fst).trans h
theorem Rch.lt {n:Nat}(hg:∀x,x<n→∀y∈g x,y<n)(h:Rch g A x y)(hx:x<n):y<n:=by
 induction h with
 |refl _=>exact hx
 |step _ h2 _ ih=>exact hg _ ih _ h2
variable {xs:List Nat}{S S' S1:List Bool}{o o' o1:List Nat}
theorem Dfs.adds (h:Dfs g xs S o S' o'):(∀x,x<S.length→∀y∈g x,y<S.length)→(∀x∈xs,x<S.length)→
  ∃t,o'=o++t∧(∀x,S'.getD x false=true↔S.getD x false=true∨x∈t)∧(∀x∈t,∀y∈g x,S'.getD y false=true)∧
   (∀x∈xs,S'.getD x false=true)∧(∀y∈t,∃x∈xs,Rch g (fun z=>S.getD z false=true) x y):=by
 induction h with
 |nil S o=>exact fun _ _=>⟨[],by simp,by simp,by simp,by simp,by simp⟩
 |@skip x xs S S' o o' h1 h2 ih=>
  intro hg hx
  obtain⟨t,e,a1,a2,a3,a4⟩:=ih hg fun y hy=>hx y (List.mem_cons_of_mem _ hy)
  refine⟨t,e,a1,a2,fun y hy=>?_,fun y hy=>?_⟩
  ·rcases List.mem_cons.1 hy with rfl|hy
   ·exact h2.mono _ h1
   ·exact a3 y hy
  ·obtain⟨z,hz,hr⟩:=a4 y hy
   exact⟨z,List.mem_cons_of_mem _ hz,hr⟩
 |@go x xs S S1 S' o o1 o' h1 h2 h3 ih1 ih2=>
  intro hg hxs
  have hx:=hxs x List.mem_cons_self
  have hl:=h2.len
  rw[List.length_set]at hl
  obtain⟨t1,e1,a1,a2,a3,a4⟩:=ih1 (by simpa using hg) (by simpa using hg x hx)
  obtain⟨t2,e2,b1,b2,b3,b4⟩:=ih2 (by rw[hl];exact hg) (by rw[hl];exact fun y hy=>hxs y (List.mem_cons_of_mem _ hy))
  have hset:∀y,(S.set x true).getD y false=true↔y=x∨S.getD y false=true:=by
   intro y
   rw[Q7n]
   by_cases hyx:y=x
   ·simp[hyx,hx]
   ·simp[hyx]
  have hmono:∀y,S.getD y false=true→S1.getD y false=true:=fun y hy=>(a1 y).2 (.inl ((hset y).2 (.inr hy)))
  have hxS1:S1.getD x false=true:=(a1 x).2 (.inl ((hset x).2 (.inl rfl)))
  refine⟨t1++[x]++t2,by rw[e2,e1];simp,fun y=>?_,fun y hy z hz=>?_,fun y hy=>?_,fun y hy=>?_⟩
  ·rw[b1,a1,hset]
   simp only[List.mem_append,List.mem_singleton]
   constructor
   ·rintro (((h|h)|h)|h)
    ·exact .inr (.inl (.inr h))
    ·exact .inl h
    ·exact .inr (.inl (.inl h))
    ·exact .inr (.inr h)
   ·rintro (h|((h|h)|h))
    ·exact .inl (.inl (.inr h))
    ·exact .inl (.inr h)
    ·exact .inl (.inl (.inl h))
    ·exact .inr h
  ·rcases List.mem_append.1 hy with hy|hy
   ·rcases List.mem_append.1 hy with hy|hy
    ·exact (b1 z).2 (.inl (a2 y hy z hz))
    ·simp only[List.mem_singleton]at hy;subst hy
     exact (b1 z).2 (.inl (a3 z hz))
   ·exact b2 y hy z hz
  ·rcases List.mem_cons.1 hy with rfl|hy
   ·exact (b1 y).2 (.inl hxS1)
   ·exact b3 y hy
  ·rcases List.mem_append.1 hy with hy|hy
   ·rcases List.mem_append.1 hy with hy|hy
    ·obtain⟨z,hz,hr⟩:=a4 y hy
     exact⟨x,List.mem_cons_self,.head (by rw[h1];simp) hz (hr.mono fun w hw=>(hset w).2 (.inr hw))⟩
    ·simp only[List.mem_singleton]at hy;subst hy
     exact⟨y,List.mem_cons_self,.refl (by rw[h1];simp)⟩
   ·obtain⟨z,hz,hr⟩:=b4 y hy
    exact⟨z,List.mem_cons_of_mem _ hz,hr.mono hmono⟩
theorem Dfs.seen (h:Dfs g xs S o S' o')(hg:∀x,x<S.length→∀y∈g x,y<S.length)(hxs:∀x∈xs,x<S.length)(y:Nat) :
  S'.getD y false=true↔S.getD y false=true∨∃x∈xs,Rch g (fun z=>S.getD z false=true) x y:=by
 obtain⟨t,e,a1,a2,a3,a4⟩:=h.adds hg hxs
 constructor
 ·intro hy
  rcases (a1 y).1 hy with hy|hy
  ·exact .inl hy
  ·exact .inr (a4 y hy)
 ·rintro (hy|⟨x,hx,hr⟩)
  ·exact h.mono y hy
  ·induction hr with
   |refl _=>exact a3 _ hx
   |step h1 h2 h3 ih=>
    rcases (a1 _).1 ih with h|h
    ·exact absurd h h1.snd
    ·exact a2 _ h _ h2
theorem Qa6q:∀{l k:List Nat},l.Pairwise (· < ·)→k.Pairwise (· < ·)→(∀x,x∈l↔x∈k)→l=k
 |[],[],_,_,_=>rfl
 |[],b::k,_,_,h=>by have:=(h b).2 List.mem_cons_self;simp at this
 |a::l,[],_,_,h=>by have:=(h a).1 List.mem_cons_self;simp at this
 |a::l,b::k,h1,h2,h=>by
  rw[List.pairwise_cons]at h1 h2
  have hab:a=b:=by
   rcases List.mem_cons.1 ((h a).1 List.mem_cons_self)with e|e
   ·exact e
   ·rcases List.mem_cons.1 ((h b).2 List.mem_cons_self)with e'|e'
    ·exact e'.symm
    ·have:=h1.1 b e';have:=h2.1 a e;omega
  subst hab
  congr 1
  refine Qa6q h1.2 h2.2 fun x=>⟨fun hx=>?_,fun hx=>?_⟩
  ·rcases List.mem_cons.1 ((h x).1 (List.mem_cons_of_mem _ hx))with e|e
   ·subst e;have:=h1.1 x hx;omega
   ·exact e
  ·rcases List.mem_cons.1 ((h x).2 (List.mem_cons_of_mem _ hx))with e|e
   ·subst e;have:=h2.1 x hx;omega
   ·exact e
theorem Qa6r {l:List Nat}{n:Nat}{p:Nat→Bool}(h1:l.Pairwise (· < ·))(h:∀x,x∈l↔x<n∧p x=true):l=(List.range n).filter p:=
 Qa6q h1 (List.Pairwise.filter _ List.pairwise_lt_range) fun x=>by rw[h];simp[List.mem_filter]
noncomputable def rchB (g:Nat→List Nat)(a:Int)(x:Nat):Bool:=decide (Rch g (fun z=>(z:Int)=a) 0 x)
noncomputable def domB (g:Nat→List Nat)(a b:Nat):Bool:=rchB g (-1) a&&rchB g (-1) b&&!rchB g a b
def Qaly (n:Nat)(g:Nat→List Nat)(h:Nat):List Nat:=(List.range n).filter fun i=>decide (h∈g i)
noncomputable def Qbl0 (n:Nat)(g:Nat→List Nat)(h:Nat):Bool:=(Qaly n g h).any fun p=>domB g h p
noncomputable def Qbl1 (n:Nat)(g:Nat→List Nat):List Nat:=(List.range n).filter (Qbl0 n g)
inductive Bdy (n:Nat)(g:Nat→List Nat)(h:Nat):Nat→Prop
 |head:Bdy n g h h
 |back {p:Nat}:p∈Qaly n g h→domB g h p=true→Bdy n g h p
 |more {b p:Nat}:Bdy n g h b→b≠h→p∈Qaly n g b→rchB g (-1) p=true→Bdy n g h p
noncomputable def Qa6w (n:Nat)(g:Nat→List Nat)(h:Nat):List Nat:=(List.range n).filter fun b=>decide (Bdy n g h b)
variable {n h:Nat}
theorem predL_mem {p:Nat}:p∈Qaly n g h↔p<n∧h∈g p:=by simp[Qaly]
theorem Bdy.lt {b:Nat}(hh:h<n)(hb:Bdy n g h b):b<n:=by
 cases hb with
 |head=>exact hh
 |back h1 _=>exact (predL_mem.1 h1).1
 |more _ _ h1 _=>exact (predL_mem.1 h1).1
theorem Qa6y (hh:h<n){b:Nat}:b∈Qa6w n g h↔Bdy n g h b:=by
 simp only[Qa6w,List.mem_filter,List.mem_range,decide_eq_true_eq]
 exact⟨fun h=>h.2,fun h=>⟨h.lt hh,h⟩⟩
theorem Qa6x:(Qa6w n g h).Pairwise (· < ·):=List.Pairwise.filter _ List.pairwise_lt_range
end Go.AE.Y

namespace Go.AE.Y
open Go.Proofs.Tryz
variable {H:Heap}{K:V→Heap→Prop}
theorem GRd.ows {c:C}{rows:List (List C)}{nx:Nat→List Int}(h:GRd H c rows nx){i:Nat}(hi:i<rows.length){a1 a2 a3 a4 a5:C}(hr:rows.getD i []=[a1,a2,a3,a4,a5]) :
  a1.isOw=false∧a2.isOw=false∧a3.isOw=false∧a4.isOw=false∧a5.isOw=false:=by
 have:=h.no _ (List.getElem_mem hi)
 have e:rows[i]=[a1,a2,a3,a4,a5]:=by rw[←hr];simp[List.getD_eq_getElem?_getD,hi]
 rw[e]at this
 simpa[Go.AE.noOw]using this
def Qfx (nx:Nat→List Int)(b:Int)(n:Nat):List Int:=if decide (0≤b)&&decide (b≤(n:Int)-1)then Q1 nx b n else []
set_option maxHeartbeats 1000000 in
theorem Qpe {p rg:Int}{bc:C}{rows:List (List C)}{nx:Nat→List Int}{b:Int}(hg:GRd H bc rows nx)
  (hK:∀fl H',Upd H H' []→K (.c (.sl fl 1 (Qb (Qfx nx b rows.length)))) H'):Qp prog Qb0 [.ag [.int .i64 p,.int .i64 rg,bc],.c (.int .i64 b)] H K:=by
 refine Qz ?_
 refine Qd Qak Qapk ?_
 have how:=hg.ow
 have hok:=eq_true hg.s.ok
 have hlen:=hg.s.len
 have hsz:=hg.s.sz
 refine Qa ?_
 simp only[go_sem,how]
 refine Qa ?_
 simp only[go_sem,how]
 refine Q6 ?_
 refine Qa ?_
 simp only[go_sem,how,hok,hlen]
 intro hl
 simp only[LIM]at hl
 refine⟨Qs (by omega) (by omega),?_⟩
 refine Qda ?_
 simp only[go_sem,Qqi]
 refine Qh (Qe rfl ?_ ?_)
 ·intro hc
  have hc':=Qxk hc
  refine Qa ?_
  simp only[go_sem]
  refine Qk ?_
  simp only[go_sem,Q3,Q9,Qp7,List.mem_singleton,forall_eq,RS.op]
  have h:=hK false _ (Kn.start0 H).fin
  simp only[Qfx,hc']at h
  exact⟨_,.c _ _ FrzR.nil.sl,h⟩
 ·intro hc
  have hc':=Qh7 hc
  refine Qi ?_
  simp only[go_sem]
  refine Q6 ?_
  refine Qa ?_
  simp only[go_sem,how,hok,hlen]
  intro _
  refine Qh (Qg (Qy (fun m e1 H1=>∃(i:Nat) (c:C) (Lg:List (Nat×Obj)),m=rows.length-i∧i≤rows.length∧Gr Lg 1 (Qb (Q1 nx b i)) c∧Kn H H1 [] ([]++Lg)∧
   e1=[(1,.c (.int .i64 b)),(5,.c c),(16,.c bc),(17,.c (.int .i64 rows.length)),(18,.c (.int .i64 i))]) rows.length ?_ ?_))
  ·exact⟨0,_,[],by omega,by omega,.nil 1,Kn.start0 H,rfl⟩
  ·rintro m e1 H1 ⟨i,c,Lg,hm,hi,hgr,kn,rfl⟩
   have hg1:=hg.keep0 kn
   have hok1:=eq_true hg1.s.ok
   have hrw1:=hg1.s.rows
   refine Qa ?_
   simp only[go_sem]
   refine Qh (Qe rfl ?_ ?_)
   ·intro hc
    have hlt:i<rows.length:=by simpa using hc
    obtain⟨a1,a2,a3,a4,fl,hrow⟩:=hg.x i hlt
    obtain⟨o1,o2,o3,o4,_⟩:=hg.ows hlt hrow
    refine Qi ?_
    simp only[go_sem]
    refine Qw6 (fun e2 H2=>∃(c:C) (Lg:List (Nat×Obj)),Gr Lg 1 (Qb (Q1 nx b (i+1))) c∧Kn H H2 [] ([]++Lg)∧
     lk 1 e2=.c (.int .i64 b)∧lk 5 e2=.c c∧lk 16 e2=.c bc∧lk 17 e2=.c (.int .i64 rows.length)∧lk 18 e2=.c (.int .i64 i)) ?_ ?_
    ·intro Q hnr _ _
     refine Qg ?_
     refine Qa ?_
     simp only[go_sem,how,hok1,hlen,hsz,hrw1,hlt,hrow,o1,o2,o3,o4]
     intro x hx H2 h2
     have kn:=(kn.al hx h2).perm List.perm_append_comm
     have hx2:=kn.l 0 rfl
     simp only[go_sem,Qqj,hx2]
     intro H3 h3
     have kn:=kn.stL 0 rfl h3
     have hx3:=kn.l 0 rfl
     refine Qa ?_
     simp only[go_sem,hx3]
     refine Qajo (.mk' _ _ _ _) rfl ?_
     refine Qe rfl ?_ ?_
     ·intro hcon
      have hpl:=Qbq nx b i
      refine Qt ?_
      simp only[go_sem]
      refine kn.grow (B:=[_]) (new:=Qb [(i:Int)]) hgr (.mk' _ _ _ _) (Qo _) (by simp only[Qc,LIM,List.length_cons,List.length_nil];omega) fun y' H4 kn=>?_
      simp only[go_sem,Qqk]
      refine hnr _ _ ⟨_,_,?_,(kn.perm List.perm_append_comm).drop,rfl,rfl,rfl,rfl,rfl⟩
      rw[Qii,hcon,if_pos rfl,Qa2]
      exact .mk _ _ _ (by simp)
     ·intro hcon
      refine Qi ?_
      simp only[go_sem]
      refine hnr _ _ ⟨c,Lg,?_,?_,rfl,rfl,rfl,rfl,rfl⟩
      ·rw[Qii,hcon]
       simpa using hgr
      ·have kn:Kn H H3 [] ([(x,.st [a1,a2,a3,a4,.sl fl 1 (Qb (nx i))])]++([]++Lg)):=kn
       exact (kn.perm List.perm_append_comm).drop
    ·rintro e2 H2 ⟨c2,Lg2,hgr,kn,l1,l5,l16,l17,l18⟩
     refine Qt ?_
     simp only[go_sem,X.next,l1,l5,l16,l17,l18]
     exact⟨Qs (by omega) (by omega),rows.length-(i+1),by omega,i+1,c2,Lg2,rfl,by omega,hgr,kn,rfl⟩
   ·intro hc
    have hge:i=rows.length:=by have:¬i<rows.length:=(by simpa using hc);omega
    subst hge
    refine Q0 ?_
    simp only[go_sem,X.next]
    refine Qa ?_
    simp only[go_sem,hgr.isOw]
    refine Qk ?_
    simp only[go_sem,Q3,Q9,Qp7,List.mem_singleton,forall_eq,RS.op,hgr.isOw]
    refine⟨_,.c _ _ (hgr.frz kn (Qo _)),?_⟩
    have:=hK false _ kn.fin
    simp only[Qfx,hc']at this
    exact this
end Go.AE.Y

namespace Go.AE.Y
attribute [local instance] Classical.propDecidable
structure Wk (g:Nat→List Nat)(a:Int)(n:Nat)(S:List Bool)(T:List Nat):Prop where
 len:S.length=n
 s:∀x,S.getD x false=true→Rch g (fun z=>(z:Int)=a) 0 x
 t:∀x∈T,(x:Int)≠a→Rch g (fun z=>(z:Int)=a) 0 x
 c:∀x,S.getD x false=true→∀y∈g x,S.getD y false=true∨(y:Int)=a∨y∈T
 z:S.getD 0 false=true∨((0:Nat):Int)=a∨0∈T
 r:∀x∈T,x<n
variable {g:Nat→List Nat}{a:Int}{n:Nat}{S:List Bool}{T:List Nat}{b:Nat}
theorem Qvz (n x:Nat):(List.replicate n false).getD x false=false:=by
 simp only[List.getD_eq_getElem?_getD,List.getElem?_replicate]
 split <;> rfl
theorem Wk.init (hn:0<n):Wk g a n (List.replicate n false) [0]:=by
 refine⟨by simp,fun x h=>?_,fun x hx ha=>?_,fun x h=>?_,.inr (.inr (by simp)),fun x hx=>?_⟩
 ·rw[Qvz]at h;simp at h
 ·simp at hx;subst hx;exact .refl (by simpa using ha)
 ·rw[Qvz]at h;simp at h
 ·simp at hx;omega
theorem Wk.skip (h:Wk g a n S (T++[b]))(hb:(b:Int)=a∨S.getD b false=true):Wk g a n S T:=by
 refine⟨h.len,h.s,fun x hx=>h.t x (List.mem_append_left _ hx),fun x hx y hy=>?_,?_,fun x hx=>h.r x (List.mem_append_left _ hx)⟩
 ·rcases h.c x hx y hy with h1|h1|h1
  ·exact .inl h1
  ·exact .inr (.inl h1)
  ·rcases List.mem_append.1 h1 with h1|h1
   ·exact .inr (.inr h1)
   ·simp at h1;subst h1
    rcases hb with hb|hb
    ·exact .inr (.inl hb)
    ·exact .inl hb
 ·rcases h.z with h1|h1|h1
  ·exact .inl h1
  ·exact .inr (.inl h1)
  ·rcases List.mem_append.1 h1 with h1|h1
   ·exact .inr (.inr h1)
   ·simp at h1;subst h1
    rcases hb with hb|hb
    ·exact .inr (.inl hb)
    ·exact .inl hb
theorem Wk.go (h:Wk g a n S (T++[b]))(hba:(b:Int)≠a)(hg:∀y∈g b,y<n):Wk g a n (S.set b true) (T++g b):=by
 have hb:=h.t b (by simp) hba
 have hbn:=h.r b (by simp)
 have hset:∀y,(S.set b true).getD y false=true↔y=b∨S.getD y false=true:=by
  intro y
  rw[Q7n]
  by_cases hyx:y=b
  ·simp[hyx,h.len,hbn]
  ·simp[hyx]
 refine⟨by simp[h.len],fun x hx=>?_,fun x hx ha=>?_,fun x hx y hy=>?_,?_,fun x hx=>?_⟩
 ·rcases (hset x).1 hx with rfl|hx
  ·exact hb
  ·exact h.s x hx
 ·rcases List.mem_append.1 hx with hx|hx
  ·exact h.t x (List.mem_append_left _ hx) ha
  ·exact hb.step hx ha
 ·rcases (hset x).1 hx with rfl|hx
  ·exact .inr (.inr (List.mem_append_right _ hy))
  ·rcases h.c x hx y hy with h1|h1|h1
   ·exact .inl ((hset y).2 (.inr h1))
   ·exact .inr (.inl h1)
   ·rcases List.mem_append.1 h1 with h1|h1
    ·exact .inr (.inr (List.mem_append_left _ h1))
    ·simp at h1;subst h1;exact .inl ((hset y).2 (.inl rfl))
 ·rcases h.z with h1|h1|h1
  ·exact .inl ((hset 0).2 (.inr h1))
  ·exact .inr (.inl h1)
  ·rcases List.mem_append.1 h1 with h1|h1
   ·exact .inr (.inr (List.mem_append_left _ h1))
   ·simp at h1;exact .inl ((hset 0).2 (.inl h1))
 ·rcases List.mem_append.1 hx with hx|hx
  ·exact h.r x (List.mem_append_left _ hx)
  ·exact hg x hx
theorem Wk.fin (h:Wk g a n S []):S=(List.range n).map (rchB g a):=by
 have hh:∀x,S.getD x false=true↔Rch g (fun z=>(z:Int)=a) 0 x:=by
  refine fun x=>⟨h.s x,fun hr=>?_⟩
  induction hr with
  |refl h0=>
   rcases h.z with h1|h1|h1
   ·exact h1
   ·exact absurd h1 h0
   ·simp at h1
  |step h1 h2 h3 ih=>
   rcases h.c _ ih _ h2 with h4|h4|h4
   ·exact h4
   ·exact absurd h4 h3
   ·simp at h4
 refine List.ext_getElem? fun x=>?_
 by_cases hx:x<n
 ·have hxs:x<S.length:=by rw[h.len];exact hx
  have:=hh x
  simp only[List.getD_eq_getElem?_getD,List.getElem?_eq_getElem hxs,Option.getD_some]at this
  rw[List.getElem?_eq_getElem hxs]
  simp only[List.getElem?_map,List.getElem?_range hx,Option.map_some,rchB]
  congr 1
  by_cases hr:Rch g (fun z=>(z:Int)=a) 0 x
  ·rw[this.2 hr,decide_eq_true hr]
  ·rw[decide_eq_false hr]
   cases hv:S[x]with
   |false=>rfl
   |true=>exact absurd (this.1 hv) hr
 ·rw[List.getElem?_eq_none (by rw[h.len];omega),List.getElem?_eq_none (by simp;omega)]
end Go.AE.Y

namespace Go.AE.Y
open Go.Proofs.Tryz
variable {H H0:Heap}{K:V→Heap→Prop}
end Go.AE.Y

namespace Go.AE
variable {H0 F H:Heap}{E E0 E' L L1 L2 M:List (Nat×Obj)}
theorem Kn.startE (h:∀p∈E,H p.1=p.2∧p.2≠.none)(hd:(E.map Prod.fst).Nodup):Kn H H E []:=
 ⟨by simpa using h,fun p hp=>by rw[(h p hp).1];exact (h p hp).2,by simp,hd,by simp,fun _ _ _=>rfl⟩
theorem Kn.mid (k:Kn H0 F E0 (L1++L2)):Kn F F L1 []:=
 .startE (fun p hp=>k.get p (List.mem_append_right _ (List.mem_append_left _ hp))) (by
  have:=k.dL;rw[List.map_append]at this;exact (List.nodup_append.1 this).1)
theorem Kn.upd (k:Kn H0 H E L):Upd H0 H E:=⟨fun p hp=>(k.get p (List.mem_append_left _ hp)).1,fun m hm hn=>k.chg m hm hn⟩
theorem Y.FrzL.ptr {S:Nat→Bool}{l:Nat}{cells cells':List C}(hS:S l=true)(hH:H l=.st cells)(h:FrzL H S cells cells'):FrzC H S (.ptr l 0) (.pp cells'):=by
 obtain⟨h1,h2⟩:=h.spec
 exact .ptr l 0 cells cells cells' hS hH rfl h1 h2
theorem Kn.growR {B Lg:List (Nat×Obj)}{K:V→Heap→Prop}{sz:Nat}{rows new:List (List C)}{b c:C}(kn:Kn H0 H E (B++Lg))(hc:Gr Lg sz rows c)(hb:Slc H sz new b)
  (h1:∀r∈new,noOw r=true) (h2:rows.length+new.length≤LIM)
  (h:∀t Lg' H',Gr Lg' sz (rows++new) t→t.isOw=false→Kn H0 H' E (B++Lg')→K (.c t) H'):appQ H sz c b K:=
 kn.grow hc hb h1 h2 fun y' H' k=>h _ _ H' (.mk y' sz _ (by simp)) rfl k
end Go.AE

namespace Go.AE.Y
open Go.Proofs.Tryz
variable {H H0:Heap}{K:V→Heap→Prop}
def Qbi9 (x3 x4 x5:Nat)(p rg:Int)(bc:C):List C:=[.ptr x4 0,.pp [.int .i64 p,.int .i64 rg,bc],.ptr x5 0,.ptr x3 0]
def visE (x3 x4 x5 y n:Nat)(p rg:Int)(bc:C)(S:List Bool)(oc:C):List (Nat×Obj):=
 [(y,.vec 1 (Q0f S)),(x3,.st [oc]),(x4,.st [.vsl y 1 0 n]),(x5,.st [.fn Q77 (Qbi9 x3 x4 x5 p rg bc)])]
end Go.AE.Y

namespace Go.AE.Y
variable {ns:List Int}{n:Int}{at':Nat}
structure InsAt (ns:List Int)(n:Int)(k:Nat):Prop where
 le:k≤ns.length
 lo:∀i,i<k→∀(h:i<ns.length),ns[i]<n
 hi:∀(h:k<ns.length),n≤ns[k]
theorem InsAt.mem_of_asc {k:Nat}(h:InsAt ns n k)(ha:ns.Pairwise (· < ·)):(∀x∈ns.take k,x<n)∧(∀x∈ns.drop k,n≤x)∧(∀x∈ns.drop (k+1),n<x):=by
 have hp:=List.pairwise_iff_getElem.1 ha
 refine⟨fun x hx=>?_,fun x hx=>?_,fun x hx=>?_⟩
 ·obtain⟨i,hi,rfl⟩:=List.mem_iff_getElem.1 hx
  rw[List.getElem_take]
  rw[List.length_take]at hi
  exact h.lo i (by omega) (by omega)
 ·obtain⟨i,hi,rfl⟩:=List.mem_iff_getElem.1 hx
  rw[List.getElem_drop]
  rw[List.length_drop]at hi
  have h1:=h.hi (by omega)
  by_cases h0:i=0
  ·subst h0;exact h1
  ·have:=hp k (k+i) (by omega) (by omega) (by omega)
   exact Int.le_trans h1 (Int.le_of_lt this)
 ·obtain⟨i,hi,rfl⟩:=List.mem_iff_getElem.1 hx
  rw[List.getElem_drop]
  rw[List.length_drop]at hi
  have h1:=h.hi (by omega)
  have:=hp k (k+1+i) (by omega) (by omega) (by omega)
  exact Int.lt_of_le_of_lt h1 this
theorem InsAt.new {k:Nat}(h:InsAt ns n k)(ha:ns.Pairwise (· < ·))(hn:∀(h:k<ns.length),ns[k]≠n) :
  (ns.take k++[n]++ns.drop k).Pairwise (· < ·)∧(∀x,x∈ns.take k++[n]++ns.drop k↔x=n∨x∈ns):=by
 obtain⟨h1,h2,h3⟩:=h.mem_of_asc ha
 have h4:∀x∈ns.drop k,n<x:=by
  intro x hx
  have hk:k<ns.length:=by
   rcases Nat.lt_or_ge k ns.length with h|h
   ·exact h
   ·rw[List.drop_eq_nil_of_le h]at hx;simp at hx
  rw[List.drop_eq_getElem_cons hk]at hx
  rcases List.mem_cons.1 hx with rfl|hx
  ·have:=h.hi hk;have:=hn hk;omega
  ·exact h3 x hx
 refine⟨?_,fun x=>?_⟩
 ·rw[List.append_assoc,List.pairwise_append]
  refine⟨ha.sublist (List.take_sublist _ _),?_,fun a ha' b hb=>?_⟩
  ·rw[List.singleton_append,List.pairwise_cons]
   exact⟨h4,ha.sublist (List.drop_sublist _ _)⟩
  ·have:=h1 a ha'
   rcases List.mem_append.1 hb with hb|hb
   ·simp at hb;subst hb;exact this
   ·have:=h2 b hb;omega
 ·conv=>rhs;rw[←List.take_append_drop k ns]
  simp only[List.mem_append,List.mem_singleton]
  constructor
  ·rintro ((h|h)|h)
   ·exact .inr (.inl h)
   ·exact .inl h
   ·exact .inr (.inr h)
  ·rintro (h|h|h)
   ·exact .inl (.inr h)
   ·exact .inl (.inl h)
   ·exact .inr h
end Go.AE.Y

namespace Go.AE.Y
open Go.Proofs.Tryz
variable {H H0:Heap}{K:V→Heap→Prop}
theorem Qbhk {c:C}{ns:List Int}{v:Int}(hs:Slc H 1 (Qb ns) c)(how:c.isOw=false)(hK:∀r,IsIx ns v r→K (.c (.int .i64 r)) H) :
  Qp prog Qak2 [.c c,.c (.int .i64 v)] H K:=by
 refine Qd Qak Qbhv ?_
 have hok:=eq_true hs.ok
 have hlen:=hs.len
 have hsz:=hs.sz
 have hrw:=hs.rows
 refine Qa ?_
 simp only[go_sem,how]
 refine Q6 ?_
 refine Qa ?_
 simp only[go_sem,how]
 refine Qh (Qg (Qy (fun m e1 H1=>∃(i:Nat),m=ns.length-i∧i≤ns.length∧H1=H∧v∉ns.take i∧e1=[(0,.c c),(1,.c (.int .i64 v)),(5,.c (.int .i64 i))]) ns.length ?_ ?_))
 ·exact⟨0,by omega,by omega,rfl,by simp,rfl⟩
 ·rintro m e1 H1 ⟨i,hm,hi,rfl,hno,rfl⟩
  refine Q6 ?_
  refine Qa ?_
  simp only[go_sem,how,hok,hlen,Qc]
  intro hl
  simp only[LIM]at hl
  refine Qh (Qe rfl ?_ ?_)
  ·intro hc
   have hlt:i<ns.length:=by simpa using hc
   have hgd:ns.getD i 0=ns[i]:=by simp[List.getD_eq_getElem?_getD,hlt]
   refine Qi ?_
   simp only[go_sem]
   refine Qh (Qg ?_)
   refine Qa ?_
   simp only[go_sem,how,hok,hlen,hsz,hrw,hlt,Qc,Qm _ _ hlt]
   refine Qe rfl ?_ ?_
   ·intro hc2
    have hv:ns.getD i 0=v:=by simpa using hc2
    refine Qa ?_
    simp only[go_sem]
    refine Qk ?_
    simp only[go_sem,X.next,Q3,Q9,Qavs,List.mem_singleton,forall_eq,RS.op]
    exact hK _ (.inr ⟨i,rfl,hlt,hv,hno⟩)
   ·intro hc2
    have hv:¬ns.getD i 0=v:=by simpa using hc2
    refine Qi ?_
    simp only[go_sem]
    refine Qt ?_
    simp only[go_sem,how,X.next]
    refine⟨Qs (by omega) (by omega),ns.length-(i+1),by omega,i+1,rfl,by omega,?_,rfl⟩
    rw[List.take_succ_eq_append_getElem hlt]
    simp only[List.mem_append,List.mem_singleton,not_or]
    exact⟨hno,fun h=>hv (by rw[hgd];exact h.symm)⟩
  ·intro hc
   have hge:ns.length≤i:=by simpa using hc
   rw[List.take_of_length_le hge]at hno
   refine Q0 ?_
   simp only[go_sem,X.next]
   refine Qa ?_
   simp only[go_sem]
   refine Qk ?_
   simp only[go_sem,Q3,Q9,Qavs,List.mem_singleton,forall_eq,RS.op]
   exact hK _ (.inl ⟨rfl,hno⟩)
end Go.AE.Y

namespace Go.AE.Y
attribute [local instance] Classical.propDecidable
variable {g:Nat→List Nat}{n h:Nat}
theorem Qbgr {a b:Nat}(h:domB g a b=true):rchB g (-1) a=true∧rchB g (-1) b=true:=by
 simp only[domB,Bool.and_eq_true]at h
 exact⟨h.1.1,h.1.2⟩
structure BWk (n:Nat)(g:Nat→List Nat)(h:Nat)(O W:List Nat):Prop where
 asc:O.Pairwise (· < ·)
 o:∀x∈O,Bdy n g h x
 w:∀x∈W,rchB g (-1) x=true→Bdy n g h x
 c:∀x∈O,x≠h→∀p∈Qaly n g x,rchB g (-1) p=true→p∈O∨p∈W
 l:∀p∈Qaly n g h,domB g h p=true→p∈O∨p∈W
 h:h∈O
 r:∀x∈W,x<n
variable {O W:List Nat}{b:Nat}
theorem BWk.init:BWk n g h [h] ((Qaly n g h).filter (domB g h)):=by
 refine⟨by simp,fun x hx=>?_,fun x hx _=>?_,fun x hx hne=>?_,fun p hp hd=>.inr (List.mem_filter.2 ⟨hp,hd⟩),by simp,fun x hx=>(predL_mem.1 (List.mem_filter.1 hx).1).1⟩
 ·simp at hx;subst hx;exact .head
 ·exact .back (List.mem_filter.1 hx).1 (List.mem_filter.1 hx).2
 ·simp at hx;exact absurd hx hne
theorem BWk.skip (k:BWk n g h O (b::W))(hb:b∈O∨rchB g (-1) b=false):BWk n g h O W:=by
 refine⟨k.asc,k.o,fun x hx=>k.w x (List.mem_cons_of_mem _ hx),fun x hx hne p hp hi=>?_,fun p hp hd=>?_,k.h,fun x hx=>k.r x (List.mem_cons_of_mem _ hx)⟩
 ·rcases k.c x hx hne p hp hi with h1|h1
  ·exact .inl h1
  ·rcases List.mem_cons.1 h1 with rfl|h1
   ·rcases hb with hb|hb
    ·exact .inl hb
    ·rw[hb]at hi;simp at hi
   ·exact .inr h1
 ·rcases k.l p hp hd with h1|h1
  ·exact .inl h1
  ·rcases List.mem_cons.1 h1 with rfl|h1
   ·rcases hb with hb|hb
    ·exact .inl hb
    ·rw[(Qbgr hd).2]at hb;simp at hb
   ·exact .inr h1
theorem BWk.go {O':List Nat}(k:BWk n g h O (b::W))(hbO:b∉O)(hi:rchB g (-1) b=true)(h1:O'.Pairwise (· < ·))(h2:∀x,x∈O'↔x=b∨x∈O):BWk n g h O' (W++Qaly n g b):=by
 have hB:=k.w b List.mem_cons_self hi
 have hbh:b≠h:=fun e=>hbO (e▸k.h)
 refine⟨h1,fun x hx=>?_,fun x hx hix=>?_,fun x hx hne p hp hip=>?_,fun p hp hd=>?_,(h2 h).2 (.inr k.h),fun x hx=>?_⟩
 ·rcases (h2 x).1 hx with rfl|hx
  ·exact hB
  ·exact k.o x hx
 ·rcases List.mem_append.1 hx with hx|hx
  ·exact k.w x (List.mem_cons_of_mem _ hx) hix
  ·exact .more hB hbh hx hix
 ·rcases (h2 x).1 hx with rfl|hx
  ·exact .inr (List.mem_append_right _ hp)
  ·rcases k.c x hx hne p hp hip with h3|h3
   ·exact .inl ((h2 p).2 (.inr h3))
   ·rcases List.mem_cons.1 h3 with rfl|h3
    ·exact .inl ((h2 p).2 (.inl rfl))
    ·exact .inr (List.mem_append_left _ h3)
 ·rcases k.l p hp hd with h3|h3
  ·exact .inl ((h2 p).2 (.inr h3))
  ·rcases List.mem_cons.1 h3 with rfl|h3
   ·exact .inl ((h2 p).2 (.inl rfl))
   ·exact .inr (List.mem_append_left _ h3)
 ·rcases List.mem_append.1 hx with hx|hx
  ·exact k.r x (List.mem_cons_of_mem _ hx)
  ·exact (predL_mem.1 hx).1
theorem BWk.fin (hh:h<n)(k:BWk n g h O []):O=Qa6w n g h:=by
 refine Qa6q k.asc Qa6x fun x=>?_
 rw[Qa6y hh]
 refine⟨k.o x,fun hb=>?_⟩
 induction hb with
 |head=>exact k.h
 |back h1 h2=>exact (k.l _ h1 h2).resolve_right (by simp)
 |more h1 h2 h3 h4 ih=>exact (k.c _ ih h2 _ h3 h4).resolve_right (by simp)
theorem BWk.len (k:BWk n g h O W)(hh:h<n):O.length≤n:=by
 have e:=Qa6r (n:=n) (p:=fun x=>decide (x∈O)) k.asc fun x=>⟨fun hx=>⟨(k.o x hx).lt hh,by simpa using hx⟩,fun hx=>by simpa using hx.2⟩
 have:=List.length_filter_le (fun x=>decide (x∈O)) (List.range n)
 rw[←e]at this
 simpa using this
end Go.AE.Y

namespace Go.AE.Y
open Go.Proofs.Tryz
variable {H H0:Heap}{K:V→Heap→Prop}
structure GF (rows:List (List C))(nx:Nat→List Int):Prop where
 no:∀r∈rows,noOw r=true
 x:∀i,i<rows.length→∃a1 a2 a3 a4 fl,rows.getD i []=[a1,a2,a3,a4,.sl fl 1 (Qb (nx i))]
 n:rows.length≤10000
 m:∀i,i<rows.length→(nx i).length≤1000
noncomputable def inL (n:Nat)(g:Nat→List Nat):List Bool:=(List.range n).map (rchB g (-1))
noncomputable def Qbfx (n:Nat)(g:Nat→List Nat)(a:Nat):List Bool:=(List.range n).map (domB g a)
noncomputable def ovOf (n:Nat)(g:Nat→List Nat)(k:Nat):List (List C):=(List.range k).map fun a=>[.sl false 1 (Q0f (Qbfx n g a))]
noncomputable def domC (p rg:Int)(fl:Bool)(rows:List (List C))(g:Nat→List Nat):List C:=
 [.int .i64 p,.int .i64 rg,.sl fl 5 rows,.sl false 1 (ovOf rows.length g rows.length),.sl false 1 (Q0f (inL rows.length g))]
noncomputable def ysL (n:Nat)(g:Nat→List Nat)(ys:List Nat):List (Nat×Obj):=ys.zipIdx.map fun x=>(x.1,.vec 1 (Q0f (Qbfx n g x.2)))
def ysR (n:Nat)(ys:List Nat):List (List C):=ys.map fun y=>[.vsl y 1 0 n]
end Go.AE.Y

namespace Go.AE.Y
open Go.Proofs.Tryz
variable {H H0:Heap}{K:V→Heap→Prop}
end Go.AE.Y

namespace Go.AE.Y
open Go.Proofs.Tryz
variable {H H0:Heap}{K:V→Heap→Prop}
end Go.AE.Y

namespace Go.AE.Y
variable {P:Program}{H:Heap}{g:G}{w:World}
theorem Qbfn (hs:Sat H g w)(os:Array Go.Obj):∃g',Stp H g w H g' (Go.Sort.grow w os):=by
 obtain⟨l⟩:=os
 induction l generalizing g w with
 |nil=>exact⟨g,by rw[Go.Sort.grow_empty];exact .refl hs⟩
 |cons x l ih=>
  have h1:=Q2r hs x
  obtain⟨g',h2⟩:=ih h1.sat
  refine⟨g',?_⟩
  have e:Go.Sort.grow w ⟨x::l⟩=Go.Sort.grow (w.alloc x) ⟨l⟩:=by
   rw[Go.Sort.alloc_eq_grow,Go.Sort.grow_grow]
   congr 1
   simp
  rw[e];exact h1.trans h2
theorem Qa82 {b off:Nat}{cs:Array Value}{T:TypeId}{d:Array Int}(h:w.heap[b]? = some (.cells cs T (0,0))) :
  Go.Sort.putRow (Value.int .i64) w b off d=World.putCells w b (Go.Sort.putCells (Value.int .i64) off d cs) T:=by
 simp only[Go.Sort.putRow,Go.Sort.mapBlock,World.putCells]
 congr 1
 apply Array.ext_getElem?
 intro i
 simp only[Array.getElem?_modify]
 by_cases hi:b=i
 ·subst hi
  have hlt:b<w.heap.size:=Qib h
  rw[if_pos rfl,h]
  simp[hlt,Go.Sort.onCells]
 ·rw[if_neg hi,Array.getElem?_setIfInBounds_ne hi]
theorem Qa2m {f:Nat}(hf:fnOk P f=true)
  (hc:∀(blk off cap:Nat) (zs:List Int) (w:World),Go.Sort.Holds (Value.int .i64) w blk off zs.toArray→blk<w.heap.size→zs.length<4611686018427387904→
   Calls P f #[.slice (some ⟨blk,off,none⟩) zs.length cap] w fun e w'=>
    e=.returned (.tuple #[])∧∃n os,w'=Go.Sort.grow (Go.Sort.putRow (Value.int .i64) (Go.Sort.ahead w n) blk off (zs.mergeSort fun x y=>decide (x≤y)).toArray) os)
  {z n:Nat} {ns:List Int} {K:V→Heap→Prop} (hz:H z=.vec 1 (Qb ns)) (hn:n=ns.length) (h0:0<n)
  (hK:∀H',Upd H H' [(z,.vec 1 (Qb (ns.mergeSort fun x y=>decide (x≤y))))]→K (.tup []) H'):Qp P f [.c (.vsl z 1 0 n)] H K:=by
 refine⟨hf,fun g w vs hs hl hv=>?_⟩
 obtain⟨v,rfl⟩:∃v,vs=[v]:=by
  match vs,hl with
  |[v],_=>exact⟨v,rfl⟩
 have hr:=hv 0 _ v rfl rfl
 have ho:=hs.objs z
 rw[hz]at ho
 cases hr with
 |c _ _ hr=>
  cases hr with
  |vslnil=>omega
  |vsl l sz st n cap b base T m hio hnc hsh hm=>
   obtain⟨b',base',T',cs,val,hio',hown,hblk,hsz,hlim,hrow,hcell,hrep⟩:=SatVec.of ho hio
   rw[hio]at hio'
   simp only[Option.some.injEq,Prod.mk.injEq,true_and]at hio'
   obtain⟨rfl,rfl⟩:=hio'
   have hlt:=Qib hblk
   rw[Qc]at hsz hlim
   have hel:∀j (hj:j<ns.length),cs[base+j]? = some (.int .i64 ns[j]):=by
    intro j hj
    have h1:(Qb ns)[j]? = some [.int .i64 ns[j]]:=by simp[Qb,hj]
    have h2:=hcell j _ 0 _ h1 rfl
    have h3:=hrep j _ 0 _ h1 rfl
    have h4:val j 0=.int .i64 ns[j]:=by
     exact (fun vv (h:RepC w g (.int .i64 ns[j]) vv)=>by cases h;rfl:∀vv,RepC w g (.int .i64 ns[j]) vv→vv=.int .i64 ns[j]) _ (h3.toC rfl)
    simpa[h4]using h2
   have hH:Go.Sort.Holds (Value.int .i64) w b base ns.toArray:=by
    intro j hj
    have hj':j<ns.length:=by simpa using hj
    refine⟨?_,?_⟩
    ·rw[Qbz hblk,hel j hj']
     simp[getElem!_pos,hj']
    ·simp[World.frozen?,hblk]
   subst hn
   simp only[Nat.zero_mul,Nat.add_zero]
   refine (hc b base cap ns w hH hlt (by simp only[LIM]at hlim;omega)).mono fun e w'=>?_
   rintro⟨rfl,nn,os,rfl⟩
   have s1:Stp H g w H g (Go.Sort.ahead w nn):=Qaud hs (w.drawn+nn)
   have hblk1:(Go.Sort.ahead w nn).heap[b]? = some (.cells cs T' (0,0)):=hblk
   have hel2:∀i (c:C),((Qb (ns.mergeSort fun x y=>decide (x≤y)))[i]? = some [c])→∃x:Int,c=.int .i64 x∧(Go.Sort.putCells (Value.int .i64) base (ns.mergeSort fun x y=>decide (x≤y)).toArray cs)[base+i]? = some (.int .i64 x):=by
    intro i c hi
    have hlen:(ns.mergeSort fun x y=>decide (x≤y)).length=ns.length:=List.length_mergeSort _
    have hil:i<(ns.mergeSort fun x y=>decide (x≤y)).length:=by
     rcases Nat.lt_or_ge i (ns.mergeSort fun x y=>decide (x≤y)).length with h|h
     ·exact h
     ·rw[List.getElem?_eq_none (by rw[Qc];exact h)]at hi;simp at hi
    refine⟨(ns.mergeSort fun x y=>decide (x≤y))[i],?_,?_⟩
    ·simp only[Qb,List.getElem?_map,List.getElem?_eq_getElem hil,Option.map_some,Option.some.injEq,List.cons.injEq,and_true]at hi
     exact hi.symm
    ·simp only[Go.Sort.putCells,Array.getElem?_mapIdx]
     rw[Array.getElem?_eq_getElem (by omega)]
     simp only[Option.map_some,Option.some.injEq]
     rw[if_pos ⟨by omega,by simp only[List.size_toArray];omega⟩]
     congr 1
     simp[getElem!_pos]
     rw[List.getElem?_eq_getElem hil];rfl
   have s2:=Qdj s1.sat hown hblk1 (cs':=Go.Sort.putCells (Value.int .i64) base (ns.mergeSort fun x y=>decide (x≤y)).toArray cs) (by simp[Go.Sort.putCells])
    (.vec 1 (Qb (ns.mergeSort fun x y=>decide (x≤y)))) (by rw[hz];simp) (fun hle hb2=>.inr ⟨b,base,T',_,fun i _=>.int .i64 ((ns.mergeSort fun x y=>decide (x≤y)).getD i 0),hio,hown,hb2,by
      rw[Qc,List.length_mergeSort];simp[Go.Sort.putCells];omega,by rw[Qc,List.length_mergeSort];exact hlim,fun i row hi=>by
       simp only[Qb,List.getElem?_map,Option.map_eq_some_iff]at hi;obtain⟨x,_,rfl⟩:=hi;rfl,fun i row j c hi hj=>by
       have hi':=hi
       simp only[Qb,List.getElem?_map,Option.map_eq_some_iff]at hi'
       obtain⟨y,hy,rfl⟩:=hi'
       have hj0:j=0:=by
        rcases Nat.eq_zero_or_pos j with h|h
        ·exact h
        ·rw[List.getElem?_eq_none (by simp;omega)]at hj;simp at hj
       subst hj0
       obtain⟨x,hx,he⟩:=hel2 i _ hi
       simp only[C.int.injEq,true_and]at hx
       subst hx
       simp only[Nat.mul_one,Nat.add_zero]
       rw[he,List.getD_eq_getElem?_getD,hy];rfl,fun i row j c hi hj=>by
       have hi':=hi
       simp only[Qb,List.getElem?_map,Option.map_eq_some_iff]at hi'
       obtain⟨y,hy,rfl⟩:=hi'
       have hj0:j=0:=by
        rcases Nat.eq_zero_or_pos j with h|h
        ·exact h
        ·rw[List.getElem?_eq_none (by simp;omega)]at hj;simp at hj
       subst hj0
       simp at hj;subst hj
       show RepO _ _ _ _ _ (Value.int .i64 ((ns.mergeSort fun x y=>decide (x≤y)).getD i 0))
       rw[List.getD_eq_getElem?_getD,hy]
       exact .plain _ _ _ _ (.int _ _)⟩) (by simp)
   rw[←Qa82 hblk1]at s2
   obtain⟨g',s3⟩:=Qbfn s2.sat os
   refine .inl ⟨.tuple #[],.tup [],_,g',rfl,hK _ ⟨by simp[Heap.set_same],fun m _ hm=>Heap.set_other _ _ (by simpa using hm)⟩,s1.trans (s2.trans s3),?_⟩
   exact .tup [] [] rfl (by simp)
theorem Qa6p {f:Nat}(hf:fnOk P f=true){k:IntKind}{x r:Int}(hc:∀w,Calls P f #[.int k x] w fun e w'=>e=.returned (.int .i64 r)∧w'=w){K:V→Heap→Prop}(hK:K (.c (.int .i64 r)) H) :
  Qp P f [.c (.int k x)] H K:=by
 refine⟨hf,fun g w vs hs hl hv=>?_⟩
 obtain⟨v,rfl⟩:∃v,vs=[v]:=by
  match vs,hl with
  |[v],_=>exact⟨v,rfl⟩
 have hr:=hv 0 _ v rfl rfl
 cases hr with
 |c _ _ hr=>
  cases hr
  refine (hc w).mono fun e w'=>?_
  rintro⟨rfl,rfl⟩
  exact .inl ⟨_,_,H,g,rfl,hK,.refl hs,.c _ _ (.int _ _)⟩
end Go.AE.Y

namespace Go.AE.Y
structure Cmp (ns R:List Int)(k j:Nat):Prop where
 len:R.length=ns.length
 kj:k<j
 jn:j≤ns.length
 asc:(R.take k).Pairwise (· < ·)
 mem:∀x,x∈R.take k↔x∈ns.take j
 same:∀i,j≤i+1→R.getD i 0=ns.getD i 0
variable {ns R:List Int}{k j:Nat}
theorem take_mem {l:List Int}{j:Nat}{x:Int}:x∈l.take j↔∃i,i<j∧i<l.length∧l.getD i 0=x:=by
 constructor
 ·intro h
  obtain⟨i,hi,rfl⟩:=List.mem_iff_getElem.1 h
  rw[List.length_take]at hi
  refine⟨i,by omega,by omega,?_⟩
  rw[List.getElem_take,List.getD_eq_getElem?_getD,List.getElem?_eq_getElem (by omega)];rfl
 ·rintro⟨i,h1,h2,rfl⟩
  rw[List.getD_eq_getElem?_getD,List.getElem?_eq_getElem h2]
  exact List.mem_iff_getElem.2 ⟨i,by rw[List.length_take];omega,by rw[List.getElem_take];rfl⟩
theorem Qez {ns:List Int}(h:ns.Pairwise (·≤·)){a b:Nat}(hab:a≤b)(hb:b<ns.length):ns.getD a 0≤ns.getD b 0:=by
 rcases Nat.lt_or_ge a b with h1|h1
 ·have:=List.pairwise_iff_getElem.1 h a b (by omega) hb h1
  simpa[List.getD_eq_getElem?_getD,hb,show a<ns.length by omega]using this
 ·have:a=b:=by omega
  subst this;exact Int.le_refl _
theorem Cmp.start (hs:ns.Pairwise (·≤·))(hk0:0<k)(hk:k<ns.length)(hne:∀i,0<i→i<k→ns.getD i 0≠ns.getD (i-1) 0)(he:ns.getD k 0=ns.getD (k-1) 0):Cmp ns ns k (k+1):=by
 refine⟨rfl,by omega,by omega,?_,fun x=>?_,fun i _=>rfl⟩
 ·rw[List.pairwise_iff_getElem]
  intro a b ha hb hab
  rw[List.length_take]at ha hb
  rw[List.getElem_take,List.getElem_take]
  have h1:=Qez hs (a:=a) (b:=b-1) (by omega) (by omega)
  have h2:=Qez hs (a:=b-1) (b:=b) (by omega) (by omega)
  have h3:=hne b (by omega) (by omega)
  have e1:ns.getD a 0=ns[a]:=by simp[List.getD_eq_getElem?_getD,show a<ns.length by omega]
  have e2:ns.getD b 0=ns[b]:=by simp[List.getD_eq_getElem?_getD,show b<ns.length by omega]
  rw[e1]at h1;rw[e2]at h2 h3
  omega
 ·rw[take_mem,take_mem]
  constructor
  ·rintro⟨i,h1,h2,h3⟩;exact⟨i,by omega,h2,h3⟩
  ·rintro⟨i,h1,h2,h3⟩
   by_cases h:i<k
   ·exact⟨i,h,h2,h3⟩
   ·have:i=k:=by omega
    subst this
    exact⟨i-1,by omega,by omega,by rw[←he];exact h3⟩
theorem Cmp.eq (c:Cmp ns R k j)(hj:j<ns.length)(he:ns.getD j 0=ns.getD (j-1) 0):Cmp ns R k (j+1):=by
 have:=c.kj
 refine⟨c.len,by omega,by omega,c.asc,fun x=>?_,fun i hi=>c.same i (by omega)⟩
 rw[c.mem,take_mem,take_mem]
 constructor
 ·rintro⟨i,h1,h2,h3⟩;exact⟨i,by omega,h2,h3⟩
 ·rintro⟨i,h1,h2,h3⟩
  by_cases h:i<j
  ·exact⟨i,h,h2,h3⟩
  ·have:i=j:=by omega
   subst this
   exact⟨i-1,by omega,by omega,by rw[←he];exact h3⟩
theorem Cmp.ne (c:Cmp ns R k j)(hs:ns.Pairwise (·≤·))(hj:j<ns.length)(he:ns.getD j 0≠ns.getD (j-1) 0):Cmp ns (R.set k (ns.getD j 0)) (k+1) (j+1):=by
 have hkj:=c.kj
 have hkl:k<R.length:=by rw[c.len];omega
 have htk:(R.set k (ns.getD j 0)).take (k+1)=R.take k++[ns.getD j 0]:=by
  rw[List.take_succ_eq_append_getElem (by rw[List.length_set];exact hkl),List.getElem_set_self]
  congr 1
  rw[List.take_set_of_le (Nat.le_refl _)]
 refine⟨by rw[List.length_set];exact c.len,by omega,by omega,?_,fun x=>?_,fun i hi=>?_⟩
 ·rw[htk,List.pairwise_append]
  refine⟨c.asc,by simp,fun a ha b hb=>?_⟩
  simp at hb;subst hb
  obtain⟨i,h1,h2,rfl⟩:=take_mem.1 ((c.mem a).1 ha)
  have h3:=Qez hs (a:=i) (b:=j-1) (by omega) (by omega)
  have h4:=Qez hs (a:=j-1) (b:=j) (by omega) hj
  simp only[List.getD_eq_getElem?_getD]at *
  omega
 ·rw[htk,List.mem_append,c.mem,take_mem,take_mem]
  simp only[List.mem_singleton]
  constructor
  ·rintro (⟨i,h1,h2,h3⟩|rfl)
   ·exact⟨i,by omega,h2,h3⟩
   ·exact⟨j,by omega,hj,rfl⟩
  ·rintro⟨i,h1,h2,h3⟩
   by_cases h:i<j
   ·exact .inl ⟨i,h,h2,h3⟩
   ·have:i=j:=by omega
    subst this;exact .inr h3.symm
 ·have:k≠i:=by omega
  rw[←c.same i (by omega)]
  simp[List.getD_eq_getElem?_getD,this]
theorem Qaoz (hs:ns.Pairwise (·≤·))(hne:∀i,0<i→i<ns.length→ns.getD i 0≠ns.getD (i-1) 0):ns.Pairwise (· < ·):=by
 rw[List.pairwise_iff_getElem]
 intro a b ha hb hab
 have h1:=Qez hs (a:=a) (b:=b-1) (by omega) (by omega)
 have h2:=Qez hs (a:=b-1) (b:=b) (by omega) (by omega)
 have h3:=hne b (by omega) (by omega)
 have e1:ns.getD a 0=ns[a]:=by simp[List.getD_eq_getElem?_getD,ha]
 have e2:ns.getD b 0=ns[b]:=by simp[List.getD_eq_getElem?_getD,hb]
 rw[e1]at h1;rw[e2]at h2 h3
 omega
def srt (ns:List Int):List Int:=ns.mergeSort fun x y=>decide (x≤y)
theorem Qa0m (ns:List Int):(srt ns).length=ns.length:=List.length_mergeSort _
theorem Qbir (ns:List Int)(x:Int):x∈srt ns↔x∈ns:=(List.mergeSort_perm ns _).mem_iff
theorem Qa6e (ns:List Int):(srt ns).Pairwise (·≤·):=by
 have:=List.pairwise_mergeSort (le:=fun x y:Int=>decide (x≤y)) (by simp only[decide_eq_true_eq];omega) (by simp only[Bool.or_eq_true,decide_eq_true_eq];omega) ns
 exact this.imp (by simp)
end Go.AE.Y

namespace Go.Proofs
open Go.Shelf
def Tryz.lays189_ren:Go.Shelf.Ren:=⟨fun|189=>118|125=>186|257=>185|128=>250|129=>251|294=>241|295=>242|296=>243|297=>244|298=>245|299=>246|216=>247|300=>248|301=>249|328=>296|329=>297|330=>298|331=>299|332=>300|215=>301|343=>318|n=>n,fun|28=>32|3=>3|46=>179|0=>0|51=>238|53=>240|4=>4|183=>232|182=>231|131=>134|5=>5|9=>9|218=>291|222=>262|228=>306|229=>257|n=>n,fun|n=>n⟩
theorem Tryz.lays189:Go.Proofs.Lays.n189 Tryz.prog Tryz.lays189_ren:={
 mixed:=by kernel_rfl
 f125:=Tryz.func186.trans (congrArg some (by kernel_rfl))
 f128:=Tryz.func250.trans (congrArg some (by kernel_rfl))
 f129:=Tryz.func251.trans (congrArg some (by kernel_rfl))
 f189:=Tryz.func118.trans (congrArg some (by kernel_rfl))
 f215:=Tryz.func301.trans (congrArg some (by kernel_rfl))
 f216:=Tryz.func247.trans (congrArg some (by kernel_rfl))
 f257:=Tryz.func185.trans (congrArg some (by kernel_rfl))
 f294:=Tryz.func241.trans (congrArg some (by kernel_rfl))
 f295:=Tryz.func242.trans (congrArg some (by kernel_rfl))
 f296:=Tryz.func243.trans (congrArg some (by kernel_rfl))
 f297:=Tryz.func244.trans (congrArg some (by kernel_rfl))
 f298:=Tryz.func245.trans (congrArg some (by kernel_rfl))
 f299:=Tryz.func246.trans (congrArg some (by kernel_rfl))
 f300:=Tryz.func248.trans (congrArg some (by kernel_rfl))
 f301:=Tryz.func249.trans (congrArg some (by kernel_rfl))
 f328:=Tryz.func296.trans (congrArg some (by kernel_rfl))
 f329:=Tryz.func297.trans (congrArg some (by kernel_rfl))
 f330:=Tryz.func298.trans (congrArg some (by kernel_rfl))
 f331:=Tryz.func299.trans (congrArg some (by kernel_rfl))
 f332:=Tryz.func300.trans (congrArg some (by kernel_rfl))
 f343:=Tryz.func318.trans (congrArg some (by kernel_rfl))
 t0:=Tryz.underlying0
 a0:=Tryz.isAgg0
 z0:=Tryz.sizeOf0
 v0:=Tryz.zeroValue0
 t3:=Tryz.underlying3
 a3:=Tryz.isAgg3
 z3:=Tryz.sizeOf3
 v3:=Tryz.zeroValue3
 t4:=Tryz.underlying4
 a4:=Tryz.isAgg4
 z4:=Tryz.sizeOf4
 v4:=Tryz.zeroValue4
 t5:=Tryz.underlying5
 a5:=Tryz.isAgg5
 z5:=Tryz.sizeOf5
 v5:=Tryz.zeroValue5
 t9:=Tryz.underlying9
 a9:=Tryz.isAgg9
 z9:=Tryz.sizeOf9
 v9:=Tryz.zeroValue9
 t28:=Tryz.underlying32
 a28:=Tryz.isAgg32
 z28:=Tryz.sizeOf32
 v28:=Tryz.zeroValue32
 t46:=Tryz.underlying179
 a46:=Tryz.isAgg179
 z46:=Tryz.sizeOf179
 v46:=Tryz.zeroValue179
 t51:=Tryz.underlying238
 a51:=Tryz.isAgg238
 z51:=Tryz.sizeOf238
 v51:=Tryz.zeroValue238
 t53:=Tryz.underlying240
 a53:=Tryz.isAgg240
 z53:=Tryz.sizeOf240
 v53:=Tryz.zeroValue240
 t131:=Tryz.underlying134
 a131:=Tryz.isAgg134
 z131:=Tryz.sizeOf134
 v131:=Tryz.zeroValue134
 t182:=Tryz.underlying231
 a182:=Tryz.isAgg231
 z182:=Tryz.sizeOf231
 v182:=Tryz.zeroValue231
 t183:=Tryz.underlying232
 a183:=Tryz.isAgg232
 z183:=Tryz.sizeOf232
 v183:=Tryz.zeroValue232
 t218:=Tryz.underlying291
 a218:=Tryz.isAgg291
 z218:=Tryz.sizeOf291
 v218:=Tryz.zeroValue291
 t222:=Tryz.underlying262
 a222:=Tryz.isAgg262
 z222:=Tryz.sizeOf262
 v222:=Tryz.zeroValue262
 t228:=Tryz.underlying306
 a228:=Tryz.isAgg306
 z228:=Tryz.sizeOf306
 v228:=Tryz.zeroValue306
 t229:=Tryz.underlying257
 a229:=Tryz.isAgg257
 z229:=Tryz.sizeOf257
 v229:=Tryz.zeroValue257 }
end Go.Proofs

namespace Go.AE.Y
open Go.Proofs.Tryz
variable {H H0:Heap}{K:V→Heap→Prop}{E B Lg:List (Nat×Obj)}
theorem Qa6u {x:Int}(h0:0≤x)(h1:x≤18446744073709551615)(hK:∀n:Int,K (.c (.int .i64 n)) H):Qp prog Q75 [.c (.int .u64 x)] H K:=
 Qa6p (by kernel_rfl) (fun w=>calls_of_every_depth fun D=>Go.Proofs.AnyS.bits_LenIn (ρ:=lays189_ren) { lays189 with } D x w h0 h1) (hK _)
theorem Qbj5 {c:C}(how:c.isOw=false)(hK:K (.tup []) H):Qp prog Qbm [.c c,.c (.int .i64 0),.c (.int .i64 0)] H K:=by
 refine Qd Qak Qjf ?_
 refine Qa ?_
 simp only[go_sem,how]
 refine⟨Qs (by omega) (by omega),?_⟩
 refine Qg (Qy (fun m e1 H1=>H1=H∧e1=[(0,.c c),(1,.c (.int .i64 0)),(2,.c (.int .i64 0)),(6,.c (.int .i64 1))]) 0 ⟨rfl,rfl⟩ ?_)
 rintro m e1 H1 ⟨rfl,rfl⟩
 refine Q6 ?_
 refine Qa ?_
 simp only[go_sem,how]
 refine Qh (Qe rfl (fun h=>by simp at h) fun _=>?_)
 refine Q0 ?_
 simp only[go_sem,X.next,Q3,Q9,Qc2,List.not_mem_nil]
 exact⟨fun _=>trivial,hK⟩
theorem Qbkl {c:C}{l:Int}(how:c.isOw=false)(hK:K (.tup []) H):Qp prog Qa9 [.c c,.c (.int .i64 0),.c (.int .i64 0),.c (.int .i64 l)] H K:=by
 refine Qd Qak Qxi ?_
 refine Qa ?_
 simp only[go_sem,how]
 refine Qa ?_
 simp only[go_sem,how]
 refine Qg (Qy (fun m e1 H1=>H1=H∧e1=[(0,.c c),(1,.c (.int .i64 0)),(2,.c (.int .i64 0)),(3,.c (.int .i64 l)),(8,.c (.bool true)),(9,.c (.bool true))]) 0 ⟨rfl,rfl⟩ ?_)
 rintro m e1 H1 ⟨rfl,rfl⟩
 refine Qg ?_
 refine Qa ?_
 simp only[go_sem,how]
 refine⟨Qs (by omega) (by omega),?_⟩
 refine Q6 ?_
 refine Qa ?_
 simp only[go_sem,how]
 refine Qh (Qe rfl (fun _=>?_) (fun h=>by simp at h))
 refine Qa ?_
 simp only[go_sem,how]
 refine Qbj5 how ?_
 simp only[Qae5]
 refine Qk ?_
 simp only[go_sem,X.next,Q3,Q9,Qhk,List.not_mem_nil]
 exact⟨fun _=>trivial,hK⟩
theorem Qbgf {c:C}(hok:okSl H c)(hl:lenC c=0)(how:c.isOw=false)(hK:K (.tup []) H):Qp prog Que [.c c] H K:=by
 have hok:=eq_true hok
 refine Qd Qak Qa8m ?_
 refine Qa ?_
 simp only[go_sem,how,hok,hl]
 have e0:((0:Nat):Int)=0:=rfl
 refine Qt ?_
 simp only[go_sem,how,e0]
 refine⟨⟨by decide,by decide⟩,?_⟩
 refine Qa6u (by omega) (by omega) fun n=>?_
 simp only[go_sem,how,Q41]
 refine Qbkl how ?_
 simp only[go_sem,Q3,Q9,Qaqi,List.not_mem_nil]
 exact⟨fun _=>trivial,hK⟩
theorem Qbjf {c:C}{ns:List Int}(kn:Kn H0 H E (B++Lg))(hgr:Gr Lg 1 (Qb ns) c)
  (hK:∀Lg' H',Gr Lg' 1 (Qb (srt ns)) c→Kn H0 H' E (B++Lg')→K (.tup []) H'):Qp prog Que [.c c] H K:=by
 by_cases h0:ns=[]
 ·subst h0
  refine Qbgf (hgr.okSl kn) (by rw[hgr.lenC];rfl) hgr.isOw (hK Lg H ?_ kn)
  have:srt []=[]:=by simp[srt]
  rw[this];exact hgr
 ·rcases hgr with ⟨_,h,_⟩|⟨y,rfl,rfl⟩
  ·cases ns with
   |nil=>exact absurd rfl h0
   |cons a b=>simp[Qb]at h
  ·have hy:=kn.l B.length (l:=y) (o:=.vec 1 (Qb ns)) (by simp)
   have hpos:0<ns.length:=List.length_pos_iff.2 h0
   refine Qa2m (by kernel_rfl) (fun blk off cap zs w h1 h2 h3=>Go.Proofs.Any.slices_Sort_int lays189 blk off cap zs w h1 h2 h3) hy (by rw[Qc]) (by rw[Qc];exact hpos) fun H' hu=>?_
   refine hK [(y,.vec 1 (Qb (srt ns)))] H' (.inr ⟨y,by rw[Qc,Qc,Qa0m],rfl⟩) ?_
   have:=kn.callL B.length (l:=y) (o:=.vec 1 (Qb ns)) (by simp) hu (by simp)
   simpa[srt]using this
def Qbl4 (ks:List Nat):List (C×V):=ks.map fun k:Nat=>(.int .i64 (k:Int),.c (.bool true))
end Go.AE.Y

namespace Go.AE.Y
open Go.Proofs.Tryz
variable {H H0:Heap}{K:V→Heap→Prop}
structure InB (n:Nat)(g:Nat→List Nat)(S:List Bool)(ks:List Nat):Prop where
 len:S.length=n
 s:∀x,x<n→S.getD x false=(decide (x∈ks) || !rchB g (-1) x)
 nd:ks.Nodup
 lt:∀x∈ks,x<n
 i:∀x∈ks,rchB g (-1) x=true
 c:ks.length≤cnt S
theorem InB.add {n:Nat}{g:Nat→List Nat}{S:List Bool}{ks:List Nat}{b:Nat}(h:InB n g S ks)(hb:b<n)(hbs:b∉ks)(hi:rchB g (-1) b=true):S.getD b false=false∧InB n g (S.set b true) (ks++[b]):=by
 have hsb:S.getD b false=false:=by rw[h.s b hb];simp[hbs,hi]
 have hbS:b<S.length:=by rw[h.len];exact hb
 refine⟨hsb,by rw[List.length_set];exact h.len,fun x hx=>?_,?_,fun x hx=>?_,fun x hx=>?_,?_⟩
 ·rw[Q7n]
  by_cases hxb:x=b
  ·subst hxb;simp[hbS]
  ·simp only[hxb,false_and,if_false,List.mem_append,List.mem_singleton,or_false]
   exact h.s x hx
 ·refine List.nodup_append.2 ⟨h.nd,by simp,fun a ha c hc=>?_⟩
  simp at hc;subst hc;exact fun e=>hbs (e▸ha)
 ·rcases List.mem_append.1 hx with hx|hx
  ·exact h.lt x hx
  ·simp at hx;omega
 ·rcases List.mem_append.1 hx with hx|hx
  ·exact h.i x hx
  ·simp at hx;subst hx;exact hi
 ·rw[Qa62 hbS hsb,List.length_append]
  have:=h.c
  simp;omega
def bdCaps (x5 x6:Nat)(dc:List C):List C:=[.ptr x5 0,.pp [.pp dc],.ptr x6 0]
end Go.AE.Y

namespace Go.AE.Y
open Go.Proofs.Tryz
variable {H H0:Heap}{K:V→Heap→Prop}{E B Lg:List (Nat×Obj)}
def Gw (Lg:List (Nat×Obj))(sz:Nat)(rows:List (List C))(c:C):Prop:=
 (c=.sl true sz []∧rows=[]∧Lg=[])∨∃y R,c=.vsl y sz 0 rows.length∧Lg=[(y,.vec sz R)]∧R.take rows.length=rows
end Go.AE.Y
namespace Go.AE
open Go.AE.Y
open Go.Proofs.Tryz
variable {H H0:Heap}{K:V→Heap→Prop}{E B Lg:List (Nat×Obj)}
theorem Gr.gw {sz:Nat}{rows:List (List C)}{c:C}(h:Gr Lg sz rows c):Gw Lg sz rows c:=by
 rcases h with h|⟨y,h1,h2⟩
 ·exact .inl h
 ·exact .inr ⟨y,rows,h1,h2,List.take_length⟩
end Go.AE
namespace Go.AE.Y
open Go.Proofs.Tryz
variable {H H0:Heap}{K:V→Heap→Prop}{E B Lg:List (Nat×Obj)}
theorem Gw.isOw {sz:Nat}{rows:List (List C)}{c:C}(h:Gw Lg sz rows c):c.isOw=false:=by rcases h with ⟨rfl,_⟩|⟨y,R,rfl,_⟩ <;> rfl
theorem Gw.frz {ns:List Int}{c:C}(h:Gw Lg 1 (Qb ns) c)(kn:Kn H0 H E (B++Lg)):FrzC H (un H0) c (.sl false 1 (Qb ns)):=by
 rcases h with ⟨rfl,h2,_⟩|⟨y,R,rfl,rfl,hR⟩
 ·rw[h2];exact FrzR.nil.sl
 ·have hle:(Qb ns).length≤R.length:=by
   have:=congrArg List.length hR
   rw[List.length_take]at this
   omega
  have h:=FrzR.same (H:=H) (S:=un H0) (Qo ns)
  exact .vsl y 1 0 _ R (Qb ns) (Qb ns) (Qh4 (kn.loc (y,.vec 1 R) (by simp))) (kn.get (y,.vec 1 R) (by simp)).1 (by omega) (by simpa using hR.symm) h.spec.1 (fun i r r' h1 h2=>(h.spec.2 i r r' h1 h2).spec.1) fun i r r' j c c' h1 h2 h3 h4=>(h.spec.2 i r r' h1 h2).spec.2 j c c' h3 h4
theorem Q0a {fl:Bool}{ns:List Int}{L:List (Nat×Obj)}(kn:Kn H0 H E L)(hl:ns.length≤LIM)(hK:∀t Lg H',Gr Lg 1 (Qb ns) t→t.isOw=false→Kn H0 H' E (L++Lg)→K (.c t) H') :
  Qp prog Qci [.c (.sl fl 1 (Qb ns))] H K:=by
 refine Qd Qak Qa3o ?_
 refine Qa ?_
 simp only[go_sem]
 refine Q6 ?_
 refine Qa ?_
 simp only[go_sem]
 intro b hb
 refine Qh (Qe rfl ?_ ?_)
 ·intro hbt
  have hn:=hb hbt
  refine Qa ?_
  simp only[go_sem]
  refine Qk ?_
  simp only[go_sem,Q3,Q9,Q05,List.mem_singleton,forall_eq,RS.op]
  refine hK _ [] H ?_ rfl (by simpa using kn)
  rw[hn];exact .nil 1
 ·intro hbf
  refine Qi ?_
  simp only[go_sem]
  refine Qa ?_
  simp only[go_sem,Qc]
  refine⟨.inl trivial,Qo _,by omega,fun z hz H1 h1=>?_⟩
  have kn:=kn.al hz h1
  simp only[go_sem,Qz2]
  refine Qk ?_
  simp only[go_sem,Q3,Q9,Q05,List.mem_singleton,forall_eq,RS.op]
  exact hK _ _ H1 (.mk z 1 _ (by rw[Qc];omega)) rfl kn
theorem Qdh (ns:List Int)(i:Nat)(x:Int):(Qb ns).set i [.int .i64 x]=Qb (ns.set i x):=by simp[Qb,List.map_set]
theorem Qau9 (ns:List Int)(k:Nat):(Qb ns).take k=Qb (ns.take k):=by simp[Qb,List.map_take]
set_option maxHeartbeats 2000000 in
theorem Qa6i {c:C}{ns:List Int}(kn:Kn H0 H E (B++Lg))(hgr:Gr Lg 1 (Qb ns) c)(hs:ns.Pairwise (·≤·))(hL:ns.length≤2 ^ 38)
  (hK:∀t Lg' ns' H',Gw Lg' 1 (Qb ns') t→t.isOw=false→Kn H0 H' E (B++Lg')→ns'.Pairwise (· < ·)→(∀x,x∈ns'↔x∈ns)→ns'.length≤ns.length→K (.c t) H') :
  Qp prog Qlv [.c c] H K:=by
 have how:=hgr.isOw
 have hok:=eq_true (hgr.okSl kn)
 have hlen:=hgr.lenC
 have hrw:=hgr.rowsOf kn
 have hsz:=hgr.elemSz
 refine Qd Qak Qap2 ?_
 refine Qa ?_
 simp only[go_sem,how]
 refine Q6 ?_
 refine Qa ?_
 simp only[go_sem,how,hok,hlen,Qc]
 intro _
 refine Qh (Qe rfl ?_ ?_)
 ·intro hc
  have h2:ns.length<2:=by have:=of_decide_eq_true hc;omega
  refine Qa ?_
  simp only[go_sem,how]
  refine Qk ?_
  simp only[go_sem,Q3,Q9,Qin,List.mem_singleton,forall_eq,RS.op,how]
  exact hK c Lg ns H hgr.gw how kn (Qaoz hs fun i h0 hi=>by omega) (fun _=>Iff.rfl) (Nat.le_refl _)
 ·intro hc
  have h2:2≤ns.length:=by have:=of_decide_eq_false hc;omega
  obtain⟨z,rfl,rfl⟩:∃z,c=.vsl z 1 0 ns.length∧Lg=[(z,.vec 1 (Qb ns))]:=by
   rcases hgr with ⟨_,h,_⟩|⟨y,h1,h2⟩
   ·have:ns.length=0:=by rw[←Qc,h];rfl
    omega
   ·exact⟨y,by rw[h1,Qc],h2⟩
  have hz:=kn.l B.length (l:=z) (o:=.vec 1 (Qb ns)) (by simp)
  refine Qi ?_
  simp only[go_sem]
  refine Q6 ?_
  refine Qa ?_
  simp only[go_sem]
  refine Qh (Qg (Qy (fun m e1 H1=>∃(k:Nat),m=ns.length-k∧0<k∧k≤ns.length∧H1=H∧(∀i,0<i→i<k→ns.getD i 0≠ns.getD (i-1) 0)∧e1=[(0,.c (.vsl z 1 0 ns.length)),(3,.c (.int .i64 k))]) (ns.length-1) ?_ ?_))
  ·exact⟨1,rfl,by omega,by omega,rfl,fun i h0 h1=>by omega,rfl⟩
  ·rintro m e1 H1 ⟨k,hm,hk0,hk,rfl,hne,rfl⟩
   refine Q6 ?_
   refine Qa ?_
   simp only[go_sem,hz,Qc,Nat.zero_add,Nat.le_refl]
   intro hlim
   simp only[LIM]at hlim
   refine Qh (Qe rfl ?_ ?_)
   ·intro hc2
    have hlt:k<ns.length:=by simpa using hc2
    have hlt1:k-1<ns.length:=by omega
    have e1:((k:Int)-1)=((k-1:Nat):Int):=by omega
    have htk:(Qb ns).take ns.length=Qb ns:=List.take_of_length_le (by rw[Qc];exact Nat.le_refl _)
    refine Qi ?_
    simp only[go_sem]
    refine Qh (Qg ?_)
    refine Qag ?_
    simp only[go_sem,hz,e1,hlt,hlt1,htk,Qc,Qm _ _ hlt,Qm _ _ hlt1,Nat.zero_add,Nat.le_refl]
    refine⟨Qs (by omega) (by omega),?_⟩
    refine Qe rfl ?_ ?_
    ·intro hc3
     have heq:ns.getD k 0=ns.getD (k-1) 0:=by simpa using hc3
     refine Qa ?_
     simp only[go_sem,hz,hlt,Qc,Nat.zero_add,Nat.le_refl]
     refine⟨by omega,?_⟩
     refine Q6 ?_
     refine Qa ?_
     simp only[go_sem]
     refine Qh (Qg (Qy (fun m e1 H2=>∃(j kk:Nat) (R:List Int),m=ns.length-j∧k<j∧j≤ns.length∧Cmp ns R kk j∧Kn H0 H2 E (B++[(z,.vec 1 (Qb R))])∧
      e1=[(0,.c (.vsl z 1 0 ns.length)),(3,.c (.int .i64 kk)),(4,.c (.vsl z 1 k (ns.length-k))),(5,.c (.int .i64 ((j-k:Nat):Int)))]) (ns.length-(k+1)) ?_ ?_))
     ·refine⟨k+1,k,ns,rfl,by omega,by omega,.start hs hk0 hlt hne heq,kn,?_⟩
      have:k+1-k=1:=by omega
      rw[this];rfl
     ·rintro m2 e1 H2 ⟨j,kk,R,hm2,hkj,hj,hcm,kn,rfl⟩
      have hz:=kn.l B.length (l:=z) (o:=.vec 1 (Qb R)) (by simp)
      have hRl:=hcm.len
      have hkkj:=hcm.kj
      refine Q6 ?_
      refine Qa ?_
      have e3:k+(ns.length-k)=ns.length:=by omega
      simp only[go_sem,hz,Qc,hRl,e3,Nat.zero_add,Nat.le_refl]
      intro _
      refine Qh (Qe rfl ?_ ?_)
      ·intro hc4
       have hjl:j<ns.length:=by have:=of_decide_eq_true hc4;omega
       have hjR:j<R.length:=by omega
       have hjR1:j-1<R.length:=by omega
       have hjk:j-k<ns.length-k:=by omega
       have hjk1:j-k-1<ns.length-k:=by omega
       have e4:(((j-k:Nat):Int)-1)=((j-k-1:Nat):Int):=by omega
       have hr1:(((Qb R).drop k).take (ns.length-k)).getD (j-k) []=[.int .i64 (ns.getD j 0)]:=by
        rw[←hcm.same j (by omega),←Qm _ _ hjR]
        simp only[List.getD_eq_getElem?_getD,List.getElem?_take,List.getElem?_drop]
        rw[if_pos hjk]
        have:k+(j-k)=j:=by omega
        rw[this]
       have hr2:(((Qb R).drop k).take (ns.length-k)).getD (j-k-1) []=[.int .i64 (ns.getD (j-1) 0)]:=by
        rw[←hcm.same (j-1) (by omega),←Qm _ _ hjR1]
        simp only[List.getD_eq_getElem?_getD,List.getElem?_take,List.getElem?_drop]
        rw[if_pos hjk1]
        have:k+(j-k-1)=j-1:=by omega
        rw[this]
       refine Qi ?_
       simp only[go_sem]
       refine Qw6 (fun e2 H3=>∃(kk:Nat) (R:List Int),Cmp ns R kk (j+1)∧Kn H0 H3 E (B++[(z,.vec 1 (Qb R))])∧
        lk 0 e2=.c (.vsl z 1 0 ns.length)∧lk 3 e2=.c (.int .i64 kk)∧lk 4 e2=.c (.vsl z 1 k (ns.length-k))∧lk 5 e2=.c (.int .i64 ((j-k:Nat):Int))) ?_ ?_
       ·intro Q hnr _ _
        refine Qg ?_
        refine Qag ?_
        simp only[go_sem,hz,e3,e4,hr1,hr2,hjk,hjk1,Qc,hRl,Nat.le_refl]
        refine⟨Qs (by omega) (by omega),?_⟩
        refine Qe rfl ?_ ?_
        ·intro hc5
         have hne5:ns.getD j 0≠ns.getD (j-1) 0:=by simpa using hc5
         have hkkl:kk<ns.length:=by omega
         have hkkR:kk<R.length:=by omega
         have htk:(Qb R).take ns.length=Qb R:=List.take_of_length_le (by rw[Qc];omega)
         refine Qa ?_
         simp only[go_sem,hz,e3,hr1,hjk,hkkl,htk,Qm _ _ hkkR,Qdh,Qc,hRl,Nat.zero_add,Nat.le_refl]
         intro H3 h3
         have kn3:=kn.stL B.length (x:=z) (o:=.vec 1 (Qb R)) (by simp) h3
         have kn:Kn H0 H3 E (B++[(z,.vec 1 (Qb (R.set kk (ns.getD j 0))))]):=by simpa using kn3
         refine Qt ?_
         simp only[go_sem]
         refine⟨Qs (by omega) (by omega),?_⟩
         exact hnr _ _ ⟨kk+1,_,hcm.ne hs hjl hne5,kn,rfl,rfl,rfl,rfl⟩
        ·intro hc5
         have heq5:ns.getD j 0=ns.getD (j-1) 0:=by simpa using hc5
         refine Qi ?_
         simp only[go_sem]
         exact hnr _ _ ⟨kk,R,hcm.eq hjl heq5,kn,rfl,rfl,rfl,rfl⟩
       ·rintro e2 H3 ⟨kk,R,hcm,kn,l0,l3,l4,l5⟩
        refine Qt ?_
        simp only[go_sem,X.next,l0,l3,l4,l5]
        refine⟨Qs (by omega) (by omega),ns.length-(j+1),by omega,j+1,kk,R,rfl,by omega,by omega,hcm,kn,?_⟩
        have:(((j-k:Nat):Int)+1)=((j+1-k:Nat):Int):=by omega
        rw[this]
      ·intro hc4
       have hje:j=ns.length:=by have:=of_decide_eq_false hc4;omega
       subst hje
       have hkkl:kk≤R.length:=by omega
       refine Q0 ?_
       simp only[go_sem,X.next]
       refine Qa ?_
       have e5:kk+(ns.length-kk)=ns.length:=by omega
       simp only[go_sem,hz,e5,Qc,hRl,Nat.zero_add,Nat.le_refl]
       refine⟨by omega,fun H3 h3=>?_⟩
       have kn3:=kn.stL B.length (x:=z) (o:=.vec 1 (Qb R)) (by simp) h3
       have htk2:((Qb R).take kk++List.replicate (ns.length-kk) [C.int .i64 0]++(Qb R).drop ns.length).take kk=Qb (R.take kk):=by
        rw[List.append_assoc,List.take_append_of_le_length (by rw[List.length_take,Qc];omega),List.take_take,Nat.min_self,Qau9]
       have hl2:ns.length≤((Qb R).take kk++List.replicate (ns.length-kk) [C.int .i64 0]++(Qb R).drop ns.length).length:=by
        simp only[List.length_append,List.length_take,List.length_replicate,List.length_drop,Qc];omega
       generalize (Qb R).take kk++List.replicate (ns.length-kk) [C.int .i64 0]++(Qb R).drop ns.length=R2 at *
       have kn:Kn H0 H3 E (B++[(z,.vec 1 R2)]):=by simpa using kn3
       have hz3:=kn.l B.length (l:=z) (o:=.vec 1 R2) (by simp)
       refine Qa ?_
       simp only[go_sem,hz3,hl2,Nat.zero_add,Nat.sub_zero]
       refine⟨by omega,?_⟩
       refine Qk ?_
       simp only[go_sem,X.next,Q3,Q9,Qin,List.mem_singleton,forall_eq,RS.op]
       have hrl:(Qb (R.take kk)).length=kk:=by rw[Qc,List.length_take];omega
       refine hK (.vsl z 1 0 kk) _ (R.take kk) H3 (.inr ⟨z,R2,?_,rfl,?_⟩) rfl kn hcm.asc (fun x=>?_) (by rw[List.length_take];omega)
       ·rw[hrl]
       ·rw[hrl];exact htk2
       ·rw[hcm.mem,List.take_length]
    ·intro hc3
     have hneq:¬ns.getD k 0=ns.getD (k-1) 0:=by simpa using hc3
     refine Qi ?_
     simp only[go_sem]
     refine Qt ?_
     simp only[go_sem,X.next]
     refine⟨Qs (by omega) (by omega),ns.length-(k+1),by omega,k+1,rfl,by omega,by omega,fun i h0 h1=>?_,rfl⟩
     by_cases h:i<k
     ·exact hne i h0 h
     ·have:i=k:=by omega
      subst this;exact hneq
   ·intro hc2
    have hge:ns.length≤k:=by simpa using hc2
    refine Q0 ?_
    simp only[go_sem,X.next]
    refine Qa ?_
    simp only[go_sem]
    refine Qk ?_
    simp only[go_sem,Q3,Q9,Qin,List.mem_singleton,forall_eq,RS.op]
    exact hK _ _ ns H1 hgr.gw rfl kn (Qaoz hs fun i h0 hi=>hne i h0 (by omega)) (fun _=>Iff.rfl) (Nat.le_refl _)
theorem Qbkj {fl:Bool}{ns:List Int}(hL:ns.length≤2 ^ 38)(hK:∀ns' H',Upd H H' []→ns'.Pairwise (· < ·)→(∀x,x∈ns'↔x∈ns)→ns'.length≤ns.length→K (.c (.sl false 1 (Qb ns'))) H') :
  Qp prog Q0g [.c (.sl fl 1 (Qb ns))] H K:=by
 refine Qz ?_
 refine Qd Qak Qa76 ?_
 refine Qa ?_
 simp only[go_sem]
 refine Qa ?_
 simp only[go_sem]
 refine Q0a (Kn.start0 H) (by simp only[LIM];omega) fun t Lg H1 hgr how kn=>?_
 simp only[go_sem,Q3b]
 refine Qa ?_
 simp only[go_sem,how]
 refine Qbjf kn hgr fun Lg H2 hgr kn=>?_
 refine Qa ?_
 simp only[go_sem,how]
 refine Qa6i kn hgr (Qa6e ns) (by rw[Qa0m];exact hL) fun t2 Lg2 ns' H3 hgw how2 kn h1 h2 h3=>?_
 simp only[go_sem,Q3c,how2]
 refine Qk ?_
 simp only[go_sem,Q3,Q9,Qaqb,List.mem_singleton,forall_eq,RS.op,how2]
 exact⟨_,.c _ _ (hgw.frz kn),hK ns' _ kn.fin h1 (fun x=>by rw[h2,Qbir]) (by rw[Qa0m]at h3;exact h3)⟩
end Go.AE.Y

namespace Go.AE.Y
open Go.Proofs.Tryz
variable {H H0:Heap}{K:V→Heap→Prop}{E B Lg:List (Nat×Obj)}
noncomputable def Qbj0 (n:Nat)(nx:Nat→List Int):List Nat:=if Qbjy n nx then Qbl1 n (nxN nx)else []
noncomputable def loopL (n:Nat)(nx:Nat→List Int)(h:Int):List Nat:=if ((Qbj0 n nx).map Int.ofNat).contains h then Qa6w n (nxN nx) h.toNat else []
noncomputable def reachL (n:Nat)(nx:Nat→List Int):List Nat:=if Qbjy n nx then (List.range n).filter (rchB (nxN nx) (-1))else []
end Go.AE.Y

namespace Go.AE.Y
open Go.Proofs.Tryz
variable {H H0:Heap}{K:V→Heap→Prop}{E B Lg:List (Nat×Obj)}
end Go.AE.Y

namespace Go.AE.Y
open Go.Proofs.Tryz
def Qarv:List Item:=[sJ 3 4 9]
def Qarw:List Item:=[sJ 3 4 15]
def Qarx:List Item:=.chk 12 none (.ld 3 true (.t 2))::aJ 15 Qa24 [.t 12,.t 14]::Qarw
def Q3o:List Item:=[sJ 3 4 19]
def Qary:List Item:=[sJ 3 4 23]
def Qarz:List Item:=[sJ 3 4 27]
def Qar0:List Item:=[sJ 3 4 31]
def Qar1:List Item:=[sJ 3 4 35]
def Qar2:List Item:=[sJ 3 4 39]
def Qar3:List Item:=[sJ 3 4 43]
def Qann:List Item:=[sJ 3 4 47]
def Qano:List Item:=[sJ 3 4 51]
def Qarh:SC:=cT 48 (sR (tJ 50 3 2::aJ 51 Qa27 [.t 50]::Qano) [4] .ret) .skip
def Qari:SC:=cT 44 (sR (tJ 46 3 2::aJ 47 Qa28 [.t 46]::Qann) [4] .ret) (sR [fI 49 (.bin 0 .eql (.t 5) (.k (.c (.str [106,111,105,110])))),mJ 48 49] [2,4,48] Qarh)
def Qarj:SC:=cT 40 (sR (tJ 42 3 2::aJ 43 Qa26 [.t 42]::Qar3) [4] .ret) (sR [fI 45 (.bin 0 .eql (.t 5) (.k (.c (.str [115,107,105,112])))),mJ 44 45] [2,4,5,44] Qari)
def Qark:SC:=cT 36 (sR (tJ 38 3 2::aJ 39 Qauy [.t 38]::Qar2) [4] .ret) (sR [fI 41 (.bin 0 .eql (.t 5) (.k (.c (.str [101,118,101,110])))),mJ 40 41] [2,4,5,40] Qarj)
def Qarl:SC:=cT 32 (sR (tJ 34 3 2::aJ 35 Qaux [.t 34]::Qar1) [4] .ret) (sR [fI 37 (.bin 0 .eql (.t 5) (.k (.c (.str [104,111,105,115,116])))),mJ 36 37] [2,4,5,36] Qark)
def Qarm:SC:=cT 28 (sR (tJ 30 3 2::aJ 31 Qa7e [.t 30]::Qar0) [4] .ret) (sR [fI 33 (.bin 0 .eql (.t 5) (.k (.c (.str [115,104,97,114,101])))),mJ 32 33] [2,4,5,32] Qarl)
def Qarn:SC:=cT 24 (sR (tJ 26 3 2::aJ 27 Qapa [.t 26]::Qarz) [4] .ret) (sR [fI 29 (.bin 0 .eql (.t 5) (.k (.c (.str [107,110,111,119,110])))),mJ 28 29] [2,4,5,28] Qarm)
def Qaro:SC:=cT 20 (sR (tJ 22 3 2::aJ 23 Qa25 [.t 22]::Qary) [4] .ret) (sR [fI 25 (.bin 0 .eql (.t 5) (.k (.c (.str [115,105,110,103,108,101])))),mJ 24 25] [2,4,5,24] Qarn)
def Qarp:SC:=cT 16 (sR (tJ 18 3 2::aJ 19 Qxd [.t 18]::Q3o) [4] .ret) (sR [fI 21 (.bin 0 .eql (.t 5) (.k (.c (.str [105,100,108,101])))),mJ 20 21] [2,4,5,20] Qaro)
def Qarq:SC:=cT 10 (.seq (.dreg 5 [0,1,2,0,3,4] ( tJ 12 3 2::tJ 13 3 2::aJ 14 Qauw [.t 13]::Qarx) [4]) .ret) (sR [fI 17 (.bin 0 .eql (.t 5) (.k (.c (.str [115,112,108,105,116])))),mJ 16 17] [2,4,5,16] Qarp)
def Qarr:SC:=cT 6 (sR (tJ 8 3 2::aJ 9 Qa23 [.t 8]::Qarv) [4] .ret) (sR [fI 11 (.bin 0 .eql (.t 5) (.k (.c (.str [111,114,100,101,114])))),mJ 10 11] [2,4,5,10] Qarq)
def Qars:SC:=.block 0 (sR [fI 7 (.bin 0 .eql (.t 5) (.k (.c (.str [114,101,97,99,104])))),mJ 6 7] [2,4,5,6] Qarr)
def Qanp:List Item:=[sJ 3 4 53]
def Qart:SC:=sR (tJ 52 3 2::aJ 53 Qauz [.t 52]::Qanp) [4] .ret
def Qaru:SC:=.seq (sR [mJ 5 1] [2,4,5] Qars) Qart
def Qa9n:SC:=sR [vJ 2 0,eI 4 (.alloc [.int .i64 0,.int .i64 0,.sl true 5 []])] [1,2,4] Qaru
def Qaqd:List RS:=[.cell 4 3 true]
theorem Qa8a:mFn prog Quc 2 54 Qa9n Qaqd=true:=by kernel_rfl
def Q3h:List Item:=[fB 5 false]
def Q3i:List Item:=[oJ 10 9]
def Q3j:List Item:=[fB 5 false]
def Qawd:SC:=cT 10 (sR (fI 11 (.bld [.sl true 3 []] [])::sJ 1 4 11::Q3j) [4,5] .ret) .skip
def Q3k:List Item:=[sJ 1 6 12]
def Q3l:List Item:=[fJ 31 0 6,sJ 1 31 30]
def Q3m:List Item:=hJ 21 20::fI 29 (.bsl 3 [.t 28])::xJ 30 3 21 29::Q3l
def Qawe:SC:=.reg [mJ 18 7,cJ 19 .add 18 1,mJ 7 19] [1,2,4,6,7]
def Qawf:SC:=.seq (.block 1 (.dreg 13 [0,1,2,3,4,5,6,7,8,1,9,10,11,12] ( fJ 20 0 6::lJ 21 20::fJ 22 0 2::lJ 23 22::mJ 24 7::iJ 25 3 23 24::tJ 26 3 25::mJ 27 1::aJ 28 Quc [.t 26,.t 27]::Q3m) [1,2,4,6,7])) Qawe
def Qaq5:SC:=.seq (sR [mJ 13 7,fJ 14 0 2,lJ 15 14,nJ 16 15,bJ 17 .lss 13 16] [1,2,4,6,7,17] (cT 17 .skip (.exit 0))) Qawf
def Qzo:List Item:=[oJ 34 33]
def Qzp:List Item:=[fB 5 false]
def Qaqz:SC:=cT 34 (sR (fI 35 (.bld [.sl true 3 []] [])::sJ 1 4 35::Qzp) [4,5] .ret) .skip
def Qzq:List Item:=[fB 5 true]
def Qaq0:SC:=sR (tJ 36 1 6::sJ 1 4 36::Qzq) [4,5] .ret
def Qaq1:SC:=.seq .gh (.seq (sR (tJ 32 1 6::aJ 33 Qbv [.t 32]::Qzo) [4,6,34] Qaqz) Qaq0)
def Qaq2:SC:=.seq (sR [zJ 7 0] [1,2,4,6,7] (bL 0 Qaq5)) Qaq1
def Qaq3:SC:=sR (fI 12 (.bld [.sl true 3 []] [])::eI 6 (.alloc [.sl true 3 []])::Q3k) [1,2,4,6] Qaq2
def Qaq4:SC:=.seq (sR (tJ 8 1 2::aJ 9 Qbv [.t 8]::Q3i) [1,2,4,10] Qawd) Qaq3
def Qa9m:SC:=sR (vJ 2 0::eI 4 (.alloc [.sl true 3 []])::Q3h) [1,2,4] Qaq4
def Qys:List RS:=[.cell 4 1 true,.tmp 5]
theorem Qa79:mFn prog Q0i 2 37 Qa9m Qys=true:=by kernel_rfl
end Go.AE.Y

namespace Go.AE.Y
attribute [local instance] Classical.propDecidable
variable {g:Nat→List Nat}{n:Nat}
theorem Rch.two {A:Nat→Prop}{a b z:Nat}(hab:a≠b)(h:Rch g A 0 z):Rch g (fun w=>w=a∨w=b) 0 z∨Rch g (fun w=>(w:Int)=b) 0 a∨Rch g (fun w=>(w:Int)=a) 0 b:=by
 induction h with
 |refl _=>
  by_cases ha:0=a
  ·subst ha;exact .inr (.inl (.refl fun hh=>hab (by omega)))
  ·by_cases hb:0=b
   ·subst hb;exact .inr (.inr (.refl fun hh=>hab (by omega)))
   ·exact .inl (.refl fun hh=>hh.elim ha hb)
 |@step y z h1 h2 h3 ih=>
  rcases ih with h|h
  ·by_cases ha:z=a
   ·subst ha
    exact .inr (.inl (.step (h.mono fun w hw=>.inr (by omega)) h2 fun hh=>hab (by omega)))
   ·by_cases hb:z=b
    ·subst hb
     exact .inr (.inr (.step (h.mono fun w hw=>.inl (by omega)) h2 fun hh=>hab (by omega)))
    ·exact .inl (.step h h2 fun hh=>hh.elim ha hb)
  ·exact .inr h
noncomputable def depL (n:Nat)(g:Nat→List Nat)(b:Nat):Nat:=((List.range n).filter fun a=>domB g a b).length
def Tree (n:Nat)(ids:List Int)(dp:Nat→Nat):Prop:=ids.length=n∧∀b,b<n→ids.getD b 0=-1∨∃a:Nat,ids.getD b 0=a∧a<n∧dp a<dp b
inductive Sub (ids:List Int)(b:Nat):Nat→Prop
 |refl:Sub ids b b
 |step {y x:Nat}:Sub ids b y→x<ids.length→ids.getD x 0=(y:Int)→Sub ids b x
variable {ids:List Int}{dp:Nat→Nat}
def Qbhj (ids:List Int)(b:Nat):List Nat:=(List.range ids.length).filter fun i=>decide (ids.getD i 0=(b:Int))
theorem kidsL_mem {b k:Nat}:k∈Qbhj ids b↔k<ids.length∧ids.getD k 0=(b:Int):=by simp[Qbhj]
theorem Sub.split {b x:Nat}(h:Sub ids b x):x=b∨∃k∈Qbhj ids b,Sub ids k x:=by
 induction h with
 |refl=>exact .inl rfl
 |@step y x h1 h2 h3 ih=>
  rcases ih with rfl|⟨k,hk,h⟩
  ·exact .inr ⟨x,kidsL_mem.2 ⟨h2,h3⟩,.refl⟩
  ·exact .inr ⟨k,hk,h.step h2 h3⟩
theorem Sub.lt {b x:Nat}(hb:b<ids.length)(h:Sub ids b x):x<ids.length:=by
 cases h with
 |refl=>exact hb
 |step _ h _=>exact h
def potW (n:Nat)(w:Nat→Nat)(U:Nat→Prop) [DecidablePred U]:Nat:=(((List.range n).filter fun x=>decide (U x)).map w).sum
end Go.AE.Y

namespace Go.AE.Y
attribute [local go_sem] cond_true cond_false Bool.not_true Bool.not_false
open Go.Proofs.Tryz
variable {H H0:Heap}{K:V→Heap→Prop}{E B Lg:List (Nat×Obj)}
noncomputable def rchL (n:Nat)(g:Nat→List Nat):List Nat:=(List.range n).filter (rchB g (-1))
end Go.AE.Y

namespace Go.AE.Y
attribute [local go_sem] cond_true cond_false Bool.not_true Bool.not_false
open Go.Proofs.Tryz
variable {H H0:Heap}{K:V→Heap→Prop}{E B Lg:List (Nat×Obj)}
theorem Qaj1 (l:List Int)(i:Nat)(v:Int):(Qb l).set i [C.int .i64 v]=Qb (l.set i v):=by simp[Qb,List.map_set]
def Qblo (n:Nat)(l:List Nat)(P:List Int):Prop:=P.length=n∧∀x∈l,∃i,∃h:i<l.length,l[i]=x∧P.getD x 0=(i:Int)
end Go.AE.Y

namespace Go.AE.Y
attribute [local go_sem] cond_true cond_false Bool.not_true Bool.not_false
open Go.Proofs.Tryz
variable {H H0:Heap}{K:V→Heap→Prop}{E B Lg:List (Nat×Obj)}
def kidsN (ids:List Int)(b n:Nat):List Nat:=(List.range n).filter fun i=>decide (ids.getD i 0=(b:Int))
end Go.AE.Y

namespace Go.AE.Y
attribute [local go_sem] cond_true cond_false Bool.not_true Bool.not_false
open Go.Proofs.Tryz
variable {H H0:Heap}{K:V→Heap→Prop}{E B Lg:List (Nat×Obj)}
end Go.AE.Y

namespace Go.AE.Y
open Go.Proofs.Tryz
variable {H:Heap}{K:V→Heap→Prop}
theorem Qa7o {op:Int}(hK:K (.c (.bool (decide (1≤op)&&decide (op≤14)))) H):Qp prog Qlk [.c (.int .i64 op)] H K:=by
 refine Qd Qak Qa3j ?_
 refine Qa ?_
 simp only[go_sem]
 refine Qa ?_
 simp only[go_sem]
 refine Qda ?_
 simp only[go_sem,Qzi]
 refine Qk ?_
 simp only[go_sem,Q3,Q9,Qakb,List.mem_singleton,forall_eq,RS.op]
 exact hK
theorem Qa09 {n:Int}(hK:K (.c (.bool (decide (0≤n)&&decide (n≤255)))) H):Qp prog Qic [.c (.int .i64 n)] H K:=by
 refine Qd Qak Qavd ?_
 refine Qa ?_
 simp only[go_sem]
 refine Qa ?_
 simp only[go_sem]
 refine Qda ?_
 simp only[go_sem,Qwa]
 refine Qk ?_
 simp only[go_sem,Q3,Q9,Q87,List.mem_singleton,forall_eq,RS.op]
 exact hK
theorem Qbau {op:Int}(hK:K (.c (.bool (Qhe op))) H):Qp prog Qub [.c (.int .i64 op)] H K:=by
 refine Qd Qak Qa77 ?_
 refine Qa ?_
 simp only[go_sem]
 refine Qa ?_
 simp only[go_sem]
 refine Qa7o ?_
 simp only[go_sem,Q3d]
 refine Qk ?_
 simp only[go_sem,Q3,Q9,Qaqc,List.mem_singleton,forall_eq,RS.op]
 have:∀a b c:Bool,(bif bif a then b else false then c else false)=(a&&b&&c):=by decide
 rw[this]
 have e:(decide (1≤op)&&decide (op≤14))=decide (1≤op∧op≤14):=by simp
 rw[e];exact hK
theorem Qaos {j:Int}(hK:K (.c (.bool (decide (j=2) || decide (j=3)))) H):Qp prog Qid [.c (.int .i64 j)] H K:=by
 refine Qd Qak Qavg ?_
 refine Qa ?_
 simp only[go_sem]
 refine Qa ?_
 simp only[go_sem]
 refine Qk ?_
 simp only[go_sem,Q3,Q9,Q9a,List.mem_singleton,forall_eq,RS.op]
 have:∀a b:Bool,(bif a then true else b)=(a || b):=by decide
 first|(rw[this];exact hK)|exact hK
theorem Qavp {j:Int}(hK:K (.c (.int .i64 (Qj9 j))) H):Qp prog Qg6 [.c (.int .i64 j)] H K:=by
 refine Qd Qak Qafo ?_
 have retf:∀(n:Int) (e:Env),Qj9 j=n→lk 2 e=.c (.int .i64 n)→Q3 Qji K .ret e H:=by
  intro b e h1 h3
  simp only[go_sem,Q3,Q9,Qji,List.mem_singleton,forall_eq,RS.op,h3]
  rw[←h1];exact hK
 refine Qa ?_
 simp only[go_sem]
 refine Q6 ?_
 refine Qa ?_
 simp only[go_sem]
 refine Qh (Qg ?_)
 refine Qa ?_
 simp only[go_sem]
 refine Qe rfl ?_ ?_
 ·intro hc
  refine Qa ?_
  simp only[go_sem]
  refine Qk ?_
  simp only[go_sem]
  exact retf 1 _ (by simp at hc;simp[Qj9,hc]) (by simp[lk])
 intro hc1
 refine Qa ?_
 simp only[go_sem]
 refine Qe rfl ?_ ?_
 ·intro hc
  refine Qa ?_
  simp only[go_sem]
  refine Qk ?_
  simp only[go_sem]
  exact retf 2 _ (by simp at hc;simp[Qj9,hc]) (by simp[lk])
 intro hc2
 refine Qa ?_
 simp only[go_sem]
 refine Qe rfl ?_ ?_
 ·intro hc
  refine Qa ?_
  simp only[go_sem]
  refine Qk ?_
  simp only[go_sem]
  exact retf 0 _ (by simp at hc;simp[Qj9,hc]) (by simp[lk])
 ·intro hc
  refine Qi ?_
  simp only[go_sem]
  refine Qa ?_
  simp only[go_sem]
  refine Qk ?_
  exact retf (-1) _ (by simp at hc hc1 hc2;simp[Qj9,hc,hc1,hc2]) (by simp[lk])
def Qaoy (op:Int):Int:=if op=1 then 0 else if op=2∨op=10∨op=11∨op=13 then 1 else 2
theorem Qa7n {op:Int}(hK:K (.c (.int .i64 (Qaoy op))) H):Qp prog Qlj [.c (.int .i64 op)] H K:=by
 refine Qd Qak Qapn ?_
 have retf:∀(n:Int) (e:Env),Qaoy op=n→lk 2 e=.c (.int .i64 n)→Q3 Qik K .ret e H:=by
  intro b e h1 h3
  simp only[go_sem,Q3,Q9,Qik,List.mem_singleton,forall_eq,RS.op,h3]
  rw[←h1];exact hK
 refine Qa ?_
 simp only[go_sem]
 refine Q6 ?_
 refine Qa ?_
 simp only[go_sem]
 refine Qh (Qg ?_)
 refine Qa ?_
 simp only[go_sem]
 refine Qe rfl ?_ ?_
 ·intro hc
  refine Qa ?_
  simp only[go_sem]
  refine Qk ?_
  simp only[go_sem]
  exact retf 0 _ (by simp at hc;simp[Qaoy,hc]) (by simp[lk])
 intro hc1
 have fin:∀(b:Bool) (e:Env),b=decide (op=2∨op=10∨op=11∨op=13)→lk 6 e=.c (.bool b)→Qad prog Qv8 (X.inBlock 0 (X.sq prog Qv9 (Q3 Qik K))) e H:=by
  intro b e hb l6
  refine Qe l6 ?_ ?_
  ·intro hc
   refine Qa ?_
   simp only[go_sem]
   refine Qk ?_
   simp only[go_sem]
   exact retf 1 _ (by rw[hc]at hb;have:=of_decide_eq_true hb.symm;simp at hc1;rw[Qaoy,if_neg hc1,if_pos this]) (by simp[lk])
  ·intro hc
   refine Qi ?_
   simp only[go_sem]
   refine Qa ?_
   simp only[go_sem]
   refine Qk ?_
   exact retf 2 _ (by rw[hc]at hb;have:=of_decide_eq_false hb.symm;simp at hc1;rw[Qaoy,if_neg hc1,if_neg this]) (by simp[lk])
 refine Q6 ?_
 refine Qa ?_
 simp only[go_sem]
 refine Qh (Qe rfl ?_ ?_)
 ·intro hc
  refine Qi ?_
  simp only[go_sem]
  exact fin true _ (decide_eq_true (.inl (of_decide_eq_true hc))).symm (by simp[lk];exact of_decide_eq_true hc)
 intro hc2
 refine Qa ?_
 simp only[go_sem]
 refine Qe rfl ?_ ?_
 ·intro hc
  refine Qi ?_
  simp only[go_sem]
  exact fin true _ (decide_eq_true (.inr (.inl (of_decide_eq_true hc)))).symm (by simp[lk];exact of_decide_eq_true hc)
 intro hc3
 refine Qa ?_
 simp only[go_sem]
 refine Qe rfl ?_ ?_
 ·intro hc
  refine Qi ?_
  simp only[go_sem]
  exact fin true _ (decide_eq_true (.inr (.inr (.inl (of_decide_eq_true hc))))).symm (by simp[lk];exact of_decide_eq_true hc)
 intro hc4
 refine Qt ?_
 simp only[go_sem]
 refine fin (decide (op=13)) _ ?_ (by simp[lk])
 have a2:=of_decide_eq_false hc2
 have a3:=of_decide_eq_false hc3
 have a4:=of_decide_eq_false hc4
 simp[a2,a3,a4]
end Go.AE.Y

namespace Go.AE.Y
open Go.Proofs.Tryz
variable {H:Heap}{K:V→Heap→Prop}
theorem Qaue {l:List BlkD}(hf:∀b∈l,b.ins.length≤2 ^ 38∧b.phis.length≤2 ^ 38):Qjx Qyf l≤l.length * 549755813888:=by
 induction l with
 |nil=>simp[Qjx]
 |cons y l ih=>
  have h1:=hf y List.mem_cons_self
  have h2:=ih fun b hb=>hf b (List.mem_cons_of_mem _ hb)
  simp only[Qjx,List.map_cons,List.sum_cons,Qyf,List.length_cons]at *
  omega
set_option maxHeartbeats 1000000 in
theorem Qauq {q:CodeD}{fl:Bool}(hf:q.fits)(hb:q.blocks.length≤160)(hK:∀H',Upd H H' []→K (.c (.int .i64 (Q71 q))) H') :
  Qp prog Qg2 [.ag [.int .i64 q.params,.int .i64 q.regs,.sl fl 5 (Qr q.blocks)]] H K:=by
 refine Qz ?_
 refine Qd Qak Qafj ?_
 have hsb:=Qaue hf
 refine Qa ?_
 simp only[go_sem]
 refine Qa ?_
 simp only[go_sem]
 refine Q6 ?_
 refine Qa ?_
 simp only[go_sem,Qq]
 intro _
 refine Qh (Qg (Qy (fun m e1 H1=>∃(i:Nat),m=q.blocks.length-i∧i≤q.blocks.length∧Kn H H1 [] []∧
  e1=[(3,.c (.int .i64 (Qjx Qyf (q.blocks.take i):Nat))),(7,.c (.sl fl 5 (Qr q.blocks))),(8,.c (.int .i64 q.blocks.length)),(9,.c (.int .i64 i))]) q.blocks.length ?_ ?_))
 ·exact⟨0,by omega,by omega,Kn.start0 H,rfl⟩
 ·rintro m e1 H1 ⟨i,hm,hi,kn,rfl⟩
  refine Qa ?_
  simp only[go_sem]
  refine Qh (Qe rfl ?_ ?_)
  ·intro hc
   have hlt:i<q.blocks.length:=by simpa using hc
   have hbf:=hf _ (List.getElem_mem hlt)
   have hss:=Qc6 (f:=Qyf) hlt
   have hle:=Qa0o (f:=Qyf) (l:=q.blocks) (i+1)
   have hcy:Qyf q.blocks[i]=q.blocks[i].ins.length+q.blocks[i].phis.length:=rfl
   have hmul:q.blocks.length * 549755813888≤160 * 549755813888:=Nat.mul_le_mul_right _ hb
   refine Qi ?_
   simp only[go_sem]
   refine Qh (Qg ?_)
   refine Qa ?_
   simp only[go_sem,hlt,Qq,Qan _ _ hlt,BlkD.cells]
   intro x5 hx5 H2 h2
   have kn:=kn.al hx5 h2
   have hx5:=kn.l 0 rfl
   simp only[go_sem,Qkq,hx5]
   intro H3 h3
   have kn:Kn H H3 [] ([]++[(x5,.st [.sl false 2 (Qw q.blocks[i].phis),.sl false 4 (Qav q.blocks[i].ins),.int .i64 q.blocks[i].jump,.int .i64 q.blocks[i].on,.sl false 1 (Qb q.blocks[i].next)])]):=kn.stL 0 rfl h3
   have hx5:=kn.l 0 rfl
   refine Qt ?_
   simp only[go_sem,hx5,Qat,Qv]
   intro _ _
   refine⟨Qs (by omega) (by omega),Qs (by omega) (by omega),?_⟩
   refine Qt ?_
   simp only[go_sem,X.next]
   refine⟨Qs (by omega) (by omega),q.blocks.length-(i+1),by omega,i+1,rfl,by omega,kn.drop,?_⟩
   rw[hss,hcy]
   have:((Qjx Qyf (q.blocks.take i):Nat):Int)+((q.blocks[i].phis.length:Int)+q.blocks[i].ins.length)=((Qjx Qyf (q.blocks.take i)+(q.blocks[i].ins.length+q.blocks[i].phis.length):Nat):Int):=by omega
   rw[this];rfl
  ·intro hc
   have hge:q.blocks.length≤i:=by simpa using hc
   refine Q0 ?_
   simp only[go_sem,X.next]
   refine Qa ?_
   simp only[go_sem]
   refine Qk ?_
   simp only[go_sem,Q3,Q9,Qvr,List.mem_singleton,forall_eq,RS.op]
   rw[List.take_of_length_le hge]
   exact⟨_,.c _ _ (Qf rfl),hK _ kn.fin⟩
end Go.AE.Y

namespace Go.AE.Y
open Go.Proofs.Tryz
variable {H:Heap}{K:V→Heap→Prop}
theorem Qaj0 {x7:Nat}{q:CodeD}{v:Int}(h7:H x7=.st q.cells)(hr:-(2^62)≤q.regs)(hr2:q.regs≤2^62)(hK:K (.c (.bool (decide (0≤v∧v≤q.regs-1)))) H) :
  Qp prog Qc0 [.c (.int .i64 v),.c (.ptr x7 0)] H K:=by
 refine Qd Qak Qalk ?_
 refine Qa ?_
 simp only[go_sem]
 refine Qa ?_
 simp only[go_sem,h7,CodeD.cells]
 refine⟨Qs (by omega) (by omega),?_⟩
 refine Qda ?_
 simp only[go_sem,Qm7]
 refine Qk ?_
 simp only[go_sem,Q3,Q9,Qyp,List.mem_singleton,forall_eq,RS.op]
 have e:(decide (0≤v)&&decide (v≤q.regs-1))=decide (0≤v∧v≤q.regs-1):=by simp
 rw[e];exact hK
theorem Qa3a {x7 x8:Nat}{q:CodeD}{v:Int}(h7:H x7=.st q.cells)(h8:H x8=.st [.fn Qc0 [.ptr x7 0]])(hr:-(2^62)≤q.regs)(hr2:q.regs≤2^62)(hK:K (.c (.bool (!decide (0≤v∧v≤q.regs-1)))) H) :
  Qp prog Qi6 [.c (.int .i64 v),.c (.ptr x8 0)] H K:=by
 refine Qd Qak Qall ?_
 refine Qa ?_
 simp only[go_sem]
 refine Qa ?_
 simp only[go_sem,h8,List.cons_append,List.nil_append,List.map_cons,List.map_nil]
 refine Qaj0 h7 hr hr2 ?_
 simp only[go_sem,Qm8]
 refine Qk ?_
 simp only[go_sem,Q3,Q9,Qyq,List.mem_singleton,forall_eq,RS.op]
 exact hK
theorem Qauo (p:Int→Bool)(l:List Int):(l.any fun x=>!p x) = !l.all p:=by
 induction l with
 |nil=>rfl
 |cons x l ih=>simp only[List.any_cons,List.all_cons,ih];cases p x <;> simp
set_option maxHeartbeats 1000000 in
theorem Qbhb {cs:List CodeD}{fl:Bool}{k:Nat}{x:InsD}(hk:k<cs.length)(hr:0≤cs[k].regs)(hr2:cs[k].regs≤300)(hcl:cs.length≤100)(hK:∀(H':Heap),Upd H H' []→K (.c (.bool (Q45 cs k x))) H') :
  Qp prog Qxb [.ag [.sl fl 3 (Ql cs)],.c (.int .i64 k),.ag x.cells] H K:=by
 refine Qz ?_
 refine Qd Qak Qa3i ?_
 refine Qa ?_
 simp only[go_sem,InsD.cells]
 refine Qa ?_
 simp only[go_sem,hk,Q4,Qaj _ _ hk,CodeD.cells]
 intro x7 hx7 H1 h1
 have kn:=(Kn.start0 H).al hx7 h1
 have hx7:=kn.l 0 rfl
 simp only[go_sem,Qzf,hx7]
 intro H2 h2
 have kn:=kn.stL 0 rfl h2
 refine Qa ?_
 simp only[go_sem]
 intro x8 hx8 H3 h3
 have kn:=kn.al hx8 h3
 have hx8:=kn.l 1 rfl
 simp only[go_sem,Qzg,hx8]
 intro H4 h4
 have kn:Kn H H4 [] [(x7,.st cs[k].cells),(x8,.st [.fn Qc0 [.ptr x7 0]])]:=kn.stL 1 rfl h4
 have h7:H4 x7=.st cs[k].cells:=kn.l 0 rfl
 have h8:=kn.l 1 rfl
 have hrg:=Q9p hk
 have retf:∀(b:Bool) (e:Env),Q45 cs k x=b→lk 6 e=.c (.bool b)→Q3 Qkd (unK H K) .ret e H4:=by
  intro b e h1 h3
  simp only[go_sem,Q3,Q9,Qkd,List.mem_singleton,forall_eq,RS.op,h3]
  rw[←h1];exact⟨_,.c _ _ (Qf rfl),hK _ kn.fin⟩
 refine Q6 ?_
 refine Qa ?_
 simp only[go_sem]
 refine Qa7o ?_
 simp only[go_sem,Qzh]
 have rest2:∀(E1:Env) (b:Bool),insH cs[k].regs x=true→insT cs[k].regs x=(!b)→lk 1 E1=.c (.int .i64 k)→lk 3 E1=.c (.pp [.sl fl 3 (Ql cs)])→lk 5 E1=.c (.pp [.int .i64 x.op,.int .i64 x.to,.sl false 1 (Qb x.args),.int .i64 x.n])→lk 45 E1=.c (.bool b)→
   Qad prog (s_im_insOk_8.seq Qzd) (Q3 Qkd (unK H K)) E1 H4:=by
  intro E1 b hb1 hb2 l1 l3 l5 l45
  refine Qh (Qe l45 ?_ ?_)
  ·intro hc
   refine Qa ?_
   simp only[go_sem]
   refine Qk ?_
   simp only[go_sem]
   exact retf false _ (by rw[Q45,hrg,hb2,hc];simp) (by simp[lk])
  intro hc
  rw[hc]at hb2
  have hG:Q45 cs k x=insL cs k x:=by rw[Q45,hrg,hb1,hb2];rfl
  have hop14:1≤x.op∧x.op≤14:=by
   simp only[insH,Bool.and_eq_true,decide_eq_true_eq]at hb1
   exact hb1.1
  refine Qi ?_
  simp only[go_sem]
  refine Q6 ?_
  refine Qa ?_
  simp only[go_sem,l1,l3,l5]
  refine Qh (Qg ?_)
  refine Qa ?_
  simp only[go_sem]
  refine Qe rfl ?_ ?_
  ·intro hc
   have hop:x.op=1:=of_decide_eq_true hc
   have hL:insL cs k x=(decide ((x.args.length:Int)=0)&&(decide (0≤x.n)&&decide (x.n≤255))):=by
    rw[insL,if_neg (by omega)]
    simp[Qgx,hop]
   refine Qa ?_
   simp only[go_sem,Qc]
   intro _
   refine⟨fun hb=>?_,fun hb=>?_⟩
   ·refine Qa09 ?_
    simp only[go_sem,Ql7]
    refine Qk ?_
    simp only[go_sem]
    refine retf _ _ ?_ (by simp[lk];rfl)
    have hb':x.args=[]:=List.length_eq_zero_iff.1 (by have:=of_decide_eq_true hb;omega)
    rw[hG,hL];simp[hb']
   ·simp only[go_sem,Ql7,hb]
    refine Qk ?_
    simp only[go_sem]
    exact retf false _ (by rw[hG,hL,hb];rfl) (by simp[lk])
  intro hc1
  have hop1:¬x.op=1:=of_decide_eq_false hc1
  refine Qa ?_
  simp only[go_sem]
  refine Qe rfl ?_ ?_
  ·intro hc
   have hop:x.op=14:=of_decide_eq_true hc
   rw[insL,if_pos hop]at hG
   refine Qag ?_
   simp only[go_sem]
   refine⟨Qs (by omega) (by omega),?_⟩
   refine Qda ?_
   by_cases hin:0≤x.n∧x.n≤(k:Int)-1
   ·obtain⟨m,hm⟩:=Int.eq_ofNat_of_zero_le hin.1
    have hmk:m<cs.length:=by omega
    have h1:(0≤(m:Int))=True:=eq_true (by omega)
    have h2:((m:Int)≤(k:Int)-1)=True:=eq_true (by omega)
    simp only[go_sem,Qe8,hm,h1,h2,hmk,decide_true,Bool.and_self,Q4,Qaj _ _ hmk,CodeD.cells,Qc]
    refine Qk ?_
    simp only[go_sem]
    refine retf _ _ ?_ (by simp[lk];rfl)
    rw[hG,hm,Int.toNat_natCast,Q00 hmk]
    simp only[h1,h2,and_self,decide_true,Bool.true_and]
   ·have hin':(decide (0≤x.n)&&decide (x.n≤(k:Int)-1))=false:=by simpa using hin
    have hin2:decide (0≤x.n∧x.n≤(k:Int)-1)=false:=by simpa using hin
    by_cases hm:x.n.toNat<cs.length
    ·simp only[go_sem,Qe8,hin',Qaj _ _ hm,CodeD.cells]
     refine Qk ?_
     simp only[go_sem]
     exact retf false _ (by rw[hG,hin2];rfl) (by simp[lk])
    ·have hgd:(Ql cs).getD x.n.toNat []=[]:=by
      rw[List.getD_eq_getElem?_getD,List.getElem?_eq_none (by rw[Q4];omega)];rfl
     simp only[go_sem,Qe8,hin',hgd,List.take_nil,List.headD_nil]
     refine Qk ?_
     simp only[go_sem]
     exact retf false _ (by rw[hG,hin2];rfl) (by simp[lk])
  ·intro hc
   have hop:¬x.op=14:=of_decide_eq_false hc
   have hA:Qgx x.op=Qaoy x.op:=by
    rw[Qgx,Qaoy,if_neg hop1,if_neg hop1]
    split
    ·rfl
    ·rw[if_pos (by omega)]
   have hL:insL cs k x=(decide (x.n=0)&&decide ((x.args.length:Int)=Qaoy x.op)):=by
    rw[insL,if_neg hop,hA]
    by_cases hn:x.n=0
    ·simp[hn]
    ·simp[hn,hop1]
   refine Qi ?_
   simp only[go_sem]
   refine Qag ?_
   simp only[go_sem,Qc]
   refine⟨fun hb=>?_,fun hb=>?_⟩
   ·refine Qa7n ?_
    simp only[go_sem,Qjo,hb,Qc]
    refine Qk ?_
    refine retf _ _ ?_ (by simp[lk];rfl)
    have hb':=of_decide_eq_true hb
    rw[hG,hL];simp[hb']
   ·simp only[go_sem,Qjo,hb,Qc]
    refine Qk ?_
    exact retf false _ (by rw[hG,hL,hb];rfl) (by simp[lk])
 have rest:∀(E1:Env) (b:Bool),insH cs[k].regs x=(!b)→lk 1 E1=.c (.int .i64 k)→lk 3 E1=.c (.pp [.sl fl 3 (Ql cs)])→lk 5 E1=.c (.pp [.int .i64 x.op,.int .i64 x.to,.sl false 1 (Qb x.args),.int .i64 x.n])→lk 8 E1=.c (.ptr x8 0)→lk 24 E1=.c (.bool b)→
   Qad prog (s_im_insOk_4.seq Qze) (Q3 Qkd (unK H K)) E1 H4:=by
  intro E1 b hb l1 l3 l5 l8 l24
  refine Qh (Qe l24 ?_ ?_)
  ·intro hc
   refine Qa ?_
   simp only[go_sem]
   refine Qk ?_
   simp only[go_sem]
   exact retf false _ (by rw[Q45,hrg,hb,hc];rfl) (by simp[lk])
  intro hc
  rw[hc]at hb
  refine Qi ?_
  simp only[go_sem]
  refine Q6 ?_
  refine Qa ?_
  simp only[go_sem,l1,l3,l5,l8]
  refine Qbau ?_
  cases hmk:Qhe x.op with
  |true=>
   simp only[go_sem,cond_true,cond_false,Bool.not_true,Bool.not_false,Ql6,l1,l3,l5,l8,h8]
   refine Qaj0 h7 (by omega) (by omega) ?_
   have hT:insT cs[k].regs x=decide (0≤x.to∧x.to≤cs[k].regs-1):=by rw[insT,hmk];rfl
   cases hd:decide (0≤x.to∧x.to≤cs[k].regs-1)with
   |true=>
    simp only[go_sem,cond_true,cond_false,Bool.not_true,Bool.not_false,Qgn,l1,l3,l5,l8,h8]
    refine Qbau ?_
    simp only[go_sem,cond_true,cond_false,Bool.not_true,Bool.not_false,Qgm,l1,l3,l5,l8,hmk]
    exact rest2 _ false hb (by rw[hT,hd];rfl) (by simp[lk]) (by simp[lk]) (by simp[lk]) (by simp[lk])
   |false=>
    simp only[go_sem,cond_true,cond_false,Bool.not_true,Bool.not_false,Qgn,Qgm,l1,l3,l5,l8,h8]
    exact rest2 _ true hb (by rw[hT,hd];rfl) (by simp[lk]) (by simp[lk]) (by simp[lk]) (by simp[lk])
  |false=>
   have hT:insT cs[k].regs x=decide (x.to=-1):=by rw[insT,hmk];rfl
   simp only[go_sem,cond_true,cond_false,Bool.not_true,Bool.not_false,Ql6,Qgn,l1,l3,l5,l8,h8]
   refine Qbau ?_
   simp only[go_sem,cond_true,cond_false,Bool.not_true,Bool.not_false,Qgm,l1,l3,l5,l8,hmk]
   refine rest2 _ (!decide (x.to=-1)) hb ?_ ?_ ?_ ?_ ?_
   ·rw[hT];simp
   ·rfl
   ·rfl
   ·rfl
   ·rfl
 cases hi:(decide (1≤x.op)&&decide (x.op≤14))with
 |false=>
  simp only[go_sem,Ql5]
  refine rest _ true ?_ (by simp[lk]) (by simp[lk]) (by simp[lk]) (by simp[lk]) (by simp[lk])
  have:decide (1≤x.op∧x.op≤14)=false:=by simpa using hi
  rw[insH,this];rfl
 |true=>
  simp only[go_sem,h8]
  refine Qe1 (p:=fun r=>!decide (0≤r∧r≤cs[k].regs-1)) (.mk' _ _ _ _) rfl (fun v K' hv hK'=>Qa3a h7 h8 (by omega) (by omega) hK') ?_
  simp only[go_sem,Ql5]
  refine rest _ (x.args.any fun r=>!decide (0≤r∧r≤cs[k].regs-1)) ?_ (by simp[lk]) (by simp[lk]) (by simp[lk]) (by simp[lk]) (by simp[lk])
  have:decide (1≤x.op∧x.op≤14)=true:=by simpa using hi
  rw[insH,this,Qauo,Qqh];simp
end Go.AE.Y

namespace Go.AE.Y
attribute [local go_sem] cond_true cond_false Bool.not_true Bool.not_false
open Go.Proofs.Tryz
variable {H:Heap}{K:V→Heap→Prop}
theorem Qaou {fl:Bool}{l:List InsD}{f:Nat}{caps:List C}{p:InsD→Bool}
  (hf:∀(x:InsD) (H1:Heap) (K':V→Heap→Prop),x∈l→(∀H2,Upd H1 H2 []→K' (.c (.bool (p x))) H2)→Qp prog f ([.ag x.cells]++caps.map .c) H1 K')
  (hK:∀(r:Int) (H':Heap),Upd H H' []→decide (0≤r)=l.any p→K (.c (.int .i64 r)) H') :
  Qp prog Qdc [.c (.sl fl 4 (Qav l)),.c (.fn f caps)] H K:=by
 refine Qz ?_
 refine Qd Qak Qym ?_
 refine Qa ?_
 simp only[go_sem]
 refine Q6 ?_
 refine Qa ?_
 simp only[go_sem,Qat]
 intro hl
 simp only[LIM]at hl
 refine Qh (Qg (Qy (fun m e1 H1=>∃(i:Nat),m=l.length-i∧i≤l.length∧Kn H H1 [] []∧(∀x∈l.take i,p x=false)∧e1=[(0,.c (.sl fl 4 (Qav l))),(1,.c (.fn f caps)),(7,.c (.int .i64 l.length)),(8,.c (.int .i64 i))]) l.length ?_ ?_))
 ·exact⟨0,by omega,by omega,Kn.start0 H,by simp,rfl⟩
 ·rintro m e1 H1 ⟨i,hm,hi,kn,hall,rfl⟩
  refine Qa ?_
  simp only[go_sem]
  refine Qh (Qe rfl ?_ ?_)
  ·intro hc
   have hlt:i<l.length:=by simpa using hc
   refine Qi ?_
   simp only[go_sem]
   refine Qh (Qg ?_)
   refine Qa ?_
   simp only[go_sem]
   refine Qa ?_
   simp only[go_sem,hlt,Qat,Qen _ _ hlt,InsD.take4,InsD.allOw,InsD.len4]
   refine hf _ _ _ (List.getElem_mem hlt) fun H2 hu=>?_
   have kn:=kn.call0 hu
   refine Qe rfl ?_ ?_
   ·intro hc2
    refine Qa ?_
    simp only[go_sem]
    refine Qk ?_
    simp only[go_sem,X.next,Q3,Q9,Qdy,List.mem_singleton,forall_eq,RS.op]
    refine⟨_,.c _ _ (Qf rfl),hK _ _ kn.fin ?_⟩
    have:l.any p=true:=List.any_eq_true.2 ⟨_,List.getElem_mem hlt,hc2⟩
    rw[this];simp
   ·intro hc2
    refine Qi ?_
    simp only[go_sem]
    refine Qt ?_
    simp only[go_sem,X.next]
    refine⟨Qs (by omega) (by omega),l.length-(i+1),by omega,i+1,rfl,by omega,kn,?_,rfl⟩
    rw[List.take_succ_eq_append_getElem hlt]
    intro x hx
    rcases List.mem_append.1 hx with hx|hx
    ·exact hall x hx
    ·simp only[List.mem_singleton]at hx;subst hx;exact hc2
  ·intro hc
   have hge:l.length≤i:=by simpa using hc
   rw[List.take_of_length_le hge]at hall
   refine Q0 ?_
   simp only[go_sem,X.next]
   refine Qa ?_
   simp only[go_sem]
   refine Qk ?_
   simp only[go_sem,Q3,Q9,Qdy,List.mem_singleton,forall_eq,RS.op]
   refine⟨_,.c _ _ (Qf rfl),hK _ _ kn.fin ?_⟩
   have:l.any p=false:=by
    cases hc:l.any p with
    |false=>rfl
    |true=>obtain⟨x,hx,hp⟩:=List.any_eq_true.1 hc;rw[hall x hx]at hp;exact absurd hp (by simp)
   rw[this];rfl
theorem Q7y {fl:Bool}{l:List InsD}{f:Nat}{caps:List C}{p:InsD→Bool}
  (hf:∀(x:InsD) (H1:Heap) (K':V→Heap→Prop),x∈l→(∀H2,Upd H1 H2 []→K' (.c (.bool (p x))) H2)→Qp prog f ([.ag x.cells]++caps.map .c) H1 K')
  (hK:∀(H':Heap),Upd H H' []→K (.c (.bool (l.any p))) H') :
  Qp prog Qcb [.c (.sl fl 4 (Qav l)),.c (.fn f caps)] H K:=by
 refine Qd Qak Qpz ?_
 refine Qa ?_
 simp only[go_sem]
 refine Qa ?_
 simp only[go_sem]
 refine Qaou hf fun r H' hu hr=>?_
 simp only[go_sem,Qdn]
 refine Qk ?_
 simp only[go_sem,Q3,Q9,Qff,List.mem_singleton,forall_eq,RS.op]
 rw[hr];exact hK _ hu
theorem Qw7 {x5:Nat}{q:CodeD}{v:Int}(h5:H x5=.st q.cells)(hr:-(2^62)≤q.regs)(hr2:q.regs≤2^62)(hK:K (.c (.bool (decide (0≤v∧v≤q.regs-1)))) H) :
  Qp prog Qae [.c (.int .i64 v),.c (.ptr x5 0)] H K:=by
 refine Qd Qak Qafk ?_
 refine Qa ?_
 simp only[go_sem]
 refine Qa ?_
 simp only[go_sem,h5,CodeD.cells]
 refine⟨Qs (by omega) (by omega),?_⟩
 refine Qda ?_
 simp only[go_sem,Qkr]
 refine Qk ?_
 simp only[go_sem,Q3,Q9,Qvs,List.mem_singleton,forall_eq,RS.op]
 have e:(decide (0≤v)&&decide (v≤q.regs-1))=decide (0≤v∧v≤q.regs-1):=by simp
 rw[e];exact hK
theorem Qaur {x5:Nat}{q:CodeD}{v:Int}(h5:H x5=.st q.cells)(hb:q.blocks.length≤2 ^ 38)(hK:K (.c (.bool (!Q48 (Qr q.blocks).length v))) H) :
  Qp prog Qg3 [.c (.int .i64 v),.c (.ptr x5 0)] H K:=by
 refine Qd Qak Qafl ?_
 refine Qa ?_
 simp only[go_sem]
 refine Qa ?_
 simp only[go_sem,h5,CodeD.cells,Qq]
 intro _
 refine⟨Qs (by omega) (by omega),?_⟩
 refine Qda ?_
 simp only[go_sem,Qks]
 refine Qk ?_
 simp only[go_sem,Q3,Q9,Qvt,List.mem_singleton,forall_eq,RS.op]
 have e:(decide (1≤v)&&decide (v≤(q.blocks.length:Int)-1))=Q48 (Qr q.blocks).length v:=by simp[Q48,Qq]
 rw[e];exact hK
theorem Qaus {cs:List CodeD}{fl:Bool}{k:Nat}{x:InsD}(hk:k<cs.length)(hr:0≤cs[k].regs)(hr2:cs[k].regs≤300)(hcl:cs.length≤100)(hK:∀(H':Heap),Upd H H' []→K (.c (.bool (!Q45 cs k x))) H') :
  Qp prog Qg4 [.ag x.cells,.c (.pp [.sl fl 3 (Ql cs)]),.c (.pp [.int .i64 k])] H K:=by
 refine Qd Qak Qafm ?_
 refine Qa ?_
 simp only[go_sem,InsD.cells]
 refine Qa ?_
 simp only[go_sem]
 refine Qbhb hk hr hr2 hcl fun H' hu=>?_
 simp only[go_sem,Qkt]
 refine Qk ?_
 simp only[go_sem,Q3,Q9,Qvu,List.mem_singleton,forall_eq,RS.op]
 exact hK _ hu
theorem Qaut {x5 x6:Nat}{q:CodeD}{v:Int}(h5:H x5=.st q.cells)(h6:H x6=.st [.fn Qae [.ptr x5 0]])(hr:-(2^62)≤q.regs)(hr2:q.regs≤2^62)(hK:K (.c (.bool (!decide (0≤v∧v≤q.regs-1)))) H) :
  Qp prog Qg5 [.c (.int .i64 v),.c (.ptr x6 0)] H K:=by
 refine Qd Qak Qafn ?_
 refine Qa ?_
 simp only[go_sem]
 refine Qa ?_
 simp only[go_sem,h6,List.cons_append,List.nil_append,List.map_cons,List.map_nil]
 refine Qw7 h5 hr hr2 ?_
 simp only[go_sem,Qku]
 refine Qk ?_
 simp only[go_sem,Q3,Q9,Qvv,List.mem_singleton,forall_eq,RS.op]
 exact hK
end Go.AE.Y

namespace Go.AE.Y
attribute [local go_sem] cond_true cond_false Bool.not_true Bool.not_false
open Go.Proofs.Tryz
variable {H:Heap}{K:V→Heap→Prop}
attribute [local instance] Classical.propDecidable
def blkC (b:BlkD):Obj:=.st [.sl false 2 (Qw b.phis),.sl false 4 (Qav b.ins),.int .i64 b.jump,.int .i64 b.on,.sl false 1 (Qb b.next)]
theorem Qao5 {cs:List CodeD}{k:Nat}{hk:k<cs.length}(h:¬Qafd cs k hk):decide (Qafd cs k hk)=false:=decide_eq_false h
set_option maxHeartbeats 2000000 in
theorem Qbbx {cs:List CodeD}{fl:Bool}{k:Nat}(hk:k<cs.length)(hcl:cs.length≤100)(hfit:cs[k].fits)(hK:∀(H':Heap),Upd H H' []→K (.c (.bool (decide (Qafd cs k hk)))) H') :
  Qp prog Qpl [.ag [.sl fl 3 (Ql cs)],.c (.int .i64 k)] H K:=by
 refine Qz ?_
 refine Qd Qak Qavc ?_
 have retf:∀(v:Bool) (e:Env) (H':Heap) (L:List (Nat×Obj)),decide (Qafd cs k hk)=v→Kn H H' [] L→lk 4 e=.c (.bool v)→Q3 Qhf (unK H K) .ret e H':=by
  intro v e H' L hb kn h3
  simp only[go_sem,Q3,Q9,Qhf,List.mem_singleton,forall_eq,RS.op,h3]
  rw[←hb];exact⟨_,.c _ _ (Qf rfl),hK _ kn.fin⟩
 obtain⟨q,hq⟩:∃q,cs[k]=q:=⟨_,rfl⟩
 have hP:Qafd cs k hk=(Quq q=true∧∀(b:Nat) (h:b<q.blocks.length),Q44 cs k b q q.blocks[b]=true):=by subst hq;rfl
 refine Qa ?_
 simp only[go_sem]
 refine Qa ?_
 simp only[go_sem,hk,Q4,Qaj _ _ hk,CodeD.cells,hq]
 intro x5 hx5 H1 h1
 have kn:=(Kn.start0 H).al hx5 h1
 have hx5:=kn.l 0 rfl
 simp only[go_sem,Qv5,hx5]
 intro H2 h2
 have kn:Kn H H2 [] [(x5,.st q.cells)]:=kn.stL 0 rfl h2
 have hx5:H2 x5=.st [.int .i64 q.params,.int .i64 q.regs,.sl false 5 (Qr q.blocks)]:=kn.l 0 rfl
 refine Q6 ?_
 refine Qa ?_
 simp only[go_sem,hx5]
 refine Qda ?_
 have rest0:∀(b:Bool) (E1:Env),Quq q=(!b)→lk 2 E1=.c (.pp [.sl fl 3 (Ql cs)])→lk 3 E1=.c (.pp [.int .i64 k])→lk 5 E1=.c (.ptr x5 0)→lk 36 E1=.c (.bool b)→
   Qad prog (s_im_codeOk_4.seq Qv4) (Q3 Qhf (unK H K)) E1 H2:=by
  intro b E1 hb l2 l3 l5 l36
  refine Qh (Qe l36 ?_ ?_)
  ·intro hc
   refine Qa ?_
   simp only[go_sem]
   refine Qk ?_
   simp only[go_sem]
   exact retf false _ _ _ (Qao5 fun h=>by rw[hP,hb,hc]at h;simp at h) kn (by simp[lk])
  intro hc
  rw[hc]at hb
  have hb':=hb
  simp only[Quq,Bool.not_false,Bool.and_eq_true,decide_eq_true_eq]at hb'
  obtain⟨hr0,hr1,hb0,hbl⟩:0≤q.regs∧q.regs≤300∧0<q.blocks.length∧q.blocks.length≤160:=by omega
  refine Qi ?_
  simp only[go_sem]
  refine Qa ?_
  simp only[go_sem,l2,l3,l5]
  intro x6 hx6 H3 h3
  have kn:=kn.al hx6 h3
  have hx6:=kn.l 1 rfl
  simp only[go_sem,Qv6,hx6,l2,l3,l5]
  intro H4 h4
  have kn:Kn H H4 [] [(x5,.st q.cells),(x6,.st [.fn Qae [.ptr x5 0]])]:=kn.stL 1 rfl h4
  have hx5:H4 x5=.st [.int .i64 q.params,.int .i64 q.regs,.sl false 5 (Qr q.blocks)]:=kn.l 0 rfl
  refine Q6 ?_
  refine Qa ?_
  simp only[go_sem,hx5,Qq]
  intro _
  refine Qh (Qg (Qy (fun m e1 H1=>∃(j:Nat),m=q.blocks.length-j∧j≤q.blocks.length∧(∀(i:Nat) (hi:i<q.blocks.length),i<j→Q44 cs k i q q.blocks[i]=true)∧Kn H H1 [] [(x5,.st q.cells),(x6,.st [.fn Qae [.ptr x5 0]])]∧
   e1=[(2,.c (.pp [.sl fl 3 (Ql cs)])),(3,.c (.pp [.int .i64 k])),(5,.c (.ptr x5 0)),(6,.c (.ptr x6 0)),(39,.c (.sl false 5 (Qr q.blocks))),(40,.c (.int .i64 q.blocks.length)),(41,.c (.int .i64 j))]) q.blocks.length ?_ ?_))
  ·exact⟨0,by omega,by omega,fun _ _ h=>by omega,kn,rfl⟩
  ·rintro m e1 H5 ⟨j,hm,hj,hdone,kn,rfl⟩
   refine Qa ?_
   simp only[go_sem]
   refine Qh (Qe rfl ?_ ?_)
   ·intro hc1
    have hlt:j<q.blocks.length:=by simpa using hc1
    have hbf:q.blocks[j].ins.length≤2 ^ 38∧q.blocks[j].phis.length≤2 ^ 38:=by subst hq;exact hfit _ (List.getElem_mem hlt)
    refine Qi ?_
    simp only[go_sem]
    refine Qw6 (fun e2 H2=>Kn H H2 [] [(x5,.st q.cells),(x6,.st [.fn Qae [.ptr x5 0]])]∧Q44 cs k j q q.blocks[j]=true∧lk 2 e2=.c (.pp [.sl fl 3 (Ql cs)])∧lk 3 e2=.c (.pp [.int .i64 k])∧lk 5 e2=.c (.ptr x5 0)∧lk 6 e2=.c (.ptr x6 0)∧
     lk 39 e2=.c (.sl false 5 (Qr q.blocks))∧lk 40 e2=.c (.int .i64 q.blocks.length)∧lk 41 e2=.c (.int .i64 j)) ?_ ?_
    ·intro Q hnr hrt _
     replace hrt:∀e H',Q3 Qhf (unK H K) .ret e H'→Q .ret e H':=fun e H' h=>hrt e H' (by simpa only[go_sem,X.next]using h)
     have retq:∀(e:Env) (H':Heap) (L:List (Nat×Obj)),Q44 cs k j q q.blocks[j]=false→Kn H H' [] L→lk 4 e=.c (.bool false)→Q .ret e H':=fun e H' L hb kn l4=>
      hrt e H' (retf false e H' L (Qao5 fun h=>by rw[hP]at h;rw[h.2 j hlt]at hb;exact absurd hb (by simp)) kn l4)
     have hGd:Q44 cs k j q q.blocks[j]=(Qol q.regs q.blocks[j]&&q.blocks[j].next.all (Q48 (Qr q.blocks).length)&&q.blocks[j].ins.all (Q45 cs k)&&q.blocks[j].phis.all (phiG q.regs (Q1 (gnx q) (j:Int) (Qr q.blocks).length).length j)):=rfl
     refine Qg ?_
     refine Qa ?_
     simp only[go_sem,hlt,Qq,Qan _ _ hlt,BlkD.cells]
     obtain⟨y,hy⟩:∃y,q.blocks[j]=y:=⟨_,rfl⟩
     rw[hy]at hGd retq hbf hnr
     rw[hy]
     intro x8 hx8 H6 h6
     have kn:=kn.al hx8 h6
     have hx8:=kn.l 2 rfl
     simp only[go_sem,Qv7,hx8]
     intro H7 h7
     have kn:Kn H H7 [] [(x5,.st q.cells),(x6,.st [.fn Qae [.ptr x5 0]]),(x8,blkC y)]:=kn.stL 2 rfl h7
     have hx5:H7 x5=.st [.int .i64 q.params,.int .i64 q.regs,.sl false 5 (Qr q.blocks)]:=kn.l 0 rfl
     have hx5':H7 x5=.st q.cells:=kn.l 0 rfl
     have hx6:=kn.l 1 rfl
     have hx8:H7 x8=.st [.sl false 2 (Qw y.phis),.sl false 4 (Qav y.ins),.int .i64 y.jump,.int .i64 y.on,.sl false 1 (Qb y.next)]:=kn.l 2 rfl
     have rest3:∀(E1:Env) (H8:Heap),Qol q.regs y=true→y.next.all (Q48 (Qr q.blocks).length)=true→y.ins.all (Q45 cs k)=true→Kn H H8 [] [(x5,.st q.cells),(x6,.st [.fn Qae [.ptr x5 0]]),(x8,blkC y)]→
       lk 2 E1=.c (.pp [.sl fl 3 (Ql cs)])→lk 3 E1=.c (.pp [.int .i64 k])→lk 5 E1=.c (.ptr x5 0)→lk 6 E1=.c (.ptr x6 0)→lk 7 E1=.c (.int .i64 j)→lk 8 E1=.c (.ptr x8 0)→
       lk 39 E1=.c (.sl false 5 (Qr q.blocks))→lk 40 E1=.c (.int .i64 q.blocks.length)→lk 41 E1=.c (.int .i64 j)→Qad prog Qjm (X.inBlock 1 Q) E1 H8:=by
      intro E1 H8 g1 g2 g3 kn l2 l3 l5 l6 l7 l8 l39 l40 l41
      have hx5:H8 x5=.st [.int .i64 q.params,.int .i64 q.regs,.sl false 5 (Qr q.blocks)]:=kn.l 0 rfl
      have hin:(decide (0≤(j:Int))&&decide ((j:Int)≤((Qr q.blocks).length:Int)-1))=true:=by rw[Qq];simp;omega
      refine Qa ?_
      simp only[go_sem,hx5,l2,l3,l5,l6,l7,l8,l39,l40,l41]
      refine Qpe (rows:=Qr q.blocks) (nx:=gnx q) (Quh _ q false) fun fl' H9 hu=>?_
      have kn:=kn.call0 hu
      rw[Qfx,if_pos hin]
      generalize hnp:Q1 (gnx q) (j:Int) (Qr q.blocks).length=ps
      rw[hnp]at hGd
      simp only[go_sem,Qqs,l2,l3,l5,l6,l7,l8,l39,l40,l41,Qc]
      intro _
      have hx8:H9 x8=.st [.sl false 2 (Qw y.phis),.sl false 4 (Qav y.ins),.int .i64 y.jump,.int .i64 y.on,.sl false 1 (Qb y.next)]:=kn.l 2 rfl
      refine Qa ?_
      simp only[go_sem,hx8,Qv]
      intro _
      refine Qg (Qy (fun m e1 H1=>∃(i:Nat),m=y.phis.length-i∧i≤y.phis.length∧(y.phis.take i).all (phiG q.regs ps.length j)=true∧Kn H H1 [] [(x5,.st q.cells),(x6,.st [.fn Qae [.ptr x5 0]])]∧
       e1=[(2,.c (.pp [.sl fl 3 (Ql cs)])),(3,.c (.pp [.int .i64 k])),(5,.c (.ptr x5 0)),(6,.c (.ptr x6 0)),(7,.c (.int .i64 j)),(9,.c (.int .i64 ps.length)),(39,.c (.sl false 5 (Qr q.blocks))),(40,.c (.int .i64 q.blocks.length)),(41,.c (.int .i64 j)),(91,.c (.sl false 2 (Qw y.phis))),(92,.c (.int .i64 y.phis.length)),(93,.c (.int .i64 i))]) y.phis.length ?_ ?_)
      ·exact⟨0,by omega,by omega,rfl,kn.drop (A:=[_,_]),rfl⟩
      ·rintro m2 e1 H10 ⟨i,hm2,hi,hall,kn,rfl⟩
       refine Qa ?_
       simp only[go_sem]
       refine Qh (Qe rfl ?_ ?_)
       ·intro hc2
        have hil:i<y.phis.length:=by simpa using hc2
        refine Qi ?_
        simp only[go_sem]
        refine Qh (Qg ?_)
        refine Qa ?_
        simp only[go_sem,hil,Qv,Qay _ _ hil,PhiD.cells]
        obtain⟨z,hz⟩:∃z,y.phis[i]=z:=⟨_,rfl⟩
        rw[hz]
        intro x11 hx11 H11 h11
        have kn:=kn.al hx11 h11
        have hx11:=kn.l 2 rfl
        simp only[go_sem,Qqt,hx11]
        intro H12 h12
        have kn:Kn H H12 [] ([(x5,.st q.cells),(x6,.st [.fn Qae [.ptr x5 0]])]++[(x11,.st [.int .i64 z.to,.sl false 1 (Qb z.args)])]):=kn.stL 2 rfl h12
        have hx5':H12 x5=.st q.cells:=kn.l 0 rfl
        have hx6:=kn.l 1 rfl
        have hx11:=kn.l 2 rfl
        have fin:∀(b3:Bool) (E1:Env),phiG q.regs ps.length j z=(!b3)→lk 2 E1=.c (.pp [.sl fl 3 (Ql cs)])→lk 3 E1=.c (.pp [.int .i64 k])→lk 5 E1=.c (.ptr x5 0)→lk 6 E1=.c (.ptr x6 0)→lk 7 E1=.c (.int .i64 j)→lk 9 E1=.c (.int .i64 ps.length)→
          lk 39 E1=.c (.sl false 5 (Qr q.blocks))→lk 40 E1=.c (.int .i64 q.blocks.length)→lk 41 E1=.c (.int .i64 j)→lk 91 E1=.c (.sl false 2 (Qw y.phis))→lk 92 E1=.c (.int .i64 y.phis.length)→lk 93 E1=.c (.int .i64 i)→lk 118 E1=.c (.bool b3)→
          Qad prog Qv1 (X.inBlock 3 (X.sq prog Qv2 (X.next (fun e2 H2=>∃m,m<m2∧∃(i:Nat),m=y.phis.length-i∧i≤y.phis.length∧(y.phis.take i).all (phiG q.regs ps.length j)=true∧Kn H H2 [] [(x5,.st q.cells),(x6,.st [.fn Qae [.ptr x5 0]])]∧
           e2=[(2,.c (.pp [.sl fl 3 (Ql cs)])),(3,.c (.pp [.int .i64 k])),(5,.c (.ptr x5 0)),(6,.c (.ptr x6 0)),(7,.c (.int .i64 j)),(9,.c (.int .i64 ps.length)),(39,.c (.sl false 5 (Qr q.blocks))),(40,.c (.int .i64 q.blocks.length)),(41,.c (.int .i64 j)),(91,.c (.sl false 2 (Qw y.phis))),(92,.c (.int .i64 y.phis.length)),(93,.c (.int .i64 i))])
           (X.inBlock 2 (X.inBlock 1 Q))))) E1 H12:=by
         intro b3 E1 hph l2 l3 l5 l6 l7 l9 l39 l40 l41 l91 l92 l93 l118
         refine Qe l118 ?_ ?_
         ·intro hc3
          refine Qa ?_
          simp only[go_sem]
          refine Qk ?_
          simp only[go_sem,X.next]
          exact retq _ _ _ (by rw[hGd,Qaky hil (by rw[hz,hph,hc3];rfl)];simp) kn (by simp[lk])
         ·intro hc3
          refine Qi ?_
          simp only[go_sem]
          refine Qt ?_
          simp only[go_sem,X.next,l2,l3,l5,l6,l7,l9,l39,l40,l41,l91,l92,l93]
          exact⟨Qs (by omega) (by omega),y.phis.length-(i+1),by omega,i+1,rfl,by omega,by rw[Q7j hil,hall,hz,hph,hc3];rfl,kn.drop,rfl⟩
        have hpG:phiG q.regs ps.length j z=(!decide (j=0)&&decide ((z.args.length:Int)=ps.length)&&Qqh q.regs z.args&&decide (0≤z.to∧z.to≤q.regs-1)):=rfl
        refine Qa ?_
        simp only[go_sem]
        cases hj0:decide ((j:Int)=0)with
        |true=>
         have hj0':decide (j=0)=true:=by simpa using hj0
         simp only[go_sem,Qcm,Qcl]
         exact fin true _ (by rw[hpG,hj0'];rfl) (by simp[lk]) (by simp[lk]) (by simp[lk]) (by simp[lk]) (by simp[lk]) (by simp[lk]) (by simp[lk]) (by simp[lk]) (by simp[lk]) (by simp[lk]) (by simp[lk]) (by simp[lk]) (by simp[lk])
        |false=>
         have hj0':decide (j=0)=false:=by simpa using hj0
         simp only[go_sem,hx11,hx6,List.cons_append,List.nil_append,List.map_cons,List.map_nil]
         refine Qw7 hx5' (by omega) (by omega) ?_
         cases ht:decide (0≤z.to∧z.to≤q.regs-1)with
         |false=>
          simp only[go_sem,Qcm,Qcl]
          exact fin true _ (by rw[hpG,ht];simp) (by simp[lk]) (by simp[lk]) (by simp[lk]) (by simp[lk]) (by simp[lk]) (by simp[lk]) (by simp[lk]) (by simp[lk]) (by simp[lk]) (by simp[lk]) (by simp[lk]) (by simp[lk]) (by simp[lk])
         |true=>
          by_cases hal:(z.args.length:Int)=ps.length
          ·simp only[go_sem,Qcm,hx11,Qc,hal,not_true_eq_false,decide_false,decide_true,Bool.not_true]
           intro _
           refine Qe1 (p:=fun r=>!decide (0≤r∧r≤q.regs-1)) (.mk' _ _ _ _) rfl (fun v K' hv hK'=>Qaut hx5' hx6 (by omega) (by omega) hK') ?_
           simp only[go_sem,Qcl]
           refine fin (z.args.any fun r=>!decide (0≤r∧r≤q.regs-1)) _ ?_ (by simp[lk]) (by simp[lk]) (by simp[lk]) (by simp[lk]) (by simp[lk]) (by simp[lk]) (by simp[lk]) (by simp[lk]) (by simp[lk]) (by simp[lk]) (by simp[lk]) (by simp[lk]) (by simp[lk])
           rw[hpG,hj0',ht,Qauo,hal,Qqh];simp
          ·simp only[go_sem,Qcm,Qcl,hx11,Qc,hal,not_false_eq_true,decide_false,decide_true,Bool.not_false]
           intro _
           exact fin true _ (by rw[hpG];simp[hal]) (by simp[lk]) (by simp[lk]) (by simp[lk]) (by simp[lk]) (by simp[lk]) (by simp[lk]) (by simp[lk]) (by simp[lk]) (by simp[lk]) (by simp[lk]) (by simp[lk]) (by simp[lk]) (by simp[lk])
       ·intro hc2
        have hge:y.phis.length≤i:=by simpa using hc2
        rw[List.take_of_length_le hge]at hall
        refine Q0 ?_
        simp only[go_sem,X.next]
        exact hnr _ _ ⟨kn,by rw[hGd,g1,g2,g3,hall];rfl,rfl,rfl,rfl,rfl,rfl,rfl,rfl⟩
     have rest2:∀(b1:Bool) (E1:Env),Qol q.regs y=(!b1)→lk 2 E1=.c (.pp [.sl fl 3 (Ql cs)])→lk 3 E1=.c (.pp [.int .i64 k])→lk 5 E1=.c (.ptr x5 0)→lk 6 E1=.c (.ptr x6 0)→lk 7 E1=.c (.int .i64 j)→lk 8 E1=.c (.ptr x8 0)→
       lk 39 E1=.c (.sl false 5 (Qr q.blocks))→lk 40 E1=.c (.int .i64 q.blocks.length)→lk 41 E1=.c (.int .i64 j)→lk 75 E1=.c (.bool b1)→Qad prog (s_im_codeOk_11.seq Qv3) (X.inBlock 1 Q) E1 H7:=by
      intro b1 E1 hb1 l2 l3 l5 l6 l7 l8 l39 l40 l41 l75
      refine Qh (Qe l75 ?_ ?_)
      ·intro hc2
       refine Qa ?_
       simp only[go_sem]
       refine Qk ?_
       simp only[go_sem]
       exact retq _ _ _ (by rw[hGd,hb1,hc2];simp) kn (by simp[lk])
      intro hc2
      rw[hc2]at hb1
      refine Qi ?_
      simp only[go_sem]
      refine Q6 ?_
      refine Qa ?_
      simp only[go_sem,hx8,l2,l3,l5,l6,l7,l8,l39,l40,l41]
      refine Qe1 (p:=fun v=>!Q48 (Qr q.blocks).length v) (.mk' _ _ _ _) rfl (fun v K' hv hK'=>Qaur hx5' (by omega) hK') ?_
      have fin:∀(b:Bool) (E1:Env) (H8:Heap),(y.next.all (Q48 (Qr q.blocks).length)&&y.ins.all (Q45 cs k))=(!b)→Kn H H8 [] [(x5,.st q.cells),(x6,.st [.fn Qae [.ptr x5 0]]),(x8,blkC y)]→lk 2 E1=.c (.pp [.sl fl 3 (Ql cs)])→lk 3 E1=.c (.pp [.int .i64 k])→lk 5 E1=.c (.ptr x5 0)→lk 6 E1=.c (.ptr x6 0)→lk 7 E1=.c (.int .i64 j)→lk 8 E1=.c (.ptr x8 0)→
        lk 39 E1=.c (.sl false 5 (Qr q.blocks))→lk 40 E1=.c (.int .i64 q.blocks.length)→lk 41 E1=.c (.int .i64 j)→lk 85 E1=.c (.bool b)→Qad prog (s_im_codeOk_14.seq Qjm) (X.inBlock 1 Q) E1 H8:=by
       intro b E1 H8 hb kn l2 l3 l5 l6 l7 l8 l39 l40 l41 l85
       refine Qh (Qe l85 ?_ ?_)
       ·intro hc3
        refine Qa ?_
        simp only[go_sem]
        refine Qk ?_
        simp only[go_sem]
        exact retq _ _ _ (by rw[hGd,Bool.and_assoc (Qol _ _),hb,hc3];simp) kn (by simp[lk])
       ·intro hc3
        rw[hc3]at hb
        simp only[Bool.not_false,Bool.and_eq_true]at hb
        refine Qi ?_
        simp only[go_sem]
        exact rest3 E1 H8 hb1 hb.1 hb.2 kn l2 l3 l5 l6 l7 l8 l39 l40 l41
      rw[Qauo]
      cases ha:y.next.all (Q48 (Qr q.blocks).length)with
      |false=>
       simp only[go_sem,Qht,Qhs,l2,l3,l5,l6,l7,l8,l39,l40,l41]
       exact fin true _ _ (by rw[ha];rfl) kn (by simp[lk]) (by simp[lk]) (by simp[lk]) (by simp[lk]) (by simp[lk]) (by simp[lk]) (by simp[lk]) (by simp[lk]) (by simp[lk]) (by simp[lk])
      |true=>
       simp only[go_sem,Qht,hx8,l2,l3,l5,l6,l7,l8,l39,l40,l41]
       refine Q7y (p:=fun x=>!Q45 cs k x) (fun x H1 K' hx hK'=>Qaus hk (by rw[hq];exact hr0) (by rw[hq];exact hr1) hcl hK') fun H8 hu=>?_
       have kn:=kn.call0 hu
       simp only[go_sem,Qhs,l2,l3,l5,l6,l7,l8,l39,l40,l41]
       refine fin (y.ins.any fun x=>!Q45 cs k x) _ _ ?_ kn (by simp[lk]) (by simp[lk]) (by simp[lk]) (by simp[lk]) (by simp[lk]) (by simp[lk]) (by simp[lk]) (by simp[lk]) (by simp[lk]) (by simp[lk])
       rw[ha,←List.not_all_eq_any_not];simp
     refine Q6 ?_
     refine Qag ?_
     simp only[go_sem,hx8,Qc]
     refine Qavp ?_
     have hjG:Qol q.regs y=(decide ((y.next.length:Int)=Qj9 y.jump)&&if y.jump=1 then decide (y.on=0)else decide (0≤y.on∧y.on≤q.regs-1)):=rfl
     by_cases hn:(y.next.length:Int)=Qj9 y.jump
     ·have hjmp:y.jump=1∨(y.jump=2∨y.jump=3)∧¬y.jump=1:=by
       rw[Qj9]at hn
       split at hn
       ·exact .inl ‹_›
       ·split at hn
        ·omega
        ·split at hn
         ·omega
         ·omega
      simp only[go_sem,Qhr,hx8,Qc,hn,not_true_eq_false,decide_false,decide_true,Bool.not_true]
      refine Qaos ?_
      rcases hjmp with h1|⟨h1,h2⟩
      ·have hu:(decide (y.jump=2) || decide (y.jump=3))=false:=by simp[h1]
       simp only[go_sem,Qe7,Qc5,hu,hx8]
       refine Qaos ?_
       simp only[go_sem,Qc4,hu,hx8]
       exact rest2 (!decide (y.on=0)) _ (by rw[hjG,if_pos h1,hn];simp) (by simp[lk]) (by simp[lk]) (by simp[lk]) (by simp[lk]) (by simp[lk]) (by simp[lk]) (by simp[lk]) (by simp[lk]) (by simp[lk]) (by simp[lk])
      ·have hu:(decide (y.jump=2) || decide (y.jump=3))=true:=by simpa using h1
       simp only[go_sem,Qe7,hu,hx8,hx6,List.cons_append,List.nil_append,List.map_cons,List.map_nil]
       refine Qw7 hx5' (by omega) (by omega) ?_
       cases ho:decide (0≤y.on∧y.on≤q.regs-1)with
       |true=>
        simp only[go_sem,Qc5,hx8]
        refine Qaos ?_
        simp only[go_sem,Qc4,hu,hx8]
        exact rest2 false _ (by rw[hjG,if_neg h2,hn,ho];simp) (by simp[lk]) (by simp[lk]) (by simp[lk]) (by simp[lk]) (by simp[lk]) (by simp[lk]) (by simp[lk]) (by simp[lk]) (by simp[lk]) (by simp[lk])
       |false=>
        simp only[go_sem,Qc5,Qc4,hx8]
        exact rest2 true _ (by rw[hjG,if_neg h2,ho];simp) (by simp[lk]) (by simp[lk]) (by simp[lk]) (by simp[lk]) (by simp[lk]) (by simp[lk]) (by simp[lk]) (by simp[lk]) (by simp[lk]) (by simp[lk])
     ·simp only[go_sem,Qhr,Qe7,Qc5,Qc4,hx8,Qc,hn,not_false_eq_true,decide_false,decide_true,Bool.not_false]
      exact rest2 true _ (by rw[hjG];simp[hn]) (by simp[lk]) (by simp[lk]) (by simp[lk]) (by simp[lk]) (by simp[lk]) (by simp[lk]) (by simp[lk]) (by simp[lk]) (by simp[lk]) (by simp[lk])
    ·rintro e2 H8 ⟨kn,hbg,l2,l3,l5,l6,l39,l40,l41⟩
     refine Qt ?_
     simp only[go_sem,X.next,l2,l3,l5,l6,l39,l40,l41]
     refine⟨Qs (by omega) (by omega),q.blocks.length-(j+1),by omega,j+1,rfl,by omega,fun i hi hij=>?_,kn,rfl⟩
     by_cases h:i<j
     ·exact hdone i hi h
     ·have:i=j:=by omega
      subst this;exact hbg
   ·intro hc1
    have hge:q.blocks.length≤j:=by simpa using hc1
    refine Q0 ?_
    simp only[go_sem,X.next]
    refine Qa ?_
    simp only[go_sem]
    refine Qk ?_
    exact retf true _ _ _ (decide_eq_true (by rw[hP];exact⟨by rw[hb];rfl,fun b h=>hdone b h (by omega)⟩)) kn (by simp[lk])
 have hH:Quq q=(decide (0≤q.params∧q.params≤3)&&decide (q.params≤q.regs∧q.regs≤300)&&decide (1≤(q.blocks.length:Int)∧(q.blocks.length:Int)≤160)):=rfl
 by_cases hr:0≤q.regs∧q.regs≤300
 ·have hr':(decide (0≤q.regs)&&decide (q.regs≤300))=true:=by simpa using hr
  simp only[go_sem,Qjn,hr',hx5]
  refine Qda ?_
  by_cases hp:0≤q.params∧q.params≤3∧q.params≤q.regs
  ·have hp':(decide (0≤q.params)&&decide (q.params≤if q.regs<3 then q.regs else 3))=true:=by
    split <;> simp <;> omega
   simp only[go_sem,Qe6,hp',hx5,Qq]
   intro _
   refine Qda ?_
   simp only[go_sem,Qe5]
   refine rest0 _ _ ?_ (by simp[lk]) (by simp[lk]) (by simp[lk]) (by simp[lk];rfl)
   have a1:decide (0≤q.params∧q.params≤3)=true:=by simp;omega
   have a2:decide (q.params≤q.regs∧q.regs≤300)=true:=by simp;omega
   rw[hH,a1,a2];simp
  ·have hp':(decide (0≤q.params)&&decide (q.params≤if q.regs<3 then q.regs else 3))=false:=by
    split <;> simp <;> omega
   simp only[go_sem,Qe6,Qe5,hp',hx5]
   refine rest0 true _ ?_ (by simp[lk]) (by simp[lk]) (by simp[lk]) (by simp[lk])
   rw[hH];simp;omega
 ·have hr':(decide (0≤q.regs)&&decide (q.regs≤300))=false:=by simpa using hr
  simp only[go_sem,Qjn,Qe6,Qe5,hr',hx5]
  refine rest0 true _ ?_ (by simp[lk]) (by simp[lk]) (by simp[lk]) (by simp[lk])
  rw[hH];simp;omega
end Go.AE.Y

namespace Go.AE.Y
attribute [local go_sem] cond_true cond_false Bool.not_true Bool.not_false
open Go.Proofs.Tryz
variable {H:Heap}{K:V→Heap→Prop}
attribute [local instance] Classical.propDecidable
set_option maxHeartbeats 1000000 in
theorem Qdu {cs:List CodeD}{fl:Bool}(hfit:∀c∈cs,c.fits)(hK:∀(H':Heap),Upd H H' []→K (.c (.bool (Qbb cs))) H') :
  Qp prog Qbg [.ag [.sl fl 3 (Ql cs)]] H K:=by
 refine Qz ?_
 refine Qd Qak Qafh ?_
 have retf:∀(b:Bool) (e:Env) (H':Heap) (L:List (Nat×Obj)),Qbb cs=b→Kn H H' [] L→lk 2 e=.c (.bool b)→Q3 Qjh (unK H K) .ret e H':=by
  intro b e H' L hb kn h3
  simp only[go_sem,Q3,Q9,Qjh,List.mem_singleton,forall_eq,RS.op,h3]
  rw[←hb];exact⟨_,.c _ _ (Qf rfl),hK _ kn.fin⟩
 have kn:=Kn.start0 H
 refine Qa ?_
 simp only[go_sem]
 refine Q6 ?_
 refine Qa ?_
 simp only[go_sem,Q4]
 intro hcl
 refine Qda ?_
 simp only[go_sem,Qkl]
 refine Qh (Qe rfl ?_ ?_)
 ·intro hc
  have hc':=Qxk hc
  refine Qa ?_
  simp only[go_sem]
  refine Qk ?_
  simp only[go_sem]
  exact retf false _ _ _ (Quj fun hu=>by have h1:=hu.1;simp at hc';omega) kn (by simp[lk])
 intro hc
 have hc':=Qh7 hc
 have hc4:1≤cs.length∧cs.length≤4:=by simp at hc';omega
 refine Qi ?_
 simp only[go_sem]
 refine Qa ?_
 simp only[go_sem]
 refine Q6 ?_
 refine Qa ?_
 simp only[go_sem,Q4]
 intro _
 refine Qh (Qg (Qy (fun m e1 H1=>∃(k:Nat),m=cs.length-k∧k≤cs.length∧Qjx Q71 (cs.take k)≤k * (160 * 549755813888)∧(∀(i:Nat) (hi:i<cs.length),i<k→Qafd cs i hi)∧Kn H H1 [] []∧
  e1=[(1,.c (.pp [.sl fl 3 (Ql cs)])),(3,.c (.int .i64 (Qjx Q71 (cs.take k):Nat))),(12,.c (.sl fl 3 (Ql cs))),(13,.c (.int .i64 cs.length)),(14,.c (.int .i64 k))]) cs.length ?_ ?_))
 ·exact⟨0,by omega,by omega,by simp[Qjx],fun _ _ h=>by omega,kn,rfl⟩
 ·rintro m e1 H1 ⟨k,hm,hk,hsum,hdone,kn,rfl⟩
  refine Qa ?_
  simp only[go_sem]
  refine Qh (Qe rfl ?_ ?_)
  ·intro hc2
   have hlt:k<cs.length:=by simpa using hc2
   have hss:=Qc6 (f:=Q71) hlt
   refine Qi ?_
   simp only[go_sem]
   refine Qh (Qg ?_)
   refine Qa ?_
   simp only[go_sem,hlt,Q4,Qaj _ _ hlt,CodeD.cells]
   obtain⟨q,hq⟩:∃q,cs[k]=q:=⟨_,rfl⟩
   have hqf:q.fits:=by subst hq;exact hfit _ (List.getElem_mem hlt)
   rw[hq]
   intro x5 hx5 H2 h2
   have kn:=kn.al hx5 h2
   have hx5:=kn.l 0 rfl
   simp only[go_sem,Qkm,hx5]
   intro H3 h3
   have kn:Kn H H3 [] ([]++[(x5,.st [.int .i64 q.params,.int .i64 q.regs,.sl false 5 (Qr q.blocks)])]):=kn.stL 0 rfl h3
   refine Q6 ?_
   refine Qa ?_
   simp only[go_sem]
   refine Qbbx hlt (by omega) (by rw[hq];exact hqf) fun H4 hu=>?_
   have kn:=kn.call0 hu
   have hx5:=kn.l 0 rfl
   simp only[go_sem,Qkn]
   refine Qh (Qe rfl ?_ ?_)
   ·intro hc3
    have hno:=of_decide_eq_false (Qxk hc3)
    refine Qa ?_
    simp only[go_sem]
    refine Qk ?_
    simp only[go_sem,X.next]
    exact retf false _ _ _ (Quj fun hu=>hno (hu.2.1 k hlt)) kn (by simp[lk])
   ·intro hc3
    have hyes:=of_decide_eq_true (Qh7 hc3)
    have hbl:q.blocks.length≤160:=by
     have:=hyes.1
     rw[hq]at this
     simp only[Quq,Bool.and_eq_true,decide_eq_true_eq]at this
     omega
    have hcq:Q71 q≤160 * 549755813888:=Nat.le_trans (Qaue hqf) (Nat.mul_le_mul_right _ hbl)
    have hk4:k * (160 * 549755813888)≤4 * (160 * 549755813888):=Nat.mul_le_mul_right _ (by omega)
    have hk1:(k+1) * (160 * 549755813888)=k * (160 * 549755813888)+160 * 549755813888:=Nat.succ_mul _ _
    rw[hq]at hss
    refine Qi ?_
    simp only[go_sem]
    refine Qt ?_
    simp only[go_sem,hx5]
    refine Qauq hqf hbl fun H5 hu=>?_
    have kn:=kn.call0 hu
    simp only[go_sem,Qko]
    refine⟨Qs (by omega) (by omega),?_⟩
    refine Qt ?_
    simp only[go_sem,X.next]
    refine⟨Qs (by omega) (by omega),cs.length-(k+1),by omega,k+1,rfl,by omega,by rw[hss,hk1];omega,fun i hi hik=>?_,kn.drop,?_⟩
    ·by_cases h:i<k
     ·exact hdone i hi h
     ·have:i=k:=by omega
      subst this;exact hyes
    ·rw[hss];rfl
  ·intro hc2
   have hge:cs.length≤k:=by simpa using hc2
   rw[List.take_of_length_le hge]
   refine Q0 ?_
   simp only[go_sem,X.next]
   refine Qa ?_
   simp only[go_sem]
   refine Qk ?_
   refine retf (decide (((Qjx Q71 cs:Nat):Int)≤800)) _ _ _ ?_ kn (by simp[lk])
   by_cases hs:Qjx Q71 cs≤800
   ·have h1:Qbb cs=true:=decide_eq_true ⟨by omega,fun i hi=>hdone i hi (by omega),hs⟩
    rw[h1];simp;omega
   ·rw[Quj fun hu=>hs hu.2.2];simp;omega
noncomputable def hasG (cs:List CodeD)(k:Int):Bool:=Qbb cs&&decide (0≤k∧k≤(cs.length:Int)-1)
end Go.AE.Y

namespace Go.AE.Y
attribute [local instance] Classical.propDecidable
structure Flo where
 n:Nat
 nx:Nat→List Nat
 on:Nat→List Nat
 ins:Nat→List (Option Nat×List Nat)
 ph:Nat→List Nat
 ea:Nat→Nat→List Nat
abbrev RS':=Nat→Prop
def Qbch (x:Option Nat×List Nat)(S:RS'):RS':=fun r=>r∈x.2∨(S r∧x.1≠some r)
def behL (l:List (Option Nat×List Nat))(S:RS'):RS':=l.foldr Qbch S
theorem Qa6s {l:List (Option Nat×List Nat)}{S T:RS'}(h:∀r,S r→T r):∀r,behL l S r→behL l T r:=by
 induction l with
 |nil=>exact h
 |cons x l ih=>
  rintro r (hr|⟨hr,h2⟩)
  ·exact .inl hr
  ·exact .inr ⟨ih r hr,h2⟩
variable {F:Flo}
def Flo.endS (F:Flo)(X:RS')(b:Nat):RS':=fun r=>X r∨r∈F.on b
def Flo.beh (F:Flo)(X:RS')(b k:Nat):RS':=behL ((F.ins b).drop k) (F.endS X b)
theorem Flo.beh_mono {X Y:RS'}(h:∀r,X r→Y r)(b k:Nat):∀r,F.beh X b k r→F.beh Y b k r:=
 Qa6s fun r hr=>hr.elim (fun h1=>.inl (h r h1)) .inr
def Flo.outT (F:Flo)(I:Nat→RS')(b:Nat):RS':=fun r=>∃m∈F.nx b,I m r∨r∈F.ea b m
def Flo.thru (F:Flo)(X:RS')(b:Nat):RS':=fun r=>F.beh X b 0 r∧r∉F.ph b
def Flo.inT (F:Flo)(I:Nat→RS')(b:Nat):RS':=F.thru (F.outT I b) b
theorem Flo.thru_mono {X Y:RS'}(h:∀r,X r→Y r)(b:Nat):∀r,F.thru X b r→F.thru Y b r:=fun r hr=>⟨Flo.beh_mono h b 0 r hr.1,hr.2⟩
def Flo.fits (F:Flo):Prop:=∀b,b<F.n→∀m∈F.nx b,m<F.n
variable {I J:Nat→RS'}
theorem Flo.outT_mono (hf:F.fits)(h:∀b,b<F.n→∀r,I b r→J b r){b:Nat}(hb:b<F.n):∀r,F.outT I b r→F.outT J b r:=by
 rintro r ⟨m,hm,h1|h1⟩
 ·exact⟨m,hm,.inl (h m (hf b hb m hm) r h1)⟩
 ·exact⟨m,hm,.inr h1⟩
theorem Flo.inT_mono (hf:F.fits)(h:∀b,b<F.n→∀r,I b r→J b r){b:Nat}(hb:b<F.n):∀r,F.inT I b r→F.inT J b r:=
 Flo.thru_mono (Flo.outT_mono hf h hb) b
def Flo.Pre (F:Flo)(J:Nat→RS'):Prop:=∀b,b<F.n→∀r,F.inT J b r→J b r
def Flo.LI (F:Flo)(b:Nat):RS':=fun r=>∀J,F.Pre J→J b r
def Flo.LO (F:Flo)(b:Nat):RS':=F.outT F.LI b
def Flo.LB (F:Flo)(b k:Nat):RS':=F.beh (F.LO b) b k
theorem Flo.LI_pre (hf:F.fits):F.Pre F.LI:=fun b hb r hr J hJ=>hJ b hb r (Flo.inT_mono hf (fun b hb r hr=>hr J hJ) hb r hr)
def Flo.Below (F:Flo)(I:Nat→RS'):Prop:=∀b,b<F.n→∀r,I b r→F.LI b r
theorem Flo.is_least (h1:F.Pre I)(h2:F.Below I){b:Nat}(hb:b<F.n)(r:Nat):I b r↔F.LI b r:=⟨h2 b hb r,fun h=>h I h1⟩
theorem Flo.Below.inT (hf:F.fits)(h:F.Below I){b:Nat}(hb:b<F.n):∀r,F.inT I b r→F.LI b r:=fun r hr=>Flo.LI_pre hf b hb r (Flo.inT_mono hf h hb r hr)
theorem Flo.Below.outT (hf:F.fits)(h:F.Below I){b:Nat}(hb:b<F.n):∀r,F.outT I b r→F.LO b r:=Flo.outT_mono hf h hb
structure Flo.bd (F:Flo)(R:Nat):Prop where
 on:∀b,b<F.n→∀r∈F.on b,r<R
 ins:∀b,b<F.n→∀x∈F.ins b,∀r∈x.2,r<R
 ea:∀b,b<F.n→∀m∈F.nx b,∀r∈F.ea b m,r<R
noncomputable def ascL (R:Nat)(S:RS'):List Nat:=(List.range R).filter fun r=>decide (S r)
theorem Qlz {a:List Nat}(ha:a.Nodup):∀{b:List Nat},(∀x∈a,x∈b)→a.length≤b.length:=by
 induction a with
 |nil=>intro b _;simp
 |cons x a ih=>
  intro b h
  have hx:=h x List.mem_cons_self
  have hn:=List.nodup_cons.1 ha
  have:=ih hn.2 (b:=b.erase x) fun y hy=>(List.mem_erase_of_ne (fun he=>by subst he;exact hn.1 hy)).2 (h y (List.mem_cons_of_mem _ hy))
  rw[List.length_erase_of_mem hx]at this
  have hp:=List.length_pos_of_mem hx
  simp only[List.length_cons];omega
theorem Qap6 {a b:List Nat}(ha:a.Nodup)(h:∀x∈a,x∈b)(hl:b.length≤a.length):∀x∈b,x∈a:=fun x hx=>by
 refine Classical.byContradiction fun hxa=>?_
 have:=Qlz (a:=x::a) (List.nodup_cons.2 ⟨hxa,ha⟩) (b:=b) fun y hy=>by
  rcases List.mem_cons.1 hy with rfl|hy
  ·exact hx
  ·exact h y hy
 simp only[List.length_cons]at this;omega
theorem Qap5 {a:List Nat}{R:Nat}(ha:a.Nodup)(h:∀x∈a,x<R):a.length≤R:=by
 have:=Qlz ha (b:=List.range R) fun x hx=>List.mem_range.2 (h x hx)
 simpa using this
def addK (ks:List Nat)(b:Nat):List Nat:=if b∈ks then ks else ks++[b]
def tot (n:Nat)(S:Nat→List Nat):Nat:=((List.range n).map fun b=>(S b).length).sum
theorem Q7v (n:Nat)(S:Nat→List Nat):tot (n+1) S=tot n S+(S n).length:=by simp[tot,List.range_succ]
theorem Qbfp {n:Nat}{S T:Nat→List Nat}(h:∀b,b<n→(S b).length≤(T b).length):tot n S≤tot n T:=by
 induction n with
 |zero=>simp[tot]
 |succ n ih=>
  rw[Q7v,Q7v]
  have:=ih fun b hb=>h b (by omega)
  have:=h n (by omega)
  omega
theorem Qbli {n:Nat}{S T:Nat→List Nat}{c:Nat}(hc:c<n)(h:∀b,b<n→(S b).length≤(T b).length)(hlt:(S c).length<(T c).length):tot n S<tot n T:=by
 induction n with
 |zero=>omega
 |succ n ih=>
  rw[Q7v,Q7v]
  have h1:=h n (by omega)
  by_cases hcn:c=n
  ·subst hcn
   have:=Qbfp (n:=c) (S:=S) (T:=T) fun b hb=>h b (by omega)
   omega
  ·have:=ih (by omega) fun b hb=>h b (by omega)
   omega
end Go.AE.Y

namespace Go.AE.Y
attribute [local go_sem] cond_true cond_false Bool.not_true Bool.not_false
open Go.Proofs.Tryz
variable {H:Heap}{K:V→Heap→Prop}
attribute [local instance] Classical.propDecidable
def Qap3 (x:InsD):Option Nat:=if Qhe x.op then some x.to.toNat else none
def toN (l:List Int):List Nat:=l.map Int.toNat
def Qblz (q:CodeD)(b m:Nat):List Nat:=(((q.blocks[m]?.map BlkD.phis).getD []).map fun p=>(p.args.getD ((Q1 (gnx q) (m:Int) q.blocks.length).idxOf (b:Int)) 0).toNat)
def Qa22 (q:CodeD):Flo where
 n:=q.blocks.length
 nx b:=nxN (gnx q) b
 on b:=match q.blocks[b]? with
  |some y=>if y.jump=1 then []else [y.on.toNat]
  |none=>[]
 ins b:=match q.blocks[b]? with
  |some y=>y.ins.map fun x=>(Qap3 x,toN x.args)
  |none=>[]
 ph b:=match q.blocks[b]? with
  |some y=>y.phis.map fun p=>p.to.toNat
  |none=>[]
 ea:=Qblz q
def rIn (q:CodeD)(v:Int):Prop:=0≤v∧v<q.regs
structure BlkD.ok (q:CodeD)(b:Nat)(y:BlkD):Prop where
 nxl:y.next.length≤2
 nx:∀v∈y.next,1≤v∧v<q.blocks.length
 jmp:y.jump=1∨y.jump=2∨y.jump=3
 on:¬y.jump=1→rIn q y.on
 args:∀x∈y.ins,∀v∈x.args,rIn q v
 to:∀x∈y.ins,Qhe x.op=true→rIn q x.to
 pto:∀p∈y.phis,rIn q p.to
 pargs:∀p∈y.phis,∀v∈p.args,rIn q v
 pal:∀p∈y.phis,p.args.length=(Q1 (gnx q) (b:Int) q.blocks.length).length
 al:∀x∈y.ins,x.args.length≤3
structure CodeD.ok (q:CodeD):Prop where
 r0:0≤q.regs
 r1:q.regs≤300
 b0:0<q.blocks.length
 b1:q.blocks.length≤160
 bs:∀(b:Nat) (h:b<q.blocks.length),q.blocks[b].ok q b
 il:∀(b:Nat) (h:b<q.blocks.length),q.blocks[b].ins.length≤1200∧q.blocks[b].phis.length≤1200
theorem Qa1h {α:Type}{f:α→Nat}{l:List α}{x:α}(h:x∈l):f x≤Qjx f l:=by
 induction l with
 |nil=>simp at h
 |cons y l ih=>
  simp only[Qjx,List.map_cons,List.sum_cons]at *
  rcases List.mem_cons.1 h with rfl|h
  ·omega
  ·have:=ih h;omega
theorem Qaor {cs:List CodeD}(h:Qbb cs=true){k:Nat}(hk:k<cs.length):cs[k].ok:=by
 obtain⟨_,h2,h3⟩:=of_decide_eq_true h
 obtain⟨g1,g2⟩:=h2 k hk
 simp only[Quq,Bool.and_eq_true,decide_eq_true_eq]at g1
 refine⟨by omega,by omega,by omega,by omega,fun b hb=>?_,fun b hb=>?_⟩
 ·have g:=g2 b hb
  simp only[Q44,Bool.and_eq_true]at g
  obtain⟨⟨⟨j,nx⟩,ins⟩,ph⟩:=g
  simp only[Qol,Bool.and_eq_true,decide_eq_true_eq]at j
  obtain⟨j1,j2⟩:=j
  rw[List.all_eq_true]at nx ins ph
  have hj:(cs[k].blocks[b].jump=1∨cs[k].blocks[b].jump=2∨cs[k].blocks[b].jump=3)∧cs[k].blocks[b].next.length≤2:=by
   rw[Qj9]at j1
   split at j1
   ·omega
   ·split at j1
    ·omega
    ·split at j1 <;> omega
  have hi:∀x∈cs[k].blocks[b].ins,(∀v∈x.args,rIn cs[k] v)∧(Qhe x.op=true→rIn cs[k] x.to):=fun x hx=>by
   have:=ins x hx
   simp only[Q45,insH,Qqh,Bool.and_eq_true,List.all_eq_true,decide_eq_true_eq,Q9p hk]at this
   obtain⟨⟨⟨_,a1⟩,a2⟩,_⟩:=this
   refine⟨fun v hv=>by have:=a1 v hv;exact⟨by omega,by omega⟩,fun hm=>?_⟩
   rw[insT,hm,if_pos rfl,decide_eq_true_eq]at a2
   exact⟨by omega,by omega⟩
  have hal:∀x∈cs[k].blocks[b].ins,x.args.length≤3:=fun x hx=>by
   have:=ins x hx
   simp only[Q45,Bool.and_eq_true]at this
   have h3:=this.2
   rw[insL]at h3
   split at h3
   ·simp only[Bool.and_eq_true,decide_eq_true_eq]at h3
    have hn:x.n.toNat<cs.length:=by omega
    have:=(h2 x.n.toNat hn).1
    simp only[Quq,Bool.and_eq_true,decide_eq_true_eq]at this
    rw[Q00 hn]at h3
    omega
   ·simp only[Bool.and_eq_true,decide_eq_true_eq]at h3
    have:=argsN_in (op:=x.op)
    omega
  have hp:∀p∈cs[k].blocks[b].phis,rIn cs[k] p.to∧(∀v∈p.args,rIn cs[k] v)∧p.args.length=(Q1 (gnx cs[k]) (b:Int) cs[k].blocks.length).length:=fun p hp=>by
   have:=ph p hp
   simp only[phiG,Qqh,Bool.and_eq_true,List.all_eq_true,decide_eq_true_eq,Qq]at this
   obtain⟨⟨⟨_,a1⟩,a2⟩,a3⟩:=this
   have hgn:(fun i=>(cs[k].blocks.map BlkD.next).getD i [])=gnx cs[k]:=rfl
   rw[hgn]at a1
   exact⟨⟨by omega,by omega⟩,fun v hv=>by have:=a2 v hv;exact⟨by omega,by omega⟩,by omega⟩
  refine⟨hj.2,fun v hv=>?_,hj.1,fun hn=>?_,fun x hx=>(hi x hx).1,fun x hx=>(hi x hx).2,fun p h=>(hp p h).1,fun p h=>(hp p h).2.1,fun p h=>(hp p h).2.2,hal⟩
  ·have:=nx v hv
   simp only[Q48,decide_eq_true_eq,Qq]at this
   omega
  ·rw[if_neg hn,decide_eq_true_eq]at j2
   exact⟨by omega,by omega⟩
 ·have a1:=Qa1h (f:=Q71) (List.getElem_mem hk)
  have a2:=Qa1h (f:=Qyf) (List.getElem_mem hb)
  simp only[Q71,Qyf]at *
  omega
variable {q:CodeD}
theorem Qpw {b:Nat}(h:b<q.blocks.length):gnx q b=q.blocks[b].next:=by simp[gnx,List.getD_eq_getElem?_getD,h]
theorem CodeD.ok.next (h:q.ok){b m:Nat}(hb:b<q.blocks.length)(hm:m∈(Qa22 q).nx b):m<q.blocks.length∧(m:Int)∈gnx q b:=by
 obtain⟨v,hv,rfl⟩:=List.mem_map.1 hm
 have hv':=hv
 rw[Qpw hb]at hv'
 have:=(h.bs b hb).nx v hv'
 refine⟨by omega,?_⟩
 have e:((v.toNat:Nat):Int)=v:=by omega
 rw[e];exact hv
theorem CodeD.ok.ix (h:q.ok){b m:Nat}(hb:b<q.blocks.length)(hm:(m:Int)∈gnx q b):(Q1 (gnx q) (m:Int) q.blocks.length).idxOf (b:Int)<(Q1 (gnx q) (m:Int) q.blocks.length).length:=by
 refine List.idxOf_lt_length_of_mem ?_
 simp only[Q1,List.mem_map,List.mem_filter,List.mem_range]
 exact⟨b,⟨hb,List.contains_iff_mem.2 hm⟩,rfl⟩
theorem IsIx.idx {ns:List Int}{v r:Int}(h:IsIx ns v r)(hm:v∈ns):r=(ns.idxOf v:Nat):=by
 rcases h with ⟨_,hn⟩|⟨i,rfl,h1,h2,h3⟩
 ·exact absurd hm hn
 ·have h4:ns[i]=v:=by rw[←h2,List.getD_eq_getElem?_getD,List.getElem?_eq_getElem h1];rfl
  have h5:ns.idxOf v=i:=by
   have e:ns=ns.take i++ns[i]::ns.drop (i+1):=by rw[←List.drop_eq_getElem_cons h1,List.take_append_drop]
   rw[e,List.idxOf_append,if_neg h3,h4]
   simp[List.length_take];omega
  rw[h5]
def Mem (bs:List Bool)(S:RS'):Prop:=∀r,bs.getD r false=true↔S r
theorem Mem.congr {bs:List Bool}{S T:RS'}(h:Mem bs S)(hST:∀r,S r↔T r):Mem bs T:=fun r=>(h r).trans (hST r)
theorem Qapc (S:List Bool)(x y:Nat)(v:Bool):(S.set x v).getD y false=(if y=x∧x<S.length then v else S.getD y false):=by
 simp only[List.getD_eq_getElem?_getD,List.getElem?_set]
 by_cases h:x=y
 ·subst h
  by_cases h2:x<S.length <;> simp[h2]
 ·have:¬y=x:=fun e=>h e.symm
  simp[h,this]
theorem Mem.ins {bs:List Bool}{S:RS'}(h:Mem bs S){x:Nat}(hx:x<bs.length):Mem (bs.set x true) (fun r=>r=x∨S r):=fun r=>by
 rw[Qapc]
 by_cases hr:r=x
 ·simp[hr,hx]
 ·simp only[hr,false_and,if_false,false_or];exact h r
theorem Mem.del {bs:List Bool}{S:RS'}(h:Mem bs S){x:Nat}(hx:x<bs.length):Mem (bs.set x false) (fun r=>S r∧r≠x):=fun r=>by
 rw[Qapc]
 by_cases hr:r=x
 ·simp[hr,hx]
 ·simp only[hr,false_and,if_false,ne_eq,not_false_eq_true,and_true];exact h r
theorem Mem.lt {bs:List Bool}{S:RS'}(h:Mem bs S){r:Nat}(hr:S r):r<bs.length:=by
 have:=(h r).2 hr
 refine Classical.byContradiction fun hn=>?_
 rw[List.getD_eq_getElem?_getD,List.getElem?_eq_none (by omega)]at this
 exact absurd this (by simp)
theorem Mem.none (n:Nat):Mem (List.replicate n false) fun _=>False:=fun r=>by
 rw[List.getD_eq_getElem?_getD,List.getElem?_replicate]
 split <;> simp
end Go.AE.Y

namespace Go.AE.Y
attribute [local go_sem] cond_true cond_false Bool.not_true Bool.not_false
open Go.Proofs.Tryz
variable {H H0:Heap}{K:V→Heap→Prop}{E L:List (Nat×Obj)}
def madeI (x:InsD):Int:=if Qhe x.op then x.to else -1
structure CodeR (F:Heap)(X:List Nat)(bc:C)(q:CodeD):Prop where
 ow:bc.isOw=false
 s:∀H1:Heap,(∀m,F m≠.none→m∉X→H1 m=F m)→Slc H1 5 (Qr q.blocks) bc
theorem CodeR.sl (F:Heap)(X:List Nat)(fl:Bool)(q:CodeD):CodeR F X (.sl fl 5 (Qr q.blocks)) q:=⟨rfl,fun _ _=>.mk' _ _ _ _⟩
theorem CodeR.rd {F H:Heap}{X:List Nat}{bc:C}{q:CodeD}{E L:List (Nat×Obj)}(h:CodeR F X bc q)(kn:Kn F H E L)(hX:∀x∈E.map Prod.fst,x∈X):Slc H 5 (Qr q.blocks) bc:=
 h.s H fun m hm hx=>kn.chg m hm fun hh=>hx (hX m hh)
theorem CodeR.mid {F H:Heap}{bc:C}{q:CodeD}{L:List (Nat×Obj)}(h:CodeR F [] bc q)(kn:Kn F H [] L):CodeR H (L.map Prod.fst) bc q:=
 ⟨h.ow,fun H1 hh=>h.s H1 fun m hm _=>by
  have h1:=kn.chg m hm (by simp)
  rw[hh m (by rw[h1];exact hm) fun hx=>?_,h1]
  obtain⟨p,hp,he⟩:=List.mem_map.1 hx
  exact hm (he▸kn.loc p hp)⟩
theorem CodeR.nil {F:Heap}{X:List Nat}{bc:C}{q:CodeD}(h:CodeR F X bc q):CodeR F [] bc q:=⟨h.ow,fun H1 hh=>h.s H1 fun m hm _=>hh m hm (by simp)⟩
theorem CodeR.vsl {F:Heap}{X:List Nat}{q:CodeD}{z:Nat}(hz:F z=.vec 5 (Qr q.blocks))(hX:z∉X):CodeR F X (.vsl z 5 0 q.blocks.length) q:=
 ⟨rfl,fun H1 hh=>by
  have h1:H1 z=.vec 5 (Qr q.blocks):=by rw[hh z (by rw[hz];simp) hX,hz]
  exact⟨by simp only[okSl,h1,Qq];exact⟨trivial,by omega⟩,rfl,by simp only[rowsOf,h1,List.drop_zero];exact List.take_of_length_le (by rw[Qq];exact Nat.le_refl _),by simp only[lenC,Qq]⟩⟩
end Go.AE.Y

namespace Go.AE.Y
attribute [local go_sem] cond_true cond_false Bool.not_true Bool.not_false
open Go.Proofs.Tryz
variable {H H0 F:Heap}{K:V→Heap→Prop}{E L:List (Nat×Obj)}
structure SetO where
 c:C
 lg:List (Nat×Obj)
 ks:List Nat
structure SetO.ok (R:Nat)(s:SetO):Prop where
 nd:s.ks.Nodup
 lt:∀x∈s.ks,x<R
 m:(s.c=.mnil∧s.lg=[]∧s.ks=[])∨∃M ver,s.c=.mp M∧s.lg=[(M,.map ver (Qbl4 s.ks))]
def Qbms (ss:List SetO):List (List C):=ss.map fun s=>[s.c]
theorem SetO.ok.isOw {R:Nat}{s:SetO}(h:s.ok R):s.c.isOw=false:=by rcases h.m with ⟨h,_⟩|⟨M,ver,h,_⟩ <;> rw[h] <;> rfl
theorem SetO.ok.len {R:Nat}{s:SetO}(h:s.ok R):s.ks.length≤R:=Qap5 h.nd h.lt
def imE (q:CodeD)(fl:Bool)(l yi yp:Nat)(ss:List SetO)(pr:List (List C)):List (Nat×Obj):=
 [(l,.st [.int .i64 q.params,.int .i64 q.regs,.sl fl 5 (Qr q.blocks),.vsl yi 1 0 q.blocks.length,.vsl yp 1 0 q.blocks.length]),(yi,.vec 1 (Qbms ss)),(yp,.vec 1 pr)]++ss.flatMap SetO.lg
structure imOk (q:CodeD)(ss:List SetO)(pr:List (List C)):Prop where
 l:ss.length=q.blocks.length
 s:∀s∈ss,s.ok q.regs.toNat
 pl:pr.length=q.blocks.length
 p:∀b,b<q.blocks.length→∃fl,pr.getD b []=[.sl fl 1 (Qb (Q1 (gnx q) (b:Int) q.blocks.length))]
def tabS (ss:List SetO)(b:Nat):RS':=fun r=>r∈((ss[b]?.map SetO.ks).getD [])
variable {q:CodeD}{fl:Bool}{l yi yp:Nat}{ss:List SetO}{pr:List (List C)}
end Go.AE.Y

namespace Go.AE.Y
attribute [local instance] Classical.propDecidable
def tab (zs:List (Nat×List Bool))(b:Nat):RS':=fun r=>(((zs[b]?).map Prod.snd).getD []).getD r false=true
variable {zs zi zo:List (Nat×List Bool)}{F:Flo}
theorem Qbf9 {b:Nat}(h:b<zs.length)(r:Nat):tab zs b r↔zs[b].2.getD r false=true:=by simp[tab,h]
theorem Qa2b {b:Nat}{x:Nat×List Bool}(h:b<zs.length)(r:Nat):tab (zs.set b x) b r↔x.2.getD r false=true:=by simp[tab,h]
theorem Qt9 {b c:Nat}{x:Nat×List Bool}(h:c≠b):tab (zs.set b x) c=tab zs c:=by
 funext r
 simp only[tab]
 rw[List.getElem?_set_ne (fun e=>h e.symm)]
theorem Qao4 {a b:List Bool}(hl:a.length=b.length)(h:∀r,a.getD r false=true→b.getD r false=true):cnt a≤cnt b∧(∀r,a.getD r false≠b.getD r false→cnt a<cnt b):=by
 induction a generalizing b with
 |nil=>
  cases b with
  |nil=>exact⟨Nat.le_refl _,fun r hr=>absurd rfl hr⟩
  |cons=>simp at hl
 |cons x a ih=>
  cases b with
  |nil=>simp at hl
  |cons y b=>
   have ih':=ih (b:=b) (by simpa using hl) fun r hr=>by have:=h (r+1);simpa using this (by simpa using hr)
   have h0:x=true→y=true:=by have:=h 0;simpa using this
   have hc:∀(z:Bool) (l:List Bool),cnt (z::l)=cnt l+(if z=true then 1 else 0):=fun z l=>by
    simp only[cnt,List.count_cons];cases z <;> simp
   rw[hc,hc]
   refine⟨?_,fun r hr=>?_⟩
   ·cases x with
    |false=>have:=ih'.1;cases y <;> simp <;> omega
    |true=>rw[h0 rfl];have:=ih'.1;simp;omega
   ·cases r with
    |zero=>
     have hxy:x≠y:=by simpa using hr
     cases x with
     |true=>exact absurd (h0 rfl).symm hxy
     |false=>
      cases y with
      |false=>exact absurd rfl hxy
      |true=>have:=ih'.1;simp;omega
    |succ r=>
     have:=ih'.2 r (by simpa using hr)
     cases x with
     |false=>cases y <;> simp <;> omega
     |true=>rw[h0 rfl];simp;omega
def totZ (zs:List (Nat×List Bool)):Nat:=(zs.map fun p=>cnt p.2).sum
theorem Qa2d {b:Nat}{x:Nat×List Bool}(h:b<zs.length):totZ (zs.set b x)+cnt zs[b].2=totZ zs+cnt x.2:=by
 induction zs generalizing b with
 |nil=>simp at h
 |cons z zs ih=>
  cases b with
  |zero=>simp[totZ];omega
  |succ b=>
   have:=ih (b:=b) (by simpa using h)
   simp only[totZ,List.set_cons_succ,List.map_cons,List.sum_cons,List.getElem_cons_succ]at this⊢
   omega
structure LvInv (F:Flo)(zi zo:List (Nat×List Bool)):Prop where
 bi:∀b,b<F.n→∀r,tab zi b r→F.LI b r
 bo:∀b,b<F.n→∀r,tab zo b r→F.LO b r
 post:∀b,b<F.n→∀r,tab zi b r→F.thru (tab zo b) b r
def LvCl (F:Flo)(zi zo:List (Nat×List Bool))(b:Nat):Prop:=(∀r,F.outT (tab zi) b r→tab zo b r)∧∀r,F.thru (tab zo b) b r→tab zi b r
theorem LvInv.done (h:LvInv F zi zo)(hf:F.fits)(hc:∀b,b<F.n→LvCl F zi zo b):∀b,b<F.n→∀r,(tab zi b r↔F.LI b r)∧(tab zo b r↔F.LO b r):=by
 have hp:F.Pre (tab zi):=fun b hb r hr=>(hc b hb).2 r (Flo.thru_mono (hc b hb).1 b r hr)
 intro b hb r
 refine⟨Flo.is_least hp h.bi hb r,h.bo b hb r,fun hr=>(hc b hb).1 r ?_⟩
 exact Flo.outT_mono hf (fun c hc r hr=>(Flo.is_least hp h.bi hc r).2 hr) hb r hr
theorem LvInv.step {R z w y b:Nat}{bs bw bs1 nb:List Bool}{a a1 a2:Bool}(h:LvInv F zi zo)(hf:F.fits)(hb:b<F.n)(hil:zi.length=F.n)(hol:zo.length=F.n)(hRi:∀p∈zi,p.2.length=R)(hRo:∀p∈zo,p.2.length=R)
  (hl1:bs1.length=R) (hln:nb.length=R) (hzo:zo[b]? = some (z,bs)) (hzi:zi[b]? = some (w,bw))
  (g1:∀r,bs.getD r false=true→bs1.getD r false=true) (g2:∀r,bs1.getD r false=true→F.LO b r) (g3:∀r,F.outT (tab zi) b r→bs1.getD r false=true)
  (g4:∀r,nb.getD r false=true↔F.thru (fun r=>bs1.getD r false=true) b r)
  (k1:a1=true→a=true∨cnt bs<cnt bs1) (k2:a1=false→a=false∧bs1=bs)
  (k3:a2=true→a1=true∨∃r,nb.getD r false≠bw.getD r false) (k4:a2=false→a1=false∧∀r,r<R→nb.getD r false=bw.getD r false) :
  LvInv F (zi.set b (y,nb)) (zo.set b (z,bs1))∧totZ zi+totZ zo≤totZ (zi.set b (y,nb))+totZ (zo.set b (z,bs1))∧
   (a2=true→a=true∨totZ zi+totZ zo<totZ (zi.set b (y,nb))+totZ (zo.set b (z,bs1)))∧
   (a2=false→a=false∧LvCl F (zi.set b (y,nb)) (zo.set b (z,bs1)) b∧∀c,LvCl F zi zo c→LvCl F (zi.set b (y,nb)) (zo.set b (z,bs1)) c):=by
 have hbi:b<zi.length:=by omega
 have hbo:b<zo.length:=by omega
 have ezo:zo[b]=(z,bs):=by rw[List.getElem?_eq_getElem hbo]at hzo;simpa using hzo
 have ezi:zi[b]=(w,bw):=by rw[List.getElem?_eq_getElem hbi]at hzi;simpa using hzi
 have hlb:bs.length=R:=hRo (z,bs) (by rw[←ezo];exact List.getElem_mem hbo)
 have hlw:bw.length=R:=hRi (w,bw) (by rw[←ezi];exact List.getElem_mem hbi)
 have tzo:∀r,tab zo b r↔bs.getD r false=true:=fun r=>by rw[Qbf9 hbo,ezo]
 have tzi:∀r,tab zi b r↔bw.getD r false=true:=fun r=>by rw[Qbf9 hbi,ezi]
 have tzo':∀r,tab (zo.set b (z,bs1)) b r↔bs1.getD r false=true:=fun r=>Qa2b hbo r
 have tzi':∀r,tab (zi.set b (y,nb)) b r↔nb.getD r false=true:=fun r=>Qa2b hbi r
 have hsub:∀r,bw.getD r false=true→nb.getD r false=true:=fun r hr=>by
  rw[g4]
  exact Flo.thru_mono (fun r hr=>g1 r ((tzo r).1 hr)) b r (h.post b hb r ((tzi r).2 hr))
 have c1:=Qao4 (a:=bs) (b:=bs1) (by omega) g1
 have c2:=Qao4 (a:=bw) (b:=nb) (by omega) hsub
 have t1:=Qa2d (zs:=zo) (x:=(z,bs1)) hbo
 have t2:=Qa2d (zs:=zi) (x:=(y,nb)) hbi
 rw[ezo]at t1
 rw[ezi]at t2
 simp only at t1 t2
 refine⟨⟨fun c hc r hr=>?_,fun c hc r hr=>?_,fun c hc r hr=>?_⟩,by have:=c1.1;have:=c2.1;omega,fun ha=>?_,fun ha=>?_⟩
 ·by_cases hcb:c=b
  ·subst hcb
   rw[tzi',g4]at hr
   exact Flo.LI_pre hf c hb r (Flo.thru_mono g2 c r hr)
  ·rw[Qt9 hcb]at hr;exact h.bi c hc r hr
 ·by_cases hcb:c=b
  ·subst hcb
   rw[tzo']at hr;exact g2 r hr
  ·rw[Qt9 hcb]at hr;exact h.bo c hc r hr
 ·by_cases hcb:c=b
  ·subst hcb
   rw[tzi',g4]at hr
   exact Flo.thru_mono (fun r hr=>(tzo' r).2 hr) c r hr
  ·rw[Qt9 hcb]at hr⊢;exact h.post c hc r hr
 ·rcases k3 ha with h1|⟨r,hr⟩
  ·rcases k1 h1 with h2|h2
   ·exact .inl h2
   ·right;have:=c2.1;omega
  ·right
   have:=c2.2 r (fun e=>hr e.symm)
   have:=c1.1
   omega
 ·obtain⟨h1,h2⟩:=k4 ha
  obtain⟨h3,h4⟩:=k2 h1
  have hnb:∀r,nb.getD r false=bw.getD r false:=fun r=>by
   by_cases hr:r<R
   ·exact h2 r hr
   ·rw[List.getD_eq_getElem?_getD,List.getD_eq_getElem?_getD,List.getElem?_eq_none (by omega),List.getElem?_eq_none (by omega)]
  have ti:tab (zi.set b (y,nb))=tab zi:=by
   funext c r
   by_cases hcb:c=b
   ·subst hcb;refine propext ?_;rw[tzi',tzi,hnb]
   ·rw[Qt9 hcb]
  have to:tab (zo.set b (z,bs1))=tab zo:=by
   funext c r
   by_cases hcb:c=b
   ·subst hcb;refine propext ?_;rw[tzo',tzo,h4]
   ·rw[Qt9 hcb]
  refine⟨h3,⟨fun r hr=>?_,fun r hr=>?_⟩,fun c hc=>?_⟩
  ·rw[ti]at hr
   exact (tzo' r).2 (g3 r hr)
  ·rw[tzi',g4]
   exact Flo.thru_mono (fun r hr=>(tzo' r).1 hr) b r hr
  ·rw[LvCl,ti,to];exact hc
end Go.AE.Y

namespace Go.AE.Y
attribute [local go_sem] cond_true cond_false Bool.not_true Bool.not_false
open Go.Proofs.Tryz
variable {H H0 F:Heap}{K:V→Heap→Prop}{E L:List (Nat×Obj)}
def Qbkq (R:Nat)(zs:List (Nat×List Bool)):List (List C):=zs.map fun p=>[.vsl p.1 1 0 R]
def obZ (zs:List (Nat×List Bool)):List (Nat×Obj):=zs.map fun p=>(p.1,.vec 1 (Q0f p.2))
def lvE (R yi yo:Nat)(zi zo:List (Nat×List Bool)):List (Nat×Obj):=[(yi,.vec 1 (Qbkq R zi)),(yo,.vec 1 (Qbkq R zo))]++(obZ zi++obZ zo)
variable {R yi yo:Nat}{zi zo:List (Nat×List Bool)}
structure lvOk (R n:Nat)(zi zo:List (Nat×List Bool)):Prop where
 i:zi.length=n
 o:zo.length=n
 li:∀p∈zi,p.2.length=R
 lo:∀p∈zo,p.2.length=R
end Go.AE.Y

namespace Go.AE.Y
attribute [local go_sem] cond_true cond_false Bool.not_true Bool.not_false
open Go.Proofs.Tryz
variable {H H0 F:Heap}{K:V→Heap→Prop}{E L:List (Nat×Obj)}
def Qbkp (zs:List (Nat×List Bool)):List (List C):=zs.map fun p=>[.sl false 1 (Q0f p.2)]
def liveB (q:CodeD)(zi zo:List (Nat×List Bool)):Prop:=lvOk q.regs.toNat q.blocks.length zi zo∧∀b,b<q.blocks.length→∀r,(tab zi b r↔(Qa22 q).LI b r)∧(tab zo b r↔(Qa22 q).LO b r)
def tailL (x2 x3 yi yo n:Nat):List (Nat×Obj):=[(x2,.st [.sl true 1 [],.sl true 1 []]),(x3,.st [.vsl yi 1 0 n,.vsl yo 1 0 n])]
end Go.AE.Y

namespace Go.AE.Y
attribute [local go_sem] cond_true cond_false Bool.not_true Bool.not_false
open Go.Proofs.Tryz
variable {H H0:Heap}{K:V→Heap→Prop}{E L:List (Nat×Obj)}
def onesL (bs:List Bool)(n:Nat):List Nat:=(List.range n).filter fun r=>bs.getD r false
def listsR (ls:List (List Nat)):List (List C):=ls.map fun l=>[.sl false 1 (Qa1k l)]
noncomputable def insLs (q:CodeD):List (List Nat):=(List.range q.blocks.length).map fun b=>ascL q.regs.toNat ((Qa22 q).LI b)
noncomputable def outsLs (q:CodeD):List (List Nat):=(List.range q.blocks.length).map fun b=>ascL q.regs.toNat ((Qa22 q).LO b)
noncomputable def Qbbt (q:CodeD)(b k:Nat):List Nat:=ascL q.regs.toNat ((Qa22 q).LB b k)
noncomputable def codeOr (cs:List CodeD)(k:Int)(f:CodeD→List (List Nat)):List (List Nat):=if hasG cs k=true then match cs[k.toNat]? with
 |some q=>f q
 |none=>[]else []
end Go.AE.Y

namespace Go.AE.Y
attribute [local go_sem] cond_true cond_false Bool.not_true Bool.not_false
open Go.Proofs.Tryz
variable {H H0:Heap}{K:V→Heap→Prop}{E L:List (Nat×Obj)}
def mxF (f:Nat→Nat):Nat→Nat
 |0=>0
 |m+1=>max (mxF f m) (f m)
noncomputable def Qbjk (q:CodeD)(b:Nat):Nat:=mxF (fun k=>(Qbbt q b k).length) (((q.blocks[b]?.map BlkD.ins).getD []).length+1)
noncomputable def Qbl5 (q:CodeD):Nat:=mxF (Qbjk q) q.blocks.length
noncomputable def upTo (q:CodeD)(b k:Nat):Nat:=max (mxF (Qbjk q) b) (mxF (fun k=>(Qbbt q b k).length) k)
noncomputable def mostI (cs:List CodeD)(k:Int):Int:=if hasG cs k=true then match cs[k.toNat]? with
 |some q=>(Qbl5 q:Int)
 |none=>-1 else -1
def spS (zi zo:List (Nat×List Bool)):Obj:=.st [.sl false 1 (Qbkp zi),.sl false 1 (Qbkp zo)]
end Go.AE.Y

namespace Go.AE.Y
attribute [local instance] Classical.propDecidable
def asS (S:Nat→List Nat)(b:Nat):RS':=fun r=>r∈S b
structure ImInv (F:Flo)(R:Nat)(S:Nat→List Nat):Prop where
 below:F.Below (asS S)
 post:∀b,b<F.n→∀r,asS S b r→F.inT (asS S) b r
 nd:∀b,(S b).Nodup
 lt:∀b,∀r∈S b,r<R
variable {F:Flo}{R:Nat}{S:Nat→List Nat}
theorem ImInv.same {b:Nat}{ks:List Nat}(h:ImInv F R S)(hb:b<F.n)(hnd:ks.Nodup)(hks:∀r,r∈ks↔F.inT (asS S) b r)(hl:ks.length=(S b).length):∀r,F.inT (asS S) b r→asS S b r:=fun r hr=>
 Qap6 (h.nd b) (fun x hx=>(hks x).2 (h.post b hb x hx)) (by omega) r ((hks r).2 hr)
theorem ImInv.step {b:Nat}{ks:List Nat}(h:ImInv F R S)(hf:F.fits)(hb:b<F.n)(hnd:ks.Nodup)(hlt:∀r∈ks,r<R)(hks:∀r,r∈ks↔F.inT (asS S) b r)(hl:¬ks.length=(S b).length) :
  ImInv F R (fun c=>if c=b then ks else S c)∧tot F.n S<tot F.n (fun c=>if c=b then ks else S c):=by
 have hsub:∀r,r∈S b→r∈ks:=fun r hr=>(hks r).2 (h.post b hb r hr)
 have hle:=Qlz (h.nd b) hsub
 have hS:∀c,c<F.n→∀r,asS S c r→asS (fun c=>if c=b then ks else S c) c r:=fun c _ r hr=>by
  simp only[asS]
  by_cases hc:c=b
  ·subst hc;rw[if_pos rfl];exact hsub r hr
  ·rw[if_neg hc];exact hr
 refine⟨⟨fun c hc r hr=>?_,fun c hc r hr=>?_,fun c=>?_,fun c r hr=>?_⟩,Qbli hb (fun c hc=>?_) ?_⟩
 ·simp only[asS]at hr
  by_cases hcb:c=b
  ·subst hcb;rw[if_pos rfl]at hr;exact h.below.inT hf hb r ((hks r).1 hr)
  ·rw[if_neg hcb]at hr;exact h.below c hc r hr
 ·have h1:F.inT (asS S) c r:=by
   simp only[asS]at hr
   by_cases hcb:c=b
   ·subst hcb;rw[if_pos rfl]at hr;exact (hks r).1 hr
   ·rw[if_neg hcb]at hr;exact h.post c hc r hr
  exact Flo.inT_mono hf hS hc r h1
 ·by_cases hcb:c=b
  ·subst hcb;simpa using hnd
  ·simpa[hcb]using h.nd c
 ·by_cases hcb:c=b
  ·subst hcb;exact hlt r (by simpa using hr)
  ·exact h.lt c r (by simpa[hcb]using hr)
 ·by_cases hcb:c=b
  ·subst hcb;simpa using hle
  ·simp[hcb]
 ·simp only[if_pos];omega
theorem ImInv.done (h:ImInv F R S)(hc:∀b,b<F.n→∀r,F.inT (asS S) b r→asS S b r){b:Nat}(hb:b<F.n)(r:Nat):r∈S b↔F.LI b r:=
 Flo.is_least hc h.below hb r
theorem ImInv.start:ImInv F R fun _=>[]:=⟨fun b _ r hr=>absurd hr (by simp[asS]),fun b _ r hr=>absurd hr (by simp[asS]),fun _=>by simp,fun _ r hr=>by simp at hr⟩
end Go.AE.Y

namespace Go.AE.Y
attribute [local go_sem] cond_true cond_false Bool.not_true Bool.not_false
open Go.Proofs.Tryz
variable {H H0 F:Heap}{K:V→Heap→Prop}{E L:List (Nat×Obj)}
variable {q:CodeD}{fl:Bool}{l yi yp:Nat}{ss:List SetO}{pr:List (List C)}
end Go.AE.Y

namespace Go.AE.Y
attribute [local go_sem] cond_true cond_false Bool.not_true Bool.not_false
open Go.Proofs.Tryz
variable {H H0 F:Heap}{K:V→Heap→Prop}{E L:List (Nat×Obj)}
def ksOf (ss:List SetO)(b:Nat):List Nat:=(ss[b]?.map SetO.ks).getD []
end Go.AE.Y

namespace Go.AE.Y
attribute [local go_sem] cond_true cond_false Bool.not_true Bool.not_false
open Go.Proofs.Tryz
variable {H H0 F:Heap}{K:V→Heap→Prop}{E L:List (Nat×Obj)}
variable {q:CodeD}{fl:Bool}{l yi yp:Nat}{ss:List SetO}{pr:List (List C)}
end Go.AE.Y

namespace Go.AE.Y
attribute [local go_sem] cond_true cond_false Bool.not_true Bool.not_false
open Go.Proofs.Tryz
variable {H H0 F:Heap}{K:V→Heap→Prop}{E L:List (Nat×Obj)}
end Go.AE.Y

namespace Go.AE.Y
attribute [local go_sem] cond_true cond_false Bool.not_true Bool.not_false
open Go.Proofs.Tryz
variable {H H0:Heap}{K:V→Heap→Prop}{E B Lg:List (Nat×Obj)}
theorem Qjd {S:Nat→Bool}{a b a' b':V}(h:FrzV H S a a')(k:FrzV H S b b'):FrzV H S (.tup [a,b]) (.tup [a',b']):=by
 refine .tup _ _ rfl fun j x x' h1 h2=>?_
 match j with
 |0=>simp at h1 h2;subst h1;subst h2;exact h
 |1=>simp at h1 h2;subst h1;subst h2;exact k
 |j+2=>simp at h1
theorem Qz7 {S:Nat→Bool}(cs:List CodeD):FrzV H S (.ag [.sl false 3 (Ql cs)]) (.ag [.sl false 3 (Ql cs)]):=FrzL.ag (.cons (FrzR.same (Qa4 cs)).sl .nil)
theorem UnitOk.fits {cs:List CodeD}(h:UnitOk cs):∀c∈cs,c.fits:=fun c hc=>(h.2.2 c hc).f
end Go.AE.Y

namespace Go.AE.Y
attribute [local go_sem] cond_true cond_false Bool.not_true Bool.not_false
open Go.Proofs.Tryz
variable {H H0:Heap}{K:V→Heap→Prop}{E B Lg:List (Nat×Obj)}
attribute [local instance] Classical.propDecidable
end Go.AE.Y

namespace Go.AE.Y
attribute [local go_sem] cond_true cond_false Bool.not_true Bool.not_false
open Go.Proofs.Tryz
variable {H H0:Heap}{K:V→Heap→Prop}{E B Lg:List (Nat×Obj)}
attribute [local instance] Classical.propDecidable
end Go.AE.Y

namespace Go.AE
variable {H0 F H:Heap}{E E' L M:List (Nat×Obj)}
end Go.AE
namespace Go.AE.Y
attribute [local go_sem] cond_true cond_false Bool.not_true Bool.not_false
open Go.Proofs.Tryz
variable {H H0 F:Heap}{K:V→Heap→Prop}{E L:List (Nat×Obj)}
variable {q:CodeD}{fl:Bool}{l yi yp:Nat}{ss:List SetO}{pr:List (List C)}
attribute [local instance] Classical.propDecidable
def Qbkn (op:Int):Bool:=decide (1≤op∧op≤10)&&!decide (op=6)&&!decide (op=7)
noncomputable def Qbl2 (q:CodeD)(b i:Nat)(x:InsD):Bool:=Qbkn x.op&&!decide (x.to.toNat∈Qbbt q b (i+1))
noncomputable def Qbj4 (q:CodeD)(b i:Nat):Bool:=match (q.blocks[b]?).bind (fun y=>y.ins[i]?)with
 |some x=>Qbl2 q b i x
 |none=>false
end Go.AE.Y

namespace Go.AE.Y
attribute [local go_sem] cond_true cond_false Bool.not_true Bool.not_false
open Go.Proofs.Tryz
variable {H H0 F:Heap}{K:V→Heap→Prop}{E L:List (Nat×Obj)}
variable {q:CodeD}{fl:Bool}
attribute [local instance] Classical.propDecidable
def Qbf0 (q:CodeD)(b:Nat):Nat:=((q.blocks[b]?.map BlkD.ins).getD []).length
noncomputable def idlB (q:CodeD)(b n:Nat):List Nat:=(List.range n).filter (Qbj4 q b)
def itB (k b:Nat)(l:List Nat):List (List Nat):=l.map fun i=>[k,b,i]
noncomputable def itC (q:CodeD)(k nb:Nat):List (List Nat):=(List.range nb).flatMap fun b=>itB k b (idlB q b (Qbf0 q b))
noncomputable def itU (cs:List CodeD)(nk:Nat):List (List Nat):=(List.range nk).flatMap fun k=>match cs[k]? with
 |some q=>itC q k q.blocks.length
 |none=>[]
noncomputable def idleAll (cs:List CodeD):List (List Nat):=if Qbb cs=true then itU cs cs.length else []
noncomputable def idlN (q:CodeD)(nb:Nat):Nat:=((List.range nb).map fun b=>(idlB q b (Qbf0 q b)).length).sum
def listsT (ls:List (List Nat)):List (List C):=ls.map fun l=>[.sl true 1 (Qa1k l)]
end Go.AE.Y

namespace Go.AE.Y
attribute [local go_sem] cond_true cond_false Bool.not_true Bool.not_false
open Go.Proofs.Tryz
variable {H H0 F:Heap}{K:V→Heap→Prop}{E L:List (Nat×Obj)}
variable {q:CodeD}{fl:Bool}
attribute [local instance] Classical.propDecidable
noncomputable def countI (cs:List CodeD):Int:=if Qbb cs=true then (Qjx Q71 cs:Nat)else -1
end Go.AE.Y

namespace Go.AE.Y
open Go.Proofs.Tryz
def Qkp:List Item:=[fJ 6 2 1,sJ 1 6 5]
def Q5i:SC:=sR [tJ 7 4 1,sJ 4 2 7] [2] .ret
def Q5j:SC:=sR (fJ 3 2 1::lJ 4 3::aJ 5 Qci [.t 4]::Qkp) [1,2] Q5i
def Qaf8:SC:=sR [eI 1 (.boxm (.t 0)),eI 2 (.alloc [.int .i64 0,.int .i64 0,.sl true 1 [],.int .i64 0])] [1,2] Q5j
def Qvq:List RS:=[.cell 2 4 true]
theorem Qafi:mFn prog Qcy 1 8 Qaf8 Qvq=true:=by kernel_rfl
def Qho:List Item:=[fJ 6 0 1,sJ 1 6 5]
def Qhp:List Item:=[fJ 10 1 1,sJ 1 10 9]
def Qhq:List Item:=[fJ 14 4 1,sJ 1 14 13]
def Qy9:SC:=sR [tJ 15 5 1,sJ 5 2 15] [2] .ret
def Qza:SC:=sR (fJ 11 4 1::lJ 12 11::aJ 13 Qci [.t 12]::Qhq) [1,2] Qy9
def Qzb:SC:=sR (fJ 7 1 1::lJ 8 7::eI 9 (.call Qct [.t 8,.k (.c (.fn Qcy []))])::Qhp) [1,2] Qza
def Qzc:SC:=sR (fJ 3 0 1::lJ 4 3::eI 5 (.call Qcu [.t 4,.k (.c (.fn Qcz []))])::Qho) [1,2] Qzb
def Q5h:SC:=sR [eI 1 (.boxm (.t 0)),eI 2 (.alloc [.sl true 2 [],.sl true 4 [],.int .i64 0,.int .i64 0,.sl true 1 []])] [1,2] Qzc
def Qmy:List RS:=[.cell 2 5 true]
theorem Q47:mFn prog Qb5 1 16 Q5h Qmy=true:=by kernel_rfl
def Qiw:List Item:=[fJ 6 2 1,sJ 1 6 5]
def Q1g:SC:=sR [tJ 7 3 1,sJ 3 2 7] [2] .ret
def Q1h:SC:=sR (fJ 3 2 1::lJ 4 3::eI 5 (.call Qbu [.t 4,.k (.c (.fn Qb5 []))])::Qiw) [1,2] Q1g
def Q95:SC:=sR [eI 1 (.boxm (.t 0)),eI 2 (.alloc [.int .i64 0,.int .i64 0,.sl true 5 []])] [1,2] Q1h
def Qqa:List RS:=[.cell 2 3 true]
theorem Q8t:mFn prog Qg1 1 8 Q95 Qqa=true:=by kernel_rfl
end Go.AE.Y

namespace Go.AE.Y
attribute [local go_sem] cond_true cond_false Bool.not_true Bool.not_false
open Go.Proofs.Tryz
variable {H H0 F:Heap}{K:V→Heap→Prop}{E L:List (Nat×Obj)}
theorem PhiD.allOw (x:PhiD):(x.cells.all fun c=>!c.isOw)=true:=rfl
theorem PhiD.len2 (x:PhiD):x.cells.length=2:=rfl
theorem Qa2v {x:PhiD}(hl:x.args.length≤LIM)(hK:∀H',Upd H H' []→K (.ag x.cells) H'):Qp prog Qcz [.ag x.cells] H K:=by
 refine Qz ?_
 refine Qd Qak Qalj ?_
 refine Qa ?_
 simp only[go_sem,PhiD.cells]
 intro x2 hx2 H1 h1
 have kn:=(Kn.start0 H).al hx2 h1
 refine Qag ?_
 simp only[go_sem]
 refine Q0a kn hl fun t Lg H2 hgr how kn=>?_
 have hx2:=kn.l 0 rfl
 simp only[go_sem,Qm6,how,hx2]
 intro H3 h3
 have kn:Kn H H3 [] ([(x2,.st [.int .i64 x.to,t])]++Lg):=kn.stL 0 rfl h3
 have hx2:=kn.l 0 rfl
 refine Qk ?_
 simp only[go_sem,Q3,Q9,Qyo,List.mem_singleton,forall_eq,RS.op,how,hx2]
 exact⟨_,FrzL.ag (.cons (Qf rfl) (.cons (hgr.frz kn (Qo _)) .nil)),hK _ kn.fin⟩
theorem Qa2u {x:InsD}(hl:x.args.length≤LIM)(hK:∀H',Upd H H' []→K (.ag x.cells) H'):Qp prog Qcy [.ag x.cells] H K:=by
 refine Qz ?_
 refine Qd Qak Qafi ?_
 refine Qa ?_
 simp only[go_sem,InsD.cells]
 intro x1 hx1 H0 h0
 have kn:=(Kn.start0 H).al hx1 h0
 intro x2 hx2 H1 h1
 have kn:=kn.al hx2 h1
 have hx1:=kn.l 0 rfl
 refine Qa ?_
 simp only[go_sem,hx1]
 refine Q0a kn hl fun t Lg H2 hgr how kn=>?_
 have hx1:=kn.l 0 rfl
 simp only[go_sem,Qkp,how,hx1]
 intro H3 h3
 have kn:=kn.stL 0 rfl h3
 have hx1:=kn.l 0 rfl
 have hx2:=kn.l 1 rfl
 refine Qa ?_
 simp only[go_sem,hx1,hx2,how]
 intro H4 h4
 have kn:Kn H H4 [] ([(x1,.st [.int .i64 x.op,.int .i64 x.to,t,.int .i64 x.n]),(x2,.st [.int .i64 x.op,.int .i64 x.to,t,.int .i64 x.n])]++Lg):=kn.stL 1 rfl h4
 have hx2:=kn.l 1 rfl
 refine Qk ?_
 simp only[go_sem,Q3,Q9,Qvq,List.mem_singleton,forall_eq,RS.op,how,hx2]
 exact⟨_,FrzL.ag (.cons (Qf rfl) (.cons (Qf rfl) (.cons (hgr.frz kn (Qo _)) (.cons (Qf rfl) .nil)))),hK _ kn.fin⟩
theorem Qbdp {l:List PhiD}{fl:Bool}(hl:l.length≤2 ^ 38)(ha:∀x∈l,x.args.length≤LIM)(kn:Kn H0 H E L)(hK:∀t Lg H',Gr Lg 2 (Qw l) t→Kn H0 H' E (L++Lg)→K (.c t) H') :
  Qp prog Qcu [.c (.sl fl 2 (Qw l)),.c (.fn Qcz [])] H K:=by
 refine Qd Qak Qxf ?_
 refine Qa ?_
 simp only[go_sem]
 refine Qa ?_
 simp only[go_sem]
 refine Q6 ?_
 refine Qa ?_
 simp only[go_sem,Qv]
 intro _
 refine Qh (Qg (Qy (fun m e1 H1=>∃(i:Nat) (t:C) (Lg:List (Nat×Obj)),m=l.length-i∧i≤l.length∧Gr Lg 2 (Qw (l.take i)) t∧Kn H0 H1 E (L++Lg)∧
  e1=[(1,.c (.fn Qcz [])),(5,.c t),(8,.c (.sl fl 2 (Qw l))),(9,.c (.int .i64 l.length)),(10,.c (.int .i64 i))]) l.length ?_ ?_))
 ·exact⟨0,_,[],by omega,by omega,.nil 2,by simpa using kn,rfl⟩
 ·clear kn
  rintro m e1 H1 ⟨i,t,Lg,hm,hi,hgr,kn,rfl⟩
  have htw:=hgr.isOw
  refine Qa ?_
  simp only[go_sem,htw]
  refine Qh (Qe rfl ?_ ?_)
  ·intro hc
   have hlt:i<l.length:=by simpa using hc
   obtain⟨p,hp⟩:∃p,l[i]=p:=⟨_,rfl⟩
   have hpm:p∈l:=by rw[←hp];exact List.getElem_mem hlt
   have htk:l.take (i+1)=l.take i++[p]:=by rw[List.take_succ_eq_append_getElem hlt,hp]
   refine Qi ?_
   try simp only[go_sem]
   refine Qh (Qg ?_)
   refine Qa ?_
   simp only[go_sem,htw,hlt,Qv,Qay _ _ hlt,PhiD.cells,hp]
   intro x7 hx7 H2 h2
   have kn:=kn.al hx7 h2
   have hx7:H2 x7=.st [.int .i64 0,.sl true 1 []]:=(kn.get (x7,.st [.int .i64 0,.sl true 1 []]) (by simp)).1
   simp only[go_sem,Qd3,hx7,htw]
   intro H3 h3
   have kn:Kn H0 H3 E ((L++[(x7,.st [.int .i64 p.to,.sl false 1 (Qb p.args)])])++Lg):=by
    have:=kn.stL (L++Lg).length (x:=x7) (o:=.st [.int .i64 0,.sl true 1 []]) (by simp) h3
    refine Kn.perm (by simpa using this) (Qj fun f hf h0 hc hp=>by simp only[hf];omega)
   have hx7:H3 x7=.st [.int .i64 p.to,.sl false 1 (Qb p.args)]:=(kn.get (x7,.st [.int .i64 p.to,.sl false 1 (Qb p.args)]) (by simp)).1
   refine Qt ?_
   simp only[go_sem,htw,hx7,List.append_nil,List.map_nil]
   refine Qa2v (x:=p) (ha p hpm) fun H4 hu=>?_
   have kn:=kn.call0 hu
   simp only[go_sem,Qd5,htw,PhiD.cells]
   have hsm:(l.take i).length≤l.length:=by rw[List.length_take];omega
   refine kn.growR (new:=Qw [p]) hgr (.mk' _ _ _ _) (Ql0 _) (by simp only[Qv,LIM,List.length_cons,List.length_nil];omega) fun t2 Lg2 H5 hgr2 ht2 kn=>?_
   simp only[go_sem,Qd4,ht2]
   refine Qt ?_
   simp only[go_sem,X.next,ht2]
   refine⟨Qs (by omega) (by omega),l.length-(i+1),by omega,i+1,t2,Lg2,rfl,by omega,?_,?_,rfl⟩
   ·rw[htk];have:Qw (l.take i++[p])=Qw (l.take i)++Qw [p]:=by simp[Qw]
    rw[this];exact hgr2
   ·exact Kn.drop (B:=[(x7,.st [.int .i64 p.to,.sl false 1 (Qb p.args)])]) (kn.perm (Qj fun f hf h0 hc hp=>by simp only[hf];omega))
  ·intro hc
   have hge:l.length≤i:=by simpa using hc
   rw[List.take_of_length_le hge]at hgr
   refine Q0 ?_
   simp only[go_sem,X.next]
   refine Qa ?_
   simp only[go_sem,htw]
   refine Qk ?_
   simp only[go_sem,Q3,Q9,Qhh,List.mem_singleton,forall_eq,RS.op,htw]
   exact hK t Lg H1 hgr kn
theorem Qbdo {l:List InsD}{fl:Bool}(hl:l.length≤2 ^ 38)(ha:∀x∈l,x.args.length≤LIM)(hK:∀H',Upd H H' []→K (.c (.sl false 4 (Qav l))) H') :
  Qp prog Qct [.c (.sl fl 4 (Qav l)),.c (.fn Qcy [])] H K:=by
 refine Qz ?_
 refine Qd Qak Qxe ?_
 refine Qa ?_
 simp only[go_sem]
 refine Qa ?_
 simp only[go_sem]
 refine Q6 ?_
 refine Qa ?_
 simp only[go_sem,Qat]
 intro _
 refine Qh (Qg (Qy (fun m e1 H1=>∃(i:Nat) (t:C) (Lg:List (Nat×Obj)),m=l.length-i∧i≤l.length∧Gr Lg 4 (Qav (l.take i)) t∧Kn H H1 [] ([]++Lg)∧
  e1=[(1,.c (.fn Qcy [])),(5,.c t),(8,.c (.sl fl 4 (Qav l))),(9,.c (.int .i64 l.length)),(10,.c (.int .i64 i))]) l.length ?_ ?_))
 ·exact⟨0,_,[],by omega,by omega,.nil 4,Kn.start0 H,rfl⟩
 ·rintro m e1 H1 ⟨i,t,Lg,hm,hi,hgr,kn,rfl⟩
  have htw:=hgr.isOw
  refine Qa ?_
  simp only[go_sem,htw]
  refine Qh (Qe rfl ?_ ?_)
  ·intro hc
   have hlt:i<l.length:=by simpa using hc
   obtain⟨p,hp⟩:∃p,l[i]=p:=⟨_,rfl⟩
   have hpm:p∈l:=by rw[←hp];exact List.getElem_mem hlt
   have htk:l.take (i+1)=l.take i++[p]:=by rw[List.take_succ_eq_append_getElem hlt,hp]
   refine Qi ?_
   try simp only[go_sem]
   refine Qh (Qg ?_)
   refine Qa ?_
   simp only[go_sem,htw,hlt,Qat,Qen _ _ hlt,InsD.cells,hp]
   intro x7 hx7 H2 h2
   have kn:=kn.al hx7 h2
   have hx7:H2 x7=.st [.int .i64 0,.int .i64 0,.sl true 1 [],.int .i64 0]:=(kn.get (x7,.st [.int .i64 0,.int .i64 0,.sl true 1 [],.int .i64 0]) (by simp)).1
   simp only[go_sem,Qd0,hx7,htw]
   intro H3 h3
   have kn:Kn H H3 [] ([(x7,.st [.int .i64 p.op,.int .i64 p.to,.sl false 1 (Qb p.args),.int .i64 p.n])]++Lg):=by
    have:=kn.stL ([]++Lg).length (x:=x7) (o:=.st [.int .i64 0,.int .i64 0,.sl true 1 [],.int .i64 0]) (by simp) h3
    refine Kn.perm (by simpa using this) ?_
    exact List.perm_append_comm
   have hx7:=kn.l 0 rfl
   refine Qt ?_
   simp only[go_sem,htw,hx7,List.append_nil,List.map_nil]
   refine Qa2u (x:=p) (ha p hpm) fun H4 hu=>?_
   have kn:=kn.call0 hu
   simp only[go_sem,Qd2,htw,InsD.cells]
   have hsm:(l.take i).length≤l.length:=by rw[List.length_take];omega
   refine kn.growR (new:=Qav [p]) hgr (.mk' _ _ _ _) (Qui _) (by simp only[Qat,LIM,List.length_cons,List.length_nil];omega) fun t2 Lg2 H5 hgr2 ht2 kn=>?_
   simp only[go_sem,Qd1,ht2]
   refine Qt ?_
   simp only[go_sem,X.next,ht2]
   refine⟨Qs (by omega) (by omega),l.length-(i+1),by omega,i+1,t2,Lg2,rfl,by omega,?_,?_,rfl⟩
   ·rw[htk];have:Qav (l.take i++[p])=Qav (l.take i)++Qav [p]:=by simp[Qav]
    rw[this];exact hgr2
   ·exact Kn.drop (B:=[(x7,.st [.int .i64 p.op,.int .i64 p.to,.sl false 1 (Qb p.args),.int .i64 p.n])]) (kn.perm List.perm_append_comm)
  ·intro hc
   have hge:l.length≤i:=by simpa using hc
   rw[List.take_of_length_le hge]at hgr
   refine Q0 ?_
   simp only[go_sem,X.next]
   refine Qa ?_
   simp only[go_sem,htw]
   refine Qk ?_
   simp only[go_sem,Q3,Q9,Qhg,List.mem_singleton,forall_eq,RS.op,htw]
   exact⟨_,.c _ _ (hgr.frz kn (Qui _)),hK _ kn.fin⟩
def kRow (y:BlkD)(pc:C):List C:=[pc,.sl false 4 (Qav y.ins),.int .i64 y.jump,.int .i64 y.on,.sl false 1 (Qb y.next)]
structure BlkD.cl (y:BlkD):Prop where
 i:y.ins.length≤2 ^ 38
 p:y.phis.length≤2 ^ 38
 n:y.next.length≤LIM
 ia:∀x∈y.ins,x.args.length≤LIM
 pa:∀x∈y.phis,x.args.length≤LIM
structure KBlk where
 y:BlkD
 pc:C
 pl:List (Nat×Obj)
def KBlk.row (b:KBlk):List C:=kRow b.y b.pc
def KBlk.ok (b:KBlk):Prop:=Gr b.pl 2 (Qw b.y.phis) b.pc
theorem KBlk.noOw {b:KBlk}(h:b.ok):Go.AE.noOw b.row=true:=by
 have:=h.isOw
 simp only[Go.AE.noOw,KBlk.row,kRow,List.all_cons,List.all_nil,this];rfl
end Go.AE.Y

namespace Go.AE.Y
attribute [local go_sem] cond_true cond_false Bool.not_true Bool.not_false
open Go.Proofs.Tryz
variable {H H0 F:Heap}{K:V→Heap→Prop}{E L B pl:List (Nat×Obj)}
def keepK (ks:List Nat)(f:PhiD):Bool:=decide (f.to.toNat∈ks)
theorem Qa3v (l:List PhiD)(i:Nat)(x:PhiD):(Qw l).set i x.cells=Qw (l.set i x):=by simp[Qw,List.map_set]
end Go.AE.Y

namespace Go.AE.Y
open Go.Proofs.Tryz
attribute [local instance] Classical.propDecidable
variable {q:CodeD}
noncomputable def kpD (q:CodeD)(b:Nat):Nat→List InsD→List InsD
 |_,[]=>[]
 |k,x::l=>if Qbj4 q b k=true then kpD q b (k+1) l else x::kpD q b (k+1) l
theorem Qava {b:Nat}:∀{l:List InsD} {k:Nat},(kpD q b k l).Sublist l
 |[],_=>.slnil
 |x::l,k=>by
  rw[kpD]
  split
  ·exact (Qava).cons x
  ·exact (Qava).cons_cons x
noncomputable def kpP (q:CodeD)(b:Nat)(l:List PhiD):List PhiD:=l.filter fun f=>decide (f.to.toNat∈Qbbt q b 0)
noncomputable def Qbki (q:CodeD)(b:Nat)(y:BlkD):BlkD:={ y with phis:=kpP q b y.phis,ins:=kpD q b 0 y.ins }
noncomputable def Qh8 (q:CodeD):CodeD:={ q with blocks:=q.blocks.mapIdx (Qbki q) }
theorem Qa8x:(Qh8 q).blocks.length=q.blocks.length:=by simp[Qh8]
theorem Qbdv {b:Nat}(h:b<q.blocks.length)(h2:b<(Qh8 q).blocks.length):(Qh8 q).blocks[b]=Qbki q b q.blocks[b]:=by simp[Qh8]
structure Shr (c d:CodeD):Prop where
 pr:d.params=c.params
 rg:d.regs=c.regs
 bl:d.blocks.length=c.blocks.length
 j:∀b (h1:b<c.blocks.length) (h2:b<d.blocks.length),d.blocks[b].jump=c.blocks[b].jump∧d.blocks[b].on=c.blocks[b].on∧d.blocks[b].next=c.blocks[b].next∧d.blocks[b].ins.Sublist c.blocks[b].ins∧d.blocks[b].phis.Sublist c.blocks[b].phis
theorem Shr.refl (c:CodeD):Shr c c:=⟨rfl,rfl,rfl,fun b h1 h2=>⟨rfl,rfl,rfl,.refl _,.refl _⟩⟩
theorem Shr.trans {c d e:CodeD}(h:Shr c d)(k:Shr d e):Shr c e:=⟨k.pr.trans h.pr,k.rg.trans h.rg,k.bl.trans h.bl,fun b h1 h2=>by
 have hd:b<d.blocks.length:=by rw[h.bl];exact h1
 obtain⟨a1,a2,a3,a4,a5⟩:=h.j b h1 hd
 obtain⟨b1,b2,b3,b4,b5⟩:=k.j b hd h2
 exact⟨b1.trans a1,b2.trans a2,b3.trans a3,b4.trans a4,b5.trans a5⟩⟩
theorem Qbdw:Shr q (Qh8 q):=⟨rfl,rfl,Qa8x,fun b h1 h2=>by
 rw[Qbdv h1 h2]
 exact⟨rfl,rfl,rfl,Qava,List.filter_sublist⟩⟩
theorem Shr.next {c d:CodeD}(h:Shr c d):d.blocks.map BlkD.next=c.blocks.map BlkD.next:=List.ext_getElem (by simp[h.bl]) fun b h1 h2=>by
 simp only[List.length_map]at h1 h2
 simp only[List.getElem_map]
 exact (h.j b h2 h1).2.2.1
theorem Shr.gnx {c d:CodeD}(h:Shr c d):gnx d=gnx c:=by funext i;rw[Y.gnx,Y.gnx,h.next]
theorem Shr.cnt {c d:CodeD}(h:Shr c d):Q71 d≤Q71 c∧(Q71 d=Q71 c→∀b (h1:b<c.blocks.length) (h2:b<d.blocks.length),d.blocks[b].ins.length=c.blocks[b].ins.length∧d.blocks[b].phis.length=c.blocks[b].phis.length):=by
 have key:∀m,m≤c.blocks.length→Qjx Qyf (d.blocks.take m)≤Qjx Qyf (c.blocks.take m)∧(Qjx Qyf (d.blocks.take m)=Qjx Qyf (c.blocks.take m)→∀b,b<m→∀(h1:b<c.blocks.length) (h2:b<d.blocks.length),d.blocks[b].ins.length=c.blocks[b].ins.length∧d.blocks[b].phis.length=c.blocks[b].phis.length):=fun m=>by
  induction m with
  |zero=>intro _;exact⟨by simp[Qjx],fun _ b hb=>absurd hb (by omega)⟩
  |succ m ih=>
   intro hm
   obtain⟨i1,i2⟩:=ih (by omega)
   have hc:m<c.blocks.length:=by omega
   have hd:m<d.blocks.length:=by rw[h.bl];exact hc
   obtain⟨_,_,_,s1,s2⟩:=h.j m hc hd
   have l1:=s1.length_le
   have l2:=s2.length_le
   rw[Qc6 hc,Qc6 hd,Qyf,Qyf]
   refine⟨by omega,fun he b hb h1 h2=>?_⟩
   by_cases hbm:b=m
   ·subst hbm;exact⟨by omega,by omega⟩
   ·exact i2 (by omega) b (by omega) h1 h2
 obtain⟨k1,k2⟩:=key _ (Nat.le_refl _)
 have e1:d.blocks.take c.blocks.length=d.blocks:=by rw[←h.bl,List.take_length]
 have e2:c.blocks.take c.blocks.length=c.blocks:=List.take_length
 rw[e1,e2]at k1 k2
 exact⟨k1,fun he b h1 h2=>k2 he b h1 h1 h2⟩
theorem Qbbu {cs ds:List CodeD}{k b:Nat}{c d:CodeD}{y z:BlkD}(hr:rgOf ds k=rgOf cs k)(hp:∀n,pmOf ds n=pmOf cs n)(hcd:Shr c d)(hj:z.jump=y.jump∧z.on=y.on∧z.next=y.next∧z.ins.Sublist y.ins∧z.phis.Sublist y.phis)
  (g:Q44 cs k b c y=true):Q44 ds k b d z=true:=by
 obtain⟨j1,j2,j3,j4,j5⟩:=hj
 have hl:(Qr d.blocks).length=(Qr c.blocks).length:=by rw[Qq,Qq,hcd.bl]
 simp only[Q44,Bool.and_eq_true,List.all_eq_true]at g⊢
 obtain⟨⟨⟨gj,gn⟩,gi⟩,gp⟩:=g
 refine⟨⟨⟨?_,fun x hx=>?_⟩,fun x hx=>?_⟩,fun x hx=>?_⟩
 ·simpa only[Qol,j1,j2,j3,hcd.rg]using gj
 ·rw[hl];exact gn x (by rw[←j3];exact hx)
 ·have:=gi x (j4.subset hx)
  simp only[Q45,insL,hr,hp]at this⊢
  exact this
 ·have:=gp x (j5.subset hx)
  rw[hcd.rg,hcd.next,hl];exact this
theorem Qbfd {cs ds:List CodeD}(hg:Qbb cs=true)(hl:ds.length=cs.length)(h:∀k (h1:k<cs.length) (h2:k<ds.length),Shr cs[k] ds[k]):Qbb ds=true:=by
 obtain⟨h1,h2,h3⟩:=of_decide_eq_true hg
 have hr:∀k,rgOf ds k=rgOf cs k:=fun k=>by
  by_cases hk:k<cs.length
  ·rw[Q9p hk,Q9p (by omega),(h k hk (by omega)).rg]
  ·simp[rgOf,List.getElem?_eq_none (show cs.length≤k by omega),List.getElem?_eq_none (show ds.length≤k by omega)]
 have hp:∀k,pmOf ds k=pmOf cs k:=fun k=>by
  by_cases hk:k<cs.length
  ·rw[Q00 hk,Q00 (by omega),(h k hk (by omega)).pr]
  ·simp[pmOf,List.getElem?_eq_none (show cs.length≤k by omega),List.getElem?_eq_none (show ds.length≤k by omega)]
 refine decide_eq_true ⟨by omega,fun k hk=>?_,?_⟩
 ·have hc:k<cs.length:=by omega
  have s:=h k hc hk
  obtain⟨g1,g2⟩:=h2 k hc
  refine⟨by simpa only[Quq,s.pr,s.rg,s.bl]using g1,fun b hb=>?_⟩
  have hb':b<cs[k].blocks.length:=by rw[←s.bl];exact hb
  exact Qbbu (hr k) hp s (s.j b hb' hb) (g2 b hb')
 ·have key:∀m,m≤cs.length→Qjx Q71 (ds.take m)≤Qjx Q71 (cs.take m):=fun m=>by
   induction m with
   |zero=>intro _;simp[Qjx]
   |succ m ih=>
    intro hm
    have i1:=ih (by omega)
    have hc:m<cs.length:=by omega
    have hd:m<ds.length:=by omega
    rw[Qc6 hc,Qc6 hd]
    have:=(h m hc hd).cnt.1
    omega
  have:=key _ (Nat.le_refl _)
  have e1:ds.take cs.length=ds:=by rw[←hl,List.take_length]
  rw[e1,List.take_length]at this
  omega
def flI (x:InsD):Option Nat×List Nat:=(Qap3 x,toN x.args)
theorem Qavw {d:CodeD}(h:Qh8 d=d):∀n,Nat.repeat Qh8 n d=d
 |0=>rfl
 |n+1=>by rw[Nat.repeat,Qavw h n,h]
theorem Qavv (q:CodeD):∀n m,Nat.repeat Qh8 (m+n) q=Nat.repeat Qh8 m (Nat.repeat Qh8 n q)
 |n,0=>by rw[Nat.zero_add];rfl
 |n,m+1=>by rw[Nat.succ_add,Nat.repeat,Qavv q n m];rfl
theorem Qbd5 {n m:Nat}(h1:Qh8 (Nat.repeat Qh8 n q)=Nat.repeat Qh8 n q)(h2:Qh8 (Nat.repeat Qh8 m q)=Nat.repeat Qh8 m q):Nat.repeat Qh8 n q=Nat.repeat Qh8 m q:=by
 have a:=Qavv q n m
 have b:=Qavv q m n
 rw[Qavw h1 m]at a
 rw[Qavw h2 n]at b
 rw[←a,←b,Nat.add_comm]
theorem Shr.ok {c d:CodeD}(s:Shr c d)(ho:c.ok):d.ok:=by
 have hg:=s.gnx
 refine⟨by rw[s.rg];exact ho.r0,by rw[s.rg];exact ho.r1,by rw[s.bl];exact ho.b0,by rw[s.bl];exact ho.b1,fun b hb=>?_,fun b hb=>?_⟩
 ·have hb':b<c.blocks.length:=by rw[←s.bl];exact hb
  obtain⟨g1,g2,g3,g4,g5⟩:=s.j b hb' hb
  have o:=ho.bs b hb'
  have rr:∀v,rIn c v→rIn d v:=fun v hv=>by simp only[rIn,s.rg]at hv⊢;exact hv
  refine⟨by rw[g3];exact o.nxl,fun v hv=>?_,by rw[g1];exact o.jmp,fun hj=>?_,fun x hx v hv=>rr _ (o.args x (g4.subset hx) v hv),fun x hx hm=>rr _ (o.to x (g4.subset hx) hm),
   fun x hx=>rr _ (o.pto x (g5.subset hx)),fun x hx v hv=>rr _ (o.pargs x (g5.subset hx) v hv),fun x hx=>?_,fun x hx=>o.al x (g4.subset hx)⟩
  ·rw[g3]at hv;rw[s.bl];exact o.nx v hv
  ·rw[g1]at hj;rw[g2];exact rr _ (o.on hj)
  ·rw[hg,s.bl];exact o.pal x (g5.subset hx)
 ·have hb':b<c.blocks.length:=by rw[←s.bl];exact hb
  obtain⟨g1,g2,g3,g4,g5⟩:=s.j b hb' hb
  have o:=ho.il b hb'
  have:=g4.length_le
  have:=g5.length_le
  omega
def Idl (q d:CodeD):Prop:=∃n,d=Nat.repeat Qh8 n q∧Qh8 d=d
theorem Idl.uniq {d e:CodeD}(h:Idl q d)(k:Idl q e):d=e:=by
 obtain⟨n,rfl,h1⟩:=h
 obtain⟨m,rfl,h2⟩:=k
 exact Qbd5 h1 h2
theorem Qa89:∀n,Shr q (Nat.repeat Qh8 n q)
 |0=>.refl q
 |n+1=>(Qa89 n).trans Qbdw
theorem Idl.shr {d:CodeD}(h:Idl q d):Shr q d:=by
 obtain⟨n,rfl,_⟩:=h
 exact Qa89 n
theorem Idl.again {d:CodeD}(h:Idl q d):Idl d d:=⟨0,rfl,h.choose_spec.2⟩
end Go.AE.Y

namespace Go.AE
variable {H0 H H':Heap}{E L B Lg:List (Nat×Obj)}
end Go.AE
namespace Go.AE.Y
attribute [local go_sem] cond_true cond_false Bool.not_true Bool.not_false
open Go.Proofs.Tryz
variable {H H0 F:Heap}{K:V→Heap→Prop}{E L B:List (Nat×Obj)}{q:CodeD}
structure DBlk where
 y:BlkD
 pc:C
 pl:List (Nat×Obj)
 ic:C
 il:List (Nat×Obj)
def DBlk.row (d:DBlk):List C:=[d.pc,d.ic,.int .i64 d.y.jump,.int .i64 d.y.on,.sl false 1 (Qb d.y.next)]
def DBlk.lg (d:DBlk):List (Nat×Obj):=d.pl++d.il
structure DBlk.ok (d:DBlk):Prop where
 p:Gw d.pl 2 (Qw d.y.phis) d.pc
 i:Gr d.il 4 (Qav d.y.ins) d.ic
theorem Gw.frzM {Lg:List (Nat×Obj)}{S:Nat→Bool}{sz:Nat}{rows:List (List C)}{c:C}(h:Gw Lg sz rows c)(hm:∀p∈Lg,H p.1=p.2∧S p.1=true)(hr:∀r∈rows,noOw r=true):FrzC H S c (.sl false sz rows):=by
 rcases h with ⟨rfl,rfl,_⟩|⟨y,R,rfl,rfl,hR⟩
 ·exact FrzR.nil.sl
 ·have hle:rows.length≤R.length:=by
   have:=congrArg List.length hR
   rw[List.length_take]at this
   omega
  obtain⟨h1,h2⟩:=hm (y,.vec sz R) (by simp)
  have h:=FrzR.same (H:=H) (S:=S) hr
  exact .vsl y sz 0 _ R rows rows h2 h1 (by omega) (by simpa using hR.symm) h.spec.1 (fun i r r' h1 h2=>(h.spec.2 i r r' h1 h2).spec.1) fun i r r' j c c' h1 h2 h3 h4=>(h.spec.2 i r r' h1 h2).spec.2 j c c' h3 h4
theorem DBlk.frzR {S:Nat→Bool}:∀{ds:List DBlk},(∀d∈ds,d.ok)→(∀d∈ds,∀p∈d.lg,H p.1=p.2∧S p.1=true)→FrzR H S (ds.map DBlk.row) (Qr (ds.map DBlk.y))
 |[],_,_=>.nil
 |d::ds,h,hm=>.cons (.cons ((h d List.mem_cons_self).p.frzM (fun p hp=>hm d List.mem_cons_self p (List.mem_append_left _ hp)) (Ql0 _))
   (.cons (Gr.frzM (h d List.mem_cons_self).i (fun p hp=>hm d List.mem_cons_self p (List.mem_append_right _ hp)) (FrzR.same (Qui _)))
   (.cons (Qf rfl) (.cons (Qf rfl) (.cons (Qau6 (noOw_mem (Qo _))) .nil)))))
   (DBlk.frzR (fun d hd=>h d (List.mem_cons_of_mem _ hd)) fun d hd=>hm d (List.mem_cons_of_mem _ hd))
theorem CodeD.ok.fts (h:q.ok):q.fits:=fun y hy=>by
 obtain⟨b,hb,rfl⟩:=List.mem_iff_getElem.1 hy
 have:=h.il b hb
 omega
theorem CodeD.ok.cl (h:q.ok):∀y∈q.blocks,y.cl:=fun y hy=>by
 obtain⟨b,hb,rfl⟩:=List.mem_iff_getElem.1 hy
 have h1:=h.il b hb
 have h2:=h.bs b hb
 have h3:=h2.nxl
 have h4:=h.b1
 refine⟨by omega,by omega,by simp only[LIM];omega,fun x hx=>?_,fun x hx=>?_⟩
 ·have:=h2.al x hx;simp only[LIM];omega
 ·have:=h2.pal x hx
  have h5:=Qbq (gnx q) (b:Int) q.blocks.length
  simp only[LIM];omega
end Go.AE.Y

namespace Go.AE
variable {H0 H H':Heap}{E L B Lg:List (Nat×Obj)}{S:Nat→Bool}
theorem Kn.freeze0 (kn:Kn H0 H E (B++Lg)):∃S:Nat→Bool,(∀p∈Lg,H p.1=p.2∧S p.1=true)∧(∀p∈B,H p.1=p.2∧S p.1=false)∧FrzH H S (H.frz S)∧Kn H0 (H.frz S) E B:=by
 have hd:=kn.dL
 rw[List.map_append]at hd
 obtain⟨d1,d2,d3⟩:=List.nodup_append.1 hd
 have keyB:∀m,m∉Lg.map Prod.fst→(Lg.map Prod.fst).contains m=false:=fun m hm=>by
  cases hc:(Lg.map Prod.fst).contains m with
  |false=>rfl
  |true=>exact absurd (List.contains_iff_mem.1 hc) hm
 have key:∀m,m∉Lg.map Prod.fst→(H.frz fun m=>(Lg.map Prod.fst).contains m) m=H m:=fun m hm=>by
  simp only[Heap.frz,keyB m hm];rfl
 have hB:∀p∈B,p.1∉Lg.map Prod.fst:=fun p hp hh=>d3 _ (Qbw hp) _ hh rfl
 refine⟨fun m=>(Lg.map Prod.fst).contains m,fun p hp=>⟨(kn.get p (List.mem_append_right _ (List.mem_append_right _ hp))).1,List.contains_iff_mem.2 (Qbw hp)⟩,
  fun p hp=>⟨(kn.get p (List.mem_append_right _ (List.mem_append_left _ hp))).1,keyB _ (hB p hp)⟩,Qc8 _ _,?_⟩
 refine⟨fun p hp=>?_,kn.ext,fun p hp=>kn.loc p (List.mem_append_left _ hp),kn.dE,d1,fun m hm hx=>?_⟩
 ·have hg:H p.1=p.2∧p.2≠.none:=kn.get p (by
   rcases List.mem_append.1 hp with h|h
   ·exact List.mem_append_left _ h
   ·exact List.mem_append_right _ (List.mem_append_left _ h))
  refine⟨?_,hg.2⟩
  rw[key p.1 (fun hh=>?_)];exact hg.1
  rcases List.mem_append.1 hp with h|h
  ·obtain⟨r,hr,he⟩:=List.mem_map.1 hh
   exact kn.ext p h (he▸kn.loc r (List.mem_append_right _ hr))
  ·exact hB p h hh
 ·rw[key m (fun hh=>?_)]
  ·exact kn.chg m hm hx
  ·obtain⟨r,hr,he⟩:=List.mem_map.1 hh
   exact hm (he▸kn.loc r (List.mem_append_right _ hr))
theorem Q0r {e e':Env}(h:∀p∈e',FrzV H S (lk p.1 e) p.2):∀t,FrzV H S (lk t e) (lk t e'):=fun t=>by
 induction e' with
 |nil=>exact .unk _
 |cons p e' ih=>
  obtain⟨s,v⟩:=p
  by_cases ht:t=s
  ·subst ht
   have:=h (t,v) List.mem_cons_self
   simpa[lk]using this
  ·have:=ih fun p hp=>h p (List.mem_cons_of_mem _ hp)
   simpa[lk,ht]using this
theorem FrzO.vecR {sz:Nat}{rows rows':List (List C)}(h:Y.FrzR H S rows rows')(hn:∀r∈rows,noOw r=true):FrzO H S (.vec sz rows) (.vec sz rows'):=by
 refine .vec sz rows rows' h.spec.1 (fun i r r' h1 h2=>(h.spec.2 i r r' h1 h2).spec.1) fun i r r' j c c' h1 h2 h3 h4=>.inr ⟨?_,(h.spec.2 i r r' h1 h2).spec.2 j c c' h3 h4⟩
 exact Y.noOw_mem hn r (List.mem_of_getElem? h1) c (List.mem_of_getElem? h3)
end Go.AE
namespace Go.AE.Y
variable {H H0:Heap}{E L R B Lg:List (Nat×Obj)}{S:Nat→Bool}
theorem Qgj {α:Type}{f g:α→List C}:∀(l:List α),(∀x∈l,FrzL H S (f x) (g x))→FrzR H S (l.map f) (l.map g)
 |[],_=>.nil
 |x::l,h=>.cons (h x List.mem_cons_self) (Qgj l fun y hy=>h y (List.mem_cons_of_mem _ hy))
theorem Qa08 {is:List OIns}(h:Held H S (is.flatMap OIns.lg)):FrzR H S (is.map OIns.row) (Qav (is.map OIns.d)):=by
 rw[Qav,List.map_map]
 exact Qgj is fun x hx=>x.frz (h.m hx)
theorem Qap8 {ph:List OPhi}(ho:∀p∈ph,p.ok)(h:Held H S (ph.flatMap OPhi.lg)):FrzR H S (ph.map OPhi.row) (Qw (ph.map OPhi.d)):=by
 rw[Qw,List.map_map]
 exact Qgj ph fun x hx=>x.frz (ho x hx) (h.m hx)
theorem OBlk.gh {o:OBlk}(hok:o.ok){x8:Nat}(kn:Kn H0 H E ([(x8,.st o.row)]++(R++o.lg))) :
  ∃S H3 pl,FrzH H S H3∧Gr pl 2 (Qw o.d.phis) o.pc∧Kn H0 H3 E ([(x8,.st (kRow o.d o.pc))]++(R++pl)):=by
 have kn:Kn H0 H E (([(x8,.st o.row)]++(o.pl++R))++(o.nx.lg++(o.phis.flatMap OPhi.lg++(o.ins.flatMap OIns.lg++o.il)))):=kn.perm (Qj fun f hf h0 hc hp=>by
  simp only[hf,OBlk.lg];omega)
 obtain⟨S,hS,hB,hfz,kn⟩:=kn.freeze0
 have hHd:Held H S (o.nx.lg++(o.phis.flatMap OPhi.lg++(o.ins.flatMap OIns.lg++o.il))):=hS
 have hic:=Gr.frzM hok.i hHd.r.r.r (Qa08 hHd.r.r.l)
 have hph:=Qap8 hok.a hHd.r.l
 have hnx:=o.nx.frz hHd.l
 have hx8:=hB (x8,.st o.row) (by simp)
 have f1:FrzH H S ((H.frz S).set x8 (.st (kRow o.d o.pc))):=hfz.set hx8.2 (by
  rw[hx8.1]
  exact FrzKL.st (.same (.cons hok.i.isOw hic (.same (.same (.cons rfl hnx .nil))))))
 have kn:=kn.setL (o':=.st (kRow o.d o.pc)) 0 rfl (by simp)
 have kn:Kn H0 ((H.frz S).set x8 (.st (kRow o.d o.pc))) E ([(x8,.st (kRow o.d o.pc))]++(o.pl++R)):=kn
 rcases hok.p with ⟨h1,h2,h3⟩|⟨z,h1,h2⟩
 ·have hph0:o.phis=[]:=List.map_eq_nil_iff.1 h2
  refine⟨S,_,[],f1,?_,by rw[h3]at kn;simpa using kn⟩
  rw[h1];simp only[OBlk.d,hph0,List.map_nil];exact .nil 2
 ·rw[h2]at kn
  have hz:=hB (z,.vec 2 (o.phis.map OPhi.row)) (by rw[h2];simp)
  have hno:∀r∈o.phis.map OPhi.row,Go.AE.noOw r=true:=fun r hr=>by
   obtain⟨p,hp,rfl⟩:=List.mem_map.1 hr
   exact p.noOw (hok.a p hp)
  refine⟨S,_,[(z,.vec 2 (Qw o.d.phis))],f1.set (o:=.vec 2 (Qw o.d.phis)) hz.2 (by rw[hz.1];exact .vecR hph hno),?_,?_⟩
  ·rw[h1];exact .mk _ _ _ (by simp[OBlk.d,Qv])
  ·have kn:=kn.setL (o':=.vec 2 (Qw o.d.phis)) 1 rfl (by simp)
   exact kn.perm (Qj fun f hf h0 hc hp=>by
    show f ([(x8,_)]++([(z,_)]++R))=_
    simp only[hf];omega)
def Qah (q:CodeD)(b:Nat):BlkD:=q.blocks.getD b ⟨[],[],0,0,[]⟩
theorem Qbh {q:CodeD}{b:Nat}(h:b<q.blocks.length):Qah q b=q.blocks[b]:=by simp[Qah,List.getD_eq_getElem?_getD,h]
theorem Qa07 {q:CodeD}{b:Nat}(h:b<q.blocks.length):gnx q b=(Qah q b).next:=by rw[Qbh h,Qpw h]
structure Pk (q:CodeD)(l:List Nat):Prop where
 n:l.length≤160
 z:l[0]? = some 0
 lt:∀x∈l,x<q.blocks.length
 cl:∀x∈l,∀v∈gnx q x,v.toNat∈l
def pkY (q:CodeD)(P:List Int)(b:Nat):BlkD:=⟨(Qah q b).phis,(Qah q b).ins,(Qah q b).jump,(Qah q b).on,(Qah q b).next.map fun v=>P.getD v.toNat 0⟩
def pkN (q:CodeD)(P:List Int)(l:List Nat):Nat→List Int:=fun i=>(l.map fun b=>(pkY q P b).next).getD i []
structure PkB (q:CodeD)(P:List Int)(b:Nat)(y:BlkD):Prop where
 j:y.jump=(Qah q b).jump
 o:y.on=(Qah q b).on
 i:y.ins=(Qah q b).ins
 n:y.next=(pkY q P b).next
 t:y.phis.map PhiD.to=(Qah q b).phis.map PhiD.to
def PkA (q:CodeD)(P:List Int)(l:List Nat)(j:Nat)(p:PhiD):Prop:=p.args.length=(Q1 (pkN q P l) (j:Int) l.length).length∧∀v∈p.args,rIn q v
structure PkR (q d:CodeD):Prop where
 ok:d.ok
 p:d.params=q.params
 r:d.regs=q.regs
 i:∀y∈d.blocks,∃y0∈q.blocks,y.ins=y0.ins∧y.phis.length=y0.phis.length
variable {q:CodeD}{P:List Int}{l:List Nat}
theorem Pk.get (hp:Pk q l){j:Nat}(hj:j<l.length):l.getD j 0=l[j]∧l[j]∈l∧l[j]<q.blocks.length:=
 ⟨by simp[List.getD_eq_getElem?_getD,hj],List.getElem_mem hj,hp.lt _ (List.getElem_mem hj)⟩
theorem Pk.to (ho:q.ok)(hp:Pk q l)(hP:Qblo q.blocks.length l P){b:Nat}(hb:b∈l){w:Int}(hw:w∈(Qah q b).next):1≤w∧w.toNat<P.length∧∃i,∃h:i<l.length,l[i]=w.toNat∧P.getD w.toNat 0=(i:Int)∧1≤i:=by
 have hlt:=hp.lt b hb
 have h1:1≤w∧w<q.blocks.length:=by
  rw[Qbh hlt]at hw
  exact (ho.bs b hlt).nx w hw
 have h2:=hp.cl b hb w (by rw[Qa07 hlt];exact hw)
 obtain⟨i,hi,h3,h4⟩:=hP.2 _ h2
 refine⟨h1.1,by rw[hP.1];exact hp.lt _ h2,i,hi,h3,h4,?_⟩
 have hz:=hp.z
 by_cases h0:i=0
 ·subst h0
  rw[List.getElem?_eq_getElem hi,h3]at hz
  have:=Option.some.inj hz
  omega
 ·omega
theorem CodeD.ok.sg (h:q.ok):q.sg:=⟨by have:=h.b1;omega,fun y hy=>by
 obtain⟨b,hb,rfl⟩:=List.mem_iff_getElem.1 hy
 have h1:=h.il b hb
 have h2:=h.bs b hb
 have h3:=h2.nxl
 have h4:=h.b1
 refine⟨by omega,by omega,by omega,fun x hx=>by have:=h2.al x hx;omega,fun x hx=>?_⟩
 have:=h2.pal x hx
 have h5:=Qbq (gnx q) (b:Int) q.blocks.length
 omega⟩
end Go.AE.Y

namespace Go.AE.Y
structure Fr where
 k:Nat
 b:Nat
 todo:List InsD
 regs:List Int
inductive Cf where
 |go (fs:List Fr) (s c:List Int)
 |dn (e v:Int) (s c:List Int)
def Qu (cs:List CodeD)(k:Nat):CodeD:=cs.getD k ⟨0,0,[]⟩
def rg (R:List Int)(r:Int):Int:=R.getD r.toNat 0
def ar (R:List Int)(x:InsD)(i:Nat):Int:=rg R (x.args.getD i 0)
def trI (b:Prop) [Decidable b]:Int:=if b then 1 else 0
def arR (op a b:Int):Option Int:=
 if op=3 then some ((a+b) % 256)else if op=4 then some ((a-b+256) % 256)else if op=5 then some (a * b % 256)
 else if op=6 then (if b=0 then none else some (a / b))else if op=7 then (if b=0 then none else some (a % b))
 else if op=8 then some (trI (a<b))else if op=9 then some (trI (a=b))else some (trI (a=0))
def Q9o (q:CodeD)(l:List Int):List Int:=l++List.replicate (q.regs.toNat-l.length) 0
def fr0 (cs:List CodeD)(k:Nat)(l:List Int):Fr:=⟨k,0,(Qah (Qu cs k) 0).ins,Q9o (Qu cs k) l⟩
def wayI (q:CodeD)(b a:Nat):Nat:=(Q1 (gnx q) (b:Int) q.blocks.length).idxOf (a:Int)
def Qz9 (R:List Int)(w:Nat)(p:PhiD):Int:=rg R (p.args.getD w 0)
def phiR (R:List Int)(w:Nat)(l:List PhiD):List Int:=l.foldl (fun T p=>T.set p.to.toNat (Qz9 R w p)) R
def ixB (y:BlkD)(R:List Int):Nat:=if y.jump=2∧rg R y.on=0 then 1 else 0
def nxB (y:BlkD)(R:List Int):Nat:=(y.next.getD (ixB y R) 0).toNat
def rtn (v:Int):List Fr→List Int→List Int→Cf
 |[],s,c=>.dn 0 v s c
 |f::fs,s,c=>match f.todo with
  |[]=>.go (f::fs) s c
  |x::t=>.go (⟨f.k,f.b,t,f.regs.set x.to.toNat v⟩::fs) s c
def stI (cs:List CodeD)(k b:Nat)(x:InsD)(t:List InsD)(R:List Int)(fs:List Fr)(s c:List Int):Cf:=
 let w:=fun v=>Cf.go (⟨k,b,t,R.set x.to.toNat v⟩::fs) s c
 if x.op=1 then w x.n
 else if x.op=11 then (if 16≤ar R x 0 then .dn 2 0 s c else w (rg c (ar R x 0)))
 else if x.op=12 then (if 16≤ar R x 0 then .dn 2 0 s c else .go (⟨k,b,t,R⟩::fs) s (c.set (ar R x 0).toNat (ar R x 1)))
 else if x.op=13 then .go (⟨k,b,t,R⟩::fs) (s++[ar R x 0]) c
 else if x.op=14 then .go (fr0 cs x.n.toNat (x.args.map (rg R))::⟨k,b,x::t,R⟩::fs) s c
 else if x.op=2 then w (ar R x 0)
 else match arR x.op (ar R x 0) (ar R x 1)with
  |none=>.dn 1 0 s c
  |some v=>w v
def frJ (cs:List CodeD)(k b:Nat)(R:List Int)(n:Nat):Fr:=
 ⟨k,n,(Qah (Qu cs k) n).ins,phiR R (wayI (Qu cs k) n b) (Qah (Qu cs k) n).phis⟩
def stJ (cs:List CodeD)(k b:Nat)(R:List Int)(fs:List Fr)(s c:List Int):Cf:=
 let y:=Qah (Qu cs k) b
 if y.jump=3 then rtn (rg R y.on) fs s c else .go (frJ cs k b R (nxB y R)::fs) s c
def step (cs:List CodeD):Cf→Cf
 |.go (⟨k,b,x::t,R⟩::fs) s c=>stI cs k b x t R fs s c
 |.go (⟨k,b,[],R⟩::fs) s c=>stJ cs k b R fs s c
 |.go [] s c=>.go [] s c
 |.dn e v s c=>.dn e v s c
def Qms (cs:List CodeD):Nat→Cf→Cf
 |0,x=>x
 |n+1,x=>Qms cs n (step cs x)
theorem Qlf (cs:List CodeD):∀(n m:Nat) (x:Cf),Qms cs (n+m) x=Qms cs m (Qms cs n x)
 |0,m,x=>by rw[Nat.zero_add];rfl
 |n+1,m,x=>by rw[Nat.add_right_comm];exact Qlf cs n m (step cs x)
theorem Qa18 (cs:List CodeD)(e v:Int)(s c:List Int):∀n,Qms cs n (.dn e v s c)=.dn e v s c
 |0=>rfl
 |n+1=>Qa18 cs e v s c n
theorem Qaop (cs:List CodeD){n m:Nat}{x:Cf}{e v:Int}{s c:List Int}(h:Qms cs n x=.dn e v s c)(hm:n≤m):Qms cs m x=.dn e v s c:=by
 obtain⟨d,rfl⟩:=Nat.exists_eq_add_of_le hm
 rw[Qlf,h,Qa18]
def Qa0y:List Int:=List.replicate 16 0
def cf0 (cs:List CodeD)(l:List Int):Cf:=.go [fr0 cs (cs.length-1) l] [] Qa0y
def outR (cs:List CodeD)(l:List Int)(S:Nat):Int×Int×List Int×List Int:=match Qms cs S (cf0 cs l)with
 |.dn e v s c=>(e,v,s,c)
 |.go _ s c=>(3,0,s,c)
def Qaum (cs cs':List CodeD)(l:List Int)(S:Nat):Prop:=(outR cs l S).1=3∨outR cs l S=outR cs' l 60000
theorem sim {cs cs':List CodeD}{R:Cf→Cf→Prop}{B:Nat}(hs:∀x x',R x x'→∃m,m≤B∧R (step cs x) (Qms cs' m x'))
  : ∀(n:Nat) {x x':Cf},R x x'→∃m,m≤n * B∧R (Qms cs n x) (Qms cs' m x')
 |0,x,x',h=>⟨0,by omega,h⟩
 |n+1,x,x',h=>by
  obtain⟨m,h1,h2⟩:=hs x x' h
  obtain⟨m2,h3,h4⟩:=sim hs n h2
  refine⟨m+m2,by rw[Nat.add_mul];omega,?_⟩
  rw[Qlf cs' m m2]
  exact h4
theorem Qbim {cs cs':List CodeD}{R:Cf→Cf→Prop}{B S:Nat}{l:List Int}(hs:∀x x',R x x'→∃m,m≤B∧R (step cs x) (Qms cs' m x'))
  (hd:∀e v s c x',R (.dn e v s c) x'→x'=.dn e v s c) (hB:S * B≤60000) (h0:R (cf0 cs l) (cf0 cs' l)):Qaum cs cs' l S:=by
 obtain⟨m,h1,h2⟩:=sim hs S h0
 rw[Qaum]
 cases hx:Qms cs S (cf0 cs l)with
 |go fs s c=>exact .inl (by rw[outR,hx])
 |dn e v s c=>
  right
  rw[hx]at h2
  have:=Qaop cs' (hd _ _ _ _ _ h2) (Nat.le_trans h1 hB)
  rw[outR,outR,hx,this]
structure Fr.ok (cs:List CodeD)(f:Fr):Prop where
 k:f.k<cs.length
 b:f.b<(Qu cs f.k).blocks.length
 t:∃p,(Qah (Qu cs f.k) f.b).ins=p++f.todo
 r:f.regs.length=(Qu cs f.k).regs.toNat
theorem Qcg {cs:List CodeD}{k:Nat}(h:k<cs.length):Qu cs k=cs[k]:=by simp[Qu,List.getD_eq_getElem?_getD,h]
theorem Qa15 {v:PhiD→Int}:∀(l:List PhiD) (T:List Int),(l.foldl (fun T p=>T.set p.to.toNat (v p)) T).length=T.length
 |[],T=>rfl
 |p::l,T=>by rw[List.foldl_cons,Qa15 l,List.length_set]
theorem Qbd2 {R:List Int}{w w':Nat}{g:PhiD→PhiD}:∀{l:List PhiD},(∀p∈l,(g p).to=p.to∧Qz9 R w' (g p)=Qz9 R w p)→phiR R w' (l.map g)=phiR R w l:=by
 intro l h
 rw[phiR,phiR,List.foldl_map]
 have:∀(l:List PhiD) (T:List Int),(∀p∈l,(g p).to=p.to∧Qz9 R w' (g p)=Qz9 R w p)→l.foldl (fun T p=>T.set (g p).to.toNat (Qz9 R w' (g p))) T=l.foldl (fun T p=>T.set p.to.toNat (Qz9 R w p)) T:=by
  intro l
  induction l with
  |nil=>intro T _;rfl
  |cons p l ih=>
   intro T h
   obtain⟨h1,h2⟩:=h p (by simp)
   rw[List.foldl_cons,List.foldl_cons,h1,h2]
   exact ih _ fun p hp=>h p (by simp[hp])
 exact this l R h
inductive RelF (RF:Fr→Fr→Prop):List Fr→List Fr→Prop where
 |nil:RelF RF [] []
 |cons {f f':Fr} {fs fs':List Fr}:RF f f'∧f.todo≠[]→RelF RF fs fs'→RelF RF (f::fs) (f'::fs')
inductive RelC (RF:Fr→Fr→Prop):Cf→Cf→Prop where
 |dn (e v:Int) (s c:List Int):RelC RF (.dn e v s c) (.dn e v s c)
 |go {f f':Fr} {fs fs':List Fr} (s c:List Int):RF f f'→RelF RF fs fs'→RelC RF (.go (f::fs) s c) (.go (f'::fs') s c)
structure InsS (cs cs':List CodeD)(RF:Fr→Fr→Prop)(x x':InsD):Prop where
 op:x'.op=x.op
 to:x'.to=x.to
 args:x'.args=x.args
 n:x.op=1→x'.n=x.n
 call:x.op=14→∀l,l.length=x.args.length→RF (fr0 cs x.n.toNat l) (fr0 cs' x'.n.toNat l)
structure SimR (cs cs':List CodeD)(RF:Fr→Fr→Prop)(B:Nat):Prop where
 b:1≤B
 ins:∀k b x t R f',RF ⟨k,b,x::t,R⟩ f'→∃k' b' x' t',f'=⟨k',b',x'::t',R⟩∧InsS cs cs' RF x x'∧∀R',R'.length=R.length→RF ⟨k,b,t,R'⟩ ⟨k',b',t',R'⟩
 jump:∀k b R f' fs fs' s c,RF ⟨k,b,[],R⟩ f'→RelF RF fs fs'→∃m,m≤B∧RelC RF (stJ cs k b R fs s c) (Qms cs' m (.go (f'::fs') s c))
theorem SimR.rtnF {RF:Fr→Fr→Prop}{v:Int}{fs fs':List Fr}{s c:List Int}(hf:RelF RF fs fs')
  (h:∀k b x t R f',RF ⟨k,b,x::t,R⟩ f'→∃k' b' x' t',f'=⟨k',b',x'::t',R⟩∧x'.to=x.to∧∀R',R'.length=R.length→RF ⟨k,b,t,R'⟩ ⟨k',b',t',R'⟩):RelC RF (rtn v fs s c) (rtn v fs' s c):=by
 cases hf with
 |nil=>exact .dn ..
 |cons h1 h2=>
  rename_i f f' fs fs'
  obtain⟨h1,h3⟩:=h1
  obtain⟨k,b,t,R⟩:=f
  cases t with
  |nil=>exact absurd rfl h3
  |cons x t=>
   obtain⟨k',b',x',t',rfl,hx,hr⟩:=h _ _ _ _ _ _ h1
   show RelC RF (.go (⟨k,b,t,R.set x.to.toNat v⟩::fs) s c) (.go (⟨k',b',t',R.set x'.to.toNat v⟩::fs') s c)
   rw[hx]
   exact .go s c (hr _ (by simp)) h2
theorem SimR.one {cs cs':List CodeD}{RF:Fr→Fr→Prop}{B:Nat}(h:SimR cs cs' RF B)(x x':Cf)(hx:RelC RF x x'):∃m,m≤B∧RelC RF (step cs x) (Qms cs' m x'):=by
 cases hx with
 |dn e v s c=>exact⟨0,by omega,.dn ..⟩
 |go s c h1 h2=>
  rename_i f f' fs fs'
  obtain⟨k,b,t,R⟩:=f
  cases t with
  |nil=>exact h.jump _ _ _ _ _ _ _ _ h1 h2
  |cons x t=>
   obtain⟨k',b',x',t',rfl,hx,hr⟩:=h.ins _ _ _ _ _ _ h1
   refine⟨1,h.b,?_⟩
   show RelC RF (stI cs k b x t R fs s c) (stI cs' k' b' x' t' R fs' s c)
   have ha:∀i,ar R x' i=ar R x i:=fun i=>by rw[ar,ar,hx.args]
   rw[stI,stI]
   simp only[ha,hx.op,hx.to,hx.args]
   split
   ·rename_i h1'
    rw[hx.n h1'];exact .go s c (hr _ (by simp)) h2
   ·split
    ·split
     ·exact .dn ..
     ·exact .go s c (hr _ (by simp)) h2
    ·split
     ·split
      ·exact .dn ..
      ·exact .go _ _ (hr _ rfl) h2
     ·split
      ·exact .go _ _ (hr _ rfl) h2
      ·split
       ·rename_i h14
        exact .go s c (hx.call h14 _ (by simp)) (.cons ⟨h1,by simp⟩ h2)
       ·split
        ·exact .go s c (hr _ (by simp)) h2
        ·split
         ·exact .dn ..
         ·exact .go s c (hr _ (by simp)) h2
theorem SimR.same {cs cs':List CodeD}{RF:Fr→Fr→Prop}{B S:Nat}{l:List Int}(h:SimR cs cs' RF B)(hB:S * B≤60000)(h0:RF (fr0 cs (cs.length-1) l) (fr0 cs' (cs'.length-1) l)):Qaum cs cs' l S:=
 Qbim (R:=RelC RF) h.one (fun e v s c x' hx=>by cases hx;rfl) hB (.go _ _ h0 .nil)
theorem Qaku {cs:List CodeD}{k b:Nat}{R:List Int}{fs:List Fr}{s c:List Int}(h:¬(Qah (Qu cs k) b).jump=3):stJ cs k b R fs s c=.go (frJ cs k b R (nxB (Qah (Qu cs k) b) R)::fs) s c:=by rw[stJ];simp only[h,if_false]
theorem Qba4 {cs:List CodeD}{k b:Nat}{R:List Int}{fs:List Fr}{s c:List Int}(h:(Qah (Qu cs k) b).jump=3):stJ cs k b R fs s c=rtn (rg R (Qah (Qu cs k) b).on) fs s c:=by rw[stJ];simp only[h,if_true]
theorem Qa87 {q:CodeD}{l:List Int}(h:l.length≤q.regs.toNat):(Q9o q l).length=q.regs.toNat:=by rw[Q9o];simp;omega
structure RunOk (cs:List CodeD):Prop where
 n:0<cs.length
 ok:∀k (h:k<cs.length),(Qu cs k).ok
 jn:∀k b,k<cs.length→b<(Qu cs k).blocks.length→((Qah (Qu cs k) b).next.length:Int)=Qj9 (Qah (Qu cs k) b).jump
 call:∀k b,k<cs.length→∀x∈(Qah (Qu cs k) b).ins,x.op=14→x.n.toNat<k
 op:∀k b,k<cs.length→∀x∈(Qah (Qu cs k) b).ins,1≤x.op∧x.op≤14∧(¬x.op=14→(x.args.length:Int)=Qgx x.op)
attribute [local instance] Classical.propDecidable in
theorem Qa2g {cs:List CodeD}(h:Qbb cs=true):RunOk cs:=by
 obtain⟨h1,h2,h3⟩:=of_decide_eq_true h
 refine⟨by omega,fun k hk=>by rw[Qcg hk];exact Qaor h hk,fun k b hk hb=>?_,fun k b hk x hx h14=>?_,fun k b hk x hx=>?_⟩
 ·rw[Qcg hk]at hb⊢
  have g:=(h2 k hk).2 b hb
  simp only[Q44,Qol,Bool.and_eq_true,decide_eq_true_eq]at g
  rw[Qbh hb]
  exact g.1.1.1.1
 ·rw[Qcg hk]at hx
  by_cases hb:b<cs[k].blocks.length
  ·rw[Qbh hb]at hx
   have g:=(h2 k hk).2 b hb
   simp only[Q44,Bool.and_eq_true,List.all_eq_true]at g
   have:=g.1.2 x hx
   simp only[Q45,insL,h14,if_true,Bool.and_eq_true,decide_eq_true_eq]at this
   omega
  ·simp[Qah,List.getD_eq_getElem?_getD,List.getElem?_eq_none (Nat.le_of_not_lt hb)]at hx
 ·rw[Qcg hk]at hx
  by_cases hb:b<cs[k].blocks.length
  ·rw[Qbh hb]at hx
   have g:=(h2 k hk).2 b hb
   simp only[Q44,Bool.and_eq_true,List.all_eq_true]at g
   have:=g.1.2 x hx
   simp only[Q45,insH,insL,Bool.and_eq_true,decide_eq_true_eq]at this
   refine⟨this.1.1.1.1,this.1.1.1.2,fun h14=>?_⟩
   have:=this.2
   simp only[h14,if_false,Bool.and_eq_true,decide_eq_true_eq]at this
   exact this.1.1
  ·simp[Qah,List.getD_eq_getElem?_getD,List.getElem?_eq_none (Nat.le_of_not_lt hb)]at hx
theorem Qbj6 {cs:List CodeD}(hr:RunOk cs){k b:Nat}(hk:k<cs.length)(hb:b<(Qu cs k).blocks.length)(hj:¬(Qah (Qu cs k) b).jump=3)(R:List Int):ixB (Qah (Qu cs k) b) R<(Qah (Qu cs k) b).next.length:=by
 have h1:=hr.jn k b hk hb
 have h2:=((hr.ok k hk).bs b hb).jmp
 rw[←Qbh hb]at h2
 generalize Qah (Qu cs k) b=y at *
 rw[Qj9]at h1
 rcases h2 with h2|h2|h2
 ·simp only[h2,if_true]at h1
  rw[ixB,if_neg (by omega)];omega
 ·rw[h2]at h1;simp at h1
  rw[ixB];split <;> omega
 ·exact absurd h2 hj
theorem Qa8w {cs:List CodeD}(hr:RunOk cs){k b:Nat}(hk:k<cs.length)(hb:b<(Qu cs k).blocks.length)(hj:¬(Qah (Qu cs k) b).jump=3)(R:List Int) :
  ∃v∈(Qah (Qu cs k) b).next,nxB (Qah (Qu cs k) b) R=v.toNat∧(Qah (Qu cs k) b).next[ixB (Qah (Qu cs k) b) R]? = some v:=by
 have h:=Qbj6 hr hk hb hj R
 refine⟨_,List.getElem_mem h,?_,List.getElem?_eq_getElem h⟩
 rw[nxB,List.getD_eq_getElem?_getD,List.getElem?_eq_getElem h];rfl
def Wt (RA:Fr→Fr→Prop)(f f':Fr):Prop:=∃k b x t R k' b' x' t' R',f=⟨k,b,x::t,R⟩∧f'=⟨k',b',x'::t',R'⟩∧∀v,RA ⟨k,b,t,R.set x.to.toNat v⟩ ⟨k',b',t',R'.set x'.to.toNat v⟩
inductive RelW (RA:Fr→Fr→Prop):List Fr→List Fr→Prop where
 |nil:RelW RA [] []
 |cons {f f':Fr} {fs fs':List Fr}:Wt RA f f'→RelW RA fs fs'→RelW RA (f::fs) (f'::fs')
inductive RelA (RA:Fr→Fr→Prop):Cf→Cf→Prop where
 |dn (e v:Int) (s c:List Int):RelA RA (.dn e v s c) (.dn e v s c)
 |go {f f':Fr} {fs fs':List Fr} (s c:List Int):RA f f'→RelW RA fs fs'→RelA RA (.go (f::fs) s c) (.go (f'::fs') s c)
def Agr (S:RS')(R R':List Int):Prop:=R'.length=R.length∧∀r,S r→R'.getD r 0=R.getD r 0
theorem Q8i {l:List Int}{i r:Nat}{v:Int}(h:¬r=i):(l.set i v).getD r 0=l.getD r 0:=by
 rw[List.getD_eq_getElem?_getD,List.getD_eq_getElem?_getD,List.getElem?_set_ne (by omega)]
theorem Qa7h {l l':List Int}(h:l'.length=l.length)(r:Nat)(v:Int):(l'.set r v).getD r 0=(l.set r v).getD r 0:=by
 rw[List.getD_eq_getElem?_getD,List.getD_eq_getElem?_getD,List.getElem?_set,List.getElem?_set,h]
 by_cases hr:r<l.length
 ·simp[hr]
 ·simp[hr]
theorem Agr.rg {S:RS'}{R R':List Int}(h:Agr S R R'){r:Int}(hr:S r.toNat):rg R' r=rg R r:=h.2 _ hr
theorem Agr.sub {S T:RS'}{R R':List Int}(h:Agr S R R')(hs:∀r,T r→S r):Agr T R R':=⟨h.1,fun r hr=>h.2 r (hs r hr)⟩
theorem Agr.set {S:RS'}{R R':List Int}{x:InsD}{a:List Nat}(h:Agr (Qbch (Qap3 x,a) S) R R')(hm:Qhe x.op=true)(v:Int):Agr S (R.set x.to.toNat v) (R'.set x.to.toNat v):=by
 refine⟨by simp[h.1],fun r hr=>?_⟩
 by_cases he:r=x.to.toNat
 ·subst he;exact Qa7h h.1 _ v
 ·rw[Q8i he,Q8i he]
  exact h.2 r (.inr ⟨hr,by rw[Qap3,if_pos hm];intro hh;exact he (Option.some.inj hh).symm⟩)
theorem Agr.keep {S:RS'}{R R':List Int}{x:InsD}{a:List Nat}(h:Agr (Qbch (Qap3 x,a) S) R R')(hm:Qhe x.op=false):Agr S R R':=
 h.sub fun r hr=>.inr ⟨hr,by rw[Qap3,if_neg (by rw[hm];simp)];simp⟩
theorem Agr.left {S:RS'}{R R':List Int}{x:InsD}{a:List Nat}(h:Agr (Qbch (Qap3 x,a) S) R R')(hm:Qhe x.op=true)(hn:¬S x.to.toNat)(v:Int):Agr S (R.set x.to.toNat v) R':=by
 refine⟨by simp[h.1],fun r hr=>?_⟩
 have he:¬r=x.to.toNat:=fun he=>hn (he▸hr)
 rw[Q8i he]
 exact h.2 r (.inr ⟨hr,by rw[Qap3,if_pos hm];intro hh;exact he (Option.some.inj hh).symm⟩)
end Go.AE.Y

namespace Go.AE.Y
variable {cs:List CodeD}{S u u' u2:Nat}{X Y Z:Cf}{e:Int}{s c:List Int}
def Goes (cs:List CodeD)(S u:Nat)(X:Cf)(u':Nat)(Y:Cf):Prop:=u≤u'∧u'≤S∧Qms cs (u'-u) X=Y
def Halts (cs:List CodeD)(S u:Nat)(X:Cf)(e:Int)(s c:List Int):Prop:=
 u≤S∧((e=3∧∃fs,Qms cs (S-u) X=.go fs s c)∨(¬e=3∧∃n,n≤S-u∧Qms cs n X=.dn e 0 s c))
theorem Goes.refl (h:u≤S):Goes cs S u X u X:=⟨Nat.le_refl _,h,by rw[Nat.sub_self];rfl⟩
theorem Goes.trans (h:Goes cs S u X u' Y)(k:Goes cs S u' Y u2 Z):Goes cs S u X u2 Z:=by
 obtain⟨h1,h2,h3⟩:=h
 obtain⟨k1,k2,k3⟩:=k
 refine⟨by omega,k2,?_⟩
 rw[show u2-u=(u'-u)+(u2-u')by omega,Qlf,h3,k3]
theorem Goes.halts (h:Goes cs S u X u' Y)(k:Halts cs S u' Y e s c):Halts cs S u X e s c:=by
 obtain⟨h1,h2,h3⟩:=h
 obtain⟨k1,k2⟩:=k
 refine⟨by omega,?_⟩
 rcases k2 with ⟨k2,fs,k3⟩|⟨k2,n,k3,k4⟩
 ·exact .inl ⟨k2,fs,by rw[show S-u=(u'-u)+(S-u')by omega,Qlf,h3,k3]⟩
 ·exact .inr ⟨k2,(u'-u)+n,by omega,by rw[Qlf,h3,k4]⟩
theorem Goes.one (h:u<S)(hs:step cs X=Y):Goes cs S u X (u+1) Y:=⟨by omega,by omega,by
 rw[Nat.add_sub_cancel_left];exact hs⟩
theorem Halts.fuel {fs:List Fr}:Halts cs S S (.go fs s c) 3 s c:=⟨Nat.le_refl _,.inl ⟨rfl,fs,by rw[Nat.sub_self];rfl⟩⟩
theorem Halts.one (h:u<S)(he:¬e=3)(hs:step cs X=.dn e 0 s c):Halts cs S u X e s c:=⟨by omega,.inr ⟨he,1,by omega,hs⟩⟩
theorem Qa8y {l:List Int}(h:Halts cs S 0 (cf0 cs l) e s c):outR cs l S=(e,0,s,c):=by
 obtain⟨_,⟨rfl,fs,h⟩|⟨_,n,h1,h2⟩⟩:=h
 ·rw[Nat.sub_zero]at h
  rw[outR,h]
 ·rw[outR,Qaop cs h2 (by omega)]
theorem Qbdz {l:List Int}{v:Int}(h:Goes cs S 0 (cf0 cs l) u' (.dn 0 v s c)):outR cs l S=(0,v,s,c):=by
 obtain⟨_,h1,h2⟩:=h
 rw[Nat.sub_zero]at h2
 rw[outR,Qaop cs h2 h1]
def byI (v:Int):Prop:=0≤v∧v≤255
def byL (l:List Int):Prop:=∀v∈l,byI v
theorem byL.get {l:List Int}(h:byL l)(i:Nat):byI (l.getD i 0):=by
 rw[List.getD_eq_getElem?_getD]
 by_cases hi:i<l.length
 ·rw[List.getElem?_eq_getElem hi];exact h _ (List.getElem_mem hi)
 ·rw[List.getElem?_eq_none (by omega)];exact⟨by simp,by simp⟩
theorem byL.rg {l:List Int}(h:byL l)(r:Int):byI (rg l r):=h.get _
theorem byL.set {l:List Int}(h:byL l){v:Int}(hv:byI v)(i:Nat):byL (l.set i v):=fun x hx=>by
 rcases List.mem_or_eq_of_mem_set hx with hx|rfl
 ·exact h x hx
 ·exact hv
theorem byL.app {l:List Int}(h:byL l){v:Int}(hv:byI v):byL (l++[v]):=fun x hx=>by
 rcases List.mem_append.1 hx with hx|hx
 ·exact h x hx
 ·rw[List.mem_singleton]at hx;subst hx;exact hv
theorem Qa6z (b:Prop) [Decidable b]:byI (trI b):=by rw[trI];split <;> exact⟨by omega,by omega⟩
theorem Qbjl {op a b v:Int}(ha:byI a)(hb:byI b)(h:arR op a b=some v):byI v:=by
 have hm:∀x:Int,byI (x % 256):=fun x=>⟨by omega,by omega⟩
 rw[arR]at h
 split at h
 ·cases h;exact hm _
 ·split at h
  ·cases h;exact hm _
  ·split at h
   ·cases h;exact hm _
   ·split at h
    ·split at h
     ·cases h
     ·cases h
      obtain⟨a1,a2⟩:=ha;obtain⟨b1,b2⟩:=hb
      exact⟨Int.ediv_nonneg a1 b1,Int.le_trans (Int.ediv_le_self _ a1) a2⟩
    ·split at h
     ·split at h
      ·cases h
      ·rename_i hb0
       cases h
       obtain⟨b1,b2⟩:=hb
       exact⟨Int.emod_nonneg _ hb0,by have:=Int.emod_lt_of_pos a (show 0<b by omega);omega⟩
     ·split at h
      ·cases h;exact Qa6z _
      ·split at h <;> (cases h;exact Qa6z _)
theorem Qbbv {q:CodeD}{l:List Int}(h:byL l):byL (Q9o q l):=fun x hx=>by
 rcases List.mem_append.1 hx with hx|hx
 ·exact h x hx
 ·rw[List.eq_of_mem_replicate hx];exact⟨by omega,by omega⟩
end Go.AE.Y

namespace Go.AE.Y
open Go.Proofs.Tryz
def Qio:List Item:=[oJ 5 4]
def Q07:SC:=cT 5 (sR [fI 2 (.mv (.k (.c (.sl true 1 []))))] [2] .ret) .skip
def Qip:List Item:=[mJ 2 8]
def Qiq:List Item:=aJ 8 Qln [.t 7]::Qip
def Q08:SC:=sR (tJ 6 1 1::aJ 7 Qc7 [.t 6]::Qiq) [2] .ret
def Q09:SC:=.seq (sR (tJ 3 1 1::aJ 4 Qbg [.t 3]::Qio) [1,5] Q07) Q08
def Q9q:SC:=sR [vJ 1 0,fI 2 (.mv (.k (.c (.sl true 1 []))))] [1] Q09
def Qp6:List RS:=[.tmp 2]
theorem Q8q:mFn prog Qfs 1 9 Q9q Qp6=true:=by kernel_rfl
def Qm0:List Item:=[mJ 10 19]
def Qm1:List Item:=sJ 4 9 18::Qm0
def Qm2:List Item:=mJ 13 17::fI 18 (.ext (.t 13) 0)::fI 19 (.ext (.t 13) 1)::eI 9 (.alloc [.sl true 1 [],.int .i64 0,.int .i64 0,.sl true 1 []])::Qm1
def Qm3:List Item:=[mJ 12 25]
def Qm4:List Item:=sJ 4 11 24::Qm3
def Qm5:List Item:=mJ 20 23::fI 24 (.ext (.t 20) 0)::fI 25 (.ext (.t 20) 1)::eI 11 (.alloc [.sl true 1 [],.int .i64 0,.int .i64 0,.sl true 1 []])::Qm4
def Qc9:List Item:=[gT 38 30 (.pick (.t 34) (.k (.c (.bool true))) (.t 37)),pF 39 30 38,mJ 8 39]
def Q9x:SC:=sR (mJ 26 10::mJ 27 26::gTm 28 27 12::pF 29 27 28::mJ 30 29::gTf 31 30 1 9::gTl 32 30 31::gT 33 30 (.bin 0 .eql (.t 32) (kI 3))::gTm 34 30 33::gF 35 34 (.ld 4 true (.t 9))::gF 36 34 (.ld 4 true (.t 11))::.e (some 37) (some (34,false)) (.call Qem [.t 35,.t 36])::Qc9) [8] .ret
def Q9y:SC:=sR (tJ 21 1 5::mJ 22 2::aJ 23 Qgh [.t 21,.t 22,kI 60000]::Qm5) [9,10,11,12] Q9x
def Q9z:SC:=sR (tJ 14 1 4::mJ 15 2::mJ 16 3::aJ 17 Qgh [.t 14,.t 15,.t 16]::Qm2) [2,5,9,10] Q9y
def Qal6:SC:=sR [vJ 4 0,vJ 5 1,fB 8 false] [2,3,4,5] Q9z
def Qgl:List RS:=[.tmp 8]
theorem Qalh:mFn prog Qi5 4 40 Qal6 Qgl=true:=by kernel_rfl
def Q1j:SC:=sR [fJ 3 0 1,lJ 4 3,fJ 5 0 1,lJ 6 5,nJ 7 6,cJ 8 .sub 7 1,iJ 9 3 4 8,fJ 10 0 9,lJ 11 10,mJ 2 11] [2] .ret
def Qaab:SC:=sR [vJ 1 0,zJ 2 0] [1] Q1j
def Qqb:List RS:=[.tmp 2]
theorem Q8u:mFn prog Qc7 1 12 Qaab Qqb=true:=by kernel_rfl
def Qql:List Item:=[fB 7 false]
def Qqm:List Item:=[oJ 14 13]
def Q9w:List Item:=[fB 7 false]
def Qaf3:SC:=cT 14 (sR (fI 15 (.bld [.sl true 1 [],.int .i64 0,.int .i64 0,.sl true 1 []] [])::sJ 4 6 15::Q9w) [6,7] .ret) .skip
def Qqn:List Item:=[mJ 9 22]
def Qqo:List Item:=sJ 4 8 21::Qqn
def Qqp:List Item:=mJ 16 20::fI 21 (.ext (.t 16) 0)::fI 22 (.ext (.t 16) 1)::eI 8 (.alloc [.sl true 1 [],.int .i64 0,.int .i64 0,.sl true 1 []])::Qqo
def Qqq:List Item:=[fB 7 true]
def Qaf4:SC:=sR (tJ 23 4 8::sJ 4 6 23::Qqq) [6,7] .ret
def Qaf5:SC:=sR (tJ 17 1 3::mJ 18 1::mJ 19 2::aJ 20 Qlm [.t 17,.t 18,.t 19]::Qqp) [6,8] Qaf4
def Q9v:SC:=.seq (sR (tJ 10 1 3::mJ 11 1::mJ 12 2::aJ 13 Qi7 [.t 10,.t 11,.t 12]::Qqm) [1,2,3,6,14] Qaf3) Qaf5
def Qaql:SC:=sR (vJ 3 0::eI 6 (.alloc [.sl true 1 [],.int .i64 0,.int .i64 0,.sl true 1 []])::Qql) [1,2,3,6] Q9v
def Q20:List RS:=[.cell 6 4 true,.tmp 7]
theorem Qapl:mFn prog Qgh 3 24 Qaql Q20=true:=by kernel_rfl
def Qhm:List Item:=[pF 30 24 29,mJ 4 30]
def Qhn:List Item:=mJ 10 9::gTf 11 10 1 2::gTl 12 10 11::gTf 13 10 1 3::gTl 14 10 13::gT 15 10 (.bin 0 .eql (.t 12) (.t 14))::pF 16 10 15::mJ 17 16::gTf 18 17 2 2::gTl 19 17 18::gTf 20 17 2 3::gTl 21 17 20::gT 22 17 (.bin 0 .eql (.t 19) (.t 21))::pF 23 17 22::mJ 24 23::gTf 25 24 3 2::gTl 26 24 25::gTf 27 24 3 3::gTl 28 24 27::.e (some 29) (some (24,true)) (.call Qlw [.t 26,.t 28])::Qhm
def Qy3:SC:=sR (fJ 5 0 2::lJ 6 5::fJ 7 0 3::lJ 8 7::aJ 9 Qlw [.t 6,.t 8]::Qhn) [4] .ret
def Q5a:SC:=sR [vJ 2 0,vJ 3 1,fB 4 false] [2,3] Qy3
def Qmx:List RS:=[.tmp 4]
theorem Q46:mFn prog Qem 2 31 Q5a Qmx=true:=by kernel_rfl
def Qm9:List Item:=[pF 18 15 17,mJ 6 18]
def Qna:List Item:=pF 14 9 13::mJ 15 14::gTm 16 15 2::.e (some 17) (some (15,true)) (.call Qaq [.t 16,kI 0,kI 60000])::Qm9
def Qnb:List Item:=.e (some 13) (some (9,true)) (.call Qli [.t 10,.t 12])::Qna
def Qnc:List Item:=mJ 9 8::gTm 10 9 1::gT 11 9 (.ld 1 true (.t 3))::.e (some 12) (some (9,true)) (.call Qc7 [.t 11])::Qnb
def Qaaj:SC:=sR (tJ 7 1 3::aJ 8 Qbg [.t 7]::Qnc) [6] .ret
def Qam0:SC:=sR [vJ 3 0,fB 6 false] [1,2,3] Qaaj
def Qyr:List RS:=[.tmp 6]
theorem Qalm:mFn prog Qi7 3 19 Qam0 Qyr=true:=by kernel_rfl
def Qro:List Item:=[fI 7 (.mv (.k (.c .pnil)))]
def Qrp:List Item:=[sJ 1 8 13]
def Qrq:List Item:=eI 8 (.alloc [.pnil])::Qrp
def Qhu:List Item:=[fJ 16 1 9,sJ 1 16 15]
def Qrr:List Item:=[fJ 27 3 9,sJ 1 27 25]
def Qrs:List Item:=hJ 17 8::hJ 20 19::sJ 1 26 20::Qrr
def Qrt:List Item:=[hJ 29 8,mJ 7 29]
def Qahc:SC:=.seq (.dreg 4 [0,1,2,1,3] ( tJ 28 4 9::lJ 29 8::sJ 4 6 28::Qrt) [6,7]) .ret
def Qahd:SC:=.seq (.seq .gh (.dreg 13 [0,1,2,3,4,5,6,7,9,8,0,3,10,11,12] ( lJ 17 8::kJ 18 17::fJ 19 3 18::lJ 20 19::lJ 21 8::kJ 22 21::fJ 23 4 22::fI 24 (.aslp 16 (.t 23) none)::fJ 26 0 9::aJ 25 Qci [.t 24]::Qrs) [6,8,9])) Qahc
def Qahe:SC:=sR (fI 14 (.mkf Qfv [.t 8,.t 3,.t 4,.t 9])::aJ 15 Qpj [.t 14]::Qhu) [6,8,9] Qahd
def Qaae:SC:=sR [eI 9 (.alloc [.sl true 1 [],.int .i64 0,.int .i64 0,.sl true 1 []])] [3,4,6,8,9] Qahe
def Qaaf:SC:=sR (tJ 10 1 3::mJ 11 2::fI 12 (.bld [.sl true 3 [],.int .i64 0,.int .i64 0,.sl true 1 [],.int .i64 0,.int .i64 0,.int .i64 0,.int .i64 0,.int .i64 0,.int .i64 0,.int .i64 0,.int .i64 0,.int .i64 0,.int .i64 0,.int .i64 0,.int .i64 0,.int .i64 0,.int .i64 0,.int .i64 0,.int .i64 0,.sl true 1 []] [(0,1,.t 10),(1,1,.t 11)])::eI 13 (.boxm (.t 12))::Qrq) [3,4,6,8] Qaae
def Qaqx:SC:=sR (vJ 3 0::vJ 4 1::eI 6 (.alloc [.sl true 1 [],.int .i64 0,.int .i64 0,.sl true 1 []])::Qro) [2,3,4,6] Qaaf
def Q22:List RS:=[.cell 6 4 true,.tmp 7]
theorem Qapp:mFn prog Qlm 3 30 Qaqx Q22=true:=by kernel_rfl
def Qqr:List Item:=[gT 12 9 (.not (.t 11)),pF 13 9 12,mJ 4 13]
def Qaf7:SC:=sR (mJ 5 0::nJ 6 5::mJ 7 1::bJ 8 .eql 6 7::mJ 9 8::gTm 10 9 0::.e (some 11) (some (9,true)) (.call Qa8 [.t 10,.k (.c (.fn Qfu []))])::Qqr) [4] .ret
def Qaqt:SC:=sR [fB 4 false] [0,1] Qaf7
def Q21:List RS:=[.tmp 4]
theorem Qapm:mFn prog Qli 2 14 Qaqt Q21=true:=by kernel_rfl
def Qix:List Item:=[fJ 11 2 3,sJ 1 11 10]
def Qaag:SC:=.reg (lJ 4 0::fJ 5 0 1::lJ 6 5::nJ 7 6::cJ 8 .sub 7 1::lJ 9 2::aJ 10 Qcd [.t 4,.t 8,.t 9,.k (.c (.bool true))]::Qix) []
def Qqd:List RS:=[]
theorem Q8v:mFn prog Qfv 4 12 Qaag Qqd=true:=by kernel_rfl
def Qf1:List Item:=[sJ 3 9 27]
def Qf2:List Item:=[sJ 1 10 30]
def Qf3:List Item:=eI 10 (.alloc [.sl true 1 []])::Qf2
def Qf4:List Item:=[kJ 43 35,fJ 44 20 43,sJ 1 44 42]
def Qxv:SC:=cT 34 (.reg (mJ 35 0::mJ 36 0::kJ 37 36::fJ 38 20 37::lJ 39 38::mJ 40 11::fI 41 (.bsl 1 [.t 40])::xJ 42 1 39 41::Qf4) [0,3,9,10,11,12]) .skip
def Qf5:List Item:=[sJ 5 13 49]
def Qf6:List Item:=[sJ 1 14 62]
def Qf7:List Item:=eI 14 (.alloc [.int .i64 0])::Qf6
def Qf8:List Item:=mJ 61 12::aJ 62 Qlx [.t 60,.t 61]::Qf7
def Qf9:List Item:=[mJ 15 66]
def Qfh:List Item:=[mJ 16 72,sJ 2 17 74]
def Qut:SC:=.dreg 9 [0,1,2,3,4,5,6,7,8] ( lJ 75 10::fJ 76 0 17::lJ 77 76::mJ 78 15::mJ 79 16::iJ 80 1 78 79::lJ 81 80::iJ 82 1 75 77::sJ 1 82 81::[]) [0,3,9,10,11,13,15,68,69,70]
def Quu:SC:=.reg [cJ 83 .add 70 1,mJ 70 83] [0,3,9,10,11,13,15,68,69,70]
def Quv:SC:=.seq (.block 3 (sR (mJ 72 70::iJ 73 2 68 70::tJ 74 2 73::eI 17 (.alloc [.int .i64 0,.sl true 1 []])::Qfh) [0,3,9,10,11,13,15,16,17,68,69,70] Qut)) Quu
def Qru:SC:=sR [bJ 71 .lss 70 69] [0,3,9,10,11,13,15,68,69,70,71] (cX 71 2 Quv)
def Quw:SC:=sR [fJ 67 0 13,lJ 68 67,nJ 69 68,zJ 70 0] [0,3,9,10,11,13,15,68,69,70] (bL 2 Qru)
def Qux:SC:=sR (fJ 63 0 13::lJ 64 63::fI 65 (.mkf Qa5 [.t 10,.t 14])::aJ 66 Qcv [.t 64,.t 65]::Qf9) [0,3,9,10,11,13,15] Quw
def Quy:SC:=cT 57 (sR (tJ 58 3 9::mJ 59 11::aJ 60 Qb0 [.t 58,.t 59]::Qf8) [0,3,9,10,11,13,14] Qux) .skip
def Qfi:List Item:=[sJ 4 19 90]
def Quz:SC:=.reg [mJ 91 0,tJ 92 4 19,lJ 93 10,aJ 94 Qdb [.t 91,.t 92,.t 93]] [0,3,9,10,11,13,85,86,87]
def Qu0:SC:=.reg [cJ 95 .add 87 1,mJ 87 95] [0,3,9,10,11,13,85,86,87]
def Qu1:SC:=.seq (.block 5 (sR (iJ 89 4 85 87::tJ 90 4 89::eI 19 (.alloc [.int .i64 0,.int .i64 0,.sl true 1 [],.int .i64 0])::Qfi) [0,3,9,10,11,13,19,85,86,87] Quz)) Qu0
def Qrv:SC:=sR [bJ 88 .lss 87 86] [0,3,9,10,11,13,85,86,87,88] (cX 88 4 Qu1)
def Qu2:SC:=cT 112 (.reg [fJ 124 4 13,lJ 125 124,fI 126 (.iad 1 (.t 125) (kI 1)),lJ 127 126,mJ 11 127] [0,3,9,10,11,12]) (.reg [fJ 99 4 13,lJ 100 99,fI 101 (.iad 1 (.t 100) (kI 0)),lJ 102 101,mJ 11 102] [0,3,9,10,11,12])
def Qu3:SC:=cT 103 (sR [lJ 107 10,fJ 108 3 13,lJ 109 108,iJ 110 1 107 109,lJ 111 110,mJ 8 111] [8] .ret) (sR [fJ 113 2 13,lJ 114 113,cJ 115 .eql 114 2,mJ 116 115,gTl 117 116 10,gTf 118 116 3 13,gTl 119 116 118,gT 120 116 (.iad 1 (.t 117) (.t 119)),gTl 121 116 120,gT 122 116 (.bin 0 .eql (.t 121) (kI 0)),pF 123 116 122,mJ 112 123] [0,3,9,10,12,13,112] Qu2)
def Qu4:SC:=.block 6 (sR [fJ 104 2 13,lJ 105 104,cJ 106 .eql 105 3,mJ 103 106] [0,3,9,10,12,13,103] Qu3)
def Qu5:SC:=sR [mJ 98 11,mJ 12 98] [0,3,9,10,12,13] Qu4
def Qu6:SC:=sR [mJ 96 0,aJ 97 Qce [.t 96]] [0,3,9,10,11,13] Qu5
def Qu7:SC:=.seq (sR [fJ 84 1 13,lJ 85 84,nJ 86 85,zJ 87 0] [0,3,9,10,11,13,85,86,87] (bL 4 Qrv)) Qu6
def Qu8:SC:=.seq (sR [mJ 50 12,cJ 51 .geq 50 0,mJ 52 51,gTf 53 52 0 13,gTl 54 52 53,gT 55 52 (.len (.t 54)),gT 56 52 (.bin 0 .gtr (.t 55) (kI 0)),pF 57 52 56] [0,3,9,10,11,12,13,57] Quy) Qu7
def Qu9:SC:=sR (fJ 45 2 9::lJ 46 45::mJ 47 11::iJ 48 5 46 47::tJ 49 5 48::eI 13 (.alloc [.sl true 2 [],.sl true 4 [],.int .i64 0,.int .i64 0,.sl true 1 []])::Qf5) [0,3,9,10,11,12,13] Qu8
def Qrw:SC:=.block 1 (.seq (sR [mJ 34 3] [0,3,9,10,11,12,34] Qxv) Qu9)
def Qva:SC:=sR [zJ 11 0,zJ 12 (-1)] [0,3,9,10,11,12] (bL 0 Qrw)
def Qvb:SC:=sR [lJ 31 10,mJ 32 2,eI 33 (.cpy 1 (.t 31) (.t 32))] [0,3,9,10] Qva
def Qvc:SC:=sR (fJ 28 1 9::lJ 29 28::eI 30 (.mks 1 [.int .i64 0] (.t 29))::Qf3) [0,2,3,9,10] Qvb
def Qvd:SC:=sR (mJ 20 0::kJ 21 20::fJ 22 0 21::fJ 23 0 22::lJ 24 23::mJ 25 1::iJ 26 3 24 25::tJ 27 3 26::eI 9 (.alloc [.int .i64 0,.int .i64 0,.sl true 5 []])::Qf1) [0,2,3,9] Qvc
def Q1l:SC:=sR [zJ 8 0] [0,1,2,3] Qvd
def Qkf:List RS:=[.tmp 8]
theorem Q0v:mFn prog Qcd 4 128 Q1l Qkf=true:=by kernel_rfl
def Qiv:List Item:=[oJ 5 4,mJ 2 5]
def Q1f:SC:=sR (mJ 3 0::aJ 4 Qic [.t 3]::Qiv) [2] .ret
def Q94:SC:=sR [fB 2 false] [0] Q1f
def Qp9:List RS:=[.tmp 2]
theorem Q8s:mFn prog Qfu 1 6 Q94 Qp9=true:=by kernel_rfl
def Qoq:SC:=.seq (.dreg 9 [0,1,2,3,4,5,6,7,8] ( lJ 5 1::fJ 6 1 3::lJ 7 6::lJ 8 2::iJ 9 1 7 8::lJ 10 9::iJ 11 1 5 10::lJ 12 11::mJ 4 12::[]) [4]) .ret
def Qve:SC:=sR [vJ 3 0,zJ 4 0] [1,2,3] Qoq
def Qf0:List RS:=[.tmp 4]
theorem Qus:mFn prog Qa5 3 13 Qve Qf0=true:=by kernel_rfl
def Qfj:List Item:=[hJ 44 5,hJ 46 45,kJ 51 50,lJ 52 51,iJ 53 1 44 46,sJ 1 53 52]
def Qfk:List Item:=hJ 44 5::hJ 46 45::aJ 50 Qcc [.t 47,.t 49]::Qfj
def Qfl:List Item:=[kJ 62 59,sJ 1 62 61]
def Qfm:List Item:=mJ 60 6::eI 61 (.callv (.t 60) [kI 1])::Qfl
def Qfn:List Item:=aJ 59 Qcc [.t 56,.t 58]::Qfm
def Qfo:List Item:=[kJ 74 65,fJ 75 3 74,sJ 1 75 73]
def Qfp:List Item:=hJ 69 68::fI 72 (.bsl 1 [.t 71])::xJ 73 1 69 72::Qfo
def Qfq:List Item:=[mJ 7 89]
def Qfr:List Item:=fI 88 (.bsl 1 [.t 87])::xJ 89 1 84 88::Qfq
def Qvf:SC:=.reg (mJ 84 7::mJ 85 6::mJ 86 8::eI 87 (.callv (.t 85) [.t 86])::Qfr) [0,4,5,6,7,80,81]
def Qrx:SC:=.reg [cJ 90 .add 81 1,mJ 81 90] [0,4,5,6,7,80,81]
def Qry:SC:=.seq (.block 2 (sR [mJ 83 81,mJ 8 83] [0,4,5,6,7,8,80,81] Qvf)) Qrx
def Qor:SC:=sR [bJ 82 .lss 81 80] [0,4,5,6,7,80,81,82] (cX 82 1 Qry)
def Qeb:List Item:=[hJ 91 5,hJ 93 92,iJ 99 1 91 93,sJ 1 99 98]
def Qrz:SC:=.dreg 10 [0,1,2,3,4,5,6,7,0,2,8,9] ( lJ 91 5::fJ 92 1 4::lJ 93 92::mJ 94 0::fJ 95 3 4::lJ 96 95::mJ 97 7::aJ 98 Qcd [.t 94,.t 96,.t 97,.k (.c (.bool false))]::Qeb) []
def Qr0:SC:=.seq (sR [fJ 78 2 4,lJ 79 78,nJ 80 79,zJ 81 0] [0,4,5,6,7,80,81] (bL 1 Qor)) Qrz
def Qec:List Item:=[hJ 102 5,hJ 104 103,iJ 107 1 102 104,sJ 1 107 106]
def Qed:List Item:=[hJ 111 5,hJ 113 112,mJ 110 116,fI 117 (.ext (.t 110) 0),fI 118 (.ext (.t 110) 1),iJ 119 1 111 113,sJ 1 119 117]
def Qee:List Item:=hJ 111 5::hJ 113 112::aJ 116 Qg0 [kI 11,.t 115,kI 0]::Qed
def Qef:List Item:=[mJ 16 23,fI 24 (.ext (.t 16) 0),fI 25 (.ext (.t 16) 1),mJ 9 24,mJ 10 25]
def Qeg:List Item:=hJ 18 17::aJ 23 Qg0 [.t 18,.t 20,.t 22]::Qef
def Qeh:List Item:=hJ 18 17::eI 22 (.callv (.t 21) [kI 1])::Qeg
def Qr1:SC:=cT 27 (.reg [aJ 28 Qjz [kI 1]] [4,5,9]) .skip
def Qr2:SC:=.reg [lJ 29 5,fJ 30 1 4,lJ 31 30,mJ 32 9,iJ 33 1 29 31,sJ 1 33 32] []
def Qr3:SC:=.seq (sR [mJ 26 10,oJ 27 26] [4,5,9,27] Qr1) Qr2
def Qr4:SC:=cT 108 (.dreg 11 [0,1,2,3,4,0,2,5,0,2,6,7,8,9,10] ( lJ 111 5::fJ 112 1 4::lJ 113 112::mJ 114 6::eI 115 (.callv (.t 114) [kI 0])::Qee) []) (.seq (.dreg 12 [0,1,2,4,3,1,5,1,6,7,8,9,10,11] ( fJ 17 0 4::lJ 18 17::mJ 19 6::mJ 21 6::eI 20 (.callv (.t 19) [kI 0])::Qeh) [4,5,9,10]) Qr3)
def Qr5:SC:=cT 100 (.dreg 7 [0,1,2,3,4,0,2,5,6] ( lJ 102 5::fJ 103 1 4::lJ 104 103::mJ 105 6::eI 106 (.callv (.t 105) [kI 0])::Qec) []) (sR [cJ 109 .eql 15 10,mJ 108 109] [4,5,6,108] Qr4)
def Qr6:SC:=cT 76 (sR [fI 7 (.mv (.k (.c (.sl true 1 []))))] [0,4,5,6,7] Qr0) (sR [cJ 101 .eql 15 2,mJ 100 101] [4,5,6,15,100] Qr5)
def Qr7:SC:=cT 63 (.dreg 12 [0,1,2,3,4,5,6,4,7,8,9,10,11] ( mJ 65 0::mJ 66 0::kJ 67 66::fJ 68 3 67::lJ 69 68::mJ 70 6::eI 71 (.callv (.t 70) [kI 0])::Qfp) []) (sR [cJ 77 .eql 15 14,mJ 76 77] [0,4,5,6,15,76] Qr6)
def Qr8:SC:=cT 54 (.reg (mJ 56 0::mJ 57 6::eI 58 (.callv (.t 57) [kI 0])::Qfn) []) (sR [cJ 64 .eql 15 13,mJ 63 64] [0,4,5,6,15,63] Qr7)
def Qr9:SC:=cT 42 (.dreg 11 [0,1,2,3,4,5,0,2,6,0,2,7,8,9,10] ( lJ 44 5::fJ 45 1 4::lJ 46 45::mJ 47 0::mJ 48 6::eI 49 (.callv (.t 48) [kI 0])::Qfk) []) (sR [cJ 55 .eql 15 12,mJ 54 55] [0,4,5,6,15,54] Qr8)
def Qsa:SC:=cT 34 (.reg [lJ 36 5,fJ 37 1 4,lJ 38 37,fJ 39 3 4,lJ 40 39,iJ 41 1 36 38,sJ 1 41 40] []) (sR [cJ 43 .eql 15 11,mJ 42 43] [0,4,5,6,15,42] Qr9)
def Qsb:SC:=.block 0 (sR [cJ 35 .eql 15 1,mJ 34 35] [0,4,5,6,15,34] Qsa)
def Qsc:SC:=sR [fJ 14 0 4,lJ 15 14] [0,4,5,6,15] Qsb
def Qsd:SC:=sR [fI 13 (.mkf Qbi [.t 5,.t 4]),mJ 6 13] [0,4,5,6] Qsc
def Qse:SC:=sR [mJ 11 0,aJ 12 Qce [.t 11]] [0,4,5] Qsd
def Qzj:SC:=sR [vJ 4 1,vJ 5 2] [0,4,5] Qse
def Qcf:List RS:=[]
theorem Qyl:mFn prog Qdb 3 120 Qzj Qcf=true:=by kernel_rfl
def Qxw:SC:=cT 10 (.reg [aJ 11 Qjz [kI 3]] [0]) .skip
def Qxx:SC:=.reg [mJ 12 0,kJ 13 12,fJ 14 2 13,lJ 15 14,cJ 16 .add 15 1,kJ 17 12,fJ 18 2 17,sJ 1 18 16] []
def Q1m:SC:=.seq (.seq (.dreg 9 [0,1,2,3,4,5,6,7,8] ( mJ 2 0::kJ 3 2::fJ 4 2 3::lJ 5 4::mJ 6 0::kJ 7 6::fJ 8 1 7::lJ 9 8::bJ 10 .eql 5 9::[]) [0,10]) Qxw) Qxx
def Qkg:List RS:=[]
theorem Q0w:mFn prog Qce 1 19 Q1m Qkg=true:=by kernel_rfl
def Qmf:SC:=.seq (.dreg 9 [0,1,2,3,4,5,6,7,8] ( lJ 5 1::fJ 6 2 2::lJ 7 6::mJ 8 0::iJ 9 1 7 8::lJ 10 9::iJ 11 1 5 10::lJ 12 11::mJ 4 12::[]) [4]) .ret
def Qsf:SC:=sR [zJ 4 0] [0,1,2] Qmf
def Qfe:List RS:=[.tmp 4]
theorem Qpy:mFn prog Qbi 3 13 Qsf Qfe=true:=by kernel_rfl
def Qxs:SC:=cT 6 (.reg [aJ 7 Qjz [kI 2]] [0,1]) .skip
def Qxt:SC:=sR [mJ 8 0,mJ 9 1,kJ 10 8,fJ 11 4 10,fI 12 (.iaa 1 16 (.t 11) (.t 9)),mJ 4 12] [4] .ret
def Qxu:SC:=.seq (sR [mJ 5 1,cJ 6 .geq 5 16] [0,1,6] Qxs) Qxt
def Q1k:SC:=sR [fI 4 (.mv (.k (.c .pnil)))] [0,1] Qxu
def Qke:List RS:=[.tmp 4]
theorem Q0u:mFn prog Qcc 2 13 Q1k Qke=true:=by kernel_rfl
def Qaqm:SC:=cT 29 .skip (.reg [cJ 31 .eql 9 7,mJ 29 31] [0,1,2,8,9,29])
def Qaqn:SC:=cT 33 (sR [zJ 6 0,fB 7 false] [6,7] .ret) .skip
def Qaqo:SC:=cT 35 (sR [mJ 36 1,mJ 37 2,bJ 38 .quo 36 37,mJ 6 38,fB 7 true] [6,7] .ret) .skip
def Qaqp:SC:=sR [mJ 39 1,mJ 40 2,bJ 41 .rem 39 40,mJ 6 41,fB 7 true] [6,7] .ret
def Qaqq:SC:=.seq (sR [mJ 34 0,cJ 35 .eql 34 6] [1,2,35] Qaqo) Qaqp
def Qy7:List Item:=[mJ 6 48,fB 7 true]
def Qy8:List Item:=[mJ 6 55,fB 7 true]
def Qamf:List Item:=[mJ 6 65,fB 7 true]
def Qaqr:SC:=cT 56 (sR (mJ 58 8::mJ 59 1::cJ 60 .neq 59 0::mJ 61 60::gTm 62 61 2::gT 63 61 (.bin 0 .neq (.t 62) (kI 0))::pF 64 61 63::eI 65 (.callv (.t 58) [.t 64])::Qamf) [6,7] .ret) .skip
def Qaqs:SC:=cT 49 (sR (mJ 51 8::mJ 52 1::mJ 53 2::bJ 54 .eql 52 53::eI 55 (.callv (.t 51) [.t 54])::Qy8) [6,7] .ret) (sR [cJ 57 .eql 9 10,mJ 56 57] [1,2,8,56] Qaqr)
def Qal7:SC:=cT 42 (sR (mJ 44 8::mJ 45 1::mJ 46 2::bJ 47 .lss 45 46::eI 48 (.callv (.t 44) [.t 47])::Qy7) [6,7] .ret) (sR [cJ 50 .eql 9 9,mJ 49 50] [1,2,8,9,49] Qaqs)
def Qy5:SC:=cT 29 (.seq (sR [mJ 32 2,cJ 33 .eql 32 0] [0,1,2,33] Qaqn) Qaqq) (sR [cJ 43 .eql 9 8,mJ 42 43] [1,2,8,9,42] Qal7)
def Qal8:SC:=cT 23 (sR [mJ 25 1,mJ 26 2,bJ 27 .mul 25 26,cJ 28 .rem 27 256,mJ 6 28,fB 7 true] [6,7] .ret) (.seq (sR [cJ 30 .eql 9 6,mJ 29 30] [0,1,2,8,9,29] Qaqm) Qy5)
def Qal9:SC:=cT 16 (sR [mJ 18 1,mJ 19 2,bJ 20 .sub 18 19,cJ 21 .add 20 256,cJ 22 .rem 21 256,mJ 6 22,fB 7 true] [6,7] .ret) (sR [cJ 24 .eql 9 5,mJ 23 24] [0,1,2,8,9,23] Qal8)
def Qama:SC:=cT 10 (sR [mJ 12 1,mJ 13 2,bJ 14 .add 12 13,cJ 15 .rem 14 256,mJ 6 15,fB 7 true] [6,7] .ret) (sR [cJ 17 .eql 9 4,mJ 16 17] [0,1,2,8,9,16] Qal9)
def Qamb:SC:=.block 0 (sR [cJ 11 .eql 9 3,mJ 10 11] [0,1,2,8,9,10] Qama)
def Qv0:List Item:=[mJ 6 69,fB 7 true]
def Qy6:SC:=sR (mJ 66 8::mJ 67 1::cJ 68 .eql 67 0::eI 69 (.callv (.t 66) [.t 68])::Qv0) [6,7] .ret
def Qamc:SC:=.seq (sR [mJ 9 0] [0,1,2,8,9] Qamb) Qy6
def Qamd:SC:=sR [fI 8 (.mv (.k (.c (.fn Qe2 []))))] [0,1,2,8] Qamc
def Qa35:SC:=sR [zJ 6 0,fB 7 false] [0,1,2] Qamd
def Qkc:List RS:=[.tmp 6,.tmp 7]
theorem Qaj6:mFn prog Qg0 3 70 Qa35 Qkc=true:=by kernel_rfl
def Q91:SC:=cT 3 (sR [zJ 2 1] [2] .ret) .skip
def Q92:SC:=sR [zJ 2 0] [2] .ret
def Q93:SC:=.seq (sR [mJ 3 0] [3] Q91) Q92
def Qame:SC:=sR [zJ 2 0] [0] Q93
def Ql1:List RS:=[.tmp 2]
theorem Qali:mFn prog Qe2 1 4 Qame Ql1=true:=by kernel_rfl
end Go.AE.Y

namespace Go.AE.Y
open Go.Proofs.Tryz
def Qsg:List Item:=[sJ 3 5 9]
def Qsh:List Item:=[mJ 3 15]
def Qsi:List Item:=fI 14 (.bsl 1 [.t 13])::xJ 15 1 10 14::Qsh
def Qahk:SC:=.seq .gh (.reg (mJ 10 3::mJ 11 0::fI 12 (.aslp 3 (.t 5) (some (.t 11)))::aJ 13 Qci [.t 12]::Qsi) [0,3,6,7])
def Qahl:SC:=.reg [cJ 16 .add 7 1,mJ 7 16] [0,3,6,7]
def Qahm:SC:=.seq (.block 1 (sR (fI 9 (.iax 3 3 (.t 6) (.t 7))::eI 5 (.alloc [.int .i64 0,.int .i64 0,.int .i64 0])::Qsg) [0,3,5,6,7] Qahk)) Qahl
def Qaai:SC:=sR [cJ 8 .lss 7 3] [0,3,6,7,8] (cX 8 0 Qahm)
def Qahn:SC:=sR [mJ 17 3,mJ 2 17] [2] .ret
def Qaho:SC:=.seq (sR [fI 6 (.ldg 9 0 0),zJ 7 0] [0,3,6,7] (bL 0 Qaai)) Qahn
def Qahp:SC:=sR [fI 3 (.mv (.k (.c (.sl true 1 []))))] [0,3] Qaho
def Qaqy:SC:=sR [fI 2 (.mv (.k (.c (.sl true 1 []))))] [0] Qahp
def Q23:List RS:=[.tmp 2]
theorem Qapq:mFn prog Qln 1 18 Qaqy Q23=true:=by kernel_rfl
def Qd6:List Item:=[sJ 2 7 13]
def Qd7:List Item:=[mJ 5 19]
def Qd8:List Item:=fI 18 (.bsl 1 [.t 17])::xJ 19 1 14 18::Qd7
def Qq7:SC:=.reg (mJ 14 5::mJ 15 1::tJ 16 2 7::eI 17 (.callv (.t 15) [.t 16])::Qd8) [1,5,8,9,10]
def Qq8:SC:=.reg [cJ 20 .add 10 1,mJ 10 20] [1,5,8,9,10]
def Qq9:SC:=.seq (.block 1 (sR (iJ 12 2 8 10::tJ 13 2 12::eI 7 (.alloc [.int .i64 0,.sl true 1 []])::Qd6) [1,5,7,8,9,10] Qq7)) Qq8
def Qoo:SC:=sR [bJ 11 .lss 10 9] [1,5,8,9,10,11] (cX 11 0 Qq9)
def Qra:SC:=sR [mJ 21 5,mJ 4 21] [4] .ret
def Qrb:SC:=.seq (sR [mJ 8 0,nJ 9 8,zJ 10 0] [1,5,8,9,10] (bL 0 Qoo)) Qra
def Qrc:SC:=sR [fI 5 (.mv (.k (.c (.sl true 1 []))))] [0,1,5] Qrb
def Qxq:SC:=sR [fI 4 (.mv (.k (.c (.sl true 1 []))))] [0,1] Qrc
def Qhi:List RS:=[.tmp 4]
theorem Qxg:mFn prog Qcv 2 22 Qxq Qhi=true:=by kernel_rfl
end Go.AE.Y

namespace Go.AE.Y
open Go.Proofs.Tryz
variable {H:Heap}{K:V→Heap→Prop}
def endV (n:Int):Value:=.iface 190 (.int .i64 n)
theorem Qbfl (n:Int)(w:World):Calls prog Qjz #[.int .i64 n] w fun e w'=>e=.panicked [{ v:=endV n,recovered:=false }]∧w'=w:=by
 go_enter Go.Proofs.Tryz.func271,Go.Proofs.Tryz.ntmps271
 go_wp2
 exact⟨rfl,rfl,rfl⟩
theorem Qbbb {n:Int}(hK:K (.pn (endV n)) H):Qp prog Qjz [.c (.int .i64 n)] H K:=by
 refine⟨by kernel_rfl,fun g w vs hs hl hv=>?_⟩
 obtain⟨v,rfl⟩:∃v,vs=[v]:=by
  match vs,hl with
  |[v],_=>exact⟨v,rfl⟩
 have hr:=hv 0 _ v rfl rfl
 cases hr with
 |c _ _ hr=>
  cases hr
  refine (Qbfl n w).mono fun e w'=>?_
  rintro⟨rfl,rfl⟩
  exact .inr ⟨_,H,g,rfl,hK,.refl hs⟩
end Go.AE.Y

namespace Go.AE
variable {P:Program}{H:Heap}{e:Env}
theorem Qbh8 {Q:X→Env→Heap→Prop}{v:Value}:X.panK Q v H=Q (.pan v) [] H:=rfl
theorem Qbk8 {b:SC}{Q:X→Env→Heap→Prop}{v:Value}:X.sq P b Q (.pan v) e H=Q (.pan v) e H:=rfl
theorem Qbj2 {i:Nat}{Q:X→Env→Heap→Prop}{v:Value}:X.inBlock i Q (.pan v) e H=Q (.pan v) e H:=rfl
theorem Qbds {K:Env→Heap→Prop}{Q:X→Env→Heap→Prop}{v:Value}:X.next K Q (.pan v) e H=Q (.pan v) e H:=rfl
theorem Qbb4 {rs:List RS}{K:V→Heap→Prop}{v:Value}:Q3 rs K (.pan v) e H=K (.pn v) H:=rfl
attribute [go_sem] Qbh8 Qbk8 Qbj2 Qbds Qbb4
end Go.AE
namespace Go.AE.Y
attribute [local go_sem] cond_true cond_false Bool.not_true Bool.not_false
open Go.Proofs.Tryz
variable {H H' H0:Heap}{K:V→Heap→Prop}{E A A' B:List (Nat×Obj)}
def Qh6 (l:List Int):List C:=l.map fun v=>.int .i64 v
structure Rs where
 u:Nat
 s:List Int
 c:List Int
 t:List Int
 sc:C
 so:List (Nat×Obj)
 tc:C
 tl:List (Nat×Obj)
def Rs.mt (r:Rs):List C:=Qh6 r.c++[r.tc]
structure Rn where
 l:Nat
 fl:Bool
 cs:List CodeD
 S:Nat
def Rn.o (X:Rn)(r:Rs):Obj:=.st (.sl X.fl 3 (Ql X.cs)::.int .i64 X.S::.int .i64 r.u::r.sc::r.mt)
def Rn.F (X:Rn)(r:Rs)(A B:List (Nat×Obj)):List (Nat×Obj):=[(X.l,X.o r)]++(A++((r.so++r.tl)++B))
structure Rs.ok (X:Rn)(r:Rs):Prop where
 gs:Gr r.so 1 (Qb r.s) r.sc
 gt:Gr r.tl 1 (Qb r.t) r.tc
 c:r.c.length=16
 bc:byL r.c
 bs:byL r.s
 ls:r.s.length≤r.u
 lt:r.t.length≤r.u+1
 uS:r.u≤X.S
 S:X.S≤60000
variable {X:Rn}{r r':Rs}
theorem Rs.ok.mt (h:r.ok X):r.mt.length=17:=by simp[Rs.mt,Qh6,h.c]
theorem Rs.ok.tick (h:r.ok X)(hu:r.u<X.S):Rs.ok X { r with u:=r.u+1 }:=⟨h.gs,h.gt,h.c,h.bc,h.bs,Nat.le_succ_of_le h.ls,Nat.le_succ_of_le h.lt,hu,h.S⟩
theorem F_in (k:Kn H0 H E (X.F r A B)):Kn H0 H E (X.F r [] (A++B)):=k.perm (Qj fun f hf h0 hc hp=>by simp only[Rn.F,hf,h0];omega)
theorem Qa6j (k:Kn H0 H E (X.F r [] (A++B))):Kn H0 H E (X.F r A B):=k.perm (Qj fun f hf h0 hc hp=>by simp only[Rn.F,hf,h0];omega)
theorem F_al {p:Nat×Obj}(k:Kn H0 H E (X.F r A B++[p])):Kn H0 H E (X.F r (A++[p]) B):=k.perm (Qj fun f hf h0 hc hp=>by simp only[Rn.F,hf,h0];omega)
theorem Qvo (k:Kn H0 H E (X.F r (A++A') B)):Kn H0 H E (X.F r A B):=Kn.drop (B:=A') (k.perm (Qj fun f hf h0 hc hp=>by simp only[Rn.F,hf,h0];omega))
theorem Qauk (k:Kn H0 H E (X.F r A (A'++B))):Kn H0 H E (X.F r A B):=Kn.drop (B:=A') (k.perm (Qj fun f hf h0 hc hp=>by simp only[Rn.F,hf,h0];omega))
theorem Qbjd (k:Kn H0 H E (X.F r (A++A') B)):Kn H0 H E (X.F r A (A'++B)):=k.perm (Qj fun f hf h0 hc hp=>by simp only[Rn.F,hf,h0];omega)
theorem Qbjc (k:Kn H0 H E (X.F r A (A'++B))):Kn H0 H E (X.F r (A++A') B):=k.perm (Qj fun f hf h0 hc hp=>by simp only[Rn.F,hf,h0];omega)
theorem F_s (k:Kn H0 H E (X.F r A B)):Kn H0 H E (([(X.l,X.o r)]++(A++(r.tl++B)))++r.so):=k.perm (Qj fun f hf h0 hc hp=>by simp only[Rn.F,hf,h0];omega)
theorem F_s' {so:List (Nat×Obj)}(hs:r'.so=so)(ht:r'.tl=r.tl)(k:Kn H0 H E (([(X.l,X.o r')]++(A++(r.tl++B)))++so)):Kn H0 H E (X.F r' A B):=k.perm (Qj fun f hf h0 hc hp=>by simp only[Rn.F,hf,h0,hs,ht];omega)
theorem F_t (k:Kn H0 H E (X.F r A B)):Kn H0 H E (([(X.l,X.o r)]++(A++(r.so++B)))++r.tl):=k.perm (Qj fun f hf h0 hc hp=>by simp only[Rn.F,hf,h0];omega)
theorem F_t' {tl:List (Nat×Obj)}(ht:r'.tl=tl)(hs:r'.so=r.so)(k:Kn H0 H E (([(X.l,X.o r')]++(A++(r.so++B)))++tl)):Kn H0 H E (X.F r' A B):=k.perm (Qj fun f hf h0 hc hp=>by simp only[Rn.F,hf,h0,hs,ht];omega)
theorem F_o (k:Kn H0 H E (X.F r A B)):H X.l=.st (.sl X.fl 3 (Ql X.cs)::.int .i64 X.S::.int .i64 r.u::r.sc::r.mt):=k.l 0 rfl
theorem Qbjn {a b c d:C}{m:List C}{j:Nat}:(a::b::c::d::m).drop (4+j)=m.drop j:=by rw[Nat.add_comm];rfl
theorem take4 {a b c d:C}{m:List C}{j:Nat}:(a::b::c::d::m).take (4+j)=a::b::c::d::m.take j:=by rw[Nat.add_comm];rfl
theorem Rs.ok.get (h:r.ok X){j:Nat}(hj:j<16):(r.mt.drop j).take 1=[.int .i64 (r.c.getD j 0)]:=by
 have hj':j<(Qh6 r.c).length:=by rw[Qh6,List.length_map,h.c];exact hj
 have hj2:j<r.c.length:=by rw[h.c];exact hj
 rw[Rs.mt,List.drop_append_of_le_length (by omega),List.drop_eq_getElem_cons hj',List.cons_append,List.take_succ_cons,List.take_zero]
 simp[Qh6,List.getD_eq_getElem?_getD,hj2]
theorem Rs.ok.dl (h:r.ok X)(j:Nat):(r.mt.drop j).length=17-j:=by rw[List.length_drop,h.mt]
theorem Rs.ok.put (h:r.ok X){j:Nat}(hj:j<16)(v:Int):r.mt.take j++[.int .i64 v]++r.mt.drop (j+1)=Rs.mt { r with c:=r.c.set j v }:=by
 have hj':j<(Qh6 r.c).length:=by rw[Qh6,List.length_map,h.c];exact hj
 rw[Rs.mt,Rs.mt,List.take_append_of_le_length (by omega),List.drop_append_of_le_length (by omega)]
 have:Qh6 (r.c.set j v)=(Qh6 r.c).take j++.int .i64 v::(Qh6 r.c).drop (j+1):=by
  rw[Qh6,List.map_set,List.set_eq_take_append_cons_drop,if_pos (by simpa[Qh6]using hj')]
  rfl
 show _=Qh6 (r.c.set j v)++[r.tc]
 rw[this];simp
theorem Rs.ok.cells (h:r.ok X){j:Nat}{v:Int}(hv:byI v):Rs.ok X { r with c:=r.c.set j v }:=⟨h.gs,h.gt,by simp[h.c],h.bc.set hv j,h.bs,h.ls,h.lt,h.uS,h.S⟩
theorem Qbgb (kn:Kn H0 H E (X.F r A B))(hr:r.ok X)
  (hK:∀H',r.u<X.S→Kn H0 H' E (X.F { r with u:=r.u+1 } A B)→Rs.ok X { r with u:=r.u+1 }→K (.tup []) H')
  (hP:r.u=X.S→K (.pn (endV 3)) H):Qp prog Qce [.c (.ptr X.l 0)] H K:=by
 refine Qd Qak Q0w ?_
 have hmt:=hr.mt
 have hX:=F_o kn
 have hS:=hr.S
 have huS:=hr.uS
 refine Q6 ?_
 refine Qag ?_
 simp only[go_sem,hX,hmt]
 refine Qh (Qe rfl ?_ ?_)
 ·intro hc
  have hu:r.u=X.S:=by
   have:=of_decide_eq_true hc
   omega
  refine Qt ?_
  simp only[go_sem]
  refine Qbbb ?_
  simp only[go_sem]
  exact hP hu
 ·intro hc
  have hu:r.u<X.S:=by
   have:=of_decide_eq_false hc
   omega
  refine Qi ?_
  try simp only[go_sem]
  refine Qt ?_
  simp only[go_sem,hX,hmt]
  refine⟨Qs (by omega) (by omega),fun H' h'=>?_⟩
  have kn':Kn H0 H' E (X.F { r with u:=r.u+1 } A B):=kn.stL 0 rfl h'
  simp only[go_sem,Q3,Q9,Qkg]
  exact hK H' hu kn' (hr.tick hu)
theorem Qbfw {l:Nat}{n:Int}(hn:0≤n)(hK:n<16→K (.c (.ptr l (4+n.toNat))) H)(hP:16≤n→K (.pn (endV 2)) H) :
  Qp prog Qcc [.c (.ptr l 0),.c (.int .i64 n)] H K:=by
 refine Qd Qak Q0u ?_
 refine Qa ?_
 simp only[go_sem]
 refine Q6 ?_
 refine Qa ?_
 simp only[go_sem]
 refine Qh (Qe rfl ?_ ?_)
 ·intro hc
  have h16:16≤n:=of_decide_eq_true hc
  refine Qt ?_
  simp only[go_sem]
  refine Qbbb ?_
  simp only[go_sem]
  exact hP h16
 ·intro hc
  have h16:n<16:=by have:=of_decide_eq_false hc;omega
  refine Qi ?_
  try simp only[go_sem]
  refine Qa ?_
  simp only[go_sem]
  refine⟨⟨hn,by omega⟩,?_⟩
  refine Qk ?_
  simp only[go_sem,Q3,Q9,Qke,List.mem_singleton,forall_eq,RS.op]
  have:=hK h16
  simpa using this
theorem Qa0q {b:Bool}(hK:K (.c (.int .i64 (trI (b=true)))) H):Qp prog Qe2 [.c (.bool b)] H K:=by
 refine Qd Qak Qali ?_
 refine Qa ?_
 simp only[go_sem]
 refine Q6 ?_
 refine Qa ?_
 simp only[go_sem]
 refine Qh (Qe rfl ?_ ?_)
 ·intro hc
  subst hc
  refine Qa ?_
  simp only[go_sem]
  refine Qk ?_
  simp only[go_sem,Q3,Q9,Ql1,List.mem_singleton,forall_eq,RS.op]
  exact hK
 ·intro hc
  subst hc
  refine Qi ?_
  try simp only[go_sem]
  refine Qa ?_
  simp only[go_sem]
  refine Qk ?_
  simp only[go_sem,Q3,Q9,Ql1,List.mem_singleton,forall_eq,RS.op]
  exact hK
theorem Qa0p {p:Prop} [Decidable p]:trI (decide p=true)=trI p:=by simp[trI]
def arP (op a b:Int):Int×Bool:=match arR op a b with
 |some v=>(v,true)
 |none=>(0,false)
theorem Qa2c {a b:Int}(h:0≤a):a.tmod b=a % b:=Int.tmod_eq_emod_of_nonneg h
theorem Qbga {a b:Int}(h:0≤a):a.tdiv b=a / b:=Int.tdiv_eq_ediv_of_nonneg h
set_option maxHeartbeats 2000000 in
theorem Qbgk {op a b:Int}(ha:byI a)(hb:byI b)(h3:3≤op)(h9:op≤9)(hK:K (.tup [.c (.int .i64 (arP op a b).1),.c (.bool (arP op a b).2)]) H) :
  Qp prog Qg0 [.c (.int .i64 op),.c (.int .i64 a),.c (.int .i64 b)] H K:=by
 obtain⟨a0,a1⟩:=ha
 obtain⟨b0,b1⟩:=hb
 refine Qd Qak Qaj6 ?_
 have retf:∀(v:Int) (t:Bool) (e:Env),arP op a b=(v,t)→lk 6 e=.c (.int .i64 v)→lk 7 e=.c (.bool t)→Q3 Qkc K .ret e H:=by
  intro v t e h1 h2 h3
  simp only[go_sem,Q3,Q9,Qkc,RS.op,h2,h3]
  rw[h1]at hK
  exact hK
 refine Qa ?_
 simp only[go_sem]
 refine Qa ?_
 simp only[go_sem]
 refine Q6 ?_
 refine Qa ?_
 simp only[go_sem]
 refine Qh (Qg ?_)
 refine Qa ?_
 simp only[go_sem]
 refine Qe rfl ?_ ?_
 ·intro hc
  have ho:op=3:=of_decide_eq_true hc
  subst ho
  refine Qa ?_
  simp only[go_sem]
  refine⟨Qs (by omega) (by omega),by omega,?_⟩
  refine Qk ?_
  simp only[go_sem]
  refine retf _ _ _ ?_ rfl rfl
  rw[Qa2c (by omega)];rfl
 intro hc
 have n3:=of_decide_eq_false hc
 refine Qa ?_
 simp only[go_sem]
 refine Qe rfl ?_ ?_
 ·intro hc
  have ho:op=4:=of_decide_eq_true hc
  subst ho
  refine Qa ?_
  simp only[go_sem]
  refine⟨Qs (by omega) (by omega),Qs (by omega) (by omega),by omega,?_⟩
  refine Qk ?_
  simp only[go_sem]
  refine retf _ _ _ ?_ rfl rfl
  rw[Qa2c (by omega)];rfl
 intro hc
 have n4:=of_decide_eq_false hc
 refine Qa ?_
 simp only[go_sem]
 refine Qe rfl ?_ ?_
 ·intro hc
  have ho:op=5:=of_decide_eq_true hc
  subst ho
  have hab:0≤a * b:=Int.mul_nonneg a0 b0
  have hab2:a * b≤255 * 255:=Int.mul_le_mul a1 b1 b0 (by omega)
  refine Qa ?_
  simp only[go_sem]
  refine⟨Qs (by omega) (by omega),by omega,?_⟩
  refine Qk ?_
  simp only[go_sem]
  refine retf _ _ _ ?_ rfl rfl
  rw[Qa2c hab];rfl
 intro hc
 have n5:=of_decide_eq_false hc
 refine Q6 ?_
 refine Qa ?_
 simp only[go_sem]
 have h67:∀(t:Bool),(t=decide (op=6∨op=7))→Qad prog Qy5 (X.inBlock 0 (X.sq prog Qy6 (Q3 Qkc K))) [(0,.c (.int .i64 op)),(1,.c (.int .i64 a)),(2,.c (.int .i64 b)),(8,.c (.fn Qe2 [])),(9,.c (.int .i64 op)),(29,.c (.bool t))] H:=by
  intro t ht
  refine Qe rfl ?_ ?_
  ·intro h
   have h67:op=6∨op=7:=by rw[ht]at h;exact of_decide_eq_true h
   refine Q6 ?_
   refine Qa ?_
   simp only[go_sem]
   refine Qh (Qe rfl ?_ ?_)
   ·intro hc
    have hb:b=0:=of_decide_eq_true hc
    subst hb
    refine Qa ?_
    simp only[go_sem]
    refine Qk ?_
    simp only[go_sem]
    refine retf _ _ _ ?_ rfl rfl
    rcases h67 with rfl|rfl <;> rfl
   intro hc
   have hb:¬b=0:=of_decide_eq_false hc
   refine Qi ?_
   try simp only[go_sem]
   refine Q6 ?_
   refine Qa ?_
   simp only[go_sem]
   refine Qh (Qe rfl ?_ ?_)
   ·intro hc
    have ho:op=6:=of_decide_eq_true hc
    subst ho
    have hd1:0≤a / b:=Int.ediv_nonneg a0 b0
    have hd2:a / b≤a:=Int.ediv_le_self _ a0
    refine Qa ?_
    simp only[go_sem]
    refine⟨⟨hb,by rw[Qbga a0];exact Qs (by omega) (by omega)⟩,?_⟩
    refine Qk ?_
    simp only[go_sem]
    refine retf _ _ _ ?_ rfl rfl
    rw[Qbga a0,arP,arR];simp[hb]
   ·intro hc
    have ho:op=7:=by have:=of_decide_eq_false hc;omega
    subst ho
    refine Qi ?_
    try simp only[go_sem]
    refine Qa ?_
    simp only[go_sem]
    refine⟨hb,?_⟩
    refine Qk ?_
    simp only[go_sem]
    refine retf _ _ _ ?_ rfl rfl
    rw[Qa2c a0,arP,arR];simp[hb]
  ·intro h
   have h67:¬(op=6∨op=7):=by rw[ht]at h;exact of_decide_eq_false h
   refine Qa ?_
   simp only[go_sem]
   refine Qe rfl ?_ ?_
   ·intro hc
    have ho:op=8:=of_decide_eq_true hc
    subst ho
    refine Qa ?_
    simp only[go_sem]
    refine Qa0q ?_
    rw[Qa0p]
    simp only[go_sem,Qy7]
    refine Qk ?_
    simp only[go_sem]
    exact retf _ _ _ rfl rfl rfl
   intro hc
   have n8:=of_decide_eq_false hc
   have ho:op=9:=by omega
   subst ho
   refine Qa ?_
   simp only[go_sem]
   refine Qe rfl ?_ (fun h=>by simp at h)
   intro _
   refine Qa ?_
   simp only[go_sem]
   refine Qa0q ?_
   rw[Qa0p]
   simp only[go_sem,Qy8]
   refine Qk ?_
   simp only[go_sem]
   exact retf _ _ _ rfl rfl rfl
 refine Qh (Qe rfl ?_ ?_)
 ·intro hc
  have ho:op=6:=of_decide_eq_true hc
  refine Qi ?_
  simp only[go_sem]
  exact h67 _ (by rw[hc];simp[ho])
 ·intro hc
  have n6:=of_decide_eq_false hc
  refine Qt ?_
  simp only[go_sem]
  exact h67 _ (by simp[n6])
theorem Qa2n {a:Int}(hK:K (.tup [.c (.int .i64 (trI (a=0))),.c (.bool true)]) H) :
  Qp prog Qg0 [.c (.int .i64 11),.c (.int .i64 a),.c (.int .i64 0)] H K:=by
 refine Qd Qak Qaj6 ?_
 refine Qa ?_
 simp only[go_sem]
 refine Qa ?_
 simp only[go_sem]
 refine Q6 ?_
 refine Qa ?_
 simp only[go_sem]
 refine Qh (Qg ?_)
 refine Qa ?_
 simp only[go_sem]
 refine Qe rfl (fun h=>by simp at h) fun _=>?_
 refine Qa ?_
 simp only[go_sem]
 refine Qe rfl (fun h=>by simp at h) fun _=>?_
 refine Qa ?_
 simp only[go_sem]
 refine Qe rfl (fun h=>by simp at h) fun _=>?_
 refine Q6 ?_
 refine Qa ?_
 simp only[go_sem]
 refine Qh (Qe rfl (fun h=>by simp at h) fun _=>?_)
 refine Qt ?_
 simp only[go_sem]
 refine Qe rfl (fun h=>by simp at h) fun _=>?_
 refine Qa ?_
 simp only[go_sem]
 refine Qe rfl (fun h=>by simp at h) fun _=>?_
 refine Qa ?_
 simp only[go_sem]
 refine Qe rfl (fun h=>by simp at h) fun _=>?_
 refine Qa ?_
 simp only[go_sem]
 refine Qe rfl (fun h=>by simp at h) fun _=>?_
 refine Qi ?_
 simp only[go_sem]
 refine Qa ?_
 simp only[go_sem]
 refine Qa0q ?_
 rw[Qa0p]
 simp only[go_sem,Qv0]
 refine Qk ?_
 simp only[go_sem,Q3,Q9,Qkc,RS.op]
 exact hK
end Go.AE.Y

