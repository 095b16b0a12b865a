/- Part 4 of the proof: the engine, codes, walks and plain laws, each named where it stands. -/
import Derived.Test.YtajdffbgjodbfaaGreatZC
import Derived.Shelf.Sort.Plain
import Derived.Shelf.Sort.So_math_bits_LenIn
open Nat (reduceEqDiff reduceAdd reduceLeDiff reduceLT)
set_option linter.unusedVariables false
set_option linter.unusedSimpArgs false
set_option maxRecDepth 4000
namespace Go.AE.Y
open Go.Proofs.Tryz
variable {F H:Heap}{w:Nat}{s:LS}{K:V→Heap→Prop}
set_option maxHeartbeats 1000000 in
theorem Qbaf {n:Nat}(hS:∀m,m<n→Qay9 m):Qbgs n:=by
 intro x F H w s N K hn hok h hat hsok hN hK
 have hsz:=x.size_eq
 rw[St.ok_eq]at hok
 obtain⟨hap,hao,hbo,heo⟩:=hok
 have ham:=Qdp (List.getElem_mem hap)
 refine Qb Qat Qaku ?_
 refine Qa ?_
 simp only[go_sem,x.cells_eq]
 refine Qa ?_
 simp only[go_sem]
 refine Qeu h hsok (by omega) fun s1 H1 h1 st1 hb1=>?_
 simp only[go_sem,Qnh]
 refine Qa ?_
 simp only[go_sem]
 refine Qeu h1 (st1.ok _ hsok) (by omega) fun s2 H2 h2 st2 hb2=>?_
 have st2:=st1.trans st2
 simp only[go_sem,Qni]
 refine Qa ?_
 simp only[go_sem]
 refine Qeu h2 (st2.ok _ hsok) (by omega) fun s3 H3 h3 st3 hb3=>?_
 have st3:=st2.trans st3
 simp only[go_sem,Qnj]
 refine Qa ?_
 simp only[go_sem]
 refine Qow (next:=[(s.blocks.length:Int)]) (N:=0) h3 (st3.at_ hat) (by omega) fun s4 H4 h4 st4=>?_
 have hb4:=st4.bl
 have st4:=st3.trans st4
 refine Qa ?_
 simp only[go_sem,hap,Qa2,Qdo _ _ hap,Ex.take4,Ex.allOw,Ex.cells_len]
 refine⟨by omega,?_⟩
 refine Qbft _ x.args[0] F H4 w s4 _ _ (Nat.le_refl _) (Q29 hao _ (List.getElem_mem hap)) h4 (st4.at_ hat) (st4.ok _ hsok) (by omega) fun v s5 H5 h5 st5=>?_
 have hb5:=st5.bl
 have st5:=st4.trans st5
 simp only[go_sem,Qnk]
 refine Qa ?_
 simp only[go_sem]
 refine Qow (next:=[(s1.blocks.length:Int),(s2.blocks.length:Int)]) (N:=0) h5 (st5.at_ hat) (by omega) fun s6 H6 h6 st6=>?_
 have hb6:=st6.bl
 have st6:=st5.trans st6
 refine Qa ?_
 simp only[go_sem]
 refine hS (Qy x.body) (by omega) x.body _ F H6 w s6 _ _ (Nat.le_refl _) hbo h6 (st6.at_ hat) (st6.ok _ hsok) (by omega) fun s7 H7 h7 st7=>?_
 have hb7:=st7.bl
 have st7:=st6.trans st7
 refine Qr ?_
 simp only[go_sem]
 refine Qow (next:=[(s.blocks.length:Int)]) (N:=0) h7 (st7.at_ hat) (by omega) fun s8 H8 h8 st8=>?_
 have st8:=st7.trans st8
 simp only[Q5,Qae,Qw3]
 exact⟨by simp,hK s8 H8 h8 (st8.mono (by omega))⟩
set_option maxHeartbeats 2000000 in
theorem Qbb5 {n:Nat}(hS:∀m,m<n→Qay9 m):Qbff n:=by
 intro x F H w s N K hn hok h hat hsok hN hK
 have hok':=hok
 have hsz:=x.size_eq
 rw[St.ok_eq]at hok
 obtain⟨hap,hao,hbo,heo⟩:=hok
 refine Qb Qat Qakv ?_
 have retn:∀(e:Env) (s':LS) (H':Heap) (q:X),(q=.nrm∨q=.ret)→LInv F H' w s'→LStep s s' (10 * x.size)→Q5 Ql4 K q e H':=by
  intro e s' H' q hq a1 a2
  rcases hq with rfl|rfl <;> exact⟨by simp[Ql4],hK s' H' a1 a2⟩
 refine Qa ?_
 simp only[go_sem,x.cells_eq]
 refine Q4 ?_
 refine Qa ?_
 simp only[go_sem]
 refine Qh (Qe rfl ?_ ?_)
 ·intro hc
  refine Qa ?_
  simp only[go_sem]
  rw[←x.cells_eq]
  refine Qbaf hS x F H w s N _ hn hok' h hat hsok hN fun s1 H1 h1 st1=>?_
  refine Qj ?_
  simp only[go_sem]
  exact retn _ s1 H1 _ (.inr rfl) h1 st1
 intro hc0
 refine Qi ?_
 simp only[go_sem]
 refine Qa ?_
 simp only[go_sem]
 refine Q4 ?_
 refine Qa ?_
 simp only[go_sem]
 refine Qh (Qc (Qw (fun n e1 H1=>∃(i:Nat) (ars:List Int) (c:C) (Lg:List (Nat×Obj)) (s':LS),n=x.args.length-i∧i≤x.args.length∧ars.length=i∧Gr Lg 1 (Qd ars) c∧LInv F H1 w s'∧Kn F H1 [] (s'.L w++Lg)∧
  LStep s s' (10 * Qah (x.args.take i))∧e1=[(0,.c (.ptr w 0)),(3,.c (.pp [.int .i64 x.op,.str x.name,.sl false 4 (Qbn x.args),.sl false 5 (Qaz x.body),.sl false 5 (Qaz x.els)])),(4,.c c),(5,.c (.int .i64 i))]) x.args.length ?_ ?_))
 ·exact⟨0,[],_,[],s,by omega,by omega,rfl,.nil 1,h,by simpa using h.kn,(LStep.refl s).mono (by omega),rfl⟩
 ·rintro n e1 H1 ⟨i,ars,c,Lg,s1,hn1,hi,harl,hgr,h1,kn,st1,rfl⟩
  refine Q4 ?_
  refine Qa ?_
  simp only[go_sem,Qa2]
  intro hl
  simp only[LIM]at hl
  refine Qh (Qe rfl ?_ ?_)
  ·intro hc
   have hlt:i<x.args.length:=by simpa using hc
   have hm:=Qdp (List.getElem_mem hlt)
   have htk:=Qlk hlt
   have htl:=Qe8 x.args (i+1)
   refine Qi ?_
   simp only[go_sem]
   refine Qh (Qc (Qr ?_))
   simp only[go_sem,hlt,Qa2,Qdo _ _ hlt,Ex.take4,Ex.allOw,Ex.cells_len]
   obtain⟨F',hf,back⟩:=h1.beside kn hgr
   refine Qbft _ _ F' H1 w s1 _ _ (Nat.le_refl _) (Q29 hao _ (List.getElem_mem hlt)) hf (st1.at_ hat) (st1.ok _ hsok) (by omega) fun v s2 H2 h2 st2=>?_
   obtain⟨h2,kn⟩:=back s2 H2 h2
   simp only[go_sem,Qnm]
   refine kn.grow (new:=Qd [v]) hgr (.mk' _ _ _ _) (Qv _) (by simp only[Qf,harl,List.length_cons,List.length_nil,LIM];omega) fun y' H3 kn=>?_
   simp only[go_sem,Qnl]
   refine Qr ?_
   simp only[go_sem,X.next]
   refine⟨Qo (by omega) (by omega),x.args.length-(i+1),by omega,i+1,ars++[v],_,_,s2,rfl,by omega,by simp[harl],.mk y' 1 (Qd (ars++[v])) (n:=(Qd ars).length+(Qd [v]).length) (by simp[Qd]),h2.re kn.drop,by rw[Qcb];exact kn,(st1.trans st2).mono (by rw[htk];omega),by simp[Qd]⟩
  ·intro hc
   have hge:x.args.length≤i:=by simpa using hc
   have hil:i=x.args.length:=by omega
   rw[List.take_of_length_le hge]at st1
   have har0:0<ars.length:=by omega
   refine Qt ?_
   simp only[go_sem,X.next]
   refine Q4 ?_
   obtain⟨S,H2,f1,f2,kn2⟩:=hgr.freeze kn (Qv _)
   have h2:=h1.re kn2
   refine c_gh (Qe4 S (fun t=>?_) f2) (e':=[(0,.c (.ptr w 0)),(3,.c (.pp [.int .i64 x.op,.str x.name,.sl false 4 (Qbn x.args),.sl false 5 (Qaz x.body),.sl false 5 (Qaz x.els)])),(4,.c (.sl false 1 (Qd ars)))]) ?_
   ·simp only[lk]
    split
    ·exact .c _ _ (.same _ rfl)
    ·split
     ·exact .c _ _ (.same _ rfl)
     ·split
      ·exact .c _ _ f1
      ·exact .unk _
   have hsok1:=st1.ok _ hsok
   have hat1:=st1.at_ hat
   have hw2:=h2.hw
   refine Qa ?_
   simp only[go_sem]
   refine Qc ?_
   refine Qa ?_
   simp only[go_sem]
   refine Qe rfl ?_ ?_
   ·
    intro hc
    refine Qa ?_
    simp only[go_sem,hw2,LS.o]
    refine Qvo h2 hat1 hsok1 (by omega) fun s3 H3 h3 st3=>?_
    have hw3:=h3.hw
    have hvo:=h3.gv.isOw
    have hsok3:=st3.ok _ hsok1
    have st3:=st1.trans st3
    refine Qak ?_
    simp only[go_sem,hw3,LS.o,hvo]
    refine h3.addVar ⟨x.name,s3.next,0,rfl⟩ (by have:=hsok3.v1;simp only[LIM];omega) fun y H4 hw4 cont=>?_
    simp only[go_sem,Qnn,hw4,LS.o]
    intro H5 h5
    have h5':=cont H5 h5
    have hw5:=h5'.hw
    refine Qr ?_
    have hn0:=hsok3.n0
    have hn1:=hsok3.n1
    simp only[go_sem,hw5,LS.o]
    refine⟨Qo (by omega) (by omega),fun H6 h6=>?_⟩
    have h6':=h5'.setw (s':={ s3 with vc:=.vsl y 3 0 (s3.vars.length+1),lv:=[(y,.vec 3 (s3.vars++[[C.str x.name,C.int IntKind.i64 s3.next,C.int IntKind.i64 0]]))],vars:=s3.vars++[[C.str x.name,C.int IntKind.i64 s3.next,C.int IntKind.i64 0]],next:=s3.next+1 }) h6 rfl rfl rfl rfl h5'.gv h5'.rv
    refine retn _ _ H6 _ (.inl rfl) h6' ⟨st3.bl,fun M hM=>?_,?_,st3.at_,st3.fn⟩
    ·have q:=st3.ok M hM
     refine⟨q.r0,?_,?_,?_,?_,fun b hb=>?_,?_⟩
     ·have:=q.r1;show s3.regs≤_;omega
     ·have:=q.n0;show 0≤s3.next+1;omega
     ·have:=q.n1;show s3.next+1≤_;omega
     ·have:=q.b1;show s3.blocks.length≤_;omega
     ·have:=q.i1 b hb;omega
     ·have:=q.v1;simp;omega
    ·have:=st3.vl;simp;omega
   intro hc1
   refine Qa ?_
   simp only[go_sem]
   refine Qe rfl ?_ ?_
   ·
    intro hc
    refine Qr ?_
    simp only[go_sem]
    refine Qbgb h2 fun v=>?_
    simp only[go_sem,Qno]
    refine Qvo h2 hat1 hsok1 (by omega) fun s3 H3 h3 st3=>?_
    exact retn _ _ H3 _ (.inl rfl) h3 ((st1.trans st3).mono (by omega))
   intro hc2
   refine Qa ?_
   simp only[go_sem]
   refine Qe rfl ?_ ?_
   ·intro hc
    refine Qr ?_
    simp only[go_sem]
    refine Qvo h2 hat1 hsok1 (by omega) fun s3 H3 h3 st3=>?_
    exact retn _ _ H3 _ (.inl rfl) h3 ((st1.trans st3).mono (by omega))
   intro hc3
   refine Qa ?_
   simp only[go_sem]
   refine Qe rfl ?_ ?_
   ·intro hc
    refine Qr ?_
    simp only[go_sem]
    refine Qvo h2 hat1 hsok1 (by omega) fun s3 H3 h3 st3=>?_
    exact retn _ _ H3 _ (.inl rfl) h3 ((st1.trans st3).mono (by omega))
   intro hc4
   refine Qa ?_
   simp only[go_sem]
   refine Qe rfl ?_ ?_
   ·
    intro hc
    refine Qbb ?_
    simp only[go_sem,har0,Qf,Qs _ _ har0]
    refine⟨by omega,?_⟩
    refine Qeu h2 hsok1 (by omega) fun s3 H3 h3 st3 hb3=>?_
    have st3:=st1.trans st3
    simp only[go_sem,Qk0,har0,Qf,Qs _ _ har0]
    refine⟨by omega,?_⟩
    refine Qow (next:=[]) (N:=0) h3 (st3.at_ hat) (by omega) fun s4 H4 h4 st4=>?_
    exact retn _ _ H4 _ (.inl rfl) h4 ((st3.trans st4).mono (by omega))
   intro hc5
   refine Qa ?_
   simp only[go_sem]
   refine Qe rfl ?_ ?_
   ·
    intro hc
    refine Qa ?_
    simp only[go_sem]
    refine Qeu h2 hsok1 (by omega) fun s3 H3 h3 st3 hb3=>?_
    have st3:=st1.trans st3
    simp only[go_sem,Qk1]
    refine Qa ?_
    simp only[go_sem]
    refine Qeu h3 (st3.ok _ hsok) (by omega) fun s4 H4 h4 st4 hb4=>?_
    have st4:=st3.trans st4
    simp only[go_sem,Qk2]
    refine Qa ?_
    simp only[go_sem]
    refine Qeu h4 (st4.ok _ hsok) (by omega) fun s5 H5 h5 st5 hb5=>?_
    have st5:=st4.trans st5
    simp only[go_sem,Qk3]
    refine Qa ?_
    simp only[go_sem,har0,Qf,Qs _ _ har0]
    refine⟨by omega,?_⟩
    refine Qow (next:=[(s1.blocks.length:Int),(s3.blocks.length:Int)]) (N:=0) h5 (st5.at_ hat) (by omega) fun s6 H6 h6 st6=>?_
    have hb6:=st6.bl
    have st6:=st5.trans st6
    refine Qa ?_
    simp only[go_sem]
    refine hS (Qy x.body) (by omega) x.body _ F H6 w s6 _ _ (Nat.le_refl _) hbo h6 (st6.at_ hat) (st6.ok _ hsok) (by omega) fun s7 H7 h7 st7=>?_
    have hb7:=st7.bl
    have st7:=st6.trans st7
    refine Qa ?_
    simp only[go_sem]
    refine Qow (next:=[(s4.blocks.length:Int)]) (N:=0) h7 (st7.at_ hat) (by omega) fun s8 H8 h8 st8=>?_
    have hb8:=st8.bl
    have st8:=st7.trans st8
    refine Qa ?_
    simp only[go_sem]
    refine hS (Qy x.els) (by omega) x.els _ F H8 w s8 _ _ (Nat.le_refl _) heo h8 (st8.at_ hat) (st8.ok _ hsok) (by omega) fun s9 H9 h9 st9=>?_
    have hb9:=st9.bl
    have st9:=st8.trans st9
    refine Qr ?_
    simp only[go_sem]
    refine Qow (next:=[(s4.blocks.length:Int)]) (N:=0) h9 (st9.at_ hat) (by omega) fun s10 H10 h10 st10=>?_
    exact retn _ _ H10 _ (.inl rfl) h10 ((st9.trans st10).mono (by omega))
   ·intro hc6
    refine Qi ?_
    simp only[go_sem]
    exact retn _ _ H2 _ (.inl rfl) h2 (st1.mono (by omega))
theorem Qbgm (n:Nat):Qay9 n:=by
 induction n using Nat.strongRecOn with
 |ind n ih=>exact Qa8r (Qbb5 ih)
end Go.AE.Y

namespace Go.AE.Y
open Go.Proofs.Tryz
variable {H:Heap}{K:V→Heap→Prop}
set_option maxHeartbeats 2000000 in
theorem Qbfy {fns:List Fn}{fl:Bool}{k:Nat}(hk:k<fns.length)(hpl:fns[k].params.length≤3)(hbo:Qcr fns[k].body)(hbs:Qy fns[k].body≤2^34)
  (hK:∀(c:CodeD) (H':Heap),Upd H H' []→c.fits→K (.ag c.cells) H'):Qu prog Qar9 [.ag [.sl fl 3 (Qb4 fns)],.c (.int .i64 k)] H K:=by
 refine Qz ?_
 refine Qb Qat Qbf4 ?_
 refine Qa ?_
 simp only[go_sem]
 intro x4 hx4 H1 h1
 have kn:=(Kn.start0 H).al hx4 h1
 refine Qa ?_
 simp only[go_sem,hk,Qbf,Qe3 _ _ hk,Fn.take3,Fn.allOw,Fn.cells_len]
 generalize fns[k]=f at *
 intro x5 hx5 H2 h2
 have kn:=kn.al hx5 h2
 have hx52:=kn.l 1 rfl
 simp only[go_sem,Qaq1,hx52,Fn.cells]
 intro H3 h3
 have kn:Kn H H3 [] [(x4,.st [.int .i64 0,.int .i64 0,.sl true 5 []]),(x5,.st [.str f.name,.sl false 1 (Qbg f.params),.sl false 5 (Qaz f.body)])]:=kn.stL 1 rfl h3
 have hx43:=kn.l 0 rfl
 have hx53:=kn.l 1 rfl
 have h45:=kn.neL 0 1 rfl rfl (by decide)
 refine Qa ?_
 simp only[go_sem,hx53,Qap]
 intro hpl2 w hw H4 h4
 have h:LInv H3 H4 w ⟨fns,fl,0,0,.sl true 5 [],[],[],0,.sl true 3 [],[],[],f.params.length⟩:=
  ⟨(Kn.start0 H3).al hw h4,.nil 5,.inl ⟨rfl,rfl,rfl⟩,by simp,by simp,by simp⟩
 have hfr:∀(s:LS) (H':Heap),LInv H3 H' w s→H' x4=.st [.int .i64 0,.int .i64 0,.sl true 5 []]∧H' x5=.st [.str f.name,.sl false 1 (Qbg f.params),.sl false 5 (Qaz f.body)]:=fun s H' h'=>
  ⟨by rw[h'.kn.chg x4 (by rw[hx43];simp) (by simp),hx43],by rw[h'.kn.chg x5 (by rw[hx53];simp) (by simp),hx53]⟩
 have hx54:=(hfr _ _ h).2
 have hw4:=h.hw
 simp only[go_sem,Qaq2]
 refine Qa ?_
 simp only[go_sem,hx54,hw4,LS.o,Qap]
 intro _ H5 h5
 have h:=h.setw (s':=⟨fns,fl,f.params.length,0,.sl true 5 [],[],[],0,.sl true 3 [],[],[],f.params.length⟩) h5 rfl rfl rfl rfl h.gv h.rv
 have hx55:=(hfr _ _ h).2
 refine Qak ?_
 simp only[go_sem,hx55,Qap]
 refine Qbac _ f.body (Nat.le_refl _) (by omega) fun v hv=>?_
 have hw5:=h.hw
 simp only[go_sem,Qaq3,hx55,hw5,LS.o,Qap]
 refine⟨Qo (by omega) (by omega),fun H6 h6=>?_⟩
 have h:=h.setw (s':=⟨fns,fl,f.params.length,(f.params.length:Int)+v,.sl true 5 [],[],[],0,.sl true 3 [],[],[],f.params.length⟩) h6 rfl rfl rfl rfl h.gv h.rv
 refine Q4 ?_
 refine Qa ?_
 simp only[go_sem]
 refine Qh (Qc (Qw (fun n e1 H1=>∃(i:Nat) (s':LS),n=f.params.length-i∧i≤f.params.length∧LInv H3 H1 w s'∧s'.blocks=[]∧s'.at_=0∧s'.regs=(f.params.length:Int)+v∧s'.next=f.params.length∧s'.vars.length=i∧
  e1=[(4,.c (.ptr x4 0)),(5,.c (.ptr x5 0)),(6,.c (.ptr w 0)),(7,.c (.int .i64 i))]) f.params.length ?_ ?_))
 ·exact⟨0,_,by omega,by omega,h,rfl,rfl,rfl,rfl,rfl,rfl⟩
 ·rintro n e1 H1 ⟨i,s,hn1,hi,h,hb0,ha0,hr0,hn0,hvl,rfl⟩
  have hx51:=(hfr _ _ h).2
  have hw1:=h.hw
  have hvo:=h.gv.isOw
  refine Q4 ?_
  refine Qa ?_
  simp only[go_sem,hx51,Qap]
  intro _
  refine Qh (Qe rfl ?_ ?_)
  ·intro hc
   have hlt:i<f.params.length:=by simpa using hc
   refine Qi ?_
   simp only[go_sem]
   refine Qh (Qc (Qbb ?_))
   simp only[go_sem,hx51,hw1,LS.o,hvo,hlt,Qap,Qfw _ _ hlt]
   refine h.addVar ⟨_,_,_,rfl⟩ (by simp only[LIM];omega) fun y H4 hw4 cont=>?_
   simp only[go_sem,Qaq4,hw4,LS.o]
   intro H5 h5
   have h':=cont H5 h5
   refine Qr ?_
   simp only[go_sem,X.next]
   exact⟨Qo (by omega) (by omega),f.params.length-(i+1),by omega,i+1,_,rfl,by omega,h',hb0,ha0,hr0,hn0,by simp[hvl],rfl⟩
  ·intro hc
   refine Qt ?_
   simp only[go_sem,X.next]
   have hsok:s.ok (3+v):=⟨by rw[hr0];omega,by rw[hr0];omega,by rw[hn0];omega,by rw[hn0];omega,by simp[hb0],by simp[hb0],by omega⟩
   refine Qa ?_
   simp only[go_sem]
   refine Qajy h hsok (by omega) fun s1 H4 h1 st1 hb1 hat1=>?_
   have hat:s1.at_<s1.blocks.length:=by rw[hat1,ha0];omega
   have hsok1:=st1.ok _ hsok
   refine Qa ?_
   have hx54:=(hfr _ _ h1).2
   simp only[go_sem,hx54]
   refine Qbgm _ f.body _ H3 H4 w s1 _ _ (Nat.le_refl _) hbo h1 hat hsok1 (by omega) fun s2 H5 h2 st2=>?_
   refine Qa ?_
   simp only[go_sem]
   refine Qlv h2 (st2.ok _ hsok1) (by omega) fun s3 H6 h3 st3=>?_
   have st3:=st2.trans st3
   simp only[go_sem,Qaq6]
   refine Qvo (args:=[]) h3 (st3.at_ hat) (st3.ok _ hsok1) (by omega) fun s4 H7 h4 st4=>?_
   have st4:=st3.trans st4
   simp only[go_sem,Qaq5]
   have hbl4:=st4.bl
   refine Qa ?_
   simp only[go_sem]
   refine Qow (at':=0) (next:=[]) (N:=0) h4 (st4.at_ hat) (by omega) fun s5 H8 h5 st5=>?_
   have hw8:=h5.hw
   obtain⟨hx48,hx58⟩:=hfr _ _ h5
   have hbow:=h5.gb.isOw
   refine Qa ?_
   simp only[go_sem,hw8,hx48,LS.o,hbow]
   intro H9 h9
   have hx49:H9 x4=.st [.int .i64 s5.params,.int .i64 s5.regs,s5.bc]:=by rw[h9];exact Heap.set_same _ _ _
   have ho9:∀m,m≠x4→H9 m=H8 m:=fun m hm=>by rw[h9];exact Heap.set_other _ _ hm
   have huse:∀m,H m≠.none→H9 m=H m:=fun m hm=>by
    have e1:=kn.chg m hm (by simp)
    have e2:=h5.kn.chg m (by rw[e1];exact hm) (by simp)
    rw[ho9 m (fun hh=>by subst hh;exact hm (kn.free 0 rfl)),e2,e1]
   have hun:∀p∈s5.L w,H9 p.1=p.2∧un H p.1=true:=fun p hp=>by
    have e1:=(h5.kn.get p (by simpa using hp)).1
    have e2:=h5.kn.loc p hp
    have hne:p.1≠x4:=fun hh=>by rw[hh,hx43]at e2;simp at e2
    refine⟨by rw[ho9 _ hne,e1],Qdl ?_⟩
    cases hh:H p.1 with
    |none=>rfl
    |_=>have:=kn.chg p.1 (by rw[hh];simp) (by simp);rw[e2,hh]at this;simp at this
   refine Qj ?_
   simp only[go_sem,Q5,Qae,Qbcs,reduceIte,List.mem_singleton,forall_eq,RS.op,hx49,hbow]
   have hok5:=(st4.trans st5).ok _ hsok1
   obtain⟨bs,hbs1,hbs2,hbs3⟩:=Qazc (H:=H9) (S:=un H) s5.blocks fun b hb=>⟨h5.gi b hb,h5.ri b hb,fun p hp=>hun p (by
    simp only[LS.L,List.mem_append,List.mem_flatMap]
    exact .inr (.inr (.inr ⟨b,hb,hp⟩))),by have:=hok5.i1 b hb;omega⟩
   refine⟨.ag (CodeD.mk s5.params s5.regs bs).cells,FrzL.ag (.cons (Qg rfl) (.cons (Qg rfl) (.cons (Gr.frzM h5.gb (fun p hp=>hun p (by
    simp only[LS.L,List.mem_append]
    exact .inr (.inl hp))) hbs1) .nil))),hK _ _ ⟨by simp,fun m hm _=>?_⟩ hbs3⟩
   rw[Qa4u hm];exact huse m hm
theorem Qbad {fns:List Fn}{fl:Bool}(hp:PrOk fns)(hK:∀(cs:List CodeD) (H':Heap),Upd H H' []→0<cs.length→(∀c∈cs,c.fits)→K (.ag [.sl false 3 (Qq cs)]) H') :
  Qu prog Q3q [.ag [.sl fl 3 (Qb4 fns)]] H K:=by
 refine Qz ?_
 refine Qb Qat Qbay ?_
 refine Qa ?_
 simp only[go_sem]
 intro x2 hx2 H1 h1
 have kn:=(Kn.start0 H).al hx2 h1
 refine Qa ?_
 simp only[go_sem]
 intro x3 hx3 H2 h2
 have kn:=kn.al hx3 h2
 have hx32:=kn.l 1 rfl
 simp only[go_sem,Q9p,hx32]
 intro H3 h3
 have kn:Kn H H3 [] [(x2,.st [.sl true 3 []]),(x3,.st [.sl true 3 []])]:=kn.stL 1 rfl h3
 refine Q4 ?_
 refine Qa ?_
 simp only[go_sem]
 refine Qh (Qc (Qw (fun n e1 H1=>∃(i:Nat) (cs:List CodeD) (c:C) (Lg:List (Nat×Obj)),n=fns.length-i∧i≤fns.length∧cs.length=i∧(∀c∈cs,c.fits)∧Gr Lg 3 (Qq cs) c∧Kn H H1 [] ([(x2,.st [.sl true 3 []]),(x3,.st [c])]++Lg)∧
  e1=[(1,.c (.pp [.sl fl 3 (Qb4 fns)])),(2,.c (.ptr x2 0)),(3,.c (.ptr x3 0)),(4,.c (.int .i64 i))]) fns.length ?_ ?_))
 ·exact⟨0,[],_,[],by omega,by omega,rfl,by simp,.nil 3,kn,rfl⟩
 ·rintro n e1 H1 ⟨i,cs,c,Lg,hn1,hi,hcl,hfit,hgr,kn,rfl⟩
  refine Q4 ?_
  refine Qa ?_
  simp only[go_sem,Qbf]
  intro hl
  simp only[LIM]at hl
  have hcow:=hgr.isOw
  have hx31:=kn.l 1 rfl
  refine Qh (Qe rfl ?_ ?_)
  ·intro hc
   have hlt:i<fns.length:=by simpa using hc
   have hm:=List.getElem_mem hlt
   refine Qi ?_
   simp only[go_sem]
   refine Qh (Qc (Qbb ?_))
   simp only[go_sem,hx31,hcow]
   refine Qbfy hlt (hp.par _ hm) (hp.ok _ hm) (by have:=Qlz hm;have:=hp.size;omega) fun x H4 hu hxf=>?_
   have kn:=kn.call0 hu
   have hx34:=kn.l 1 rfl
   simp only[go_sem,Q9r,hx34,hcow,CodeD.cells]
   refine kn.grow (B:=[_,_]) (new:=[x.cells]) hgr (.mk' _ _ _ _) (by intro r hr;simp only[List.mem_singleton]at hr;subst hr;rfl) (by simp only[Q3,LIM,List.length_cons,List.length_nil];omega) fun y' H5 kn=>?_
   have hx35:=kn.l 1 rfl
   simp only[go_sem,Q9q,hx35]
   intro H6 h6
   have kn:=kn.stL 1 rfl h6
   refine Qr ?_
   simp only[go_sem,X.next]
   refine⟨Qo (by omega) (by omega),fns.length-(i+1),by omega,i+1,cs++[x],_,_,rfl,by omega,by simp[hcl],fun c' hc'=>by
    rcases List.mem_append.1 hc' with h|h
    ·exact hfit c' h
    ·simp at h;subst h;exact hxf,?_,kn,rfl⟩
   rw[Qaj2];exact .mk _ _ _ (by simp[Q3])
  ·intro hc
   have hge:fns.length≤i:=by simpa using hc
   have hx21:=kn.l 0 rfl
   refine Qt ?_
   simp only[go_sem,X.next]
   refine Qa ?_
   simp only[go_sem,hx31,hx21,hcow]
   intro H2 h2
   have kn:=kn.stL 0 rfl h2
   have hx22:=kn.l 0 rfl
   refine Qj ?_
   simp only[go_sem,Q5,Qae,Qaz8,reduceIte,List.mem_singleton,forall_eq,RS.op,hx22,hcow]
   exact⟨.ag [.sl false 3 (Qq cs)],FrzL.ag (.cons (hgr.frz (B:=[_,_]) kn (Qbz _)) .nil),hK _ _ kn.fin (by have:=hp.pos;omega) hfit⟩
end Go.AE.Y

namespace Go.AE.Y
open Go.Proofs.Tryz
variable {H:Heap}{K:V→Heap→Prop}
attribute [local instance] Classical.propDecidable
def Qqk (q:CodeD):Bool:=decide (0≤q.params∧q.params≤3)&&decide (q.params≤q.regs∧q.regs≤300)&&decide (1≤(q.blocks.length:Int)∧(q.blocks.length:Int)≤160)
def Qz0 (y:BlkD):Nat:=y.ins.length+y.phis.length
def Qli {α:Type}(f:α→Nat)(l:List α):Nat:=(l.map f).sum
theorem Qio {α:Type}{f:α→Nat}{l:List α}{i:Nat}(h:i<l.length):Qli f (l.take (i+1))=Qli f (l.take i)+f l[i]:=by
 rw[Qli,Qli,List.take_succ_eq_append_getElem h,List.map_append,List.sum_append];simp
theorem Qay7 {α:Type}{f:α→Nat}{l:List α}(i:Nat):Qli f (l.take i)≤Qli f l:=by
 have:Qli f l=Qli f (l.take i)+Qli f (l.drop i):=by rw[Qli,Qli,Qli,←List.sum_append,←List.map_append,List.take_append_drop]
 omega
def cntQ (q:CodeD):Nat:=Qli Qz0 q.blocks
def Qaad (cs:List CodeD)(k:Nat)(hk:k<cs.length):Prop:=Qqk cs[k]=true∧∀(b:Nat) (h:b<cs[k].blocks.length),blkG cs k b cs[k] cs[k].blocks[b]=true
def Qbe4 (cs:List CodeD):Prop:=(1≤(cs.length:Int)∧(cs.length:Int)≤4)∧(∀(k:Nat) (h:k<cs.length),Qaad cs k h)∧Qli cntQ cs≤800
noncomputable def Qnw (cs:List CodeD):Bool:=decide (Qbe4 cs)
theorem Qajq {cs:List CodeD}(hfit:∀c∈cs,c.fits)(h:Qnw cs=true):cs.length≤4∧0<cs.length∧∀c∈cs,c.gd:=by
 obtain⟨h1,h2,_⟩:=of_decide_eq_true h
 refine⟨by omega,by omega,fun c hc=>?_⟩
 obtain⟨k,hk,rfl⟩:=List.getElem_of_mem hc
 obtain⟨g1,g2⟩:=h2 k hk
 simp only[Qqk,Bool.and_eq_true,decide_eq_true_eq]at g1
 refine⟨by omega,by omega,fun b hb=>?_,fun b hb=>hfit _ (List.getElem_mem hk) b hb⟩
 obtain⟨i,hi,rfl⟩:=List.getElem_of_mem hb
 exact Qa4c (g2 i hi)
theorem Qoa {cs:List CodeD}(h:¬Qbe4 cs):Qnw cs=false:=decide_eq_false h
theorem Qbb8 {cs:List CodeD}{k j:Nat}(hk:k<cs.length)(hj:j<cs[k].blocks.length)(h:800<Qli cntQ (cs.take k)+Qli Qz0 (cs[k].blocks.take j)+Qz0 cs[k].blocks[j]):¬Qbe4 cs:=by
 rintro⟨_,_,h3⟩
 have a1:=Qay7 (f:=cntQ) (l:=cs) (k+1)
 rw[Qio hk]at a1
 have a2:=Qay7 (f:=Qz0) (l:=cs[k].blocks) (j+1)
 rw[Qio hj]at a2
 simp only[cntQ]at *
 omega
set_option maxHeartbeats 2000000 in
theorem Qf0 {cs:List CodeD}{fl:Bool}(hfit:∀c∈cs,c.fits)(hK:∀(H':Heap),Upd H H' []→K (.c (.bool (Qnw cs))) H') :
  Qu prog Qbk [.ag [.sl fl 3 (Qq cs)]] H K:=by
 refine Qz ?_
 refine Qb Qat Qaar ?_
 have retf:∀(b:Bool) (e:Env) (H':Heap) (L:List (Nat×Obj)),Qnw cs=b→Kn H H' [] L→lk 2 e=.c (.bool b)→Q5 Qcv (fun x H'=>∃x',FrzV H' (un H) x x'∧K x' (H'.frz (un H))) .ret e H':=by
  intro b e H' L hb kn h3
  simp only[go_sem,Q5,Qae,Qcv,List.mem_singleton,forall_eq,RS.op,h3]
  rw[←hb];exact⟨_,.c _ _ (Qg rfl),hK _ kn.fin⟩
 have kn:=Kn.start0 H
 refine Qa ?_
 simp only[go_sem]
 refine Q4 ?_
 refine Qa ?_
 simp only[go_sem,Q3]
 intro hcl
 refine Qcf ?_
 simp only[go_sem,Qil]
 refine Qh (Qe rfl ?_ ?_)
 ·intro hc
  refine Qa ?_
  simp only[go_sem]
  refine Qj ?_
  simp only[go_sem]
  exact retf false _ _ _ (Qoa fun hu=>by have:=of_decide_eq_false (Qql hc);exact this hu.1) kn (by simp[lk])
 intro hc
 have hc4:cs.length≤4∧0<cs.length:=by
  have:1≤(cs.length:Int)∧(cs.length:Int)≤4:=by simpa using hc
  omega
 refine Qi ?_
 simp only[go_sem]
 refine Qa ?_
 simp only[go_sem]
 refine Q4 ?_
 refine Qa ?_
 simp only[go_sem]
 refine Qh (Qc (Qw (fun m e1 H1=>∃(k n:Nat),m=cs.length-k∧k≤cs.length∧n=Qli cntQ (cs.take k)∧n≤800∧(∀(i:Nat) (hi:i<cs.length),i<k→Qaad cs i hi)∧Kn H H1 [] []∧e1=[(1,.c (.pp [.sl fl 3 (Qq cs)])),(3,.c (.int .i64 n)),(4,.c (.int .i64 k))]) cs.length ?_ ?_))
 ·exact⟨0,0,by omega,by omega,rfl,by omega,fun _ _ h=>by omega,kn,rfl⟩
 ·rintro m e1 H1 ⟨k,n,hm,hk,hns,hn,hgd,kn,rfl⟩
  refine Q4 ?_
  refine Qa ?_
  simp only[go_sem,Q3]
  intro hcl
  refine Qh (Qe rfl ?_ ?_)
  ·intro hc
   have hlt:k<cs.length:=by simpa using hc
   refine Qi ?_
   simp only[go_sem]
   refine Qh (Qc ?_)
   refine Qa ?_
   simp only[go_sem,hlt,Q3,Qaf _ _ hlt,CodeD.cells]
   obtain⟨q,hq⟩:∃q,cs[k]=q:=⟨_,rfl⟩
   rw[hq]
   intro x5 hx5 H2 h2
   have kn:=kn.al hx5 h2
   have hx52:=kn.l 0 rfl
   simp only[go_sem,Qim,hx52]
   intro H3 h3
   have kn:Kn H H3 [] [(x5,.st [.int .i64 q.params,.int .i64 q.regs,.sl false 5 (Qn q.blocks)])]:=kn.stL 0 rfl h3
   have hx53:=kn.l 0 rfl
   refine Q4 ?_
   refine Qa ?_
   simp only[go_sem,hx53]
   refine Qcf ?_
   simp only[go_sem,Qin,hx53]
   have rest:∀(b:Bool) (E1:Env),lk 1 E1=.c (.pp [.sl fl 3 (Qq cs)])→lk 3 E1=.c (.int .i64 n)→lk 4 E1=.c (.int .i64 k)→lk 5 E1=.c (.ptr x5 0)→lk 42 E1=.c (.bool b)→Qqk q=(!b)→
     Qad prog (s_sp_UnitValid_6.seq Qik) (X.inBlock 1 (X.sq prog Qdx (X.next (fun e2 H2=>∃m_1,m_1<m∧∃(k n:Nat),m_1=cs.length-k∧k≤cs.length∧n=Qli cntQ (cs.take k)∧n≤800∧(∀(i:Nat) (hi:i<cs.length),i<k→Qaad cs i hi)∧Kn H H2 [] []∧e2=[(1,.c (.pp [.sl fl 3 (Qq cs)])),(3,.c (.int .i64 n)),(4,.c (.int .i64 k))])
      (X.inBlock 0 (X.sq prog Qdy (Q5 Qcv (fun x H'=>∃x',FrzV H' (un H) x x'∧K x' (H'.frz (un H))))))))) E1 H3:=by
    intro b E1 l1 l3 l4 l5 l42 hb
    refine Qh (Qe l42 ?_ ?_)
    ·intro hc2
     refine Qa ?_
     simp only[go_sem]
     refine Qj ?_
     simp only[go_sem,X.next]
     exact retf false _ _ _ (Qoa fun hu=>by have:=(hu.2.1 k hlt).1;rw[hq,hb,hc2]at this;simp at this) kn (by simp[lk])
    intro hc2
    rw[hc2]at hb
    have hb':=hb
    simp only[Qqk,Bool.not_false,Bool.and_eq_true,decide_eq_true_eq]at hb'
    obtain⟨hr0,hr1,hb0,hbl⟩:0≤q.regs∧q.regs≤300∧0<q.blocks.length∧q.blocks.length≤160:=by omega
    refine Qi ?_
    simp only[go_sem]
    refine Qa ?_
    simp only[go_sem,l1,l3,l4,l5]
    refine Qc (Qw (fun m e1 H1=>∃(j n2:Nat),m=q.blocks.length-j∧j≤q.blocks.length∧n2=n+Qli Qz0 (q.blocks.take j)∧n2≤800∧(∀(i:Nat) (hi:i<q.blocks.length),i<j→blkG cs k i q q.blocks[i]=true)∧Kn H H1 [] [(x5,.st [.int .i64 q.params,.int .i64 q.regs,.sl false 5 (Qn q.blocks)])]∧
     e1=[(1,.c (.pp [.sl fl 3 (Qq cs)])),(3,.c (.int .i64 n2)),(4,.c (.int .i64 k)),(5,.c (.ptr x5 0)),(6,.c (.int .i64 j))]) q.blocks.length ?_ ?_)
    ·exact⟨0,n,by omega,by omega,rfl,hn,fun _ _ h=>by omega,kn,rfl⟩
    ·rintro m2 e1 H4 ⟨j,n2,hm2,hj,hn2s,hn2,hnx,kn,rfl⟩
     have hx54:=kn.l 0 rfl
     refine Q4 ?_
     refine Qa ?_
     simp only[go_sem,hx54,Qk]
     intro hbl2
     refine Qh (Qe rfl ?_ ?_)
     ·intro hc3
      have hjl:j<q.blocks.length:=by simpa using hc3
      refine Qi ?_
      simp only[go_sem]
      refine Qh (Qc ?_)
      have hqf:=hfit _ (List.getElem_mem hlt)
      rw[hq]at hqf
      have hbf:=hqf _ (List.getElem_mem hjl)
      have hss:=Qio (f:=Qz0) hjl
      have hcy:Qz0 q.blocks[j]=q.blocks[j].ins.length+q.blocks[j].phis.length:=rfl
      refine Qak ?_
      simp only[go_sem,hx54,hjl,Qk,Q9 _ _ hjl,BlkD.cells,Qav,Q7]
      refine⟨Qo (by omega) (by omega),Qo (by omega) (by omega),?_⟩
      refine Qa ?_
      simp only[go_sem]
      have fin:∀(b3:Bool) (E1:Env) (H5:Heap),(decide (n2+Qz0 q.blocks[j]≤800)&&blkG cs k j q q.blocks[j])=(!b3)→Kn H H5 [] [(x5,.st [.int .i64 q.params,.int .i64 q.regs,.sl false 5 (Qn q.blocks)])]→lk 1 E1=.c (.pp [.sl fl 3 (Qq cs)])→
        lk 3 E1=.c (.int .i64 ((n2+q.blocks[j].ins.length+q.blocks[j].phis.length:Nat):Int))→lk 4 E1=.c (.int .i64 k)→lk 5 E1=.c (.ptr x5 0)→lk 6 E1=.c (.int .i64 j)→lk 75 E1=.c (.bool b3)→
        Qad prog Qle (X.inBlock 3 (X.sq prog Qij (X.next (fun e2 H2=>∃m,m<m2∧∃(j n2:Nat),m=q.blocks.length-j∧j≤q.blocks.length∧n2=n+Qli Qz0 (q.blocks.take j)∧n2≤800∧(∀(i:Nat) (hi:i<q.blocks.length),i<j→blkG cs k i q q.blocks[i]=true)∧Kn H H2 [] [(x5,.st [.int .i64 q.params,.int .i64 q.regs,.sl false 5 (Qn q.blocks)])]∧
         e2=[(1,.c (.pp [.sl fl 3 (Qq cs)])),(3,.c (.int .i64 n2)),(4,.c (.int .i64 k)),(5,.c (.ptr x5 0)),(6,.c (.int .i64 j))])
         (X.inBlock 2 (X.inBlock 1 (X.sq prog Qdx (X.next (fun e2 H2=>∃m_1,m_1<m∧∃(k n:Nat),m_1=cs.length-k∧k≤cs.length∧n=Qli cntQ (cs.take k)∧n≤800∧(∀(i:Nat) (hi:i<cs.length),i<k→Qaad cs i hi)∧Kn H H2 [] []∧e2=[(1,.c (.pp [.sl fl 3 (Qq cs)])),(3,.c (.int .i64 n)),(4,.c (.int .i64 k))])
         (X.inBlock 0 (X.sq prog Qdy (Q5 Qcv (fun x H'=>∃x',FrzV H' (un H) x x'∧K x' (H'.frz (un H))))))))))))) E1 H5:=by
       intro b3 E1 H5 hb3 kn l1 l3 l4 l5 l6 l75
       refine Qe l75 ?_ ?_
       ·intro hc4
        refine Qa ?_
        simp only[go_sem]
        refine Qj ?_
        simp only[go_sem,X.next]
        refine retf false _ _ _ (Qoa fun hu=>?_) kn (by simp[lk])
        rw[hc4]at hb3
        have hblk:=(hu.2.1 k hlt).2 j (by rw[hq];exact hjl)
        subst hq
        have hov:¬800<n2+Qz0 cs[k].blocks[j]:=fun ho=>Qbb8 hlt hjl (by omega) hu
        rw[hblk]at hb3
        simp at hb3
        omega
       ·intro hc4
        rw[hc4]at hb3
        simp only[Bool.not_false,Bool.and_eq_true,decide_eq_true_eq]at hb3
        refine Qi ?_
        simp only[go_sem]
        refine Qr ?_
        simp only[go_sem,X.next,l1,l3,l4,l5,l6]
        refine⟨Qo (by omega) (by omega),q.blocks.length-(j+1),by omega,j+1,_,rfl,by omega,?_,?_,?_,kn,rfl⟩
        ·rw[hss];omega
        ·omega
        ·intro i hi hij
         by_cases hij2:i<j
         ·exact hnx i hi hij2
         ·have:i=j:=by omega
          subst this
          exact hb3.2
      refine⟨fun hb1=>?_,fun hb1=>?_⟩
      ·refine Qa5n hlt (by rw[hq];exact hjl) (by rw[hq];exact hr0) (by rw[hq];exact hr1) (by omega) (by rw[hq];omega) fun H5 hu=>?_
       have kn:=kn.call0 hu
       simp only[go_sem,Qd0]
       refine fin _ _ _ ?_ kn (by simp[lk]) (by simp[lk]) (by simp[lk]) (by simp[lk]) (by simp[lk]) (by simp[lk];rfl)
       subst hq
       by_cases ho:n2+Qz0 cs[k].blocks[j]≤800
       ·have ho':¬800<(n2:Int)+cs[k].blocks[j].ins.length+cs[k].blocks[j].phis.length:=by simp only[Qz0]at ho;omega
        simp[ho,ho']
       ·have ho':800<(n2:Int)+cs[k].blocks[j].ins.length+cs[k].blocks[j].phis.length:=by simp only[Qz0]at ho;omega
        simp[ho,ho']
      ·replace hb1:=Qed hb1
       simp only[go_sem,Qd0,hb1]
       exact fin true _ _ (by simp at hb1;simp[hcy];omega) kn (by simp[lk]) (by simp[lk]) (by simp[lk]) (by simp[lk]) (by simp[lk]) (by simp[lk])
     ·intro hc3
      refine Qt ?_
      simp only[go_sem,X.next]
      refine Qr ?_
      simp only[go_sem,X.next]
      have hjq:q.blocks.length≤j:=by simpa using hc3
      have hjq:j=q.blocks.length:=by omega
      refine⟨Qo (by omega) (by omega),cs.length-(k+1),by omega,k+1,n2,rfl,by omega,?_,hn2,?_,kn.drop (A:=[]),rfl⟩
      ·rw[Qio hlt,hq,hn2s,hns,hjq,List.take_length];rfl
      ·intro i hi hik
       by_cases hik2:i<k
       ·exact hgd i hi hik2
       ·have:i=k:=by omega
        subst this
        subst hq
        exact⟨by rw[hb];rfl,fun b hbl=>hnx b hbl (by omega)⟩
   refine⟨fun hb1=>?_,fun hb1=>?_⟩
   ·refine Qcf ?_
    simp only[go_sem,Qdz,hx53,Qk]
    intro hblim
    refine⟨fun hb2=>?_,fun hb2=>?_⟩
    ·replace hb2:=Qql hb2
     refine Qcf ?_
     simp only[go_sem,Qcp]
     refine rest _ _ (by simp[lk]) (by simp[lk]) (by simp[lk]) (by simp[lk]) (by simp[lk];rfl) ?_
     simp[Qqk]
    ·replace hb2:=Qed hb2
     simp only[go_sem,Qcp,hb2]
     exact rest true _ (by simp[lk]) (by simp[lk]) (by simp[lk]) (by simp[lk]) (by simp[lk]) (by simp at hb2;simp[Qqk];omega)
   ·replace hb1:=Qed hb1
    simp only[go_sem,Qdz,Qcp,hb1,hx53,Qk,cond_true]
    exact rest true _ (by simp[lk]) (by simp[lk]) (by simp[lk]) (by simp[lk]) (by simp[lk]) (by simp at hb1;simp[Qqk];omega)
  ·intro hc
   refine Qt ?_
   simp only[go_sem,X.next]
   refine Qa ?_
   simp only[go_sem]
   refine Qj ?_
   have hkc:cs.length≤k:=by simpa using hc
   refine retf true _ _ _ (decide_eq_true ⟨by omega,fun i hi=>hgd i hi (by omega),?_⟩) kn (by simp[lk])
   rw[List.take_of_length_le hkc]at hns
   omega
theorem Qarw {cs:List CodeD}{fl:Bool}(hfit:∀c∈cs,c.fits)(hK:∀(b:Bool) (H':Heap),(b=true→cs.length≤4∧0<cs.length∧∀c∈cs,c.gd)→Upd H H' []→K (.c (.bool b)) H') :
  Qu prog Qbk [.ag [.sl fl 3 (Qq cs)]] H K:=Qf0 hfit fun H' hu=>hK _ H' (Qajq hfit) hu
end Go.AE.Y

namespace Go.AE.Y
open Go.Proofs.Tryz
variable {H:Heap}{K:V→Heap→Prop}
def UnitOk (cs:List CodeD):Prop:=0<cs.length∧cs.length≤4∧∀c∈cs,c.gd
theorem Qake {R:Rdr}{k:Nat}(hH:H R.l=R.o k)(hk:k+7100000≤2^30)
  (hK:∀(cs:List CodeD) (H':Heap) (k':Nat),k<k'→k'≤k+7050000→Upd H H' [(R.l,R.o k')]→UnitOk cs→K (.ag [.sl false 3 (Qq cs)]) H') :
  Qu prog Qn1 [.c (.ptr R.l 0)] H K:=by
 refine Qz ?_
 refine Qb Qat Qa5y ?_
 refine Qa ?_
 simp only[go_sem]
 intro x2 hx2 H1 h1
 have kn:=(Kn.start1 hH (R.o_ne k)).al hx2 h1
 have tail:∀(E1:Env) (H2:Heap) (k1:Nat) (L:List (Nat×Obj)),k<k1→k1≤k+7000500→Kn H H2 [(R.l,R.o k1)] ([(x2,.st [.sl true 3 []])]++L)→lk 0 E1=.c (.ptr R.l 0)→lk 2 E1=.c (.ptr x2 0)→
   Qad prog Q5c (Q5 Qsk fun x H'=>∃x',FrzV H' (un H) x x'∧K x' (H'.frz (un H))) E1 H2:=by
  intro E1 H2 k1 L hk1 hk2 kn l0 l2
  refine Qa ?_
  simp only[go_sem,l0,l2]
  refine Qazs (kn.e 0 rfl) (by omega) fun cs H3 k2 hk3 hk4 hu hcs0 hcs3 hsm=>?_
  have kn:=kn.callE 0 rfl hu (R.o_ne _)
  have hx2:=kn.l 0 rfl
  simp only[go_sem,Qxt,hx2,l2]
  intro H4 h4
  have kn:=kn.stL 0 rfl h4
  have hx2:=kn.l 0 rfl
  refine Qj ?_
  simp only[go_sem,Q5,Qae,Qsk,reduceIte,List.mem_singleton,forall_eq,RS.op,hx2]
  exact⟨_,FrzL.ag (.cons (FrzR.same (Qbz cs)).sl .nil),hK cs _ k2 (by omega) (by omega) kn.fin ⟨hcs0,by omega,fun c hc=>(hsm c hc).gd⟩⟩
 refine Q4 ?_
 refine Qa ?_
 simp only[go_sem]
 refine Qa3 (kn.e 0 rfl) (by omega) fun v H2 hv hu=>?_
 have kn:=kn.callE 0 rfl hu (R.o_ne _)
 simp only[go_sem,Qxp]
 refine Qh (Qe rfl ?_ ?_)
 ·intro hc
  refine Qa ?_
  simp only[go_sem]
  refine Qa97 (kn.e 0 rfl) (by omega) fun l H3 k1 hk1 hk2 hu hp=>?_
  have kn:=kn.callE 0 rfl hu (R.o_ne _)
  simp only[go_sem,Qxs]
  refine Qbad hp fun cs H4 hu hcs0 hfit=>?_
  have kn:=kn.call0 hu
  simp only[go_sem,Qxr]
  intro x3 hx3 H5 h5
  have kn:=kn.al hx3 h5
  have hx3:=kn.l 1 rfl
  simp only[go_sem,Qxq,hx3]
  intro H6 h6
  have kn:=kn.stL 1 rfl h6
  have hx3:=kn.l 1 rfl
  refine Qa ?_
  simp only[go_sem,hx3]
  refine Qarw hfit fun b H7 hb hu=>?_
  have kn:=kn.call0 hu
  have hx3:=kn.l 1 rfl
  have hx2:=kn.l 0 rfl
  refine Qe rfl ?_ ?_
  ·intro hb1
   refine Qa ?_
   simp only[go_sem,hx3,hx2]
   intro H8 h8
   have kn:=kn.stL 0 rfl h8
   have hx2:=kn.l 0 rfl
   refine Qj ?_
   simp only[go_sem,Q5,Qae,Qsk,reduceIte,List.mem_singleton,forall_eq,RS.op,hx2]
   obtain⟨g1,g2,g3⟩:=hb hb1
   exact⟨_,FrzL.ag (.cons (FrzR.same (Qbz cs)).sl .nil),hK cs _ k1 (by omega) (by omega) kn.fin ⟨g2,g1,g3⟩⟩
  ·intro hb1
   refine Qi ?_
   simp only[go_sem]
   exact tail _ _ k1 [(x3,.st [.sl false 3 (Qq cs)])] (by omega) (by omega) kn (by simp[lk]) (by simp[lk])
 ·intro hc
  refine Qi ?_
  simp only[go_sem]
  exact tail _ _ (k+1) [] (by omega) (by omega) kn (by simp[lk]) (by simp[lk])
theorem Qakd {R:Rdr}{k:Nat}(hH:H R.l=R.o k)(hk:k+7200000≤2^30)
  (hK:∀(cs:List CodeD) (H':Heap) (k':Nat),k<k'→k'≤k+7100000→Upd H H' [(R.l,R.o k')]→UnitOk cs→K (.ag [.sl false 3 (Qq cs)]) H') :
  Qu prog Qny [.c (.ptr R.l 0)] H K:=by
 refine Qz ?_
 refine Qb Qat Qa5s ?_
 refine Qa ?_
 simp only[go_sem]
 intro x2 hx2 H1 h1
 have kn:=(Kn.start1 hH (R.o_ne k)).al hx2 h1
 refine Q4 ?_
 refine Qa ?_
 simp only[go_sem]
 refine Qa3 (kn.e 0 rfl) (by omega) fun v H2 hv hu=>?_
 have kn:=kn.callE 0 rfl hu (R.o_ne _)
 simp only[go_sem,Qw6]
 refine Qh (Qe rfl ?_ ?_)
 ·intro hc
  refine Qa ?_
  simp only[go_sem]
  refine Qa98 (kn.e 0 rfl) (by omega) fun cs H3 k2 hk3 hk4 hu hcs0 hcs3 hgd=>?_
  have kn:=kn.callE 0 rfl hu (R.o_ne _)
  have hx2:=kn.l 0 rfl
  simp only[go_sem,Qw7,hx2]
  intro H4 h4
  have kn:=kn.stL 0 rfl h4
  have hx2:=kn.l 0 rfl
  refine Qj ?_
  simp only[go_sem,Q5,Qae,Q4e,reduceIte,List.mem_singleton,forall_eq,RS.op,hx2]
  exact⟨_,FrzL.ag (.cons (FrzR.same (Qbz cs)).sl .nil),hK cs _ k2 (by omega) (by omega) kn.fin ⟨hcs0,by omega,hgd⟩⟩
 ·intro hc
  refine Qi ?_
  simp only[go_sem]
  refine Qa ?_
  simp only[go_sem]
  refine Qake (kn.e 0 rfl) (by omega) fun cs H3 k2 hk3 hk4 hu hok=>?_
  have kn:=kn.callE 0 rfl hu (R.o_ne _)
  have hx2:=kn.l 0 rfl
  simp only[go_sem,Qw8,hx2]
  intro H4 h4
  have kn:=kn.stL 0 rfl h4
  have hx2:=kn.l 0 rfl
  refine Qj ?_
  simp only[go_sem,Q5,Qae,Q4e,reduceIte,List.mem_singleton,forall_eq,RS.op,hx2]
  exact⟨_,FrzL.ag (.cons (FrzR.same (Qbz cs)).sl .nil),hK cs _ k2 (by omega) (by omega) kn.fin hok⟩
end Go.AE.Y

namespace Go.AE.Y
open Go.Proofs.Tryz
variable {H:Heap}{K:V→Heap→Prop}
theorem Qa5j {fl:Bool}{bs:List UInt8}(hK:∀(R:Rdr) (H':Heap),H R.l=.none→H'=H.set R.l (R.o 0)→K (.c (.ptr R.l 0)) H'):Qu prog Qva [.c (.sl fl 1 (Qbq bs))] H K:=by
 refine Qb Qat Qa6a ?_
 refine Qa ?_
 simp only[go_sem]
 refine Q4 ?_
 refine Qa ?_
 simp only[go_sem,Qau]
 intro _
 have tail:∀(fl:Bool) (bs:List UInt8) (E1:Env),lk 0 E1=.c (.sl fl 1 (Qbq bs))→Qad prog Q52 (Q5 Q4m K) E1 H:=by
  intro fl bs E1 l0
  refine Qa ?_
  simp only[go_sem,l0]
  intro l hl H' h'
  simp only[go_sem,Qys]
  refine Qj ?_
  simp only[go_sem,Q5,Qae,Q4m,reduceIte,List.mem_singleton,forall_eq,RS.op]
  exact hK ⟨l,fl,bs⟩ H' hl h'
 refine Qh (Qe rfl ?_ ?_)
 ·intro hc
  have h2:(2000:Int)<bs.length:=by simpa using hc
  refine Qr ?_
  simp only[go_sem,Qau]
  refine⟨⟨by omega,by omega,by omega⟩,?_⟩
  have ht:List.take 2000 (Qbq bs)=Qbq (bs.take 2000):=by simp[Qbq,List.map_take]
  rw[ht]
  exact tail _ (bs.take 2000) _ (by simp[lk];rfl)
 ·intro hc
  refine Qi ?_
  exact tail fl bs _ (by simp[lk])
end Go.AE.Y

namespace Go.AE.Y
def Qit (n:Nat)(nx:Nat→List Int):Bool:=(List.range n).all (fun i=>(nx i).all fun x=>decide (0≤x∧x≤(n:Int)-1))&&decide (0<n)
def nxN (nx:Nat→List Int)(b:Nat):List Nat:=(nx b).map Int.toNat
theorem Q3c {n:Nat}{nx:Nat→List Int}(h:Qit n nx=true){b:Nat}(hb:b<n){x:Int}(hx:x∈nx b):0≤x∧x≤(n:Int)-1:=by
 simp only[Qit,Bool.and_eq_true,List.all_eq_true,List.mem_range,decide_eq_true_eq]at h
 exact h.1 b hb x hx
theorem Qr0 {n:Nat}{nx:Nat→List Int}(h:Qit n nx=true):0<n:=by
 simp only[Qit,Bool.and_eq_true,decide_eq_true_eq]at h
 exact h.2
theorem Qak0 {n:Nat}{nx:Nat→List Int}(h:Qit n nx=true){b:Nat}(hb:b<n){x:Nat}(hx:x∈nxN nx b):x<n:=by
 obtain⟨y,hy,rfl⟩:=List.mem_map.1 hx
 have:=Q3c h hb hy
 omega
inductive Dfs (g:Nat→List Nat):List Nat→List Bool→List Nat→List Bool→List Nat→Prop
 |nil (S:List Bool) (o:List Nat):Dfs g [] S o S o
 |skip {x:Nat} {xs:List Nat} {S S':List Bool} {o o':List Nat}:S.getD x false=true→Dfs g xs S o S' o'→Dfs g (x::xs) S o S' o'
 |go {x:Nat} {xs:List Nat} {S S1 S':List Bool} {o o1 o':List Nat}:S.getD x false=false→Dfs g (g x) (S.set x true) o S1 o1→Dfs g xs S1 (o1++[x]) S' o'→Dfs g (x::xs) S o S' o'
variable {g:Nat→List Nat}{xs:List Nat}{S S' S1:List Bool}{o o' o1:List Nat}
theorem Dfs.app (h:Dfs g xs S o S1 o1):∀{ys:List Nat},Dfs g ys S1 o1 S' o'→Dfs g (xs++ys) S o S' o':=by
 induction h with
 |nil S o=>exact fun h=>h
 |skip h1 h2 ih=>exact fun h=>.skip h1 (ih h)
 |go h1 h2 h3 ih1 ih2=>exact fun h=>.go h1 h2 (ih2 h)
theorem Dfs.one {x:Nat}(h1:S.getD x false=false)(h:Dfs g (g x) (S.set x true) o S1 o1):Dfs g [x] S o S1 (o1++[x]):=.go h1 h (.nil _ _)
theorem Dfs.len (h:Dfs g xs S o S' o'):S'.length=S.length:=by
 induction h with
 |nil=>rfl
 |skip _ _ ih=>exact ih
 |go _ _ _ ih1 ih2=>rw[ih2,ih1,List.length_set]
theorem Qn7 (S:List Bool)(x y:Nat):(S.set x true).getD y false=(if y=x∧x<S.length then true else S.getD y false):=by
 simp only[List.getD_eq_getElem?_getD,List.getElem?_set]
 by_cases h:x=y
 ·subst h
  by_cases h2:x<S.length
  ·simp[h2]
  ·simp[h2]
 ·have h':¬y=x:=fun hh=>h hh.symm
  simp[h,h']
theorem Dfs.mono (h:Dfs g xs S o S' o'):∀x,S.getD x false=true→S'.getD x false=true:=by
 induction h with
 |nil=>exact fun _ h=>h
 |skip _ _ ih=>exact ih
 |go _ _ _ ih1 ih2=>
  intro x hx
  refine ih2 x (ih1 x ?_)
  rw[Qn7]
  split
  ·rfl
  ·exact hx
def cnt (S:List Bool):Nat:=S.count true
theorem Q25 {x:Nat}(hx:x<S.length)(h:S.getD x false=false):cnt (S.set x true)=cnt S+1:=by
 induction S generalizing x with
 |nil=>simp at hx
 |cons a S ih=>
  cases x with
  |zero=>
   simp at h;subst h
   simp[cnt]
  |succ x=>
   have:=ih (x:=x) (by simpa using hx) (by simpa using h)
   simp only[cnt,List.set_cons_succ,List.count_cons]at this⊢
   omega
theorem Qaze (S:List Bool):cnt S≤S.length:=List.count_le_length
theorem Dfs.count (h:Dfs g xs S o S' o'):(∀x,x<S.length→∀y∈g x,y<S.length)→(∀x∈xs,x<S.length)→o'.length+cnt S=o.length+cnt S':=by
 induction h with
 |nil=>intros;rfl
 |skip _ _ ih=>exact fun h1 h2=>ih h1 fun x hx=>h2 x (List.mem_cons_of_mem _ hx)
 |@go x xs S S1 S' o o1 o' h1 h2 h3 ih1 ih2=>
  intro hg hxs
  have hx:=hxs x List.mem_cons_self
  have e1:=ih1 (by simpa using hg) (by simpa using hg x hx)
  have hl:=h2.len
  rw[List.length_set]at hl
  have e2:=ih2 (by rw[hl];exact hg) (by rw[hl];exact fun y hy=>hxs y (List.mem_cons_of_mem _ hy))
  rw[Q25 hx h1]at e1
  simp only[List.length_append,List.length_cons,List.length_nil]at e2
  omega
theorem Dfs.olen (h:Dfs g xs S o S' o'):o.length≤o'.length:=by
 induction h with
 |nil=>exact Nat.le_refl _
 |skip _ _ ih=>exact ih
 |go _ _ _ ih1 ih2=>rw[List.length_append]at ih2;omega
theorem Dfs.all (h:Dfs g xs S o S' o'):∀P:Nat→Prop,(∀x,P x→∀y∈g x,P y)→(∀x∈xs,P x)→(∀x∈o,P x)→∀x∈o',P x:=by
 induction h with
 |nil=>exact fun P _ _ h=>h
 |skip _ _ ih=>exact fun P h1 h2 h3=>ih P h1 (fun x hx=>h2 x (List.mem_cons_of_mem _ hx)) h3
 |go h1 h2 h3 ih1 ih2=>
  intro P hg hxs ho
  have hx:=hxs _ List.mem_cons_self
  refine ih2 P hg (fun y hy=>hxs y (List.mem_cons_of_mem _ hy)) fun y hy=>?_
  rcases List.mem_append.1 hy with hy|hy
  ·exact ih1 P hg (hg _ hx) ho y hy
  ·simp at hy;subst hy;exact hx
end Go.AE.Y

namespace Go.AE.Y
open Go.Proofs.Tryz
variable {H:Heap}{K:V→Heap→Prop}
structure GRd (H:Heap)(c:C)(rows:List (List C))(nx:Nat→List Int):Prop where
 s:Slc H 5 rows c
 ow:c.isOw=false
 no:∀r∈rows,noOw r=true
 x:∀i,i<rows.length→∃a1 a2 a3 a4 fl,rows.getD i []=[a1,a2,a3,a4,.sl fl 1 (Qd (nx i))]
theorem GRd.keep {c:C}{rows:List (List C)}{nx:Nat→List Int}{H':Heap}{E L:List (Nat×Obj)}(h:GRd H c rows nx)(kn:Kn H H' E L)(hE:∀l a b d,c=.vsl l a b d→l∉E.map Prod.fst):GRd H' c rows nx:=⟨h.s.keep kn hE,h.ow,h.no,h.x⟩
theorem GRd.keep0 {c:C}{rows:List (List C)}{nx:Nat→List Int}{H':Heap}{L:List (Nat×Obj)}(h:GRd H c rows nx)(kn:Kn H H' [] L):GRd H' c rows nx:=h.keep kn (by simp)
def gnx (q:CodeD):Nat→List Int:=fun i=>(q.blocks.map BlkD.next).getD i []
theorem Qf9 (H:Heap)(q:CodeD)(fl:Bool):GRd H (.sl fl 5 (Qn q.blocks)) (Qn q.blocks) (gnx q):=by
 refine⟨.mk' _ _ _ _,rfl,Q21 _,fun i h=>?_⟩
 rw[Qk]at h
 rw[Q9 _ _ h]
 have:gnx q i=q.blocks[i].next:=by simp[gnx,List.getD_eq_getElem?_getD,h]
 exact⟨.sl false 2 (Qab q.blocks[i].phis),.sl false 4 (Qa6 q.blocks[i].ins),.int .i64 q.blocks[i].jump,.int .i64 q.blocks[i].on,false,by rw[this];rfl⟩
set_option maxHeartbeats 1000000 in
theorem Qa49 {p rg:Int}{bc:C}{rows:List (List C)}{nx:Nat→List Int}(hg:GRd H bc rows nx)(hK:K (.c (.bool (Qit rows.length nx))) H):Qu prog Qu1 [.ag [.int .i64 p,.int .i64 rg,bc]] H K:=by
 refine Qb Qat Qa5v ?_
 have how:=hg.ow
 have hok:=eq_true hg.s.ok
 have hlen:=hg.s.len
 have hsz:=hg.s.sz
 have hrw:=hg.s.rows
 have retf:∀(b:Bool) (e:Env),b=Qit rows.length nx→lk 2 e=.c (.bool b)→Q5 Q4f K .ret e H:=by
  intro b e hb h3
  simp only[go_sem,Q5,Qae,Q4f,List.mem_singleton,forall_eq,RS.op,h3]
  rw[hb];exact hK
 refine Qa ?_
 simp only[go_sem]
 refine Q4 ?_
 refine Qa ?_
 simp only[go_sem]
 refine Qh (Qc (Qw (fun m e1 H1=>∃(i:Nat),m=rows.length-i∧i≤rows.length∧H1=H∧(∀j,j<i→∀x∈nx j,0≤x∧x≤(rows.length:Int)-1)∧e1=[(1,.c (.pp [.int .i64 p,.int .i64 rg,bc])),(3,.c (.int .i64 i))]) rows.length ?_ ?_))
 ·exact⟨0,by omega,by omega,rfl,fun j hj=>by omega,rfl⟩
 ·rintro m e1 H1 ⟨i,hm,hi,rfl,hall,rfl⟩
  refine Q4 ?_
  refine Qa ?_
  simp only[go_sem,how,hok,hlen]
  intro hl
  simp only[LIM]at hl
  refine Qh (Qe rfl ?_ ?_)
  ·intro hc
   have hlt:i<rows.length:=by simpa using hc
   obtain⟨a1,a2,a3,a4,fl,hrow⟩:=hg.x i hlt
   refine Qi ?_
   simp only[go_sem]
   refine Qdc (fun e2 H2=>H2=H1∧(∀x∈nx i,0≤x∧x≤(rows.length:Int)-1)∧lk 1 e2=.c (.pp [.int .i64 p,.int .i64 rg,bc])∧lk 3 e2=.c (.int .i64 i)) ?_ ?_
   ·intro Q hn hr _
    refine Qc ?_
    refine Qa ?_
    simp only[go_sem]
    refine Qc (Qw (fun m e1 H2=>∃(k:Nat),m=(nx i).length-k∧k≤(nx i).length∧H2=H1∧(∀x∈(nx i).take k,0≤x∧x≤(rows.length:Int)-1)∧e1=[(1,.c (.pp [.int .i64 p,.int .i64 rg,bc])),(3,.c (.int .i64 i)),(4,.c (.int .i64 k))]) (nx i).length ?_ ?_)
    ·exact⟨0,by omega,by omega,rfl,by simp,rfl⟩
    ·rintro m2 e1 H2 ⟨k,hm2,hk,rfl,hall2,rfl⟩
     refine Q4 ?_
     refine Qa ?_
     simp only[go_sem,how,hok,hlen,hsz,hrw,hlt,hrow,Qf]
     intro hl2
     simp only[LIM]at hl2
     refine Qh (Qe rfl ?_ ?_)
     ·intro hc
      have hlt2:k<(nx i).length:=by simpa using hc
      have hgd:(nx i).getD k 0=(nx i)[k]:=by simp[List.getD_eq_getElem?_getD,hlt2]
      refine Qi ?_
      simp only[go_sem]
      refine Qh (Qc ?_)
      refine Qak ?_
      simp only[go_sem,how,hok,hlen,hsz,hrw,hlt,hrow,hlt2,Qf,Qs _ _ hlt2,hgd]
      refine⟨Qo (by omega) (by omega),?_⟩
      refine Qcf ?_
      simp only[go_sem,Qxh]
      refine Qe rfl ?_ ?_
      ·intro hc2
       refine Qa ?_
       simp only[go_sem]
       refine Qj ?_
       simp only[go_sem,X.next]
       refine hr _ _ (retf false _ ?_ (by simp[lk]))
       cases hf:Qit rows.length nx with
       |false=>rfl
       |true=>
        have:=Q3c hf hlt (List.getElem_mem hlt2)
        simp at hc2
        omega
      ·intro hc2
       refine Qi ?_
       simp only[go_sem]
       refine Qr ?_
       simp only[go_sem,X.next]
       refine⟨Qo (by omega) (by omega),(nx i).length-(k+1),by omega,k+1,rfl,by omega,fun x hx=>?_,rfl⟩
       rw[List.take_succ_eq_append_getElem hlt2]at hx
       rcases List.mem_append.1 hx with hx|hx
       ·exact hall2 x hx
       ·simp only[List.mem_singleton]at hx;subst hx
        simpa using hc2
     ·intro hc
      have hge:(nx i).length≤k:=by simpa using hc
      rw[List.take_of_length_le hge]at hall2
      refine Qt ?_
      simp only[go_sem,X.next]
      exact hn _ _ ⟨rfl,hall2,by simp[lk],by simp[lk]⟩
   ·rintro e2 H2 ⟨rfl,hx,l1,l3⟩
    refine Qr ?_
    simp only[go_sem,X.next,l1,l3]
    refine⟨Qo (by omega) (by omega),rows.length-(i+1),by omega,i+1,rfl,by omega,fun j hj=>?_,rfl⟩
    by_cases h:j<i
    ·exact hall j h
    ·have:j=i:=by omega
     subst this;exact hx
  ·intro hc
   have hge:i=rows.length:=by have:¬i<rows.length:=(by simpa using hc);omega
   subst hge
   refine Qt ?_
   simp only[go_sem,X.next]
   refine Qa ?_
   simp only[go_sem,how,hok,hlen]
   intro _
   refine Qj ?_
   refine retf _ _ ?_ (by simp[lk];rfl)
   have:(List.range rows.length).all (fun i=>(nx i).all fun x=>decide (0≤x∧x≤(rows.length:Int)-1))=true:=by
    simp only[List.all_eq_true,List.mem_range,decide_eq_true_eq]
    exact hall
   simp only[Qit,this,Bool.true_and]
   try (by_cases h:0<rows.length <;> simp[h])
end Go.AE.Y

namespace Go.AE.Y
open Go.Proofs.Tryz
def Qm (S:List Bool):List (List C):=S.map fun b=>[.bool b]
theorem Qx (S:List Bool):(Qm S).length=S.length:=by simp[Qm]
theorem Q0 (S:List Bool)(i:Nat)(h:i<S.length):(Qm S).getD i []=[.bool (S.getD i false)]:=by
 simp[Qm,List.getD_eq_getElem?_getD,h]
theorem Qbi (S:List Bool)(i:Nat)(b:Bool):(Qm S).set i [.bool b]=Qm (S.set i b):=by simp[Qm,List.map_set]
theorem Qf2 (S:List Bool):∀r∈Qm S,noOw r=true:=by intro r hr;obtain⟨x,_,rfl⟩:=List.mem_map.1 hr;rfl
def Qaa (l:List Nat):List (List C):=Qd (l.map Int.ofNat)
theorem Q1 (l:List Nat):(Qaa l).length=l.length:=by simp[Qaa,Qf]
theorem Qas2 (l:List Nat)(n:Nat):Qaa l++[[.int .i64 (n:Int)]]=Qaa (l++[n]):=by simp[Qaa,Qd]
theorem Qbl (l:List Nat):∀r∈Qaa l,noOw r=true:=Qv _
set_option maxHeartbeats 2000000 in
theorem Qvf {F:Heap}{p rg:Int}{bc:C}{rows:List (List C)}{nx:Nat→List Int}{y:Nat}(hfit:Qit rows.length nx=true)(hn:rows.length≤1000000)(hg:GRd F bc rows nx)(hyb:∀l a b d,bc=.vsl l a b d→l≠y) :
  ∀(u b:Nat) (S:List Bool) (o:List Nat) (oc:C) (Lg:List (Nat×Obj)) (H:Heap) (K:V→Heap→Prop),S.length=rows.length→rows.length-cnt S≤u→b<rows.length→S.getD b false=false→
   Kn F H [(y,.vec 1 (Qm S))] ([]++Lg)→Gr Lg 1 (Qaa o) oc→o.length≤cnt S→
   (∀(S':List Bool) (o':List Nat) (oc':C) (Lg':List (Nat×Obj)) (H':Heap),Dfs (nxN nx) [b] S o S' o'→Kn F H' [(y,.vec 1 (Qm S'))] ([]++Lg')→Gr Lg' 1 (Qaa o') oc'→K (.c oc') H')→
   Qu prog Qdq [.ag [.int .i64 p,.int .i64 rg,bc],.c (.int .i64 b),.c (.vsl y 1 0 rows.length),.c oc] H K:=by
 intro u
 induction u with
 |zero=>
  intro b S o oc Lg H K hS hu hb hsb
  have h1:=Q25 (S:=S) (x:=b) (by omega) hsb
  have h2:=Qaze (S.set b true)
  rw[List.length_set]at h2
  omega
 |succ u ih=>
  intro b S o oc Lg H K hS hu hb hsb kn hgr hol hK
  have how:=hg.ow
  have hbS:b<S.length:=by omega
  obtain⟨a1,a2,a3,a4,fl,hrow⟩:=hg.x b hb
  have hsz:=hg.s.sz
  have hlen:=hg.s.len
  have hy:=kn.e 0 rfl
  have hocw:=hgr.isOw
  refine Qb Qat Qa1f ?_
  refine Qa ?_
  simp only[go_sem,how]
  refine Qa ?_
  have htk:List.take rows.length (Qm S)=Qm S:=List.take_of_length_le (by rw[Qx];omega)
  simp only[go_sem,hy,hb,hbS,Qx,hS,Q0 _ _ hbS,Qbi,List.drop_zero,Nat.zero_add,Nat.le_refl]
  intro H1 h1
  have kn:=kn.stE 0 rfl h1
  have hcS:=Q25 hbS hsb
  have hnxl:(nxN nx b).length=(nx b).length:=by simp[nxN]
  refine Q4 ?_
  refine Qa ?_
  simp only[go_sem]
  refine Qh (Qc (Qw (fun m e1 H1=>∃(i:Nat) (S1:List Bool) (o1:List Nat) (oc1:C) (Lg1:List (Nat×Obj)),m=(nx b).length-i∧i≤(nx b).length∧Dfs (nxN nx) ((nxN nx b).take i) (S.set b true) o S1 o1∧
   Kn F H1 [(y,.vec 1 (Qm S1))] ([]++Lg1)∧Gr Lg1 1 (Qaa o1) oc1∧
   e1=[(1,.c (.int .i64 b)),(2,.c (.vsl y 1 0 rows.length)),(3,.c oc1),(4,.c (.pp [.int .i64 p,.int .i64 rg,bc])),(9,.c (.int .i64 i))]) (nx b).length ?_ ?_))
  ·exact⟨0,_,o,oc,Lg,by omega,by omega,.nil _ _,kn,hgr,rfl⟩
  ·rintro m e1 H2 ⟨i,S1,o1,oc1,Lg1,hm,hi,hd,kn,hgr,rfl⟩
   have hgd:∀x,x<(S.set b true).length→∀z∈nxN nx x,z<(S.set b true).length:=by
    rw[List.length_set,hS]
    exact fun x hx z hz=>Qak0 hfit hx hz
   have hd1:=hd.len
   rw[List.length_set,hS]at hd1
   have hd2:=hd.count hgd (fun x hx=>hgd b (by rw[List.length_set];exact hbS) x (List.mem_of_mem_take hx))
   have hd3:=hd.olen
   have hd4:=Qaze S1
   have hg2:=hg.keep kn (fun l a b d hh=>by simpa using hyb l a b d hh)
   have hok2:=eq_true hg2.s.ok
   have hrw2:=hg2.s.rows
   have hy:=kn.e 0 rfl
   refine Q4 ?_
   refine Qa ?_
   simp only[go_sem,how,hok2,hlen,hsz,hrw2,hb,hrow,Qf]
   intro hl
   simp only[LIM]at hl
   refine Qh (Qe rfl ?_ ?_)
   ·intro hc
    have hlt:i<(nx b).length:=by simpa using hc
    obtain⟨w,hw⟩:∃w:Nat,(nx b).getD i 0=w:=by
     have h1:=Q3c hfit hb (List.getElem_mem hlt)
     refine⟨((nx b)[i]).toNat,?_⟩
     simp only[List.getD_eq_getElem?_getD,List.getElem?_eq_getElem hlt,Option.getD_some]
     omega
    have hwn:(nxN nx b).take (i+1)=(nxN nx b).take i++[w]:=by
     rw[List.take_succ_eq_append_getElem (by rw[hnxl];exact hlt)]
     congr 1
     simp only[nxN,List.getElem_map]
     simp only[List.getD_eq_getElem?_getD,List.getElem?_eq_getElem hlt,Option.getD_some]at hw
     rw[hw];simp
    have hwl:w<rows.length:=Qak0 hfit hb (x:=w) (by
     have:w∈(nxN nx b).take (i+1):=by rw[hwn];simp
     exact List.mem_of_mem_take this)
    have hwS:w<S1.length:=by omega
    refine Qi ?_
    simp only[go_sem]
    refine Qdc (fun e2 H2=>∃(S2:List Bool) (o2:List Nat) (oc2:C) (Lg2:List (Nat×Obj)),Dfs (nxN nx) ((nxN nx b).take (i+1)) (S.set b true) o S2 o2∧
     Kn F H2 [(y,.vec 1 (Qm S2))] ([]++Lg2)∧Gr Lg2 1 (Qaa o2) oc2∧
     lk 1 e2=.c (.int .i64 b)∧lk 2 e2=.c (.vsl y 1 0 rows.length)∧lk 3 e2=.c oc2∧lk 4 e2=.c (.pp [.int .i64 p,.int .i64 rg,bc])∧lk 9 e2=.c (.int .i64 i)) ?_ ?_
    ·intro Q hnr _ _
     have htk2:List.take rows.length (Qm S1)=Qm S1:=List.take_of_length_le (by rw[Qx];omega)
     refine Qc ?_
     refine Qa ?_
     simp only[go_sem,how,hok2,hlen,hsz,hrw2,hb,hrow,hlt,hy,hw,hwl,hwS,htk2,hd1,Qx,Q0 _ _ hwS,Qf,Qs _ _ hlt,List.drop_zero,Nat.zero_add,Nat.le_refl]
     refine Qe rfl ?_ ?_
     ·intro hc2
      have hsw:S1.getD w false=false:=Qql hc2
      refine Qbb ?_
      simp only[go_sem,how,hok2,hlen,hsz,hrw2,hb,hrow,hlt,hw,Qf,Qs _ _ hlt,hgr.isOw]
      refine ih w S1 o1 oc1 Lg1 H2 _ hd1 (by omega) hwl hsw kn hgr (by omega) fun S2 o2 oc2 Lg2 H3 hd' kn hgr=>?_
      simp only[go_sem,Qtg]
      refine hnr _ _ ⟨S2,o2,oc2,Lg2,?_,kn,hgr,rfl,rfl,rfl,rfl,rfl⟩
      rw[hwn];exact hd.app hd'
     ·intro hc2
      have hsw:S1.getD w false=true:=Qed hc2
      refine Qi ?_
      simp only[go_sem]
      refine hnr _ _ ⟨S1,o1,oc1,Lg1,?_,kn,hgr,rfl,rfl,rfl,rfl,rfl⟩
      rw[hwn];exact hd.app (.skip hsw (.nil _ _))
    ·rintro e2 H3 ⟨S2,o2,oc2,Lg2,hd,kn,hgr,l1,l2,l3,l4,l9⟩
     refine Qr ?_
     simp only[go_sem,X.next,l1,l2,l3,l4,l9]
     exact⟨Qo (by omega) (by omega),(nx b).length-(i+1),by omega,i+1,S2,o2,oc2,Lg2,rfl,by omega,hd,kn,hgr,rfl⟩
   ·intro hc
    have hge:(nx b).length≤i:=by simpa using hc
    rw[List.take_of_length_le (by rw[hnxl];exact hge)]at hd
    have hocw:=hgr.isOw
    refine Qt ?_
    simp only[go_sem,X.next]
    refine Qa ?_
    simp only[go_sem,hocw]
    refine kn.grow (new:=Qd [(b:Int)]) hgr (.mk' _ _ _ _) (Qv _) (by simp only[Q1,Qf,LIM,List.length_cons,List.length_nil];omega) fun z H3 kn=>?_
    simp only[go_sem,Qth]
    refine Qj ?_
    simp only[go_sem,Q5,Qae,Qad8,reduceIte,List.mem_singleton,forall_eq,RS.op]
    refine hK S1 (o1++[b]) _ _ H3 (.one hsb hd) kn ?_
    rw[←Qas2]
    exact .mk _ _ _ (by simp)
end Go.AE.Y

namespace Go.AE.Y
open Go.Proofs.Tryz
variable {H:Heap}{K:V→Heap→Prop}
theorem Qcs {n lo hi:Int}(hK:K (.c (.bool (decide (lo≤n)&&decide (n≤hi)))) H):Qu prog Qaq [.c (.int .i64 n),.c (.int .i64 lo),.c (.int .i64 hi)] H K:=by
 refine Qb Qat Qasp ?_
 refine Qa ?_
 simp only[go_sem]
 refine Qa ?_
 simp only[go_sem]
 refine Qj ?_
 simp only[go_sem,Q5,Qae,Q4d,List.mem_singleton,forall_eq,RS.op]
 have:(bif decide (lo≤n)then decide (n≤hi)else false)=(decide (lo≤n)&&decide (n≤hi)):=by cases decide (lo≤n) <;> rfl
 first|exact hK|(rw[this];exact hK)|(simpa[this]using hK)
def IsIx (ns:List Int)(v r:Int):Prop:=(r=-1∧v∉ns)∨∃i:Nat,r=i∧i<ns.length∧ns.getD i 0=v∧v∉ns.take i
theorem IsIx.nonneg {ns:List Int}{v r:Int}(h:IsIx ns v r):decide (0≤r)=ns.contains v:=by
 rcases h with ⟨rfl,hn⟩|⟨i,rfl,h1,h2,_⟩
 ·have:ns.contains v=false:=by
   cases hc:ns.contains v with
   |false=>rfl
   |true=>exact absurd (List.contains_iff_mem.1 hc) hn
  rw[this];rfl
 ·have:v∈ns:=by
   rw[←h2,List.getD_eq_getElem?_getD,List.getElem?_eq_getElem h1];exact List.getElem_mem h1
  rw[List.contains_iff_mem.2 this];simp
theorem Qbcv {c:C}{ns:List Int}{v:Int}(hs:Slc H 1 (Qd ns) c)(how:c.isOw=false)(hK:∀r,IsIx ns v r→K (.c (.int .i64 r)) H) :
  Qu prog Qqj [.c c,.c (.int .i64 v)] H K:=by
 refine Qb Qat Qa1m ?_
 have hok:=eq_true hs.ok
 have hlen:=hs.len
 have hsz:=hs.sz
 have hrw:=hs.rows
 refine Qa ?_
 simp only[go_sem,how]
 refine Q4 ?_
 refine Qa ?_
 simp only[go_sem,how,hok,hlen,Qf]
 intro hl
 simp only[LIM]at hl
 refine Qh (Qc (Qw (fun m e1 H1=>∃(i:Nat),m=ns.length-i∧i≤ns.length∧H1=H∧v∉ns.take i∧e1=[(0,.c c),(1,.c (.int .i64 v)),(7,.c (.int .i64 ns.length)),(8,.c (.int .i64 i))]) ns.length ?_ ?_))
 ·exact⟨0,by omega,by omega,rfl,by simp,rfl⟩
 ·rintro m e1 H1 ⟨i,hm,hi,rfl,hno,rfl⟩
  refine Qa ?_
  simp only[go_sem,how]
  refine Qh (Qe rfl ?_ ?_)
  ·intro hc
   have hlt:i<ns.length:=by simpa using hc
   have hgd:ns.getD i 0=ns[i]:=by simp[List.getD_eq_getElem?_getD,hlt]
   refine Qi ?_
   simp only[go_sem]
   refine Qh (Qc ?_)
   refine Qa ?_
   simp only[go_sem,how]
   refine Qa ?_
   simp only[go_sem,how,hok,hlen,hsz,hrw,hlt,Qf,Qs _ _ hlt]
   refine Qe rfl ?_ ?_
   ·intro hc2
    have hv:v=ns.getD i 0:=by simpa using hc2
    refine Qa ?_
    simp only[go_sem]
    refine Qj ?_
    simp only[go_sem,X.next,Q5,Qae,Qvr,List.mem_singleton,forall_eq,RS.op]
    exact hK _ (.inr ⟨i,rfl,hlt,hv.symm,hno⟩)
   ·intro hc2
    have hv:¬v=ns.getD i 0:=by simpa using hc2
    refine Qi ?_
    simp only[go_sem]
    refine Qr ?_
    simp only[go_sem,X.next]
    refine⟨Qo (by omega) (by omega),ns.length-(i+1),by omega,i+1,rfl,by omega,?_,rfl⟩
    rw[List.take_succ_eq_append_getElem hlt]
    simp only[List.mem_append,List.mem_singleton,not_or]
    exact⟨hno,fun h=>hv (by rw[hgd];exact h)⟩
  ·intro hc
   have hge:ns.length≤i:=by simpa using hc
   rw[List.take_of_length_le hge]at hno
   refine Qt ?_
   simp only[go_sem,X.next]
   refine Qa ?_
   simp only[go_sem]
   refine Qj ?_
   simp only[go_sem,Q5,Qae,Qvr,List.mem_singleton,forall_eq,RS.op]
   exact hK _ (.inl ⟨rfl,hno⟩)
theorem Qa0h {c:C}{ns:List Int}{v:Int}(hs:Slc H 1 (Qd ns) c)(how:c.isOw=false)(hK:K (.c (.bool (ns.contains v))) H) :
  Qu prog Qgu [.c c,.c (.int .i64 v)] H K:=by
 refine Qb Qat Qafz ?_
 refine Qa ?_
 simp only[go_sem,how]
 refine Qa ?_
 simp only[go_sem,how]
 refine Qbcv hs how fun r hr=>?_
 simp only[go_sem,Qla]
 refine Qj ?_
 simp only[go_sem,Q5,Qae,Qss,List.mem_singleton,forall_eq,RS.op]
 rw[hr.nonneg];exact hK
theorem Qarv {c:C}{ns:List Int}{f:Nat}{caps:List C}{p:Int→Bool}(hs:Slc H 1 (Qd ns) c)(how:c.isOw=false)
  (hf:∀(x:Int) (K':V→Heap→Prop),x∈ns→K' (.c (.bool (p x))) H→Qu prog f ([.c (.int .i64 x)]++caps.map .c) H K')
  (hK:∀r:Int,decide (0≤r)=ns.any p→K (.c (.int .i64 r)) H) :
  Qu prog Qfh [.c c,.c (.fn f caps)] H K:=by
 refine Qb Qat Qaao ?_
 have hok:=eq_true hs.ok
 have hlen:=hs.len
 have hsz:=hs.sz
 have hrw:=hs.rows
 refine Qa ?_
 simp only[go_sem,how]
 refine Q4 ?_
 refine Qa ?_
 simp only[go_sem,how,hok,hlen,Qf]
 intro hl
 simp only[LIM]at hl
 refine Qh (Qc (Qw (fun m e1 H1=>∃(i:Nat),m=ns.length-i∧i≤ns.length∧H1=H∧(∀x∈ns.take i,p x=false)∧e1=[(0,.c c),(1,.c (.fn f caps)),(7,.c (.int .i64 ns.length)),(8,.c (.int .i64 i))]) ns.length ?_ ?_))
 ·exact⟨0,by omega,by omega,rfl,by simp,rfl⟩
 ·rintro m e1 H1 ⟨i,hm,hi,rfl,hno,rfl⟩
  refine Qa ?_
  simp only[go_sem,how]
  refine Qh (Qe rfl ?_ ?_)
  ·intro hc
   have hlt:i<ns.length:=by simpa using hc
   have hgd:ns.getD i 0=ns[i]:=by simp[List.getD_eq_getElem?_getD,hlt]
   refine Qi ?_
   simp only[go_sem]
   refine Qh (Qc ?_)
   refine Qa ?_
   simp only[go_sem,how]
   refine Qa ?_
   simp only[go_sem,how,hok,hlen,hsz,hrw,hlt,Qf,Qs _ _ hlt]
   refine hf _ _ (by rw[hgd];exact List.getElem_mem hlt) ?_
   refine Qe rfl ?_ ?_
   ·intro hc2
    refine Qa ?_
    simp only[go_sem]
    refine Qj ?_
    simp only[go_sem,X.next,Q5,Qae,Qg0,List.mem_singleton,forall_eq,RS.op]
    refine hK _ ?_
    have:ns.any p=true:=List.any_eq_true.2 ⟨ns[i],List.getElem_mem hlt,by rw[←hgd];exact hc2⟩
    rw[this];simp
   ·intro hc2
    refine Qi ?_
    simp only[go_sem]
    refine Qr ?_
    simp only[go_sem,X.next]
    refine⟨Qo (by omega) (by omega),ns.length-(i+1),by omega,i+1,rfl,by omega,?_,rfl⟩
    rw[List.take_succ_eq_append_getElem hlt]
    intro x hx
    rcases List.mem_append.1 hx with hx|hx
    ·exact hno x hx
    ·simp only[List.mem_singleton]at hx;subst hx;rw[←hgd];exact hc2
  ·intro hc
   have hge:ns.length≤i:=by simpa using hc
   rw[List.take_of_length_le hge]at hno
   refine Qt ?_
   simp only[go_sem,X.next]
   refine Qa ?_
   simp only[go_sem]
   refine Qj ?_
   simp only[go_sem,Q5,Qae,Qg0,List.mem_singleton,forall_eq,RS.op]
   refine hK _ ?_
   have:ns.any p=false:=by
    cases hc:ns.any p with
    |false=>rfl
    |true=>obtain⟨x,hx,hp⟩:=List.any_eq_true.1 hc;rw[hno x hx]at hp;exact absurd hp (by simp)
   rw[this];rfl
theorem Qgn {c:C}{ns:List Int}{f:Nat}{caps:List C}{p:Int→Bool}(hs:Slc H 1 (Qd ns) c)(how:c.isOw=false)
  (hf:∀(x:Int) (K':V→Heap→Prop),x∈ns→K' (.c (.bool (p x))) H→Qu prog f ([.c (.int .i64 x)]++caps.map .c) H K')
  (hK:K (.c (.bool (ns.any p))) H):Qu prog Qbp [.c c,.c (.fn f caps)] H K:=by
 refine Qb Qat Qvh ?_
 refine Qa ?_
 simp only[go_sem,how]
 refine Qa ?_
 simp only[go_sem,how]
 refine Qarv hs how hf fun r hr=>?_
 simp only[go_sem,Qen]
 refine Qj ?_
 simp only[go_sem,Q5,Qae,Qhp,List.mem_singleton,forall_eq,RS.op]
 rw[hr];exact hK
end Go.AE.Y

namespace Go.AE.Y
attribute [local instance] Classical.propDecidable
inductive Rch (g:Nat→List Nat)(A:Nat→Prop):Nat→Nat→Prop
 |refl {x:Nat}:¬A x→Rch g A x x
 |step {x y z:Nat}:Rch g A x y→z∈g y→¬A z→Rch g A x z
variable {g:Nat→List Nat}{A B:Nat→Prop}{x y z:Nat}
theorem Rch.mono (h:Rch g A x y)(hAB:∀z,B z→A z):Rch g B x y:=by
 induction h with
 |refl h=>exact .refl fun hb=>h (hAB _ hb)
 |step h1 h2 h3 ih=>exact ih.step h2 fun hb=>h3 (hAB _ hb)
theorem Rch.fst (h:Rch g A x y):¬A x:=by
 induction h with
 |refl h=>exact h
 |step _ _ _ ih=>exact ih
theorem Rch.snd (h:Rch g A x y):¬A y:=by
 cases h with
 |refl h=>exact h
 |step _ _ h=>exact h
theorem Rch.trans (h:Rch g A x y)(k:Rch g A y z):Rch g A x z:=by
 induction k with
 |refl _=>exact h
 |step _ h2 h3 ih=>exact ih.step h2 h3
theorem Rch.head (hx:¬A x)(hy:y∈g x)(h:Rch g A y z):Rch g A x z:=(Rch.step (.refl hx) hy h.fst).trans h
theorem Rch.lt {n:Nat}(hg:∀x,x<n→∀y∈g x,y<n)(h:Rch g A x y)(hx:x<n):y<n:=by
 induction h with
 |refl _=>exact hx
 |step _ h2 _ ih=>exact hg _ ih _ h2
variable {xs:List Nat}{S S' S1:List Bool}{o o' o1:List Nat}
theorem Dfs.adds (h:Dfs g xs S o S' o'):(∀x,x<S.length→∀y∈g x,y<S.length)→(∀x∈xs,x<S.length)→
  ∃t,o'=o++t∧(∀x,S'.getD x false=true↔S.getD x false=true∨x∈t)∧(∀x∈t,∀y∈g x,S'.getD y false=true)∧
   (∀x∈xs,S'.getD x false=true)∧(∀y∈t,∃x∈xs,Rch g (fun z=>S.getD z false=true) x y):=by
 induction h with
 |nil S o=>exact fun _ _=>⟨[],by simp,by simp,by simp,by simp,by simp⟩
 |@skip x xs S S' o o' h1 h2 ih=>
  intro hg hx
  obtain⟨t,e,a1,a2,a3,a4⟩:=ih hg fun y hy=>hx y (List.mem_cons_of_mem _ hy)
  refine⟨t,e,a1,a2,fun y hy=>?_,fun y hy=>?_⟩
  ·rcases List.mem_cons.1 hy with rfl|hy
   ·exact h2.mono _ h1
   ·exact a3 y hy
  ·obtain⟨z,hz,hr⟩:=a4 y hy
   exact⟨z,List.mem_cons_of_mem _ hz,hr⟩
 |@go x xs S S1 S' o o1 o' h1 h2 h3 ih1 ih2=>
  intro hg hxs
  have hx:=hxs x List.mem_cons_self
  have hl:=h2.len
  rw[List.length_set]at hl
  obtain⟨t1,e1,a1,a2,a3,a4⟩:=ih1 (by simpa using hg) (by simpa using hg x hx)
  obtain⟨t2,e2,b1,b2,b3,b4⟩:=ih2 (by rw[hl];exact hg) (by rw[hl];exact fun y hy=>hxs y (List.mem_cons_of_mem _ hy))
  have hset:∀y,(S.set x true).getD y false=true↔y=x∨S.getD y false=true:=by
   intro y
   rw[Qn7]
   by_cases hyx:y=x
   ·simp[hyx,hx]
   ·simp[hyx]
  have hmono:∀y,S.getD y false=true→S1.getD y false=true:=fun y hy=>(a1 y).2 (.inl ((hset y).2 (.inr hy)))
  have hxS1:S1.getD x false=true:=(a1 x).2 (.inl ((hset x).2 (.inl rfl)))
  refine⟨t1++[x]++t2,by rw[e2,e1];simp,fun y=>?_,fun y hy z hz=>?_,fun y hy=>?_,fun y hy=>?_⟩
  ·rw[b1,a1,hset]
   simp only[List.mem_append,List.mem_singleton]
   constructor
   ·rintro (((h|h)|h)|h)
    ·exact .inr (.inl (.inr h))
    ·exact .inl h
    ·exact .inr (.inl (.inl h))
    ·exact .inr (.inr h)
   ·rintro (h|((h|h)|h))
    ·exact .inl (.inl (.inr h))
    ·exact .inl (.inr h)
    ·exact .inl (.inl (.inl h))
    ·exact .inr h
  ·rcases List.mem_append.1 hy with hy|hy
   ·rcases List.mem_append.1 hy with hy|hy
    ·exact (b1 z).2 (.inl (a2 y hy z hz))
    ·simp only[List.mem_singleton]at hy;subst hy
     exact (b1 z).2 (.inl (a3 z hz))
   ·exact b2 y hy z hz
  ·rcases List.mem_cons.1 hy with rfl|hy
   ·exact (b1 y).2 (.inl hxS1)
   ·exact b3 y hy
  ·rcases List.mem_append.1 hy with hy|hy
   ·rcases List.mem_append.1 hy with hy|hy
    ·obtain⟨z,hz,hr⟩:=a4 y hy
     exact⟨x,List.mem_cons_self,.head (by rw[h1];simp) hz (hr.mono fun w hw=>(hset w).2 (.inr hw))⟩
    ·simp only[List.mem_singleton]at hy;subst hy
     exact⟨y,List.mem_cons_self,.refl (by rw[h1];simp)⟩
   ·obtain⟨z,hz,hr⟩:=b4 y hy
    exact⟨z,List.mem_cons_of_mem _ hz,hr.mono hmono⟩
theorem Dfs.seen (h:Dfs g xs S o S' o')(hg:∀x,x<S.length→∀y∈g x,y<S.length)(hxs:∀x∈xs,x<S.length)(y:Nat) :
  S'.getD y false=true↔S.getD y false=true∨∃x∈xs,Rch g (fun z=>S.getD z false=true) x y:=by
 obtain⟨t,e,a1,a2,a3,a4⟩:=h.adds hg hxs
 constructor
 ·intro hy
  rcases (a1 y).1 hy with hy|hy
  ·exact .inl hy
  ·exact .inr (a4 y hy)
 ·rintro (hy|⟨x,hx,hr⟩)
  ·exact h.mono y hy
  ·induction hr with
   |refl _=>exact a3 _ hx
   |step h1 h2 h3 ih=>
    rcases (a1 _).1 ih with h|h
    ·exact absurd h h1.snd
    ·exact a2 _ h _ h2
theorem Dfs.list (h:Dfs g xs S [] S' o')(hg:∀x,x<S.length→∀y∈g x,y<S.length)(hxs:∀x∈xs,x<S.length)(hS:∀x,S.getD x false=false)(y:Nat) :
  y∈o'↔S'.getD y false=true:=by
 obtain⟨t,e,a1,_⟩:=h.adds hg hxs
 rw[a1,hS]
 simp[e]
theorem Qa39:∀{l k:List Nat},l.Pairwise (· < ·)→k.Pairwise (· < ·)→(∀x,x∈l↔x∈k)→l=k
 |[],[],_,_,_=>rfl
 |[],b::k,_,_,h=>by have:=(h b).2 List.mem_cons_self;simp at this
 |a::l,[],_,_,h=>by have:=(h a).1 List.mem_cons_self;simp at this
 |a::l,b::k,h1,h2,h=>by
  rw[List.pairwise_cons]at h1 h2
  have hab:a=b:=by
   rcases List.mem_cons.1 ((h a).1 List.mem_cons_self)with e|e
   ·exact e
   ·rcases List.mem_cons.1 ((h b).2 List.mem_cons_self)with e'|e'
    ·exact e'.symm
    ·have:=h1.1 b e';have:=h2.1 a e;omega
  subst hab
  congr 1
  refine Qa39 h1.2 h2.2 fun x=>⟨fun hx=>?_,fun hx=>?_⟩
  ·rcases List.mem_cons.1 ((h x).1 (List.mem_cons_of_mem _ hx))with e|e
   ·subst e;have:=h1.1 x hx;omega
   ·exact e
  ·rcases List.mem_cons.1 ((h x).2 (List.mem_cons_of_mem _ hx))with e|e
   ·subst e;have:=h2.1 x hx;omega
   ·exact e
theorem Qajx {l:List Nat}{n:Nat}{p:Nat→Bool}(h1:l.Pairwise (· < ·))(h:∀x,x∈l↔x<n∧p x=true):l=(List.range n).filter p:=
 Qa39 h1 (List.Pairwise.filter _ List.pairwise_lt_range) fun x=>by rw[h];simp[List.mem_filter]
noncomputable def Qg9 (g:Nat→List Nat)(a:Int)(x:Nat):Bool:=decide (Rch g (fun z=>(z:Int)=a) 0 x)
noncomputable def Qry (g:Nat→List Nat)(a b:Nat):Bool:=Qg9 g (-1) a&&Qg9 g (-1) b&&!Qg9 g a b
def Qaf3 (n:Nat)(g:Nat→List Nat)(h:Nat):List Nat:=(List.range n).filter fun i=>decide (h∈g i)
noncomputable def Qbg2 (n:Nat)(g:Nat→List Nat)(h:Nat):Bool:=(Qaf3 n g h).any fun p=>Qry g h p
noncomputable def Qbg3 (n:Nat)(g:Nat→List Nat):List Nat:=(List.range n).filter (Qbg2 n g)
inductive Bdy (n:Nat)(g:Nat→List Nat)(h:Nat):Nat→Prop
 |head:Bdy n g h h
 |back {p:Nat}:p∈Qaf3 n g h→Qry g h p=true→Bdy n g h p
 |more {b p:Nat}:Bdy n g h b→b≠h→p∈Qaf3 n g b→Qg9 g (-1) p=true→Bdy n g h p
noncomputable def Qa4d (n:Nat)(g:Nat→List Nat)(h:Nat):List Nat:=(List.range n).filter fun b=>decide (Bdy n g h b)
variable {n h:Nat}
theorem predL_mem {p:Nat}:p∈Qaf3 n g h↔p<n∧h∈g p:=by simp[Qaf3]
theorem Bdy.lt {b:Nat}(hh:h<n)(hb:Bdy n g h b):b<n:=by
 cases hb with
 |head=>exact hh
 |back h1 _=>exact (predL_mem.1 h1).1
 |more _ _ h1 _=>exact (predL_mem.1 h1).1
theorem Qa4f (hh:h<n){b:Nat}:b∈Qa4d n g h↔Bdy n g h b:=by
 simp only[Qa4d,List.mem_filter,List.mem_range,decide_eq_true_eq]
 exact⟨fun h=>h.2,fun h=>⟨h.lt hh,h⟩⟩
theorem Qa4e:(Qa4d n g h).Pairwise (· < ·):=List.Pairwise.filter _ List.pairwise_lt_range
end Go.AE.Y

namespace Go.AE.Y
open Go.Proofs.Tryz
variable {H:Heap}{K:V→Heap→Prop}
theorem GRd.ows {c:C}{rows:List (List C)}{nx:Nat→List Int}(h:GRd H c rows nx){i:Nat}(hi:i<rows.length){a1 a2 a3 a4 a5:C}(hr:rows.getD i []=[a1,a2,a3,a4,a5]) :
  a1.isOw=false∧a2.isOw=false∧a3.isOw=false∧a4.isOw=false∧a5.isOw=false:=by
 have:=h.no _ (List.getElem_mem hi)
 have e:rows[i]=[a1,a2,a3,a4,a5]:=by rw[←hr];simp[List.getD_eq_getElem?_getD,hi]
 rw[e]at this
 simpa[Go.AE.noOw]using this
def Qaf4 (nx:Nat→List Int)(b:Int)(n:Nat):List Int:=if decide (0≤b)&&decide (b≤(n:Int)-1)then Q8 nx b n else []
set_option maxHeartbeats 1000000 in
theorem Qa36 {p rg:Int}{bc:C}{rows:List (List C)}{nx:Nat→List Int}{b:Int}(hg:GRd H bc rows nx)
  (hK:∀fl H',Upd H H' []→K (.c (.sl fl 1 (Qd (Qaf4 nx b rows.length)))) H'):Qu prog Qiu [.ag [.int .i64 p,.int .i64 rg,bc],.c (.int .i64 b)] H K:=by
 refine Qz ?_
 refine Qb Qat Qakk ?_
 have how:=hg.ow
 have hok:=eq_true hg.s.ok
 have hlen:=hg.s.len
 have hsz:=hg.s.sz
 refine Qa ?_
 simp only[go_sem,how]
 refine Qa ?_
 simp only[go_sem,how]
 refine Q4 ?_
 refine Qa ?_
 simp only[go_sem,how,hok,hlen]
 intro hl
 simp only[LIM]at hl
 refine⟨Qo (by omega) (by omega),?_⟩
 refine Qcs ?_
 simp only[go_sem,Ql7]
 refine Qh (Qe rfl ?_ ?_)
 ·intro hc
  have hc':=Qql hc
  refine Qa ?_
  simp only[go_sem]
  refine Qj ?_
  simp only[go_sem,Q5,Qae,Ql2,List.mem_singleton,forall_eq,RS.op]
  have h:=hK false _ (Kn.start0 H).fin
  simp only[Qaf4,hc']at h
  exact⟨_,.c _ _ FrzR.nil.sl,h⟩
 ·intro hc
  have hc':=Qed hc
  refine Qi ?_
  simp only[go_sem]
  refine Q4 ?_
  refine Qa ?_
  simp only[go_sem,how,hok,hlen]
  intro _
  refine Qh (Qc (Qw (fun m e1 H1=>∃(i:Nat) (c:C) (Lg:List (Nat×Obj)),m=rows.length-i∧i≤rows.length∧Gr Lg 1 (Qd (Q8 nx b i)) c∧Kn H H1 [] ([]++Lg)∧
   e1=[(1,.c (.int .i64 b)),(5,.c c),(16,.c bc),(17,.c (.int .i64 rows.length)),(18,.c (.int .i64 i))]) rows.length ?_ ?_))
  ·exact⟨0,_,[],by omega,by omega,.nil 1,Kn.start0 H,rfl⟩
  ·rintro m e1 H1 ⟨i,c,Lg,hm,hi,hgr,kn,rfl⟩
   have hg1:=hg.keep0 kn
   have hok1:=eq_true hg1.s.ok
   have hrw1:=hg1.s.rows
   refine Qa ?_
   simp only[go_sem]
   refine Qh (Qe rfl ?_ ?_)
   ·intro hc
    have hlt:i<rows.length:=by simpa using hc
    obtain⟨a1,a2,a3,a4,fl,hrow⟩:=hg.x i hlt
    obtain⟨o1,o2,o3,o4,_⟩:=hg.ows hlt hrow
    refine Qi ?_
    simp only[go_sem]
    refine Qdc (fun e2 H2=>∃(c:C) (Lg:List (Nat×Obj)),Gr Lg 1 (Qd (Q8 nx b (i+1))) c∧Kn H H2 [] ([]++Lg)∧
     lk 1 e2=.c (.int .i64 b)∧lk 5 e2=.c c∧lk 16 e2=.c bc∧lk 17 e2=.c (.int .i64 rows.length)∧lk 18 e2=.c (.int .i64 i)) ?_ ?_
    ·intro Q hnr _ _
     refine Qc ?_
     refine Qa ?_
     simp only[go_sem,how,hok1,hlen,hsz,hrw1,hlt,hrow,o1,o2,o3,o4]
     intro x hx H2 h2
     have kn:=(kn.al hx h2).perm List.perm_append_comm
     have hx2:=kn.l 0 rfl
     simp only[go_sem,Ql8,hx2]
     intro H3 h3
     have kn:=kn.stL 0 rfl h3
     have hx3:=kn.l 0 rfl
     refine Qa ?_
     simp only[go_sem,hx3]
     refine Qa0h (.mk' _ _ _ _) rfl ?_
     refine Qe rfl ?_ ?_
     ·intro hcon
      have hpl:=Qcg nx b i
      refine Qr ?_
      simp only[go_sem]
      refine kn.grow (B:=[_]) (new:=Qd [(i:Int)]) hgr (.mk' _ _ _ _) (Qv _) (by simp only[Qf,LIM,List.length_cons,List.length_nil];omega) fun y' H4 kn=>?_
      simp only[go_sem,Ql9]
      refine hnr _ _ ⟨_,_,?_,(kn.perm List.perm_append_comm).drop,rfl,rfl,rfl,rfl,rfl⟩
      rw[Qgb,hcon,if_pos rfl,Qcb]
      exact .mk _ _ _ (by simp)
     ·intro hcon
      refine Qi ?_
      simp only[go_sem]
      refine hnr _ _ ⟨c,Lg,?_,?_,rfl,rfl,rfl,rfl,rfl⟩
      ·rw[Qgb,hcon]
       simpa using hgr
      ·have kn:Kn H H3 [] ([(x,.st [a1,a2,a3,a4,.sl fl 1 (Qd (nx i))])]++([]++Lg)):=kn
       exact (kn.perm List.perm_append_comm).drop
    ·rintro e2 H2 ⟨c2,Lg2,hgr,kn,l1,l5,l16,l17,l18⟩
     refine Qr ?_
     simp only[go_sem,X.next,l1,l5,l16,l17,l18]
     exact⟨Qo (by omega) (by omega),rows.length-(i+1),by omega,i+1,c2,Lg2,rfl,by omega,hgr,kn,rfl⟩
   ·intro hc
    have hge:i=rows.length:=by have:¬i<rows.length:=(by simpa using hc);omega
    subst hge
    refine Qt ?_
    simp only[go_sem,X.next]
    refine Qa ?_
    simp only[go_sem,hgr.isOw]
    refine Qj ?_
    simp only[go_sem,Q5,Qae,Ql2,List.mem_singleton,forall_eq,RS.op,hgr.isOw]
    refine⟨_,.c _ _ (hgr.frz kn (Qv _)),?_⟩
    have:=hK false _ kn.fin
    simp only[Qaf4,hc']at this
    exact this
end Go.AE.Y

namespace Go.AE.Y
attribute [local instance] Classical.propDecidable
structure Wk (g:Nat→List Nat)(a:Int)(n:Nat)(S:List Bool)(T:List Nat):Prop where
 len:S.length=n
 s:∀x,S.getD x false=true→Rch g (fun z=>(z:Int)=a) 0 x
 t:∀x∈T,(x:Int)≠a→Rch g (fun z=>(z:Int)=a) 0 x
 c:∀x,S.getD x false=true→∀y∈g x,S.getD y false=true∨(y:Int)=a∨y∈T
 z:S.getD 0 false=true∨((0:Nat):Int)=a∨0∈T
 r:∀x∈T,x<n
variable {g:Nat→List Nat}{a:Int}{n:Nat}{S:List Bool}{T:List Nat}{b:Nat}
theorem Qa1 (n x:Nat):(List.replicate n false).getD x false=false:=by
 simp only[List.getD_eq_getElem?_getD,List.getElem?_replicate]
 split <;> rfl
theorem Wk.init (hn:0<n):Wk g a n (List.replicate n false) [0]:=by
 refine⟨by simp,fun x h=>?_,fun x hx ha=>?_,fun x h=>?_,.inr (.inr (by simp)),fun x hx=>?_⟩
 ·rw[Qa1]at h;simp at h
 ·simp at hx;subst hx;exact .refl (by simpa using ha)
 ·rw[Qa1]at h;simp at h
 ·simp at hx;omega
theorem Wk.skip (h:Wk g a n S (T++[b]))(hb:(b:Int)=a∨S.getD b false=true):Wk g a n S T:=by
 refine⟨h.len,h.s,fun x hx=>h.t x (List.mem_append_left _ hx),fun x hx y hy=>?_,?_,fun x hx=>h.r x (List.mem_append_left _ hx)⟩
 ·rcases h.c x hx y hy with h1|h1|h1
  ·exact .inl h1
  ·exact .inr (.inl h1)
  ·rcases List.mem_append.1 h1 with h1|h1
   ·exact .inr (.inr h1)
   ·simp at h1;subst h1
    rcases hb with hb|hb
    ·exact .inr (.inl hb)
    ·exact .inl hb
 ·rcases h.z with h1|h1|h1
  ·exact .inl h1
  ·exact .inr (.inl h1)
  ·rcases List.mem_append.1 h1 with h1|h1
   ·exact .inr (.inr h1)
   ·simp at h1;subst h1
    rcases hb with hb|hb
    ·exact .inr (.inl hb)
    ·exact .inl hb
theorem Wk.go (h:Wk g a n S (T++[b]))(hba:(b:Int)≠a)(hg:∀y∈g b,y<n):Wk g a n (S.set b true) (T++g b):=by
 have hb:=h.t b (by simp) hba
 have hbn:=h.r b (by simp)
 have hset:∀y,(S.set b true).getD y false=true↔y=b∨S.getD y false=true:=by
  intro y
  rw[Qn7]
  by_cases hyx:y=b
  ·simp[hyx,h.len,hbn]
  ·simp[hyx]
 refine⟨by simp[h.len],fun x hx=>?_,fun x hx ha=>?_,fun x hx y hy=>?_,?_,fun x hx=>?_⟩
 ·rcases (hset x).1 hx with rfl|hx
  ·exact hb
  ·exact h.s x hx
 ·rcases List.mem_append.1 hx with hx|hx
  ·exact h.t x (List.mem_append_left _ hx) ha
  ·exact hb.step hx ha
 ·rcases (hset x).1 hx with rfl|hx
  ·exact .inr (.inr (List.mem_append_right _ hy))
  ·rcases h.c x hx y hy with h1|h1|h1
   ·exact .inl ((hset y).2 (.inr h1))
   ·exact .inr (.inl h1)
   ·rcases List.mem_append.1 h1 with h1|h1
    ·exact .inr (.inr (List.mem_append_left _ h1))
    ·simp at h1;subst h1;exact .inl ((hset y).2 (.inl rfl))
 ·rcases h.z with h1|h1|h1
  ·exact .inl ((hset 0).2 (.inr h1))
  ·exact .inr (.inl h1)
  ·rcases List.mem_append.1 h1 with h1|h1
   ·exact .inr (.inr (List.mem_append_left _ h1))
   ·simp at h1;exact .inl ((hset 0).2 (.inl h1))
 ·rcases List.mem_append.1 hx with hx|hx
  ·exact h.r x (List.mem_append_left _ hx)
  ·exact hg x hx
theorem Wk.fin (h:Wk g a n S []):S=(List.range n).map (Qg9 g a):=by
 have hh:∀x,S.getD x false=true↔Rch g (fun z=>(z:Int)=a) 0 x:=by
  refine fun x=>⟨h.s x,fun hr=>?_⟩
  induction hr with
  |refl h0=>
   rcases h.z with h1|h1|h1
   ·exact h1
   ·exact absurd h1 h0
   ·simp at h1
  |step h1 h2 h3 ih=>
   rcases h.c _ ih _ h2 with h4|h4|h4
   ·exact h4
   ·exact absurd h4 h3
   ·simp at h4
 refine List.ext_getElem? fun x=>?_
 by_cases hx:x<n
 ·have hxs:x<S.length:=by rw[h.len];exact hx
  have:=hh x
  simp only[List.getD_eq_getElem?_getD,List.getElem?_eq_getElem hxs,Option.getD_some]at this
  rw[List.getElem?_eq_getElem hxs]
  simp only[List.getElem?_map,List.getElem?_range hx,Option.map_some,Qg9]
  congr 1
  by_cases hr:Rch g (fun z=>(z:Int)=a) 0 x
  ·rw[this.2 hr,decide_eq_true hr]
  ·rw[decide_eq_false hr]
   cases hv:S[x]with
   |false=>rfl
   |true=>exact absurd (this.1 hv) hr
 ·rw[List.getElem?_eq_none (by rw[h.len];omega),List.getElem?_eq_none (by simp;omega)]
end Go.AE.Y

namespace Go.AE.Y
open Go.Proofs.Tryz
variable {H H0:Heap}{K:V→Heap→Prop}
theorem Qbh (n:Nat):List.replicate n [C.bool false]=Qm (List.replicate n false):=by simp[Qm]
theorem Qas (l:List Nat)(i:Nat)(h:i<l.length):(Qaa l).getD i []=[.int .i64 ((l.getD i 0:Nat):Int)]:=by
 simp[Qaa,Qd,List.getD_eq_getElem?_getD,h]
theorem Qvk (a b:List Nat):Qaa (a++b)=Qaa a++Qaa b:=by simp[Qaa,Qd]
end Go.AE.Y

namespace Go.AE
variable {H0 F H:Heap}{E E0 E' L L1 L2 M:List (Nat×Obj)}
theorem Kn.startE (h:∀p∈E,H p.1=p.2∧p.2≠.none)(hd:(E.map Prod.fst).Nodup):Kn H H E []:=
 ⟨by simpa using h,fun p hp=>by rw[(h p hp).1];exact (h p hp).2,by simp,hd,by simp,fun _ _ _=>rfl⟩
theorem Kn.mid (k:Kn H0 F E0 (L1++L2)):Kn F F L1 []:=
 .startE (fun p hp=>k.get p (List.mem_append_right _ (List.mem_append_left _ hp))) (by
  have:=k.dL;rw[List.map_append]at this;exact (List.nodup_append.1 this).1)
theorem Kn.comp (k1:Kn H0 F E0 (L1++L2))(k2:Kn F H E' M)(hE:E'.map Prod.fst=L1.map Prod.fst):Kn H0 H E0 ((E'++L2)++M):=by
 have hd:=k1.dL
 rw[List.map_append]at hd
 obtain⟨d1,d2,d3⟩:=List.nodup_append.1 hd
 have hE0:∀p∈E0,F p.1=p.2∧p.2≠.none:=fun p hp=>k1.get p (List.mem_append_left _ hp)
 have hL2:∀p∈L2,F p.1=p.2∧p.2≠.none:=fun p hp=>k1.get p (List.mem_append_right _ (List.mem_append_right _ hp))
 have inL1:∀p∈E',∃q∈L1,q.1=p.1:=fun p hp=>by
  have:=Qal hp;rw[hE]at this
  obtain⟨q,h1,h2⟩:=List.mem_map.1 this;exact⟨q,h1,h2⟩
 have keep:∀m,F m≠.none→m∉L1.map Prod.fst→H m=F m:=fun m h1 h2=>k2.chg m h1 (by rw[hE];exact h2)
 have hE0L:∀p∈E0,∀q∈L1,p.1≠q.1:=fun p hp q hq hh=>k1.ext p hp (hh▸k1.loc q (List.mem_append_left _ hq))
 refine⟨fun p hp=>?_,k1.ext,fun p hp=>?_,k1.dE,?_,fun m hm hn=>?_⟩
 ·rcases List.mem_append.1 hp with hp|hp
  ·obtain⟨h1,h2⟩:=hE0 p hp
   refine⟨?_,h2⟩
   rw[keep p.1 (by rw[h1];exact h2) (fun hh=>?_),h1]
   obtain⟨q,hq,hqq⟩:=List.mem_map.1 hh
   exact hE0L p hp q hq hqq.symm
  ·rcases List.mem_append.1 hp with hp|hp
   ·rcases List.mem_append.1 hp with hp|hp
    ·exact k2.get p (List.mem_append_left _ hp)
    ·obtain⟨h1,h2⟩:=hL2 p hp
     refine⟨?_,h2⟩
     rw[keep p.1 (by rw[h1];exact h2) (fun hh=>?_),h1]
     exact d3 _ hh _ (Qal hp) rfl
   ·exact k2.get p (List.mem_append_right _ hp)
 ·rcases List.mem_append.1 hp with hp|hp
  ·rcases List.mem_append.1 hp with hp|hp
   ·obtain⟨q,hq,hh⟩:=inL1 p hp
    rw[←hh];exact k1.loc q (List.mem_append_left _ hq)
   ·exact k1.loc p (List.mem_append_right _ hp)
  ·have h1:=k2.loc p hp
   cases h0:H0 p.1 with
   |none=>rfl
   |_=>
    by_cases hx:p.1∈E0.map Prod.fst
    ·obtain⟨q,hq,hh⟩:=List.mem_map.1 hx
     obtain⟨a1,a2⟩:=hE0 q hq
     rw[hh,h1]at a1;exact absurd a1.symm a2
    ·have:=k1.chg p.1 (by rw[h0];simp) hx
     rw[h1,h0]at this;simp at this
 ·rw[List.map_append,List.map_append]
  refine List.nodup_append.2 ⟨List.nodup_append.2 ⟨k2.dE,d2,fun a ha b hb=>?_⟩,k2.dL,fun a ha b hb hab=>?_⟩
  ·rw[hE]at ha;exact d3 a ha b hb
  ·obtain⟨q,hq,rfl⟩:=List.mem_map.1 hb
   have hf:=k2.loc q hq
   rcases List.mem_append.1 ha with ha|ha
   ·obtain⟨r,hr,rfl⟩:=List.mem_map.1 ha
    exact k2.ext r hr (hab▸hf)
   ·obtain⟨r,hr,rfl⟩:=List.mem_map.1 ha
    obtain⟨a1,a2⟩:=hL2 r hr
    rw[hab,hf]at a1;exact a2 a1.symm
 ·rw[keep m (by rw[k1.chg m hm hn];exact hm) (fun hh=>?_),k1.chg m hm hn]
  obtain⟨q,hq,rfl⟩:=List.mem_map.1 hh
  exact hm (k1.loc q (List.mem_append_left _ hq))
theorem Kn.upd (k:Kn H0 H E L):Upd H0 H E:=⟨fun p hp=>(k.get p (List.mem_append_left _ hp)).1,fun m hm hn=>k.chg m hm hn⟩
theorem Y.FrzL.ptr {S:Nat→Bool}{l:Nat}{cells cells':List C}(hS:S l=true)(hH:H l=.st cells)(h:FrzL H S cells cells'):FrzC H S (.ptr l 0) (.pp cells'):=by
 obtain⟨h1,h2⟩:=h.spec
 exact .ptr l 0 cells cells cells' hS hH rfl h1 h2
theorem Kn.growR {B Lg:List (Nat×Obj)}{K:V→Heap→Prop}{sz:Nat}{rows new:List (List C)}{b c:C}(kn:Kn H0 H E (B++Lg))(hc:Gr Lg sz rows c)(hb:Slc H sz new b)
  (h1:∀r∈new,noOw r=true) (h2:rows.length+new.length≤LIM)
  (h:∀t Lg' H',Gr Lg' sz (rows++new) t→t.isOw=false→Kn H0 H' E (B++Lg')→K (.c t) H'):appQ H sz c b K:=
 kn.grow hc hb h1 h2 fun y' H' k=>h _ _ H' (.mk y' sz _ (by simp)) rfl k
end Go.AE

namespace Go.AE.Y
open Go.Proofs.Tryz
variable {H H0:Heap}{K:V→Heap→Prop}
def Qbe9 (x3 x4 x5:Nat)(p rg:Int)(bc:C):List C:=[.ptr x4 0,.pp [.int .i64 p,.int .i64 rg,bc],.ptr x5 0,.ptr x3 0]
def visE (x3 x4 x5 y n:Nat)(p rg:Int)(bc:C)(S:List Bool)(oc:C):List (Nat×Obj):=
 [(y,.vec 1 (Qm S)),(x3,.st [oc]),(x4,.st [.vsl y 1 0 n]),(x5,.st [.fn Q3e (Qbe9 x3 x4 x5 p rg bc)])]
end Go.AE.Y

namespace Go.AE.Y
variable {ns:List Int}{n:Int}{at':Nat}
structure InsAt (ns:List Int)(n:Int)(k:Nat):Prop where
 le:k≤ns.length
 lo:∀i,i<k→∀(h:i<ns.length),ns[i]<n
 hi:∀(h:k<ns.length),n≤ns[k]
theorem InsAt.mem_of_asc {k:Nat}(h:InsAt ns n k)(ha:ns.Pairwise (· < ·)):(∀x∈ns.take k,x<n)∧(∀x∈ns.drop k,n≤x)∧(∀x∈ns.drop (k+1),n<x):=by
 have hp:=List.pairwise_iff_getElem.1 ha
 refine⟨fun x hx=>?_,fun x hx=>?_,fun x hx=>?_⟩
 ·obtain⟨i,hi,rfl⟩:=List.mem_iff_getElem.1 hx
  rw[List.getElem_take]
  rw[List.length_take]at hi
  exact h.lo i (by omega) (by omega)
 ·obtain⟨i,hi,rfl⟩:=List.mem_iff_getElem.1 hx
  rw[List.getElem_drop]
  rw[List.length_drop]at hi
  have h1:=h.hi (by omega)
  by_cases h0:i=0
  ·subst h0;exact h1
  ·have:=hp k (k+i) (by omega) (by omega) (by omega)
   exact Int.le_trans h1 (Int.le_of_lt this)
 ·obtain⟨i,hi,rfl⟩:=List.mem_iff_getElem.1 hx
  rw[List.getElem_drop]
  rw[List.length_drop]at hi
  have h1:=h.hi (by omega)
  have:=hp k (k+1+i) (by omega) (by omega) (by omega)
  exact Int.lt_of_le_of_lt h1 this
theorem InsAt.new {k:Nat}(h:InsAt ns n k)(ha:ns.Pairwise (· < ·))(hn:∀(h:k<ns.length),ns[k]≠n) :
  (ns.take k++[n]++ns.drop k).Pairwise (· < ·)∧(∀x,x∈ns.take k++[n]++ns.drop k↔x=n∨x∈ns):=by
 obtain⟨h1,h2,h3⟩:=h.mem_of_asc ha
 have h4:∀x∈ns.drop k,n<x:=by
  intro x hx
  have hk:k<ns.length:=by
   rcases Nat.lt_or_ge k ns.length with h|h
   ·exact h
   ·rw[List.drop_eq_nil_of_le h]at hx;simp at hx
  rw[List.drop_eq_getElem_cons hk]at hx
  rcases List.mem_cons.1 hx with rfl|hx
  ·have:=h.hi hk;have:=hn hk;omega
  ·exact h3 x hx
 refine⟨?_,fun x=>?_⟩
 ·rw[List.append_assoc,List.pairwise_append]
  refine⟨ha.sublist (List.take_sublist _ _),?_,fun a ha' b hb=>?_⟩
  ·rw[List.singleton_append,List.pairwise_cons]
   exact⟨h4,ha.sublist (List.drop_sublist _ _)⟩
  ·have:=h1 a ha'
   rcases List.mem_append.1 hb with hb|hb
   ·simp at hb;subst hb;exact this
   ·have:=h2 b hb;omega
 ·conv=>rhs;rw[←List.take_append_drop k ns]
  simp only[List.mem_append,List.mem_singleton]
  constructor
  ·rintro ((h|h)|h)
   ·exact .inr (.inl h)
   ·exact .inl h
   ·exact .inr (.inr h)
  ·rintro (h|h|h)
   ·exact .inl (.inr h)
   ·exact .inl (.inl h)
   ·exact .inr h
end Go.AE.Y

namespace Go.AE.Y
open Go.Proofs.Tryz
variable {H H0:Heap}{K:V→Heap→Prop}
theorem Qaff {c:C}{ns:List Int}{v:Int}(hs:Slc H 1 (Qd ns) c)(how:c.isOw=false)(hK:∀r,IsIx ns v r→K (.c (.int .i64 r)) H) :
  Qu prog Qnx [.c c,.c (.int .i64 v)] H K:=by
 refine Qb Qat Qbed ?_
 have hok:=eq_true hs.ok
 have hlen:=hs.len
 have hsz:=hs.sz
 have hrw:=hs.rows
 refine Qa ?_
 simp only[go_sem,how]
 refine Q4 ?_
 refine Qa ?_
 simp only[go_sem,how]
 refine Qh (Qc (Qw (fun m e1 H1=>∃(i:Nat),m=ns.length-i∧i≤ns.length∧H1=H∧v∉ns.take i∧e1=[(0,.c c),(1,.c (.int .i64 v)),(5,.c (.int .i64 i))]) ns.length ?_ ?_))
 ·exact⟨0,by omega,by omega,rfl,by simp,rfl⟩
 ·rintro m e1 H1 ⟨i,hm,hi,rfl,hno,rfl⟩
  refine Q4 ?_
  refine Qa ?_
  simp only[go_sem,how,hok,hlen,Qf]
  intro hl
  simp only[LIM]at hl
  refine Qh (Qe rfl ?_ ?_)
  ·intro hc
   have hlt:i<ns.length:=by simpa using hc
   have hgd:ns.getD i 0=ns[i]:=by simp[List.getD_eq_getElem?_getD,hlt]
   refine Qi ?_
   simp only[go_sem]
   refine Qh (Qc ?_)
   refine Qa ?_
   simp only[go_sem,how,hok,hlen,hsz,hrw,hlt,Qf,Qs _ _ hlt]
   refine Qe rfl ?_ ?_
   ·intro hc2
    have hv:ns.getD i 0=v:=by simpa using hc2
    refine Qa ?_
    simp only[go_sem]
    refine Qj ?_
    simp only[go_sem,X.next,Q5,Qae,Qas9,List.mem_singleton,forall_eq,RS.op]
    exact hK _ (.inr ⟨i,rfl,hlt,hv,hno⟩)
   ·intro hc2
    have hv:¬ns.getD i 0=v:=by simpa using hc2
    refine Qi ?_
    simp only[go_sem]
    refine Qr ?_
    simp only[go_sem,how,X.next]
    refine⟨Qo (by omega) (by omega),ns.length-(i+1),by omega,i+1,rfl,by omega,?_,rfl⟩
    rw[List.take_succ_eq_append_getElem hlt]
    simp only[List.mem_append,List.mem_singleton,not_or]
    exact⟨hno,fun h=>hv (by rw[hgd];exact h.symm)⟩
  ·intro hc
   have hge:ns.length≤i:=by simpa using hc
   rw[List.take_of_length_le hge]at hno
   refine Qt ?_
   simp only[go_sem,X.next]
   refine Qa ?_
   simp only[go_sem]
   refine Qj ?_
   simp only[go_sem,Q5,Qae,Qas9,List.mem_singleton,forall_eq,RS.op]
   exact hK _ (.inl ⟨rfl,hno⟩)
theorem Qbch {a b:C}{ns ms:List Int}(hs:Slc H 1 (Qd ns) a)(how:a.isOw=false)(hs2:Slc H 1 (Qd ms) b)(how2:b.isOw=false)(hK:K (.c (.bool (decide (ns=ms)))) H) :
  Qu prog Qlu [.c a,.c b] H K:=by
 refine Qb Qat Qasy ?_
 have hok:=eq_true hs.ok
 have hlen:=hs.len
 have hsz:=hs.sz
 have hrw:=hs.rows
 have hok2:=eq_true hs2.ok
 have hlen2:=hs2.len
 have hsz2:=hs2.sz
 have hrw2:=hs2.rows
 refine Qa ?_
 simp only[go_sem,how,how2]
 refine Q4 ?_
 refine Qa ?_
 simp only[go_sem,how,how2,hok,hlen,hok2,hlen2,Qf]
 intro hl hl2
 simp only[LIM]at hl hl2
 have hmn:(if (ms.length:Int)<ns.length then (ms.length:Int)else ns.length)=((min ns.length ms.length:Nat):Int):=by split <;> omega
 simp only[hmn]
 refine Qh (Qc (Qw (fun m e1 H1=>∃(i:Nat),m=min ns.length ms.length-i∧i≤min ns.length ms.length∧H1=H∧ns.take i=ms.take i∧e1=[(0,.c a),(1,.c b),(10,.c (.int .i64 (min ns.length ms.length:Nat))),(11,.c (.int .i64 i))]) (min ns.length ms.length) ?_ ?_))
 ·exact⟨0,by omega,by omega,rfl,by simp,rfl⟩
 ·rintro m e1 H1 ⟨i,hm,hi,rfl,hsame,rfl⟩
  refine Qa ?_
  simp only[go_sem,how,how2]
  refine Qh (Qe rfl ?_ ?_)
  ·intro hc
   have hlt:i<min ns.length ms.length:=by
    have:=of_decide_eq_true hc
    omega
   have h1:i<ns.length:=by omega
   have h2:i<ms.length:=by omega
   have hgd:ns.getD i 0=ns[i]:=by simp[List.getD_eq_getElem?_getD,h1]
   have hgd2:ms.getD i 0=ms[i]:=by simp[List.getD_eq_getElem?_getD,h2]
   refine Qi ?_
   simp only[go_sem]
   refine Qh (Qc ?_)
   refine Qa ?_
   simp only[go_sem,how,how2]
   refine Qak ?_
   simp only[go_sem,how,how2,hok,hlen,hsz,hrw,hok2,hlen2,hsz2,hrw2,h1,h2,Qf,Qs _ _ h1,Qs _ _ h2]
   refine Qe rfl ?_ ?_
   ·intro hc2
    refine Qa ?_
    simp only[go_sem]
    refine Qj ?_
    simp only[go_sem,X.next,Q5,Qae,Qqq,List.mem_singleton,forall_eq,RS.op]
    have hne:ns≠ms:=by
     rintro rfl
     simp at hc2
    rw[decide_eq_false hne]at hK;exact hK
   ·intro hc2
    have hv:ns.getD i 0=ms.getD i 0:=by simpa using hc2
    refine Qi ?_
    simp only[go_sem]
    refine Qr ?_
    simp only[go_sem,how,how2,X.next]
    refine⟨Qo (by omega) (by omega),min ns.length ms.length-(i+1),by omega,i+1,rfl,by omega,?_,rfl⟩
    rw[List.take_succ_eq_append_getElem h1,List.take_succ_eq_append_getElem h2,hsame,←hgd,←hgd2,hv]
  ·intro hc
   have hge:min ns.length ms.length≤i:=by
    have:=of_decide_eq_false hc
    omega
   refine Qt ?_
   simp only[go_sem,X.next]
   refine Qa ?_
   simp only[go_sem,how,how2,hok,hlen,hok2,hlen2,Qf]
   intro _ _
   refine Qj ?_
   simp only[go_sem,Q5,Qae,Qqq,List.mem_singleton,forall_eq,RS.op]
   have:decide ((ns.length:Int)=ms.length)=decide (ns=ms):=by
    by_cases he:ns=ms
    ·simp[he]
    ·have:¬(ns.length:Int)=ms.length:=by
      intro hh
      refine he ?_
      have hh':ns.length=ms.length:=by omega
      rw[List.take_of_length_le (by omega),List.take_of_length_le (by omega)]at hsame
      exact hsame
     simp[he,this]
   rw[this];exact hK
set_option maxHeartbeats 1000000 in
theorem Qn9 {fl:Bool}{ns:List Int}{n:Int}(ha:ns.Pairwise (· < ·))(hL:ns.length+1≤2 ^ 38)
  (hK:∀(fl':Bool) (ns':List Int) (H':Heap),Upd H H' []→ns'.Pairwise (· < ·)→(∀x,x∈ns'↔x=n∨x∈ns)→ns'.length≤ns.length+1→K (.c (.sl fl' 1 (Qd ns'))) H') :
  Qu prog Qdr [.c (.sl fl 1 (Qd ns)),.c (.int .i64 n)] H K:=by
 refine Qz ?_
 refine Qb Qat Qa1l ?_
 have rest:∀i:Nat,InsAt ns n i→Qad prog Qzm (Q5 Qho fun x H'=>∃x',FrzV H' (un H) x x'∧K x' (H'.frz (un H))) [(0,V.c (.sl fl 1 (Qd ns))),(1,.c (.int .i64 n)),(5,.c (.int .i64 i))] H:=by
  intro i hat
  have hile:=hat.le
  refine Q4 ?_
  refine Qa ?_
  have tail:∀e:Env,(∀(h:i<ns.length),ns[i]≠n)→lk 0 e=.c (.sl fl 1 (Qd ns))→lk 1 e=.c (.int .i64 n)→lk 5 e=.c (.int .i64 i)→Qad prog Qzl (Q5 Qho fun x H'=>∃x',FrzV H' (un H) x x'∧K x' (H'.frz (un H))) e H:=by
   intro e hne l0 l1 l5
   obtain⟨q1,q2⟩:=hat.new ha hne
   have ht1:List.take i (Qd ns)=Qd (ns.take i):=by simp[Qd,List.map_take]
   have ht2:List.drop i (List.take ns.length (Qd ns))=Qd (ns.drop i):=by
    rw[List.take_of_length_le (by rw[Qf];exact Nat.le_refl _)];simp[Qd,List.map_drop]
   refine Qa ?_
   simp only[go_sem,l0,l1,l5,Qf,ht1]
   refine⟨by omega,?_⟩
   refine⟨.inl trivial,Qv _,by simp only[LIM,List.length_take];omega,fun z hz H1 h1=>?_⟩
   have kn:Kn H H1 [] ([]++[(z,.vec 1 (Qd (ns.take i)))]):=(Kn.start0 H).al hz h1
   simp only[go_sem,Qum,l0,l1,l5]
   generalize ht6:C.vsl z 1 0 (0+(List.take i ns).length)=t6
   have hgr:Gr [(z,.vec 1 (Qd (ns.take i)))] 1 (Qd (ns.take i)) t6:=by rw[←ht6];exact .mk z 1 _ (by simp[Qf])
   have hw6:=hgr.isOw
   refine Qak ?_
   simp only[go_sem,hw6,Qf,ht2]
   refine⟨by omega,?_⟩
   refine kn.growR (new:=Qd [n]) hgr (.mk' _ _ _ _) (Qv _) (by simp only[Qf,LIM,List.length_take,List.length_nil,List.length_cons];omega) fun t7 Lg H2 hgr hw7 kn=>?_
   simp only[go_sem,Quo,hw7,Qf,ht2]
   refine⟨by omega,?_⟩
   refine kn.growR (new:=Qd (ns.drop i)) hgr (.mk' _ _ _ _) (Qv _) (by simp only[Qf,LIM,List.length_take,List.length_drop,List.length_nil,List.length_cons,List.length_append];omega) fun t8 Lg H3 hgr hw8 kn=>?_
   simp only[go_sem,Qun]
   refine Qj ?_
   simp only[go_sem,Q5,Qae,Qho,List.mem_singleton,forall_eq,RS.op]
   have e0:Qd (ns.take i)++Qd [n]++Qd (ns.drop i)=Qd (ns.take i++[n]++ns.drop i):=by simp[Qd]
   rw[e0]at hgr
   refine⟨_,.c _ _ (hgr.frz kn (Qv _)),hK _ _ _ kn.fin q1 q2 ?_⟩
   simp;omega
  simp only[go_sem,Qf]
  by_cases hlt:i<ns.length
  ·have hgd:ns.getD i 0=ns[i]:=by simp[List.getD_eq_getElem?_getD,hlt]
   simp only[go_sem,hlt,Qf,Qs _ _ hlt]
   intro _
   refine Qh (Qe rfl ?_ ?_)
   ·intro hc2
    have he:ns[i]=n:=by rw[←hgd];simpa[hlt]using hc2
    refine Qa ?_
    simp only[go_sem]
    refine Qj ?_
    simp only[go_sem,Q5,Qae,Qho,List.mem_singleton,forall_eq,RS.op]
    refine⟨_,.c _ _ (Qafa (noOw_mem (Qv _))),hK _ ns _ (Kn.start0 H).fin ha (fun x=>⟨.inr,?_⟩) (by omega)⟩
    rintro (rfl|h)
    ·rw[←he];exact List.getElem_mem hlt
    ·exact h
   ·intro hc2
    have he:ns[i]≠n:=by rw[←hgd];simpa[hlt]using hc2
    refine Qi ?_
    simp only[go_sem]
    exact tail _ (fun _=>he) rfl rfl rfl
  ·have hdf:decide ((i:Int)<(ns.length:Int))=false:=by simp;omega
   have hgo:(Qd ns).getD i []=[]:=by rw[List.getD_eq_getElem?_getD,List.getElem?_eq_none (by rw[Qf];omega)];rfl
   simp only[go_sem,hdf,hgo,Qf,cond_false]
   intro _
   refine Qh (Qe rfl ?_ ?_)
   ·intro hc2;simp at hc2
   ·intro _
    refine Qi ?_
    simp only[go_sem]
    exact tail _ (fun h=>absurd h hlt) rfl rfl rfl
 refine Qa ?_
 simp only[go_sem]
 refine Qa ?_
 simp only[go_sem]
 refine Qh (Qc (Qw (fun m e1 H1=>∃(i:Nat),m=ns.length-i∧i≤ns.length∧H1=H∧(∀k,k<i→∀(h:k<ns.length),ns[k]<n)∧e1=[(0,.c (.sl fl 1 (Qd ns))),(1,.c (.int .i64 n)),(5,.c (.int .i64 i))]) ns.length ?_ ?_))
 ·exact⟨0,by omega,by omega,rfl,fun k hk=>by omega,rfl⟩
 ·rintro m e1 H1 ⟨i,hm,hi,rfl,hlo,rfl⟩
  refine Q4 ?_
  refine Qa ?_
  by_cases hlt:i<ns.length
  ·have hgd:ns.getD i 0=ns[i]:=by simp[List.getD_eq_getElem?_getD,hlt]
   simp only[go_sem,hlt,Qf,Qs _ _ hlt]
   intro _
   refine Qh (Qe rfl ?_ ?_)
   ·intro hc
    have hv:ns[i]<n:=by rw[←hgd];simpa[hlt]using hc
    refine Qi ?_
    simp only[go_sem]
    refine Qc ?_
    refine Qr ?_
    simp only[go_sem,X.next]
    refine⟨Qo (by omega) (by omega),ns.length-(i+1),by omega,i+1,rfl,by omega,fun k hk h=>?_,rfl⟩
    by_cases h':k<i
    ·exact hlo k h' h
    ·have:k=i:=by omega
     subst this;exact hv
   ·intro hc
    have hv:¬ns[i]<n:=by rw[←hgd];simpa[hlt]using hc
    refine Qt ?_
    simp only[go_sem,X.next]
    exact rest i ⟨hi,hlo,fun _=>by omega⟩
  ·have hdf:decide ((i:Int)<(ns.length:Int))=false:=by simp;omega
   have hgo:(Qd ns).getD i []=[]:=by rw[List.getD_eq_getElem?_getD,List.getElem?_eq_none (by rw[Qf];omega)];rfl
   simp only[go_sem,hdf,hgo,Qf,cond_false]
   intro _
   refine Qh (Qe rfl ?_ ?_)
   ·intro hc2;simp at hc2
   ·intro _
    refine Qt ?_
    simp only[go_sem,X.next]
    exact rest i ⟨hi,hlo,fun h=>absurd h hlt⟩
end Go.AE.Y

namespace Go.AE.Y
attribute [local instance] Classical.propDecidable
variable {g:Nat→List Nat}{n h:Nat}
theorem rchB_iff {a:Int}{x:Nat}:Qg9 g a x=true↔Rch g (fun z=>(z:Int)=a) 0 x:=by simp[Qg9]
theorem Qalf (b:Nat):Qg9 g (b:Int) b=false:=by
 cases hc:Qg9 g (b:Int) b with
 |false=>rfl
 |true=>exact absurd rfl (rchB_iff.1 hc).snd
theorem Qa4j (b:Nat):Qry g b b=Qg9 g (-1) b:=by simp[Qry,Qalf]
theorem Qa4i {a b:Nat}(h:Qry g a b=true):Qg9 g (-1) a=true∧Qg9 g (-1) b=true:=by
 simp only[Qry,Bool.and_eq_true]at h
 exact⟨h.1.1,h.1.2⟩
structure BWk (n:Nat)(g:Nat→List Nat)(h:Nat)(O W:List Nat):Prop where
 asc:O.Pairwise (· < ·)
 o:∀x∈O,Bdy n g h x
 w:∀x∈W,Qg9 g (-1) x=true→Bdy n g h x
 c:∀x∈O,x≠h→∀p∈Qaf3 n g x,Qg9 g (-1) p=true→p∈O∨p∈W
 l:∀p∈Qaf3 n g h,Qry g h p=true→p∈O∨p∈W
 h:h∈O
 r:∀x∈W,x<n
variable {O W:List Nat}{b:Nat}
theorem BWk.init:BWk n g h [h] ((Qaf3 n g h).filter (Qry g h)):=by
 refine⟨by simp,fun x hx=>?_,fun x hx _=>?_,fun x hx hne=>?_,fun p hp hd=>.inr (List.mem_filter.2 ⟨hp,hd⟩),by simp,fun x hx=>(predL_mem.1 (List.mem_filter.1 hx).1).1⟩
 ·simp at hx;subst hx;exact .head
 ·exact .back (List.mem_filter.1 hx).1 (List.mem_filter.1 hx).2
 ·simp at hx;exact absurd hx hne
theorem BWk.skip (k:BWk n g h O (b::W))(hb:b∈O∨Qg9 g (-1) b=false):BWk n g h O W:=by
 refine⟨k.asc,k.o,fun x hx=>k.w x (List.mem_cons_of_mem _ hx),fun x hx hne p hp hi=>?_,fun p hp hd=>?_,k.h,fun x hx=>k.r x (List.mem_cons_of_mem _ hx)⟩
 ·rcases k.c x hx hne p hp hi with h1|h1
  ·exact .inl h1
  ·rcases List.mem_cons.1 h1 with rfl|h1
   ·rcases hb with hb|hb
    ·exact .inl hb
    ·rw[hb]at hi;simp at hi
   ·exact .inr h1
 ·rcases k.l p hp hd with h1|h1
  ·exact .inl h1
  ·rcases List.mem_cons.1 h1 with rfl|h1
   ·rcases hb with hb|hb
    ·exact .inl hb
    ·rw[(Qa4i hd).2]at hb;simp at hb
   ·exact .inr h1
theorem BWk.go {O':List Nat}(k:BWk n g h O (b::W))(hbO:b∉O)(hi:Qg9 g (-1) b=true)(h1:O'.Pairwise (· < ·))(h2:∀x,x∈O'↔x=b∨x∈O):BWk n g h O' (W++Qaf3 n g b):=by
 have hB:=k.w b List.mem_cons_self hi
 have hbh:b≠h:=fun e=>hbO (e▸k.h)
 refine⟨h1,fun x hx=>?_,fun x hx hix=>?_,fun x hx hne p hp hip=>?_,fun p hp hd=>?_,(h2 h).2 (.inr k.h),fun x hx=>?_⟩
 ·rcases (h2 x).1 hx with rfl|hx
  ·exact hB
  ·exact k.o x hx
 ·rcases List.mem_append.1 hx with hx|hx
  ·exact k.w x (List.mem_cons_of_mem _ hx) hix
  ·exact .more hB hbh hx hix
 ·rcases (h2 x).1 hx with rfl|hx
  ·exact .inr (List.mem_append_right _ hp)
  ·rcases k.c x hx hne p hp hip with h3|h3
   ·exact .inl ((h2 p).2 (.inr h3))
   ·rcases List.mem_cons.1 h3 with rfl|h3
    ·exact .inl ((h2 p).2 (.inl rfl))
    ·exact .inr (List.mem_append_left _ h3)
 ·rcases k.l p hp hd with h3|h3
  ·exact .inl ((h2 p).2 (.inr h3))
  ·rcases List.mem_cons.1 h3 with rfl|h3
   ·exact .inl ((h2 p).2 (.inl rfl))
   ·exact .inr (List.mem_append_left _ h3)
 ·rcases List.mem_append.1 hx with hx|hx
  ·exact k.r x (List.mem_cons_of_mem _ hx)
  ·exact (predL_mem.1 hx).1
theorem BWk.fin (hh:h<n)(k:BWk n g h O []):O=Qa4d n g h:=by
 refine Qa39 k.asc Qa4e fun x=>?_
 rw[Qa4f hh]
 refine⟨k.o x,fun hb=>?_⟩
 induction hb with
 |head=>exact k.h
 |back h1 h2=>exact (k.l _ h1 h2).resolve_right (by simp)
 |more h1 h2 h3 h4 ih=>exact (k.c _ ih h2 _ h3 h4).resolve_right (by simp)
theorem BWk.len (k:BWk n g h O W)(hh:h<n):O.length≤n:=by
 have e:=Qajx (n:=n) (p:=fun x=>decide (x∈O)) k.asc fun x=>⟨fun hx=>⟨(k.o x hx).lt hh,by simpa using hx⟩,fun hx=>by simpa using hx.2⟩
 have:=List.length_filter_le (fun x=>decide (x∈O)) (List.range n)
 rw[←e]at this
 simpa using this
end Go.AE.Y

namespace Go.AE.Y
open Go.Proofs.Tryz
variable {H H0:Heap}{K:V→Heap→Prop}
structure GF (rows:List (List C))(nx:Nat→List Int):Prop where
 no:∀r∈rows,noOw r=true
 x:∀i,i<rows.length→∃a1 a2 a3 a4 fl,rows.getD i []=[a1,a2,a3,a4,.sl fl 1 (Qd (nx i))]
 n:rows.length≤10000
 m:∀i,i<rows.length→(nx i).length≤1000
theorem GF.grd {rows:List (List C)}{nx:Nat→List Int}(h:GF rows nx)(H:Heap)(fl:Bool):GRd H (.sl fl 5 rows) rows nx:=⟨.mk' _ _ _ _,rfl,h.no,h.x⟩
theorem Qase {q:CodeD}(h:q.gd):GF (Qn q.blocks) (gnx q):=by
 refine⟨(Qf9 (fun _=>.none) q false).no,(Qf9 (fun _=>.none) q false).x,by rw[Qk];have:=h.b1;omega,fun i hi=>?_⟩
 rw[Qk]at hi
 have:gnx q i=q.blocks[i].next:=by simp[gnx,List.getD_eq_getElem?_getD,hi]
 rw[this]
 have:=h.n _ (List.getElem_mem hi);omega
noncomputable def inL (n:Nat)(g:Nat→List Nat):List Bool:=(List.range n).map (Qg9 g (-1))
noncomputable def Qe7 (n:Nat)(g:Nat→List Nat)(a:Nat):List Bool:=(List.range n).map (Qry g a)
noncomputable def Q2q (n:Nat)(g:Nat→List Nat)(k:Nat):List (List C):=(List.range k).map fun a=>[.sl false 1 (Qm (Qe7 n g a))]
theorem Qd3 (n:Nat)(f:Nat→Bool){i:Nat}(h:i<n):((List.range n).map f).getD i false=f i:=by simp[List.getD_eq_getElem?_getD,h]
theorem Qafe {n:Nat}{g:Nat→List Nat}:(inL n g).length=n:=by simp[inL]
theorem Qdn {n:Nat}{g:Nat→List Nat}{a:Nat}:(Qe7 n g a).length=n:=by simp[Qe7]
theorem Qob {n:Nat}{g:Nat→List Nat}{k:Nat}:(Q2q n g k).length=k:=by simp[Q2q]
theorem Qazn {n:Nat}{g:Nat→List Nat}{i:Nat}(h:i<n):(inL n g).getD i false=Qg9 g (-1) i:=Qd3 _ _ h
theorem Q26 {n:Nat}{g:Nat→List Nat}{a i:Nat}(h:i<n):(Qe7 n g a).getD i false=Qry g a i:=Qd3 _ _ h
theorem Q35 {n:Nat}{g:Nat→List Nat}{k a:Nat}(h:a<k):(Q2q n g k).getD a []=[.sl false 1 (Qm (Qe7 n g a))]:=by simp[Q2q,List.getD_eq_getElem?_getD,h]
noncomputable def domC (p rg:Int)(fl:Bool)(rows:List (List C))(g:Nat→List Nat):List C:=
 [.int .i64 p,.int .i64 rg,.sl fl 5 rows,.sl false 1 (Q2q rows.length g rows.length),.sl false 1 (Qm (inL rows.length g))]
noncomputable def ysL (n:Nat)(g:Nat→List Nat)(ys:List Nat):List (Nat×Obj):=ys.zipIdx.map fun x=>(x.1,.vec 1 (Qm (Qe7 n g x.2)))
def ysR (n:Nat)(ys:List Nat):List (List C):=ys.map fun y=>[.vsl y 1 0 n]
theorem Qbci (n:Nat)(g:Nat→List Nat)(ys:List Nat)(y:Nat):ysL n g (ys++[y])=ysL n g ys++[(y,.vec 1 (Qm (Qe7 n g ys.length)))]:=by
 simp[ysL,List.zipIdx_append]
theorem Qbcj (n:Nat)(ys:List Nat)(y:Nat):ysR n (ys++[y])=ysR n ys++[[.vsl y 1 0 n]]:=by simp[ysR]
theorem Qbfb (n:Nat)(ys:List Nat):(ysR n ys).length=ys.length:=by simp[ysR]
theorem Qbgr {S:Nat→Bool}{n:Nat}{g:Nat→List Nat}(ys:List Nat):∀(k:Nat),(∀p∈(ys.zipIdx k).map fun x=>(x.1,Obj.vec 1 (Qm (Qe7 n g x.2))),H p.1=p.2∧S p.1=true)→
  FrzR H S (ysR n ys) ((List.range' k ys.length).map fun a=>[.sl false 1 (Qm (Qe7 n g a))]):=by
 induction ys with
 |nil=>intro k _;exact .nil
 |cons y ys ih=>
  intro k h
  rw[List.zipIdx_cons,List.map_cons]at h
  obtain⟨h1,h2⟩:=h _ List.mem_cons_self
  simp only[List.length_cons,List.range'_succ,List.map_cons,ysR]
  refine .cons (.cons ((FrzR.same (Qf2 _)).vsl h2 h1 (by rw[Qx,Qdn])) .nil) (ih (k+1) fun p hp=>h p (List.mem_cons_of_mem _ hp))
theorem Qbfc {S:Nat→Bool}{n:Nat}{g:Nat→List Nat}(ys:List Nat)(h:∀p∈ysL n g ys,H p.1=p.2∧S p.1=true):FrzR H S (ysR n ys) (Q2q n g ys.length):=by
 have:=Qbgr (H:=H) (S:=S) (n:=n) (g:=g) ys 0 h
 rw[←List.range_eq_range']at this
 exact this
end Go.AE.Y

namespace Go.AE.Y
open Go.Proofs.Tryz
variable {H H0:Heap}{K:V→Heap→Prop}
theorem Qakw (n:Nat)(f:Nat→Bool){i:Nat}(h:i<n):((List.range i).map f++List.replicate (n-i) false).set i (f i)=(List.range (i+1)).map f++List.replicate (n-(i+1)) false:=by
 refine List.ext_getElem? fun j=>?_
 have e:n-i=(n-(i+1))+1:=by omega
 rw[e,List.replicate_succ,List.range_succ,List.map_append]
 rw[List.set_append]
 simp only[List.length_map,List.length_range,Nat.lt_irrefl,if_false,Nat.sub_self,List.set_cons_zero,List.map_cons,List.map_nil,List.append_assoc,List.singleton_append]
end Go.AE.Y

namespace Go.AE.Y
open Go.Proofs.Tryz
variable {H H0:Heap}{K:V→Heap→Prop}
end Go.AE.Y

namespace Go.AE.Y
variable {P:Program}{H:Heap}{g:G}{w:World}
end Go.AE.Y

namespace Go.AE.Y
structure Cmp (ns R:List Int)(k j:Nat):Prop where
 len:R.length=ns.length
 kj:k<j
 jn:j≤ns.length
 asc:(R.take k).Pairwise (· < ·)
 mem:∀x,x∈R.take k↔x∈ns.take j
 same:∀i,j≤i+1→R.getD i 0=ns.getD i 0
variable {ns R:List Int}{k j:Nat}
theorem take_mem {l:List Int}{j:Nat}{x:Int}:x∈l.take j↔∃i,i<j∧i<l.length∧l.getD i 0=x:=by
 constructor
 ·intro h
  obtain⟨i,hi,rfl⟩:=List.mem_iff_getElem.1 h
  rw[List.length_take]at hi
  refine⟨i,by omega,by omega,?_⟩
  rw[List.getElem_take,List.getD_eq_getElem?_getD,List.getElem?_eq_getElem (by omega)];rfl
 ·rintro⟨i,h1,h2,rfl⟩
  rw[List.getD_eq_getElem?_getD,List.getElem?_eq_getElem h2]
  exact List.mem_iff_getElem.2 ⟨i,by rw[List.length_take];omega,by rw[List.getElem_take];rfl⟩
theorem Qjj {ns:List Int}(h:ns.Pairwise (·≤·)){a b:Nat}(hab:a≤b)(hb:b<ns.length):ns.getD a 0≤ns.getD b 0:=by
 rcases Nat.lt_or_ge a b with h1|h1
 ·have:=List.pairwise_iff_getElem.1 h a b (by omega) hb h1
  simpa[List.getD_eq_getElem?_getD,hb,show a<ns.length by omega]using this
 ·have:a=b:=by omega
  subst this;exact Int.le_refl _
theorem Cmp.start (hs:ns.Pairwise (·≤·))(hk0:0<k)(hk:k<ns.length)(hne:∀i,0<i→i<k→ns.getD i 0≠ns.getD (i-1) 0)(he:ns.getD k 0=ns.getD (k-1) 0):Cmp ns ns k (k+1):=by
 refine⟨rfl,by omega,by omega,?_,fun x=>?_,fun i _=>rfl⟩
 ·rw[List.pairwise_iff_getElem]
  intro a b ha hb hab
  rw[List.length_take]at ha hb
  rw[List.getElem_take,List.getElem_take]
  have h1:=Qjj hs (a:=a) (b:=b-1) (by omega) (by omega)
  have h2:=Qjj hs (a:=b-1) (b:=b) (by omega) (by omega)
  have h3:=hne b (by omega) (by omega)
  have e1:ns.getD a 0=ns[a]:=by simp[List.getD_eq_getElem?_getD,show a<ns.length by omega]
  have e2:ns.getD b 0=ns[b]:=by simp[List.getD_eq_getElem?_getD,show b<ns.length by omega]
  rw[e1]at h1;rw[e2]at h2 h3
  omega
 ·rw[take_mem,take_mem]
  constructor
  ·rintro⟨i,h1,h2,h3⟩;exact⟨i,by omega,h2,h3⟩
  ·rintro⟨i,h1,h2,h3⟩
   by_cases h:i<k
   ·exact⟨i,h,h2,h3⟩
   ·have:i=k:=by omega
    subst this
    exact⟨i-1,by omega,by omega,by rw[←he];exact h3⟩
theorem Cmp.ne (c:Cmp ns R k j)(hs:ns.Pairwise (·≤·))(hj:j<ns.length)(he:ns.getD j 0≠ns.getD (j-1) 0):Cmp ns (R.set k (ns.getD j 0)) (k+1) (j+1):=by
 have hkj:=c.kj
 have hkl:k<R.length:=by rw[c.len];omega
 have htk:(R.set k (ns.getD j 0)).take (k+1)=R.take k++[ns.getD j 0]:=by
  rw[List.take_succ_eq_append_getElem (by rw[List.length_set];exact hkl),List.getElem_set_self]
  congr 1
  rw[List.take_set_of_le (Nat.le_refl _)]
 refine⟨by rw[List.length_set];exact c.len,by omega,by omega,?_,fun x=>?_,fun i hi=>?_⟩
 ·rw[htk,List.pairwise_append]
  refine⟨c.asc,by simp,fun a ha b hb=>?_⟩
  simp at hb;subst hb
  obtain⟨i,h1,h2,rfl⟩:=take_mem.1 ((c.mem a).1 ha)
  have h3:=Qjj hs (a:=i) (b:=j-1) (by omega) (by omega)
  have h4:=Qjj hs (a:=j-1) (b:=j) (by omega) hj
  simp only[List.getD_eq_getElem?_getD]at *
  omega
 ·rw[htk,List.mem_append,c.mem,take_mem,take_mem]
  simp only[List.mem_singleton]
  constructor
  ·rintro (⟨i,h1,h2,h3⟩|rfl)
   ·exact⟨i,by omega,h2,h3⟩
   ·exact⟨j,by omega,hj,rfl⟩
  ·rintro⟨i,h1,h2,h3⟩
   by_cases h:i<j
   ·exact .inl ⟨i,h,h2,h3⟩
   ·have:i=j:=by omega
    subst this;exact .inr h3.symm
 ·have:k≠i:=by omega
  rw[←c.same i (by omega)]
  simp[List.getD_eq_getElem?_getD,this]
def srt (ns:List Int):List Int:=ns.mergeSort fun x y=>decide (x≤y)
end Go.AE.Y

namespace Go.Proofs
open Go.Shelf
def Tryz.lays189_ren:Go.Shelf.Ren:=⟨fun|189=>135|125=>168|257=>167|128=>196|129=>197|294=>187|295=>188|296=>189|297=>190|298=>191|299=>192|216=>193|300=>194|301=>195|328=>209|329=>210|330=>211|331=>212|332=>213|215=>214|343=>229|n=>n,fun|28=>28|3=>3|46=>152|0=>0|51=>174|53=>176|4=>4|183=>167|182=>166|131=>171|5=>5|9=>9|218=>197|222=>201|228=>221|229=>222|n=>n,fun|n=>n⟩
end Go.Proofs

namespace Go.AE.Y
open Go.Proofs.Tryz
variable {H H0:Heap}{K:V→Heap→Prop}{E B Lg:List (Nat×Obj)}
def Qbf5 (ks:List Nat):List (C×V):=ks.map fun k:Nat=>(.int .i64 (k:Int),.c (.bool true))
end Go.AE.Y

namespace Go.AE.Y
open Go.Proofs.Tryz
variable {H H0:Heap}{K:V→Heap→Prop}
structure InB (n:Nat)(g:Nat→List Nat)(S:List Bool)(ks:List Nat):Prop where
 len:S.length=n
 s:∀x,x<n→S.getD x false=(decide (x∈ks) || !Qg9 g (-1) x)
 nd:ks.Nodup
 lt:∀x∈ks,x<n
 i:∀x∈ks,Qg9 g (-1) x=true
 c:ks.length≤cnt S
theorem InB.add {n:Nat}{g:Nat→List Nat}{S:List Bool}{ks:List Nat}{b:Nat}(h:InB n g S ks)(hb:b<n)(hbs:b∉ks)(hi:Qg9 g (-1) b=true):S.getD b false=false∧InB n g (S.set b true) (ks++[b]):=by
 have hsb:S.getD b false=false:=by rw[h.s b hb];simp[hbs,hi]
 have hbS:b<S.length:=by rw[h.len];exact hb
 refine⟨hsb,by rw[List.length_set];exact h.len,fun x hx=>?_,?_,fun x hx=>?_,fun x hx=>?_,?_⟩
 ·rw[Qn7]
  by_cases hxb:x=b
  ·subst hxb;simp[hbS]
  ·simp only[hxb,false_and,if_false,List.mem_append,List.mem_singleton,or_false]
   exact h.s x hx
 ·refine List.nodup_append.2 ⟨h.nd,by simp,fun a ha c hc=>?_⟩
  simp at hc;subst hc;exact fun e=>hbs (e▸ha)
 ·rcases List.mem_append.1 hx with hx|hx
  ·exact h.lt x hx
  ·simp at hx;omega
 ·rcases List.mem_append.1 hx with hx|hx
  ·exact h.i x hx
  ·simp at hx;subst hx;exact hi
 ·rw[Q25 hbS hsb,List.length_append]
  have:=h.c
  simp;omega
def Qbfi (x5 x6:Nat)(dc:List C):List C:=[.ptr x5 0,.pp [.pp dc],.ptr x6 0]
def bdE (M x5 x6 ver:Nat)(dc:List C)(ks:List Nat):List (Nat×Obj):=
 [(M,.map ver (Qbf5 ks)),(x5,.st [.mp M]),(x6,.st [.fn Qr1 (Qbfi x5 x6 dc)])]
end Go.AE.Y

namespace Go.AE.Y
open Go.Proofs.Tryz
variable {H H0:Heap}{K:V→Heap→Prop}{E B Lg:List (Nat×Obj)}
def Gw (Lg:List (Nat×Obj))(sz:Nat)(rows:List (List C))(c:C):Prop:=
 (c=.sl true sz []∧rows=[]∧Lg=[])∨∃y R,c=.vsl y sz 0 rows.length∧Lg=[(y,.vec sz R)]∧R.take rows.length=rows
theorem Gw.isOw {sz:Nat}{rows:List (List C)}{c:C}(h:Gw Lg sz rows c):c.isOw=false:=by rcases h with ⟨rfl,_⟩|⟨y,R,rfl,_⟩ <;> rfl
theorem Gw.frz {ns:List Int}{c:C}(h:Gw Lg 1 (Qd ns) c)(kn:Kn H0 H E (B++Lg)):FrzC H (un H0) c (.sl false 1 (Qd ns)):=by
 rcases h with ⟨rfl,h2,_⟩|⟨y,R,rfl,rfl,hR⟩
 ·rw[h2];exact FrzR.nil.sl
 ·have hle:(Qd ns).length≤R.length:=by
   have:=congrArg List.length hR
   rw[List.length_take]at this
   omega
  have h:=FrzR.same (H:=H) (S:=un H0) (Qv ns)
  exact .vsl y 1 0 _ R (Qd ns) (Qd ns) (Qdl (kn.loc (y,.vec 1 R) (by simp))) (kn.get (y,.vec 1 R) (by simp)).1 (by omega) (by simpa using hR.symm) h.spec.1 (fun i r r' h1 h2=>(h.spec.2 i r r' h1 h2).spec.1) fun i r r' j c c' h1 h2 h3 h4=>(h.spec.2 i r r' h1 h2).spec.2 j c c' h3 h4
end Go.AE.Y

namespace Go.AE.Y
open Go.Proofs.Tryz
variable {H H0:Heap}{K:V→Heap→Prop}{E B Lg:List (Nat×Obj)}
noncomputable def Qbfu (n:Nat)(nx:Nat→List Int):List Nat:=if Qit n nx then Qbg3 n (nxN nx)else []
noncomputable def loopL (n:Nat)(nx:Nat→List Int)(h:Int):List Nat:=if ((Qbfu n nx).map Int.ofNat).contains h then Qa4d n (nxN nx) h.toNat else []
noncomputable def reachL (n:Nat)(nx:Nat→List Int):List Nat:=if Qit n nx then (List.range n).filter (Qg9 (nxN nx) (-1))else []
end Go.AE.Y

namespace Go.AE.Y
open Go.Proofs.Tryz
variable {H H0:Heap}{K:V→Heap→Prop}{E B Lg:List (Nat×Obj)}
theorem Q22 {n:Nat}{S:List Bool}{f:Nat→Bool}(hl:S.length=n)(h:∀x,x<n→S.getD x false=f x):S=(List.range n).map f:=by
 refine List.ext_getElem (by simp[hl]) fun i h1 h2=>?_
 have hi:i<n:=by rw[←hl];exact h1
 have:=h i hi
 simp only[List.getD_eq_getElem?_getD,List.getElem?_eq_getElem h1,Option.getD_some]at this
 simp[this]
theorem Qadl {n:Nat}{nx:Nat→List Int}{S:List Bool}{o:List Nat}(hf:Qit n nx=true)(hd:Dfs (nxN nx) [0] (List.replicate n false) [] S o):S=inL n (nxN nx):=by
 have hn0:=Qr0 hf
 have hgl:∀x,x<(List.replicate n false).length→∀y∈nxN nx x,y<(List.replicate n false).length:=by
  rw[List.length_replicate];exact fun x hx y hy=>Qak0 hf hx hy
 have hx0:∀x∈[0],x<(List.replicate n false).length:=by rw[List.length_replicate];simpa using hn0
 have hl:=hd.len
 rw[List.length_replicate]at hl
 refine Q22 hl fun x hx=>?_
 have hs:=hd.seen hgl hx0 x
 rw[Qa1]at hs
 simp only[Bool.false_eq_true,false_or,List.mem_singleton,exists_eq_left]at hs
 rw[Bool.eq_iff_iff,hs,rchB_iff]
 exact⟨fun hr=>hr.mono fun z hz=>by omega,fun hr=>hr.mono fun z hz=>by rw[Qa1]at hz;simp at hz⟩
theorem Qadj {n:Nat}{nx:Nat→List Int}{S:List Bool}{o:List Nat}{a:Nat}(hf:Qit n nx=true)(ha:a<n)(hd:Dfs (nxN nx) [0] ((List.replicate n false).set a true) [] S o) :
  S.set a false=(List.range n).map (Qg9 (nxN nx) a):=by
 have hn0:=Qr0 hf
 have hgl:∀x,x<((List.replicate n false).set a true).length→∀y∈nxN nx x,y<((List.replicate n false).set a true).length:=by
  rw[List.length_set,List.length_replicate];exact fun x hx y hy=>Qak0 hf hx hy
 have hx0:∀x∈[0],x<((List.replicate n false).set a true).length:=by rw[List.length_set,List.length_replicate];simpa using hn0
 have hl:=hd.len
 rw[List.length_set,List.length_replicate]at hl
 refine Q22 (by rw[List.length_set];exact hl) fun x hx=>?_
 have hs0:∀z,((List.replicate n false).set a true).getD z false=true↔z=a:=by
  intro z
  rw[Qn7,List.length_replicate,Qa1]
  by_cases hz:z=a
  ·simp[hz,ha]
  ·simp[hz]
 have hset:(S.set a false).getD x false=if x=a then false else S.getD x false:=by
  simp only[List.getD_eq_getElem?_getD,List.getElem?_set]
  by_cases hxa:a=x
  ·subst hxa;simp[hl,ha]
  ·have:¬x=a:=fun h=>hxa h.symm
   simp[hxa,this]
 rw[hset]
 by_cases hxa:x=a
 ·subst hxa
  rw[if_pos rfl,Qalf]
 ·rw[if_neg hxa,Bool.eq_iff_iff,hd.seen hgl hx0 x,hs0,rchB_iff]
  simp only[hxa,false_or,List.mem_singleton,exists_eq_left]
  exact⟨fun hr=>hr.mono fun z hz=>(hs0 z).2 (by omega),fun hr=>hr.mono fun z hz=>by have:=(hs0 z).1 hz;omega⟩
theorem Qbcg {n:Nat}{g:Nat→List Nat}:((List.replicate n false).set 0 true).set 0 false=(List.range n).map (Qg9 g (0:Nat)):=by
 refine Q22 (by simp) fun x hx=>?_
 have:Qg9 g ((0:Nat):Int) x=false:=by
  cases hc:Qg9 g ((0:Nat):Int) x with
  |false=>rfl
  |true=>exact absurd rfl (rchB_iff.1 hc).fst
 rw[this,List.set_set]
 have:(List.replicate n false).set 0 false=List.replicate n false:=by
  cases n with
  |zero=>rfl
  |succ n=>rfl
 rw[this,Qa1]
set_option maxHeartbeats 4000000 in
theorem Qakf {p rg:Int}{fl:Bool}{rows:List (List C)}{nx:Nat→List Int}(hg:GF rows nx)(hf:Qit rows.length nx=true)
  (hK:∀H',Upd H H' []→K (.c (.sl false 1 (Q2q rows.length (nxN nx) rows.length))) H') :
  Qu prog Qn2 [.ag [.int .i64 p,.int .i64 rg,.sl fl 5 rows]] H K:=by
 have hn:=hg.n
 have hn0:=Qr0 hf
 have hyb:∀(y:Nat) l a b d,C.sl fl 5 rows=.vsl l a b d→l≠y:=by intro y l a b d h;cases h
 refine Qz ?_
 refine Qb Qat Qa5z ?_
 refine Qa ?_
 simp only[go_sem]
 refine Qa ?_
 simp only[go_sem]
 intro _
 refine Qa ?_
 simp only[go_sem]
 refine Qa ?_
 simp only[go_sem,Qbh]
 refine⟨by simp only[LIM];omega,fun al hal H1 h1=>?_⟩
 have kn:Kn H H1 [] ([(al,.vec 1 (Qm (List.replicate rows.length false)))]++[]):=(Kn.start0 H).al hal h1
 simp only[go_sem,Qxv]
 refine Qa ?_
 simp only[go_sem]
 refine Qvf (F:=H1) hf (by omega) (hg.grd H1 fl) (hyb al) rows.length 0 (List.replicate rows.length false) [] (.sl true 1 []) [] H1 _ (by simp) (by omega) hn0 (Qa1 _ _) kn.mid (.nil 1) (by simp) fun S o oc Lg0 H2 hd k2 _=>?_
 have kn:Kn H H2 [] [(al,.vec 1 (Qm (inL rows.length (nxN nx))))]:=by
  have:=(kn.comp k2 rfl).drop
  rw[Qadl hf hd]at this
  exact this
 refine Q4 ?_
 refine Qa ?_
 simp only[go_sem]
 refine Qh (Qc (Qw (fun m e1 H1=>∃(ys:List Nat) (oc:C) (Lg:List (Nat×Obj)),m=rows.length-ys.length∧ys.length≤rows.length∧Gr Lg 1 (ysR rows.length ys) oc∧
  Kn H H1 [] (([(al,.vec 1 (Qm (inL rows.length (nxN nx))))]++ysL rows.length (nxN nx) ys)++Lg)∧
  e1=[(1,.c (.pp [.int .i64 p,.int .i64 rg,.sl fl 5 rows])),(3,.c (.int .i64 rows.length)),(4,.c oc),(5,.c (.vsl al 1 0 rows.length)),(6,.c (.int .i64 ys.length))]) rows.length ?_ ?_))
 ·exact⟨[],_,[],by simp,by simp,.nil 1,kn,rfl⟩
 ·rintro m e1 H3 ⟨ys,oc,Lg,hm,hi,hgr,kn,rfl⟩
  have hoc:=hgr.isOw
  refine Q4 ?_
  refine Qa ?_
  simp only[go_sem,hoc]
  refine Qh (Qe rfl ?_ ?_)
  ·intro hc
   have hlt:ys.length<rows.length:=by simpa using hc
   have hlti:ys.length<(inL rows.length (nxN nx)).length:=by rw[Qafe];exact hlt
   refine Qi ?_
   simp only[go_sem]
   refine Qdc (fun e2 H4=>∃(oc:C) (Lg:List (Nat×Obj)) (y:Nat),Gr Lg 1 (ysR rows.length (ys++[y])) oc∧
    Kn H H4 [] (([(al,.vec 1 (Qm (inL rows.length (nxN nx))))]++ysL rows.length (nxN nx) (ys++[y]))++Lg)∧
    lk 1 e2=.c (.pp [.int .i64 p,.int .i64 rg,.sl fl 5 rows])∧lk 3 e2=.c (.int .i64 rows.length)∧lk 4 e2=.c oc∧lk 5 e2=.c (.vsl al 1 0 rows.length)∧lk 6 e2=.c (.int .i64 ys.length)) ?_ ?_
   ·intro Q hnr _ _
    refine Qc ?_
    refine Qa ?_
    simp only[go_sem,hoc,Qbh]
    refine⟨by simp only[LIM];omega,fun y2 hy2 H4 h4=>?_⟩
    have kn:Kn H H4 [] ([(y2,.vec 1 (Qm (List.replicate rows.length false)))]++([(al,.vec 1 (Qm (inL rows.length (nxN nx))))]++(ysL rows.length (nxN nx) ys++Lg))):=
     (kn.al hy2 h4).perm (Qp fun f hf h0 hc hp=>by simp only[hf];omega)
    have hy:=kn.l 0 rfl
    have hr0:ys.length<(List.replicate rows.length false).length:=by rw[List.length_replicate];exact hlt
    simp only[go_sem,Qxw]
    refine Qa ?_
    have htk0:∀(S:List Bool),S.length=rows.length→(Qm S).take rows.length=Qm S:=fun S h=>List.take_of_length_le (by rw[Qx];omega)
    simp only[go_sem,hoc,hy,hlt,Qx,List.length_replicate,Q0 _ _ hr0,Qbi,Nat.zero_add,Nat.le_refl]
    intro H5 h5
    have kn:Kn H H5 [] ([(y2,.vec 1 (Qm ((List.replicate rows.length false).set ys.length true)))]++([(al,.vec 1 (Qm (inL rows.length (nxN nx))))]++(ysL rows.length (nxN nx) ys++Lg))):=kn.stL 0 rfl h5
    refine Q4 ?_
    refine Qa ?_
    simp only[go_sem,hoc]
    have rest:∀(e:Env) (H6:Heap),lk 1 e=.c (.pp [.int .i64 p,.int .i64 rg,.sl fl 5 rows])→lk 3 e=.c (.int .i64 rows.length)→lk 4 e=.c oc→lk 5 e=.c (.vsl al 1 0 rows.length)→lk 6 e=.c (.int .i64 ys.length)→lk 7 e=.c (.vsl y2 1 0 rows.length)→
      Kn H H6 [] ([(y2,.vec 1 (Qm ((List.range rows.length).map (Qg9 (nxN nx) ys.length))))]++([(al,.vec 1 (Qm (inL rows.length (nxN nx))))]++(ysL rows.length (nxN nx) ys++Lg)))→
      Qad prog Qxu Q e H6:=by
     intro e H6 l1 l3 l4 l5 l6 l7 kn
     refine Qa ?_
     simp only[go_sem,l1,l3,l4,l5,l6,l7,Qbh]
     refine⟨by simp only[LIM];omega,fun y3 hy3 H7 h7=>?_⟩
     have kn:Kn H H7 [] ([(y3,.vec 1 (Qm (List.replicate rows.length false)))]++([(y2,.vec 1 (Qm ((List.range rows.length).map (Qg9 (nxN nx) ys.length))))]++([(al,.vec 1 (Qm (inL rows.length (nxN nx))))]++(ysL rows.length (nxN nx) ys++Lg)))):=
      (kn.al hy3 h7).perm (Qp fun f hf h0 hc hp=>by simp only[hf];omega)
     simp only[go_sem,Qxx,l1,l3,l4,l5,l6,l7]
     refine Q4 ?_
     refine Qa ?_
     simp only[go_sem,hoc]
     refine Qh (Qc (Qw (fun m e1 H1=>∃b:Nat,m=rows.length-b∧b≤rows.length∧
      Kn H H1 [] ([(y3,.vec 1 (Qm ((List.range b).map (Qry (nxN nx) ys.length)++List.replicate (rows.length-b) false)))]++([(y2,.vec 1 (Qm ((List.range rows.length).map (Qg9 (nxN nx) ys.length))))]++([(al,.vec 1 (Qm (inL rows.length (nxN nx))))]++(ysL rows.length (nxN nx) ys++Lg))))∧
      e1=[(1,.c (.pp [.int .i64 p,.int .i64 rg,.sl fl 5 rows])),(3,.c (.int .i64 rows.length)),(4,.c oc),(5,.c (.vsl al 1 0 rows.length)),(6,.c (.int .i64 ys.length)),(7,.c (.vsl y2 1 0 rows.length)),(8,.c (.vsl y3 1 0 rows.length)),(9,.c (.int .i64 b))]) rows.length ?_ ?_))
     ·exact⟨0,by omega,by omega,by simpa using kn,rfl⟩
     ·rintro m2 e1 H8 ⟨b,hm2,hb,kn,rfl⟩
      have hy3:=kn.l 0 rfl
      have hy2:=kn.l 1 rfl
      have hal:=kn.l 2 rfl
      have hyl:((List.range b).map (Qry (nxN nx) ys.length)++List.replicate (rows.length-b) false).length=rows.length:=by simp;omega
      refine Q4 ?_
      refine Qa ?_
      simp only[go_sem,hoc]
      refine Qh (Qe rfl ?_ ?_)
      ·intro hc2
       have hbl:b<rows.length:=by simpa using hc2
       have hbi:b<(inL rows.length (nxN nx)).length:=by rw[Qafe];exact hbl
       have hbr:b<((List.range rows.length).map (Qg9 (nxN nx) ys.length)).length:=by simpa using hbl
       have hby:b<((List.range b).map (Qry (nxN nx) ys.length)++List.replicate (rows.length-b) false).length:=by rw[hyl];exact hbl
       have t1:=htk0 (inL rows.length (nxN nx)) Qafe
       have t2:=htk0 ((List.range rows.length).map (Qg9 (nxN nx) ys.length)) (by simp)
       have t3:=htk0 _ hyl
       refine Qi ?_
       simp only[go_sem]
       refine Qh (Qc ?_)
       refine Qr ?_
       simp only[go_sem,hoc,hy3,hy2,hal,hbl,hlt,t1,t2,t3,Qx,hyl,Qafe,List.length_map,List.length_range,Q0 _ _ hlti,Qazn hlt,Q0 _ _ hbi,Qazn hbl,Q0 _ _ hbr,Qd3 _ _ hbl,Q0 _ _ hby,Qbi,Nat.zero_add,Nat.le_refl]
       intro H9 h9
       have kn:=kn.stL 0 rfl h9
       refine Qr ?_
       simp only[go_sem,hoc,X.next]
       refine⟨Qo (by omega) (by omega),rows.length-(b+1),by omega,b+1,rfl,by omega,?_,rfl⟩
       rw[←Qakw _ _ hbl]
       have:Qry (nxN nx) ys.length b=(bif (bif Qg9 (nxN nx) (-1) ys.length then Qg9 (nxN nx) (-1) b else false)then !Qg9 (nxN nx) (↑ys.length) b else false):=by
        simp only[Qry]
        cases Qg9 (nxN nx) (-1) ys.length <;> cases Qg9 (nxN nx) (-1) b <;> rfl
       rw[this]
       exact kn
      ·intro hc2
       have hbe:b=rows.length:=by have:¬b<rows.length:=(by simpa using hc2);omega
       subst hbe
       refine Qt ?_
       simp only[go_sem,X.next]
       refine Qr ?_
       simp only[go_sem,hoc]
       have kn:Kn H H8 [] (([(al,.vec 1 (Qm (inL rows.length (nxN nx))))]++ysL rows.length (nxN nx) (ys++[y3]))++Lg):=by
        have hrow:(List.range rows.length).map (Qry (nxN nx) ys.length)++List.replicate (rows.length-rows.length) false=Qe7 rows.length (nxN nx) ys.length:=by simp[Qe7]
        rw[hrow]at kn
        have:=kn.perm (L':=(([(al,.vec 1 (Qm (inL rows.length (nxN nx))))]++ysL rows.length (nxN nx) (ys++[y3]))++Lg)++[(y2,.vec 1 (Qm ((List.range rows.length).map (Qg9 (nxN nx) ys.length))))]) (Qp fun f hf h0 hc hp=>by simp only[Qbci,hf];omega)
        exact this.drop
       refine kn.growR (new:=[[.vsl y3 1 0 rows.length]]) hgr (.mk' _ _ _ _) (by simp[Go.AE.noOw,C.isOw]) (by simp only[Qbfb,LIM,List.length_cons,List.length_nil];omega) fun t Lg' H9 hgr ht kn=>?_
       simp only[go_sem,Qxy,ht]
       refine hnr _ _ ⟨t,Lg',y3,?_,kn,rfl,rfl,rfl,rfl,rfl⟩
       rw[Qbcj];exact hgr
    refine Qh (Qe rfl ?_ ?_)
    ·intro ha
     have ha0:ys.length≠0:=by simpa using ha
     refine Qa ?_
     simp only[go_sem,hoc]
     refine Qvf (F:=H5) hf (by omega) (hg.grd H5 fl) (hyb y2) rows.length 0 ((List.replicate rows.length false).set ys.length true) [] (.sl true 1 []) [] H5 _ (by simp) (by omega) hn0 (by rw[Qn7,Qa1,if_neg (by omega)]) kn.mid (.nil 1) (by simp) fun S o oc' Lg0 H6 hd k2 _=>?_
     have hSl:=hd.len
     rw[List.length_set,List.length_replicate]at hSl
     have kn:Kn H H6 [] ([(y2,.vec 1 (Qm S))]++([(al,.vec 1 (Qm (inL rows.length (nxN nx))))]++(ysL rows.length (nxN nx) ys++Lg))):=(kn.comp k2 rfl).drop
     have hy:=kn.l 0 rfl
     have hyS:ys.length<S.length:=by omega
     refine Qr ?_
     simp only[go_sem,hoc,hy,hlt,Qx,hSl,htk0 S hSl,Q0 _ _ hyS,Qbi,Nat.zero_add,Nat.le_refl]
     intro H7 h7
     have kn:=kn.stL 0 rfl h7
     refine rest _ H7 rfl rfl rfl rfl rfl rfl ?_
     rw[←Qadj hf hlt hd];exact kn
    ·intro ha
     have ha0:ys.length=0:=by simpa using ha
     have hy:=kn.l 0 rfl
     have hyS:ys.length<((List.replicate rows.length false).set ys.length true).length:=by simpa using hlt
     refine Qr ?_
     simp only[go_sem,hoc,hy,hlt,Qx,List.length_set,List.length_replicate,Q0 _ _ hyS,Qbi,Nat.zero_add,Nat.le_refl]
     intro H7 h7
     have kn:=kn.stL 0 rfl h7
     refine rest _ H7 rfl rfl rfl rfl rfl rfl ?_
     have:=Qbcg (n:=rows.length) (g:=nxN nx)
     rw[ha0]at kn⊢
     rw[←this];exact kn
   ·rintro e2 H4 ⟨oc2,Lg2,y,hgr,kn,l1,l3,l4,l5,l6⟩
    refine Qr ?_
    simp only[go_sem,X.next,l1,l3,l4,l5,l6]
    exact⟨Qo (by omega) (by omega),rows.length-(ys.length+1),by omega,ys++[y],oc2,Lg2,by simp,by simp;omega,hgr,kn,by simp⟩
  ·intro hc
   have hge:ys.length=rows.length:=by have:¬ys.length<rows.length:=(by simpa using hc);omega
   refine Qt ?_
   simp only[go_sem,X.next]
   refine Qa ?_
   simp only[go_sem,hoc]
   refine Qj ?_
   simp only[go_sem,Q5,Qae,Qak6,List.mem_singleton,forall_eq,RS.op,hoc]
   have hfr:=Qbfc (H:=H3) (S:=un H) (n:=rows.length) (g:=nxN nx) ys (fun q hq=>⟨(kn.get q (by simp[hq])).1,Qdl (kn.loc q (by simp[hq]))⟩)
   rw[hge]at hfr
   exact⟨_,.c _ _ (hgr.frzR kn hfr),hK _ kn.fin⟩
end Go.AE.Y

namespace Go.AE.Y
open Go.Proofs.Tryz
def Qs8:List Item:=mJ 3 12::[]
def Qs9:List Item:=.chk 6 none (.ld 3 true (.t 1))::aJ 12 Qdq [.t 6,kI 0,.t 10,.t 11]::Qs8
def Qta:List Item:=mJ 4 27::[]
def Qalx:SC:=(.reg ( mJ 19 5::cJ 20 .sub 19 1::mJ 5 20::[]) [3,4,5])
def Qaly:SC:=(.seq (.block 1 (.reg ( mJ 21 4::mJ 22 3::mJ 23 5::iJ 24 1 22 23::lJ 25 24::fI 26 (.bsl 1 [.t 25])::eI 27 (.app 1 (.t 21) (.t 26))::Qta) [3,4,5])) Qalx)
def Qagw:SC:=(.seq (.seq (.reg ( mJ 17 5::cJ 18 .geq 17 0::[]) [3,4,5,18]) (.cond (.t 18) .skip (.exit 0))) Qaly)
def Qalz:SC:=(.seq (.reg ( mJ 28 4::mJ 2 28::[]) [2]) .ret)
def Qal0:SC:=(.seq (.seq (.reg ( mJ 14 3::nJ 15 14::cJ 16 .sub 15 1::mJ 5 16::[]) [3,4,5]) (.block 0 (.loop Qagw))) Qalz)
def Qal1:SC:=(.seq (.reg ( fI 13 (.bsl 1 [])::mJ 4 13::[]) [3,4]) Qal0)
def Qal2:SC:=(.seq (.dreg 8 [0,1,2,3,5,4,0,6,7] ( tJ 6 3 1::fJ 7 2 1::lJ 8 7::nJ 9 8::fI 11 (.bsl 1 [])::eI 10 (.mks 1 [.bool false] (.t 9))::Qs9) [3]) Qal1)
def Qa13:SC:=(.seq (.reg ( fI 1 (.box (.t 0))::fI 2 (.mv (.k (.c (.sl true 1 []))))::[]) [1]) Qal2)
def Qad6:List RS:=[.tmp 2]
theorem Qa1d:mFn prog Qix 1 29 Qa13 Qad6=true:=by kernel_rfl
def Qpg:List Item:=mJ 3 17::[]
def Qag4:SC:=(.reg ( mJ 10 4::cJ 11 .add 10 1::mJ 4 11::[]) [0,3,4])
def Qag5:SC:=(.seq (.block 1 (.reg ( mJ 12 3::mJ 13 0::mJ 14 4::iJ 15 1 13 14::lJ 16 15::aJ 17 Qdr [.t 12,.t 16]::Qpg) [0,3,4])) Qag4)
def Qabm:SC:=(.seq (.seq (.reg ( mJ 6 4::mJ 7 0::nJ 8 7::bJ 9 .lss 6 8::[]) [0,3,4,9]) (.cond (.t 9) .skip (.exit 0))) Qag5)
def Qag6:SC:=(.seq (.reg ( mJ 18 3::mJ 2 18::[]) [2]) .ret)
def Qag7:SC:=(.seq (.seq (.reg ( fI 4 (.mv (kI 0))::[]) [0,3,4]) (.block 0 (.loop Qabm))) Qag6)
def Qag8:SC:=(.seq (.reg ( fI 5 (.bsl 1 [])::mJ 3 5::[]) [0,3]) Qag7)
def Qat4:SC:=(.seq (.reg ( fI 2 (.mv (.k (.c (.sl true 1 []))))::[]) [0]) Qag8)
def Q4g:List RS:=[.tmp 2]
theorem Qasq:mFn prog Qlo 1 19 Qat4 Q4g=true:=by kernel_rfl
def Qig:List Item:=oJ 5 4::[]
def Q2e:SC:=(.cond (.t 5) (.seq (.reg ( fI 6 (.bsl 1 [])::mJ 2 6::[]) [2]) .ret) .skip)
def Qih:List Item:=mJ 2 9::[]
def Qii:List Item:=aJ 9 Qlo [.t 8]::Qih
def Q2f:SC:=(.seq (.reg ( tJ 7 3 1::aJ 8 Qix [.t 7]::Qii) [2]) .ret)
def Q2g:SC:=(.seq (.seq (.reg ( tJ 3 3 1::aJ 4 Qu1 [.t 3]::Qig) [1,5]) Q2e) Q2f)
def Qadh:SC:=(.seq (.reg ( fI 1 (.box (.t 0))::fI 2 (.mv (.k (.c (.sl true 1 []))))::[]) [1]) Q2g)
def Qo3:List RS:=[.tmp 2]
theorem Qaaq:mFn prog Qfj 1 10 Qadh Qo3=true:=by kernel_rfl
def Qtf:List Item:=mJ 5 9::[]
def Qamk:SC:=(.reg ( mJ 13 6::cJ 14 .add 13 1::mJ 6 14::[]) [0,1,5,6])
def Qaml:SC:=(.seq (.block 1 (.reg ( mJ 15 5::mJ 16 6::iJ 17 1 15 16::.e none none (.sto 1 (.t 17) (kI (-1)))::[]) [0,1,5,6])) Qamk)
def Qag2:SC:=(.seq (.seq (.reg ( mJ 10 6::mJ 11 0::bJ 12 .lss 10 11::[]) [0,1,5,6,12]) (.cond (.t 12) .skip (.exit 0))) Qaml)
def Qamm:SC:=(.reg ( mJ 22 7::cJ 23 .add 22 1::mJ 7 23::[]) [1,5,7])
def Qamn:SC:=(.seq (.block 3 (.reg ( mJ 24 5::mJ 25 1::mJ 26 7::iJ 27 1 25 26::lJ 28 27::mJ 29 7::iJ 30 1 24 28::.e none none (.sto 1 (.t 30) (.t 29))::[]) [1,5,7])) Qamm)
def Qag3:SC:=(.seq (.seq (.reg ( mJ 18 7::mJ 19 1::nJ 20 19::bJ 21 .lss 18 20::[]) [1,5,7,21]) (.cond (.t 21) .skip (.exit 2))) Qamn)
def Qamo:SC:=(.seq (.reg ( mJ 31 5::mJ 4 31::[]) [4]) .ret)
def Qamp:SC:=(.seq (.seq (.reg ( fI 7 (.mv (kI 0))::[]) [1,5,7]) (.block 2 (.loop Qag3))) Qamo)
def Qamq:SC:=(.seq (.seq (.reg ( fI 6 (.mv (kI 0))::[]) [0,1,5,6]) (.block 0 (.loop Qag2))) Qamp)
def Qag1:SC:=(.seq (.reg ( mJ 8 0::eI 9 (.mks 1 [.int .i64 0] (.t 8))::Qtf) [0,1,5]) Qamq)
def Qa14:SC:=(.seq (.reg ( fI 4 (.mv (.k (.c (.sl true 1 []))))::[]) [0,1]) Qag1)
def Qad7:List RS:=[.tmp 4]
theorem Qa1e:mFn prog Qqf 2 32 Qa14 Qad7=true:=by kernel_rfl
def Qxj:List Item:=mJ 5 20::[]
def Qxk:List Item:=.e none none (.sto 3 (.t 6) (.t 25))::[]
def Qxl:List Item:=.chk 33 none (.ld 1 false (.t 32))::.chk 36 none (.iad 1 (.t 34) (.t 35))::.chk 37 none (.ld 1 false (.t 36))::.chk 38 none (.iad 5 (.t 33) (.t 37))::.chk 39 none (.ld 5 true (.t 38))::.e none none (.sto 5 (.t 8) (.t 40))::[]
def Qxm:List Item:=eI 8 (.alloc [.sl true 2 [],.sl true 4 [],.int .i64 0,.int .i64 0,.sl true 1 []])::Qxl
def Qat0:SC:=(.reg ( mJ 46 9::cJ 47 .add 46 1::mJ 9 47::[]) [1,2,4,5,6,7,8,9])
def Qat1:SC:=(.seq (.block 3 (.dreg 13 [0,1,2,3,4,5,6,7,8,9,10,11,12] ( fJ 48 4 8::lJ 49 48::mJ 50 9::mJ 51 5::fJ 52 4 8::lJ 53 52::mJ 54 9::iJ 55 1 53 54::lJ 56 55::iJ 57 1 51 56::lJ 58 57::iJ 59 1 49 50::.e none none (.sto 1 (.t 59) (.t 58))::[]) [1,2,4,5,6,7,8,9])) Qat0)
def Qamj:SC:=(.seq (.seq (.reg ( mJ 41 9::fJ 42 4 8::lJ 43 42::nJ 44 43::bJ 45 .lss 41 44::[]) [1,2,4,5,6,7,8,9,45]) (.cond (.t 45) .skip (.exit 2))) Qat1)
def Qxn:List Item:=fJ 65 2 6::.e none none (.sto 1 (.t 65) (.t 64))::[]
def Qat2:SC:=(.reg ( fJ 60 2 6::lJ 61 60::tJ 62 5 8::fI 63 (.bsl 5 [.t 62])::eI 64 (.app 5 (.t 61) (.t 63))::Qxn) [1,2,4,5,6,7])
def Qat3:SC:=(.seq (.seq (.reg ( fI 9 (.mv (kI 0))::[]) [1,2,4,5,6,7,8,9]) (.block 2 (.loop Qamj))) (.seq .gh Qat2))
def Qal3:SC:=(.reg ( mJ 30 7::cJ 31 .add 30 1::mJ 7 31::[]) [1,2,4,5,6,7])
def Qal4:SC:=(.seq (.block 1 (.seq (.dreg 9 [0,1,2,3,4,5,6,7,8,9,1,4,5,6,7,10] ( fJ 32 2 2::lJ 33 32::mJ 34 1::mJ 35 7::iJ 36 1 34 35::lJ 37 36::iJ 38 5 33 37::tJ 39 5 38::aJ 40 Qd2 [.t 39]::Qxm) [1,2,4,5,6,7,8]) Qat3)) Qal3)
def Qagx:SC:=(.seq (.seq (.reg ( mJ 26 7::mJ 27 1::nJ 28 27::bJ 29 .lss 26 28::[]) [1,2,4,5,6,7,29]) (.cond (.t 29) .skip (.exit 0))) Qal4)
def Qtb:List Item:=mJ 11 77::[]
def Qtc:List Item:=mJ 12 80::[]
def Qtd:List Item:=mJ 14 122::[]
def Qte:List Item:=.chk 101 none (.ld 1 false (.t 100))::.chk 103 none (.iad 5 (.t 101) (.t 102))::.chk 105 none (.ld 1 false (.t 104))::.chk 107 none (.iad 2 (.t 105) (.t 106))::.chk 109 none (.ld 1 false (.t 108))::iJ 119 1 109 118::lJ 120 119::fI 121 (.bsl 1 [.t 120])::eI 122 (.app 1 (.t 99) (.t 121))::Qtd
def Qal5:SC:=(.reg ( mJ 97 15::cJ 98 .add 97 1::mJ 15 98::[]) [1,2,4,6,10,11,12,13,14,15])
def Qal6:SC:=(.seq (.block 9 (.dreg 25 [0,1,2,3,4,5,6,7,8,9,10,11,12,13,14,15,16,17,18,19,2,4,6,8,10,20,21,22,23,24] ( mJ 99 14::fJ 100 2 6::lJ 101 100::mJ 102 10::iJ 103 5 101 102::fJ 104 0 103::lJ 105 104::mJ 106 13::iJ 107 2 105 106::fJ 108 1 107::lJ 109 108::mJ 110 11::mJ 111 1::mJ 112 12::mJ 113 15::iJ 114 1 112 113::lJ 115 114::iJ 116 1 111 115::lJ 117 116::aJ 118 Qnx [.t 110,.t 117]::Qte) [1,2,4,6,10,11,12,13,14,15])) Qal5)
def Qagy:SC:=(.seq (.seq (.reg ( mJ 93 15::mJ 94 12::nJ 95 94::bJ 96 .lss 93 95::[]) [1,2,4,6,10,11,12,13,14,15,96]) (.cond (.t 96) .skip (.exit 8))) Qal6)
def Qal7:SC:=(.reg ( fJ 123 2 6::lJ 124 123::mJ 125 10::iJ 126 5 124 125::fJ 127 0 126::lJ 128 127::mJ 129 13::mJ 130 14::iJ 131 2 128 129::fJ 132 1 131::.e none none (.sto 1 (.t 132) (.t 130))::[]) [1,2,4,6,10,11,12,13])
def Qal8:SC:=(.seq (.seq (.reg ( fI 15 (.mv (kI 0))::[]) [1,2,4,6,10,11,12,13,14,15]) (.block 8 (.loop Qagy))) (.seq .gh Qal7))
def Qal9:SC:=(.reg ( mJ 90 13::cJ 91 .add 90 1::mJ 13 91::[]) [1,2,4,6,10,11,12,13])
def Qama:SC:=(.seq (.block 7 (.seq (.reg ( fI 92 (.bsl 1 [])::mJ 14 92::[]) [1,2,4,6,10,11,12,13,14]) Qal8)) Qal9)
def Qagz:SC:=(.seq (.seq (.reg ( mJ 81 13::fJ 82 2 6::lJ 83 82::mJ 84 10::iJ 85 5 83 84::fJ 86 0 85::lJ 87 86::nJ 88 87::bJ 89 .lss 81 88::[]) [1,2,4,6,10,11,12,13,89]) (.cond (.t 89) .skip (.exit 6))) Qama)
def Qamb:SC:=(.seq (.reg ( fI 13 (.mv (kI 0))::[]) [1,2,4,6,10,11,12,13]) (.block 6 (.loop Qagz)))
def Qamc:SC:=(.seq (.reg ( tJ 78 3 6::mJ 79 10::aJ 80 Qb9 [.t 78,.t 79]::Qtc) [1,2,4,6,10,11,12]) Qamb)
def Qamd:SC:=(.reg ( mJ 70 10::cJ 71 .add 70 1::mJ 10 71::[]) [1,2,4,6,10])
def Qame:SC:=(.seq (.block 5 (.seq (.dreg 7 [0,1,2,3,4,5,6] ( tJ 72 3 2::mJ 73 1::mJ 74 10::iJ 75 1 73 74::lJ 76 75::aJ 77 Qb9 [.t 72,.t 76]::Qtb) [1,2,4,6,10,11]) Qamc)) Qamd)
def Qag0:SC:=(.seq (.seq (.reg ( mJ 66 10::mJ 67 1::nJ 68 67::bJ 69 .lss 66 68::[]) [1,2,4,6,10,69]) (.cond (.t 69) .skip (.exit 4))) Qame)
def Qamf:SC:=(.seq (.reg ( tJ 133 3 6::.e none none (.sto 3 (.t 4) (.t 133))::[]) [4]) .ret)
def Qxi:SC:=(.seq (.seq (.reg ( fI 10 (.mv (kI 0))::[]) [1,2,4,6,10]) (.block 4 (.loop Qag0))) Qamf)
def Qamg:SC:=(.seq (.seq (.reg ( fI 7 (.mv (kI 0))::[]) [1,2,4,5,6,7]) (.block 0 (.loop Qagx))) Qxi)
def Qamh:SC:=(.seq (.reg ( fJ 21 0 2::lJ 22 21::fJ 23 1 2::lJ 24 23::fI 25 (.bld [.int .i64 0,.int .i64 0,.sl true 5 []] [(0,1,.t 22),(1,1,.t 24)])::eI 6 (.alloc [.int .i64 0,.int .i64 0,.sl true 5 []])::Qxk) [1,2,4,5,6]) Qamg)
def Qami:SC:=(.seq (.reg ( fJ 16 2 2::lJ 17 16::nJ 18 17::mJ 19 1::aJ 20 Qqf [.t 18,.t 19]::Qxj) [1,2,4,5]) Qamh)
def Qa69:SC:=(.seq (.reg ( fI 2 (.box (.t 0))::eI 4 (.alloc [.int .i64 0,.int .i64 0,.sl true 5 []])::[]) [1,2,4]) Qami)
def Qak4:List RS:=[.cell 4 3 true]
theorem Qa5w:mFn prog Qn0 2 134 Qa69 Qak4=true:=by kernel_rfl
def Qw9:List Item:=.e none none (.sto 3 (.t 2) (.t 6))::[]
def Qxa:List Item:=.chk 3 none (.ld 3 true (.t 1))::aJ 6 Qn0 [.t 3,.t 5]::Qw9
def Qatp:SC:=(.seq (.dreg 5 [0,1,2,0,3,4] ( tJ 3 3 1::tJ 4 3 1::aJ 5 Qfj [.t 4]::Qxa) [2]) .ret)
def Qa66:SC:=(.seq (.reg ( fI 1 (.box (.t 0))::eI 2 (.alloc [.int .i64 0,.int .i64 0,.sl true 5 []])::[]) [1,2]) Qatp)
def Qak3:List RS:=[.cell 2 3 true]
theorem Qa5t:mFn prog Qnz 1 7 Qa66 Qak3=true:=by kernel_rfl
def Qj3:List Item:=mJ 9 20::[]
def Qj4:List Item:=mJ 7 54::[]
def Q5d:SC:=(.cond (.t 51) (.reg ( mJ 52 7::mJ 53 8::aJ 54 Qdr [.t 52,.t 53]::Qj4) [1,2,3,7,8,9,10]) .skip)
def Q5e:SC:=(.reg ( mJ 25 10::cJ 26 .add 25 1::mJ 10 26::[]) [1,2,3,7,8,9,10])
def Q5f:SC:=(.seq (.block 3 (.seq (.dreg 25 [0,1,2,3,4,5,6,7,8,9,10,11,12,13,14,15,16,17,18,19,20,21,22,23,24] ( mJ 27 1::mJ 28 2::iJ 29 1 27 28::lJ 30 29::mJ 31 9::mJ 32 10::iJ 33 1 31 32::lJ 34 33::iJ 35 1 30 34::lJ 36 35::mJ 37 36::gTm 38 37 8::gTm 39 37 2::gT 40 37 (.bin 0 .eql (.t 38) (.t 39))::gTm 41 37 40::gFm 42 41 1::gFm 43 41 2::gF 44 41 (.iad 1 (.t 42) (.t 43))::gFl 45 41 44::gFm 46 41 8::gF 47 41 (.iad 1 (.t 45) (.t 46))::gFl 48 41 47::gF 49 41 (.not (.t 48))::gT 50 37 (.pick (.t 41) (.k (.c (.bool true))) (.t 49))::fI 51 (.pick (.t 37) (.t 50) (.k (.c (.bool false))))::[]) [1,2,3,7,8,9,10,51]) Q5d)) Q5e)
def Q09:SC:=(.seq (.seq (.reg ( mJ 21 10::mJ 22 9::nJ 23 22::bJ 24 .lss 21 23::[]) [1,2,3,7,8,9,10,24]) (.cond (.t 24) .skip (.exit 2))) Q5f)
def Q5g:SC:=(.seq (.reg ( fI 10 (.mv (kI 0))::[]) [1,2,3,7,8,9,10]) (.block 2 (.loop Q09)))
def Q5h:SC:=(.reg ( mJ 16 8::cJ 17 .add 16 1::mJ 8 17::[]) [1,2,3,7,8])
def Q5i:SC:=(.seq (.block 1 (.seq (.reg ( tJ 18 3 3::mJ 19 8::aJ 20 Qb9 [.t 18,.t 19]::Qj3) [1,2,3,7,8,9]) Q5g)) Q5h)
def Q1a:SC:=(.seq (.seq (.reg ( mJ 12 8::mJ 13 1::nJ 14 13::bJ 15 .lss 12 14::[]) [1,2,3,7,8,15]) (.cond (.t 15) .skip (.exit 0))) Q5i)
def Q06:SC:=(.seq (.reg ( mJ 55 7::mJ 6 55::[]) [6]) .ret)
def Q07:SC:=(.seq (.seq (.reg ( fI 8 (.mv (kI 0))::[]) [1,2,3,7,8]) (.block 0 (.loop Q1a))) Q06)
def Q08:SC:=(.seq (.reg ( fI 11 (.bsl 1 [])::mJ 7 11::[]) [1,2,3,7]) Q07)
def Qahe:SC:=(.seq (.reg ( fI 3 (.box (.t 0))::fI 6 (.mv (.k (.c (.sl true 1 []))))::[]) [1,2,3]) Q08)
def Qsl:List RS:=[.tmp 6]
theorem Qafr:mFn prog Qgs 3 56 Qahe Qsl=true:=by kernel_rfl
def Qh8:List Item:=mJ 8 15::[]
def Qh9:List Item:=oJ 29 28::[]
def Qia:List Item:=mJ 10 33::[]
def Qib:List Item:=cJ 46 .lss 45 0::[]
def Qic:List Item:=mJ 7 52::[]
def Qid:List Item:=mJ 8 59::[]
def Q1b:SC:=(.reg ( mJ 53 8::mJ 54 10::mJ 55 11::iJ 56 1 54 55::lJ 57 56::fI 58 (.bsl 1 [.t 57])::eI 59 (.app 1 (.t 53) (.t 58))::Qid) [1,3,7,8,10,11])
def Q1c:SC:=(.cond (.t 46) (.seq (.reg ( mJ 47 7::mJ 48 10::mJ 49 11::iJ 50 1 48 49::lJ 51 50::aJ 52 Qdr [.t 47,.t 51]::Qic) [1,3,7,8,10,11]) Q1b) .skip)
def Q1d:SC:=(.reg ( mJ 38 11::cJ 39 .add 38 1::mJ 11 39::[]) [1,3,7,8,10,11])
def Q1e:SC:=(.seq (.block 3 (.seq (.reg ( mJ 40 7::mJ 41 10::mJ 42 11::iJ 43 1 41 42::lJ 44 43::aJ 45 Qnx [.t 40,.t 44]::Qib) [1,3,7,8,10,11,46]) Q1c)) Q1d)
def Qti:SC:=(.seq (.seq (.reg ( mJ 34 11::mJ 35 10::nJ 36 35::bJ 37 .lss 34 36::[]) [1,3,7,8,10,11,37]) (.cond (.t 37) .skip (.exit 2))) Q1e)
def Qvz:SC:=(.seq (.reg ( fI 11 (.mv (kI 0))::[]) [1,3,7,8,10,11]) (.block 2 (.loop Qti)))
def Qv0:SC:=(.seq (.reg ( tJ 30 3 3::mJ 31 1::mJ 32 9::aJ 33 Qgs [.t 30,.t 31,.t 32]::Qia) [1,3,7,8,10]) Qvz)
def Qv1:SC:=(.seq (.seq (.reg ( mJ 24 9::mJ 25 1::nJ 26 25::cJ 27 .sub 26 1::aJ 28 Qbe [.t 24,kI 0,.t 27]::Qh9) [1,3,7,8,9,29]) (.cond (.t 29) (.exit 1) .skip)) Qv0)
def Qv2:SC:=(.seq (.reg ( mJ 22 8::fI 23 (.sli 1 (.t 22) (some (kI 1)) none)::mJ 8 23::[]) [1,3,7,8,9]) Qv1)
def Qv3:SC:=(.block 1 (.seq (.reg ( mJ 19 8::fI 20 (.iad 1 (.t 19) (kI 0))::lJ 21 20::mJ 9 21::[]) [1,3,7,8,9]) Qv2))
def Qtj:SC:=(.seq (.seq (.reg ( mJ 16 8::nJ 17 16::cJ 18 .gtr 17 0::[]) [1,3,7,8,18]) (.cond (.t 18) .skip (.exit 0))) Qv3)
def Qv4:SC:=(.seq (.reg ( mJ 60 7::mJ 6 60::[]) [6]) .ret)
def Qv5:SC:=(.seq (.reg ( fI 13 (.bsl 1 [])::mJ 14 2::eI 15 (.app 1 (.t 13) (.t 14))::Qh8) [1,3,7,8]) (.seq (.block 0 (.loop Qtj)) Qv4))
def Qv6:SC:=(.seq (.reg ( fI 12 (.bsl 1 [])::mJ 7 12::[]) [1,2,3,7]) Qv5)
def Qabn:SC:=(.seq (.reg ( fI 3 (.box (.t 0))::fI 6 (.mv (.k (.c (.sl true 1 []))))::[]) [1,2,3]) Qv6)
def Qo2:List RS:=[.tmp 6]
theorem Qaan:mFn prog Qff 3 61 Qabn Qo2=true:=by kernel_rfl
def Qanw:SC:=(.cond (.t 44) (.reg ( mJ 45 6::mJ 5 45::[]) [0,3,4,5,6]) .skip)
def Qanx:SC:=(.reg ( mJ 18 6::cJ 19 .add 18 1::mJ 6 19::[]) [0,3,4,5,6])
def Qany:SC:=(.seq (.block 3 (.seq (.reg ( mJ 20 6::mJ 21 4::bJ 22 .neq 20 21::mJ 23 22::gTm 24 23 0::gTm 25 23 6::gT 26 23 (.iad 1 (.t 24) (.t 25))::gTl 27 23 26::gTm 28 23 4::gT 29 23 (.iad 1 (.t 27) (.t 28))::gTl 30 23 29::fI 31 (.pick (.t 23) (.t 30) (.k (.c (.bool false))))::mJ 32 31::gTm 33 32 5::gT 34 32 (.bin 0 .lss (.t 33) (kI 0))::gTm 35 32 34::gFm 36 35 0::gFm 37 35 5::gF 38 35 (.iad 1 (.t 36) (.t 37))::gFl 39 35 38::gFm 40 35 6::gF 41 35 (.iad 1 (.t 39) (.t 40))::gFl 42 35 41::gT 43 32 (.pick (.t 35) (.k (.c (.bool true))) (.t 42))::fI 44 (.pick (.t 32) (.t 43) (.k (.c (.bool false))))::[]) [0,3,4,5,6,44]) Qanw)) Qanx)
def Qahi:SC:=(.seq (.seq (.reg ( mJ 14 6::mJ 15 0::nJ 16 15::bJ 17 .lss 14 16::[]) [0,3,4,5,6,17]) (.cond (.t 17) .skip (.exit 2))) Qany)
def Qtk:List Item:=mJ 3 49::[]
def Qanz:SC:=(.reg ( mJ 46 3::mJ 47 5::fI 48 (.bsl 1 [.t 47])::eI 49 (.app 1 (.t 46) (.t 48))::Qtk) [0,3,4])
def Qan0:SC:=(.seq (.seq (.reg ( fI 6 (.mv (kI 0))::[]) [0,3,4,5,6]) (.block 2 (.loop Qahi))) Qanz)
def Qan1:SC:=(.reg ( mJ 12 4::cJ 13 .add 12 1::mJ 4 13::[]) [0,3,4])
def Qan2:SC:=(.seq (.block 1 (.seq (.reg ( fI 5 (.mv (kI (-1)))::[]) [0,3,4,5]) Qan0)) Qan1)
def Qahj:SC:=(.seq (.seq (.reg ( mJ 8 4::mJ 9 0::nJ 10 9::bJ 11 .lss 8 10::[]) [0,3,4,11]) (.cond (.t 11) .skip (.exit 0))) Qan2)
def Qahf:SC:=(.seq (.reg ( mJ 50 3::mJ 2 50::[]) [2]) .ret)
def Qahg:SC:=(.seq (.seq (.reg ( fI 4 (.mv (kI 0))::[]) [0,3,4]) (.block 0 (.loop Qahj))) Qahf)
def Qahh:SC:=(.seq (.reg ( fI 7 (.bsl 1 [])::mJ 3 7::[]) [0,3]) Qahg)
def Qa16:SC:=(.seq (.reg ( fI 2 (.mv (.k (.c (.sl true 1 []))))::[]) [0]) Qahh)
def Qad9:List RS:=[.tmp 2]
theorem Qa1g:mFn prog Qqg 1 51 Qa16 Qad9=true:=by kernel_rfl
def Qxz:List Item:=mJ 5 23::[]
def Qaue:SC:=(.cond (.t 19) (.reg ( mJ 20 5::mJ 21 6::fI 22 (.bsl 1 [.t 21])::eI 23 (.app 1 (.t 20) (.t 22))::Qxz) [0,1,5,6]) .skip)
def Qauf:SC:=(.reg ( mJ 12 6::cJ 13 .add 12 1::mJ 6 13::[]) [0,1,5,6])
def Qaug:SC:=(.seq (.block 1 (.seq (.reg ( mJ 14 0::mJ 15 6::iJ 16 1 14 15::lJ 17 16::mJ 18 1::bJ 19 .eql 17 18::[]) [0,1,5,6,19]) Qaue)) Qauf)
def Qan3:SC:=(.seq (.seq (.reg ( mJ 8 6::mJ 9 0::nJ 10 9::bJ 11 .lss 8 10::[]) [0,1,5,6,11]) (.cond (.t 11) .skip (.exit 0))) Qaug)
def Qauh:SC:=(.seq (.reg ( mJ 24 5::mJ 4 24::[]) [4]) .ret)
def Qaui:SC:=(.seq (.seq (.reg ( fI 6 (.mv (kI 0))::[]) [0,1,5,6]) (.block 0 (.loop Qan3))) Qauh)
def Qauj:SC:=(.seq (.reg ( fI 7 (.bsl 1 [])::mJ 5 7::[]) [0,1,5]) Qaui)
def Qa7d:SC:=(.seq (.reg ( fI 4 (.mv (.k (.c (.sl true 1 []))))::[]) [0,1]) Qauj)
def Qak7:List RS:=[.tmp 4]
theorem Qa50:mFn prog Qu3 2 25 Qa7d Qak7=true:=by kernel_rfl
def Qym:List Item:=mJ 3 11::[]
def Qyn:List Item:=iJ 50 1 40 41::.e none none (.sto 1 (.t 50) (.t 49))::[]
def Qau3:SC:=(.reg ( mJ 40 3::mJ 41 6::mJ 42 3::mJ 43 6::iJ 44 1 42 43::lJ 45 44::mJ 46 4::fI 47 (.bsl 1 [.t 46,kI (-1)])::fI 48 (.bsl 1 [.t 47])::eI 49 (.app 1 (.t 45) (.t 48))::Qyn) [1,3,4,5])
def Qau4:SC:=(.reg ( mJ 28 5::cJ 29 .add 28 1::mJ 5 29::[]) [1,3,4,5])
def Qau5:SC:=(.seq (.block 3 (.seq (.reg ( fJ 30 2 1::lJ 31 30::mJ 32 4::iJ 33 5 31 32::fJ 34 0 33::lJ 35 34::mJ 36 5::iJ 37 2 35 36::fJ 38 0 37::lJ 39 38::mJ 6 39::[]) [1,3,4,5,6]) Qau3)) Qau4)
def Qapr:SC:=(.seq (.seq (.reg ( mJ 19 5::fJ 20 2 1::lJ 21 20::mJ 22 4::iJ 23 5 21 22::fJ 24 0 23::lJ 25 24::nJ 26 25::bJ 27 .lss 19 26::[]) [1,3,4,5,27]) (.cond (.t 27) .skip (.exit 2))) Qau5)
def Qyo:List Item:=mJ 8 71::[]
def Qyp:List Item:=iJ 85 1 74 75::.e none none (.sto 1 (.t 85) (.t 84))::[]
def Qau6:SC:=(.cond (.t 73) (.reg ( mJ 74 3::mJ 75 8::mJ 76 3::mJ 77 8::iJ 78 1 76 77::lJ 79 78::mJ 80 4::mJ 81 7::fI 82 (.bsl 1 [.t 80,.t 81])::fI 83 (.bsl 1 [.t 82])::eI 84 (.app 1 (.t 79) (.t 83))::Qyp) [1,3,4,7]) .skip)
def Qau7:SC:=(.seq (.reg ( mJ 72 8::cJ 73 .geq 72 0::[]) [1,3,4,7,8,73]) Qau6)
def Qapj:SC:=(.reg ( mJ 60 7::cJ 61 .add 60 1::mJ 7 61::[]) [1,3,4,7])
def Qapk:SC:=(.seq (.block 5 (.seq (.reg ( fJ 62 2 1::lJ 63 62::mJ 64 4::iJ 65 5 63 64::fJ 66 1 65::lJ 67 66::mJ 68 7::iJ 69 4 67 68::tJ 70 4 69::aJ 71 Qf7 [.t 70]::Qyo) [1,3,4,7,8]) Qau7)) Qapj)
def Qaic:SC:=(.seq (.seq (.reg ( mJ 51 7::fJ 52 2 1::lJ 53 52::mJ 54 4::iJ 55 5 53 54::fJ 56 1 55::lJ 57 56::nJ 58 57::bJ 59 .lss 51 58::[]) [1,3,4,7,59]) (.cond (.t 59) .skip (.exit 4))) Qapk)
def Qapl:SC:=(.seq (.reg ( fI 7 (.mv (kI 0))::[]) [1,3,4,7]) (.block 4 (.loop Qaic)))
def Qapm:SC:=(.reg ( mJ 17 4::cJ 18 .add 17 1::mJ 4 18::[]) [1,3,4])
def Qapn:SC:=(.seq (.block 1 (.seq (.seq (.reg ( fI 5 (.mv (kI 0))::[]) [1,3,4,5]) (.block 2 (.loop Qapr))) Qapl)) Qapm)
def Qaid:SC:=(.seq (.seq (.reg ( mJ 12 4::fJ 13 2 1::lJ 14 13::nJ 15 14::bJ 16 .lss 12 15::[]) [1,3,4,16]) (.cond (.t 16) .skip (.exit 0))) Qapn)
def Qapo:SC:=(.seq (.reg ( mJ 86 3::mJ 2 86::[]) [2]) .ret)
def Qapp:SC:=(.seq (.seq (.reg ( fI 4 (.mv (kI 0))::[]) [1,3,4]) (.block 0 (.loop Qaid))) Qapo)
def Qapq:SC:=(.seq (.reg ( fJ 9 1 1::lJ 10 9::eI 11 (.mks 1 [.sl true 1 []] (.t 10))::Qym) [1,3]) Qapp)
def Qa7j:SC:=(.seq (.reg ( fI 1 (.box (.t 0))::fI 2 (.mv (.k (.c (.sl true 1 []))))::[]) [1]) Qapq)
def Qalb:List RS:=[.tmp 2]
theorem Qa56:mFn prog Qn4 1 87 Qa7j Qalb=true:=by kernel_rfl
def Qtm:List Item:=.e none none (.sto 3 (.t 3) (.t 8))::[]
def Qtn:List Item:=eI 3 (.alloc [.int .i64 0,.int .i64 0,.sl true 5 []])::Qtm
def Qto:List Item:=fI 11 (.fld 0 1 false (.t 10))::fI 12 (.iad 1 (.t 11) (kI 0))::lJ 13 12::mJ 4 13::[]
def Qtp:List Item:=mJ 5 32::[]
def Qaov:SC:=(.cond (.t 26) (.reg ( mJ 27 5::mJ 28 6::fI 29 (.bsl 1 [])::fI 30 (.bld [.int .i64 0,.int .i64 0,.sl true 1 [],.int .i64 0] [(0,1,kI 1),(1,1,.t 28),(2,1,.t 29)])::fI 31 (.bsl 4 [.t 30])::eI 32 (.app 4 (.t 27) (.t 31))::Qtp) [2,3,4,5,6]) .skip)
def Qaow:SC:=(.reg ( mJ 21 6::cJ 22 .add 21 1::mJ 6 22::[]) [2,3,4,5,6])
def Qaox:SC:=(.seq (.block 1 (.seq (.reg ( mJ 23 4::mJ 24 6::iJ 25 1 23 24::lJ 26 25::[]) [2,3,4,5,6,26]) Qaov)) Qaow)
def Qah1:SC:=(.seq (.seq (.reg ( mJ 17 6::fJ 18 1 3::lJ 19 18::bJ 20 .lss 17 19::[]) [2,3,4,5,6,20]) (.cond (.t 20) .skip (.exit 0))) Qaox)
def Qtq:List Item:=.chk 34 none (.ld 1 false (.t 33))::fI 42 (.iad 5 (.t 34) (kI 0))::fJ 43 1 42::.e none none (.sto 1 (.t 43) (.t 41))::[]
def Qaoy:SC:=(.seq (.reg ( tJ 44 3 3::.e none none (.sto 3 (.t 2) (.t 44))::[]) [2]) .ret)
def Qahw:SC:=(.seq (.dreg 12 [0,1,2,3,4,5,6,7,8,1,9,10,11] ( fJ 33 2 3::lJ 34 33::mJ 35 5::fJ 36 2 3::lJ 37 36::fI 38 (.iad 5 (.t 37) (kI 0))::fJ 39 1 38::lJ 40 39::eI 41 (.app 4 (.t 35) (.t 40))::Qtq) [2,3]) Qaoy)
def Qahx:SC:=(.seq (.seq (.reg ( fJ 15 0 3::lJ 16 15::mJ 6 16::[]) [2,3,4,5,6]) (.block 0 (.loop Qah1))) Qahw)
def Qahy:SC:=(.seq (.reg ( fI 14 (.bsl 4 [])::mJ 5 14::[]) [2,3,4,5]) Qahx)
def Qahz:SC:=(.seq (.reg ( tJ 9 3 3::aJ 10 Qn3 [.t 9]::Qto) [2,3,4]) Qahy)
def Qah0:SC:=(.seq (.reg ( tJ 7 3 1::aJ 8 Qnz [.t 7]::Qtn) [2,3]) Qahz)
def Qa18:SC:=(.seq (.reg ( fI 1 (.box (.t 0))::eI 2 (.alloc [.int .i64 0,.int .i64 0,.sl true 5 []])::[]) [1,2]) Qah0)
def Qaea:List RS:=[.cell 2 3 true]
theorem Qa1h:mFn prog Qqh 1 45 Qa18 Qaea=true:=by kernel_rfl
def Qyf:List Item:=.e none none (.sto 3 (.t 3) (.t 14))::[]
def Qyg:List Item:=eI 3 (.alloc [.int .i64 0,.int .i64 0,.sl true 5 []])::Qyf
def Qyh:List Item:=mJ 4 16::[]
def Qyi:List Item:=.e none none (.sto 2 (.t 5) (.t 18))::[]
def Qyj:List Item:=eI 5 (.alloc [.sl true 1 [],.sl true 1 []])::Qyi
def Qyk:List Item:=mJ 6 20::[]
def Qau0:SC:=(.cond (.t 32) (.reg ( fI 33 (.bsl 1 [kI 0])::mJ 8 33::[]) [1,2,3,4,5,6,7,8]) .skip)
def Qyl:List Item:=mJ 8 53::[]
def Qau1:SC:=(.reg ( mJ 41 9::cJ 42 .add 41 1::mJ 9 42::[]) [1,2,3,4,5,6,7,8,9])
def Qau2:SC:=(.seq (.block 3 (.reg ( mJ 43 8::mJ 44 6::mJ 45 7::iJ 46 1 44 45::lJ 47 46::mJ 48 9::iJ 49 1 47 48::lJ 50 49::fI 51 (.iad 1 (.t 50) (kI 0))::lJ 52 51::aJ 53 Qdr [.t 43,.t 52]::Qyl) [1,2,3,4,5,6,7,8,9])) Qau1)
def Qah2:SC:=(.seq (.seq (.reg ( mJ 34 9::mJ 35 6::mJ 36 7::iJ 37 1 35 36::lJ 38 37::nJ 39 38::bJ 40 .lss 34 39::[]) [1,2,3,4,5,6,7,8,9,40]) (.cond (.t 40) .skip (.exit 2))) Qau2)
def Qtz:List Item:=mJ 10 57::[]
def Qt0:List Item:=.e none none (.sto 2 (.t 12) (.t 78))::[]
def Qt1:List Item:=nJ 85 84::[]
def Qt2:List Item:=fJ 93 1 12::.e none none (.sto 1 (.t 93) (.t 92))::[]
def Qaoz:SC:=(.reg ( cJ 94 .add 86 1::mJ 86 94::[]) [1,2,3,4,5,6,7,10,11,12,85,86])
def Qao0:SC:=(.seq (.block 7 (.reg ( fJ 88 1 12::lJ 89 88::mJ 90 7::fI 91 (.bsl 1 [.t 90])::eI 92 (.app 1 (.t 89) (.t 91))::Qt2) [1,2,3,4,5,6,7,10,11,12,85,86])) Qaoz)
def Qah3:SC:=(.seq (.reg ( bJ 87 .lss 86 85::[]) [1,2,3,4,5,6,7,10,11,12,85,86,87]) (.seq (.cond (.t 87) .skip (.exit 6)) Qao0))
def Qt3:List Item:=.chk 96 none (.ld 1 false (.t 95))::.chk 99 none (.iad 1 (.t 97) (.t 98))::.chk 100 none (.ld 1 false (.t 99))::iJ 113 5 96 100::fJ 114 0 113::.e none none (.sto 1 (.t 114) (.t 112))::[]
def Qt4:List Item:=.chk 96 none (.ld 1 false (.t 95))::.chk 99 none (.iad 1 (.t 97) (.t 98))::.chk 100 none (.ld 1 false (.t 99))::.chk 104 none (.ld 1 false (.t 103))::.chk 107 none (.iad 1 (.t 105) (.t 106))::.chk 108 none (.ld 1 false (.t 107))::.chk 109 none (.iad 5 (.t 104) (.t 108))::.chk 111 none (.ld 1 false (.t 110))::eI 112 (.app 2 (.t 102) (.t 111))::Qt3
def Qao1:SC:=(.dreg 21 [0,1,2,3,4,5,6,8,9,10,11,12,13,14,15,16,7,1,4,5,9,12,13,14,16,17,1,4,5,18,19,20] ( fJ 95 2 3::lJ 96 95::mJ 97 10::mJ 98 11::iJ 99 1 97 98::lJ 100 99::tJ 101 2 12::fJ 103 2 3::lJ 104 103::mJ 105 10::mJ 106 11::iJ 107 1 105 106::lJ 108 107::iJ 109 5 104 108::fJ 110 0 109::lJ 111 110::eI 102 (.bslm 2 [.t 101])::Qt4) [1,2,3,4,5,6,7,10,11])
def Qao2:SC:=(.seq (.seq (.dreg 8 [0,1,2,3,4,7,5,6] ( tJ 79 3 1::mJ 80 10::mJ 81 11::iJ 82 1 80 81::lJ 83 82::fI 86 (.mv (kI 0))::aJ 84 Qb9 [.t 79,.t 83]::Qt1) [1,2,3,4,5,6,7,10,11,12,85,86]) (.block 6 (.loop Qah3))) Qao1)
def Qao3:SC:=(.seq (.reg ( mJ 76 7::fI 77 (.bsl 1 [])::fI 78 (.bld [.int .i64 0,.sl true 1 []] [(0,1,.t 76),(1,1,.t 77)])::eI 12 (.alloc [.int .i64 0,.sl true 1 []])::Qt0) [1,2,3,4,5,6,7,10,11,12]) Qao2)
def Qao4:SC:=(.reg ( mJ 62 11::cJ 63 .add 62 1::mJ 11 63::[]) [1,2,3,4,5,6,7,10,11])
def Qao5:SC:=(.seq (.block 5 (.seq (.seq (.dreg 12 [0,1,2,3,4,5,6,7,8,9,10,11] ( fJ 64 0 5::lJ 65 64::mJ 66 10::mJ 67 11::iJ 68 1 66 67::lJ 69 68::iJ 70 1 65 69::lJ 71 70::mJ 72 7::iJ 73 1 71 72::lJ 74 73::oJ 75 74::[]) [1,2,3,4,5,6,7,10,11,75]) (.cond (.t 75) (.exit 5) .skip)) Qao3)) Qao4)
def Qah4:SC:=(.seq (.seq (.reg ( mJ 58 11::mJ 59 10::nJ 60 59::bJ 61 .lss 58 60::[]) [1,2,3,4,5,6,7,10,11,61]) (.cond (.t 61) .skip (.exit 4))) Qao5)
def Qao6:SC:=(.seq (.reg ( fI 11 (.mv (kI 0))::[]) [1,2,3,4,5,6,7,10,11]) (.block 4 (.loop Qah4)))
def Qao7:SC:=(.seq (.reg ( tJ 54 3 1::mJ 55 4::mJ 56 8::aJ 57 Qff [.t 54,.t 55,.t 56]::Qtz) [1,2,3,4,5,6,7,10]) Qao6)
def Qao8:SC:=(.seq (.seq (.reg ( fI 9 (.mv (kI 0))::[]) [1,2,3,4,5,6,7,8,9]) (.block 2 (.loop Qah2))) Qao7)
def Qao9:SC:=(.seq (.seq (.reg ( mJ 29 7::fJ 30 0 1::lJ 31 30::bJ 32 .lss 29 31::[]) [1,2,3,4,5,6,7,8,32]) Qau0) Qao8)
def Qapa:SC:=(.reg ( mJ 26 7::cJ 27 .sub 26 1::mJ 7 27::[]) [1,2,3,4,5,6,7])
def Qapb:SC:=(.seq (.block 1 (.seq (.reg ( fI 28 (.bsl 1 [])::mJ 8 28::[]) [1,2,3,4,5,6,7,8]) Qao9)) Qapa)
def Qah5:SC:=(.seq (.seq (.reg ( mJ 24 7::cJ 25 .geq 24 0::[]) [1,2,3,4,5,6,7,25]) (.cond (.t 25) .skip (.exit 0))) Qapb)
def Qapc:SC:=(.seq (.reg ( tJ 115 3 3::.e none none (.sto 3 (.t 2) (.t 115))::[]) [2]) .ret)
def Qapd:SC:=(.seq (.seq (.reg ( fJ 21 1 1::lJ 22 21::cJ 23 .sub 22 1::mJ 7 23::[]) [1,2,3,4,5,6,7]) (.block 0 (.loop Qah5))) Qapc)
def Qape:SC:=(.seq (.reg ( tJ 19 3 1::aJ 20 Qn4 [.t 19]::Qyk) [1,2,3,4,5,6]) Qapd)
def Qapf:SC:=(.seq (.reg ( tJ 17 3 1::aJ 18 Qn3 [.t 17]::Qyj) [1,2,3,4,5]) Qape)
def Qapg:SC:=(.seq (.reg ( tJ 15 3 1::aJ 16 Qn2 [.t 15]::Qyh) [1,2,3,4]) Qapf)
def Qaph:SC:=(.seq (.reg ( tJ 13 3 1::aJ 14 Qhe [.t 13]::Qyg) [1,2,3]) Qapg)
def Qa7i:SC:=(.seq (.reg ( fI 1 (.box (.t 0))::eI 2 (.alloc [.int .i64 0,.int .i64 0,.sl true 5 []])::[]) [1,2]) Qaph)
def Qala:List RS:=[.cell 2 3 true]
theorem Qa55:mFn prog Qu7 1 116 Qa7i Qala=true:=by kernel_rfl
def Qtx:SC:=(.seq (.reg ( mJ 11 0::kJ 12 11::fJ 13 7 12::lJ 14 13::cJ 15 .sub 14 1::mJ 2 15::[]) [2]) .ret)
def Qty:SC:=(.seq (.reg ( mJ 3 0::mJ 4 0::kJ 5 4::fJ 6 7 5::lJ 7 6::cJ 8 .add 7 1::kJ 9 3::fJ 10 7 9::.e none none (.sto 1 (.t 10) (.t 8))::[]) [0]) Qtx)
def Q1g:SC:=(.seq (.reg ( fI 2 (.mv (kI 0))::[]) [0]) Qty)
def Qjr:List RS:=[.tmp 2]
theorem Qz3:mFn prog Qck 1 16 Q1g Qjr=true:=by kernel_rfl
def Qfs:List Item:=.chk 37 none (.ld 1 false (.t 36))::iJ 41 2 37 38::fJ 42 0 41::.e none none (.sto 1 (.t 42) (.t 40))::[]
def Qtr:SC:=(.reg ( mJ 32 7::cJ 33 .add 32 1::mJ 7 33::[]) [0,1,2,6,7])
def Qts:SC:=(.seq (.block 1 (.dreg 10 [0,1,2,3,4,5,6,3,7,8,9] ( mJ 34 6::kJ 35 34::fJ 36 0 35::lJ 37 36::mJ 38 7::mJ 39 0::aJ 40 Qck [.t 39]::Qfs) [0,1,2,6,7])) Qtr)
def Qrd:SC:=(.seq (.seq (.reg ( mJ 25 7::mJ 26 6::kJ 27 26::fJ 28 0 27::lJ 29 28::nJ 30 29::bJ 31 .lss 25 30::[]) [0,1,2,6,7,31]) (.cond (.t 31) .skip (.exit 0))) Qts)
def Qtt:SC:=(.reg ( mJ 50 8::cJ 51 .add 50 1::mJ 8 51::[]) [0,1,2,6,8])
def Qtu:SC:=(.seq (.block 3 (.dreg 24 [0,1,2,3,4,5,6,7,8,9,10,11,12,13,14,15,16,17,18,19,20,21,22,23] ( mJ 52 2::mJ 53 0::kJ 54 53::fJ 55 0 54::fJ 56 2 55::lJ 57 56::mJ 58 1::iJ 59 5 57 58::fJ 60 0 59::lJ 61 60::mJ 62 8::iJ 63 2 61 62::fJ 64 0 63::lJ 65 64::mJ 66 6::kJ 67 66::fJ 68 0 67::lJ 69 68::mJ 70 8::iJ 71 2 69 70::fJ 72 0 71::lJ 73 72::iJ 74 1 52 65::.e none none (.sto 1 (.t 74) (.t 73))::[]) [0,1,2,6,8])) Qtt)
def Qre:SC:=(.seq (.seq (.reg ( mJ 43 8::mJ 44 6::kJ 45 44::fJ 46 0 45::lJ 47 46::nJ 48 47::bJ 49 .lss 43 48::[]) [0,1,2,6,8,49]) (.cond (.t 49) .skip (.exit 2))) Qtu)
def Qtv:SC:=(.reg ( mJ 95 10::cJ 96 .add 95 1::mJ 10 96::[]) [0,1,2,6,9,10])
def Qtw:SC:=(.seq (.block 7 (.dreg 25 [0,1,2,3,4,5,6,7,8,9,10,11,12,13,14,15,16,17,18,19,20,21,22,23,24] ( mJ 97 6::kJ 98 97::fJ 99 1 98::lJ 100 99::mJ 101 9::iJ 102 4 100 101::fJ 103 2 102::lJ 104 103::mJ 105 10::mJ 106 2::mJ 107 6::kJ 108 107::fJ 109 1 108::lJ 110 109::mJ 111 9::iJ 112 4 110 111::fJ 113 2 112::lJ 114 113::mJ 115 10::iJ 116 1 114 115::lJ 117 116::iJ 118 1 106 117::lJ 119 118::iJ 120 1 104 105::.e none none (.sto 1 (.t 120) (.t 119))::[]) [0,1,2,6,9,10])) Qtv)
def Qrf:SC:=(.seq (.seq (.reg ( mJ 84 10::mJ 85 6::kJ 86 85::fJ 87 1 86::lJ 88 87::mJ 89 9::iJ 90 4 88 89::fJ 91 2 90::lJ 92 91::nJ 93 92::bJ 94 .lss 84 93::[]) [0,1,2,6,9,10,94]) (.cond (.t 94) .skip (.exit 6))) Qtw)
def Qei:List Item:=mJ 11 131::[]
def Qqx:SC:=(.reg ( mJ 143 6::kJ 144 143::fJ 145 1 144::lJ 146 145::mJ 147 9::mJ 148 11::iJ 149 4 146 147::fJ 150 1 149::.e none none (.sto 1 (.t 150) (.t 148))::[]) [0,1,2,6,9])
def Qqy:SC:=(.seq (.reg ( mJ 132 2::mJ 133 6::kJ 134 133::fJ 135 1 134::lJ 136 135::mJ 137 9::iJ 138 4 136 137::fJ 139 1 138::lJ 140 139::mJ 141 11::iJ 142 1 132 140::.e none none (.sto 1 (.t 142) (.t 141))::[]) [0,1,2,6,9,11]) Qqx)
def Qqz:SC:=(.cond (.t 129) (.seq (.reg ( mJ 130 0::aJ 131 Qck [.t 130]::Qei) [0,1,2,6,9,11]) Qqy) .skip)
def Qq0:SC:=(.seq (.reg ( mJ 121 6::kJ 122 121::fJ 123 1 122::lJ 124 123::mJ 125 9::iJ 126 4 124 125::fJ 127 0 126::lJ 128 127::aJ 129 Qds [.t 128]::[]) [0,1,2,6,9,129]) Qqz)
def Qq1:SC:=(.reg ( mJ 82 9::cJ 83 .add 82 1::mJ 9 83::[]) [0,1,2,6,9])
def Qq2:SC:=(.seq (.block 5 (.seq (.seq (.reg ( fI 10 (.mv (kI 0))::[]) [0,1,2,6,9,10]) (.block 6 (.loop Qrf))) Qq0)) Qq1)
def Qoi:SC:=(.seq (.seq (.reg ( mJ 75 9::mJ 76 6::kJ 77 76::fJ 78 1 77::lJ 79 78::nJ 80 79::bJ 81 .lss 75 80::[]) [0,1,2,6,9,81]) (.cond (.t 81) .skip (.exit 4))) Qq2)
def Qq3:SC:=(.cond (.t 155) (.reg ( mJ 156 6::mJ 157 2::mJ 158 6::kJ 159 158::fJ 160 3 159::lJ 161 160::iJ 162 1 157 161::lJ 163 162::kJ 164 156::fJ 165 3 164::.e none none (.sto 1 (.t 165) (.t 163))::[]) [0,1,2,6]) .skip)
def Qej:List Item:=mJ 14 189::[]
def Qek:List Item:=mJ 188 1::aJ 189 Qnx [.t 187,.t 188]::Qej
def Qq4:SC:=(.reg ( mJ 202 15::cJ 203 .add 202 1::mJ 15 203::[]) [0,1,2,6,12,13,14,15])
def Qq5:SC:=(.seq (.block 11 (.dreg 35 [0,1,2,3,4,5,6,7,8,9,10,11,12,13,14,15,16,17,18,19,20,21,22,23,24,25,26,27,28,29,30,31,32,33,34] ( mJ 204 0::kJ 205 204::fJ 206 3 205::fJ 207 2 206::lJ 208 207::mJ 209 13::iJ 210 5 208 209::fJ 211 0 210::lJ 212 211::mJ 213 15::iJ 214 2 212 213::fJ 215 1 214::lJ 216 215::mJ 217 14::mJ 218 2::mJ 219 0::kJ 220 219::fJ 221 0 220::fJ 222 2 221::lJ 223 222::mJ 224 13::iJ 225 5 223 224::fJ 226 0 225::lJ 227 226::mJ 228 15::iJ 229 2 227 228::fJ 230 1 229::lJ 231 230::mJ 232 14::iJ 233 1 231 232::lJ 234 233::iJ 235 1 218 234::lJ 236 235::iJ 237 1 216 217::.e none none (.sto 1 (.t 237) (.t 236))::[]) [0,1,2,6,12,13,14,15])) Qq4)
def Qoj:SC:=(.seq (.seq (.reg ( mJ 190 15::mJ 191 0::kJ 192 191::fJ 193 0 192::fJ 194 2 193::lJ 195 194::mJ 196 13::iJ 197 5 195 196::fJ 198 0 197::lJ 199 198::nJ 200 199::bJ 201 .lss 190 200::[]) [0,1,2,6,12,13,14,15,201]) (.cond (.t 201) .skip (.exit 10))) Qq5)
def Qq6:SC:=(.seq (.reg ( fI 15 (.mv (kI 0))::[]) [0,1,2,6,12,13,14,15]) (.block 10 (.loop Qoj)))
def Qq7:SC:=(.seq (.reg ( mJ 182 0::kJ 183 182::fJ 184 0 183::tJ 185 3 184::mJ 186 13::aJ 187 Qb9 [.t 185,.t 186]::Qek) [0,1,2,6,12,13,14]) Qq6)
def Qq8:SC:=(.reg ( mJ 173 12::cJ 174 .add 173 1::mJ 12 174::[]) [0,1,2,6,12])
def Qq9:SC:=(.seq (.block 9 (.seq (.reg ( mJ 175 6::kJ 176 175::fJ 177 4 176::lJ 178 177::mJ 179 12::iJ 180 1 178 179::lJ 181 180::mJ 13 181::[]) [0,1,2,6,12,13]) Qq7)) Qq8)
def Qok:SC:=(.seq (.seq (.reg ( mJ 166 12::mJ 167 6::kJ 168 167::fJ 169 4 168::lJ 170 169::nJ 171 170::bJ 172 .lss 166 171::[]) [0,1,2,6,12,172]) (.cond (.t 172) .skip (.exit 8))) Qq9)
def Qel:List Item:=mJ 16 243::[]
def Qem:List Item:=.chk 253 none (.iad 1 (.t 251) (.t 252))::.chk 254 none (.ld 1 false (.t 253))::aJ 258 Qcj [.t 250,.t 254,.t 257]::[]
def Qra:SC:=(.reg ( mJ 248 17::cJ 249 .add 248 1::mJ 17 249::[]) [0,2,16,17])
def Qrb:SC:=(.seq (.block 13 (.dreg 9 [0,1,2,3,4,5,6,7,3,4,8] ( mJ 250 0::mJ 251 16::mJ 252 17::iJ 253 1 251 252::lJ 254 253::fI 255 (.bsl 1 [])::mJ 256 2::eI 257 (.app 1 (.t 255) (.t 256))::Qem) [0,2,16,17])) Qra)
def Qol:SC:=(.seq (.seq (.reg ( mJ 244 17::mJ 245 16::nJ 246 245::bJ 247 .lss 244 246::[]) [0,2,16,17,247]) (.cond (.t 247) .skip (.exit 12))) Qrb)
def Qrc:SC:=(.seq (.reg ( fI 17 (.mv (kI 0))::[]) [0,2,16,17]) (.block 12 (.loop Qol)))
def Qfq:SC:=(.seq (.reg ( mJ 238 0::kJ 239 238::fJ 240 6 239::lJ 241 240::mJ 242 1::aJ 243 Qu3 [.t 241,.t 242]::Qel) [0,2,16]) Qrc)
def Qc3:SC:=(.seq (.seq (.reg ( fI 12 (.mv (kI 0))::[]) [0,1,2,6,12]) (.block 8 (.loop Qok))) Qfq)
def Qc4:SC:=(.seq (.seq (.reg ( mJ 151 6::kJ 152 151::fJ 153 2 152::lJ 154 153::cJ 155 .neq 154 1::[]) [0,1,2,6,155]) Qq3) Qc3)
def Qc5:SC:=(.seq (.seq (.reg ( fI 9 (.mv (kI 0))::[]) [0,1,2,6,9]) (.block 4 (.loop Qoi))) Qc4)
def Qc6:SC:=(.seq (.seq (.reg ( fI 8 (.mv (kI 0))::[]) [0,1,2,6,8]) (.block 2 (.loop Qre))) Qc5)
def Qfr:SC:=(.seq (.seq (.reg ( fI 7 (.mv (kI 0))::[]) [0,1,2,6,7]) (.block 0 (.loop Qrd))) Qc6)
def Q1f:SC:=(.seq (.reg ( mJ 18 0::kJ 19 18::fJ 20 3 19::fJ 21 2 20::lJ 22 21::mJ 23 1::iJ 24 5 22 23::mJ 6 24::[]) [0,1,2,6]) Qfr)
def Qjq:List RS:=[]
theorem Qz2:mFn prog Qcj 3 259 Q1f Qjq=true:=by kernel_rfl
def Qpm:List Item:=.e none none (.sto 3 (.t 3) (.t 9))::[]
def Qpn:List Item:=eI 3 (.alloc [.int .i64 0,.int .i64 0,.sl true 5 []])::Qpm
def Qpo:List Item:=aJ 9 Qu7 [.t 8]::Qpn
def Qpp:List Item:=mJ 4 19::[]
def Qpq:List Item:=.chk 10 none (.ld 3 true (.t 3))::.chk 17 none (.ld 1 false (.t 16))::fI 18 (.bld [.int .i64 0,.int .i64 0,.sl true 5 [],.int .i64 0,.int .i64 0,.sl true 5 [],.sl true 1 [],.int .i64 0] [(0,3,.t 10),(3,3,.t 12),(6,1,.t 15),(7,1,.t 17)])::eI 19 (.boxm (.t 18))::Qpp
def Qpr:List Item:=.chk 10 none (.ld 3 true (.t 3))::.chk 17 none (.ld 1 false (.t 16))::aJ 15 Qqg [.t 14]::Qpq
def Qps:List Item:=.chk 10 none (.ld 3 true (.t 3))::.chk 13 none (.ld 3 true (.t 3))::.chk 17 none (.ld 1 false (.t 16))::aJ 14 Qn2 [.t 13]::Qpr
def Qpt:List Item:=mJ 5 22::[]
def Qaie:SC:=(.reg ( mJ 27 6::cJ 28 .add 27 1::mJ 6 28::[]) [1,2,4,5,6])
def Qaif:SC:=(.seq (.block 1 (.reg ( mJ 29 5::mJ 30 6::mJ 31 6::iJ 32 1 29 30::.e none none (.sto 1 (.t 32) (.t 31))::[]) [1,2,4,5,6])) Qaie)
def Q5m:SC:=(.seq (.seq (.reg ( mJ 23 6::fJ 24 0 1::lJ 25 24::bJ 26 .lss 23 25::[]) [1,2,4,5,6,26]) (.cond (.t 26) .skip (.exit 0))) Qaif)
def Qabw:SC:=(.seq (.reg ( mJ 44 4::kJ 45 44::fJ 46 3 45::tJ 47 3 46::.e none none (.sto 3 (.t 2) (.t 47))::[]) [2]) .ret)
def Qabx:SC:=(.seq (.reg ( mJ 36 4::mJ 37 4::kJ 38 37::fJ 39 7 38::lJ 40 39::kJ 41 36::fJ 42 3 41::fJ 43 1 42::.e none none (.sto 1 (.t 43) (.t 40))::[]) [2,4]) Qabw)
def Qaby:SC:=(.seq (.reg ( mJ 33 4::mJ 34 5::aJ 35 Qcj [.t 33,kI 0,.t 34]::[]) [2,4]) Qabx)
def Qabz:SC:=(.seq (.seq (.reg ( fI 6 (.mv (kI 0))::[]) [1,2,4,5,6]) (.block 0 (.loop Q5m))) Qaby)
def Qab0:SC:=(.seq (.reg ( fJ 20 1 3::lJ 21 20::eI 22 (.mks 1 [.int .i64 0] (.t 21))::Qpt) [1,2,4,5]) Qabz)
def Qab1:SC:=(.seq (.dreg 11 [0,1,3,6,7,2,0,3,7,4,0,7,5,0,7,8,9,10] ( tJ 10 3 3::tJ 11 3 3::tJ 13 3 3::fJ 16 0 1::lJ 17 16::aJ 12 Qhe [.t 11]::Qps) [1,2,3,4]) Qab0)
def Qab2:SC:=(.seq (.reg ( tJ 7 3 1::aJ 8 Qqh [.t 7]::Qpo) [1,2,3]) Qab1)
def Qau8:SC:=(.seq (.reg ( fI 1 (.box (.t 0))::eI 2 (.alloc [.int .i64 0,.int .i64 0,.sl true 5 []])::[]) [1,2]) Qab2)
def Q4k:List RS:=[.cell 2 3 true]
theorem Qass:mFn prog Qlq 1 48 Qau8 Q4k=true:=by kernel_rfl
def Qam5:List Item:=.e none none (.sto 3 (.t 4) (.t 9))::[]
def Qam6:List Item:=.e none none (.sto 3 (.t 4) (.t 15))::[]
def Qam7:List Item:=.chk 12 none (.ld 3 true (.t 2))::aJ 15 Qn0 [.t 12,.t 14]::Qam6
def Qam8:List Item:=.e none none (.sto 3 (.t 4) (.t 19))::[]
def Qam9:List Item:=.e none none (.sto 3 (.t 4) (.t 23))::[]
def Qxo:List Item:=.e none none (.sto 3 (.t 4) (.t 27))::[]
def Qana:List Item:=.e none none (.sto 3 (.t 4) (.t 31))::[]
def Qanb:List Item:=.e none none (.sto 3 (.t 4) (.t 35))::[]
def Qanc:List Item:=.e none none (.sto 3 (.t 4) (.t 39))::[]
def Qand:List Item:=.e none none (.sto 3 (.t 4) (.t 43))::[]
def Qag9:List Item:=.e none none (.sto 3 (.t 4) (.t 47))::[]
def Qaha:List Item:=.e none none (.sto 3 (.t 4) (.t 51))::[]
def Qamr:SC:=(.cond (.t 48) (.seq (.reg ( tJ 50 3 2::aJ 51 Qa0x [.t 50]::Qaha) [4]) .ret) .skip)
def Qams:SC:=(.cond (.t 44) (.seq (.reg ( tJ 46 3 2::aJ 47 Qa0y [.t 46]::Qag9) [4]) .ret) (.seq (.reg ( fI 49 (.bin 0 .eql (.t 5) (.k (.c (.str [106,111,105,110]))))::mJ 48 49::[]) [2,4,48]) Qamr))
def Qamt:SC:=(.cond (.t 40) (.seq (.reg ( tJ 42 3 2::aJ 43 Qa0w [.t 42]::Qand) [4]) .ret) (.seq (.reg ( fI 45 (.bin 0 .eql (.t 5) (.k (.c (.str [115,107,105,112]))))::mJ 44 45::[]) [2,4,5,44]) Qams))
def Qamu:SC:=(.cond (.t 36) (.seq (.reg ( tJ 38 3 2::aJ 39 Qar6 [.t 38]::Qanc) [4]) .ret) (.seq (.reg ( fI 41 (.bin 0 .eql (.t 5) (.k (.c (.str [101,118,101,110]))))::mJ 40 41::[]) [2,4,5,40]) Qamt))
def Qamv:SC:=(.cond (.t 32) (.seq (.reg ( tJ 34 3 2::aJ 35 Qar5 [.t 34]::Qanb) [4]) .ret) (.seq (.reg ( fI 37 (.bin 0 .eql (.t 5) (.k (.c (.str [104,111,105,115,116]))))::mJ 36 37::[]) [2,4,5,36]) Qamu))
def Qamw:SC:=(.cond (.t 28) (.seq (.reg ( tJ 30 3 2::aJ 31 Qa4t [.t 30]::Qana) [4]) .ret) (.seq (.reg ( fI 33 (.bin 0 .eql (.t 5) (.k (.c (.str [115,104,97,114,101]))))::mJ 32 33::[]) [2,4,5,32]) Qamv))
def Qamx:SC:=(.cond (.t 24) (.seq (.reg ( tJ 26 3 2::aJ 27 Qlq [.t 26]::Qxo) [4]) .ret) (.seq (.reg ( fI 29 (.bin 0 .eql (.t 5) (.k (.c (.str [107,110,111,119,110]))))::mJ 28 29::[]) [2,4,5,28]) Qamw))
def Qamy:SC:=(.cond (.t 20) (.seq (.reg ( tJ 22 3 2::aJ 23 Qa0v [.t 22]::Qam9) [4]) .ret) (.seq (.reg ( fI 25 (.bin 0 .eql (.t 5) (.k (.c (.str [115,105,110,103,108,101]))))::mJ 24 25::[]) [2,4,5,24]) Qamx))
def Qamz:SC:=(.cond (.t 16) (.seq (.reg ( tJ 18 3 2::aJ 19 Qar4 [.t 18]::Qam8) [4]) .ret) (.seq (.reg ( fI 21 (.bin 0 .eql (.t 5) (.k (.c (.str [105,100,108,101]))))::mJ 20 21::[]) [2,4,5,20]) Qamy))
def Qam0:SC:=(.cond (.t 10) (.seq (.dreg 5 [0,1,2,0,3,4] ( tJ 12 3 2::tJ 13 3 2::aJ 14 Qix [.t 13]::Qam7) [4]) .ret) (.seq (.reg ( fI 17 (.bin 0 .eql (.t 5) (.k (.c (.str [115,112,108,105,116]))))::mJ 16 17::[]) [2,4,5,16]) Qamz))
def Qam1:SC:=(.cond (.t 6) (.seq (.reg ( tJ 8 3 2::aJ 9 Qnz [.t 8]::Qam5) [4]) .ret) (.seq (.reg ( fI 11 (.bin 0 .eql (.t 5) (.k (.c (.str [111,114,100,101,114]))))::mJ 10 11::[]) [2,4,5,10]) Qam0))
def Qam2:SC:=(.block 0 (.seq (.reg ( fI 7 (.bin 0 .eql (.t 5) (.k (.c (.str [114,101,97,99,104]))))::mJ 6 7::[]) [2,4,5,6]) Qam1))
def Qahb:List Item:=.e none none (.sto 3 (.t 4) (.t 53))::[]
def Qam3:SC:=(.seq (.reg ( tJ 52 3 2::aJ 53 Qar7 [.t 52]::Qahb) [4]) .ret)
def Qam4:SC:=(.seq (.seq (.reg ( mJ 5 1::[]) [2,4,5]) Qam2) Qam3)
def Qa7a:SC:=(.seq (.reg ( fI 2 (.box (.t 0))::eI 4 (.alloc [.int .i64 0,.int .i64 0,.sl true 5 []])::[]) [1,2,4]) Qam4)
def Qak5:List RS:=[.cell 4 3 true]
theorem Qa5x:mFn prog Qu2 2 54 Qa7a Qak5=true:=by kernel_rfl
def Qxb:List Item:=fI 5 (.mv (.k (.c (.bool false))))::[]
def Qxc:List Item:=oJ 10 9::[]
def Qxd:List Item:=fI 5 (.mv (.k (.c (.bool false))))::[]
def Qatq:SC:=(.cond (.t 10) (.seq (.reg ( fI 11 (.bld [.sl true 3 []] [])::.e none none (.sto 1 (.t 4) (.t 11))::Qxd) [4,5]) .ret) .skip)
def Qxe:List Item:=.e none none (.sto 1 (.t 6) (.t 12))::[]
def Qxf:List Item:=fJ 31 0 6::.e none none (.sto 1 (.t 31) (.t 30))::[]
def Qxg:List Item:=.chk 21 none (.ld 1 false (.t 20))::fI 29 (.bsl 3 [.t 28])::eI 30 (.app 3 (.t 21) (.t 29))::Qxf
def Qatr:SC:=(.reg ( mJ 18 7::cJ 19 .add 18 1::mJ 7 19::[]) [1,2,4,6,7])
def Qats:SC:=(.seq (.block 1 (.dreg 13 [0,1,2,3,4,5,6,7,8,1,9,10,11,12] ( fJ 20 0 6::lJ 21 20::fJ 22 0 2::lJ 23 22::mJ 24 7::iJ 25 3 23 24::tJ 26 3 25::mJ 27 1::aJ 28 Qu2 [.t 26,.t 27]::Qxg) [1,2,4,6,7])) Qatr)
def Qalu:SC:=(.seq (.seq (.reg ( mJ 13 7::fJ 14 0 2::lJ 15 14::nJ 16 15::bJ 17 .lss 13 16::[]) [1,2,4,6,7,17]) (.cond (.t 17) .skip (.exit 0))) Qats)
def Qs5:List Item:=oJ 34 33::[]
def Qs6:List Item:=fI 5 (.mv (.k (.c (.bool false))))::[]
def Qalo:SC:=(.cond (.t 34) (.seq (.reg ( fI 35 (.bld [.sl true 3 []] [])::.e none none (.sto 1 (.t 4) (.t 35))::Qs6) [4,5]) .ret) .skip)
def Qs7:List Item:=fI 5 (.mv (.k (.c (.bool true))))::[]
def Qalp:SC:=(.seq (.reg ( tJ 36 1 6::.e none none (.sto 1 (.t 4) (.t 36))::Qs7) [4,5]) .ret)
def Qalq:SC:=(.seq .gh (.seq (.seq (.reg ( tJ 32 1 6::aJ 33 Qbk [.t 32]::Qs5) [4,6,34]) Qalo) Qalp))
def Qalr:SC:=(.seq (.seq (.reg ( fI 7 (.mv (kI 0))::[]) [1,2,4,6,7]) (.block 0 (.loop Qalu))) Qalq)
def Qals:SC:=(.seq (.reg ( fI 12 (.bld [.sl true 3 []] [])::eI 6 (.alloc [.sl true 3 []])::Qxe) [1,2,4,6]) Qalr)
def Qalt:SC:=(.seq (.seq (.reg ( tJ 8 1 2::aJ 9 Qbk [.t 8]::Qxc) [1,2,4,10]) Qatq) Qals)
def Qa67:SC:=(.seq (.reg ( fI 2 (.box (.t 0))::eI 4 (.alloc [.sl true 3 []])::Qxb) [1,2,4]) Qalt)
def Qsj:List RS:=[.cell 4 1 true,.tmp 5]
theorem Qa5u:mFn prog Qu0 2 37 Qa67 Qsj=true:=by kernel_rfl
def Qgj:List Item:=fI 3 (.mv (.k (.c (.bool false))))::[]
def Qgk:List Item:=mJ 3 7::[]
def Qgl:List Item:=fI 6 (.ext (.t 5) 0)::fI 7 (.ext (.t 5) 1)::.e none none (.sto 1 (.t 2) (.t 6))::Qgk
def Qwg:SC:=(.seq (.reg ( tJ 4 1 1::eI 5 (.call Qu0 [.t 4,.k (.c (.str [115,105,110,103,108,101]))])::Qgl) [2,3]) .ret)
def Q91:SC:=(.seq (.reg ( fI 1 (.box (.t 0))::eI 2 (.alloc [.sl true 3 []])::Qgj) [1,2]) Qwg)
def Ql5:List RS:=[.cell 2 1 true,.tmp 3]
theorem Q3z:mFn prog Qef 1 8 Q91 Ql5=true:=by kernel_rfl
def Qyb:List Item:=mJ 4 10::[]
def Qyc:List Item:=.e none none (.sto 1 (.t 3) (.t 9))::Qyb
def Qyd:List Item:=mJ 5 8::fI 9 (.ext (.t 5) 0)::fI 10 (.ext (.t 5) 1)::eI 3 (.alloc [.sl true 3 []])::Qyc
def Qye:List Item:=aJ 8 Qef [.t 7]::Qyd
def Qauw:SC:=(.cond (.t 12) (.seq (.reg ( fI 13 (.bsl 1 [])::fI 14 (.bld [.int .i64 0,.int .i64 0,.sl true 1 [],.int .i64 0] [(0,1,kI 1),(2,1,.t 13)])::fI 15 (.bsl 4 [.t 14])::fI 16 (.bld [.sl true 2 [],.sl true 4 [],.int .i64 0,.int .i64 0,.sl true 1 []] [(1,1,.t 15),(2,1,kI 3)])::fI 17 (.bsl 5 [.t 16])::fI 18 (.bld [.int .i64 0,.int .i64 0,.sl true 5 []] [(1,1,kI 1),(2,1,.t 17)])::fI 19 (.bsl 3 [.t 18])::fI 20 (.bld [.sl true 3 []] [(0,1,.t 19)])::.e none none (.sto 1 (.t 2) (.t 20))::[]) [2]) .ret) .skip)
def Qaux:SC:=(.seq (.reg ( tJ 21 1 3::.e none none (.sto 1 (.t 2) (.t 21))::[]) [2]) .ret)
def Qauy:SC:=(.seq (.seq (.reg ( mJ 11 4::oJ 12 11::[]) [2,3,12]) Qauw) Qaux)
def Qauz:SC:=(.seq (.reg ( mJ 6 0::aJ 7 Qn1 [.t 6]::Qye) [2,3,4]) Qauy)
def Qa7h:SC:=(.seq (.reg ( eI 2 (.alloc [.sl true 3 []])::[]) [0,2]) Qauz)
def Q4j:List RS:=[.cell 2 1 true]
theorem Qa54:mFn prog Qu6 1 22 Qa7h Q4j=true:=by kernel_rfl
def Qx8:List Item:=cJ 5 .eql 4 0::[]
def Qx9:List Item:=.e none none (.sto 1 (.t 2) (.t 7))::[]
def Qaut:SC:=(.cond (.t 5) (.seq (.reg ( mJ 6 0::aJ 7 Qny [.t 6]::Qx9) [2]) .ret) .skip)
def Qya:List Item:=.e none none (.sto 1 (.t 2) (.t 9))::[]
def Qauu:SC:=(.seq (.reg ( mJ 8 0::aJ 9 Qu6 [.t 8]::Qya) [2]) .ret)
def Qauv:SC:=(.seq (.seq (.reg ( mJ 3 0::aJ 4 Ql [.t 3,kI 8]::Qx8) [0,2,5]) Qaut) Qauu)
def Qa7g:SC:=(.seq (.reg ( eI 2 (.alloc [.sl true 3 []])::[]) [0,2]) Qauv)
def Q4i:List RS:=[.cell 2 1 true]
theorem Qa53:mFn prog Qu5 1 10 Qa7g Q4i=true:=by kernel_rfl
def Qt5:List Item:=fI 3 (.mv (kI 0))::fI 4 (.mv (kI 0))::[]
def Qt6:List Item:=mJ 5 10::[]
def Qt7:List Item:=.e none none (.sto 1 (.t 6) (.t 12))::[]
def Qt8:List Item:=eI 6 (.alloc [.sl true 3 []])::Qt7
def Qt9:List Item:=cJ 15 .eql 14 0::[]
def Qua:List Item:=.e none none (.sto 1 (.t 6) (.t 17))::[]
def Qapi:SC:=(.cond (.t 15) (.reg ( mJ 16 5::aJ 17 Qny [.t 16]::Qua) [2,5,6]) .skip)
def Qub:List Item:=mJ 7 27::[]
def Quc:List Item:=mJ 3 38::mJ 4 50::[]
def Qud:List Item:=.chk 37 none (.ld 1 true (.t 6))::.e none none (.sto 1 (.t 2) (.t 37))::Quc
def Qpk:List Item:=.chk 37 none (.ld 1 true (.t 6))::fI 49 (.bsl 1 [.t 43,kI 0,.t 47,kI (-1),.t 48])::aJ 50 Q6 [.t 39,.t 49]::Qud
def Qpl:List Item:=.chk 37 none (.ld 1 true (.t 6))::aJ 47 Ql [.t 44,.t 46]::Qpk
def Qah6:SC:=(.seq (.dreg 17 [0,1,2,3,4,5,7,8,9,11,6,0,10,0,12,13,0,14,15,16] ( tJ 37 1 6::mJ 38 7::mJ 39 5::mJ 40 5::mJ 41 8::fI 42 (.mx (.t 41) (kI 1))::mJ 44 5::mJ 45 8::fI 46 (.mx (.t 45) (kI 1))::mJ 48 8::aJ 43 Ql [.t 40,.t 42]::Qpl) [2,3,4]) .ret)
def Qah7:SC:=(.seq (.reg ( fJ 28 0 6::lJ 29 28::fJ 30 0 6::lJ 31 30::nJ 32 31::cJ 33 .sub 32 1::iJ 34 3 29 33::fJ 35 1 34::lJ 36 35::mJ 8 36::[]) [2,5,6,7,8]) Qah6)
def Qah8:SC:=(.seq (.reg ( mJ 18 5::fJ 19 0 6::lJ 20 19::nJ 21 20::cJ 22 .sub 21 1::fJ 23 0 6::lJ 24 23::nJ 25 24::fI 26 (.bsl 1 [.t 22,kI 0,kI (-1),.t 25,kI 0])::aJ 27 Q6 [.t 18,.t 26]::Qub) [2,5,6,7]) Qah7)
def Qah9:SC:=(.seq (.seq (.reg ( mJ 13 5::aJ 14 Ql [.t 13,kI 3]::Qt9) [2,5,6,15]) Qapi) Qah8)
def Qaia:SC:=(.seq (.reg ( mJ 11 5::aJ 12 Qu5 [.t 11]::Qt8) [2,5,6]) Qah9)
def Qaib:SC:=(.seq (.reg ( mJ 9 0::aJ 10 Qva [.t 9]::Qt6) [2,5]) Qaia)
def Qa19:SC:=(.seq (.reg ( eI 2 (.alloc [.sl true 3 []])::Qt5) [0,2]) Qaib)
def Qaeb:List RS:=[.cell 2 1 true,.tmp 3,.tmp 4]
theorem Qa1i:mFn prog Qqi 1 51 Qa19 Qaeb=true:=by kernel_rfl
def Qeo:List Item:=fI 3 (.mv (kI 0))::fI 4 (.mv (kI 0))::[]
def Qep:List Item:=mJ 3 8::mJ 4 9::[]
def Qeq:List Item:=fI 7 (.ext (.t 6) 0)::fI 8 (.ext (.t 6) 1)::fI 9 (.ext (.t 6) 2)::.e none none (.sto 1 (.t 2) (.t 7))::Qep
def Qrp:SC:=(.seq (.reg ( mJ 5 0::aJ 6 Qqi [.t 5]::Qeq) [2,3,4]) .ret)
def Qwe:SC:=(.seq (.reg ( eI 2 (.alloc [.sl true 3 []])::Qeo) [0,2]) Qrp)
def Qhq:List RS:=[.cell 2 1 true,.tmp 3,.tmp 4]
theorem Qvi:mFn prog Qdg 1 10 Qwe Qhq=true:=by kernel_rfl
def Q9s:SC:=(.cond (.t 13) (.seq (.reg ( fI 2 (.mv (.k (.c (.bool true))))::[]) [2]) .ret) .skip)
def Qk4:List Item:=mJ 4 18::mJ 5 19::[]
def Qk5:List Item:=.e none none (.sto 1 (.t 3) (.t 17))::Qk4
def Qk6:List Item:=mJ 14 16::fI 17 (.ext (.t 14) 0)::fI 18 (.ext (.t 14) 1)::fI 19 (.ext (.t 14) 2)::eI 3 (.alloc [.sl true 3 []])::Qk5
def Qk7:List Item:=mJ 6 23::[]
def Qk8:List Item:=mJ 7 27::[]
def Q9t:SC:=(.cond (.t 32) (.seq (.reg ( fI 2 (.mv (.k (.c (.bool false))))::[]) [2]) .ret) .skip)
def Qbo:List Item:=oJ 46 45::mJ 47 46::gFm 48 47 8::gF 49 47 (.bin 0 .gtr (.t 48) (kI 0))::gFm 50 47 49::gTm 51 50 6::gTm 52 50 8::gT 53 50 (.bin 0 .sub (.t 52) (kI 1))::gT 54 50 (.iad 1 (.t 51) (.t 53))::gTl 55 50 54::gT 56 50 (.iad 1 (.t 55) (kI 0))::gTl 57 50 56::gTm 58 50 9::gT 59 50 (.iad 1 (.t 58) (kI 0))::gTl 60 50 59::gT 61 50 (.bin 0 .gtr (.t 57) (.t 60))::gTm 62 50 61::gFm 63 62 6::gFm 64 62 8::gF 65 62 (.bin 0 .sub (.t 64) (kI 1))::gF 66 62 (.iad 1 (.t 63) (.t 65))::gFl 67 62 66::gF 68 62 (.iad 1 (.t 67) (kI 0))::gFl 69 62 68::gFm 70 62 9::gF 71 62 (.iad 1 (.t 70) (kI 0))::gFl 72 62 71::gF 73 62 (.bin 0 .eql (.t 69) (.t 72))::gFm 74 62 73::gTm 75 74 6::gTm 76 74 8::gT 77 74 (.bin 0 .sub (.t 76) (kI 1))::gT 78 74 (.iad 1 (.t 75) (.t 77))::gTl 79 74 78::gT 80 74 (.iad 1 (.t 79) (kI 1))::gTl 81 74 80::gTm 82 74 9::gT 83 74 (.iad 1 (.t 82) (kI 1))::gTl 84 74 83::gT 85 74 (.bin 0 .gtr (.t 81) (.t 84))::gF 86 62 (.pick (.t 74) (.t 85) (.k (.c (.bool false))))::gT 87 50 (.pick (.t 62) (.k (.c (.bool true))) (.t 86))::gF 88 47 (.pick (.t 50) (.t 87) (.k (.c (.bool false))))::fI 89 (.pick (.t 47) (.k (.c (.bool true))) (.t 88))::[]
def Q9u:SC:=(.cond (.t 89) (.seq (.reg ( fI 2 (.mv (.k (.c (.bool false))))::[]) [2]) .ret) .skip)
def Qk9:List Item:=.chk 91 none (.ld 1 false (.t 90))::.chk 93 none (.iad 3 (.t 91) (.t 92))::.chk 95 none (.ld 1 false (.t 94))::.chk 97 none (.iad 1 (.t 96) (kI 0))::.chk 98 none (.ld 1 false (.t 97))::.chk 99 none (.iad 5 (.t 95) (.t 98))::.chk 100 none (.ld 5 true (.t 99))::.e none none (.sto 5 (.t 10) (.t 100))::[]
def Qie:List Item:=gT 115 105 (.bin 0 .neq (.t 113) (.t 114))::fI 116 (.pick (.t 105) (.t 115) (.k (.c (.bool false))))::[]
def Q1u:SC:=(.cond (.t 116) (.seq (.reg ( fI 2 (.mv (.k (.c (.bool false))))::[]) [2]) .ret) .skip)
def Q1v:SC:=(.seq (.dreg 16 [0,1,2,3,4,5,6,7,8,9,10,11,13,12,14,15] ( mJ 101 9::fI 102 (.iad 1 (.t 101) (kI 1))::lJ 103 102::cJ 104 .geq 103 0::mJ 105 104::gTf 106 105 1 10::gTl 107 105 106::gTm 108 105 9::gT 109 105 (.iad 1 (.t 108) (kI 1))::gTl 110 105 109::gT 111 105 (.iad 4 (.t 107) (.t 110))::gT 112 105 (.ld 4 true (.t 111))::gTm 114 105 5::.e (some 113) (some (105,true)) (.call Qf3 [.t 112])::Qie) [3,4,5,6,7,33,34,35,116]) Q1u)
def Q1w:SC:=(.seq (.dreg 13 [0,1,2,3,4,5,6,7,8,9,10,11,1,3,5,7,8,9,10,12] ( fJ 90 0 3::lJ 91 90::mJ 92 4::iJ 93 3 91 92::fJ 94 2 93::lJ 95 94::mJ 96 9::fI 97 (.iad 1 (.t 96) (kI 0))::lJ 98 97::iJ 99 5 95 98::tJ 100 5 99::eI 10 (.alloc [.sl true 2 [],.sl true 4 [],.int .i64 0,.int .i64 0,.sl true 1 []])::Qk9) [3,4,5,6,7,9,10,33,34,35]) Q1v)
def Q1x:SC:=(.seq (.seq (.dreg 50 [0,1,2,3,4,5,6,7,8,9,10,11,12,13,14,15,16,17,18,19,20,21,22,23,24,25,26,27,28,29,30,31,32,33,34,35,36,37,38,39,40,41,42,43,44,45,46,47,48,49] ( mJ 40 9::mJ 41 7::mJ 42 8::iJ 43 1 41 42::lJ 44 43::aJ 45 Qlu [.t 40,.t 44]::Qbo) [3,4,5,6,7,9,33,34,35,89]) Q9u) Q1w)
def Q1y:SC:=(.reg ( cJ 117 .add 35 1::mJ 35 117::[]) [3,4,5,6,7,33,34,35])
def Q1z:SC:=(.seq (.block 1 (.seq (.reg ( mJ 37 35::iJ 38 1 33 35::lJ 39 38::mJ 8 37::mJ 9 39::[]) [3,4,5,6,7,8,9,33,34,35]) Q1x)) Q1y)
def Qwb:SC:=(.seq (.reg ( bJ 36 .lss 35 34::[]) [3,4,5,6,7,33,34,35,36]) (.seq (.cond (.t 36) .skip (.exit 0)) Q1z))
def Q10:SC:=(.seq (.reg ( fI 2 (.mv (.k (.c (.bool true))))::[]) [2]) .ret)
def Q11:SC:=(.seq (.seq (.reg ( mJ 33 6::nJ 34 33::fI 35 (.mv (kI 0))::[]) [3,4,5,6,7,33,34,35]) (.block 0 (.loop Qwb))) Q10)
def Q12:SC:=(.seq (.seq (.reg ( mJ 28 6::nJ 29 28::mJ 30 7::nJ 31 30::bJ 32 .neq 29 31::[]) [3,4,5,6,7,32]) Q9t) Q11)
def Q13:SC:=(.seq (.reg ( tJ 24 1 3::mJ 25 4::mJ 26 5::aJ 27 Qgw [.t 24,.t 25,.t 26]::Qk8) [3,4,5,6,7]) Q12)
def Q14:SC:=(.seq (.reg ( tJ 20 1 3::mJ 21 4::mJ 22 5::aJ 23 Qgp [.t 20,.t 21,.t 22]::Qk7) [3,4,5,6]) Q13)
def Q15:SC:=(.seq (.reg ( mJ 15 0::aJ 16 Qdg [.t 15]::Qk6) [3,4,5]) Q14)
def Q16:SC:=(.seq (.seq (.reg ( mJ 11 0::nJ 12 11::cJ 13 .gtr 12 1048576::[]) [0,13]) Q9s) Q15)
def Qai8:SC:=(.seq (.reg ( fI 2 (.mv (.k (.c (.bool false))))::[]) [0]) Q16)
def Qi8:List RS:=[.tmp 2]
theorem Qafy:mFn prog Qov 1 118 Qai8 Qi8=true:=by kernel_rfl
def Qjs:List Item:=oJ 11 10::[]
def Q4y:SC:=(.cond (.t 11) (.seq (.reg ( fI 6 (.mv (.k (.c (.sl true 1 []))))::[]) [6]) .ret) .skip)
def Qjt:List Item:=mJ 6 21::[]
def Qju:List Item:=mJ 18 2::iJ 19 1 17 18::lJ 20 19::eI 21 (.call Qb2 [.t 20,.k (.c (.fn Qby []))])::Qjt
def Q4z:SC:=(.seq (.reg ( fJ 12 0 3::lJ 13 12::mJ 14 1::iJ 15 3 13 14::tJ 16 3 15::aJ 17 Qgr [.t 16]::Qju) [6]) .ret)
def Q40:SC:=(.seq (.seq (.reg ( tJ 7 1 3::mJ 8 1::mJ 9 2::aJ 10 Qqe [.t 7,.t 8,.t 9]::Qjs) [1,2,3,11]) Q4y) Q4z)
def Qagh:SC:=(.seq (.reg ( fI 3 (.box (.t 0))::fI 6 (.mv (.k (.c (.sl true 1 []))))::[]) [1,2,3]) Q40)
def Qi5:List RS:=[.tmp 6]
theorem Qafn:mFn prog Qgp 3 22 Qagh Qi5=true:=by kernel_rfl
def Qlb:List Item:=oJ 12 11::[]
def Q9x:SC:=(.cond (.t 12) (.seq (.reg ( fI 13 (.bsl 1 [])::mJ 6 13::[]) [6]) .ret) .skip)
def Qlc:List Item:=mJ 6 25::[]
def Qld:List Item:=mJ 22 2::iJ 23 1 21 22::lJ 24 23::eI 25 (.app 1 (.t 15) (.t 24))::Qlc
def Q9y:SC:=(.seq (.reg ( mJ 15 7::fJ 16 0 3::lJ 17 16::mJ 18 1::iJ 19 3 17 18::tJ 20 3 19::aJ 21 Qn4 [.t 20]::Qld) [6]) .ret)
def Q9z:SC:=(.seq (.reg ( fI 14 (.bsl 1 [])::mJ 7 14::[]) [1,2,3,7]) Q9y)
def Q90:SC:=(.seq (.seq (.reg ( tJ 8 1 3::mJ 9 1::mJ 10 2::aJ 11 Q3g [.t 8,.t 9,.t 10]::Qlb) [1,2,3,12]) Q9x) Q9z)
def Qajm:SC:=(.seq (.reg ( fI 3 (.box (.t 0))::fI 6 (.mv (.k (.c (.sl true 1 []))))::[]) [1,2,3]) Q90)
def Qi9:List RS:=[.tmp 6]
theorem Qaf1:mFn prog Qgw 3 26 Qajm Qi9=true:=by kernel_rfl
def Qjd:List Item:=fI 20 (.pick (.t 10) (.t 19) (.k (.c (.bool false))))::mJ 6 20::[]
def Qs4:List Item:=mJ 10 9::gTm 11 10 2::gTf 12 10 0 3::gTl 13 10 12::gTm 14 10 1::gT 15 10 (.iad 3 (.t 13) (.t 14))::gTf 16 10 1 15::gTl 17 10 16::gT 18 10 (.bin 0 .sub (.t 17) (kI 1))::.e (some 19) (some (10,true)) (.call Qaq [.t 11,kI 0,.t 18])::Qjd
def Qaln:SC:=(.seq (.reg ( tJ 7 1 3::mJ 8 1::aJ 9 Qll [.t 7,.t 8]::Qs4) [6]) .ret)
def Qa11:SC:=(.seq (.reg ( fI 3 (.box (.t 0))::fI 6 (.mv (.k (.c (.bool false))))::[]) [1,2,3]) Qaln)
def Qvq:List RS:=[.tmp 6]
theorem Qa1c:mFn prog Qqe 3 21 Qa11 Qvq=true:=by kernel_rfl
def Qcy:List Item:=.e none none (.sto 2 (.t 7) (.t 13))::[]
def Qcz:List Item:=mJ 5 19::[]
def Qc0:List Item:=fI 18 (.bsl 1 [.t 17])::eI 19 (.app 1 (.t 14) (.t 18))::Qcz
def Qh1:SC:=(.reg ( mJ 14 5::mJ 15 1::tJ 16 2 7::eI 17 (.callv (.t 15) [.t 16])::Qc0) [1,5,8,9,10])
def Qh2:SC:=(.reg ( cJ 20 .add 10 1::mJ 10 20::[]) [1,5,8,9,10])
def Qh3:SC:=(.seq (.block 1 (.seq (.reg ( iJ 12 2 8 10::tJ 13 2 12::eI 7 (.alloc [.int .i64 0,.int .i64 0])::Qcy) [1,5,7,8,9,10]) Qh1)) Qh2)
def Qg7:SC:=(.seq (.reg ( bJ 11 .lss 10 9::[]) [1,5,8,9,10,11]) (.seq (.cond (.t 11) .skip (.exit 0)) Qh3))
def Qh4:SC:=(.seq (.reg ( mJ 21 5::mJ 4 21::[]) [4]) .ret)
def Qh5:SC:=(.seq (.seq (.reg ( mJ 8 0::nJ 9 8::fI 10 (.mv (kI 0))::[]) [1,5,8,9,10]) (.block 0 (.loop Qg7))) Qh4)
def Qh6:SC:=(.seq (.reg ( fI 5 (.mv (.k (.c (.sl true 1 []))))::[]) [0,1,5]) Qh5)
def Qlh:SC:=(.seq (.reg ( fI 4 (.mv (.k (.c (.sl true 1 []))))::[]) [0,1]) Qh6)
def Qdm:List RS:=[.tmp 4]
theorem Qlf:mFn prog Qb2 2 22 Qlh Qdm=true:=by kernel_rfl
def Qjx:List Item:=mJ 3 13::[]
def Qjy:List Item:=mJ 4 19::.e none none (.sto 5 (.t 5) (.t 21))::[]
def Qjz:List Item:=.e none none (.sto 2 (.t 7) (.t 28))::[]
def Qj0:List Item:=.chk 31 none (.ld 1 false (.t 30))::iJ 41 1 29 31::.e none none (.sto 1 (.t 41) (.t 40))::[]
def Q49:SC:=(.dreg 14 [0,1,2,3,4,5,6,7,8,9,10,11,2,12,13] ( mJ 29 3::fJ 30 0 7::lJ 31 30::mJ 32 3::fJ 33 0 7::lJ 34 33::iJ 35 1 32 34::lJ 36 35::mJ 37 4::fI 38 (.bld [.int .i64 0,.int .i64 0] [(0,1,.t 37),(1,1,kI (-1))])::fI 39 (.bsl 2 [.t 38])::eI 40 (.app 2 (.t 36) (.t 39))::Qj0) [3,4,5,15,16,17,23,24,25])
def Q5a:SC:=(.reg ( cJ 42 .add 25 1::mJ 25 42::[]) [3,4,5,15,16,17,23,24,25])
def Q5b:SC:=(.seq (.block 3 (.seq (.reg ( iJ 27 2 23 25::tJ 28 2 27::eI 7 (.alloc [.int .i64 0,.sl true 1 []])::Qjz) [3,4,5,7,15,16,17,23,24,25]) Q49)) Q5a)
def Q05:SC:=(.seq (.reg ( bJ 26 .lss 25 24::[]) [3,4,5,15,16,17,23,24,25,26]) (.seq (.cond (.t 26) .skip (.exit 2)) Q5b))
def Qj1:List Item:=mJ 8 48::.e none none (.sto 4 (.t 9) (.t 50))::[]
def Qj2:List Item:=mJ 10 52::[]
def Qh7:List Item:=iJ 66 1 55 56::.e none none (.sto 1 (.t 66) (.t 65))::[]
def Q0t:SC:=(.cond (.t 54) (.reg ( mJ 55 3::mJ 56 10::mJ 57 3::mJ 58 10::iJ 59 1 57 58::lJ 60 59::mJ 61 4::mJ 62 8::fI 63 (.bld [.int .i64 0,.int .i64 0] [(0,1,.t 61),(1,1,.t 62)])::fI 64 (.bsl 2 [.t 63])::eI 65 (.app 2 (.t 60) (.t 64))::Qh7) [3,4,15,16,17,44,45,46]) .skip)
def Q0u:SC:=(.seq (.reg ( mJ 53 10::cJ 54 .geq 53 0::[]) [3,4,8,10,15,16,17,44,45,46,54]) Q0t)
def Q0v:SC:=(.seq (.reg ( tJ 51 4 9::aJ 52 Qf3 [.t 51]::Qj2) [3,4,8,10,15,16,17,44,45,46]) Q0u)
def Q0w:SC:=(.reg ( cJ 67 .add 46 1::mJ 46 67::[]) [3,4,15,16,17,44,45,46])
def Q0x:SC:=(.seq (.block 5 (.seq (.reg ( mJ 48 46::iJ 49 4 44 46::tJ 50 4 49::eI 9 (.alloc [.int .i64 0,.int .i64 0,.sl true 1 [],.int .i64 0])::Qj1) [3,4,8,9,15,16,17,44,45,46]) Q0v)) Q0w)
def Qvx:SC:=(.seq (.reg ( bJ 47 .lss 46 45::[]) [3,4,15,16,17,44,45,46,47]) (.seq (.cond (.t 47) .skip (.exit 4)) Q0x))
def Q0y:SC:=(.seq (.reg ( fJ 43 1 5::lJ 44 43::nJ 45 44::fI 46 (.mv (kI 0))::[]) [3,4,15,16,17,44,45,46]) (.block 4 (.loop Qvx)))
def Q0z:SC:=(.seq (.seq (.reg ( fJ 22 0 5::lJ 23 22::nJ 24 23::fI 25 (.mv (kI 0))::[]) [3,4,5,15,16,17,23,24,25]) (.block 2 (.loop Q05))) Q0y)
def Q00:SC:=(.reg ( cJ 68 .add 17 1::mJ 17 68::[]) [3,15,16,17])
def Q01:SC:=(.seq (.block 1 (.seq (.reg ( mJ 19 17::iJ 20 5 15 17::tJ 21 5 20::eI 5 (.alloc [.sl true 2 [],.sl true 4 [],.int .i64 0,.int .i64 0,.sl true 1 []])::Qjy) [3,4,5,15,16,17]) Q0z)) Q00)
def Qvy:SC:=(.seq (.reg ( bJ 18 .lss 17 16::[]) [3,15,16,17,18]) (.seq (.cond (.t 18) .skip (.exit 0)) Q01))
def Q02:SC:=(.seq (.reg ( mJ 69 3::mJ 2 69::[]) [2]) .ret)
def Q03:SC:=(.seq (.seq (.reg ( fJ 14 2 1::lJ 15 14::nJ 16 15::fI 17 (.mv (kI 0))::[]) [3,15,16,17]) (.block 0 (.loop Qvy))) Q02)
def Q04:SC:=(.seq (.reg ( fJ 11 1 1::lJ 12 11::eI 13 (.mks 1 [.sl true 2 []] (.t 12))::Qjx) [1,3]) Q03)
def Qagt:SC:=(.seq (.reg ( fI 1 (.box (.t 0))::fI 2 (.mv (.k (.c (.sl true 1 []))))::[]) [1]) Q04)
def Qsi:List RS:=[.tmp 2]
theorem Qafq:mFn prog Qgr 1 70 Qagt Qsi=true:=by kernel_rfl
def Qsw:SC:=(.seq (.reg ( fJ 3 0 1::lJ 4 3::fJ 5 1 1::lJ 6 5::fI 7 (.bsl 1 [.t 4,.t 6])::mJ 2 7::[]) [2]) .ret)
def Qz6:SC:=(.seq (.reg ( fI 1 (.box (.t 0))::fI 2 (.mv (.k (.c (.sl true 1 []))))::[]) [1]) Qsw)
def Qjp:List RS:=[.tmp 2]
theorem Qz1:mFn prog Qby 1 8 Qz6 Qjp=true:=by kernel_rfl
def Qrg:List Item:=fI 20 (.pick (.t 10) (.t 19) (.k (.c (.bool false))))::mJ 6 20::[]
def Q5l:List Item:=mJ 10 9::gTm 11 10 2::gTf 12 10 0 3::gTl 13 10 12::gTm 14 10 1::gT 15 10 (.iad 3 (.t 13) (.t 14))::gTf 16 10 1 15::gTl 17 10 16::gT 18 10 (.bin 0 .sub (.t 17) (kI 1))::.e (some 19) (some (10,true)) (.call Qbe [.t 11,kI 0,.t 18])::Qrg
def Qa2a:SC:=(.seq (.reg ( tJ 7 1 3::mJ 8 1::aJ 9 Q3f [.t 7,.t 8]::Q5l) [6]) .ret)
def Qbbc:SC:=(.seq (.reg ( fI 3 (.box (.t 0))::fI 6 (.mv (.k (.c (.bool false))))::[]) [1,2,3]) Qa2a)
def Qaf7:List RS:=[.tmp 6]
theorem Qbai:mFn prog Q3g 3 21 Qbbc Qaf7=true:=by kernel_rfl
end Go.AE.Y

namespace Go.AE.Y
attribute [local instance] Classical.propDecidable
variable {g:Nat→List Nat}{n:Nat}
theorem Qazf {a b:Nat}:Qry g a b=true↔Qg9 g (-1) a=true∧Qg9 g (-1) b=true∧¬Rch g (fun z=>(z:Int)=a) 0 b:=by
 simp only[Qry,Bool.and_eq_true,Bool.not_eq_true',and_assoc]
 refine and_congr_right fun _=>and_congr_right fun _=>?_
 rw[←Bool.not_eq_true,rchB_iff]
theorem Rch.via {A:Nat→Prop}{a b:Nat}(h:Rch g A 0 b)(hn:¬Rch g (fun z=>(z:Int)=a) 0 b):Rch g A 0 a:=by
 induction h with
 |refl h=>
  by_cases ha:0=a
  ·subst ha;exact .refl h
  ·exact absurd (Rch.refl fun hh=>ha (by omega)) hn
 |@step y z h1 h2 h3 ih=>
  by_cases hy:Rch g (fun z=>(z:Int)=a) 0 y
  ·by_cases ha:z=a
   ·subst ha;exact .step h1 h2 h3
   ·exact absurd (Rch.step hy h2 fun hh=>ha (by omega)) hn
  ·exact ih hy
theorem Qa0o {x a b:Nat}(h1:Qry g x a=true)(h2:Qry g a b=true):Qry g x b=true:=by
 rw[Qazf]at *
 exact⟨h1.1,h2.2.1,fun h=>h1.2.2 (h.via h2.2.2)⟩
theorem Rch.two {A:Nat→Prop}{a b z:Nat}(hab:a≠b)(h:Rch g A 0 z):Rch g (fun w=>w=a∨w=b) 0 z∨Rch g (fun w=>(w:Int)=b) 0 a∨Rch g (fun w=>(w:Int)=a) 0 b:=by
 induction h with
 |refl _=>
  by_cases ha:0=a
  ·subst ha;exact .inr (.inl (.refl fun hh=>hab (by omega)))
  ·by_cases hb:0=b
   ·subst hb;exact .inr (.inr (.refl fun hh=>hab (by omega)))
   ·exact .inl (.refl fun hh=>hh.elim ha hb)
 |@step y z h1 h2 h3 ih=>
  rcases ih with h|h
  ·by_cases ha:z=a
   ·subst ha
    exact .inr (.inl (.step (h.mono fun w hw=>.inr (by omega)) h2 fun hh=>hab (by omega)))
   ·by_cases hb:z=b
    ·subst hb
     exact .inr (.inr (.step (h.mono fun w hw=>.inl (by omega)) h2 fun hh=>hab (by omega)))
    ·exact .inl (.step h h2 fun hh=>hh.elim ha hb)
  ·exact .inr h
theorem Qa4h {a b:Nat}(h1:Qry g a b=true)(h2:Qry g b a=true):a=b:=by
 by_cases hab:a=b
 ·exact hab
 rw[Qazf]at *
 rcases (rchB_iff.1 h1.1).two hab with h|h|h
 ·exact absurd (.inl rfl) h.snd
 ·exact absurd h h2.2.2
 ·exact absurd h h1.2.2
noncomputable def depL (n:Nat)(g:Nat→List Nat)(b:Nat):Nat:=((List.range n).filter fun a=>Qry g a b).length
theorem Qa4r {α:Type}{p q:α→Bool}{l:List α}(h:∀x∈l,p x=true→q x=true){y:α}(hy:y∈l)(hq:q y=true)(hp:p y=false):(l.filter p).length<(l.filter q).length:=by
 have le:∀(l:List α),(∀x∈l,p x=true→q x=true)→(l.filter p).length≤(l.filter q).length:=fun l=>by
  induction l with
  |nil=>intro _;simp
  |cons x l ih=>
   intro h
   have h1:=ih fun z hz=>h z (List.mem_cons_of_mem _ hz)
   have h2:=h x List.mem_cons_self
   cases hpx:p x with
   |false=>cases hqx:q x <;> simp[hpx,hqx] <;> omega
   |true=>have:=h2 hpx;simp[hpx,this];omega
 induction l with
 |nil=>simp at hy
 |cons x l ih=>
  have h2:=h x List.mem_cons_self
  have h3:=le l fun z hz=>h z (List.mem_cons_of_mem _ hz)
  rcases List.mem_cons.1 hy with rfl|hy
  ·simp[hq,hp];omega
  ·have h1:=ih (fun z hz=>h z (List.mem_cons_of_mem _ hz)) hy
   cases hpx:p x with
   |false=>cases hqx:q x <;> simp[hpx,hqx] <;> omega
   |true=>have:=h2 hpx;simp[hpx,this];omega
theorem Qbdd {a b:Nat}(hb:b<n)(h:Qry g a b=true)(hab:a≠b):depL n g a<depL n g b:=by
 refine Qa4r (fun x _ hx=>Qa0o hx h) (y:=b) (List.mem_range.2 hb) ?_ ?_
 ·rw[Qa4j];exact (Qa4i h).2
 ·cases hc:Qry g b a with
  |false=>rfl
  |true=>exact absurd (Qa4h h hc) hab
def Tree (n:Nat)(ids:List Int)(dp:Nat→Nat):Prop:=ids.length=n∧∀b,b<n→ids.getD b 0=-1∨∃a:Nat,ids.getD b 0=a∧a<n∧dp a<dp b
inductive Sub (ids:List Int)(b:Nat):Nat→Prop
 |refl:Sub ids b b
 |step {y x:Nat}:Sub ids b y→x<ids.length→ids.getD x 0=(y:Int)→Sub ids b x
variable {ids:List Int}{dp:Nat→Nat}
def Qoh (ids:List Int)(b:Nat):List Nat:=(List.range ids.length).filter fun i=>decide (ids.getD i 0=(b:Int))
theorem kidsL_mem {b k:Nat}:k∈Qoh ids b↔k<ids.length∧ids.getD k 0=(b:Int):=by simp[Qoh]
theorem Tree.up (t:Tree n ids dp){b k:Nat}(hk:k<ids.length)(h:ids.getD k 0=(b:Int)):b<n∧dp b<dp k:=by
 have hk':k<n:=by rw[←t.1];exact hk
 rcases t.2 k hk' with h1|⟨a,h1,h2,h3⟩
 ·omega
 ·have:a=b:=by omega
  subst this;exact⟨h2,h3⟩
theorem Sub.dep (t:Tree n ids dp){b x:Nat}(h:Sub ids b x):x=b∨dp b<dp x:=by
 induction h with
 |refl=>exact .inl rfl
 |step h1 h2 h3 ih=>
  have:=(t.up h2 h3).2
  rcases ih with rfl|ih
  ·exact .inr this
  ·exact .inr (by omega)
theorem Sub.kid {b k x:Nat}(hk:k∈Qoh ids b)(h:Sub ids k x):Sub ids b x:=by
 obtain⟨h1,h2⟩:=kidsL_mem.1 hk
 induction h with
 |refl=>exact .step .refl h1 h2
 |step _ h3 h4 ih=>exact ih.step h3 h4
theorem Sub.kid_ne (t:Tree n ids dp){b k:Nat}(hk:k∈Qoh ids b):¬Sub ids k b:=fun h=>by
 obtain⟨h1,h2⟩:=kidsL_mem.1 hk
 have:=(t.up h1 h2).2
 rcases h.dep t with rfl|h
 ·omega
 ·omega
theorem Sub.line {a b x:Nat}(h1:Sub ids a x)(h2:Sub ids b x):Sub ids a b∨Sub ids b a:=by
 induction h1 with
 |refl=>exact .inr h2
 |@step y x h3 h4 h5 ih=>
  cases h2 with
  |refl=>exact .inl (.step h3 h4 h5)
  |@step y' _ h6 h7 h8=>
   have:y=y':=by omega
   subst this;exact ih h6
theorem Sub.kids_apart (t:Tree n ids dp){b k j x:Nat}(hk:k∈Qoh ids b)(hj:j∈Qoh ids b)(h1:Sub ids k x)(h2:Sub ids j x):k=j:=by
 have one:∀{k j:Nat},k∈Qoh ids b→j∈Qoh ids b→Sub ids k j→k=j:=fun {k j} hk hj h=>by
  cases h with
  |refl=>rfl
  |@step y _ h3 h4 h5=>
   have h6:=(kidsL_mem.1 hj).2
   have:y=b:=by omega
   subst this
   exact absurd h3 (Sub.kid_ne t hk)
 rcases h1.line h2 with h|h
 ·exact one hk hj h
 ·exact (one hj hk h).symm
theorem Sub.split {b x:Nat}(h:Sub ids b x):x=b∨∃k∈Qoh ids b,Sub ids k x:=by
 induction h with
 |refl=>exact .inl rfl
 |@step y x h1 h2 h3 ih=>
  rcases ih with rfl|⟨k,hk,h⟩
  ·exact .inr ⟨x,kidsL_mem.2 ⟨h2,h3⟩,.refl⟩
  ·exact .inr ⟨k,hk,h.step h2 h3⟩
theorem Sub.lt {b x:Nat}(hb:b<ids.length)(h:Sub ids b x):x<ids.length:=by
 cases h with
 |refl=>exact hb
 |step _ h _=>exact h
def potW (n:Nat)(w:Nat→Nat)(U:Nat→Prop) [DecidablePred U]:Nat:=(((List.range n).filter fun x=>decide (U x)).map w).sum
theorem Qba9 {w:Nat→Nat}{U V:Nat→Prop}{b:Nat}(hb:b<n)(hU:U b)(hV:∀x,V x↔U x∧x≠b):potW n w V+w b=potW n w U:=by
 have key:∀m,(((List.range m).filter fun x=>decide (V x)).map w).sum+(if b<m then w b else 0)=(((List.range m).filter fun x=>decide (U x)).map w).sum:=fun m=>by
  induction m with
  |zero=>simp
  |succ m ih=>
   rw[List.range_succ,List.filter_append,List.filter_append,List.map_append,List.map_append,List.sum_append,List.sum_append]
   by_cases hm:m=b
   ·subst hm
    have h1:decide (V m)=false:=decide_eq_false fun h=>((hV m).1 h).2 rfl
    have h2:decide (U m)=true:=decide_eq_true hU
    have h3:¬m<m:=by omega
    rw[if_neg h3]at ih
    simp[h1,h2];omega
   ·have h1:decide (V m)=decide (U m):=by rw[decide_eq_decide,hV];exact⟨fun h=>h.1,fun h=>⟨h,hm⟩⟩
    have h2:(b<m+1)=(b<m):=by rw[eq_iff_iff];omega
    simp only[List.filter_cons,List.filter_nil,h1,h2]
    omega
 have:=key n
 rw[if_pos hb]at this
 exact this
theorem Qbes {w:Nat→Nat}{U V:Nat→Prop}(h:∀x,V x→U x):potW n w V≤potW n w U:=by
 have key:∀m,(((List.range m).filter fun x=>decide (V x)).map w).sum≤(((List.range m).filter fun x=>decide (U x)).map w).sum:=fun m=>by
  induction m with
  |zero=>simp
  |succ m ih=>
   rw[List.range_succ,List.filter_append,List.filter_append,List.map_append,List.map_append,List.sum_append,List.sum_append]
   by_cases hv:V m
   ·have h1:decide (V m)=true:=decide_eq_true hv
    have h2:decide (U m)=true:=decide_eq_true (h m hv)
    simp[h1,h2];omega
   ·have h1:decide (V m)=false:=decide_eq_false hv
    simp[h1];omega
 exact key n
end Go.AE.Y

namespace Go.AE.Y
attribute [local go_sem] cond_true cond_false Bool.not_true Bool.not_false
open Go.Proofs.Tryz
variable {H H0:Heap}{K:V→Heap→Prop}{E B Lg:List (Nat×Obj)}
theorem Qasg {fl:Bool}{l:List Nat}(hl:l.length≤2 ^ 30)(hK:∀(fl':Bool) (k:List Nat) H',Upd H H' []→k.Pairwise (· < ·)→(∀x,x∈k↔x∈l)→K (.c (.sl false 1 (Qaa k))) H') :
  Qu prog Qlo [.c (.sl fl 1 (Qaa l))] H K:=by
 refine Qz ?_
 refine Qb Qat Qasq ?_
 refine Qa ?_
 simp only[go_sem]
 refine Qa ?_
 simp only[go_sem]
 refine Q4 ?_
 refine Qa ?_
 simp only[go_sem]
 refine Qh (Qc (Qw (fun m e1 H1=>∃(i:Nat) (fl':Bool) (ns:List Int),m=l.length-i∧i≤l.length∧ns.Pairwise (· < ·)∧(∀x,x∈ns↔∃y∈l.take i,(y:Int)=x)∧ns.length≤i∧Kn H H1 [] []∧
  lk 0 e1=.c (.sl fl 1 (Qaa l))∧lk 3 e1=.c (.sl fl' 1 (Qd ns))∧lk 4 e1=.c (.int .i64 i)) l.length ?_ ?_))
 ·exact⟨0,_,[],by omega,by omega,by simp,by simp,by simp,Kn.start0 H,rfl,rfl,rfl⟩
 ·rintro m e1 H1 ⟨i,fl',ns,hm,hi,ha,hns,hnl,kn,l0,l3,l4⟩
  refine Q4 ?_
  refine Qa ?_
  simp only[go_sem,l0,l3,l4,Q1]
  intro _
  refine Qh (Qe rfl ?_ ?_)
  ·intro hc
   have hlt:i<l.length:=by simpa using hc
   have hg:l.getD i 0=l[i]:=by simp[List.getD_eq_getElem?_getD,hlt]
   refine Qi ?_
   try simp only[go_sem]
   refine Qh (Qc ?_)
   refine Qr ?_
   simp only[go_sem,hlt,Q1,Qas _ _ hlt,hg]
   refine Qn9 ha (by omega) fun fl2 ns2 H2 hu ha2 hm2 hl2=>?_
   have kn:=kn.call0 hu
   simp only[go_sem,Qpg]
   refine Qr ?_
   simp only[go_sem,X.next]
   refine⟨Qo (by omega) (by omega),l.length-(i+1),by omega,i+1,fl2,ns2,rfl,by omega,ha2,fun x=>?_,by omega,kn,?_⟩
   ·rw[hm2,hns,List.take_succ_eq_append_getElem hlt]
    constructor
    ·rintro (rfl|⟨y,hy,rfl⟩)
     ·exact⟨l[i],List.mem_append_right _ (List.mem_singleton.2 rfl),rfl⟩
     ·exact⟨y,List.mem_append_left _ hy,rfl⟩
    ·rintro⟨y,hy,rfl⟩
     rcases List.mem_append.1 hy with hy|hy
     ·exact .inr ⟨y,hy,rfl⟩
     ·simp only[List.mem_singleton]at hy;rw[hy];exact .inl rfl
   ·first|exact⟨rfl,rfl,rfl⟩|exact rfl|trivial
  ·intro hc
   have hge:l.length≤i:=by simpa using hc
   rw[List.take_of_length_le hge]at hns
   have hk:ns=(ns.map Int.toNat).map Int.ofNat:=by
    rw[List.map_map]
    conv=>lhs;rw[←List.map_id ns]
    refine List.map_congr_left fun x hx=>?_
    obtain⟨y,_,rfl⟩:=(hns x).1 hx
    simp
   have hko:Qd ns=Qaa (ns.map Int.toNat):=by (conv=>lhs;rw[hk]);rfl
   refine Qt ?_
   simp only[go_sem,X.next]
   refine Qa ?_
   simp only[go_sem,l3,hko]
   refine Qj ?_
   simp only[go_sem,Q5,Qae,Q4g,List.mem_singleton,forall_eq,RS.op]
   refine⟨_,.c _ _ (FrzR.same (Qbl _)).sl,hK true (ns.map Int.toNat) _ kn.fin ?_ fun x=>?_⟩
   ·rw[hk,List.pairwise_map]at ha
    exact ha.imp fun h=>by simpa using h
   ·rw[List.mem_map]
    constructor
    ·rintro⟨v,hv,rfl⟩
     obtain⟨y,hy,rfl⟩:=(hns v).1 hv
     simpa using hy
    ·exact fun h=>⟨(x:Int),(hns _).2 ⟨x,h,rfl⟩,by simp⟩
set_option maxHeartbeats 1000000 in
theorem Qa02 {p rg:Int}{fl:Bool}{rows:List (List C)}{nx:Nat→List Int}(hg:GF rows nx)(hf:Qit rows.length nx=true)
  (hK:∀(o:List Nat) H',Upd H H' []→o.length≤rows.length→(∀x,x∈o↔x<rows.length∧Qg9 (nxN nx) (-1) x=true)→K (.c (.sl false 1 (Qaa o))) H') :
  Qu prog Qix [.ag [.int .i64 p,.int .i64 rg,.sl fl 5 rows]] H K:=by
 have hn:=hg.n
 have hn0:=Qr0 hf
 have hyb:∀(y:Nat) l a b d,C.sl fl 5 rows=.vsl l a b d→l≠y:=by intro y l a b d h;cases h
 refine Qz ?_
 refine Qb Qat Qa1d ?_
 refine Qa ?_
 simp only[go_sem]
 refine Qak ?_
 simp only[go_sem,Qbh]
 try intro _
 refine⟨by simp only[LIM];omega,fun al hal H1 h1=>?_⟩
 have kn:Kn H H1 [] ([(al,.vec 1 (Qm (List.replicate rows.length false)))]++[]):=(Kn.start0 H).al hal h1
 simp only[go_sem,Qs9]
 refine Qvf (F:=H1) hf (by omega) (hg.grd H1 fl) (hyb al) rows.length 0 (List.replicate rows.length false) [] (.sl true 1 []) [] H1 _ (by simp) (by omega) hn0 (Qa1 _ _) kn.mid (.nil 1) (by simp) fun S o oc Lg0 H2 hd k2 hgo=>?_
 have kn:Kn H H2 [] ([(al,.vec 1 (Qm S))]++Lg0):=by
  have:=(kn.comp k2 rfl)
  simpa using this
 have how:=hgo.isOw
 have hsz:=hgo.elemSz
 have hlen:=hgo.lenC
 rw[Q1]at hlen
 have hgl:∀x,x<(List.replicate rows.length false).length→∀y∈nxN nx x,y<(List.replicate rows.length false).length:=by
  rw[List.length_replicate];exact fun x hx y hy=>Qak0 hf hx hy
 have hx0:∀x∈[0],x<(List.replicate rows.length false).length:=by rw[List.length_replicate];simpa using hn0
 have hmem:∀x,x∈o↔x<rows.length∧Qg9 (nxN nx) (-1) x=true:=fun x=>by
  rw[hd.list hgl hx0 (Qa1 _),Qadl hf hd,inL]
  by_cases hx:x<rows.length
  ·rw[Qd3 _ _ hx];simp[hx]
  ·rw[List.getD_eq_getElem?_getD,List.getElem?_eq_none (by simpa using hx)];simp[hx]
 have hol:o.length≤rows.length:=by
  have h1:=hd.count hgl hx0
  have h2:=Qaze S
  rw[hd.len,List.length_replicate]at h2
  simp only[List.length_nil]at h1
  omega
 simp only[go_sem,Qs8,how]
 refine Qa ?_
 simp only[go_sem,how]
 refine Q4 ?_
 refine Qa ?_
 have hok0:=eq_true (hgo.get kn).1
 simp only[go_sem,how,hok0,hlen]
 try intro _
 refine⟨Qo (by omega) (by omega),?_⟩
 refine Qh (Qc (Qw (fun m e1 H1=>∃(k:Nat) (r:List Nat) (t:C) (Lg:List (Nat×Obj)),m=k∧k≤o.length∧r.length+k=o.length∧(∀x,x∈r↔x∈o.drop k)∧Gr Lg 1 (Qaa r) t∧Kn H H1 [] (([(al,.vec 1 (Qm S))]++Lg0)++Lg)∧
  lk 3 e1=.c oc∧lk 4 e1=.c t∧lk 5 e1=.c (.int .i64 ((k:Int)-1))) o.length ?_ ?_))
 ·exact⟨o.length,[],_,[],rfl,by omega,by simp,by simp,.nil 1,by simpa using kn,rfl,rfl,rfl⟩
 ·clear kn hok0
  rintro m e1 H3 ⟨k,r,t,Lg,rfl,hk,hrl,hrm,hgr,kn,l3,l4,l5⟩
  have htw:=hgr.isOw
  have hok0:=eq_true (hgo.get kn.drop).1
  have hrw:=(hgo.get kn.drop).2
  refine Q4 ?_
  refine Qa ?_
  simp only[go_sem,l3,l4,l5,htw,how]
  refine Qh (Qe rfl ?_ ?_)
  ·intro hc
   have hge:(0:Int)≤(m:Int)-1:=by simpa using hc
   obtain⟨k,rfl⟩:∃k,m=k+1:=⟨m-1,by omega⟩
   have ek:((k+1:Nat):Int)-1=(k:Int):=by omega
   have hlt:k<o.length:=by omega
   have hgd:o.getD k 0=o[k]:=by simp[List.getD_eq_getElem?_getD,hlt]
   rw[ek]
   refine Qi ?_
   try simp only[go_sem]
   refine Qh (Qc ?_)
   refine Qr ?_
   simp only[go_sem,htw,how,hok0,hlen,hsz,hrw,hlt,Q1,Qas _ _ hlt,hgd]
   refine kn.growR (new:=Qaa [o[k]]) hgr (.mk' _ _ _ _) (Qbl _) (by simp only[Q1,LIM,List.length_cons,List.length_nil];omega) fun t2 Lg2 H4 hgr2 ht2 kn=>?_
   simp only[go_sem,Qta,how,ht2]
   refine Qr ?_
   simp only[go_sem,X.next,how,ht2]
   refine⟨Qo (by omega) (by omega),k,by omega,k,r++[o[k]],t2,Lg2,rfl,by omega,by simp only[List.length_append,List.length_cons,List.length_nil];omega,fun x=>?_,?_,kn,?_⟩
   ·rw[List.drop_eq_getElem_cons hlt]
    simp only[List.mem_append,hrm,List.mem_cons,List.not_mem_nil,or_false]
    exact or_comm
   ·rw[Qvk];exact hgr2
   ·first|exact⟨rfl,rfl,rfl⟩|exact rfl|trivial
  ·intro hc
   have hk0:m=0:=by have:¬(0:Int)≤(m:Int)-1:=(by simpa using hc);omega
   subst hk0
   refine Qt ?_
   simp only[go_sem,X.next]
   refine Qa ?_
   simp only[go_sem,l4,htw]
   refine Qj ?_
   simp only[go_sem,Q5,Qae,Qad6,List.mem_singleton,forall_eq,RS.op,htw]
   exact⟨_,.c _ _ (hgr.frz kn (Qbl _)),hK r _ kn.fin (by omega) fun x=>by rw[hrm,List.drop_zero,hmem]⟩
noncomputable def rchL (n:Nat)(g:Nat→List Nat):List Nat:=(List.range n).filter (Qg9 g (-1))
theorem Qajo {p rg:Int}{fl:Bool}{rows:List (List C)}{nx:Nat→List Int}(hg:GF rows nx)(hf:Qit rows.length nx=true)
  (hK:∀H',Upd H H' []→K (.c (.sl false 1 (Qaa (rchL rows.length (nxN nx))))) H') :
  Qu prog Qfj [.ag [.int .i64 p,.int .i64 rg,.sl fl 5 rows]] H K:=by
 have hn:=hg.n
 refine Qz ?_
 refine Qb Qat Qaaq ?_
 refine Qa ?_
 simp only[go_sem]
 refine Q4 ?_
 refine Qa ?_
 simp only[go_sem]
 refine Qa49 (hg.grd H fl) ?_
 simp only[go_sem,Qig,hf]
 refine Qh (Qe rfl (fun h=>by simp at h) (fun _=>?_))
 refine Qi ?_
 try simp only[go_sem]
 refine Qa ?_
 simp only[go_sem]
 refine Qa02 hg hf fun o H1 hu hol hom=>?_
 have kn:=(Kn.start0 H).call0 hu
 simp only[go_sem,Qii]
 refine Qasg (by omega) fun _ k H2 hu ha hk=>?_
 have kn:=kn.call0 hu
 simp only[go_sem,Qih]
 have e:k=rchL rows.length (nxN nx):=Qajx ha fun x=>by rw[hk,hom]
 refine Qj ?_
 simp only[go_sem,Q5,Qae,Qo3,List.mem_singleton,forall_eq,RS.op]
 rw[e]
 exact⟨_,.c _ _ (FrzR.same (Qbl _)).sl,hK _ kn.fin⟩
end Go.AE.Y

namespace Go.AE.Y
attribute [local go_sem] cond_true cond_false Bool.not_true Bool.not_false
open Go.Proofs.Tryz
variable {H H0:Heap}{K:V→Heap→Prop}{E B Lg:List (Nat×Obj)}
theorem Qr8 (n:Nat)(v:Int):List.replicate n [C.int .i64 v]=Qd (List.replicate n v):=by simp[Qd]
theorem Qcm (l:List Int)(i:Nat)(v:Int):(Qd l).set i [C.int .i64 v]=Qd (l.set i v):=by simp[Qd,List.map_set]
def Qa35 (n:Nat)(l:List Nat)(P:List Int):Prop:=P.length=n∧∀x∈l,∃i,∃h:i<l.length,l[i]=x∧P.getD x 0=(i:Int)
set_option maxHeartbeats 1000000 in
theorem Qa04 {n:Nat}{fl:Bool}{l:List Nat}(hn:n≤1000000)(hl:l.length≤1000000)(hx:∀x∈l,x<n)(hK:∀P H',Qa35 n l P→Upd H H' []→K (.c (.sl false 1 (Qd P))) H') :
  Qu prog Qqf [.c (.int .i64 n),.c (.sl fl 1 (Qaa l))] H K:=by
 refine Qz ?_
 refine Qb Qat Qa1e ?_
 refine Qa ?_
 simp only[go_sem]
 refine Qa ?_
 simp only[go_sem]
 refine⟨by simp only[LIM];omega,fun y hy H1 h1=>?_⟩
 rw[Qr8]at h1
 have kn:=(Kn.start0 H).al hy h1
 simp only[go_sem,Qtf]
 refine Q4 ?_
 refine Qa ?_
 simp only[go_sem]
 refine Qh (Qc (Qw (fun m e1 H1=>∃(i:Nat) (P:List Int),m=n-i∧i≤n∧P.length=n∧Kn H H1 [] [(y,.vec 1 (Qd P))]∧
  lk 0 e1=.c (.int .i64 n)∧lk 1 e1=.c (.sl fl 1 (Qaa l))∧lk 5 e1=.c (.vsl y 1 0 n)∧lk 6 e1=.c (.int .i64 i)) n ?_ ?_))
 ·exact⟨0,List.replicate n 0,by omega,by omega,by simp,kn,rfl,rfl,rfl,rfl⟩
 ·clear kn h1
  rintro m e1 H2 ⟨i,P,hm,hi,hP,kn,l0,l1,l5,l6⟩
  have hy:=kn.l 0 rfl
  have htk:(Qd P).take n=Qd P:=List.take_of_length_le (by rw[Qf];omega)
  refine Q4 ?_
  refine Qa ?_
  simp only[go_sem,l0,l1,l5,l6]
  refine Qh (Qe rfl ?_ ?_)
  ·intro hc
   have hlt:i<n:=by simpa using hc
   refine Qi ?_
   try simp only[go_sem]
   refine Qh (Qc ?_)
   have hltP:i<P.length:=by omega
   refine Qr ?_
   simp only[go_sem,hy,hlt,Qf,hP,Qs _ _ hltP,Qcm,Nat.zero_add,Nat.le_refl]
   intro H3 h3
   have kn:=kn.stL 0 rfl h3
   refine Qr ?_
   simp only[go_sem,X.next]
   refine⟨Qo (by omega) (by omega),n-(i+1),by omega,i+1,_,rfl,by omega,by rw[List.length_set];exact hP,kn,?_⟩
   first|exact⟨rfl,rfl,rfl,rfl⟩|exact rfl|trivial
  ·intro hc
   refine Qt ?_
   simp only[go_sem,X.next]
   refine Q4 ?_
   refine Qa ?_
   simp only[go_sem,l0,l1,l5,l6]
   refine Qh (Qc (Qw (fun m e1 H1=>∃(j:Nat) (P:List Int),m=l.length-j∧j≤l.length∧P.length=n∧(∀x∈l.take j,∃i,∃h:i<l.length,l[i]=x∧P.getD x 0=(i:Int))∧Kn H H1 [] [(y,.vec 1 (Qd P))]∧
    lk 1 e1=.c (.sl fl 1 (Qaa l))∧lk 5 e1=.c (.vsl y 1 0 n)∧lk 7 e1=.c (.int .i64 j)) l.length ?_ ?_))
   ·exact⟨0,P,by omega,by omega,hP,by simp,kn,rfl,rfl,rfl⟩
   ·clear kn hy htk hP
    clear P
    rintro m e1 H3 ⟨j,P,hm,hj,hP,hpl,kn,l1,l5,l7⟩
    have hy:=kn.l 0 rfl
    refine Q4 ?_
    refine Qa ?_
    simp only[go_sem,l1,l5,l7,Q1]
    intro _
    refine Qh (Qe rfl ?_ ?_)
    ·intro hc
     have hlt:j<l.length:=by simpa using hc
     have hgd:l.getD j 0=l[j]:=by simp[List.getD_eq_getElem?_getD,hlt]
     have hxn:=hx _ (List.getElem_mem hlt)
     have hxP:l[j]<P.length:=by omega
     refine Qi ?_
     try simp only[go_sem]
     refine Qh (Qc ?_)
     refine Qr ?_
     simp only[go_sem,hy,hlt,Q1,Qas _ _ hlt,hgd,hxn,Qf,hP,Qs _ _ hxP,Qcm,Nat.zero_add,Nat.le_refl]
     intro H4 h4
     have kn:=kn.stL 0 rfl h4
     refine Qr ?_
     simp only[go_sem,X.next]
     refine⟨Qo (by omega) (by omega),l.length-(j+1),by omega,j+1,_,rfl,by omega,by rw[List.length_set];exact hP,fun x hxm=>?_,kn,?_⟩
     ·by_cases hxe:x=l[j]
      ·refine⟨j,hlt,hxe.symm,?_⟩
       rw[hxe,List.getD_eq_getElem?_getD,List.getElem?_set_self hxP];rfl
      ·rw[List.take_succ_eq_append_getElem hlt]at hxm
       rcases List.mem_append.1 hxm with h|h
       ·obtain⟨i,hi,h1,h2⟩:=hpl x h
        refine⟨i,hi,h1,?_⟩
        rw[List.getD_eq_getElem?_getD,List.getElem?_set_ne (fun h=>hxe h.symm),←List.getD_eq_getElem?_getD];exact h2
       ·exact absurd (List.mem_singleton.1 h) hxe
     ·first|exact⟨rfl,rfl,rfl⟩|exact rfl|trivial
    ·intro hc
     have hge:l.length≤j:=by simpa using hc
     rw[List.take_of_length_le hge]at hpl
     refine Qt ?_
     simp only[go_sem,X.next]
     refine Qa ?_
     simp only[go_sem,l5]
     refine Qj ?_
     simp only[go_sem,Q5,Qae,Qad7,List.mem_singleton,forall_eq,RS.op]
     exact⟨_,.c _ _ ((FrzR.same (Qv _)).vsl (kn.un 0 rfl) hy (by rw[Qf,hP])),hK P _ ⟨hP,hpl⟩ kn.fin⟩
end Go.AE.Y

namespace Go.AE.Y
attribute [local go_sem] cond_true cond_false Bool.not_true Bool.not_false
open Go.Proofs.Tryz
variable {H H0:Heap}{K:V→Heap→Prop}{E B Lg:List (Nat×Obj)}
def Qakc (ids:List Int)(b n:Nat):List Nat:=(List.range n).filter fun i=>decide (ids.getD i 0=(b:Int))
theorem Qadx (ids:List Int)(b n:Nat):Qakc ids b (n+1)=Qakc ids b n++if decide (ids.getD n 0=(b:Int))=true then [n]else []:=by
 simp only[Qakc,List.range_succ,List.filter_append]
 congr 1
 by_cases h:ids.getD n 0=(b:Int)
 ·rw[decide_eq_true h,if_pos rfl];simp only[List.filter_cons,List.filter_nil,h,decide_true,if_true]
 ·rw[decide_eq_false h,if_neg (by simp)];simp only[List.filter_cons,List.filter_nil,h,decide_false,Bool.false_eq_true,if_false]
theorem Qa46 (ids:List Int)(b n:Nat):(Qakc ids b n).length≤n:=by
 have:=List.length_filter_le (fun i=>decide (ids.getD i 0=(b:Int))) (List.range n)
 simpa[Qakc]using this
theorem Qa5b {fl:Bool}{ids:List Int}{b:Nat}(hl:ids.length≤1000000)(hK:∀H',Upd H H' []→K (.c (.sl false 1 (Qaa (Qoh ids b)))) H') :
  Qu prog Qu3 [.c (.sl fl 1 (Qd ids)),.c (.int .i64 b)] H K:=by
 refine Qz ?_
 refine Qb Qat Qa50 ?_
 refine Qa ?_
 simp only[go_sem]
 refine Qa ?_
 simp only[go_sem]
 refine Q4 ?_
 refine Qa ?_
 simp only[go_sem]
 refine Qh (Qc (Qw (fun m e1 H1=>∃(i:Nat) (t:C) (Lg:List (Nat×Obj)),m=ids.length-i∧i≤ids.length∧Gr Lg 1 (Qaa (Qakc ids b i)) t∧Kn H H1 [] ([]++Lg)∧
  lk 0 e1=.c (.sl fl 1 (Qd ids))∧lk 1 e1=.c (.int .i64 b)∧lk 5 e1=.c t∧lk 6 e1=.c (.int .i64 i)) ids.length ?_ ?_))
 ·exact⟨0,_,[],by omega,by omega,.nil 1,Kn.start0 H,rfl,rfl,rfl,rfl⟩
 ·rintro m e1 H1 ⟨i,t,Lg,hm,hi,hgr,kn,l0,l1,l5,l6⟩
  have htw:=hgr.isOw
  refine Q4 ?_
  refine Qa ?_
  simp only[go_sem,l0,l1,l5,l6,htw,Qf]
  intro _
  refine Qh (Qe rfl ?_ ?_)
  ·intro hc
   have hlt:i<ids.length:=by simpa using hc
   have hkl:=Qa46 ids b i
   refine Qi ?_
   try simp only[go_sem]
   refine Qdc (fun e2 H2=>∃(t:C) (Lg:List (Nat×Obj)),Gr Lg 1 (Qaa (Qakc ids b (i+1))) t∧Kn H H2 [] ([]++Lg)∧
    lk 0 e2=.c (.sl fl 1 (Qd ids))∧lk 1 e2=.c (.int .i64 b)∧lk 5 e2=.c t∧lk 6 e2=.c (.int .i64 i)) ?_ ?_
   ·intro Q hnr _ _
    refine Qc ?_
    refine Qa ?_
    simp only[go_sem,htw,hlt,Qf,Qs _ _ hlt]
    refine Qe rfl ?_ ?_
    ·intro hc2
     refine Qr ?_
     simp only[go_sem,htw]
     refine kn.growR (B:=[]) (new:=Qaa [i]) hgr (.mk' _ _ _ _) (Qbl _) (by simp only[Q1,LIM,List.length_cons,List.length_nil];omega) fun t2 Lg2 H2 hgr2 ht2 kn=>?_
     simp only[go_sem,Qxz,ht2]
     refine hnr _ _ ⟨t2,Lg2,?_,kn,rfl,rfl,rfl,rfl⟩
     rw[Qadx,hc2,if_pos rfl,Qvk];exact hgr2
    ·intro hc2
     refine Qi ?_
     try simp only[go_sem]
     refine hnr _ _ ⟨t,Lg,?_,kn,rfl,rfl,rfl,rfl⟩
     rw[Qadx,hc2];simpa using hgr
   ·rintro e2 H2 ⟨t2,Lg2,hgr2,kn,l0,l1,l5,l6⟩
    have ht2:=hgr2.isOw
    refine Qr ?_
    simp only[go_sem,X.next,l0,l1,l5,l6,ht2]
    refine⟨Qo (by omega) (by omega),ids.length-(i+1),by omega,i+1,t2,Lg2,rfl,by omega,hgr2,kn,?_⟩
    first|exact⟨rfl,rfl,rfl,rfl⟩|exact rfl|trivial
  ·intro hc
   have hge:i=ids.length:=by have:ids.length≤i:=(by simpa using hc);omega
   refine Qt ?_
   simp only[go_sem,X.next]
   refine Qa ?_
   simp only[go_sem,l5,htw]
   refine Qj ?_
   simp only[go_sem,Q5,Qae,Qak7,List.mem_singleton,forall_eq,RS.op,htw]
   have e:Qakc ids b i=Qoh ids b:=by rw[hge];rfl
   rw[e]at hgr
   exact⟨_,.c _ _ (hgr.frz kn (Qbl _)),hK _ kn.fin⟩
end Go.AE.Y

namespace Go.AE.Y
attribute [local go_sem] cond_true cond_false Bool.not_true Bool.not_false
open Go.Proofs.Tryz
variable {H H0:Heap}{K:V→Heap→Prop}{E B Lg:List (Nat×Obj)}
set_option maxHeartbeats 2000000 in
theorem Qa05 {fl:Bool}{n:Nat}{g:Nat→List Nat}(hn0:0<n)(hn:n≤1000000)(hK:∀ids H',Tree n ids (depL n g)→Upd H H' []→K (.c (.sl false 1 (Qd ids))) H') :
  Qu prog Qqg [.c (.sl fl 1 (Q2q n g n))] H K:=by
 have hm1:Int.toNat (-1)=0:=rfl
 refine Qz ?_
 refine Qb Qat Qa1g ?_
 refine Qa ?_
 simp only[go_sem]
 refine Qa ?_
 simp only[go_sem]
 refine Q4 ?_
 refine Qa ?_
 simp only[go_sem]
 refine Qh (Qc (Qw (fun m e1 H1=>∃(b:Nat) (ids:List Int) (t:C) (Lg:List (Nat×Obj)),m=n-b∧b≤n∧ids.length=b∧(∀x,x<b→ids.getD x 0=-1∨∃a:Nat,ids.getD x 0=a∧a<n∧depL n g a<depL n g x)∧Gr Lg 1 (Qd ids) t∧Kn H H1 [] ([]++Lg)∧
  lk 0 e1=.c (.sl fl 1 (Q2q n g n))∧lk 3 e1=.c t∧lk 4 e1=.c (.int .i64 b)) n ?_ ?_))
 ·exact⟨0,[],_,[],by omega,by omega,rfl,fun x hx=>by omega,.nil 1,Kn.start0 H,rfl,rfl,rfl⟩
 ·rintro m e1 H1 ⟨b,ids,t,Lg,hm,hb,hil,hids,hgr,kn,l0,l3,l4⟩
  have htw:=hgr.isOw
  refine Q4 ?_
  refine Qa ?_
  simp only[go_sem,l0,l3,l4,htw,Qob]
  intro _
  refine Qh (Qe rfl ?_ ?_)
  ·intro hc
   have hlt:b<n:=by simpa using hc
   refine Qi ?_
   try simp only[go_sem]
   refine Qdc (fun e2 H2=>∃(v:Int),(v=-1∨∃a:Nat,v=a∧a<n∧depL n g a<depL n g b)∧∃(t:C) (Lg:List (Nat×Obj)),Gr Lg 1 (Qd (ids++[v])) t∧Kn H H2 [] ([]++Lg)∧
    lk 0 e2=.c (.sl fl 1 (Q2q n g n))∧lk 3 e2=.c t∧lk 4 e2=.c (.int .i64 b)) ?_ ?_
   ·intro Q hnr _ _
    refine Qc ?_
    refine Qa ?_
    simp only[go_sem,htw]
    refine Q4 ?_
    refine Qa ?_
    simp only[go_sem,htw]
    refine Qh (Qc (Qw (fun m e1 H1'=>∃(a:Nat) (v:Int),m=n-a∧a≤n∧H1'=H1∧(v=-1∨∃a:Nat,v=a∧a<n∧depL n g a<depL n g b)∧
     lk 0 e1=.c (.sl fl 1 (Q2q n g n))∧lk 3 e1=.c t∧lk 4 e1=.c (.int .i64 b)∧lk 5 e1=.c (.int .i64 v)∧lk 6 e1=.c (.int .i64 a)) n ?_ ?_))
    ·exact⟨0,-1,by omega,by omega,rfl,.inl rfl,rfl,rfl,rfl,rfl,rfl⟩
    ·rintro m2 e2 H2 ⟨a,v,hm2,ha,rfl,hv,l0,l3,l4,l5,l6⟩
     refine Q4 ?_
     refine Qa ?_
     simp only[go_sem,l0,l3,l4,l5,l6,htw,Qob]
     intro _
     refine Qh (Qe rfl ?_ ?_)
     ·intro hc2
      have hal:a<n:=by simpa using hc2
      have hbd:b<(Qe7 n g a).length:=by rw[Qdn];exact hlt
      refine Qi ?_
      try simp only[go_sem]
      refine Qdc (fun e2 H2'=>∃(v:Int),H2'=H2∧(v=-1∨∃a:Nat,v=a∧a<n∧depL n g a<depL n g b)∧
       lk 0 e2=.c (.sl fl 1 (Q2q n g n))∧lk 3 e2=.c t∧lk 4 e2=.c (.int .i64 b)∧lk 5 e2=.c (.int .i64 v)∧lk 6 e2=.c (.int .i64 a)) ?_ ?_
      ·intro Q2 hnr2 _ _
       refine Qc ?_
       obtain⟨w,hw,hwn,hneg⟩:∃w:Nat,v.toNat=w∧w<n∧(decide (v<0)=false→v=(w:Int)):=by
        rcases hv with rfl|⟨a',rfl,h1,_⟩
        ·exact⟨0,rfl,hn0,fun h=>by simp at h⟩
        ·exact⟨a',by omega,h1,fun _=>rfl⟩
       have had:a<(Qe7 n g w).length:=by rw[Qdn];exact hal
       refine Qa ?_
       simp only[go_sem,htw,hal,hlt,hw,hwn,Qob,Q35 hal,Q35 hwn,Qx,Qdn,Q0 _ _ hbd,Q0 _ _ had,Q26 hlt,Q26 hal]
       refine⟨fun h=>?_,?_⟩
       ·rw[Bool.and_eq_true,Bool.not_eq_true',decide_eq_false_iff_not]at h
        omega
       refine Qe rfl ?_ ?_
       ·intro hc3
        have hd:¬((a:Int)=b)∧Qry g a b=true:=by
         by_cases hab:(a:Int)=b
         ·rw[decide_eq_true hab]at hc3;simp at hc3
         ·refine⟨hab,?_⟩
          cases hd:Qry g a b with
          |true=>rfl
          |false=>rw[decide_eq_false hab,hd]at hc3;simp at hc3
        refine Qr ?_
        simp only[go_sem,htw]
        exact hnr2 _ _ ⟨(a:Int),rfl,.inr ⟨a,rfl,hal,Qbdd hlt hd.2 fun h=>hd.1 (by rw[h])⟩,rfl,rfl,rfl,rfl,rfl⟩
       ·intro _
        refine Qi ?_
        try simp only[go_sem]
        exact hnr2 _ _ ⟨v,rfl,hv,rfl,rfl,rfl,rfl,rfl⟩
      ·rintro e3 H3 ⟨v2,rfl,hv2,l0,l3,l4,l5,l6⟩
       refine Qr ?_
       simp only[go_sem,l0,l3,l4,l5,l6,htw]
       refine⟨Qo (by omega) (by omega),?_⟩
       show ∃m,_
       exact⟨n-(a+1),by rw[hm2];exact Nat.sub_lt_sub_left hal (Nat.lt_succ_self a),a+1,v2,rfl,hal,rfl,hv2,rfl,rfl,rfl,rfl,rfl⟩
     ·intro hc2
      refine Qt ?_
      simp only[go_sem,X.next]
      refine Qr ?_
      simp only[go_sem,l0,l3,l4,l5,l6,htw]
      refine kn.growR (B:=[]) (new:=Qd [v]) hgr (.mk' _ _ _ _) (Qv _) (by simp only[Qf,LIM,List.length_cons,List.length_nil];omega) fun t2 Lg2 H3 hgr2 ht2 kn=>?_
      simp only[go_sem,Qtk,ht2]
      refine hnr _ _ ⟨v,hv,t2,Lg2,?_,kn,rfl,rfl,rfl⟩
      have:Qd (ids++[v])=Qd ids++Qd [v]:=by simp[Qd]
      rw[this];exact hgr2
   ·rintro e2 H2 ⟨v,hv,t2,Lg2,hgr2,kn,l0,l3,l4⟩
    have ht2:=hgr2.isOw
    refine Qr ?_
    simp only[go_sem,X.next,l0,l3,l4,ht2]
    refine⟨Qo (by omega) (by omega),n-(b+1),by omega,b+1,ids++[v],t2,Lg2,rfl,by omega,by simp[hil],fun x hx=>?_,hgr2,kn,?_⟩
    ·by_cases hxb:x<b
     ·have e:(ids++[v]).getD x 0=ids.getD x 0:=by simp[List.getD_eq_getElem?_getD,List.getElem?_append_left (show x<ids.length by omega)]
      rw[e];exact hids x hxb
     ·have hxe:x=b:=by omega
      subst hxe
      have e:(ids++[v]).getD x 0=v:=by simp[List.getD_eq_getElem?_getD,←hil]
      rw[e];exact hv
    ·first|exact⟨rfl,rfl,rfl⟩|exact rfl|trivial
  ·intro hc
   have hbe:b=n:=by have:n≤b:=(by simpa using hc);omega
   subst hbe
   refine Qt ?_
   simp only[go_sem,X.next]
   refine Qa ?_
   simp only[go_sem,l3,htw]
   refine Qj ?_
   simp only[go_sem,Q5,Qae,Qad9,List.mem_singleton,forall_eq,RS.op,htw]
   exact⟨_,.c _ _ (hgr.frz kn (Qv _)),hK ids _ ⟨hil,hids⟩ kn.fin⟩
end Go.AE.Y

namespace Go.AE.Y
open Go.Proofs.Tryz
variable {H:Heap}{K:V→Heap→Prop}
theorem Qa40 {op:Int}(hK:K (.c (.bool (decide (1≤op)&&decide (op≤14)))) H):Qu prog Qiw [.c (.int .i64 op)] H K:=by
 refine Qb Qat Qa1b ?_
 refine Qa ?_
 simp only[go_sem]
 refine Qa ?_
 simp only[go_sem]
 refine Qcs ?_
 simp only[go_sem,Qs3]
 refine Qj ?_
 simp only[go_sem,Q5,Qae,Qad5,List.mem_singleton,forall_eq,RS.op]
 exact hK
theorem Qa9q {n:Int}(hK:K (.c (.bool (decide (0≤n)&&decide (n≤255)))) H):Qu prog Qln [.c (.int .i64 n)] H K:=by
 refine Qb Qat Qasn ?_
 refine Qa ?_
 simp only[go_sem]
 refine Qa ?_
 simp only[go_sem]
 refine Qcs ?_
 simp only[go_sem,Qpf]
 refine Qj ?_
 simp only[go_sem,Q5,Qae,Q4b,List.mem_singleton,forall_eq,RS.op]
 exact hK
theorem Qa0b {op:Int}(hK:K (.c (.bool (Qdj op))) H):Qu prog Qhb [.c (.int .i64 op)] H K:=by
 refine Qb Qat Qa5r ?_
 refine Qa ?_
 simp only[go_sem]
 refine Qa ?_
 simp only[go_sem]
 refine Qa40 ?_
 simp only[go_sem,Qw5]
 refine Qj ?_
 simp only[go_sem,Q5,Qae,Qak2,List.mem_singleton,forall_eq,RS.op]
 have:∀a b c:Bool,(bif bif a then b else false then c else false)=(a&&b&&c):=by decide
 rw[this]
 have e:(decide (1≤op)&&decide (op≤14))=decide (1≤op∧op≤14):=by simp
 rw[e];exact hK
theorem Qajr {j:Int}(hK:K (.c (.bool (decide (j=2) || decide (j=3)))) H):Qu prog Qf4 [.c (.int .i64 j)] H K:=by
 refine Qb Qat Qaso ?_
 refine Qa ?_
 simp only[go_sem]
 refine Qa ?_
 simp only[go_sem]
 refine Qj ?_
 simp only[go_sem,Q5,Qae,Q4c,List.mem_singleton,forall_eq,RS.op]
 have:∀a b:Bool,(bif a then true else b)=(a || b):=by decide
 first|(rw[this];exact hK)|exact hK
theorem Qas3 {j:Int}(hK:K (.c (.int .i64 (Qlg j))) H):Qu prog Qfe [.c (.int .i64 j)] H K:=by
 refine Qb Qat Qaam ?_
 have retf:∀(n:Int) (e:Env),Qlg j=n→lk 2 e=.c (.int .i64 n)→Q5 Qgz K .ret e H:=by
  intro b e h1 h3
  simp only[go_sem,Q5,Qae,Qgz,List.mem_singleton,forall_eq,RS.op,h3]
  rw[←h1];exact hK
 refine Qa ?_
 simp only[go_sem]
 refine Q4 ?_
 refine Qa ?_
 simp only[go_sem]
 refine Qh (Qc ?_)
 refine Qa ?_
 simp only[go_sem]
 refine Qe rfl ?_ ?_
 ·intro hc
  refine Qa ?_
  simp only[go_sem]
  refine Qj ?_
  simp only[go_sem]
  exact retf 1 _ (by simp at hc;simp[Qlg,hc]) (by simp[lk])
 intro hc1
 refine Qa ?_
 simp only[go_sem]
 refine Qe rfl ?_ ?_
 ·intro hc
  refine Qa ?_
  simp only[go_sem]
  refine Qj ?_
  simp only[go_sem]
  exact retf 2 _ (by simp at hc;simp[Qlg,hc]) (by simp[lk])
 intro hc2
 refine Qa ?_
 simp only[go_sem]
 refine Qe rfl ?_ ?_
 ·intro hc
  refine Qa ?_
  simp only[go_sem]
  refine Qj ?_
  simp only[go_sem]
  exact retf 0 _ (by simp at hc;simp[Qlg,hc]) (by simp[lk])
 ·intro hc
  refine Qi ?_
  simp only[go_sem]
  refine Qa ?_
  simp only[go_sem]
  refine Qj ?_
  exact retf (-1) _ (by simp at hc hc1 hc2;simp[Qlg,hc,hc1,hc2]) (by simp[lk])
def Qajw (op:Int):Int:=if op=1 then 0 else if op=2∨op=10∨op=11∨op=13 then 1 else 2
theorem Qa4z {op:Int}(hK:K (.c (.int .i64 (Qajw op))) H):Qu prog Qiv [.c (.int .i64 op)] H K:=by
 refine Qb Qat Qakl ?_
 have retf:∀(n:Int) (e:Env),Qajw op=n→lk 2 e=.c (.int .i64 n)→Q5 Qgd K .ret e H:=by
  intro b e h1 h3
  simp only[go_sem,Q5,Qae,Qgd,List.mem_singleton,forall_eq,RS.op,h3]
  rw[←h1];exact hK
 refine Qa ?_
 simp only[go_sem]
 refine Q4 ?_
 refine Qa ?_
 simp only[go_sem]
 refine Qh (Qc ?_)
 refine Qa ?_
 simp only[go_sem]
 refine Qe rfl ?_ ?_
 ·intro hc
  refine Qa ?_
  simp only[go_sem]
  refine Qj ?_
  simp only[go_sem]
  exact retf 0 _ (by simp at hc;simp[Qajw,hc]) (by simp[lk])
 intro hc1
 have fin:∀(b:Bool) (e:Env),b=decide (op=2∨op=10∨op=11∨op=13)→lk 6 e=.c (.bool b)→Qad prog Qpd (X.inBlock 0 (X.sq prog Qpe (Q5 Qgd K))) e H:=by
  intro b e hb l6
  refine Qe l6 ?_ ?_
  ·intro hc
   refine Qa ?_
   simp only[go_sem]
   refine Qj ?_
   simp only[go_sem]
   exact retf 1 _ (by rw[hc]at hb;have:=of_decide_eq_true hb.symm;simp at hc1;rw[Qajw,if_neg hc1,if_pos this]) (by simp[lk])
  ·intro hc
   refine Qi ?_
   simp only[go_sem]
   refine Qa ?_
   simp only[go_sem]
   refine Qj ?_
   exact retf 2 _ (by rw[hc]at hb;have:=of_decide_eq_false hb.symm;simp at hc1;rw[Qajw,if_neg hc1,if_neg this]) (by simp[lk])
 refine Q4 ?_
 refine Qa ?_
 simp only[go_sem]
 refine Qh (Qe rfl ?_ ?_)
 ·intro hc
  refine Qi ?_
  simp only[go_sem]
  exact fin true _ (decide_eq_true (.inl (of_decide_eq_true hc))).symm (by simp[lk];exact of_decide_eq_true hc)
 intro hc2
 refine Qa ?_
 simp only[go_sem]
 refine Qe rfl ?_ ?_
 ·intro hc
  refine Qi ?_
  simp only[go_sem]
  exact fin true _ (decide_eq_true (.inr (.inl (of_decide_eq_true hc)))).symm (by simp[lk];exact of_decide_eq_true hc)
 intro hc3
 refine Qa ?_
 simp only[go_sem]
 refine Qe rfl ?_ ?_
 ·intro hc
  refine Qi ?_
  simp only[go_sem]
  exact fin true _ (decide_eq_true (.inr (.inr (.inl (of_decide_eq_true hc))))).symm (by simp[lk];exact of_decide_eq_true hc)
 intro hc4
 refine Qr ?_
 simp only[go_sem]
 refine fin (decide (op=13)) _ ?_ (by simp[lk])
 have a2:=of_decide_eq_false hc2
 have a3:=of_decide_eq_false hc3
 have a4:=of_decide_eq_false hc4
 simp[a2,a3,a4]
end Go.AE.Y

namespace Go.AE.Y
open Go.Proofs.Tryz
variable {H:Heap}{K:V→Heap→Prop}
theorem Qaro {l:List BlkD}(hf:∀b∈l,b.ins.length≤2 ^ 38∧b.phis.length≤2 ^ 38):Qli Qz0 l≤l.length * 549755813888:=by
 induction l with
 |nil=>simp[Qli]
 |cons y l ih=>
  have h1:=hf y List.mem_cons_self
  have h2:=ih fun b hb=>hf b (List.mem_cons_of_mem _ hb)
  simp only[Qli,List.map_cons,List.sum_cons,Qz0,List.length_cons]at *
  omega
set_option maxHeartbeats 1000000 in
theorem Qary {q:CodeD}{fl:Bool}(hf:q.fits)(hb:q.blocks.length≤160)(hK:∀H',Upd H H' []→K (.c (.int .i64 (cntQ q))) H') :
  Qu prog Qfa [.ag [.int .i64 q.params,.int .i64 q.regs,.sl fl 5 (Qn q.blocks)]] H K:=by
 refine Qz ?_
 refine Qb Qat Qaah ?_
 have hsb:=Qaro hf
 refine Qa ?_
 simp only[go_sem]
 refine Qa ?_
 simp only[go_sem]
 refine Q4 ?_
 refine Qa ?_
 simp only[go_sem,Qk]
 intro _
 refine Qh (Qc (Qw (fun m e1 H1=>∃(i:Nat),m=q.blocks.length-i∧i≤q.blocks.length∧Kn H H1 [] []∧
  e1=[(3,.c (.int .i64 (Qli Qz0 (q.blocks.take i):Nat))),(7,.c (.sl fl 5 (Qn q.blocks))),(8,.c (.int .i64 q.blocks.length)),(9,.c (.int .i64 i))]) q.blocks.length ?_ ?_))
 ·exact⟨0,by omega,by omega,Kn.start0 H,rfl⟩
 ·rintro m e1 H1 ⟨i,hm,hi,kn,rfl⟩
  refine Qa ?_
  simp only[go_sem]
  refine Qh (Qe rfl ?_ ?_)
  ·intro hc
   have hlt:i<q.blocks.length:=by simpa using hc
   have hbf:=hf _ (List.getElem_mem hlt)
   have hss:=Qio (f:=Qz0) hlt
   have hle:=Qay7 (f:=Qz0) (l:=q.blocks) (i+1)
   have hcy:Qz0 q.blocks[i]=q.blocks[i].ins.length+q.blocks[i].phis.length:=rfl
   have hmul:q.blocks.length * 549755813888≤160 * 549755813888:=Nat.mul_le_mul_right _ hb
   refine Qi ?_
   simp only[go_sem]
   refine Qh (Qc ?_)
   refine Qa ?_
   simp only[go_sem,hlt,Qk,Q9 _ _ hlt,BlkD.cells]
   intro x5 hx5 H2 h2
   have kn:=kn.al hx5 h2
   have hx5:=kn.l 0 rfl
   simp only[go_sem,Qhw,hx5]
   intro H3 h3
   have kn:Kn H H3 [] ([]++[(x5,.st [.sl false 2 (Qab q.blocks[i].phis),.sl false 4 (Qa6 q.blocks[i].ins),.int .i64 q.blocks[i].jump,.int .i64 q.blocks[i].on,.sl false 1 (Qd q.blocks[i].next)])]):=kn.stL 0 rfl h3
   have hx5:=kn.l 0 rfl
   refine Qr ?_
   simp only[go_sem,hx5,Qav,Q7]
   intro _ _
   refine⟨Qo (by omega) (by omega),Qo (by omega) (by omega),?_⟩
   refine Qr ?_
   simp only[go_sem,X.next]
   refine⟨Qo (by omega) (by omega),q.blocks.length-(i+1),by omega,i+1,rfl,by omega,kn.drop,?_⟩
   rw[hss,hcy]
   have:((Qli Qz0 (q.blocks.take i):Nat):Int)+((q.blocks[i].phis.length:Int)+q.blocks[i].ins.length)=((Qli Qz0 (q.blocks.take i)+(q.blocks[i].ins.length+q.blocks[i].phis.length):Nat):Int):=by omega
   rw[this];rfl
  ·intro hc
   have hge:q.blocks.length≤i:=by simpa using hc
   refine Qt ?_
   simp only[go_sem,X.next]
   refine Qa ?_
   simp only[go_sem]
   refine Qj ?_
   simp only[go_sem,Q5,Qae,Qox,List.mem_singleton,forall_eq,RS.op]
   rw[List.take_of_length_le hge]
   exact⟨_,.c _ _ (Qg rfl),hK _ kn.fin⟩
end Go.AE.Y

namespace Go.AE.Y
open Go.Proofs.Tryz
variable {H:Heap}{K:V→Heap→Prop}
theorem Qadv {x7:Nat}{q:CodeD}{v:Int}(h7:H x7=.st q.cells)(hr:-(2^62)≤q.regs)(hr2:q.regs≤2^62)(hK:K (.c (.bool (decide (0≤v∧v≤q.regs-1)))) H) :
  Qu prog Qct [.c (.int .i64 v),.c (.ptr x7 0)] H K:=by
 refine Qb Qat Qafo ?_
 refine Qa ?_
 simp only[go_sem]
 refine Qa ?_
 simp only[go_sem,h7,CodeD.cells]
 refine⟨Qo (by omega) (by omega),?_⟩
 refine Qcs ?_
 simp only[go_sem,Qjv]
 refine Qj ?_
 simp only[go_sem,Q5,Qae,Qsg,List.mem_singleton,forall_eq,RS.op]
 have e:(decide (0≤v)&&decide (v≤q.regs-1))=decide (0≤v∧v≤q.regs-1):=by simp
 rw[e];exact hK
theorem Qa00 {x7 x8:Nat}{q:CodeD}{v:Int}(h7:H x7=.st q.cells)(h8:H x8=.st [.fn Qct [.ptr x7 0]])(hr:-(2^62)≤q.regs)(hr2:q.regs≤2^62)(hK:K (.c (.bool (!decide (0≤v∧v≤q.regs-1)))) H) :
  Qu prog Qgq [.c (.int .i64 v),.c (.ptr x8 0)] H K:=by
 refine Qb Qat Qafp ?_
 refine Qa ?_
 simp only[go_sem]
 refine Qa ?_
 simp only[go_sem,h8,List.cons_append,List.nil_append,List.map_cons,List.map_nil]
 refine Qadv h7 hr hr2 ?_
 simp only[go_sem,Qjw]
 refine Qj ?_
 simp only[go_sem,Q5,Qae,Qsh,List.mem_singleton,forall_eq,RS.op]
 exact hK
theorem Qarx (p:Int→Bool)(l:List Int):(l.any fun x=>!p x) = !l.all p:=by
 induction l with
 |nil=>rfl
 |cons x l ih=>simp only[List.any_cons,List.all_cons,ih];cases p x <;> simp
set_option maxHeartbeats 1000000 in
theorem Qbdu {cs:List CodeD}{fl:Bool}{k:Nat}{x:InsD}(hk:k<cs.length)(hr:0≤cs[k].regs)(hr2:cs[k].regs≤300)(hcl:cs.length≤100)(hK:∀(H':Heap),Upd H H' []→K (.c (.bool (insG cs k x))) H') :
  Qu prog Qqd [.ag [.sl fl 3 (Qq cs)],.c (.int .i64 k),.ag x.cells] H K:=by
 refine Qz ?_
 refine Qb Qat Qa1a ?_
 refine Qa ?_
 simp only[go_sem,InsD.cells]
 refine Qa ?_
 simp only[go_sem,hk,Q3,Qaf _ _ hk,CodeD.cells]
 intro x7 hx7 H1 h1
 have kn:=(Kn.start0 H).al hx7 h1
 have hx7:=kn.l 0 rfl
 simp only[go_sem,Qs0,hx7]
 intro H2 h2
 have kn:=kn.stL 0 rfl h2
 refine Qa ?_
 simp only[go_sem]
 intro x8 hx8 H3 h3
 have kn:=kn.al hx8 h3
 have hx8:=kn.l 1 rfl
 simp only[go_sem,Qs1,hx8]
 intro H4 h4
 have kn:Kn H H4 [] [(x7,.st cs[k].cells),(x8,.st [.fn Qct [.ptr x7 0]])]:=kn.stL 1 rfl h4
 have h7:H4 x7=.st cs[k].cells:=kn.l 0 rfl
 have h8:=kn.l 1 rfl
 have hrg:=Qate hk
 have retf:∀(b:Bool) (e:Env),insG cs k x=b→lk 6 e=.c (.bool b)→Q5 Qhl (fun x H'=>∃x',FrzV H' (un H) x x'∧K x' (H'.frz (un H))) .ret e H4:=by
  intro b e h1 h3
  simp only[go_sem,Q5,Qae,Qhl,List.mem_singleton,forall_eq,RS.op,h3]
  rw[←h1];exact⟨_,.c _ _ (Qg rfl),hK _ kn.fin⟩
 refine Q4 ?_
 refine Qa ?_
 simp only[go_sem]
 refine Qa40 ?_
 simp only[go_sem,Qs2]
 have rest2:∀(E1:Env) (b:Bool),insH cs[k].regs x=true→insT cs[k].regs x=(!b)→lk 1 E1=.c (.int .i64 k)→lk 3 E1=.c (.pp [.sl fl 3 (Qq cs)])→lk 5 E1=.c (.pp [.int .i64 x.op,.int .i64 x.to,.sl false 1 (Qd x.args),.int .i64 x.n])→lk 45 E1=.c (.bool b)→
   Qad prog (s_im_insOk_8.seq Qsy) (Q5 Qhl (fun x H'=>∃x',FrzV H' (un H) x x'∧K x' (H'.frz (un H)))) E1 H4:=by
  intro E1 b hb1 hb2 l1 l3 l5 l45
  refine Qh (Qe l45 ?_ ?_)
  ·intro hc
   refine Qa ?_
   simp only[go_sem]
   refine Qj ?_
   simp only[go_sem]
   exact retf false _ (by rw[insG,hrg,hb2,hc];simp) (by simp[lk])
  intro hc
  rw[hc]at hb2
  have hG:insG cs k x=insL cs k x:=by rw[insG,hrg,hb1,hb2];rfl
  have hop14:1≤x.op∧x.op≤14:=by
   simp only[insH,Bool.and_eq_true,decide_eq_true_eq]at hb1
   exact hb1.1
  refine Qi ?_
  simp only[go_sem]
  refine Q4 ?_
  refine Qa ?_
  simp only[go_sem,l1,l3,l5]
  refine Qh (Qc ?_)
  refine Qa ?_
  simp only[go_sem]
  refine Qe rfl ?_ ?_
  ·intro hc
   have hop:x.op=1:=of_decide_eq_true hc
   have hL:insL cs k x=(decide ((x.args.length:Int)=0)&&(decide (0≤x.n)&&decide (x.n≤255))):=by
    rw[insL,if_neg (by omega)]
    simp[Qp9,hop]
   refine Qa ?_
   simp only[go_sem,Qf]
   intro _
   refine⟨fun hb=>?_,fun hb=>?_⟩
   ·refine Qa9q ?_
    simp only[go_sem,Qjc]
    refine Qj ?_
    simp only[go_sem]
    refine retf _ _ ?_ (by simp[lk];rfl)
    have hb':x.args=[]:=List.length_eq_zero_iff.1 (by have:=of_decide_eq_true hb;omega)
    rw[hG,hL];simp[hb']
   ·simp only[go_sem,Qjc,hb]
    refine Qj ?_
    simp only[go_sem]
    exact retf false _ (by rw[hG,hL,hb];rfl) (by simp[lk])
  intro hc1
  have hop1:¬x.op=1:=of_decide_eq_false hc1
  refine Qa ?_
  simp only[go_sem]
  refine Qe rfl ?_ ?_
  ·intro hc
   have hop:x.op=14:=of_decide_eq_true hc
   rw[insL,if_pos hop]at hG
   refine Qak ?_
   simp only[go_sem]
   refine⟨Qo (by omega) (by omega),?_⟩
   refine Qcs ?_
   by_cases hin:0≤x.n∧x.n≤(k:Int)-1
   ·obtain⟨m,hm⟩:=Int.eq_ofNat_of_zero_le hin.1
    have hmk:m<cs.length:=by omega
    have h1:(0≤(m:Int))=True:=eq_true (by omega)
    have h2:((m:Int)≤(k:Int)-1)=True:=eq_true (by omega)
    simp only[go_sem,Qd7,hm,h1,h2,hmk,decide_true,Bool.and_self,Q3,Qaf _ _ hmk,CodeD.cells,Qf]
    refine Qj ?_
    simp only[go_sem]
    refine retf _ _ ?_ (by simp[lk];rfl)
    rw[hG,hm,Int.toNat_natCast,Qas6 hmk]
    simp only[h1,h2,and_self,decide_true,Bool.true_and]
   ·have hin':(decide (0≤x.n)&&decide (x.n≤(k:Int)-1))=false:=by simpa using hin
    have hin2:decide (0≤x.n∧x.n≤(k:Int)-1)=false:=by simpa using hin
    by_cases hm:x.n.toNat<cs.length
    ·simp only[go_sem,Qd7,hin',Qaf _ _ hm,CodeD.cells]
     refine Qj ?_
     simp only[go_sem]
     exact retf false _ (by rw[hG,hin2];rfl) (by simp[lk])
    ·have hgd:(Qq cs).getD x.n.toNat []=[]:=by
      rw[List.getD_eq_getElem?_getD,List.getElem?_eq_none (by rw[Q3];omega)];rfl
     simp only[go_sem,Qd7,hin',hgd,List.take_nil,List.headD_nil]
     refine Qj ?_
     simp only[go_sem]
     exact retf false _ (by rw[hG,hin2];rfl) (by simp[lk])
  ·intro hc
   have hop:¬x.op=14:=of_decide_eq_false hc
   have hA:Qp9 x.op=Qajw x.op:=by
    rw[Qp9,Qajw,if_neg hop1,if_neg hop1]
    split
    ·rfl
    ·rw[if_pos (by omega)]
   have hL:insL cs k x=(decide (x.n=0)&&decide ((x.args.length:Int)=Qajw x.op)):=by
    rw[insL,if_neg hop,hA]
    by_cases hn:x.n=0
    ·simp[hn]
    ·simp[hn,hop1]
   refine Qi ?_
   simp only[go_sem]
   refine Qak ?_
   simp only[go_sem,Qf]
   refine⟨fun hb=>?_,fun hb=>?_⟩
   ·refine Qa4z ?_
    simp only[go_sem,Qg6,hb,Qf]
    refine Qj ?_
    refine retf _ _ ?_ (by simp[lk];rfl)
    have hb':=of_decide_eq_true hb
    rw[hG,hL];simp[hb']
   ·simp only[go_sem,Qg6,hb,Qf]
    refine Qj ?_
    exact retf false _ (by rw[hG,hL,hb];rfl) (by simp[lk])
 have rest:∀(E1:Env) (b:Bool),insH cs[k].regs x=(!b)→lk 1 E1=.c (.int .i64 k)→lk 3 E1=.c (.pp [.sl fl 3 (Qq cs)])→lk 5 E1=.c (.pp [.int .i64 x.op,.int .i64 x.to,.sl false 1 (Qd x.args),.int .i64 x.n])→lk 8 E1=.c (.ptr x8 0)→lk 24 E1=.c (.bool b)→
   Qad prog (s_im_insOk_4.seq Qsz) (Q5 Qhl (fun x H'=>∃x',FrzV H' (un H) x x'∧K x' (H'.frz (un H)))) E1 H4:=by
  intro E1 b hb l1 l3 l5 l8 l24
  refine Qh (Qe l24 ?_ ?_)
  ·intro hc
   refine Qa ?_
   simp only[go_sem]
   refine Qj ?_
   simp only[go_sem]
   exact retf false _ (by rw[insG,hrg,hb,hc];rfl) (by simp[lk])
  intro hc
  rw[hc]at hb
  refine Qi ?_
  simp only[go_sem]
  refine Q4 ?_
  refine Qa ?_
  simp only[go_sem,l1,l3,l5,l8]
  refine Qa0b ?_
  cases hmk:Qdj x.op with
  |true=>
   simp only[go_sem,cond_true,cond_false,Bool.not_true,Bool.not_false,Qjb,l1,l3,l5,l8,h8]
   refine Qadv h7 (by omega) (by omega) ?_
   have hT:insT cs[k].regs x=decide (0≤x.to∧x.to≤cs[k].regs-1):=by rw[insT,hmk];rfl
   cases hd:decide (0≤x.to∧x.to≤cs[k].regs-1)with
   |true=>
    simp only[go_sem,cond_true,cond_false,Bool.not_true,Bool.not_false,Qe0,l1,l3,l5,l8,h8]
    refine Qa0b ?_
    simp only[go_sem,cond_true,cond_false,Bool.not_true,Bool.not_false,Qez,l1,l3,l5,l8,hmk]
    exact rest2 _ false hb (by rw[hT,hd];rfl) (by simp[lk]) (by simp[lk]) (by simp[lk]) (by simp[lk])
   |false=>
    simp only[go_sem,cond_true,cond_false,Bool.not_true,Bool.not_false,Qe0,Qez,l1,l3,l5,l8,h8]
    exact rest2 _ true hb (by rw[hT,hd];rfl) (by simp[lk]) (by simp[lk]) (by simp[lk]) (by simp[lk])
  |false=>
   have hT:insT cs[k].regs x=decide (x.to=-1):=by rw[insT,hmk];rfl
   simp only[go_sem,cond_true,cond_false,Bool.not_true,Bool.not_false,Qjb,Qe0,l1,l3,l5,l8,h8]
   refine Qa0b ?_
   simp only[go_sem,cond_true,cond_false,Bool.not_true,Bool.not_false,Qez,l1,l3,l5,l8,hmk]
   refine rest2 _ (!decide (x.to=-1)) hb ?_ ?_ ?_ ?_ ?_
   ·rw[hT];simp
   ·rfl
   ·rfl
   ·rfl
   ·rfl
 cases hi:(decide (1≤x.op)&&decide (x.op≤14))with
 |false=>
  simp only[go_sem,Qja]
  refine rest _ true ?_ (by simp[lk]) (by simp[lk]) (by simp[lk]) (by simp[lk]) (by simp[lk])
  have:decide (1≤x.op∧x.op≤14)=false:=by simpa using hi
  rw[insH,this];rfl
 |true=>
  simp only[go_sem,h8]
  refine Qgn (p:=fun r=>!decide (0≤r∧r≤cs[k].regs-1)) (.mk' _ _ _ _) rfl (fun v K' hv hK'=>Qa00 h7 h8 (by omega) (by omega) hK') ?_
  simp only[go_sem,Qja]
  refine rest _ (x.args.any fun r=>!decide (0≤r∧r≤cs[k].regs-1)) ?_ (by simp[lk]) (by simp[lk]) (by simp[lk]) (by simp[lk]) (by simp[lk])
  have:decide (1≤x.op∧x.op≤14)=true:=by simpa using hi
  rw[insH,this,Qarx,Ql6];simp
end Go.AE.Y

namespace Go.AE.Y
attribute [local go_sem] cond_true cond_false Bool.not_true Bool.not_false
open Go.Proofs.Tryz
variable {H:Heap}{K:V→Heap→Prop}
theorem Qajt {fl:Bool}{l:List InsD}{f:Nat}{caps:List C}{p:InsD→Bool}
  (hf:∀(x:InsD) (H1:Heap) (K':V→Heap→Prop),x∈l→(∀H2,Upd H1 H2 []→K' (.c (.bool (p x))) H2)→Qu prog f ([.ag x.cells]++caps.map .c) H1 K')
  (hK:∀(r:Int) (H':Heap),Upd H H' []→decide (0≤r)=l.any p→K (.c (.int .i64 r)) H') :
  Qu prog Qc2 [.c (.sl fl 4 (Qa6 l)),.c (.fn f caps)] H K:=by
 refine Qz ?_
 refine Qb Qat Qsb ?_
 refine Qa ?_
 simp only[go_sem]
 refine Q4 ?_
 refine Qa ?_
 simp only[go_sem,Qav]
 intro hl
 simp only[LIM]at hl
 refine Qh (Qc (Qw (fun m e1 H1=>∃(i:Nat),m=l.length-i∧i≤l.length∧Kn H H1 [] []∧(∀x∈l.take i,p x=false)∧e1=[(0,.c (.sl fl 4 (Qa6 l))),(1,.c (.fn f caps)),(7,.c (.int .i64 l.length)),(8,.c (.int .i64 i))]) l.length ?_ ?_))
 ·exact⟨0,by omega,by omega,Kn.start0 H,by simp,rfl⟩
 ·rintro m e1 H1 ⟨i,hm,hi,kn,hall,rfl⟩
  refine Qa ?_
  simp only[go_sem]
  refine Qh (Qe rfl ?_ ?_)
  ·intro hc
   have hlt:i<l.length:=by simpa using hc
   refine Qi ?_
   simp only[go_sem]
   refine Qh (Qc ?_)
   refine Qa ?_
   simp only[go_sem]
   refine Qa ?_
   simp only[go_sem,hlt,Qav,Qcl _ _ hlt,InsD.take4,InsD.allOw,InsD.len4]
   refine hf _ _ _ (List.getElem_mem hlt) fun H2 hu=>?_
   have kn:=kn.call0 hu
   refine Qe rfl ?_ ?_
   ·intro hc2
    refine Qa ?_
    simp only[go_sem]
    refine Qj ?_
    simp only[go_sem,X.next,Q5,Qae,Qdk,List.mem_singleton,forall_eq,RS.op]
    refine⟨_,.c _ _ (Qg rfl),hK _ _ kn.fin ?_⟩
    have:l.any p=true:=List.any_eq_true.2 ⟨_,List.getElem_mem hlt,hc2⟩
    rw[this];simp
   ·intro hc2
    refine Qi ?_
    simp only[go_sem]
    refine Qr ?_
    simp only[go_sem,X.next]
    refine⟨Qo (by omega) (by omega),l.length-(i+1),by omega,i+1,rfl,by omega,kn,?_,rfl⟩
    rw[List.take_succ_eq_append_getElem hlt]
    intro x hx
    rcases List.mem_append.1 hx with hx|hx
    ·exact hall x hx
    ·simp only[List.mem_singleton]at hx;subst hx;exact hc2
  ·intro hc
   have hge:l.length≤i:=by simpa using hc
   rw[List.take_of_length_le hge]at hall
   refine Qt ?_
   simp only[go_sem,X.next]
   refine Qa ?_
   simp only[go_sem]
   refine Qj ?_
   simp only[go_sem,Q5,Qae,Qdk,List.mem_singleton,forall_eq,RS.op]
   refine⟨_,.c _ _ (Qg rfl),hK _ _ kn.fin ?_⟩
   have:l.any p=false:=by
    cases hc:l.any p with
    |false=>rfl
    |true=>obtain⟨x,hx,hp⟩:=List.any_eq_true.1 hc;rw[hall x hx]at hp;exact absurd hp (by simp)
   rw[this];rfl
theorem Q2z {fl:Bool}{l:List InsD}{f:Nat}{caps:List C}{p:InsD→Bool}
  (hf:∀(x:InsD) (H1:Heap) (K':V→Heap→Prop),x∈l→(∀H2,Upd H1 H2 []→K' (.c (.bool (p x))) H2)→Qu prog f ([.ag x.cells]++caps.map .c) H1 K')
  (hK:∀(H':Heap),Upd H H' []→K (.c (.bool (l.any p))) H') :
  Qu prog Qcc [.c (.sl fl 4 (Qa6 l)),.c (.fn f caps)] H K:=by
 refine Qb Qat Qly ?_
 refine Qa ?_
 simp only[go_sem]
 refine Qa ?_
 simp only[go_sem]
 refine Qajt hf fun r H' hu hr=>?_
 simp only[go_sem,Qdb]
 refine Qj ?_
 simp only[go_sem,Q5,Qae,Qee,List.mem_singleton,forall_eq,RS.op]
 rw[hr];exact hK _ hu
theorem Qqa {x5:Nat}{q:CodeD}{v:Int}(h5:H x5=.st q.cells)(hr:-(2^62)≤q.regs)(hr2:q.regs≤2^62)(hK:K (.c (.bool (decide (0≤v∧v≤q.regs-1)))) H) :
  Qu prog Qai [.c (.int .i64 v),.c (.ptr x5 0)] H K:=by
 refine Qb Qat Qaai ?_
 refine Qa ?_
 simp only[go_sem]
 refine Qa ?_
 simp only[go_sem,h5,CodeD.cells]
 refine⟨Qo (by omega) (by omega),?_⟩
 refine Qcs ?_
 simp only[go_sem,Qhx]
 refine Qj ?_
 simp only[go_sem,Q5,Qae,Qoy,List.mem_singleton,forall_eq,RS.op]
 have e:(decide (0≤v)&&decide (v≤q.regs-1))=decide (0≤v∧v≤q.regs-1):=by simp
 rw[e];exact hK
theorem Qarz {x5:Nat}{q:CodeD}{v:Int}(h5:H x5=.st q.cells)(hb:q.blocks.length≤2 ^ 38)(hK:K (.c (.bool (!Qz4 (Qn q.blocks).length v))) H) :
  Qu prog Qfb [.c (.int .i64 v),.c (.ptr x5 0)] H K:=by
 refine Qb Qat Qaaj ?_
 refine Qa ?_
 simp only[go_sem]
 refine Qa ?_
 simp only[go_sem,h5,CodeD.cells,Qk]
 intro _
 refine⟨Qo (by omega) (by omega),?_⟩
 refine Qcs ?_
 simp only[go_sem,Qhy]
 refine Qj ?_
 simp only[go_sem,Q5,Qae,Qoz,List.mem_singleton,forall_eq,RS.op]
 have e:(decide (1≤v)&&decide (v≤(q.blocks.length:Int)-1))=Qz4 (Qn q.blocks).length v:=by simp[Qz4,Qk]
 rw[e];exact hK
theorem Qar0 {cs:List CodeD}{fl:Bool}{k:Nat}{x:InsD}(hk:k<cs.length)(hr:0≤cs[k].regs)(hr2:cs[k].regs≤300)(hcl:cs.length≤100)(hK:∀(H':Heap),Upd H H' []→K (.c (.bool (!insG cs k x))) H') :
  Qu prog Qfc [.ag x.cells,.c (.pp [.sl fl 3 (Qq cs)]),.c (.pp [.int .i64 k])] H K:=by
 refine Qb Qat Qaak ?_
 refine Qa ?_
 simp only[go_sem,InsD.cells]
 refine Qa ?_
 simp only[go_sem]
 refine Qbdu hk hr hr2 hcl fun H' hu=>?_
 simp only[go_sem,Qhz]
 refine Qj ?_
 simp only[go_sem,Q5,Qae,Qo0,List.mem_singleton,forall_eq,RS.op]
 exact hK _ hu
theorem Qar1 {x5 x6:Nat}{q:CodeD}{v:Int}(h5:H x5=.st q.cells)(h6:H x6=.st [.fn Qai [.ptr x5 0]])(hr:-(2^62)≤q.regs)(hr2:q.regs≤2^62)(hK:K (.c (.bool (!decide (0≤v∧v≤q.regs-1)))) H) :
  Qu prog Qfd [.c (.int .i64 v),.c (.ptr x6 0)] H K:=by
 refine Qb Qat Qaal ?_
 refine Qa ?_
 simp only[go_sem]
 refine Qa ?_
 simp only[go_sem,h6,List.cons_append,List.nil_append,List.map_cons,List.map_nil]
 refine Qqa h5 hr hr2 ?_
 simp only[go_sem,Qh0]
 refine Qj ?_
 simp only[go_sem,Q5,Qae,Qo1,List.mem_singleton,forall_eq,RS.op]
 exact hK
end Go.AE.Y

namespace Go.AE.Y
attribute [local go_sem] cond_true cond_false Bool.not_true Bool.not_false
open Go.Proofs.Tryz
variable {H:Heap}{K:V→Heap→Prop}
attribute [local instance] Classical.propDecidable
def blkC (b:BlkD):Obj:=.st [.sl false 2 (Qab b.phis),.sl false 4 (Qa6 b.ins),.int .i64 b.jump,.int .i64 b.on,.sl false 1 (Qd b.next)]
theorem Qaj1 {cs:List CodeD}{k:Nat}{hk:k<cs.length}(h:¬Qaad cs k hk):decide (Qaad cs k hk)=false:=decide_eq_false h
set_option maxHeartbeats 2000000 in
theorem Qa88 {cs:List CodeD}{fl:Bool}{k:Nat}(hk:k<cs.length)(hcl:cs.length≤100)(hfit:cs[k].fits)(hK:∀(H':Heap),Upd H H' []→K (.c (.bool (decide (Qaad cs k hk)))) H') :
  Qu prog Qlm [.ag [.sl fl 3 (Qq cs)],.c (.int .i64 k)] H K:=by
 refine Qz ?_
 refine Qb Qat Qasm ?_
 have retf:∀(v:Bool) (e:Env) (H':Heap) (L:List (Nat×Obj)),decide (Qaad cs k hk)=v→Kn H H' [] L→lk 4 e=.c (.bool v)→Q5 Qfm (fun x H'=>∃x',FrzV H' (un H) x x'∧K x' (H'.frz (un H))) .ret e H':=by
  intro v e H' L hb kn h3
  simp only[go_sem,Q5,Qae,Qfm,List.mem_singleton,forall_eq,RS.op,h3]
  rw[←hb];exact⟨_,.c _ _ (Qg rfl),hK _ kn.fin⟩
 obtain⟨q,hq⟩:∃q,cs[k]=q:=⟨_,rfl⟩
 have hP:Qaad cs k hk=(Qqk q=true∧∀(b:Nat) (h:b<q.blocks.length),blkG cs k b q q.blocks[b]=true):=by subst hq;rfl
 refine Qa ?_
 simp only[go_sem]
 refine Qa ?_
 simp only[go_sem,hk,Q3,Qaf _ _ hk,CodeD.cells,hq]
 intro x5 hx5 H1 h1
 have kn:=(Kn.start0 H).al hx5 h1
 have hx5:=kn.l 0 rfl
 simp only[go_sem,Qpa,hx5]
 intro H2 h2
 have kn:Kn H H2 [] [(x5,.st q.cells)]:=kn.stL 0 rfl h2
 have hx5:H2 x5=.st [.int .i64 q.params,.int .i64 q.regs,.sl false 5 (Qn q.blocks)]:=kn.l 0 rfl
 refine Q4 ?_
 refine Qa ?_
 simp only[go_sem,hx5]
 refine Qcs ?_
 have rest0:∀(b:Bool) (E1:Env),Qqk q=(!b)→lk 2 E1=.c (.pp [.sl fl 3 (Qq cs)])→lk 3 E1=.c (.pp [.int .i64 k])→lk 5 E1=.c (.ptr x5 0)→lk 36 E1=.c (.bool b)→
   Qad prog (s_im_codeOk_4.seq Qo9) (Q5 Qfm (fun x H'=>∃x',FrzV H' (un H) x x'∧K x' (H'.frz (un H)))) E1 H2:=by
  intro b E1 hb l2 l3 l5 l36
  refine Qh (Qe l36 ?_ ?_)
  ·intro hc
   refine Qa ?_
   simp only[go_sem]
   refine Qj ?_
   simp only[go_sem]
   exact retf false _ _ _ (Qaj1 fun h=>by rw[hP,hb,hc]at h;simp at h) kn (by simp[lk])
  intro hc
  rw[hc]at hb
  have hb':=hb
  simp only[Qqk,Bool.not_false,Bool.and_eq_true,decide_eq_true_eq]at hb'
  obtain⟨hr0,hr1,hb0,hbl⟩:0≤q.regs∧q.regs≤300∧0<q.blocks.length∧q.blocks.length≤160:=by omega
  refine Qi ?_
  simp only[go_sem]
  refine Qa ?_
  simp only[go_sem,l2,l3,l5]
  intro x6 hx6 H3 h3
  have kn:=kn.al hx6 h3
  have hx6:=kn.l 1 rfl
  simp only[go_sem,Qpb,hx6,l2,l3,l5]
  intro H4 h4
  have kn:Kn H H4 [] [(x5,.st q.cells),(x6,.st [.fn Qai [.ptr x5 0]])]:=kn.stL 1 rfl h4
  have hx5:H4 x5=.st [.int .i64 q.params,.int .i64 q.regs,.sl false 5 (Qn q.blocks)]:=kn.l 0 rfl
  refine Q4 ?_
  refine Qa ?_
  simp only[go_sem,hx5,Qk]
  intro _
  refine Qh (Qc (Qw (fun m e1 H1=>∃(j:Nat),m=q.blocks.length-j∧j≤q.blocks.length∧(∀(i:Nat) (hi:i<q.blocks.length),i<j→blkG cs k i q q.blocks[i]=true)∧Kn H H1 [] [(x5,.st q.cells),(x6,.st [.fn Qai [.ptr x5 0]])]∧
   e1=[(2,.c (.pp [.sl fl 3 (Qq cs)])),(3,.c (.pp [.int .i64 k])),(5,.c (.ptr x5 0)),(6,.c (.ptr x6 0)),(39,.c (.sl false 5 (Qn q.blocks))),(40,.c (.int .i64 q.blocks.length)),(41,.c (.int .i64 j))]) q.blocks.length ?_ ?_))
  ·exact⟨0,by omega,by omega,fun _ _ h=>by omega,kn,rfl⟩
  ·rintro m e1 H5 ⟨j,hm,hj,hdone,kn,rfl⟩
   refine Qa ?_
   simp only[go_sem]
   refine Qh (Qe rfl ?_ ?_)
   ·intro hc1
    have hlt:j<q.blocks.length:=by simpa using hc1
    have hbf:q.blocks[j].ins.length≤2 ^ 38∧q.blocks[j].phis.length≤2 ^ 38:=by subst hq;exact hfit _ (List.getElem_mem hlt)
    refine Qi ?_
    simp only[go_sem]
    refine Qdc (fun e2 H2=>Kn H H2 [] [(x5,.st q.cells),(x6,.st [.fn Qai [.ptr x5 0]])]∧blkG cs k j q q.blocks[j]=true∧lk 2 e2=.c (.pp [.sl fl 3 (Qq cs)])∧lk 3 e2=.c (.pp [.int .i64 k])∧lk 5 e2=.c (.ptr x5 0)∧lk 6 e2=.c (.ptr x6 0)∧
     lk 39 e2=.c (.sl false 5 (Qn q.blocks))∧lk 40 e2=.c (.int .i64 q.blocks.length)∧lk 41 e2=.c (.int .i64 j)) ?_ ?_
    ·intro Q hnr hrt _
     replace hrt:∀e H',Q5 Qfm (fun x H'=>∃x',FrzV H' (un H) x x'∧K x' (H'.frz (un H))) .ret e H'→Q .ret e H':=fun e H' h=>hrt e H' (by simpa only[go_sem,X.next]using h)
     have retq:∀(e:Env) (H':Heap) (L:List (Nat×Obj)),blkG cs k j q q.blocks[j]=false→Kn H H' [] L→lk 4 e=.c (.bool false)→Q .ret e H':=fun e H' L hb kn l4=>
      hrt e H' (retf false e H' L (Qaj1 fun h=>by rw[hP]at h;rw[h.2 j hlt]at hb;exact absurd hb (by simp)) kn l4)
     have hGd:blkG cs k j q q.blocks[j]=(Qog q.regs q.blocks[j]&&q.blocks[j].next.all (Qz4 (Qn q.blocks).length)&&q.blocks[j].ins.all (insG cs k)&&q.blocks[j].phis.all (phiG q.regs (Q8 (gnx q) (j:Int) (Qn q.blocks).length).length j)):=rfl
     refine Qc ?_
     refine Qa ?_
     simp only[go_sem,hlt,Qk,Q9 _ _ hlt,BlkD.cells]
     obtain⟨y,hy⟩:∃y,q.blocks[j]=y:=⟨_,rfl⟩
     rw[hy]at hGd retq hbf hnr
     rw[hy]
     intro x8 hx8 H6 h6
     have kn:=kn.al hx8 h6
     have hx8:=kn.l 2 rfl
     simp only[go_sem,Qpc,hx8]
     intro H7 h7
     have kn:Kn H H7 [] [(x5,.st q.cells),(x6,.st [.fn Qai [.ptr x5 0]]),(x8,blkC y)]:=kn.stL 2 rfl h7
     have hx5:H7 x5=.st [.int .i64 q.params,.int .i64 q.regs,.sl false 5 (Qn q.blocks)]:=kn.l 0 rfl
     have hx5':H7 x5=.st q.cells:=kn.l 0 rfl
     have hx6:=kn.l 1 rfl
     have hx8:H7 x8=.st [.sl false 2 (Qab y.phis),.sl false 4 (Qa6 y.ins),.int .i64 y.jump,.int .i64 y.on,.sl false 1 (Qd y.next)]:=kn.l 2 rfl
     have rest3:∀(E1:Env) (H8:Heap),Qog q.regs y=true→y.next.all (Qz4 (Qn q.blocks).length)=true→y.ins.all (insG cs k)=true→Kn H H8 [] [(x5,.st q.cells),(x6,.st [.fn Qai [.ptr x5 0]]),(x8,blkC y)]→
       lk 2 E1=.c (.pp [.sl fl 3 (Qq cs)])→lk 3 E1=.c (.pp [.int .i64 k])→lk 5 E1=.c (.ptr x5 0)→lk 6 E1=.c (.ptr x6 0)→lk 7 E1=.c (.int .i64 j)→lk 8 E1=.c (.ptr x8 0)→
       lk 39 E1=.c (.sl false 5 (Qn q.blocks))→lk 40 E1=.c (.int .i64 q.blocks.length)→lk 41 E1=.c (.int .i64 j)→Qad prog Qg4 (X.inBlock 1 Q) E1 H8:=by
      intro E1 H8 g1 g2 g3 kn l2 l3 l5 l6 l7 l8 l39 l40 l41
      have hx5:H8 x5=.st [.int .i64 q.params,.int .i64 q.regs,.sl false 5 (Qn q.blocks)]:=kn.l 0 rfl
      have hin:(decide (0≤(j:Int))&&decide ((j:Int)≤((Qn q.blocks).length:Int)-1))=true:=by rw[Qk];simp;omega
      refine Qa ?_
      simp only[go_sem,hx5,l2,l3,l5,l6,l7,l8,l39,l40,l41]
      refine Qa36 (rows:=Qn q.blocks) (nx:=gnx q) (Qf9 _ q false) fun fl' H9 hu=>?_
      have kn:=kn.call0 hu
      rw[Qaf4,if_pos hin]
      generalize hnp:Q8 (gnx q) (j:Int) (Qn q.blocks).length=ps
      rw[hnp]at hGd
      simp only[go_sem,Qma,l2,l3,l5,l6,l7,l8,l39,l40,l41,Qf]
      intro _
      have hx8:H9 x8=.st [.sl false 2 (Qab y.phis),.sl false 4 (Qa6 y.ins),.int .i64 y.jump,.int .i64 y.on,.sl false 1 (Qd y.next)]:=kn.l 2 rfl
      refine Qa ?_
      simp only[go_sem,hx8,Q7]
      intro _
      refine Qc (Qw (fun m e1 H1=>∃(i:Nat),m=y.phis.length-i∧i≤y.phis.length∧(y.phis.take i).all (phiG q.regs ps.length j)=true∧Kn H H1 [] [(x5,.st q.cells),(x6,.st [.fn Qai [.ptr x5 0]])]∧
       e1=[(2,.c (.pp [.sl fl 3 (Qq cs)])),(3,.c (.pp [.int .i64 k])),(5,.c (.ptr x5 0)),(6,.c (.ptr x6 0)),(7,.c (.int .i64 j)),(9,.c (.int .i64 ps.length)),(39,.c (.sl false 5 (Qn q.blocks))),(40,.c (.int .i64 q.blocks.length)),(41,.c (.int .i64 j)),(91,.c (.sl false 2 (Qab y.phis))),(92,.c (.int .i64 y.phis.length)),(93,.c (.int .i64 i))]) y.phis.length ?_ ?_)
      ·exact⟨0,by omega,by omega,rfl,kn.drop (A:=[_,_]),rfl⟩
      ·rintro m2 e1 H10 ⟨i,hm2,hi,hall,kn,rfl⟩
       refine Qa ?_
       simp only[go_sem]
       refine Qh (Qe rfl ?_ ?_)
       ·intro hc2
        have hil:i<y.phis.length:=by simpa using hc2
        refine Qi ?_
        simp only[go_sem]
        refine Qh (Qc ?_)
        refine Qa ?_
        simp only[go_sem,hil,Q7,Qa9 _ _ hil,PhiD.cells]
        obtain⟨z,hz⟩:∃z,y.phis[i]=z:=⟨_,rfl⟩
        rw[hz]
        intro x11 hx11 H11 h11
        have kn:=kn.al hx11 h11
        have hx11:=kn.l 2 rfl
        simp only[go_sem,Qmb,hx11]
        intro H12 h12
        have kn:Kn H H12 [] ([(x5,.st q.cells),(x6,.st [.fn Qai [.ptr x5 0]])]++[(x11,.st [.int .i64 z.to,.sl false 1 (Qd z.args)])]):=kn.stL 2 rfl h12
        have hx5':H12 x5=.st q.cells:=kn.l 0 rfl
        have hx6:=kn.l 1 rfl
        have hx11:=kn.l 2 rfl
        have fin:∀(b3:Bool) (E1:Env),phiG q.regs ps.length j z=(!b3)→lk 2 E1=.c (.pp [.sl fl 3 (Qq cs)])→lk 3 E1=.c (.pp [.int .i64 k])→lk 5 E1=.c (.ptr x5 0)→lk 6 E1=.c (.ptr x6 0)→lk 7 E1=.c (.int .i64 j)→lk 9 E1=.c (.int .i64 ps.length)→
          lk 39 E1=.c (.sl false 5 (Qn q.blocks))→lk 40 E1=.c (.int .i64 q.blocks.length)→lk 41 E1=.c (.int .i64 j)→lk 91 E1=.c (.sl false 2 (Qab y.phis))→lk 92 E1=.c (.int .i64 y.phis.length)→lk 93 E1=.c (.int .i64 i)→lk 118 E1=.c (.bool b3)→
          Qad prog Qo6 (X.inBlock 3 (X.sq prog Qo7 (X.next (fun e2 H2=>∃m,m<m2∧∃(i:Nat),m=y.phis.length-i∧i≤y.phis.length∧(y.phis.take i).all (phiG q.regs ps.length j)=true∧Kn H H2 [] [(x5,.st q.cells),(x6,.st [.fn Qai [.ptr x5 0]])]∧
           e2=[(2,.c (.pp [.sl fl 3 (Qq cs)])),(3,.c (.pp [.int .i64 k])),(5,.c (.ptr x5 0)),(6,.c (.ptr x6 0)),(7,.c (.int .i64 j)),(9,.c (.int .i64 ps.length)),(39,.c (.sl false 5 (Qn q.blocks))),(40,.c (.int .i64 q.blocks.length)),(41,.c (.int .i64 j)),(91,.c (.sl false 2 (Qab y.phis))),(92,.c (.int .i64 y.phis.length)),(93,.c (.int .i64 i))])
           (X.inBlock 2 (X.inBlock 1 Q))))) E1 H12:=by
         intro b3 E1 hph l2 l3 l5 l6 l7 l9 l39 l40 l41 l91 l92 l93 l118
         refine Qe l118 ?_ ?_
         ·intro hc3
          refine Qa ?_
          simp only[go_sem]
          refine Qj ?_
          simp only[go_sem,X.next]
          exact retq _ _ _ (by rw[hGd,Qaez hil (by rw[hz,hph,hc3];rfl)];simp) kn (by simp[lk])
         ·intro hc3
          refine Qi ?_
          simp only[go_sem]
          refine Qr ?_
          simp only[go_sem,X.next,l2,l3,l5,l6,l7,l9,l39,l40,l41,l91,l92,l93]
          exact⟨Qo (by omega) (by omega),y.phis.length-(i+1),by omega,i+1,rfl,by omega,by rw[Q2l hil,hall,hz,hph,hc3];rfl,kn.drop,rfl⟩
        have hpG:phiG q.regs ps.length j z=(!decide (j=0)&&decide ((z.args.length:Int)=ps.length)&&Ql6 q.regs z.args&&decide (0≤z.to∧z.to≤q.regs-1)):=rfl
        refine Qa ?_
        simp only[go_sem]
        cases hj0:decide ((j:Int)=0)with
        |true=>
         have hj0':decide (j=0)=true:=by simpa using hj0
         simp only[go_sem,Qci,Qch]
         exact fin true _ (by rw[hpG,hj0'];rfl) (by simp[lk]) (by simp[lk]) (by simp[lk]) (by simp[lk]) (by simp[lk]) (by simp[lk]) (by simp[lk]) (by simp[lk]) (by simp[lk]) (by simp[lk]) (by simp[lk]) (by simp[lk]) (by simp[lk])
        |false=>
         have hj0':decide (j=0)=false:=by simpa using hj0
         simp only[go_sem,hx11,hx6,List.cons_append,List.nil_append,List.map_cons,List.map_nil]
         refine Qqa hx5' (by omega) (by omega) ?_
         cases ht:decide (0≤z.to∧z.to≤q.regs-1)with
         |false=>
          simp only[go_sem,Qci,Qch]
          exact fin true _ (by rw[hpG,ht];simp) (by simp[lk]) (by simp[lk]) (by simp[lk]) (by simp[lk]) (by simp[lk]) (by simp[lk]) (by simp[lk]) (by simp[lk]) (by simp[lk]) (by simp[lk]) (by simp[lk]) (by simp[lk]) (by simp[lk])
         |true=>
          by_cases hal:(z.args.length:Int)=ps.length
          ·simp only[go_sem,Qci,hx11,Qf,hal,not_true_eq_false,decide_false,decide_true,Bool.not_true]
           intro _
           refine Qgn (p:=fun r=>!decide (0≤r∧r≤q.regs-1)) (.mk' _ _ _ _) rfl (fun v K' hv hK'=>Qar1 hx5' hx6 (by omega) (by omega) hK') ?_
           simp only[go_sem,Qch]
           refine fin (z.args.any fun r=>!decide (0≤r∧r≤q.regs-1)) _ ?_ (by simp[lk]) (by simp[lk]) (by simp[lk]) (by simp[lk]) (by simp[lk]) (by simp[lk]) (by simp[lk]) (by simp[lk]) (by simp[lk]) (by simp[lk]) (by simp[lk]) (by simp[lk]) (by simp[lk])
           rw[hpG,hj0',ht,Qarx,hal,Ql6];simp
          ·simp only[go_sem,Qci,Qch,hx11,Qf,hal,not_false_eq_true,decide_false,decide_true,Bool.not_false]
           intro _
           exact fin true _ (by rw[hpG];simp[hal]) (by simp[lk]) (by simp[lk]) (by simp[lk]) (by simp[lk]) (by simp[lk]) (by simp[lk]) (by simp[lk]) (by simp[lk]) (by simp[lk]) (by simp[lk]) (by simp[lk]) (by simp[lk]) (by simp[lk])
       ·intro hc2
        have hge:y.phis.length≤i:=by simpa using hc2
        rw[List.take_of_length_le hge]at hall
        refine Qt ?_
        simp only[go_sem,X.next]
        exact hnr _ _ ⟨kn,by rw[hGd,g1,g2,g3,hall];rfl,rfl,rfl,rfl,rfl,rfl,rfl,rfl⟩
     have rest2:∀(b1:Bool) (E1:Env),Qog q.regs y=(!b1)→lk 2 E1=.c (.pp [.sl fl 3 (Qq cs)])→lk 3 E1=.c (.pp [.int .i64 k])→lk 5 E1=.c (.ptr x5 0)→lk 6 E1=.c (.ptr x6 0)→lk 7 E1=.c (.int .i64 j)→lk 8 E1=.c (.ptr x8 0)→
       lk 39 E1=.c (.sl false 5 (Qn q.blocks))→lk 40 E1=.c (.int .i64 q.blocks.length)→lk 41 E1=.c (.int .i64 j)→lk 75 E1=.c (.bool b1)→Qad prog (s_im_codeOk_11.seq Qo8) (X.inBlock 1 Q) E1 H7:=by
      intro b1 E1 hb1 l2 l3 l5 l6 l7 l8 l39 l40 l41 l75
      refine Qh (Qe l75 ?_ ?_)
      ·intro hc2
       refine Qa ?_
       simp only[go_sem]
       refine Qj ?_
       simp only[go_sem]
       exact retq _ _ _ (by rw[hGd,hb1,hc2];simp) kn (by simp[lk])
      intro hc2
      rw[hc2]at hb1
      refine Qi ?_
      simp only[go_sem]
      refine Q4 ?_
      refine Qa ?_
      simp only[go_sem,hx8,l2,l3,l5,l6,l7,l8,l39,l40,l41]
      refine Qgn (p:=fun v=>!Qz4 (Qn q.blocks).length v) (.mk' _ _ _ _) rfl (fun v K' hv hK'=>Qarz hx5' (by omega) hK') ?_
      have fin:∀(b:Bool) (E1:Env) (H8:Heap),(y.next.all (Qz4 (Qn q.blocks).length)&&y.ins.all (insG cs k))=(!b)→Kn H H8 [] [(x5,.st q.cells),(x6,.st [.fn Qai [.ptr x5 0]]),(x8,blkC y)]→lk 2 E1=.c (.pp [.sl fl 3 (Qq cs)])→lk 3 E1=.c (.pp [.int .i64 k])→lk 5 E1=.c (.ptr x5 0)→lk 6 E1=.c (.ptr x6 0)→lk 7 E1=.c (.int .i64 j)→lk 8 E1=.c (.ptr x8 0)→
        lk 39 E1=.c (.sl false 5 (Qn q.blocks))→lk 40 E1=.c (.int .i64 q.blocks.length)→lk 41 E1=.c (.int .i64 j)→lk 85 E1=.c (.bool b)→Qad prog (s_im_codeOk_14.seq Qg4) (X.inBlock 1 Q) E1 H8:=by
       intro b E1 H8 hb kn l2 l3 l5 l6 l7 l8 l39 l40 l41 l85
       refine Qh (Qe l85 ?_ ?_)
       ·intro hc3
        refine Qa ?_
        simp only[go_sem]
        refine Qj ?_
        simp only[go_sem]
        exact retq _ _ _ (by rw[hGd,Bool.and_assoc (Qog _ _),hb,hc3];simp) kn (by simp[lk])
       ·intro hc3
        rw[hc3]at hb
        simp only[Bool.not_false,Bool.and_eq_true]at hb
        refine Qi ?_
        simp only[go_sem]
        exact rest3 E1 H8 hb1 hb.1 hb.2 kn l2 l3 l5 l6 l7 l8 l39 l40 l41
      rw[Qarx]
      cases ha:y.next.all (Qz4 (Qn q.blocks).length)with
      |false=>
       simp only[go_sem,Qfp,Qfo,l2,l3,l5,l6,l7,l8,l39,l40,l41]
       exact fin true _ _ (by rw[ha];rfl) kn (by simp[lk]) (by simp[lk]) (by simp[lk]) (by simp[lk]) (by simp[lk]) (by simp[lk]) (by simp[lk]) (by simp[lk]) (by simp[lk]) (by simp[lk])
      |true=>
       simp only[go_sem,Qfp,hx8,l2,l3,l5,l6,l7,l8,l39,l40,l41]
       refine Q2z (p:=fun x=>!insG cs k x) (fun x H1 K' hx hK'=>Qar0 hk (by rw[hq];exact hr0) (by rw[hq];exact hr1) hcl hK') fun H8 hu=>?_
       have kn:=kn.call0 hu
       simp only[go_sem,Qfo,l2,l3,l5,l6,l7,l8,l39,l40,l41]
       refine fin (y.ins.any fun x=>!insG cs k x) _ _ ?_ kn (by simp[lk]) (by simp[lk]) (by simp[lk]) (by simp[lk]) (by simp[lk]) (by simp[lk]) (by simp[lk]) (by simp[lk]) (by simp[lk]) (by simp[lk])
       rw[ha,←List.not_all_eq_any_not];simp
     refine Q4 ?_
     refine Qak ?_
     simp only[go_sem,hx8,Qf]
     refine Qas3 ?_
     have hjG:Qog q.regs y=(decide ((y.next.length:Int)=Qlg y.jump)&&if y.jump=1 then decide (y.on=0)else decide (0≤y.on∧y.on≤q.regs-1)):=rfl
     by_cases hn:(y.next.length:Int)=Qlg y.jump
     ·have hjmp:y.jump=1∨(y.jump=2∨y.jump=3)∧¬y.jump=1:=by
       rw[Qlg]at hn
       split at hn
       ·exact .inl ‹_›
       ·split at hn
        ·omega
        ·split at hn
         ·omega
         ·omega
      simp only[go_sem,Qfn,hx8,Qf,hn,not_true_eq_false,decide_false,decide_true,Bool.not_true]
      refine Qajr ?_
      rcases hjmp with h1|⟨h1,h2⟩
      ·have hu:(decide (y.jump=2) || decide (y.jump=3))=false:=by simp[h1]
       simp only[go_sem,Qd6,Qcx,hu,hx8]
       refine Qajr ?_
       simp only[go_sem,Qcw,hu,hx8]
       exact rest2 (!decide (y.on=0)) _ (by rw[hjG,if_pos h1,hn];simp) (by simp[lk]) (by simp[lk]) (by simp[lk]) (by simp[lk]) (by simp[lk]) (by simp[lk]) (by simp[lk]) (by simp[lk]) (by simp[lk]) (by simp[lk])
      ·have hu:(decide (y.jump=2) || decide (y.jump=3))=true:=by simpa using h1
       simp only[go_sem,Qd6,hu,hx8,hx6,List.cons_append,List.nil_append,List.map_cons,List.map_nil]
       refine Qqa hx5' (by omega) (by omega) ?_
       cases ho:decide (0≤y.on∧y.on≤q.regs-1)with
       |true=>
        simp only[go_sem,Qcx,hx8]
        refine Qajr ?_
        simp only[go_sem,Qcw,hu,hx8]
        exact rest2 false _ (by rw[hjG,if_neg h2,hn,ho];simp) (by simp[lk]) (by simp[lk]) (by simp[lk]) (by simp[lk]) (by simp[lk]) (by simp[lk]) (by simp[lk]) (by simp[lk]) (by simp[lk]) (by simp[lk])
       |false=>
        simp only[go_sem,Qcx,Qcw,hx8]
        exact rest2 true _ (by rw[hjG,if_neg h2,ho];simp) (by simp[lk]) (by simp[lk]) (by simp[lk]) (by simp[lk]) (by simp[lk]) (by simp[lk]) (by simp[lk]) (by simp[lk]) (by simp[lk]) (by simp[lk])
     ·simp only[go_sem,Qfn,Qd6,Qcx,Qcw,hx8,Qf,hn,not_false_eq_true,decide_false,decide_true,Bool.not_false]
      exact rest2 true _ (by rw[hjG];simp[hn]) (by simp[lk]) (by simp[lk]) (by simp[lk]) (by simp[lk]) (by simp[lk]) (by simp[lk]) (by simp[lk]) (by simp[lk]) (by simp[lk]) (by simp[lk])
    ·rintro e2 H8 ⟨kn,hbg,l2,l3,l5,l6,l39,l40,l41⟩
     refine Qr ?_
     simp only[go_sem,X.next,l2,l3,l5,l6,l39,l40,l41]
     refine⟨Qo (by omega) (by omega),q.blocks.length-(j+1),by omega,j+1,rfl,by omega,fun i hi hij=>?_,kn,rfl⟩
     by_cases h:i<j
     ·exact hdone i hi h
     ·have:i=j:=by omega
      subst this;exact hbg
   ·intro hc1
    have hge:q.blocks.length≤j:=by simpa using hc1
    refine Qt ?_
    simp only[go_sem,X.next]
    refine Qa ?_
    simp only[go_sem]
    refine Qj ?_
    exact retf true _ _ _ (decide_eq_true (by rw[hP];exact⟨by rw[hb];rfl,fun b h=>hdone b h (by omega)⟩)) kn (by simp[lk])
 have hH:Qqk q=(decide (0≤q.params∧q.params≤3)&&decide (q.params≤q.regs∧q.regs≤300)&&decide (1≤(q.blocks.length:Int)∧(q.blocks.length:Int)≤160)):=rfl
 by_cases hr:0≤q.regs∧q.regs≤300
 ·have hr':(decide (0≤q.regs)&&decide (q.regs≤300))=true:=by simpa using hr
  simp only[go_sem,Qg5,hr',hx5]
  refine Qcs ?_
  by_cases hp:0≤q.params∧q.params≤3∧q.params≤q.regs
  ·have hp':(decide (0≤q.params)&&decide (q.params≤if q.regs<3 then q.regs else 3))=true:=by
    split <;> simp <;> omega
   simp only[go_sem,Qd5,hp',hx5,Qk]
   intro _
   refine Qcs ?_
   simp only[go_sem,Qd4]
   refine rest0 _ _ ?_ (by simp[lk]) (by simp[lk]) (by simp[lk]) (by simp[lk];rfl)
   have a1:decide (0≤q.params∧q.params≤3)=true:=by simp;omega
   have a2:decide (q.params≤q.regs∧q.regs≤300)=true:=by simp;omega
   rw[hH,a1,a2];simp
  ·have hp':(decide (0≤q.params)&&decide (q.params≤if q.regs<3 then q.regs else 3))=false:=by
    split <;> simp <;> omega
   simp only[go_sem,Qd5,Qd4,hp',hx5]
   refine rest0 true _ ?_ (by simp[lk]) (by simp[lk]) (by simp[lk]) (by simp[lk])
   rw[hH];simp;omega
 ·have hr':(decide (0≤q.regs)&&decide (q.regs≤300))=false:=by simpa using hr
  simp only[go_sem,Qg5,Qd5,Qd4,hr',hx5]
  refine rest0 true _ ?_ (by simp[lk]) (by simp[lk]) (by simp[lk]) (by simp[lk])
  rw[hH];simp;omega
end Go.AE.Y

namespace Go.AE.Y
attribute [local go_sem] cond_true cond_false Bool.not_true Bool.not_false
open Go.Proofs.Tryz
variable {H:Heap}{K:V→Heap→Prop}
attribute [local instance] Classical.propDecidable
set_option maxHeartbeats 1000000 in
theorem Qafd {cs:List CodeD}{fl:Bool}(hfit:∀c∈cs,c.fits)(hK:∀(H':Heap),Upd H H' []→K (.c (.bool (Qnw cs))) H') :
  Qu prog Qe9 [.ag [.sl fl 3 (Qq cs)]] H K:=by
 refine Qz ?_
 refine Qb Qat Qaag ?_
 have retf:∀(b:Bool) (e:Env) (H':Heap) (L:List (Nat×Obj)),Qnw cs=b→Kn H H' [] L→lk 2 e=.c (.bool b)→Q5 Qgy (fun x H'=>∃x',FrzV H' (un H) x x'∧K x' (H'.frz (un H))) .ret e H':=by
  intro b e H' L hb kn h3
  simp only[go_sem,Q5,Qae,Qgy,List.mem_singleton,forall_eq,RS.op,h3]
  rw[←hb];exact⟨_,.c _ _ (Qg rfl),hK _ kn.fin⟩
 have kn:=Kn.start0 H
 refine Qa ?_
 simp only[go_sem]
 refine Q4 ?_
 refine Qa ?_
 simp only[go_sem,Q3]
 intro hcl
 refine Qcs ?_
 simp only[go_sem,Qhs]
 refine Qh (Qe rfl ?_ ?_)
 ·intro hc
  have hc':=Qql hc
  refine Qa ?_
  simp only[go_sem]
  refine Qj ?_
  simp only[go_sem]
  exact retf false _ _ _ (Qoa fun hu=>by have h1:=hu.1;simp at hc';omega) kn (by simp[lk])
 intro hc
 have hc':=Qed hc
 have hc4:1≤cs.length∧cs.length≤4:=by simp at hc';omega
 refine Qi ?_
 simp only[go_sem]
 refine Qa ?_
 simp only[go_sem]
 refine Q4 ?_
 refine Qa ?_
 simp only[go_sem,Q3]
 intro _
 refine Qh (Qc (Qw (fun m e1 H1=>∃(k:Nat),m=cs.length-k∧k≤cs.length∧Qli cntQ (cs.take k)≤k * (160 * 549755813888)∧(∀(i:Nat) (hi:i<cs.length),i<k→Qaad cs i hi)∧Kn H H1 [] []∧
  e1=[(1,.c (.pp [.sl fl 3 (Qq cs)])),(3,.c (.int .i64 (Qli cntQ (cs.take k):Nat))),(12,.c (.sl fl 3 (Qq cs))),(13,.c (.int .i64 cs.length)),(14,.c (.int .i64 k))]) cs.length ?_ ?_))
 ·exact⟨0,by omega,by omega,by simp[Qli],fun _ _ h=>by omega,kn,rfl⟩
 ·rintro m e1 H1 ⟨k,hm,hk,hsum,hdone,kn,rfl⟩
  refine Qa ?_
  simp only[go_sem]
  refine Qh (Qe rfl ?_ ?_)
  ·intro hc2
   have hlt:k<cs.length:=by simpa using hc2
   have hss:=Qio (f:=cntQ) hlt
   refine Qi ?_
   simp only[go_sem]
   refine Qh (Qc ?_)
   refine Qa ?_
   simp only[go_sem,hlt,Q3,Qaf _ _ hlt,CodeD.cells]
   obtain⟨q,hq⟩:∃q,cs[k]=q:=⟨_,rfl⟩
   have hqf:q.fits:=by subst hq;exact hfit _ (List.getElem_mem hlt)
   rw[hq]
   intro x5 hx5 H2 h2
   have kn:=kn.al hx5 h2
   have hx5:=kn.l 0 rfl
   simp only[go_sem,Qht,hx5]
   intro H3 h3
   have kn:Kn H H3 [] ([]++[(x5,.st [.int .i64 q.params,.int .i64 q.regs,.sl false 5 (Qn q.blocks)])]):=kn.stL 0 rfl h3
   refine Q4 ?_
   refine Qa ?_
   simp only[go_sem]
   refine Qa88 hlt (by omega) (by rw[hq];exact hqf) fun H4 hu=>?_
   have kn:=kn.call0 hu
   have hx5:=kn.l 0 rfl
   simp only[go_sem,Qhu]
   refine Qh (Qe rfl ?_ ?_)
   ·intro hc3
    have hno:=of_decide_eq_false (Qql hc3)
    refine Qa ?_
    simp only[go_sem]
    refine Qj ?_
    simp only[go_sem,X.next]
    exact retf false _ _ _ (Qoa fun hu=>hno (hu.2.1 k hlt)) kn (by simp[lk])
   ·intro hc3
    have hyes:=of_decide_eq_true (Qed hc3)
    have hbl:q.blocks.length≤160:=by
     have:=hyes.1
     rw[hq]at this
     simp only[Qqk,Bool.and_eq_true,decide_eq_true_eq]at this
     omega
    have hcq:cntQ q≤160 * 549755813888:=Nat.le_trans (Qaro hqf) (Nat.mul_le_mul_right _ hbl)
    have hk4:k * (160 * 549755813888)≤4 * (160 * 549755813888):=Nat.mul_le_mul_right _ (by omega)
    have hk1:(k+1) * (160 * 549755813888)=k * (160 * 549755813888)+160 * 549755813888:=Nat.succ_mul _ _
    rw[hq]at hss
    refine Qi ?_
    simp only[go_sem]
    refine Qa ?_
    simp only[go_sem,hx5]
    refine Qary hqf hbl fun H5 hu=>?_
    have kn:=kn.call0 hu
    simp only[go_sem,Qhv]
    refine⟨Qo (by omega) (by omega),?_⟩
    refine Qr ?_
    simp only[go_sem,X.next]
    refine⟨Qo (by omega) (by omega),cs.length-(k+1),by omega,k+1,rfl,by omega,by rw[hss,hk1];omega,fun i hi hik=>?_,kn.drop,?_⟩
    ·by_cases h:i<k
     ·exact hdone i hi h
     ·have:i=k:=by omega
      subst this;exact hyes
    ·rw[hss];rfl
  ·intro hc2
   have hge:cs.length≤k:=by simpa using hc2
   rw[List.take_of_length_le hge]
   refine Qt ?_
   simp only[go_sem,X.next]
   refine Qa ?_
   simp only[go_sem]
   refine Qj ?_
   refine retf (decide (((Qli cntQ cs:Nat):Int)≤800)) _ _ _ ?_ kn (by simp[lk])
   by_cases hs:Qli cntQ cs≤800
   ·have h1:Qnw cs=true:=decide_eq_true ⟨by omega,fun i hi=>hdone i hi (by omega),hs⟩
    rw[h1];simp;omega
   ·rw[Qoa fun hu=>hs hu.2.2];simp;omega
noncomputable def hasG (cs:List CodeD)(k:Int):Bool:=Qnw cs&&decide (0≤k∧k≤(cs.length:Int)-1)
theorem Qa87 {cs:List CodeD}{fl:Bool}{k:Int}(hfit:∀c∈cs,c.fits)(hK:∀(H':Heap),Upd H H' []→K (.c (.bool (hasG cs k))) H') :
  Qu prog Qll [.ag [.sl fl 3 (Qq cs)],.c (.int .i64 k)] H K:=by
 refine Qb Qat Qasl ?_
 refine Qa ?_
 simp only[go_sem]
 refine Qa ?_
 simp only[go_sem]
 refine Qafd hfit fun H' hu=>?_
 have hK:=hK H' hu
 cases hg:Qnw cs with
 |false=>
  simp only[go_sem,Qg3,Qg2]
  refine Qj ?_
  simp only[go_sem,Q5,Qae,Qqo,List.mem_singleton,forall_eq,RS.op]
  rw[hasG,hg]at hK;exact hK
 |true=>
  simp only[go_sem,Qg3,Q3]
  intro hl
  simp only[LIM]at hl
  refine⟨Qo (by omega) (by omega),?_⟩
  refine Qcs ?_
  simp only[go_sem,Qg2]
  refine Qj ?_
  simp only[go_sem,Q5,Qae,Qqo,List.mem_singleton,forall_eq,RS.op]
  have:hasG cs k=(decide (0≤k)&&decide (k≤(cs.length:Int)-1)):=by rw[hasG,hg];simp
  rw[this]at hK;exact hK
theorem Qa91 {cs:List CodeD}{fl:Bool}{k:Int}(hfit:∀c∈cs,c.fits)(hK:∀(H':Heap),Upd H H' []→K (.c (.bool (hasG cs k))) H') :
  Qu prog Q3f [.ag [.sl fl 3 (Qq cs)],.c (.int .i64 k)] H K:=by
 refine Qb Qat Qbah ?_
 refine Qa ?_
 simp only[go_sem]
 refine Qa ?_
 simp only[go_sem]
 refine Qf0 hfit fun H' hu=>?_
 have hK:=hK H' hu
 cases hg:Qnw cs with
 |false=>
  simp only[go_sem,Qqw,Qqv]
  refine Qj ?_
  simp only[go_sem,Q5,Qae,Qaf6,List.mem_singleton,forall_eq,RS.op]
  rw[hasG,hg]at hK;exact hK
 |true=>
  simp only[go_sem,Qqw,Q3]
  intro hl
  simp only[LIM]at hl
  refine⟨Qo (by omega) (by omega),?_⟩
  refine Qcf ?_
  simp only[go_sem,Qqv]
  refine Qj ?_
  simp only[go_sem,Q5,Qae,Qaf6,List.mem_singleton,forall_eq,RS.op]
  have:hasG cs k=decide (0≤k∧k≤(cs.length:Int)-1):=by rw[hasG,hg];simp
  rw[this]at hK;exact hK
end Go.AE.Y

namespace Go.AE.Y
attribute [local instance] Classical.propDecidable
structure Flo where
 n:Nat
 nx:Nat→List Nat
 on:Nat→List Nat
 ins:Nat→List (Option Nat×List Nat)
 ph:Nat→List Nat
 ea:Nat→Nat→List Nat
abbrev RS':=Nat→Prop
def Qbdv (x:Option Nat×List Nat)(S:RS'):RS':=fun r=>r∈x.2∨(S r∧x.1≠some r)
def behL (l:List (Option Nat×List Nat))(S:RS'):RS':=l.foldr Qbdv S
theorem Qa4a {l:List (Option Nat×List Nat)}{S T:RS'}(h:∀r,S r→T r):∀r,behL l S r→behL l T r:=by
 induction l with
 |nil=>exact h
 |cons x l ih=>
  rintro r (hr|⟨hr,h2⟩)
  ·exact .inl hr
  ·exact .inr ⟨ih r hr,h2⟩
variable {F:Flo}
def Flo.endS (F:Flo)(X:RS')(b:Nat):RS':=fun r=>X r∨r∈F.on b
def Flo.beh (F:Flo)(X:RS')(b k:Nat):RS':=behL ((F.ins b).drop k) (F.endS X b)
theorem Flo.beh_end (X:RS')(b k:Nat)(h:(F.ins b).length≤k):F.beh X b k=F.endS X b:=by rw[Flo.beh,List.drop_of_length_le h];rfl
theorem Flo.beh_step (X:RS')(b k:Nat)(h:k<(F.ins b).length):F.beh X b k=Qbdv (F.ins b)[k] (F.beh X b (k+1)):=by
 rw[Flo.beh,List.drop_eq_getElem_cons h];rfl
theorem Flo.beh_mono {X Y:RS'}(h:∀r,X r→Y r)(b k:Nat):∀r,F.beh X b k r→F.beh Y b k r:=
 Qa4a fun r hr=>hr.elim (fun h1=>.inl (h r h1)) .inr
def Flo.outT (F:Flo)(I:Nat→RS')(b:Nat):RS':=fun r=>∃m∈F.nx b,I m r∨r∈F.ea b m
def Flo.thru (F:Flo)(X:RS')(b:Nat):RS':=fun r=>F.beh X b 0 r∧r∉F.ph b
def Flo.inT (F:Flo)(I:Nat→RS')(b:Nat):RS':=F.thru (F.outT I b) b
theorem Flo.thru_mono {X Y:RS'}(h:∀r,X r→Y r)(b:Nat):∀r,F.thru X b r→F.thru Y b r:=fun r hr=>⟨Flo.beh_mono h b 0 r hr.1,hr.2⟩
def Flo.fits (F:Flo):Prop:=∀b,b<F.n→∀m∈F.nx b,m<F.n
variable {I J:Nat→RS'}
theorem Flo.outT_mono (hf:F.fits)(h:∀b,b<F.n→∀r,I b r→J b r){b:Nat}(hb:b<F.n):∀r,F.outT I b r→F.outT J b r:=by
 rintro r ⟨m,hm,h1|h1⟩
 ·exact⟨m,hm,.inl (h m (hf b hb m hm) r h1)⟩
 ·exact⟨m,hm,.inr h1⟩
theorem Flo.inT_mono (hf:F.fits)(h:∀b,b<F.n→∀r,I b r→J b r){b:Nat}(hb:b<F.n):∀r,F.inT I b r→F.inT J b r:=
 Flo.thru_mono (Flo.outT_mono hf h hb) b
def Flo.Pre (F:Flo)(J:Nat→RS'):Prop:=∀b,b<F.n→∀r,F.inT J b r→J b r
def Flo.LI (F:Flo)(b:Nat):RS':=fun r=>∀J,F.Pre J→J b r
def Flo.LO (F:Flo)(b:Nat):RS':=F.outT F.LI b
def Flo.LB (F:Flo)(b k:Nat):RS':=F.beh (F.LO b) b k
theorem Flo.LI_pre (hf:F.fits):F.Pre F.LI:=fun b hb r hr J hJ=>hJ b hb r (Flo.inT_mono hf (fun b hb r hr=>hr J hJ) hb r hr)
def Flo.Below (F:Flo)(I:Nat→RS'):Prop:=∀b,b<F.n→∀r,I b r→F.LI b r
theorem Flo.is_least (h1:F.Pre I)(h2:F.Below I){b:Nat}(hb:b<F.n)(r:Nat):I b r↔F.LI b r:=⟨h2 b hb r,fun h=>h I h1⟩
theorem Flo.Below.inT (hf:F.fits)(h:F.Below I){b:Nat}(hb:b<F.n):∀r,F.inT I b r→F.LI b r:=fun r hr=>Flo.LI_pre hf b hb r (Flo.inT_mono hf h hb r hr)
theorem Flo.Below.outT (hf:F.fits)(h:F.Below I){b:Nat}(hb:b<F.n):∀r,F.outT I b r→F.LO b r:=Flo.outT_mono hf h hb
structure Flo.bd (F:Flo)(R:Nat):Prop where
 on:∀b,b<F.n→∀r∈F.on b,r<R
 ins:∀b,b<F.n→∀x∈F.ins b,∀r∈x.2,r<R
 ea:∀b,b<F.n→∀m∈F.nx b,∀r∈F.ea b m,r<R
noncomputable def ascL (R:Nat)(S:RS'):List Nat:=(List.range R).filter fun r=>decide (S r)
theorem Qi4 {a:List Nat}(ha:a.Nodup):∀{b:List Nat},(∀x∈a,x∈b)→a.length≤b.length:=by
 induction a with
 |nil=>intro b _;simp
 |cons x a ih=>
  intro b h
  have hx:=h x List.mem_cons_self
  have hn:=List.nodup_cons.1 ha
  have:=ih hn.2 (b:=b.erase x) fun y hy=>(List.mem_erase_of_ne (fun he=>by subst he;exact hn.1 hy)).2 (h y (List.mem_cons_of_mem _ hy))
  rw[List.length_erase_of_mem hx]at this
  have hp:=List.length_pos_of_mem hx
  simp only[List.length_cons];omega
theorem Qakz {a b:List Nat}(ha:a.Nodup)(h:∀x∈a,x∈b)(hl:b.length≤a.length):∀x∈b,x∈a:=fun x hx=>by
 refine Classical.byContradiction fun hxa=>?_
 have:=Qi4 (a:=x::a) (List.nodup_cons.2 ⟨hxa,ha⟩) (b:=b) fun y hy=>by
  rcases List.mem_cons.1 hy with rfl|hy
  ·exact hx
  ·exact h y hy
 simp only[List.length_cons]at this;omega
theorem Qaky {a:List Nat}{R:Nat}(ha:a.Nodup)(h:∀x∈a,x<R):a.length≤R:=by
 have:=Qi4 ha (b:=List.range R) fun x hx=>List.mem_range.2 (h x hx)
 simpa using this
def addK (ks:List Nat)(b:Nat):List Nat:=if b∈ks then ks else ks++[b]
def tot (n:Nat)(S:Nat→List Nat):Nat:=((List.range n).map fun b=>(S b).length).sum
theorem Q2w (n:Nat)(S:Nat→List Nat):tot (n+1) S=tot n S+(S n).length:=by simp[tot,List.range_succ]
theorem Qbca {n:Nat}{S T:Nat→List Nat}(h:∀b,b<n→(S b).length≤(T b).length):tot n S≤tot n T:=by
 induction n with
 |zero=>simp[tot]
 |succ n ih=>
  rw[Q2w,Q2w]
  have:=ih fun b hb=>h b (by omega)
  have:=h n (by omega)
  omega
theorem Qbgp {n:Nat}{S T:Nat→List Nat}{c:Nat}(hc:c<n)(h:∀b,b<n→(S b).length≤(T b).length)(hlt:(S c).length<(T c).length):tot n S<tot n T:=by
 induction n with
 |zero=>omega
 |succ n ih=>
  rw[Q2w,Q2w]
  have h1:=h n (by omega)
  by_cases hcn:c=n
  ·subst hcn
   have:=Qbca (n:=c) (S:=S) (T:=T) fun b hb=>h b (by omega)
   omega
  ·have:=ih (by omega) fun b hb=>h b (by omega)
   omega
end Go.AE.Y

namespace Go.AE.Y
attribute [local go_sem] cond_true cond_false Bool.not_true Bool.not_false
open Go.Proofs.Tryz
variable {H:Heap}{K:V→Heap→Prop}
attribute [local instance] Classical.propDecidable
def Qaas (x:InsD):Option Nat:=if Qdj x.op then some x.to.toNat else none
def toN (l:List Int):List Nat:=l.map Int.toNat
def Qbfs (q:CodeD)(b m:Nat):List Nat:=(((q.blocks[m]?.map BlkD.phis).getD []).map fun p=>(p.args.getD ((Q8 (gnx q) (m:Int) q.blocks.length).idxOf (b:Int)) 0).toNat)
def Qay (q:CodeD):Flo where
 n:=q.blocks.length
 nx b:=nxN (gnx q) b
 on b:=match q.blocks[b]? with
  |some y=>if y.jump=1 then []else [y.on.toNat]
  |none=>[]
 ins b:=match q.blocks[b]? with
  |some y=>y.ins.map fun x=>(Qaas x,toN x.args)
  |none=>[]
 ph b:=match q.blocks[b]? with
  |some y=>y.phis.map fun p=>p.to.toNat
  |none=>[]
 ea:=Qbfs q
def rIn (q:CodeD)(v:Int):Prop:=0≤v∧v<q.regs
structure BlkD.ok (q:CodeD)(b:Nat)(y:BlkD):Prop where
 nxl:y.next.length≤2
 nx:∀v∈y.next,1≤v∧v<q.blocks.length
 jmp:y.jump=1∨y.jump=2∨y.jump=3
 on:¬y.jump=1→rIn q y.on
 args:∀x∈y.ins,∀v∈x.args,rIn q v
 to:∀x∈y.ins,Qdj x.op=true→rIn q x.to
 pto:∀p∈y.phis,rIn q p.to
 pargs:∀p∈y.phis,∀v∈p.args,rIn q v
 pal:∀p∈y.phis,p.args.length=(Q8 (gnx q) (b:Int) q.blocks.length).length
 al:∀x∈y.ins,x.args.length≤3
structure CodeD.ok (q:CodeD):Prop where
 r0:0≤q.regs
 r1:q.regs≤300
 b0:0<q.blocks.length
 b1:q.blocks.length≤160
 bs:∀(b:Nat) (h:b<q.blocks.length),q.blocks[b].ok q b
 il:∀(b:Nat) (h:b<q.blocks.length),q.blocks[b].ins.length≤1200∧q.blocks[b].phis.length≤1200
theorem Q2p {α:Type}{f:α→Nat}{l:List α}{x:α}(h:x∈l):f x≤Qli f l:=by
 induction l with
 |nil=>simp at h
 |cons y l ih=>
  simp only[Qli,List.map_cons,List.sum_cons]at *
  rcases List.mem_cons.1 h with rfl|h
  ·omega
  ·have:=ih h;omega
theorem Qa80 {cs:List CodeD}(h:Qnw cs=true){k:Nat}(hk:k<cs.length):cs[k].ok:=by
 obtain⟨_,h2,h3⟩:=of_decide_eq_true h
 obtain⟨g1,g2⟩:=h2 k hk
 simp only[Qqk,Bool.and_eq_true,decide_eq_true_eq]at g1
 refine⟨by omega,by omega,by omega,by omega,fun b hb=>?_,fun b hb=>?_⟩
 ·have g:=g2 b hb
  simp only[blkG,Bool.and_eq_true]at g
  obtain⟨⟨⟨j,nx⟩,ins⟩,ph⟩:=g
  simp only[Qog,Bool.and_eq_true,decide_eq_true_eq]at j
  obtain⟨j1,j2⟩:=j
  rw[List.all_eq_true]at nx ins ph
  have hj:(cs[k].blocks[b].jump=1∨cs[k].blocks[b].jump=2∨cs[k].blocks[b].jump=3)∧cs[k].blocks[b].next.length≤2:=by
   rw[Qlg]at j1
   split at j1
   ·omega
   ·split at j1
    ·omega
    ·split at j1 <;> omega
  have hi:∀x∈cs[k].blocks[b].ins,(∀v∈x.args,rIn cs[k] v)∧(Qdj x.op=true→rIn cs[k] x.to):=fun x hx=>by
   have:=ins x hx
   simp only[insG,insH,Ql6,Bool.and_eq_true,List.all_eq_true,decide_eq_true_eq,Qate hk]at this
   obtain⟨⟨⟨_,a1⟩,a2⟩,_⟩:=this
   refine⟨fun v hv=>by have:=a1 v hv;exact⟨by omega,by omega⟩,fun hm=>?_⟩
   rw[insT,hm,if_pos rfl,decide_eq_true_eq]at a2
   exact⟨by omega,by omega⟩
  have hal:∀x∈cs[k].blocks[b].ins,x.args.length≤3:=fun x hx=>by
   have:=ins x hx
   simp only[insG,Bool.and_eq_true]at this
   have h3:=this.2
   rw[insL]at h3
   split at h3
   ·simp only[Bool.and_eq_true,decide_eq_true_eq]at h3
    have hn:x.n.toNat<cs.length:=by omega
    have:=(h2 x.n.toNat hn).1
    simp only[Qqk,Bool.and_eq_true,decide_eq_true_eq]at this
    rw[Qas6 hn]at h3
    omega
   ·simp only[Bool.and_eq_true,decide_eq_true_eq]at h3
    have:=argsN_in (op:=x.op)
    omega
  have hp:∀p∈cs[k].blocks[b].phis,rIn cs[k] p.to∧(∀v∈p.args,rIn cs[k] v)∧p.args.length=(Q8 (gnx cs[k]) (b:Int) cs[k].blocks.length).length:=fun p hp=>by
   have:=ph p hp
   simp only[phiG,Ql6,Bool.and_eq_true,List.all_eq_true,decide_eq_true_eq,Qk]at this
   obtain⟨⟨⟨_,a1⟩,a2⟩,a3⟩:=this
   have hgn:(fun i=>(cs[k].blocks.map BlkD.next).getD i [])=gnx cs[k]:=rfl
   rw[hgn]at a1
   exact⟨⟨by omega,by omega⟩,fun v hv=>by have:=a2 v hv;exact⟨by omega,by omega⟩,by omega⟩
  refine⟨hj.2,fun v hv=>?_,hj.1,fun hn=>?_,fun x hx=>(hi x hx).1,fun x hx=>(hi x hx).2,fun p h=>(hp p h).1,fun p h=>(hp p h).2.1,fun p h=>(hp p h).2.2,hal⟩
  ·have:=nx v hv
   simp only[Qz4,decide_eq_true_eq,Qk]at this
   omega
  ·rw[if_neg hn,decide_eq_true_eq]at j2
   exact⟨by omega,by omega⟩
 ·have a1:=Q2p (f:=cntQ) (List.getElem_mem hk)
  have a2:=Q2p (f:=Qz0) (List.getElem_mem hb)
  simp only[cntQ,Qz0]at *
  omega
variable {q:CodeD}
theorem Qa9h {b:Nat}(h:b<q.blocks.length):(Qay q).on b=if q.blocks[b].jump=1 then []else [q.blocks[b].on.toNat]:=by simp[Qay,h]
theorem Qa4s {b:Nat}(h:b<q.blocks.length):(Qay q).ins b=q.blocks[b].ins.map fun x=>(Qaas x,toN x.args):=by simp[Qay,h]
theorem Qa9i {b:Nat}(h:b<q.blocks.length):(Qay q).ph b=q.blocks[b].phis.map fun p=>p.to.toNat:=by simp[Qay,h]
theorem Qa9g {b m:Nat}(h:m<q.blocks.length):(Qay q).ea b m=q.blocks[m].phis.map fun p=>(p.args.getD ((Q8 (gnx q) (m:Int) q.blocks.length).idxOf (b:Int)) 0).toNat:=by simp[Qay,Qbfs,h]
theorem Qr6 {b:Nat}(h:b<q.blocks.length):gnx q b=q.blocks[b].next:=by simp[gnx,List.getD_eq_getElem?_getD,h]
theorem CodeD.ok.next (h:q.ok){b m:Nat}(hb:b<q.blocks.length)(hm:m∈(Qay q).nx b):m<q.blocks.length∧(m:Int)∈gnx q b:=by
 obtain⟨v,hv,rfl⟩:=List.mem_map.1 hm
 have hv':=hv
 rw[Qr6 hb]at hv'
 have:=(h.bs b hb).nx v hv'
 refine⟨by omega,?_⟩
 have e:((v.toNat:Nat):Int)=v:=by omega
 rw[e];exact hv
theorem CodeD.ok.fitsF (h:q.ok):(Qay q).fits:=fun b hb m hm=>(h.next hb hm).1
theorem CodeD.ok.ix (h:q.ok){b m:Nat}(hb:b<q.blocks.length)(hm:(m:Int)∈gnx q b):(Q8 (gnx q) (m:Int) q.blocks.length).idxOf (b:Int)<(Q8 (gnx q) (m:Int) q.blocks.length).length:=by
 refine List.idxOf_lt_length_of_mem ?_
 simp only[Q8,List.mem_map,List.mem_filter,List.mem_range]
 exact⟨b,⟨hb,List.contains_iff_mem.2 hm⟩,rfl⟩
theorem IsIx.idx {ns:List Int}{v r:Int}(h:IsIx ns v r)(hm:v∈ns):r=(ns.idxOf v:Nat):=by
 rcases h with ⟨_,hn⟩|⟨i,rfl,h1,h2,h3⟩
 ·exact absurd hm hn
 ·have h4:ns[i]=v:=by rw[←h2,List.getD_eq_getElem?_getD,List.getElem?_eq_getElem h1];rfl
  have h5:ns.idxOf v=i:=by
   have e:ns=ns.take i++ns[i]::ns.drop (i+1):=by rw[←List.drop_eq_getElem_cons h1,List.take_append_drop]
   rw[e,List.idxOf_append,if_neg h3,h4]
   simp[List.length_take];omega
  rw[h5]
def Mem (bs:List Bool)(S:RS'):Prop:=∀r,bs.getD r false=true↔S r
theorem Mem.congr {bs:List Bool}{S T:RS'}(h:Mem bs S)(hST:∀r,S r↔T r):Mem bs T:=fun r=>(h r).trans (hST r)
theorem Qaj8 (S:List Bool)(x y:Nat)(v:Bool):(S.set x v).getD y false=(if y=x∧x<S.length then v else S.getD y false):=by
 simp only[List.getD_eq_getElem?_getD,List.getElem?_set]
 by_cases h:x=y
 ·subst h
  by_cases h2:x<S.length <;> simp[h2]
 ·have:¬y=x:=fun e=>h e.symm
  simp[h,this]
theorem Mem.ins {bs:List Bool}{S:RS'}(h:Mem bs S){x:Nat}(hx:x<bs.length):Mem (bs.set x true) (fun r=>r=x∨S r):=fun r=>by
 rw[Qaj8]
 by_cases hr:r=x
 ·simp[hr,hx]
 ·simp only[hr,false_and,if_false,false_or];exact h r
theorem Mem.del {bs:List Bool}{S:RS'}(h:Mem bs S){x:Nat}(hx:x<bs.length):Mem (bs.set x false) (fun r=>S r∧r≠x):=fun r=>by
 rw[Qaj8]
 by_cases hr:r=x
 ·simp[hr,hx]
 ·simp only[hr,false_and,if_false,ne_eq,not_false_eq_true,and_true];exact h r
theorem Mem.lt {bs:List Bool}{S:RS'}(h:Mem bs S){r:Nat}(hr:S r):r<bs.length:=by
 have:=(h r).2 hr
 refine Classical.byContradiction fun hn=>?_
 rw[List.getD_eq_getElem?_getD,List.getElem?_eq_none (by omega)]at this
 exact absurd this (by simp)
theorem Mem.none (n:Nat):Mem (List.replicate n false) fun _=>False:=fun r=>by
 rw[List.getD_eq_getElem?_getD,List.getElem?_replicate]
 split <;> simp
end Go.AE.Y

