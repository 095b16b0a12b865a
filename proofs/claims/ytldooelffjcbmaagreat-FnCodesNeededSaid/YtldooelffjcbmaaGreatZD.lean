/- Part 4 of the proof: the engine, codes, walks and plain laws, each named where it stands. -/
import Derived.Test.YtldooelffjcbmaaGreatZC
import Derived.Shelf.Sort.Plain
import Derived.Shelf.Sort.So_math_bits_LenIn
open Nat (reduceEqDiff reduceAdd reduceLeDiff reduceLT)
set_option linter.unusedVariables false
set_option linter.unusedSimpArgs false
set_option maxRecDepth 4000
namespace Go.AE.Y
open Go.Proofs.Tryz
variable {F H:Heap}{w:Nat}{s:LS}{K:V→Heap→Prop}
set_option maxHeartbeats 1000000 in
theorem Qbfi {n:Nat}(hS:∀m,m<n→Qa3t m):Qblz n:=by
 intro x F H w s N K hn hok h hat hsok hN hK
 have hsz:=x.size_eq
 rw[St.ok_eq]at hok
 obtain⟨hap,hao,hbo,heo⟩:=hok
 have ham:=Qea (List.getElem_mem hap)
 refine Qb Qar Qaoq ?_
 refine Qa ?_
 simp only[go_sem,x.cells_eq]
 refine Qa ?_
 simp only[go_sem]
 refine Qfw h hsok (by omega) fun s1 H1 h1 st1 hb1=>?_
 simp only[go_sem,Qp5]
 refine Qa ?_
 simp only[go_sem]
 refine Qfw h1 (st1.ok _ hsok) (by omega) fun s2 H2 h2 st2 hb2=>?_
 have st2:=st1.trans st2
 simp only[go_sem,Qp6]
 refine Qa ?_
 simp only[go_sem]
 refine Qfw h2 (st2.ok _ hsok) (by omega) fun s3 H3 h3 st3 hb3=>?_
 have st3:=st2.trans st3
 simp only[go_sem,Qp7]
 refine Qa ?_
 simp only[go_sem]
 refine Qsi (next:=[(s.blocks.length:Int)]) (N:=0) h3 (st3.at_ hat) (by omega) fun s4 H4 h4 st4=>?_
 have hb4:=st4.bl
 have st4:=st3.trans st4
 refine Qa ?_
 simp only[go_sem,hap,Qa3,Qd9 _ _ hap,Ex.take4,Ex.allOw,Ex.cells_len]
 refine⟨by omega,?_⟩
 refine Qbky _ x.args[0] F H4 w s4 _ _ (Nat.le_refl _) (Q7f hao _ (List.getElem_mem hap)) h4 (st4.at_ hat) (st4.ok _ hsok) (by omega) fun v s5 H5 h5 st5=>?_
 have hb5:=st5.bl
 have st5:=st4.trans st5
 simp only[go_sem,Qp8]
 refine Qa ?_
 simp only[go_sem]
 refine Qsi (next:=[(s1.blocks.length:Int),(s2.blocks.length:Int)]) (N:=0) h5 (st5.at_ hat) (by omega) fun s6 H6 h6 st6=>?_
 have hb6:=st6.bl
 have st6:=st5.trans st6
 refine Qa ?_
 simp only[go_sem]
 refine hS (Q3 x.body) (by omega) x.body _ F H6 w s6 _ _ (Nat.le_refl _) hbo h6 (st6.at_ hat) (st6.ok _ hsok) (by omega) fun s7 H7 h7 st7=>?_
 have hb7:=st7.bl
 have st7:=st6.trans st7
 refine Qq ?_
 simp only[go_sem]
 refine Qsi (next:=[(s.blocks.length:Int)]) (N:=0) h7 (st7.at_ hat) (by omega) fun s8 H8 h8 st8=>?_
 have st8:=st7.trans st8
 simp only[Q6,Qab,Q1r]
 exact⟨by simp,hK s8 H8 h8 (st8.mono (by omega))⟩
set_option maxHeartbeats 2000000 in
theorem Qbg7 {n:Nat}(hS:∀m,m<n→Qa3t m):Qbkk n:=by
 intro x F H w s N K hn hok h hat hsok hN hK
 have hok':=hok
 have hsz:=x.size_eq
 rw[St.ok_eq]at hok
 obtain⟨hap,hao,hbo,heo⟩:=hok
 refine Qb Qar Qaor ?_
 have retn:∀(e:Env) (s':LS) (H':Heap) (q:X),(q=.nrm∨q=.ret)→LInv F H' w s'→LStep s s' (10 * x.size)→Q6 Qom K q e H':=by
  intro e s' H' q hq a1 a2
  rcases hq with rfl|rfl <;> exact⟨by simp[Qom],hK s' H' a1 a2⟩
 refine Qa ?_
 simp only[go_sem,x.cells_eq]
 refine Q4 ?_
 refine Qa ?_
 simp only[go_sem]
 refine Qg (Qe rfl ?_ ?_)
 ·intro hc
  refine Qa ?_
  simp only[go_sem]
  rw[←x.cells_eq]
  refine Qbfi hS x F H w s N _ hn hok' h hat hsok hN fun s1 H1 h1 st1=>?_
  refine Qj ?_
  simp only[go_sem]
  exact retn _ s1 H1 _ (.inr rfl) h1 st1
 intro hc0
 refine Qh ?_
 simp only[go_sem]
 refine Qa ?_
 simp only[go_sem]
 refine Q4 ?_
 refine Qa ?_
 simp only[go_sem]
 refine Qg (Qc (Qs (fun n e1 H1=>∃(i:Nat) (ars:List Int) (c:C) (Lg:List (Nat×Obj)) (s':LS),n=x.args.length-i∧i≤x.args.length∧ars.length=i∧Gr Lg 1 (Qf ars) c∧LInv F H1 w s'∧Kn F H1 [] (s'.L w++Lg)∧
  LStep s s' (10 * Qag (x.args.take i))∧e1=[(0,.c (.ptr w 0)),(3,.c (.pp [.int .i64 x.op,.str x.name,.sl false 4 (Qbq x.args),.sl false 5 (Qa1 x.body),.sl false 5 (Qa1 x.els)])),(4,.c c),(5,.c (.int .i64 i))]) x.args.length ?_ ?_))
 ·exact⟨0,[],_,[],s,by omega,by omega,rfl,.nil 1,h,by simpa using h.kn,(LStep.refl s).mono (by omega),rfl⟩
 ·rintro n e1 H1 ⟨i,ars,c,Lg,s1,hn1,hi,harl,hgr,h1,kn,st1,rfl⟩
  refine Q4 ?_
  refine Qa ?_
  simp only[go_sem,Qa3]
  intro hl
  simp only[LIM]at hl
  refine Qg (Qe rfl ?_ ?_)
  ·intro hc
   have hlt:i<x.args.length:=by simpa using hc
   have hm:=Qea (List.getElem_mem hlt)
   have htk:=Qn0 hlt
   have htl:=Qge x.args (i+1)
   refine Qh ?_
   simp only[go_sem]
   refine Qg (Qc (Qq ?_))
   simp only[go_sem,hlt,Qa3,Qd9 _ _ hlt,Ex.take4,Ex.allOw,Ex.cells_len]
   obtain⟨F',hf,back⟩:=h1.beside kn hgr
   refine Qbky _ _ F' H1 w s1 _ _ (Nat.le_refl _) (Q7f hao _ (List.getElem_mem hlt)) hf (st1.at_ hat) (st1.ok _ hsok) (by omega) fun v s2 H2 h2 st2=>?_
   obtain⟨h2,kn⟩:=back s2 H2 h2
   simp only[go_sem,Qqa]
   refine kn.grow (new:=Qf [v]) hgr (.mk' _ _ _ _) (Qu _) (by simp only[Qd,harl,List.length_cons,List.length_nil,LIM];omega) fun y' H3 kn=>?_
   simp only[go_sem,Qp9]
   refine Qq ?_
   simp only[go_sem,X.next]
   refine⟨Qo (by omega) (by omega),x.args.length-(i+1),by omega,i+1,ars++[v],_,_,s2,rfl,by omega,by simp[harl],.mk y' 1 (Qf (ars++[v])) (n:=(Qf ars).length+(Qf [v]).length) (by simp[Qf]),h2.re kn.drop,by rw[Qcf];exact kn,(st1.trans st2).mono (by rw[htk];omega),by simp[Qf]⟩
  ·intro hc
   have hge:x.args.length≤i:=by simpa using hc
   have hil:i=x.args.length:=by omega
   rw[List.take_of_length_le hge]at st1
   have har0:0<ars.length:=by omega
   refine Qr ?_
   simp only[go_sem,X.next]
   refine Q4 ?_
   obtain⟨S,H2,f1,f2,kn2⟩:=hgr.freeze kn (Qu _)
   have h2:=h1.re kn2
   refine c_gh (Qga S (fun t=>?_) f2) (e':=[(0,.c (.ptr w 0)),(3,.c (.pp [.int .i64 x.op,.str x.name,.sl false 4 (Qbq x.args),.sl false 5 (Qa1 x.body),.sl false 5 (Qa1 x.els)])),(4,.c (.sl false 1 (Qf ars)))]) ?_
   ·simp only[lk]
    split
    ·exact .c _ _ (.same _ rfl)
    ·split
     ·exact .c _ _ (.same _ rfl)
     ·split
      ·exact .c _ _ f1
      ·exact .unk _
   have hsok1:=st1.ok _ hsok
   have hat1:=st1.at_ hat
   have hw2:=h2.hw
   refine Qa ?_
   simp only[go_sem]
   refine Qc ?_
   refine Qa ?_
   simp only[go_sem]
   refine Qe rfl ?_ ?_
   ·
    intro hc
    refine Qa ?_
    simp only[go_sem,hw2,LS.o]
    refine Qzt h2 hat1 hsok1 (by omega) fun s3 H3 h3 st3=>?_
    have hw3:=h3.hw
    have hvo:=h3.gv.isOw
    have hsok3:=st3.ok _ hsok1
    have st3:=st1.trans st3
    refine Qal ?_
    simp only[go_sem,hw3,LS.o,hvo]
    refine h3.addVar ⟨x.name,s3.next,0,rfl⟩ (by have:=hsok3.v1;simp only[LIM];omega) fun y H4 hw4 cont=>?_
    simp only[go_sem,Qqb,hw4,LS.o]
    intro H5 h5
    have h5':=cont H5 h5
    have hw5:=h5'.hw
    refine Qq ?_
    have hn0:=hsok3.n0
    have hn1:=hsok3.n1
    simp only[go_sem,hw5,LS.o]
    refine⟨Qo (by omega) (by omega),fun H6 h6=>?_⟩
    have h6':=h5'.setw (s':={ s3 with vc:=.vsl y 3 0 (s3.vars.length+1),lv:=[(y,.vec 3 (s3.vars++[[C.str x.name,C.int IntKind.i64 s3.next,C.int IntKind.i64 0]]))],vars:=s3.vars++[[C.str x.name,C.int IntKind.i64 s3.next,C.int IntKind.i64 0]],next:=s3.next+1 }) h6 rfl rfl rfl rfl h5'.gv h5'.rv
    refine retn _ _ H6 _ (.inl rfl) h6' ⟨st3.bl,fun M hM=>?_,?_,st3.at_,st3.fn⟩
    ·have q:=st3.ok M hM
     refine⟨q.r0,?_,?_,?_,?_,fun b hb=>?_,?_⟩
     ·have:=q.r1;show s3.regs≤_;omega
     ·have:=q.n0;show 0≤s3.next+1;omega
     ·have:=q.n1;show s3.next+1≤_;omega
     ·have:=q.b1;show s3.blocks.length≤_;omega
     ·have:=q.i1 b hb;omega
     ·have:=q.v1;simp;omega
    ·have:=st3.vl;simp;omega
   intro hc1
   refine Qa ?_
   simp only[go_sem]
   refine Qe rfl ?_ ?_
   ·
    intro hc
    refine Qq ?_
    simp only[go_sem]
    refine Qbli h2 fun v=>?_
    simp only[go_sem,Qqc]
    refine Qzt h2 hat1 hsok1 (by omega) fun s3 H3 h3 st3=>?_
    exact retn _ _ H3 _ (.inl rfl) h3 ((st1.trans st3).mono (by omega))
   intro hc2
   refine Qa ?_
   simp only[go_sem]
   refine Qe rfl ?_ ?_
   ·intro hc
    refine Qq ?_
    simp only[go_sem]
    refine Qzt h2 hat1 hsok1 (by omega) fun s3 H3 h3 st3=>?_
    exact retn _ _ H3 _ (.inl rfl) h3 ((st1.trans st3).mono (by omega))
   intro hc3
   refine Qa ?_
   simp only[go_sem]
   refine Qe rfl ?_ ?_
   ·intro hc
    refine Qq ?_
    simp only[go_sem]
    refine Qzt h2 hat1 hsok1 (by omega) fun s3 H3 h3 st3=>?_
    exact retn _ _ H3 _ (.inl rfl) h3 ((st1.trans st3).mono (by omega))
   intro hc4
   refine Qa ?_
   simp only[go_sem]
   refine Qe rfl ?_ ?_
   ·
    intro hc
    refine Qbc ?_
    simp only[go_sem,har0,Qd,Qx _ _ har0]
    refine⟨by omega,?_⟩
    refine Qfw h2 hsok1 (by omega) fun s3 H3 h3 st3 hb3=>?_
    have st3:=st1.trans st3
    simp only[go_sem,Qmk,har0,Qd,Qx _ _ har0]
    refine⟨by omega,?_⟩
    refine Qsi (next:=[]) (N:=0) h3 (st3.at_ hat) (by omega) fun s4 H4 h4 st4=>?_
    exact retn _ _ H4 _ (.inl rfl) h4 ((st3.trans st4).mono (by omega))
   intro hc5
   refine Qa ?_
   simp only[go_sem]
   refine Qe rfl ?_ ?_
   ·
    intro hc
    refine Qa ?_
    simp only[go_sem]
    refine Qfw h2 hsok1 (by omega) fun s3 H3 h3 st3 hb3=>?_
    have st3:=st1.trans st3
    simp only[go_sem,Qml]
    refine Qa ?_
    simp only[go_sem]
    refine Qfw h3 (st3.ok _ hsok) (by omega) fun s4 H4 h4 st4 hb4=>?_
    have st4:=st3.trans st4
    simp only[go_sem,Qmm]
    refine Qa ?_
    simp only[go_sem]
    refine Qfw h4 (st4.ok _ hsok) (by omega) fun s5 H5 h5 st5 hb5=>?_
    have st5:=st4.trans st5
    simp only[go_sem,Qmn]
    refine Qa ?_
    simp only[go_sem,har0,Qd,Qx _ _ har0]
    refine⟨by omega,?_⟩
    refine Qsi (next:=[(s1.blocks.length:Int),(s3.blocks.length:Int)]) (N:=0) h5 (st5.at_ hat) (by omega) fun s6 H6 h6 st6=>?_
    have hb6:=st6.bl
    have st6:=st5.trans st6
    refine Qa ?_
    simp only[go_sem]
    refine hS (Q3 x.body) (by omega) x.body _ F H6 w s6 _ _ (Nat.le_refl _) hbo h6 (st6.at_ hat) (st6.ok _ hsok) (by omega) fun s7 H7 h7 st7=>?_
    have hb7:=st7.bl
    have st7:=st6.trans st7
    refine Qa ?_
    simp only[go_sem]
    refine Qsi (next:=[(s4.blocks.length:Int)]) (N:=0) h7 (st7.at_ hat) (by omega) fun s8 H8 h8 st8=>?_
    have hb8:=st8.bl
    have st8:=st7.trans st8
    refine Qa ?_
    simp only[go_sem]
    refine hS (Q3 x.els) (by omega) x.els _ F H8 w s8 _ _ (Nat.le_refl _) heo h8 (st8.at_ hat) (st8.ok _ hsok) (by omega) fun s9 H9 h9 st9=>?_
    have hb9:=st9.bl
    have st9:=st8.trans st9
    refine Qq ?_
    simp only[go_sem]
    refine Qsi (next:=[(s4.blocks.length:Int)]) (N:=0) h9 (st9.at_ hat) (by omega) fun s10 H10 h10 st10=>?_
    exact retn _ _ H10 _ (.inl rfl) h10 ((st9.trans st10).mono (by omega))
   ·intro hc6
    refine Qh ?_
    simp only[go_sem]
    exact retn _ _ H2 _ (.inl rfl) h2 (st1.mono (by omega))
theorem Qblt (n:Nat):Qa3t n:=by
 induction n using Nat.strongRecOn with
 |ind n ih=>exact Qbds (Qbg7 ih)
end Go.AE.Y

namespace Go.AE.Y
open Go.Proofs.Tryz
variable {H:Heap}{K:V→Heap→Prop}
set_option maxHeartbeats 2000000 in
theorem Qbk5 {fns:List Fn}{fl:Bool}{k:Nat}(hk:k<fns.length)(hpl:fns[k].params.length≤3)(hbo:Qcz fns[k].body)(hbs:Q3 fns[k].body≤2^34)
  (hK:∀(c:CodeD) (H':Heap),Upd H H' []→c.fits→K (.ag c.cells) H'):Qv prog Qawe [.ag [.sl fl 3 (Qb7 fns)],.c (.int .i64 k)] H K:=by
 refine Qz ?_
 refine Qb Qar Qblb ?_
 refine Qa ?_
 simp only[go_sem]
 intro x4 hx4 H1 h1
 have kn:=(Kn.start0 H).al hx4 h1
 refine Qa ?_
 simp only[go_sem,hk,Qbk,Qf9 _ _ hk,Fn.take3,Fn.allOw,Fn.cells_len]
 generalize fns[k]=f at *
 intro x5 hx5 H2 h2
 have kn:=kn.al hx5 h2
 have hx52:=kn.l 1 rfl
 simp only[go_sem,Qau1,hx52,Fn.cells]
 intro H3 h3
 have kn:Kn H H3 [] [(x4,.st [.int .i64 0,.int .i64 0,.sl true 5 []]),(x5,.st [.str f.name,.sl false 1 (Qbm f.params),.sl false 5 (Qa1 f.body)])]:=kn.stL 1 rfl h3
 have hx43:=kn.l 0 rfl
 have hx53:=kn.l 1 rfl
 have h45:=kn.neL 0 1 rfl rfl (by decide)
 refine Qa ?_
 simp only[go_sem,hx53,Qat]
 intro hpl2 w hw H4 h4
 have h:LInv H3 H4 w ⟨fns,fl,0,0,.sl true 5 [],[],[],0,.sl true 3 [],[],[],f.params.length⟩:=
  ⟨(Kn.start0 H3).al hw h4,.nil 5,.inl ⟨rfl,rfl,rfl⟩,by simp,by simp,by simp⟩
 have hfr:∀(s:LS) (H':Heap),LInv H3 H' w s→H' x4=.st [.int .i64 0,.int .i64 0,.sl true 5 []]∧H' x5=.st [.str f.name,.sl false 1 (Qbm f.params),.sl false 5 (Qa1 f.body)]:=fun s H' h'=>
  ⟨by rw[h'.kn.chg x4 (by rw[hx43];simp) (by simp),hx43],by rw[h'.kn.chg x5 (by rw[hx53];simp) (by simp),hx53]⟩
 have hx54:=(hfr _ _ h).2
 have hw4:=h.hw
 simp only[go_sem,Qau2]
 refine Qa ?_
 simp only[go_sem,hx54,hw4,LS.o,Qat]
 intro _ H5 h5
 have h:=h.setw (s':=⟨fns,fl,f.params.length,0,.sl true 5 [],[],[],0,.sl true 3 [],[],[],f.params.length⟩) h5 rfl rfl rfl rfl h.gv h.rv
 have hx55:=(hfr _ _ h).2
 refine Qal ?_
 simp only[go_sem,hx55,Qat]
 refine Qbff _ f.body (Nat.le_refl _) (by omega) fun v hv=>?_
 have hw5:=h.hw
 simp only[go_sem,Qau3,hx55,hw5,LS.o,Qat]
 refine⟨Qo (by omega) (by omega),fun H6 h6=>?_⟩
 have h:=h.setw (s':=⟨fns,fl,f.params.length,(f.params.length:Int)+v,.sl true 5 [],[],[],0,.sl true 3 [],[],[],f.params.length⟩) h6 rfl rfl rfl rfl h.gv h.rv
 refine Q4 ?_
 refine Qa ?_
 simp only[go_sem]
 refine Qg (Qc (Qs (fun n e1 H1=>∃(i:Nat) (s':LS),n=f.params.length-i∧i≤f.params.length∧LInv H3 H1 w s'∧s'.blocks=[]∧s'.at_=0∧s'.regs=(f.params.length:Int)+v∧s'.next=f.params.length∧s'.vars.length=i∧
  e1=[(4,.c (.ptr x4 0)),(5,.c (.ptr x5 0)),(6,.c (.ptr w 0)),(7,.c (.int .i64 i))]) f.params.length ?_ ?_))
 ·exact⟨0,_,by omega,by omega,h,rfl,rfl,rfl,rfl,rfl,rfl⟩
 ·rintro n e1 H1 ⟨i,s,hn1,hi,h,hb0,ha0,hr0,hn0,hvl,rfl⟩
  have hx51:=(hfr _ _ h).2
  have hw1:=h.hw
  have hvo:=h.gv.isOw
  refine Q4 ?_
  refine Qa ?_
  simp only[go_sem,hx51,Qat]
  intro _
  refine Qg (Qe rfl ?_ ?_)
  ·intro hc
   have hlt:i<f.params.length:=by simpa using hc
   refine Qh ?_
   simp only[go_sem]
   refine Qg (Qc (Qbc ?_))
   simp only[go_sem,hx51,hw1,LS.o,hvo,hlt,Qat,Qhg _ _ hlt]
   refine h.addVar ⟨_,_,_,rfl⟩ (by simp only[LIM];omega) fun y H4 hw4 cont=>?_
   simp only[go_sem,Qau4,hw4,LS.o]
   intro H5 h5
   have h':=cont H5 h5
   refine Qq ?_
   simp only[go_sem,X.next]
   exact⟨Qo (by omega) (by omega),f.params.length-(i+1),by omega,i+1,_,rfl,by omega,h',hb0,ha0,hr0,hn0,by simp[hvl],rfl⟩
  ·intro hc
   refine Qr ?_
   simp only[go_sem,X.next]
   have hsok:s.ok (3+v):=⟨by rw[hr0];omega,by rw[hr0];omega,by rw[hn0];omega,by rw[hn0];omega,by simp[hb0],by simp[hb0],by omega⟩
   refine Qa ?_
   simp only[go_sem]
   refine Qanv h hsok (by omega) fun s1 H4 h1 st1 hb1 hat1=>?_
   have hat:s1.at_<s1.blocks.length:=by rw[hat1,ha0];omega
   have hsok1:=st1.ok _ hsok
   refine Qa ?_
   have hx54:=(hfr _ _ h1).2
   simp only[go_sem,hx54]
   refine Qblt _ f.body _ H3 H4 w s1 _ _ (Nat.le_refl _) hbo h1 hat hsok1 (by omega) fun s2 H5 h2 st2=>?_
   refine Qa ?_
   simp only[go_sem]
   refine Qoc h2 (st2.ok _ hsok1) (by omega) fun s3 H6 h3 st3=>?_
   have st3:=st2.trans st3
   simp only[go_sem,Qau6]
   refine Qzt (args:=[]) h3 (st3.at_ hat) (st3.ok _ hsok1) (by omega) fun s4 H7 h4 st4=>?_
   have st4:=st3.trans st4
   simp only[go_sem,Qau5]
   have hbl4:=st4.bl
   refine Qa ?_
   simp only[go_sem]
   refine Qsi (at':=0) (next:=[]) (N:=0) h4 (st4.at_ hat) (by omega) fun s5 H8 h5 st5=>?_
   have hw8:=h5.hw
   obtain⟨hx48,hx58⟩:=hfr _ _ h5
   have hbow:=h5.gb.isOw
   refine Qa ?_
   simp only[go_sem,hw8,hx48,LS.o,hbow]
   intro H9 h9
   have hx49:H9 x4=.st [.int .i64 s5.params,.int .i64 s5.regs,s5.bc]:=by rw[h9];exact Heap.set_same _ _ _
   have ho9:∀m,m≠x4→H9 m=H8 m:=fun m hm=>by rw[h9];exact Heap.set_other _ _ hm
   have huse:∀m,H m≠.none→H9 m=H m:=fun m hm=>by
    have e1:=kn.chg m hm (by simp)
    have e2:=h5.kn.chg m (by rw[e1];exact hm) (by simp)
    rw[ho9 m (fun hh=>by subst hh;exact hm (kn.free 0 rfl)),e2,e1]
   have hun:∀p∈s5.L w,H9 p.1=p.2∧un H p.1=true:=fun p hp=>by
    have e1:=(h5.kn.get p (by simpa using hp)).1
    have e2:=h5.kn.loc p hp
    have hne:p.1≠x4:=fun hh=>by rw[hh,hx43]at e2;simp at e2
    refine⟨by rw[ho9 _ hne,e1],Qep ?_⟩
    cases hh:H p.1 with
    |none=>rfl
    |_=>have:=kn.chg p.1 (by rw[hh];simp) (by simp);rw[e2,hh]at this;simp at this
   refine Qj ?_
   simp only[go_sem,Q6,Qab,Qbhv,reduceIte,List.mem_singleton,forall_eq,RS.op,hx49,hbow]
   have hok5:=(st4.trans st5).ok _ hsok1
   obtain⟨bs,hbs1,hbs2,hbs3⟩:=Qa3x (H:=H9) (S:=un H) s5.blocks fun b hb=>⟨h5.gi b hb,h5.ri b hb,fun p hp=>hun p (by
    simp only[LS.L,List.mem_append,List.mem_flatMap]
    exact .inr (.inr (.inr ⟨b,hb,hp⟩))),by have:=hok5.i1 b hb;omega⟩
   refine⟨.ag (CodeD.mk s5.params s5.regs bs).cells,FrzL.ag (.cons (Qi rfl) (.cons (Qi rfl) (.cons (Gr.frzM h5.gb (fun p hp=>hun p (by
    simp only[LS.L,List.mem_append]
    exact .inr (.inl hp))) hbs1) .nil))),hK _ _ ⟨by simp,fun m hm _=>?_⟩ hbs3⟩
   rw[Qa9i hm];exact huse m hm
theorem Qbfg {fns:List Fn}{fl:Bool}(hp:PrOk fns)(hK:∀(cs:List CodeD) (H':Heap),Upd H H' []→0<cs.length→(∀c∈cs,c.fits)→K (.ag [.sl false 3 (Qp cs)]) H') :
  Qv prog Q7w [.ag [.sl fl 3 (Qb7 fns)]] H K:=by
 refine Qz ?_
 refine Qb Qar Qbf0 ?_
 refine Qa ?_
 simp only[go_sem]
 intro x2 hx2 H1 h1
 have kn:=(Kn.start0 H).al hx2 h1
 refine Qa ?_
 simp only[go_sem]
 intro x3 hx3 H2 h2
 have kn:=kn.al hx3 h2
 have hx32:=kn.l 1 rfl
 simp only[go_sem,Qad2,hx32]
 intro H3 h3
 have kn:Kn H H3 [] [(x2,.st [.sl true 3 []]),(x3,.st [.sl true 3 []])]:=kn.stL 1 rfl h3
 refine Q4 ?_
 refine Qa ?_
 simp only[go_sem]
 refine Qg (Qc (Qs (fun n e1 H1=>∃(i:Nat) (cs:List CodeD) (c:C) (Lg:List (Nat×Obj)),n=fns.length-i∧i≤fns.length∧cs.length=i∧(∀c∈cs,c.fits)∧Gr Lg 3 (Qp cs) c∧Kn H H1 [] ([(x2,.st [.sl true 3 []]),(x3,.st [c])]++Lg)∧
  e1=[(1,.c (.pp [.sl fl 3 (Qb7 fns)])),(2,.c (.ptr x2 0)),(3,.c (.ptr x3 0)),(4,.c (.int .i64 i))]) fns.length ?_ ?_))
 ·exact⟨0,[],_,[],by omega,by omega,rfl,by simp,.nil 3,kn,rfl⟩
 ·rintro n e1 H1 ⟨i,cs,c,Lg,hn1,hi,hcl,hfit,hgr,kn,rfl⟩
  refine Q4 ?_
  refine Qa ?_
  simp only[go_sem,Qbk]
  intro hl
  simp only[LIM]at hl
  have hcow:=hgr.isOw
  have hx31:=kn.l 1 rfl
  refine Qg (Qe rfl ?_ ?_)
  ·intro hc
   have hlt:i<fns.length:=by simpa using hc
   have hm:=List.getElem_mem hlt
   refine Qh ?_
   simp only[go_sem]
   refine Qg (Qc (Qbc ?_))
   simp only[go_sem,hx31,hcow]
   refine Qbk5 hlt (hp.par _ hm) (hp.ok _ hm) (by have:=Qoh hm;have:=hp.size;omega) fun x H4 hu hxf=>?_
   have kn:=kn.call0 hu
   have hx34:=kn.l 1 rfl
   simp only[go_sem,Qad4,hx34,hcow,CodeD.cells]
   refine kn.grow (B:=[_,_]) (new:=[x.cells]) hgr (.mk' _ _ _ _) (by intro r hr;simp only[List.mem_singleton]at hr;subst hr;rfl) (by simp only[Q1,LIM,List.length_cons,List.length_nil];omega) fun y' H5 kn=>?_
   have hx35:=kn.l 1 rfl
   simp only[go_sem,Qad3,hx35]
   intro H6 h6
   have kn:=kn.stL 1 rfl h6
   refine Qq ?_
   simp only[go_sem,X.next]
   refine⟨Qo (by omega) (by omega),fns.length-(i+1),by omega,i+1,cs++[x],_,_,rfl,by omega,by simp[hcl],fun c' hc'=>by
    rcases List.mem_append.1 hc' with h|h
    ·exact hfit c' h
    ·simp at h;subst h;exact hxf,?_,kn,rfl⟩
   rw[Qan0];exact .mk _ _ _ (by simp[Q1])
  ·intro hc
   have hge:fns.length≤i:=by simpa using hc
   have hx21:=kn.l 0 rfl
   refine Qr ?_
   simp only[go_sem,X.next]
   refine Qa ?_
   simp only[go_sem,hx31,hx21,hcow]
   intro H2 h2
   have kn:=kn.stL 0 rfl h2
   have hx22:=kn.l 0 rfl
   refine Qj ?_
   simp only[go_sem,Q6,Qab,Qa4s,reduceIte,List.mem_singleton,forall_eq,RS.op,hx22,hcow]
   exact⟨.ag [.sl false 3 (Qp cs)],FrzL.ag (.cons (hgr.frz (B:=[_,_]) kn (Qb3 _)) .nil),hK _ _ kn.fin (by have:=hp.pos;omega) hfit⟩
end Go.AE.Y

namespace Go.AE.Y
open Go.Proofs.Tryz
variable {H:Heap}{K:V→Heap→Prop}
attribute [local instance] Classical.propDecidable
def Qt7 (q:CodeD):Bool:=decide (0≤q.params∧q.params≤3)&&decide (q.params≤q.regs∧q.regs≤300)&&decide (1≤(q.blocks.length:Int)∧(q.blocks.length:Int)≤160)
def Qtx (y:BlkD):Nat:=y.ins.length+y.phis.length
def Qkd {α:Type}(f:α→Nat)(l:List α):Nat:=(l.map f).sum
theorem Qfb {α:Type}{f:α→Nat}{l:List α}{i:Nat}(h:i<l.length):Qkd f (l.take (i+1))=Qkd f (l.take i)+f l[i]:=by
 rw[Qkd,Qkd,List.take_succ_eq_append_getElem h,List.map_append,List.sum_append];simp
theorem Qa3r {α:Type}{f:α→Nat}{l:List α}(i:Nat):Qkd f (l.take i)≤Qkd f l:=by
 have:Qkd f l=Qkd f (l.take i)+Qkd f (l.drop i):=by rw[Qkd,Qkd,Qkd,←List.sum_append,←List.map_append,List.take_append_drop]
 omega
def Q6u (q:CodeD):Nat:=Qkd Qtx q.blocks
def Qaei (cs:List CodeD)(k:Nat)(hk:k<cs.length):Prop:=Qt7 cs[k]=true∧∀(b:Nat) (h:b<cs[k].blocks.length),blkG cs k b cs[k] cs[k].blocks[b]=true
def Qbj7 (cs:List CodeD):Prop:=(1≤(cs.length:Int)∧(cs.length:Int)≤4)∧(∀(k:Nat) (h:k<cs.length),Qaei cs k h)∧Qkd Q6u cs≤800
noncomputable def Qcb (cs:List CodeD):Bool:=decide (Qbj7 cs)
theorem Qann {cs:List CodeD}(hfit:∀c∈cs,c.fits)(h:Qcb cs=true):cs.length≤4∧0<cs.length∧∀c∈cs,c.gd:=by
 obtain⟨h1,h2,_⟩:=of_decide_eq_true h
 refine⟨by omega,by omega,fun c hc=>?_⟩
 obtain⟨k,hk,rfl⟩:=List.getElem_of_mem hc
 obtain⟨g1,g2⟩:=h2 k hk
 simp only[Qt7,Bool.and_eq_true,decide_eq_true_eq]at g1
 refine⟨by omega,by omega,fun b hb=>?_,fun b hb=>hfit _ (List.getElem_mem hk) b hb⟩
 obtain⟨i,hi,rfl⟩:=List.getElem_of_mem hb
 exact Qa8w (g2 i hi)
theorem Qrl {cs:List CodeD}(h:¬Qbj7 cs):Qcb cs=false:=decide_eq_false h
theorem Qbhb {cs:List CodeD}{k j:Nat}(hk:k<cs.length)(hj:j<cs[k].blocks.length)(h:800<Qkd Q6u (cs.take k)+Qkd Qtx (cs[k].blocks.take j)+Qtx cs[k].blocks[j]):¬Qbj7 cs:=by
 rintro⟨_,_,h3⟩
 have a1:=Qa3r (f:=Q6u) (l:=cs) (k+1)
 rw[Qfb hk]at a1
 have a2:=Qa3r (f:=Qtx) (l:=cs[k].blocks) (j+1)
 rw[Qfb hj]at a2
 simp only[Q6u]at *
 omega
set_option maxHeartbeats 2000000 in
theorem Qey {cs:List CodeD}{fl:Bool}(hfit:∀c∈cs,c.fits)(hK:∀(H':Heap),Upd H H' []→K (.c (.bool (Qcb cs))) H') :
  Qv prog Qbd [.ag [.sl fl 3 (Qp cs)]] H K:=by
 refine Qz ?_
 refine Qb Qar Qaex ?_
 have retf:∀(b:Bool) (e:Env) (H':Heap) (L:List (Nat×Obj)),Qcb cs=b→Kn H H' [] L→lk 2 e=.c (.bool b)→Q6 Qc4 (fun x H'=>∃x',FrzV H' (un H) x x'∧K x' (H'.frz (un H))) .ret e H':=by
  intro b e H' L hb kn h3
  simp only[go_sem,Q6,Qab,Qc4,List.mem_singleton,forall_eq,RS.op,h3]
  rw[←hb];exact⟨_,.c _ _ (Qi rfl),hK _ kn.fin⟩
 have kn:=Kn.start0 H
 refine Qa ?_
 simp only[go_sem]
 refine Q4 ?_
 refine Qa ?_
 simp only[go_sem,Q1]
 intro hcl
 refine Qc0 ?_
 simp only[go_sem,Qka]
 refine Qg (Qe rfl ?_ ?_)
 ·intro hc
  refine Qa ?_
  simp only[go_sem]
  refine Qj ?_
  simp only[go_sem]
  exact retf false _ _ _ (Qrl fun hu=>by have:=of_decide_eq_false (Qrx hc);exact this hu.1) kn (by simp[lk])
 intro hc
 have hc4:cs.length≤4∧0<cs.length:=by
  have:1≤(cs.length:Int)∧(cs.length:Int)≤4:=by simpa using hc
  omega
 refine Qh ?_
 simp only[go_sem]
 refine Qa ?_
 simp only[go_sem]
 refine Q4 ?_
 refine Qa ?_
 simp only[go_sem]
 refine Qg (Qc (Qs (fun m e1 H1=>∃(k n:Nat),m=cs.length-k∧k≤cs.length∧n=Qkd Q6u (cs.take k)∧n≤800∧(∀(i:Nat) (hi:i<cs.length),i<k→Qaei cs i hi)∧Kn H H1 [] []∧e1=[(1,.c (.pp [.sl fl 3 (Qp cs)])),(3,.c (.int .i64 n)),(4,.c (.int .i64 k))]) cs.length ?_ ?_))
 ·exact⟨0,0,by omega,by omega,rfl,by omega,fun _ _ h=>by omega,kn,rfl⟩
 ·rintro m e1 H1 ⟨k,n,hm,hk,hns,hn,hgd,kn,rfl⟩
  refine Q4 ?_
  refine Qa ?_
  simp only[go_sem,Q1]
  intro hcl
  refine Qg (Qe rfl ?_ ?_)
  ·intro hc
   have hlt:k<cs.length:=by simpa using hc
   refine Qh ?_
   simp only[go_sem]
   refine Qg (Qc ?_)
   refine Qa ?_
   simp only[go_sem,hlt,Q1,Qak _ _ hlt,CodeD.cells]
   obtain⟨q,hq⟩:∃q,cs[k]=q:=⟨_,rfl⟩
   rw[hq]
   intro x5 hx5 H2 h2
   have kn:=kn.al hx5 h2
   have hx52:=kn.l 0 rfl
   simp only[go_sem,Qkb,hx52]
   intro H3 h3
   have kn:Kn H H3 [] [(x5,.st [.int .i64 q.params,.int .i64 q.regs,.sl false 5 (Qm q.blocks)])]:=kn.stL 0 rfl h3
   have hx53:=kn.l 0 rfl
   refine Q4 ?_
   refine Qa ?_
   simp only[go_sem,hx53]
   refine Qc0 ?_
   simp only[go_sem,Qkc,hx53]
   have rest:∀(b:Bool) (E1:Env),lk 1 E1=.c (.pp [.sl fl 3 (Qp cs)])→lk 3 E1=.c (.int .i64 n)→lk 4 E1=.c (.int .i64 k)→lk 5 E1=.c (.ptr x5 0)→lk 42 E1=.c (.bool b)→Qt7 q=(!b)→
     Qae prog (s_sp_UnitValid_6.seq Qj9) (X.inBlock 1 (X.sq prog Qek (X.next (fun e2 H2=>∃m_1,m_1<m∧∃(k n:Nat),m_1=cs.length-k∧k≤cs.length∧n=Qkd Q6u (cs.take k)∧n≤800∧(∀(i:Nat) (hi:i<cs.length),i<k→Qaei cs i hi)∧Kn H H2 [] []∧e2=[(1,.c (.pp [.sl fl 3 (Qp cs)])),(3,.c (.int .i64 n)),(4,.c (.int .i64 k))])
      (X.inBlock 0 (X.sq prog Qel (Q6 Qc4 (fun x H'=>∃x',FrzV H' (un H) x x'∧K x' (H'.frz (un H))))))))) E1 H3:=by
    intro b E1 l1 l3 l4 l5 l42 hb
    refine Qg (Qe l42 ?_ ?_)
    ·intro hc2
     refine Qa ?_
     simp only[go_sem]
     refine Qj ?_
     simp only[go_sem,X.next]
     exact retf false _ _ _ (Qrl fun hu=>by have:=(hu.2.1 k hlt).1;rw[hq,hb,hc2]at this;simp at this) kn (by simp[lk])
    intro hc2
    rw[hc2]at hb
    have hb':=hb
    simp only[Qt7,Bool.not_false,Bool.and_eq_true,decide_eq_true_eq]at hb'
    obtain⟨hr0,hr1,hb0,hbl⟩:0≤q.regs∧q.regs≤300∧0<q.blocks.length∧q.blocks.length≤160:=by omega
    refine Qh ?_
    simp only[go_sem]
    refine Qa ?_
    simp only[go_sem,l1,l3,l4,l5]
    refine Qc (Qs (fun m e1 H1=>∃(j n2:Nat),m=q.blocks.length-j∧j≤q.blocks.length∧n2=n+Qkd Qtx (q.blocks.take j)∧n2≤800∧(∀(i:Nat) (hi:i<q.blocks.length),i<j→blkG cs k i q q.blocks[i]=true)∧Kn H H1 [] [(x5,.st [.int .i64 q.params,.int .i64 q.regs,.sl false 5 (Qm q.blocks)])]∧
     e1=[(1,.c (.pp [.sl fl 3 (Qp cs)])),(3,.c (.int .i64 n2)),(4,.c (.int .i64 k)),(5,.c (.ptr x5 0)),(6,.c (.int .i64 j))]) q.blocks.length ?_ ?_)
    ·exact⟨0,n,by omega,by omega,rfl,hn,fun _ _ h=>by omega,kn,rfl⟩
    ·rintro m2 e1 H4 ⟨j,n2,hm2,hj,hn2s,hn2,hnx,kn,rfl⟩
     have hx54:=kn.l 0 rfl
     refine Q4 ?_
     refine Qa ?_
     simp only[go_sem,hx54,Qk]
     intro hbl2
     refine Qg (Qe rfl ?_ ?_)
     ·intro hc3
      have hjl:j<q.blocks.length:=by simpa using hc3
      refine Qh ?_
      simp only[go_sem]
      refine Qg (Qc ?_)
      have hqf:=hfit _ (List.getElem_mem hlt)
      rw[hq]at hqf
      have hbf:=hqf _ (List.getElem_mem hjl)
      have hss:=Qfb (f:=Qtx) hjl
      have hcy:Qtx q.blocks[j]=q.blocks[j].ins.length+q.blocks[j].phis.length:=rfl
      refine Qal ?_
      simp only[go_sem,hx54,hjl,Qk,Q7 _ _ hjl,BlkD.cells,Qan,Q9]
      refine⟨Qo (by omega) (by omega),Qo (by omega) (by omega),?_⟩
      refine Qa ?_
      simp only[go_sem]
      have fin:∀(b3:Bool) (E1:Env) (H5:Heap),(decide (n2+Qtx q.blocks[j]≤800)&&blkG cs k j q q.blocks[j])=(!b3)→Kn H H5 [] [(x5,.st [.int .i64 q.params,.int .i64 q.regs,.sl false 5 (Qm q.blocks)])]→lk 1 E1=.c (.pp [.sl fl 3 (Qp cs)])→
        lk 3 E1=.c (.int .i64 ((n2+q.blocks[j].ins.length+q.blocks[j].phis.length:Nat):Int))→lk 4 E1=.c (.int .i64 k)→lk 5 E1=.c (.ptr x5 0)→lk 6 E1=.c (.int .i64 j)→lk 75 E1=.c (.bool b3)→
        Qae prog Qmp (X.inBlock 3 (X.sq prog Qj8 (X.next (fun e2 H2=>∃m,m<m2∧∃(j n2:Nat),m=q.blocks.length-j∧j≤q.blocks.length∧n2=n+Qkd Qtx (q.blocks.take j)∧n2≤800∧(∀(i:Nat) (hi:i<q.blocks.length),i<j→blkG cs k i q q.blocks[i]=true)∧Kn H H2 [] [(x5,.st [.int .i64 q.params,.int .i64 q.regs,.sl false 5 (Qm q.blocks)])]∧
         e2=[(1,.c (.pp [.sl fl 3 (Qp cs)])),(3,.c (.int .i64 n2)),(4,.c (.int .i64 k)),(5,.c (.ptr x5 0)),(6,.c (.int .i64 j))])
         (X.inBlock 2 (X.inBlock 1 (X.sq prog Qek (X.next (fun e2 H2=>∃m_1,m_1<m∧∃(k n:Nat),m_1=cs.length-k∧k≤cs.length∧n=Qkd Q6u (cs.take k)∧n≤800∧(∀(i:Nat) (hi:i<cs.length),i<k→Qaei cs i hi)∧Kn H H2 [] []∧e2=[(1,.c (.pp [.sl fl 3 (Qp cs)])),(3,.c (.int .i64 n)),(4,.c (.int .i64 k))])
         (X.inBlock 0 (X.sq prog Qel (Q6 Qc4 (fun x H'=>∃x',FrzV H' (un H) x x'∧K x' (H'.frz (un H))))))))))))) E1 H5:=by
       intro b3 E1 H5 hb3 kn l1 l3 l4 l5 l6 l75
       refine Qe l75 ?_ ?_
       ·intro hc4
        refine Qa ?_
        simp only[go_sem]
        refine Qj ?_
        simp only[go_sem,X.next]
        refine retf false _ _ _ (Qrl fun hu=>?_) kn (by simp[lk])
        rw[hc4]at hb3
        have hblk:=(hu.2.1 k hlt).2 j (by rw[hq];exact hjl)
        subst hq
        have hov:¬800<n2+Qtx cs[k].blocks[j]:=fun ho=>Qbhb hlt hjl (by omega) hu
        rw[hblk]at hb3
        simp at hb3
        omega
       ·intro hc4
        rw[hc4]at hb3
        simp only[Bool.not_false,Bool.and_eq_true,decide_eq_true_eq]at hb3
        refine Qh ?_
        simp only[go_sem]
        refine Qq ?_
        simp only[go_sem,X.next,l1,l3,l4,l5,l6]
        refine⟨Qo (by omega) (by omega),q.blocks.length-(j+1),by omega,j+1,_,rfl,by omega,?_,?_,?_,kn,rfl⟩
        ·rw[hss];omega
        ·omega
        ·intro i hi hij
         by_cases hij2:i<j
         ·exact hnx i hi hij2
         ·have:i=j:=by omega
          subst this
          exact hb3.2
      refine⟨fun hb1=>?_,fun hb1=>?_⟩
      ·refine Qbae hlt (by rw[hq];exact hjl) (by rw[hq];exact hr0) (by rw[hq];exact hr1) (by omega) (by rw[hq];omega) fun H5 hu=>?_
       have kn:=kn.call0 hu
       simp only[go_sem,Qen]
       refine fin _ _ _ ?_ kn (by simp[lk]) (by simp[lk]) (by simp[lk]) (by simp[lk]) (by simp[lk]) (by simp[lk];rfl)
       subst hq
       by_cases ho:n2+Qtx cs[k].blocks[j]≤800
       ·have ho':¬800<(n2:Int)+cs[k].blocks[j].ins.length+cs[k].blocks[j].phis.length:=by simp only[Qtx]at ho;omega
        simp[ho,ho']
       ·have ho':800<(n2:Int)+cs[k].blocks[j].ins.length+cs[k].blocks[j].phis.length:=by simp only[Qtx]at ho;omega
        simp[ho,ho']
      ·replace hb1:=Qeh hb1
       simp only[go_sem,Qen,hb1]
       exact fin true _ _ (by simp at hb1;simp[hcy];omega) kn (by simp[lk]) (by simp[lk]) (by simp[lk]) (by simp[lk]) (by simp[lk]) (by simp[lk])
     ·intro hc3
      refine Qr ?_
      simp only[go_sem,X.next]
      refine Qq ?_
      simp only[go_sem,X.next]
      have hjq:q.blocks.length≤j:=by simpa using hc3
      have hjq:j=q.blocks.length:=by omega
      refine⟨Qo (by omega) (by omega),cs.length-(k+1),by omega,k+1,n2,rfl,by omega,?_,hn2,?_,kn.drop (A:=[]),rfl⟩
      ·rw[Qfb hlt,hq,hn2s,hns,hjq,List.take_length];rfl
      ·intro i hi hik
       by_cases hik2:i<k
       ·exact hgd i hi hik2
       ·have:i=k:=by omega
        subst this
        subst hq
        exact⟨by rw[hb];rfl,fun b hbl=>hnx b hbl (by omega)⟩
   refine⟨fun hb1=>?_,fun hb1=>?_⟩
   ·refine Qc0 ?_
    simp only[go_sem,Qem,hx53,Qk]
    intro hblim
    refine⟨fun hb2=>?_,fun hb2=>?_⟩
    ·replace hb2:=Qrx hb2
     refine Qc0 ?_
     simp only[go_sem,Qcx]
     refine rest _ _ (by simp[lk]) (by simp[lk]) (by simp[lk]) (by simp[lk]) (by simp[lk];rfl) ?_
     simp[Qt7]
    ·replace hb2:=Qeh hb2
     simp only[go_sem,Qcx,hb2]
     exact rest true _ (by simp[lk]) (by simp[lk]) (by simp[lk]) (by simp[lk]) (by simp[lk]) (by simp at hb2;simp[Qt7];omega)
   ·replace hb1:=Qeh hb1
    simp only[go_sem,Qem,Qcx,hb1,hx53,Qk,cond_true]
    exact rest true _ (by simp[lk]) (by simp[lk]) (by simp[lk]) (by simp[lk]) (by simp[lk]) (by simp at hb1;simp[Qt7];omega)
  ·intro hc
   refine Qr ?_
   simp only[go_sem,X.next]
   refine Qa ?_
   simp only[go_sem]
   refine Qj ?_
   have hkc:cs.length≤k:=by simpa using hc
   refine retf true _ _ _ (decide_eq_true ⟨by omega,fun i hi=>hgd i hi (by omega),?_⟩) kn (by simp[lk])
   rw[List.take_of_length_le hkc]at hns
   omega
theorem Qav0 {cs:List CodeD}{fl:Bool}(hfit:∀c∈cs,c.fits)(hK:∀(b:Bool) (H':Heap),(b=true→cs.length≤4∧0<cs.length∧∀c∈cs,c.gd)→Upd H H' []→K (.c (.bool b)) H') :
  Qv prog Qbd [.ag [.sl fl 3 (Qp cs)]] H K:=Qey hfit fun H' hu=>hK _ H' (Qann hfit) hu
end Go.AE.Y

namespace Go.AE.Y
open Go.Proofs.Tryz
variable {H:Heap}{K:V→Heap→Prop}
def UnitOk (cs:List CodeD):Prop:=0<cs.length∧cs.length≤4∧∀c∈cs,c.gd
theorem Qaoa {R:Rdr}{k:Nat}(hH:H R.l=R.o k)(hk:k+7100000≤2^30)
  (hK:∀(cs:List CodeD) (H':Heap) (k':Nat),k<k'→k'≤k+7050000→Upd H H' [(R.l,R.o k')]→UnitOk cs→K (.ag [.sl false 3 (Qp cs)]) H') :
  Qv prog Qrd [.c (.ptr R.l 0)] H K:=by
 refine Qz ?_
 refine Qb Qar Qbap ?_
 refine Qa ?_
 simp only[go_sem]
 intro x2 hx2 H1 h1
 have kn:=(Kn.start1 hH (R.o_ne k)).al hx2 h1
 have tail:∀(E1:Env) (H2:Heap) (k1:Nat) (L:List (Nat×Obj)),k<k1→k1≤k+7000500→Kn H H2 [(R.l,R.o k1)] ([(x2,.st [.sl true 3 []])]++L)→lk 0 E1=.c (.ptr R.l 0)→lk 2 E1=.c (.ptr x2 0)→
   Qae prog Q9q (Q6 Qwc fun x H'=>∃x',FrzV H' (un H) x x'∧K x' (H'.frz (un H))) E1 H2:=by
  intro E1 H2 k1 L hk1 hk2 kn l0 l2
  refine Qa ?_
  simp only[go_sem,l0,l2]
  refine Qa4e (kn.e 0 rfl) (by omega) fun cs H3 k2 hk3 hk4 hu hcs0 hcs3 hsm=>?_
  have kn:=kn.callE 0 rfl hu (R.o_ne _)
  have hx2:=kn.l 0 rfl
  simp only[go_sem,Q2h,hx2,l2]
  intro H4 h4
  have kn:=kn.stL 0 rfl h4
  have hx2:=kn.l 0 rfl
  refine Qj ?_
  simp only[go_sem,Q6,Qab,Qwc,reduceIte,List.mem_singleton,forall_eq,RS.op,hx2]
  exact⟨_,FrzL.ag (.cons (FrzR.same (Qb3 cs)).sl .nil),hK cs _ k2 (by omega) (by omega) kn.fin ⟨hcs0,by omega,fun c hc=>(hsm c hc).gd⟩⟩
 refine Q4 ?_
 refine Qa ?_
 simp only[go_sem]
 refine Qa7 (kn.e 0 rfl) (by omega) fun v H2 hv hu=>?_
 have kn:=kn.callE 0 rfl hu (R.o_ne _)
 simp only[go_sem,Q2d]
 refine Qg (Qe rfl ?_ ?_)
 ·intro hc
  refine Qa ?_
  simp only[go_sem]
  refine Qbfa (kn.e 0 rfl) (by omega) fun l H3 k1 hk1 hk2 hu hp=>?_
  have kn:=kn.callE 0 rfl hu (R.o_ne _)
  simp only[go_sem,Q2g]
  refine Qbfg hp fun cs H4 hu hcs0 hfit=>?_
  have kn:=kn.call0 hu
  simp only[go_sem,Q2f]
  intro x3 hx3 H5 h5
  have kn:=kn.al hx3 h5
  have hx3:=kn.l 1 rfl
  simp only[go_sem,Q2e,hx3]
  intro H6 h6
  have kn:=kn.stL 1 rfl h6
  have hx3:=kn.l 1 rfl
  refine Qa ?_
  simp only[go_sem,hx3]
  refine Qav0 hfit fun b H7 hb hu=>?_
  have kn:=kn.call0 hu
  have hx3:=kn.l 1 rfl
  have hx2:=kn.l 0 rfl
  refine Qe rfl ?_ ?_
  ·intro hb1
   refine Qa ?_
   simp only[go_sem,hx3,hx2]
   intro H8 h8
   have kn:=kn.stL 0 rfl h8
   have hx2:=kn.l 0 rfl
   refine Qj ?_
   simp only[go_sem,Q6,Qab,Qwc,reduceIte,List.mem_singleton,forall_eq,RS.op,hx2]
   obtain⟨g1,g2,g3⟩:=hb hb1
   exact⟨_,FrzL.ag (.cons (FrzR.same (Qb3 cs)).sl .nil),hK cs _ k1 (by omega) (by omega) kn.fin ⟨g2,g1,g3⟩⟩
  ·intro hb1
   refine Qh ?_
   simp only[go_sem]
   exact tail _ _ k1 [(x3,.st [.sl false 3 (Qp cs)])] (by omega) (by omega) kn (by simp[lk]) (by simp[lk])
 ·intro hc
  refine Qh ?_
  simp only[go_sem]
  exact tail _ _ (k+1) [] (by omega) (by omega) kn (by simp[lk]) (by simp[lk])
theorem Q70 {R:Rdr}{k:Nat}(hH:H R.l=R.o k)(hk:k+7200000≤2^30)
  (hK:∀(cs:List CodeD) (H':Heap) (k':Nat),k<k'→k'≤k+7100000→Upd H H' [(R.l,R.o k')]→UnitOk cs→K (.ag [.sl false 3 (Qp cs)]) H') :
  Qv prog Qi5 [.c (.ptr R.l 0)] H K:=by
 refine Qz ?_
 refine Qb Qar Qbaj ?_
 refine Qa ?_
 simp only[go_sem]
 intro x2 hx2 H1 h1
 have kn:=(Kn.start1 hH (R.o_ne k)).al hx2 h1
 refine Q4 ?_
 refine Qa ?_
 simp only[go_sem]
 refine Qa7 (kn.e 0 rfl) (by omega) fun v H2 hv hu=>?_
 have kn:=kn.callE 0 rfl hu (R.o_ne _)
 simp only[go_sem,Q1u]
 refine Qg (Qe rfl ?_ ?_)
 ·intro hc
  refine Qa ?_
  simp only[go_sem]
  refine Qbfb (kn.e 0 rfl) (by omega) fun cs H3 k2 hk3 hk4 hu hcs0 hcs3 hgd=>?_
  have kn:=kn.callE 0 rfl hu (R.o_ne _)
  have hx2:=kn.l 0 rfl
  simp only[go_sem,Q1v,hx2]
  intro H4 h4
  have kn:=kn.stL 0 rfl h4
  have hx2:=kn.l 0 rfl
  refine Qj ?_
  simp only[go_sem,Q6,Qab,Q8r,reduceIte,List.mem_singleton,forall_eq,RS.op,hx2]
  exact⟨_,FrzL.ag (.cons (FrzR.same (Qb3 cs)).sl .nil),hK cs _ k2 (by omega) (by omega) kn.fin ⟨hcs0,by omega,hgd⟩⟩
 ·intro hc
  refine Qh ?_
  simp only[go_sem]
  refine Qa ?_
  simp only[go_sem]
  refine Qaoa (kn.e 0 rfl) (by omega) fun cs H3 k2 hk3 hk4 hu hok=>?_
  have kn:=kn.callE 0 rfl hu (R.o_ne _)
  have hx2:=kn.l 0 rfl
  simp only[go_sem,Q1w,hx2]
  intro H4 h4
  have kn:=kn.stL 0 rfl h4
  have hx2:=kn.l 0 rfl
  refine Qj ?_
  simp only[go_sem,Q6,Qab,Q8r,reduceIte,List.mem_singleton,forall_eq,RS.op,hx2]
  exact⟨_,FrzL.ag (.cons (FrzR.same (Qb3 cs)).sl .nil),hK cs _ k2 (by omega) (by omega) kn.fin hok⟩
end Go.AE.Y

namespace Go.AE.Y
open Go.Proofs.Tryz
variable {H:Heap}{K:V→Heap→Prop}
theorem Qbaa {fl:Bool}{bs:List UInt8}(hK:∀(R:Rdr) (H':Heap),H R.l=.none→H'=H.set R.l (R.o 0)→K (.c (.ptr R.l 0)) H'):Qv prog Qzi [.c (.sl fl 1 (Qb2 bs))] H K:=by
 refine Qb Qar Qba3 ?_
 refine Qa ?_
 simp only[go_sem]
 refine Q4 ?_
 refine Qa ?_
 simp only[go_sem,Qaw]
 intro _
 have tail:∀(fl:Bool) (bs:List UInt8) (E1:Env),lk 0 E1=.c (.sl fl 1 (Qb2 bs))→Qae prog Qaaf (Q6 Q80 K) E1 H:=by
  intro fl bs E1 l0
  refine Qa ?_
  simp only[go_sem,l0]
  intro l hl H' h'
  simp only[go_sem,Q3k]
  refine Qj ?_
  simp only[go_sem,Q6,Qab,Q80,reduceIte,List.mem_singleton,forall_eq,RS.op]
  exact hK ⟨l,fl,bs⟩ H' hl h'
 refine Qg (Qe rfl ?_ ?_)
 ·intro hc
  have h2:(2000:Int)<bs.length:=by simpa using hc
  refine Qq ?_
  simp only[go_sem,Qaw]
  refine⟨⟨by omega,by omega,by omega⟩,?_⟩
  have ht:List.take 2000 (Qb2 bs)=Qb2 (bs.take 2000):=by simp[Qb2,List.map_take]
  rw[ht]
  exact tail _ (bs.take 2000) _ (by simp[lk];rfl)
 ·intro hc
  refine Qh ?_
  exact tail fl bs _ (by simp[lk])
end Go.AE.Y

namespace Go.AE.Y
def Qkj (n:Nat)(nx:Nat→List Int):Bool:=(List.range n).all (fun i=>(nx i).all fun x=>decide (0≤x∧x≤(n:Int)-1))&&decide (0<n)
def nxN (nx:Nat→List Int)(b:Nat):List Nat:=(nx b).map Int.toNat
theorem Q7h {n:Nat}{nx:Nat→List Int}(h:Qkj n nx=true){b:Nat}(hb:b<n){x:Int}(hx:x∈nx b):0≤x∧x≤(n:Int)-1:=by
 simp only[Qkj,Bool.and_eq_true,List.all_eq_true,List.mem_range,decide_eq_true_eq]at h
 exact h.1 b hb x hx
theorem Qvv {n:Nat}{nx:Nat→List Int}(h:Qkj n nx=true):0<n:=by
 simp only[Qkj,Bool.and_eq_true,decide_eq_true_eq]at h
 exact h.2
theorem Qaov {n:Nat}{nx:Nat→List Int}(h:Qkj n nx=true){b:Nat}(hb:b<n){x:Nat}(hx:x∈nxN nx b):x<n:=by
 obtain⟨y,hy,rfl⟩:=List.mem_map.1 hx
 have:=Q7h h hb hy
 omega
inductive Dfs (g:Nat→List Nat):List Nat→List Bool→List Nat→List Bool→List Nat→Prop
 |nil (S:List Bool) (o:List Nat):Dfs g [] S o S o
 |skip {x:Nat} {xs:List Nat} {S S':List Bool} {o o':List Nat}:S.getD x false=true→Dfs g xs S o S' o'→Dfs g (x::xs) S o S' o'
 |go {x:Nat} {xs:List Nat} {S S1 S':List Bool} {o o1 o':List Nat}:S.getD x false=false→Dfs g (g x) (S.set x true) o S1 o1→Dfs g xs S1 (o1++[x]) S' o'→Dfs g (x::xs) S o S' o'
variable {g:Nat→List Nat}{xs:List Nat}{S S' S1:List Bool}{o o' o1:List Nat}
theorem Dfs.app (h:Dfs g xs S o S1 o1):∀{ys:List Nat},Dfs g ys S1 o1 S' o'→Dfs g (xs++ys) S o S' o':=by
 induction h with
 |nil S o=>exact fun h=>h
 |skip h1 h2 ih=>exact fun h=>.skip h1 (ih h)
 |go h1 h2 h3 ih1 ih2=>exact fun h=>.go h1 h2 (ih2 h)
theorem Dfs.one {x:Nat}(h1:S.getD x false=false)(h:Dfs g (g x) (S.set x true) o S1 o1):Dfs g [x] S o S1 (o1++[x]):=.go h1 h (.nil _ _)
theorem Dfs.len (h:Dfs g xs S o S' o'):S'.length=S.length:=by
 induction h with
 |nil=>rfl
 |skip _ _ ih=>exact ih
 |go _ _ _ ih1 ih2=>rw[ih2,ih1,List.length_set]
theorem Qct (S:List Bool)(x y:Nat):(S.set x true).getD y false=(if y=x∧x<S.length then true else S.getD y false):=by
 simp only[List.getD_eq_getElem?_getD,List.getElem?_set]
 by_cases h:x=y
 ·subst h
  by_cases h2:x<S.length
  ·simp[h2]
  ·simp[h2]
 ·have h':¬y=x:=fun hh=>h hh.symm
  simp[h,h']
theorem Dfs.mono (h:Dfs g xs S o S' o'):∀x,S.getD x false=true→S'.getD x false=true:=by
 induction h with
 |nil=>exact fun _ h=>h
 |skip _ _ ih=>exact ih
 |go _ _ _ ih1 ih2=>
  intro x hx
  refine ih2 x (ih1 x ?_)
  rw[Qct]
  split
  ·rfl
  ·exact hx
def cnt (S:List Bool):Nat:=S.count true
theorem Q7c {x:Nat}(hx:x<S.length)(h:S.getD x false=false):cnt (S.set x true)=cnt S+1:=by
 induction S generalizing x with
 |nil=>simp at hx
 |cons a S ih=>
  cases x with
  |zero=>
   simp at h;subst h
   simp[cnt]
  |succ x=>
   have:=ih (x:=x) (by simpa using hx) (by simpa using h)
   simp only[cnt,List.set_cons_succ,List.count_cons]at this⊢
   omega
theorem Qa31 (S:List Bool):cnt S≤S.length:=List.count_le_length
theorem Dfs.count (h:Dfs g xs S o S' o'):(∀x,x<S.length→∀y∈g x,y<S.length)→(∀x∈xs,x<S.length)→o'.length+cnt S=o.length+cnt S':=by
 induction h with
 |nil=>intros;rfl
 |skip _ _ ih=>exact fun h1 h2=>ih h1 fun x hx=>h2 x (List.mem_cons_of_mem _ hx)
 |@go x xs S S1 S' o o1 o' h1 h2 h3 ih1 ih2=>
  intro hg hxs
  have hx:=hxs x List.mem_cons_self
  have e1:=ih1 (by simpa using hg) (by simpa using hg x hx)
  have hl:=h2.len
  rw[List.length_set]at hl
  have e2:=ih2 (by rw[hl];exact hg) (by rw[hl];exact fun y hy=>hxs y (List.mem_cons_of_mem _ hy))
  rw[Q7c hx h1]at e1
  simp only[List.length_append,List.length_cons,List.length_nil]at e2
  omega
theorem Dfs.olen (h:Dfs g xs S o S' o'):o.length≤o'.length:=by
 induction h with
 |nil=>exact Nat.le_refl _
 |skip _ _ ih=>exact ih
 |go _ _ _ ih1 ih2=>rw[List.length_append]at ih2;omega
theorem Dfs.all (h:Dfs g xs S o S' o'):∀P:Nat→Prop,(∀x,P x→∀y∈g x,P y)→(∀x∈xs,P x)→(∀x∈o,P x)→∀x∈o',P x:=by
 induction h with
 |nil=>exact fun P _ _ h=>h
 |skip _ _ ih=>exact fun P h1 h2 h3=>ih P h1 (fun x hx=>h2 x (List.mem_cons_of_mem _ hx)) h3
 |go h1 h2 h3 ih1 ih2=>
  intro P hg hxs ho
  have hx:=hxs _ List.mem_cons_self
  refine ih2 P hg (fun y hy=>hxs y (List.mem_cons_of_mem _ hy)) fun y hy=>?_
  rcases List.mem_append.1 hy with hy|hy
  ·exact ih1 P hg (hg _ hx) ho y hy
  ·simp at hy;subst hy;exact hx
end Go.AE.Y

namespace Go.AE.Y
open Go.Proofs.Tryz
variable {H:Heap}{K:V→Heap→Prop}
structure GRd (H:Heap)(c:C)(rows:List (List C))(nx:Nat→List Int):Prop where
 s:Slc H 5 rows c
 ow:c.isOw=false
 no:∀r∈rows,noOw r=true
 x:∀i,i<rows.length→∃a1 a2 a3 a4 fl,rows.getD i []=[a1,a2,a3,a4,.sl fl 1 (Qf (nx i))]
theorem GRd.keep {c:C}{rows:List (List C)}{nx:Nat→List Int}{H':Heap}{E L:List (Nat×Obj)}(h:GRd H c rows nx)(kn:Kn H H' E L)(hE:∀l a b d,c=.vsl l a b d→l∉E.map Prod.fst):GRd H' c rows nx:=⟨h.s.keep kn hE,h.ow,h.no,h.x⟩
theorem GRd.keep0 {c:C}{rows:List (List C)}{nx:Nat→List Int}{H':Heap}{L:List (Nat×Obj)}(h:GRd H c rows nx)(kn:Kn H H' [] L):GRd H' c rows nx:=h.keep kn (by simp)
def gnx (q:CodeD):Nat→List Int:=fun i=>(q.blocks.map BlkD.next).getD i []
theorem Qht (H:Heap)(q:CodeD)(fl:Bool):GRd H (.sl fl 5 (Qm q.blocks)) (Qm q.blocks) (gnx q):=by
 refine⟨.mk' _ _ _ _,rfl,Q67 _,fun i h=>?_⟩
 rw[Qk]at h
 rw[Q7 _ _ h]
 have:gnx q i=q.blocks[i].next:=by simp[gnx,List.getD_eq_getElem?_getD,h]
 exact⟨.sl false 2 (Qaj q.blocks[i].phis),.sl false 4 (Qbo q.blocks[i].ins),.int .i64 q.blocks[i].jump,.int .i64 q.blocks[i].on,false,by rw[this];rfl⟩
set_option maxHeartbeats 1000000 in
theorem Qa9x {p rg:Int}{bc:C}{rows:List (List C)}{nx:Nat→List Int}(hg:GRd H bc rows nx)(hK:K (.c (.bool (Qkj rows.length nx))) H):Qv prog Qy6 [.ag [.int .i64 p,.int .i64 rg,bc]] H K:=by
 refine Qb Qar Qbam ?_
 have how:=hg.ow
 have hok:=eq_true hg.s.ok
 have hlen:=hg.s.len
 have hsz:=hg.s.sz
 have hrw:=hg.s.rows
 have retf:∀(b:Bool) (e:Env),b=Qkj rows.length nx→lk 2 e=.c (.bool b)→Q6 Q8s K .ret e H:=by
  intro b e hb h3
  simp only[go_sem,Q6,Qab,Q8s,List.mem_singleton,forall_eq,RS.op,h3]
  rw[hb];exact hK
 refine Qa ?_
 simp only[go_sem]
 refine Q4 ?_
 refine Qa ?_
 simp only[go_sem]
 refine Qg (Qc (Qs (fun m e1 H1=>∃(i:Nat),m=rows.length-i∧i≤rows.length∧H1=H∧(∀j,j<i→∀x∈nx j,0≤x∧x≤(rows.length:Int)-1)∧e1=[(1,.c (.pp [.int .i64 p,.int .i64 rg,bc])),(3,.c (.int .i64 i))]) rows.length ?_ ?_))
 ·exact⟨0,by omega,by omega,rfl,fun j hj=>by omega,rfl⟩
 ·rintro m e1 H1 ⟨i,hm,hi,rfl,hall,rfl⟩
  refine Q4 ?_
  refine Qa ?_
  simp only[go_sem,how,hok,hlen]
  intro hl
  simp only[LIM]at hl
  refine Qg (Qe rfl ?_ ?_)
  ·intro hc
   have hlt:i<rows.length:=by simpa using hc
   obtain⟨a1,a2,a3,a4,fl,hrow⟩:=hg.x i hlt
   refine Qh ?_
   simp only[go_sem]
   refine Qdm (fun e2 H2=>H2=H1∧(∀x∈nx i,0≤x∧x≤(rows.length:Int)-1)∧lk 1 e2=.c (.pp [.int .i64 p,.int .i64 rg,bc])∧lk 3 e2=.c (.int .i64 i)) ?_ ?_
   ·intro Q hn hr _
    refine Qc ?_
    refine Qa ?_
    simp only[go_sem]
    refine Qc (Qs (fun m e1 H2=>∃(k:Nat),m=(nx i).length-k∧k≤(nx i).length∧H2=H1∧(∀x∈(nx i).take k,0≤x∧x≤(rows.length:Int)-1)∧e1=[(1,.c (.pp [.int .i64 p,.int .i64 rg,bc])),(3,.c (.int .i64 i)),(4,.c (.int .i64 k))]) (nx i).length ?_ ?_)
    ·exact⟨0,by omega,by omega,rfl,by simp,rfl⟩
    ·rintro m2 e1 H2 ⟨k,hm2,hk,rfl,hall2,rfl⟩
     refine Q4 ?_
     refine Qa ?_
     simp only[go_sem,how,hok,hlen,hsz,hrw,hlt,hrow,Qd]
     intro hl2
     simp only[LIM]at hl2
     refine Qg (Qe rfl ?_ ?_)
     ·intro hc
      have hlt2:k<(nx i).length:=by simpa using hc
      have hgd:(nx i).getD k 0=(nx i)[k]:=by simp[List.getD_eq_getElem?_getD,hlt2]
      refine Qh ?_
      simp only[go_sem]
      refine Qg (Qc ?_)
      refine Qal ?_
      simp only[go_sem,how,hok,hlen,hsz,hrw,hlt,hrow,hlt2,Qd,Qx _ _ hlt2,hgd]
      refine⟨Qo (by omega) (by omega),?_⟩
      refine Qc0 ?_
      simp only[go_sem,Q15]
      refine Qe rfl ?_ ?_
      ·intro hc2
       refine Qa ?_
       simp only[go_sem]
       refine Qj ?_
       simp only[go_sem,X.next]
       refine hr _ _ (retf false _ ?_ (by simp[lk]))
       cases hf:Qkj rows.length nx with
       |false=>rfl
       |true=>
        have:=Q7h hf hlt (List.getElem_mem hlt2)
        simp at hc2
        omega
      ·intro hc2
       refine Qh ?_
       simp only[go_sem]
       refine Qq ?_
       simp only[go_sem,X.next]
       refine⟨Qo (by omega) (by omega),(nx i).length-(k+1),by omega,k+1,rfl,by omega,fun x hx=>?_,rfl⟩
       rw[List.take_succ_eq_append_getElem hlt2]at hx
       rcases List.mem_append.1 hx with hx|hx
       ·exact hall2 x hx
       ·simp only[List.mem_singleton]at hx;subst hx
        simpa using hc2
     ·intro hc
      have hge:(nx i).length≤k:=by simpa using hc
      rw[List.take_of_length_le hge]at hall2
      refine Qr ?_
      simp only[go_sem,X.next]
      exact hn _ _ ⟨rfl,hall2,by simp[lk],by simp[lk]⟩
   ·rintro e2 H2 ⟨rfl,hx,l1,l3⟩
    refine Qq ?_
    simp only[go_sem,X.next,l1,l3]
    refine⟨Qo (by omega) (by omega),rows.length-(i+1),by omega,i+1,rfl,by omega,fun j hj=>?_,rfl⟩
    by_cases h:j<i
    ·exact hall j h
    ·have:j=i:=by omega
     subst this;exact hx
  ·intro hc
   have hge:i=rows.length:=by have:¬i<rows.length:=(by simpa using hc);omega
   subst hge
   refine Qr ?_
   simp only[go_sem,X.next]
   refine Qa ?_
   simp only[go_sem,how,hok,hlen]
   intro _
   refine Qj ?_
   refine retf _ _ ?_ (by simp[lk];rfl)
   have:(List.range rows.length).all (fun i=>(nx i).all fun x=>decide (0≤x∧x≤(rows.length:Int)-1))=true:=by
    simp only[List.all_eq_true,List.mem_range,decide_eq_true_eq]
    exact hall
   simp only[Qkj,this,Bool.true_and]
   try (by_cases h:0<rows.length <;> simp[h])
end Go.AE.Y

namespace Go.AE.Y
open Go.Proofs.Tryz
def Ql (S:List Bool):List (List C):=S.map fun b=>[.bool b]
theorem Qt (S:List Bool):(Ql S).length=S.length:=by simp[Ql]
theorem Q0 (S:List Bool)(i:Nat)(h:i<S.length):(Ql S).getD i []=[.bool (S.getD i false)]:=by
 simp[Ql,List.getD_eq_getElem?_getD,h]
theorem Qba (S:List Bool)(i:Nat)(b:Bool):(Ql S).set i [.bool b]=Ql (S.set i b):=by simp[Ql,List.map_set]
theorem Qhm (S:List Bool):∀r∈Ql S,noOw r=true:=by intro r hr;obtain⟨x,_,rfl⟩:=List.mem_map.1 hr;rfl
def Q5 (l:List Nat):List (List C):=Qf (l.map Int.ofNat)
theorem Qw (l:List Nat):(Q5 l).length=l.length:=by simp[Q5,Qd]
theorem Qaw9 (l:List Nat)(n:Nat):Q5 l++[[.int .i64 (n:Int)]]=Q5 (l++[n]):=by simp[Q5,Qf]
theorem Qaq (l:List Nat):∀r∈Q5 l,noOw r=true:=Qu _
set_option maxHeartbeats 2000000 in
theorem Qzo {F:Heap}{p rg:Int}{bc:C}{rows:List (List C)}{nx:Nat→List Int}{y:Nat}(hfit:Qkj rows.length nx=true)(hn:rows.length≤1000000)(hg:GRd F bc rows nx)(hyb:∀l a b d,bc=.vsl l a b d→l≠y) :
  ∀(u b:Nat) (S:List Bool) (o:List Nat) (oc:C) (Lg:List (Nat×Obj)) (H:Heap) (K:V→Heap→Prop),S.length=rows.length→rows.length-cnt S≤u→b<rows.length→S.getD b false=false→
   Kn F H [(y,.vec 1 (Ql S))] ([]++Lg)→Gr Lg 1 (Q5 o) oc→o.length≤cnt S→
   (∀(S':List Bool) (o':List Nat) (oc':C) (Lg':List (Nat×Obj)) (H':Heap),Dfs (nxN nx) [b] S o S' o'→Kn F H' [(y,.vec 1 (Ql S'))] ([]++Lg')→Gr Lg' 1 (Q5 o') oc'→K (.c oc') H')→
   Qv prog Qed [.ag [.int .i64 p,.int .i64 rg,bc],.c (.int .i64 b),.c (.vsl y 1 0 rows.length),.c oc] H K:=by
 intro u
 induction u with
 |zero=>
  intro b S o oc Lg H K hS hu hb hsb
  have h1:=Q7c (S:=S) (x:=b) (by omega) hsb
  have h2:=Qa31 (S.set b true)
  rw[List.length_set]at h2
  omega
 |succ u ih=>
  intro b S o oc Lg H K hS hu hb hsb kn hgr hol hK
  have how:=hg.ow
  have hbS:b<S.length:=by omega
  obtain⟨a1,a2,a3,a4,fl,hrow⟩:=hg.x b hb
  have hsz:=hg.s.sz
  have hlen:=hg.s.len
  have hy:=kn.e 0 rfl
  have hocw:=hgr.isOw
  refine Qb Qar Qa5y ?_
  refine Qa ?_
  simp only[go_sem,how]
  refine Qa ?_
  have htk:List.take rows.length (Ql S)=Ql S:=List.take_of_length_le (by rw[Qt];omega)
  simp only[go_sem,hy,hb,hbS,Qt,hS,Q0 _ _ hbS,Qba,List.drop_zero,Nat.zero_add,Nat.le_refl]
  intro H1 h1
  have kn:=kn.stE 0 rfl h1
  have hcS:=Q7c hbS hsb
  have hnxl:(nxN nx b).length=(nx b).length:=by simp[nxN]
  refine Q4 ?_
  refine Qa ?_
  simp only[go_sem]
  refine Qg (Qc (Qs (fun m e1 H1=>∃(i:Nat) (S1:List Bool) (o1:List Nat) (oc1:C) (Lg1:List (Nat×Obj)),m=(nx b).length-i∧i≤(nx b).length∧Dfs (nxN nx) ((nxN nx b).take i) (S.set b true) o S1 o1∧
   Kn F H1 [(y,.vec 1 (Ql S1))] ([]++Lg1)∧Gr Lg1 1 (Q5 o1) oc1∧
   e1=[(1,.c (.int .i64 b)),(2,.c (.vsl y 1 0 rows.length)),(3,.c oc1),(4,.c (.pp [.int .i64 p,.int .i64 rg,bc])),(9,.c (.int .i64 i))]) (nx b).length ?_ ?_))
  ·exact⟨0,_,o,oc,Lg,by omega,by omega,.nil _ _,kn,hgr,rfl⟩
  ·rintro m e1 H2 ⟨i,S1,o1,oc1,Lg1,hm,hi,hd,kn,hgr,rfl⟩
   have hgd:∀x,x<(S.set b true).length→∀z∈nxN nx x,z<(S.set b true).length:=by
    rw[List.length_set,hS]
    exact fun x hx z hz=>Qaov hfit hx hz
   have hd1:=hd.len
   rw[List.length_set,hS]at hd1
   have hd2:=hd.count hgd (fun x hx=>hgd b (by rw[List.length_set];exact hbS) x (List.mem_of_mem_take hx))
   have hd3:=hd.olen
   have hd4:=Qa31 S1
   have hg2:=hg.keep kn (fun l a b d hh=>by simpa using hyb l a b d hh)
   have hok2:=eq_true hg2.s.ok
   have hrw2:=hg2.s.rows
   have hy:=kn.e 0 rfl
   refine Q4 ?_
   refine Qa ?_
   simp only[go_sem,how,hok2,hlen,hsz,hrw2,hb,hrow,Qd]
   intro hl
   simp only[LIM]at hl
   refine Qg (Qe rfl ?_ ?_)
   ·intro hc
    have hlt:i<(nx b).length:=by simpa using hc
    obtain⟨w,hw⟩:∃w:Nat,(nx b).getD i 0=w:=by
     have h1:=Q7h hfit hb (List.getElem_mem hlt)
     refine⟨((nx b)[i]).toNat,?_⟩
     simp only[List.getD_eq_getElem?_getD,List.getElem?_eq_getElem hlt,Option.getD_some]
     omega
    have hwn:(nxN nx b).take (i+1)=(nxN nx b).take i++[w]:=by
     rw[List.take_succ_eq_append_getElem (by rw[hnxl];exact hlt)]
     congr 1
     simp only[nxN,List.getElem_map]
     simp only[List.getD_eq_getElem?_getD,List.getElem?_eq_getElem hlt,Option.getD_some]at hw
     rw[hw];simp
    have hwl:w<rows.length:=Qaov hfit hb (x:=w) (by
     have:w∈(nxN nx b).take (i+1):=by rw[hwn];simp
     exact List.mem_of_mem_take this)
    have hwS:w<S1.length:=by omega
    refine Qh ?_
    simp only[go_sem]
    refine Qdm (fun e2 H2=>∃(S2:List Bool) (o2:List Nat) (oc2:C) (Lg2:List (Nat×Obj)),Dfs (nxN nx) ((nxN nx b).take (i+1)) (S.set b true) o S2 o2∧
     Kn F H2 [(y,.vec 1 (Ql S2))] ([]++Lg2)∧Gr Lg2 1 (Q5 o2) oc2∧
     lk 1 e2=.c (.int .i64 b)∧lk 2 e2=.c (.vsl y 1 0 rows.length)∧lk 3 e2=.c oc2∧lk 4 e2=.c (.pp [.int .i64 p,.int .i64 rg,bc])∧lk 9 e2=.c (.int .i64 i)) ?_ ?_
    ·intro Q hnr _ _
     have htk2:List.take rows.length (Ql S1)=Ql S1:=List.take_of_length_le (by rw[Qt];omega)
     refine Qc ?_
     refine Qa ?_
     simp only[go_sem,how,hok2,hlen,hsz,hrw2,hb,hrow,hlt,hy,hw,hwl,hwS,htk2,hd1,Qt,Q0 _ _ hwS,Qd,Qx _ _ hlt,List.drop_zero,Nat.zero_add,Nat.le_refl]
     refine Qe rfl ?_ ?_
     ·intro hc2
      have hsw:S1.getD w false=false:=Qrx hc2
      refine Qbc ?_
      simp only[go_sem,how,hok2,hlen,hsz,hrw2,hb,hrow,hlt,hw,Qd,Qx _ _ hlt,hgr.isOw]
      refine ih w S1 o1 oc1 Lg1 H2 _ hd1 (by omega) hwl hsw kn hgr (by omega) fun S2 o2 oc2 Lg2 H3 hd' kn hgr=>?_
      simp only[go_sem,Qxg]
      refine hnr _ _ ⟨S2,o2,oc2,Lg2,?_,kn,hgr,rfl,rfl,rfl,rfl,rfl⟩
      rw[hwn];exact hd.app hd'
     ·intro hc2
      have hsw:S1.getD w false=true:=Qeh hc2
      refine Qh ?_
      simp only[go_sem]
      refine hnr _ _ ⟨S1,o1,oc1,Lg1,?_,kn,hgr,rfl,rfl,rfl,rfl,rfl⟩
      rw[hwn];exact hd.app (.skip hsw (.nil _ _))
    ·rintro e2 H3 ⟨S2,o2,oc2,Lg2,hd,kn,hgr,l1,l2,l3,l4,l9⟩
     refine Qq ?_
     simp only[go_sem,X.next,l1,l2,l3,l4,l9]
     exact⟨Qo (by omega) (by omega),(nx b).length-(i+1),by omega,i+1,S2,o2,oc2,Lg2,rfl,by omega,hd,kn,hgr,rfl⟩
   ·intro hc
    have hge:(nx b).length≤i:=by simpa using hc
    rw[List.take_of_length_le (by rw[hnxl];exact hge)]at hd
    have hocw:=hgr.isOw
    refine Qr ?_
    simp only[go_sem,X.next]
    refine Qa ?_
    simp only[go_sem,hocw]
    refine kn.grow (new:=Qf [(b:Int)]) hgr (.mk' _ _ _ _) (Qu _) (by simp only[Qw,Qd,LIM,List.length_cons,List.length_nil];omega) fun z H3 kn=>?_
    simp only[go_sem,Qxh]
    refine Qj ?_
    simp only[go_sem,Q6,Qab,Qaik,reduceIte,List.mem_singleton,forall_eq,RS.op]
    refine hK S1 (o1++[b]) _ _ H3 (.one hsb hd) kn ?_
    rw[←Qaw9]
    exact .mk _ _ _ (by simp)
end Go.AE.Y

namespace Go.AE.Y
open Go.Proofs.Tryz
variable {H:Heap}{K:V→Heap→Prop}
theorem Qda {n lo hi:Int}(hK:K (.c (.bool (decide (lo≤n)&&decide (n≤hi)))) H):Qv prog Qax [.c (.int .i64 n),.c (.int .i64 lo),.c (.int .i64 hi)] H K:=by
 refine Qb Qar Qawu ?_
 refine Qa ?_
 simp only[go_sem]
 refine Qa ?_
 simp only[go_sem]
 refine Qj ?_
 simp only[go_sem,Q6,Qab,Q8q,List.mem_singleton,forall_eq,RS.op]
 have:(bif decide (lo≤n)then decide (n≤hi)else false)=(decide (lo≤n)&&decide (n≤hi)):=by cases decide (lo≤n) <;> rfl
 first|exact hK|(rw[this];exact hK)|(simpa[this]using hK)
def IsIx (ns:List Int)(v r:Int):Prop:=(r=-1∧v∉ns)∨∃i:Nat,r=i∧i<ns.length∧ns.getD i 0=v∧v∉ns.take i
theorem IsIx.nonneg {ns:List Int}{v r:Int}(h:IsIx ns v r):decide (0≤r)=ns.contains v:=by
 rcases h with ⟨rfl,hn⟩|⟨i,rfl,h1,h2,_⟩
 ·have:ns.contains v=false:=by
   cases hc:ns.contains v with
   |false=>rfl
   |true=>exact absurd (List.contains_iff_mem.1 hc) hn
  rw[this];rfl
 ·have:v∈ns:=by
   rw[←h2,List.getD_eq_getElem?_getD,List.getElem?_eq_getElem h1];exact List.getElem_mem h1
  rw[List.contains_iff_mem.2 this];simp
theorem Qbhy {c:C}{ns:List Int}{v:Int}(hs:Slc H 1 (Qf ns) c)(how:c.isOw=false)(hK:∀r,IsIx ns v r→K (.c (.int .i64 r)) H) :
  Qv prog Qt6 [.c c,.c (.int .i64 v)] H K:=by
 refine Qb Qar Qa55 ?_
 have hok:=eq_true hs.ok
 have hlen:=hs.len
 have hsz:=hs.sz
 have hrw:=hs.rows
 refine Qa ?_
 simp only[go_sem,how]
 refine Q4 ?_
 refine Qa ?_
 simp only[go_sem,how,hok,hlen,Qd]
 intro hl
 simp only[LIM]at hl
 refine Qg (Qc (Qs (fun m e1 H1=>∃(i:Nat),m=ns.length-i∧i≤ns.length∧H1=H∧v∉ns.take i∧e1=[(0,.c c),(1,.c (.int .i64 v)),(7,.c (.int .i64 ns.length)),(8,.c (.int .i64 i))]) ns.length ?_ ?_))
 ·exact⟨0,by omega,by omega,rfl,by simp,rfl⟩
 ·rintro m e1 H1 ⟨i,hm,hi,rfl,hno,rfl⟩
  refine Qa ?_
  simp only[go_sem,how]
  refine Qg (Qe rfl ?_ ?_)
  ·intro hc
   have hlt:i<ns.length:=by simpa using hc
   have hgd:ns.getD i 0=ns[i]:=by simp[List.getD_eq_getElem?_getD,hlt]
   refine Qh ?_
   simp only[go_sem]
   refine Qg (Qc ?_)
   refine Qa ?_
   simp only[go_sem,how]
   refine Qa ?_
   simp only[go_sem,how,hok,hlen,hsz,hrw,hlt,Qd,Qx _ _ hlt]
   refine Qe rfl ?_ ?_
   ·intro hc2
    have hv:v=ns.getD i 0:=by simpa using hc2
    refine Qa ?_
    simp only[go_sem]
    refine Qj ?_
    simp only[go_sem,X.next,Q6,Qab,Qzw,List.mem_singleton,forall_eq,RS.op]
    exact hK _ (.inr ⟨i,rfl,hlt,hv.symm,hno⟩)
   ·intro hc2
    have hv:¬v=ns.getD i 0:=by simpa using hc2
    refine Qh ?_
    simp only[go_sem]
    refine Qq ?_
    simp only[go_sem,X.next]
    refine⟨Qo (by omega) (by omega),ns.length-(i+1),by omega,i+1,rfl,by omega,?_,rfl⟩
    rw[List.take_succ_eq_append_getElem hlt]
    simp only[List.mem_append,List.mem_singleton,not_or]
    exact⟨hno,fun h=>hv (by rw[hgd];exact h)⟩
  ·intro hc
   have hge:ns.length≤i:=by simpa using hc
   rw[List.take_of_length_le hge]at hno
   refine Qr ?_
   simp only[go_sem,X.next]
   refine Qa ?_
   simp only[go_sem]
   refine Qj ?_
   simp only[go_sem,Q6,Qab,Qzw,List.mem_singleton,forall_eq,RS.op]
   exact hK _ (.inl ⟨rfl,hno⟩)
theorem Qa42 {c:C}{ns:List Int}{v:Int}(hs:Slc H 1 (Qf ns) c)(how:c.isOw=false)(hK:K (.c (.bool (ns.contains v))) H) :
  Qv prog Qim [.c c,.c (.int .i64 v)] H K:=by
 refine Qb Qar Qaj5 ?_
 refine Qa ?_
 simp only[go_sem,how]
 refine Qa ?_
 simp only[go_sem,how]
 refine Qbhy hs how fun r hr=>?_
 simp only[go_sem,Qmo]
 refine Qj ?_
 simp only[go_sem,Q6,Qab,Qwk,List.mem_singleton,forall_eq,RS.op]
 rw[hr.nonneg];exact hK
theorem Qavz {c:C}{ns:List Int}{f:Nat}{caps:List C}{p:Int→Bool}(hs:Slc H 1 (Qf ns) c)(how:c.isOw=false)
  (hf:∀(x:Int) (K':V→Heap→Prop),x∈ns→K' (.c (.bool (p x))) H→Qv prog f ([.c (.int .i64 x)]++caps.map .c) H K')
  (hK:∀r:Int,decide (0≤r)=ns.any p→K (.c (.int .i64 r)) H) :
  Qv prog Qgn [.c c,.c (.fn f caps)] H K:=by
 refine Qb Qar Qaeu ?_
 have hok:=eq_true hs.ok
 have hlen:=hs.len
 have hsz:=hs.sz
 have hrw:=hs.rows
 refine Qa ?_
 simp only[go_sem,how]
 refine Q4 ?_
 refine Qa ?_
 simp only[go_sem,how,hok,hlen,Qd]
 intro hl
 simp only[LIM]at hl
 refine Qg (Qc (Qs (fun m e1 H1=>∃(i:Nat),m=ns.length-i∧i≤ns.length∧H1=H∧(∀x∈ns.take i,p x=false)∧e1=[(0,.c c),(1,.c (.fn f caps)),(7,.c (.int .i64 ns.length)),(8,.c (.int .i64 i))]) ns.length ?_ ?_))
 ·exact⟨0,by omega,by omega,rfl,by simp,rfl⟩
 ·rintro m e1 H1 ⟨i,hm,hi,rfl,hno,rfl⟩
  refine Qa ?_
  simp only[go_sem,how]
  refine Qg (Qe rfl ?_ ?_)
  ·intro hc
   have hlt:i<ns.length:=by simpa using hc
   have hgd:ns.getD i 0=ns[i]:=by simp[List.getD_eq_getElem?_getD,hlt]
   refine Qh ?_
   simp only[go_sem]
   refine Qg (Qc ?_)
   refine Qa ?_
   simp only[go_sem,how]
   refine Qa ?_
   simp only[go_sem,how,hok,hlen,hsz,hrw,hlt,Qd,Qx _ _ hlt]
   refine hf _ _ (by rw[hgd];exact List.getElem_mem hlt) ?_
   refine Qe rfl ?_ ?_
   ·intro hc2
    refine Qa ?_
    simp only[go_sem]
    refine Qj ?_
    simp only[go_sem,X.next,Q6,Qab,Qiu,List.mem_singleton,forall_eq,RS.op]
    refine hK _ ?_
    have:ns.any p=true:=List.any_eq_true.2 ⟨ns[i],List.getElem_mem hlt,by rw[←hgd];exact hc2⟩
    rw[this];simp
   ·intro hc2
    refine Qh ?_
    simp only[go_sem]
    refine Qq ?_
    simp only[go_sem,X.next]
    refine⟨Qo (by omega) (by omega),ns.length-(i+1),by omega,i+1,rfl,by omega,?_,rfl⟩
    rw[List.take_succ_eq_append_getElem hlt]
    intro x hx
    rcases List.mem_append.1 hx with hx|hx
    ·exact hno x hx
    ·simp only[List.mem_singleton]at hx;subst hx;rw[←hgd];exact hc2
  ·intro hc
   have hge:ns.length≤i:=by simpa using hc
   rw[List.take_of_length_le hge]at hno
   refine Qr ?_
   simp only[go_sem,X.next]
   refine Qa ?_
   simp only[go_sem]
   refine Qj ?_
   simp only[go_sem,Q6,Qab,Qiu,List.mem_singleton,forall_eq,RS.op]
   refine hK _ ?_
   have:ns.any p=false:=by
    cases hc:ns.any p with
    |false=>rfl
    |true=>obtain⟨x,hx,hp⟩:=List.any_eq_true.1 hc;rw[hno x hx]at hp;exact absurd hp (by simp)
   rw[this];rfl
theorem Qih {c:C}{ns:List Int}{f:Nat}{caps:List C}{p:Int→Bool}(hs:Slc H 1 (Qf ns) c)(how:c.isOw=false)
  (hf:∀(x:Int) (K':V→Heap→Prop),x∈ns→K' (.c (.bool (p x))) H→Qv prog f ([.c (.int .i64 x)]++caps.map .c) H K')
  (hK:K (.c (.bool (ns.any p))) H):Qv prog Qbu [.c c,.c (.fn f caps)] H K:=by
 refine Qb Qar Qzq ?_
 refine Qa ?_
 simp only[go_sem,how]
 refine Qa ?_
 simp only[go_sem,how]
 refine Qavz hs how hf fun r hr=>?_
 simp only[go_sem,Qfr]
 refine Qj ?_
 simp only[go_sem,Q6,Qab,Qjm,List.mem_singleton,forall_eq,RS.op]
 rw[hr];exact hK
end Go.AE.Y

namespace Go.AE.Y
attribute [local instance] Classical.propDecidable
inductive Rch (g:Nat→List Nat)(A:Nat→Prop):Nat→Nat→Prop
 |refl {x:Nat}:¬A x→Rch g A x x
 |step {x y z:Nat}:Rch g A x y→z∈g y→¬A z→Rch g A x z
variable {g:Nat→List Nat}{A B:Nat→Prop}{x y z:Nat}
theorem Rch.mono (h:Rch g A x y)(hAB:∀z,B z→A z):Rch g B x y:=by
 induction h with
 |refl h=>exact .refl fun hb=>h (hAB _ hb)
 |step h1 h2 h3 ih=>exact ih.step h2 fun hb=>h3 (hAB _ hb)
theorem Rch.fst (h:Rch g A x y):¬A x:=by
 induction h with
 |refl h=>exact h
 |step _ _ _ ih=>exact ih
theorem Rch.snd (h:Rch g A x y):¬A y:=by
 cases h with
 |refl h=>exact h
 |step _ _ h=>exact h
theorem Rch.trans (h:Rch g A x y)(k:Rch g A y z):Rch g A x z:=by
 induction k with
 |refl _=>exact h
 |step _ h2 h3 ih=>exact ih.step h2 h3
theorem Rch.head (hx:¬A x)(hy:y∈g x)(h:Rch g A y z):Rch g A x z:=(Rch.step (.refl hx) hy h.fst).trans h
theorem Rch.lt {n:Nat}(hg:∀x,x<n→∀y∈g x,y<n)(h:Rch g A x y)(hx:x<n):y<n:=by
 induction h with
 |refl _=>exact hx
 |step _ h2 _ ih=>exact hg _ ih _ h2
variable {xs:List Nat}{S S' S1:List Bool}{o o' o1:List Nat}
theorem Dfs.adds (h:Dfs g xs S o S' o'):(∀x,x<S.length→∀y∈g x,y<S.length)→(∀x∈xs,x<S.length)→
  ∃t,o'=o++t∧(∀x,S'.getD x false=true↔S.getD x false=true∨x∈t)∧(∀x∈t,∀y∈g x,S'.getD y false=true)∧
   (∀x∈xs,S'.getD x false=true)∧(∀y∈t,∃x∈xs,Rch g (fun z=>S.getD z false=true) x y):=by
 induction h with
 |nil S o=>exact fun _ _=>⟨[],by simp,by simp,by simp,by simp,by simp⟩
 |@skip x xs S S' o o' h1 h2 ih=>
  intro hg hx
  obtain⟨t,e,a1,a2,a3,a4⟩:=ih hg fun y hy=>hx y (List.mem_cons_of_mem _ hy)
  refine⟨t,e,a1,a2,fun y hy=>?_,fun y hy=>?_⟩
  ·rcases List.mem_cons.1 hy with rfl|hy
   ·exact h2.mono _ h1
   ·exact a3 y hy
  ·obtain⟨z,hz,hr⟩:=a4 y hy
   exact⟨z,List.mem_cons_of_mem _ hz,hr⟩
 |@go x xs S S1 S' o o1 o' h1 h2 h3 ih1 ih2=>
  intro hg hxs
  have hx:=hxs x List.mem_cons_self
  have hl:=h2.len
  rw[List.length_set]at hl
  obtain⟨t1,e1,a1,a2,a3,a4⟩:=ih1 (by simpa using hg) (by simpa using hg x hx)
  obtain⟨t2,e2,b1,b2,b3,b4⟩:=ih2 (by rw[hl];exact hg) (by rw[hl];exact fun y hy=>hxs y (List.mem_cons_of_mem _ hy))
  have hset:∀y,(S.set x true).getD y false=true↔y=x∨S.getD y false=true:=by
   intro y
   rw[Qct]
   by_cases hyx:y=x
   ·simp[hyx,hx]
   ·simp[hyx]
  have hmono:∀y,S.getD y false=true→S1.getD y false=true:=fun y hy=>(a1 y).2 (.inl ((hset y).2 (.inr hy)))
  have hxS1:S1.getD x false=true:=(a1 x).2 (.inl ((hset x).2 (.inl rfl)))
  refine⟨t1++[x]++t2,by rw[e2,e1];simp,fun y=>?_,fun y hy z hz=>?_,fun y hy=>?_,fun y hy=>?_⟩
  ·rw[b1,a1,hset]
   simp only[List.mem_append,List.mem_singleton]
   constructor
   ·rintro (((h|h)|h)|h)
    ·exact .inr (.inl (.inr h))
    ·exact .inl h
    ·exact .inr (.inl (.inl h))
    ·exact .inr (.inr h)
   ·rintro (h|((h|h)|h))
    ·exact .inl (.inl (.inr h))
    ·exact .inl (.inr h)
    ·exact .inl (.inl (.inl h))
    ·exact .inr h
  ·rcases List.mem_append.1 hy with hy|hy
   ·rcases List.mem_append.1 hy with hy|hy
    ·exact (b1 z).2 (.inl (a2 y hy z hz))
    ·simp only[List.mem_singleton]at hy;subst hy
     exact (b1 z).2 (.inl (a3 z hz))
   ·exact b2 y hy z hz
  ·rcases List.mem_cons.1 hy with rfl|hy
   ·exact (b1 y).2 (.inl hxS1)
   ·exact b3 y hy
  ·rcases List.mem_append.1 hy with hy|hy
   ·rcases List.mem_append.1 hy with hy|hy
    ·obtain⟨z,hz,hr⟩:=a4 y hy
     exact⟨x,List.mem_cons_self,.head (by rw[h1];simp) hz (hr.mono fun w hw=>(hset w).2 (.inr hw))⟩
    ·simp only[List.mem_singleton]at hy;subst hy
     exact⟨y,List.mem_cons_self,.refl (by rw[h1];simp)⟩
   ·obtain⟨z,hz,hr⟩:=b4 y hy
    exact⟨z,List.mem_cons_of_mem _ hz,hr.mono hmono⟩
theorem Dfs.seen (h:Dfs g xs S o S' o')(hg:∀x,x<S.length→∀y∈g x,y<S.length)(hxs:∀x∈xs,x<S.length)(y:Nat) :
  S'.getD y false=true↔S.getD y false=true∨∃x∈xs,Rch g (fun z=>S.getD z false=true) x y:=by
 obtain⟨t,e,a1,a2,a3,a4⟩:=h.adds hg hxs
 constructor
 ·intro hy
  rcases (a1 y).1 hy with hy|hy
  ·exact .inl hy
  ·exact .inr (a4 y hy)
 ·rintro (hy|⟨x,hx,hr⟩)
  ·exact h.mono y hy
  ·induction hr with
   |refl _=>exact a3 _ hx
   |step h1 h2 h3 ih=>
    rcases (a1 _).1 ih with h|h
    ·exact absurd h h1.snd
    ·exact a2 _ h _ h2
theorem Dfs.list (h:Dfs g xs S [] S' o')(hg:∀x,x<S.length→∀y∈g x,y<S.length)(hxs:∀x∈xs,x<S.length)(hS:∀x,S.getD x false=false)(y:Nat) :
  y∈o'↔S'.getD y false=true:=by
 obtain⟨t,e,a1,_⟩:=h.adds hg hxs
 rw[a1,hS]
 simp[e]
theorem Qa3w:∀{l k:List Nat},l.Pairwise (· < ·)→k.Pairwise (· < ·)→(∀x,x∈l↔x∈k)→l=k
 |[],[],_,_,_=>rfl
 |[],b::k,_,_,h=>by have:=(h b).2 List.mem_cons_self;simp at this
 |a::l,[],_,_,h=>by have:=(h a).1 List.mem_cons_self;simp at this
 |a::l,b::k,h1,h2,h=>by
  rw[List.pairwise_cons]at h1 h2
  have hab:a=b:=by
   rcases List.mem_cons.1 ((h a).1 List.mem_cons_self)with e|e
   ·exact e
   ·rcases List.mem_cons.1 ((h b).2 List.mem_cons_self)with e'|e'
    ·exact e'.symm
    ·have:=h1.1 b e';have:=h2.1 a e;omega
  subst hab
  congr 1
  refine Qa3w h1.2 h2.2 fun x=>⟨fun hx=>?_,fun hx=>?_⟩
  ·rcases List.mem_cons.1 ((h x).1 (List.mem_cons_of_mem _ hx))with e|e
   ·subst e;have:=h1.1 x hx;omega
   ·exact e
  ·rcases List.mem_cons.1 ((h x).2 (List.mem_cons_of_mem _ hx))with e|e
   ·subst e;have:=h2.1 x hx;omega
   ·exact e
theorem Qanu {l:List Nat}{n:Nat}{p:Nat→Bool}(h1:l.Pairwise (· < ·))(h:∀x,x∈l↔x<n∧p x=true):l=(List.range n).filter p:=
 Qa3w h1 (List.Pairwise.filter _ List.pairwise_lt_range) fun x=>by rw[h];simp[List.mem_filter]
noncomputable def Qi3 (g:Nat→List Nat)(a:Int)(x:Nat):Bool:=decide (Rch g (fun z=>(z:Int)=a) 0 x)
noncomputable def Qvs (g:Nat→List Nat)(a b:Nat):Bool:=Qi3 g (-1) a&&Qi3 g (-1) b&&!Qi3 g a b
def Qaj8 (n:Nat)(g:Nat→List Nat)(h:Nat):List Nat:=(List.range n).filter fun i=>decide (h∈g i)
noncomputable def Qbma (n:Nat)(g:Nat→List Nat)(h:Nat):Bool:=(Qaj8 n g h).any fun p=>Qvs g h p
noncomputable def Qbmb (n:Nat)(g:Nat→List Nat):List Nat:=(List.range n).filter (Qbma n g)
inductive Bdy (n:Nat)(g:Nat→List Nat)(h:Nat):Nat→Prop
 |head:Bdy n g h h
 |back {p:Nat}:p∈Qaj8 n g h→Qvs g h p=true→Bdy n g h p
 |more {b p:Nat}:Bdy n g h b→b≠h→p∈Qaj8 n g b→Qi3 g (-1) p=true→Bdy n g h p
noncomputable def Qa8x (n:Nat)(g:Nat→List Nat)(h:Nat):List Nat:=(List.range n).filter fun b=>decide (Bdy n g h b)
variable {n h:Nat}
theorem predL_mem {p:Nat}:p∈Qaj8 n g h↔p<n∧h∈g p:=by simp[Qaj8]
theorem Bdy.lt {b:Nat}(hh:h<n)(hb:Bdy n g h b):b<n:=by
 cases hb with
 |head=>exact hh
 |back h1 _=>exact (predL_mem.1 h1).1
 |more _ _ h1 _=>exact (predL_mem.1 h1).1
theorem Qa8z (hh:h<n){b:Nat}:b∈Qa8x n g h↔Bdy n g h b:=by
 simp only[Qa8x,List.mem_filter,List.mem_range,decide_eq_true_eq]
 exact⟨fun h=>h.2,fun h=>⟨h.lt hh,h⟩⟩
theorem Qa8y:(Qa8x n g h).Pairwise (· < ·):=List.Pairwise.filter _ List.pairwise_lt_range
end Go.AE.Y

namespace Go.AE.Y
open Go.Proofs.Tryz
variable {H:Heap}{K:V→Heap→Prop}
theorem GRd.ows {c:C}{rows:List (List C)}{nx:Nat→List Int}(h:GRd H c rows nx){i:Nat}(hi:i<rows.length){a1 a2 a3 a4 a5:C}(hr:rows.getD i []=[a1,a2,a3,a4,a5]) :
  a1.isOw=false∧a2.isOw=false∧a3.isOw=false∧a4.isOw=false∧a5.isOw=false:=by
 have:=h.no _ (List.getElem_mem hi)
 have e:rows[i]=[a1,a2,a3,a4,a5]:=by rw[←hr];simp[List.getD_eq_getElem?_getD,hi]
 rw[e]at this
 simpa[Go.AE.noOw]using this
def Qaj9 (nx:Nat→List Int)(b:Int)(n:Nat):List Int:=if decide (0≤b)&&decide (b≤(n:Int)-1)then Q8 nx b n else []
set_option maxHeartbeats 1000000 in
theorem Qa8p {p rg:Int}{bc:C}{rows:List (List C)}{nx:Nat→List Int}{b:Int}(hg:GRd H bc rows nx)
  (hK:∀fl H',Upd H H' []→K (.c (.sl fl 1 (Qf (Qaj9 nx b rows.length)))) H'):Qv prog Qkk [.ag [.int .i64 p,.int .i64 rg,bc],.c (.int .i64 b)] H K:=by
 refine Qz ?_
 refine Qb Qar Qaof ?_
 have how:=hg.ow
 have hok:=eq_true hg.s.ok
 have hlen:=hg.s.len
 have hsz:=hg.s.sz
 refine Qa ?_
 simp only[go_sem,how]
 refine Qa ?_
 simp only[go_sem,how]
 refine Q4 ?_
 refine Qa ?_
 simp only[go_sem,how,hok,hlen]
 intro hl
 simp only[LIM]at hl
 refine⟨Qo (by omega) (by omega),?_⟩
 refine Qda ?_
 simp only[go_sem,Qop]
 refine Qg (Qe rfl ?_ ?_)
 ·intro hc
  have hc':=Qrx hc
  refine Qa ?_
  simp only[go_sem]
  refine Qj ?_
  simp only[go_sem,Q6,Qab,Qoj,List.mem_singleton,forall_eq,RS.op]
  have h:=hK false _ (Kn.start0 H).fin
  simp only[Qaj9,hc']at h
  exact⟨_,.c _ _ FrzR.nil.sl,h⟩
 ·intro hc
  have hc':=Qeh hc
  refine Qh ?_
  simp only[go_sem]
  refine Q4 ?_
  refine Qa ?_
  simp only[go_sem,how,hok,hlen]
  intro _
  refine Qg (Qc (Qs (fun m e1 H1=>∃(i:Nat) (c:C) (Lg:List (Nat×Obj)),m=rows.length-i∧i≤rows.length∧Gr Lg 1 (Qf (Q8 nx b i)) c∧Kn H H1 [] ([]++Lg)∧
   e1=[(1,.c (.int .i64 b)),(5,.c c),(16,.c bc),(17,.c (.int .i64 rows.length)),(18,.c (.int .i64 i))]) rows.length ?_ ?_))
  ·exact⟨0,_,[],by omega,by omega,.nil 1,Kn.start0 H,rfl⟩
  ·rintro m e1 H1 ⟨i,c,Lg,hm,hi,hgr,kn,rfl⟩
   have hg1:=hg.keep0 kn
   have hok1:=eq_true hg1.s.ok
   have hrw1:=hg1.s.rows
   refine Qa ?_
   simp only[go_sem]
   refine Qg (Qe rfl ?_ ?_)
   ·intro hc
    have hlt:i<rows.length:=by simpa using hc
    obtain⟨a1,a2,a3,a4,fl,hrow⟩:=hg.x i hlt
    obtain⟨o1,o2,o3,o4,_⟩:=hg.ows hlt hrow
    refine Qh ?_
    simp only[go_sem]
    refine Qdm (fun e2 H2=>∃(c:C) (Lg:List (Nat×Obj)),Gr Lg 1 (Qf (Q8 nx b (i+1))) c∧Kn H H2 [] ([]++Lg)∧
     lk 1 e2=.c (.int .i64 b)∧lk 5 e2=.c c∧lk 16 e2=.c bc∧lk 17 e2=.c (.int .i64 rows.length)∧lk 18 e2=.c (.int .i64 i)) ?_ ?_
    ·intro Q hnr _ _
     refine Qc ?_
     refine Qa ?_
     simp only[go_sem,how,hok1,hlen,hsz,hrw1,hlt,hrow,o1,o2,o3,o4]
     intro x hx H2 h2
     have kn:=(kn.al hx h2).perm List.perm_append_comm
     have hx2:=kn.l 0 rfl
     simp only[go_sem,Qoq,hx2]
     intro H3 h3
     have kn:=kn.stL 0 rfl h3
     have hx3:=kn.l 0 rfl
     refine Qa ?_
     simp only[go_sem,hx3]
     refine Qa42 (.mk' _ _ _ _) rfl ?_
     refine Qe rfl ?_ ?_
     ·intro hcon
      have hpl:=Qcm nx b i
      refine Qq ?_
      simp only[go_sem]
      refine kn.grow (B:=[_]) (new:=Qf [(i:Int)]) hgr (.mk' _ _ _ _) (Qu _) (by simp only[Qd,LIM,List.length_cons,List.length_nil];omega) fun y' H4 kn=>?_
      simp only[go_sem,Qor]
      refine hnr _ _ ⟨_,_,?_,(kn.perm List.perm_append_comm).drop,rfl,rfl,rfl,rfl,rfl⟩
      rw[Qhv,hcon,if_pos rfl,Qcf]
      exact .mk _ _ _ (by simp)
     ·intro hcon
      refine Qh ?_
      simp only[go_sem]
      refine hnr _ _ ⟨c,Lg,?_,?_,rfl,rfl,rfl,rfl,rfl⟩
      ·rw[Qhv,hcon]
       simpa using hgr
      ·have kn:Kn H H3 [] ([(x,.st [a1,a2,a3,a4,.sl fl 1 (Qf (nx i))])]++([]++Lg)):=kn
       exact (kn.perm List.perm_append_comm).drop
    ·rintro e2 H2 ⟨c2,Lg2,hgr,kn,l1,l5,l16,l17,l18⟩
     refine Qq ?_
     simp only[go_sem,X.next,l1,l5,l16,l17,l18]
     exact⟨Qo (by omega) (by omega),rows.length-(i+1),by omega,i+1,c2,Lg2,rfl,by omega,hgr,kn,rfl⟩
   ·intro hc
    have hge:i=rows.length:=by have:¬i<rows.length:=(by simpa using hc);omega
    subst hge
    refine Qr ?_
    simp only[go_sem,X.next]
    refine Qa ?_
    simp only[go_sem,hgr.isOw]
    refine Qj ?_
    simp only[go_sem,Q6,Qab,Qoj,List.mem_singleton,forall_eq,RS.op,hgr.isOw]
    refine⟨_,.c _ _ (hgr.frz kn (Qu _)),?_⟩
    have:=hK false _ kn.fin
    simp only[Qaj9,hc']at this
    exact this
end Go.AE.Y

namespace Go.AE.Y
attribute [local instance] Classical.propDecidable
structure Wk (g:Nat→List Nat)(a:Int)(n:Nat)(S:List Bool)(T:List Nat):Prop where
 len:S.length=n
 s:∀x,S.getD x false=true→Rch g (fun z=>(z:Int)=a) 0 x
 t:∀x∈T,(x:Int)≠a→Rch g (fun z=>(z:Int)=a) 0 x
 c:∀x,S.getD x false=true→∀y∈g x,S.getD y false=true∨(y:Int)=a∨y∈T
 z:S.getD 0 false=true∨((0:Nat):Int)=a∨0∈T
 r:∀x∈T,x<n
variable {g:Nat→List Nat}{a:Int}{n:Nat}{S:List Bool}{T:List Nat}{b:Nat}
theorem Qav (n x:Nat):(List.replicate n false).getD x false=false:=by
 simp only[List.getD_eq_getElem?_getD,List.getElem?_replicate]
 split <;> rfl
theorem Wk.init (hn:0<n):Wk g a n (List.replicate n false) [0]:=by
 refine⟨by simp,fun x h=>?_,fun x hx ha=>?_,fun x h=>?_,.inr (.inr (by simp)),fun x hx=>?_⟩
 ·rw[Qav]at h;simp at h
 ·simp at hx;subst hx;exact .refl (by simpa using ha)
 ·rw[Qav]at h;simp at h
 ·simp at hx;omega
theorem Wk.skip (h:Wk g a n S (T++[b]))(hb:(b:Int)=a∨S.getD b false=true):Wk g a n S T:=by
 refine⟨h.len,h.s,fun x hx=>h.t x (List.mem_append_left _ hx),fun x hx y hy=>?_,?_,fun x hx=>h.r x (List.mem_append_left _ hx)⟩
 ·rcases h.c x hx y hy with h1|h1|h1
  ·exact .inl h1
  ·exact .inr (.inl h1)
  ·rcases List.mem_append.1 h1 with h1|h1
   ·exact .inr (.inr h1)
   ·simp at h1;subst h1
    rcases hb with hb|hb
    ·exact .inr (.inl hb)
    ·exact .inl hb
 ·rcases h.z with h1|h1|h1
  ·exact .inl h1
  ·exact .inr (.inl h1)
  ·rcases List.mem_append.1 h1 with h1|h1
   ·exact .inr (.inr h1)
   ·simp at h1;subst h1
    rcases hb with hb|hb
    ·exact .inr (.inl hb)
    ·exact .inl hb
theorem Wk.go (h:Wk g a n S (T++[b]))(hba:(b:Int)≠a)(hg:∀y∈g b,y<n):Wk g a n (S.set b true) (T++g b):=by
 have hb:=h.t b (by simp) hba
 have hbn:=h.r b (by simp)
 have hset:∀y,(S.set b true).getD y false=true↔y=b∨S.getD y false=true:=by
  intro y
  rw[Qct]
  by_cases hyx:y=b
  ·simp[hyx,h.len,hbn]
  ·simp[hyx]
 refine⟨by simp[h.len],fun x hx=>?_,fun x hx ha=>?_,fun x hx y hy=>?_,?_,fun x hx=>?_⟩
 ·rcases (hset x).1 hx with rfl|hx
  ·exact hb
  ·exact h.s x hx
 ·rcases List.mem_append.1 hx with hx|hx
  ·exact h.t x (List.mem_append_left _ hx) ha
  ·exact hb.step hx ha
 ·rcases (hset x).1 hx with rfl|hx
  ·exact .inr (.inr (List.mem_append_right _ hy))
  ·rcases h.c x hx y hy with h1|h1|h1
   ·exact .inl ((hset y).2 (.inr h1))
   ·exact .inr (.inl h1)
   ·rcases List.mem_append.1 h1 with h1|h1
    ·exact .inr (.inr (List.mem_append_left _ h1))
    ·simp at h1;subst h1;exact .inl ((hset y).2 (.inl rfl))
 ·rcases h.z with h1|h1|h1
  ·exact .inl ((hset 0).2 (.inr h1))
  ·exact .inr (.inl h1)
  ·rcases List.mem_append.1 h1 with h1|h1
   ·exact .inr (.inr (List.mem_append_left _ h1))
   ·simp at h1;exact .inl ((hset 0).2 (.inl h1))
 ·rcases List.mem_append.1 hx with hx|hx
  ·exact h.r x (List.mem_append_left _ hx)
  ·exact hg x hx
theorem Wk.fin (h:Wk g a n S []):S=(List.range n).map (Qi3 g a):=by
 have hh:∀x,S.getD x false=true↔Rch g (fun z=>(z:Int)=a) 0 x:=by
  refine fun x=>⟨h.s x,fun hr=>?_⟩
  induction hr with
  |refl h0=>
   rcases h.z with h1|h1|h1
   ·exact h1
   ·exact absurd h1 h0
   ·simp at h1
  |step h1 h2 h3 ih=>
   rcases h.c _ ih _ h2 with h4|h4|h4
   ·exact h4
   ·exact absurd h4 h3
   ·simp at h4
 refine List.ext_getElem? fun x=>?_
 by_cases hx:x<n
 ·have hxs:x<S.length:=by rw[h.len];exact hx
  have:=hh x
  simp only[List.getD_eq_getElem?_getD,List.getElem?_eq_getElem hxs,Option.getD_some]at this
  rw[List.getElem?_eq_getElem hxs]
  simp only[List.getElem?_map,List.getElem?_range hx,Option.map_some,Qi3]
  congr 1
  by_cases hr:Rch g (fun z=>(z:Int)=a) 0 x
  ·rw[this.2 hr,decide_eq_true hr]
  ·rw[decide_eq_false hr]
   cases hv:S[x]with
   |false=>rfl
   |true=>exact absurd (this.1 hv) hr
 ·rw[List.getElem?_eq_none (by rw[h.len];omega),List.getElem?_eq_none (by simp;omega)]
end Go.AE.Y

namespace Go.AE.Y
open Go.Proofs.Tryz
variable {H H0:Heap}{K:V→Heap→Prop}
theorem Qa9 (n:Nat):List.replicate n [C.bool false]=Ql (List.replicate n false):=by simp[Ql]
theorem Qad (l:List Nat)(i:Nat)(h:i<l.length):(Q5 l).getD i []=[.int .i64 ((l.getD i 0:Nat):Int)]:=by
 simp[Q5,Qf,List.getD_eq_getElem?_getD,h]
theorem Qje (a b:List Nat):Q5 (a++b)=Q5 a++Q5 b:=by simp[Q5,Qf]
end Go.AE.Y

namespace Go.AE
variable {H0 F H:Heap}{E E0 E' L L1 L2 M:List (Nat×Obj)}
theorem Kn.startE (h:∀p∈E,H p.1=p.2∧p.2≠.none)(hd:(E.map Prod.fst).Nodup):Kn H H E []:=
 ⟨by simpa using h,fun p hp=>by rw[(h p hp).1];exact (h p hp).2,by simp,hd,by simp,fun _ _ _=>rfl⟩
theorem Kn.mid (k:Kn H0 F E0 (L1++L2)):Kn F F L1 []:=
 .startE (fun p hp=>k.get p (List.mem_append_right _ (List.mem_append_left _ hp))) (by
  have:=k.dL;rw[List.map_append]at this;exact (List.nodup_append.1 this).1)
theorem Kn.comp (k1:Kn H0 F E0 (L1++L2))(k2:Kn F H E' M)(hE:E'.map Prod.fst=L1.map Prod.fst):Kn H0 H E0 ((E'++L2)++M):=by
 have hd:=k1.dL
 rw[List.map_append]at hd
 obtain⟨d1,d2,d3⟩:=List.nodup_append.1 hd
 have hE0:∀p∈E0,F p.1=p.2∧p.2≠.none:=fun p hp=>k1.get p (List.mem_append_left _ hp)
 have hL2:∀p∈L2,F p.1=p.2∧p.2≠.none:=fun p hp=>k1.get p (List.mem_append_right _ (List.mem_append_right _ hp))
 have inL1:∀p∈E',∃q∈L1,q.1=p.1:=fun p hp=>by
  have:=Qam hp;rw[hE]at this
  obtain⟨q,h1,h2⟩:=List.mem_map.1 this;exact⟨q,h1,h2⟩
 have keep:∀m,F m≠.none→m∉L1.map Prod.fst→H m=F m:=fun m h1 h2=>k2.chg m h1 (by rw[hE];exact h2)
 have hE0L:∀p∈E0,∀q∈L1,p.1≠q.1:=fun p hp q hq hh=>k1.ext p hp (hh▸k1.loc q (List.mem_append_left _ hq))
 refine⟨fun p hp=>?_,k1.ext,fun p hp=>?_,k1.dE,?_,fun m hm hn=>?_⟩
 ·rcases List.mem_append.1 hp with hp|hp
  ·obtain⟨h1,h2⟩:=hE0 p hp
   refine⟨?_,h2⟩
   rw[keep p.1 (by rw[h1];exact h2) (fun hh=>?_),h1]
   obtain⟨q,hq,hqq⟩:=List.mem_map.1 hh
   exact hE0L p hp q hq hqq.symm
  ·rcases List.mem_append.1 hp with hp|hp
   ·rcases List.mem_append.1 hp with hp|hp
    ·exact k2.get p (List.mem_append_left _ hp)
    ·obtain⟨h1,h2⟩:=hL2 p hp
     refine⟨?_,h2⟩
     rw[keep p.1 (by rw[h1];exact h2) (fun hh=>?_),h1]
     exact d3 _ hh _ (Qam hp) rfl
   ·exact k2.get p (List.mem_append_right _ hp)
 ·rcases List.mem_append.1 hp with hp|hp
  ·rcases List.mem_append.1 hp with hp|hp
   ·obtain⟨q,hq,hh⟩:=inL1 p hp
    rw[←hh];exact k1.loc q (List.mem_append_left _ hq)
   ·exact k1.loc p (List.mem_append_right _ hp)
  ·have h1:=k2.loc p hp
   cases h0:H0 p.1 with
   |none=>rfl
   |_=>
    by_cases hx:p.1∈E0.map Prod.fst
    ·obtain⟨q,hq,hh⟩:=List.mem_map.1 hx
     obtain⟨a1,a2⟩:=hE0 q hq
     rw[hh,h1]at a1;exact absurd a1.symm a2
    ·have:=k1.chg p.1 (by rw[h0];simp) hx
     rw[h1,h0]at this;simp at this
 ·rw[List.map_append,List.map_append]
  refine List.nodup_append.2 ⟨List.nodup_append.2 ⟨k2.dE,d2,fun a ha b hb=>?_⟩,k2.dL,fun a ha b hb hab=>?_⟩
  ·rw[hE]at ha;exact d3 a ha b hb
  ·obtain⟨q,hq,rfl⟩:=List.mem_map.1 hb
   have hf:=k2.loc q hq
   rcases List.mem_append.1 ha with ha|ha
   ·obtain⟨r,hr,rfl⟩:=List.mem_map.1 ha
    exact k2.ext r hr (hab▸hf)
   ·obtain⟨r,hr,rfl⟩:=List.mem_map.1 ha
    obtain⟨a1,a2⟩:=hL2 r hr
    rw[hab,hf]at a1;exact a2 a1.symm
 ·rw[keep m (by rw[k1.chg m hm hn];exact hm) (fun hh=>?_),k1.chg m hm hn]
  obtain⟨q,hq,rfl⟩:=List.mem_map.1 hh
  exact hm (k1.loc q (List.mem_append_left _ hq))
theorem Kn.upd (k:Kn H0 H E L):Upd H0 H E:=⟨fun p hp=>(k.get p (List.mem_append_left _ hp)).1,fun m hm hn=>k.chg m hm hn⟩
theorem Y.FrzL.ptr {S:Nat→Bool}{l:Nat}{cells cells':List C}(hS:S l=true)(hH:H l=.st cells)(h:FrzL H S cells cells'):FrzC H S (.ptr l 0) (.pp cells'):=by
 obtain⟨h1,h2⟩:=h.spec
 exact .ptr l 0 cells cells cells' hS hH rfl h1 h2
theorem Kn.growR {B Lg:List (Nat×Obj)}{K:V→Heap→Prop}{sz:Nat}{rows new:List (List C)}{b c:C}(kn:Kn H0 H E (B++Lg))(hc:Gr Lg sz rows c)(hb:Slc H sz new b)
  (h1:∀r∈new,noOw r=true) (h2:rows.length+new.length≤LIM)
  (h:∀t Lg' H',Gr Lg' sz (rows++new) t→t.isOw=false→Kn H0 H' E (B++Lg')→K (.c t) H'):appQ H sz c b K:=
 kn.grow hc hb h1 h2 fun y' H' k=>h _ _ H' (.mk y' sz _ (by simp)) rfl k
end Go.AE

namespace Go.AE.Y
open Go.Proofs.Tryz
variable {H H0:Heap}{K:V→Heap→Prop}
def Qbkc (x3 x4 x5:Nat)(p rg:Int)(bc:C):List C:=[.ptr x4 0,.pp [.int .i64 p,.int .i64 rg,bc],.ptr x5 0,.ptr x3 0]
def visE (x3 x4 x5 y n:Nat)(p rg:Int)(bc:C)(S:List Bool)(oc:C):List (Nat×Obj):=
 [(y,.vec 1 (Ql S)),(x3,.st [oc]),(x4,.st [.vsl y 1 0 n]),(x5,.st [.fn Q7l (Qbkc x3 x4 x5 p rg bc)])]
end Go.AE.Y

namespace Go.AE.Y
variable {ns:List Int}{n:Int}{at':Nat}
structure InsAt (ns:List Int)(n:Int)(k:Nat):Prop where
 le:k≤ns.length
 lo:∀i,i<k→∀(h:i<ns.length),ns[i]<n
 hi:∀(h:k<ns.length),n≤ns[k]
theorem InsAt.mem_of_asc {k:Nat}(h:InsAt ns n k)(ha:ns.Pairwise (· < ·)):(∀x∈ns.take k,x<n)∧(∀x∈ns.drop k,n≤x)∧(∀x∈ns.drop (k+1),n<x):=by
 have hp:=List.pairwise_iff_getElem.1 ha
 refine⟨fun x hx=>?_,fun x hx=>?_,fun x hx=>?_⟩
 ·obtain⟨i,hi,rfl⟩:=List.mem_iff_getElem.1 hx
  rw[List.getElem_take]
  rw[List.length_take]at hi
  exact h.lo i (by omega) (by omega)
 ·obtain⟨i,hi,rfl⟩:=List.mem_iff_getElem.1 hx
  rw[List.getElem_drop]
  rw[List.length_drop]at hi
  have h1:=h.hi (by omega)
  by_cases h0:i=0
  ·subst h0;exact h1
  ·have:=hp k (k+i) (by omega) (by omega) (by omega)
   exact Int.le_trans h1 (Int.le_of_lt this)
 ·obtain⟨i,hi,rfl⟩:=List.mem_iff_getElem.1 hx
  rw[List.getElem_drop]
  rw[List.length_drop]at hi
  have h1:=h.hi (by omega)
  have:=hp k (k+1+i) (by omega) (by omega) (by omega)
  exact Int.lt_of_le_of_lt h1 this
theorem InsAt.new {k:Nat}(h:InsAt ns n k)(ha:ns.Pairwise (· < ·))(hn:∀(h:k<ns.length),ns[k]≠n) :
  (ns.take k++[n]++ns.drop k).Pairwise (· < ·)∧(∀x,x∈ns.take k++[n]++ns.drop k↔x=n∨x∈ns):=by
 obtain⟨h1,h2,h3⟩:=h.mem_of_asc ha
 have h4:∀x∈ns.drop k,n<x:=by
  intro x hx
  have hk:k<ns.length:=by
   rcases Nat.lt_or_ge k ns.length with h|h
   ·exact h
   ·rw[List.drop_eq_nil_of_le h]at hx;simp at hx
  rw[List.drop_eq_getElem_cons hk]at hx
  rcases List.mem_cons.1 hx with rfl|hx
  ·have:=h.hi hk;have:=hn hk;omega
  ·exact h3 x hx
 refine⟨?_,fun x=>?_⟩
 ·rw[List.append_assoc,List.pairwise_append]
  refine⟨ha.sublist (List.take_sublist _ _),?_,fun a ha' b hb=>?_⟩
  ·rw[List.singleton_append,List.pairwise_cons]
   exact⟨h4,ha.sublist (List.drop_sublist _ _)⟩
  ·have:=h1 a ha'
   rcases List.mem_append.1 hb with hb|hb
   ·simp at hb;subst hb;exact this
   ·have:=h2 b hb;omega
 ·conv=>rhs;rw[←List.take_append_drop k ns]
  simp only[List.mem_append,List.mem_singleton]
  constructor
  ·rintro ((h|h)|h)
   ·exact .inr (.inl h)
   ·exact .inl h
   ·exact .inr (.inr h)
  ·rintro (h|h|h)
   ·exact .inl (.inr h)
   ·exact .inl (.inl h)
   ·exact .inr h
end Go.AE.Y

namespace Go.AE.Y
open Go.Proofs.Tryz
variable {H H0:Heap}{K:V→Heap→Prop}
theorem Qajo {c:C}{ns:List Int}{v:Int}(hs:Slc H 1 (Qf ns) c)(how:c.isOw=false)(hK:∀r,IsIx ns v r→K (.c (.int .i64 r)) H) :
  Qv prog Qra [.c c,.c (.int .i64 v)] H K:=by
 refine Qb Qar Qbjh ?_
 have hok:=eq_true hs.ok
 have hlen:=hs.len
 have hsz:=hs.sz
 have hrw:=hs.rows
 refine Qa ?_
 simp only[go_sem,how]
 refine Q4 ?_
 refine Qa ?_
 simp only[go_sem,how]
 refine Qg (Qc (Qs (fun m e1 H1=>∃(i:Nat),m=ns.length-i∧i≤ns.length∧H1=H∧v∉ns.take i∧e1=[(0,.c c),(1,.c (.int .i64 v)),(5,.c (.int .i64 i))]) ns.length ?_ ?_))
 ·exact⟨0,by omega,by omega,rfl,by simp,rfl⟩
 ·rintro m e1 H1 ⟨i,hm,hi,rfl,hno,rfl⟩
  refine Q4 ?_
  refine Qa ?_
  simp only[go_sem,how,hok,hlen,Qd]
  intro hl
  simp only[LIM]at hl
  refine Qg (Qe rfl ?_ ?_)
  ·intro hc
   have hlt:i<ns.length:=by simpa using hc
   have hgd:ns.getD i 0=ns[i]:=by simp[List.getD_eq_getElem?_getD,hlt]
   refine Qh ?_
   simp only[go_sem]
   refine Qg (Qc ?_)
   refine Qa ?_
   simp only[go_sem,how,hok,hlen,hsz,hrw,hlt,Qd,Qx _ _ hlt]
   refine Qe rfl ?_ ?_
   ·intro hc2
    have hv:ns.getD i 0=v:=by simpa using hc2
    refine Qa ?_
    simp only[go_sem]
    refine Qj ?_
    simp only[go_sem,X.next,Q6,Qab,Qaxf,List.mem_singleton,forall_eq,RS.op]
    exact hK _ (.inr ⟨i,rfl,hlt,hv,hno⟩)
   ·intro hc2
    have hv:¬ns.getD i 0=v:=by simpa using hc2
    refine Qh ?_
    simp only[go_sem]
    refine Qq ?_
    simp only[go_sem,how,X.next]
    refine⟨Qo (by omega) (by omega),ns.length-(i+1),by omega,i+1,rfl,by omega,?_,rfl⟩
    rw[List.take_succ_eq_append_getElem hlt]
    simp only[List.mem_append,List.mem_singleton,not_or]
    exact⟨hno,fun h=>hv (by rw[hgd];exact h.symm)⟩
  ·intro hc
   have hge:ns.length≤i:=by simpa using hc
   rw[List.take_of_length_le hge]at hno
   refine Qr ?_
   simp only[go_sem,X.next]
   refine Qa ?_
   simp only[go_sem]
   refine Qj ?_
   simp only[go_sem,Q6,Qab,Qaxf,List.mem_singleton,forall_eq,RS.op]
   exact hK _ (.inl ⟨rfl,hno⟩)
theorem Qbkd {c:C}{ns:List Int}{v:Int}(hs:Slc H 1 (Qf ns) c)(how:c.isOw=false)(hK:K (.c (.bool (ns.contains v))) H) :
  Qv prog Qt5 [.c c,.c (.int .i64 v)] H K:=by
 refine Qb Qar Qa54 ?_
 have hok:=eq_true hs.ok
 have hlen:=hs.len
 have hsz:=hs.sz
 have hrw:=hs.rows
 refine Qa ?_
 simp only[go_sem,how]
 refine Q4 ?_
 refine Qa ?_
 simp only[go_sem,how,hok,hlen,Qd]
 intro hl
 simp only[LIM]at hl
 refine Qg (Qc (Qs (fun m e1 H1=>∃(i:Nat),m=ns.length-i∧i≤ns.length∧H1=H∧v∉ns.take i∧e1=[(1,.c (.int .i64 v)),(7,.c c),(8,.c (.int .i64 ns.length)),(9,.c (.int .i64 i))]) ns.length ?_ ?_))
 ·exact⟨0,by omega,by omega,rfl,by simp,rfl⟩
 ·rintro m e1 H1 ⟨i,hm,hi,rfl,hno,rfl⟩
  refine Qa ?_
  simp only[go_sem,how]
  refine Qg (Qe rfl ?_ ?_)
  ·intro hc
   have hlt:i<ns.length:=by simpa using hc
   have hgd:ns.getD i 0=ns[i]:=by simp[List.getD_eq_getElem?_getD,hlt]
   refine Qh ?_
   simp only[go_sem]
   refine Qg (Qc ?_)
   refine Qa ?_
   simp only[go_sem,how,hok,hlen,hsz,hrw,hlt,Qd,Qx _ _ hlt]
   refine Qa ?_
   simp only[go_sem,how]
   refine Qe rfl ?_ ?_
   ·intro hc2
    have hv:ns.getD i 0=v:=by simpa using hc2
    refine Qa ?_
    simp only[go_sem]
    refine Qj ?_
    simp only[go_sem,X.next,Q6,Qab,Qzv,List.mem_singleton,forall_eq,RS.op]
    have:ns.contains v=true:=List.contains_iff_mem.2 (by rw[←hv,hgd];exact List.getElem_mem hlt)
    rw[this]at hK;exact hK
   ·intro hc2
    have hv:¬ns.getD i 0=v:=by simpa using hc2
    refine Qh ?_
    simp only[go_sem]
    refine Qq ?_
    simp only[go_sem,how,X.next]
    refine⟨Qo (by omega) (by omega),ns.length-(i+1),by omega,i+1,rfl,by omega,?_,rfl⟩
    rw[List.take_succ_eq_append_getElem hlt]
    simp only[List.mem_append,List.mem_singleton,not_or]
    exact⟨hno,fun h=>hv (by rw[hgd];exact h.symm)⟩
  ·intro hc
   have hge:ns.length≤i:=by simpa using hc
   rw[List.take_of_length_le hge]at hno
   refine Qr ?_
   simp only[go_sem,X.next]
   refine Qa ?_
   simp only[go_sem]
   refine Qj ?_
   simp only[go_sem,Q6,Qab,Qzv,List.mem_singleton,forall_eq,RS.op]
   have:ns.contains v=false:=by
    cases hcc:ns.contains v with
    |false=>rfl
    |true=>exact absurd (List.contains_iff_mem.1 hcc) hno
   rw[this]at hK;exact hK
theorem Qa41 {a b:C}{ns ms:List Int}(hs:Slc H 1 (Qf ns) a)(how:a.isOw=false)(hs2:Slc H 1 (Qf ms) b)(how2:b.isOw=false)(hK:K (.c (.bool (decide (ns=ms)))) H) :
  Qv prog Qhr [.c a,.c b] H K:=by
 refine Qb Qar Qaw4 ?_
 have hok:=eq_true hs.ok
 have hlen:=hs.len
 have hsz:=hs.sz
 have hrw:=hs.rows
 have hok2:=eq_true hs2.ok
 have hlen2:=hs2.len
 have hsz2:=hs2.sz
 have hrw2:=hs2.rows
 refine Qa ?_
 simp only[go_sem,how,how2]
 refine Q4 ?_
 refine Qa ?_
 simp only[go_sem,how,how2,hok,hlen,hok2,hlen2,Qd]
 intro hl hl2
 simp only[LIM]at hl hl2
 have hmn:(if (ms.length:Int)<ns.length then (ms.length:Int)else ns.length)=((min ns.length ms.length:Nat):Int):=by split <;> omega
 simp only[hmn]
 refine Qg (Qc (Qs (fun m e1 H1=>∃(i:Nat),m=min ns.length ms.length-i∧i≤min ns.length ms.length∧H1=H∧ns.take i=ms.take i∧e1=[(0,.c a),(1,.c b),(10,.c (.int .i64 (min ns.length ms.length:Nat))),(11,.c (.int .i64 i))]) (min ns.length ms.length) ?_ ?_))
 ·exact⟨0,by omega,by omega,rfl,by simp,rfl⟩
 ·rintro m e1 H1 ⟨i,hm,hi,rfl,hsame,rfl⟩
  refine Qa ?_
  simp only[go_sem,how,how2]
  refine Qg (Qe rfl ?_ ?_)
  ·intro hc
   have hlt:i<min ns.length ms.length:=by
    have:=of_decide_eq_true hc
    omega
   have h1:i<ns.length:=by omega
   have h2:i<ms.length:=by omega
   have hgd:ns.getD i 0=ns[i]:=by simp[List.getD_eq_getElem?_getD,h1]
   have hgd2:ms.getD i 0=ms[i]:=by simp[List.getD_eq_getElem?_getD,h2]
   refine Qh ?_
   simp only[go_sem]
   refine Qg (Qc ?_)
   refine Qa ?_
   simp only[go_sem,how,how2]
   refine Qal ?_
   simp only[go_sem,how,how2,hok,hlen,hsz,hrw,hok2,hlen2,hsz2,hrw2,h1,h2,Qd,Qx _ _ h1,Qx _ _ h2]
   refine Qe rfl ?_ ?_
   ·intro hc2
    refine Qa ?_
    simp only[go_sem]
    refine Qj ?_
    simp only[go_sem,X.next,Q6,Qab,Qud,List.mem_singleton,forall_eq,RS.op]
    have hne:ns≠ms:=by
     rintro rfl
     simp at hc2
    rw[decide_eq_false hne]at hK;exact hK
   ·intro hc2
    have hv:ns.getD i 0=ms.getD i 0:=by simpa using hc2
    refine Qh ?_
    simp only[go_sem]
    refine Qq ?_
    simp only[go_sem,how,how2,X.next]
    refine⟨Qo (by omega) (by omega),min ns.length ms.length-(i+1),by omega,i+1,rfl,by omega,?_,rfl⟩
    rw[List.take_succ_eq_append_getElem h1,List.take_succ_eq_append_getElem h2,hsame,←hgd,←hgd2,hv]
  ·intro hc
   have hge:min ns.length ms.length≤i:=by
    have:=of_decide_eq_false hc
    omega
   refine Qr ?_
   simp only[go_sem,X.next]
   refine Qa ?_
   simp only[go_sem,how,how2,hok,hlen,hok2,hlen2,Qd]
   intro _ _
   refine Qj ?_
   simp only[go_sem,Q6,Qab,Qud,List.mem_singleton,forall_eq,RS.op]
   have:decide ((ns.length:Int)=ms.length)=decide (ns=ms):=by
    by_cases he:ns=ms
    ·simp[he]
    ·have:¬(ns.length:Int)=ms.length:=by
      intro hh
      refine he ?_
      have hh':ns.length=ms.length:=by omega
      rw[List.take_of_length_le (by omega),List.take_of_length_le (by omega)]at hsame
      exact hsame
     simp[he,this]
   rw[this];exact hK
set_option maxHeartbeats 1000000 in
theorem Qrk {fl:Bool}{ns:List Int}{n:Int}(ha:ns.Pairwise (· < ·))(hL:ns.length+1≤2 ^ 38)
  (hK:∀(fl':Bool) (ns':List Int) (H':Heap),Upd H H' []→ns'.Pairwise (· < ·)→(∀x,x∈ns'↔x=n∨x∈ns)→ns'.length≤ns.length+1→K (.c (.sl fl' 1 (Qf ns'))) H') :
  Qv prog Qee [.c (.sl fl 1 (Qf ns)),.c (.int .i64 n)] H K:=by
 refine Qz ?_
 refine Qb Qar Qa53 ?_
 have rest:∀i:Nat,InsAt ns n i→Qae prog Q4e (Q6 Qjl fun x H'=>∃x',FrzV H' (un H) x x'∧K x' (H'.frz (un H))) [(0,V.c (.sl fl 1 (Qf ns))),(1,.c (.int .i64 n)),(5,.c (.int .i64 i))] H:=by
  intro i hat
  have hile:=hat.le
  refine Q4 ?_
  refine Qa ?_
  have tail:∀e:Env,(∀(h:i<ns.length),ns[i]≠n)→lk 0 e=.c (.sl fl 1 (Qf ns))→lk 1 e=.c (.int .i64 n)→lk 5 e=.c (.int .i64 i)→Qae prog Q4d (Q6 Qjl fun x H'=>∃x',FrzV H' (un H) x x'∧K x' (H'.frz (un H))) e H:=by
   intro e hne l0 l1 l5
   obtain⟨q1,q2⟩:=hat.new ha hne
   have ht1:List.take i (Qf ns)=Qf (ns.take i):=by simp[Qf,List.map_take]
   have ht2:List.drop i (List.take ns.length (Qf ns))=Qf (ns.drop i):=by
    rw[List.take_of_length_le (by rw[Qd];exact Nat.le_refl _)];simp[Qf,List.map_drop]
   refine Qa ?_
   simp only[go_sem,l0,l1,l5,Qd,ht1]
   refine⟨by omega,?_⟩
   refine⟨.inl trivial,Qu _,by simp only[LIM,List.length_take];omega,fun z hz H1 h1=>?_⟩
   have kn:Kn H H1 [] ([]++[(z,.vec 1 (Qf (ns.take i)))]):=(Kn.start0 H).al hz h1
   simp only[go_sem,Qyd,l0,l1,l5]
   generalize ht6:C.vsl z 1 0 (0+(List.take i ns).length)=t6
   have hgr:Gr [(z,.vec 1 (Qf (ns.take i)))] 1 (Qf (ns.take i)) t6:=by rw[←ht6];exact .mk z 1 _ (by simp[Qd])
   have hw6:=hgr.isOw
   refine Qal ?_
   simp only[go_sem,hw6,Qd,ht2]
   refine⟨by omega,?_⟩
   refine kn.growR (new:=Qf [n]) hgr (.mk' _ _ _ _) (Qu _) (by simp only[Qd,LIM,List.length_take,List.length_nil,List.length_cons];omega) fun t7 Lg H2 hgr hw7 kn=>?_
   simp only[go_sem,Qyf,hw7,Qd,ht2]
   refine⟨by omega,?_⟩
   refine kn.growR (new:=Qf (ns.drop i)) hgr (.mk' _ _ _ _) (Qu _) (by simp only[Qd,LIM,List.length_take,List.length_drop,List.length_nil,List.length_cons,List.length_append];omega) fun t8 Lg H3 hgr hw8 kn=>?_
   simp only[go_sem,Qye]
   refine Qj ?_
   simp only[go_sem,Q6,Qab,Qjl,List.mem_singleton,forall_eq,RS.op]
   have e0:Qf (ns.take i)++Qf [n]++Qf (ns.drop i)=Qf (ns.take i++[n]++ns.drop i):=by simp[Qf]
   rw[e0]at hgr
   refine⟨_,.c _ _ (hgr.frz kn (Qu _)),hK _ _ _ kn.fin q1 q2 ?_⟩
   simp;omega
  simp only[go_sem,Qd]
  by_cases hlt:i<ns.length
  ·have hgd:ns.getD i 0=ns[i]:=by simp[List.getD_eq_getElem?_getD,hlt]
   simp only[go_sem,hlt,Qd,Qx _ _ hlt]
   intro _
   refine Qg (Qe rfl ?_ ?_)
   ·intro hc2
    have he:ns[i]=n:=by rw[←hgd];simpa[hlt]using hc2
    refine Qa ?_
    simp only[go_sem]
    refine Qj ?_
    simp only[go_sem,Q6,Qab,Qjl,List.mem_singleton,forall_eq,RS.op]
    refine⟨_,.c _ _ (Qip (noOw_mem (Qu _))),hK _ ns _ (Kn.start0 H).fin ha (fun x=>⟨.inr,?_⟩) (by omega)⟩
    rintro (rfl|h)
    ·rw[←he];exact List.getElem_mem hlt
    ·exact h
   ·intro hc2
    have he:ns[i]≠n:=by rw[←hgd];simpa[hlt]using hc2
    refine Qh ?_
    simp only[go_sem]
    exact tail _ (fun _=>he) rfl rfl rfl
  ·have hdf:decide ((i:Int)<(ns.length:Int))=false:=by simp;omega
   have hgo:(Qf ns).getD i []=[]:=by rw[List.getD_eq_getElem?_getD,List.getElem?_eq_none (by rw[Qd];omega)];rfl
   simp only[go_sem,hdf,hgo,Qd,cond_false]
   intro _
   refine Qg (Qe rfl ?_ ?_)
   ·intro hc2;simp at hc2
   ·intro _
    refine Qh ?_
    simp only[go_sem]
    exact tail _ (fun h=>absurd h hlt) rfl rfl rfl
 refine Qa ?_
 simp only[go_sem]
 refine Qa ?_
 simp only[go_sem]
 refine Qg (Qc (Qs (fun m e1 H1=>∃(i:Nat),m=ns.length-i∧i≤ns.length∧H1=H∧(∀k,k<i→∀(h:k<ns.length),ns[k]<n)∧e1=[(0,.c (.sl fl 1 (Qf ns))),(1,.c (.int .i64 n)),(5,.c (.int .i64 i))]) ns.length ?_ ?_))
 ·exact⟨0,by omega,by omega,rfl,fun k hk=>by omega,rfl⟩
 ·rintro m e1 H1 ⟨i,hm,hi,rfl,hlo,rfl⟩
  refine Q4 ?_
  refine Qa ?_
  by_cases hlt:i<ns.length
  ·have hgd:ns.getD i 0=ns[i]:=by simp[List.getD_eq_getElem?_getD,hlt]
   simp only[go_sem,hlt,Qd,Qx _ _ hlt]
   intro _
   refine Qg (Qe rfl ?_ ?_)
   ·intro hc
    have hv:ns[i]<n:=by rw[←hgd];simpa[hlt]using hc
    refine Qh ?_
    simp only[go_sem]
    refine Qc ?_
    refine Qq ?_
    simp only[go_sem,X.next]
    refine⟨Qo (by omega) (by omega),ns.length-(i+1),by omega,i+1,rfl,by omega,fun k hk h=>?_,rfl⟩
    by_cases h':k<i
    ·exact hlo k h' h
    ·have:k=i:=by omega
     subst this;exact hv
   ·intro hc
    have hv:¬ns[i]<n:=by rw[←hgd];simpa[hlt]using hc
    refine Qr ?_
    simp only[go_sem,X.next]
    exact rest i ⟨hi,hlo,fun _=>by omega⟩
  ·have hdf:decide ((i:Int)<(ns.length:Int))=false:=by simp;omega
   have hgo:(Qf ns).getD i []=[]:=by rw[List.getD_eq_getElem?_getD,List.getElem?_eq_none (by rw[Qd];omega)];rfl
   simp only[go_sem,hdf,hgo,Qd,cond_false]
   intro _
   refine Qg (Qe rfl ?_ ?_)
   ·intro hc2;simp at hc2
   ·intro _
    refine Qr ?_
    simp only[go_sem,X.next]
    exact rest i ⟨hi,hlo,fun h=>absurd h hlt⟩
end Go.AE.Y

namespace Go.AE.Y
attribute [local instance] Classical.propDecidable
variable {g:Nat→List Nat}{n h:Nat}
theorem rchB_iff {a:Int}{x:Nat}:Qi3 g a x=true↔Rch g (fun z=>(z:Int)=a) 0 x:=by simp[Qi3]
theorem Qapd (b:Nat):Qi3 g (b:Int) b=false:=by
 cases hc:Qi3 g (b:Int) b with
 |false=>rfl
 |true=>exact absurd rfl (rchB_iff.1 hc).snd
theorem Qa86 (b:Nat):Qvs g b b=Qi3 g (-1) b:=by simp[Qvs,Qapd]
theorem Qa85 {a b:Nat}(h:Qvs g a b=true):Qi3 g (-1) a=true∧Qi3 g (-1) b=true:=by
 simp only[Qvs,Bool.and_eq_true]at h
 exact⟨h.1.1,h.1.2⟩
structure BWk (n:Nat)(g:Nat→List Nat)(h:Nat)(O W:List Nat):Prop where
 asc:O.Pairwise (· < ·)
 o:∀x∈O,Bdy n g h x
 w:∀x∈W,Qi3 g (-1) x=true→Bdy n g h x
 c:∀x∈O,x≠h→∀p∈Qaj8 n g x,Qi3 g (-1) p=true→p∈O∨p∈W
 l:∀p∈Qaj8 n g h,Qvs g h p=true→p∈O∨p∈W
 h:h∈O
 r:∀x∈W,x<n
variable {O W:List Nat}{b:Nat}
theorem BWk.init:BWk n g h [h] ((Qaj8 n g h).filter (Qvs g h)):=by
 refine⟨by simp,fun x hx=>?_,fun x hx _=>?_,fun x hx hne=>?_,fun p hp hd=>.inr (List.mem_filter.2 ⟨hp,hd⟩),by simp,fun x hx=>(predL_mem.1 (List.mem_filter.1 hx).1).1⟩
 ·simp at hx;subst hx;exact .head
 ·exact .back (List.mem_filter.1 hx).1 (List.mem_filter.1 hx).2
 ·simp at hx;exact absurd hx hne
theorem BWk.skip (k:BWk n g h O (b::W))(hb:b∈O∨Qi3 g (-1) b=false):BWk n g h O W:=by
 refine⟨k.asc,k.o,fun x hx=>k.w x (List.mem_cons_of_mem _ hx),fun x hx hne p hp hi=>?_,fun p hp hd=>?_,k.h,fun x hx=>k.r x (List.mem_cons_of_mem _ hx)⟩
 ·rcases k.c x hx hne p hp hi with h1|h1
  ·exact .inl h1
  ·rcases List.mem_cons.1 h1 with rfl|h1
   ·rcases hb with hb|hb
    ·exact .inl hb
    ·rw[hb]at hi;simp at hi
   ·exact .inr h1
 ·rcases k.l p hp hd with h1|h1
  ·exact .inl h1
  ·rcases List.mem_cons.1 h1 with rfl|h1
   ·rcases hb with hb|hb
    ·exact .inl hb
    ·rw[(Qa85 hd).2]at hb;simp at hb
   ·exact .inr h1
theorem BWk.go {O':List Nat}(k:BWk n g h O (b::W))(hbO:b∉O)(hi:Qi3 g (-1) b=true)(h1:O'.Pairwise (· < ·))(h2:∀x,x∈O'↔x=b∨x∈O):BWk n g h O' (W++Qaj8 n g b):=by
 have hB:=k.w b List.mem_cons_self hi
 have hbh:b≠h:=fun e=>hbO (e▸k.h)
 refine⟨h1,fun x hx=>?_,fun x hx hix=>?_,fun x hx hne p hp hip=>?_,fun p hp hd=>?_,(h2 h).2 (.inr k.h),fun x hx=>?_⟩
 ·rcases (h2 x).1 hx with rfl|hx
  ·exact hB
  ·exact k.o x hx
 ·rcases List.mem_append.1 hx with hx|hx
  ·exact k.w x (List.mem_cons_of_mem _ hx) hix
  ·exact .more hB hbh hx hix
 ·rcases (h2 x).1 hx with rfl|hx
  ·exact .inr (List.mem_append_right _ hp)
  ·rcases k.c x hx hne p hp hip with h3|h3
   ·exact .inl ((h2 p).2 (.inr h3))
   ·rcases List.mem_cons.1 h3 with rfl|h3
    ·exact .inl ((h2 p).2 (.inl rfl))
    ·exact .inr (List.mem_append_left _ h3)
 ·rcases k.l p hp hd with h3|h3
  ·exact .inl ((h2 p).2 (.inr h3))
  ·rcases List.mem_cons.1 h3 with rfl|h3
   ·exact .inl ((h2 p).2 (.inl rfl))
   ·exact .inr (List.mem_append_left _ h3)
 ·rcases List.mem_append.1 hx with hx|hx
  ·exact k.r x (List.mem_cons_of_mem _ hx)
  ·exact (predL_mem.1 hx).1
theorem BWk.fin (hh:h<n)(k:BWk n g h O []):O=Qa8x n g h:=by
 refine Qa3w k.asc Qa8y fun x=>?_
 rw[Qa8z hh]
 refine⟨k.o x,fun hb=>?_⟩
 induction hb with
 |head=>exact k.h
 |back h1 h2=>exact (k.l _ h1 h2).resolve_right (by simp)
 |more h1 h2 h3 h4 ih=>exact (k.c _ ih h2 _ h3 h4).resolve_right (by simp)
theorem BWk.len (k:BWk n g h O W)(hh:h<n):O.length≤n:=by
 have e:=Qanu (n:=n) (p:=fun x=>decide (x∈O)) k.asc fun x=>⟨fun hx=>⟨(k.o x hx).lt hh,by simpa using hx⟩,fun hx=>by simpa using hx.2⟩
 have:=List.length_filter_le (fun x=>decide (x∈O)) (List.range n)
 rw[←e]at this
 simpa using this
end Go.AE.Y

namespace Go.AE.Y
open Go.Proofs.Tryz
variable {H H0:Heap}{K:V→Heap→Prop}
structure GF (rows:List (List C))(nx:Nat→List Int):Prop where
 no:∀r∈rows,noOw r=true
 x:∀i,i<rows.length→∃a1 a2 a3 a4 fl,rows.getD i []=[a1,a2,a3,a4,.sl fl 1 (Qf (nx i))]
 n:rows.length≤10000
 m:∀i,i<rows.length→(nx i).length≤1000
theorem GF.grd {rows:List (List C)}{nx:Nat→List Int}(h:GF rows nx)(H:Heap)(fl:Bool):GRd H (.sl fl 5 rows) rows nx:=⟨.mk' _ _ _ _,rfl,h.no,h.x⟩
theorem Qawj {q:CodeD}(h:q.gd):GF (Qm q.blocks) (gnx q):=by
 refine⟨(Qht (fun _=>.none) q false).no,(Qht (fun _=>.none) q false).x,by rw[Qk];have:=h.b1;omega,fun i hi=>?_⟩
 rw[Qk]at hi
 have:gnx q i=q.blocks[i].next:=by simp[gnx,List.getD_eq_getElem?_getD,hi]
 rw[this]
 have:=h.n _ (List.getElem_mem hi);omega
noncomputable def inL (n:Nat)(g:Nat→List Nat):List Bool:=(List.range n).map (Qi3 g (-1))
noncomputable def Qgd (n:Nat)(g:Nat→List Nat)(a:Nat):List Bool:=(List.range n).map (Qvs g a)
noncomputable def Q6x (n:Nat)(g:Nat→List Nat)(k:Nat):List (List C):=(List.range k).map fun a=>[.sl false 1 (Ql (Qgd n g a))]
theorem Qer (n:Nat)(f:Nat→Bool){i:Nat}(h:i<n):((List.range n).map f).getD i false=f i:=by simp[List.getD_eq_getElem?_getD,h]
theorem Qajn {n:Nat}{g:Nat→List Nat}:(inL n g).length=n:=by simp[inL]
theorem Qd8 {n:Nat}{g:Nat→List Nat}{a:Nat}:(Qgd n g a).length=n:=by simp[Qgd]
theorem Qrm {n:Nat}{g:Nat→List Nat}{k:Nat}:(Q6x n g k).length=k:=by simp[Q6x]
theorem Qa38 {n:Nat}{g:Nat→List Nat}{i:Nat}(h:i<n):(inL n g).getD i false=Qi3 g (-1) i:=Qer _ _ h
theorem Q7d {n:Nat}{g:Nat→List Nat}{a i:Nat}(h:i<n):(Qgd n g a).getD i false=Qvs g a i:=Qer _ _ h
theorem Q8j {n:Nat}{g:Nat→List Nat}{k a:Nat}(h:a<k):(Q6x n g k).getD a []=[.sl false 1 (Ql (Qgd n g a))]:=by simp[Q6x,List.getD_eq_getElem?_getD,h]
noncomputable def domC (p rg:Int)(fl:Bool)(rows:List (List C))(g:Nat→List Nat):List C:=
 [.int .i64 p,.int .i64 rg,.sl fl 5 rows,.sl false 1 (Q6x rows.length g rows.length),.sl false 1 (Ql (inL rows.length g))]
noncomputable def ysL (n:Nat)(g:Nat→List Nat)(ys:List Nat):List (Nat×Obj):=ys.zipIdx.map fun x=>(x.1,.vec 1 (Ql (Qgd n g x.2)))
def ysR (n:Nat)(ys:List Nat):List (List C):=ys.map fun y=>[.vsl y 1 0 n]
theorem Qbhk (n:Nat)(g:Nat→List Nat)(ys:List Nat)(y:Nat):ysL n g (ys++[y])=ysL n g ys++[(y,.vec 1 (Ql (Qgd n g ys.length)))]:=by
 simp[ysL,List.zipIdx_append]
theorem Qbhl (n:Nat)(ys:List Nat)(y:Nat):ysR n (ys++[y])=ysR n ys++[[.vsl y 1 0 n]]:=by simp[ysR]
theorem Qbkf (n:Nat)(ys:List Nat):(ysR n ys).length=ys.length:=by simp[ysR]
theorem Qbly {S:Nat→Bool}{n:Nat}{g:Nat→List Nat}(ys:List Nat):∀(k:Nat),(∀p∈(ys.zipIdx k).map fun x=>(x.1,Obj.vec 1 (Ql (Qgd n g x.2))),H p.1=p.2∧S p.1=true)→
  FrzR H S (ysR n ys) ((List.range' k ys.length).map fun a=>[.sl false 1 (Ql (Qgd n g a))]):=by
 induction ys with
 |nil=>intro k _;exact .nil
 |cons y ys ih=>
  intro k h
  rw[List.zipIdx_cons,List.map_cons]at h
  obtain⟨h1,h2⟩:=h _ List.mem_cons_self
  simp only[List.length_cons,List.range'_succ,List.map_cons,ysR]
  refine .cons (.cons ((FrzR.same (Qhm _)).vsl h2 h1 (by rw[Qt,Qd8])) .nil) (ih (k+1) fun p hp=>h p (List.mem_cons_of_mem _ hp))
theorem Qbkg {S:Nat→Bool}{n:Nat}{g:Nat→List Nat}(ys:List Nat)(h:∀p∈ysL n g ys,H p.1=p.2∧S p.1=true):FrzR H S (ysR n ys) (Q6x n g ys.length):=by
 have:=Qbly (H:=H) (S:=S) (n:=n) (g:=g) ys 0 h
 rw[←List.range_eq_range']at this
 exact this
end Go.AE.Y

namespace Go.AE.Y
open Go.Proofs.Tryz
variable {H H0:Heap}{K:V→Heap→Prop}
theorem Qaos (n:Nat)(f:Nat→Bool){i:Nat}(h:i<n):((List.range i).map f++List.replicate (n-i) false).set i (f i)=(List.range (i+1)).map f++List.replicate (n-(i+1)) false:=by
 refine List.ext_getElem? fun j=>?_
 have e:n-i=(n-(i+1))+1:=by omega
 rw[e,List.replicate_succ,List.range_succ,List.map_append]
 rw[List.set_append]
 simp only[List.length_map,List.length_range,Nat.lt_irrefl,if_false,Nat.sub_self,List.set_cons_zero,List.map_cons,List.map_nil,List.append_assoc,List.singleton_append]
end Go.AE.Y

namespace Go.AE.Y
open Go.Proofs.Tryz
variable {H H0:Heap}{K:V→Heap→Prop}
end Go.AE.Y

namespace Go.AE.Y
variable {P:Program}{H:Heap}{g:G}{w:World}
theorem Qbha (hs:Sat H g w)(os:Array Go.Obj):∃g',Stp H g w H g' (Go.Sort.grow w os):=by
 obtain⟨l⟩:=os
 induction l generalizing g w with
 |nil=>exact⟨g,by rw[Go.Sort.grow_empty];exact .refl hs⟩
 |cons x l ih=>
  have h1:=Q1b hs x
  obtain⟨g',h2⟩:=ih h1.sat
  refine⟨g',?_⟩
  have e:Go.Sort.grow w ⟨x::l⟩=Go.Sort.grow (w.alloc x) ⟨l⟩:=by
   rw[Go.Sort.alloc_eq_grow,Go.Sort.grow_grow]
   congr 1
   simp
  rw[e];exact h1.trans h2
theorem Qbbm {b off:Nat}{cs:Array Value}{T:TypeId}{d:Array Int}(h:w.heap[b]? = some (.cells cs T (0,0))) :
  Go.Sort.putRow (Value.int .i64) w b off d=World.putCells w b (Go.Sort.putCells (Value.int .i64) off d cs) T:=by
 simp only[Go.Sort.putRow,Go.Sort.mapBlock,World.putCells]
 congr 1
 apply Array.ext_getElem?
 intro i
 simp only[Array.getElem?_modify]
 by_cases hi:b=i
 ·subst hi
  have hlt:b<w.heap.size:=Qkh h
  rw[if_pos rfl,h]
  simp[hlt,Go.Sort.onCells]
 ·rw[if_neg hi,Array.getElem?_setIfInBounds_ne hi]
theorem Qa45 {f:Nat}(hf:fnOk P f=true)
  (hc:∀(blk off cap:Nat) (zs:List Int) (w:World),Go.Sort.Holds (Value.int .i64) w blk off zs.toArray→blk<w.heap.size→zs.length<4611686018427387904→
   Calls P f #[.slice (some ⟨blk,off,none⟩) zs.length cap] w fun e w'=>
    e=.returned (.tuple #[])∧∃n os,w'=Go.Sort.grow (Go.Sort.putRow (Value.int .i64) (Go.Sort.ahead w n) blk off (zs.mergeSort fun x y=>decide (x≤y)).toArray) os)
  {z n:Nat} {ns:List Int} {K:V→Heap→Prop} (hz:H z=.vec 1 (Qf ns)) (hn:n=ns.length) (h0:0<n)
  (hK:∀H',Upd H H' [(z,.vec 1 (Qf (ns.mergeSort fun x y=>decide (x≤y))))]→K (.tup []) H'):Qv P f [.c (.vsl z 1 0 n)] H K:=by
 refine⟨hf,fun g w vs hs hl hv=>?_⟩
 obtain⟨v,rfl⟩:∃v,vs=[v]:=by
  match vs,hl with
  |[v],_=>exact⟨v,rfl⟩
 have hr:=hv 0 _ v rfl rfl
 have ho:=hs.objs z
 rw[hz]at ho
 cases hr with
 |c _ _ hr=>
  cases hr with
  |vslnil=>omega
  |vsl l sz st n cap b base T m hio hnc hsh hm=>
   obtain⟨b',base',T',cs,val,hio',hown,hblk,hsz,hlim,hrow,hcell,hrep⟩:=SatVec.of ho hio
   rw[hio]at hio'
   simp only[Option.some.injEq,Prod.mk.injEq,true_and]at hio'
   obtain⟨rfl,rfl⟩:=hio'
   have hlt:=Qkh hblk
   rw[Qd]at hsz hlim
   have hel:∀j (hj:j<ns.length),cs[base+j]? = some (.int .i64 ns[j]):=by
    intro j hj
    have h1:(Qf ns)[j]? = some [.int .i64 ns[j]]:=by simp[Qf,hj]
    have h2:=hcell j _ 0 _ h1 rfl
    have h3:=hrep j _ 0 _ h1 rfl
    have h4:val j 0=.int .i64 ns[j]:=by
     exact (fun vv (h:RepC w g (.int .i64 ns[j]) vv)=>by cases h;rfl:∀vv,RepC w g (.int .i64 ns[j]) vv→vv=.int .i64 ns[j]) _ (h3.toC rfl)
    simpa[h4]using h2
   have hH:Go.Sort.Holds (Value.int .i64) w b base ns.toArray:=by
    intro j hj
    have hj':j<ns.length:=by simpa using hj
    refine⟨?_,?_⟩
    ·rw[Qci hblk,hel j hj']
     simp[getElem!_pos,hj']
    ·simp[World.frozen?,hblk]
   subst hn
   simp only[Nat.zero_mul,Nat.add_zero]
   refine (hc b base cap ns w hH hlt (by simp only[LIM]at hlim;omega)).mono fun e w'=>?_
   rintro⟨rfl,nn,os,rfl⟩
   have s1:Stp H g w H g (Go.Sort.ahead w nn):=Qavr hs (w.drawn+nn)
   have hblk1:(Go.Sort.ahead w nn).heap[b]? = some (.cells cs T' (0,0)):=hblk
   have hel2:∀i (c:C),((Qf (ns.mergeSort fun x y=>decide (x≤y)))[i]? = some [c])→∃x:Int,c=.int .i64 x∧(Go.Sort.putCells (Value.int .i64) base (ns.mergeSort fun x y=>decide (x≤y)).toArray cs)[base+i]? = some (.int .i64 x):=by
    intro i c hi
    have hlen:(ns.mergeSort fun x y=>decide (x≤y)).length=ns.length:=List.length_mergeSort _
    have hil:i<(ns.mergeSort fun x y=>decide (x≤y)).length:=by
     rcases Nat.lt_or_ge i (ns.mergeSort fun x y=>decide (x≤y)).length with h|h
     ·exact h
     ·rw[List.getElem?_eq_none (by rw[Qd];exact h)]at hi;simp at hi
    refine⟨(ns.mergeSort fun x y=>decide (x≤y))[i],?_,?_⟩
    ·simp only[Qf,List.getElem?_map,List.getElem?_eq_getElem hil,Option.map_some,Option.some.injEq,List.cons.injEq,and_true]at hi
     exact hi.symm
    ·simp only[Go.Sort.putCells,Array.getElem?_mapIdx]
     rw[Array.getElem?_eq_getElem (by omega)]
     simp only[Option.map_some,Option.some.injEq]
     rw[if_pos ⟨by omega,by simp only[List.size_toArray];omega⟩]
     congr 1
     simp[getElem!_pos]
     rw[List.getElem?_eq_getElem hil];rfl
   have s2:=Qhx s1.sat hown hblk1 (cs':=Go.Sort.putCells (Value.int .i64) base (ns.mergeSort fun x y=>decide (x≤y)).toArray cs) (by simp[Go.Sort.putCells])
    (.vec 1 (Qf (ns.mergeSort fun x y=>decide (x≤y)))) (by rw[hz];simp) (fun hle hb2=>.inr ⟨b,base,T',_,fun i _=>.int .i64 ((ns.mergeSort fun x y=>decide (x≤y)).getD i 0),hio,hown,hb2,by
      rw[Qd,List.length_mergeSort];simp[Go.Sort.putCells];omega,by rw[Qd,List.length_mergeSort];exact hlim,fun i row hi=>by
       simp only[Qf,List.getElem?_map,Option.map_eq_some_iff]at hi;obtain⟨x,_,rfl⟩:=hi;rfl,fun i row j c hi hj=>by
       have hi':=hi
       simp only[Qf,List.getElem?_map,Option.map_eq_some_iff]at hi'
       obtain⟨y,hy,rfl⟩:=hi'
       have hj0:j=0:=by
        rcases Nat.eq_zero_or_pos j with h|h
        ·exact h
        ·rw[List.getElem?_eq_none (by simp;omega)]at hj;simp at hj
       subst hj0
       obtain⟨x,hx,he⟩:=hel2 i _ hi
       simp only[C.int.injEq,true_and]at hx
       subst hx
       simp only[Nat.mul_one,Nat.add_zero]
       rw[he,List.getD_eq_getElem?_getD,hy];rfl,fun i row j c hi hj=>by
       have hi':=hi
       simp only[Qf,List.getElem?_map,Option.map_eq_some_iff]at hi'
       obtain⟨y,hy,rfl⟩:=hi'
       have hj0:j=0:=by
        rcases Nat.eq_zero_or_pos j with h|h
        ·exact h
        ·rw[List.getElem?_eq_none (by simp;omega)]at hj;simp at hj
       subst hj0
       simp at hj;subst hj
       show RepO _ _ _ _ _ (Value.int .i64 ((ns.mergeSort fun x y=>decide (x≤y)).getD i 0))
       rw[List.getD_eq_getElem?_getD,hy]
       exact .plain _ _ _ _ (.int _ _)⟩) (by simp)
   rw[←Qbbm hblk1]at s2
   obtain⟨g',s3⟩:=Qbha s2.sat os
   refine⟨.tuple #[],.tup [],_,g',rfl,hK _ ⟨by simp[Heap.set_same],fun m _ hm=>Heap.set_other _ _ (by simpa using hm)⟩,s1.trans (s2.trans s3),?_⟩
   exact .tup [] [] rfl (by simp)
theorem Qa8s {f:Nat}(hf:fnOk P f=true){k:IntKind}{x r:Int}(hc:∀w,Calls P f #[.int k x] w fun e w'=>e=.returned (.int .i64 r)∧w'=w){K:V→Heap→Prop}(hK:K (.c (.int .i64 r)) H) :
  Qv P f [.c (.int k x)] H K:=by
 refine⟨hf,fun g w vs hs hl hv=>?_⟩
 obtain⟨v,rfl⟩:∃v,vs=[v]:=by
  match vs,hl with
  |[v],_=>exact⟨v,rfl⟩
 have hr:=hv 0 _ v rfl rfl
 cases hr with
 |c _ _ hr=>
  cases hr
  refine (hc w).mono fun e w'=>?_
  rintro⟨rfl,rfl⟩
  exact⟨_,_,H,g,rfl,hK,.refl hs,.c _ _ (.int _ _)⟩
end Go.AE.Y

namespace Go.AE.Y
structure Cmp (ns R:List Int)(k j:Nat):Prop where
 len:R.length=ns.length
 kj:k<j
 jn:j≤ns.length
 asc:(R.take k).Pairwise (· < ·)
 mem:∀x,x∈R.take k↔x∈ns.take j
 same:∀i,j≤i+1→R.getD i 0=ns.getD i 0
variable {ns R:List Int}{k j:Nat}
theorem take_mem {l:List Int}{j:Nat}{x:Int}:x∈l.take j↔∃i,i<j∧i<l.length∧l.getD i 0=x:=by
 constructor
 ·intro h
  obtain⟨i,hi,rfl⟩:=List.mem_iff_getElem.1 h
  rw[List.length_take]at hi
  refine⟨i,by omega,by omega,?_⟩
  rw[List.getElem_take,List.getD_eq_getElem?_getD,List.getElem?_eq_getElem (by omega)];rfl
 ·rintro⟨i,h1,h2,rfl⟩
  rw[List.getD_eq_getElem?_getD,List.getElem?_eq_getElem h2]
  exact List.mem_iff_getElem.2 ⟨i,by rw[List.length_take];omega,by rw[List.getElem_take];rfl⟩
theorem Qld {ns:List Int}(h:ns.Pairwise (·≤·)){a b:Nat}(hab:a≤b)(hb:b<ns.length):ns.getD a 0≤ns.getD b 0:=by
 rcases Nat.lt_or_ge a b with h1|h1
 ·have:=List.pairwise_iff_getElem.1 h a b (by omega) hb h1
  simpa[List.getD_eq_getElem?_getD,hb,show a<ns.length by omega]using this
 ·have:a=b:=by omega
  subst this;exact Int.le_refl _
theorem Cmp.start (hs:ns.Pairwise (·≤·))(hk0:0<k)(hk:k<ns.length)(hne:∀i,0<i→i<k→ns.getD i 0≠ns.getD (i-1) 0)(he:ns.getD k 0=ns.getD (k-1) 0):Cmp ns ns k (k+1):=by
 refine⟨rfl,by omega,by omega,?_,fun x=>?_,fun i _=>rfl⟩
 ·rw[List.pairwise_iff_getElem]
  intro a b ha hb hab
  rw[List.length_take]at ha hb
  rw[List.getElem_take,List.getElem_take]
  have h1:=Qld hs (a:=a) (b:=b-1) (by omega) (by omega)
  have h2:=Qld hs (a:=b-1) (b:=b) (by omega) (by omega)
  have h3:=hne b (by omega) (by omega)
  have e1:ns.getD a 0=ns[a]:=by simp[List.getD_eq_getElem?_getD,show a<ns.length by omega]
  have e2:ns.getD b 0=ns[b]:=by simp[List.getD_eq_getElem?_getD,show b<ns.length by omega]
  rw[e1]at h1;rw[e2]at h2 h3
  omega
 ·rw[take_mem,take_mem]
  constructor
  ·rintro⟨i,h1,h2,h3⟩;exact⟨i,by omega,h2,h3⟩
  ·rintro⟨i,h1,h2,h3⟩
   by_cases h:i<k
   ·exact⟨i,h,h2,h3⟩
   ·have:i=k:=by omega
    subst this
    exact⟨i-1,by omega,by omega,by rw[←he];exact h3⟩
theorem Cmp.ne (c:Cmp ns R k j)(hs:ns.Pairwise (·≤·))(hj:j<ns.length)(he:ns.getD j 0≠ns.getD (j-1) 0):Cmp ns (R.set k (ns.getD j 0)) (k+1) (j+1):=by
 have hkj:=c.kj
 have hkl:k<R.length:=by rw[c.len];omega
 have htk:(R.set k (ns.getD j 0)).take (k+1)=R.take k++[ns.getD j 0]:=by
  rw[List.take_succ_eq_append_getElem (by rw[List.length_set];exact hkl),List.getElem_set_self]
  congr 1
  rw[List.take_set_of_le (Nat.le_refl _)]
 refine⟨by rw[List.length_set];exact c.len,by omega,by omega,?_,fun x=>?_,fun i hi=>?_⟩
 ·rw[htk,List.pairwise_append]
  refine⟨c.asc,by simp,fun a ha b hb=>?_⟩
  simp at hb;subst hb
  obtain⟨i,h1,h2,rfl⟩:=take_mem.1 ((c.mem a).1 ha)
  have h3:=Qld hs (a:=i) (b:=j-1) (by omega) (by omega)
  have h4:=Qld hs (a:=j-1) (b:=j) (by omega) hj
  simp only[List.getD_eq_getElem?_getD]at *
  omega
 ·rw[htk,List.mem_append,c.mem,take_mem,take_mem]
  simp only[List.mem_singleton]
  constructor
  ·rintro (⟨i,h1,h2,h3⟩|rfl)
   ·exact⟨i,by omega,h2,h3⟩
   ·exact⟨j,by omega,hj,rfl⟩
  ·rintro⟨i,h1,h2,h3⟩
   by_cases h:i<j
   ·exact .inl ⟨i,h,h2,h3⟩
   ·have:i=j:=by omega
    subst this;exact .inr h3.symm
 ·have:k≠i:=by omega
  rw[←c.same i (by omega)]
  simp[List.getD_eq_getElem?_getD,this]
def srt (ns:List Int):List Int:=ns.mergeSort fun x y=>decide (x≤y)
theorem Qbj3 (ns:List Int):(srt ns).length=ns.length:=List.length_mergeSort _
theorem Qanl (ns:List Int)(x:Int):x∈srt ns↔x∈ns:=(List.mergeSort_perm ns _).mem_iff
theorem Qa8l (ns:List Int):(srt ns).Pairwise (·≤·):=by
 have:=List.pairwise_mergeSort (le:=fun x y:Int=>decide (x≤y)) (by simp only[decide_eq_true_eq];omega) (by simp only[Bool.or_eq_true,decide_eq_true_eq];omega) ns
 exact this.imp (by simp)
theorem Qbdr {ns:List Int}(h:ns.Nodup):(srt ns).Pairwise (· < ·):=by
 have h1:=Qa8l ns
 have h2:(srt ns).Nodup:=(List.mergeSort_perm ns _).nodup_iff.2 h
 exact h1.imp₂ (fun a b hab hne=>by omega) h2
end Go.AE.Y

namespace Go.Proofs
open Go.Shelf
def Tryz.lays189_ren:Go.Shelf.Ren:=⟨fun|189=>165|125=>230|257=>229|128=>275|129=>276|294=>266|295=>267|296=>268|297=>269|298=>270|299=>271|216=>272|300=>273|301=>274|328=>307|329=>308|330=>309|331=>310|332=>311|215=>312|343=>329|n=>n,fun|28=>27|3=>3|46=>178|0=>0|51=>233|53=>235|4=>4|183=>227|182=>226|131=>154|5=>5|9=>9|218=>273|222=>186|228=>288|229=>289|n=>n,fun|n=>n⟩
theorem Tryz.lays189:Go.Proofs.Lays.n189 Tryz.prog Tryz.lays189_ren:={
 mixed:=by kernel_rfl
 f125:=Tryz.func230.trans (congrArg some (by kernel_rfl))
 f128:=Tryz.func275.trans (congrArg some (by kernel_rfl))
 f129:=Tryz.func276.trans (congrArg some (by kernel_rfl))
 f189:=Tryz.func165.trans (congrArg some (by kernel_rfl))
 f215:=Tryz.func312.trans (congrArg some (by kernel_rfl))
 f216:=Tryz.func272.trans (congrArg some (by kernel_rfl))
 f257:=Tryz.func229.trans (congrArg some (by kernel_rfl))
 f294:=Tryz.func266.trans (congrArg some (by kernel_rfl))
 f295:=Tryz.func267.trans (congrArg some (by kernel_rfl))
 f296:=Tryz.func268.trans (congrArg some (by kernel_rfl))
 f297:=Tryz.func269.trans (congrArg some (by kernel_rfl))
 f298:=Tryz.func270.trans (congrArg some (by kernel_rfl))
 f299:=Tryz.func271.trans (congrArg some (by kernel_rfl))
 f300:=Tryz.func273.trans (congrArg some (by kernel_rfl))
 f301:=Tryz.func274.trans (congrArg some (by kernel_rfl))
 f328:=Tryz.func307.trans (congrArg some (by kernel_rfl))
 f329:=Tryz.func308.trans (congrArg some (by kernel_rfl))
 f330:=Tryz.func309.trans (congrArg some (by kernel_rfl))
 f331:=Tryz.func310.trans (congrArg some (by kernel_rfl))
 f332:=Tryz.func311.trans (congrArg some (by kernel_rfl))
 f343:=Tryz.func329.trans (congrArg some (by kernel_rfl))
 t0:=Tryz.underlying0
 a0:=Tryz.isAgg0
 z0:=Tryz.sizeOf0
 v0:=Tryz.zeroValue0
 t3:=Tryz.underlying3
 a3:=Tryz.isAgg3
 z3:=Tryz.sizeOf3
 v3:=Tryz.zeroValue3
 t4:=Tryz.underlying4
 a4:=Tryz.isAgg4
 z4:=Tryz.sizeOf4
 v4:=Tryz.zeroValue4
 t5:=Tryz.underlying5
 a5:=Tryz.isAgg5
 z5:=Tryz.sizeOf5
 v5:=Tryz.zeroValue5
 t9:=Tryz.underlying9
 a9:=Tryz.isAgg9
 z9:=Tryz.sizeOf9
 v9:=Tryz.zeroValue9
 t28:=Tryz.underlying27
 a28:=Tryz.isAgg27
 z28:=Tryz.sizeOf27
 v28:=Tryz.zeroValue27
 t46:=Tryz.underlying178
 a46:=Tryz.isAgg178
 z46:=Tryz.sizeOf178
 v46:=Tryz.zeroValue178
 t51:=Tryz.underlying233
 a51:=Tryz.isAgg233
 z51:=Tryz.sizeOf233
 v51:=Tryz.zeroValue233
 t53:=Tryz.underlying235
 a53:=Tryz.isAgg235
 z53:=Tryz.sizeOf235
 v53:=Tryz.zeroValue235
 t131:=Tryz.underlying154
 a131:=Tryz.isAgg154
 z131:=Tryz.sizeOf154
 v131:=Tryz.zeroValue154
 t182:=Tryz.underlying226
 a182:=Tryz.isAgg226
 z182:=Tryz.sizeOf226
 v182:=Tryz.zeroValue226
 t183:=Tryz.underlying227
 a183:=Tryz.isAgg227
 z183:=Tryz.sizeOf227
 v183:=Tryz.zeroValue227
 t218:=Tryz.underlying273
 a218:=Tryz.isAgg273
 z218:=Tryz.sizeOf273
 v218:=Tryz.zeroValue273
 t222:=Tryz.underlying186
 a222:=Tryz.isAgg186
 z222:=Tryz.sizeOf186
 v222:=Tryz.zeroValue186
 t228:=Tryz.underlying288
 a228:=Tryz.isAgg288
 z228:=Tryz.sizeOf288
 v228:=Tryz.zeroValue288
 t229:=Tryz.underlying289
 a229:=Tryz.isAgg289
 z229:=Tryz.sizeOf289
 v229:=Tryz.zeroValue289 }
end Go.Proofs

namespace Go.AE.Y
open Go.Proofs.Tryz
variable {H H0:Heap}{K:V→Heap→Prop}{E B Lg:List (Nat×Obj)}
theorem Qa8v {x:Int}(h0:0≤x)(h1:x≤18446744073709551615)(hK:∀n:Int,K (.c (.int .i64 n)) H):Qv prog Q7j [.c (.int .u64 x)] H K:=
 Qa8s (by kernel_rfl) (fun w=>calls_of_every_depth fun D=>Go.Proofs.AnyS.bits_LenIn (ρ:=lays189_ren) { lays189 with } D x w h0 h1) (hK _)
theorem Qbk3 {c:C}(how:c.isOw=false)(hK:K (.tup []) H):Qv prog Qbr [.c c,.c (.int .i64 0),.c (.int .i64 0)] H K:=by
 refine Qb Qar Qir ?_
 refine Qa ?_
 simp only[go_sem,how]
 refine⟨Qo (by omega) (by omega),?_⟩
 refine Qc (Qs (fun m e1 H1=>H1=H∧e1=[(0,.c c),(1,.c (.int .i64 0)),(2,.c (.int .i64 0)),(6,.c (.int .i64 1))]) 0 ⟨rfl,rfl⟩ ?_)
 rintro m e1 H1 ⟨rfl,rfl⟩
 refine Q4 ?_
 refine Qa ?_
 simp only[go_sem,how]
 refine Qg (Qe rfl (fun h=>by simp at h) fun _=>?_)
 refine Qr ?_
 simp only[go_sem,X.next,Q6,Qab,Qc3,List.not_mem_nil]
 exact⟨fun _=>trivial,hK⟩
theorem Qblf {c:C}{l:Int}(how:c.isOw=false)(hK:K (.tup []) H):Qv prog Qbj [.c c,.c (.int .i64 0),.c (.int .i64 0),.c (.int .i64 l)] H K:=by
 refine Qb Qar Qt9 ?_
 refine Qa ?_
 simp only[go_sem,how]
 refine Qa ?_
 simp only[go_sem,how]
 refine Qc (Qs (fun m e1 H1=>H1=H∧e1=[(0,.c c),(1,.c (.int .i64 0)),(2,.c (.int .i64 0)),(3,.c (.int .i64 l)),(8,.c (.bool true)),(9,.c (.bool true))]) 0 ⟨rfl,rfl⟩ ?_)
 rintro m e1 H1 ⟨rfl,rfl⟩
 refine Qc ?_
 refine Qa ?_
 simp only[go_sem,how]
 refine⟨Qo (by omega) (by omega),?_⟩
 refine Q4 ?_
 refine Qa ?_
 simp only[go_sem,how]
 refine Qg (Qe rfl (fun _=>?_) (fun h=>by simp at h))
 refine Qa ?_
 simp only[go_sem,how]
 refine Qbk3 how ?_
 refine Qj ?_
 simp only[go_sem,X.next,Q6,Qab,Qgw,List.not_mem_nil]
 exact⟨fun _=>trivial,hK⟩
theorem Qbh3 {c:C}(hok:okSl H c)(hl:lenC c=0)(how:c.isOw=false)(hK:K (.tup []) H):Qv prog Qrh [.c c] H K:=by
 have hok:=eq_true hok
 refine Qb Qar Qbba ?_
 refine Qa ?_
 simp only[go_sem,how,hok,hl]
 have e0:((0:Nat):Int)=0:=rfl
 refine Qq ?_
 simp only[go_sem,how,e0]
 refine⟨⟨by decide,by decide⟩,?_⟩
 refine Qa8v (by omega) (by omega) fun n=>?_
 simp only[go_sem,how,Q4r]
 refine Qblf how ?_
 simp only[go_sem,Q6,Qab,Qapc,List.not_mem_nil]
 exact⟨fun _=>trivial,hK⟩
theorem Qbkj {c:C}{ns:List Int}(kn:Kn H0 H E (B++Lg))(hgr:Gr Lg 1 (Qf ns) c)
  (hK:∀Lg' H',Gr Lg' 1 (Qf (srt ns)) c→Kn H0 H' E (B++Lg')→K (.tup []) H'):Qv prog Qrh [.c c] H K:=by
 by_cases h0:ns=[]
 ·subst h0
  refine Qbh3 (hgr.okSl kn) (by rw[hgr.lenC];rfl) hgr.isOw (hK Lg H ?_ kn)
  have:srt []=[]:=by simp[srt]
  rw[this];exact hgr
 ·rcases hgr with ⟨_,h,_⟩|⟨y,rfl,rfl⟩
  ·cases ns with
   |nil=>exact absurd rfl h0
   |cons a b=>simp[Qf]at h
  ·have hy:=kn.l B.length (l:=y) (o:=.vec 1 (Qf ns)) (by simp)
   have hpos:0<ns.length:=List.length_pos_iff.2 h0
   refine Qa45 (by kernel_rfl) (fun blk off cap zs w h1 h2 h3=>Go.Proofs.Any.slices_Sort_int lays189 blk off cap zs w h1 h2 h3) hy (by rw[Qd]) (by rw[Qd];exact hpos) fun H' hu=>?_
   refine hK [(y,.vec 1 (Qf (srt ns)))] H' (.inr ⟨y,by rw[Qd,Qd,Qbj3],rfl⟩) ?_
   have:=kn.callL B.length (l:=y) (o:=.vec 1 (Qf ns)) (by simp) hu (by simp)
   simpa[srt]using this
def Qhk (ks:List Nat):List (C×V):=ks.map fun k:Nat=>(.int .i64 (k:Int),.c (.bool true))
theorem Qbbe (ks:List Nat):(Qhk ks).length=ks.length:=by simp[Qhk]
theorem Q8h (ks:List Nat)(n:Int):Qry 0 (.int .i64 n) (Qhk ks)=True:=by
 refine eq_true ?_
 simp only[Qry,Qhk,List.mem_map]
 rintro e ⟨k,_,rfl⟩
 exact⟨k,rfl⟩
theorem Qav8 (ks:List Nat)(b:Nat):(Qvu (.int .i64 (b:Int)) (Qhk ks)).getD (.c (.bool false))=.c (.bool (decide (b∈ks))):=by
 induction ks with
 |nil=>simp[Qhk,Qvu]
 |cons k ks ih=>
  simp only[Qhk,List.map_cons,Qvu,Qfe]at ih⊢
  by_cases h:b=k
  ·subst h;simp
  ·have:¬(b:Int)=(k:Int):=by omega
   simp only[this,decide_false,Bool.false_eq_true,if_false]
   rw[ih];simp[h]
theorem Qa8m (ks:List Nat)(b:Nat)(h:b∉ks):updE (.int .i64 (b:Int)) (.c (.bool true)) (Qhk ks)=Qhk (ks++[b]):=by
 induction ks with
 |nil=>simp[Qhk,updE]
 |cons k ks ih=>
  simp only[List.mem_cons,not_or]at h
  have hk:¬(b:Int)=(k:Int):=by omega
  have ih:=ih h.2
  simp only[Qhk,List.map_cons,updE,Qfe,hk,decide_false,Bool.false_eq_true,if_false,List.cons_append]at ih⊢
  rw[ih]
theorem Q8c {ks:List Nat}(h:ks.Nodup):(Qhk ks).Nodup:=by
 rw[Qhk,List.Nodup,List.pairwise_map]
 refine List.Pairwise.imp (fun {a b} hab he=>?_) h
 simp only[Prod.mk.injEq,C.int.injEq,true_and,and_true]at he
 exact hab (by omega)
set_option maxHeartbeats 1000000 in
theorem Qanj {M ver:Nat}{ks:List Nat}(hM:H M=.map ver (Qhk ks))(hnd:ks.Nodup)(hl:ks.length≤LIM)
  (hK:∀l H',Upd H H' []→l.Pairwise (· < ·)→(∀x,x∈l↔x∈ks)→K (.c (.sl false 1 (Q5 l))) H') :
  Qv prog Qbt [.c (.mp M)] H K:=by
 refine Qz ?_
 refine Qb Qar Qrv ?_
 have hMn:H M≠.none:=by rw[hM];simp
 have kn0:=Kn.start1 hM (by simp)
 refine Qa ?_
 simp only[go_sem]
 refine Qa ?_
 simp only[go_sem]
 refine Q4 ?_
 refine Qa ?_
 simp only[go_sem,hM]
 refine⟨Q8c hnd,fun it hit H1 h1=>?_⟩
 have kn:=kn0.al hit h1
 refine Qg (Qc (Qs (fun m e1 H1=>∃(left:List (C×V)) (cur:Option (C×V)) (os:List Nat) (c:C) (Lg:List (Nat×Obj)),m=left.length∧os.Nodup∧(∀x,x∈os→x∈ks)∧(∀x∈ks,x∈os∨(C.int .i64 (x:Int),V.c (.bool true))∈left)∧
  (∀y∈left,∃x∈ks,x∉os∧y=(C.int .i64 (x:Int),V.c (.bool true)))∧left.Nodup∧os.length+left.length=ks.length∧
  Gr Lg 1 (Q5 os) c∧Kn H H1 [(M,.map ver (Qhk ks))] ([(it,.iter (some (M,ver)) left cur)]++Lg)∧e1=[(3,.c c),(6,.c (.itr it))]) (Qhk ks).length ?_ ?_))
 ·refine⟨Qhk ks,none,[],_,[],rfl,by simp,by simp,fun x hx=>.inr ?_,fun y hy=>?_,Q8c hnd,by simp[Qhk],.nil 1,kn,rfl⟩
  ·exact List.mem_map.2 ⟨x,hx,rfl⟩
  ·obtain⟨x,hx,rfl⟩:=List.mem_map.1 hy
   exact⟨x,hx,by simp,rfl⟩
 ·rintro m e1 H2 ⟨left,cur,os,c,Lg,rfl,hond,hosub,hall,hleft,hlnd,hlen,hgr,kn,rfl⟩
  have hM2:=kn.e 0 rfl
  have hit2:=kn.l 0 rfl
  have hcw:=hgr.isOw
  refine Qa ?_
  simp only[go_sem,hcw,hit2,hM2]
  refine⟨⟨_,rfl⟩,fun hnil=>?_,fun y left' hy hl' hnd' hlen' H3 h3=>?_⟩
  ·subst hnil
   simp only[go_sem,Qb8,List.getD_cons_zero]
   refine Qg (Qe rfl (fun h=>by simp at h) fun _=>?_)
   refine Qr ?_
   simp only[go_sem,X.next]
   refine Qa ?_
   simp only[go_sem,hcw]
   refine Qbkj kn hgr fun Lg2 H3 hgr kn=>?_
   refine Qa ?_
   simp only[go_sem,hcw]
   refine Qj ?_
   simp only[go_sem,Q6,Qab,Qfk,List.mem_singleton,forall_eq,RS.op,hcw]
   have hmem:∀x,x∈os↔x∈ks:=fun x=>⟨hosub x,fun hx=>(hall x hx).resolve_right (by simp)⟩
   have hni:(os.map Int.ofNat).Nodup:=by
    rw[List.Nodup,List.pairwise_map]
    exact List.Pairwise.imp (fun {a b} hab he=>hab (Int.ofNat.inj he)) hond
   have hsn:=Qbdr hni
   obtain⟨l,hl1,hl2,hl3⟩:∃l:List Nat,srt (os.map Int.ofNat)=l.map Int.ofNat∧l.Pairwise (· < ·)∧∀x,x∈l↔x∈ks:=by
    refine⟨(srt (os.map Int.ofNat)).map Int.toNat,?_,?_,fun x=>?_⟩
    ·rw[List.map_map]
     conv=>lhs;rw[←List.map_id (srt (os.map Int.ofNat))]
     refine List.map_congr_left fun x hx=>?_
     rw[Qanl]at hx
     obtain⟨y,_,rfl⟩:=List.mem_map.1 hx
     simp
    ·rw[List.pairwise_map]
     refine List.Pairwise.imp_of_mem (fun {a b} ha hb hab=>?_) hsn
     rw[Qanl]at ha hb
     obtain⟨x,_,rfl⟩:=List.mem_map.1 ha
     obtain⟨y,_,rfl⟩:=List.mem_map.1 hb
     simpa using hab
    ·rw[←hmem]
     constructor
     ·intro hx
      obtain⟨y,hy,rfl⟩:=List.mem_map.1 hx
      rw[Qanl]at hy
      obtain⟨z,hz,rfl⟩:=List.mem_map.1 hy
      simpa using hz
     ·intro hx
      exact List.mem_map.2 ⟨(x:Int),by rw[Qanl];exact List.mem_map.2 ⟨x,hx,rfl⟩,by simp⟩
   have:=hgr.frz kn (Qu _)
   rw[hl1]at this
   exact⟨_,.c _ _ this,hK l _ (kn.fin.drop1 hM) hl2 hl3⟩
  ·obtain⟨k,hk,hkos,rfl⟩:=hleft y hy
   have kn:=kn.stL 0 rfl h3
   have hM3:=kn.e 0 rfl
   have hit3:=kn.l 0 rfl
   simp only[go_sem,Qb8,List.getD_cons_zero]
   refine Qg (Qe rfl (fun _=>?_) (fun h=>by simp at h))
   refine Qh ?_
   simp only[go_sem]
   refine Qc ?_
   refine Qa ?_
   simp only[go_sem,hcw,hit3,hM3]
   refine⟨⟨_,rfl⟩,?_⟩
   simp only[go_sem,Qdx,List.getD_cons_zero]
   refine Qq ?_
   simp only[go_sem,hcw]
   have hol:os.length+1≤LIM:=by omega
   refine kn.growR (B:=[_]) (new:=Q5 [k]) hgr (.mk' _ _ _ _) (Qaq _) (by simp only[Qw,List.length_cons,List.length_nil];omega) fun t Lg' H4 hgr ht kn=>?_
   simp only[go_sem,Qdy,X.next]
   refine⟨left'.length,by omega,left',_,os++[k],t,Lg',rfl,?_,fun x hx=>?_,fun x hx=>?_,fun y hy'=>?_,hnd',?_,?_,kn,rfl⟩
   ·refine List.nodup_append.2 ⟨hond,by simp,fun a ha b hb=>?_⟩
    simp at hb;subst hb;exact fun e=>hkos (e▸ha)
   ·rcases List.mem_append.1 hx with hx|hx
    ·exact hosub x hx
    ·simp at hx;subst hx;exact hk
   ·rcases hall x hx with h|h
    ·exact .inl (List.mem_append_left _ h)
    ·by_cases hxk:x=k
     ·subst hxk;exact .inl (List.mem_append_right _ (by simp))
     ·refine .inr ((hl' _).2 ⟨h,fun he=>hxk ?_⟩)
      simp only[Prod.mk.injEq,C.int.injEq,true_and,and_true]at he
      omega
   ·obtain⟨h1,h2⟩:=(hl' y).1 hy'
    obtain⟨x,hx,hxo,rfl⟩:=hleft y h1
    refine⟨x,hx,fun hh=>?_,rfl⟩
    rcases List.mem_append.1 hh with hh|hh
    ·exact hxo hh
    ·simp at hh;subst hh;exact h2 rfl
   ·simp;omega
   ·rw[Qje];exact hgr
theorem Q08 {M ver:Nat}{ks:List Nat}(hM:H M=.map ver (Qhk ks))(hnd:ks.Nodup)(hl:ks.length≤LIM)
  (hK:∀fl l H',Upd H H' []→l.Pairwise (· < ·)→(∀x,x∈l↔x∈ks)→K (.c (.sl fl 1 (Q5 l))) H') :
  Qv prog Qbt [.c (.mp M)] H K:=Qanj hM hnd hl fun l H'=>hK false l H'
end Go.AE.Y

namespace Go.AE.Y
open Go.Proofs.Tryz
variable {H H0:Heap}{K:V→Heap→Prop}
structure InB (n:Nat)(g:Nat→List Nat)(S:List Bool)(ks:List Nat):Prop where
 len:S.length=n
 s:∀x,x<n→S.getD x false=(decide (x∈ks) || !Qi3 g (-1) x)
 nd:ks.Nodup
 lt:∀x∈ks,x<n
 i:∀x∈ks,Qi3 g (-1) x=true
 c:ks.length≤cnt S
theorem InB.add {n:Nat}{g:Nat→List Nat}{S:List Bool}{ks:List Nat}{b:Nat}(h:InB n g S ks)(hb:b<n)(hbs:b∉ks)(hi:Qi3 g (-1) b=true):S.getD b false=false∧InB n g (S.set b true) (ks++[b]):=by
 have hsb:S.getD b false=false:=by rw[h.s b hb];simp[hbs,hi]
 have hbS:b<S.length:=by rw[h.len];exact hb
 refine⟨hsb,by rw[List.length_set];exact h.len,fun x hx=>?_,?_,fun x hx=>?_,fun x hx=>?_,?_⟩
 ·rw[Qct]
  by_cases hxb:x=b
  ·subst hxb;simp[hbS]
  ·simp only[hxb,false_and,if_false,List.mem_append,List.mem_singleton,or_false]
   exact h.s x hx
 ·refine List.nodup_append.2 ⟨h.nd,by simp,fun a ha c hc=>?_⟩
  simp at hc;subst hc;exact fun e=>hbs (e▸ha)
 ·rcases List.mem_append.1 hx with hx|hx
  ·exact h.lt x hx
  ·simp at hx;omega
 ·rcases List.mem_append.1 hx with hx|hx
  ·exact h.i x hx
  ·simp at hx;subst hx;exact hi
 ·rw[Q7c hbS hsb,List.length_append]
  have:=h.c
  simp;omega
def bdCaps (x5 x6:Nat)(dc:List C):List C:=[.ptr x5 0,.pp [.pp dc],.ptr x6 0]
end Go.AE.Y

namespace Go.AE.Y
open Go.Proofs.Tryz
variable {H H0:Heap}{K:V→Heap→Prop}{E B Lg:List (Nat×Obj)}
def Gw (Lg:List (Nat×Obj))(sz:Nat)(rows:List (List C))(c:C):Prop:=
 (c=.sl true sz []∧rows=[]∧Lg=[])∨∃y R,c=.vsl y sz 0 rows.length∧Lg=[(y,.vec sz R)]∧R.take rows.length=rows
theorem Gw.isOw {sz:Nat}{rows:List (List C)}{c:C}(h:Gw Lg sz rows c):c.isOw=false:=by rcases h with ⟨rfl,_⟩|⟨y,R,rfl,_⟩ <;> rfl
theorem Gw.frz {ns:List Int}{c:C}(h:Gw Lg 1 (Qf ns) c)(kn:Kn H0 H E (B++Lg)):FrzC H (un H0) c (.sl false 1 (Qf ns)):=by
 rcases h with ⟨rfl,h2,_⟩|⟨y,R,rfl,rfl,hR⟩
 ·rw[h2];exact FrzR.nil.sl
 ·have hle:(Qf ns).length≤R.length:=by
   have:=congrArg List.length hR
   rw[List.length_take]at this
   omega
  have h:=FrzR.same (H:=H) (S:=un H0) (Qu ns)
  exact .vsl y 1 0 _ R (Qf ns) (Qf ns) (Qep (kn.loc (y,.vec 1 R) (by simp))) (kn.get (y,.vec 1 R) (by simp)).1 (by omega) (by simpa using hR.symm) h.spec.1 (fun i r r' h1 h2=>(h.spec.2 i r r' h1 h2).spec.1) fun i r r' j c c' h1 h2 h3 h4=>(h.spec.2 i r r' h1 h2).spec.2 j c c' h3 h4
end Go.AE.Y

namespace Go.AE.Y
open Go.Proofs.Tryz
variable {H H0:Heap}{K:V→Heap→Prop}{E B Lg:List (Nat×Obj)}
noncomputable def Qbkz (n:Nat)(nx:Nat→List Int):List Nat:=if Qkj n nx then Qbmb n (nxN nx)else []
noncomputable def loopL (n:Nat)(nx:Nat→List Int)(h:Int):List Nat:=if ((Qbkz n nx).map Int.ofNat).contains h then Qa8x n (nxN nx) h.toNat else []
noncomputable def reachL (n:Nat)(nx:Nat→List Int):List Nat:=if Qkj n nx then (List.range n).filter (Qi3 (nxN nx) (-1))else []
end Go.AE.Y

namespace Go.AE.Y
open Go.Proofs.Tryz
variable {H H0:Heap}{K:V→Heap→Prop}{E B Lg:List (Nat×Obj)}
theorem Q68 {n:Nat}{S:List Bool}{f:Nat→Bool}(hl:S.length=n)(h:∀x,x<n→S.getD x false=f x):S=(List.range n).map f:=by
 refine List.ext_getElem (by simp[hl]) fun i h1 h2=>?_
 have hi:i<n:=by rw[←hl];exact h1
 have:=h i hi
 simp only[List.getD_eq_getElem?_getD,List.getElem?_eq_getElem h1,Option.getD_some]at this
 simp[this]
theorem Qahw {n:Nat}{nx:Nat→List Int}{S:List Bool}{o:List Nat}(hf:Qkj n nx=true)(hd:Dfs (nxN nx) [0] (List.replicate n false) [] S o):S=inL n (nxN nx):=by
 have hn0:=Qvv hf
 have hgl:∀x,x<(List.replicate n false).length→∀y∈nxN nx x,y<(List.replicate n false).length:=by
  rw[List.length_replicate];exact fun x hx y hy=>Qaov hf hx hy
 have hx0:∀x∈[0],x<(List.replicate n false).length:=by rw[List.length_replicate];simpa using hn0
 have hl:=hd.len
 rw[List.length_replicate]at hl
 refine Q68 hl fun x hx=>?_
 have hs:=hd.seen hgl hx0 x
 rw[Qav]at hs
 simp only[Bool.false_eq_true,false_or,List.mem_singleton,exists_eq_left]at hs
 rw[Bool.eq_iff_iff,hs,rchB_iff]
 exact⟨fun hr=>hr.mono fun z hz=>by omega,fun hr=>hr.mono fun z hz=>by rw[Qav]at hz;simp at hz⟩
theorem Qahu {n:Nat}{nx:Nat→List Int}{S:List Bool}{o:List Nat}{a:Nat}(hf:Qkj n nx=true)(ha:a<n)(hd:Dfs (nxN nx) [0] ((List.replicate n false).set a true) [] S o) :
  S.set a false=(List.range n).map (Qi3 (nxN nx) a):=by
 have hn0:=Qvv hf
 have hgl:∀x,x<((List.replicate n false).set a true).length→∀y∈nxN nx x,y<((List.replicate n false).set a true).length:=by
  rw[List.length_set,List.length_replicate];exact fun x hx y hy=>Qaov hf hx hy
 have hx0:∀x∈[0],x<((List.replicate n false).set a true).length:=by rw[List.length_set,List.length_replicate];simpa using hn0
 have hl:=hd.len
 rw[List.length_set,List.length_replicate]at hl
 refine Q68 (by rw[List.length_set];exact hl) fun x hx=>?_
 have hs0:∀z,((List.replicate n false).set a true).getD z false=true↔z=a:=by
  intro z
  rw[Qct,List.length_replicate,Qav]
  by_cases hz:z=a
  ·simp[hz,ha]
  ·simp[hz]
 have hset:(S.set a false).getD x false=if x=a then false else S.getD x false:=by
  simp only[List.getD_eq_getElem?_getD,List.getElem?_set]
  by_cases hxa:a=x
  ·subst hxa;simp[hl,ha]
  ·have:¬x=a:=fun h=>hxa h.symm
   simp[hxa,this]
 rw[hset]
 by_cases hxa:x=a
 ·subst hxa
  rw[if_pos rfl,Qapd]
 ·rw[if_neg hxa,Bool.eq_iff_iff,hd.seen hgl hx0 x,hs0,rchB_iff]
  simp only[hxa,false_or,List.mem_singleton,exists_eq_left]
  exact⟨fun hr=>hr.mono fun z hz=>(hs0 z).2 (by omega),fun hr=>hr.mono fun z hz=>by have:=(hs0 z).1 hz;omega⟩
theorem Qbhj {n:Nat}{g:Nat→List Nat}:((List.replicate n false).set 0 true).set 0 false=(List.range n).map (Qi3 g (0:Nat)):=by
 refine Q68 (by simp) fun x hx=>?_
 have:Qi3 g ((0:Nat):Int) x=false:=by
  cases hc:Qi3 g ((0:Nat):Int) x with
  |false=>rfl
  |true=>exact absurd rfl (rchB_iff.1 hc).fst
 rw[this,List.set_set]
 have:(List.replicate n false).set 0 false=List.replicate n false:=by
  cases n with
  |zero=>rfl
  |succ n=>rfl
 rw[this,Qav]
set_option maxHeartbeats 4000000 in
theorem Qaob {p rg:Int}{fl:Bool}{rows:List (List C)}{nx:Nat→List Int}(hg:GF rows nx)(hf:Qkj rows.length nx=true)
  (hK:∀H',Upd H H' []→K (.c (.sl false 1 (Q6x rows.length (nxN nx) rows.length))) H') :
  Qv prog Qre [.ag [.int .i64 p,.int .i64 rg,.sl fl 5 rows]] H K:=by
 have hn:=hg.n
 have hn0:=Qvv hf
 have hyb:∀(y:Nat) l a b d,C.sl fl 5 rows=.vsl l a b d→l≠y:=by intro y l a b d h;cases h
 refine Qz ?_
 refine Qb Qar Qbaq ?_
 refine Qa ?_
 simp only[go_sem]
 refine Qa ?_
 simp only[go_sem]
 intro _
 refine Qa ?_
 simp only[go_sem]
 refine Qa ?_
 simp only[go_sem,Qa9]
 refine⟨by simp only[LIM];omega,fun al hal H1 h1=>?_⟩
 have kn:Kn H H1 [] ([(al,.vec 1 (Ql (List.replicate rows.length false)))]++[]):=(Kn.start0 H).al hal h1
 simp only[go_sem,Q2j]
 refine Qa ?_
 simp only[go_sem]
 refine Qzo (F:=H1) hf (by omega) (hg.grd H1 fl) (hyb al) rows.length 0 (List.replicate rows.length false) [] (.sl true 1 []) [] H1 _ (by simp) (by omega) hn0 (Qav _ _) kn.mid (.nil 1) (by simp) fun S o oc Lg0 H2 hd k2 _=>?_
 have kn:Kn H H2 [] [(al,.vec 1 (Ql (inL rows.length (nxN nx))))]:=by
  have:=(kn.comp k2 rfl).drop
  rw[Qahw hf hd]at this
  exact this
 refine Q4 ?_
 refine Qa ?_
 simp only[go_sem]
 refine Qg (Qc (Qs (fun m e1 H1=>∃(ys:List Nat) (oc:C) (Lg:List (Nat×Obj)),m=rows.length-ys.length∧ys.length≤rows.length∧Gr Lg 1 (ysR rows.length ys) oc∧
  Kn H H1 [] (([(al,.vec 1 (Ql (inL rows.length (nxN nx))))]++ysL rows.length (nxN nx) ys)++Lg)∧
  e1=[(1,.c (.pp [.int .i64 p,.int .i64 rg,.sl fl 5 rows])),(3,.c (.int .i64 rows.length)),(4,.c oc),(5,.c (.vsl al 1 0 rows.length)),(6,.c (.int .i64 ys.length))]) rows.length ?_ ?_))
 ·exact⟨[],_,[],by simp,by simp,.nil 1,kn,rfl⟩
 ·rintro m e1 H3 ⟨ys,oc,Lg,hm,hi,hgr,kn,rfl⟩
  have hoc:=hgr.isOw
  refine Q4 ?_
  refine Qa ?_
  simp only[go_sem,hoc]
  refine Qg (Qe rfl ?_ ?_)
  ·intro hc
   have hlt:ys.length<rows.length:=by simpa using hc
   have hlti:ys.length<(inL rows.length (nxN nx)).length:=by rw[Qajn];exact hlt
   refine Qh ?_
   simp only[go_sem]
   refine Qdm (fun e2 H4=>∃(oc:C) (Lg:List (Nat×Obj)) (y:Nat),Gr Lg 1 (ysR rows.length (ys++[y])) oc∧
    Kn H H4 [] (([(al,.vec 1 (Ql (inL rows.length (nxN nx))))]++ysL rows.length (nxN nx) (ys++[y]))++Lg)∧
    lk 1 e2=.c (.pp [.int .i64 p,.int .i64 rg,.sl fl 5 rows])∧lk 3 e2=.c (.int .i64 rows.length)∧lk 4 e2=.c oc∧lk 5 e2=.c (.vsl al 1 0 rows.length)∧lk 6 e2=.c (.int .i64 ys.length)) ?_ ?_
   ·intro Q hnr _ _
    refine Qc ?_
    refine Qa ?_
    simp only[go_sem,hoc,Qa9]
    refine⟨by simp only[LIM];omega,fun y2 hy2 H4 h4=>?_⟩
    have kn:Kn H H4 [] ([(y2,.vec 1 (Ql (List.replicate rows.length false)))]++([(al,.vec 1 (Ql (inL rows.length (nxN nx))))]++(ysL rows.length (nxN nx) ys++Lg))):=
     (kn.al hy2 h4).perm (Qy fun f hf h0 hc hp=>by simp only[hf];omega)
    have hy:=kn.l 0 rfl
    have hr0:ys.length<(List.replicate rows.length false).length:=by rw[List.length_replicate];exact hlt
    simp only[go_sem,Q2k]
    refine Qa ?_
    have htk0:∀(S:List Bool),S.length=rows.length→(Ql S).take rows.length=Ql S:=fun S h=>List.take_of_length_le (by rw[Qt];omega)
    simp only[go_sem,hoc,hy,hlt,Qt,List.length_replicate,Q0 _ _ hr0,Qba,Nat.zero_add,Nat.le_refl]
    intro H5 h5
    have kn:Kn H H5 [] ([(y2,.vec 1 (Ql ((List.replicate rows.length false).set ys.length true)))]++([(al,.vec 1 (Ql (inL rows.length (nxN nx))))]++(ysL rows.length (nxN nx) ys++Lg))):=kn.stL 0 rfl h5
    refine Q4 ?_
    refine Qa ?_
    simp only[go_sem,hoc]
    have rest:∀(e:Env) (H6:Heap),lk 1 e=.c (.pp [.int .i64 p,.int .i64 rg,.sl fl 5 rows])→lk 3 e=.c (.int .i64 rows.length)→lk 4 e=.c oc→lk 5 e=.c (.vsl al 1 0 rows.length)→lk 6 e=.c (.int .i64 ys.length)→lk 7 e=.c (.vsl y2 1 0 rows.length)→
      Kn H H6 [] ([(y2,.vec 1 (Ql ((List.range rows.length).map (Qi3 (nxN nx) ys.length))))]++([(al,.vec 1 (Ql (inL rows.length (nxN nx))))]++(ysL rows.length (nxN nx) ys++Lg)))→
      Qae prog Q2i Q e H6:=by
     intro e H6 l1 l3 l4 l5 l6 l7 kn
     refine Qa ?_
     simp only[go_sem,l1,l3,l4,l5,l6,l7,Qa9]
     refine⟨by simp only[LIM];omega,fun y3 hy3 H7 h7=>?_⟩
     have kn:Kn H H7 [] ([(y3,.vec 1 (Ql (List.replicate rows.length false)))]++([(y2,.vec 1 (Ql ((List.range rows.length).map (Qi3 (nxN nx) ys.length))))]++([(al,.vec 1 (Ql (inL rows.length (nxN nx))))]++(ysL rows.length (nxN nx) ys++Lg)))):=
      (kn.al hy3 h7).perm (Qy fun f hf h0 hc hp=>by simp only[hf];omega)
     simp only[go_sem,Q2l,l1,l3,l4,l5,l6,l7]
     refine Q4 ?_
     refine Qa ?_
     simp only[go_sem,hoc]
     refine Qg (Qc (Qs (fun m e1 H1=>∃b:Nat,m=rows.length-b∧b≤rows.length∧
      Kn H H1 [] ([(y3,.vec 1 (Ql ((List.range b).map (Qvs (nxN nx) ys.length)++List.replicate (rows.length-b) false)))]++([(y2,.vec 1 (Ql ((List.range rows.length).map (Qi3 (nxN nx) ys.length))))]++([(al,.vec 1 (Ql (inL rows.length (nxN nx))))]++(ysL rows.length (nxN nx) ys++Lg))))∧
      e1=[(1,.c (.pp [.int .i64 p,.int .i64 rg,.sl fl 5 rows])),(3,.c (.int .i64 rows.length)),(4,.c oc),(5,.c (.vsl al 1 0 rows.length)),(6,.c (.int .i64 ys.length)),(7,.c (.vsl y2 1 0 rows.length)),(8,.c (.vsl y3 1 0 rows.length)),(9,.c (.int .i64 b))]) rows.length ?_ ?_))
     ·exact⟨0,by omega,by omega,by simpa using kn,rfl⟩
     ·rintro m2 e1 H8 ⟨b,hm2,hb,kn,rfl⟩
      have hy3:=kn.l 0 rfl
      have hy2:=kn.l 1 rfl
      have hal:=kn.l 2 rfl
      have hyl:((List.range b).map (Qvs (nxN nx) ys.length)++List.replicate (rows.length-b) false).length=rows.length:=by simp;omega
      refine Q4 ?_
      refine Qa ?_
      simp only[go_sem,hoc]
      refine Qg (Qe rfl ?_ ?_)
      ·intro hc2
       have hbl:b<rows.length:=by simpa using hc2
       have hbi:b<(inL rows.length (nxN nx)).length:=by rw[Qajn];exact hbl
       have hbr:b<((List.range rows.length).map (Qi3 (nxN nx) ys.length)).length:=by simpa using hbl
       have hby:b<((List.range b).map (Qvs (nxN nx) ys.length)++List.replicate (rows.length-b) false).length:=by rw[hyl];exact hbl
       have t1:=htk0 (inL rows.length (nxN nx)) Qajn
       have t2:=htk0 ((List.range rows.length).map (Qi3 (nxN nx) ys.length)) (by simp)
       have t3:=htk0 _ hyl
       refine Qh ?_
       simp only[go_sem]
       refine Qg (Qc ?_)
       refine Qq ?_
       simp only[go_sem,hoc,hy3,hy2,hal,hbl,hlt,t1,t2,t3,Qt,hyl,Qajn,List.length_map,List.length_range,Q0 _ _ hlti,Qa38 hlt,Q0 _ _ hbi,Qa38 hbl,Q0 _ _ hbr,Qer _ _ hbl,Q0 _ _ hby,Qba,Nat.zero_add,Nat.le_refl]
       intro H9 h9
       have kn:=kn.stL 0 rfl h9
       refine Qq ?_
       simp only[go_sem,hoc,X.next]
       refine⟨Qo (by omega) (by omega),rows.length-(b+1),by omega,b+1,rfl,by omega,?_,rfl⟩
       rw[←Qaos _ _ hbl]
       have:Qvs (nxN nx) ys.length b=(bif (bif Qi3 (nxN nx) (-1) ys.length then Qi3 (nxN nx) (-1) b else false)then !Qi3 (nxN nx) (↑ys.length) b else false):=by
        simp only[Qvs]
        cases Qi3 (nxN nx) (-1) ys.length <;> cases Qi3 (nxN nx) (-1) b <;> rfl
       rw[this]
       exact kn
      ·intro hc2
       have hbe:b=rows.length:=by have:¬b<rows.length:=(by simpa using hc2);omega
       subst hbe
       refine Qr ?_
       simp only[go_sem,X.next]
       refine Qq ?_
       simp only[go_sem,hoc]
       have kn:Kn H H8 [] (([(al,.vec 1 (Ql (inL rows.length (nxN nx))))]++ysL rows.length (nxN nx) (ys++[y3]))++Lg):=by
        have hrow:(List.range rows.length).map (Qvs (nxN nx) ys.length)++List.replicate (rows.length-rows.length) false=Qgd rows.length (nxN nx) ys.length:=by simp[Qgd]
        rw[hrow]at kn
        have:=kn.perm (L':=(([(al,.vec 1 (Ql (inL rows.length (nxN nx))))]++ysL rows.length (nxN nx) (ys++[y3]))++Lg)++[(y2,.vec 1 (Ql ((List.range rows.length).map (Qi3 (nxN nx) ys.length))))]) (Qy fun f hf h0 hc hp=>by simp only[Qbhk,hf];omega)
        exact this.drop
       refine kn.growR (new:=[[.vsl y3 1 0 rows.length]]) hgr (.mk' _ _ _ _) (by simp[Go.AE.noOw,C.isOw]) (by simp only[Qbkf,LIM,List.length_cons,List.length_nil];omega) fun t Lg' H9 hgr ht kn=>?_
       simp only[go_sem,Q2m,ht]
       refine hnr _ _ ⟨t,Lg',y3,?_,kn,rfl,rfl,rfl,rfl,rfl⟩
       rw[Qbhl];exact hgr
    refine Qg (Qe rfl ?_ ?_)
    ·intro ha
     have ha0:ys.length≠0:=by simpa using ha
     refine Qa ?_
     simp only[go_sem,hoc]
     refine Qzo (F:=H5) hf (by omega) (hg.grd H5 fl) (hyb y2) rows.length 0 ((List.replicate rows.length false).set ys.length true) [] (.sl true 1 []) [] H5 _ (by simp) (by omega) hn0 (by rw[Qct,Qav,if_neg (by omega)]) kn.mid (.nil 1) (by simp) fun S o oc' Lg0 H6 hd k2 _=>?_
     have hSl:=hd.len
     rw[List.length_set,List.length_replicate]at hSl
     have kn:Kn H H6 [] ([(y2,.vec 1 (Ql S))]++([(al,.vec 1 (Ql (inL rows.length (nxN nx))))]++(ysL rows.length (nxN nx) ys++Lg))):=(kn.comp k2 rfl).drop
     have hy:=kn.l 0 rfl
     have hyS:ys.length<S.length:=by omega
     refine Qq ?_
     simp only[go_sem,hoc,hy,hlt,Qt,hSl,htk0 S hSl,Q0 _ _ hyS,Qba,Nat.zero_add,Nat.le_refl]
     intro H7 h7
     have kn:=kn.stL 0 rfl h7
     refine rest _ H7 rfl rfl rfl rfl rfl rfl ?_
     rw[←Qahu hf hlt hd];exact kn
    ·intro ha
     have ha0:ys.length=0:=by simpa using ha
     have hy:=kn.l 0 rfl
     have hyS:ys.length<((List.replicate rows.length false).set ys.length true).length:=by simpa using hlt
     refine Qq ?_
     simp only[go_sem,hoc,hy,hlt,Qt,List.length_set,List.length_replicate,Q0 _ _ hyS,Qba,Nat.zero_add,Nat.le_refl]
     intro H7 h7
     have kn:=kn.stL 0 rfl h7
     refine rest _ H7 rfl rfl rfl rfl rfl rfl ?_
     have:=Qbhj (n:=rows.length) (g:=nxN nx)
     rw[ha0]at kn⊢
     rw[←this];exact kn
   ·rintro e2 H4 ⟨oc2,Lg2,y,hgr,kn,l1,l3,l4,l5,l6⟩
    refine Qq ?_
    simp only[go_sem,X.next,l1,l3,l4,l5,l6]
    exact⟨Qo (by omega) (by omega),rows.length-(ys.length+1),by omega,ys++[y],oc2,Lg2,by simp,by simp;omega,hgr,kn,by simp⟩
  ·intro hc
   have hge:ys.length=rows.length:=by have:¬ys.length<rows.length:=(by simpa using hc);omega
   refine Qr ?_
   simp only[go_sem,X.next]
   refine Qa ?_
   simp only[go_sem,hoc]
   refine Qj ?_
   simp only[go_sem,Q6,Qab,Qao2,List.mem_singleton,forall_eq,RS.op,hoc]
   have hfr:=Qbkg (H:=H3) (S:=un H) (n:=rows.length) (g:=nxN nx) ys (fun q hq=>⟨(kn.get q (by simp[hq])).1,Qep (kn.loc q (by simp[hq]))⟩)
   rw[hge]at hfr
   exact⟨_,.c _ _ (hgr.frzR kn hfr),hK _ kn.fin⟩
end Go.AE.Y

namespace Go.AE.Y
open Go.Proofs.Tryz
def Qw8:List Item:=[mJ 3 12]
def Qw9:List Item:=.chk 6 none (.ld 3 true (.t 1))::aJ 12 Qed [.t 6,kI 0,.t 10,.t 11]::Qw8
def Qxa:List Item:=[mJ 4 27]
def Qapv:SC:=.reg [mJ 19 5,cJ 20 .sub 19 1,mJ 5 20] [3,4,5]
def Qapw:SC:=.seq (.block 1 (.reg (mJ 21 4::mJ 22 3::mJ 23 5::iJ 24 1 22 23::lJ 25 24::fI 26 (.bsl 1 [.t 25])::xJ 27 1 21 26::Qxa) [3,4,5])) Qapv
def Qaku:SC:=.seq (sR [mJ 17 5,cJ 18 .geq 17 0] [3,4,5,18] (cT 18 .skip (.exit 0))) Qapw
def Qapx:SC:=sR [mJ 28 4,mJ 2 28] [2] .ret
def Qapy:SC:=.seq (sR [mJ 14 3,nJ 15 14,cJ 16 .sub 15 1,mJ 5 16] [3,4,5] (bL 0 Qaku)) Qapx
def Qapz:SC:=sR [fI 13 (.bsl 1 []),mJ 4 13] [3,4] Qapy
def Qap0:SC:=.seq (.dreg 8 [0,1,2,3,5,4,0,6,7] ( tJ 6 3 1::fJ 7 2 1::lJ 8 7::nJ 9 8::fI 11 (.bsl 1 [])::eI 10 (.mks 1 [.bool false] (.t 9))::Qw9) [3]) Qapz
def Qa6m:SC:=sR [vJ 1 0,fI 2 (.mv (.k (.c (.sl true 1 []))))] [1] Qap0
def Qaii:List RS:=[.tmp 2]
theorem Qa5w:mFn prog Qko 1 29 Qa6m Qaii=true:=by kernel_rfl
def Qs1:List Item:=[mJ 3 17]
def Qak2:SC:=.reg [mJ 10 4,cJ 11 .add 10 1,mJ 4 11] [0,3,4]
def Qak3:SC:=.seq (.block 1 (.reg (mJ 12 3::mJ 13 0::mJ 14 4::iJ 15 1 13 14::lJ 16 15::aJ 17 Qee [.t 12,.t 16]::Qs1) [0,3,4])) Qak2
def Qafx:SC:=.seq (sR [mJ 6 4,mJ 7 0,nJ 8 7,bJ 9 .lss 6 8] [0,3,4,9] (cT 9 .skip (.exit 0))) Qak3
def Qak4:SC:=sR [mJ 18 3,mJ 2 18] [2] .ret
def Qak5:SC:=.seq (sR [zJ 4 0] [0,3,4] (bL 0 Qafx)) Qak4
def Qak6:SC:=sR [fI 5 (.bsl 1 []),mJ 3 5] [0,3] Qak5
def Qax8:SC:=sR [fI 2 (.mv (.k (.c (.sl true 1 []))))] [0] Qak6
def Q8t:List RS:=[.tmp 2]
theorem Qawv:mFn prog Qn4 1 19 Qax8 Q8t=true:=by kernel_rfl
def Qj5:List Item:=[oJ 5 4]
def Q6l:SC:=cT 5 (sR [fI 6 (.bsl 1 []),mJ 2 6] [2] .ret) .skip
def Qj6:List Item:=[mJ 2 9]
def Qj7:List Item:=aJ 9 Qn4 [.t 8]::Qj6
def Q6m:SC:=sR (tJ 7 3 1::aJ 8 Qko [.t 7]::Qj7) [2] .ret
def Q6n:SC:=.seq (sR (tJ 3 3 1::aJ 4 Qy6 [.t 3]::Qj5) [1,5] Q6l) Q6m
def Qahs:SC:=sR [vJ 1 0,fI 2 (.mv (.k (.c (.sl true 1 []))))] [1] Q6n
def Qsp:List RS:=[.tmp 2]
theorem Qaew:mFn prog Qgq 1 10 Qahs Qsp=true:=by kernel_rfl
def Qxf:List Item:=[mJ 5 9]
def Qaqi:SC:=.reg [mJ 13 6,cJ 14 .add 13 1,mJ 6 14] [0,1,5,6]
def Qaqj:SC:=.seq (.block 1 (.reg [mJ 15 5,mJ 16 6,iJ 17 1 15 16,.e none none (.sto 1 (.t 17) (kI (-1)))] [0,1,5,6])) Qaqi
def Qak0:SC:=.seq (sR [mJ 10 6,mJ 11 0,bJ 12 .lss 10 11] [0,1,5,6,12] (cT 12 .skip (.exit 0))) Qaqj
def Qaqk:SC:=.reg [mJ 22 7,cJ 23 .add 22 1,mJ 7 23] [1,5,7]
def Qaql:SC:=.seq (.block 3 (.reg [mJ 24 5,mJ 25 1,mJ 26 7,iJ 27 1 25 26,lJ 28 27,mJ 29 7,iJ 30 1 24 28,sJ 1 30 29] [1,5,7])) Qaqk
def Qak1:SC:=.seq (sR [mJ 18 7,mJ 19 1,nJ 20 19,bJ 21 .lss 18 20] [1,5,7,21] (cT 21 .skip (.exit 2))) Qaql
def Qaqm:SC:=sR [mJ 31 5,mJ 4 31] [4] .ret
def Qaqn:SC:=.seq (sR [zJ 7 0] [1,5,7] (bL 2 Qak1)) Qaqm
def Qaqo:SC:=.seq (sR [zJ 6 0] [0,1,5,6] (bL 0 Qak0)) Qaqn
def Qakz:SC:=sR (mJ 8 0::eI 9 (.mks 1 [.int .i64 0] (.t 8))::Qxf) [0,1,5] Qaqo
def Qa6n:SC:=sR [fI 4 (.mv (.k (.c (.sl true 1 []))))] [0,1] Qakz
def Qaij:List RS:=[.tmp 4]
theorem Qa5x:mFn prog Qt2 2 32 Qa6n Qaij=true:=by kernel_rfl
def Q17:List Item:=[mJ 5 20]
def Q18:List Item:=[sJ 3 6 25]
def Q19:List Item:=[hJ 33 32,.chk 36 none (.iad 1 (.t 34) (.t 35)),hJ 37 36,.chk 38 none (.iad 5 (.t 33) (.t 37)),.chk 39 none (.ld 5 true (.t 38)),sJ 5 8 40]
def Q2a:List Item:=eI 8 (.alloc [.sl true 2 [],.sl true 4 [],.int .i64 0,.int .i64 0,.sl true 1 []])::Q19
def Qax4:SC:=.reg [mJ 46 9,cJ 47 .add 46 1,mJ 9 47] [1,2,4,5,6,7,8,9]
def Qax5:SC:=.seq (.block 3 (.dreg 13 [0,1,2,3,4,5,6,7,8,9,10,11,12] ( fJ 48 4 8::lJ 49 48::mJ 50 9::mJ 51 5::fJ 52 4 8::lJ 53 52::mJ 54 9::iJ 55 1 53 54::lJ 56 55::iJ 57 1 51 56::lJ 58 57::iJ 59 1 49 50::sJ 1 59 58::[]) [1,2,4,5,6,7,8,9])) Qax4
def Qaqh:SC:=.seq (sR [mJ 41 9,fJ 42 4 8,lJ 43 42,nJ 44 43,bJ 45 .lss 41 44] [1,2,4,5,6,7,8,9,45] (cT 45 .skip (.exit 2))) Qax5
def Q2b:List Item:=[fJ 65 2 6,sJ 1 65 64]
def Qax6:SC:=.reg (fJ 60 2 6::lJ 61 60::tJ 62 5 8::fI 63 (.bsl 5 [.t 62])::xJ 64 5 61 63::Q2b) [1,2,4,5,6,7]
def Qax7:SC:=.seq (sR [zJ 9 0] [1,2,4,5,6,7,8,9] (bL 2 Qaqh)) (.seq .gh Qax6)
def Qap1:SC:=.reg [mJ 30 7,cJ 31 .add 30 1,mJ 7 31] [1,2,4,5,6,7]
def Qap2:SC:=.seq (.block 1 (.seq (.dreg 9 [0,1,2,3,4,5,6,7,8,9,1,4,5,6,7,10] ( fJ 32 2 2::lJ 33 32::mJ 34 1::mJ 35 7::iJ 36 1 34 35::lJ 37 36::iJ 38 5 33 37::tJ 39 5 38::aJ 40 Qeq [.t 39]::Q2a) [1,2,4,5,6,7,8]) Qax7)) Qap1
def Qakv:SC:=.seq (sR [mJ 26 7,mJ 27 1,nJ 28 27,bJ 29 .lss 26 28] [1,2,4,5,6,7,29] (cT 29 .skip (.exit 0))) Qap2
def Qxb:List Item:=[mJ 11 77]
def Qxc:List Item:=[mJ 12 80]
def Qxd:List Item:=[mJ 14 122]
def Qxe:List Item:=hJ 101 100::.chk 103 none (.iad 5 (.t 101) (.t 102))::hJ 105 104::.chk 107 none (.iad 2 (.t 105) (.t 106))::hJ 109 108::iJ 119 1 109 118::lJ 120 119::fI 121 (.bsl 1 [.t 120])::xJ 122 1 99 121::Qxd
def Qap3:SC:=.reg [mJ 97 15,cJ 98 .add 97 1,mJ 15 98] [1,2,4,6,10,11,12,13,14,15]
def Qap4:SC:=.seq (.block 9 (.dreg 25 [0,1,2,3,4,5,6,7,8,9,10,11,12,13,14,15,16,17,18,19,2,4,6,8,10,20,21,22,23,24] ( mJ 99 14::fJ 100 2 6::lJ 101 100::mJ 102 10::iJ 103 5 101 102::fJ 104 0 103::lJ 105 104::mJ 106 13::iJ 107 2 105 106::fJ 108 1 107::lJ 109 108::mJ 110 11::mJ 111 1::mJ 112 12::mJ 113 15::iJ 114 1 112 113::lJ 115 114::iJ 116 1 111 115::lJ 117 116::aJ 118 Qra [.t 110,.t 117]::Qxe) [1,2,4,6,10,11,12,13,14,15])) Qap3
def Qakw:SC:=.seq (sR [mJ 93 15,mJ 94 12,nJ 95 94,bJ 96 .lss 93 95] [1,2,4,6,10,11,12,13,14,15,96] (cT 96 .skip (.exit 8))) Qap4
def Qap5:SC:=.reg [fJ 123 2 6,lJ 124 123,mJ 125 10,iJ 126 5 124 125,fJ 127 0 126,lJ 128 127,mJ 129 13,mJ 130 14,iJ 131 2 128 129,fJ 132 1 131,sJ 1 132 130] [1,2,4,6,10,11,12,13]
def Qap6:SC:=.seq (sR [zJ 15 0] [1,2,4,6,10,11,12,13,14,15] (bL 8 Qakw)) (.seq .gh Qap5)
def Qap7:SC:=.reg [mJ 90 13,cJ 91 .add 90 1,mJ 13 91] [1,2,4,6,10,11,12,13]
def Qap8:SC:=.seq (.block 7 (sR [fI 92 (.bsl 1 []),mJ 14 92] [1,2,4,6,10,11,12,13,14] Qap6)) Qap7
def Qakx:SC:=.seq (sR [mJ 81 13,fJ 82 2 6,lJ 83 82,mJ 84 10,iJ 85 5 83 84,fJ 86 0 85,lJ 87 86,nJ 88 87,bJ 89 .lss 81 88] [1,2,4,6,10,11,12,13,89] (cT 89 .skip (.exit 6))) Qap8
def Qap9:SC:=sR [zJ 13 0] [1,2,4,6,10,11,12,13] (bL 6 Qakx)
def Qaqa:SC:=sR (tJ 78 3 6::mJ 79 10::aJ 80 Qcd [.t 78,.t 79]::Qxc) [1,2,4,6,10,11,12] Qap9
def Qaqb:SC:=.reg [mJ 70 10,cJ 71 .add 70 1,mJ 10 71] [1,2,4,6,10]
def Qaqc:SC:=.seq (.block 5 (.seq (.dreg 7 [0,1,2,3,4,5,6] ( tJ 72 3 2::mJ 73 1::mJ 74 10::iJ 75 1 73 74::lJ 76 75::aJ 77 Qcd [.t 72,.t 76]::Qxb) [1,2,4,6,10,11]) Qaqa)) Qaqb
def Qaky:SC:=.seq (sR [mJ 66 10,mJ 67 1,nJ 68 67,bJ 69 .lss 66 68] [1,2,4,6,10,69] (cT 69 .skip (.exit 4))) Qaqc
def Qaqd:SC:=sR [tJ 133 3 6,sJ 3 4 133] [4] .ret
def Q16:SC:=.seq (sR [zJ 10 0] [1,2,4,6,10] (bL 4 Qaky)) Qaqd
def Qaqe:SC:=.seq (sR [zJ 7 0] [1,2,4,5,6,7] (bL 0 Qakv)) Q16
def Qaqf:SC:=sR (fJ 21 0 2::lJ 22 21::fJ 23 1 2::lJ 24 23::fI 25 (.bld [.int .i64 0,.int .i64 0,.sl true 5 []] [(0,1,.t 22),(1,1,.t 24)])::eI 6 (.alloc [.int .i64 0,.int .i64 0,.sl true 5 []])::Q18) [1,2,4,5,6] Qaqe
def Qaqg:SC:=sR (fJ 16 2 2::lJ 17 16::nJ 18 17::mJ 19 1::aJ 20 Qt2 [.t 18,.t 19]::Q17) [1,2,4,5] Qaqf
def Qbb6:SC:=sR [vJ 2 0,eI 4 (.alloc [.int .i64 0,.int .i64 0,.sl true 5 []])] [1,2,4] Qaqg
def Qao0:List RS:=[.cell 4 3 true]
theorem Qban:mFn prog Qrc 2 134 Qbb6 Qao0=true:=by kernel_rfl
def Q1x:List Item:=[sJ 3 2 6]
def Q1y:List Item:=.chk 3 none (.ld 3 true (.t 1))::aJ 6 Qrc [.t 3,.t 5]::Q1x
def Qaxt:SC:=.seq (.dreg 5 [0,1,2,0,3,4] ( tJ 3 3 1::tJ 4 3 1::aJ 5 Qgq [.t 4]::Q1y) [2]) .ret
def Qbb3:SC:=sR [vJ 1 0,eI 2 (.alloc [.int .i64 0,.int .i64 0,.sl true 5 []])] [1,2] Qaxt
def Qaoz:List RS:=[.cell 2 3 true]
theorem Qbak:mFn prog Qrb 1 7 Qbb3 Qaoz=true:=by kernel_rfl
def Qln:List Item:=[mJ 9 20]
def Qlo:List Item:=[mJ 7 54]
def Q9r:SC:=cT 51 (.reg (mJ 52 7::mJ 53 8::aJ 54 Qee [.t 52,.t 53]::Qlo) [1,2,3,7,8,9,10]) .skip
def Q9s:SC:=.reg [mJ 25 10,cJ 26 .add 25 1,mJ 10 26] [1,2,3,7,8,9,10]
def Q9t:SC:=.seq (.block 3 (.seq (.dreg 25 [0,1,2,3,4,5,6,7,8,9,10,11,12,13,14,15,16,17,18,19,20,21,22,23,24] ( mJ 27 1::mJ 28 2::iJ 29 1 27 28::lJ 30 29::mJ 31 9::mJ 32 10::iJ 33 1 31 32::lJ 34 33::iJ 35 1 30 34::lJ 36 35::mJ 37 36::gTm 38 37 8::gTm 39 37 2::gT 40 37 (.bin 0 .eql (.t 38) (.t 39))::gTm 41 37 40::gFm 42 41 1::gFm 43 41 2::gF 44 41 (.iad 1 (.t 42) (.t 43))::gFl 45 41 44::gFm 46 41 8::gF 47 41 (.iad 1 (.t 45) (.t 46))::gFl 48 41 47::gF 49 41 (.not (.t 48))::gT 50 37 (.pick (.t 41) (.k (.c (.bool true))) (.t 49))::pF 51 37 50::[]) [1,2,3,7,8,9,10,51]) Q9r)) Q9s
def Q5s:SC:=.seq (sR [mJ 21 10,mJ 22 9,nJ 23 22,bJ 24 .lss 21 23] [1,2,3,7,8,9,10,24] (cT 24 .skip (.exit 2))) Q9t
def Q9u:SC:=sR [zJ 10 0] [1,2,3,7,8,9,10] (bL 2 Q5s)
def Q9v:SC:=.reg [mJ 16 8,cJ 17 .add 16 1,mJ 8 17] [1,2,3,7,8]
def Q9w:SC:=.seq (.block 1 (sR (tJ 18 3 3::mJ 19 8::aJ 20 Qcd [.t 18,.t 19]::Qln) [1,2,3,7,8,9] Q9u)) Q9v
def Q5t:SC:=.seq (sR [mJ 12 8,mJ 13 1,nJ 14 13,bJ 15 .lss 12 14] [1,2,3,7,8,15] (cT 15 .skip (.exit 0))) Q9w
def Q5p:SC:=sR [mJ 55 7,mJ 6 55] [6] .ret
def Q5q:SC:=.seq (sR [zJ 8 0] [1,2,3,7,8] (bL 0 Q5t)) Q5p
def Q5r:SC:=sR [fI 11 (.bsl 1 []),mJ 7 11] [1,2,3,7] Q5q
def Qalc:SC:=sR [vJ 3 0,fI 6 (.mv (.k (.c (.sl true 1 []))))] [1,2,3] Q5r
def Qwd:List RS:=[.tmp 6]
theorem Qajy:mFn prog Qik 3 56 Qalc Qwd=true:=by kernel_rfl
def Qjy:List Item:=[mJ 8 15]
def Qjz:List Item:=[oJ 29 28]
def Qj0:List Item:=[mJ 10 33]
def Qj1:List Item:=[cJ 46 .lss 45 0]
def Qj2:List Item:=[mJ 7 52]
def Qj3:List Item:=[mJ 8 59]
def Q5u:SC:=.reg (mJ 53 8::mJ 54 10::mJ 55 11::iJ 56 1 54 55::lJ 57 56::fI 58 (.bsl 1 [.t 57])::xJ 59 1 53 58::Qj3) [1,3,7,8,10,11]
def Q5v:SC:=cT 46 (sR (mJ 47 7::mJ 48 10::mJ 49 11::iJ 50 1 48 49::lJ 51 50::aJ 52 Qee [.t 47,.t 51]::Qj2) [1,3,7,8,10,11] Q5u) .skip
def Q5w:SC:=.reg [mJ 38 11,cJ 39 .add 38 1,mJ 11 39] [1,3,7,8,10,11]
def Q5x:SC:=.seq (.block 3 (sR (mJ 40 7::mJ 41 10::mJ 42 11::iJ 43 1 41 42::lJ 44 43::aJ 45 Qra [.t 40,.t 44]::Qj1) [1,3,7,8,10,11,46] Q5v)) Q5w
def Qxi:SC:=.seq (sR [mJ 34 11,mJ 35 10,nJ 36 35,bJ 37 .lss 34 36] [1,3,7,8,10,11,37] (cT 37 .skip (.exit 2))) Q5x
def Q0g:SC:=sR [zJ 11 0] [1,3,7,8,10,11] (bL 2 Qxi)
def Q0h:SC:=sR (tJ 30 3 3::mJ 31 1::mJ 32 9::aJ 33 Qik [.t 30,.t 31,.t 32]::Qj0) [1,3,7,8,10] Q0g
def Q0i:SC:=.seq (sR (mJ 24 9::mJ 25 1::nJ 26 25::cJ 27 .sub 26 1::aJ 28 Qbl [.t 24,kI 0,.t 27]::Qjz) [1,3,7,8,9,29] (cT 29 (.exit 1) .skip)) Q0h
def Q0j:SC:=sR [mJ 22 8,fI 23 (.sli 1 (.t 22) (some (kI 1)) none),mJ 8 23] [1,3,7,8,9] Q0i
def Q0k:SC:=.block 1 (sR [mJ 19 8,fI 20 (.iad 1 (.t 19) (kI 0)),lJ 21 20,mJ 9 21] [1,3,7,8,9] Q0j)
def Qxj:SC:=.seq (sR [mJ 16 8,nJ 17 16,cJ 18 .gtr 17 0] [1,3,7,8,18] (cT 18 .skip (.exit 0))) Q0k
def Q0l:SC:=sR [mJ 60 7,mJ 6 60] [6] .ret
def Q0m:SC:=sR (fI 13 (.bsl 1 [])::mJ 14 2::xJ 15 1 13 14::Qjy) [1,3,7,8] (.seq (bL 0 Qxj) Q0l)
def Q0n:SC:=sR [fI 12 (.bsl 1 []),mJ 7 12] [1,2,3,7] Q0m
def Qafy:SC:=sR [vJ 3 0,fI 6 (.mv (.k (.c (.sl true 1 []))))] [1,2,3] Q0n
def Qso:List RS:=[.tmp 6]
theorem Qaet:mFn prog Qgk 3 61 Qafy Qso=true:=by kernel_rfl
def Qaru:SC:=cT 44 (.reg [mJ 45 6,mJ 5 45] [0,3,4,5,6]) .skip
def Qarv:SC:=.reg [mJ 18 6,cJ 19 .add 18 1,mJ 6 19] [0,3,4,5,6]
def Qarw:SC:=.seq (.block 3 (sR [mJ 20 6,mJ 21 4,bJ 22 .neq 20 21,mJ 23 22,gTm 24 23 0,gTm 25 23 6,gT 26 23 (.iad 1 (.t 24) (.t 25)),gTl 27 23 26,gTm 28 23 4,gT 29 23 (.iad 1 (.t 27) (.t 28)),gTl 30 23 29,pF 31 23 30,mJ 32 31,gTm 33 32 5,gT 34 32 (.bin 0 .lss (.t 33) (kI 0)),gTm 35 32 34,gFm 36 35 0,gFm 37 35 5,gF 38 35 (.iad 1 (.t 36) (.t 37)),gFl 39 35 38,gFm 40 35 6,gF 41 35 (.iad 1 (.t 39) (.t 40)),gFl 42 35 41,gT 43 32 (.pick (.t 35) (.k (.c (.bool true))) (.t 42)),pF 44 32 43] [0,3,4,5,6,44] Qaru)) Qarv
def Qalg:SC:=.seq (sR [mJ 14 6,mJ 15 0,nJ 16 15,bJ 17 .lss 14 16] [0,3,4,5,6,17] (cT 17 .skip (.exit 2))) Qarw
def Qxk:List Item:=[mJ 3 49]
def Qarx:SC:=.reg (mJ 46 3::mJ 47 5::fI 48 (.bsl 1 [.t 47])::xJ 49 1 46 48::Qxk) [0,3,4]
def Qary:SC:=.seq (sR [zJ 6 0] [0,3,4,5,6] (bL 2 Qalg)) Qarx
def Qarz:SC:=.reg [mJ 12 4,cJ 13 .add 12 1,mJ 4 13] [0,3,4]
def Qar0:SC:=.seq (.block 1 (sR [zJ 5 (-1)] [0,3,4,5] Qary)) Qarz
def Qalh:SC:=.seq (sR [mJ 8 4,mJ 9 0,nJ 10 9,bJ 11 .lss 8 10] [0,3,4,11] (cT 11 .skip (.exit 0))) Qar0
def Qald:SC:=sR [mJ 50 3,mJ 2 50] [2] .ret
def Qale:SC:=.seq (sR [zJ 4 0] [0,3,4] (bL 0 Qalh)) Qald
def Qalf:SC:=sR [fI 7 (.bsl 1 []),mJ 3 7] [0,3] Qale
def Qa6p:SC:=sR [fI 2 (.mv (.k (.c (.sl true 1 []))))] [0] Qalf
def Qail:List RS:=[.tmp 2]
theorem Qa5z:mFn prog Qt3 1 51 Qa6p Qail=true:=by kernel_rfl
def Q2n:List Item:=[mJ 5 23]
def Qayi:SC:=cT 19 (.reg (mJ 20 5::mJ 21 6::fI 22 (.bsl 1 [.t 21])::xJ 23 1 20 22::Q2n) [0,1,5,6]) .skip
def Qayj:SC:=.reg [mJ 12 6,cJ 13 .add 12 1,mJ 6 13] [0,1,5,6]
def Qayk:SC:=.seq (.block 1 (sR [mJ 14 0,mJ 15 6,iJ 16 1 14 15,lJ 17 16,mJ 18 1,bJ 19 .eql 17 18] [0,1,5,6,19] Qayi)) Qayj
def Qar1:SC:=.seq (sR [mJ 8 6,mJ 9 0,nJ 10 9,bJ 11 .lss 8 10] [0,1,5,6,11] (cT 11 .skip (.exit 0))) Qayk
def Qayl:SC:=sR [mJ 24 5,mJ 4 24] [4] .ret
def Qaym:SC:=.seq (sR [zJ 6 0] [0,1,5,6] (bL 0 Qar1)) Qayl
def Qayn:SC:=sR [fI 7 (.bsl 1 []),mJ 5 7] [0,1,5] Qaym
def Qbca:SC:=sR [fI 4 (.mv (.k (.c (.sl true 1 []))))] [0,1] Qayn
def Qao3:List RS:=[.tmp 4]
theorem Qbar:mFn prog Qy8 2 25 Qbca Qao3=true:=by kernel_rfl
def Q3b:List Item:=[mJ 3 11]
def Q3c:List Item:=[iJ 50 1 40 41,sJ 1 50 49]
def Qazd:SC:=.reg (mJ 40 3::mJ 41 6::mJ 42 3::mJ 43 6::iJ 44 1 42 43::lJ 45 44::mJ 46 4::fI 47 (.bsl 1 [.t 46,kI (-1)])::fI 48 (.bsl 1 [.t 47])::xJ 49 1 45 48::Q3c) [1,3,4,5]
def Qaze:SC:=.reg [mJ 28 5,cJ 29 .add 28 1,mJ 5 29] [1,3,4,5]
def Qazf:SC:=.seq (.block 3 (sR [fJ 30 2 1,lJ 31 30,mJ 32 4,iJ 33 5 31 32,fJ 34 0 33,lJ 35 34,mJ 36 5,iJ 37 2 35 36,fJ 38 0 37,lJ 39 38,mJ 6 39] [1,3,4,5,6] Qazd)) Qaze
def Qatp:SC:=.seq (sR [mJ 19 5,fJ 20 2 1,lJ 21 20,mJ 22 4,iJ 23 5 21 22,fJ 24 0 23,lJ 25 24,nJ 26 25,bJ 27 .lss 19 26] [1,3,4,5,27] (cT 27 .skip (.exit 2))) Qazf
def Q3d:List Item:=[mJ 8 71]
def Q3e:List Item:=[iJ 85 1 74 75,sJ 1 85 84]
def Qazg:SC:=cT 73 (.reg (mJ 74 3::mJ 75 8::mJ 76 3::mJ 77 8::iJ 78 1 76 77::lJ 79 78::mJ 80 4::mJ 81 7::fI 82 (.bsl 1 [.t 80,.t 81])::fI 83 (.bsl 1 [.t 82])::xJ 84 1 79 83::Q3e) [1,3,4,7]) .skip
def Qazh:SC:=sR [mJ 72 8,cJ 73 .geq 72 0] [1,3,4,7,8,73] Qazg
def Qath:SC:=.reg [mJ 60 7,cJ 61 .add 60 1,mJ 7 61] [1,3,4,7]
def Qati:SC:=.seq (.block 5 (sR (fJ 62 2 1::lJ 63 62::mJ 64 4::iJ 65 5 63 64::fJ 66 1 65::lJ 67 66::mJ 68 7::iJ 69 4 67 68::tJ 70 4 69::aJ 71 Qhs [.t 70]::Q3d) [1,3,4,7,8] Qazh)) Qath
def Qal4:SC:=.seq (sR [mJ 51 7,fJ 52 2 1,lJ 53 52,mJ 54 4,iJ 55 5 53 54,fJ 56 1 55,lJ 57 56,nJ 58 57,bJ 59 .lss 51 58] [1,3,4,7,59] (cT 59 .skip (.exit 4))) Qati
def Qatj:SC:=sR [zJ 7 0] [1,3,4,7] (bL 4 Qal4)
def Qatk:SC:=.reg [mJ 17 4,cJ 18 .add 17 1,mJ 4 18] [1,3,4]
def Qatl:SC:=.seq (.block 1 (.seq (sR [zJ 5 0] [1,3,4,5] (bL 2 Qatp)) Qatj)) Qatk
def Qal5:SC:=.seq (sR [mJ 12 4,fJ 13 2 1,lJ 14 13,nJ 15 14,bJ 16 .lss 12 15] [1,3,4,16] (cT 16 .skip (.exit 0))) Qatl
def Qatm:SC:=sR [mJ 86 3,mJ 2 86] [2] .ret
def Qatn:SC:=.seq (sR [zJ 4 0] [1,3,4] (bL 0 Qal5)) Qatm
def Qato:SC:=sR (fJ 9 1 1::lJ 10 9::eI 11 (.mks 1 [.sl true 1 []] (.t 10))::Q3b) [1,3] Qatn
def Qbch:SC:=sR [vJ 1 0,fI 2 (.mv (.k (.c (.sl true 1 []))))] [1] Qato
def Qao8:List RS:=[.tmp 2]
theorem Qbay:mFn prog Qze 1 87 Qbch Qao8=true:=by kernel_rfl
def Qxm:List Item:=[sJ 3 3 8]
def Qxn:List Item:=eI 3 (.alloc [.int .i64 0,.int .i64 0,.sl true 5 []])::Qxm
def Qxo:List Item:=[fI 11 (.fld 0 1 false (.t 10)),fI 12 (.iad 1 (.t 11) (kI 0)),lJ 13 12,mJ 4 13]
def Qxp:List Item:=[mJ 5 32]
def Qasu:SC:=cT 26 (.reg (mJ 27 5::mJ 28 6::fI 29 (.bsl 1 [])::fI 30 (.bld [.int .i64 0,.int .i64 0,.sl true 1 [],.int .i64 0] [(0,1,kI 1),(1,1,.t 28),(2,1,.t 29)])::fI 31 (.bsl 4 [.t 30])::xJ 32 4 27 31::Qxp) [2,3,4,5,6]) .skip
def Qasv:SC:=.reg [mJ 21 6,cJ 22 .add 21 1,mJ 6 22] [2,3,4,5,6]
def Qasw:SC:=.seq (.block 1 (sR [mJ 23 4,mJ 24 6,iJ 25 1 23 24,lJ 26 25] [2,3,4,5,6,26] Qasu)) Qasv
def Qalz:SC:=.seq (sR [mJ 17 6,fJ 18 1 3,lJ 19 18,bJ 20 .lss 17 19] [2,3,4,5,6,20] (cT 20 .skip (.exit 0))) Qasw
def Qxq:List Item:=[hJ 34 33,fI 42 (.iad 5 (.t 34) (kI 0)),fJ 43 1 42,sJ 1 43 41]
def Qasx:SC:=sR [tJ 44 3 3,sJ 3 2 44] [2] .ret
def Qalu:SC:=.seq (.dreg 12 [0,1,2,3,4,5,6,7,8,1,9,10,11] ( fJ 33 2 3::lJ 34 33::mJ 35 5::fJ 36 2 3::lJ 37 36::fI 38 (.iad 5 (.t 37) (kI 0))::fJ 39 1 38::lJ 40 39::xJ 41 4 35 40::Qxq) [2,3]) Qasx
def Qalv:SC:=.seq (sR [fJ 15 0 3,lJ 16 15,mJ 6 16] [2,3,4,5,6] (bL 0 Qalz)) Qalu
def Qalw:SC:=sR [fI 14 (.bsl 4 []),mJ 5 14] [2,3,4,5] Qalv
def Qalx:SC:=sR (tJ 9 3 3::aJ 10 Qrf [.t 9]::Qxo) [2,3,4] Qalw
def Qaly:SC:=sR (tJ 7 3 1::aJ 8 Qrb [.t 7]::Qxn) [2,3] Qalx
def Qa6r:SC:=sR [vJ 1 0,eI 2 (.alloc [.int .i64 0,.int .i64 0,.sl true 5 []])] [1,2] Qaly
def Qaim:List RS:=[.cell 2 3 true]
theorem Qa50:mFn prog Qt4 1 45 Qa6r Qaim=true:=by kernel_rfl
def Q24:List Item:=[sJ 3 3 14]
def Q25:List Item:=eI 3 (.alloc [.int .i64 0,.int .i64 0,.sl true 5 []])::Q24
def Q26:List Item:=[mJ 4 16]
def Q27:List Item:=[sJ 2 5 18]
def Q28:List Item:=eI 5 (.alloc [.sl true 1 [],.sl true 1 []])::Q27
def Q29:List Item:=[mJ 6 20]
def Qaza:SC:=cT 32 (.reg [fI 33 (.bsl 1 [kI 0]),mJ 8 33] [1,2,3,4,5,6,7,8]) .skip
def Q3a:List Item:=[mJ 8 53]
def Qazb:SC:=.reg [mJ 41 9,cJ 42 .add 41 1,mJ 9 42] [1,2,3,4,5,6,7,8,9]
def Qazc:SC:=.seq (.block 3 (.reg (mJ 43 8::mJ 44 6::mJ 45 7::iJ 46 1 44 45::lJ 47 46::mJ 48 9::iJ 49 1 47 48::lJ 50 49::fI 51 (.iad 1 (.t 50) (kI 0))::lJ 52 51::aJ 53 Qee [.t 43,.t 52]::Q3a) [1,2,3,4,5,6,7,8,9])) Qazb
def Qal0:SC:=.seq (sR [mJ 34 9,mJ 35 6,mJ 36 7,iJ 37 1 35 36,lJ 38 37,nJ 39 38,bJ 40 .lss 34 39] [1,2,3,4,5,6,7,8,9,40] (cT 40 .skip (.exit 2))) Qazc
def Qxz:List Item:=[mJ 10 57]
def Qx0:List Item:=[sJ 2 12 78]
def Qx1:List Item:=[nJ 85 84]
def Qx2:List Item:=[fJ 93 1 12,sJ 1 93 92]
def Qasy:SC:=.reg [cJ 94 .add 86 1,mJ 86 94] [1,2,3,4,5,6,7,10,11,12,85,86]
def Qasz:SC:=.seq (.block 7 (.reg (fJ 88 1 12::lJ 89 88::mJ 90 7::fI 91 (.bsl 1 [.t 90])::xJ 92 1 89 91::Qx2) [1,2,3,4,5,6,7,10,11,12,85,86])) Qasy
def Qal1:SC:=sR [bJ 87 .lss 86 85] [1,2,3,4,5,6,7,10,11,12,85,86,87] (cX 87 6 Qasz)
def Qx3:List Item:=[hJ 96 95,.chk 99 none (.iad 1 (.t 97) (.t 98)),hJ 100 99,iJ 113 5 96 100,fJ 114 0 113,sJ 1 114 112]
def Qx4:List Item:=hJ 96 95::.chk 99 none (.iad 1 (.t 97) (.t 98))::hJ 100 99::hJ 104 103::.chk 107 none (.iad 1 (.t 105) (.t 106))::hJ 108 107::.chk 109 none (.iad 5 (.t 104) (.t 108))::hJ 111 110::xJ 112 2 102 111::Qx3
def Qas0:SC:=.dreg 21 [0,1,2,3,4,5,6,8,9,10,11,12,13,14,15,16,7,1,4,5,9,12,13,14,16,17,1,4,5,18,19,20] ( fJ 95 2 3::lJ 96 95::mJ 97 10::mJ 98 11::iJ 99 1 97 98::lJ 100 99::tJ 101 2 12::fJ 103 2 3::lJ 104 103::mJ 105 10::mJ 106 11::iJ 107 1 105 106::lJ 108 107::iJ 109 5 104 108::fJ 110 0 109::lJ 111 110::eI 102 (.bslm 2 [.t 101])::Qx4) [1,2,3,4,5,6,7,10,11]
def Qas1:SC:=.seq (.seq (.dreg 8 [0,1,2,3,4,7,5,6] ( tJ 79 3 1::mJ 80 10::mJ 81 11::iJ 82 1 80 81::lJ 83 82::zJ 86 0::aJ 84 Qcd [.t 79,.t 83]::Qx1) [1,2,3,4,5,6,7,10,11,12,85,86]) (bL 6 Qal1)) Qas0
def Qas2:SC:=sR (mJ 76 7::fI 77 (.bsl 1 [])::fI 78 (.bld [.int .i64 0,.sl true 1 []] [(0,1,.t 76),(1,1,.t 77)])::eI 12 (.alloc [.int .i64 0,.sl true 1 []])::Qx0) [1,2,3,4,5,6,7,10,11,12] Qas1
def Qas3:SC:=.reg [mJ 62 11,cJ 63 .add 62 1,mJ 11 63] [1,2,3,4,5,6,7,10,11]
def Qas4:SC:=.seq (.block 5 (.seq (.seq (.dreg 12 [0,1,2,3,4,5,6,7,8,9,10,11] ( fJ 64 0 5::lJ 65 64::mJ 66 10::mJ 67 11::iJ 68 1 66 67::lJ 69 68::iJ 70 1 65 69::lJ 71 70::mJ 72 7::iJ 73 1 71 72::lJ 74 73::oJ 75 74::[]) [1,2,3,4,5,6,7,10,11,75]) (cT 75 (.exit 5) .skip)) Qas2)) Qas3
def Qal2:SC:=.seq (sR [mJ 58 11,mJ 59 10,nJ 60 59,bJ 61 .lss 58 60] [1,2,3,4,5,6,7,10,11,61] (cT 61 .skip (.exit 4))) Qas4
def Qas5:SC:=sR [zJ 11 0] [1,2,3,4,5,6,7,10,11] (bL 4 Qal2)
def Qas6:SC:=sR (tJ 54 3 1::mJ 55 4::mJ 56 8::aJ 57 Qgk [.t 54,.t 55,.t 56]::Qxz) [1,2,3,4,5,6,7,10] Qas5
def Qas7:SC:=.seq (sR [zJ 9 0] [1,2,3,4,5,6,7,8,9] (bL 2 Qal0)) Qas6
def Qas8:SC:=.seq (sR [mJ 29 7,fJ 30 0 1,lJ 31 30,bJ 32 .lss 29 31] [1,2,3,4,5,6,7,8,32] Qaza) Qas7
def Qas9:SC:=.reg [mJ 26 7,cJ 27 .sub 26 1,mJ 7 27] [1,2,3,4,5,6,7]
def Qata:SC:=.seq (.block 1 (sR [fI 28 (.bsl 1 []),mJ 8 28] [1,2,3,4,5,6,7,8] Qas8)) Qas9
def Qal3:SC:=.seq (sR [mJ 24 7,cJ 25 .geq 24 0] [1,2,3,4,5,6,7,25] (cT 25 .skip (.exit 0))) Qata
def Qatb:SC:=sR [tJ 115 3 3,sJ 3 2 115] [2] .ret
def Qatc:SC:=.seq (sR [fJ 21 1 1,lJ 22 21,cJ 23 .sub 22 1,mJ 7 23] [1,2,3,4,5,6,7] (bL 0 Qal3)) Qatb
def Qatd:SC:=sR (tJ 19 3 1::aJ 20 Qze [.t 19]::Q29) [1,2,3,4,5,6] Qatc
def Qate:SC:=sR (tJ 17 3 1::aJ 18 Qrf [.t 17]::Q28) [1,2,3,4,5] Qatd
def Qatf:SC:=sR (tJ 15 3 1::aJ 16 Qre [.t 15]::Q26) [1,2,3,4] Qate
def Qatg:SC:=sR (tJ 13 3 1::aJ 14 Qi8 [.t 13]::Q25) [1,2,3] Qatf
def Qbcg:SC:=sR [vJ 1 0,eI 2 (.alloc [.int .i64 0,.int .i64 0,.sl true 5 []])] [1,2] Qatg
def Qao7:List RS:=[.cell 2 3 true]
theorem Qbax:mFn prog Qzd 1 116 Qbcg Qao7=true:=by kernel_rfl
def Qxx:SC:=sR [mJ 11 0,kJ 12 11,fJ 13 7 12,lJ 14 13,cJ 15 .sub 14 1,mJ 2 15] [2] .ret
def Qxy:SC:=sR [mJ 3 0,mJ 4 0,kJ 5 4,fJ 6 7 5,lJ 7 6,cJ 8 .add 7 1,kJ 9 3,fJ 10 7 9,sJ 1 10 8] [0] Qxx
def Q5z:SC:=sR [zJ 2 0] [0] Qxy
def Qlk:List RS:=[.tmp 2]
theorem Q4w:mFn prog Qcr 1 16 Q5z Qlk=true:=by kernel_rfl
def Qg6:List Item:=[hJ 37 36,iJ 41 2 37 38,fJ 42 0 41,sJ 1 42 40]
def Qxr:SC:=.reg [mJ 32 7,cJ 33 .add 32 1,mJ 7 33] [0,1,2,6,7]
def Qxs:SC:=.seq (.block 1 (.dreg 10 [0,1,2,3,4,5,6,3,7,8,9] ( mJ 34 6::kJ 35 34::fJ 36 0 35::lJ 37 36::mJ 38 7::mJ 39 0::aJ 40 Qcr [.t 39]::Qg6) [0,1,2,6,7])) Qxr
def Qu2:SC:=.seq (sR [mJ 25 7,mJ 26 6,kJ 27 26,fJ 28 0 27,lJ 29 28,nJ 30 29,bJ 31 .lss 25 30] [0,1,2,6,7,31] (cT 31 .skip (.exit 0))) Qxs
def Qxt:SC:=.reg [mJ 50 8,cJ 51 .add 50 1,mJ 8 51] [0,1,2,6,8]
def Qxu:SC:=.seq (.block 3 (.dreg 24 [0,1,2,3,4,5,6,7,8,9,10,11,12,13,14,15,16,17,18,19,20,21,22,23] ( mJ 52 2::mJ 53 0::kJ 54 53::fJ 55 0 54::fJ 56 2 55::lJ 57 56::mJ 58 1::iJ 59 5 57 58::fJ 60 0 59::lJ 61 60::mJ 62 8::iJ 63 2 61 62::fJ 64 0 63::lJ 65 64::mJ 66 6::kJ 67 66::fJ 68 0 67::lJ 69 68::mJ 70 8::iJ 71 2 69 70::fJ 72 0 71::lJ 73 72::iJ 74 1 52 65::sJ 1 74 73::[]) [0,1,2,6,8])) Qxt
def Qu3:SC:=.seq (sR [mJ 43 8,mJ 44 6,kJ 45 44,fJ 46 0 45,lJ 47 46,nJ 48 47,bJ 49 .lss 43 48] [0,1,2,6,8,49] (cT 49 .skip (.exit 2))) Qxu
def Qxv:SC:=.reg [mJ 95 10,cJ 96 .add 95 1,mJ 10 96] [0,1,2,6,9,10]
def Qxw:SC:=.seq (.block 7 (.dreg 25 [0,1,2,3,4,5,6,7,8,9,10,11,12,13,14,15,16,17,18,19,20,21,22,23,24] ( mJ 97 6::kJ 98 97::fJ 99 1 98::lJ 100 99::mJ 101 9::iJ 102 4 100 101::fJ 103 2 102::lJ 104 103::mJ 105 10::mJ 106 2::mJ 107 6::kJ 108 107::fJ 109 1 108::lJ 110 109::mJ 111 9::iJ 112 4 110 111::fJ 113 2 112::lJ 114 113::mJ 115 10::iJ 116 1 114 115::lJ 117 116::iJ 118 1 106 117::lJ 119 118::iJ 120 1 104 105::sJ 1 120 119::[]) [0,1,2,6,9,10])) Qxv
def Qu4:SC:=.seq (sR [mJ 84 10,mJ 85 6,kJ 86 85,fJ 87 1 86,lJ 88 87,mJ 89 9,iJ 90 4 88 89,fJ 91 2 90,lJ 92 91,nJ 93 92,bJ 94 .lss 84 93] [0,1,2,6,9,10,94] (cT 94 .skip (.exit 6))) Qxw
def Qfm:List Item:=[mJ 11 131]
def Qum:SC:=.reg [mJ 143 6,kJ 144 143,fJ 145 1 144,lJ 146 145,mJ 147 9,mJ 148 11,iJ 149 4 146 147,fJ 150 1 149,sJ 1 150 148] [0,1,2,6,9]
def Qun:SC:=sR [mJ 132 2,mJ 133 6,kJ 134 133,fJ 135 1 134,lJ 136 135,mJ 137 9,iJ 138 4 136 137,fJ 139 1 138,lJ 140 139,mJ 141 11,iJ 142 1 132 140,sJ 1 142 141] [0,1,2,6,9,11] Qum
def Quo:SC:=cT 129 (sR (mJ 130 0::aJ 131 Qcr [.t 130]::Qfm) [0,1,2,6,9,11] Qun) .skip
def Qup:SC:=sR [mJ 121 6,kJ 122 121,fJ 123 1 122,lJ 124 123,mJ 125 9,iJ 126 4 124 125,fJ 127 0 126,lJ 128 127,aJ 129 Qef [.t 128]] [0,1,2,6,9,129] Quo
def Quq:SC:=.reg [mJ 82 9,cJ 83 .add 82 1,mJ 9 83] [0,1,2,6,9]
def Qur:SC:=.seq (.block 5 (.seq (sR [zJ 10 0] [0,1,2,6,9,10] (bL 6 Qu4)) Qup)) Quq
def Qr1:SC:=.seq (sR [mJ 75 9,mJ 76 6,kJ 77 76,fJ 78 1 77,lJ 79 78,nJ 80 79,bJ 81 .lss 75 80] [0,1,2,6,9,81] (cT 81 .skip (.exit 4))) Qur
def Qus:SC:=cT 155 (.reg [mJ 156 6,mJ 157 2,mJ 158 6,kJ 159 158,fJ 160 3 159,lJ 161 160,iJ 162 1 157 161,lJ 163 162,kJ 164 156,fJ 165 3 164,sJ 1 165 163] [0,1,2,6]) .skip
def Qfn:List Item:=[mJ 14 189]
def Qfo:List Item:=mJ 188 1::aJ 189 Qra [.t 187,.t 188]::Qfn
def Qut:SC:=.reg [mJ 202 15,cJ 203 .add 202 1,mJ 15 203] [0,1,2,6,12,13,14,15]
def Quu:SC:=.seq (.block 11 (.dreg 35 [0,1,2,3,4,5,6,7,8,9,10,11,12,13,14,15,16,17,18,19,20,21,22,23,24,25,26,27,28,29,30,31,32,33,34] ( mJ 204 0::kJ 205 204::fJ 206 3 205::fJ 207 2 206::lJ 208 207::mJ 209 13::iJ 210 5 208 209::fJ 211 0 210::lJ 212 211::mJ 213 15::iJ 214 2 212 213::fJ 215 1 214::lJ 216 215::mJ 217 14::mJ 218 2::mJ 219 0::kJ 220 219::fJ 221 0 220::fJ 222 2 221::lJ 223 222::mJ 224 13::iJ 225 5 223 224::fJ 226 0 225::lJ 227 226::mJ 228 15::iJ 229 2 227 228::fJ 230 1 229::lJ 231 230::mJ 232 14::iJ 233 1 231 232::lJ 234 233::iJ 235 1 218 234::lJ 236 235::iJ 237 1 216 217::sJ 1 237 236::[]) [0,1,2,6,12,13,14,15])) Qut
def Qr2:SC:=.seq (sR [mJ 190 15,mJ 191 0,kJ 192 191,fJ 193 0 192,fJ 194 2 193,lJ 195 194,mJ 196 13,iJ 197 5 195 196,fJ 198 0 197,lJ 199 198,nJ 200 199,bJ 201 .lss 190 200] [0,1,2,6,12,13,14,15,201] (cT 201 .skip (.exit 10))) Quu
def Quv:SC:=sR [zJ 15 0] [0,1,2,6,12,13,14,15] (bL 10 Qr2)
def Quw:SC:=sR (mJ 182 0::kJ 183 182::fJ 184 0 183::tJ 185 3 184::mJ 186 13::aJ 187 Qcd [.t 185,.t 186]::Qfo) [0,1,2,6,12,13,14] Quv
def Qux:SC:=.reg [mJ 173 12,cJ 174 .add 173 1,mJ 12 174] [0,1,2,6,12]
def Quy:SC:=.seq (.block 9 (sR [mJ 175 6,kJ 176 175,fJ 177 4 176,lJ 178 177,mJ 179 12,iJ 180 1 178 179,lJ 181 180,mJ 13 181] [0,1,2,6,12,13] Quw)) Qux
def Qr3:SC:=.seq (sR [mJ 166 12,mJ 167 6,kJ 168 167,fJ 169 4 168,lJ 170 169,nJ 171 170,bJ 172 .lss 166 171] [0,1,2,6,12,172] (cT 172 .skip (.exit 8))) Quy
def Qfp:List Item:=[mJ 16 243]
def Qfq:List Item:=[.chk 253 none (.iad 1 (.t 251) (.t 252)),hJ 254 253,aJ 258 Qcq [.t 250,.t 254,.t 257]]
def Quz:SC:=.reg [mJ 248 17,cJ 249 .add 248 1,mJ 17 249] [0,2,16,17]
def Qu0:SC:=.seq (.block 13 (.dreg 9 [0,1,2,3,4,5,6,7,3,4,8] ( mJ 250 0::mJ 251 16::mJ 252 17::iJ 253 1 251 252::lJ 254 253::fI 255 (.bsl 1 [])::mJ 256 2::xJ 257 1 255 256::Qfq) [0,2,16,17])) Quz
def Qr4:SC:=.seq (sR [mJ 244 17,mJ 245 16,nJ 246 245,bJ 247 .lss 244 246] [0,2,16,17,247] (cT 247 .skip (.exit 12))) Qu0
def Qu1:SC:=sR [zJ 17 0] [0,2,16,17] (bL 12 Qr4)
def Qg4:SC:=sR (mJ 238 0::kJ 239 238::fJ 240 6 239::lJ 241 240::mJ 242 1::aJ 243 Qy8 [.t 241,.t 242]::Qfp) [0,2,16] Qu1
def Qdc:SC:=.seq (sR [zJ 12 0] [0,1,2,6,12] (bL 8 Qr3)) Qg4
def Qdd:SC:=.seq (sR [mJ 151 6,kJ 152 151,fJ 153 2 152,lJ 154 153,cJ 155 .neq 154 1] [0,1,2,6,155] Qus) Qdc
def Qde:SC:=.seq (sR [zJ 9 0] [0,1,2,6,9] (bL 4 Qr1)) Qdd
def Qdf:SC:=.seq (sR [zJ 8 0] [0,1,2,6,8] (bL 2 Qu3)) Qde
def Qg5:SC:=.seq (sR [zJ 7 0] [0,1,2,6,7] (bL 0 Qu2)) Qdf
def Q5y:SC:=sR [mJ 18 0,kJ 19 18,fJ 20 3 19,fJ 21 2 20,lJ 22 21,mJ 23 1,iJ 24 5 22 23,mJ 6 24] [0,1,2,6] Qg5
def Qlj:List RS:=[]
theorem Q4v:mFn prog Qcq 3 259 Q5y Qlj=true:=by kernel_rfl
def Qs5:List Item:=[sJ 3 3 9]
def Qs6:List Item:=eI 3 (.alloc [.int .i64 0,.int .i64 0,.sl true 5 []])::Qs5
def Qs7:List Item:=aJ 9 Qzd [.t 8]::Qs6
def Qs8:List Item:=[mJ 4 19]
def Qs9:List Item:=.chk 10 none (.ld 3 true (.t 3))::hJ 17 16::fI 18 (.bld [.int .i64 0,.int .i64 0,.sl true 5 [],.int .i64 0,.int .i64 0,.sl true 5 [],.sl true 1 [],.int .i64 0] [(0,3,.t 10),(3,3,.t 12),(6,1,.t 15),(7,1,.t 17)])::eI 19 (.boxm (.t 18))::Qs8
def Qta:List Item:=.chk 10 none (.ld 3 true (.t 3))::hJ 17 16::aJ 15 Qt3 [.t 14]::Qs9
def Qtb:List Item:=.chk 10 none (.ld 3 true (.t 3))::.chk 13 none (.ld 3 true (.t 3))::hJ 17 16::aJ 14 Qre [.t 13]::Qta
def Qtc:List Item:=[mJ 5 22]
def Qal6:SC:=.reg [mJ 27 6,cJ 28 .add 27 1,mJ 6 28] [1,2,4,5,6]
def Qal7:SC:=.seq (.block 1 (.reg [mJ 29 5,mJ 30 6,mJ 31 6,iJ 32 1 29 30,sJ 1 32 31] [1,2,4,5,6])) Qal6
def Q9z:SC:=.seq (sR [mJ 23 6,fJ 24 0 1,lJ 25 24,bJ 26 .lss 23 25] [1,2,4,5,6,26] (cT 26 .skip (.exit 0))) Qal7
def Qaf7:SC:=sR [mJ 44 4,kJ 45 44,fJ 46 3 45,tJ 47 3 46,sJ 3 2 47] [2] .ret
def Qaf8:SC:=sR [mJ 36 4,mJ 37 4,kJ 38 37,fJ 39 7 38,lJ 40 39,kJ 41 36,fJ 42 3 41,fJ 43 1 42,sJ 1 43 40] [2,4] Qaf7
def Qaf9:SC:=sR [mJ 33 4,mJ 34 5,aJ 35 Qcq [.t 33,kI 0,.t 34]] [2,4] Qaf8
def Qaga:SC:=.seq (sR [zJ 6 0] [1,2,4,5,6] (bL 0 Q9z)) Qaf9
def Qagb:SC:=sR (fJ 20 1 3::lJ 21 20::eI 22 (.mks 1 [.int .i64 0] (.t 21))::Qtc) [1,2,4,5] Qaga
def Qagc:SC:=.seq (.dreg 11 [0,1,3,6,7,2,0,3,7,4,0,7,5,0,7,8,9,10] ( tJ 10 3 3::tJ 11 3 3::tJ 13 3 3::fJ 16 0 1::lJ 17 16::aJ 12 Qi8 [.t 11]::Qtb) [1,2,3,4]) Qagb
def Qagd:SC:=sR (tJ 7 3 1::aJ 8 Qt4 [.t 7]::Qs7) [1,2,3] Qagc
def Qazi:SC:=sR [vJ 1 0,eI 2 (.alloc [.int .i64 0,.int .i64 0,.sl true 5 []])] [1,2] Qagd
def Q8x:List RS:=[.cell 2 3 true]
theorem Qawx:mFn prog Qn6 1 48 Qazi Q8x=true:=by kernel_rfl
def Qaq3:List Item:=[sJ 3 4 9]
def Qaq4:List Item:=[sJ 3 4 15]
def Qaq5:List Item:=.chk 12 none (.ld 3 true (.t 2))::aJ 15 Qrc [.t 12,.t 14]::Qaq4
def Qaq6:List Item:=[sJ 3 4 19]
def Qaq7:List Item:=[sJ 3 4 23]
def Q2c:List Item:=[sJ 3 4 27]
def Qaq8:List Item:=[sJ 3 4 31]
def Qaq9:List Item:=[sJ 3 4 35]
def Qara:List Item:=[sJ 3 4 39]
def Qarb:List Item:=[sJ 3 4 43]
def Qak7:List Item:=[sJ 3 4 47]
def Qak8:List Item:=[sJ 3 4 51]
def Qaqp:SC:=cT 48 (sR (tJ 50 3 2::aJ 51 Qa5i [.t 50]::Qak8) [4] .ret) .skip
def Qaqq:SC:=cT 44 (sR (tJ 46 3 2::aJ 47 Qa5j [.t 46]::Qak7) [4] .ret) (sR [fI 49 (.bin 0 .eql (.t 5) (.k (.c (.str [106,111,105,110])))),mJ 48 49] [2,4,48] Qaqp)
def Qaqr:SC:=cT 40 (sR (tJ 42 3 2::aJ 43 Qa5h [.t 42]::Qarb) [4] .ret) (sR [fI 45 (.bin 0 .eql (.t 5) (.k (.c (.str [115,107,105,112])))),mJ 44 45] [2,4,5,44] Qaqq)
def Qaqs:SC:=cT 36 (sR (tJ 38 3 2::aJ 39 Qawb [.t 38]::Qara) [4] .ret) (sR [fI 41 (.bin 0 .eql (.t 5) (.k (.c (.str [101,118,101,110])))),mJ 40 41] [2,4,5,40] Qaqr)
def Qaqt:SC:=cT 32 (sR (tJ 34 3 2::aJ 35 Qawa [.t 34]::Qaq9) [4] .ret) (sR [fI 37 (.bin 0 .eql (.t 5) (.k (.c (.str [104,111,105,115,116])))),mJ 36 37] [2,4,5,36] Qaqs)
def Qaqu:SC:=cT 28 (sR (tJ 30 3 2::aJ 31 Qa9g [.t 30]::Qaq8) [4] .ret) (sR [fI 33 (.bin 0 .eql (.t 5) (.k (.c (.str [115,104,97,114,101])))),mJ 32 33] [2,4,5,32] Qaqt)
def Qaqv:SC:=cT 24 (sR (tJ 26 3 2::aJ 27 Qn6 [.t 26]::Q2c) [4] .ret) (sR [fI 29 (.bin 0 .eql (.t 5) (.k (.c (.str [107,110,111,119,110])))),mJ 28 29] [2,4,5,28] Qaqu)
def Qaqw:SC:=cT 20 (sR (tJ 22 3 2::aJ 23 Qa5g [.t 22]::Qaq7) [4] .ret) (sR [fI 25 (.bin 0 .eql (.t 5) (.k (.c (.str [115,105,110,103,108,101])))),mJ 24 25] [2,4,5,24] Qaqv)
def Qaqx:SC:=cT 16 (sR (tJ 18 3 2::aJ 19 Qav9 [.t 18]::Qaq6) [4] .ret) (sR [fI 21 (.bin 0 .eql (.t 5) (.k (.c (.str [105,100,108,101])))),mJ 20 21] [2,4,5,20] Qaqw)
def Qaqy:SC:=cT 10 (.seq (.dreg 5 [0,1,2,0,3,4] ( tJ 12 3 2::tJ 13 3 2::aJ 14 Qko [.t 13]::Qaq5) [4]) .ret) (sR [fI 17 (.bin 0 .eql (.t 5) (.k (.c (.str [115,112,108,105,116])))),mJ 16 17] [2,4,5,16] Qaqx)
def Qaqz:SC:=cT 6 (sR (tJ 8 3 2::aJ 9 Qrb [.t 8]::Qaq3) [4] .ret) (sR [fI 11 (.bin 0 .eql (.t 5) (.k (.c (.str [111,114,100,101,114])))),mJ 10 11] [2,4,5,10] Qaqy)
def Qaq0:SC:=.block 0 (sR [fI 7 (.bin 0 .eql (.t 5) (.k (.c (.str [114,101,97,99,104])))),mJ 6 7] [2,4,5,6] Qaqz)
def Qak9:List Item:=[sJ 3 4 53]
def Qaq1:SC:=sR (tJ 52 3 2::aJ 53 Qawc [.t 52]::Qak9) [4] .ret
def Qaq2:SC:=.seq (sR [mJ 5 1] [2,4,5] Qaq0) Qaq1
def Qbb7:SC:=sR [vJ 2 0,eI 4 (.alloc [.int .i64 0,.int .i64 0,.sl true 5 []])] [1,2,4] Qaq2
def Qao1:List RS:=[.cell 4 3 true]
theorem Qbao:mFn prog Qy7 2 54 Qbb7 Qao1=true:=by kernel_rfl
def Q1z:List Item:=[fB 5 false]
def Q10:List Item:=[oJ 10 9]
def Q11:List Item:=[fB 5 false]
def Qaxu:SC:=cT 10 (sR (fI 11 (.bld [.sl true 3 []] [])::sJ 1 4 11::Q11) [4,5] .ret) .skip
def Q12:List Item:=[sJ 1 6 12]
def Q13:List Item:=[fJ 31 0 6,sJ 1 31 30]
def Q14:List Item:=hJ 21 20::fI 29 (.bsl 3 [.t 28])::xJ 30 3 21 29::Q13
def Qaxv:SC:=.reg [mJ 18 7,cJ 19 .add 18 1,mJ 7 19] [1,2,4,6,7]
def Qaxw:SC:=.seq (.block 1 (.dreg 13 [0,1,2,3,4,5,6,7,8,1,9,10,11,12] ( fJ 20 0 6::lJ 21 20::fJ 22 0 2::lJ 23 22::mJ 24 7::iJ 25 3 23 24::tJ 26 3 25::mJ 27 1::aJ 28 Qy7 [.t 26,.t 27]::Q14) [1,2,4,6,7])) Qaxv
def Qaps:SC:=.seq (sR [mJ 13 7,fJ 14 0 2,lJ 15 14,nJ 16 15,bJ 17 .lss 13 16] [1,2,4,6,7,17] (cT 17 .skip (.exit 0))) Qaxw
def Qw5:List Item:=[oJ 34 33]
def Qw6:List Item:=[fB 5 false]
def Qapm:SC:=cT 34 (sR (fI 35 (.bld [.sl true 3 []] [])::sJ 1 4 35::Qw6) [4,5] .ret) .skip
def Qw7:List Item:=[fB 5 true]
def Qapn:SC:=sR (tJ 36 1 6::sJ 1 4 36::Qw7) [4,5] .ret
def Qapo:SC:=.seq .gh (.seq (sR (tJ 32 1 6::aJ 33 Qbd [.t 32]::Qw5) [4,6,34] Qapm) Qapn)
def Qapp:SC:=.seq (sR [zJ 7 0] [1,2,4,6,7] (bL 0 Qaps)) Qapo
def Qapq:SC:=sR (fI 12 (.bld [.sl true 3 []] [])::eI 6 (.alloc [.sl true 3 []])::Q12) [1,2,4,6] Qapp
def Qapr:SC:=.seq (sR (tJ 8 1 2::aJ 9 Qbd [.t 8]::Q10) [1,2,4,10] Qaxu) Qapq
def Qbb4:SC:=sR (vJ 2 0::eI 4 (.alloc [.sl true 3 []])::Q1z) [1,2,4] Qapr
def Qwb:List RS:=[.cell 4 1 true,.tmp 5]
theorem Qbal:mFn prog Qy5 2 37 Qbb4 Qwb=true:=by kernel_rfl
def Qid:List Item:=[fB 3 false]
def Qie:List Item:=[mJ 3 7]
def Qif:List Item:=fI 6 (.ext (.t 5) 0)::fI 7 (.ext (.t 5) 1)::sJ 1 2 6::Qie
def Q01:SC:=sR (tJ 4 1 1::eI 5 (.call Qy5 [.t 4,.k (.c (.str [115,105,110,103,108,101]))])::Qif) [2,3] .ret
def Qad8:SC:=sR (vJ 1 0::eI 2 (.alloc [.sl true 3 []])::Qid) [1,2] Q01
def Qon:List RS:=[.cell 2 1 true,.tmp 3]
theorem Q8a:mFn prog Qfd 1 8 Qad8 Qon=true:=by kernel_rfl
def Q20:List Item:=[mJ 4 10]
def Q21:List Item:=sJ 1 3 9::Q20
def Q22:List Item:=mJ 5 8::fI 9 (.ext (.t 5) 0)::fI 10 (.ext (.t 5) 1)::eI 3 (.alloc [.sl true 3 []])::Q21
def Q23:List Item:=aJ 8 Qfd [.t 7]::Q22
def Qay6:SC:=cT 12 (sR [fI 13 (.bsl 1 []),fI 14 (.bld [.int .i64 0,.int .i64 0,.sl true 1 [],.int .i64 0] [(0,1,kI 1),(2,1,.t 13)]),fI 15 (.bsl 4 [.t 14]),fI 16 (.bld [.sl true 2 [],.sl true 4 [],.int .i64 0,.int .i64 0,.sl true 1 []] [(1,1,.t 15),(2,1,kI 3)]),fI 17 (.bsl 5 [.t 16]),fI 18 (.bld [.int .i64 0,.int .i64 0,.sl true 5 []] [(1,1,kI 1),(2,1,.t 17)]),fI 19 (.bsl 3 [.t 18]),fI 20 (.bld [.sl true 3 []] [(0,1,.t 19)]),sJ 1 2 20] [2] .ret) .skip
def Qay7:SC:=sR [tJ 21 1 3,sJ 1 2 21] [2] .ret
def Qay8:SC:=.seq (sR [mJ 11 4,oJ 12 11] [2,3,12] Qay6) Qay7
def Qay9:SC:=sR (mJ 6 0::aJ 7 Qrd [.t 6]::Q23) [2,3,4] Qay8
def Qbcf:SC:=sR [eI 2 (.alloc [.sl true 3 []])] [0,2] Qay9
def Q8w:List RS:=[.cell 2 1 true]
theorem Qbaw:mFn prog Qzc 1 22 Qbcf Q8w=true:=by kernel_rfl
def Q2x:List Item:=[cJ 5 .eql 4 0]
def Q2y:List Item:=[sJ 1 2 7]
def Qay3:SC:=cT 5 (sR (mJ 6 0::aJ 7 Qi5 [.t 6]::Q2y) [2] .ret) .skip
def Q2z:List Item:=[sJ 1 2 9]
def Qay4:SC:=sR (mJ 8 0::aJ 9 Qzc [.t 8]::Q2z) [2] .ret
def Qay5:SC:=.seq (sR (mJ 3 0::aJ 4 Qn [.t 3,kI 8]::Q2x) [0,2,5] Qay3) Qay4
def Qbce:SC:=sR [eI 2 (.alloc [.sl true 3 []])] [0,2] Qay5
def Q8v:List RS:=[.cell 2 1 true]
theorem Qbav:mFn prog Qzb 1 10 Qbce Q8v=true:=by kernel_rfl
def Qtd:List Item:=[cJ 5 .eql 4 0]
def Qte:List Item:=[sJ 1 2 7]
def Qal8:SC:=cT 5 (sR (mJ 6 0::aJ 7 Qzb [.t 6]::Qte) [2] .ret) .skip
def Qtf:List Item:=[sJ 1 2 9]
def Qal9:SC:=sR (mJ 8 0::aJ 9 Qi5 [.t 8]::Qtf) [2] .ret
def Qama:SC:=.seq (sR (mJ 3 0::aJ 4 Qn [.t 3,kI 3]::Qtd) [0,2,5] Qal8) Qal9
def Qazj:SC:=sR [eI 2 (.alloc [.sl true 3 []])] [0,2] Qama
def Qub:List RS:=[.cell 2 1 true]
theorem Qawy:mFn prog Qn7 1 10 Qazj Qub=true:=by kernel_rfl
def Qia:List Item:=[oJ 13 12]
def Q0u:SC:=cT 13 (sR [mJ 14 5,mJ 4 14] [4] .ret) .skip
def Qib:List Item:=[sJ 3 6 19]
def Qic:List Item:=[mJ 5 54]
def Q0v:SC:=cT 48 (.reg (mJ 49 5::mJ 50 7::mJ 51 8::fI 52 (.bsl 1 [.t 50,.t 51])::fI 53 (.bsl 1 [.t 52])::xJ 54 1 49 53::Qic) [5,6,7,8]) .skip
def Q0w:SC:=.reg [mJ 36 8,cJ 37 .add 36 1,mJ 8 37] [5,6,7,8]
def Q0x:SC:=.seq (.block 3 (sR [fJ 38 2 6,lJ 39 38,mJ 40 7,iJ 41 5 39 40,fJ 42 1 41,lJ 43 42,mJ 44 8,iJ 45 4 43 44,fJ 46 0 45,lJ 47 46,cJ 48 .eql 47 14] [5,6,7,8,48] Q0v)) Q0w
def Qyn:SC:=.seq (sR [mJ 27 8,fJ 28 2 6,lJ 29 28,mJ 30 7,iJ 31 5 29 30,fJ 32 1 31,lJ 33 32,nJ 34 33,bJ 35 .lss 27 34] [5,6,7,8,35] (cT 35 .skip (.exit 2))) Q0x
def Q0y:SC:=.reg [mJ 25 7,cJ 26 .add 25 1,mJ 7 26] [5,6,7]
def Q0z:SC:=.seq (.block 1 (sR [zJ 8 0] [5,6,7,8] (bL 2 Qyn))) Q0y
def Qve:SC:=.seq (sR [mJ 20 7,fJ 21 2 6,lJ 22 21,nJ 23 22,bJ 24 .lss 20 23] [5,6,7,24] (cT 24 .skip (.exit 0))) Q0z
def Qyi:SC:=sR [mJ 55 5,mJ 4 55] [4] .ret
def Qyj:SC:=.seq (sR [zJ 7 0] [5,6,7] (bL 0 Qve)) Qyi
def Qyk:SC:=sR (fJ 15 0 2::lJ 16 15::mJ 17 1::iJ 18 3 16 17::tJ 19 3 18::eI 6 (.alloc [.int .i64 0,.int .i64 0,.sl true 5 []])::Qib) [5,6] Qyj
def Qyl:SC:=.seq (sR (tJ 10 1 2::mJ 11 1::aJ 12 Q7m [.t 10,.t 11]::Qia) [1,2,5,13] Q0u) Qyk
def Qym:SC:=sR [fI 9 (.bsl 1 []),mJ 5 9] [1,2,5] Qyl
def Qad6:SC:=sR [vJ 2 0,fI 4 (.mv (.k (.c (.sl true 1 []))))] [1,2] Qym
def Qgx:List RS:=[.tmp 4]
theorem Q79:mFn prog Qc9 2 56 Qad6 Qgx=true:=by kernel_rfl
def Q3f:List Item:=[sJ 1 3 7]
def Q3g:List Item:=eI 3 (.alloc [.sl true 3 []])::Q3f
def Qo0:List Item:=[gT 19 12 (.len (.t 18)),gT 20 12 (.bin 0 .gtr (.t 19) (kI 0)),pF 21 12 20]
def Qazk:SC:=cT 21 (sR [tJ 22 1 3,sJ 1 2 22] [2] .ret) .skip
def Qazl:SC:=sR (fJ 8 0 3::lJ 9 8::nJ 10 9::cJ 11 .gtr 10 1::mJ 12 11::gT 13 12 (.ld 1 true (.t 3))::gTf 14 12 0 3::gTl 15 12 14::gT 16 12 (.len (.t 15))::gT 17 12 (.bin 0 .sub (.t 16) (kI 1))::.e (some 18) (some (12,true)) (.call Qc9 [.t 13,.t 17])::Qo0) [0,2,3,4,21] Qazk
def Qazm:SC:=.reg [cJ 23 .add 4 1,mJ 4 23] [0,2,4]
def Qazn:SC:=.seq (.block 1 (sR (mJ 6 0::aJ 7 Qn7 [.t 6]::Q3g) [0,2,3,4] Qazl)) Qazm
def Qatr:SC:=sR [cJ 5 .lss 4 4] [0,2,4,5] (cX 5 0 Qazn)
def Q3h:List Item:=[sJ 1 2 25]
def Qazo:SC:=sR (mJ 24 0::aJ 25 Qi5 [.t 24]::Q3h) [2] .ret
def Qatq:SC:=.seq (sR [zJ 4 0] [0,2,4] (bL 0 Qatr)) Qazo
def Qbci:SC:=sR [eI 2 (.alloc [.sl true 3 []])] [0,2] Qatq
def Q8y:List RS:=[.cell 2 1 true]
theorem Qbaz:mFn prog Qzf 1 26 Qbci Q8y=true:=by kernel_rfl
def Qh2:List Item:=[oJ 8 7]
def Qzx:SC:=cT 8 (sR [fI 4 (.mv (.k (.c (.sl true 1 []))))] [4] .ret) .skip
def Qh3:List Item:=[mJ 4 14]
def Qzy:SC:=sR (fJ 9 0 2::lJ 10 9::mJ 11 1::iJ 12 3 10 11::tJ 13 3 12::aJ 14 Qc7 [.t 13]::Qh3) [4] .ret
def Qzz:SC:=.seq (sR (tJ 5 1 2::mJ 6 1::aJ 7 Qn1 [.t 5,.t 6]::Qh2) [1,2,8] Qzx) Qzy
def Q9c:SC:=sR [vJ 2 0,fI 4 (.mv (.k (.c (.sl true 1 []))))] [1,2] Qzz
def Qgs:List RS:=[.tmp 4]
theorem Q76:mFn prog Qfc 2 15 Q9c Qgs=true:=by kernel_rfl
def Qh4:List Item:=[mJ 4 13,sJ 5 5 15]
def Qh5:List Item:=[mJ 6 21,sJ 4 7 23]
def Qh6:List Item:=[mJ 3 32]
def Qz4:SC:=cT 26 (.reg (mJ 27 3::mJ 28 4::mJ 29 6::fI 30 (.bsl 1 [.t 28,.t 29])::fI 31 (.bsl 1 [.t 30])::xJ 32 1 27 31::Qh6) [3,4,9,10,11,17,18,19]) .skip
def Qz5:SC:=sR [fJ 24 0 7,lJ 25 24,cJ 26 .eql 25 14] [3,4,6,9,10,11,17,18,19,26] Qz4
def Qz6:SC:=.reg [cJ 33 .add 19 1,mJ 19 33] [3,4,9,10,11,17,18,19]
def Qz7:SC:=.seq (.block 3 (sR (mJ 21 19::iJ 22 4 17 19::tJ 23 4 22::eI 7 (.alloc [.int .i64 0,.int .i64 0,.sl true 1 [],.int .i64 0])::Qh5) [3,4,6,7,9,10,11,17,18,19] Qz5)) Qz6
def Qww:SC:=sR [bJ 20 .lss 19 18] [3,4,9,10,11,17,18,19,20] (cX 20 2 Qz7)
def Qz8:SC:=sR [fJ 16 1 5,lJ 17 16,nJ 18 17,zJ 19 0] [3,4,9,10,11,17,18,19] (bL 2 Qww)
def Qz9:SC:=.reg [cJ 34 .add 11 1,mJ 11 34] [3,9,10,11]
def Qws:SC:=.seq (.block 1 (sR (mJ 13 11::iJ 14 5 9 11::tJ 15 5 14::eI 5 (.alloc [.sl true 2 [],.sl true 4 [],.int .i64 0,.int .i64 0,.sl true 1 []])::Qh4) [3,4,5,9,10,11] Qz8)) Qz9
def Qui:SC:=sR [bJ 12 .lss 11 10] [3,9,10,11,12] (cX 12 0 Qws)
def Qwt:SC:=sR [mJ 35 3,mJ 2 35] [2] .ret
def Qwu:SC:=.seq (sR [fJ 8 2 1,lJ 9 8,nJ 10 9,zJ 11 0] [3,9,10,11] (bL 0 Qui)) Qwt
def Qwv:SC:=sR [fI 3 (.mv (.k (.c (.sl true 1 []))))] [1,3] Qwu
def Q9h:SC:=sR [vJ 1 0,fI 2 (.mv (.k (.c (.sl true 1 []))))] [1] Qwv
def Qok:List RS:=[.tmp 2]
theorem Q77:mFn prog Qc7 1 36 Q9h Qok=true:=by kernel_rfl
end Go.AE.Y

namespace Go.AE.Y
attribute [local instance] Classical.propDecidable
variable {g:Nat→List Nat}{n:Nat}
theorem Qa32 {a b:Nat}:Qvs g a b=true↔Qi3 g (-1) a=true∧Qi3 g (-1) b=true∧¬Rch g (fun z=>(z:Int)=a) 0 b:=by
 simp only[Qvs,Bool.and_eq_true,Bool.not_eq_true',and_assoc]
 refine and_congr_right fun _=>and_congr_right fun _=>?_
 rw[←Bool.not_eq_true,rchB_iff]
theorem Rch.via {A:Nat→Prop}{a b:Nat}(h:Rch g A 0 b)(hn:¬Rch g (fun z=>(z:Int)=a) 0 b):Rch g A 0 a:=by
 induction h with
 |refl h=>
  by_cases ha:0=a
  ·subst ha;exact .refl h
  ·exact absurd (Rch.refl fun hh=>ha (by omega)) hn
 |@step y z h1 h2 h3 ih=>
  by_cases hy:Rch g (fun z=>(z:Int)=a) 0 y
  ·by_cases ha:z=a
   ·subst ha;exact .step h1 h2 h3
   ·exact absurd (Rch.step hy h2 fun hh=>ha (by omega)) hn
  ·exact ih hy
theorem Qa5a {x a b:Nat}(h1:Qvs g x a=true)(h2:Qvs g a b=true):Qvs g x b=true:=by
 rw[Qa32]at *
 exact⟨h1.1,h2.2.1,fun h=>h1.2.2 (h.via h2.2.2)⟩
theorem Rch.two {A:Nat→Prop}{a b z:Nat}(hab:a≠b)(h:Rch g A 0 z):Rch g (fun w=>w=a∨w=b) 0 z∨Rch g (fun w=>(w:Int)=b) 0 a∨Rch g (fun w=>(w:Int)=a) 0 b:=by
 induction h with
 |refl _=>
  by_cases ha:0=a
  ·subst ha;exact .inr (.inl (.refl fun hh=>hab (by omega)))
  ·by_cases hb:0=b
   ·subst hb;exact .inr (.inr (.refl fun hh=>hab (by omega)))
   ·exact .inl (.refl fun hh=>hh.elim ha hb)
 |@step y z h1 h2 h3 ih=>
  rcases ih with h|h
  ·by_cases ha:z=a
   ·subst ha
    exact .inr (.inl (.step (h.mono fun w hw=>.inr (by omega)) h2 fun hh=>hab (by omega)))
   ·by_cases hb:z=b
    ·subst hb
     exact .inr (.inr (.step (h.mono fun w hw=>.inl (by omega)) h2 fun hh=>hab (by omega)))
    ·exact .inl (.step h h2 fun hh=>hh.elim ha hb)
  ·exact .inr h
theorem Qa84 {a b:Nat}(h1:Qvs g a b=true)(h2:Qvs g b a=true):a=b:=by
 by_cases hab:a=b
 ·exact hab
 rw[Qa32]at *
 rcases (rchB_iff.1 h1.1).two hab with h|h|h
 ·exact absurd (.inl rfl) h.snd
 ·exact absurd h h2.2.2
 ·exact absurd h h1.2.2
noncomputable def depL (n:Nat)(g:Nat→List Nat)(b:Nat):Nat:=((List.range n).filter fun a=>Qvs g a b).length
theorem Qa9e {α:Type}{p q:α→Bool}{l:List α}(h:∀x∈l,p x=true→q x=true){y:α}(hy:y∈l)(hq:q y=true)(hp:p y=false):(l.filter p).length<(l.filter q).length:=by
 have le:∀(l:List α),(∀x∈l,p x=true→q x=true)→(l.filter p).length≤(l.filter q).length:=fun l=>by
  induction l with
  |nil=>intro _;simp
  |cons x l ih=>
   intro h
   have h1:=ih fun z hz=>h z (List.mem_cons_of_mem _ hz)
   have h2:=h x List.mem_cons_self
   cases hpx:p x with
   |false=>cases hqx:q x <;> simp[hpx,hqx] <;> omega
   |true=>have:=h2 hpx;simp[hpx,this];omega
 induction l with
 |nil=>simp at hy
 |cons x l ih=>
  have h2:=h x List.mem_cons_self
  have h3:=le l fun z hz=>h z (List.mem_cons_of_mem _ hz)
  rcases List.mem_cons.1 hy with rfl|hy
  ·simp[hq,hp];omega
  ·have h1:=ih (fun z hz=>h z (List.mem_cons_of_mem _ hz)) hy
   cases hpx:p x with
   |false=>cases hqx:q x <;> simp[hpx,hqx] <;> omega
   |true=>have:=h2 hpx;simp[hpx,this];omega
theorem Qbih {a b:Nat}(hb:b<n)(h:Qvs g a b=true)(hab:a≠b):depL n g a<depL n g b:=by
 refine Qa9e (fun x _ hx=>Qa5a hx h) (y:=b) (List.mem_range.2 hb) ?_ ?_
 ·rw[Qa86];exact (Qa85 h).2
 ·cases hc:Qvs g b a with
  |false=>rfl
  |true=>exact absurd (Qa84 h hc) hab
def Tree (n:Nat)(ids:List Int)(dp:Nat→Nat):Prop:=ids.length=n∧∀b,b<n→ids.getD b 0=-1∨∃a:Nat,ids.getD b 0=a∧a<n∧dp a<dp b
inductive Sub (ids:List Int)(b:Nat):Nat→Prop
 |refl:Sub ids b b
 |step {y x:Nat}:Sub ids b y→x<ids.length→ids.getD x 0=(y:Int)→Sub ids b x
variable {ids:List Int}{dp:Nat→Nat}
def Qrt (ids:List Int)(b:Nat):List Nat:=(List.range ids.length).filter fun i=>decide (ids.getD i 0=(b:Int))
theorem kidsL_mem {b k:Nat}:k∈Qrt ids b↔k<ids.length∧ids.getD k 0=(b:Int):=by simp[Qrt]
theorem Tree.up (t:Tree n ids dp){b k:Nat}(hk:k<ids.length)(h:ids.getD k 0=(b:Int)):b<n∧dp b<dp k:=by
 have hk':k<n:=by rw[←t.1];exact hk
 rcases t.2 k hk' with h1|⟨a,h1,h2,h3⟩
 ·omega
 ·have:a=b:=by omega
  subst this;exact⟨h2,h3⟩
theorem Sub.dep (t:Tree n ids dp){b x:Nat}(h:Sub ids b x):x=b∨dp b<dp x:=by
 induction h with
 |refl=>exact .inl rfl
 |step h1 h2 h3 ih=>
  have:=(t.up h2 h3).2
  rcases ih with rfl|ih
  ·exact .inr this
  ·exact .inr (by omega)
theorem Sub.kid {b k x:Nat}(hk:k∈Qrt ids b)(h:Sub ids k x):Sub ids b x:=by
 obtain⟨h1,h2⟩:=kidsL_mem.1 hk
 induction h with
 |refl=>exact .step .refl h1 h2
 |step _ h3 h4 ih=>exact ih.step h3 h4
theorem Sub.kid_ne (t:Tree n ids dp){b k:Nat}(hk:k∈Qrt ids b):¬Sub ids k b:=fun h=>by
 obtain⟨h1,h2⟩:=kidsL_mem.1 hk
 have:=(t.up h1 h2).2
 rcases h.dep t with rfl|h
 ·omega
 ·omega
theorem Sub.line {a b x:Nat}(h1:Sub ids a x)(h2:Sub ids b x):Sub ids a b∨Sub ids b a:=by
 induction h1 with
 |refl=>exact .inr h2
 |@step y x h3 h4 h5 ih=>
  cases h2 with
  |refl=>exact .inl (.step h3 h4 h5)
  |@step y' _ h6 h7 h8=>
   have:y=y':=by omega
   subst this;exact ih h6
theorem Sub.kids_apart (t:Tree n ids dp){b k j x:Nat}(hk:k∈Qrt ids b)(hj:j∈Qrt ids b)(h1:Sub ids k x)(h2:Sub ids j x):k=j:=by
 have one:∀{k j:Nat},k∈Qrt ids b→j∈Qrt ids b→Sub ids k j→k=j:=fun {k j} hk hj h=>by
  cases h with
  |refl=>rfl
  |@step y _ h3 h4 h5=>
   have h6:=(kidsL_mem.1 hj).2
   have:y=b:=by omega
   subst this
   exact absurd h3 (Sub.kid_ne t hk)
 rcases h1.line h2 with h|h
 ·exact one hk hj h
 ·exact (one hj hk h).symm
theorem Sub.split {b x:Nat}(h:Sub ids b x):x=b∨∃k∈Qrt ids b,Sub ids k x:=by
 induction h with
 |refl=>exact .inl rfl
 |@step y x h1 h2 h3 ih=>
  rcases ih with rfl|⟨k,hk,h⟩
  ·exact .inr ⟨x,kidsL_mem.2 ⟨h2,h3⟩,.refl⟩
  ·exact .inr ⟨k,hk,h.step h2 h3⟩
theorem Sub.lt {b x:Nat}(hb:b<ids.length)(h:Sub ids b x):x<ids.length:=by
 cases h with
 |refl=>exact hb
 |step _ h _=>exact h
def potW (n:Nat)(w:Nat→Nat)(U:Nat→Prop) [DecidablePred U]:Nat:=(((List.range n).filter fun x=>decide (U x)).map w).sum
theorem Qbgd {w:Nat→Nat}{U V:Nat→Prop}{b:Nat}(hb:b<n)(hU:U b)(hV:∀x,V x↔U x∧x≠b):potW n w V+w b=potW n w U:=by
 have key:∀m,(((List.range m).filter fun x=>decide (V x)).map w).sum+(if b<m then w b else 0)=(((List.range m).filter fun x=>decide (U x)).map w).sum:=fun m=>by
  induction m with
  |zero=>simp
  |succ m ih=>
   rw[List.range_succ,List.filter_append,List.filter_append,List.map_append,List.map_append,List.sum_append,List.sum_append]
   by_cases hm:m=b
   ·subst hm
    have h1:decide (V m)=false:=decide_eq_false fun h=>((hV m).1 h).2 rfl
    have h2:decide (U m)=true:=decide_eq_true hU
    have h3:¬m<m:=by omega
    rw[if_neg h3]at ih
    simp[h1,h2];omega
   ·have h1:decide (V m)=decide (U m):=by rw[decide_eq_decide,hV];exact⟨fun h=>h.1,fun h=>⟨h,hm⟩⟩
    have h2:(b<m+1)=(b<m):=by rw[eq_iff_iff];omega
    simp only[List.filter_cons,List.filter_nil,h1,h2]
    omega
 have:=key n
 rw[if_pos hb]at this
 exact this
theorem Qbjv {w:Nat→Nat}{U V:Nat→Prop}(h:∀x,V x→U x):potW n w V≤potW n w U:=by
 have key:∀m,(((List.range m).filter fun x=>decide (V x)).map w).sum≤(((List.range m).filter fun x=>decide (U x)).map w).sum:=fun m=>by
  induction m with
  |zero=>simp
  |succ m ih=>
   rw[List.range_succ,List.filter_append,List.filter_append,List.map_append,List.map_append,List.sum_append,List.sum_append]
   by_cases hv:V m
   ·have h1:decide (V m)=true:=decide_eq_true hv
    have h2:decide (U m)=true:=decide_eq_true (h m hv)
    simp[h1,h2];omega
   ·have h1:decide (V m)=false:=decide_eq_false hv
    simp[h1];omega
 exact key n
end Go.AE.Y

namespace Go.AE.Y
attribute [local go_sem] cond_true cond_false Bool.not_true Bool.not_false
open Go.Proofs.Tryz
variable {H H0:Heap}{K:V→Heap→Prop}{E B Lg:List (Nat×Obj)}
theorem Qawl {fl:Bool}{l:List Nat}(hl:l.length≤2 ^ 30)(hK:∀(fl':Bool) (k:List Nat) H',Upd H H' []→k.Pairwise (· < ·)→(∀x,x∈k↔x∈l)→K (.c (.sl false 1 (Q5 k))) H') :
  Qv prog Qn4 [.c (.sl fl 1 (Q5 l))] H K:=by
 refine Qz ?_
 refine Qb Qar Qawv ?_
 refine Qa ?_
 simp only[go_sem]
 refine Qa ?_
 simp only[go_sem]
 refine Q4 ?_
 refine Qa ?_
 simp only[go_sem]
 refine Qg (Qc (Qs (fun m e1 H1=>∃(i:Nat) (fl':Bool) (ns:List Int),m=l.length-i∧i≤l.length∧ns.Pairwise (· < ·)∧(∀x,x∈ns↔∃y∈l.take i,(y:Int)=x)∧ns.length≤i∧Kn H H1 [] []∧
  lk 0 e1=.c (.sl fl 1 (Q5 l))∧lk 3 e1=.c (.sl fl' 1 (Qf ns))∧lk 4 e1=.c (.int .i64 i)) l.length ?_ ?_))
 ·exact⟨0,_,[],by omega,by omega,by simp,by simp,by simp,Kn.start0 H,rfl,rfl,rfl⟩
 ·rintro m e1 H1 ⟨i,fl',ns,hm,hi,ha,hns,hnl,kn,l0,l3,l4⟩
  refine Q4 ?_
  refine Qa ?_
  simp only[go_sem,l0,l3,l4,Qw]
  intro _
  refine Qg (Qe rfl ?_ ?_)
  ·intro hc
   have hlt:i<l.length:=by simpa using hc
   have hg:l.getD i 0=l[i]:=by simp[List.getD_eq_getElem?_getD,hlt]
   refine Qh ?_
   try simp only[go_sem]
   refine Qg (Qc ?_)
   refine Qq ?_
   simp only[go_sem,hlt,Qw,Qad _ _ hlt,hg]
   refine Qrk ha (by omega) fun fl2 ns2 H2 hu ha2 hm2 hl2=>?_
   have kn:=kn.call0 hu
   simp only[go_sem,Qs1]
   refine Qq ?_
   simp only[go_sem,X.next]
   refine⟨Qo (by omega) (by omega),l.length-(i+1),by omega,i+1,fl2,ns2,rfl,by omega,ha2,fun x=>?_,by omega,kn,?_⟩
   ·rw[hm2,hns,List.take_succ_eq_append_getElem hlt]
    constructor
    ·rintro (rfl|⟨y,hy,rfl⟩)
     ·exact⟨l[i],List.mem_append_right _ (List.mem_singleton.2 rfl),rfl⟩
     ·exact⟨y,List.mem_append_left _ hy,rfl⟩
    ·rintro⟨y,hy,rfl⟩
     rcases List.mem_append.1 hy with hy|hy
     ·exact .inr ⟨y,hy,rfl⟩
     ·simp only[List.mem_singleton]at hy;rw[hy];exact .inl rfl
   ·first|exact⟨rfl,rfl,rfl⟩|exact rfl|trivial
  ·intro hc
   have hge:l.length≤i:=by simpa using hc
   rw[List.take_of_length_le hge]at hns
   have hk:ns=(ns.map Int.toNat).map Int.ofNat:=by
    rw[List.map_map]
    conv=>lhs;rw[←List.map_id ns]
    refine List.map_congr_left fun x hx=>?_
    obtain⟨y,_,rfl⟩:=(hns x).1 hx
    simp
   have hko:Qf ns=Q5 (ns.map Int.toNat):=by (conv=>lhs;rw[hk]);rfl
   refine Qr ?_
   simp only[go_sem,X.next]
   refine Qa ?_
   simp only[go_sem,l3,hko]
   refine Qj ?_
   simp only[go_sem,Q6,Qab,Q8t,List.mem_singleton,forall_eq,RS.op]
   refine⟨_,.c _ _ (FrzR.same (Qaq _)).sl,hK true (ns.map Int.toNat) _ kn.fin ?_ fun x=>?_⟩
   ·rw[hk,List.pairwise_map]at ha
    exact ha.imp fun h=>by simpa using h
   ·rw[List.mem_map]
    constructor
    ·rintro⟨v,hv,rfl⟩
     obtain⟨y,hy,rfl⟩:=(hns v).1 hv
     simpa using hy
    ·exact fun h=>⟨(x:Int),(hns _).2 ⟨x,h,rfl⟩,by simp⟩
set_option maxHeartbeats 1000000 in
theorem Qa5n {p rg:Int}{fl:Bool}{rows:List (List C)}{nx:Nat→List Int}(hg:GF rows nx)(hf:Qkj rows.length nx=true)
  (hK:∀(o:List Nat) H',Upd H H' []→o.length≤rows.length→(∀x,x∈o↔x<rows.length∧Qi3 (nxN nx) (-1) x=true)→K (.c (.sl false 1 (Q5 o))) H') :
  Qv prog Qko [.ag [.int .i64 p,.int .i64 rg,.sl fl 5 rows]] H K:=by
 have hn:=hg.n
 have hn0:=Qvv hf
 have hyb:∀(y:Nat) l a b d,C.sl fl 5 rows=.vsl l a b d→l≠y:=by intro y l a b d h;cases h
 refine Qz ?_
 refine Qb Qar Qa5w ?_
 refine Qa ?_
 simp only[go_sem]
 refine Qal ?_
 simp only[go_sem,Qa9]
 try intro _
 refine⟨by simp only[LIM];omega,fun al hal H1 h1=>?_⟩
 have kn:Kn H H1 [] ([(al,.vec 1 (Ql (List.replicate rows.length false)))]++[]):=(Kn.start0 H).al hal h1
 simp only[go_sem,Qw9]
 refine Qzo (F:=H1) hf (by omega) (hg.grd H1 fl) (hyb al) rows.length 0 (List.replicate rows.length false) [] (.sl true 1 []) [] H1 _ (by simp) (by omega) hn0 (Qav _ _) kn.mid (.nil 1) (by simp) fun S o oc Lg0 H2 hd k2 hgo=>?_
 have kn:Kn H H2 [] ([(al,.vec 1 (Ql S))]++Lg0):=by
  have:=(kn.comp k2 rfl)
  simpa using this
 have how:=hgo.isOw
 have hsz:=hgo.elemSz
 have hlen:=hgo.lenC
 rw[Qw]at hlen
 have hgl:∀x,x<(List.replicate rows.length false).length→∀y∈nxN nx x,y<(List.replicate rows.length false).length:=by
  rw[List.length_replicate];exact fun x hx y hy=>Qaov hf hx hy
 have hx0:∀x∈[0],x<(List.replicate rows.length false).length:=by rw[List.length_replicate];simpa using hn0
 have hmem:∀x,x∈o↔x<rows.length∧Qi3 (nxN nx) (-1) x=true:=fun x=>by
  rw[hd.list hgl hx0 (Qav _),Qahw hf hd,inL]
  by_cases hx:x<rows.length
  ·rw[Qer _ _ hx];simp[hx]
  ·rw[List.getD_eq_getElem?_getD,List.getElem?_eq_none (by simpa using hx)];simp[hx]
 have hol:o.length≤rows.length:=by
  have h1:=hd.count hgl hx0
  have h2:=Qa31 S
  rw[hd.len,List.length_replicate]at h2
  simp only[List.length_nil]at h1
  omega
 simp only[go_sem,Qw8,how]
 refine Qa ?_
 simp only[go_sem,how]
 refine Q4 ?_
 refine Qa ?_
 have hok0:=eq_true (hgo.get kn).1
 simp only[go_sem,how,hok0,hlen]
 try intro _
 refine⟨Qo (by omega) (by omega),?_⟩
 refine Qg (Qc (Qs (fun m e1 H1=>∃(k:Nat) (r:List Nat) (t:C) (Lg:List (Nat×Obj)),m=k∧k≤o.length∧r.length+k=o.length∧(∀x,x∈r↔x∈o.drop k)∧Gr Lg 1 (Q5 r) t∧Kn H H1 [] (([(al,.vec 1 (Ql S))]++Lg0)++Lg)∧
  lk 3 e1=.c oc∧lk 4 e1=.c t∧lk 5 e1=.c (.int .i64 ((k:Int)-1))) o.length ?_ ?_))
 ·exact⟨o.length,[],_,[],rfl,by omega,by simp,by simp,.nil 1,by simpa using kn,rfl,rfl,rfl⟩
 ·clear kn hok0
  rintro m e1 H3 ⟨k,r,t,Lg,rfl,hk,hrl,hrm,hgr,kn,l3,l4,l5⟩
  have htw:=hgr.isOw
  have hok0:=eq_true (hgo.get kn.drop).1
  have hrw:=(hgo.get kn.drop).2
  refine Q4 ?_
  refine Qa ?_
  simp only[go_sem,l3,l4,l5,htw,how]
  refine Qg (Qe rfl ?_ ?_)
  ·intro hc
   have hge:(0:Int)≤(m:Int)-1:=by simpa using hc
   obtain⟨k,rfl⟩:∃k,m=k+1:=⟨m-1,by omega⟩
   have ek:((k+1:Nat):Int)-1=(k:Int):=by omega
   have hlt:k<o.length:=by omega
   have hgd:o.getD k 0=o[k]:=by simp[List.getD_eq_getElem?_getD,hlt]
   rw[ek]
   refine Qh ?_
   try simp only[go_sem]
   refine Qg (Qc ?_)
   refine Qq ?_
   simp only[go_sem,htw,how,hok0,hlen,hsz,hrw,hlt,Qw,Qad _ _ hlt,hgd]
   refine kn.growR (new:=Q5 [o[k]]) hgr (.mk' _ _ _ _) (Qaq _) (by simp only[Qw,LIM,List.length_cons,List.length_nil];omega) fun t2 Lg2 H4 hgr2 ht2 kn=>?_
   simp only[go_sem,Qxa,how,ht2]
   refine Qq ?_
   simp only[go_sem,X.next,how,ht2]
   refine⟨Qo (by omega) (by omega),k,by omega,k,r++[o[k]],t2,Lg2,rfl,by omega,by simp only[List.length_append,List.length_cons,List.length_nil];omega,fun x=>?_,?_,kn,?_⟩
   ·rw[List.drop_eq_getElem_cons hlt]
    simp only[List.mem_append,hrm,List.mem_cons,List.not_mem_nil,or_false]
    exact or_comm
   ·rw[Qje];exact hgr2
   ·first|exact⟨rfl,rfl,rfl⟩|exact rfl|trivial
  ·intro hc
   have hk0:m=0:=by have:¬(0:Int)≤(m:Int)-1:=(by simpa using hc);omega
   subst hk0
   refine Qr ?_
   simp only[go_sem,X.next]
   refine Qa ?_
   simp only[go_sem,l4,htw]
   refine Qj ?_
   simp only[go_sem,Q6,Qab,Qaii,List.mem_singleton,forall_eq,RS.op,htw]
   exact⟨_,.c _ _ (hgr.frz kn (Qaq _)),hK r _ kn.fin (by omega) fun x=>by rw[hrm,List.drop_zero,hmem]⟩
noncomputable def rchL (n:Nat)(g:Nat→List Nat):List Nat:=(List.range n).filter (Qi3 g (-1))
theorem Qank {p rg:Int}{fl:Bool}{rows:List (List C)}{nx:Nat→List Int}(hg:GF rows nx)(hf:Qkj rows.length nx=true)
  (hK:∀H',Upd H H' []→K (.c (.sl false 1 (Q5 (rchL rows.length (nxN nx))))) H') :
  Qv prog Qgq [.ag [.int .i64 p,.int .i64 rg,.sl fl 5 rows]] H K:=by
 have hn:=hg.n
 refine Qz ?_
 refine Qb Qar Qaew ?_
 refine Qa ?_
 simp only[go_sem]
 refine Q4 ?_
 refine Qa ?_
 simp only[go_sem]
 refine Qa9x (hg.grd H fl) ?_
 simp only[go_sem,Qj5,hf]
 refine Qg (Qe rfl (fun h=>by simp at h) (fun _=>?_))
 refine Qh ?_
 try simp only[go_sem]
 refine Qa ?_
 simp only[go_sem]
 refine Qa5n hg hf fun o H1 hu hol hom=>?_
 have kn:=(Kn.start0 H).call0 hu
 simp only[go_sem,Qj7]
 refine Qawl (by omega) fun _ k H2 hu ha hk=>?_
 have kn:=kn.call0 hu
 simp only[go_sem,Qj6]
 have e:k=rchL rows.length (nxN nx):=Qanu ha fun x=>by rw[hk,hom]
 refine Qj ?_
 simp only[go_sem,Q6,Qab,Qsp,List.mem_singleton,forall_eq,RS.op]
 rw[e]
 exact⟨_,.c _ _ (FrzR.same (Qaq _)).sl,hK _ kn.fin⟩
end Go.AE.Y

namespace Go.AE.Y
attribute [local go_sem] cond_true cond_false Bool.not_true Bool.not_false
open Go.Proofs.Tryz
variable {H H0:Heap}{K:V→Heap→Prop}{E B Lg:List (Nat×Obj)}
theorem Qv2 (n:Nat)(v:Int):List.replicate n [C.int .i64 v]=Qf (List.replicate n v):=by simp[Qf]
theorem Qcu (l:List Int)(i:Nat)(v:Int):(Qf l).set i [C.int .i64 v]=Qf (l.set i v):=by simp[Qf,List.map_set]
def Qa8o (n:Nat)(l:List Nat)(P:List Int):Prop:=P.length=n∧∀x∈l,∃i,∃h:i<l.length,l[i]=x∧P.getD x 0=(i:Int)
set_option maxHeartbeats 1000000 in
theorem Qa5p {n:Nat}{fl:Bool}{l:List Nat}(hn:n≤1000000)(hl:l.length≤1000000)(hx:∀x∈l,x<n)(hK:∀P H',Qa8o n l P→Upd H H' []→K (.c (.sl false 1 (Qf P))) H') :
  Qv prog Qt2 [.c (.int .i64 n),.c (.sl fl 1 (Q5 l))] H K:=by
 refine Qz ?_
 refine Qb Qar Qa5x ?_
 refine Qa ?_
 simp only[go_sem]
 refine Qa ?_
 simp only[go_sem]
 refine⟨by simp only[LIM];omega,fun y hy H1 h1=>?_⟩
 rw[Qv2]at h1
 have kn:=(Kn.start0 H).al hy h1
 simp only[go_sem,Qxf]
 refine Q4 ?_
 refine Qa ?_
 simp only[go_sem]
 refine Qg (Qc (Qs (fun m e1 H1=>∃(i:Nat) (P:List Int),m=n-i∧i≤n∧P.length=n∧Kn H H1 [] [(y,.vec 1 (Qf P))]∧
  lk 0 e1=.c (.int .i64 n)∧lk 1 e1=.c (.sl fl 1 (Q5 l))∧lk 5 e1=.c (.vsl y 1 0 n)∧lk 6 e1=.c (.int .i64 i)) n ?_ ?_))
 ·exact⟨0,List.replicate n 0,by omega,by omega,by simp,kn,rfl,rfl,rfl,rfl⟩
 ·clear kn h1
  rintro m e1 H2 ⟨i,P,hm,hi,hP,kn,l0,l1,l5,l6⟩
  have hy:=kn.l 0 rfl
  have htk:(Qf P).take n=Qf P:=List.take_of_length_le (by rw[Qd];omega)
  refine Q4 ?_
  refine Qa ?_
  simp only[go_sem,l0,l1,l5,l6]
  refine Qg (Qe rfl ?_ ?_)
  ·intro hc
   have hlt:i<n:=by simpa using hc
   refine Qh ?_
   try simp only[go_sem]
   refine Qg (Qc ?_)
   have hltP:i<P.length:=by omega
   refine Qq ?_
   simp only[go_sem,hy,hlt,Qd,hP,Qx _ _ hltP,Qcu,Nat.zero_add,Nat.le_refl]
   intro H3 h3
   have kn:=kn.stL 0 rfl h3
   refine Qq ?_
   simp only[go_sem,X.next]
   refine⟨Qo (by omega) (by omega),n-(i+1),by omega,i+1,_,rfl,by omega,by rw[List.length_set];exact hP,kn,?_⟩
   first|exact⟨rfl,rfl,rfl,rfl⟩|exact rfl|trivial
  ·intro hc
   refine Qr ?_
   simp only[go_sem,X.next]
   refine Q4 ?_
   refine Qa ?_
   simp only[go_sem,l0,l1,l5,l6]
   refine Qg (Qc (Qs (fun m e1 H1=>∃(j:Nat) (P:List Int),m=l.length-j∧j≤l.length∧P.length=n∧(∀x∈l.take j,∃i,∃h:i<l.length,l[i]=x∧P.getD x 0=(i:Int))∧Kn H H1 [] [(y,.vec 1 (Qf P))]∧
    lk 1 e1=.c (.sl fl 1 (Q5 l))∧lk 5 e1=.c (.vsl y 1 0 n)∧lk 7 e1=.c (.int .i64 j)) l.length ?_ ?_))
   ·exact⟨0,P,by omega,by omega,hP,by simp,kn,rfl,rfl,rfl⟩
   ·clear kn hy htk hP
    clear P
    rintro m e1 H3 ⟨j,P,hm,hj,hP,hpl,kn,l1,l5,l7⟩
    have hy:=kn.l 0 rfl
    refine Q4 ?_
    refine Qa ?_
    simp only[go_sem,l1,l5,l7,Qw]
    intro _
    refine Qg (Qe rfl ?_ ?_)
    ·intro hc
     have hlt:j<l.length:=by simpa using hc
     have hgd:l.getD j 0=l[j]:=by simp[List.getD_eq_getElem?_getD,hlt]
     have hxn:=hx _ (List.getElem_mem hlt)
     have hxP:l[j]<P.length:=by omega
     refine Qh ?_
     try simp only[go_sem]
     refine Qg (Qc ?_)
     refine Qq ?_
     simp only[go_sem,hy,hlt,Qw,Qad _ _ hlt,hgd,hxn,Qd,hP,Qx _ _ hxP,Qcu,Nat.zero_add,Nat.le_refl]
     intro H4 h4
     have kn:=kn.stL 0 rfl h4
     refine Qq ?_
     simp only[go_sem,X.next]
     refine⟨Qo (by omega) (by omega),l.length-(j+1),by omega,j+1,_,rfl,by omega,by rw[List.length_set];exact hP,fun x hxm=>?_,kn,?_⟩
     ·by_cases hxe:x=l[j]
      ·refine⟨j,hlt,hxe.symm,?_⟩
       rw[hxe,List.getD_eq_getElem?_getD,List.getElem?_set_self hxP];rfl
      ·rw[List.take_succ_eq_append_getElem hlt]at hxm
       rcases List.mem_append.1 hxm with h|h
       ·obtain⟨i,hi,h1,h2⟩:=hpl x h
        refine⟨i,hi,h1,?_⟩
        rw[List.getD_eq_getElem?_getD,List.getElem?_set_ne (fun h=>hxe h.symm),←List.getD_eq_getElem?_getD];exact h2
       ·exact absurd (List.mem_singleton.1 h) hxe
     ·first|exact⟨rfl,rfl,rfl⟩|exact rfl|trivial
    ·intro hc
     have hge:l.length≤j:=by simpa using hc
     rw[List.take_of_length_le hge]at hpl
     refine Qr ?_
     simp only[go_sem,X.next]
     refine Qa ?_
     simp only[go_sem,l5]
     refine Qj ?_
     simp only[go_sem,Q6,Qab,Qaij,List.mem_singleton,forall_eq,RS.op]
     exact⟨_,.c _ _ ((FrzR.same (Qu _)).vsl (kn.un 0 rfl) hy (by rw[Qd,hP])),hK P _ ⟨hP,hpl⟩ kn.fin⟩
end Go.AE.Y

namespace Go.AE.Y
attribute [local go_sem] cond_true cond_false Bool.not_true Bool.not_false
open Go.Proofs.Tryz
variable {H H0:Heap}{K:V→Heap→Prop}{E B Lg:List (Nat×Obj)}
def Qan9 (ids:List Int)(b n:Nat):List Nat:=(List.range n).filter fun i=>decide (ids.getD i 0=(b:Int))
theorem Qah7 (ids:List Int)(b n:Nat):Qan9 ids b (n+1)=Qan9 ids b n++if decide (ids.getD n 0=(b:Int))=true then [n]else []:=by
 simp only[Qan9,List.range_succ,List.filter_append]
 congr 1
 by_cases h:ids.getD n 0=(b:Int)
 ·rw[decide_eq_true h,if_pos rfl];simp only[List.filter_cons,List.filter_nil,h,decide_true,if_true]
 ·rw[decide_eq_false h,if_neg (by simp)];simp only[List.filter_cons,List.filter_nil,h,decide_false,Bool.false_eq_true,if_false]
theorem Qa9u (ids:List Int)(b n:Nat):(Qan9 ids b n).length≤n:=by
 have:=List.length_filter_le (fun i=>decide (ids.getD i 0=(b:Int))) (List.range n)
 simpa[Qan9]using this
theorem Qa9z {fl:Bool}{ids:List Int}{b:Nat}(hl:ids.length≤1000000)(hK:∀H',Upd H H' []→K (.c (.sl false 1 (Q5 (Qrt ids b)))) H') :
  Qv prog Qy8 [.c (.sl fl 1 (Qf ids)),.c (.int .i64 b)] H K:=by
 refine Qz ?_
 refine Qb Qar Qbar ?_
 refine Qa ?_
 simp only[go_sem]
 refine Qa ?_
 simp only[go_sem]
 refine Q4 ?_
 refine Qa ?_
 simp only[go_sem]
 refine Qg (Qc (Qs (fun m e1 H1=>∃(i:Nat) (t:C) (Lg:List (Nat×Obj)),m=ids.length-i∧i≤ids.length∧Gr Lg 1 (Q5 (Qan9 ids b i)) t∧Kn H H1 [] ([]++Lg)∧
  lk 0 e1=.c (.sl fl 1 (Qf ids))∧lk 1 e1=.c (.int .i64 b)∧lk 5 e1=.c t∧lk 6 e1=.c (.int .i64 i)) ids.length ?_ ?_))
 ·exact⟨0,_,[],by omega,by omega,.nil 1,Kn.start0 H,rfl,rfl,rfl,rfl⟩
 ·rintro m e1 H1 ⟨i,t,Lg,hm,hi,hgr,kn,l0,l1,l5,l6⟩
  have htw:=hgr.isOw
  refine Q4 ?_
  refine Qa ?_
  simp only[go_sem,l0,l1,l5,l6,htw,Qd]
  intro _
  refine Qg (Qe rfl ?_ ?_)
  ·intro hc
   have hlt:i<ids.length:=by simpa using hc
   have hkl:=Qa9u ids b i
   refine Qh ?_
   try simp only[go_sem]
   refine Qdm (fun e2 H2=>∃(t:C) (Lg:List (Nat×Obj)),Gr Lg 1 (Q5 (Qan9 ids b (i+1))) t∧Kn H H2 [] ([]++Lg)∧
    lk 0 e2=.c (.sl fl 1 (Qf ids))∧lk 1 e2=.c (.int .i64 b)∧lk 5 e2=.c t∧lk 6 e2=.c (.int .i64 i)) ?_ ?_
   ·intro Q hnr _ _
    refine Qc ?_
    refine Qa ?_
    simp only[go_sem,htw,hlt,Qd,Qx _ _ hlt]
    refine Qe rfl ?_ ?_
    ·intro hc2
     refine Qq ?_
     simp only[go_sem,htw]
     refine kn.growR (B:=[]) (new:=Q5 [i]) hgr (.mk' _ _ _ _) (Qaq _) (by simp only[Qw,LIM,List.length_cons,List.length_nil];omega) fun t2 Lg2 H2 hgr2 ht2 kn=>?_
     simp only[go_sem,Q2n,ht2]
     refine hnr _ _ ⟨t2,Lg2,?_,kn,rfl,rfl,rfl,rfl⟩
     rw[Qah7,hc2,if_pos rfl,Qje];exact hgr2
    ·intro hc2
     refine Qh ?_
     try simp only[go_sem]
     refine hnr _ _ ⟨t,Lg,?_,kn,rfl,rfl,rfl,rfl⟩
     rw[Qah7,hc2];simpa using hgr
   ·rintro e2 H2 ⟨t2,Lg2,hgr2,kn,l0,l1,l5,l6⟩
    have ht2:=hgr2.isOw
    refine Qq ?_
    simp only[go_sem,X.next,l0,l1,l5,l6,ht2]
    refine⟨Qo (by omega) (by omega),ids.length-(i+1),by omega,i+1,t2,Lg2,rfl,by omega,hgr2,kn,?_⟩
    first|exact⟨rfl,rfl,rfl,rfl⟩|exact rfl|trivial
  ·intro hc
   have hge:i=ids.length:=by have:ids.length≤i:=(by simpa using hc);omega
   refine Qr ?_
   simp only[go_sem,X.next]
   refine Qa ?_
   simp only[go_sem,l5,htw]
   refine Qj ?_
   simp only[go_sem,Q6,Qab,Qao3,List.mem_singleton,forall_eq,RS.op,htw]
   have e:Qan9 ids b i=Qrt ids b:=by rw[hge];rfl
   rw[e]at hgr
   exact⟨_,.c _ _ (hgr.frz kn (Qaq _)),hK _ kn.fin⟩
end Go.AE.Y

namespace Go.AE.Y
attribute [local go_sem] cond_true cond_false Bool.not_true Bool.not_false
open Go.Proofs.Tryz
variable {H H0:Heap}{K:V→Heap→Prop}{E B Lg:List (Nat×Obj)}
set_option maxHeartbeats 2000000 in
theorem Qa5q {fl:Bool}{n:Nat}{g:Nat→List Nat}(hn0:0<n)(hn:n≤1000000)(hK:∀ids H',Tree n ids (depL n g)→Upd H H' []→K (.c (.sl false 1 (Qf ids))) H') :
  Qv prog Qt3 [.c (.sl fl 1 (Q6x n g n))] H K:=by
 have hm1:Int.toNat (-1)=0:=rfl
 refine Qz ?_
 refine Qb Qar Qa5z ?_
 refine Qa ?_
 simp only[go_sem]
 refine Qa ?_
 simp only[go_sem]
 refine Q4 ?_
 refine Qa ?_
 simp only[go_sem]
 refine Qg (Qc (Qs (fun m e1 H1=>∃(b:Nat) (ids:List Int) (t:C) (Lg:List (Nat×Obj)),m=n-b∧b≤n∧ids.length=b∧(∀x,x<b→ids.getD x 0=-1∨∃a:Nat,ids.getD x 0=a∧a<n∧depL n g a<depL n g x)∧Gr Lg 1 (Qf ids) t∧Kn H H1 [] ([]++Lg)∧
  lk 0 e1=.c (.sl fl 1 (Q6x n g n))∧lk 3 e1=.c t∧lk 4 e1=.c (.int .i64 b)) n ?_ ?_))
 ·exact⟨0,[],_,[],by omega,by omega,rfl,fun x hx=>by omega,.nil 1,Kn.start0 H,rfl,rfl,rfl⟩
 ·rintro m e1 H1 ⟨b,ids,t,Lg,hm,hb,hil,hids,hgr,kn,l0,l3,l4⟩
  have htw:=hgr.isOw
  refine Q4 ?_
  refine Qa ?_
  simp only[go_sem,l0,l3,l4,htw,Qrm]
  intro _
  refine Qg (Qe rfl ?_ ?_)
  ·intro hc
   have hlt:b<n:=by simpa using hc
   refine Qh ?_
   try simp only[go_sem]
   refine Qdm (fun e2 H2=>∃(v:Int),(v=-1∨∃a:Nat,v=a∧a<n∧depL n g a<depL n g b)∧∃(t:C) (Lg:List (Nat×Obj)),Gr Lg 1 (Qf (ids++[v])) t∧Kn H H2 [] ([]++Lg)∧
    lk 0 e2=.c (.sl fl 1 (Q6x n g n))∧lk 3 e2=.c t∧lk 4 e2=.c (.int .i64 b)) ?_ ?_
   ·intro Q hnr _ _
    refine Qc ?_
    refine Qa ?_
    simp only[go_sem,htw]
    refine Q4 ?_
    refine Qa ?_
    simp only[go_sem,htw]
    refine Qg (Qc (Qs (fun m e1 H1'=>∃(a:Nat) (v:Int),m=n-a∧a≤n∧H1'=H1∧(v=-1∨∃a:Nat,v=a∧a<n∧depL n g a<depL n g b)∧
     lk 0 e1=.c (.sl fl 1 (Q6x n g n))∧lk 3 e1=.c t∧lk 4 e1=.c (.int .i64 b)∧lk 5 e1=.c (.int .i64 v)∧lk 6 e1=.c (.int .i64 a)) n ?_ ?_))
    ·exact⟨0,-1,by omega,by omega,rfl,.inl rfl,rfl,rfl,rfl,rfl,rfl⟩
    ·rintro m2 e2 H2 ⟨a,v,hm2,ha,rfl,hv,l0,l3,l4,l5,l6⟩
     refine Q4 ?_
     refine Qa ?_
     simp only[go_sem,l0,l3,l4,l5,l6,htw,Qrm]
     intro _
     refine Qg (Qe rfl ?_ ?_)
     ·intro hc2
      have hal:a<n:=by simpa using hc2
      have hbd:b<(Qgd n g a).length:=by rw[Qd8];exact hlt
      refine Qh ?_
      try simp only[go_sem]
      refine Qdm (fun e2 H2'=>∃(v:Int),H2'=H2∧(v=-1∨∃a:Nat,v=a∧a<n∧depL n g a<depL n g b)∧
       lk 0 e2=.c (.sl fl 1 (Q6x n g n))∧lk 3 e2=.c t∧lk 4 e2=.c (.int .i64 b)∧lk 5 e2=.c (.int .i64 v)∧lk 6 e2=.c (.int .i64 a)) ?_ ?_
      ·intro Q2 hnr2 _ _
       refine Qc ?_
       obtain⟨w,hw,hwn,hneg⟩:∃w:Nat,v.toNat=w∧w<n∧(decide (v<0)=false→v=(w:Int)):=by
        rcases hv with rfl|⟨a',rfl,h1,_⟩
        ·exact⟨0,rfl,hn0,fun h=>by simp at h⟩
        ·exact⟨a',by omega,h1,fun _=>rfl⟩
       have had:a<(Qgd n g w).length:=by rw[Qd8];exact hal
       refine Qa ?_
       simp only[go_sem,htw,hal,hlt,hw,hwn,Qrm,Q8j hal,Q8j hwn,Qt,Qd8,Q0 _ _ hbd,Q0 _ _ had,Q7d hlt,Q7d hal]
       refine⟨fun h=>?_,?_⟩
       ·rw[Bool.and_eq_true,Bool.not_eq_true',decide_eq_false_iff_not]at h
        omega
       refine Qe rfl ?_ ?_
       ·intro hc3
        have hd:¬((a:Int)=b)∧Qvs g a b=true:=by
         by_cases hab:(a:Int)=b
         ·rw[decide_eq_true hab]at hc3;simp at hc3
         ·refine⟨hab,?_⟩
          cases hd:Qvs g a b with
          |true=>rfl
          |false=>rw[decide_eq_false hab,hd]at hc3;simp at hc3
        refine Qq ?_
        simp only[go_sem,htw]
        exact hnr2 _ _ ⟨(a:Int),rfl,.inr ⟨a,rfl,hal,Qbih hlt hd.2 fun h=>hd.1 (by rw[h])⟩,rfl,rfl,rfl,rfl,rfl⟩
       ·intro _
        refine Qh ?_
        try simp only[go_sem]
        exact hnr2 _ _ ⟨v,rfl,hv,rfl,rfl,rfl,rfl,rfl⟩
      ·rintro e3 H3 ⟨v2,rfl,hv2,l0,l3,l4,l5,l6⟩
       refine Qq ?_
       simp only[go_sem,l0,l3,l4,l5,l6,htw]
       refine⟨Qo (by omega) (by omega),?_⟩
       show ∃m,_
       exact⟨n-(a+1),by rw[hm2];exact Nat.sub_lt_sub_left hal (Nat.lt_succ_self a),a+1,v2,rfl,hal,rfl,hv2,rfl,rfl,rfl,rfl,rfl⟩
     ·intro hc2
      refine Qr ?_
      simp only[go_sem,X.next]
      refine Qq ?_
      simp only[go_sem,l0,l3,l4,l5,l6,htw]
      refine kn.growR (B:=[]) (new:=Qf [v]) hgr (.mk' _ _ _ _) (Qu _) (by simp only[Qd,LIM,List.length_cons,List.length_nil];omega) fun t2 Lg2 H3 hgr2 ht2 kn=>?_
      simp only[go_sem,Qxk,ht2]
      refine hnr _ _ ⟨v,hv,t2,Lg2,?_,kn,rfl,rfl,rfl⟩
      have:Qf (ids++[v])=Qf ids++Qf [v]:=by simp[Qf]
      rw[this];exact hgr2
   ·rintro e2 H2 ⟨v,hv,t2,Lg2,hgr2,kn,l0,l3,l4⟩
    have ht2:=hgr2.isOw
    refine Qq ?_
    simp only[go_sem,X.next,l0,l3,l4,ht2]
    refine⟨Qo (by omega) (by omega),n-(b+1),by omega,b+1,ids++[v],t2,Lg2,rfl,by omega,by simp[hil],fun x hx=>?_,hgr2,kn,?_⟩
    ·by_cases hxb:x<b
     ·have e:(ids++[v]).getD x 0=ids.getD x 0:=by simp[List.getD_eq_getElem?_getD,List.getElem?_append_left (show x<ids.length by omega)]
      rw[e];exact hids x hxb
     ·have hxe:x=b:=by omega
      subst hxe
      have e:(ids++[v]).getD x 0=v:=by simp[List.getD_eq_getElem?_getD,←hil]
      rw[e];exact hv
    ·first|exact⟨rfl,rfl,rfl⟩|exact rfl|trivial
  ·intro hc
   have hbe:b=n:=by have:n≤b:=(by simpa using hc);omega
   subst hbe
   refine Qr ?_
   simp only[go_sem,X.next]
   refine Qa ?_
   simp only[go_sem,l3,htw]
   refine Qj ?_
   simp only[go_sem,Q6,Qab,Qail,List.mem_singleton,forall_eq,RS.op,htw]
   exact⟨_,.c _ _ (hgr.frz kn (Qu _)),hK ids _ ⟨hil,hids⟩ kn.fin⟩
end Go.AE.Y

namespace Go.AE.Y
open Go.Proofs.Tryz
variable {H:Heap}{K:V→Heap→Prop}
theorem Qa9o {op:Int}(hK:K (.c (.bool (decide (1≤op)&&decide (op≤14)))) H):Qv prog Qkn [.c (.int .i64 op)] H K:=by
 refine Qb Qar Qa5v ?_
 refine Qa ?_
 simp only[go_sem]
 refine Qa ?_
 simp only[go_sem]
 refine Qda ?_
 simp only[go_sem,Qw4]
 refine Qj ?_
 simp only[go_sem,Q6,Qab,Qaih,List.mem_singleton,forall_eq,RS.op]
 exact hK
theorem Qbeu {n:Int}(hK:K (.c (.bool (decide (0≤n)&&decide (n≤255)))) H):Qv prog Qn3 [.c (.int .i64 n)] H K:=by
 refine Qb Qar Qaws ?_
 refine Qa ?_
 simp only[go_sem]
 refine Qa ?_
 simp only[go_sem]
 refine Qda ?_
 simp only[go_sem,Qs0]
 refine Qj ?_
 simp only[go_sem,Q6,Qab,Q8o,List.mem_singleton,forall_eq,RS.op]
 exact hK
theorem Qbdp {op:Int}(hK:K (.c (.bool (Qd1 op))) H):Qv prog Qq9 [.c (.int .i64 op)] H K:=by
 refine Qb Qar Qbai ?_
 refine Qa ?_
 simp only[go_sem]
 refine Qa ?_
 simp only[go_sem]
 refine Qa9o ?_
 simp only[go_sem,Q1t]
 refine Qj ?_
 simp only[go_sem,Q6,Qab,Qaoy,List.mem_singleton,forall_eq,RS.op]
 have:∀a b c:Bool,(bif bif a then b else false then c else false)=(a&&b&&c):=by decide
 rw[this]
 have e:(decide (1≤op)&&decide (op≤14))=decide (1≤op∧op≤14):=by simp
 rw[e];exact hK
theorem Qano {j:Int}(hK:K (.c (.bool (decide (j=2) || decide (j=3)))) H):Qv prog Qho [.c (.int .i64 j)] H K:=by
 refine Qb Qar Qawt ?_
 refine Qa ?_
 simp only[go_sem]
 refine Qa ?_
 simp only[go_sem]
 refine Qj ?_
 simp only[go_sem,Q6,Qab,Q8p,List.mem_singleton,forall_eq,RS.op]
 have:∀a b:Bool,(bif a then true else b)=(a || b):=by decide
 first|(rw[this];exact hK)|exact hK
theorem Qaxa {j:Int}(hK:K (.c (.int .i64 (Qmu j))) H):Qv prog Qgj [.c (.int .i64 j)] H K:=by
 refine Qb Qar Qaes ?_
 have retf:∀(n:Int) (e:Env),Qmu j=n→lk 2 e=.c (.int .i64 n)→Q6 Qit K .ret e H:=by
  intro b e h1 h3
  simp only[go_sem,Q6,Qab,Qit,List.mem_singleton,forall_eq,RS.op,h3]
  rw[←h1];exact hK
 refine Qa ?_
 simp only[go_sem]
 refine Q4 ?_
 refine Qa ?_
 simp only[go_sem]
 refine Qg (Qc ?_)
 refine Qa ?_
 simp only[go_sem]
 refine Qe rfl ?_ ?_
 ·intro hc
  refine Qa ?_
  simp only[go_sem]
  refine Qj ?_
  simp only[go_sem]
  exact retf 1 _ (by simp at hc;simp[Qmu,hc]) (by simp[lk])
 intro hc1
 refine Qa ?_
 simp only[go_sem]
 refine Qe rfl ?_ ?_
 ·intro hc
  refine Qa ?_
  simp only[go_sem]
  refine Qj ?_
  simp only[go_sem]
  exact retf 2 _ (by simp at hc;simp[Qmu,hc]) (by simp[lk])
 intro hc2
 refine Qa ?_
 simp only[go_sem]
 refine Qe rfl ?_ ?_
 ·intro hc
  refine Qa ?_
  simp only[go_sem]
  refine Qj ?_
  simp only[go_sem]
  exact retf 0 _ (by simp at hc;simp[Qmu,hc]) (by simp[lk])
 ·intro hc
  refine Qh ?_
  simp only[go_sem]
  refine Qa ?_
  simp only[go_sem]
  refine Qj ?_
  exact retf (-1) _ (by simp at hc hc1 hc2;simp[Qmu,hc,hc1,hc2]) (by simp[lk])
def Qant (op:Int):Int:=if op=1 then 0 else if op=2∨op=10∨op=11∨op=13 then 1 else 2
theorem Qa9n {op:Int}(hK:K (.c (.int .i64 (Qant op))) H):Qv prog Qkm [.c (.int .i64 op)] H K:=by
 refine Qb Qar Qaoh ?_
 have retf:∀(n:Int) (e:Env),Qant op=n→lk 2 e=.c (.int .i64 n)→Q6 Qhy K .ret e H:=by
  intro b e h1 h3
  simp only[go_sem,Q6,Qab,Qhy,List.mem_singleton,forall_eq,RS.op,h3]
  rw[←h1];exact hK
 refine Qa ?_
 simp only[go_sem]
 refine Q4 ?_
 refine Qa ?_
 simp only[go_sem]
 refine Qg (Qc ?_)
 refine Qa ?_
 simp only[go_sem]
 refine Qe rfl ?_ ?_
 ·intro hc
  refine Qa ?_
  simp only[go_sem]
  refine Qj ?_
  simp only[go_sem]
  exact retf 0 _ (by simp at hc;simp[Qant,hc]) (by simp[lk])
 intro hc1
 have fin:∀(b:Bool) (e:Env),b=decide (op=2∨op=10∨op=11∨op=13)→lk 6 e=.c (.bool b)→Qae prog Qsy (X.inBlock 0 (X.sq prog Qsz (Q6 Qhy K))) e H:=by
  intro b e hb l6
  refine Qe l6 ?_ ?_
  ·intro hc
   refine Qa ?_
   simp only[go_sem]
   refine Qj ?_
   simp only[go_sem]
   exact retf 1 _ (by rw[hc]at hb;have:=of_decide_eq_true hb.symm;simp at hc1;rw[Qant,if_neg hc1,if_pos this]) (by simp[lk])
  ·intro hc
   refine Qh ?_
   simp only[go_sem]
   refine Qa ?_
   simp only[go_sem]
   refine Qj ?_
   exact retf 2 _ (by rw[hc]at hb;have:=of_decide_eq_false hb.symm;simp at hc1;rw[Qant,if_neg hc1,if_neg this]) (by simp[lk])
 refine Q4 ?_
 refine Qa ?_
 simp only[go_sem]
 refine Qg (Qe rfl ?_ ?_)
 ·intro hc
  refine Qh ?_
  simp only[go_sem]
  exact fin true _ (decide_eq_true (.inl (of_decide_eq_true hc))).symm (by simp[lk];exact of_decide_eq_true hc)
 intro hc2
 refine Qa ?_
 simp only[go_sem]
 refine Qe rfl ?_ ?_
 ·intro hc
  refine Qh ?_
  simp only[go_sem]
  exact fin true _ (decide_eq_true (.inr (.inl (of_decide_eq_true hc)))).symm (by simp[lk];exact of_decide_eq_true hc)
 intro hc3
 refine Qa ?_
 simp only[go_sem]
 refine Qe rfl ?_ ?_
 ·intro hc
  refine Qh ?_
  simp only[go_sem]
  exact fin true _ (decide_eq_true (.inr (.inr (.inl (of_decide_eq_true hc))))).symm (by simp[lk];exact of_decide_eq_true hc)
 intro hc4
 refine Qq ?_
 simp only[go_sem]
 refine fin (decide (op=13)) _ ?_ (by simp[lk])
 have a2:=of_decide_eq_false hc2
 have a3:=of_decide_eq_false hc3
 have a4:=of_decide_eq_false hc4
 simp[a2,a3,a4]
end Go.AE.Y

namespace Go.AE.Y
open Go.Proofs.Tryz
variable {H:Heap}{K:V→Heap→Prop}
theorem Qavs {l:List BlkD}(hf:∀b∈l,b.ins.length≤2 ^ 38∧b.phis.length≤2 ^ 38):Qkd Qtx l≤l.length * 549755813888:=by
 induction l with
 |nil=>simp[Qkd]
 |cons y l ih=>
  have h1:=hf y List.mem_cons_self
  have h2:=ih fun b hb=>hf b (List.mem_cons_of_mem _ hb)
  simp only[Qkd,List.map_cons,List.sum_cons,Qtx,List.length_cons]at *
  omega
set_option maxHeartbeats 1000000 in
theorem Qav2 {q:CodeD}{fl:Bool}(hf:q.fits)(hb:q.blocks.length≤160)(hK:∀H',Upd H H' []→K (.c (.int .i64 (Q6u q))) H') :
  Qv prog Qgf [.ag [.int .i64 q.params,.int .i64 q.regs,.sl fl 5 (Qm q.blocks)]] H K:=by
 refine Qz ?_
 refine Qb Qar Qaen ?_
 have hsb:=Qavs hf
 refine Qa ?_
 simp only[go_sem]
 refine Qa ?_
 simp only[go_sem]
 refine Q4 ?_
 refine Qa ?_
 simp only[go_sem,Qk]
 intro _
 refine Qg (Qc (Qs (fun m e1 H1=>∃(i:Nat),m=q.blocks.length-i∧i≤q.blocks.length∧Kn H H1 [] []∧
  e1=[(3,.c (.int .i64 (Qkd Qtx (q.blocks.take i):Nat))),(7,.c (.sl fl 5 (Qm q.blocks))),(8,.c (.int .i64 q.blocks.length)),(9,.c (.int .i64 i))]) q.blocks.length ?_ ?_))
 ·exact⟨0,by omega,by omega,Kn.start0 H,rfl⟩
 ·rintro m e1 H1 ⟨i,hm,hi,kn,rfl⟩
  refine Qa ?_
  simp only[go_sem]
  refine Qg (Qe rfl ?_ ?_)
  ·intro hc
   have hlt:i<q.blocks.length:=by simpa using hc
   have hbf:=hf _ (List.getElem_mem hlt)
   have hss:=Qfb (f:=Qtx) hlt
   have hle:=Qa3r (f:=Qtx) (l:=q.blocks) (i+1)
   have hcy:Qtx q.blocks[i]=q.blocks[i].ins.length+q.blocks[i].phis.length:=rfl
   have hmul:q.blocks.length * 549755813888≤160 * 549755813888:=Nat.mul_le_mul_right _ hb
   refine Qh ?_
   simp only[go_sem]
   refine Qg (Qc ?_)
   refine Qa ?_
   simp only[go_sem,hlt,Qk,Q7 _ _ hlt,BlkD.cells]
   intro x5 hx5 H2 h2
   have kn:=kn.al hx5 h2
   have hx5:=kn.l 0 rfl
   simp only[go_sem,Qjs,hx5]
   intro H3 h3
   have kn:Kn H H3 [] ([]++[(x5,.st [.sl false 2 (Qaj q.blocks[i].phis),.sl false 4 (Qbo q.blocks[i].ins),.int .i64 q.blocks[i].jump,.int .i64 q.blocks[i].on,.sl false 1 (Qf q.blocks[i].next)])]):=kn.stL 0 rfl h3
   have hx5:=kn.l 0 rfl
   refine Qq ?_
   simp only[go_sem,hx5,Qan,Q9]
   intro _ _
   refine⟨Qo (by omega) (by omega),Qo (by omega) (by omega),?_⟩
   refine Qq ?_
   simp only[go_sem,X.next]
   refine⟨Qo (by omega) (by omega),q.blocks.length-(i+1),by omega,i+1,rfl,by omega,kn.drop,?_⟩
   rw[hss,hcy]
   have:((Qkd Qtx (q.blocks.take i):Nat):Int)+((q.blocks[i].phis.length:Int)+q.blocks[i].ins.length)=((Qkd Qtx (q.blocks.take i)+(q.blocks[i].ins.length+q.blocks[i].phis.length):Nat):Int):=by omega
   rw[this];rfl
  ·intro hc
   have hge:q.blocks.length≤i:=by simpa using hc
   refine Qr ?_
   simp only[go_sem,X.next]
   refine Qa ?_
   simp only[go_sem]
   refine Qj ?_
   simp only[go_sem,Q6,Qab,Qsj,List.mem_singleton,forall_eq,RS.op]
   rw[List.take_of_length_le hge]
   exact⟨_,.c _ _ (Qi rfl),hK _ kn.fin⟩
end Go.AE.Y

namespace Go.AE.Y
open Go.Proofs.Tryz
variable {H:Heap}{K:V→Heap→Prop}
theorem Qah5 {x7:Nat}{q:CodeD}{v:Int}(h7:H x7=.st q.cells)(hr:-(2^62)≤q.regs)(hr2:q.regs≤2^62)(hK:K (.c (.bool (decide (0≤v∧v≤q.regs-1)))) H) :
  Qv prog Qc1 [.c (.int .i64 v),.c (.ptr x7 0)] H K:=by
 refine Qb Qar Qajw ?_
 refine Qa ?_
 simp only[go_sem]
 refine Qa ?_
 simp only[go_sem,h7,CodeD.cells]
 refine⟨Qo (by omega) (by omega),?_⟩
 refine Qda ?_
 simp only[go_sem,Qll]
 refine Qj ?_
 simp only[go_sem,Q6,Qab,Qv9,List.mem_singleton,forall_eq,RS.op]
 have e:(decide (0≤v)&&decide (v≤q.regs-1))=decide (0≤v∧v≤q.regs-1):=by simp
 rw[e];exact hK
theorem Qa5l {x7 x8:Nat}{q:CodeD}{v:Int}(h7:H x7=.st q.cells)(h8:H x8=.st [.fn Qc1 [.ptr x7 0]])(hr:-(2^62)≤q.regs)(hr2:q.regs≤2^62)(hK:K (.c (.bool (!decide (0≤v∧v≤q.regs-1)))) H) :
  Qv prog Qij [.c (.int .i64 v),.c (.ptr x8 0)] H K:=by
 refine Qb Qar Qajx ?_
 refine Qa ?_
 simp only[go_sem]
 refine Qa ?_
 simp only[go_sem,h8,List.cons_append,List.nil_append,List.map_cons,List.map_nil]
 refine Qah5 h7 hr hr2 ?_
 simp only[go_sem,Qlm]
 refine Qj ?_
 simp only[go_sem,Q6,Qab,Qwa,List.mem_singleton,forall_eq,RS.op]
 exact hK
theorem Qav1 (p:Int→Bool)(l:List Int):(l.any fun x=>!p x) = !l.all p:=by
 induction l with
 |nil=>rfl
 |cons x l ih=>simp only[List.any_cons,List.all_cons,ih];cases p x <;> simp
set_option maxHeartbeats 1000000 in
theorem Qbix {cs:List CodeD}{fl:Bool}{k:Nat}{x:InsD}(hk:k<cs.length)(hr:0≤cs[k].regs)(hr2:cs[k].regs≤300)(hcl:cs.length≤100)(hK:∀(H':Heap),Upd H H' []→K (.c (.bool (insG cs k x))) H') :
  Qv prog Qt1 [.ag [.sl fl 3 (Qp cs)],.c (.int .i64 k),.ag x.cells] H K:=by
 refine Qz ?_
 refine Qb Qar Qa5u ?_
 refine Qa ?_
 simp only[go_sem,InsD.cells]
 refine Qa ?_
 simp only[go_sem,hk,Q1,Qak _ _ hk,CodeD.cells]
 intro x7 hx7 H1 h1
 have kn:=(Kn.start0 H).al hx7 h1
 have hx7:=kn.l 0 rfl
 simp only[go_sem,Qw1,hx7]
 intro H2 h2
 have kn:=kn.stL 0 rfl h2
 refine Qa ?_
 simp only[go_sem]
 intro x8 hx8 H3 h3
 have kn:=kn.al hx8 h3
 have hx8:=kn.l 1 rfl
 simp only[go_sem,Qw2,hx8]
 intro H4 h4
 have kn:Kn H H4 [] [(x7,.st cs[k].cells),(x8,.st [.fn Qc1 [.ptr x7 0]])]:=kn.stL 1 rfl h4
 have h7:H4 x7=.st cs[k].cells:=kn.l 0 rfl
 have h8:=kn.l 1 rfl
 have hrg:=Qaxj hk
 have retf:∀(b:Bool) (e:Env),insG cs k x=b→lk 6 e=.c (.bool b)→Q6 Qji (fun x H'=>∃x',FrzV H' (un H) x x'∧K x' (H'.frz (un H))) .ret e H4:=by
  intro b e h1 h3
  simp only[go_sem,Q6,Qab,Qji,List.mem_singleton,forall_eq,RS.op,h3]
  rw[←h1];exact⟨_,.c _ _ (Qi rfl),hK _ kn.fin⟩
 refine Q4 ?_
 refine Qa ?_
 simp only[go_sem]
 refine Qa9o ?_
 simp only[go_sem,Qw3]
 have rest2:∀(E1:Env) (b:Bool),insH cs[k].regs x=true→insT cs[k].regs x=(!b)→lk 1 E1=.c (.int .i64 k)→lk 3 E1=.c (.pp [.sl fl 3 (Qp cs)])→lk 5 E1=.c (.pp [.int .i64 x.op,.int .i64 x.to,.sl false 1 (Qf x.args),.int .i64 x.n])→lk 45 E1=.c (.bool b)→
   Qae prog (s_im_insOk_8.seq Qwz) (Q6 Qji (fun x H'=>∃x',FrzV H' (un H) x x'∧K x' (H'.frz (un H)))) E1 H4:=by
  intro E1 b hb1 hb2 l1 l3 l5 l45
  refine Qg (Qe l45 ?_ ?_)
  ·intro hc
   refine Qa ?_
   simp only[go_sem]
   refine Qj ?_
   simp only[go_sem]
   exact retf false _ (by rw[insG,hrg,hb2,hc];simp) (by simp[lk])
  intro hc
  rw[hc]at hb2
  have hG:insG cs k x=insL cs k x:=by rw[insG,hrg,hb1,hb2];rfl
  have hop14:1≤x.op∧x.op≤14:=by
   simp only[insH,Bool.and_eq_true,decide_eq_true_eq]at hb1
   exact hb1.1
  refine Qh ?_
  simp only[go_sem]
  refine Q4 ?_
  refine Qa ?_
  simp only[go_sem,l1,l3,l5]
  refine Qg (Qc ?_)
  refine Qa ?_
  simp only[go_sem]
  refine Qe rfl ?_ ?_
  ·intro hc
   have hop:x.op=1:=of_decide_eq_true hc
   have hL:insL cs k x=(decide ((x.args.length:Int)=0)&&(decide (0≤x.n)&&decide (x.n≤255))):=by
    rw[insL,if_neg (by omega)]
    simp[Qtw,hop]
   refine Qa ?_
   simp only[go_sem,Qd]
   intro _
   refine⟨fun hb=>?_,fun hb=>?_⟩
   ·refine Qbeu ?_
    simp only[go_sem,Qk2]
    refine Qj ?_
    simp only[go_sem]
    refine retf _ _ ?_ (by simp[lk];rfl)
    have hb':x.args=[]:=List.length_eq_zero_iff.1 (by have:=of_decide_eq_true hb;omega)
    rw[hG,hL];simp[hb']
   ·simp only[go_sem,Qk2,hb]
    refine Qj ?_
    simp only[go_sem]
    exact retf false _ (by rw[hG,hL,hb];rfl) (by simp[lk])
  intro hc1
  have hop1:¬x.op=1:=of_decide_eq_false hc1
  refine Qa ?_
  simp only[go_sem]
  refine Qe rfl ?_ ?_
  ·intro hc
   have hop:x.op=14:=of_decide_eq_true hc
   rw[insL,if_pos hop]at hG
   refine Qal ?_
   simp only[go_sem]
   refine⟨Qo (by omega) (by omega),?_⟩
   refine Qda ?_
   by_cases hin:0≤x.n∧x.n≤(k:Int)-1
   ·obtain⟨m,hm⟩:=Int.eq_ofNat_of_zero_le hin.1
    have hmk:m<cs.length:=by omega
    have h1:(0≤(m:Int))=True:=eq_true (by omega)
    have h2:((m:Int)≤(k:Int)-1)=True:=eq_true (by omega)
    simp only[go_sem,Qev,hm,h1,h2,hmk,decide_true,Bool.and_self,Q1,Qak _ _ hmk,CodeD.cells,Qd]
    refine Qj ?_
    simp only[go_sem]
    refine retf _ _ ?_ (by simp[lk];rfl)
    rw[hG,hm,Int.toNat_natCast,Qaxc hmk]
    simp only[h1,h2,and_self,decide_true,Bool.true_and]
   ·have hin':(decide (0≤x.n)&&decide (x.n≤(k:Int)-1))=false:=by simpa using hin
    have hin2:decide (0≤x.n∧x.n≤(k:Int)-1)=false:=by simpa using hin
    by_cases hm:x.n.toNat<cs.length
    ·simp only[go_sem,Qev,hin',Qak _ _ hm,CodeD.cells]
     refine Qj ?_
     simp only[go_sem]
     exact retf false _ (by rw[hG,hin2];rfl) (by simp[lk])
    ·have hgd:(Qp cs).getD x.n.toNat []=[]:=by
      rw[List.getD_eq_getElem?_getD,List.getElem?_eq_none (by rw[Q1];omega)];rfl
     simp only[go_sem,Qev,hin',hgd,List.take_nil,List.headD_nil]
     refine Qj ?_
     simp only[go_sem]
     exact retf false _ (by rw[hG,hin2];rfl) (by simp[lk])
  ·intro hc
   have hop:¬x.op=14:=of_decide_eq_false hc
   have hA:Qtw x.op=Qant x.op:=by
    rw[Qtw,Qant,if_neg hop1,if_neg hop1]
    split
    ·rfl
    ·rw[if_pos (by omega)]
   have hL:insL cs k x=(decide (x.n=0)&&decide ((x.args.length:Int)=Qant x.op)):=by
    rw[insL,if_neg hop,hA]
    by_cases hn:x.n=0
    ·simp[hn]
    ·simp[hn,hop1]
   refine Qh ?_
   simp only[go_sem]
   refine Qal ?_
   simp only[go_sem,Qd]
   refine⟨fun hb=>?_,fun hb=>?_⟩
   ·refine Qa9n ?_
    simp only[go_sem,Qi0,hb,Qd]
    refine Qj ?_
    refine retf _ _ ?_ (by simp[lk];rfl)
    have hb':=of_decide_eq_true hb
    rw[hG,hL];simp[hb']
   ·simp only[go_sem,Qi0,hb,Qd]
    refine Qj ?_
    exact retf false _ (by rw[hG,hL,hb];rfl) (by simp[lk])
 have rest:∀(E1:Env) (b:Bool),insH cs[k].regs x=(!b)→lk 1 E1=.c (.int .i64 k)→lk 3 E1=.c (.pp [.sl fl 3 (Qp cs)])→lk 5 E1=.c (.pp [.int .i64 x.op,.int .i64 x.to,.sl false 1 (Qf x.args),.int .i64 x.n])→lk 8 E1=.c (.ptr x8 0)→lk 24 E1=.c (.bool b)→
   Qae prog (s_im_insOk_4.seq Qw0) (Q6 Qji (fun x H'=>∃x',FrzV H' (un H) x x'∧K x' (H'.frz (un H)))) E1 H4:=by
  intro E1 b hb l1 l3 l5 l8 l24
  refine Qg (Qe l24 ?_ ?_)
  ·intro hc
   refine Qa ?_
   simp only[go_sem]
   refine Qj ?_
   simp only[go_sem]
   exact retf false _ (by rw[insG,hrg,hb,hc];rfl) (by simp[lk])
  intro hc
  rw[hc]at hb
  refine Qh ?_
  simp only[go_sem]
  refine Q4 ?_
  refine Qa ?_
  simp only[go_sem,l1,l3,l5,l8]
  refine Qbdp ?_
  cases hmk:Qd1 x.op with
  |true=>
   simp only[go_sem,cond_true,cond_false,Bool.not_true,Bool.not_false,Qk1,l1,l3,l5,l8,h8]
   refine Qah5 h7 (by omega) (by omega) ?_
   have hT:insT cs[k].regs x=decide (0≤x.to∧x.to≤cs[k].regs-1):=by rw[insT,hmk];rfl
   cases hd:decide (0≤x.to∧x.to≤cs[k].regs-1)with
   |true=>
    simp only[go_sem,cond_true,cond_false,Bool.not_true,Bool.not_false,Qf2,l1,l3,l5,l8,h8]
    refine Qbdp ?_
    simp only[go_sem,cond_true,cond_false,Bool.not_true,Bool.not_false,Qf1,l1,l3,l5,l8,hmk]
    exact rest2 _ false hb (by rw[hT,hd];rfl) (by simp[lk]) (by simp[lk]) (by simp[lk]) (by simp[lk])
   |false=>
    simp only[go_sem,cond_true,cond_false,Bool.not_true,Bool.not_false,Qf2,Qf1,l1,l3,l5,l8,h8]
    exact rest2 _ true hb (by rw[hT,hd];rfl) (by simp[lk]) (by simp[lk]) (by simp[lk]) (by simp[lk])
  |false=>
   have hT:insT cs[k].regs x=decide (x.to=-1):=by rw[insT,hmk];rfl
   simp only[go_sem,cond_true,cond_false,Bool.not_true,Bool.not_false,Qk1,Qf2,l1,l3,l5,l8,h8]
   refine Qbdp ?_
   simp only[go_sem,cond_true,cond_false,Bool.not_true,Bool.not_false,Qf1,l1,l3,l5,l8,hmk]
   refine rest2 _ (!decide (x.to=-1)) hb ?_ ?_ ?_ ?_ ?_
   ·rw[hT];simp
   ·rfl
   ·rfl
   ·rfl
   ·rfl
 cases hi:(decide (1≤x.op)&&decide (x.op≤14))with
 |false=>
  simp only[go_sem,Qk0]
  refine rest _ true ?_ (by simp[lk]) (by simp[lk]) (by simp[lk]) (by simp[lk]) (by simp[lk])
  have:decide (1≤x.op∧x.op≤14)=false:=by simpa using hi
  rw[insH,this];rfl
 |true=>
  simp only[go_sem,h8]
  refine Qih (p:=fun r=>!decide (0≤r∧r≤cs[k].regs-1)) (.mk' _ _ _ _) rfl (fun v K' hv hK'=>Qa5l h7 h8 (by omega) (by omega) hK') ?_
  simp only[go_sem,Qk0]
  refine rest _ (x.args.any fun r=>!decide (0≤r∧r≤cs[k].regs-1)) ?_ (by simp[lk]) (by simp[lk]) (by simp[lk]) (by simp[lk]) (by simp[lk])
  have:decide (1≤x.op∧x.op≤14)=true:=by simpa using hi
  rw[insH,this,Qav1,Qoo];simp
end Go.AE.Y

namespace Go.AE.Y
attribute [local go_sem] cond_true cond_false Bool.not_true Bool.not_false
open Go.Proofs.Tryz
variable {H:Heap}{K:V→Heap→Prop}
theorem Qanq {fl:Bool}{l:List InsD}{f:Nat}{caps:List C}{p:InsD→Bool}
  (hf:∀(x:InsD) (H1:Heap) (K':V→Heap→Prop),x∈l→(∀H2,Upd H1 H2 []→K' (.c (.bool (p x))) H2)→Qv prog f ([.ag x.cells]++caps.map .c) H1 K')
  (hK:∀(r:Int) (H':Heap),Upd H H' []→decide (0≤r)=l.any p→K (.c (.int .i64 r)) H') :
  Qv prog Qdb [.c (.sl fl 4 (Qbo l)),.c (.fn f caps)] H K:=by
 refine Qz ?_
 refine Qb Qar Qv6 ?_
 refine Qa ?_
 simp only[go_sem]
 refine Q4 ?_
 refine Qa ?_
 simp only[go_sem,Qan]
 intro hl
 simp only[LIM]at hl
 refine Qg (Qc (Qs (fun m e1 H1=>∃(i:Nat),m=l.length-i∧i≤l.length∧Kn H H1 [] []∧(∀x∈l.take i,p x=false)∧e1=[(0,.c (.sl fl 4 (Qbo l))),(1,.c (.fn f caps)),(7,.c (.int .i64 l.length)),(8,.c (.int .i64 i))]) l.length ?_ ?_))
 ·exact⟨0,by omega,by omega,Kn.start0 H,by simp,rfl⟩
 ·rintro m e1 H1 ⟨i,hm,hi,kn,hall,rfl⟩
  refine Qa ?_
  simp only[go_sem]
  refine Qg (Qe rfl ?_ ?_)
  ·intro hc
   have hlt:i<l.length:=by simpa using hc
   refine Qh ?_
   simp only[go_sem]
   refine Qg (Qc ?_)
   refine Qa ?_
   simp only[go_sem]
   refine Qa ?_
   simp only[go_sem,hlt,Qan,Qbs _ _ hlt,InsD.take4,InsD.allOw,InsD.len4]
   refine hf _ _ _ (List.getElem_mem hlt) fun H2 hu=>?_
   have kn:=kn.call0 hu
   refine Qe rfl ?_ ?_
   ·intro hc2
    refine Qa ?_
    simp only[go_sem]
    refine Qj ?_
    simp only[go_sem,X.next,Q6,Qab,Qdu,List.mem_singleton,forall_eq,RS.op]
    refine⟨_,.c _ _ (Qi rfl),hK _ _ kn.fin ?_⟩
    have:l.any p=true:=List.any_eq_true.2 ⟨_,List.getElem_mem hlt,hc2⟩
    rw[this];simp
   ·intro hc2
    refine Qh ?_
    simp only[go_sem]
    refine Qq ?_
    simp only[go_sem,X.next]
    refine⟨Qo (by omega) (by omega),l.length-(i+1),by omega,i+1,rfl,by omega,kn,?_,rfl⟩
    rw[List.take_succ_eq_append_getElem hlt]
    intro x hx
    rcases List.mem_append.1 hx with hx|hx
    ·exact hall x hx
    ·simp only[List.mem_singleton]at hx;subst hx;exact hc2
  ·intro hc
   have hge:l.length≤i:=by simpa using hc
   rw[List.take_of_length_le hge]at hall
   refine Qr ?_
   simp only[go_sem,X.next]
   refine Qa ?_
   simp only[go_sem]
   refine Qj ?_
   simp only[go_sem,Q6,Qab,Qdu,List.mem_singleton,forall_eq,RS.op]
   refine⟨_,.c _ _ (Qi rfl),hK _ _ kn.fin ?_⟩
   have:l.any p=false:=by
    cases hc:l.any p with
    |false=>rfl
    |true=>obtain⟨x,hx,hp⟩:=List.any_eq_true.1 hc;rw[hall x hx]at hp;exact absurd hp (by simp)
   rw[this];rfl
theorem Q65 {fl:Bool}{l:List InsD}{f:Nat}{caps:List C}{p:InsD→Bool}
  (hf:∀(x:InsD) (H1:Heap) (K':V→Heap→Prop),x∈l→(∀H2,Upd H1 H2 []→K' (.c (.bool (p x))) H2)→Qv prog f ([.ag x.cells]++caps.map .c) H1 K')
  (hK:∀(H':Heap),Upd H H' []→K (.c (.bool (l.any p))) H') :
  Qv prog Qcg [.c (.sl fl 4 (Qbo l)),.c (.fn f caps)] H K:=by
 refine Qb Qar Qof ?_
 refine Qa ?_
 simp only[go_sem]
 refine Qa ?_
 simp only[go_sem]
 refine Qanq hf fun r H' hu hr=>?_
 simp only[go_sem,Qdl]
 refine Qj ?_
 simp only[go_sem,Q6,Qab,Qe2,List.mem_singleton,forall_eq,RS.op]
 rw[hr];exact hK _ hu
theorem Qty {x5:Nat}{q:CodeD}{v:Int}(h5:H x5=.st q.cells)(hr:-(2^62)≤q.regs)(hr2:q.regs≤2^62)(hK:K (.c (.bool (decide (0≤v∧v≤q.regs-1)))) H) :
  Qv prog Qah [.c (.int .i64 v),.c (.ptr x5 0)] H K:=by
 refine Qb Qar Qaeo ?_
 refine Qa ?_
 simp only[go_sem]
 refine Qa ?_
 simp only[go_sem,h5,CodeD.cells]
 refine⟨Qo (by omega) (by omega),?_⟩
 refine Qda ?_
 simp only[go_sem,Qjt]
 refine Qj ?_
 simp only[go_sem,Q6,Qab,Qsk,List.mem_singleton,forall_eq,RS.op]
 have e:(decide (0≤v)&&decide (v≤q.regs-1))=decide (0≤v∧v≤q.regs-1):=by simp
 rw[e];exact hK
theorem Qav3 {x5:Nat}{q:CodeD}{v:Int}(h5:H x5=.st q.cells)(hb:q.blocks.length≤2 ^ 38)(hK:K (.c (.bool (!Q4z (Qm q.blocks).length v))) H) :
  Qv prog Qgg [.c (.int .i64 v),.c (.ptr x5 0)] H K:=by
 refine Qb Qar Qaep ?_
 refine Qa ?_
 simp only[go_sem]
 refine Qa ?_
 simp only[go_sem,h5,CodeD.cells,Qk]
 intro _
 refine⟨Qo (by omega) (by omega),?_⟩
 refine Qda ?_
 simp only[go_sem,Qju]
 refine Qj ?_
 simp only[go_sem,Q6,Qab,Qsl,List.mem_singleton,forall_eq,RS.op]
 have e:(decide (1≤v)&&decide (v≤(q.blocks.length:Int)-1))=Q4z (Qm q.blocks).length v:=by simp[Q4z,Qk]
 rw[e];exact hK
theorem Qav4 {cs:List CodeD}{fl:Bool}{k:Nat}{x:InsD}(hk:k<cs.length)(hr:0≤cs[k].regs)(hr2:cs[k].regs≤300)(hcl:cs.length≤100)(hK:∀(H':Heap),Upd H H' []→K (.c (.bool (!insG cs k x))) H') :
  Qv prog Qgh [.ag x.cells,.c (.pp [.sl fl 3 (Qp cs)]),.c (.pp [.int .i64 k])] H K:=by
 refine Qb Qar Qaeq ?_
 refine Qa ?_
 simp only[go_sem,InsD.cells]
 refine Qa ?_
 simp only[go_sem]
 refine Qbix hk hr hr2 hcl fun H' hu=>?_
 simp only[go_sem,Qjv]
 refine Qj ?_
 simp only[go_sem,Q6,Qab,Qsm,List.mem_singleton,forall_eq,RS.op]
 exact hK _ hu
theorem Qav5 {x5 x6:Nat}{q:CodeD}{v:Int}(h5:H x5=.st q.cells)(h6:H x6=.st [.fn Qah [.ptr x5 0]])(hr:-(2^62)≤q.regs)(hr2:q.regs≤2^62)(hK:K (.c (.bool (!decide (0≤v∧v≤q.regs-1)))) H) :
  Qv prog Qgi [.c (.int .i64 v),.c (.ptr x6 0)] H K:=by
 refine Qb Qar Qaer ?_
 refine Qa ?_
 simp only[go_sem]
 refine Qa ?_
 simp only[go_sem,h6,List.cons_append,List.nil_append,List.map_cons,List.map_nil]
 refine Qty h5 hr hr2 ?_
 simp only[go_sem,Qjw]
 refine Qj ?_
 simp only[go_sem,Q6,Qab,Qsn,List.mem_singleton,forall_eq,RS.op]
 exact hK
end Go.AE.Y

namespace Go.AE.Y
attribute [local go_sem] cond_true cond_false Bool.not_true Bool.not_false
open Go.Proofs.Tryz
variable {H:Heap}{K:V→Heap→Prop}
attribute [local instance] Classical.propDecidable
def blkC (b:BlkD):Obj:=.st [.sl false 2 (Qaj b.phis),.sl false 4 (Qbo b.ins),.int .i64 b.jump,.int .i64 b.on,.sl false 1 (Qf b.next)]
theorem Qanz {cs:List CodeD}{k:Nat}{hk:k<cs.length}(h:¬Qaei cs k hk):decide (Qaei cs k hk)=false:=decide_eq_false h
set_option maxHeartbeats 2000000 in
theorem Qbeb {cs:List CodeD}{fl:Bool}{k:Nat}(hk:k<cs.length)(hcl:cs.length≤100)(hfit:cs[k].fits)(hK:∀(H':Heap),Upd H H' []→K (.c (.bool (decide (Qaei cs k hk)))) H') :
  Qv prog Qn2 [.ag [.sl fl 3 (Qp cs)],.c (.int .i64 k)] H K:=by
 refine Qz ?_
 refine Qb Qar Qawr ?_
 have retf:∀(v:Bool) (e:Env) (H':Heap) (L:List (Nat×Obj)),decide (Qaei cs k hk)=v→Kn H H' [] L→lk 4 e=.c (.bool v)→Q6 Qgu (fun x H'=>∃x',FrzV H' (un H) x x'∧K x' (H'.frz (un H))) .ret e H':=by
  intro v e H' L hb kn h3
  simp only[go_sem,Q6,Qab,Qgu,List.mem_singleton,forall_eq,RS.op,h3]
  rw[←hb];exact⟨_,.c _ _ (Qi rfl),hK _ kn.fin⟩
 obtain⟨q,hq⟩:∃q,cs[k]=q:=⟨_,rfl⟩
 have hP:Qaei cs k hk=(Qt7 q=true∧∀(b:Nat) (h:b<q.blocks.length),blkG cs k b q q.blocks[b]=true):=by subst hq;rfl
 refine Qa ?_
 simp only[go_sem]
 refine Qa ?_
 simp only[go_sem,hk,Q1,Qak _ _ hk,CodeD.cells,hq]
 intro x5 hx5 H1 h1
 have kn:=(Kn.start0 H).al hx5 h1
 have hx5:=kn.l 0 rfl
 simp only[go_sem,Qsv,hx5]
 intro H2 h2
 have kn:Kn H H2 [] [(x5,.st q.cells)]:=kn.stL 0 rfl h2
 have hx5:H2 x5=.st [.int .i64 q.params,.int .i64 q.regs,.sl false 5 (Qm q.blocks)]:=kn.l 0 rfl
 refine Q4 ?_
 refine Qa ?_
 simp only[go_sem,hx5]
 refine Qda ?_
 have rest0:∀(b:Bool) (E1:Env),Qt7 q=(!b)→lk 2 E1=.c (.pp [.sl fl 3 (Qp cs)])→lk 3 E1=.c (.pp [.int .i64 k])→lk 5 E1=.c (.ptr x5 0)→lk 36 E1=.c (.bool b)→
   Qae prog (s_im_codeOk_4.seq Qsu) (Q6 Qgu (fun x H'=>∃x',FrzV H' (un H) x x'∧K x' (H'.frz (un H)))) E1 H2:=by
  intro b E1 hb l2 l3 l5 l36
  refine Qg (Qe l36 ?_ ?_)
  ·intro hc
   refine Qa ?_
   simp only[go_sem]
   refine Qj ?_
   simp only[go_sem]
   exact retf false _ _ _ (Qanz fun h=>by rw[hP,hb,hc]at h;simp at h) kn (by simp[lk])
  intro hc
  rw[hc]at hb
  have hb':=hb
  simp only[Qt7,Bool.not_false,Bool.and_eq_true,decide_eq_true_eq]at hb'
  obtain⟨hr0,hr1,hb0,hbl⟩:0≤q.regs∧q.regs≤300∧0<q.blocks.length∧q.blocks.length≤160:=by omega
  refine Qh ?_
  simp only[go_sem]
  refine Qa ?_
  simp only[go_sem,l2,l3,l5]
  intro x6 hx6 H3 h3
  have kn:=kn.al hx6 h3
  have hx6:=kn.l 1 rfl
  simp only[go_sem,Qsw,hx6,l2,l3,l5]
  intro H4 h4
  have kn:Kn H H4 [] [(x5,.st q.cells),(x6,.st [.fn Qah [.ptr x5 0]])]:=kn.stL 1 rfl h4
  have hx5:H4 x5=.st [.int .i64 q.params,.int .i64 q.regs,.sl false 5 (Qm q.blocks)]:=kn.l 0 rfl
  refine Q4 ?_
  refine Qa ?_
  simp only[go_sem,hx5,Qk]
  intro _
  refine Qg (Qc (Qs (fun m e1 H1=>∃(j:Nat),m=q.blocks.length-j∧j≤q.blocks.length∧(∀(i:Nat) (hi:i<q.blocks.length),i<j→blkG cs k i q q.blocks[i]=true)∧Kn H H1 [] [(x5,.st q.cells),(x6,.st [.fn Qah [.ptr x5 0]])]∧
   e1=[(2,.c (.pp [.sl fl 3 (Qp cs)])),(3,.c (.pp [.int .i64 k])),(5,.c (.ptr x5 0)),(6,.c (.ptr x6 0)),(39,.c (.sl false 5 (Qm q.blocks))),(40,.c (.int .i64 q.blocks.length)),(41,.c (.int .i64 j))]) q.blocks.length ?_ ?_))
  ·exact⟨0,by omega,by omega,fun _ _ h=>by omega,kn,rfl⟩
  ·rintro m e1 H5 ⟨j,hm,hj,hdone,kn,rfl⟩
   refine Qa ?_
   simp only[go_sem]
   refine Qg (Qe rfl ?_ ?_)
   ·intro hc1
    have hlt:j<q.blocks.length:=by simpa using hc1
    have hbf:q.blocks[j].ins.length≤2 ^ 38∧q.blocks[j].phis.length≤2 ^ 38:=by subst hq;exact hfit _ (List.getElem_mem hlt)
    refine Qh ?_
    simp only[go_sem]
    refine Qdm (fun e2 H2=>Kn H H2 [] [(x5,.st q.cells),(x6,.st [.fn Qah [.ptr x5 0]])]∧blkG cs k j q q.blocks[j]=true∧lk 2 e2=.c (.pp [.sl fl 3 (Qp cs)])∧lk 3 e2=.c (.pp [.int .i64 k])∧lk 5 e2=.c (.ptr x5 0)∧lk 6 e2=.c (.ptr x6 0)∧
     lk 39 e2=.c (.sl false 5 (Qm q.blocks))∧lk 40 e2=.c (.int .i64 q.blocks.length)∧lk 41 e2=.c (.int .i64 j)) ?_ ?_
    ·intro Q hnr hrt _
     replace hrt:∀e H',Q6 Qgu (fun x H'=>∃x',FrzV H' (un H) x x'∧K x' (H'.frz (un H))) .ret e H'→Q .ret e H':=fun e H' h=>hrt e H' (by simpa only[go_sem,X.next]using h)
     have retq:∀(e:Env) (H':Heap) (L:List (Nat×Obj)),blkG cs k j q q.blocks[j]=false→Kn H H' [] L→lk 4 e=.c (.bool false)→Q .ret e H':=fun e H' L hb kn l4=>
      hrt e H' (retf false e H' L (Qanz fun h=>by rw[hP]at h;rw[h.2 j hlt]at hb;exact absurd hb (by simp)) kn l4)
     have hGd:blkG cs k j q q.blocks[j]=(Qrs q.regs q.blocks[j]&&q.blocks[j].next.all (Q4z (Qm q.blocks).length)&&q.blocks[j].ins.all (insG cs k)&&q.blocks[j].phis.all (phiG q.regs (Q8 (gnx q) (j:Int) (Qm q.blocks).length).length j)):=rfl
     refine Qc ?_
     refine Qa ?_
     simp only[go_sem,hlt,Qk,Q7 _ _ hlt,BlkD.cells]
     obtain⟨y,hy⟩:∃y,q.blocks[j]=y:=⟨_,rfl⟩
     rw[hy]at hGd retq hbf hnr
     rw[hy]
     intro x8 hx8 H6 h6
     have kn:=kn.al hx8 h6
     have hx8:=kn.l 2 rfl
     simp only[go_sem,Qsx,hx8]
     intro H7 h7
     have kn:Kn H H7 [] [(x5,.st q.cells),(x6,.st [.fn Qah [.ptr x5 0]]),(x8,blkC y)]:=kn.stL 2 rfl h7
     have hx5:H7 x5=.st [.int .i64 q.params,.int .i64 q.regs,.sl false 5 (Qm q.blocks)]:=kn.l 0 rfl
     have hx5':H7 x5=.st q.cells:=kn.l 0 rfl
     have hx6:=kn.l 1 rfl
     have hx8:H7 x8=.st [.sl false 2 (Qaj y.phis),.sl false 4 (Qbo y.ins),.int .i64 y.jump,.int .i64 y.on,.sl false 1 (Qf y.next)]:=kn.l 2 rfl
     have rest3:∀(E1:Env) (H8:Heap),Qrs q.regs y=true→y.next.all (Q4z (Qm q.blocks).length)=true→y.ins.all (insG cs k)=true→Kn H H8 [] [(x5,.st q.cells),(x6,.st [.fn Qah [.ptr x5 0]]),(x8,blkC y)]→
       lk 2 E1=.c (.pp [.sl fl 3 (Qp cs)])→lk 3 E1=.c (.pp [.int .i64 k])→lk 5 E1=.c (.ptr x5 0)→lk 6 E1=.c (.ptr x6 0)→lk 7 E1=.c (.int .i64 j)→lk 8 E1=.c (.ptr x8 0)→
       lk 39 E1=.c (.sl false 5 (Qm q.blocks))→lk 40 E1=.c (.int .i64 q.blocks.length)→lk 41 E1=.c (.int .i64 j)→Qae prog Qiy (X.inBlock 1 Q) E1 H8:=by
      intro E1 H8 g1 g2 g3 kn l2 l3 l5 l6 l7 l8 l39 l40 l41
      have hx5:H8 x5=.st [.int .i64 q.params,.int .i64 q.regs,.sl false 5 (Qm q.blocks)]:=kn.l 0 rfl
      have hin:(decide (0≤(j:Int))&&decide ((j:Int)≤((Qm q.blocks).length:Int)-1))=true:=by rw[Qk];simp;omega
      refine Qa ?_
      simp only[go_sem,hx5,l2,l3,l5,l6,l7,l8,l39,l40,l41]
      refine Qa8p (rows:=Qm q.blocks) (nx:=gnx q) (Qht _ q false) fun fl' H9 hu=>?_
      have kn:=kn.call0 hu
      rw[Qaj9,if_pos hin]
      generalize hnp:Q8 (gnx q) (j:Int) (Qm q.blocks).length=ps
      rw[hnp]at hGd
      simp only[go_sem,Qov,l2,l3,l5,l6,l7,l8,l39,l40,l41,Qd]
      intro _
      have hx8:H9 x8=.st [.sl false 2 (Qaj y.phis),.sl false 4 (Qbo y.ins),.int .i64 y.jump,.int .i64 y.on,.sl false 1 (Qf y.next)]:=kn.l 2 rfl
      refine Qa ?_
      simp only[go_sem,hx8,Q9]
      intro _
      refine Qc (Qs (fun m e1 H1=>∃(i:Nat),m=y.phis.length-i∧i≤y.phis.length∧(y.phis.take i).all (phiG q.regs ps.length j)=true∧Kn H H1 [] [(x5,.st q.cells),(x6,.st [.fn Qah [.ptr x5 0]])]∧
       e1=[(2,.c (.pp [.sl fl 3 (Qp cs)])),(3,.c (.pp [.int .i64 k])),(5,.c (.ptr x5 0)),(6,.c (.ptr x6 0)),(7,.c (.int .i64 j)),(9,.c (.int .i64 ps.length)),(39,.c (.sl false 5 (Qm q.blocks))),(40,.c (.int .i64 q.blocks.length)),(41,.c (.int .i64 j)),(91,.c (.sl false 2 (Qaj y.phis))),(92,.c (.int .i64 y.phis.length)),(93,.c (.int .i64 i))]) y.phis.length ?_ ?_)
      ·exact⟨0,by omega,by omega,rfl,kn.drop (A:=[_,_]),rfl⟩
      ·rintro m2 e1 H10 ⟨i,hm2,hi,hall,kn,rfl⟩
       refine Qa ?_
       simp only[go_sem]
       refine Qg (Qe rfl ?_ ?_)
       ·intro hc2
        have hil:i<y.phis.length:=by simpa using hc2
        refine Qh ?_
        simp only[go_sem]
        refine Qg (Qc ?_)
        refine Qa ?_
        simp only[go_sem,hil,Q9,Qbg _ _ hil,PhiD.cells]
        obtain⟨z,hz⟩:∃z,y.phis[i]=z:=⟨_,rfl⟩
        rw[hz]
        intro x11 hx11 H11 h11
        have kn:=kn.al hx11 h11
        have hx11:=kn.l 2 rfl
        simp only[go_sem,Qow,hx11]
        intro H12 h12
        have kn:Kn H H12 [] ([(x5,.st q.cells),(x6,.st [.fn Qah [.ptr x5 0]])]++[(x11,.st [.int .i64 z.to,.sl false 1 (Qf z.args)])]):=kn.stL 2 rfl h12
        have hx5':H12 x5=.st q.cells:=kn.l 0 rfl
        have hx6:=kn.l 1 rfl
        have hx11:=kn.l 2 rfl
        have fin:∀(b3:Bool) (E1:Env),phiG q.regs ps.length j z=(!b3)→lk 2 E1=.c (.pp [.sl fl 3 (Qp cs)])→lk 3 E1=.c (.pp [.int .i64 k])→lk 5 E1=.c (.ptr x5 0)→lk 6 E1=.c (.ptr x6 0)→lk 7 E1=.c (.int .i64 j)→lk 9 E1=.c (.int .i64 ps.length)→
          lk 39 E1=.c (.sl false 5 (Qm q.blocks))→lk 40 E1=.c (.int .i64 q.blocks.length)→lk 41 E1=.c (.int .i64 j)→lk 91 E1=.c (.sl false 2 (Qaj y.phis))→lk 92 E1=.c (.int .i64 y.phis.length)→lk 93 E1=.c (.int .i64 i)→lk 118 E1=.c (.bool b3)→
          Qae prog Qsr (X.inBlock 3 (X.sq prog Qss (X.next (fun e2 H2=>∃m,m<m2∧∃(i:Nat),m=y.phis.length-i∧i≤y.phis.length∧(y.phis.take i).all (phiG q.regs ps.length j)=true∧Kn H H2 [] [(x5,.st q.cells),(x6,.st [.fn Qah [.ptr x5 0]])]∧
           e2=[(2,.c (.pp [.sl fl 3 (Qp cs)])),(3,.c (.pp [.int .i64 k])),(5,.c (.ptr x5 0)),(6,.c (.ptr x6 0)),(7,.c (.int .i64 j)),(9,.c (.int .i64 ps.length)),(39,.c (.sl false 5 (Qm q.blocks))),(40,.c (.int .i64 q.blocks.length)),(41,.c (.int .i64 j)),(91,.c (.sl false 2 (Qaj y.phis))),(92,.c (.int .i64 y.phis.length)),(93,.c (.int .i64 i))])
           (X.inBlock 2 (X.inBlock 1 Q))))) E1 H12:=by
         intro b3 E1 hph l2 l3 l5 l6 l7 l9 l39 l40 l41 l91 l92 l93 l118
         refine Qe l118 ?_ ?_
         ·intro hc3
          refine Qa ?_
          simp only[go_sem]
          refine Qj ?_
          simp only[go_sem,X.next]
          exact retq _ _ _ (by rw[hGd,Qai7 hil (by rw[hz,hph,hc3];rfl)];simp) kn (by simp[lk])
         ·intro hc3
          refine Qh ?_
          simp only[go_sem]
          refine Qq ?_
          simp only[go_sem,X.next,l2,l3,l5,l6,l7,l9,l39,l40,l41,l91,l92,l93]
          exact⟨Qo (by omega) (by omega),y.phis.length-(i+1),by omega,i+1,rfl,by omega,by rw[Q6s hil,hall,hz,hph,hc3];rfl,kn.drop,rfl⟩
        have hpG:phiG q.regs ps.length j z=(!decide (j=0)&&decide ((z.args.length:Int)=ps.length)&&Qoo q.regs z.args&&decide (0≤z.to∧z.to≤q.regs-1)):=rfl
        refine Qa ?_
        simp only[go_sem]
        cases hj0:decide ((j:Int)=0)with
        |true=>
         have hj0':decide (j=0)=true:=by simpa using hj0
         simp only[go_sem,Qco,Qcn]
         exact fin true _ (by rw[hpG,hj0'];rfl) (by simp[lk]) (by simp[lk]) (by simp[lk]) (by simp[lk]) (by simp[lk]) (by simp[lk]) (by simp[lk]) (by simp[lk]) (by simp[lk]) (by simp[lk]) (by simp[lk]) (by simp[lk]) (by simp[lk])
        |false=>
         have hj0':decide (j=0)=false:=by simpa using hj0
         simp only[go_sem,hx11,hx6,List.cons_append,List.nil_append,List.map_cons,List.map_nil]
         refine Qty hx5' (by omega) (by omega) ?_
         cases ht:decide (0≤z.to∧z.to≤q.regs-1)with
         |false=>
          simp only[go_sem,Qco,Qcn]
          exact fin true _ (by rw[hpG,ht];simp) (by simp[lk]) (by simp[lk]) (by simp[lk]) (by simp[lk]) (by simp[lk]) (by simp[lk]) (by simp[lk]) (by simp[lk]) (by simp[lk]) (by simp[lk]) (by simp[lk]) (by simp[lk]) (by simp[lk])
         |true=>
          by_cases hal:(z.args.length:Int)=ps.length
          ·simp only[go_sem,Qco,hx11,Qd,hal,not_true_eq_false,decide_false,decide_true,Bool.not_true]
           intro _
           refine Qih (p:=fun r=>!decide (0≤r∧r≤q.regs-1)) (.mk' _ _ _ _) rfl (fun v K' hv hK'=>Qav5 hx5' hx6 (by omega) (by omega) hK') ?_
           simp only[go_sem,Qcn]
           refine fin (z.args.any fun r=>!decide (0≤r∧r≤q.regs-1)) _ ?_ (by simp[lk]) (by simp[lk]) (by simp[lk]) (by simp[lk]) (by simp[lk]) (by simp[lk]) (by simp[lk]) (by simp[lk]) (by simp[lk]) (by simp[lk]) (by simp[lk]) (by simp[lk]) (by simp[lk])
           rw[hpG,hj0',ht,Qav1,hal,Qoo];simp
          ·simp only[go_sem,Qco,Qcn,hx11,Qd,hal,not_false_eq_true,decide_false,decide_true,Bool.not_false]
           intro _
           exact fin true _ (by rw[hpG];simp[hal]) (by simp[lk]) (by simp[lk]) (by simp[lk]) (by simp[lk]) (by simp[lk]) (by simp[lk]) (by simp[lk]) (by simp[lk]) (by simp[lk]) (by simp[lk]) (by simp[lk]) (by simp[lk]) (by simp[lk])
       ·intro hc2
        have hge:y.phis.length≤i:=by simpa using hc2
        rw[List.take_of_length_le hge]at hall
        refine Qr ?_
        simp only[go_sem,X.next]
        exact hnr _ _ ⟨kn,by rw[hGd,g1,g2,g3,hall];rfl,rfl,rfl,rfl,rfl,rfl,rfl,rfl⟩
     have rest2:∀(b1:Bool) (E1:Env),Qrs q.regs y=(!b1)→lk 2 E1=.c (.pp [.sl fl 3 (Qp cs)])→lk 3 E1=.c (.pp [.int .i64 k])→lk 5 E1=.c (.ptr x5 0)→lk 6 E1=.c (.ptr x6 0)→lk 7 E1=.c (.int .i64 j)→lk 8 E1=.c (.ptr x8 0)→
       lk 39 E1=.c (.sl false 5 (Qm q.blocks))→lk 40 E1=.c (.int .i64 q.blocks.length)→lk 41 E1=.c (.int .i64 j)→lk 75 E1=.c (.bool b1)→Qae prog (s_im_codeOk_11.seq Qst) (X.inBlock 1 Q) E1 H7:=by
      intro b1 E1 hb1 l2 l3 l5 l6 l7 l8 l39 l40 l41 l75
      refine Qg (Qe l75 ?_ ?_)
      ·intro hc2
       refine Qa ?_
       simp only[go_sem]
       refine Qj ?_
       simp only[go_sem]
       exact retq _ _ _ (by rw[hGd,hb1,hc2];simp) kn (by simp[lk])
      intro hc2
      rw[hc2]at hb1
      refine Qh ?_
      simp only[go_sem]
      refine Q4 ?_
      refine Qa ?_
      simp only[go_sem,hx8,l2,l3,l5,l6,l7,l8,l39,l40,l41]
      refine Qih (p:=fun v=>!Q4z (Qm q.blocks).length v) (.mk' _ _ _ _) rfl (fun v K' hv hK'=>Qav3 hx5' (by omega) hK') ?_
      have fin:∀(b:Bool) (E1:Env) (H8:Heap),(y.next.all (Q4z (Qm q.blocks).length)&&y.ins.all (insG cs k))=(!b)→Kn H H8 [] [(x5,.st q.cells),(x6,.st [.fn Qah [.ptr x5 0]]),(x8,blkC y)]→lk 2 E1=.c (.pp [.sl fl 3 (Qp cs)])→lk 3 E1=.c (.pp [.int .i64 k])→lk 5 E1=.c (.ptr x5 0)→lk 6 E1=.c (.ptr x6 0)→lk 7 E1=.c (.int .i64 j)→lk 8 E1=.c (.ptr x8 0)→
        lk 39 E1=.c (.sl false 5 (Qm q.blocks))→lk 40 E1=.c (.int .i64 q.blocks.length)→lk 41 E1=.c (.int .i64 j)→lk 85 E1=.c (.bool b)→Qae prog (s_im_codeOk_14.seq Qiy) (X.inBlock 1 Q) E1 H8:=by
       intro b E1 H8 hb kn l2 l3 l5 l6 l7 l8 l39 l40 l41 l85
       refine Qg (Qe l85 ?_ ?_)
       ·intro hc3
        refine Qa ?_
        simp only[go_sem]
        refine Qj ?_
        simp only[go_sem]
        exact retq _ _ _ (by rw[hGd,Bool.and_assoc (Qrs _ _),hb,hc3];simp) kn (by simp[lk])
       ·intro hc3
        rw[hc3]at hb
        simp only[Bool.not_false,Bool.and_eq_true]at hb
        refine Qh ?_
        simp only[go_sem]
        exact rest3 E1 H8 hb1 hb.1 hb.2 kn l2 l3 l5 l6 l7 l8 l39 l40 l41
      rw[Qav1]
      cases ha:y.next.all (Q4z (Qm q.blocks).length)with
      |false=>
       simp only[go_sem,Qg2,Qg1,l2,l3,l5,l6,l7,l8,l39,l40,l41]
       exact fin true _ _ (by rw[ha];rfl) kn (by simp[lk]) (by simp[lk]) (by simp[lk]) (by simp[lk]) (by simp[lk]) (by simp[lk]) (by simp[lk]) (by simp[lk]) (by simp[lk]) (by simp[lk])
      |true=>
       simp only[go_sem,Qg2,hx8,l2,l3,l5,l6,l7,l8,l39,l40,l41]
       refine Q65 (p:=fun x=>!insG cs k x) (fun x H1 K' hx hK'=>Qav4 hk (by rw[hq];exact hr0) (by rw[hq];exact hr1) hcl hK') fun H8 hu=>?_
       have kn:=kn.call0 hu
       simp only[go_sem,Qg1,l2,l3,l5,l6,l7,l8,l39,l40,l41]
       refine fin (y.ins.any fun x=>!insG cs k x) _ _ ?_ kn (by simp[lk]) (by simp[lk]) (by simp[lk]) (by simp[lk]) (by simp[lk]) (by simp[lk]) (by simp[lk]) (by simp[lk]) (by simp[lk]) (by simp[lk])
       rw[ha,←List.not_all_eq_any_not];simp
     refine Q4 ?_
     refine Qal ?_
     simp only[go_sem,hx8,Qd]
     refine Qaxa ?_
     have hjG:Qrs q.regs y=(decide ((y.next.length:Int)=Qmu y.jump)&&if y.jump=1 then decide (y.on=0)else decide (0≤y.on∧y.on≤q.regs-1)):=rfl
     by_cases hn:(y.next.length:Int)=Qmu y.jump
     ·have hjmp:y.jump=1∨(y.jump=2∨y.jump=3)∧¬y.jump=1:=by
       rw[Qmu]at hn
       split at hn
       ·exact .inl ‹_›
       ·split at hn
        ·omega
        ·split at hn
         ·omega
         ·omega
      simp only[go_sem,Qg0,hx8,Qd,hn,not_true_eq_false,decide_false,decide_true,Bool.not_true]
      refine Qano ?_
      rcases hjmp with h1|⟨h1,h2⟩
      ·have hu:(decide (y.jump=2) || decide (y.jump=3))=false:=by simp[h1]
       simp only[go_sem,Qeu,Qc6,hu,hx8]
       refine Qano ?_
       simp only[go_sem,Qc5,hu,hx8]
       exact rest2 (!decide (y.on=0)) _ (by rw[hjG,if_pos h1,hn];simp) (by simp[lk]) (by simp[lk]) (by simp[lk]) (by simp[lk]) (by simp[lk]) (by simp[lk]) (by simp[lk]) (by simp[lk]) (by simp[lk]) (by simp[lk])
      ·have hu:(decide (y.jump=2) || decide (y.jump=3))=true:=by simpa using h1
       simp only[go_sem,Qeu,hu,hx8,hx6,List.cons_append,List.nil_append,List.map_cons,List.map_nil]
       refine Qty hx5' (by omega) (by omega) ?_
       cases ho:decide (0≤y.on∧y.on≤q.regs-1)with
       |true=>
        simp only[go_sem,Qc6,hx8]
        refine Qano ?_
        simp only[go_sem,Qc5,hu,hx8]
        exact rest2 false _ (by rw[hjG,if_neg h2,hn,ho];simp) (by simp[lk]) (by simp[lk]) (by simp[lk]) (by simp[lk]) (by simp[lk]) (by simp[lk]) (by simp[lk]) (by simp[lk]) (by simp[lk]) (by simp[lk])
       |false=>
        simp only[go_sem,Qc6,Qc5,hx8]
        exact rest2 true _ (by rw[hjG,if_neg h2,ho];simp) (by simp[lk]) (by simp[lk]) (by simp[lk]) (by simp[lk]) (by simp[lk]) (by simp[lk]) (by simp[lk]) (by simp[lk]) (by simp[lk]) (by simp[lk])
     ·simp only[go_sem,Qg0,Qeu,Qc6,Qc5,hx8,Qd,hn,not_false_eq_true,decide_false,decide_true,Bool.not_false]
      exact rest2 true _ (by rw[hjG];simp[hn]) (by simp[lk]) (by simp[lk]) (by simp[lk]) (by simp[lk]) (by simp[lk]) (by simp[lk]) (by simp[lk]) (by simp[lk]) (by simp[lk]) (by simp[lk])
    ·rintro e2 H8 ⟨kn,hbg,l2,l3,l5,l6,l39,l40,l41⟩
     refine Qq ?_
     simp only[go_sem,X.next,l2,l3,l5,l6,l39,l40,l41]
     refine⟨Qo (by omega) (by omega),q.blocks.length-(j+1),by omega,j+1,rfl,by omega,fun i hi hij=>?_,kn,rfl⟩
     by_cases h:i<j
     ·exact hdone i hi h
     ·have:i=j:=by omega
      subst this;exact hbg
   ·intro hc1
    have hge:q.blocks.length≤j:=by simpa using hc1
    refine Qr ?_
    simp only[go_sem,X.next]
    refine Qa ?_
    simp only[go_sem]
    refine Qj ?_
    exact retf true _ _ _ (decide_eq_true (by rw[hP];exact⟨by rw[hb];rfl,fun b h=>hdone b h (by omega)⟩)) kn (by simp[lk])
 have hH:Qt7 q=(decide (0≤q.params∧q.params≤3)&&decide (q.params≤q.regs∧q.regs≤300)&&decide (1≤(q.blocks.length:Int)∧(q.blocks.length:Int)≤160)):=rfl
 by_cases hr:0≤q.regs∧q.regs≤300
 ·have hr':(decide (0≤q.regs)&&decide (q.regs≤300))=true:=by simpa using hr
  simp only[go_sem,Qiz,hr',hx5]
  refine Qda ?_
  by_cases hp:0≤q.params∧q.params≤3∧q.params≤q.regs
  ·have hp':(decide (0≤q.params)&&decide (q.params≤if q.regs<3 then q.regs else 3))=true:=by
    split <;> simp <;> omega
   simp only[go_sem,Qet,hp',hx5,Qk]
   intro _
   refine Qda ?_
   simp only[go_sem,Qes]
   refine rest0 _ _ ?_ (by simp[lk]) (by simp[lk]) (by simp[lk]) (by simp[lk];rfl)
   have a1:decide (0≤q.params∧q.params≤3)=true:=by simp;omega
   have a2:decide (q.params≤q.regs∧q.regs≤300)=true:=by simp;omega
   rw[hH,a1,a2];simp
  ·have hp':(decide (0≤q.params)&&decide (q.params≤if q.regs<3 then q.regs else 3))=false:=by
    split <;> simp <;> omega
   simp only[go_sem,Qet,Qes,hp',hx5]
   refine rest0 true _ ?_ (by simp[lk]) (by simp[lk]) (by simp[lk]) (by simp[lk])
   rw[hH];simp;omega
 ·have hr':(decide (0≤q.regs)&&decide (q.regs≤300))=false:=by simpa using hr
  simp only[go_sem,Qiz,Qet,Qes,hr',hx5]
  refine rest0 true _ ?_ (by simp[lk]) (by simp[lk]) (by simp[lk]) (by simp[lk])
  rw[hH];simp;omega
end Go.AE.Y

namespace Go.AE.Y
attribute [local go_sem] cond_true cond_false Bool.not_true Bool.not_false
open Go.Proofs.Tryz
variable {H:Heap}{K:V→Heap→Prop}
attribute [local instance] Classical.propDecidable
set_option maxHeartbeats 1000000 in
theorem Qkw {cs:List CodeD}{fl:Bool}(hfit:∀c∈cs,c.fits)(hK:∀(H':Heap),Upd H H' []→K (.c (.bool (Qcb cs))) H') :
  Qv prog Qcj [.ag [.sl fl 3 (Qp cs)]] H K:=by
 refine Qz ?_
 refine Qb Qar Qaem ?_
 have retf:∀(b:Bool) (e:Env) (H':Heap) (L:List (Nat×Obj)),Qcb cs=b→Kn H H' [] L→lk 2 e=.c (.bool b)→Q6 Qis (fun x H'=>∃x',FrzV H' (un H) x x'∧K x' (H'.frz (un H))) .ret e H':=by
  intro b e H' L hb kn h3
  simp only[go_sem,Q6,Qab,Qis,List.mem_singleton,forall_eq,RS.op,h3]
  rw[←hb];exact⟨_,.c _ _ (Qi rfl),hK _ kn.fin⟩
 have kn:=Kn.start0 H
 refine Qa ?_
 simp only[go_sem]
 refine Q4 ?_
 refine Qa ?_
 simp only[go_sem,Q1]
 intro hcl
 refine Qda ?_
 simp only[go_sem,Qjo]
 refine Qg (Qe rfl ?_ ?_)
 ·intro hc
  have hc':=Qrx hc
  refine Qa ?_
  simp only[go_sem]
  refine Qj ?_
  simp only[go_sem]
  exact retf false _ _ _ (Qrl fun hu=>by have h1:=hu.1;simp at hc';omega) kn (by simp[lk])
 intro hc
 have hc':=Qeh hc
 have hc4:1≤cs.length∧cs.length≤4:=by simp at hc';omega
 refine Qh ?_
 simp only[go_sem]
 refine Qa ?_
 simp only[go_sem]
 refine Q4 ?_
 refine Qa ?_
 simp only[go_sem,Q1]
 intro _
 refine Qg (Qc (Qs (fun m e1 H1=>∃(k:Nat),m=cs.length-k∧k≤cs.length∧Qkd Q6u (cs.take k)≤k * (160 * 549755813888)∧(∀(i:Nat) (hi:i<cs.length),i<k→Qaei cs i hi)∧Kn H H1 [] []∧
  e1=[(1,.c (.pp [.sl fl 3 (Qp cs)])),(3,.c (.int .i64 (Qkd Q6u (cs.take k):Nat))),(12,.c (.sl fl 3 (Qp cs))),(13,.c (.int .i64 cs.length)),(14,.c (.int .i64 k))]) cs.length ?_ ?_))
 ·exact⟨0,by omega,by omega,by simp[Qkd],fun _ _ h=>by omega,kn,rfl⟩
 ·rintro m e1 H1 ⟨k,hm,hk,hsum,hdone,kn,rfl⟩
  refine Qa ?_
  simp only[go_sem]
  refine Qg (Qe rfl ?_ ?_)
  ·intro hc2
   have hlt:k<cs.length:=by simpa using hc2
   have hss:=Qfb (f:=Q6u) hlt
   refine Qh ?_
   simp only[go_sem]
   refine Qg (Qc ?_)
   refine Qa ?_
   simp only[go_sem,hlt,Q1,Qak _ _ hlt,CodeD.cells]
   obtain⟨q,hq⟩:∃q,cs[k]=q:=⟨_,rfl⟩
   have hqf:q.fits:=by subst hq;exact hfit _ (List.getElem_mem hlt)
   rw[hq]
   intro x5 hx5 H2 h2
   have kn:=kn.al hx5 h2
   have hx5:=kn.l 0 rfl
   simp only[go_sem,Qjp,hx5]
   intro H3 h3
   have kn:Kn H H3 [] ([]++[(x5,.st [.int .i64 q.params,.int .i64 q.regs,.sl false 5 (Qm q.blocks)])]):=kn.stL 0 rfl h3
   refine Q4 ?_
   refine Qa ?_
   simp only[go_sem]
   refine Qbeb hlt (by omega) (by rw[hq];exact hqf) fun H4 hu=>?_
   have kn:=kn.call0 hu
   have hx5:=kn.l 0 rfl
   simp only[go_sem,Qjq]
   refine Qg (Qe rfl ?_ ?_)
   ·intro hc3
    have hno:=of_decide_eq_false (Qrx hc3)
    refine Qa ?_
    simp only[go_sem]
    refine Qj ?_
    simp only[go_sem,X.next]
    exact retf false _ _ _ (Qrl fun hu=>hno (hu.2.1 k hlt)) kn (by simp[lk])
   ·intro hc3
    have hyes:=of_decide_eq_true (Qeh hc3)
    have hbl:q.blocks.length≤160:=by
     have:=hyes.1
     rw[hq]at this
     simp only[Qt7,Bool.and_eq_true,decide_eq_true_eq]at this
     omega
    have hcq:Q6u q≤160 * 549755813888:=Nat.le_trans (Qavs hqf) (Nat.mul_le_mul_right _ hbl)
    have hk4:k * (160 * 549755813888)≤4 * (160 * 549755813888):=Nat.mul_le_mul_right _ (by omega)
    have hk1:(k+1) * (160 * 549755813888)=k * (160 * 549755813888)+160 * 549755813888:=Nat.succ_mul _ _
    rw[hq]at hss
    refine Qh ?_
    simp only[go_sem]
    refine Qa ?_
    simp only[go_sem,hx5]
    refine Qav2 hqf hbl fun H5 hu=>?_
    have kn:=kn.call0 hu
    simp only[go_sem,Qjr]
    refine⟨Qo (by omega) (by omega),?_⟩
    refine Qq ?_
    simp only[go_sem,X.next]
    refine⟨Qo (by omega) (by omega),cs.length-(k+1),by omega,k+1,rfl,by omega,by rw[hss,hk1];omega,fun i hi hik=>?_,kn.drop,?_⟩
    ·by_cases h:i<k
     ·exact hdone i hi h
     ·have:i=k:=by omega
      subst this;exact hyes
    ·rw[hss];rfl
  ·intro hc2
   have hge:cs.length≤k:=by simpa using hc2
   rw[List.take_of_length_le hge]
   refine Qr ?_
   simp only[go_sem,X.next]
   refine Qa ?_
   simp only[go_sem]
   refine Qj ?_
   refine retf (decide (((Qkd Q6u cs:Nat):Int)≤800)) _ _ _ ?_ kn (by simp[lk])
   by_cases hs:Qkd Q6u cs≤800
   ·have h1:Qcb cs=true:=decide_eq_true ⟨by omega,fun i hi=>hdone i hi (by omega),hs⟩
    rw[h1];simp;omega
   ·rw[Qrl fun hu=>hs hu.2.2];simp;omega
noncomputable def hasG (cs:List CodeD)(k:Int):Bool:=Qcb cs&&decide (0≤k∧k≤(cs.length:Int)-1)
theorem Qbea {cs:List CodeD}{fl:Bool}{k:Int}(hfit:∀c∈cs,c.fits)(hK:∀(H':Heap),Upd H H' []→K (.c (.bool (hasG cs k))) H') :
  Qv prog Qn1 [.ag [.sl fl 3 (Qp cs)],.c (.int .i64 k)] H K:=by
 refine Qb Qar Qawq ?_
 refine Qa ?_
 simp only[go_sem]
 refine Qa ?_
 simp only[go_sem]
 refine Qkw hfit fun H' hu=>?_
 have hK:=hK H' hu
 cases hg:Qcb cs with
 |false=>
  simp only[go_sem,Qix,Qiw]
  refine Qj ?_
  simp only[go_sem,Q6,Qab,Qua,List.mem_singleton,forall_eq,RS.op]
  rw[hasG,hg]at hK;exact hK
 |true=>
  simp only[go_sem,Qix,Q1]
  intro hl
  simp only[LIM]at hl
  refine⟨Qo (by omega) (by omega),?_⟩
  refine Qda ?_
  simp only[go_sem,Qiw]
  refine Qj ?_
  simp only[go_sem,Q6,Qab,Qua,List.mem_singleton,forall_eq,RS.op]
  have:hasG cs k=(decide (0≤k)&&decide (k≤(cs.length:Int)-1)):=by rw[hasG,hg];simp
  rw[this]at hK;exact hK
theorem Qbe5 {cs:List CodeD}{fl:Bool}{k:Int}(hfit:∀c∈cs,c.fits)(hK:∀(H':Heap),Upd H H' []→K (.c (.bool (hasG cs k))) H') :
  Qv prog Q7m [.ag [.sl fl 3 (Qp cs)],.c (.int .i64 k)] H K:=by
 refine Qb Qar Qbfk ?_
 refine Qa ?_
 simp only[go_sem]
 refine Qa ?_
 simp only[go_sem]
 refine Qey hfit fun H' hu=>?_
 have hK:=hK H' hu
 cases hg:Qcb cs with
 |false=>
  simp only[go_sem,Qul,Quk]
  refine Qj ?_
  simp only[go_sem,Q6,Qab,Qakb,List.mem_singleton,forall_eq,RS.op]
  rw[hasG,hg]at hK;exact hK
 |true=>
  simp only[go_sem,Qul,Q1]
  intro hl
  simp only[LIM]at hl
  refine⟨Qo (by omega) (by omega),?_⟩
  refine Qc0 ?_
  simp only[go_sem,Quk]
  refine Qj ?_
  simp only[go_sem,Q6,Qab,Qakb,List.mem_singleton,forall_eq,RS.op]
  have:hasG cs k=decide (0≤k∧k≤(cs.length:Int)-1):=by rw[hasG,hg];simp
  rw[this]at hK;exact hK
end Go.AE.Y

namespace Go.AE.Y
attribute [local instance] Classical.propDecidable
structure Flo where
 n:Nat
 nx:Nat→List Nat
 on:Nat→List Nat
 ins:Nat→List (Option Nat×List Nat)
 ph:Nat→List Nat
 ea:Nat→Nat→List Nat
abbrev RS':=Nat→Prop
def Qbiy (x:Option Nat×List Nat)(S:RS'):RS':=fun r=>r∈x.2∨(S r∧x.1≠some r)
def behL (l:List (Option Nat×List Nat))(S:RS'):RS':=l.foldr Qbiy S
theorem Qa8t {l:List (Option Nat×List Nat)}{S T:RS'}(h:∀r,S r→T r):∀r,behL l S r→behL l T r:=by
 induction l with
 |nil=>exact h
 |cons x l ih=>
  rintro r (hr|⟨hr,h2⟩)
  ·exact .inl hr
  ·exact .inr ⟨ih r hr,h2⟩
variable {F:Flo}
def Flo.endS (F:Flo)(X:RS')(b:Nat):RS':=fun r=>X r∨r∈F.on b
def Flo.beh (F:Flo)(X:RS')(b k:Nat):RS':=behL ((F.ins b).drop k) (F.endS X b)
theorem Flo.beh_end (X:RS')(b k:Nat)(h:(F.ins b).length≤k):F.beh X b k=F.endS X b:=by rw[Flo.beh,List.drop_of_length_le h];rfl
theorem Flo.beh_step (X:RS')(b k:Nat)(h:k<(F.ins b).length):F.beh X b k=Qbiy (F.ins b)[k] (F.beh X b (k+1)):=by
 rw[Flo.beh,List.drop_eq_getElem_cons h];rfl
theorem Flo.beh_mono {X Y:RS'}(h:∀r,X r→Y r)(b k:Nat):∀r,F.beh X b k r→F.beh Y b k r:=
 Qa8t fun r hr=>hr.elim (fun h1=>.inl (h r h1)) .inr
def Flo.outT (F:Flo)(I:Nat→RS')(b:Nat):RS':=fun r=>∃m∈F.nx b,I m r∨r∈F.ea b m
def Flo.thru (F:Flo)(X:RS')(b:Nat):RS':=fun r=>F.beh X b 0 r∧r∉F.ph b
def Flo.inT (F:Flo)(I:Nat→RS')(b:Nat):RS':=F.thru (F.outT I b) b
theorem Flo.thru_mono {X Y:RS'}(h:∀r,X r→Y r)(b:Nat):∀r,F.thru X b r→F.thru Y b r:=fun r hr=>⟨Flo.beh_mono h b 0 r hr.1,hr.2⟩
def Flo.fits (F:Flo):Prop:=∀b,b<F.n→∀m∈F.nx b,m<F.n
variable {I J:Nat→RS'}
theorem Flo.outT_mono (hf:F.fits)(h:∀b,b<F.n→∀r,I b r→J b r){b:Nat}(hb:b<F.n):∀r,F.outT I b r→F.outT J b r:=by
 rintro r ⟨m,hm,h1|h1⟩
 ·exact⟨m,hm,.inl (h m (hf b hb m hm) r h1)⟩
 ·exact⟨m,hm,.inr h1⟩
theorem Flo.inT_mono (hf:F.fits)(h:∀b,b<F.n→∀r,I b r→J b r){b:Nat}(hb:b<F.n):∀r,F.inT I b r→F.inT J b r:=
 Flo.thru_mono (Flo.outT_mono hf h hb) b
def Flo.Pre (F:Flo)(J:Nat→RS'):Prop:=∀b,b<F.n→∀r,F.inT J b r→J b r
def Flo.LI (F:Flo)(b:Nat):RS':=fun r=>∀J,F.Pre J→J b r
def Flo.LO (F:Flo)(b:Nat):RS':=F.outT F.LI b
def Flo.LB (F:Flo)(b k:Nat):RS':=F.beh (F.LO b) b k
theorem Flo.LI_pre (hf:F.fits):F.Pre F.LI:=fun b hb r hr J hJ=>hJ b hb r (Flo.inT_mono hf (fun b hb r hr=>hr J hJ) hb r hr)
def Flo.Below (F:Flo)(I:Nat→RS'):Prop:=∀b,b<F.n→∀r,I b r→F.LI b r
theorem Flo.is_least (h1:F.Pre I)(h2:F.Below I){b:Nat}(hb:b<F.n)(r:Nat):I b r↔F.LI b r:=⟨h2 b hb r,fun h=>h I h1⟩
theorem Flo.Below.inT (hf:F.fits)(h:F.Below I){b:Nat}(hb:b<F.n):∀r,F.inT I b r→F.LI b r:=fun r hr=>Flo.LI_pre hf b hb r (Flo.inT_mono hf h hb r hr)
theorem Flo.Below.outT (hf:F.fits)(h:F.Below I){b:Nat}(hb:b<F.n):∀r,F.outT I b r→F.LO b r:=Flo.outT_mono hf h hb
structure Flo.bd (F:Flo)(R:Nat):Prop where
 on:∀b,b<F.n→∀r∈F.on b,r<R
 ins:∀b,b<F.n→∀x∈F.ins b,∀r∈x.2,r<R
 ea:∀b,b<F.n→∀m∈F.nx b,∀r∈F.ea b m,r<R
noncomputable def ascL (R:Nat)(S:RS'):List Nat:=(List.range R).filter fun r=>decide (S r)
theorem Qbd6 {R:Nat}{S:RS'}{r:Nat}:r∈ascL R S↔r<R∧S r:=by simp[ascL]
theorem Qbd5 {R:Nat}{S:RS'}:(ascL R S).Pairwise (· < ·):=List.Pairwise.filter _ List.pairwise_lt_range
theorem Qbh9 {R:Nat}{S:RS'}:(ascL R S).length≤R:=by
 have:=List.length_filter_le (fun r=>decide (S r)) (List.range R)
 simpa[ascL]using this
theorem Qkx {a:List Nat}(ha:a.Nodup):∀{b:List Nat},(∀x∈a,x∈b)→a.length≤b.length:=by
 induction a with
 |nil=>intro b _;simp
 |cons x a ih=>
  intro b h
  have hx:=h x List.mem_cons_self
  have hn:=List.nodup_cons.1 ha
  have:=ih hn.2 (b:=b.erase x) fun y hy=>(List.mem_erase_of_ne (fun he=>by subst he;exact hn.1 hy)).2 (h y (List.mem_cons_of_mem _ hy))
  rw[List.length_erase_of_mem hx]at this
  have hp:=List.length_pos_of_mem hx
  simp only[List.length_cons];omega
theorem Qaou {a b:List Nat}(ha:a.Nodup)(h:∀x∈a,x∈b)(hl:b.length≤a.length):∀x∈b,x∈a:=fun x hx=>by
 refine Classical.byContradiction fun hxa=>?_
 have:=Qkx (a:=x::a) (List.nodup_cons.2 ⟨hxa,ha⟩) (b:=b) fun y hy=>by
  rcases List.mem_cons.1 hy with rfl|hy
  ·exact hx
  ·exact h y hy
 simp only[List.length_cons]at this;omega
theorem Q1j {a:List Nat}{R:Nat}(ha:a.Nodup)(h:∀x∈a,x<R):a.length≤R:=by
 have:=Qkx ha (b:=List.range R) fun x hx=>List.mem_range.2 (h x hx)
 simpa using this
def addK (ks:List Nat)(b:Nat):List Nat:=if b∈ks then ks else ks++[b]
def tot (n:Nat)(S:Nat→List Nat):Nat:=((List.range n).map fun b=>(S b).length).sum
theorem Q62 (n:Nat)(S:Nat→List Nat):tot (n+1) S=tot n S+(S n).length:=by simp[tot,List.range_succ]
theorem Qbhd {n:Nat}{S T:Nat→List Nat}(h:∀b,b<n→(S b).length≤(T b).length):tot n S≤tot n T:=by
 induction n with
 |zero=>simp[tot]
 |succ n ih=>
  rw[Q62,Q62]
  have:=ih fun b hb=>h b (by omega)
  have:=h n (by omega)
  omega
theorem Qblw {n:Nat}{S T:Nat→List Nat}{c:Nat}(hc:c<n)(h:∀b,b<n→(S b).length≤(T b).length)(hlt:(S c).length<(T c).length):tot n S<tot n T:=by
 induction n with
 |zero=>omega
 |succ n ih=>
  rw[Q62,Q62]
  have h1:=h n (by omega)
  by_cases hcn:c=n
  ·subst hcn
   have:=Qbhd (n:=c) (S:=S) (T:=T) fun b hb=>h b (by omega)
   omega
  ·have:=ih (by omega) fun b hb=>h b (by omega)
   omega
end Go.AE.Y

namespace Go.AE.Y
attribute [local go_sem] cond_true cond_false Bool.not_true Bool.not_false
open Go.Proofs.Tryz
variable {H:Heap}{K:V→Heap→Prop}
attribute [local instance] Classical.propDecidable
def Q8b (x:InsD):Option Nat:=if Qd1 x.op then some x.to.toNat else none
def toN (l:List Int):List Nat:=l.map Int.toNat
def Qbkx (q:CodeD)(b m:Nat):List Nat:=(((q.blocks[m]?.map BlkD.phis).getD []).map fun p=>(p.args.getD ((Q8 (gnx q) (m:Int) q.blocks.length).idxOf (b:Int)) 0).toNat)
def Qa0 (q:CodeD):Flo where
 n:=q.blocks.length
 nx b:=nxN (gnx q) b
 on b:=match q.blocks[b]? with
  |some y=>if y.jump=1 then []else [y.on.toNat]
  |none=>[]
 ins b:=match q.blocks[b]? with
  |some y=>y.ins.map fun x=>(Q8b x,toN x.args)
  |none=>[]
 ph b:=match q.blocks[b]? with
  |some y=>y.phis.map fun p=>p.to.toNat
  |none=>[]
 ea:=Qbkx q
def rIn (q:CodeD)(v:Int):Prop:=0≤v∧v<q.regs
structure BlkD.ok (q:CodeD)(b:Nat)(y:BlkD):Prop where
 nxl:y.next.length≤2
 nx:∀v∈y.next,1≤v∧v<q.blocks.length
 jmp:y.jump=1∨y.jump=2∨y.jump=3
 on:¬y.jump=1→rIn q y.on
 args:∀x∈y.ins,∀v∈x.args,rIn q v
 to:∀x∈y.ins,Qd1 x.op=true→rIn q x.to
 pto:∀p∈y.phis,rIn q p.to
 pargs:∀p∈y.phis,∀v∈p.args,rIn q v
 pal:∀p∈y.phis,p.args.length=(Q8 (gnx q) (b:Int) q.blocks.length).length
 al:∀x∈y.ins,x.args.length≤3
structure CodeD.ok (q:CodeD):Prop where
 r0:0≤q.regs
 r1:q.regs≤300
 b0:0<q.blocks.length
 b1:q.blocks.length≤160
 bs:∀(b:Nat) (h:b<q.blocks.length),q.blocks[b].ok q b
 il:∀(b:Nat) (h:b<q.blocks.length),q.blocks[b].ins.length≤1200∧q.blocks[b].phis.length≤1200
theorem Q6w {α:Type}{f:α→Nat}{l:List α}{x:α}(h:x∈l):f x≤Qkd f l:=by
 induction l with
 |nil=>simp at h
 |cons y l ih=>
  simp only[Qkd,List.map_cons,List.sum_cons]at *
  rcases List.mem_cons.1 h with rfl|h
  ·omega
  ·have:=ih h;omega
theorem Qaef {cs:List CodeD}(h:Qcb cs=true){k:Nat}(hk:k<cs.length):cs[k].ok:=by
 obtain⟨_,h2,h3⟩:=of_decide_eq_true h
 obtain⟨g1,g2⟩:=h2 k hk
 simp only[Qt7,Bool.and_eq_true,decide_eq_true_eq]at g1
 refine⟨by omega,by omega,by omega,by omega,fun b hb=>?_,fun b hb=>?_⟩
 ·have g:=g2 b hb
  simp only[blkG,Bool.and_eq_true]at g
  obtain⟨⟨⟨j,nx⟩,ins⟩,ph⟩:=g
  simp only[Qrs,Bool.and_eq_true,decide_eq_true_eq]at j
  obtain⟨j1,j2⟩:=j
  rw[List.all_eq_true]at nx ins ph
  have hj:(cs[k].blocks[b].jump=1∨cs[k].blocks[b].jump=2∨cs[k].blocks[b].jump=3)∧cs[k].blocks[b].next.length≤2:=by
   rw[Qmu]at j1
   split at j1
   ·omega
   ·split at j1
    ·omega
    ·split at j1 <;> omega
  have hi:∀x∈cs[k].blocks[b].ins,(∀v∈x.args,rIn cs[k] v)∧(Qd1 x.op=true→rIn cs[k] x.to):=fun x hx=>by
   have:=ins x hx
   simp only[insG,insH,Qoo,Bool.and_eq_true,List.all_eq_true,decide_eq_true_eq,Qaxj hk]at this
   obtain⟨⟨⟨_,a1⟩,a2⟩,_⟩:=this
   refine⟨fun v hv=>by have:=a1 v hv;exact⟨by omega,by omega⟩,fun hm=>?_⟩
   rw[insT,hm,if_pos rfl,decide_eq_true_eq]at a2
   exact⟨by omega,by omega⟩
  have hal:∀x∈cs[k].blocks[b].ins,x.args.length≤3:=fun x hx=>by
   have:=ins x hx
   simp only[insG,Bool.and_eq_true]at this
   have h3:=this.2
   rw[insL]at h3
   split at h3
   ·simp only[Bool.and_eq_true,decide_eq_true_eq]at h3
    have hn:x.n.toNat<cs.length:=by omega
    have:=(h2 x.n.toNat hn).1
    simp only[Qt7,Bool.and_eq_true,decide_eq_true_eq]at this
    rw[Qaxc hn]at h3
    omega
   ·simp only[Bool.and_eq_true,decide_eq_true_eq]at h3
    have:=argsN_in (op:=x.op)
    omega
  have hp:∀p∈cs[k].blocks[b].phis,rIn cs[k] p.to∧(∀v∈p.args,rIn cs[k] v)∧p.args.length=(Q8 (gnx cs[k]) (b:Int) cs[k].blocks.length).length:=fun p hp=>by
   have:=ph p hp
   simp only[phiG,Qoo,Bool.and_eq_true,List.all_eq_true,decide_eq_true_eq,Qk]at this
   obtain⟨⟨⟨_,a1⟩,a2⟩,a3⟩:=this
   have hgn:(fun i=>(cs[k].blocks.map BlkD.next).getD i [])=gnx cs[k]:=rfl
   rw[hgn]at a1
   exact⟨⟨by omega,by omega⟩,fun v hv=>by have:=a2 v hv;exact⟨by omega,by omega⟩,by omega⟩
  refine⟨hj.2,fun v hv=>?_,hj.1,fun hn=>?_,fun x hx=>(hi x hx).1,fun x hx=>(hi x hx).2,fun p h=>(hp p h).1,fun p h=>(hp p h).2.1,fun p h=>(hp p h).2.2,hal⟩
  ·have:=nx v hv
   simp only[Q4z,decide_eq_true_eq,Qk]at this
   omega
  ·rw[if_neg hn,decide_eq_true_eq]at j2
   exact⟨by omega,by omega⟩
 ·have a1:=Q6w (f:=Q6u) (List.getElem_mem hk)
  have a2:=Q6w (f:=Qtx) (List.getElem_mem hb)
  simp only[Q6u,Qtx]at *
  omega
variable {q:CodeD}
theorem Qbek {b:Nat}(h:b<q.blocks.length):(Qa0 q).on b=if q.blocks[b].jump=1 then []else [q.blocks[b].on.toNat]:=by simp[Qa0,h]
theorem Qa9f {b:Nat}(h:b<q.blocks.length):(Qa0 q).ins b=q.blocks[b].ins.map fun x=>(Q8b x,toN x.args):=by simp[Qa0,h]
theorem Qbel {b:Nat}(h:b<q.blocks.length):(Qa0 q).ph b=q.blocks[b].phis.map fun p=>p.to.toNat:=by simp[Qa0,h]
theorem Qbej {b m:Nat}(h:m<q.blocks.length):(Qa0 q).ea b m=q.blocks[m].phis.map fun p=>(p.args.getD ((Q8 (gnx q) (m:Int) q.blocks.length).idxOf (b:Int)) 0).toNat:=by simp[Qa0,Qbkx,h]
theorem Qv0 {b:Nat}(h:b<q.blocks.length):gnx q b=q.blocks[b].next:=by simp[gnx,List.getD_eq_getElem?_getD,h]
theorem CodeD.ok.next (h:q.ok){b m:Nat}(hb:b<q.blocks.length)(hm:m∈(Qa0 q).nx b):m<q.blocks.length∧(m:Int)∈gnx q b:=by
 obtain⟨v,hv,rfl⟩:=List.mem_map.1 hm
 have hv':=hv
 rw[Qv0 hb]at hv'
 have:=(h.bs b hb).nx v hv'
 refine⟨by omega,?_⟩
 have e:((v.toNat:Nat):Int)=v:=by omega
 rw[e];exact hv
theorem CodeD.ok.fitsF (h:q.ok):(Qa0 q).fits:=fun b hb m hm=>(h.next hb hm).1
theorem CodeD.ok.ix (h:q.ok){b m:Nat}(hb:b<q.blocks.length)(hm:(m:Int)∈gnx q b):(Q8 (gnx q) (m:Int) q.blocks.length).idxOf (b:Int)<(Q8 (gnx q) (m:Int) q.blocks.length).length:=by
 refine List.idxOf_lt_length_of_mem ?_
 simp only[Q8,List.mem_map,List.mem_filter,List.mem_range]
 exact⟨b,⟨hb,List.contains_iff_mem.2 hm⟩,rfl⟩
theorem IsIx.idx {ns:List Int}{v r:Int}(h:IsIx ns v r)(hm:v∈ns):r=(ns.idxOf v:Nat):=by
 rcases h with ⟨_,hn⟩|⟨i,rfl,h1,h2,h3⟩
 ·exact absurd hm hn
 ·have h4:ns[i]=v:=by rw[←h2,List.getD_eq_getElem?_getD,List.getElem?_eq_getElem h1];rfl
  have h5:ns.idxOf v=i:=by
   have e:ns=ns.take i++ns[i]::ns.drop (i+1):=by rw[←List.drop_eq_getElem_cons h1,List.take_append_drop]
   rw[e,List.idxOf_append,if_neg h3,h4]
   simp[List.length_take];omega
  rw[h5]
def Mem (bs:List Bool)(S:RS'):Prop:=∀r,bs.getD r false=true↔S r
theorem Mem.congr {bs:List Bool}{S T:RS'}(h:Mem bs S)(hST:∀r,S r↔T r):Mem bs T:=fun r=>(h r).trans (hST r)
theorem Qan5 (S:List Bool)(x y:Nat)(v:Bool):(S.set x v).getD y false=(if y=x∧x<S.length then v else S.getD y false):=by
 simp only[List.getD_eq_getElem?_getD,List.getElem?_set]
 by_cases h:x=y
 ·subst h
  by_cases h2:x<S.length <;> simp[h2]
 ·have:¬y=x:=fun e=>h e.symm
  simp[h,this]
theorem Mem.ins {bs:List Bool}{S:RS'}(h:Mem bs S){x:Nat}(hx:x<bs.length):Mem (bs.set x true) (fun r=>r=x∨S r):=fun r=>by
 rw[Qan5]
 by_cases hr:r=x
 ·simp[hr,hx]
 ·simp only[hr,false_and,if_false,false_or];exact h r
theorem Mem.del {bs:List Bool}{S:RS'}(h:Mem bs S){x:Nat}(hx:x<bs.length):Mem (bs.set x false) (fun r=>S r∧r≠x):=fun r=>by
 rw[Qan5]
 by_cases hr:r=x
 ·simp[hr,hx]
 ·simp only[hr,false_and,if_false,ne_eq,not_false_eq_true,and_true];exact h r
theorem Mem.lt {bs:List Bool}{S:RS'}(h:Mem bs S){r:Nat}(hr:S r):r<bs.length:=by
 have:=(h r).2 hr
 refine Classical.byContradiction fun hn=>?_
 rw[List.getD_eq_getElem?_getD,List.getElem?_eq_none (by omega)]at this
 exact absurd this (by simp)
theorem Mem.none (n:Nat):Mem (List.replicate n false) fun _=>False:=fun r=>by
 rw[List.getD_eq_getElem?_getD,List.getElem?_replicate]
 split <;> simp
end Go.AE.Y

