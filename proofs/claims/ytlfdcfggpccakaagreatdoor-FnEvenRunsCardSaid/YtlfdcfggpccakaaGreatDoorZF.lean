/- Part 6 of the proof: the engine, codes, walks and plain laws, each named where it stands. -/
import Derived.Test.YtlfdcfggpccakaaGreatDoorZE
import Derived.Below
import Derived.Defers
import Derived.Laws.Pointers
import Derived.OpenShut
import Derived.ProofKit
import Derived.Recover
import Derived.WalkLawsBesides
import Derived.WalkSmall
open Nat (reduceEqDiff reduceAdd reduceLeDiff reduceLT)
set_option linter.unusedVariables false
set_option linter.unusedSimpArgs false
set_option maxRecDepth 4000
open Array renaming getElem?_eq_none->J1
open Bool renaming and_eq_true->Ji,false_eq_true->J6
open Int renaming natCast_nonneg->J7
open List renaming mem_singleton->Ja,getD_eq_getElem?_getD->Jb,take_of_length_le->Jd,getD_cons_succ->Je,getD_cons_zero->Jf,length_map->Jg,getElem?_eq_getElem->Jh,getElem_mem->Jj,getElem?_eq_none->Jk,take_succ_eq_append_getElem->Jl,length_nil->Jm,perm_append_comm->Jn,forall_mem_cons->Jo,length_cons->Jp,drop_eq_nil_of_le->Jq,getElem?_map->Jr,length_take->Jt,not_mem_nil->Ju,mem_append_left->Jv,length_append->Jw,drop_eq_getElem_cons->Jy,getElem?_eq_some_iff->Jz,eq_of_mem_replicate->J0,getElem?_set_self->J2,map_append->J3,mem_append->J4,mem_iff_getElem->J5,flatMap_cons->J8,mem_map->Jaa,length_set->Jac,mem_cons->Jae,set_set->Jaf
open Nat renaming zero_add->Jc,le_refl->Js,eq_zero_or_pos->Jx,sub_self->Jab,zero_le->Jad,lt_or_ge->Jag,sub_zero->Jah
open Option.some renaming injEq->J9
namespace Go.AE.Y
attribute [local go_sem] cond_true cond_false Bool.not_true Bool.not_false
attribute [local instance] Classical.propDecidable
open Go.Proofs.Tryz
variable {H H0:Heap}{K:V→Heap→Prop}{E B:List (Nat×Obj)}{q:CodeD}{fl:Bool}
theorem Qa0o (hb0:0<q.blocks.length)(hb:q.blocks.length≤2 ^ 38)(ha:∀y∈q.blocks,y.cl)
  (hK:∀z H',Kn H H' [] [(z,.vec 5 (Qm q.blocks))]→K (.ag [.int .i64 q.params,.int .i64 q.regs,.vsl z 5 0 q.blocks.length]) H') :
  Qs prog Qd4 [.ag [.int .i64 q.params,.int .i64 q.regs,.sl fl 5 (Qm q.blocks)]] H K:=by
 refine Qcb (Qark hb ha fun ks bc bl H' hky hko hgr kn=>?_);have hkl:ks.length=q.blocks.length:=by rw[←hky,Jg]
 rcases hgr with ⟨h1,h2,h3⟩|⟨z,h1,h2⟩
 ·have:=congrArg List.length h2;simp only[Jg,Jm]at this;omega
 ·rw[h2]at kn;have kn:=kn.perm (L':=[(z,.vec 5 (ks.map IBlk.row))]++ks.flatMap IBlk.pl) Jn;obtain⟨S,hS,hB,hfz,kn2⟩:=kn.freeze0;have hfr:=IBlk.frzR (H:=H') (S:=S) (ds:=ks) hko fun d hd p hp=>hS p (List.mem_flatMap.2 ⟨d,hd,hp⟩);rw[hky]at hfr;have hz:=hB (z,.vec 5 (ks.map IBlk.row)) (by simp);have f1:FrzH H' S ((H'.frz S).set z (.vec 5 (Qm q.blocks))):=hfz.set hz.2 (by
   rw[hz.1];exact FrzO.vecR hfr (fun r hr=>by obtain⟨x,hx,rfl⟩:=Jaa.1 hr;exact IBlk.noOw (hko x hx)))
  have kn2:=kn2.setL (o':=.vec 5 (Qm q.blocks)) 0 rfl (by simp);have kn2:Kn H ((H'.frz S).set z (.vec 5 (Qm q.blocks))) [] [(z,.vec 5 (Qm q.blocks))]:=kn2;refine⟨S,_,_,?_,f1,hK z _ kn2⟩;refine FrzL.ag ?_;rw[h1,Jg,hkl];exact .cons (Qg rfl) (.cons (Qg rfl) (.cons (.same _ rfl) .nil))
set_option maxHeartbeats 4000000 in
theorem Qbkt (ho:q.ok)(hjn:∀b (h:b<q.blocks.length),(q.blocks[b].next.length:Int)=Qd1 q.blocks[b].jump)(hK:∀H',Upd H H' []→K (.ag (evE q).cells) H'):Qs prog Q04 [.ag [.int .i64 q.params,.int .i64 q.regs,.sl fl 5 (Qm q.blocks)]] H K:=by
 have hb1:=ho.b1;refine Qx ?_;refine Qc Qaj Qbsf ?_;refine Qa ?_;simp only[go_sem];intro x1 hx1 H0 h0;have kn:=(Kn.start0 H).al hx1 h0;simp only[go_sem,Qatt];intro x2 hx2 H1 h1;have kn:=kn.al hx2 h1;have hx1:=kn.l 0 rfl;refine Qa ?_;simp only[go_sem,hx1];refine Qa0o (q:=q) ho.b0 (by omega) ho.cl fun z H2 k2=>?_;have kn:=kn.comp0 k2;have hx1:=kn.l 0 rfl;simp only[go_sem,Qatu,hx1];intro H4 h4;have kn:Kn H H4 [] [(x1,.st [.int .i64 q.params,.int .i64 q.regs,.vsl z 5 0 q.blocks.length]),(x2,.st [.int .i64 0,.int .i64 0,.sl true 5 []]),(z,.vec 5 (evS q 0))]:=by
  rw[Qa8m];exact kn.stL 0 rfl h4
 have hx1:=kn.l 0 rfl;refine Qy ?_;refine Qa ?_;have hz:=kn.l 2 rfl;have hel0:=Qa0v (q:=q) (Jad _);simp only[go_sem,hx1,hz,hel0];refine⟨by omega,fun _=>?_⟩;refine Qh (Qf (Qw (fun mm e1 H1=>∃(i:Nat),mm=q.blocks.length-i∧i≤q.blocks.length∧Kn H H1 [] [(x1,.st [.int .i64 q.params,.int .i64 q.regs,.vsl z 5 0 q.blocks.length]),(x2,.st [.int .i64 0,.int .i64 0,.sl true 5 []]),(z,.vec 5 (evS q i))]∧
  e1=[(1,.c (.ptr x1 0)),(2,.c (.ptr x2 0)),(9,.c (.int .i64 q.blocks.length)),(10,.c (.int .i64 i))]) q.blocks.length ?_ ?_))
 ·exact⟨0,by omega,by omega,kn,rfl⟩
 clear kn hx1 hz hel0;rintro mm e1 H5 ⟨i,hmm,hi,kn,rfl⟩;have hx1:=kn.l 0 rfl;have hz:=kn.l 2 rfl;have hel:=Qa0v hi;have het:(evS q i).take q.blocks.length=evS q i:=Jd (by omega);refine Qa ?_;simp only[go_sem];refine Qh (Qe rfl ?_ ?_)
 ·intro hc;have hlt:i<q.blocks.length:=by have:(i:Int)<q.blocks.length:=of_decide_eq_true hc;omega
  refine Qi ?_;try simp only[go_sem]
  refine Qh (Qf ?_);refine Qa ?_;simp only[go_sem];refine Qa ?_;simp only[go_sem,hx1,hz,hel,hlt];try refine⟨by omega,?_⟩
  have hat:=Qboc hlt;have hset:=Qbeq hlt;have hsame:=Qa8l hlt;have hn:=hjn i hlt;generalize q.blocks[i]=y at *;have t2:y.jump=2→2≤y.next.length:=fun h=>by
   have:=congrArg List.length (Qano hn h);simp at this;omega
  by_cases hj:y.jump=2
  ·have hl2:=t2 hj;have hl0:0<y.next.length:=by omega
   have hl1:1<y.next.length:=by omega
   have g0:=Qn y.next 0 hl0;have g1:=Qn y.next 1 hl1;have gt:(Qb y.next).take 1=[[.int .i64 (y.next.getD 0 0)]]:=by
    obtain⟨a,l,hl⟩:∃a l,y.next=a::l:=by
     match h:y.next,hl0 with
     |a::l,_=>exact⟨a,l,rfl⟩
    rw[hl];rfl
   refine Qag ?_;simp only[go_sem,hz,hel,het,hlt,hat,hj,g0,g1,hl0,hl1,BlkD.cells,Qd,decide_true];refine⟨by omega,by omega,by omega,by omega,by omega,?_⟩;refine Qe rfl ?_ ?_
   ·intro hc2;have he:y.next.getD 0 0=y.next.getD 1 0:=of_decide_eq_true hc2;have evr:evR y=[.sl false 2 (Q1 y.phis),.sl false 4 (Qaq y.ins),.int .i64 1,.int .i64 0,.sl true 1 [[.int .i64 (y.next.getD 0 0)]]]:=(by rw[evR,if_pos ⟨hj,he⟩]);refine Qa2 ?_;simp only[go_sem,hz,hel,het,hlt,hat,gt,BlkD.cells,Qd];refine⟨by omega,⟨by omega,by omega⟩,by omega,?_⟩;rw[Jc,hat];intro H6 h6;obtain⟨T1,hT1⟩:∃T,T=(evS q i).set i [.sl false 2 (Q1 y.phis),.sl false 4 (Qaq y.ins),.int .i64 1,.int .i64 y.on,.sl false 1 (Qb y.next)]:=⟨_,rfl⟩;have kn:Kn H H6 [] [(x1,.st [.int .i64 q.params,.int .i64 q.regs,.vsl z 5 0 q.blocks.length]),(x2,.st [.int .i64 0,.int .i64 0,.sl true 5 []]),(z,.vec 5 T1)]:=by
     rw[hT1];exact kn.stL 2 rfl h6
    have l1:T1.length=q.blocks.length:=(by rw[hT1,Jac,hel]);have a1:T1.getD i []=[.sl false 2 (Q1 y.phis),.sl false 4 (Qaq y.ins),.int .i64 1,.int .i64 y.on,.sl false 1 (Qb y.next)]:=by
     rw[hT1,Jb,J2 (by omega)];rfl
    have hz:=kn.l 2 rfl;simp only[go_sem,Qatw,hz,l1,hlt,a1];refine⟨by omega,?_⟩;rw[Jc,a1];intro H7 h7;obtain⟨T2,hT2⟩:∃T,T=T1.set i [.sl false 2 (Q1 y.phis),.sl false 4 (Qaq y.ins),.int .i64 1,.int .i64 0,.sl false 1 (Qb y.next)]:=⟨_,rfl⟩;have kn:Kn H H7 [] [(x1,.st [.int .i64 q.params,.int .i64 q.regs,.vsl z 5 0 q.blocks.length]),(x2,.st [.int .i64 0,.int .i64 0,.sl true 5 []]),(z,.vec 5 T2)]:=by
     rw[hT2];exact kn.stL 2 rfl h7
    have l2:T2.length=q.blocks.length:=(by rw[hT2,Jac,l1]);have a2:T2.getD i []=[.sl false 2 (Q1 y.phis),.sl false 4 (Qaq y.ins),.int .i64 1,.int .i64 0,.sl false 1 (Qb y.next)]:=by
     rw[hT2,Jb,J2 (by omega)];rfl
    have hz:=kn.l 2 rfl;simp only[go_sem,Qatv,hz,l2,hlt,a2];refine⟨by omega,?_⟩;rw[Jc,a2];intro H8 h8;have e3:T2.set i [.sl false 2 (Q1 y.phis),.sl false 4 (Qaq y.ins),.int .i64 1,.int .i64 0,.sl true 1 [[.int .i64 (y.next.getD 0 0)]]]=evS q (i+1):=by
     rw[←hset,evr,hT2,hT1,Jaf,Jaf]
    have kn:Kn H H8 [] [(x1,.st [.int .i64 q.params,.int .i64 q.regs,.vsl z 5 0 q.blocks.length]),(x2,.st [.int .i64 0,.int .i64 0,.sl true 5 []]),(z,.vec 5 (evS q (i+1)))]:=by
     rw[←e3];exact kn.stL 2 rfl h8
    refine Qq ?_;simp only[go_sem,X.next];exact⟨Qr (by omega) (by omega),q.blocks.length-(i+1),by omega,i+1,rfl,by omega,kn,rfl⟩
   ·intro hc2;have he:¬y.next.getD 0 0=y.next.getD 1 0:=of_decide_eq_false hc2;refine Qi ?_;try simp only[go_sem]
    refine Qq ?_;simp only[go_sem,X.next];exact⟨Qr (by omega) (by omega),q.blocks.length-(i+1),by omega,i+1,rfl,by omega,by rw[hsame fun h=>he h.2];exact kn,rfl⟩
  ·have hjf:decide (y.jump=2)=false:=decide_eq_false hj;refine Qag ?_;simp only[go_sem,hz,hel,het,hlt,hat,hjf,BlkD.cells];refine⟨by omega,?_⟩;refine Qe (c:=false) (by simp only[go_sem];split <;> simp_all) (fun h=>by cases h) fun _=>?_;refine Qi ?_;try simp only[go_sem]
   refine Qq ?_;simp only[go_sem,X.next];exact⟨Qr (by omega) (by omega),q.blocks.length-(i+1),by omega,i+1,rfl,by omega,by rw[hsame fun h=>hj h.1];exact kn,rfl⟩
 ·intro hc;have hie:i=q.blocks.length:=by have:¬(i:Int)<q.blocks.length:=of_decide_eq_false hc;omega
  subst hie;refine Qv ?_;simp only[go_sem,X.next];have hx2:=kn.l 1 rfl;refine Qa ?_;simp only[go_sem,hx1,hx2];intro H6 h6;have kn:=kn.stL 1 rfl h6;have hx2:=kn.l 1 rfl;have hz:=kn.l 2 rfl;refine Qk ?_;simp only[go_sem,X.next,Q3,Qab,Qboi,Ja,forall_eq,RS.op,hx2];have el:(evE q).blocks=q.blocks.map evB:=rfl;refine⟨_,FrzL.ag (.cons (.same _ rfl) (.cons (.same _ rfl) (.cons (FrzR.vsl (rows':=Qm (evE q).blocks) (kn.un 2 rfl) hz hel.symm (by rw[Qbep,el];exact Qbeo _)) .nil))),hK _ kn.fin⟩
end Go.AE.Y
namespace Go.AE.Y
variable {cs:List CodeD}{S u u' u2:Nat}{X Y Z:Cf}{e:Int}{s c:List Int}
def Goes (cs:List CodeD)(S u:Nat)(X:Cf)(u':Nat)(Y:Cf):Prop:=u≤u'∧u'≤S∧Qoy cs (u'-u) X=Y
def Halts (cs:List CodeD)(S u:Nat)(X:Cf)(e:Int)(s c:List Int):Prop:=
 u≤S∧((e=3∧∃fs,Qoy cs (S-u) X=.go fs s c)∨(¬e=3∧∃n,n≤S-u∧Qoy cs n X=.dn e 0 s c))
theorem Goes.refl (h:u≤S):Goes cs S u X u X:=⟨Js _,h,by rw[Jab];rfl⟩
theorem Goes.trans (h:Goes cs S u X u' Y)(k:Goes cs S u' Y u2 Z):Goes cs S u X u2 Z:=by
 obtain⟨h1,h2,h3⟩:=h;obtain⟨k1,k2,k3⟩:=k;refine⟨by omega,k2,?_⟩;rw[show u2-u=(u'-u)+(u2-u')by omega,Qll,h3,k3]
theorem Goes.halts (h:Goes cs S u X u' Y)(k:Halts cs S u' Y e s c):Halts cs S u X e s c:=by
 obtain⟨h1,h2,h3⟩:=h;obtain⟨k1,k2⟩:=k;refine⟨by omega,?_⟩;rcases k2 with ⟨k2,fs,k3⟩|⟨k2,n,k3,k4⟩
 ·exact .inl ⟨k2,fs,by rw[show S-u=(u'-u)+(S-u')by omega,Qll,h3,k3]⟩
 ·exact .inr ⟨k2,(u'-u)+n,by omega,by rw[Qll,h3,k4]⟩
theorem Goes.one (h:u<S)(hs:step cs X=Y):Goes cs S u X (u+1) Y:=⟨by omega,by omega,by
 rw[Nat.add_sub_cancel_left];exact hs⟩
theorem Halts.fuel {fs:List Fr}:Halts cs S S (.go fs s c) 3 s c:=⟨Js _,.inl ⟨rfl,fs,by rw[Jab];rfl⟩⟩
theorem Halts.one (h:u<S)(he:¬e=3)(hs:step cs X=.dn e 0 s c):Halts cs S u X e s c:=⟨by omega,.inr ⟨he,1,by omega,hs⟩⟩
theorem Qbgz {l:List Int}(h:Halts cs S 0 (cf0 cs l) e s c):outR cs l S=(e,0,s,c):=by
 obtain⟨_,⟨rfl,fs,h⟩|⟨_,n,h1,h2⟩⟩:=h
 ·rw[Jah]at h;rw[outR,h]
 ·rw[outR,Qaq5 cs h2 (by omega)]
theorem Qbl8 {l:List Int}{v:Int}(h:Goes cs S 0 (cf0 cs l) u' (.dn 0 v s c)):outR cs l S=(0,v,s,c):=by
 obtain⟨_,h1,h2⟩:=h;rw[Jah]at h2;rw[outR,Qaq5 cs h2 h1]
def byI (v:Int):Prop:=0≤v∧v≤255
def byL (l:List Int):Prop:=∀v∈l,byI v
theorem byL.get {l:List Int}(h:byL l)(i:Nat):byI (l.getD i 0):=by
 rw[Jb];by_cases hi:i<l.length
 ·rw[Jh hi];exact h _ (Jj hi)
 ·rw[Jk (by omega)];exact⟨by simp,by simp⟩
theorem byL.rg {l:List Int}(h:byL l)(r:Int):byI (rg l r):=h.get _
theorem byL.set {l:List Int}(h:byL l){v:Int}(hv:byI v)(i:Nat):byL (l.set i v):=fun x hx=>by
 rcases List.mem_or_eq_of_mem_set hx with hx|rfl
 ·exact h x hx
 ·exact hv
theorem byL.app {l:List Int}(h:byL l){v:Int}(hv:byI v):byL (l++[v]):=fun x hx=>by
 rcases J4.1 hx with hx|hx
 ·exact h x hx
 ·rw[Ja]at hx;subst hx;exact hv
theorem Qbec (b:Prop) [Decidable b]:byI (trI b):=by rw[trI];split <;> exact⟨by omega,by omega⟩
theorem Qbrw {op a b v:Int}(ha:byI a)(hb:byI b)(h:arR op a b=some v):byI v:=by
 have hm:∀x:Int,byI (x % 256):=fun x=>⟨by omega,by omega⟩;rw[arR]at h;split at h
 ·cases h;exact hm _
 ·split at h
  ·cases h;exact hm _
  ·split at h
   ·cases h;exact hm _
   ·split at h
    ·split at h
     ·cases h
     ·cases h;obtain⟨a1,a2⟩:=ha;obtain⟨b1,b2⟩:=hb;exact⟨Int.ediv_nonneg a1 b1,Int.le_trans (Int.ediv_le_self _ a1) a2⟩
    ·split at h
     ·split at h
      ·cases h
      ·rename_i hb0
       cases h;obtain⟨b1,b2⟩:=hb;exact⟨Int.emod_nonneg _ hb0,by have:=Int.emod_lt_of_pos a (show 0<b by omega);omega⟩
     ·split at h
      ·cases h;exact Qbec _
      ·split at h <;> (cases h;exact Qbec _)
theorem Qbj2 {q:CodeD}{l:List Int}(h:byL l):byL (Qabg q l):=fun x hx=>by
 rcases J4.1 hx with hx|hx
 ·exact h x hx
 ·rw[J0 hx];exact⟨by omega,by omega⟩
end Go.AE.Y
namespace Go.AE.Y
open Go.Proofs.Tryz
def Qiz:List Item:=[oJ 5 4]
def Q11:SC:=cT 5 (sR [fI 2 (.mv (.k (.c (.sl true 1 []))))] [2] .ret) .skip
def Qi0:List Item:=[mJ 2 8]
def Qi1:List Item:=aJ 8 Qlv [.t 7]::Qi0
def Q12:SC:=sR (tJ 6 1 1::aJ 7 Qde [.t 6]::Qi1) [2] .ret
def Q13:SC:=.seq (sR (tJ 3 1 1::aJ 4 Qb4 [.t 3]::Qiz) [1,5] Q11) Q12
def Qabi:SC:=sR [vJ 1 0,fI 2 (.mv (.k (.c (.sl true 1 []))))] [1] Q13
def Qpm:List RS:=[.tmp 2]
theorem Qaad:mFn prog Qf4 1 9 Qabi Qpm=true:=by kernel_rfl
def Qm3:List Item:=[mJ 10 19]
def Qm4:List Item:=sJ 4 9 18::Qm3
def Qm5:List Item:=mJ 13 17::fI 18 (.ext (.t 13) 0)::fI 19 (.ext (.t 13) 1)::eI 9 (.alloc [.sl true 1 [],.int .i64 0,.int .i64 0,.sl true 1 []])::Qm4
def Qm6:List Item:=[mJ 12 25]
def Qm7:List Item:=sJ 4 11 24::Qm6
def Qm8:List Item:=mJ 20 23::fI 24 (.ext (.t 20) 0)::fI 25 (.ext (.t 20) 1)::eI 11 (.alloc [.sl true 1 [],.int .i64 0,.int .i64 0,.sl true 1 []])::Qm7
def Qdf:List Item:=[gT 38 30 (.pick (.t 34) (.k (.c (.bool true))) (.t 37)),pF 39 30 38,mJ 8 39]
def Qabp:SC:=sR (mJ 26 10::mJ 27 26::gTm 28 27 12::pF 29 27 28::mJ 30 29::gTf 31 30 1 9::gTl 32 30 31::gT 33 30 (.bin 0 .eql (.t 32) (kI 3))::gTm 34 30 33::gF 35 34 (.ld 4 true (.t 9))::gF 36 34 (.ld 4 true (.t 11))::.e (some 37) (some (34,false)) (.call Qet [.t 35,.t 36])::Qdf) [8] .ret
def Qabq:SC:=sR (tJ 21 1 5::mJ 22 2::aJ 23 Qgx [.t 21,.t 22,kI 60000]::Qm8) [9,10,11,12] Qabp
def Qabr:SC:=sR (tJ 14 1 4::mJ 15 2::mJ 16 3::aJ 17 Qgx [.t 14,.t 15,.t 16]::Qm5) [2,5,9,10] Qabq
def Qany:SC:=sR [vJ 4 0,vJ 5 1,fB 8 false] [2,3,4,5] Qabr
def Qg2:List RS:=[.tmp 8]
theorem Qam8:mFn prog Qjd 4 40 Qany Qg2=true:=by kernel_rfl
def Q2c:SC:=sR [fJ 3 0 1,lJ 4 3,fJ 5 0 1,lJ 6 5,nJ 7 6,cJ 8 .sub 7 1,iJ 9 3 4 8,fJ 10 0 9,lJ 11 10,mJ 2 11] [2] .ret
def Qab2:SC:=sR [vJ 1 0,zJ 2 0] [1] Q2c
def Qpq:List RS:=[.tmp 2]
theorem Qaag:mFn prog Qde 1 12 Qab2 Qpq=true:=by kernel_rfl
def Qp0:List Item:=[fB 7 false]
def Qp1:List Item:=[oJ 14 13]
def Qabo:List Item:=[fB 7 false]
def Qahw:SC:=cT 14 (sR (fI 15 (.bld [.sl true 1 [],.int .i64 0,.int .i64 0,.sl true 1 []] [])::sJ 4 6 15::Qabo) [6,7] .ret) .skip
def Qp2:List Item:=[mJ 9 22]
def Qp3:List Item:=sJ 4 8 21::Qp2
def Qp4:List Item:=mJ 16 20::fI 21 (.ext (.t 16) 0)::fI 22 (.ext (.t 16) 1)::eI 8 (.alloc [.sl true 1 [],.int .i64 0,.int .i64 0,.sl true 1 []])::Qp3
def Qp5:List Item:=[fB 7 true]
def Qahx:SC:=sR (tJ 23 4 8::sJ 4 6 23::Qp5) [6,7] .ret
def Qahy:SC:=sR (tJ 17 1 3::mJ 18 1::mJ 19 2::aJ 20 Qlu [.t 17,.t 18,.t 19]::Qp4) [6,8] Qahx
def Qabn:SC:=.seq (sR (tJ 10 1 3::mJ 11 1::mJ 12 2::aJ 13 Qjf [.t 10,.t 11,.t 12]::Qp1) [1,2,3,6,14] Qahw) Qahy
def Qatf:SC:=sR (vJ 3 0::eI 6 (.alloc [.sl true 1 [],.int .i64 0,.int .i64 0,.sl true 1 []])::Qp0) [1,2,3,6] Qabn
def Q3c:List RS:=[.cell 6 4 true,.tmp 7]
theorem Qar7:mFn prog Qgx 3 24 Qatf Q3c=true:=by kernel_rfl
def Qhy:List Item:=[pF 30 24 29,mJ 4 30]
def Qhz:List Item:=mJ 10 9::gTf 11 10 1 2::gTl 12 10 11::gTf 13 10 1 3::gTl 14 10 13::gT 15 10 (.bin 0 .eql (.t 12) (.t 14))::pF 16 10 15::mJ 17 16::gTf 18 17 2 2::gTl 19 17 18::gTf 20 17 2 3::gTl 21 17 20::gT 22 17 (.bin 0 .eql (.t 19) (.t 21))::pF 23 17 22::mJ 24 23::gTf 25 24 3 2::gTl 26 24 25::gTf 27 24 3 3::gTl 28 24 27::.e (some 29) (some (24,true)) (.call Ql3 [.t 26,.t 28])::Qhy
def Qy2:SC:=sR (fJ 5 0 2::lJ 6 5::fJ 7 0 3::lJ 8 7::aJ 9 Ql3 [.t 6,.t 8]::Qhz) [4] .ret
def Q6t:SC:=sR [vJ 2 0,vJ 3 1,fB 4 false] [2,3] Qy2
def Qmz:List RS:=[.tmp 4]
theorem Q6m:mFn prog Qet 2 31 Q6t Qmz=true:=by kernel_rfl
def Qnc:List Item:=[pF 18 15 17,mJ 6 18]
def Qnd:List Item:=pF 14 9 13::mJ 15 14::gTm 16 15 2::.e (some 17) (some (15,true)) (.call Qax [.t 16,kI 0,kI 60000])::Qnc
def Qne:List Item:=.e (some 13) (some (9,true)) (.call Qlq [.t 10,.t 12])::Qnd
def Qnf:List Item:=mJ 9 8::gTm 10 9 1::gT 11 9 (.ld 1 true (.t 3))::.e (some 12) (some (9,true)) (.call Qde [.t 11])::Qne
def Qab7:SC:=sR (tJ 7 1 3::aJ 8 Qb4 [.t 7]::Qnf) [6] .ret
def Qaoj:SC:=sR [vJ 3 0,fB 6 false] [1,2,3] Qab7
def Qyq:List RS:=[.tmp 6]
theorem Qand:mFn prog Qjf 3 19 Qaoj Qyq=true:=by kernel_rfl
def Qqx:List Item:=[fI 7 (.mv (.k (.c .pnil)))]
def Qqy:List Item:=[sJ 1 8 13]
def Qqz:List Item:=eI 8 (.alloc [.pnil])::Qqy
def Qh6:List Item:=[fJ 16 1 9,sJ 1 16 15]
def Qq0:List Item:=[fJ 27 3 9,sJ 1 27 25]
def Qq1:List Item:=hJ 17 8::hJ 20 19::sJ 1 26 20::Qq0
def Qq2:List Item:=[hJ 29 8,mJ 7 29]
def Qair:SC:=.seq (.dreg 4 [0,1,2,1,3] ( tJ 28 4 9::lJ 29 8::sJ 4 6 28::Qq2) [6,7]) .ret
def Qais:SC:=.seq (.seq .gh (.dreg 13 [0,1,2,3,4,5,6,7,9,8,0,3,10,11,12] ( lJ 17 8::kJ 18 17::fJ 19 3 18::lJ 20 19::lJ 21 8::kJ 22 21::fJ 23 4 22::fI 24 (.aslp 16 (.t 23) none)::fJ 26 0 9::aJ 25 Qdj [.t 24]::Qq1) [6,8,9])) Qair
def Qait:SC:=sR (fI 14 (.mkf Qf6 [.t 8,.t 3,.t 4,.t 9])::aJ 15 Qo3 [.t 14]::Qh6) [6,8,9] Qais
def Qab3:SC:=sR [eI 9 (.alloc [.sl true 1 [],.int .i64 0,.int .i64 0,.sl true 1 []])] [3,4,6,8,9] Qait
def Qab4:SC:=sR (tJ 10 1 3::mJ 11 2::fI 12 (.bld [.sl true 3 [],.int .i64 0,.int .i64 0,.sl true 1 [],.int .i64 0,.int .i64 0,.int .i64 0,.int .i64 0,.int .i64 0,.int .i64 0,.int .i64 0,.int .i64 0,.int .i64 0,.int .i64 0,.int .i64 0,.int .i64 0,.int .i64 0,.int .i64 0,.int .i64 0,.int .i64 0,.sl true 1 []] [(0,1,.t 10),(1,1,.t 11)])::eI 13 (.boxm (.t 12))::Qqz) [3,4,6,8] Qab3
def Qatr:SC:=sR (vJ 3 0::vJ 4 1::eI 6 (.alloc [.sl true 1 [],.int .i64 0,.int .i64 0,.sl true 1 []])::Qqx) [2,3,4,6] Qab4
def Q3e:List RS:=[.cell 6 4 true,.tmp 7]
theorem Qasb:mFn prog Qlu 3 30 Qatr Q3e=true:=by kernel_rfl
def Qp6:List Item:=[gT 12 9 (.not (.t 11)),pF 13 9 12,mJ 4 13]
def Qah0:SC:=sR (mJ 5 0::nJ 6 5::mJ 7 1::bJ 8 .eql 6 7::mJ 9 8::gTm 10 9 0::.e (some 11) (some (9,true)) (.call Qbf [.t 10,.k (.c (.fn Qf5 []))])::Qp6) [4] .ret
def Qatn:SC:=sR [fB 4 false] [0,1] Qah0
def Q3d:List RS:=[.tmp 4]
theorem Qar8:mFn prog Qlq 2 14 Qatn Q3d=true:=by kernel_rfl
def Qi4:List Item:=[fJ 11 2 3,sJ 1 11 10]
def Qab5:SC:=.reg (lJ 4 0::fJ 5 0 1::lJ 6 5::nJ 7 6::cJ 8 .sub 7 1::lJ 9 2::aJ 10 Qcn [.t 4,.t 8,.t 9,.k (.c (.bool true))]::Qi4) []
def Qps:List RS:=[]
theorem Qaah:mFn prog Qf6 4 12 Qab5 Qps=true:=by kernel_rfl
def Qgb:List Item:=[sJ 3 9 27]
def Qgc:List Item:=[sJ 1 10 30]
def Qgd:List Item:=eI 10 (.alloc [.sl true 1 []])::Qgc
def Qge:List Item:=[kJ 43 35,fJ 44 20 43,sJ 1 44 42]
def Qw5:SC:=cT 34 (.reg (mJ 35 0::mJ 36 0::kJ 37 36::fJ 38 20 37::lJ 39 38::mJ 40 11::fI 41 (.bsl 1 [.t 40])::xJ 42 1 39 41::Qge) [0,3,9,10,11,12]) .skip
def Qgf:List Item:=[sJ 5 13 49]
def Qgg:List Item:=[sJ 1 14 62]
def Qgh:List Item:=eI 14 (.alloc [.int .i64 0])::Qgg
def Qgi:List Item:=mJ 61 12::aJ 62 Ql4 [.t 60,.t 61]::Qgh
def Qgj:List Item:=[mJ 15 66]
def Qfr:List Item:=[mJ 16 72,sJ 2 17 74]
def Qt4:SC:=.dreg 9 [0,1,2,3,4,5,6,7,8] ( lJ 75 10::fJ 76 0 17::lJ 77 76::mJ 78 15::mJ 79 16::iJ 80 1 78 79::lJ 81 80::iJ 82 1 75 77::sJ 1 82 81::[]) [0,3,9,10,11,13,15,68,69,70]
def Qt5:SC:=.reg [cJ 83 .add 70 1,mJ 70 83] [0,3,9,10,11,13,15,68,69,70]
def Qt6:SC:=.seq (.block 3 (sR (mJ 72 70::iJ 73 2 68 70::tJ 74 2 73::eI 17 (.alloc [.int .i64 0,.sl true 1 []])::Qfr) [0,3,9,10,11,13,15,16,17,68,69,70] Qt4)) Qt5
def Qq3:SC:=sR [bJ 71 .lss 70 69] [0,3,9,10,11,13,15,68,69,70,71] (cX 71 2 Qt6)
def Qt7:SC:=sR [fJ 67 0 13,lJ 68 67,nJ 69 68,zJ 70 0] [0,3,9,10,11,13,15,68,69,70] (bL 2 Qq3)
def Qt8:SC:=sR (fJ 63 0 13::lJ 64 63::fI 65 (.mkf Qbd [.t 10,.t 14])::aJ 66 Qc5 [.t 64,.t 65]::Qgj) [0,3,9,10,11,13,15] Qt7
def Qt9:SC:=cT 57 (sR (tJ 58 3 9::mJ 59 11::aJ 60 Qgw [.t 58,.t 59]::Qgi) [0,3,9,10,11,13,14] Qt8) .skip
def Qfs:List Item:=[sJ 4 19 90]
def Qua:SC:=.reg [mJ 91 0,tJ 92 4 19,lJ 93 10,aJ 94 Qdi [.t 91,.t 92,.t 93]] [0,3,9,10,11,13,85,86,87]
def Qub:SC:=.reg [cJ 95 .add 87 1,mJ 87 95] [0,3,9,10,11,13,85,86,87]
def Quc:SC:=.seq (.block 5 (sR (iJ 89 4 85 87::tJ 90 4 89::eI 19 (.alloc [.int .i64 0,.int .i64 0,.sl true 1 [],.int .i64 0])::Qfs) [0,3,9,10,11,13,19,85,86,87] Qua)) Qub
def Qq4:SC:=sR [bJ 88 .lss 87 86] [0,3,9,10,11,13,85,86,87,88] (cX 88 4 Quc)
def Qud:SC:=cT 112 (.reg [fJ 124 4 13,lJ 125 124,fI 126 (.iad 1 (.t 125) (kI 1)),lJ 127 126,mJ 11 127] [0,3,9,10,11,12]) (.reg [fJ 99 4 13,lJ 100 99,fI 101 (.iad 1 (.t 100) (kI 0)),lJ 102 101,mJ 11 102] [0,3,9,10,11,12])
def Que:SC:=cT 103 (sR [lJ 107 10,fJ 108 3 13,lJ 109 108,iJ 110 1 107 109,lJ 111 110,mJ 8 111] [8] .ret) (sR [fJ 113 2 13,lJ 114 113,cJ 115 .eql 114 2,mJ 116 115,gTl 117 116 10,gTf 118 116 3 13,gTl 119 116 118,gT 120 116 (.iad 1 (.t 117) (.t 119)),gTl 121 116 120,gT 122 116 (.bin 0 .eql (.t 121) (kI 0)),pF 123 116 122,mJ 112 123] [0,3,9,10,12,13,112] Qud)
def Quf:SC:=.block 6 (sR [fJ 104 2 13,lJ 105 104,cJ 106 .eql 105 3,mJ 103 106] [0,3,9,10,12,13,103] Que)
def Qug:SC:=sR [mJ 98 11,mJ 12 98] [0,3,9,10,12,13] Quf
def Quh:SC:=sR [mJ 96 0,aJ 97 Qco [.t 96]] [0,3,9,10,11,13] Qug
def Qui:SC:=.seq (sR [fJ 84 1 13,lJ 85 84,nJ 86 85,zJ 87 0] [0,3,9,10,11,13,85,86,87] (bL 4 Qq4)) Quh
def Quj:SC:=.seq (sR [mJ 50 12,cJ 51 .geq 50 0,mJ 52 51,gTf 53 52 0 13,gTl 54 52 53,gT 55 52 (.len (.t 54)),gT 56 52 (.bin 0 .gtr (.t 55) (kI 0)),pF 57 52 56] [0,3,9,10,11,12,13,57] Qt9) Qui
def Quk:SC:=sR (fJ 45 2 9::lJ 46 45::mJ 47 11::iJ 48 5 46 47::tJ 49 5 48::eI 13 (.alloc [.sl true 2 [],.sl true 4 [],.int .i64 0,.int .i64 0,.sl true 1 []])::Qgf) [0,3,9,10,11,12,13] Quj
def Qq5:SC:=.block 1 (.seq (sR [mJ 34 3] [0,3,9,10,11,12,34] Qw5) Quk)
def Qul:SC:=sR [zJ 11 0,zJ 12 (-1)] [0,3,9,10,11,12] (bL 0 Qq5)
def Qum:SC:=sR [lJ 31 10,mJ 32 2,eI 33 (.cpy 1 (.t 31) (.t 32))] [0,3,9,10] Qul
def Qun:SC:=sR (fJ 28 1 9::lJ 29 28::eI 30 (.mks 1 [.int .i64 0] (.t 29))::Qgd) [0,2,3,9,10] Qum
def Quo:SC:=sR (mJ 20 0::kJ 21 20::fJ 22 0 21::fJ 23 0 22::lJ 24 23::mJ 25 1::iJ 26 3 24 25::tJ 27 3 26::eI 9 (.alloc [.int .i64 0,.int .i64 0,.sl true 5 []])::Qgb) [0,2,3,9] Qun
def Q2e:SC:=sR [zJ 8 0] [0,1,2,3] Quo
def Qkh:List RS:=[.tmp 8]
theorem Q1o:mFn prog Qcn 4 128 Q2e Qkh=true:=by kernel_rfl
def Qi2:List Item:=[oJ 5 4,mJ 2 5]
def Q18:SC:=sR (mJ 3 0::aJ 4 Qij [.t 3]::Qi2) [2] .ret
def Qabv:SC:=sR [fB 2 false] [0] Q18
def Qpo:List RS:=[.tmp 2]
theorem Qaae:mFn prog Qf5 1 6 Qabv Qpo=true:=by kernel_rfl
def Qow:SC:=.seq (.dreg 9 [0,1,2,3,4,5,6,7,8] ( lJ 5 1::fJ 6 1 3::lJ 7 6::lJ 8 2::iJ 9 1 7 8::lJ 10 9::iJ 11 1 5 10::lJ 12 11::mJ 4 12::[]) [4]) .ret
def Qup:SC:=sR [vJ 3 0,zJ 4 0] [1,2,3] Qow
def Qga:List RS:=[.tmp 4]
theorem Qt2:mFn prog Qbd 3 13 Qup Qga=true:=by kernel_rfl
def Qft:List Item:=[hJ 44 5,hJ 46 45,kJ 51 50,lJ 52 51,iJ 53 1 44 46,sJ 1 53 52]
def Qfu:List Item:=hJ 44 5::hJ 46 45::aJ 50 Qcm [.t 47,.t 49]::Qft
def Qfv:List Item:=[kJ 62 59,sJ 1 62 61]
def Qfw:List Item:=mJ 60 6::eI 61 (.callv (.t 60) [kI 1])::Qfv
def Qfx:List Item:=aJ 59 Qcm [.t 56,.t 58]::Qfw
def Qfy:List Item:=[kJ 74 65,fJ 75 3 74,sJ 1 75 73]
def Qfz:List Item:=hJ 69 68::fI 72 (.bsl 1 [.t 71])::xJ 73 1 69 72::Qfy
def Qf0:List Item:=[mJ 7 89]
def Qf1:List Item:=fI 88 (.bsl 1 [.t 87])::xJ 89 1 84 88::Qf0
def Quq:SC:=.reg (mJ 84 7::mJ 85 6::mJ 86 8::eI 87 (.callv (.t 85) [.t 86])::Qf1) [0,4,5,6,7,80,81]
def Qq6:SC:=.reg [cJ 90 .add 81 1,mJ 81 90] [0,4,5,6,7,80,81]
def Qq7:SC:=.seq (.block 2 (sR [mJ 83 81,mJ 8 83] [0,4,5,6,7,8,80,81] Quq)) Qq6
def Qox:SC:=sR [bJ 82 .lss 81 80] [0,4,5,6,7,80,81,82] (cX 82 1 Qq7)
def Qej:List Item:=[hJ 91 5,hJ 93 92,iJ 99 1 91 93,sJ 1 99 98]
def Qq8:SC:=.dreg 10 [0,1,2,3,4,5,6,7,0,2,8,9] ( lJ 91 5::fJ 92 1 4::lJ 93 92::mJ 94 0::fJ 95 3 4::lJ 96 95::mJ 97 7::aJ 98 Qcn [.t 94,.t 96,.t 97,.k (.c (.bool false))]::Qej) []
def Qq9:SC:=.seq (sR [fJ 78 2 4,lJ 79 78,nJ 80 79,zJ 81 0] [0,4,5,6,7,80,81] (bL 1 Qox)) Qq8
def Qek:List Item:=[hJ 102 5,hJ 104 103,iJ 107 1 102 104,sJ 1 107 106]
def Qel:List Item:=[hJ 111 5,hJ 113 112,mJ 110 116,fI 117 (.ext (.t 110) 0),fI 118 (.ext (.t 110) 1),iJ 119 1 111 113,sJ 1 119 117]
def Qem:List Item:=hJ 111 5::hJ 113 112::aJ 116 Qhe [kI 11,.t 115,kI 0]::Qel
def Qen:List Item:=[mJ 16 23,fI 24 (.ext (.t 16) 0),fI 25 (.ext (.t 16) 1),mJ 9 24,mJ 10 25]
def Qeo:List Item:=hJ 18 17::aJ 23 Qhe [.t 18,.t 20,.t 22]::Qen
def Qep:List Item:=hJ 18 17::eI 22 (.callv (.t 21) [kI 1])::Qeo
def Qra:SC:=cT 27 (.reg [aJ 28 Qj2 [kI 1]] [4,5,9]) .skip
def Qrb:SC:=.reg [lJ 29 5,fJ 30 1 4,lJ 31 30,mJ 32 9,iJ 33 1 29 31,sJ 1 33 32] []
def Qrc:SC:=.seq (sR [mJ 26 10,oJ 27 26] [4,5,9,27] Qra) Qrb
def Qrd:SC:=cT 108 (.dreg 11 [0,1,2,3,4,0,2,5,0,2,6,7,8,9,10] ( lJ 111 5::fJ 112 1 4::lJ 113 112::mJ 114 6::eI 115 (.callv (.t 114) [kI 0])::Qem) []) (.seq (.dreg 12 [0,1,2,4,3,1,5,1,6,7,8,9,10,11] ( fJ 17 0 4::lJ 18 17::mJ 19 6::mJ 21 6::eI 20 (.callv (.t 19) [kI 0])::Qep) [4,5,9,10]) Qrc)
def Qre:SC:=cT 100 (.dreg 7 [0,1,2,3,4,0,2,5,6] ( lJ 102 5::fJ 103 1 4::lJ 104 103::mJ 105 6::eI 106 (.callv (.t 105) [kI 0])::Qek) []) (sR [cJ 109 .eql 15 10,mJ 108 109] [4,5,6,108] Qrd)
def Qrf:SC:=cT 76 (sR [fI 7 (.mv (.k (.c (.sl true 1 []))))] [0,4,5,6,7] Qq9) (sR [cJ 101 .eql 15 2,mJ 100 101] [4,5,6,15,100] Qre)
def Qrg:SC:=cT 63 (.dreg 12 [0,1,2,3,4,5,6,4,7,8,9,10,11] ( mJ 65 0::mJ 66 0::kJ 67 66::fJ 68 3 67::lJ 69 68::mJ 70 6::eI 71 (.callv (.t 70) [kI 0])::Qfz) []) (sR [cJ 77 .eql 15 14,mJ 76 77] [0,4,5,6,15,76] Qrf)
def Qrh:SC:=cT 54 (.reg (mJ 56 0::mJ 57 6::eI 58 (.callv (.t 57) [kI 0])::Qfx) []) (sR [cJ 64 .eql 15 13,mJ 63 64] [0,4,5,6,15,63] Qrg)
def Qri:SC:=cT 42 (.dreg 11 [0,1,2,3,4,5,0,2,6,0,2,7,8,9,10] ( lJ 44 5::fJ 45 1 4::lJ 46 45::mJ 47 0::mJ 48 6::eI 49 (.callv (.t 48) [kI 0])::Qfu) []) (sR [cJ 55 .eql 15 12,mJ 54 55] [0,4,5,6,15,54] Qrh)
def Qrj:SC:=cT 34 (.reg [lJ 36 5,fJ 37 1 4,lJ 38 37,fJ 39 3 4,lJ 40 39,iJ 41 1 36 38,sJ 1 41 40] []) (sR [cJ 43 .eql 15 11,mJ 42 43] [0,4,5,6,15,42] Qri)
def Qrk:SC:=.block 0 (sR [cJ 35 .eql 15 1,mJ 34 35] [0,4,5,6,15,34] Qrj)
def Qrl:SC:=sR [fJ 14 0 4,lJ 15 14] [0,4,5,6,15] Qrk
def Qrm:SC:=sR [fI 13 (.mkf Qbt [.t 5,.t 4]),mJ 6 13] [0,4,5,6] Qrl
def Qrn:SC:=sR [mJ 11 0,aJ 12 Qco [.t 11]] [0,4,5] Qrm
def Qzi:SC:=sR [vJ 4 1,vJ 5 2] [0,4,5] Qrn
def Qcq:List RS:=[]
theorem Qyi:mFn prog Qdi 3 120 Qzi Qcq=true:=by kernel_rfl
def Qw6:SC:=cT 10 (.reg [aJ 11 Qj2 [kI 3]] [0]) .skip
def Qw7:SC:=.reg [mJ 12 0,kJ 13 12,fJ 14 2 13,lJ 15 14,cJ 16 .add 15 1,kJ 17 12,fJ 18 2 17,sJ 1 18 16] []
def Q2f:SC:=.seq (.seq (.dreg 9 [0,1,2,3,4,5,6,7,8] ( mJ 2 0::kJ 3 2::fJ 4 2 3::lJ 5 4::mJ 6 0::kJ 7 6::fJ 8 1 7::lJ 9 8::bJ 10 .eql 5 9::[]) [0,10]) Qw6) Qw7
def Qki:List RS:=[]
theorem Q1p:mFn prog Qco 1 19 Q2f Qki=true:=by kernel_rfl
def Qml:SC:=.seq (.dreg 9 [0,1,2,3,4,5,6,7,8] ( lJ 5 1::fJ 6 2 2::lJ 7 6::mJ 8 0::iJ 9 1 7 8::lJ 10 9::iJ 11 1 5 10::lJ 12 11::mJ 4 12::[]) [4]) .ret
def Qro:SC:=sR [zJ 4 0] [0,1,2] Qml
def Qfp:List RS:=[.tmp 4]
theorem Qpi:mFn prog Qbt 3 13 Qro Qfp=true:=by kernel_rfl
def Qw2:SC:=cT 6 (.reg [aJ 7 Qj2 [kI 2]] [0,1]) .skip
def Qw3:SC:=sR [mJ 8 0,mJ 9 1,kJ 10 8,fJ 11 4 10,fI 12 (.iaa 1 16 (.t 11) (.t 9)),mJ 4 12] [4] .ret
def Qw4:SC:=.seq (sR [mJ 5 1,cJ 6 .geq 5 16] [0,1,6] Qw2) Qw3
def Q2d:SC:=sR [fI 4 (.mv (.k (.c .pnil)))] [0,1] Qw4
def Qkg:List RS:=[.tmp 4]
theorem Q1n:mFn prog Qcm 2 13 Q2d Qkg=true:=by kernel_rfl
def Qatg:SC:=cT 29 .skip (.reg [cJ 31 .eql 9 7,mJ 29 31] [0,1,2,8,9,29])
def Qath:SC:=cT 33 (sR [zJ 6 0,fB 7 false] [6,7] .ret) .skip
def Qati:SC:=cT 35 (sR [mJ 36 1,mJ 37 2,bJ 38 .quo 36 37,mJ 6 38,fB 7 true] [6,7] .ret) .skip
def Qatj:SC:=sR [mJ 39 1,mJ 40 2,bJ 41 .rem 39 40,mJ 6 41,fB 7 true] [6,7] .ret
def Qatk:SC:=.seq (sR [mJ 34 0,cJ 35 .eql 34 6] [1,2,35] Qati) Qatj
def Qy6:List Item:=[mJ 6 48,fB 7 true]
def Qy7:List Item:=[mJ 6 55,fB 7 true]
def Qan7:List Item:=[mJ 6 65,fB 7 true]
def Qatl:SC:=cT 56 (sR (mJ 58 8::mJ 59 1::cJ 60 .neq 59 0::mJ 61 60::gTm 62 61 2::gT 63 61 (.bin 0 .neq (.t 62) (kI 0))::pF 64 61 63::eI 65 (.callv (.t 58) [.t 64])::Qan7) [6,7] .ret) .skip
def Qatm:SC:=cT 49 (sR (mJ 51 8::mJ 52 1::mJ 53 2::bJ 54 .eql 52 53::eI 55 (.callv (.t 51) [.t 54])::Qy7) [6,7] .ret) (sR [cJ 57 .eql 9 10,mJ 56 57] [1,2,8,56] Qatl)
def Qanz:SC:=cT 42 (sR (mJ 44 8::mJ 45 1::mJ 46 2::bJ 47 .lss 45 46::eI 48 (.callv (.t 44) [.t 47])::Qy6) [6,7] .ret) (sR [cJ 50 .eql 9 9,mJ 49 50] [1,2,8,9,49] Qatm)
def Qy4:SC:=cT 29 (.seq (sR [mJ 32 2,cJ 33 .eql 32 0] [0,1,2,33] Qath) Qatk) (sR [cJ 43 .eql 9 8,mJ 42 43] [1,2,8,9,42] Qanz)
def Qan0:SC:=cT 23 (sR [mJ 25 1,mJ 26 2,bJ 27 .mul 25 26,cJ 28 .rem 27 256,mJ 6 28,fB 7 true] [6,7] .ret) (.seq (sR [cJ 30 .eql 9 6,mJ 29 30] [0,1,2,8,9,29] Qatg) Qy4)
def Qan1:SC:=cT 16 (sR [mJ 18 1,mJ 19 2,bJ 20 .sub 18 19,cJ 21 .add 20 256,cJ 22 .rem 21 256,mJ 6 22,fB 7 true] [6,7] .ret) (sR [cJ 24 .eql 9 5,mJ 23 24] [0,1,2,8,9,23] Qan0)
def Qan2:SC:=cT 10 (sR [mJ 12 1,mJ 13 2,bJ 14 .add 12 13,cJ 15 .rem 14 256,mJ 6 15,fB 7 true] [6,7] .ret) (sR [cJ 17 .eql 9 4,mJ 16 17] [0,1,2,8,9,16] Qan1)
def Qan3:SC:=.block 0 (sR [cJ 11 .eql 9 3,mJ 10 11] [0,1,2,8,9,10] Qan2)
def Qvi:List Item:=[mJ 6 69,fB 7 true]
def Qy5:SC:=sR (mJ 66 8::mJ 67 1::cJ 68 .eql 67 0::eI 69 (.callv (.t 66) [.t 68])::Qvi) [6,7] .ret
def Qan4:SC:=.seq (sR [mJ 9 0] [0,1,2,8,9] Qan3) Qy5
def Qan5:SC:=sR [fI 8 (.mv (.k (.c (.fn Qfa []))))] [0,1,2,8] Qan4
def Qbbm:SC:=sR [zJ 6 0,fB 7 false] [0,1,2] Qan5
def Qke:List RS:=[.tmp 6,.tmp 7]
theorem Qalj:mFn prog Qhe 3 70 Qbbm Qke=true:=by kernel_rfl
def Qabs:SC:=cT 3 (sR [zJ 2 1] [2] .ret) .skip
def Qabt:SC:=sR [zJ 2 0] [2] .ret
def Qabu:SC:=.seq (sR [mJ 3 0] [3] Qabs) Qabt
def Qan6:SC:=sR [zJ 2 0] [0] Qabu
def Ql7:List RS:=[.tmp 2]
theorem Qam9:mFn prog Qfa 1 4 Qan6 Ql7=true:=by kernel_rfl
def Qrp:List Item:=[sJ 3 5 9]
def Qrq:List Item:=[mJ 3 15]
def Qrr:List Item:=fI 14 (.bsl 1 [.t 13])::xJ 15 1 10 14::Qrq
def Qaiu:SC:=.seq .gh (.reg (mJ 10 3::mJ 11 0::fI 12 (.aslp 3 (.t 5) (some (.t 11)))::aJ 13 Qdj [.t 12]::Qrr) [0,3,6,7])
def Qaiv:SC:=.reg [cJ 16 .add 7 1,mJ 7 16] [0,3,6,7]
def Qaiw:SC:=.seq (.block 1 (sR (fI 9 (.iax 3 3 (.t 6) (.t 7))::eI 5 (.alloc [.int .i64 0,.int .i64 0,.int .i64 0])::Qrp) [0,3,5,6,7] Qaiu)) Qaiv
def Qab6:SC:=sR [cJ 8 .lss 7 3] [0,3,6,7,8] (cX 8 0 Qaiw)
def Qaix:SC:=sR [mJ 17 3,mJ 2 17] [2] .ret
def Qaiy:SC:=.seq (sR [fI 6 (.ldg 9 0 0),zJ 7 0] [0,3,6,7] (bL 0 Qab6)) Qaix
def Qaiz:SC:=sR [fI 3 (.mv (.k (.c (.sl true 1 []))))] [0,3] Qaiy
def Qats:SC:=sR [fI 2 (.mv (.k (.c (.sl true 1 []))))] [0] Qaiz
def Q3f:List RS:=[.tmp 2]
theorem Qasc:mFn prog Qlv 1 18 Qats Q3f=true:=by kernel_rfl
def Qeg:List Item:=[sJ 2 7 13]
def Qeh:List Item:=[mJ 5 19]
def Qei:List Item:=fI 18 (.bsl 1 [.t 17])::xJ 19 1 14 18::Qeh
def Qqm:SC:=.reg (mJ 14 5::mJ 15 1::tJ 16 2 7::eI 17 (.callv (.t 15) [.t 16])::Qei) [1,5,8,9,10]
def Qqn:SC:=.reg [cJ 20 .add 10 1,mJ 10 20] [1,5,8,9,10]
def Qqo:SC:=.seq (.block 1 (sR (iJ 12 2 8 10::tJ 13 2 12::eI 7 (.alloc [.int .i64 0,.sl true 1 []])::Qeg) [1,5,7,8,9,10] Qqm)) Qqn
def Qov:SC:=sR [bJ 11 .lss 10 9] [1,5,8,9,10,11] (cX 11 0 Qqo)
def Qqp:SC:=sR [mJ 21 5,mJ 4 21] [4] .ret
def Qqq:SC:=.seq (sR [mJ 8 0,nJ 9 8,zJ 10 0] [1,5,8,9,10] (bL 0 Qov)) Qqp
def Qqr:SC:=sR [fI 5 (.mv (.k (.c (.sl true 1 []))))] [0,1,5] Qqq
def Qw1:SC:=sR [fI 4 (.mv (.k (.c (.sl true 1 []))))] [0,1] Qqr
def Qhw:List RS:=[.tmp 4]
theorem Qwu:mFn prog Qc5 2 22 Qw1 Qhw=true:=by kernel_rfl
variable {H:Heap}{K:V→Heap→Prop}
def endV (n:Int):Value:=.iface 190 (.int .i64 n)
theorem Qbnv (n:Int)(w:World):Calls prog Qj2 #[.int .i64 n] w fun e w'=>e=.panicked [{ v:=endV n,recovered:=false }]∧w'=w:=by
 go_enter Go.Proofs.Tryz.func271,Go.Proofs.Tryz.ntmps271
 go_wp2
 exact⟨rfl,rfl,rfl⟩
theorem Qbjg {n:Int}(hK:K (.pn (endV n)) H):Qs prog Qj2 [.c (.int .i64 n)] H K:=by
 refine⟨by kernel_rfl,fun g w vs hs hl hv=>?_⟩;obtain⟨v,rfl⟩:∃v,vs=[v]:=by
  match vs,hl with
  |[v],_=>exact⟨v,rfl⟩
 have hr:=hv 0 _ v rfl rfl
 cases hr with
 |c _ _ hr=>
  cases hr;refine (Qbnv n w).mono fun e w'=>?_;rintro⟨rfl,rfl⟩;exact .inr ⟨_,H,g,rfl,hK,.refl hs⟩
end Go.AE.Y
namespace Go.AE
variable {P:Program}{H:Heap}{e:Env}
theorem Qbqo {Q:X→Env→Heap→Prop}{v:Value}:X.panK Q v H=Q (.pan v) [] H:=rfl
theorem Qbsz {b:SC}{Q:X→Env→Heap→Prop}{v:Value}:X.sq P b Q (.pan v) e H=Q (.pan v) e H:=rfl
theorem Qbr8 {i:Nat}{Q:X→Env→Heap→Prop}{v:Value}:X.inBlock i Q (.pan v) e H=Q (.pan v) e H:=rfl
theorem Qbl3 {K:Env→Heap→Prop}{Q:X→Env→Heap→Prop}{v:Value}:X.next K Q (.pan v) e H=Q (.pan v) e H:=rfl
theorem Qbkc {rs:List RS}{K:V→Heap→Prop}{v:Value}:Q3 rs K (.pan v) e H=K (.pn v) H:=rfl
attribute [go_sem] Qbqo Qbsz Qbr8 Qbl3 Qbkc
end Go.AE
namespace Go.AE.Y
attribute [local go_sem] cond_true cond_false Bool.not_true Bool.not_false
open Go.Proofs.Tryz
variable {H H' H0:Heap}{K:V→Heap→Prop}{E A A' B:List (Nat×Obj)}
def Qif (l:List Int):List C:=l.map fun v=>.int .i64 v
structure Rs where
 u:Nat
 s:List Int
 c:List Int
 t:List Int
 sc:C
 so:List (Nat×Obj)
 tc:C
 tl:List (Nat×Obj)
def Rs.mt (r:Rs):List C:=Qif r.c++[r.tc]
structure Rn where
 l:Nat
 fl:Bool
 cs:List CodeD
 S:Nat
def Rn.o (X:Rn)(r:Rs):Obj:=.st (.sl X.fl 3 (Qj X.cs)::.int .i64 X.S::.int .i64 r.u::r.sc::r.mt)
def Rn.F (X:Rn)(r:Rs)(A B:List (Nat×Obj)):List (Nat×Obj):=[(X.l,X.o r)]++(A++((r.so++r.tl)++B))
structure Rs.ok (X:Rn)(r:Rs):Prop where
 gs:Gr r.so 1 (Qb r.s) r.sc
 gt:Gr r.tl 1 (Qb r.t) r.tc
 c:r.c.length=16
 bc:byL r.c
 bs:byL r.s
 ls:r.s.length≤r.u
 lt:r.t.length≤r.u+1
 uS:r.u≤X.S
 S:X.S≤60000
variable {X:Rn}{r r':Rs}
theorem Rs.ok.mt (h:r.ok X):r.mt.length=17:=by simp[Rs.mt,Qif,h.c]
theorem Rs.ok.tick (h:r.ok X)(hu:r.u<X.S):Rs.ok X { r with u:=r.u+1 }:=⟨h.gs,h.gt,h.c,h.bc,h.bs,Nat.le_succ_of_le h.ls,Nat.le_succ_of_le h.lt,hu,h.S⟩
theorem F_in (k:Kn H0 H E (X.F r A B)):Kn H0 H E (X.F r [] (A++B)):=k.perm (Ql fun f hf h0 hc hp=>by simp only[Rn.F,hf,h0];omega)
theorem Qbd0 (k:Kn H0 H E (X.F r [] (A++B))):Kn H0 H E (X.F r A B):=k.perm (Ql fun f hf h0 hc hp=>by simp only[Rn.F,hf,h0];omega)
theorem F_al {p:Nat×Obj}(k:Kn H0 H E (X.F r A B++[p])):Kn H0 H E (X.F r (A++[p]) B):=k.perm (Ql fun f hf h0 hc hp=>by simp only[Rn.F,hf,h0];omega)
theorem Qu4 (k:Kn H0 H E (X.F r (A++A') B)):Kn H0 H E (X.F r A B):=Kn.drop (B:=A') (k.perm (Ql fun f hf h0 hc hp=>by simp only[Rn.F,hf,h0];omega))
theorem Qa0j (k:Kn H0 H E (X.F r A (A'++B))):Kn H0 H E (X.F r A B):=Kn.drop (B:=A') (k.perm (Ql fun f hf h0 hc hp=>by simp only[Rn.F,hf,h0];omega))
theorem Qbrq (k:Kn H0 H E (X.F r (A++A') B)):Kn H0 H E (X.F r A (A'++B)):=k.perm (Ql fun f hf h0 hc hp=>by simp only[Rn.F,hf,h0];omega)
theorem Qbrp (k:Kn H0 H E (X.F r A (A'++B))):Kn H0 H E (X.F r (A++A') B):=k.perm (Ql fun f hf h0 hc hp=>by simp only[Rn.F,hf,h0];omega)
theorem F_s (k:Kn H0 H E (X.F r A B)):Kn H0 H E (([(X.l,X.o r)]++(A++(r.tl++B)))++r.so):=k.perm (Ql fun f hf h0 hc hp=>by simp only[Rn.F,hf,h0];omega)
theorem F_s' {so:List (Nat×Obj)}(hs:r'.so=so)(ht:r'.tl=r.tl)(k:Kn H0 H E (([(X.l,X.o r')]++(A++(r.tl++B)))++so)):Kn H0 H E (X.F r' A B):=k.perm (Ql fun f hf h0 hc hp=>by simp only[Rn.F,hf,h0,hs,ht];omega)
theorem F_t (k:Kn H0 H E (X.F r A B)):Kn H0 H E (([(X.l,X.o r)]++(A++(r.so++B)))++r.tl):=k.perm (Ql fun f hf h0 hc hp=>by simp only[Rn.F,hf,h0];omega)
theorem F_t' {tl:List (Nat×Obj)}(ht:r'.tl=tl)(hs:r'.so=r.so)(k:Kn H0 H E (([(X.l,X.o r')]++(A++(r.so++B)))++tl)):Kn H0 H E (X.F r' A B):=k.perm (Ql fun f hf h0 hc hp=>by simp only[Rn.F,hf,h0,hs,ht];omega)
theorem F_o (k:Kn H0 H E (X.F r A B)):H X.l=.st (.sl X.fl 3 (Qj X.cs)::.int .i64 X.S::.int .i64 r.u::r.sc::r.mt):=k.l 0 rfl
theorem Qbry {a b c d:C}{m:List C}{j:Nat}:(a::b::c::d::m).drop (4+j)=m.drop j:=by rw[Nat.add_comm];rfl
theorem take4 {a b c d:C}{m:List C}{j:Nat}:(a::b::c::d::m).take (4+j)=a::b::c::d::m.take j:=by rw[Nat.add_comm];rfl
theorem Rs.ok.get (h:r.ok X){j:Nat}(hj:j<16):(r.mt.drop j).take 1=[.int .i64 (r.c.getD j 0)]:=by
 have hj':j<(Qif r.c).length:=by rw[Qif,Jg,h.c];exact hj
 have hj2:j<r.c.length:=by rw[h.c];exact hj
 rw[Rs.mt,List.drop_append_of_le_length (by omega),Jy hj',List.cons_append,List.take_succ_cons,List.take_zero];simp[Qif,Jb,hj2]
theorem Rs.ok.dl (h:r.ok X)(j:Nat):(r.mt.drop j).length=17-j:=by rw[List.length_drop,h.mt]
theorem Rs.ok.put (h:r.ok X){j:Nat}(hj:j<16)(v:Int):r.mt.take j++[.int .i64 v]++r.mt.drop (j+1)=Rs.mt { r with c:=r.c.set j v }:=by
 have hj':j<(Qif r.c).length:=by rw[Qif,Jg,h.c];exact hj
 rw[Rs.mt,Rs.mt,List.take_append_of_le_length (by omega),List.drop_append_of_le_length (by omega)];have:Qif (r.c.set j v)=(Qif r.c).take j++.int .i64 v::(Qif r.c).drop (j+1):=by
  rw[Qif,List.map_set,List.set_eq_take_append_cons_drop,if_pos (by simpa[Qif]using hj')];rfl
 show _=Qif (r.c.set j v)++[r.tc];rw[this];simp
theorem Rs.ok.cells (h:r.ok X){j:Nat}{v:Int}(hv:byI v):Rs.ok X { r with c:=r.c.set j v }:=⟨h.gs,h.gt,by simp[h.c],h.bc.set hv j,h.bs,h.ls,h.lt,h.uS,h.S⟩
theorem Qbon (kn:Kn H0 H E (X.F r A B))(hr:r.ok X)
  (hK:∀H',r.u<X.S→Kn H0 H' E (X.F { r with u:=r.u+1 } A B)→Rs.ok X { r with u:=r.u+1 }→K (.tup []) H')
  (hP:r.u=X.S→K (.pn (endV 3)) H):Qs prog Qco [.c (.ptr X.l 0)] H K:=by
 refine Qc Qaj Q1p ?_;have hmt:=hr.mt;have hX:=F_o kn;have hS:=hr.S;have huS:=hr.uS;refine Qy ?_;refine Qag ?_;simp only[go_sem,hX,hmt];refine Qh (Qe rfl ?_ ?_)
 ·intro hc;have hu:r.u=X.S:=by
   have:=of_decide_eq_true hc;omega
  refine Qq ?_;simp only[go_sem];refine Qbjg ?_;simp only[go_sem];exact hP hu
 ·intro hc;have hu:r.u<X.S:=by
   have:=of_decide_eq_false hc;omega
  refine Qi ?_;try simp only[go_sem]
  refine Qq ?_;simp only[go_sem,hX,hmt];refine⟨Qr (by omega) (by omega),fun H' h'=>?_⟩;have kn':Kn H0 H' E (X.F { r with u:=r.u+1 } A B):=kn.stL 0 rfl h';simp only[go_sem,Q3,Qab,Qki];exact hK H' hu kn' (hr.tick hu)
theorem Qbob {l:Nat}{n:Int}(hn:0≤n)(hK:n<16→K (.c (.ptr l (4+n.toNat))) H)(hP:16≤n→K (.pn (endV 2)) H) :
  Qs prog Qcm [.c (.ptr l 0),.c (.int .i64 n)] H K:=by
 refine Qc Qaj Q1n ?_;refine Qa ?_;simp only[go_sem];refine Qy ?_;refine Qa ?_;simp only[go_sem];refine Qh (Qe rfl ?_ ?_)
 ·intro hc;have h16:16≤n:=of_decide_eq_true hc;refine Qq ?_;simp only[go_sem];refine Qbjg ?_;simp only[go_sem];exact hP h16
 ·intro hc;have h16:n<16:=by have:=of_decide_eq_false hc;omega
  refine Qi ?_;try simp only[go_sem]
  refine Qa ?_;simp only[go_sem];refine⟨⟨hn,by omega⟩,?_⟩;refine Qk ?_;simp only[go_sem,Q3,Qab,Qkg,Ja,forall_eq,RS.op];have:=hK h16;simpa using this
theorem Qa78 {b:Bool}(hK:K (.c (.int .i64 (trI (b=true)))) H):Qs prog Qfa [.c (.bool b)] H K:=by
 refine Qc Qaj Qam9 ?_;refine Qa ?_;simp only[go_sem];refine Qy ?_;refine Qa ?_;simp only[go_sem];refine Qh (Qe rfl ?_ ?_)
 ·intro hc;subst hc;refine Qa ?_;simp only[go_sem];refine Qk ?_;simp only[go_sem,Q3,Qab,Ql7,Ja,forall_eq,RS.op];exact hK
 ·intro hc;subst hc;refine Qi ?_;try simp only[go_sem]
  refine Qa ?_;simp only[go_sem];refine Qk ?_;simp only[go_sem,Q3,Qab,Ql7,Ja,forall_eq,RS.op];exact hK
theorem Qa77 {p:Prop} [Decidable p]:trI (decide p=true)=trI p:=by simp[trI]
def arP (op a b:Int):Int×Bool:=match arR op a b with
 |some v=>(v,true)
 |none=>(0,false)
theorem Qa9r {a b:Int}(h:0≤a):a.tmod b=a % b:=Int.tmod_eq_emod_of_nonneg h
theorem Qbom {a b:Int}(h:0≤a):a.tdiv b=a / b:=Int.tdiv_eq_ediv_of_nonneg h
set_option maxHeartbeats 2000000 in
theorem Qbow {op a b:Int}(ha:byI a)(hb:byI b)(h3:3≤op)(h9:op≤9)(hK:K (.tup [.c (.int .i64 (arP op a b).1),.c (.bool (arP op a b).2)]) H) :
  Qs prog Qhe [.c (.int .i64 op),.c (.int .i64 a),.c (.int .i64 b)] H K:=by
 obtain⟨a0,a1⟩:=ha;obtain⟨b0,b1⟩:=hb;refine Qc Qaj Qalj ?_;have retf:∀(v:Int) (t:Bool) (e:Env),arP op a b=(v,t)→lk 6 e=.c (.int .i64 v)→lk 7 e=.c (.bool t)→Q3 Qke K .ret e H:=by
  intro v t e h1 h2 h3;simp only[go_sem,Q3,Qab,Qke,RS.op,h2,h3];rw[h1]at hK;exact hK
 refine Qa ?_;simp only[go_sem];refine Qa ?_;simp only[go_sem];refine Qy ?_;refine Qa ?_;simp only[go_sem];refine Qh (Qf ?_);refine Qa ?_;simp only[go_sem];refine Qe rfl ?_ ?_
 ·intro hc;have ho:op=3:=of_decide_eq_true hc;subst ho;refine Qa ?_;simp only[go_sem];refine⟨Qr (by omega) (by omega),by omega,?_⟩;refine Qk ?_;simp only[go_sem];refine retf _ _ _ ?_ rfl rfl;rw[Qa9r (by omega)];rfl
 intro hc;have n3:=of_decide_eq_false hc;refine Qa ?_;simp only[go_sem];refine Qe rfl ?_ ?_
 ·intro hc;have ho:op=4:=of_decide_eq_true hc;subst ho;refine Qa ?_;simp only[go_sem];refine⟨Qr (by omega) (by omega),Qr (by omega) (by omega),by omega,?_⟩;refine Qk ?_;simp only[go_sem];refine retf _ _ _ ?_ rfl rfl;rw[Qa9r (by omega)];rfl
 intro hc;have n4:=of_decide_eq_false hc;refine Qa ?_;simp only[go_sem];refine Qe rfl ?_ ?_
 ·intro hc;have ho:op=5:=of_decide_eq_true hc;subst ho;have hab:0≤a * b:=Int.mul_nonneg a0 b0;have hab2:a * b≤255 * 255:=Int.mul_le_mul a1 b1 b0 (by omega);refine Qa ?_;simp only[go_sem];refine⟨Qr (by omega) (by omega),by omega,?_⟩;refine Qk ?_;simp only[go_sem];refine retf _ _ _ ?_ rfl rfl;rw[Qa9r hab];rfl
 intro hc;have n5:=of_decide_eq_false hc;refine Qy ?_;refine Qa ?_;simp only[go_sem];have h67:∀(t:Bool),(t=decide (op=6∨op=7))→Qah prog Qy4 (X.inBlock 0 (X.sq prog Qy5 (Q3 Qke K))) [(0,.c (.int .i64 op)),(1,.c (.int .i64 a)),(2,.c (.int .i64 b)),(8,.c (.fn Qfa [])),(9,.c (.int .i64 op)),(29,.c (.bool t))] H:=by
  intro t ht;refine Qe rfl ?_ ?_
  ·intro h;have h67:op=6∨op=7:=by rw[ht]at h;exact of_decide_eq_true h
   refine Qy ?_;refine Qa ?_;simp only[go_sem];refine Qh (Qe rfl ?_ ?_)
   ·intro hc;have hb:b=0:=of_decide_eq_true hc;subst hb;refine Qa ?_;simp only[go_sem];refine Qk ?_;simp only[go_sem];refine retf _ _ _ ?_ rfl rfl;rcases h67 with rfl|rfl <;> rfl
   intro hc;have hb:¬b=0:=of_decide_eq_false hc;refine Qi ?_;try simp only[go_sem]
   refine Qy ?_;refine Qa ?_;simp only[go_sem];refine Qh (Qe rfl ?_ ?_)
   ·intro hc;have ho:op=6:=of_decide_eq_true hc;subst ho;have hd1:0≤a / b:=Int.ediv_nonneg a0 b0;have hd2:a / b≤a:=Int.ediv_le_self _ a0;refine Qa ?_;simp only[go_sem];refine⟨⟨hb,by rw[Qbom a0];exact Qr (by omega) (by omega)⟩,?_⟩;refine Qk ?_;simp only[go_sem];refine retf _ _ _ ?_ rfl rfl;rw[Qbom a0,arP,arR];simp[hb]
   ·intro hc;have ho:op=7:=(by have:=of_decide_eq_false hc;omega);subst ho;refine Qi ?_;try simp only[go_sem]
    refine Qa ?_;simp only[go_sem];refine⟨hb,?_⟩;refine Qk ?_;simp only[go_sem];refine retf _ _ _ ?_ rfl rfl;rw[Qa9r a0,arP,arR];simp[hb]
  ·intro h;have h67:¬(op=6∨op=7):=by rw[ht]at h;exact of_decide_eq_false h
   refine Qa ?_;simp only[go_sem];refine Qe rfl ?_ ?_
   ·intro hc;have ho:op=8:=of_decide_eq_true hc;subst ho;refine Qa ?_;simp only[go_sem];refine Qa78 ?_;rw[Qa77];simp only[go_sem,Qy6];refine Qk ?_;simp only[go_sem];exact retf _ _ _ rfl rfl rfl
   intro hc;have n8:=of_decide_eq_false hc;have ho:op=9:=by omega
   subst ho;refine Qa ?_;simp only[go_sem];refine Qe rfl ?_ (fun h=>by simp at h);intro _;refine Qa ?_;simp only[go_sem];refine Qa78 ?_;rw[Qa77];simp only[go_sem,Qy7];refine Qk ?_;simp only[go_sem];exact retf _ _ _ rfl rfl rfl
 refine Qh (Qe rfl ?_ ?_)
 ·intro hc;have ho:op=6:=of_decide_eq_true hc;refine Qi ?_;simp only[go_sem];exact h67 _ (by rw[hc];simp[ho])
 ·intro hc;have n6:=of_decide_eq_false hc;refine Qq ?_;simp only[go_sem];exact h67 _ (by simp[n6])
theorem Qa90 {a:Int}(hK:K (.tup [.c (.int .i64 (trI (a=0))),.c (.bool true)]) H) :
  Qs prog Qhe [.c (.int .i64 11),.c (.int .i64 a),.c (.int .i64 0)] H K:=by
 refine Qc Qaj Qalj ?_;refine Qa ?_;simp only[go_sem];refine Qa ?_;simp only[go_sem];refine Qy ?_;refine Qa ?_;simp only[go_sem];refine Qh (Qf ?_);refine Qa ?_;simp only[go_sem];refine Qe rfl (fun h=>by simp at h) fun _=>?_;refine Qa ?_;simp only[go_sem];refine Qe rfl (fun h=>by simp at h) fun _=>?_;refine Qa ?_;simp only[go_sem];refine Qe rfl (fun h=>by simp at h) fun _=>?_;refine Qy ?_;refine Qa ?_;simp only[go_sem];refine Qh (Qe rfl (fun h=>by simp at h) fun _=>?_);refine Qq ?_;simp only[go_sem];refine Qe rfl (fun h=>by simp at h) fun _=>?_;refine Qa ?_;simp only[go_sem];refine Qe rfl (fun h=>by simp at h) fun _=>?_;refine Qa ?_;simp only[go_sem];refine Qe rfl (fun h=>by simp at h) fun _=>?_;refine Qa ?_;simp only[go_sem];refine Qe rfl (fun h=>by simp at h) fun _=>?_;refine Qi ?_;simp only[go_sem];refine Qa ?_;simp only[go_sem];refine Qa78 ?_;rw[Qa77];simp only[go_sem,Qvi];refine Qk ?_;simp only[go_sem,Q3,Qab,Qke,RS.op];exact hK
end Go.AE.Y
namespace Go.AE.Y
attribute [local go_sem] cond_true cond_false Bool.not_true Bool.not_false
open Go.Proofs.Tryz
variable {H H' H0:Heap}{K:V→Heap→Prop}{E A A' B Li:List (Nat×Obj)}{X:Rn}{r r':Rs}
section
variable {cs:List CodeD}{k b:Nat}{x:InsD}{t:List InsD}{R s c:List Int}{fs:List Fr}
theorem Qbs2 (h:x.op=1):stI cs k b x t R fs s c=.go (⟨k,b,t,R.set x.to.toNat x.n⟩::fs) s c:=by rw[stI];simp[h]
theorem Qbue (h:x.op=11):stI cs k b x t R fs s c=if 16≤ar R x 0 then .dn 2 0 s c else .go (⟨k,b,t,R.set x.to.toNat (rg c (ar R x 0))⟩::fs) s c:=by rw[stI];simp[h]
theorem Qbs3 (h:x.op=12):stI cs k b x t R fs s c=if 16≤ar R x 0 then .dn 2 0 s c else .go (⟨k,b,t,R⟩::fs) s (c.set (ar R x 0).toNat (ar R x 1)):=by rw[stI];simp[h]
theorem Qbs4 (h:x.op=13):stI cs k b x t R fs s c=.go (⟨k,b,t,R⟩::fs) (s++[ar R x 0]) c:=by rw[stI];simp[h]
theorem Qbq5 (h:x.op=14):stI cs k b x t R fs s c=.go (fr0 cs x.n.toNat (x.args.map (rg R))::⟨k,b,x::t,R⟩::fs) s c:=by rw[stI];simp[h]
theorem Qbq6 (h:x.op=2):stI cs k b x t R fs s c=.go (⟨k,b,t,R.set x.to.toNat (ar R x 0)⟩::fs) s c:=by rw[stI];simp[h]
theorem Qbs1 (h:x.op=10):stI cs k b x t R fs s c=.go (⟨k,b,t,R.set x.to.toNat (trI (ar R x 0=0))⟩::fs) s c:=by rw[stI];simp[h,arR]
theorem Qbud (h3:3≤x.op)(h9:x.op≤9):stI cs k b x t R fs s c=if (arP x.op (ar R x 0) (ar R x 1)).2=true then .go (⟨k,b,t,R.set x.to.toNat (arP x.op (ar R x 0) (ar R x 1)).1⟩::fs) s c else .dn 1 0 s c:=by
 rw[stI,arP];simp only[show ¬x.op=1 by omega,show ¬x.op=11 by omega,show ¬x.op=12 by omega,show ¬x.op=13 by omega,show ¬x.op=14 by omega,show ¬x.op=2 by omega,if_false];cases arR x.op (ar R x 0) (ar R x 1) <;> simp
end
theorem Qbrv {op a b:Int}(ha:byI a)(hb:byI b):byI (arP op a b).1:=by
 rw[arP]
 cases h:arR op a b with
 |none=>exact⟨by simp,by simp⟩
 |some v=>exact Qbrw ha hb h
structure InsW (cs:List CodeD)(k:Nat)(x:InsD):Prop where
 op:1≤x.op∧x.op≤14
 n1:x.op=1→byI x.n
 args:∀v∈x.args,0≤v∧v.toNat<(Qac cs k).regs.toNat
 to:Qdv x.op=true→0≤x.to∧x.to.toNat<(Qac cs k).regs.toNat
 len:¬x.op=14→(x.args.length:Int)=Qha x.op
 cal:x.op=14→0≤x.n∧x.n.toNat<k∧(x.args.length:Int)=(Qac cs x.n.toNat).params
 al:x.args.length≤3
def Rdb (Li:List (Nat×Obj))(rows:List (List C))(c:C):Prop:=(Li=[]∧∃fl,c=.sl fl 1 rows)∨Gr Li 1 rows c
theorem Rdb.slc {rows:List (List C)}{c:C}(h:Rdb Li rows c)(kn:Kn H0 H E (B++Li)):Slc H 1 rows c:=by
 rcases h with ⟨_,fl,rfl⟩|h
 ·exact .mk' _ _ _ _
 ·exact h.slc kn
theorem Rdb.isOw {rows:List (List C)}{c:C}(h:Rdb Li rows c):c.isOw=false:=by
 rcases h with ⟨_,fl,rfl⟩|h
 ·rfl
 ·exact h.isOw
def Qbju (X:Rn)(m:Nat):Prop:=∀(H0 H:Heap) (E B Li:List (Nat×Obj)) (r:Rs) (k:Nat) (l:List Int) (inc:C) (main:Bool) (fs:List Fr) (K:V→Heap→Prop),
 m≤r.u→Kn H0 H E (X.F r Li B)→r.ok X→k<X.cs.length→Rdb Li (Qb l) inc→(l.length:Int)=(Qac X.cs k).params→byL l→r.t.length≤r.u→
 (∀v r' H',Kn H0 H' E (X.F r' Li B)→r'.ok X→byI v→r'.t.length≤r'.u→(main=false→r'.t=r.t)→Goes X.cs X.S r.u (.go (fr0 X.cs k l::fs) r.s r.c) r'.u (rtn v fs r'.s r'.c)→K (.c (.int .i64 v)) H')→
 (∀e r' H',Kn H0 H' E (X.F r' Li B)→r'.ok X→(main=false→r'.t=r.t)→Halts X.cs X.S r.u (.go (fr0 X.cs k l::fs) r.s r.c) e r'.s r'.c→K (.pn (endV e)) H')→
 Qs prog Qcn [.c (.ptr X.l 0),.c (.int .i64 k),.c inc,.c (.bool main)] H K
theorem Qcf (R:List Int):(Qb R).take R.length=Qb R:=Jd (by rw[Qd];exact Js _)
theorem Qamj {op to n:Int}{args R:List Int}{rl:Nat}(i:Nat)(hR:H rl=.vec 1 (Qb R))(hi:i<args.length)(hv:0≤args.getD i 0∧(args.getD i 0).toNat<R.length)(hK:K (.c (.int .i64 (rg R (args.getD i 0)))) H) :
  Qs prog Qbt [.c (.int .i64 (i:Int)),.c (.pp [.vsl rl 1 0 R.length]),.c (.pp [.int .i64 op,.int .i64 to,.sl false 1 (Qb args),.int .i64 n])] H K:=by
 refine Qc Qaj Qpi ?_;refine Qa ?_;simp only[go_sem];refine Qag ?_;obtain⟨v,hvv⟩:∃v:Nat,args.getD i 0=v:=⟨(args.getD i 0).toNat,by omega⟩;rw[hvv]at hv hK;have hv2:v<R.length:=by simpa using hv.2
 simp only[go_sem,hR,hi,hvv,hv2,Qd,Qn _ _ hi,Qn _ _ hv2,Qcf,Jc];refine Qk ?_;simp only[go_sem,Q3,Qab,Qfp,Ja,forall_eq,RS.op];exact hK
theorem F_g (k:Kn H0 H E (X.F r A (Li++B))):Kn H0 H E (([(X.l,X.o r)]++(A++((r.so++r.tl)++B)))++Li):=k.perm (Ql fun f hf h0 hc hp=>by simp only[Rn.F,hf,h0];omega)
theorem F_g' (k:Kn H0 H E (([(X.l,X.o r)]++(A++((r.so++r.tl)++B)))++Li)):Kn H0 H E (X.F r A (Li++B)):=k.perm (Ql fun f hf h0 hc hp=>by simp only[Rn.F,hf,h0];omega)
theorem F_sw (k:Kn H0 H E (X.F r A (A'++B))):Kn H0 H E (X.F r A' (A++B)):=k.perm (Ql fun f hf h0 hc hp=>by simp only[Rn.F,hf,h0];omega)
theorem Qbrz {b c d:C}{m:List C}{j:Nat}:(b::c::d::m).drop (4+j)=m.drop (j+1):=by rw[show 4+j=(j+1)+3 by omega];rfl
set_option maxHeartbeats 8000000 in
theorem Qbo5 {op to n:Int}{args R:List Int}{rl k b:Nat}{t:List InsD}{fs:List Fr}(hx:InsW X.cs k ⟨op,to,args,n⟩)(hcl:k<X.cs.length)(hRl:R.length=(Qac X.cs k).regs.toNat)(hb:byL R)
  (kn:Kn H0 H E (X.F r [(rl,.vec 1 (Qb R))] B)) (hr:r.ok X) (hrec:Qbju X (r.u+1))
  (hK:∀R' r' H',Kn H0 H' E (X.F r' [(rl,.vec 1 (Qb R'))] B)→r'.ok X→R'.length=R.length→byL R'→r'.t=r.t→r.u<r'.u→
   Goes X.cs X.S r.u (.go (⟨k,b,⟨op,to,args,n⟩::t,R⟩::fs) r.s r.c) r'.u (.go (⟨k,b,t,R'⟩::fs) r'.s r'.c)→K (.tup []) H')
  (hP:∀e r' H',Kn H0 H' E (X.F r' [] B)→r'.ok X→r'.t=r.t→Halts X.cs X.S r.u (.go (⟨k,b,⟨op,to,args,n⟩::t,R⟩::fs) r.s r.c) e r'.s r'.c→K (.pn (endV e)) H') :
  Qs prog Qdi [.c (.ptr X.l 0),.ag [.int .i64 op,.int .i64 to,.sl false 1 (Qb args),.int .i64 n],.c (.vsl rl 1 0 R.length)] H K:=by
 obtain⟨⟨o1,o14⟩,hn1,hargs,hto,hlen,hcal,hal⟩:=hx;simp only at o1 o14 hn1 hargs hto hlen hcal hal;rw[←hRl]at hargs hto;have hav:∀i,i<args.length→0≤args.getD i 0∧(args.getD i 0).toNat<R.length:=fun i hi=>by
  rw[Jb,Jh hi];exact hargs _ (Jj hi)
 refine Qc Qaj Qyi ?_;have hfin:∀e H',K (.tup []) H'→Q3 Qcq K .nrm e H':=by
  intro e H' h;simp only[go_sem,Q3,Qab,Qcq];exact h
 refine Qa ?_;simp only[go_sem];refine Qa ?_;simp only[go_sem];refine Qbon kn hr (fun H1 hu kn hr1=>?_) (fun hu=>?_)
 rotate_left
 ·simp only[go_sem];refine hP 3 r H (Qu4 (A:=[]) kn) hr rfl ?_;rw[hu];exact .fuel
 obtain⟨r1,e1⟩:∃r1,({ r with u:=r.u+1 }:Rs)=r1:=⟨_,rfl⟩;have eu:r1.u=r.u+1:=by rw[←e1]
 have es:r1.s=r.s:=by rw[←e1]
 have ec:r1.c=r.c:=by rw[←e1]
 have et:r1.t=r.t:=by rw[←e1]
 rw[e1]at kn hr1;clear e1;have hR1:=kn.l 1 rfl;have hX:=F_o kn;have hmt:=hr1.mt;have one:∀Y,stI X.cs k b ⟨op,to,args,n⟩ t R fs r.s r.c=Y→Goes X.cs X.S r.u (.go (⟨k,b,⟨op,to,args,n⟩::t,R⟩::fs) r.s r.c) r1.u Y:=fun Y h=>by
  rw[eu];exact .one hu h
 have bad:∀e,¬e=3→stI X.cs k b ⟨op,to,args,n⟩ t R fs r.s r.c=.dn e 0 r.s r.c→Halts X.cs X.S r.u (.go (⟨k,b,⟨op,to,args,n⟩::t,R⟩::fs) r.s r.c) e r1.s r1.c:=fun e he h=>by
  rw[es,ec];exact .one hu he h
 have knP:=Qu4 (A:=[]) kn;have hRlen:(Qb R).length=R.length:=Qd R;have setR:∀(j:Nat) (v:Int) (H2:Heap),to=(j:Int)→byI v→H2=H1.set rl (.vec 1 (Qb (R.set j v)))→stI X.cs k b ⟨op,to,args,n⟩ t R fs r.s r.c=.go (⟨k,b,t,R.set to.toNat v⟩::fs) r.s r.c→∀e,Q3 Qcq K .nrm e H2:=by
  intro j v H2 hj hv h2 hst e;refine hfin _ _ (hK (R.set j v) r1 H2 (kn.stL 1 rfl h2) hr1 (by simp) (hb.set hv j) et (by omega) ?_);rw[es,ec];refine one _ ?_;rw[hst,hj];rfl
 refine Qa ?_;simp only[go_sem];refine Qa ?_;simp only[go_sem];refine Qf ?_;refine Qa ?_;simp only[go_sem];refine Qe rfl (fun hc=>?_) (fun hc=>?_)
 ·
  have ho:op=1:=of_decide_eq_true hc;obtain⟨t0,t1⟩:=hto (by rw[ho];rfl);obtain⟨j,hj⟩:∃j:Nat,to=j:=⟨to.toNat,by omega⟩;have hj2:j<R.length:=by omega
  refine Qq ?_;simp only[go_sem,hR1,hj,hj2,hRlen,Qd,Qn _ _ hj2,Qex,Qcf,Jc];intro H2 h2;exact setR j n H2 hj (hn1 ho) h2 (Qbs2 ho) _
 have n1:=of_decide_eq_false hc;refine Qa ?_;simp only[go_sem];refine Qe rfl (fun hc=>?_) (fun hc=>?_)
 ·
  have ho:op=11:=of_decide_eq_true hc;have hl:args.length=1:=by have:=hlen (by omega);rw[ho]at this;simp[Qha]at this;omega
  obtain⟨t0,t1⟩:=hto (by rw[ho];rfl);obtain⟨j,hj⟩:∃j:Nat,to=j:=⟨to.toNat,by omega⟩;have hj2:j<R.length:=by omega
  refine Qa2 ?_;simp only[go_sem,hR1,hj,hj2,hRlen,Qd,Qcf,Jc];refine Qamj 0 hR1 (by omega) (hav 0 (by omega)) ?_;have hvb:=hb.rg (args.getD 0 0);have hst:=Qbue (cs:=X.cs) (k:=k) (b:=b) (x:=⟨op,to,args,n⟩) (t:=t) (R:=R) (fs:=fs) (s:=r.s) (c:=r.c) ho;have har:ar R ⟨op,to,args,n⟩ 0=rg R (args.getD 0 0):=rfl;rw[har]at hst;obtain⟨v,hv⟩:∃v,rg R (args.getD 0 0)=v:=⟨_,rfl⟩;rw[hv]at hst hvb;rw[hv];simp only[go_sem,Qfu];refine Qbob hvb.1 (fun h16=>?_) (fun h16=>?_)
  ·have hg:=hr1.get (j:=v.toNat) (by omega);have hd:=eq_true (show 1≤(r1.mt.drop v.toNat).length by rw[hr1.dl];omega);simp only[go_sem,Qft,hX,Qbry,hg,hd,hR1,hj,hj2,hRlen,Qd,Qn _ _ hj2,Qex,Qcf,Jc];intro H2 h2;rw[ec]at h2;exact setR j _ H2 hj (hr.bc.get _) h2 (by rw[hst,if_neg (by omega)];rfl) _
  ·simp only[go_sem];exact hP 2 r1 H1 knP hr1 et (bad 2 (by omega) (by rw[hst,if_pos h16]))
 have n11:=of_decide_eq_false hc;refine Qa ?_;simp only[go_sem];refine Qe rfl (fun hc=>?_) (fun hc=>?_)
 ·
  have ho:op=12:=of_decide_eq_true hc;have hl:args.length=2:=by have:=hlen (by omega);rw[ho]at this;simp[Qha]at this;omega
  refine Qq ?_;simp only[go_sem];refine Qamj 0 hR1 (by omega) (hav 0 (by omega)) ?_;have hvb:=hb.rg (args.getD 0 0);have hst:=Qbs3 (cs:=X.cs) (k:=k) (b:=b) (x:=⟨op,to,args,n⟩) (t:=t) (R:=R) (fs:=fs) (s:=r.s) (c:=r.c) ho;have har:∀i,ar R ⟨op,to,args,n⟩ i=rg R (args.getD i 0):=fun _=>rfl;simp only[har]at hst;obtain⟨v,hv⟩:∃v,rg R (args.getD 0 0)=v:=⟨_,rfl⟩;rw[hv]at hst hvb;rw[hv];simp only[go_sem,Qfx];refine Qbob hvb.1 (fun h16=>?_) (fun h16=>?_)
  ·simp only[go_sem,Qfw];refine Qamj 1 hR1 (by omega) (hav 1 (by omega)) ?_;have hwb:=hb.rg (args.getD 1 0);obtain⟨q,hq⟩:∃q,rg R (args.getD 1 0)=q:=⟨_,rfl⟩;rw[hq]at hst hwb;rw[hq];have hp:=hr1.put (j:=v.toNat) (by omega) q;simp only[go_sem,Qfv,hX,hmt,take4,Qbry,Qbrz,hp];refine⟨by omega,fun H2 h2=>?_⟩;refine hfin _ _ (hK R { r1 with c:=r1.c.set v.toNat q } H2 (kn.stL 0 rfl h2) (hr1.cells hwb) rfl hb et (by show r.u<r1.u;omega) ?_);show Goes X.cs X.S r.u _ r1.u (.go (⟨k,b,t,R⟩::fs) r1.s (r1.c.set v.toNat q));rw[es,ec];exact one _ (by rw[hst,if_neg (by omega)])
  ·simp only[go_sem];exact hP 2 r1 H1 knP hr1 et (bad 2 (by omega) (by rw[hst,if_pos h16]))
 have n12:=of_decide_eq_false hc;refine Qa ?_;simp only[go_sem];refine Qe rfl (fun hc=>?_) (fun hc=>?_)
 ·
  have ho:op=13:=of_decide_eq_true hc;have hl:args.length=1:=by have:=hlen (by omega);rw[ho]at this;simp[Qha]at this;omega
  have how:=hr1.gs.isOw;refine Qa2 ?_;simp only[go_sem,hX,hmt,how];refine Qamj 0 hR1 (by omega) (hav 0 (by omega)) ?_;have hvb:=hb.rg (args.getD 0 0);have hst:=Qbs4 (cs:=X.cs) (k:=k) (b:=b) (x:=⟨op,to,args,n⟩) (t:=t) (R:=R) (fs:=fs) (s:=r.s) (c:=r.c) ho;have har:ar R ⟨op,to,args,n⟩ 0=rg R (args.getD 0 0):=rfl;rw[har]at hst;obtain⟨v,hv⟩:∃v,rg R (args.getD 0 0)=v:=⟨_,rfl⟩;rw[hv]at hst hvb;rw[hv];have hls:=hr1.ls;have huS:=hr1.uS;have hS:=hr1.S;simp only[go_sem,Qfz,hX,hmt,how];refine (F_s kn).growR (new:=Qb [v]) hr1.gs (.mk' _ _ _ _) (Qp _) (by simp only[Qd,LIM,Jp,Jm];omega) fun t2 Lg2 H2 hg2 ht2 kn2=>?_;have hX2:H2 X.l=.st (.sl X.fl 3 (Qj X.cs)::.int .i64 X.S::.int .i64 r1.u::r1.sc::r1.mt):=kn2.l 0 rfl;simp only[go_sem,Qfy,hX2,hmt,ht2];intro H3 h3;have hr2:Rs.ok X { r1 with s:=r1.s++[v],sc:=t2,so:=Lg2 }:=by
   refine⟨?_,hr1.gt,hr1.c,hr1.bc,hr1.bs.app hvb,?_,hr1.lt,huS,hS⟩
   ·show Gr Lg2 1 (Qb (r1.s++[v])) t2;rw[Qbg];exact hg2
   ·show (r1.s++[v]).length≤r1.u;have h1:=hr.ls;rw[es,Jw];simp;omega
  refine hfin _ _ (hK R { r1 with s:=r1.s++[v],sc:=t2,so:=Lg2 } H3 (F_s' (r:=r1) rfl rfl (kn2.stL 0 rfl h3)) hr2 rfl hb et (by show r.u<r1.u;omega) ?_);show Goes X.cs X.S r.u _ r1.u (.go (⟨k,b,t,R⟩::fs) (r1.s++[v]) r1.c);rw[es,ec];exact one _ hst
 have n13:=of_decide_eq_false hc;refine Qa ?_;simp only[go_sem];refine Qe rfl (fun hc=>?_) (fun hc=>?_)
 ·
  have ho:op=14:=of_decide_eq_true hc;obtain⟨c0,c1,c2⟩:=hcal ho;obtain⟨t0,t1⟩:=hto (by rw[ho];rfl);obtain⟨j,hj⟩:∃j:Nat,to=j:=⟨to.toNat,by omega⟩;have hj2:j<R.length:=by omega
  have hst:=Qbq5 (cs:=X.cs) (k:=k) (b:=b) (x:=⟨op,to,args,n⟩) (t:=t) (R:=R) (fs:=fs) (s:=r.s) (c:=r.c) ho;simp only at hst;refine Qa ?_;simp only[go_sem];refine Qy ?_;refine Qa ?_;simp only[go_sem,Qd];try intro _
  refine Qh (Qf (Qw (fun m e1 H2=>∃(i:Nat) (c7:C) (Li:List (Nat×Obj)),m=args.length-i∧i≤args.length∧Gr Li 1 (Qb ((args.take i).map (rg R))) c7∧Kn H0 H2 E (X.F r1 [(rl,.vec 1 (Qb R))] (Li++B))∧
   lk 0 e1=.c (.ptr X.l 0)∧lk 4 e1=.c (.pp [.int .i64 op,.int .i64 to,.sl false 1 (Qb args),.int .i64 n])∧lk 5 e1=.c (.pp [.vsl rl 1 0 R.length])∧
   lk 6 e1=.c (.fn Qbt [.pp [.vsl rl 1 0 R.length],.pp [.int .i64 op,.int .i64 to,.sl false 1 (Qb args),.int .i64 n]])∧lk 7 e1=.c c7∧lk 80 e1=.c (.int .i64 args.length)∧lk 81 e1=.c (.int .i64 i)) args.length ?_ ?_))
  ·exact⟨0,_,[],by omega,by omega,.nil 1,kn,rfl,rfl,rfl,rfl,rfl,rfl,rfl⟩
  ·clear kn hR1 hX;rintro m e1 H2 ⟨i,c7,Li,hm,hi,hgr,kn,l0,l4,l5,l6,l7,l80,l81⟩;have hR1:=kn.l 1 rfl;have how:=hgr.isOw;refine Qa ?_;simp only[go_sem,l0,l4,l5,l6,l7,l80,l81,how];refine Qh (Qe rfl ?_ ?_)
   ·intro hc;have hlt:i<args.length:=(by simpa using hc);refine Qi ?_;try simp only[go_sem]
    refine Qh (Qf ?_);refine Qa ?_;simp only[go_sem,l0,l4,l5,l6,l7,l80,l81,how];refine Qq ?_;simp only[go_sem,how];refine Qamj i hR1 hlt (hav i hlt) ?_;have e9:args.getD i 0=args[i]:=(by simp[Jb,hlt]);simp only[go_sem,Qf1,how];refine (F_g kn).growR (new:=Qb [rg R (args.getD i 0)]) hgr (.mk' _ _ _ _) (Qp _) (by simp only[Qd,LIM,Jp,Jm,Jg,Jt];omega) fun t2 Lg2 H3 hg2 ht2 kn2=>?_;simp only[go_sem,Qf0,ht2];refine Qq ?_;simp only[go_sem,ht2];refine⟨Qr (by omega) (by omega),?_⟩;show ∃m,_;refine⟨args.length-(i+1),by omega,i+1,t2,Lg2,rfl,by omega,?_,F_g' kn2,rfl,rfl,rfl,rfl,rfl,rfl,rfl⟩;have:Qb ((args.take (i+1)).map (rg R))=Qb ((args.take i).map (rg R))++Qb [rg R (args.getD i 0)]:=by
     rw[Jl hlt,J3,Qbg,e9];rfl
    rw[this];exact hg2
   ·intro hc;have hge:args.length≤i:=(by simpa using hc);rw[Jd hge]at hgr;have hX:=F_o kn;refine Qv ?_;simp only[go_sem,Go.AE.X.next];refine Qa2 ?_;simp only[go_sem,l0,l4,l5,l6,l7,how];obtain⟨nn,hnn⟩:∃nn:Nat,n=nn:=⟨n.toNat,by omega⟩;have hnn2:n.toNat=nn:=(by rw[hnn];rfl);rw[hnn2]at c1 c2 hst;rw[hnn];have hlt1:=hr.lt;refine hrec H0 H2 E ([(rl,.vec 1 (Qb R))]++B) Li r1 nn (args.map (rg R)) c7 false (⟨k,b,⟨op,to,args,n⟩::t,R⟩::fs) _ (by omega) (F_sw kn) hr1 (by omega) (.inr hgr) (by rw[Jg];exact c2) (fun v hv=>by
     obtain⟨a,_,rfl⟩:=Jaa.1 hv;exact hb.rg a) (by rw[et,eu];exact hlt1) (fun v r2 H3 kn3 hr2 hv _ ht2 hgo=>?_) (fun e r2 H3 kn3 hr2 ht2 hha=>?_)
    ·have kn3:=F_sw kn3;have hR3:=kn3.l 1 rfl;simp only[go_sem,Qej,l0,l4,l5,l6,l7,how,hR3,hj,hj2,hRlen,Qd,Qn _ _ hj2,Qex,Qcf,Jc];intro H4 h4;have kn4:Kn H0 H4 E (X.F r2 [(rl,.vec 1 (Qb (R.set j v)))] (Li++B)):=kn3.stL 1 rfl h4;have hg1:=hgo.1;refine hfin _ _ (hK (R.set j v) r2 H4 (Qa0j kn4) hr2 (by simp) (hb.set hv j) (by rw[ht2 rfl,et]) (by omega) ?_);refine (one _ hst).trans ?_;rw[←es,←ec];have ej:j=to.toNat:=(by omega);rw[ej];exact hgo
    ·simp only[go_sem];refine hP e r2 H3 (Qa0j (Qu4 (A:=[]) (F_sw kn3))) hr2 (by rw[ht2 rfl,et]) ?_;refine (one _ hst).halts ?_;rw[←es,←ec];exact hha
 have n14:=of_decide_eq_false hc;refine Qa ?_;simp only[go_sem];refine Qe rfl (fun hc=>?_) (fun hc=>?_)
 ·
  have ho:op=2:=of_decide_eq_true hc;have hl:args.length=1:=by have:=hlen (by omega);rw[ho]at this;simp[Qha]at this;omega
  obtain⟨t0,t1⟩:=hto (by rw[ho];rfl);obtain⟨j,hj⟩:∃j:Nat,to=j:=⟨to.toNat,by omega⟩;have hj2:j<R.length:=by omega
  refine Qa2 ?_;simp only[go_sem,hR1,hj,hj2,hRlen,Qd,Qcf,Jc];refine Qamj 0 hR1 (by omega) (hav 0 (by omega)) ?_;simp only[go_sem,Qek,hR1,hj,hj2,hRlen,Qd,Qn _ _ hj2,Qex,Qcf,Jc];intro H2 h2;exact setR j _ H2 hj (hb.rg _) h2 (Qbq6 ho) _
 have n2:=of_decide_eq_false hc;refine Qa ?_;simp only[go_sem];refine Qe rfl (fun hc=>?_) (fun hc=>?_)
 ·
  have ho:op=10:=of_decide_eq_true hc;have hl:args.length=1:=by have:=hlen (by omega);rw[ho]at this;simp[Qha]at this;omega
  obtain⟨t0,t1⟩:=hto (by rw[ho];rfl);obtain⟨j,hj⟩:∃j:Nat,to=j:=⟨to.toNat,by omega⟩;have hj2:j<R.length:=by omega
  refine Qa2 ?_;simp only[go_sem,hR1,hj,hj2,hRlen,Qd,Qcf,Jc];refine Qamj 0 hR1 (by omega) (hav 0 (by omega)) ?_;simp only[go_sem,Qem,hR1,hj,hj2,hRlen,Qd,Qcf,Jc];refine Qa90 ?_;simp only[go_sem,Qel,hR1,hj,hj2,hRlen,Qd,Qn _ _ hj2,Qex,Qcf,Jc,Jf,Je];intro H2 h2;exact setR j _ H2 hj (Qbec _) h2 (Qbs1 ho) _
 have n10:=of_decide_eq_false hc;have h3:3≤op:=by omega
 have h9:op≤9:=by omega
 have hl:args.length=2:=by
  have:=hlen (by omega);rw[Qha,if_neg (by omega),if_neg (by omega),if_pos (.inl ⟨h3,h9⟩)]at this;omega
 obtain⟨t0,t1⟩:=hto (by
  simp only[Qdv,Ji,decide_eq_true_eq,Bool.not_eq_true',decide_eq_false_iff_not];omega)
 obtain⟨j,hj⟩:∃j:Nat,to=j:=⟨to.toNat,by omega⟩;have hj2:j<R.length:=by omega
 have hst:=Qbud (cs:=X.cs) (k:=k) (b:=b) (x:=⟨op,to,args,n⟩) (t:=t) (R:=R) (fs:=fs) (s:=r.s) (c:=r.c) h3 h9;have har:∀i,ar R ⟨op,to,args,n⟩ i=rg R (args.getD i 0):=fun _=>rfl;simp only[har]at hst;have hpb:=Qbrv (op:=op) (hb.rg (args.getD 0 0)) (hb.rg (args.getD 1 0));refine Qag ?_;simp only[go_sem];refine Qamj 0 hR1 (by omega) (hav 0 (by omega)) ?_;simp only[go_sem,Qep];refine Qamj 1 hR1 (by omega) (hav 1 (by omega)) ?_;simp only[go_sem,Qeo];refine Qbow (hb.rg _) (hb.rg _) h3 h9 ?_;obtain⟨pv,hpv⟩:∃pv,arP op (rg R (args.getD 0 0)) (rg R (args.getD 1 0))=pv:=⟨_,rfl⟩;rw[hpv]at hst hpb;rw[hpv];obtain⟨v,ok⟩:=pv;simp only at hst hpb;simp only[go_sem,Qen,Jf,Je];refine Qy ?_;refine Qa ?_;simp only[go_sem];refine Qh (Qe rfl (fun hc=>?_) (fun hc=>?_))
 ·have hok:ok=false:=Qt3 hc;refine Qq ?_;simp only[go_sem];refine Qbjg ?_;simp only[go_sem];exact hP 1 r1 H1 knP hr1 et (bad 1 (by omega) (by rw[hst,if_neg (by rw[hok];simp)]))
 ·have hok:ok=true:=Qez hc;refine Qi ?_;try simp only[go_sem]
  refine Qq ?_;simp only[go_sem,hR1,hj,hj2,hRlen,Qd,Qn _ _ hj2,Qex,Qcf,Jc];intro H2 h2;exact setR j _ H2 hj hpb h2 (by rw[hst,if_pos hok]) _
theorem Qbmg {p:PhiD}{R:List Int}{rl xr xa w:Nat}(h1:H xr=.st [.vsl rl 1 0 R.length])(hR:H rl=.vec 1 (Qb R))(h2:H xa=.st [.int .i64 w])(hw:w<p.args.length)
  (hv:0≤p.args.getD w 0∧(p.args.getD w 0).toNat<R.length) (hK:K (.c (.int .i64 (phiV R w p))) H) :
  Qs prog Qbd [.ag [.int .i64 p.to,.sl false 1 (Qb p.args)],.c (.ptr xr 0),.c (.ptr xa 0)] H K:=by
 refine Qc Qaj Qt2 ?_;refine Qa ?_;simp only[go_sem];refine Qag ?_;rw[phiV]at hK;obtain⟨v,hvv⟩:∃v:Nat,p.args.getD w 0=v:=⟨(p.args.getD w 0).toNat,by omega⟩;rw[hvv]at hv hK;have hv2:v<R.length:=by simpa using hv.2
 simp only[go_sem,h1,h2,hR,hw,hvv,hv2,Qd,Qn _ _ hw,Qn _ _ hv2,Qcf,Jc];refine Qk ?_;simp only[go_sem,Q3,Qab,Qga,Ja,forall_eq,RS.op];exact hK
set_option maxHeartbeats 4000000 in
theorem Qbqu {ps:List PhiD}{R:List Int}{rl xr xa w:Nat}{f:Bool}(h1:H xr=.st [.vsl rl 1 0 R.length])(hR:H rl=.vec 1 (Qb R))(h2:H xa=.st [.int .i64 w])(hl:ps.length≤1200)(hw:∀p∈ps,w<p.args.length)
  (hv:∀p∈ps,0≤p.args.getD w 0∧(p.args.getD w 0).toNat<R.length) (hK:∀(H':Heap),Upd H H' []→K (.c (.sl false 1 (Qb (ps.map (phiV R w))))) H') :
  Qs prog Qc5 [.c (.sl f 2 (Q1 ps)),.c (.fn Qbd [.ptr xr 0,.ptr xa 0])] H K:=by
 refine Qx ?_;refine Qc Qaj Qwu ?_;have kn:=Kn.start0 H;have n1:H xr≠.none:=by rw[h1];simp
 have n2:H rl≠.none:=by rw[hR];simp
 have n3:H xa≠.none:=by rw[h2];simp
 refine Qa ?_;simp only[go_sem];refine Qa ?_;simp only[go_sem];refine Qy ?_;refine Qa ?_;simp only[go_sem,Q0];try intro _
 refine Qh (Qf (Qw (fun m e1 H1=>∃(i:Nat) (t:C) (Lg:List (Nat×Obj)),m=ps.length-i∧i≤ps.length∧Gr Lg 1 (Qb ((ps.take i).map (phiV R w))) t∧Kn H H1 [] ([]++Lg)∧
  lk 1 e1=.c (.fn Qbd [.ptr xr 0,.ptr xa 0])∧lk 5 e1=.c t∧lk 8 e1=.c (.sl f 2 (Q1 ps))∧lk 9 e1=.c (.int .i64 ps.length)∧lk 10 e1=.c (.int .i64 i)) ps.length ?_ ?_))
 ·exact⟨0,_,[],by omega,by omega,.nil 1,kn,rfl,rfl,rfl,rfl,rfl⟩
 ·clear kn;rintro m e1 H1 ⟨i,t,Lg,hm,hi,hgr,kn,l1,l5,l8,l9,l10⟩;have htw:=hgr.isOw;refine Qa ?_;simp only[go_sem,l1,l5,l8,l9,l10,htw];refine Qh (Qe rfl ?_ ?_)
  ·intro hc;have hlt:i<ps.length:=by simpa using hc
   obtain⟨p,hp⟩:∃p,ps[i]=p:=⟨_,rfl⟩;have hpm:p∈ps:=by rw[←hp];exact Jj hlt
   refine Qi ?_;try simp only[go_sem]
   refine Qh (Qf ?_);refine Qa ?_;simp only[go_sem,l1,l5,l8,l9,l10,htw,hlt,Q0,Qaw _ _ hlt,hp,PhiD.cells];intro x7 hx7 H2 h2';have kn:=kn.al hx7 h2';have hx7:H2 x7=.st [.int .i64 0,.sl true 1 []]:=(kn.get (x7,.st [.int .i64 0,.sl true 1 []]) (by simp)).1;simp only[go_sem,Qeg,hx7,htw];intro H3 h3;have kn:Kn H H2 [] ([(x7,.st [.int .i64 0,.sl true 1 []])]++Lg):=kn.perm (by simp);have kn:Kn H H3 [] ([(x7,.st [.int .i64 p.to,.sl false 1 (Qb p.args)])]++Lg):=kn.stL 0 rfl h3;have hx7:H3 x7=.st [.int .i64 p.to,.sl false 1 (Qb p.args)]:=kn.l 0 rfl;refine Qq ?_;simp only[go_sem,hx7,htw];refine Qbmg (p:=p) (R:=R) (rl:=rl) (w:=w) (by rw[kn.chg xr n1 (by simp)];exact h1) (by rw[kn.chg rl n2 (by simp)];exact hR) (by rw[kn.chg xa n3 (by simp)];exact h2) (hw p hpm) (hv p hpm) ?_;simp only[go_sem,Qei,htw];refine kn.growR (new:=Qb [phiV R w p]) hgr (.mk' _ _ _ _) (Qp _) (by simp only[Qd,Jg,Jt,LIM,Jp,Jm];omega) fun t2 Lg2 H4 hgr2 ht2 kn=>?_;have kn:Kn H H4 [] Lg2:=Kn.drop (B:=[(x7,_)]) (kn.perm Jn);simp only[go_sem,Qeh,ht2];refine Qq ?_;simp only[go_sem,ht2];refine⟨Qr (by omega) (by omega),?_⟩;show ∃m,_;refine⟨ps.length-(i+1),by omega,i+1,t2,Lg2,rfl,by omega,?_,kn,rfl,rfl,rfl,rfl,rfl⟩;have:Qb ((ps.take (i+1)).map (phiV R w))=Qb ((ps.take i).map (phiV R w))++Qb [phiV R w p]:=by rw[Jl hlt,J3,Qbg,hp];rfl
   rw[this];exact hgr2
  ·intro hc;have hge:ps.length≤i:=by simpa using hc
   rw[Jd hge]at hgr;refine Qv ?_;simp only[go_sem,Go.AE.X.next];refine Qa ?_;simp only[go_sem,l5,htw];refine Qk ?_;simp only[go_sem,Q3,Qab,Qhw,Ja,forall_eq,RS.op,htw];exact⟨_,.c _ _ (hgr.frz kn (Qp _)),hK _ kn.fin⟩
end Go.AE.Y
namespace Go.AE.Y
attribute [local go_sem] cond_true cond_false Bool.not_true Bool.not_false
attribute [local instance] Classical.propDecidable
open Go.Proofs.Tryz
variable {H H' H0:Heap}{K:V→Heap→Prop}{E A A' B Li:List (Nat×Obj)}{X:Rn}{r r':Rs}
structure RunW (cs:List CodeD):Prop where
 ro:RunOk cs
 ins:∀k b,k<cs.length→b<(Qac cs k).blocks.length→∀x∈(Qan (Qac cs k) b).ins,InsW cs k x
 par:∀k,k<cs.length→0≤(Qac cs k).params∧(Qac cs k).params≤3∧(Qac cs k).params≤(Qac cs k).regs
 n:cs.length≤4
theorem runW {cs:List CodeD}(h:Qbw cs=true):RunW cs:=by
 have ro:=Q9f h;obtain⟨h1,h2,h3⟩:=of_decide_eq_true h;refine⟨ro,fun k b hk hb x hx=>?_,fun k hk=>?_,by omega⟩
 ·have hok:=(ro.ok k hk).bs b hb;have hop:=ro.op k b hk x hx;rw[Qbs hb]at hx;have ec:=Qbj hk;have g:Q6l cs k x=true:=by
   have hb':b<cs[k].blocks.length:=by rw[←ec];exact hb
   have g:=(h2 k hk).2 b hb';simp only[Q84,Ji,List.all_eq_true]at g;refine g.1.2 x ?_;have:(Qac cs k).blocks[b]=cs[k].blocks[b]:=by simp only[ec]
   rw[←this];exact hx
  simp only[Q6l,insL,Ji]at g;obtain⟨_,g3⟩:=g;refine⟨⟨hop.1,hop.2.1⟩,fun h1=>?_,fun v hv=>?_,fun hm=>?_,hop.2.2,fun h14=>?_,hok.al x hx⟩
  ·rw[if_neg (by omega)]at g3;simp only[Ji,decide_eq_true_eq]at g3;exact⟨g3.1.2.1,g3.1.2.2⟩
  ·have:=hok.args x hx v hv;obtain⟨a,b⟩:=this;exact⟨a,by omega⟩
  ·obtain⟨a,b⟩:=hok.to x hx hm;exact⟨a,by omega⟩
  ·rw[if_pos h14]at g3;simp only[Ji,decide_eq_true_eq]at g3;obtain⟨⟨a,b⟩,c⟩:=g3;have hlt:x.n.toNat<cs.length:=by omega
   refine⟨a,by omega,?_⟩;rw[c,Qanq hlt,Qbj hlt]
 ·obtain⟨g1,_⟩:=h2 k hk;simp only[Qpf,Ji,decide_eq_true_eq]at g1;rw[Qbj hk];omega
def Qarv (cs:List CodeD)(k b:Nat):Option Nat→List Int→Fr
 |none,R=>⟨k,b,(Qan (Qac cs k) b).ins,R⟩
 |some a,R=>frJ cs k a R b
def Qbez:Option Nat→Int
 |none=>-1
 |some a=>a
def Qbd1 (q:CodeD)(b:Nat):Option Nat→Prop
 |none=>True
 |some a=>a<q.blocks.length∧(b:Int)∈gnx q a
theorem Qbog:∀(ns:List Int) (i:Nat) (v:Int),i<ns.length→ns.getD i 0=v→v∉ns.take i→ns.idxOf v=i
 |[],i,v,h,_,_=>by simp at h
 |x::ns,0,v,_,h,_=>by
  have:x=v:=by simpa using h
  simp[List.idxOf_cons,this]
 |x::ns,i+1,v,h1,h2,h3=>by
  have hx:¬x=v:=by
   intro hh;exact h3 (by simp[hh])
  have:=Qbog ns i v (by simpa using h1) (by simpa using h2) (fun hh=>h3 (by simp[hh]));rw[List.idxOf_cons,cond_eq_ite,if_neg (by simpa using hx),this]
theorem Qbtb {q:CodeD}{b a:Nat}{ix:Int}(hq:q.ok)(ha:a<q.blocks.length)(hm:(b:Int)∈gnx q a)(h:IsIx (Q8 (gnx q) (b:Int) q.blocks.length) (a:Int) ix) :
  ix=(wayI q b a:Int)∧wayI q b a<(Q8 (gnx q) (b:Int) q.blocks.length).length:=by
 have h1:=hq.ix ha hm;refine⟨?_,h1⟩;rcases h with ⟨rfl,hn⟩|⟨i,rfl,h2,h3,h4⟩
 ·exact absurd (List.idxOf_lt_length_iff.1 h1) hn
 ·rw[wayI,Qbog _ i _ h2 h3 h4]
theorem Qbkv (n:Nat):List.replicate n [C.int .i64 0]=Qb (List.replicate n 0):=by simp[Qb]
theorem Qbpu (l:List Int)(n:Nat):Qb l++(Qb (List.replicate n 0)).drop l.length=Qb (l++List.replicate (n-l.length) 0):=by simp[Qb,List.drop_replicate]
theorem Rs.ok.d16 (h:r.ok X):r.mt.drop 16=[r.tc]:=by
 rw[Rs.mt,List.drop_append_of_le_length (by simp[Qif,h.c]),Jq (by simp[Qif,h.c])];rfl
theorem Rs.ok.t16 (h:r.ok X):r.mt.take 16=Qif r.c:=by
 rw[Rs.mt,List.take_append_of_le_length (by simp[Qif,h.c]),Jd (by simp[Qif,h.c])]
theorem Rs.ok.d17 (h:r.ok X):r.mt.drop 17=[]:=Jq (by rw[h.mt];exact Js _)
def o9 (q:CodeD)(n:Nat):Obj:=.st [.int .i64 q.params,.int .i64 n,.sl false 5 (Qm q.blocks)]
def oB (y:BlkD):Obj:=.st [.sl false 2 (Q1 y.phis),.sl false 4 (Qaq y.ins),.int .i64 y.jump,.int .i64 y.on,.sl false 1 (Qb y.next)]
def phF (R:List Int)(w:Nat)(l:List PhiD)(T:List Int):List Int:=l.foldl (fun T p=>T.set p.to.toNat (phiV R w p)) T
theorem Qbmb (R:List Int)(w:Nat)(l:List PhiD)(p:PhiD)(T:List Int):phF R w (l++[p]) T=(phF R w l T).set p.to.toNat (phiV R w p):=by simp[phF]
theorem Qbqq (R:List Int)(w:Nat)(l:List PhiD)(T:List Int):(phF R w l T).length=T.length:=Qa9m l T
set_option maxHeartbeats 32000000 in
theorem Qbef (hw:RunW X.cs){m:Nat}(ih:∀m',m<m'→Qbju X m'):Qbju X m:=by
 intro H0 H E B Li r k l inc main fs K hm kn hr hk hin hl hbl hlt hK hP;have hok:=hw.ro.ok k hk;obtain⟨hp0,hp3,hpr⟩:=hw.par k hk;have hwi:=hw.ins k;have hnx:=fun b hb hj R=>Qbgy hw.ro (k:=k) (b:=b) hk hb hj R;have hjn:=fun b hb=>hw.ro.jn k b hk hb;obtain⟨q,hq⟩:∃q,Qac X.cs k=q:=⟨_,rfl⟩;rw[hq]at hok hp0 hp3 hpr hl hwi hnx;simp only[hq]at hjn;have hqk:X.cs[k]=q:=by rw[←Qbj hk];exact hq
 have hr0:=hok.r0;have hr1:=hok.r1;have hb0:=hok.b0;have hb1:=hok.b1;obtain⟨n,hn⟩:∃n:Nat,q.regs=n:=⟨q.regs.toNat,by omega⟩;have hn2:q.regs.toNat=n:=by omega
 have hln:l.length≤n:=by omega
 have how:=hin.isOw;have hX:=F_o kn;have hmt:=hr.mt;refine Qc Qaj Q1o ?_;refine Qa ?_;simp only[go_sem,how];refine Qa ?_;simp only[go_sem,hX,hmt,hk,Q4,Qam _ _ hk,CodeD.cells,hqk,hn,how];intro x9 hx9 H1 h1;have kn:Kn H0 H1 E (X.F r [(x9,.st [.int .i64 0,.int .i64 0,.sl true 5 []])] (Li++B)):=F_al ((F_in kn).al hx9 h1);have hx9:H1 x9=.st [.int .i64 0,.int .i64 0,.sl true 5 []]:=kn.l 1 rfl;simp only[go_sem,Qgb,hx9,how];intro H2 h2;have kn:Kn H0 H2 E (X.F r [(x9,o9 q n)] (Li++B)):=kn.stL 1 rfl h2;have hx9:H2 x9=.st [.int .i64 q.params,.int .i64 n,.sl false 5 (Qm q.blocks)]:=kn.l 1 rfl;refine Qa ?_;simp only[go_sem,hx9,how];refine⟨by simp only[LIM];omega,fun rl hrl H3 h3=>?_⟩;have kn:Kn H0 H3 E (X.F r [(x9,o9 q n),(rl,.vec 1 (Qb (List.replicate n 0)))] (Li++B)):=F_al (A:=[(x9,o9 q n)]) (kn.al hrl (by rw[h3,Qbkv]));simp only[go_sem,Qgd,how];intro x10 hx10 H4 h4;have kn:Kn H0 H4 E (X.F r [(x9,o9 q n),(rl,.vec 1 (Qb (List.replicate n 0))),(x10,.st [.sl true 1 []])] (Li++B)):=F_al (A:=[(x9,o9 q n),(rl,.vec 1 (Qb (List.replicate n 0)))]) (kn.al hx10 h4);have hx10:H4 x10=.st [.sl true 1 []]:=kn.l 3 rfl;simp only[go_sem,Qgc,hx10,how];intro H5 h5;have kn:Kn H0 H5 E (X.F r [(x9,o9 q n),(rl,.vec 1 (Qb (List.replicate n 0))),(x10,.st [.vsl rl 1 0 n])] (Li++B)):=kn.stL 3 rfl h5;have hx10:H5 x10=.st [.vsl rl 1 0 n]:=kn.l 3 rfl;have hrl5:H5 rl=.vec 1 (Qb (List.replicate n 0)):=kn.l 2 rfl;have hs:=hin.slc (F_g kn);have hsok:=eq_true hs.ok;have hssz:=hs.sz;have hsr:=hs.rows;have hsl:=hs.len;rw[Qd]at hsl;refine Qa ?_;simp only[go_sem,hx10,hrl5,hsok,hssz,hsr,hsl,how,Qd,List.length_replicate,Jc];refine⟨hln,Qp _,fun H6 h6=>?_⟩;rw[Qbpu]at h6;have kn:Kn H0 H6 E (X.F r [(x9,o9 q n),(rl,.vec 1 (Qb (Qabg q l))),(x10,.st [.vsl rl 1 0 n])] (Li++B)):=by
  rw[Qabg,hn2];exact kn.stL 2 rfl h6
 have kn:Kn H0 H6 E (X.F r [(rl,.vec 1 (Qb (Qabg q l))),(x9,o9 q n),(x10,.st [.vsl rl 1 0 n])] (Li++B)):=kn.perm (Ql fun f hf h0 hc hp=>by
  show f ([(X.l,X.o r)]++(([(x9,o9 q n)]++([(rl,.vec 1 (Qb (Qabg q l)))]++[(x10,.st [.vsl rl 1 0 n])]))++((r.so++r.tl)++(Li++B))))=f ([(X.l,X.o r)]++(([(rl,.vec 1 (Qb (Qabg q l)))]++([(x9,o9 q n)]++[(x10,.st [.vsl rl 1 0 n])]))++((r.so++r.tl)++(Li++B))));simp only[hf];omega)
 clear hx9 hx10 hrl5 hs hsok hssz hsr hsl hX;refine Qa ?_;simp only[go_sem];refine Qf (Qw (fun mm e1 H1=>∃(b:Nat) (fr:Option Nat) (R:List Int) (r1:Rs),mm=X.S-r1.u∧b<q.blocks.length∧R.length=n∧byL R∧Kn H0 H1 E (X.F r1 [(rl,.vec 1 (Qb R)),(x9,o9 q n),(x10,.st [.vsl rl 1 0 n])] (Li++B))∧r1.ok X∧r.u≤r1.u∧r1.t.length≤r1.u∧(main=false→r1.t=r.t)∧Qbd1 q b fr∧
  Goes X.cs X.S r.u (.go (fr0 X.cs k l::fs) r.s r.c) r1.u (.go (Qarv X.cs k b fr R::fs) r1.s r1.c)∧
  lk 0 e1=.c (.ptr X.l 0)∧lk 3 e1=.c (.bool main)∧lk 9 e1=.c (.ptr x9 0)∧lk 10 e1=.c (.ptr x10 0)∧lk 11 e1=.c (.int .i64 b)∧lk 12 e1=.c (.int .i64 (Qbez fr))) (X.S-r.u) ?_ ?_)
 ·refine⟨0,none,Qabg q l,r,rfl,hb0,by rw[Qbg8 (by omega),hn2],Qbj2 hbl,kn,hr,Js _,hlt,fun _=>rfl,trivial,?_,rfl,rfl,rfl,rfl,rfl,rfl⟩;have:Qarv X.cs k 0 none (Qabg q l)=fr0 X.cs k l:=by rw[Qarv,fr0,hq]
  rw[this];exact .refl hr.uS
 clear kn hmt;rintro mm e1 H7 ⟨b,fr,R,r1,hmm,hb,hRl,hbR,kn,hr1',hu1,ht1,htf,hfo,hgo,l0,l3,l9,l10,l11,l12⟩;refine Qf ?_;refine Qy ?_;refine Qa ?_;simp only[go_sem,l0,l3,l9,l10,l11,l12];clear l0 l3 l9 l10 l11 l12;refine Qd2 (fun e2 H2=>∃r2:Rs,Kn H0 H2 E (X.F r2 [(rl,.vec 1 (Qb R)),(x9,o9 q n),(x10,.st [.vsl rl 1 0 n])] (Li++B))∧r2.ok X∧r2.u=r1.u∧r2.s=r1.s∧r2.c=r1.c∧(main=false→r2.t=r1.t)∧
  lk 0 e2=.c (.ptr X.l 0)∧lk 3 e2=.c (.bool main)∧lk 9 e2=.c (.ptr x9 0)∧lk 10 e2=.c (.ptr x10 0)∧lk 11 e2=.c (.int .i64 b)∧lk 12 e2=.c (.int .i64 (Qbez fr))) ?_ ?_
 ·intro Q' hQn hQr hQe;refine Qe rfl (fun hc=>?_) (fun hc=>?_)
  ·have hX:=F_o kn;have hmt:=hr1'.mt;have hd16:=hr1'.d16;have ht16:=hr1'.t16;have hd17:=hr1'.d17;have how:=hr1'.gt.isOw;have huS:=hr1'.uS;have hS:=hr1'.S;refine Qq ?_;simp only[go_sem,hX,hmt,hd16,how];refine (F_t kn).growR (new:=Qb [(b:Int)]) hr1'.gt (.mk' _ _ _ _) (Qp _) (by simp only[Qd,LIM,Jp,Jm];omega) fun t2 Lg2 H8 hg2 ht2 kn2=>?_;have hX:H8 X.l=.st (.sl X.fl 3 (Qj X.cs)::.int .i64 X.S::.int .i64 r1.u::r1.sc::r1.mt):=kn2.l 0 rfl;simp only[go_sem,Qge,hX,hmt,hd16,ht16,hd17,ht2,List.append_nil];intro H9 h9;refine hQn _ _ ⟨{ r1 with t:=r1.t++[(b:Int)],tc:=t2,tl:=Lg2 },F_t' (r:=r1) rfl rfl (kn2.stL 0 rfl h9),⟨hr1'.gs,?_,hr1'.c,hr1'.bc,hr1'.bs,hr1'.ls,?_,huS,hS⟩,rfl,rfl,rfl,(fun h=>by rw[h]at hc;cases hc),rfl,rfl,rfl,rfl,rfl,rfl⟩
   ·show Gr Lg2 1 (Qb (r1.t++[(b:Int)])) t2;rw[Qbg];exact hg2
   ·show (r1.t++[(b:Int)]).length≤r1.u+1;rw[Jw];simp;exact ht1
  ·refine Qi ?_;exact hQn _ _ ⟨r1,kn,hr1',rfl,rfl,rfl,fun _=>rfl,rfl,rfl,rfl,rfl,rfl,rfl⟩
 clear kn;rintro e2 H8 ⟨r2,kn,hr2,eu,es,ec,et,l0,l3,l9,l10,l11,l12⟩;have hx9:H8 x9=.st [.int .i64 q.params,.int .i64 n,.sl false 5 (Qm q.blocks)]:=kn.l 2 rfl;obtain⟨y,hy⟩:∃y,q.blocks[b]=y:=⟨_,rfl⟩;have hyb:Qan q b=y:=by rw[Qbs hb,hy]
 have hyo:=hok.bs b hb;rw[hy]at hyo;have hil:=hok.il b hb;rw[hy]at hil;refine Qa ?_;simp only[go_sem,l0,l3,l9,l10,l11,l12,hx9,hb,Qo,Qaa _ _ hb,hy,BlkD.cells];intro x13 hx13 H9 h9;have kn:Kn H0 H9 E (X.F r2 [(rl,.vec 1 (Qb R)),(x9,o9 q n),(x10,.st [.vsl rl 1 0 n]),(x13,.st [.sl true 2 [],.sl true 4 [],.int .i64 0,.int .i64 0,.sl true 1 []])] (Li++B)):=F_al (A:=[(rl,.vec 1 (Qb R)),(x9,o9 q n),(x10,.st [.vsl rl 1 0 n])]) (kn.al hx13 h9);have hx13:H9 x13=.st [.sl true 2 [],.sl true 4 [],.int .i64 0,.int .i64 0,.sl true 1 []]:=kn.l 4 rfl;simp only[go_sem,Qgf,hx13,l0,l3,l9,l10,l11,l12];intro H10 h10;have kn:Kn H0 H10 E (X.F r2 [(rl,.vec 1 (Qb R)),(x9,o9 q n),(x10,.st [.vsl rl 1 0 n]),(x13,oB y)] (Li++B)):=kn.stL 4 rfl h10;clear l0 l3 l9 l10 l11 l12 hx9 hx13;refine Qd2 (fun e3 H3=>∃R2:List Int,R2.length=n∧byL R2∧Qarv X.cs k b fr R=⟨k,b,y.ins,R2⟩∧Kn H0 H3 E (X.F r2 [(rl,.vec 1 (Qb R2)),(x9,o9 q n),(x10,.st [.vsl rl 1 0 n]),(x13,oB y)] (Li++B))∧
  lk 0 e3=.c (.ptr X.l 0)∧lk 3 e3=.c (.bool main)∧lk 9 e3=.c (.ptr x9 0)∧lk 10 e3=.c (.ptr x10 0)∧lk 11 e3=.c (.int .i64 b)∧lk 13 e3=.c (.ptr x13 0)) ?_ ?_
 ·intro Q' hQn hQr hQe;have hx13:H10 x13=.st [.sl false 2 (Q1 y.phis),.sl false 4 (Qaq y.ins),.int .i64 y.jump,.int .i64 y.on,.sl false 1 (Qb y.next)]:=kn.l 4 rfl;have hx9:H10 x9=.st [.int .i64 q.params,.int .i64 n,.sl false 5 (Qm q.blocks)]:=kn.l 2 rfl
  cases fr with
  |none=>
   have hneg:decide ((0:Int)≤-1)=false:=rfl;refine Qa ?_;simp only[go_sem,Qbez,hneg,hx13];refine Qe (c:=false) rfl (fun hc=>by cases hc) (fun _=>?_);refine Qi ?_;refine hQn _ _ ⟨R,hRl,hbR,?_,kn,rfl,rfl,rfl,rfl,rfl,rfl⟩;rw[Qarv,hq,hyb]
  |some a=>
   obtain⟨ha,ham⟩:=hfo;have hge:decide ((0:Int)≤(a:Int))=true:=decide_eq_true (J7 a);have hhead:Qarv X.cs k b (some a) R=⟨k,b,y.ins,phiR R (wayI q b a) y.phis⟩:=by rw[Qarv,frJ,hq,hyb]
   refine Qa ?_;simp only[go_sem,Qbez,hge,hx13,Q0];try intro _
   refine Qe rfl (fun hc=>?_) (fun hc=>?_)
   rotate_left
   ·have hnil:y.phis=[]:=by
     have:¬(0:Int)<(y.phis.length:Int):=of_decide_eq_false hc;exact List.length_eq_zero_iff.1 (by omega)
    refine Qi ?_;refine hQn _ _ ⟨R,hRl,hbR,?_,kn,rfl,rfl,rfl,rfl,rfl,rfl⟩;rw[hhead,hnil];rfl
   refine Qa ?_;simp only[go_sem,hx9];refine Qarc (rows:=Qm q.blocks) (nx:=gnx q) (Qg0 H10 q false) fun fl2 H11 hu=>?_;have kn:=kn.call0 hu;have hpi:Q1t (gnx q) (b:Int) (Qm q.blocks).length=Q8 (gnx q) (b:Int) q.blocks.length:=by
    rw[Qo,Q1t,decide_eq_true (J7 b),decide_eq_true (show (b:Int)≤(q.blocks.length:Int)-1 by omega)];rfl
   rw[hpi];simp only[go_sem,Qgi];refine Qbd2 (.mk' _ _ _ _) rfl fun ix hix=>?_;obtain⟨rfl,hwl⟩:=Qbtb hok ha ham hix;obtain⟨w,hw'⟩:∃w,wayI q b a=w:=⟨_,rfl⟩;rw[hw']at hwl hhead;rw[hw'];have hpw:∀p∈y.phis,w<p.args.length:=fun p hp=>by rw[hyo.pal p hp];exact hwl
   have hpv:∀p∈y.phis,0≤p.args.getD w 0∧(p.args.getD w 0).toNat<R.length:=fun p hp=>by
    rw[Jb,Jh (hpw p hp)];obtain⟨z1,z2⟩:=hyo.pargs p hp _ (Jj (hpw p hp));refine⟨z1,?_⟩;show (p.args[w]'(hpw p hp)).toNat<R.length;omega
   simp only[go_sem,Qgh];intro x14 hx14 H12 h12;have kn:Kn H0 H12 E (X.F r2 [(rl,.vec 1 (Qb R)),(x9,o9 q n),(x10,.st [.vsl rl 1 0 n]),(x13,oB y),(x14,.st [.int .i64 0])] (Li++B)):=F_al (A:=[(rl,.vec 1 (Qb R)),(x9,o9 q n),(x10,.st [.vsl rl 1 0 n]),(x13,oB y)]) (kn.al hx14 h12);have hx14:H12 x14=.st [.int .i64 0]:=kn.l 5 rfl;simp only[go_sem,Qgg,hx14];intro H13 h13;have kn:Kn H0 H13 E (X.F r2 [(rl,.vec 1 (Qb R)),(x9,o9 q n),(x10,.st [.vsl rl 1 0 n]),(x13,oB y),(x14,.st [.int .i64 w])] (Li++B)):=kn.stL 5 rfl h13;have hx13:H13 x13=.st [.sl false 2 (Q1 y.phis),.sl false 4 (Qaq y.ins),.int .i64 y.jump,.int .i64 y.on,.sl false 1 (Qb y.next)]:=kn.l 4 rfl;have hx10:H13 x10=.st [.vsl rl 1 0 R.length]:=by rw[hRl];exact kn.l 3 rfl
   have hrl:H13 rl=.vec 1 (Qb R):=kn.l 1 rfl;refine Qa ?_;simp only[go_sem,hx13];refine Qbqu (ps:=y.phis) (R:=R) (rl:=rl) (w:=w) hx10 hrl (kn.l 5 rfl) hil.2 hpw hpv fun H14 hu=>?_;have kn:Kn H0 H14 E (X.F r2 [(rl,.vec 1 (Qb R)),(x9,o9 q n),(x10,.st [.vsl rl 1 0 n]),(x13,oB y)] (Li++B)):=Qu4 (A:=[(rl,.vec 1 (Qb R)),(x9,o9 q n),(x10,.st [.vsl rl 1 0 n]),(x13,oB y)]) (A':=[(x14,.st [.int .i64 w])]) (kn.call0 hu);have hx13:H14 x13=.st [.sl false 2 (Q1 y.phis),.sl false 4 (Qaq y.ins),.int .i64 y.jump,.int .i64 y.on,.sl false 1 (Qb y.next)]:=kn.l 4 rfl;simp only[go_sem,Qgj];refine Qa ?_;simp only[go_sem,hx13,Q0];try intro _
   clear hx13 hx10 hrl hx9;refine Qf (Qw (fun mm e1 H1=>∃(i:Nat),mm=y.phis.length-i∧i≤y.phis.length∧byL (phF R w (y.phis.take i) R)∧Kn H0 H1 E (X.F r2 [(rl,.vec 1 (Qb (phF R w (y.phis.take i) R))),(x9,o9 q n),(x10,.st [.vsl rl 1 0 n]),(x13,oB y)] (Li++B))∧
    lk 0 e1=.c (.ptr X.l 0)∧lk 3 e1=.c (.bool main)∧lk 9 e1=.c (.ptr x9 0)∧lk 10 e1=.c (.ptr x10 0)∧lk 11 e1=.c (.int .i64 b)∧lk 13 e1=.c (.ptr x13 0)∧lk 15 e1=.c (.sl false 1 (Qb (y.phis.map (phiV R w))))∧lk 68 e1=.c (.sl false 2 (Q1 y.phis))∧lk 69 e1=.c (.int .i64 y.phis.length)∧lk 70 e1=.c (.int .i64 i)) y.phis.length ?_ ?_)
   ·exact⟨0,by omega,by omega,hbR,kn,rfl,rfl,rfl,rfl,rfl,rfl,rfl,rfl,rfl,rfl⟩
   clear kn;rintro m2 e3 H15 ⟨i,hm2,hi,hbT,kn,l0,l3,l9,l10,l11,l13,l15,l68,l69,l70⟩;have hx10:H15 x10=.st [.vsl rl 1 0 n]:=kn.l 3 rfl;obtain⟨T,hT⟩:∃T,phF R w (y.phis.take i) R=T:=⟨_,rfl⟩;have hTl:T.length=n:=by rw[←hT,Qbqq,hRl]
   rw[hT]at kn hbT;have hrl:H15 rl=.vec 1 (Qb T):=kn.l 1 rfl;refine Qa ?_;simp only[go_sem,l0,l3,l9,l10,l11,l13,l15,l68,l69,l70];refine Qh (Qe rfl (fun hc=>?_) (fun hc=>?_))
   ·have hlt:i<y.phis.length:=(by simpa using hc);obtain⟨p,hp⟩:∃p,y.phis[i]=p:=⟨_,rfl⟩;have hpm:p∈y.phis:=(by rw[←hp];exact Jj hlt);obtain⟨z1,z2⟩:=hyo.pto p hpm;obtain⟨j,hj⟩:∃j:Nat,p.to=j:=⟨p.to.toNat,by omega⟩;have hj2:j<n:=(by omega);have hj3:j<T.length:=(by omega);have hnl:i<(y.phis.map (phiV R w)).length:=(by rw[Jg];exact hlt);have hng:(y.phis.map (phiV R w)).getD i 0=phiV R w p:=(by simp[Jb,hlt,hp]);refine Qi ?_;try simp only[go_sem]
    refine Qh (Qf ?_);refine Qa ?_;simp only[go_sem,l0,l3,l9,l10,l11,l13,l15,l68,l69,l70,hlt,Q0,Qaw _ _ hlt,hp,PhiD.cells];intro x17 hx17 H16 h16;have kn:Kn H0 H16 E (X.F r2 [(rl,.vec 1 (Qb T)),(x9,o9 q n),(x10,.st [.vsl rl 1 0 n]),(x13,oB y),(x17,.st [.int .i64 0,.sl true 1 []])] (Li++B)):=F_al (A:=[(rl,.vec 1 (Qb T)),(x9,o9 q n),(x10,.st [.vsl rl 1 0 n]),(x13,oB y)]) (kn.al hx17 h16);have hx17:H16 x17=.st [.int .i64 0,.sl true 1 []]:=kn.l 5 rfl;simp only[go_sem,Qfr,hx17,l0,l3,l9,l10,l11,l13,l15,l68,l69,l70];intro H17 h17;have kn:Kn H0 H17 E (X.F r2 [(rl,.vec 1 (Qb T)),(x9,o9 q n),(x10,.st [.vsl rl 1 0 n]),(x13,oB y),(x17,.st [.int .i64 p.to,.sl false 1 (Qb p.args)])] (Li++B)):=kn.stL 5 rfl h17;have hx17:H17 x17=.st [.int .i64 p.to,.sl false 1 (Qb p.args)]:=kn.l 5 rfl;have hx10:H17 x10=.st [.vsl rl 1 0 n]:=kn.l 3 rfl;have hrl:H17 rl=.vec 1 (Qb T):=kn.l 1 rfl;refine Qa2 ?_;simp only[go_sem,hx10,hx17,hrl,hj,hj2,hTl,hnl,hng,Qd,Qn _ _ hj3,Qn _ _ hnl,Qex,Jc];intro H18 h18;have kn:Kn H0 H18 E (X.F r2 [(rl,.vec 1 (Qb (T.set j (phiV R w p)))),(x9,o9 q n),(x10,.st [.vsl rl 1 0 n]),(x13,oB y),(x17,.st [.int .i64 p.to,.sl false 1 (Qb p.args)])] (Li++B)):=kn.stL 1 rfl h18;have kn:=Qu4 (A:=[(rl,.vec 1 (Qb (T.set j (phiV R w p)))),(x9,o9 q n),(x10,.st [.vsl rl 1 0 n]),(x13,oB y)]) (A':=[(x17,.st [.int .i64 p.to,.sl false 1 (Qb p.args)])]) kn;have hTs:phF R w (y.phis.take (i+1)) R=T.set j (phiV R w p):=by
     rw[Jl hlt,hp,Qbmb,hT,hj];rfl
    refine Qq ?_;simp only[go_sem];refine⟨Qr (by omega) (by omega),?_⟩;show ∃m,_;refine⟨y.phis.length-(i+1),by omega,i+1,rfl,by omega,?_,?_,rfl,rfl,rfl,rfl,rfl,rfl,rfl,rfl,rfl,rfl⟩
    ·rw[hTs];exact hbT.set (hbR.rg _) j
    ·rw[hTs];exact kn
   ·have hge:y.phis.length≤i:=(by simpa using hc);rw[Jd hge]at hT;refine Qv ?_;simp only[go_sem,Go.AE.X.next];refine hQn _ _ ⟨T,hTl,hbT,?_,kn,rfl,rfl,rfl,rfl,rfl,rfl⟩;rw[hhead,←hT];rfl
 clear kn;rintro e3 H11 ⟨R2,hR2l,hbR2,hhd,kn,l0,l3,l9,l10,l11,l13⟩;have hgo2:Goes X.cs X.S r.u (.go (fr0 X.cs k l::fs) r.s r.c) r2.u (.go (⟨k,b,y.ins,R2⟩::fs) r2.s r2.c):=by rw[eu,es,ec,←hhd];exact hgo
 have hx13:H11 x13=.st [.sl false 2 (Q1 y.phis),.sl false 4 (Qaq y.ins),.int .i64 y.jump,.int .i64 y.on,.sl false 1 (Qb y.next)]:=kn.l 4 rfl;refine Qy ?_;refine Qa ?_;simp only[go_sem,l0,l3,l9,l10,l11,l13,hx13,Qal];try intro _
 clear l0 l3 l9 l10 l11 l13 hx13;refine Qh (Qf (Qw (fun mm e1 H1=>∃(i:Nat) (R3:List Int) (r3:Rs),mm=y.ins.length-i∧i≤y.ins.length∧R3.length=n∧byL R3∧Kn H0 H1 E (X.F r3 [(rl,.vec 1 (Qb R3)),(x9,o9 q n),(x10,.st [.vsl rl 1 0 n]),(x13,oB y)] (Li++B))∧r3.ok X∧r2.u≤r3.u∧r3.t=r2.t∧
  Goes X.cs X.S r.u (.go (fr0 X.cs k l::fs) r.s r.c) r3.u (.go (⟨k,b,y.ins.drop i,R3⟩::fs) r3.s r3.c)∧
  lk 0 e1=.c (.ptr X.l 0)∧lk 3 e1=.c (.bool main)∧lk 9 e1=.c (.ptr x9 0)∧lk 10 e1=.c (.ptr x10 0)∧lk 11 e1=.c (.int .i64 b)∧lk 13 e1=.c (.ptr x13 0)∧lk 85 e1=.c (.sl false 4 (Qaq y.ins))∧lk 86 e1=.c (.int .i64 y.ins.length)∧lk 87 e1=.c (.int .i64 i)) y.ins.length ?_ ?_))
 ·exact⟨0,R2,r2,by omega,by omega,hR2l,hbR2,kn,hr2,Js _,rfl,hgo2,rfl,rfl,rfl,rfl,rfl,rfl,rfl,rfl,rfl⟩
 clear kn;rintro m3 e4 H12 ⟨i,R3,r3,hm3,hi,hR3l,hbR3,kn,hr3,hu3,ht3,hgo3,l0,l3,l9,l10,l11,l13,l85,l86,l87⟩;refine Qa ?_;simp only[go_sem,l0,l3,l9,l10,l11,l13,l85,l86,l87];refine Qh (Qe rfl (fun hc=>?_) (fun hc=>?_))
 ·have hlt:i<y.ins.length:=by simpa using hc
  obtain⟨x,hx⟩:∃x,y.ins[i]=x:=⟨_,rfl⟩;have hxm:x∈y.ins:=by rw[←hx];exact Jj hlt
  have hxw:InsW X.cs k x:=hwi b hk hb x (by rw[hyb];exact hxm);have hdr:y.ins.drop i=x::y.ins.drop (i+1):=by rw[Jy hlt,hx]
  obtain⟨op,to,args,nn⟩:=x;refine Qi ?_;try simp only[go_sem]
  refine Qh (Qf ?_);refine Qa ?_;simp only[go_sem,l0,l3,l9,l10,l11,l13,l85,l86,l87,hlt,Qal,Qb7 _ _ hlt,hx,InsD.cells];intro x19 hx19 H13 h13;have kn:Kn H0 H13 E (X.F r3 [(rl,.vec 1 (Qb R3)),(x9,o9 q n),(x10,.st [.vsl rl 1 0 n]),(x13,oB y),(x19,.st [.int .i64 0,.int .i64 0,.sl true 1 [],.int .i64 0])] (Li++B)):=F_al (A:=[(rl,.vec 1 (Qb R3)),(x9,o9 q n),(x10,.st [.vsl rl 1 0 n]),(x13,oB y)]) (kn.al hx19 h13);have hx19:H13 x19=.st [.int .i64 0,.int .i64 0,.sl true 1 [],.int .i64 0]:=kn.l 5 rfl;simp only[go_sem,Qfs,hx19,l0,l3,l9,l10,l11,l13,l85,l86,l87];intro H14 h14;have kn:Kn H0 H14 E (X.F r3 [(rl,.vec 1 (Qb R3)),(x9,o9 q n),(x10,.st [.vsl rl 1 0 n]),(x13,oB y),(x19,.st [.int .i64 op,.int .i64 to,.sl false 1 (Qb args),.int .i64 nn])] (Li++B)):=kn.stL 5 rfl h14;have hx19:H14 x19=.st [.int .i64 op,.int .i64 to,.sl false 1 (Qb args),.int .i64 nn]:=kn.l 5 rfl;have hx10:H14 x10=.st [.vsl rl 1 0 R3.length]:=by rw[hR3l];exact kn.l 3 rfl
  have kn:=Qbrq (A:=[(rl,.vec 1 (Qb R3))]) (A':=[(x9,o9 q n),(x10,.st [.vsl rl 1 0 n]),(x13,oB y),(x19,.st [.int .i64 op,.int .i64 to,.sl false 1 (Qb args),.int .i64 nn])]) kn;rw[hdr]at hgo3;refine Qq ?_;simp only[go_sem,hx19,hx10];refine Qbo5 (k:=k) (b:=b) (t:=y.ins.drop (i+1)) (fs:=fs) hxw hk (by rw[hq,hn2];exact hR3l) hbR3 kn hr3 (ih _ (by omega)) (fun R4 r4 H15 kn4 hr4 hR4l hbR4 ht4 hu4 hgo4=>?_) (fun e r4 H15 kn4 hr4 ht4 hha=>?_)
  ·have kn4:=Qu4 (A:=[(rl,.vec 1 (Qb R4)),(x9,o9 q n),(x10,.st [.vsl rl 1 0 n]),(x13,oB y)]) (A':=[(x19,.st [.int .i64 op,.int .i64 to,.sl false 1 (Qb args),.int .i64 nn])]) (Qbrp (A:=[(rl,.vec 1 (Qb R4))]) (A':=[(x9,o9 q n),(x10,.st [.vsl rl 1 0 n]),(x13,oB y),(x19,.st [.int .i64 op,.int .i64 to,.sl false 1 (Qb args),.int .i64 nn])]) kn4);simp only[go_sem];refine Qq ?_;simp only[go_sem];refine⟨Qr (by omega) (by omega),?_⟩;show ∃m,_;exact⟨y.ins.length-(i+1),by omega,i+1,R4,r4,rfl,by omega,by omega,hbR4,kn4,hr4,by omega,by rw[ht4,ht3],hgo3.trans hgo4,rfl,rfl,rfl,rfl,rfl,rfl,rfl,rfl,rfl⟩
  ·simp only[go_sem,Go.AE.X.next];exact hP e r4 H15 (Qbd0 (A:=Li) (Qa0j (A':=[(x9,o9 q n),(x10,.st [.vsl rl 1 0 n]),(x13,oB y),(x19,.st [.int .i64 op,.int .i64 to,.sl false 1 (Qb args),.int .i64 nn])]) kn4)) hr4 (fun h=>by rw[ht4,ht3,et h,htf h]) (hgo3.halts hha)
 have hge:y.ins.length≤i:=by simpa using hc
 rw[Jq hge]at hgo3;refine Qv ?_;simp only[go_sem,Go.AE.X.next];refine Qa ?_;simp only[go_sem,l0,l3,l9,l10,l11,l13];refine Qbon kn hr3 (fun H13 hlu kn4 hr4=>?_) (fun hlu=>?_)
 rotate_left
 ·simp only[go_sem,Go.AE.X.next];refine hP 3 r3 _ (Qbd0 (A:=Li) (Qu4 (A:=[]) kn)) hr3 (fun h=>by rw[ht3,et h,htf h]) (hgo3.halts ?_);rw[hlu];exact .fuel
 obtain⟨r4,e4⟩:∃r4,({ r3 with u:=r3.u+1 }:Rs)=r4:=⟨_,rfl⟩;have eu4:r4.u=r3.u+1:=by rw[←e4]
 have es4:r4.s=r3.s:=by rw[←e4]
 have ec4:r4.c=r3.c:=by rw[←e4]
 have et4:r4.t=r3.t:=by rw[←e4]
 rw[e4]at kn4 hr4;clear e4 kn;have hx13:H13 x13=.st [.sl false 2 (Q1 y.phis),.sl false 4 (Qaq y.ins),.int .i64 y.jump,.int .i64 y.on,.sl false 1 (Qb y.next)]:=kn4.l 4 rfl;have hx10:H13 x10=.st [.vsl rl 1 0 n]:=kn4.l 3 rfl;have hrl:H13 rl=.vec 1 (Qb R3):=kn4.l 1 rfl;have htk:List.take n (Qb R3)=Qb R3:=Jd (by rw[Qd];omega);have hlt4:r4.t.length≤r4.u:=by rw[et4,eu4];exact hr3.lt
 have htf4:main=false→r4.t=r.t:=fun h=>by rw[et4,ht3,et h,htf h]
 have one:∀Y,stJ X.cs k b R3 fs r4.s r4.c=Y→Goes X.cs X.S r.u (.go (fr0 X.cs k l::fs) r.s r.c) r4.u Y:=fun Y h=>by
  refine hgo3.trans ?_;rw[eu4,←es4,←ec4];exact .one hlu h
 have hjm:=hyo.jmp;have hyon:=hyo.on;have hynx:=hyo.nx;have hjn':=hjn b hb;rw[hyb]at hjn';refine Qa ?_;simp only[go_sem,l0,l3,l9,l10,l11,l13];refine Qf ?_;refine Qa ?_;simp only[go_sem,hx13];refine Qe rfl (fun hc=>?_) (fun hc=>?_)
 ·have hj:y.jump=3:=of_decide_eq_true hc;obtain⟨z1,z2⟩:=hyon (by omega);obtain⟨j,hjo⟩:∃j:Nat,y.on=j:=⟨y.on.toNat,by omega⟩;have hj2:j<n:=by omega
  have hj3:j<R3.length:=by omega
  refine Qa ?_;simp only[go_sem,hx13,hx10,hrl,htk,hjo,hj2,hR3l,Qd,Qn _ _ hj3,Jc];refine Qk ?_;simp only[go_sem,Go.AE.X.next,Q3,Qab,Qkh,Ja,forall_eq,RS.op];have hgoal:=hK (rg R3 y.on) r4 H13 (Qbd0 (A:=Li) (Qu4 (A:=[]) kn4)) hr4 (hbR3.rg _) hlt4 htf4 (one _ (by rw[Qbjc (by rw[hq,hyb];exact hj),hq,hyb]));rw[hjo]at hgoal;exact hgoal
 have hj3:¬y.jump=3:=of_decide_eq_false hc;obtain⟨v,hvm,hvn,hvi⟩:=hnx b hb (by rw[hyb];exact hj3) R3;rw[hyb]at hvm hvn hvi;obtain⟨w1,w2⟩:=hynx v hvm;obtain⟨b2,hb2⟩:∃b2:Nat,v=b2:=⟨v.toNat,by omega⟩;have hvn2:nxB y R3=b2:=by omega
 have hb2l:b2<q.blocks.length:=by omega
 have hgoJ:=one _ (by
  rw[Qbjd (by rw[hq,hyb];exact hj3),hq,hyb,hvn2])
 have hix:ixB y R3<y.next.length:=(Jz.1 hvi).1;have hgd:y.next.getD (ixB y R3) 0=(b2:Int):=by rw[Jb,hvi,hb2];rfl
 have hfo2:Qbd1 q b2 (some b):=⟨hb,by rw[Qart hb,hyb,←hb2];exact hvm⟩;have hfin:∀e,lk 0 e=.c (.ptr X.l 0)→lk 3 e=.c (.bool main)→lk 9 e=.c (.ptr x9 0)→lk 10 e=.c (.ptr x10 0)→lk 11 e=.c (.int .i64 b2)→lk 12 e=.c (.int .i64 b)→
   ∃m',m'<mm∧∃(b:Nat) (fr:Option Nat) (R:List Int) (r1:Rs),m'=X.S-r1.u∧b<q.blocks.length∧R.length=n∧byL R∧Kn H0 H13 E (X.F r1 [(rl,.vec 1 (Qb R)),(x9,o9 q n),(x10,.st [.vsl rl 1 0 n])] (Li++B))∧r1.ok X∧r.u≤r1.u∧r1.t.length≤r1.u∧(main=false→r1.t=r.t)∧Qbd1 q b fr∧
   Goes X.cs X.S r.u (.go (fr0 X.cs k l::fs) r.s r.c) r1.u (.go (Qarv X.cs k b fr R::fs) r1.s r1.c)∧
   lk 0 e=.c (.ptr X.l 0)∧lk 3 e=.c (.bool main)∧lk 9 e=.c (.ptr x9 0)∧lk 10 e=.c (.ptr x10 0)∧lk 11 e=.c (.int .i64 b)∧lk 12 e=.c (.int .i64 (Qbez fr)):=by
  intro e a0 a3 a9 a10 a11 a12;refine⟨X.S-r4.u,by have:=hr4.uS;omega,b2,some b,R3,r4,rfl,hb2l,hR3l,hbR3,Qu4 (A:=[(rl,.vec 1 (Qb R3)),(x9,o9 q n),(x10,.st [.vsl rl 1 0 n])]) (A':=[(x13,oB y)]) kn4,hr4,by omega,hlt4,htf4,hfo2,hgoJ,a0,a3,a9,a10,a11,a12⟩
 rcases hjm with hj|hj|hj
 ·
  have hd:decide ((1:Int)=2)=false:=rfl;have e0:ixB y R3=0:=by rw[ixB,if_neg (by omega)]
  rw[e0]at hix hgd;refine Qa ?_;by_cases hjr:y.on.toNat<R3.length
  ·simp only[go_sem,hx13,hx10,hrl,htk,hj,hd,Qn _ _ hjr,Jc];refine Qe (c:=false) rfl (fun hc=>by cases hc) (fun _=>?_);refine Qq ?_;simp only[go_sem,hx13,hix,hgd,Qd,Qn _ _ hix];exact⟨by omega,hfin _ rfl rfl rfl rfl rfl rfl⟩
  ·have hno:(Qb R3).getD y.on.toNat []=[]:=by rw[Jb,Jk (by rw[Qd];omega)];rfl
   simp only[go_sem,hx13,hx10,hrl,htk,hj,hd,hno,List.headD_nil,Jc];refine Qe (c:=false) rfl (fun hc=>by cases hc) (fun _=>?_);refine Qq ?_;simp only[go_sem,hx13,hix,hgd,Qd,Qn _ _ hix];exact⟨by omega,hfin _ rfl rfl rfl rfl rfl rfl⟩
 ·
  have hd:decide ((2:Int)=2)=true:=rfl;obtain⟨z1,z2⟩:=hyon (by omega);obtain⟨j,hjo⟩:∃j:Nat,y.on=j:=⟨y.on.toNat,by omega⟩;have hj2:j<n:=by omega
  have hj4:j<R3.length:=by omega
  refine Qa ?_;simp only[go_sem,hx13,hx10,hrl,htk,hj,hd,hjo,hj2,hR3l,Qd,Qn _ _ hj4,Jc];refine Qe rfl (fun hc=>?_) (fun hc=>?_)
  ·have hz:R3.getD j 0=0:=of_decide_eq_true hc;have e0:ixB y R3=1:=by rw[ixB,if_pos ⟨hj,by rw[rg,hjo];exact hz⟩]
   rw[e0]at hix hgd;refine Qq ?_;simp only[go_sem,hx13,hix,hgd,Qd,Qn _ _ hix];exact⟨by omega,hfin _ rfl rfl rfl rfl rfl rfl⟩
  ·have hz:¬R3.getD j 0=0:=of_decide_eq_false hc;have e0:ixB y R3=0:=by rw[ixB,if_neg (by rintro⟨_,h⟩;rw[rg,hjo]at h;exact hz h)]
   rw[e0]at hix hgd;refine Qq ?_;simp only[go_sem,hx13,hix,hgd,Qd,Qn _ _ hix];exact⟨by omega,hfin _ rfl rfl rfl rfl rfl rfl⟩
 ·exact absurd hj hj3
theorem Qa8h (hw:RunW X.cs):∀d m,X.S+1-m≤d→Qbju X m
 |0,m,h=>fun H0 H E B Li r k l inc main fs K hm kn hr=>by
  have:=hr.uS;omega
 |d+1,m,h=>Qbef hw fun m' hm'=>Qa8h hw d m' (by omega)
end Go.AE.Y
namespace Go.AE.Y
open Go.Proofs.Tryz
theorem Qa94 (p:Addr)(w:World) :
  CallsD prog Qo4 #[.pointer (some p)] .returning w fun e u' w'=>e=.returned (.tuple #[])∧u'=.returning∧w'=w:=by
 refine callsD_of_wpS Go.Proofs.Tryz.func208 rfl fun c₀ cs hu=>?_;apply wpS_seq;apply wpS_region;simp[wpOpsS,go_sem,recoverD,hu,Go.Proofs.Tryz.ntmps208,Exit.thenS];apply wpS_seq;apply wpS_region;simp[wpOpsS,go_sem,Exit.thenS];refine wpS_cond (t:=false) (by simp[Act.eval]) ?_;simp only[J6,if_false];refine wpS_of_wp (wp_skip ?_);cases c₀
 simp_all[bodyPostS,results,Go.Proofs.Tryz.results208]
set_option maxRecDepth 4000 in
theorem Q9n (p:Addr)(n:Int)(x:Value)(older:List PanicEntry)(w:World)(hc:w.cell? p=some x)(hz:w.frozen? p=false) :
  CallsD prog Qo4 #[.pointer (some p)] (.panicking ({ v:=.iface 190 (.int .i64 n),recovered:=false }::older)) w fun e u' w'=>
   e=.returned (.tuple #[])∧u'=.panicking ({ v:=.iface 190 (.int .i64 n),recovered:=true }::older)∧w'=w.setCell p (.int .i64 n):=by
 refine callsD_of_wpS Go.Proofs.Tryz.func208 rfl fun c₀ cs hu=>?_;apply wpS_seq;apply wpS_region;simp[wpOpsS,go_sem,recoverD,hu,Go.Proofs.Tryz.ntmps208,Exit.thenS];apply wpS_seq;apply wpS_region;simp[wpOpsS,go_sem,Exit.thenS];refine wpS_cond (t:=true) (by simp[Act.eval]) ?_;simp only[if_true];have hta:∀w:World,(Instr.typeAssert (.iface 190 (.int .i64 n)) 20 190 true).run prog w=.ok (.tuple #[.int .i64 n,.bool true]) w:=fun w=>by kernel_rfl
 apply wpS_seq;apply wpS_region;simp[wpOpsS,go_sem,Exit.thenS,hta];apply wpS_seq;apply wpS_seq;apply wpS_region;simp[wpOpsS,go_sem,Exit.thenS];refine wpS_cond (t:=false) (by simp[Act.eval]) ?_;simp only[J6,if_false];refine wpS_of_wp (wp_skip ?_);simp only[Exit.thenS];apply wpS_region;simp[wpOpsS,go_sem,hc,hz,bodyPostS,results,Go.Proofs.Tryz.results208]
theorem Qa95 {f : Nat} {caps : Array Value} {w : World} {R : Ending → World → Prop} (hf : fnOk prog f = true)
    (h : Calls prog f caps (w.alloc (.cells #[.int .i64 0] 3)) fun e w' => w'.cell? ⟨w.heap.size, 0, none⟩ = some (.int .i64 0) ∧ w'.frozen? ⟨w.heap.size, 0, none⟩ = false ∧
      ((∃ v, e = .returned v ∧ R (.returned (.int .i64 0)) (w'.setCell ⟨w.heap.size, 0, none⟩ (.int .i64 0))) ∨
       (∃ n, e = .panicked [{ v := .iface 190 (.int .i64 n), recovered := false }] ∧ R (.returned (.int .i64 n)) (w'.setCell ⟨w.heap.size, 0, none⟩ (.int .i64 n))))) :
    Calls prog Qo3 #[.func (.func f) #[] caps] w R := by
  have hmf : ∀ fn (first cap : Array Value) (w : World), (Instr.makeFunc fn first cap).run prog w = .ok (.func fn first cap) w := fun _ _ _ _ => rfl
  go_enter_defers Go.Proofs.Tryz.func134, Go.Proofs.Tryz.ntmps134
  go_wp2
  have hcall : ∀ w, (callFunc f caps).run prog w = .ok (.enter f caps) w := fun w => Qo0 hf caps w;simp only [hcall, Array.append_empty, Array.empty_append, Oper.upon_enter];refine h.mono ?_;rintro e w' ⟨hc, hz, hR⟩;rcases hR with ⟨v, rfl, hR⟩ | ⟨n, rfl, hR⟩
  · go_wp2
    refine leaves_cons (f := 208) (args := #[.pointer (some ⟨w.heap.size, 0, none⟩)]) (by simp) (by simp [go_sem]) ?_;refine (Qa94 ⟨w.heap.size, 0, none⟩ _).mono ?_;rintro e u' w'' ⟨rfl, rfl, rfl⟩;simp [Leaves, settle, results, Go.Proofs.Tryz.results134, go_sem];refine ⟨_, ?_, hR⟩;simp [go_sem, hc]
  · show Leaves _ _ _ _ _ _ _;refine leaves_cons (f := 208) (args := #[.pointer (some ⟨w.heap.size, 0, none⟩)]) (by simp) (by simp [go_sem]) ?_;refine (Q9n ⟨w.heap.size, 0, none⟩ n _ [] _ hc hz).mono ?_;rintro e u' w'' ⟨rfl, rfl, rfl⟩;simp [Leaves, settle, results, Go.Proofs.Tryz.results134, go_sem];refine ⟨_, ?_, hR⟩;simp [go_sem, hc]
variable {H:Heap}{K:V→Heap→Prop}
theorem Qa70 {w:World}{b:Nat}{cs:Array Value}{T:TypeId}{v:Value}(h:w.heap[b]? = some (.cells cs T (0,0))):w.setCell ⟨b,0,none⟩ v=World.putCells w b (cs.setIfInBounds 0 v) T:=by
 unfold World.setCell World.putCells;congr 1;refine Array.ext_getElem? fun i=>?_;rw[Array.getElem?_modify,Array.getElem?_setIfInBounds];by_cases hi:b=i
 ·subst hi;rw[if_pos rfl,if_pos rfl,if_pos (Qamk h),h];rfl
 ·rw[if_neg hi,if_neg hi]
theorem Qbj3 {f:Nat}{caps:List C}(hf:fnOk prog f=true)
  (h:∀xe,H xe=.none→∀H1,H1=H.set xe (.st [.int .i64 0])→Qs prog f (caps.map .c) H1 fun x H2=>H2 xe=.st [.int .i64 0]∧((∃n,x=.pn (endV n)∧∀H3,H3=H2.set xe (.st [.int .i64 n])→K (.c (.int .i64 n)) H3)∨
   ((∀v,x≠.pn v)∧∀H3,H3=H2.set xe (.st [.int .i64 0])→K (.c (.int .i64 0)) H3))) :
  Qs prog Qo3 [.c (.fn f caps)] H K:=by
 refine⟨by kernel_rfl,fun g w vs hs hl hv=>?_⟩;obtain⟨v,rfl⟩:∃v,vs=[v]:=by
  match vs,hl with
  |[v],_=>exact⟨v,rfl⟩
 have hr:=hv 0 _ v rfl rfl;obtain⟨cvs,rfl,hcl,hcv⟩:=hr.c_inv.fn_inv;obtain⟨xe,hxe,hHx⟩:=hs.newName;have hle:=Qfn hs hxe 1 0 (.cells #[.int .i64 0] 3);have hst:=Qe6 hs hxe 1 0 (.cells #[.int .i64 0] 3) (.st [.int .i64 0]) (fun g' hg=>by
  subst hg;exact Qmu (cells:=[.int .i64 0]) (fun j c u h1 h2=>by
   cases j with
   |zero=>simp at h1 h2;subst h1;subst h2;exact .int _ _
   |succ j=>simp at h1) rfl hle)
 refine Qa95 hf ?_;have hc:=(h xe hHx _ rfl).2 _ _ cvs hst.sat (by simp[hcl]) (fun j x u h1 h2=>by
  rw[Jr]at h1
  cases hj:caps[j]? with
  |none=>rw[hj]at h1;simp at h1
  |some c=>
   rw[hj]at h1;simp at h1;subst h1;exact .c _ _ ((hcv j c u hj h2).mono hst.le))
 refine hc.mono fun e w2 hh=>?_;have box:∀H2 g2 n,H2 xe=.st [.int .i64 0]→Stp (H.set xe (.st [.int .i64 0])) (g.newObj xe w.heap.size 1 0) (w.alloc (.cells #[.int .i64 0] 3)) H2 g2 w2→
   w2.cell? ⟨w.heap.size,0,none⟩=some (.int .i64 0)∧w2.frozen? ⟨w.heap.size,0,none⟩=false∧Stp H2 g2 w2 (H2.set xe (.st [.int .i64 n])) g2 (w2.setCell ⟨w.heap.size,0,none⟩ (.int .i64 n)):=by
  intro H2 g2 n hx hst2;have hio:g2.io xe=some (w.heap.size,1,0):=hst2.le.io xe _ (by simp[G.newObj]);have hob:=hst2.sat.objs xe;rw[hx]at hob;obtain⟨b',sz',T,cs,q1,q2,q3,q4,q5⟩:=hob;rw[hio]at q1;simp only[J9,Prod.mk.injEq,and_true]at q1;obtain⟨rfl,rfl⟩:=q1;have hc1:cs.size=1:=q4;have hc0:cs[0]? = some cs[0]:=Array.getElem?_eq_getElem (by omega);have hcv:cs[0]=.int .i64 0:=((q5 0 _ _ rfl hc0).toC rfl).int_inv;refine⟨?_,by simp[World.frozen?,q3],?_⟩
  ·rw[Qcr q3,hc0,hcv]
  ·rw[Qa70 q3];refine Qit hst2.sat q2 q3 (by simp) _ (by rw[hx];simp) (fun hle hw'=>?_) (by simp);refine⟨w.heap.size,1,T,_,hio,q2,hw',by simp[hc1],fun j c v e1 e2=>?_⟩
   cases j with
   |zero=>
    simp[hc1]at e1 e2;subst e1;subst e2;exact .plain _ _ _ _ (.int _ _)
   |succ j=>simp at e1
 rcases hh with ⟨v,x,H2,g2,rfl,⟨hx,hk⟩,hst2,hr2⟩|⟨v,H2,g2,rfl,⟨hx,hk⟩,hst2⟩
 ·obtain⟨b1,b2,b3⟩:=box H2 g2 0 hx hst2;refine⟨b1,b2,.inl ⟨v,rfl,.inl ⟨_,.c (.int .i64 0),_,g2,rfl,?_,hst.trans (hst2.trans b3),.c _ _ (.int _ _)⟩⟩⟩;rcases hk with ⟨n,rfl,_⟩|⟨_,hk⟩
  ·cases hr2
  ·exact hk _ rfl
 ·rcases hk with ⟨n,hvn,hk⟩|⟨hno,_⟩
  ·cases hvn;obtain⟨b1,b2,b3⟩:=box H2 g2 n hx hst2;exact⟨b1,b2,.inr ⟨n,rfl,.inl ⟨_,.c (.int .i64 n),_,g2,rfl,hk _ rfl,hst.trans (hst2.trans b3),.c _ _ (.int _ _)⟩⟩⟩
  ·exact absurd rfl (hno v)
end Go.AE.Y
namespace Go.AE.Y
open Go.Proofs.Tryz
variable {H H0:Heap}{K:V→Heap→Prop}{E B Lg:List (Nat×Obj)}
theorem Qa8r {S:Nat→Bool}{a b a' b':V}(h:FrzV H S a a')(k:FrzV H S b b'):FrzV H S (.tup [a,b]) (.tup [a',b']):=by
 refine .tup _ _ rfl fun j x x' h1 h2=>?_
 match j with
 |0=>simp at h1 h2;subst h1;subst h2;exact h
 |1=>simp at h1 h2;subst h1;subst h2;exact k
 |j+2=>simp at h1
end Go.AE.Y
namespace Go.AE.Y
attribute [local go_sem] cond_true cond_false Bool.not_true Bool.not_false
attribute [local instance] Classical.propDecidable
open Go.Proofs.Tryz
variable {H H' H0:Heap}{K:V→Heap→Prop}{E A A' B Li:List (Nat×Obj)}{X:Rn}{r r':Rs}
def oO (e v:Int):Obj:=.st [.sl true 1 [],.int .i64 e,.int .i64 v,.sl true 1 []]
theorem Qbqv (hw:RunW X.cs){l:List Int}{f2:Bool}{x8 x9:Nat}(hl:(l.length:Int)=(Qac X.cs (X.cs.length-1)).params)(hbl:byL l)
  (kn:Kn H0 H E (X.F r [(x8,.st [.ptr X.l 0]),(x9,oO 0 0)] B)) (hr:r.ok X) (hu:r.u=0) (hs:r.s=[]) (hc:r.c=Qa8g) (ht:r.t=[])
  (hK:∀v r' H',Kn H0 H' E (X.F r' [(x8,.st [.ptr X.l 0]),(x9,oO 0 v)] B)→r'.ok X→Goes X.cs X.S 0 (cf0 X.cs l) r'.u (.dn 0 v r'.s r'.c)→K (.tup []) H')
  (hP:∀e r' H',Kn H0 H' E (X.F r' [(x8,.st [.ptr X.l 0]),(x9,oO 0 0)] B)→r'.ok X→Halts X.cs X.S 0 (cf0 X.cs l) e r'.s r'.c→K (.pn (endV e)) H') :
  Qs prog Qf6 [.c (.ptr x8 0),.c (.pp [.sl X.fl 3 (Qj X.cs)]),.c (.pp [.sl f2 1 (Qb l)]),.c (.ptr x9 0)] H K:=by
 have hn:=hw.n;have hn0:=hw.ro.n;refine Qc Qaj Qaah ?_;have hx8:H x8=.st [.ptr X.l 0]:=kn.l 1 rfl;have hi1:((X.cs.length:Int)-1)=((X.cs.length-1:Nat):Int):=by omega
 refine Qq ?_;simp only[go_sem,hx8,Q4];try intro _
 refine⟨Qr (by omega) (by omega),?_⟩;rw[hi1];refine Qa8h hw (X.S+1) 0 (by omega) H0 H E ([(x8,.st [.ptr X.l 0]),(x9,oO 0 0)]++B) [] r (X.cs.length-1) l (.sl f2 1 (Qb l)) true [] _ (Jad _) (F_in kn) hr (by omega) (.inl ⟨rfl,f2,rfl⟩) hl hbl (by rw[ht];simp) (fun v r' H' kn' hr' hv _ _ hgo=>?_) (fun e r' H' kn' hr' _ hha=>?_)
 ·have kn':=Qbd0 kn';have hx9:H' x9=.st [.sl true 1 [],.int .i64 0,.int .i64 0,.sl true 1 []]:=kn'.l 2 rfl;simp only[go_sem,Qi4,hx9];intro H2 h2;simp only[go_sem,Q3,Qab,Qps];refine hK v r' H2 (kn'.stL 2 rfl h2) hr' ?_;rw[hu,hs,hc]at hgo;exact hgo
 ·simp only[go_sem];refine hP e r' H' (Qbd0 kn') hr' ?_;rw[hu,hs,hc]at hha;exact hha
def Rn.pc (X:Rn)(r:Rs):List C:=.sl X.fl 3 (Qj X.cs)::.int .i64 X.S::.int .i64 r.u::.sl false 1 (Qb r.s)::(Qif r.c++[.sl false 1 (Qb r.t)])
theorem Qa8q {S:Nat→Bool}{a b:C}(h:FrzC H S a b):∀l:List Int,FrzL H S (Qif l++[a]) (Qif l++[b])
 |[]=>.cons h .nil
 |v::l=>.cons (Qg rfl) (Qa8q h l)
theorem Qbsm {S:Nat→Bool}(hr:r.ok X)(hm:∀p∈[(X.l,X.o r)]++(r.so++r.tl),H p.1=p.2∧S p.1=true):FrzC H S (.ptr X.l 0) (.pp (X.pc r)):=by
 obtain⟨h1,h2⟩:=hm (X.l,X.o r) (by simp);refine FrzL.ptr h2 h1 ?_;refine .cons (Qg rfl) (.cons (Qg rfl) (.cons (Qg rfl) (.cons ?_ (Qa8q ?_ _))))
 ·exact Gr.frzM hr.gs (fun p hp=>hm p (by simp[hp])) (FrzR.same (Qp _))
 ·exact Gr.frzM hr.gt (fun p hp=>hm p (by simp[hp])) (FrzR.same (Qp _))
theorem Qbkq (l:List Int)(c:C)(n:Nat)(h:l.length=n):((Qif l++[c]).take n).map (fun c=>[c])=Qb l:=by
 subst h;rw[List.take_append_of_le_length (by simp[Qif]),Jd (by simp[Qif])];simp[Qif,Qb]
theorem Qbpp (l:List Int)(c:C)(n:Nat)(h:l.length=n):(Qif l++[c]).length=n+1:=by simp[Qif,h]
set_option maxHeartbeats 8000000 in
theorem Qbhc {cs:List CodeD}{fl f2:Bool}{l:List Int}{S:Nat}(hg:Qbw cs=true)(hl:(l.length:Int)=(Qac cs (cs.length-1)).params)(hbl:byL l)(hS:S≤60000)
  (hK:∀e v s c u H',outR cs l S=(e,v,s,c)→Upd H H' []→K (.tup [.ag [.sl false 1 (Qb s),.int .i64 e,.int .i64 v,.sl false 1 (Qb c)],.c (.pp u)]) H') :
  Qs prog Qlu [.ag [.sl fl 3 (Qj cs)],.c (.sl f2 1 (Qb l)),.c (.int .i64 S)] H K:=by
 have hw:=runW hg;refine Qx ?_;refine Qc Qaj Qasb ?_;refine Qa ?_;simp only[go_sem];intro x6 hx6 H1 h1;have kn:Kn H H1 [] [(x6,oO 0 0)]:=(Kn.start0 H).al hx6 h1;simp only[go_sem,Qqx];refine Qa ?_;simp only[go_sem];intro ml hml H2 h2;obtain⟨X,hX⟩:∃X:Rn,X=⟨ml,fl,cs,S⟩:=⟨_,rfl⟩;obtain⟨r0,hr0⟩:∃r0:Rs,r0=⟨0,[],Qa8g,[],.sl true 1 [],[],.sl true 1 [],[]⟩:=⟨_,rfl⟩;have kn:Kn H H2 [] (X.F r0 [(x6,oO 0 0)] []):=by
  subst hX;subst hr0;have k:Kn H H2 [] ([(x6,oO 0 0)]++[(ml,Rn.o ⟨ml,fl,cs,S⟩ ⟨0,[],Qa8g,[],.sl true 1 [],[],.sl true 1 [],[]⟩)]):=kn.al hml h2;exact k.perm (by simpa[Rn.F]using List.Perm.swap _ _ _)
 have hXl:X.l=ml:=by rw[hX]
 have hXf:X.fl=fl:=by rw[hX]
 have hXc:X.cs=cs:=by rw[hX]
 have hXS:X.S=S:=by rw[hX]
 have hrok:r0.ok X:=by
  subst hr0;exact⟨.nil 1,.nil 1,rfl,fun v hv=>by rw[J0 hv];exact⟨by omega,by omega⟩,fun v hv=>by simp at hv,Js _,by simp,Jad _,by rw[hXS];exact hS⟩
 simp only[go_sem,Qqz];intro x8 hx8 H3 h3;have kn:Kn H H3 [] (X.F r0 [(x6,oO 0 0),(x8,.st [.pnil])] []):=F_al (A:=[(x6,oO 0 0)]) (kn.al hx8 h3);have hx8:H3 x8=.st [.pnil]:=kn.l 2 rfl;simp only[go_sem,Qqy,hx8];intro H4 h4;rw[←hXl]at h4;have kn:Kn H H4 [] (X.F r0 [(x6,oO 0 0),(x8,.st [.ptr X.l 0])] []):=kn.stL 2 rfl h4;refine Qa ?_;simp only[go_sem];intro x9 hx9 H5 h5;have kn:Kn H H5 [] (X.F r0 [(x6,oO 0 0),(x8,.st [.ptr X.l 0]),(x9,oO 0 0)] []):=F_al (A:=[(x6,oO 0 0),(x8,.st [.ptr X.l 0])]) (kn.al hx9 h5);refine Qd2 (fun e2 H2=>∃(e v:Int) (r1:Rs),Kn H H2 [] (X.F r1 [(x6,oO 0 0),(x8,.st [.ptr X.l 0]),(x9,oO e v)] [])∧r1.ok X∧outR cs l S=(e,v,r1.s,r1.c)∧lk 6 e2=.c (.ptr x6 0)∧lk 8 e2=.c (.ptr x8 0)∧lk 9 e2=.c (.ptr x9 0)) ?_ ?_
 ·intro Q' hQn hQr hQe;refine Qq ?_;simp only[go_sem];refine Qbj3 (by kernel_rfl) fun xe hxe H6 h6=>?_;have kn:Kn H H6 [] (X.F r0 [(x6,oO 0 0),(x8,.st [.ptr X.l 0]),(x9,oO 0 0),(xe,.st [.int .i64 0])] []):=F_al (A:=[(x6,oO 0 0),(x8,.st [.ptr X.l 0]),(x9,oO 0 0)]) (kn.al hxe h6);have kn:Kn H H6 [] (X.F r0 [(x8,.st [.ptr X.l 0]),(x9,oO 0 0)] [(x6,oO 0 0),(xe,.st [.int .i64 0])]):=kn.perm (Ql fun f hf h0 hc hp=>by
   show f ([(X.l,X.o r0)]++(([(x6,oO 0 0)]++([(x8,.st [.ptr X.l 0])]++([(x9,oO 0 0)]++[(xe,.st [.int .i64 0])])))++((r0.so++r0.tl)++[])))=f ([(X.l,X.o r0)]++(([(x8,.st [.ptr X.l 0])]++[(x9,oO 0 0)])++((r0.so++r0.tl)++([(x6,oO 0 0)]++[(xe,.st [.int .i64 0])]))));simp only[hf,h0];omega)
  have key:∀(e v:Int) (r1:Rs) (H7 H8:Heap),Kn H H7 [] (X.F r1 [(x8,.st [.ptr X.l 0]),(x9,oO 0 v)] [(x6,oO 0 0),(xe,.st [.int .i64 0])])→H8=H7.set xe (.st [.int .i64 e])→
    H7 xe=.st [.int .i64 0]∧Kn H H8 [] (X.F r1 [(x6,oO 0 0),(x8,.st [.ptr X.l 0]),(x9,oO 0 v)] []):=by
   intro e v r1 H7 H8 k h8;have k:Kn H H7 [] (X.F r1 [(x6,oO 0 0),(x8,.st [.ptr X.l 0]),(x9,oO 0 v),(xe,.st [.int .i64 0])] []):=k.perm (Ql fun f hf h0 hc hp=>by
    show f ([(X.l,X.o r1)]++(([(x8,.st [.ptr X.l 0])]++[(x9,oO 0 v)])++((r1.so++r1.tl)++([(x6,oO 0 0)]++[(xe,.st [.int .i64 0])]))))=f ([(X.l,X.o r1)]++(([(x6,oO 0 0)]++([(x8,.st [.ptr X.l 0])]++([(x9,oO 0 v)]++[(xe,.st [.int .i64 0])])))++((r1.so++r1.tl)++[])));simp only[hf,h0];omega)
   refine⟨k.l 4 rfl,?_⟩;have k2:Kn H H8 [] (X.F r1 [(x6,oO 0 0),(x8,.st [.ptr X.l 0]),(x9,oO 0 v),(xe,.st [.int .i64 e])] []):=k.stL 4 rfl h8;exact Qu4 (A:=[(x6,oO 0 0),(x8,.st [.ptr X.l 0]),(x9,oO 0 v)]) (A':=[(xe,.st [.int .i64 e])]) k2
  have hl':(l.length:Int)=(Qac X.cs (X.cs.length-1)).params:=by rw[hXc];exact hl
  rw[←hXf,←hXc];refine Qbqv (X:=X) (f2:=f2) (by rw[hXc];exact hw) hl' hbl kn hrok (by rw[hr0]) (by rw[hr0]) (by rw[hr0]) (by rw[hr0]) (fun v r1 H7 kn7 hr1 hgo=>?_) (fun e r1 H7 kn7 hr1 hha=>?_)
  ·refine⟨(key 0 v r1 H7 _ kn7 rfl).1,.inr ⟨by simp,fun H8 h8=>?_⟩⟩;have k:=(key 0 v r1 H7 H8 kn7 h8).2;have hx9:H8 x9=.st [.sl true 1 [],.int .i64 0,.int .i64 v,.sl true 1 []]:=k.l 3 rfl;simp only[go_sem,Qh6,hx9];intro H9 h9;have ho:=Qbl8 hgo;rw[hXc,hXS]at ho;exact hQn _ _ ⟨0,v,r1,k.stL 3 rfl h9,hr1,ho,rfl,rfl,rfl⟩
  ·refine⟨(key e 0 r1 H7 _ kn7 rfl).1,.inl ⟨e,rfl,fun H8 h8=>?_⟩⟩;have k:=(key e 0 r1 H7 H8 kn7 h8).2;have hx9:H8 x9=.st [.sl true 1 [],.int .i64 0,.int .i64 0,.sl true 1 []]:=k.l 3 rfl;simp only[go_sem,Qh6,hx9];intro H9 h9;have ho:=Qbgz hha;rw[hXc,hXS]at ho;exact hQn _ _ ⟨e,0,r1,k.stL 3 rfl h9,hr1,ho,rfl,rfl,rfl⟩
 clear kn hx8;rintro e2 H6 ⟨e,v,r1,kn,hr1,ho,l6,l8,l9⟩;have kn:Kn H H6 [] ([(x6,oO 0 0),(x8,.st [.ptr X.l 0]),(x9,oO e v)]++([(X.l,X.o r1)]++(r1.so++r1.tl))):=kn.perm (Ql fun f hf h0 hc hp=>by simp only[Rn.F,hf,h0];omega);obtain⟨Sf,hfL,hfB,hfr,kn2⟩:=kn.freeze0;have hpc:=Qbsm hr1 hfL;have hx8:=hfB (x8,.st [.ptr X.l 0]) (by simp);have hfr2:FrzH H6 Sf ((H6.frz Sf).set x8 (.st [.pp (X.pc r1)])):=hfr.set hx8.2 (by rw[hx8.1];exact (FrzKL.cons rfl hpc .nil).st);have kn:Kn H ((H6.frz Sf).set x8 (.st [.pp (X.pc r1)])) [] [(x6,oO 0 0),(x8,.st [.pp (X.pc r1)]),(x9,oO e v)]:=kn2.setL 1 rfl (by nofun);obtain⟨H7,hH7⟩:∃H7,(H6.frz Sf).set x8 (.st [.pp (X.pc r1)])=H7:=⟨_,rfl⟩;rw[hH7]at hfr2 kn;refine Qy ?_;refine c_gh (e':=[(6,.c (.ptr x6 0)),(8,.c (.ptr x8 0)),(9,.c (.ptr x9 0))]) (H':=H7) (Qdt Sf (Q1k fun p hp=>?_) hfr2) ?_
 ·simp only[Jae,Ju,or_false]at hp;rcases hp with rfl|rfl|rfl
  ·rw[l6];exact .c _ _ (.same _ rfl)
  ·rw[l8];exact .c _ _ (.same _ rfl)
  ·rw[l9];exact .c _ _ (.same _ rfl)
 have hx8:H7 x8=.st [.pp (.sl X.fl 3 (Qj X.cs)::.int .i64 X.S::.int .i64 r1.u::.sl false 1 (Qb r1.s)::(Qif r1.c++[.sl false 1 (Qb r1.t)]))]:=kn.l 1 rfl;have hlen:=Qbpp r1.c (.sl false 1 (Qb r1.t)) 16 hr1.c;have hrow:=Qbkq r1.c (.sl false 1 (Qb r1.t)) 16 hr1.c;have hcl:=hr1.c;refine Qag ?_;simp only[go_sem,hx8,hlen,hrow];refine⟨by simp only[LIM];omega,?_⟩;refine Q9i kn (by simp only[LIM];omega) fun t Lg H8 hgr how kn=>?_;have hx8:H8 x8=.st [.pp (.sl X.fl 3 (Qj X.cs)::.int .i64 X.S::.int .i64 r1.u::.sl false 1 (Qb r1.s)::(Qif r1.c++[.sl false 1 (Qb r1.t)]))]:=kn.l 1 rfl;have hx9:H8 x9=.st [.sl true 1 [],.int .i64 e,.int .i64 v,.sl true 1 []]:=kn.l 2 rfl;simp only[go_sem,Qq1,hx8,hx9,how];intro H9 h9;have kn:Kn H H9 [] ([(x6,oO 0 0),(x8,.st [.pp (X.pc r1)]),(x9,.st [.sl false 1 (Qb r1.s),.int .i64 e,.int .i64 v,.sl true 1 []])]++Lg):=kn.stL 2 rfl h9;have hx9:H9 x9=.st [.sl false 1 (Qb r1.s),.int .i64 e,.int .i64 v,.sl true 1 []]:=kn.l 2 rfl;simp only[go_sem,Qq0,hx9,how];intro H10 h10;have kn:Kn H H10 [] ([(x6,oO 0 0),(x8,.st [.pp (X.pc r1)]),(x9,.st [.sl false 1 (Qb r1.s),.int .i64 e,.int .i64 v,t])]++Lg):=kn.stL 2 rfl h10;have hx6:H10 x6=.st [.sl true 1 [],.int .i64 0,.int .i64 0,.sl true 1 []]:=kn.l 0 rfl;have hx8:H10 x8=.st [.pp (.sl X.fl 3 (Qj X.cs)::.int .i64 X.S::.int .i64 r1.u::.sl false 1 (Qb r1.s)::(Qif r1.c++[.sl false 1 (Qb r1.t)]))]:=kn.l 1 rfl;have hx9:H10 x9=.st [.sl false 1 (Qb r1.s),.int .i64 e,.int .i64 v,t]:=kn.l 2 rfl;refine Qag ?_;simp only[go_sem,hx6,hx8,hx9,how];intro H11 h11;have kn:Kn H H11 [] ([(x6,.st [.sl false 1 (Qb r1.s),.int .i64 e,.int .i64 v,t]),(x8,.st [.pp (X.pc r1)]),(x9,.st [.sl false 1 (Qb r1.s),.int .i64 e,.int .i64 v,t])]++Lg):=kn.stL 0 rfl h11;have hx6:H11 x6=.st [.sl false 1 (Qb r1.s),.int .i64 e,.int .i64 v,t]:=kn.l 0 rfl;have hx8:H11 x8=.st [.pp (.sl X.fl 3 (Qj X.cs)::.int .i64 X.S::.int .i64 r1.u::.sl false 1 (Qb r1.s)::(Qif r1.c++[.sl false 1 (Qb r1.t)]))]:=kn.l 1 rfl;simp only[go_sem,Qq2,hx8,how];refine Qk ?_;simp only[go_sem,Q3,Qab,Q3e,Jo,RS.op,hx6,how];refine⟨_,Qa8r (FrzL.ag (.cons (Qg rfl) (.cons (Qg rfl) (.cons (Qg rfl) (.cons (hgr.frz kn (Qp _)) .nil))))) (.c _ _ (Qg rfl)),?_⟩;exact hK e v r1.s r1.c _ _ ho kn.fin
end Go.AE.Y
namespace Go.AE.Y
attribute [local go_sem] cond_true cond_false Bool.not_true Bool.not_false
open Go.Proofs.Tryz
variable {H H0:Heap}{K:V→Heap→Prop}
theorem Qa0a {f g:Bool}{ns:List Int}(hK:K (.c (.bool true)) H):Qs prog Ql3 [.c (.sl f 1 (Qb ns)),.c (.sl g 1 (Qb ns))] H K:=by
 refine Qc Qaj Qba6 ?_;refine Qa ?_;simp only[go_sem];refine Qy ?_;refine Qa ?_;simp only[go_sem,Qd,decide_true];intro hl;try intro _
 simp only[LIM]at hl;refine Qh (Qe rfl ?_ ?_)
 ·intro h;simp at h
 intro _;refine Qi ?_;try simp only[go_sem]
 refine Qy ?_;refine Qa ?_;simp only[go_sem,Qd];try intro _
 refine Qh (Qf (Qw (fun m e1 H1=>∃(i:Nat),m=ns.length-i∧i≤ns.length∧H1=H∧lk 0 e1=.c (.sl f 1 (Qb ns))∧lk 1 e1=.c (.sl g 1 (Qb ns))∧lk 12 e1=.c (.int .i64 ns.length)∧lk 13 e1=.c (.int .i64 i)) ns.length ?_ ?_))
 ·exact⟨0,by omega,by omega,rfl,rfl,rfl,rfl,rfl⟩
 ·rintro m e1 H1 ⟨i,hm,hi,rfl,l0,l1,l12,l13⟩;refine Qa ?_;simp only[go_sem,l0,l1,l12,l13];refine Qh (Qe rfl ?_ ?_)
  ·intro hc;have hlt:i<ns.length:=by simpa using hc
   refine Qi ?_;try simp only[go_sem]
   refine Qh (Qf ?_);refine Qa ?_;simp only[go_sem,l0,l1,l12,l13];refine Qag ?_;simp only[go_sem,l0,l1,l12,l13,hlt,Qd,Qn _ _ hlt,decide_true];refine Qe rfl ?_ ?_
   ·intro h;simp at h
   intro _;refine Qi ?_;try simp only[go_sem]
   refine Qq ?_;simp only[go_sem,l0,l1,l12,l13];refine⟨Qr (by omega) (by omega),?_⟩;show ∃m,_;exact⟨ns.length-(i+1),by omega,i+1,rfl,by omega,rfl,rfl,rfl,rfl,rfl⟩
  ·intro hc;refine Qv ?_;simp only[go_sem,X.next];refine Qa ?_;simp only[go_sem];refine Qk ?_;simp only[go_sem,Q3,Qab,Qalw,Ja,forall_eq,RS.op];exact hK
theorem Qam3 {f g:Bool}{ns:List Int}(hK:K (.c (.bool true)) H):Qs prog Qo9 [.c (.sl f 1 (Qb ns)),.c (.sl g 1 (Qb ns))] H K:=by
 refine Qc Qaj Qblq ?_;refine Qa ?_;simp only[go_sem];refine Qy ?_;refine Qa ?_;simp only[go_sem,Qd,decide_true];intro hl;try intro _
 simp only[LIM]at hl;refine Qh (Qe rfl ?_ ?_)
 ·intro h;simp at h
 intro _;refine Qi ?_;try simp only[go_sem]
 refine Qy ?_;refine Qa ?_;simp only[go_sem,Qd];try intro _
 refine Qh (Qf (Qw (fun m e1 H1=>∃(i:Nat),m=ns.length-i∧i≤ns.length∧H1=H∧lk 0 e1=.c (.sl f 1 (Qb ns))∧lk 1 e1=.c (.sl g 1 (Qb ns))∧lk 5 e1=.c (.int .i64 i)) ns.length ?_ ?_))
 ·exact⟨0,by omega,by omega,rfl,rfl,rfl,rfl⟩
 ·rintro m e1 H1 ⟨i,hm,hi,rfl,l0,l1,l5⟩;refine Qy ?_;refine Qa ?_;simp only[go_sem,l0,l1,l5,Qd];try intro _
  refine Qh (Qe rfl ?_ ?_)
  ·intro hc;have hlt:i<ns.length:=by simpa using hc
   refine Qi ?_;try simp only[go_sem]
   refine Qh (Qf ?_);refine Qag ?_;simp only[go_sem,l0,l1,l5,hlt,Qd,Qn _ _ hlt,decide_true];refine Qe rfl ?_ ?_
   ·intro h;simp at h
   intro _;refine Qi ?_;try simp only[go_sem]
   refine Qq ?_;simp only[go_sem,l0,l1,l5];refine⟨Qr (by omega) (by omega),?_⟩;show ∃m,_;exact⟨ns.length-(i+1),by omega,i+1,rfl,by omega,rfl,rfl,rfl,rfl⟩
  ·intro hc;refine Qv ?_;simp only[go_sem,X.next];refine Qa ?_;simp only[go_sem];refine Qk ?_;simp only[go_sem,Q3,Qab,Qa84,Ja,forall_eq,RS.op];exact hK
set_option maxHeartbeats 4000000 in
theorem Qam4 {p:BlkD}(hK:∀H',Upd H H' []→K (.c (.bool true)) H'):Qs prog Qji [.ag p.cells,.ag p.cells] H K:=by
 refine Qx ?_;refine Qc Qaj Qani ?_;refine Qa ?_;simp only[go_sem,BlkD.cells];refine Qy ?_;refine Qa ?_;simp only[go_sem,Q0,Qal,decide_true];intro hlp hli;simp only[LIM]at hlp hli;refine Qam3 ?_;simp only[go_sem,Qn3];refine Qh (Qe rfl ?_ ?_)
 ·intro h;simp at h
 intro _;refine Qi ?_;try simp only[go_sem]
 refine Qy ?_;refine Qa ?_;simp only[go_sem];refine Qh (Qf (Qw (fun m e1 H1=>∃(i:Nat),m=p.phis.length-i∧i≤p.phis.length∧H1=H∧lk 2 e1=.c (.pp p.cells)∧lk 3 e1=.c (.pp p.cells)∧lk 5 e1=.c (.int .i64 i)) p.phis.length ?_ ?_))
 ·exact⟨0,by omega,by omega,rfl,rfl,rfl,rfl⟩
 ·rintro m e1 H1 ⟨i,hm,hi,rfl,l2,l3,l5⟩;simp only[BlkD.cells]at l2 l3;refine Qy ?_;refine Qa ?_;simp only[go_sem,l2,l3,l5,Q0];try intro _
  refine Qh (Qe rfl ?_ ?_)
  ·intro hc;have hlt:i<p.phis.length:=by simpa using hc
   obtain⟨x,hx⟩:∃x,p.phis[i]=x:=⟨_,rfl⟩;refine Qi ?_;try simp only[go_sem]
   refine Qh (Qf ?_);refine Qag ?_;simp only[go_sem,l2,l3,l5,hlt,Q0,Qaw _ _ hlt,hx,PhiD.cells,decide_true];refine Qam3 ?_;simp only[go_sem,Qn4];refine Qe rfl ?_ ?_
   ·intro h;simp at h
   intro _;refine Qi ?_;try simp only[go_sem]
   refine Qq ?_;simp only[go_sem,l2,l3,l5];refine⟨Qr (by omega) (by omega),?_⟩;show ∃m,_;exact⟨p.phis.length-(i+1),by omega,i+1,rfl,by omega,rfl,rfl,rfl,rfl⟩
  ·intro hc;refine Qv ?_;simp only[go_sem,X.next];refine Qy ?_;refine Qa ?_;simp only[go_sem,l2,l3];refine Qh (Qf (Qw (fun m e1 H2=>∃(i:Nat),m=p.ins.length-i∧i≤p.ins.length∧Kn H1 H2 [] []∧lk 2 e1=.c (.pp p.cells)∧lk 3 e1=.c (.pp p.cells)∧lk 6 e1=.c (.int .i64 i)) p.ins.length ?_ ?_))
   ·exact⟨0,by omega,by omega,.start0 H1,rfl,rfl,rfl⟩
   ·clear l2 l3 l5;rintro m e1 H2 ⟨i,hm,hi,kn,l2,l3,l6⟩;simp only[BlkD.cells]at l2 l3;refine Qy ?_;refine Qa ?_;simp only[go_sem,l2,l3,l6,Qal];try intro _
    refine Qh (Qe rfl ?_ ?_)
    ·intro hc;have hlt:i<p.ins.length:=(by simpa using hc);obtain⟨x,hx⟩:∃x,p.ins[i]=x:=⟨_,rfl⟩;refine Qi ?_;try simp only[go_sem]
     refine Qh (Qf ?_);refine Qa ?_;simp only[go_sem,l2,l3,l6,hlt,Qal,Qb7 _ _ hlt,hx,InsD.cells];intro x7 hx7 H3 h3;have kn:=kn.al hx7 h3;have hx7:=kn.l 0 rfl;simp only[go_sem,Qn5,hx7];intro H4 h4;have kn:Kn H1 H4 [] [(x7,.st x.cells)]:=kn.stL 0 rfl h4;refine Qa ?_;simp only[go_sem,l2,l3,l6,hlt,Qal,Qb7 _ _ hlt,hx,InsD.cells];intro x8 hx8 H5 h5;have kn:=kn.al hx8 h5;have hx8:=kn.l 1 rfl;simp only[go_sem,Qn6,hx8];intro H6 h6;have kn:Kn H1 H6 [] [(x7,.st x.cells),(x8,.st x.cells)]:=kn.stL 1 rfl h6;have hx7:H6 x7=.st x.cells:=kn.l 0 rfl;have hx8:H6 x8=.st x.cells:=kn.l 1 rfl;refine Qa ?_;simp only[go_sem,hx7,hx8,InsD.cells,decide_true];refine Qam3 ?_;simp only[go_sem,Qn7];refine Qe rfl ?_ ?_
     ·intro h;simp at h
     intro _;refine Qi ?_;try simp only[go_sem]
     refine Qq ?_;simp only[go_sem,l2,l3,l6];refine⟨Qr (by omega) (by omega),?_⟩;show ∃m,_;exact⟨p.ins.length-(i+1),by omega,i+1,rfl,by omega,Kn.drop (A:=[]) (B:=[(x7,_),(x8,_)]) kn,rfl,rfl,rfl⟩
    ·intro hc;refine Qv ?_;simp only[go_sem,X.next];refine Qa ?_;simp only[go_sem];refine Qk ?_;simp only[go_sem,Q3,Qab,Qyx,Ja,forall_eq,RS.op];exact⟨_,.c _ _ (Qg rfl),hK _ kn.fin⟩
set_option maxHeartbeats 1000000 in
theorem Qar4 {p:CodeD}(hK:∀H',Upd H H' []→K (.c (.bool true)) H'):Qs prog Ql0 [.ag p.cells,.ag p.cells] H K:=by
 refine Qx ?_;refine Qc Qaj Qasl ?_;refine Qa ?_;simp only[go_sem,CodeD.cells];refine Qy ?_;refine Qa ?_;simp only[go_sem,Qo,decide_true];intro hl;try intro _
 simp only[LIM]at hl;refine Qh (Qe rfl ?_ ?_)
 ·intro h;simp at h
 intro _;refine Qi ?_;try simp only[go_sem]
 refine Qy ?_;refine Qa ?_;simp only[go_sem];refine Qh (Qf (Qw (fun m e1 H1=>∃(i:Nat),m=p.blocks.length-i∧i≤p.blocks.length∧Kn H H1 [] []∧lk 2 e1=.c (.pp [.int .i64 p.params,.int .i64 p.regs,.sl false 5 (Qm p.blocks)])∧lk 3 e1=.c (.pp [.int .i64 p.params,.int .i64 p.regs,.sl false 5 (Qm p.blocks)])∧lk 5 e1=.c (.int .i64 i)) p.blocks.length ?_ ?_))
 ·exact⟨0,by omega,by omega,.start0 H,rfl,rfl,rfl⟩
 ·rintro m e1 H1 ⟨i,hm,hi,kn,l2,l3,l5⟩;refine Qy ?_;refine Qa ?_;simp only[go_sem,l2,l3,l5,Qo];try intro _
  refine Qh (Qe rfl ?_ ?_)
  ·intro hc;have hlt:i<p.blocks.length:=by simpa using hc
   obtain⟨x,hx⟩:∃x,p.blocks[i]=x:=⟨_,rfl⟩;refine Qi ?_;try simp only[go_sem]
   refine Qh (Qf ?_);refine Qag ?_;simp only[go_sem,l2,l3,l5,hlt,Qo,Qaa _ _ hlt,hx,BlkD.cells];refine Qam4 (p:=x) fun H2 hu=>?_;have kn:=kn.call0 hu;simp only[go_sem,Qsx];refine Qe rfl ?_ ?_
   ·intro h;simp at h
   intro _;refine Qi ?_;try simp only[go_sem]
   refine Qq ?_;simp only[go_sem,l2,l3,l5];refine⟨Qr (by omega) (by omega),?_⟩;show ∃m,_;exact⟨p.blocks.length-(i+1),by omega,i+1,rfl,by omega,kn,rfl,rfl,rfl⟩
  ·intro hc;refine Qv ?_;simp only[go_sem,X.next];refine Qa ?_;simp only[go_sem];refine Qk ?_;simp only[go_sem,Q3,Qab,Q3j,Ja,forall_eq,RS.op];exact⟨_,.c _ _ (Qg rfl),hK _ kn.fin⟩
set_option maxHeartbeats 1000000 in
theorem Qmv {f g:Bool}{cs:List CodeD}(hK:∀H',Upd H H' []→K (.c (.bool true)) H'):Qs prog Qd6 [.ag [.sl f 3 (Qj cs)],.ag [.sl g 3 (Qj cs)]] H K:=by
 refine Qx ?_;refine Qc Qaj Qahl ?_;refine Qa ?_;simp only[go_sem];refine Qy ?_;refine Qa ?_;simp only[go_sem,Q4,decide_true];intro hl;try intro _
 simp only[LIM]at hl;refine Qh (Qe rfl ?_ ?_)
 ·intro h;simp at h
 intro _;refine Qi ?_;try simp only[go_sem]
 refine Qy ?_;refine Qa ?_;simp only[go_sem];refine Qh (Qf (Qw (fun m e1 H1=>∃(i:Nat),m=cs.length-i∧i≤cs.length∧Kn H H1 [] []∧lk 2 e1=.c (.pp [.sl f 3 (Qj cs)])∧lk 3 e1=.c (.pp [.sl g 3 (Qj cs)])∧lk 5 e1=.c (.int .i64 i)) cs.length ?_ ?_))
 ·exact⟨0,by omega,by omega,.start0 H,rfl,rfl,rfl⟩
 ·rintro m e1 H1 ⟨i,hm,hi,kn,l2,l3,l5⟩;refine Qy ?_;refine Qa ?_;simp only[go_sem,l2,l3,l5,Q4];try intro _
  refine Qh (Qe rfl ?_ ?_)
  ·intro hc;have hlt:i<cs.length:=by simpa using hc
   obtain⟨x,hx⟩:∃x,cs[i]=x:=⟨_,rfl⟩;refine Qi ?_;try simp only[go_sem]
   refine Qh (Qf ?_);refine Qag ?_;simp only[go_sem,l2,l3,l5,hlt,Q4,Qam _ _ hlt,hx,CodeD.cells];refine Qar4 (p:=x) fun H2 hu=>?_;have kn:=kn.call0 hu;simp only[go_sem,Qlf];refine Qe rfl ?_ ?_
   ·intro h;simp at h
   intro _;refine Qi ?_;try simp only[go_sem]
   refine Qq ?_;simp only[go_sem,l2,l3,l5];refine⟨Qr (by omega) (by omega),?_⟩;show ∃m,_;exact⟨cs.length-(i+1),by omega,i+1,rfl,by omega,kn,rfl,rfl,rfl⟩
  ·intro hc;refine Qv ?_;simp only[go_sem,X.next];refine Qa ?_;simp only[go_sem];refine Qk ?_;simp only[go_sem,Q3,Qab,Qvg,Ja,forall_eq,RS.op];exact⟨_,.c _ _ (Qg rfl),hK _ kn.fin⟩
end Go.AE.Y
namespace Go.AE.Y
attribute [local go_sem] cond_true cond_false Bool.not_true Bool.not_false
attribute [local instance] Classical.propDecidable
open Go.Proofs.Tryz
variable {H H' H0:Heap}{K:V→Heap→Prop}{E A A' B Li:List (Nat×Obj)}{cs ds:List CodeD}{fl f2:Bool}{l:List Int}
def Qjm (cs:List CodeD):Int:=(Qac cs (cs.length-1)).params
theorem Q29 (h0:0<cs.length)(hK:K (.c (.int .i64 (Qjm cs))) H):Qs prog Qde [.ag [.sl fl 3 (Qj cs)]] H K:=by
 refine Qc Qaj Qaag ?_;have hi1:((cs.length:Int)-1)=((cs.length-1:Nat):Int):=by omega
 have hlt:cs.length-1<cs.length:=by omega
 rw[Qjm,Qbj hlt]at hK;refine Qa ?_;simp only[go_sem];refine Qa ?_;simp only[go_sem,Q4,hi1,hlt,Qam _ _ hlt,CodeD.cells];intro hl;simp only[LIM]at hl;refine⟨Qr (by omega) (by omega),?_⟩;refine Qk ?_;simp only[go_sem,Q3,Qab,Qpq,Ja,forall_eq,RS.op];exact hK
theorem Qa93 {v:Int}(hK:K (.c (.bool (!(decide (0≤v)&&decide (v≤255))))) H):Qs prog Qf5 [.c (.int .i64 v)] H K:=by
 refine Qc Qaj Qaae ?_;refine Qa ?_;simp only[go_sem];refine Qa ?_;simp only[go_sem];refine Qa8u ?_;simp only[go_sem,Qi2];refine Qk ?_;simp only[go_sem,Q3,Qab,Qpo,Ja,forall_eq,RS.op];exact hK
theorem Qbed {n:Int}(hn:(l.length:Int)=n)(hb:byL l)(hK:K (.c (.bool true)) H):Qs prog Qlq [.c (.sl f2 1 (Qb l)),.c (.int .i64 n)] H K:=by
 have hd:decide ((l.length:Int)=n)=true:=decide_eq_true hn;refine Qc Qaj Qar8 ?_;refine Qa ?_;simp only[go_sem];refine Qa ?_;simp only[go_sem,Qd,hd];try intro _
 refine Qe9 (p:=fun v=>!(decide (0≤v)&&decide (v≤255))) (.mk' _ _ _ _) rfl (fun x K' _ hk=>Qa93 hk) ?_;have hany:(l.any fun v=>!(decide (0≤v)&&decide (v≤255)))=false:=by
  rw[List.any_eq_false];intro v hv;obtain⟨a,b⟩:=hb v hv;simp[a,b]
 rw[hany];simp only[go_sem,Qp6];refine Qk ?_;simp only[go_sem,Q3,Qab,Q3d,Ja,forall_eq,RS.op];exact hK
theorem Qbdy {S:Nat}(hfit:∀c∈cs,c.fits)(hg:Qbw cs=true)(hl:(l.length:Int)=Qjm cs)(hbl:byL l)(hS:S≤60000)(hK:∀H',Upd H H' []→K (.c (.bool true)) H') :
  Qs prog Qjf [.ag [.sl fl 3 (Qj cs)],.c (.sl f2 1 (Qb l)),.c (.int .i64 S)] H K:=by
 have h0:=(runW hg).ro.n;refine Qc Qaj Qand ?_;refine Qa ?_;simp only[go_sem];refine Qa ?_;simp only[go_sem];refine Qg1 hfit fun H1 hu=>?_;rw[hg];simp only[go_sem,Qnf];refine Q29 h0 ?_;simp only[go_sem,Qne];refine Qbed hl hbl ?_;simp only[go_sem,Qnd];refine Qdh ?_;have hw:(decide ((0:Int)≤(S:Int))&&decide ((S:Int)≤60000))=true:=by simp;omega
 rw[hw];simp only[go_sem,Qnc];refine Qk ?_;simp only[go_sem,Q3,Qab,Qyq,Ja,forall_eq,RS.op];exact hK _ hu
def Qmy (o:Int×Int×List Int×List Int):List C:=[.sl false 1 (Qb o.2.2.1),.int .i64 o.1,.int .i64 o.2.1,.sl false 1 (Qb o.2.2.2)]
theorem Qard {S:Nat}(hfit:∀c∈cs,c.fits)(hg:Qbw cs=true)(hl:(l.length:Int)=Qjm cs)(hbl:byL l)(hS:S≤60000)(hK:∀H',Upd H H' []→K (.tup [.ag (Qmy (outR cs l S)),.c (.bool true)]) H') :
  Qs prog Qgx [.ag [.sl fl 3 (Qj cs)],.c (.sl f2 1 (Qb l)),.c (.int .i64 S)] H K:=by
 refine Qx ?_;refine Qc Qaj Qar7 ?_;refine Qa ?_;simp only[go_sem];intro x6 hx6 H1 h1;have kn:Kn H H1 [] [(x6,oO 0 0)]:=(Kn.start0 H).al hx6 h1;simp only[go_sem,Qp0];refine Qy ?_;refine Qa ?_;simp only[go_sem];refine Qbdy hfit hg hl hbl hS fun H2 hu=>?_;have kn:=kn.call0 hu;simp only[go_sem,Qp1];refine Qh (Qe (c:=false) rfl (fun h=>by cases h) fun _=>?_);refine Qi ?_;try simp only[go_sem]
 refine Qa ?_;simp only[go_sem];refine Qbhc hg hl hbl hS fun e v s c u H3 ho hu=>?_;have kn:=kn.call0 hu;simp only[go_sem,Qp4,Jf,Je];intro x8 hx8 H4 h4;have kn:Kn H H4 [] [(x6,oO 0 0),(x8,oO 0 0)]:=kn.al hx8 h4;have hx8:H4 x8=.st [.sl true 1 [],.int .i64 0,.int .i64 0,.sl true 1 []]:=kn.l 1 rfl;simp only[go_sem,Qp3,hx8];intro H5 h5;have kn:Kn H H5 [] [(x6,oO 0 0),(x8,.st [.sl false 1 (Qb s),.int .i64 e,.int .i64 v,.sl false 1 (Qb c)])]:=kn.stL 1 rfl h5;have hx8:H5 x8=.st [.sl false 1 (Qb s),.int .i64 e,.int .i64 v,.sl false 1 (Qb c)]:=kn.l 1 rfl;have hx6:H5 x6=.st [.sl true 1 [],.int .i64 0,.int .i64 0,.sl true 1 []]:=kn.l 0 rfl;simp only[go_sem,Qp2];refine Qa ?_;simp only[go_sem,hx8,hx6];intro H6 h6;have kn:Kn H H6 [] [(x6,.st [.sl false 1 (Qb s),.int .i64 e,.int .i64 v,.sl false 1 (Qb c)]),(x8,.st [.sl false 1 (Qb s),.int .i64 e,.int .i64 v,.sl false 1 (Qb c)])]:=kn.stL 0 rfl h6;have hx6:H6 x6=.st [.sl false 1 (Qb s),.int .i64 e,.int .i64 v,.sl false 1 (Qb c)]:=kn.l 0 rfl;simp only[go_sem,Qp5];refine Qk ?_;simp only[go_sem,Q3,Qab,Q3c,Jo,RS.op,hx6];refine⟨_,Qa8r (FrzL.ag (FrzL.same rfl)) (.c _ _ (Qg rfl)),?_⟩;have:=hK _ kn.fin;rw[ho]at this;exact this
theorem Qamg {o:Int×Int×List Int×List Int}(hK:K (.c (.bool true)) H):Qs prog Qet [.ag (Qmy o),.ag (Qmy o)] H K:=by
 refine Qc Qaj Q6m ?_;refine Qa ?_;simp only[go_sem,Qmy];refine Qa ?_;simp only[go_sem];refine Qa0a ?_;simp only[go_sem,Qhz,decide_true];refine Qa0a ?_;simp only[go_sem,Qhy];refine Qk ?_;simp only[go_sem,Q3,Qab,Qmz,Ja,forall_eq,RS.op];exact hK
set_option maxHeartbeats 2000000 in
theorem Qa9y {S:Nat}(hf1:∀c∈cs,c.fits)(hf2:∀c∈ds,c.fits)(hg1:Qbw cs=true)(hg2:Qbw ds=true)(hl1:(l.length:Int)=Qjm cs)(hl2:(l.length:Int)=Qjm ds)(hbl:byL l)(hS:S≤60000)(hs:Qa0l cs ds l S)
  (hK:∀H',Upd H H' []→K (.c (.bool true)) H'):Qs prog Qjd [.ag [.sl fl 3 (Qj cs)],.ag [.sl fl 3 (Qj ds)],.c (.sl f2 1 (Qb l)),.c (.int .i64 S)] H K:=by
 refine Qx ?_;refine Qc Qaj Qam8 ?_;refine Qa ?_;simp only[go_sem];refine Qa ?_;simp only[go_sem];refine Qard hf1 hg1 hl1 hbl hS fun H1 hu=>?_;have kn:=(Kn.start0 H).call0 hu;obtain⟨o,ho⟩:∃o,outR cs l S=o:=⟨_,rfl⟩;rw[ho];simp only[go_sem,Qm5,Jf,Je];intro x9 hx9 H2 h2;have kn:Kn H H2 [] [(x9,oO 0 0)]:=kn.al hx9 h2;have hx9:H2 x9=.st [.sl true 1 [],.int .i64 0,.int .i64 0,.sl true 1 []]:=kn.l 0 rfl;simp only[go_sem,Qm4,hx9,Qmy];intro H3 h3;have kn:Kn H H3 [] [(x9,.st (Qmy o))]:=kn.stL 0 rfl h3;simp only[go_sem,Qm3];refine Qa ?_;simp only[go_sem];refine Qard (S:=60000) hf2 hg2 hl2 hbl (by omega) fun H4 hu=>?_;have kn:=kn.call0 hu;obtain⟨p,hp⟩:∃p,outR ds l 60000=p:=⟨_,rfl⟩;rw[hp];simp only[go_sem,Qm8,Jf,Je];intro x11 hx11 H5 h5;have kn:Kn H H5 [] [(x9,.st (Qmy o)),(x11,oO 0 0)]:=kn.al hx11 h5;have hx11:H5 x11=.st [.sl true 1 [],.int .i64 0,.int .i64 0,.sl true 1 []]:=kn.l 1 rfl;simp only[go_sem,Qm7,hx11,Qmy];intro H6 h6;have kn:Kn H H6 [] [(x9,.st (Qmy o)),(x11,.st (Qmy p))]:=kn.stL 1 rfl h6;have hx9:H6 x9=.st [.sl false 1 (Qb o.2.2.1),.int .i64 o.1,.int .i64 o.2.1,.sl false 1 (Qb o.2.2.2)]:=kn.l 0 rfl;have hx11:H6 x11=.st [.sl false 1 (Qb p.2.2.1),.int .i64 p.1,.int .i64 p.2.1,.sl false 1 (Qb p.2.2.2)]:=kn.l 1 rfl;simp only[go_sem,Qm6];refine Qa ?_;have hfin:∀H',Kn H H' [] [(x9,.st (Qmy o)),(x11,.st (Qmy p))]→unK H K (.c (.bool true)) H':=fun H' k=>⟨_,.c _ _ (Qg rfl),hK _ k.fin⟩;rw[Qa0l,ho,hp]at hs;rcases hs with hs|hs
 ·have hd:decide (o.1=3)=true:=decide_eq_true hs;simp only[go_sem,hx9,hx11,hd,Qdf];refine Qk ?_;simp only[go_sem,Q3,Qab,Qg2,Ja,forall_eq,RS.op];exact hfin _ kn
 ·subst hs;by_cases h3:o.1=3
  ·have hd:decide (o.1=3)=true:=decide_eq_true h3;simp only[go_sem,hx9,hx11,hd,Qdf];refine Qk ?_;simp only[go_sem,Q3,Qab,Qg2,Ja,forall_eq,RS.op];exact hfin _ kn
  ·have hd:decide (o.1=3)=false:=decide_eq_false h3;simp only[go_sem,hx9,hx11,hd];refine Qamg (o:=o) ?_;simp only[go_sem,Qdf];refine Qk ?_;simp only[go_sem,Q3,Qab,Qg2,Ja,forall_eq,RS.op];exact hfin _ kn
def tryC:List C:=Qif [0,0,0,1,2,3,255,16,7]
def tryL (j:Nat):List Int:=([[0,0,0],[1,2,3],[255,16,7]]:List (List Int)).getD j []
def triL (n:Nat):List (List C):=(List.range 3).map fun j=>[.sl false 1 (Qb ((tryL j).take n))]
theorem Qbjr {j:Nat}(h:j<3):(tryL j).length=3:=by
 have:j=0∨j=1∨j=2:=by omega
 rcases this with rfl|rfl|rfl <;> rfl
theorem Qbs8 {j:Nat}(h:j<3):byL (tryL j):=by
 have:j=0∨j=1∨j=2:=by omega
 intro v hv;rcases this with rfl|rfl|rfl <;> (simp[tryL]at hv;rcases hv with rfl|rfl|rfl <;> exact⟨by omega,by omega⟩)
theorem Qbn2 {j:Nat}(h:j<3):(tryC.drop (j * 3)).take 3=Qif (tryL j):=by
 have:j=0∨j=1∨j=2:=by omega
 rcases this with rfl|rfl|rfl <;> rfl
theorem Qbkr (l:List Int)(n:Nat):((Qif l).take n).map (fun c=>[c])=Qb (l.take n):=by simp only[Qif,Qb,List.map_take,List.map_map];rfl
theorem Qarx (l:List Int):noOw (Qif l)=true:=by simp[noOw,Qif,C.isOw]
theorem Qbjl {S:Nat→Bool}{n:Nat}:∀(rs:List (C×List (Nat×Obj))) (k:Nat),(∀j (h:j<rs.length),Gr rs[j].2 1 (Qb ((tryL (k+j)).take n)) rs[j].1)→(∀p∈rs.flatMap Prod.snd,H p.1=p.2∧S p.1=true)→
  FrzR H S (rs.map fun p=>[p.1]) ((List.range' k rs.length).map fun j=>[.sl false 1 (Qb ((tryL j).take n))])
 |[],k,_,_=>.nil
 |p::rs,k,h,hm=>by
  refine .cons (.cons (Gr.frzM (h 0 (by simp)) (fun q hq=>hm q (by rw[J8];exact Jv _ hq)) (FrzR.same (Qp _))) .nil) ?_;exact Qbjl rs (k+1) (fun j hj=>by
   have:=h (j+1) (by simpa using hj);rw[show k+(j+1)=k+1+j by omega]at this;exact this) fun q hq=>hm q (by
    rw[J8];exact List.mem_append_right _ hq)
set_option maxHeartbeats 4000000 in
theorem Qbjn {n:Nat}(hgl:H 0=.gl 0 tryC)(hn:n≤3)(hK:∀H',Upd H H' []→K (.c (.sl false 1 (triL n))) H'):Qs prog Qlv [.c (.int .i64 n)] H K:=by
 refine Qx ?_;refine Qc Qaj Qasc ?_;have hne:H 0≠.none:=by rw[hgl];nofun
 have htl:tryC.length=9:=rfl;have htt:tryC.take 9=tryC:=rfl;refine Qa ?_;simp only[go_sem];refine Qa ?_;simp only[go_sem];refine Qy ?_;refine Qa ?_;simp only[go_sem,hgl,htl,htt];refine Qh (Qf (Qw (fun m e1 H1=>∃(i:Nat) (t:C) (Lg:List (Nat×Obj)) (rs:List (C×List (Nat×Obj))),m=3-i∧i≤3∧rs.length=i∧(∀p∈rs,p.1.isOw=false)∧Gr Lg 1 (rs.map fun p=>[p.1]) t∧(∀j (h:j<rs.length),Gr rs[j].2 1 (Qb ((tryL j).take n)) rs[j].1)∧Kn H H1 [] (rs.flatMap Prod.snd++Lg)∧
  lk 0 e1=.c (.int .i64 n)∧lk 3 e1=.c t∧lk 6 e1=.ag tryC∧lk 7 e1=.c (.int .i64 i)) 3 ?_ ?_))
 ·exact⟨0,_,[],[],rfl,by omega,rfl,by simp,.nil 1,by simp,.start0 H,rfl,rfl,rfl,rfl⟩
 ·rintro m e1 H1 ⟨i,t,Lg,rs,hm,hi,hrl,how,hgr,hrs,kn,l0,l3,l6,l7⟩;have htw:=hgr.isOw;refine Qa ?_;simp only[go_sem,l0,l3,l6,l7,htw];refine Qh (Qe rfl ?_ ?_)
  ·intro hc;have hlt:i<3:=by have:(i:Int)<3:=of_decide_eq_true hc;omega
   have hpart:=Qbn2 hlt;have htryl:=Qbjr hlt;have hpl:(Qif (tryL i)).length=3:=by rw[Qif,Jg,htryl]
   refine Qi ?_;try simp only[go_sem]
   refine Qh (Qf ?_);refine Qa ?_;simp only[go_sem,l0,l3,l6,l7,htw,htl,hpart,hpl];refine⟨by omega,?_⟩;intro x5 hx5 H2 h2;have kn:=kn.al hx5 h2;have hx5:H2 x5=.st [.int .i64 0,.int .i64 0,.int .i64 0]:=(kn.get (x5,.st [.int .i64 0,.int .i64 0,.int .i64 0]) (by simp)).1;simp only[go_sem,Qrp,hx5,hpl,htw];intro H3 h3;have kn:Kn H H2 [] ([(x5,.st [.int .i64 0,.int .i64 0,.int .i64 0])]++(rs.flatMap Prod.snd++Lg)):=kn.perm Jn;have kn:Kn H H3 [] ([(x5,.st (Qif (tryL i)))]++(rs.flatMap Prod.snd++Lg)):=kn.stL 0 rfl (by rw[h3];simp[htryl]);have kn:Kn H H3 [] ((rs.flatMap Prod.snd++Lg)++[(x5,.st (Qif (tryL i)))]):=kn.perm Jn;obtain⟨Sf,hfL,hfB,hfr,kn2⟩:=kn.freeze0;obtain⟨hf1,hf2⟩:=hfL (x5,.st (Qif (tryL i))) (by simp);obtain⟨H4,hH4⟩:∃H4,H3.frz Sf=H4:=⟨_,rfl⟩;refine c_gh (e':=[(0,.c (.int .i64 n)),(3,.c t),(5,.c (.pp (Qif (tryL i)))),(6,.ag tryC),(7,.c (.int .i64 i))]) (H':=H4) (by
    rw[←hH4];refine Qbe2 Sf (Q1k fun p hp=>?_);simp only[Jae,Ju,or_false]at hp;rcases hp with rfl|rfl|rfl|rfl|rfl
    ·exact .c _ _ (.same _ rfl)
    ·exact .c _ _ (.same _ htw)
    ·exact .c _ _ (FrzL.ptr hf2 hf1 (FrzL.same (Qarx _)))
    ·exact (FrzL.same (Qarx _)).ag
    ·exact .c _ _ (.same _ rfl)) ?_
   rw[hH4]at kn2;refine Qq ?_;have hrows:=Qbkr (tryL i) n;simp only[go_sem,htw,hpl,hrows];refine⟨⟨⟨by omega,by omega⟩,by simp only[LIM];omega⟩,?_⟩;have hbd:((tryL i).take n).length≤LIM:=by rw[Jt,htryl];simp only[LIM];omega
   refine Q9i kn2 hbd fun t2 Lg2 H5 hg2 ht2 kn=>?_;simp only[go_sem,Qrr,htw,ht2];have kn:Kn H H5 [] ((rs.flatMap Prod.snd++Lg2)++Lg):=kn.perm (Ql fun f hf h0 hc hp=>by simp only[hf];omega);refine kn.growR (new:=[[t2]]) hgr (.mk' _ _ _ _) (by simp[noOw,ht2]) (by simp only[Jg,hrl,LIM,Jp,Jm];omega) fun t3 Lg3 H6 hg3 ht3 kn=>?_;simp only[go_sem,Qrq,ht3];refine Qq ?_;simp only[go_sem,ht3];refine⟨Qr (by omega) (by omega),?_⟩;show ∃m,_;refine⟨3-(i+1),by omega,i+1,t3,Lg3,rs++[(t2,Lg2)],rfl,by omega,by simp[hrl],?_,?_,?_,?_,rfl,rfl,rfl,rfl⟩
   ·intro p hp;rcases J4.1 hp with hp|hp
    ·exact how p hp
    ·rw[Ja]at hp;subst hp;exact ht2
   ·rw[J3];exact hg3
   ·intro j hj;rw[Jw]at hj;by_cases hj2:j<rs.length
    ·rw[List.getElem_append_left hj2];exact hrs j hj2
    ·have hje:j=i:=(by simp at hj;omega);subst hje;rw[List.getElem_append_right (by omega)];simp only[hrl,Jab,List.getElem_cons_zero];exact hg2
   ·rw[List.flatMap_append];simpa using kn
  ·intro hc;have hge:i=3:=by
    have:¬((i:Int)<3):=of_decide_eq_false hc;omega
   refine Qv ?_;simp only[go_sem,X.next];refine Qa ?_;simp only[go_sem,l3,htw];refine Qk ?_;simp only[go_sem,Q3,Qab,Q3f,Ja,forall_eq,RS.op,htw];have hz:=Qbjl (H:=H1) (S:=un H) (n:=n) rs 0 (by simpa using hrs) fun p hp=>⟨(kn.get p (by simp only[List.nil_append];exact Jv _ hp)).1,Qe8 (kn.loc p (Jv _ hp))⟩;rw[hrl,hge]at hz;exact⟨_,.c _ _ (hgr.frzR kn hz),hK _ kn.fin⟩
theorem Qarb (hgl:H 0=.gl 0 tryC)(hfit:∀c∈cs,c.fits)(hg:Qbw cs=true)(hK:∀H',Upd H H' []→K (.c (.sl false 1 (triL (Qjm cs).toNat))) H'):Qs prog Qf4 [.ag [.sl fl 3 (Qj cs)]] H K:=by
 have hw:=runW hg;have h0:=hw.ro.n;obtain⟨p0,p3,_⟩:=hw.par (cs.length-1) (by omega);have hne:H 0≠.none:=by rw[hgl];nofun
 obtain⟨n,hn⟩:∃n:Nat,Qjm cs=n:=⟨(Qjm cs).toNat,by rw[Qjm];omega⟩;have hn3:n≤3:=by rw[Qjm]at hn;omega
 rw[hn]at hK;refine Qc Qaj Qaad ?_;refine Qa ?_;simp only[go_sem];refine Qy ?_;refine Qa ?_;simp only[go_sem];refine Qg1 hfit fun H1 hu=>?_;have kn:=(Kn.start0 H).call0 hu;rw[hg];simp only[go_sem,Qiz];refine Qh (Qe (c:=false) rfl (fun h=>by cases h) fun _=>?_);refine Qi ?_;try simp only[go_sem]
 refine Qa ?_;simp only[go_sem];refine Q29 h0 ?_;rw[hn];simp only[go_sem,Qi1];refine Qbjn (by rw[kn.chg 0 hne (by simp)];exact hgl) hn3 fun H2 hu2=>?_;have kn:=kn.call0 hu2;simp only[go_sem,Qi0];refine Qk ?_;simp only[go_sem,Q3,Qab,Qpm,Ja,forall_eq,RS.op];exact hK _ kn.upd
end Go.AE.Y
namespace Go.AE.Y
attribute [local go_sem] cond_true cond_false Bool.not_true Bool.not_false
attribute [local instance] Classical.propDecidable
open Go.Proofs.Tryz
variable {H H0:Heap}{K:V→Heap→Prop}{fl:Bool}{cs ds:List CodeD}
def Qbq1:SC:=(.cond (.t 12) (.seq (.reg (
  .f (some 2) none (.mv (.k (.c (.bool true))))::
  []) [2]) .ret) .skip)
def Qa9e:List Item:=
  .e none none (.sto 1 (.t 3) (.t 14))::
  []
def Qa9f:List Item:=
  .e (some 3) none (.alloc [.sl true 3 []])::
  Qa9e
def Qa9g:List Item:=
  .f (some 5) none (.mv (.t 19))::
  []
def Qa9h:List Item:=
  .e none none (.sto 1 (.t 4) (.t 18))::
  Qa9g
def Qa9i:List Item:=
  .f (some 15) none (.mv (.t 17))::
  .f (some 18) none (.ext (.t 15) 0)::
  .f (some 19) none (.ext (.t 15) 1)::
  .e (some 4) none (.alloc [.sl true 3 []])::
  Qa9h
def Qa9j:List Item:=
  .f (some 7) none (.mv (.t 24))::
  []
def Qa9k:List Item:=
  .e none none (.sto 1 (.t 6) (.t 23))::
  Qa9j
def Qa9l:List Item:=
  .f (some 20) none (.mv (.t 22))::
  .f (some 23) none (.ext (.t 20) 0)::
  .f (some 24) none (.ext (.t 20) 1)::
  .e (some 6) none (.alloc [.sl true 3 []])::
  Qa9k
def Qaqt:List Item:=
  .f (some 32) (some (28,false)) (.not (.t 31))::
  .f (some 33) none (.pick (.t 28) (.k (.c (.bool true))) (.t 32))::
  .f (some 34) none (.mv (.t 33))::
  .f (some 35) (some (34,false)) (.mv (.t 5))::
  .f (some 36) (some (34,false)) (.not (.t 35))::
  .f (some 37) none (.pick (.t 34) (.k (.c (.bool true))) (.t 36))::
  []
def Qazm:List Item:=
  .f (some 45) none (.pick (.t 41) (.t 44) (.k (.c (.bool false))))::
  .f (some 2) none (.mv (.t 45))::
  []
def Qbnd:SC:=(.cond (.t 37) (.seq (.reg (
  .f (some 38) none (.mv (.t 5))::
  .f (some 39) none (.mv (.t 7))::
  .f (some 40) none (.bin 1 .eql (.t 38) (.t 39))::
  .f (some 41) none (.mv (.t 40))::
  .f (some 42) (some (41,true)) (.ld 1 true (.t 4))::
  .f (some 43) (some (41,true)) (.ld 1 true (.t 6))::
  .e (some 44) (some (41,true)) (.call Qd6 [.t 42,.t 43])::
  Qazm) [2]) .ret) .skip)
def Qazn:List Item:=
  .f (some 48) none (.len (.t 47))::
  .f (some 49) none (.mv (.k (.c (.int .i64 0))))::
  []
def Qazo:List Item:=
  .f (some 57) none (.not (.t 56))::
  []
def Qbne:SC:=(.cond (.t 57) (.seq (.reg (
  .f (some 2) none (.mv (.k (.c (.bool false))))::
  []) [2]) .ret) .skip)
def Qbnf:SC:=(.seq (.reg (
  .f (some 53) none (.ld 1 true (.t 3))::
  .f (some 54) none (.ld 1 true (.t 4))::
  .f (some 55) none (.mv (.t 9))::
  .e (some 56) none (.call Qjd [.t 53,.t 54,.t 55,.k (.c (.int .i64 800))])::
  Qazo) [3,4,47,48,49,57]) Qbne)
def Qbng:SC:=(.reg (
  .f (some 58) none (.bin 0 .add (.t 49) (.k (.c (.int .i64 1))))::
  .f (some 49) none (.mv (.t 58))::
  []) [3,4,47,48,49])
def Qbnh:SC:=(.seq (.block 1 (.seq (.reg (
  .f (some 51) none (.iad 1 (.t 47) (.t 49))::
  .f (some 52) none (.ld 1 false (.t 51))::
  .f (some 9) none (.mv (.t 52))::
  []) [3,4,9,47,48,49]) Qbnf)) Qbng)
def Qbi7:SC:=(.seq (.reg (
  .f (some 50) none (.bin 0 .lss (.t 49) (.t 48))::
  []) [3,4,47,48,49,50]) (.seq (.cond (.t 50) .skip (.exit 0)) Qbnh))
def Qazp:List Item:=
  .f (some 2) none (.mv (.t 60))::
  []
def Qbni:SC:=(.seq (.reg (
  .f (some 59) none (.ld 1 true (.t 4))::
  .e (some 60) none (.call Qb4 [.t 59])::
  Qazp) [2]) .ret)
def Qbnj:SC:=(.seq (.seq (.reg (
  .f (some 46) none (.ld 1 true (.t 3))::
  .e (some 47) none (.call Qf4 [.t 46])::
  Qazn) [3,4,47,48,49]) (.block 0 (.loop Qbi7))) Qbni)
def Qbnk:SC:=(.seq (.seq (.reg (
  .f (some 25) none (.mv (.t 5))::
  .f (some 26) none (.mv (.t 7))::
  .f (some 27) none (.bin 1 .neq (.t 25) (.t 26))::
  .f (some 28) none (.mv (.t 27))::
  .f (some 29) (some (28,false)) (.ld 1 true (.t 4))::
  .f (some 30) (some (28,false)) (.ld 1 true (.t 6))::
  .e (some 31) (some (28,false)) (.call Qd6 [.t 29,.t 30])::
  Qaqt) [3,4,5,6,7,37]) Qbnd) Qbnj)
def Qbnl (sp:Nat):SC:=(.seq (.reg (
  .f (some 21) none (.ld 1 true (.t 3))::
  .e (some 22) none (.call sp [.t 21])::
  Qa9l) [3,4,5,6,7]) Qbnk)
def Qbnm (im sp:Nat):SC:=(.seq (.reg (
  .f (some 16) none (.ld 1 true (.t 3))::
  .e (some 17) none (.call im [.t 16])::
  Qa9i) [3,4,5]) (Qbnl sp))
def Qbnn (dr im sp:Nat):SC:=(.seq (.reg (
  .f (some 13) none (.mv (.t 0))::
  .e (some 14) none (.call dr [.t 13])::
  Qa9f) [3]) (Qbnm im sp))
def Qbno (dr im sp:Nat):SC:=(.seq (.seq (.reg (
  .f (some 10) none (.mv (.t 0))::
  .f (some 11) none (.len (.t 10))::
  .f (some 12) none (.bin 0 .gtr (.t 11) (.k (.c (.int .i64 1048576))))::
  []) [0,12]) Qbq1) (Qbnn dr im sp))
def Qbt5 (dr im sp:Nat):SC:=(.seq (.reg (
  .f (some 2) none (.mv (.k (.c (.bool false))))::
  []) [0]) (Qbno dr im sp))
def Qbqt:List RS:=[.tmp 2]
theorem Qbjm (n:Nat):(triL n).length=3:=by simp[triL]
theorem Qbrb (n:Nat){i:Nat}(h:i<3):(triL n).getD i []=[.sl false 1 (Qb ((tryL i).take n))]:=by
 have:i=0∨i=1∨i=2:=by omega
 rcases this with rfl|rfl|rfl <;> rfl
theorem Qa9t {i n:Nat}(h:i<3)(hn:n≤3):((tryL i).take n).length=n:=by rw[Jt,Qbjr h];omega
theorem Qbrc {i n:Nat}(h:i<3):byL ((tryL i).take n):=fun v hv=>Qbs8 h v (List.mem_of_mem_take hv)
theorem Qbl0 {f:CodeD→CodeD}(h:∀q,(f q).params=q.params):Qjm (cs.map f)=Qjm cs:=by
 rw[Qjm,Qjm,Qac,Qac,Jg];simp only[Jb,Jr]
 cases cs[cs.length-1]? with
 |none=>rfl
 |some q=>exact h q
set_option maxHeartbeats 8000000 in
theorem Qbhd {f dr im sp:Nat}{P:List CodeD→List CodeD→Prop}{G:List CodeD→Bool}{bs:List UInt8}(hm:mFn prog f 1 61 (Qbt5 dr im sp) Qbqt=true)
  (hdr:∀(bs:List UInt8) (H:Heap) (K:V→Heap→Prop),(∀cs H',Upd H H' []→UnitOk cs→K (.ag [.sl false 3 (Qj cs)]) H')→Qs prog dr [.c (.sl false 1 (Qbp bs))] H K)
  (him:∀(cs:List CodeD) (H:Heap) (K:V→Heap→Prop),(∀c∈cs,c.fits)→(∀ds H',P cs ds→Upd H H' []→K (.tup [.ag [.sl false 3 (Qj ds)],.c (.bool (G cs))]) H')→Qs prog im [.ag [.sl false 3 (Qj cs)]] H K)
  (hsp:∀(cs:List CodeD) (H:Heap) (K:V→Heap→Prop),(∀c∈cs,c.fits)→(∀ds H',P cs ds→Upd H H' []→K (.tup [.ag [.sl false 3 (Qj ds)],.c (.bool (G cs))]) H')→Qs prog sp [.ag [.sl false 3 (Qj cs)]] H K)
  (hun:∀cs ds ds',P cs ds→P cs ds'→ds=ds') (hfits:∀cs ds,(∀c∈cs,c.fits)→P cs ds→∀c∈ds,c.fits)
  (hG:∀cs ds,P cs ds→G cs=true→Qbw cs=true∧Qbw ds=true∧Qjm ds=Qjm cs∧∀l,Qa0l cs ds l 800)
  (hgl:H 0=.gl 0 tryC) (hK:∀H',K (.c (.bool true)) H'):Qs prog f [.c (.sl false 1 (Qbp bs))] H K:=by
 refine Qc Qaj hm ?_;have hne:H 0≠.none:=by rw[hgl];nofun
 have retT':∀(e:Env) (H':Heap),lk 2 e=.c (.bool true)→Q3 Qbqt K .ret e H':=by
  intro e H' h2;simp only[go_sem,Q3,Qab,Qbqt,Ja,forall_eq,RS.op,h2];exact hK H'
 refine Qa ?_;simp only[go_sem];refine Qy ?_;refine Qa ?_;simp only[go_sem,Qav];intro _;refine Qh (Qe rfl (fun hc=>?_) (fun hc=>?_))
 ·refine Qa ?_;simp only[go_sem];refine Qk ?_;exact retT' _ _ rfl
 refine Qi ?_;try simp only[go_sem]
 refine Qa ?_;simp only[go_sem];refine hdr bs _ _ fun cs H1 hu hok=>?_;have hfit:=hok.fits;have kn:=(Kn.start0 H).call0 hu;simp only[go_sem,Qa9f];intro x3 hx3 H2 h2;have kn:=kn.al hx3 h2;have hx3:=kn.l 0 rfl;simp only[go_sem,Qa9e,hx3];intro H3 h3;have kn:Kn H H3 [] [(x3,.st [.sl false 3 (Qj cs)])]:=kn.stL 0 rfl h3;have hx3:=kn.l 0 rfl;refine Qa ?_;simp only[go_sem,hx3];refine him cs _ _ hfit fun ds H4 hds hu=>?_;have hfd:=hfits cs ds hfit hds;have kn:=kn.call0 hu;simp only[go_sem,Qa9i,Jf,Je];intro x4 hx4 H5 h5;have kn:=kn.al hx4 h5;have hx4:=kn.l 1 rfl;simp only[go_sem,Qa9h,hx4];intro H6 h6;have kn:Kn H H6 [] [(x3,.st [.sl false 3 (Qj cs)]),(x4,.st [.sl false 3 (Qj ds)])]:=kn.stL 1 rfl h6;have hx3:=kn.l 0 rfl;simp only[go_sem,Qa9g];refine Qa ?_;simp only[go_sem,hx3];refine hsp cs _ _ hfit fun ds' H7 hds' hu=>?_;obtain rfl:=hun cs ds ds' hds hds';have kn:=kn.call0 hu;simp only[go_sem,Qa9l,Jf,Je];intro x6 hx6 H8 h8;have kn:=kn.al hx6 h8;have hx6:=kn.l 2 rfl;simp only[go_sem,Qa9k,hx6];intro H9 h9;have kn:Kn H H9 [] [(x3,.st [.sl false 3 (Qj cs)]),(x4,.st [.sl false 3 (Qj ds)]),(x6,.st [.sl false 3 (Qj ds)])]:=kn.stL 2 rfl h9;have hx4:=kn.l 1 rfl;have hx6:=kn.l 2 rfl;simp only[go_sem,Qa9j];refine Qy ?_
 cases hg:G cs with
 |false=>
  refine Qa ?_;simp only[go_sem,hx4,hx6,decide_true];refine Qmv fun H10 hu=>?_;have kn:=kn.call0 hu;have hx4:=kn.l 1 rfl;have hx6:=kn.l 2 rfl;simp only[go_sem,Qaqt];refine Qh (Qe rfl ?_ ?_)
  ·intro _;refine Qa ?_;simp only[go_sem,hx4,hx6,decide_true];refine Qmv fun H11 hu=>?_;simp only[go_sem,Qazm];refine Qk ?_;exact retT' _ _ rfl
  ·intro h;simp at h
 |true=>
  obtain⟨hg1,hg2,hmp,hsame⟩:=hG cs ds hds hg;refine Qa ?_;simp only[go_sem,hx4,hx6,decide_true];refine Qmv fun H10 hu=>?_;have kn:=kn.call0 hu;simp only[go_sem,Qaqt];refine Qh (Qe rfl ?_ ?_)
  ·intro h;simp at h
  intro _;refine Qi ?_;try simp only[go_sem]
  have kn:Kn H H10 [] [(x3,.st [.sl false 3 (Qj cs)]),(x4,.st [.sl false 3 (Qj ds)])]:=Kn.drop (A:=[_,_]) (B:=[_]) kn;have hx3:=kn.l 0 rfl;refine Qy ?_;refine Qa ?_;simp only[go_sem,hx3];refine Qarb (by rw[kn.chg 0 hne (by simp)];exact hgl) hfit hg1 fun H11 hu=>?_;have kn:=kn.call0 hu;obtain⟨p0,p3,_⟩:=(runW hg1).par (cs.length-1) (by have:=(runW hg1).ro.n;omega);obtain⟨n,hn⟩:∃n:Nat,Qjm cs=n:=⟨(Qjm cs).toNat,by rw[Qjm];omega⟩;have hn3:n≤3:=by rw[Qjm]at hn;omega
  rw[hn,Int.toNat_natCast];simp only[go_sem,Qazn,Qbjm];try intro _
  refine Qh (Qf (Qw (fun mm e1 H1=>∃(i:Nat),mm=3-i∧i≤3∧Kn H H1 [] [(x3,.st [.sl false 3 (Qj cs)]),(x4,.st [.sl false 3 (Qj ds)])]∧
   lk 3 e1=.c (.ptr x3 0)∧lk 4 e1=.c (.ptr x4 0)∧lk 47 e1=.c (.sl false 1 (triL n))∧lk 48 e1=.c (.int .i64 3)∧lk 49 e1=.c (.int .i64 i)) 3 ?_ ?_))
  ·exact⟨0,by omega,by omega,kn,rfl,rfl,rfl,rfl,rfl⟩
  ·clear kn hx3 hx4 hx6;rintro mm e1 H12 ⟨i,hmm,hi,kn,l3,l4,l47,l48,l49⟩;have hx3:=kn.l 0 rfl;have hx4:=kn.l 1 rfl;refine Qa ?_;simp only[go_sem,l3,l4,l47,l48,l49];refine Qh (Qe rfl ?_ ?_)
   ·intro hc1;have hlt:i<3:=(by have:(i:Int)<3:=of_decide_eq_true hc1;omega);refine Qi ?_;try simp only[go_sem]
    refine Qh (Qf ?_);refine Qa ?_;simp only[go_sem,l3,l4,l47,l48,l49,hlt,Qbjm,Qbrb n hlt];refine Qa ?_;simp only[go_sem,hx3,hx4];refine Qa9y (S:=800) hfit hfd hg1 hg2 (by rw[Qa9t hlt hn3,hn]) (by rw[Qa9t hlt hn3,hmp,hn]) (Qbrc hlt) (by omega) (hsame _) fun H13 hu=>?_;have kn:=kn.call0 hu;simp only[go_sem,Qazo];refine Qe (c:=false) rfl (fun h=>by cases h) fun _=>?_;refine Qi ?_;try simp only[go_sem]
    refine Qq ?_;simp only[go_sem];refine⟨Qr (by omega) (by omega),?_⟩;show ∃m,_;exact⟨3-(i+1),by omega,i+1,rfl,by omega,kn,rfl,rfl,rfl,rfl,rfl⟩
   ·intro hc1;refine Qv ?_;simp only[go_sem,X.next];refine Qa ?_;simp only[go_sem,l3,l4,hx4];refine Qg1 hfd fun H13 hu=>?_;rw[hg2];simp only[go_sem,Qazp];refine Qk ?_;exact retT' _ _ rfl
end Go.AE.Y
namespace Go.AE.Y
attribute [local instance] Classical.propDecidable
open Go.Proofs.Tryz
variable {H:Heap}{K:V→Heap→Prop}{cs ds:List CodeD}{q:CodeD}{bs:List UInt8}{fl:Bool}
theorem Qbar (hq:q.ok)(hjn:∀b (h:b<q.blocks.length),(q.blocks[b].next.length:Int)=Qd1 q.blocks[b].jump)(hK:∀H',Upd H H' []→K (.ag (evE q).cells) H') :
  Qs prog Qj4 [.ag [.int .i64 q.params,.int .i64 q.regs,.sl false 5 (Qm q.blocks)],.c (.str [101,118,101,110])] H K:=by
 refine Qx ?_;refine Qc Qaj Qase ?_;refine Qa ?_;simp only[go_sem];intro x4 hx4 H1 h1;have kn:=(Kn.start0 H).al hx4 h1;refine Qy ?_;refine Qa ?_;simp only[go_sem];refine Qh (Qf ?_);refine Qa ?_;simp only[go_sem];refine Qe rfl (fun hc=>absurd hc (by decide)) (fun _=>?_);refine Qa ?_;simp only[go_sem];refine Qe rfl (fun hc=>absurd hc (by decide)) (fun _=>?_);refine Qa ?_;simp only[go_sem];refine Qe rfl (fun hc=>absurd hc (by decide)) (fun _=>?_);refine Qa ?_;simp only[go_sem];refine Qe rfl (fun hc=>absurd hc (by decide)) (fun _=>?_);refine Qa ?_;simp only[go_sem];refine Qe rfl (fun hc=>absurd hc (by decide)) (fun _=>?_);refine Qa ?_;simp only[go_sem];refine Qe rfl (fun hc=>absurd hc (by decide)) (fun _=>?_);refine Qa ?_;simp only[go_sem];refine Qe rfl (fun hc=>absurd hc (by decide)) (fun _=>?_);refine Qa ?_;simp only[go_sem];refine Qe rfl (fun hc=>absurd hc (by decide)) (fun _=>?_);refine Qa ?_;simp only[go_sem];refine Qe rfl (fun _=>?_) (fun hc=>absurd hc (by decide));refine Qa ?_;simp only[go_sem];refine Qbfo hq hjn fun H2 hu=>?_;have kn:=kn.call0 hu;have hx4:=kn.l 0 rfl;simp only[go_sem,Q31,CodeD.cells,hx4];intro H3 h3;have kn:=kn.stL 0 rfl h3;have hx4:=kn.l 0 rfl;refine Qk ?_;simp only[go_sem,X.next,Q3,Qab,Qaax,Ja,forall_eq,RS.op,hx4];exact⟨_,FrzL.ag (.cons (.same _ rfl) (.cons (.same _ rfl) (.cons (.same _ rfl) .nil))),hK _ kn.fin⟩
theorem Qber (h:q.fits):(evE q).fits:=fun y hy=>by
 obtain⟨x,hx,rfl⟩:=Jaa.1 hy;rw[(Qx8 x).1,(Qx8 x).2];exact h x hx
theorem Qbes (cs:List CodeD):Qaho (perL evE cs) (Qbw cs)=perL evE cs∧(Qbw cs&&Qbw (perL evE cs))=Qbw cs:=by
 cases hg:Qbw cs with
 |false=>simp[Qaho,perL,hg]
 |true=>
  have h:=Qarq hg;have e:perL evE cs=cs.map evE:=by rw[perL,if_pos hg]
  rw[e,Qaho,h];simp
theorem Qbjs (hg:Qbw cs=true){i:Nat}(hi:i<cs.length):∀b (h:b<cs[i].blocks.length),(cs[i].blocks[b].next.length:Int)=Qd1 cs[i].blocks[b].jump:=fun b h=>by
 have:=(Q9f hg).jn i b hi (by rw[Qbj hi];exact h);rw[Qbj hi,Qbs h]at this;exact this
theorem Qamw (hfit:∀c∈cs,c.fits)(hK:∀H',Upd H H' []→K (.tup [.ag [.sl false 3 (Qj (perL evE cs))],.c (.bool (Qbw cs))]) H') :
  Qs prog Qhd [.ag [.sl fl 3 (Qj cs)]] H K:=by
 refine Qx ?_;refine Qc Qaj Qag7 ?_;refine Qa ?_;simp only[go_sem];intro x2 hx2 H1 h1;have kn:=(Kn.start0 H).al hx2 h1;simp only[go_sem,Qko];refine Qa ?_;simp only[go_sem];refine Qbbc (f:=evE) hfit (fun hg p hp H K fl hK=>?_) fun H2 hu=>?_
 ·obtain⟨i,hi,rfl⟩:=J5.1 hp;exact Qbkt (Qaq8 hg hi) (Qbjs hg hi) hK
 have kn:=kn.call0 hu;have hx2:=kn.l 0 rfl;simp only[go_sem,Qkq,hx2,Jf,Je];intro H4 h4;have kn:=kn.stL 0 rfl h4;have hx2:=kn.l 0 rfl;simp only[go_sem,Qkp];refine Qk ?_;simp only[go_sem,X.next,Q3,Qab,Qu6,Jo,Ju,RS.op,hx2];exact⟨fun _=>trivial,_,Qhr (Qdg _) (.c _ _ (Qg rfl)),hK _ kn.fin⟩
theorem Qaq3 (hfit:∀c∈cs,c.fits)(hK:∀H',Upd H H' []→K (.tup [.ag [.sl false 3 (Qj (perL evE cs))],.c (.bool (Qbw cs))]) H') :
  Qs prog Qho [.ag [.sl fl 3 (Qj cs)]] H K:=by
 refine Qx ?_;refine Qc Qaj Qahi ?_;refine Qa ?_;simp only[go_sem];intro x2 hx2 H1 h1;have kn:=(Kn.start0 H).al hx2 h1;simp only[go_sem,Qk8];refine Qa ?_;simp only[go_sem];refine Qban (f:=evE) hfit (Qasu (f:=evE) hfit fun c h=>Qber h) (fun hg p hp H K hK=>?_) fun H2 hu=>?_
 ·obtain⟨i,hi,rfl⟩:=J5.1 hp;exact Qbar (Qaq8 hg hi) (Qbjs hg hi) hK
 rw[(Qbes cs).1,(Qbes cs).2];have kn:=kn.call0 hu;have hx2:=kn.l 0 rfl;simp only[go_sem,Qla,Jf,Je,hx2];intro H3 h3;have kn:=kn.stL 0 rfl h3;have hx2:=kn.l 0 rfl;simp only[go_sem,Qk9];refine Qk ?_;simp only[go_sem,Q3,Qab,Qve,Jo,Ju,RS.op,hx2];exact⟨fun _=>trivial,_,Qhr (Qdg _) (.c _ _ (Qg rfl)),hK _ kn.fin⟩
theorem Q9k {fl:Bool}(hK:∀(cs:List CodeD) (H':Heap),Upd H H' []→UnitOk cs→K (.ag [.sl false 3 (Qj cs)]) H'):Qs prog Qdl [.c (.sl fl 1 (Qbp bs))] H K:=by
 refine Qx ?_;refine Qc Qaj Qyk ?_;refine Qa ?_;simp only[go_sem];intro x2 hx2 H1 h1;have kn:=(Kn.start0 H).al hx2 h1;refine Qa ?_;simp only[go_sem];refine Qbfn fun cs H2 hu hok=>?_;have kn:=kn.call0 hu;have hx2:=kn.l 0 rfl;simp only[go_sem,Qf2,hx2];intro H3 h3;have kn:=kn.stL 0 rfl h3;have hx2:=kn.l 0 rfl;refine Qk ?_;simp only[go_sem,Q3,Qab,Qix,Ja,forall_eq,RS.op,hx2];exact⟨_,Qdg cs,hK cs _ kn.fin hok⟩
theorem FnEvenRuns_c (hgl:H 0=.gl 0 tryC)(hK:∀H',K (.c (.bool true)) H'):Qs prog Q6k [.c (.sl false 1 (Qbp bs))] H K:=
 Qbhd (dr:=Qdl) (im:=Qhd) (sp:=Qho) (P:=fun cs ds=>ds=perL evE cs) (G:=Qbw) (by kernel_rfl) (fun bs H K h=>Q9k h)
  (fun cs H K hf h=>Qamw hf fun H' hu=>h _ H' rfl hu) (fun cs H K hf h=>Qaq3 hf fun H' hu=>h _ H' rfl hu) (fun cs a b h1 h2=>h1.trans h2.symm) (fun cs ds hf h=>by rw[h];exact Qasu (f:=evE) hf fun c h=>Qber h)
  (fun cs ds h hg=>by
   have e:perL evE cs=cs.map evE:=by rw[perL,if_pos hg]
   rw[h,e];exact⟨hg,Qarq hg,Qbl0 fun q=>rfl,fun l=>Qbet (Q9f hg) l (by omega)⟩) hgl hK
end Go.AE.Y
namespace Go.AE.Y
open Go.ChangeShapes Go.WideShapes Go.ChangeAt Go.RowKit
def Qboo (w:World)(a:Option Addr)(len cap:Nat)(zs:List Int):Prop:=
 (a=none∧len=0∧cap=0∧zs=[])∨
 ∃x,a=some x∧len≤cap∧zs.length=cap∧(∀i,i<zs.length→w.cell? (x.add i)=some (.int .u8 (zs.getD i 0)))∧∀n∈zs,(Lit.int .u8 n).wf=true
def gh3 (w:World):G:=⟨fun b=>decide (b<w.heap.size),fun _=>none,fun l=>if l=0 then some (0,9,0)else none⟩
def hp3:Heap:=fun l=>if l=0 then .gl 0 tryC else .none
def tryZ:List Int:=[0,0,0,1,2,3,255,16,7]
theorem Qbdw (w:World)(ht:∀j,j<9→w.cell? ⟨0,j,none⟩=some (.int .i64 (tryZ.getD j 0))):Sat hp3 (gh3 w) w:=by
 have h0:0<w.heap.size:=by
  have:=ht 0 (by omega);rcases Jx w.heap.size with h|h
  ·simp[World.cell?,J1 (show w.heap.size≤0 by omega)]at this
  ·exact h
 have hz:∀(j:Nat) (c:C),tryC[j]? = some c→j<9∧c=.int .i64 (tryZ.getD j 0):=by
  intro j c h;have hj:j<9:=(Jz.1 h).1;refine⟨hj,?_⟩;have e:tryC=Qif tryZ:=rfl;rw[e,Qif,Jr]at h;have hl:j<tryZ.length:=hj;rw[Jh hl]at h;simp at h;rw[←h,Jb,Jh hl];rfl
 refine⟨fun b hb=>⟨by simp[gh3];omega,rfl⟩,⟨1,fun l hl=>by simp[gh3];omega⟩,fun b x h=>by simp[gh3]at h,fun b l p h=>by simp[gh3]at h,fun l=>?_⟩;by_cases hl:l=0
 ·subst hl;refine⟨9,fun j=>.int .i64 (tryZ.getD j 0),by simp[gh3],by simpa[gh3]using h0,fun j c h=>?_,fun j c h=>?_⟩
  ·exact ht j (hz j c h).1
  ·rw[(hz j c h).2];exact .int _ _
 ·rw[hp3,if_neg hl];trivial
theorem Qbo0 {n:Int}(h:(Lit.int .u8 n).wf=true):((UInt8.ofNat n.toNat).toNat:Int)=n:=by
 simp only[Lit.wf,Ji,decide_eq_true_eq]at h;have a1:IntKind.min .u8=0:=by decide
 have a2:IntKind.max .u8=255:=by decide
 rw[a1,a2]at h;rw[UInt8.toNat_ofNat'];omega
theorem calls_of_acall3 {P:Program}{f:Nat}(h:∀bs:List UInt8,bs.length≤1048576→Qs P f [.c (.sl false 1 (Qbp bs))] hp3 fun v _=>v=.c (.bool true))
  {a0:Option Addr} {len0 cap0:Nat} {z0:List Int} {w:World} (ht:∀j,j<9→w.cell? ⟨0,j,none⟩=some (.int .i64 (tryZ.getD j 0))) (hr:Qboo w a0 len0 cap0 z0) (hl:len0≤1048576) :
  Calls P f #[.slice a0 len0 cap0] w fun e w'=>e=.returned (.bool true)∧Below w.heap.size w w':=by
 have key:∃bs:List UInt8,bs.length=len0∧RepC w (gh3 w) (.sl false 1 (Qbp bs)) (.slice a0 len0 cap0):=by
  rcases hr with ⟨rfl,rfl,rfl,rfl⟩|⟨x,rfl,hlc,hz,hcell,hwf⟩
  ·exact⟨[],rfl,.slnil _ _ _⟩
  ·obtain⟨b,off,spot⟩:=x;have hbl:((z0.take len0).map fun n=>UInt8.ofNat n.toNat).length=len0:=by simp;omega
   by_cases h0:cap0=0
   ·subst h0;have:len0=0:=(by omega);subst this;exact⟨[],rfl,.slnil _ _ _⟩
   have hc0:=hcell 0 (by omega);have hspot:spot=none:=by simpa[Addr.add]using World.cell?_spot hc0
   subst hspot;have hadd:∀i,(⟨b,off,none⟩:Addr).add i=⟨b,off+i,none⟩:=by
    intro i;by_cases h:i=0 <;> simp[Addr.add,h]
   have hb:b<w.heap.size:=by
    rcases Jag b w.heap.size with h|h
    ·exact h
    ·simp[World.cell?,Addr.add,J1 h]at hc0
   refine⟨_,hbl,?_⟩;have hget:∀(i:Nat) (row:List C),(Qbp ((z0.take len0).map fun n=>UInt8.ofNat n.toNat))[i]? = some row→i<len0∧row=[.int .u8 (z0.getD i 0)]:=by
    intro i row hi;have hlt:i<len0:=by
     rcases Jag i len0 with h|h
     ·exact h
     ·rw[Jk (by rw[Qav];omega)]at hi;simp at hi
    have hz0:i<z0.length:=(by omega);refine⟨hlt,?_⟩;simp only[Qbp,Jr,List.getElem?_take,if_pos hlt,Jh hz0,Option.map_some,J9]at hi;rw[←hi,Qbo0 (hwf _ (Jj hz0))];simp[Jb,hz0]
   have:=RepC.sl (w:=w) (g:=(gh3 w)) false 1 (Qbp ((z0.take len0).map fun n=>UInt8.ofNat n.toNat)) b off cap0 (fun i _=>.int .u8 (z0.getD i 0))
    (by rw[Qav,hbl];simp only[LIM];omega) (by simp) (by rw[Qav,hbl];exact hlc) (by simpa[gh3]using hb)
    (fun i row hi=>by rw[(hget i row hi).2];rfl)
    (fun i row j c hi hj=>by
     obtain⟨h1,rfl⟩:=hget i row hi;have hj0:j=0:=by
      rcases Jx j with h|h
      ·exact h
      ·rw[Jk (by simp;omega)]at hj;simp at hj
     subst hj0;have:=hcell i (by omega);rw[hadd]at this;simpa using this)
    (fun i row j c hi hj=>by
     obtain⟨h1,rfl⟩:=hget i row hi;have hj0:j=0:=by
      rcases Jx j with h|h
      ·exact h
      ·rw[Jk (by simp;omega)]at hj;simp at hj
     subst hj0;simp at hj;subst hj;exact .int _ _)
   rw[Qav,hbl]at this;exact this
 obtain⟨bs,hbl,hrep⟩:=key;have hc:=(h bs (by omega)).2 _ w [.slice a0 len0 cap0] (Qbdw w ht) rfl (fun j x u hj hu=>by
  cases j with
  |zero=>simp at hj hu;subst hj;subst hu;exact .c _ _ hrep
  |succ j=>simp at hj)
 refine hc.mono fun e w'=>?_;rintro (⟨v,x,H',g',rfl,rfl,hst,hv⟩|⟨v,H',g',_,h,_⟩)
 rotate_left
 ·cases h
 have:v=.bool true:=by cases hv with|c _ _ h=>cases h;rfl
 subst this;exact⟨rfl,hst.le.os,hst.le.tape,hst.le.output,hst.le.size,fun k hk=>(hst.le.per k (by simpa[gh3]using hk)).2⟩
end Go.AE.Y
