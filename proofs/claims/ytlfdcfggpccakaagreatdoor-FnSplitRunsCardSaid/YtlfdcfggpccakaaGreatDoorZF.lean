/- Part 6 of the proof: the engine, codes, walks and plain laws, each named where it stands. -/
import Derived.Test.YtlfdcfggpccakaaGreatDoorZE
import Derived.Below
import Derived.OpenShut
import Derived.ProofKit
open Nat (reduceEqDiff reduceAdd reduceLeDiff reduceLT)
set_option linter.unusedVariables false
set_option linter.unusedSimpArgs false
set_option maxRecDepth 4000
namespace Go.AE.Y
attribute [local go_sem] cond_true cond_false Bool.not_true Bool.not_false
open Go.Proofs.Tryz
variable {H H0:Heap}{K:V→Heap→Prop}{q:CodeD}
theorem Qble (ho:q.ok){b:Nat}(hb:b<q.blocks.length){p:PhiD}(hp:p∈(Qah q b).phis):stlP (spX (gnx q) q.blocks.length) (spD q).blocks.length (spG q) b p=spP q b p:=by
 rw[stlP,spP,Qmq]
 rw[Qbh hb]at hp
 exact congrArg _ (Qa8p ho.spF hb ((ho.bs b hb).pal p hp))
theorem Qbh5 {nx:Nat→List Int}{n j:Nat}(h:j<n):org nx n j=j:=by rw[org,if_pos h]
set_option maxHeartbeats 16000000 in
theorem Qavy {Q:X→Env→Heap→Prop}{e:Env}{fl:Bool}{x2 x3 zb:Nat}{ks0:List KBlk}(ho:q.ok)(hS0:StS (spX (gnx q) q.blocks.length) (spD q).blocks.length (spG q) (spY q) 0 ks0)
  (kn:Kn H0 H [] (spO x2 x3 q (.vsl zb 5 0 (spD q).blocks.length)++([(zb,.vec 5 (ks0.map KBlk.row))]++ks0.flatMap KBlk.pl)))
  (l1:lk 1 e=.c (.pp [.int .i64 q.params,.int .i64 q.regs,.sl fl 5 (Qr q.blocks)])) (l2:lk 2 e=.c (.ptr x2 0)) (l3:lk 3 e=.c (.ptr x3 0)) (l7:lk 7 e=.c (.int .i64 0))
  (hQ:∀(e:Env) (H':Heap) (ks:List KBlk),StS (spX (gnx q) q.blocks.length) (spD q).blocks.length (spG q) (spY q) q.blocks.length ks→Kn H0 H' [] (spO x2 x3 q (.vsl zb 5 0 (spD q).blocks.length)++([(zb,.vec 5 (ks.map KBlk.row))]++ks.flatMap KBlk.pl))→
   lk 2 e=.c (.ptr x2 0)→lk 3 e=.c (.ptr x3 0)→Q .nrm e H') :
  Qad prog (.block 4 (.loop Qwq)) Q e H:=by
 have F:=ho.spF
 have hb1:=ho.b1
 have hnl:(nwL q).length≤2 * q.blocks.length:=Q0z F (Nat.le_refl _)
 have hND:(spD q).blocks.length=q.blocks.length+(nwL q).length:=by rw[Qmq];rfl
 have hNo:(spD q).blocks.length=offN (gnx q) q.blocks.length q.blocks.length:=Qmq q
 have hstl:=fun (b:Nat) (hb:b<q.blocks.length) (p:PhiD) (hp:p∈(Qah q b).phis)=>Qble ho hb hp
 obtain⟨N,hN⟩:∃N,(spD q).blocks.length=N:=⟨_,rfl⟩
 simp only[hN]at hND hNo kn hQ hS0 hstl
 have hN1:N≤100000:=by omega
 obtain⟨X2,hX2⟩:∃o,o=Obj.st [.int .i64 0,.int .i64 0,.sl true 5 []]:=⟨_,rfl⟩
 obtain⟨X3,hX3⟩:∃o,o=Obj.st [.int .i64 q.params,.int .i64 q.regs,.vsl zb 5 0 N]:=⟨_,rfl⟩
 have hspO:spO x2 x3 q (.vsl zb 5 0 N)=[(x2,X2),(x3,X3)]:=by rw[hX2,hX3];rfl
 rw[hspO]at kn hQ
 refine Qg (Qy (fun m e1 H1=>∃(b:Nat) (ks:List KBlk),m=q.blocks.length-b∧b≤q.blocks.length∧StS (spX (gnx q) q.blocks.length) N (spG q) (spY q) b ks∧
  Kn H0 H1 [] ([(x2,X2),(x3,X3)]++([(zb,.vec 5 (ks.map KBlk.row))]++ks.flatMap KBlk.pl))∧
  lk 1 e1=.c (.pp [.int .i64 q.params,.int .i64 q.regs,.sl fl 5 (Qr q.blocks)])∧lk 2 e1=.c (.ptr x2 0)∧lk 3 e1=.c (.ptr x3 0)∧lk 7 e1=.c (.int .i64 b)) q.blocks.length ?_ ?_)
 ·exact⟨0,ks0,by omega,by omega,hS0,kn,l1,l2,l3,l7⟩
 ·clear kn hS0 l1 l2 l3 l7
  rintro m e1 H1 ⟨b,ks,hm,hb,hS,kn,l1,l2,l3,l7⟩
  have hkl:=hS.n
  refine Q6 ?_
  refine Qa ?_
  simp only[go_sem,l1,l2,l3,l7,Qq]
  try intro _
  refine Qh (Qe rfl ?_ ?_)
  ·intro hc
   have hlt:b<q.blocks.length:=by simpa using hc
   have hbN:b<N:=by omega
   have hkb:b<ks.length:=by omega
   obtain⟨kb,hkbe⟩:∃kb,ks[b]=kb:=⟨_,rfl⟩
   have hkbo:Gr kb.pl 2 (Qw kb.y.phis) kb.pc:=by rw[←hkbe];exact hS.ok _ (List.getElem_mem hkb)
   have hkby:kb.y=spY q b:=by have:=hS.y b hkb;rw[if_neg (Nat.lt_irrefl b),hkbe]at this;exact this
   have hYph:(spY q b).phis=(Qah q b).phis:=by rw[Q7u,if_pos hlt]
   have hkbU:kb.y.phis=(Qah q b).phis:=by rw[hkby,hYph]
   have hyo:=ho.bs b hlt
   have hil:=ho.il b hlt
   have hbe:=Qbh hlt
   rw[←hbe]at hyo hil
   have hstlb:=hstl b hlt
   obtain⟨R,hR⟩:∃R,(ks.eraseIdx b).flatMap KBlk.pl=R:=⟨_,rfl⟩
   have hflat:(ks.flatMap KBlk.pl).Perm (kb.pl++R):=by rw[←hR,←hkbe];exact Qbn hkb
   obtain⟨RW,hRW⟩:∃RW,ks.map KBlk.row=RW:=⟨_,rfl⟩
   have hRWl:RW.length=N:=by rw[←hRW,List.length_map,hkl]
   have hRWg:RW.getD b []=[kb.pc,.sl false 4 (Qav kb.y.ins),.int .i64 kb.y.jump,.int .i64 kb.y.on,.sl false 1 (Qb kb.y.next)]:=by
    rw[←hRW,List.getD_eq_getElem?_getD]
    simp only[List.getElem?_map,List.getElem?_eq_getElem hkb,hkbe,Option.map_some,Option.getD_some]
    exact kb.row_eq
   have hRWt:RW.take N=RW:=List.take_of_length_le (by omega)
   have hRWx:∀j,j<RW.length→∃a1 a2 a3 a4 fl,RW.getD j []=[a1,a2,a3,a4,.sl fl 1 (Qb (spX (gnx q) q.blocks.length j))]:=fun j hj=>by
    have hj':j<ks.length:=by omega
    have hy:=hS.y j hj'
    have hyn:ks[j].y.next=spX (gnx q) q.blocks.length j:=by
     rw[←Qa16 ho j,hy]
     split <;> rfl
    refine⟨ks[j].pc,.sl false 4 (Qav ks[j].y.ins),.int .i64 ks[j].y.jump,.int .i64 ks[j].y.on,false,?_⟩
    rw[←hRW,List.getD_eq_getElem?_getD]
    simp only[List.getElem?_map,List.getElem?_eq_getElem hj',Option.map_some,Option.getD_some]
    rw[←hyn]
    exact KBlk.row_eq _
   rw[hRW]at kn
   refine Qi ?_
   try simp only[go_sem]
   refine Qh (Qg ?_)
   refine Qa ?_
   simp only[go_sem,l1,l2,l3,l7]
   refine Qj5 (nx:=gnx q) (.mk' _ _ _ _) rfl (Quh H1 q fl).x fun H2 hu=>?_
   have kn:=kn.call0 hu
   simp only[go_sem,Qwk,Qq]
   obtain⟨olds,hol⟩:∃o,Q1 (gnx q) (b:Int) q.blocks.length=o:=⟨_,rfl⟩
   rw[hol]
   have hx3:=kn.l 1 rfl
   rw[hX3]at hx3
   have hzb:H2 zb=.vec 5 RW:=(kn.get (zb,.vec 5 RW) (by simp)).1
   refine Qa ?_
   simp only[go_sem,hx3]
   refine Qj5 (nx:=spX (gnx q) q.blocks.length) (vslc hzb hRWl.symm) rfl hRWx fun H3 hu=>?_
   have kn:=kn.call0 hu
   rw[hRWl]
   obtain⟨news,hnw⟩:∃o,Q1 (spX (gnx q) q.blocks.length) (b:Int) N=o:=⟨_,rfl⟩
   rw[hnw]
   have hnl2:news.length≤N:=by rw[←hnw];exact Qbq _ _ _
   simp only[go_sem,Qwl]
   refine Qa ?_
   simp only[go_sem]
   have kn:Kn H0 H3 [] (([(x2,X2),(x3,X3),(zb,.vec 5 RW)]++R)++kb.pl):=kn.perm (Qj fun f hf h0 hc hp=>by
    have:=hp _ _ hflat
    have e3:∀(a b c:Nat×Obj),f [a,b,c]=f [a,b]+f [c]:=fun a b c=>by rw[hc a [b,c],hc a [b],hc b [c]];omega
    simp only[hf,e3]at this⊢;omega)
   refine Qg (Qy (fun m e1 H1=>∃(k:Nat) (ph:List PhiD) (pl:List (Nat×Obj)),m=ph.length-k∧k≤ph.length∧ph=mix (stlP (spX (gnx q) q.blocks.length) N (spG q) b) (Qah q b).phis k∧Gr pl 2 (Qw ph) kb.pc∧
    Kn H0 H1 [] (([(x2,X2),(x3,X3),(zb,.vec 5 RW)]++R)++pl)∧
    lk 1 e1=.c (.pp [.int .i64 q.params,.int .i64 q.regs,.sl fl 5 (Qr q.blocks)])∧lk 2 e1=.c (.ptr x2 0)∧lk 3 e1=.c (.ptr x3 0)∧lk 7 e1=.c (.int .i64 b)∧lk 8 e1=.c (.sl false 1 (Qb olds))∧lk 9 e1=.c (.sl false 1 (Qb news))∧lk 10 e1=.c (.int .i64 k)) kb.y.phis.length ?_ ?_)
   ·exact⟨0,kb.y.phis,kb.pl,by omega,by omega,by rw[hkbU,Q7o],hkbo,kn,rfl,rfl,rfl,rfl,rfl,rfl,rfl⟩
   ·clear kn hx3 hzb hflat hu l1 l2 l3 l7
    rintro m2 e2 H4 ⟨k,ph,pl,hm2,hk,hphe,hgr,kn,l1,l2,l3,l7,l8,l9,l10⟩
    have hphl:ph.length=(Qah q b).phis.length:=by rw[hphe,Q8z]
    have hx3:=kn.l 1 rfl
    rw[hX3]at hx3
    have hzb:=kn.l 2 rfl
    have hpw:=hgr.isOw
    have hpok:=eq_true (hgr.get kn).1
    have hplen:=hgr.lenC
    rw[Qv]at hplen
    refine Q6 ?_
    refine Qa ?_
    simp only[go_sem,l1,l2,l3,l7,l8,l9,l10,hx3,hzb,hRWl,hRWt,hRWg,hbN,hpw,hpok,hplen,Nat.zero_add,Nat.le_refl]
    try intro _
    refine Qh (Qe rfl ?_ ?_)
    ·intro hc2
     have hlt2:k<ph.length:=by simpa using hc2
     obtain⟨z,hpc,hpl⟩:∃z,kb.pc=.vsl z 2 0 ph.length∧pl=[(z,.vec 2 (Qw ph))]:=by
      rcases hgr with ⟨_,h,_⟩|⟨y,h1,h2⟩
      ·have:=congrArg List.length h;rw[Qv]at this;simp only[List.length_nil]at this;omega
      ·exact⟨y,by rw[h1,Qv],h2⟩
     rw[hpc]at hRWg
     rw[hpl]at kn
     clear hpw hpok hplen
     obtain⟨p,hpk⟩:∃p,ph[k]=p:=⟨_,rfl⟩
     have hk0:k<(Qah q b).phis.length:=by omega
     have hp0:(Qah q b).phis[k]=p:=by
      rw[←hpk]
      subst hphe
      exact (Qa1i hk0 hlt2).symm
     have hpm:p∈(Qah q b).phis:=by rw[←hp0];exact List.getElem_mem hk0
     have hstp:=hstlb p hpm
     obtain⟨NA,hNA⟩:∃NA,spA q b p.args=NA:=⟨_,rfl⟩
     have hNAe:NA=news.map fun w=>p.args.getD (olds.idxOf ((org (gnx q) q.blocks.length w.toNat:Nat):Int)) 0:=by rw[←hNA,spA,←hNo,hnw,hol]
     have hNl:NA.length=news.length:=by rw[hNAe,List.length_map]
     have hpal:p.args.length=olds.length:=by rw[←hol];exact hyo.pal p hpm
     have hptk:(Qw ph).take ph.length=Qw ph:=List.take_of_length_le (by rw[Qv];omega)
     have hpg:(Qw ph).getD k []=[.int .i64 p.to,.sl false 1 (Qb p.args)]:=by rw[Qay _ _ hlt2,hpk];rfl
     have hbph:q.blocks[b].phis=(Qah q b).phis:=by rw[hbe]
     have hcg:(Qw q.blocks[b].phis).getD k []=[.int .i64 p.to,.sl false 1 (Qb p.args)]:=by rw[hbph,Qay _ _ hk0,hp0];rfl
     have hck:k<q.blocks[b].phis.length:=by rw[hbph];exact hk0
     refine Qi ?_
     try simp only[go_sem]
     refine Qh (Qg ?_)
     refine Qa ?_
     simp only[go_sem]
     refine Q6 ?_
     refine Qa ?_
     simp only[go_sem]
     refine Qh (Qg (Qy (fun m e1 H1=>∃(j:Nat) (av:List Int) (t:C) (Lg:List (Nat×Obj)),m=news.length-j∧j≤news.length∧av=NA.take j∧Gr Lg 1 (Qb av) t∧
      Kn H0 H1 [] (([(x2,X2),(x3,X3),(zb,.vec 5 RW)]++R++[(z,.vec 2 (Qw ph))])++Lg)∧
      lk 1 e1=.c (.pp [.int .i64 q.params,.int .i64 q.regs,.sl fl 5 (Qr q.blocks)])∧lk 2 e1=.c (.ptr x2 0)∧lk 3 e1=.c (.ptr x3 0)∧lk 7 e1=.c (.int .i64 b)∧lk 8 e1=.c (.sl false 1 (Qb olds))∧lk 9 e1=.c (.sl false 1 (Qb news))∧lk 10 e1=.c (.int .i64 k)∧
      lk 11 e1=.c t∧lk 12 e1=.c (.int .i64 j)) news.length ?_ ?_))
     ·exact⟨0,[],_,[],by omega,by omega,by simp,.nil 1,by simpa using kn,rfl,rfl,rfl,rfl,rfl,rfl,rfl,rfl,rfl⟩
     ·clear kn hx3 hzb l1 l2 l3 l7 l8 l9 l10
      rintro m3 e3 H5 ⟨j,av,t,Lg,hm3,hj,hav,hgt,kn,l1,l2,l3,l7,l8,l9,l10,l11,l12⟩
      have htw:=hgt.isOw
      have hasl:av.length=j:=by rw[hav,List.length_take];omega
      refine Q6 ?_
      refine Qa ?_
      simp only[go_sem,l1,l2,l3,l7,l8,l9,l10,l11,l12,htw,Qc]
      try intro _
      refine Qh (Qe rfl ?_ ?_)
      ·intro hc3
       have hlt3:j<news.length:=by simpa using hc3
       have hnm:news[j]∈Q1 (spX (gnx q) q.blocks.length) (b:Int) N:=by rw[hnw];exact List.getElem_mem hlt3
       obtain⟨w,hwN,hwm,hwe⟩:=preds_mem.1 hnm
       obtain⟨hon,hom⟩:=Qbh4 F hlt hwm
       have hgd3:news.getD j 0=(w:Int):=by rw[←hwe];simp[List.getD_eq_getElem?_getD,hlt3]
       obtain⟨og,hog⟩:∃o,org (gnx q) q.blocks.length w=o:=⟨_,rfl⟩
       have hmo:(og:Int)∈olds:=by rw[←hol,←hog];exact preds_mem.2 ⟨_,hon,hom,rfl⟩
       rw[hog]at hon hom
       have hNj:j<NA.length:=by omega
       have hNv:NA[j]=p.args.getD (olds.idxOf (og:Int)) 0:=by
        subst hNAe
        rw[List.getElem_map,hwe,Int.toNat_natCast,hog]
       refine Qi ?_
       try simp only[go_sem]
       refine Qh (Qg ?_)
       refine Qa ?_
       simp only[go_sem,l9,l12,hlt3,Qc,Qm _ _ hlt3,hgd3,htw]
       refine Q6 ?_
       refine Qa ?_
       simp only[go_sem,Qq,htw]
       try intro _
       refine Qw6 (fun e1 H1=>Kn H0 H1 [] (([(x2,X2),(x3,X3),(zb,.vec 5 RW)]++R++[(z,.vec 2 (Qw ph))])++Lg)∧
        lk 1 e1=.c (.pp [.int .i64 q.params,.int .i64 q.regs,.sl fl 5 (Qr q.blocks)])∧lk 2 e1=.c (.ptr x2 0)∧lk 3 e1=.c (.ptr x3 0)∧lk 7 e1=.c (.int .i64 b)∧lk 8 e1=.c (.sl false 1 (Qb olds))∧lk 9 e1=.c (.sl false 1 (Qb news))∧lk 10 e1=.c (.int .i64 k)∧
        lk 11 e1=.c t∧lk 12 e1=.c (.int .i64 j)∧lk 13 e1=.c (.int .i64 og)) ?_ ?_
       ·intro Q2 hnr _ _
        refine Qe rfl ?_ ?_
        ·intro hc4
         have hge:q.blocks.length≤w:=by simpa using hc4
         have hwl:w-q.blocks.length<(Qbx (gnx q) q.blocks.length q.blocks.length).length:=by
          have:(nwL q).length=(Qbx (gnx q) q.blocks.length q.blocks.length).length:=rfl
          omega
         obtain⟨ev,hev⟩:∃ev,(Qbx (gnx q) q.blocks.length q.blocks.length)[w-q.blocks.length]? = some ev:=⟨_,List.getElem?_eq_getElem hwl⟩
         have hpn:=Qa80 F hev
         have hww:q.blocks.length+(w-q.blocks.length)=w:=by omega
         have hoe:og=ev.1:=by rw[←hog,org,if_neg (by omega),hev]
         rw[hww,←hNo,←hoe]at hpn
         have hx3:=kn.l 1 rfl
         rw[hX3]at hx3
         have hzb:=kn.l 2 rfl
         refine Qt ?_
         simp only[go_sem,hx3,htw]
         refine Qj5 (nx:=spX (gnx q) q.blocks.length) (vslc hzb hRWl.symm) rfl hRWx fun H6 hu=>?_
         have kn:=kn.call0 hu
         rw[hRWl,hpn]
         have hi1:Qb [(og:Int)]=[[.int .i64 og]]:=rfl
         rw[hi1]
         simp only[go_sem,Qwm,List.getD_cons_zero,htw]
         exact⟨Int.le_refl 0,hnr _ _ ⟨kn,rfl,rfl,rfl,rfl,rfl,rfl,rfl,rfl,rfl,rfl⟩⟩
        ·intro hc4
         have hlt4:w<q.blocks.length:=by simpa using hc4
         have hoe:og=w:=by rw[←hog];exact Qbh5 hlt4
         refine Qi ?_
         try simp only[go_sem]
         rw[←hoe]
         exact hnr _ _ ⟨kn,rfl,rfl,rfl,rfl,rfl,rfl,rfl,rfl,rfl,rfl⟩
       ·rintro e4 H6 ⟨kn,l1,l2,l3,l7,l8,l9,l10,l11,l12,l13⟩
        refine Qbf ?_
        simp only[go_sem,l1,l2,l3,l7,l8,l9,l10,l11,l12,l13,hlt,hck,Qq,Qan _ _ hlt,BlkD.cells,Qv,hcg,htw]
        refine Qbhk (ns:=olds) (.mk' _ _ _ _) rfl fun r hr=>?_
        obtain⟨a,ha⟩:∃a,olds.idxOf (og:Int)=a:=⟨_,rfl⟩
        have ra:r=(a:Int):=by rw[←ha];exact hr.idx hmo
        have hal:a<olds.length:=by rw[←ha];exact List.idxOf_lt_length_of_mem hmo
        rw[ha]at hNv
        have hal2:a<p.args.length:=by omega
        simp only[go_sem,l1,l2,l3,l7,l8,l9,l10,l11,l12,l13,Qwo,ra,hlt,hck,Qq,Qan _ _ hlt,BlkD.cells,Qv,hcg,hal2,Qc,Qm _ _ hal2,htw]
        refine kn.growR (new:=Qb [p.args.getD a 0]) hgt (.mk' _ _ _ _) (Qo _) (by simp only[Qc,LIM,List.length_cons,List.length_nil];omega) fun t2 Lg2 H7 hgt2 ht2 kn=>?_
        simp only[go_sem,l1,l2,l3,l7,l8,l9,l10,l11,l12,l13,Qwn,ht2]
        refine Qt ?_
        simp only[go_sem,ht2]
        refine⟨Qs (by omega) (by omega),?_⟩
        show ∃m,_
        refine⟨news.length-(j+1),by omega,j+1,av++[p.args.getD a 0],t2,Lg2,rfl,by omega,by rw[hav,List.take_succ_eq_append_getElem hNj,hNv],by rw[Qa2];exact hgt2,kn,rfl,rfl,rfl,rfl,rfl,rfl,rfl,rfl,by simp[lk]⟩
      ·intro hc3
       have hje:j=news.length:=by have:news.length≤j:=(by simpa using hc3);omega
       have hav:av=NA:=by rw[hav,List.take_of_length_le (by omega)]
       subst hav
       have hset0:=Qalw (f:=stlP (spX (gnx q) q.blocks.length) N (spG q) b) hk0
       rw[hp0,hstp,spP,hNA]at hset0
       refine Q0 ?_
       simp only[go_sem,X.next]
       obtain⟨S,hSL,hSB,hfz,kn⟩:=kn.freeze0
       have hft:FrzC H5 S t (.sl false 1 (Qb av)):=Gr.frzM hgt hSL (FrzR.same (Qo _))
       refine c_gh (Qdg S (Q0r ?_) hfz) (e':=[(1,.c (.pp [.int .i64 q.params,.int .i64 q.regs,.sl fl 5 (Qr q.blocks)])),(2,.c (.ptr x2 0)),(3,.c (.ptr x3 0)),(7,.c (.int .i64 b)),(8,.c (.sl false 1 (Qb olds))),(9,.c (.sl false 1 (Qb news))),(10,.c (.int .i64 k)),(11,.c (.sl false 1 (Qb av)))]) ?_
       ·simp only[List.forall_mem_cons,l1,l2,l3,l7,l8,l9,l10,l11]
        exact⟨.c _ _ (.same _ rfl),.c _ _ (.same _ rfl),.c _ _ (.same _ rfl),.c _ _ (.same _ rfl),.c _ _ (.same _ rfl),.c _ _ (.same _ rfl),.c _ _ (.same _ rfl),.c _ _ hft,by simp⟩
       generalize H5.frz S=H6 at *
       have hx3:=kn.l 1 rfl
       rw[hX3]at hx3
       have hzb:=kn.l 2 rfl
       have hz:H6 z=.vec 2 (Qw ph):=(kn.get (z,.vec 2 (Qw ph)) (by simp)).1
       have hset:(Qw ph).set k [.int .i64 p.to,.sl false 1 (Qb av)]=Qw (ph.set k ⟨p.to,av⟩):=Qa3v ph k ⟨p.to,av⟩
       refine Qt ?_
       simp only[go_sem,hx3,hzb,hz,hRWl,hRWt,hRWg,hbN,hlt2,hptk,hpg,hset,Qv,Nat.zero_add,Nat.le_refl]
       intro H7 h7
       have kn:Kn H0 H7 [] (([(x2,X2),(x3,X3),(zb,.vec 5 RW)]++R)++[(z,.vec 2 (Qw (ph.set k ⟨p.to,av⟩)))]):=by
        have:=kn.stL ([(x2,X2),(x3,X3),(zb,Obj.vec 5 RW)]++R).length (x:=z) (o:=.vec 2 (Qw ph)) (by simp) h7
        simpa using this
       refine Qt ?_
       simp only[go_sem]
       refine⟨Qs (by omega) (by omega),?_⟩
       show ∃m,_
       refine⟨ph.length-(k+1),by omega,k+1,ph.set k ⟨p.to,av⟩,_,by rw[List.length_set],by rw[List.length_set];omega,by rw[hphe];exact hset0,?_,kn,rfl,rfl,rfl,rfl,rfl,rfl,by simp[lk]⟩
       rw[hpc];exact .mk _ _ _ (by rw[Qv,List.length_set])
    ·intro hc2
     have hge:ph.length≤k:=by simpa using hc2
     refine Q0 ?_
     simp only[go_sem,X.next]
     refine Qt ?_
     simp only[go_sem,l1,l2,l3,l7]
     refine⟨Qs (by omega) (by omega),?_⟩
     show ∃m,_
     have hpe:ph=(spY q b).phis.map (stlP (spX (gnx q) q.blocks.length) N (spG q) b):=by rw[hphe,Q8y _ _ (by omega),hYph]
     have hst:=hS.step hkb (ph:=ph) (pl:=pl) hpe (by rw[hkbe];exact hgr)
     have hrw:=PkS.rows (ks:=ks) (ph:=ph) (pl:=pl) hkb
     have hs2:=Qbn (f:=KBlk.pl) (l:=ks.set b ⟨⟨ph,ks[b].y.ins,ks[b].y.jump,ks[b].y.on,ks[b].y.next⟩,ks[b].pc,pl⟩) (i:=b) (by rw[List.length_set];exact hkb)
     rw[List.getElem_set_self,List.eraseIdx_set_eq,hR]at hs2
     generalize ks.set b ⟨⟨ph,ks[b].y.ins,ks[b].y.jump,ks[b].y.on,ks[b].y.next⟩,ks[b].pc,pl⟩=ks' at *
     have kn:Kn H0 H4 [] ([(x2,X2),(x3,X3)]++([(zb,.vec 5 (ks'.map KBlk.row))]++ks'.flatMap KBlk.pl)):=by
      rw[hrw,hRW]
      refine kn.perm (Qj fun f hf h0 hc hp=>?_)
      have:=hp _ _ hs2
      have e3:∀(a b c:Nat×Obj),f [a,b,c]=f [a,b]+f [c]:=fun a b c=>by rw[hc a [b,c],hc a [b],hc b [c]];omega
      simp only[hf,e3]at this⊢;omega
     exact⟨q.blocks.length-(b+1),by omega,b+1,ks',rfl,by omega,hst,kn,rfl,rfl,rfl,by simp[lk]⟩
  ·intro hc
   have hie:b=q.blocks.length:=by have:q.blocks.length≤b:=(by simpa using hc);omega
   subst hie
   refine Q0 ?_
   simp only[go_sem,X.next]
   exact hQ _ _ ks hS kn rfl rfl
end Go.AE.Y

namespace Go.AE.Y
attribute [local go_sem] cond_true cond_false Bool.not_true Bool.not_false
open Go.Proofs.Tryz
variable {H H0:Heap}{K:V→Heap→Prop}{q:CodeD}
theorem Qba8 {nx:Nat→List Int}{N:Nat}{g:Nat→PhiD→Int→Int}{j:Nat}{y:BlkD}(h:y.phis=[]):stlY nx N g j y=y:=by
 rw[stlY,h];cases y;simp only at h;subst h;rfl
theorem Qbip {ks:List KBlk}(ho:q.ok)(h:StS (spX (gnx q) q.blocks.length) (spD q).blocks.length (spG q) (spY q) q.blocks.length ks):ks.map KBlk.y=(spD q).blocks:=by
 refine List.ext_getElem (by rw[List.length_map,h.n]) fun j h1 h2=>?_
 have hj:j<ks.length:=by simpa using h1
 rw[List.getElem_map,h.y j hj,←Qbaz ho h2]
 split
 ·rfl
 ·rename_i hn
  rw[Qba8]
  rw[Q7u,if_neg hn]
set_option maxHeartbeats 4000000 in
theorem Qa3e (ho:q.ok)(hK:∀H',Upd H H' []→K (.ag (spD q).cells) H') :
  Qp prog Qxd [.ag [.int .i64 q.params,.int .i64 q.regs,.sl false 5 (Qr q.blocks)]] H K:=by
 refine Qz ?_
 refine Qd Qak Qa3l ?_
 refine Qa ?_
 simp only[go_sem]
 intro x2 hx2 H1 h1
 have kn:=(Kn.start0 H).al hx2 h1
 refine Qa ?_
 simp only[go_sem]
 refine Qa1c ho.sg fun o H2 k2 hok hod _=>?_
 have kn:=kn.comp0 k2
 have hbw:=hok.b.isOw
 have hop:o.params=q.params:=congrArg CodeD.params hod
 have hor:o.regs=q.regs:=congrArg CodeD.regs hod
 have hob:o.blocks.map OBlk.d=q.blocks:=congrArg CodeD.blocks hod
 have hol:o.blocks.length=q.blocks.length:=by rw[←hob,List.length_map]
 simp only[go_sem,Qzs,OCode.row,hop,hor,hbw]
 intro x3 hx3 H3 h3
 have kn:Kn H H3 [] ([(x3,.st [.int .i64 0,.int .i64 0,.sl true 5 []])]++([(x2,.st [.int .i64 0,.int .i64 0,.sl true 5 []])]++o.lg)):=(kn.al hx3 h3).perm List.perm_append_comm
 have hx3:=kn.l 0 rfl
 simp only[go_sem,Qzr,hx3,hbw]
 intro H4 h4
 have kn:Kn H H4 [] ([(x3,.st [.int .i64 q.params,.int .i64 q.regs,o.bc])]++([(x2,.st [.int .i64 0,.int .i64 0,.sl true 5 []])]++o.lg)):=kn.stL 0 rfl h4
 have kn:Kn H H4 [] ((spO x2 x3 q o.bc++o.blocks.flatMap OBlk.lg)++o.bl):=kn.perm (Qj fun f hf h0 hc hp=>by
  have e2:∀(a b:Nat×Obj),f [a,b]=f [a]+f [b]:=fun a b=>hc a [b]
  simp only[hf,spO,OCode.lg,e2];omega)
 have hI:RsI q 0 o.blocks:=⟨hol,fun j hj=>by
  have hjq:j<q.blocks.length:=by omega
  have e:(o.blocks.map OBlk.d)[j]'(by simpa using hj)=q.blocks[j]:=by simp only[hob]
  rw[List.getElem_map]at e
  rw[e,blkN,Qa17,Qbh hjq,Qpw hjq],hok.bs⟩
 have hgb:Gr o.bl 5 (rwO q 0 o.blocks) o.bc:=by rw[rwO];simpa using hok.b
 refine Q6 ?_
 refine Qa ?_
 simp only[go_sem]
 refine Qh ?_
 refine Qa32 ho hI hgb kn rfl rfl rfl rfl fun e5 H5 os bc bl hI hgb kn l1 l2 l3=>?_
 obtain⟨S,H6,ks,zb,hfz,hkl,hky,hko,kn⟩:=Qa33 ho hI hgb kn
 simp only[go_sem]
 refine Q6 ?_
 refine Q6 ?_
 refine c_gh (Qdg S (Q0r ?_) hfz) (e':=[(1,.c (.pp [.int .i64 q.params,.int .i64 q.regs,.sl false 5 (Qr q.blocks)])),(2,.c (.ptr x2 0)),(3,.c (.ptr x3 0))]) ?_
 ·simp only[List.forall_mem_cons,l1,l2,l3]
  exact⟨.c _ _ (.same _ rfl),.c _ _ (.same _ rfl),.c _ _ (.same _ rfl),by simp⟩
 clear hfz hgb hI
 refine Qa ?_
 simp only[go_sem]
 refine Qh ?_
 refine Qavy ho ⟨hkl,fun j h=>by rw[if_neg (Nat.not_lt_zero j)];exact hky j h,hko⟩ kn rfl rfl rfl rfl fun e7 H7 ks2 hS kn l2 l3=>?_
 have hyb:=Qbip ho hS
 have hkl2:=hS.n
 have hko2:=hS.ok
 simp only[go_sem]
 have kn:Kn H H7 [] ([(x2,.st [.int .i64 0,.int .i64 0,.sl true 5 []]),(x3,.st [.int .i64 q.params,.int .i64 q.regs,.vsl zb 5 0 (spD q).blocks.length])]++([(zb,.vec 5 (ks2.map KBlk.row))]++ks2.flatMap KBlk.pl)):=kn
 have hx3:=kn.l 1 rfl
 have hx2:=kn.l 0 rfl
 refine Qa ?_
 simp only[go_sem,l2,l3,hx2,hx3]
 intro H8 h8
 have kn:Kn H H8 [] ([(x2,.st [.int .i64 q.params,.int .i64 q.regs,.vsl zb 5 0 (spD q).blocks.length]),(x3,.st [.int .i64 q.params,.int .i64 q.regs,.vsl zb 5 0 (spD q).blocks.length])]++([(zb,.vec 5 (ks2.map KBlk.row))]++ks2.flatMap KBlk.pl)):=kn.stL 0 rfl h8
 have hx2:=kn.l 0 rfl
 have hz:=kn.l 2 rfl
 refine Qk ?_
 simp only[go_sem,Q3,Q9,Qakc,List.mem_singleton,forall_eq,RS.op,hx2]
 have hmem:∀k∈ks2,∀p∈k.pl,H8 p.1=p.2∧un H p.1=true:=fun k hk p hp=>
  ⟨(kn.get p (List.mem_append_right _ (List.mem_append_right _ (List.mem_append_right _ (List.mem_flatMap.2 ⟨k,hk,hp⟩))))).1,Qh4 (kn.loc p (List.mem_append_right _ (List.mem_append_right _ (List.mem_flatMap.2 ⟨k,hk,hp⟩))))⟩
 have hrows:FrzR H8 (un H) (ks2.map KBlk.row) (Qr (spD q).blocks):=by
  rw[←hyb,Qr,List.map_map]
  refine Qgj ks2 fun k hk=>?_
  exact .cons (Gr.frzM (hko2 k hk) (hmem k hk) (FrzR.same (Ql0 _))) (.cons (Qf rfl) (.cons (Qf rfl) (.cons (Qf rfl) (.cons (Qf rfl) .nil))))
 have hfr:=FrzR.vsl (kn.un 2 rfl) hz (by rw[List.length_map,hkl2]) hrows
 exact⟨_,FrzL.ag (.cons (Qf rfl) (.cons (Qf rfl) (.cons hfr .nil))),hK _ kn.fin⟩
theorem Qa3f (hq:q.ok)(hK:∀H',Upd H H' []→K (.ag (spD q).cells) H') :
  Qp prog Quc [.ag [.int .i64 q.params,.int .i64 q.regs,.sl false 5 (Qr q.blocks)],.c (.str [115,112,108,105,116])] H K:=by
 refine Qz ?_
 refine Qd Qak Qa8a ?_
 refine Qa ?_
 simp only[go_sem]
 intro x4 hx4 H1 h1
 have kn:=(Kn.start0 H).al hx4 h1
 refine Q6 ?_
 refine Qa ?_
 simp only[go_sem]
 refine Qh (Qg ?_)
 refine Qa ?_
 simp only[go_sem]
 refine Qe rfl (fun hc=>absurd hc (by decide)) (fun _=>?_)
 refine Qa ?_
 simp only[go_sem]
 refine Qe rfl (fun hc=>absurd hc (by decide)) (fun _=>?_)
 refine Qa ?_
 simp only[go_sem]
 refine Qe rfl (fun _=>?_) (fun hc=>absurd hc (by decide))
 refine Qa ?_
 simp only[go_sem]
 refine Qa3e hq fun H2 hu=>?_
 have kn:=kn.call0 hu
 have hx4:=kn.l 0 rfl
 simp only[go_sem,Q3o,CodeD.cells,hx4]
 intro H3 h3
 have kn:=kn.stL 0 rfl h3
 have hx4:=kn.l 0 rfl
 refine Qk ?_
 simp only[go_sem,X.next,Q3,Q9,Qaqd,List.mem_singleton,forall_eq,RS.op,hx4]
 exact⟨_,FrzL.ag (.cons (.same _ rfl) (.cons (.same _ rfl) (.cons (.same _ rfl) .nil))),hK _ kn.fin⟩
end Go.AE.Y

namespace Go.AE.Y
attribute [local go_sem] cond_true cond_false Bool.not_true Bool.not_false
open Go.Proofs.Tryz
variable {H H0:Heap}{K:V→Heap→Prop}{E L:List (Nat×Obj)}{q:CodeD}
theorem Qa8r {nx:Nat→List Int}{n b i:Nat}(hb:b<n)(hi:i<(shL nx n b).length):(Qbx nx n n)[(Qbx nx n b).length+i]? = some (b,(shL nx n b)[i]):=Qalx hi hb
theorem Qbff (ho:q.ok){ks:List NBlk}{ss:List PSl}(hky:ks.map NBlk.y=q.blocks)(hko:∀k∈ks,k.ok)(hsl:ss.length=q.blocks.length)(hs:PInv (phT q q.blocks.length) ss):SpI q 0 ks ss:=by
 have hl:ks.length=q.blocks.length:=by rw[←hky,List.length_map]
 refine⟨hl,fun j h=>?_,hko,hsl,⟨fun r hr=>?_,hs.ok⟩⟩
 ·have hj:j<q.blocks.length:=by omega
  have e:ks[j].y=q.blocks[j]:=by simp only[←hky,List.getElem_map]
  rw[e,blkN,Qa17,Qpw hj,Qbh hj]
 ·rw[hs.f r hr,phT,mpF];rfl
set_option maxHeartbeats 8000000 in
theorem Qa0l {fl:Bool}(ho:q.ok)(hK:∀H',Upd H H' []→K (.ag (spD q).cells) H') :
  Qp prog Qg9 [.ag [.int .i64 q.params,.int .i64 q.regs,.sl fl 5 (Qr q.blocks)]] H K:=by
 have F:=ho.spF
 have hb1:=ho.b1
 have hnl:(nwL q).length≤2 * q.blocks.length:=Q0z F (Nat.le_refl _)
 refine Qz ?_
 refine Qd Qak Qafs ?_
 refine Qa ?_
 simp only[go_sem]
 intro x2 hx2 H1 h1
 have kn:=(Kn.start0 H).al hx2 h1
 refine Qa ?_
 simp only[go_sem]
 refine Qao3 (by omega) ho.cl fun ks bc bl H2 hky hko hgb k2=>?_
 have kn:=kn.comp0 k2
 have hbw:=hgb.isOw
 simp only[go_sem,Qk3,hbw]
 intro x3 hx3 H3 h3
 have kn:Kn H H3 [] ([(x3,.st [.int .i64 0,.int .i64 0,.sl true 5 []])]++([(x2,.st [.int .i64 0,.int .i64 0,.sl true 5 []])]++(ks.flatMap NBlk.lg++bl))):=(kn.al hx3 h3).perm List.perm_append_comm
 have hx3:=kn.l 0 rfl
 simp only[go_sem,Qk2,hx3,hbw]
 intro H4 h4
 have kn:Kn H H4 [] ([(x3,.st [.int .i64 q.params,.int .i64 q.regs,bc])]++([(x2,.st [.int .i64 0,.int .i64 0,.sl true 5 []])]++(ks.flatMap NBlk.lg++bl))):=kn.stL 0 rfl h4
 refine Qa ?_
 simp only[go_sem]
 refine Qbd3 ho fun o ss H5 hsl hss k3=>?_
 have kn:=kn.comp0 k3
 have hI0:=Qbff ho hky hko hsl hss
 have hgb0:Gr bl 5 (rwN q 0 ks) bc:=by rw[rwN];simpa using hgb
 have hgg0:Gr [(o,.vec 1 (ss.map PSl.row))] 1 (ss.map PSl.row) (.vsl o 1 0 q.blocks.length):=.mk _ _ _ (by rw[List.length_map,hsl])
 have kn:Kn H H5 [] ((spO x2 x3 q bc++(ks.flatMap NBlk.lg++psL ss))++(bl++[(o,.vec 1 (ss.map PSl.row))])):=kn.perm (Qj fun f hf h0 hc hp=>by
  have e2:∀(a b:Nat×Obj),f [a,b]=f [a]+f [b]:=fun a b=>hc a [b]
  simp only[hf,spO,e2];omega)
 simp only[go_sem,Qk4]
 refine Q6 ?_
 refine Qa ?_
 simp only[go_sem,Qq]
 try intro _
 refine Qh (Qg (Qy (fun m e1 H1=>∃(b:Nat) (ks:List NBlk) (ss:List PSl) (bc gc:C) (bl gl:List (Nat×Obj)),m=q.blocks.length-b∧b≤q.blocks.length∧SpI q (Qbx (gnx q) q.blocks.length b).length ks ss∧Gr bl 5 (rwN q (Qbx (gnx q) q.blocks.length b).length ks) bc∧Gr gl 1 (ss.map PSl.row) gc∧
  Kn H H1 [] ((spO x2 x3 q bc++(ks.flatMap NBlk.lg++psL ss))++(bl++gl))∧
  lk 1 e1=.c (.pp [.int .i64 q.params,.int .i64 q.regs,.sl fl 5 (Qr q.blocks)])∧lk 2 e1=.c (.ptr x2 0)∧lk 3 e1=.c (.ptr x3 0)∧lk 4 e1=.c gc∧lk 19 e1=.c (.int .i64 q.blocks.length)∧lk 20 e1=.c (.int .i64 b)) q.blocks.length ?_ ?_))
 ·exact⟨0,ks,ss,bc,_,bl,_,by omega,by omega,hI0,hgb0,hgg0,kn,rfl,rfl,rfl,rfl,rfl,rfl⟩
 ·clear kn hI0 hgb0 hgg0 hx3 hgb hbw
  rintro m e1 H6 ⟨b,ks,ss,bc,gc,bl,gl,hm,hb,hI,hgb,hgg,kn,l1,l2,l3,l4,l19,l20⟩
  have hgw:=hgg.isOw
  refine Qa ?_
  simp only[go_sem,l1,l2,l3,l4,l19,l20,hgw]
  refine Qh (Qe rfl ?_ ?_)
  ·intro hc
   have hlt:b<q.blocks.length:=by simpa using hc
   obtain⟨Ls,hLs⟩:∃Ls,shL (gnx q) q.blocks.length b=Ls:=⟨_,rfl⟩
   have hLl:Ls.length≤2:=by rw[←hLs,shL];exact Nat.le_trans (List.length_filter_le _ _) (F.len b hlt)
   have hsucc:(Qbx (gnx q) q.blocks.length (b+1)).length=(Qbx (gnx q) q.blocks.length b).length+Ls.length:=by rw[Qp0,List.length_append,List.length_map,hLs]
   obtain⟨s,hs⟩:∃s,(Qbx (gnx q) q.blocks.length b).length=s:=⟨_,rfl⟩
   rw[hs]at hI hgb hsucc
   refine Qi ?_
   try simp only[go_sem]
   refine Qh (Qg ?_)
   refine Qa ?_
   simp only[go_sem,l1,l2,l3,l4,l19,l20,hgw]
   refine Qa ?_
   simp only[go_sem,hgw]
   refine Qa0h ho hlt fun fls H7 hu=>?_
   have kn:=kn.call0 hu
   rw[hLs]
   simp only[go_sem,Qk5,Qc,hgw]
   try intro _
   refine Qg (Qy (fun m e1 H1=>∃(i:Nat) (ks:List NBlk) (ss:List PSl) (bc gc:C) (bl gl:List (Nat×Obj)),m=Ls.length-i∧i≤Ls.length∧SpI q (s+i) ks ss∧Gr bl 5 (rwN q (s+i) ks) bc∧Gr gl 1 (ss.map PSl.row) gc∧
    Kn H H1 [] ((spO x2 x3 q bc++(ks.flatMap NBlk.lg++psL ss))++(bl++gl))∧
    lk 1 e1=.c (.pp [.int .i64 q.params,.int .i64 q.regs,.sl fl 5 (Qr q.blocks)])∧lk 2 e1=.c (.ptr x2 0)∧lk 3 e1=.c (.ptr x3 0)∧lk 4 e1=.c gc∧lk 5 e1=.c (.int .i64 b)∧lk 19 e1=.c (.int .i64 q.blocks.length)∧lk 20 e1=.c (.int .i64 b)∧
    lk 25 e1=.c (.sl fls 1 (Qb Ls))∧lk 26 e1=.c (.int .i64 Ls.length)∧lk 27 e1=.c (.int .i64 i)) Ls.length ?_ ?_)
   ·exact⟨0,ks,ss,bc,gc,bl,gl,by omega,by omega,hI,hgb,hgg,kn,rfl,rfl,rfl,rfl,rfl,rfl,rfl,rfl,rfl,rfl⟩
   ·clear kn hI hgb hgg hgw l1 l2 l3 l4 l19 l20
    rintro m2 e2 H8 ⟨i,ks,ss,bc,gc,bl,gl,hm2,hi,hI,hgb,hgg,kn,l1,l2,l3,l4,l5,l19,l20,l25,l26,l27⟩
    have hgw:=hgg.isOw
    refine Qa ?_
    simp only[go_sem,l1,l2,l3,l4,l5,l19,l20,l25,l26,l27,hgw]
    refine Qh (Qe rfl ?_ ?_)
    ·intro hc2
     have hlt2:i<Ls.length:=by simpa using hc2
     obtain⟨v,hv⟩:∃v,Ls[i]=v:=⟨_,rfl⟩
     have hgd:Ls.getD i 0=v:=by simp[List.getD_eq_getElem?_getD,hlt2,hv]
     have he:(nwL q)[s+i]? = some (b,v):=by
      have:=Qa8r (nx:=gnx q) (i:=i) hlt (by rw[hLs];exact hlt2)
      rw[hs]at this
      subst hLs
      rw[hv]at this
      exact this
     refine Qi ?_
     try simp only[go_sem]
     refine Qh (Qg ?_)
     refine Qa ?_
     simp only[go_sem,l1,l2,l3,l4,l5,l19,l20,l25,l26,l27,hgw,hlt2,Qc,Qm _ _ hlt2,hgd]
     refine Qba2 ho he hI hgb hgg kn rfl rfl rfl rfl rfl rfl rfl rfl rfl rfl rfl fun e3 H9 ks ss bc gc bl gl hI hgb hgg kn l1 l2 l3 l4 l5 l19 l20 l25 l26 l27=>?_
     have hgw:=hgg.isOw
     refine Qt ?_
     simp only[go_sem,l1,l2,l3,l4,l5,l19,l20,l25,l26,l27,hgw]
     refine⟨Qs (by omega) (by omega),?_⟩
     show ∃m,_
     exact⟨Ls.length-(i+1),by omega,i+1,ks,ss,bc,gc,bl,gl,rfl,by omega,hI,hgb,hgg,kn,rfl,rfl,rfl,rfl,rfl,rfl,rfl,rfl,rfl,rfl⟩
    ·intro hc2
     have hie:i=Ls.length:=by have:Ls.length≤i:=(by simpa using hc2);omega
     subst hie
     rw[←hsucc]at hI hgb
     refine Q0 ?_
     simp only[go_sem,X.next]
     refine Qt ?_
     simp only[go_sem,l1,l2,l3,l4,l19,l20,hgw]
     refine⟨Qs (by omega) (by omega),?_⟩
     show ∃m,_
     exact⟨q.blocks.length-(b+1),by omega,b+1,ks,ss,bc,gc,bl,gl,rfl,by omega,hI,hgb,hgg,kn,rfl,rfl,rfl,rfl,rfl,rfl⟩
  ·intro hc
   have hbe:b=q.blocks.length:=by have:q.blocks.length≤b:=(by simpa using hc);omega
   subst hbe
   refine Q0 ?_
   simp only[go_sem,X.next]
   refine Qba1 ho hI hgb hgg kn rfl rfl rfl fun e3 H9 ks2 z hkl hky hko kn l2=>?_
   have hx2:=kn.l 0 rfl
   simp only[go_sem,Q3,Q9,Qvx,List.mem_singleton,forall_eq,RS.op,l2,hx2]
   have hmem:∀k∈ks2,∀p∈k.pl,H9 p.1=p.2∧un H p.1=true:=fun k hk p hp=>
    ⟨(kn.get p (List.mem_append_right _ (List.mem_append_right _ (List.mem_flatMap.2 ⟨k,hk,hp⟩)))).1,Qh4 (kn.loc p (List.mem_append_right _ (List.mem_flatMap.2 ⟨k,hk,hp⟩)))⟩
   have hz:=kn.l 1 rfl
   have hrows:FrzR H9 (un H) (ks2.map KBlk.row) (Qr (spD q).blocks):=by
    rw[←hky,Qr,List.map_map]
    refine Qgj ks2 fun k hk=>?_
    exact .cons (Gr.frzM (hko k hk) (hmem k hk) (FrzR.same (Ql0 _))) (.cons (Qf rfl) (.cons (Qf rfl) (.cons (Qf rfl) (.cons (Qf rfl) .nil))))
   have hfr:=FrzR.vsl (kn.un 1 rfl) hz (by rw[List.length_map,hkl]) hrows
   exact⟨_,FrzL.ag (.cons (Qf rfl) (.cons (Qf rfl) (.cons hfr .nil))),hK _ kn.fin⟩
end Go.AE.Y

namespace Go.AE.Y
attribute [local go_sem] cond_true cond_false Bool.not_true Bool.not_false
open Go.Proofs.Tryz
variable {H H0:Heap}{K:V→Heap→Prop}{q:CodeD}
def hasT (q:CodeD)(b:Nat):Bool:=(List.range b).any fun b=>(gnx q b).any (shV (gnx q) q.blocks.length b)
end Go.AE.Y

namespace Go.AE.Y
attribute [local go_sem] cond_true cond_false Bool.not_true Bool.not_false
open Go.Proofs.Tryz
variable {H H0 F:Heap}{K:V→Heap→Prop}{E L B:List (Nat×Obj)}{fl:Bool}
attribute [local instance] Classical.propDecidable
def Drc (c d:CodeD):Prop:=Idl c d
def DropOk (cs ds:List CodeD):Prop:=(Qbb cs=true∧ds.length=cs.length∧∀i (h1:i<cs.length) (h2:i<ds.length),Drc cs[i] ds[i])∨(Qbb cs=false∧ds=[])
theorem DropOk.unit {cs ds:List CodeD}(h:DropOk cs ds)(hg:Qbb cs=true):Qbb ds=true∧ds.length=cs.length∧∀i (h1:i<cs.length) (h2:i<ds.length),Idl cs[i] ds[i]:=by
 rcases h with ⟨_,hl,h⟩|⟨h,_⟩
 ·exact⟨Qbfd hg hl fun k h1 h2=>(h k h1 h2).shr,hl,h⟩
 ·rw[hg]at h;simp at h
theorem DropOk.fits {cs ds:List CodeD}(h:DropOk cs ds):∀c∈ds,c.fits:=by
 rcases h with ⟨hg,hl,h⟩|⟨_,rfl⟩
 ·intro c hc
  obtain⟨i,hi,rfl⟩:=List.mem_iff_getElem.1 hc
  exact ((h i (by omega) hi).shr.ok (Qaor hg (by omega))).fts
 ·simp
theorem DropOk.uniq {cs ds es:List CodeD}(h:DropOk cs ds)(k:DropOk cs es):ds=es:=by
 rcases h with ⟨hg,hl,h⟩|⟨hg,rfl⟩
 ·rcases k with ⟨_,kl,k⟩|⟨hf,_⟩
  ·exact List.ext_getElem (by omega) fun i h1 h2=>(h i (by omega) h1).uniq (k i (by omega) h2)
  ·rw[hg]at hf;simp at hf
 ·rcases k with ⟨hf,_⟩|⟨_,rfl⟩
  ·rw[hg]at hf;simp at hf
  ·rfl
theorem DropOk.again {cs ds:List CodeD}(h:DropOk cs ds)(hg:Qbb cs=true):DropOk ds ds:=by
 obtain⟨h1,h2,h3⟩:=h.unit hg
 exact .inl ⟨h1,rfl,fun i a b=>(h3 i (by omega) a).again⟩
end Go.AE.Y

namespace Go.AE.Y
attribute [local go_sem] cond_true cond_false Bool.not_true Bool.not_false
attribute [local instance] Classical.propDecidable
open Go.Proofs.Tryz
variable {H H0:Heap}{K:V→Heap→Prop}{fl:Bool}
theorem Qa3r {fn:Nat}{f:CodeD→CodeD}{l:List CodeD}(hl:l.length≤4)(hf:∀p∈l,∀(H:Heap) (K:V→Heap→Prop) (fl:Bool),(∀H',Upd H H' []→K (.ag (f p).cells) H')→Qp prog fn [.ag [.int .i64 p.params,.int .i64 p.regs,.sl fl 5 (Qr p.blocks)]] H K)
  (hK:∀H',Upd H H' []→K (.c (.sl false 3 (Ql (l.map f)))) H') :
  Qp prog Qca [.c (.sl fl 3 (Ql l)),.c (.fn fn [])] H K:=by
 refine Qz ?_
 refine Qd Qak Qpx ?_
 refine Qa ?_
 simp only[go_sem]
 refine Qa ?_
 simp only[go_sem]
 refine Q6 ?_
 refine Qa ?_
 simp only[go_sem,Q4]
 intro _
 refine Qh (Qg (Qy (fun m e1 H1=>∃(ds:List CodeD) (t:C) (Lg:List (Nat×Obj)),m=l.length-ds.length∧ds.length≤l.length∧(∀i (h1:i<l.length) (h2:i<ds.length),ds[i]=f l[i])∧Gr Lg 3 (Ql ds) t∧Kn H H1 [] ([]++Lg)∧
  e1=[(1,.c (.fn fn [])),(5,.c t),(8,.c (.sl fl 3 (Ql l))),(9,.c (.int .i64 l.length)),(10,.c (.int .i64 ds.length))]) l.length ?_ ?_))
 ·exact⟨[],_,[],by simp,by simp,by simp,.nil 3,Kn.start0 H,rfl⟩
 ·rintro m e1 H1 ⟨ds,t,Lg,hm,hi,hdr,hgr,kn,rfl⟩
  have htw:=hgr.isOw
  refine Qa ?_
  simp only[go_sem,htw]
  refine Qh (Qe rfl ?_ ?_)
  ·intro hc
   have hlt:ds.length<l.length:=by simpa using hc
   obtain⟨p,hp⟩:∃p,l[ds.length]=p:=⟨_,rfl⟩
   have hpm:p∈l:=by rw[←hp];exact List.getElem_mem hlt
   refine Qi ?_
   try simp only[go_sem]
   refine Qh (Qg ?_)
   refine Qa ?_
   simp only[go_sem,htw,hlt,Q4,Qaj _ _ hlt,CodeD.cells,hp]
   intro x7 hx7 H2 h2
   have kn:=kn.al hx7 h2
   have hx7:H2 x7=.st [.int .i64 0,.int .i64 0,.sl true 5 []]:=(kn.get (x7,.st [.int .i64 0,.int .i64 0,.sl true 5 []]) (by simp)).1
   simp only[go_sem,Qdk,hx7,htw]
   intro H3 h3
   have kn:Kn H H3 [] ([(x7,.st [.int .i64 p.params,.int .i64 p.regs,.sl false 5 (Qr p.blocks)])]++Lg):=by
    have:=kn.stL ([]++Lg).length (x:=x7) (o:=.st [.int .i64 0,.int .i64 0,.sl true 5 []]) (by simp) h3
    refine Kn.perm (by simpa using this) ?_
    exact List.perm_append_comm
   have hx7:=kn.l 0 rfl
   refine Qt ?_
   simp only[go_sem,htw,hx7,List.append_nil,List.map_nil]
   refine hf p hpm _ _ _ fun H4 hu=>?_
   obtain⟨d,hd⟩:∃d,f p=d:=⟨_,rfl⟩
   rw[hd]
   have kn:=kn.call0 hu
   simp only[go_sem,Qdm,htw,CodeD.cells]
   refine kn.growR (new:=Ql [d]) hgr (.mk' _ _ _ _) (Qa4 _) (by simp only[Q4,LIM,List.length_cons,List.length_nil];omega) fun t2 Lg2 H5 hgr2 ht2 kn=>?_
   simp only[go_sem,Qdl,ht2]
   refine Qt ?_
   simp only[go_sem,X.next,ht2]
   refine⟨Qs (by omega) (by omega),l.length-(ds.length+1),by omega,ds++[d],t2,Lg2,by simp,by simp;omega,fun i h1 h2=>?_,?_,?_,by simp⟩
   ·by_cases hi:i<ds.length
    ·rw[List.getElem_append_left hi];exact hdr i h1 hi
    ·have hie:i=ds.length:=by simp only[List.length_append,List.length_cons,List.length_nil]at h2;omega
     subst hie
     rw[hp]
     have:(ds++[d])[ds.length]=d:=by simp
     rw[this]
     exact hd.symm
   ·have:Ql (ds++[d])=Ql ds++Ql [d]:=by simp[Ql]
    rw[this];exact hgr2
   ·exact Kn.drop (B:=[(x7,.st [.int .i64 p.params,.int .i64 p.regs,.sl false 5 (Qr p.blocks)])]) (kn.perm List.perm_append_comm)
  ·intro hc
   have hge:ds.length=l.length:=by have:l.length≤ds.length:=(by simpa using hc);omega
   refine Q0 ?_
   simp only[go_sem,X.next]
   refine Qa ?_
   simp only[go_sem,htw]
   refine Qk ?_
   simp only[go_sem,Q3,Q9,Qfd,List.mem_singleton,forall_eq,RS.op,htw]
   have hde:ds=l.map f:=List.ext_getElem (by rw[List.length_map,hge]) fun i h1 h2=>by rw[List.getElem_map];exact hdr i (by omega) h1
   have hfin:=hK _ kn.fin
   rw[←hde]at hfin
   exact⟨_,.c _ _ (hgr.frz kn (Qa4 _)),hfin⟩
noncomputable def perL (f:CodeD→CodeD)(cs:List CodeD):List CodeD:=if Qbb cs=true then cs.map f else []
theorem Qa3u {fn:Nat}{f:CodeD→CodeD}{cs:List CodeD}(hfit:∀c∈cs,c.fits)(hf:Qbb cs=true→∀p∈cs,∀(H:Heap) (K:V→Heap→Prop) (fl:Bool),(∀H',Upd H H' []→K (.ag (f p).cells) H')→Qp prog fn [.ag [.int .i64 p.params,.int .i64 p.regs,.sl fl 5 (Qr p.blocks)]] H K)
  (hK:∀H',Upd H H' []→K (.tup [.ag [.sl false 3 (Ql (perL f cs))],.c (.bool (Qbb cs))]) H') :
  Qp prog Qll [.ag [.sl fl 3 (Ql cs)],.c (.fn fn [])] H K:=by
 refine Qz ?_
 refine Qd Qak Qapo ?_
 refine Qa ?_
 simp only[go_sem]
 intro x4 hx4 H1 h1
 have kn:=(Kn.start0 H).al hx4 h1
 simp only[go_sem,Qrj]
 refine Q6 ?_
 refine Qa ?_
 simp only[go_sem]
 refine Qdu hfit fun H2 hu=>?_
 have kn:=kn.call0 hu
 simp only[go_sem,Qrk]
 have hx4:=kn.l 0 rfl
 refine Qh (Qe rfl ?_ ?_)
 ·intro hc
  have hc:=Qxk hc
  refine Qa ?_
  simp only[go_sem,hx4]
  intro H3 h3
  have kn:=kn.stL 0 rfl h3
  have hx4:=kn.l 0 rfl
  simp only[go_sem,Qrl]
  refine Qk ?_
  simp only[go_sem,X.next,Q3,Q9,Qqc,List.forall_mem_cons,List.not_mem_nil,RS.op,hx4]
  have hK:=hK _ kn.fin
  rw[perL,hc]at hK
  exact⟨fun _=>trivial,_,Qjd (FrzL.ag (.cons FrzR.nil.sl .nil)) (.c _ _ (Qf rfl)),hK⟩
 ·intro hc
  have hg:=Qh7 hc
  have hc4:cs.length≤4:=by have:=(of_decide_eq_true hg).1;omega
  refine Qi ?_
  try simp only[go_sem]
  refine Qa ?_
  simp only[go_sem]
  refine Qa3r hc4 (hf hg) fun H3 hu=>?_
  have kn:=kn.call0 hu
  have hx4:=kn.l 0 rfl
  simp only[go_sem,Qrn,hx4]
  intro H4 h4
  have kn:=kn.stL 0 rfl h4
  have hx4:=kn.l 0 rfl
  simp only[go_sem,Qrm]
  refine Qk ?_
  simp only[go_sem,X.next,Q3,Q9,Qqc,List.forall_mem_cons,List.not_mem_nil,RS.op,hx4]
  have hK:=hK _ kn.fin
  rw[perL,if_pos hg,hg]at hK
  exact⟨fun _=>trivial,_,Qjd (Qz7 _) (.c _ _ (Qf rfl)),hK⟩
theorem Qa0k {q:CodeD}(h:q.fits):(spD q).fits:=fun y hy=>by
 rcases List.mem_append.1 hy with hy|hy
 ·obtain⟨b,hb,rfl⟩:=List.mem_map.1 hy
  have hb:=List.mem_range.1 hb
  have:=h _ (List.getElem_mem hb)
  rw[spB,Qbh hb]
  simpa using this
 ·obtain⟨e,_,rfl⟩:=List.mem_map.1 hy
  simp[goB]
theorem Q82 {f:CodeD→CodeD}{cs:List CodeD}(hfit:∀c∈cs,c.fits)(hf:∀c,c.fits→(f c).fits):∀c∈perL f cs,c.fits:=fun c hc=>by
 rw[perL]at hc
 split at hc
 ·obtain⟨x,hx,rfl⟩:=List.mem_map.1 hc
  exact hf x (hfit x hx)
 ·simp at hc
noncomputable def Qp2 (cs:List CodeD)(b:Bool):List CodeD:=if (b&&Qbb cs)=true then cs else []
theorem Qavq {cs:List CodeD}{b:Bool}(hfit:∀c∈cs,c.fits)(hK:∀H',Upd H H' []→K (.tup [.ag [.sl false 3 (Ql (Qp2 cs b))],.c (.bool (b&&Qbb cs))]) H') :
  Qp prog Qg7 [.ag [.sl fl 3 (Ql cs)],.c (.bool b)] H K:=by
 refine Qz ?_
 refine Qd Qak Qafp ?_
 refine Qa ?_
 simp only[go_sem]
 intro x4 hx4 H1 h1
 have kn:=(Kn.start0 H).al hx4 h1
 simp only[go_sem,Qkw]
 refine Q6 ?_
 cases b with
 |false=>
  refine Qa ?_
  simp only[go_sem,Qeq]
  have hx4:=kn.l 0 rfl
  refine Qh (Qe rfl (fun _=>?_) (fun h=>by simp at h))
  refine Qa ?_
  simp only[go_sem,hx4,Qgk]
  intro H3 h3
  have kn:=kn.stL 0 rfl h3
  have hx4:=kn.l 0 rfl
  simp only[go_sem,Qer]
  refine Qk ?_
  simp only[go_sem,X.next,Q3,Q9,Qe4,List.forall_mem_cons,List.not_mem_nil,RS.op,hx4]
  have hK:=hK _ kn.fin
  have e:Qp2 cs false=[]:=by simp[Qp2]
  rw[e]at hK
  exact⟨fun _=>trivial,_,Qjd (FrzL.ag (.cons FrzR.nil.sl .nil)) (.c _ _ (Qf rfl)),hK⟩
 |true=>
  refine Qa ?_
  simp only[go_sem]
  refine Qdu hfit fun H2 hu=>?_
  have kn:=kn.call0 hu
  have hx4:=kn.l 0 rfl
  simp only[go_sem,Qeq]
  refine Qh (Qe rfl ?_ ?_)
  ·intro hc
   have hc:Qbb cs=false:=by cases h:Qbb cs with
    |false=>rfl
    |true=>rw[h]at hc;simp at hc
   refine Qa ?_
   simp only[go_sem,hx4,Qgk]
   intro H3 h3
   have kn:=kn.stL 0 rfl h3
   have hx4:=kn.l 0 rfl
   simp only[go_sem,Qer]
   refine Qk ?_
   simp only[go_sem,X.next,Q3,Q9,Qe4,List.forall_mem_cons,List.not_mem_nil,RS.op,hx4]
   have hK:=hK _ kn.fin
   have e:Qp2 cs true=[]:=by simp[Qp2,hc]
   rw[e,hc]at hK
   exact⟨fun _=>trivial,_,Qjd (FrzL.ag (.cons FrzR.nil.sl .nil)) (.c _ _ (Qf rfl)),hK⟩
  ·intro hc
   have hc:Qbb cs=true:=by cases h:Qbb cs with
    |true=>rfl
    |false=>rw[h]at hc;simp at hc
   refine Qi ?_
   try simp only[go_sem]
   refine Qa ?_
   simp only[go_sem,hx4]
   intro H3 h3
   have kn:=kn.stL 0 rfl h3
   have hx4:=kn.l 0 rfl
   simp only[go_sem,Qkx]
   refine Qk ?_
   simp only[go_sem,X.next,Q3,Q9,Qe4,List.forall_mem_cons,List.not_mem_nil,RS.op,hx4]
   have hK:=hK _ kn.fin
   have e:Qp2 cs true=cs:=by simp[Qp2,hc]
   rw[e,hc]at hK
   exact⟨fun _=>trivial,_,Qjd (FrzL.ag (.cons (FrzR.same (Qa4 _)).sl .nil)) (.c _ _ (Qf rfl)),hK⟩
end Go.AE.Y

namespace Go.AE.Y
attribute [local go_sem] cond_true cond_false Bool.not_true Bool.not_false
attribute [local instance] Classical.propDecidable
open Go.Proofs.Tryz
variable {H H0:Heap}{K:V→Heap→Prop}{fl:Bool}
noncomputable def splL (cs:List CodeD):List CodeD:=Qp2 (perL spD cs) (Qbb cs)
noncomputable def splB (cs:List CodeD):Bool:=Qbb cs&&Qbb (perL spD cs)
theorem Qaff {cs:List CodeD}(hfit:∀c∈cs,c.fits)(hK:∀H',Upd H H' []→K (.tup [.ag [.sl false 3 (Ql (splL cs))],.c (.bool (splB cs))]) H') :
  Qp prog Qft [.ag [.sl fl 3 (Ql cs)]] H K:=by
 refine Qz ?_
 refine Qd Qak Q8r ?_
 refine Qa ?_
 simp only[go_sem]
 intro x2 hx2 H1 h1
 have kn:=(Kn.start0 H).al hx2 h1
 simp only[go_sem,Qir]
 refine Qa ?_
 simp only[go_sem]
 refine Qa3u (f:=spD) hfit (fun hg p hp H K fl hK=>?_) fun H2 hu=>?_
 ·obtain⟨i,hi,rfl⟩:=List.mem_iff_getElem.1 hp
  exact Qa0l (Qaor hg hi) hK
 have kn:=kn.call0 hu
 simp only[go_sem,Qiu,List.getD_cons_zero,List.getD_cons_succ]
 refine Qavq (Q82 (f:=spD) hfit fun c h=>Qa0k h) fun H3 hu=>?_
 have kn:=kn.call0 hu
 have hx2:=kn.l 0 rfl
 simp only[go_sem,Qit,hx2,List.getD_cons_zero,List.getD_cons_succ]
 intro H4 h4
 have kn:=kn.stL 0 rfl h4
 have hx2:=kn.l 0 rfl
 simp only[go_sem,Qis]
 refine Qk ?_
 simp only[go_sem,X.next,Q3,Q9,Qp8,List.forall_mem_cons,List.not_mem_nil,RS.op,hx2]
 exact⟨fun _=>trivial,_,Qjd (Qz7 _) (.c _ _ (Qf rfl)),hK _ kn.fin⟩
end Go.AE.Y

namespace Go.AE.Y
attribute [local go_sem] cond_true cond_false Bool.not_true Bool.not_false
attribute [local instance] Classical.propDecidable
open Go.Proofs.Tryz
variable {H H0:Heap}{K:V→Heap→Prop}{fl:Bool}
set_option maxHeartbeats 4000000 in
theorem Qa3c {cs:List CodeD}{pass:List UInt8}{f:CodeD→CodeD}(hfit:∀c∈cs,c.fits)(hff:∀c∈perL f cs,c.fits)
  (hf:Qbb cs=true→∀p∈cs,∀(H:Heap) (K:V→Heap→Prop),(∀H',Upd H H' []→K (.ag (f p).cells) H')→Qp prog Quc [.ag [.int .i64 p.params,.int .i64 p.regs,.sl false 5 (Qr p.blocks)],.c (.str pass)] H K)
  (hK:∀H',Upd H H' []→K (.tup [.ag [.sl false 3 (Ql (Qp2 (perL f cs) (Qbb cs)))],.c (.bool (Qbb cs&&Qbb (perL f cs)))]) H') :
  Qp prog Q0i [.ag [.sl fl 3 (Ql cs)],.c (.str pass)] H K:=by
 refine Qz ?_
 refine Qd Qak Qa79 ?_
 refine Qa ?_
 simp only[go_sem]
 intro x4 hx4 H1 h1
 have kn:=(Kn.start0 H).al hx4 h1
 simp only[go_sem,Q3h]
 refine Q6 ?_
 refine Qa ?_
 simp only[go_sem]
 refine Qpf hfit fun H2 hu=>?_
 have kn:=kn.call0 hu
 simp only[go_sem,Q3i]
 refine Qh (Qe rfl ?_ ?_)
 ·intro hc
  have hc:Qbb cs=false:=Qxk hc
  have hx4:=kn.l 0 rfl
  refine Qa ?_
  simp only[go_sem,hx4]
  intro H3 h3
  have kn:=kn.stL 0 rfl h3
  have hx4:=kn.l 0 rfl
  simp only[go_sem,Q3j]
  refine Qk ?_
  simp only[go_sem,X.next,Q3,Q9,Qys,List.forall_mem_cons,List.not_mem_nil,RS.op,hx4]
  have hK:=hK _ kn.fin
  have eo:Qp2 (perL f cs) false=[]:=by simp[Qp2]
  rw[hc,eo]at hK
  exact⟨fun _=>trivial,_,Qjd (FrzL.ag (.cons (FrzR.nil.sl) .nil)) (.c _ _ (Qf rfl)),hK⟩
 ·intro hc
  have hG:Qbb cs=true:=Qh7 hc
  refine Qi ?_
  try simp only[go_sem]
  refine Qa ?_
  simp only[go_sem]
  intro x6 hx6 H3 h3
  have kn:=kn.al hx6 h3
  have hx6:=kn.l 1 rfl
  simp only[go_sem,Q3k,hx6]
  intro H4 h4
  have kn:Kn H H4 [] [(x4,.st [.sl true 3 []]),(x6,.st [.sl true 3 []])]:=kn.stL 1 rfl h4
  refine Q6 ?_
  refine Qa ?_
  simp only[go_sem]
  have hcl:=(Qa2f hfit hG).1
  refine Qh (Qg (Qy (fun m e1 H1=>∃(ds:List CodeD) (t:C) (Lg:List (Nat×Obj)),m=cs.length-ds.length∧ds.length≤cs.length∧ds=(cs.take ds.length).map f∧Gr Lg 3 (Ql ds) t∧Kn H H1 [] ([(x4,.st [.sl true 3 []]),(x6,.st [t])]++Lg)∧
   lk 1 e1=.c (.str pass)∧lk 2 e1=.c (.pp [.sl fl 3 (Ql cs)])∧lk 4 e1=.c (.ptr x4 0)∧lk 6 e1=.c (.ptr x6 0)∧lk 7 e1=.c (.int .i64 ds.length)) cs.length ?_ ?_))
  ·exact⟨[],_,[],by simp,by simp,by simp,.nil 3,by simpa using kn,rfl,rfl,rfl,rfl,rfl⟩
  ·clear kn hx6
   rintro m e1 H5 ⟨ds,t,Lg,hm,hdl,hds,hgr,kn,l1,l2,l4,l6,l7⟩
   have htw:=hgr.isOw
   refine Q6 ?_
   refine Qa ?_
   simp only[go_sem,l1,l2,l4,l6,l7,Q4]
   try intro _
   refine Qh (Qe rfl ?_ ?_)
   ·intro hc2
    have hlt:ds.length<cs.length:=by simpa using hc2
    have hx6:=kn.l 1 rfl
    obtain⟨q,hq⟩:∃q,cs[ds.length]=q:=⟨_,rfl⟩
    have hqm:q∈cs:=by rw[←hq];exact List.getElem_mem hlt
    refine Qi ?_
    try simp only[go_sem]
    refine Qh (Qg ?_)
    refine Qbf ?_
    simp only[go_sem,l1,l2,l4,l6,l7,hx6,htw,hlt,Q4,Qaj _ _ hlt,CodeD.cells,hq]
    refine hf hG q hqm _ _ fun H6 hu=>?_
    obtain⟨d,hd⟩:∃d,f q=d:=⟨_,rfl⟩
    rw[hd]
    have kn:=kn.call0 hu
    have hx6:=kn.l 1 rfl
    simp only[go_sem,Q3m,CodeD.cells,hx6,htw]
    refine kn.growR (new:=Ql [d]) hgr (.mk' _ _ _ _) (Qa4 _) (by simp only[Q4,LIM,List.length_cons,List.length_nil];omega) fun t2 Lg2 H7 hgr2 ht2 kn=>?_
    have hx6:=kn.l 1 rfl
    simp only[go_sem,Q3l,hx6,ht2]
    intro H8 h8
    have kn:=kn.stL 1 rfl h8
    refine Qt ?_
    simp only[go_sem,l1,l2,l4,l6,l7]
    refine⟨Qs (by omega) (by omega),?_⟩
    show ∃m,_
    refine⟨cs.length-(ds.length+1),by omega,ds++[d],t2,Lg2,by simp,by simp only[List.length_append,List.length_cons,List.length_nil];omega,?_,?_,kn,rfl,rfl,rfl,rfl,by simp[lk]⟩
    ·have e:(ds++[d]).length=ds.length+1:=by simp
     rw[e,List.take_succ_eq_append_getElem hlt,List.map_append,←hds,hq,List.map_cons,List.map_nil,hd]
    ·have:Ql (ds++[d])=Ql ds++Ql [d]:=by simp[Ql]
     rw[this];exact hgr2
   ·intro hcx
    have hdl2:ds.length=cs.length:=by have:cs.length≤ds.length:=(by simpa using hcx);omega
    rw[hdl2,List.take_length]at hds
    have hdp:perL f cs=ds:=by rw[perL,if_pos hG,←hds]
    rw[hG,hdp]at hK
    rw[hdp]at hff
    refine Q0 ?_
    simp only[go_sem,X.next]
    have hx6:=kn.l 1 rfl
    obtain⟨S,hSL,hSB,hfz,kn⟩:=kn.freeze0
    have hx6b:=hSB (x6,.st [t]) (by simp)
    have hft:FrzC H5 S t (.sl false 3 (Ql ds)):=Gr.frzM hgr hSL (FrzR.same (Qa4 _))
    have kn:=kn.setL (o':=.st [.sl false 3 (Ql ds)]) 1 rfl (by simp)
    refine c_gh (Qdg S (Q0r ?_) (hfz.set (o:=.st [.sl false 3 (Ql ds)]) hx6b.2 (by rw[hx6b.1];exact FrzKL.st (.cons htw hft .nil)))) (e':=[(4,.c (.ptr x4 0)),(6,.c (.ptr x6 0))]) ?_
    ·simp only[List.forall_mem_cons]
     exact⟨.c _ _ (.same _ rfl),.c _ _ (.same _ rfl),by simp⟩
    generalize (H5.frz S).set x6 (Obj.st [C.sl false 3 (Ql ds)])=H6 at *
    have hx6:=kn.l 1 rfl
    have hx4:=kn.l 0 rfl
    clear hfz hx6b hft hSL hSB
    refine Q6 ?_
    refine Qa ?_
    simp only[go_sem,hx6]
    refine Qpf hff fun H7 hu=>?_
    have kn:=kn.call0 hu
    have hx6:=kn.l 1 rfl
    have hx4:=kn.l 0 rfl
    simp only[go_sem,Qzo]
    refine Qh (Qe rfl ?_ ?_)
    ·intro hc3
     have hG2:Qbb ds=false:=Qxk hc3
     refine Qa ?_
     simp only[go_sem,hx4]
     intro H8 h8
     have kn:=kn.stL 0 rfl h8
     have hx4:=kn.l 0 rfl
     simp only[go_sem,Qzp]
     refine Qk ?_
     simp only[go_sem,X.next,Q3,Q9,Qys,List.forall_mem_cons,List.not_mem_nil,RS.op,hx4]
     have hK:=hK _ kn.fin
     have eo:Qp2 ds true=[]:=by simp[Qp2,hG2]
     rw[hG2,eo]at hK
     exact⟨fun _=>trivial,_,Qjd (FrzL.ag (.cons (FrzR.nil.sl) .nil)) (.c _ _ (Qf rfl)),hK⟩
    ·intro hc3
     have hG2:Qbb ds=true:=Qh7 hc3
     refine Qi ?_
     try simp only[go_sem]
     refine Qa ?_
     simp only[go_sem,hx6,hx4]
     intro H8 h8
     have kn:=kn.stL 0 rfl h8
     have hx4:=kn.l 0 rfl
     simp only[go_sem,Qzq]
     refine Qk ?_
     simp only[go_sem,X.next,Q3,Q9,Qys,List.forall_mem_cons,List.not_mem_nil,RS.op,hx4]
     have hK:=hK _ kn.fin
     have eo:Qp2 ds true=ds:=by simp[Qp2,hG2]
     rw[hG2,eo]at hK
     exact⟨fun _=>trivial,_,Qjd (Qz7 ds) (.c _ _ (Qf rfl)),hK⟩
theorem Qajn {cs:List CodeD}{fl:Bool}(hfit:∀c∈cs,c.fits)(hK:∀H',Upd H H' []→K (.tup [.ag [.sl false 3 (Ql (splL cs))],.c (.bool (splB cs))]) H') :
  Qp prog Qfw [.ag [.sl fl 3 (Ql cs)]] H K:=by
 refine Qz ?_
 refine Qd Qak Q8w ?_
 refine Qa ?_
 simp only[go_sem]
 intro x2 hx2 H1 h1
 have kn:=(Kn.start0 H).al hx2 h1
 simp only[go_sem,Qi0]
 refine Qa ?_
 simp only[go_sem]
 refine Qa3c (f:=spD) hfit (Q82 (f:=spD) hfit fun c h=>Qa0k h) (fun hg p hp H K hK=>?_) fun H2 hu=>?_
 ·obtain⟨i,hi,rfl⟩:=List.mem_iff_getElem.1 hp
  exact Qa3f (Qaor hg hi) hK
 have kn:=kn.call0 hu
 have hx2:=kn.l 0 rfl
 simp only[go_sem,Qi2,List.getD_cons_zero,List.getD_cons_succ,hx2]
 intro H3 h3
 have kn:=kn.stL 0 rfl h3
 have hx2:=kn.l 0 rfl
 simp only[go_sem,Qi1]
 refine Qk ?_
 simp only[go_sem,Q3,Q9,Qqg,List.forall_mem_cons,List.not_mem_nil,RS.op,hx2]
 exact⟨fun _=>trivial,_,Qjd (Qz7 _) (.c _ _ (Qf rfl)),hK _ kn.fin⟩
end Go.AE.Y

namespace Go.AE.Y
attribute [local go_sem] cond_true cond_false Bool.not_true Bool.not_false
attribute [local instance] Classical.propDecidable
open Go.Proofs.Tryz
variable {H H0:Heap}{K:V→Heap→Prop}{fl:Bool}{cs:List CodeD}
theorem Q43 {bs:List UInt8}(hK:∀(cs:List CodeD) H',Upd H H' []→UnitOk cs→K (.ag [.sl false 3 (Ql cs)]) H') :
  Qp prog Qcx [.c (.sl fl 1 (Qbl bs))] H K:=by
 refine Qz ?_
 refine Qd Qak Qxj ?_
 refine Qa ?_
 simp only[go_sem]
 intro x2 hx2 H1 h1
 have kn:=(Kn.start0 H).al hx2 h1
 refine Qa ?_
 simp only[go_sem]
 refine Qa70 fun R H2 hR h2=>?_
 have kn:=kn.al hR h2 (R.o_ne 0)
 simp only[go_sem,Qej]
 refine Qa7v (kn.l 1 rfl) (by omega) fun cs H3 k2 hk3 hk4 hu hok=>?_
 have kn:=kn.callL 1 rfl hu (R.o_ne _)
 have hx2:=kn.l 0 rfl
 simp only[go_sem,Qei,hx2]
 intro H4 h4
 have kn:=kn.stL 0 rfl h4
 have hx2:=kn.l 0 rfl
 refine Qk ?_
 simp only[go_sem,Q3,Q9,Qhl,List.mem_singleton,forall_eq,RS.op,hx2]
 exact⟨_,Qz7 cs,hK cs _ kn.fin hok⟩
theorem Qbfg (h:splB cs=true):Qbb cs=true∧splL cs=cs.map spD∧Qbb (cs.map spD)=true:=by
 rw[splB,Bool.and_eq_true]at h
 obtain⟨h1,h2⟩:=h
 have e:perL spD cs=cs.map spD:=by rw[perL,if_pos h1]
 rw[e]at h2
 exact⟨h1,by rw[splL,Qp2,e,h1,h2];rfl,h2⟩
theorem Qba0 (hfit:∀c∈cs,c.fits):∀c∈splL cs,c.fits:=fun c hc=>by
 rw[splL,Qp2]at hc
 split at hc
 ·exact Q82 (f:=spD) hfit (fun c h=>Qa0k h) c hc
 ·simp at hc
end Go.AE.Y

namespace Go.AE.Y
attribute [local instance] Classical.propDecidable
variable {cs:List CodeD}
structure SpFr (cs:List CodeD)(f f':Fr):Prop where
 k:f.k<cs.length
 b:f.b<(Qu cs f.k).blocks.length
 t:∃p,(Qah (Qu cs f.k) f.b).ins=p++f.todo
 e:f'=f
theorem Qakt {k:Nat}(hk:k<cs.length):Qu (cs.map spD) k=spD (Qu cs k):=by
 rw[Qcg (by simpa using hk),Qcg hk];simp
theorem Qa0j {q:CodeD}{b:Nat}(hb:b<q.blocks.length):Qah (spD q) b=spB q b:=by
 rw[Qah,List.getD_eq_getElem?_getD,Qbax hb];rfl
theorem Qbf7 (hr:RunOk cs){k:Nat}(hk:k<cs.length)(l:List Int):SpFr cs (fr0 cs k l) (fr0 (cs.map spD) k l):=by
 refine⟨hk,(hr.ok k hk).b0,⟨[],rfl⟩,?_⟩
 rw[fr0,fr0,Qakt hk,Qa0j (hr.ok k hk).b0]
 rfl
theorem Qbk6 {q:CodeD}(F:SpF (gnx q) q.blocks.length){t j:Nat}(ht:t<q.blocks.length)(hj:j<offN (gnx q) q.blocks.length q.blocks.length)(h:(t:Int)∈spX (gnx q) q.blocks.length j)(R:List Int)(p:PhiD) :
  Qz9 R (wayI (spD q) t j) (spP q t p)=Qz9 R (wayI q t (org (gnx q) q.blocks.length j)) p:=by
 have hin:(j:Int)∈Q1 (spX (gnx q) q.blocks.length) (t:Int) (offN (gnx q) q.blocks.length q.blocks.length):=preds_mem.2 ⟨j,hj,h,rfl⟩
 have hx:=List.idxOf_lt_length_of_mem hin
 rw[Qz9,Qz9,spP,spA,wayI,wayI,Qbjz,Qmq]
 congr 1
 rw[List.getD_eq_getElem?_getD,List.getElem?_map,List.getElem?_eq_getElem hx,Option.map_some,Option.getD_some,List.getElem_idxOf hx,Int.toNat_natCast]
theorem Qbf8 (hr:RunOk cs){k b t j:Nat}(hk:k<cs.length)(ht:t<(Qu cs k).blocks.length)(hj:j<offN (gnx (Qu cs k)) (Qu cs k).blocks.length (Qu cs k).blocks.length)
  (h:(t:Int)∈spX (gnx (Qu cs k)) (Qu cs k).blocks.length j) (hb:org (gnx (Qu cs k)) (Qu cs k).blocks.length j=b) (R:List Int):SpFr cs (frJ cs k b R t) (frJ (cs.map spD) k j R t):=by
 refine⟨hk,ht,⟨[],rfl⟩,?_⟩
 rw[frJ,frJ,Qakt hk,Qa0j ht]
 simp only[Fr.mk.injEq,true_and]
 refine⟨rfl,Qbd2 fun p hp=>⟨rfl,?_⟩⟩
 rw[Qbk6 (hr.ok k hk).spF ht hj h,hb]
theorem Qba3 (hr:RunOk cs):SimR cs (cs.map spD) (SpFr cs) 2:=by
 have hins:∀k b x t R f',SpFr cs ⟨k,b,x::t,R⟩ f'→∃k' b' x' t',f'=⟨k',b',x'::t',R⟩∧x'=x∧k'=k∧x∈(Qah (Qu cs k) b).ins∧k<cs.length∧∀R',R'.length=R.length→SpFr cs ⟨k,b,t,R'⟩ ⟨k',b',t',R'⟩:=fun k b x t R f' h=>by
  obtain⟨hk,hb,⟨p,hp⟩,rfl⟩:=h
  exact⟨_,_,_,_,rfl,rfl,rfl,by rw[hp];simp,hk,fun R' _=>⟨hk,hb,⟨p++[x],by rw[hp];simp⟩,rfl⟩⟩
 refine⟨by omega,fun k b x t R f' h=>?_,fun k b R f' fs fs' s c h hf=>?_⟩
 ·obtain⟨k',b',x',t',rfl,rfl,rfl,hx,hk,hR⟩:=hins _ _ _ _ _ _ h
  exact⟨_,_,_,_,rfl,⟨rfl,rfl,rfl,fun _=>rfl,fun h14 l _=>Qbf7 hr (Nat.lt_trans (hr.call _ b hk _ hx h14) hk) l⟩,hR⟩
 ·obtain⟨hk,hb,⟨p,hp⟩,rfl⟩:=h
  change k<cs.length at hk
  change b<(Qu cs k).blocks.length at hb
  have ho:=hr.ok k hk
  have F:=ho.spF
  have hblk:=Qa0j (q:=Qu cs k) hb
  have hoff:(Qu cs k).blocks.length≤offN (gnx (Qu cs k)) (Qu cs k).blocks.length (Qu cs k).blocks.length:=by rw[offN];omega
  have hj':(Qah (Qu (cs.map spD) k) b).jump=(Qah (Qu cs k) b).jump:=by rw[Qakt hk,hblk];rfl
  by_cases hj:(Qah (Qu cs k) b).jump=3
  ·refine⟨1,by omega,?_⟩
   show RelC _ (stJ cs k b R fs s c) (stJ (cs.map spD) k b R fs' s c)
   rw[Qba4 hj,Qba4 (by rw[hj',hj]),Qakt hk,hblk]
   exact SimR.rtnF hf fun k b x t R f' h=>by
    obtain⟨k',b',x',t',rfl,rfl,_,_,_,hR⟩:=hins _ _ _ _ _ _ h
    exact⟨_,_,_,_,rfl,rfl,hR⟩
  ·obtain⟨v,hv,e,e2⟩:=Qa8w hr hk hb hj R
   have hv':v∈gnx (Qu cs k) b:=by rw[Qa07 hb];exact hv
   have hvn:=(ho.bs b hb).nx v (by rw[Qbh hb]at hv;exact hv)
   have e':nxB (Qah (Qu (cs.map spD) k) b) R=(spV (gnx (Qu cs k)) (Qu cs k).blocks.length b v).toNat:=by
    rw[Qakt hk,hblk,nxB,spB,ixB]
    rw[ixB]at e2
    rw[spX,if_pos hb,Qa07 hb]
    simp only[List.getD_eq_getElem?_getD,List.getElem?_map,e2,Option.map_some,Option.getD_some]
   have horg:org (gnx (Qu cs k)) (Qu cs k).blocks.length b=b:=by rw[org,if_pos hb]
   have hmem:spV (gnx (Qu cs k)) (Qu cs k).blocks.length b v∈spX (gnx (Qu cs k)) (Qu cs k).blocks.length b:=by
    rw[spX,if_pos hb];exact List.mem_map.2 ⟨v,hv',rfl⟩
   by_cases hs:shV (gnx (Qu cs k)) (Qu cs k).blocks.length b v=true
   ·obtain⟨i,h1,h2,h3⟩:=Qat9 hb hv' hs
    refine⟨2,Nat.le_refl _,?_⟩
    have hil:i<(Qbx (gnx (Qu cs k)) (Qu cs k).blocks.length (Qu cs k).blocks.length).length:=by
     rcases Nat.lt_or_ge i (Qbx (gnx (Qu cs k)) (Qu cs k).blocks.length (Qu cs k).blocks.length).length with h|h
     ·exact h
     ·rw[List.getElem?_eq_none h]at h1;exact absurd h1 (by simp)
    have hnb:Qah (Qu (cs.map spD) k) ((Qu cs k).blocks.length+i)=goB v:=by
     rw[Qakt hk,Qah,List.getD_eq_getElem?_getD,Qbaw (by omega),Nat.add_sub_cancel_left,h1];rfl
    have s1:Qms (cs.map spD) 2 (.go (⟨k,b,[],R⟩::fs') s c)=stJ (cs.map spD) k ((Qu cs k).blocks.length+i) R fs' s c:=by
     show step (cs.map spD) (stJ (cs.map spD) k b R fs' s c)=_
     rw[Qaku (by rw[hj'];exact hj),e',h2,Int.toNat_natCast,frJ,hnb]
     rfl
    rw[s1,Qaku hj,Qaku (by rw[hnb,goB];simp),hnb,e]
    have:nxB (goB v) R=v.toNat:=by rw[nxB,goB,ixB];simp
    rw[this]
    have ht:v.toNat<(Qu cs k).blocks.length:=by omega
    refine .go s c (Qbf8 hr hk ht (j:=(Qu cs k).blocks.length+i) (by rw[offN];omega) ?_ ?_ R) hf
    ·rw[Qae4 (by omega),Nat.add_sub_cancel_left,h1]
     simp;omega
    ·rw[org,if_neg (by omega),Nat.add_sub_cancel_left,h1]
   ·refine⟨1,by omega,?_⟩
    show RelC _ (stJ cs k b R fs s c) (stJ (cs.map spD) k b R fs' s c)
    have hsv:spV (gnx (Qu cs k)) (Qu cs k).blocks.length b v=v:=by rw[spV,if_neg hs]
    rw[Qaku hj,Qaku (by rw[hj'];exact hj),e',hsv,e]
    rw[hsv]at hmem
    exact .go s c (Qbf8 hr hk (by omega) (by omega) (by rw[show ((v.toNat:Nat):Int)=v by omega];exact hmem) horg R) hf
theorem Qa6d (hr:RunOk cs)(l:List Int){S:Nat}(hS:S≤30000):Qaum cs (cs.map spD) l S:=by
 refine (Qba3 hr).same (by omega) ?_
 rw[List.length_map]
 exact Qbf7 hr (by have:=hr.n;omega) l
end Go.AE.Y

namespace Go.AE.Y
attribute [local instance] Classical.propDecidable
open Go.Proofs.Tryz
variable {H:Heap}{K:V→Heap→Prop}{cs ds:List CodeD}{bs:List UInt8}
theorem FnSplitRuns_c (hgl:H 0=.gl 0 tryC)(hK:∀H',K (.c (.bool true)) H'):Qp prog Q0p [.c (.sl false 1 (Qbl bs))] H K:=
 Qa9c (dr:=Qcx) (im:=Qft) (sp:=Qfw) (P:=fun cs ds=>ds=splL cs) (G:=splB) (by kernel_rfl) (fun bs H K h=>Q43 h)
  (fun cs H K hf h=>Qaff hf fun H' hu=>h _ H' rfl hu) (fun cs H K hf h=>Qajn hf fun H' hu=>h _ H' rfl hu) (fun cs a b h1 h2=>h1.trans h2.symm) (fun cs ds hf h=>by rw[h];exact Qba0 hf)
  (fun cs ds h hg=>by
   obtain⟨h1,h2,h3⟩:=Qbfg hg
   rw[h,h2]
   exact⟨h1,h3,Qbdn fun q=>rfl,fun l=>Qa6d (Qa2g h1) l (by omega)⟩) hgl hK
end Go.AE.Y

namespace Go.AE.Y
open Go.ChangeShapes Go.WideShapes Go.ChangeAt Go.RowKit
def Qbgc (w:World)(a:Option Addr)(len cap:Nat)(zs:List Int):Prop:=
 (a=none∧len=0∧cap=0∧zs=[])∨
 ∃x,a=some x∧len≤cap∧zs.length=cap∧(∀i,i<zs.length→w.cell? (x.add i)=some (.int .u8 (zs.getD i 0)))∧∀n∈zs,(Lit.int .u8 n).wf=true
def gh3 (w:World):G:=⟨fun b=>decide (b<w.heap.size),fun _=>none,fun l=>if l=0 then some (0,9,0)else none⟩
def hp3:Heap:=fun l=>if l=0 then .gl 0 tryC else .none
def tryZ:List Int:=[0,0,0,1,2,3,255,16,7]
theorem Qa6b (w:World)(ht:∀j,j<9→w.cell? ⟨0,j,none⟩=some (.int .i64 (tryZ.getD j 0))):Sat hp3 (gh3 w) w:=by
 have h0:0<w.heap.size:=by
  have:=ht 0 (by omega)
  rcases Nat.eq_zero_or_pos w.heap.size with h|h
  ·simp[World.cell?,Array.getElem?_eq_none (show w.heap.size≤0 by omega)]at this
  ·exact h
 have hz:∀(j:Nat) (c:C),tryC[j]? = some c→j<9∧c=.int .i64 (tryZ.getD j 0):=by
  intro j c h
  have hj:j<9:=(List.getElem?_eq_some_iff.1 h).1
  refine⟨hj,?_⟩
  have e:tryC=Qh6 tryZ:=rfl
  rw[e,Qh6,List.getElem?_map]at h
  have hl:j<tryZ.length:=hj
  rw[List.getElem?_eq_getElem hl]at h
  simp at h
  rw[←h,List.getD_eq_getElem?_getD,List.getElem?_eq_getElem hl];rfl
 refine⟨fun b hb=>⟨by simp[gh3];omega,rfl⟩,⟨1,fun l hl=>by simp[gh3];omega⟩,fun b x h=>by simp[gh3]at h,fun b l p h=>by simp[gh3]at h,fun l=>?_⟩
 by_cases hl:l=0
 ·subst hl
  refine⟨9,fun j=>.int .i64 (tryZ.getD j 0),by simp[gh3],by simpa[gh3]using h0,fun j c h=>?_,fun j c h=>?_⟩
  ·exact ht j (hz j c h).1
  ·rw[(hz j c h).2];exact .int _ _
 ·rw[hp3,if_neg hl];trivial
theorem Qbgn {n:Int}(h:(Lit.int .u8 n).wf=true):((UInt8.ofNat n.toNat).toNat:Int)=n:=by
 simp only[Lit.wf,Bool.and_eq_true,decide_eq_true_eq]at h
 have a1:IntKind.min .u8=0:=by decide
 have a2:IntKind.max .u8=255:=by decide
 rw[a1,a2]at h
 rw[UInt8.toNat_ofNat']
 omega
theorem calls_of_acall3 {P:Program}{f:Nat}(h:∀bs:List UInt8,bs.length≤1048576→Qp P f [.c (.sl false 1 (Qbl bs))] hp3 fun v _=>v=.c (.bool true))
  {a0:Option Addr} {len0 cap0:Nat} {z0:List Int} {w:World} (ht:∀j,j<9→w.cell? ⟨0,j,none⟩=some (.int .i64 (tryZ.getD j 0))) (hr:Qbgc w a0 len0 cap0 z0) (hl:len0≤1048576) :
  Calls P f #[.slice a0 len0 cap0] w fun e w'=>e=.returned (.bool true)∧Below w.heap.size w w':=by
 have key:∃bs:List UInt8,bs.length=len0∧RepC w (gh3 w) (.sl false 1 (Qbl bs)) (.slice a0 len0 cap0):=by
  rcases hr with ⟨rfl,rfl,rfl,rfl⟩|⟨x,rfl,hlc,hz,hcell,hwf⟩
  ·exact⟨[],rfl,.slnil _ _ _⟩
  ·obtain⟨b,off,spot⟩:=x
   have hbl:((z0.take len0).map fun n=>UInt8.ofNat n.toNat).length=len0:=by simp;omega
   by_cases h0:cap0=0
   ·subst h0
    have:len0=0:=by omega
    subst this
    exact⟨[],rfl,.slnil _ _ _⟩
   have hc0:=hcell 0 (by omega)
   have hspot:spot=none:=by simpa[Addr.add]using World.cell?_spot hc0
   subst hspot
   have hadd:∀i,(⟨b,off,none⟩:Addr).add i=⟨b,off+i,none⟩:=by
    intro i
    by_cases h:i=0 <;> simp[Addr.add,h]
   have hb:b<w.heap.size:=by
    rcases Nat.lt_or_ge b w.heap.size with h|h
    ·exact h
    ·simp[World.cell?,Addr.add,Array.getElem?_eq_none h]at hc0
   refine⟨_,hbl,?_⟩
   have hget:∀(i:Nat) (row:List C),(Qbl ((z0.take len0).map fun n=>UInt8.ofNat n.toNat))[i]? = some row→i<len0∧row=[.int .u8 (z0.getD i 0)]:=by
    intro i row hi
    have hlt:i<len0:=by
     rcases Nat.lt_or_ge i len0 with h|h
     ·exact h
     ·rw[List.getElem?_eq_none (by rw[Qap];omega)]at hi;simp at hi
    have hz0:i<z0.length:=by omega
    refine⟨hlt,?_⟩
    simp only[Qbl,List.getElem?_map,List.getElem?_take,if_pos hlt,List.getElem?_eq_getElem hz0,Option.map_some,Option.some.injEq]at hi
    rw[←hi,Qbgn (hwf _ (List.getElem_mem hz0))]
    simp[List.getD_eq_getElem?_getD,hz0]
   have:=RepC.sl (w:=w) (g:=(gh3 w)) false 1 (Qbl ((z0.take len0).map fun n=>UInt8.ofNat n.toNat)) b off cap0 (fun i _=>.int .u8 (z0.getD i 0))
    (by rw[Qap,hbl];simp only[LIM];omega) (by simp) (by rw[Qap,hbl];exact hlc) (by simpa[gh3]using hb)
    (fun i row hi=>by rw[(hget i row hi).2];rfl)
    (fun i row j c hi hj=>by
     obtain⟨h1,rfl⟩:=hget i row hi
     have hj0:j=0:=by
      rcases Nat.eq_zero_or_pos j with h|h
      ·exact h
      ·rw[List.getElem?_eq_none (by simp;omega)]at hj;simp at hj
     subst hj0
     have:=hcell i (by omega)
     rw[hadd]at this
     simpa using this)
    (fun i row j c hi hj=>by
     obtain⟨h1,rfl⟩:=hget i row hi
     have hj0:j=0:=by
      rcases Nat.eq_zero_or_pos j with h|h
      ·exact h
      ·rw[List.getElem?_eq_none (by simp;omega)]at hj;simp at hj
     subst hj0
     simp at hj;subst hj
     exact .int _ _)
   rw[Qap,hbl]at this
   exact this
 obtain⟨bs,hbl,hrep⟩:=key
 have hc:=(h bs (by omega)).2 _ w [.slice a0 len0 cap0] (Qa6b w ht) rfl (fun j x u hj hu=>by
  cases j with
  |zero=>simp at hj hu;subst hj;subst hu;exact .c _ _ hrep
  |succ j=>simp at hj)
 refine hc.mono fun e w'=>?_
 rintro (⟨v,x,H',g',rfl,rfl,hst,hv⟩|⟨v,H',g',_,h,_⟩)
 rotate_left
 ·cases h
 have:v=.bool true:=by cases hv with|c _ _ h=>cases h;rfl
 subst this
 exact⟨rfl,hst.le.os,hst.le.tape,hst.le.output,hst.le.size,fun k hk=>(hst.le.per k (by simpa[gh3]using hk)).2⟩
end Go.AE.Y

