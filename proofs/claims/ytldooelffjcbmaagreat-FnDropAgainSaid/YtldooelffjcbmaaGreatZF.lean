/- Part 6 of the proof: the engine, codes, walks and plain laws, each named where it stands. -/
import Derived.Test.YtldooelffjcbmaaGreatZE
import Derived.Below
import Derived.OpenShut
import Derived.ProofKit
open Nat (reduceEqDiff reduceAdd reduceLeDiff reduceLT)
set_option linter.unusedVariables false
set_option linter.unusedSimpArgs false
set_option maxRecDepth 4000
namespace Go.AE.Y
open Go.Proofs.Tryz
variable {H H0:Heap}{K:V→Heap→Prop}{E B Lg:List (Nat×Obj)}
structure RvOk (ns:List Int)(i:Nat)(ns':List Int):Prop where
 len:ns'.length=ns.length
 f:∀k,k<ns.length→ns'.getD k 0=if k<i∨ns.length<k+i+1 then ns.getD (ns.length-1-k) 0 else ns.getD k 0
theorem RvOk.zero (ns:List Int):RvOk ns 0 ns:=⟨rfl,fun k hk=>by rw[if_neg (by omega)]⟩
theorem Qaud (l:List Int)(i k:Nat)(v:Int)(hi:i<l.length):(l.set i v).getD k 0=if k=i then v else l.getD k 0:=by
 simp only[List.getD_eq_getElem?_getD,List.getElem?_set]
 by_cases h:i=k
 ·subst h;simp[hi]
 ·rw[if_neg h,if_neg (fun e=>h e.symm)]
theorem RvOk.step {ns ns':List Int}{i jn:Nat}(h:RvOk ns i ns')(hj:jn+i+1=ns.length)(hij:i<jn):RvOk ns (i+1) ((ns'.set i (ns'.getD jn 0)).set jn (ns'.getD i 0)):=by
 have hl:=h.len
 refine⟨by rw[List.length_set,List.length_set];exact hl,fun k hk=>?_⟩
 rw[Qaud _ _ _ _ (by rw[List.length_set];omega),Qaud _ _ _ _ (by omega)]
 have f1:=h.f i (by omega)
 have f2:=h.f jn (by omega)
 rw[if_neg (by omega)]at f1 f2
 by_cases h1:k=jn
 ·subst h1
  rw[if_pos rfl,if_pos (by omega),f1]
  have:ns.length-1-k=i:=by omega
  rw[this]
 ·rw[if_neg h1]
  by_cases h2:k=i
  ·subst h2
   rw[if_pos rfl,if_pos (by omega),f2]
   have:ns.length-1-k=jn:=by omega
   rw[this]
  ·rw[if_neg h2,h.f k hk]
   by_cases h3:k<i∨ns.length<k+i+1
   ·rw[if_pos h3,if_pos (by omega)]
   ·rw[if_neg h3,if_neg (by omega)]
theorem RvOk.fin {ns ns':List Int}{i:Nat}(h:RvOk ns i ns')(hi:ns.length≤i+i+1):ns'=ns.reverse:=by
 have hl:=h.len
 refine List.ext_getElem (by rw[List.length_reverse];exact hl) fun k h1 h2=>?_
 have hk:k<ns.length:=by omega
 have hgd:∀(L:List Int) (i:Nat) (h:i<L.length),L.getD i 0=L[i]:=fun L i h=>by simp[List.getD_eq_getElem?_getD,h]
 have:=h.f k hk
 rw[hgd _ _ h1]at this
 rw[this,List.getElem_reverse]
 by_cases h3:k<i∨ns.length<k+i+1
 ·rw[if_pos h3,hgd _ _ (by omega)]
 ·rw[if_neg h3,hgd _ _ hk]
  have:k=ns.length-1-k:=by omega
  congr 1
def InF (n:Nat)(l:List (Int×Int)):Prop:=∀x∈l,(0≤x.1∧x.1<(n:Int))∧0≤x.2∧x.2<(n:Int)∧x.2≤x.1
theorem Qa7u {c:C}{ns:List Int}(kn:Kn H0 H E (B++Lg))(hgr:Gr Lg 1 (Qd ns) c)(hL:ns.length≤2 ^ 38)
  (hK:∀Lg' H',Gr Lg' 1 (Qd ns.reverse) c→Kn H0 H' E (B++Lg')→K (.tup []) H'):Qo prog Qmm [.c c] H K:=by
 have how:=hgr.isOw
 have hok:=eq_true (hgr.okSl kn)
 have hlen:=hgr.lenC
 refine Qb Qai Qau9 ?_
 refine Qa ?_
 simp only[go_sem,how,hok,hlen,Qc]
 intro _
 refine⟨Qq (by omega) (by omega),?_⟩
 refine Qe (Qx (fun m e1 H1=>∃(i:Nat) (j:Int) (ns':List Int) (Lg':List (Nat×Obj)),m=ns.length-i∧i≤ns.length∧j=(ns.length:Int)-1-i∧-1≤j∧RvOk ns i ns'∧Gr Lg' 1 (Qd ns') c∧Kn H0 H1 E (B++Lg')∧
  e1=[(0,.c c),(2,.c (.int .i64 i)),(3,.c (.int .i64 j))]) ns.length ?_ ?_)
 ·exact⟨0,(ns.length:Int)-1,ns,Lg,by omega,by omega,by omega,by omega,RvOk.zero ns,hgr,kn,rfl⟩
 ·rintro m e1 H1 ⟨i,j,ns',Lg',hm,hi,hj,hj0,hp,hgr,kn,rfl⟩
  have hpl:=hp.len
  refine Q3 ?_
  refine Qa ?_
  simp only[go_sem,how]
  refine Qh (Qf rfl ?_ ?_)
  ·intro hc
   have hij:(i:Int)<j:=of_decide_eq_true hc
   obtain⟨jn,rfl⟩:=Int.eq_ofNat_of_zero_le (by omega:0≤j)
   have hil:i<ns'.length:=by omega
   have hjl:jn<ns'.length:=by omega
   obtain⟨z,rfl,rfl⟩:∃z,c=.vsl z 1 0 ns'.length∧Lg'=[(z,.vec 1 (Qd ns'))]:=by
    rcases hgr with ⟨_,h,_⟩|⟨y,h1,h2⟩
    ·have:ns'.length=0:=by rw[←Qc,h];rfl
     omega
    ·exact⟨y,by rw[h1,Qc],h2⟩
   have hz:=kn.l B.length (l:=z) (o:=.vec 1 (Qd ns')) (by simp)
   have htk:(Qd ns').take ns'.length=Qd ns':=List.take_of_length_le (by rw[Qc];exact Nat.le_refl _)
   refine Qi ?_
   simp only[go_sem]
   refine Qh (Qe ?_)
   refine Qbt ?_
   simp only[go_sem,hz,hil,hjl,htk,Qc,Qt _ _ hil,Qt _ _ hjl,Q4f,Nat.zero_add,Nat.le_refl]
   intro H2 h2
   have kn2:=kn.stL B.length (x:=z) (o:=.vec 1 (Qd ns')) (by simp) h2
   have kn:Kn H0 H2 E (B++[(z,.vec 1 (Qd (ns'.set i (ns'.getD jn 0))))]):=by simpa using kn2
   have hz:=kn.l B.length (l:=z) (o:=.vec 1 (Qd (ns'.set i (ns'.getD jn 0)))) (by simp)
   have hjl2:jn<(ns'.set i (ns'.getD jn 0)).length:=by simpa using hjl
   simp only[go_sem,Qua,hz,hjl,Qc,List.length_set,Qt _ _ hjl2,Q4f,Nat.zero_add,Nat.le_refl]
   intro H3 h3
   have kn3:=kn.stL B.length (x:=z) (o:=.vec 1 (Qd (ns'.set i (ns'.getD jn 0)))) (by simp) h3
   have kn:Kn H0 H3 E (B++[(z,.vec 1 (Qd ((ns'.set i (ns'.getD jn 0)).set jn (ns'.getD i 0))))]):=by simpa using kn3
   have hlen2:((ns'.set i (ns'.getD jn 0)).set jn (ns'.getD i 0)).length=ns'.length:=by simp
   refine Qv ?_
   simp only[go_sem,X.next]
   refine⟨Qq (by omega) (by omega),Qq (by omega) (by omega),ns.length-(i+1),by omega,i+1,(jn:Int)-1,(ns'.set i (ns'.getD jn 0)).set jn (ns'.getD i 0),[(z,.vec 1 (Qd ((ns'.set i (ns'.getD jn 0)).set jn (ns'.getD i 0))))],rfl,by omega,by omega,by omega,?_,?_,kn,rfl⟩
   ·exact hp.step (by omega) (by omega)
   ·exact .inr ⟨z,by rw[Qc,hlen2],rfl⟩
  ·intro hc
   refine Qw ?_
   simp only[go_sem,X.next,Q0,Q5,Q6k,List.not_mem_nil]
   have hij:¬(i:Int)<j:=of_decide_eq_false hc
   rw[hp.fin (by omega)]at hgr
   exact⟨fun _=>trivial,hK Lg' H1 hgr kn⟩
theorem Q30 {p rg:Int}{fl:Bool}{rows:List (List C)}{nx:Nat→List Int}(hg:GF rows nx)(hf:Qeb rows.length nx=true)
  (hK:∀(S:List Bool) (o:List Nat) H',Upd H H' []→Dfs (nxN nx) [0] (List.replicate rows.length false) [] S o→K (.c (.sl false 1 (Q9 o.reverse))) H') :
  Qo prog Qdt [.ag [.int .i64 p,.int .i64 rg,.sl fl 5 rows]] H K:=by
 have hn:=hg.n
 have hn0:=Qkf hf
 refine Qs ?_
 refine Qb Qai Qaup ?_
 refine Qa ?_
 simp only[go_sem]
 refine Q3 ?_
 refine Qa ?_
 simp only[go_sem]
 refine Qauf (hg.grd _ _) ?_
 simp only[go_sem,Qrb,hf]
 refine Qh (Qf rfl (fun h=>by simp at h) (fun _=>?_))
 refine Qi ?_
 simp only[go_sem]
 refine Qa ?_
 simp only[go_sem]
 refine Q8q (hg.grd _ _) hf (by omega) fun S o t Lg H1 hgr kn hd=>?_
 have how:=hgr.isOw
 simp only[go_sem,Qrc]
 have hgl:∀x,x<(List.replicate rows.length false).length→∀y∈nxN nx x,y<(List.replicate rows.length false).length:=by
  rw[List.length_replicate];exact fun x hx y hy=>Qwr hf hx hy
 have hx0:∀x∈[0],x<(List.replicate rows.length false).length:=by rw[List.length_replicate];simpa using hn0
 have hcount:=hd.count hgl hx0
 have hc0:cnt (List.replicate rows.length false)=0:=by simp[cnt,List.count_replicate]
 have hcl:=Q0i S
 have hSl:=hd.len
 rw[List.length_replicate]at hSl
 have hol:o.length≤rows.length:=by simp only[List.length_nil]at hcount;omega
 have hgr:Gr Lg 1 (Qd (o.map Int.ofNat)) t:=hgr
 refine Qa ?_
 simp only[go_sem,how]
 refine Qa7u kn hgr (by rw[List.length_map];omega) fun Lg2 H2 hgr kn=>?_
 rw[←List.map_reverse]at hgr
 refine Qa ?_
 simp only[go_sem,how]
 refine Qk ?_
 simp only[go_sem,Q0,Q5,Q6b,List.mem_singleton,forall_eq,RS.op,how]
 exact⟨_,.c _ _ (hgr.frz kn (Qr _)),hK S o _ kn.fin hd⟩
set_option maxHeartbeats 1000000 in
theorem Qats {p rg:Int}{fl:Bool}{rows:List (List C)}{nx:Nat→List Int}(hg:GF rows nx)(hf:Qeb rows.length nx=true)(hid:∀S o,Dfs (nxN nx) [0] (List.replicate rows.length false) [] S o→o.reverse=List.range rows.length)
  (hK:∀fl' (l:List (Int×Int)) H',Upd H H' []→InF rows.length l→l.length≤10000000→K (.c (.sl fl' 1 (edgR l))) H') :
  Qo prog Qhn [.ag [.int .i64 p,.int .i64 rg,.sl fl 5 rows]] H K:=by
 have hn:=hg.n
 refine Qs ?_
 refine Qb Qai Qajl ?_
 refine Qa ?_
 simp only[go_sem]
 refine Qa ?_
 simp only[go_sem]
 refine Q30 hg hf fun S o H1 hu hd=>?_
 rw[hid S o hd]
 obtain⟨ns,hns⟩:∃ns,(List.range rows.length).map Int.ofNat=ns:=⟨_,rfl⟩
 have hnsl:ns.length=rows.length:=by rw[←hns];simp
 have hin:InN rows.length ns:=fun x hx=>by
  rw[←hns]at hx
  obtain⟨y,hy,rfl⟩:=List.mem_map.1 hx
  have:=List.mem_range.1 hy
  exact⟨by simp,by simp;omega⟩
 have hnl:ns.length≤rows.length:=by omega
 have hge:∀i,i<ns.length→ns.getD i 0=(i:Int):=fun i hi=>by
  subst hns
  have:i<rows.length:=by omega
  simp[List.getD_eq_getElem?_getD,this]
 have hnat:Q9 (List.range rows.length)=Qd ns:=by rw[Q9,hns]
 rw[hnat]
 have kn:=(Kn.start0 H).call0 hu
 simp only[go_sem,Qk1]
 refine Qa ?_
 simp only[go_sem]
 intro M hM0 H2 h2
 have kn:=kn.al hM0 h2
 simp only[go_sem,Qk2]
 refine Q3 ?_
 refine Qa ?_
 simp only[go_sem,Qc]
 intro _
 refine Qh (Qe (Qx (fun m e1 H1=>∃(i:Nat) (nl:List (Int×Int)) (ver:Nat),m=ns.length-i∧i≤ns.length∧NowOk (List.range rows.length) i nl∧Kn H H1 [] ([(M,.map ver (mI nl))]++[])∧
  e1=[(1,.c (.pp [.int .i64 p,.int .i64 rg,.sl fl 5 rows])),(3,.c (.sl false 1 (Qd ns))),(4,.c (.mp M)),(15,.c (.sl false 1 (Qd ns))),(16,.c (.int .i64 ns.length)),(17,.c (.int .i64 i))]) ns.length ?_ ?_))
 ·exact⟨0,[],0,by omega,by omega,⟨by simp,fun v=>by simp[lkI]⟩,kn,rfl⟩
 ·rintro m e1 H3 ⟨i,nl,ver,hm,hi,hN,kn,rfl⟩
  have hM:=kn.l 0 rfl
  refine Qa ?_
  simp only[go_sem]
  refine Qh (Qf rfl ?_ ?_)
  ·intro hc
   have hlt:i<ns.length:=by simpa using hc
   refine Qi ?_
   simp only[go_sem]
   refine Qh (Qe ?_)
   refine Qa ?_
   simp only[go_sem,hlt,Qc,Qt _ _ hlt]
   have hri:i<(List.range rows.length).length:=by simpa using (by omega:i<rows.length)
   have hst:=hN.step List.nodup_range hri
   rw[List.getElem_range]at hst
   have hnll:=hN.len
   refine Qv ?_
   simp only[go_sem,hM,hge i hlt,Qg8,Qauo,Qajd]
   refine⟨by simp only[LIM];omega,fun H4 h4=>?_⟩
   have kn:=kn.stL 0 rfl h4
   refine Qv ?_
   simp only[go_sem,X.next]
   exact⟨Qq (by omega) (by omega),ns.length-(i+1),by omega,i+1,_,_,rfl,by omega,hst,kn,rfl⟩
  ·intro hc
   have hie:i=rows.length:=by have:ns.length≤i:=(by simpa using hc);omega
   have hlk:∀v:Int,0≤v→v<rows.length→lkI v nl=some v:=fun v h0 h1=>by
    have hm:v.toNat∈List.range rows.length:=List.mem_range.2 (by omega)
    have h2:=hN.f v
    rw[hie,List.take_of_length_le (by simp),if_pos ⟨h0,hm⟩]at h2
    have h3:(List.range rows.length).idxOf v.toNat=v.toNat:=by
     have:=List.Nodup.idxOf_getElem (List.nodup_range (n:=rows.length)) v.toNat (by simpa using List.mem_range.1 hm)
     simpa using this
    rw[h2,h3]
    have:((v.toNat:Nat):Int)=v:=by omega
    rw[this]
   refine Qw ?_
   simp only[go_sem,X.next]
   refine Qa ?_
   simp only[go_sem]
   refine Q3 ?_
   refine Qa ?_
   simp only[go_sem]
   refine Qbdw (by omega) fun ns1 H4 hu hs1 hm1 hl1=>?_
   have kn:=kn.call0 hu
   have hin1:InN rows.length ns1:=fun x hx=>hin x ((hm1 x).1 hx)
   simp only[go_sem,Qk3,Qc]
   intro _
   refine Qh (Qe (Qx (fun m e1 H1=>∃(i:Nat) (l:List (Int×Int)) (oc:C) (Lg:List (Nat×Obj)),m=ns1.length-i∧i≤ns1.length∧InF rows.length l∧l.length≤1000 * i∧Gr Lg 1 (edgR l) oc∧Kn H H1 [] ([(M,.map ver (mI nl))]++Lg)∧
    e1=[(1,.c (.pp [.int .i64 p,.int .i64 rg,.sl fl 5 rows])),(4,.c (.mp M)),(7,.c oc),(27,.c (.sl false 1 (Qd ns1))),(28,.c (.int .i64 ns1.length)),(29,.c (.int .i64 i))]) ns1.length ?_ ?_))
   ·exact⟨0,[],_,[],by omega,by omega,fun e he=>by simp at he,by simp,.nil 1,kn,rfl⟩
   ·rintro m e1 H5 ⟨i,l,oc,Lg,hm,hi,hl,hll,hgr,kn,rfl⟩
    have hoc:=hgr.isOw
    refine Qa ?_
    simp only[go_sem,hoc]
    refine Qh (Qf rfl ?_ ?_)
    ·intro hc
     have hlt:i<ns1.length:=by simpa using hc
     obtain⟨b0,b1⟩:=hin1 _ (Q0s hlt)
     have hgb:=Qt _ _ hlt
     obtain⟨b,hb⟩:=Int.eq_ofNat_of_zero_le b0
     rw[hb]at hgb b1
     have hbl:b<rows.length:=by omega
     have b0':(0:Int)≤(b:Int):=by omega
     obtain⟨a1,a2,a3,a4,fl5,hrow⟩:=hg.x b hbl
     have hbm:=hg.m b hbl
     refine Qi ?_
     simp only[go_sem]
     refine Q35 (fun e2 H6=>∃(l:List (Int×Int)) (oc:C) (Lg:List (Nat×Obj)),InF rows.length l∧l.length≤1000 * (i+1)∧Gr Lg 1 (edgR l) oc∧Kn H H6 [] ([(M,.map ver (mI nl))]++Lg)∧
      lk 1 e2=.c (.pp [.int .i64 p,.int .i64 rg,.sl fl 5 rows])∧lk 4 e2=.c (.mp M)∧lk 7 e2=.c oc∧lk 27 e2=.c (.sl false 1 (Qd ns1))∧lk 28 e2=.c (.int .i64 ns1.length)∧lk 29 e2=.c (.int .i64 i)) ?_ ?_
     ·intro Q hnr _ _
      refine Qe ?_
      refine Qa ?_
      simp only[go_sem,hoc,hlt,Qc,hgb]
      refine Qa ?_
      simp only[go_sem,hoc,hbl,hrow]
      refine Qbdw (ns:=nx b) (by omega) fun ns2 H6 hu hs2 hm2 hl2=>?_
      have kn:=kn.call0 hu
      have hin2:InN rows.length ns2:=fun x hx=>by
       have:=Qql hf hbl ((hm2 x).1 hx)
       omega
      simp only[go_sem,Qk4,hoc,Qc]
      intro _
      refine Qe (Qx (fun m e1 H1=>∃(j:Nat) (l:List (Int×Int)) (oc:C) (Lg:List (Nat×Obj)),m=ns2.length-j∧j≤ns2.length∧InF rows.length l∧l.length≤1000 * i+j∧Gr Lg 1 (edgR l) oc∧Kn H H1 [] ([(M,.map ver (mI nl))]++Lg)∧
       e1=[(1,.c (.pp [.int .i64 p,.int .i64 rg,.sl fl 5 rows])),(4,.c (.mp M)),(7,.c oc),(9,.c (.int .i64 b)),(27,.c (.sl false 1 (Qd ns1))),(28,.c (.int .i64 ns1.length)),(29,.c (.int .i64 i)),(39,.c (.sl false 1 (Qd ns2))),(40,.c (.int .i64 ns2.length)),(41,.c (.int .i64 j))]) ns2.length ?_ ?_)
      ·exact⟨0,l,oc,Lg,by omega,by omega,hl,by omega,hgr,kn,rfl⟩
      ·rintro m e1 H7 ⟨j,l,oc,Lg,hm,hj,hl,hll,hgr,kn,rfl⟩
       have hM:=kn.l 0 rfl
       have hoc:=hgr.isOw
       refine Qa ?_
       simp only[go_sem,hoc]
       refine Qh (Qf rfl ?_ ?_)
       ·intro hc
        have hltj:j<ns2.length:=by simpa using hc
        obtain⟨c0,c1⟩:=hin2 _ (Q0s hltj)
        have hgc:=Qt _ _ hltj
        generalize ns2.getD j 0=y at *
        have f1:=hlk y c0 c1
        have f2:=hlk (b:Int) b0' b1
        refine Qi ?_
        simp only[go_sem]
        refine Q35 (fun e2 H8=>∃(l:List (Int×Int)) (oc:C) (Lg:List (Nat×Obj)),InF rows.length l∧l.length≤1000 * i+(j+1)∧Gr Lg 1 (edgR l) oc∧Kn H H8 [] ([(M,.map ver (mI nl))]++Lg)∧
         lk 1 e2=.c (.pp [.int .i64 p,.int .i64 rg,.sl fl 5 rows])∧lk 4 e2=.c (.mp M)∧lk 7 e2=.c oc∧lk 9 e2=.c (.int .i64 b)∧lk 27 e2=.c (.sl false 1 (Qd ns1))∧lk 28 e2=.c (.int .i64 ns1.length)∧lk 29 e2=.c (.int .i64 i)∧
         lk 39 e2=.c (.sl false 1 (Qd ns2))∧lk 40 e2=.c (.int .i64 ns2.length)∧lk 41 e2=.c (.int .i64 j)) ?_ ?_
        ·intro Q hnr _ _
         refine Qe ?_
         refine Qa ?_
         simp only[go_sem,hoc,hltj,Qc,hgc]
         refine Qa ?_
         simp only[go_sem,hoc,hM,Qq0,Qaa,Qg8,Qab8,f1,f2]
         refine Qf rfl ?_ ?_
         ·intro hyb
          have hyb:y≤(b:Int):=of_decide_eq_true hyb
          refine Qv ?_
          simp only[go_sem,hoc]
          refine kn.growR (new:=edgR [((b:Int),y)]) hgr (.mk' _ _ _ _) (Qat7 _) (by rw[Qabn,Qabn];simp only[LIM,List.length_cons,List.length_nil];omega) fun t Lg2 H8 hgr ht kn=>?_
          simp only[go_sem,Qk5,ht]
          rw[←Qbgt]at hgr
          refine hnr _ _ ⟨l++[((b:Int),y)],t,Lg2,?_,by simp;omega,hgr,kn,rfl,rfl,rfl,rfl,rfl,rfl,rfl,rfl,rfl,rfl⟩
          intro x hx
          rcases List.mem_append.1 hx with hx|hx
          ·exact hl x hx
          ·simp only[List.mem_singleton]at hx;subst hx
           exact⟨⟨by omega,by omega⟩,c0,c1,hyb⟩
         ·intro _
          refine Qi ?_
          simp only[go_sem]
          exact hnr _ _ ⟨l,oc,Lg,hl,by omega,hgr,kn,rfl,rfl,rfl,rfl,rfl,rfl,rfl,rfl,rfl,rfl⟩
        ·rintro e2 H8 ⟨l,oc,Lg,hl,hll,hgr,kn,l1,l4,l7,l9,l27,l28,l29,l39,l40,l41⟩
         have hoc:=hgr.isOw
         refine Qv ?_
         simp only[go_sem,X.next,l1,l4,l7,l9,l27,l28,l29,l39,l40,l41,hoc]
         exact⟨Qq (by omega) (by omega),ns2.length-(j+1),by omega,j+1,l,oc,Lg,rfl,by omega,hl,hll,hgr,kn,rfl⟩
       ·intro hc
        refine Qw ?_
        simp only[go_sem,X.next]
        exact hnr _ _ ⟨l,oc,Lg,hl,by omega,hgr,kn,rfl,rfl,rfl,rfl,rfl,rfl⟩
     ·rintro e2 H6 ⟨l,oc,Lg,hl,hll,hgr,kn,l1,l4,l7,l27,l28,l29⟩
      have hoc:=hgr.isOw
      refine Qv ?_
      simp only[go_sem,X.next,l1,l4,l7,l27,l28,l29,hoc]
      exact⟨Qq (by omega) (by omega),ns1.length-(i+1),by omega,i+1,l,oc,Lg,rfl,by omega,hl,hll,hgr,kn,rfl⟩
    ·intro hc
     refine Qw ?_
     simp only[go_sem,X.next]
     refine Qa ?_
     simp only[go_sem,hoc]
     refine Qk ?_
     simp only[go_sem,Q0,Q5,Qws,List.mem_singleton,forall_eq,RS.op,hoc]
     exact⟨_,.c _ _ (hgr.frz kn (Qat7 _)),hK _ l _ kn.fin hl (by omega)⟩
end Go.AE.Y

namespace Go.AE.Y
attribute [local go_sem] cond_true cond_false Bool.not_true Bool.not_false
attribute [local instance] Classical.propDecidable
open Go.Proofs.Tryz
variable {H H0:Heap}{K:V→Heap→Prop}{fl:Bool}{q:CodeD}{cs:List CodeD}
theorem Qa08 (ho:q.ok)(hK:∀H',Upd H H' []→K (.ag (Qks q).cells) H') :
  Qo prog Qdv [.ag [.int .i64 q.params,.int .i64 q.regs,.sl fl 5 (Qp q.blocks)]] H K:=by
 have hb1:=ho.b1
 refine Qs ?_
 refine Qb Qai Q4k ?_
 refine Qa ?_
 simp only[go_sem]
 intro x2 hx2 H1 h1
 have kn:=(Kn.start0 H).al hx2 h1
 refine Qag ?_
 simp only[go_sem]
 refine Q30 (rows:=Qp q.blocks) (nx:=gnx q) (Qacn ho.gd) (by rw[Ql];exact ho.fitB) fun S o H2 hu hd=>?_
 rw[Ql]at hd
 have hv:Qab1 q S o:=hd
 have hpk:=Qbdz ho
 have he:ordL q=o.reverse:=by rw[ordL,Q51 hv]
 have kn:=kn.call0 hu
 rw[←he]
 simp only[go_sem,Qgc]
 refine Qa69 ho hpk.1 hpk.2 fun H3 hu=>?_
 have kn:=kn.call0 hu
 have hx2:=kn.l 0 rfl
 simp only[go_sem,Qgb,CodeD.cells,hx2]
 intro H4 h4
 have kn:=kn.stL 0 rfl h4
 have hx2:=kn.l 0 rfl
 refine Qk ?_
 simp only[go_sem,Q0,Q5,Qku,List.mem_singleton,forall_eq,RS.op,hx2]
 exact⟨_,FrzL.ag (.cons (.same _ rfl) (.cons (.same _ rfl) (.cons (.same _ rfl) .nil))),hK _ kn.fin⟩
theorem Q0u (hfit:∀c∈cs,c.fits)(hK:∀H',Upd H H' []→K (.tup [.ag [.sl false 3 (Qj (Qhk Qks cs))],.c (.bool (Qa0 cs))]) H') :
  Qo prog Qdu [.ag [.sl fl 3 (Qj cs)]] H K:=by
 refine Qs ?_
 refine Qb Qai Qajm ?_
 refine Qa ?_
 simp only[go_sem]
 intro x2 hx2 H1 h1
 have kn:=(Kn.start0 H).al hx2 h1
 simp only[go_sem,Qk6]
 refine Qa ?_
 simp only[go_sem]
 refine Qapa (f:=Qks) hfit (fun hg p hp H K fl hK=>?_) fun H2 hu=>?_
 ·obtain⟨i,hi,rfl⟩:=List.mem_iff_getElem.1 hp
  exact Qa08 (Qdh hg hi) hK
 have kn:=kn.call0 hu
 have hx2:=kn.l 0 rfl
 simp only[go_sem,Qk8,hx2,List.getD_cons_zero,List.getD_cons_succ]
 intro H4 h4
 have kn:=kn.stL 0 rfl h4
 have hx2:=kn.l 0 rfl
 simp only[go_sem,Qk7]
 refine Qk ?_
 simp only[go_sem,X.next,Q0,Q5,Qwt,List.forall_mem_cons,List.not_mem_nil,RS.op,hx2]
 exact⟨fun _=>trivial,_,Qmn (Qjr _) (.c _ _ (Qg rfl)),hK _ kn.fin⟩
theorem Qa8m (hq:q.ok)(hK:∀H',Upd H H' []→K (.ag (Qks q).cells) H') :
  Qo prog Qkh [.ag [.int .i64 q.params,.int .i64 q.regs,.sl false 5 (Qp q.blocks)],.c (.str [111,114,100,101,114])] H K:=by
 have hpk:=Qbdz hq
 refine Qs ?_
 refine Qb Qai Qauw ?_
 refine Qa ?_
 simp only[go_sem]
 intro x4 hx4 H1 h1
 have kn:=(Kn.start0 H).al hx4 h1
 refine Q3 ?_
 refine Qa ?_
 simp only[go_sem]
 refine Qh (Qe ?_)
 refine Qa ?_
 simp only[go_sem]
 refine Qf rfl (fun hc=>absurd hc (by decide)) (fun _=>?_)
 refine Qa ?_
 simp only[go_sem]
 refine Qf rfl (fun _=>?_) (fun hc=>absurd hc (by decide))
 refine Qag ?_
 simp only[go_sem]
 refine Qacp (rows:=Qp q.blocks) (nx:=gnx q) (Qacn hq.gd) (by rw[Ql];exact hq.fitB) fun S o H2 hu hd=>?_
 rw[Ql]at hd
 have hv:Qab1 q S o:=hd
 have he:ordL q=o.reverse:=by rw[ordL,Q51 hv]
 have kn:=kn.call0 hu
 rw[←he]
 simp only[go_sem,Q69]
 refine Qao3 hq hpk.1 fun d z H3 hR hP k2=>?_
 obtain⟨P,hP,hd⟩:=hP
 rw[Qbkb hq hpk.1 hpk.2 hP]at hd
 have hd:d=Qks q:=hd
 subst hd
 have kn:=kn.comp0 k2
 have hx4:=kn.l 0 rfl
 simp only[go_sem,Q68,hx4]
 intro H3 h3
 have kn:Kn H H3 [] ([(x4,.st [.int .i64 q.params,.int .i64 q.regs,.vsl z 5 0 (Qks q).blocks.length])]++[(z,.vec 5 (Qp (Qks q).blocks))]):=kn.stL 0 rfl h3
 have hx4:=kn.l 0 rfl
 have hz:=kn.l 1 rfl
 refine Qk ?_
 simp only[go_sem,X.next,Q0,Q5,Qadd,List.mem_singleton,forall_eq,RS.op,hx4]
 exact⟨_,FrzL.ag (.cons (Qg rfl) (.cons (Qg rfl) (.cons (FrzR.vsl (kn.un 1 rfl) hz (by rw[Ql]) (FrzR.same (Qyl _))) .nil))),hK _ kn.fin⟩
theorem Qa7b {l:List Nat}(h:q.fits):(pkE q l).fits:=fun y hy=>by
 obtain⟨b,hb,rfl⟩:=List.mem_iff_getElem.1 hy
 rw[Q58,pkX]
 by_cases hl:l.getD b 0<q.blocks.length
 ·have:=h _ (List.getElem_mem hl)
  rw[Qa8 hl]
  simpa using this
 ·have e:Qaj q (l.getD b 0)=⟨[],[],0,0,[]⟩:=by rw[Qaj,List.getD_eq_getElem?_getD,List.getElem?_eq_none (by omega)];rfl
  rw[e];simp
theorem Qa65 (cs:List CodeD):Q07 (Qhk Qks cs) (Qa0 cs)=Qhk Qks cs∧(Qa0 cs&&Qa0 (Qhk Qks cs))=Qa0 cs:=by
 cases hg:Qa0 cs with
 |false=>simp[Q07,Qhk,hg]
 |true=>
  have h:=Qa66 hg
  have e:Qhk Qks cs=cs.map Qks:=by rw[Qhk,if_pos hg]
  rw[e,Q07,h];simp
theorem Qatm (hfit:∀c∈cs,c.fits)(hK:∀H',Upd H H' []→K (.tup [.ag [.sl false 3 (Qj (Qhk Qks cs))],.c (.bool (Qa0 cs))]) H') :
  Qo prog Qhz [.ag [.sl fl 3 (Qj cs)]] H K:=by
 refine Qs ?_
 refine Qb Qai Qaj2 ?_
 refine Qa ?_
 simp only[go_sem]
 intro x2 hx2 H1 h1
 have kn:=(Kn.start0 H).al hx2 h1
 simp only[go_sem,Qlu]
 refine Qa ?_
 simp only[go_sem]
 refine Qao2 (f:=Qks) hfit (Q09 (f:=Qks) hfit fun c h=>Qa7b h) (fun hg p hp H K hK=>?_) fun H2 hu=>?_
 ·obtain⟨i,hi,rfl⟩:=List.mem_iff_getElem.1 hp
  exact Qa8m (Qdh hg hi) hK
 rw[(Qa65 cs).1,(Qa65 cs).2]
 have kn:=kn.call0 hu
 have hx2:=kn.l 0 rfl
 simp only[go_sem,Qlw,List.getD_cons_zero,List.getD_cons_succ,hx2]
 intro H3 h3
 have kn:=kn.stL 0 rfl h3
 have hx2:=kn.l 0 rfl
 simp only[go_sem,Qlv]
 refine Qk ?_
 simp only[go_sem,Q0,Q5,Qw4,List.forall_mem_cons,List.not_mem_nil,RS.op,hx2]
 exact⟨fun _=>trivial,_,Qmn (Qjr _) (.c _ _ (Qg rfl)),hK _ kn.fin⟩
end Go.AE.Y

namespace Go.AE.Y
attribute [local go_sem] cond_true cond_false Bool.not_true Bool.not_false
attribute [local instance] Classical.propDecidable
open Go.Proofs.Tryz
variable {H H0:Heap}{K:V→Heap→Prop}{fl:Bool}{cs:List CodeD}
theorem Qabz {bs:List UInt8}(hK:∀(cs:List CodeD) H',Upd H H' []→UnitOk cs→K (.ag [.sl false 3 (Qj cs)]) H') :
  Qo prog Qdd [.c (.sl fl 1 (Qbh bs))] H K:=by
 refine Qs ?_
 refine Qb Qai Q05 ?_
 refine Qa ?_
 simp only[go_sem]
 intro x2 hx2 H1 h1
 have kn:=(Kn.start0 H).al hx2 h1
 refine Qa ?_
 simp only[go_sem]
 refine Qauk fun R H2 hR h2=>?_
 have kn:=kn.al hR h2 (R.o_ne 0)
 simp only[go_sem,Qf0]
 refine Qauj (kn.l 1 rfl) (by omega) fun cs H3 k2 hk3 hk4 hu hok=>?_
 have kn:=kn.callL 1 rfl hu (R.o_ne _)
 have hx2:=kn.l 0 rfl
 simp only[go_sem,Qfz,hx2]
 intro H4 h4
 have kn:=kn.stL 0 rfl h4
 have hx2:=kn.l 0 rfl
 refine Qk ?_
 simp only[go_sem,Q0,Q5,Qjl,List.mem_singleton,forall_eq,RS.op,hx2]
 exact⟨_,Qjr cs,hK cs _ kn.fin hok⟩
theorem Qbdx (hfit:∀c∈cs,c.fits):∀c∈Qhk Qks cs,c.fits:=Q09 (f:=Qks) hfit fun c h=>Qa7b h
theorem Qbdy (hg:Qa0 cs=true):Qhk Qks cs=cs.map Qks∧Qa0 (cs.map Qks)=true∧Qhk Qks (Qhk Qks cs)=Qhk Qks cs:=by
 have e:Qhk Qks cs=cs.map Qks:=by rw[Qhk,if_pos hg]
 have hd:=Qa66 hg
 refine⟨e,hd,?_⟩
 rw[e,Qhk,if_pos hd,List.map_map]
 refine List.map_congr_left fun q hq=>?_
 obtain⟨i,hi,rfl⟩:=List.mem_iff_getElem.1 hq
 exact Qa87 (Qdh hg hi)
set_option maxHeartbeats 8000000 in
theorem FnOrderAgain_c {bs:List UInt8}(hK:∀H',K (.c (.bool true)) H'):Qo prog Qi7 [.c (.sl false 1 (Qbh bs))] H K:=by
 refine Qb Qai Q4l ?_
 have retT':∀(e:Env) (H':Heap),lk 2 e=.c (.bool true)→Q0 Qev K .ret e H':=by
  intro e H' h2
  simp only[go_sem,Q0,Q5,Qev,List.mem_singleton,forall_eq,RS.op,h2]
  exact hK H'
 refine Qa ?_
 simp only[go_sem]
 refine Q3 ?_
 refine Qa ?_
 simp only[go_sem,Qao]
 intro _
 refine Qh (Qf rfl (fun hc=>?_) (fun hc=>?_))
 ·refine Qa ?_
  simp only[go_sem]
  refine Qk ?_
  exact retT' _ _ rfl
 refine Qi ?_
 try simp only[go_sem]
 refine Qa ?_
 simp only[go_sem]
 refine Qabz fun cs H1 hu hok=>?_
 have hfit:=hok.fits
 have hfd:=Qbdx hfit
 obtain⟨ds,hds⟩:∃ds,Qhk Qks cs=ds:=⟨_,rfl⟩
 rw[hds]at hfd
 have kn:=(Kn.start0 H).call0 hu
 simp only[go_sem,Qgo]
 intro x3 hx3 H2 h2
 have kn:=kn.al hx3 h2
 have hx3:=kn.l 0 rfl
 simp only[go_sem,Qgn,hx3]
 intro H3 h3
 have kn:Kn H H3 [] [(x3,.st [.sl false 3 (Qj cs)])]:=kn.stL 0 rfl h3
 have hx3:=kn.l 0 rfl
 refine Qa ?_
 simp only[go_sem,hx3]
 refine Q0u hfit fun H4 hu=>?_
 rw[hds]
 have kn:=kn.call0 hu
 simp only[go_sem,Qgr,List.getD_cons_zero,List.getD_cons_succ]
 intro x4 hx4 H5 h5
 have kn:=kn.al hx4 h5
 have hx4:=kn.l 1 rfl
 simp only[go_sem,Qgq,hx4]
 intro H6 h6
 have kn:Kn H H6 [] [(x3,.st [.sl false 3 (Qj cs)]),(x4,.st [.sl false 3 (Qj ds)])]:=kn.stL 1 rfl h6
 have hx3:=kn.l 0 rfl
 simp only[go_sem,Qgp]
 refine Qa ?_
 simp only[go_sem,hx3]
 refine Qatm hfit fun H7 hu=>?_
 rw[hds]
 have kn:=kn.call0 hu
 simp only[go_sem,Qgu,List.getD_cons_zero,List.getD_cons_succ]
 intro x6 hx6 H8 h8
 have kn:=kn.al hx6 h8
 have hx6:=kn.l 2 rfl
 simp only[go_sem,Qgt,hx6]
 intro H9 h9
 have kn:Kn H H9 [] [(x3,.st [.sl false 3 (Qj cs)]),(x4,.st [.sl false 3 (Qj ds)]),(x6,.st [.sl false 3 (Qj ds)])]:=kn.stL 2 rfl h9
 have hx4:=kn.l 1 rfl
 have hx6:=kn.l 2 rfl
 simp only[go_sem,Qgs]
 refine Q3 ?_
 cases hg:Qa0 cs with
 |false=>
  refine Qa ?_
  simp only[go_sem,hg,hx4,hx6,decide_true]
  refine Qcm fun H10 hu=>?_
  have kn:=kn.call0 hu
  have hx4:=kn.l 1 rfl
  have hx6:=kn.l 2 rfl
  simp only[go_sem,Qcv]
  refine Qh (Qf rfl ?_ ?_)
  ·intro _
   refine Qa ?_
   simp only[go_sem,hx4,hx6,decide_true]
   refine Qcm fun H11 hu=>?_
   simp only[go_sem,Qfl]
   refine Qk ?_
   exact retT' _ _ rfl
  ·intro h;simp at h
 |true=>
  obtain⟨hdm,hgd,hda⟩:=Qbdy hg
  rw[hds]at hdm hda
  rw[←hdm]at hgd
  have hgc:=hg
  have hge:=hgd
  have hdl:ds.length=cs.length:=by rw[hdm,List.length_map]
  have h14:=(of_decide_eq_true hgd).1
  refine Qa ?_
  simp only[go_sem,hg,hx4,hx6,decide_true]
  refine Qcm fun H10 hu=>?_
  have kn:=kn.call0 hu
  simp only[go_sem,Qcv]
  refine Qh (Qf rfl ?_ ?_)
  ·intro h;simp at h
  intro _
  refine Qi ?_
  try simp only[go_sem]
  have kn:Kn H H10 [] [(x3,.st [.sl false 3 (Qj cs)]),(x4,.st [.sl false 3 (Qj ds)])]:=Kn.drop (A:=[_,_]) (B:=[_]) kn
  have hx4:=kn.l 1 rfl
  refine Qa ?_
  simp only[go_sem,hx4]
  refine Q0u hfd fun H11 hu=>?_
  have kn:=kn.call0 hu
  rw[hge,hda]
  simp only[go_sem,Qfo,List.getD_cons_zero,List.getD_cons_succ]
  intro x8 hx8 H12 h12
  have kn:=kn.al hx8 h12
  have hx8:=kn.l 2 rfl
  simp only[go_sem,Qfn,hx8]
  intro H13 h13
  have kn:Kn H H13 [] [(x3,.st [.sl false 3 (Qj cs)]),(x4,.st [.sl false 3 (Qj ds)]),(x8,.st [.sl false 3 (Qj ds)])]:=kn.stL 2 rfl h13
  have hx4:=kn.l 1 rfl
  simp only[go_sem,Qfm]
  refine Q3 ?_
  refine Qa ?_
  simp only[go_sem,hx4,Qu]
  try intro _
  refine Qh (Qe (Qx (fun mm e1 H1=>∃(i:Nat),mm=ds.length-i∧i≤ds.length∧Kn H H1 [] [(x3,.st [.sl false 3 (Qj cs)]),(x4,.st [.sl false 3 (Qj ds)]),(x8,.st [.sl false 3 (Qj ds)])]∧
   lk 4 e1=.c (.ptr x4 0)∧lk 8 e1=.c (.ptr x8 0)∧lk 9 e1=.c (.bool true)∧lk 58 e1=.c (.sl false 3 (Qj ds))∧lk 59 e1=.c (.int .i64 ds.length)∧lk 60 e1=.c (.int .i64 i)) ds.length ?_ ?_))
  ·exact⟨0,by omega,by omega,kn,rfl,rfl,rfl,rfl,rfl,rfl⟩
  ·clear kn hx3 hx4 hx6 hx8
   rintro mm e1 H14 ⟨i,hmm,hi,kn,l4,l8,l9,l58,l59,l60⟩
   have hx4:=kn.l 1 rfl
   have hx8:=kn.l 2 rfl
   refine Qa ?_
   simp only[go_sem,l4,l8,l9,l58,l59,l60]
   refine Qh (Qf rfl ?_ ?_)
   ·intro hc1
    have hlt:i<ds.length:=by simpa using hc1
    have hltc:i<cs.length:=by omega
    obtain⟨q,hq⟩:∃q,cs[i]=q:=⟨_,rfl⟩
    have hqo:q.ok:=by rw[←hq];exact Qdh hgc hltc
    have hdi:ds[i]=Qks q:=by subst hdm;rw[List.getElem_map,hq]
    obtain⟨hdo,hor⟩:=Qa64 hqo
    obtain⟨d,hd⟩:∃d,Qks q=d:=⟨_,rfl⟩
    rw[hd]at hdi hdo hor
    have hid:∀S o,Dfs (nxN (gnx d)) [0] (List.replicate (Qp d.blocks).length false) [] S o→o.reverse=List.range (Qp d.blocks).length:=fun S o h=>by
     rw[Ql]at h⊢
     have hv:Qab1 d S o:=h
     rw[←hor,ordL,Q51 hv]
    have hdn:=hdo.b1
    refine Qi ?_
    try simp only[go_sem]
    refine Q35 (fun e2 H2=>Kn H H2 [] [(x3,.st [.sl false 3 (Qj cs)]),(x4,.st [.sl false 3 (Qj ds)]),(x8,.st [.sl false 3 (Qj ds)])]∧
     lk 4 e2=.c (.ptr x4 0)∧lk 8 e2=.c (.ptr x8 0)∧lk 9 e2=.c (.bool true)∧lk 58 e2=.c (.sl false 3 (Qj ds))∧lk 59 e2=.c (.int .i64 ds.length)∧lk 60 e2=.c (.int .i64 i)) ?_ ?_
    ·intro Q hnr _ _
     refine Qe ?_
     refine Qa ?_
     simp only[go_sem,l4,l8,l9,l58,l59,l60,hlt,Qu,Q6 _ _ hlt,CodeD.cells,hdi]
     intro x11 hx11 H15 h15
     have kn:=kn.al hx11 h15
     have hx11:=kn.l 3 rfl
     simp only[go_sem,Qfp,hx11]
     intro H16 h16
     have kn:Kn H H16 [] [(x3,.st [.sl false 3 (Qj cs)]),(x4,.st [.sl false 3 (Qj ds)]),(x8,.st [.sl false 3 (Qj ds)]),(x11,.st [.int .i64 d.params,.int .i64 d.regs,.sl false 5 (Qp d.blocks)])]:=kn.stL 3 rfl h16
     have hx11:=kn.l 3 rfl
     refine Q3 ?_
     refine Qa ?_
     simp only[go_sem,hx11]
     refine Q30 (rows:=Qp d.blocks) (nx:=gnx d) (Qacn hdo.gd) (by rw[Ql];exact hdo.fitB) fun S o H17 hu hdf=>?_
     have kn:=kn.call0 hu
     rw[hid S o hdf,Ql]
     simp only[go_sem,Qfq,Qad,List.length_range]
     try intro _
     refine Qh (Qe (Qx (fun m2 e1 H1=>∃(j:Nat),m2=d.blocks.length-j∧j≤d.blocks.length∧Kn H H1 [] [(x3,.st [.sl false 3 (Qj cs)]),(x4,.st [.sl false 3 (Qj ds)]),(x8,.st [.sl false 3 (Qj ds)]),(x11,.st [.int .i64 d.params,.int .i64 d.regs,.sl false 5 (Qp d.blocks)])]∧
      lk 4 e1=.c (.ptr x4 0)∧lk 8 e1=.c (.ptr x8 0)∧lk 9 e1=.c (.bool true)∧lk 11 e1=.c (.ptr x11 0)∧lk 58 e1=.c (.sl false 3 (Qj ds))∧lk 59 e1=.c (.int .i64 ds.length)∧lk 60 e1=.c (.int .i64 i)∧
      lk 65 e1=.c (.sl false 1 (Q9 (List.range d.blocks.length)))∧lk 66 e1=.c (.int .i64 d.blocks.length)∧lk 67 e1=.c (.int .i64 j)) d.blocks.length ?_ ?_))
     ·exact⟨0,by omega,by omega,kn,rfl,rfl,rfl,rfl,rfl,rfl,rfl,rfl,rfl,rfl⟩
     ·clear kn hx11 l4 l8 l9 l58 l59 l60
      rintro m2 e2 H18 ⟨j,hm2,hj,kn,l4,l8,l9,l11,l58,l59,l60,l65,l66,l67⟩
      have hx11:=kn.l 3 rfl
      refine Qa ?_
      simp only[go_sem,l4,l8,l9,l11,l58,l59,l60,l65,l66,l67]
      refine Qh (Qf rfl ?_ ?_)
      ·intro hc2
       have hlt2:j<d.blocks.length:=by simpa using hc2
       have hjr:j<(List.range d.blocks.length).length:=by simpa using hlt2
       have hgr:(List.range d.blocks.length).getD j 0=j:=by simp[List.getD_eq_getElem?_getD,hlt2]
       have hne:decide (((j:Nat):Int)=(j:Nat))=true:=decide_eq_true rfl
       refine Qi ?_
       try simp only[go_sem]
       refine Qh (Qe ?_)
       refine Qa ?_
       simp only[go_sem,l4,l8,l9,l11,l58,l59,l60,l65,l66,l67,hlt2,Qad,List.length_range,Qbl _ _ hjr,hgr]
       refine Qa ?_
       simp only[go_sem,hne]
       refine Qf rfl (fun h=>by simp at h) fun _=>?_
       refine Qi ?_
       try simp only[go_sem]
       refine Qv ?_
       simp only[go_sem,l4,l8,l9,l11,l58,l59,l60,l65,l66,l67]
       refine⟨Qq (by omega) (by omega),?_⟩
       show ∃m,_
       exact⟨d.blocks.length-(j+1),by omega,j+1,rfl,by omega,kn,rfl,rfl,rfl,rfl,rfl,rfl,rfl,rfl,rfl,rfl⟩
      ·intro hc2
       refine Qw ?_
       simp only[go_sem,X.next]
       refine Qa ?_
       simp only[go_sem,l4,l8,l9,l11,l58,l59,l60,hx11]
       refine Qats (rows:=Qp d.blocks) (nx:=gnx d) (Qacn hdo.gd) (by rw[Ql];exact hdo.fitB) hid fun fl3 es H19 hu hE hel=>?_
       have kn:=kn.call0 hu
       simp only[go_sem,l4,l8,l9,l58,l59,l60,Qfr,Qabn]
       try intro _
       refine Qe (Qx (fun m2 e1 H1=>∃(j:Nat),m2=es.length-j∧j≤es.length∧Kn H H1 [] [(x3,.st [.sl false 3 (Qj cs)]),(x4,.st [.sl false 3 (Qj ds)]),(x8,.st [.sl false 3 (Qj ds)]),(x11,.st [.int .i64 d.params,.int .i64 d.regs,.sl false 5 (Qp d.blocks)])]∧
        lk 4 e1=.c (.ptr x4 0)∧lk 8 e1=.c (.ptr x8 0)∧lk 9 e1=.c (.bool true)∧lk 58 e1=.c (.sl false 3 (Qj ds))∧lk 59 e1=.c (.int .i64 ds.length)∧lk 60 e1=.c (.int .i64 i)∧
        lk 77 e1=.c (.sl fl3 1 (edgR es))∧lk 78 e1=.c (.int .i64 es.length)∧lk 79 e1=.c (.int .i64 j)) es.length ?_ ?_)
       ·exact⟨0,by omega,by omega,kn,rfl,rfl,rfl,rfl,rfl,rfl,rfl,rfl,rfl⟩
       ·clear kn hx11 l4 l8 l9 l11 l58 l59 l60 l65 l66 l67
        rintro m3 e3 H20 ⟨j2,hm3,hj2,kn,l4,l8,l9,l58,l59,l60,l77,l78,l79⟩
        refine Qa ?_
        simp only[go_sem,l4,l8,l9,l58,l59,l60,l77,l78,l79]
        refine Qh (Qf rfl ?_ ?_)
        ·intro hc3
         have hlt3:j2<es.length:=by simpa using hc3
         obtain⟨x,hx⟩:∃x,es.getD j2 (0,0)=x:=⟨_,rfl⟩
         have hxm:x∈es:=by rw[←hx,List.getD_eq_getElem?_getD,List.getElem?_eq_getElem hlt3];exact List.getElem_mem hlt3
         obtain⟨_,_,_,hxy⟩:=hE x hxm
         have hnl:decide (x.1<x.2)=false:=decide_eq_false (by omega)
         refine Qi ?_
         try simp only[go_sem]
         refine Qh (Qe ?_)
         refine Qa ?_
         simp only[go_sem,l4,l8,l9,l58,l59,l60,l77,l78,l79,hlt3,Qabn,Qbb8 _ _ hlt3,hx,edgC]
         refine Qag ?_
         simp only[go_sem,List.getD_cons_zero,List.getD_cons_succ,hnl]
         refine⟨by omega,by omega,?_⟩
         refine Qf rfl (fun h=>by simp at h) fun _=>?_
         refine Qi ?_
         try simp only[go_sem]
         refine Qv ?_
         simp only[go_sem]
         refine⟨Qq (by omega) (by omega),?_⟩
         show ∃m,_
         exact⟨es.length-(j2+1),by omega,j2+1,rfl,by omega,kn,rfl,rfl,rfl,rfl,rfl,rfl,rfl,rfl,rfl⟩
        ·intro hc3
         refine Qw ?_
         simp only[go_sem,X.next]
         have kn:Kn H H20 [] [(x3,.st [.sl false 3 (Qj cs)]),(x4,.st [.sl false 3 (Qj ds)]),(x8,.st [.sl false 3 (Qj ds)])]:=Kn.drop (A:=[_,_,_]) (B:=[_]) kn
         exact hnr _ _ ⟨kn,rfl,rfl,rfl,rfl,rfl,rfl⟩
    ·rintro e2 H18 ⟨kn,l4,l8,l9,l58,l59,l60⟩
     refine Qv ?_
     simp only[go_sem,l4,l8,l9,l58,l59,l60]
     refine⟨Qq (by omega) (by omega),?_⟩
     show ∃m,_
     exact⟨ds.length-(i+1),by omega,i+1,rfl,by omega,kn,rfl,rfl,rfl,rfl,rfl,rfl⟩
   ·intro hc1
    refine Qw ?_
    simp only[go_sem,X.next]
    refine Qa ?_
    simp only[go_sem,l4,l8,l9,hx4,hx8]
    refine Q0v fun H15 hu=>?_
    have kn:=kn.call0 hu
    simp only[go_sem,Qfs]
    refine Qk ?_
    exact retT' _ _ rfl
end Go.AE.Y

namespace Go.AE.Y
open Go.ChangeShapes Go.WideShapes Go.ChangeAt Go.RowKit
def Qbkk (w:World)(a:Option Addr)(len cap:Nat)(zs:List Int):Prop:=
 (a=none∧len=0∧cap=0∧zs=[])∨
 ∃x,a=some x∧len≤cap∧zs.length=cap∧(∀i,i<zs.length→w.cell? (x.add i)=some (.int .u8 (zs.getD i 0)))∧∀n∈zs,(Lit.int .u8 n).wf=true
theorem Qbf6 (w:World):Sat (fun _=>.none) ⟨fun b=>decide (b<w.heap.size),fun _=>none,fun _=>none⟩ w:=by
 refine⟨fun b hb=>⟨by simp;omega,rfl⟩,⟨0,fun _ _=>rfl⟩,fun b x h=>by simp at h,fun b l p h=>by simp at h,fun l=>trivial⟩
theorem Qbkv {n:Int}(h:(Lit.int .u8 n).wf=true):((UInt8.ofNat n.toNat).toNat:Int)=n:=by
 simp only[Lit.wf,Bool.and_eq_true,decide_eq_true_eq]at h
 have a1:IntKind.min .u8=0:=by decide
 have a2:IntKind.max .u8=255:=by decide
 rw[a1,a2]at h
 rw[UInt8.toNat_ofNat']
 omega
theorem calls_of_acall {P:Program}{f:Nat}(h:∀bs:List UInt8,bs.length≤1048576→Qo P f [.c (.sl false 1 (Qbh bs))] (fun _=>.none) fun v _=>v=.c (.bool true))
  {a0:Option Addr} {len0 cap0:Nat} {z0:List Int} {w:World} (hr:Qbkk w a0 len0 cap0 z0) (hl:len0≤1048576) :
  Calls P f #[.slice a0 len0 cap0] w fun e w'=>e=.returned (.bool true)∧Below w.heap.size w w':=by
 have key:∃bs:List UInt8,bs.length=len0∧RepC w ⟨fun b=>decide (b<w.heap.size),fun _=>none,fun _=>none⟩ (.sl false 1 (Qbh bs)) (.slice a0 len0 cap0):=by
  rcases hr with ⟨rfl,rfl,rfl,rfl⟩|⟨x,rfl,hlc,hz,hcell,hwf⟩
  ·exact⟨[],rfl,.slnil _ _ _⟩
  ·obtain⟨b,off,spot⟩:=x
   have hbl:((z0.take len0).map fun n=>UInt8.ofNat n.toNat).length=len0:=by simp;omega
   by_cases h0:cap0=0
   ·subst h0
    have:len0=0:=by omega
    subst this
    exact⟨[],rfl,.slnil _ _ _⟩
   have hc0:=hcell 0 (by omega)
   have hspot:spot=none:=by simpa[Addr.add]using World.cell?_spot hc0
   subst hspot
   have hadd:∀i,(⟨b,off,none⟩:Addr).add i=⟨b,off+i,none⟩:=by
    intro i
    by_cases h:i=0 <;> simp[Addr.add,h]
   have hb:b<w.heap.size:=by
    rcases Nat.lt_or_ge b w.heap.size with h|h
    ·exact h
    ·simp[World.cell?,Addr.add,Array.getElem?_eq_none h]at hc0
   refine⟨_,hbl,?_⟩
   have hget:∀(i:Nat) (row:List C),(Qbh ((z0.take len0).map fun n=>UInt8.ofNat n.toNat))[i]? = some row→i<len0∧row=[.int .u8 (z0.getD i 0)]:=by
    intro i row hi
    have hlt:i<len0:=by
     rcases Nat.lt_or_ge i len0 with h|h
     ·exact h
     ·rw[List.getElem?_eq_none (by rw[Qao];omega)]at hi;simp at hi
    have hz0:i<z0.length:=by omega
    refine⟨hlt,?_⟩
    simp only[Qbh,List.getElem?_map,List.getElem?_take,if_pos hlt,List.getElem?_eq_getElem hz0,Option.map_some,Option.some.injEq]at hi
    rw[←hi,Qbkv (hwf _ (List.getElem_mem hz0))]
    simp[List.getD_eq_getElem?_getD,hz0]
   have:=RepC.sl (w:=w) (g:=⟨fun b=>decide (b<w.heap.size),fun _=>none,fun _=>none⟩) false 1 (Qbh ((z0.take len0).map fun n=>UInt8.ofNat n.toNat)) b off cap0 (fun i _=>.int .u8 (z0.getD i 0))
    (by rw[Qao,hbl];simp only[LIM];omega) (by simp) (by rw[Qao,hbl];exact hlc) (by simpa using hb)
    (fun i row hi=>by rw[(hget i row hi).2];rfl)
    (fun i row j c hi hj=>by
     obtain⟨h1,rfl⟩:=hget i row hi
     have hj0:j=0:=by
      rcases Nat.eq_zero_or_pos j with h|h
      ·exact h
      ·rw[List.getElem?_eq_none (by simp;omega)]at hj;simp at hj
     subst hj0
     have:=hcell i (by omega)
     rw[hadd]at this
     simpa using this)
    (fun i row j c hi hj=>by
     obtain⟨h1,rfl⟩:=hget i row hi
     have hj0:j=0:=by
      rcases Nat.eq_zero_or_pos j with h|h
      ·exact h
      ·rw[List.getElem?_eq_none (by simp;omega)]at hj;simp at hj
     subst hj0
     simp at hj;subst hj
     exact .int _ _)
   rw[Qao,hbl]at this
   exact this
 obtain⟨bs,hbl,hrep⟩:=key
 have hc:=(h bs (by omega)).2 _ w [.slice a0 len0 cap0] (Qbf6 w) rfl (fun j x u hj hu=>by
  cases j with
  |zero=>simp at hj hu;subst hj;subst hu;exact .c _ _ hrep
  |succ j=>simp at hj)
 refine hc.mono fun e w'=>?_
 rintro⟨v,x,H',g',rfl,rfl,hst,hv⟩
 have:v=.bool true:=by cases hv with|c _ _ h=>cases h;rfl
 subst this
 exact⟨rfl,hst.le.os,hst.le.tape,hst.le.output,hst.le.size,fun k hk=>(hst.le.per k (by simpa using hk)).2⟩
end Go.AE.Y

