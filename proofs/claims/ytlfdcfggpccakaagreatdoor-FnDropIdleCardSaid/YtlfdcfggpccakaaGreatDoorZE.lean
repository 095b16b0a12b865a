/- Part 5 of the proof: the engine, codes, walks and plain laws, each named where it stands. -/
import Derived.Test.YtlfdcfggpccakaaGreatDoorZD
import Derived.Below
import Derived.Defers
import Derived.Laws.Pointers
import Derived.OpenShut
import Derived.ProofKit
import Derived.Recover
import Derived.WalkLawsBesides
import Derived.WalkSmall
open Nat (reduceEqDiff reduceAdd reduceLeDiff reduceLT)
set_option linter.unusedVariables false
set_option linter.unusedSimpArgs false
set_option maxRecDepth 4000
open Array renaming getElem?_eq_none->Jak
open Bool renaming and_eq_true->Jf,false_eq_true->Jap,not_eq_true'->Jat
open Int renaming natCast_nonneg->Jaq
open List renaming getD_eq_getElem?_getD->Ja,mem_singleton->Jb,getElem?_eq_getElem->Jc,mem_append_right->Jd,mem_append_left->Je,take_of_length_le->Jh,getElem_mem->Ji,mem_append->Jj,length_map->Jk,getElem?_eq_none->Jl,take_succ_eq_append_getElem->Jm,getD_cons_succ->Jn,getD_cons_zero->Jo,mem_cons->Jq,mem_map->Jr,length_cons->Js,eq_of_mem_replicate->Jt,length_nil->Ju,map_append->Jv,perm_append_comm->Jw,mem_of_getElem?->Jx,getElem?_eq_some_iff->Jy,drop_eq_nil_of_le->J0,cons_append->J1,filter_cons->J2,length_take->J3,not_mem_nil->J4,forall_mem_cons->J5,getElem?_of_mem->J6,getElem?_set_ne->J7,foldl_cons->J8,nil_append->J9,getElem?_append_right->Jaa,length_append->Jab,drop_eq_getElem_cons->Jad,getElem?_append_left->Jae,mem_or_eq_of_mem_set->Jaf,flatMap_cons->Jag,getElem?_map->Jah,nodup_append->Jai,all_eq_true->Jaj,contains_iff_mem->Jal,length_set->Jam,mem_cons_of_mem->Jao,map_cons->Jar,mem_cons_self->Jas,append_assoc->Jau,getElem?_set->Jav,map_map->Jax,getElem_map->Jaz,nodup_cons->Ja0,map_set->Ja1
open Nat renaming zero_add->Jg,le_refl->Jp,add_sub_cancel_left->Jz,eq_zero_or_pos->Jac,sub_self->Jay,lt_or_ge->Ja2,sub_zero->Ja3,zero_le->Ja4
open Option.some renaming inj->Jan,injEq->Jaw
namespace Go.AE.Y
attribute [local go_sem] cond_true cond_false Bool.not_true Bool.not_false
open Go.Proofs.Tryz
variable {H H0:Heap}{K:V→Heap→Prop}{E L:List (Nat×Obj)}
def Qafh (bs:List Bool)(n:Nat):List Nat:=(List.range n).filter fun r=>bs.getD r false
theorem Qarf (bs:List Bool)(n:Nat):Qafh bs (n+1)=Qafh bs n++if bs.getD n false=true then [n]else []:=by
 simp only[Qafh,List.range_succ,List.filter_append];congr 1;cases h:bs.getD n false
 ·simp[J2,h,- Ja]
 ·simp[J2,h,- Ja]
theorem Qbke {bs:List Bool}{S:RS'}{R:Nat}(h:Mem bs S)(hl:bs.length=R):Qafh bs bs.length=ascL R S:=by
 subst hl;rw[Qafh,ascL];refine List.filter_congr fun r _=>?_;by_cases hs:S r
 ·rw[(h r).2 hs];simp[hs]
 ·have:bs.getD r false=false:=by
   cases hg:bs.getD r false with
   |false=>rfl
   |true=>exact absurd ((h r).1 hg) hs
  rw[this];simp[hs]
theorem Qbpp (bs:List Bool)(n:Nat):(Qafh bs n).length≤n:=by
 have:=List.length_filter_le (fun r=>bs.getD r false) (List.range n);simpa[Qafh]using this
set_option maxHeartbeats 1000000 in
theorem Qbi7 {c:C}{bs:List Bool}(hs:Slc H 1 (Qy bs) c)(how:c.isOw=false)(hl:bs.length≤2 ^ 38)(hK:∀H',Upd H H' []→K (.c (.sl false 1 (Qbq (Qafh bs bs.length)))) H') :
  Qr prog Q5g [.c c] H K:=by
 refine Q3 ?_;refine Qc Qal Qbjt ?_;refine Qa ?_;simp only[go_sem,how];refine Qa ?_;simp only[go_sem,how];refine Qaa ?_;refine Qa ?_;simp only[go_sem,how];have hlen:=hs.len;have hsz:=hs.sz;refine Qh (Qe (Qx (fun m e1 H1=>∃(i:Nat) (t:C) (Lg:List (Nat×Obj)),m=bs.length-i∧i≤bs.length∧Gr Lg 1 (Qbq (Qafh bs i)) t∧Kn H H1 [] ([]++Lg)∧
  e1=[(0,.c c),(3,.c t),(4,.c (.int .i64 i))]) bs.length ?_ ?_))
 ·exact⟨0,_,[],by omega,by omega,.nil 1,Kn.start0 H,rfl⟩
 ·rintro m e1 H1 ⟨i,t,Lg,hm,hi,hgr,kn,rfl⟩;have htw:=hgr.isOw;have hs1:=hs.keep0 kn;have hok1:=eq_true hs1.ok;have hrw1:=hs1.rows;refine Qaa ?_;refine Qa ?_;simp only[go_sem,how,htw,hok1,hlen,Qab];intro _;refine Qh (Qd rfl ?_ ?_)
  ·intro hc;have hlt:i<bs.length:=by simpa using hc
   refine Qg ?_;try simp only[go_sem]
   refine Qd3 (fun e2 H2=>∃(t:C) (Lg:List (Nat×Obj)),Gr Lg 1 (Qbq (Qafh bs (i+1))) t∧Kn H H2 [] ([]++Lg)∧lk 0 e2=.c c∧lk 3 e2=.c t∧lk 4 e2=.c (.int .i64 i)) ?_ ?_
   ·intro Q hnr _ _;refine Qe ?_;refine Qa ?_;simp only[go_sem,how,htw,hok1,hlen,hsz,hrw1,hlt,Qab,Qax _ _ hlt];refine Qd rfl ?_ ?_
    ·intro hc2;refine Qt ?_;simp only[go_sem,how,htw];have hol:=Qbpp bs i;refine kn.growR (B:=[]) (new:=Qbq [i]) hgr (.mk' _ _ _ _) (Qd7 _) (by simp only[Q5x,LIM,Js,Ju];omega) fun t2 Lg2 H3 hgr2 ht2 kn=>?_;simp only[go_sem,Q9i,how,ht2];refine hnr _ _ ⟨t2,Lg2,?_,kn,rfl,rfl,rfl⟩;rw[Qarf,hc2,if_pos rfl,Q5w];exact hgr2
    ·intro hc2;refine Qg ?_;try simp only[go_sem]
     refine hnr _ _ ⟨t,Lg,?_,kn,rfl,rfl,rfl⟩;rw[Qarf,hc2];simpa using hgr
   ·rintro e2 H2 ⟨t2,Lg2,hgr2,kn,l0,l3,l4⟩;have ht2:=hgr2.isOw;refine Qt ?_;simp only[go_sem,X.next,how,ht2,l0,l3,l4];exact⟨Qs (by omega) (by omega),bs.length-(i+1),by omega,i+1,t2,Lg2,rfl,by omega,hgr2,kn,rfl⟩
  ·intro hc;have hge:i=bs.length:=by have:bs.length≤i:=(by simpa using hc);omega
   subst hge;refine Qw ?_;simp only[go_sem,X.next];refine Qa ?_;simp only[go_sem,htw];refine Qk ?_;simp only[go_sem,Q5,Qae,Qayd,Jb,forall_eq,RS.op,htw];exact⟨_,.c _ _ (hgr.frz kn (Qd7 _)),hK _ kn.fin⟩
noncomputable def Qeo (q:CodeD)(b k:Nat):List Nat:=ascL q.regs.toNat ((Q6 q).LB b k)
theorem Qaex {cs:List CodeD}{k:Int}(h:hasG cs k=true):∃(m:Nat) (hm:m<cs.length),k=(m:Int)∧cs[m].ok:=by
 simp only[hasG,Jf,decide_eq_true_eq]at h;obtain⟨h1,h2,h3⟩:=h;refine⟨k.toNat,by omega,by omega,Qly h1 _⟩
end Go.AE.Y
namespace Go.AE.Y
attribute [local instance] Classical.propDecidable
def asS (S:Nat→List Nat)(b:Nat):RS':=fun r=>r∈S b
structure ImInv (F:Flo)(R:Nat)(S:Nat→List Nat):Prop where
 below:F.Below (asS S)
 post:∀b,b<F.n→∀r,asS S b r→F.inT (asS S) b r
 nd:∀b,(S b).Nodup
 lt:∀b,∀r∈S b,r<R
variable {F:Flo}{R:Nat}{S:Nat→List Nat}
theorem ImInv.same {b:Nat}{ks:List Nat}(h:ImInv F R S)(hb:b<F.n)(hnd:ks.Nodup)(hks:∀r,r∈ks↔F.inT (asS S) b r)(hl:ks.length=(S b).length):∀r,F.inT (asS S) b r→asS S b r:=fun r hr=>
 Qax4 (h.nd b) (fun x hx=>(hks x).2 (h.post b hb x hx)) (by omega) r ((hks r).2 hr)
theorem ImInv.step {b:Nat}{ks:List Nat}(h:ImInv F R S)(hf:F.fits)(hb:b<F.n)(hnd:ks.Nodup)(hlt:∀r∈ks,r<R)(hks:∀r,r∈ks↔F.inT (asS S) b r)(hl:¬ks.length=(S b).length) :
  ImInv F R (fun c=>if c=b then ks else S c)∧tot F.n S<tot F.n (fun c=>if c=b then ks else S c):=by
 have hsub:∀r,r∈S b→r∈ks:=fun r hr=>(hks r).2 (h.post b hb r hr);have hle:=Qn8 (h.nd b) hsub;have hS:∀c,c<F.n→∀r,asS S c r→asS (fun c=>if c=b then ks else S c) c r:=fun c _ r hr=>by
  simp only[asS];by_cases hc:c=b
  ·subst hc;rw[if_pos rfl];exact hsub r hr
  ·rw[if_neg hc];exact hr
 refine⟨⟨fun c hc r hr=>?_,fun c hc r hr=>?_,fun c=>?_,fun c r hr=>?_⟩,Qbw7 hb (fun c hc=>?_) ?_⟩
 ·simp only[asS]at hr;by_cases hcb:c=b
  ·subst hcb;rw[if_pos rfl]at hr;exact h.below.inT hf hb r ((hks r).1 hr)
  ·rw[if_neg hcb]at hr;exact h.below c hc r hr
 ·have h1:F.inT (asS S) c r:=by
   simp only[asS]at hr;by_cases hcb:c=b
   ·subst hcb;rw[if_pos rfl]at hr;exact (hks r).1 hr
   ·rw[if_neg hcb]at hr;exact h.post c hc r hr
  exact Flo.inT_mono hf hS hc r h1
 ·by_cases hcb:c=b
  ·subst hcb;simpa using hnd
  ·simpa[hcb]using h.nd c
 ·by_cases hcb:c=b
  ·subst hcb;exact hlt r (by simpa using hr)
  ·exact h.lt c r (by simpa[hcb]using hr)
 ·by_cases hcb:c=b
  ·subst hcb;simpa using hle
  ·simp[hcb]
 ·simp only[if_pos];omega
theorem ImInv.done (h:ImInv F R S)(hc:∀b,b<F.n→∀r,F.inT (asS S) b r→asS S b r){b:Nat}(hb:b<F.n)(r:Nat):r∈S b↔F.LI b r:=
 Flo.is_least hc h.below hb r
theorem ImInv.bound (h:ImInv F R S):tot F.n S≤F.n * R:=Qbw6 fun b _=>Qcg (h.nd b) (h.lt b)
theorem ImInv.start:ImInv F R fun _=>[]:=⟨fun b _ r hr=>absurd hr (by simp[asS]),fun b _ r hr=>absurd hr (by simp[asS]),fun _=>by simp,fun _ r hr=>by simp at hr⟩
end Go.AE.Y
namespace Go.AE.Y
attribute [local go_sem] cond_true cond_false Bool.not_true Bool.not_false
open Go.Proofs.Tryz
variable {H H0 F:Heap}{K:V→Heap→Prop}{E L:List (Nat×Obj)}
variable {q:CodeD}{fl:Bool}{l yi yp:Nat}{ss:List SetO}{pr:List (List C)}
theorem Qbbl {ks:List Nat}{b R:Nat}(h:∀x∈ks,x<R):∀x∈ks.erase b,x<R:=fun x hx=>h x (List.mem_of_mem_erase hx)
theorem Qare {ks:List Nat}{b x:Nat}(h:ks.Nodup):x∈ks.erase b↔x∈ks∧x≠b:=by rw[List.Nodup.mem_erase_iff h,and_comm]
set_option maxHeartbeats 4000000 in
theorem Qadq {b:Nat}{i:Int}(ho:q.ok)(hb:b<q.blocks.length)(hi:-1≤i)(hi2:i<q.blocks[b].ins.length)(him:imOk q ss pr)(kn:Kn F H (imE q fl l yi yp ss pr) [])
  (hK:∀M ver ks H',ks.Nodup→(∀x∈ks,x<q.regs.toNat)→(∀r,r∈ks↔(Q6 q).beh ((Q6 q).outT (tabS ss) b) b (i+1).toNat r)→Kn F H' (imE q fl l yi yp ss pr) [(M,.map ver (Qas ks))]→K (.c (.mp M)) H') :
  Qr prog Qbv [.c (.ptr l 0),.c (.int .i64 b),.c (.int .i64 i)] H K:=by
 have hr0:=ho.r0;have hr1:=ho.r1;obtain⟨y,hy⟩:∃y,q.blocks[b]=y:=⟨_,rfl⟩;have hyo:y.ok q b:=by rw[←hy];exact ho.bs b hb
 have hil:y.ins.length≤1200∧y.phis.length≤1200:=by rw[←hy];exact ho.il b hb
 rw[hy]at hi2;have hon:(Q6 q).on b=if y.jump=1 then []else [y.on.toNat]:=by rw[Qasa hb,hy]
 have hins:(Q6 q).ins b=y.ins.map fun x=>(Qgd x,toN x.args):=by rw[Qaeh hb,hy]
 refine Qc Qal Qabc ?_;refine Qa ?_;simp only[go_sem];refine Qa ?_;simp only[go_sem];refine Qbwh ho hb him kn fun M ver ks H1 hnd hlt hks kn=>?_;generalize (Q6 q).outT (tabS ss) b=W at *;obtain⟨hl,_,_⟩:=Q5n kn;simp only[go_sem,Qjl];refine Qa ?_;simp only[go_sem,hl,hb,Ql,Q1 _ _ hb,BlkD.cells,hy];intro x8 hx8 H2 h2;have kn:=kn.al hx8 h2;have hx8:=kn.l 1 rfl;simp only[go_sem,Qjm,hx8];intro H3 h3;have kn:Kn F H3 (imE q fl l yi yp ss pr) [(M,.map ver (Qas ks)),(x8,blkC y)]:=kn.stL 1 rfl h3;refine Qaa ?_;refine Qa ?_;have hx8:H3 x8=.st [.sl false 2 (Q7 y.phis),.sl false 4 (Qag y.ins),.int .i64 y.jump,.int .i64 y.on,.sl false 1 (Qb y.next)]:=kn.l 1 rfl;have hM:=kn.l 0 rfl;have hkl:=Qcg hnd hlt;simp only[go_sem,hx8];refine Qad3 ?_;refine Qd3 (fun e2 H4=>∃(ver:Nat) (ks1:List Nat),ks1.Nodup∧(∀x∈ks1,x<q.regs.toNat)∧(∀r,r∈ks1↔(Q6 q).endS W b r)∧Kn F H4 (imE q fl l yi yp ss pr) [(M,.map ver (Qas ks1)),(x8,blkC y)]∧
  lk 2 e2=.c (.int .i64 i)∧lk 7 e2=.c (.mp M)∧lk 8 e2=.c (.ptr x8 0)) ?_ ?_
 ·intro Q hnr _ _;refine Qd rfl ?_ ?_
  ·intro hc;have hj:¬y.jump=1:=by simp at hc;omega
   obtain⟨hv,hvl⟩:=(hyo.on hj).nat;generalize hr:y.on.toNat=r at *;refine Qt ?_;simp only[go_sem,hx8,hM,hv,Qc9,Qi4,Q40];refine⟨by simp only[LIM];omega,fun H4 h4=>?_⟩;have kn:=kn.stL 0 rfl h4;refine hnr _ _ ⟨_,addK ks r,Qxs hnd,Qar5 hlt hvl,fun x=>?_,kn,rfl,rfl,rfl⟩;rw[addK_mem,hks,Flo.endS,hon,if_neg hj,Jb]
  ·intro hc;have hj:y.jump=1:=by
    have:=hyo.jmp;simp at hc;omega
   refine Qg ?_;try simp only[go_sem]
   refine hnr _ _ ⟨ver,ks,hnd,hlt,fun x=>?_,kn,rfl,rfl,rfl⟩;rw[hks,Flo.endS,hon,if_pos hj];simp
 ·clear hks hnd hlt kn hx8 hM hkl;rintro e2 H4 ⟨ver,ks,hnd,hlt,hks,kn,l2,l7,l8⟩;have hx8:H4 x8=.st [.sl false 2 (Q7 y.phis),.sl false 4 (Qag y.ins),.int .i64 y.jump,.int .i64 y.on,.sl false 1 (Qb y.next)]:=kn.l 1 rfl;refine Qaa ?_;refine Qa ?_;simp only[go_sem,l2,l7,l8,hx8,Q4];intro _;refine⟨Qs (by omega) (by omega),?_⟩;refine Qh (Qe (Qx (fun m e1 H1=>∃(k:Nat) (j:Int) (ver:Nat) (ks:List Nat),m=k∧k≤y.ins.length∧i+1≤k∧j=(k:Int)-1∧ks.Nodup∧(∀x∈ks,x<q.regs.toNat)∧(∀r,r∈ks↔(Q6 q).beh W b k r)∧Kn F H1 (imE q fl l yi yp ss pr) [(M,.map ver (Qas ks)),(x8,blkC y)]∧
   lk 2 e1=.c (.int .i64 i)∧lk 7 e1=.c (.mp M)∧lk 8 e1=.c (.ptr x8 0)∧lk 9 e1=.c (.int .i64 j)) y.ins.length ?_ ?_))
  ·refine⟨y.ins.length,_,ver,ks,rfl,Jp _,by omega,rfl,hnd,hlt,fun r=>?_,kn,rfl,rfl,rfl,rfl⟩;rw[hks,Flo.beh_end _ _ _ (by rw[hins,Jk];exact Jp _)]
  ·clear hks hnd hlt kn hx8 l2 l7 l8;rintro m e1 H5 ⟨k,j,ver,ks,rfl,hk,hik,hjk,hnd,hlt,hks,kn,l2,l7,l8,l9⟩;have hx8:H5 x8=.st [.sl false 2 (Q7 y.phis),.sl false 4 (Qag y.ins),.int .i64 y.jump,.int .i64 y.on,.sl false 1 (Qb y.next)]:=kn.l 1 rfl;refine Qaa ?_;refine Qa ?_;simp only[go_sem,l2,l7,l8,l9];refine Qh (Qd rfl ?_ ?_)
   ·intro hc;have hgt:i<j:=(by simpa using hc);obtain⟨k,rfl⟩:∃k',m=k'+1:=⟨m-1,by omega⟩;have hj:j=(k:Int):=(by omega);subst hj;have hkl:k<y.ins.length:=(by omega);obtain⟨x,hx⟩:∃x,y.ins[k]=x:=⟨_,rfl⟩;have hxm:x∈y.ins:=(by rw[←hx];exact Ji hkl);have hstep:(Q6 q).beh W b k=Qaso (Qgd x,toN x.args) ((Q6 q).beh W b (k+1)):=by
     rw[Flo.beh_step _ _ _ (by rw[hins,Jk];exact hkl)];simp only[hins,Jaz,hx]
    refine Qg ?_;try simp only[go_sem]
    refine Qd3 (fun e2 H6=>∃(ver:Nat) (ks:List Nat),ks.Nodup∧(∀x∈ks,x<q.regs.toNat)∧(∀r,r∈ks↔(Q6 q).beh W b k r)∧Kn F H6 (imE q fl l yi yp ss pr) [(M,.map ver (Qas ks)),(x8,blkC y)]∧
     lk 2 e2=.c (.int .i64 i)∧lk 7 e2=.c (.mp M)∧lk 8 e2=.c (.ptr x8 0)∧lk 9 e2=.c (.int .i64 k)) ?_ ?_
    ·intro Q hnr _ _;refine Qe ?_;refine Qaa ?_;refine Qa ?_;simp only[go_sem,hx8,hkl,Q4,Qbd _ _ hkl,InsD.take4,InsD.allOw,InsD.len4,hx];refine Qbeb ?_;simp only[go_sem,Qjn];refine Qaa ?_;refine Qa ?_;simp only[go_sem];refine Qd3 (fun e2 H6=>∃(ver:Nat) (ks1:List Nat),ks1.Nodup∧(∀x∈ks1,x<q.regs.toNat)∧(∀r,r∈ks1↔(Q6 q).beh W b (k+1) r∧Qgd x≠some r)∧Kn F H6 (imE q fl l yi yp ss pr) [(M,.map ver (Qas ks1)),(x8,blkC y)]∧
      lk 2 e2=.c (.int .i64 i)∧lk 7 e2=.c (.mp M)∧lk 8 e2=.c (.ptr x8 0)∧lk 9 e2=.c (.int .i64 k)) ?_ ?_
     ·intro Q hnr _ _;refine Qd rfl ?_ ?_
      ·intro hc2;have hmk:Qb9 x.op=true:=by
        cases hmk:Qb9 x.op with
        |true=>rfl
        |false=>simp[Q2t,hmk]at hc2
       obtain⟨hv,hvl⟩:=(hyo.to x hxm hmk).nat;have hmi:Q2t x=x.to:=(by rw[Q2t,hmk];rfl);have hmo:Qgd x=some x.to.toNat:=(by rw[Qgd,hmk];rfl);have hM:=kn.l 0 rfl;rw[hmi];rw[hmo]at hnr;generalize hr:x.to.toNat=r at *;refine Qt ?_;simp only[go_sem,hM,hv,Qc9,Qi4,Qaq1];intro H6 h6;have kn:=kn.stL 0 rfl h6;refine hnr _ _ ⟨_,ks.erase r,hnd.erase _,Qbbl hlt,fun z=>?_,kn,rfl,rfl,rfl,rfl⟩;rw[Qare hnd,hks];simp[eq_comm]
      ·intro hc2;have hmk:Qb9 x.op=false:=by
        cases hmk:Qb9 x.op with
        |false=>rfl
        |true=>
         have:=(hyo.to x hxm hmk).1;simp[Q2t,hmk]at hc2;omega
       have hmo:Qgd x=none:=(by rw[Qgd,hmk];rfl);rw[hmo]at hnr;refine Qg ?_;try simp only[go_sem]
       exact hnr _ _ ⟨ver,ks,hnd,hlt,fun z=>by rw[hks];simp,kn,rfl,rfl,rfl,rfl⟩
     ·clear hks hnd hlt kn hx8 l2 l7 l8 l9;rintro e2 H6 ⟨ver,ks,hnd,hlt,hks,kn,l2,l7,l8,l9⟩;have hx8:H6 x8=.st [.sl false 2 (Q7 y.phis),.sl false 4 (Qag y.ins),.int .i64 y.jump,.int .i64 y.on,.sl false 1 (Qb y.next)]:=kn.l 1 rfl;have hM:=kn.l 0 rfl;refine Qt ?_;simp only[go_sem,l2,l7,l8,l9,hx8,hkl,Q4,Qbd _ _ hkl,InsD.cells,hx];refine Qbxc (R:=q.regs.toNat) hM hnd hlt (by omega) (fun v hv=>by have:=(hyo.args x hxm v hv);exact⟨this.1,this.nat.2⟩) fun ver' ks' H7 hu hnd' hks'=>?_;have kn:=kn.callL 0 rfl hu (by simp);refine hnr _ _ ⟨ver',ks',hnd',fun z hz=>?_,fun r=>?_,kn,rfl,rfl,rfl,rfl⟩
      ·rcases (hks' z).1 hz with h|h
       ·exact hlt z h
       ·obtain⟨v,hv,rfl⟩:=Jr.1 h;exact (hyo.args x hxm v hv).nat.2
      ·rw[hks',hks,hstep];exact Or.comm
    ·clear hks hnd hlt kn hx8 l2 l7 l8 l9;rintro e2 H6 ⟨ver,ks,hnd,hlt,hks,kn,l2,l7,l8,l9⟩;refine Qt ?_;simp only[go_sem,l2,l7,l8,l9];refine⟨Qs (by omega) (by omega),?_⟩;show ∃m,_;exact⟨k,by omega,k,(k:Int)-1,ver,ks,rfl,by omega,by omega,rfl,hnd,hlt,hks,kn,rfl,rfl,rfl,rfl⟩
   ·intro hc;have hle:¬i<j:=(by simpa using hc);refine Qw ?_;try simp only[go_sem,X.next]
    refine Qa ?_;simp only[go_sem,l7];refine Qk ?_;simp only[go_sem,Q5,Qae,Qo9,Jb,forall_eq,RS.op];have e1:(i+1).toNat=m:=(by omega);exact hK M ver ks H5 hnd hlt (fun r=>by rw[e1];exact hks r) (kn.drop (A:=[_]))
end Go.AE.Y
namespace Go.AE.Y
attribute [local go_sem] cond_true cond_false Bool.not_true Bool.not_false
open Go.Proofs.Tryz
variable {H H0 F:Heap}{K:V→Heap→Prop}{E L:List (Nat×Obj)}
def Qx1 (ss:List SetO)(b:Nat):List Nat:=(ss[b]?.map SetO.ks).getD []
theorem Qbto {ss:List SetO}{b:Nat}(h:b<ss.length):Qx1 ss b=ss[b].ks:=by simp[Qx1,h]
theorem Qbog {ss:List SetO}{b:Nat}{s:SetO}(h:b<ss.length):Qx1 (ss.set b s)=fun c=>if c=b then s.ks else Qx1 ss c:=by
 funext c
 by_cases hc:c=b
 ·subst hc;simp[Qx1,h]
 ·simp only[Qx1,hc,if_false];rw[J7 (fun e=>hc e.symm)]
set_option maxHeartbeats 4000000 in
theorem Qbbz {q:CodeD}{fl:Bool}(ho:q.ok)(kn:Kn H0 H E L)
  (hK:∀l yi yp ss pr H',imOk q ss pr→(∀b,b<q.blocks.length→∀r,tabS ss b r↔(Q6 q).LI b r)→Kn H0 H' E (imE q fl l yi yp ss pr++L)→K (.c (.ptr l 0)) H') :
  Qr prog Qka [.ag [.int .i64 q.params,.int .i64 q.regs,.sl fl 5 (Qn q.blocks)]] H K:=by
 have hr0:=ho.r0;have hr1:=ho.r1;have hb0:=ho.b0;have hb1:=ho.b1;have hfit:=ho.fitsF;have hFn:(Q6 q).n=q.blocks.length:=rfl;obtain⟨n,hn⟩:∃n,q.blocks.length=n:=⟨_,rfl⟩;refine Qc Qal Qa44 ?_;refine Qa ?_;simp only[go_sem];refine Qaj ?_;simp only[go_sem,Ql,hn];refine⟨by simp only[LIM];omega,fun yi hyi H1 h1=>?_⟩;have kn:=kn.al hyi h1;simp only[go_sem,Qz5];intro l hl H2 h2;have kn:=kn.al hl h2;simp only[go_sem,Qz4];refine Qaa ?_;refine Qa ?_;simp only[go_sem,Ql,hn];intro _;refine Qh (Qe (Qx (fun m e1 H1=>∃(i:Nat) (cp:C) (Lg:List (Nat×Obj)) (pr:List (List C)),m=n-i∧i≤n∧pr.length=i∧(∀b,b<i→∃fl,pr.getD b []=[.sl fl 1 (Qb (Qav (gnx q) (b:Int) n))])∧(∀r∈pr,noOw r=true)∧Gr Lg 1 pr cp∧
  Kn H0 H1 E (([(l,.st [.int .i64 q.params,.int .i64 q.regs,.sl fl 5 (Qn q.blocks),.vsl yi 1 0 n,cp]),(yi,.vec 1 (List.replicate n [.mnil]))]++L)++Lg)∧
  e1=[(1,.c (.pp [.int .i64 q.params,.int .i64 q.regs,.sl fl 5 (Qn q.blocks)])),(3,.c (.ptr l 0)),(19,.c (.int .i64 n)),(20,.c (.int .i64 i))]) n ?_ ?_))
 ·refine⟨0,_,[],[],by omega,by omega,rfl,fun b hb=>by omega,by simp,.nil 1,?_,rfl⟩;refine kn.perm (Qp fun f hf h0 hc hp=>?_);have e1:=hc (l,.st [.int .i64 q.params,.int .i64 q.regs,.sl fl 5 (Qn q.blocks),.vsl yi 1 0 n,.sl true 1 []]) [(yi,.vec 1 (List.replicate n [.mnil]))];simp only[hf,e1,h0];omega
 ·clear kn h1 h2 hl hyi;rintro m e1 H3 ⟨i,cp,Lg,pr,hm,hi,hpl,hpr,hpo,hgr,kn,rfl⟩;have hcw:=hgr.isOw;refine Qa ?_;simp only[go_sem];refine Qh (Qd rfl ?_ ?_)
  ·intro hc;have hlt:i<n:=by simpa using hc
   have hltq:i<q.blocks.length:=by omega
   have hl:=kn.l 0 rfl;refine Qg ?_;try simp only[go_sem]
   refine Qh (Qe ?_);refine Qa ?_;simp only[go_sem];refine Qbn ?_;simp only[go_sem,hl,hcw];refine Qad7 (rows:=Qn q.blocks) (nx:=gnx q) (Qadw _ q fl) fun fl' H4 hu=>?_;have kn:=kn.call0 hu;have hl:=kn.l 0 rfl;have hin:(decide (0≤(i:Int))&&decide ((i:Int)≤((Qn q.blocks).length:Int)-1))=true:=by rw[Ql];simp;omega
   rw[Q08,if_pos hin,Ql,hn];simp only[go_sem,Qz7,hl,hcw];refine kn.growR hgr (.mk' _ _ _ _) (by intro r hr;simp at hr;subst hr;rfl) (by simp only[LIM,Js,Ju];omega) fun cp2 Lg2 H5 hgr2 hcw2 kn=>?_;have hl:=kn.l 0 rfl;simp only[go_sem,Qz6,hl,hcw2];intro H6 h6;have kn:=kn.stL 0 rfl h6;refine Qt ?_;simp only[go_sem,X.next];refine⟨Qs (by omega) (by omega),n-(i+1),by omega,i+1,cp2,Lg2,pr++[[.sl fl' 1 (Qb (Qav (gnx q) (i:Int) n))]],rfl,by omega,by simp[hpl],fun b hb=>?_,?_,hgr2,kn,rfl⟩
   ·by_cases hbi:b<i
    ·obtain⟨fl2,h⟩:=hpr b hbi;refine⟨fl2,?_⟩;rw[←h];simp[Ja,Jae (show b<pr.length by omega)]
    ·have:b=i:=(by omega);subst this;refine⟨fl',?_⟩;rw[Ja,Jaa (by omega)];simp[hpl]
   ·intro r hr;rcases Jj.1 hr with hr|hr
    ·exact hpo r hr
    ·simp at hr;subst hr;rfl
  ·intro hc;have hin:i=n:=by have:n≤i:=(by simpa using hc);omega
   subst hin;obtain⟨yp,hyp,hLg⟩:∃yp,cp=.vsl yp 1 0 i∧Lg=[(yp,.vec 1 pr)]:=by
    rcases hgr with ⟨_,h,_⟩|⟨y,h1,h2⟩
    ·rw[h]at hpl;simp at hpl;omega
    ·exact⟨y,by rw[h1,hpl],h2⟩
   have hset0:Qxo (List.replicate i (SetO.mk .mnil [] []))=List.replicate i [.mnil]:=by simp[Qxo]
   have hfm0:(List.replicate i (SetO.mk .mnil [] [])).flatMap SetO.lg=[]:=by
    rw[List.flatMap_eq_nil_iff];intro x hx;rw[Jt hx]
   have kn:Kn H0 H3 E (imE q fl l yi yp (List.replicate i (SetO.mk .mnil [] [])) pr++L):=by
    refine kn.perm (Qp fun f hf h0 hc hp=>?_);rw[hLg,hyp];simp only[imE,hset0,hfm0,hn,hf,h0];have e1:=hc (l,.st [.int .i64 q.params,.int .i64 q.regs,.sl fl 5 (Qn q.blocks),.vsl yi 1 0 i,.vsl yp 1 0 i]) [(yi,.vec 1 (List.replicate i [.mnil])),(yp,.vec 1 pr)];have e2:=hc (l,.st [.int .i64 q.params,.int .i64 q.regs,.sl fl 5 (Qn q.blocks),.vsl yi 1 0 i,.vsl yp 1 0 i]) [(yi,.vec 1 (List.replicate i [.mnil]))];have e3:=hc (yi,.vec 1 (List.replicate i [.mnil])) [(yp,.vec 1 pr)];omega
   have hks0:Qx1 (List.replicate i (SetO.mk .mnil [] []))=fun _=>[]:=by
    funext b
    simp only[Qx1];rw[List.getElem?_replicate];split <;> rfl
   have hinv:ImInv (Q6 q) q.regs.toNat (Qx1 (List.replicate i (SetO.mk .mnil [] []))):=by rw[hks0];exact .start
   have him:imOk q (List.replicate i (SetO.mk .mnil [] [])) pr:=by
    refine⟨by simp[hn],fun s hs=>?_,by omega,fun b hb=>by rw[hn];exact hpr b (by omega)⟩;rw[Jt hs];exact⟨by simp,by simp,.inl ⟨rfl,rfl,rfl⟩⟩
   generalize List.replicate i (SetO.mk .mnil [] [])=ss at kn hinv him;clear hset0 hfm0 hks0 hLg hyp hgr hcw hpr hpl hpo hc hm hi;refine Qw ?_;simp only[go_sem,X.next];refine Qaa ?_;refine Qa ?_;simp only[go_sem];refine Qh (Qe (Qx (fun m e1 H1=>∃(ss:List SetO) (a:Bool),m=(if a=true then i * q.regs.toNat+1-tot i (Qx1 ss)else 0)∧imOk q ss pr∧ImInv (Q6 q) q.regs.toNat (Qx1 ss)∧(a=false→∀b,b<i→∀r,(Q6 q).inT (asS (Qx1 ss)) b r→asS (Qx1 ss) b r)∧
    Kn H0 H1 E (imE q fl l yi yp ss pr++L)∧
    lk 1 e1=.c (.pp [.int .i64 q.params,.int .i64 q.regs,.sl fl 5 (Qn q.blocks)])∧lk 3 e1=.c (.ptr l 0)∧lk 5 e1=.c (.bool a)) (i * q.regs.toNat+1-tot i (Qx1 ss)) ?_ ?_))
   ·exact⟨ss,true,rfl,him,hinv,fun h=>by simp at h,kn,rfl,rfl,rfl⟩
   ·clear hinv him kn;clear ss;rintro m e1 H4 ⟨ss,a,hm,him,hinv,hcl,kn,l1,l3,l5⟩;have htb:=hinv.bound;rw[hFn,hn]at htb;refine Qaa ?_;refine Qa ?_;simp only[go_sem,l1,l3,l5];refine Qh (Qd rfl ?_ ?_)
    ·intro hat;rw[hat,if_pos rfl]at hm;refine Qg ?_;try simp only[go_sem]
     refine Qe ?_;refine Qa ?_;simp only[go_sem];refine Qa ?_;simp only[go_sem,Ql,hn];intro _;refine⟨Qs (by omega) (by omega),?_⟩;clear hcl;refine Qe (Qx (fun m1 e1 H1=>∃(k:Nat) (j:Int) (ss1:List SetO) (a:Bool),m1=k∧k≤i∧j=(k:Int)-1∧imOk q ss1 pr∧ImInv (Q6 q) q.regs.toNat (Qx1 ss1)∧tot i (Qx1 ss)≤tot i (Qx1 ss1)∧
      (a=true→tot i (Qx1 ss)<tot i (Qx1 ss1))∧(a=false→∀b,k≤b→b<i→∀r,(Q6 q).inT (asS (Qx1 ss1)) b r→asS (Qx1 ss1) b r)∧
      Kn H0 H1 E (imE q fl l yi yp ss1 pr++L)∧
      e1=[(1,.c (.pp [.int .i64 q.params,.int .i64 q.regs,.sl fl 5 (Qn q.blocks)])),(3,.c (.ptr l 0)),(5,.c (.bool a)),(6,.c (.int .i64 j))]) i ?_ ?_)
     ·exact⟨i,_,ss,false,rfl,Jp _,rfl,him,hinv,Jp _,fun h=>by simp at h,fun _ b h1 h2=>by omega,kn,rfl⟩
     ·generalize hT0:tot i (Qx1 ss)=T0 at *;clear hinv him kn hT0;clear ss;rintro m1 e1 H5 ⟨k,j,ss,a,rfl,hk,hjk,him,hinv,htot,htt,htf,kn,rfl⟩;have htb2:=hinv.bound;rw[hFn,hn]at htb2;refine Qaa ?_;refine Qa ?_;simp only[go_sem];refine Qh (Qd rfl ?_ ?_)
      ·intro hc;have hge:0≤j:=(by simpa using hc);obtain⟨b,rfl⟩:∃b,m1=b+1:=⟨m1-1,by omega⟩;have hj:j=(b:Int):=(by omega);subst hj;have hbn:b<i:=(by omega);have hbq:b<q.blocks.length:=(by omega);have hsl:=him.l;have hbs:b<ss.length:=(by omega);obtain⟨s,hs⟩:∃s,ss[b]=s:=⟨_,rfl⟩;have hsm:s∈ss:=(by rw[←hs];exact Ji hbs);have hso:=him.s s hsm;obtain⟨y,hy⟩:∃y,q.blocks[b]=y:=⟨_,rfl⟩;have hyo:y.ok q b:=(by rw[←hy];exact ho.bs b hbq);have hil:y.ins.length≤1200∧y.phis.length≤1200:=(by rw[←hy];exact ho.il b hbq);have hph:(Q6 q).ph b=y.phis.map fun p=>p.to.toNat:=(by rw[Qbbo hbq,hy]);have hbF:b<(Q6 q).n:=hbq;refine Qg ?_;try simp only[go_sem]
       refine Qd3 (fun e2 H2=>∃(ss2:List SetO) (a2:Bool),imOk q ss2 pr∧ImInv (Q6 q) q.regs.toNat (Qx1 ss2)∧tot i (Qx1 ss)≤tot i (Qx1 ss2)∧
        (a2=true→a=true∨tot i (Qx1 ss)<tot i (Qx1 ss2))∧(a2=false→a=false∧ss2=ss∧∀r,(Q6 q).inT (asS (Qx1 ss)) b r→asS (Qx1 ss) b r)∧
        Kn H0 H2 E (imE q fl l yi yp ss2 pr++L)∧
        lk 1 e2=.c (.pp [.int .i64 q.params,.int .i64 q.regs,.sl fl 5 (Qn q.blocks)])∧lk 3 e2=.c (.ptr l 0)∧lk 5 e2=.c (.bool a2)∧lk 6 e2=.c (.int .i64 b)) ?_ ?_
       ·intro Q hnr _ _;refine Qe ?_;refine Qa ?_;simp only[go_sem];refine Qadq (F:=H5) (i:=-1) ho hbq (by omega) (by omega) him kn.mid fun M ver ks H6 hnd hlt hks k2=>?_;have kn:=kn.comp k2 rfl;simp only[go_sem,Qz8];refine Qaa ?_;refine Qa ?_;simp only[go_sem,hbq,Ql,Q1 _ _ hbq,hy,BlkD.cells,Qv];intro hpl;simp only[LIM]at hpl;obtain⟨B,hB⟩:∃B,imE q fl l yi yp ss pr++L=B:=⟨_,rfl⟩;rw[hB]at kn;refine Qh (Qe (Qx (fun m2 e1 H1=>∃(i2 ver:Nat) (ks2:List Nat),m2=y.phis.length-i2∧i2≤y.phis.length∧ks2.Nodup∧(∀x∈ks2,x<q.regs.toNat)∧(∀r,r∈ks2↔r∈ks∧r∉((Q6 q).ph b).take i2)∧Kn H0 H1 E (B++[(M,.map ver (Qas ks2))])∧
         e1=[(1,.c (.pp [.int .i64 q.params,.int .i64 q.regs,.sl fl 5 (Qn q.blocks)])),(3,.c (.ptr l 0)),(5,.c (.bool a)),(6,.c (.int .i64 b)),(7,.c (.mp M)),(53,.c (.sl false 2 (Q7 y.phis))),(54,.c (.int .i64 y.phis.length)),(55,.c (.int .i64 i2))]) y.phis.length ?_ ?_))
        ·exact⟨0,ver,ks,by omega,by omega,hnd,hlt,fun r=>by simp,kn,rfl⟩
        ·clear kn;rintro m2 e1 H7 ⟨i2,ver2,ks2,hm2,hi2,hnd2,hlt2,hks2,kn,rfl⟩;refine Qa ?_;simp only[go_sem];refine Qh (Qd rfl ?_ ?_)
         ·intro hc2;have hl2:i2<y.phis.length:=(by simpa using hc2);obtain⟨p,hp⟩:∃p,y.phis[i2]=p:=⟨_,rfl⟩;have hpm:p∈y.phis:=(by rw[←hp];exact Ji hl2);obtain⟨hv,hvl⟩:=(hyo.pto p hpm).nat;have htk3:((Q6 q).ph b).take (i2+1)=((Q6 q).ph b).take i2++[p.to.toNat]:=by
           rw[Jm (by rw[hph,Jk];exact hl2)];simp[hph,hp]
          generalize hr:p.to.toNat=r at *;refine Qg ?_;try simp only[go_sem]
          refine Qh (Qe ?_);refine Qa ?_;simp only[go_sem,hl2,Qv,Qau _ _ hl2,PhiD.cells,hp];intro x9 hx9 H8 h8;have kn:=kn.al hx9 h8;have hx9:H8 x9=.st [.int .i64 0,.sl true 1 []]:=(kn.get (x9,.st [.int .i64 0,.sl true 1 []]) (by simp)).1;simp only[go_sem,Qz9,hx9];intro H9 h9;have kn:Kn H0 H9 E ((B++[(M,.map ver2 (Qas ks2))])++[(x9,.st [.int .i64 p.to,.sl false 1 (Qb p.args)])]):=by
           have:=kn.stL (B++[(M,Obj.map ver2 (Qas ks2))]).length (x:=x9) (o:=.st [.int .i64 0,.sl true 1 []]) (by simp) h9;simpa using this
          have hx9:H9 x9=.st [.int .i64 p.to,.sl false 1 (Qb p.args)]:=(kn.get (x9,.st [.int .i64 p.to,.sl false 1 (Qb p.args)]) (by simp)).1;have kn:=kn.drop;have hM:H9 M=.map ver2 (Qas ks2):=(kn.get (M,.map ver2 (Qas ks2)) (by simp)).1;refine Qt ?_;simp only[go_sem,hx9,hM,hv,Qc9,Qi4,Qaq1];intro H10 h10;have kn:Kn H0 H10 E (B++[(M,.map (ver2+1) (Qas (ks2.erase r)))]):=by
           have:=kn.stL B.length (x:=M) (o:=.map ver2 (Qas ks2)) (by simp) h10;simpa using this
          refine Qt ?_;simp only[go_sem,X.next];refine⟨Qs (by omega) (by omega),y.phis.length-(i2+1),by omega,i2+1,ver2+1,ks2.erase r,rfl,by omega,hnd2.erase _,Qbbl hlt2,fun z=>?_,kn,rfl⟩;rw[Qare hnd2,hks2,htk3];simp only[Jj,Jb,not_or,and_assoc]
         ·intro hc2;have hge2:y.phis.length≤i2:=(by simpa using hc2);have hks3:∀r,r∈ks2↔(Q6 q).inT (asS (Qx1 ss)) b r:=fun r=>by
           rw[hks2,hks,Jh (by rw[hph,Jk];exact hge2)];rfl
          have hkl:=Qcg hnd2 hlt2;subst hB;obtain⟨hl,hyi,hyp⟩:=Q5n (kn.drop).mid;have hM:H7 M=.map ver2 (Qas ks2):=(kn.get (M,.map ver2 (Qas ks2)) (by simp)).1;have htks:(Qxo ss).take i=Qxo ss:=Jh (by rw[Qnm];omega);have hkb:Qx1 ss b=s.ks:=(by rw[Qbto hbs,hs]);have hsi:ss.length=i:=(by omega);refine Qw ?_;simp only[go_sem,X.next];have hsc:Qq8 H7 s.c∧Qai H7 s.c=Qas s.ks∧s.c.isOw=false:=by
           refine⟨?_,?_,hso.isOw⟩ <;> rcases hso.m with ⟨h1,_,h2⟩|⟨N,v,h1,h2⟩
           ·rw[h1];trivial
           ·have:=Qaey (kn.drop).mid hsm h2;rw[h1];simp only[Qq8,this]
           ·rw[h1,h2];rfl
           ·have:=Qaey (kn.drop).mid hsm h2;rw[h1];simp only[Qai,this]
          obtain⟨hok1,hen1,hcw1⟩:=hsc;have hok1:=eq_true hok1;have hslen:=hso.len;have hokM:Qq8 H7 (.mp M)=True:=(by simp only[Qq8,hM]);have henM:Qai H7 (.mp M)=Qas ks2:=(by simp only[Qai,hM]);refine Qaj ?_;simp only[go_sem,hl,hyi,hM,htks,Qnm,Qx9 _ _ hbs,hs,hbn,hn,hsi,hok1,hen1,hcw1,hokM,henM,Qi4,Jg,Jp];refine Qd rfl ?_ ?_
          ·intro hc3;have hne:¬ks2.length=(Qx1 ss b).length:=(by rw[hkb];simp at hc3;omega);obtain⟨g1,g2⟩:=hinv.step hfit hbF hnd2 hlt2 hks3 hne;rw[hFn,hn]at g2;have hks':=Qbog (s:=⟨.mp M,[(M,.map ver2 (Qas ks2))],ks2⟩) hbs;refine Qt ?_;simp only[go_sem,hl,hyi,htks,Qnm,Qx9 _ _ hbs,hs,hbn,hn,hsi,Jg,Jp];intro H8 h8;have hrow:(Qxo ss).set b [.mp M]=Qxo (ss.set b ⟨.mp M,[(M,.map ver2 (Qas ks2))],ks2⟩):=(by simp[Qxo,Ja1]);rw[hrow]at h8;have k5:Kn H0 H8 E (((([(l,.st [.int .i64 q.params,.int .i64 q.regs,.sl fl 5 (Qn q.blocks),.vsl yi 1 0 q.blocks.length,.vsl yp 1 0 q.blocks.length]),(yi,.vec 1 (Qxo (ss.set b ⟨.mp M,[(M,.map ver2 (Qas ks2))],ks2⟩))),(yp,.vec 1 pr)]++ss.flatMap SetO.lg)++L)++[(M,.map ver2 (Qas ks2))])):=kn.stL 1 (x:=yi) (o:=.vec 1 (Qxo ss)) rfl h8;have kn:Kn H0 H8 E ((imE q fl l yi yp (ss.set b ⟨.mp M,[(M,.map ver2 (Qas ks2))],ks2⟩) pr++L)++ss[b].lg):=by
            refine k5.perm (Qp fun f hf h0 hc hp=>?_);have e1:=hp _ _ (Qiq SetO.lg ss b hbs);have e2:=hp _ _ (Qgo SetO.lg ss b ⟨.mp M,[(M,.map ver2 (Qas ks2))],ks2⟩ hbs);simp only[hf]at e1 e2;simp only[imE,hf];omega
           have kn:=kn.drop;simp only[go_sem,Qt6];refine hnr _ _ ⟨ss.set b ⟨.mp M,[(M,.map ver2 (Qas ks2))],ks2⟩,true,⟨by rw[Jam];exact hsl,fun s2 hs2=>?_,him.pl,him.p⟩,by rw[hks'];exact g1,by rw[hks'];exact Nat.le_of_lt g2,fun _=>.inr (by rw[hks'];exact g2),fun h=>by simp at h,kn,rfl,rfl,rfl,rfl⟩;rcases Jaf hs2 with h|rfl
           ·exact him.s s2 h
           ·exact⟨hnd2,hlt2,.inr ⟨M,ver2,rfl,rfl⟩⟩
          ·intro hc3;have heq:ks2.length=(Qx1 ss b).length:=(by rw[hkb];simp at hc3;omega);refine Qg ?_;try simp only[go_sem]
           exact hnr _ _ ⟨ss,a,him,hinv,Jp _,fun h=>.inl h,fun h=>⟨h,rfl,hinv.same hbF hnd2 hks3 heq⟩,kn.drop,rfl,rfl,rfl,rfl⟩
       ·rintro e2 H6 ⟨ss2,a2,him2,hinv2,t1,t2,t3,kn,l1,l3,l5,l6⟩;refine Qt ?_;simp only[go_sem,X.next,l1,l3,l5,l6];refine⟨Qs (by omega) (by omega),b,by omega,b,(b:Int)-1,ss2,a2,rfl,by omega,rfl,him2,hinv2,by omega,fun ha=>?_,fun ha c hbc hci=>?_,kn,rfl⟩
        ·rcases t2 ha with h|h
         ·have:=htt h;omega
         ·omega
        ·obtain⟨u1,u2,u3⟩:=t3 ha;rw[u2];by_cases hcb:c=b
         ·subst hcb;exact u3
         ·exact htf u1 c (by omega) hci
      ·intro hc;have hlt0:¬0≤j:=(by simpa using hc);have hk0:m1=0:=(by omega);subst hk0;refine Qw ?_;try simp only[go_sem,X.next]
       refine⟨if a=true then i * q.regs.toNat+1-tot i (Qx1 ss)else 0,?_,ss,a,rfl,him,hinv,fun ha b hb=>htf ha b (by omega) hb,kn,by first|exact⟨rfl,rfl⟩|exact rfl|trivial⟩;split
       ·have:=htt ‹_›;omega
       ·omega
    ·intro haf;have hcl:=hcl haf;refine Qw ?_;simp only[go_sem,X.next];refine Qa ?_;simp only[go_sem];refine Qk ?_;simp only[go_sem,Q5,Qae,Qafn,Jb,forall_eq,RS.op];exact hK l yi yp ss pr H4 him (fun b hb r=>hinv.done (fun b hb=>hcl b (by omega)) hb r) kn
variable {q:CodeD}{fl:Bool}{l yi yp:Nat}{ss:List SetO}{pr:List (List C)}
theorem Qbjh (ho:q.ok)(h:∀b,b<q.blocks.length→∀r,tabS ss b r↔(Q6 q).LI b r){b:Nat}(hb:b<q.blocks.length)(r:Nat):(Q6 q).outT (tabS ss) b r↔(Q6 q).LO b r:=
 Flo.outT_congr ho.fitsF h hb r
theorem Qbb0 (ho:q.ok)(h:∀b,b<q.blocks.length→∀r,tabS ss b r↔(Q6 q).LI b r){b:Nat}(hb:b<q.blocks.length)(k r:Nat):(Q6 q).beh ((Q6 q).outT (tabS ss) b) b k r↔(Q6 q).LB b k r:=
 Flo.beh_congr (Qbjh ho h hb) b k r
theorem Qamm {cs:List CodeD}{fl:Bool}{m b:Nat}{i:Int}(hfit:∀c∈cs,c.fits)(hg:Qbr cs=true)(hm:m<cs.length)(hb:b<cs[m].blocks.length)(hi:-1≤i)(hi2:i<cs[m].blocks[b].ins.length)
  (hK:∀(H':Heap),Upd H H' []→K (.c (.sl false 1 (Qbq (Qeo cs[m] b (i+1).toNat)))) H') :
  Qr prog Qdy [.ag [.sl fl 3 (Qj cs)],.c (.int .i64 m),.c (.int .i64 b),.c (.int .i64 i)] H K:=by
 have hok:=Qly hg hm;have hhas:hasG cs m=true:=by simp only[hasG,hg,Bool.true_and,decide_eq_true_eq];omega
 obtain⟨q,hq⟩:∃q,cs[m]=q:=⟨_,rfl⟩;obtain⟨y,hy⟩:∃y,cs[m].blocks[b]=y:=⟨_,rfl⟩;rw[hy]at hi2;subst hq;have hb1:=hok.b1;have hr1:=hok.r1;have hil:=(hok.il b hb).1;rw[hy]at hil;refine Q3 ?_;refine Qc Qal Qs8 ?_;refine Qa ?_;simp only[go_sem];refine Qaa ?_;refine Qa ?_;simp only[go_sem];refine Qbbg hfit fun H1 hu=>?_;have kn:=(Kn.start0 H).call0 hu;rw[hhas];simp only[go_sem,Qc2,hm,Qo,Q0 _ _ hm,CodeD.cells,Ql];intro _;refine⟨Qs (by omega) (by omega),?_⟩;refine Qb6 ?_;have h1:(decide (0≤(b:Int))&&decide ((b:Int)≤(cs[m].blocks.length:Int)-1))=true:=by simp;omega
 rw[h1];simp only[go_sem,Qb4,hm,Qo,Q0 _ _ hm,CodeD.cells,hb,Ql,Q1 _ _ hb,BlkD.cells,hy,Q4];intro _;refine⟨Qs (by omega) (by omega),?_⟩;refine Qb6 ?_;have h2:(decide (-1≤i)&&decide (i≤(y.ins.length:Int)-1))=true:=by simp;omega
 rw[h2];simp only[go_sem,Qb3];refine Qh (Qd rfl (fun h=>by simp at h) fun _=>?_);refine Qg ?_;try simp only[go_sem]
 refine Qa ?_;simp only[go_sem,hm,Qo,Q0 _ _ hm,CodeD.cells];refine Qbbz hok kn fun l yi yp ss pr H2 him hlv kn=>?_;simp only[go_sem,Qkp];refine Qadq (F:=H2) hok hb hi (by rw[hy];exact hi2) him kn.mid fun M ver ks H3 hnd hlt hks k2=>?_;have kn:=kn.comp k2 rfl;have hkl:=Qcg hnd hlt;have hM:H3 M=.map ver (Qas ks):=(kn.get (M,.map ver (Qas ks)) (by simp)).1;simp only[go_sem,Qko];refine Qawh hM hnd (by simp only[LIM];omega) fun lst H4 hu hasc hmem=>?_;have kn:=kn.call0 hu;have e:lst=Qeo cs[m] b (i+1).toNat:=Qbr2 hasc Qbm6 fun x=>by
  rw[hmem,hks,Qbb0 hok hlv hb,Qeo,ascL_mem];exact⟨fun h=>⟨Flo.LB_lt hok.fitsF hok.bdF hb _ x h,h⟩,fun h=>h.2⟩
 rw[e];simp only[go_sem,Qkn];refine Qk ?_;simp only[go_sem,X.next,Q5,Qae,Qex,Jb,forall_eq,RS.op];exact⟨_,.c _ _ (Q5m (noOw_mem (Qd7 _))),hK _ kn.fin⟩
end Go.AE.Y
namespace Go.AE.Y
attribute [local go_sem] cond_true cond_false Bool.not_true Bool.not_false
open Go.Proofs.Tryz
variable {H H0:Heap}{K:V→Heap→Prop}{E B Lg:List (Nat×Obj)}
theorem Qs5 {S:Nat→Bool}{a b a' b':V}(h:FrzV H S a a')(k:FrzV H S b b'):FrzV H S (.tup [a,b]) (.tup [a',b']):=by
 refine .tup _ _ rfl fun j x x' h1 h2=>?_
 match j with
 |0=>simp at h1 h2;subst h1;subst h2;exact h
 |1=>simp at h1 h2;subst h1;subst h2;exact k
 |j+2=>simp at h1
theorem Qo3 {S:Nat→Bool}(cs:List CodeD):FrzV H S (.ag [.sl false 3 (Qj cs)]) (.ag [.sl false 3 (Qj cs)]):=FrzL.ag (.cons (FrzR.same (Qbe cs)).sl .nil)
theorem UnitOk.fits {cs:List CodeD}(h:UnitOk cs):∀c∈cs,c.fits:=fun c hc=>(h.2.2 c hc).f
theorem Qbi3 {R:Rdr}{k:Nat}(hH:H R.l=R.o k)(hk:k+7300000≤2^30)
  (hK:∀(cs:List CodeD) (n:Int) (H':Heap) (k':Nat),k<k'→k'≤k+7200000→Upd H H' [(R.l,R.o k')]→UnitOk cs→-1≤n→n≤4→K (.tup [.ag [.sl false 3 (Qj cs)],.c (.int .i64 n)]) H') :
  Qr prog Q5c [.c (.ptr R.l 0)] H K:=by
 refine Q3 ?_;refine Qc Qal Qbjp ?_;refine Qa ?_;simp only[go_sem];intro x2 hx2 H1 h1;have kn:=(Kn.start1 hH (R.o_ne k)).al hx2 h1;simp only[go_sem,Q83];refine Qa ?_;simp only[go_sem];refine Qaxd (kn.e 0 rfl) (by omega) fun cs H3 k2 hk3 hk4 hu hok=>?_;have kn:=kn.callE 0 rfl hu (R.o_ne _);simp only[go_sem,Q85];intro x4 hx4 H4 h4;have kn:=kn.al hx4 h4;have hx4:=kn.l 1 rfl;simp only[go_sem,Q84,hx4];intro H5 h5;have kn:=kn.stL 1 rfl h5;have hx4:=kn.l 1 rfl;have hcl:=hok.2.1;have hcl0:=hok.1;refine Qaj ?_;simp only[go_sem,hx4,Qo];refine⟨Qs (by omega) (by omega),Qs (by omega) (by omega),?_⟩;refine Qi5 (ns:=[(cs.length:Int)-1,0,(cs.length:Int)-1,-1,(cs.length:Int)]) (kn.e 0 rfl) (by omega) (by simp) fun n H6 hn hu=>?_;have kn:=kn.callE 0 rfl hu (R.o_ne _);have hx4:=kn.l 1 rfl;have hx2:=kn.l 0 rfl;simp only[go_sem,Q87,hx4,hx2];intro H7 h7;have kn:=kn.stL 0 rfl h7;have hx2:=kn.l 0 rfl;simp only[go_sem,Q86];refine Qk ?_;simp only[go_sem,Q5,Qae,Qax9,J5,J4,RS.op,hx2];have hb:-1≤n∧n≤4:=by
  simp only[Jq,J4,or_false]at hn;omega
 exact⟨fun _=>trivial,_,Qs5 (Qo3 cs) (.c _ _ (Qi rfl)),hK cs n _ _ (by omega) (by omega) kn.fin hok hb.1 hb.2⟩
end Go.AE.Y
namespace Go.AE
variable {H0 H H':Heap}{E L B Lg:List (Nat×Obj)}{S:Nat→Bool}
theorem Kn.freeze0 (kn:Kn H0 H E (B++Lg)):∃S:Nat→Bool,(∀p∈Lg,H p.1=p.2∧S p.1=true)∧(∀p∈B,H p.1=p.2∧S p.1=false)∧FrzH H S (H.frz S)∧Kn H0 (H.frz S) E B:=by
 have hd:=kn.dL;rw[Jv]at hd;obtain⟨d1,d2,d3⟩:=Jai.1 hd;have keyB:∀m,m∉Lg.map Prod.fst→(Lg.map Prod.fst).contains m=false:=fun m hm=>by
  cases hc:(Lg.map Prod.fst).contains m with
  |false=>rfl
  |true=>exact absurd (Jal.1 hc) hm
 have key:∀m,m∉Lg.map Prod.fst→(H.frz fun m=>(Lg.map Prod.fst).contains m) m=H m:=fun m hm=>by
  simp only[Heap.frz,keyB m hm];rfl
 have hB:∀p∈B,p.1∉Lg.map Prod.fst:=fun p hp hh=>d3 _ (Qa6 hp) _ hh rfl;refine⟨fun m=>(Lg.map Prod.fst).contains m,fun p hp=>⟨(kn.get p (Jd _ (Jd _ hp))).1,Jal.2 (Qa6 hp)⟩,
  fun p hp=>⟨(kn.get p (Jd _ (Je _ hp))).1,keyB _ (hB p hp)⟩,Qd1 _ _,?_⟩
 refine⟨fun p hp=>?_,kn.ext,fun p hp=>kn.loc p (Je _ hp),kn.dE,d1,fun m hm hx=>?_⟩
 ·have hg:H p.1=p.2∧p.2≠.none:=kn.get p (by
   rcases Jj.1 hp with h|h
   ·exact Je _ h
   ·exact Jd _ (Je _ h))
  refine⟨?_,hg.2⟩;rw[key p.1 (fun hh=>?_)];exact hg.1;rcases Jj.1 hp with h|h
  ·obtain⟨r,hr,he⟩:=Jr.1 hh;exact kn.ext p h (he▸kn.loc r (Jd _ hr))
  ·exact hB p h hh
 ·rw[key m (fun hh=>?_)]
  ·exact kn.chg m hm hx
  ·obtain⟨r,hr,he⟩:=Jr.1 hh;exact hm (he▸kn.loc r (Jd _ hr))
theorem Qash {e e':Env}(h:∀p∈e',FrzV H S (lk p.1 e) p.2):∀t,FrzV H S (lk t e) (lk t e'):=fun t=>by
 induction e' with
 |nil=>exact .unk _
 |cons p e' ih=>
  obtain⟨s,v⟩:=p;by_cases ht:t=s
  ·subst ht;have:=h (t,v) Jas;simpa[lk]using this
  ·have:=ih fun p hp=>h p (Jao _ hp);simpa[lk,ht]using this
theorem FrzO.vecR {sz:Nat}{rows rows':List (List C)}(h:Y.FrzR H S rows rows')(hn:∀r∈rows,noOw r=true):FrzO H S (.vec sz rows) (.vec sz rows'):=by
 refine .vec sz rows rows' h.spec.1 (fun i r r' h1 h2=>(h.spec.2 i r r' h1 h2).spec.1) fun i r r' j c c' h1 h2 h3 h4=>.inr ⟨?_,(h.spec.2 i r r' h1 h2).spec.2 j c c' h3 h4⟩;exact Y.noOw_mem hn r (Jx h1) c (Jx h3)
end Go.AE
namespace Go.AE.Y
variable {H H0:Heap}{E L R B Lg:List (Nat×Obj)}{S:Nat→Bool}
theorem Qadv {α:Type}{f g:α→List C}:∀(l:List α),(∀x∈l,FrzL H S (f x) (g x))→FrzR H S (l.map f) (l.map g)
 |[],_=>.nil
 |x::l,h=>.cons (h x Jas) (Qadv l fun y hy=>h y (Jao _ hy))
theorem Qbn1 {is:List OIns}(h:Held H S (is.flatMap OIns.lg)):FrzR H S (is.map OIns.row) (Qag (is.map OIns.d)):=by
 rw[Qag,Jax];exact Qadv is fun x hx=>x.frz (h.m hx)
theorem Qbki {ph:List OPhi}(ho:∀p∈ph,p.ok)(h:Held H S (ph.flatMap OPhi.lg)):FrzR H S (ph.map OPhi.row) (Q7 (ph.map OPhi.d)):=by
 rw[Q7,Jax];exact Qadv ph fun x hx=>x.frz (ho x hx) (h.m hx)
def Q9 (q:CodeD)(b:Nat):BlkD:=q.blocks.getD b ⟨[],[],0,0,[]⟩
theorem Qat {q:CodeD}{b:Nat}(h:b<q.blocks.length):Q9 q b=q.blocks[b]:=by simp[Q9,Ja,h]
theorem Qbid {q:CodeD}{b:Nat}(h:b<q.blocks.length):gnx q b=(Q9 q b).next:=by rw[Qat h,Qaew h]
variable {q:CodeD}{P:List Int}{l:List Nat}
theorem CodeD.ok.sg (h:q.ok):q.sg:=⟨by have:=h.b1;omega,fun y hy=>by
 obtain⟨b,hb,rfl⟩:=List.mem_iff_getElem.1 hy;have h1:=h.il b hb;have h2:=h.bs b hb;have h3:=h2.nxl;have h4:=h.b1;refine⟨by omega,by omega,by omega,fun x hx=>by have:=h2.al x hx;omega,fun x hx=>?_⟩;have:=h2.pal x hx;have h5:=Qi7 (gnx q) (b:Int) q.blocks.length;omega⟩
end Go.AE.Y
namespace Go.AE.Y
structure Fr where
 k:Nat
 b:Nat
 todo:List InsD
 regs:List Int
inductive Cf where
 |go (fs:List Fr) (s c:List Int)
 |dn (e v:Int) (s c:List Int)
def Qm (cs:List CodeD)(k:Nat):CodeD:=cs.getD k ⟨0,0,[]⟩
def rg (R:List Int)(r:Int):Int:=R.getD r.toNat 0
def ar (R:List Int)(x:InsD)(i:Nat):Int:=rg R (x.args.getD i 0)
def trI (b:Prop) [Decidable b]:Int:=if b then 1 else 0
def arR (op a b:Int):Option Int:=
 if op=3 then some ((a+b) % 256)else if op=4 then some ((a-b+256) % 256)else if op=5 then some (a * b % 256)
 else if op=6 then (if b=0 then none else some (a / b))else if op=7 then (if b=0 then none else some (a % b))
 else if op=8 then some (trI (a<b))else if op=9 then some (trI (a=b))else some (trI (a=0))
def Q54 (q:CodeD)(l:List Int):List Int:=l++List.replicate (q.regs.toNat-l.length) 0
def fr0 (cs:List CodeD)(k:Nat)(l:List Int):Fr:=⟨k,0,(Q9 (Qm cs k) 0).ins,Q54 (Qm cs k) l⟩
def wayI (q:CodeD)(b a:Nat):Nat:=(Qav (gnx q) (b:Int) q.blocks.length).idxOf (a:Int)
def phiV (R:List Int)(w:Nat)(p:PhiD):Int:=rg R (p.args.getD w 0)
def phiR (R:List Int)(w:Nat)(l:List PhiD):List Int:=l.foldl (fun T p=>T.set p.to.toNat (phiV R w p)) R
def ixB (y:BlkD)(R:List Int):Nat:=if y.jump=2∧rg R y.on=0 then 1 else 0
def nxB (y:BlkD)(R:List Int):Nat:=(y.next.getD (ixB y R) 0).toNat
def rtn (v:Int):List Fr→List Int→List Int→Cf
 |[],s,c=>.dn 0 v s c
 |f::fs,s,c=>match f.todo with
  |[]=>.go (f::fs) s c
  |x::t=>.go (⟨f.k,f.b,t,f.regs.set x.to.toNat v⟩::fs) s c
def stI (cs:List CodeD)(k b:Nat)(x:InsD)(t:List InsD)(R:List Int)(fs:List Fr)(s c:List Int):Cf:=
 let w:=fun v=>Cf.go (⟨k,b,t,R.set x.to.toNat v⟩::fs) s c
 if x.op=1 then w x.n
 else if x.op=11 then (if 16≤ar R x 0 then .dn 2 0 s c else w (rg c (ar R x 0)))
 else if x.op=12 then (if 16≤ar R x 0 then .dn 2 0 s c else .go (⟨k,b,t,R⟩::fs) s (c.set (ar R x 0).toNat (ar R x 1)))
 else if x.op=13 then .go (⟨k,b,t,R⟩::fs) (s++[ar R x 0]) c
 else if x.op=14 then .go (fr0 cs x.n.toNat (x.args.map (rg R))::⟨k,b,x::t,R⟩::fs) s c
 else if x.op=2 then w (ar R x 0)
 else match arR x.op (ar R x 0) (ar R x 1)with
  |none=>.dn 1 0 s c
  |some v=>w v
def frJ (cs:List CodeD)(k b:Nat)(R:List Int)(n:Nat):Fr:=
 ⟨k,n,(Q9 (Qm cs k) n).ins,phiR R (wayI (Qm cs k) n b) (Q9 (Qm cs k) n).phis⟩
def stJ (cs:List CodeD)(k b:Nat)(R:List Int)(fs:List Fr)(s c:List Int):Cf:=
 let y:=Q9 (Qm cs k) b
 if y.jump=3 then rtn (rg R y.on) fs s c else .go (frJ cs k b R (nxB y R)::fs) s c
def step (cs:List CodeD):Cf→Cf
 |.go (⟨k,b,x::t,R⟩::fs) s c=>stI cs k b x t R fs s c
 |.go (⟨k,b,[],R⟩::fs) s c=>stJ cs k b R fs s c
 |.go [] s c=>.go [] s c
 |.dn e v s c=>.dn e v s c
def Qfa (cs:List CodeD):Nat→Cf→Cf
 |0,x=>x
 |n+1,x=>Qfa cs n (step cs x)
theorem Qjx (cs:List CodeD):∀(n m:Nat) (x:Cf),Qfa cs (n+m) x=Qfa cs m (Qfa cs n x)
 |0,m,x=>by rw[Jg];rfl
 |n+1,m,x=>by rw[Nat.add_right_comm];exact Qjx cs n m (step cs x)
theorem Qbhe (cs:List CodeD)(n:Nat)(x:Cf):Qfa cs (n+1) x=step cs (Qfa cs n x):=Qjx cs n 1 x
theorem Qbc7 (cs:List CodeD)(e v:Int)(s c:List Int):∀n,Qfa cs n (.dn e v s c)=.dn e v s c
 |0=>rfl
 |n+1=>Qbc7 cs e v s c n
theorem Q4x (cs:List CodeD){n m:Nat}{x:Cf}{e v:Int}{s c:List Int}(h:Qfa cs n x=.dn e v s c)(hm:n≤m):Qfa cs m x=.dn e v s c:=by
 obtain⟨d,rfl⟩:=Nat.exists_eq_add_of_le hm;rw[Qjx,h,Qbc7]
def Qbbf:List Int:=List.replicate 16 0
def cf0 (cs:List CodeD)(l:List Int):Cf:=.go [fr0 cs (cs.length-1) l] [] Qbbf
def outR (cs:List CodeD)(l:List Int)(S:Nat):Int×Int×List Int×List Int:=match Qfa cs S (cf0 cs l)with
 |.dn e v s c=>(e,v,s,c)
 |.go _ s c=>(3,0,s,c)
def Qaa7 (cs cs':List CodeD)(l:List Int)(S:Nat):Prop:=(outR cs l S).1=3∨outR cs l S=outR cs' l 60000
theorem sim {cs cs':List CodeD}{R:Cf→Cf→Prop}{B:Nat}(hs:∀x x',R x x'→∃m,m≤B∧R (step cs x) (Qfa cs' m x'))
  : ∀(n:Nat) {x x':Cf},R x x'→∃m,m≤n * B∧R (Qfa cs n x) (Qfa cs' m x')
 |0,x,x',h=>⟨0,by omega,h⟩
 |n+1,x,x',h=>by
  obtain⟨m,h1,h2⟩:=hs x x' h;obtain⟨m2,h3,h4⟩:=sim hs n h2;refine⟨m+m2,by rw[Nat.add_mul];omega,?_⟩;rw[Qjx cs' m m2];exact h4
theorem Qbmj {cs cs':List CodeD}{R:Cf→Cf→Prop}{B S:Nat}{l:List Int}(hs:∀x x',R x x'→∃m,m≤B∧R (step cs x) (Qfa cs' m x'))
  (hd:∀e v s c x',R (.dn e v s c) x'→x'=.dn e v s c) (hB:S * B≤60000) (h0:R (cf0 cs l) (cf0 cs' l)):Qaa7 cs cs' l S:=by
 obtain⟨m,h1,h2⟩:=sim hs S h0;rw[Qaa7]
 cases hx:Qfa cs S (cf0 cs l)with
 |go fs s c=>exact .inl (by rw[outR,hx])
 |dn e v s c=>
  right;rw[hx]at h2;have:=Q4x cs' (hd _ _ _ _ _ h2) (Nat.le_trans h1 hB);rw[outR,outR,hx,this]
structure Fr.ok (cs:List CodeD)(f:Fr):Prop where
 k:f.k<cs.length
 b:f.b<(Qm cs f.k).blocks.length
 t:∃p,(Q9 (Qm cs f.k) f.b).ins=p++f.todo
 r:f.regs.length=(Qm cs f.k).regs.toNat
theorem Qao {cs:List CodeD}{k:Nat}(h:k<cs.length):Qm cs k=cs[k]:=by simp[Qm,Ja,h]
theorem Qbc4 {v:PhiD→Int}:∀(l:List PhiD) (T:List Int),(l.foldl (fun T p=>T.set p.to.toNat (v p)) T).length=T.length
 |[],T=>rfl
 |p::l,T=>by rw[J8,Qbc4 l,Jam]
inductive RelF (RF:Fr→Fr→Prop):List Fr→List Fr→Prop where
 |nil:RelF RF [] []
 |cons {f f':Fr} {fs fs':List Fr}:RF f f'∧f.todo≠[]→RelF RF fs fs'→RelF RF (f::fs) (f'::fs')
inductive RelC (RF:Fr→Fr→Prop):Cf→Cf→Prop where
 |dn (e v:Int) (s c:List Int):RelC RF (.dn e v s c) (.dn e v s c)
 |go {f f':Fr} {fs fs':List Fr} (s c:List Int):RF f f'→RelF RF fs fs'→RelC RF (.go (f::fs) s c) (.go (f'::fs') s c)
structure InsS (cs cs':List CodeD)(RF:Fr→Fr→Prop)(x x':InsD):Prop where
 op:x'.op=x.op
 to:x'.to=x.to
 args:x'.args=x.args
 n:x.op=1→x'.n=x.n
 call:x.op=14→∀l,l.length=x.args.length→RF (fr0 cs x.n.toNat l) (fr0 cs' x'.n.toNat l)
structure SimR (cs cs':List CodeD)(RF:Fr→Fr→Prop)(B:Nat):Prop where
 b:1≤B
 ins:∀k b x t R f',RF ⟨k,b,x::t,R⟩ f'→∃k' b' x' t',f'=⟨k',b',x'::t',R⟩∧InsS cs cs' RF x x'∧∀R',R'.length=R.length→RF ⟨k,b,t,R'⟩ ⟨k',b',t',R'⟩
 jump:∀k b R f' fs fs' s c,RF ⟨k,b,[],R⟩ f'→RelF RF fs fs'→∃m,m≤B∧RelC RF (stJ cs k b R fs s c) (Qfa cs' m (.go (f'::fs') s c))
theorem SimR.one {cs cs':List CodeD}{RF:Fr→Fr→Prop}{B:Nat}(h:SimR cs cs' RF B)(x x':Cf)(hx:RelC RF x x'):∃m,m≤B∧RelC RF (step cs x) (Qfa cs' m x'):=by
 cases hx with
 |dn e v s c=>exact⟨0,by omega,.dn ..⟩
 |go s c h1 h2=>
  rename_i f f' fs fs'
  obtain⟨k,b,t,R⟩:=f
  cases t with
  |nil=>exact h.jump _ _ _ _ _ _ _ _ h1 h2
  |cons x t=>
   obtain⟨k',b',x',t',rfl,hx,hr⟩:=h.ins _ _ _ _ _ _ h1;refine⟨1,h.b,?_⟩;show RelC RF (stI cs k b x t R fs s c) (stI cs' k' b' x' t' R fs' s c);have ha:∀i,ar R x' i=ar R x i:=fun i=>by rw[ar,ar,hx.args]
   rw[stI,stI];simp only[ha,hx.op,hx.to,hx.args];split
   ·rename_i h1'
    rw[hx.n h1'];exact .go s c (hr _ (by simp)) h2
   ·split
    ·split
     ·exact .dn ..
     ·exact .go s c (hr _ (by simp)) h2
    ·split
     ·split
      ·exact .dn ..
      ·exact .go _ _ (hr _ rfl) h2
     ·split
      ·exact .go _ _ (hr _ rfl) h2
      ·split
       ·rename_i h14
        exact .go s c (hx.call h14 _ (by simp)) (.cons ⟨h1,by simp⟩ h2)
       ·split
        ·exact .go s c (hr _ (by simp)) h2
        ·split
         ·exact .dn ..
         ·exact .go s c (hr _ (by simp)) h2
theorem SimR.same {cs cs':List CodeD}{RF:Fr→Fr→Prop}{B S:Nat}{l:List Int}(h:SimR cs cs' RF B)(hB:S * B≤60000)(h0:RF (fr0 cs (cs.length-1) l) (fr0 cs' (cs'.length-1) l)):Qaa7 cs cs' l S:=
 Qbmj (R:=RelC RF) h.one (fun e v s c x' hx=>by cases hx;rfl) hB (.go _ _ h0 .nil)
theorem Qa30 {cs:List CodeD}{k b:Nat}{R:List Int}{fs:List Fr}{s c:List Int}(h:¬(Q9 (Qm cs k) b).jump=3):stJ cs k b R fs s c=.go (frJ cs k b R (nxB (Q9 (Qm cs k) b) R)::fs) s c:=by rw[stJ];simp only[h,if_false]
theorem Qa3z {cs:List CodeD}{k b:Nat}{R:List Int}{fs:List Fr}{s c:List Int}(h:(Q9 (Qm cs k) b).jump=3):stJ cs k b R fs s c=rtn (rg R (Q9 (Qm cs k) b).on) fs s c:=by rw[stJ];simp only[h,if_true]
theorem Qbko {q:CodeD}{l:List Int}(h:l.length≤q.regs.toNat):(Q54 q l).length=q.regs.toNat:=by rw[Q54];simp;omega
structure RunOk (cs:List CodeD):Prop where
 n:0<cs.length
 ok:∀k (h:k<cs.length),(Qm cs k).ok
 jn:∀k b,k<cs.length→b<(Qm cs k).blocks.length→((Q9 (Qm cs k) b).next.length:Int)=Qme (Q9 (Qm cs k) b).jump
 call:∀k b,k<cs.length→∀x∈(Q9 (Qm cs k) b).ins,x.op=14→x.n.toNat<k
 op:∀k b,k<cs.length→∀x∈(Q9 (Qm cs k) b).ins,1≤x.op∧x.op≤14∧(¬x.op=14→(x.args.length:Int)=Qgx x.op)
attribute [local instance] Classical.propDecidable in
theorem Qad2 {cs:List CodeD}(h:Qbr cs=true):RunOk cs:=by
 obtain⟨h1,h2,h3⟩:=of_decide_eq_true h;refine⟨by omega,fun k hk=>by rw[Qao hk];exact Qly h hk,fun k b hk hb=>?_,fun k b hk x hx h14=>?_,fun k b hk x hx=>?_⟩
 ·rw[Qao hk]at hb⊢;have g:=(h2 k hk).2 b hb;simp only[Qsn,Qq7,Jf,decide_eq_true_eq]at g;rw[Qat hb];exact g.1.1.1.1
 ·rw[Qao hk]at hx;by_cases hb:b<cs[k].blocks.length
  ·rw[Qat hb]at hx;have g:=(h2 k hk).2 b hb;simp only[Qsn,Jf,Jaj]at g;have:=g.1.2 x hx;simp only[Qx0,insL,h14,if_true,Jf,decide_eq_true_eq]at this;omega
  ·simp[Q9,Ja,Jl (Nat.le_of_not_lt hb)]at hx
 ·rw[Qao hk]at hx;by_cases hb:b<cs[k].blocks.length
  ·rw[Qat hb]at hx;have g:=(h2 k hk).2 b hb;simp only[Qsn,Jf,Jaj]at g;have:=g.1.2 x hx;simp only[Qx0,insH,insL,Jf,decide_eq_true_eq]at this;refine⟨this.1.1.1.1,this.1.1.1.2,fun h14=>?_⟩;have:=this.2;simp only[h14,if_false,Jf,decide_eq_true_eq]at this;exact this.1.1
  ·simp[Q9,Ja,Jl (Nat.le_of_not_lt hb)]at hx
theorem Qbv4 {cs:List CodeD}(hr:RunOk cs){k b:Nat}(hk:k<cs.length)(hb:b<(Qm cs k).blocks.length)(hj:¬(Q9 (Qm cs k) b).jump=3)(R:List Int):ixB (Q9 (Qm cs k) b) R<(Q9 (Qm cs k) b).next.length:=by
 have h1:=hr.jn k b hk hb;have h2:=((hr.ok k hk).bs b hb).jmp;rw[←Qat hb]at h2;generalize Q9 (Qm cs k) b=y at *;rw[Qme]at h1;rcases h2 with h2|h2|h2
 ·simp only[h2,if_true]at h1;rw[ixB,if_neg (by omega)];omega
 ·rw[h2]at h1;simp at h1;rw[ixB];split <;> omega
 ·exact absurd h2 hj
theorem Qa5i {cs:List CodeD}(hr:RunOk cs){k b:Nat}(hk:k<cs.length)(hb:b<(Qm cs k).blocks.length)(hj:¬(Q9 (Qm cs k) b).jump=3)(R:List Int) :
  ∃v∈(Q9 (Qm cs k) b).next,nxB (Q9 (Qm cs k) b) R=v.toNat∧(Q9 (Qm cs k) b).next[ixB (Q9 (Qm cs k) b) R]? = some v:=by
 have h:=Qbv4 hr hk hb hj R;refine⟨_,Ji h,?_,Jc h⟩;rw[nxB,Ja,Jc h];rfl
def Wt (RA:Fr→Fr→Prop)(f f':Fr):Prop:=∃k b x t R k' b' x' t' R',f=⟨k,b,x::t,R⟩∧f'=⟨k',b',x'::t',R'⟩∧∀v,RA ⟨k,b,t,R.set x.to.toNat v⟩ ⟨k',b',t',R'.set x'.to.toNat v⟩
inductive RelW (RA:Fr→Fr→Prop):List Fr→List Fr→Prop where
 |nil:RelW RA [] []
 |cons {f f':Fr} {fs fs':List Fr}:Wt RA f f'→RelW RA fs fs'→RelW RA (f::fs) (f'::fs')
inductive RelA (RA:Fr→Fr→Prop):Cf→Cf→Prop where
 |dn (e v:Int) (s c:List Int):RelA RA (.dn e v s c) (.dn e v s c)
 |go {f f':Fr} {fs fs':List Fr} (s c:List Int):RA f f'→RelW RA fs fs'→RelA RA (.go (f::fs) s c) (.go (f'::fs') s c)
theorem Qbci {RA:Fr→Fr→Prop}{v:Int}{fs fs':List Fr}{s c:List Int}(hf:RelW RA fs fs'):RelA RA (rtn v fs s c) (rtn v fs' s c):=by
 cases hf with
 |nil=>exact .dn ..
 |cons h1 h2=>
  obtain⟨k,b,x,t,R,k',b',x',t',R',rfl,rfl,h⟩:=h1;exact .go s c (h v) h2
def Agr (S:RS')(R R':List Int):Prop:=R'.length=R.length∧∀r,S r→R'.getD r 0=R.getD r 0
theorem Qi3 {l:List Int}{i r:Nat}{v:Int}(h:¬r=i):(l.set i v).getD r 0=l.getD r 0:=by
 rw[Ja,Ja,J7 (by omega)]
theorem Qaw5 {l l':List Int}(h:l'.length=l.length)(r:Nat)(v:Int):(l'.set r v).getD r 0=(l.set r v).getD r 0:=by
 rw[Ja,Ja,Jav,Jav,h];by_cases hr:r<l.length
 ·simp[hr]
 ·simp[hr]
theorem Agr.rg {S:RS'}{R R':List Int}(h:Agr S R R'){r:Int}(hr:S r.toNat):rg R' r=rg R r:=h.2 _ hr
theorem Agr.sub {S T:RS'}{R R':List Int}(h:Agr S R R')(hs:∀r,T r→S r):Agr T R R':=⟨h.1,fun r hr=>h.2 r (hs r hr)⟩
theorem Agr.set {S:RS'}{R R':List Int}{x:InsD}{a:List Nat}(h:Agr (Qaso (Qgd x,a) S) R R')(hm:Qb9 x.op=true)(v:Int):Agr S (R.set x.to.toNat v) (R'.set x.to.toNat v):=by
 refine⟨by simp[h.1],fun r hr=>?_⟩;by_cases he:r=x.to.toNat
 ·subst he;exact Qaw5 h.1 _ v
 ·rw[Qi3 he,Qi3 he];exact h.2 r (.inr ⟨hr,by rw[Qgd,if_pos hm];intro hh;exact he (Jan hh).symm⟩)
theorem Agr.keep {S:RS'}{R R':List Int}{x:InsD}{a:List Nat}(h:Agr (Qaso (Qgd x,a) S) R R')(hm:Qb9 x.op=false):Agr S R R':=
 h.sub fun r hr=>.inr ⟨hr,by rw[Qgd,if_neg (by rw[hm];simp)];simp⟩
theorem Agr.left {S:RS'}{R R':List Int}{x:InsD}{a:List Nat}(h:Agr (Qaso (Qgd x,a) S) R R')(hm:Qb9 x.op=true)(hn:¬S x.to.toNat)(v:Int):Agr S (R.set x.to.toNat v) R':=by
 refine⟨by simp[h.1],fun r hr=>?_⟩;have he:¬r=x.to.toNat:=fun he=>hn (he▸hr);rw[Qi3 he];exact h.2 r (.inr ⟨hr,by rw[Qgd,if_pos hm];intro hh;exact he (Jan hh).symm⟩)
theorem Qbhq {cs cs':List CodeD}{RA:Fr→Fr→Prop}{S:RS'}{R R':List Int}{k b k' b':Nat}{x:InsD}{t t':List InsD}{fs fs':List Fr}{s c:List Int}
  (hA:Agr (Qaso (Qgd x,toN x.args) S) R R') (ho:1≤x.op∧x.op≤14∧(¬x.op=14→(x.args.length:Int)=Qgx x.op)) (hn:∀T T',Agr S T T'→RA ⟨k,b,t,T⟩ ⟨k',b',t',T'⟩)
  (hc:x.op=14→∀l,RA (fr0 cs x.n.toNat l) (fr0 cs' x.n.toNat l)) (hf:RelW RA fs fs'):RelA RA (stI cs k b x t R fs s c) (stI cs' k' b' x t' R' fs' s c):=by
 obtain⟨o1,o2,o3⟩:=ho;have hr:∀r∈x.args,rg R' r=rg R r:=fun r hr=>hA.rg (.inl (Jr.2 ⟨r,hr,rfl⟩));have ha:∀i,i<x.args.length→ar R' x i=ar R x i:=fun i hi=>by
  rw[ar,ar,Ja,Jc hi];exact hr _ (Ji hi)
 have hmk:Qb9 x.op=true↔¬x.op=12∧¬x.op=13:=by
  simp only[Qb9,Jf,decide_eq_true_eq,Jat,decide_eq_false_iff_not];omega
 rw[stI,stI];by_cases h1:x.op=1
 ·simp only[h1,if_true];exact .go s c (hn _ _ (hA.set (hmk.2 (by omega)) _)) hf
 by_cases h14:x.op=14
 ·have e:x.args.map (rg R')=x.args.map (rg R):=List.map_congr_left hr;simp only[h14,e];refine .go s c (hc h14 _) (.cons ⟨_,_,_,_,_,_,_,_,_,_,rfl,rfl,fun v=>?_⟩ hf);exact hn _ _ (hA.set (hmk.2 (by omega)) _)
 have hl:=o3 h14;rw[Qgx]at hl;have a0:ar R' x 0=ar R x 0:=ha 0 (by
  simp only[h1,if_false]at hl;split at hl <;> omega)
 by_cases h11:x.op=11
 ·simp only[h11,a0];simp only[show ¬((11:Int)=1)by omega,if_false,if_true];split
  ·exact .dn ..
  ·exact .go s c (hn _ _ (hA.set (hmk.2 (by omega)) _)) hf
 by_cases h13:x.op=13
 ·simp only[h13,a0];exact .go _ c (hn _ _ (hA.keep (by rw[h13];rfl))) hf
 by_cases h2:x.op=2
 ·simp only[h2,a0];exact .go s c (hn _ _ (hA.set (hmk.2 (by omega)) _)) hf
 by_cases h10:x.op=10
 ·have e:∀a b,arR x.op a b=some (trI (a=0)):=fun a b=>by rw[arR,h10];rfl
  simp only[e,a0,h1,h11,h13,h14,h2,show ¬(x.op=12)by omega,if_false];exact .go s c (hn _ _ (hA.set (hmk.2 (by omega)) _)) hf
 have a1:ar R' x 1=ar R x 1:=ha 1 (by
  rw[if_neg h1,if_neg (by omega)]at hl;omega)
 by_cases h12:x.op=12
 ·simp only[h12,a0,a1];simp only[show ¬((12:Int)=1)by omega,show ¬((12:Int)=11)by omega,if_false,if_true];split
  ·exact .dn ..
  ·exact .go s _ (hn _ _ (hA.keep (by rw[h12];rfl))) hf
 simp only[h1,h11,h12,h13,h14,h2,if_false,a0,a1];split
 ·exact .dn ..
 ·exact .go s c (hn _ _ (hA.set (hmk.2 (by omega)) _)) hf
end Go.AE.Y
namespace Go.AE.Y
attribute [local instance] Classical.propDecidable
variable {cs:List CodeD}{q:CodeD}
theorem Qbnc {b m w:Nat}(hm:m<q.blocks.length)(hw:w=wayI q m b){p:PhiD}(hp:p∈(Q9 q m).phis):(p.args.getD w 0).toNat∈Qbnb q b m:=by
 rw[Qbnb,Jc hm,←Qat hm];exact Jr.2 ⟨p,hp,by rw[hw,wayI]⟩
theorem Qa5l {S:RS'}{P:PhiD→Bool}(hP:∀p,S p.to.toNat→P p=true){v v':PhiD→Int}:∀(l:List PhiD) (T T':List Int),T'.length=T.length→(∀p∈l,S p.to.toNat→v' p=v p)→
  (∀r,S r→T'.getD r 0=T.getD r 0∨∃p∈l,p.to.toNat=r)→Agr S (l.foldl (fun T p=>T.set p.to.toNat (v p)) T) ((l.filter P).foldl (fun T p=>T.set p.to.toNat (v' p)) T')
 |[],T,T',hl,_,h=>⟨hl,fun r hr=>by
   rcases h r hr with h|⟨p,hp,_⟩
   ·exact h
   ·simp at hp⟩
 |p::l,T,T',hl,hv,h=>by
  have rest:∀r,S r→¬r=p.to.toNat→T'.getD r 0=T.getD r 0∨∃p'∈l,p'.to.toNat=r:=fun r hr he=>by
   rcases h r hr with h|⟨p',hp',he'⟩
   ·exact .inl h
   ·rcases Jq.1 hp' with rfl|hp'
    ·exact absurd he'.symm he
    ·exact .inr ⟨p',hp',he'⟩
  by_cases hs:P p=true
  ·rw[J2,if_pos hs,J8,J8];refine Qa5l hP l _ _ (by simp[hl]) (fun p' hp'=>hv p' (by simp[hp'])) fun r hr=>?_;by_cases he:r=p.to.toNat
   ·left;subst he;rw[hv p (by simp) hr];exact Qaw5 hl _ _
   ·rw[Qi3 he,Qi3 he];exact rest r hr he
  ·rw[J2,if_neg hs,J8];refine Qa5l hP l _ _ (by simp[hl]) (fun p' hp'=>hv p' (by simp[hp'])) fun r hr=>?_;have he:¬r=p.to.toNat:=fun he=>hs (hP p (he▸hr));rw[Qi3 he];exact rest r hr he
theorem Qbh8 {b i:Nat}(hb:b<q.blocks.length)(hi:i<(Q9 q b).ins.length)(X:RS'):(Q6 q).beh X b i=Qaso (Qgd (Q9 q b).ins[i],toN (Q9 q b).ins[i].args) ((Q6 q).beh X b (i+1)):=by
 have e:(Q6 q).ins b=(Q9 q b).ins.map fun x=>(Qgd x,toN x.args):=by simp only[Q6,Jc hb,Qat hb]
 rw[Flo.beh_step X b i (by rw[e];simpa using hi)];congr 1;simp only[e,Jaz]
theorem Qbh7 {b i:Nat}(hb:b<q.blocks.length)(hi:(Q9 q b).ins.length≤i)(X:RS'):(Q6 q).beh X b i=(Q6 q).endS X b:=by
 have e:(Q6 q).ins b=(Q9 q b).ins.map fun x=>(Qgd x,toN x.args):=by simp only[Q6,Jc hb,Qat hb]
 exact Flo.beh_end X b i (by rw[e];simpa using hi)
theorem Qbbp {b:Nat}(hb:b<q.blocks.length)(hj:¬(Q9 q b).jump=1):(Q9 q b).on.toNat∈(Q6 q).on b:=by
 simp only[Q6,Jc hb,←Qat hb,if_neg hj];simp
theorem Qbvz {b:Nat}(hb:b<q.blocks.length):(Q6 q).ph b=(Q9 q b).phis.map fun p=>p.to.toNat:=by
 simp only[Q6,Jc hb,←Qat hb]
theorem Qbba (ho:q.ok){b m:Nat}(hb:b<q.blocks.length)(hm:m<q.blocks.length)(hn:m∈nxN (gnx q) b){P:PhiD→Bool}(hP:∀p,(Q6 q).LB m 0 p.to.toNat→P p=true){R R':List Int}
  (hA:Agr ((Q6 q).endS ((Q6 q).LO b) b) R R'):Agr ((Q6 q).LB m 0) (phiR R (wayI q m b) (Q9 q m).phis) (phiR R' (wayI q m b) ((Q9 q m).phis.filter P)):=by
 refine Qa5l hP _ _ _ hA.1 (fun p hp _=>?_) fun r hr=>?_
 ·exact hA.rg (.inl ⟨m,hn,.inr (Qbnc hm rfl hp)⟩)
 ·by_cases hph:r∈(Q6 q).ph m
  ·right;rw[Qbvz hm]at hph;obtain⟨p,hp,he⟩:=Jr.1 hph;exact⟨p,hp,he⟩
  ·left;exact hA.2 r (.inl ⟨m,hn,.inl ((Flo.LI_fix ho.fitsF hm r).1 ⟨hr,hph⟩)⟩)
end Go.AE.Y
namespace Go.AE.Y
variable {cs:List CodeD}{S u u' u2:Nat}{X Y Z:Cf}{e:Int}{s c:List Int}
def Goes (cs:List CodeD)(S u:Nat)(X:Cf)(u':Nat)(Y:Cf):Prop:=u≤u'∧u'≤S∧Qfa cs (u'-u) X=Y
def Halts (cs:List CodeD)(S u:Nat)(X:Cf)(e:Int)(s c:List Int):Prop:=
 u≤S∧((e=3∧∃fs,Qfa cs (S-u) X=.go fs s c)∨(¬e=3∧∃n,n≤S-u∧Qfa cs n X=.dn e 0 s c))
theorem Goes.refl (h:u≤S):Goes cs S u X u X:=⟨Jp _,h,by rw[Jay];rfl⟩
theorem Goes.trans (h:Goes cs S u X u' Y)(k:Goes cs S u' Y u2 Z):Goes cs S u X u2 Z:=by
 obtain⟨h1,h2,h3⟩:=h;obtain⟨k1,k2,k3⟩:=k;refine⟨by omega,k2,?_⟩;rw[show u2-u=(u'-u)+(u2-u')by omega,Qjx,h3,k3]
theorem Goes.halts (h:Goes cs S u X u' Y)(k:Halts cs S u' Y e s c):Halts cs S u X e s c:=by
 obtain⟨h1,h2,h3⟩:=h;obtain⟨k1,k2⟩:=k;refine⟨by omega,?_⟩;rcases k2 with ⟨k2,fs,k3⟩|⟨k2,n,k3,k4⟩
 ·exact .inl ⟨k2,fs,by rw[show S-u=(u'-u)+(S-u')by omega,Qjx,h3,k3]⟩
 ·exact .inr ⟨k2,(u'-u)+n,by omega,by rw[Qjx,h3,k4]⟩
theorem Goes.one (h:u<S)(hs:step cs X=Y):Goes cs S u X (u+1) Y:=⟨by omega,by omega,by
 rw[Jz];exact hs⟩
theorem Halts.fuel {fs:List Fr}:Halts cs S S (.go fs s c) 3 s c:=⟨Jp _,.inl ⟨rfl,fs,by rw[Jay];rfl⟩⟩
theorem Halts.one (h:u<S)(he:¬e=3)(hs:step cs X=.dn e 0 s c):Halts cs S u X e s c:=⟨by omega,.inr ⟨he,1,by omega,hs⟩⟩
theorem Qbkf {l:List Int}(h:Halts cs S 0 (cf0 cs l) e s c):outR cs l S=(e,0,s,c):=by
 obtain⟨_,⟨rfl,fs,h⟩|⟨_,n,h1,h2⟩⟩:=h
 ·rw[Ja3]at h;rw[outR,h]
 ·rw[outR,Q4x cs h2 (by omega)]
theorem Qbpr {l:List Int}{v:Int}(h:Goes cs S 0 (cf0 cs l) u' (.dn 0 v s c)):outR cs l S=(0,v,s,c):=by
 obtain⟨_,h1,h2⟩:=h;rw[Ja3]at h2;rw[outR,Q4x cs h2 h1]
def byI (v:Int):Prop:=0≤v∧v≤255
def byL (l:List Int):Prop:=∀v∈l,byI v
theorem byL.get {l:List Int}(h:byL l)(i:Nat):byI (l.getD i 0):=by
 rw[Ja];by_cases hi:i<l.length
 ·rw[Jc hi];exact h _ (Ji hi)
 ·rw[Jl (by omega)];exact⟨by simp,by simp⟩
theorem byL.rg {l:List Int}(h:byL l)(r:Int):byI (rg l r):=h.get _
theorem byL.set {l:List Int}(h:byL l){v:Int}(hv:byI v)(i:Nat):byL (l.set i v):=fun x hx=>by
 rcases Jaf hx with hx|rfl
 ·exact h x hx
 ·exact hv
theorem byL.app {l:List Int}(h:byL l){v:Int}(hv:byI v):byL (l++[v]):=fun x hx=>by
 rcases Jj.1 hx with hx|hx
 ·exact h x hx
 ·rw[Jb]at hx;subst hx;exact hv
theorem Qbhw (b:Prop) [Decidable b]:byI (trI b):=by rw[trI];split <;> exact⟨by omega,by omega⟩
theorem Qbvk {op a b v:Int}(ha:byI a)(hb:byI b)(h:arR op a b=some v):byI v:=by
 have hm:∀x:Int,byI (x % 256):=fun x=>⟨by omega,by omega⟩;rw[arR]at h;split at h
 ·cases h;exact hm _
 ·split at h
  ·cases h;exact hm _
  ·split at h
   ·cases h;exact hm _
   ·split at h
    ·split at h
     ·cases h
     ·cases h;obtain⟨a1,a2⟩:=ha;obtain⟨b1,b2⟩:=hb;exact⟨Int.ediv_nonneg a1 b1,Int.le_trans (Int.ediv_le_self _ a1) a2⟩
    ·split at h
     ·split at h
      ·cases h
      ·rename_i hb0
       cases h;obtain⟨b1,b2⟩:=hb;exact⟨Int.emod_nonneg _ hb0,by have:=Int.emod_lt_of_pos a (show 0<b by omega);omega⟩
     ·split at h
      ·cases h;exact Qbhw _
      ·split at h <;> (cases h;exact Qbhw _)
theorem Qbm8 {q:CodeD}{l:List Int}(h:byL l):byL (Q54 q l):=fun x hx=>by
 rcases Jj.1 hx with hx|hx
 ·exact h x hx
 ·rw[Jt hx];exact⟨by omega,by omega⟩
end Go.AE.Y
namespace Go.AE.Y
open Go.Proofs.Tryz
def Qkq:List Item:=[oJ 5 4]
def Q59:SC:=cT 5 (sR [fI 2 (.mv (.k (.c (.sl true 1 []))))] [2] .ret) .skip
def Qkr:List Item:=[mJ 2 8]
def Qks:List Item:=aJ 8 Qnw [.t 7]::Qkr
def Q6a:SC:=sR (tJ 6 1 1::aJ 7 Qd0 [.t 6]::Qks) [2] .ret
def Q6b:SC:=.seq (sR (tJ 3 1 1::aJ 4 Qbb [.t 3]::Qkq) [1,5] Q59) Q6a
def Qage:SC:=sR [vJ 1 0,fI 2 (.mv (.k (.c (.sl true 1 []))))] [1] Q6b
def Qti:List RS:=[.tmp 2]
theorem Qae8:mFn prog Qdz 1 9 Qage Qti=true:=by kernel_rfl
def Qpi:List Item:=[mJ 10 19]
def Qpj:List Item:=sJ 4 9 18::Qpi
def Qpk:List Item:=mJ 13 17::fI 18 (.ext (.t 13) 0)::fI 19 (.ext (.t 13) 1)::eI 9 (.alloc [.sl true 1 [],.int .i64 0,.int .i64 0,.sl true 1 []])::Qpj
def Qpl:List Item:=[mJ 12 25]
def Qpm:List Item:=sJ 4 11 24::Qpl
def Qpn:List Item:=mJ 20 23::fI 24 (.ext (.t 20) 0)::fI 25 (.ext (.t 20) 1)::eI 11 (.alloc [.sl true 1 [],.int .i64 0,.int .i64 0,.sl true 1 []])::Qpm
def Qd2:List Item:=[gT 38 30 (.pick (.t 34) (.k (.c (.bool true))) (.t 37)),pF 39 30 38,mJ 8 39]
def Qagl:SC:=sR (mJ 26 10::mJ 27 26::gTm 28 27 12::pF 29 27 28::mJ 30 29::gTf 31 30 1 9::gTl 32 30 31::gT 33 30 (.bin 0 .eql (.t 32) (kI 3))::gTm 34 30 33::gF 35 34 (.ld 4 true (.t 9))::gF 36 34 (.ld 4 true (.t 11))::.e (some 37) (some (34,false)) (.call Qf9 [.t 35,.t 36])::Qd2) [8] .ret
def Qagm:SC:=sR (tJ 21 1 5::mJ 22 2::aJ 23 Qh5 [.t 21,.t 22,kI 60000]::Qpn) [9,10,11,12] Qagl
def Qagn:SC:=sR (tJ 14 1 4::mJ 15 2::mJ 16 3::aJ 17 Qh5 [.t 14,.t 15,.t 16]::Qpk) [2,5,9,10] Qagm
def Qatv:SC:=sR [vJ 4 0,vJ 5 1,fB 8 false] [2,3,4,5] Qagn
def Qh9:List RS:=[.tmp 8]
theorem Qas0:mFn prog Qgq 4 40 Qatv Qh9=true:=by kernel_rfl
def Q7a:SC:=sR [fJ 3 0 1,lJ 4 3,fJ 5 0 1,lJ 6 5,nJ 7 6,cJ 8 .sub 7 1,iJ 9 3 4 8,fJ 10 0 9,lJ 11 10,mJ 2 11] [2] .ret
def Qag9:SC:=sR [vJ 1 0,zJ 2 0] [1] Q7a
def Qtm:List RS:=[.tmp 2]
theorem Qafb:mFn prog Qd0 1 12 Qag9 Qtm=true:=by kernel_rfl
def Qtv:List Item:=[fB 7 false]
def Qtw:List Item:=[oJ 14 13]
def Qagk:List Item:=[fB 7 false]
def Qam8:SC:=cT 14 (sR (fI 15 (.bld [.sl true 1 [],.int .i64 0,.int .i64 0,.sl true 1 []] [])::sJ 4 6 15::Qagk) [6,7] .ret) .skip
def Qtx:List Item:=[mJ 9 22]
def Qty:List Item:=sJ 4 8 21::Qtx
def Qtz:List Item:=mJ 16 20::fI 21 (.ext (.t 16) 0)::fI 22 (.ext (.t 16) 1)::eI 8 (.alloc [.sl true 1 [],.int .i64 0,.int .i64 0,.sl true 1 []])::Qty
def Qt0:List Item:=[fB 7 true]
def Qam9:SC:=sR (tJ 23 4 8::sJ 4 6 23::Qt0) [6,7] .ret
def Qana:SC:=sR (tJ 17 1 3::mJ 18 1::mJ 19 2::aJ 20 Qnv [.t 17,.t 18,.t 19]::Qtz) [6,8] Qam9
def Qagj:SC:=.seq (sR (tJ 10 1 3::mJ 11 1::mJ 12 2::aJ 13 Qk7 [.t 10,.t 11,.t 12]::Qtw) [1,2,3,6,14] Qam8) Qana
def Qayp:SC:=sR (vJ 3 0::eI 6 (.alloc [.sl true 1 [],.int .i64 0,.int .i64 0,.sl true 1 []])::Qtv) [1,2,3,6] Qagj
def Q8a:List RS:=[.cell 6 4 true,.tmp 7]
theorem Qaxl:mFn prog Qh5 3 24 Qayp Q8a=true:=by kernel_rfl
def Qjd:List Item:=[pF 30 24 29,mJ 4 30]
def Qje:List Item:=mJ 10 9::gTf 11 10 1 2::gTl 12 10 11::gTf 13 10 1 3::gTl 14 10 13::gT 15 10 (.bin 0 .eql (.t 12) (.t 14))::pF 16 10 15::mJ 17 16::gTf 18 17 2 2::gTl 19 17 18::gTf 20 17 2 3::gTl 21 17 20::gT 22 17 (.bin 0 .eql (.t 19) (.t 21))::pF 23 17 22::mJ 24 23::gTf 25 24 3 2::gTl 26 24 25::gTf 27 24 3 3::gTl 28 24 27::.e (some 29) (some (24,true)) (.call Qn5 [.t 26,.t 28])::Qjd
def Q3c:SC:=sR (fJ 5 0 2::lJ 6 5::fJ 7 0 3::lJ 8 7::aJ 9 Qn5 [.t 6,.t 8]::Qje) [4] .ret
def Qabk:SC:=sR [vJ 2 0,vJ 3 1,fB 4 false] [2,3] Q3c
def Qo6:List RS:=[.tmp 4]
theorem Qaa9:mFn prog Qf9 2 31 Qabk Qo6=true:=by kernel_rfl
def Qpr:List Item:=[pF 18 15 17,mJ 6 18]
def Qps:List Item:=pF 14 9 13::mJ 15 14::gTm 16 15 2::.e (some 17) (some (15,true)) (.call Qar [.t 16,kI 0,kI 60000])::Qpr
def Qpt:List Item:=.e (some 13) (some (9,true)) (.call Qnr [.t 10,.t 12])::Qps
def Qpu:List Item:=mJ 9 8::gTm 10 9 1::gT 11 9 (.ld 1 true (.t 3))::.e (some 12) (some (9,true)) (.call Qd0 [.t 11])::Qpt
def Qahe:SC:=sR (tJ 7 1 3::aJ 8 Qbb [.t 7]::Qpu) [6] .ret
def Qaul:SC:=sR [vJ 3 0,fB 6 false] [1,2,3] Qahe
def Q20:List RS:=[.tmp 6]
theorem Qas6:mFn prog Qk7 3 19 Qaul Q20=true:=by kernel_rfl
def Quv:List Item:=[fI 7 (.mv (.k (.c .pnil)))]
def Quw:List Item:=[sJ 1 8 13]
def Qux:List Item:=eI 8 (.alloc [.pnil])::Quw
def Qjp:List Item:=[fJ 16 1 9,sJ 1 16 15]
def Quy:List Item:=[fJ 27 3 9,sJ 1 27 25]
def Quz:List Item:=hJ 17 8::hJ 20 19::sJ 1 26 20::Quy
def Qu0:List Item:=[hJ 29 8,mJ 7 29]
def Qaok:SC:=.seq (.dreg 4 [0,1,2,1,3] ( tJ 28 4 9::lJ 29 8::sJ 4 6 28::Qu0) [6,7]) .ret
def Qaol:SC:=.seq (.seq .gh (.dreg 13 [0,1,2,3,4,5,6,7,9,8,0,3,10,11,12] ( lJ 17 8::kJ 18 17::fJ 19 3 18::lJ 20 19::lJ 21 8::kJ 22 21::fJ 23 4 22::fI 24 (.aslp 16 (.t 23) none)::fJ 26 0 9::aJ 25 Qc6 [.t 24]::Quz) [6,8,9])) Qaok
def Qaom:SC:=sR (fI 14 (.mkf Qhi [.t 8,.t 3,.t 4,.t 9])::aJ 15 Qst [.t 14]::Qjp) [6,8,9] Qaol
def Qaha:SC:=sR [eI 9 (.alloc [.sl true 1 [],.int .i64 0,.int .i64 0,.sl true 1 []])] [3,4,6,8,9] Qaom
def Qahb:SC:=sR (tJ 10 1 3::mJ 11 2::fI 12 (.bld [.sl true 3 [],.int .i64 0,.int .i64 0,.sl true 1 [],.int .i64 0,.int .i64 0,.int .i64 0,.int .i64 0,.int .i64 0,.int .i64 0,.int .i64 0,.int .i64 0,.int .i64 0,.int .i64 0,.int .i64 0,.int .i64 0,.int .i64 0,.int .i64 0,.int .i64 0,.int .i64 0,.sl true 1 []] [(0,1,.t 10),(1,1,.t 11)])::eI 13 (.boxm (.t 12))::Qux) [3,4,6,8] Qaha
def Qay1:SC:=sR (vJ 3 0::vJ 4 1::eI 6 (.alloc [.sl true 1 [],.int .i64 0,.int .i64 0,.sl true 1 []])::Quv) [2,3,4,6] Qahb
def Q8c:List RS:=[.cell 6 4 true,.tmp 7]
theorem Qaxp:mFn prog Qnv 3 30 Qay1 Q8c=true:=by kernel_rfl
def Qt1:List Item:=[gT 12 9 (.not (.t 11)),pF 13 9 12,mJ 4 13]
def Qanc:SC:=sR (mJ 5 0::nJ 6 5::mJ 7 1::bJ 8 .eql 6 7::mJ 9 8::gTm 10 9 0::.e (some 11) (some (9,true)) (.call Qbk [.t 10,.k (.c (.fn Qhh []))])::Qt1) [4] .ret
def Qayx:SC:=sR [fB 4 false] [0,1] Qanc
def Q8b:List RS:=[.tmp 4]
theorem Qaxm:mFn prog Qnr 2 14 Qayx Q8b=true:=by kernel_rfl
def Qkx:List Item:=[fJ 11 2 3,sJ 1 11 10]
def Qahc:SC:=.reg (lJ 4 0::fJ 5 0 1::lJ 6 5::nJ 7 6::cJ 8 .sub 7 1::lJ 9 2::aJ 10 Qcz [.t 4,.t 8,.t 9,.k (.c (.bool true))]::Qkx) []
def Qto:List RS:=[]
theorem Qafc:mFn prog Qhi 4 12 Qahc Qto=true:=by kernel_rfl
def Qho:List Item:=[sJ 3 9 27]
def Qhp:List Item:=[sJ 1 10 30]
def Qhq:List Item:=eI 10 (.alloc [.sl true 1 []])::Qhp
def Qhr:List Item:=[kJ 43 35,fJ 44 20 43,sJ 1 44 42]
def Q1u:SC:=cT 34 (.reg (mJ 35 0::mJ 36 0::kJ 37 36::fJ 38 20 37::lJ 39 38::mJ 40 11::fI 41 (.bsl 1 [.t 40])::xJ 42 1 39 41::Qhr) [0,3,9,10,11,12]) .skip
def Qhs:List Item:=[sJ 5 13 49]
def Qht:List Item:=[sJ 1 14 62]
def Qhu:List Item:=eI 14 (.alloc [.int .i64 0])::Qht
def Qhv:List Item:=mJ 61 12::aJ 62 Qiz [.t 60,.t 61]::Qhu
def Qhw:List Item:=[mJ 15 66]
def Qg6:List Item:=[mJ 16 72,sJ 2 17 74]
def Qye:SC:=.dreg 9 [0,1,2,3,4,5,6,7,8] ( lJ 75 10::fJ 76 0 17::lJ 77 76::mJ 78 15::mJ 79 16::iJ 80 1 78 79::lJ 81 80::iJ 82 1 75 77::sJ 1 82 81::[]) [0,3,9,10,11,13,15,68,69,70]
def Qyf:SC:=.reg [cJ 83 .add 70 1,mJ 70 83] [0,3,9,10,11,13,15,68,69,70]
def Qyg:SC:=.seq (.block 3 (sR (mJ 72 70::iJ 73 2 68 70::tJ 74 2 73::eI 17 (.alloc [.int .i64 0,.sl true 1 []])::Qg6) [0,3,9,10,11,13,15,16,17,68,69,70] Qye)) Qyf
def Qu1:SC:=sR [bJ 71 .lss 70 69] [0,3,9,10,11,13,15,68,69,70,71] (cX 71 2 Qyg)
def Qyh:SC:=sR [fJ 67 0 13,lJ 68 67,nJ 69 68,zJ 70 0] [0,3,9,10,11,13,15,68,69,70] (bL 2 Qu1)
def Qyi:SC:=sR (fJ 63 0 13::lJ 64 63::fI 65 (.mkf Qbi [.t 10,.t 14])::aJ 66 Qdn [.t 64,.t 65]::Qhw) [0,3,9,10,11,13,15] Qyh
def Qyj:SC:=cT 57 (sR (tJ 58 3 9::mJ 59 11::aJ 60 Qeq [.t 58,.t 59]::Qhv) [0,3,9,10,11,13,14] Qyi) .skip
def Qg7:List Item:=[sJ 4 19 90]
def Qyk:SC:=.reg [mJ 91 0,tJ 92 4 19,lJ 93 10,aJ 94 Qd4 [.t 91,.t 92,.t 93]] [0,3,9,10,11,13,85,86,87]
def Qyl:SC:=.reg [cJ 95 .add 87 1,mJ 87 95] [0,3,9,10,11,13,85,86,87]
def Qym:SC:=.seq (.block 5 (sR (iJ 89 4 85 87::tJ 90 4 89::eI 19 (.alloc [.int .i64 0,.int .i64 0,.sl true 1 [],.int .i64 0])::Qg7) [0,3,9,10,11,13,19,85,86,87] Qyk)) Qyl
def Qu2:SC:=sR [bJ 88 .lss 87 86] [0,3,9,10,11,13,85,86,87,88] (cX 88 4 Qym)
def Qyn:SC:=cT 112 (.reg [fJ 124 4 13,lJ 125 124,fI 126 (.iad 1 (.t 125) (kI 1)),lJ 127 126,mJ 11 127] [0,3,9,10,11,12]) (.reg [fJ 99 4 13,lJ 100 99,fI 101 (.iad 1 (.t 100) (kI 0)),lJ 102 101,mJ 11 102] [0,3,9,10,11,12])
def Qyo:SC:=cT 103 (sR [lJ 107 10,fJ 108 3 13,lJ 109 108,iJ 110 1 107 109,lJ 111 110,mJ 8 111] [8] .ret) (sR [fJ 113 2 13,lJ 114 113,cJ 115 .eql 114 2,mJ 116 115,gTl 117 116 10,gTf 118 116 3 13,gTl 119 116 118,gT 120 116 (.iad 1 (.t 117) (.t 119)),gTl 121 116 120,gT 122 116 (.bin 0 .eql (.t 121) (kI 0)),pF 123 116 122,mJ 112 123] [0,3,9,10,12,13,112] Qyn)
def Qyp:SC:=.block 6 (sR [fJ 104 2 13,lJ 105 104,cJ 106 .eql 105 3,mJ 103 106] [0,3,9,10,12,13,103] Qyo)
def Qyq:SC:=sR [mJ 98 11,mJ 12 98] [0,3,9,10,12,13] Qyp
def Qyr:SC:=sR [mJ 96 0,aJ 97 Qc0 [.t 96]] [0,3,9,10,11,13] Qyq
def Qys:SC:=.seq (sR [fJ 84 1 13,lJ 85 84,nJ 86 85,zJ 87 0] [0,3,9,10,11,13,85,86,87] (bL 4 Qu2)) Qyr
def Qyt:SC:=.seq (sR [mJ 50 12,cJ 51 .geq 50 0,mJ 52 51,gTf 53 52 0 13,gTl 54 52 53,gT 55 52 (.len (.t 54)),gT 56 52 (.bin 0 .gtr (.t 55) (kI 0)),pF 57 52 56] [0,3,9,10,11,12,13,57] Qyj) Qys
def Qyu:SC:=sR (fJ 45 2 9::lJ 46 45::mJ 47 11::iJ 48 5 46 47::tJ 49 5 48::eI 13 (.alloc [.sl true 2 [],.sl true 4 [],.int .i64 0,.int .i64 0,.sl true 1 []])::Qhs) [0,3,9,10,11,12,13] Qyt
def Qu3:SC:=.block 1 (.seq (sR [mJ 34 3] [0,3,9,10,11,12,34] Q1u) Qyu)
def Qyv:SC:=sR [zJ 11 0,zJ 12 (-1)] [0,3,9,10,11,12] (bL 0 Qu3)
def Qyw:SC:=sR [lJ 31 10,mJ 32 2,eI 33 (.cpy 1 (.t 31) (.t 32))] [0,3,9,10] Qyv
def Qyx:SC:=sR (fJ 28 1 9::lJ 29 28::eI 30 (.mks 1 [.int .i64 0] (.t 29))::Qhq) [0,2,3,9,10] Qyw
def Qyy:SC:=sR (mJ 20 0::kJ 21 20::fJ 22 0 21::fJ 23 0 22::lJ 24 23::mJ 25 1::iJ 26 3 24 25::tJ 27 3 26::eI 9 (.alloc [.int .i64 0,.int .i64 0,.sl true 5 []])::Qho) [0,2,3,9] Qyx
def Q7c:SC:=sR [zJ 8 0] [0,1,2,3] Qyy
def Qmj:List RS:=[.tmp 8]
theorem Q5r:mFn prog Qcz 4 128 Q7c Qmj=true:=by kernel_rfl
def Qkt:List Item:=[oJ 5 4,mJ 2 5]
def Q6g:SC:=sR (mJ 3 0::aJ 4 Qj9 [.t 3]::Qkt) [2] .ret
def Qagr:SC:=sR [fB 2 false] [0] Q6g
def Qtk:List RS:=[.tmp 2]
theorem Qae9:mFn prog Qhh 1 6 Qagr Qtk=true:=by kernel_rfl
def Qrd:SC:=.seq (.dreg 9 [0,1,2,3,4,5,6,7,8] ( lJ 5 1::fJ 6 1 3::lJ 7 6::lJ 8 2::iJ 9 1 7 8::lJ 10 9::iJ 11 1 5 10::lJ 12 11::mJ 4 12::[]) [4]) .ret
def Qyz:SC:=sR [vJ 3 0,zJ 4 0] [1,2,3] Qrd
def Qhm:List RS:=[.tmp 4]
theorem Qyb:mFn prog Qbi 3 13 Qyz Qhm=true:=by kernel_rfl
def Qg8:List Item:=[hJ 44 5,hJ 46 45,kJ 51 50,lJ 52 51,iJ 53 1 44 46,sJ 1 53 52]
def Qg9:List Item:=hJ 44 5::hJ 46 45::aJ 50 Qcy [.t 47,.t 49]::Qg8
def Qha:List Item:=[kJ 62 59,sJ 1 62 61]
def Qhb:List Item:=mJ 60 6::eI 61 (.callv (.t 60) [kI 1])::Qha
def Qhc:List Item:=aJ 59 Qcy [.t 56,.t 58]::Qhb
def Qhd:List Item:=[kJ 74 65,fJ 75 3 74,sJ 1 75 73]
def Qhe:List Item:=hJ 69 68::fI 72 (.bsl 1 [.t 71])::xJ 73 1 69 72::Qhd
def Qhf:List Item:=[mJ 7 89]
def Qhg:List Item:=fI 88 (.bsl 1 [.t 87])::xJ 89 1 84 88::Qhf
def Qy0:SC:=.reg (mJ 84 7::mJ 85 6::mJ 86 8::eI 87 (.callv (.t 85) [.t 86])::Qhg) [0,4,5,6,7,80,81]
def Qu4:SC:=.reg [cJ 90 .add 81 1,mJ 81 90] [0,4,5,6,7,80,81]
def Qu5:SC:=.seq (.block 2 (sR [mJ 83 81,mJ 8 83] [0,4,5,6,7,8,80,81] Qy0)) Qu4
def Qre:SC:=sR [bJ 82 .lss 81 80] [0,4,5,6,7,80,81,82] (cX 82 1 Qu5)
def Qfm:List Item:=[hJ 91 5,hJ 93 92,iJ 99 1 91 93,sJ 1 99 98]
def Qu6:SC:=.dreg 10 [0,1,2,3,4,5,6,7,0,2,8,9] ( lJ 91 5::fJ 92 1 4::lJ 93 92::mJ 94 0::fJ 95 3 4::lJ 96 95::mJ 97 7::aJ 98 Qcz [.t 94,.t 96,.t 97,.k (.c (.bool false))]::Qfm) []
def Qu7:SC:=.seq (sR [fJ 78 2 4,lJ 79 78,nJ 80 79,zJ 81 0] [0,4,5,6,7,80,81] (bL 1 Qre)) Qu6
def Qfn:List Item:=[hJ 102 5,hJ 104 103,iJ 107 1 102 104,sJ 1 107 106]
def Qfo:List Item:=[hJ 111 5,hJ 113 112,mJ 110 116,fI 117 (.ext (.t 110) 0),fI 118 (.ext (.t 110) 1),iJ 119 1 111 113,sJ 1 119 117]
def Qfp:List Item:=hJ 111 5::hJ 113 112::aJ 116 Qir [kI 11,.t 115,kI 0]::Qfo
def Qfq:List Item:=[mJ 16 23,fI 24 (.ext (.t 16) 0),fI 25 (.ext (.t 16) 1),mJ 9 24,mJ 10 25]
def Qfr:List Item:=hJ 18 17::aJ 23 Qir [.t 18,.t 20,.t 22]::Qfq
def Qfs:List Item:=hJ 18 17::eI 22 (.callv (.t 21) [kI 1])::Qfr
def Qu8:SC:=cT 27 (.reg [aJ 28 Ql2 [kI 1]] [4,5,9]) .skip
def Qu9:SC:=.reg [lJ 29 5,fJ 30 1 4,lJ 31 30,mJ 32 9,iJ 33 1 29 31,sJ 1 33 32] []
def Qva:SC:=.seq (sR [mJ 26 10,oJ 27 26] [4,5,9,27] Qu8) Qu9
def Qvb:SC:=cT 108 (.dreg 11 [0,1,2,3,4,0,2,5,0,2,6,7,8,9,10] ( lJ 111 5::fJ 112 1 4::lJ 113 112::mJ 114 6::eI 115 (.callv (.t 114) [kI 0])::Qfp) []) (.seq (.dreg 12 [0,1,2,4,3,1,5,1,6,7,8,9,10,11] ( fJ 17 0 4::lJ 18 17::mJ 19 6::mJ 21 6::eI 20 (.callv (.t 19) [kI 0])::Qfs) [4,5,9,10]) Qva)
def Qvc:SC:=cT 100 (.dreg 7 [0,1,2,3,4,0,2,5,6] ( lJ 102 5::fJ 103 1 4::lJ 104 103::mJ 105 6::eI 106 (.callv (.t 105) [kI 0])::Qfn) []) (sR [cJ 109 .eql 15 10,mJ 108 109] [4,5,6,108] Qvb)
def Qvd:SC:=cT 76 (sR [fI 7 (.mv (.k (.c (.sl true 1 []))))] [0,4,5,6,7] Qu7) (sR [cJ 101 .eql 15 2,mJ 100 101] [4,5,6,15,100] Qvc)
def Qve:SC:=cT 63 (.dreg 12 [0,1,2,3,4,5,6,4,7,8,9,10,11] ( mJ 65 0::mJ 66 0::kJ 67 66::fJ 68 3 67::lJ 69 68::mJ 70 6::eI 71 (.callv (.t 70) [kI 0])::Qhe) []) (sR [cJ 77 .eql 15 14,mJ 76 77] [0,4,5,6,15,76] Qvd)
def Qvf:SC:=cT 54 (.reg (mJ 56 0::mJ 57 6::eI 58 (.callv (.t 57) [kI 0])::Qhc) []) (sR [cJ 64 .eql 15 13,mJ 63 64] [0,4,5,6,15,63] Qve)
def Qvg:SC:=cT 42 (.dreg 11 [0,1,2,3,4,5,0,2,6,0,2,7,8,9,10] ( lJ 44 5::fJ 45 1 4::lJ 46 45::mJ 47 0::mJ 48 6::eI 49 (.callv (.t 48) [kI 0])::Qg9) []) (sR [cJ 55 .eql 15 12,mJ 54 55] [0,4,5,6,15,54] Qvf)
def Qvh:SC:=cT 34 (.reg [lJ 36 5,fJ 37 1 4,lJ 38 37,fJ 39 3 4,lJ 40 39,iJ 41 1 36 38,sJ 1 41 40] []) (sR [cJ 43 .eql 15 11,mJ 42 43] [0,4,5,6,15,42] Qvg)
def Qvi:SC:=.block 0 (sR [cJ 35 .eql 15 1,mJ 34 35] [0,4,5,6,15,34] Qvh)
def Qvj:SC:=sR [fJ 14 0 4,lJ 15 14] [0,4,5,6,15] Qvi
def Qvk:SC:=sR [fI 13 (.mkf Qbx [.t 5,.t 4]),mJ 6 13] [0,4,5,6] Qvj
def Qvl:SC:=sR [mJ 11 0,aJ 12 Qc0 [.t 11]] [0,4,5] Qvk
def Q4b:SC:=sR [vJ 4 1,vJ 5 2] [0,4,5] Qvl
def Qc1:List RS:=[]
theorem Q2q:mFn prog Qd4 3 120 Q4b Qc1=true:=by kernel_rfl
def Q1v:SC:=cT 10 (.reg [aJ 11 Ql2 [kI 3]] [0]) .skip
def Q1w:SC:=.reg [mJ 12 0,kJ 13 12,fJ 14 2 13,lJ 15 14,cJ 16 .add 15 1,kJ 17 12,fJ 18 2 17,sJ 1 18 16] []
def Q7d:SC:=.seq (.seq (.dreg 9 [0,1,2,3,4,5,6,7,8] ( mJ 2 0::kJ 3 2::fJ 4 2 3::lJ 5 4::mJ 6 0::kJ 7 6::fJ 8 1 7::lJ 9 8::bJ 10 .eql 5 9::[]) [0,10]) Q1v) Q1w
def Qmk:List RS:=[]
theorem Q5s:mFn prog Qc0 1 19 Q7d Qmk=true:=by kernel_rfl
def Qoo:SC:=.seq (.dreg 9 [0,1,2,3,4,5,6,7,8] ( lJ 5 1::fJ 6 2 2::lJ 7 6::mJ 8 0::iJ 9 1 7 8::lJ 10 9::iJ 11 1 5 10::lJ 12 11::mJ 4 12::[]) [4]) .ret
def Qvm:SC:=sR [zJ 4 0] [0,1,2] Qoo
def Qg3:List RS:=[.tmp 4]
theorem Qta:mFn prog Qbx 3 13 Qvm Qg3=true:=by kernel_rfl
def Q1r:SC:=cT 6 (.reg [aJ 7 Ql2 [kI 2]] [0,1]) .skip
def Q1s:SC:=sR [mJ 8 0,mJ 9 1,kJ 10 8,fJ 11 4 10,fI 12 (.iaa 1 16 (.t 11) (.t 9)),mJ 4 12] [4] .ret
def Q1t:SC:=.seq (sR [mJ 5 1,cJ 6 .geq 5 16] [0,1,6] Q1r) Q1s
def Q7b:SC:=sR [fI 4 (.mv (.k (.c .pnil)))] [0,1] Q1t
def Qmi:List RS:=[.tmp 4]
theorem Q5q:mFn prog Qcy 2 13 Q7b Qmi=true:=by kernel_rfl
def Qayq:SC:=cT 29 .skip (.reg [cJ 31 .eql 9 7,mJ 29 31] [0,1,2,8,9,29])
def Qayr:SC:=cT 33 (sR [zJ 6 0,fB 7 false] [6,7] .ret) .skip
def Qays:SC:=cT 35 (sR [mJ 36 1,mJ 37 2,bJ 38 .quo 36 37,mJ 6 38,fB 7 true] [6,7] .ret) .skip
def Qayt:SC:=sR [mJ 39 1,mJ 40 2,bJ 41 .rem 39 40,mJ 6 41,fB 7 true] [6,7] .ret
def Qayu:SC:=.seq (sR [mJ 34 0,cJ 35 .eql 34 6] [1,2,35] Qays) Qayt
def Q3g:List Item:=[mJ 6 48,fB 7 true]
def Q3h:List Item:=[mJ 6 55,fB 7 true]
def Qat4:List Item:=[mJ 6 65,fB 7 true]
def Qayv:SC:=cT 56 (sR (mJ 58 8::mJ 59 1::cJ 60 .neq 59 0::mJ 61 60::gTm 62 61 2::gT 63 61 (.bin 0 .neq (.t 62) (kI 0))::pF 64 61 63::eI 65 (.callv (.t 58) [.t 64])::Qat4) [6,7] .ret) .skip
def Qayw:SC:=cT 49 (sR (mJ 51 8::mJ 52 1::mJ 53 2::bJ 54 .eql 52 53::eI 55 (.callv (.t 51) [.t 54])::Q3h) [6,7] .ret) (sR [cJ 57 .eql 9 10,mJ 56 57] [1,2,8,56] Qayv)
def Qatw:SC:=cT 42 (sR (mJ 44 8::mJ 45 1::mJ 46 2::bJ 47 .lss 45 46::eI 48 (.callv (.t 44) [.t 47])::Q3g) [6,7] .ret) (sR [cJ 50 .eql 9 9,mJ 49 50] [1,2,8,9,49] Qayw)
def Q3e:SC:=cT 29 (.seq (sR [mJ 32 2,cJ 33 .eql 32 0] [0,1,2,33] Qayr) Qayu) (sR [cJ 43 .eql 9 8,mJ 42 43] [1,2,8,9,42] Qatw)
def Qatx:SC:=cT 23 (sR [mJ 25 1,mJ 26 2,bJ 27 .mul 25 26,cJ 28 .rem 27 256,mJ 6 28,fB 7 true] [6,7] .ret) (.seq (sR [cJ 30 .eql 9 6,mJ 29 30] [0,1,2,8,9,29] Qayq) Q3e)
def Qaty:SC:=cT 16 (sR [mJ 18 1,mJ 19 2,bJ 20 .sub 18 19,cJ 21 .add 20 256,cJ 22 .rem 21 256,mJ 6 22,fB 7 true] [6,7] .ret) (sR [cJ 24 .eql 9 5,mJ 23 24] [0,1,2,8,9,23] Qatx)
def Qatz:SC:=cT 10 (sR [mJ 12 1,mJ 13 2,bJ 14 .add 12 13,cJ 15 .rem 14 256,mJ 6 15,fB 7 true] [6,7] .ret) (sR [cJ 17 .eql 9 4,mJ 16 17] [0,1,2,8,9,16] Qaty)
def Qat0:SC:=.block 0 (sR [cJ 11 .eql 9 3,mJ 10 11] [0,1,2,8,9,10] Qatz)
def Qzt:List Item:=[mJ 6 69,fB 7 true]
def Q3f:SC:=sR (mJ 66 8::mJ 67 1::cJ 68 .eql 67 0::eI 69 (.callv (.t 66) [.t 68])::Qzt) [6,7] .ret
def Qat1:SC:=.seq (sR [mJ 9 0] [0,1,2,8,9] Qat0) Q3f
def Qat2:SC:=sR [fI 8 (.mv (.k (.c (.fn Qgr []))))] [0,1,2,8] Qat1
def Qbe4:SC:=sR [zJ 6 0,fB 7 false] [0,1,2] Qat2
def Qmg:List RS:=[.tmp 6,.tmp 7]
theorem Qard:mFn prog Qir 3 70 Qbe4 Qmg=true:=by kernel_rfl
def Qago:SC:=cT 3 (sR [zJ 2 1] [2] .ret) .skip
def Qagp:SC:=sR [zJ 2 0] [2] .ret
def Qagq:SC:=.seq (sR [mJ 3 0] [3] Qago) Qagp
def Qat3:SC:=sR [zJ 2 0] [0] Qagq
def Qoa:List RS:=[.tmp 2]
theorem Qas1:mFn prog Qgr 1 4 Qat3 Qoa=true:=by kernel_rfl
def Qvn:List Item:=[sJ 3 5 9]
def Qvo:List Item:=[mJ 3 15]
def Qvp:List Item:=fI 14 (.bsl 1 [.t 13])::xJ 15 1 10 14::Qvo
def Qaon:SC:=.seq .gh (.reg (mJ 10 3::mJ 11 0::fI 12 (.aslp 3 (.t 5) (some (.t 11)))::aJ 13 Qc6 [.t 12]::Qvp) [0,3,6,7])
def Qaoo:SC:=.reg [cJ 16 .add 7 1,mJ 7 16] [0,3,6,7]
def Qaop:SC:=.seq (.block 1 (sR (fI 9 (.iax 3 3 (.t 6) (.t 7))::eI 5 (.alloc [.int .i64 0,.int .i64 0,.int .i64 0])::Qvn) [0,3,5,6,7] Qaon)) Qaoo
def Qahd:SC:=sR [cJ 8 .lss 7 3] [0,3,6,7,8] (cX 8 0 Qaop)
def Qaoq:SC:=sR [mJ 17 3,mJ 2 17] [2] .ret
def Qaor:SC:=.seq (sR [fI 6 (.ldg 9 0 0),zJ 7 0] [0,3,6,7] (bL 0 Qahd)) Qaoq
def Qaos:SC:=sR [fI 3 (.mv (.k (.c (.sl true 1 []))))] [0,3] Qaor
def Qay2:SC:=sR [fI 2 (.mv (.k (.c (.sl true 1 []))))] [0] Qaos
def Q8d:List RS:=[.tmp 2]
theorem Qaxq:mFn prog Qnw 1 18 Qay2 Q8d=true:=by kernel_rfl
def Qfj:List Item:=[sJ 2 7 13]
def Qfk:List Item:=[mJ 5 19]
def Qfl:List Item:=fI 18 (.bsl 1 [.t 17])::xJ 19 1 14 18::Qfk
def Quk:SC:=.reg (mJ 14 5::mJ 15 1::tJ 16 2 7::eI 17 (.callv (.t 15) [.t 16])::Qfl) [1,5,8,9,10]
def Qul:SC:=.reg [cJ 20 .add 10 1,mJ 10 20] [1,5,8,9,10]
def Qum:SC:=.seq (.block 1 (sR (iJ 12 2 8 10::tJ 13 2 12::eI 7 (.alloc [.int .i64 0,.sl true 1 []])::Qfj) [1,5,7,8,9,10] Quk)) Qul
def Qrc:SC:=sR [bJ 11 .lss 10 9] [1,5,8,9,10,11] (cX 11 0 Qum)
def Qun:SC:=sR [mJ 21 5,mJ 4 21] [4] .ret
def Quo:SC:=.seq (sR [mJ 8 0,nJ 9 8,zJ 10 0] [1,5,8,9,10] (bL 0 Qrc)) Qun
def Qup:SC:=sR [fI 5 (.mv (.k (.c (.sl true 1 []))))] [0,1,5] Quo
def Q1p:SC:=sR [fI 4 (.mv (.k (.c (.sl true 1 []))))] [0,1] Qup
def Qjb:List RS:=[.tmp 4]
theorem Q03:mFn prog Qdn 2 22 Q1p Qjb=true:=by kernel_rfl
variable {H:Heap}{K:V→Heap→Prop}
def endV (n:Int):Value:=.iface 190 (.int .i64 n)
theorem Qbrq (n:Int)(w:World):Calls prog Ql2 #[.int .i64 n] w fun e w'=>e=.panicked [{ v:=endV n,recovered:=false }]∧w'=w:=by
 go_enter Go.Proofs.Tryz.func271,Go.Proofs.Tryz.ntmps271
 go_wp2
 exact⟨rfl,rfl,rfl⟩
theorem Qbmo {n:Int}(hK:K (.pn (endV n)) H):Qr prog Ql2 [.c (.int .i64 n)] H K:=by
 refine⟨by kernel_rfl,fun g w vs hs hl hv=>?_⟩;obtain⟨v,rfl⟩:∃v,vs=[v]:=by
  match vs,hl with
  |[v],_=>exact⟨v,rfl⟩
 have hr:=hv 0 _ v rfl rfl
 cases hr with
 |c _ _ hr=>
  cases hr;refine (Qbrq n w).mono fun e w'=>?_;rintro⟨rfl,rfl⟩;exact .inr ⟨_,H,g,rfl,hK,.refl hs⟩
end Go.AE.Y
namespace Go.AE
variable {P:Program}{H:Heap}{e:Env}
theorem Qbug {Q:X→Env→Heap→Prop}{v:Value}:X.panK Q v H=Q (.pan v) [] H:=rfl
theorem Qbwx {b:SC}{Q:X→Env→Heap→Prop}{v:Value}:X.sq P b Q (.pan v) e H=Q (.pan v) e H:=rfl
theorem Qbv1 {i:Nat}{Q:X→Env→Heap→Prop}{v:Value}:X.inBlock i Q (.pan v) e H=Q (.pan v) e H:=rfl
theorem Qbpl {K:Env→Heap→Prop}{Q:X→Env→Heap→Prop}{v:Value}:X.next K Q (.pan v) e H=Q (.pan v) e H:=rfl
theorem Qbnj {rs:List RS}{K:V→Heap→Prop}{v:Value}:Q5 rs K (.pan v) e H=K (.pn v) H:=rfl
attribute [go_sem] Qbug Qbwx Qbv1 Qbpl Qbnj
end Go.AE
namespace Go.AE.Y
attribute [local go_sem] cond_true cond_false Bool.not_true Bool.not_false
open Go.Proofs.Tryz
variable {H H' H0:Heap}{K:V→Heap→Prop}{E A A' B:List (Nat×Obj)}
def Qj4 (l:List Int):List C:=l.map fun v=>.int .i64 v
structure Rs where
 u:Nat
 s:List Int
 c:List Int
 t:List Int
 sc:C
 so:List (Nat×Obj)
 tc:C
 tl:List (Nat×Obj)
def Rs.mt (r:Rs):List C:=Qj4 r.c++[r.tc]
structure Rn where
 l:Nat
 fl:Bool
 cs:List CodeD
 S:Nat
def Rn.o (X:Rn)(r:Rs):Obj:=.st (.sl X.fl 3 (Qj X.cs)::.int .i64 X.S::.int .i64 r.u::r.sc::r.mt)
def Rn.F (X:Rn)(r:Rs)(A B:List (Nat×Obj)):List (Nat×Obj):=[(X.l,X.o r)]++(A++((r.so++r.tl)++B))
structure Rs.ok (X:Rn)(r:Rs):Prop where
 gs:Gr r.so 1 (Qb r.s) r.sc
 gt:Gr r.tl 1 (Qb r.t) r.tc
 c:r.c.length=16
 bc:byL r.c
 bs:byL r.s
 ls:r.s.length≤r.u
 lt:r.t.length≤r.u+1
 uS:r.u≤X.S
 S:X.S≤60000
variable {X:Rn}{r r':Rs}
theorem Rs.ok.mt (h:r.ok X):r.mt.length=17:=by simp[Rs.mt,Qj4,h.c]
theorem Rs.ok.tick (h:r.ok X)(hu:r.u<X.S):Rs.ok X { r with u:=r.u+1 }:=⟨h.gs,h.gt,h.c,h.bc,h.bs,Nat.le_succ_of_le h.ls,Nat.le_succ_of_le h.lt,hu,h.S⟩
theorem F_in (k:Kn H0 H E (X.F r A B)):Kn H0 H E (X.F r [] (A++B)):=k.perm (Qp fun f hf h0 hc hp=>by simp only[Rn.F,hf,h0];omega)
theorem Qbhk (k:Kn H0 H E (X.F r [] (A++B))):Kn H0 H E (X.F r A B):=k.perm (Qp fun f hf h0 hc hp=>by simp only[Rn.F,hf,h0];omega)
theorem F_al {p:Nat×Obj}(k:Kn H0 H E (X.F r A B++[p])):Kn H0 H E (X.F r (A++[p]) B):=k.perm (Qp fun f hf h0 hc hp=>by simp only[Rn.F,hf,h0];omega)
theorem Qzh (k:Kn H0 H E (X.F r (A++A') B)):Kn H0 H E (X.F r A B):=Kn.drop (B:=A') (k.perm (Qp fun f hf h0 hc hp=>by simp only[Rn.F,hf,h0];omega))
theorem Qa4c (k:Kn H0 H E (X.F r A (A'++B))):Kn H0 H E (X.F r A B):=Kn.drop (B:=A') (k.perm (Qp fun f hf h0 hc hp=>by simp only[Rn.F,hf,h0];omega))
theorem Qbve (k:Kn H0 H E (X.F r (A++A') B)):Kn H0 H E (X.F r A (A'++B)):=k.perm (Qp fun f hf h0 hc hp=>by simp only[Rn.F,hf,h0];omega)
theorem Qbvd (k:Kn H0 H E (X.F r A (A'++B))):Kn H0 H E (X.F r (A++A') B):=k.perm (Qp fun f hf h0 hc hp=>by simp only[Rn.F,hf,h0];omega)
theorem F_s (k:Kn H0 H E (X.F r A B)):Kn H0 H E (([(X.l,X.o r)]++(A++(r.tl++B)))++r.so):=k.perm (Qp fun f hf h0 hc hp=>by simp only[Rn.F,hf,h0];omega)
theorem F_s' {so:List (Nat×Obj)}(hs:r'.so=so)(ht:r'.tl=r.tl)(k:Kn H0 H E (([(X.l,X.o r')]++(A++(r.tl++B)))++so)):Kn H0 H E (X.F r' A B):=k.perm (Qp fun f hf h0 hc hp=>by simp only[Rn.F,hf,h0,hs,ht];omega)
theorem F_t (k:Kn H0 H E (X.F r A B)):Kn H0 H E (([(X.l,X.o r)]++(A++(r.so++B)))++r.tl):=k.perm (Qp fun f hf h0 hc hp=>by simp only[Rn.F,hf,h0];omega)
theorem F_t' {tl:List (Nat×Obj)}(ht:r'.tl=tl)(hs:r'.so=r.so)(k:Kn H0 H E (([(X.l,X.o r')]++(A++(r.so++B)))++tl)):Kn H0 H E (X.F r' A B):=k.perm (Qp fun f hf h0 hc hp=>by simp only[Rn.F,hf,h0,hs,ht];omega)
theorem F_o (k:Kn H0 H E (X.F r A B)):H X.l=.st (.sl X.fl 3 (Qj X.cs)::.int .i64 X.S::.int .i64 r.u::r.sc::r.mt):=k.l 0 rfl
theorem Qbvo {a b c d:C}{m:List C}{j:Nat}:(a::b::c::d::m).drop (4+j)=m.drop j:=by rw[Nat.add_comm];rfl
theorem take4 {a b c d:C}{m:List C}{j:Nat}:(a::b::c::d::m).take (4+j)=a::b::c::d::m.take j:=by rw[Nat.add_comm];rfl
theorem Rs.ok.get (h:r.ok X){j:Nat}(hj:j<16):(r.mt.drop j).take 1=[.int .i64 (r.c.getD j 0)]:=by
 have hj':j<(Qj4 r.c).length:=by rw[Qj4,Jk,h.c];exact hj
 have hj2:j<r.c.length:=by rw[h.c];exact hj
 rw[Rs.mt,List.drop_append_of_le_length (by omega),Jad hj',J1,List.take_succ_cons,List.take_zero];simp[Qj4,Ja,hj2]
theorem Rs.ok.dl (h:r.ok X)(j:Nat):(r.mt.drop j).length=17-j:=by rw[List.length_drop,h.mt]
theorem Rs.ok.put (h:r.ok X){j:Nat}(hj:j<16)(v:Int):r.mt.take j++[.int .i64 v]++r.mt.drop (j+1)=Rs.mt { r with c:=r.c.set j v }:=by
 have hj':j<(Qj4 r.c).length:=by rw[Qj4,Jk,h.c];exact hj
 rw[Rs.mt,Rs.mt,List.take_append_of_le_length (by omega),List.drop_append_of_le_length (by omega)];have:Qj4 (r.c.set j v)=(Qj4 r.c).take j++.int .i64 v::(Qj4 r.c).drop (j+1):=by
  rw[Qj4,Ja1,List.set_eq_take_append_cons_drop,if_pos (by simpa[Qj4]using hj')];rfl
 show _=Qj4 (r.c.set j v)++[r.tc];rw[this];simp
theorem Rs.ok.cells (h:r.ok X){j:Nat}{v:Int}(hv:byI v):Rs.ok X { r with c:=r.c.set j v }:=⟨h.gs,h.gt,by simp[h.c],h.bc.set hv j,h.bs,h.ls,h.lt,h.uS,h.S⟩
theorem Qbsd (kn:Kn H0 H E (X.F r A B))(hr:r.ok X)
  (hK:∀H',r.u<X.S→Kn H0 H' E (X.F { r with u:=r.u+1 } A B)→Rs.ok X { r with u:=r.u+1 }→K (.tup []) H')
  (hP:r.u=X.S→K (.pn (endV 3)) H):Qr prog Qc0 [.c (.ptr X.l 0)] H K:=by
 refine Qc Qal Q5s ?_;have hmt:=hr.mt;have hX:=F_o kn;have hS:=hr.S;have huS:=hr.uS;refine Qaa ?_;refine Qaj ?_;simp only[go_sem,hX,hmt];refine Qh (Qd rfl ?_ ?_)
 ·intro hc;have hu:r.u=X.S:=by
   have:=of_decide_eq_true hc;omega
  refine Qt ?_;simp only[go_sem];refine Qbmo ?_;simp only[go_sem];exact hP hu
 ·intro hc;have hu:r.u<X.S:=by
   have:=of_decide_eq_false hc;omega
  refine Qg ?_;try simp only[go_sem]
  refine Qt ?_;simp only[go_sem,hX,hmt];refine⟨Qs (by omega) (by omega),fun H' h'=>?_⟩;have kn':Kn H0 H' E (X.F { r with u:=r.u+1 } A B):=kn.stL 0 rfl h';simp only[go_sem,Q5,Qae,Qmk];exact hK H' hu kn' (hr.tick hu)
theorem Qbr3 {l:Nat}{n:Int}(hn:0≤n)(hK:n<16→K (.c (.ptr l (4+n.toNat))) H)(hP:16≤n→K (.pn (endV 2)) H) :
  Qr prog Qcy [.c (.ptr l 0),.c (.int .i64 n)] H K:=by
 refine Qc Qal Q5q ?_;refine Qa ?_;simp only[go_sem];refine Qaa ?_;refine Qa ?_;simp only[go_sem];refine Qh (Qd rfl ?_ ?_)
 ·intro hc;have h16:16≤n:=of_decide_eq_true hc;refine Qt ?_;simp only[go_sem];refine Qbmo ?_;simp only[go_sem];exact hP h16
 ·intro hc;have h16:n<16:=by have:=of_decide_eq_false hc;omega
  refine Qg ?_;try simp only[go_sem]
  refine Qa ?_;simp only[go_sem];refine⟨⟨hn,by omega⟩,?_⟩;refine Qk ?_;simp only[go_sem,Q5,Qae,Qmi,Jb,forall_eq,RS.op];have:=hK h16;simpa using this
theorem Qba7 {b:Bool}(hK:K (.c (.int .i64 (trI (b=true)))) H):Qr prog Qgr [.c (.bool b)] H K:=by
 refine Qc Qal Qas1 ?_;refine Qa ?_;simp only[go_sem];refine Qaa ?_;refine Qa ?_;simp only[go_sem];refine Qh (Qd rfl ?_ ?_)
 ·intro hc;subst hc;refine Qa ?_;simp only[go_sem];refine Qk ?_;simp only[go_sem,Q5,Qae,Qoa,Jb,forall_eq,RS.op];exact hK
 ·intro hc;subst hc;refine Qg ?_;try simp only[go_sem]
  refine Qa ?_;simp only[go_sem];refine Qk ?_;simp only[go_sem,Q5,Qae,Qoa,Jb,forall_eq,RS.op];exact hK
theorem Qba6 {p:Prop} [Decidable p]:trI (decide p=true)=trI p:=by simp[trI]
def arP (op a b:Int):Int×Bool:=match arR op a b with
 |some v=>(v,true)
 |none=>(0,false)
theorem Qbdb {a b:Int}(h:0≤a):a.tmod b=a % b:=Int.tmod_eq_emod_of_nonneg h
theorem Qbsc {a b:Int}(h:0≤a):a.tdiv b=a / b:=Int.tdiv_eq_ediv_of_nonneg h
set_option maxHeartbeats 2000000 in
theorem Qbsl {op a b:Int}(ha:byI a)(hb:byI b)(h3:3≤op)(h9:op≤9)(hK:K (.tup [.c (.int .i64 (arP op a b).1),.c (.bool (arP op a b).2)]) H) :
  Qr prog Qir [.c (.int .i64 op),.c (.int .i64 a),.c (.int .i64 b)] H K:=by
 obtain⟨a0,a1⟩:=ha;obtain⟨b0,b1⟩:=hb;refine Qc Qal Qard ?_;have retf:∀(v:Int) (t:Bool) (e:Env),arP op a b=(v,t)→lk 6 e=.c (.int .i64 v)→lk 7 e=.c (.bool t)→Q5 Qmg K .ret e H:=by
  intro v t e h1 h2 h3;simp only[go_sem,Q5,Qae,Qmg,RS.op,h2,h3];rw[h1]at hK;exact hK
 refine Qa ?_;simp only[go_sem];refine Qa ?_;simp only[go_sem];refine Qaa ?_;refine Qa ?_;simp only[go_sem];refine Qh (Qe ?_);refine Qa ?_;simp only[go_sem];refine Qd rfl ?_ ?_
 ·intro hc;have ho:op=3:=of_decide_eq_true hc;subst ho;refine Qa ?_;simp only[go_sem];refine⟨Qs (by omega) (by omega),by omega,?_⟩;refine Qk ?_;simp only[go_sem];refine retf _ _ _ ?_ rfl rfl;rw[Qbdb (by omega)];rfl
 intro hc;have n3:=of_decide_eq_false hc;refine Qa ?_;simp only[go_sem];refine Qd rfl ?_ ?_
 ·intro hc;have ho:op=4:=of_decide_eq_true hc;subst ho;refine Qa ?_;simp only[go_sem];refine⟨Qs (by omega) (by omega),Qs (by omega) (by omega),by omega,?_⟩;refine Qk ?_;simp only[go_sem];refine retf _ _ _ ?_ rfl rfl;rw[Qbdb (by omega)];rfl
 intro hc;have n4:=of_decide_eq_false hc;refine Qa ?_;simp only[go_sem];refine Qd rfl ?_ ?_
 ·intro hc;have ho:op=5:=of_decide_eq_true hc;subst ho;have hab:0≤a * b:=Int.mul_nonneg a0 b0;have hab2:a * b≤255 * 255:=Int.mul_le_mul a1 b1 b0 (by omega);refine Qa ?_;simp only[go_sem];refine⟨Qs (by omega) (by omega),by omega,?_⟩;refine Qk ?_;simp only[go_sem];refine retf _ _ _ ?_ rfl rfl;rw[Qbdb hab];rfl
 intro hc;have n5:=of_decide_eq_false hc;refine Qaa ?_;refine Qa ?_;simp only[go_sem];have h67:∀(t:Bool),(t=decide (op=6∨op=7))→Qam prog Q3e (X.inBlock 0 (X.sq prog Q3f (Q5 Qmg K))) [(0,.c (.int .i64 op)),(1,.c (.int .i64 a)),(2,.c (.int .i64 b)),(8,.c (.fn Qgr [])),(9,.c (.int .i64 op)),(29,.c (.bool t))] H:=by
  intro t ht;refine Qd rfl ?_ ?_
  ·intro h;have h67:op=6∨op=7:=by rw[ht]at h;exact of_decide_eq_true h
   refine Qaa ?_;refine Qa ?_;simp only[go_sem];refine Qh (Qd rfl ?_ ?_)
   ·intro hc;have hb:b=0:=of_decide_eq_true hc;subst hb;refine Qa ?_;simp only[go_sem];refine Qk ?_;simp only[go_sem];refine retf _ _ _ ?_ rfl rfl;rcases h67 with rfl|rfl <;> rfl
   intro hc;have hb:¬b=0:=of_decide_eq_false hc;refine Qg ?_;try simp only[go_sem]
   refine Qaa ?_;refine Qa ?_;simp only[go_sem];refine Qh (Qd rfl ?_ ?_)
   ·intro hc;have ho:op=6:=of_decide_eq_true hc;subst ho;have hd1:0≤a / b:=Int.ediv_nonneg a0 b0;have hd2:a / b≤a:=Int.ediv_le_self _ a0;refine Qa ?_;simp only[go_sem];refine⟨⟨hb,by rw[Qbsc a0];exact Qs (by omega) (by omega)⟩,?_⟩;refine Qk ?_;simp only[go_sem];refine retf _ _ _ ?_ rfl rfl;rw[Qbsc a0,arP,arR];simp[hb]
   ·intro hc;have ho:op=7:=(by have:=of_decide_eq_false hc;omega);subst ho;refine Qg ?_;try simp only[go_sem]
    refine Qa ?_;simp only[go_sem];refine⟨hb,?_⟩;refine Qk ?_;simp only[go_sem];refine retf _ _ _ ?_ rfl rfl;rw[Qbdb a0,arP,arR];simp[hb]
  ·intro h;have h67:¬(op=6∨op=7):=by rw[ht]at h;exact of_decide_eq_false h
   refine Qa ?_;simp only[go_sem];refine Qd rfl ?_ ?_
   ·intro hc;have ho:op=8:=of_decide_eq_true hc;subst ho;refine Qa ?_;simp only[go_sem];refine Qba7 ?_;rw[Qba6];simp only[go_sem,Q3g];refine Qk ?_;simp only[go_sem];exact retf _ _ _ rfl rfl rfl
   intro hc;have n8:=of_decide_eq_false hc;have ho:op=9:=by omega
   subst ho;refine Qa ?_;simp only[go_sem];refine Qd rfl ?_ (fun h=>by simp at h);intro _;refine Qa ?_;simp only[go_sem];refine Qba7 ?_;rw[Qba6];simp only[go_sem,Q3h];refine Qk ?_;simp only[go_sem];exact retf _ _ _ rfl rfl rfl
 refine Qh (Qd rfl ?_ ?_)
 ·intro hc;have ho:op=6:=of_decide_eq_true hc;refine Qg ?_;simp only[go_sem];exact h67 _ (by rw[hc];simp[ho])
 ·intro hc;have n6:=of_decide_eq_false hc;refine Qt ?_;simp only[go_sem];exact h67 _ (by simp[n6])
theorem Qbdp {a:Int}(hK:K (.tup [.c (.int .i64 (trI (a=0))),.c (.bool true)]) H) :
  Qr prog Qir [.c (.int .i64 11),.c (.int .i64 a),.c (.int .i64 0)] H K:=by
 refine Qc Qal Qard ?_;refine Qa ?_;simp only[go_sem];refine Qa ?_;simp only[go_sem];refine Qaa ?_;refine Qa ?_;simp only[go_sem];refine Qh (Qe ?_);refine Qa ?_;simp only[go_sem];refine Qd rfl (fun h=>by simp at h) fun _=>?_;refine Qa ?_;simp only[go_sem];refine Qd rfl (fun h=>by simp at h) fun _=>?_;refine Qa ?_;simp only[go_sem];refine Qd rfl (fun h=>by simp at h) fun _=>?_;refine Qaa ?_;refine Qa ?_;simp only[go_sem];refine Qh (Qd rfl (fun h=>by simp at h) fun _=>?_);refine Qt ?_;simp only[go_sem];refine Qd rfl (fun h=>by simp at h) fun _=>?_;refine Qa ?_;simp only[go_sem];refine Qd rfl (fun h=>by simp at h) fun _=>?_;refine Qa ?_;simp only[go_sem];refine Qd rfl (fun h=>by simp at h) fun _=>?_;refine Qa ?_;simp only[go_sem];refine Qd rfl (fun h=>by simp at h) fun _=>?_;refine Qg ?_;simp only[go_sem];refine Qa ?_;simp only[go_sem];refine Qba7 ?_;rw[Qba6];simp only[go_sem,Qzt];refine Qk ?_;simp only[go_sem,Q5,Qae,Qmg,RS.op];exact hK
end Go.AE.Y
namespace Go.AE.Y
attribute [local go_sem] cond_true cond_false Bool.not_true Bool.not_false
open Go.Proofs.Tryz
variable {H H' H0:Heap}{K:V→Heap→Prop}{E A A' B Li:List (Nat×Obj)}{X:Rn}{r r':Rs}
section
variable {cs:List CodeD}{k b:Nat}{x:InsD}{t:List InsD}{R s c:List Int}{fs:List Fr}
theorem Qbw0 (h:x.op=1):stI cs k b x t R fs s c=.go (⟨k,b,t,R.set x.to.toNat x.n⟩::fs) s c:=by rw[stI];simp[h]
theorem Qbyg (h:x.op=11):stI cs k b x t R fs s c=if 16≤ar R x 0 then .dn 2 0 s c else .go (⟨k,b,t,R.set x.to.toNat (rg c (ar R x 0))⟩::fs) s c:=by rw[stI];simp[h]
theorem Qbw1 (h:x.op=12):stI cs k b x t R fs s c=if 16≤ar R x 0 then .dn 2 0 s c else .go (⟨k,b,t,R⟩::fs) s (c.set (ar R x 0).toNat (ar R x 1)):=by rw[stI];simp[h]
theorem Qbw2 (h:x.op=13):stI cs k b x t R fs s c=.go (⟨k,b,t,R⟩::fs) (s++[ar R x 0]) c:=by rw[stI];simp[h]
theorem Qbuw (h:x.op=14):stI cs k b x t R fs s c=.go (fr0 cs x.n.toNat (x.args.map (rg R))::⟨k,b,x::t,R⟩::fs) s c:=by rw[stI];simp[h]
theorem Qbux (h:x.op=2):stI cs k b x t R fs s c=.go (⟨k,b,t,R.set x.to.toNat (ar R x 0)⟩::fs) s c:=by rw[stI];simp[h]
theorem Qbwz (h:x.op=10):stI cs k b x t R fs s c=.go (⟨k,b,t,R.set x.to.toNat (trI (ar R x 0=0))⟩::fs) s c:=by rw[stI];simp[h,arR]
theorem Qbyf (h3:3≤x.op)(h9:x.op≤9):stI cs k b x t R fs s c=if (arP x.op (ar R x 0) (ar R x 1)).2=true then .go (⟨k,b,t,R.set x.to.toNat (arP x.op (ar R x 0) (ar R x 1)).1⟩::fs) s c else .dn 1 0 s c:=by
 rw[stI,arP];simp only[show ¬x.op=1 by omega,show ¬x.op=11 by omega,show ¬x.op=12 by omega,show ¬x.op=13 by omega,show ¬x.op=14 by omega,show ¬x.op=2 by omega,if_false];cases arR x.op (ar R x 0) (ar R x 1) <;> simp
end
theorem Qbvj {op a b:Int}(ha:byI a)(hb:byI b):byI (arP op a b).1:=by
 rw[arP]
 cases h:arR op a b with
 |none=>exact⟨by simp,by simp⟩
 |some v=>exact Qbvk ha hb h
structure InsW (cs:List CodeD)(k:Nat)(x:InsD):Prop where
 op:1≤x.op∧x.op≤14
 n1:x.op=1→byI x.n
 args:∀v∈x.args,0≤v∧v.toNat<(Qm cs k).regs.toNat
 to:Qb9 x.op=true→0≤x.to∧x.to.toNat<(Qm cs k).regs.toNat
 len:¬x.op=14→(x.args.length:Int)=Qgx x.op
 cal:x.op=14→0≤x.n∧x.n.toNat<k∧(x.args.length:Int)=(Qm cs x.n.toNat).params
 al:x.args.length≤3
def Rdb (Li:List (Nat×Obj))(rows:List (List C))(c:C):Prop:=(Li=[]∧∃fl,c=.sl fl 1 rows)∨Gr Li 1 rows c
theorem Rdb.slc {rows:List (List C)}{c:C}(h:Rdb Li rows c)(kn:Kn H0 H E (B++Li)):Slc H 1 rows c:=by
 rcases h with ⟨_,fl,rfl⟩|h
 ·exact .mk' _ _ _ _
 ·exact h.slc kn
theorem Rdb.isOw {rows:List (List C)}{c:C}(h:Rdb Li rows c):c.isOw=false:=by
 rcases h with ⟨_,fl,rfl⟩|h
 ·rfl
 ·exact h.isOw
def Qbm1 (X:Rn)(m:Nat):Prop:=∀(H0 H:Heap) (E B Li:List (Nat×Obj)) (r:Rs) (k:Nat) (l:List Int) (inc:C) (main:Bool) (fs:List Fr) (K:V→Heap→Prop),
 m≤r.u→Kn H0 H E (X.F r Li B)→r.ok X→k<X.cs.length→Rdb Li (Qb l) inc→(l.length:Int)=(Qm X.cs k).params→byL l→r.t.length≤r.u→
 (∀v r' H',Kn H0 H' E (X.F r' Li B)→r'.ok X→byI v→r'.t.length≤r'.u→(main=false→r'.t=r.t)→Goes X.cs X.S r.u (.go (fr0 X.cs k l::fs) r.s r.c) r'.u (rtn v fs r'.s r'.c)→K (.c (.int .i64 v)) H')→
 (∀e r' H',Kn H0 H' E (X.F r' Li B)→r'.ok X→(main=false→r'.t=r.t)→Halts X.cs X.S r.u (.go (fr0 X.cs k l::fs) r.s r.c) e r'.s r'.c→K (.pn (endV e)) H')→
 Qr prog Qcz [.c (.ptr X.l 0),.c (.int .i64 k),.c inc,.c (.bool main)] H K
theorem Qcq (R:List Int):(Qb R).take R.length=Qb R:=Jh (by rw[Qf];exact Jp _)
theorem Qar7 {op to n:Int}{args R:List Int}{rl:Nat}(i:Nat)(hR:H rl=.vec 1 (Qb R))(hi:i<args.length)(hv:0≤args.getD i 0∧(args.getD i 0).toNat<R.length)(hK:K (.c (.int .i64 (rg R (args.getD i 0)))) H) :
  Qr prog Qbx [.c (.int .i64 (i:Int)),.c (.pp [.vsl rl 1 0 R.length]),.c (.pp [.int .i64 op,.int .i64 to,.sl false 1 (Qb args),.int .i64 n])] H K:=by
 refine Qc Qal Qta ?_;refine Qa ?_;simp only[go_sem];refine Qaj ?_;obtain⟨v,hvv⟩:∃v:Nat,args.getD i 0=v:=⟨(args.getD i 0).toNat,by omega⟩;rw[hvv]at hv hK;have hv2:v<R.length:=by simpa using hv.2
 simp only[go_sem,hR,hi,hvv,hv2,Qf,Qu _ _ hi,Qu _ _ hv2,Qcq,Jg];refine Qk ?_;simp only[go_sem,Q5,Qae,Qg3,Jb,forall_eq,RS.op];exact hK
theorem F_g (k:Kn H0 H E (X.F r A (Li++B))):Kn H0 H E (([(X.l,X.o r)]++(A++((r.so++r.tl)++B)))++Li):=k.perm (Qp fun f hf h0 hc hp=>by simp only[Rn.F,hf,h0];omega)
theorem F_g' (k:Kn H0 H E (([(X.l,X.o r)]++(A++((r.so++r.tl)++B)))++Li)):Kn H0 H E (X.F r A (Li++B)):=k.perm (Qp fun f hf h0 hc hp=>by simp only[Rn.F,hf,h0];omega)
theorem F_sw (k:Kn H0 H E (X.F r A (A'++B))):Kn H0 H E (X.F r A' (A++B)):=k.perm (Qp fun f hf h0 hc hp=>by simp only[Rn.F,hf,h0];omega)
theorem Qbvp {b c d:C}{m:List C}{j:Nat}:(b::c::d::m).drop (4+j)=m.drop (j+1):=by rw[show 4+j=(j+1)+3 by omega];rfl
set_option maxHeartbeats 8000000 in
theorem Qbst {op to n:Int}{args R:List Int}{rl k b:Nat}{t:List InsD}{fs:List Fr}(hx:InsW X.cs k ⟨op,to,args,n⟩)(hcl:k<X.cs.length)(hRl:R.length=(Qm X.cs k).regs.toNat)(hb:byL R)
  (kn:Kn H0 H E (X.F r [(rl,.vec 1 (Qb R))] B)) (hr:r.ok X) (hrec:Qbm1 X (r.u+1))
  (hK:∀R' r' H',Kn H0 H' E (X.F r' [(rl,.vec 1 (Qb R'))] B)→r'.ok X→R'.length=R.length→byL R'→r'.t=r.t→r.u<r'.u→
   Goes X.cs X.S r.u (.go (⟨k,b,⟨op,to,args,n⟩::t,R⟩::fs) r.s r.c) r'.u (.go (⟨k,b,t,R'⟩::fs) r'.s r'.c)→K (.tup []) H')
  (hP:∀e r' H',Kn H0 H' E (X.F r' [] B)→r'.ok X→r'.t=r.t→Halts X.cs X.S r.u (.go (⟨k,b,⟨op,to,args,n⟩::t,R⟩::fs) r.s r.c) e r'.s r'.c→K (.pn (endV e)) H') :
  Qr prog Qd4 [.c (.ptr X.l 0),.ag [.int .i64 op,.int .i64 to,.sl false 1 (Qb args),.int .i64 n],.c (.vsl rl 1 0 R.length)] H K:=by
 obtain⟨⟨o1,o14⟩,hn1,hargs,hto,hlen,hcal,hal⟩:=hx;simp only at o1 o14 hn1 hargs hto hlen hcal hal;rw[←hRl]at hargs hto;have hav:∀i,i<args.length→0≤args.getD i 0∧(args.getD i 0).toNat<R.length:=fun i hi=>by
  rw[Ja,Jc hi];exact hargs _ (Ji hi)
 refine Qc Qal Q2q ?_;have hfin:∀e H',K (.tup []) H'→Q5 Qc1 K .nrm e H':=by
  intro e H' h;simp only[go_sem,Q5,Qae,Qc1];exact h
 refine Qa ?_;simp only[go_sem];refine Qa ?_;simp only[go_sem];refine Qbsd kn hr (fun H1 hu kn hr1=>?_) (fun hu=>?_)
 rotate_left
 ·simp only[go_sem];refine hP 3 r H (Qzh (A:=[]) kn) hr rfl ?_;rw[hu];exact .fuel
 obtain⟨r1,e1⟩:∃r1,({ r with u:=r.u+1 }:Rs)=r1:=⟨_,rfl⟩;have eu:r1.u=r.u+1:=by rw[←e1]
 have es:r1.s=r.s:=by rw[←e1]
 have ec:r1.c=r.c:=by rw[←e1]
 have et:r1.t=r.t:=by rw[←e1]
 rw[e1]at kn hr1;clear e1;have hR1:=kn.l 1 rfl;have hX:=F_o kn;have hmt:=hr1.mt;have one:∀Y,stI X.cs k b ⟨op,to,args,n⟩ t R fs r.s r.c=Y→Goes X.cs X.S r.u (.go (⟨k,b,⟨op,to,args,n⟩::t,R⟩::fs) r.s r.c) r1.u Y:=fun Y h=>by
  rw[eu];exact .one hu h
 have bad:∀e,¬e=3→stI X.cs k b ⟨op,to,args,n⟩ t R fs r.s r.c=.dn e 0 r.s r.c→Halts X.cs X.S r.u (.go (⟨k,b,⟨op,to,args,n⟩::t,R⟩::fs) r.s r.c) e r1.s r1.c:=fun e he h=>by
  rw[es,ec];exact .one hu he h
 have knP:=Qzh (A:=[]) kn;have hRlen:(Qb R).length=R.length:=Qf R;have setR:∀(j:Nat) (v:Int) (H2:Heap),to=(j:Int)→byI v→H2=H1.set rl (.vec 1 (Qb (R.set j v)))→stI X.cs k b ⟨op,to,args,n⟩ t R fs r.s r.c=.go (⟨k,b,t,R.set to.toNat v⟩::fs) r.s r.c→∀e,Q5 Qc1 K .nrm e H2:=by
  intro j v H2 hj hv h2 hst e;refine hfin _ _ (hK (R.set j v) r1 H2 (kn.stL 1 rfl h2) hr1 (by simp) (hb.set hv j) et (by omega) ?_);rw[es,ec];refine one _ ?_;rw[hst,hj];rfl
 refine Qa ?_;simp only[go_sem];refine Qa ?_;simp only[go_sem];refine Qe ?_;refine Qa ?_;simp only[go_sem];refine Qd rfl (fun hc=>?_) (fun hc=>?_)
 ·
  have ho:op=1:=of_decide_eq_true hc;obtain⟨t0,t1⟩:=hto (by rw[ho];rfl);obtain⟨j,hj⟩:∃j:Nat,to=j:=⟨to.toNat,by omega⟩;have hj2:j<R.length:=by omega
  refine Qt ?_;simp only[go_sem,hR1,hj,hj2,hRlen,Qf,Qu _ _ hj2,Qee,Qcq,Jg];intro H2 h2;exact setR j n H2 hj (hn1 ho) h2 (Qbw0 ho) _
 have n1:=of_decide_eq_false hc;refine Qa ?_;simp only[go_sem];refine Qd rfl (fun hc=>?_) (fun hc=>?_)
 ·
  have ho:op=11:=of_decide_eq_true hc;have hl:args.length=1:=by have:=hlen (by omega);rw[ho]at this;simp[Qgx]at this;omega
  obtain⟨t0,t1⟩:=hto (by rw[ho];rfl);obtain⟨j,hj⟩:∃j:Nat,to=j:=⟨to.toNat,by omega⟩;have hj2:j<R.length:=by omega
  refine Qbn ?_;simp only[go_sem,hR1,hj,hj2,hRlen,Qf,Qcq,Jg];refine Qar7 0 hR1 (by omega) (hav 0 (by omega)) ?_;have hvb:=hb.rg (args.getD 0 0);have hst:=Qbyg (cs:=X.cs) (k:=k) (b:=b) (x:=⟨op,to,args,n⟩) (t:=t) (R:=R) (fs:=fs) (s:=r.s) (c:=r.c) ho;have har:ar R ⟨op,to,args,n⟩ 0=rg R (args.getD 0 0):=rfl;rw[har]at hst;obtain⟨v,hv⟩:∃v,rg R (args.getD 0 0)=v:=⟨_,rfl⟩;rw[hv]at hst hvb;rw[hv];simp only[go_sem,Qg9];refine Qbr3 hvb.1 (fun h16=>?_) (fun h16=>?_)
  ·have hg:=hr1.get (j:=v.toNat) (by omega);have hd:=eq_true (show 1≤(r1.mt.drop v.toNat).length by rw[hr1.dl];omega);simp only[go_sem,Qg8,hX,Qbvo,hg,hd,hR1,hj,hj2,hRlen,Qf,Qu _ _ hj2,Qee,Qcq,Jg];intro H2 h2;rw[ec]at h2;exact setR j _ H2 hj (hr.bc.get _) h2 (by rw[hst,if_neg (by omega)];rfl) _
  ·simp only[go_sem];exact hP 2 r1 H1 knP hr1 et (bad 2 (by omega) (by rw[hst,if_pos h16]))
 have n11:=of_decide_eq_false hc;refine Qa ?_;simp only[go_sem];refine Qd rfl (fun hc=>?_) (fun hc=>?_)
 ·
  have ho:op=12:=of_decide_eq_true hc;have hl:args.length=2:=by have:=hlen (by omega);rw[ho]at this;simp[Qgx]at this;omega
  refine Qt ?_;simp only[go_sem];refine Qar7 0 hR1 (by omega) (hav 0 (by omega)) ?_;have hvb:=hb.rg (args.getD 0 0);have hst:=Qbw1 (cs:=X.cs) (k:=k) (b:=b) (x:=⟨op,to,args,n⟩) (t:=t) (R:=R) (fs:=fs) (s:=r.s) (c:=r.c) ho;have har:∀i,ar R ⟨op,to,args,n⟩ i=rg R (args.getD i 0):=fun _=>rfl;simp only[har]at hst;obtain⟨v,hv⟩:∃v,rg R (args.getD 0 0)=v:=⟨_,rfl⟩;rw[hv]at hst hvb;rw[hv];simp only[go_sem,Qhc];refine Qbr3 hvb.1 (fun h16=>?_) (fun h16=>?_)
  ·simp only[go_sem,Qhb];refine Qar7 1 hR1 (by omega) (hav 1 (by omega)) ?_;have hwb:=hb.rg (args.getD 1 0);obtain⟨q,hq⟩:∃q,rg R (args.getD 1 0)=q:=⟨_,rfl⟩;rw[hq]at hst hwb;rw[hq];have hp:=hr1.put (j:=v.toNat) (by omega) q;simp only[go_sem,Qha,hX,hmt,take4,Qbvo,Qbvp,hp];refine⟨by omega,fun H2 h2=>?_⟩;refine hfin _ _ (hK R { r1 with c:=r1.c.set v.toNat q } H2 (kn.stL 0 rfl h2) (hr1.cells hwb) rfl hb et (by show r.u<r1.u;omega) ?_);show Goes X.cs X.S r.u _ r1.u (.go (⟨k,b,t,R⟩::fs) r1.s (r1.c.set v.toNat q));rw[es,ec];exact one _ (by rw[hst,if_neg (by omega)])
  ·simp only[go_sem];exact hP 2 r1 H1 knP hr1 et (bad 2 (by omega) (by rw[hst,if_pos h16]))
 have n12:=of_decide_eq_false hc;refine Qa ?_;simp only[go_sem];refine Qd rfl (fun hc=>?_) (fun hc=>?_)
 ·
  have ho:op=13:=of_decide_eq_true hc;have hl:args.length=1:=by have:=hlen (by omega);rw[ho]at this;simp[Qgx]at this;omega
  have how:=hr1.gs.isOw;refine Qbn ?_;simp only[go_sem,hX,hmt,how];refine Qar7 0 hR1 (by omega) (hav 0 (by omega)) ?_;have hvb:=hb.rg (args.getD 0 0);have hst:=Qbw2 (cs:=X.cs) (k:=k) (b:=b) (x:=⟨op,to,args,n⟩) (t:=t) (R:=R) (fs:=fs) (s:=r.s) (c:=r.c) ho;have har:ar R ⟨op,to,args,n⟩ 0=rg R (args.getD 0 0):=rfl;rw[har]at hst;obtain⟨v,hv⟩:∃v,rg R (args.getD 0 0)=v:=⟨_,rfl⟩;rw[hv]at hst hvb;rw[hv];have hls:=hr1.ls;have huS:=hr1.uS;have hS:=hr1.S;simp only[go_sem,Qhe,hX,hmt,how];refine (F_s kn).growR (new:=Qb [v]) hr1.gs (.mk' _ _ _ _) (Qz _) (by simp only[Qf,LIM,Js,Ju];omega) fun t2 Lg2 H2 hg2 ht2 kn2=>?_;have hX2:H2 X.l=.st (.sl X.fl 3 (Qj X.cs)::.int .i64 X.S::.int .i64 r1.u::r1.sc::r1.mt):=kn2.l 0 rfl;simp only[go_sem,Qhd,hX2,hmt,ht2];intro H3 h3;have hr2:Rs.ok X { r1 with s:=r1.s++[v],sc:=t2,so:=Lg2 }:=by
   refine⟨?_,hr1.gt,hr1.c,hr1.bc,hr1.bs.app hvb,?_,hr1.lt,huS,hS⟩
   ·show Gr Lg2 1 (Qb (r1.s++[v])) t2;rw[Qb1];exact hg2
   ·show (r1.s++[v]).length≤r1.u;have h1:=hr.ls;rw[es,Jab];simp;omega
  refine hfin _ _ (hK R { r1 with s:=r1.s++[v],sc:=t2,so:=Lg2 } H3 (F_s' (r:=r1) rfl rfl (kn2.stL 0 rfl h3)) hr2 rfl hb et (by show r.u<r1.u;omega) ?_);show Goes X.cs X.S r.u _ r1.u (.go (⟨k,b,t,R⟩::fs) (r1.s++[v]) r1.c);rw[es,ec];exact one _ hst
 have n13:=of_decide_eq_false hc;refine Qa ?_;simp only[go_sem];refine Qd rfl (fun hc=>?_) (fun hc=>?_)
 ·
  have ho:op=14:=of_decide_eq_true hc;obtain⟨c0,c1,c2⟩:=hcal ho;obtain⟨t0,t1⟩:=hto (by rw[ho];rfl);obtain⟨j,hj⟩:∃j:Nat,to=j:=⟨to.toNat,by omega⟩;have hj2:j<R.length:=by omega
  have hst:=Qbuw (cs:=X.cs) (k:=k) (b:=b) (x:=⟨op,to,args,n⟩) (t:=t) (R:=R) (fs:=fs) (s:=r.s) (c:=r.c) ho;simp only at hst;refine Qa ?_;simp only[go_sem];refine Qaa ?_;refine Qa ?_;simp only[go_sem,Qf];try intro _
  refine Qh (Qe (Qx (fun m e1 H2=>∃(i:Nat) (c7:C) (Li:List (Nat×Obj)),m=args.length-i∧i≤args.length∧Gr Li 1 (Qb ((args.take i).map (rg R))) c7∧Kn H0 H2 E (X.F r1 [(rl,.vec 1 (Qb R))] (Li++B))∧
   lk 0 e1=.c (.ptr X.l 0)∧lk 4 e1=.c (.pp [.int .i64 op,.int .i64 to,.sl false 1 (Qb args),.int .i64 n])∧lk 5 e1=.c (.pp [.vsl rl 1 0 R.length])∧
   lk 6 e1=.c (.fn Qbx [.pp [.vsl rl 1 0 R.length],.pp [.int .i64 op,.int .i64 to,.sl false 1 (Qb args),.int .i64 n]])∧lk 7 e1=.c c7∧lk 80 e1=.c (.int .i64 args.length)∧lk 81 e1=.c (.int .i64 i)) args.length ?_ ?_))
  ·exact⟨0,_,[],by omega,by omega,.nil 1,kn,rfl,rfl,rfl,rfl,rfl,rfl,rfl⟩
  ·clear kn hR1 hX;rintro m e1 H2 ⟨i,c7,Li,hm,hi,hgr,kn,l0,l4,l5,l6,l7,l80,l81⟩;have hR1:=kn.l 1 rfl;have how:=hgr.isOw;refine Qa ?_;simp only[go_sem,l0,l4,l5,l6,l7,l80,l81,how];refine Qh (Qd rfl ?_ ?_)
   ·intro hc;have hlt:i<args.length:=(by simpa using hc);refine Qg ?_;try simp only[go_sem]
    refine Qh (Qe ?_);refine Qa ?_;simp only[go_sem,l0,l4,l5,l6,l7,l80,l81,how];refine Qt ?_;simp only[go_sem,how];refine Qar7 i hR1 hlt (hav i hlt) ?_;have e9:args.getD i 0=args[i]:=(by simp[Ja,hlt]);simp only[go_sem,Qhg,how];refine (F_g kn).growR (new:=Qb [rg R (args.getD i 0)]) hgr (.mk' _ _ _ _) (Qz _) (by simp only[Qf,LIM,Js,Ju,Jk,J3];omega) fun t2 Lg2 H3 hg2 ht2 kn2=>?_;simp only[go_sem,Qhf,ht2];refine Qt ?_;simp only[go_sem,ht2];refine⟨Qs (by omega) (by omega),?_⟩;show ∃m,_;refine⟨args.length-(i+1),by omega,i+1,t2,Lg2,rfl,by omega,?_,F_g' kn2,rfl,rfl,rfl,rfl,rfl,rfl,rfl⟩;have:Qb ((args.take (i+1)).map (rg R))=Qb ((args.take i).map (rg R))++Qb [rg R (args.getD i 0)]:=by
     rw[Jm hlt,Jv,Qb1,e9];rfl
    rw[this];exact hg2
   ·intro hc;have hge:args.length≤i:=(by simpa using hc);rw[Jh hge]at hgr;have hX:=F_o kn;refine Qw ?_;simp only[go_sem,Go.AE.X.next];refine Qbn ?_;simp only[go_sem,l0,l4,l5,l6,l7,how];obtain⟨nn,hnn⟩:∃nn:Nat,n=nn:=⟨n.toNat,by omega⟩;have hnn2:n.toNat=nn:=(by rw[hnn];rfl);rw[hnn2]at c1 c2 hst;rw[hnn];have hlt1:=hr.lt;refine hrec H0 H2 E ([(rl,.vec 1 (Qb R))]++B) Li r1 nn (args.map (rg R)) c7 false (⟨k,b,⟨op,to,args,n⟩::t,R⟩::fs) _ (by omega) (F_sw kn) hr1 (by omega) (.inr hgr) (by rw[Jk];exact c2) (fun v hv=>by
     obtain⟨a,_,rfl⟩:=Jr.1 hv;exact hb.rg a) (by rw[et,eu];exact hlt1) (fun v r2 H3 kn3 hr2 hv _ ht2 hgo=>?_) (fun e r2 H3 kn3 hr2 ht2 hha=>?_)
    ·have kn3:=F_sw kn3;have hR3:=kn3.l 1 rfl;simp only[go_sem,Qfm,l0,l4,l5,l6,l7,how,hR3,hj,hj2,hRlen,Qf,Qu _ _ hj2,Qee,Qcq,Jg];intro H4 h4;have kn4:Kn H0 H4 E (X.F r2 [(rl,.vec 1 (Qb (R.set j v)))] (Li++B)):=kn3.stL 1 rfl h4;have hg1:=hgo.1;refine hfin _ _ (hK (R.set j v) r2 H4 (Qa4c kn4) hr2 (by simp) (hb.set hv j) (by rw[ht2 rfl,et]) (by omega) ?_);refine (one _ hst).trans ?_;rw[←es,←ec];have ej:j=to.toNat:=(by omega);rw[ej];exact hgo
    ·simp only[go_sem];refine hP e r2 H3 (Qa4c (Qzh (A:=[]) (F_sw kn3))) hr2 (by rw[ht2 rfl,et]) ?_;refine (one _ hst).halts ?_;rw[←es,←ec];exact hha
 have n14:=of_decide_eq_false hc;refine Qa ?_;simp only[go_sem];refine Qd rfl (fun hc=>?_) (fun hc=>?_)
 ·
  have ho:op=2:=of_decide_eq_true hc;have hl:args.length=1:=by have:=hlen (by omega);rw[ho]at this;simp[Qgx]at this;omega
  obtain⟨t0,t1⟩:=hto (by rw[ho];rfl);obtain⟨j,hj⟩:∃j:Nat,to=j:=⟨to.toNat,by omega⟩;have hj2:j<R.length:=by omega
  refine Qbn ?_;simp only[go_sem,hR1,hj,hj2,hRlen,Qf,Qcq,Jg];refine Qar7 0 hR1 (by omega) (hav 0 (by omega)) ?_;simp only[go_sem,Qfn,hR1,hj,hj2,hRlen,Qf,Qu _ _ hj2,Qee,Qcq,Jg];intro H2 h2;exact setR j _ H2 hj (hb.rg _) h2 (Qbux ho) _
 have n2:=of_decide_eq_false hc;refine Qa ?_;simp only[go_sem];refine Qd rfl (fun hc=>?_) (fun hc=>?_)
 ·
  have ho:op=10:=of_decide_eq_true hc;have hl:args.length=1:=by have:=hlen (by omega);rw[ho]at this;simp[Qgx]at this;omega
  obtain⟨t0,t1⟩:=hto (by rw[ho];rfl);obtain⟨j,hj⟩:∃j:Nat,to=j:=⟨to.toNat,by omega⟩;have hj2:j<R.length:=by omega
  refine Qbn ?_;simp only[go_sem,hR1,hj,hj2,hRlen,Qf,Qcq,Jg];refine Qar7 0 hR1 (by omega) (hav 0 (by omega)) ?_;simp only[go_sem,Qfp,hR1,hj,hj2,hRlen,Qf,Qcq,Jg];refine Qbdp ?_;simp only[go_sem,Qfo,hR1,hj,hj2,hRlen,Qf,Qu _ _ hj2,Qee,Qcq,Jg,Jo,Jn];intro H2 h2;exact setR j _ H2 hj (Qbhw _) h2 (Qbwz ho) _
 have n10:=of_decide_eq_false hc;have h3:3≤op:=by omega
 have h9:op≤9:=by omega
 have hl:args.length=2:=by
  have:=hlen (by omega);rw[Qgx,if_neg (by omega),if_neg (by omega),if_pos (.inl ⟨h3,h9⟩)]at this;omega
 obtain⟨t0,t1⟩:=hto (by
  simp only[Qb9,Jf,decide_eq_true_eq,Jat,decide_eq_false_iff_not];omega)
 obtain⟨j,hj⟩:∃j:Nat,to=j:=⟨to.toNat,by omega⟩;have hj2:j<R.length:=by omega
 have hst:=Qbyf (cs:=X.cs) (k:=k) (b:=b) (x:=⟨op,to,args,n⟩) (t:=t) (R:=R) (fs:=fs) (s:=r.s) (c:=r.c) h3 h9;have har:∀i,ar R ⟨op,to,args,n⟩ i=rg R (args.getD i 0):=fun _=>rfl;simp only[har]at hst;have hpb:=Qbvj (op:=op) (hb.rg (args.getD 0 0)) (hb.rg (args.getD 1 0));refine Qaj ?_;simp only[go_sem];refine Qar7 0 hR1 (by omega) (hav 0 (by omega)) ?_;simp only[go_sem,Qfs];refine Qar7 1 hR1 (by omega) (hav 1 (by omega)) ?_;simp only[go_sem,Qfr];refine Qbsl (hb.rg _) (hb.rg _) h3 h9 ?_;obtain⟨pv,hpv⟩:∃pv,arP op (rg R (args.getD 0 0)) (rg R (args.getD 1 0))=pv:=⟨_,rfl⟩;rw[hpv]at hst hpb;rw[hpv];obtain⟨v,ok⟩:=pv;simp only at hst hpb;simp only[go_sem,Qfq,Jo,Jn];refine Qaa ?_;refine Qa ?_;simp only[go_sem];refine Qh (Qd rfl (fun hc=>?_) (fun hc=>?_))
 ·have hok:ok=false:=Qtc hc;refine Qt ?_;simp only[go_sem];refine Qbmo ?_;simp only[go_sem];exact hP 1 r1 H1 knP hr1 et (bad 1 (by omega) (by rw[hst,if_neg (by rw[hok];simp)]))
 ·have hok:ok=true:=Qh8 hc;refine Qg ?_;try simp only[go_sem]
  refine Qt ?_;simp only[go_sem,hR1,hj,hj2,hRlen,Qf,Qu _ _ hj2,Qee,Qcq,Jg];intro H2 h2;exact setR j _ H2 hj hpb h2 (by rw[hst,if_pos hok]) _
theorem Qbpy {p:PhiD}{R:List Int}{rl xr xa w:Nat}(h1:H xr=.st [.vsl rl 1 0 R.length])(hR:H rl=.vec 1 (Qb R))(h2:H xa=.st [.int .i64 w])(hw:w<p.args.length)
  (hv:0≤p.args.getD w 0∧(p.args.getD w 0).toNat<R.length) (hK:K (.c (.int .i64 (phiV R w p))) H) :
  Qr prog Qbi [.ag [.int .i64 p.to,.sl false 1 (Qb p.args)],.c (.ptr xr 0),.c (.ptr xa 0)] H K:=by
 refine Qc Qal Qyb ?_;refine Qa ?_;simp only[go_sem];refine Qaj ?_;rw[phiV]at hK;obtain⟨v,hvv⟩:∃v:Nat,p.args.getD w 0=v:=⟨(p.args.getD w 0).toNat,by omega⟩;rw[hvv]at hv hK;have hv2:v<R.length:=by simpa using hv.2
 simp only[go_sem,h1,h2,hR,hw,hvv,hv2,Qf,Qu _ _ hw,Qu _ _ hv2,Qcq,Jg];refine Qk ?_;simp only[go_sem,Q5,Qae,Qhm,Jb,forall_eq,RS.op];exact hK
set_option maxHeartbeats 4000000 in
theorem Qbul {ps:List PhiD}{R:List Int}{rl xr xa w:Nat}{f:Bool}(h1:H xr=.st [.vsl rl 1 0 R.length])(hR:H rl=.vec 1 (Qb R))(h2:H xa=.st [.int .i64 w])(hl:ps.length≤1200)(hw:∀p∈ps,w<p.args.length)
  (hv:∀p∈ps,0≤p.args.getD w 0∧(p.args.getD w 0).toNat<R.length) (hK:∀(H':Heap),Upd H H' []→K (.c (.sl false 1 (Qb (ps.map (phiV R w))))) H') :
  Qr prog Qdn [.c (.sl f 2 (Q7 ps)),.c (.fn Qbi [.ptr xr 0,.ptr xa 0])] H K:=by
 refine Q3 ?_;refine Qc Qal Q03 ?_;have kn:=Kn.start0 H;have n1:H xr≠.none:=by rw[h1];simp
 have n2:H rl≠.none:=by rw[hR];simp
 have n3:H xa≠.none:=by rw[h2];simp
 refine Qa ?_;simp only[go_sem];refine Qa ?_;simp only[go_sem];refine Qaa ?_;refine Qa ?_;simp only[go_sem,Qv];try intro _
 refine Qh (Qe (Qx (fun m e1 H1=>∃(i:Nat) (t:C) (Lg:List (Nat×Obj)),m=ps.length-i∧i≤ps.length∧Gr Lg 1 (Qb ((ps.take i).map (phiV R w))) t∧Kn H H1 [] ([]++Lg)∧
  lk 1 e1=.c (.fn Qbi [.ptr xr 0,.ptr xa 0])∧lk 5 e1=.c t∧lk 8 e1=.c (.sl f 2 (Q7 ps))∧lk 9 e1=.c (.int .i64 ps.length)∧lk 10 e1=.c (.int .i64 i)) ps.length ?_ ?_))
 ·exact⟨0,_,[],by omega,by omega,.nil 1,kn,rfl,rfl,rfl,rfl,rfl⟩
 ·clear kn;rintro m e1 H1 ⟨i,t,Lg,hm,hi,hgr,kn,l1,l5,l8,l9,l10⟩;have htw:=hgr.isOw;refine Qa ?_;simp only[go_sem,l1,l5,l8,l9,l10,htw];refine Qh (Qd rfl ?_ ?_)
  ·intro hc;have hlt:i<ps.length:=by simpa using hc
   obtain⟨p,hp⟩:∃p,ps[i]=p:=⟨_,rfl⟩;have hpm:p∈ps:=by rw[←hp];exact Ji hlt
   refine Qg ?_;try simp only[go_sem]
   refine Qh (Qe ?_);refine Qa ?_;simp only[go_sem,l1,l5,l8,l9,l10,htw,hlt,Qv,Qau _ _ hlt,hp,PhiD.cells];intro x7 hx7 H2 h2';have kn:=kn.al hx7 h2';have hx7:H2 x7=.st [.int .i64 0,.sl true 1 []]:=(kn.get (x7,.st [.int .i64 0,.sl true 1 []]) (by simp)).1;simp only[go_sem,Qfj,hx7,htw];intro H3 h3;have kn:Kn H H2 [] ([(x7,.st [.int .i64 0,.sl true 1 []])]++Lg):=kn.perm (by simp);have kn:Kn H H3 [] ([(x7,.st [.int .i64 p.to,.sl false 1 (Qb p.args)])]++Lg):=kn.stL 0 rfl h3;have hx7:H3 x7=.st [.int .i64 p.to,.sl false 1 (Qb p.args)]:=kn.l 0 rfl;refine Qt ?_;simp only[go_sem,hx7,htw];refine Qbpy (p:=p) (R:=R) (rl:=rl) (w:=w) (by rw[kn.chg xr n1 (by simp)];exact h1) (by rw[kn.chg rl n2 (by simp)];exact hR) (by rw[kn.chg xa n3 (by simp)];exact h2) (hw p hpm) (hv p hpm) ?_;simp only[go_sem,Qfl,htw];refine kn.growR (new:=Qb [phiV R w p]) hgr (.mk' _ _ _ _) (Qz _) (by simp only[Qf,Jk,J3,LIM,Js,Ju];omega) fun t2 Lg2 H4 hgr2 ht2 kn=>?_;have kn:Kn H H4 [] Lg2:=Kn.drop (B:=[(x7,_)]) (kn.perm Jw);simp only[go_sem,Qfk,ht2];refine Qt ?_;simp only[go_sem,ht2];refine⟨Qs (by omega) (by omega),?_⟩;show ∃m,_;refine⟨ps.length-(i+1),by omega,i+1,t2,Lg2,rfl,by omega,?_,kn,rfl,rfl,rfl,rfl,rfl⟩;have:Qb ((ps.take (i+1)).map (phiV R w))=Qb ((ps.take i).map (phiV R w))++Qb [phiV R w p]:=by rw[Jm hlt,Jv,Qb1,hp];rfl
   rw[this];exact hgr2
  ·intro hc;have hge:ps.length≤i:=by simpa using hc
   rw[Jh hge]at hgr;refine Qw ?_;simp only[go_sem,Go.AE.X.next];refine Qa ?_;simp only[go_sem,l5,htw];refine Qk ?_;simp only[go_sem,Q5,Qae,Qjb,Jb,forall_eq,RS.op,htw];exact⟨_,.c _ _ (hgr.frz kn (Qz _)),hK _ kn.fin⟩
end Go.AE.Y
namespace Go.AE.Y
attribute [local go_sem] cond_true cond_false Bool.not_true Bool.not_false
attribute [local instance] Classical.propDecidable
open Go.Proofs.Tryz
variable {H H' H0:Heap}{K:V→Heap→Prop}{E A A' B Li:List (Nat×Obj)}{X:Rn}{r r':Rs}
structure RunW (cs:List CodeD):Prop where
 ro:RunOk cs
 ins:∀k b,k<cs.length→b<(Qm cs k).blocks.length→∀x∈(Q9 (Qm cs k) b).ins,InsW cs k x
 par:∀k,k<cs.length→0≤(Qm cs k).params∧(Qm cs k).params≤3∧(Qm cs k).params≤(Qm cs k).regs
 n:cs.length≤4
theorem runW {cs:List CodeD}(h:Qbr cs=true):RunW cs:=by
 have ro:=Qad2 h;obtain⟨h1,h2,h3⟩:=of_decide_eq_true h;refine⟨ro,fun k b hk hb x hx=>?_,fun k hk=>?_,by omega⟩
 ·have hok:=(ro.ok k hk).bs b hb;have hop:=ro.op k b hk x hx;rw[Qat hb]at hx;have ec:=Qao hk;have g:Qx0 cs k x=true:=by
   have hb':b<cs[k].blocks.length:=by rw[←ec];exact hb
   have g:=(h2 k hk).2 b hb';simp only[Qsn,Jf,Jaj]at g;refine g.1.2 x ?_;have:(Qm cs k).blocks[b]=cs[k].blocks[b]:=by simp only[ec]
   rw[←this];exact hx
  simp only[Qx0,insL,Jf]at g;obtain⟨_,g3⟩:=g;refine⟨⟨hop.1,hop.2.1⟩,fun h1=>?_,fun v hv=>?_,fun hm=>?_,hop.2.2,fun h14=>?_,hok.al x hx⟩
  ·rw[if_neg (by omega)]at g3;simp only[Jf,decide_eq_true_eq]at g3;exact⟨g3.1.2.1,g3.1.2.2⟩
  ·have:=hok.args x hx v hv;obtain⟨a,b⟩:=this;exact⟨a,by omega⟩
  ·obtain⟨a,b⟩:=hok.to x hx hm;exact⟨a,by omega⟩
  ·rw[if_pos h14]at g3;simp only[Jf,decide_eq_true_eq]at g3;obtain⟨⟨a,b⟩,c⟩:=g3;have hlt:x.n.toNat<cs.length:=by omega
   refine⟨a,by omega,?_⟩;rw[c,Qtf hlt,Qao hlt]
 ·obtain⟨g1,_⟩:=h2 k hk;simp only[Qs7,Jf,decide_eq_true_eq]at g1;rw[Qao hk];omega
def Qaw7 (cs:List CodeD)(k b:Nat):Option Nat→List Int→Fr
 |none,R=>⟨k,b,(Q9 (Qm cs k) b).ins,R⟩
 |some a,R=>frJ cs k a R b
def Qbia:Option Nat→Int
 |none=>-1
 |some a=>a
def Qbhl (q:CodeD)(b:Nat):Option Nat→Prop
 |none=>True
 |some a=>a<q.blocks.length∧(b:Int)∈gnx q a
theorem Qbr6:∀(ns:List Int) (i:Nat) (v:Int),i<ns.length→ns.getD i 0=v→v∉ns.take i→ns.idxOf v=i
 |[],i,v,h,_,_=>by simp at h
 |x::ns,0,v,_,h,_=>by
  have:x=v:=by simpa using h
  simp[List.idxOf_cons,this]
 |x::ns,i+1,v,h1,h2,h3=>by
  have hx:¬x=v:=by
   intro hh;exact h3 (by simp[hh])
  have:=Qbr6 ns i v (by simpa using h1) (by simpa using h2) (fun hh=>h3 (by simp[hh]));rw[List.idxOf_cons,cond_eq_ite,if_neg (by simpa using hx),this]
theorem Qbxb {q:CodeD}{b a:Nat}{ix:Int}(hq:q.ok)(ha:a<q.blocks.length)(hm:(b:Int)∈gnx q a)(h:IsIx (Qav (gnx q) (b:Int) q.blocks.length) (a:Int) ix) :
  ix=(wayI q b a:Int)∧wayI q b a<(Qav (gnx q) (b:Int) q.blocks.length).length:=by
 have h1:=hq.ix ha hm;refine⟨?_,h1⟩;rcases h with ⟨rfl,hn⟩|⟨i,rfl,h2,h3,h4⟩
 ·exact absurd (List.idxOf_lt_length_iff.1 h1) hn
 ·rw[wayI,Qbr6 _ i _ h2 h3 h4]
theorem Qbn5 (n:Nat):List.replicate n [C.int .i64 0]=Qb (List.replicate n 0):=by simp[Qb]
theorem Qbth (l:List Int)(n:Nat):Qb l++(Qb (List.replicate n 0)).drop l.length=Qb (l++List.replicate (n-l.length) 0):=by simp[Qb,List.drop_replicate]
theorem Rs.ok.d16 (h:r.ok X):r.mt.drop 16=[r.tc]:=by
 rw[Rs.mt,List.drop_append_of_le_length (by simp[Qj4,h.c]),J0 (by simp[Qj4,h.c])];rfl
theorem Rs.ok.t16 (h:r.ok X):r.mt.take 16=Qj4 r.c:=by
 rw[Rs.mt,List.take_append_of_le_length (by simp[Qj4,h.c]),Jh (by simp[Qj4,h.c])]
theorem Rs.ok.d17 (h:r.ok X):r.mt.drop 17=[]:=J0 (by rw[h.mt];exact Jp _)
def o9 (q:CodeD)(n:Nat):Obj:=.st [.int .i64 q.params,.int .i64 n,.sl false 5 (Qn q.blocks)]
def oB (y:BlkD):Obj:=.st [.sl false 2 (Q7 y.phis),.sl false 4 (Qag y.ins),.int .i64 y.jump,.int .i64 y.on,.sl false 1 (Qb y.next)]
def phF (R:List Int)(w:Nat)(l:List PhiD)(T:List Int):List Int:=l.foldl (fun T p=>T.set p.to.toNat (phiV R w p)) T
theorem Qbpt (R:List Int)(w:Nat)(l:List PhiD)(p:PhiD)(T:List Int):phF R w (l++[p]) T=(phF R w l T).set p.to.toNat (phiV R w p):=by simp[phF]
theorem Qbui (R:List Int)(w:Nat)(l:List PhiD)(T:List Int):(phF R w l T).length=T.length:=Qbc4 l T
set_option maxHeartbeats 32000000 in
theorem Qbhz (hw:RunW X.cs){m:Nat}(ih:∀m',m<m'→Qbm1 X m'):Qbm1 X m:=by
 intro H0 H E B Li r k l inc main fs K hm kn hr hk hin hl hbl hlt hK hP;have hok:=hw.ro.ok k hk;obtain⟨hp0,hp3,hpr⟩:=hw.par k hk;have hwi:=hw.ins k;have hnx:=fun b hb hj R=>Qa5i hw.ro (k:=k) (b:=b) hk hb hj R;have hjn:=fun b hb=>hw.ro.jn k b hk hb;obtain⟨q,hq⟩:∃q,Qm X.cs k=q:=⟨_,rfl⟩;rw[hq]at hok hp0 hp3 hpr hl hwi hnx;simp only[hq]at hjn;have hqk:X.cs[k]=q:=by rw[←Qao hk];exact hq
 have hr0:=hok.r0;have hr1:=hok.r1;have hb0:=hok.b0;have hb1:=hok.b1;obtain⟨n,hn⟩:∃n:Nat,q.regs=n:=⟨q.regs.toNat,by omega⟩;have hn2:q.regs.toNat=n:=by omega
 have hln:l.length≤n:=by omega
 have how:=hin.isOw;have hX:=F_o kn;have hmt:=hr.mt;refine Qc Qal Q5r ?_;refine Qa ?_;simp only[go_sem,how];refine Qa ?_;simp only[go_sem,hX,hmt,hk,Qo,Q0 _ _ hk,CodeD.cells,hqk,hn,how];intro x9 hx9 H1 h1;have kn:Kn H0 H1 E (X.F r [(x9,.st [.int .i64 0,.int .i64 0,.sl true 5 []])] (Li++B)):=F_al ((F_in kn).al hx9 h1);have hx9:H1 x9=.st [.int .i64 0,.int .i64 0,.sl true 5 []]:=kn.l 1 rfl;simp only[go_sem,Qho,hx9,how];intro H2 h2;have kn:Kn H0 H2 E (X.F r [(x9,o9 q n)] (Li++B)):=kn.stL 1 rfl h2;have hx9:H2 x9=.st [.int .i64 q.params,.int .i64 n,.sl false 5 (Qn q.blocks)]:=kn.l 1 rfl;refine Qa ?_;simp only[go_sem,hx9,how];refine⟨by simp only[LIM];omega,fun rl hrl H3 h3=>?_⟩;have kn:Kn H0 H3 E (X.F r [(x9,o9 q n),(rl,.vec 1 (Qb (List.replicate n 0)))] (Li++B)):=F_al (A:=[(x9,o9 q n)]) (kn.al hrl (by rw[h3,Qbn5]));simp only[go_sem,Qhq,how];intro x10 hx10 H4 h4;have kn:Kn H0 H4 E (X.F r [(x9,o9 q n),(rl,.vec 1 (Qb (List.replicate n 0))),(x10,.st [.sl true 1 []])] (Li++B)):=F_al (A:=[(x9,o9 q n),(rl,.vec 1 (Qb (List.replicate n 0)))]) (kn.al hx10 h4);have hx10:H4 x10=.st [.sl true 1 []]:=kn.l 3 rfl;simp only[go_sem,Qhp,hx10,how];intro H5 h5;have kn:Kn H0 H5 E (X.F r [(x9,o9 q n),(rl,.vec 1 (Qb (List.replicate n 0))),(x10,.st [.vsl rl 1 0 n])] (Li++B)):=kn.stL 3 rfl h5;have hx10:H5 x10=.st [.vsl rl 1 0 n]:=kn.l 3 rfl;have hrl5:H5 rl=.vec 1 (Qb (List.replicate n 0)):=kn.l 2 rfl;have hs:=hin.slc (F_g kn);have hsok:=eq_true hs.ok;have hssz:=hs.sz;have hsr:=hs.rows;have hsl:=hs.len;rw[Qf]at hsl;refine Qa ?_;simp only[go_sem,hx10,hrl5,hsok,hssz,hsr,hsl,how,Qf,List.length_replicate,Jg];refine⟨hln,Qz _,fun H6 h6=>?_⟩;rw[Qbth]at h6;have kn:Kn H0 H6 E (X.F r [(x9,o9 q n),(rl,.vec 1 (Qb (Q54 q l))),(x10,.st [.vsl rl 1 0 n])] (Li++B)):=by
  rw[Q54,hn2];exact kn.stL 2 rfl h6
 have kn:Kn H0 H6 E (X.F r [(rl,.vec 1 (Qb (Q54 q l))),(x9,o9 q n),(x10,.st [.vsl rl 1 0 n])] (Li++B)):=kn.perm (Qp fun f hf h0 hc hp=>by
  show f ([(X.l,X.o r)]++(([(x9,o9 q n)]++([(rl,.vec 1 (Qb (Q54 q l)))]++[(x10,.st [.vsl rl 1 0 n])]))++((r.so++r.tl)++(Li++B))))=f ([(X.l,X.o r)]++(([(rl,.vec 1 (Qb (Q54 q l)))]++([(x9,o9 q n)]++[(x10,.st [.vsl rl 1 0 n])]))++((r.so++r.tl)++(Li++B))));simp only[hf];omega)
 clear hx9 hx10 hrl5 hs hsok hssz hsr hsl hX;refine Qa ?_;simp only[go_sem];refine Qe (Qx (fun mm e1 H1=>∃(b:Nat) (fr:Option Nat) (R:List Int) (r1:Rs),mm=X.S-r1.u∧b<q.blocks.length∧R.length=n∧byL R∧Kn H0 H1 E (X.F r1 [(rl,.vec 1 (Qb R)),(x9,o9 q n),(x10,.st [.vsl rl 1 0 n])] (Li++B))∧r1.ok X∧r.u≤r1.u∧r1.t.length≤r1.u∧(main=false→r1.t=r.t)∧Qbhl q b fr∧
  Goes X.cs X.S r.u (.go (fr0 X.cs k l::fs) r.s r.c) r1.u (.go (Qaw7 X.cs k b fr R::fs) r1.s r1.c)∧
  lk 0 e1=.c (.ptr X.l 0)∧lk 3 e1=.c (.bool main)∧lk 9 e1=.c (.ptr x9 0)∧lk 10 e1=.c (.ptr x10 0)∧lk 11 e1=.c (.int .i64 b)∧lk 12 e1=.c (.int .i64 (Qbia fr))) (X.S-r.u) ?_ ?_)
 ·refine⟨0,none,Q54 q l,r,rfl,hb0,by rw[Qbko (by omega),hn2],Qbm8 hbl,kn,hr,Jp _,hlt,fun _=>rfl,trivial,?_,rfl,rfl,rfl,rfl,rfl,rfl⟩;have:Qaw7 X.cs k 0 none (Q54 q l)=fr0 X.cs k l:=by rw[Qaw7,fr0,hq]
  rw[this];exact .refl hr.uS
 clear kn hmt;rintro mm e1 H7 ⟨b,fr,R,r1,hmm,hb,hRl,hbR,kn,hr1',hu1,ht1,htf,hfo,hgo,l0,l3,l9,l10,l11,l12⟩;refine Qe ?_;refine Qaa ?_;refine Qa ?_;simp only[go_sem,l0,l3,l9,l10,l11,l12];clear l0 l3 l9 l10 l11 l12;refine Qd3 (fun e2 H2=>∃r2:Rs,Kn H0 H2 E (X.F r2 [(rl,.vec 1 (Qb R)),(x9,o9 q n),(x10,.st [.vsl rl 1 0 n])] (Li++B))∧r2.ok X∧r2.u=r1.u∧r2.s=r1.s∧r2.c=r1.c∧(main=false→r2.t=r1.t)∧
  lk 0 e2=.c (.ptr X.l 0)∧lk 3 e2=.c (.bool main)∧lk 9 e2=.c (.ptr x9 0)∧lk 10 e2=.c (.ptr x10 0)∧lk 11 e2=.c (.int .i64 b)∧lk 12 e2=.c (.int .i64 (Qbia fr))) ?_ ?_
 ·intro Q' hQn hQr hQe;refine Qd rfl (fun hc=>?_) (fun hc=>?_)
  ·have hX:=F_o kn;have hmt:=hr1'.mt;have hd16:=hr1'.d16;have ht16:=hr1'.t16;have hd17:=hr1'.d17;have how:=hr1'.gt.isOw;have huS:=hr1'.uS;have hS:=hr1'.S;refine Qt ?_;simp only[go_sem,hX,hmt,hd16,how];refine (F_t kn).growR (new:=Qb [(b:Int)]) hr1'.gt (.mk' _ _ _ _) (Qz _) (by simp only[Qf,LIM,Js,Ju];omega) fun t2 Lg2 H8 hg2 ht2 kn2=>?_;have hX:H8 X.l=.st (.sl X.fl 3 (Qj X.cs)::.int .i64 X.S::.int .i64 r1.u::r1.sc::r1.mt):=kn2.l 0 rfl;simp only[go_sem,Qhr,hX,hmt,hd16,ht16,hd17,ht2,List.append_nil];intro H9 h9;refine hQn _ _ ⟨{ r1 with t:=r1.t++[(b:Int)],tc:=t2,tl:=Lg2 },F_t' (r:=r1) rfl rfl (kn2.stL 0 rfl h9),⟨hr1'.gs,?_,hr1'.c,hr1'.bc,hr1'.bs,hr1'.ls,?_,huS,hS⟩,rfl,rfl,rfl,(fun h=>by rw[h]at hc;cases hc),rfl,rfl,rfl,rfl,rfl,rfl⟩
   ·show Gr Lg2 1 (Qb (r1.t++[(b:Int)])) t2;rw[Qb1];exact hg2
   ·show (r1.t++[(b:Int)]).length≤r1.u+1;rw[Jab];simp;exact ht1
  ·refine Qg ?_;exact hQn _ _ ⟨r1,kn,hr1',rfl,rfl,rfl,fun _=>rfl,rfl,rfl,rfl,rfl,rfl,rfl⟩
 clear kn;rintro e2 H8 ⟨r2,kn,hr2,eu,es,ec,et,l0,l3,l9,l10,l11,l12⟩;have hx9:H8 x9=.st [.int .i64 q.params,.int .i64 n,.sl false 5 (Qn q.blocks)]:=kn.l 2 rfl;obtain⟨y,hy⟩:∃y,q.blocks[b]=y:=⟨_,rfl⟩;have hyb:Q9 q b=y:=by rw[Qat hb,hy]
 have hyo:=hok.bs b hb;rw[hy]at hyo;have hil:=hok.il b hb;rw[hy]at hil;refine Qa ?_;simp only[go_sem,l0,l3,l9,l10,l11,l12,hx9,hb,Ql,Q1 _ _ hb,hy,BlkD.cells];intro x13 hx13 H9 h9;have kn:Kn H0 H9 E (X.F r2 [(rl,.vec 1 (Qb R)),(x9,o9 q n),(x10,.st [.vsl rl 1 0 n]),(x13,.st [.sl true 2 [],.sl true 4 [],.int .i64 0,.int .i64 0,.sl true 1 []])] (Li++B)):=F_al (A:=[(rl,.vec 1 (Qb R)),(x9,o9 q n),(x10,.st [.vsl rl 1 0 n])]) (kn.al hx13 h9);have hx13:H9 x13=.st [.sl true 2 [],.sl true 4 [],.int .i64 0,.int .i64 0,.sl true 1 []]:=kn.l 4 rfl;simp only[go_sem,Qhs,hx13,l0,l3,l9,l10,l11,l12];intro H10 h10;have kn:Kn H0 H10 E (X.F r2 [(rl,.vec 1 (Qb R)),(x9,o9 q n),(x10,.st [.vsl rl 1 0 n]),(x13,oB y)] (Li++B)):=kn.stL 4 rfl h10;clear l0 l3 l9 l10 l11 l12 hx9 hx13;refine Qd3 (fun e3 H3=>∃R2:List Int,R2.length=n∧byL R2∧Qaw7 X.cs k b fr R=⟨k,b,y.ins,R2⟩∧Kn H0 H3 E (X.F r2 [(rl,.vec 1 (Qb R2)),(x9,o9 q n),(x10,.st [.vsl rl 1 0 n]),(x13,oB y)] (Li++B))∧
  lk 0 e3=.c (.ptr X.l 0)∧lk 3 e3=.c (.bool main)∧lk 9 e3=.c (.ptr x9 0)∧lk 10 e3=.c (.ptr x10 0)∧lk 11 e3=.c (.int .i64 b)∧lk 13 e3=.c (.ptr x13 0)) ?_ ?_
 ·intro Q' hQn hQr hQe;have hx13:H10 x13=.st [.sl false 2 (Q7 y.phis),.sl false 4 (Qag y.ins),.int .i64 y.jump,.int .i64 y.on,.sl false 1 (Qb y.next)]:=kn.l 4 rfl;have hx9:H10 x9=.st [.int .i64 q.params,.int .i64 n,.sl false 5 (Qn q.blocks)]:=kn.l 2 rfl
  cases fr with
  |none=>
   have hneg:decide ((0:Int)≤-1)=false:=rfl;refine Qa ?_;simp only[go_sem,Qbia,hneg,hx13];refine Qd (c:=false) rfl (fun hc=>by cases hc) (fun _=>?_);refine Qg ?_;refine hQn _ _ ⟨R,hRl,hbR,?_,kn,rfl,rfl,rfl,rfl,rfl,rfl⟩;rw[Qaw7,hq,hyb]
  |some a=>
   obtain⟨ha,ham⟩:=hfo;have hge:decide ((0:Int)≤(a:Int))=true:=decide_eq_true (Jaq a);have hhead:Qaw7 X.cs k b (some a) R=⟨k,b,y.ins,phiR R (wayI q b a) y.phis⟩:=by rw[Qaw7,frJ,hq,hyb]
   refine Qa ?_;simp only[go_sem,Qbia,hge,hx13,Qv];try intro _
   refine Qd rfl (fun hc=>?_) (fun hc=>?_)
   rotate_left
   ·have hnil:y.phis=[]:=by
     have:¬(0:Int)<(y.phis.length:Int):=of_decide_eq_false hc;exact List.length_eq_zero_iff.1 (by omega)
    refine Qg ?_;refine hQn _ _ ⟨R,hRl,hbR,?_,kn,rfl,rfl,rfl,rfl,rfl,rfl⟩;rw[hhead,hnil];rfl
   refine Qa ?_;simp only[go_sem,hx9];refine Qad7 (rows:=Qn q.blocks) (nx:=gnx q) (Qadw H10 q false) fun fl2 H11 hu=>?_;have kn:=kn.call0 hu;have hpi:Q08 (gnx q) (b:Int) (Qn q.blocks).length=Qav (gnx q) (b:Int) q.blocks.length:=by
    rw[Ql,Q08,decide_eq_true (Jaq b),decide_eq_true (show (b:Int)≤(q.blocks.length:Int)-1 by omega)];rfl
   rw[hpi];simp only[go_sem,Qhv];refine Qa4e (.mk' _ _ _ _) rfl fun ix hix=>?_;obtain⟨rfl,hwl⟩:=Qbxb hok ha ham hix;obtain⟨w,hw'⟩:∃w,wayI q b a=w:=⟨_,rfl⟩;rw[hw']at hwl hhead;rw[hw'];have hpw:∀p∈y.phis,w<p.args.length:=fun p hp=>by rw[hyo.pal p hp];exact hwl
   have hpv:∀p∈y.phis,0≤p.args.getD w 0∧(p.args.getD w 0).toNat<R.length:=fun p hp=>by
    rw[Ja,Jc (hpw p hp)];obtain⟨z1,z2⟩:=hyo.pargs p hp _ (Ji (hpw p hp));refine⟨z1,?_⟩;show (p.args[w]'(hpw p hp)).toNat<R.length;omega
   simp only[go_sem,Qhu];intro x14 hx14 H12 h12;have kn:Kn H0 H12 E (X.F r2 [(rl,.vec 1 (Qb R)),(x9,o9 q n),(x10,.st [.vsl rl 1 0 n]),(x13,oB y),(x14,.st [.int .i64 0])] (Li++B)):=F_al (A:=[(rl,.vec 1 (Qb R)),(x9,o9 q n),(x10,.st [.vsl rl 1 0 n]),(x13,oB y)]) (kn.al hx14 h12);have hx14:H12 x14=.st [.int .i64 0]:=kn.l 5 rfl;simp only[go_sem,Qht,hx14];intro H13 h13;have kn:Kn H0 H13 E (X.F r2 [(rl,.vec 1 (Qb R)),(x9,o9 q n),(x10,.st [.vsl rl 1 0 n]),(x13,oB y),(x14,.st [.int .i64 w])] (Li++B)):=kn.stL 5 rfl h13;have hx13:H13 x13=.st [.sl false 2 (Q7 y.phis),.sl false 4 (Qag y.ins),.int .i64 y.jump,.int .i64 y.on,.sl false 1 (Qb y.next)]:=kn.l 4 rfl;have hx10:H13 x10=.st [.vsl rl 1 0 R.length]:=by rw[hRl];exact kn.l 3 rfl
   have hrl:H13 rl=.vec 1 (Qb R):=kn.l 1 rfl;refine Qa ?_;simp only[go_sem,hx13];refine Qbul (ps:=y.phis) (R:=R) (rl:=rl) (w:=w) hx10 hrl (kn.l 5 rfl) hil.2 hpw hpv fun H14 hu=>?_;have kn:Kn H0 H14 E (X.F r2 [(rl,.vec 1 (Qb R)),(x9,o9 q n),(x10,.st [.vsl rl 1 0 n]),(x13,oB y)] (Li++B)):=Qzh (A:=[(rl,.vec 1 (Qb R)),(x9,o9 q n),(x10,.st [.vsl rl 1 0 n]),(x13,oB y)]) (A':=[(x14,.st [.int .i64 w])]) (kn.call0 hu);have hx13:H14 x13=.st [.sl false 2 (Q7 y.phis),.sl false 4 (Qag y.ins),.int .i64 y.jump,.int .i64 y.on,.sl false 1 (Qb y.next)]:=kn.l 4 rfl;simp only[go_sem,Qhw];refine Qa ?_;simp only[go_sem,hx13,Qv];try intro _
   clear hx13 hx10 hrl hx9;refine Qe (Qx (fun mm e1 H1=>∃(i:Nat),mm=y.phis.length-i∧i≤y.phis.length∧byL (phF R w (y.phis.take i) R)∧Kn H0 H1 E (X.F r2 [(rl,.vec 1 (Qb (phF R w (y.phis.take i) R))),(x9,o9 q n),(x10,.st [.vsl rl 1 0 n]),(x13,oB y)] (Li++B))∧
    lk 0 e1=.c (.ptr X.l 0)∧lk 3 e1=.c (.bool main)∧lk 9 e1=.c (.ptr x9 0)∧lk 10 e1=.c (.ptr x10 0)∧lk 11 e1=.c (.int .i64 b)∧lk 13 e1=.c (.ptr x13 0)∧lk 15 e1=.c (.sl false 1 (Qb (y.phis.map (phiV R w))))∧lk 68 e1=.c (.sl false 2 (Q7 y.phis))∧lk 69 e1=.c (.int .i64 y.phis.length)∧lk 70 e1=.c (.int .i64 i)) y.phis.length ?_ ?_)
   ·exact⟨0,by omega,by omega,hbR,kn,rfl,rfl,rfl,rfl,rfl,rfl,rfl,rfl,rfl,rfl⟩
   clear kn;rintro m2 e3 H15 ⟨i,hm2,hi,hbT,kn,l0,l3,l9,l10,l11,l13,l15,l68,l69,l70⟩;have hx10:H15 x10=.st [.vsl rl 1 0 n]:=kn.l 3 rfl;obtain⟨T,hT⟩:∃T,phF R w (y.phis.take i) R=T:=⟨_,rfl⟩;have hTl:T.length=n:=by rw[←hT,Qbui,hRl]
   rw[hT]at kn hbT;have hrl:H15 rl=.vec 1 (Qb T):=kn.l 1 rfl;refine Qa ?_;simp only[go_sem,l0,l3,l9,l10,l11,l13,l15,l68,l69,l70];refine Qh (Qd rfl (fun hc=>?_) (fun hc=>?_))
   ·have hlt:i<y.phis.length:=(by simpa using hc);obtain⟨p,hp⟩:∃p,y.phis[i]=p:=⟨_,rfl⟩;have hpm:p∈y.phis:=(by rw[←hp];exact Ji hlt);obtain⟨z1,z2⟩:=hyo.pto p hpm;obtain⟨j,hj⟩:∃j:Nat,p.to=j:=⟨p.to.toNat,by omega⟩;have hj2:j<n:=(by omega);have hj3:j<T.length:=(by omega);have hnl:i<(y.phis.map (phiV R w)).length:=(by rw[Jk];exact hlt);have hng:(y.phis.map (phiV R w)).getD i 0=phiV R w p:=(by simp[Ja,hlt,hp]);refine Qg ?_;try simp only[go_sem]
    refine Qh (Qe ?_);refine Qa ?_;simp only[go_sem,l0,l3,l9,l10,l11,l13,l15,l68,l69,l70,hlt,Qv,Qau _ _ hlt,hp,PhiD.cells];intro x17 hx17 H16 h16;have kn:Kn H0 H16 E (X.F r2 [(rl,.vec 1 (Qb T)),(x9,o9 q n),(x10,.st [.vsl rl 1 0 n]),(x13,oB y),(x17,.st [.int .i64 0,.sl true 1 []])] (Li++B)):=F_al (A:=[(rl,.vec 1 (Qb T)),(x9,o9 q n),(x10,.st [.vsl rl 1 0 n]),(x13,oB y)]) (kn.al hx17 h16);have hx17:H16 x17=.st [.int .i64 0,.sl true 1 []]:=kn.l 5 rfl;simp only[go_sem,Qg6,hx17,l0,l3,l9,l10,l11,l13,l15,l68,l69,l70];intro H17 h17;have kn:Kn H0 H17 E (X.F r2 [(rl,.vec 1 (Qb T)),(x9,o9 q n),(x10,.st [.vsl rl 1 0 n]),(x13,oB y),(x17,.st [.int .i64 p.to,.sl false 1 (Qb p.args)])] (Li++B)):=kn.stL 5 rfl h17;have hx17:H17 x17=.st [.int .i64 p.to,.sl false 1 (Qb p.args)]:=kn.l 5 rfl;have hx10:H17 x10=.st [.vsl rl 1 0 n]:=kn.l 3 rfl;have hrl:H17 rl=.vec 1 (Qb T):=kn.l 1 rfl;refine Qbn ?_;simp only[go_sem,hx10,hx17,hrl,hj,hj2,hTl,hnl,hng,Qf,Qu _ _ hj3,Qu _ _ hnl,Qee,Jg];intro H18 h18;have kn:Kn H0 H18 E (X.F r2 [(rl,.vec 1 (Qb (T.set j (phiV R w p)))),(x9,o9 q n),(x10,.st [.vsl rl 1 0 n]),(x13,oB y),(x17,.st [.int .i64 p.to,.sl false 1 (Qb p.args)])] (Li++B)):=kn.stL 1 rfl h18;have kn:=Qzh (A:=[(rl,.vec 1 (Qb (T.set j (phiV R w p)))),(x9,o9 q n),(x10,.st [.vsl rl 1 0 n]),(x13,oB y)]) (A':=[(x17,.st [.int .i64 p.to,.sl false 1 (Qb p.args)])]) kn;have hTs:phF R w (y.phis.take (i+1)) R=T.set j (phiV R w p):=by
     rw[Jm hlt,hp,Qbpt,hT,hj];rfl
    refine Qt ?_;simp only[go_sem];refine⟨Qs (by omega) (by omega),?_⟩;show ∃m,_;refine⟨y.phis.length-(i+1),by omega,i+1,rfl,by omega,?_,?_,rfl,rfl,rfl,rfl,rfl,rfl,rfl,rfl,rfl,rfl⟩
    ·rw[hTs];exact hbT.set (hbR.rg _) j
    ·rw[hTs];exact kn
   ·have hge:y.phis.length≤i:=(by simpa using hc);rw[Jh hge]at hT;refine Qw ?_;simp only[go_sem,Go.AE.X.next];refine hQn _ _ ⟨T,hTl,hbT,?_,kn,rfl,rfl,rfl,rfl,rfl,rfl⟩;rw[hhead,←hT];rfl
 clear kn;rintro e3 H11 ⟨R2,hR2l,hbR2,hhd,kn,l0,l3,l9,l10,l11,l13⟩;have hgo2:Goes X.cs X.S r.u (.go (fr0 X.cs k l::fs) r.s r.c) r2.u (.go (⟨k,b,y.ins,R2⟩::fs) r2.s r2.c):=by rw[eu,es,ec,←hhd];exact hgo
 have hx13:H11 x13=.st [.sl false 2 (Q7 y.phis),.sl false 4 (Qag y.ins),.int .i64 y.jump,.int .i64 y.on,.sl false 1 (Qb y.next)]:=kn.l 4 rfl;refine Qaa ?_;refine Qa ?_;simp only[go_sem,l0,l3,l9,l10,l11,l13,hx13,Q4];try intro _
 clear l0 l3 l9 l10 l11 l13 hx13;refine Qh (Qe (Qx (fun mm e1 H1=>∃(i:Nat) (R3:List Int) (r3:Rs),mm=y.ins.length-i∧i≤y.ins.length∧R3.length=n∧byL R3∧Kn H0 H1 E (X.F r3 [(rl,.vec 1 (Qb R3)),(x9,o9 q n),(x10,.st [.vsl rl 1 0 n]),(x13,oB y)] (Li++B))∧r3.ok X∧r2.u≤r3.u∧r3.t=r2.t∧
  Goes X.cs X.S r.u (.go (fr0 X.cs k l::fs) r.s r.c) r3.u (.go (⟨k,b,y.ins.drop i,R3⟩::fs) r3.s r3.c)∧
  lk 0 e1=.c (.ptr X.l 0)∧lk 3 e1=.c (.bool main)∧lk 9 e1=.c (.ptr x9 0)∧lk 10 e1=.c (.ptr x10 0)∧lk 11 e1=.c (.int .i64 b)∧lk 13 e1=.c (.ptr x13 0)∧lk 85 e1=.c (.sl false 4 (Qag y.ins))∧lk 86 e1=.c (.int .i64 y.ins.length)∧lk 87 e1=.c (.int .i64 i)) y.ins.length ?_ ?_))
 ·exact⟨0,R2,r2,by omega,by omega,hR2l,hbR2,kn,hr2,Jp _,rfl,hgo2,rfl,rfl,rfl,rfl,rfl,rfl,rfl,rfl,rfl⟩
 clear kn;rintro m3 e4 H12 ⟨i,R3,r3,hm3,hi,hR3l,hbR3,kn,hr3,hu3,ht3,hgo3,l0,l3,l9,l10,l11,l13,l85,l86,l87⟩;refine Qa ?_;simp only[go_sem,l0,l3,l9,l10,l11,l13,l85,l86,l87];refine Qh (Qd rfl (fun hc=>?_) (fun hc=>?_))
 ·have hlt:i<y.ins.length:=by simpa using hc
  obtain⟨x,hx⟩:∃x,y.ins[i]=x:=⟨_,rfl⟩;have hxm:x∈y.ins:=by rw[←hx];exact Ji hlt
  have hxw:InsW X.cs k x:=hwi b hk hb x (by rw[hyb];exact hxm);have hdr:y.ins.drop i=x::y.ins.drop (i+1):=by rw[Jad hlt,hx]
  obtain⟨op,to,args,nn⟩:=x;refine Qg ?_;try simp only[go_sem]
  refine Qh (Qe ?_);refine Qa ?_;simp only[go_sem,l0,l3,l9,l10,l11,l13,l85,l86,l87,hlt,Q4,Qbd _ _ hlt,hx,InsD.cells];intro x19 hx19 H13 h13;have kn:Kn H0 H13 E (X.F r3 [(rl,.vec 1 (Qb R3)),(x9,o9 q n),(x10,.st [.vsl rl 1 0 n]),(x13,oB y),(x19,.st [.int .i64 0,.int .i64 0,.sl true 1 [],.int .i64 0])] (Li++B)):=F_al (A:=[(rl,.vec 1 (Qb R3)),(x9,o9 q n),(x10,.st [.vsl rl 1 0 n]),(x13,oB y)]) (kn.al hx19 h13);have hx19:H13 x19=.st [.int .i64 0,.int .i64 0,.sl true 1 [],.int .i64 0]:=kn.l 5 rfl;simp only[go_sem,Qg7,hx19,l0,l3,l9,l10,l11,l13,l85,l86,l87];intro H14 h14;have kn:Kn H0 H14 E (X.F r3 [(rl,.vec 1 (Qb R3)),(x9,o9 q n),(x10,.st [.vsl rl 1 0 n]),(x13,oB y),(x19,.st [.int .i64 op,.int .i64 to,.sl false 1 (Qb args),.int .i64 nn])] (Li++B)):=kn.stL 5 rfl h14;have hx19:H14 x19=.st [.int .i64 op,.int .i64 to,.sl false 1 (Qb args),.int .i64 nn]:=kn.l 5 rfl;have hx10:H14 x10=.st [.vsl rl 1 0 R3.length]:=by rw[hR3l];exact kn.l 3 rfl
  have kn:=Qbve (A:=[(rl,.vec 1 (Qb R3))]) (A':=[(x9,o9 q n),(x10,.st [.vsl rl 1 0 n]),(x13,oB y),(x19,.st [.int .i64 op,.int .i64 to,.sl false 1 (Qb args),.int .i64 nn])]) kn;rw[hdr]at hgo3;refine Qt ?_;simp only[go_sem,hx19,hx10];refine Qbst (k:=k) (b:=b) (t:=y.ins.drop (i+1)) (fs:=fs) hxw hk (by rw[hq,hn2];exact hR3l) hbR3 kn hr3 (ih _ (by omega)) (fun R4 r4 H15 kn4 hr4 hR4l hbR4 ht4 hu4 hgo4=>?_) (fun e r4 H15 kn4 hr4 ht4 hha=>?_)
  ·have kn4:=Qzh (A:=[(rl,.vec 1 (Qb R4)),(x9,o9 q n),(x10,.st [.vsl rl 1 0 n]),(x13,oB y)]) (A':=[(x19,.st [.int .i64 op,.int .i64 to,.sl false 1 (Qb args),.int .i64 nn])]) (Qbvd (A:=[(rl,.vec 1 (Qb R4))]) (A':=[(x9,o9 q n),(x10,.st [.vsl rl 1 0 n]),(x13,oB y),(x19,.st [.int .i64 op,.int .i64 to,.sl false 1 (Qb args),.int .i64 nn])]) kn4);simp only[go_sem];refine Qt ?_;simp only[go_sem];refine⟨Qs (by omega) (by omega),?_⟩;show ∃m,_;exact⟨y.ins.length-(i+1),by omega,i+1,R4,r4,rfl,by omega,by omega,hbR4,kn4,hr4,by omega,by rw[ht4,ht3],hgo3.trans hgo4,rfl,rfl,rfl,rfl,rfl,rfl,rfl,rfl,rfl⟩
  ·simp only[go_sem,Go.AE.X.next];exact hP e r4 H15 (Qbhk (A:=Li) (Qa4c (A':=[(x9,o9 q n),(x10,.st [.vsl rl 1 0 n]),(x13,oB y),(x19,.st [.int .i64 op,.int .i64 to,.sl false 1 (Qb args),.int .i64 nn])]) kn4)) hr4 (fun h=>by rw[ht4,ht3,et h,htf h]) (hgo3.halts hha)
 have hge:y.ins.length≤i:=by simpa using hc
 rw[J0 hge]at hgo3;refine Qw ?_;simp only[go_sem,Go.AE.X.next];refine Qa ?_;simp only[go_sem,l0,l3,l9,l10,l11,l13];refine Qbsd kn hr3 (fun H13 hlu kn4 hr4=>?_) (fun hlu=>?_)
 rotate_left
 ·simp only[go_sem,Go.AE.X.next];refine hP 3 r3 _ (Qbhk (A:=Li) (Qzh (A:=[]) kn)) hr3 (fun h=>by rw[ht3,et h,htf h]) (hgo3.halts ?_);rw[hlu];exact .fuel
 obtain⟨r4,e4⟩:∃r4,({ r3 with u:=r3.u+1 }:Rs)=r4:=⟨_,rfl⟩;have eu4:r4.u=r3.u+1:=by rw[←e4]
 have es4:r4.s=r3.s:=by rw[←e4]
 have ec4:r4.c=r3.c:=by rw[←e4]
 have et4:r4.t=r3.t:=by rw[←e4]
 rw[e4]at kn4 hr4;clear e4 kn;have hx13:H13 x13=.st [.sl false 2 (Q7 y.phis),.sl false 4 (Qag y.ins),.int .i64 y.jump,.int .i64 y.on,.sl false 1 (Qb y.next)]:=kn4.l 4 rfl;have hx10:H13 x10=.st [.vsl rl 1 0 n]:=kn4.l 3 rfl;have hrl:H13 rl=.vec 1 (Qb R3):=kn4.l 1 rfl;have htk:List.take n (Qb R3)=Qb R3:=Jh (by rw[Qf];omega);have hlt4:r4.t.length≤r4.u:=by rw[et4,eu4];exact hr3.lt
 have htf4:main=false→r4.t=r.t:=fun h=>by rw[et4,ht3,et h,htf h]
 have one:∀Y,stJ X.cs k b R3 fs r4.s r4.c=Y→Goes X.cs X.S r.u (.go (fr0 X.cs k l::fs) r.s r.c) r4.u Y:=fun Y h=>by
  refine hgo3.trans ?_;rw[eu4,←es4,←ec4];exact .one hlu h
 have hjm:=hyo.jmp;have hyon:=hyo.on;have hynx:=hyo.nx;have hjn':=hjn b hb;rw[hyb]at hjn';refine Qa ?_;simp only[go_sem,l0,l3,l9,l10,l11,l13];refine Qe ?_;refine Qa ?_;simp only[go_sem,hx13];refine Qd rfl (fun hc=>?_) (fun hc=>?_)
 ·have hj:y.jump=3:=of_decide_eq_true hc;obtain⟨z1,z2⟩:=hyon (by omega);obtain⟨j,hjo⟩:∃j:Nat,y.on=j:=⟨y.on.toNat,by omega⟩;have hj2:j<n:=by omega
  have hj3:j<R3.length:=by omega
  refine Qa ?_;simp only[go_sem,hx13,hx10,hrl,htk,hjo,hj2,hR3l,Qf,Qu _ _ hj3,Jg];refine Qk ?_;simp only[go_sem,Go.AE.X.next,Q5,Qae,Qmj,Jb,forall_eq,RS.op];have hgoal:=hK (rg R3 y.on) r4 H13 (Qbhk (A:=Li) (Qzh (A:=[]) kn4)) hr4 (hbR3.rg _) hlt4 htf4 (one _ (by rw[Qa3z (by rw[hq,hyb];exact hj),hq,hyb]));rw[hjo]at hgoal;exact hgoal
 have hj3:¬y.jump=3:=of_decide_eq_false hc;obtain⟨v,hvm,hvn,hvi⟩:=hnx b hb (by rw[hyb];exact hj3) R3;rw[hyb]at hvm hvn hvi;obtain⟨w1,w2⟩:=hynx v hvm;obtain⟨b2,hb2⟩:∃b2:Nat,v=b2:=⟨v.toNat,by omega⟩;have hvn2:nxB y R3=b2:=by omega
 have hb2l:b2<q.blocks.length:=by omega
 have hgoJ:=one _ (by
  rw[Qa30 (by rw[hq,hyb];exact hj3),hq,hyb,hvn2])
 have hix:ixB y R3<y.next.length:=(Jy.1 hvi).1;have hgd:y.next.getD (ixB y R3) 0=(b2:Int):=by rw[Ja,hvi,hb2];rfl
 have hfo2:Qbhl q b2 (some b):=⟨hb,by rw[Qbid hb,hyb,←hb2];exact hvm⟩;have hfin:∀e,lk 0 e=.c (.ptr X.l 0)→lk 3 e=.c (.bool main)→lk 9 e=.c (.ptr x9 0)→lk 10 e=.c (.ptr x10 0)→lk 11 e=.c (.int .i64 b2)→lk 12 e=.c (.int .i64 b)→
   ∃m',m'<mm∧∃(b:Nat) (fr:Option Nat) (R:List Int) (r1:Rs),m'=X.S-r1.u∧b<q.blocks.length∧R.length=n∧byL R∧Kn H0 H13 E (X.F r1 [(rl,.vec 1 (Qb R)),(x9,o9 q n),(x10,.st [.vsl rl 1 0 n])] (Li++B))∧r1.ok X∧r.u≤r1.u∧r1.t.length≤r1.u∧(main=false→r1.t=r.t)∧Qbhl q b fr∧
   Goes X.cs X.S r.u (.go (fr0 X.cs k l::fs) r.s r.c) r1.u (.go (Qaw7 X.cs k b fr R::fs) r1.s r1.c)∧
   lk 0 e=.c (.ptr X.l 0)∧lk 3 e=.c (.bool main)∧lk 9 e=.c (.ptr x9 0)∧lk 10 e=.c (.ptr x10 0)∧lk 11 e=.c (.int .i64 b)∧lk 12 e=.c (.int .i64 (Qbia fr)):=by
  intro e a0 a3 a9 a10 a11 a12;refine⟨X.S-r4.u,by have:=hr4.uS;omega,b2,some b,R3,r4,rfl,hb2l,hR3l,hbR3,Qzh (A:=[(rl,.vec 1 (Qb R3)),(x9,o9 q n),(x10,.st [.vsl rl 1 0 n])]) (A':=[(x13,oB y)]) kn4,hr4,by omega,hlt4,htf4,hfo2,hgoJ,a0,a3,a9,a10,a11,a12⟩
 rcases hjm with hj|hj|hj
 ·
  have hd:decide ((1:Int)=2)=false:=rfl;have e0:ixB y R3=0:=by rw[ixB,if_neg (by omega)]
  rw[e0]at hix hgd;refine Qa ?_;by_cases hjr:y.on.toNat<R3.length
  ·simp only[go_sem,hx13,hx10,hrl,htk,hj,hd,Qu _ _ hjr,Jg];refine Qd (c:=false) rfl (fun hc=>by cases hc) (fun _=>?_);refine Qt ?_;simp only[go_sem,hx13,hix,hgd,Qf,Qu _ _ hix];exact⟨by omega,hfin _ rfl rfl rfl rfl rfl rfl⟩
  ·have hno:(Qb R3).getD y.on.toNat []=[]:=by rw[Ja,Jl (by rw[Qf];omega)];rfl
   simp only[go_sem,hx13,hx10,hrl,htk,hj,hd,hno,List.headD_nil,Jg];refine Qd (c:=false) rfl (fun hc=>by cases hc) (fun _=>?_);refine Qt ?_;simp only[go_sem,hx13,hix,hgd,Qf,Qu _ _ hix];exact⟨by omega,hfin _ rfl rfl rfl rfl rfl rfl⟩
 ·
  have hd:decide ((2:Int)=2)=true:=rfl;obtain⟨z1,z2⟩:=hyon (by omega);obtain⟨j,hjo⟩:∃j:Nat,y.on=j:=⟨y.on.toNat,by omega⟩;have hj2:j<n:=by omega
  have hj4:j<R3.length:=by omega
  refine Qa ?_;simp only[go_sem,hx13,hx10,hrl,htk,hj,hd,hjo,hj2,hR3l,Qf,Qu _ _ hj4,Jg];refine Qd rfl (fun hc=>?_) (fun hc=>?_)
  ·have hz:R3.getD j 0=0:=of_decide_eq_true hc;have e0:ixB y R3=1:=by rw[ixB,if_pos ⟨hj,by rw[rg,hjo];exact hz⟩]
   rw[e0]at hix hgd;refine Qt ?_;simp only[go_sem,hx13,hix,hgd,Qf,Qu _ _ hix];exact⟨by omega,hfin _ rfl rfl rfl rfl rfl rfl⟩
  ·have hz:¬R3.getD j 0=0:=of_decide_eq_false hc;have e0:ixB y R3=0:=by rw[ixB,if_neg (by rintro⟨_,h⟩;rw[rg,hjo]at h;exact hz h)]
   rw[e0]at hix hgd;refine Qt ?_;simp only[go_sem,hx13,hix,hgd,Qf,Qu _ _ hix];exact⟨by omega,hfin _ rfl rfl rfl rfl rfl rfl⟩
 ·exact absurd hj hj3
theorem Qbbh (hw:RunW X.cs):∀d m,X.S+1-m≤d→Qbm1 X m
 |0,m,h=>fun H0 H E B Li r k l inc main fs K hm kn hr=>by
  have:=hr.uS;omega
 |d+1,m,h=>Qbhz hw fun m' hm'=>Qbbh hw d m' (by omega)
end Go.AE.Y
namespace Go.AE.Y
open Go.Proofs.Tryz
theorem Qbdt (p:Addr)(w:World) :
  CallsD prog Qsu #[.pointer (some p)] .returning w fun e u' w'=>e=.returned (.tuple #[])∧u'=.returning∧w'=w:=by
 refine callsD_of_wpS Go.Proofs.Tryz.func208 rfl fun c₀ cs hu=>?_;apply wpS_seq;apply wpS_region;simp[wpOpsS,go_sem,recoverD,hu,Go.Proofs.Tryz.ntmps208,Exit.thenS];apply wpS_seq;apply wpS_region;simp[wpOpsS,go_sem,Exit.thenS];refine wpS_cond (t:=false) (by simp[Act.eval]) ?_;simp only[Jap,if_false];refine wpS_of_wp (wp_skip ?_);cases c₀
 simp_all[bodyPostS,results,Go.Proofs.Tryz.results208]
set_option maxRecDepth 4000 in
theorem Qad9 (p:Addr)(n:Int)(x:Value)(older:List PanicEntry)(w:World)(hc:w.cell? p=some x)(hz:w.frozen? p=false) :
  CallsD prog Qsu #[.pointer (some p)] (.panicking ({ v:=.iface 190 (.int .i64 n),recovered:=false }::older)) w fun e u' w'=>
   e=.returned (.tuple #[])∧u'=.panicking ({ v:=.iface 190 (.int .i64 n),recovered:=true }::older)∧w'=w.setCell p (.int .i64 n):=by
 refine callsD_of_wpS Go.Proofs.Tryz.func208 rfl fun c₀ cs hu=>?_;apply wpS_seq;apply wpS_region;simp[wpOpsS,go_sem,recoverD,hu,Go.Proofs.Tryz.ntmps208,Exit.thenS];apply wpS_seq;apply wpS_region;simp[wpOpsS,go_sem,Exit.thenS];refine wpS_cond (t:=true) (by simp[Act.eval]) ?_;simp only[if_true];have hta:∀w:World,(Instr.typeAssert (.iface 190 (.int .i64 n)) 20 190 true).run prog w=.ok (.tuple #[.int .i64 n,.bool true]) w:=fun w=>by kernel_rfl
 apply wpS_seq;apply wpS_region;simp[wpOpsS,go_sem,Exit.thenS,hta];apply wpS_seq;apply wpS_seq;apply wpS_region;simp[wpOpsS,go_sem,Exit.thenS];refine wpS_cond (t:=false) (by simp[Act.eval]) ?_;simp only[Jap,if_false];refine wpS_of_wp (wp_skip ?_);simp only[Exit.thenS];apply wpS_region;simp[wpOpsS,go_sem,hc,hz,bodyPostS,results,Go.Proofs.Tryz.results208]
theorem Qbdu {f : Nat} {caps : Array Value} {w : World} {R : Ending → World → Prop} (hf : fnOk prog f = true)
    (h : Calls prog f caps (w.alloc (.cells #[.int .i64 0] 3)) fun e w' => w'.cell? ⟨w.heap.size, 0, none⟩ = some (.int .i64 0) ∧ w'.frozen? ⟨w.heap.size, 0, none⟩ = false ∧
      ((∃ v, e = .returned v ∧ R (.returned (.int .i64 0)) (w'.setCell ⟨w.heap.size, 0, none⟩ (.int .i64 0))) ∨
       (∃ n, e = .panicked [{ v := .iface 190 (.int .i64 n), recovered := false }] ∧ R (.returned (.int .i64 n)) (w'.setCell ⟨w.heap.size, 0, none⟩ (.int .i64 n))))) :
    Calls prog Qst #[.func (.func f) #[] caps] w R := by
  have hmf : ∀ fn (first cap : Array Value) (w : World), (Instr.makeFunc fn first cap).run prog w = .ok (.func fn first cap) w := fun _ _ _ _ => rfl
  go_enter_defers Go.Proofs.Tryz.func134, Go.Proofs.Tryz.ntmps134
  go_wp2
  have hcall : ∀ w, (callFunc f caps).run prog w = .ok (.enter f caps) w := fun w => Qsp hf caps w;simp only [hcall, Array.append_empty, Array.empty_append, Oper.upon_enter];refine h.mono ?_;rintro e w' ⟨hc, hz, hR⟩;rcases hR with ⟨v, rfl, hR⟩ | ⟨n, rfl, hR⟩
  · go_wp2
    refine leaves_cons (f := 208) (args := #[.pointer (some ⟨w.heap.size, 0, none⟩)]) (by simp) (by simp [go_sem]) ?_;refine (Qbdt ⟨w.heap.size, 0, none⟩ _).mono ?_;rintro e u' w'' ⟨rfl, rfl, rfl⟩;simp [Leaves, settle, results, Go.Proofs.Tryz.results134, go_sem];refine ⟨_, ?_, hR⟩;simp [go_sem, hc]
  · show Leaves _ _ _ _ _ _ _;refine leaves_cons (f := 208) (args := #[.pointer (some ⟨w.heap.size, 0, none⟩)]) (by simp) (by simp [go_sem]) ?_;refine (Qad9 ⟨w.heap.size, 0, none⟩ n _ [] _ hc hz).mono ?_;rintro e u' w'' ⟨rfl, rfl, rfl⟩;simp [Leaves, settle, results, Go.Proofs.Tryz.results134, go_sem];refine ⟨_, ?_, hR⟩;simp [go_sem, hc]
variable {H:Heap}{K:V→Heap→Prop}
theorem Qba2 {w:World}{b:Nat}{cs:Array Value}{T:TypeId}{v:Value}(h:w.heap[b]? = some (.cells cs T (0,0))):w.setCell ⟨b,0,none⟩ v=World.putCells w b (cs.setIfInBounds 0 v) T:=by
 unfold World.setCell World.putCells;congr 1;refine Array.ext_getElem? fun i=>?_;rw[Array.getElem?_modify,Array.getElem?_setIfInBounds];by_cases hi:b=i
 ·subst hi;rw[if_pos rfl,if_pos rfl,if_pos (Qj8 h),h];rfl
 ·rw[if_neg hi,if_neg hi]
theorem Qbm9 {f:Nat}{caps:List C}(hf:fnOk prog f=true)
  (h:∀xe,H xe=.none→∀H1,H1=H.set xe (.st [.int .i64 0])→Qr prog f (caps.map .c) H1 fun x H2=>H2 xe=.st [.int .i64 0]∧((∃n,x=.pn (endV n)∧∀H3,H3=H2.set xe (.st [.int .i64 n])→K (.c (.int .i64 n)) H3)∨
   ((∀v,x≠.pn v)∧∀H3,H3=H2.set xe (.st [.int .i64 0])→K (.c (.int .i64 0)) H3))) :
  Qr prog Qst [.c (.fn f caps)] H K:=by
 refine⟨by kernel_rfl,fun g w vs hs hl hv=>?_⟩;obtain⟨v,rfl⟩:∃v,vs=[v]:=by
  match vs,hl with
  |[v],_=>exact⟨v,rfl⟩
 have hr:=hv 0 _ v rfl rfl;obtain⟨cvs,rfl,hcl,hcv⟩:=hr.c_inv.fn_inv;obtain⟨xe,hxe,hHx⟩:=hs.newName;have hle:=Qg0 hs hxe 1 0 (.cells #[.int .i64 0] 3);have hst:=Qcu hs hxe 1 0 (.cells #[.int .i64 0] 3) (.st [.int .i64 0]) (fun g' hg=>by
  subst hg;exact Qoz (cells:=[.int .i64 0]) (fun j c u h1 h2=>by
   cases j with
   |zero=>simp at h1 h2;subst h1;subst h2;exact .int _ _
   |succ j=>simp at h1) rfl hle)
 refine Qbdu hf ?_;have hc:=(h xe hHx _ rfl).2 _ _ cvs hst.sat (by simp[hcl]) (fun j x u h1 h2=>by
  rw[Jah]at h1
  cases hj:caps[j]? with
  |none=>rw[hj]at h1;simp at h1
  |some c=>
   rw[hj]at h1;simp at h1;subst h1;exact .c _ _ ((hcv j c u hj h2).mono hst.le))
 refine hc.mono fun e w2 hh=>?_;have box:∀H2 g2 n,H2 xe=.st [.int .i64 0]→Stp (H.set xe (.st [.int .i64 0])) (g.newObj xe w.heap.size 1 0) (w.alloc (.cells #[.int .i64 0] 3)) H2 g2 w2→
   w2.cell? ⟨w.heap.size,0,none⟩=some (.int .i64 0)∧w2.frozen? ⟨w.heap.size,0,none⟩=false∧Stp H2 g2 w2 (H2.set xe (.st [.int .i64 n])) g2 (w2.setCell ⟨w.heap.size,0,none⟩ (.int .i64 n)):=by
  intro H2 g2 n hx hst2;have hio:g2.io xe=some (w.heap.size,1,0):=hst2.le.io xe _ (by simp[G.newObj]);have hob:=hst2.sat.objs xe;rw[hx]at hob;obtain⟨b',sz',T,cs,q1,q2,q3,q4,q5⟩:=hob;rw[hio]at q1;simp only[Jaw,Prod.mk.injEq,and_true]at q1;obtain⟨rfl,rfl⟩:=q1;have hc1:cs.size=1:=q4;have hc0:cs[0]? = some cs[0]:=Array.getElem?_eq_getElem (by omega);have hcv:cs[0]=.int .i64 0:=((q5 0 _ _ rfl hc0).toC rfl).int_inv;refine⟨?_,by simp[World.frozen?,q3],?_⟩
  ·rw[Qch q3,hc0,hcv]
  ·rw[Qba2 q3];refine Qeg hst2.sat q2 q3 (by simp) _ (by rw[hx];simp) (fun hle hw'=>?_) (by simp);refine⟨w.heap.size,1,T,_,hio,q2,hw',by simp[hc1],fun j c v e1 e2=>?_⟩
   cases j with
   |zero=>
    simp[hc1]at e1 e2;subst e1;subst e2;exact .plain _ _ _ _ (.int _ _)
   |succ j=>simp at e1
 rcases hh with ⟨v,x,H2,g2,rfl,⟨hx,hk⟩,hst2,hr2⟩|⟨v,H2,g2,rfl,⟨hx,hk⟩,hst2⟩
 ·obtain⟨b1,b2,b3⟩:=box H2 g2 0 hx hst2;refine⟨b1,b2,.inl ⟨v,rfl,.inl ⟨_,.c (.int .i64 0),_,g2,rfl,?_,hst.trans (hst2.trans b3),.c _ _ (.int _ _)⟩⟩⟩;rcases hk with ⟨n,rfl,_⟩|⟨_,hk⟩
  ·cases hr2
  ·exact hk _ rfl
 ·rcases hk with ⟨n,hvn,hk⟩|⟨hno,_⟩
  ·cases hvn;obtain⟨b1,b2,b3⟩:=box H2 g2 n hx hst2;exact⟨b1,b2,.inr ⟨n,rfl,.inl ⟨_,.c (.int .i64 n),_,g2,rfl,hk _ rfl,hst.trans (hst2.trans b3),.c _ _ (.int _ _)⟩⟩⟩
  ·exact absurd rfl (hno v)
end Go.AE.Y
namespace Go.AE.Y
open Go.Proofs.Tryz
variable {H H0:Heap}{K:V→Heap→Prop}{E B Lg:List (Nat×Obj)}
theorem IsIx.neg {ns:List Int}{v r:Int}(h:IsIx ns v r):decide (r<0) = !ns.contains v:=by
 rw[←h.nonneg];by_cases hr:r<0
 ·have:¬0≤r:=by omega
  simp[hr,this]
 ·have:0≤r:=by omega
  simp[hr,this]
theorem Qbbr {S:Nat→Bool}{a b a' b':V}(h:FrzV H S a a')(k:FrzV H S b b'):FrzV H S (.tup [a,b]) (.tup [a',b']):=by
 refine .tup _ _ rfl fun j x x' h1 h2=>?_
 match j with
 |0=>simp at h1 h2;subst h1;subst h2;exact h
 |1=>simp at h1 h2;subst h1;subst h2;exact k
 |j+2=>simp at h1
end Go.AE.Y
namespace Go.AE.Y
attribute [local go_sem] cond_true cond_false Bool.not_true Bool.not_false
attribute [local instance] Classical.propDecidable
open Go.Proofs.Tryz
variable {H H' H0:Heap}{K:V→Heap→Prop}{E A A' B Li:List (Nat×Obj)}{X:Rn}{r r':Rs}
def oO (e v:Int):Obj:=.st [.sl true 1 [],.int .i64 e,.int .i64 v,.sl true 1 []]
theorem Qbum (hw:RunW X.cs){l:List Int}{f2:Bool}{x8 x9:Nat}(hl:(l.length:Int)=(Qm X.cs (X.cs.length-1)).params)(hbl:byL l)
  (kn:Kn H0 H E (X.F r [(x8,.st [.ptr X.l 0]),(x9,oO 0 0)] B)) (hr:r.ok X) (hu:r.u=0) (hs:r.s=[]) (hc:r.c=Qbbf) (ht:r.t=[])
  (hK:∀v r' H',Kn H0 H' E (X.F r' [(x8,.st [.ptr X.l 0]),(x9,oO 0 v)] B)→r'.ok X→Goes X.cs X.S 0 (cf0 X.cs l) r'.u (.dn 0 v r'.s r'.c)→K (.tup []) H')
  (hP:∀e r' H',Kn H0 H' E (X.F r' [(x8,.st [.ptr X.l 0]),(x9,oO 0 0)] B)→r'.ok X→Halts X.cs X.S 0 (cf0 X.cs l) e r'.s r'.c→K (.pn (endV e)) H') :
  Qr prog Qhi [.c (.ptr x8 0),.c (.pp [.sl X.fl 3 (Qj X.cs)]),.c (.pp [.sl f2 1 (Qb l)]),.c (.ptr x9 0)] H K:=by
 have hn:=hw.n;have hn0:=hw.ro.n;refine Qc Qal Qafc ?_;have hx8:H x8=.st [.ptr X.l 0]:=kn.l 1 rfl;have hi1:((X.cs.length:Int)-1)=((X.cs.length-1:Nat):Int):=by omega
 refine Qt ?_;simp only[go_sem,hx8,Qo];try intro _
 refine⟨Qs (by omega) (by omega),?_⟩;rw[hi1];refine Qbbh hw (X.S+1) 0 (by omega) H0 H E ([(x8,.st [.ptr X.l 0]),(x9,oO 0 0)]++B) [] r (X.cs.length-1) l (.sl f2 1 (Qb l)) true [] _ (Ja4 _) (F_in kn) hr (by omega) (.inl ⟨rfl,f2,rfl⟩) hl hbl (by rw[ht];simp) (fun v r' H' kn' hr' hv _ _ hgo=>?_) (fun e r' H' kn' hr' _ hha=>?_)
 ·have kn':=Qbhk kn';have hx9:H' x9=.st [.sl true 1 [],.int .i64 0,.int .i64 0,.sl true 1 []]:=kn'.l 2 rfl;simp only[go_sem,Qkx,hx9];intro H2 h2;simp only[go_sem,Q5,Qae,Qto];refine hK v r' H2 (kn'.stL 2 rfl h2) hr' ?_;rw[hu,hs,hc]at hgo;exact hgo
 ·simp only[go_sem];refine hP e r' H' (Qbhk kn') hr' ?_;rw[hu,hs,hc]at hha;exact hha
def Rn.pc (X:Rn)(r:Rs):List C:=.sl X.fl 3 (Qj X.cs)::.int .i64 X.S::.int .i64 r.u::.sl false 1 (Qb r.s)::(Qj4 r.c++[.sl false 1 (Qb r.t)])
theorem Qbbq {S:Nat→Bool}{a b:C}(h:FrzC H S a b):∀l:List Int,FrzL H S (Qj4 l++[a]) (Qj4 l++[b])
 |[]=>.cons h .nil
 |v::l=>.cons (Qi rfl) (Qbbq h l)
theorem Qbwi {S:Nat→Bool}(hr:r.ok X)(hm:∀p∈[(X.l,X.o r)]++(r.so++r.tl),H p.1=p.2∧S p.1=true):FrzC H S (.ptr X.l 0) (.pp (X.pc r)):=by
 obtain⟨h1,h2⟩:=hm (X.l,X.o r) (by simp);refine FrzL.ptr h2 h1 ?_;refine .cons (Qi rfl) (.cons (Qi rfl) (.cons (Qi rfl) (.cons ?_ (Qbbq ?_ _))))
 ·exact Gr.frzM hr.gs (fun p hp=>hm p (by simp[hp])) (FrzR.same (Qz _))
 ·exact Gr.frzM hr.gt (fun p hp=>hm p (by simp[hp])) (FrzR.same (Qz _))
theorem Qbnt (l:List Int)(c:C)(n:Nat)(h:l.length=n):((Qj4 l++[c]).take n).map (fun c=>[c])=Qb l:=by
 subst h;rw[List.take_append_of_le_length (by simp[Qj4]),Jh (by simp[Qj4])];simp[Qj4,Qb]
theorem Qbta (l:List Int)(c:C)(n:Nat)(h:l.length=n):(Qj4 l++[c]).length=n+1:=by simp[Qj4,h]
set_option maxHeartbeats 8000000 in
theorem Qbks {cs:List CodeD}{fl f2:Bool}{l:List Int}{S:Nat}(hg:Qbr cs=true)(hl:(l.length:Int)=(Qm cs (cs.length-1)).params)(hbl:byL l)(hS:S≤60000)
  (hK:∀e v s c u H',outR cs l S=(e,v,s,c)→Upd H H' []→K (.tup [.ag [.sl false 1 (Qb s),.int .i64 e,.int .i64 v,.sl false 1 (Qb c)],.c (.pp u)]) H') :
  Qr prog Qnv [.ag [.sl fl 3 (Qj cs)],.c (.sl f2 1 (Qb l)),.c (.int .i64 S)] H K:=by
 have hw:=runW hg;refine Q3 ?_;refine Qc Qal Qaxp ?_;refine Qa ?_;simp only[go_sem];intro x6 hx6 H1 h1;have kn:Kn H H1 [] [(x6,oO 0 0)]:=(Kn.start0 H).al hx6 h1;simp only[go_sem,Quv];refine Qa ?_;simp only[go_sem];intro ml hml H2 h2;obtain⟨X,hX⟩:∃X:Rn,X=⟨ml,fl,cs,S⟩:=⟨_,rfl⟩;obtain⟨r0,hr0⟩:∃r0:Rs,r0=⟨0,[],Qbbf,[],.sl true 1 [],[],.sl true 1 [],[]⟩:=⟨_,rfl⟩;have kn:Kn H H2 [] (X.F r0 [(x6,oO 0 0)] []):=by
  subst hX;subst hr0;have k:Kn H H2 [] ([(x6,oO 0 0)]++[(ml,Rn.o ⟨ml,fl,cs,S⟩ ⟨0,[],Qbbf,[],.sl true 1 [],[],.sl true 1 [],[]⟩)]):=kn.al hml h2;exact k.perm (by simpa[Rn.F]using List.Perm.swap _ _ _)
 have hXl:X.l=ml:=by rw[hX]
 have hXf:X.fl=fl:=by rw[hX]
 have hXc:X.cs=cs:=by rw[hX]
 have hXS:X.S=S:=by rw[hX]
 have hrok:r0.ok X:=by
  subst hr0;exact⟨.nil 1,.nil 1,rfl,fun v hv=>by rw[Jt hv];exact⟨by omega,by omega⟩,fun v hv=>by simp at hv,Jp _,by simp,Ja4 _,by rw[hXS];exact hS⟩
 simp only[go_sem,Qux];intro x8 hx8 H3 h3;have kn:Kn H H3 [] (X.F r0 [(x6,oO 0 0),(x8,.st [.pnil])] []):=F_al (A:=[(x6,oO 0 0)]) (kn.al hx8 h3);have hx8:H3 x8=.st [.pnil]:=kn.l 2 rfl;simp only[go_sem,Quw,hx8];intro H4 h4;rw[←hXl]at h4;have kn:Kn H H4 [] (X.F r0 [(x6,oO 0 0),(x8,.st [.ptr X.l 0])] []):=kn.stL 2 rfl h4;refine Qa ?_;simp only[go_sem];intro x9 hx9 H5 h5;have kn:Kn H H5 [] (X.F r0 [(x6,oO 0 0),(x8,.st [.ptr X.l 0]),(x9,oO 0 0)] []):=F_al (A:=[(x6,oO 0 0),(x8,.st [.ptr X.l 0])]) (kn.al hx9 h5);refine Qd3 (fun e2 H2=>∃(e v:Int) (r1:Rs),Kn H H2 [] (X.F r1 [(x6,oO 0 0),(x8,.st [.ptr X.l 0]),(x9,oO e v)] [])∧r1.ok X∧outR cs l S=(e,v,r1.s,r1.c)∧lk 6 e2=.c (.ptr x6 0)∧lk 8 e2=.c (.ptr x8 0)∧lk 9 e2=.c (.ptr x9 0)) ?_ ?_
 ·intro Q' hQn hQr hQe;refine Qt ?_;simp only[go_sem];refine Qbm9 (by kernel_rfl) fun xe hxe H6 h6=>?_;have kn:Kn H H6 [] (X.F r0 [(x6,oO 0 0),(x8,.st [.ptr X.l 0]),(x9,oO 0 0),(xe,.st [.int .i64 0])] []):=F_al (A:=[(x6,oO 0 0),(x8,.st [.ptr X.l 0]),(x9,oO 0 0)]) (kn.al hxe h6);have kn:Kn H H6 [] (X.F r0 [(x8,.st [.ptr X.l 0]),(x9,oO 0 0)] [(x6,oO 0 0),(xe,.st [.int .i64 0])]):=kn.perm (Qp fun f hf h0 hc hp=>by
   show f ([(X.l,X.o r0)]++(([(x6,oO 0 0)]++([(x8,.st [.ptr X.l 0])]++([(x9,oO 0 0)]++[(xe,.st [.int .i64 0])])))++((r0.so++r0.tl)++[])))=f ([(X.l,X.o r0)]++(([(x8,.st [.ptr X.l 0])]++[(x9,oO 0 0)])++((r0.so++r0.tl)++([(x6,oO 0 0)]++[(xe,.st [.int .i64 0])]))));simp only[hf,h0];omega)
  have key:∀(e v:Int) (r1:Rs) (H7 H8:Heap),Kn H H7 [] (X.F r1 [(x8,.st [.ptr X.l 0]),(x9,oO 0 v)] [(x6,oO 0 0),(xe,.st [.int .i64 0])])→H8=H7.set xe (.st [.int .i64 e])→
    H7 xe=.st [.int .i64 0]∧Kn H H8 [] (X.F r1 [(x6,oO 0 0),(x8,.st [.ptr X.l 0]),(x9,oO 0 v)] []):=by
   intro e v r1 H7 H8 k h8;have k:Kn H H7 [] (X.F r1 [(x6,oO 0 0),(x8,.st [.ptr X.l 0]),(x9,oO 0 v),(xe,.st [.int .i64 0])] []):=k.perm (Qp fun f hf h0 hc hp=>by
    show f ([(X.l,X.o r1)]++(([(x8,.st [.ptr X.l 0])]++[(x9,oO 0 v)])++((r1.so++r1.tl)++([(x6,oO 0 0)]++[(xe,.st [.int .i64 0])]))))=f ([(X.l,X.o r1)]++(([(x6,oO 0 0)]++([(x8,.st [.ptr X.l 0])]++([(x9,oO 0 v)]++[(xe,.st [.int .i64 0])])))++((r1.so++r1.tl)++[])));simp only[hf,h0];omega)
   refine⟨k.l 4 rfl,?_⟩;have k2:Kn H H8 [] (X.F r1 [(x6,oO 0 0),(x8,.st [.ptr X.l 0]),(x9,oO 0 v),(xe,.st [.int .i64 e])] []):=k.stL 4 rfl h8;exact Qzh (A:=[(x6,oO 0 0),(x8,.st [.ptr X.l 0]),(x9,oO 0 v)]) (A':=[(xe,.st [.int .i64 e])]) k2
  have hl':(l.length:Int)=(Qm X.cs (X.cs.length-1)).params:=by rw[hXc];exact hl
  rw[←hXf,←hXc];refine Qbum (X:=X) (f2:=f2) (by rw[hXc];exact hw) hl' hbl kn hrok (by rw[hr0]) (by rw[hr0]) (by rw[hr0]) (by rw[hr0]) (fun v r1 H7 kn7 hr1 hgo=>?_) (fun e r1 H7 kn7 hr1 hha=>?_)
  ·refine⟨(key 0 v r1 H7 _ kn7 rfl).1,.inr ⟨by simp,fun H8 h8=>?_⟩⟩;have k:=(key 0 v r1 H7 H8 kn7 h8).2;have hx9:H8 x9=.st [.sl true 1 [],.int .i64 0,.int .i64 v,.sl true 1 []]:=k.l 3 rfl;simp only[go_sem,Qjp,hx9];intro H9 h9;have ho:=Qbpr hgo;rw[hXc,hXS]at ho;exact hQn _ _ ⟨0,v,r1,k.stL 3 rfl h9,hr1,ho,rfl,rfl,rfl⟩
  ·refine⟨(key e 0 r1 H7 _ kn7 rfl).1,.inl ⟨e,rfl,fun H8 h8=>?_⟩⟩;have k:=(key e 0 r1 H7 H8 kn7 h8).2;have hx9:H8 x9=.st [.sl true 1 [],.int .i64 0,.int .i64 0,.sl true 1 []]:=k.l 3 rfl;simp only[go_sem,Qjp,hx9];intro H9 h9;have ho:=Qbkf hha;rw[hXc,hXS]at ho;exact hQn _ _ ⟨e,0,r1,k.stL 3 rfl h9,hr1,ho,rfl,rfl,rfl⟩
 clear kn hx8;rintro e2 H6 ⟨e,v,r1,kn,hr1,ho,l6,l8,l9⟩;have kn:Kn H H6 [] ([(x6,oO 0 0),(x8,.st [.ptr X.l 0]),(x9,oO e v)]++([(X.l,X.o r1)]++(r1.so++r1.tl))):=kn.perm (Qp fun f hf h0 hc hp=>by simp only[Rn.F,hf,h0];omega);obtain⟨Sf,hfL,hfB,hfr,kn2⟩:=kn.freeze0;have hpc:=Qbwi hr1 hfL;have hx8:=hfB (x8,.st [.ptr X.l 0]) (by simp);have hfr2:FrzH H6 Sf ((H6.frz Sf).set x8 (.st [.pp (X.pc r1)])):=hfr.set hx8.2 (by rw[hx8.1];exact (FrzKL.cons rfl hpc .nil).st);have kn:Kn H ((H6.frz Sf).set x8 (.st [.pp (X.pc r1)])) [] [(x6,oO 0 0),(x8,.st [.pp (X.pc r1)]),(x9,oO e v)]:=kn2.setL 1 rfl (by nofun);obtain⟨H7,hH7⟩:∃H7,(H6.frz Sf).set x8 (.st [.pp (X.pc r1)])=H7:=⟨_,rfl⟩;rw[hH7]at hfr2 kn;refine Qaa ?_;refine c_gh (e':=[(6,.c (.ptr x6 0)),(8,.c (.ptr x8 0)),(9,.c (.ptr x9 0))]) (H':=H7) (Qgc Sf (Qash fun p hp=>?_) hfr2) ?_
 ·simp only[Jq,J4,or_false]at hp;rcases hp with rfl|rfl|rfl
  ·rw[l6];exact .c _ _ (.same _ rfl)
  ·rw[l8];exact .c _ _ (.same _ rfl)
  ·rw[l9];exact .c _ _ (.same _ rfl)
 have hx8:H7 x8=.st [.pp (.sl X.fl 3 (Qj X.cs)::.int .i64 X.S::.int .i64 r1.u::.sl false 1 (Qb r1.s)::(Qj4 r1.c++[.sl false 1 (Qb r1.t)]))]:=kn.l 1 rfl;have hlen:=Qbta r1.c (.sl false 1 (Qb r1.t)) 16 hr1.c;have hrow:=Qbnt r1.c (.sl false 1 (Qb r1.t)) 16 hr1.c;have hcl:=hr1.c;refine Qaj ?_;simp only[go_sem,hx8,hlen,hrow];refine⟨by simp only[LIM];omega,?_⟩;refine Q42 kn (by simp only[LIM];omega) fun t Lg H8 hgr how kn=>?_;have hx8:H8 x8=.st [.pp (.sl X.fl 3 (Qj X.cs)::.int .i64 X.S::.int .i64 r1.u::.sl false 1 (Qb r1.s)::(Qj4 r1.c++[.sl false 1 (Qb r1.t)]))]:=kn.l 1 rfl;have hx9:H8 x9=.st [.sl true 1 [],.int .i64 e,.int .i64 v,.sl true 1 []]:=kn.l 2 rfl;simp only[go_sem,Quz,hx8,hx9,how];intro H9 h9;have kn:Kn H H9 [] ([(x6,oO 0 0),(x8,.st [.pp (X.pc r1)]),(x9,.st [.sl false 1 (Qb r1.s),.int .i64 e,.int .i64 v,.sl true 1 []])]++Lg):=kn.stL 2 rfl h9;have hx9:H9 x9=.st [.sl false 1 (Qb r1.s),.int .i64 e,.int .i64 v,.sl true 1 []]:=kn.l 2 rfl;simp only[go_sem,Quy,hx9,how];intro H10 h10;have kn:Kn H H10 [] ([(x6,oO 0 0),(x8,.st [.pp (X.pc r1)]),(x9,.st [.sl false 1 (Qb r1.s),.int .i64 e,.int .i64 v,t])]++Lg):=kn.stL 2 rfl h10;have hx6:H10 x6=.st [.sl true 1 [],.int .i64 0,.int .i64 0,.sl true 1 []]:=kn.l 0 rfl;have hx8:H10 x8=.st [.pp (.sl X.fl 3 (Qj X.cs)::.int .i64 X.S::.int .i64 r1.u::.sl false 1 (Qb r1.s)::(Qj4 r1.c++[.sl false 1 (Qb r1.t)]))]:=kn.l 1 rfl;have hx9:H10 x9=.st [.sl false 1 (Qb r1.s),.int .i64 e,.int .i64 v,t]:=kn.l 2 rfl;refine Qaj ?_;simp only[go_sem,hx6,hx8,hx9,how];intro H11 h11;have kn:Kn H H11 [] ([(x6,.st [.sl false 1 (Qb r1.s),.int .i64 e,.int .i64 v,t]),(x8,.st [.pp (X.pc r1)]),(x9,.st [.sl false 1 (Qb r1.s),.int .i64 e,.int .i64 v,t])]++Lg):=kn.stL 0 rfl h11;have hx6:H11 x6=.st [.sl false 1 (Qb r1.s),.int .i64 e,.int .i64 v,t]:=kn.l 0 rfl;have hx8:H11 x8=.st [.pp (.sl X.fl 3 (Qj X.cs)::.int .i64 X.S::.int .i64 r1.u::.sl false 1 (Qb r1.s)::(Qj4 r1.c++[.sl false 1 (Qb r1.t)]))]:=kn.l 1 rfl;simp only[go_sem,Qu0,hx8,how];refine Qk ?_;simp only[go_sem,Q5,Qae,Q8c,J5,RS.op,hx6,how];refine⟨_,Qbbr (FrzL.ag (.cons (Qi rfl) (.cons (Qi rfl) (.cons (Qi rfl) (.cons (hgr.frz kn (Qz _)) .nil))))) (.c _ _ (Qi rfl)),?_⟩;exact hK e v r1.s r1.c _ _ ho kn.fin
end Go.AE.Y
namespace Go.AE.Y
open Go.Proofs.Tryz
def Qqg:List Item:=[gF 45 39 (.not (.t 44)),pT 46 39 45]
def Qajx:SC:=cT 46 (sR [fB 4 false] [4] .ret) .skip
def Qqh:List Item:=[gF 81 67 (.not (.t 80)),pT 82 67 81]
def Qajy:SC:=cT 82 (sR [fB 4 false] [4] .ret) .skip
def Qajz:SC:=.reg [mJ 52 5,cJ 53 .add 52 1,mJ 5 53] [2,3,5]
def Qaj0:SC:=.seq (.block 1 (.seq (.dreg 29 [0,1,2,3,4,5,6,7,8,9,10,11,12,13,14,15,16,17,18,19,20,21,22,23,24,25,26,27,28] ( fJ 54 0 2::lJ 55 54::mJ 56 5::iJ 57 2 55 56::fJ 58 0 57::lJ 59 58::fJ 60 0 3::lJ 61 60::mJ 62 5::iJ 63 2 61 62::fJ 64 0 63::lJ 65 64::bJ 66 .neq 59 65::mJ 67 66::gFf 68 67 0 2::gFl 69 67 68::gFm 70 67 5::gF 71 67 (.iad 2 (.t 69) (.t 70))::gFf 72 67 1 71::gFl 73 67 72::gFf 74 67 0 3::gFl 75 67 74::gFm 76 67 5::gF 77 67 (.iad 2 (.t 75) (.t 76))::gFf 78 67 1 77::gFl 79 67 78::.e (some 80) (some (67,false)) (.call Qsx [.t 73,.t 79])::Qqh) [2,3,5,82]) Qajy)) Qajz
def Qac3:SC:=.seq (sR [mJ 47 5,fJ 48 0 2,lJ 49 48,nJ 50 49,bJ 51 .lss 47 50] [2,3,5,51] (cT 51 .skip (.exit 0))) Qaj0
def Qqi:List Item:=[sJ 4 7 94]
def Qqj:List Item:=[sJ 4 8 99]
def Qqk:List Item:=[gF 125 119 (.not (.t 124)),pT 126 119 125]
def Qacu:SC:=cT 126 (sR [fB 4 false] [4] .ret) .skip
def Qacv:SC:=sR (fJ 100 0 7::lJ 101 100::fJ 102 0 8::lJ 103 102::bJ 104 .neq 101 103::mJ 105 104::gFf 106 105 1 7::gFl 107 105 106::gFf 108 105 1 8::gFl 109 105 108::gF 110 105 (.bin 0 .neq (.t 107) (.t 109))::pT 111 105 110::mJ 112 111::gFf 113 112 3 7::gFl 114 112 113::gFf 115 112 3 8::gFl 116 112 115::gF 117 112 (.bin 0 .neq (.t 114) (.t 116))::pT 118 112 117::mJ 119 118::gFf 120 119 2 7::gFl 121 119 120::gFf 122 119 2 8::gFl 123 119 122::.e (some 124) (some (119,false)) (.call Qsx [.t 121,.t 123])::Qqk) [2,3,6,126] Qacu
def Qacw:SC:=sR (fJ 95 1 3::lJ 96 95::mJ 97 6::iJ 98 4 96 97::tJ 99 4 98::eI 8 (.alloc [.int .i64 0,.int .i64 0,.sl true 1 [],.int .i64 0])::Qqj) [2,3,6,7,8] Qacv
def Qacx:SC:=.reg [mJ 88 6,cJ 89 .add 88 1,mJ 6 89] [2,3,6]
def Qacy:SC:=.seq (.block 3 (sR (fJ 90 1 2::lJ 91 90::mJ 92 6::iJ 93 4 91 92::tJ 94 4 93::eI 7 (.alloc [.int .i64 0,.int .i64 0,.sl true 1 [],.int .i64 0])::Qqi) [2,3,6,7] Qacw)) Qacx
def Q7i:SC:=.seq (sR [mJ 83 6,fJ 84 1 2,lJ 85 84,nJ 86 85,bJ 87 .lss 83 86] [2,3,6,87] (cT 87 .skip (.exit 2))) Qacy
def Qacz:SC:=sR [fB 4 true] [4] .ret
def Qac0:SC:=.seq (sR [zJ 6 0] [2,3,6] (bL 2 Q7i)) Qacz
def Qac1:SC:=.seq (sR [zJ 5 0] [2,3,5] (bL 0 Qac3)) Qac0
def Qac2:SC:=.seq (sR (fJ 9 0 2::lJ 10 9::nJ 11 10::fJ 12 0 3::lJ 13 12::nJ 14 13::bJ 15 .neq 11 14::mJ 16 15::gFf 17 16 1 2::gFl 18 16 17::gF 19 16 (.len (.t 18))::gFf 20 16 1 3::gFl 21 16 20::gF 22 16 (.len (.t 21))::gF 23 16 (.bin 0 .neq (.t 19) (.t 22))::pT 24 16 23::mJ 25 24::gFf 26 25 2 2::gFl 27 25 26::gFf 28 25 2 3::gFl 29 25 28::gF 30 25 (.bin 0 .neq (.t 27) (.t 29))::pT 31 25 30::mJ 32 31::gFf 33 32 3 2::gFl 34 32 33::gFf 35 32 3 3::gFl 36 32 35::gF 37 32 (.bin 0 .neq (.t 34) (.t 36))::pT 38 32 37::mJ 39 38::gFf 40 39 4 2::gFl 41 39 40::gFf 42 39 4 3::gFl 43 39 42::.e (some 44) (some (39,false)) (.call Qsx [.t 41,.t 43])::Qqg) [2,3,46] Qajx) Qac1
def Qavl:SC:=sR [vJ 2 0,vJ 3 1,fB 4 false] [2,3] Qac2
def Q26:List RS:=[.tmp 4]
theorem Qata:mFn prog Qla 2 127 Qavl Q26=true:=by kernel_rfl
def Qapk:SC:=cT 26 (sR [fB 4 false] [4] .ret) .skip
def Qwr:List Item:=[oJ 45 44]
def Qapl:SC:=cT 45 (sR [fB 4 false] [4] .ret) .skip
def Qapm:SC:=.reg [mJ 32 5,cJ 33 .add 32 1,mJ 5 33] [2,3,5]
def Qapn:SC:=.seq (.block 1 (.seq (.dreg 12 [0,1,2,3,4,5,6,7,8,9,10,11] ( fJ 34 2 2::lJ 35 34::mJ 36 5::iJ 37 5 35 36::tJ 38 5 37::fJ 39 2 3::lJ 40 39::mJ 41 5::iJ 42 5 40 41::tJ 43 5 42::aJ 44 Qla [.t 38,.t 43]::Qwr) [2,3,5,45]) Qapl)) Qapm
def Qaj1:SC:=.seq (sR [mJ 27 5,fJ 28 2 2,lJ 29 28,nJ 30 29,bJ 31 .lss 27 30] [2,3,5,31] (cT 31 .skip (.exit 0))) Qapn
def Qapo:SC:=sR [fB 4 true] [4] .ret
def Qapp:SC:=.seq (sR [zJ 5 0] [2,3,5] (bL 0 Qaj1)) Qapo
def Qapq:SC:=.seq (sR [fJ 6 0 2,lJ 7 6,fJ 8 0 3,lJ 9 8,bJ 10 .neq 7 9,mJ 11 10,gFf 12 11 1 2,gFl 13 11 12,gFf 14 11 1 3,gFl 15 11 14,gF 16 11 (.bin 0 .neq (.t 13) (.t 15)),pT 17 11 16,mJ 18 17,gFf 19 18 2 2,gFl 20 18 19,gF 21 18 (.len (.t 20)),gFf 22 18 2 3,gFl 23 18 22,gF 24 18 (.len (.t 23)),gF 25 18 (.bin 0 .neq (.t 21) (.t 24)),pT 26 18 25] [2,3,26] Qapk) Qapp
def Qa2c:SC:=sR [vJ 2 0,vJ 3 1,fB 4 false] [2,3] Qapq
def Q8h:List RS:=[.tmp 4]
theorem Qaxx:mFn prog Qn1 2 46 Qa2c Q8h=true:=by kernel_rfl
def Qbfy:SC:=cT 10 (sR [fB 4 false] [4] .ret) .skip
def Qbfz:SC:=cT 25 (sR [fB 4 false] [4] .ret) .skip
def Qbf0:SC:=.reg [mJ 15 5,cJ 16 .add 15 1,mJ 5 16] [0,1,5]
def Qbf1:SC:=.seq (.block 1 (.seq (.dreg 9 [0,1,2,3,4,5,6,7,8] ( mJ 17 0::mJ 18 5::iJ 19 1 17 18::lJ 20 19::mJ 21 1::mJ 22 5::iJ 23 1 21 22::lJ 24 23::bJ 25 .neq 20 24::[]) [0,1,5,25]) Qbfz)) Qbf0
def Qa8m:SC:=.seq (sR [mJ 11 5,mJ 12 0,nJ 13 12,bJ 14 .lss 11 13] [0,1,5,14] (cT 14 .skip (.exit 0))) Qbf1
def Qbf2:SC:=sR [fB 4 true] [4] .ret
def Qbf3:SC:=.seq (sR [zJ 5 0] [0,1,5] (bL 0 Qa8m)) Qbf2
def Qbf4:SC:=.seq (sR [mJ 6 0,nJ 7 6,mJ 8 1,nJ 9 8,bJ 10 .neq 7 9] [0,1,10] Qbfy) Qbf3
def Qbqd:SC:=sR [fB 4 false] [0,1] Qbf4
def Qbb9:List RS:=[.tmp 4]
theorem Qbo7:mFn prog Qsx 2 26 Qbqd Qbb9=true:=by kernel_rfl
def Qa3h:SC:=cT 10 (sR [fB 4 false] [4] .ret) .skip
def Qa3i:SC:=cT 24 (sR [fB 4 false] [4] .ret) .skip
def Qa3j:SC:=.seq (.dreg 9 [0,1,2,3,4,5,6,7,8] ( mJ 16 0::mJ 17 5::iJ 18 1 16 17::lJ 19 18::mJ 20 1::mJ 21 5::iJ 22 1 20 21::lJ 23 22::bJ 24 .neq 19 23::[]) [0,1,12,13,24]) Qa3i
def Qa3k:SC:=.reg [cJ 25 .add 13 1,mJ 13 25] [0,1,12,13]
def Qa3l:SC:=.seq (.block 1 (sR [mJ 15 13,mJ 5 15] [0,1,5,12,13] Qa3j)) Qa3k
def Qav8:SC:=sR [bJ 14 .lss 13 12] [0,1,12,13,14] (cX 14 0 Qa3l)
def Qa3m:SC:=sR [fB 4 true] [4] .ret
def Qa3n:SC:=.seq (sR [mJ 11 0,nJ 12 11,zJ 13 0] [0,1,12,13] (bL 0 Qav8)) Qa3m
def Qa3o:SC:=.seq (sR [mJ 6 0,nJ 7 6,mJ 8 1,nJ 9 8,bJ 10 .neq 7 9] [0,1,10] Qa3h) Qa3n
def Qbha:SC:=sR [fB 4 false] [0,1] Qa3o
def Qarl:List RS:=[.tmp 4]
theorem Qbet:mFn prog Qn5 2 26 Qbha Qarl=true:=by kernel_rfl
def Qade:SC:=cT 12 (sR [fB 4 false] [4] .ret) .skip
def Qng:List Item:=[oJ 31 30]
def Qadf:SC:=cT 31 (sR [fB 4 false] [4] .ret) .skip
def Qadg:SC:=.reg [mJ 18 5,cJ 19 .add 18 1,mJ 5 19] [2,3,5]
def Qadh:SC:=.seq (.block 1 (.seq (.dreg 12 [0,1,2,3,4,5,6,7,8,9,10,11] ( fJ 20 0 2::lJ 21 20::mJ 22 5::iJ 23 3 21 22::tJ 24 3 23::fJ 25 0 3::lJ 26 25::mJ 27 5::iJ 28 3 26 27::tJ 29 3 28::aJ 30 Qn1 [.t 24,.t 29]::Qng) [2,3,5,31]) Qadf)) Qadg
def Q7q:SC:=.seq (sR [mJ 13 5,fJ 14 0 2,lJ 15 14,nJ 16 15,bJ 17 .lss 13 16] [2,3,5,17] (cT 17 .skip (.exit 0))) Qadh
def Qadi:SC:=sR [fB 4 true] [4] .ret
def Qadj:SC:=.seq (sR [zJ 5 0] [2,3,5] (bL 0 Q7q)) Qadi
def Qadk:SC:=.seq (sR [fJ 6 0 2,lJ 7 6,nJ 8 7,fJ 9 0 3,lJ 10 9,nJ 11 10,bJ 12 .neq 8 11] [2,3,12] Qade) Qadj
def Qaqv:SC:=sR [vJ 2 0,vJ 3 1,fB 4 false] [2,3] Qadk
def Qzr:List RS:=[.tmp 4]
theorem Qam0:mFn prog Qeu 2 32 Qaqv Qzr=true:=by kernel_rfl
def Q88:List Item:=[mJ 4 9]
def Q89:List Item:=sJ 3 3 8::Q88
def Q9a:List Item:=mJ 5 7::fI 8 (.ext (.t 5) 0)::fI 9 (.ext (.t 5) 1)::eI 3 (.alloc [.int .i64 0,.int .i64 0,.sl true 5 []])::Q89
def Q9b:List Item:=[mJ 4 15]
def Q9c:List Item:=mJ 11 13::fI 14 (.ext (.t 11) 0)::fI 15 (.ext (.t 11) 1)::sJ 3 3 14::Q9b
def Qa6g:SC:=.block 1 (.reg (tJ 12 3 3::aJ 13 Qxu [.t 12]::Q9c) [2,3,4])
def Qazx:SC:=.seq (sR [mJ 10 4] [2,3,10] (cT 10 .skip (.exit 0))) Qa6g
def Qa6h:SC:=sR [tJ 16 3 3,sJ 3 2 16] [2] .ret
def Qa6i:SC:=sR (tJ 6 3 1::aJ 7 Qxu [.t 6]::Q9a) [2,3,4] (.seq (bL 0 Qazx) Qa6h)
def Qbk6:SC:=sR [vJ 1 0,eI 2 (.alloc [.int .i64 0,.int .i64 0,.sl true 5 []])] [1,2] Qa6i
def Qaya:List RS:=[.cell 2 3 true]
theorem Qbjq:mFn prog Q5d 1 17 Qbk6 Qaya=true:=by kernel_rfl
def Q9p:List Item:=[fB 3 false]
def Q9q:List Item:=[sJ 2 4 15]
def Q9r:List Item:=eI 4 (.alloc [.sl true 1 [],.sl true 1 []])::Q9q
def Q9s:List Item:=[sJ 3 5 17]
def Q9t:List Item:=eI 5 (.alloc [.int .i64 0,.int .i64 0,.sl true 5 []])::Q9s
def Q9u:List Item:=[mJ 8 28]
def Q9v:List Item:=[mJ 9 32]
def Q9w:List Item:=[mJ 10 69]
def Qa62:SC:=cT 57 (.reg (mJ 58 10::fJ 59 2 5::lJ 60 59::mJ 61 7::iJ 62 5 60 61::fJ 63 0 62::lJ 64 63::mJ 65 11::iJ 66 2 64 65::tJ 67 2 66::fI 68 (.bsl 2 [.t 67])::xJ 69 2 58 68::Q9w) [1,2,4,5,6,7,8,9,10,11]) .skip
def Qa63:SC:=.reg [mJ 43 11,cJ 44 .add 43 1,mJ 11 44] [1,2,4,5,6,7,8,9,10,11]
def Qa0t:SC:=.seq (.block 3 (sR [mJ 45 9,fJ 46 2 1,lJ 47 46,mJ 48 7,iJ 49 5 47 48,fJ 50 0 49,lJ 51 50,mJ 52 11,iJ 53 2 51 52,fJ 54 0 53,lJ 55 54,iJ 56 1 45 55,lJ 57 56] [1,2,4,5,6,7,8,9,10,11,57] Qa62)) Qa63
def Qau4:SC:=.seq (sR [mJ 34 11,fJ 35 2 1,lJ 36 35,mJ 37 7,iJ 38 5 36 37,fJ 39 0 38,lJ 40 39,nJ 41 40,bJ 42 .lss 34 41] [1,2,4,5,6,7,8,9,10,11,42] (cT 42 .skip (.exit 2))) Qa0t
def Q4f:List Item:=[cJ 85 .lss 84 0]
def Q4g:List Item:=[mJ 12 97]
def Qa0u:SC:=cT 85 (.reg (mJ 86 12::fJ 87 2 5::lJ 88 87::mJ 89 7::iJ 90 5 88 89::fJ 91 1 90::lJ 92 91::mJ 93 13::iJ 94 4 92 93::tJ 95 4 94::fI 96 (.bsl 4 [.t 95])::xJ 97 4 86 96::Q4g) [1,2,4,5,6,7,8,10,12,13]) .skip
def Qa0v:SC:=.reg [mJ 80 13,cJ 81 .add 80 1,mJ 13 81] [1,2,4,5,6,7,8,10,12,13]
def Qa0w:SC:=.seq (.block 5 (sR (mJ 82 8::mJ 83 13::aJ 84 Qadt [.t 82,.t 83]::Q4f) [1,2,4,5,6,7,8,10,12,13,85] Qa0u)) Qa0v
def Qau5:SC:=.seq (sR [mJ 71 13,fJ 72 2 1,lJ 73 72,mJ 74 7,iJ 75 5 73 74,fJ 76 1 75,lJ 77 76,nJ 78 77,bJ 79 .lss 71 78] [1,2,4,5,6,7,8,10,12,13,79] (cT 79 .skip (.exit 4))) Qa0w
def Qa0x:SC:=.reg [fJ 129 2 5,lJ 130 129,mJ 131 7,mJ 132 12,iJ 133 5 130 131,fJ 134 1 133,sJ 1 134 132] [1,2,4,5,6,7]
def Q9o:SC:=sR [fJ 123 2 5,lJ 124 123,mJ 125 7,mJ 126 10,iJ 127 5 124 125,fJ 128 0 127,sJ 1 128 126] [1,2,4,5,6,7,12] Qa0x
def Qa0y:SC:=sR [mJ 98 6,mJ 99 98,gFm 100 99 12,gF 101 99 (.len (.t 100)),gFf 102 99 2 1,gFl 103 99 102,gFm 104 99 7,gF 105 99 (.iad 5 (.t 103) (.t 104)),gFf 106 99 1 105,gFl 107 99 106,gF 108 99 (.len (.t 107)),gF 109 99 (.bin 0 .lss (.t 101) (.t 108)),pT 110 99 109,mJ 111 110,gFm 112 111 10,gF 113 111 (.len (.t 112)),gFf 114 111 2 1,gFl 115 111 114,gFm 116 111 7,gF 117 111 (.iad 5 (.t 115) (.t 116)),gFf 118 111 0 117,gFl 119 111 118,gF 120 111 (.len (.t 119)),gF 121 111 (.bin 0 .lss (.t 113) (.t 120)),pT 122 111 121,mJ 6 122] [1,2,4,5,6,7,10,12] Q9o
def Qa0z:SC:=.seq (sR [zJ 13 0] [1,2,4,5,6,7,8,10,12,13] (bL 4 Qau5)) Qa0y
def Qa00:SC:=sR [fI 70 (.bsl 4 []),mJ 12 70] [1,2,4,5,6,7,8,10,12] Qa0z
def Qa01:SC:=.seq (sR [zJ 11 0] [1,2,4,5,6,7,8,9,10,11] (bL 2 Qau4)) Qa00
def Qa02:SC:=sR [fI 33 (.bsl 2 []),mJ 10 33] [1,2,4,5,6,7,8,9,10] Qa01
def Qa03:SC:=sR (tJ 29 3 1::tJ 30 2 4::mJ 31 7::aJ 32 Qc5 [.t 29,.t 30,.t 31,kI (-1)]::Q9v) [1,2,4,5,6,7,8,9] Qa02
def Qa04:SC:=.reg [mJ 23 7,cJ 24 .add 23 1,mJ 7 24] [1,2,4,5,6,7]
def Qa05:SC:=.seq (.block 1 (sR (tJ 25 3 1::tJ 26 2 4::mJ 27 7::aJ 28 Q5f [.t 25,.t 26,.t 27]::Q9u) [1,2,4,5,6,7,8] Qa03)) Qa04
def Qau6:SC:=.seq (sR [mJ 18 7,fJ 19 2 1,lJ 20 19,nJ 21 20,bJ 22 .lss 18 21] [1,2,4,5,6,7,22] (cT 22 .skip (.exit 0))) Qa05
def Q4h:List Item:=[mJ 3 136]
def Qa06:SC:=sR (tJ 135 3 5::mJ 136 6::sJ 3 2 135::Q4h) [2,3] .ret
def Qa07:SC:=.seq (sR [zJ 7 0] [1,2,4,5,6,7] (bL 0 Qau6)) Qa06
def Qa08:SC:=sR [fB 6 false] [1,2,4,5,6] Qa07
def Qa09:SC:=sR (tJ 16 3 1::aJ 17 Ql6 [.t 16]::Q9t) [1,2,4,5] Qa08
def Qa1a:SC:=sR (tJ 14 3 1::aJ 15 Ql3 [.t 14]::Q9r) [1,2,4] Qa09
def Qblb:SC:=sR (vJ 1 0::eI 2 (.alloc [.int .i64 0,.int .i64 0,.sl true 5 []])::Q9p) [1,2] Qa1a
def Qayf:List RS:=[.cell 2 3 true,.tmp 3]
theorem Qbjv:mFn prog Qxu 1 137 Qblb Qayf=true:=by kernel_rfl
def Qhy:List Item:=[sJ 1 2 5]
def Qhz:List Item:=aJ 5 Qxt [.t 4]::Qhy
def Q19:SC:=sR (mJ 3 0::aJ 4 Qxw [.t 3]::Qhz) [2] .ret
def Q7l:SC:=sR [eI 2 (.alloc [.sl true 3 []])] [0,2] Q19
def Qmo:List RS:=[.cell 2 1 true]
theorem Q5u:mFn prog Qes 1 6 Q7l Qmo=true:=by kernel_rfl
def Qq0:List Item:=[fB 3 false]
def Qq1:List Item:=[mJ 3 7]
def Qq2:List Item:=fI 6 (.ext (.t 5) 0)::fI 7 (.ext (.t 5) 1)::sJ 1 2 6::Qq1
def Qal5:SC:=sR (tJ 4 1 1::eI 5 (.call Q49 [.t 4,.k (.c (.str [105,100,108,101]))])::Qq2) [2,3] .ret
def Qawa:SC:=sR (vJ 1 0::eI 2 (.alloc [.sl true 3 []])::Qq0) [1,2] Qal5
def Q3a:List RS:=[.cell 2 1 true,.tmp 3]
theorem Qatf:mFn prog Qld 1 8 Qawa Q3a=true:=by kernel_rfl
end Go.AE.Y
namespace Go.AE.Y
attribute [local go_sem] cond_true cond_false Bool.not_true Bool.not_false
open Go.Proofs.Tryz
variable {H H0:Heap}{K:V→Heap→Prop}
theorem Qa3x {f g:Bool}{ns:List Int}(hK:K (.c (.bool true)) H):Qr prog Qn5 [.c (.sl f 1 (Qb ns)),.c (.sl g 1 (Qb ns))] H K:=by
 refine Qc Qal Qbet ?_;refine Qa ?_;simp only[go_sem];refine Qaa ?_;refine Qa ?_;simp only[go_sem,Qf,decide_true];intro hl;try intro _
 simp only[LIM]at hl;refine Qh (Qd rfl ?_ ?_)
 ·intro h;simp at h
 intro _;refine Qg ?_;try simp only[go_sem]
 refine Qaa ?_;refine Qa ?_;simp only[go_sem,Qf];try intro _
 refine Qh (Qe (Qx (fun m e1 H1=>∃(i:Nat),m=ns.length-i∧i≤ns.length∧H1=H∧lk 0 e1=.c (.sl f 1 (Qb ns))∧lk 1 e1=.c (.sl g 1 (Qb ns))∧lk 12 e1=.c (.int .i64 ns.length)∧lk 13 e1=.c (.int .i64 i)) ns.length ?_ ?_))
 ·exact⟨0,by omega,by omega,rfl,rfl,rfl,rfl,rfl⟩
 ·rintro m e1 H1 ⟨i,hm,hi,rfl,l0,l1,l12,l13⟩;refine Qa ?_;simp only[go_sem,l0,l1,l12,l13];refine Qh (Qd rfl ?_ ?_)
  ·intro hc;have hlt:i<ns.length:=by simpa using hc
   refine Qg ?_;try simp only[go_sem]
   refine Qh (Qe ?_);refine Qa ?_;simp only[go_sem,l0,l1,l12,l13];refine Qaj ?_;simp only[go_sem,l0,l1,l12,l13,hlt,Qf,Qu _ _ hlt,decide_true];refine Qd rfl ?_ ?_
   ·intro h;simp at h
   intro _;refine Qg ?_;try simp only[go_sem]
   refine Qt ?_;simp only[go_sem,l0,l1,l12,l13];refine⟨Qs (by omega) (by omega),?_⟩;show ∃m,_;exact⟨ns.length-(i+1),by omega,i+1,rfl,by omega,rfl,rfl,rfl,rfl,rfl⟩
  ·intro hc;refine Qw ?_;simp only[go_sem,X.next];refine Qa ?_;simp only[go_sem];refine Qk ?_;simp only[go_sem,Q5,Qae,Qarl,Jb,forall_eq,RS.op];exact hK
theorem Qass {f g:Bool}{ns:List Int}(hK:K (.c (.bool true)) H):Qr prog Qsx [.c (.sl f 1 (Qb ns)),.c (.sl g 1 (Qb ns))] H K:=by
 refine Qc Qal Qbo7 ?_;refine Qa ?_;simp only[go_sem];refine Qaa ?_;refine Qa ?_;simp only[go_sem,Qf,decide_true];intro hl;try intro _
 simp only[LIM]at hl;refine Qh (Qd rfl ?_ ?_)
 ·intro h;simp at h
 intro _;refine Qg ?_;try simp only[go_sem]
 refine Qaa ?_;refine Qa ?_;simp only[go_sem,Qf];try intro _
 refine Qh (Qe (Qx (fun m e1 H1=>∃(i:Nat),m=ns.length-i∧i≤ns.length∧H1=H∧lk 0 e1=.c (.sl f 1 (Qb ns))∧lk 1 e1=.c (.sl g 1 (Qb ns))∧lk 5 e1=.c (.int .i64 i)) ns.length ?_ ?_))
 ·exact⟨0,by omega,by omega,rfl,rfl,rfl,rfl⟩
 ·rintro m e1 H1 ⟨i,hm,hi,rfl,l0,l1,l5⟩;refine Qaa ?_;refine Qa ?_;simp only[go_sem,l0,l1,l5,Qf];try intro _
  refine Qh (Qd rfl ?_ ?_)
  ·intro hc;have hlt:i<ns.length:=by simpa using hc
   refine Qg ?_;try simp only[go_sem]
   refine Qh (Qe ?_);refine Qaj ?_;simp only[go_sem,l0,l1,l5,hlt,Qf,Qu _ _ hlt,decide_true];refine Qd rfl ?_ ?_
   ·intro h;simp at h
   intro _;refine Qg ?_;try simp only[go_sem]
   refine Qt ?_;simp only[go_sem,l0,l1,l5];refine⟨Qs (by omega) (by omega),?_⟩;show ∃m,_;exact⟨ns.length-(i+1),by omega,i+1,rfl,by omega,rfl,rfl,rfl,rfl⟩
  ·intro hc;refine Qw ?_;simp only[go_sem,X.next];refine Qa ?_;simp only[go_sem];refine Qk ?_;simp only[go_sem,Q5,Qae,Qbb9,Jb,forall_eq,RS.op];exact hK
set_option maxHeartbeats 4000000 in
theorem Qasu {p:BlkD}(hK:∀H',Upd H H' []→K (.c (.bool true)) H'):Qr prog Qla [.ag p.cells,.ag p.cells] H K:=by
 refine Q3 ?_;refine Qc Qal Qata ?_;refine Qa ?_;simp only[go_sem,BlkD.cells];refine Qaa ?_;refine Qa ?_;simp only[go_sem,Qv,Q4,decide_true];intro hlp hli;simp only[LIM]at hlp hli;refine Qass ?_;simp only[go_sem,Qqg];refine Qh (Qd rfl ?_ ?_)
 ·intro h;simp at h
 intro _;refine Qg ?_;try simp only[go_sem]
 refine Qaa ?_;refine Qa ?_;simp only[go_sem];refine Qh (Qe (Qx (fun m e1 H1=>∃(i:Nat),m=p.phis.length-i∧i≤p.phis.length∧H1=H∧lk 2 e1=.c (.pp p.cells)∧lk 3 e1=.c (.pp p.cells)∧lk 5 e1=.c (.int .i64 i)) p.phis.length ?_ ?_))
 ·exact⟨0,by omega,by omega,rfl,rfl,rfl,rfl⟩
 ·rintro m e1 H1 ⟨i,hm,hi,rfl,l2,l3,l5⟩;simp only[BlkD.cells]at l2 l3;refine Qaa ?_;refine Qa ?_;simp only[go_sem,l2,l3,l5,Qv];try intro _
  refine Qh (Qd rfl ?_ ?_)
  ·intro hc;have hlt:i<p.phis.length:=by simpa using hc
   obtain⟨x,hx⟩:∃x,p.phis[i]=x:=⟨_,rfl⟩;refine Qg ?_;try simp only[go_sem]
   refine Qh (Qe ?_);refine Qaj ?_;simp only[go_sem,l2,l3,l5,hlt,Qv,Qau _ _ hlt,hx,PhiD.cells,decide_true];refine Qass ?_;simp only[go_sem,Qqh];refine Qd rfl ?_ ?_
   ·intro h;simp at h
   intro _;refine Qg ?_;try simp only[go_sem]
   refine Qt ?_;simp only[go_sem,l2,l3,l5];refine⟨Qs (by omega) (by omega),?_⟩;show ∃m,_;exact⟨p.phis.length-(i+1),by omega,i+1,rfl,by omega,rfl,rfl,rfl,rfl⟩
  ·intro hc;refine Qw ?_;simp only[go_sem,X.next];refine Qaa ?_;refine Qa ?_;simp only[go_sem,l2,l3];refine Qh (Qe (Qx (fun m e1 H2=>∃(i:Nat),m=p.ins.length-i∧i≤p.ins.length∧Kn H1 H2 [] []∧lk 2 e1=.c (.pp p.cells)∧lk 3 e1=.c (.pp p.cells)∧lk 6 e1=.c (.int .i64 i)) p.ins.length ?_ ?_))
   ·exact⟨0,by omega,by omega,.start0 H1,rfl,rfl,rfl⟩
   ·clear l2 l3 l5;rintro m e1 H2 ⟨i,hm,hi,kn,l2,l3,l6⟩;simp only[BlkD.cells]at l2 l3;refine Qaa ?_;refine Qa ?_;simp only[go_sem,l2,l3,l6,Q4];try intro _
    refine Qh (Qd rfl ?_ ?_)
    ·intro hc;have hlt:i<p.ins.length:=(by simpa using hc);obtain⟨x,hx⟩:∃x,p.ins[i]=x:=⟨_,rfl⟩;refine Qg ?_;try simp only[go_sem]
     refine Qh (Qe ?_);refine Qa ?_;simp only[go_sem,l2,l3,l6,hlt,Q4,Qbd _ _ hlt,hx,InsD.cells];intro x7 hx7 H3 h3;have kn:=kn.al hx7 h3;have hx7:=kn.l 0 rfl;simp only[go_sem,Qqi,hx7];intro H4 h4;have kn:Kn H1 H4 [] [(x7,.st x.cells)]:=kn.stL 0 rfl h4;refine Qa ?_;simp only[go_sem,l2,l3,l6,hlt,Q4,Qbd _ _ hlt,hx,InsD.cells];intro x8 hx8 H5 h5;have kn:=kn.al hx8 h5;have hx8:=kn.l 1 rfl;simp only[go_sem,Qqj,hx8];intro H6 h6;have kn:Kn H1 H6 [] [(x7,.st x.cells),(x8,.st x.cells)]:=kn.stL 1 rfl h6;have hx7:H6 x7=.st x.cells:=kn.l 0 rfl;have hx8:H6 x8=.st x.cells:=kn.l 1 rfl;refine Qa ?_;simp only[go_sem,hx7,hx8,InsD.cells,decide_true];refine Qass ?_;simp only[go_sem,Qqk];refine Qd rfl ?_ ?_
     ·intro h;simp at h
     intro _;refine Qg ?_;try simp only[go_sem]
     refine Qt ?_;simp only[go_sem,l2,l3,l6];refine⟨Qs (by omega) (by omega),?_⟩;show ∃m,_;exact⟨p.ins.length-(i+1),by omega,i+1,rfl,by omega,Kn.drop (A:=[]) (B:=[(x7,_),(x8,_)]) kn,rfl,rfl,rfl⟩
    ·intro hc;refine Qw ?_;simp only[go_sem,X.next];refine Qa ?_;simp only[go_sem];refine Qk ?_;simp only[go_sem,Q5,Qae,Q26,Jb,forall_eq,RS.op];exact⟨_,.c _ _ (Qi rfl),hK _ kn.fin⟩
set_option maxHeartbeats 1000000 in
theorem Qaxi {p:CodeD}(hK:∀H',Upd H H' []→K (.c (.bool true)) H'):Qr prog Qn1 [.ag p.cells,.ag p.cells] H K:=by
 refine Q3 ?_;refine Qc Qal Qaxx ?_;refine Qa ?_;simp only[go_sem,CodeD.cells];refine Qaa ?_;refine Qa ?_;simp only[go_sem,Ql,decide_true];intro hl;try intro _
 simp only[LIM]at hl;refine Qh (Qd rfl ?_ ?_)
 ·intro h;simp at h
 intro _;refine Qg ?_;try simp only[go_sem]
 refine Qaa ?_;refine Qa ?_;simp only[go_sem];refine Qh (Qe (Qx (fun m e1 H1=>∃(i:Nat),m=p.blocks.length-i∧i≤p.blocks.length∧Kn H H1 [] []∧lk 2 e1=.c (.pp [.int .i64 p.params,.int .i64 p.regs,.sl false 5 (Qn p.blocks)])∧lk 3 e1=.c (.pp [.int .i64 p.params,.int .i64 p.regs,.sl false 5 (Qn p.blocks)])∧lk 5 e1=.c (.int .i64 i)) p.blocks.length ?_ ?_))
 ·exact⟨0,by omega,by omega,.start0 H,rfl,rfl,rfl⟩
 ·rintro m e1 H1 ⟨i,hm,hi,kn,l2,l3,l5⟩;refine Qaa ?_;refine Qa ?_;simp only[go_sem,l2,l3,l5,Ql];try intro _
  refine Qh (Qd rfl ?_ ?_)
  ·intro hc;have hlt:i<p.blocks.length:=by simpa using hc
   obtain⟨x,hx⟩:∃x,p.blocks[i]=x:=⟨_,rfl⟩;refine Qg ?_;try simp only[go_sem]
   refine Qh (Qe ?_);refine Qaj ?_;simp only[go_sem,l2,l3,l5,hlt,Ql,Q1 _ _ hlt,hx,BlkD.cells];refine Qasu (p:=x) fun H2 hu=>?_;have kn:=kn.call0 hu;simp only[go_sem,Qwr];refine Qd rfl ?_ ?_
   ·intro h;simp at h
   intro _;refine Qg ?_;try simp only[go_sem]
   refine Qt ?_;simp only[go_sem,l2,l3,l5];refine⟨Qs (by omega) (by omega),?_⟩;show ∃m,_;exact⟨p.blocks.length-(i+1),by omega,i+1,rfl,by omega,kn,rfl,rfl,rfl⟩
  ·intro hc;refine Qw ?_;simp only[go_sem,X.next];refine Qa ?_;simp only[go_sem];refine Qk ?_;simp only[go_sem,Q5,Qae,Q8h,Jb,forall_eq,RS.op];exact⟨_,.c _ _ (Qi rfl),hK _ kn.fin⟩
set_option maxHeartbeats 1000000 in
theorem Qo0 {f g:Bool}{cs:List CodeD}(hK:∀H',Upd H H' []→K (.c (.bool true)) H'):Qr prog Qeu [.ag [.sl f 3 (Qj cs)],.ag [.sl g 3 (Qj cs)]] H K:=by
 refine Q3 ?_;refine Qc Qal Qam0 ?_;refine Qa ?_;simp only[go_sem];refine Qaa ?_;refine Qa ?_;simp only[go_sem,Qo,decide_true];intro hl;try intro _
 simp only[LIM]at hl;refine Qh (Qd rfl ?_ ?_)
 ·intro h;simp at h
 intro _;refine Qg ?_;try simp only[go_sem]
 refine Qaa ?_;refine Qa ?_;simp only[go_sem];refine Qh (Qe (Qx (fun m e1 H1=>∃(i:Nat),m=cs.length-i∧i≤cs.length∧Kn H H1 [] []∧lk 2 e1=.c (.pp [.sl f 3 (Qj cs)])∧lk 3 e1=.c (.pp [.sl g 3 (Qj cs)])∧lk 5 e1=.c (.int .i64 i)) cs.length ?_ ?_))
 ·exact⟨0,by omega,by omega,.start0 H,rfl,rfl,rfl⟩
 ·rintro m e1 H1 ⟨i,hm,hi,kn,l2,l3,l5⟩;refine Qaa ?_;refine Qa ?_;simp only[go_sem,l2,l3,l5,Qo];try intro _
  refine Qh (Qd rfl ?_ ?_)
  ·intro hc;have hlt:i<cs.length:=by simpa using hc
   obtain⟨x,hx⟩:∃x,cs[i]=x:=⟨_,rfl⟩;refine Qg ?_;try simp only[go_sem]
   refine Qh (Qe ?_);refine Qaj ?_;simp only[go_sem,l2,l3,l5,hlt,Qo,Q0 _ _ hlt,hx,CodeD.cells];refine Qaxi (p:=x) fun H2 hu=>?_;have kn:=kn.call0 hu;simp only[go_sem,Qng];refine Qd rfl ?_ ?_
   ·intro h;simp at h
   intro _;refine Qg ?_;try simp only[go_sem]
   refine Qt ?_;simp only[go_sem,l2,l3,l5];refine⟨Qs (by omega) (by omega),?_⟩;show ∃m,_;exact⟨cs.length-(i+1),by omega,i+1,rfl,by omega,kn,rfl,rfl,rfl⟩
  ·intro hc;refine Qw ?_;simp only[go_sem,X.next];refine Qa ?_;simp only[go_sem];refine Qk ?_;simp only[go_sem,Q5,Qae,Qzr,Jb,forall_eq,RS.op];exact⟨_,.c _ _ (Qi rfl),hK _ kn.fin⟩
end Go.AE.Y
namespace Go.AE.Y
attribute [local go_sem] cond_true cond_false Bool.not_true Bool.not_false
attribute [local instance] Classical.propDecidable
open Go.Proofs.Tryz
variable {H H' H0:Heap}{K:V→Heap→Prop}{E A A' B Li:List (Nat×Obj)}{cs ds:List CodeD}{fl f2:Bool}{l:List Int}
def Qew (cs:List CodeD):Int:=(Qm cs (cs.length-1)).params
theorem Q77 (h0:0<cs.length)(hK:K (.c (.int .i64 (Qew cs))) H):Qr prog Qd0 [.ag [.sl fl 3 (Qj cs)]] H K:=by
 refine Qc Qal Qafb ?_;have hi1:((cs.length:Int)-1)=((cs.length-1:Nat):Int):=by omega
 have hlt:cs.length-1<cs.length:=by omega
 rw[Qew,Qao hlt]at hK;refine Qa ?_;simp only[go_sem];refine Qa ?_;simp only[go_sem,Qo,hi1,hlt,Q0 _ _ hlt,CodeD.cells];intro hl;simp only[LIM]at hl;refine⟨Qs (by omega) (by omega),?_⟩;refine Qk ?_;simp only[go_sem,Q5,Qae,Qtm,Jb,forall_eq,RS.op];exact hK
theorem Qbds {v:Int}(hK:K (.c (.bool (!(decide (0≤v)&&decide (v≤255))))) H):Qr prog Qhh [.c (.int .i64 v)] H K:=by
 refine Qc Qal Qae9 ?_;refine Qa ?_;simp only[go_sem];refine Qa ?_;simp only[go_sem];refine Qbbt ?_;simp only[go_sem,Qkt];refine Qk ?_;simp only[go_sem,Q5,Qae,Qtk,Jb,forall_eq,RS.op];exact hK
theorem Qbhx {n:Int}(hn:(l.length:Int)=n)(hb:byL l)(hK:K (.c (.bool true)) H):Qr prog Qnr [.c (.sl f2 1 (Qb l)),.c (.int .i64 n)] H K:=by
 have hd:decide ((l.length:Int)=n)=true:=decide_eq_true hn;refine Qc Qal Qaxm ?_;refine Qa ?_;simp only[go_sem];refine Qa ?_;simp only[go_sem,Qf,hd];try intro _
 refine Qgn (p:=fun v=>!(decide (0≤v)&&decide (v≤255))) (.mk' _ _ _ _) rfl (fun x K' _ hk=>Qbds hk) ?_;have hany:(l.any fun v=>!(decide (0≤v)&&decide (v≤255)))=false:=by
  rw[List.any_eq_false];intro v hv;obtain⟨a,b⟩:=hb v hv;simp[a,b]
 rw[hany];simp only[go_sem,Qt1];refine Qk ?_;simp only[go_sem,Q5,Qae,Q8b,Jb,forall_eq,RS.op];exact hK
theorem Qbhf {S:Nat}(hfit:∀c∈cs,c.fits)(hg:Qbr cs=true)(hl:(l.length:Int)=Qew cs)(hbl:byL l)(hS:S≤60000)(hK:∀H',Upd H H' []→K (.c (.bool true)) H') :
  Qr prog Qk7 [.ag [.sl fl 3 (Qj cs)],.c (.sl f2 1 (Qb l)),.c (.int .i64 S)] H K:=by
 have h0:=(runW hg).ro.n;refine Qc Qal Qas6 ?_;refine Qa ?_;simp only[go_sem];refine Qa ?_;simp only[go_sem];refine Qck hfit fun H1 hu=>?_;rw[hg];simp only[go_sem,Qpu];refine Q77 h0 ?_;simp only[go_sem,Qpt];refine Qbhx hl hbl ?_;simp only[go_sem,Qps];refine Qb6 ?_;have hw:(decide ((0:Int)≤(S:Int))&&decide ((S:Int)≤60000))=true:=by simp;omega
 rw[hw];simp only[go_sem,Qpr];refine Qk ?_;simp only[go_sem,Q5,Qae,Q20,Jb,forall_eq,RS.op];exact hK _ hu
def Qo5 (o:Int×Int×List Int×List Int):List C:=[.sl false 1 (Qb o.2.2.1),.int .i64 o.1,.int .i64 o.2.1,.sl false 1 (Qb o.2.2.2)]
theorem Qawp {S:Nat}(hfit:∀c∈cs,c.fits)(hg:Qbr cs=true)(hl:(l.length:Int)=Qew cs)(hbl:byL l)(hS:S≤60000)(hK:∀H',Upd H H' []→K (.tup [.ag (Qo5 (outR cs l S)),.c (.bool true)]) H') :
  Qr prog Qh5 [.ag [.sl fl 3 (Qj cs)],.c (.sl f2 1 (Qb l)),.c (.int .i64 S)] H K:=by
 refine Q3 ?_;refine Qc Qal Qaxl ?_;refine Qa ?_;simp only[go_sem];intro x6 hx6 H1 h1;have kn:Kn H H1 [] [(x6,oO 0 0)]:=(Kn.start0 H).al hx6 h1;simp only[go_sem,Qtv];refine Qaa ?_;refine Qa ?_;simp only[go_sem];refine Qbhf hfit hg hl hbl hS fun H2 hu=>?_;have kn:=kn.call0 hu;simp only[go_sem,Qtw];refine Qh (Qd (c:=false) rfl (fun h=>by cases h) fun _=>?_);refine Qg ?_;try simp only[go_sem]
 refine Qa ?_;simp only[go_sem];refine Qbks hg hl hbl hS fun e v s c u H3 ho hu=>?_;have kn:=kn.call0 hu;simp only[go_sem,Qtz,Jo,Jn];intro x8 hx8 H4 h4;have kn:Kn H H4 [] [(x6,oO 0 0),(x8,oO 0 0)]:=kn.al hx8 h4;have hx8:H4 x8=.st [.sl true 1 [],.int .i64 0,.int .i64 0,.sl true 1 []]:=kn.l 1 rfl;simp only[go_sem,Qty,hx8];intro H5 h5;have kn:Kn H H5 [] [(x6,oO 0 0),(x8,.st [.sl false 1 (Qb s),.int .i64 e,.int .i64 v,.sl false 1 (Qb c)])]:=kn.stL 1 rfl h5;have hx8:H5 x8=.st [.sl false 1 (Qb s),.int .i64 e,.int .i64 v,.sl false 1 (Qb c)]:=kn.l 1 rfl;have hx6:H5 x6=.st [.sl true 1 [],.int .i64 0,.int .i64 0,.sl true 1 []]:=kn.l 0 rfl;simp only[go_sem,Qtx];refine Qa ?_;simp only[go_sem,hx8,hx6];intro H6 h6;have kn:Kn H H6 [] [(x6,.st [.sl false 1 (Qb s),.int .i64 e,.int .i64 v,.sl false 1 (Qb c)]),(x8,.st [.sl false 1 (Qb s),.int .i64 e,.int .i64 v,.sl false 1 (Qb c)])]:=kn.stL 0 rfl h6;have hx6:H6 x6=.st [.sl false 1 (Qb s),.int .i64 e,.int .i64 v,.sl false 1 (Qb c)]:=kn.l 0 rfl;simp only[go_sem,Qt0];refine Qk ?_;simp only[go_sem,Q5,Qae,Q8a,J5,RS.op,hx6];refine⟨_,Qbbr (FrzL.ag (FrzL.same rfl)) (.c _ _ (Qi rfl)),?_⟩;have:=hK _ kn.fin;rw[ho]at this;exact this
theorem Qar4 {o:Int×Int×List Int×List Int}(hK:K (.c (.bool true)) H):Qr prog Qf9 [.ag (Qo5 o),.ag (Qo5 o)] H K:=by
 refine Qc Qal Qaa9 ?_;refine Qa ?_;simp only[go_sem,Qo5];refine Qa ?_;simp only[go_sem];refine Qa3x ?_;simp only[go_sem,Qje,decide_true];refine Qa3x ?_;simp only[go_sem,Qjd];refine Qk ?_;simp only[go_sem,Q5,Qae,Qo6,Jb,forall_eq,RS.op];exact hK
set_option maxHeartbeats 2000000 in
theorem Qaqx {S:Nat}(hf1:∀c∈cs,c.fits)(hf2:∀c∈ds,c.fits)(hg1:Qbr cs=true)(hg2:Qbr ds=true)(hl1:(l.length:Int)=Qew cs)(hl2:(l.length:Int)=Qew ds)(hbl:byL l)(hS:S≤60000)(hs:Qaa7 cs ds l S)
  (hK:∀H',Upd H H' []→K (.c (.bool true)) H'):Qr prog Qgq [.ag [.sl fl 3 (Qj cs)],.ag [.sl fl 3 (Qj ds)],.c (.sl f2 1 (Qb l)),.c (.int .i64 S)] H K:=by
 refine Q3 ?_;refine Qc Qal Qas0 ?_;refine Qa ?_;simp only[go_sem];refine Qa ?_;simp only[go_sem];refine Qawp hf1 hg1 hl1 hbl hS fun H1 hu=>?_;have kn:=(Kn.start0 H).call0 hu;obtain⟨o,ho⟩:∃o,outR cs l S=o:=⟨_,rfl⟩;rw[ho];simp only[go_sem,Qpk,Jo,Jn];intro x9 hx9 H2 h2;have kn:Kn H H2 [] [(x9,oO 0 0)]:=kn.al hx9 h2;have hx9:H2 x9=.st [.sl true 1 [],.int .i64 0,.int .i64 0,.sl true 1 []]:=kn.l 0 rfl;simp only[go_sem,Qpj,hx9,Qo5];intro H3 h3;have kn:Kn H H3 [] [(x9,.st (Qo5 o))]:=kn.stL 0 rfl h3;simp only[go_sem,Qpi];refine Qa ?_;simp only[go_sem];refine Qawp (S:=60000) hf2 hg2 hl2 hbl (by omega) fun H4 hu=>?_;have kn:=kn.call0 hu;obtain⟨p,hp⟩:∃p,outR ds l 60000=p:=⟨_,rfl⟩;rw[hp];simp only[go_sem,Qpn,Jo,Jn];intro x11 hx11 H5 h5;have kn:Kn H H5 [] [(x9,.st (Qo5 o)),(x11,oO 0 0)]:=kn.al hx11 h5;have hx11:H5 x11=.st [.sl true 1 [],.int .i64 0,.int .i64 0,.sl true 1 []]:=kn.l 1 rfl;simp only[go_sem,Qpm,hx11,Qo5];intro H6 h6;have kn:Kn H H6 [] [(x9,.st (Qo5 o)),(x11,.st (Qo5 p))]:=kn.stL 1 rfl h6;have hx9:H6 x9=.st [.sl false 1 (Qb o.2.2.1),.int .i64 o.1,.int .i64 o.2.1,.sl false 1 (Qb o.2.2.2)]:=kn.l 0 rfl;have hx11:H6 x11=.st [.sl false 1 (Qb p.2.2.1),.int .i64 p.1,.int .i64 p.2.1,.sl false 1 (Qb p.2.2.2)]:=kn.l 1 rfl;simp only[go_sem,Qpl];refine Qa ?_;have hfin:∀H',Kn H H' [] [(x9,.st (Qo5 o)),(x11,.st (Qo5 p))]→unK H K (.c (.bool true)) H':=fun H' k=>⟨_,.c _ _ (Qi rfl),hK _ k.fin⟩;rw[Qaa7,ho,hp]at hs;rcases hs with hs|hs
 ·have hd:decide (o.1=3)=true:=decide_eq_true hs;simp only[go_sem,hx9,hx11,hd,Qd2];refine Qk ?_;simp only[go_sem,Q5,Qae,Qh9,Jb,forall_eq,RS.op];exact hfin _ kn
 ·subst hs;by_cases h3:o.1=3
  ·have hd:decide (o.1=3)=true:=decide_eq_true h3;simp only[go_sem,hx9,hx11,hd,Qd2];refine Qk ?_;simp only[go_sem,Q5,Qae,Qh9,Jb,forall_eq,RS.op];exact hfin _ kn
  ·have hd:decide (o.1=3)=false:=decide_eq_false h3;simp only[go_sem,hx9,hx11,hd];refine Qar4 (o:=o) ?_;simp only[go_sem,Qd2];refine Qk ?_;simp only[go_sem,Q5,Qae,Qh9,Jb,forall_eq,RS.op];exact hfin _ kn
def tryC:List C:=Qj4 [0,0,0,1,2,3,255,16,7]
def tryL (j:Nat):List Int:=([[0,0,0],[1,2,3],[255,16,7]]:List (List Int)).getD j []
def triL (n:Nat):List (List C):=(List.range 3).map fun j=>[.sl false 1 (Qb ((tryL j).take n))]
theorem Qbmz {j:Nat}(h:j<3):(tryL j).length=3:=by
 have:j=0∨j=1∨j=2:=by omega
 rcases this with rfl|rfl|rfl <;> rfl
theorem Qbw8 {j:Nat}(h:j<3):byL (tryL j):=by
 have:j=0∨j=1∨j=2:=by omega
 intro v hv;rcases this with rfl|rfl|rfl <;> (simp[tryL]at hv;rcases hv with rfl|rfl|rfl <;> exact⟨by omega,by omega⟩)
theorem Qbry {j:Nat}(h:j<3):(tryC.drop (j * 3)).take 3=Qj4 (tryL j):=by
 have:j=0∨j=1∨j=2:=by omega
 rcases this with rfl|rfl|rfl <;> rfl
theorem Qbnu (l:List Int)(n:Nat):((Qj4 l).take n).map (fun c=>[c])=Qb (l.take n):=by simp only[Qj4,Qb,List.map_take,Jax];rfl
theorem Qaw9 (l:List Int):noOw (Qj4 l)=true:=by simp[noOw,Qj4,C.isOw]
theorem Qbmt {S:Nat→Bool}{n:Nat}:∀(rs:List (C×List (Nat×Obj))) (k:Nat),(∀j (h:j<rs.length),Gr rs[j].2 1 (Qb ((tryL (k+j)).take n)) rs[j].1)→(∀p∈rs.flatMap Prod.snd,H p.1=p.2∧S p.1=true)→
  FrzR H S (rs.map fun p=>[p.1]) ((List.range' k rs.length).map fun j=>[.sl false 1 (Qb ((tryL j).take n))])
 |[],k,_,_=>.nil
 |p::rs,k,h,hm=>by
  refine .cons (.cons (Gr.frzM (h 0 (by simp)) (fun q hq=>hm q (by rw[Jag];exact Je _ hq)) (FrzR.same (Qz _))) .nil) ?_;exact Qbmt rs (k+1) (fun j hj=>by
   have:=h (j+1) (by simpa using hj);rw[show k+(j+1)=k+1+j by omega]at this;exact this) fun q hq=>hm q (by
    rw[Jag];exact Jd _ hq)
set_option maxHeartbeats 4000000 in
theorem Qbmv {n:Nat}(hgl:H 0=.gl 0 tryC)(hn:n≤3)(hK:∀H',Upd H H' []→K (.c (.sl false 1 (triL n))) H'):Qr prog Qnw [.c (.int .i64 n)] H K:=by
 refine Q3 ?_;refine Qc Qal Qaxq ?_;have hne:H 0≠.none:=by rw[hgl];nofun
 have htl:tryC.length=9:=rfl;have htt:tryC.take 9=tryC:=rfl;refine Qa ?_;simp only[go_sem];refine Qa ?_;simp only[go_sem];refine Qaa ?_;refine Qa ?_;simp only[go_sem,hgl,htl,htt];refine Qh (Qe (Qx (fun m e1 H1=>∃(i:Nat) (t:C) (Lg:List (Nat×Obj)) (rs:List (C×List (Nat×Obj))),m=3-i∧i≤3∧rs.length=i∧(∀p∈rs,p.1.isOw=false)∧Gr Lg 1 (rs.map fun p=>[p.1]) t∧(∀j (h:j<rs.length),Gr rs[j].2 1 (Qb ((tryL j).take n)) rs[j].1)∧Kn H H1 [] (rs.flatMap Prod.snd++Lg)∧
  lk 0 e1=.c (.int .i64 n)∧lk 3 e1=.c t∧lk 6 e1=.ag tryC∧lk 7 e1=.c (.int .i64 i)) 3 ?_ ?_))
 ·exact⟨0,_,[],[],rfl,by omega,rfl,by simp,.nil 1,by simp,.start0 H,rfl,rfl,rfl,rfl⟩
 ·rintro m e1 H1 ⟨i,t,Lg,rs,hm,hi,hrl,how,hgr,hrs,kn,l0,l3,l6,l7⟩;have htw:=hgr.isOw;refine Qa ?_;simp only[go_sem,l0,l3,l6,l7,htw];refine Qh (Qd rfl ?_ ?_)
  ·intro hc;have hlt:i<3:=by have:(i:Int)<3:=of_decide_eq_true hc;omega
   have hpart:=Qbry hlt;have htryl:=Qbmz hlt;have hpl:(Qj4 (tryL i)).length=3:=by rw[Qj4,Jk,htryl]
   refine Qg ?_;try simp only[go_sem]
   refine Qh (Qe ?_);refine Qa ?_;simp only[go_sem,l0,l3,l6,l7,htw,htl,hpart,hpl];refine⟨by omega,?_⟩;intro x5 hx5 H2 h2;have kn:=kn.al hx5 h2;have hx5:H2 x5=.st [.int .i64 0,.int .i64 0,.int .i64 0]:=(kn.get (x5,.st [.int .i64 0,.int .i64 0,.int .i64 0]) (by simp)).1;simp only[go_sem,Qvn,hx5,hpl,htw];intro H3 h3;have kn:Kn H H2 [] ([(x5,.st [.int .i64 0,.int .i64 0,.int .i64 0])]++(rs.flatMap Prod.snd++Lg)):=kn.perm Jw;have kn:Kn H H3 [] ([(x5,.st (Qj4 (tryL i)))]++(rs.flatMap Prod.snd++Lg)):=kn.stL 0 rfl (by rw[h3];simp[htryl]);have kn:Kn H H3 [] ((rs.flatMap Prod.snd++Lg)++[(x5,.st (Qj4 (tryL i)))]):=kn.perm Jw;obtain⟨Sf,hfL,hfB,hfr,kn2⟩:=kn.freeze0;obtain⟨hf1,hf2⟩:=hfL (x5,.st (Qj4 (tryL i))) (by simp);obtain⟨H4,hH4⟩:∃H4,H3.frz Sf=H4:=⟨_,rfl⟩;refine c_gh (e':=[(0,.c (.int .i64 n)),(3,.c t),(5,.c (.pp (Qj4 (tryL i)))),(6,.ag tryC),(7,.c (.int .i64 i))]) (H':=H4) (by
    rw[←hH4];refine Qbie Sf (Qash fun p hp=>?_);simp only[Jq,J4,or_false]at hp;rcases hp with rfl|rfl|rfl|rfl|rfl
    ·exact .c _ _ (.same _ rfl)
    ·exact .c _ _ (.same _ htw)
    ·exact .c _ _ (FrzL.ptr hf2 hf1 (FrzL.same (Qaw9 _)))
    ·exact (FrzL.same (Qaw9 _)).ag
    ·exact .c _ _ (.same _ rfl)) ?_
   rw[hH4]at kn2;refine Qt ?_;have hrows:=Qbnu (tryL i) n;simp only[go_sem,htw,hpl,hrows];refine⟨⟨⟨by omega,by omega⟩,by simp only[LIM];omega⟩,?_⟩;have hbd:((tryL i).take n).length≤LIM:=by rw[J3,htryl];simp only[LIM];omega
   refine Q42 kn2 hbd fun t2 Lg2 H5 hg2 ht2 kn=>?_;simp only[go_sem,Qvp,htw,ht2];have kn:Kn H H5 [] ((rs.flatMap Prod.snd++Lg2)++Lg):=kn.perm (Qp fun f hf h0 hc hp=>by simp only[hf];omega);refine kn.growR (new:=[[t2]]) hgr (.mk' _ _ _ _) (by simp[noOw,ht2]) (by simp only[Jk,hrl,LIM,Js,Ju];omega) fun t3 Lg3 H6 hg3 ht3 kn=>?_;simp only[go_sem,Qvo,ht3];refine Qt ?_;simp only[go_sem,ht3];refine⟨Qs (by omega) (by omega),?_⟩;show ∃m,_;refine⟨3-(i+1),by omega,i+1,t3,Lg3,rs++[(t2,Lg2)],rfl,by omega,by simp[hrl],?_,?_,?_,?_,rfl,rfl,rfl,rfl⟩
   ·intro p hp;rcases Jj.1 hp with hp|hp
    ·exact how p hp
    ·rw[Jb]at hp;subst hp;exact ht2
   ·rw[Jv];exact hg3
   ·intro j hj;rw[Jab]at hj;by_cases hj2:j<rs.length
    ·rw[List.getElem_append_left hj2];exact hrs j hj2
    ·have hje:j=i:=(by simp at hj;omega);subst hje;rw[List.getElem_append_right (by omega)];simp only[hrl,Jay,List.getElem_cons_zero];exact hg2
   ·rw[List.flatMap_append];simpa using kn
  ·intro hc;have hge:i=3:=by
    have:¬((i:Int)<3):=of_decide_eq_false hc;omega
   refine Qw ?_;simp only[go_sem,X.next];refine Qa ?_;simp only[go_sem,l3,htw];refine Qk ?_;simp only[go_sem,Q5,Qae,Q8d,Jb,forall_eq,RS.op,htw];have hz:=Qbmt (H:=H1) (S:=un H) (n:=n) rs 0 (by simpa using hrs) fun p hp=>⟨(kn.get p (by simp only[J9];exact Je _ hp)).1,Qj1 (kn.loc p (Je _ hp))⟩;rw[hrl,hge]at hz;exact⟨_,.c _ _ (hgr.frzR kn hz),hK _ kn.fin⟩
theorem Q71 (hgl:H 0=.gl 0 tryC)(hfit:∀c∈cs,c.fits)(hg:Qbr cs=true)(hK:∀H',Upd H H' []→K (.c (.sl false 1 (triL (Qew cs).toNat))) H'):Qr prog Qdz [.ag [.sl fl 3 (Qj cs)]] H K:=by
 have hw:=runW hg;have h0:=hw.ro.n;obtain⟨p0,p3,_⟩:=hw.par (cs.length-1) (by omega);have hne:H 0≠.none:=by rw[hgl];nofun
 obtain⟨n,hn⟩:∃n:Nat,Qew cs=n:=⟨(Qew cs).toNat,by rw[Qew];omega⟩;have hn3:n≤3:=by rw[Qew]at hn;omega
 rw[hn]at hK;refine Qc Qal Qae8 ?_;refine Qa ?_;simp only[go_sem];refine Qaa ?_;refine Qa ?_;simp only[go_sem];refine Qck hfit fun H1 hu=>?_;have kn:=(Kn.start0 H).call0 hu;rw[hg];simp only[go_sem,Qkq];refine Qh (Qd (c:=false) rfl (fun h=>by cases h) fun _=>?_);refine Qg ?_;try simp only[go_sem]
 refine Qa ?_;simp only[go_sem];refine Q77 h0 ?_;rw[hn];simp only[go_sem,Qks];refine Qbmv (by rw[kn.chg 0 hne (by simp)];exact hgl) hn3 fun H2 hu2=>?_;have kn:=kn.call0 hu2;simp only[go_sem,Qkr];refine Qk ?_;simp only[go_sem,Q5,Qae,Qti,Jb,forall_eq,RS.op];exact hK _ kn.upd
end Go.AE.Y
namespace Go.AE.Y
attribute [local go_sem] cond_true cond_false Bool.not_true Bool.not_false
attribute [local instance] Classical.propDecidable
open Go.Proofs.Tryz
variable {H H0:Heap}{K:V→Heap→Prop}{fl:Bool}{cs ds:List CodeD}
def Qbus:SC:=(.cond (.t 12) (.seq (.reg (
  .f (some 2) none (.mv (.k (.c (.bool true))))::
  []) [2]) .ret) .skip)
def Qbcl:List Item:=
  .e none none (.sto 1 (.t 3) (.t 14))::
  []
def Qbcm:List Item:=
  .e (some 3) none (.alloc [.sl true 3 []])::
  Qbcl
def Qbcn:List Item:=
  .f (some 5) none (.mv (.t 19))::
  []
def Qbco:List Item:=
  .e none none (.sto 1 (.t 4) (.t 18))::
  Qbcn
def Qbcp:List Item:=
  .f (some 15) none (.mv (.t 17))::
  .f (some 18) none (.ext (.t 15) 0)::
  .f (some 19) none (.ext (.t 15) 1)::
  .e (some 4) none (.alloc [.sl true 3 []])::
  Qbco
def Qbcq:List Item:=
  .f (some 7) none (.mv (.t 24))::
  []
def Qbcr:List Item:=
  .e none none (.sto 1 (.t 6) (.t 23))::
  Qbcq
def Qbcs:List Item:=
  .f (some 20) none (.mv (.t 22))::
  .f (some 23) none (.ext (.t 20) 0)::
  .f (some 24) none (.ext (.t 20) 1)::
  .e (some 6) none (.alloc [.sl true 3 []])::
  Qbcr
def Qav6:List Item:=
  .f (some 32) (some (28,false)) (.not (.t 31))::
  .f (some 33) none (.pick (.t 28) (.k (.c (.bool true))) (.t 32))::
  .f (some 34) none (.mv (.t 33))::
  .f (some 35) (some (34,false)) (.mv (.t 5))::
  .f (some 36) (some (34,false)) (.not (.t 35))::
  .f (some 37) none (.pick (.t 34) (.k (.c (.bool true))) (.t 36))::
  []
def Qa2y:List Item:=
  .f (some 45) none (.pick (.t 41) (.t 44) (.k (.c (.bool false))))::
  .f (some 2) none (.mv (.t 45))::
  []
def Qbqs:SC:=(.cond (.t 37) (.seq (.reg (
  .f (some 38) none (.mv (.t 5))::
  .f (some 39) none (.mv (.t 7))::
  .f (some 40) none (.bin 1 .eql (.t 38) (.t 39))::
  .f (some 41) none (.mv (.t 40))::
  .f (some 42) (some (41,true)) (.ld 1 true (.t 4))::
  .f (some 43) (some (41,true)) (.ld 1 true (.t 6))::
  .e (some 44) (some (41,true)) (.call Qeu [.t 42,.t 43])::
  Qa2y) [2]) .ret) .skip)
def Qa2z:List Item:=
  .f (some 48) none (.len (.t 47))::
  .f (some 49) none (.mv (.k (.c (.int .i64 0))))::
  []
def Qa20:List Item:=
  .f (some 57) none (.not (.t 56))::
  []
def Qbqt:SC:=(.cond (.t 57) (.seq (.reg (
  .f (some 2) none (.mv (.k (.c (.bool false))))::
  []) [2]) .ret) .skip)
def Qbqu:SC:=(.seq (.reg (
  .f (some 53) none (.ld 1 true (.t 3))::
  .f (some 54) none (.ld 1 true (.t 4))::
  .f (some 55) none (.mv (.t 9))::
  .e (some 56) none (.call Qgq [.t 53,.t 54,.t 55,.k (.c (.int .i64 800))])::
  Qa20) [3,4,47,48,49,57]) Qbqt)
def Qbqv:SC:=(.reg (
  .f (some 58) none (.bin 0 .add (.t 49) (.k (.c (.int .i64 1))))::
  .f (some 49) none (.mv (.t 58))::
  []) [3,4,47,48,49])
def Qbqw:SC:=(.seq (.block 1 (.seq (.reg (
  .f (some 51) none (.iad 1 (.t 47) (.t 49))::
  .f (some 52) none (.ld 1 false (.t 51))::
  .f (some 9) none (.mv (.t 52))::
  []) [3,4,9,47,48,49]) Qbqu)) Qbqv)
def Qbme:SC:=(.seq (.reg (
  .f (some 50) none (.bin 0 .lss (.t 49) (.t 48))::
  []) [3,4,47,48,49,50]) (.seq (.cond (.t 50) .skip (.exit 0)) Qbqw))
def Qa21:List Item:=
  .f (some 2) none (.mv (.t 60))::
  []
def Qbqx:SC:=(.seq (.reg (
  .f (some 59) none (.ld 1 true (.t 4))::
  .e (some 60) none (.call Qbb [.t 59])::
  Qa21) [2]) .ret)
def Qbqy:SC:=(.seq (.seq (.reg (
  .f (some 46) none (.ld 1 true (.t 3))::
  .e (some 47) none (.call Qdz [.t 46])::
  Qa2z) [3,4,47,48,49]) (.block 0 (.loop Qbme))) Qbqx)
def Qbqz:SC:=(.seq (.seq (.reg (
  .f (some 25) none (.mv (.t 5))::
  .f (some 26) none (.mv (.t 7))::
  .f (some 27) none (.bin 1 .neq (.t 25) (.t 26))::
  .f (some 28) none (.mv (.t 27))::
  .f (some 29) (some (28,false)) (.ld 1 true (.t 4))::
  .f (some 30) (some (28,false)) (.ld 1 true (.t 6))::
  .e (some 31) (some (28,false)) (.call Qeu [.t 29,.t 30])::
  Qav6) [3,4,5,6,7,37]) Qbqs) Qbqy)
def Qbq0 (sp:Nat):SC:=(.seq (.reg (
  .f (some 21) none (.ld 1 true (.t 3))::
  .e (some 22) none (.call sp [.t 21])::
  Qbcs) [3,4,5,6,7]) Qbqz)
def Qbq1 (im sp:Nat):SC:=(.seq (.reg (
  .f (some 16) none (.ld 1 true (.t 3))::
  .e (some 17) none (.call im [.t 16])::
  Qbcp) [3,4,5]) (Qbq0 sp))
def Qbq2 (dr im sp:Nat):SC:=(.seq (.reg (
  .f (some 13) none (.mv (.t 0))::
  .e (some 14) none (.call dr [.t 13])::
  Qbcm) [3]) (Qbq1 im sp))
def Qbq3 (dr im sp:Nat):SC:=(.seq (.seq (.reg (
  .f (some 10) none (.mv (.t 0))::
  .f (some 11) none (.len (.t 10))::
  .f (some 12) none (.bin 0 .gtr (.t 11) (.k (.c (.int .i64 1048576))))::
  []) [0,12]) Qbus) (Qbq2 dr im sp))
def Qbx5 (dr im sp:Nat):SC:=(.seq (.reg (
  .f (some 2) none (.mv (.k (.c (.bool false))))::
  []) [0]) (Qbq3 dr im sp))
def Qbuk:List RS:=[.tmp 2]
theorem Qawm (n:Nat):(triL n).length=3:=by simp[triL]
theorem Qbmu (n:Nat){i:Nat}(h:i<3):(triL n).getD i []=[.sl false 1 (Qb ((tryL i).take n))]:=by
 have:i=0∨i=1∨i=2:=by omega
 rcases this with rfl|rfl|rfl <;> rfl
theorem Qad1 {i n:Nat}(h:i<3)(hn:n≤3):((tryL i).take n).length=n:=by rw[J3,Qbmz h];omega
theorem Qbm0 {i n:Nat}(h:i<3):byL ((tryL i).take n):=fun v hv=>Qbw8 h v (List.mem_of_mem_take hv)
set_option maxHeartbeats 8000000 in
theorem Qbkt {f dr im sp:Nat}{P:List CodeD→List CodeD→Prop}{G:List CodeD→Bool}{bs:List UInt8}(hm:mFn prog f 1 61 (Qbx5 dr im sp) Qbuk=true)
  (hdr:∀(bs:List UInt8) (H:Heap) (K:V→Heap→Prop),(∀cs H',Upd H H' []→UnitOk cs→K (.ag [.sl false 3 (Qj cs)]) H')→Qr prog dr [.c (.sl false 1 (Qbs bs))] H K)
  (him:∀(cs:List CodeD) (H:Heap) (K:V→Heap→Prop),(∀c∈cs,c.fits)→(∀ds H',P cs ds→Upd H H' []→K (.tup [.ag [.sl false 3 (Qj ds)],.c (.bool (G cs))]) H')→Qr prog im [.ag [.sl false 3 (Qj cs)]] H K)
  (hsp:∀(cs:List CodeD) (H:Heap) (K:V→Heap→Prop),(∀c∈cs,c.fits)→(∀ds H',P cs ds→Upd H H' []→K (.tup [.ag [.sl false 3 (Qj ds)],.c (.bool (G cs))]) H')→Qr prog sp [.ag [.sl false 3 (Qj cs)]] H K)
  (hun:∀cs ds ds',P cs ds→P cs ds'→ds=ds') (hfits:∀cs ds,(∀c∈cs,c.fits)→P cs ds→∀c∈ds,c.fits)
  (hG:∀cs ds,P cs ds→G cs=true→Qbr cs=true∧Qbr ds=true∧Qew ds=Qew cs∧∀l,Qaa7 cs ds l 800)
  (hgl:H 0=.gl 0 tryC) (hK:∀H',K (.c (.bool true)) H'):Qr prog f [.c (.sl false 1 (Qbs bs))] H K:=by
 refine Qc Qal hm ?_;have hne:H 0≠.none:=by rw[hgl];nofun
 have retT':∀(e:Env) (H':Heap),lk 2 e=.c (.bool true)→Q5 Qbuk K .ret e H':=by
  intro e H' h2;simp only[go_sem,Q5,Qae,Qbuk,Jb,forall_eq,RS.op,h2];exact hK H'
 refine Qa ?_;simp only[go_sem];refine Qaa ?_;refine Qa ?_;simp only[go_sem,Qa0];intro _;refine Qh (Qd rfl (fun hc=>?_) (fun hc=>?_))
 ·refine Qa ?_;simp only[go_sem];refine Qk ?_;exact retT' _ _ rfl
 refine Qg ?_;try simp only[go_sem]
 refine Qa ?_;simp only[go_sem];refine hdr bs _ _ fun cs H1 hu hok=>?_;have hfit:=hok.fits;have kn:=(Kn.start0 H).call0 hu;simp only[go_sem,Qbcm];intro x3 hx3 H2 h2;have kn:=kn.al hx3 h2;have hx3:=kn.l 0 rfl;simp only[go_sem,Qbcl,hx3];intro H3 h3;have kn:Kn H H3 [] [(x3,.st [.sl false 3 (Qj cs)])]:=kn.stL 0 rfl h3;have hx3:=kn.l 0 rfl;refine Qa ?_;simp only[go_sem,hx3];refine him cs _ _ hfit fun ds H4 hds hu=>?_;have hfd:=hfits cs ds hfit hds;have kn:=kn.call0 hu;simp only[go_sem,Qbcp,Jo,Jn];intro x4 hx4 H5 h5;have kn:=kn.al hx4 h5;have hx4:=kn.l 1 rfl;simp only[go_sem,Qbco,hx4];intro H6 h6;have kn:Kn H H6 [] [(x3,.st [.sl false 3 (Qj cs)]),(x4,.st [.sl false 3 (Qj ds)])]:=kn.stL 1 rfl h6;have hx3:=kn.l 0 rfl;simp only[go_sem,Qbcn];refine Qa ?_;simp only[go_sem,hx3];refine hsp cs _ _ hfit fun ds' H7 hds' hu=>?_;obtain rfl:=hun cs ds ds' hds hds';have kn:=kn.call0 hu;simp only[go_sem,Qbcs,Jo,Jn];intro x6 hx6 H8 h8;have kn:=kn.al hx6 h8;have hx6:=kn.l 2 rfl;simp only[go_sem,Qbcr,hx6];intro H9 h9;have kn:Kn H H9 [] [(x3,.st [.sl false 3 (Qj cs)]),(x4,.st [.sl false 3 (Qj ds)]),(x6,.st [.sl false 3 (Qj ds)])]:=kn.stL 2 rfl h9;have hx4:=kn.l 1 rfl;have hx6:=kn.l 2 rfl;simp only[go_sem,Qbcq];refine Qaa ?_
 cases hg:G cs with
 |false=>
  refine Qa ?_;simp only[go_sem,hx4,hx6,decide_true];refine Qo0 fun H10 hu=>?_;have kn:=kn.call0 hu;have hx4:=kn.l 1 rfl;have hx6:=kn.l 2 rfl;simp only[go_sem,Qav6];refine Qh (Qd rfl ?_ ?_)
  ·intro _;refine Qa ?_;simp only[go_sem,hx4,hx6,decide_true];refine Qo0 fun H11 hu=>?_;simp only[go_sem,Qa2y];refine Qk ?_;exact retT' _ _ rfl
  ·intro h;simp at h
 |true=>
  obtain⟨hg1,hg2,hmp,hsame⟩:=hG cs ds hds hg;refine Qa ?_;simp only[go_sem,hx4,hx6,decide_true];refine Qo0 fun H10 hu=>?_;have kn:=kn.call0 hu;simp only[go_sem,Qav6];refine Qh (Qd rfl ?_ ?_)
  ·intro h;simp at h
  intro _;refine Qg ?_;try simp only[go_sem]
  have kn:Kn H H10 [] [(x3,.st [.sl false 3 (Qj cs)]),(x4,.st [.sl false 3 (Qj ds)])]:=Kn.drop (A:=[_,_]) (B:=[_]) kn;have hx3:=kn.l 0 rfl;refine Qaa ?_;refine Qa ?_;simp only[go_sem,hx3];refine Q71 (by rw[kn.chg 0 hne (by simp)];exact hgl) hfit hg1 fun H11 hu=>?_;have kn:=kn.call0 hu;obtain⟨p0,p3,_⟩:=(runW hg1).par (cs.length-1) (by have:=(runW hg1).ro.n;omega);obtain⟨n,hn⟩:∃n:Nat,Qew cs=n:=⟨(Qew cs).toNat,by rw[Qew];omega⟩;have hn3:n≤3:=by rw[Qew]at hn;omega
  rw[hn,Int.toNat_natCast];simp only[go_sem,Qa2z,Qawm];try intro _
  refine Qh (Qe (Qx (fun mm e1 H1=>∃(i:Nat),mm=3-i∧i≤3∧Kn H H1 [] [(x3,.st [.sl false 3 (Qj cs)]),(x4,.st [.sl false 3 (Qj ds)])]∧
   lk 3 e1=.c (.ptr x3 0)∧lk 4 e1=.c (.ptr x4 0)∧lk 47 e1=.c (.sl false 1 (triL n))∧lk 48 e1=.c (.int .i64 3)∧lk 49 e1=.c (.int .i64 i)) 3 ?_ ?_))
  ·exact⟨0,by omega,by omega,kn,rfl,rfl,rfl,rfl,rfl⟩
  ·clear kn hx3 hx4 hx6;rintro mm e1 H12 ⟨i,hmm,hi,kn,l3,l4,l47,l48,l49⟩;have hx3:=kn.l 0 rfl;have hx4:=kn.l 1 rfl;refine Qa ?_;simp only[go_sem,l3,l4,l47,l48,l49];refine Qh (Qd rfl ?_ ?_)
   ·intro hc1;have hlt:i<3:=(by have:(i:Int)<3:=of_decide_eq_true hc1;omega);refine Qg ?_;try simp only[go_sem]
    refine Qh (Qe ?_);refine Qa ?_;simp only[go_sem,l3,l4,l47,l48,l49,hlt,Qawm,Qbmu n hlt];refine Qa ?_;simp only[go_sem,hx3,hx4];refine Qaqx (S:=800) hfit hfd hg1 hg2 (by rw[Qad1 hlt hn3,hn]) (by rw[Qad1 hlt hn3,hmp,hn]) (Qbm0 hlt) (by omega) (hsame _) fun H13 hu=>?_;have kn:=kn.call0 hu;simp only[go_sem,Qa20];refine Qd (c:=false) rfl (fun h=>by cases h) fun _=>?_;refine Qg ?_;try simp only[go_sem]
    refine Qt ?_;simp only[go_sem];refine⟨Qs (by omega) (by omega),?_⟩;show ∃m,_;exact⟨3-(i+1),by omega,i+1,rfl,by omega,kn,rfl,rfl,rfl,rfl,rfl⟩
   ·intro hc1;refine Qw ?_;simp only[go_sem,X.next];refine Qa ?_;simp only[go_sem,l3,l4,hx4];refine Qck hfd fun H13 hu=>?_;rw[hg2];simp only[go_sem,Qa21];refine Qk ?_;exact retT' _ _ rfl
end Go.AE.Y
namespace Go.AE.Y
open Go.ChangeShapes Go.WideShapes Go.ChangeAt Go.RowKit
def Qa4f (w:World)(a:Option Addr)(len cap:Nat)(zs:List Int):Prop:=
 (a=none∧len=0∧cap=0∧zs=[])∨
 ∃x,a=some x∧len≤cap∧zs.length=cap∧(∀i,i<zs.length→w.cell? (x.add i)=some (.int .u8 (zs.getD i 0)))∧∀n∈zs,(Lit.int .u8 n).wf=true
def gh3 (w:World):G:=⟨fun b=>decide (b<w.heap.size),fun _=>none,fun l=>if l=0 then some (0,9,0)else none⟩
def hp3:Heap:=fun l=>if l=0 then .gl 0 tryC else .none
def tryZ:List Int:=[0,0,0,1,2,3,255,16,7]
theorem Qbhc (w:World)(ht:∀j,j<9→w.cell? ⟨0,j,none⟩=some (.int .i64 (tryZ.getD j 0))):Sat hp3 (gh3 w) w:=by
 have h0:0<w.heap.size:=by
  have:=ht 0 (by omega);rcases Jac w.heap.size with h|h
  ·simp[World.cell?,Jak (show w.heap.size≤0 by omega)]at this
  ·exact h
 have hz:∀(j:Nat) (c:C),tryC[j]? = some c→j<9∧c=.int .i64 (tryZ.getD j 0):=by
  intro j c h;have hj:j<9:=(Jy.1 h).1;refine⟨hj,?_⟩;have e:tryC=Qj4 tryZ:=rfl;rw[e,Qj4,Jah]at h;have hl:j<tryZ.length:=hj;rw[Jc hl]at h;simp at h;rw[←h,Ja,Jc hl];rfl
 refine⟨fun b hb=>⟨by simp[gh3];omega,rfl⟩,⟨1,fun l hl=>by simp[gh3];omega⟩,fun b x h=>by simp[gh3]at h,fun b l p h=>by simp[gh3]at h,fun l=>?_⟩;by_cases hl:l=0
 ·subst hl;refine⟨9,fun j=>.int .i64 (tryZ.getD j 0),by simp[gh3],by simpa[gh3]using h0,fun j c h=>?_,fun j c h=>?_⟩
  ·exact ht j (hz j c h).1
  ·rw[(hz j c h).2];exact .int _ _
 ·rw[hp3,if_neg hl];trivial
theorem Qbsp {n:Int}(h:(Lit.int .u8 n).wf=true):((UInt8.ofNat n.toNat).toNat:Int)=n:=by
 simp only[Lit.wf,Jf,decide_eq_true_eq]at h;have a1:IntKind.min .u8=0:=by decide
 have a2:IntKind.max .u8=255:=by decide
 rw[a1,a2]at h;rw[UInt8.toNat_ofNat'];omega
theorem Qad8 {P:Program}{f:Nat}(h:∀bs:List UInt8,bs.length≤1048576→Qr P f [.c (.sl false 1 (Qbs bs))] hp3 fun v _=>v=.c (.bool true))
  {a0:Option Addr} {len0 cap0:Nat} {z0:List Int} {w:World} (ht:∀j,j<9→w.cell? ⟨0,j,none⟩=some (.int .i64 (tryZ.getD j 0))) (hr:Qa4f w a0 len0 cap0 z0) (hl:len0≤1048576) :
  Calls P f #[.slice a0 len0 cap0] w fun e w'=>e=.returned (.bool true)∧Below w.heap.size w w':=by
 have key:∃bs:List UInt8,bs.length=len0∧RepC w (gh3 w) (.sl false 1 (Qbs bs)) (.slice a0 len0 cap0):=by
  rcases hr with ⟨rfl,rfl,rfl,rfl⟩|⟨x,rfl,hlc,hz,hcell,hwf⟩
  ·exact⟨[],rfl,.slnil _ _ _⟩
  ·obtain⟨b,off,spot⟩:=x;have hbl:((z0.take len0).map fun n=>UInt8.ofNat n.toNat).length=len0:=by simp;omega
   by_cases h0:cap0=0
   ·subst h0;have:len0=0:=(by omega);subst this;exact⟨[],rfl,.slnil _ _ _⟩
   have hc0:=hcell 0 (by omega);have hspot:spot=none:=by simpa[Addr.add]using World.cell?_spot hc0
   subst hspot;have hadd:∀i,(⟨b,off,none⟩:Addr).add i=⟨b,off+i,none⟩:=by
    intro i;by_cases h:i=0 <;> simp[Addr.add,h]
   have hb:b<w.heap.size:=by
    rcases Ja2 b w.heap.size with h|h
    ·exact h
    ·simp[World.cell?,Addr.add,Jak h]at hc0
   refine⟨_,hbl,?_⟩;have hget:∀(i:Nat) (row:List C),(Qbs ((z0.take len0).map fun n=>UInt8.ofNat n.toNat))[i]? = some row→i<len0∧row=[.int .u8 (z0.getD i 0)]:=by
    intro i row hi;have hlt:i<len0:=by
     rcases Ja2 i len0 with h|h
     ·exact h
     ·rw[Jl (by rw[Qa0];omega)]at hi;simp at hi
    have hz0:i<z0.length:=(by omega);refine⟨hlt,?_⟩;simp only[Qbs,Jah,List.getElem?_take,if_pos hlt,Jc hz0,Option.map_some,Jaw]at hi;rw[←hi,Qbsp (hwf _ (Ji hz0))];simp[Ja,hz0]
   have:=RepC.sl (w:=w) (g:=(gh3 w)) false 1 (Qbs ((z0.take len0).map fun n=>UInt8.ofNat n.toNat)) b off cap0 (fun i _=>.int .u8 (z0.getD i 0))
    (by rw[Qa0,hbl];simp only[LIM];omega) (by simp) (by rw[Qa0,hbl];exact hlc) (by simpa[gh3]using hb)
    (fun i row hi=>by rw[(hget i row hi).2];rfl)
    (fun i row j c hi hj=>by
     obtain⟨h1,rfl⟩:=hget i row hi;have hj0:j=0:=by
      rcases Jac j with h|h
      ·exact h
      ·rw[Jl (by simp;omega)]at hj;simp at hj
     subst hj0;have:=hcell i (by omega);rw[hadd]at this;simpa using this)
    (fun i row j c hi hj=>by
     obtain⟨h1,rfl⟩:=hget i row hi;have hj0:j=0:=by
      rcases Jac j with h|h
      ·exact h
      ·rw[Jl (by simp;omega)]at hj;simp at hj
     subst hj0;simp at hj;subst hj;exact .int _ _)
   rw[Qa0,hbl]at this;exact this
 obtain⟨bs,hbl,hrep⟩:=key;have hc:=(h bs (by omega)).2 _ w [.slice a0 len0 cap0] (Qbhc w ht) rfl (fun j x u hj hu=>by
  cases j with
  |zero=>simp at hj hu;subst hj;subst hu;exact .c _ _ hrep
  |succ j=>simp at hj)
 refine hc.mono fun e w'=>?_;rintro (⟨v,x,H',g',rfl,rfl,hst,hv⟩|⟨v,H',g',_,h,_⟩)
 rotate_left
 ·cases h
 have:v=.bool true:=by cases hv with|c _ _ h=>cases h;rfl
 subst this;exact⟨rfl,hst.le.os,hst.le.tape,hst.le.output,hst.le.size,fun k hk=>(hst.le.per k (by simpa[gh3]using hk)).2⟩
end Go.AE.Y
namespace Go.AE.Y
attribute [local go_sem] cond_true cond_false Bool.not_true Bool.not_false
open Go.Proofs.Tryz
variable {H H0:Heap}{K:V→Heap→Prop}{E B Lg:List (Nat×Obj)}
def OBlk.rest (o:OBlk):List (Nat×Obj):=o.phis.flatMap OPhi.lg++(o.pl++(o.ins.flatMap OIns.lg++o.il))
theorem Q47 {α β:Type}{f:α→List β}:∀{l:List α} {i:Nat} (h:i<l.length),(l.flatMap f).Perm (f l[i]++(l.eraseIdx i).flatMap f)
 |[],i,h=>by simp at h
 |x::l,0,h=>by simp
 |x::l,i+1,h=>by
  have:=Q47 (f:=f) (l:=l) (i:=i) (by simpa using h);simp only[Jag,List.getElem_cons_succ,List.eraseIdx_cons_succ];refine (List.Perm.append_left _ this).trans ?_;rw[←Jau,←Jau];exact List.Perm.append_right _ Jw
end Go.AE.Y
namespace Go.AE.Y
attribute [local go_sem] cond_true cond_false Bool.not_true Bool.not_false
open Go.Proofs.Tryz
variable {H H0:Heap}{K:V→Heap→Prop}{E B Lg:List (Nat×Obj)}{q:CodeD}
abbrev Plc:=Int×Int
def pRow (p:Plc):List C:=[.sl true 1 [[.int .i64 p.1],[.int .i64 p.2]]]
def Qbxr (ps:List Plc):List (List C):=ps.map pRow
structure SReg where
 ps:List Plc
 c:C
 lg:List (Nat×Obj)
def SReg.row (s:SReg):List C:=[s.c]
def SReg.ok (s:SReg):Prop:=Gr s.lg 1 (Qbxr s.ps) s.c
end Go.AE.Y
namespace Go.AE
def SimC (c c':C):Prop:=c'=c∨∃a b:Int,c=.int .i64 a∧c'=.int .i64 b
inductive SimR:List C→List C→Prop
 |nil:SimR [] []
 |cons {c c':C} {l l':List C} (h:SimC c c') (t:SimR l l'):SimR (c::l) (c'::l')
theorem SimR.same:∀l,SimR l l
 |[]=>.nil
 |c::l=>.cons (.inl rfl) (SimR.same l)
theorem SimC.trans {a b c:C}(h:SimC a b)(k:SimC b c):SimC a c:=by
 rcases h with rfl|⟨x,y,rfl,rfl⟩
 ·exact k
 ·rcases k with rfl|⟨u,v,hu,rfl⟩
  ·exact .inr ⟨x,y,rfl,rfl⟩
  ·exact .inr ⟨x,v,rfl,rfl⟩
theorem SimR.trans {a b c:List C}(h:SimR a b):SimR b c→SimR a c:=by
 induction h generalizing c with
 |nil=>exact id
 |cons h t ih=>
  intro k
  cases k with
  |cons h2 t2=>exact .cons (h.trans h2) (ih t2)
theorem SimC.int {a:Int}{c:C}(h:SimC (.int .i64 a) c):∃b:Int,c=.int .i64 b:=by
 rcases h with rfl|⟨x,y,_,rfl⟩
 ·exact⟨a,rfl⟩
 ·exact⟨y,rfl⟩
theorem SimC.sl {fl:Bool}{sz:Nat}{rows:List (List C)}{c:C}(h:SimC (.sl fl sz rows) c):c=.sl fl sz rows:=by
 rcases h with rfl|⟨x,y,h,_⟩
 ·rfl
 ·simp at h
theorem SimC.vsl {l sz st n:Nat}{c:C}(h:SimC (.vsl l sz st n) c):c=.vsl l sz st n:=by
 rcases h with rfl|⟨x,y,h,_⟩
 ·rfl
 ·simp at h
def SimO (X:Nat→Prop)(o o':Obj):Prop:=∃sz rows rows',o=.vec sz rows∧o'=.vec sz rows'∧rows'.length=rows.length∧∀r,r<rows.length→SimR (rows.getD r []) (rows'.getD r [])∧(X r→rows'.getD r []=rows.getD r [])
variable {X X':Nat→Prop}{o o':Obj}
theorem SimO.same (sz:Nat)(rows:List (List C)):SimO X (.vec sz rows) (.vec sz rows):=⟨sz,rows,rows,rfl,rfl,rfl,fun r _=>⟨.same _,fun _=>rfl⟩⟩
theorem SimO.mono (h:SimO X o o')(hX:∀r,X' r→X r):SimO X' o o':=by
 obtain⟨sz,rows,rows',h1,h2,h3,h4⟩:=h;exact⟨sz,rows,rows',h1,h2,h3,fun r hr=>⟨(h4 r hr).1,fun hx=>(h4 r hr).2 (hX r hx)⟩⟩
theorem SimO.get {sz:Nat}{rows:List (List C)}(h:SimO X (.vec sz rows) o'):∃rows',o'=.vec sz rows'∧rows'.length=rows.length∧∀r,r<rows.length→SimR (rows.getD r []) (rows'.getD r [])∧(X r→rows'.getD r []=rows.getD r []):=by
 obtain⟨sz,rows,rows',h1,h2,h3,h4⟩:=h;cases h1;exact⟨rows',h2,h3,h4⟩
theorem SimO.set {sz:Nat}{rows rows':List (List C)}(h:SimO X (.vec sz rows) (.vec sz rows')){r:Nat}{new:List C}(hr:r<rows.length)(hs:SimR (rows.getD r []) new)(hX:∀r',r'≠r→X' r'→X r')(hn:¬X' r) :
  SimO X' (.vec sz rows) (.vec sz (rows'.set r new)):=by
 obtain⟨rows2,h2,h3,h4⟩:=h.get;cases h2;refine⟨sz,rows,_,rfl,rfl,by rw[Jam];exact h3,fun r' hr'=>?_⟩;by_cases e:r'=r
 ·subst e;have:(rows'.set r' new).getD r' []=new:=by rw[Ja,List.getElem?_set_self (by omega)];rfl
  rw[this];exact⟨hs,fun hx=>absurd hx hn⟩
 ·have:(rows'.set r new).getD r' []=rows'.getD r' []:=by rw[Ja,J7 (fun h=>e h.symm),←Ja]
  rw[this];exact⟨(h4 r' hr').1,fun hx=>(h4 r' hr').2 (hX r' e hx)⟩
def Ty (LG:List (Nat×Obj))(F:Heap)(E0:List (Nat×Obj))(X:Nat→Nat→Prop)(H:Heap)(L:List (Nat×Obj)):Prop:=
 ∃E1:List (Nat×Obj),E1.map Prod.fst=LG.map Prod.fst∧(∀p∈LG,∀ob,(p.1,ob)∈E1→SimO (X p.1) p.2 ob)∧Kn F H (E0++E1) L
namespace Ty
variable {LG E0 L A N:List (Nat×Obj)}{F H H':Heap}{X X':Nat→Nat→Prop}{m:Nat}{o ob:Obj}
theorem nodup (t:Ty LG F E0 X H L):(LG.map Prod.fst).Nodup:=by
 obtain⟨E1,h1,h2,kn⟩:=t;have:=kn.dE;rw[Jv]at this;rw[←h1];exact (Jai.1 this).2.1
theorem get (t:Ty LG F E0 X H L)(hm:(m,o)∈LG):SimO (X m) o (H m):=by
 obtain⟨E1,h1,h2,kn⟩:=t;have h3:m∈E1.map Prod.fst:=by rw[h1];exact Qa6 hm
 obtain⟨p,hp,he⟩:=Jr.1 h3;have h4:=(kn.get p (Je _ (Jd _ hp))).1;obtain⟨a,b⟩:=p;simp only at he h4;subst he;rw[h4];exact h2 _ hm _ hp
theorem e (t:Ty LG F E0 X H L)(i:Nat){x:Nat}{oo:Obj}(h:E0[i]? = some (x,oo)):H x=oo:=by
 obtain⟨E1,h1,h2,kn⟩:=t;exact (kn.get (x,oo) (Je _ (Je _ (Jx h)))).1
theorem st (t:Ty LG F E0 X H L)(hm:(m,o)∈LG)(h:H'=H.set m ob)(hs:SimO (X' m) o ob)(hX:∀m',m'≠m→∀r,X' m' r→X m' r):Ty LG F E0 X' H' L:=by
 have hnd:=t.nodup;obtain⟨E1,h1,h2,kn⟩:=t;have h3:m∈E1.map Prod.fst:=by rw[h1];exact Qa6 hm
 obtain⟨p,hp,he⟩:=Jr.1 h3;obtain⟨i,hi⟩:=J6 hp;obtain⟨a,b⟩:=p;simp only at he;subst he;have hob:ob≠.none:=by
  obtain⟨_,_,_,_,h,_⟩:=hs;rw[h];simp
 have hd1:(E1.map Prod.fst).Nodup:=by rw[h1];exact hnd
 have hi':(E0++E1)[E0.length+i]? = some (a,b):=by rw[Jaa (by omega),Jz];exact hi
 have k2:=kn.stE (E0.length+i) hi' h hob;rw[List.set_append_right _ _ (by omega),Jz]at k2;refine⟨E1.set i (a,ob),(Qb7 hi).trans h1,fun p hp ob' hob'=>?_,k2⟩;rcases Qbl hob' with e|⟨j,hj,hj2⟩
 ·have e1:p.1=a:=congrArg Prod.fst e;have e2:ob'=ob:=congrArg Prod.snd e;have e3:p.2=o:=by
   obtain⟨i1,g1⟩:=J6 hp;obtain⟨i2,g2⟩:=J6 hm;have:=Qdd hnd g1 g2 e1;subst this;rw[g1]at g2;rw[Jan g2]
  rw[e1,e2,e3];exact hs
 ·have hne:p.1≠a:=fun hh=>hj (Qdd hd1 hj2 hi hh);exact (h2 p hp ob' (Jx hj2)).mono (hX p.1 hne)
theorem stE (t:Ty LG F E0 X H L)(i:Nat){x:Nat}{a b:Obj}(h:E0[i]? = some (x,a))(h1:H'=H.set x b)(hb:b≠.none:=by nofun):Ty LG F (E0.set i (x,b)) X H' L:=by
 obtain⟨E1,g1,g2,kn⟩:=t;have hlt:=(Jy.1 h).1;have k2:=kn.stE (o:=a) i (by rw[Jae hlt];exact h) h1 hb;rw[List.set_append_left _ _ hlt]at k2;exact⟨E1,g1,g2,k2⟩
theorem call0 (t:Ty LG F E0 X H L)(hu:Upd H H' []):Ty LG F E0 X H' L:=by
 obtain⟨E1,g1,g2,kn⟩:=t;exact⟨E1,g1,g2,kn.call0 hu⟩
theorem al (t:Ty LG F E0 X H L){x:Nat}{b:Obj}(hx:H x=.none)(h1:H'=H.set x b)(hb:b≠.none:=by nofun):Ty LG F E0 X H' (L++[(x,b)]):=by
 obtain⟨E1,g1,g2,kn⟩:=t;exact⟨E1,g1,g2,kn.al hx h1 hb⟩
theorem drop (t:Ty LG F E0 X H (A++N)):Ty LG F E0 X H A:=by
 obtain⟨E1,g1,g2,kn⟩:=t;exact⟨E1,g1,g2,kn.drop⟩
theorem sub {wl cy c0:Nat}{a b c:Obj}(t:Ty LG F [(wl,a),(c0,b)] X H (L++[(cy,c)])):Ty LG H [(wl,a),(cy,c)] X H []:=by
 obtain⟨E1,g1,g2,kn⟩:=t;refine⟨E1,g1,g2,Kn.startE (fun p hp=>kn.get p ?_) ?_⟩
 ·rcases Jj.1 hp with hp|hp
  ·rcases Jq.1 hp with rfl|hp
   ·simp
   ·rcases Jq.1 hp with rfl|hp
    ·simp
    ·simp at hp
  ·simp[hp]
 ·have hd:=kn.dE;simp only[J1,J9,Jar,Ja0,Jq,not_or]at hd⊢;have hcy:∀p∈[(wl,a),(c0,b)]++E1,p.1≠cy:=fun p hp hh=>kn.ext p hp (hh▸kn.loc (cy,c) (by simp));refine⟨⟨hcy (wl,a) (by simp),hd.1.2⟩,fun hh=>?_,hd.2.2⟩;obtain⟨p,hp,he⟩:=Jr.1 hh;exact hcy p (Jd _ hp) he
theorem ret {wl cy c0:Nat}{a b c a' c':Obj}(t:Ty LG F [(wl,a),(c0,b)] X H (L++[(cy,c)]))(t2:Ty LG H [(wl,a'),(cy,c')] X' H' []):Ty LG F [(wl,a'),(c0,b)] X' H' L:=by
 obtain⟨E1,g1,g2,kn⟩:=t;obtain⟨E2,k1,k2,kn2⟩:=t2;have hu:=kn2.upd;have hne:∀p∈[(wl,a'),(cy,c')]++E2,p.2≠.none:=fun p hp=>(kn2.get p (Je _ hp)).2;have hfst:E2.map Prod.fst=E1.map Prod.fst:=k1.trans g1.symm;have hd:=kn.dE;have hdL:=kn.dL;rw[Jv]at hdL;have hcy:∀p∈[(wl,a),(c0,b)]++E1,p.1≠cy:=fun p hp hh=>kn.ext p hp (hh▸kn.loc (cy,c) (by simp));have hk:Kn F H' ([(wl,a'),(c0,b)]++E2) (L++[(cy,c')]):=by
  refine kn.callg hu (by simp[hfst]) (by simp) (fun p hp=>?_) (fun u hu'=>?_)
  ·rcases Jj.1 hp with hp|hp
   ·rcases Jj.1 hp with hp|hp
    ·rcases Jq.1 hp with rfl|hp
     ·exact⟨hne _ (by simp),.inl (by simp)⟩
     ·simp only[Jb]at hp;subst hp;have h0:(c0,b)∈([(wl,a),(c0,b)]++E1)++(L++[(cy,c)]):=(by simp);refine⟨(kn.get _ h0).2,.inr ⟨h0,?_⟩⟩;simp only[J1,J9,Jar,Ja0,Jq,not_or]at hd⊢;refine⟨fun h=>hd.1.1 h.symm,hcy (c0,b) (by simp),?_⟩;rw[hfst];exact hd.2.1
    ·exact⟨hne p (Jd _ hp),.inl (Jd _ hp)⟩
   ·rcases Jj.1 hp with hp|hp
    ·have h0:p∈([(wl,a),(c0,b)]++E1)++(L++[(cy,c)]):=(by simp[hp]);refine⟨(kn.get _ h0).2,.inr ⟨h0,fun hh=>?_⟩⟩;have hpf:F p.1=.none:=kn.loc p (Je _ hp);simp only[J1,J9,Jar,Jq]at hh;rcases hh with hh|hh|hh
     ·exact kn.ext (wl,a) (by simp) (hh▸hpf)
     ·exact (Jai.1 hdL).2.2 _ (Qa6 hp) cy (by simp) hh
     ·rw[hfst]at hh;obtain⟨p',hp',he⟩:=Jr.1 hh;exact kn.ext p' (Jd _ hp') (he▸hpf)
    ·simp only[Jb]at hp;subst hp;exact⟨hne _ (by simp),.inl (by simp)⟩
  ·rcases Jj.1 hu' with h|h
   ·rcases Jq.1 h with rfl|h
    ·left;simp
    ·simp only[Jb]at h;subst h;right;simp
   ·left;rw[Jv,Jj,←hfst];exact .inr (Qa6 h)
 exact⟨E2,k1,k2,hk.drop⟩
end Ty
end Go.AE
