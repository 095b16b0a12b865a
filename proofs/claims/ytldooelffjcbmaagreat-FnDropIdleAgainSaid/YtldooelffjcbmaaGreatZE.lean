/- Part 5 of the proof: the engine, codes, walks and plain laws, each named where it stands. -/
import Derived.Test.YtldooelffjcbmaaGreatZD
open Nat (reduceEqDiff reduceAdd reduceLeDiff reduceLT)
set_option linter.unusedVariables false
set_option linter.unusedSimpArgs false
set_option maxRecDepth 4000
open Bool renaming and_eq_true->Jah,not_eq_true'->Jan
open List renaming mem_singleton->Ja,mem_append_right->Jb,mem_append_left->Jc,getElem_mem->Jd,take_succ_eq_append_getElem->Je,length_map->Jf,mem_append->Jg,length_cons->Jh,map_append->Ji,getD_eq_getElem?_getD->Jj,nodup_append->Jl,length_nil->Jm,mem_map->Jn,perm_append_comm->Jo,length_append->Jp,take_of_length_le->Jr,drop_eq_getElem_cons->Js,mem_or_eq_of_mem_set->Jt,mem_flatMap->Ju,append_assoc->Jv,mem_cons_self->Jw,take_length->Jx,mem_of_getElem?->Jy,mem_cons->Jz,cons_append->J0,getElem_set->J1,length_take->J2,mem_cons_of_mem->J3,mem_iff_getElem->J4,length_set->J5,map_cons->J6,getElem_map->J7,getElem_cons_succ->J8,filter_append->J9,contains_iff_mem->Jaa,getElem?_eq_none->Jab,map_nil->Jac,nil_append->Jad,flatMap_cons->Jae,append_nil->Jaf,range_succ->Jag,ext_getElem->Jai,filter_cons->Jaj,getElem?_of_mem->Jak,getElem?_append_right->Jal,getElem?_append_left->Jam,eq_of_mem_replicate->Jao,getElem_cons_zero->Jaq,map_map->Jar,getElem?_set_ne->Jas,filter_sublist->Jat,flatMap_append->Jau,map_set->Jav,flatMap_nil->Jaw,filter_nil->Jax,mem_filter->Jay,nodup_cons->Jaz
open Nat renaming le_refl->Jk,zero_add->Jq,add_sub_cancel_left->Jap,zero_le->Ja0
open Option.some renaming inj->Ja1
namespace Go.AE.Y
attribute [local go_sem] cond_true cond_false Bool.not_true Bool.not_false
open Go.Proofs.Tryz
variable {H H0 F:Heap}{K:V→Heap→Prop}{E L:List (Nat×Obj)}
variable {q:CodeD}{fl:Bool}{l yi yp:Nat}{ss:List SetO}{pr:List (List C)}
theorem Qbc5 {ks:List Nat}{b R:Nat}(h:∀x∈ks,x<R):∀x∈ks.erase b,x<R:=fun x hx=>h x (List.mem_of_mem_erase hx)
theorem Qaux {ks:List Nat}{b x:Nat}(h:ks.Nodup):x∈ks.erase b↔x∈ks∧x≠b:=by rw[List.Nodup.mem_erase_iff h,and_comm]
set_option maxHeartbeats 4000000 in
theorem Qagz {b:Nat}{i:Int}(ho:q.ok)(hb:b<q.blocks.length)(hi:-1≤i)(hi2:i<q.blocks[b].ins.length)(him:imOk q ss pr)(kn:Kn F H (imE q fl l yi yp ss pr) [])
  (hK:∀M ver ks H',ks.Nodup→(∀x∈ks,x<q.regs.toNat)→(∀r,r∈ks↔(Qw q).beh ((Qw q).outT (tabS ss) b) b (i+1).toNat r)→Kn F H' (imE q fl l yi yp ss pr) [(M,.map ver (Qan ks))]→K (.c (.mp M)) H') :
  Qo prog Qbj [.c (.ptr l 0),.c (.int .i64 b),.c (.int .i64 i)] H K:=by
 have hr0:=ho.r0;have hr1:=ho.r1;obtain⟨y,hy⟩:∃y,q.blocks[b]=y:=⟨_,rfl⟩;have hyo:y.ok q b:=by rw[←hy];exact ho.bs b hb
 have hil:y.ins.length≤1200∧y.phis.length≤1200:=by rw[←hy];exact ho.il b hb
 rw[hy]at hi2;have hon:(Qw q).on b=if y.jump=1 then []else [y.on.toNat]:=by rw[Q2j hb,hy]
 have hins:(Qw q).ins b=y.ins.map fun x=>(Qmt x,toN x.args):=by rw[Qd8 hb,hy]
 refine Qb Qap Qac9 ?_;refine Qa ?_;simp only[go_sem];refine Qa ?_;simp only[go_sem];refine Qbuc ho hb him kn fun M ver ks H1 hnd hlt hks kn=>?_;generalize (Qw q).outT (tabS ss) b=W at *;obtain⟨hl,_,_⟩:=Q6s kn;simp only[go_sem,Qh1];refine Qa ?_;simp only[go_sem,hl,hb,Ql,Q1 _ _ hb,BlkD.cells,hy];intro x8 hx8 H2 h2;have kn:=kn.al hx8 h2;have hx8:=kn.l 1 rfl;simp only[go_sem,Qh2,hx8];intro H3 h3;have kn:Kn F H3 (imE q fl l yi yp ss pr) [(M,.map ver (Qan ks)),(x8,Q2f y)]:=kn.stL 1 rfl h3;refine Q5 ?_;refine Qa ?_;have hx8:H3 x8=.st [.sl false 2 (Qz y.phis),.sl false 4 (Qac y.ins),.int .i64 y.jump,.int .i64 y.on,.sl false 1 (Qe y.next)]:=kn.l 1 rfl;have hM:=kn.l 0 rfl;have hkl:=Qb1 hnd hlt;simp only[go_sem,hx8];refine Qag6 ?_;refine Qd3 (fun e2 H4=>∃(ver:Nat) (ks1:List Nat),ks1.Nodup∧(∀x∈ks1,x<q.regs.toNat)∧(∀r,r∈ks1↔(Qw q).endS W b r)∧Kn F H4 (imE q fl l yi yp ss pr) [(M,.map ver (Qan ks1)),(x8,Q2f y)]∧
  lk 2 e2=.c (.int .i64 i)∧lk 7 e2=.c (.mp M)∧lk 8 e2=.c (.ptr x8 0)) ?_ ?_
 ·intro Q hnr _ _;refine Qd rfl ?_ ?_
  ·intro hc;have hj:¬y.jump=1:=by simp at hc;omega
   obtain⟨hv,hvl⟩:=(hyo.on hj).nat;generalize hr:y.on.toNat=r at *;refine Qr ?_;simp only[go_sem,hx8,hM,hv,Qcg,Qf2,Q57];refine⟨by simp only[LIM];omega,fun H4 h4=>?_⟩;have kn:=kn.stL 0 rfl h4;refine hnr _ _ ⟨_,addK ks r,Qw6 hnd,Qavm hlt hvl,fun x=>?_,kn,rfl,rfl,rfl⟩;rw[addK_mem,hks,Flo.endS,hon,if_neg hj,Ja]
  ·intro hc;have hj:y.jump=1:=by
    have:=hyo.jmp;simp at hc;omega
   refine Qf ?_;try simp only[go_sem]
   refine hnr _ _ ⟨ver,ks,hnd,hlt,fun x=>?_,kn,rfl,rfl,rfl⟩;rw[hks,Flo.endS,hon,if_pos hj];simp
 ·clear hks hnd hlt kn hx8 hM hkl;rintro e2 H4 ⟨ver,ks,hnd,hlt,hks,kn,l2,l7,l8⟩;have hx8:H4 x8=.st [.sl false 2 (Qz y.phis),.sl false 4 (Qac y.ins),.int .i64 y.jump,.int .i64 y.on,.sl false 1 (Qe y.next)]:=kn.l 1 rfl;refine Q5 ?_;refine Qa ?_;simp only[go_sem,l2,l7,l8,hx8,Q3];intro _;refine⟨Qp (by omega) (by omega),?_⟩;refine Qh (Qc (Qu (fun m e1 H1=>∃(k:Nat) (j:Int) (ver:Nat) (ks:List Nat),m=k∧k≤y.ins.length∧i+1≤k∧j=(k:Int)-1∧ks.Nodup∧(∀x∈ks,x<q.regs.toNat)∧(∀r,r∈ks↔(Qw q).beh W b k r)∧Kn F H1 (imE q fl l yi yp ss pr) [(M,.map ver (Qan ks)),(x8,Q2f y)]∧
   lk 2 e1=.c (.int .i64 i)∧lk 7 e1=.c (.mp M)∧lk 8 e1=.c (.ptr x8 0)∧lk 9 e1=.c (.int .i64 j)) y.ins.length ?_ ?_))
  ·refine⟨y.ins.length,_,ver,ks,rfl,Jk _,by omega,rfl,hnd,hlt,fun r=>?_,kn,rfl,rfl,rfl,rfl⟩;rw[hks,Flo.beh_end _ _ _ (by rw[hins,Jf];exact Jk _)]
  ·clear hks hnd hlt kn hx8 l2 l7 l8;rintro m e1 H5 ⟨k,j,ver,ks,rfl,hk,hik,hjk,hnd,hlt,hks,kn,l2,l7,l8,l9⟩;have hx8:H5 x8=.st [.sl false 2 (Qz y.phis),.sl false 4 (Qac y.ins),.int .i64 y.jump,.int .i64 y.on,.sl false 1 (Qe y.next)]:=kn.l 1 rfl;refine Q5 ?_;refine Qa ?_;simp only[go_sem,l2,l7,l8,l9];refine Qh (Qd rfl ?_ ?_)
   ·intro hc;have hgt:i<j:=(by simpa using hc);obtain⟨k,rfl⟩:∃k',m=k'+1:=⟨m-1,by omega⟩;have hj:j=(k:Int):=(by omega);subst hj;have hkl:k<y.ins.length:=(by omega);obtain⟨x,hx⟩:∃x,y.ins[k]=x:=⟨_,rfl⟩;have hxm:x∈y.ins:=(by rw[←hx];exact Jd hkl);have hstep:(Qw q).beh W b k=Qbja (Qmt x,toN x.args) ((Qw q).beh W b (k+1)):=by
     rw[Flo.beh_step _ _ _ (by rw[hins,Jf];exact hkl)];simp only[hins,J7,hx]
    refine Qf ?_;try simp only[go_sem]
    refine Qd3 (fun e2 H6=>∃(ver:Nat) (ks:List Nat),ks.Nodup∧(∀x∈ks,x<q.regs.toNat)∧(∀r,r∈ks↔(Qw q).beh W b k r)∧Kn F H6 (imE q fl l yi yp ss pr) [(M,.map ver (Qan ks)),(x8,Q2f y)]∧
     lk 2 e2=.c (.int .i64 i)∧lk 7 e2=.c (.mp M)∧lk 8 e2=.c (.ptr x8 0)∧lk 9 e2=.c (.int .i64 k)) ?_ ?_
    ·intro Q hnr _ _;refine Qc ?_;refine Q5 ?_;refine Qa ?_;simp only[go_sem,hx8,hkl,Q3,Qa2 _ _ hkl,InsD.take4,InsD.allOw,InsD.len4,hx];refine Qbe2 ?_;simp only[go_sem,Qh3];refine Q5 ?_;refine Qa ?_;simp only[go_sem];refine Qd3 (fun e2 H6=>∃(ver:Nat) (ks1:List Nat),ks1.Nodup∧(∀x∈ks1,x<q.regs.toNat)∧(∀r,r∈ks1↔(Qw q).beh W b (k+1) r∧Qmt x≠some r)∧Kn F H6 (imE q fl l yi yp ss pr) [(M,.map ver (Qan ks1)),(x8,Q2f y)]∧
      lk 2 e2=.c (.int .i64 i)∧lk 7 e2=.c (.mp M)∧lk 8 e2=.c (.ptr x8 0)∧lk 9 e2=.c (.int .i64 k)) ?_ ?_
     ·intro Q hnr _ _;refine Qd rfl ?_ ?_
      ·intro hc2;have hmk:Qdp x.op=true:=by
        cases hmk:Qdp x.op with
        |true=>rfl
        |false=>simp[Q0v,hmk]at hc2
       obtain⟨hv,hvl⟩:=(hyo.to x hxm hmk).nat;have hmi:Q0v x=x.to:=(by rw[Q0v,hmk];rfl);have hmo:Qmt x=some x.to.toNat:=(by rw[Qmt,hmk];rfl);have hM:=kn.l 0 rfl;rw[hmi];rw[hmo]at hnr;generalize hr:x.to.toNat=r at *;refine Qr ?_;simp only[go_sem,hM,hv,Qcg,Qf2,Qauj];intro H6 h6;have kn:=kn.stL 0 rfl h6;refine hnr _ _ ⟨_,ks.erase r,hnd.erase _,Qbc5 hlt,fun z=>?_,kn,rfl,rfl,rfl,rfl⟩;rw[Qaux hnd,hks];simp[eq_comm]
      ·intro hc2;have hmk:Qdp x.op=false:=by
        cases hmk:Qdp x.op with
        |false=>rfl
        |true=>
         have:=(hyo.to x hxm hmk).1;simp[Q0v,hmk]at hc2;omega
       have hmo:Qmt x=none:=(by rw[Qmt,hmk];rfl);rw[hmo]at hnr;refine Qf ?_;try simp only[go_sem]
       exact hnr _ _ ⟨ver,ks,hnd,hlt,fun z=>by rw[hks];simp,kn,rfl,rfl,rfl,rfl⟩
     ·clear hks hnd hlt kn hx8 l2 l7 l8 l9;rintro e2 H6 ⟨ver,ks,hnd,hlt,hks,kn,l2,l7,l8,l9⟩;have hx8:H6 x8=.st [.sl false 2 (Qz y.phis),.sl false 4 (Qac y.ins),.int .i64 y.jump,.int .i64 y.on,.sl false 1 (Qe y.next)]:=kn.l 1 rfl;have hM:=kn.l 0 rfl;refine Qr ?_;simp only[go_sem,l2,l7,l8,l9,hx8,hkl,Q3,Qa2 _ _ hkl,InsD.cells,hx];refine Qbux (R:=q.regs.toNat) hM hnd hlt (by omega) (fun v hv=>by have:=(hyo.args x hxm v hv);exact⟨this.1,this.nat.2⟩) fun ver' ks' H7 hu hnd' hks'=>?_;have kn:=kn.callL 0 rfl hu (by simp);refine hnr _ _ ⟨ver',ks',hnd',fun z hz=>?_,fun r=>?_,kn,rfl,rfl,rfl,rfl⟩
      ·rcases (hks' z).1 hz with h|h
       ·exact hlt z h
       ·obtain⟨v,hv,rfl⟩:=Jn.1 h;exact (hyo.args x hxm v hv).nat.2
      ·rw[hks',hks,hstep];exact Or.comm
    ·clear hks hnd hlt kn hx8 l2 l7 l8 l9;rintro e2 H6 ⟨ver,ks,hnd,hlt,hks,kn,l2,l7,l8,l9⟩;refine Qr ?_;simp only[go_sem,l2,l7,l8,l9];refine⟨Qp (by omega) (by omega),?_⟩;show ∃m,_;exact⟨k,by omega,k,(k:Int)-1,ver,ks,rfl,by omega,by omega,rfl,hnd,hlt,hks,kn,rfl,rfl,rfl,rfl⟩
   ·intro hc;have hle:¬i<j:=(by simpa using hc);refine Qv ?_;try simp only[go_sem,X.next]
    refine Qa ?_;simp only[go_sem,l7];refine Qj ?_;simp only[go_sem,Q4,Qaa,Qoe,Ja,forall_eq,RS.op];have e1:(i+1).toNat=m:=(by omega);exact hK M ver ks H5 hnd hlt (fun r=>by rw[e1];exact hks r) (kn.drop (A:=[_]))
end Go.AE.Y
namespace Go.AE.Y
attribute [local go_sem] cond_true cond_false Bool.not_true Bool.not_false
open Go.Proofs.Tryz
variable {H H0 F:Heap}{K:V→Heap→Prop}{E L:List (Nat×Obj)}
def Qxc (ss:List SetO)(b:Nat):List Nat:=(ss[b]?.map SetO.ks).getD []
theorem Qbr0 {ss:List SetO}{b:Nat}(h:b<ss.length):Qxc ss b=ss[b].ks:=by simp[Qxc,h]
theorem Qbn5 {ss:List SetO}{b:Nat}{s:SetO}(h:b<ss.length):Qxc (ss.set b s)=fun c=>if c=b then s.ks else Qxc ss c:=by
 funext c
 by_cases hc:c=b
 ·subst hc;simp[Qxc,h]
 ·simp only[Qxc,hc,if_false];rw[Jas (fun e=>hc e.symm)]
set_option maxHeartbeats 4000000 in
theorem Qawh {q:CodeD}{fl:Bool}(ho:q.ok)(kn:Kn H0 H E L)
  (hK:∀l yi yp ss pr H',imOk q ss pr→(∀b,b<q.blocks.length→∀r,tabS ss b r↔(Qw q).LI b r)→Kn H0 H' E (imE q fl l yi yp ss pr++L)→K (.c (.ptr l 0)) H') :
  Qo prog Qfy [.ag [.int .i64 q.params,.int .i64 q.regs,.sl fl 5 (Qm q.blocks)]] H K:=by
 have hr0:=ho.r0;have hr1:=ho.r1;have hb0:=ho.b0;have hb1:=ho.b1;have hfit:=ho.fitsF;have hFn:(Qw q).n=q.blocks.length:=rfl;obtain⟨n,hn⟩:∃n,q.blocks.length=n:=⟨_,rfl⟩;refine Qb Qap Qa62 ?_;refine Qa ?_;simp only[go_sem];refine Qao ?_;simp only[go_sem,Ql,hn];refine⟨by simp only[LIM];omega,fun yi hyi H1 h1=>?_⟩;have kn:=kn.al hyi h1;simp only[go_sem,Qzr];intro l hl H2 h2;have kn:=kn.al hl h2;simp only[go_sem,Qzq];refine Q5 ?_;refine Qa ?_;simp only[go_sem,Ql,hn];intro _;refine Qh (Qc (Qu (fun m e1 H1=>∃(i:Nat) (cp:C) (Lg:List (Nat×Obj)) (pr:List (List C)),m=n-i∧i≤n∧pr.length=i∧(∀b,b<i→∃fl,pr.getD b []=[.sl fl 1 (Qe (Qam (gnx q) (b:Int) n))])∧(∀r∈pr,noOw r=true)∧Gr Lg 1 pr cp∧
  Kn H0 H1 E (([(l,.st [.int .i64 q.params,.int .i64 q.regs,.sl fl 5 (Qm q.blocks),.vsl yi 1 0 n,cp]),(yi,.vec 1 (List.replicate n [.mnil]))]++L)++Lg)∧
  e1=[(1,.c (.pp [.int .i64 q.params,.int .i64 q.regs,.sl fl 5 (Qm q.blocks)])),(3,.c (.ptr l 0)),(19,.c (.int .i64 n)),(20,.c (.int .i64 i))]) n ?_ ?_))
 ·refine⟨0,_,[],[],by omega,by omega,rfl,fun b hb=>by omega,by simp,.nil 1,?_,rfl⟩;refine kn.perm (Qt fun f hf h0 hc hp=>?_);have e1:=hc (l,.st [.int .i64 q.params,.int .i64 q.regs,.sl fl 5 (Qm q.blocks),.vsl yi 1 0 n,.sl true 1 []]) [(yi,.vec 1 (List.replicate n [.mnil]))];simp only[hf,e1,h0];omega
 ·clear kn h1 h2 hl hyi;rintro m e1 H3 ⟨i,cp,Lg,pr,hm,hi,hpl,hpr,hpo,hgr,kn,rfl⟩;have hcw:=hgr.isOw;refine Qa ?_;simp only[go_sem];refine Qh (Qd rfl ?_ ?_)
  ·intro hc;have hlt:i<n:=by simpa using hc
   have hltq:i<q.blocks.length:=by omega
   have hl:=kn.l 0 rfl;refine Qf ?_;try simp only[go_sem]
   refine Qh (Qc ?_);refine Qa ?_;simp only[go_sem];refine Qbw ?_;simp only[go_sem,hl,hcw];refine Qazq (rows:=Qm q.blocks) (nx:=gnx q) (Qav1 _ q fl) fun fl' H4 hu=>?_;have kn:=kn.call0 hu;have hl:=kn.l 0 rfl;have hin:(decide (0≤(i:Int))&&decide ((i:Int)≤((Qm q.blocks).length:Int)-1))=true:=by rw[Ql];simp;omega
   rw[Qaie,if_pos hin,Ql,hn];simp only[go_sem,Qzt,hl,hcw];refine kn.growR hgr (.mk' _ _ _ _) (by intro r hr;simp at hr;subst hr;rfl) (by simp only[LIM,Jh,Jm];omega) fun cp2 Lg2 H5 hgr2 hcw2 kn=>?_;have hl:=kn.l 0 rfl;simp only[go_sem,Qzs,hl,hcw2];intro H6 h6;have kn:=kn.stL 0 rfl h6;refine Qr ?_;simp only[go_sem,X.next];refine⟨Qp (by omega) (by omega),n-(i+1),by omega,i+1,cp2,Lg2,pr++[[.sl fl' 1 (Qe (Qam (gnx q) (i:Int) n))]],rfl,by omega,by simp[hpl],fun b hb=>?_,?_,hgr2,kn,rfl⟩
   ·by_cases hbi:b<i
    ·obtain⟨fl2,h⟩:=hpr b hbi;refine⟨fl2,?_⟩;rw[←h];simp[Jj,Jam (show b<pr.length by omega)]
    ·have:b=i:=(by omega);subst this;refine⟨fl',?_⟩;rw[Jj,Jal (by omega)];simp[hpl]
   ·intro r hr;rcases Jg.1 hr with hr|hr
    ·exact hpo r hr
    ·simp at hr;subst hr;rfl
  ·intro hc;have hin:i=n:=by have:n≤i:=(by simpa using hc);omega
   subst hin;obtain⟨yp,hyp,hLg⟩:∃yp,cp=.vsl yp 1 0 i∧Lg=[(yp,.vec 1 pr)]:=by
    rcases hgr with ⟨_,h,_⟩|⟨y,h1,h2⟩
    ·rw[h]at hpl;simp at hpl;omega
    ·exact⟨y,by rw[h1,hpl],h2⟩
   have hset0:Qw2 (List.replicate i (SetO.mk .mnil [] []))=List.replicate i [.mnil]:=by simp[Qw2]
   have hfm0:(List.replicate i (SetO.mk .mnil [] [])).flatMap SetO.lg=[]:=by
    rw[List.flatMap_eq_nil_iff];intro x hx;rw[Jao hx]
   have kn:Kn H0 H3 E (imE q fl l yi yp (List.replicate i (SetO.mk .mnil [] [])) pr++L):=by
    refine kn.perm (Qt fun f hf h0 hc hp=>?_);rw[hLg,hyp];simp only[imE,hset0,hfm0,hn,hf,h0];have e1:=hc (l,.st [.int .i64 q.params,.int .i64 q.regs,.sl fl 5 (Qm q.blocks),.vsl yi 1 0 i,.vsl yp 1 0 i]) [(yi,.vec 1 (List.replicate i [.mnil])),(yp,.vec 1 pr)];have e2:=hc (l,.st [.int .i64 q.params,.int .i64 q.regs,.sl fl 5 (Qm q.blocks),.vsl yi 1 0 i,.vsl yp 1 0 i]) [(yi,.vec 1 (List.replicate i [.mnil]))];have e3:=hc (yi,.vec 1 (List.replicate i [.mnil])) [(yp,.vec 1 pr)];omega
   have hks0:Qxc (List.replicate i (SetO.mk .mnil [] []))=fun _=>[]:=by
    funext b
    simp only[Qxc];rw[List.getElem?_replicate];split <;> rfl
   have hinv:ImInv (Qw q) q.regs.toNat (Qxc (List.replicate i (SetO.mk .mnil [] []))):=by rw[hks0];exact .start
   have him:imOk q (List.replicate i (SetO.mk .mnil [] [])) pr:=by
    refine⟨by simp[hn],fun s hs=>?_,by omega,fun b hb=>by rw[hn];exact hpr b (by omega)⟩;rw[Jao hs];exact⟨by simp,by simp,.inl ⟨rfl,rfl,rfl⟩⟩
   generalize List.replicate i (SetO.mk .mnil [] [])=ss at kn hinv him;clear hset0 hfm0 hks0 hLg hyp hgr hcw hpr hpl hpo hc hm hi;refine Qv ?_;simp only[go_sem,X.next];refine Q5 ?_;refine Qa ?_;simp only[go_sem];refine Qh (Qc (Qu (fun m e1 H1=>∃(ss:List SetO) (a:Bool),m=(if a=true then i * q.regs.toNat+1-tot i (Qxc ss)else 0)∧imOk q ss pr∧ImInv (Qw q) q.regs.toNat (Qxc ss)∧(a=false→∀b,b<i→∀r,(Qw q).inT (asS (Qxc ss)) b r→asS (Qxc ss) b r)∧
    Kn H0 H1 E (imE q fl l yi yp ss pr++L)∧
    lk 1 e1=.c (.pp [.int .i64 q.params,.int .i64 q.regs,.sl fl 5 (Qm q.blocks)])∧lk 3 e1=.c (.ptr l 0)∧lk 5 e1=.c (.bool a)) (i * q.regs.toNat+1-tot i (Qxc ss)) ?_ ?_))
   ·exact⟨ss,true,rfl,him,hinv,fun h=>by simp at h,kn,rfl,rfl,rfl⟩
   ·clear hinv him kn;clear ss;rintro m e1 H4 ⟨ss,a,hm,him,hinv,hcl,kn,l1,l3,l5⟩;have htb:=hinv.bound;rw[hFn,hn]at htb;refine Q5 ?_;refine Qa ?_;simp only[go_sem,l1,l3,l5];refine Qh (Qd rfl ?_ ?_)
    ·intro hat;rw[hat,if_pos rfl]at hm;refine Qf ?_;try simp only[go_sem]
     refine Qc ?_;refine Qa ?_;simp only[go_sem];refine Qa ?_;simp only[go_sem,Ql,hn];intro _;refine⟨Qp (by omega) (by omega),?_⟩;clear hcl;refine Qc (Qu (fun m1 e1 H1=>∃(k:Nat) (j:Int) (ss1:List SetO) (a:Bool),m1=k∧k≤i∧j=(k:Int)-1∧imOk q ss1 pr∧ImInv (Qw q) q.regs.toNat (Qxc ss1)∧tot i (Qxc ss)≤tot i (Qxc ss1)∧
      (a=true→tot i (Qxc ss)<tot i (Qxc ss1))∧(a=false→∀b,k≤b→b<i→∀r,(Qw q).inT (asS (Qxc ss1)) b r→asS (Qxc ss1) b r)∧
      Kn H0 H1 E (imE q fl l yi yp ss1 pr++L)∧
      e1=[(1,.c (.pp [.int .i64 q.params,.int .i64 q.regs,.sl fl 5 (Qm q.blocks)])),(3,.c (.ptr l 0)),(5,.c (.bool a)),(6,.c (.int .i64 j))]) i ?_ ?_)
     ·exact⟨i,_,ss,false,rfl,Jk _,rfl,him,hinv,Jk _,fun h=>by simp at h,fun _ b h1 h2=>by omega,kn,rfl⟩
     ·generalize hT0:tot i (Qxc ss)=T0 at *;clear hinv him kn hT0;clear ss;rintro m1 e1 H5 ⟨k,j,ss,a,rfl,hk,hjk,him,hinv,htot,htt,htf,kn,rfl⟩;have htb2:=hinv.bound;rw[hFn,hn]at htb2;refine Q5 ?_;refine Qa ?_;simp only[go_sem];refine Qh (Qd rfl ?_ ?_)
      ·intro hc;have hge:0≤j:=(by simpa using hc);obtain⟨b,rfl⟩:∃b,m1=b+1:=⟨m1-1,by omega⟩;have hj:j=(b:Int):=(by omega);subst hj;have hbn:b<i:=(by omega);have hbq:b<q.blocks.length:=(by omega);have hsl:=him.l;have hbs:b<ss.length:=(by omega);obtain⟨s,hs⟩:∃s,ss[b]=s:=⟨_,rfl⟩;have hsm:s∈ss:=(by rw[←hs];exact Jd hbs);have hso:=him.s s hsm;obtain⟨y,hy⟩:∃y,q.blocks[b]=y:=⟨_,rfl⟩;have hyo:y.ok q b:=(by rw[←hy];exact ho.bs b hbq);have hil:y.ins.length≤1200∧y.phis.length≤1200:=(by rw[←hy];exact ho.il b hbq);have hph:(Qw q).ph b=y.phis.map fun p=>p.to.toNat:=(by rw[Qag1 hbq,hy]);have hbF:b<(Qw q).n:=hbq;refine Qf ?_;try simp only[go_sem]
       refine Qd3 (fun e2 H2=>∃(ss2:List SetO) (a2:Bool),imOk q ss2 pr∧ImInv (Qw q) q.regs.toNat (Qxc ss2)∧tot i (Qxc ss)≤tot i (Qxc ss2)∧
        (a2=true→a=true∨tot i (Qxc ss)<tot i (Qxc ss2))∧(a2=false→a=false∧ss2=ss∧∀r,(Qw q).inT (asS (Qxc ss)) b r→asS (Qxc ss) b r)∧
        Kn H0 H2 E (imE q fl l yi yp ss2 pr++L)∧
        lk 1 e2=.c (.pp [.int .i64 q.params,.int .i64 q.regs,.sl fl 5 (Qm q.blocks)])∧lk 3 e2=.c (.ptr l 0)∧lk 5 e2=.c (.bool a2)∧lk 6 e2=.c (.int .i64 b)) ?_ ?_
       ·intro Q hnr _ _;refine Qc ?_;refine Qa ?_;simp only[go_sem];refine Qagz (F:=H5) (i:=-1) ho hbq (by omega) (by omega) him kn.mid fun M ver ks H6 hnd hlt hks k2=>?_;have kn:=kn.comp k2 rfl;simp only[go_sem,Qzu];refine Q5 ?_;refine Qa ?_;simp only[go_sem,hbq,Ql,Q1 _ _ hbq,hy,BlkD.cells,Qq];intro hpl;simp only[LIM]at hpl;obtain⟨B,hB⟩:∃B,imE q fl l yi yp ss pr++L=B:=⟨_,rfl⟩;rw[hB]at kn;refine Qh (Qc (Qu (fun m2 e1 H1=>∃(i2 ver:Nat) (ks2:List Nat),m2=y.phis.length-i2∧i2≤y.phis.length∧ks2.Nodup∧(∀x∈ks2,x<q.regs.toNat)∧(∀r,r∈ks2↔r∈ks∧r∉((Qw q).ph b).take i2)∧Kn H0 H1 E (B++[(M,.map ver (Qan ks2))])∧
         e1=[(1,.c (.pp [.int .i64 q.params,.int .i64 q.regs,.sl fl 5 (Qm q.blocks)])),(3,.c (.ptr l 0)),(5,.c (.bool a)),(6,.c (.int .i64 b)),(7,.c (.mp M)),(53,.c (.sl false 2 (Qz y.phis))),(54,.c (.int .i64 y.phis.length)),(55,.c (.int .i64 i2))]) y.phis.length ?_ ?_))
        ·exact⟨0,ver,ks,by omega,by omega,hnd,hlt,fun r=>by simp,kn,rfl⟩
        ·clear kn;rintro m2 e1 H7 ⟨i2,ver2,ks2,hm2,hi2,hnd2,hlt2,hks2,kn,rfl⟩;refine Qa ?_;simp only[go_sem];refine Qh (Qd rfl ?_ ?_)
         ·intro hc2;have hl2:i2<y.phis.length:=(by simpa using hc2);obtain⟨p,hp⟩:∃p,y.phis[i2]=p:=⟨_,rfl⟩;have hpm:p∈y.phis:=(by rw[←hp];exact Jd hl2);obtain⟨hv,hvl⟩:=(hyo.pto p hpm).nat;have htk3:((Qw q).ph b).take (i2+1)=((Qw q).ph b).take i2++[p.to.toNat]:=by
           rw[Je (by rw[hph,Jf];exact hl2)];simp[hph,hp]
          generalize hr:p.to.toNat=r at *;refine Qf ?_;try simp only[go_sem]
          refine Qh (Qc ?_);refine Qa ?_;simp only[go_sem,hl2,Qq,Qal _ _ hl2,PhiD.cells,hp];intro x9 hx9 H8 h8;have kn:=kn.al hx9 h8;have hx9:H8 x9=.st [.int .i64 0,.sl true 1 []]:=(kn.get (x9,.st [.int .i64 0,.sl true 1 []]) (by simp)).1;simp only[go_sem,Qzv,hx9];intro H9 h9;have kn:Kn H0 H9 E ((B++[(M,.map ver2 (Qan ks2))])++[(x9,.st [.int .i64 p.to,.sl false 1 (Qe p.args)])]):=by
           have:=kn.stL (B++[(M,Obj.map ver2 (Qan ks2))]).length (x:=x9) (o:=.st [.int .i64 0,.sl true 1 []]) (by simp) h9;simpa using this
          have hx9:H9 x9=.st [.int .i64 p.to,.sl false 1 (Qe p.args)]:=(kn.get (x9,.st [.int .i64 p.to,.sl false 1 (Qe p.args)]) (by simp)).1;have kn:=kn.drop;have hM:H9 M=.map ver2 (Qan ks2):=(kn.get (M,.map ver2 (Qan ks2)) (by simp)).1;refine Qr ?_;simp only[go_sem,hx9,hM,hv,Qcg,Qf2,Qauj];intro H10 h10;have kn:Kn H0 H10 E (B++[(M,.map (ver2+1) (Qan (ks2.erase r)))]):=by
           have:=kn.stL B.length (x:=M) (o:=.map ver2 (Qan ks2)) (by simp) h10;simpa using this
          refine Qr ?_;simp only[go_sem,X.next];refine⟨Qp (by omega) (by omega),y.phis.length-(i2+1),by omega,i2+1,ver2+1,ks2.erase r,rfl,by omega,hnd2.erase _,Qbc5 hlt2,fun z=>?_,kn,rfl⟩;rw[Qaux hnd2,hks2,htk3];simp only[Jg,Ja,not_or,and_assoc]
         ·intro hc2;have hge2:y.phis.length≤i2:=(by simpa using hc2);have hks3:∀r,r∈ks2↔(Qw q).inT (asS (Qxc ss)) b r:=fun r=>by
           rw[hks2,hks,Jr (by rw[hph,Jf];exact hge2)];rfl
          have hkl:=Qb1 hnd2 hlt2;subst hB;obtain⟨hl,hyi,hyp⟩:=Q6s (kn.drop).mid;have hM:H7 M=.map ver2 (Qan ks2):=(kn.get (M,.map ver2 (Qan ks2)) (by simp)).1;have htks:(Qw2 ss).take i=Qw2 ss:=Jr (by rw[Ql7];omega);have hkb:Qxc ss b=s.ks:=(by rw[Qbr0 hbs,hs]);have hsi:ss.length=i:=(by omega);refine Qv ?_;simp only[go_sem,X.next];have hsc:Qsn H7 s.c∧Qak H7 s.c=Qan s.ks∧s.c.isOw=false:=by
           refine⟨?_,?_,hso.isOw⟩ <;> rcases hso.m with ⟨h1,_,h2⟩|⟨N,v,h1,h2⟩
           ·rw[h1];trivial
           ·have:=Qahx (kn.drop).mid hsm h2;rw[h1];simp only[Qsn,this]
           ·rw[h1,h2];rfl
           ·have:=Qahx (kn.drop).mid hsm h2;rw[h1];simp only[Qak,this]
          obtain⟨hok1,hen1,hcw1⟩:=hsc;have hok1:=eq_true hok1;have hslen:=hso.len;have hokM:Qsn H7 (.mp M)=True:=(by simp only[Qsn,hM]);have henM:Qak H7 (.mp M)=Qan ks2:=(by simp only[Qak,hM]);refine Qao ?_;simp only[go_sem,hl,hyi,hM,htks,Ql7,Qxi _ _ hbs,hs,hbn,hn,hsi,hok1,hen1,hcw1,hokM,henM,Qf2,Jq,Jk];refine Qd rfl ?_ ?_
          ·intro hc3;have hne:¬ks2.length=(Qxc ss b).length:=(by rw[hkb];simp at hc3;omega);obtain⟨g1,g2⟩:=hinv.step hfit hbF hnd2 hlt2 hks3 hne;rw[hFn,hn]at g2;have hks':=Qbn5 (s:=⟨.mp M,[(M,.map ver2 (Qan ks2))],ks2⟩) hbs;refine Qr ?_;simp only[go_sem,hl,hyi,htks,Ql7,Qxi _ _ hbs,hs,hbn,hn,hsi,Jq,Jk];intro H8 h8;have hrow:(Qw2 ss).set b [.mp M]=Qw2 (ss.set b ⟨.mp M,[(M,.map ver2 (Qan ks2))],ks2⟩):=(by simp[Qw2,Jav]);rw[hrow]at h8;have k5:Kn H0 H8 E (((([(l,.st [.int .i64 q.params,.int .i64 q.regs,.sl fl 5 (Qm q.blocks),.vsl yi 1 0 q.blocks.length,.vsl yp 1 0 q.blocks.length]),(yi,.vec 1 (Qw2 (ss.set b ⟨.mp M,[(M,.map ver2 (Qan ks2))],ks2⟩))),(yp,.vec 1 pr)]++ss.flatMap SetO.lg)++L)++[(M,.map ver2 (Qan ks2))])):=kn.stL 1 (x:=yi) (o:=.vec 1 (Qw2 ss)) rfl h8;have kn:Kn H0 H8 E ((imE q fl l yi yp (ss.set b ⟨.mp M,[(M,.map ver2 (Qan ks2))],ks2⟩) pr++L)++ss[b].lg):=by
            refine k5.perm (Qt fun f hf h0 hc hp=>?_);have e1:=hp _ _ (Qhb SetO.lg ss b hbs);have e2:=hp _ _ (Qfq SetO.lg ss b ⟨.mp M,[(M,.map ver2 (Qan ks2))],ks2⟩ hbs);simp only[hf]at e1 e2;simp only[imE,hf];omega
           have kn:=kn.drop;simp only[go_sem,Qtc];refine hnr _ _ ⟨ss.set b ⟨.mp M,[(M,.map ver2 (Qan ks2))],ks2⟩,true,⟨by rw[J5];exact hsl,fun s2 hs2=>?_,him.pl,him.p⟩,by rw[hks'];exact g1,by rw[hks'];exact Nat.le_of_lt g2,fun _=>.inr (by rw[hks'];exact g2),fun h=>by simp at h,kn,rfl,rfl,rfl,rfl⟩;rcases Jt hs2 with h|rfl
           ·exact him.s s2 h
           ·exact⟨hnd2,hlt2,.inr ⟨M,ver2,rfl,rfl⟩⟩
          ·intro hc3;have heq:ks2.length=(Qxc ss b).length:=(by rw[hkb];simp at hc3;omega);refine Qf ?_;try simp only[go_sem]
           exact hnr _ _ ⟨ss,a,him,hinv,Jk _,fun h=>.inl h,fun h=>⟨h,rfl,hinv.same hbF hnd2 hks3 heq⟩,kn.drop,rfl,rfl,rfl,rfl⟩
       ·rintro e2 H6 ⟨ss2,a2,him2,hinv2,t1,t2,t3,kn,l1,l3,l5,l6⟩;refine Qr ?_;simp only[go_sem,X.next,l1,l3,l5,l6];refine⟨Qp (by omega) (by omega),b,by omega,b,(b:Int)-1,ss2,a2,rfl,by omega,rfl,him2,hinv2,by omega,fun ha=>?_,fun ha c hbc hci=>?_,kn,rfl⟩
        ·rcases t2 ha with h|h
         ·have:=htt h;omega
         ·omega
        ·obtain⟨u1,u2,u3⟩:=t3 ha;rw[u2];by_cases hcb:c=b
         ·subst hcb;exact u3
         ·exact htf u1 c (by omega) hci
      ·intro hc;have hlt0:¬0≤j:=(by simpa using hc);have hk0:m1=0:=(by omega);subst hk0;refine Qv ?_;try simp only[go_sem,X.next]
       refine⟨if a=true then i * q.regs.toNat+1-tot i (Qxc ss)else 0,?_,ss,a,rfl,him,hinv,fun ha b hb=>htf ha b (by omega) hb,kn,by first|exact⟨rfl,rfl⟩|exact rfl|trivial⟩;split
       ·have:=htt ‹_›;omega
       ·omega
    ·intro haf;have hcl:=hcl haf;refine Qv ?_;simp only[go_sem,X.next];refine Qa ?_;simp only[go_sem];refine Qj ?_;simp only[go_sem,Q4,Qaa,Qaij,Ja,forall_eq,RS.op];exact hK l yi yp ss pr H4 him (fun b hb r=>hinv.done (fun b hb=>hcl b (by omega)) hb r) kn
variable {q:CodeD}{fl:Bool}{l yi yp:Nat}{ss:List SetO}{pr:List (List C)}
theorem Qbj2 (ho:q.ok)(h:∀b,b<q.blocks.length→∀r,tabS ss b r↔(Qw q).LI b r){b:Nat}(hb:b<q.blocks.length)(r:Nat):(Qw q).outT (tabS ss) b r↔(Qw q).LO b r:=
 Flo.outT_congr ho.fitsF h hb r
theorem Qbdh (ho:q.ok)(h:∀b,b<q.blocks.length→∀r,tabS ss b r↔(Qw q).LI b r){b:Nat}(hb:b<q.blocks.length)(k r:Nat):(Qw q).beh ((Qw q).outT (tabS ss) b) b k r↔(Qw q).LB b k r:=
 Flo.beh_congr (Qbj2 ho h hb) b k r
end Go.AE.Y
namespace Go.AE.Y
attribute [local go_sem] cond_true cond_false Bool.not_true Bool.not_false
open Go.Proofs.Tryz
variable {H H0 F:Heap}{K:V→Heap→Prop}{E L:List (Nat×Obj)}
set_option maxHeartbeats 2000000 in
theorem Q98 {cs:List CodeD}{fl:Bool}{k:Int}(hfit:∀c∈cs,c.fits)(hK:∀(H':Heap),Upd H H' []→K (.c (.int .i64 (Qaqh cs k))) H') :
  Qo prog Qfs [.ag [.sl fl 3 (Qk cs)],.c (.int .i64 k)] H K:=by
 refine Qy ?_;refine Qb Qap Qawm ?_;refine Qa ?_;simp only[go_sem];refine Q5 ?_;refine Qa ?_;simp only[go_sem];refine Qbna hfit fun H1 hu=>?_;have kn:=(Kn.start0 H).call0 hu;simp only[go_sem,Qoj];refine Qh (Qd rfl ?_ ?_)
 ·intro hc;have hc:=Qsm hc;refine Qa ?_;simp only[go_sem];refine Qj ?_;simp only[go_sem,X.next,Q4,Qaa,Qmv,Ja,forall_eq,RS.op];have hK:=hK _ kn.fin;rw[Qaqh,hc]at hK;exact⟨_,.c _ _ (Qg rfl),hK⟩
 ·intro hc;have hc:=Qgt hc;obtain⟨m,hm,rfl,hok⟩:=Qbi2 hc;have hcode:Qaqh cs m=(Qaw3 cs[m]:Nat):=by rw[Qaqh,if_pos hc];simp[hm]
  rw[hcode]at hK;obtain⟨q,hq⟩:∃q,cs[m]=q:=⟨_,rfl⟩;rw[hq]at hok hK;have hr1:=hok.r1;have hb1:=hok.b1;refine Qf ?_;try simp only[go_sem]
  refine Qa ?_;simp only[go_sem,hm,Qx,Qad _ _ hm,CodeD.cells,hq];refine Qawh hok kn fun l yi yp ss pr H2 him hlv kn=>?_;simp only[go_sem,Qok];refine Q5 ?_;refine Qa ?_;simp only[go_sem,hm,Qx,Qad _ _ hm,CodeD.cells,hq,Ql];intro _;refine Qh (Qc (Qu (fun mm e1 H1=>∃(b:Nat),mm=q.blocks.length-b∧b≤q.blocks.length∧Kn H H1 [] (imE q false l yi yp ss pr++[])∧
   e1=[(5,.c (.ptr l 0)),(6,.c (.int .i64 (mxF (Qxj q) b:Nat))),(25,.c (.sl false 5 (Qm q.blocks))),(26,.c (.int .i64 q.blocks.length)),(27,.c (.int .i64 b))]) q.blocks.length ?_ ?_))
  ·exact⟨0,by omega,by omega,kn,rfl⟩
  ·clear kn;rintro mm e1 H3 ⟨b,hmm,hb,kn,rfl⟩;have hup:=Qa0x (Qbcz q) b;refine Qa ?_;simp only[go_sem];refine Qh (Qd rfl ?_ ?_)
   ·intro hc2;have hlt:b<q.blocks.length:=(by simpa using hc2);have hil:=(hok.il b hlt).1;obtain⟨y,hy⟩:∃y,q.blocks[b]=y:=⟨_,rfl⟩;rw[hy]at hil;refine Qf ?_;try simp only[go_sem]
    refine Qh (Qc ?_);refine Qa ?_;simp only[go_sem,hlt,Ql,Q1 _ _ hlt,BlkD.cells,hy];intro x8 hx8 H4 h4;have kn:=kn.al hx8 h4;have hx8:H4 x8=.st [.sl true 2 [],.sl true 4 [],.int .i64 0,.int .i64 0,.sl true 1 []]:=(kn.get (x8,.st [.sl true 2 [],.sl true 4 [],.int .i64 0,.int .i64 0,.sl true 1 []]) (by simp)).1;simp only[go_sem,Qol,hx8];intro H5 h5;have kn:Kn H H5 [] (imE q false l yi yp ss pr++[(x8,Q2f y)]):=by
     have:=kn.stL (imE q false l yi yp ss pr++[]).length (x:=x8) (o:=.st [.sl true 2 [],.sl true 4 [],.int .i64 0,.int .i64 0,.sl true 1 []]) (by simp) h5;simpa[Q2f]using this
    refine Qa ?_;simp only[go_sem];refine Qc (Qu (fun m2 e1 H1=>∃(k:Nat),m2=y.ins.length+1-k∧k≤y.ins.length+1∧Kn H H1 [] (imE q false l yi yp ss pr++[(x8,Q2f y)])∧
     e1=[(5,.c (.ptr l 0)),(6,.c (.int .i64 (upTo q b k:Nat))),(7,.c (.int .i64 b)),(8,.c (.ptr x8 0)),(9,.c (.int .i64 ((k:Int)-1))),(25,.c (.sl false 5 (Qm q.blocks))),(26,.c (.int .i64 q.blocks.length)),(27,.c (.int .i64 b))]) (y.ins.length+1) ?_ ?_)
    ·exact⟨0,by omega,by omega,kn,by rw[Qbm4];rfl⟩
    ·clear kn hx8;rintro m2 e1 H6 ⟨k,hm2,hk,kn,rfl⟩;have hx8:H6 x8=.st [.sl false 2 (Qz y.phis),.sl false 4 (Qac y.ins),.int .i64 y.jump,.int .i64 y.on,.sl false 1 (Qe y.next)]:=(kn.get (x8,Q2f y) (by simp)).1;have hup:=Qbs6 q b k;refine Q5 ?_;refine Qa ?_;simp only[go_sem,hx8,Q3];intro _;refine Qh (Qd rfl ?_ ?_)
     ·intro hc3;have hlt2:(k:Int)-1<y.ins.length:=(by simpa using hc3);refine Qf ?_;try simp only[go_sem]
      refine Qh (Qc ?_);refine Qr ?_;simp only[go_sem];refine Qagz (F:=H6) hok hlt (by omega) (by rw[hy];exact hlt2) him kn.mid fun M ver ks H7 hnd hlt3 hks k2=>?_;have kn:=kn.comp k2 rfl;have hkl:=Qb1 hnd hlt3;have hM:H7 M=.map ver (Qan ks):=(kn.get (M,.map ver (Qan ks)) (by simp)).1;have ek:((k:Int)-1+1).toNat=k:=(by omega);rw[ek]at hks;have hcount:ks.length=(Qgm q b k).length:=Qaqi hnd (Qazt Qbcx) fun x=>by
       rw[hks,Qbdh hok hlv hlt,Qgm,ascL_mem];exact⟨fun h=>⟨Flo.LB_lt hok.fitsF hok.bdF hlt _ x h,h⟩,fun h=>h.2⟩
      have hokM:Qsn H7 (.mp M)=True:=(by simp only[Qsn,hM]);have henM:Qak H7 (.mp M)=Qan ks:=(by simp only[Qak,hM]);simp only[go_sem,Qom,hokM,henM,Qf2,hcount,Qbua];have hbn:=Qavo q b k;try intro _
      refine Qr ?_;simp only[go_sem,X.next];refine⟨Qp (by omega) (by omega),y.ins.length+1-(k+1),by omega,k+1,rfl,by omega,kn.drop,?_⟩;rw[Qbm3];have:(k:Int)-1+1=((k+1:Nat):Int)-1:=(by omega);rw[this]
     ·intro hc3;have hk2:k=y.ins.length+1:=(by have:¬(k:Int)-1<y.ins.length:=(by simpa using hc3);omega);subst hk2;have hue:=Qbqj hlt;rw[hy]at hue;rw[hue];refine Qv ?_;simp only[go_sem,X.next];refine Qr ?_;simp only[go_sem,X.next];exact⟨Qp (by omega) (by omega),q.blocks.length-(b+1),by omega,b+1,rfl,by omega,by simpa using kn.drop,rfl⟩
   ·intro hc2;have hbe:b=q.blocks.length:=(by have:q.blocks.length≤b:=(by simpa using hc2);omega);subst hbe;refine Qv ?_;simp only[go_sem,X.next];refine Qa ?_;simp only[go_sem];refine Qj ?_;simp only[go_sem,X.next,Q4,Qaa,Qmv,Ja,forall_eq,RS.op];exact⟨_,.c _ _ (Qg rfl),hK _ kn.fin⟩
end Go.AE.Y
namespace Go.AE.Y
attribute [local go_sem] cond_true cond_false Bool.not_true Bool.not_false
open Go.Proofs.Tryz
variable {H H0:Heap}{K:V→Heap→Prop}{E B Lg:List (Nat×Obj)}
theorem Q0o {S:Nat→Bool}{a b a' b':V}(h:FrzV H S a a')(k:FrzV H S b b'):FrzV H S (.tup [a,b]) (.tup [a',b']):=by
 refine .tup _ _ rfl fun j x x' h1 h2=>?_
 match j with
 |0=>simp at h1 h2;subst h1;subst h2;exact h
 |1=>simp at h1 h2;subst h1;subst h2;exact k
 |j+2=>simp at h1
theorem Q56 {S:Nat→Bool}(cs:List CodeD):FrzV H S (.ag [.sl false 3 (Qk cs)]) (.ag [.sl false 3 (Qk cs)]):=FrzL.ag (.cons (FrzR.same (Qbh cs)).sl .nil)
theorem UnitOk.fits {cs:List CodeD}(h:UnitOk cs):∀c∈cs,c.fits:=fun c hc=>(h.2.2 c hc).f
end Go.AE.Y
namespace Go.AE
variable {H0 F H:Heap}{E E' L M:List (Nat×Obj)}
theorem Kn.midE (k:Kn H0 F E L):Kn F F E []:=.startE (fun p hp=>k.get p (Jc _ hp)) k.dE
theorem Kn.compA (k1:Kn H0 F E L)(k2:Kn F H E' M)(hE:E'.map Prod.fst=E.map Prod.fst):Kn H0 H E' (L++M):=by
 have inE:∀p∈E',∃q∈E,q.1=p.1:=fun p hp=>by
  have:=Qah hp;rw[hE]at this;obtain⟨q,h1,h2⟩:=Jn.1 this;exact⟨q,h1,h2⟩
 have hL:∀p∈L,F p.1=p.2∧p.2≠.none:=fun p hp=>k1.get p (Jb _ hp);have hLE:∀p∈L,p.1∉E'.map Prod.fst:=fun p hp h=>by
  rw[hE]at h;obtain⟨q,hq,hh⟩:=Jn.1 h;exact k1.ext q hq (hh▸k1.loc p hp)
 refine⟨fun p hp=>?_,fun p hp=>?_,fun p hp=>?_,by rw[hE];exact k1.dE,?_,fun m hm hn=>?_⟩
 ·rw[←Jv]at hp;rcases Jg.1 hp with hp|hp
  ·rcases Jg.1 hp with hp|hp
   ·exact k2.get p (Jc _ hp)
   ·obtain⟨h1,h2⟩:=hL p hp;exact⟨by rw[k2.chg p.1 (by rw[h1];exact h2) (hLE p hp),h1],h2⟩
  ·exact k2.get p (Jb _ hp)
 ·obtain⟨q,hq,hh⟩:=inE p hp;rw[←hh];exact k1.ext q hq
 ·rcases Jg.1 hp with hp|hp
  ·exact k1.loc p hp
  ·exact (k1.newFree (k2.loc p hp)).1
 ·rw[Ji];refine Jl.2 ⟨k1.dL,k2.dL,fun a ha b hb hab=>?_⟩;obtain⟨p,hp,rfl⟩:=Jn.1 ha;obtain⟨q,hq,rfl⟩:=Jn.1 hb;obtain⟨h1,h2⟩:=hL p hp;have:=k2.loc q hq;rw[←hab,h1]at this;exact h2 this
 ·have h1:=k1.chg m hm (by rw[←hE];exact hn);rw[k2.chg m (by rw[h1];exact hm) hn,h1]
end Go.AE
namespace Go.AE.Y
attribute [local go_sem] cond_true cond_false Bool.not_true Bool.not_false
open Go.Proofs.Tryz
variable {H H0 F:Heap}{K:V→Heap→Prop}{E L:List (Nat×Obj)}
variable {q:CodeD}{fl:Bool}{l yi yp:Nat}{ss:List SetO}{pr:List (List C)}
attribute [local instance] Classical.propDecidable
def Q22 (op:Int):Bool:=decide (1≤op∧op≤10)&&!decide (op=6)&&!decide (op=7)
theorem Q0y {op:Int}(h:Q22 op=true):Qdp op=true∧op≤10∧¬op=6∧¬op=7:=by
 simp only[Q22,Jah,decide_eq_true_eq,Jan,decide_eq_false_iff_not]at h;obtain⟨⟨h1,h2⟩,h3⟩:=h;refine⟨?_,h1.2,h2,h3⟩;simp only[Qdp,Jah,decide_eq_true_eq,Jan,decide_eq_false_iff_not];omega
theorem Qbog {op:Int}(hK:K (.c (.bool (decide (1≤op∧op≤10)))) H):Qo prog Qaht [.c (.int .i64 op)] H K:=by
 refine Qb Qap Qbo1 ?_;refine Qa ?_;simp only[go_sem];refine Qa ?_;simp only[go_sem];refine Qdo ?_;simp only[go_sem,Qanq];refine Qj ?_;simp only[go_sem,Q4,Qaa,Qbdx,Ja,forall_eq,RS.op];exact hK
theorem Qbfa {op:Int}(hK:K (.c (.bool (Q22 op))) H):Qo prog Q0l [.c (.int .i64 op)] H K:=by
 refine Qb Qap Qbfi ?_;refine Qa ?_;simp only[go_sem];refine Qa ?_;simp only[go_sem];refine Qbog ?_;simp only[go_sem,Q41];refine Qj ?_;simp only[go_sem,Q4,Qaa,Qau1,Ja,forall_eq,RS.op];have:∀a b c:Bool,(bif bif a then b else false then c else false)=(a&&b&&c):=by decide
 rw[this];exact hK
theorem Qbe1 {op:Int}(hK:K (.c (.bool (Q22 op))) H):Qo prog Qi3 [.c (.int .i64 op)] H K:=by
 refine Qb Qap Qawo ?_;refine Qa ?_;simp only[go_sem];have fin:∀(b:Bool) (e:Env),b=Q22 op→lk 4 e=.c (.bool b)→Qaj prog Qta (X.inBlock 0 (X.sq prog Qtb (Q4 Qgw K))) e H:=by
  intro b e hb l4;refine Qd l4 ?_ ?_
  ·intro hc;refine Qa ?_;simp only[go_sem];refine Qj ?_;simp only[go_sem,X.next,Q4,Qaa,Qgw,Ja,forall_eq,RS.op];rw[←hb,hc]at hK;exact hK
  ·intro hc;refine Qf ?_;try simp only[go_sem]
   refine Qa ?_;simp only[go_sem];refine Qj ?_;simp only[go_sem,X.next,Q4,Qaa,Qgw,Ja,forall_eq,RS.op];rw[←hb,hc]at hK;exact hK
 refine Q5 ?_;refine Qa ?_;simp only[go_sem];refine Qh (Qc ?_);refine Q5 ?_;refine Qa ?_;simp only[go_sem];refine Qh (Qd rfl ?_ ?_)
 ·intro hc;refine Qf ?_;try simp only[go_sem]
  exact fin true _ (by have:=of_decide_eq_true hc;rw[this];rfl) (by simpa[lk]using hc)
 intro h1;refine Qa ?_;simp only[go_sem];refine Qd rfl ?_ ?_
 ·intro hc;refine Qf ?_;try simp only[go_sem]
  exact fin true _ (by have:=of_decide_eq_true hc;rw[this];rfl) (by simpa[lk]using hc)
 intro h2;refine Qa ?_;simp only[go_sem];refine Qd rfl ?_ ?_
 ·intro hc;refine Qf ?_;try simp only[go_sem]
  exact fin true _ (by have:=of_decide_eq_true hc;rw[this];rfl) (by simpa[lk]using hc)
 intro h10;refine Qa ?_;simp only[go_sem];refine Qd rfl ?_ ?_
 ·intro hc;refine Qf ?_;try simp only[go_sem]
  exact fin true _ (by have:=of_decide_eq_true hc;rw[this];rfl) (by simpa[lk]using hc)
 intro h3;refine Qa ?_;simp only[go_sem];refine Qd rfl ?_ ?_
 ·intro hc;refine Qf ?_;try simp only[go_sem]
  exact fin true _ (by have:=of_decide_eq_true hc;rw[this];rfl) (by simpa[lk]using hc)
 intro h4;refine Qa ?_;simp only[go_sem];refine Qd rfl ?_ ?_
 ·intro hc;refine Qf ?_;try simp only[go_sem]
  exact fin true _ (by have:=of_decide_eq_true hc;rw[this];rfl) (by simpa[lk]using hc)
 intro h5;refine Qa ?_;simp only[go_sem];refine Qd rfl ?_ ?_
 ·intro hc;refine Qf ?_;try simp only[go_sem]
  exact fin true _ (by have:=of_decide_eq_true hc;rw[this];rfl) (by simpa[lk]using hc)
 intro h8;refine Qr ?_;simp only[go_sem];refine fin (decide (op=9)) _ ?_ rfl;simp only[decide_eq_false_iff_not]at h1 h2 h10 h3 h4 h5 h8;rw[Q22];by_cases h9:op=9
 ·subst h9;rfl
 ·have e1:decide (op=9)=false:=decide_eq_false h9;rw[e1];by_cases hr:1≤op∧op≤10
  ·have:op=6∨op=7:=by omega
   rcases this with h|h <;> subst h <;> rfl
  ·rw[decide_eq_false hr];rfl
noncomputable def Qav3 (q:CodeD)(b i:Nat)(x:InsD):Bool:=Q22 x.op&&!decide (x.to.toNat∈Qgm q b (i+1))
noncomputable def Qgs (q:CodeD)(b i:Nat):Bool:=match (q.blocks[b]?).bind (fun y=>y.ins[i]?)with
 |some x=>Qav3 q b i x
 |none=>false
theorem Qav4 {b i:Nat}(hb:b<q.blocks.length)(hi:i<q.blocks[b].ins.length):Qgs q b i=Qav3 q b i q.blocks[b].ins[i]:=by simp[Qgs,hb,hi]
set_option maxHeartbeats 1000000 in
theorem Qbc9 {b i:Nat}(ho:q.ok)(hb:b<q.blocks.length)(hi:i<q.blocks[b].ins.length)(him:imOk q ss pr)(hlv:∀b,b<q.blocks.length→∀r,tabS ss b r↔(Qw q).LI b r)(kn:Kn F H (imE q fl l yi yp ss pr) [])
  (hK:∀H',Kn F H' (imE q fl l yi yp ss pr) []→K (.c (.bool (Qgs q b i))) H') :
  Qo prog Qck [.c (.ptr l 0),.c (.int .i64 b),.c (.int .i64 i)] H K:=by
 obtain⟨y,hy⟩:∃y,q.blocks[b]=y:=⟨_,rfl⟩;have hyo:y.ok q b:=by rw[←hy];exact ho.bs b hb
 obtain⟨x,hx⟩:∃x,q.blocks[b].ins[i]=x:=⟨_,rfl⟩;have hP:Qgs q b i=Qav3 q b i x:=by rw[Qav4 hb hi,hx]
 rw[hP]at hK;have hi':i<y.ins.length:=by rw[←hy];exact hi
 have hx':y.ins[i]=x:=by subst hy;exact hx
 have hxm:x∈y.ins:=by rw[←hx'];exact Jd hi'
 have hr1:=ho.r1;refine Qb Qap Qada ?_;refine Qa ?_;simp only[go_sem];obtain⟨hl,_,_⟩:=Q6s kn;refine Qa ?_;simp only[go_sem,hl,hb,Ql,Q1 _ _ hb,BlkD.cells,hy,hi',Q3,Qa2 _ _ hi',InsD.take4,InsD.allOw,InsD.len4,hx',InsD.cells];intro x7 hx7 H1 h1;have kn:=kn.al hx7 h1;have hx7:=kn.l 0 rfl;simp only[go_sem,Qh4,hx7];intro H2 h2;have kn:Kn F H2 (imE q fl l yi yp ss pr) ([]++[(x7,.st [.int .i64 x.op,.int .i64 x.to,.sl false 1 (Qe x.args),.int .i64 x.n])]):=kn.stL 0 rfl h2;have hx7:=kn.l 0 rfl;refine Qao ?_;simp only[go_sem,hx7];refine Qbe1 ?_
 cases hq:Q22 x.op with
 |false=>
  have e1:Qak H2 C.unk=[]:=rfl;have e2:Q0i (C.int .i64 x.to) []=none:=rfl;simp only[go_sem,Qdj,Qdi,hx7,e1,e2,Option.getD_none];refine Qj ?_;simp only[go_sem,Q4,Qaa,Qgb,Ja,forall_eq,RS.op];have hK:=hK _ kn.drop;rw[Qav3,hq]at hK;exact hK
 |true=>
  obtain⟨hmk,_,_,_⟩:=Q0y hq;obtain⟨hv,hvl⟩:=(hyo.to x hxm hmk).nat;simp only[go_sem,Qdj,hx7];refine Qagz (F:=H2) ho hb (by omega) (by omega) him kn.midE fun M ver ks H3 hnd hlt hks k2=>?_;have kn3:=kn.compA k2 rfl;have hM:H3 M=.map ver (Qan ks):=k2.l 0 rfl;have hx7:H3 x7=.st [.int .i64 x.op,.int .i64 x.to,.sl false 1 (Qe x.args),.int .i64 x.n]:=kn3.l 0 rfl;have hokM:Qsn H3 (.mp M)=True:=by simp only[Qsn,hM]
  have henM:Qak H3 (.mp M)=Qan ks:=by simp only[Qak,hM]
  have hmem:decide (x.to.toNat∈ks)=decide (x.to.toNat∈Qgm q b (i+1)):=by
   have e1:((i:Int)+1).toNat=i+1:=by omega
   rw[decide_eq_decide,hks,e1,Qbdh ho hlv hb,Qgm,ascL_mem];exact⟨fun h=>⟨hvl,h⟩,fun h=>h.2⟩
  have hK:=hK _ (kn3.drop (A:=[]));rw[Qav3,hq,←hmem]at hK;generalize hr:x.to.toNat=r at *;simp only[go_sem,Qdi,hx7,hokM,henM,hv,Qcg,Qahf];refine Qj ?_;simp only[go_sem,Q4,Qaa,Qgb,Ja,forall_eq,RS.op];exact hK
end Go.AE.Y
namespace Go.AE.Y
attribute [local go_sem] cond_true cond_false Bool.not_true Bool.not_false
open Go.Proofs.Tryz
variable {H H0 F:Heap}{K:V→Heap→Prop}{E L:List (Nat×Obj)}
variable {q:CodeD}{fl:Bool}
attribute [local instance] Classical.propDecidable
def Qy0 (q:CodeD)(b:Nat):Nat:=((q.blocks[b]?.map BlkD.ins).getD []).length
theorem Qkd {b:Nat}(h:b<q.blocks.length):Qy0 q b=q.blocks[b].ins.length:=by simp[Qy0,h]
noncomputable def idlB (q:CodeD)(b n:Nat):List Nat:=(List.range n).filter (Qgs q b)
theorem Q2s (q:CodeD)(b n:Nat):idlB q b (n+1)=idlB q b n++if Qgs q b n=true then [n]else []:=by
 simp only[idlB,Jag,J9];congr 1;cases h:Qgs q b n <;> simp[h]
theorem Qav2 (q:CodeD)(b n:Nat):(idlB q b n).length≤n:=by
 have:=List.length_filter_le (Qgs q b) (List.range n);simpa[idlB]using this
def itB (k b:Nat)(l:List Nat):List (List Nat):=l.map fun i=>[k,b,i]
noncomputable def itC (q:CodeD)(k nb:Nat):List (List Nat):=(List.range nb).flatMap fun b=>itB k b (idlB q b (Qy0 q b))
theorem Qav8 (q:CodeD)(k nb:Nat):itC q k (nb+1)=itC q k nb++itB k nb (idlB q nb (Qy0 q nb)):=by simp[itC,Jag]
noncomputable def itU (cs:List CodeD)(nk:Nat):List (List Nat):=(List.range nk).flatMap fun k=>match cs[k]? with
 |some q=>itC q k q.blocks.length
 |none=>[]
theorem Qav9 {cs:List CodeD}{k:Nat}(h:k<cs.length):itU cs (k+1)=itU cs k++itC cs[k] k cs[k].blocks.length:=by simp[itU,Jag,h]
noncomputable def Q6r (cs:List CodeD):List (List Nat):=if Qew cs=true then itU cs cs.length else []
noncomputable def idlN (q:CodeD)(nb:Nat):Nat:=((List.range nb).map fun b=>(idlB q b (Qy0 q b)).length).sum
theorem Qbjg (q:CodeD)(k nb:Nat):(itC q k nb).length=idlN q nb:=by
 induction nb with
 |zero=>simp[itC,idlN]
 |succ n ih=>rw[Qav8,Jp,ih];simp[idlN,Jag,itB]
theorem Qbi3 {nb:Nat}(h:nb≤q.blocks.length):idlN q nb≤Qie Qxk (q.blocks.take nb):=by
 induction nb with
 |zero=>simp[idlN]
 |succ n ih=>
  have h1:=ih (by omega);have hn:n<q.blocks.length:=by omega
  rw[Qbz hn];have h2:=Qav2 q n (Qy0 q n);rw[Qkd hn]at h2;have h3:idlN q (n+1)=idlN q n+(idlB q n (Qy0 q n)).length:=by simp[idlN,Jag]
  rw[h3,Qkd hn,Qxk];omega
theorem Qbnq (q:CodeD):idlN q q.blocks.length≤Qgp q:=by
 have:=Qbi3 (q:=q) (Jk _)
 rwa [Jx]at this
theorem Qbt0 {cs:List CodeD}{k:Nat}(h:k≤cs.length):(itU cs k).length≤Qie Qgp (cs.take k):=by
 induction k with
 |zero=>simp[itU]
 |succ k ih=>
  have hk:k<cs.length:=by omega
  rw[Qav9 hk,Jp,Qbz hk,Qbjg];have:=Qbnq cs[k];have:=ih (by omega);omega
def Qob (ls:List (List Nat)):List (List C):=ls.map fun l=>[.sl true 1 (Qc6 l)]
theorem Qbfd (ls:List (List Nat)):(Qob ls).length=ls.length:=by simp[Qob]
theorem Qa6w (ls:List (List Nat))(l:List Nat):Qob ls++[[.sl true 1 (Qc6 l)]]=Qob (ls++[l]):=by simp[Qob]
theorem Qbfc {S:Nat→Bool}(ls:List (List Nat)):FrzR H S (Qob ls) (Qbdg ls):=by
 induction ls with
 |nil=>exact .nil
 |cons l ls ih=>exact .cons (.cons (FrzR.same (Q0w _)).sl .nil) ih
theorem Qbdk {bs:List Bool}{S:RS'}(h:Mem bs S)(r:Nat):bs.getD r false=decide (S r):=by
 rw[Bool.eq_iff_iff,h r,decide_eq_true_eq]
set_option maxHeartbeats 2000000 in
theorem Qbjp {zi zo:List (Nat×List Bool)}{b:Nat}(ho:q.ok)(hb:b<q.blocks.length)(hlv:Qbr6 q zi zo)
  (hK:∀H',Upd H H' []→K (.c (.sl false 1 (Qc6 (idlB q b (Qy0 q b))))) H') :
  Qo prog Q6l [.ag [.int .i64 q.params,.int .i64 q.regs,.sl fl 5 (Qm q.blocks)],.ag [.sl false 1 (Qgc zi),.sl false 1 (Qgc zo)],.c (.int .i64 b)] H K:=by
 obtain⟨y,hy⟩:∃y,q.blocks[b]=y:=⟨_,rfl⟩;have hyo:y.ok q b:=by rw[←hy];exact ho.bs b hb
 have hil:y.ins.length≤1200:=by rw[←hy];exact (ho.il b hb).1
 have hr1:=ho.r1;have hlo:=hlv.1.o;have hbz:b<zo.length:=by omega
 refine Qy ?_;refine Qb Qap Qbkd ?_;refine Qa ?_;simp only[go_sem];refine Qa ?_;simp only[go_sem];refine Q5 ?_;refine Qa ?_;simp only[go_sem];refine Qh (Qc (Qu (fun m e1 H1=>∃(i:Nat) (t:C) (Lg:List (Nat×Obj)),m=y.ins.length-i∧i≤y.ins.length∧Gr Lg 1 (Qc6 (idlB q b i)) t∧Kn H H1 [] ([]++Lg)∧
  e1=[(2,.c (.int .i64 b)),(3,.c (.pp [.int .i64 q.params,.int .i64 q.regs,.sl fl 5 (Qm q.blocks)])),(4,.c (.pp [.sl false 1 (Qgc zi),.sl false 1 (Qgc zo)])),(7,.c t),(8,.c (.int .i64 i))]) y.ins.length ?_ ?_))
 ·exact⟨0,_,[],by omega,by omega,.nil 1,Kn.start0 H,rfl⟩
 ·rintro m e1 H1 ⟨i,t,Lg,hm,hi,hgr,kn,rfl⟩;have htw:=hgr.isOw;refine Q5 ?_;refine Qa ?_;simp only[go_sem,htw,hb,Ql,Q1 _ _ hb,BlkD.cells,hy,Q3];intro _;refine Qh (Qd rfl ?_ ?_)
  ·intro hc;have hlt:i<y.ins.length:=by simpa using hc
   obtain⟨x,hx⟩:∃x,y.ins[i]=x:=⟨_,rfl⟩;have hxm:x∈y.ins:=by rw[←hx];exact Jd hlt
   have hP:Qgs q b i=Qav3 q b i x:=by rw[Qav4 hb (by rw[hy];exact hlt)];subst hy;rw[hx]
   have hidl:=Qav2 q b i;refine Qf ?_;try simp only[go_sem]
   refine Qd3 (fun e2 H2=>∃(t:C) (Lg:List (Nat×Obj)),Gr Lg 1 (Qc6 (idlB q b (i+1))) t∧Kn H H2 [] ([]++Lg)∧lk 2 e2=.c (.int .i64 b)∧lk 3 e2=.c (.pp [.int .i64 q.params,.int .i64 q.regs,.sl fl 5 (Qm q.blocks)])∧lk 4 e2=.c (.pp [.sl false 1 (Qgc zi),.sl false 1 (Qgc zo)])∧lk 7 e2=.c t∧lk 8 e2=.c (.int .i64 i)) ?_ ?_
   ·intro Q hnr _ _;refine Qc ?_;refine Qa ?_;simp only[go_sem,htw,hb,Ql,Q1 _ _ hb,BlkD.cells,hy,hlt,Q3,Qa2 _ _ hlt,InsD.take4,InsD.allOw,InsD.len4,hx,InsD.cells];intro x9 hx9 H2 h2;have kn:=kn.al hx9 h2;have hx9:H2 x9=.st [.int .i64 0,.int .i64 0,.sl true 1 [],.int .i64 0]:=(kn.get (x9,.st [.int .i64 0,.int .i64 0,.sl true 1 [],.int .i64 0]) (by simp)).1;simp only[go_sem,Qabc,hx9,htw];intro H3 h3;have kn:Kn H H3 [] (Lg++[(x9,.st [.int .i64 x.op,.int .i64 x.to,.sl false 1 (Qe x.args),.int .i64 x.n])]):=by
     have:=kn.stL ([]++Lg).length (x:=x9) (o:=.st [.int .i64 0,.int .i64 0,.sl true 1 [],.int .i64 0]) (by simp) h3;simpa using this
    have hx9:H3 x9=.st [.int .i64 x.op,.int .i64 x.to,.sl false 1 (Qe x.args),.int .i64 x.n]:=(kn.get (x9,.st [.int .i64 x.op,.int .i64 x.to,.sl false 1 (Qe x.args),.int .i64 x.n]) (by simp)).1;refine Qd3 (fun e2 H2=>Kn H H2 [] ([]++Lg)∧lk 2 e2=.c (.int .i64 b)∧lk 3 e2=.c (.pp [.int .i64 q.params,.int .i64 q.regs,.sl fl 5 (Qm q.blocks)])∧lk 4 e2=.c (.pp [.sl false 1 (Qgc zi),.sl false 1 (Qgc zo)])∧lk 7 e2=.c t∧lk 8 e2=.c (.int .i64 i)∧lk 45 e2=.c (.bool (Qgs q b i))) ?_ ?_
    ·intro Q hnr _ _;refine Qbw ?_;simp only[go_sem,hx9,htw];refine Qbfa ?_
     cases hq:Q22 x.op with
     |false=>
      simp only[go_sem,Qty,Qtx,hx9,htw];exact hnr _ _ ⟨kn.drop,rfl,rfl,rfl,rfl,rfl,by rw[hP,Qav3,hq];rfl⟩
     |true=>
      obtain⟨hmk,_,_,_⟩:=Q0y hq;obtain⟨hv,hvl⟩:=(hyo.to x hxm hmk).nat;simp only[go_sem,Qty,hx9,htw];refine Qah0 (orows:=Qgc zo) (cb:=.sl false 1 (Qs zo[b].2)) (bs:=zo[b].2) (W:=(Qw q).LO b) ho hb (by omega) (by rw[hy];omega) kn (.mk' _ _ _ _) rfl rfl (by rw[Qa1d];exact hbz) (Qau4 _ _ hbz) (.mk' _ _ _ _) rfl (hlv.1.lo _ (Jd hbz))
       ((Qaw2 hbz).congr fun r=>(hlv.2 b hb r).2) fun y9 bs' H9 hbl hmem kn=>?_
      have hy9:H9 y9=.vec 1 (Qs bs'):=(kn.get (y9,.vec 1 (Qs bs')) (by simp)).1;have hx9:H9 x9=.st [.int .i64 x.op,.int .i64 x.to,.sl false 1 (Qe x.args),.int .i64 x.n]:=(kn.get (x9,.st [.int .i64 x.op,.int .i64 x.to,.sl false 1 (Qe x.args),.int .i64 x.n]) (by simp)).1;have e1:((i:Int)+1).toNat=i+1:=(by omega);rw[e1]at hmem;have hgd:bs'.getD x.to.toNat false=decide (x.to.toNat∈Qgm q b (i+1)):=by
       rw[Qbdk hmem,decide_eq_decide,Qgm,ascL_mem];exact⟨fun h=>⟨hvl,h⟩,fun h=>h.2⟩
      have hPv:Qgs q b i = !bs'.getD x.to.toNat false:=(by rw[hP,Qav3,hq,hgd];rfl);have hvl':x.to.toNat<bs'.length:=(by omega);have htk:(Qs bs').take q.regs.toNat=Qs bs':=Jr (by rw[Q7];omega);generalize hr:x.to.toNat=r at *;simp only[go_sem,Qtx,hx9,htw,hv,hy9,htk,hvl,Q7,hbl,Qau _ _ hvl',Jq,Jk];exact hnr _ _ ⟨kn.drop.drop,rfl,rfl,rfl,rfl,rfl,by rw[hPv];rfl⟩
    ·rintro e2 H4 ⟨kn,l2,l3,l4,l7,l8,l45⟩;refine Qd l45 ?_ ?_
     ·intro hc2;refine Qr ?_;simp only[go_sem,l2,l3,l4,l7,l8,htw];refine kn.growR (B:=[]) (new:=Qc6 [i]) hgr (.mk' _ _ _ _) (Q0w _) (by simp only[Qbfp,LIM,Jh,Jm];omega) fun t2 Lg2 H5 hgr2 ht2 kn=>?_;simp only[go_sem,Qabd,l2,l3,l4,l7,l8,ht2];refine hnr _ _ ⟨t2,Lg2,?_,kn,rfl,rfl,rfl,rfl,rfl⟩;rw[Q2s,hc2,if_pos rfl,Qbfo];exact hgr2
     ·intro hc2;refine Qf ?_;try simp only[go_sem]
      refine hnr _ _ ⟨t,Lg,?_,kn,l2,l3,l4,l7,l8⟩;rw[Q2s,hc2];simpa using hgr
   ·rintro e2 H2 ⟨t2,Lg2,hgr2,kn,l2,l3,l4,l7,l8⟩;have ht2:=hgr2.isOw;refine Qr ?_;simp only[go_sem,X.next,l2,l3,l4,l7,l8,ht2];exact⟨Qp (by omega) (by omega),y.ins.length-(i+1),by omega,i+1,t2,Lg2,rfl,by omega,hgr2,kn,by trivial⟩
  ·intro hc;have hge:i=y.ins.length:=by have:y.ins.length≤i:=(by simpa using hc);omega
   refine Qv ?_;simp only[go_sem,X.next];refine Qa ?_;simp only[go_sem,htw];refine Qj ?_;simp only[go_sem,Q4,Qaa,Qa06,Ja,forall_eq,RS.op,htw];have e:Qy0 q b=i:=by rw[Qkd hb,hy,hge]
   rw[e]at hK;exact⟨_,.c _ _ (hgr.frz kn (Q0w _)),hK _ kn.fin⟩
end Go.AE.Y
namespace Go.AE.Y
open Go.Proofs.Tryz
attribute [local instance] Classical.propDecidable
variable {q:CodeD}
noncomputable def kpD (q:CodeD)(b:Nat):Nat→List InsD→List InsD
 |_,[]=>[]
 |k,x::l=>if Qgs q b k=true then kpD q b (k+1) l else x::kpD q b (k+1) l
theorem Qawb {b:Nat}{l:List InsD}{x:InsD}:∀{k:Nat},kpD q b k (l++[x])=kpD q b k l++if Qgs q b (k+l.length)=true then []else [x]:=by
 induction l with
 |nil=>intro k;simp[kpD]
 |cons y l ih=>
  intro k;have e:k+(y::l).length=k+1+l.length:=by simp only[Jh];omega
  simp only[J0,kpD,e,ih];split <;> simp
theorem kpD_sub {b:Nat}:∀{l:List InsD} {k:Nat},(kpD q b k l).Sublist l
 |[],_=>.slnil
 |x::l,k=>by
  rw[kpD];split
  ·exact (kpD_sub).cons x
  ·exact (kpD_sub).cons_cons x
theorem Qbjj {b:Nat}:∀{l:List InsD} {k:Nat},(kpD q b k l).length=l.length→kpD q b k l=l∧∀i,i<l.length→Qgs q b (k+i)=false
 |[],_,_=>⟨rfl,fun i h=>by simp at h⟩
 |x::l,k,h=>by
  rw[kpD]at h⊢;split at h
  ·have:=(kpD_sub (q:=q) (b:=b) (l:=l) (k:=k+1)).length_le;simp only[Jh]at h;omega
  ·rename_i hi
   rw[if_neg hi];simp only[Jh]at h;obtain⟨h1,h2⟩:=Qbjj (b:=b) (l:=l) (k:=k+1) (by omega);refine⟨by rw[h1],fun i hil=>?_⟩
   cases i with
   |zero=>simpa using hi
   |succ i=>
    have:=h2 i (by simp only[Jh]at hil;omega);have e:k+(i+1)=k+1+i:=(by omega);rw[e];exact this
noncomputable def kpP (q:CodeD)(b:Nat)(l:List PhiD):List PhiD:=l.filter fun f=>decide (f.to.toNat∈Qgm q b 0)
noncomputable def Qmu (q:CodeD)(b:Nat)(y:BlkD):BlkD:={ y with phis:=kpP q b y.phis,ins:=kpD q b 0 y.ins }
noncomputable def Qaw (q:CodeD):CodeD:={ q with blocks:=q.blocks.mapIdx (Qmu q) }
theorem Qch:(Qaw q).blocks.length=q.blocks.length:=by simp[Qaw]
theorem Qgu {b:Nat}(h:b<q.blocks.length)(h2:b<(Qaw q).blocks.length):(Qaw q).blocks[b]=Qmu q b q.blocks[b]:=by simp[Qaw]
structure Shr (c d:CodeD):Prop where
 pr:d.params=c.params
 rg:d.regs=c.regs
 bl:d.blocks.length=c.blocks.length
 j:∀b (h1:b<c.blocks.length) (h2:b<d.blocks.length),d.blocks[b].jump=c.blocks[b].jump∧d.blocks[b].on=c.blocks[b].on∧d.blocks[b].next=c.blocks[b].next∧d.blocks[b].ins.Sublist c.blocks[b].ins∧d.blocks[b].phis.Sublist c.blocks[b].phis
theorem Shr.refl (c:CodeD):Shr c c:=⟨rfl,rfl,rfl,fun b h1 h2=>⟨rfl,rfl,rfl,.refl _,.refl _⟩⟩
theorem Shr.trans {c d e:CodeD}(h:Shr c d)(k:Shr d e):Shr c e:=⟨k.pr.trans h.pr,k.rg.trans h.rg,k.bl.trans h.bl,fun b h1 h2=>by
 have hd:b<d.blocks.length:=by rw[h.bl];exact h1
 obtain⟨a1,a2,a3,a4,a5⟩:=h.j b h1 hd;obtain⟨b1,b2,b3,b4,b5⟩:=k.j b hd h2;exact⟨b1.trans a1,b2.trans a2,b3.trans a3,b4.trans a4,b5.trans a5⟩⟩
theorem Qgv:Shr q (Qaw q):=⟨rfl,rfl,Qch,fun b h1 h2=>by
 rw[Qgu h1 h2];exact⟨rfl,rfl,rfl,kpD_sub,Jat⟩⟩
theorem Shr.next {c d:CodeD}(h:Shr c d):d.blocks.map BlkD.next=c.blocks.map BlkD.next:=Jai (by simp[h.bl]) fun b h1 h2=>by
 simp only[Jf]at h1 h2;simp only[J7];exact (h.j b h2 h1).2.2.1
theorem Shr.gnx {c d:CodeD}(h:Shr c d):gnx d=gnx c:=by funext i;rw[Y.gnx,Y.gnx,h.next]
theorem Shr.cnt {c d:CodeD}(h:Shr c d):Qgp d≤Qgp c∧(Qgp d=Qgp c→∀b (h1:b<c.blocks.length) (h2:b<d.blocks.length),d.blocks[b].ins.length=c.blocks[b].ins.length∧d.blocks[b].phis.length=c.blocks[b].phis.length):=by
 have key:∀m,m≤c.blocks.length→Qie Qxk (d.blocks.take m)≤Qie Qxk (c.blocks.take m)∧(Qie Qxk (d.blocks.take m)=Qie Qxk (c.blocks.take m)→∀b,b<m→∀(h1:b<c.blocks.length) (h2:b<d.blocks.length),d.blocks[b].ins.length=c.blocks[b].ins.length∧d.blocks[b].phis.length=c.blocks[b].phis.length):=fun m=>by
  induction m with
  |zero=>intro _;exact⟨by simp[Qie],fun _ b hb=>absurd hb (by omega)⟩
  |succ m ih=>
   intro hm;obtain⟨i1,i2⟩:=ih (by omega);have hc:m<c.blocks.length:=by omega
   have hd:m<d.blocks.length:=by rw[h.bl];exact hc
   obtain⟨_,_,_,s1,s2⟩:=h.j m hc hd;have l1:=s1.length_le;have l2:=s2.length_le;rw[Qbz hc,Qbz hd,Qxk,Qxk];refine⟨by omega,fun he b hb h1 h2=>?_⟩;by_cases hbm:b=m
   ·subst hbm;exact⟨by omega,by omega⟩
   ·exact i2 (by omega) b (by omega) h1 h2
 obtain⟨k1,k2⟩:=key _ (Jk _);have e1:d.blocks.take c.blocks.length=d.blocks:=by rw[←h.bl,Jx]
 have e2:c.blocks.take c.blocks.length=c.blocks:=Jx;rw[e1,e2]at k1 k2;exact⟨k1,fun he b h1 h2=>k2 he b h1 h1 h2⟩
theorem Qaw4 (h:Qgp (Qaw q)=Qgp q):Qaw q=q∧∀b (hb:b<q.blocks.length),∀i,i<q.blocks[b].ins.length→Qgs q b i=false:=by
 have k:=(Qgv (q:=q)).cnt.2 h;have key:∀b (hb:b<q.blocks.length),Qmu q b q.blocks[b]=q.blocks[b]∧∀i,i<q.blocks[b].ins.length→Qgs q b i=false:=fun b hb=>by
  have hd:b<(Qaw q).blocks.length:=by rw[Qch];exact hb
  obtain⟨k1,k2⟩:=k b hb hd;rw[Qgu hb hd]at k1 k2;obtain⟨e1,e2⟩:=Qbjj (q:=q) (b:=b) (l:=q.blocks[b].ins) (k:=0) k1;refine⟨?_,fun i hi=>by have:=e2 i hi;rwa [Jq]at this⟩;have e3:kpP q b q.blocks[b].phis=q.blocks[b].phis:=Jat.eq_of_length k2;rw[Qmu,e1,e3]
 refine⟨?_,fun b hb=>(key b hb).2⟩;have:q.blocks.mapIdx (Qmu q)=q.blocks:=Jai (by simp) fun b h1 h2=>by
  rw[List.getElem_mapIdx];exact (key b h2).1
 rw[Qaw,this]
theorem Qbpb (h:Qaw q=q):Qgp (Qaw q)=Qgp q:=by rw[h]
theorem Qbm9 {cs ds:List CodeD}{k b:Nat}{c d:CodeD}{y z:BlkD}(hr:rgOf ds k=rgOf cs k)(hp:∀n,pmOf ds n=pmOf cs n)(hcd:Shr c d)(hj:z.jump=y.jump∧z.on=y.on∧z.next=y.next∧z.ins.Sublist y.ins∧z.phis.Sublist y.phis)
  (g:blkG cs k b c y=true):blkG ds k b d z=true:=by
 obtain⟨j1,j2,j3,j4,j5⟩:=hj;have hl:(Qm d.blocks).length=(Qm c.blocks).length:=by rw[Ql,Ql,hcd.bl]
 simp only[blkG,Jah,List.all_eq_true]at g⊢;obtain⟨⟨⟨gj,gn⟩,gi⟩,gp⟩:=g;refine⟨⟨⟨?_,fun x hx=>?_⟩,fun x hx=>?_⟩,fun x hx=>?_⟩
 ·simpa only[Qsj,j1,j2,j3,hcd.rg]using gj
 ·rw[hl];exact gn x (by rw[←j3];exact hx)
 ·have:=gi x (j4.subset hx);simp only[insG,insL,hr,hp]at this⊢;exact this
 ·have:=gp x (j5.subset hx);rw[hcd.rg,hcd.next,hl];exact this
theorem Qbp9 {cs ds:List CodeD}(hg:Qew cs=true)(hl:ds.length=cs.length)(h:∀k (h1:k<cs.length) (h2:k<ds.length),Shr cs[k] ds[k]):Qew ds=true:=by
 obtain⟨h1,h2,h3⟩:=of_decide_eq_true hg;have hr:∀k,rgOf ds k=rgOf cs k:=fun k=>by
  by_cases hk:k<cs.length
  ·rw[Qai1 hk,Qai1 (by omega),(h k hk (by omega)).rg]
  ·simp[rgOf,Jab (show cs.length≤k by omega),Jab (show ds.length≤k by omega)]
 have hp:∀k,pmOf ds k=pmOf cs k:=fun k=>by
  by_cases hk:k<cs.length
  ·rw[Qaid hk,Qaid (by omega),(h k hk (by omega)).pr]
  ·simp[pmOf,Jab (show cs.length≤k by omega),Jab (show ds.length≤k by omega)]
 refine decide_eq_true ⟨by omega,fun k hk=>?_,?_⟩
 ·have hc:k<cs.length:=by omega
  have s:=h k hc hk;obtain⟨g1,g2⟩:=h2 k hc;refine⟨by simpa only[Q0p,s.pr,s.rg,s.bl]using g1,fun b hb=>?_⟩;have hb':b<cs[k].blocks.length:=by rw[←s.bl];exact hb
  exact Qbm9 (hr k) hp s (s.j b hb' hb) (g2 b hb')
 ·have key:∀m,m≤cs.length→Qie Qgp (ds.take m)≤Qie Qgp (cs.take m):=fun m=>by
   induction m with
   |zero=>intro _;simp[Qie]
   |succ m ih=>
    intro hm;have i1:=ih (by omega);have hc:m<cs.length:=(by omega);have hd:m<ds.length:=(by omega);rw[Qbz hc,Qbz hd];have:=(h m hc hd).cnt.1;omega
  have:=key _ (Jk _);have e1:ds.take cs.length=ds:=by rw[←hl,Jx]
  rw[e1,Jx]at this;omega
def flI (x:InsD):Option Nat×List Nat:=(Qmt x,toN x.args)
theorem Qbi5 {b i:Nat}(ho:q.ok)(hb:b<q.blocks.length)(hi:i<q.blocks[b].ins.length)(h:Qgs q b i=true):∀r,(Qw q).LB b (i+1) r→(Qw q).LB b i r:=fun r hr=>by
 rw[Qav4 hb hi,Qav3,Jah,Jan,decide_eq_false_iff_not]at h;obtain⟨h1,h2⟩:=h;have hm:=(Q0y h1).1;have hlen:i<((Qw q).ins b).length:=by rw[Qd8 hb,Jf];exact hi
 rw[Flo.LB,Flo.beh_step _ _ _ hlen];refine .inr ⟨hr,fun he=>?_⟩;have e:((Qw q).ins b)[i]=flI q.blocks[b].ins[i]:=by simp only[Qd8 hb,J7,flI]
 rw[e,flI,Qmt,if_pos hm]at he;have he:q.blocks[b].ins[i].to.toNat=r:=by simpa using he
 refine h2 (ascL_mem.2 ⟨?_,by rw[he];exact hr⟩);have:=ho.bs b hb;have:=this.to _ (Jd hi) hm;simp only[rIn]at this;omega
theorem Qawa {b:Nat}{S:RS'}(ho:q.ok)(hb:b<q.blocks.length)(hS:∀r,S r→(Qw q).endS ((Qw q).LO b) b r) :
  ∀(l:List InsD) (k:Nat),l=q.blocks[b].ins.drop k→k≤q.blocks[b].ins.length→
   (∀r,behL ((kpD q b k l).map flI) S r→(Qw q).LB b k r)∧∀k',∃j,j≤q.blocks[b].ins.length∧∀r,behL (((kpD q b k l).map flI).drop k') S r→(Qw q).LB b j r
 |[],k,hl,hk=>by
  have hke:q.blocks[b].ins.length≤k:=List.drop_eq_nil_iff.1 hl.symm;have h0:∀r,S r→(Qw q).LB b k r:=fun r hr=>by
   rw[Flo.LB,Flo.beh_end _ _ _ (by rw[Qd8 hb,Jf];exact hke)];exact hS r hr
  refine⟨fun r hr=>h0 r hr,fun k'=>⟨k,hk,fun r hr=>?_⟩⟩;simp only[kpD,Jac,List.drop_nil]at hr;exact h0 r hr
 |x::l,k,hl,hk=>by
  have hkl:k<q.blocks[b].ins.length:=by
   by_cases h:k<q.blocks[b].ins.length
   ·exact h
   ·rw[List.drop_of_length_le (by omega)]at hl;exact absurd hl (by simp)
  rw[Js hkl]at hl;obtain⟨hx,hl⟩:=List.cons.inj hl;obtain⟨i1,i2⟩:=Qawa ho hb hS l (k+1) hl (by omega);rw[kpD];split
  ·rename_i hi
   exact⟨fun r hr=>Qbi5 ho hb hkl hi r (i1 r hr),i2⟩
  ·have hlen:k<((Qw q).ins b).length:=by rw[Qd8 hb,Jf];exact hkl
   have e:((Qw q).ins b)[k]=flI x:=by simp only[Qd8 hb,J7,flI,hx]
   have h1:∀r,behL ((x::kpD q b (k+1) l).map flI) S r→(Qw q).LB b k r:=fun r hr=>by
    rw[Flo.LB,Flo.beh_step _ _ _ hlen,e];rw[J6,Qbig]at hr;rcases hr with hr|⟨hr,hne⟩
    ·exact .inl hr
    ·exact .inr ⟨i1 r hr,hne⟩
   refine⟨h1,fun k'=>?_⟩
   cases k' with
   |zero=>exact⟨k,by omega,h1⟩
   |succ k'=>exact i2 k'
theorem Qbsm {b m r:Nat}(hm:m<q.blocks.length)(h:r∈(Qw (Qaw q)).ea b m):r∈(Qw q).ea b m:=by
 have hm':m<(Qaw q).blocks.length:=by rw[Qch];exact hm
 rw[Q2i hm',Qgu hm hm',(Qgv (q:=q)).gnx,Qch]at h;rw[Q2i hm];obtain⟨p,hp,rfl⟩:=Jn.1 h;exact Jn.2 ⟨p,(Jay.1 hp).1,rfl⟩
theorem Qbdn {b:Nat}(hb:b<q.blocks.length)(ho:q.ok)(r:Nat)(h:(Qw (Qaw q)).endS ((Qw (Qaw q)).outT (Qw q).LI b) b r):(Qw q).endS ((Qw q).LO b) b r:=by
 have hb':b<(Qaw q).blocks.length:=by rw[Qch];exact hb
 rcases h with ⟨m,hm,h1⟩|h1
 ·have hnx:(Qw (Qaw q)).nx b=(Qw q).nx b:=by simp only[Qw,nxN,(Qgv (q:=q)).gnx]
  rw[hnx]at hm;have hml:m<q.blocks.length:=ho.fitsF b hb m hm;exact .inl ⟨m,hm,h1.imp id (Qbsm hml)⟩
 ·refine .inr ?_;rw[Q2j hb',Qgu hb hb']at h1;rw[Q2j hb];exact h1
theorem Qbdo {b:Nat}(hb:b<q.blocks.length):(Qw (Qaw q)).ins b=(kpD q b 0 q.blocks[b].ins).map flI:=by
 have hb':b<(Qaw q).blocks.length:=by rw[Qch];exact hb
 rw[Qd8 hb',Qgu hb hb'];rfl
theorem Qbsl (ho:q.ok){b:Nat}(hb:b<q.blocks.length)(r:Nat)(h:(Qw (Qaw q)).LI b r):(Qw q).LI b r:=by
 refine h (fun b r=>b<q.blocks.length→(Qw q).LI b r) (fun b hb2 r hr hb=>?_) hb;have hb':b<(Qaw q).blocks.length:=by rw[Qch];exact hb
 obtain⟨h1,h2⟩:=hr;have hS:∀r,(Qw (Qaw q)).endS ((Qw (Qaw q)).outT (fun b r=>b<q.blocks.length→(Qw q).LI b r) b) b r→(Qw q).endS ((Qw q).LO b) b r:=fun r hr=>by
  refine Qbdn hb ho r ?_;rcases hr with ⟨m,hm,h1⟩|h1
  ·have hnx:(Qw (Qaw q)).nx b=(Qw q).nx b:=by simp only[Qw,nxN,(Qgv (q:=q)).gnx]
   have hml:m<q.blocks.length:=ho.fitsF b hb m (by rw[←hnx];exact hm);exact .inl ⟨m,hm,h1.imp (fun h=>h hml) id⟩
  ·exact .inr h1
 rw[Flo.beh,Qbdo hb,List.drop_zero]at h1;have h3:=(Qawa ho hb hS q.blocks[b].ins 0 rfl (by omega)).1 r h1;refine (Flo.LI_fix ho.fitsF hb r).1 ⟨h3,fun hph=>h2 ?_⟩;rw[Qag1 hb]at hph;rw[Qag1 hb',Qgu hb hb'];obtain⟨p,hp,rfl⟩:=Jn.1 hph;refine Jn.2 ⟨p,Jay.2 ⟨hp,decide_eq_true (ascL_mem.2 ⟨?_,h3⟩)⟩,rfl⟩;have:=(ho.bs b hb).pto p hp;simp only[rIn]at this;omega
theorem Qbsk (ho:q.ok){b:Nat}(hb:b<q.blocks.length)(k':Nat):∃j,j≤q.blocks[b].ins.length∧∀r,(Qw (Qaw q)).LB b k' r→(Qw q).LB b j r:=by
 have hS:∀r,(Qw (Qaw q)).endS ((Qw (Qaw q)).LO b) b r→(Qw q).endS ((Qw q).LO b) b r:=fun r hr=>by
  refine Qbdn hb ho r ?_;rcases hr with ⟨m,hm,h1⟩|h1
  ·have hnx:(Qw (Qaw q)).nx b=(Qw q).nx b:=by simp only[Qw,nxN,(Qgv (q:=q)).gnx]
   have hml:m<q.blocks.length:=ho.fitsF b hb m (by rw[←hnx];exact hm);exact .inl ⟨m,hm,h1.imp (Qbsl ho hml r) id⟩
  ·exact .inr h1
 obtain⟨j,hj,h⟩:=(Qawa ho hb hS q.blocks[b].ins 0 rfl (by omega)).2 k';refine⟨j,hj,fun r hr=>h r ?_⟩;rw[Flo.LB,Flo.beh,Qbdo hb]at hr;exact hr
theorem Qa7e {f:Nat→Nat}{B:Nat}:∀{n:Nat},(∀i,i<n→f i≤B)→mxF f n≤B
 |0,_=>Ja0 _
 |n+1,h=>by
  have h1:=Qa7e (n:=n) fun i hi=>h i (by omega);have h2:=h n (by omega);rw[mxF];omega
theorem Qbj1 {f:Nat→Nat}:∀{n i:Nat},i<n→f i≤mxF f n
 |0,_,h=>absurd h (by omega)
 |n+1,i,h=>by
  rw[mxF];by_cases hi:i=n
  ·subst hi;omega
  ·have:=Qbj1 (f:=f) (n:=n) (i:=i) (by omega);omega
theorem Qbm8 {R:Nat}{S T:RS'}(h:∀r,S r→T r):(ascL R S).length≤(ascL R T).length:=
 Qcm (Qazt Qbcx) fun x hx=>by
  rw[ascL_mem]at hx⊢;exact⟨hx.1,h x hx.2⟩
theorem Qbkv (ho:q.ok):Qaw3 (Qaw q)≤Qaw3 q:=by
 refine Qa7e fun b hb=>?_;rw[Qch]at hb;refine Qa7e fun k _=>?_;obtain⟨j,hj,h⟩:=Qbsk ho hb k;have h1:(Qgm (Qaw q) b k).length≤(Qgm q b j).length:=Qbm8 h;have h2:(Qgm q b j).length≤Qxj q b:=by
  have e:Qxj q b=mxF (fun k=>(Qgm q b k).length) (q.blocks[b].ins.length+1):=by simp[Qxj,hb]
  rw[e];exact Qbj1 (f:=fun k=>(Qgm q b k).length) (by omega)
 have h3:Qxj q b≤Qaw3 q:=Qbj1 (f:=Qxj q) hb;omega
theorem Qa7m {d:CodeD}(h:Qaw d=d):∀n,Nat.repeat Qaw n d=d
 |0=>rfl
 |n+1=>by rw[Nat.repeat,Qa7m h n,h]
theorem Qa7l (q:CodeD):∀n m,Nat.repeat Qaw (m+n) q=Nat.repeat Qaw m (Nat.repeat Qaw n q)
 |n,0=>by rw[Jq];rfl
 |n,m+1=>by rw[Nat.succ_add,Nat.repeat,Qa7l q n m];rfl
theorem Qbpf {n m:Nat}(h1:Qaw (Nat.repeat Qaw n q)=Nat.repeat Qaw n q)(h2:Qaw (Nat.repeat Qaw m q)=Nat.repeat Qaw m q):Nat.repeat Qaw n q=Nat.repeat Qaw m q:=by
 have a:=Qa7l q n m;have b:=Qa7l q m n;rw[Qa7m h1 m]at a;rw[Qa7m h2 n]at b;rw[←a,←b,Nat.add_comm]
theorem Shr.ok {c d:CodeD}(s:Shr c d)(ho:c.ok):d.ok:=by
 have hg:=s.gnx;refine⟨by rw[s.rg];exact ho.r0,by rw[s.rg];exact ho.r1,by rw[s.bl];exact ho.b0,by rw[s.bl];exact ho.b1,fun b hb=>?_,fun b hb=>?_⟩
 ·have hb':b<c.blocks.length:=by rw[←s.bl];exact hb
  obtain⟨g1,g2,g3,g4,g5⟩:=s.j b hb' hb;have o:=ho.bs b hb';have rr:∀v,rIn c v→rIn d v:=fun v hv=>by simp only[rIn,s.rg]at hv⊢;exact hv
  refine⟨by rw[g3];exact o.nxl,fun v hv=>?_,by rw[g1];exact o.jmp,fun hj=>?_,fun x hx v hv=>rr _ (o.args x (g4.subset hx) v hv),fun x hx hm=>rr _ (o.to x (g4.subset hx) hm),
   fun x hx=>rr _ (o.pto x (g5.subset hx)),fun x hx v hv=>rr _ (o.pargs x (g5.subset hx) v hv),fun x hx=>?_,fun x hx=>o.al x (g4.subset hx)⟩
  ·rw[g3]at hv;rw[s.bl];exact o.nx v hv
  ·rw[g1]at hj;rw[g2];exact rr _ (o.on hj)
  ·rw[hg,s.bl];exact o.pal x (g5.subset hx)
 ·have hb':b<c.blocks.length:=by rw[←s.bl];exact hb
  obtain⟨g1,g2,g3,g4,g5⟩:=s.j b hb' hb;have o:=ho.il b hb';have:=g4.length_le;have:=g5.length_le;omega
def Idl (q d:CodeD):Prop:=∃n,d=Nat.repeat Qaw n q∧Qaw d=d
theorem Idl.uniq {d e:CodeD}(h:Idl q d)(k:Idl q e):d=e:=by
 obtain⟨n,rfl,h1⟩:=h;obtain⟨m,rfl,h2⟩:=k;exact Qbpf h1 h2
theorem Qaxd:∀n,Shr q (Nat.repeat Qaw n q)
 |0=>.refl q
 |n+1=>(Qaxd n).trans Qgv
theorem Idl.shr {d:CodeD}(h:Idl q d):Shr q d:=by
 obtain⟨n,rfl,_⟩:=h;exact Qaxd n
theorem Qbd0 (ho:q.ok):∀n,Qaw3 (Nat.repeat Qaw n q)≤Qaw3 q
 |0=>Jk _
 |n+1=>Nat.le_trans (Qbkv ((Qaxd n).ok ho)) (Qbd0 ho n)
theorem Idl.most {d:CodeD}(ho:q.ok)(h:Idl q d):Qaw3 d≤Qaw3 q:=by
 obtain⟨n,rfl,_⟩:=h;exact Qbd0 ho n
theorem Idl.again {d:CodeD}(h:Idl q d):Idl d d:=⟨0,rfl,h.choose_spec.2⟩
theorem Idl.fix {d:CodeD}(h:Idl q d):Qaw d=d:=h.choose_spec.2
end Go.AE.Y
namespace Go.AE.Y
open Go.Proofs.Tryz
variable {H H0:Heap}{K:V→Heap→Prop}{E B Lg:List (Nat×Obj)}
noncomputable def Qbtw (n:Nat)(nx:Nat→List Int):List Nat:=if Qbtu n nx then Qbva n (nxN nx)else []
noncomputable def loopL (n:Nat)(nx:Nat→List Int)(h:Int):List Nat:=if ((Qbtw n nx).map Int.ofNat).contains h then Qbim n (nxN nx) h.toNat else []
noncomputable def reachL (n:Nat)(nx:Nat→List Int):List Nat:=if Qbtu n nx then (List.range n).filter (rchB (nxN nx) (-1))else []
end Go.AE.Y
namespace Go.AE.Y
open Go.Proofs.Tryz
def Qa19:List Item:=[sJ 3 4 9]
def Qa2a:List Item:=[sJ 3 4 15]
def Qa2b:List Item:=.chk 12 none (.ld 3 true (.t 2))::aJ 15 Qbet [.t 12,.t 14]::Qa2a
def Qa2c:List Item:=[sJ 3 4 19]
def Qaay:List Item:=[sJ 3 4 23]
def Qa2d:List Item:=[sJ 3 4 27]
def Qa2e:List Item:=[sJ 3 4 31]
def Qa2f:List Item:=[sJ 3 4 35]
def Qa2g:List Item:=[sJ 3 4 39]
def Qa2h:List Item:=[sJ 3 4 43]
def Qax3:List Item:=[sJ 3 4 47]
def Qax4:List Item:=[sJ 3 4 51]
def Qa1v:SC:=cT 48 (sR (tJ 50 3 2::aJ 51 Qbez [.t 50]::Qax4) [4] .ret) .skip
def Qa1w:SC:=cT 44 (sR (tJ 46 3 2::aJ 47 Qbe0 [.t 46]::Qax3) [4] .ret) (sR [fI 49 (.bin 0 .eql (.t 5) (.k (.c (.str [106,111,105,110])))),mJ 48 49] [2,4,48] Qa1v)
def Qa1x:SC:=cT 40 (sR (tJ 42 3 2::aJ 43 Qbey [.t 42]::Qa2h) [4] .ret) (sR [fI 45 (.bin 0 .eql (.t 5) (.k (.c (.str [115,107,105,112])))),mJ 44 45] [2,4,5,44] Qa1w)
def Qa1y:SC:=cT 36 (sR (tJ 38 3 2::aJ 39 Qa6n [.t 38]::Qa2g) [4] .ret) (sR [fI 41 (.bin 0 .eql (.t 5) (.k (.c (.str [101,118,101,110])))),mJ 40 41] [2,4,5,40] Qa1x)
def Qa1z:SC:=cT 32 (sR (tJ 34 3 2::aJ 35 Qa6m [.t 34]::Qa2f) [4] .ret) (sR [fI 37 (.bin 0 .eql (.t 5) (.k (.c (.str [104,111,105,115,116])))),mJ 36 37] [2,4,5,36] Qa1y)
def Qa10:SC:=cT 28 (sR (tJ 30 3 2::aJ 31 Qbiz [.t 30]::Qa2e) [4] .ret) (sR [fI 33 (.bin 0 .eql (.t 5) (.k (.c (.str [115,104,97,114,101])))),mJ 32 33] [2,4,5,32] Qa1z)
def Qa11:SC:=cT 24 (sR (tJ 26 3 2::aJ 27 Qaz6 [.t 26]::Qa2d) [4] .ret) (sR [fI 29 (.bin 0 .eql (.t 5) (.k (.c (.str [107,110,111,119,110])))),mJ 28 29] [2,4,5,28] Qa10)
def Qa12:SC:=cT 20 (sR (tJ 22 3 2::aJ 23 Q6j [.t 22]::Qaay) [4] .ret) (sR [fI 25 (.bin 0 .eql (.t 5) (.k (.c (.str [115,105,110,103,108,101])))),mJ 24 25] [2,4,5,24] Qa11)
def Qa13:SC:=cT 16 (sR (tJ 18 3 2::aJ 19 Qa6k [.t 18]::Qa2c) [4] .ret) (sR [fI 21 (.bin 0 .eql (.t 5) (.k (.c (.str [105,100,108,101])))),mJ 20 21] [2,4,5,20] Qa12)
def Qa14:SC:=cT 10 (.seq (.dreg 5 [0,1,2,0,3,4] ( tJ 12 3 2::tJ 13 3 2::aJ 14 Qa6j [.t 13]::Qa2b) [4]) .ret) (sR [fI 17 (.bin 0 .eql (.t 5) (.k (.c (.str [115,112,108,105,116])))),mJ 16 17] [2,4,5,16] Qa13)
def Qa15:SC:=cT 6 (sR (tJ 8 3 2::aJ 9 Qbes [.t 8]::Qa19) [4] .ret) (sR [fI 11 (.bin 0 .eql (.t 5) (.k (.c (.str [111,114,100,101,114])))),mJ 10 11] [2,4,5,10] Qa14)
def Qa16:SC:=.block 0 (sR [fI 7 (.bin 0 .eql (.t 5) (.k (.c (.str [114,101,97,99,104])))),mJ 6 7] [2,4,5,6] Qa15)
def Qax5:List Item:=[sJ 3 4 53]
def Qa17:SC:=sR (tJ 52 3 2::aJ 53 Qa6o [.t 52]::Qax5) [4] .ret
def Qa18:SC:=.seq (sR [mJ 5 1] [2,4,5] Qa16) Qa17
def Qblg:SC:=sR [vJ 2 0,eI 4 (.alloc [.int .i64 0,.int .i64 0,.sl true 5 []])] [1,2,4] Qa18
def Qa03:List RS:=[.cell 4 3 true]
theorem Qbj9:mFn prog Q6h 2 54 Qblg Qa03=true:=by kernel_rfl
def Qaas:List Item:=[fB 5 false]
def Qaat:List Item:=[oJ 10 9]
def Qaau:List Item:=[fB 5 false]
def Qa72:SC:=cT 10 (sR (fI 11 (.bld [.sl true 3 []] [])::sJ 1 4 11::Qaau) [4,5] .ret) .skip
def Qaav:List Item:=[sJ 1 6 12]
def Qaaw:List Item:=[fJ 31 0 6,sJ 1 31 30]
def Qaax:List Item:=hJ 21 20::fI 29 (.bsl 3 [.t 28])::xJ 30 3 21 29::Qaaw
def Qa73:SC:=.reg [mJ 18 7,cJ 19 .add 18 1,mJ 7 19] [1,2,4,6,7]
def Qa74:SC:=.seq (.block 1 (.dreg 13 [0,1,2,3,4,5,6,7,8,1,9,10,11,12] ( fJ 20 0 6::lJ 21 20::fJ 22 0 2::lJ 23 22::mJ 24 7::iJ 25 3 23 24::tJ 26 3 25::mJ 27 1::aJ 28 Q6h [.t 26,.t 27]::Qaax) [1,2,4,6,7])) Qa73
def Qa1u:SC:=.seq (sR [mJ 13 7,fJ 14 0 2,lJ 15 14,nJ 16 15,bJ 17 .lss 13 16] [1,2,4,6,7,17] (cT 17 .skip (.exit 0))) Qa74
def Q4v:List Item:=[oJ 34 33]
def Qax2:List Item:=[fB 5 false]
def Qa1o:SC:=cT 34 (sR (fI 35 (.bld [.sl true 3 []] [])::sJ 1 4 35::Qax2) [4,5] .ret) .skip
def Q4w:List Item:=[fB 5 true]
def Qa1p:SC:=sR (tJ 36 1 6::sJ 1 4 36::Q4w) [4,5] .ret
def Qa1q:SC:=.seq .gh (.seq (sR (tJ 32 1 6::aJ 33 Qa7 [.t 32]::Q4v) [4,6,34] Qa1o) Qa1p)
def Qa1r:SC:=.seq (sR [zJ 7 0] [1,2,4,6,7] (bL 0 Qa1u)) Qa1q
def Qa1s:SC:=sR (fI 12 (.bld [.sl true 3 []] [])::eI 6 (.alloc [.sl true 3 []])::Qaav) [1,2,4,6] Qa1r
def Qa1t:SC:=.seq (sR (tJ 8 1 2::aJ 9 Qa7 [.t 8]::Qaat) [1,2,4,10] Qa72) Qa1s
def Qblf:SC:=sR (vJ 2 0::eI 4 (.alloc [.sl true 3 []])::Qaas) [1,2,4] Qa1t
def Qain:List RS:=[.cell 4 1 true,.tmp 5]
theorem Qbj8:mFn prog Q6g 2 37 Qblf Qain=true:=by kernel_rfl
end Go.AE.Y
namespace Go.AE.Y
attribute [local instance] Classical.propDecidable
variable {g:Nat→List Nat}{n:Nat}
noncomputable def depL (n:Nat)(g:Nat→List Nat)(b:Nat):Nat:=((List.range n).filter fun a=>domB g a b).length
def Tree (n:Nat)(ids:List Int)(dp:Nat→Nat):Prop:=ids.length=n∧∀b,b<n→ids.getD b 0=-1∨∃a:Nat,ids.getD b 0=a∧a<n∧dp a<dp b
inductive Sub (ids:List Int)(b:Nat):Nat→Prop
 |refl:Sub ids b b
 |step {y x:Nat}:Sub ids b y→x<ids.length→ids.getD x 0=(y:Int)→Sub ids b x
variable {ids:List Int}{dp:Nat→Nat}
def Qbrz (ids:List Int)(b:Nat):List Nat:=(List.range ids.length).filter fun i=>decide (ids.getD i 0=(b:Int))
theorem kidsL_mem {b k:Nat}:k∈Qbrz ids b↔k<ids.length∧ids.getD k 0=(b:Int):=by simp[Qbrz]
theorem Tree.up (t:Tree n ids dp){b k:Nat}(hk:k<ids.length)(h:ids.getD k 0=(b:Int)):b<n∧dp b<dp k:=by
 have hk':k<n:=by rw[←t.1];exact hk
 rcases t.2 k hk' with h1|⟨a,h1,h2,h3⟩
 ·omega
 ·have:a=b:=by omega
  subst this;exact⟨h2,h3⟩
theorem Sub.split {b x:Nat}(h:Sub ids b x):x=b∨∃k∈Qbrz ids b,Sub ids k x:=by
 induction h with
 |refl=>exact .inl rfl
 |@step y x h1 h2 h3 ih=>
  rcases ih with rfl|⟨k,hk,h⟩
  ·exact .inr ⟨x,kidsL_mem.2 ⟨h2,h3⟩,.refl⟩
  ·exact .inr ⟨k,hk,h.step h2 h3⟩
theorem Sub.lt {b x:Nat}(hb:b<ids.length)(h:Sub ids b x):x<ids.length:=by
 cases h with
 |refl=>exact hb
 |step _ h _=>exact h
def potW (n:Nat)(w:Nat→Nat)(U:Nat→Prop) [DecidablePred U]:Nat:=(((List.range n).filter fun x=>decide (U x)).map w).sum
end Go.AE.Y
namespace Go.AE.Y
attribute [local go_sem] cond_true cond_false Bool.not_true Bool.not_false
open Go.Proofs.Tryz
variable {H H0:Heap}{K:V→Heap→Prop}{E B Lg:List (Nat×Obj)}
noncomputable def rchL (n:Nat)(g:Nat→List Nat):List Nat:=(List.range n).filter (rchB g (-1))
def Qbuz (n:Nat)(l:List Nat)(P:List Int):Prop:=P.length=n∧∀x∈l,∃i,∃h:i<l.length,l[i]=x∧P.getD x 0=(i:Int)
def kidsN (ids:List Int)(b n:Nat):List Nat:=(List.range n).filter fun i=>decide (ids.getD i 0=(b:Int))
end Go.AE.Y
namespace Go.AE.Y
attribute [local go_sem] cond_true cond_false Bool.not_true Bool.not_false
open Go.Proofs.Tryz
variable {H H0 F:Heap}{K:V→Heap→Prop}{E L:List (Nat×Obj)}
variable {q:CodeD}{fl:Bool}
attribute [local instance] Classical.propDecidable
theorem Qbe6 {cs:List CodeD}{k b:Nat}{q:CodeD}(hg:Qew cs=true)(hlt:k<cs.length)(hq:cs[k]=q)(hb:b≤q.blocks.length):(itU cs k++itC q k b).length≤1000:=by
 have h1:=Qbt0 (cs:=cs) (k:=k) (by omega);have h2:=Qbi3 (q:=q) (nb:=b) hb;have h3:=Qapp (f:=Qxk) (l:=q.blocks) b;have h4:=Qapp (f:=Qgp) (l:=cs) (k+1);rw[Qbz hlt,hq]at h4;have h5:=(of_decide_eq_true hg).2.2;rw[Jp,Qbjg];try simp only[Qgp]at h4 h1 h5 h3
 try simp only[Qgp]
 omega
set_option maxHeartbeats 2000000 in
theorem Qa6u {cs:List CodeD}(hfit:∀c∈cs,c.fits)(hK:∀(H':Heap),Upd H H' []→K (.c (.sl false 1 (Qbdg (Q6r cs)))) H') :
  Qo prog Qme [.ag [.sl fl 3 (Qk cs)]] H K:=by
 refine Qy ?_;refine Qb Qap Qa0f ?_;refine Qa ?_;simp only[go_sem];refine Q5 ?_;refine Qa ?_;simp only[go_sem];refine Qmr hfit fun H1 hu=>?_;have kn:=(Kn.start0 H).call0 hu;simp only[go_sem,Qsy];refine Qh (Qd rfl ?_ ?_)
 ·intro hc;have hc:=Qsm hc;refine Qa ?_;simp only[go_sem];refine Qj ?_;simp only[go_sem,X.next,Q4,Qaa,Qsq,Ja,forall_eq,RS.op];have hK:=hK _ kn.fin;rw[Q6r,hc]at hK;exact⟨_,.c _ _ FrzR.nil.sl,hK⟩
 intro hc;have hg:=Qgt hc;have hc4:cs.length≤4:=by have:=(of_decide_eq_true hg).1;omega
 have hall:Q6r cs=itU cs cs.length:=by rw[Q6r,if_pos hg]
 rw[hall]at hK;refine Qf ?_;try simp only[go_sem]
 refine Qa ?_;simp only[go_sem];refine Q5 ?_;refine Qa ?_;simp only[go_sem,Qx];intro _;refine Qh (Qc (Qu (fun m e1 H1=>∃(k:Nat) (t:C) (Lg:List (Nat×Obj)),m=cs.length-k∧k≤cs.length∧Gr Lg 1 (Qob (itU cs k)) t∧Kn H H1 [] ([]++Lg)∧
  lk 3 e1=.c t∧lk 14 e1=.c (.sl fl 3 (Qk cs))∧lk 15 e1=.c (.int .i64 cs.length)∧lk 16 e1=.c (.int .i64 k)) cs.length ?_ ?_))
 ·exact⟨0,_,[],by omega,by omega,.nil 1,kn,rfl,rfl,rfl,rfl⟩
 ·clear kn;rintro m e1 H2 ⟨k,t,Lg,hm,hk,hgr,kn,l3,l14,l15,l16⟩;have htw:=hgr.isOw;refine Qa ?_;simp only[go_sem,l3,l14,l15,l16,htw];refine Qh (Qd rfl ?_ ?_)
  ·intro hc1;have hlt:k<cs.length:=by simpa using hc1
   have hqok:=Q93 hg hlt;obtain⟨q,hq⟩:∃q,cs[k]=q:=⟨_,rfl⟩;rw[hq]at hqok;have hb1:=hqok.b1;refine Qf ?_;try simp only[go_sem]
   refine Qd3 (fun e2 H3=>∃(t:C) (Lg:List (Nat×Obj)),Gr Lg 1 (Qob (itU cs (k+1))) t∧Kn H H3 [] ([]++Lg)∧lk 3 e2=.c t∧lk 14 e2=.c (.sl fl 3 (Qk cs))∧lk 15 e2=.c (.int .i64 cs.length)∧lk 16 e2=.c (.int .i64 k)) ?_ ?_
   ·intro Q hnr _ _;refine Qc ?_;refine Qa ?_;simp only[go_sem,hlt,Qx,Qad _ _ hlt,CodeD.cells,hq,htw];intro x5 hx5 H3 h3;have kn:=kn.al hx5 h3;have hx5:H3 x5=.st [.int .i64 0,.int .i64 0,.sl true 5 []]:=(kn.get (x5,.st [.int .i64 0,.int .i64 0,.sl true 5 []]) (by simp)).1;simp only[go_sem,Qsz,hx5,htw];intro H4 h4;have kn:Kn H H4 [] ([(x5,.st [.int .i64 q.params,.int .i64 q.regs,.sl false 5 (Qm q.blocks)])]++Lg):=by
     have:=kn.stL ([]++Lg).length (x:=x5) (o:=.st [.int .i64 0,.int .i64 0,.sl true 5 []]) (by simp) h4;refine Kn.perm (by simpa using this) ?_;exact Jo
    have hx5:=kn.l 0 rfl;refine Qa ?_;simp only[go_sem,hx5,htw];refine Qawh hqok kn fun l yi yp ss pr H5 him hlv kn=>?_;have hx5:H5 x5=.st [.int .i64 q.params,.int .i64 q.regs,.sl false 5 (Qm q.blocks)]:=(kn.get (x5,.st [.int .i64 q.params,.int .i64 q.regs,.sl false 5 (Qm q.blocks)]) (by simp)).1;simp only[go_sem,Qs0,htw];refine Qa ?_;simp only[go_sem,hx5,htw,Ql];intro _;have kn:Kn H H5 [] (imE q false l yi yp ss pr++Lg):=Kn.drop (B:=[(x5,.st [.int .i64 q.params,.int .i64 q.regs,.sl false 5 (Qm q.blocks)])]) (kn.perm (Qt fun f hf h0 hc hp=>by simp only[hf];omega));refine Qc (Qu (fun m2 e1 H1=>∃(b:Nat) (t:C) (Lg:List (Nat×Obj)),m2=q.blocks.length-b∧b≤q.blocks.length∧Gr Lg 1 (Qob (itU cs k++itC q k b)) t∧Kn H H1 [] (imE q false l yi yp ss pr++Lg)∧
     lk 3 e1=.c t∧lk 4 e1=.c (.int .i64 k)∧lk 6 e1=.c (.ptr l 0)∧lk 14 e1=.c (.sl fl 3 (Qk cs))∧lk 15 e1=.c (.int .i64 cs.length)∧lk 16 e1=.c (.int .i64 k)∧
     lk 24 e1=.c (.sl false 5 (Qm q.blocks))∧lk 25 e1=.c (.int .i64 q.blocks.length)∧lk 26 e1=.c (.int .i64 b)) q.blocks.length ?_ ?_)
    ·exact⟨0,t,Lg,by omega,by omega,by simpa[itC]using hgr,kn,rfl,rfl,rfl,rfl,rfl,rfl,rfl,rfl,rfl⟩
    ·clear hgr kn htw l3 l14 l15 l16 hx5;rintro m2 e2 H6 ⟨b,t,Lg,hm2,hb,hgr,kn,l3,l4,l6,l14,l15,l16,l24,l25,l26⟩;have htw:=hgr.isOw;refine Qa ?_;simp only[go_sem,l3,l4,l6,l14,l15,l16,l24,l25,l26,htw];refine Qh (Qd rfl ?_ ?_)
     ·intro hc2;have hbl:b<q.blocks.length:=(by simpa using hc2);obtain⟨y,hy⟩:∃y,q.blocks[b]=y:=⟨_,rfl⟩;have hil:=(hqok.il b hbl).1;have hle:=Qkd hbl;rw[hy]at hil hle;have hsm:=Qbe6 hg hlt hq (b:=b) (by omega);refine Qf ?_;try simp only[go_sem]
      refine Qd3 (fun e2 H3=>∃(t:C) (Lg:List (Nat×Obj)),Gr Lg 1 (Qob (itU cs k++itC q k (b+1))) t∧Kn H H3 [] (imE q false l yi yp ss pr++Lg)∧
       lk 3 e2=.c t∧lk 4 e2=.c (.int .i64 k)∧lk 6 e2=.c (.ptr l 0)∧lk 14 e2=.c (.sl fl 3 (Qk cs))∧lk 15 e2=.c (.int .i64 cs.length)∧lk 16 e2=.c (.int .i64 k)∧
       lk 24 e2=.c (.sl false 5 (Qm q.blocks))∧lk 25 e2=.c (.int .i64 q.blocks.length)∧lk 26 e2=.c (.int .i64 b)) ?_ ?_
      ·intro Q hnr _ _;refine Qc ?_;refine Qa ?_;simp only[go_sem,hbl,Ql,Q1 _ _ hbl,BlkD.cells,hy,htw];intro x8 hx8 H7 h7;have kn:=kn.al hx8 h7;have hx8:H7 x8=.st [.sl true 2 [],.sl true 4 [],.int .i64 0,.int .i64 0,.sl true 1 []]:=(kn.get (x8,.st [.sl true 2 [],.sl true 4 [],.int .i64 0,.int .i64 0,.sl true 1 []]) (by simp)).1;simp only[go_sem,Qs1,hx8,htw];intro H8 h8;have kn:Kn H H8 [] ((imE q false l yi yp ss pr++Lg)++[(x8,Q2f y)]):=by
        have:=kn.stL (imE q false l yi yp ss pr++Lg).length (x:=x8) (o:=.st [.sl true 2 [],.sl true 4 [],.int .i64 0,.int .i64 0,.sl true 1 []]) (by simp) h8;simpa[Q2f]using this
       have hx8:H8 x8=.st [.sl false 2 (Qz y.phis),.sl false 4 (Qac y.ins),.int .i64 y.jump,.int .i64 y.on,.sl false 1 (Qe y.next)]:=(kn.get (x8,Q2f y) (by simp)).1;have kn:=kn.drop;refine Qa ?_;simp only[go_sem,hx8,Q3,htw];intro _;refine Qc (Qu (fun m3 e1 H1=>∃(i:Nat) (t:C) (Lg:List (Nat×Obj)),m3=y.ins.length-i∧i≤y.ins.length∧Gr Lg 1 (Qob (itU cs k++itC q k b++itB k b (idlB q b i))) t∧Kn H H1 [] (imE q false l yi yp ss pr++Lg)∧
        lk 3 e1=.c t∧lk 4 e1=.c (.int .i64 k)∧lk 6 e1=.c (.ptr l 0)∧lk 7 e1=.c (.int .i64 b)∧lk 14 e1=.c (.sl fl 3 (Qk cs))∧lk 15 e1=.c (.int .i64 cs.length)∧lk 16 e1=.c (.int .i64 k)∧
        lk 24 e1=.c (.sl false 5 (Qm q.blocks))∧lk 25 e1=.c (.int .i64 q.blocks.length)∧lk 26 e1=.c (.int .i64 b)∧lk 33 e1=.c (.int .i64 y.ins.length)∧lk 34 e1=.c (.int .i64 i)) y.ins.length ?_ ?_)
       ·exact⟨0,t,Lg,by omega,by omega,by simpa[itB,idlB]using hgr,kn,rfl,rfl,rfl,rfl,rfl,rfl,rfl,rfl,rfl,rfl,rfl,rfl⟩
       ·clear hgr kn htw l3 l4 l6 l14 l15 l16 l24 l25 l26 hx8;rintro m3 e3 H9 ⟨i,t,Lg,hm3,hi,hgr,kn,l3,l4,l6,l7,l14,l15,l16,l24,l25,l26,l33,l34⟩;have htw:=hgr.isOw;refine Qa ?_;simp only[go_sem,l3,l4,l6,l7,l14,l15,l16,l24,l25,l26,l33,l34,htw];refine Qh (Qd rfl ?_ ?_)
        ·intro hc3;have hilt:i<y.ins.length:=(by simpa using hc3);have hidl:=Qav2 q b i;refine Qf ?_;try simp only[go_sem]
         refine Qd3 (fun e2 H3=>∃(t:C) (Lg:List (Nat×Obj)),Gr Lg 1 (Qob (itU cs k++itC q k b++itB k b (idlB q b (i+1)))) t∧Kn H H3 [] (imE q false l yi yp ss pr++Lg)∧
          lk 3 e2=.c t∧lk 4 e2=.c (.int .i64 k)∧lk 6 e2=.c (.ptr l 0)∧lk 7 e2=.c (.int .i64 b)∧lk 14 e2=.c (.sl fl 3 (Qk cs))∧lk 15 e2=.c (.int .i64 cs.length)∧lk 16 e2=.c (.int .i64 k)∧
          lk 24 e2=.c (.sl false 5 (Qm q.blocks))∧lk 25 e2=.c (.int .i64 q.blocks.length)∧lk 26 e2=.c (.int .i64 b)∧lk 33 e2=.c (.int .i64 y.ins.length)∧lk 34 e2=.c (.int .i64 i)) ?_ ?_
         ·intro Q hnr _ _;refine Qc ?_;refine Qa ?_;simp only[go_sem,htw];refine Qa ?_;simp only[go_sem,htw];refine Qbc9 (F:=H9) hqok hbl (by rw[hy];exact hilt) him hlv kn.mid fun H10 k2=>?_;have kn:Kn H H10 [] (imE q false l yi yp ss pr++Lg):=(by simpa using kn.comp k2 rfl);refine Qd rfl ?_ ?_
          ·intro hc4;refine Qr ?_;simp only[go_sem,htw];refine kn.growR (new:=[[.sl true 1 (Qc6 [k,b,i])]]) hgr (.mk' _ _ _ _) (by intro r hr;simp at hr;subst hr;rfl) (by
            simp only[Qbfd,LIM,Jp,Jh,Jm,itB,Jf]at hsm⊢;omega) fun t2 Lg2 H11 hgr2 ht2 kn=>?_
           simp only[go_sem,Qs2,ht2];refine hnr _ _ ⟨t2,Lg2,?_,kn,rfl,rfl,rfl,rfl,rfl,rfl,rfl,rfl,rfl,rfl,rfl,rfl⟩;rw[Q2s,hc4,if_pos rfl];have e:itU cs k++itC q k b++itB k b (idlB q b i++[i])=(itU cs k++itC q k b++itB k b (idlB q b i))++[[k,b,i]]:=(by simp[itB]);rw[e,←Qa6w];exact hgr2
          ·intro hc4;refine Qf ?_;try simp only[go_sem]
           refine hnr _ _ ⟨t,Lg,?_,kn,rfl,rfl,rfl,rfl,rfl,rfl,rfl,rfl,rfl,rfl,rfl,rfl⟩;rw[Q2s,hc4];simpa using hgr
         ·rintro e4 H10 ⟨t2,Lg2,hgr2,kn,l3,l4,l6,l7,l14,l15,l16,l24,l25,l26,l33,l34⟩;have ht2:=hgr2.isOw;refine Qr ?_;simp only[go_sem,l3,l4,l6,l7,l14,l15,l16,l24,l25,l26,l33,l34,ht2];refine⟨Qp (by omega) (by omega),?_⟩;show ∃m,_;exact⟨y.ins.length-(i+1),by omega,i+1,t2,Lg2,rfl,by omega,hgr2,kn,rfl,rfl,rfl,rfl,rfl,rfl,rfl,rfl,rfl,rfl,rfl,rfl⟩
        ·intro hc3;have hie:i=Qy0 q b:=(by have:y.ins.length≤i:=(by simpa using hc3);omega);refine Qv ?_;simp only[go_sem,X.next];refine hnr _ _ ⟨t,Lg,?_,kn,rfl,rfl,rfl,rfl,rfl,rfl,rfl,rfl,rfl⟩;rw[Qav8,←hie,←Jv];exact hgr
      ·rintro e4 H7 ⟨t2,Lg2,hgr2,kn,l3,l4,l6,l14,l15,l16,l24,l25,l26⟩;have ht2:=hgr2.isOw;refine Qr ?_;simp only[go_sem,l3,l4,l6,l14,l15,l16,l24,l25,l26,ht2];refine⟨Qp (by omega) (by omega),?_⟩;show ∃m,_;exact⟨q.blocks.length-(b+1),by omega,b+1,t2,Lg2,rfl,by omega,hgr2,kn,rfl,rfl,rfl,rfl,rfl,rfl,rfl,rfl,rfl⟩
     ·intro hc2;have hbe:b=q.blocks.length:=(by have:q.blocks.length≤b:=(by simpa using hc2);omega);subst hbe;refine Qv ?_;simp only[go_sem,X.next];refine hnr _ _ ⟨t,Lg,?_,Kn.drop (B:=imE q false l yi yp ss pr) (kn.perm Jo),rfl,rfl,rfl,rfl⟩;rw[Qav9 hlt,hq];exact hgr
   ·rintro e2 H3 ⟨t2,Lg2,hgr2,kn,l3,l14,l15,l16⟩;have ht2:=hgr2.isOw;refine Qr ?_;simp only[go_sem,l3,l14,l15,l16,ht2];refine⟨Qp (by omega) (by omega),?_⟩;show ∃m,_;exact⟨cs.length-(k+1),by omega,k+1,t2,Lg2,rfl,by omega,hgr2,kn,rfl,rfl,rfl,rfl⟩
  ·intro hc1;have hke:k=cs.length:=by have:cs.length≤k:=(by simpa using hc1);omega
   subst hke;refine Qv ?_;simp only[go_sem,X.next];refine Qa ?_;simp only[go_sem,htw];refine Qj ?_;simp only[go_sem,X.next,Q4,Qaa,Qsq,Ja,forall_eq,RS.op,htw];exact⟨_,.c _ _ (hgr.frzR kn (Qbfc _)),hK _ kn.fin⟩
noncomputable def countI (cs:List CodeD):Int:=if Qew cs=true then (Qie Qgp cs:Nat)else -1
end Go.AE.Y
namespace Go.AE.Y
open Go.Proofs.Tryz
def Qkt:List Item:=[fJ 6 2 1,sJ 1 6 5]
def Qad4:SC:=sR [tJ 7 4 1,sJ 4 2 7] [2] .ret
def Qad5:SC:=sR (fJ 3 2 1::lJ 4 3::aJ 5 Qfe [.t 4]::Qkt) [1,2] Qad4
def Qaqw:SC:=sR [eI 1 (.boxm (.t 0)),eI 2 (.alloc [.int .i64 0,.int .i64 0,.sl true 1 [],.int .i64 0])] [1,2] Qad5
def Qy3:List RS:=[.cell 2 4 true]
theorem Qap3:mFn prog Qc1 1 8 Qaqw Qy3=true:=by kernel_rfl
def Qhv:List Item:=[fJ 6 0 1,sJ 1 6 5]
def Qhw:List Item:=[fJ 10 1 1,sJ 1 10 9]
def Qhx:List Item:=[fJ 14 4 1,sJ 1 14 13]
def Q3z:SC:=sR [tJ 15 5 1,sJ 5 2 15] [2] .ret
def Q30:SC:=sR (fJ 11 4 1::lJ 12 11::aJ 13 Qfe [.t 12]::Qhx) [1,2] Q3z
def Q31:SC:=sR (fJ 7 1 1::lJ 8 7::eI 9 (.call Qcw [.t 8,.k (.c (.fn Qc1 []))])::Qhw) [1,2] Q30
def Q32:SC:=sR (fJ 3 0 1::lJ 4 3::eI 5 (.call Qcx [.t 4,.k (.c (.fn Qc2 []))])::Qhv) [1,2] Q31
def Qad3:SC:=sR [eI 1 (.boxm (.t 0)),eI 2 (.alloc [.sl true 2 [],.sl true 4 [],.int .i64 0,.int .i64 0,.sl true 1 []])] [1,2] Q32
def Qoc:List RS:=[.cell 2 5 true]
theorem Qac7:mFn prog Qb6 1 16 Qad3 Qoc=true:=by kernel_rfl
def Qix:List Item:=[fJ 6 2 1,sJ 1 6 5]
def Q7l:SC:=sR [tJ 7 3 1,sJ 3 2 7] [2] .ret
def Q7m:SC:=sR (fJ 3 2 1::lJ 4 3::eI 5 (.call Qbx [.t 4,.k (.c (.fn Qb6 []))])::Qix) [1,2] Q7l
def Qajt:SC:=sR [eI 1 (.boxm (.t 0)),eI 2 (.alloc [.int .i64 0,.int .i64 0,.sl true 5 []])] [1,2] Q7m
def Qss:List RS:=[.cell 2 3 true]
theorem Qah8:mFn prog Qea 1 8 Qajt Qss=true:=by kernel_rfl
def Qk0:List Item:=[.chk 11 none (.ld 3 true (.t 1)),.chk 13 none (.ld 3 true (.t 1)),mJ 3 12,sJ 3 4 14]
def Qk1:List Item:=eI 4 (.alloc [.int .i64 0,.int .i64 0,.sl true 5 []])::Qk0
def Qk2:List Item:=.chk 13 none (.ld 3 true (.t 1))::aJ 14 Qea [.t 13]::Qk1
def Qk3:List Item:=[sJ 1 7 27]
def Qk4:List Item:=eI 7 (.alloc [.mnil])::Qk3
def Qk5:List Item:=[kJ 35 28,fJ 36 0 35,sJ 1 36 34]
def Qk6:List Item:=[mJ 9 44,sJ 4 10 46]
def Qk7:List Item:=[oJ 51 50]
def Qk8:List Item:=[mJ 8 55]
def Qaeg:SC:=cT 51 (.reg (mJ 52 8::tJ 53 4 10::fI 54 (.bsl 4 [.t 53])::xJ 55 4 52 54::Qk8) [1,2,3,4,5,6,8,17,18,40,41,42]) .skip
def Q7t:SC:=sR (mJ 47 3::mJ 48 5::mJ 49 9::aJ 50 Qck [.t 47,.t 48,.t 49]::Qk7) [1,2,3,4,5,6,8,10,17,18,40,41,42,51] Qaeg
def Q7u:SC:=.reg [cJ 56 .add 42 1,mJ 42 56] [1,2,3,4,5,6,8,17,18,40,41,42]
def Q7v:SC:=.seq (.block 5 (sR (mJ 44 42::iJ 45 4 40 42::tJ 46 4 45::eI 10 (.alloc [.int .i64 0,.int .i64 0,.sl true 1 [],.int .i64 0])::Qk6) [1,2,3,4,5,6,8,9,10,17,18,40,41,42] Q7t)) Q7u
def Q36:SC:=sR [bJ 43 .lss 42 41] [1,2,3,4,5,6,8,17,18,40,41,42,43] (cX 43 4 Q7v)
def Q7w:SC:=.reg [mJ 57 6,mJ 58 8,kJ 59 57,fJ 60 1 59,sJ 1 60 58] [1,2,3,4,17,18]
def Q7x:SC:=.seq (sR [mJ 37 6,kJ 38 37,fJ 39 1 38,lJ 40 39,nJ 41 40,zJ 42 0] [1,2,3,4,5,6,8,17,18,40,41,42] (bL 4 Q36)) Q7w
def Q7y:SC:=sR [fI 8 (.mv (.k (.c (.sl true 4 []))))] [1,2,3,4,5,6,8,17,18] Q7x
def Q7z:SC:=sR (mJ 28 6::mJ 29 6::kJ 30 29::fJ 31 0 30::lJ 32 31::fI 33 (.mkf Qa1 [.t 7])::aJ 34 Qcy [.t 32,.t 33]::Qk5) [1,2,3,4,5,6,17,18] Q7y
def Q70:SC:=sR (mJ 25 3::mJ 26 5::aJ 27 Qbj [.t 25,.t 26,kI (-1)]::Qk4) [1,2,3,4,5,6,7,17,18] Q7z
def Q71:SC:=sR [fJ 21 2 4,lJ 22 21,mJ 23 5,iJ 24 5 22 23,mJ 6 24] [1,2,3,4,5,6,17,18] Q70
def Q72:SC:=.reg [cJ 61 .add 18 1,mJ 18 61] [1,2,3,4,17,18]
def Q73:SC:=.seq (.block 3 (sR [mJ 20 18,mJ 5 20] [1,2,3,4,5,17,18] Q71)) Q72
def Q37:SC:=sR [bJ 19 .lss 18 17] [1,2,3,4,17,18,19] (cX 19 2 Q73)
def Qiy:List Item:=[bJ 66 .eql 63 65]
def Qiz:List Item:=.chk 64 none (.ld 3 true (.t 1))::aJ 65 Qcd [.t 64]::Qiy
def Q74:SC:=cT 66 (sR [tJ 67 3 4,sJ 3 2 67] [2] .ret) .skip
def Q75:SC:=.reg [tJ 68 3 4,sJ 3 1 68] [1,2]
def Q76:SC:=.seq (.seq (.dreg 5 [0,2,1,2,3,4] ( tJ 62 3 4::tJ 64 3 1::aJ 63 Qcd [.t 62]::Qiz) [1,2,4,66]) Q74) Q75
def Q77:SC:=.seq (sR [fJ 15 2 4,lJ 16 15,nJ 17 16,zJ 18 0] [1,2,3,4,17,18] (bL 2 Q37)) (.seq .gh Q76)
def Q38:SC:=.block 1 (.seq (.dreg 4 [0,2,1,2,3,4,0,2,5,6] ( tJ 11 3 1::tJ 13 3 1::aJ 12 Qfy [.t 11]::Qk2) [1,2,3,4]) Q77)
def Qari:SC:=sR [eI 1 (.boxm (.t 0)),eI 2 (.alloc [.int .i64 0,.int .i64 0,.sl true 5 []])] [1,2] (bL 0 Q38)
def Qy9:List RS:=[.cell 2 3 true]
theorem Qap9:mFn prog Qb7 1 69 Qari Qy9=true:=by kernel_rfl
end Go.AE.Y
namespace Go.AE.Y
attribute [local go_sem] cond_true cond_false Bool.not_true Bool.not_false
open Go.Proofs.Tryz
variable {H H0 F:Heap}{K:V→Heap→Prop}{E L:List (Nat×Obj)}
theorem PhiD.take2 (x:PhiD):x.cells.take 2=x.cells:=rfl
theorem PhiD.allOw (x:PhiD):(x.cells.all fun c=>!c.isOw)=true:=rfl
theorem PhiD.len2 (x:PhiD):x.cells.length=2:=rfl
theorem Qbej {x:PhiD}(hl:x.args.length≤LIM)(hK:∀H',Upd H H' []→K (.ag x.cells) H'):Qo prog Qc2 [.ag x.cells] H K:=by
 refine Qy ?_;refine Qb Qap Qawn ?_;refine Qa ?_;simp only[go_sem,PhiD.cells];intro x2 hx2 H1 h1;have kn:=(Kn.start0 H).al hx2 h1;refine Qao ?_;simp only[go_sem];refine Qavl kn hl fun t Lg H2 hgr how kn=>?_;have hx2:=kn.l 0 rfl;simp only[go_sem,Qon,how,hx2];intro H3 h3;have kn:Kn H H3 [] ([(x2,.st [.int .i64 x.to,t])]++Lg):=kn.stL 0 rfl h3;have hx2:=kn.l 0 rfl;refine Qj ?_;simp only[go_sem,Q4,Qaa,Q24,Ja,forall_eq,RS.op,how,hx2];exact⟨_,FrzL.ag (.cons (Qg rfl) (.cons (hgr.frz kn (Q6 _)) .nil)),hK _ kn.fin⟩
theorem Qbei {x:InsD}(hl:x.args.length≤LIM)(hK:∀H',Upd H H' []→K (.ag x.cells) H'):Qo prog Qc1 [.ag x.cells] H K:=by
 refine Qy ?_;refine Qb Qap Qap3 ?_;refine Qa ?_;simp only[go_sem,InsD.cells];intro x1 hx1 H0 h0;have kn:=(Kn.start0 H).al hx1 h0;intro x2 hx2 H1 h1;have kn:=kn.al hx2 h1;have hx1:=kn.l 0 rfl;refine Qa ?_;simp only[go_sem,hx1];refine Qavl kn hl fun t Lg H2 hgr how kn=>?_;have hx1:=kn.l 0 rfl;simp only[go_sem,Qkt,how,hx1];intro H3 h3;have kn:=kn.stL 0 rfl h3;have hx1:=kn.l 0 rfl;have hx2:=kn.l 1 rfl;refine Qa ?_;simp only[go_sem,hx1,hx2,how];intro H4 h4;have kn:Kn H H4 [] ([(x1,.st [.int .i64 x.op,.int .i64 x.to,t,.int .i64 x.n]),(x2,.st [.int .i64 x.op,.int .i64 x.to,t,.int .i64 x.n])]++Lg):=kn.stL 1 rfl h4;have hx2:=kn.l 1 rfl;refine Qj ?_;simp only[go_sem,Q4,Qaa,Qy3,Ja,forall_eq,RS.op,how,hx2];exact⟨_,FrzL.ag (.cons (Qg rfl) (.cons (Qg rfl) (.cons (hgr.frz kn (Q6 _)) (.cons (Qg rfl) .nil)))),hK _ kn.fin⟩
theorem Qbo6 {l:List PhiD}{fl:Bool}(hl:l.length≤2 ^ 38)(ha:∀x∈l,x.args.length≤LIM)(kn:Kn H0 H E L)(hK:∀t Lg H',Gr Lg 2 (Qz l) t→Kn H0 H' E (L++Lg)→K (.c t) H') :
  Qo prog Qcx [.c (.sl fl 2 (Qz l)),.c (.fn Qc2 [])] H K:=by
 refine Qb Qap Q0r ?_;refine Qa ?_;simp only[go_sem];refine Qa ?_;simp only[go_sem];refine Q5 ?_;refine Qa ?_;simp only[go_sem,Qq];intro _;refine Qh (Qc (Qu (fun m e1 H1=>∃(i:Nat) (t:C) (Lg:List (Nat×Obj)),m=l.length-i∧i≤l.length∧Gr Lg 2 (Qz (l.take i)) t∧Kn H0 H1 E (L++Lg)∧
  e1=[(1,.c (.fn Qc2 [])),(5,.c t),(8,.c (.sl fl 2 (Qz l))),(9,.c (.int .i64 l.length)),(10,.c (.int .i64 i))]) l.length ?_ ?_))
 ·exact⟨0,_,[],by omega,by omega,.nil 2,by simpa using kn,rfl⟩
 ·clear kn;rintro m e1 H1 ⟨i,t,Lg,hm,hi,hgr,kn,rfl⟩;have htw:=hgr.isOw;refine Qa ?_;simp only[go_sem,htw];refine Qh (Qd rfl ?_ ?_)
  ·intro hc;have hlt:i<l.length:=by simpa using hc
   obtain⟨p,hp⟩:∃p,l[i]=p:=⟨_,rfl⟩;have hpm:p∈l:=by rw[←hp];exact Jd hlt
   have htk:l.take (i+1)=l.take i++[p]:=by rw[Je hlt,hp]
   refine Qf ?_;try simp only[go_sem]
   refine Qh (Qc ?_);refine Qa ?_;simp only[go_sem,htw,hlt,Qq,Qal _ _ hlt,PhiD.cells,hp];intro x7 hx7 H2 h2;have kn:=kn.al hx7 h2;have hx7:H2 x7=.st [.int .i64 0,.sl true 1 []]:=(kn.get (x7,.st [.int .i64 0,.sl true 1 []]) (by simp)).1;simp only[go_sem,Qe0,hx7,htw];intro H3 h3;have kn:Kn H0 H3 E ((L++[(x7,.st [.int .i64 p.to,.sl false 1 (Qe p.args)])])++Lg):=by
    have:=kn.stL (L++Lg).length (x:=x7) (o:=.st [.int .i64 0,.sl true 1 []]) (by simp) h3;refine Kn.perm (by simpa using this) (Qt fun f hf h0 hc hp=>by simp only[hf];omega)
   have hx7:H3 x7=.st [.int .i64 p.to,.sl false 1 (Qe p.args)]:=(kn.get (x7,.st [.int .i64 p.to,.sl false 1 (Qe p.args)]) (by simp)).1;refine Qr ?_;simp only[go_sem,htw,hx7,Jaf,Jac];refine Qbej (x:=p) (ha p hpm) fun H4 hu=>?_;have kn:=kn.call0 hu;simp only[go_sem,Qe2,htw,PhiD.cells];have hsm:(l.take i).length≤l.length:=by rw[J2];omega
   refine kn.growR (new:=Qz [p]) hgr (.mk' _ _ _ _) (Q0x _) (by simp only[Qq,LIM,Jh,Jm];omega) fun t2 Lg2 H5 hgr2 ht2 kn=>?_;simp only[go_sem,Qe1,ht2];refine Qr ?_;simp only[go_sem,X.next,ht2];refine⟨Qp (by omega) (by omega),l.length-(i+1),by omega,i+1,t2,Lg2,rfl,by omega,?_,?_,rfl⟩
   ·rw[htk];have:Qz (l.take i++[p])=Qz (l.take i)++Qz [p]:=(by simp[Qz]);rw[this];exact hgr2
   ·exact Kn.drop (B:=[(x7,.st [.int .i64 p.to,.sl false 1 (Qe p.args)])]) (kn.perm (Qt fun f hf h0 hc hp=>by simp only[hf];omega))
  ·intro hc;have hge:l.length≤i:=by simpa using hc
   rw[Jr hge]at hgr;refine Qv ?_;simp only[go_sem,X.next];refine Qa ?_;simp only[go_sem,htw];refine Qj ?_;simp only[go_sem,Q4,Qaa,Qhs,Ja,forall_eq,RS.op,htw];exact hK t Lg H1 hgr kn
theorem Qbo5 {l:List InsD}{fl:Bool}(hl:l.length≤2 ^ 38)(ha:∀x∈l,x.args.length≤LIM)(hK:∀H',Upd H H' []→K (.c (.sl false 4 (Qac l))) H') :
  Qo prog Qcw [.c (.sl fl 4 (Qac l)),.c (.fn Qc1 [])] H K:=by
 refine Qy ?_;refine Qb Qap Q0q ?_;refine Qa ?_;simp only[go_sem];refine Qa ?_;simp only[go_sem];refine Q5 ?_;refine Qa ?_;simp only[go_sem,Q3];intro _;refine Qh (Qc (Qu (fun m e1 H1=>∃(i:Nat) (t:C) (Lg:List (Nat×Obj)),m=l.length-i∧i≤l.length∧Gr Lg 4 (Qac (l.take i)) t∧Kn H H1 [] ([]++Lg)∧
  e1=[(1,.c (.fn Qc1 [])),(5,.c t),(8,.c (.sl fl 4 (Qac l))),(9,.c (.int .i64 l.length)),(10,.c (.int .i64 i))]) l.length ?_ ?_))
 ·exact⟨0,_,[],by omega,by omega,.nil 4,Kn.start0 H,rfl⟩
 ·rintro m e1 H1 ⟨i,t,Lg,hm,hi,hgr,kn,rfl⟩;have htw:=hgr.isOw;refine Qa ?_;simp only[go_sem,htw];refine Qh (Qd rfl ?_ ?_)
  ·intro hc;have hlt:i<l.length:=by simpa using hc
   obtain⟨p,hp⟩:∃p,l[i]=p:=⟨_,rfl⟩;have hpm:p∈l:=by rw[←hp];exact Jd hlt
   have htk:l.take (i+1)=l.take i++[p]:=by rw[Je hlt,hp]
   refine Qf ?_;try simp only[go_sem]
   refine Qh (Qc ?_);refine Qa ?_;simp only[go_sem,htw,hlt,Q3,Qa2 _ _ hlt,InsD.cells,hp];intro x7 hx7 H2 h2;have kn:=kn.al hx7 h2;have hx7:H2 x7=.st [.int .i64 0,.int .i64 0,.sl true 1 [],.int .i64 0]:=(kn.get (x7,.st [.int .i64 0,.int .i64 0,.sl true 1 [],.int .i64 0]) (by simp)).1;simp only[go_sem,Qex,hx7,htw];intro H3 h3;have kn:Kn H H3 [] ([(x7,.st [.int .i64 p.op,.int .i64 p.to,.sl false 1 (Qe p.args),.int .i64 p.n])]++Lg):=by
    have:=kn.stL ([]++Lg).length (x:=x7) (o:=.st [.int .i64 0,.int .i64 0,.sl true 1 [],.int .i64 0]) (by simp) h3;refine Kn.perm (by simpa using this) ?_;exact Jo
   have hx7:=kn.l 0 rfl;refine Qr ?_;simp only[go_sem,htw,hx7,Jaf,Jac];refine Qbei (x:=p) (ha p hpm) fun H4 hu=>?_;have kn:=kn.call0 hu;simp only[go_sem,Qez,htw,InsD.cells];have hsm:(l.take i).length≤l.length:=by rw[J2];omega
   refine kn.growR (new:=Qac [p]) hgr (.mk' _ _ _ _) (Qfg _) (by simp only[Q3,LIM,Jh,Jm];omega) fun t2 Lg2 H5 hgr2 ht2 kn=>?_;simp only[go_sem,Qey,ht2];refine Qr ?_;simp only[go_sem,X.next,ht2];refine⟨Qp (by omega) (by omega),l.length-(i+1),by omega,i+1,t2,Lg2,rfl,by omega,?_,?_,rfl⟩
   ·rw[htk];have:Qac (l.take i++[p])=Qac (l.take i)++Qac [p]:=(by simp[Qac]);rw[this];exact hgr2
   ·exact Kn.drop (B:=[(x7,.st [.int .i64 p.op,.int .i64 p.to,.sl false 1 (Qe p.args),.int .i64 p.n])]) (kn.perm Jo)
  ·intro hc;have hge:l.length≤i:=by simpa using hc
   rw[Jr hge]at hgr;refine Qv ?_;simp only[go_sem,X.next];refine Qa ?_;simp only[go_sem,htw];refine Qj ?_;simp only[go_sem,Q4,Qaa,Qhr,Ja,forall_eq,RS.op,htw];exact⟨_,.c _ _ (hgr.frz kn (Qfg _)),hK _ kn.fin⟩
def kRow (y:BlkD)(pc:C):List C:=[pc,.sl false 4 (Qac y.ins),.int .i64 y.jump,.int .i64 y.on,.sl false 1 (Qe y.next)]
structure BlkD.cl (y:BlkD):Prop where
 i:y.ins.length≤2 ^ 38
 p:y.phis.length≤2 ^ 38
 n:y.next.length≤LIM
 ia:∀x∈y.ins,x.args.length≤LIM
 pa:∀x∈y.phis,x.args.length≤LIM
theorem Qazy {y:BlkD}(hy:y.cl)(hK:∀pc N H',Gr N 2 (Qz y.phis) pc→Kn H H' [] N→K (.ag (kRow y pc)) H'):Qo prog Qb6 [.ag y.cells] H K:=by
 refine Qd4 ?_;refine Qb Qap Qac7 ?_;refine Qa ?_;simp only[go_sem,BlkD.cells];intro x1 hx1 H0 h0;have kn:=(Kn.start0 H).al hx1 h0;intro x2 hx2 H1 h1;have kn:=kn.al hx2 h1;have hx1:=kn.l 0 rfl;refine Qa ?_;simp only[go_sem,hx1];refine Qbo6 hy.p hy.pa kn fun pc N H2 hgp kn=>?_;have hpw:=hgp.isOw;have hx1:=kn.l 0 rfl;simp only[go_sem,Qhv,hpw,hx1];intro H3 h3;have kn:=kn.stL 0 rfl h3;have hx1:=kn.l 0 rfl;refine Qa ?_;simp only[go_sem,hx1,hpw];refine Qbo5 hy.i hy.ia fun H4 hu=>?_;have kn:=kn.call0 hu;have hx1:=kn.l 0 rfl;simp only[go_sem,Qhw,hpw,hx1];intro H5 h5;have kn:=kn.stL 0 rfl h5;have hx1:=kn.l 0 rfl;refine Qa ?_;simp only[go_sem,hx1,hpw];refine Qavl kn hy.n fun t Lg H6 hgr how kn=>?_;have hx1:=kn.l 0 rfl;simp only[go_sem,Qhx,hpw,how,hx1];intro H7 h7;have kn:=kn.stL 0 rfl h7;have hx1:=kn.l 0 rfl;have hx2:=kn.l 1 rfl;refine Qa ?_;simp only[go_sem,hx1,hx2,hpw,how];intro H8 h8;have kn:Kn H H8 [] (([(x1,.st [pc,.sl false 4 (Qac y.ins),.int .i64 y.jump,.int .i64 y.on,t]),(x2,.st [pc,.sl false 4 (Qac y.ins),.int .i64 y.jump,.int .i64 y.on,t])]++Lg)++N):=
  (kn.stL 1 rfl h8).perm (Qt fun f hf h0 hc hp=>by
   have e1:=hc (x1,.st [pc,.sl false 4 (Qac y.ins),.int .i64 y.jump,.int .i64 y.on,t]) ([(x2,.st [pc,.sl false 4 (Qac y.ins),.int .i64 y.jump,.int .i64 y.on,t])]++N++Lg);have e2:=hc (x1,.st [pc,.sl false 4 (Qac y.ins),.int .i64 y.jump,.int .i64 y.on,t]) [(x2,.st [pc,.sl false 4 (Qac y.ins),.int .i64 y.jump,.int .i64 y.on,t])];show f ((x1,_)::([(x2,_)]++N++Lg))=_;rw[e1];simp only[hf,e2];omega)
 have hx2:=kn.l 1 rfl;have hfr:∀p∈Lg,H8 p.1=p.2∧unx H N p.1=true:=fun p hp=>
  ⟨(kn.get p (Jb _ (Jc _ (Jb _ hp)))).1,kn.unx (Jb _ hp)⟩
 refine Qj ?_;simp only[go_sem,Q4,Qaa,Qoc,Ja,forall_eq,RS.op,hpw,how,hx2];exact⟨unx H N,.ag (kRow y pc),H8.frz (unx H N),FrzL.ag (.cons (.same _ hpw) (.cons (Qavz (noOw_mem (Qfg _))) (.cons (Qg rfl) (.cons (Qg rfl) (.cons (Gr.frzM hgr hfr (FrzR.same (Q6 _))) .nil))))),Qdb _ _,hK pc N _ hgp kn.finK⟩
structure KBlk where
 y:BlkD
 pc:C
 pl:List (Nat×Obj)
def KBlk.row (b:KBlk):List C:=kRow b.y b.pc
def KBlk.ok (b:KBlk):Prop:=Gr b.pl 2 (Qz b.y.phis) b.pc
theorem KBlk.noOw {b:KBlk}(h:b.ok):Go.AE.noOw b.row=true:=by
 have:=h.isOw;simp only[Go.AE.noOw,KBlk.row,kRow,List.all_cons,List.all_nil,this];rfl
theorem Qbo4 {l:List BlkD}{fl:Bool}(hl:l.length≤2 ^ 38)(ha:∀y∈l,y.cl)(kn:Kn H0 H E L)
  (hK:∀(ks:List KBlk) t Lg H',ks.map KBlk.y=l→(∀b∈ks,b.ok)→Gr Lg 5 (ks.map KBlk.row) t→Kn H0 H' E ((L++ks.flatMap KBlk.pl)++Lg)→K (.c t) H') :
  Qo prog Qbx [.c (.sl fl 5 (Qm l)),.c (.fn Qb6 [])] H K:=by
 refine Qb Qap Qms ?_;refine Qa ?_;simp only[go_sem];refine Qa ?_;simp only[go_sem];refine Q5 ?_;refine Qa ?_;simp only[go_sem,Ql];intro _;refine Qh (Qc (Qu (fun m e1 H1=>∃(ks:List KBlk) (t:C) (Lg:List (Nat×Obj)),m=l.length-ks.length∧ks.length≤l.length∧ks.map KBlk.y=l.take ks.length∧(∀b∈ks,b.ok)∧Gr Lg 5 (ks.map KBlk.row) t∧Kn H0 H1 E ((L++ks.flatMap KBlk.pl)++Lg)∧
  e1=[(1,.c (.fn Qb6 [])),(5,.c t),(8,.c (.sl fl 5 (Qm l))),(9,.c (.int .i64 l.length)),(10,.c (.int .i64 ks.length))]) l.length ?_ ?_))
 ·exact⟨[],_,[],by simp,by simp,by simp,by simp,.nil 5,by simpa using kn,rfl⟩
 ·clear kn;rintro m e1 H1 ⟨ks,t,Lg,hm,hi,hky,hko,hgr,kn,rfl⟩;have htw:=hgr.isOw;refine Qa ?_;simp only[go_sem,htw];refine Qh (Qd rfl ?_ ?_)
  ·intro hc;have hlt:ks.length<l.length:=by simpa using hc
   obtain⟨y,hy⟩:∃y,l[ks.length]=y:=⟨_,rfl⟩;have hym:y∈l:=by rw[←hy];exact Jd hlt
   have htk:l.take (ks.length+1)=l.take ks.length++[y]:=by rw[Je hlt,hy]
   refine Qf ?_;try simp only[go_sem]
   refine Qh (Qc ?_);refine Qa ?_;simp only[go_sem,htw,hlt,Ql,Q1 _ _ hlt,BlkD.cells,hy];intro x7 hx7 H2 h2;have kn:=kn.al hx7 h2;have hx7:H2 x7=.st [.sl true 2 [],.sl true 4 [],.int .i64 0,.int .i64 0,.sl true 1 []]:=(kn.get (x7,.st [.sl true 2 [],.sl true 4 [],.int .i64 0,.int .i64 0,.sl true 1 []]) (by simp)).1;simp only[go_sem,Qct,hx7,htw];intro H3 h3;have kn:Kn H0 H3 E (((L++ks.flatMap KBlk.pl)++Lg)++[(x7,Q2f y)]):=by
    have:=kn.stL ((L++ks.flatMap KBlk.pl)++Lg).length (x:=x7) (o:=.st [.sl true 2 [],.sl true 4 [],.int .i64 0,.int .i64 0,.sl true 1 []]) (by simp) h3;simpa[Q2f]using this
   have hx7:H3 x7=.st [.sl false 2 (Qz y.phis),.sl false 4 (Qac y.ins),.int .i64 y.jump,.int .i64 y.on,.sl false 1 (Qe y.next)]:=(kn.get (x7,Q2f y) (by simp)).1;have kn:=kn.drop;refine Qr ?_;simp only[go_sem,htw,hx7,Jaf,Jac];refine Qazy (y:=y) (ha y hym) fun pc N H4 hgp k2=>?_;have kn:Kn H0 H4 E ((L++(ks++[(⟨y,pc,N⟩:KBlk)]).flatMap KBlk.pl)++Lg):=(kn.comp0 k2).perm (Qt fun f hf h0 hc hp=>by
    simp only[hf,Jau,Jae,Jaw,Jaf];omega)
   have hpw:=hgp.isOw;simp only[go_sem,Qcv,htw,kRow,hpw];refine kn.growR (new:=[KBlk.row ⟨y,pc,N⟩]) hgr (.mk' _ _ _ _) (by intro r hr;simp only[Ja]at hr;subst hr;exact KBlk.noOw hgp) (by simp only[Jf,LIM,Jh,Jm];omega) fun t2 Lg2 H5 hgr2 ht2 kn=>?_;simp only[go_sem,Qcu,ht2];refine Qr ?_;simp only[go_sem,X.next,ht2];refine⟨Qp (by omega) (by omega),l.length-(ks.length+1),by omega,ks++[⟨y,pc,N⟩],t2,Lg2,by simp,by simp;omega,?_,fun b hb=>?_,?_,kn,?_⟩
   ·rw[Jp,List.length_singleton,htk,Ji,hky];rfl
   ·rcases Jg.1 hb with hb|hb
    ·exact hko b hb
    ·simp only[Ja]at hb;subst hb;exact hgp
   ·rw[Ji];exact hgr2
   ·simp
  ·intro hc;have hge:ks.length=l.length:=by have:l.length≤ks.length:=(by simpa using hc);omega
   rw[hge,Jx]at hky;refine Qv ?_;simp only[go_sem,X.next];refine Qa ?_;simp only[go_sem,htw];refine Qj ?_;simp only[go_sem,Q4,Qaa,Qei,Ja,forall_eq,RS.op,htw];exact hK ks t Lg H1 hky hko hgr kn
theorem Qa6c {q:CodeD}{fl:Bool}(hb:q.blocks.length≤2 ^ 38)(ha:∀y∈q.blocks,y.cl)
  (hK:∀(ks:List KBlk) bc bl H',ks.map KBlk.y=q.blocks→(∀b∈ks,b.ok)→Gr bl 5 (ks.map KBlk.row) bc→Kn H H' [] (ks.flatMap KBlk.pl++bl)→K (.ag [.int .i64 q.params,.int .i64 q.regs,bc]) H') :
  Qo prog Qea [.ag [.int .i64 q.params,.int .i64 q.regs,.sl fl 5 (Qm q.blocks)]] H K:=by
 refine Qd4 ?_;refine Qb Qap Qah8 ?_;refine Qa ?_;simp only[go_sem];intro x1 hx1 H0 h0;have kn:=(Kn.start0 H).al hx1 h0;intro x2 hx2 H1 h1;have kn:=kn.al hx2 h1;have hx1:=kn.l 0 rfl;refine Qa ?_;simp only[go_sem,hx1];refine Qbo4 hb ha kn fun ks bc bl H2 hky hko hgr kn=>?_;have hbw:=hgr.isOw;have hx1:=kn.l 0 rfl;simp only[go_sem,Qix,hbw,hx1];intro H3 h3;have kn:=kn.stL 0 rfl h3;have hx1:=kn.l 0 rfl;have hx2:=kn.l 1 rfl;refine Qa ?_;simp only[go_sem,hx1,hx2,hbw];intro H4 h4;have kn:Kn H H4 [] ([(x1,.st [.int .i64 q.params,.int .i64 q.regs,bc]),(x2,.st [.int .i64 q.params,.int .i64 q.regs,bc])]++(ks.flatMap KBlk.pl++bl)):=by
  have:=kn.stL 1 rfl h4;refine this.perm ?_;simp only[List.set,J0,Jad,Jv];exact .refl _
 have hx2:=kn.l 1 rfl;refine Qj ?_;simp only[go_sem,Q4,Qaa,Qss,Ja,forall_eq,RS.op,hbw,hx2];exact⟨unx H (ks.flatMap KBlk.pl++bl),.ag [.int .i64 q.params,.int .i64 q.regs,bc],H4.frz (unx H (ks.flatMap KBlk.pl++bl)),FrzL.ag (.cons (Qg rfl) (.cons (Qg rfl) (.cons (.same _ hbw) .nil))),Qdb _ _,hK ks bc bl _ hky hko hgr kn.finK⟩
end Go.AE.Y
namespace Go.AE.Y
attribute [local go_sem] cond_true cond_false Bool.not_true Bool.not_false
open Go.Proofs.Tryz
variable {H H0 F:Heap}{K:V→Heap→Prop}{E L B pl:List (Nat×Obj)}
theorem Q2g {x:PhiD}{x7 M ver:Nat}{ks:List Nat}{R:Nat}(h7:H x7=.st [.mp M])(hM:H M=.map ver (Qan ks))(hx:0≤x.to)(hK:K (.c (.bool (!decide (x.to.toNat∈ks)))) H) :
  Qo prog Qa1 [.ag x.cells,.c (.ptr x7 0)] H K:=by
 have hokM:Qsn H (.mp M)=True:=by simp only[Qsn,hM]
 have henM:Qak H (.mp M)=Qan ks:=by simp only[Qak,hM]
 have hv:x.to=(x.to.toNat:Int):=by omega
 refine Qb Qap Qac8 ?_;refine Qa ?_;simp only[go_sem,PhiD.cells];generalize hr:x.to.toNat=r at *;refine Qa ?_;simp only[go_sem,h7,hokM,henM,hv,Qcg,Qahf];refine Qj ?_;simp only[go_sem,Q4,Qaa,Qod,Ja,forall_eq,RS.op];exact hK
def Q2t (ks:List Nat)(f:PhiD):Bool:=decide (f.to.toNat∈ks)
theorem Qbji {l R:List PhiD}{p:PhiD→Bool}{i j:Nat}(hij:i<j)(hj:j<l.length)(hRl:R.length=l.length)(h1:R.take i=(l.take j).filter p)(h2:R.drop j=l.drop j)(hjR:j<R.length) :
  R[j]=l[j]∧(p R[j]=true→(R.set i R[j]).take (i+1)=(l.take (j+1)).filter p∧(R.set i R[j]).drop (j+1)=l.drop (j+1))∧(p R[j]=false→R.take i=(l.take (j+1)).filter p∧R.drop (j+1)=l.drop (j+1)):=by
 have e:R[j]=l[j]:=by
  have a:=Js hjR;have b:=Js hj;rw[a,b]at h2;exact (List.cons.inj h2).1
 have hd:R.drop (j+1)=l.drop (j+1):=by
  have a:=Js hjR;have b:=Js hj;rw[a,b]at h2;exact (List.cons.inj h2).2
 refine⟨e,fun hp=>⟨?_,?_⟩,fun hp=>⟨?_,hd⟩⟩
 ·have hi:i<(R.set i R[j]).length:=by rw[J5];omega
  rw[Je hi,List.getElem_set_self,List.take_set_of_le (Jk i),h1,Je hj,J9,Jaj,←e,hp,if_pos rfl,Jax]
 ·rw[List.drop_set_of_lt (by omega),hd]
 ·rw[h1,Je hj,J9,Jaj,←e,hp];simp
theorem Qbeb {c:C}{l:List PhiD}{x7 M ver:Nat}{ks:List Nat}(hs:Slc H 2 (Qz l) c)(how:c.isOw=false)(h7:H x7=.st [.mp M])(hM:H M=.map ver (Qan ks))(hto:∀x∈l,0≤x.to)
  (hK:∀r:Int,((r=-1∧l.filter (Q2t ks)=l)∨∃i:Nat,r=i∧i<l.length∧l.take i=(l.take (i+1)).filter (Q2t ks))→K (.c (.int .i64 r)) H):Qo prog Qdg [.c c,.c (.fn Qa1 [.ptr x7 0])] H K:=by
 refine Qb Qap Q2z ?_;have hok:=eq_true hs.ok;have hlen:=hs.len;have hsz:=hs.sz;have hrw:=hs.rows;refine Qa ?_;simp only[go_sem,how];refine Q5 ?_;refine Qa ?_;simp only[go_sem,how,hok,hlen,Qq];intro hl;simp only[LIM]at hl;refine Qh (Qc (Qu (fun m e1 H1=>∃(i:Nat),m=l.length-i∧i≤l.length∧(l.take i).filter (Q2t ks)=l.take i∧H1=H∧e1=[(0,.c c),(1,.c (.fn Qa1 [.ptr x7 0])),(7,.c (.int .i64 l.length)),(8,.c (.int .i64 i))]) l.length ?_ ?_))
 ·exact⟨0,by omega,by omega,by simp,rfl,rfl⟩
 ·rintro m e1 H1 ⟨i,hm,hi,hkp,rfl,rfl⟩;refine Qa ?_;simp only[go_sem,how];refine Qh (Qd rfl ?_ ?_)
  ·intro hc;have hlt:i<l.length:=by simpa using hc
   refine Qf ?_;try simp only[go_sem]
   refine Qh (Qc ?_);refine Qa ?_;simp only[go_sem,how];refine Qa ?_;simp only[go_sem,how,hok,hlen,hsz,hrw,hlt,Qq,Qal _ _ hlt,PhiD.take2,PhiD.allOw,PhiD.len2,J0,Jad,J6,Jac];refine Q2g (R:=0) h7 hM (hto _ (Jd hlt)) ?_;refine Qd rfl ?_ ?_
   ·intro hc2;refine Qa ?_;simp only[go_sem];refine Qj ?_;simp only[go_sem,X.next,Q4,Qaa,Qek,Ja,forall_eq,RS.op];refine hK _ (.inr ⟨i,rfl,hlt,?_⟩);have hk:Q2t ks l[i]=false:=(by simpa[Q2t]using hc2);rw[Je hlt,J9,hkp,Jaj,hk];simp
   ·intro hc2;have hk:Q2t ks l[i]=true:=(by simpa[Q2t]using hc2);refine Qf ?_;try simp only[go_sem]
    refine Qr ?_;simp only[go_sem,X.next];refine⟨Qp (by omega) (by omega),l.length-(i+1),by omega,i+1,rfl,by omega,?_,by trivial⟩;rw[Je hlt,J9,hkp,Jaj,hk,if_pos rfl,Jax]
  ·intro hc;have hge:l.length≤i:=by simpa using hc
   rw[Jr hge]at hkp;refine Qv ?_;simp only[go_sem,X.next];refine Qa ?_;simp only[go_sem];refine Qj ?_;simp only[go_sem,Q4,Qaa,Qek,Ja,forall_eq,RS.op];exact hK _ (.inl ⟨rfl,hkp⟩)
theorem Qbfs (l:List PhiD)(i:Nat)(x:PhiD):(Qz l).set i x.cells=Qz (l.set i x):=by simp[Qz,Jav]
set_option maxHeartbeats 2000000 in
theorem Qa56 {pc:C}{l:List PhiD}{x7 M ver:Nat}{ks:List Nat}(kn:Kn H0 H E (B++pl))(hgr:Gr pl 2 (Qz l) pc)(hL:l.length≤2 ^ 38)(h7:(x7,Obj.st [.mp M])∈B)(hM:(M,Obj.map ver (Qan ks))∈B)(hto:∀x∈l,0≤x.to)
  (hK:∀pc' pl' H',Gw pl' 2 (Qz (l.filter (Q2t ks))) pc'→Kn H0 H' E (B++pl')→K (.c pc') H') :
  Qo prog Qcy [.c pc,.c (.fn Qa1 [.ptr x7 0])] H K:=by
 have how:=hgr.isOw;have hget:=hgr.get kn;have hs:Slc H 2 (Qz l) pc:=⟨hget.1,hgr.elemSz,hget.2,hgr.lenC⟩;have g7:∀{H1:Heap} {N:List (Nat×Obj)},Kn H0 H1 E (B++N)→H1 x7=.st [.mp M]∧H1 M=.map ver (Qan ks):=fun kn=>
  ⟨(kn.get _ (Jb _ (Jc _ h7))).1,(kn.get _ (Jb _ (Jc _ hM))).1⟩
 refine Qb Qap Q0s ?_;refine Qa ?_;simp only[go_sem,how];refine Qa ?_;simp only[go_sem,how];refine Qbeb hs how (g7 kn).1 (g7 kn).2 hto fun r hr=>?_;simp only[go_sem,Qe3,how];refine Q5 ?_;refine Qa ?_;simp only[go_sem,how];rcases hr with ⟨rfl,hall⟩|⟨i0,rfl,hi0,hkp0⟩
 ·refine Qh (Qd rfl (fun _=>?_) (fun h=>by simp at h));refine Qa ?_;simp only[go_sem,how];refine Qj ?_;simp only[go_sem,Q4,Qaa,Qdh,Ja,forall_eq,RS.op,how];refine hK pc pl H ?_ kn;rw[hall];exact hgr.gw
 ·have hne:decide ((i0:Int)=-1)=false:=decide_eq_false (by omega);refine Qh (Qd rfl (fun h=>?_) (fun _=>?_))
  ·have:=of_decide_eq_true h;omega
  obtain⟨z,rfl,rfl⟩:∃z,pc=.vsl z 2 0 l.length∧pl=[(z,.vec 2 (Qz l))]:=by
   rcases hgr with ⟨_,h,_⟩|⟨y,h1,h2⟩
   ·have:=congrArg List.length h;rw[Qq]at this;simp only[Jm]at this;omega
   ·exact⟨y,by rw[h1,Qq],h2⟩
  refine Qf ?_;try simp only[go_sem]
  refine Q5 ?_;refine Qa ?_;simp only[go_sem];refine⟨Qp (by omega) (by omega),?_⟩;refine Qh (Qc (Qu (fun m e1 H1=>∃(i j:Nat) (R:List PhiD),m=l.length-j∧i<j∧j≤l.length∧R.length=l.length∧(∀x∈R,x∈l)∧(R.take i=(l.take j).filter (Q2t ks)∧R.drop j=l.drop j)∧Kn H0 H1 E (B++[(z,.vec 2 (Qz R))])∧
   lk 0 e1=.c (.vsl z 2 0 l.length)∧lk 1 e1=.c (.fn Qa1 [.ptr x7 0])∧lk 5 e1=.c (.int .i64 i)∧lk 6 e1=.c (.int .i64 j)) (l.length-(i0+1)) ?_ ?_))
  ·exact⟨i0,i0+1,l,by omega,by omega,by omega,rfl,fun x hx=>hx,⟨hkp0,rfl⟩,kn,rfl,rfl,rfl,rfl⟩
  ·clear kn hs hget hgr how;rintro m e1 H1 ⟨i,j,R,hm,hij,hj,hRl,hRm,⟨hk1,hk2⟩,kn,l0,l1,l5,l6⟩;have hz:H1 z=.vec 2 (Qz R):=(kn.get (z,.vec 2 (Qz R)) (by simp)).1;have htk:(Qz R).take l.length=Qz R:=Jr (by rw[Qq];omega);refine Q5 ?_;refine Qa ?_;simp only[go_sem,l0,l1,l5,l6,hz,Qq,hRl,Jq,Jk];intro _;refine Qh (Qd rfl ?_ ?_)
   ·intro hc;have hjl:j<l.length:=(by simpa using hc);have hjR:j<R.length:=(by omega);have hiR:i<R.length:=(by omega);have hil:i<l.length:=(by omega);obtain⟨x,hx⟩:∃x,R[j]=x:=⟨_,rfl⟩;have hxm:x∈R:=(by rw[←hx];exact Jd hjR);obtain⟨hs1,hs2,hs3⟩:=Qbji hij hjl hRl hk1 hk2 hjR;rw[hx]at hs2 hs3;refine Qf ?_;try simp only[go_sem]
    refine Qd3 (fun e2 H2=>∃(i2:Nat) (R2:List PhiD),i2<j+1∧R2.length=l.length∧(∀x∈R2,x∈l)∧(R2.take i2=(l.take (j+1)).filter (Q2t ks)∧R2.drop (j+1)=l.drop (j+1))∧Kn H0 H2 E (B++[(z,.vec 2 (Qz R2))])∧lk 0 e2=.c (.vsl z 2 0 l.length)∧lk 1 e2=.c (.fn Qa1 [.ptr x7 0])∧lk 5 e2=.c (.int .i64 i2)∧lk 6 e2=.c (.int .i64 j)) ?_ ?_
    ·intro Q hnr _ _;refine Qc ?_;refine Qa ?_;simp only[go_sem,hz,htk,hjl,Qq,hRl,Qal _ _ hjR,hx,PhiD.cells,Jq,Jk];intro y7 hy7 H2 h2;have kn:=kn.al hy7 h2;have hy7:H2 y7=.st [.int .i64 0,.sl true 1 []]:=(kn.get (y7,.st [.int .i64 0,.sl true 1 []]) (by simp)).1;simp only[go_sem,Qe4,hy7];intro H3 h3;have kn:Kn H0 H3 E ((B++[(z,.vec 2 (Qz R))])++[(y7,.st [.int .i64 x.to,.sl false 1 (Qe x.args)])]):=by
      have:=kn.stL (B++[(z,Obj.vec 2 (Qz R))]).length (x:=y7) (o:=.st [.int .i64 0,.sl true 1 []]) (by simp) h3;simpa using this
     have hy7:H3 y7=.st [.int .i64 x.to,.sl false 1 (Qe x.args)]:=(kn.get (y7,.st [.int .i64 x.to,.sl false 1 (Qe x.args)]) (by simp)).1;have kn:=kn.drop;have hz3:H3 z=.vec 2 (Qz R):=(kn.get (z,.vec 2 (Qz R)) (by simp)).1;refine Qa ?_;simp only[go_sem,hy7,J0,Jad,J6,Jac];refine Q2g (x:=x) (R:=0) (g7 kn).1 (g7 kn).2 (hto x (hRm x hxm)) ?_;simp only[go_sem,Qe5];refine Qd rfl ?_ ?_
     ·intro hc2;refine Qa ?_;simp only[go_sem,hy7,hz3,htk,hil,Qq,hRl,Qal _ _ hiR,PhiD.cells,Jq,Jk];intro H4 h4;have hrow:(Qz R).set i [.int .i64 x.to,.sl false 1 (Qe x.args)]=Qz (R.set i x):=Qbfs R i x;rw[hrow]at h4;have kn:Kn H0 H4 E (B++[(z,.vec 2 (Qz (R.set i x)))]):=by
       have:=kn.stL B.length (x:=z) (o:=.vec 2 (Qz R)) (by simp) h4;simpa using this
      refine Qr ?_;simp only[go_sem];refine⟨Qp (by omega) (by omega),?_⟩;refine hnr _ _ ⟨i+1,R.set i x,by omega,by rw[J5];exact hRl,fun w hw=>?_,hs2 (by simpa[Q2t]using hc2),kn,rfl,rfl,rfl,rfl⟩;rcases Jt hw with h|rfl
      ·exact hRm w h
      ·exact hRm w hxm
     ·intro hc2;refine Qf ?_;try simp only[go_sem]
      exact hnr _ _ ⟨i,R,by omega,hRl,hRm,hs3 (by simpa[Q2t]using hc2),kn,rfl,rfl,rfl,rfl⟩
    ·rintro e2 H2 ⟨i2,R2,hi2,hRl2,hRm2,hk12,kn,l0,l1,l5,l6⟩;refine Qr ?_;simp only[go_sem,l0,l1,l5,l6];refine⟨Qp (by omega) (by omega),?_⟩;show ∃m,_;exact⟨l.length-(j+1),by omega,i2,j+1,R2,rfl,hi2,by omega,hRl2,hRm2,hk12,kn,rfl,rfl,rfl,rfl⟩
   ·intro hc;have hje:j=l.length:=(by have:l.length≤j:=(by simpa using hc);omega);refine Qv ?_;try simp only[go_sem,X.next]
    refine Qa ?_;have e5:i+(l.length-i)=l.length:=(by omega);simp only[go_sem,l0,l1,l5,l6,hz,e5,Qq,hRl,Jq,Jk];refine⟨by omega,fun H3 h3=>?_⟩;have kn3:=kn.stL B.length (x:=z) (o:=.vec 2 (Qz R)) (by simp) h3;have htk2:((Qz R).take i++List.replicate (l.length-i) [C.int .i64 0,C.sl true 1 []]++(Qz R).drop l.length).take i=Qz (R.take i):=by
     rw[Jv,List.take_append_of_le_length (by rw[J2,Qq];omega),List.take_take,Nat.min_self];simp[Qz,List.map_take]
    have hl2:l.length≤((Qz R).take i++List.replicate (l.length-i) [C.int .i64 0,C.sl true 1 []]++(Qz R).drop l.length).length:=by
     simp only[Jp,J2,List.length_replicate,List.length_drop,Qq];omega
    generalize (Qz R).take i++List.replicate (l.length-i) [C.int .i64 0,C.sl true 1 []]++(Qz R).drop l.length=R2 at *;have kn:Kn H0 H3 E (B++[(z,.vec 2 R2)]):=(by simpa using kn3);have hz3:H3 z=.vec 2 R2:=(kn.get (z,.vec 2 R2) (by simp)).1;refine Qa ?_;simp only[go_sem,hz3,hl2,Jq,Nat.sub_zero];refine⟨by omega,?_⟩;refine Qj ?_;simp only[go_sem,Q4,Qaa,Qdh,Ja,forall_eq,RS.op];have hrl:(Qz (R.take i)).length=i:=(by rw[Qq,J2];omega);rw[hje,Jx]at hk1;refine hK (.vsl z 2 0 i) _ H3 ?_ kn;rw[←hk1];exact .inr ⟨z,R2,by rw[hrl],rfl,by rw[hrl];exact htk2⟩
end Go.AE.Y
namespace Go.AE
variable {H0 H H':Heap}{E L B Lg:List (Nat×Obj)}
theorem Kn.freezeL {gl:Nat}{og og':Obj}(kn:Kn H0 H E (B++Lg))(i:Nat)(hB:B[i]? = some (gl,og))(hO:FrzO H (fun m=>(Lg.map Prod.fst).contains m) og og')(hn:og'≠.none) :
  FrzH H (fun m=>(Lg.map Prod.fst).contains m) ((H.frz fun m=>(Lg.map Prod.fst).contains m).set gl og')∧Kn H0 ((H.frz fun m=>(Lg.map Prod.fst).contains m).set gl og') E (B.set i (gl,og')):=by
 have hd:=kn.dL;rw[Ji]at hd;obtain⟨d1,d2,d3⟩:=Jl.1 hd;have keyB:∀m,m∉Lg.map Prod.fst→(Lg.map Prod.fst).contains m=false:=fun m hm=>by
  cases hc:(Lg.map Prod.fst).contains m with
  |false=>rfl
  |true=>exact absurd (Jaa.1 hc) hm
 have key:∀m,m∉Lg.map Prod.fst→(H.frz fun m=>(Lg.map Prod.fst).contains m) m=H m:=fun m hm=>by
  simp only[Heap.frz,keyB m hm];rfl
 have hgl:gl∉Lg.map Prod.fst:=fun hh=>d3 _ (Qah (Jy hB)) _ hh rfl;have hH:H gl=og:=(kn.get (gl,og) (Jb _ (Jc _ (Jy hB)))).1;refine⟨(Qdb _ _).set (keyB gl hgl) (by rw[hH];exact hO),?_⟩;have kn1:Kn H0 (H.frz fun m=>(Lg.map Prod.fst).contains m) E B:=by
  refine⟨fun p hp=>?_,kn.ext,fun p hp=>kn.loc p (Jc _ hp),kn.dE,d1,fun m hm hx=>?_⟩
  ·have hg:H p.1=p.2∧p.2≠.none:=kn.get p (by
    rcases Jg.1 hp with h|h
    ·exact Jc _ h
    ·exact Jb _ (Jc _ h))
   refine⟨?_,hg.2⟩;rw[key p.1 (fun hh=>?_)];exact hg.1;rcases Jg.1 hp with h|h
   ·obtain⟨r,hr,he⟩:=Jn.1 hh;exact kn.ext p h (he▸kn.loc r (Jb _ hr))
   ·exact d3 _ (Qah h) _ hh rfl
  ·rw[key m (fun hh=>?_)]
   ·exact kn.chg m hm hx
   ·obtain⟨r,hr,he⟩:=Jn.1 hh;exact hm (he▸kn.loc r (Jb _ hr))
 exact kn1.setL i hB hn
end Go.AE
namespace Go.AE.Y
attribute [local go_sem] cond_true cond_false Bool.not_true Bool.not_false
open Go.Proofs.Tryz
variable {H H0 F:Heap}{K:V→Heap→Prop}{E L B:List (Nat×Obj)}{q:CodeD}
structure DBlk where
 y:BlkD
 pc:C
 pl:List (Nat×Obj)
 ic:C
 il:List (Nat×Obj)
def DBlk.row (d:DBlk):List C:=[d.pc,d.ic,.int .i64 d.y.jump,.int .i64 d.y.on,.sl false 1 (Qe d.y.next)]
def DBlk.lg (d:DBlk):List (Nat×Obj):=d.pl++d.il
structure DBlk.ok (d:DBlk):Prop where
 p:Gw d.pl 2 (Qz d.y.phis) d.pc
 i:Gr d.il 4 (Qac d.y.ins) d.ic
theorem Gw.frzM {Lg:List (Nat×Obj)}{S:Nat→Bool}{sz:Nat}{rows:List (List C)}{c:C}(h:Gw Lg sz rows c)(hm:∀p∈Lg,H p.1=p.2∧S p.1=true)(hr:∀r∈rows,noOw r=true):FrzC H S c (.sl false sz rows):=by
 rcases h with ⟨rfl,rfl,_⟩|⟨y,R,rfl,rfl,hR⟩
 ·exact FrzR.nil.sl
 ·have hle:rows.length≤R.length:=by
   have:=congrArg List.length hR;rw[J2]at this;omega
  obtain⟨h1,h2⟩:=hm (y,.vec sz R) (by simp);have h:=FrzR.same (H:=H) (S:=S) hr;exact .vsl y sz 0 _ R rows rows h2 h1 (by omega) (by simpa using hR.symm) h.spec.1 (fun i r r' h1 h2=>(h.spec.2 i r r' h1 h2).spec.1) fun i r r' j c c' h1 h2 h3 h4=>(h.spec.2 i r r' h1 h2).spec.2 j c c' h3 h4
theorem DBlk.frzR {S:Nat→Bool}:∀{ds:List DBlk},(∀d∈ds,d.ok)→(∀d∈ds,∀p∈d.lg,H p.1=p.2∧S p.1=true)→FrzR H S (ds.map DBlk.row) (Qm (ds.map DBlk.y))
 |[],_,_=>.nil
 |d::ds,h,hm=>.cons (.cons ((h d Jw).p.frzM (fun p hp=>hm d Jw p (Jc _ hp)) (Q0x _))
   (.cons (Gr.frzM (h d Jw).i (fun p hp=>hm d Jw p (Jb _ hp)) (FrzR.same (Qfg _)))
   (.cons (Qg rfl) (.cons (Qg rfl) (.cons (Qavz (noOw_mem (Q6 _))) .nil)))))
   (DBlk.frzR (fun d hd=>h d (J3 _ hd)) fun d hd=>hm d (J3 _ hd))
theorem CodeD.ok.fts (h:q.ok):q.fits:=fun y hy=>by
 obtain⟨b,hb,rfl⟩:=J4.1 hy;have:=h.il b hb;omega
theorem CodeD.ok.cl (h:q.ok):∀y∈q.blocks,y.cl:=fun y hy=>by
 obtain⟨b,hb,rfl⟩:=J4.1 hy;have h1:=h.il b hb;have h2:=h.bs b hb;have h3:=h2.nxl;have h4:=h.b1;refine⟨by omega,by omega,by simp only[LIM];omega,fun x hx=>?_,fun x hx=>?_⟩
 ·have:=h2.al x hx;simp only[LIM];omega
 ·have:=h2.pal x hx;have h5:=Qhp (gnx q) (b:Int) q.blocks.length;simp only[LIM];omega
theorem Qbqs {ds ks:List (List C)}{r:List C}{n:Nat}(hn:n=ds.length):(ds++r::ks).getD n []=r:=by subst hn;simp
theorem Qbk5 {ds ks:List (List C)}{r r':List C}{n:Nat}(hn:n=ds.length):(ds++r::ks).set n r'=ds++r'::ks:=by subst hn;simp
set_option maxHeartbeats 8000000 in
theorem Qbem {q0:CodeD}{fl0:Bool}(ho:q0.ok)
  (hK:∀(d:CodeD) H',Idl q0 d→Upd H H' []→K (.ag d.cells) H') :
  Qo prog Qb7 [.ag [.int .i64 q0.params,.int .i64 q0.regs,.sl fl0 5 (Qm q0.blocks)]] H K:=by
 refine Qy ?_;refine Qb Qap Qap9 ?_;refine Qa ?_;simp only[go_sem];intro x1 hx1 H1 h1;have kn:=(Kn.start0 H).al hx1 h1;intro x2 hx2 H2 h2;have kn:=kn.al hx2 h2;refine Qc (Qu (fun m e1 H1=>∃(q:CodeD) (fl:Bool),m=Qgp q∧q.ok∧(∃n,q=Nat.repeat Qaw n q0)∧
  Kn H H1 [] [(x1,.st [.int .i64 q.params,.int .i64 q.regs,.sl fl 5 (Qm q.blocks)]),(x2,.st [.int .i64 0,.int .i64 0,.sl true 5 []])]∧
  lk 1 e1=.c (.ptr x1 0)∧lk 2 e1=.c (.ptr x2 0)) (Qgp q0) ?_ ?_)
 ·exact⟨q0,fl0,rfl,ho,⟨0,rfl⟩,kn,rfl,rfl⟩
 rintro m e1 H1 ⟨q,fl,hm,hqo,hrep,kn,l1,l2⟩;have hb0:=hqo.b0;have hb1:=hqo.b1;have hx1:=kn.l 0 rfl;refine Qc ?_;refine Qao ?_;simp only[go_sem,l1,l2,hx1];refine Qawh hqo kn fun l yi yp ss pr H2 him hlv kn=>?_;have hx1:H2 x1=.st [.int .i64 q.params,.int .i64 q.regs,.sl fl 5 (Qm q.blocks)]:=(kn.get (x1,.st [.int .i64 q.params,.int .i64 q.regs,.sl fl 5 (Qm q.blocks)]) (by simp)).1;simp only[go_sem,Qk2,l1,l2,hx1];refine Qa6c (q:=q) (by omega) hqo.cl fun ks bc bl H3 hky hko hgr k2=>?_;have kn:=kn.comp0 k2;have hbw:=hgr.isOw;have hx1:H3 x1=.st [.int .i64 q.params,.int .i64 q.regs,.sl fl 5 (Qm q.blocks)]:=(kn.get (x1,.st [.int .i64 q.params,.int .i64 q.regs,.sl fl 5 (Qm q.blocks)]) (by simp)).1;have hkl:ks.length=q.blocks.length:=by rw[←hky,Jf]
 obtain⟨zb,rfl,rfl⟩:∃z,bc=.vsl z 5 0 q.blocks.length∧bl=[(z,.vec 5 (ks.map KBlk.row))]:=by
  rcases hgr with ⟨_,h,_⟩|⟨y,h1,h2⟩
  ·have:=congrArg List.length h;simp only[Jf,Jm]at this;omega
  ·exact⟨y,by rw[h1,Jf,hkl],h2⟩
 simp only[go_sem,Qk1,l1,l2,hx1];intro x4 hx4 H4 h4;have kn:=kn.al hx4 h4;have hx1:H4 x1=.st [.int .i64 q.params,.int .i64 q.regs,.sl fl 5 (Qm q.blocks)]:=(kn.get (x1,.st [.int .i64 q.params,.int .i64 q.regs,.sl fl 5 (Qm q.blocks)]) (by simp)).1;have hx4:H4 x4=.st [.int .i64 0,.int .i64 0,.sl true 5 []]:=(kn.get (x4,.st [.int .i64 0,.int .i64 0,.sl true 5 []]) (by simp)).1;simp only[go_sem,Qk0,l1,l2,hx1,hx4];intro H5 h5;have kn:Kn H H5 [] (imE q fl l yi yp ss pr++([(x1,.st [.int .i64 q.params,.int .i64 q.regs,.sl fl 5 (Qm q.blocks)])]++([(x2,.st [.int .i64 0,.int .i64 0,.sl true 5 []])]++([(x4,.st [.int .i64 q.params,.int .i64 q.regs,.vsl zb 5 0 q.blocks.length])]++
   ([(zb,.vec 5 (ks.map KBlk.row))]++ks.flatMap KBlk.pl))))):=by
  have k3:=(kn.perm (Jo)).stL 0 rfl h5;exact k3.perm (Qt fun f hf h0 hc hp=>by
   have e:∀(a b:Nat×Obj),f [a,b]=f [a]+f [b]:=fun a b=>hc a [b];show f ([(x4,_)]++_)=_;simp only[hf,e];omega)
 clear hx4 h5 hx1 hgr;refine Q5 ?_;refine Qa ?_;have hx4:H5 x4=.st [.int .i64 q.params,.int .i64 q.regs,.vsl zb 5 0 q.blocks.length]:=(kn.get (x4,.st [.int .i64 q.params,.int .i64 q.regs,.vsl zb 5 0 q.blocks.length]) (by simp)).1;have hzb:H5 zb=.vec 5 (ks.map KBlk.row):=(kn.get (zb,.vec 5 (ks.map KBlk.row)) (by simp)).1;simp only[go_sem,hx4,hzb,Jf,hkl,Jq,Jk];try intro _
 refine Qh (Qc (Qu (fun m2 e1 H1=>∃(ds:List DBlk) (ks:List KBlk),m2=ks.length∧ds.length+ks.length=q.blocks.length∧ks.map KBlk.y=q.blocks.drop ds.length∧(∀d∈ds,d.ok)∧(∀b∈ks,b.ok)∧
  (∀i (h1:i<q.blocks.length) (h2:i<ds.length),ds[i].y=Qmu q i q.blocks[i])∧
  Kn H H1 [] (imE q fl l yi yp ss pr++([(x1,.st [.int .i64 q.params,.int .i64 q.regs,.sl fl 5 (Qm q.blocks)])]++([(x2,.st [.int .i64 0,.int .i64 0,.sl true 5 []])]++([(x4,.st [.int .i64 q.params,.int .i64 q.regs,.vsl zb 5 0 q.blocks.length])]++
   ([(zb,.vec 5 (ds.map DBlk.row++ks.map KBlk.row))]++(ds.flatMap DBlk.lg++ks.flatMap KBlk.pl))))))∧
  lk 1 e1=.c (.ptr x1 0)∧lk 2 e1=.c (.ptr x2 0)∧lk 3 e1=.c (.ptr l 0)∧lk 4 e1=.c (.ptr x4 0)∧lk 17 e1=.c (.int .i64 q.blocks.length)∧lk 18 e1=.c (.int .i64 ds.length)) q.blocks.length ?_ ?_))
 ·exact⟨[],ks,by omega,by simpa using hkl,by simpa using hky,by simp,hko,by simp,kn,rfl,rfl,rfl,rfl,rfl,rfl⟩
 ·clear hx4 hzb hko hky hkl l1 l2;rintro m2 e2 H6 ⟨ds,ks,hm2,hlen,hky,hdo,hko,hdr,kn,l1,l2,l3,l4,l17,l18⟩;refine Qa ?_;simp only[go_sem,l1,l2,l3,l4,l17,l18];refine Qh (Qd rfl ?_ ?_)
  ·intro hc;have hlt:ds.length<q.blocks.length:=by simpa using hc
   obtain⟨k,ks',rfl⟩:∃k ks',ks=k::ks':=by
    cases ks with
    |nil=>simp at hlen;omega
    |cons k ks'=>exact⟨k,ks',rfl⟩
   simp only[Jh]at hlen hm2;have hdrop:q.blocks.drop ds.length=q.blocks[ds.length]::q.blocks.drop (ds.length+1):=Js hlt;rw[hdrop,J6]at hky;obtain⟨hy,hky'⟩:=List.cons.inj hky;have hkok:=hko k Jw;have hil:=hqo.il ds.length hlt;have hyo:=hqo.bs ds.length hlt;have hpw:=KBlk.noOw hkok;have hpw2:=hkok.isOw;obtain⟨y,hy2⟩:∃y,k.y=y:=⟨_,rfl⟩;rw[hy2]at hy;rw[←hy]at hil hyo;refine Qf ?_;try simp only[go_sem]
   refine Qd3 (fun e2 H2=>∃(d:DBlk),d.ok∧d.y=Qmu q ds.length y∧Kn H H2 [] (imE q fl l yi yp ss pr++([(x1,.st [.int .i64 q.params,.int .i64 q.regs,.sl fl 5 (Qm q.blocks)])]++([(x2,.st [.int .i64 0,.int .i64 0,.sl true 5 []])]++([(x4,.st [.int .i64 q.params,.int .i64 q.regs,.vsl zb 5 0 q.blocks.length])]++
    ([(zb,.vec 5 (ds.map DBlk.row++d.row::ks'.map KBlk.row))]++(ds.flatMap DBlk.lg++d.lg++ks'.flatMap KBlk.pl))))))∧
    lk 1 e2=.c (.ptr x1 0)∧lk 2 e2=.c (.ptr x2 0)∧lk 3 e2=.c (.ptr l 0)∧lk 4 e2=.c (.ptr x4 0)∧lk 17 e2=.c (.int .i64 q.blocks.length)∧lk 18 e2=.c (.int .i64 ds.length)) ?_ ?_
   ·intro Q hnr _ _;refine Qc ?_;refine Qa ?_;simp only[go_sem,l1,l2,l3,l4,l17,l18];have rlen:∀(r:List C),(ds.map DBlk.row++r::ks'.map KBlk.row).length=q.blocks.length:=fun r=>by
     simp only[Jp,Jh,Jf];omega
    have rtake:∀(r:List C),(ds.map DBlk.row++r::ks'.map KBlk.row).take q.blocks.length=ds.map DBlk.row++r::ks'.map KBlk.row:=fun r=>Jr (by rw[rlen];omega);have rget:∀(r:List C),(ds.map DBlk.row++r::ks'.map KBlk.row).getD ds.length []=r:=fun r=>Qbqs (by rw[Jf]);have rset:∀(r r':List C),(ds.map DBlk.row++r::ks'.map KBlk.row).set ds.length r'=ds.map DBlk.row++r'::ks'.map KBlk.row:=fun r r'=>Qbk5 (by rw[Jf]);generalize hRD:ds.map DBlk.row=RD at *;generalize hRK:ks'.map KBlk.row=RK at *;have er:k.row=[k.pc,.sl false 4 (Qac y.ins),.int .i64 y.jump,.int .i64 y.on,.sl false 1 (Qe y.next)]:=(by rw[KBlk.row,kRow,hy2]);have hkok:Gr k.pl 2 (Qz y.phis) k.pc:=(by rw[←hy2];exact hkok);rw[J6,hRK,er,Jae]at kn;obtain⟨pc,hpc⟩:∃pc,k.pc=pc:=⟨_,rfl⟩;obtain⟨pl,hpl⟩:∃pl,k.pl=pl:=⟨_,rfl⟩;rw[hpc]at kn hkok hpw2;rw[hpl]at kn hkok;have hx4:H6 x4=.st [.int .i64 q.params,.int .i64 q.regs,.vsl zb 5 0 q.blocks.length]:=(kn.get (x4,.st [.int .i64 q.params,.int .i64 q.regs,.vsl zb 5 0 q.blocks.length]) (by simp)).1;have hzb:H6 zb=.vec 5 (RD++[pc,.sl false 4 (Qac y.ins),.int .i64 y.jump,.int .i64 y.on,.sl false 1 (Qe y.next)]::RK):=(kn.get (zb,.vec 5 (RD++[pc,.sl false 4 (Qac y.ins),.int .i64 y.jump,.int .i64 y.on,.sl false 1 (Qe y.next)]::RK)) (by simp)).1;refine Qa ?_;simp only[go_sem,hx4,hzb,rlen,hlt,Jq,Jk];refine Qa ?_;simp only[go_sem];refine Qagz (F:=H6) hqo hlt (by omega) (by rw[←hy];omega) him kn.mid fun M ver nk H7 hnd hlt3 hks k2=>?_;have kn:=kn.comp k2 rfl;simp only[go_sem,Qk4];intro x7 hx7 H8 h8;have kn:=kn.al hx7 h8;have hx7:H8 x7=.st [.mnil]:=(kn.get (x7,.st [.mnil]) (by simp)).1;simp only[go_sem,Qk3,hx7];intro H9 h9;obtain⟨R0,hR0⟩:∃R0,[(x1,Obj.st [.int .i64 q.params,.int .i64 q.regs,.sl fl 5 (Qm q.blocks)])]++([(x2,Obj.st [.int .i64 0,.int .i64 0,.sl true 5 []])]++[(x4,Obj.st [.int .i64 q.params,.int .i64 q.regs,.vsl zb 5 0 q.blocks.length])])=R0:=⟨_,rfl⟩;have kn:Kn H H9 [] (([(x7,.st [.mp M])]++([(M,.map ver (Qan nk))]++(imE q fl l yi yp ss pr++(R0++([(zb,.vec 5 (RD++[pc,.sl false 4 (Qac y.ins),.int .i64 y.jump,.int .i64 y.on,.sl false 1 (Qe y.next)]::RK))]++(ds.flatMap DBlk.lg++ks'.flatMap KBlk.pl))))))++pl):=by
     have k3:=(kn.perm (Jo)).stL 0 rfl h9;refine k3.perm (Qt fun f hf h0 hc hp=>?_);show f ([(x7,_)]++_)=_;rw[←hR0];simp only[hf];omega
    have hzb:H9 zb=.vec 5 (RD++[pc,.sl false 4 (Qac y.ins),.int .i64 y.jump,.int .i64 y.on,.sl false 1 (Qe y.next)]::RK):=(kn.get (zb,.vec 5 (RD++[pc,.sl false 4 (Qac y.ins),.int .i64 y.jump,.int .i64 y.on,.sl false 1 (Qe y.next)]::RK)) (by simp)).1;refine Qa ?_;simp only[go_sem,hzb,rlen,rtake,rget,hlt,hpw2,Jq,Jk];refine Qa56 (x7:=x7) (M:=M) (ver:=ver) (ks:=nk) kn hkok (by omega) (by simp) (by simp) (fun x hx=>(hyo.pto x hx).1) fun pc' pl' H10 hgw kn=>?_;have hph:y.phis.filter (Q2t nk)=kpP q ds.length y.phis:=by
     refine List.filter_congr fun f hf=>?_;have hin:=hyo.pto f hf;simp only[rIn]at hin;have hiff:f.to.toNat∈nk↔f.to.toNat∈Qgm q ds.length 0:=by
      rw[hks,Qgm,ascL_mem];have hLB:=Flo.beh_congr (F:=Qw q) (fun r=>Flo.outT_congr hqo.fitsF hlv hlt r) ds.length 0 f.to.toNat;exact⟨fun h=>⟨by omega,hLB.1 h⟩,fun h=>hLB.2 h.2⟩
     simp only[Q2t,decide_eq_decide];exact hiff
    rw[hph]at hgw;have hpw3:=hgw.isOw;have hzb:H10 zb=.vec 5 (RD++[pc,.sl false 4 (Qac y.ins),.int .i64 y.jump,.int .i64 y.on,.sl false 1 (Qe y.next)]::RK):=(kn.get (zb,.vec 5 (RD++[pc,.sl false 4 (Qac y.ins),.int .i64 y.jump,.int .i64 y.on,.sl false 1 (Qe y.next)]::RK)) (by simp)).1;simp only[go_sem,Qk5,hzb,rlen,rtake,rget,rset,hlt,hpw2,hpw3,Jq,Jk];intro H11 h11;have kn:Kn H H11 [] (imE q fl l yi yp ss pr++(R0++([(zb,.vec 5 (RD++[pc',.sl false 4 (Qac y.ins),.int .i64 y.jump,.int .i64 y.on,.sl false 1 (Qe y.next)]::RK))]++(ds.flatMap DBlk.lg++(pl'++ks'.flatMap KBlk.pl))))++[]):=by
     have k3:=(kn.perm (L':=[(zb,.vec 5 (RD++[pc,.sl false 4 (Qac y.ins),.int .i64 y.jump,.int .i64 y.on,.sl false 1 (Qe y.next)]::RK))]++(imE q fl l yi yp ss pr++(R0++(ds.flatMap DBlk.lg++(pl'++ks'.flatMap KBlk.pl)))++([(x7,.st [.mp M])]++[(M,.map ver (Qan nk))])))
      (Qt fun f hf h0 hc hp=>by simp only[hf];omega)).stL 0 rfl h11
     refine Kn.drop (B:=[(x7,.st [.mp M])]++[(M,.map ver (Qan nk))]) (k3.perm (Qt fun f hf h0 hc hp=>?_));show f ([(zb,_)]++_)=_;simp only[hf,h0];omega
    have hzb:H11 zb=.vec 5 (RD++[pc',.sl false 4 (Qac y.ins),.int .i64 y.jump,.int .i64 y.on,.sl false 1 (Qe y.next)]::RK):=(kn.get (zb,.vec 5 (RD++[pc',.sl false 4 (Qac y.ins),.int .i64 y.jump,.int .i64 y.on,.sl false 1 (Qe y.next)]::RK)) (by simp)).1;refine Qa ?_;simp only[go_sem];refine Q5 ?_;refine Qa ?_;simp only[go_sem,hzb,rlen,rtake,rget,hlt,hpw3,Q3,Jq,Jk];try intro _
    refine Qh (Qc (Qu (fun m3 e1 H1=>∃(i:Nat) (lf:List InsD) (t:C) (Lg:List (Nat×Obj)),m3=y.ins.length-i∧i≤y.ins.length∧lf=kpD q ds.length 0 (y.ins.take i)∧lf.length≤i∧Gr Lg 4 (Qac lf) t∧
     Kn H H1 [] (imE q fl l yi yp ss pr++(R0++([(zb,.vec 5 (RD++[pc',.sl false 4 (Qac y.ins),.int .i64 y.jump,.int .i64 y.on,.sl false 1 (Qe y.next)]::RK))]++(ds.flatMap DBlk.lg++(pl'++ks'.flatMap KBlk.pl))))++Lg)∧
     lk 1 e1=.c (.ptr x1 0)∧lk 2 e1=.c (.ptr x2 0)∧lk 3 e1=.c (.ptr l 0)∧lk 4 e1=.c (.ptr x4 0)∧lk 5 e1=.c (.int .i64 ds.length)∧lk 6 e1=.c (.ep (.vsl zb 5 0 q.blocks.length) 5 ds.length 0)∧lk 8 e1=.c t∧
     lk 17 e1=.c (.int .i64 q.blocks.length)∧lk 18 e1=.c (.int .i64 ds.length)∧lk 40 e1=.c (.sl false 4 (Qac y.ins))∧lk 41 e1=.c (.int .i64 y.ins.length)∧lk 42 e1=.c (.int .i64 i)) y.ins.length ?_ ?_))
    ·exact⟨0,[],_,[],by omega,by omega,by simp[kpD],by simp,.nil 4,kn,rfl,rfl,rfl,rfl,rfl,rfl,rfl,rfl,rfl,rfl,rfl,rfl⟩
    ·clear kn hzb;rintro m3 e3 H12 ⟨i,lf,t,Lg,hm3,hi,hlf,hcnt2,hgr,kn,l1,l2,l3,l4,l5,l6,l8,l17,l18,l40,l41,l42⟩;have htw:=hgr.isOw;refine Qa ?_;simp only[go_sem,l1,l2,l3,l4,l5,l6,l8,l17,l18,l40,l41,l42,htw];refine Qh (Qd rfl ?_ ?_)
     ·intro hc3;have hilt:i<y.ins.length:=(by simpa using hc3);obtain⟨x,hx⟩:∃x,y.ins[i]=x:=⟨_,rfl⟩;have htake:y.ins.take (i+1)=y.ins.take i++[x]:=(by rw[Je hilt,hx]);have htl:(y.ins.take i).length=i:=(by rw[J2];omega);refine Qf ?_;try simp only[go_sem]
      refine Qd3 (fun e1 H1=>∃(lf:List InsD) (t:C) (Lg:List (Nat×Obj)),lf=kpD q ds.length 0 (y.ins.take (i+1))∧lf.length≤i+1∧Gr Lg 4 (Qac lf) t∧
       Kn H H1 [] (imE q fl l yi yp ss pr++(R0++([(zb,.vec 5 (RD++[pc',.sl false 4 (Qac y.ins),.int .i64 y.jump,.int .i64 y.on,.sl false 1 (Qe y.next)]::RK))]++(ds.flatMap DBlk.lg++(pl'++ks'.flatMap KBlk.pl))))++Lg)∧
       lk 1 e1=.c (.ptr x1 0)∧lk 2 e1=.c (.ptr x2 0)∧lk 3 e1=.c (.ptr l 0)∧lk 4 e1=.c (.ptr x4 0)∧lk 5 e1=.c (.int .i64 ds.length)∧lk 6 e1=.c (.ep (.vsl zb 5 0 q.blocks.length) 5 ds.length 0)∧lk 8 e1=.c t∧
       lk 17 e1=.c (.int .i64 q.blocks.length)∧lk 18 e1=.c (.int .i64 ds.length)∧lk 40 e1=.c (.sl false 4 (Qac y.ins))∧lk 41 e1=.c (.int .i64 y.ins.length)∧lk 42 e1=.c (.int .i64 i)) ?_ ?_
      ·intro Q2 hnr2 _ _;refine Qc ?_;refine Qa ?_;simp only[go_sem,l1,l2,l3,l4,l5,l6,l8,l17,l18,l40,l41,l42,htw,hilt,Q3,Qa2 _ _ hilt,InsD.take4,InsD.allOw,InsD.len4,hx,InsD.cells];intro x10 hx10 H13 h13;have kn:=kn.al hx10 h13;have hx10:H13 x10=.st [.int .i64 0,.int .i64 0,.sl true 1 [],.int .i64 0]:=(kn.get (x10,.st [.int .i64 0,.int .i64 0,.sl true 1 [],.int .i64 0]) (by simp)).1;simp only[go_sem,Qk6,hx10,l1,l2,l3,l4,l5,l6,l8,l17,l18,l40,l41,l42,htw];intro H14 h14;have kn:Kn H H14 [] (imE q fl l yi yp ss pr++((R0++([(zb,.vec 5 (RD++[pc',.sl false 4 (Qac y.ins),.int .i64 y.jump,.int .i64 y.on,.sl false 1 (Qe y.next)]::RK))]++(ds.flatMap DBlk.lg++(pl'++ks'.flatMap KBlk.pl))))++([(x10,.st [.int .i64 x.op,.int .i64 x.to,.sl false 1 (Qe x.args),.int .i64 x.n])]++Lg))):=by
        have k3:=(kn.perm (Jo)).stL 0 rfl h14;refine k3.perm (Qt fun f hf h0 hc hp=>?_);show f ([(x10,_)]++_)=_;simp only[hf];omega
       refine Qa ?_;simp only[go_sem,htw];refine Qbc9 (F:=H14) hqo hlt (by rw[←hy];exact hilt) him hlv kn.mid fun H15 k2=>?_;have kn:=kn.comp k2 rfl;have hx10:H15 x10=.st [.int .i64 x.op,.int .i64 x.to,.sl false 1 (Qe x.args),.int .i64 x.n]:=(kn.get (x10,.st [.int .i64 x.op,.int .i64 x.to,.sl false 1 (Qe x.args),.int .i64 x.n]) (by simp)).1;simp only[go_sem,Qk7,htw];refine Qd rfl ?_ ?_
       ·intro hc4;have hid:Qgs q ds.length i=false:=(by simpa using hc4);refine Qr ?_;simp only[go_sem,hx10,htw];have kn:=kn.perm (L':=(imE q fl l yi yp ss pr++(R0++([(zb,.vec 5 (RD++[pc',.sl false 4 (Qac y.ins),.int .i64 y.jump,.int .i64 y.on,.sl false 1 (Qe y.next)]::RK))]++(ds.flatMap DBlk.lg++(pl'++ks'.flatMap KBlk.pl))))++Lg)++[(x10,.st [.int .i64 x.op,.int .i64 x.to,.sl false 1 (Qe x.args),.int .i64 x.n])]) (Qt fun f hf h0 hc hp=>by
         simp only[hf,h0];omega)
        refine kn.drop.growR (new:=Qac [x]) hgr (.mk' _ _ _ _) (Qfg _) (by simp only[Q3,LIM,Jh,Jm];omega) fun t2 Lg2 H16 hgr2 ht2 kn=>?_;simp only[go_sem,Qk8,ht2];refine hnr2 _ _ ⟨lf++[x],t2,Lg2,?_,?_,?_,kn,rfl,rfl,rfl,rfl,rfl,rfl,rfl,rfl,rfl,rfl,rfl,rfl⟩
        ·rw[htake,Qawb,htl,Jq,hid,hlf];simp
        ·simp only[Jp,Jh,Jm];omega
        ·have:Qac (lf++[x])=Qac lf++Qac [x]:=(by simp[Qac]);rw[this];exact hgr2
       ·intro hc4;have hid:Qgs q ds.length i=true:=(by simpa using hc4);have kn:=kn.perm (L':=(imE q fl l yi yp ss pr++(R0++([(zb,.vec 5 (RD++[pc',.sl false 4 (Qac y.ins),.int .i64 y.jump,.int .i64 y.on,.sl false 1 (Qe y.next)]::RK))]++(ds.flatMap DBlk.lg++(pl'++ks'.flatMap KBlk.pl))))++Lg)++[(x10,.st [.int .i64 x.op,.int .i64 x.to,.sl false 1 (Qe x.args),.int .i64 x.n])]) (Qt fun f hf h0 hc hp=>by
         simp only[hf,h0];omega)
        refine Qf ?_;try simp only[go_sem]
        refine hnr2 _ _ ⟨lf,t,Lg,?_,by omega,hgr,kn.drop,rfl,rfl,rfl,rfl,rfl,rfl,rfl,rfl,rfl,rfl,rfl,rfl⟩;rw[htake,Qawb,htl,Jq,hid,hlf];simp
      ·rintro e4 H13 ⟨lf2,t2,Lg2,hlf2,hcnt3,hgr2,kn,l1,l2,l3,l4,l5,l6,l8,l17,l18,l40,l41,l42⟩;have ht2:=hgr2.isOw;refine Qr ?_;simp only[go_sem,l1,l2,l3,l4,l5,l6,l8,l17,l18,l40,l41,l42,ht2];refine⟨Qp (by omega) (by omega),?_⟩;show ∃m,_;exact⟨y.ins.length-(i+1),by omega,i+1,lf2,t2,Lg2,rfl,by omega,hlf2,hcnt3,hgr2,kn,rfl,rfl,rfl,rfl,rfl,rfl,rfl,rfl,rfl,rfl,rfl,rfl⟩
     ·intro hc3;have hie:i=y.ins.length:=(by have:y.ins.length≤i:=(by simpa using hc3);omega);subst hie;refine Qv ?_;simp only[go_sem,X.next];have hzb:H12 zb=.vec 5 (RD++[pc',.sl false 4 (Qac y.ins),.int .i64 y.jump,.int .i64 y.on,.sl false 1 (Qe y.next)]::RK):=(kn.get (zb,.vec 5 (RD++[pc',.sl false 4 (Qac y.ins),.int .i64 y.jump,.int .i64 y.on,.sl false 1 (Qe y.next)]::RK)) (by simp)).1;refine Qr ?_;simp only[go_sem,l1,l2,l3,l4,l5,l6,l8,l17,l18,l40,l41,l42,hzb,rlen,rtake,rget,rset,hlt,htw,hpw3,Jq,Jk];intro H13 h13;obtain⟨d,hd⟩:∃d:DBlk,d=⟨⟨kpP q ds.length y.phis,lf,y.jump,y.on,y.next⟩,pc',pl',t,Lg⟩:=⟨_,rfl⟩;refine hnr _ _ ⟨d,?_,?_,?_,rfl,rfl,rfl,rfl,rfl,rfl⟩
      ·rw[hd];exact⟨hgw,hgr⟩
      ·rw[hd,hlf,Jx];rfl
      ·have k3:=(kn.perm (L':=[(zb,.vec 5 (RD++[pc',.sl false 4 (Qac y.ins),.int .i64 y.jump,.int .i64 y.on,.sl false 1 (Qe y.next)]::RK))]++(imE q fl l yi yp ss pr++(R0++(ds.flatMap DBlk.lg++(pl'++ks'.flatMap KBlk.pl)))++Lg))
        (Qt fun f hf h0 hc hp=>by simp only[hf];omega)).stL 0 rfl h13
       refine k3.perm (Qt fun f hf h0 hc hp=>?_);have e:DBlk.row d=[pc',t,.int .i64 y.jump,.int .i64 y.on,.sl false 1 (Qe y.next)]:=(by rw[hd];rfl);have e2:DBlk.lg d=pl'++Lg:=(by rw[hd];rfl);show f ([(zb,_)]++_)=_;rw[e,e2,←hR0];simp only[hf];omega
   ·rintro e4 H7 ⟨d,hdok,hdrp,kn,l1,l2,l3,l4,l17,l18⟩;refine Qr ?_;simp only[go_sem,l1,l2,l3,l4,l17,l18];refine⟨Qp (by omega) (by omega),?_⟩;show ∃m,_;refine⟨ks'.length,by omega,ds++[d],ks',rfl,by simp only[Jp,Jh,Jm];omega,by simpa using hky',fun w hw=>?_,fun b hb=>hko b (J3 _ hb),fun i h1 h2=>?_,?_,rfl,rfl,rfl,rfl,rfl,?_⟩
    ·rcases Jg.1 hw with hw|hw
     ·exact hdo w hw
     ·simp only[Ja]at hw;rw[hw];exact hdok
    ·by_cases hi:i<ds.length
     ·rw[List.getElem_append_left hi];exact hdr i h1 hi
     ·have hie:i=ds.length:=(by simp only[Jp,Jh,Jm]at h2;omega);subst hie;rw[←hy];simpa using hdrp
    ·simpa[Jau,Jv]using kn
    ·simp[lk]
  ·intro hc;have hks:ks=[]:=by
    have:q.blocks.length≤ds.length:=(by simpa using hc);exact List.eq_nil_of_length_eq_zero (by omega)
   subst hks;simp only[Jm,Nat.add_zero]at hlen;refine Qv ?_;simp only[go_sem,X.next];obtain⟨d,hd⟩:∃d:CodeD,d=⟨q.params,q.regs,ds.map DBlk.y⟩:=⟨_,rfl⟩;have hdl:d.blocks.length=q.blocks.length:=by rw[hd];simpa using hlen
   have hde:d=Qaw q:=by
    rw[hd,Qaw];congr 1;refine Jai (by simpa using hlen) fun b h1 h2=>?_;have h3:b<ds.length:=(by simpa using h1);rw[J7,List.getElem_mapIdx];exact hdr b (by omega) h3
   have hshr:Shr q d:=by rw[hde];exact Qgv
   have hdo2:d.ok:=hshr.ok hqo;have kn:Kn H H6 [] ([(x1,.st [.int .i64 q.params,.int .i64 q.regs,.sl fl 5 (Qm q.blocks)]),(x2,.st [.int .i64 0,.int .i64 0,.sl true 5 []]),(x4,.st [.int .i64 q.params,.int .i64 q.regs,.vsl zb 5 0 q.blocks.length])]++
     ([(zb,.vec 5 (ds.map DBlk.row))]++ds.flatMap DBlk.lg)):=by
    simp only[Jac,Jaf,Jaw]at kn;have k3:=(kn.perm Jo).drop;simpa using k3
   have hmem:∀p∈[(zb,Obj.vec 5 (ds.map DBlk.row))]++ds.flatMap DBlk.lg,H6 p.1=p.2∧(([(zb,Obj.vec 5 (ds.map DBlk.row))]++ds.flatMap DBlk.lg).map Prod.fst).contains p.1=true:=fun p hp=>
    ⟨(kn.get p (Jb _ (Jb _ hp))).1,Jaa.2 (Qah hp)⟩
   have hz:=hmem (zb,.vec 5 (ds.map DBlk.row)) (by simp);have hrows:FrzR H6 (fun m=>(([(zb,Obj.vec 5 (ds.map DBlk.row))]++ds.flatMap DBlk.lg).map Prod.fst).contains m) (ds.map DBlk.row) (Qm d.blocks):=by
    rw[hd];exact DBlk.frzR hdo fun w hw p hp=>hmem p (Jb _ (Ju.2 ⟨w,hw,hp⟩))
   obtain⟨hfz,kn⟩:=kn.freezeL 2 rfl (og':=.st [.int .i64 q.params,.int .i64 q.regs,.sl false 5 (Qm d.blocks)])
    (FrzKL.st (.same (.same (.cons rfl (FrzR.vsl hz.2 hz.1 (by rw[Jf,hlen]) hrows) .nil)))) (by simp)
   refine c_gh (Qkc _ (fun t=>?_) hfz) (e':=[(1,.c (.ptr x1 0)),(2,.c (.ptr x2 0)),(4,.c (.ptr x4 0))]) ?_
   ·by_cases t1:t=1
    ·subst t1;exact .c _ _ (.same _ rfl)
    by_cases t2:t=2
    ·subst t2;exact .c _ _ (.same _ rfl)
    by_cases t4:t=4
    ·subst t4;exact .c _ _ (.same _ rfl)
    have:lk t [(1,V.c (.ptr x1 0)),(2,.c (.ptr x2 0)),(4,.c (.ptr x4 0))]=.unk:=by
     simp only[lk,t1,t2,t4,if_false]
    rw[this];exact .unk _
   generalize ((H6.frz fun m=>(([(zb,Obj.vec 5 (ds.map DBlk.row))]++ds.flatMap DBlk.lg).map Prod.fst).contains m).set x4 (Obj.st [.int .i64 q.params,.int .i64 q.regs,.sl false 5 (Qm d.blocks)]))=H7 at *;have kn:Kn H H7 [] [(x1,.st [.int .i64 q.params,.int .i64 q.regs,.sl fl 5 (Qm q.blocks)]),(x2,.st [.int .i64 0,.int .i64 0,.sl true 5 []]),(x4,.st [.int .i64 q.params,.int .i64 q.regs,.sl false 5 (Qm d.blocks)])]:=kn;clear hfz hrows hz hmem hdr hdo hko hky;have hx1:=kn.l 0 rfl;have hx4:=kn.l 2 rfl;have hd1:=hdo2.b1;refine Q5 ?_;refine Qao ?_;simp only[go_sem,hx1,hx4];have ed:[C.int .i64 q.params,C.int .i64 q.regs,C.sl false 5 (Qm d.blocks)]=[C.int .i64 d.params,C.int .i64 d.regs,C.sl false 5 (Qm d.blocks)]:=by rw[hd]
   rw[ed];refine Q0f hdo2.fts hd1 fun H8 hu=>?_;have kn:=kn.call0 hu;have hx1:=kn.l 0 rfl;simp only[go_sem,Qiz,hx1];refine Q0f hqo.fts hb1 fun H9 hu=>?_;have kn:=kn.call0 hu;have hx1:=kn.l 0 rfl;have hx4:=kn.l 2 rfl;simp only[go_sem,Qiy,hx1];refine Qh (Qd rfl ?_ ?_)
   ·intro hc2;have hcc:Qgp d=Qgp q:=(by have:=of_decide_eq_true hc2;omega);have hx2:=kn.l 1 rfl;refine Qa ?_;simp only[go_sem,hx4,hx2];intro H10 h10;have kn:=kn.stL 1 rfl h10;have hx2:=kn.l 1 rfl;refine Qj ?_;simp only[go_sem,X.next,Q4,Qaa,Qy9,Ja,forall_eq,RS.op,hx2];refine⟨_,FrzL.ag (.cons (Qg rfl) (.cons (Qg rfl) (.cons (.same _ rfl) .nil))),?_⟩;obtain⟨n,hn⟩:=hrep;have hfx:Qaw q=q:=(Qaw4 (by rw[←hde];exact hcc)).1;have:=hK d _ ⟨n+1,by rw[hde,hn];rfl,by rw[hde,hfx,hfx]⟩ kn.fin;rw[CodeD.cells,←ed]at this;exact this
   ·intro hc2;have hne:¬((Qgp d:Nat):Int)=(Qgp q:Nat):=(by simpa using hc2);refine Qf ?_;try simp only[go_sem]
    refine Qr ?_;simp only[go_sem,hx4,hx1];intro H10 h10;have kn:=kn.stL 0 rfl h10;show ∃m,_;obtain⟨n,hn⟩:=hrep;have hcle:=hshr.cnt.1;refine⟨Qgp d,by omega,d,false,rfl,hdo2,⟨n+1,by rw[hde,hn];rfl⟩,?_,rfl,rfl⟩;rw[←ed];exact Kn.drop (A:=[_,_]) (B:=[_]) kn
end Go.AE.Y
namespace Go.AE
variable {H0 H H':Heap}{E L B Lg:List (Nat×Obj)}{S:Nat→Bool}
theorem Kn.freeze0 (kn:Kn H0 H E (B++Lg)):∃S:Nat→Bool,(∀p∈Lg,H p.1=p.2∧S p.1=true)∧(∀p∈B,H p.1=p.2∧S p.1=false)∧FrzH H S (H.frz S)∧Kn H0 (H.frz S) E B:=by
 have hd:=kn.dL;rw[Ji]at hd;obtain⟨d1,d2,d3⟩:=Jl.1 hd;have keyB:∀m,m∉Lg.map Prod.fst→(Lg.map Prod.fst).contains m=false:=fun m hm=>by
  cases hc:(Lg.map Prod.fst).contains m with
  |false=>rfl
  |true=>exact absurd (Jaa.1 hc) hm
 have key:∀m,m∉Lg.map Prod.fst→(H.frz fun m=>(Lg.map Prod.fst).contains m) m=H m:=fun m hm=>by
  simp only[Heap.frz,keyB m hm];rfl
 have hB:∀p∈B,p.1∉Lg.map Prod.fst:=fun p hp hh=>d3 _ (Qah hp) _ hh rfl;refine⟨fun m=>(Lg.map Prod.fst).contains m,fun p hp=>⟨(kn.get p (Jb _ (Jb _ hp))).1,Jaa.2 (Qah hp)⟩,
  fun p hp=>⟨(kn.get p (Jb _ (Jc _ hp))).1,keyB _ (hB p hp)⟩,Qdb _ _,?_⟩
 refine⟨fun p hp=>?_,kn.ext,fun p hp=>kn.loc p (Jc _ hp),kn.dE,d1,fun m hm hx=>?_⟩
 ·have hg:H p.1=p.2∧p.2≠.none:=kn.get p (by
   rcases Jg.1 hp with h|h
   ·exact Jc _ h
   ·exact Jb _ (Jc _ h))
  refine⟨?_,hg.2⟩;rw[key p.1 (fun hh=>?_)];exact hg.1;rcases Jg.1 hp with h|h
  ·obtain⟨r,hr,he⟩:=Jn.1 hh;exact kn.ext p h (he▸kn.loc r (Jb _ hr))
  ·exact hB p h hh
 ·rw[key m (fun hh=>?_)]
  ·exact kn.chg m hm hx
  ·obtain⟨r,hr,he⟩:=Jn.1 hh;exact hm (he▸kn.loc r (Jb _ hr))
theorem Qbro {e e':Env}(h:∀p∈e',FrzV H S (lk p.1 e) p.2):∀t,FrzV H S (lk t e) (lk t e'):=fun t=>by
 induction e' with
 |nil=>exact .unk _
 |cons p e' ih=>
  obtain⟨s,v⟩:=p;by_cases ht:t=s
  ·subst ht;have:=h (t,v) Jw;simpa[lk]using this
  ·have:=ih fun p hp=>h p (J3 _ hp);simpa[lk,ht]using this
theorem FrzO.vecR {sz:Nat}{rows rows':List (List C)}(h:Y.FrzR H S rows rows')(hn:∀r∈rows,noOw r=true):FrzO H S (.vec sz rows) (.vec sz rows'):=by
 refine .vec sz rows rows' h.spec.1 (fun i r r' h1 h2=>(h.spec.2 i r r' h1 h2).spec.1) fun i r r' j c c' h1 h2 h3 h4=>.inr ⟨?_,(h.spec.2 i r r' h1 h2).spec.2 j c c' h3 h4⟩;exact Y.noOw_mem hn r (Jy h1) c (Jy h3)
end Go.AE
namespace Go.AE.Y
variable {H H0:Heap}{E L R B Lg:List (Nat×Obj)}{S:Nat→Bool}
theorem Q2q {α:Type}{f g:α→List C}:∀(l:List α),(∀x∈l,FrzL H S (f x) (g x))→FrzR H S (l.map f) (l.map g)
 |[],_=>.nil
 |x::l,h=>.cons (h x Jw) (Q2q l fun y hy=>h y (J3 _ hy))
theorem Qav7 {is:List OIns}(h:Held H S (is.flatMap OIns.lg)):FrzR H S (is.map OIns.row) (Qac (is.map OIns.d)):=by
 rw[Qac,Jar];exact Q2q is fun x hx=>x.frz (h.m hx)
theorem Qaic {ph:List OPhi}(ho:∀p∈ph,p.ok)(h:Held H S (ph.flatMap OPhi.lg)):FrzR H S (ph.map OPhi.row) (Qz (ph.map OPhi.d)):=by
 rw[Qz,Jar];exact Q2q ph fun x hx=>x.frz (ho x hx) (h.m hx)
theorem OBlk.gh {o:OBlk}(hok:o.ok){x8:Nat}(kn:Kn H0 H E ([(x8,.st o.row)]++(R++o.lg))) :
  ∃S H3 pl,FrzH H S H3∧Gr pl 2 (Qz o.d.phis) o.pc∧Kn H0 H3 E ([(x8,.st (kRow o.d o.pc))]++(R++pl)):=by
 have kn:Kn H0 H E (([(x8,.st o.row)]++(o.pl++R))++(o.nx.lg++(o.phis.flatMap OPhi.lg++(o.ins.flatMap OIns.lg++o.il)))):=kn.perm (Qt fun f hf h0 hc hp=>by
  simp only[hf,OBlk.lg];omega)
 obtain⟨S,hS,hB,hfz,kn⟩:=kn.freeze0;have hHd:Held H S (o.nx.lg++(o.phis.flatMap OPhi.lg++(o.ins.flatMap OIns.lg++o.il))):=hS;have hic:=Gr.frzM hok.i hHd.r.r.r (Qav7 hHd.r.r.l);have hph:=Qaic hok.a hHd.r.l;have hnx:=o.nx.frz hHd.l;have hx8:=hB (x8,.st o.row) (by simp);have f1:FrzH H S ((H.frz S).set x8 (.st (kRow o.d o.pc))):=hfz.set hx8.2 (by
  rw[hx8.1];exact FrzKL.st (.same (.cons hok.i.isOw hic (.same (.same (.cons rfl hnx .nil))))))
 have kn:=kn.setL (o':=.st (kRow o.d o.pc)) 0 rfl (by simp);have kn:Kn H0 ((H.frz S).set x8 (.st (kRow o.d o.pc))) E ([(x8,.st (kRow o.d o.pc))]++(o.pl++R)):=kn;rcases hok.p with ⟨h1,h2,h3⟩|⟨z,h1,h2⟩
 ·have hph0:o.phis=[]:=List.map_eq_nil_iff.1 h2;refine⟨S,_,[],f1,?_,by rw[h3]at kn;simpa using kn⟩;rw[h1];simp only[OBlk.d,hph0,Jac];exact .nil 2
 ·rw[h2]at kn;have hz:=hB (z,.vec 2 (o.phis.map OPhi.row)) (by rw[h2];simp);have hno:∀r∈o.phis.map OPhi.row,Go.AE.noOw r=true:=fun r hr=>by
   obtain⟨p,hp,rfl⟩:=Jn.1 hr;exact p.noOw (hok.a p hp)
  refine⟨S,_,[(z,.vec 2 (Qz o.d.phis))],f1.set (o:=.vec 2 (Qz o.d.phis)) hz.2 (by rw[hz.1];exact .vecR hph hno),?_,?_⟩
  ·rw[h1];exact .mk _ _ _ (by simp[OBlk.d,Qq])
  ·have kn:=kn.setL (o':=.vec 2 (Qz o.d.phis)) 1 rfl (by simp);exact kn.perm (Qt fun f hf h0 hc hp=>by
    show f ([(x8,_)]++([(z,_)]++R))=_;simp only[hf];omega)
def Qmb (q:CodeD)(b:Nat):BlkD:=q.blocks.getD b ⟨[],[],0,0,[]⟩
theorem Qbcy {q:CodeD}{b:Nat}(h:b<q.blocks.length):Qmb q b=q.blocks[b]:=by simp[Qmb,Jj,h]
theorem Qbtv {q:CodeD}{b:Nat}(h:b<q.blocks.length):gnx q b=(Qmb q b).next:=by rw[Qbcy h,Qahw h]
structure Pk (q:CodeD)(l:List Nat):Prop where
 n:l.length≤160
 z:l[0]? = some 0
 lt:∀x∈l,x<q.blocks.length
 cl:∀x∈l,∀v∈gnx q x,v.toNat∈l
def pkY (q:CodeD)(P:List Int)(b:Nat):BlkD:=⟨(Qmb q b).phis,(Qmb q b).ins,(Qmb q b).jump,(Qmb q b).on,(Qmb q b).next.map fun v=>P.getD v.toNat 0⟩
def pkN (q:CodeD)(P:List Int)(l:List Nat):Nat→List Int:=fun i=>(l.map fun b=>(pkY q P b).next).getD i []
structure PkB (q:CodeD)(P:List Int)(b:Nat)(y:BlkD):Prop where
 j:y.jump=(Qmb q b).jump
 o:y.on=(Qmb q b).on
 i:y.ins=(Qmb q b).ins
 n:y.next=(pkY q P b).next
 t:y.phis.map PhiD.to=(Qmb q b).phis.map PhiD.to
def PkA (q:CodeD)(P:List Int)(l:List Nat)(j:Nat)(p:PhiD):Prop:=p.args.length=(Qam (pkN q P l) (j:Int) l.length).length∧∀v∈p.args,rIn q v
structure PkR (q d:CodeD):Prop where
 ok:d.ok
 p:d.params=q.params
 r:d.regs=q.regs
 i:∀y∈d.blocks,∃y0∈q.blocks,y.ins=y0.ins∧y.phis.length=y0.phis.length
variable {q:CodeD}{P:List Int}{l:List Nat}
theorem Pk.get (hp:Pk q l){j:Nat}(hj:j<l.length):l.getD j 0=l[j]∧l[j]∈l∧l[j]<q.blocks.length:=
 ⟨by simp[Jj,hj],Jd hj,hp.lt _ (Jd hj)⟩
theorem Pk.to (ho:q.ok)(hp:Pk q l)(hP:Qbuz q.blocks.length l P){b:Nat}(hb:b∈l){w:Int}(hw:w∈(Qmb q b).next):1≤w∧w.toNat<P.length∧∃i,∃h:i<l.length,l[i]=w.toNat∧P.getD w.toNat 0=(i:Int)∧1≤i:=by
 have hlt:=hp.lt b hb;have h1:1≤w∧w<q.blocks.length:=by
  rw[Qbcy hlt]at hw;exact (ho.bs b hlt).nx w hw
 have h2:=hp.cl b hb w (by rw[Qbtv hlt];exact hw);obtain⟨i,hi,h3,h4⟩:=hP.2 _ h2;refine⟨h1.1,by rw[hP.1];exact hp.lt _ h2,i,hi,h3,h4,?_⟩;have hz:=hp.z;by_cases h0:i=0
 ·subst h0;rw[List.getElem?_eq_getElem hi,h3]at hz;have:=Ja1 hz;omega
 ·omega
theorem CodeD.ok.sg (h:q.ok):q.sg:=⟨by have:=h.b1;omega,fun y hy=>by
 obtain⟨b,hb,rfl⟩:=J4.1 hy;have h1:=h.il b hb;have h2:=h.bs b hb;have h3:=h2.nxl;have h4:=h.b1;refine⟨by omega,by omega,by omega,fun x hx=>by have:=h2.al x hx;omega,fun x hx=>?_⟩;have:=h2.pal x hx;have h5:=Qhp (gnx q) (b:Int) q.blocks.length;omega⟩
end Go.AE.Y
namespace Go.AE.Y
open Go.Proofs.Tryz
variable {H H0:Heap}{K:V→Heap→Prop}{S:Nat→Bool}
theorem OBlk.frzF {o:OBlk}(hok:o.ok)(h:Held H S o.lg):FrzL H S o.row o.d.cells:=
 .cons (Gr.frzM hok.p h.r.r.l (Qaic hok.a h.r.l)) (.cons (Gr.frzM hok.i h.r.r.r.r (Qav7 h.r.r.r.l)) (.cons (Qg rfl) (.cons (Qg rfl) (.cons (o.nx.frz h.l) .nil))))
theorem Qbil {bs:List OBlk}(ho:∀o∈bs,o.ok)(h:Held H S (bs.flatMap OBlk.lg)):FrzR H S (bs.map OBlk.row) (Qm (bs.map OBlk.d)):=by
 rw[Qm,Jar];exact Q2q bs fun x hx=>OBlk.frzF (ho x hx) (h.m hx)
theorem Qboe {q:CodeD}(hq:q.sg)(hb:0<q.blocks.length)(hK:∀z H',Kn H H' [] [(z,.vec 5 (Qm q.blocks))]→K (.ag [.int .i64 q.params,.int .i64 q.regs,.vsl z 5 0 q.blocks.length]) H'):Qo prog Qhi [.ag q.cells] H K:=by
 refine Qd4 (Qbdd hq fun o H' kn hok hd _=>?_);have hbl:o.blocks.length=q.blocks.length:=by rw[←hd];simp[OCode.d]
 have hpr:o.params=q.params:=by rw[←hd];rfl
 have hrg:o.regs=q.regs:=by rw[←hd];rfl
 have hbd:o.blocks.map OBlk.d=q.blocks:=by rw[←hd];rfl
 rcases hok.b with ⟨h1,h2,h3⟩|⟨z,h1,h2⟩
 ·have:=congrArg List.length h2;simp only[Jf,Jm]at this;omega
 ·have kn:Kn H H' [] ([(z,.vec 5 (o.blocks.map OBlk.row))]++o.blocks.flatMap OBlk.lg):=kn.perm (by rw[OCode.lg,h2];exact Jo);obtain⟨S,hS,hB,hfz,kn2⟩:=kn.freeze0;have hfr:=Qbil hok.bs hS;rw[hbd]at hfr;have hz:=hB (z,.vec 5 (o.blocks.map OBlk.row)) (by simp);have f1:FrzH H' S ((H'.frz S).set z (.vec 5 (Qm q.blocks))):=hfz.set hz.2 (by
   rw[hz.1];exact FrzO.vecR hfr (fun r hr=>by obtain⟨x,hx,rfl⟩:=Jn.1 hr;exact x.noOw (hok.bs x hx)))
  have kn2:=kn2.setL (o':=.vec 5 (Qm q.blocks)) 0 rfl (by simp);have kn2:Kn H ((H'.frz S).set z (.vec 5 (Qm q.blocks))) [] [(z,.vec 5 (Qm q.blocks))]:=kn2;refine⟨S,_,_,?_,f1,hK z _ kn2⟩;refine FrzL.ag ?_;rw[OCode.row,hpr,hrg,h1,Jf,hbl];exact .cons (Qg rfl) (.cons (Qg rfl) (.cons (.same _ rfl) .nil))
end Go.AE.Y
namespace Go.AE.Y
open Go.Proofs.Tryz
variable {H H0:Heap}{K:V→Heap→Prop}{E B Lg:List (Nat×Obj)}
def Gq (Lg:List (Nat×Obj))(W:List Nat)(c:C):Prop:=
 (c=.sl true 1 []∧W=[]∧Lg=[])∨∃z st R,c=.vsl z 1 st W.length∧Lg=[(z,.vec 1 R)]∧(R.drop st).take W.length=Qc6 W∧st+W.length≤R.length
theorem Gq.isOw {W:List Nat}{c:C}(h:Gq Lg W c):c.isOw=false:=by rcases h with ⟨rfl,_⟩|⟨z,st,R,rfl,_⟩ <;> rfl
theorem Gq.elemSz {W:List Nat}{c:C}(h:Gq Lg W c):c.elemSz=1:=by rcases h with ⟨rfl,_⟩|⟨z,st,R,rfl,_⟩ <;> rfl
theorem Gq.lenC {W:List Nat}{c:C}(h:Gq Lg W c):lenC c=W.length:=by rcases h with ⟨rfl,rfl,_⟩|⟨z,st,R,rfl,_⟩ <;> rfl
theorem Gq.get {W:List Nat}{c:C}(h:Gq Lg W c)(kn:Kn H0 H E (B++Lg)):okSl H c∧rowsOf H c=Qc6 W:=by
 rcases h with ⟨rfl,rfl,_⟩|⟨z,st,R,rfl,rfl,h1,h2⟩
 ·exact⟨trivial,rfl⟩
 ·have hz:H z=.vec 1 R:=(kn.get (z,.vec 1 R) (by simp)).1;exact⟨by simp[okSl,hz,h2],by simp[rowsOf,hz,h1]⟩
theorem IsIx.neg {ns:List Int}{v r:Int}(h:IsIx ns v r):decide (r<0) = !ns.contains v:=by
 rw[←h.nonneg];by_cases hr:r<0
 ·have:¬0≤r:=by omega
  simp[hr,this]
 ·have:0≤r:=by omega
  simp[hr,this]
def Qbvu (ns:List Int):List C:=[.sl true 2 [],.sl true 4 [],.int .i64 0,.int .i64 0,.sl false 1 (Qe ns)]
def Qbup (nx:Nat→List Int)(i:Nat):List Int:=(nx i).map (· + 1)
def shRows (nx:Nat→List Int)(n:Nat):List (List C):=(List.range n).map fun i=>Qbvu (Qbup nx i)
structure ShB where
 c:C
 lg:List (Nat×Obj)
def ShB.row (x:ShB):List C:=[.sl true 2 [],.sl true 4 [],.int .i64 0,.int .i64 0,x.c]
def ShOk (nx:Nat→List Int)(bs:List ShB):Prop:=∀i (h:i<bs.length),Gr bs[i].lg 1 (Qe (Qbup nx i)) bs[i].c
end Go.AE.Y
namespace Go.AE.Y
attribute [local go_sem] cond_true cond_false Bool.not_true Bool.not_false
open Go.Proofs.Tryz
variable {H H0:Heap}{K:V→Heap→Prop}{E B Lg:List (Nat×Obj)}
theorem OBlk.row_eq (o:OBlk):o.row=[o.pc,o.ic,.int .i64 o.jump,.int .i64 o.on,.vsl o.nx.y 1 0 o.nx.ns.length]:=rfl
def OBlk.rest (o:OBlk):List (Nat×Obj):=o.phis.flatMap OPhi.lg++(o.pl++(o.ins.flatMap OIns.lg++o.il))
theorem KBlk.row_eq (b:KBlk):b.row=[b.pc,.sl false 4 (Qac b.y.ins),.int .i64 b.y.jump,.int .i64 b.y.on,.sl false 1 (Qe b.y.next)]:=rfl
structure PkS (q:CodeD)(P:List Int)(l:List Nat)(i:Nat)(ks:List KBlk):Prop where
 n:ks.length=l.length
 b:∀j (h:j<ks.length),PkB q P (l.getD j 0) ks[j].y
 ok:∀b∈ks,b.ok
 a:∀j (h:j<ks.length),j<i→∀p∈ks[j].y.phis,PkA q P l j p
 u:∀j (h:j<ks.length),i≤j→ks[j].y.phis=(Qmb q (l.getD j 0)).phis
theorem Q6d {α β:Type}{f:α→List β}:∀{l:List α} {i:Nat} (h:i<l.length),(l.flatMap f).Perm (f l[i]++(l.eraseIdx i).flatMap f)
 |[],i,h=>by simp at h
 |x::l,0,h=>by simp
 |x::l,i+1,h=>by
  have:=Q6d (f:=f) (l:=l) (i:=i) (by simpa using h);simp only[Jae,J8,List.eraseIdx_cons_succ];refine (List.Perm.append_left _ this).trans ?_;rw[←Jv,←Jv];exact List.Perm.append_right _ Jo
variable {q:CodeD}{P:List Int}{l:List Nat}{ks:List KBlk}
theorem PkS.step {i:Nat}(hS:PkS q P l i ks)(hi:i<ks.length){ph:List PhiD}{pl:List (Nat×Obj)}(h1:ph.map PhiD.to=(Qmb q (l.getD i 0)).phis.map PhiD.to)(h2:∀p∈ph,PkA q P l i p)(hg:Gr pl 2 (Qz ph) ks[i].pc) :
  PkS q P l (i+1) (ks.set i ⟨⟨ph,ks[i].y.ins,ks[i].y.jump,ks[i].y.on,ks[i].y.next⟩,ks[i].pc,pl⟩):=by
 have hb:=hS.b i hi;refine⟨by rw[J5];exact hS.n,fun j h=>?_,fun w hw=>?_,fun j h hj=>?_,fun j h hj=>?_⟩
 ·have h':j<ks.length:=by simpa using h
  rw[J1];split
  ·rename_i e;subst e;exact⟨hb.j,hb.o,hb.i,hb.n,h1⟩
  ·exact hS.b j h'
 ·rcases Jt hw with h|rfl
  ·exact hS.ok w h
  ·exact hg
 ·have h':j<ks.length:=by simpa using h
  rw[J1];split
  ·rename_i e;subst e;exact h2
  ·exact hS.a j h' (by omega)
 ·have h':j<ks.length:=by simpa using h
  rw[J1];split
  ·omega
  ·exact hS.u j h' (by omega)
theorem PkS.rows {i:Nat}{ph:List PhiD}{pl:List (Nat×Obj)}(hi:i<ks.length):(ks.set i ⟨⟨ph,ks[i].y.ins,ks[i].y.jump,ks[i].y.on,ks[i].y.next⟩,ks[i].pc,pl⟩).map KBlk.row=ks.map KBlk.row:=by
 rw[Jav];have:(KBlk.mk ⟨ph,ks[i].y.ins,ks[i].y.jump,ks[i].y.on,ks[i].y.next⟩ ks[i].pc pl).row=(ks.map KBlk.row)[i]'(by simpa using hi):=by simp[KBlk.row,kRow]
 rw[this,List.set_getElem_self]
end Go.AE.Y
namespace Go.AE.Y
attribute [local go_sem] cond_true cond_false Bool.not_true Bool.not_false
open Go.Proofs.Tryz
variable {H H0:Heap}{K:V→Heap→Prop}{E B Lg:List (Nat×Obj)}{q:CodeD}
theorem CodeD.ok.gd (h:q.ok):q.gd:=⟨h.b0,h.b1,fun y hy=>by
 obtain⟨b,hb,rfl⟩:=J4.1 hy;exact (h.bs b hb).nxl,h.fts⟩
def zRow (v:Int):List C:=[.int .i64 1,.int .i64 v,.sl true 1 [],.int .i64 0]
def zIns (v:Int):InsD:=⟨1,v,[],0⟩
abbrev Plc:=Int×Int
def pRow (p:Plc):List C:=[.sl true 1 [[.int .i64 p.1],[.int .i64 p.2]]]
def Qbsr (ps:List Plc):List (List C):=ps.map pRow
def phS (q:CodeD)(b k r:Nat):List Plc:=(((Qmb q b).phis.take k).filter fun p=>decide (p.to=(r:Int))).map fun _=>((b:Int),(-1:Int))
def Qbt9 (q:CodeD)(b i:Nat):Int:=(((Qmb q b).ins[i]?).map Q0v).getD (-1)
def inS (q:CodeD)(b j r:Nat):List Plc:=((List.range j).filter fun i=>decide (Qbt9 q b i=(r:Int))).map fun (i:Nat)=>((b:Int),(i:Int))
def blS (q:CodeD)(b r:Nat):List Plc:=phS q b (Qmb q b).phis.length r++inS q b (Qmb q b).ins.length r
def Qbuo (q:CodeD)(b r:Nat):List Plc:=(List.range b).flatMap fun b=>blS q b r
def Qbvt (q:CodeD)(r:Nat):List Plc:=Qbuo q q.blocks.length r
def setsOf (q:CodeD):List (List C):=(List.range q.regs.toNat).map fun r=>[.sl false 1 (Qbsr (Qbvt q r))]
structure SReg where
 ps:List Plc
 c:C
 lg:List (Nat×Obj)
def SReg.row (s:SReg):List C:=[s.c]
def SReg.ok (s:SReg):Prop:=Gr s.lg 1 (Qbsr s.ps) s.c
structure SInv (R N:Nat)(F:Nat→List Plc)(ss:List SReg):Prop where
 n:ss.length=R
 f:∀r (h:r<ss.length),ss[r].ps=F r
 ok:∀s∈ss,s.ok
 l:∀s∈ss,s.ps.length≤N
variable {R N:Nat}{F F':Nat→List Plc}{ss:List SReg}
theorem SInv.get (h:SInv R N F ss){x:Nat}(hx:x<R):∃s∈ss,∃hx':x<ss.length,ss[x]=s∧s.ps=F x∧s.ok∧s.ps.length≤N∧(ss.map SReg.row).getD x []=[s.c]:=
 have hx':x<ss.length:=by rw[h.n];exact hx
 ⟨ss[x],Jd hx',hx',rfl,h.f x hx',h.ok _ (Jd hx'),h.l _ (Jd hx'),by simp[Jj,hx',SReg.row]⟩
theorem SInv.put (h:SInv R N F ss){x:Nat}(hx:x<R){p:Plc}{t:C}{Lg:List (Nat×Obj)}(hg:Gr Lg 1 (Qbsr (F x++[p])) t)(hF:∀r,F' r=if r=x then F x++[p]else F r) :
  SInv R (N+1) F' (ss.set x ⟨F x++[p],t,Lg⟩):=by
 obtain⟨s,hs,hx',e1,e2,e3,e4,_⟩:=h.get hx;refine⟨by rw[J5];exact h.n,fun r hr=>?_,fun w hw=>?_,fun w hw=>?_⟩
 ·rw[J1,hF];split
  ·rename_i e;rw[if_pos e.symm]
  ·rename_i e;rw[if_neg (fun hh=>e hh.symm)];exact h.f r (by simpa using hr)
 ·rcases Jt hw with hw|rfl
  ·exact h.ok w hw
  ·exact hg
 ·rcases Jt hw with hw|rfl
  ·have:=h.l w hw;omega
  ·rw[e2]at e4;simp only[Jp,Jh,Jm];omega
theorem SInv.same (h:SInv R N F ss)(hF:∀r,r<R→F' r=F r):SInv R N F' ss:=⟨h.n,fun r hr=>by rw[h.f r hr,hF r (by rw[←h.n];exact hr)],h.ok,h.l⟩
theorem SInv.up (h:SInv R N F ss){M:Nat}(hM:N≤M):SInv R M F ss:=⟨h.n,h.f,h.ok,fun s hs=>by have:=h.l s hs;omega⟩
def ssL (o:Nat)(ss:List SReg):List (Nat×Obj):=[(o,.vec 1 (ss.map SReg.row))]++ss.flatMap SReg.lg
end Go.AE.Y
namespace Go.AE.Y
attribute [local go_sem] cond_true cond_false Bool.not_true Bool.not_false
open Go.Proofs.Tryz
variable {H H0:Heap}{K:V→Heap→Prop}{E B Lg:List (Nat×Obj)}{q:CodeD}{S:Nat→Bool}
theorem OBlk.frzD (x:OBlk)(hok:x.ok)(h:Held H S x.lg):FrzL H S x.row x.d.cells:=
 .cons (Gr.frzM hok.p h.r.r.l (Qaic hok.a h.r.l)) (.cons (Gr.frzM hok.i h.r.r.r.r (Qav7 h.r.r.r.l)) (.cons (Qg rfl) (.cons (Qg rfl) (.cons (x.nx.frz h.l) .nil))))
theorem OBlks.frzD {os:List OBlk}(hok:∀b∈os,b.ok)(h:Held H S (os.flatMap OBlk.lg)):FrzR H S (os.map OBlk.row) (Qm (os.map OBlk.d)):=by
 rw[Qm,Jar];exact Q2q os fun x hx=>x.frzD (hok x hx) (h.m hx)
structure PhS (q:CodeD)(k:Nat→Nat)(os:List OBlk):Prop where
 n:os.length=q.blocks.length
 ok:∀b∈os,b.ok
 d:∀j (h:j<os.length) (h':j<q.blocks.length),os[j].d.ins=q.blocks[j].ins∧os[j].jump=q.blocks[j].jump∧os[j].on=q.blocks[j].on∧os[j].nx.ns=q.blocks[j].next
 p:∀j (h:j<os.length),∀p∈os[j].phis,rIn q p.to∧(∀v∈p.ns,rIn q v)∧p.ns.length=(Qam (gnx q) (j:Int) q.blocks.length).length
 l:∀j (h:j<os.length) (h':j<q.blocks.length),os[j].phis.length≤q.blocks[j].phis.length+k j
variable {k k':Nat→Nat}{os:List OBlk}
theorem PhS.up (h:PhS q k os)(hk:∀j,k j≤k' j):PhS q k' os:=⟨h.n,h.ok,h.d,h.p,fun j h1 h2=>by have:=h.l j h1 h2;have:=hk j;omega⟩
theorem PhS.step {b:Nat}(h:PhS q k os)(hb:b<os.length){o:OBlk}(hob:os[b]=o){p:OPhi}{pc:C}{pl:List (Nat×Obj)}(hp:p.ok)(hg:Gr pl 2 ((p::o.phis).map OPhi.row) pc)
  (h1:rIn q p.to) (h2:∀v∈p.ns,rIn q v) (h3:p.ns.length=(Qam (gnx q) (b:Int) q.blocks.length).length) (hk:∀j,k' j=if j=b then k j+1 else k j) :
  PhS q k' (os.set b ⟨p::o.phis,pc,pl,o.ins,o.ic,o.il,o.jump,o.on,o.nx⟩):=by
 subst hob;have hok:=h.ok _ (Jd hb);refine⟨by rw[J5];exact h.n,fun w hw=>?_,fun j hj hj'=>?_,fun j hj x hx=>?_,fun j hj hj'=>?_⟩
 ·rcases Jt hw with hw|rfl
  ·exact h.ok w hw
  ·refine⟨hg,hok.i,fun x hx=>?_⟩;rcases Jz.1 hx with rfl|hx
   ·exact hp
   ·exact hok.a x hx
 ·have hjl:j<os.length:=by simpa using hj
  have hd:=h.d j hjl hj';rw[J1];split
  ·rename_i e;subst e;exact hd
  ·exact hd
 ·have hjl:j<os.length:=by simpa using hj
  rw[J1]at hx;split at hx
  ·rename_i e;subst e
   rcases Jz.1 hx with rfl|hx
   ·exact⟨h1,h2,h3⟩
   ·exact h.p _ hjl x hx
  ·exact h.p j hjl x hx
 ·have hjl:j<os.length:=by simpa using hj
  have hl:=h.l j hjl hj';rw[J1,hk];split
  ·rename_i e;subst e;rw[if_pos rfl];show (p::os[b].phis).length≤_;simp only[Jh];omega
  ·rename_i e;rw[if_neg (fun h=>e h.symm)];exact hl
theorem PhS.fin (ho:q.ok)(h:PhS q k os)(hk:∀j (hj:j<q.blocks.length),q.blocks[j].phis.length+k j≤1200):(CodeD.mk q.params q.regs (os.map OBlk.d)).ok:=by
 obtain⟨d,hd⟩:∃d:CodeD,d=⟨q.params,q.regs,os.map OBlk.d⟩:=⟨_,rfl⟩;rw[←hd];have hl:d.blocks.length=q.blocks.length:=by rw[hd];simpa using h.n
 have hget:∀j (h1:j<d.blocks.length) (h2:j<os.length),d.blocks[j]=os[j].d:=fun j h1 h2=>by subst hd;simp
 have hmap:d.blocks.map BlkD.next=q.blocks.map BlkD.next:=Jai (by simp[hl]) fun j h1 h2=>by
  simp only[Jf]at h1 h2;have h3:j<os.length:=by rw[h.n];exact h2
  simp only[J7,hget j h1 h3];exact (h.d j h3 h2).2.2.2
 have hg:gnx d=gnx q:=by funext i;rw[gnx,gnx,hmap]
 have hr:∀v,rIn q v→rIn d v:=fun v hv=>by simp only[rIn,hd]at hv⊢;exact hv
 have hrg:d.regs=q.regs:=by rw[hd]
 refine⟨by rw[hrg];exact ho.r0,by rw[hrg];exact ho.r1,by rw[hl];exact ho.b0,by rw[hl];exact ho.b1,fun b hb=>?_,fun b hb=>?_⟩
 ·have h2:b<q.blocks.length:=by omega
  have h3:b<os.length:=by rw[h.n];exact h2
  have o:=ho.bs b h2;obtain⟨e1,e2,e3,e4⟩:=h.d b h3 h2;have hp:=h.p b h3;rw[hget b hb h3];have hph:∀p∈os[b].d.phis,rIn q p.to∧(∀v∈p.args,rIn q v)∧p.args.length=(Qam (gnx q) (b:Int) q.blocks.length).length:=fun p hp'=>by
   obtain⟨x,hx,rfl⟩:=Jn.1 hp';exact hp x hx
  refine⟨by show os[b].nx.ns.length≤2;rw[e4];exact o.nxl,fun v hv=>by rw[hl];exact o.nx v (by rw[←e4];exact hv),by show os[b].jump=1∨os[b].jump=2∨os[b].jump=3;rw[e2];exact o.jmp,fun hj=>?_,
   fun x hx v hv=>hr _ (o.args x (by rw[←e1];exact hx) v hv),fun x hx hm=>hr _ (o.to x (by rw[←e1];exact hx) hm),fun p hp=>hr _ (hph p hp).1,fun p hp v hv=>hr _ ((hph p hp).2.1 v hv),fun p hp=>by rw[hg,hl];exact (hph p hp).2.2,
   fun x hx=>o.al x (by rw[←e1];exact hx)⟩
  show rIn d os[b].on;rw[e3];exact hr _ (o.on (by rw[←e2];exact hj))
 ·have h2:b<q.blocks.length:=by omega
  have h3:b<os.length:=by rw[h.n];exact h2
  have o:=ho.il b h2;have e1:=(h.d b h3 h2).1;have:=h.l b h3 h2;have:=hk b h2;rw[hget b hb h3,e1];refine⟨o.1,?_⟩;simp only[OBlk.d,Jf];omega
def OBlk.rst (o:OBlk):List (Nat×Obj):=o.nx.lg++(o.phis.flatMap OPhi.lg++(o.ins.flatMap OIns.lg++o.il))
end Go.AE.Y
namespace Go.AE
def SimC (c c':C):Prop:=c'=c∨∃a b:Int,c=.int .i64 a∧c'=.int .i64 b
inductive SimR:List C→List C→Prop
 |nil:SimR [] []
 |cons {c c':C} {l l':List C} (h:SimC c c') (t:SimR l l'):SimR (c::l) (c'::l')
theorem SimR.same:∀l,SimR l l
 |[]=>.nil
 |c::l=>.cons (.inl rfl) (SimR.same l)
theorem SimC.trans {a b c:C}(h:SimC a b)(k:SimC b c):SimC a c:=by
 rcases h with rfl|⟨x,y,rfl,rfl⟩
 ·exact k
 ·rcases k with rfl|⟨u,v,hu,rfl⟩
  ·exact .inr ⟨x,y,rfl,rfl⟩
  ·exact .inr ⟨x,v,rfl,rfl⟩
theorem SimR.trans {a b c:List C}(h:SimR a b):SimR b c→SimR a c:=by
 induction h generalizing c with
 |nil=>exact id
 |cons h t ih=>
  intro k
  cases k with
  |cons h2 t2=>exact .cons (h.trans h2) (ih t2)
theorem SimC.int {a:Int}{c:C}(h:SimC (.int .i64 a) c):∃b:Int,c=.int .i64 b:=by
 rcases h with rfl|⟨x,y,_,rfl⟩
 ·exact⟨a,rfl⟩
 ·exact⟨y,rfl⟩
theorem SimC.sl {fl:Bool}{sz:Nat}{rows:List (List C)}{c:C}(h:SimC (.sl fl sz rows) c):c=.sl fl sz rows:=by
 rcases h with rfl|⟨x,y,h,_⟩
 ·rfl
 ·simp at h
theorem SimC.vsl {l sz st n:Nat}{c:C}(h:SimC (.vsl l sz st n) c):c=.vsl l sz st n:=by
 rcases h with rfl|⟨x,y,h,_⟩
 ·rfl
 ·simp at h
def SimO (X:Nat→Prop)(o o':Obj):Prop:=∃sz rows rows',o=.vec sz rows∧o'=.vec sz rows'∧rows'.length=rows.length∧∀r,r<rows.length→SimR (rows.getD r []) (rows'.getD r [])∧(X r→rows'.getD r []=rows.getD r [])
variable {X X':Nat→Prop}{o o':Obj}
theorem SimO.same (sz:Nat)(rows:List (List C)):SimO X (.vec sz rows) (.vec sz rows):=⟨sz,rows,rows,rfl,rfl,rfl,fun r _=>⟨.same _,fun _=>rfl⟩⟩
theorem SimO.mono (h:SimO X o o')(hX:∀r,X' r→X r):SimO X' o o':=by
 obtain⟨sz,rows,rows',h1,h2,h3,h4⟩:=h;exact⟨sz,rows,rows',h1,h2,h3,fun r hr=>⟨(h4 r hr).1,fun hx=>(h4 r hr).2 (hX r hx)⟩⟩
theorem SimO.get {sz:Nat}{rows:List (List C)}(h:SimO X (.vec sz rows) o'):∃rows',o'=.vec sz rows'∧rows'.length=rows.length∧∀r,r<rows.length→SimR (rows.getD r []) (rows'.getD r [])∧(X r→rows'.getD r []=rows.getD r []):=by
 obtain⟨sz,rows,rows',h1,h2,h3,h4⟩:=h;cases h1;exact⟨rows',h2,h3,h4⟩
theorem SimO.set {sz:Nat}{rows rows':List (List C)}(h:SimO X (.vec sz rows) (.vec sz rows')){r:Nat}{new:List C}(hr:r<rows.length)(hs:SimR (rows.getD r []) new)(hX:∀r',r'≠r→X' r'→X r')(hn:¬X' r) :
  SimO X' (.vec sz rows) (.vec sz (rows'.set r new)):=by
 obtain⟨rows2,h2,h3,h4⟩:=h.get;cases h2;refine⟨sz,rows,_,rfl,rfl,by rw[J5];exact h3,fun r' hr'=>?_⟩;by_cases e:r'=r
 ·subst e;have:(rows'.set r' new).getD r' []=new:=by rw[Jj,List.getElem?_set_self (by omega)];rfl
  rw[this];exact⟨hs,fun hx=>absurd hx hn⟩
 ·have:(rows'.set r new).getD r' []=rows'.getD r' []:=by rw[Jj,Jas (fun h=>e h.symm),←Jj]
  rw[this];exact⟨(h4 r' hr').1,fun hx=>(h4 r' hr').2 (hX r' e hx)⟩
def Ty (LG:List (Nat×Obj))(F:Heap)(E0:List (Nat×Obj))(X:Nat→Nat→Prop)(H:Heap)(L:List (Nat×Obj)):Prop:=
 ∃E1:List (Nat×Obj),E1.map Prod.fst=LG.map Prod.fst∧(∀p∈LG,∀ob,(p.1,ob)∈E1→SimO (X p.1) p.2 ob)∧Kn F H (E0++E1) L
namespace Ty
variable {LG E0 L A N:List (Nat×Obj)}{F H H':Heap}{X X':Nat→Nat→Prop}{m:Nat}{o ob:Obj}
theorem nodup (t:Ty LG F E0 X H L):(LG.map Prod.fst).Nodup:=by
 obtain⟨E1,h1,h2,kn⟩:=t;have:=kn.dE;rw[Ji]at this;rw[←h1];exact (Jl.1 this).2.1
theorem get (t:Ty LG F E0 X H L)(hm:(m,o)∈LG):SimO (X m) o (H m):=by
 obtain⟨E1,h1,h2,kn⟩:=t;have h3:m∈E1.map Prod.fst:=by rw[h1];exact Qah hm
 obtain⟨p,hp,he⟩:=Jn.1 h3;have h4:=(kn.get p (Jc _ (Jb _ hp))).1;obtain⟨a,b⟩:=p;simp only at he h4;subst he;rw[h4];exact h2 _ hm _ hp
theorem e (t:Ty LG F E0 X H L)(i:Nat){x:Nat}{oo:Obj}(h:E0[i]? = some (x,oo)):H x=oo:=by
 obtain⟨E1,h1,h2,kn⟩:=t;exact (kn.get (x,oo) (Jc _ (Jc _ (Jy h)))).1
theorem weak (t:Ty LG F E0 X H L)(hX:∀m r,X' m r→X m r):Ty LG F E0 X' H L:=by
 obtain⟨E1,h1,h2,kn⟩:=t;exact⟨E1,h1,fun p hp ob hob=>(h2 p hp ob hob).mono (hX p.1),kn⟩
theorem st (t:Ty LG F E0 X H L)(hm:(m,o)∈LG)(h:H'=H.set m ob)(hs:SimO (X' m) o ob)(hX:∀m',m'≠m→∀r,X' m' r→X m' r):Ty LG F E0 X' H' L:=by
 have hnd:=t.nodup;obtain⟨E1,h1,h2,kn⟩:=t;have h3:m∈E1.map Prod.fst:=by rw[h1];exact Qah hm
 obtain⟨p,hp,he⟩:=Jn.1 h3;obtain⟨i,hi⟩:=Jak hp;obtain⟨a,b⟩:=p;simp only at he;subst he;have hob:ob≠.none:=by
  obtain⟨_,_,_,_,h,_⟩:=hs;rw[h];simp
 have hd1:(E1.map Prod.fst).Nodup:=by rw[h1];exact hnd
 have hi':(E0++E1)[E0.length+i]? = some (a,b):=by rw[Jal (by omega),Jap];exact hi
 have k2:=kn.stE (E0.length+i) hi' h hob;rw[List.set_append_right _ _ (by omega),Jap]at k2;refine⟨E1.set i (a,ob),(Qbp hi).trans h1,fun p hp ob' hob'=>?_,k2⟩;rcases Qbe hob' with e|⟨j,hj,hj2⟩
 ·have e1:p.1=a:=congrArg Prod.fst e;have e2:ob'=ob:=congrArg Prod.snd e;have e3:p.2=o:=by
   obtain⟨i1,g1⟩:=Jak hp;obtain⟨i2,g2⟩:=Jak hm;have:=Qcl hnd g1 g2 e1;subst this;rw[g1]at g2;rw[Ja1 g2]
  rw[e1,e2,e3];exact hs
 ·have hne:p.1≠a:=fun hh=>hj (Qcl hd1 hj2 hi hh);exact (h2 p hp ob' (Jy hj2)).mono (hX p.1 hne)
theorem stE (t:Ty LG F E0 X H L)(i:Nat){x:Nat}{a b:Obj}(h:E0[i]? = some (x,a))(h1:H'=H.set x b)(hb:b≠.none:=by nofun):Ty LG F (E0.set i (x,b)) X H' L:=by
 obtain⟨E1,g1,g2,kn⟩:=t;have hlt:=(List.getElem?_eq_some_iff.1 h).1;have k2:=kn.stE (o:=a) i (by rw[Jam hlt];exact h) h1 hb;rw[List.set_append_left _ _ hlt]at k2;exact⟨E1,g1,g2,k2⟩
theorem call0 (t:Ty LG F E0 X H L)(hu:Upd H H' []):Ty LG F E0 X H' L:=by
 obtain⟨E1,g1,g2,kn⟩:=t;exact⟨E1,g1,g2,kn.call0 hu⟩
theorem al (t:Ty LG F E0 X H L){x:Nat}{b:Obj}(hx:H x=.none)(h1:H'=H.set x b)(hb:b≠.none:=by nofun):Ty LG F E0 X H' (L++[(x,b)]):=by
 obtain⟨E1,g1,g2,kn⟩:=t;exact⟨E1,g1,g2,kn.al hx h1 hb⟩
theorem drop (t:Ty LG F E0 X H (A++N)):Ty LG F E0 X H A:=by
 obtain⟨E1,g1,g2,kn⟩:=t;exact⟨E1,g1,g2,kn.drop⟩
theorem sub {wl cy c0:Nat}{a b c:Obj}(t:Ty LG F [(wl,a),(c0,b)] X H (L++[(cy,c)])):Ty LG H [(wl,a),(cy,c)] X H []:=by
 obtain⟨E1,g1,g2,kn⟩:=t;refine⟨E1,g1,g2,Kn.startE (fun p hp=>kn.get p ?_) ?_⟩
 ·rcases Jg.1 hp with hp|hp
  ·rcases Jz.1 hp with rfl|hp
   ·simp
   ·rcases Jz.1 hp with rfl|hp
    ·simp
    ·simp at hp
  ·simp[hp]
 ·have hd:=kn.dE;simp only[J0,Jad,J6,Jaz,Jz,not_or]at hd⊢;have hcy:∀p∈[(wl,a),(c0,b)]++E1,p.1≠cy:=fun p hp hh=>kn.ext p hp (hh▸kn.loc (cy,c) (by simp));refine⟨⟨hcy (wl,a) (by simp),hd.1.2⟩,fun hh=>?_,hd.2.2⟩;obtain⟨p,hp,he⟩:=Jn.1 hh;exact hcy p (Jb _ hp) he
theorem ret {wl cy c0:Nat}{a b c a' c':Obj}(t:Ty LG F [(wl,a),(c0,b)] X H (L++[(cy,c)]))(t2:Ty LG H [(wl,a'),(cy,c')] X' H' []):Ty LG F [(wl,a'),(c0,b)] X' H' L:=by
 obtain⟨E1,g1,g2,kn⟩:=t;obtain⟨E2,k1,k2,kn2⟩:=t2;have hu:=kn2.upd;have hne:∀p∈[(wl,a'),(cy,c')]++E2,p.2≠.none:=fun p hp=>(kn2.get p (Jc _ hp)).2;have hfst:E2.map Prod.fst=E1.map Prod.fst:=k1.trans g1.symm;have hd:=kn.dE;have hdL:=kn.dL;rw[Ji]at hdL;have hcy:∀p∈[(wl,a),(c0,b)]++E1,p.1≠cy:=fun p hp hh=>kn.ext p hp (hh▸kn.loc (cy,c) (by simp));have hk:Kn F H' ([(wl,a'),(c0,b)]++E2) (L++[(cy,c')]):=by
  refine kn.callg hu (by simp[hfst]) (by simp) (fun p hp=>?_) (fun u hu'=>?_)
  ·rcases Jg.1 hp with hp|hp
   ·rcases Jg.1 hp with hp|hp
    ·rcases Jz.1 hp with rfl|hp
     ·exact⟨hne _ (by simp),.inl (by simp)⟩
     ·simp only[Ja]at hp;subst hp;have h0:(c0,b)∈([(wl,a),(c0,b)]++E1)++(L++[(cy,c)]):=(by simp);refine⟨(kn.get _ h0).2,.inr ⟨h0,?_⟩⟩;simp only[J0,Jad,J6,Jaz,Jz,not_or]at hd⊢;refine⟨fun h=>hd.1.1 h.symm,hcy (c0,b) (by simp),?_⟩;rw[hfst];exact hd.2.1
    ·exact⟨hne p (Jb _ hp),.inl (Jb _ hp)⟩
   ·rcases Jg.1 hp with hp|hp
    ·have h0:p∈([(wl,a),(c0,b)]++E1)++(L++[(cy,c)]):=(by simp[hp]);refine⟨(kn.get _ h0).2,.inr ⟨h0,fun hh=>?_⟩⟩;have hpf:F p.1=.none:=kn.loc p (Jc _ hp);simp only[J0,Jad,J6,Jz]at hh;rcases hh with hh|hh|hh
     ·exact kn.ext (wl,a) (by simp) (hh▸hpf)
     ·exact (Jl.1 hdL).2.2 _ (Qah hp) cy (by simp) hh
     ·rw[hfst]at hh;obtain⟨p',hp',he⟩:=Jn.1 hh;exact kn.ext p' (Jb _ hp') (he▸hpf)
    ·simp only[Ja]at hp;subst hp;exact⟨hne _ (by simp),.inl (by simp)⟩
  ·rcases Jg.1 hu' with h|h
   ·rcases Jz.1 h with rfl|h
    ·left;simp
    ·simp only[Ja]at h;subst h;right;simp
   ·left;rw[Ji,Jg,←hfst];exact .inr (Qah h)
 exact⟨E2,k1,k2,hk.drop⟩
end Ty
end Go.AE
namespace Go.AE.Y
variable {H H' F:Heap}{q:CodeD}{os:List OBlk}{zb wl cy R n:Nat}{ids:List Int}{U:Nat→Prop}{X X':Nat→Nat→Prop}{nx:Int}{cs:List Int}{o:OBlk}{b x:Nat}
def LGo (os:List OBlk)(zb:Nat):List (Nat×Obj):=os.flatMap OBlk.lg++[(zb,.vec 5 (os.map OBlk.row))]
def OBlk.inN (o:OBlk):List (Nat×Obj):=o.ins.flatMap OIns.lg++o.il
def OBlk.phN (o:OBlk):List (Nat×Obj):=o.phis.flatMap OPhi.lg++o.pl
def XU (os:List OBlk)(zb:Nat)(U:Nat→Prop)(m r:Nat):Prop:=(∃x,∃h:x<os.length,m=os[x].nx.y)∨∃x,∃h:x<os.length,U x∧((m=zb∧r=x)∨∃p∈os[x].inN,m=p.1)
def XP (o:OBlk)(zb b:Nat)(j:Bool)(i k m r:Nat):Prop:=(j=true∧m=zb∧r=b)∨(∃p∈o.il,m=p.1∧i≤r)∨∃i',∃h:i'<o.ins.length,m=o.ins[i'].a.y∧(i<i'∨(i=i'∧k≤r))
theorem Qahg {α:Type}{f:α→List (Nat×Obj)}:∀{l:List α},((l.flatMap f).map Prod.fst).Nodup→∀{i j:Nat} (hi:i<l.length) (hj:j<l.length),i≠j→∀p∈f l[i],∀p'∈f l[j],p.1≠p'.1
 |[],_,i,j,hi,_,_=>by simp at hi
 |x::l,hd,i,j,hi,hj,hij=>by
  rw[Jae,Ji]at hd;obtain⟨d1,d2,d3⟩:=Jl.1 hd;intro p hp p' hp'
  cases i with
  |zero=>
   cases j with
   |zero=>exact absurd rfl hij
   |succ j=>
    simp only[Jaq,J8]at hp hp';exact d3 _ (Qah hp) _ (Qah (Ju.2 ⟨_,Jd _,hp'⟩))
  |succ i=>
   cases j with
   |zero=>
    simp only[Jaq,J8]at hp hp';exact fun h=>d3 _ (Qah hp') _ (Qah (Ju.2 ⟨_,Jd _,hp⟩)) h.symm
   |succ j=>
    simp only[J8]at hp hp';exact Qahg d2 (by simpa using hi) (by simpa using hj) (by omega) p hp p' hp'
theorem Qbc8 {α:Type}{f:α→List (Nat×Obj)}:∀{l:List α},((l.flatMap f).map Prod.fst).Nodup→∀x∈l,((f x).map Prod.fst).Nodup
 |[],_,x,h=>by simp at h
 |y::l,hd,x,h=>by
  rw[Jae,Ji]at hd;obtain⟨d1,d2,d3⟩:=Jl.1 hd;rcases Jz.1 h with rfl|h
  ·exact d1
  ·exact Qbc8 d2 x h
structure BlkN (o:OBlk):Prop where
 pn:∀p∈o.phN,p.1≠o.nx.y
 inn:∀p∈o.inN,p.1≠o.nx.y
 pi:∀p∈o.phN,∀p'∈o.inN,p.1≠p'.1
 ii:∀p∈o.ins.flatMap OIns.lg,∀p'∈o.il,p.1≠p'.1
 ij:∀i j (hi:i<o.ins.length) (hj:j<o.ins.length),i≠j→o.ins[i].a.y≠o.ins[j].a.y
theorem Qbq5 (h:(o.lg.map Prod.fst).Nodup):BlkN o:=by
 have e:o.lg=o.nx.lg++(o.phN++o.inN):=by simp only[OBlk.lg,OBlk.phN,OBlk.inN,Jv]
 rw[e,Ji,Ji]at h;obtain⟨_,d2,d3⟩:=Jl.1 h;obtain⟨_,e2,e3⟩:=Jl.1 d2;rw[OBlk.inN,Ji]at e2;obtain⟨g1,_,g3⟩:=Jl.1 e2;have hy:o.nx.y∈o.nx.lg.map Prod.fst:=by simp[OInts.lg]
 refine⟨fun p hp hh=>d3 _ hy _ (Jc _ (Qah hp)) hh.symm,fun p hp hh=>d3 _ hy _ (Jb _ (Qah hp)) hh.symm,fun p hp p' hp'=>e3 _ (Qah hp) _ (Qah hp'),
  fun p hp p' hp'=>g3 _ (Qah hp) _ (Qah hp'),fun i j hi hj hij=>?_⟩
 exact Qahg g1 hi hj hij (o.ins[i].a.y,.vec 1 (Qe o.ins[i].a.ns)) (by simp[OIns.lg,OInts.lg]) (o.ins[j].a.y,.vec 1 (Qe o.ins[j].a.ns)) (by simp[OIns.lg,OInts.lg])
def Apart (os:List OBlk)(zb:Nat):Prop:=((LGo os zb).map Prod.fst).Nodup
theorem Apart.zbn (h:Apart os zb)(hx:x<os.length){p:Nat×Obj}(hp:p∈os[x].lg):p.1≠zb:=by
 rw[Apart,LGo,Ji]at h;exact (Jl.1 h).2.2 _ (Qah (Ju.2 ⟨_,Jd hx,hp⟩)) zb (by simp)
theorem Apart.same (h:Apart os zb){x y:Nat}(hx:x<os.length)(hy:y<os.length){p p':Nat×Obj}(hp:p∈os[x].lg)(hp':p'∈os[y].lg)(he:p.1=p'.1):x=y:=by
 rw[Apart,LGo,Ji]at h;by_cases hxy:x=y
 ·exact hxy
 ·exact absurd he (Qahg (Jl.1 h).1 hx hy hxy p hp p' hp')
theorem Apart.blk (h:Apart os zb)(hx:x<os.length):BlkN os[x]:=by
 rw[Apart,LGo,Ji]at h;exact Qbq5 (Qbc8 (Jl.1 h).1 _ (Jd hx))
theorem OBlk.nxM (o:OBlk):(o.nx.y,Obj.vec 1 (Qe o.nx.ns))∈o.lg:=by simp[OBlk.lg,OInts.lg]
theorem OBlk.phM {p:Nat×Obj}(h:p∈o.phN):p∈o.lg:=by
 simp only[OBlk.phN,OBlk.lg,Jg]at h⊢;rcases h with h|h
 ·exact .inr (.inl h)
 ·exact .inr (.inr (.inl h))
theorem OBlk.inM {p:Nat×Obj}(h:p∈o.inN):p∈o.lg:=by
 simp only[OBlk.inN,OBlk.lg,Jg]at h⊢;exact .inr (.inr (.inr h))
theorem LGo.of {p:Nat×Obj}(hx:x<os.length)(hp:p∈os[x].lg):p∈LGo os zb:=Jc _ (Ju.2 ⟨_,Jd hx,hp⟩)
theorem Apart.ph (h:Apart os zb)(hx:x<os.length){p:Nat×Obj}(hp:p∈os[x].phN)(r:Nat):¬XU os zb U p.1 r:=by
 rintro (⟨y,hy,he⟩|⟨y,hy,_,he⟩)
 ·have:=h.same hx hy (OBlk.phM hp) os[y].nxM he;subst this;exact (h.blk hx).pn p hp he
 ·rcases he with ⟨he,_⟩|⟨p',hp',he⟩
  ·exact h.zbn hx (OBlk.phM hp) he
  ·have:=h.same hx hy (OBlk.phM hp) (OBlk.inM hp') he;subst this;exact (h.blk hx).pi p hp p' hp' he
theorem XP.init {U':Nat→Prop}{m r:Nat}{j:Bool}(h:XU os zb U m r)(hb:b<os.length)(hj:j=true)(hU:∀x,U x→x≠b→U' x):XU os zb U' m r∨XP os[b] zb b j 0 0 m r:=by
 rcases h with h|⟨x,hx,hUx,he⟩
 ·exact .inl (.inl h)
 ·by_cases hxb:x=b
  ·subst hxb;right;rcases he with ⟨e1,e2⟩|⟨p,hp,e⟩
   ·exact .inl ⟨hj,e1,e2⟩
   ·rcases Jg.1 hp with hp|hp
    ·obtain⟨y,hy,hp2⟩:=Ju.1 hp;obtain⟨i,hi,rfl⟩:=J4.1 hy;simp only[OIns.lg,OInts.lg,Ja]at hp2;refine .inr (.inr ⟨i,hi,by rw[e,hp2],?_⟩);by_cases h0:i=0
     ·exact .inr ⟨h0.symm,Ja0 _⟩
     ·exact .inl (by omega)
    ·exact .inr (.inl ⟨p,hp,e,Ja0 _⟩)
  ·exact .inl (.inr ⟨x,hx,hU x hUx hxb,he⟩)
structure NC (q:CodeD)(os:List OBlk)(zb R n:Nat)(ids:List Int):Prop where
 ok:q.ok
 hn:q.blocks.length=n
 hR:q.regs.toNat=R
 l:os.length=n
 d:∀x (h:x<os.length) (h':x<q.blocks.length),os[x].d=q.blocks[x]
 bo:∀b∈os,b.ok
 ow:∀b∈os,∀p∈b.phis,p.own
 t:Tree n ids (depL n (nxN (gnx q)))
def wO (q:CodeD)(ids:List Int)(zb n:Nat)(nx:Int):Obj:=.st [.int .i64 q.params,.int .i64 q.regs,.sl false 5 (Qm q.blocks),.int .i64 q.params,.int .i64 q.regs,.vsl zb 5 0 n,.sl false 1 (Qe ids),.int .i64 nx]
abbrev TT (q:CodeD)(os:List OBlk)(zb n wl cy:Nat)(ids:List Int)(F:Heap)(nx:Int)(cs:List Int)(X:Nat→Nat→Prop)(H:Heap):Prop:=Ty (LGo os zb) F [(wl,wO q ids zb n nx),(cy,.vec 1 (Qe cs))] X H []
theorem NC.get (c:NC q os zb R n ids)(hb:b<n):∃hl:b<os.length,∃hq:b<q.blocks.length,os[b].d=q.blocks[b]∧os[b].ok∧q.blocks[b].ok q b∧os[b].phis.length≤1200∧os[b].ins.length≤1200:=by
 have hl:b<os.length:=by rw[c.l];exact hb
 have hq:b<q.blocks.length:=by rw[c.hn];exact hb
 have hd:=c.d b hl hq;have hil:=c.ok.il b hq;rw[←hd]at hil;simp only[OBlk.d,Jf]at hil;exact⟨hl,hq,hd,c.bo _ (Jd hl),c.ok.bs b hq,hil.2,hil.1⟩
end Go.AE.Y
namespace Go.AE.Y
attribute [local go_sem] cond_true cond_false Bool.not_true Bool.not_false
open Go.Proofs.Tryz
variable {H H' F:Heap}{K:V→Heap→Prop}{q:CodeD}{os:List OBlk}{zb wl cy R n b:Nat}{ids:List Int}{U:Nat→Prop}{Z Z':Nat→Nat→Prop}{nx:Int}{cs:List Int}{o:OBlk}{y:BlkD}{e:Env}{Q:X→Env→Heap→Prop}
def LK (wl b cy R n zb:Nat)(e:Env):Prop:=lk 0 e=.c (.ptr wl 0)∧lk 1 e=.c (.int .i64 b)∧lk 2 e=.c (.vsl cy 1 0 R)∧lk 6 e=.c (.ep (.vsl zb 5 0 n) 5 b 0)
structure NSt (q:CodeD)(os:List OBlk)(zb n R wl cy:Nat)(ids:List Int)(F:Heap)(nx:Int)(cs:List Int)(Z:Nat→Nat→Prop)(H:Heap):Prop where
 t:TT q os zb n wl cy ids F nx cs Z H
 c:cs.length=R
theorem NSt.w (s:NSt q os zb n R wl cy ids F nx cs Z H):H wl=wO q ids zb n nx:=s.t.e 0 rfl
theorem NSt.cl (s:NSt q os zb n R wl cy ids F nx cs Z H):(Qe cs).length=R:=by rw[Qi];exact s.c
theorem NSt.weak (s:NSt q os zb n R wl cy ids F nx cs Z H)(hX:∀m r,Z' m r→Z m r):NSt q os zb n R wl cy ids F nx cs Z' H:=⟨s.t.weak hX,s.c⟩
def XC (os:List OBlk)(zb:Nat)(U:Nat→Prop)(o:OBlk)(b:Nat)(j:Bool)(i k m r:Nat):Prop:=XU os zb U m r∨XP o zb b j i k m r
end Go.AE.Y
namespace Go.AE.Y
attribute [local go_sem] cond_true cond_false Bool.not_true Bool.not_false
attribute [local instance] Classical.propDecidable
open Go.Proofs.Tryz
variable {H H' F:Heap}{K:V→Heap→Prop}{q:CodeD}{os:List OBlk}{zb wl cy R n b:Nat}{ids:List Int}{nx:Int}{cs:List Int}
def wgt (os:List OBlk)(x:Nat):Nat:=match os[x]? with
 |some o=>o.phis.length+o.ins.length
 |none=>0
noncomputable def pW (n:Nat)(w:Nat→Nat)(U:Nat→Prop):Nat:=@potW n w U fun _=>Classical.propDecidable _
theorem LGo.vec {zb:Nat}(hok:∀b∈os,b.ok)(how:∀b∈os,∀p∈b.phis,p.own):∀p∈LGo os zb,∃sz rows,p.2=.vec sz rows:=fun p hp=>by
 rcases Jg.1 hp with hp|hp
 ·obtain⟨o,ho,hp⟩:=Ju.1 hp;have h1:=hok o ho;simp only[OBlk.lg,Jg]at hp;rcases hp with hp|hp|hp|hp|hp
  ·simp only[OInts.lg,Ja]at hp;rw[hp];exact⟨_,_,rfl⟩
  ·obtain⟨x,hx,hp⟩:=Ju.1 hp;obtain⟨y,_,e⟩:=how o ho x hx;rw[e]at hp;simp only[Ja]at hp;rw[hp];exact⟨_,_,rfl⟩
  ·rcases h1.p with ⟨_,_,e⟩|⟨y,_,e⟩
   ·rw[e]at hp;simp at hp
   ·rw[e]at hp;simp only[Ja]at hp;rw[hp];exact⟨_,_,rfl⟩
  ·obtain⟨x,hx,hp⟩:=Ju.1 hp;simp only[OIns.lg,OInts.lg,Ja]at hp;rw[hp];exact⟨_,_,rfl⟩
  ·rcases h1.i with ⟨_,_,e⟩|⟨y,_,e⟩
   ·rw[e]at hp;simp at hp
   ·rw[e]at hp;simp only[Ja]at hp;rw[hp];exact⟨_,_,rfl⟩
 ·simp only[Ja]at hp;rw[hp];exact⟨_,_,rfl⟩
end Go.AE.Y
namespace Go.AE.Y
attribute [local go_sem] cond_true cond_false Bool.not_true Bool.not_false
attribute [local instance] Classical.propDecidable
open Go.Proofs.Tryz
variable {H H0:Heap}{K:V→Heap→Prop}{E B Lg:List (Nat×Obj)}{q:CodeD}
theorem Qbc2 {S:Nat→Bool}(q:CodeD):FrzV H S (.ag q.cells) (.ag q.cells):=FrzL.ag (.cons (.same _ rfl) (.cons (.same _ rfl) (.cons (.same _ rfl) .nil)))
structure CodeD.sgl (q:CodeD):Prop where
 ok:q.ok
 p0:0≤q.params
 pr:q.params≤q.regs
 h9:∀y∈q.blocks,y.ins.length≤900∧y.phis.length≤900
def oneU:List CodeD:=[⟨0,1,[⟨[],[⟨1,0,[],0⟩],3,0,[]⟩]⟩]
end Go.AE.Y
