/- Part 5 of the proof: the engine, codes, walks and plain laws, each named where it stands. -/
import Derived.Test.YtlfdcfggpccakaaGreatDoorZD
import Derived.Defers
import Derived.Laws.Pointers
import Derived.Recover
import Derived.WalkLawsBesides
import Derived.WalkSmall
open Nat (reduceEqDiff reduceAdd reduceLeDiff reduceLT)
set_option linter.unusedVariables false
set_option linter.unusedSimpArgs false
set_option maxRecDepth 4000
open Bool renaming and_eq_true->Jk,false_eq_true->Jal,not_eq_true'->Jbc
open Int renaming toNat_natCast->Jav,natCast_nonneg->Ja8
open List renaming getD_eq_getElem?_getD->Ja,mem_singleton->Jb,length_map->Jc,take_of_length_le->Jd,getElem_mem->Je,take_succ_eq_append_getElem->Jf,getElem?_eq_getElem->Jg,length_set->Ji,getElem?_eq_none->Jj,mem_append_right->Jl,perm_append_comm->Jm,mem_map->Jo,length_nil->Jp,mem_cons_of_mem->Jq,length_cons->Jr,length_take->Js,idxOf_lt_length_of_mem->Jt,mem_append_left->Ju,map_append->Jv,mem_range->Jw,map_congr_left->Jx,getElem?_map->Jy,mem_append->Jz,mem_cons_self->J0,getElem_map->J1,getD_cons_succ->J2,getD_cons_zero->J3,mem_or_eq_of_mem_set->J4,getElem_set->J5,contains_iff_mem->J6,length_append->J7,drop_eq_getElem_cons->J8,eq_of_mem_replicate->J9,all_eq_true->Jab,drop_eq_nil_of_le->Jac,map_map->Jad,mem_filter->Jae,forall_mem_cons->Jaf,mem_iff_getElem->Jag,ext_getElem->Jah,mem_flatMap->Jai,take_length->Jaj,map_cons->Jam,flatMap_cons->Jao,eraseIdx_set_eq->Jaq,append_nil->Jar,flatMap_append->Jas,getElem_range->Jat,getElem?_eq_some_iff->Jau,append_assoc->Jaw,pairwise_map->Jax,nodup_range->Jaz,not_mem_nil->Ja0,foldl_cons->Ja1,getElem_set_self->Ja2,length_replicate->Ja3,map_set->Ja4,set_append_right->Ja5,mem_of_getElem?->Ja6,filter_sublist->Ja7,set_cons_zero->Jba,getElem?_set->Jbd,length_range->Jbe,nodup_append->Jbf,cons_append->Jbg,length_drop->Jbh,mem_cons->Jbi,sum_cons->Jbj,map_nil->Jbl,map_id->Jbn
open List.Nodup renaming sublist->Ja9
open Nat renaming zero_add->Jh,le_refl->Jn,sub_self->Jap,lt_irrefl->Jbk,sub_zero->Jbm,zero_le->Jbo
open Option renaming map_some->Jaa,getD_some->Jak
open Option.some renaming inj->Jan,injEq->Jay
open Prod.mk renaming injEq->Jbb
namespace Go.AE
variable {H0 H H':Heap}{E L B Lg:List (Nat×Obj)}{S:Nat→Bool}
theorem Kn.freeze0 (kn:Kn H0 H E (B++Lg)):∃S:Nat→Bool,(∀p∈Lg,H p.1=p.2∧S p.1=true)∧(∀p∈B,H p.1=p.2∧S p.1=false)∧FrzH H S (H.frz S)∧Kn H0 (H.frz S) E B:=by
 have hd:=kn.dL;rw[Jv]at hd;obtain⟨d1,d2,d3⟩:=Jbf.1 hd;have keyB:∀m,m∉Lg.map Prod.fst→(Lg.map Prod.fst).contains m=false:=fun m hm=>by
  cases hc:(Lg.map Prod.fst).contains m with
  |false=>rfl
  |true=>exact absurd (J6.1 hc) hm
 have key:∀m,m∉Lg.map Prod.fst→(H.frz fun m=>(Lg.map Prod.fst).contains m) m=H m:=fun m hm=>by
  simp only[Heap.frz,keyB m hm];rfl
 have hB:∀p∈B,p.1∉Lg.map Prod.fst:=fun p hp hh=>d3 _ (Qbq hp) _ hh rfl;refine⟨fun m=>(Lg.map Prod.fst).contains m,fun p hp=>⟨(kn.get p (Jl _ (Jl _ hp))).1,J6.2 (Qbq hp)⟩,
  fun p hp=>⟨(kn.get p (Jl _ (Ju _ hp))).1,keyB _ (hB p hp)⟩,Qd5 _ _,?_⟩
 refine⟨fun p hp=>?_,kn.ext,fun p hp=>kn.loc p (Ju _ hp),kn.dE,d1,fun m hm hx=>?_⟩
 ·have hg:H p.1=p.2∧p.2≠.none:=kn.get p (by
   rcases Jz.1 hp with h|h
   ·exact Ju _ h
   ·exact Jl _ (Ju _ h))
  refine⟨?_,hg.2⟩;rw[key p.1 (fun hh=>?_)];exact hg.1;rcases Jz.1 hp with h|h
  ·obtain⟨r,hr,he⟩:=Jo.1 hh;exact kn.ext p h (he▸kn.loc r (Jl _ hr))
  ·exact hB p h hh
 ·rw[key m (fun hh=>?_)]
  ·exact kn.chg m hm hx
  ·obtain⟨r,hr,he⟩:=Jo.1 hh;exact hm (he▸kn.loc r (Jl _ hr))
theorem Q3j {e e':Env}(h:∀p∈e',FrzV H S (lk p.1 e) p.2):∀t,FrzV H S (lk t e) (lk t e'):=fun t=>by
 induction e' with
 |nil=>exact .unk _
 |cons p e' ih=>
  obtain⟨s,v⟩:=p;by_cases ht:t=s
  ·subst ht;have:=h (t,v) J0;simpa[lk]using this
  ·have:=ih fun p hp=>h p (Jq _ hp);simpa[lk,ht]using this
theorem FrzO.vecR {sz:Nat}{rows rows':List (List C)}(h:Y.FrzR H S rows rows')(hn:∀r∈rows,noOw r=true):FrzO H S (.vec sz rows) (.vec sz rows'):=by
 refine .vec sz rows rows' h.spec.1 (fun i r r' h1 h2=>(h.spec.2 i r r' h1 h2).spec.1) fun i r r' j c c' h1 h2 h3 h4=>.inr ⟨?_,(h.spec.2 i r r' h1 h2).spec.2 j c c' h3 h4⟩;exact Y.noOw_mem hn r (Ja6 h1) c (Ja6 h3)
end Go.AE
namespace Go.AE.Y
variable {H H0:Heap}{E L R B Lg:List (Nat×Obj)}{S:Nat→Bool}
theorem Qvz {α:Type}{f g:α→List C}:∀(l:List α),(∀x∈l,FrzL H S (f x) (g x))→FrzR H S (l.map f) (l.map g)
 |[],_=>.nil
 |x::l,h=>.cons (h x J0) (Qvz l fun y hy=>h y (Jq _ hy))
theorem Qbil {is:List OIns}(h:Held H S (is.flatMap OIns.lg)):FrzR H S (is.map OIns.row) (Qaw (is.map OIns.d)):=by
 rw[Qaw,Jad];exact Qvz is fun x hx=>x.frz (h.m hx)
theorem Qbez {ph:List OPhi}(ho:∀p∈ph,p.ok)(h:Held H S (ph.flatMap OPhi.lg)):FrzR H S (ph.map OPhi.row) (Q2 (ph.map OPhi.d)):=by
 rw[Q2,Jad];exact Qvz ph fun x hx=>x.frz (ho x hx) (h.m hx)
theorem OBlk.gh {o:OBlk}(hok:o.ok){x8:Nat}(kn:Kn H0 H E ([(x8,.st o.row)]++(R++o.lg))) :
  ∃S H3 pl,FrzH H S H3∧Gr pl 2 (Q2 o.d.phis) o.pc∧Kn H0 H3 E ([(x8,.st (kRow o.d o.pc))]++(R++pl)):=by
 have kn:Kn H0 H E (([(x8,.st o.row)]++(o.pl++R))++(o.nx.lg++(o.phis.flatMap OPhi.lg++(o.ins.flatMap OIns.lg++o.il)))):=kn.perm (Qj fun f hf h0 hc hp=>by
  simp only[hf,OBlk.lg];omega)
 obtain⟨S,hS,hB,hfz,kn⟩:=kn.freeze0;have hHd:Held H S (o.nx.lg++(o.phis.flatMap OPhi.lg++(o.ins.flatMap OIns.lg++o.il))):=hS;have hic:=Gr.frzM hok.i hHd.r.r.r (Qbil hHd.r.r.l);have hph:=Qbez hok.a hHd.r.l;have hnx:=o.nx.frz hHd.l;have hx8:=hB (x8,.st o.row) (by simp);have f1:FrzH H S ((H.frz S).set x8 (.st (kRow o.d o.pc))):=hfz.set hx8.2 (by
  rw[hx8.1];exact FrzKL.st (.same (.cons hok.i.isOw hic (.same (.same (.cons rfl hnx .nil))))))
 have kn:=kn.setL (o':=.st (kRow o.d o.pc)) 0 rfl (by simp);have kn:Kn H0 ((H.frz S).set x8 (.st (kRow o.d o.pc))) E ([(x8,.st (kRow o.d o.pc))]++(o.pl++R)):=kn;rcases hok.p with ⟨h1,h2,h3⟩|⟨z,h1,h2⟩
 ·have hph0:o.phis=[]:=List.map_eq_nil_iff.1 h2;refine⟨S,_,[],f1,?_,by rw[h3]at kn;simpa using kn⟩;rw[h1];simp only[OBlk.d,hph0,Jbl];exact .nil 2
 ·rw[h2]at kn;have hz:=hB (z,.vec 2 (o.phis.map OPhi.row)) (by rw[h2];simp);have hno:∀r∈o.phis.map OPhi.row,Go.AE.noOw r=true:=fun r hr=>by
   obtain⟨p,hp,rfl⟩:=Jo.1 hr;exact p.noOw (hok.a p hp)
  refine⟨S,_,[(z,.vec 2 (Q2 o.d.phis))],f1.set (o:=.vec 2 (Q2 o.d.phis)) hz.2 (by rw[hz.1];exact .vecR hph hno),?_,?_⟩
  ·rw[h1];exact .mk _ _ _ (by simp[OBlk.d,Qy])
  ·have kn:=kn.setL (o':=.vec 2 (Q2 o.d.phis)) 1 rfl (by simp);exact kn.perm (Qj fun f hf h0 hc hp=>by
    show f ([(x8,_)]++([(z,_)]++R))=_;simp only[hf];omega)
def Q4 (q:CodeD)(b:Nat):BlkD:=q.blocks.getD b ⟨[],[],0,0,[]⟩
theorem Qap {q:CodeD}{b:Nat}(h:b<q.blocks.length):Q4 q b=q.blocks[b]:=by simp[Q4,Ja,h]
theorem Q41 {q:CodeD}{b:Nat}(h:b<q.blocks.length):gnx q b=(Q4 q b).next:=by rw[Qap h,Qxh h]
structure Pk (q:CodeD)(l:List Nat):Prop where
 n:l.length≤160
 z:l[0]? = some 0
 lt:∀x∈l,x<q.blocks.length
 cl:∀x∈l,∀v∈gnx q x,v.toNat∈l
def pkY (q:CodeD)(P:List Int)(b:Nat):BlkD:=⟨(Q4 q b).phis,(Q4 q b).ins,(Q4 q b).jump,(Q4 q b).on,(Q4 q b).next.map fun v=>P.getD v.toNat 0⟩
def pkN (q:CodeD)(P:List Int)(l:List Nat):Nat→List Int:=fun i=>(l.map fun b=>(pkY q P b).next).getD i []
structure PkB (q:CodeD)(P:List Int)(b:Nat)(y:BlkD):Prop where
 j:y.jump=(Q4 q b).jump
 o:y.on=(Q4 q b).on
 i:y.ins=(Q4 q b).ins
 n:y.next=(pkY q P b).next
 t:y.phis.map PhiD.to=(Q4 q b).phis.map PhiD.to
def PkA (q:CodeD)(P:List Int)(l:List Nat)(j:Nat)(p:PhiD):Prop:=p.args.length=(Q0 (pkN q P l) (j:Int) l.length).length∧∀v∈p.args,rIn q v
structure PkR (q d:CodeD):Prop where
 ok:d.ok
 p:d.params=q.params
 r:d.regs=q.regs
 i:∀y∈d.blocks,∃y0∈q.blocks,y.ins=y0.ins∧y.phis.length=y0.phis.length
variable {q:CodeD}{P:List Int}{l:List Nat}
theorem Pk.get (hp:Pk q l){j:Nat}(hj:j<l.length):l.getD j 0=l[j]∧l[j]∈l∧l[j]<q.blocks.length:=
 ⟨by simp[Ja,hj],Je hj,hp.lt _ (Je hj)⟩
theorem Pk.to (ho:q.ok)(hp:Pk q l)(hP:Q24 q.blocks.length l P){b:Nat}(hb:b∈l){w:Int}(hw:w∈(Q4 q b).next):1≤w∧w.toNat<P.length∧∃i,∃h:i<l.length,l[i]=w.toNat∧P.getD w.toNat 0=(i:Int)∧1≤i:=by
 have hlt:=hp.lt b hb;have h1:1≤w∧w<q.blocks.length:=by
  rw[Qap hlt]at hw;exact (ho.bs b hlt).nx w hw
 have h2:=hp.cl b hb w (by rw[Q41 hlt];exact hw);obtain⟨i,hi,h3,h4⟩:=hP.2 _ h2;refine⟨h1.1,by rw[hP.1];exact hp.lt _ h2,i,hi,h3,h4,?_⟩;have hz:=hp.z;by_cases h0:i=0
 ·subst h0;rw[Jg hi,h3]at hz;have:=Jan hz;omega
 ·omega
theorem Qxk {j:Nat}(hj:j<l.length):pkN q P l j=(pkY q P l[j]).next:=by simp[pkN,Ja,hj]
theorem Pk.preds (ho:q.ok)(hp:Pk q l)(hP:Q24 q.blocks.length l P){j:Nat}(hj:j<l.length){m:Int}(hm:m∈Q0 (pkN q P l) (j:Int) l.length) :
  ∃j',∃h:j'<l.length,m=(j':Int)∧((l[j']:Nat):Int)∈Q0 (gnx q) ((l[j]:Nat):Int) q.blocks.length:=by
 simp only[Q0,Jo,Jae,Jw]at hm;obtain⟨j',⟨h1,h2⟩,rfl⟩:=hm;refine⟨j',h1,rfl,?_⟩;have h3:=J6.1 h2;rw[Qxk h1]at h3;obtain⟨w,hw,h4⟩:=Jo.1 h3;obtain⟨g1,g2⟩:=(hp.get h1).2;obtain⟨w1,_,i,hi,h5,h6,_⟩:=hp.to ho hP g1 hw;have hij:i=j:=by omega
 subst hij;simp only[Q0,Jo,Jae,Jw];refine⟨l[j'],⟨g2,J6.2 ?_⟩,rfl⟩;rw[Q41 g2,h5];have e:((w.toNat:Nat):Int)=w:=by omega
 rw[e];exact hw
theorem CodeD.ok.sg (h:q.ok):q.sg:=⟨by have:=h.b1;omega,fun y hy=>by
 obtain⟨b,hb,rfl⟩:=Jag.1 hy;have h1:=h.il b hb;have h2:=h.bs b hb;have h3:=h2.nxl;have h4:=h.b1;refine⟨by omega,by omega,by omega,fun x hx=>by have:=h2.al x hx;omega,fun x hx=>?_⟩;have:=h2.pal x hx;have h5:=Qb5 (gnx q) (b:Int) q.blocks.length;omega⟩
theorem Qbqq (ho:q.ok)(hp:Pk q l)(hP:Q24 q.blocks.length l P){d:CodeD}(h1:d.params=q.params)(h2:d.regs=q.regs)(hl:d.blocks.length=l.length)
  (hb:∀j (h:j<d.blocks.length),PkB q P (l.getD j 0) d.blocks[j]∧∀p∈d.blocks[j].phis,PkA q P l j p):PkR q d:=by
 have hg:gnx d=pkN q P l:=by
  funext i
  by_cases hi:i<l.length
  ·have hi':i<d.blocks.length:=by omega
   rw[Qxk hi,Qxh hi',(hb i hi').1.n,(hp.get hi).1]
  ·have hi':¬i<d.blocks.length:=by omega
   rw[gnx,pkN,Ja,Ja,Jj (by simpa using hi'),Jj (by simpa using hi)]
 have hr:∀v,rIn q v→rIn d v:=fun v hv=>by simp only[rIn,h2]at hv⊢;exact hv
 have hl0:0<l.length:=by
  have:=hp.z
  cases l with
  |nil=>simp at this
  |cons=>simp
 have hn:=hp.n;refine⟨⟨by rw[h2];exact ho.r0,by rw[h2];exact ho.r1,by omega,by omega,fun b h=>?_,fun b h=>?_⟩,h1,h2,fun y hy=>?_⟩
 ·have hbl:b<l.length:=by omega
  obtain⟨g,ga⟩:=hb b h;obtain⟨e1,e2,e3⟩:=hp.get hbl;rw[e1]at g;have o:=ho.bs _ e3;rw[←Qap e3]at o;have gt:∀p∈d.blocks[b].phis,rIn q p.to:=fun p hp'=>by
   have:p.to∈d.blocks[b].phis.map PhiD.to:=Jo.2 ⟨p,hp',rfl⟩;rw[g.t]at this;obtain⟨p0,hp0,he⟩:=Jo.1 this;rw[←he];exact o.pto p0 hp0
  refine⟨by rw[g.n];simpa[pkY]using o.nxl,fun v hv=>?_,by rw[g.j];exact o.jmp,fun hj=>by rw[g.j]at hj;rw[g.o];exact hr _ (o.on hj),fun x hx v hv=>?_,fun x hx hm=>?_,fun x hx=>hr _ (gt x hx),fun x hx v hv=>hr _ ((ga x hx).2 v hv),fun x hx=>?_,fun x hx=>?_⟩
  ·rw[g.n]at hv;obtain⟨w,hw,rfl⟩:=Jo.1 hv;obtain⟨_,_,i,hi,_,h6,h7⟩:=hp.to ho hP e2 hw;rw[h6];omega
  ·rw[g.i]at hx;exact hr _ (o.args x hx v hv)
  ·rw[g.i]at hx;exact hr _ (o.to x hx hm)
  ·rw[(ga x hx).1,hg,hl]
  ·rw[g.i]at hx;exact o.al x hx
 ·have hbl:b<l.length:=by omega
  obtain⟨g,ga⟩:=hb b h;obtain⟨e1,e2,e3⟩:=hp.get hbl;rw[e1]at g;have gi:=g.i;have h3:=congrArg List.length g.t;rw[Qap e3]at gi h3;have:=ho.il _ e3;simp only[Jc]at h3;rw[gi];omega
 ·obtain⟨b,h,rfl⟩:=Jag.1 hy;have hbl:b<l.length:=by omega
  obtain⟨g,ga⟩:=hb b h;obtain⟨e1,e2,e3⟩:=hp.get hbl;rw[e1]at g;have gi:=g.i;have h3:=congrArg List.length g.t;rw[Qap e3]at gi h3;simp only[Jc]at h3;exact⟨_,Je e3,gi,h3⟩
theorem Qbjx {α:Type}{f:α→α}{l:List α}{k:Nat}(hk:k<l.length):((l.take k).map f++l.drop k).set k (f l[k])=(l.take (k+1)).map f++l.drop (k+1):=by
 have h1:((l.take k).map f).length=k:=by simp;omega
 rw[Ja5 _ _ (by omega),h1,Jap,J8 hk,Jba,Jf hk,Jv];simp
end Go.AE.Y
namespace Go.AE.Y
structure Fr where
 k:Nat
 b:Nat
 todo:List InsD
 regs:List Int
inductive Cf where
 |go (fs:List Fr) (s c:List Int)
 |dn (e v:Int) (s c:List Int)
def Qx (cs:List CodeD)(k:Nat):CodeD:=cs.getD k ⟨0,0,[]⟩
def rg (R:List Int)(r:Int):Int:=R.getD r.toNat 0
def ar (R:List Int)(x:InsD)(i:Nat):Int:=rg R (x.args.getD i 0)
def trI (b:Prop) [Decidable b]:Int:=if b then 1 else 0
def arR (op a b:Int):Option Int:=
 if op=3 then some ((a+b) % 256)else if op=4 then some ((a-b+256) % 256)else if op=5 then some (a * b % 256)
 else if op=6 then (if b=0 then none else some (a / b))else if op=7 then (if b=0 then none else some (a % b))
 else if op=8 then some (trI (a<b))else if op=9 then some (trI (a=b))else some (trI (a=0))
def Qacf (q:CodeD)(l:List Int):List Int:=l++List.replicate (q.regs.toNat-l.length) 0
def fr0 (cs:List CodeD)(k:Nat)(l:List Int):Fr:=⟨k,0,(Q4 (Qx cs k) 0).ins,Qacf (Qx cs k) l⟩
def wayI (q:CodeD)(b a:Nat):Nat:=(Q0 (gnx q) (b:Int) q.blocks.length).idxOf (a:Int)
def Q20 (R:List Int)(w:Nat)(p:PhiD):Int:=rg R (p.args.getD w 0)
def phiR (R:List Int)(w:Nat)(l:List PhiD):List Int:=l.foldl (fun T p=>T.set p.to.toNat (Q20 R w p)) R
def ixB (y:BlkD)(R:List Int):Nat:=if y.jump=2∧rg R y.on=0 then 1 else 0
def nxB (y:BlkD)(R:List Int):Nat:=(y.next.getD (ixB y R) 0).toNat
def rtn (v:Int):List Fr→List Int→List Int→Cf
 |[],s,c=>.dn 0 v s c
 |f::fs,s,c=>match f.todo with
  |[]=>.go (f::fs) s c
  |x::t=>.go (⟨f.k,f.b,t,f.regs.set x.to.toNat v⟩::fs) s c
def stI (cs:List CodeD)(k b:Nat)(x:InsD)(t:List InsD)(R:List Int)(fs:List Fr)(s c:List Int):Cf:=
 let w:=fun v=>Cf.go (⟨k,b,t,R.set x.to.toNat v⟩::fs) s c
 if x.op=1 then w x.n
 else if x.op=11 then (if 16≤ar R x 0 then .dn 2 0 s c else w (rg c (ar R x 0)))
 else if x.op=12 then (if 16≤ar R x 0 then .dn 2 0 s c else .go (⟨k,b,t,R⟩::fs) s (c.set (ar R x 0).toNat (ar R x 1)))
 else if x.op=13 then .go (⟨k,b,t,R⟩::fs) (s++[ar R x 0]) c
 else if x.op=14 then .go (fr0 cs x.n.toNat (x.args.map (rg R))::⟨k,b,x::t,R⟩::fs) s c
 else if x.op=2 then w (ar R x 0)
 else match arR x.op (ar R x 0) (ar R x 1)with
  |none=>.dn 1 0 s c
  |some v=>w v
def frJ (cs:List CodeD)(k b:Nat)(R:List Int)(n:Nat):Fr:=
 ⟨k,n,(Q4 (Qx cs k) n).ins,phiR R (wayI (Qx cs k) n b) (Q4 (Qx cs k) n).phis⟩
def stJ (cs:List CodeD)(k b:Nat)(R:List Int)(fs:List Fr)(s c:List Int):Cf:=
 let y:=Q4 (Qx cs k) b
 if y.jump=3 then rtn (rg R y.on) fs s c else .go (frJ cs k b R (nxB y R)::fs) s c
def step (cs:List CodeD):Cf→Cf
 |.go (⟨k,b,x::t,R⟩::fs) s c=>stI cs k b x t R fs s c
 |.go (⟨k,b,[],R⟩::fs) s c=>stJ cs k b R fs s c
 |.go [] s c=>.go [] s c
 |.dn e v s c=>.dn e v s c
def Qqq (cs:List CodeD):Nat→Cf→Cf
 |0,x=>x
 |n+1,x=>Qqq cs n (step cs x)
theorem Ql8 (cs:List CodeD):∀(n m:Nat) (x:Cf),Qqq cs (n+m) x=Qqq cs m (Qqq cs n x)
 |0,m,x=>by rw[Jh];rfl
 |n+1,m,x=>by rw[Nat.add_right_comm];exact Ql8 cs n m (step cs x)
theorem Qa71 (cs:List CodeD)(e v:Int)(s c:List Int):∀n,Qqq cs n (.dn e v s c)=.dn e v s c
 |0=>rfl
 |n+1=>Qa71 cs e v s c n
theorem Qasq (cs:List CodeD){n m:Nat}{x:Cf}{e v:Int}{s c:List Int}(h:Qqq cs n x=.dn e v s c)(hm:n≤m):Qqq cs m x=.dn e v s c:=by
 obtain⟨d,rfl⟩:=Nat.exists_eq_add_of_le hm;rw[Ql8,h,Qa71]
def Qa6p:List Int:=List.replicate 16 0
def cf0 (cs:List CodeD)(l:List Int):Cf:=.go [fr0 cs (cs.length-1) l] [] Qa6p
def outR (cs:List CodeD)(l:List Int)(S:Nat):Int×Int×List Int×List Int:=match Qqq cs S (cf0 cs l)with
 |.dn e v s c=>(e,v,s,c)
 |.go _ s c=>(3,0,s,c)
def Qazy (cs cs':List CodeD)(l:List Int)(S:Nat):Prop:=(outR cs l S).1=3∨outR cs l S=outR cs' l 60000
theorem sim {cs cs':List CodeD}{R:Cf→Cf→Prop}{B:Nat}(hs:∀x x',R x x'→∃m,m≤B∧R (step cs x) (Qqq cs' m x'))
  : ∀(n:Nat) {x x':Cf},R x x'→∃m,m≤n * B∧R (Qqq cs n x) (Qqq cs' m x')
 |0,x,x',h=>⟨0,by omega,h⟩
 |n+1,x,x',h=>by
  obtain⟨m,h1,h2⟩:=hs x x' h;obtain⟨m2,h3,h4⟩:=sim hs n h2;refine⟨m+m2,by rw[Nat.add_mul];omega,?_⟩;rw[Ql8 cs' m m2];exact h4
theorem Qbou {cs cs':List CodeD}{R:Cf→Cf→Prop}{B S:Nat}{l:List Int}(hs:∀x x',R x x'→∃m,m≤B∧R (step cs x) (Qqq cs' m x'))
  (hd:∀e v s c x',R (.dn e v s c) x'→x'=.dn e v s c) (hB:S * B≤60000) (h0:R (cf0 cs l) (cf0 cs' l)):Qazy cs cs' l S:=by
 obtain⟨m,h1,h2⟩:=sim hs S h0;rw[Qazy]
 cases hx:Qqq cs S (cf0 cs l)with
 |go fs s c=>exact .inl (by rw[outR,hx])
 |dn e v s c=>
  right;rw[hx]at h2;have:=Qasq cs' (hd _ _ _ _ _ h2) (Nat.le_trans h1 hB);rw[outR,outR,hx,this]
structure Fr.ok (cs:List CodeD)(f:Fr):Prop where
 k:f.k<cs.length
 b:f.b<(Qx cs f.k).blocks.length
 t:∃p,(Q4 (Qx cs f.k) f.b).ins=p++f.todo
 r:f.regs.length=(Qx cs f.k).regs.toNat
theorem Qcl {cs:List CodeD}{k:Nat}(h:k<cs.length):Qx cs k=cs[k]:=by simp[Qx,Ja,h]
theorem Qa70 {v:PhiD→Int}:∀(l:List PhiD) (T:List Int),(l.foldl (fun T p=>T.set p.to.toNat (v p)) T).length=T.length
 |[],T=>rfl
 |p::l,T=>by rw[Ja1,Qa70 l,Ji]
theorem Qbj8 {R:List Int}{w w':Nat}{g:PhiD→PhiD}:∀{l:List PhiD},(∀p∈l,(g p).to=p.to∧Q20 R w' (g p)=Q20 R w p)→phiR R w' (l.map g)=phiR R w l:=by
 intro l h;rw[phiR,phiR,List.foldl_map];have:∀(l:List PhiD) (T:List Int),(∀p∈l,(g p).to=p.to∧Q20 R w' (g p)=Q20 R w p)→l.foldl (fun T p=>T.set (g p).to.toNat (Q20 R w' (g p))) T=l.foldl (fun T p=>T.set p.to.toNat (Q20 R w p)) T:=by
  intro l
  induction l with
  |nil=>intro T _;rfl
  |cons p l ih=>
   intro T h;obtain⟨h1,h2⟩:=h p (by simp);rw[Ja1,Ja1,h1,h2];exact ih _ fun p hp=>h p (by simp[hp])
 exact this l R h
inductive RelF (RF:Fr→Fr→Prop):List Fr→List Fr→Prop where
 |nil:RelF RF [] []
 |cons {f f':Fr} {fs fs':List Fr}:RF f f'∧f.todo≠[]→RelF RF fs fs'→RelF RF (f::fs) (f'::fs')
inductive RelC (RF:Fr→Fr→Prop):Cf→Cf→Prop where
 |dn (e v:Int) (s c:List Int):RelC RF (.dn e v s c) (.dn e v s c)
 |go {f f':Fr} {fs fs':List Fr} (s c:List Int):RF f f'→RelF RF fs fs'→RelC RF (.go (f::fs) s c) (.go (f'::fs') s c)
structure InsS (cs cs':List CodeD)(RF:Fr→Fr→Prop)(x x':InsD):Prop where
 op:x'.op=x.op
 to:x'.to=x.to
 args:x'.args=x.args
 n:x.op=1→x'.n=x.n
 call:x.op=14→∀l,l.length=x.args.length→RF (fr0 cs x.n.toNat l) (fr0 cs' x'.n.toNat l)
structure SimR (cs cs':List CodeD)(RF:Fr→Fr→Prop)(B:Nat):Prop where
 b:1≤B
 ins:∀k b x t R f',RF ⟨k,b,x::t,R⟩ f'→∃k' b' x' t',f'=⟨k',b',x'::t',R⟩∧InsS cs cs' RF x x'∧∀R',R'.length=R.length→RF ⟨k,b,t,R'⟩ ⟨k',b',t',R'⟩
 jump:∀k b R f' fs fs' s c,RF ⟨k,b,[],R⟩ f'→RelF RF fs fs'→∃m,m≤B∧RelC RF (stJ cs k b R fs s c) (Qqq cs' m (.go (f'::fs') s c))
theorem SimR.rtnF {RF:Fr→Fr→Prop}{v:Int}{fs fs':List Fr}{s c:List Int}(hf:RelF RF fs fs')
  (h:∀k b x t R f',RF ⟨k,b,x::t,R⟩ f'→∃k' b' x' t',f'=⟨k',b',x'::t',R⟩∧x'.to=x.to∧∀R',R'.length=R.length→RF ⟨k,b,t,R'⟩ ⟨k',b',t',R'⟩):RelC RF (rtn v fs s c) (rtn v fs' s c):=by
 cases hf with
 |nil=>exact .dn ..
 |cons h1 h2=>
  rename_i f f' fs fs'
  obtain⟨h1,h3⟩:=h1;obtain⟨k,b,t,R⟩:=f
  cases t with
  |nil=>exact absurd rfl h3
  |cons x t=>
   obtain⟨k',b',x',t',rfl,hx,hr⟩:=h _ _ _ _ _ _ h1;show RelC RF (.go (⟨k,b,t,R.set x.to.toNat v⟩::fs) s c) (.go (⟨k',b',t',R.set x'.to.toNat v⟩::fs') s c);rw[hx];exact .go s c (hr _ (by simp)) h2
theorem SimR.one {cs cs':List CodeD}{RF:Fr→Fr→Prop}{B:Nat}(h:SimR cs cs' RF B)(x x':Cf)(hx:RelC RF x x'):∃m,m≤B∧RelC RF (step cs x) (Qqq cs' m x'):=by
 cases hx with
 |dn e v s c=>exact⟨0,by omega,.dn ..⟩
 |go s c h1 h2=>
  rename_i f f' fs fs'
  obtain⟨k,b,t,R⟩:=f
  cases t with
  |nil=>exact h.jump _ _ _ _ _ _ _ _ h1 h2
  |cons x t=>
   obtain⟨k',b',x',t',rfl,hx,hr⟩:=h.ins _ _ _ _ _ _ h1;refine⟨1,h.b,?_⟩;show RelC RF (stI cs k b x t R fs s c) (stI cs' k' b' x' t' R fs' s c);have ha:∀i,ar R x' i=ar R x i:=fun i=>by rw[ar,ar,hx.args]
   rw[stI,stI];simp only[ha,hx.op,hx.to,hx.args];split
   ·rename_i h1'
    rw[hx.n h1'];exact .go s c (hr _ (by simp)) h2
   ·split
    ·split
     ·exact .dn ..
     ·exact .go s c (hr _ (by simp)) h2
    ·split
     ·split
      ·exact .dn ..
      ·exact .go _ _ (hr _ rfl) h2
     ·split
      ·exact .go _ _ (hr _ rfl) h2
      ·split
       ·rename_i h14
        exact .go s c (hx.call h14 _ (by simp)) (.cons ⟨h1,by simp⟩ h2)
       ·split
        ·exact .go s c (hr _ (by simp)) h2
        ·split
         ·exact .dn ..
         ·exact .go s c (hr _ (by simp)) h2
theorem SimR.same {cs cs':List CodeD}{RF:Fr→Fr→Prop}{B S:Nat}{l:List Int}(h:SimR cs cs' RF B)(hB:S * B≤60000)(h0:RF (fr0 cs (cs.length-1) l) (fr0 cs' (cs'.length-1) l)):Qazy cs cs' l S:=
 Qbou (R:=RelC RF) h.one (fun e v s c x' hx=>by cases hx;rfl) hB (.go _ _ h0 .nil)
theorem Qbg7 {cs:List CodeD}{k b:Nat}{R:List Int}{fs:List Fr}{s c:List Int}(h:¬(Q4 (Qx cs k) b).jump=3):stJ cs k b R fs s c=.go (frJ cs k b R (nxB (Q4 (Qx cs k) b) R)::fs) s c:=by rw[stJ];simp only[h,if_false]
theorem Qbg6 {cs:List CodeD}{k b:Nat}{R:List Int}{fs:List Fr}{s c:List Int}(h:(Q4 (Qx cs k) b).jump=3):stJ cs k b R fs s c=rtn (rg R (Q4 (Qx cs k) b).on) fs s c:=by rw[stJ];simp only[h,if_true]
theorem Qbfg {q:CodeD}{l:List Int}(h:l.length≤q.regs.toNat):(Qacf q l).length=q.regs.toNat:=by rw[Qacf];simp;omega
structure RunOk (cs:List CodeD):Prop where
 n:0<cs.length
 ok:∀k (h:k<cs.length),(Qx cs k).ok
 jn:∀k b,k<cs.length→b<(Qx cs k).blocks.length→((Q4 (Qx cs k) b).next.length:Int)=Qky (Q4 (Qx cs k) b).jump
 call:∀k b,k<cs.length→∀x∈(Q4 (Qx cs k) b).ins,x.op=14→x.n.toNat<k
 op:∀k b,k<cs.length→∀x∈(Q4 (Qx cs k) b).ins,1≤x.op∧x.op≤14∧(¬x.op=14→(x.args.length:Int)=Qhk x.op)
attribute [local instance] Classical.propDecidable in
theorem Qwa {cs:List CodeD}(h:Qas cs=true):RunOk cs:=by
 obtain⟨h1,h2,h3⟩:=of_decide_eq_true h;refine⟨by omega,fun k hk=>by rw[Qcl hk];exact Qge h hk,fun k b hk hb=>?_,fun k b hk x hx h14=>?_,fun k b hk x hx=>?_⟩
 ·rw[Qcl hk]at hb⊢;have g:=(h2 k hk).2 b hb;simp only[Q0k,Qmv,Jk,decide_eq_true_eq]at g;rw[Qap hb];exact g.1.1.1.1
 ·rw[Qcl hk]at hx;by_cases hb:b<cs[k].blocks.length
  ·rw[Qap hb]at hx;have g:=(h2 k hk).2 b hb;simp only[Q0k,Jk,Jab]at g;have:=g.1.2 x hx;simp only[Q42,insL,h14,if_true,Jk,decide_eq_true_eq]at this;omega
  ·simp[Q4,Ja,Jj (Nat.le_of_not_lt hb)]at hx
 ·rw[Qcl hk]at hx;by_cases hb:b<cs[k].blocks.length
  ·rw[Qap hb]at hx;have g:=(h2 k hk).2 b hb;simp only[Q0k,Jk,Jab]at g;have:=g.1.2 x hx;simp only[Q42,insH,insL,Jk,decide_eq_true_eq]at this;refine⟨this.1.1.1.1,this.1.1.1.2,fun h14=>?_⟩;have:=this.2;simp only[h14,if_false,Jk,decide_eq_true_eq]at this;exact this.1.1
  ·simp[Q4,Ja,Jj (Nat.le_of_not_lt hb)]at hx
theorem Qbqb {cs:List CodeD}(hr:RunOk cs){k b:Nat}(hk:k<cs.length)(hb:b<(Qx cs k).blocks.length)(hj:¬(Q4 (Qx cs k) b).jump=3)(R:List Int):ixB (Q4 (Qx cs k) b) R<(Q4 (Qx cs k) b).next.length:=by
 have h1:=hr.jn k b hk hb;have h2:=((hr.ok k hk).bs b hb).jmp;rw[←Qap hb]at h2;generalize Q4 (Qx cs k) b=y at *;rw[Qky]at h1;rcases h2 with h2|h2|h2
 ·simp only[h2,if_true]at h1;rw[ixB,if_neg (by omega)];omega
 ·rw[h2]at h1;simp at h1;rw[ixB];split <;> omega
 ·exact absurd h2 hj
theorem Qbet {cs:List CodeD}(hr:RunOk cs){k b:Nat}(hk:k<cs.length)(hb:b<(Qx cs k).blocks.length)(hj:¬(Q4 (Qx cs k) b).jump=3)(R:List Int) :
  ∃v∈(Q4 (Qx cs k) b).next,nxB (Q4 (Qx cs k) b) R=v.toNat∧(Q4 (Qx cs k) b).next[ixB (Q4 (Qx cs k) b) R]? = some v:=by
 have h:=Qbqb hr hk hb hj R;refine⟨_,Je h,?_,Jg h⟩;rw[nxB,Ja,Jg h];rfl
def Wt (RA:Fr→Fr→Prop)(f f':Fr):Prop:=∃k b x t R k' b' x' t' R',f=⟨k,b,x::t,R⟩∧f'=⟨k',b',x'::t',R'⟩∧∀v,RA ⟨k,b,t,R.set x.to.toNat v⟩ ⟨k',b',t',R'.set x'.to.toNat v⟩
inductive RelW (RA:Fr→Fr→Prop):List Fr→List Fr→Prop where
 |nil:RelW RA [] []
 |cons {f f':Fr} {fs fs':List Fr}:Wt RA f f'→RelW RA fs fs'→RelW RA (f::fs) (f'::fs')
inductive RelA (RA:Fr→Fr→Prop):Cf→Cf→Prop where
 |dn (e v:Int) (s c:List Int):RelA RA (.dn e v s c) (.dn e v s c)
 |go {f f':Fr} {fs fs':List Fr} (s c:List Int):RA f f'→RelW RA fs fs'→RelA RA (.go (f::fs) s c) (.go (f'::fs') s c)
def Agr (S:RS')(R R':List Int):Prop:=R'.length=R.length∧∀r,S r→R'.getD r 0=R.getD r 0
theorem Qaa8 {l:List Int}{i r:Nat}{v:Int}(h:¬r=i):(l.set i v).getD r 0=l.getD r 0:=by
 rw[Ja,Ja,List.getElem?_set_ne (by omega)]
theorem Qbdf {l l':List Int}(h:l'.length=l.length)(r:Nat)(v:Int):(l'.set r v).getD r 0=(l.set r v).getD r 0:=by
 rw[Ja,Ja,Jbd,Jbd,h];by_cases hr:r<l.length
 ·simp[hr]
 ·simp[hr]
theorem Agr.rg {S:RS'}{R R':List Int}(h:Agr S R R'){r:Int}(hr:S r.toNat):rg R' r=rg R r:=h.2 _ hr
theorem Agr.sub {S T:RS'}{R R':List Int}(h:Agr S R R')(hs:∀r,T r→S r):Agr T R R':=⟨h.1,fun r hr=>h.2 r (hs r hr)⟩
theorem Agr.set {S:RS'}{R R':List Int}{x:InsD}{a:List Nat}(h:Agr (Qbim (Qaue x,a) S) R R')(hm:Qh3 x.op=true)(v:Int):Agr S (R.set x.to.toNat v) (R'.set x.to.toNat v):=by
 refine⟨by simp[h.1],fun r hr=>?_⟩;by_cases he:r=x.to.toNat
 ·subst he;exact Qbdf h.1 _ v
 ·rw[Qaa8 he,Qaa8 he];exact h.2 r (.inr ⟨hr,by rw[Qaue,if_pos hm];intro hh;exact he (Jan hh).symm⟩)
theorem Agr.keep {S:RS'}{R R':List Int}{x:InsD}{a:List Nat}(h:Agr (Qbim (Qaue x,a) S) R R')(hm:Qh3 x.op=false):Agr S R R':=
 h.sub fun r hr=>.inr ⟨hr,by rw[Qaue,if_neg (by rw[hm];simp)];simp⟩
theorem Agr.left {S:RS'}{R R':List Int}{x:InsD}{a:List Nat}(h:Agr (Qbim (Qaue x,a) S) R R')(hm:Qh3 x.op=true)(hn:¬S x.to.toNat)(v:Int):Agr S (R.set x.to.toNat v) R':=by
 refine⟨by simp[h.1],fun r hr=>?_⟩;have he:¬r=x.to.toNat:=fun he=>hn (he▸hr);rw[Qaa8 he];exact h.2 r (.inr ⟨hr,by rw[Qaue,if_pos hm];intro hh;exact he (Jan hh).symm⟩)
end Go.AE.Y
namespace Go.AE.Y
variable {cs:List CodeD}{S u u' u2:Nat}{X Y Z:Cf}{e:Int}{s c:List Int}
def Goes (cs:List CodeD)(S u:Nat)(X:Cf)(u':Nat)(Y:Cf):Prop:=u≤u'∧u'≤S∧Qqq cs (u'-u) X=Y
def Halts (cs:List CodeD)(S u:Nat)(X:Cf)(e:Int)(s c:List Int):Prop:=
 u≤S∧((e=3∧∃fs,Qqq cs (S-u) X=.go fs s c)∨(¬e=3∧∃n,n≤S-u∧Qqq cs n X=.dn e 0 s c))
theorem Goes.refl (h:u≤S):Goes cs S u X u X:=⟨Jn _,h,by rw[Jap];rfl⟩
theorem Goes.trans (h:Goes cs S u X u' Y)(k:Goes cs S u' Y u2 Z):Goes cs S u X u2 Z:=by
 obtain⟨h1,h2,h3⟩:=h;obtain⟨k1,k2,k3⟩:=k;refine⟨by omega,k2,?_⟩;rw[show u2-u=(u'-u)+(u2-u')by omega,Ql8,h3,k3]
theorem Goes.halts (h:Goes cs S u X u' Y)(k:Halts cs S u' Y e s c):Halts cs S u X e s c:=by
 obtain⟨h1,h2,h3⟩:=h;obtain⟨k1,k2⟩:=k;refine⟨by omega,?_⟩;rcases k2 with ⟨k2,fs,k3⟩|⟨k2,n,k3,k4⟩
 ·exact .inl ⟨k2,fs,by rw[show S-u=(u'-u)+(S-u')by omega,Ql8,h3,k3]⟩
 ·exact .inr ⟨k2,(u'-u)+n,by omega,by rw[Ql8,h3,k4]⟩
theorem Goes.one (h:u<S)(hs:step cs X=Y):Goes cs S u X (u+1) Y:=⟨by omega,by omega,by
 rw[Nat.add_sub_cancel_left];exact hs⟩
theorem Halts.fuel {fs:List Fr}:Halts cs S S (.go fs s c) 3 s c:=⟨Jn _,.inl ⟨rfl,fs,by rw[Jap];rfl⟩⟩
theorem Halts.one (h:u<S)(he:¬e=3)(hs:step cs X=.dn e 0 s c):Halts cs S u X e s c:=⟨by omega,.inr ⟨he,1,by omega,hs⟩⟩
theorem Qbex {l:List Int}(h:Halts cs S 0 (cf0 cs l) e s c):outR cs l S=(e,0,s,c):=by
 obtain⟨_,⟨rfl,fs,h⟩|⟨_,n,h1,h2⟩⟩:=h
 ·rw[Jbm]at h;rw[outR,h]
 ·rw[outR,Qasq cs h2 (by omega)]
theorem Qbj5 {l:List Int}{v:Int}(h:Goes cs S 0 (cf0 cs l) u' (.dn 0 v s c)):outR cs l S=(0,v,s,c):=by
 obtain⟨_,h1,h2⟩:=h;rw[Jbm]at h2;rw[outR,Qasq cs h2 h1]
def byI (v:Int):Prop:=0≤v∧v≤255
def byL (l:List Int):Prop:=∀v∈l,byI v
theorem byL.get {l:List Int}(h:byL l)(i:Nat):byI (l.getD i 0):=by
 rw[Ja];by_cases hi:i<l.length
 ·rw[Jg hi];exact h _ (Je hi)
 ·rw[Jj (by omega)];exact⟨by simp,by simp⟩
theorem byL.rg {l:List Int}(h:byL l)(r:Int):byI (rg l r):=h.get _
theorem byL.set {l:List Int}(h:byL l){v:Int}(hv:byI v)(i:Nat):byL (l.set i v):=fun x hx=>by
 rcases J4 hx with hx|rfl
 ·exact h x hx
 ·exact hv
theorem byL.app {l:List Int}(h:byL l){v:Int}(hv:byI v):byL (l++[v]):=fun x hx=>by
 rcases Jz.1 hx with hx|hx
 ·exact h x hx
 ·rw[Jb]at hx;subst hx;exact hv
theorem Qbcy (b:Prop) [Decidable b]:byI (trI b):=by rw[trI];split <;> exact⟨by omega,by omega⟩
theorem Qbps {op a b v:Int}(ha:byI a)(hb:byI b)(h:arR op a b=some v):byI v:=by
 have hm:∀x:Int,byI (x % 256):=fun x=>⟨by omega,by omega⟩;rw[arR]at h;split at h
 ·cases h;exact hm _
 ·split at h
  ·cases h;exact hm _
  ·split at h
   ·cases h;exact hm _
   ·split at h
    ·split at h
     ·cases h
     ·cases h;obtain⟨a1,a2⟩:=ha;obtain⟨b1,b2⟩:=hb;exact⟨Int.ediv_nonneg a1 b1,Int.le_trans (Int.ediv_le_self _ a1) a2⟩
    ·split at h
     ·split at h
      ·cases h
      ·rename_i hb0
       cases h;obtain⟨b1,b2⟩:=hb;exact⟨Int.emod_nonneg _ hb0,by have:=Int.emod_lt_of_pos a (show 0<b by omega);omega⟩
     ·split at h
      ·cases h;exact Qbcy _
      ·split at h <;> (cases h;exact Qbcy _)
theorem Qbhx {q:CodeD}{l:List Int}(h:byL l):byL (Qacf q l):=fun x hx=>by
 rcases Jz.1 hx with hx|hx
 ·exact h x hx
 ·rw[J9 hx];exact⟨by omega,by omega⟩
end Go.AE.Y
namespace Go.AE.Y
open Go.Proofs.Tryz
def Qjk:List Item:=[oJ 5 4]
def Q30:SC:=cT 5 (sR [fI 2 (.mv (.k (.c (.sl true 1 []))))] [2] .ret) .skip
def Qjl:List Item:=[mJ 2 8]
def Qjm:List Item:=aJ 8 Qmg [.t 7]::Qjl
def Q31:SC:=sR (tJ 6 1 1::aJ 7 Qdi [.t 6]::Qjm) [2] .ret
def Q32:SC:=.seq (sR (tJ 3 1 1::aJ 4 Qbv [.t 3]::Qjk) [1,5] Q30) Q31
def Qacg:SC:=sR [vJ 1 0,fI 2 (.mv (.k (.c (.sl true 1 []))))] [1] Q32
def Qrg:List RS:=[.tmp 2]
theorem Qabh:mFn prog Qf7 1 9 Qacg Qrg=true:=by kernel_rfl
def Qn2:List Item:=[mJ 10 19]
def Qn3:List Item:=sJ 4 9 18::Qn2
def Qn4:List Item:=mJ 13 17::fI 18 (.ext (.t 13) 0)::fI 19 (.ext (.t 13) 1)::eI 9 (.alloc [.sl true 1 [],.int .i64 0,.int .i64 0,.sl true 1 []])::Qn3
def Qn5:List Item:=[mJ 12 25]
def Qn6:List Item:=sJ 4 11 24::Qn5
def Qn7:List Item:=mJ 20 23::fI 24 (.ext (.t 20) 0)::fI 25 (.ext (.t 20) 1)::eI 11 (.alloc [.sl true 1 [],.int .i64 0,.int .i64 0,.sl true 1 []])::Qn6
def Qdj:List Item:=[gT 38 30 (.pick (.t 34) (.k (.c (.bool true))) (.t 37)),pF 39 30 38,mJ 8 39]
def Qacn:SC:=sR (mJ 26 10::mJ 27 26::gTm 28 27 12::pF 29 27 28::mJ 30 29::gTf 31 30 1 9::gTl 32 30 31::gT 33 30 (.bin 0 .eql (.t 32) (kI 3))::gTm 34 30 33::gF 35 34 (.ld 4 true (.t 9))::gF 36 34 (.ld 4 true (.t 11))::.e (some 37) (some (34,false)) (.call Qew [.t 35,.t 36])::Qdj) [8] .ret
def Qaco:SC:=sR (tJ 21 1 5::mJ 22 2::aJ 23 Qgz [.t 21,.t 22,kI 60000]::Qn7) [9,10,11,12] Qacn
def Qacp:SC:=sR (tJ 14 1 4::mJ 15 2::mJ 16 3::aJ 17 Qgz [.t 14,.t 15,.t 16]::Qn4) [2,5,9,10] Qaco
def Qap1:SC:=sR [vJ 4 0,vJ 5 1,fB 8 false] [2,3,4,5] Qacp
def Qg6:List RS:=[.tmp 8]
theorem Qapc:mFn prog Qjv 4 40 Qap1 Qg6=true:=by kernel_rfl
def Q4b:SC:=sR [fJ 3 0 1,lJ 4 3,fJ 5 0 1,lJ 6 5,nJ 7 6,cJ 8 .sub 7 1,iJ 9 3 4 8,fJ 10 0 9,lJ 11 10,mJ 2 11] [2] .ret
def Qac0:SC:=sR [vJ 1 0,zJ 2 0] [1] Q4b
def Qrl:List RS:=[.tmp 2]
theorem Qabk:mFn prog Qdi 1 12 Qac0 Qrl=true:=by kernel_rfl
def Qrw:List Item:=[fB 7 false]
def Qrx:List Item:=[oJ 14 13]
def Qacm:List Item:=[fB 7 false]
def Qai8:SC:=cT 14 (sR (fI 15 (.bld [.sl true 1 [],.int .i64 0,.int .i64 0,.sl true 1 []] [])::sJ 4 6 15::Qacm) [6,7] .ret) .skip
def Qry:List Item:=[mJ 9 22]
def Qrz:List Item:=sJ 4 8 21::Qry
def Qr0:List Item:=mJ 16 20::fI 21 (.ext (.t 16) 0)::fI 22 (.ext (.t 16) 1)::eI 8 (.alloc [.sl true 1 [],.int .i64 0,.int .i64 0,.sl true 1 []])::Qrz
def Qr1:List Item:=[fB 7 true]
def Qai9:SC:=sR (tJ 23 4 8::sJ 4 6 23::Qr1) [6,7] .ret
def Qaja:SC:=sR (tJ 17 1 3::mJ 18 1::mJ 19 2::aJ 20 Qmf [.t 17,.t 18,.t 19]::Qr0) [6,8] Qai9
def Qacl:SC:=.seq (sR (tJ 10 1 3::mJ 11 1::mJ 12 2::aJ 13 Qjx [.t 10,.t 11,.t 12]::Qrx) [1,2,3,6,14] Qai8) Qaja
def Qau0:SC:=sR (vJ 3 0::eI 6 (.alloc [.sl true 1 [],.int .i64 0,.int .i64 0,.sl true 1 []])::Qrw) [1,2,3,6] Qacl
def Q49:List RS:=[.cell 6 4 true,.tmp 7]
theorem Qatt:mFn prog Qgz 3 24 Qau0 Q49=true:=by kernel_rfl
def Qib:List Item:=[pF 30 24 29,mJ 4 30]
def Qic:List Item:=mJ 10 9::gTf 11 10 1 2::gTl 12 10 11::gTf 13 10 1 3::gTl 14 10 13::gT 15 10 (.bin 0 .eql (.t 12) (.t 14))::pF 16 10 15::mJ 17 16::gTf 18 17 2 2::gTl 19 17 18::gTf 20 17 2 3::gTl 21 17 20::gT 22 17 (.bin 0 .eql (.t 19) (.t 21))::pF 23 17 22::mJ 24 23::gTf 25 24 3 2::gTl 26 24 25::gTf 27 24 3 3::gTl 28 24 27::.e (some 29) (some (24,true)) (.call Qmq [.t 26,.t 28])::Qib
def Q1l:SC:=sR (fJ 5 0 2::lJ 6 5::fJ 7 0 3::lJ 8 7::aJ 9 Qmq [.t 6,.t 8]::Qic) [4] .ret
def Q7z:SC:=sR [vJ 2 0,vJ 3 1,fB 4 false] [2,3] Q1l
def Qny:List RS:=[.tmp 4]
theorem Q7q:mFn prog Qew 2 31 Q7z Qny=true:=by kernel_rfl
def Qob:List Item:=[pF 18 15 17,mJ 6 18]
def Qoc:List Item:=pF 14 9 13::mJ 15 14::gTm 16 15 2::.e (some 17) (some (15,true)) (.call Qaq [.t 16,kI 0,kI 60000])::Qob
def Qod:List Item:=.e (some 13) (some (9,true)) (.call Qmc [.t 10,.t 12])::Qoc
def Qoe:List Item:=mJ 9 8::gTm 10 9 1::gT 11 9 (.ld 1 true (.t 3))::.e (some 12) (some (9,true)) (.call Qdi [.t 11])::Qod
def Qada:SC:=sR (tJ 7 1 3::aJ 8 Qbv [.t 7]::Qoe) [6] .ret
def Qaqy:SC:=sR [vJ 3 0,fB 6 false] [1,2,3] Qada
def Q08:List RS:=[.tmp 6]
theorem Qaph:mFn prog Qjx 3 19 Qaqy Q08=true:=by kernel_rfl
def Qs5:List Item:=[fI 7 (.mv (.k (.c .pnil)))]
def Qs6:List Item:=[sJ 1 8 13]
def Qs7:List Item:=eI 8 (.alloc [.pnil])::Qs6
def Qin:List Item:=[fJ 16 1 9,sJ 1 16 15]
def Qs8:List Item:=[fJ 27 3 9,sJ 1 27 25]
def Qs9:List Item:=hJ 17 8::hJ 20 19::sJ 1 26 20::Qs8
def Qta:List Item:=[hJ 29 8,mJ 7 29]
def Qak4:SC:=.seq (.dreg 4 [0,1,2,1,3] ( tJ 28 4 9::lJ 29 8::sJ 4 6 28::Qta) [6,7]) .ret
def Qak5:SC:=.seq (.seq .gh (.dreg 13 [0,1,2,3,4,5,6,7,9,8,0,3,10,11,12] ( lJ 17 8::kJ 18 17::fJ 19 3 18::lJ 20 19::lJ 21 8::kJ 22 21::fJ 23 4 22::fI 24 (.aslp 16 (.t 23) none)::fJ 26 0 9::aJ 25 Qco [.t 24]::Qs9) [6,8,9])) Qak4
def Qak6:SC:=sR (fI 14 (.mkf Qga [.t 8,.t 3,.t 4,.t 9])::aJ 15 Qqv [.t 14]::Qin) [6,8,9] Qak5
def Qac5:SC:=sR [eI 9 (.alloc [.sl true 1 [],.int .i64 0,.int .i64 0,.sl true 1 []])] [3,4,6,8,9] Qak6
def Qac6:SC:=sR (tJ 10 1 3::mJ 11 2::fI 12 (.bld [.sl true 3 [],.int .i64 0,.int .i64 0,.sl true 1 [],.int .i64 0,.int .i64 0,.int .i64 0,.int .i64 0,.int .i64 0,.int .i64 0,.int .i64 0,.int .i64 0,.int .i64 0,.int .i64 0,.int .i64 0,.int .i64 0,.int .i64 0,.int .i64 0,.int .i64 0,.int .i64 0,.sl true 1 []] [(0,1,.t 10),(1,1,.t 11)])::eI 13 (.boxm (.t 12))::Qs7) [3,4,6,8] Qac5
def Qavd:SC:=sR (vJ 3 0::vJ 4 1::eI 6 (.alloc [.sl true 1 [],.int .i64 0,.int .i64 0,.sl true 1 []])::Qs5) [2,3,4,6] Qac6
def Q5b:List RS:=[.cell 6 4 true,.tmp 7]
theorem Qaty:mFn prog Qmf 3 30 Qavd Q5b=true:=by kernel_rfl
def Qr2:List Item:=[gT 12 9 (.not (.t 11)),pF 13 9 12,mJ 4 13]
def Qajc:SC:=sR (mJ 5 0::nJ 6 5::mJ 7 1::bJ 8 .eql 6 7::mJ 9 8::gTm 10 9 0::.e (some 11) (some (9,true)) (.call Qa2 [.t 10,.k (.c (.fn Qf8 []))])::Qr2) [4] .ret
def Qau8:SC:=sR [fB 4 false] [0,1] Qajc
def Q5a:List RS:=[.tmp 4]
theorem Qatu:mFn prog Qmc 2 14 Qau8 Q5a=true:=by kernel_rfl
def Qjp:List Item:=[fJ 11 2 3,sJ 1 11 10]
def Qac7:SC:=.reg (lJ 4 0::fJ 5 0 1::lJ 6 5::nJ 7 6::cJ 8 .sub 7 1::lJ 9 2::aJ 10 Qch [.t 4,.t 8,.t 9,.k (.c (.bool true))]::Qjp) []
def Qrn:List RS:=[]
theorem Qabl:mFn prog Qga 4 12 Qac7 Qrn=true:=by kernel_rfl
def Qgj:List Item:=[sJ 3 9 27]
def Qgk:List Item:=[sJ 1 10 30]
def Qgl:List Item:=eI 10 (.alloc [.sl true 1 []])::Qgk
def Qgm:List Item:=[kJ 43 35,fJ 44 20 43,sJ 1 44 42]
def Qz0:SC:=cT 34 (.reg (mJ 35 0::mJ 36 0::kJ 37 36::fJ 38 20 37::lJ 39 38::mJ 40 11::fI 41 (.bsl 1 [.t 40])::xJ 42 1 39 41::Qgm) [0,3,9,10,11,12]) .skip
def Qgn:List Item:=[sJ 5 13 49]
def Qgo:List Item:=[sJ 1 14 62]
def Qgp:List Item:=eI 14 (.alloc [.int .i64 0])::Qgo
def Qgq:List Item:=mJ 61 12::aJ 62 Qmr [.t 60,.t 61]::Qgp
def Qgr:List Item:=[mJ 15 66]
def Qfq:List Item:=[mJ 16 72,sJ 2 17 74]
def Qwh:SC:=.dreg 9 [0,1,2,3,4,5,6,7,8] ( lJ 75 10::fJ 76 0 17::lJ 77 76::mJ 78 15::mJ 79 16::iJ 80 1 78 79::lJ 81 80::iJ 82 1 75 77::sJ 1 82 81::[]) [0,3,9,10,11,13,15,68,69,70]
def Qwi:SC:=.reg [cJ 83 .add 70 1,mJ 70 83] [0,3,9,10,11,13,15,68,69,70]
def Qwj:SC:=.seq (.block 3 (sR (mJ 72 70::iJ 73 2 68 70::tJ 74 2 73::eI 17 (.alloc [.int .i64 0,.sl true 1 []])::Qfq) [0,3,9,10,11,13,15,16,17,68,69,70] Qwh)) Qwi
def Qtb:SC:=sR [bJ 71 .lss 70 69] [0,3,9,10,11,13,15,68,69,70,71] (cX 71 2 Qwj)
def Qwk:SC:=sR [fJ 67 0 13,lJ 68 67,nJ 69 68,zJ 70 0] [0,3,9,10,11,13,15,68,69,70] (bL 2 Qtb)
def Qwl:SC:=sR (fJ 63 0 13::lJ 64 63::fI 65 (.mkf Qa9 [.t 10,.t 14])::aJ 66 Qc2 [.t 64,.t 65]::Qgr) [0,3,9,10,11,13,15] Qwk
def Qwm:SC:=cT 57 (sR (tJ 58 3 9::mJ 59 11::aJ 60 Qcu [.t 58,.t 59]::Qgq) [0,3,9,10,11,13,14] Qwl) .skip
def Qfr:List Item:=[sJ 4 19 90]
def Qwn:SC:=.reg [mJ 91 0,tJ 92 4 19,lJ 93 10,aJ 94 Qdl [.t 91,.t 92,.t 93]] [0,3,9,10,11,13,85,86,87]
def Qwo:SC:=.reg [cJ 95 .add 87 1,mJ 87 95] [0,3,9,10,11,13,85,86,87]
def Qwp:SC:=.seq (.block 5 (sR (iJ 89 4 85 87::tJ 90 4 89::eI 19 (.alloc [.int .i64 0,.int .i64 0,.sl true 1 [],.int .i64 0])::Qfr) [0,3,9,10,11,13,19,85,86,87] Qwn)) Qwo
def Qtc:SC:=sR [bJ 88 .lss 87 86] [0,3,9,10,11,13,85,86,87,88] (cX 88 4 Qwp)
def Qwq:SC:=cT 112 (.reg [fJ 124 4 13,lJ 125 124,fI 126 (.iad 1 (.t 125) (kI 1)),lJ 127 126,mJ 11 127] [0,3,9,10,11,12]) (.reg [fJ 99 4 13,lJ 100 99,fI 101 (.iad 1 (.t 100) (kI 0)),lJ 102 101,mJ 11 102] [0,3,9,10,11,12])
def Qwr:SC:=cT 103 (sR [lJ 107 10,fJ 108 3 13,lJ 109 108,iJ 110 1 107 109,lJ 111 110,mJ 8 111] [8] .ret) (sR [fJ 113 2 13,lJ 114 113,cJ 115 .eql 114 2,mJ 116 115,gTl 117 116 10,gTf 118 116 3 13,gTl 119 116 118,gT 120 116 (.iad 1 (.t 117) (.t 119)),gTl 121 116 120,gT 122 116 (.bin 0 .eql (.t 121) (kI 0)),pF 123 116 122,mJ 112 123] [0,3,9,10,12,13,112] Qwq)
def Qws:SC:=.block 6 (sR [fJ 104 2 13,lJ 105 104,cJ 106 .eql 105 3,mJ 103 106] [0,3,9,10,12,13,103] Qwr)
def Qwt:SC:=sR [mJ 98 11,mJ 12 98] [0,3,9,10,12,13] Qws
def Qwu:SC:=sR [mJ 96 0,aJ 97 Qci [.t 96]] [0,3,9,10,11,13] Qwt
def Qwv:SC:=.seq (sR [fJ 84 1 13,lJ 85 84,nJ 86 85,zJ 87 0] [0,3,9,10,11,13,85,86,87] (bL 4 Qtc)) Qwu
def Qww:SC:=.seq (sR [mJ 50 12,cJ 51 .geq 50 0,mJ 52 51,gTf 53 52 0 13,gTl 54 52 53,gT 55 52 (.len (.t 54)),gT 56 52 (.bin 0 .gtr (.t 55) (kI 0)),pF 57 52 56] [0,3,9,10,11,12,13,57] Qwm) Qwv
def Qwx:SC:=sR (fJ 45 2 9::lJ 46 45::mJ 47 11::iJ 48 5 46 47::tJ 49 5 48::eI 13 (.alloc [.sl true 2 [],.sl true 4 [],.int .i64 0,.int .i64 0,.sl true 1 []])::Qgn) [0,3,9,10,11,12,13] Qww
def Qtd:SC:=.block 1 (.seq (sR [mJ 34 3] [0,3,9,10,11,12,34] Qz0) Qwx)
def Qwy:SC:=sR [zJ 11 0,zJ 12 (-1)] [0,3,9,10,11,12] (bL 0 Qtd)
def Qwz:SC:=sR [lJ 31 10,mJ 32 2,eI 33 (.cpy 1 (.t 31) (.t 32))] [0,3,9,10] Qwy
def Qw0:SC:=sR (fJ 28 1 9::lJ 29 28::eI 30 (.mks 1 [.int .i64 0] (.t 29))::Qgl) [0,2,3,9,10] Qwz
def Qw1:SC:=sR (mJ 20 0::kJ 21 20::fJ 22 0 21::fJ 23 0 22::lJ 24 23::mJ 25 1::iJ 26 3 24 25::tJ 27 3 26::eI 9 (.alloc [.int .i64 0,.int .i64 0,.sl true 5 []])::Qgj) [0,2,3,9] Qw0
def Q4d:SC:=sR [zJ 8 0] [0,1,2,3] Qw1
def Qk5:List RS:=[.tmp 8]
theorem Q3p:mFn prog Qch 4 128 Q4d Qk5=true:=by kernel_rfl
def Qjn:List Item:=[oJ 5 4,mJ 2 5]
def Q38:SC:=sR (mJ 3 0::aJ 4 Qi3 [.t 3]::Qjn) [2] .ret
def Qact:SC:=sR [fB 2 false] [0] Q38
def Qri:List RS:=[.tmp 2]
theorem Qabi:mFn prog Qf8 1 6 Qact Qri=true:=by kernel_rfl
def Qpv:SC:=.seq (.dreg 9 [0,1,2,3,4,5,6,7,8] ( lJ 5 1::fJ 6 1 3::lJ 7 6::lJ 8 2::iJ 9 1 7 8::lJ 10 9::iJ 11 1 5 10::lJ 12 11::mJ 4 12::[]) [4]) .ret
def Qw2:SC:=sR [vJ 3 0,zJ 4 0] [1,2,3] Qpv
def Qgg:List RS:=[.tmp 4]
theorem Qwc:mFn prog Qa9 3 13 Qw2 Qgg=true:=by kernel_rfl
def Qfs:List Item:=[hJ 44 5,hJ 46 45,kJ 51 50,lJ 52 51,iJ 53 1 44 46,sJ 1 53 52]
def Qft:List Item:=hJ 44 5::hJ 46 45::aJ 50 Qcg [.t 47,.t 49]::Qfs
def Qfu:List Item:=[kJ 62 59,sJ 1 62 61]
def Qfv:List Item:=mJ 60 6::eI 61 (.callv (.t 60) [kI 1])::Qfu
def Qfw:List Item:=aJ 59 Qcg [.t 56,.t 58]::Qfv
def Qfx:List Item:=[kJ 74 65,fJ 75 3 74,sJ 1 75 73]
def Qfy:List Item:=hJ 69 68::fI 72 (.bsl 1 [.t 71])::xJ 73 1 69 72::Qfx
def Qfz:List Item:=[mJ 7 89]
def Qf0:List Item:=fI 88 (.bsl 1 [.t 87])::xJ 89 1 84 88::Qfz
def Qw3:SC:=.reg (mJ 84 7::mJ 85 6::mJ 86 8::eI 87 (.callv (.t 85) [.t 86])::Qf0) [0,4,5,6,7,80,81]
def Qte:SC:=.reg [cJ 90 .add 81 1,mJ 81 90] [0,4,5,6,7,80,81]
def Qtf:SC:=.seq (.block 2 (sR [mJ 83 81,mJ 8 83] [0,4,5,6,7,8,80,81] Qw3)) Qte
def Qpw:SC:=sR [bJ 82 .lss 81 80] [0,4,5,6,7,80,81,82] (cX 82 1 Qtf)
def Qem:List Item:=[hJ 91 5,hJ 93 92,iJ 99 1 91 93,sJ 1 99 98]
def Qtg:SC:=.dreg 10 [0,1,2,3,4,5,6,7,0,2,8,9] ( lJ 91 5::fJ 92 1 4::lJ 93 92::mJ 94 0::fJ 95 3 4::lJ 96 95::mJ 97 7::aJ 98 Qch [.t 94,.t 96,.t 97,.k (.c (.bool false))]::Qem) []
def Qth:SC:=.seq (sR [fJ 78 2 4,lJ 79 78,nJ 80 79,zJ 81 0] [0,4,5,6,7,80,81] (bL 1 Qpw)) Qtg
def Qen:List Item:=[hJ 102 5,hJ 104 103,iJ 107 1 102 104,sJ 1 107 106]
def Qeo:List Item:=[hJ 111 5,hJ 113 112,mJ 110 116,fI 117 (.ext (.t 110) 0),fI 118 (.ext (.t 110) 1),iJ 119 1 111 113,sJ 1 119 117]
def Qep:List Item:=hJ 111 5::hJ 113 112::aJ 116 Qhp [kI 11,.t 115,kI 0]::Qeo
def Qeq:List Item:=[mJ 16 23,fI 24 (.ext (.t 16) 0),fI 25 (.ext (.t 16) 1),mJ 9 24,mJ 10 25]
def Qer:List Item:=hJ 18 17::aJ 23 Qhp [.t 18,.t 20,.t 22]::Qeq
def Qes:List Item:=hJ 18 17::eI 22 (.callv (.t 21) [kI 1])::Qer
def Qti:SC:=cT 27 (.reg [aJ 28 Qko [kI 1]] [4,5,9]) .skip
def Qtj:SC:=.reg [lJ 29 5,fJ 30 1 4,lJ 31 30,mJ 32 9,iJ 33 1 29 31,sJ 1 33 32] []
def Qtk:SC:=.seq (sR [mJ 26 10,oJ 27 26] [4,5,9,27] Qti) Qtj
def Qtl:SC:=cT 108 (.dreg 11 [0,1,2,3,4,0,2,5,0,2,6,7,8,9,10] ( lJ 111 5::fJ 112 1 4::lJ 113 112::mJ 114 6::eI 115 (.callv (.t 114) [kI 0])::Qep) []) (.seq (.dreg 12 [0,1,2,4,3,1,5,1,6,7,8,9,10,11] ( fJ 17 0 4::lJ 18 17::mJ 19 6::mJ 21 6::eI 20 (.callv (.t 19) [kI 0])::Qes) [4,5,9,10]) Qtk)
def Qtm:SC:=cT 100 (.dreg 7 [0,1,2,3,4,0,2,5,6] ( lJ 102 5::fJ 103 1 4::lJ 104 103::mJ 105 6::eI 106 (.callv (.t 105) [kI 0])::Qen) []) (sR [cJ 109 .eql 15 10,mJ 108 109] [4,5,6,108] Qtl)
def Qtn:SC:=cT 76 (sR [fI 7 (.mv (.k (.c (.sl true 1 []))))] [0,4,5,6,7] Qth) (sR [cJ 101 .eql 15 2,mJ 100 101] [4,5,6,15,100] Qtm)
def Qto:SC:=cT 63 (.dreg 12 [0,1,2,3,4,5,6,4,7,8,9,10,11] ( mJ 65 0::mJ 66 0::kJ 67 66::fJ 68 3 67::lJ 69 68::mJ 70 6::eI 71 (.callv (.t 70) [kI 0])::Qfy) []) (sR [cJ 77 .eql 15 14,mJ 76 77] [0,4,5,6,15,76] Qtn)
def Qtp:SC:=cT 54 (.reg (mJ 56 0::mJ 57 6::eI 58 (.callv (.t 57) [kI 0])::Qfw) []) (sR [cJ 64 .eql 15 13,mJ 63 64] [0,4,5,6,15,63] Qto)
def Qtq:SC:=cT 42 (.dreg 11 [0,1,2,3,4,5,0,2,6,0,2,7,8,9,10] ( lJ 44 5::fJ 45 1 4::lJ 46 45::mJ 47 0::mJ 48 6::eI 49 (.callv (.t 48) [kI 0])::Qft) []) (sR [cJ 55 .eql 15 12,mJ 54 55] [0,4,5,6,15,54] Qtp)
def Qtr:SC:=cT 34 (.reg [lJ 36 5,fJ 37 1 4,lJ 38 37,fJ 39 3 4,lJ 40 39,iJ 41 1 36 38,sJ 1 41 40] []) (sR [cJ 43 .eql 15 11,mJ 42 43] [0,4,5,6,15,42] Qtq)
def Qts:SC:=.block 0 (sR [cJ 35 .eql 15 1,mJ 34 35] [0,4,5,6,15,34] Qtr)
def Qtt:SC:=sR [fJ 14 0 4,lJ 15 14] [0,4,5,6,15] Qts
def Qtu:SC:=sR [fI 13 (.mkf Qbl [.t 5,.t 4]),mJ 6 13] [0,4,5,6] Qtt
def Qtv:SC:=sR [mJ 11 0,aJ 12 Qci [.t 11]] [0,4,5] Qtu
def Q13:SC:=sR [vJ 4 1,vJ 5 2] [0,4,5] Qtv
def Qcj:List RS:=[]
theorem Q0x:mFn prog Qdl 3 120 Q13 Qcj=true:=by kernel_rfl
def Qz1:SC:=cT 10 (.reg [aJ 11 Qko [kI 3]] [0]) .skip
def Qz2:SC:=.reg [mJ 12 0,kJ 13 12,fJ 14 2 13,lJ 15 14,cJ 16 .add 15 1,kJ 17 12,fJ 18 2 17,sJ 1 18 16] []
def Q4e:SC:=.seq (.seq (.dreg 9 [0,1,2,3,4,5,6,7,8] ( mJ 2 0::kJ 3 2::fJ 4 2 3::lJ 5 4::mJ 6 0::kJ 7 6::fJ 8 1 7::lJ 9 8::bJ 10 .eql 5 9::[]) [0,10]) Qz1) Qz2
def Qk6:List RS:=[]
theorem Q3q:mFn prog Qci 1 19 Q4e Qk6=true:=by kernel_rfl
def Qng:SC:=.seq (.dreg 9 [0,1,2,3,4,5,6,7,8] ( lJ 5 1::fJ 6 2 2::lJ 7 6::mJ 8 0::iJ 9 1 7 8::lJ 10 9::iJ 11 1 5 10::lJ 12 11::mJ 4 12::[]) [4]) .ret
def Qtw:SC:=sR [zJ 4 0] [0,1,2] Qng
def Qfj:List RS:=[.tmp 4]
theorem Qra:mFn prog Qbl 3 13 Qtw Qfj=true:=by kernel_rfl
def Qzx:SC:=cT 6 (.reg [aJ 7 Qko [kI 2]] [0,1]) .skip
def Qzy:SC:=sR [mJ 8 0,mJ 9 1,kJ 10 8,fJ 11 4 10,fI 12 (.iaa 1 16 (.t 11) (.t 9)),mJ 4 12] [4] .ret
def Qzz:SC:=.seq (sR [mJ 5 1,cJ 6 .geq 5 16] [0,1,6] Qzx) Qzy
def Q4c:SC:=sR [fI 4 (.mv (.k (.c .pnil)))] [0,1] Qzz
def Qk4:List RS:=[.tmp 4]
theorem Q3o:mFn prog Qcg 2 13 Q4c Qk4=true:=by kernel_rfl
def Qau1:SC:=cT 29 .skip (.reg [cJ 31 .eql 9 7,mJ 29 31] [0,1,2,8,9,29])
def Qau2:SC:=cT 33 (sR [zJ 6 0,fB 7 false] [6,7] .ret) .skip
def Qau3:SC:=cT 35 (sR [mJ 36 1,mJ 37 2,bJ 38 .quo 36 37,mJ 6 38,fB 7 true] [6,7] .ret) .skip
def Qau4:SC:=sR [mJ 39 1,mJ 40 2,bJ 41 .rem 39 40,mJ 6 41,fB 7 true] [6,7] .ret
def Qau5:SC:=.seq (sR [mJ 34 0,cJ 35 .eql 34 6] [1,2,35] Qau3) Qau4
def Q1p:List Item:=[mJ 6 48,fB 7 true]
def Q1q:List Item:=[mJ 6 55,fB 7 true]
def Qaqa:List Item:=[mJ 6 65,fB 7 true]
def Qau6:SC:=cT 56 (sR (mJ 58 8::mJ 59 1::cJ 60 .neq 59 0::mJ 61 60::gTm 62 61 2::gT 63 61 (.bin 0 .neq (.t 62) (kI 0))::pF 64 61 63::eI 65 (.callv (.t 58) [.t 64])::Qaqa) [6,7] .ret) .skip
def Qau7:SC:=cT 49 (sR (mJ 51 8::mJ 52 1::mJ 53 2::bJ 54 .eql 52 53::eI 55 (.callv (.t 51) [.t 54])::Q1q) [6,7] .ret) (sR [cJ 57 .eql 9 10,mJ 56 57] [1,2,8,56] Qau6)
def Qap2:SC:=cT 42 (sR (mJ 44 8::mJ 45 1::mJ 46 2::bJ 47 .lss 45 46::eI 48 (.callv (.t 44) [.t 47])::Q1p) [6,7] .ret) (sR [cJ 50 .eql 9 9,mJ 49 50] [1,2,8,9,49] Qau7)
def Q1n:SC:=cT 29 (.seq (sR [mJ 32 2,cJ 33 .eql 32 0] [0,1,2,33] Qau2) Qau5) (sR [cJ 43 .eql 9 8,mJ 42 43] [1,2,8,9,42] Qap2)
def Qap3:SC:=cT 23 (sR [mJ 25 1,mJ 26 2,bJ 27 .mul 25 26,cJ 28 .rem 27 256,mJ 6 28,fB 7 true] [6,7] .ret) (.seq (sR [cJ 30 .eql 9 6,mJ 29 30] [0,1,2,8,9,29] Qau1) Q1n)
def Qap4:SC:=cT 16 (sR [mJ 18 1,mJ 19 2,bJ 20 .sub 18 19,cJ 21 .add 20 256,cJ 22 .rem 21 256,mJ 6 22,fB 7 true] [6,7] .ret) (sR [cJ 24 .eql 9 5,mJ 23 24] [0,1,2,8,9,23] Qap3)
def Qap5:SC:=cT 10 (sR [mJ 12 1,mJ 13 2,bJ 14 .add 12 13,cJ 15 .rem 14 256,mJ 6 15,fB 7 true] [6,7] .ret) (sR [cJ 17 .eql 9 4,mJ 16 17] [0,1,2,8,9,16] Qap4)
def Qap6:SC:=.block 0 (sR [cJ 11 .eql 9 3,mJ 10 11] [0,1,2,8,9,10] Qap5)
def Qxx:List Item:=[mJ 6 69,fB 7 true]
def Q1o:SC:=sR (mJ 66 8::mJ 67 1::cJ 68 .eql 67 0::eI 69 (.callv (.t 66) [.t 68])::Qxx) [6,7] .ret
def Qap7:SC:=.seq (sR [mJ 9 0] [0,1,2,8,9] Qap6) Q1o
def Qap8:SC:=sR [fI 8 (.mv (.k (.c (.fn Qe8 []))))] [0,1,2,8] Qap7
def Qa95:SC:=sR [zJ 6 0,fB 7 false] [0,1,2] Qap8
def Qk2:List RS:=[.tmp 6,.tmp 7]
theorem Qanx:mFn prog Qhp 3 70 Qa95 Qk2=true:=by kernel_rfl
def Qacq:SC:=cT 3 (sR [zJ 2 1] [2] .ret) .skip
def Qacr:SC:=sR [zJ 2 0] [2] .ret
def Qacs:SC:=.seq (sR [mJ 3 0] [3] Qacq) Qacr
def Qap9:SC:=sR [zJ 2 0] [0] Qacs
def Qm3:List RS:=[.tmp 2]
theorem Qapd:mFn prog Qe8 1 4 Qap9 Qm3=true:=by kernel_rfl
def Qtx:List Item:=[sJ 3 5 9]
def Qty:List Item:=[mJ 3 15]
def Qtz:List Item:=fI 14 (.bsl 1 [.t 13])::xJ 15 1 10 14::Qty
def Qala:SC:=.seq .gh (.reg (mJ 10 3::mJ 11 0::fI 12 (.aslp 3 (.t 5) (some (.t 11)))::aJ 13 Qco [.t 12]::Qtz) [0,3,6,7])
def Qalb:SC:=.reg [cJ 16 .add 7 1,mJ 7 16] [0,3,6,7]
def Qalc:SC:=.seq (.block 1 (sR (fI 9 (.iax 3 3 (.t 6) (.t 7))::eI 5 (.alloc [.int .i64 0,.int .i64 0,.int .i64 0])::Qtx) [0,3,5,6,7] Qala)) Qalb
def Qac9:SC:=sR [cJ 8 .lss 7 3] [0,3,6,7,8] (cX 8 0 Qalc)
def Qald:SC:=sR [mJ 17 3,mJ 2 17] [2] .ret
def Qale:SC:=.seq (sR [fI 6 (.ldg 9 0 0),zJ 7 0] [0,3,6,7] (bL 0 Qac9)) Qald
def Qalf:SC:=sR [fI 3 (.mv (.k (.c (.sl true 1 []))))] [0,3] Qale
def Qave:SC:=sR [fI 2 (.mv (.k (.c (.sl true 1 []))))] [0] Qalf
def Q5c:List RS:=[.tmp 2]
theorem Qatz:mFn prog Qmg 1 18 Qave Q5c=true:=by kernel_rfl
def Qeh:List Item:=[sJ 2 7 13]
def Qei:List Item:=[mJ 5 19]
def Qej:List Item:=fI 18 (.bsl 1 [.t 17])::xJ 19 1 14 18::Qei
def Qsi:SC:=.reg (mJ 14 5::mJ 15 1::tJ 16 2 7::eI 17 (.callv (.t 15) [.t 16])::Qej) [1,5,8,9,10]
def Qsj:SC:=.reg [cJ 20 .add 10 1,mJ 10 20] [1,5,8,9,10]
def Qsk:SC:=.seq (.block 1 (sR (iJ 12 2 8 10::tJ 13 2 12::eI 7 (.alloc [.int .i64 0,.sl true 1 []])::Qeh) [1,5,7,8,9,10] Qsi)) Qsj
def Qpt:SC:=sR [bJ 11 .lss 10 9] [1,5,8,9,10,11] (cX 11 0 Qsk)
def Qsl:SC:=sR [mJ 21 5,mJ 4 21] [4] .ret
def Qsm:SC:=.seq (sR [mJ 8 0,nJ 9 8,zJ 10 0] [1,5,8,9,10] (bL 0 Qpt)) Qsl
def Qsn:SC:=sR [fI 5 (.mv (.k (.c (.sl true 1 []))))] [0,1,5] Qsm
def Qzv:SC:=sR [fI 4 (.mv (.k (.c (.sl true 1 []))))] [0,1] Qsn
def Qh8:List RS:=[.tmp 4]
theorem Qzm:mFn prog Qc2 2 22 Qzv Qh8=true:=by kernel_rfl
variable {H:Heap}{K:V→Heap→Prop}
def endV (n:Int):Value:=.iface 190 (.int .i64 n)
theorem Qbls (n:Int)(w:World):Calls prog Qko #[.int .i64 n] w fun e w'=>e=.panicked [{ v:=endV n,recovered:=false }]∧w'=w:=by
 go_enter Go.Proofs.Tryz.func271,Go.Proofs.Tryz.ntmps271
 go_wp2
 exact⟨rfl,rfl,rfl⟩
theorem Qbhb {n:Int}(hK:K (.pn (endV n)) H):Qo prog Qko [.c (.int .i64 n)] H K:=by
 refine⟨by kernel_rfl,fun g w vs hs hl hv=>?_⟩;obtain⟨v,rfl⟩:∃v,vs=[v]:=by
  match vs,hl with
  |[v],_=>exact⟨v,rfl⟩
 have hr:=hv 0 _ v rfl rfl
 cases hr with
 |c _ _ hr=>
  cases hr;refine (Qbls n w).mono fun e w'=>?_;rintro⟨rfl,rfl⟩;exact .inr ⟨_,H,g,rfl,hK,.refl hs⟩
end Go.AE.Y
namespace Go.AE
variable {P:Program}{H:Heap}{e:Env}
theorem Qbod {Q:X→Env→Heap→Prop}{v:Value}:X.panK Q v H=Q (.pan v) [] H:=rfl
theorem Qbra {b:SC}{Q:X→Env→Heap→Prop}{v:Value}:X.sq P b Q (.pan v) e H=Q (.pan v) e H:=rfl
theorem Qbp7 {i:Nat}{Q:X→Env→Heap→Prop}{v:Value}:X.inBlock i Q (.pan v) e H=Q (.pan v) e H:=rfl
theorem Qbjy {K:Env→Heap→Prop}{Q:X→Env→Heap→Prop}{v:Value}:X.next K Q (.pan v) e H=Q (.pan v) e H:=rfl
theorem Qbh7 {rs:List RS}{K:V→Heap→Prop}{v:Value}:Qz rs K (.pan v) e H=K (.pn v) H:=rfl
attribute [go_sem] Qbod Qbra Qbp7 Qbjy Qbh7
end Go.AE
namespace Go.AE.Y
attribute [local go_sem] cond_true cond_false Bool.not_true Bool.not_false
open Go.Proofs.Tryz
variable {H H' H0:Heap}{K:V→Heap→Prop}{E A A' B:List (Nat×Obj)}
def Qiy (l:List Int):List C:=l.map fun v=>.int .i64 v
structure Rs where
 u:Nat
 s:List Int
 c:List Int
 t:List Int
 sc:C
 so:List (Nat×Obj)
 tc:C
 tl:List (Nat×Obj)
def Rs.mt (r:Rs):List C:=Qiy r.c++[r.tc]
structure Rn where
 l:Nat
 fl:Bool
 cs:List CodeD
 S:Nat
def Rn.o (X:Rn)(r:Rs):Obj:=.st (.sl X.fl 3 (Ql X.cs)::.int .i64 X.S::.int .i64 r.u::r.sc::r.mt)
def Rn.F (X:Rn)(r:Rs)(A B:List (Nat×Obj)):List (Nat×Obj):=[(X.l,X.o r)]++(A++((r.so++r.tl)++B))
structure Rs.ok (X:Rn)(r:Rs):Prop where
 gs:Gr r.so 1 (Qb r.s) r.sc
 gt:Gr r.tl 1 (Qb r.t) r.tc
 c:r.c.length=16
 bc:byL r.c
 bs:byL r.s
 ls:r.s.length≤r.u
 lt:r.t.length≤r.u+1
 uS:r.u≤X.S
 S:X.S≤60000
variable {X:Rn}{r r':Rs}
theorem Rs.ok.mt (h:r.ok X):r.mt.length=17:=by simp[Rs.mt,Qiy,h.c]
theorem Rs.ok.tick (h:r.ok X)(hu:r.u<X.S):Rs.ok X { r with u:=r.u+1 }:=⟨h.gs,h.gt,h.c,h.bc,h.bs,Nat.le_succ_of_le h.ls,Nat.le_succ_of_le h.lt,hu,h.S⟩
theorem F_in (k:Kn H0 H E (X.F r A B)):Kn H0 H E (X.F r [] (A++B)):=k.perm (Qj fun f hf h0 hc hp=>by simp only[Rn.F,hf,h0];omega)
theorem Qbck (k:Kn H0 H E (X.F r [] (A++B))):Kn H0 H E (X.F r A B):=k.perm (Qj fun f hf h0 hc hp=>by simp only[Rn.F,hf,h0];omega)
theorem F_al {p:Nat×Obj}(k:Kn H0 H E (X.F r A B++[p])):Kn H0 H E (X.F r (A++[p]) B):=k.perm (Qj fun f hf h0 hc hp=>by simp only[Rn.F,hf,h0];omega)
theorem Qxf (k:Kn H0 H E (X.F r (A++A') B)):Kn H0 H E (X.F r A B):=Kn.drop (B:=A') (k.perm (Qj fun f hf h0 hc hp=>by simp only[Rn.F,hf,h0];omega))
theorem Qazu (k:Kn H0 H E (X.F r A (A'++B))):Kn H0 H E (X.F r A B):=Kn.drop (B:=A') (k.perm (Qj fun f hf h0 hc hp=>by simp only[Rn.F,hf,h0];omega))
theorem Qbpk (k:Kn H0 H E (X.F r (A++A') B)):Kn H0 H E (X.F r A (A'++B)):=k.perm (Qj fun f hf h0 hc hp=>by simp only[Rn.F,hf,h0];omega)
theorem Qbpj (k:Kn H0 H E (X.F r A (A'++B))):Kn H0 H E (X.F r (A++A') B):=k.perm (Qj fun f hf h0 hc hp=>by simp only[Rn.F,hf,h0];omega)
theorem F_s (k:Kn H0 H E (X.F r A B)):Kn H0 H E (([(X.l,X.o r)]++(A++(r.tl++B)))++r.so):=k.perm (Qj fun f hf h0 hc hp=>by simp only[Rn.F,hf,h0];omega)
theorem F_s' {so:List (Nat×Obj)}(hs:r'.so=so)(ht:r'.tl=r.tl)(k:Kn H0 H E (([(X.l,X.o r')]++(A++(r.tl++B)))++so)):Kn H0 H E (X.F r' A B):=k.perm (Qj fun f hf h0 hc hp=>by simp only[Rn.F,hf,h0,hs,ht];omega)
theorem F_t (k:Kn H0 H E (X.F r A B)):Kn H0 H E (([(X.l,X.o r)]++(A++(r.so++B)))++r.tl):=k.perm (Qj fun f hf h0 hc hp=>by simp only[Rn.F,hf,h0];omega)
theorem F_t' {tl:List (Nat×Obj)}(ht:r'.tl=tl)(hs:r'.so=r.so)(k:Kn H0 H E (([(X.l,X.o r')]++(A++(r.so++B)))++tl)):Kn H0 H E (X.F r' A B):=k.perm (Qj fun f hf h0 hc hp=>by simp only[Rn.F,hf,h0,hs,ht];omega)
theorem F_o (k:Kn H0 H E (X.F r A B)):H X.l=.st (.sl X.fl 3 (Ql X.cs)::.int .i64 X.S::.int .i64 r.u::r.sc::r.mt):=k.l 0 rfl
theorem Qbpu {a b c d:C}{m:List C}{j:Nat}:(a::b::c::d::m).drop (4+j)=m.drop j:=by rw[Nat.add_comm];rfl
theorem take4 {a b c d:C}{m:List C}{j:Nat}:(a::b::c::d::m).take (4+j)=a::b::c::d::m.take j:=by rw[Nat.add_comm];rfl
theorem Rs.ok.get (h:r.ok X){j:Nat}(hj:j<16):(r.mt.drop j).take 1=[.int .i64 (r.c.getD j 0)]:=by
 have hj':j<(Qiy r.c).length:=by rw[Qiy,Jc,h.c];exact hj
 have hj2:j<r.c.length:=by rw[h.c];exact hj
 rw[Rs.mt,List.drop_append_of_le_length (by omega),J8 hj',Jbg,List.take_succ_cons,List.take_zero];simp[Qiy,Ja,hj2]
theorem Rs.ok.dl (h:r.ok X)(j:Nat):(r.mt.drop j).length=17-j:=by rw[Jbh,h.mt]
theorem Rs.ok.put (h:r.ok X){j:Nat}(hj:j<16)(v:Int):r.mt.take j++[.int .i64 v]++r.mt.drop (j+1)=Rs.mt { r with c:=r.c.set j v }:=by
 have hj':j<(Qiy r.c).length:=by rw[Qiy,Jc,h.c];exact hj
 rw[Rs.mt,Rs.mt,List.take_append_of_le_length (by omega),List.drop_append_of_le_length (by omega)];have:Qiy (r.c.set j v)=(Qiy r.c).take j++.int .i64 v::(Qiy r.c).drop (j+1):=by
  rw[Qiy,Ja4,List.set_eq_take_append_cons_drop,if_pos (by simpa[Qiy]using hj')];rfl
 show _=Qiy (r.c.set j v)++[r.tc];rw[this];simp
theorem Rs.ok.cells (h:r.ok X){j:Nat}{v:Int}(hv:byI v):Rs.ok X { r with c:=r.c.set j v }:=⟨h.gs,h.gt,by simp[h.c],h.bc.set hv j,h.bs,h.ls,h.lt,h.uS,h.S⟩
theorem Qbmi (kn:Kn H0 H E (X.F r A B))(hr:r.ok X)
  (hK:∀H',r.u<X.S→Kn H0 H' E (X.F { r with u:=r.u+1 } A B)→Rs.ok X { r with u:=r.u+1 }→K (.tup []) H')
  (hP:r.u=X.S→K (.pn (endV 3)) H):Qo prog Qci [.c (.ptr X.l 0)] H K:=by
 refine Qd Qai Q3q ?_;have hmt:=hr.mt;have hX:=F_o kn;have hS:=hr.S;have huS:=hr.uS;refine Q5 ?_;refine Qad ?_;simp only[go_sem,hX,hmt];refine Qh (Qe rfl ?_ ?_)
 ·intro hc;have hu:r.u=X.S:=by
   have:=of_decide_eq_true hc;omega
  refine Qt ?_;simp only[go_sem];refine Qbhb ?_;simp only[go_sem];exact hP hu
 ·intro hc;have hu:r.u<X.S:=by
   have:=of_decide_eq_false hc;omega
  refine Qi ?_;try simp only[go_sem]
  refine Qt ?_;simp only[go_sem,hX,hmt];refine⟨Qr (by omega) (by omega),fun H' h'=>?_⟩;have kn':Kn H0 H' E (X.F { r with u:=r.u+1 } A B):=kn.stL 0 rfl h';simp only[go_sem,Qz,Q8,Qk6];exact hK H' hu kn' (hr.tick hu)
theorem Qbl5 {l:Nat}{n:Int}(hn:0≤n)(hK:n<16→K (.c (.ptr l (4+n.toNat))) H)(hP:16≤n→K (.pn (endV 2)) H) :
  Qo prog Qcg [.c (.ptr l 0),.c (.int .i64 n)] H K:=by
 refine Qd Qai Q3o ?_;refine Qa ?_;simp only[go_sem];refine Q5 ?_;refine Qa ?_;simp only[go_sem];refine Qh (Qe rfl ?_ ?_)
 ·intro hc;have h16:16≤n:=of_decide_eq_true hc;refine Qt ?_;simp only[go_sem];refine Qbhb ?_;simp only[go_sem];exact hP h16
 ·intro hc;have h16:n<16:=by have:=of_decide_eq_false hc;omega
  refine Qi ?_;try simp only[go_sem]
  refine Qa ?_;simp only[go_sem];refine⟨⟨hn,by omega⟩,?_⟩;refine Qk ?_;simp only[go_sem,Qz,Q8,Qk4,Jb,forall_eq,RS.op];have:=hK h16;simpa using this
theorem Qa6g {b:Bool}(hK:K (.c (.int .i64 (trI (b=true)))) H):Qo prog Qe8 [.c (.bool b)] H K:=by
 refine Qd Qai Qapd ?_;refine Qa ?_;simp only[go_sem];refine Q5 ?_;refine Qa ?_;simp only[go_sem];refine Qh (Qe rfl ?_ ?_)
 ·intro hc;subst hc;refine Qa ?_;simp only[go_sem];refine Qk ?_;simp only[go_sem,Qz,Q8,Qm3,Jb,forall_eq,RS.op];exact hK
 ·intro hc;subst hc;refine Qi ?_;try simp only[go_sem]
  refine Qa ?_;simp only[go_sem];refine Qk ?_;simp only[go_sem,Qz,Q8,Qm3,Jb,forall_eq,RS.op];exact hK
theorem Qa6f {p:Prop} [Decidable p]:trI (decide p=true)=trI p:=by simp[trI]
def arP (op a b:Int):Int×Bool:=match arR op a b with
 |some v=>(v,true)
 |none=>(0,false)
theorem Qa75 {a b:Int}(h:0≤a):a.tmod b=a % b:=Int.tmod_eq_emod_of_nonneg h
theorem Qbmh {a b:Int}(h:0≤a):a.tdiv b=a / b:=Int.tdiv_eq_ediv_of_nonneg h
set_option maxHeartbeats 2000000 in
theorem Qbms {op a b:Int}(ha:byI a)(hb:byI b)(h3:3≤op)(h9:op≤9)(hK:K (.tup [.c (.int .i64 (arP op a b).1),.c (.bool (arP op a b).2)]) H) :
  Qo prog Qhp [.c (.int .i64 op),.c (.int .i64 a),.c (.int .i64 b)] H K:=by
 obtain⟨a0,a1⟩:=ha;obtain⟨b0,b1⟩:=hb;refine Qd Qai Qanx ?_;have retf:∀(v:Int) (t:Bool) (e:Env),arP op a b=(v,t)→lk 6 e=.c (.int .i64 v)→lk 7 e=.c (.bool t)→Qz Qk2 K .ret e H:=by
  intro v t e h1 h2 h3;simp only[go_sem,Qz,Q8,Qk2,RS.op,h2,h3];rw[h1]at hK;exact hK
 refine Qa ?_;simp only[go_sem];refine Qa ?_;simp only[go_sem];refine Q5 ?_;refine Qa ?_;simp only[go_sem];refine Qh (Qf ?_);refine Qa ?_;simp only[go_sem];refine Qe rfl ?_ ?_
 ·intro hc;have ho:op=3:=of_decide_eq_true hc;subst ho;refine Qa ?_;simp only[go_sem];refine⟨Qr (by omega) (by omega),by omega,?_⟩;refine Qk ?_;simp only[go_sem];refine retf _ _ _ ?_ rfl rfl;rw[Qa75 (by omega)];rfl
 intro hc;have n3:=of_decide_eq_false hc;refine Qa ?_;simp only[go_sem];refine Qe rfl ?_ ?_
 ·intro hc;have ho:op=4:=of_decide_eq_true hc;subst ho;refine Qa ?_;simp only[go_sem];refine⟨Qr (by omega) (by omega),Qr (by omega) (by omega),by omega,?_⟩;refine Qk ?_;simp only[go_sem];refine retf _ _ _ ?_ rfl rfl;rw[Qa75 (by omega)];rfl
 intro hc;have n4:=of_decide_eq_false hc;refine Qa ?_;simp only[go_sem];refine Qe rfl ?_ ?_
 ·intro hc;have ho:op=5:=of_decide_eq_true hc;subst ho;have hab:0≤a * b:=Int.mul_nonneg a0 b0;have hab2:a * b≤255 * 255:=Int.mul_le_mul a1 b1 b0 (by omega);refine Qa ?_;simp only[go_sem];refine⟨Qr (by omega) (by omega),by omega,?_⟩;refine Qk ?_;simp only[go_sem];refine retf _ _ _ ?_ rfl rfl;rw[Qa75 hab];rfl
 intro hc;have n5:=of_decide_eq_false hc;refine Q5 ?_;refine Qa ?_;simp only[go_sem];have h67:∀(t:Bool),(t=decide (op=6∨op=7))→Qae prog Q1n (X.inBlock 0 (X.sq prog Q1o (Qz Qk2 K))) [(0,.c (.int .i64 op)),(1,.c (.int .i64 a)),(2,.c (.int .i64 b)),(8,.c (.fn Qe8 [])),(9,.c (.int .i64 op)),(29,.c (.bool t))] H:=by
  intro t ht;refine Qe rfl ?_ ?_
  ·intro h;have h67:op=6∨op=7:=by rw[ht]at h;exact of_decide_eq_true h
   refine Q5 ?_;refine Qa ?_;simp only[go_sem];refine Qh (Qe rfl ?_ ?_)
   ·intro hc;have hb:b=0:=of_decide_eq_true hc;subst hb;refine Qa ?_;simp only[go_sem];refine Qk ?_;simp only[go_sem];refine retf _ _ _ ?_ rfl rfl;rcases h67 with rfl|rfl <;> rfl
   intro hc;have hb:¬b=0:=of_decide_eq_false hc;refine Qi ?_;try simp only[go_sem]
   refine Q5 ?_;refine Qa ?_;simp only[go_sem];refine Qh (Qe rfl ?_ ?_)
   ·intro hc;have ho:op=6:=of_decide_eq_true hc;subst ho;have hd1:0≤a / b:=Int.ediv_nonneg a0 b0;have hd2:a / b≤a:=Int.ediv_le_self _ a0;refine Qa ?_;simp only[go_sem];refine⟨⟨hb,by rw[Qbmh a0];exact Qr (by omega) (by omega)⟩,?_⟩;refine Qk ?_;simp only[go_sem];refine retf _ _ _ ?_ rfl rfl;rw[Qbmh a0,arP,arR];simp[hb]
   ·intro hc;have ho:op=7:=(by have:=of_decide_eq_false hc;omega);subst ho;refine Qi ?_;try simp only[go_sem]
    refine Qa ?_;simp only[go_sem];refine⟨hb,?_⟩;refine Qk ?_;simp only[go_sem];refine retf _ _ _ ?_ rfl rfl;rw[Qa75 a0,arP,arR];simp[hb]
  ·intro h;have h67:¬(op=6∨op=7):=by rw[ht]at h;exact of_decide_eq_false h
   refine Qa ?_;simp only[go_sem];refine Qe rfl ?_ ?_
   ·intro hc;have ho:op=8:=of_decide_eq_true hc;subst ho;refine Qa ?_;simp only[go_sem];refine Qa6g ?_;rw[Qa6f];simp only[go_sem,Q1p];refine Qk ?_;simp only[go_sem];exact retf _ _ _ rfl rfl rfl
   intro hc;have n8:=of_decide_eq_false hc;have ho:op=9:=by omega
   subst ho;refine Qa ?_;simp only[go_sem];refine Qe rfl ?_ (fun h=>by simp at h);intro _;refine Qa ?_;simp only[go_sem];refine Qa6g ?_;rw[Qa6f];simp only[go_sem,Q1q];refine Qk ?_;simp only[go_sem];exact retf _ _ _ rfl rfl rfl
 refine Qh (Qe rfl ?_ ?_)
 ·intro hc;have ho:op=6:=of_decide_eq_true hc;refine Qi ?_;simp only[go_sem];exact h67 _ (by rw[hc];simp[ho])
 ·intro hc;have n6:=of_decide_eq_false hc;refine Qt ?_;simp only[go_sem];exact h67 _ (by simp[n6])
theorem Qa8k {a:Int}(hK:K (.tup [.c (.int .i64 (trI (a=0))),.c (.bool true)]) H) :
  Qo prog Qhp [.c (.int .i64 11),.c (.int .i64 a),.c (.int .i64 0)] H K:=by
 refine Qd Qai Qanx ?_;refine Qa ?_;simp only[go_sem];refine Qa ?_;simp only[go_sem];refine Q5 ?_;refine Qa ?_;simp only[go_sem];refine Qh (Qf ?_);refine Qa ?_;simp only[go_sem];refine Qe rfl (fun h=>by simp at h) fun _=>?_;refine Qa ?_;simp only[go_sem];refine Qe rfl (fun h=>by simp at h) fun _=>?_;refine Qa ?_;simp only[go_sem];refine Qe rfl (fun h=>by simp at h) fun _=>?_;refine Q5 ?_;refine Qa ?_;simp only[go_sem];refine Qh (Qe rfl (fun h=>by simp at h) fun _=>?_);refine Qt ?_;simp only[go_sem];refine Qe rfl (fun h=>by simp at h) fun _=>?_;refine Qa ?_;simp only[go_sem];refine Qe rfl (fun h=>by simp at h) fun _=>?_;refine Qa ?_;simp only[go_sem];refine Qe rfl (fun h=>by simp at h) fun _=>?_;refine Qa ?_;simp only[go_sem];refine Qe rfl (fun h=>by simp at h) fun _=>?_;refine Qi ?_;simp only[go_sem];refine Qa ?_;simp only[go_sem];refine Qa6g ?_;rw[Qa6f];simp only[go_sem,Qxx];refine Qk ?_;simp only[go_sem,Qz,Q8,Qk2,RS.op];exact hK
end Go.AE.Y
namespace Go.AE.Y
attribute [local go_sem] cond_true cond_false Bool.not_true Bool.not_false
open Go.Proofs.Tryz
variable {H H' H0:Heap}{K:V→Heap→Prop}{E A A' B Li:List (Nat×Obj)}{X:Rn}{r r':Rs}
section
variable {cs:List CodeD}{k b:Nat}{x:InsD}{t:List InsD}{R s c:List Int}{fs:List Fr}
theorem Qbrd (h:x.op=1):stI cs k b x t R fs s c=.go (⟨k,b,t,R.set x.to.toNat x.n⟩::fs) s c:=by rw[stI];simp[h]
theorem Qbsw (h:x.op=11):stI cs k b x t R fs s c=if 16≤ar R x 0 then .dn 2 0 s c else .go (⟨k,b,t,R.set x.to.toNat (rg c (ar R x 0))⟩::fs) s c:=by rw[stI];simp[h]
theorem Qbre (h:x.op=12):stI cs k b x t R fs s c=if 16≤ar R x 0 then .dn 2 0 s c else .go (⟨k,b,t,R⟩::fs) s (c.set (ar R x 0).toNat (ar R x 1)):=by rw[stI];simp[h]
theorem Qbrf (h:x.op=13):stI cs k b x t R fs s c=.go (⟨k,b,t,R⟩::fs) (s++[ar R x 0]) c:=by rw[stI];simp[h]
theorem Qboy (h:x.op=14):stI cs k b x t R fs s c=.go (fr0 cs x.n.toNat (x.args.map (rg R))::⟨k,b,x::t,R⟩::fs) s c:=by rw[stI];simp[h]
theorem Qboz (h:x.op=2):stI cs k b x t R fs s c=.go (⟨k,b,t,R.set x.to.toNat (ar R x 0)⟩::fs) s c:=by rw[stI];simp[h]
theorem Qbrc (h:x.op=10):stI cs k b x t R fs s c=.go (⟨k,b,t,R.set x.to.toNat (trI (ar R x 0=0))⟩::fs) s c:=by rw[stI];simp[h,arR]
theorem Qbsv (h3:3≤x.op)(h9:x.op≤9):stI cs k b x t R fs s c=if (arP x.op (ar R x 0) (ar R x 1)).2=true then .go (⟨k,b,t,R.set x.to.toNat (arP x.op (ar R x 0) (ar R x 1)).1⟩::fs) s c else .dn 1 0 s c:=by
 rw[stI,arP];simp only[show ¬x.op=1 by omega,show ¬x.op=11 by omega,show ¬x.op=12 by omega,show ¬x.op=13 by omega,show ¬x.op=14 by omega,show ¬x.op=2 by omega,if_false];cases arR x.op (ar R x 0) (ar R x 1) <;> simp
end
theorem Qbpq {op a b:Int}(ha:byI a)(hb:byI b):byI (arP op a b).1:=by
 rw[arP]
 cases h:arR op a b with
 |none=>exact⟨by simp,by simp⟩
 |some v=>exact Qbps ha hb h
structure InsW (cs:List CodeD)(k:Nat)(x:InsD):Prop where
 op:1≤x.op∧x.op≤14
 n1:x.op=1→byI x.n
 args:∀v∈x.args,0≤v∧v.toNat<(Qx cs k).regs.toNat
 to:Qh3 x.op=true→0≤x.to∧x.to.toNat<(Qx cs k).regs.toNat
 len:¬x.op=14→(x.args.length:Int)=Qhk x.op
 cal:x.op=14→0≤x.n∧x.n.toNat<k∧(x.args.length:Int)=(Qx cs x.n.toNat).params
 al:x.args.length≤3
def Rdb (Li:List (Nat×Obj))(rows:List (List C))(c:C):Prop:=(Li=[]∧∃fl,c=.sl fl 1 rows)∨Gr Li 1 rows c
theorem Rdb.slc {rows:List (List C)}{c:C}(h:Rdb Li rows c)(kn:Kn H0 H E (B++Li)):Slc H 1 rows c:=by
 rcases h with ⟨_,fl,rfl⟩|h
 ·exact .mk' _ _ _ _
 ·exact h.slc kn
theorem Rdb.isOw {rows:List (List C)}{c:C}(h:Rdb Li rows c):c.isOw=false:=by
 rcases h with ⟨_,fl,rfl⟩|h
 ·rfl
 ·exact h.isOw
def Qbho (X:Rn)(m:Nat):Prop:=∀(H0 H:Heap) (E B Li:List (Nat×Obj)) (r:Rs) (k:Nat) (l:List Int) (inc:C) (main:Bool) (fs:List Fr) (K:V→Heap→Prop),
 m≤r.u→Kn H0 H E (X.F r Li B)→r.ok X→k<X.cs.length→Rdb Li (Qb l) inc→(l.length:Int)=(Qx X.cs k).params→byL l→r.t.length≤r.u→
 (∀v r' H',Kn H0 H' E (X.F r' Li B)→r'.ok X→byI v→r'.t.length≤r'.u→(main=false→r'.t=r.t)→Goes X.cs X.S r.u (.go (fr0 X.cs k l::fs) r.s r.c) r'.u (rtn v fs r'.s r'.c)→K (.c (.int .i64 v)) H')→
 (∀e r' H',Kn H0 H' E (X.F r' Li B)→r'.ok X→(main=false→r'.t=r.t)→Halts X.cs X.S r.u (.go (fr0 X.cs k l::fs) r.s r.c) e r'.s r'.c→K (.pn (endV e)) H')→
 Qo prog Qch [.c (.ptr X.l 0),.c (.int .i64 k),.c inc,.c (.bool main)] H K
theorem Qb9 (R:List Int):(Qb R).take R.length=Qb R:=Jd (by rw[Qc];exact Jn _)
theorem Qaor {op to n:Int}{args R:List Int}{rl:Nat}(i:Nat)(hR:H rl=.vec 1 (Qb R))(hi:i<args.length)(hv:0≤args.getD i 0∧(args.getD i 0).toNat<R.length)(hK:K (.c (.int .i64 (rg R (args.getD i 0)))) H) :
  Qo prog Qbl [.c (.int .i64 (i:Int)),.c (.pp [.vsl rl 1 0 R.length]),.c (.pp [.int .i64 op,.int .i64 to,.sl false 1 (Qb args),.int .i64 n])] H K:=by
 refine Qd Qai Qra ?_;refine Qa ?_;simp only[go_sem];refine Qad ?_;obtain⟨v,hvv⟩:∃v:Nat,args.getD i 0=v:=⟨(args.getD i 0).toNat,by omega⟩;rw[hvv]at hv hK;have hv2:v<R.length:=by simpa using hv.2
 simp only[go_sem,hR,hi,hvv,hv2,Qc,Qm _ _ hi,Qm _ _ hv2,Qb9,Jh];refine Qk ?_;simp only[go_sem,Qz,Q8,Qfj,Jb,forall_eq,RS.op];exact hK
theorem F_g (k:Kn H0 H E (X.F r A (Li++B))):Kn H0 H E (([(X.l,X.o r)]++(A++((r.so++r.tl)++B)))++Li):=k.perm (Qj fun f hf h0 hc hp=>by simp only[Rn.F,hf,h0];omega)
theorem F_g' (k:Kn H0 H E (([(X.l,X.o r)]++(A++((r.so++r.tl)++B)))++Li)):Kn H0 H E (X.F r A (Li++B)):=k.perm (Qj fun f hf h0 hc hp=>by simp only[Rn.F,hf,h0];omega)
theorem F_sw (k:Kn H0 H E (X.F r A (A'++B))):Kn H0 H E (X.F r A' (A++B)):=k.perm (Qj fun f hf h0 hc hp=>by simp only[Rn.F,hf,h0];omega)
theorem Qbpv {b c d:C}{m:List C}{j:Nat}:(b::c::d::m).drop (4+j)=m.drop (j+1):=by rw[show 4+j=(j+1)+3 by omega];rfl
set_option maxHeartbeats 8000000 in
theorem Qbmy {op to n:Int}{args R:List Int}{rl k b:Nat}{t:List InsD}{fs:List Fr}(hx:InsW X.cs k ⟨op,to,args,n⟩)(hcl:k<X.cs.length)(hRl:R.length=(Qx X.cs k).regs.toNat)(hb:byL R)
  (kn:Kn H0 H E (X.F r [(rl,.vec 1 (Qb R))] B)) (hr:r.ok X) (hrec:Qbho X (r.u+1))
  (hK:∀R' r' H',Kn H0 H' E (X.F r' [(rl,.vec 1 (Qb R'))] B)→r'.ok X→R'.length=R.length→byL R'→r'.t=r.t→r.u<r'.u→
   Goes X.cs X.S r.u (.go (⟨k,b,⟨op,to,args,n⟩::t,R⟩::fs) r.s r.c) r'.u (.go (⟨k,b,t,R'⟩::fs) r'.s r'.c)→K (.tup []) H')
  (hP:∀e r' H',Kn H0 H' E (X.F r' [] B)→r'.ok X→r'.t=r.t→Halts X.cs X.S r.u (.go (⟨k,b,⟨op,to,args,n⟩::t,R⟩::fs) r.s r.c) e r'.s r'.c→K (.pn (endV e)) H') :
  Qo prog Qdl [.c (.ptr X.l 0),.ag [.int .i64 op,.int .i64 to,.sl false 1 (Qb args),.int .i64 n],.c (.vsl rl 1 0 R.length)] H K:=by
 obtain⟨⟨o1,o14⟩,hn1,hargs,hto,hlen,hcal,hal⟩:=hx;simp only at o1 o14 hn1 hargs hto hlen hcal hal;rw[←hRl]at hargs hto;have hav:∀i,i<args.length→0≤args.getD i 0∧(args.getD i 0).toNat<R.length:=fun i hi=>by
  rw[Ja,Jg hi];exact hargs _ (Je hi)
 refine Qd Qai Q0x ?_;have hfin:∀e H',K (.tup []) H'→Qz Qcj K .nrm e H':=by
  intro e H' h;simp only[go_sem,Qz,Q8,Qcj];exact h
 refine Qa ?_;simp only[go_sem];refine Qa ?_;simp only[go_sem];refine Qbmi kn hr (fun H1 hu kn hr1=>?_) (fun hu=>?_)
 rotate_left
 ·simp only[go_sem];refine hP 3 r H (Qxf (A:=[]) kn) hr rfl ?_;rw[hu];exact .fuel
 obtain⟨r1,e1⟩:∃r1,({ r with u:=r.u+1 }:Rs)=r1:=⟨_,rfl⟩;have eu:r1.u=r.u+1:=by rw[←e1]
 have es:r1.s=r.s:=by rw[←e1]
 have ec:r1.c=r.c:=by rw[←e1]
 have et:r1.t=r.t:=by rw[←e1]
 rw[e1]at kn hr1;clear e1;have hR1:=kn.l 1 rfl;have hX:=F_o kn;have hmt:=hr1.mt;have one:∀Y,stI X.cs k b ⟨op,to,args,n⟩ t R fs r.s r.c=Y→Goes X.cs X.S r.u (.go (⟨k,b,⟨op,to,args,n⟩::t,R⟩::fs) r.s r.c) r1.u Y:=fun Y h=>by
  rw[eu];exact .one hu h
 have bad:∀e,¬e=3→stI X.cs k b ⟨op,to,args,n⟩ t R fs r.s r.c=.dn e 0 r.s r.c→Halts X.cs X.S r.u (.go (⟨k,b,⟨op,to,args,n⟩::t,R⟩::fs) r.s r.c) e r1.s r1.c:=fun e he h=>by
  rw[es,ec];exact .one hu he h
 have knP:=Qxf (A:=[]) kn;have hRlen:(Qb R).length=R.length:=Qc R;have setR:∀(j:Nat) (v:Int) (H2:Heap),to=(j:Int)→byI v→H2=H1.set rl (.vec 1 (Qb (R.set j v)))→stI X.cs k b ⟨op,to,args,n⟩ t R fs r.s r.c=.go (⟨k,b,t,R.set to.toNat v⟩::fs) r.s r.c→∀e,Qz Qcj K .nrm e H2:=by
  intro j v H2 hj hv h2 hst e;refine hfin _ _ (hK (R.set j v) r1 H2 (kn.stL 1 rfl h2) hr1 (by simp) (hb.set hv j) et (by omega) ?_);rw[es,ec];refine one _ ?_;rw[hst,hj];rfl
 refine Qa ?_;simp only[go_sem];refine Qa ?_;simp only[go_sem];refine Qf ?_;refine Qa ?_;simp only[go_sem];refine Qe rfl (fun hc=>?_) (fun hc=>?_)
 ·
  have ho:op=1:=of_decide_eq_true hc;obtain⟨t0,t1⟩:=hto (by rw[ho];rfl);obtain⟨j,hj⟩:∃j:Nat,to=j:=⟨to.toNat,by omega⟩;have hj2:j<R.length:=by omega
  refine Qt ?_;simp only[go_sem,hR1,hj,hj2,hRlen,Qc,Qm _ _ hj2,Qcc,Qb9,Jh];intro H2 h2;exact setR j n H2 hj (hn1 ho) h2 (Qbrd ho) _
 have n1:=of_decide_eq_false hc;refine Qa ?_;simp only[go_sem];refine Qe rfl (fun hc=>?_) (fun hc=>?_)
 ·
  have ho:op=11:=of_decide_eq_true hc;have hl:args.length=1:=by have:=hlen (by omega);rw[ho]at this;simp[Qhk]at this;omega
  obtain⟨t0,t1⟩:=hto (by rw[ho];rfl);obtain⟨j,hj⟩:∃j:Nat,to=j:=⟨to.toNat,by omega⟩;have hj2:j<R.length:=by omega
  refine Qbg ?_;simp only[go_sem,hR1,hj,hj2,hRlen,Qc,Qb9,Jh];refine Qaor 0 hR1 (by omega) (hav 0 (by omega)) ?_;have hvb:=hb.rg (args.getD 0 0);have hst:=Qbsw (cs:=X.cs) (k:=k) (b:=b) (x:=⟨op,to,args,n⟩) (t:=t) (R:=R) (fs:=fs) (s:=r.s) (c:=r.c) ho;have har:ar R ⟨op,to,args,n⟩ 0=rg R (args.getD 0 0):=rfl;rw[har]at hst;obtain⟨v,hv⟩:∃v,rg R (args.getD 0 0)=v:=⟨_,rfl⟩;rw[hv]at hst hvb;rw[hv];simp only[go_sem,Qft];refine Qbl5 hvb.1 (fun h16=>?_) (fun h16=>?_)
  ·have hg:=hr1.get (j:=v.toNat) (by omega);have hd:=eq_true (show 1≤(r1.mt.drop v.toNat).length by rw[hr1.dl];omega);simp only[go_sem,Qfs,hX,Qbpu,hg,hd,hR1,hj,hj2,hRlen,Qc,Qm _ _ hj2,Qcc,Qb9,Jh];intro H2 h2;rw[ec]at h2;exact setR j _ H2 hj (hr.bc.get _) h2 (by rw[hst,if_neg (by omega)];rfl) _
  ·simp only[go_sem];exact hP 2 r1 H1 knP hr1 et (bad 2 (by omega) (by rw[hst,if_pos h16]))
 have n11:=of_decide_eq_false hc;refine Qa ?_;simp only[go_sem];refine Qe rfl (fun hc=>?_) (fun hc=>?_)
 ·
  have ho:op=12:=of_decide_eq_true hc;have hl:args.length=2:=by have:=hlen (by omega);rw[ho]at this;simp[Qhk]at this;omega
  refine Qt ?_;simp only[go_sem];refine Qaor 0 hR1 (by omega) (hav 0 (by omega)) ?_;have hvb:=hb.rg (args.getD 0 0);have hst:=Qbre (cs:=X.cs) (k:=k) (b:=b) (x:=⟨op,to,args,n⟩) (t:=t) (R:=R) (fs:=fs) (s:=r.s) (c:=r.c) ho;have har:∀i,ar R ⟨op,to,args,n⟩ i=rg R (args.getD i 0):=fun _=>rfl;simp only[har]at hst;obtain⟨v,hv⟩:∃v,rg R (args.getD 0 0)=v:=⟨_,rfl⟩;rw[hv]at hst hvb;rw[hv];simp only[go_sem,Qfw];refine Qbl5 hvb.1 (fun h16=>?_) (fun h16=>?_)
  ·simp only[go_sem,Qfv];refine Qaor 1 hR1 (by omega) (hav 1 (by omega)) ?_;have hwb:=hb.rg (args.getD 1 0);obtain⟨q,hq⟩:∃q,rg R (args.getD 1 0)=q:=⟨_,rfl⟩;rw[hq]at hst hwb;rw[hq];have hp:=hr1.put (j:=v.toNat) (by omega) q;simp only[go_sem,Qfu,hX,hmt,take4,Qbpu,Qbpv,hp];refine⟨by omega,fun H2 h2=>?_⟩;refine hfin _ _ (hK R { r1 with c:=r1.c.set v.toNat q } H2 (kn.stL 0 rfl h2) (hr1.cells hwb) rfl hb et (by show r.u<r1.u;omega) ?_);show Goes X.cs X.S r.u _ r1.u (.go (⟨k,b,t,R⟩::fs) r1.s (r1.c.set v.toNat q));rw[es,ec];exact one _ (by rw[hst,if_neg (by omega)])
  ·simp only[go_sem];exact hP 2 r1 H1 knP hr1 et (bad 2 (by omega) (by rw[hst,if_pos h16]))
 have n12:=of_decide_eq_false hc;refine Qa ?_;simp only[go_sem];refine Qe rfl (fun hc=>?_) (fun hc=>?_)
 ·
  have ho:op=13:=of_decide_eq_true hc;have hl:args.length=1:=by have:=hlen (by omega);rw[ho]at this;simp[Qhk]at this;omega
  have how:=hr1.gs.isOw;refine Qbg ?_;simp only[go_sem,hX,hmt,how];refine Qaor 0 hR1 (by omega) (hav 0 (by omega)) ?_;have hvb:=hb.rg (args.getD 0 0);have hst:=Qbrf (cs:=X.cs) (k:=k) (b:=b) (x:=⟨op,to,args,n⟩) (t:=t) (R:=R) (fs:=fs) (s:=r.s) (c:=r.c) ho;have har:ar R ⟨op,to,args,n⟩ 0=rg R (args.getD 0 0):=rfl;rw[har]at hst;obtain⟨v,hv⟩:∃v,rg R (args.getD 0 0)=v:=⟨_,rfl⟩;rw[hv]at hst hvb;rw[hv];have hls:=hr1.ls;have huS:=hr1.uS;have hS:=hr1.S;simp only[go_sem,Qfy,hX,hmt,how];refine (F_s kn).growR (new:=Qb [v]) hr1.gs (.mk' _ _ _ _) (Qn _) (by simp only[Qc,LIM,Jr,Jp];omega) fun t2 Lg2 H2 hg2 ht2 kn2=>?_;have hX2:H2 X.l=.st (.sl X.fl 3 (Ql X.cs)::.int .i64 X.S::.int .i64 r1.u::r1.sc::r1.mt):=kn2.l 0 rfl;simp only[go_sem,Qfx,hX2,hmt,ht2];intro H3 h3;have hr2:Rs.ok X { r1 with s:=r1.s++[v],sc:=t2,so:=Lg2 }:=by
   refine⟨?_,hr1.gt,hr1.c,hr1.bc,hr1.bs.app hvb,?_,hr1.lt,huS,hS⟩
   ·show Gr Lg2 1 (Qb (r1.s++[v])) t2;rw[Qbc];exact hg2
   ·show (r1.s++[v]).length≤r1.u;have h1:=hr.ls;rw[es,J7];simp;omega
  refine hfin _ _ (hK R { r1 with s:=r1.s++[v],sc:=t2,so:=Lg2 } H3 (F_s' (r:=r1) rfl rfl (kn2.stL 0 rfl h3)) hr2 rfl hb et (by show r.u<r1.u;omega) ?_);show Goes X.cs X.S r.u _ r1.u (.go (⟨k,b,t,R⟩::fs) (r1.s++[v]) r1.c);rw[es,ec];exact one _ hst
 have n13:=of_decide_eq_false hc;refine Qa ?_;simp only[go_sem];refine Qe rfl (fun hc=>?_) (fun hc=>?_)
 ·
  have ho:op=14:=of_decide_eq_true hc;obtain⟨c0,c1,c2⟩:=hcal ho;obtain⟨t0,t1⟩:=hto (by rw[ho];rfl);obtain⟨j,hj⟩:∃j:Nat,to=j:=⟨to.toNat,by omega⟩;have hj2:j<R.length:=by omega
  have hst:=Qboy (cs:=X.cs) (k:=k) (b:=b) (x:=⟨op,to,args,n⟩) (t:=t) (R:=R) (fs:=fs) (s:=r.s) (c:=r.c) ho;simp only at hst;refine Qa ?_;simp only[go_sem];refine Q5 ?_;refine Qa ?_;simp only[go_sem,Qc];try intro _
  refine Qh (Qf (Qw (fun m e1 H2=>∃(i:Nat) (c7:C) (Li:List (Nat×Obj)),m=args.length-i∧i≤args.length∧Gr Li 1 (Qb ((args.take i).map (rg R))) c7∧Kn H0 H2 E (X.F r1 [(rl,.vec 1 (Qb R))] (Li++B))∧
   lk 0 e1=.c (.ptr X.l 0)∧lk 4 e1=.c (.pp [.int .i64 op,.int .i64 to,.sl false 1 (Qb args),.int .i64 n])∧lk 5 e1=.c (.pp [.vsl rl 1 0 R.length])∧
   lk 6 e1=.c (.fn Qbl [.pp [.vsl rl 1 0 R.length],.pp [.int .i64 op,.int .i64 to,.sl false 1 (Qb args),.int .i64 n]])∧lk 7 e1=.c c7∧lk 80 e1=.c (.int .i64 args.length)∧lk 81 e1=.c (.int .i64 i)) args.length ?_ ?_))
  ·exact⟨0,_,[],by omega,by omega,.nil 1,kn,rfl,rfl,rfl,rfl,rfl,rfl,rfl⟩
  ·clear kn hR1 hX;rintro m e1 H2 ⟨i,c7,Li,hm,hi,hgr,kn,l0,l4,l5,l6,l7,l80,l81⟩;have hR1:=kn.l 1 rfl;have how:=hgr.isOw;refine Qa ?_;simp only[go_sem,l0,l4,l5,l6,l7,l80,l81,how];refine Qh (Qe rfl ?_ ?_)
   ·intro hc;have hlt:i<args.length:=(by simpa using hc);refine Qi ?_;try simp only[go_sem]
    refine Qh (Qf ?_);refine Qa ?_;simp only[go_sem,l0,l4,l5,l6,l7,l80,l81,how];refine Qt ?_;simp only[go_sem,how];refine Qaor i hR1 hlt (hav i hlt) ?_;have e9:args.getD i 0=args[i]:=(by simp[Ja,hlt]);simp only[go_sem,Qf0,how];refine (F_g kn).growR (new:=Qb [rg R (args.getD i 0)]) hgr (.mk' _ _ _ _) (Qn _) (by simp only[Qc,LIM,Jr,Jp,Jc,Js];omega) fun t2 Lg2 H3 hg2 ht2 kn2=>?_;simp only[go_sem,Qfz,ht2];refine Qt ?_;simp only[go_sem,ht2];refine⟨Qr (by omega) (by omega),?_⟩;show ∃m,_;refine⟨args.length-(i+1),by omega,i+1,t2,Lg2,rfl,by omega,?_,F_g' kn2,rfl,rfl,rfl,rfl,rfl,rfl,rfl⟩;have:Qb ((args.take (i+1)).map (rg R))=Qb ((args.take i).map (rg R))++Qb [rg R (args.getD i 0)]:=by
     rw[Jf hlt,Jv,Qbc,e9];rfl
    rw[this];exact hg2
   ·intro hc;have hge:args.length≤i:=(by simpa using hc);rw[Jd hge]at hgr;have hX:=F_o kn;refine Qv ?_;simp only[go_sem,Go.AE.X.next];refine Qbg ?_;simp only[go_sem,l0,l4,l5,l6,l7,how];obtain⟨nn,hnn⟩:∃nn:Nat,n=nn:=⟨n.toNat,by omega⟩;have hnn2:n.toNat=nn:=(by rw[hnn];rfl);rw[hnn2]at c1 c2 hst;rw[hnn];have hlt1:=hr.lt;refine hrec H0 H2 E ([(rl,.vec 1 (Qb R))]++B) Li r1 nn (args.map (rg R)) c7 false (⟨k,b,⟨op,to,args,n⟩::t,R⟩::fs) _ (by omega) (F_sw kn) hr1 (by omega) (.inr hgr) (by rw[Jc];exact c2) (fun v hv=>by
     obtain⟨a,_,rfl⟩:=Jo.1 hv;exact hb.rg a) (by rw[et,eu];exact hlt1) (fun v r2 H3 kn3 hr2 hv _ ht2 hgo=>?_) (fun e r2 H3 kn3 hr2 ht2 hha=>?_)
    ·have kn3:=F_sw kn3;have hR3:=kn3.l 1 rfl;simp only[go_sem,Qem,l0,l4,l5,l6,l7,how,hR3,hj,hj2,hRlen,Qc,Qm _ _ hj2,Qcc,Qb9,Jh];intro H4 h4;have kn4:Kn H0 H4 E (X.F r2 [(rl,.vec 1 (Qb (R.set j v)))] (Li++B)):=kn3.stL 1 rfl h4;have hg1:=hgo.1;refine hfin _ _ (hK (R.set j v) r2 H4 (Qazu kn4) hr2 (by simp) (hb.set hv j) (by rw[ht2 rfl,et]) (by omega) ?_);refine (one _ hst).trans ?_;rw[←es,←ec];have ej:j=to.toNat:=(by omega);rw[ej];exact hgo
    ·simp only[go_sem];refine hP e r2 H3 (Qazu (Qxf (A:=[]) (F_sw kn3))) hr2 (by rw[ht2 rfl,et]) ?_;refine (one _ hst).halts ?_;rw[←es,←ec];exact hha
 have n14:=of_decide_eq_false hc;refine Qa ?_;simp only[go_sem];refine Qe rfl (fun hc=>?_) (fun hc=>?_)
 ·
  have ho:op=2:=of_decide_eq_true hc;have hl:args.length=1:=by have:=hlen (by omega);rw[ho]at this;simp[Qhk]at this;omega
  obtain⟨t0,t1⟩:=hto (by rw[ho];rfl);obtain⟨j,hj⟩:∃j:Nat,to=j:=⟨to.toNat,by omega⟩;have hj2:j<R.length:=by omega
  refine Qbg ?_;simp only[go_sem,hR1,hj,hj2,hRlen,Qc,Qb9,Jh];refine Qaor 0 hR1 (by omega) (hav 0 (by omega)) ?_;simp only[go_sem,Qen,hR1,hj,hj2,hRlen,Qc,Qm _ _ hj2,Qcc,Qb9,Jh];intro H2 h2;exact setR j _ H2 hj (hb.rg _) h2 (Qboz ho) _
 have n2:=of_decide_eq_false hc;refine Qa ?_;simp only[go_sem];refine Qe rfl (fun hc=>?_) (fun hc=>?_)
 ·
  have ho:op=10:=of_decide_eq_true hc;have hl:args.length=1:=by have:=hlen (by omega);rw[ho]at this;simp[Qhk]at this;omega
  obtain⟨t0,t1⟩:=hto (by rw[ho];rfl);obtain⟨j,hj⟩:∃j:Nat,to=j:=⟨to.toNat,by omega⟩;have hj2:j<R.length:=by omega
  refine Qbg ?_;simp only[go_sem,hR1,hj,hj2,hRlen,Qc,Qb9,Jh];refine Qaor 0 hR1 (by omega) (hav 0 (by omega)) ?_;simp only[go_sem,Qep,hR1,hj,hj2,hRlen,Qc,Qb9,Jh];refine Qa8k ?_;simp only[go_sem,Qeo,hR1,hj,hj2,hRlen,Qc,Qm _ _ hj2,Qcc,Qb9,Jh,J3,J2];intro H2 h2;exact setR j _ H2 hj (Qbcy _) h2 (Qbrc ho) _
 have n10:=of_decide_eq_false hc;have h3:3≤op:=by omega
 have h9:op≤9:=by omega
 have hl:args.length=2:=by
  have:=hlen (by omega);rw[Qhk,if_neg (by omega),if_neg (by omega),if_pos (.inl ⟨h3,h9⟩)]at this;omega
 obtain⟨t0,t1⟩:=hto (by
  simp only[Qh3,Jk,decide_eq_true_eq,Jbc,decide_eq_false_iff_not];omega)
 obtain⟨j,hj⟩:∃j:Nat,to=j:=⟨to.toNat,by omega⟩;have hj2:j<R.length:=by omega
 have hst:=Qbsv (cs:=X.cs) (k:=k) (b:=b) (x:=⟨op,to,args,n⟩) (t:=t) (R:=R) (fs:=fs) (s:=r.s) (c:=r.c) h3 h9;have har:∀i,ar R ⟨op,to,args,n⟩ i=rg R (args.getD i 0):=fun _=>rfl;simp only[har]at hst;have hpb:=Qbpq (op:=op) (hb.rg (args.getD 0 0)) (hb.rg (args.getD 1 0));refine Qad ?_;simp only[go_sem];refine Qaor 0 hR1 (by omega) (hav 0 (by omega)) ?_;simp only[go_sem,Qes];refine Qaor 1 hR1 (by omega) (hav 1 (by omega)) ?_;simp only[go_sem,Qer];refine Qbms (hb.rg _) (hb.rg _) h3 h9 ?_;obtain⟨pv,hpv⟩:∃pv,arP op (rg R (args.getD 0 0)) (rg R (args.getD 1 0))=pv:=⟨_,rfl⟩;rw[hpv]at hst hpb;rw[hpv];obtain⟨v,ok⟩:=pv;simp only at hst hpb;simp only[go_sem,Qeq,J3,J2];refine Q5 ?_;refine Qa ?_;simp only[go_sem];refine Qh (Qe rfl (fun hc=>?_) (fun hc=>?_))
 ·have hok:ok=false:=Qpp hc;refine Qt ?_;simp only[go_sem];refine Qbhb ?_;simp only[go_sem];exact hP 1 r1 H1 knP hr1 et (bad 1 (by omega) (by rw[hst,if_neg (by rw[hok];simp)]))
 ·have hok:ok=true:=Qgc hc;refine Qi ?_;try simp only[go_sem]
  refine Qt ?_;simp only[go_sem,hR1,hj,hj2,hRlen,Qc,Qm _ _ hj2,Qcc,Qb9,Jh];intro H2 h2;exact setR j _ H2 hj hpb h2 (by rw[hst,if_pos hok]) _
theorem Qbkh {p:PhiD}{R:List Int}{rl xr xa w:Nat}(h1:H xr=.st [.vsl rl 1 0 R.length])(hR:H rl=.vec 1 (Qb R))(h2:H xa=.st [.int .i64 w])(hw:w<p.args.length)
  (hv:0≤p.args.getD w 0∧(p.args.getD w 0).toNat<R.length) (hK:K (.c (.int .i64 (Q20 R w p))) H) :
  Qo prog Qa9 [.ag [.int .i64 p.to,.sl false 1 (Qb p.args)],.c (.ptr xr 0),.c (.ptr xa 0)] H K:=by
 refine Qd Qai Qwc ?_;refine Qa ?_;simp only[go_sem];refine Qad ?_;rw[Q20]at hK;obtain⟨v,hvv⟩:∃v:Nat,p.args.getD w 0=v:=⟨(p.args.getD w 0).toNat,by omega⟩;rw[hvv]at hv hK;have hv2:v<R.length:=by simpa using hv.2
 simp only[go_sem,h1,h2,hR,hw,hvv,hv2,Qc,Qm _ _ hw,Qm _ _ hv2,Qb9,Jh];refine Qk ?_;simp only[go_sem,Qz,Q8,Qgg,Jb,forall_eq,RS.op];exact hK
set_option maxHeartbeats 4000000 in
theorem Qbom {ps:List PhiD}{R:List Int}{rl xr xa w:Nat}{f:Bool}(h1:H xr=.st [.vsl rl 1 0 R.length])(hR:H rl=.vec 1 (Qb R))(h2:H xa=.st [.int .i64 w])(hl:ps.length≤1200)(hw:∀p∈ps,w<p.args.length)
  (hv:∀p∈ps,0≤p.args.getD w 0∧(p.args.getD w 0).toNat<R.length) (hK:∀(H':Heap),Upd H H' []→K (.c (.sl false 1 (Qb (ps.map (Q20 R w))))) H') :
  Qo prog Qc2 [.c (.sl f 2 (Q2 ps)),.c (.fn Qa9 [.ptr xr 0,.ptr xa 0])] H K:=by
 refine Qu ?_;refine Qd Qai Qzm ?_;have kn:=Kn.start0 H;have n1:H xr≠.none:=by rw[h1];simp
 have n2:H rl≠.none:=by rw[hR];simp
 have n3:H xa≠.none:=by rw[h2];simp
 refine Qa ?_;simp only[go_sem];refine Qa ?_;simp only[go_sem];refine Q5 ?_;refine Qa ?_;simp only[go_sem,Qy];try intro _
 refine Qh (Qf (Qw (fun m e1 H1=>∃(i:Nat) (t:C) (Lg:List (Nat×Obj)),m=ps.length-i∧i≤ps.length∧Gr Lg 1 (Qb ((ps.take i).map (Q20 R w))) t∧Kn H H1 [] ([]++Lg)∧
  lk 1 e1=.c (.fn Qa9 [.ptr xr 0,.ptr xa 0])∧lk 5 e1=.c t∧lk 8 e1=.c (.sl f 2 (Q2 ps))∧lk 9 e1=.c (.int .i64 ps.length)∧lk 10 e1=.c (.int .i64 i)) ps.length ?_ ?_))
 ·exact⟨0,_,[],by omega,by omega,.nil 1,kn,rfl,rfl,rfl,rfl,rfl⟩
 ·clear kn;rintro m e1 H1 ⟨i,t,Lg,hm,hi,hgr,kn,l1,l5,l8,l9,l10⟩;have htw:=hgr.isOw;refine Qa ?_;simp only[go_sem,l1,l5,l8,l9,l10,htw];refine Qh (Qe rfl ?_ ?_)
  ·intro hc;have hlt:i<ps.length:=by simpa using hc
   obtain⟨p,hp⟩:∃p,ps[i]=p:=⟨_,rfl⟩;have hpm:p∈ps:=by rw[←hp];exact Je hlt
   refine Qi ?_;try simp only[go_sem]
   refine Qh (Qf ?_);refine Qa ?_;simp only[go_sem,l1,l5,l8,l9,l10,htw,hlt,Qy,Qa7 _ _ hlt,hp,PhiD.cells];intro x7 hx7 H2 h2';have kn:=kn.al hx7 h2';have hx7:H2 x7=.st [.int .i64 0,.sl true 1 []]:=(kn.get (x7,.st [.int .i64 0,.sl true 1 []]) (by simp)).1;simp only[go_sem,Qeh,hx7,htw];intro H3 h3;have kn:Kn H H2 [] ([(x7,.st [.int .i64 0,.sl true 1 []])]++Lg):=kn.perm (by simp);have kn:Kn H H3 [] ([(x7,.st [.int .i64 p.to,.sl false 1 (Qb p.args)])]++Lg):=kn.stL 0 rfl h3;have hx7:H3 x7=.st [.int .i64 p.to,.sl false 1 (Qb p.args)]:=kn.l 0 rfl;refine Qt ?_;simp only[go_sem,hx7,htw];refine Qbkh (p:=p) (R:=R) (rl:=rl) (w:=w) (by rw[kn.chg xr n1 (by simp)];exact h1) (by rw[kn.chg rl n2 (by simp)];exact hR) (by rw[kn.chg xa n3 (by simp)];exact h2) (hw p hpm) (hv p hpm) ?_;simp only[go_sem,Qej,htw];refine kn.growR (new:=Qb [Q20 R w p]) hgr (.mk' _ _ _ _) (Qn _) (by simp only[Qc,Jc,Js,LIM,Jr,Jp];omega) fun t2 Lg2 H4 hgr2 ht2 kn=>?_;have kn:Kn H H4 [] Lg2:=Kn.drop (B:=[(x7,_)]) (kn.perm Jm);simp only[go_sem,Qei,ht2];refine Qt ?_;simp only[go_sem,ht2];refine⟨Qr (by omega) (by omega),?_⟩;show ∃m,_;refine⟨ps.length-(i+1),by omega,i+1,t2,Lg2,rfl,by omega,?_,kn,rfl,rfl,rfl,rfl,rfl⟩;have:Qb ((ps.take (i+1)).map (Q20 R w))=Qb ((ps.take i).map (Q20 R w))++Qb [Q20 R w p]:=by rw[Jf hlt,Jv,Qbc,hp];rfl
   rw[this];exact hgr2
  ·intro hc;have hge:ps.length≤i:=by simpa using hc
   rw[Jd hge]at hgr;refine Qv ?_;simp only[go_sem,Go.AE.X.next];refine Qa ?_;simp only[go_sem,l5,htw];refine Qk ?_;simp only[go_sem,Qz,Q8,Qh8,Jb,forall_eq,RS.op,htw];exact⟨_,.c _ _ (hgr.frz kn (Qn _)),hK _ kn.fin⟩
end Go.AE.Y
namespace Go.AE.Y
attribute [local go_sem] cond_true cond_false Bool.not_true Bool.not_false
attribute [local instance] Classical.propDecidable
open Go.Proofs.Tryz
variable {H H' H0:Heap}{K:V→Heap→Prop}{E A A' B Li:List (Nat×Obj)}{X:Rn}{r r':Rs}
structure RunW (cs:List CodeD):Prop where
 ro:RunOk cs
 ins:∀k b,k<cs.length→b<(Qx cs k).blocks.length→∀x∈(Q4 (Qx cs k) b).ins,InsW cs k x
 par:∀k,k<cs.length→0≤(Qx cs k).params∧(Qx cs k).params≤3∧(Qx cs k).params≤(Qx cs k).regs
 n:cs.length≤4
theorem runW {cs:List CodeD}(h:Qas cs=true):RunW cs:=by
 have ro:=Qwa h;obtain⟨h1,h2,h3⟩:=of_decide_eq_true h;refine⟨ro,fun k b hk hb x hx=>?_,fun k hk=>?_,by omega⟩
 ·have hok:=(ro.ok k hk).bs b hb;have hop:=ro.op k b hk x hx;rw[Qap hb]at hx;have ec:=Qcl hk;have g:Q42 cs k x=true:=by
   have hb':b<cs[k].blocks.length:=by rw[←ec];exact hb
   have g:=(h2 k hk).2 b hb';simp only[Q0k,Jk,Jab]at g;refine g.1.2 x ?_;have:(Qx cs k).blocks[b]=cs[k].blocks[b]:=by simp only[ec]
   rw[←this];exact hx
  simp only[Q42,insL,Jk]at g;obtain⟨_,g3⟩:=g;refine⟨⟨hop.1,hop.2.1⟩,fun h1=>?_,fun v hv=>?_,fun hm=>?_,hop.2.2,fun h14=>?_,hok.al x hx⟩
  ·rw[if_neg (by omega)]at g3;simp only[Jk,decide_eq_true_eq]at g3;exact⟨g3.1.2.1,g3.1.2.2⟩
  ·have:=hok.args x hx v hv;obtain⟨a,b⟩:=this;exact⟨a,by omega⟩
  ·obtain⟨a,b⟩:=hok.to x hx hm;exact⟨a,by omega⟩
  ·rw[if_pos h14]at g3;simp only[Jk,decide_eq_true_eq]at g3;obtain⟨⟨a,b⟩,c⟩:=g3;have hlt:x.n.toNat<cs.length:=by omega
   refine⟨a,by omega,?_⟩;rw[c,Qrd hlt,Qcl hlt]
 ·obtain⟨g1,_⟩:=h2 k hk;simp only[Qq8,Jk,decide_eq_true_eq]at g1;rw[Qcl hk];omega
def Qati (cs:List CodeD)(k b:Nat):Option Nat→List Int→Fr
 |none,R=>⟨k,b,(Q4 (Qx cs k) b).ins,R⟩
 |some a,R=>frJ cs k a R b
def Qbdc:Option Nat→Int
 |none=>-1
 |some a=>a
def Qbcl (q:CodeD)(b:Nat):Option Nat→Prop
 |none=>True
 |some a=>a<q.blocks.length∧(b:Int)∈gnx q a
theorem Qbl9:∀(ns:List Int) (i:Nat) (v:Int),i<ns.length→ns.getD i 0=v→v∉ns.take i→ns.idxOf v=i
 |[],i,v,h,_,_=>by simp at h
 |x::ns,0,v,_,h,_=>by
  have:x=v:=by simpa using h
  simp[List.idxOf_cons,this]
 |x::ns,i+1,v,h1,h2,h3=>by
  have hx:¬x=v:=by
   intro hh;exact h3 (by simp[hh])
  have:=Qbl9 ns i v (by simpa using h1) (by simpa using h2) (fun hh=>h3 (by simp[hh]));rw[List.idxOf_cons,cond_eq_ite,if_neg (by simpa using hx),this]
theorem Qbrn {q:CodeD}{b a:Nat}{ix:Int}(hq:q.ok)(ha:a<q.blocks.length)(hm:(b:Int)∈gnx q a)(h:IsIx (Q0 (gnx q) (b:Int) q.blocks.length) (a:Int) ix) :
  ix=(wayI q b a:Int)∧wayI q b a<(Q0 (gnx q) (b:Int) q.blocks.length).length:=by
 have h1:=hq.ix ha hm;refine⟨?_,h1⟩;rcases h with ⟨rfl,hn⟩|⟨i,rfl,h2,h3,h4⟩
 ·exact absurd (List.idxOf_lt_length_iff.1 h1) hn
 ·rw[wayI,Qbl9 _ i _ h2 h3 h4]
theorem Qbin (n:Nat):List.replicate n [C.int .i64 0]=Qb (List.replicate n 0):=by simp[Qb]
theorem Qbnk (l:List Int)(n:Nat):Qb l++(Qb (List.replicate n 0)).drop l.length=Qb (l++List.replicate (n-l.length) 0):=by simp[Qb,List.drop_replicate]
theorem Rs.ok.d16 (h:r.ok X):r.mt.drop 16=[r.tc]:=by
 rw[Rs.mt,List.drop_append_of_le_length (by simp[Qiy,h.c]),Jac (by simp[Qiy,h.c])];rfl
theorem Rs.ok.t16 (h:r.ok X):r.mt.take 16=Qiy r.c:=by
 rw[Rs.mt,List.take_append_of_le_length (by simp[Qiy,h.c]),Jd (by simp[Qiy,h.c])]
theorem Rs.ok.d17 (h:r.ok X):r.mt.drop 17=[]:=Jac (by rw[h.mt];exact Jn _)
def o9 (q:CodeD)(n:Nat):Obj:=.st [.int .i64 q.params,.int .i64 n,.sl false 5 (Qs q.blocks)]
def oB (y:BlkD):Obj:=.st [.sl false 2 (Q2 y.phis),.sl false 4 (Qaw y.ins),.int .i64 y.jump,.int .i64 y.on,.sl false 1 (Qb y.next)]
def phF (R:List Int)(w:Nat)(l:List PhiD)(T:List Int):List Int:=l.foldl (fun T p=>T.set p.to.toNat (Q20 R w p)) T
theorem Qbj7 (R:List Int)(w:Nat)(l:List PhiD)(p:PhiD)(T:List Int):phF R w (l++[p]) T=(phF R w l T).set p.to.toNat (Q20 R w p):=by simp[phF]
theorem Qbof (R:List Int)(w:Nat)(l:List PhiD)(T:List Int):(phF R w l T).length=T.length:=Qa70 l T
set_option maxHeartbeats 32000000 in
theorem Qbc1 (hw:RunW X.cs){m:Nat}(ih:∀m',m<m'→Qbho X m'):Qbho X m:=by
 intro H0 H E B Li r k l inc main fs K hm kn hr hk hin hl hbl hlt hK hP;have hok:=hw.ro.ok k hk;obtain⟨hp0,hp3,hpr⟩:=hw.par k hk;have hwi:=hw.ins k;have hnx:=fun b hb hj R=>Qbet hw.ro (k:=k) (b:=b) hk hb hj R;have hjn:=fun b hb=>hw.ro.jn k b hk hb;obtain⟨q,hq⟩:∃q,Qx X.cs k=q:=⟨_,rfl⟩;rw[hq]at hok hp0 hp3 hpr hl hwi hnx;simp only[hq]at hjn;have hqk:X.cs[k]=q:=by rw[←Qcl hk];exact hq
 have hr0:=hok.r0;have hr1:=hok.r1;have hb0:=hok.b0;have hb1:=hok.b1;obtain⟨n,hn⟩:∃n:Nat,q.regs=n:=⟨q.regs.toNat,by omega⟩;have hn2:q.regs.toNat=n:=by omega
 have hln:l.length≤n:=by omega
 have how:=hin.isOw;have hX:=F_o kn;have hmt:=hr.mt;refine Qd Qai Q3p ?_;refine Qa ?_;simp only[go_sem,how];refine Qa ?_;simp only[go_sem,hX,hmt,hk,Q3,Qal _ _ hk,CodeD.cells,hqk,hn,how];intro x9 hx9 H1 h1;have kn:Kn H0 H1 E (X.F r [(x9,.st [.int .i64 0,.int .i64 0,.sl true 5 []])] (Li++B)):=F_al ((F_in kn).al hx9 h1);have hx9:H1 x9=.st [.int .i64 0,.int .i64 0,.sl true 5 []]:=kn.l 1 rfl;simp only[go_sem,Qgj,hx9,how];intro H2 h2;have kn:Kn H0 H2 E (X.F r [(x9,o9 q n)] (Li++B)):=kn.stL 1 rfl h2;have hx9:H2 x9=.st [.int .i64 q.params,.int .i64 n,.sl false 5 (Qs q.blocks)]:=kn.l 1 rfl;refine Qa ?_;simp only[go_sem,hx9,how];refine⟨by simp only[LIM];omega,fun rl hrl H3 h3=>?_⟩;have kn:Kn H0 H3 E (X.F r [(x9,o9 q n),(rl,.vec 1 (Qb (List.replicate n 0)))] (Li++B)):=F_al (A:=[(x9,o9 q n)]) (kn.al hrl (by rw[h3,Qbin]));simp only[go_sem,Qgl,how];intro x10 hx10 H4 h4;have kn:Kn H0 H4 E (X.F r [(x9,o9 q n),(rl,.vec 1 (Qb (List.replicate n 0))),(x10,.st [.sl true 1 []])] (Li++B)):=F_al (A:=[(x9,o9 q n),(rl,.vec 1 (Qb (List.replicate n 0)))]) (kn.al hx10 h4);have hx10:H4 x10=.st [.sl true 1 []]:=kn.l 3 rfl;simp only[go_sem,Qgk,hx10,how];intro H5 h5;have kn:Kn H0 H5 E (X.F r [(x9,o9 q n),(rl,.vec 1 (Qb (List.replicate n 0))),(x10,.st [.vsl rl 1 0 n])] (Li++B)):=kn.stL 3 rfl h5;have hx10:H5 x10=.st [.vsl rl 1 0 n]:=kn.l 3 rfl;have hrl5:H5 rl=.vec 1 (Qb (List.replicate n 0)):=kn.l 2 rfl;have hs:=hin.slc (F_g kn);have hsok:=eq_true hs.ok;have hssz:=hs.sz;have hsr:=hs.rows;have hsl:=hs.len;rw[Qc]at hsl;refine Qa ?_;simp only[go_sem,hx10,hrl5,hsok,hssz,hsr,hsl,how,Qc,Ja3,Jh];refine⟨hln,Qn _,fun H6 h6=>?_⟩;rw[Qbnk]at h6;have kn:Kn H0 H6 E (X.F r [(x9,o9 q n),(rl,.vec 1 (Qb (Qacf q l))),(x10,.st [.vsl rl 1 0 n])] (Li++B)):=by
  rw[Qacf,hn2];exact kn.stL 2 rfl h6
 have kn:Kn H0 H6 E (X.F r [(rl,.vec 1 (Qb (Qacf q l))),(x9,o9 q n),(x10,.st [.vsl rl 1 0 n])] (Li++B)):=kn.perm (Qj fun f hf h0 hc hp=>by
  show f ([(X.l,X.o r)]++(([(x9,o9 q n)]++([(rl,.vec 1 (Qb (Qacf q l)))]++[(x10,.st [.vsl rl 1 0 n])]))++((r.so++r.tl)++(Li++B))))=f ([(X.l,X.o r)]++(([(rl,.vec 1 (Qb (Qacf q l)))]++([(x9,o9 q n)]++[(x10,.st [.vsl rl 1 0 n])]))++((r.so++r.tl)++(Li++B))));simp only[hf];omega)
 clear hx9 hx10 hrl5 hs hsok hssz hsr hsl hX;refine Qa ?_;simp only[go_sem];refine Qf (Qw (fun mm e1 H1=>∃(b:Nat) (fr:Option Nat) (R:List Int) (r1:Rs),mm=X.S-r1.u∧b<q.blocks.length∧R.length=n∧byL R∧Kn H0 H1 E (X.F r1 [(rl,.vec 1 (Qb R)),(x9,o9 q n),(x10,.st [.vsl rl 1 0 n])] (Li++B))∧r1.ok X∧r.u≤r1.u∧r1.t.length≤r1.u∧(main=false→r1.t=r.t)∧Qbcl q b fr∧
  Goes X.cs X.S r.u (.go (fr0 X.cs k l::fs) r.s r.c) r1.u (.go (Qati X.cs k b fr R::fs) r1.s r1.c)∧
  lk 0 e1=.c (.ptr X.l 0)∧lk 3 e1=.c (.bool main)∧lk 9 e1=.c (.ptr x9 0)∧lk 10 e1=.c (.ptr x10 0)∧lk 11 e1=.c (.int .i64 b)∧lk 12 e1=.c (.int .i64 (Qbdc fr))) (X.S-r.u) ?_ ?_)
 ·refine⟨0,none,Qacf q l,r,rfl,hb0,by rw[Qbfg (by omega),hn2],Qbhx hbl,kn,hr,Jn _,hlt,fun _=>rfl,trivial,?_,rfl,rfl,rfl,rfl,rfl,rfl⟩;have:Qati X.cs k 0 none (Qacf q l)=fr0 X.cs k l:=by rw[Qati,fr0,hq]
  rw[this];exact .refl hr.uS
 clear kn hmt;rintro mm e1 H7 ⟨b,fr,R,r1,hmm,hb,hRl,hbR,kn,hr1',hu1,ht1,htf,hfo,hgo,l0,l3,l9,l10,l11,l12⟩;refine Qf ?_;refine Q5 ?_;refine Qa ?_;simp only[go_sem,l0,l3,l9,l10,l11,l12];clear l0 l3 l9 l10 l11 l12;refine Q28 (fun e2 H2=>∃r2:Rs,Kn H0 H2 E (X.F r2 [(rl,.vec 1 (Qb R)),(x9,o9 q n),(x10,.st [.vsl rl 1 0 n])] (Li++B))∧r2.ok X∧r2.u=r1.u∧r2.s=r1.s∧r2.c=r1.c∧(main=false→r2.t=r1.t)∧
  lk 0 e2=.c (.ptr X.l 0)∧lk 3 e2=.c (.bool main)∧lk 9 e2=.c (.ptr x9 0)∧lk 10 e2=.c (.ptr x10 0)∧lk 11 e2=.c (.int .i64 b)∧lk 12 e2=.c (.int .i64 (Qbdc fr))) ?_ ?_
 ·intro Q' hQn hQr hQe;refine Qe rfl (fun hc=>?_) (fun hc=>?_)
  ·have hX:=F_o kn;have hmt:=hr1'.mt;have hd16:=hr1'.d16;have ht16:=hr1'.t16;have hd17:=hr1'.d17;have how:=hr1'.gt.isOw;have huS:=hr1'.uS;have hS:=hr1'.S;refine Qt ?_;simp only[go_sem,hX,hmt,hd16,how];refine (F_t kn).growR (new:=Qb [(b:Int)]) hr1'.gt (.mk' _ _ _ _) (Qn _) (by simp only[Qc,LIM,Jr,Jp];omega) fun t2 Lg2 H8 hg2 ht2 kn2=>?_;have hX:H8 X.l=.st (.sl X.fl 3 (Ql X.cs)::.int .i64 X.S::.int .i64 r1.u::r1.sc::r1.mt):=kn2.l 0 rfl;simp only[go_sem,Qgm,hX,hmt,hd16,ht16,hd17,ht2,Jar];intro H9 h9;refine hQn _ _ ⟨{ r1 with t:=r1.t++[(b:Int)],tc:=t2,tl:=Lg2 },F_t' (r:=r1) rfl rfl (kn2.stL 0 rfl h9),⟨hr1'.gs,?_,hr1'.c,hr1'.bc,hr1'.bs,hr1'.ls,?_,huS,hS⟩,rfl,rfl,rfl,(fun h=>by rw[h]at hc;cases hc),rfl,rfl,rfl,rfl,rfl,rfl⟩
   ·show Gr Lg2 1 (Qb (r1.t++[(b:Int)])) t2;rw[Qbc];exact hg2
   ·show (r1.t++[(b:Int)]).length≤r1.u+1;rw[J7];simp;exact ht1
  ·refine Qi ?_;exact hQn _ _ ⟨r1,kn,hr1',rfl,rfl,rfl,fun _=>rfl,rfl,rfl,rfl,rfl,rfl,rfl⟩
 clear kn;rintro e2 H8 ⟨r2,kn,hr2,eu,es,ec,et,l0,l3,l9,l10,l11,l12⟩;have hx9:H8 x9=.st [.int .i64 q.params,.int .i64 n,.sl false 5 (Qs q.blocks)]:=kn.l 2 rfl;obtain⟨y,hy⟩:∃y,q.blocks[b]=y:=⟨_,rfl⟩;have hyb:Q4 q b=y:=by rw[Qap hb,hy]
 have hyo:=hok.bs b hb;rw[hy]at hyo;have hil:=hok.il b hb;rw[hy]at hil;refine Qa ?_;simp only[go_sem,l0,l3,l9,l10,l11,l12,hx9,hb,Qp,Qa6 _ _ hb,hy,BlkD.cells];intro x13 hx13 H9 h9;have kn:Kn H0 H9 E (X.F r2 [(rl,.vec 1 (Qb R)),(x9,o9 q n),(x10,.st [.vsl rl 1 0 n]),(x13,.st [.sl true 2 [],.sl true 4 [],.int .i64 0,.int .i64 0,.sl true 1 []])] (Li++B)):=F_al (A:=[(rl,.vec 1 (Qb R)),(x9,o9 q n),(x10,.st [.vsl rl 1 0 n])]) (kn.al hx13 h9);have hx13:H9 x13=.st [.sl true 2 [],.sl true 4 [],.int .i64 0,.int .i64 0,.sl true 1 []]:=kn.l 4 rfl;simp only[go_sem,Qgn,hx13,l0,l3,l9,l10,l11,l12];intro H10 h10;have kn:Kn H0 H10 E (X.F r2 [(rl,.vec 1 (Qb R)),(x9,o9 q n),(x10,.st [.vsl rl 1 0 n]),(x13,oB y)] (Li++B)):=kn.stL 4 rfl h10;clear l0 l3 l9 l10 l11 l12 hx9 hx13;refine Q28 (fun e3 H3=>∃R2:List Int,R2.length=n∧byL R2∧Qati X.cs k b fr R=⟨k,b,y.ins,R2⟩∧Kn H0 H3 E (X.F r2 [(rl,.vec 1 (Qb R2)),(x9,o9 q n),(x10,.st [.vsl rl 1 0 n]),(x13,oB y)] (Li++B))∧
  lk 0 e3=.c (.ptr X.l 0)∧lk 3 e3=.c (.bool main)∧lk 9 e3=.c (.ptr x9 0)∧lk 10 e3=.c (.ptr x10 0)∧lk 11 e3=.c (.int .i64 b)∧lk 13 e3=.c (.ptr x13 0)) ?_ ?_
 ·intro Q' hQn hQr hQe;have hx13:H10 x13=.st [.sl false 2 (Q2 y.phis),.sl false 4 (Qaw y.ins),.int .i64 y.jump,.int .i64 y.on,.sl false 1 (Qb y.next)]:=kn.l 4 rfl;have hx9:H10 x9=.st [.int .i64 q.params,.int .i64 n,.sl false 5 (Qs q.blocks)]:=kn.l 2 rfl
  cases fr with
  |none=>
   have hneg:decide ((0:Int)≤-1)=false:=rfl;refine Qa ?_;simp only[go_sem,Qbdc,hneg,hx13];refine Qe (c:=false) rfl (fun hc=>by cases hc) (fun _=>?_);refine Qi ?_;refine hQn _ _ ⟨R,hRl,hbR,?_,kn,rfl,rfl,rfl,rfl,rfl,rfl⟩;rw[Qati,hq,hyb]
  |some a=>
   obtain⟨ha,ham⟩:=hfo;have hge:decide ((0:Int)≤(a:Int))=true:=decide_eq_true (Ja8 a);have hhead:Qati X.cs k b (some a) R=⟨k,b,y.ins,phiR R (wayI q b a) y.phis⟩:=by rw[Qati,frJ,hq,hyb]
   refine Qa ?_;simp only[go_sem,Qbdc,hge,hx13,Qy];try intro _
   refine Qe rfl (fun hc=>?_) (fun hc=>?_)
   rotate_left
   ·have hnil:y.phis=[]:=by
     have:¬(0:Int)<(y.phis.length:Int):=of_decide_eq_false hc;exact List.length_eq_zero_iff.1 (by omega)
    refine Qi ?_;refine hQn _ _ ⟨R,hRl,hbR,?_,kn,rfl,rfl,rfl,rfl,rfl,rfl⟩;rw[hhead,hnil];rfl
   refine Qa ?_;simp only[go_sem,hx9];refine Q0j (rows:=Qs q.blocks) (nx:=gnx q) (Qmu H10 q false) fun fl2 H11 hu=>?_;have kn:=kn.call0 hu;have hpi:Qj7 (gnx q) (b:Int) (Qs q.blocks).length=Q0 (gnx q) (b:Int) q.blocks.length:=by
    rw[Qp,Qj7,decide_eq_true (Ja8 b),decide_eq_true (show (b:Int)≤(q.blocks.length:Int)-1 by omega)];rfl
   rw[hpi];simp only[go_sem,Qgq];refine Qbcm (.mk' _ _ _ _) rfl fun ix hix=>?_;obtain⟨rfl,hwl⟩:=Qbrn hok ha ham hix;obtain⟨w,hw'⟩:∃w,wayI q b a=w:=⟨_,rfl⟩;rw[hw']at hwl hhead;rw[hw'];have hpw:∀p∈y.phis,w<p.args.length:=fun p hp=>by rw[hyo.pal p hp];exact hwl
   have hpv:∀p∈y.phis,0≤p.args.getD w 0∧(p.args.getD w 0).toNat<R.length:=fun p hp=>by
    rw[Ja,Jg (hpw p hp)];obtain⟨z1,z2⟩:=hyo.pargs p hp _ (Je (hpw p hp));refine⟨z1,?_⟩;show (p.args[w]'(hpw p hp)).toNat<R.length;omega
   simp only[go_sem,Qgp];intro x14 hx14 H12 h12;have kn:Kn H0 H12 E (X.F r2 [(rl,.vec 1 (Qb R)),(x9,o9 q n),(x10,.st [.vsl rl 1 0 n]),(x13,oB y),(x14,.st [.int .i64 0])] (Li++B)):=F_al (A:=[(rl,.vec 1 (Qb R)),(x9,o9 q n),(x10,.st [.vsl rl 1 0 n]),(x13,oB y)]) (kn.al hx14 h12);have hx14:H12 x14=.st [.int .i64 0]:=kn.l 5 rfl;simp only[go_sem,Qgo,hx14];intro H13 h13;have kn:Kn H0 H13 E (X.F r2 [(rl,.vec 1 (Qb R)),(x9,o9 q n),(x10,.st [.vsl rl 1 0 n]),(x13,oB y),(x14,.st [.int .i64 w])] (Li++B)):=kn.stL 5 rfl h13;have hx13:H13 x13=.st [.sl false 2 (Q2 y.phis),.sl false 4 (Qaw y.ins),.int .i64 y.jump,.int .i64 y.on,.sl false 1 (Qb y.next)]:=kn.l 4 rfl;have hx10:H13 x10=.st [.vsl rl 1 0 R.length]:=by rw[hRl];exact kn.l 3 rfl
   have hrl:H13 rl=.vec 1 (Qb R):=kn.l 1 rfl;refine Qa ?_;simp only[go_sem,hx13];refine Qbom (ps:=y.phis) (R:=R) (rl:=rl) (w:=w) hx10 hrl (kn.l 5 rfl) hil.2 hpw hpv fun H14 hu=>?_;have kn:Kn H0 H14 E (X.F r2 [(rl,.vec 1 (Qb R)),(x9,o9 q n),(x10,.st [.vsl rl 1 0 n]),(x13,oB y)] (Li++B)):=Qxf (A:=[(rl,.vec 1 (Qb R)),(x9,o9 q n),(x10,.st [.vsl rl 1 0 n]),(x13,oB y)]) (A':=[(x14,.st [.int .i64 w])]) (kn.call0 hu);have hx13:H14 x13=.st [.sl false 2 (Q2 y.phis),.sl false 4 (Qaw y.ins),.int .i64 y.jump,.int .i64 y.on,.sl false 1 (Qb y.next)]:=kn.l 4 rfl;simp only[go_sem,Qgr];refine Qa ?_;simp only[go_sem,hx13,Qy];try intro _
   clear hx13 hx10 hrl hx9;refine Qf (Qw (fun mm e1 H1=>∃(i:Nat),mm=y.phis.length-i∧i≤y.phis.length∧byL (phF R w (y.phis.take i) R)∧Kn H0 H1 E (X.F r2 [(rl,.vec 1 (Qb (phF R w (y.phis.take i) R))),(x9,o9 q n),(x10,.st [.vsl rl 1 0 n]),(x13,oB y)] (Li++B))∧
    lk 0 e1=.c (.ptr X.l 0)∧lk 3 e1=.c (.bool main)∧lk 9 e1=.c (.ptr x9 0)∧lk 10 e1=.c (.ptr x10 0)∧lk 11 e1=.c (.int .i64 b)∧lk 13 e1=.c (.ptr x13 0)∧lk 15 e1=.c (.sl false 1 (Qb (y.phis.map (Q20 R w))))∧lk 68 e1=.c (.sl false 2 (Q2 y.phis))∧lk 69 e1=.c (.int .i64 y.phis.length)∧lk 70 e1=.c (.int .i64 i)) y.phis.length ?_ ?_)
   ·exact⟨0,by omega,by omega,hbR,kn,rfl,rfl,rfl,rfl,rfl,rfl,rfl,rfl,rfl,rfl⟩
   clear kn;rintro m2 e3 H15 ⟨i,hm2,hi,hbT,kn,l0,l3,l9,l10,l11,l13,l15,l68,l69,l70⟩;have hx10:H15 x10=.st [.vsl rl 1 0 n]:=kn.l 3 rfl;obtain⟨T,hT⟩:∃T,phF R w (y.phis.take i) R=T:=⟨_,rfl⟩;have hTl:T.length=n:=by rw[←hT,Qbof,hRl]
   rw[hT]at kn hbT;have hrl:H15 rl=.vec 1 (Qb T):=kn.l 1 rfl;refine Qa ?_;simp only[go_sem,l0,l3,l9,l10,l11,l13,l15,l68,l69,l70];refine Qh (Qe rfl (fun hc=>?_) (fun hc=>?_))
   ·have hlt:i<y.phis.length:=(by simpa using hc);obtain⟨p,hp⟩:∃p,y.phis[i]=p:=⟨_,rfl⟩;have hpm:p∈y.phis:=(by rw[←hp];exact Je hlt);obtain⟨z1,z2⟩:=hyo.pto p hpm;obtain⟨j,hj⟩:∃j:Nat,p.to=j:=⟨p.to.toNat,by omega⟩;have hj2:j<n:=(by omega);have hj3:j<T.length:=(by omega);have hnl:i<(y.phis.map (Q20 R w)).length:=(by rw[Jc];exact hlt);have hng:(y.phis.map (Q20 R w)).getD i 0=Q20 R w p:=(by simp[Ja,hlt,hp]);refine Qi ?_;try simp only[go_sem]
    refine Qh (Qf ?_);refine Qa ?_;simp only[go_sem,l0,l3,l9,l10,l11,l13,l15,l68,l69,l70,hlt,Qy,Qa7 _ _ hlt,hp,PhiD.cells];intro x17 hx17 H16 h16;have kn:Kn H0 H16 E (X.F r2 [(rl,.vec 1 (Qb T)),(x9,o9 q n),(x10,.st [.vsl rl 1 0 n]),(x13,oB y),(x17,.st [.int .i64 0,.sl true 1 []])] (Li++B)):=F_al (A:=[(rl,.vec 1 (Qb T)),(x9,o9 q n),(x10,.st [.vsl rl 1 0 n]),(x13,oB y)]) (kn.al hx17 h16);have hx17:H16 x17=.st [.int .i64 0,.sl true 1 []]:=kn.l 5 rfl;simp only[go_sem,Qfq,hx17,l0,l3,l9,l10,l11,l13,l15,l68,l69,l70];intro H17 h17;have kn:Kn H0 H17 E (X.F r2 [(rl,.vec 1 (Qb T)),(x9,o9 q n),(x10,.st [.vsl rl 1 0 n]),(x13,oB y),(x17,.st [.int .i64 p.to,.sl false 1 (Qb p.args)])] (Li++B)):=kn.stL 5 rfl h17;have hx17:H17 x17=.st [.int .i64 p.to,.sl false 1 (Qb p.args)]:=kn.l 5 rfl;have hx10:H17 x10=.st [.vsl rl 1 0 n]:=kn.l 3 rfl;have hrl:H17 rl=.vec 1 (Qb T):=kn.l 1 rfl;refine Qbg ?_;simp only[go_sem,hx10,hx17,hrl,hj,hj2,hTl,hnl,hng,Qc,Qm _ _ hj3,Qm _ _ hnl,Qcc,Jh];intro H18 h18;have kn:Kn H0 H18 E (X.F r2 [(rl,.vec 1 (Qb (T.set j (Q20 R w p)))),(x9,o9 q n),(x10,.st [.vsl rl 1 0 n]),(x13,oB y),(x17,.st [.int .i64 p.to,.sl false 1 (Qb p.args)])] (Li++B)):=kn.stL 1 rfl h18;have kn:=Qxf (A:=[(rl,.vec 1 (Qb (T.set j (Q20 R w p)))),(x9,o9 q n),(x10,.st [.vsl rl 1 0 n]),(x13,oB y)]) (A':=[(x17,.st [.int .i64 p.to,.sl false 1 (Qb p.args)])]) kn;have hTs:phF R w (y.phis.take (i+1)) R=T.set j (Q20 R w p):=by
     rw[Jf hlt,hp,Qbj7,hT,hj];rfl
    refine Qt ?_;simp only[go_sem];refine⟨Qr (by omega) (by omega),?_⟩;show ∃m,_;refine⟨y.phis.length-(i+1),by omega,i+1,rfl,by omega,?_,?_,rfl,rfl,rfl,rfl,rfl,rfl,rfl,rfl,rfl,rfl⟩
    ·rw[hTs];exact hbT.set (hbR.rg _) j
    ·rw[hTs];exact kn
   ·have hge:y.phis.length≤i:=(by simpa using hc);rw[Jd hge]at hT;refine Qv ?_;simp only[go_sem,Go.AE.X.next];refine hQn _ _ ⟨T,hTl,hbT,?_,kn,rfl,rfl,rfl,rfl,rfl,rfl⟩;rw[hhead,←hT];rfl
 clear kn;rintro e3 H11 ⟨R2,hR2l,hbR2,hhd,kn,l0,l3,l9,l10,l11,l13⟩;have hgo2:Goes X.cs X.S r.u (.go (fr0 X.cs k l::fs) r.s r.c) r2.u (.go (⟨k,b,y.ins,R2⟩::fs) r2.s r2.c):=by rw[eu,es,ec,←hhd];exact hgo
 have hx13:H11 x13=.st [.sl false 2 (Q2 y.phis),.sl false 4 (Qaw y.ins),.int .i64 y.jump,.int .i64 y.on,.sl false 1 (Qb y.next)]:=kn.l 4 rfl;refine Q5 ?_;refine Qa ?_;simp only[go_sem,l0,l3,l9,l10,l11,l13,hx13,Qay];try intro _
 clear l0 l3 l9 l10 l11 l13 hx13;refine Qh (Qf (Qw (fun mm e1 H1=>∃(i:Nat) (R3:List Int) (r3:Rs),mm=y.ins.length-i∧i≤y.ins.length∧R3.length=n∧byL R3∧Kn H0 H1 E (X.F r3 [(rl,.vec 1 (Qb R3)),(x9,o9 q n),(x10,.st [.vsl rl 1 0 n]),(x13,oB y)] (Li++B))∧r3.ok X∧r2.u≤r3.u∧r3.t=r2.t∧
  Goes X.cs X.S r.u (.go (fr0 X.cs k l::fs) r.s r.c) r3.u (.go (⟨k,b,y.ins.drop i,R3⟩::fs) r3.s r3.c)∧
  lk 0 e1=.c (.ptr X.l 0)∧lk 3 e1=.c (.bool main)∧lk 9 e1=.c (.ptr x9 0)∧lk 10 e1=.c (.ptr x10 0)∧lk 11 e1=.c (.int .i64 b)∧lk 13 e1=.c (.ptr x13 0)∧lk 85 e1=.c (.sl false 4 (Qaw y.ins))∧lk 86 e1=.c (.int .i64 y.ins.length)∧lk 87 e1=.c (.int .i64 i)) y.ins.length ?_ ?_))
 ·exact⟨0,R2,r2,by omega,by omega,hR2l,hbR2,kn,hr2,Jn _,rfl,hgo2,rfl,rfl,rfl,rfl,rfl,rfl,rfl,rfl,rfl⟩
 clear kn;rintro m3 e4 H12 ⟨i,R3,r3,hm3,hi,hR3l,hbR3,kn,hr3,hu3,ht3,hgo3,l0,l3,l9,l10,l11,l13,l85,l86,l87⟩;refine Qa ?_;simp only[go_sem,l0,l3,l9,l10,l11,l13,l85,l86,l87];refine Qh (Qe rfl (fun hc=>?_) (fun hc=>?_))
 ·have hlt:i<y.ins.length:=by simpa using hc
  obtain⟨x,hx⟩:∃x,y.ins[i]=x:=⟨_,rfl⟩;have hxm:x∈y.ins:=by rw[←hx];exact Je hlt
  have hxw:InsW X.cs k x:=hwi b hk hb x (by rw[hyb];exact hxm);have hdr:y.ins.drop i=x::y.ins.drop (i+1):=by rw[J8 hlt,hx]
  obtain⟨op,to,args,nn⟩:=x;refine Qi ?_;try simp only[go_sem]
  refine Qh (Qf ?_);refine Qa ?_;simp only[go_sem,l0,l3,l9,l10,l11,l13,l85,l86,l87,hlt,Qay,Qey _ _ hlt,hx,InsD.cells];intro x19 hx19 H13 h13;have kn:Kn H0 H13 E (X.F r3 [(rl,.vec 1 (Qb R3)),(x9,o9 q n),(x10,.st [.vsl rl 1 0 n]),(x13,oB y),(x19,.st [.int .i64 0,.int .i64 0,.sl true 1 [],.int .i64 0])] (Li++B)):=F_al (A:=[(rl,.vec 1 (Qb R3)),(x9,o9 q n),(x10,.st [.vsl rl 1 0 n]),(x13,oB y)]) (kn.al hx19 h13);have hx19:H13 x19=.st [.int .i64 0,.int .i64 0,.sl true 1 [],.int .i64 0]:=kn.l 5 rfl;simp only[go_sem,Qfr,hx19,l0,l3,l9,l10,l11,l13,l85,l86,l87];intro H14 h14;have kn:Kn H0 H14 E (X.F r3 [(rl,.vec 1 (Qb R3)),(x9,o9 q n),(x10,.st [.vsl rl 1 0 n]),(x13,oB y),(x19,.st [.int .i64 op,.int .i64 to,.sl false 1 (Qb args),.int .i64 nn])] (Li++B)):=kn.stL 5 rfl h14;have hx19:H14 x19=.st [.int .i64 op,.int .i64 to,.sl false 1 (Qb args),.int .i64 nn]:=kn.l 5 rfl;have hx10:H14 x10=.st [.vsl rl 1 0 R3.length]:=by rw[hR3l];exact kn.l 3 rfl
  have kn:=Qbpk (A:=[(rl,.vec 1 (Qb R3))]) (A':=[(x9,o9 q n),(x10,.st [.vsl rl 1 0 n]),(x13,oB y),(x19,.st [.int .i64 op,.int .i64 to,.sl false 1 (Qb args),.int .i64 nn])]) kn;rw[hdr]at hgo3;refine Qt ?_;simp only[go_sem,hx19,hx10];refine Qbmy (k:=k) (b:=b) (t:=y.ins.drop (i+1)) (fs:=fs) hxw hk (by rw[hq,hn2];exact hR3l) hbR3 kn hr3 (ih _ (by omega)) (fun R4 r4 H15 kn4 hr4 hR4l hbR4 ht4 hu4 hgo4=>?_) (fun e r4 H15 kn4 hr4 ht4 hha=>?_)
  ·have kn4:=Qxf (A:=[(rl,.vec 1 (Qb R4)),(x9,o9 q n),(x10,.st [.vsl rl 1 0 n]),(x13,oB y)]) (A':=[(x19,.st [.int .i64 op,.int .i64 to,.sl false 1 (Qb args),.int .i64 nn])]) (Qbpj (A:=[(rl,.vec 1 (Qb R4))]) (A':=[(x9,o9 q n),(x10,.st [.vsl rl 1 0 n]),(x13,oB y),(x19,.st [.int .i64 op,.int .i64 to,.sl false 1 (Qb args),.int .i64 nn])]) kn4);simp only[go_sem];refine Qt ?_;simp only[go_sem];refine⟨Qr (by omega) (by omega),?_⟩;show ∃m,_;exact⟨y.ins.length-(i+1),by omega,i+1,R4,r4,rfl,by omega,by omega,hbR4,kn4,hr4,by omega,by rw[ht4,ht3],hgo3.trans hgo4,rfl,rfl,rfl,rfl,rfl,rfl,rfl,rfl,rfl⟩
  ·simp only[go_sem,Go.AE.X.next];exact hP e r4 H15 (Qbck (A:=Li) (Qazu (A':=[(x9,o9 q n),(x10,.st [.vsl rl 1 0 n]),(x13,oB y),(x19,.st [.int .i64 op,.int .i64 to,.sl false 1 (Qb args),.int .i64 nn])]) kn4)) hr4 (fun h=>by rw[ht4,ht3,et h,htf h]) (hgo3.halts hha)
 have hge:y.ins.length≤i:=by simpa using hc
 rw[Jac hge]at hgo3;refine Qv ?_;simp only[go_sem,Go.AE.X.next];refine Qa ?_;simp only[go_sem,l0,l3,l9,l10,l11,l13];refine Qbmi kn hr3 (fun H13 hlu kn4 hr4=>?_) (fun hlu=>?_)
 rotate_left
 ·simp only[go_sem,Go.AE.X.next];refine hP 3 r3 _ (Qbck (A:=Li) (Qxf (A:=[]) kn)) hr3 (fun h=>by rw[ht3,et h,htf h]) (hgo3.halts ?_);rw[hlu];exact .fuel
 obtain⟨r4,e4⟩:∃r4,({ r3 with u:=r3.u+1 }:Rs)=r4:=⟨_,rfl⟩;have eu4:r4.u=r3.u+1:=by rw[←e4]
 have es4:r4.s=r3.s:=by rw[←e4]
 have ec4:r4.c=r3.c:=by rw[←e4]
 have et4:r4.t=r3.t:=by rw[←e4]
 rw[e4]at kn4 hr4;clear e4 kn;have hx13:H13 x13=.st [.sl false 2 (Q2 y.phis),.sl false 4 (Qaw y.ins),.int .i64 y.jump,.int .i64 y.on,.sl false 1 (Qb y.next)]:=kn4.l 4 rfl;have hx10:H13 x10=.st [.vsl rl 1 0 n]:=kn4.l 3 rfl;have hrl:H13 rl=.vec 1 (Qb R3):=kn4.l 1 rfl;have htk:List.take n (Qb R3)=Qb R3:=Jd (by rw[Qc];omega);have hlt4:r4.t.length≤r4.u:=by rw[et4,eu4];exact hr3.lt
 have htf4:main=false→r4.t=r.t:=fun h=>by rw[et4,ht3,et h,htf h]
 have one:∀Y,stJ X.cs k b R3 fs r4.s r4.c=Y→Goes X.cs X.S r.u (.go (fr0 X.cs k l::fs) r.s r.c) r4.u Y:=fun Y h=>by
  refine hgo3.trans ?_;rw[eu4,←es4,←ec4];exact .one hlu h
 have hjm:=hyo.jmp;have hyon:=hyo.on;have hynx:=hyo.nx;have hjn':=hjn b hb;rw[hyb]at hjn';refine Qa ?_;simp only[go_sem,l0,l3,l9,l10,l11,l13];refine Qf ?_;refine Qa ?_;simp only[go_sem,hx13];refine Qe rfl (fun hc=>?_) (fun hc=>?_)
 ·have hj:y.jump=3:=of_decide_eq_true hc;obtain⟨z1,z2⟩:=hyon (by omega);obtain⟨j,hjo⟩:∃j:Nat,y.on=j:=⟨y.on.toNat,by omega⟩;have hj2:j<n:=by omega
  have hj3:j<R3.length:=by omega
  refine Qa ?_;simp only[go_sem,hx13,hx10,hrl,htk,hjo,hj2,hR3l,Qc,Qm _ _ hj3,Jh];refine Qk ?_;simp only[go_sem,Go.AE.X.next,Qz,Q8,Qk5,Jb,forall_eq,RS.op];have hgoal:=hK (rg R3 y.on) r4 H13 (Qbck (A:=Li) (Qxf (A:=[]) kn4)) hr4 (hbR3.rg _) hlt4 htf4 (one _ (by rw[Qbg6 (by rw[hq,hyb];exact hj),hq,hyb]));rw[hjo]at hgoal;exact hgoal
 have hj3:¬y.jump=3:=of_decide_eq_false hc;obtain⟨v,hvm,hvn,hvi⟩:=hnx b hb (by rw[hyb];exact hj3) R3;rw[hyb]at hvm hvn hvi;obtain⟨w1,w2⟩:=hynx v hvm;obtain⟨b2,hb2⟩:∃b2:Nat,v=b2:=⟨v.toNat,by omega⟩;have hvn2:nxB y R3=b2:=by omega
 have hb2l:b2<q.blocks.length:=by omega
 have hgoJ:=one _ (by
  rw[Qbg7 (by rw[hq,hyb];exact hj3),hq,hyb,hvn2])
 have hix:ixB y R3<y.next.length:=(Jau.1 hvi).1;have hgd:y.next.getD (ixB y R3) 0=(b2:Int):=by rw[Ja,hvi,hb2];rfl
 have hfo2:Qbcl q b2 (some b):=⟨hb,by rw[Q41 hb,hyb,←hb2];exact hvm⟩;have hfin:∀e,lk 0 e=.c (.ptr X.l 0)→lk 3 e=.c (.bool main)→lk 9 e=.c (.ptr x9 0)→lk 10 e=.c (.ptr x10 0)→lk 11 e=.c (.int .i64 b2)→lk 12 e=.c (.int .i64 b)→
   ∃m',m'<mm∧∃(b:Nat) (fr:Option Nat) (R:List Int) (r1:Rs),m'=X.S-r1.u∧b<q.blocks.length∧R.length=n∧byL R∧Kn H0 H13 E (X.F r1 [(rl,.vec 1 (Qb R)),(x9,o9 q n),(x10,.st [.vsl rl 1 0 n])] (Li++B))∧r1.ok X∧r.u≤r1.u∧r1.t.length≤r1.u∧(main=false→r1.t=r.t)∧Qbcl q b fr∧
   Goes X.cs X.S r.u (.go (fr0 X.cs k l::fs) r.s r.c) r1.u (.go (Qati X.cs k b fr R::fs) r1.s r1.c)∧
   lk 0 e=.c (.ptr X.l 0)∧lk 3 e=.c (.bool main)∧lk 9 e=.c (.ptr x9 0)∧lk 10 e=.c (.ptr x10 0)∧lk 11 e=.c (.int .i64 b)∧lk 12 e=.c (.int .i64 (Qbdc fr)):=by
  intro e a0 a3 a9 a10 a11 a12;refine⟨X.S-r4.u,by have:=hr4.uS;omega,b2,some b,R3,r4,rfl,hb2l,hR3l,hbR3,Qxf (A:=[(rl,.vec 1 (Qb R3)),(x9,o9 q n),(x10,.st [.vsl rl 1 0 n])]) (A':=[(x13,oB y)]) kn4,hr4,by omega,hlt4,htf4,hfo2,hgoJ,a0,a3,a9,a10,a11,a12⟩
 rcases hjm with hj|hj|hj
 ·
  have hd:decide ((1:Int)=2)=false:=rfl;have e0:ixB y R3=0:=by rw[ixB,if_neg (by omega)]
  rw[e0]at hix hgd;refine Qa ?_;by_cases hjr:y.on.toNat<R3.length
  ·simp only[go_sem,hx13,hx10,hrl,htk,hj,hd,Qm _ _ hjr,Jh];refine Qe (c:=false) rfl (fun hc=>by cases hc) (fun _=>?_);refine Qt ?_;simp only[go_sem,hx13,hix,hgd,Qc,Qm _ _ hix];exact⟨by omega,hfin _ rfl rfl rfl rfl rfl rfl⟩
  ·have hno:(Qb R3).getD y.on.toNat []=[]:=by rw[Ja,Jj (by rw[Qc];omega)];rfl
   simp only[go_sem,hx13,hx10,hrl,htk,hj,hd,hno,List.headD_nil,Jh];refine Qe (c:=false) rfl (fun hc=>by cases hc) (fun _=>?_);refine Qt ?_;simp only[go_sem,hx13,hix,hgd,Qc,Qm _ _ hix];exact⟨by omega,hfin _ rfl rfl rfl rfl rfl rfl⟩
 ·
  have hd:decide ((2:Int)=2)=true:=rfl;obtain⟨z1,z2⟩:=hyon (by omega);obtain⟨j,hjo⟩:∃j:Nat,y.on=j:=⟨y.on.toNat,by omega⟩;have hj2:j<n:=by omega
  have hj4:j<R3.length:=by omega
  refine Qa ?_;simp only[go_sem,hx13,hx10,hrl,htk,hj,hd,hjo,hj2,hR3l,Qc,Qm _ _ hj4,Jh];refine Qe rfl (fun hc=>?_) (fun hc=>?_)
  ·have hz:R3.getD j 0=0:=of_decide_eq_true hc;have e0:ixB y R3=1:=by rw[ixB,if_pos ⟨hj,by rw[rg,hjo];exact hz⟩]
   rw[e0]at hix hgd;refine Qt ?_;simp only[go_sem,hx13,hix,hgd,Qc,Qm _ _ hix];exact⟨by omega,hfin _ rfl rfl rfl rfl rfl rfl⟩
  ·have hz:¬R3.getD j 0=0:=of_decide_eq_false hc;have e0:ixB y R3=0:=by rw[ixB,if_neg (by rintro⟨_,h⟩;rw[rg,hjo]at h;exact hz h)]
   rw[e0]at hix hgd;refine Qt ?_;simp only[go_sem,hx13,hix,hgd,Qc,Qm _ _ hix];exact⟨by omega,hfin _ rfl rfl rfl rfl rfl rfl⟩
 ·exact absurd hj hj3
theorem Qa6q (hw:RunW X.cs):∀d m,X.S+1-m≤d→Qbho X m
 |0,m,h=>fun H0 H E B Li r k l inc main fs K hm kn hr=>by
  have:=hr.uS;omega
 |d+1,m,h=>Qbc1 hw fun m' hm'=>Qa6q hw d m' (by omega)
end Go.AE.Y
namespace Go.AE.Y
open Go.Proofs.Tryz
theorem Qa8o (p:Addr)(w:World) :
  CallsD prog Qqw #[.pointer (some p)] .returning w fun e u' w'=>e=.returned (.tuple #[])∧u'=.returning∧w'=w:=by
 refine callsD_of_wpS Go.Proofs.Tryz.func208 rfl fun c₀ cs hu=>?_;apply wpS_seq;apply wpS_region;simp[wpOpsS,go_sem,recoverD,hu,Go.Proofs.Tryz.ntmps208,Exit.thenS];apply wpS_seq;apply wpS_region;simp[wpOpsS,go_sem,Exit.thenS];refine wpS_cond (t:=false) (by simp[Act.eval]) ?_;simp only[Jal,if_false];refine wpS_of_wp (wp_skip ?_);cases c₀
 simp_all[bodyPostS,results,Go.Proofs.Tryz.results208]
set_option maxRecDepth 4000 in
theorem Qaap (p:Addr)(n:Int)(x:Value)(older:List PanicEntry)(w:World)(hc:w.cell? p=some x)(hz:w.frozen? p=false) :
  CallsD prog Qqw #[.pointer (some p)] (.panicking ({ v:=.iface 190 (.int .i64 n),recovered:=false }::older)) w fun e u' w'=>
   e=.returned (.tuple #[])∧u'=.panicking ({ v:=.iface 190 (.int .i64 n),recovered:=true }::older)∧w'=w.setCell p (.int .i64 n):=by
 refine callsD_of_wpS Go.Proofs.Tryz.func208 rfl fun c₀ cs hu=>?_;apply wpS_seq;apply wpS_region;simp[wpOpsS,go_sem,recoverD,hu,Go.Proofs.Tryz.ntmps208,Exit.thenS];apply wpS_seq;apply wpS_region;simp[wpOpsS,go_sem,Exit.thenS];refine wpS_cond (t:=true) (by simp[Act.eval]) ?_;simp only[if_true];have hta:∀w:World,(Instr.typeAssert (.iface 190 (.int .i64 n)) 20 190 true).run prog w=.ok (.tuple #[.int .i64 n,.bool true]) w:=fun w=>by kernel_rfl
 apply wpS_seq;apply wpS_region;simp[wpOpsS,go_sem,Exit.thenS,hta];apply wpS_seq;apply wpS_seq;apply wpS_region;simp[wpOpsS,go_sem,Exit.thenS];refine wpS_cond (t:=false) (by simp[Act.eval]) ?_;simp only[Jal,if_false];refine wpS_of_wp (wp_skip ?_);simp only[Exit.thenS];apply wpS_region;simp[wpOpsS,go_sem,hc,hz,bodyPostS,results,Go.Proofs.Tryz.results208]
theorem Qa8p {f : Nat} {caps : Array Value} {w : World} {R : Ending → World → Prop} (hf : fnOk prog f = true)
    (h : Calls prog f caps (w.alloc (.cells #[.int .i64 0] 3)) fun e w' => w'.cell? ⟨w.heap.size, 0, none⟩ = some (.int .i64 0) ∧ w'.frozen? ⟨w.heap.size, 0, none⟩ = false ∧
      ((∃ v, e = .returned v ∧ R (.returned (.int .i64 0)) (w'.setCell ⟨w.heap.size, 0, none⟩ (.int .i64 0))) ∨
       (∃ n, e = .panicked [{ v := .iface 190 (.int .i64 n), recovered := false }] ∧ R (.returned (.int .i64 n)) (w'.setCell ⟨w.heap.size, 0, none⟩ (.int .i64 n))))) :
    Calls prog Qqv #[.func (.func f) #[] caps] w R := by
  have hmf : ∀ fn (first cap : Array Value) (w : World), (Instr.makeFunc fn first cap).run prog w = .ok (.func fn first cap) w := fun _ _ _ _ => rfl
  go_enter_defers Go.Proofs.Tryz.func134, Go.Proofs.Tryz.ntmps134
  go_wp2
  have hcall : ∀ w, (callFunc f caps).run prog w = .ok (.enter f caps) w := fun w => Qqs hf caps w;simp only [hcall, Array.append_empty, Array.empty_append, Oper.upon_enter];refine h.mono ?_;rintro e w' ⟨hc, hz, hR⟩;rcases hR with ⟨v, rfl, hR⟩ | ⟨n, rfl, hR⟩
  · go_wp2
    refine leaves_cons (f := 208) (args := #[.pointer (some ⟨w.heap.size, 0, none⟩)]) (by simp) (by simp [go_sem]) ?_;refine (Qa8o ⟨w.heap.size, 0, none⟩ _).mono ?_;rintro e u' w'' ⟨rfl, rfl, rfl⟩;simp [Leaves, settle, results, Go.Proofs.Tryz.results134, go_sem];refine ⟨_, ?_, hR⟩;simp [go_sem, hc]
  · show Leaves _ _ _ _ _ _ _;refine leaves_cons (f := 208) (args := #[.pointer (some ⟨w.heap.size, 0, none⟩)]) (by simp) (by simp [go_sem]) ?_;refine (Qaap ⟨w.heap.size, 0, none⟩ n _ [] _ hc hz).mono ?_;rintro e u' w'' ⟨rfl, rfl, rfl⟩;simp [Leaves, settle, results, Go.Proofs.Tryz.results134, go_sem];refine ⟨_, ?_, hR⟩;simp [go_sem, hc]
variable {H:Heap}{K:V→Heap→Prop}
theorem Qa6a {w:World}{b:Nat}{cs:Array Value}{T:TypeId}{v:Value}(h:w.heap[b]? = some (.cells cs T (0,0))):w.setCell ⟨b,0,none⟩ v=World.putCells w b (cs.setIfInBounds 0 v) T:=by
 unfold World.setCell World.putCells;congr 1;refine Array.ext_getElem? fun i=>?_;rw[Array.getElem?_modify,Array.getElem?_setIfInBounds];by_cases hi:b=i
 ·subst hi;rw[if_pos rfl,if_pos rfl,if_pos (Qi1 h),h];rfl
 ·rw[if_neg hi,if_neg hi]
theorem Qbhy {f:Nat}{caps:List C}(hf:fnOk prog f=true)
  (h:∀xe,H xe=.none→∀H1,H1=H.set xe (.st [.int .i64 0])→Qo prog f (caps.map .c) H1 fun x H2=>H2 xe=.st [.int .i64 0]∧((∃n,x=.pn (endV n)∧∀H3,H3=H2.set xe (.st [.int .i64 n])→K (.c (.int .i64 n)) H3)∨
   ((∀v,x≠.pn v)∧∀H3,H3=H2.set xe (.st [.int .i64 0])→K (.c (.int .i64 0)) H3))) :
  Qo prog Qqv [.c (.fn f caps)] H K:=by
 refine⟨by kernel_rfl,fun g w vs hs hl hv=>?_⟩;obtain⟨v,rfl⟩:∃v,vs=[v]:=by
  match vs,hl with
  |[v],_=>exact⟨v,rfl⟩
 have hr:=hv 0 _ v rfl rfl;obtain⟨cvs,rfl,hcl,hcv⟩:=hr.c_inv.fn_inv;obtain⟨xe,hxe,hHx⟩:=hs.newName;have hle:=Qfh hs hxe 1 0 (.cells #[.int .i64 0] 3);have hst:=Qcd hs hxe 1 0 (.cells #[.int .i64 0] 3) (.st [.int .i64 0]) (fun g' hg=>by
  subst hg;exact Qnr (cells:=[.int .i64 0]) (fun j c u h1 h2=>by
   cases j with
   |zero=>simp at h1 h2;subst h1;subst h2;exact .int _ _
   |succ j=>simp at h1) rfl hle)
 refine Qa8p hf ?_;have hc:=(h xe hHx _ rfl).2 _ _ cvs hst.sat (by simp[hcl]) (fun j x u h1 h2=>by
  rw[Jy]at h1
  cases hj:caps[j]? with
  |none=>rw[hj]at h1;simp at h1
  |some c=>
   rw[hj]at h1;simp at h1;subst h1;exact .c _ _ ((hcv j c u hj h2).mono hst.le))
 refine hc.mono fun e w2 hh=>?_;have box:∀H2 g2 n,H2 xe=.st [.int .i64 0]→Stp (H.set xe (.st [.int .i64 0])) (g.newObj xe w.heap.size 1 0) (w.alloc (.cells #[.int .i64 0] 3)) H2 g2 w2→
   w2.cell? ⟨w.heap.size,0,none⟩=some (.int .i64 0)∧w2.frozen? ⟨w.heap.size,0,none⟩=false∧Stp H2 g2 w2 (H2.set xe (.st [.int .i64 n])) g2 (w2.setCell ⟨w.heap.size,0,none⟩ (.int .i64 n)):=by
  intro H2 g2 n hx hst2;have hio:g2.io xe=some (w.heap.size,1,0):=hst2.le.io xe _ (by simp[G.newObj]);have hob:=hst2.sat.objs xe;rw[hx]at hob;obtain⟨b',sz',T,cs,q1,q2,q3,q4,q5⟩:=hob;rw[hio]at q1;simp only[Jay,Jbb,and_true]at q1;obtain⟨rfl,rfl⟩:=q1;have hc1:cs.size=1:=q4;have hc0:cs[0]? = some cs[0]:=Array.getElem?_eq_getElem (by omega);have hcv:cs[0]=.int .i64 0:=((q5 0 _ _ rfl hc0).toC rfl).int_inv;refine⟨?_,by simp[World.frozen?,q3],?_⟩
  ·rw[Qbz q3,hc0,hcv]
  ·rw[Qa6a q3];refine Qdu hst2.sat q2 q3 (by simp) _ (by rw[hx];simp) (fun hle hw'=>?_) (by simp);refine⟨w.heap.size,1,T,_,hio,q2,hw',by simp[hc1],fun j c v e1 e2=>?_⟩
   cases j with
   |zero=>
    simp[hc1]at e1 e2;subst e1;subst e2;exact .plain _ _ _ _ (.int _ _)
   |succ j=>simp at e1
 rcases hh with ⟨v,x,H2,g2,rfl,⟨hx,hk⟩,hst2,hr2⟩|⟨v,H2,g2,rfl,⟨hx,hk⟩,hst2⟩
 ·obtain⟨b1,b2,b3⟩:=box H2 g2 0 hx hst2;refine⟨b1,b2,.inl ⟨v,rfl,.inl ⟨_,.c (.int .i64 0),_,g2,rfl,?_,hst.trans (hst2.trans b3),.c _ _ (.int _ _)⟩⟩⟩;rcases hk with ⟨n,rfl,_⟩|⟨_,hk⟩
  ·cases hr2
  ·exact hk _ rfl
 ·rcases hk with ⟨n,hvn,hk⟩|⟨hno,_⟩
  ·cases hvn;obtain⟨b1,b2,b3⟩:=box H2 g2 n hx hst2;exact⟨b1,b2,.inr ⟨n,rfl,.inl ⟨_,.c (.int .i64 n),_,g2,rfl,hk _ rfl,hst.trans (hst2.trans b3),.c _ _ (.int _ _)⟩⟩⟩
  ·exact absurd rfl (hno v)
end Go.AE.Y
namespace Go.AE.Y
open Go.Proofs.Tryz
variable {H H0:Heap}{K:V→Heap→Prop}{E B Lg:List (Nat×Obj)}
def Gq (Lg:List (Nat×Obj))(W:List Nat)(c:C):Prop:=
 (c=.sl true 1 []∧W=[]∧Lg=[])∨∃z st R,c=.vsl z 1 st W.length∧Lg=[(z,.vec 1 R)]∧(R.drop st).take W.length=Qag W∧st+W.length≤R.length
theorem Gq.isOw {W:List Nat}{c:C}(h:Gq Lg W c):c.isOw=false:=by rcases h with ⟨rfl,_⟩|⟨z,st,R,rfl,_⟩ <;> rfl
theorem Gq.elemSz {W:List Nat}{c:C}(h:Gq Lg W c):c.elemSz=1:=by rcases h with ⟨rfl,_⟩|⟨z,st,R,rfl,_⟩ <;> rfl
theorem Gq.lenC {W:List Nat}{c:C}(h:Gq Lg W c):lenC c=W.length:=by rcases h with ⟨rfl,rfl,_⟩|⟨z,st,R,rfl,_⟩ <;> rfl
theorem Gq.get {W:List Nat}{c:C}(h:Gq Lg W c)(kn:Kn H0 H E (B++Lg)):okSl H c∧rowsOf H c=Qag W:=by
 rcases h with ⟨rfl,rfl,_⟩|⟨z,st,R,rfl,rfl,h1,h2⟩
 ·exact⟨trivial,rfl⟩
 ·have hz:H z=.vec 1 R:=(kn.get (z,.vec 1 R) (by simp)).1;exact⟨by simp[okSl,hz,h2],by simp[rowsOf,hz,h1]⟩
def Qbsu (ns:List Int):List C:=[.sl true 2 [],.sl true 4 [],.int .i64 0,.int .i64 0,.sl false 1 (Qb ns)]
def Qbq8 (nx:Nat→List Int)(i:Nat):List Int:=(nx i).map (· + 1)
def shRows (nx:Nat→List Int)(n:Nat):List (List C):=(List.range n).map fun i=>Qbsu (Qbq8 nx i)
structure ShB where
 c:C
 lg:List (Nat×Obj)
def ShB.row (x:ShB):List C:=[.sl true 2 [],.sl true 4 [],.int .i64 0,.int .i64 0,x.c]
def ShOk (nx:Nat→List Int)(bs:List ShB):Prop:=∀i (h:i<bs.length),Gr bs[i].lg 1 (Qb (Qbq8 nx i)) bs[i].c
theorem Qa6z {S:Nat→Bool}{a b a' b':V}(h:FrzV H S a a')(k:FrzV H S b b'):FrzV H S (.tup [a,b]) (.tup [a',b']):=by
 refine .tup _ _ rfl fun j x x' h1 h2=>?_
 match j with
 |0=>simp at h1 h2;subst h1;subst h2;exact h
 |1=>simp at h1 h2;subst h1;subst h2;exact k
 |j+2=>simp at h1
end Go.AE.Y
namespace Go.AE.Y
attribute [local go_sem] cond_true cond_false Bool.not_true Bool.not_false
attribute [local instance] Classical.propDecidable
open Go.Proofs.Tryz
variable {H H' H0:Heap}{K:V→Heap→Prop}{E A A' B Li:List (Nat×Obj)}{X:Rn}{r r':Rs}
def oO (e v:Int):Obj:=.st [.sl true 1 [],.int .i64 e,.int .i64 v,.sl true 1 []]
theorem Qbon (hw:RunW X.cs){l:List Int}{f2:Bool}{x8 x9:Nat}(hl:(l.length:Int)=(Qx X.cs (X.cs.length-1)).params)(hbl:byL l)
  (kn:Kn H0 H E (X.F r [(x8,.st [.ptr X.l 0]),(x9,oO 0 0)] B)) (hr:r.ok X) (hu:r.u=0) (hs:r.s=[]) (hc:r.c=Qa6p) (ht:r.t=[])
  (hK:∀v r' H',Kn H0 H' E (X.F r' [(x8,.st [.ptr X.l 0]),(x9,oO 0 v)] B)→r'.ok X→Goes X.cs X.S 0 (cf0 X.cs l) r'.u (.dn 0 v r'.s r'.c)→K (.tup []) H')
  (hP:∀e r' H',Kn H0 H' E (X.F r' [(x8,.st [.ptr X.l 0]),(x9,oO 0 0)] B)→r'.ok X→Halts X.cs X.S 0 (cf0 X.cs l) e r'.s r'.c→K (.pn (endV e)) H') :
  Qo prog Qga [.c (.ptr x8 0),.c (.pp [.sl X.fl 3 (Ql X.cs)]),.c (.pp [.sl f2 1 (Qb l)]),.c (.ptr x9 0)] H K:=by
 have hn:=hw.n;have hn0:=hw.ro.n;refine Qd Qai Qabl ?_;have hx8:H x8=.st [.ptr X.l 0]:=kn.l 1 rfl;have hi1:((X.cs.length:Int)-1)=((X.cs.length-1:Nat):Int):=by omega
 refine Qt ?_;simp only[go_sem,hx8,Q3];try intro _
 refine⟨Qr (by omega) (by omega),?_⟩;rw[hi1];refine Qa6q hw (X.S+1) 0 (by omega) H0 H E ([(x8,.st [.ptr X.l 0]),(x9,oO 0 0)]++B) [] r (X.cs.length-1) l (.sl f2 1 (Qb l)) true [] _ (Jbo _) (F_in kn) hr (by omega) (.inl ⟨rfl,f2,rfl⟩) hl hbl (by rw[ht];simp) (fun v r' H' kn' hr' hv _ _ hgo=>?_) (fun e r' H' kn' hr' _ hha=>?_)
 ·have kn':=Qbck kn';have hx9:H' x9=.st [.sl true 1 [],.int .i64 0,.int .i64 0,.sl true 1 []]:=kn'.l 2 rfl;simp only[go_sem,Qjp,hx9];intro H2 h2;simp only[go_sem,Qz,Q8,Qrn];refine hK v r' H2 (kn'.stL 2 rfl h2) hr' ?_;rw[hu,hs,hc]at hgo;exact hgo
 ·simp only[go_sem];refine hP e r' H' (Qbck kn') hr' ?_;rw[hu,hs,hc]at hha;exact hha
def Rn.pc (X:Rn)(r:Rs):List C:=.sl X.fl 3 (Ql X.cs)::.int .i64 X.S::.int .i64 r.u::.sl false 1 (Qb r.s)::(Qiy r.c++[.sl false 1 (Qb r.t)])
theorem Qa6y {S:Nat→Bool}{a b:C}(h:FrzC H S a b):∀l:List Int,FrzL H S (Qiy l++[a]) (Qiy l++[b])
 |[]=>.cons h .nil
 |v::l=>.cons (Qg rfl) (Qa6y h l)
theorem Qbqm {S:Nat→Bool}(hr:r.ok X)(hm:∀p∈[(X.l,X.o r)]++(r.so++r.tl),H p.1=p.2∧S p.1=true):FrzC H S (.ptr X.l 0) (.pp (X.pc r)):=by
 obtain⟨h1,h2⟩:=hm (X.l,X.o r) (by simp);refine FrzL.ptr h2 h1 ?_;refine .cons (Qg rfl) (.cons (Qg rfl) (.cons (Qg rfl) (.cons ?_ (Qa6y ?_ _))))
 ·exact Gr.frzM hr.gs (fun p hp=>hm p (by simp[hp])) (FrzR.same (Qn _))
 ·exact Gr.frzM hr.gt (fun p hp=>hm p (by simp[hp])) (FrzR.same (Qn _))
theorem Qbih (l:List Int)(c:C)(n:Nat)(h:l.length=n):((Qiy l++[c]).take n).map (fun c=>[c])=Qb l:=by
 subst h;rw[List.take_append_of_le_length (by simp[Qiy]),Jd (by simp[Qiy])];simp[Qiy,Qb]
theorem Qbng (l:List Int)(c:C)(n:Nat)(h:l.length=n):(Qiy l++[c]).length=n+1:=by simp[Qiy,h]
set_option maxHeartbeats 8000000 in
theorem Qbfk {cs:List CodeD}{fl f2:Bool}{l:List Int}{S:Nat}(hg:Qas cs=true)(hl:(l.length:Int)=(Qx cs (cs.length-1)).params)(hbl:byL l)(hS:S≤60000)
  (hK:∀e v s c u H',outR cs l S=(e,v,s,c)→Upd H H' []→K (.tup [.ag [.sl false 1 (Qb s),.int .i64 e,.int .i64 v,.sl false 1 (Qb c)],.c (.pp u)]) H') :
  Qo prog Qmf [.ag [.sl fl 3 (Ql cs)],.c (.sl f2 1 (Qb l)),.c (.int .i64 S)] H K:=by
 have hw:=runW hg;refine Qu ?_;refine Qd Qai Qaty ?_;refine Qa ?_;simp only[go_sem];intro x6 hx6 H1 h1;have kn:Kn H H1 [] [(x6,oO 0 0)]:=(Kn.start0 H).al hx6 h1;simp only[go_sem,Qs5];refine Qa ?_;simp only[go_sem];intro ml hml H2 h2;obtain⟨X,hX⟩:∃X:Rn,X=⟨ml,fl,cs,S⟩:=⟨_,rfl⟩;obtain⟨r0,hr0⟩:∃r0:Rs,r0=⟨0,[],Qa6p,[],.sl true 1 [],[],.sl true 1 [],[]⟩:=⟨_,rfl⟩;have kn:Kn H H2 [] (X.F r0 [(x6,oO 0 0)] []):=by
  subst hX;subst hr0;have k:Kn H H2 [] ([(x6,oO 0 0)]++[(ml,Rn.o ⟨ml,fl,cs,S⟩ ⟨0,[],Qa6p,[],.sl true 1 [],[],.sl true 1 [],[]⟩)]):=kn.al hml h2;exact k.perm (by simpa[Rn.F]using List.Perm.swap _ _ _)
 have hXl:X.l=ml:=by rw[hX]
 have hXf:X.fl=fl:=by rw[hX]
 have hXc:X.cs=cs:=by rw[hX]
 have hXS:X.S=S:=by rw[hX]
 have hrok:r0.ok X:=by
  subst hr0;exact⟨.nil 1,.nil 1,rfl,fun v hv=>by rw[J9 hv];exact⟨by omega,by omega⟩,fun v hv=>by simp at hv,Jn _,by simp,Jbo _,by rw[hXS];exact hS⟩
 simp only[go_sem,Qs7];intro x8 hx8 H3 h3;have kn:Kn H H3 [] (X.F r0 [(x6,oO 0 0),(x8,.st [.pnil])] []):=F_al (A:=[(x6,oO 0 0)]) (kn.al hx8 h3);have hx8:H3 x8=.st [.pnil]:=kn.l 2 rfl;simp only[go_sem,Qs6,hx8];intro H4 h4;rw[←hXl]at h4;have kn:Kn H H4 [] (X.F r0 [(x6,oO 0 0),(x8,.st [.ptr X.l 0])] []):=kn.stL 2 rfl h4;refine Qa ?_;simp only[go_sem];intro x9 hx9 H5 h5;have kn:Kn H H5 [] (X.F r0 [(x6,oO 0 0),(x8,.st [.ptr X.l 0]),(x9,oO 0 0)] []):=F_al (A:=[(x6,oO 0 0),(x8,.st [.ptr X.l 0])]) (kn.al hx9 h5);refine Q28 (fun e2 H2=>∃(e v:Int) (r1:Rs),Kn H H2 [] (X.F r1 [(x6,oO 0 0),(x8,.st [.ptr X.l 0]),(x9,oO e v)] [])∧r1.ok X∧outR cs l S=(e,v,r1.s,r1.c)∧lk 6 e2=.c (.ptr x6 0)∧lk 8 e2=.c (.ptr x8 0)∧lk 9 e2=.c (.ptr x9 0)) ?_ ?_
 ·intro Q' hQn hQr hQe;refine Qt ?_;simp only[go_sem];refine Qbhy (by kernel_rfl) fun xe hxe H6 h6=>?_;have kn:Kn H H6 [] (X.F r0 [(x6,oO 0 0),(x8,.st [.ptr X.l 0]),(x9,oO 0 0),(xe,.st [.int .i64 0])] []):=F_al (A:=[(x6,oO 0 0),(x8,.st [.ptr X.l 0]),(x9,oO 0 0)]) (kn.al hxe h6);have kn:Kn H H6 [] (X.F r0 [(x8,.st [.ptr X.l 0]),(x9,oO 0 0)] [(x6,oO 0 0),(xe,.st [.int .i64 0])]):=kn.perm (Qj fun f hf h0 hc hp=>by
   show f ([(X.l,X.o r0)]++(([(x6,oO 0 0)]++([(x8,.st [.ptr X.l 0])]++([(x9,oO 0 0)]++[(xe,.st [.int .i64 0])])))++((r0.so++r0.tl)++[])))=f ([(X.l,X.o r0)]++(([(x8,.st [.ptr X.l 0])]++[(x9,oO 0 0)])++((r0.so++r0.tl)++([(x6,oO 0 0)]++[(xe,.st [.int .i64 0])]))));simp only[hf,h0];omega)
  have key:∀(e v:Int) (r1:Rs) (H7 H8:Heap),Kn H H7 [] (X.F r1 [(x8,.st [.ptr X.l 0]),(x9,oO 0 v)] [(x6,oO 0 0),(xe,.st [.int .i64 0])])→H8=H7.set xe (.st [.int .i64 e])→
    H7 xe=.st [.int .i64 0]∧Kn H H8 [] (X.F r1 [(x6,oO 0 0),(x8,.st [.ptr X.l 0]),(x9,oO 0 v)] []):=by
   intro e v r1 H7 H8 k h8;have k:Kn H H7 [] (X.F r1 [(x6,oO 0 0),(x8,.st [.ptr X.l 0]),(x9,oO 0 v),(xe,.st [.int .i64 0])] []):=k.perm (Qj fun f hf h0 hc hp=>by
    show f ([(X.l,X.o r1)]++(([(x8,.st [.ptr X.l 0])]++[(x9,oO 0 v)])++((r1.so++r1.tl)++([(x6,oO 0 0)]++[(xe,.st [.int .i64 0])]))))=f ([(X.l,X.o r1)]++(([(x6,oO 0 0)]++([(x8,.st [.ptr X.l 0])]++([(x9,oO 0 v)]++[(xe,.st [.int .i64 0])])))++((r1.so++r1.tl)++[])));simp only[hf,h0];omega)
   refine⟨k.l 4 rfl,?_⟩;have k2:Kn H H8 [] (X.F r1 [(x6,oO 0 0),(x8,.st [.ptr X.l 0]),(x9,oO 0 v),(xe,.st [.int .i64 e])] []):=k.stL 4 rfl h8;exact Qxf (A:=[(x6,oO 0 0),(x8,.st [.ptr X.l 0]),(x9,oO 0 v)]) (A':=[(xe,.st [.int .i64 e])]) k2
  have hl':(l.length:Int)=(Qx X.cs (X.cs.length-1)).params:=by rw[hXc];exact hl
  rw[←hXf,←hXc];refine Qbon (X:=X) (f2:=f2) (by rw[hXc];exact hw) hl' hbl kn hrok (by rw[hr0]) (by rw[hr0]) (by rw[hr0]) (by rw[hr0]) (fun v r1 H7 kn7 hr1 hgo=>?_) (fun e r1 H7 kn7 hr1 hha=>?_)
  ·refine⟨(key 0 v r1 H7 _ kn7 rfl).1,.inr ⟨by simp,fun H8 h8=>?_⟩⟩;have k:=(key 0 v r1 H7 H8 kn7 h8).2;have hx9:H8 x9=.st [.sl true 1 [],.int .i64 0,.int .i64 v,.sl true 1 []]:=k.l 3 rfl;simp only[go_sem,Qin,hx9];intro H9 h9;have ho:=Qbj5 hgo;rw[hXc,hXS]at ho;exact hQn _ _ ⟨0,v,r1,k.stL 3 rfl h9,hr1,ho,rfl,rfl,rfl⟩
  ·refine⟨(key e 0 r1 H7 _ kn7 rfl).1,.inl ⟨e,rfl,fun H8 h8=>?_⟩⟩;have k:=(key e 0 r1 H7 H8 kn7 h8).2;have hx9:H8 x9=.st [.sl true 1 [],.int .i64 0,.int .i64 0,.sl true 1 []]:=k.l 3 rfl;simp only[go_sem,Qin,hx9];intro H9 h9;have ho:=Qbex hha;rw[hXc,hXS]at ho;exact hQn _ _ ⟨e,0,r1,k.stL 3 rfl h9,hr1,ho,rfl,rfl,rfl⟩
 clear kn hx8;rintro e2 H6 ⟨e,v,r1,kn,hr1,ho,l6,l8,l9⟩;have kn:Kn H H6 [] ([(x6,oO 0 0),(x8,.st [.ptr X.l 0]),(x9,oO e v)]++([(X.l,X.o r1)]++(r1.so++r1.tl))):=kn.perm (Qj fun f hf h0 hc hp=>by simp only[Rn.F,hf,h0];omega);obtain⟨Sf,hfL,hfB,hfr,kn2⟩:=kn.freeze0;have hpc:=Qbqm hr1 hfL;have hx8:=hfB (x8,.st [.ptr X.l 0]) (by simp);have hfr2:FrzH H6 Sf ((H6.frz Sf).set x8 (.st [.pp (X.pc r1)])):=hfr.set hx8.2 (by rw[hx8.1];exact (FrzKL.cons rfl hpc .nil).st);have kn:Kn H ((H6.frz Sf).set x8 (.st [.pp (X.pc r1)])) [] [(x6,oO 0 0),(x8,.st [.pp (X.pc r1)]),(x9,oO e v)]:=kn2.setL 1 rfl (by nofun);obtain⟨H7,hH7⟩:∃H7,(H6.frz Sf).set x8 (.st [.pp (X.pc r1)])=H7:=⟨_,rfl⟩;rw[hH7]at hfr2 kn;refine Q5 ?_;refine c_gh (e':=[(6,.c (.ptr x6 0)),(8,.c (.ptr x8 0)),(9,.c (.ptr x9 0))]) (H':=H7) (Qdr Sf (Q3j fun p hp=>?_) hfr2) ?_
 ·simp only[Jbi,Ja0,or_false]at hp;rcases hp with rfl|rfl|rfl
  ·rw[l6];exact .c _ _ (.same _ rfl)
  ·rw[l8];exact .c _ _ (.same _ rfl)
  ·rw[l9];exact .c _ _ (.same _ rfl)
 have hx8:H7 x8=.st [.pp (.sl X.fl 3 (Ql X.cs)::.int .i64 X.S::.int .i64 r1.u::.sl false 1 (Qb r1.s)::(Qiy r1.c++[.sl false 1 (Qb r1.t)]))]:=kn.l 1 rfl;have hlen:=Qbng r1.c (.sl false 1 (Qb r1.t)) 16 hr1.c;have hrow:=Qbih r1.c (.sl false 1 (Qb r1.t)) 16 hr1.c;have hcl:=hr1.c;refine Qad ?_;simp only[go_sem,hx8,hlen,hrow];refine⟨by simp only[LIM];omega,?_⟩;refine Q22 kn (by simp only[LIM];omega) fun t Lg H8 hgr how kn=>?_;have hx8:H8 x8=.st [.pp (.sl X.fl 3 (Ql X.cs)::.int .i64 X.S::.int .i64 r1.u::.sl false 1 (Qb r1.s)::(Qiy r1.c++[.sl false 1 (Qb r1.t)]))]:=kn.l 1 rfl;have hx9:H8 x9=.st [.sl true 1 [],.int .i64 e,.int .i64 v,.sl true 1 []]:=kn.l 2 rfl;simp only[go_sem,Qs9,hx8,hx9,how];intro H9 h9;have kn:Kn H H9 [] ([(x6,oO 0 0),(x8,.st [.pp (X.pc r1)]),(x9,.st [.sl false 1 (Qb r1.s),.int .i64 e,.int .i64 v,.sl true 1 []])]++Lg):=kn.stL 2 rfl h9;have hx9:H9 x9=.st [.sl false 1 (Qb r1.s),.int .i64 e,.int .i64 v,.sl true 1 []]:=kn.l 2 rfl;simp only[go_sem,Qs8,hx9,how];intro H10 h10;have kn:Kn H H10 [] ([(x6,oO 0 0),(x8,.st [.pp (X.pc r1)]),(x9,.st [.sl false 1 (Qb r1.s),.int .i64 e,.int .i64 v,t])]++Lg):=kn.stL 2 rfl h10;have hx6:H10 x6=.st [.sl true 1 [],.int .i64 0,.int .i64 0,.sl true 1 []]:=kn.l 0 rfl;have hx8:H10 x8=.st [.pp (.sl X.fl 3 (Ql X.cs)::.int .i64 X.S::.int .i64 r1.u::.sl false 1 (Qb r1.s)::(Qiy r1.c++[.sl false 1 (Qb r1.t)]))]:=kn.l 1 rfl;have hx9:H10 x9=.st [.sl false 1 (Qb r1.s),.int .i64 e,.int .i64 v,t]:=kn.l 2 rfl;refine Qad ?_;simp only[go_sem,hx6,hx8,hx9,how];intro H11 h11;have kn:Kn H H11 [] ([(x6,.st [.sl false 1 (Qb r1.s),.int .i64 e,.int .i64 v,t]),(x8,.st [.pp (X.pc r1)]),(x9,.st [.sl false 1 (Qb r1.s),.int .i64 e,.int .i64 v,t])]++Lg):=kn.stL 0 rfl h11;have hx6:H11 x6=.st [.sl false 1 (Qb r1.s),.int .i64 e,.int .i64 v,t]:=kn.l 0 rfl;have hx8:H11 x8=.st [.pp (.sl X.fl 3 (Ql X.cs)::.int .i64 X.S::.int .i64 r1.u::.sl false 1 (Qb r1.s)::(Qiy r1.c++[.sl false 1 (Qb r1.t)]))]:=kn.l 1 rfl;simp only[go_sem,Qta,hx8,how];refine Qk ?_;simp only[go_sem,Qz,Q8,Q5b,Jaf,RS.op,hx6,how];refine⟨_,Qa6z (FrzL.ag (.cons (Qg rfl) (.cons (Qg rfl) (.cons (Qg rfl) (.cons (hgr.frz kn (Qn _)) .nil))))) (.c _ _ (Qg rfl)),?_⟩;exact hK e v r1.s r1.c _ _ ho kn.fin
end Go.AE.Y
namespace Go.AE.Y
open Go.Proofs.Tryz
def Qo0:List Item:=[gF 45 39 (.not (.t 44)),pT 46 39 45]
def Qafr:SC:=cT 46 (sR [fB 4 false] [4] .ret) .skip
def Qo1:List Item:=[gF 81 67 (.not (.t 80)),pT 82 67 81]
def Qafs:SC:=cT 82 (sR [fB 4 false] [4] .ret) .skip
def Qaft:SC:=.reg [mJ 52 5,cJ 53 .add 52 1,mJ 5 53] [2,3,5]
def Qafu:SC:=.seq (.block 1 (.seq (.dreg 29 [0,1,2,3,4,5,6,7,8,9,10,11,12,13,14,15,16,17,18,19,20,21,22,23,24,25,26,27,28] ( fJ 54 0 2::lJ 55 54::mJ 56 5::iJ 57 2 55 56::fJ 58 0 57::lJ 59 58::fJ 60 0 3::lJ 61 60::mJ 62 5::iJ 63 2 61 62::fJ 64 0 63::lJ 65 64::bJ 66 .neq 59 65::mJ 67 66::gFf 68 67 0 2::gFl 69 67 68::gFm 70 67 5::gF 71 67 (.iad 2 (.t 69) (.t 70))::gFf 72 67 1 71::gFl 73 67 72::gFf 74 67 0 3::gFl 75 67 74::gFm 76 67 5::gF 77 67 (.iad 2 (.t 75) (.t 76))::gFf 78 67 1 77::gFl 79 67 78::.e (some 80) (some (67,false)) (.call Qq1 [.t 73,.t 79])::Qo1) [2,3,5,82]) Qafs)) Qaft
def Q9h:SC:=.seq (sR [mJ 47 5,fJ 48 0 2,lJ 49 48,nJ 50 49,bJ 51 .lss 47 50] [2,3,5,51] (cT 51 .skip (.exit 0))) Qafu
def Qo2:List Item:=[sJ 4 7 94]
def Qo3:List Item:=[sJ 4 8 99]
def Qo4:List Item:=[gF 125 119 (.not (.t 124)),pT 126 119 125]
def Q88:SC:=cT 126 (sR [fB 4 false] [4] .ret) .skip
def Q89:SC:=sR (fJ 100 0 7::lJ 101 100::fJ 102 0 8::lJ 103 102::bJ 104 .neq 101 103::mJ 105 104::gFf 106 105 1 7::gFl 107 105 106::gFf 108 105 1 8::gFl 109 105 108::gF 110 105 (.bin 0 .neq (.t 107) (.t 109))::pT 111 105 110::mJ 112 111::gFf 113 112 3 7::gFl 114 112 113::gFf 115 112 3 8::gFl 116 112 115::gF 117 112 (.bin 0 .neq (.t 114) (.t 116))::pT 118 112 117::mJ 119 118::gFf 120 119 2 7::gFl 121 119 120::gFf 122 119 2 8::gFl 123 119 122::.e (some 124) (some (119,false)) (.call Qq1 [.t 121,.t 123])::Qo4) [2,3,6,126] Q88
def Q9a:SC:=sR (fJ 95 1 3::lJ 96 95::mJ 97 6::iJ 98 4 96 97::tJ 99 4 98::eI 8 (.alloc [.int .i64 0,.int .i64 0,.sl true 1 [],.int .i64 0])::Qo3) [2,3,6,7,8] Q89
def Q9b:SC:=.reg [mJ 88 6,cJ 89 .add 88 1,mJ 6 89] [2,3,6]
def Q9c:SC:=.seq (.block 3 (sR (fJ 90 1 2::lJ 91 90::mJ 92 6::iJ 93 4 91 92::tJ 94 4 93::eI 7 (.alloc [.int .i64 0,.int .i64 0,.sl true 1 [],.int .i64 0])::Qo2) [2,3,6,7] Q9a)) Q9b
def Q4k:SC:=.seq (sR [mJ 83 6,fJ 84 1 2,lJ 85 84,nJ 86 85,bJ 87 .lss 83 86] [2,3,6,87] (cT 87 .skip (.exit 2))) Q9c
def Q9d:SC:=sR [fB 4 true] [4] .ret
def Q9e:SC:=.seq (sR [zJ 6 0] [2,3,6] (bL 2 Q4k)) Q9d
def Q9f:SC:=.seq (sR [zJ 5 0] [2,3,5] (bL 0 Q9h)) Q9e
def Q9g:SC:=.seq (sR (fJ 9 0 2::lJ 10 9::nJ 11 10::fJ 12 0 3::lJ 13 12::nJ 14 13::bJ 15 .neq 11 14::mJ 16 15::gFf 17 16 1 2::gFl 18 16 17::gF 19 16 (.len (.t 18))::gFf 20 16 1 3::gFl 21 16 20::gF 22 16 (.len (.t 21))::gF 23 16 (.bin 0 .neq (.t 19) (.t 22))::pT 24 16 23::mJ 25 24::gFf 26 25 2 2::gFl 27 25 26::gFf 28 25 2 3::gFl 29 25 28::gF 30 25 (.bin 0 .neq (.t 27) (.t 29))::pT 31 25 30::mJ 32 31::gFf 33 32 3 2::gFl 34 32 33::gFf 35 32 3 3::gFl 36 32 35::gF 37 32 (.bin 0 .neq (.t 34) (.t 36))::pT 38 32 37::mJ 39 38::gFf 40 39 4 2::gFl 41 39 40::gFf 42 39 4 3::gFl 43 39 42::.e (some 44) (some (39,false)) (.call Qq1 [.t 41,.t 43])::Qo0) [2,3,46] Qafr) Q9f
def Qar3:SC:=sR [vJ 2 0,vJ 3 1,fB 4 false] [2,3] Q9g
def Q1f:List RS:=[.tmp 4]
theorem Qapl:mFn prog Qjz 2 127 Qar3 Q1f=true:=by kernel_rfl
def Qal1:SC:=cT 26 (sR [fB 4 false] [4] .ret) .skip
def Quy:List Item:=[oJ 45 44]
def Qal2:SC:=cT 45 (sR [fB 4 false] [4] .ret) .skip
def Qal3:SC:=.reg [mJ 32 5,cJ 33 .add 32 1,mJ 5 33] [2,3,5]
def Qal4:SC:=.seq (.block 1 (.seq (.dreg 12 [0,1,2,3,4,5,6,7,8,9,10,11] ( fJ 34 2 2::lJ 35 34::mJ 36 5::iJ 37 5 35 36::tJ 38 5 37::fJ 39 2 3::lJ 40 39::mJ 41 5::iJ 42 5 40 41::tJ 43 5 42::aJ 44 Qjz [.t 38,.t 43]::Quy) [2,3,5,45]) Qal2)) Qal3
def Qafv:SC:=.seq (sR [mJ 27 5,fJ 28 2 2,lJ 29 28,nJ 30 29,bJ 31 .lss 27 30] [2,3,5,31] (cT 31 .skip (.exit 0))) Qal4
def Qal5:SC:=sR [fB 4 true] [4] .ret
def Qal6:SC:=.seq (sR [zJ 5 0] [2,3,5] (bL 0 Qafv)) Qal5
def Qal7:SC:=.seq (sR [fJ 6 0 2,lJ 7 6,fJ 8 0 3,lJ 9 8,bJ 10 .neq 7 9,mJ 11 10,gFf 12 11 1 2,gFl 13 11 12,gFf 14 11 1 3,gFl 15 11 14,gF 16 11 (.bin 0 .neq (.t 13) (.t 15)),pT 17 11 16,mJ 18 17,gFf 19 18 2 2,gFl 20 18 19,gF 21 18 (.len (.t 20)),gFf 22 18 2 3,gFl 23 18 22,gF 24 18 (.len (.t 23)),gF 25 18 (.bin 0 .neq (.t 21) (.t 24)),pT 26 18 25] [2,3,26] Qal1) Qal6
def Qayd:SC:=sR [vJ 2 0,vJ 3 1,fB 4 false] [2,3] Qal7
def Q5g:List RS:=[.tmp 4]
theorem Qat7:mFn prog Qmm 2 46 Qayd Q5g=true:=by kernel_rfl
def Qba0:SC:=cT 10 (sR [fB 4 false] [4] .ret) .skip
def Qba1:SC:=cT 25 (sR [fB 4 false] [4] .ret) .skip
def Qba2:SC:=.reg [mJ 15 5,cJ 16 .add 15 1,mJ 5 16] [0,1,5]
def Qba3:SC:=.seq (.block 1 (.seq (.dreg 9 [0,1,2,3,4,5,6,7,8] ( mJ 17 0::mJ 18 5::iJ 19 1 17 18::lJ 20 19::mJ 21 1::mJ 22 5::iJ 23 1 21 22::lJ 24 23::bJ 25 .neq 20 24::[]) [0,1,5,25]) Qba1)) Qba2
def Qa3w:SC:=.seq (sR [mJ 11 5,mJ 12 0,nJ 13 12,bJ 14 .lss 11 13] [0,1,5,14] (cT 14 .skip (.exit 0))) Qba3
def Qba4:SC:=sR [fB 4 true] [4] .ret
def Qba5:SC:=.seq (sR [zJ 5 0] [0,1,5] (bL 0 Qa3w)) Qba4
def Qba6:SC:=.seq (sR [mJ 6 0,nJ 7 6,mJ 8 1,nJ 9 8,bJ 10 .neq 7 9] [0,1,10] Qba0) Qba5
def Qbkv:SC:=sR [fB 4 false] [0,1] Qba6
def Qa7j:List RS:=[.tmp 4]
theorem Qbjl:mFn prog Qq1 2 26 Qbkv Qa7j=true:=by kernel_rfl
def Qay2:SC:=cT 10 (sR [fB 4 false] [4] .ret) .skip
def Qay3:SC:=cT 24 (sR [fB 4 false] [4] .ret) .skip
def Qay4:SC:=.seq (.dreg 9 [0,1,2,3,4,5,6,7,8] ( mJ 16 0::mJ 17 5::iJ 18 1 16 17::lJ 19 18::mJ 20 1::mJ 21 5::iJ 22 1 20 21::lJ 23 22::bJ 24 .neq 19 23::[]) [0,1,12,13,24]) Qay3
def Qay5:SC:=.reg [cJ 25 .add 13 1,mJ 13 25] [0,1,12,13]
def Qay6:SC:=.seq (.block 1 (sR [mJ 15 13,mJ 5 15] [0,1,5,12,13] Qay4)) Qay5
def Qasj:SC:=sR [bJ 14 .lss 13 12] [0,1,12,13,14] (cX 14 0 Qay6)
def Qay7:SC:=sR [fB 4 true] [4] .ret
def Qay8:SC:=.seq (sR [mJ 11 0,nJ 12 11,zJ 13 0] [0,1,12,13] (bL 0 Qasj)) Qay7
def Qay9:SC:=.seq (sR [mJ 6 0,nJ 7 6,mJ 8 1,nJ 9 8,bJ 10 .neq 7 9] [0,1,10] Qay2) Qay8
def Qbcb:SC:=sR [fB 4 false] [0,1] Qay9
def Qan7:List RS:=[.tmp 4]
theorem Qa9q:mFn prog Qmq 2 26 Qbcb Qan7=true:=by kernel_rfl
def Q9w:SC:=cT 12 (sR [fB 4 false] [4] .ret) .skip
def Ql2:List Item:=[oJ 31 30]
def Q9x:SC:=cT 31 (sR [fB 4 false] [4] .ret) .skip
def Q9y:SC:=.reg [mJ 18 5,cJ 19 .add 18 1,mJ 5 19] [2,3,5]
def Q9z:SC:=.seq (.block 1 (.seq (.dreg 12 [0,1,2,3,4,5,6,7,8,9,10,11] ( fJ 20 0 2::lJ 21 20::mJ 22 5::iJ 23 3 21 22::tJ 24 3 23::fJ 25 0 3::lJ 26 25::mJ 27 5::iJ 28 3 26 27::tJ 29 3 28::aJ 30 Qmm [.t 24,.t 29]::Ql2) [2,3,5,31]) Q9x)) Q9y
def Q4o:SC:=.seq (sR [mJ 13 5,fJ 14 0 2,lJ 15 14,nJ 16 15,bJ 17 .lss 13 16] [2,3,5,17] (cT 17 .skip (.exit 0))) Q9z
def Q90:SC:=sR [fB 4 true] [4] .ret
def Q91:SC:=.seq (sR [zJ 5 0] [2,3,5] (bL 0 Q4o)) Q90
def Q92:SC:=.seq (sR [fJ 6 0 2,lJ 7 6,nJ 8 7,fJ 9 0 3,lJ 10 9,nJ 11 10,bJ 12 .neq 8 11] [2,3,12] Q9w) Q91
def Qanf:SC:=sR [vJ 2 0,vJ 3 1,fB 4 false] [2,3] Q92
def Qxw:List RS:=[.tmp 4]
theorem Qais:mFn prog Qd4 2 32 Qanf Qxw=true:=by kernel_rfl
end Go.AE.Y
namespace Go.AE.Y
attribute [local go_sem] cond_true cond_false Bool.not_true Bool.not_false
open Go.Proofs.Tryz
variable {H H0:Heap}{K:V→Heap→Prop}
theorem Qazi {f g:Bool}{ns:List Int}(hK:K (.c (.bool true)) H):Qo prog Qmq [.c (.sl f 1 (Qb ns)),.c (.sl g 1 (Qb ns))] H K:=by
 refine Qd Qai Qa9q ?_;refine Qa ?_;simp only[go_sem];refine Q5 ?_;refine Qa ?_;simp only[go_sem,Qc,decide_true];intro hl;try intro _
 simp only[LIM]at hl;refine Qh (Qe rfl ?_ ?_)
 ·intro h;simp at h
 intro _;refine Qi ?_;try simp only[go_sem]
 refine Q5 ?_;refine Qa ?_;simp only[go_sem,Qc];try intro _
 refine Qh (Qf (Qw (fun m e1 H1=>∃(i:Nat),m=ns.length-i∧i≤ns.length∧H1=H∧lk 0 e1=.c (.sl f 1 (Qb ns))∧lk 1 e1=.c (.sl g 1 (Qb ns))∧lk 12 e1=.c (.int .i64 ns.length)∧lk 13 e1=.c (.int .i64 i)) ns.length ?_ ?_))
 ·exact⟨0,by omega,by omega,rfl,rfl,rfl,rfl,rfl⟩
 ·rintro m e1 H1 ⟨i,hm,hi,rfl,l0,l1,l12,l13⟩;refine Qa ?_;simp only[go_sem,l0,l1,l12,l13];refine Qh (Qe rfl ?_ ?_)
  ·intro hc;have hlt:i<ns.length:=by simpa using hc
   refine Qi ?_;try simp only[go_sem]
   refine Qh (Qf ?_);refine Qa ?_;simp only[go_sem,l0,l1,l12,l13];refine Qad ?_;simp only[go_sem,l0,l1,l12,l13,hlt,Qc,Qm _ _ hlt,decide_true];refine Qe rfl ?_ ?_
   ·intro h;simp at h
   intro _;refine Qi ?_;try simp only[go_sem]
   refine Qt ?_;simp only[go_sem,l0,l1,l12,l13];refine⟨Qr (by omega) (by omega),?_⟩;show ∃m,_;exact⟨ns.length-(i+1),by omega,i+1,rfl,by omega,rfl,rfl,rfl,rfl,rfl⟩
  ·intro hc;refine Qv ?_;simp only[go_sem,X.next];refine Qa ?_;simp only[go_sem];refine Qk ?_;simp only[go_sem,Qz,Q8,Qan7,Jb,forall_eq,RS.op];exact hK
theorem Qao8 {f g:Bool}{ns:List Int}(hK:K (.c (.bool true)) H):Qo prog Qq1 [.c (.sl f 1 (Qb ns)),.c (.sl g 1 (Qb ns))] H K:=by
 refine Qd Qai Qbjl ?_;refine Qa ?_;simp only[go_sem];refine Q5 ?_;refine Qa ?_;simp only[go_sem,Qc,decide_true];intro hl;try intro _
 simp only[LIM]at hl;refine Qh (Qe rfl ?_ ?_)
 ·intro h;simp at h
 intro _;refine Qi ?_;try simp only[go_sem]
 refine Q5 ?_;refine Qa ?_;simp only[go_sem,Qc];try intro _
 refine Qh (Qf (Qw (fun m e1 H1=>∃(i:Nat),m=ns.length-i∧i≤ns.length∧H1=H∧lk 0 e1=.c (.sl f 1 (Qb ns))∧lk 1 e1=.c (.sl g 1 (Qb ns))∧lk 5 e1=.c (.int .i64 i)) ns.length ?_ ?_))
 ·exact⟨0,by omega,by omega,rfl,rfl,rfl,rfl⟩
 ·rintro m e1 H1 ⟨i,hm,hi,rfl,l0,l1,l5⟩;refine Q5 ?_;refine Qa ?_;simp only[go_sem,l0,l1,l5,Qc];try intro _
  refine Qh (Qe rfl ?_ ?_)
  ·intro hc;have hlt:i<ns.length:=by simpa using hc
   refine Qi ?_;try simp only[go_sem]
   refine Qh (Qf ?_);refine Qad ?_;simp only[go_sem,l0,l1,l5,hlt,Qc,Qm _ _ hlt,decide_true];refine Qe rfl ?_ ?_
   ·intro h;simp at h
   intro _;refine Qi ?_;try simp only[go_sem]
   refine Qt ?_;simp only[go_sem,l0,l1,l5];refine⟨Qr (by omega) (by omega),?_⟩;show ∃m,_;exact⟨ns.length-(i+1),by omega,i+1,rfl,by omega,rfl,rfl,rfl,rfl⟩
  ·intro hc;refine Qv ?_;simp only[go_sem,X.next];refine Qa ?_;simp only[go_sem];refine Qk ?_;simp only[go_sem,Qz,Q8,Qa7j,Jb,forall_eq,RS.op];exact hK
set_option maxHeartbeats 4000000 in
theorem Qao9 {p:BlkD}(hK:∀H',Upd H H' []→K (.c (.bool true)) H'):Qo prog Qjz [.ag p.cells,.ag p.cells] H K:=by
 refine Qu ?_;refine Qd Qai Qapl ?_;refine Qa ?_;simp only[go_sem,BlkD.cells];refine Q5 ?_;refine Qa ?_;simp only[go_sem,Qy,Qay,decide_true];intro hlp hli;simp only[LIM]at hlp hli;refine Qao8 ?_;simp only[go_sem,Qo0];refine Qh (Qe rfl ?_ ?_)
 ·intro h;simp at h
 intro _;refine Qi ?_;try simp only[go_sem]
 refine Q5 ?_;refine Qa ?_;simp only[go_sem];refine Qh (Qf (Qw (fun m e1 H1=>∃(i:Nat),m=p.phis.length-i∧i≤p.phis.length∧H1=H∧lk 2 e1=.c (.pp p.cells)∧lk 3 e1=.c (.pp p.cells)∧lk 5 e1=.c (.int .i64 i)) p.phis.length ?_ ?_))
 ·exact⟨0,by omega,by omega,rfl,rfl,rfl,rfl⟩
 ·rintro m e1 H1 ⟨i,hm,hi,rfl,l2,l3,l5⟩;simp only[BlkD.cells]at l2 l3;refine Q5 ?_;refine Qa ?_;simp only[go_sem,l2,l3,l5,Qy];try intro _
  refine Qh (Qe rfl ?_ ?_)
  ·intro hc;have hlt:i<p.phis.length:=by simpa using hc
   obtain⟨x,hx⟩:∃x,p.phis[i]=x:=⟨_,rfl⟩;refine Qi ?_;try simp only[go_sem]
   refine Qh (Qf ?_);refine Qad ?_;simp only[go_sem,l2,l3,l5,hlt,Qy,Qa7 _ _ hlt,hx,PhiD.cells,decide_true];refine Qao8 ?_;simp only[go_sem,Qo1];refine Qe rfl ?_ ?_
   ·intro h;simp at h
   intro _;refine Qi ?_;try simp only[go_sem]
   refine Qt ?_;simp only[go_sem,l2,l3,l5];refine⟨Qr (by omega) (by omega),?_⟩;show ∃m,_;exact⟨p.phis.length-(i+1),by omega,i+1,rfl,by omega,rfl,rfl,rfl,rfl⟩
  ·intro hc;refine Qv ?_;simp only[go_sem,X.next];refine Q5 ?_;refine Qa ?_;simp only[go_sem,l2,l3];refine Qh (Qf (Qw (fun m e1 H2=>∃(i:Nat),m=p.ins.length-i∧i≤p.ins.length∧Kn H1 H2 [] []∧lk 2 e1=.c (.pp p.cells)∧lk 3 e1=.c (.pp p.cells)∧lk 6 e1=.c (.int .i64 i)) p.ins.length ?_ ?_))
   ·exact⟨0,by omega,by omega,.start0 H1,rfl,rfl,rfl⟩
   ·clear l2 l3 l5;rintro m e1 H2 ⟨i,hm,hi,kn,l2,l3,l6⟩;simp only[BlkD.cells]at l2 l3;refine Q5 ?_;refine Qa ?_;simp only[go_sem,l2,l3,l6,Qay];try intro _
    refine Qh (Qe rfl ?_ ?_)
    ·intro hc;have hlt:i<p.ins.length:=(by simpa using hc);obtain⟨x,hx⟩:∃x,p.ins[i]=x:=⟨_,rfl⟩;refine Qi ?_;try simp only[go_sem]
     refine Qh (Qf ?_);refine Qa ?_;simp only[go_sem,l2,l3,l6,hlt,Qay,Qey _ _ hlt,hx,InsD.cells];intro x7 hx7 H3 h3;have kn:=kn.al hx7 h3;have hx7:=kn.l 0 rfl;simp only[go_sem,Qo2,hx7];intro H4 h4;have kn:Kn H1 H4 [] [(x7,.st x.cells)]:=kn.stL 0 rfl h4;refine Qa ?_;simp only[go_sem,l2,l3,l6,hlt,Qay,Qey _ _ hlt,hx,InsD.cells];intro x8 hx8 H5 h5;have kn:=kn.al hx8 h5;have hx8:=kn.l 1 rfl;simp only[go_sem,Qo3,hx8];intro H6 h6;have kn:Kn H1 H6 [] [(x7,.st x.cells),(x8,.st x.cells)]:=kn.stL 1 rfl h6;have hx7:H6 x7=.st x.cells:=kn.l 0 rfl;have hx8:H6 x8=.st x.cells:=kn.l 1 rfl;refine Qa ?_;simp only[go_sem,hx7,hx8,InsD.cells,decide_true];refine Qao8 ?_;simp only[go_sem,Qo4];refine Qe rfl ?_ ?_
     ·intro h;simp at h
     intro _;refine Qi ?_;try simp only[go_sem]
     refine Qt ?_;simp only[go_sem,l2,l3,l6];refine⟨Qr (by omega) (by omega),?_⟩;show ∃m,_;exact⟨p.ins.length-(i+1),by omega,i+1,rfl,by omega,Kn.drop (A:=[]) (B:=[(x7,_),(x8,_)]) kn,rfl,rfl,rfl⟩
    ·intro hc;refine Qv ?_;simp only[go_sem,X.next];refine Qa ?_;simp only[go_sem];refine Qk ?_;simp only[go_sem,Qz,Q8,Q1f,Jb,forall_eq,RS.op];exact⟨_,.c _ _ (Qg rfl),hK _ kn.fin⟩
set_option maxHeartbeats 1000000 in
theorem Qatp {p:CodeD}(hK:∀H',Upd H H' []→K (.c (.bool true)) H'):Qo prog Qmm [.ag p.cells,.ag p.cells] H K:=by
 refine Qu ?_;refine Qd Qai Qat7 ?_;refine Qa ?_;simp only[go_sem,CodeD.cells];refine Q5 ?_;refine Qa ?_;simp only[go_sem,Qp,decide_true];intro hl;try intro _
 simp only[LIM]at hl;refine Qh (Qe rfl ?_ ?_)
 ·intro h;simp at h
 intro _;refine Qi ?_;try simp only[go_sem]
 refine Q5 ?_;refine Qa ?_;simp only[go_sem];refine Qh (Qf (Qw (fun m e1 H1=>∃(i:Nat),m=p.blocks.length-i∧i≤p.blocks.length∧Kn H H1 [] []∧lk 2 e1=.c (.pp [.int .i64 p.params,.int .i64 p.regs,.sl false 5 (Qs p.blocks)])∧lk 3 e1=.c (.pp [.int .i64 p.params,.int .i64 p.regs,.sl false 5 (Qs p.blocks)])∧lk 5 e1=.c (.int .i64 i)) p.blocks.length ?_ ?_))
 ·exact⟨0,by omega,by omega,.start0 H,rfl,rfl,rfl⟩
 ·rintro m e1 H1 ⟨i,hm,hi,kn,l2,l3,l5⟩;refine Q5 ?_;refine Qa ?_;simp only[go_sem,l2,l3,l5,Qp];try intro _
  refine Qh (Qe rfl ?_ ?_)
  ·intro hc;have hlt:i<p.blocks.length:=by simpa using hc
   obtain⟨x,hx⟩:∃x,p.blocks[i]=x:=⟨_,rfl⟩;refine Qi ?_;try simp only[go_sem]
   refine Qh (Qf ?_);refine Qad ?_;simp only[go_sem,l2,l3,l5,hlt,Qp,Qa6 _ _ hlt,hx,BlkD.cells];refine Qao9 (p:=x) fun H2 hu=>?_;have kn:=kn.call0 hu;simp only[go_sem,Quy];refine Qe rfl ?_ ?_
   ·intro h;simp at h
   intro _;refine Qi ?_;try simp only[go_sem]
   refine Qt ?_;simp only[go_sem,l2,l3,l5];refine⟨Qr (by omega) (by omega),?_⟩;show ∃m,_;exact⟨p.blocks.length-(i+1),by omega,i+1,rfl,by omega,kn,rfl,rfl,rfl⟩
  ·intro hc;refine Qv ?_;simp only[go_sem,X.next];refine Qa ?_;simp only[go_sem];refine Qk ?_;simp only[go_sem,Qz,Q8,Q5g,Jb,forall_eq,RS.op];exact⟨_,.c _ _ (Qg rfl),hK _ kn.fin⟩
set_option maxHeartbeats 1000000 in
theorem Qns {f g:Bool}{cs:List CodeD}(hK:∀H',Upd H H' []→K (.c (.bool true)) H'):Qo prog Qd4 [.ag [.sl f 3 (Ql cs)],.ag [.sl g 3 (Ql cs)]] H K:=by
 refine Qu ?_;refine Qd Qai Qais ?_;refine Qa ?_;simp only[go_sem];refine Q5 ?_;refine Qa ?_;simp only[go_sem,Q3,decide_true];intro hl;try intro _
 simp only[LIM]at hl;refine Qh (Qe rfl ?_ ?_)
 ·intro h;simp at h
 intro _;refine Qi ?_;try simp only[go_sem]
 refine Q5 ?_;refine Qa ?_;simp only[go_sem];refine Qh (Qf (Qw (fun m e1 H1=>∃(i:Nat),m=cs.length-i∧i≤cs.length∧Kn H H1 [] []∧lk 2 e1=.c (.pp [.sl f 3 (Ql cs)])∧lk 3 e1=.c (.pp [.sl g 3 (Ql cs)])∧lk 5 e1=.c (.int .i64 i)) cs.length ?_ ?_))
 ·exact⟨0,by omega,by omega,.start0 H,rfl,rfl,rfl⟩
 ·rintro m e1 H1 ⟨i,hm,hi,kn,l2,l3,l5⟩;refine Q5 ?_;refine Qa ?_;simp only[go_sem,l2,l3,l5,Q3];try intro _
  refine Qh (Qe rfl ?_ ?_)
  ·intro hc;have hlt:i<cs.length:=by simpa using hc
   obtain⟨x,hx⟩:∃x,cs[i]=x:=⟨_,rfl⟩;refine Qi ?_;try simp only[go_sem]
   refine Qh (Qf ?_);refine Qad ?_;simp only[go_sem,l2,l3,l5,hlt,Q3,Qal _ _ hlt,hx,CodeD.cells];refine Qatp (p:=x) fun H2 hu=>?_;have kn:=kn.call0 hu;simp only[go_sem,Ql2];refine Qe rfl ?_ ?_
   ·intro h;simp at h
   intro _;refine Qi ?_;try simp only[go_sem]
   refine Qt ?_;simp only[go_sem,l2,l3,l5];refine⟨Qr (by omega) (by omega),?_⟩;show ∃m,_;exact⟨cs.length-(i+1),by omega,i+1,rfl,by omega,kn,rfl,rfl,rfl⟩
  ·intro hc;refine Qv ?_;simp only[go_sem,X.next];refine Qa ?_;simp only[go_sem];refine Qk ?_;simp only[go_sem,Qz,Q8,Qxw,Jb,forall_eq,RS.op];exact⟨_,.c _ _ (Qg rfl),hK _ kn.fin⟩
end Go.AE.Y
namespace Go.AE.Y
attribute [local go_sem] cond_true cond_false Bool.not_true Bool.not_false
attribute [local instance] Classical.propDecidable
open Go.Proofs.Tryz
variable {H H' H0:Heap}{K:V→Heap→Prop}{E A A' B Li:List (Nat×Obj)}{cs ds:List CodeD}{fl f2:Bool}{l:List Int}
def Qj5 (cs:List CodeD):Int:=(Qx cs (cs.length-1)).params
theorem Q45 (h0:0<cs.length)(hK:K (.c (.int .i64 (Qj5 cs))) H):Qo prog Qdi [.ag [.sl fl 3 (Ql cs)]] H K:=by
 refine Qd Qai Qabk ?_;have hi1:((cs.length:Int)-1)=((cs.length-1:Nat):Int):=by omega
 have hlt:cs.length-1<cs.length:=by omega
 rw[Qj5,Qcl hlt]at hK;refine Qa ?_;simp only[go_sem];refine Qa ?_;simp only[go_sem,Q3,hi1,hlt,Qal _ _ hlt,CodeD.cells];intro hl;simp only[LIM]at hl;refine⟨Qr (by omega) (by omega),?_⟩;refine Qk ?_;simp only[go_sem,Qz,Q8,Qrl,Jb,forall_eq,RS.op];exact hK
theorem Qa8n {v:Int}(hK:K (.c (.bool (!(decide (0≤v)&&decide (v≤255))))) H):Qo prog Qf8 [.c (.int .i64 v)] H K:=by
 refine Qd Qai Qabi ?_;refine Qa ?_;simp only[go_sem];refine Qa ?_;simp only[go_sem];refine Qa60 ?_;simp only[go_sem,Qjn];refine Qk ?_;simp only[go_sem,Qz,Q8,Qri,Jb,forall_eq,RS.op];exact hK
theorem Qbcz {n:Int}(hn:(l.length:Int)=n)(hb:byL l)(hK:K (.c (.bool true)) H):Qo prog Qmc [.c (.sl f2 1 (Qb l)),.c (.int .i64 n)] H K:=by
 have hd:decide ((l.length:Int)=n)=true:=decide_eq_true hn;refine Qd Qai Qatu ?_;refine Qa ?_;simp only[go_sem];refine Qa ?_;simp only[go_sem,Qc,hd];try intro _
 refine Qc6 (p:=fun v=>!(decide (0≤v)&&decide (v≤255))) (.mk' _ _ _ _) rfl (fun x K' _ hk=>Qa8n hk) ?_;have hany:(l.any fun v=>!(decide (0≤v)&&decide (v≤255)))=false:=by
  rw[List.any_eq_false];intro v hv;obtain⟨a,b⟩:=hb v hv;simp[a,b]
 rw[hany];simp only[go_sem,Qr2];refine Qk ?_;simp only[go_sem,Qz,Q8,Q5a,Jb,forall_eq,RS.op];exact hK
theorem Qbcg {S:Nat}(hfit:∀c∈cs,c.fits)(hg:Qas cs=true)(hl:(l.length:Int)=Qj5 cs)(hbl:byL l)(hS:S≤60000)(hK:∀H',Upd H H' []→K (.c (.bool true)) H') :
  Qo prog Qjx [.ag [.sl fl 3 (Ql cs)],.c (.sl f2 1 (Qb l)),.c (.int .i64 S)] H K:=by
 have h0:=(runW hg).ro.n;refine Qd Qai Qaph ?_;refine Qa ?_;simp only[go_sem];refine Qa ?_;simp only[go_sem];refine Qg4 hfit fun H1 hu=>?_;rw[hg];simp only[go_sem,Qoe];refine Q45 h0 ?_;simp only[go_sem,Qod];refine Qbcz hl hbl ?_;simp only[go_sem,Qoc];refine Qcy ?_;have hw:(decide ((0:Int)≤(S:Int))&&decide ((S:Int)≤60000))=true:=by simp;omega
 rw[hw];simp only[go_sem,Qob];refine Qk ?_;simp only[go_sem,Qz,Q8,Q08,Jb,forall_eq,RS.op];exact hK _ hu
def Qnx (o:Int×Int×List Int×List Int):List C:=[.sl false 1 (Qb o.2.2.1),.int .i64 o.1,.int .i64 o.2.1,.sl false 1 (Qb o.2.2.2)]
theorem Qasz {S:Nat}(hfit:∀c∈cs,c.fits)(hg:Qas cs=true)(hl:(l.length:Int)=Qj5 cs)(hbl:byL l)(hS:S≤60000)(hK:∀H',Upd H H' []→K (.tup [.ag (Qnx (outR cs l S)),.c (.bool true)]) H') :
  Qo prog Qgz [.ag [.sl fl 3 (Ql cs)],.c (.sl f2 1 (Qb l)),.c (.int .i64 S)] H K:=by
 refine Qu ?_;refine Qd Qai Qatt ?_;refine Qa ?_;simp only[go_sem];intro x6 hx6 H1 h1;have kn:Kn H H1 [] [(x6,oO 0 0)]:=(Kn.start0 H).al hx6 h1;simp only[go_sem,Qrw];refine Q5 ?_;refine Qa ?_;simp only[go_sem];refine Qbcg hfit hg hl hbl hS fun H2 hu=>?_;have kn:=kn.call0 hu;simp only[go_sem,Qrx];refine Qh (Qe (c:=false) rfl (fun h=>by cases h) fun _=>?_);refine Qi ?_;try simp only[go_sem]
 refine Qa ?_;simp only[go_sem];refine Qbfk hg hl hbl hS fun e v s c u H3 ho hu=>?_;have kn:=kn.call0 hu;simp only[go_sem,Qr0,J3,J2];intro x8 hx8 H4 h4;have kn:Kn H H4 [] [(x6,oO 0 0),(x8,oO 0 0)]:=kn.al hx8 h4;have hx8:H4 x8=.st [.sl true 1 [],.int .i64 0,.int .i64 0,.sl true 1 []]:=kn.l 1 rfl;simp only[go_sem,Qrz,hx8];intro H5 h5;have kn:Kn H H5 [] [(x6,oO 0 0),(x8,.st [.sl false 1 (Qb s),.int .i64 e,.int .i64 v,.sl false 1 (Qb c)])]:=kn.stL 1 rfl h5;have hx8:H5 x8=.st [.sl false 1 (Qb s),.int .i64 e,.int .i64 v,.sl false 1 (Qb c)]:=kn.l 1 rfl;have hx6:H5 x6=.st [.sl true 1 [],.int .i64 0,.int .i64 0,.sl true 1 []]:=kn.l 0 rfl;simp only[go_sem,Qry];refine Qa ?_;simp only[go_sem,hx8,hx6];intro H6 h6;have kn:Kn H H6 [] [(x6,.st [.sl false 1 (Qb s),.int .i64 e,.int .i64 v,.sl false 1 (Qb c)]),(x8,.st [.sl false 1 (Qb s),.int .i64 e,.int .i64 v,.sl false 1 (Qb c)])]:=kn.stL 0 rfl h6;have hx6:H6 x6=.st [.sl false 1 (Qb s),.int .i64 e,.int .i64 v,.sl false 1 (Qb c)]:=kn.l 0 rfl;simp only[go_sem,Qr1];refine Qk ?_;simp only[go_sem,Qz,Q8,Q49,Jaf,RS.op,hx6];refine⟨_,Qa6z (FrzL.ag (FrzL.same rfl)) (.c _ _ (Qg rfl)),?_⟩;have:=hK _ kn.fin;rw[ho]at this;exact this
theorem Qaop {o:Int×Int×List Int×List Int}(hK:K (.c (.bool true)) H):Qo prog Qew [.ag (Qnx o),.ag (Qnx o)] H K:=by
 refine Qd Qai Q7q ?_;refine Qa ?_;simp only[go_sem,Qnx];refine Qa ?_;simp only[go_sem];refine Qazi ?_;simp only[go_sem,Qic,decide_true];refine Qazi ?_;simp only[go_sem,Qib];refine Qk ?_;simp only[go_sem,Qz,Q8,Qny,Jb,forall_eq,RS.op];exact hK
set_option maxHeartbeats 2000000 in
theorem Qa8g {S:Nat}(hf1:∀c∈cs,c.fits)(hf2:∀c∈ds,c.fits)(hg1:Qas cs=true)(hg2:Qas ds=true)(hl1:(l.length:Int)=Qj5 cs)(hl2:(l.length:Int)=Qj5 ds)(hbl:byL l)(hS:S≤60000)(hs:Qazy cs ds l S)
  (hK:∀H',Upd H H' []→K (.c (.bool true)) H'):Qo prog Qjv [.ag [.sl fl 3 (Ql cs)],.ag [.sl fl 3 (Ql ds)],.c (.sl f2 1 (Qb l)),.c (.int .i64 S)] H K:=by
 refine Qu ?_;refine Qd Qai Qapc ?_;refine Qa ?_;simp only[go_sem];refine Qa ?_;simp only[go_sem];refine Qasz hf1 hg1 hl1 hbl hS fun H1 hu=>?_;have kn:=(Kn.start0 H).call0 hu;obtain⟨o,ho⟩:∃o,outR cs l S=o:=⟨_,rfl⟩;rw[ho];simp only[go_sem,Qn4,J3,J2];intro x9 hx9 H2 h2;have kn:Kn H H2 [] [(x9,oO 0 0)]:=kn.al hx9 h2;have hx9:H2 x9=.st [.sl true 1 [],.int .i64 0,.int .i64 0,.sl true 1 []]:=kn.l 0 rfl;simp only[go_sem,Qn3,hx9,Qnx];intro H3 h3;have kn:Kn H H3 [] [(x9,.st (Qnx o))]:=kn.stL 0 rfl h3;simp only[go_sem,Qn2];refine Qa ?_;simp only[go_sem];refine Qasz (S:=60000) hf2 hg2 hl2 hbl (by omega) fun H4 hu=>?_;have kn:=kn.call0 hu;obtain⟨p,hp⟩:∃p,outR ds l 60000=p:=⟨_,rfl⟩;rw[hp];simp only[go_sem,Qn7,J3,J2];intro x11 hx11 H5 h5;have kn:Kn H H5 [] [(x9,.st (Qnx o)),(x11,oO 0 0)]:=kn.al hx11 h5;have hx11:H5 x11=.st [.sl true 1 [],.int .i64 0,.int .i64 0,.sl true 1 []]:=kn.l 1 rfl;simp only[go_sem,Qn6,hx11,Qnx];intro H6 h6;have kn:Kn H H6 [] [(x9,.st (Qnx o)),(x11,.st (Qnx p))]:=kn.stL 1 rfl h6;have hx9:H6 x9=.st [.sl false 1 (Qb o.2.2.1),.int .i64 o.1,.int .i64 o.2.1,.sl false 1 (Qb o.2.2.2)]:=kn.l 0 rfl;have hx11:H6 x11=.st [.sl false 1 (Qb p.2.2.1),.int .i64 p.1,.int .i64 p.2.1,.sl false 1 (Qb p.2.2.2)]:=kn.l 1 rfl;simp only[go_sem,Qn5];refine Qa ?_;have hfin:∀H',Kn H H' [] [(x9,.st (Qnx o)),(x11,.st (Qnx p))]→unK H K (.c (.bool true)) H':=fun H' k=>⟨_,.c _ _ (Qg rfl),hK _ k.fin⟩;rw[Qazy,ho,hp]at hs;rcases hs with hs|hs
 ·have hd:decide (o.1=3)=true:=decide_eq_true hs;simp only[go_sem,hx9,hx11,hd,Qdj];refine Qk ?_;simp only[go_sem,Qz,Q8,Qg6,Jb,forall_eq,RS.op];exact hfin _ kn
 ·subst hs;by_cases h3:o.1=3
  ·have hd:decide (o.1=3)=true:=decide_eq_true h3;simp only[go_sem,hx9,hx11,hd,Qdj];refine Qk ?_;simp only[go_sem,Qz,Q8,Qg6,Jb,forall_eq,RS.op];exact hfin _ kn
  ·have hd:decide (o.1=3)=false:=decide_eq_false h3;simp only[go_sem,hx9,hx11,hd];refine Qaop (o:=o) ?_;simp only[go_sem,Qdj];refine Qk ?_;simp only[go_sem,Qz,Q8,Qg6,Jb,forall_eq,RS.op];exact hfin _ kn
def tryC:List C:=Qiy [0,0,0,1,2,3,255,16,7]
def tryL (j:Nat):List Int:=([[0,0,0],[1,2,3],[255,16,7]]:List (List Int)).getD j []
def triL (n:Nat):List (List C):=(List.range 3).map fun j=>[.sl false 1 (Qb ((tryL j).take n))]
theorem Qbhl {j:Nat}(h:j<3):(tryL j).length=3:=by
 have:j=0∨j=1∨j=2:=by omega
 rcases this with rfl|rfl|rfl <;> rfl
theorem Qbrk {j:Nat}(h:j<3):byL (tryL j):=by
 have:j=0∨j=1∨j=2:=by omega
 intro v hv;rcases this with rfl|rfl|rfl <;> (simp[tryL]at hv;rcases hv with rfl|rfl|rfl <;> exact⟨by omega,by omega⟩)
theorem Qbl0 {j:Nat}(h:j<3):(tryC.drop (j * 3)).take 3=Qiy (tryL j):=by
 have:j=0∨j=1∨j=2:=by omega
 rcases this with rfl|rfl|rfl <;> rfl
theorem Qbii (l:List Int)(n:Nat):((Qiy l).take n).map (fun c=>[c])=Qb (l.take n):=by simp only[Qiy,Qb,List.map_take,Jad];rfl
theorem Qatk (l:List Int):noOw (Qiy l)=true:=by simp[noOw,Qiy,C.isOw]
theorem Qbhf {S:Nat→Bool}{n:Nat}:∀(rs:List (C×List (Nat×Obj))) (k:Nat),(∀j (h:j<rs.length),Gr rs[j].2 1 (Qb ((tryL (k+j)).take n)) rs[j].1)→(∀p∈rs.flatMap Prod.snd,H p.1=p.2∧S p.1=true)→
  FrzR H S (rs.map fun p=>[p.1]) ((List.range' k rs.length).map fun j=>[.sl false 1 (Qb ((tryL j).take n))])
 |[],k,_,_=>.nil
 |p::rs,k,h,hm=>by
  refine .cons (.cons (Gr.frzM (h 0 (by simp)) (fun q hq=>hm q (by rw[Jao];exact Ju _ hq)) (FrzR.same (Qn _))) .nil) ?_;exact Qbhf rs (k+1) (fun j hj=>by
   have:=h (j+1) (by simpa using hj);rw[show k+(j+1)=k+1+j by omega]at this;exact this) fun q hq=>hm q (by
    rw[Jao];exact Jl _ hq)
set_option maxHeartbeats 4000000 in
theorem Qbhh {n:Nat}(hgl:H 0=.gl 0 tryC)(hn:n≤3)(hK:∀H',Upd H H' []→K (.c (.sl false 1 (triL n))) H'):Qo prog Qmg [.c (.int .i64 n)] H K:=by
 refine Qu ?_;refine Qd Qai Qatz ?_;have hne:H 0≠.none:=by rw[hgl];nofun
 have htl:tryC.length=9:=rfl;have htt:tryC.take 9=tryC:=rfl;refine Qa ?_;simp only[go_sem];refine Qa ?_;simp only[go_sem];refine Q5 ?_;refine Qa ?_;simp only[go_sem,hgl,htl,htt];refine Qh (Qf (Qw (fun m e1 H1=>∃(i:Nat) (t:C) (Lg:List (Nat×Obj)) (rs:List (C×List (Nat×Obj))),m=3-i∧i≤3∧rs.length=i∧(∀p∈rs,p.1.isOw=false)∧Gr Lg 1 (rs.map fun p=>[p.1]) t∧(∀j (h:j<rs.length),Gr rs[j].2 1 (Qb ((tryL j).take n)) rs[j].1)∧Kn H H1 [] (rs.flatMap Prod.snd++Lg)∧
  lk 0 e1=.c (.int .i64 n)∧lk 3 e1=.c t∧lk 6 e1=.ag tryC∧lk 7 e1=.c (.int .i64 i)) 3 ?_ ?_))
 ·exact⟨0,_,[],[],rfl,by omega,rfl,by simp,.nil 1,by simp,.start0 H,rfl,rfl,rfl,rfl⟩
 ·rintro m e1 H1 ⟨i,t,Lg,rs,hm,hi,hrl,how,hgr,hrs,kn,l0,l3,l6,l7⟩;have htw:=hgr.isOw;refine Qa ?_;simp only[go_sem,l0,l3,l6,l7,htw];refine Qh (Qe rfl ?_ ?_)
  ·intro hc;have hlt:i<3:=by have:(i:Int)<3:=of_decide_eq_true hc;omega
   have hpart:=Qbl0 hlt;have htryl:=Qbhl hlt;have hpl:(Qiy (tryL i)).length=3:=by rw[Qiy,Jc,htryl]
   refine Qi ?_;try simp only[go_sem]
   refine Qh (Qf ?_);refine Qa ?_;simp only[go_sem,l0,l3,l6,l7,htw,htl,hpart,hpl];refine⟨by omega,?_⟩;intro x5 hx5 H2 h2;have kn:=kn.al hx5 h2;have hx5:H2 x5=.st [.int .i64 0,.int .i64 0,.int .i64 0]:=(kn.get (x5,.st [.int .i64 0,.int .i64 0,.int .i64 0]) (by simp)).1;simp only[go_sem,Qtx,hx5,hpl,htw];intro H3 h3;have kn:Kn H H2 [] ([(x5,.st [.int .i64 0,.int .i64 0,.int .i64 0])]++(rs.flatMap Prod.snd++Lg)):=kn.perm Jm;have kn:Kn H H3 [] ([(x5,.st (Qiy (tryL i)))]++(rs.flatMap Prod.snd++Lg)):=kn.stL 0 rfl (by rw[h3];simp[htryl]);have kn:Kn H H3 [] ((rs.flatMap Prod.snd++Lg)++[(x5,.st (Qiy (tryL i)))]):=kn.perm Jm;obtain⟨Sf,hfL,hfB,hfr,kn2⟩:=kn.freeze0;obtain⟨hf1,hf2⟩:=hfL (x5,.st (Qiy (tryL i))) (by simp);obtain⟨H4,hH4⟩:∃H4,H3.frz Sf=H4:=⟨_,rfl⟩;refine c_gh (e':=[(0,.c (.int .i64 n)),(3,.c t),(5,.c (.pp (Qiy (tryL i)))),(6,.ag tryC),(7,.c (.int .i64 i))]) (H':=H4) (by
    rw[←hH4];refine Qbdi Sf (Q3j fun p hp=>?_);simp only[Jbi,Ja0,or_false]at hp;rcases hp with rfl|rfl|rfl|rfl|rfl
    ·exact .c _ _ (.same _ rfl)
    ·exact .c _ _ (.same _ htw)
    ·exact .c _ _ (FrzL.ptr hf2 hf1 (FrzL.same (Qatk _)))
    ·exact (FrzL.same (Qatk _)).ag
    ·exact .c _ _ (.same _ rfl)) ?_
   rw[hH4]at kn2;refine Qt ?_;have hrows:=Qbii (tryL i) n;simp only[go_sem,htw,hpl,hrows];refine⟨⟨⟨by omega,by omega⟩,by simp only[LIM];omega⟩,?_⟩;have hbd:((tryL i).take n).length≤LIM:=by rw[Js,htryl];simp only[LIM];omega
   refine Q22 kn2 hbd fun t2 Lg2 H5 hg2 ht2 kn=>?_;simp only[go_sem,Qtz,htw,ht2];have kn:Kn H H5 [] ((rs.flatMap Prod.snd++Lg2)++Lg):=kn.perm (Qj fun f hf h0 hc hp=>by simp only[hf];omega);refine kn.growR (new:=[[t2]]) hgr (.mk' _ _ _ _) (by simp[noOw,ht2]) (by simp only[Jc,hrl,LIM,Jr,Jp];omega) fun t3 Lg3 H6 hg3 ht3 kn=>?_;simp only[go_sem,Qty,ht3];refine Qt ?_;simp only[go_sem,ht3];refine⟨Qr (by omega) (by omega),?_⟩;show ∃m,_;refine⟨3-(i+1),by omega,i+1,t3,Lg3,rs++[(t2,Lg2)],rfl,by omega,by simp[hrl],?_,?_,?_,?_,rfl,rfl,rfl,rfl⟩
   ·intro p hp;rcases Jz.1 hp with hp|hp
    ·exact how p hp
    ·rw[Jb]at hp;subst hp;exact ht2
   ·rw[Jv];exact hg3
   ·intro j hj;rw[J7]at hj;by_cases hj2:j<rs.length
    ·rw[List.getElem_append_left hj2];exact hrs j hj2
    ·have hje:j=i:=(by simp at hj;omega);subst hje;rw[List.getElem_append_right (by omega)];simp only[hrl,Jap,List.getElem_cons_zero];exact hg2
   ·rw[Jas];simpa using kn
  ·intro hc;have hge:i=3:=by
    have:¬((i:Int)<3):=of_decide_eq_false hc;omega
   refine Qv ?_;simp only[go_sem,X.next];refine Qa ?_;simp only[go_sem,l3,htw];refine Qk ?_;simp only[go_sem,Qz,Q8,Q5c,Jb,forall_eq,RS.op,htw];have hz:=Qbhf (H:=H1) (S:=un H) (n:=n) rs 0 (by simpa using hrs) fun p hp=>⟨(kn.get p (by simp only[List.nil_append];exact Ju _ hp)).1,Qkj (kn.loc p (Ju _ hp))⟩;rw[hrl,hge]at hz;exact⟨_,.c _ _ (hgr.frzR kn hz),hK _ kn.fin⟩
theorem Qasy (hgl:H 0=.gl 0 tryC)(hfit:∀c∈cs,c.fits)(hg:Qas cs=true)(hK:∀H',Upd H H' []→K (.c (.sl false 1 (triL (Qj5 cs).toNat))) H'):Qo prog Qf7 [.ag [.sl fl 3 (Ql cs)]] H K:=by
 have hw:=runW hg;have h0:=hw.ro.n;obtain⟨p0,p3,_⟩:=hw.par (cs.length-1) (by omega);have hne:H 0≠.none:=by rw[hgl];nofun
 obtain⟨n,hn⟩:∃n:Nat,Qj5 cs=n:=⟨(Qj5 cs).toNat,by rw[Qj5];omega⟩;have hn3:n≤3:=by rw[Qj5]at hn;omega
 rw[hn]at hK;refine Qd Qai Qabh ?_;refine Qa ?_;simp only[go_sem];refine Q5 ?_;refine Qa ?_;simp only[go_sem];refine Qg4 hfit fun H1 hu=>?_;have kn:=(Kn.start0 H).call0 hu;rw[hg];simp only[go_sem,Qjk];refine Qh (Qe (c:=false) rfl (fun h=>by cases h) fun _=>?_);refine Qi ?_;try simp only[go_sem]
 refine Qa ?_;simp only[go_sem];refine Q45 h0 ?_;rw[hn];simp only[go_sem,Qjm];refine Qbhh (by rw[kn.chg 0 hne (by simp)];exact hgl) hn3 fun H2 hu2=>?_;have kn:=kn.call0 hu2;simp only[go_sem,Qjl];refine Qk ?_;simp only[go_sem,Qz,Q8,Qrg,Jb,forall_eq,RS.op];exact hK _ kn.upd
end Go.AE.Y
namespace Go.AE.Y
attribute [local go_sem] cond_true cond_false Bool.not_true Bool.not_false
attribute [local instance] Classical.propDecidable
open Go.Proofs.Tryz
variable {H H0:Heap}{K:V→Heap→Prop}{fl:Bool}{cs ds:List CodeD}
def Qbot:SC:=(.cond (.t 12) (.seq (.reg (
  .f (some 2) none (.mv (.k (.c (.bool true))))::
  []) [2]) .ret) .skip)
def Qa7s:List Item:=
  .e none none (.sto 1 (.t 3) (.t 14))::
  []
def Qa7t:List Item:=
  .e (some 3) none (.alloc [.sl true 3 []])::
  Qa7s
def Qa7u:List Item:=
  .f (some 5) none (.mv (.t 19))::
  []
def Qa7v:List Item:=
  .e none none (.sto 1 (.t 4) (.t 18))::
  Qa7u
def Qa7w:List Item:=
  .f (some 15) none (.mv (.t 17))::
  .f (some 18) none (.ext (.t 15) 0)::
  .f (some 19) none (.ext (.t 15) 1)::
  .e (some 4) none (.alloc [.sl true 3 []])::
  Qa7v
def Qa7x:List Item:=
  .f (some 7) none (.mv (.t 24))::
  []
def Qa7y:List Item:=
  .e none none (.sto 1 (.t 6) (.t 23))::
  Qa7x
def Qa7z:List Item:=
  .f (some 20) none (.mv (.t 22))::
  .f (some 23) none (.ext (.t 20) 0)::
  .f (some 24) none (.ext (.t 20) 1)::
  .e (some 6) none (.alloc [.sl true 3 []])::
  Qa7y
def Qash:List Item:=
  .f (some 32) (some (28,false)) (.not (.t 31))::
  .f (some 33) none (.pick (.t 28) (.k (.c (.bool true))) (.t 32))::
  .f (some 34) none (.mv (.t 33))::
  .f (some 35) (some (34,false)) (.mv (.t 5))::
  .f (some 36) (some (34,false)) (.not (.t 35))::
  .f (some 37) none (.pick (.t 34) (.k (.c (.bool true))) (.t 36))::
  []
def Qayt:List Item:=
  .f (some 45) none (.pick (.t 41) (.t 44) (.k (.c (.bool false))))::
  .f (some 2) none (.mv (.t 45))::
  []
def Qbk9:SC:=(.cond (.t 37) (.seq (.reg (
  .f (some 38) none (.mv (.t 5))::
  .f (some 39) none (.mv (.t 7))::
  .f (some 40) none (.bin 1 .eql (.t 38) (.t 39))::
  .f (some 41) none (.mv (.t 40))::
  .f (some 42) (some (41,true)) (.ld 1 true (.t 4))::
  .f (some 43) (some (41,true)) (.ld 1 true (.t 6))::
  .e (some 44) (some (41,true)) (.call Qd4 [.t 42,.t 43])::
  Qayt) [2]) .ret) .skip)
def Qayu:List Item:=
  .f (some 48) none (.len (.t 47))::
  .f (some 49) none (.mv (.k (.c (.int .i64 0))))::
  []
def Qayv:List Item:=
  .f (some 57) none (.not (.t 56))::
  []
def Qbla:SC:=(.cond (.t 57) (.seq (.reg (
  .f (some 2) none (.mv (.k (.c (.bool false))))::
  []) [2]) .ret) .skip)
def Qblb:SC:=(.seq (.reg (
  .f (some 53) none (.ld 1 true (.t 3))::
  .f (some 54) none (.ld 1 true (.t 4))::
  .f (some 55) none (.mv (.t 9))::
  .e (some 56) none (.call Qjv [.t 53,.t 54,.t 55,.k (.c (.int .i64 800))])::
  Qayv) [3,4,47,48,49,57]) Qbla)
def Qblc:SC:=(.reg (
  .f (some 58) none (.bin 0 .add (.t 49) (.k (.c (.int .i64 1))))::
  .f (some 49) none (.mv (.t 58))::
  []) [3,4,47,48,49])
def Qbld:SC:=(.seq (.block 1 (.seq (.reg (
  .f (some 51) none (.iad 1 (.t 47) (.t 49))::
  .f (some 52) none (.ld 1 false (.t 51))::
  .f (some 9) none (.mv (.t 52))::
  []) [3,4,9,47,48,49]) Qblb)) Qblc)
def Qbg1:SC:=(.seq (.reg (
  .f (some 50) none (.bin 0 .lss (.t 49) (.t 48))::
  []) [3,4,47,48,49,50]) (.seq (.cond (.t 50) .skip (.exit 0)) Qbld))
def Qayw:List Item:=
  .f (some 2) none (.mv (.t 60))::
  []
def Qble:SC:=(.seq (.reg (
  .f (some 59) none (.ld 1 true (.t 4))::
  .e (some 60) none (.call Qbv [.t 59])::
  Qayw) [2]) .ret)
def Qblf:SC:=(.seq (.seq (.reg (
  .f (some 46) none (.ld 1 true (.t 3))::
  .e (some 47) none (.call Qf7 [.t 46])::
  Qayu) [3,4,47,48,49]) (.block 0 (.loop Qbg1))) Qble)
def Qblg:SC:=(.seq (.seq (.reg (
  .f (some 25) none (.mv (.t 5))::
  .f (some 26) none (.mv (.t 7))::
  .f (some 27) none (.bin 1 .neq (.t 25) (.t 26))::
  .f (some 28) none (.mv (.t 27))::
  .f (some 29) (some (28,false)) (.ld 1 true (.t 4))::
  .f (some 30) (some (28,false)) (.ld 1 true (.t 6))::
  .e (some 31) (some (28,false)) (.call Qd4 [.t 29,.t 30])::
  Qash) [3,4,5,6,7,37]) Qbk9) Qblf)
def Qblh (sp:Nat):SC:=(.seq (.reg (
  .f (some 21) none (.ld 1 true (.t 3))::
  .e (some 22) none (.call sp [.t 21])::
  Qa7z) [3,4,5,6,7]) Qblg)
def Qbli (im sp:Nat):SC:=(.seq (.reg (
  .f (some 16) none (.ld 1 true (.t 3))::
  .e (some 17) none (.call im [.t 16])::
  Qa7w) [3,4,5]) (Qblh sp))
def Qblj (dr im sp:Nat):SC:=(.seq (.reg (
  .f (some 13) none (.mv (.t 0))::
  .e (some 14) none (.call dr [.t 13])::
  Qa7t) [3]) (Qbli im sp))
def Qblk (dr im sp:Nat):SC:=(.seq (.seq (.reg (
  .f (some 10) none (.mv (.t 0))::
  .f (some 11) none (.len (.t 10))::
  .f (some 12) none (.bin 0 .gtr (.t 11) (.k (.c (.int .i64 1048576))))::
  []) [0,12]) Qbot) (Qblj dr im sp))
def Qbsk (dr im sp:Nat):SC:=(.seq (.reg (
  .f (some 2) none (.mv (.k (.c (.bool false))))::
  []) [0]) (Qblk dr im sp))
def Qbol:List RS:=[.tmp 2]
theorem Qbhg (n:Nat):(triL n).length=3:=by simp[triL]
theorem Qbo4 (n:Nat){i:Nat}(h:i<3):(triL n).getD i []=[.sl false 1 (Qb ((tryL i).take n))]:=by
 have:i=0∨i=1∨i=2:=by omega
 rcases this with rfl|rfl|rfl <;> rfl
theorem Qa77 {i n:Nat}(h:i<3)(hn:n≤3):((tryL i).take n).length=n:=by rw[Js,Qbhl h];omega
theorem Qbo5 {i n:Nat}(h:i<3):byL ((tryL i).take n):=fun v hv=>Qbrk h v (List.mem_of_mem_take hv)
theorem Qa68 {f:CodeD→CodeD}(h:∀q,(f q).params=q.params):Qj5 (cs.map f)=Qj5 cs:=by
 rw[Qj5,Qj5,Qx,Qx,Jc];simp only[Ja,Jy]
 cases cs[cs.length-1]? with
 |none=>rfl
 |some q=>exact h q
set_option maxHeartbeats 8000000 in
theorem Qaux {f dr im sp:Nat}{P:List CodeD→List CodeD→Prop}{G:List CodeD→Bool}{bs:List UInt8}(hm:mFn prog f 1 61 (Qbsk dr im sp) Qbol=true)
  (hdr:∀(bs:List UInt8) (H:Heap) (K:V→Heap→Prop),(∀cs H',Upd H H' []→UnitOk cs→K (.ag [.sl false 3 (Ql cs)]) H')→Qo prog dr [.c (.sl false 1 (Qbf bs))] H K)
  (him:∀(cs:List CodeD) (H:Heap) (K:V→Heap→Prop),(∀c∈cs,c.fits)→(∀ds H',P cs ds→Upd H H' []→K (.tup [.ag [.sl false 3 (Ql ds)],.c (.bool (G cs))]) H')→Qo prog im [.ag [.sl false 3 (Ql cs)]] H K)
  (hsp:∀(cs:List CodeD) (H:Heap) (K:V→Heap→Prop),(∀c∈cs,c.fits)→(∀ds H',P cs ds→Upd H H' []→K (.tup [.ag [.sl false 3 (Ql ds)],.c (.bool (G cs))]) H')→Qo prog sp [.ag [.sl false 3 (Ql cs)]] H K)
  (hun:∀cs ds ds',P cs ds→P cs ds'→ds=ds') (hfits:∀cs ds,(∀c∈cs,c.fits)→P cs ds→∀c∈ds,c.fits)
  (hG:∀cs ds,P cs ds→G cs=true→Qas cs=true∧Qas ds=true∧Qj5 ds=Qj5 cs∧∀l,Qazy cs ds l 800)
  (hgl:H 0=.gl 0 tryC) (hK:∀H',K (.c (.bool true)) H'):Qo prog f [.c (.sl false 1 (Qbf bs))] H K:=by
 refine Qd Qai hm ?_;have hne:H 0≠.none:=by rw[hgl];nofun
 have retT':∀(e:Env) (H':Heap),lk 2 e=.c (.bool true)→Qz Qbol K .ret e H':=by
  intro e H' h2;simp only[go_sem,Qz,Q8,Qbol,Jb,forall_eq,RS.op,h2];exact hK H'
 refine Qa ?_;simp only[go_sem];refine Q5 ?_;refine Qa ?_;simp only[go_sem,Qat];intro _;refine Qh (Qe rfl (fun hc=>?_) (fun hc=>?_))
 ·refine Qa ?_;simp only[go_sem];refine Qk ?_;exact retT' _ _ rfl
 refine Qi ?_;try simp only[go_sem]
 refine Qa ?_;simp only[go_sem];refine hdr bs _ _ fun cs H1 hu hok=>?_;have hfit:=hok.fits;have kn:=(Kn.start0 H).call0 hu;simp only[go_sem,Qa7t];intro x3 hx3 H2 h2;have kn:=kn.al hx3 h2;have hx3:=kn.l 0 rfl;simp only[go_sem,Qa7s,hx3];intro H3 h3;have kn:Kn H H3 [] [(x3,.st [.sl false 3 (Ql cs)])]:=kn.stL 0 rfl h3;have hx3:=kn.l 0 rfl;refine Qa ?_;simp only[go_sem,hx3];refine him cs _ _ hfit fun ds H4 hds hu=>?_;have hfd:=hfits cs ds hfit hds;have kn:=kn.call0 hu;simp only[go_sem,Qa7w,J3,J2];intro x4 hx4 H5 h5;have kn:=kn.al hx4 h5;have hx4:=kn.l 1 rfl;simp only[go_sem,Qa7v,hx4];intro H6 h6;have kn:Kn H H6 [] [(x3,.st [.sl false 3 (Ql cs)]),(x4,.st [.sl false 3 (Ql ds)])]:=kn.stL 1 rfl h6;have hx3:=kn.l 0 rfl;simp only[go_sem,Qa7u];refine Qa ?_;simp only[go_sem,hx3];refine hsp cs _ _ hfit fun ds' H7 hds' hu=>?_;obtain rfl:=hun cs ds ds' hds hds';have kn:=kn.call0 hu;simp only[go_sem,Qa7z,J3,J2];intro x6 hx6 H8 h8;have kn:=kn.al hx6 h8;have hx6:=kn.l 2 rfl;simp only[go_sem,Qa7y,hx6];intro H9 h9;have kn:Kn H H9 [] [(x3,.st [.sl false 3 (Ql cs)]),(x4,.st [.sl false 3 (Ql ds)]),(x6,.st [.sl false 3 (Ql ds)])]:=kn.stL 2 rfl h9;have hx4:=kn.l 1 rfl;have hx6:=kn.l 2 rfl;simp only[go_sem,Qa7x];refine Q5 ?_
 cases hg:G cs with
 |false=>
  refine Qa ?_;simp only[go_sem,hx4,hx6,decide_true];refine Qns fun H10 hu=>?_;have kn:=kn.call0 hu;have hx4:=kn.l 1 rfl;have hx6:=kn.l 2 rfl;simp only[go_sem,Qash];refine Qh (Qe rfl ?_ ?_)
  ·intro _;refine Qa ?_;simp only[go_sem,hx4,hx6,decide_true];refine Qns fun H11 hu=>?_;simp only[go_sem,Qayt];refine Qk ?_;exact retT' _ _ rfl
  ·intro h;simp at h
 |true=>
  obtain⟨hg1,hg2,hmp,hsame⟩:=hG cs ds hds hg;refine Qa ?_;simp only[go_sem,hx4,hx6,decide_true];refine Qns fun H10 hu=>?_;have kn:=kn.call0 hu;simp only[go_sem,Qash];refine Qh (Qe rfl ?_ ?_)
  ·intro h;simp at h
  intro _;refine Qi ?_;try simp only[go_sem]
  have kn:Kn H H10 [] [(x3,.st [.sl false 3 (Ql cs)]),(x4,.st [.sl false 3 (Ql ds)])]:=Kn.drop (A:=[_,_]) (B:=[_]) kn;have hx3:=kn.l 0 rfl;refine Q5 ?_;refine Qa ?_;simp only[go_sem,hx3];refine Qasy (by rw[kn.chg 0 hne (by simp)];exact hgl) hfit hg1 fun H11 hu=>?_;have kn:=kn.call0 hu;obtain⟨p0,p3,_⟩:=(runW hg1).par (cs.length-1) (by have:=(runW hg1).ro.n;omega);obtain⟨n,hn⟩:∃n:Nat,Qj5 cs=n:=⟨(Qj5 cs).toNat,by rw[Qj5];omega⟩;have hn3:n≤3:=by rw[Qj5]at hn;omega
  rw[hn,Jav];simp only[go_sem,Qayu,Qbhg];try intro _
  refine Qh (Qf (Qw (fun mm e1 H1=>∃(i:Nat),mm=3-i∧i≤3∧Kn H H1 [] [(x3,.st [.sl false 3 (Ql cs)]),(x4,.st [.sl false 3 (Ql ds)])]∧
   lk 3 e1=.c (.ptr x3 0)∧lk 4 e1=.c (.ptr x4 0)∧lk 47 e1=.c (.sl false 1 (triL n))∧lk 48 e1=.c (.int .i64 3)∧lk 49 e1=.c (.int .i64 i)) 3 ?_ ?_))
  ·exact⟨0,by omega,by omega,kn,rfl,rfl,rfl,rfl,rfl⟩
  ·clear kn hx3 hx4 hx6;rintro mm e1 H12 ⟨i,hmm,hi,kn,l3,l4,l47,l48,l49⟩;have hx3:=kn.l 0 rfl;have hx4:=kn.l 1 rfl;refine Qa ?_;simp only[go_sem,l3,l4,l47,l48,l49];refine Qh (Qe rfl ?_ ?_)
   ·intro hc1;have hlt:i<3:=(by have:(i:Int)<3:=of_decide_eq_true hc1;omega);refine Qi ?_;try simp only[go_sem]
    refine Qh (Qf ?_);refine Qa ?_;simp only[go_sem,l3,l4,l47,l48,l49,hlt,Qbhg,Qbo4 n hlt];refine Qa ?_;simp only[go_sem,hx3,hx4];refine Qa8g (S:=800) hfit hfd hg1 hg2 (by rw[Qa77 hlt hn3,hn]) (by rw[Qa77 hlt hn3,hmp,hn]) (Qbo5 hlt) (by omega) (hsame _) fun H13 hu=>?_;have kn:=kn.call0 hu;simp only[go_sem,Qayv];refine Qe (c:=false) rfl (fun h=>by cases h) fun _=>?_;refine Qi ?_;try simp only[go_sem]
    refine Qt ?_;simp only[go_sem];refine⟨Qr (by omega) (by omega),?_⟩;show ∃m,_;exact⟨3-(i+1),by omega,i+1,rfl,by omega,kn,rfl,rfl,rfl,rfl,rfl⟩
   ·intro hc1;refine Qv ?_;simp only[go_sem,X.next];refine Qa ?_;simp only[go_sem,l3,l4,hx4];refine Qg4 hfd fun H13 hu=>?_;rw[hg2];simp only[go_sem,Qayw];refine Qk ?_;exact retT' _ _ rfl
end Go.AE.Y
namespace Go.AE.Y
attribute [local go_sem] cond_true cond_false Bool.not_true Bool.not_false
open Go.Proofs.Tryz
variable {H H0:Heap}{K:V→Heap→Prop}{E B Lg:List (Nat×Obj)}
theorem OBlk.row_eq (o:OBlk):o.row=[o.pc,o.ic,.int .i64 o.jump,.int .i64 o.on,.vsl o.nx.y 1 0 o.nx.ns.length]:=rfl
def OBlk.rest (o:OBlk):List (Nat×Obj):=o.phis.flatMap OPhi.lg++(o.pl++(o.ins.flatMap OIns.lg++o.il))
theorem OBlk.lg_eq (o:OBlk):o.lg=[(o.nx.y,.vec 1 (Qb o.nx.ns))]++o.rest:=rfl
theorem KBlk.row_eq (b:KBlk):b.row=[b.pc,.sl false 4 (Qaw b.y.ins),.int .i64 b.y.jump,.int .i64 b.y.on,.sl false 1 (Qb b.y.next)]:=rfl
structure PkS (q:CodeD)(P:List Int)(l:List Nat)(i:Nat)(ks:List KBlk):Prop where
 n:ks.length=l.length
 b:∀j (h:j<ks.length),PkB q P (l.getD j 0) ks[j].y
 ok:∀b∈ks,b.ok
 a:∀j (h:j<ks.length),j<i→∀p∈ks[j].y.phis,PkA q P l j p
 u:∀j (h:j<ks.length),i≤j→ks[j].y.phis=(Q4 q (l.getD j 0)).phis
theorem Qct {α β:Type}{f:α→List β}:∀{l:List α} {i:Nat} (h:i<l.length),(l.flatMap f).Perm (f l[i]++(l.eraseIdx i).flatMap f)
 |[],i,h=>by simp at h
 |x::l,0,h=>by simp
 |x::l,i+1,h=>by
  have:=Qct (f:=f) (l:=l) (i:=i) (by simpa using h);simp only[Jao,List.getElem_cons_succ,List.eraseIdx_cons_succ];refine (List.Perm.append_left _ this).trans ?_;rw[←Jaw,←Jaw];exact List.Perm.append_right _ Jm
theorem vslc {H:Heap}{z sz n:Nat}{rows:List (List C)}(h:H z=.vec sz rows)(hn:n=rows.length):Slc H sz rows (.vsl z sz 0 n):=by
 subst hn;exact⟨by simp only[okSl,h,Jh,Jn,and_self],rfl,by simp only[rowsOf,h,List.drop_zero,Jaj],rfl⟩
variable {q:CodeD}{P:List Int}{l:List Nat}{ks:List KBlk}
theorem PkS.step {i:Nat}(hS:PkS q P l i ks)(hi:i<ks.length){ph:List PhiD}{pl:List (Nat×Obj)}(h1:ph.map PhiD.to=(Q4 q (l.getD i 0)).phis.map PhiD.to)(h2:∀p∈ph,PkA q P l i p)(hg:Gr pl 2 (Q2 ph) ks[i].pc) :
  PkS q P l (i+1) (ks.set i ⟨⟨ph,ks[i].y.ins,ks[i].y.jump,ks[i].y.on,ks[i].y.next⟩,ks[i].pc,pl⟩):=by
 have hb:=hS.b i hi;refine⟨by rw[Ji];exact hS.n,fun j h=>?_,fun w hw=>?_,fun j h hj=>?_,fun j h hj=>?_⟩
 ·have h':j<ks.length:=by simpa using h
  rw[J5];split
  ·rename_i e;subst e;exact⟨hb.j,hb.o,hb.i,hb.n,h1⟩
  ·exact hS.b j h'
 ·rcases J4 hw with h|rfl
  ·exact hS.ok w h
  ·exact hg
 ·have h':j<ks.length:=by simpa using h
  rw[J5];split
  ·rename_i e;subst e;exact h2
  ·exact hS.a j h' (by omega)
 ·have h':j<ks.length:=by simpa using h
  rw[J5];split
  ·omega
  ·exact hS.u j h' (by omega)
theorem PkS.rows {i:Nat}{ph:List PhiD}{pl:List (Nat×Obj)}(hi:i<ks.length):(ks.set i ⟨⟨ph,ks[i].y.ins,ks[i].y.jump,ks[i].y.on,ks[i].y.next⟩,ks[i].pc,pl⟩).map KBlk.row=ks.map KBlk.row:=by
 rw[Ja4];have:(KBlk.mk ⟨ph,ks[i].y.ins,ks[i].y.jump,ks[i].y.on,ks[i].y.next⟩ ks[i].pc pl).row=(ks.map KBlk.row)[i]'(by simpa using hi):=by simp[KBlk.row,kRow]
 rw[this,List.set_getElem_self]
end Go.AE.Y
namespace Go.AE.Y
attribute [local go_sem] cond_true cond_false Bool.not_true Bool.not_false
open Go.Proofs.Tryz
variable {H H0:Heap}{K:V→Heap→Prop}{E B Lg:List (Nat×Obj)}{q:CodeD}
theorem CodeD.ok.gd (h:q.ok):q.gd:=⟨h.b0,h.b1,fun y hy=>by
 obtain⟨b,hb,rfl⟩:=Jag.1 hy;exact (h.bs b hb).nxl,h.fts⟩
theorem CodeD.ok.fitB (h:q.ok):Qev q.blocks.length (gnx q)=true:=by
 have h1:(List.range q.blocks.length).all (fun i=>(gnx q i).all fun x=>decide (0≤x∧x≤(q.blocks.length:Int)-1))=true:=by
  simp only[Jab,Jw,decide_eq_true_eq];intro b hb x hx;rw[Qxh hb]at hx;have:=(h.bs b hb).nx x hx;omega
 have h2:decide (0<q.blocks.length)=true:=decide_eq_true h.b0;simp only[Qev,h1,Bool.true_and]
 first|exact h2|simpa using h.b0
theorem CodeD.ok.rchPk (h:q.ok):Pk q (rchL q.blocks.length (nxN (gnx q))):=by
 have hb0:=h.b0;have hb1:=h.b1;refine⟨?_,?_,fun x hx=>?_,fun x hx v hv=>?_⟩
 ·have:=List.length_filter_le (Q7u (nxN (gnx q)) (-1)) (List.range q.blocks.length);rw[Jbe]at this;rw[rchL];omega
 ·obtain⟨m,hm⟩:∃m,q.blocks.length=m+1:=⟨q.blocks.length-1,by omega⟩;have h0:Q7u (nxN (gnx q)) (-1) 0=true:=rchB_iff.2 (.refl (by omega));rw[rchL,hm,List.range_succ_eq_map,List.filter_cons,h0];rfl
 ·rw[rchL,Jae,Jw]at hx;exact hx.1
 ·rw[rchL,Jae,Jw]at hx⊢;have hvx:=hv;rw[Qxh hx.1]at hvx;have:=(h.bs x hx.1).nx v hvx;refine⟨by omega,rchB_iff.2 (.step (rchB_iff.1 hx.2) (Jo.2 ⟨v,hv,rfl⟩) (by omega))⟩
def zRow (v:Int):List C:=[.int .i64 1,.int .i64 v,.sl true 1 [],.int .i64 0]
def zIns (v:Int):InsD:=⟨1,v,[],0⟩
end Go.AE.Y
namespace Go.AE.Y
def mix {α:Type}(f:α→α)(is:List α)(k:Nat):List α:=(is.take k).map f++is.drop k
theorem Qj6 {α:Type}(f:α→α)(is:List α)(k:Nat):(mix f is k).length=is.length:=by
 simp only[mix,J7,Jc,Js,Jbh];omega
theorem Qbep {α:Type}{f:α→α}{is:List α}{i:Nat}(h:i<is.length)(h2:i<(mix f is i).length):(mix f is i)[i]=is[i]:=by
 have hl:((is.take i).map f).length=i:=by rw[Jc,Js];omega
 simp only[mix];rw[List.getElem_append_right (by omega)];simp only[hl,Jap,List.getElem_drop,Nat.add_zero]
theorem Qa03 {α:Type}{f:α→α}{is:List α}{i:Nat}(h:i<is.length):(mix f is i).set i (f is[i])=mix f is (i+1):=by
 have hl:((is.take i).map f).length=i:=by rw[Jc,Js];omega
 rw[mix,mix,Ja5 _ _ (by omega),hl,Jap,J8 h,Jba,Jf h,Jv,Jaw];rfl
theorem Qapr {α:Type}(f:α→α)(is:List α):mix f is 0=is:=by simp[mix]
theorem Qa02 {α:Type}(f:α→α)(is:List α){i:Nat}(h:is.length≤i):mix f is i=is.map f:=by
 rw[mix,Jd h,List.drop_of_length_le h,Jar]
def twoB (ns:List Int):Bool:=ns.any fun v=>v != ns.headD 0
def shV (nx:Nat→List Int)(n b:Nat)(v:Int):Bool:=twoB (nx b)&&decide (1<(Q0 nx v n).length)
def shL (nx:Nat→List Int)(n b:Nat):List Int:=(nx b).filter (shV nx n b)
def newL (nx:Nat→List Int)(n m:Nat):List (Nat×Int):=(List.range m).flatMap fun b=>(shL nx n b).map fun v=>(b,v)
def offN (nx:Nat→List Int)(n b:Nat):Nat:=n+(newL nx n b).length
def spV (nx:Nat→List Int)(n b:Nat)(v:Int):Int:=if shV nx n b v=true then ((offN nx n b+(shL nx n b).idxOf v:Nat):Int)else v
def spX (nx:Nat→List Int)(n b:Nat):List Int:=if b<n then (nx b).map (spV nx n b)else match (newL nx n n)[b-n]? with
 |some e=>[e.2]
 |none=>[]
def org (nx:Nat→List Int)(n j:Nat):Nat:=if j<n then j else match (newL nx n n)[j-n]? with
 |some e=>e.1
 |none=>0
structure SpF (nx:Nat→List Int)(n:Nat):Prop where
 len:∀b,b<n→(nx b).length≤2
 rng:∀b,b<n→∀v∈nx b,1≤v∧v<n
theorem Qbhm {ns:List Int}(h:ns.length≤2):(twoB ns=true→∃a c,ns=[a,c]∧a≠c)∧(twoB ns=false→ns=[]∨∃a,ns=[a]∨ns=[a,a]):=by
 match ns with
 |[]=>simp[twoB]
 |[a]=>simp[twoB]
 |[a,c]=>
  simp only[twoB,List.any_cons,List.any_nil,List.headD_cons];by_cases h:c=a
  ·subst h;simp
  ·refine⟨fun _=>⟨a,c,rfl,fun e=>h e.symm⟩,fun hh=>?_⟩;simp[h]at hh
 |_::_::_::_=>simp only[Jr]at h;omega
variable {nx:Nat→List Int}{n:Nat}
theorem SpF.nd (F:SpF nx n){b:Nat}(hb:b<n):(shL nx n b).Nodup:=by
 cases ht:twoB (nx b)with
 |true=>
  obtain⟨a,c,e,hne⟩:=(Qbhm (F.len b hb)).1 ht;refine Ja9 Ja7 ?_;rw[e];simp[hne]
 |false=>
  have:shL nx n b=[]:=by
   rw[shL,List.filter_eq_nil_iff];intro v _;simp[shV,ht]
  rw[this];exact List.nodup_nil
theorem mem_newL {m b:Nat}{v:Int}:(b,v)∈newL nx n m↔b<m∧v∈nx b∧shV nx n b v=true:=by
 simp only[newL,Jai,Jw,Jo,shL,Jae,Jbb];constructor
 ·rintro⟨b',h1,v',⟨h2,h3⟩,rfl,rfl⟩;exact⟨h1,h2,h3⟩
 ·rintro⟨h1,h2,h3⟩;exact⟨b,h1,v,⟨h2,h3⟩,rfl,rfl⟩
theorem Qbn7 {l:List Int}(hl:l.Nodup){aa:List Int}(h:aa.length=l.length):l.map (fun w=>aa.getD (l.idxOf w) 0)=aa:=by
 refine Jah (by rw[Jc,h]) fun i h1 h2=>?_;have hi:i<l.length:=by rw[Jc]at h1;exact h1
 rw[J1];have:l.idxOf l[i]=i:=List.Nodup.idxOf_getElem hl i hi;rw[this,Ja,Jg h2];rfl
theorem Qaab (nx:Nat→List Int)(b:Int)(n:Nat):(Q0 nx b n).Nodup:=by
 rw[Q0,List.nodup_iff_pairwise_ne,Jax];exact List.Pairwise.imp (fun hne he=>hne (Int.ofNat.inj he)) (Ja9 Ja7 Jaz)
theorem preds_mem {nx:Nat→List Int}{b w:Int}{n:Nat}:w∈Q0 nx b n↔∃j:Nat,j<n∧b∈nx j∧w=j:=by
 simp only[Q0,Jo,Jae,Jw,J6];constructor
 ·rintro⟨j,⟨h1,h2⟩,rfl⟩;exact⟨j,h1,h2,rfl⟩
 ·rintro⟨j,h1,h2,rfl⟩;exact⟨j,⟨h1,h2⟩,rfl⟩
def spA (q:CodeD)(b:Nat)(aa:List Int):List Int:=(Q0 (spX (gnx q) q.blocks.length) (b:Int) (offN (gnx q) q.blocks.length q.blocks.length)).map fun w=>aa.getD ((Q0 (gnx q) (b:Int) q.blocks.length).idxOf ((org (gnx q) q.blocks.length w.toNat:Nat):Int)) 0
def spP (q:CodeD)(b:Nat)(p:PhiD):PhiD:=⟨p.to,spA q b p.args⟩
def spB (q:CodeD)(b:Nat):BlkD:=⟨(Q4 q b).phis.map (spP q b),(Q4 q b).ins,(Q4 q b).jump,(Q4 q b).on,spX (gnx q) q.blocks.length b⟩
def goB (v:Int):BlkD:=⟨[],[],1,0,[v]⟩
def spD (q:CodeD):CodeD:=⟨q.params,q.regs,(List.range q.blocks.length).map (spB q)++(newL (gnx q) q.blocks.length q.blocks.length).map fun e=>goB e.2⟩
def palB (q:CodeD):Prop:=∀b (h:b<q.blocks.length),∀p∈(q.blocks[b]'h).phis,p.args.length=(Q0 (gnx q) (b:Int) q.blocks.length).length
theorem Qbdh {q:CodeD}{b:Nat}(h:q.blocks.length≤b):gnx q b=[]:=by
 rw[gnx,Ja,Jj (by simpa using h)];rfl
def hasS (q:CodeD):Bool:=(List.range q.blocks.length).any fun b=>(gnx q b).any (shV (gnx q) q.blocks.length b)
variable {q:CodeD}
theorem CodeD.ok.palB (h:q.ok):palB q:=fun b hb p hp=>(h.bs b hb).pal p hp
end Go.AE.Y
namespace Go.AE.Y
attribute [local go_sem] cond_true cond_false Bool.not_true Bool.not_false
attribute [local instance] Classical.propDecidable
open Go.Proofs.Tryz
variable {H H0:Heap}{K:V→Heap→Prop}
def nwA (q:CodeD)(P:List Int)(l:List Nat)(i:Nat)(args:List Int):List Int:=
 (Q0 (pkN q P l) (i:Int) l.length).map fun w=>args.getD ((Q0 (gnx q) ((l.getD i 0:Nat):Int) q.blocks.length).idxOf ((l.getD w.toNat 0:Nat):Int)) 0
def nwP (q:CodeD)(P:List Int)(l:List Nat)(i:Nat)(p:PhiD):PhiD:=⟨p.to,nwA q P l i p.args⟩
structure PkZ (q:CodeD)(P:List Int)(l:List Nat)(i:Nat)(ks:List KBlk):Prop where
 n:ks.length=l.length
 b:∀j (h:j<ks.length),PkB q P (l.getD j 0) ks[j].y
 ok:∀b∈ks,b.ok
 a:∀j (h:j<ks.length),j<i→ks[j].y.phis=(Q4 q (l.getD j 0)).phis.map (nwP q P l j)
 u:∀j (h:j<ks.length),i≤j→ks[j].y.phis=(Q4 q (l.getD j 0)).phis
variable {q:CodeD}{P:List Int}{l:List Nat}{ks:List KBlk}
theorem PkZ.step {i:Nat}(hS:PkZ q P l i ks)(hi:i<ks.length){ph:List PhiD}{pl:List (Nat×Obj)}(h1:ph.map PhiD.to=(Q4 q (l.getD i 0)).phis.map PhiD.to)(h2:ph=(Q4 q (l.getD i 0)).phis.map (nwP q P l i))(hg:Gr pl 2 (Q2 ph) ks[i].pc) :
  PkZ q P l (i+1) (ks.set i ⟨⟨ph,ks[i].y.ins,ks[i].y.jump,ks[i].y.on,ks[i].y.next⟩,ks[i].pc,pl⟩):=by
 have hb:=hS.b i hi;refine⟨by rw[Ji];exact hS.n,fun j h=>?_,fun w hw=>?_,fun j h hj=>?_,fun j h hj=>?_⟩
 ·have h':j<ks.length:=by simpa using h
  rw[J5];split
  ·rename_i e;subst e;exact⟨hb.j,hb.o,hb.i,hb.n,h1⟩
  ·exact hS.b j h'
 ·rcases J4 hw with h|rfl
  ·exact hS.ok w h
  ·exact hg
 ·have h':j<ks.length:=by simpa using h
  rw[J5];split
  ·rename_i e;subst e;exact h2
  ·exact hS.a j h' (by omega)
 ·have h':j<ks.length:=by simpa using h
  rw[J5];split
  ·omega
  ·exact hS.u j h' (by omega)
def pkX (q:CodeD)(P:List Int)(l:List Nat)(i:Nat):BlkD:=⟨(Q4 q (l.getD i 0)).phis.map (nwP q P l i),(Q4 q (l.getD i 0)).ins,(Q4 q (l.getD i 0)).jump,(Q4 q (l.getD i 0)).on,(pkY q P (l.getD i 0)).next⟩
def pkD (q:CodeD)(P:List Int)(l:List Nat):CodeD:=⟨q.params,q.regs,(List.range l.length).map (pkX q P l)⟩
theorem Qbes (ho:q.ok)(hp:Pk q l)(hP:Q24 q.blocks.length l P){j:Nat}(hj:j<l.length){p:PhiD}(h:p∈(Q4 q (l.getD j 0)).phis.map (nwP q P l j)):PkA q P l j p:=by
 obtain⟨p0,h0,rfl⟩:=Jo.1 h;obtain⟨g0,g1,g2⟩:=hp.get hj;have hyo:=ho.bs _ g2;rw[g0,Qap g2]at h0;refine⟨by rw[nwP,nwA,Jc],fun v hv=>?_⟩;obtain⟨w,hw,rfl⟩:=Jo.1 hv;obtain⟨j',hj',rfl,hmo⟩:=hp.preds ho hP hj hw;have e:l.getD ((j':Int)).toNat 0=l[j']:=by rw[Jav];exact (hp.get hj').1
 rw[e,g0];have hal:=hyo.pal p0 h0;have hix:(Q0 (gnx q) ((l[j]:Nat):Int) q.blocks.length).idxOf ((l[j']:Nat):Int)<p0.args.length:=by
  rw[hal];exact Jt hmo
 exact hyo.pargs p0 h0 _ (Qbde hix)
set_option maxHeartbeats 8000000 in
theorem Qa9y {H0 H:Heap}{E:List (Nat×Obj)}{Q:X→Env→Heap→Prop}{e:Env}{fl fl2:Bool}{x4 x6 zb:Nat}{ks0:List KBlk}(ho:q.ok)(hp:Pk q l)(hP:Q24 q.blocks.length l P)(hS:PkZ q P l 0 ks0)
  (kn:Kn H0 H E ([(x4,.st [.int .i64 0,.int .i64 0,.sl true 5 []]),(x6,.st [.int .i64 q.params,.int .i64 q.regs,.vsl zb 5 0 l.length]),(zb,.vec 5 (ks0.map KBlk.row))]++ks0.flatMap KBlk.pl))
  (l1:lk 1 e=.c (.sl fl2 1 (Qag l))) (l2:lk 2 e=.c (.pp [.int .i64 q.params,.int .i64 q.regs,.sl fl 5 (Qs q.blocks)])) (l4:lk 4 e=.c (.ptr x4 0)) (l6:lk 6 e=.c (.ptr x6 0))
  (hQ:∀(e:Env) (H':Heap) (ks:List KBlk),PkZ q P l l.length ks→Kn H0 H' E ([(x4,.st [.int .i64 q.params,.int .i64 q.regs,.vsl zb 5 0 l.length]),(x6,.st [.int .i64 q.params,.int .i64 q.regs,.vsl zb 5 0 l.length]),(zb,.vec 5 (ks.map KBlk.row))]++ks.flatMap KBlk.pl)→
   lk 4 e=.c (.ptr x4 0)→Q .ret e H'):Qae prog Q50 Q e H:=by
 have hb1:=ho.b1;have hln:=hp.n;obtain⟨X4,hX4⟩:∃o,o=Obj.st [.int .i64 0,.int .i64 0,.sl true 5 []]:=⟨_,rfl⟩;obtain⟨X6,hX6⟩:∃o,o=Obj.st [.int .i64 q.params,.int .i64 q.regs,.vsl zb 5 0 l.length]:=⟨_,rfl⟩;rw[←hX4,←hX6]at kn;refine Q5 ?_;refine Qa ?_;simp only[go_sem,l1,l2,l4,l6];refine Qh (Qf (Qw (fun m e1 H1=>∃(i:Nat) (ks:List KBlk),m=l.length-i∧i≤l.length∧PkZ q P l i ks∧
  Kn H0 H1 E ([(x4,X4),(x6,X6),(zb,.vec 5 (ks.map KBlk.row))]++ks.flatMap KBlk.pl)∧
  lk 1 e1=.c (.sl fl2 1 (Qag l))∧lk 2 e1=.c (.pp [.int .i64 q.params,.int .i64 q.regs,.sl fl 5 (Qs q.blocks)])∧lk 4 e1=.c (.ptr x4 0)∧lk 6 e1=.c (.ptr x6 0)∧lk 10 e1=.c (.int .i64 i)) l.length ?_ ?_))
 ·exact⟨0,ks0,by omega,by omega,hS,kn,rfl,rfl,rfl,rfl,rfl⟩
 ·clear kn hS l1 l2 l4 l6;rintro m e1 H1 ⟨i,ks,hm,hi,hS,kn,l1,l2,l4,l6,l10⟩;have hkl:=hS.n;refine Q5 ?_;refine Qa ?_;simp only[go_sem,l1,l2,l4,l6,l10,Qan];try intro _
  refine Qh (Qe rfl ?_ ?_)
  ·intro hc;have hlt:i<l.length:=by simpa using hc
   have hki:i<ks.length:=by omega
   obtain⟨b,hb⟩:∃b,l[i]=b:=⟨_,rfl⟩;have hbm:b∈l:=by rw[←hb];exact Je hlt
   have hbn:=hp.lt b hbm;have hgd:l.getD i 0=b:=by simp[Ja,hlt,hb]
   obtain⟨kb,hkb⟩:∃kb,ks[i]=kb:=⟨_,rfl⟩;have hkbo:Gr kb.pl 2 (Q2 kb.y.phis) kb.pc:=by rw[←hkb];exact hS.ok _ (Je hki)
   have hkbB:PkB q P b kb.y:=by have:=hS.b i hki;rw[hgd,hkb]at this;exact this
   have hkbU:kb.y.phis=(Q4 q b).phis:=by have:=hS.u i hki (Jn _);rw[hgd,hkb]at this;exact this
   have hyo:=ho.bs b hbn;have hil:=ho.il b hbn;rw[←Qap hbn]at hyo hil;obtain⟨R,hR⟩:∃R,(ks.eraseIdx i).flatMap KBlk.pl=R:=⟨_,rfl⟩;have hflat:(ks.flatMap KBlk.pl).Perm (kb.pl++R):=by rw[←hR,←hkb];exact Qct hki
   obtain⟨RW,hRW⟩:∃RW,ks.map KBlk.row=RW:=⟨_,rfl⟩;have hRWl:RW.length=l.length:=by rw[←hRW,Jc,hkl]
   have hRWg:RW.getD i []=[kb.pc,.sl false 4 (Qaw kb.y.ins),.int .i64 kb.y.jump,.int .i64 kb.y.on,.sl false 1 (Qb kb.y.next)]:=by
    rw[←hRW,Ja];simp only[Jy,Jg hki,hkb,Jaa,Jak];exact kb.row_eq
   have hRWt:RW.take l.length=RW:=Jd (by omega);rw[hRW]at kn;have hx6:H1 x6=X6:=(kn.get (x6,X6) (by simp)).1;rw[hX6]at hx6;refine Qi ?_;try simp only[go_sem]
   refine Qh (Qf ?_);refine Qad ?_;simp only[go_sem,l1,l2,l4,l6,l10,hlt,Qan,Qb4 _ _ hlt,hgd];refine Q0u (nx:=gnx q) (.mk' _ _ _ _) rfl (Qmu H1 q fl).x fun H2 hu=>?_;have kn:=kn.call0 hu;simp only[go_sem,Q2a,Qp];obtain⟨olds,hol⟩:∃o,Q0 (gnx q) (b:Int) q.blocks.length=o:=⟨_,rfl⟩;rw[hol];have hx6:H2 x6=X6:=(kn.get (x6,X6) (by simp)).1;rw[hX6]at hx6;have hzb:H2 zb=.vec 5 RW:=(kn.get (zb,.vec 5 RW) (by simp)).1;refine Qa ?_;simp only[go_sem,l1,l2,l4,l6,l10,hx6];refine Q0u (nx:=pkN q P l) (vslc hzb hRWl.symm) rfl (fun j hj=>?_) fun H3 hu=>?_
   ·have hj':j<ks.length:=(by omega);have hj2:j<l.length:=(by omega);have hjB:=hS.b j hj';rw[(hp.get hj2).1]at hjB;refine⟨ks[j].pc,.sl false 4 (Qaw ks[j].y.ins),.int .i64 ks[j].y.jump,.int .i64 ks[j].y.on,false,?_⟩;rw[←hRW,Ja];simp only[Jy,Jg hj',Jaa,Jak];rw[Qxk hj2,←hjB.n];exact KBlk.row_eq _
   have kn:=kn.call0 hu;rw[hRWl];obtain⟨news,hnw⟩:∃o,Q0 (pkN q P l) (i:Int) l.length=o:=⟨_,rfl⟩;rw[hnw];have hnl:news.length≤l.length:=by rw[←hnw];exact Qb5 _ _ _
   simp only[go_sem,Q2b];refine Qa ?_;simp only[go_sem];have kn:Kn H0 H3 E (([(x4,X4),(x6,X6),(zb,.vec 5 RW)]++R)++kb.pl):=kn.perm (Qj fun f hf h0 hc hp=>by
    have:=hp _ _ hflat;simp only[hf]at this⊢;omega)
   refine Qf (Qw (fun m e1 H1=>∃(k:Nat) (ph:List PhiD) (pl:List (Nat×Obj)),m=ph.length-k∧k≤ph.length∧ph=mix (nwP q P l i) (Q4 q b).phis k∧Gr pl 2 (Q2 ph) kb.pc∧
    Kn H0 H1 E (([(x4,X4),(x6,X6),(zb,.vec 5 RW)]++R)++pl)∧
    lk 1 e1=.c (.sl fl2 1 (Qag l))∧lk 2 e1=.c (.pp [.int .i64 q.params,.int .i64 q.regs,.sl fl 5 (Qs q.blocks)])∧lk 4 e1=.c (.ptr x4 0)∧lk 6 e1=.c (.ptr x6 0)∧lk 10 e1=.c (.int .i64 i)∧lk 11 e1=.c (.sl false 1 (Qb olds))∧lk 12 e1=.c (.sl false 1 (Qb news))∧lk 13 e1=.c (.int .i64 k)) kb.y.phis.length ?_ ?_)
   ·exact⟨0,kb.y.phis,kb.pl,by omega,by omega,by rw[hkbU,Qapr],hkbo,kn,rfl,rfl,rfl,rfl,rfl,rfl,rfl,rfl⟩
   ·clear kn hx6 hzb hflat hu l1 l2 l4 l6 l10;rintro m2 e2 H4 ⟨k,ph,pl,hm2,hk,hphe,hgr,kn,l1,l2,l4,l6,l10,l11,l12,l13⟩;have hphl:ph.length=(Q4 q b).phis.length:=(by rw[hphe,Qj6]);have hx6:H4 x6=X6:=(kn.get (x6,X6) (by simp)).1;rw[hX6]at hx6;have hzb:H4 zb=.vec 5 RW:=(kn.get (zb,.vec 5 RW) (by simp)).1;have hpw:=hgr.isOw;have hpok:=eq_true (hgr.get kn).1;have hplen:=hgr.lenC;rw[Qy]at hplen;refine Q5 ?_;refine Qa ?_;simp only[go_sem,l1,l2,l4,l6,l10,l11,l12,l13,hx6,hzb,hRWl,hRWt,hRWg,hlt,hpw,hpok,hplen,Jh,Jn];try intro _
    refine Qh (Qe rfl ?_ ?_)
    ·intro hc2;have hlt2:k<ph.length:=(by simpa using hc2);obtain⟨z,hpc,hpl⟩:∃z,kb.pc=.vsl z 2 0 ph.length∧pl=[(z,.vec 2 (Q2 ph))]:=by
      rcases hgr with ⟨_,h,_⟩|⟨y,h1,h2⟩
      ·have:=congrArg List.length h;rw[Qy]at this;simp only[Jp]at this;omega
      ·exact⟨y,by rw[h1,Qy],h2⟩
     rw[hpc]at hRWg;rw[hpl]at kn;clear hpw hpok hplen;obtain⟨p,hpk⟩:∃p,ph[k]=p:=⟨_,rfl⟩;have hk0:k<(Q4 q b).phis.length:=(by omega);have hp0:(Q4 q b).phis[k]=p:=by
      rw[←hpk];subst hphe;exact (Qbep hk0 hlt2).symm
     have hpm:p∈(Q4 q b).phis:=(by rw[←hp0];exact Je hk0);obtain⟨NA,hNA⟩:∃NA,nwA q P l i p.args=NA:=⟨_,rfl⟩;have hNl:NA.length=news.length:=(by rw[←hNA,nwA,Jc,hnw]);have hpal:p.args.length=olds.length:=(by rw[←hol];exact hyo.pal p hpm);have hpargs:=hyo.pargs p hpm;have hptk:(Q2 ph).take ph.length=Q2 ph:=Jd (by rw[Qy];omega);have hpg:(Q2 ph).getD k []=[.int .i64 p.to,.sl false 1 (Qb p.args)]:=(by rw[Qa7 _ _ hlt2,hpk];rfl);refine Qi ?_;try simp only[go_sem]
     refine Qh (Qf ?_);refine Qa ?_;simp only[go_sem];refine Q5 ?_;refine Qa ?_;simp only[go_sem];refine Qh (Qf (Qw (fun m e1 H1=>∃(j:Nat) (av:List Int) (t:C) (Lg:List (Nat×Obj)),m=news.length-j∧j≤news.length∧av=NA.take j∧Gr Lg 1 (Qb av) t∧
      Kn H0 H1 E (([(x4,X4),(x6,X6),(zb,.vec 5 RW)]++R++[(z,.vec 2 (Q2 ph))])++Lg)∧
      lk 1 e1=.c (.sl fl2 1 (Qag l))∧lk 2 e1=.c (.pp [.int .i64 q.params,.int .i64 q.regs,.sl fl 5 (Qs q.blocks)])∧lk 4 e1=.c (.ptr x4 0)∧lk 6 e1=.c (.ptr x6 0)∧lk 10 e1=.c (.int .i64 i)∧lk 11 e1=.c (.sl false 1 (Qb olds))∧lk 12 e1=.c (.sl false 1 (Qb news))∧lk 13 e1=.c (.int .i64 k)∧
      lk 14 e1=.c t∧lk 15 e1=.c (.int .i64 j)) news.length ?_ ?_))
     ·exact⟨0,[],_,[],by omega,by omega,by simp,.nil 1,by simpa using kn,rfl,rfl,rfl,rfl,rfl,rfl,rfl,rfl,rfl,rfl⟩
     ·clear kn hx6 hzb l1 l2 l4 l6 l10 l11 l12 l13;rintro m3 e3 H5 ⟨j,av,t,Lg,hm3,hj,hav,hgt,kn,l1,l2,l4,l6,l10,l11,l12,l13,l14,l15⟩;have htw:=hgt.isOw;have hasl:av.length=j:=(by rw[hav,Js];omega);refine Q5 ?_;refine Qa ?_;simp only[go_sem,l1,l2,l4,l6,l10,l11,l12,l13,l14,l15,htw,Qc];try intro _
      refine Qh (Qe rfl ?_ ?_)
      ·intro hc3;have hlt3:j<news.length:=(by simpa using hc3);have hnm:news[j]∈Q0 (pkN q P l) (i:Int) l.length:=(by rw[hnw];exact Je hlt3);obtain⟨j',hj',hnj,hmo⟩:=hp.preds ho hP hlt hnm;rw[hb,hol]at hmo;have hgd3:news.getD j 0=(j':Int):=(by rw[←hnj];simp[Ja,hlt3]);have hgd4:l.getD j' 0=l[j']:=(by simp[Ja,hj']);have hx6:H5 x6=X6:=(kn.get (x6,X6) (by simp)).1;rw[hX6]at hx6;have hzb:H5 zb=.vec 5 RW:=(kn.get (zb,.vec 5 RW) (by simp)).1;have hz:H5 z=.vec 2 (Q2 ph):=(kn.get (z,.vec 2 (Q2 ph)) (by simp)).1;refine Qi ?_;try simp only[go_sem]
       refine Qh (Qf ?_);refine Qbg ?_;simp only[go_sem,hx6,hzb,hz,hRWl,hRWt,hRWg,hlt,hlt2,hptk,hpg,Qy,hlt3,Qc,Qm _ _ hlt3,hgd3,hj',Qan,Qb4 _ _ hj',hgd4,htw,Jh,Jn];refine Qbns (ns:=olds) (.mk' _ _ _ _) rfl fun r hr=>?_;obtain⟨a,ha⟩:∃a,olds.idxOf ((l[j']:Nat):Int)=a:=⟨_,rfl⟩;have ra:r=(a:Int):=(by rw[←ha];exact hr.idx hmo);have hal:a<olds.length:=(by rw[←ha];exact Jt hmo);have hNj:j<NA.length:=(by omega);have hNv:NA[j]=p.args.getD a 0:=by
        subst hNA;simp only[nwA,J1,hgd,hol];have e:(Q0 (pkN q P l) (i:Int) l.length)[j]'(by rw[hnw];exact hlt3)=(j':Int):=by
         subst hnw;exact hnj
        rw[e,Jav,hgd4,ha]
       have hal2:a<p.args.length:=(by omega);simp only[go_sem,Q2d,ra,hx6,hzb,hz,hRWl,hRWt,hRWg,hlt,hlt2,hptk,hpg,Qy,hal2,Qc,Qm _ _ hal2,htw,Jh,Jn];refine kn.growR (new:=Qb [p.args.getD a 0]) hgt (.mk' _ _ _ _) (Qn _) (by simp only[Qc,LIM,Jr,Jp];omega) fun t2 Lg2 H6 hgt2 ht2 kn=>?_;simp only[go_sem,Q2c,ht2];refine Qt ?_;simp only[go_sem,ht2];refine⟨Qr (by omega) (by omega),?_⟩;show ∃m,_;refine⟨news.length-(j+1),by omega,j+1,av++[p.args.getD a 0],t2,Lg2,rfl,by omega,by rw[hav,Jf hNj,hNv],by rw[Qbc];exact hgt2,kn,rfl,rfl,rfl,rfl,rfl,rfl,rfl,rfl,rfl,by simp[lk]⟩
      ·intro hc3;have hje:j=news.length:=(by have:news.length≤j:=(by simpa using hc3);omega);have hav:av=NA:=(by rw[hav,Jd (by omega)]);subst hav;have hset0:=Qa03 (f:=nwP q P l i) hk0;rw[hp0,nwP,hNA]at hset0;refine Qv ?_;simp only[go_sem,X.next];obtain⟨S,hSL,hSB,hfz,kn⟩:=kn.freeze0;have hft:FrzC H5 S t (.sl false 1 (Qb av)):=Gr.frzM hgt hSL (FrzR.same (Qn _));refine c_gh (Qdr S (Q3j ?_) hfz) (e':=[(1,.c (.sl fl2 1 (Qag l))),(2,.c (.pp [.int .i64 q.params,.int .i64 q.regs,.sl fl 5 (Qs q.blocks)])),(4,.c (.ptr x4 0)),(6,.c (.ptr x6 0)),(10,.c (.int .i64 i)),(11,.c (.sl false 1 (Qb olds))),(12,.c (.sl false 1 (Qb news))),(13,.c (.int .i64 k)),(14,.c (.sl false 1 (Qb av)))]) ?_
       ·simp only[Jaf,l1,l2,l4,l6,l10,l11,l12,l13,l14];exact⟨.c _ _ (.same _ rfl),.c _ _ (.same _ rfl),.c _ _ (.same _ rfl),.c _ _ (.same _ rfl),.c _ _ (.same _ rfl),.c _ _ (.same _ rfl),.c _ _ (.same _ rfl),.c _ _ (.same _ rfl),.c _ _ hft,by simp⟩
       generalize H5.frz S=H6 at *;have hx6:H6 x6=X6:=(kn.get (x6,X6) (by simp)).1;rw[hX6]at hx6;have hzb:H6 zb=.vec 5 RW:=(kn.get (zb,.vec 5 RW) (by simp)).1;have hz:H6 z=.vec 2 (Q2 ph):=(kn.get (z,.vec 2 (Q2 ph)) (by simp)).1;have hset:(Q2 ph).set k [.int .i64 p.to,.sl false 1 (Qb av)]=Q2 (ph.set k ⟨p.to,av⟩):=Qa9x ph k ⟨p.to,av⟩;refine Qt ?_;simp only[go_sem,hx6,hzb,hz,hRWl,hRWt,hRWg,hlt,hlt2,hptk,hpg,hset,Qy,Jh,Jn];intro H7 h7;have kn:Kn H0 H7 E (([(x4,X4),(x6,X6),(zb,.vec 5 RW)]++R)++[(z,.vec 2 (Q2 (ph.set k ⟨p.to,av⟩)))]):=by
        have:=kn.stL ([(x4,X4),(x6,X6),(zb,Obj.vec 5 RW)]++R).length (x:=z) (o:=.vec 2 (Q2 ph)) (by simp) h7;simpa using this
       refine Qt ?_;simp only[go_sem];refine⟨Qr (by omega) (by omega),?_⟩;show ∃m,_;refine⟨ph.length-(k+1),by omega,k+1,ph.set k ⟨p.to,av⟩,_,by rw[Ji],by rw[Ji];omega,by rw[hphe];exact hset0,?_,kn,rfl,rfl,rfl,rfl,rfl,rfl,rfl,by simp[lk]⟩;rw[hpc];exact .mk _ _ _ (by rw[Qy,Ji])
    ·intro hc2;have hge:ph.length≤k:=(by simpa using hc2);refine Qv ?_;simp only[go_sem,X.next];refine Qt ?_;simp only[go_sem,l1,l2,l4,l6,l10];refine⟨Qr (by omega) (by omega),?_⟩;show ∃m,_;have hpe:ph=(Q4 q b).phis.map (nwP q P l i):=(by rw[hphe,Qa02 _ _ (by omega)]);have hst:=hS.step hki (ph:=ph) (pl:=pl) (by rw[hgd,hpe,Jad];rfl) (by rw[hgd];exact hpe) (by rw[hkb];exact hgr);have hrw:=PkS.rows (ks:=ks) (ph:=ph) (pl:=pl) hki;have hs2:=Qct (f:=KBlk.pl) (l:=ks.set i ⟨⟨ph,ks[i].y.ins,ks[i].y.jump,ks[i].y.on,ks[i].y.next⟩,ks[i].pc,pl⟩) (i:=i) (by rw[Ji];exact hki);rw[Ja2,Jaq,hR]at hs2;generalize ks.set i ⟨⟨ph,ks[i].y.ins,ks[i].y.jump,ks[i].y.on,ks[i].y.next⟩,ks[i].pc,pl⟩=ks' at *;have kn:Kn H0 H4 E ([(x4,X4),(x6,X6),(zb,.vec 5 (ks'.map KBlk.row))]++ks'.flatMap KBlk.pl):=by
      rw[hrw,hRW];refine kn.perm (Qj fun f hf h0 hc hp=>?_);have:=hp _ _ hs2;simp only[hf]at this⊢;omega
     exact⟨l.length-(i+1),by omega,i+1,ks',rfl,by omega,hst,kn,rfl,rfl,rfl,rfl,by simp[lk]⟩
  ·intro hc;have hie:i=l.length:=by have:l.length≤i:=(by simpa using hc);omega
   subst hie;refine Qv ?_;simp only[go_sem,X.next];have hx4:=kn.l 0 rfl;have hx6:=kn.l 1 rfl;rw[hX6]at hx6;rw[hX4]at hx4;refine Qa ?_;simp only[go_sem,l4,l6,hx4,hx6];intro H2 h2;have kn:=kn.stL 0 rfl h2;refine Qk ?_;refine hQ _ _ ks hS ?_ (by simp[lk]);rw[hX6]at kn;exact kn
set_option maxHeartbeats 8000000 in
theorem Qans {q:CodeD}{fl fl2:Bool}{l:List Nat}(ho:q.ok)(hp:Pk q l)
  (hK:∀(d:CodeD) z H',PkR q d→(∃P,Q24 q.blocks.length l P∧d=pkD q P l)→Kn H H' [] [(z,.vec 5 (Qs d.blocks))]→K (.ag [.int .i64 d.params,.int .i64 d.regs,.vsl z 5 0 d.blocks.length]) H') :
  Qo prog Qvu [.ag [.int .i64 q.params,.int .i64 q.regs,.sl fl 5 (Qs q.blocks)],.c (.sl fl2 1 (Qag l))] H K:=by
 have hb1:=ho.b1;have hln:=hp.n;have hl0:0<l.length:=by
  have:=hp.z
  cases l with
  |nil=>simp at this
  |cons=>simp
 refine Qc7 ?_;refine Qd Qai Qbeb ?_;refine Qa ?_;simp only[go_sem];intro x4 hx4 H1 h1;have kn:=(Kn.start0 H).al hx4 h1;refine Qa ?_;simp only[go_sem,Qp];try intro _
 refine Qa9a (n:=q.blocks.length) (by omega) (by omega) hp.lt fun P H2 hP hu=>?_;have kn:=kn.call0 hu;simp only[go_sem,Q51];refine Qa ?_;simp only[go_sem];intro x6 hx6 H3 h3;have kn:=kn.al hx6 h3;have hx6:=kn.l 1 rfl;simp only[go_sem,Q52,hx6];intro H4 h4;have kn:Kn H H4 [] [(x4,.st [.int .i64 0,.int .i64 0,.sl true 5 []]),(x6,.st [.int .i64 q.params,.int .i64 q.regs,.sl true 5 []])]:=kn.stL 1 rfl h4;refine Q5 ?_;refine Qa ?_;simp only[go_sem];refine Qh (Qf (Qw (fun m e1 H1=>∃(ks:List KBlk) (bc:C) (bl:List (Nat×Obj)),m=l.length-ks.length∧ks.length≤l.length∧ks.map KBlk.y=(l.take ks.length).map (pkY q P)∧(∀b∈ks,b.ok)∧Gr bl 5 (ks.map KBlk.row) bc∧
  Kn H H1 [] (([(x4,.st [.int .i64 0,.int .i64 0,.sl true 5 []]),(x6,.st [.int .i64 q.params,.int .i64 q.regs,bc])]++ks.flatMap KBlk.pl)++bl)∧
  lk 1 e1=.c (.sl fl2 1 (Qag l))∧lk 2 e1=.c (.pp [.int .i64 q.params,.int .i64 q.regs,.sl fl 5 (Qs q.blocks)])∧lk 4 e1=.c (.ptr x4 0)∧lk 5 e1=.c (.sl false 1 (Qb P))∧lk 6 e1=.c (.ptr x6 0)∧lk 7 e1=.c (.int .i64 ks.length)) l.length ?_ ?_))
 ·exact⟨[],_,[],by simp,by simp,by simp,by simp,.nil 5,by simpa using kn,rfl,rfl,rfl,rfl,rfl,rfl⟩
 ·clear kn hx6;rintro m e1 H5 ⟨ks,bc,bl,hm,hkl,hky,hko,hgr,kn,l1,l2,l4,l5,l6,l7⟩;have hbw:=hgr.isOw;refine Q5 ?_;refine Qa ?_;simp only[go_sem,l1,l2,l4,l5,l6,l7,Qan];try intro _
  refine Qh (Qe rfl ?_ ?_)
  ·intro hc;have hlt:ks.length<l.length:=by simpa using hc
   obtain⟨b,hb⟩:∃b,l[ks.length]=b:=⟨_,rfl⟩;have hbm:b∈l:=by rw[←hb];exact Je hlt
   have hbn:=hp.lt b hbm;have hgd:l.getD ks.length 0=b:=by simp[Ja,hlt,hb]
   refine Qi ?_;try simp only[go_sem]
   refine Qh (Qf ?_);refine Qad ?_;simp only[go_sem,hlt,Qan,Qb4 _ _ hlt,hgd,hbn,Qp,Qa6 _ _ hbn,BlkD.take5,BlkD.allOw,BlkD.len5];refine Q0t (ho.sg.bs _ (Je hbn)) fun o H6 k2 hok hod _=>?_;have kn:=kn.comp0 k2;rw[←Qap hbn]at hod;have how:=o.noOw hok;have hpw:=hok.p.isOw;have hiw:=hok.i.isOw;simp only[go_sem,Q54];intro x8 hx8 H7 h7;have kn:=(kn.al hx8 h7).perm Jm;have hx8:=kn.l 0 rfl;simp only[go_sem,Q53,hx8,o.row_eq,hlt,Qan,Qb4 _ _ hlt,hgd,hbn,Qp,Qa6 _ _ hbn,BlkD.take5,BlkD.allOw,BlkD.len5];intro H8 h8;have kn:Kn H H8 [] ([(o.nx.y,.vec 1 (Qb o.nx.ns))]++([(x8,.st [o.pc,o.ic,.int .i64 o.jump,.int .i64 o.on,.vsl o.nx.y 1 0 o.nx.ns.length])]++(([(x4,.st [.int .i64 0,.int .i64 0,.sl true 5 []]),(x6,.st [.int .i64 q.params,.int .i64 q.regs,bc])]++ks.flatMap KBlk.pl)++bl)++o.rest)):=
    (kn.stL 0 rfl h8).perm (Qj fun f hf h0 hc hp=>by
     show f ([(x8,_)]++(_++_))=_;simp only[o.lg_eq,hf];omega)
   clear hx8;have hns:o.nx.ns=(Q4 q b).next:=by rw[←hod];rfl
   have hns2:o.nx.ns.length≤2:=by rw[hns,Qap hbn];exact (ho.bs b hbn).nxl
   refine Q5 ?_;refine Qa ?_;simp only[go_sem];refine Qh (Qf (Qw (fun m e1 H1=>∃(k:Nat) (ns:List Int),m=o.nx.ns.length-k∧k≤o.nx.ns.length∧ns=(o.nx.ns.take k).map (fun v=>P.getD v.toNat 0)++o.nx.ns.drop k∧
    Kn H H1 [] ([(o.nx.y,.vec 1 (Qb ns))]++([(x8,.st [o.pc,o.ic,.int .i64 o.jump,.int .i64 o.on,.vsl o.nx.y 1 0 o.nx.ns.length])]++(([(x4,.st [.int .i64 0,.int .i64 0,.sl true 5 []]),(x6,.st [.int .i64 q.params,.int .i64 q.regs,bc])]++ks.flatMap KBlk.pl)++bl)++o.rest))∧
    lk 1 e1=.c (.sl fl2 1 (Qag l))∧lk 2 e1=.c (.pp [.int .i64 q.params,.int .i64 q.regs,.sl fl 5 (Qs q.blocks)])∧lk 4 e1=.c (.ptr x4 0)∧lk 5 e1=.c (.sl false 1 (Qb P))∧lk 6 e1=.c (.ptr x6 0)∧lk 7 e1=.c (.int .i64 ks.length)∧lk 8 e1=.c (.ptr x8 0)∧lk 9 e1=.c (.int .i64 k)) o.nx.ns.length ?_ ?_))
   ·exact⟨0,o.nx.ns,by omega,by omega,by simp,kn,rfl,rfl,rfl,rfl,rfl,rfl,rfl,rfl⟩
   ·clear kn;rintro m2 e2 H9 ⟨k,ns,hm2,hk,hnse,kn,l1,l2,l4,l5,l6,l7,l8,l9⟩;have hnl:ns.length=o.nx.ns.length:=(by rw[hnse];simp;omega);have hx8:H9 x8=.st [o.pc,o.ic,.int .i64 o.jump,.int .i64 o.on,.vsl o.nx.y 1 0 o.nx.ns.length]:=(kn.get (x8,.st [o.pc,o.ic,.int .i64 o.jump,.int .i64 o.on,.vsl o.nx.y 1 0 o.nx.ns.length]) (by simp)).1;have hy:=kn.l 0 rfl;refine Q5 ?_;refine Qa ?_;simp only[go_sem,l1,l2,l4,l5,l6,l7,l8,l9,hx8,hpw,hiw,hy,Qc,hnl,Jh,Jn];try intro _
    refine Qh (Qe rfl ?_ ?_)
    ·intro hc2;have hlt2:k<o.nx.ns.length:=(by simpa using hc2);obtain⟨w,hw⟩:∃w,o.nx.ns[k]=w:=⟨_,rfl⟩;have hwm:w∈(Q4 q b).next:=(by rw[←hns,←hw];exact Je hlt2);obtain⟨w1,w2,_⟩:=hp.to ho hP hbm hwm;have hgd2:ns.getD k 0=w:=by
      rw[hnse,Ja,List.getElem?_append_right (by rw[Jc,Js];exact Nat.min_le_left _ _)];simp[hlt2,hw,Nat.min_eq_left (Nat.le_of_lt hlt2)]
     have hkn:k<ns.length:=(by omega);have htk:(Qb ns).take o.nx.ns.length=Qb ns:=Jd (by rw[Qc];omega);have hstep:=Qbjx (f:=fun v=>P.getD v.toNat 0) hlt2;rw[hw]at hstep;have hwe:w=(w.toNat:Int):=(by omega);refine Qi ?_;try simp only[go_sem]
     refine Qh (Qf ?_);refine Qbg ?_;generalize hr:w.toNat=r at *;simp only[go_sem,hx8,hpw,hiw,hy,htk,hlt2,Qc,hnl,Qm _ _ hkn,hgd2,hwe,w2,Qm _ _ w2,Qv2,Jh,Jn];intro H10 h10;have kn:=kn.stL 0 rfl h10;refine Qt ?_;simp only[go_sem,l9];refine⟨Qr (by omega) (by omega),?_⟩;show ∃m,_;exact⟨o.nx.ns.length-(k+1),by omega,k+1,ns.set k (P.getD r 0),rfl,by omega,by rw[hnse];exact hstep,kn,rfl,rfl,rfl,rfl,rfl,rfl,rfl,rfl⟩
    ·intro hc2;have hge:o.nx.ns.length≤k:=(by simpa using hc2);rw[Jd hge,Jac hge,Jar]at hnse;refine Qv ?_;simp only[go_sem,X.next];obtain⟨o2,ho2⟩:∃o2:OBlk,o2=⟨o.phis,o.pc,o.pl,o.ins,o.ic,o.il,o.jump,o.on,⟨ns,o.nx.y⟩⟩:=⟨_,rfl⟩;have hok2:o2.ok:=(by rw[ho2];exact⟨hok.p,hok.i,hok.a⟩);have hd2:o2.d=pkY q P b:=by
      rw[ho2,pkY,←hod];simp only[OBlk.d,hnse]
     have hpc2:o2.pc=o.pc:=(by rw[ho2]);have kn:Kn H H9 [] ([(x8,.st o2.row)]++((([(x4,.st [.int .i64 0,.int .i64 0,.sl true 5 []]),(x6,.st [.int .i64 q.params,.int .i64 q.regs,bc])]++ks.flatMap KBlk.pl)++bl)++o2.lg)):=by
      have er:o2.row=[o.pc,o.ic,.int .i64 o.jump,.int .i64 o.on,.vsl o.nx.y 1 0 o.nx.ns.length]:=(by rw[ho2,OBlk.row_eq,hnl]);have el:o2.lg=[(o.nx.y,.vec 1 (Qb ns))]++o.rest:=(by rw[ho2];rfl);rw[er,el];exact kn.perm (Qj fun f hf h0 hc hp=>by simp only[hf];omega)
     obtain⟨S,H10,pl,hfz,hgp,kn⟩:=OBlk.gh hok2 kn;rw[hd2,hpc2]at hgp kn;refine c_gh (Qdr S (Q3j ?_) hfz) (e':=[(1,.c (.sl fl2 1 (Qag l))),(2,.c (.pp [.int .i64 q.params,.int .i64 q.regs,.sl fl 5 (Qs q.blocks)])),(4,.c (.ptr x4 0)),(5,.c (.sl false 1 (Qb P))),(6,.c (.ptr x6 0)),(7,.c (.int .i64 ks.length)),(8,.c (.ptr x8 0))]) ?_
     ·simp only[Jaf,l1,l2,l4,l5,l6,l7,l8];exact⟨.c _ _ (.same _ rfl),.c _ _ (.same _ rfl),.c _ _ (.same _ rfl),.c _ _ (.same _ rfl),.c _ _ (.same _ rfl),.c _ _ (.same _ rfl),.c _ _ (.same _ rfl),by simp⟩
     clear hfz hx8 hy;have kn:Kn H H10 [] (([(x6,.st [.int .i64 q.params,.int .i64 q.regs,bc])]++([(x8,.st (kRow (pkY q P b) o.pc))]++([(x4,.st [.int .i64 0,.int .i64 0,.sl true 5 []])]++(ks.flatMap KBlk.pl++pl))))++bl):=
      kn.perm (Qj fun f hf h0 hc hp=>by
       have e:∀(a b:Nat×Obj),f [a,b]=f [a]+f [b]:=fun a b=>hc a [b];simp only[hf,e];omega)
     have hx6:=kn.l 0 rfl;have hx8:=kn.l 1 rfl;obtain⟨kb,hkb⟩:∃kb:KBlk,kb=⟨pkY q P b,o.pc,pl⟩:=⟨_,rfl⟩;have hkbr:kRow (pkY q P b) o.pc=kb.row:=(by rw[hkb];rfl);have hkbo:kb.ok:=(by rw[hkb];exact hgp);have hkw:=KBlk.noOw hkbo;rw[hkbr]at hx8 kn;have hkl5:kb.row.length=5:=rfl;have hkt5:kb.row.take 5=kb.row:=rfl;have hka:(kb.row.all fun c=>!c.isOw)=true:=hkw;refine Qt ?_;simp only[go_sem,hx6,hx8,hbw,hkl5,hkt5,hka];refine kn.growR (new:=[kb.row]) hgr (.mk' _ _ _ _) (by intro r hr;simp only[Jb]at hr;rw[hr];exact hkw) (by simp only[Jc,LIM,Jr,Jp];omega) fun bc2 bl2 H11 hgr2 hbw2 kn=>?_;have hx6:=kn.l 0 rfl;simp only[go_sem,Q55,hx6,hbw2];intro H12 h12;have kn:Kn H H12 [] ((([(x4,.st [.int .i64 0,.int .i64 0,.sl true 5 []]),(x6,.st [.int .i64 q.params,.int .i64 q.regs,bc2])]++(ks++[kb]).flatMap KBlk.pl)++bl2)++[(x8,.st kb.row)]):=
      (kn.stL 0 rfl h12).perm (Qj fun f hf h0 hc hp=>by
       have e:∀(a b:Nat×Obj),f [a,b]=f [a]+f [b]:=fun a b=>hc a [b];have ek:kb.pl=pl:=(by rw[hkb]);show f ([(x6,_)]++([(x8,_)]++([(x4,_)]++(ks.flatMap KBlk.pl++pl)))++bl2)=_;simp only[Jas,Jao,List.flatMap_nil,Jar,ek,hf,e];omega)
     refine Qt ?_;simp only[go_sem];refine⟨Qr (by omega) (by omega),?_⟩;show ∃m,_;refine⟨l.length-(ks.length+1),by omega,ks++[kb],bc2,bl2,by simp,by simp only[J7,Jr,Jp];omega,?_,fun w hw=>?_,by rw[Jv];exact hgr2,kn.drop,rfl,rfl,rfl,rfl,rfl,by simp[lk]⟩
     ·simp only[J7,Jr,Jp,Jh];rw[Jv,hky,Jf hlt,Jv,hb,hkb];rfl
     ·rcases Jz.1 hw with hw|hw
      ·exact hko w hw
      ·simp only[Jb]at hw;rw[hw];exact hkbo
  ·intro hc;have hke:ks.length=l.length:=by have:l.length≤ks.length:=(by simpa using hc);omega
   rw[hke,Jaj]at hky;obtain⟨zb,rfl,rfl⟩:∃z,bc=.vsl z 5 0 l.length∧bl=[(z,.vec 5 (ks.map KBlk.row))]:=by
    rcases hgr with ⟨_,h,_⟩|⟨y,h1,h2⟩
    ·have:=congrArg List.length h;simp only[Jc,Jp]at this;omega
    ·exact⟨y,by rw[h1,Jc,hke],h2⟩
   have hS:PkZ q P l 0 ks:=by
    have hg:∀j (h:j<ks.length),ks[j].y=pkY q P (l.getD j 0):=fun j h=>by
     have hj:j<l.length:=(by omega);have h1:(ks.map KBlk.y)[j]? = some ks[j].y:=(by simp[h]);rw[hky]at h1;simp only[Jy,Jg hj,Jaa]at h1;rw[(hp.get hj).1];exact (Jan h1).symm
    exact⟨hke,fun j h=>by rw[hg j h];exact⟨rfl,rfl,rfl,rfl,rfl⟩,hko,fun j h h0=>by omega,fun j h _=>by rw[hg j h];rfl⟩
   have kn:Kn H H5 [] ([(x4,.st [.int .i64 0,.int .i64 0,.sl true 5 []]),(x6,.st [.int .i64 q.params,.int .i64 q.regs,.vsl zb 5 0 l.length]),(zb,.vec 5 (ks.map KBlk.row))]++ks.flatMap KBlk.pl):=
    kn.perm (Qj fun f hf h0 hc hp=>by
     have e2:∀(a b:Nat×Obj),f [a,b]=f [a]+f [b]:=fun a b=>hc a [b];have e3:∀(a b c:Nat×Obj),f [a,b,c]=f [a]+f [b]+f [c]:=fun a b c=>(by rw[hc a [b,c],e2];omega);simp only[hf,e2,e3];omega)
   clear hky hko hke hgr;refine Qv ?_;simp only[go_sem,X.next];refine Qa9y (fl:=fl) (fl2:=fl2) ho hp hP hS kn rfl rfl rfl rfl fun e6 H6 ks hS kn l4=>?_;have hx4:=kn.l 0 rfl;simp only[go_sem,Qz,Q8,Qauq,Jb,forall_eq,RS.op,l4,hx4];obtain⟨d,hd⟩:∃d:CodeD,d=⟨q.params,q.regs,ks.map KBlk.y⟩:=⟨_,rfl⟩;have hdl:d.blocks.length=l.length:=by rw[hd];simpa using hS.n
   have hR:=Qbqq (d:=d) ho hp hP (by rw[hd]) (by rw[hd]) hdl fun j h=>by
    have hj:j<ks.length:=(by rw[hS.n];omega);have e:d.blocks[j]=ks[j].y:=(by subst hd;simp);rw[e];refine⟨hS.b j hj,fun p hp2=>?_⟩;rw[hS.a j hj (by omega)]at hp2;exact Qbes ho hp hP (by omega) hp2
   have hde:d=pkD q P l:=by
    rw[hd,pkD];congr 1;refine Jah (by simp[hS.n]) fun j h1 h2=>?_;have hj:j<ks.length:=(by simpa using h1);simp only[J1,Jat];have hB:=hS.b j hj;have hA:=hS.a j hj (by have:=hS.n;omega);rw[pkX];obtain⟨y,hy⟩:∃y,ks[j].y=y:=⟨_,rfl⟩;rw[hy]at hB hA⊢;cases y;simp only at hA;obtain⟨e1,e2,e3,e4,_⟩:=hB;simp only at e1 e2 e3 e4;rw[hA,e1,e2,e3,e4]
   have kn:Kn H H6 [] ([(zb,.vec 5 (ks.map KBlk.row))]++(([(x4,.st [.int .i64 q.params,.int .i64 q.regs,.vsl zb 5 0 l.length])]++[(x6,.st [.int .i64 q.params,.int .i64 q.regs,.vsl zb 5 0 l.length])])++ks.flatMap KBlk.pl)):=
    kn.perm (Qj fun f hf h0 hc hp=>by
     have e3:∀(a b c:Nat×Obj),f [a,b,c]=f [a]+f [b]+f [c]:=fun a b c=>(by rw[hc a [b,c],hc b [c]];omega);simp only[hf,e3];omega)
   obtain⟨S,hSL,hSB,hfz,kn⟩:=kn.freeze0;have hz:=hSB (zb,.vec 5 (ks.map KBlk.row)) (by simp);have hrows:FrzR H6 S (ks.map KBlk.row) (Qs d.blocks):=by
    rw[hd];show FrzR H6 S (ks.map KBlk.row) (Qs (ks.map KBlk.y));rw[Qs,Jad];refine Qvz ks fun k hk=>?_;refine .cons (Gr.frzM (hS.ok k hk) (fun p hp=>hSL p (Jl _ (Jai.2 ⟨k,hk,hp⟩))) (FrzR.same (Qm1 _))) (.cons (Qg rfl) (.cons (Qg rfl) (.cons (Qg rfl) (.cons (Qg rfl) .nil))))
   have hno:∀r∈ks.map KBlk.row,Go.AE.noOw r=true:=fun r hr=>by
    obtain⟨k,hk,rfl⟩:=Jo.1 hr;exact KBlk.noOw (hS.ok k hk)
   refine⟨S,.ag [.int .i64 q.params,.int .i64 q.regs,.vsl zb 5 0 l.length],_,FrzL.ag (.cons (Qg rfl) (.cons (Qg rfl) (.cons (.same _ rfl) .nil))),hfz.set (o:=.vec 5 (Qs d.blocks)) hz.2 (by rw[hz.1];exact .vecR hrows hno),?_⟩;have:=hK d zb _ hR ⟨P,hP,hde⟩ (kn.setL (o':=.vec 5 (Qs d.blocks)) 0 rfl (by simp));rw[hdl,hR.p,hR.r]at this;exact this
end Go.AE.Y
namespace Go.AE.Y
variable {g g':Nat→List Nat}{xs:List Nat}{S S' S'':List Bool}{o o' o'':List Nat}
theorem Dfs.det (h:Dfs g xs S o S' o'):∀{S'':List Bool} {o'':List Nat},Dfs g xs S o S'' o''→S''=S'∧o''=o':=by
 induction h with
 |nil S o=>intro S'' o'' h;cases h;exact⟨rfl,rfl⟩
 |skip h1 h2 ih=>
  intro S'' o'' h
  cases h with
  |skip k1 k2=>exact ih k2
  |go k1 k2 k3=>rw[h1]at k1;simp at k1
 |go h1 h2 h3 ih1 ih2=>
  intro S'' o'' h
  cases h with
  |skip k1 k2=>rw[h1]at k1;simp at k1
  |go k1 k2 k3=>
   obtain⟨e1,e2⟩:=ih1 k2;subst e1;subst e2;exact ih2 k3
def SAg (l:List Nat)(S T:List Bool):Prop:=∀x∈l,T.getD (l.idxOf x) false=S.getD x false
theorem Qbdj {l:List Nat}{x y:Nat}(hx:x∈l)(hy:y∈l)(h:l.idxOf x=l.idxOf y):x=y:=by
 have h1:=List.getElem_idxOf (Jt hx);have h2:=List.getElem_idxOf (Jt hy);rw[←h1,←h2];simp only[h]
theorem Dfs.ren {l:List Nat}(hg:∀x∈l,g' (l.idxOf x)=(g x).map l.idxOf)(hc:∀x∈l,∀y∈g x,y∈l)(h:Dfs g xs S o S' o') :
  (∀x∈xs,x∈l)→(∀x∈l,x<S.length)→∀T:List Bool,T.length=l.length→SAg l S T→
  ∃T',Dfs g' (xs.map l.idxOf) T (o.map l.idxOf) T' (o'.map l.idxOf)∧T'.length=l.length∧SAg l S' T':=by
 induction h with
 |nil S o=>exact fun _ _ T hT hA=>⟨T,.nil _ _,hT,hA⟩
 |skip h1 h2 ih=>
  intro hx hl T hT hA;obtain⟨T',d,e1,e2⟩:=ih (fun x h=>hx x (Jq _ h)) hl T hT hA;exact⟨T',.skip (by rw[hA _ (hx _ J0)];exact h1) d,e1,e2⟩
 |@go x xs S S1 S' o o1 o' h1 h2 h3 ih1 ih2=>
  intro hx hl T hT hA;have hxl:=hx x J0;have hxi:=Jt hxl;obtain⟨T1,d1,e1,a1⟩:=ih1 (hc x hxl) (fun y hy=>by rw[Ji];exact hl y hy) (T.set (l.idxOf x) true) (by rw[Ji];exact hT) (fun y hy=>by
   rw[Qg3,Qg3];by_cases e:y=x
   ·subst e;rw[if_pos ⟨rfl,by omega⟩,if_pos ⟨rfl,hl y hy⟩]
   ·rw[if_neg (fun h=>e (Qbdj hy hxl h.1)),if_neg (fun h=>e h.1)];exact hA y hy)
  have hS1:=h2.len;rw[Ji]at hS1;obtain⟨T',d2,e2,a2⟩:=ih2 (fun y h=>hx y (Jq _ h)) (fun y hy=>by rw[hS1];exact hl y hy) T1 e1 a1;refine⟨T',.go (o1:=o1.map l.idxOf) (S1:=T1) (by rw[hA x hxl];exact h1) ?_ ?_,e2,a2⟩
  ·rw[hg x hxl];exact d1
  ·rw[Jv]at d2;exact d2
theorem Dfs.nodup (h:Dfs g xs S o S' o'):(∀x,x<S.length→∀y∈g x,y<S.length)→(∀x∈xs,x<S.length)→(∀y∈o,S.getD y false=true)→o.Nodup→o'.Nodup:=by
 induction h with
 |nil S o=>exact fun _ _ _ h=>h
 |skip h1 h2 ih=>exact fun hg hx ho hn=>ih hg (fun y hy=>hx y (Jq _ hy)) ho hn
 |@go x xs S S1 S' o o1 o' h1 h2 h3 ih1 ih2=>
  intro hg hx ho hn;have hxl:=hx x J0;have hS1:=h2.len;rw[Ji]at hS1;have hg1:∀z,z<(S.set x true).length→∀y∈g z,y<(S.set x true).length:=by rw[Ji];exact hg
  have hx1:∀y∈g x,y<(S.set x true).length:=by rw[Ji];exact hg x hxl
  have ho1:∀y∈o,(S.set x true).getD y false=true:=fun y hy=>by
   rw[Qg3];split
   ·rfl
   ·exact ho y hy
  have hn1:=ih1 hg1 hx1 ho1 hn;obtain⟨t,e,a1,a2,a3,a4⟩:=h2.adds hg1 hx1;have hxo:x∉o1:=fun hm=>by
   rw[e]at hm;rcases Jz.1 hm with hm|hm
   ·have:=ho x hm;rw[h1]at this;simp at this
   ·obtain⟨z,_,hr⟩:=a4 x hm;refine hr.snd ?_;rw[Qg3,if_pos ⟨rfl,hxl⟩]
  refine ih2 (by rw[hS1];exact hg) (fun y hy=>by rw[hS1];exact hx y (Jq _ hy)) (fun y hy=>?_) ?_
  ·rcases Jz.1 hy with hy|hy
   ·rw[e]at hy;rw[a1];rcases Jz.1 hy with hy|hy
    ·exact .inl (ho1 y hy)
    ·exact .inr hy
   ·rw[Jb]at hy;subst hy;refine h2.mono y ?_;rw[Qg3,if_pos ⟨rfl,hxl⟩]
  ·rw[Jbf];refine⟨hn1,by simp,fun a ha b hb he=>?_⟩;rw[Jb]at hb;subst hb;subst he;exact hxo ha
theorem Dfs.ex {n:Nat}(hg:∀x,x<n→∀y∈g x,y<n):∀(u:Nat) (xs:List Nat) (S:List Bool) (o:List Nat),S.length=n→n-cnt S≤u→(∀x∈xs,x<n)→∃S' o',Dfs g xs S o S' o'
 |u,[],S,o,_,_,_=>⟨S,o,.nil _ _⟩
 |u,x::xs,S,o,hS,hu,hx=>by
  cases hs:S.getD x false with
  |true=>
   obtain⟨S',o',h⟩:=Dfs.ex hg u xs S o hS hu fun y hy=>hx y (Jq _ hy);exact⟨S',o',.skip hs h⟩
  |false=>
   have hxn:=hx x J0;have h1:=Qzb (S:=S) (x:=x) (by omega) hs;have h2:=Q0l (S.set x true);rw[Ji]at h2
   cases u with
   |zero=>omega
   |succ u=>
    obtain⟨S1,o1,d1⟩:=Dfs.ex hg u (g x) (S.set x true) o (by rw[Ji];exact hS) (by omega) (hg x hxn);have hl:=d1.len;rw[Ji]at hl;have h3:=d1.count (by rw[Ji,hS];exact hg) (by rw[Ji,hS];exact hg x hxn);have h4:=d1.olen;obtain⟨S',o',d2⟩:=Dfs.ex hg u xs S1 (o1++[x]) (by omega) (by omega) fun y hy=>hx y (Jq _ hy);exact⟨S',o',.go hs d1 d2⟩
theorem Dfs.root {x:Nat}(h:Dfs g [x] S [] S' o')(hx:S.getD x false=false):∃o1,o'=o1++[x]:=by
 cases h with
 |skip h1 _=>rw[hx]at h1;simp at h1
 |go h1 h2 h3=>cases h3;exact⟨_,rfl⟩
theorem Qbhe {f:Nat→Nat}:∀{l r:List Nat},l.Nodup→(∀x∈l,x∈r)→(l.map f).sum≤(r.map f).sum
 |[],_,_,_=>by simp
 |x::l,r,hn,h=>by
  have hx:=h x J0;have hp:=List.perm_cons_erase hx;have e:=((hp.map f).sum_nat);rw[e,Jam,Jbj,Jam,Jbj];have hn2:=List.nodup_cons.1 hn;have:=Qbhe (f:=f) hn2.2 (r:=r.erase x) fun y hy=>by
   have hyx:y≠x:=fun e=>hn2.1 (e▸hy);exact (List.mem_erase_of_ne hyx).2 (h y (Jq _ hy))
  omega
end Go.AE.Y
namespace Go.AE.Y
attribute [local instance] Classical.propDecidable
variable {q:CodeD}{P P':List Int}{l:List Nat}
def Q21 (n:Nat)(l:List Nat):List Int:=(List.range n).map fun x=>((l.idxOf x:Nat):Int)
theorem Qbe7 {n x:Nat}(h:x<n):(Q21 n l).getD x 0=((l.idxOf x:Nat):Int):=by
 simp[Q21,Ja,h]
theorem Qh4 {n:Nat}(hl:∀x∈l,x<n):Q24 n l (Q21 n l):=⟨by simp[Q21],fun x hx=>
 ⟨l.idxOf x,Jt hx,List.getElem_idxOf _,Qbe7 (hl x hx)⟩⟩
def pkE (q:CodeD)(l:List Nat):CodeD:=pkD q (Q21 q.blocks.length l) l
theorem Qbok {n:Nat}(hn:l.Nodup)(hP:Q24 n l P){x:Nat}(hx:x∈l):P.getD x 0=((l.idxOf x:Nat):Int):=by
 obtain⟨i,hi,h1,h2⟩:=hP.2 x hx;rw[h2,←h1,List.Nodup.idxOf_getElem hn i hi]
theorem Qm2 (ho:q.ok)(hp:Pk q l)(hn:l.Nodup)(hP:Q24 q.blocks.length l P){b:Nat}(hb:b∈l):(pkY q P b).next=(Q4 q b).next.map fun v=>((l.idxOf v.toNat:Nat):Int):=by
 rw[pkY];refine Jx fun v hv=>?_;exact Qbok hn hP (hp.cl b hb v (by rw[Q41 (hp.lt b hb)];exact hv))
theorem Qboj (ho:q.ok)(hp:Pk q l)(hn:l.Nodup)(hP:Q24 q.blocks.length l P)(hP':Q24 q.blocks.length l P'):pkN q P l=pkN q P' l:=by
 funext i
 by_cases hi:i<l.length
 ·rw[Qxk hi,Qxk hi,Qm2 ho hp hn hP (Je hi),Qm2 ho hp hn hP' (Je hi)]
 ·simp[pkN,Ja,Jj (Nat.le_of_not_lt hi)]
theorem Qbmc (ho:q.ok)(hp:Pk q l)(hn:l.Nodup)(hP:Q24 q.blocks.length l P):pkD q P l=pkE q l:=by
 have hP':=Qh4 hp.lt;rw[pkE,pkD,pkD];congr 1;refine Jx fun i hi=>?_;have hi:=Jw.1 hi;have hm:=Je hi;rw[pkX,pkX,(hp.get hi).1,Qm2 ho hp hn hP hm,Qm2 ho hp hn hP' hm];have:nwP q P l i=nwP q (Q21 q.blocks.length l) l i:=by
  funext p
  rw[nwP,nwP,nwA,nwA,Qboj ho hp hn hP hP']
 rw[this]
theorem Qc4 (q:CodeD)(l:List Nat):(pkE q l).blocks.length=l.length:=by simp[pkE,pkD]
theorem Q03 {i:Nat}(h:i<(pkE q l).blocks.length):(pkE q l).blocks[i]=pkX q (Q21 q.blocks.length l) l i:=by simp[pkE,pkD]
theorem Qa0h (hp:Pk q l):gnx (pkE q l)=pkN q (Q21 q.blocks.length l) l:=by
 funext i
 by_cases hi:i<l.length
 ·rw[Qxh (by rw[Qc4];exact hi),Qxk hi,Q03,pkX,(hp.get hi).1]
 ·rw[Qbdh (by rw[Qc4];omega)];simp[pkN,Ja,Jj (Nat.le_of_not_lt hi)]
theorem Qbr6 (ho:q.ok)(hp:Pk q l):PkR q (pkE q l):=Qbqq ho hp (Qh4 hp.lt) rfl rfl (Qc4 q l) fun j h=>by
 have hj:j<l.length:=by rw[Qc4]at h;exact h
 rw[Q03];refine⟨⟨rfl,rfl,rfl,rfl,?_⟩,fun p hp2=>Qbes ho hp (Qh4 hp.lt) hj hp2⟩;rw[pkX,Jad];rfl
theorem Qbmd (ho:q.ok)(hp:Pk q l):(pkE q l).ok:=(Qbr6 ho hp).ok
theorem Qa7h (ho:q.ok)(hp:Pk q l)(hn:l.Nodup){x:Nat}(hx:x∈l):nxN (gnx (pkE q l)) (l.idxOf x)=(nxN (gnx q) x).map l.idxOf:=by
 have hi:=Jt hx;rw[nxN,Qa0h hp,Qxk hi,List.getElem_idxOf hi,Qm2 ho hp hn (Qh4 hp.lt) hx,nxN,Q41 (hp.lt x hx),Jad,Jad];exact Jx fun v _=>by simp
theorem Qbqp (hp:Pk q l):∀x∈l,∀y∈nxN (gnx q) x,y∈l:=fun x hx y hy=>by
 obtain⟨v,hv,rfl⟩:=Jo.1 hy;exact hp.cl x hx v hv
theorem Qa08 (hp:Pk q l):0∈l∧l.idxOf 0=0:=by
 have hz:=hp.z
 cases l with
 |nil=>simp at hz
 |cons a l=>simp only[List.getElem?_cons_zero,Jay]at hz;subst hz;simp
theorem Qboh (ho:q.ok)(hp:Pk q l)(hn:l.Nodup){S:List Bool}{o:List Nat}(hd:Dfs (nxN (gnx q)) [0] (List.replicate q.blocks.length false) [] S o) :
  ∃S',Dfs (nxN (gnx (pkE q l))) [0] (List.replicate (pkE q l).blocks.length false) [] S' (o.map l.idxOf):=by
 obtain⟨z1,z2⟩:=Qa08 hp;obtain⟨T',d,_,_⟩:=hd.ren (g':=nxN (gnx (pkE q l))) (fun x hx=>Qa7h ho hp hn hx) (Qbqp hp) (fun x hx=>by rw[Jb]at hx;rw[hx];exact z1)
  (fun x hx=>by rw[Ja3];exact hp.lt x hx) (List.replicate l.length false) (by simp) (fun x hx=>by rw[Qab,Qab])
 rw[Qc4];simp only[Jam,Jbl,z2]at d;exact⟨T',d⟩
theorem Qbe2 (ho:q.ok):pkE q (List.range q.blocks.length)=q:=by
 have hid:∀x,x<q.blocks.length→(List.range q.blocks.length).idxOf x=x:=fun x hx=>by
  have:=List.Nodup.idxOf_getElem (Jaz (n:=q.blocks.length)) x (by simpa using hx);simpa using this
 have hp:Pk q (List.range q.blocks.length):=by
  have h0:=ho.b0;have h1:=ho.b1;refine⟨by simpa using h1,?_,fun x hx=>Jw.1 hx,fun x hx v hv=>?_⟩
  ·rw[List.getElem?_range h0]
  ·have hx:=Jw.1 hx;rw[Qxh hx]at hv;have:=(ho.bs x hx).nx v hv;exact Jw.2 (by omega)
 have hnd:(List.range q.blocks.length).Nodup:=Jaz;have hnx:∀b,b<q.blocks.length→(pkY q (Q21 q.blocks.length (List.range q.blocks.length)) b).next=gnx q b:=fun b hb=>by
  rw[Qm2 ho hp hnd (Qh4 hp.lt) (Jw.2 hb),Q41 hb];refine (Jx (g:=id) fun v hv=>?_).trans (Jbn _);rw[Qap hb]at hv;have:=(ho.bs b hb).nx v hv;rw[hid _ (by omega)];show ((v.toNat:Nat):Int)=v;omega
 have hg:pkN q (Q21 q.blocks.length (List.range q.blocks.length)) (List.range q.blocks.length)=gnx q:=by
  funext i
  by_cases hi:i<q.blocks.length
  ·rw[Qxk (by simpa using hi),Jat,hnx i hi]
  ·rw[Qbdh (by omega)];simp[pkN,Ja,Jj (show (List.range q.blocks.length).length≤i by simp;omega)]
 have hblk:(pkE q (List.range q.blocks.length)).blocks=q.blocks:=by
  refine Jah (by rw[Qc4];simp) fun b h1 h2=>?_;have hgd:(List.range q.blocks.length).getD b 0=b:=by simp[Ja,h2]
  rw[Q03,pkX,hgd,hnx b h2,Qap h2,Qxh h2];have:(q.blocks[b]).phis.map (nwP q (Q21 q.blocks.length (List.range q.blocks.length)) (List.range q.blocks.length) b)=q.blocks[b].phis:=by
   refine (Jx (g:=id) fun p hpm=>?_).trans (Jbn _);rw[nwP,nwA,hg,hgd];have e1:(Q0 (gnx q) (b:Int) (List.range q.blocks.length).length).map (fun w=>p.args.getD ((Q0 (gnx q) (b:Int) q.blocks.length).idxOf (((List.range q.blocks.length).getD w.toNat 0:Nat):Int)) 0)=p.args:=by
    rw[Jbe];refine Eq.trans (Jx fun w hw=>?_) (Qbn7 (Qaab _ _ _) ((ho.bs b h2).pal p hpm));obtain⟨j,hj,_,rfl⟩:=preds_mem.1 hw;simp[Ja,hj]
   rw[e1];rfl
  rw[this]
 cases q;simp only[pkE,pkD]at hblk⊢;rw[hblk]
theorem Qbe3 (hp:Pk q l)(hn:l.Nodup):Qqt (pkE q l)≤Qqt q:=by
 have h1:Qqt (pkE q l)=(l.map fun b=>Qxg (Q4 q b)).sum:=by
  rw[Qqt,Qf6];congr 1;refine Jah (by rw[Jc,Qc4,Jc]) fun i h1 h2=>?_;have hi:i<l.length:=by simpa using h2
  rw[J1,J1,Q03,pkX,(hp.get hi).1];simp only[Qxg,Jc]
 have h2:Qqt q=((List.range q.blocks.length).map fun b=>Qxg (Q4 q b)).sum:=by
  rw[Qqt,Qf6];congr 1;refine Jah (by simp) fun i h1 h2=>?_;have hi:i<q.blocks.length:=by simpa using h1
  rw[J1,J1,Jat,Qap hi]
 rw[h1,h2];exact Qbhe hn fun x hx=>Jw.2 (hp.lt x hx)
theorem Qbe6 {cs:List CodeD}{lf:CodeD→List Nat}(hg:Qas cs=true)(hl:∀c∈cs,Pk c (lf c)∧(lf c).Nodup):Qas (cs.map fun c=>pkE c (lf c))=true:=by
 obtain⟨h1,h2,h3⟩:=of_decide_eq_true hg;obtain⟨ds,hds⟩:∃ds,(cs.map fun c=>pkE c (lf c))=ds:=⟨_,rfl⟩;have hdl:ds.length=cs.length:=by rw[←hds,Jc]
 have hat:∀k (h:k<ds.length) (h':k<cs.length),ds[k]=pkE cs[k] (lf cs[k]):=fun k h h'=>by subst hds;rw[J1]
 rw[hds];have hr:∀k,rgOf ds k=rgOf cs k:=fun k=>by
  by_cases hk:k<cs.length
  ·rw[Qrq hk,Qrq (by omega),hat k (by omega) hk];rfl
  ·simp[rgOf,Jj (show cs.length≤k by omega),Jj (show ds.length≤k by omega)]
 have hpm:∀k,pmOf ds k=pmOf cs k:=fun k=>by
  by_cases hk:k<cs.length
  ·rw[Qrd hk,Qrd (by omega),hat k (by omega) hk];rfl
  ·simp[pmOf,Jj (show cs.length≤k by omega),Jj (show ds.length≤k by omega)]
 refine decide_eq_true ⟨by omega,fun k hk=>?_,?_⟩
 ·have hc:k<cs.length:=by omega
  have ho:=Qge hg hc;obtain⟨g1,g2⟩:=h2 k hc;obtain⟨hp,hn⟩:=hl _ (Je hc);have e:=hat k hk hc;obtain⟨q,hq⟩:∃q,cs[k]=q:=⟨_,rfl⟩;obtain⟨l,hll⟩:∃l,lf q=l:=⟨_,rfl⟩;have hreg:cs[k].regs=q.regs:=by rw[hq]
  rw[hq]at ho g1 hp hn e;rw[hll]at hp hn e;have hb2:∀(b:Nat) (h:b<q.blocks.length),Q0k cs k b q q.blocks[b]=true:=fun b h=>by subst hq;exact g2 b h
  have hrgk:rgOf cs k=q.regs:=by rw[Qrq hc,hq]
  have hpn:=hp.n;have hl0:0<l.length:=by
   have:=hp.z
   cases l with
   |nil=>simp at this
   |cons=>simp
  refine⟨?_,fun j hj=>?_⟩
  ·have:(ds[k]).blocks.length=l.length:=by rw[e,Qc4]
   have hpa:(ds[k]).params=q.params:=by rw[e];rfl
   have hre:(ds[k]).regs=q.regs:=by rw[e];rfl
   simp only[Qq8,Jk,decide_eq_true_eq,this,hpa,hre]at g1⊢;refine⟨g1.1,by omega⟩
  ·have hbe:∀(d:CodeD) (he:ds[k]=d) (hj':j<d.blocks.length),Q0k ds k j ds[k] (ds[k].blocks[j])=Q0k ds k j d d.blocks[j]:=fun d he hj'=>by subst he;rfl
   have hj':j<(pkE q l).blocks.length:=by rw[←e];exact hj
   rw[hbe _ e hj',Q03];have hjl:j<l.length:=by rw[Qc4]at hj';exact hj'
   obtain⟨e1,e2,e3⟩:=hp.get hjl;have hG:=hb2 _ e3;rw[←Qap e3]at hG;simp only[Q0k,Jk,Jab]at hG⊢;obtain⟨⟨⟨gj,gn⟩,gi⟩,gp⟩:=hG;have hgx:(fun i=>((pkE q l).blocks.map BlkD.next).getD i [])=pkN q (Q21 q.blocks.length l) l:=Qa0h hp;refine⟨⟨⟨?_,fun v hv=>?_⟩,fun x hx=>?_⟩,fun p hp2=>?_⟩
   ·have hx:(pkX q (Q21 q.blocks.length l) l j).next.length=(Q4 q l[j]).next.length:=(by rw[pkX,e1,pkY,Jc]);have hx2:(pkX q (Q21 q.blocks.length l) l j).jump=(Q4 q l[j]).jump:=(by rw[pkX,e1]);have hx3:(pkX q (Q21 q.blocks.length l) l j).on=(Q4 q l[j]).on:=(by rw[pkX,e1]);have hx4:(pkE q l).regs=q.regs:=rfl;simpa only[Qmv,hx,hx2,hx3,hx4]using gj
   ·rw[pkX,e1]at hv;obtain⟨w,hw,rfl⟩:=Jo.1 hv;obtain⟨_,_,i,hi,_,h6,h7⟩:=hp.to ho (Qh4 hp.lt) e2 hw;simp only[Q3t,decide_eq_true_eq,Qp,Qc4];rw[h6];omega
   ·rw[pkX,e1]at hx;have:=gi x hx;simp only[Q42,insL,hr,hpm]at this⊢;exact this
   ·have hA:=Qbes ho hp (Qh4 hp.lt) hjl (by rw[pkX]at hp2;exact hp2);rw[pkX,e1]at hp2;obtain⟨p0,h0,he⟩:=Jo.1 hp2;have h00:=gp p0 h0;have hto:p.to=p0.to:=(by rw[←he];rfl);have hx4:(pkE q l).regs=q.regs:=rfl;simp only[phiG,Jk,Jbc,decide_eq_true_eq,decide_eq_false_iff_not]at h00⊢;obtain⟨⟨⟨f1,_⟩,_⟩,f4⟩:=h00;refine⟨⟨⟨fun h0=>?_,?_⟩,?_⟩,?_⟩
    ·have hz:=hp.z;subst h0;rw[Jg hjl]at hz;exact f1 (Jan hz)
    ·rw[hgx,Qp,Qc4,hA.1]
    ·rw[hx4];have:=hA.2;simp only[Qpq,Jab,decide_eq_true_eq];intro v hv;have:=this v hv;simp only[rIn]at this;omega
    ·rw[hx4,hto];exact f4
 ·have key:∀m,m≤cs.length→Qf6 Qqt (ds.take m)≤Qf6 Qqt (cs.take m):=fun m=>by
   induction m with
   |zero=>intro _;simp[Qf6]
   |succ m ih=>
    intro hm;have i1:=ih (by omega);have hc:m<cs.length:=(by omega);have hd:m<ds.length:=(by omega);rw[Qb8 hc,Qb8 hd];obtain⟨hp,hn⟩:=hl _ (Je hc);have:=Qbe3 hp hn;rw[hat m hd hc];omega
  have:=key _ (Jn _);have e1:ds.take cs.length=ds:=by rw[←hdl,Jaj]
  rw[e1,Jaj]at this;omega
end Go.AE.Y
namespace Go.AE.Y
open Go.Proofs.Tryz
def Qek:List Item:=[mJ 5 19]
def Qel:List Item:=fI 18 (.bsl 1 [.t 17])::xJ 19 1 14 18::Qek
def Qso:SC:=.reg (mJ 14 5::mJ 15 1::mJ 16 7::eI 17 (.callv (.t 15) [.t 16])::Qel) [1,5,8,9,10]
def Qsp:SC:=.reg [cJ 20 .add 10 1,mJ 10 20] [1,5,8,9,10]
def Qsq:SC:=.seq (.block 1 (sR [iJ 12 1 8 10,lJ 13 12,mJ 7 13] [1,5,7,8,9,10] Qso)) Qsp
def Qpu:SC:=sR [bJ 11 .lss 10 9] [1,5,8,9,10,11] (cX 11 0 Qsq)
def Qsr:SC:=sR [mJ 21 5,mJ 4 21] [4] .ret
def Qss:SC:=.seq (sR [mJ 8 0,nJ 9 8,zJ 10 0] [1,5,8,9,10] (bL 0 Qpu)) Qsr
def Qst:SC:=sR [fI 5 (.mv (.k (.c (.sl true 1 []))))] [0,1,5] Qss
def Qzw:SC:=sR [fI 4 (.mv (.k (.c (.sl true 1 []))))] [0,1] Qst
def Qh9:List RS:=[.tmp 4]
theorem Qzn:mFn prog Qc3 2 22 Qzw Qh9=true:=by kernel_rfl
def Qx8:List Item:=[mJ 3 15]
def Qx9:List Item:=[mJ 4 21,sJ 5 5 23]
def Qya:List Item:=[mJ 6 26]
def Qyb:List Item:=[sJ 2 8 33]
def Qyc:List Item:=[mJ 9 34]
def Qaqm:SC:=.reg [mJ 42 9,mJ 43 11,fJ 44 1 8,lJ 45 44,mJ 46 10,iJ 47 1 45 46,lJ 48 47,.e none none (.upd 0 (.t 42) (.t 43) (.t 48))] [1,3,4,6,8,9,17,18,19,28,29,30,35,36,37]
def Qaqn:SC:=.reg [cJ 49 .add 37 1,mJ 37 49] [1,3,4,6,8,9,17,18,19,28,29,30,35,36,37]
def Qaqo:SC:=.seq (.block 5 (sR [mJ 39 37,iJ 40 1 35 37,lJ 41 40,mJ 10 39,mJ 11 41] [1,3,4,6,8,9,10,11,17,18,19,28,29,30,35,36,37] Qaqm)) Qaqn
def Qakg:SC:=sR [bJ 38 .lss 37 36] [1,3,4,6,8,9,17,18,19,28,29,30,35,36,37,38] (cX 38 4 Qaqo)
def Qyd:List Item:=[iJ 59 1 50 51,sJ 1 59 58]
def Qaj4:SC:=.reg (mJ 50 3::mJ 51 4::mJ 52 3::mJ 53 4::iJ 54 1 52 53::lJ 55 54::mJ 56 9::fI 57 (.bsl 1 [.t 56])::xJ 58 1 55 57::Qyd) [1,3,4,6,17,18,19,28,29,30]
def Qaj5:SC:=.seq (sR [mJ 35 6,nJ 36 35,zJ 37 0] [1,3,4,6,8,9,17,18,19,28,29,30,35,36,37] (bL 4 Qakg)) Qaj4
def Qaj6:SC:=sR (eI 34 (.mkm)::Qyc) [1,3,4,6,8,9,17,18,19,28,29,30] Qaj5
def Qaj7:SC:=.reg [cJ 60 .add 30 1,mJ 30 60] [1,3,4,6,17,18,19,28,29,30]
def Qaj8:SC:=.seq (.block 3 (sR (iJ 32 2 28 30::tJ 33 2 32::eI 8 (.alloc [.int .i64 0,.sl true 1 []])::Qyb) [1,3,4,6,8,17,18,19,28,29,30] Qaj6)) Qaj7
def Qac1:SC:=sR [bJ 31 .lss 30 29] [1,3,4,6,17,18,19,28,29,30,31] (cX 31 2 Qaj8)
def Qaj9:SC:=sR [fJ 27 0 5,lJ 28 27,nJ 29 28,zJ 30 0] [1,3,4,6,17,18,19,28,29,30] (bL 2 Qac1)
def Qaka:SC:=sR (tJ 24 3 1::mJ 25 4::aJ 26 Qcu [.t 24,.t 25]::Qya) [1,3,4,5,6,17,18,19] Qaj9
def Qakb:SC:=.reg [cJ 61 .add 19 1,mJ 19 61] [1,3,17,18,19]
def Qakc:SC:=.seq (.block 1 (sR (mJ 21 19::iJ 22 5 17 19::tJ 23 5 22::eI 5 (.alloc [.sl true 2 [],.sl true 4 [],.int .i64 0,.int .i64 0,.sl true 1 []])::Qx9) [1,3,4,5,17,18,19] Qaka)) Qakb
def Qac2:SC:=sR [bJ 20 .lss 19 18] [1,3,17,18,19,20] (cX 20 0 Qakc)
def Qakd:SC:=sR [mJ 62 3,mJ 2 62] [2] .ret
def Qake:SC:=.seq (sR [fJ 16 2 1,lJ 17 16,nJ 18 17,zJ 19 0] [1,3,17,18,19] (bL 0 Qac2)) Qakd
def Qakf:SC:=sR (fJ 12 2 1::lJ 13 12::nJ 14 13::eI 15 (.mks 1 [.sl true 1 []] (.t 14))::Qx8) [1,3] Qake
def Qa1k:SC:=sR [vJ 1 0,fI 2 (.mv (.k (.c (.sl true 1 []))))] [1] Qakf
def Qabu:List RS:=[.tmp 2]
theorem Qa0o:mFn prog Qqy 1 63 Qa1k Qabu=true:=by kernel_rfl
def Qyo:List Item:=[mJ 5 20]
def Qyp:List Item:=[mJ 6 28,sJ 1 7 30]
def Qyq:List Item:=[hJ 34 33,.chk 36 none (.iad 5 (.t 34) (.t 35)),hJ 38 37,iJ 43 2 38 39,fJ 44 1 43,sJ 1 44 42]
def Qaqs:SC:=.dreg 15 [0,1,2,3,4,5,6,7,8,9,10,11,3,5,7,12,13,14] ( mJ 31 0::kJ 32 31::fJ 33 2 32::lJ 34 33::mJ 35 4::iJ 36 5 34 35::fJ 37 0 36::lJ 38 37::mJ 39 6::mJ 40 5::fI 41 (.mkf Qcm [.t 7])::aJ 42 Qc3 [.t 40,.t 41]::Qyq) [0,1,4,5,12,13,24,25,26]
def Qaqt:SC:=.reg [cJ 45 .add 26 1,mJ 26 45] [0,1,4,5,12,13,24,25,26]
def Qaqu:SC:=.seq (.block 3 (sR (mJ 28 26::iJ 29 1 24 26::lJ 30 29::eI 7 (.alloc [.mnil])::Qyp) [0,1,4,5,6,7,12,13,24,25,26] Qaqs)) Qaqt
def Qak9:SC:=sR [bJ 27 .lss 26 25] [0,1,4,5,12,13,24,25,26,27] (cX 27 2 Qaqu)
def Qaqv:SC:=sR [mJ 21 1,mJ 22 4,iJ 23 1 21 22,lJ 24 23,nJ 25 24,zJ 26 0] [0,1,4,5,12,13,24,25,26] (bL 2 Qak9)
def Qaqw:SC:=sR (mJ 16 0::kJ 17 16::tJ 18 3 17::mJ 19 4::aJ 20 Qcu [.t 18,.t 19]::Qyo) [0,1,4,5,12,13] Qaqv
def Qaqx:SC:=.reg [cJ 46 .add 13 1,mJ 13 46] [0,1,12,13]
def Qak7:SC:=.seq (.block 1 (sR [mJ 15 13,mJ 4 15] [0,1,4,12,13] Qaqw)) Qaqx
def Qac8:SC:=sR [bJ 14 .lss 13 12] [0,1,12,13,14] (cX 14 0 Qak7)
def Qa1n:SC:=sR [mJ 8 0,kJ 9 8,fJ 10 2 9,lJ 11 10,nJ 12 11,zJ 13 0] [0,1,12,13] (bL 0 Qac8)
def Qabw:List RS:=[]
theorem Qa0q:mFn prog Qqz 2 47 Qa1n Qabw=true:=by kernel_rfl
def Q8q:SC:=sR [lJ 4 1,mJ 5 0,fI 6 (.lup 0 (.c (.int .i64 0)) (.t 4) (.t 5)),mJ 3 6] [3] .ret
def Qak8:SC:=sR [zJ 3 0] [0,1] Q8q
def Qxs:List RS:=[.tmp 3]
theorem Qaim:mFn prog Qcm 2 7 Qak8 Qxs=true:=by kernel_rfl
def Qfm:List Item:=[fB 3 false]
def Qfn:List Item:=[mJ 3 7]
def Qfo:List Item:=fI 6 (.ext (.t 5) 0)::fI 7 (.ext (.t 5) 1)::sJ 1 2 6::Qfn
def Qwf:SC:=sR (tJ 4 1 1::eI 5 (.call Qg1 [.t 4,.k (.c (.fn Qex []))])::Qfo) [2,3] .ret
def Q1k:SC:=sR (vJ 1 0::eI 2 (.alloc [.sl true 3 []])::Qfm) [1,2] Qwf
def Qjc:List RS:=[.cell 2 1 true,.tmp 3]
theorem Q0v:mFn prog Qdk 1 8 Q1k Qjc=true:=by kernel_rfl
def Qil:List Item:=[sJ 3 2 6]
def Qim:List Item:=.chk 3 none (.ld 3 true (.t 1))::aJ 6 Qi4 [.t 3,.t 5]::Qil
def Q12:SC:=.seq (.dreg 5 [0,1,2,0,3,4] ( tJ 3 3 1::tJ 4 3 1::aJ 5 Qho [.t 4]::Qim) [2]) .ret
def Q8p:SC:=sR [vJ 1 0,eI 2 (.alloc [.int .i64 0,.int .i64 0,.sl true 5 []])] [1,2] Q12
def Qn0:List RS:=[.cell 2 3 true]
theorem Q7s:mFn prog Qex 1 7 Q8p Qn0=true:=by kernel_rfl
def Qf3:List Item:=[fB 3 false]
def Qf4:List Item:=[mJ 3 7]
def Qf5:List Item:=fI 6 (.ext (.t 5) 0)::fI 7 (.ext (.t 5) 1)::sJ 1 2 6::Qf4
def Qxc:SC:=sR (tJ 4 1 1::eI 5 (.call Qvt [.t 4,.k (.c (.str [114,101,97,99,104]))])::Qf5) [2,3] .ret
def Q2v:SC:=sR (vJ 1 0::eI 2 (.alloc [.sl true 3 []])::Qf3) [1,2] Qxc
def Qjj:List RS:=[.cell 2 1 true,.tmp 3]
theorem Q00:mFn prog Qdo 1 8 Q2v Qjj=true:=by kernel_rfl
def Qdg:List Item:=[sJ 1 2 5]
def Qdh:List Item:=aJ 5 Qvs [.t 4]::Qdg
def Qlu:SC:=sR (mJ 3 0::aJ 4 Qvw [.t 3]::Qdh) [2] .ret
def Qqp:SC:=sR [eI 2 (.alloc [.sl true 3 []])] [0,2] Qlu
def Qea:List RS:=[.cell 2 1 true]
theorem Qpo:mFn prog Qb1 1 6 Qqp Qea=true:=by kernel_rfl
def Qlc:List Item:=[fB 3 false]
def Qld:List Item:=[mJ 3 7]
def Qle:List Item:=fI 6 (.ext (.t 5) 0)::fI 7 (.ext (.t 5) 1)::sJ 1 2 6::Qld
def Q7v:SC:=sR (tJ 4 1 1::eI 5 (.call Qg1 [.t 4,.k (.c (.fn Qd1 []))])::Qle) [2,3] .ret
def Qai0:SC:=sR (vJ 1 0::eI 2 (.alloc [.sl true 3 []])::Qlc) [1,2] Q7v
def Qxl:List RS:=[.cell 2 1 true,.tmp 3]
theorem Qaic:mFn prog Qhn 1 8 Qai0 Qxl=true:=by kernel_rfl
def Qgh:List Item:=[sJ 3 2 6]
def Qgi:List Item:=.chk 3 none (.ld 3 true (.t 1))::aJ 6 Qi4 [.t 3,.t 5]::Qgh
def Qzs:SC:=.seq (.dreg 5 [0,1,2,0,3,4] ( tJ 3 3 1::tJ 4 3 1::aJ 5 Qmb [.t 4]::Qgi) [2]) .ret
def Q33:SC:=sR [vJ 1 0,eI 2 (.alloc [.int .i64 0,.int .i64 0,.sl true 5 []])] [1,2] Qzs
def Qk1:List RS:=[.cell 2 3 true]
theorem Q3n:mFn prog Qd1 1 7 Q33 Qk1=true:=by kernel_rfl
def Qlw:List Item:=[fB 3 false]
def Qlx:List Item:=[mJ 3 7]
def Qly:List Item:=fI 6 (.ext (.t 5) 0)::fI 7 (.ext (.t 5) 1)::sJ 1 2 6::Qlx
def Q9s:SC:=sR (tJ 4 1 1::eI 5 (.call Qvt [.t 4,.k (.c (.str [111,114,100,101,114]))])::Qly) [2,3] .ret
def Qand:SC:=sR (vJ 1 0::eI 2 (.alloc [.sl true 3 []])::Qlw) [1,2] Q9s
def Qxu:List RS:=[.cell 2 1 true,.tmp 3]
theorem Qaiq:mFn prog Qh1 1 8 Qand Qxu=true:=by kernel_rfl
def Qf1:List Item:=[sJ 1 2 5]
def Qf2:List Item:=aJ 5 Qvs [.t 4]::Qf1
def Qxb:SC:=sR (mJ 3 0::aJ 4 Qvw [.t 3]::Qf2) [2] .ret
def Q2u:SC:=sR [eI 2 (.alloc [.sl true 3 []])] [0,2] Qxb
def Qji:List RS:=[.cell 2 1 true]
theorem Q0z:mFn prog Qdn 1 6 Q2u Qji=true:=by kernel_rfl
end Go.AE.Y
namespace Go.AE.Y
attribute [local go_sem] cond_true cond_false Bool.not_true Bool.not_false
open Go.Proofs.Tryz
variable {H H0:Heap}{K:V→Heap→Prop}{q:CodeD}{E L:List (Nat×Obj)}
def mI (l:List (Int×Int)):List (C×V):=l.map fun p=>(.int .i64 p.1,.c (.int .i64 p.2))
def lkI (k:Int):List (Int×Int)→Option Int
 |[]=>none
 |p::l=>if k=p.1 then some p.2 else lkI k l
def upI (k v:Int):List (Int×Int)→List (Int×Int)
 |[]=>[(k,v)]
 |p::l=>if k=p.1 then (k,v)::l else p::upI k v l
def deI (k:Int):List (Int×Int)→List (Int×Int)
 |[]=>[]
 |p::l=>if k=p.1 then l else p::deI k l
theorem Qa66 (l:List (Int×Int)):(mI l).length=l.length:=by simp[mI]
theorem Qmz (k:Int)(l:List (Int×Int)):Qmy 0 (.int .i64 k) (mI l)=True:=by
 refine eq_true ?_;simp only[Qmy,mI,Jo];rintro e ⟨p,_,rfl⟩;exact⟨p.1,rfl⟩
theorem Qaou (k:Int):∀(l:List (Int×Int)),Qpm (.int .i64 k) (mI l)=(lkI k l).map fun v=>.c (.int .i64 v)
 |[]=>rfl
 |p::l=>by
  have ih:=Qaou k l;simp only[mI,Jam,Qpm,Qgb,lkI]at ih⊢;by_cases h:k=p.1
  ·simp[h]
  ·simp only[h,decide_false,Jal,if_false];exact ih
theorem Qaov (k:Int)(l:List (Int×Int)):(Qpm (.int .i64 k) (mI l)).getD (.c (.int .i64 0))=.c (.int .i64 ((lkI k l).getD 0)):=by
 rw[Qaou];cases lkI k l <;> rfl
theorem Qatl (k:Int)(l:List (Int×Int)):(Qpm (.int .i64 k) (mI l)).isSome=(lkI k l).isSome:=by
 rw[Qaou];cases lkI k l <;> rfl
theorem Qass (k v:Int):∀(l:List (Int×Int)),updE (.int .i64 k) (.c (.int .i64 v)) (mI l)=mI (upI k v l)
 |[]=>rfl
 |p::l=>by
  have ih:=Qass k v l;simp only[mI,Jam,updE,Qgb,upI]at ih⊢;by_cases h:k=p.1
  ·simp[h]
  ·simp only[h,decide_false,Jal,if_false,Jam,ih]
theorem Qa6i (k v:Int):∀(l:List (Int×Int)),(upI k v l).length≤l.length+1
 |[]=>by simp[upI]
 |p::l=>by
  have ih:=Qa6i k v l;simp only[upI];split
  ·simp
  ·simp only[Jr];omega
theorem Qbja (k v j:Int):∀(l:List (Int×Int)),lkI j (upI k v l)=if j=k then some v else lkI j l
 |[]=>by simp[upI,lkI]
 |p::l=>by
  have ih:=Qbja k v j l;simp only[upI];by_cases h:k=p.1
  ·simp only[h,if_true,lkI];by_cases hj:j=p.1 <;> simp[hj]
  ·simp only[h,if_false,lkI,ih];by_cases hj:j=p.1
   ·have:¬j=k:=fun e=>h (e▸hj);simp[hj,this];intro e;exact absurd e.symm h
   ·simp[hj]
theorem Qbhn {k v:Int}:∀{l:List (Int×Int)},(∀p∈l,¬k=p.1)→upI k v l=l++[(k,v)]
 |[],_=>rfl
 |p::l,h=>by
  have ih:=Qbhn (v:=v) fun q hq=>h q (Jq _ hq);simp only[upI,h p J0,if_false,ih,Jbg]
theorem Qbl4 {l aa:List Int}{i:Nat}(h:i<l.length)(h2:i<aa.length)(hnd:l.Nodup):upI l[i] aa[i] ((l.zip aa).take i)=(l.zip aa).take (i+1):=by
 have hz:i<(l.zip aa).length:=by rw[List.length_zip];omega
 rw[Jf hz,List.getElem_zip,Qbhn];intro p hp he;obtain⟨j,hj,rfl⟩:=Jag.1 hp;rw[Js]at hj;rw[List.getElem_take,List.getElem_zip]at he;simp only at he;have:=(List.getElem_inj hnd).1 he;omega
theorem Qbjd {l:List (Int×Int)}(h:(l.map Prod.fst).Nodup):(mI l).Nodup:=by
 rw[mI,List.nodup_iff_pairwise_ne,Jax];rw[List.nodup_iff_pairwise_ne,Jax]at h;refine List.Pairwise.imp (fun hne he=>?_) h;simp only[Jbb,C.int.injEq,true_and]at he;exact hne he.1
structure PMap where
 m:Nat
 ver:Nat
 l:List (Int×Int)
def PMap.lg (p:PMap):List (Nat×Obj):=[(p.m,.map p.ver (mI p.l))]
def Qd9 (ms:List PMap):List (List C):=ms.map fun p=>[.mp p.m]
theorem Qb7 (ms:List PMap):(Qd9 ms).length=ms.length:=by simp[Qd9]
theorem Qany (ms:List PMap)(i:Nat)(h:i<ms.length):(Qd9 ms).getD i []=[.mp ms[i].m]:=by simp[Qd9,Ja,h]
structure PSl where
 ms:List PMap
 c:C
 g:List (Nat×Obj)
def PSl.row (s:PSl):List C:=[s.c]
def PSl.ok (s:PSl):Prop:=Gr s.g 1 (Qd9 s.ms) s.c
def PSl.lg (s:PSl):List (Nat×Obj):=s.ms.flatMap PMap.lg++s.g
def psL (ss:List PSl):List (Nat×Obj):=ss.flatMap PSl.lg
structure PInv (F:Nat→List (List (Int×Int)))(ss:List PSl):Prop where
 f:∀r (h:r<ss.length),ss[r].ms.map PMap.l=F r
 ok:∀s∈ss,s.ok
variable {F F':Nat→List (List (Int×Int))}{ss:List PSl}
theorem PInv.set (h:PInv F ss){x:Nat}{s:PSl}(hs:s.ok)(hF:∀r,r<ss.length→F' r=if r=x then s.ms.map PMap.l else F r):PInv F' (ss.set x s):=by
 refine⟨fun r hr=>?_,fun w hw=>?_⟩
 ·have hr':r<ss.length:=by simpa using hr
  rw[J5,hF r hr'];split
  ·rename_i e;rw[if_pos e.symm]
  ·rename_i e;rw[if_neg (fun hh=>e hh.symm)];exact h.f r hr'
 ·rcases J4 hw with hw|rfl
  ·exact h.ok w hw
  ·exact hs
theorem Q04 {x:Nat}{s:PSl}(hx:x<ss.length)(hs:ss[x]=s):(psL ss).Perm (psL (ss.eraseIdx x)++s.lg):=by
 subst hs;exact (Qct (f:=PSl.lg) hx).trans Jm
theorem Qbe9 {x:Nat}{s:PSl}(hx:x<ss.length):(psL (ss.set x s)).Perm (psL (ss.eraseIdx x)++s.lg):=by
 have h1:=Q04 (ss:=ss.set x s) (x:=x) (s:=s) (by rw[Ji];exact hx) (by simp);rw[Jaq]at h1;exact h1
def zpA (q:CodeD)(b:Nat)(p:PhiD):List (Int×Int):=(Q0 (gnx q) (b:Int) q.blocks.length).zip p.args
def phT (q:CodeD)(b r:Nat):List (List (Int×Int)):=if r<b then (Q4 q r).phis.map (zpA q r)else []
set_option maxHeartbeats 4000000 in
theorem Qbj9 {fl:Bool}(ho:q.ok)(hK:∀o ss H',ss.length=q.blocks.length→PInv (phT q q.blocks.length) ss→Kn H H' [] ([(o,.vec 1 (ss.map PSl.row))]++psL ss)→K (.c (.vsl o 1 0 q.blocks.length)) H') :
  Qo prog Qqy [.ag [.int .i64 q.params,.int .i64 q.regs,.sl fl 5 (Qs q.blocks)]] H K:=by
 have hb1:=ho.b1;refine Qc7 ?_;refine Qd Qai Qa0o ?_;refine Qa ?_;simp only[go_sem];refine Qa ?_;simp only[go_sem,Qp];intro _;refine⟨by simp only[LIM];omega,fun o ho2 H1 h1=>?_⟩;obtain⟨ss0,hss0⟩:∃ss0:List PSl,ss0=List.replicate q.blocks.length ⟨[],.sl true 1 [],[]⟩:=⟨_,rfl⟩;have hs0l:ss0.length=q.blocks.length:=by rw[hss0];simp
 have hS0:PInv (phT q 0) ss0:=by
  rw[hss0];refine⟨fun r h=>by simp[phT],fun s hs=>?_⟩;rw[J9 hs];exact .nil 1
 have kn:Kn H H1 [] ([(o,.vec 1 (ss0.map PSl.row))]++psL ss0):=by
  have e:psL ss0=[]:=by rw[hss0];exact List.flatMap_eq_nil_iff.2 fun s hs=>by rw[J9 hs];rfl
  have:=(Kn.start0 H).al ho2 h1;rw[e,hss0];simpa[PSl.row]using this
 clear hss0 h1 ho2;simp only[go_sem,Qx8];refine Q5 ?_;refine Qa ?_;simp only[go_sem,Qp];try intro _
 refine Qh (Qf (Qw (fun m e1 H1=>∃(b:Nat) (ss:List PSl),m=q.blocks.length-b∧b≤q.blocks.length∧ss.length=q.blocks.length∧PInv (phT q b) ss∧Kn H H1 [] ([(o,.vec 1 (ss.map PSl.row))]++psL ss)∧
  lk 1 e1=.c (.pp [.int .i64 q.params,.int .i64 q.regs,.sl fl 5 (Qs q.blocks)])∧lk 3 e1=.c (.vsl o 1 0 q.blocks.length)∧lk 17 e1=.c (.sl fl 5 (Qs q.blocks))∧lk 18 e1=.c (.int .i64 q.blocks.length)∧lk 19 e1=.c (.int .i64 b)) q.blocks.length ?_ ?_))
 ·exact⟨0,ss0,by omega,by omega,hs0l,hS0,kn,rfl,rfl,rfl,rfl,rfl⟩
 ·clear kn hS0 hs0l;clear ss0;rintro m e1 H1 ⟨b,ss,hm,hb,hsl,hS,kn,l1,l3,l17,l18,l19⟩;refine Qa ?_;simp only[go_sem,l1,l3,l17,l18,l19];refine Qh (Qe rfl ?_ ?_)
  ·intro hc;have hlt:b<q.blocks.length:=by simpa using hc
   obtain⟨y,hy⟩:∃y,q.blocks[b]=y:=⟨_,rfl⟩;have hya:Q4 q b=y:=by rw[Qap hlt,hy]
   have hyo:=ho.bs b hlt;have hil:=ho.il b hlt;rw[hy]at hyo hil;refine Qi ?_;try simp only[go_sem]
   refine Qh (Qf ?_);refine Qa ?_;simp only[go_sem,l1,l3,l17,l18,l19,hlt,Qp,Qa6 _ _ hlt,BlkD.cells,hy];intro x5 hx5 H2 h2;have kn:Kn H H2 [] ([(x5,_)]++([(o,.vec 1 (ss.map PSl.row))]++psL ss)):=(kn.al hx5 h2).perm Jm;have hx5:=kn.l 0 rfl;simp only[go_sem,Qx9,hx5];intro H3 h3;have kn:=kn.stL 0 rfl h3;have kn:Kn H H3 [] ([(x5,.st y.cells)]++([(o,.vec 1 (ss.map PSl.row))]++psL ss)):=kn;clear hx5;refine Qa ?_;simp only[go_sem];refine Q0j (Qmu H3 q fl) fun fl2 H4 hu=>?_;have kn:=kn.call0 hu;have hpi:Qj7 (gnx q) (b:Int) q.blocks.length=Q0 (gnx q) (b:Int) q.blocks.length:=by rw[Qj7,if_pos (by simp only[Jk,decide_eq_true_eq];omega)]
   rw[Qp,hpi];obtain⟨ps,hps⟩:∃ps,Q0 (gnx q) (b:Int) q.blocks.length=ps:=⟨_,rfl⟩;have hpnd:ps.Nodup:=by rw[←hps];exact Qaab _ _ _
   have hpl:ps.length≤q.blocks.length:=by rw[←hps];exact Qb5 _ _ _
   have hpal:∀p∈y.phis,p.args.length=ps.length:=fun p hp=>by rw[hyo.pal p hp,hps]
   rw[hps];simp only[go_sem,Qya];have hx5:=kn.l 0 rfl;refine Qa ?_;simp only[go_sem,hx5,BlkD.cells,Qy];try intro _
   refine Qf (Qw (fun m e1 H1=>∃(k:Nat) (ss:List PSl),m=y.phis.length-k∧k≤y.phis.length∧ss.length=q.blocks.length∧PInv (fun r=>if r=b then (y.phis.take k).map (zpA q b)else phT q b r) ss∧Kn H H1 [] ([(x5,.st y.cells)]++([(o,.vec 1 (ss.map PSl.row))]++psL ss))∧
    lk 1 e1=.c (.pp [.int .i64 q.params,.int .i64 q.regs,.sl fl 5 (Qs q.blocks)])∧lk 3 e1=.c (.vsl o 1 0 q.blocks.length)∧lk 4 e1=.c (.int .i64 b)∧lk 6 e1=.c (.sl fl2 1 (Qb ps))∧lk 17 e1=.c (.sl fl 5 (Qs q.blocks))∧lk 18 e1=.c (.int .i64 q.blocks.length)∧lk 19 e1=.c (.int .i64 b)∧lk 28 e1=.c (.sl false 2 (Q2 y.phis))∧lk 29 e1=.c (.int .i64 y.phis.length)∧lk 30 e1=.c (.int .i64 k)) y.phis.length ?_ ?_)
   ·refine⟨0,ss,by omega,by omega,hsl,⟨fun r hr=>?_,hS.ok⟩,kn,rfl,rfl,rfl,rfl,rfl,rfl,rfl,rfl,rfl,rfl⟩;rw[hS.f r hr];by_cases hrb:r=b
    ·subst hrb;simp[phT]
    ·rw[if_neg hrb]
   ·clear kn hS l1 l3 l17 l18 l19 hx5 hsl;rintro m2 e2 H5 ⟨k,ss,hm2,hk,hsl,hS,kn,l1,l3,l4,l6,l17,l18,l19,l28,l29,l30⟩;refine Qa ?_;simp only[go_sem,l1,l3,l4,l6,l17,l18,l19,l28,l29,l30];refine Qh (Qe rfl ?_ ?_)
    ·intro hc2;have hlt2:k<y.phis.length:=(by simpa using hc2);obtain⟨p,hp⟩:∃p,y.phis[k]=p:=⟨_,rfl⟩;have hpm:p∈y.phis:=(by rw[←hp];exact Je hlt2);have hpl2:=hpal p hpm;refine Qi ?_;try simp only[go_sem]
     refine Qh (Qf ?_);refine Qa ?_;simp only[go_sem,l1,l3,l4,l6,l17,l18,l19,l28,l29,l30,hlt2,Qy,Qa7 _ _ hlt2,PhiD.cells,hp];intro x8 hx8 H6 h6;have kn:Kn H H6 [] ([(x8,_)]++([(x5,.st y.cells)]++([(o,.vec 1 (ss.map PSl.row))]++psL ss))):=(kn.al hx8 h6).perm Jm;have hx8:=kn.l 0 rfl;simp only[go_sem,Qyb,hx8];intro H7 h7;have kn:=kn.stL 0 rfl h7;have kn:Kn H H7 [] ([(x8,.st p.cells)]++([(x5,.st y.cells)]++([(o,.vec 1 (ss.map PSl.row))]++psL ss))):=kn;clear hx8;refine Qa ?_;simp only[go_sem];intro M hM H8 h8;have kn:Kn H H8 [] ([(M,.map 0 (mI []))]++([(x8,.st p.cells)]++([(x5,.st y.cells)]++([(o,.vec 1 (ss.map PSl.row))]++psL ss)))):=(kn.al hM h8).perm Jm;clear hM;simp only[go_sem,Qyc];refine Q5 ?_;refine Qa ?_;simp only[go_sem,Qc];try intro _
     refine Qh (Qf (Qw (fun m e1 H1=>∃(i ver:Nat),m=ps.length-i∧i≤ps.length∧Kn H H1 [] ([(M,.map ver (mI ((ps.zip p.args).take i)))]++([(x8,.st p.cells)]++([(x5,.st y.cells)]++([(o,.vec 1 (ss.map PSl.row))]++psL ss))))∧
      lk 1 e1=.c (.pp [.int .i64 q.params,.int .i64 q.regs,.sl fl 5 (Qs q.blocks)])∧lk 3 e1=.c (.vsl o 1 0 q.blocks.length)∧lk 4 e1=.c (.int .i64 b)∧lk 6 e1=.c (.sl fl2 1 (Qb ps))∧lk 8 e1=.c (.ptr x8 0)∧lk 9 e1=.c (.mp M)∧lk 17 e1=.c (.sl fl 5 (Qs q.blocks))∧lk 18 e1=.c (.int .i64 q.blocks.length)∧lk 19 e1=.c (.int .i64 b)∧lk 28 e1=.c (.sl false 2 (Q2 y.phis))∧lk 29 e1=.c (.int .i64 y.phis.length)∧lk 30 e1=.c (.int .i64 k)∧
      lk 35 e1=.c (.sl fl2 1 (Qb ps))∧lk 36 e1=.c (.int .i64 ps.length)∧lk 37 e1=.c (.int .i64 i)) ps.length ?_ ?_))
     ·exact⟨0,0,by omega,by omega,by simpa using kn,rfl,rfl,rfl,rfl,rfl,rfl,rfl,rfl,rfl,rfl,rfl,rfl,rfl,rfl,rfl⟩
     ·clear kn l1 l3 l4 l6 l17 l18 l19 l28 l29 l30;rintro m3 e3 H9 ⟨i,ver,hm3,hi,kn,l1,l3,l4,l6,l8,l9,l17,l18,l19,l28,l29,l30,l35,l36,l37⟩;have hM:=kn.l 0 rfl;have hx8:=kn.l 1 rfl;refine Qa ?_;simp only[go_sem,l1,l3,l4,l6,l8,l9,l17,l18,l19,l28,l29,l30,l35,l36,l37];refine Qh (Qe rfl ?_ ?_)
      ·intro hc3;have hlt3:i<ps.length:=(by simpa using hc3);have hlt4:i<p.args.length:=(by omega);obtain⟨w,hw⟩:∃w,ps[i]=w:=⟨_,rfl⟩;obtain⟨a,ha⟩:∃a,p.args[i]=a:=⟨_,rfl⟩;have hgw:ps.getD i 0=w:=(by simp[Ja,hlt3,hw]);have hga:p.args.getD i 0=a:=(by simp[Ja,hlt4,ha]);have hzt:=Qbl4 hlt3 hlt4 hpnd;rw[hw,ha]at hzt;have hzl:((ps.zip p.args).take i).length≤i:=(by rw[Js];omega);refine Qi ?_;try simp only[go_sem]
       refine Qh (Qf ?_);refine Qa ?_;simp only[go_sem,l1,l3,l4,l6,l8,l9,l17,l18,l19,l28,l29,l30,l35,l36,l37,hlt3,Qc,Qm _ _ hlt3,hgw];refine Qt ?_;simp only[go_sem,hx8,PhiD.cells,hM,hlt4,Qc,Qm _ _ hlt4,hga,Qmz,Qa66,Qass,hzt];refine⟨by simp only[LIM];omega,fun H10 h10=>?_⟩;have kn:=kn.stL 0 rfl h10;refine Qt ?_;simp only[go_sem];refine⟨Qr (by omega) (by omega),?_⟩;show ∃m,_;exact⟨ps.length-(i+1),by omega,i+1,ver+1,rfl,by omega,kn,rfl,rfl,rfl,rfl,rfl,rfl,rfl,rfl,rfl,rfl,rfl,rfl,rfl,rfl,rfl⟩
      ·intro hc3;have hge:ps.length≤i:=(by simpa using hc3);have hzf:(ps.zip p.args).take i=zpA q b p:=by
        rw[Jd (by rw[List.length_zip];omega),zpA,hps]
       rw[hzf]at kn;refine Qv ?_;simp only[go_sem,X.next];have hbl:b<ss.length:=(by omega);obtain⟨s,hs⟩:∃s,ss[b]=s:=⟨_,rfl⟩;have hsok:s.ok:=(by rw[←hs];exact hS.ok _ (Je hbl));have hsf:=hS.f b hbl;rw[hs]at hsf;simp only[if_true]at hsf;have hsw:=Gr.isOw hsok;have hsm:s.ms.length=k:=(by have:=congrArg List.length hsf;simp only[Jc,Js]at this;omega);have hsg:(ss.map PSl.row).getD b []=[s.c]:=(by simp[Ja,hbl,hs,PSl.row]);have hrl:(ss.map PSl.row).length=q.blocks.length:=(by rw[Jc,hsl]);have hrt:(ss.map PSl.row).take q.blocks.length=ss.map PSl.row:=Jd (by omega);have hsp:=Q04 hbl hs;have kn:Kn H H9 [] (([(o,.vec 1 (ss.map PSl.row)),(M,.map ver (mI (zpA q b p))),(x8,.st p.cells),(x5,.st y.cells)]++(psL (ss.eraseIdx b)++s.ms.flatMap PMap.lg))++s.g):=kn.perm (Qj fun f hf h0 hc hp=>by
        have e4:∀(a b c d:Nat×Obj),f [a,b,c,d]=f [a]+f [b]+f [c]+f [d]:=fun a b c d=>(by rw[hc a [b,c,d],hc b [c,d],hc c [d]];omega);have:=hp _ _ hsp;rw[PSl.lg]at this;simp only[hf,e4]at this⊢;omega)
       have hob:=kn.l 0 rfl;refine Qt ?_;simp only[go_sem,l1,l3,l4,l6,l8,l9,hob,hrl,hrt,hlt,hsg,hsw,Jh,Jn];refine kn.growR (new:=[[.mp M]]) hsok (.mk' _ _ _ _) (by intro r hr;simp only[Jb]at hr;rw[hr];rfl) (by simp only[Qb7,LIM,Jr,Jp];omega) fun t2 g2 H10 hg2 ht2 kn=>?_;have hob:=kn.l 0 rfl;simp only[go_sem,Qyd,hob,hrl,hrt,hlt,hsg,hsw,ht2,Jh,Jn];intro H11 h11;obtain⟨s',hs'⟩:∃s':PSl,s'=⟨s.ms++[⟨M,ver,zpA q b p⟩],t2,g2⟩:=⟨_,rfl⟩;have hs'ok:s'.ok:=by
        rw[hs'];show Gr g2 1 (Qd9 (s.ms++[⟨M,ver,zpA q b p⟩])) t2;have e:Qd9 (s.ms++[⟨M,ver,zpA q b p⟩])=Qd9 s.ms++[[.mp M]]:=(by simp[Qd9]);rw[e];exact hg2
       have hset:(ss.map PSl.row).set b [t2]=(ss.set b s').map PSl.row:=(by rw[Ja4,hs'];rfl);rw[hset]at h11;have kn:=kn.stL 0 rfl h11;have hps2:=Qbe9 (s:=s') hbl;have kn:Kn H H11 [] (([(x5,.st y.cells)]++([(o,.vec 1 ((ss.set b s').map PSl.row))]++psL (ss.set b s')))++[(x8,.st p.cells)]):=kn.perm (Qj fun f hf h0 hc hp=>by
        have e4:∀(a b c d:Nat×Obj),f [a,b,c,d]=f [a]+f [b]+f [c]+f [d]:=fun a b c d=>(by rw[hc a [b,c,d],hc b [c,d],hc c [d]];omega);have:=hp _ _ hps2;have es:s'.lg=(s.ms.flatMap PMap.lg++[(M,.map ver (mI (zpA q b p)))])++g2:=(by rw[hs',PSl.lg,Jas];simp[PMap.lg]);rw[es]at this;show f ([(o,_),(M,_),(x8,_),(x5,_)]++(psL (ss.eraseIdx b)++s.ms.flatMap PMap.lg)++g2)=_;simp only[hf,e4]at this⊢;omega)
       have kn:=kn.drop;refine Qt ?_;simp only[go_sem];refine⟨Qr (by omega) (by omega),?_⟩;show ∃m,_;refine⟨y.phis.length-(k+1),by omega,k+1,ss.set b s',rfl,by omega,by rw[Ji];exact hsl,hS.set hs'ok fun r hr=>?_,kn,rfl,rfl,rfl,rfl,rfl,rfl,rfl,rfl,rfl,rfl⟩;by_cases hrb:r=b
       ·subst hrb;rw[if_pos rfl,if_pos rfl,hs',Jv,hsf,Jf hlt2,Jv,hp];rfl
       ·rw[if_neg hrb,if_neg hrb,if_neg hrb]
    ·intro hc2;have hke:k=y.phis.length:=(by have:y.phis.length≤k:=(by simpa using hc2);omega);subst hke;rw[Jaj]at hS;refine Qv ?_;simp only[go_sem,X.next];have kn:Kn H H5 [] (([(o,.vec 1 (ss.map PSl.row))]++psL ss)++[(x5,.st y.cells)]):=kn.perm Jm;have kn:=kn.drop;refine Qt ?_;simp only[go_sem,l1,l3,l17,l18,l19];refine⟨Qr (by omega) (by omega),?_⟩;show ∃m,_;refine⟨q.blocks.length-(b+1),by omega,b+1,ss,rfl,by omega,hsl,⟨fun r hr=>?_,hS.ok⟩,kn,rfl,rfl,rfl,rfl,rfl⟩;rw[hS.f r hr];by_cases hrb:r=b
     ·subst hrb;rw[if_pos rfl,phT,if_pos (by omega),hya]
     ·rw[if_neg hrb,phT,phT];by_cases hr2:r<b
      ·rw[if_pos hr2,if_pos (by omega)]
      ·rw[if_neg hr2,if_neg (by omega)]
  ·intro hc;have hbe:b=q.blocks.length:=by have:q.blocks.length≤b:=(by simpa using hc);omega
   subst hbe;refine Qv ?_;simp only[go_sem,X.next];refine Qa ?_;simp only[go_sem,l3];refine Qk ?_;simp only[go_sem,Qz,Q8,Qabu,Jb,forall_eq,RS.op];have kn:Kn H H1 [] ([]++([(o,.vec 1 (ss.map PSl.row))]++psL ss)):=kn;exact⟨unx H ([(o,.vec 1 (ss.map PSl.row))]++psL ss),.c (.vsl o 1 0 q.blocks.length),H1.frz (unx H ([(o,.vec 1 (ss.map PSl.row))]++psL ss)),.c _ _ (.same _ rfl),Qd5 _ _,hK o ss _ hsl hS kn.finK⟩
end Go.AE.Y
namespace Go.AE.Y
variable {nx:Nat→List Int}{n:Nat}{q:CodeD}
theorem Qblw {s:Nat}{e x:Nat×Int}(h:(newL nx n n)[s]? = some e):x∈(newL nx n n).take (s+1)↔x∈(newL nx n n).take s∨x=e:=by
 obtain⟨hs,he⟩:=Jau.1 h;rw[Jf hs,Jz,Jb,he]
def stV (nx:Nat→List Int)(n s b:Nat)(v:Int):Int:=if (b,v)∈(newL nx n n).take s then ((n+(newL nx n n).idxOf (b,v):Nat):Int)else v
def stX (nx:Nat→List Int)(n s b:Nat):List Int:=(nx b).map (stV nx n s b)
theorem Qbg8 (F:SpF nx n){s b b':Nat}{v:Int}(h:(newL nx n n)[s]? = some (b,v))(hne:b'≠b):stX nx n (s+1) b'=stX nx n s b':=by
 rw[stX,stX];refine Jx fun w _=>?_;have:((b',w)∈(newL nx n n).take (s+1))↔(b',w)∈(newL nx n n).take s:=by
  rw[Qblw h];exact⟨fun hh=>hh.resolve_right fun e=>hne (Prod.mk.inj e).1,.inl⟩
 simp only[stV,this]
def mpS (q:CodeD)(r:Nat)(p:PhiD):Nat→List (Int×Int)
 |0=>zpA q r p
 |s+1=>match (newL (gnx q) q.blocks.length q.blocks.length)[s]? with
  |some e=>if e.2=(r:Int)then deI (e.1:Int) (upI ((q.blocks.length+s:Nat):Int) ((lkI (e.1:Int) (mpS q r p s)).getD 0) (mpS q r p s))else mpS q r p s
  |none=>mpS q r p s
end Go.AE.Y
namespace Go.AE.Y
attribute [local go_sem] cond_true cond_false Bool.not_true Bool.not_false
open Go.Proofs.Tryz
variable {H H0:Heap}{K:V→Heap→Prop}{E L:List (Nat×Obj)}
theorem Qbce {w:Int}{x7 M ver:Nat}{l:List (Int×Int)}(h7:H x7=.st [.mp M])(hM:H M=.map ver (mI l))(hK:K (.c (.int .i64 ((lkI w l).getD 0))) H) :
  Qo prog Qcm [.c (.int .i64 w),.c (.ptr x7 0)] H K:=by
 have hokM:Qwe H (.mp M)=True:=by simp only[Qwe,hM]
 have henM:Qaf H (.mp M)=mI l:=by simp only[Qaf,hM]
 refine Qd Qai Qaim ?_;refine Qa ?_;simp only[go_sem];refine Qa ?_;simp only[go_sem,h7,hokM,henM,Qmz,Qaov];refine Qk ?_;simp only[go_sem,Qz,Q8,Qxs,Jb,forall_eq,RS.op];exact hK
theorem Qbn6 {f:Bool}{ps:List Int}{x7 M ver:Nat}{l:List (Int×Int)}(hpl:ps.length≤2 ^ 38)(h7:H x7=.st [.mp M])(hM:H M=.map ver (mI l))(hne:x7≠M)
  (hK:∀H',Upd H H' []→K (.c (.sl false 1 (Qb (ps.map fun w=>(lkI w l).getD 0)))) H') :
  Qo prog Qc3 [.c (.sl f 1 (Qb ps)),.c (.fn Qcm [.ptr x7 0])] H K:=by
 obtain⟨av,hav⟩:∃av,(ps.map fun w=>(lkI w l).getD 0)=av:=⟨_,rfl⟩;have havl:av.length=ps.length:=by rw[←hav,Jc]
 rw[hav]at hK;refine Qu ?_;refine Qd Qai Qzn ?_;have kn:=Kn.start2 h7 (by nofun) hM (by nofun) hne;refine Qa ?_;simp only[go_sem];refine Qa ?_;simp only[go_sem];refine Q5 ?_;refine Qa ?_;simp only[go_sem,Qc];try intro _
 refine Qh (Qf (Qw (fun m e1 H1=>∃(i:Nat) (t:C) (Lg:List (Nat×Obj)),m=ps.length-i∧i≤ps.length∧Gr Lg 1 (Qb (av.take i)) t∧Kn H H1 [(x7,.st [.mp M]),(M,.map ver (mI l))] ([]++Lg)∧
  lk 1 e1=.c (.fn Qcm [.ptr x7 0])∧lk 5 e1=.c t∧lk 8 e1=.c (.sl f 1 (Qb ps))∧lk 9 e1=.c (.int .i64 ps.length)∧lk 10 e1=.c (.int .i64 i)) ps.length ?_ ?_))
 ·exact⟨0,_,[],by omega,by omega,.nil 1,kn,rfl,rfl,rfl,rfl,rfl⟩
 ·clear kn;rintro m e1 H1 ⟨i,t,Lg,hm,hi,hgr,kn,l1,l5,l8,l9,l10⟩;have htw:=hgr.isOw;refine Qa ?_;simp only[go_sem,l1,l5,l8,l9,l10,htw];refine Qh (Qe rfl ?_ ?_)
  ·intro hc;have hlt:i<ps.length:=by simpa using hc
   obtain⟨w,hw⟩:∃w,ps[i]=w:=⟨_,rfl⟩;have hgd:ps.getD i 0=w:=by simp[Ja,hlt,hw]
   have hia:i<av.length:=by omega
   have hva:av[i]=(lkI w l).getD 0:=by subst hav;rw[J1,hw]
   have htk:av.take (i+1)=av.take i++[(lkI w l).getD 0]:=by rw[Jf hia,hva]
   refine Qi ?_;try simp only[go_sem]
   refine Qh (Qf ?_);refine Qa ?_;simp only[go_sem,l1,l5,l8,l9,l10,htw,hlt,Qc,Qm _ _ hlt,hgd];refine Qt ?_;simp only[go_sem,htw];refine Qbce (kn.e 0 rfl) (kn.e 1 rfl) ?_;simp only[go_sem,Qel,htw];refine kn.growR (new:=Qb [(lkI w l).getD 0]) hgr (.mk' _ _ _ _) (Qn _) (by simp only[Qc,Js,LIM,Jr,Jp];omega) fun t2 Lg2 H5 hgr2 ht2 kn=>?_;simp only[go_sem,Qek,ht2];refine Qt ?_;simp only[go_sem,ht2];refine⟨Qr (by omega) (by omega),?_⟩;show ∃m,_;refine⟨ps.length-(i+1),by omega,i+1,t2,Lg2,rfl,by omega,?_,kn,rfl,rfl,rfl,rfl,rfl⟩;rw[htk,Qbc];exact hgr2
  ·intro hc;have hge:ps.length≤i:=by simpa using hc
   rw[Jd (by omega)]at hgr;refine Qv ?_;simp only[go_sem,X.next];refine Qa ?_;simp only[go_sem,l5,htw];refine Qk ?_;simp only[go_sem,Qz,Q8,Qh9,Jb,forall_eq,RS.op,htw];exact⟨_,.c _ _ (hgr.frz kn (Qn _)),hK _ ((kn.fin.drop2 hM).drop1 h7)⟩
def stlP (nx:Nat→List Int)(N:Nat)(g:Nat→PhiD→Int→Int)(j:Nat)(p:PhiD):PhiD:=⟨p.to,(Q0 nx (j:Int) N).map (g j p)⟩
def stlY (nx:Nat→List Int)(N:Nat)(g:Nat→PhiD→Int→Int)(j:Nat)(y:BlkD):BlkD:=⟨y.phis.map (stlP nx N g j),y.ins,y.jump,y.on,y.next⟩
variable {nx:Nat→List Int}{N:Nat}{g:Nat→PhiD→Int→Int}{Y:Nat→BlkD}
structure StS (nx:Nat→List Int)(N:Nat)(g:Nat→PhiD→Int→Int)(Y:Nat→BlkD)(b:Nat)(ks:List KBlk):Prop where
 n:ks.length=N
 y:∀j (h:j<ks.length),ks[j].y=if j<b then stlY nx N g j (Y j)else Y j
 ok:∀k∈ks,k.ok
theorem StS.step {b:Nat}{ks:List KBlk}(hS:StS nx N g Y b ks)(hb:b<ks.length){ph:List PhiD}{pl:List (Nat×Obj)}(h2:ph=(Y b).phis.map (stlP nx N g b))(hg:Gr pl 2 (Q2 ph) ks[b].pc) :
  StS nx N g Y (b+1) (ks.set b ⟨⟨ph,ks[b].y.ins,ks[b].y.jump,ks[b].y.on,ks[b].y.next⟩,ks[b].pc,pl⟩):=by
 refine⟨by rw[Ji];exact hS.n,fun j h=>?_,fun w hw=>?_⟩
 ·have h':j<ks.length:=by simpa using h
  rw[J5];split
  ·rename_i e;subst e
   have:=hS.y b hb;rw[if_neg (Jbk b)]at this;rw[if_pos (Nat.lt_succ_self b),this,h2];rfl
  ·rename_i e
   rw[hS.y j h'];by_cases hj:j<b
   ·rw[if_pos hj,if_pos (by omega)]
   ·rw[if_neg hj,if_neg (by omega)]
 ·rcases J4 hw with h|rfl
  ·exact hS.ok w h
  ·exact hg
structure PTel (nx:Nat→List Int)(N:Nat)(g:Nat→PhiD→Int→Int)(Y:Nat→BlkD)(ss:List PSl):Prop where
 ml:∀r (h:r<ss.length),ss[r].ms.length=(Y r).phis.length
 f:∀r (h:r<ss.length) i (h1:i<ss[r].ms.length) (h2:i<(Y r).phis.length),∀w∈Q0 nx (r:Int) N,(lkI w (ss[r].ms[i]).l).getD 0=g r (Y r).phis[i] w
 ok:∀s∈ss,s.ok
theorem PTel.of {G:Nat→PhiD→List (Int×Int)}{ss:List PSl}(h:PInv (fun j=>(Y j).phis.map (G j)) ss)(hg:∀j p w,g j p w=(lkI w (G j p)).getD 0):PTel nx N g Y ss:=
 ⟨fun r hr=>by have:=congrArg List.length (h.f r hr);simpa using this,fun r hr i h1 h2 w _=>by
  have e:(ss[r].ms.map PMap.l)[i]? = some (ss[r].ms[i]).l:=by simp[h1]
  rw[h.f r hr]at e;simp only[Jy,Jg h2,Jaa,Jay]at e;rw[←e,hg],h.ok⟩
set_option maxHeartbeats 8000000 in
theorem Qbll {x zb o:Nat}{P G:Int}{ks0:List KBlk}{ss:List PSl}{R:List (Nat×Obj)}(hN:N≤100000)(hk:StS nx N g Y 0 ks0)(hnx:∀j,j<N→(Y j).next=nx j)(hpl:∀j,j<N→(Y j).phis.length≤100000)
  (hsl:ss.length=N) (hs:PTel nx N g Y ss)
  (kn:Kn H0 H E ([(x,.st [.int .i64 P,.int .i64 G,.vsl zb 5 0 N]),(zb,.vec 5 (ks0.map KBlk.row)),(o,.vec 1 (ss.map PSl.row))]++(ks0.flatMap KBlk.pl++(psL ss++R))))
  (hK:∀ks H',StS nx N g Y N ks→ks.map KBlk.row=ks0.map KBlk.row→Kn H0 H' E ([(x,.st [.int .i64 P,.int .i64 G,.vsl zb 5 0 N]),(zb,.vec 5 (ks0.map KBlk.row)),(o,.vec 1 (ss.map PSl.row))]++(ks.flatMap KBlk.pl++(psL ss++R)))→K (.tup []) H') :
  Qo prog Qqz [.c (.ptr x 0),.c (.vsl o 1 0 N)] H K:=by
 obtain⟨X0,hX0⟩:∃X0,X0=Obj.st [.int .i64 P,.int .i64 G,.vsl zb 5 0 N]:=⟨_,rfl⟩;obtain⟨RW,hRW⟩:∃RW,ks0.map KBlk.row=RW:=⟨_,rfl⟩;obtain⟨SW,hSW⟩:∃SW,ss.map PSl.row=SW:=⟨_,rfl⟩;have hRWl:RW.length=N:=by rw[←hRW,Jc,hk.n]
 have hRWt:RW.take N=RW:=Jd (by omega);have hSWl:SW.length=N:=by rw[←hSW,Jc,hsl]
 have hSWt:SW.take N=SW:=Jd (by omega);rw[hRW,hSW,←hX0]at kn;rw[hRW,hSW,←hX0]at hK;have hRWno:∀r∈RW,Go.AE.noOw r=true:=fun r hr=>by
  rw[←hRW]at hr;obtain⟨k,hk2,rfl⟩:=Jo.1 hr;exact KBlk.noOw (hk.ok k hk2)
 have hRWx:∀j,j<RW.length→∃a1 a2 a3 a4 fl,RW.getD j []=[a1,a2,a3,a4,.sl fl 1 (Qb (nx j))]:=fun j hj=>by
  have hj':j<ks0.length:=by rw[hk.n];omega
  have hy:=hk.y j hj';rw[if_neg (Nat.not_lt_zero j)]at hy;refine⟨ks0[j].pc,.sl false 4 (Qaw ks0[j].y.ins),.int .i64 ks0[j].y.jump,.int .i64 ks0[j].y.on,false,?_⟩;rw[←hRW,Ja];simp only[Jy,Jg hj',Jaa,Jak];rw[←hnx j (by omega),←hy];exact KBlk.row_eq _
 refine Qd Qai Qa0q ?_;have hx:=kn.l 0 rfl;rw[hX0]at hx;have hzb:=kn.l 1 rfl;refine Qa ?_;simp only[go_sem,hx,hzb,hRWl,Jh,Jn];try intro _
 refine Qf (Qw (fun m e1 H1=>∃(b:Nat) (ks:List KBlk),m=N-b∧b≤N∧StS nx N g Y b ks∧ks.map KBlk.row=RW∧
  Kn H0 H1 E ([(x,X0),(zb,.vec 5 RW),(o,.vec 1 SW)]++(ks.flatMap KBlk.pl++(psL ss++R)))∧
  lk 0 e1=.c (.ptr x 0)∧lk 1 e1=.c (.vsl o 1 0 N)∧lk 12 e1=.c (.int .i64 N)∧lk 13 e1=.c (.int .i64 b)) N ?_ ?_)
 ·exact⟨0,ks0,by omega,by omega,hk,hRW,kn,rfl,rfl,rfl,rfl⟩
 ·clear kn hx hzb;rintro m e1 H1 ⟨b,ks,hm,hb,hS,hkr,kn,l0,l1,l12,l13⟩;refine Qa ?_;simp only[go_sem,l0,l1,l12,l13];refine Qh (Qe rfl ?_ ?_)
  ·intro hc;have hlt:b<N:=by simpa using hc
   have hkb:b<ks.length:=by rw[hS.n];exact hlt
   obtain⟨kb,hkbe⟩:∃kb,ks[b]=kb:=⟨_,rfl⟩;have hkbo:Gr kb.pl 2 (Q2 kb.y.phis) kb.pc:=by rw[←hkbe];exact hS.ok _ (Je hkb)
   have hkby:kb.y=Y b:=by have:=hS.y b hkb;rw[if_neg (Jbk b),hkbe]at this;exact this
   have hsb:b<ss.length:=by omega
   obtain⟨s,hse⟩:∃s,ss[b]=s:=⟨_,rfl⟩;have hsm:s∈ss:=by rw[←hse];exact Je hsb
   have hsok:=hs.ok s hsm;have hsml:s.ms.length=(Y b).phis.length:=by have:=hs.ml b hsb;rw[hse]at this;exact this
   have hsF:∀i (h1:i<s.ms.length) (h2:i<(Y b).phis.length),∀w∈Q0 nx (b:Int) N,(lkI w (s.ms[i]).l).getD 0=g b (Y b).phis[i] w:=by
    have:=hs.f b hsb;rw[hse]at this;exact this
   have hRWg:RW.getD b []=[kb.pc,.sl false 4 (Qaw kb.y.ins),.int .i64 kb.y.jump,.int .i64 kb.y.on,.sl false 1 (Qb kb.y.next)]:=by
    rw[←hkr,Ja];simp only[Jy,Jg hkb,hkbe,Jaa,Jak];exact kb.row_eq
   have hSWg:SW.getD b []=[s.c]:=by
    rw[←hSW,Ja];simp only[Jy,Jg hsb,hse,Jaa,Jak];rfl
   have hsw:=Gr.isOw hsok;obtain⟨KR,hKR⟩:∃KR,(ks.eraseIdx b).flatMap KBlk.pl=KR:=⟨_,rfl⟩;have hflat:(ks.flatMap KBlk.pl).Perm (kb.pl++KR):=by rw[←hKR,←hkbe];exact Qct hkb
   refine Qi ?_;try simp only[go_sem]
   refine Qh (Qf ?_);refine Qa ?_;simp only[go_sem,l0,l1,l12,l13];have hx:=kn.l 0 rfl;rw[hX0]at hx;have hzb:=kn.l 1 rfl;refine Qa ?_;simp only[go_sem,hx];refine Q0j (nx:=nx) ⟨vslc hzb hRWl.symm,rfl,hRWno,hRWx⟩ fun fl2 H2 hu=>?_;have kn:=kn.call0 hu;have hpi:Qj7 nx (b:Int) RW.length=Q0 nx (b:Int) N:=by rw[hRWl,Qj7,if_pos (by simp only[Jk,decide_eq_true_eq];omega)]
   rw[hpi];obtain⟨ps,hps⟩:∃ps,Q0 nx (b:Int) N=ps:=⟨_,rfl⟩;have hpsl:ps.length≤N:=by rw[←hps];exact Qb5 _ _ _
   rw[hps];simp only[go_sem,Qyo];have ho:=kn.l 2 rfl;have hgmem:∀p∈s.g,p∈psL ss:=fun p hp=>Jai.2 ⟨s,hsm,Jl _ hp⟩;have hsc:okSl H2 s.c=True∧lenC s.c=s.ms.length:=by
    refine⟨eq_true ?_,by have:=Gr.lenC hsok;rw[Qb7]at this;exact this⟩;rcases hsok with ⟨h1,_,_⟩|⟨z,h1,h2⟩
    ·rw[h1];trivial
    ·have hz:=(kn.get (z,.vec 1 (Qd9 s.ms)) (Jl _ (Jl _ (Jl _ (Ju _ (hgmem _ (by rw[h2];simp))))))).1;rw[h1];simp only[okSl,hz,Jh,Jn,and_self]
   refine Qa ?_;simp only[go_sem,ho,hSWl,hSWt,hSWg,hlt,hsw,hsc.1,hsc.2,Jh,Jn];try intro _
   have kn:Kn H0 H2 E (([(x,X0),(zb,.vec 5 RW),(o,.vec 1 SW)]++(KR++(psL ss++R)))++kb.pl):=kn.perm (Qj fun f hf h0 hc hp=>by
    have:=hp _ _ hflat;simp only[hf]at this⊢;omega)
   refine Qf (Qw (fun m e1 H1=>∃(i:Nat) (ph:List PhiD) (pl:List (Nat×Obj)),m=s.ms.length-i∧i≤s.ms.length∧ph=mix (stlP nx N g b) (Y b).phis i∧Gr pl 2 (Q2 ph) kb.pc∧
    Kn H0 H1 E (([(x,X0),(zb,.vec 5 RW),(o,.vec 1 SW)]++(KR++(psL ss++R)))++pl)∧
    lk 0 e1=.c (.ptr x 0)∧lk 1 e1=.c (.vsl o 1 0 N)∧lk 4 e1=.c (.int .i64 b)∧lk 5 e1=.c (.sl fl2 1 (Qb ps))∧lk 12 e1=.c (.int .i64 N)∧lk 13 e1=.c (.int .i64 b)∧lk 24 e1=.c s.c∧lk 25 e1=.c (.int .i64 s.ms.length)∧lk 26 e1=.c (.int .i64 i)) s.ms.length ?_ ?_)
   ·exact⟨0,kb.y.phis,kb.pl,by omega,by omega,by rw[Qapr,hkby],hkbo,kn,rfl,rfl,rfl,rfl,rfl,rfl,rfl,rfl,rfl⟩
   ·clear kn hx hzb ho hsc l0 l1 l12 l13 hflat;rintro m2 e2 H3 ⟨i,ph,pl,hm2,hi,hphe,hgr,kn,l0,l1,l4,l5,l12,l13,l24,l25,l26⟩;have hphl:ph.length=(Y b).phis.length:=(by rw[hphe,Qj6]);refine Qa ?_;simp only[go_sem,l0,l1,l4,l5,l12,l13,l24,l25,l26,hsw];refine Qh (Qe rfl ?_ ?_)
    ·intro hc2;have hlt2:i<s.ms.length:=(by simpa using hc2);have hiY:i<(Y b).phis.length:=(by omega);have hYl:=hpl b hlt;have hip:i<ph.length:=(by omega);obtain⟨zs,hzs,hsg⟩:∃z,s.c=.vsl z 1 0 s.ms.length∧s.g=[(z,.vec 1 (Qd9 s.ms))]:=by
      rcases hsok with ⟨_,h,_⟩|⟨z,h1,h2⟩
      ·have:=congrArg List.length h;rw[Qb7]at this;simp only[Jp]at this;omega
      ·exact⟨z,by rw[h1,Qb7],h2⟩
     obtain⟨zp,hpc,hplz⟩:∃z,kb.pc=.vsl z 2 0 ph.length∧pl=[(z,.vec 2 (Q2 ph))]:=by
      rcases hgr with ⟨_,h,_⟩|⟨y,h1,h2⟩
      ·have:=congrArg List.length h;rw[Qy]at this;simp only[Jp]at this;omega
      ·exact⟨y,by rw[h1,Qy],h2⟩
     rw[hpc]at hRWg;rw[hplz]at kn;obtain⟨pm,hpm⟩:∃pm,s.ms[i]=pm:=⟨_,rfl⟩;obtain⟨p,hp⟩:∃p,(Y b).phis[i]=p:=⟨_,rfl⟩;obtain⟨gl,hgl⟩:∃gl,pm.l=gl:=⟨_,rfl⟩;have hpl2:ps.map (fun w=>(lkI w gl).getD 0)=ps.map (g b p):=Jx fun w hw=>by
      have:=hsF i hlt2 hiY w (by rw[hps];exact hw);rw[hpm,hgl,hp]at this;exact this
     have hphi:ph[i]=p:=(by rw[←hp];subst hphe;exact Qbep hiY hip);have hmpg:(Qd9 s.ms).getD i []=[.mp pm.m]:=(by rw[Qany _ _ hlt2,hpm]);have hmpt:(Qd9 s.ms).take s.ms.length=Qd9 s.ms:=Jd (by rw[Qb7];omega);have hzsm:(zs,Obj.vec 1 (Qd9 s.ms))∈psL ss:=hgmem _ (by rw[hsg];simp);have hMm:(pm.m,Obj.map pm.ver (mI gl))∈psL ss:=Jai.2 ⟨s,hsm,Ju _ (Jai.2 ⟨pm,by rw[←hpm];exact Je hlt2,by rw[PMap.lg,hgl];simp⟩)⟩;have hzv:=(kn.get (zs,.vec 1 (Qd9 s.ms)) (by simp[hzsm])).1;have hMv:=(kn.get (pm.m,.map pm.ver (mI gl)) (by simp[hMm])).1;refine Qi ?_;try simp only[go_sem]
     refine Qh (Qf ?_);refine Qa ?_;simp only[go_sem,l0,l1,l4,l5,l12,l13,l24,l25,l26,hzs,hzv,Qb7,hmpt,hlt2,hmpg,Jh,Jn];intro x7 hx7 H4 h4;have hne:x7≠pm.m:=fun e=>(by rw[e,hMv]at hx7;simp at hx7);have kn:Kn H0 H4 E ([(x7,.st [.mnil])]++(([(x,X0),(zb,.vec 5 RW),(o,.vec 1 SW)]++(KR++(psL ss++R)))++[(zp,.vec 2 (Q2 ph))])):=(kn.al hx7 h4).perm Jm;have hx7:=kn.l 0 rfl;simp only[go_sem,Qyp,hx7];intro H5 h5;have kn:Kn H0 H5 E ([(x7,.st [.mp pm.m])]++(([(x,X0),(zb,.vec 5 RW),(o,.vec 1 SW)]++(KR++(psL ss++R)))++[(zp,.vec 2 (Q2 ph))])):=kn.stL 0 rfl h5;have hx7:=kn.l 0 rfl;have hx:=kn.l 1 rfl;rw[hX0]at hx;have hzb:=kn.l 2 rfl;have hMv:=(kn.get (pm.m,.map pm.ver (mI gl)) (by simp[hMm])).1;have hzp:=(kn.get (zp,.vec 2 (Q2 ph)) (by simp)).1;have hptk:(Q2 ph).take ph.length=Q2 ph:=Jd (by rw[Qy];omega);have hpg:(Q2 ph).getD i []=[.int .i64 p.to,.sl false 1 (Qb p.args)]:=(by rw[Qa7 _ _ hip,hphi];rfl);refine Qbg ?_;simp only[go_sem,hx,hzb,hRWl,hRWt,hRWg,hlt,hzp,Qy,hptk,hip,Jh,Jn];refine Qbn6 (by omega) hx7 hMv hne fun H6 hu=>?_;have kn:=kn.call0 hu;have hx:=kn.l 1 rfl;rw[hX0]at hx;have hzb:=kn.l 2 rfl;have hzp:=(kn.get (zp,.vec 2 (Q2 ph)) (by simp)).1;simp only[go_sem,Qyq,hx,hzb,hRWl,hRWt,hRWg,hlt,hzp,Qy,hptk,hip,hpg,Jh,Jn];intro H7 h7;have hrow:(Q2 ph).set i [.int .i64 p.to,.sl false 1 (Qb (ps.map fun w=>(lkI w gl).getD 0))]=Q2 (mix (stlP nx N g b) (Y b).phis (i+1)):=by
      rw[hpl2,←Qa03 hiY,hp,stlP,hps,←hphe,Q2,Q2,Ja4];rfl
     rw[hrow]at h7;have kn:Kn H0 H7 E ((([(x,X0),(zb,.vec 5 RW),(o,.vec 1 SW)]++(KR++(psL ss++R)))++[(zp,.vec 2 (Q2 (mix (stlP nx N g b) (Y b).phis (i+1))))])++[(x7,.st [.mp pm.m])]):=
      ((kn.perm (L':=[(zp,.vec 2 (Q2 ph))]++([(x7,.st [.mp pm.m])]++([(x,X0),(zb,.vec 5 RW),(o,.vec 1 SW)]++(KR++(psL ss++R))))) (Qj fun f hf h0 hc hp=>by simp only[hf];omega)).stL 0 rfl h7).perm (Qj fun f hf h0 hc hp=>by
       show f ([(zp,_)]++([(x7,_)]++([(x,X0),(zb,.vec 5 RW),(o,.vec 1 SW)]++(KR++(psL ss++R)))))=_;simp only[hf];omega)
     have kn:=kn.drop;refine Qt ?_;simp only[go_sem,l26];refine⟨Qr (by omega) (by omega),?_⟩;show ∃m,_;refine⟨s.ms.length-(i+1),by omega,i+1,_,_,rfl,by omega,rfl,?_,kn,rfl,rfl,rfl,rfl,rfl,rfl,by first|rfl|exact congrArg V.c hzs.symm,rfl,rfl⟩;rw[hpc];exact .mk _ _ _ (by rw[Qy,Qj6,hphl])
    ·intro hc2;have hie:s.ms.length≤i:=(by simpa using hc2);rw[Qa02 _ _ (by omega)]at hphe;refine Qv ?_;simp only[go_sem,X.next];have hy2:ks[b].y=Y b:=(by rw[hkbe,hkby]);obtain⟨ks2,hks2⟩:∃ks2,ks2=ks.set b ⟨⟨ph,ks[b].y.ins,ks[b].y.jump,ks[b].y.on,ks[b].y.next⟩,ks[b].pc,pl⟩:=⟨_,rfl⟩;have hst:=hS.step hkb hphe (pl:=pl) (by rw[hkbe];exact hgr);have hrw:=PkS.rows (ks:=ks) (ph:=ph) (pl:=pl) hkb;have h1:((ks.set b ⟨⟨ph,ks[b].y.ins,ks[b].y.jump,ks[b].y.on,ks[b].y.next⟩,ks[b].pc,pl⟩).flatMap KBlk.pl).Perm (pl++KR):=by
      have:=Qct (f:=KBlk.pl) (l:=ks.set b ⟨⟨ph,ks[b].y.ins,ks[b].y.jump,ks[b].y.on,ks[b].y.next⟩,ks[b].pc,pl⟩) (i:=b) (by rw[Ji];exact hkb);rw[Ja2,Jaq,hKR]at this;exact this
     rw[←hks2]at hst hrw h1;have kn:Kn H0 H3 E ([(x,X0),(zb,.vec 5 RW),(o,.vec 1 SW)]++(ks2.flatMap KBlk.pl++(psL ss++R))):=kn.perm (Qj fun f hf h0 hc hp=>by
      have:=hp _ _ h1;simp only[hf]at this⊢;omega)
     refine Qt ?_;simp only[go_sem,l0,l1,l12,l13];refine⟨Qr (by omega) (by omega),?_⟩;show ∃m,_;exact⟨N-(b+1),by omega,b+1,ks2,rfl,by omega,hst,hrw.trans hkr,kn,rfl,rfl,rfl,rfl⟩
  ·intro hc;have hbe:b=N:=by have:N≤b:=(by simpa using hc);omega
   subst hbe;refine Qv ?_;simp only[go_sem,X.next,Qz,Q8,Qabw,Ja0];exact⟨fun _=>trivial,hK ks _ hS hkr kn⟩
end Go.AE.Y
