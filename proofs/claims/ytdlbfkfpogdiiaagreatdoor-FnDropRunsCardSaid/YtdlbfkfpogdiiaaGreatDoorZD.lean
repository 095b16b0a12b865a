/- Part 4 of the proof: the engine, codes, walks and plain laws, each named where it stands. -/
import Derived.Test.YtdlbfkfpogdiiaaGreatDoorZC
import Derived.Shelf.Sort.Plain
import Derived.Shelf.Sort.So_math_bits_LenIn
open Nat (reduceEqDiff reduceAdd reduceLeDiff reduceLT)
set_option linter.unusedVariables false
set_option linter.unusedSimpArgs false
set_option maxRecDepth 4000
set_option maxHeartbeats 4000000
open Bool renaming and_eq_true->Jq,false_eq_true->Jao,eq_iff_iff->Ja4,true_and->Ja9
open List renaming mem_singleton->Ja,mem_append_left->Jb,take_of_length_le->Jc,take_succ_eq_append_getElem->Jd,mem_append_right->Je,getElem_mem->Jf,mem_append->Jg,mem_map->Jh,getD_eq_getElem?_getD->Ji,append_assoc->Jj,mem_cons_of_mem->Jk,length_cons->Jl,mem_cons->Jn,length_take->Jo,length_nil->Jp,map_append->Jr,nodup_append->Js,not_mem_nil->Jt,getD_cons_zero->Ju,mem_cons_self->Jw,getD_cons_succ->Jx,perm_append_comm->Jy,length_append->Jz,getElem?_cons_zero->J0,map_cons->J1,length_map->J2,forall_mem_cons->J3,getElem?_eq_getElem->J4,all_eq_true->J5,take_append_drop->J6,all_cons->J9,any_eq_true->Jaa,all_nil->Jac,getElem?_cons_succ->Jae,nil_append->Jaf,getElem?_map->Jag,contains_iff_mem->Jai,getElem?_eq_none->Jaj,mem_flatMap->Jak,take_length->Jal,append_nil->Jam,map_id->Jan,flatMap_cons->Jaq,pairwise_map->Jar,cons_append->Jas,nodup_cons->Jau,flatMap_append->Jaw,getElem?_drop->Jax,getElem?_take->Jay,map_map->Ja0,map_nil->Ja1,flatMap_nil->Ja2,length_drop->Ja3,count_cons->Ja5,drop_zero->Ja7,take_take->Ja8,map_take->Jba
open List.Perm renaming append_left->Jah
open List.cons renaming injEq->Jad
open Nat renaming le_refl->Jm,zero_add->J7,eq_zero_or_pos->Jap,min_eq_left->Jav,add_zero->Jbb,sub_zero->Jbc
open Option renaming map_some->J8,getD_some->Jab,getD_none->Jat,map_none->Ja6
open Option.some renaming injEq->Jv
open Prod.mk renaming injEq->Jaz
namespace Go.AE
variable {H0 F H:Heap}{E E0 E' L L1 L2 M:List (Nat×Obj)}
theorem Kn.startE (h:∀p∈E,H p.1=p.2∧p.2≠.none)(hd:(E.map Prod.fst).Nodup):Kn H H E []:=
 ⟨by simpa using h,fun p hp=>by rw[(h p hp).1];exact (h p hp).2,by simp,hd,by simp,fun _ _ _=>rfl⟩
theorem Kn.mid (k:Kn H0 F E0 (L1++L2)):Kn F F L1 []:=
 .startE (fun p hp=>k.get p (Je _ (Jb _ hp))) (by
  have:=k.dL;rw[Jr]at this;exact (Js.1 this).1)
theorem Kn.comp (k1:Kn H0 F E0 (L1++L2))(k2:Kn F H E' M)(hE:E'.map Prod.fst=L1.map Prod.fst):Kn H0 H E0 ((E'++L2)++M):=by
 have hd:=k1.dL;rw[Jr]at hd;obtain⟨d1,d2,d3⟩:=Js.1 hd;have hE0:∀p∈E0,F p.1=p.2∧p.2≠.none:=fun p hp=>k1.get p (Jb _ hp);have hL2:∀p∈L2,F p.1=p.2∧p.2≠.none:=fun p hp=>k1.get p (Je _ (Je _ hp));have inL1:∀p∈E',∃q∈L1,q.1=p.1:=fun p hp=>by
  have:=Qbn hp;rw[hE]at this;obtain⟨q,h1,h2⟩:=Jh.1 this;exact⟨q,h1,h2⟩
 have keep:∀m,F m≠.none→m∉L1.map Prod.fst→H m=F m:=fun m h1 h2=>k2.chg m h1 (by rw[hE];exact h2);have hE0L:∀p∈E0,∀q∈L1,p.1≠q.1:=fun p hp q hq hh=>k1.ext p hp (hh▸k1.loc q (Jb _ hq));refine⟨fun p hp=>?_,k1.ext,fun p hp=>?_,k1.dE,?_,fun m hm hn=>?_⟩
 ·rcases Jg.1 hp with hp|hp
  ·obtain⟨h1,h2⟩:=hE0 p hp;refine⟨?_,h2⟩;rw[keep p.1 (by rw[h1];exact h2) (fun hh=>?_),h1];obtain⟨q,hq,hqq⟩:=Jh.1 hh;exact hE0L p hp q hq hqq.symm
  ·rcases Jg.1 hp with hp|hp
   ·rcases Jg.1 hp with hp|hp
    ·exact k2.get p (Jb _ hp)
    ·obtain⟨h1,h2⟩:=hL2 p hp;refine⟨?_,h2⟩;rw[keep p.1 (by rw[h1];exact h2) (fun hh=>?_),h1];exact d3 _ hh _ (Qbn hp) rfl
   ·exact k2.get p (Je _ hp)
 ·rcases Jg.1 hp with hp|hp
  ·rcases Jg.1 hp with hp|hp
   ·obtain⟨q,hq,hh⟩:=inL1 p hp;rw[←hh];exact k1.loc q (Jb _ hq)
   ·exact k1.loc p (Je _ hp)
  ·have h1:=k2.loc p hp
   cases h0:H0 p.1 with
   |none=>rfl
   |_=>
    by_cases hx:p.1∈E0.map Prod.fst
    ·obtain⟨q,hq,hh⟩:=Jh.1 hx;obtain⟨a1,a2⟩:=hE0 q hq;rw[hh,h1]at a1;exact absurd a1.symm a2
    ·have:=k1.chg p.1 (by rw[h0];simp) hx;rw[h1,h0]at this;simp at this
 ·rw[Jr,Jr];refine Js.2 ⟨Js.2 ⟨k2.dE,d2,fun a ha b hb=>?_⟩,k2.dL,fun a ha b hb hab=>?_⟩
  ·rw[hE]at ha;exact d3 a ha b hb
  ·obtain⟨q,hq,rfl⟩:=Jh.1 hb;have hf:=k2.loc q hq;rcases Jg.1 ha with ha|ha
   ·obtain⟨r,hr,rfl⟩:=Jh.1 ha;exact k2.ext r hr (hab▸hf)
   ·obtain⟨r,hr,rfl⟩:=Jh.1 ha;obtain⟨a1,a2⟩:=hL2 r hr;rw[hab,hf]at a1;exact a2 a1.symm
 ·rw[keep m (by rw[k1.chg m hm hn];exact hm) (fun hh=>?_),k1.chg m hm hn];obtain⟨q,hq,rfl⟩:=Jh.1 hh;exact hm (k1.loc q (Jb _ hq))
theorem Kn.upd (k:Kn H0 H E L):Upd H0 H E:=⟨fun p hp=>(k.get p (Jb _ hp)).1,fun m hm hn=>k.chg m hm hn⟩
theorem Y.FrzL.ptr {S:Nat→Bool}{l:Nat}{cells cells':List C}(hS:S l=true)(hH:H l=.st cells)(h:FrzL H S cells cells'):FrzC H S (.ptr l 0) (.pp cells'):=by
 obtain⟨h1,h2⟩:=h.spec;exact .ptr l 0 cells cells cells' hS hH rfl h1 h2
theorem Kn.growR {B Lg:List (Nat×Obj)}{K:V→Heap→Prop}{sz:Nat}{rows new:List (List C)}{b c:C}(kn:Kn H0 H E (B++Lg))(hc:Gr Lg sz rows c)(hb:Slc H sz new b)
  (h1:∀r∈new,noOw r=true) (h2:rows.length+new.length≤LIM)
  (h:∀t Lg' H',Gr Lg' sz (rows++new) t→t.isOw=false→Kn H0 H' E (B++Lg')→K (.c t) H'):appQ H sz c b K:=
 kn.grow hc hb h1 h2 fun y' H' k=>h _ _ H' (.mk y' sz _ (by simp)) rfl k
end Go.AE
namespace Go.AE
open Go.AE.Y
open Go.Proofs.Tryz
variable {H H0:Heap}{K:V→Heap→Prop}{E E' L:List (Nat×Obj)}
theorem Kn.callAll {H':Heap}(kn:Kn H0 H E L)(hu:Upd H H' E')(hn:E'.map Prod.fst=E.map Prod.fst)(hne:∀p∈E',p.2≠.none):Kn H0 H' E' L:=by
 refine kn.callg hu hn rfl (fun p hp=>?_) (fun m hm=>?_)
 ·rcases Jg.1 hp with h|h
  ·exact⟨hne p h,.inl h⟩
  ·refine⟨(kn.get p (Je _ h)).2,.inr ⟨Je _ h,fun hm=>?_⟩⟩;rw[hn]at hm;obtain⟨q,hq,hqp⟩:=Jh.1 hm;exact kn.ext q hq (by rw[hqp];exact kn.loc p h)
 ·exact .inl (by rw[←hn];exact Jh.2 ⟨m,hm,rfl⟩)
end Go.AE
namespace Go.AE.Y
open Go.Proofs.Tryz
variable {H H0:Heap}{K:V→Heap→Prop}{E E' L:List (Nat×Obj)}
mutual
def St.vis {α:Type}(step:α→St→Int→α):St→Int→α→α
 |.mk op name args body els,n,a=>Qb7 step els (n+1) (Qb7 step body (n+1) (step a (.mk op name args body els) n))
def Qb7 {α:Type}(step:α→St→Int→α):List St→Int→α→α
 |[],_,a=>a
 |x::r,n,a=>Qb7 step r n (x.vis step n a)
end
theorem St.vis_eq {α:Type}(step:α→St→Int→α)(x:St)(n:Int)(a:α):x.vis step n a=Qb7 step x.els (n+1) (Qb7 step x.body (n+1) (step a x n)):=by
 cases x;simp only[St.vis,St.body,St.els]
theorem Qa5e {α:Type}(step:α→St→Int→α)(l r:List St)(n:Int)(a:α):Qb7 step (l++r) n a=Qb7 step r n (Qb7 step l n a):=by
 induction l generalizing a with
 |nil=>simp[Qb7]
 |cons x l ih=>simp only[Jas,Qb7,ih]
theorem Qazq {α:Type}(step:α→St→Int→α){l:List St}{i:Nat}(h:i<l.length)(n:Int)(a:α):Qb7 step (l.take (i+1)) n a=(l[i]).vis step n (Qb7 step (l.take i) n a):=by
 rw[Jd h,Qa5e];simp[Qb7]
structure VisOk {α:Type}(ob:α→List (Nat×Obj))(step:α→St→Int→α)(ok:α→Prop)(mu:α→Nat)(f:Nat)(caps:List C):Prop where
 nm:∀a b,(ob a).map Prod.fst=(ob b).map Prod.fst
 nd:∀a,((ob a).map Prod.fst).Nodup
 ne:∀a,∀p∈ob a,p.2≠.none
 st:∀a s n,ok a→ok (step a s n)
 ms:∀a s n,mu (step a s n)≤mu a+s.size-(Qi s.body+Qi s.els)
 c:∀(a:α) (s:St) (n:Int) (H:Heap) (K:V→Heap→Prop),ok a→mu a≤2^41→0≤n→(n≤2^41)→s.size≤2^40→(∀p∈ob a,H p.1=p.2)→(∀H',Upd H H' (ob (step a s n))→K (.tup []) H')→Ql prog f ([.ag s.cells,.c (.int .i64 n)]++caps.map .c) H K
mutual
theorem St.vis_ok {α:Type}{step:α→St→Int→α}{ok:α→Prop}(hs:∀a s n,ok a→ok (step a s n)):∀(x:St) (n:Int) (a:α),ok a→ok (x.vis step n a)
 |.mk op name args body els,n,a,h=>by
  simp only[St.vis];exact Qyb hs els _ _ (Qyb hs body _ _ (hs _ _ _ h))
theorem Qyb {α:Type}{step:α→St→Int→α}{ok:α→Prop}(hs:∀a s n,ok a→ok (step a s n)):∀(l:List St) (n:Int) (a:α),ok a→ok (Qb7 step l n a)
 |[],_,a,h=>by simpa[Qb7]using h
 |x::r,n,a,h=>by
  simp only[Qb7];exact Qyb hs r _ _ (St.vis_ok hs x _ _ h)
end
mutual
theorem St.vis_mu {α:Type}{step:α→St→Int→α}{mu:α→Nat}(hs:∀a s n,mu (step a s n)≤mu a+s.size-(Qi s.body+Qi s.els)):∀(x:St) (n:Int) (a:α),mu (x.vis step n a)≤mu a+x.size
 |.mk op name args body els,n,a=>by
  simp only[St.vis];have h1:=hs a (.mk op name args body els) n;have h2:=Qya hs body (n+1) (step a (.mk op name args body els) n);have h3:=Qya hs els (n+1) (Qb7 step body (n+1) (step a (.mk op name args body els) n));have h4:=St.size_eq (.mk op name args body els);simp only[St.body,St.els,St.args]at h1 h4;omega
theorem Qya {α:Type}{step:α→St→Int→α}{mu:α→Nat}(hs:∀a s n,mu (step a s n)≤mu a+s.size-(Qi s.body+Qi s.els)):∀(l:List St) (n:Int) (a:α),mu (Qb7 step l n a)≤mu a+Qi l
 |[],_,a=>by simp[Qb7,Qi]
 |x::r,n,a=>by
  simp only[Qb7,Qi];have h1:=St.vis_mu hs x n a;have h2:=Qya hs r n (x.vis step n a);omega
end
theorem Qa6s {α:Type}{ob:α→List (Nat×Obj)}{step:α→St→Int→α}{ok:α→Prop}{mu:α→Nat}{f:Nat}{caps:List C}(hv:VisOk ob step ok mu f caps) :
  ∀(n:Nat) (l:List St) (nest:Int) (fl:Bool) (a:α) (H:Heap) (K:V→Heap→Prop),Qi l≤n→Qi l≤2^40→0≤nest→nest+n≤2^41→ok a→mu a+n≤2^41→(∀p∈ob a,H p.1=p.2)→(∀H',Upd H H' (ob (Qb7 step l nest a))→K (.tup []) H')→
   Ql prog Qe2 [.c (.sl fl 5 (Qk l)),.c (.int .i64 nest),.c (.fn f caps)] H K:=by
 intro n
 induction n using Nat.strongRecOn with
 |_ n ih=>
 intro l nest fl a H K hn hb h0 hm ha hmu hh hK;refine Q5 ?_;refine Qc Qal Qam1 ?_;refine Qa ?_;simp only[go_sem,Qx];intro hl;simp only[LIM]at hl;have hne:=hv.ne a;have kn:Kn H H (ob a) []:=.startE (fun p hp=>⟨hh p hp,hne p hp⟩) (hv.nd a);refine Qd (Qab (fun m e1 H1=>∃(i:Nat),m=l.length-i∧i≤l.length∧Kn H H1 (ob (Qb7 step (l.take i) nest a)) []∧
  e1=[(1,.c (.int .i64 nest)),(2,.c (.fn f caps)),(8,.c (.sl fl 5 (Qk l))),(9,.c (.int .i64 l.length)),(10,.c (.int .i64 i))]) l.length ?_ ?_)
 ·exact⟨0,by omega,by omega,by simpa[Qb7]using kn,rfl⟩
 ·clear kn;rintro m e1 H1 ⟨i,hm1,hi,kn,rfl⟩;obtain⟨a1,ha1⟩:∃a1,Qb7 step (l.take i) nest a=a1:=⟨_,rfl⟩;have hok1:ok a1:=by rw[←ha1];exact Qyb hv.st _ _ _ ha
  have hmu1:=Qya hv.ms (l.take i) nest a;have hsl:=Qbl l i;rw[ha1]at kn hmu1;refine Qa ?_;simp only[go_sem];refine Qf (Qb rfl ?_ ?_)
  ·intro hc;have hlt:i<l.length:=by simpa using hc
   have hms:=Qa3 (Jf hlt);have hst:=Qi0 hlt;have hsl2:=Qbl l (i+1);obtain⟨x,hx⟩:∃x,l[i]=x:=⟨_,rfl⟩;rw[hx]at hms hst;have hse:=x.size_eq;have htk:=Qazq step hlt nest a;rw[ha1,hx]at htk;refine Qe ?_;try simp only[go_sem]
   refine Qf (Qd ?_);refine Qa ?_;simp only[go_sem,hlt,Qx,Qbe _ _ hlt,hx,x.cells_eq];intro x7 hx7 H3 h3;have kn:=kn.al hx7 h3;have g7:=kn.l 0 rfl;simp only[go_sem,Qrc,g7];intro H4 h4;have kn:Kn H H4 (ob a1) [(x7,.st [.int .i64 x.op,.str x.name,.sl false 4 (Qt x.args),.sl false 5 (Qk x.body),.sl false 5 (Qk x.els)])]:=kn.stL 0 rfl h4;clear g7;have g7:=kn.l 0 rfl;refine Qa ?_;simp only[go_sem,g7];have hvc:=hv.c a1 x nest;rw[x.cells_eq]at hvc;refine hvc _ _ hok1 (by omega) h0 (by omega) (by omega) (fun p hp=>(kn.get p (Jb _ hp)).1) fun H5 hu=>?_;have kn:=kn.callAll hu (hv.nm _ _) (hv.ne _);have g7:=kn.l 0 rfl;have hok2:=hv.st a1 x nest hok1;have hmu2:=hv.ms a1 x nest;have hmu3:=Qya hv.ms x.body (nest+1) (step a1 x nest);simp only[go_sem];refine Qa ?_;simp only[go_sem,g7];refine⟨Q1 (by omega) (by omega),?_⟩;refine ih (Qi x.body) (by omega) x.body (nest+1) _ _ _ _ (Jm _) (by omega) (by omega) (by omega) hok2 (by omega) (fun p hp=>(kn.get p (Jb _ hp)).1) fun H6 hu=>?_;have kn:=kn.callAll hu (hv.nm _ _) (hv.ne _);have g7:=kn.l 0 rfl;have hok3:=Qyb hv.st x.body (nest+1) _ hok2;simp only[go_sem];refine Qq ?_;simp only[go_sem,g7];refine⟨Q1 (by omega) (by omega),?_⟩;refine ih (Qi x.els) (by omega) x.els (nest+1) _ _ _ _ (Jm _) (by omega) (by omega) (by omega) hok3 (by omega) (fun p hp=>(kn.get p (Jb _ hp)).1) fun H7 hu=>?_;have kn:=Kn.drop (A:=[]) (kn.callAll hu (hv.nm _ _) (hv.ne _));simp only[go_sem];refine Qq ?_;simp only[go_sem,X.next];refine⟨Q1 (by omega) (by omega),l.length-(i+1),by omega,i+1,rfl,by omega,?_,rfl⟩;rw[htk,x.vis_eq];exact kn
  ·intro hc;have hge:l.length≤i:=by simpa using hc
   rw[Jc hge]at ha1;refine Q9 ?_;simp only[go_sem,X.next,Qp,Q8,Qasa];refine⟨.tup [],.tup _ _ rfl fun j x x' h=>by simp at h,hK _ ?_⟩;rw[ha1];exact kn.fin
end Go.AE.Y
namespace Go.AE.Y
attribute [local go_sem] cond_true cond_false Bool.not_true Bool.not_false
open Go.Proofs.Tryz
variable {H H0:Heap}{K:V→Heap→Prop}{E E' L:List (Nat×Obj)}
def Qad3 (p:Int×Int)(s:St)(n:Int):Int×Int:=(p.1+1,if n > p.2 then n else p.2)
mutual
theorem St.ms_fst:∀(x:St) (n:Int) (p:Int×Int),(x.vis Qad3 n p).1=p.1+x.cnt
 |.mk op name args body els,n,p=>by
  simp only[St.vis,St.cnt];rw[Q51 els,Q51 body,Qad3];simp only[];omega
theorem Q51:∀(l:List St) (n:Int) (p:Int×Int),(Qb7 Qad3 l n p).1=p.1+Qcm l
 |[],_,p=>by simp[Qb7,Qcm]
 |x::r,n,p=>by
  simp only[Qb7,Qcm];rw[Q51 r,St.ms_fst x];omega
end
def msOb (x2 x3:Nat)(p:Int×Int):List (Nat×Obj):=[(x2,.st [.int .i64 p.1]),(x3,.st [.int .i64 p.2])]
theorem Qbjp {x2 x3:Nat}(hne:x2≠x3):VisOk (msOb x2 x3) Qad3 (fun p=>0≤p.1) (fun p=>p.1.toNat) Qi3 [.ptr x2 0,.ptr x3 0]:=by
 refine⟨fun _ _=>rfl,fun _=>by simp[msOb,hne],fun a p hp=>?_,fun a s n h=>?_,fun a s n=>?_,fun a s n H K ha hmu h0 hn hs hh hK=>?_⟩
 ·simp only[msOb,Jn,Jt,or_false]at hp;rcases hp with rfl|rfl <;> nofun
 ·show 0≤a.1+1;omega
 ·show (a.1+1).toNat≤_;have:=s.size_eq;omega
 ·have h2:H x2=.st [.int .i64 a.1]:=hh (x2,_) (by simp[msOb]);have h3:H x3=.st [.int .i64 a.2]:=hh (x3,_) (by simp[msOb]);refine Qc Qal Qadu ?_;have kn:=Kn.start2 h2 (by nofun) h3 (by nofun) hne;refine Qa ?_;simp only[go_sem,s.cells_eq];refine Qa ?_;simp only[go_sem,h2];refine⟨Q1 (by omega) (by omega),fun H1 h1=>?_⟩;have kn:=kn.stE 0 rfl h1;have g3:=kn.e 1 rfl;refine Qq ?_;simp only[go_sem,g3];intro H2 hh2;have kn:=kn.stE 1 rfl hh2;simp only[Qp,Q8,Qasa,go_sem];exact hK _ ⟨fun p hp=>(kn.get p (Jb _ hp)).1,fun m h1 h2=>kn.chg m h1 h2⟩
end Go.AE.Y
namespace Go.AE
open Go.AE.Y
open Go.Proofs.Tryz
variable {H H0:Heap}{K:V→Heap→Prop}{E E' L:List (Nat×Obj)}
theorem Kn.callLs {H':Heap}{L' M:List (Nat×Obj)}(kn:Kn H0 H E (L++M))(hu:Upd H H' L')(hn:L'.map Prod.fst=L.map Prod.fst)(hne:∀p∈L',p.2≠.none):Kn H0 H' E (L'++M):=by
 have hloc:∀m,m∈L'.map Prod.fst→H0 m=.none:=fun m h=>by
  rw[hn]at h;obtain⟨q,hq,rfl⟩:=Jh.1 h;exact kn.loc q (Jb _ hq)
 refine kn.callg hu rfl (by rw[Jr,Jr,hn]) (fun p hp=>?_) (fun m hm=>.inr (by rw[Jr,←hn];exact Jb _ (Jh.2 ⟨m,hm,rfl⟩)));rcases Jg.1 hp with h|h
 ·exact⟨(kn.get p (Jb _ h)).2,.inr ⟨Jb _ h,fun hm=>kn.ext p h (hloc _ hm)⟩⟩
 rcases Jg.1 h with h|h
 ·exact⟨hne p h,.inl h⟩
 ·refine⟨(kn.get p (Je _ (Je _ h))).2,.inr ⟨Je _ (Je _ h),fun hm=>?_⟩⟩;rw[hn]at hm;have hd:=kn.dL;rw[Jr,Js]at hd;exact hd.2.2 _ hm _ (Jh.2 ⟨p,h,rfl⟩) rfl
end Go.AE
namespace Go.AE.Y
open Go.Proofs.Tryz
variable {H H0:Heap}{K:V→Heap→Prop}{E E' L:List (Nat×Obj)}
theorem Qben {S:Nat→Bool}(n d:Int):FrzV H S (.tup [.c (.int .i64 n),.c (.int .i64 d)]) (.tup [.c (.int .i64 n),.c (.int .i64 d)]):=by
 refine .tup _ _ rfl fun j x x' h1 h2=>?_
 match j with
 |0=>simp at h1 h2;subst h1;subst h2;exact .c _ _ (Qg rfl)
 |1=>simp at h1 h2;subst h1;subst h2;exact .c _ _ (Qg rfl)
end Go.AE.Y
namespace Go.AE
open Go.AE.Y
open Go.Proofs.Tryz
variable {H H0:Heap}{K:V→Heap→Prop}{E E' L:List (Nat×Obj)}
theorem Kn.lm2 {x:Nat×Obj}(kn:Kn H0 H E L)(h:x∈L):H x.1=x.2:=(kn.get x (Je _ h)).1
end Go.AE
namespace Go.AE.Y
open Go.Proofs.Tryz
variable {H H0:Heap}{K:V→Heap→Prop}{E E' L:List (Nat×Obj)}
theorem Qa7x {l:List Fn}{fl:Bool}(hf:Qs l≤2^40)(hK:∀(d:Int) H',Upd H H' []→K (.tup [.c (.int .i64 (Qdb l)),.c (.int .i64 d)]) H'):Ql prog Qp8 [.ag [.sl fl 3 (Qy l)]] H K:=by
 refine Q5 ?_;refine Qc Qal Qarf ?_;refine Qa ?_;simp only[go_sem];intro x2 hx2 H1 h1;have kn:=(Kn.start0 H).al hx2 h1;simp only[go_sem,Qvv];intro x3 hx3 H2 h2;have kn:=kn.al hx3 h2;have hne:x2≠x3:=kn.neL 0 1 rfl rfl (by omega);have kn:Kn H H2 [] (msOb x2 x3 (0,0)):=kn;refine Q6 ?_;refine Qa ?_;simp only[go_sem,Qw];intro hl;simp only[LIM]at hl;refine Qf (Qd (Qab (fun m e1 H1=>∃(i:Nat) (d:Int),m=l.length-i∧i≤l.length∧Kn H H1 [] (msOb x2 x3 ((Qdb (l.take i):Int),d))∧
  e1=[(2,.c (.ptr x2 0)),(3,.c (.ptr x3 0)),(7,.c (.sl fl 3 (Qy l))),(8,.c (.int .i64 l.length)),(9,.c (.int .i64 i))]) l.length ?_ ?_))
 ·exact⟨0,0,by omega,by omega,kn,rfl⟩
 ·clear kn;rintro m e1 H3 ⟨i,d,hm,hi,kn,rfl⟩;refine Qa ?_;simp only[go_sem];refine Qf (Qb rfl ?_ ?_)
  ·intro hc;have hlt:i<l.length:=by simpa using hc
   have hm:=Qa5 (Jf hlt);have htk:=Q6b hlt;have hpt:=Q4r hlt;have htl:=Qi6 l (i+1);have hct:=Qaz0 (l.take i);refine Qe ?_;try simp only[go_sem]
   refine Qf (Qd ?_);refine Qa ?_;simp only[go_sem,hlt,Qw,Qaf _ _ hlt,Fn.cells];intro x5 hx5 H4 h4;have kn:=kn.al hx5 h4;have g5:=kn.l 2 rfl;simp only[go_sem,Qvw,g5];intro H5 h5;have kn:Kn H H5 [] (msOb x2 x3 ((Qdb (l.take i):Int),d)++[(x5,_)]):=kn.stL 2 rfl h5;have g5:=kn.l 2 rfl;refine Qq ?_;simp only[go_sem,g5];refine Qa6s (Qbjp hne) (Qi l[i].body) l[i].body 1 _ ((Qdb (l.take i):Int),d) _ _ (Jm _) (by omega) (by omega) (by omega) (by show (0:Int)≤_;omega) (by show (Qdb (l.take i):Int).toNat+_≤_;omega) (fun p hp=>kn.lm2 (Jb _ hp)) fun H6 hu=>?_;have kn:=Kn.drop (A:=msOb x2 x3 (Qb7 Qad3 l[i].body 1 ((Qdb (l.take i):Int),d))) (kn.callLs hu rfl ((Qbjp hne).ne _));have hfs:=Q51 l[i].body 1 ((Qdb (l.take i):Int),d);simp only[go_sem];refine Qq ?_;simp only[go_sem,AE.X.next];refine⟨Q1 (by omega) (by omega),l.length-(i+1),by omega,i+1,(Qb7 Qad3 l[i].body 1 ((Qdb (l.take i):Int),d)).2,rfl,by omega,?_,rfl⟩;have e:((Qdb (l.take (i+1)):Int))=(Qb7 Qad3 l[i].body 1 ((Qdb (l.take i):Int),d)).1:=by rw[hfs,htk];simp
   rw[e];exact kn
  ·intro hc;have hge:l.length≤i:=by simpa using hc
   rw[Jc hge]at kn;have g2:=kn.l 0 rfl;have g3:=kn.l 1 rfl;refine Q9 ?_;simp only[go_sem,AE.X.next];refine Qa1 ?_;simp only[go_sem,g2,g3];intro H4 h4;have kn:=kn.stL 0 rfl h4;have g3:=kn.l 1 rfl;simp only[go_sem,Qvx,g3];intro H5 h5;have kn:=kn.stL 1 rfl h5;have g2:=kn.l 0 rfl;have g3:=kn.l 1 rfl;refine Qh ?_;simp only[go_sem,Qp,Q8,Q9l,J3,Jt,RS.op,g2,g3];exact⟨fun _=>trivial,_,Qben _ _,hK d _ kn.fin⟩
end Go.AE.Y
namespace Go.AE.Y
attribute [local go_sem] cond_true cond_false Bool.not_true Bool.not_false
open Go.Proofs.Tryz
variable {H H0:Heap}{K:V→Heap→Prop}{E E' L:List (Nat×Obj)}
theorem Qajj {fl:Bool}{l:List (List UInt8)}{f:Nat}{caps:List C}{p:List UInt8→Bool}
  (hf:∀(x:List UInt8) (H1:Heap) (K':V→Heap→Prop),x∈l→Kn H H1 [] []→(∀H2,Upd H1 H2 []→K' (.c (.bool (p x))) H2)→Ql prog f ([.c (.str x)]++caps.map .c) H1 K')
  (hK:∀(r:Int) (H':Heap),Upd H H' []→decide (0≤r)=l.any p→K (.c (.int .i64 r)) H') :
  Ql prog Qdc [.c (.sl fl 1 (Q0 l)),.c (.fn f caps)] H K:=by
 refine Q5 ?_;refine Qc Qal Qum ?_;refine Qa ?_;simp only[go_sem];refine Q6 ?_;refine Qa ?_;simp only[go_sem,Qo];intro hl;simp only[LIM]at hl;refine Qf (Qd (Qab (fun m e1 H1=>∃(i:Nat),m=l.length-i∧i≤l.length∧Kn H H1 [] []∧(∀x∈l.take i,p x=false)∧e1=[(0,.c (.sl fl 1 (Q0 l))),(1,.c (.fn f caps)),(7,.c (.int .i64 l.length)),(8,.c (.int .i64 i))]) l.length ?_ ?_))
 ·exact⟨0,by omega,by omega,Kn.start0 H,by simp,rfl⟩
 ·rintro m e1 H1 ⟨i,hm,hi,kn,hall,rfl⟩;refine Qa ?_;simp only[go_sem];refine Qf (Qb rfl ?_ ?_)
  ·intro hc;have hlt:i<l.length:=by simpa using hc
   have hgd:l.getD i []=l[i]:=by simp[Ji,hlt]
   refine Qe ?_;simp only[go_sem];refine Qf (Qd ?_);refine Qa ?_;simp only[go_sem];refine Qa ?_;simp only[go_sem,hlt,Qo,Qbo _ _ hlt,hgd];refine hf _ _ _ (Jf hlt) kn fun H2 hu=>?_;have kn:=kn.call0 hu;refine Qb rfl ?_ ?_
   ·intro hc2;refine Qa ?_;simp only[go_sem];refine Qh ?_;simp only[go_sem,X.next,Qp,Q8,Qm4,Ja,forall_eq,RS.op];refine⟨_,.c _ _ (Qg rfl),hK _ _ kn.fin ?_⟩;have:l.any p=true:=Jaa.2 ⟨_,Jf hlt,hc2⟩;rw[this];simp
   ·intro hc2;refine Qe ?_;simp only[go_sem];refine Qq ?_;simp only[go_sem,X.next];refine⟨Q1 (by omega) (by omega),l.length-(i+1),by omega,i+1,rfl,by omega,kn,?_,rfl⟩;rw[Jd hlt];intro x hx;rcases Jg.1 hx with hx|hx
    ·exact hall x hx
    ·simp only[Ja]at hx;subst hx;exact hc2
  ·intro hc;have hge:l.length≤i:=by simpa using hc
   rw[Jc hge]at hall;refine Q9 ?_;simp only[go_sem,X.next];refine Qa ?_;simp only[go_sem];refine Qh ?_;simp only[go_sem,Qp,Q8,Qm4,Ja,forall_eq,RS.op];refine⟨_,.c _ _ (Qg rfl),hK _ _ kn.fin ?_⟩;have:l.any p=false:=by
    cases hc:l.any p with
    |false=>rfl
    |true=>obtain⟨x,hx,hp⟩:=Jaa.1 hc;rw[hall x hx]at hp;exact absurd hp (by simp)
   rw[this];rfl
theorem Q54 {fl:Bool}{l:List (List UInt8)}{f:Nat}{caps:List C}{p:List UInt8→Bool}
  (hf:∀(x:List UInt8) (H1:Heap) (K':V→Heap→Prop),x∈l→Kn H H1 [] []→(∀H2,Upd H1 H2 []→K' (.c (.bool (p x))) H2)→Ql prog f ([.c (.str x)]++caps.map .c) H1 K')
  (hK:∀(H':Heap),Upd H H' []→K (.c (.bool (l.any p))) H') :
  Ql prog Qck [.c (.sl fl 1 (Q0 l)),.c (.fn f caps)] H K:=by
 refine Qc Qal Qo1 ?_;refine Qa ?_;simp only[go_sem];refine Qa ?_;simp only[go_sem];refine Qajj hf fun r H' hu hr=>?_;simp only[go_sem,Qd5];refine Qh ?_;simp only[go_sem,Qp,Q8,Qm4,Ja,forall_eq,RS.op];rw[hr];exact hK _ hu
theorem Qbku {s:List UInt8}(g:GK H)(hK:∀H',Upd H H' []→K (.c (.bool (!Qc8 s))) H'):Ql prog Qdp [.c (.str s)] H K:=by
 refine Qc Qal Qys ?_;refine Qa ?_;simp only[go_sem];refine Qa ?_;simp only[go_sem];refine Qo0 g fun H1 hu=>?_;simp only[go_sem,Qgf];refine Qh ?_;simp only[go_sem,Qp,Q8,Qcu,Ja,forall_eq,RS.op];exact hK _ hu
theorem Qaas {l:List Fn}{fl:Bool}(hf:Qs l≤2^40)(g:GK H)(hK:∀H',Upd H H' []→K (.c (.bool (Qlj l))) H'):Ql prog Qfq [.ag [.sl fl 3 (Qy l)]] H K:=by
 refine Q5 ?_;have g0:=g;refine Qc Qal Q6m ?_;have retf:∀(b:Bool) (e:Env) (H':Heap) (L:List (Nat×Obj)),Qlj l=b→Kn H H' [] L→lk 2 e=.c (.bool b)→Qp Qcu (unK H K) .ret e H':=by
  intro b e H' L hf kn h4;simp only[go_sem,Qp,Q8,Qcu,Ja,forall_eq,RS.op,h4];refine⟨_,.c _ _ (Qg rfl),?_⟩;rw[←hf];exact hK _ kn.fin
 have kn:=Kn.start0 H;refine Qa ?_;simp only[go_sem];refine Q6 ?_;refine Qa ?_;simp only[go_sem,Qw];intro hl;simp only[LIM]at hl;refine Qyl ?_;simp only[go_sem,Qjw];have hw:(decide ((1:Int)≤(l.length:Int))&&decide ((l.length:Int)≤4))=decide (1≤l.length∧l.length≤4):=by rw[Ja4];simp;omega
 rw[hw];refine Qf (Qb rfl ?_ ?_)
 ·intro hc;have hc:=Qyw hc;refine Qa ?_;simp only[go_sem];refine Qh ?_;simp only[go_sem,AE.X.next];exact retf false _ _ _ (by rw[Qlj,hc];rfl) kn (by simp[lk])
 intro hc;have hlen:=Qmu hc;refine Qe ?_;try simp only[go_sem]
 refine Q6 ?_;refine Qa ?_;simp only[go_sem,Qw];intro _;refine Qf (Qd (Qab (fun m e1 H1=>∃(i:Nat),m=l.length-i∧i≤l.length∧Kn H H1 [] []∧((l.take i).all Fn.form)=true∧
  e1=[(1,.c (.pp [.sl fl 3 (Qy l)])),(13,.c (.sl fl 3 (Qy l))),(14,.c (.int .i64 l.length)),(15,.c (.int .i64 i))]) l.length ?_ ?_))
 ·exact⟨0,by omega,by omega,kn,rfl,rfl⟩
 ·clear kn g;rintro m e1 H2 ⟨i,hm,hi,kn,hall,rfl⟩;have g:=g0.kn kn;refine Qa ?_;simp only[go_sem];refine Qf (Qb rfl ?_ ?_)
  ·intro hc;have hlt:i<l.length:=by simpa using hc
   have hms:=Qa5 (Jf hlt);obtain⟨f,hfe⟩:∃f,l[i]=f:=⟨_,rfl⟩;rw[hfe]at hms;refine Qe ?_;try simp only[go_sem]
   refine Qf (Qd ?_);refine Qa ?_;simp only[go_sem,hlt,Qw,Qaf _ _ hlt,hfe,Fn.cells];intro x4 hx4 H4 h4;have kn:=kn.al hx4 h4;have g4:=kn.l 0 rfl;simp only[go_sem,Qjx,g4];intro H5 h5;have kn:=kn.stL 0 rfl h5;have g:=g0.kn kn;have g4:=kn.l 0 rfl;have nx:∀(b:Bool) (H6:Heap) (L:List (Nat×Obj)),b = !f.form→Kn H H6 [] L→Q3 prog Qls (X.inBlock 1 (X.sq prog Qlt (X.next (fun e2 H2=>∃m_1,m_1<m∧∃i,m_1=l.length-i∧i≤l.length∧Kn H H2 [] []∧((l.take i).all Fn.form)=true∧
     e2=[(1,.c (.pp [.sl fl 3 (Qy l)])),(13,.c (.sl fl 3 (Qy l))),(14,.c (.int .i64 l.length)),(15,.c (.int .i64 i))]) (X.inBlock 0 (X.sq prog Qjv (Qp Qcu (unK H K)))))))
     [(1,.c (.pp [.sl fl 3 (Qy l)])),(13,.c (.sl fl 3 (Qy l))),(14,.c (.int .i64 l.length)),(15,.c (.int .i64 i)),(39,.c (.bool b))] H6:=by
    intro b H6 L hb kn;refine Qb rfl (fun hc2=>?_) (fun hc2=>?_)
    ·rw[hc2]at hb;refine Qa ?_;simp only[go_sem];refine Qh ?_;simp only[go_sem,AE.X.next];refine retf false _ _ _ ?_ kn (by simp[lk]);rw[Qlj,Qoa hlt (by rw[hfe];exact Qyw hb.symm)];simp
    ·rw[hc2]at hb;refine Qe ?_;try simp only[go_sem]
     refine Qq ?_;simp only[go_sem,AE.X.next];exact⟨Q1 (by omega) (by omega),l.length-(i+1),by omega,i+1,rfl,by omega,Kn.drop (A:=[]) kn,by rw[Qhu hlt,hall,hfe,Qmu hb.symm];rfl,rfl⟩
   refine Qa ?_;simp only[go_sem,g4];refine Qo0 g fun H6 hu=>?_;have kn:=kn.call0 hu;have g:=g0.kn kn;have g4:=kn.l 0 rfl
   cases h1:Qc8 f.name with
   |false=>
    simp only[go_sem,Qcn,Qbs,Qbr,g4,Qo];exact nx true _ _ (by rw[Fn.form,h1];simp) kn
   |true=>
    by_cases h2:3<f.params.length
    ·have hd2:decide ((3:Int)<(f.params.length:Int))=true:=decide_eq_true (by omega);simp only[go_sem,Qcn,Qbs,Qbr,g4,hd2,Qo];try intro _
     exact nx true _ _ (by rw[Fn.form,decide_eq_false (by omega:¬f.params.length≤3)];simp) kn
    ·have hd2:decide ((3:Int)<(f.params.length:Int))=false:=decide_eq_false (by omega);simp only[go_sem,Qcn,g4,hd2,Qo];try intro _
     refine Q54 (p:=fun s=>!Qc8 s) (fun s H7 K' hs kn2 hK'=>Qbku (g.kn kn2) hK') fun H7 hu=>?_;have kn:=kn.call0 hu;have g:=g0.kn kn;have g4:=kn.l 0 rfl;have ea:(f.params.any fun s=>!Qc8 s) = !f.params.all Qc8:=(by rw[List.all_eq_not_any_not];simp);rw[ea]
     cases h3:f.params.all Qc8 with
     |false=>
      simp only[go_sem,Qbs,Qbr,g4];exact nx true _ _ (by rw[Fn.form,h3];rfl) kn
     |true=>
      simp only[go_sem,Qbs,g4];refine Qbip (Qi f.body) f.body 1 _ _ _ (Jm _) (by omega) (by omega) (by omega) g fun H8 hu=>?_;have kn:=kn.call0 hu;simp only[go_sem,Qbr];refine nx _ _ _ ?_ kn;rw[Fn.form,h1,h3,decide_eq_true (by omega:f.params.length≤3)];rfl
  ·intro hc;have hge:l.length≤i:=by simpa using hc
   rw[Jc hge]at hall;refine Q9 ?_;simp only[go_sem,AE.X.next];refine Qa ?_;simp only[go_sem];refine Qa7x hf fun d H3 hu=>?_;have kn:=kn.call0 hu;simp only[go_sem,Qh9,Ju,Jx];refine Qa ?_;simp only[go_sem];refine Qh ?_;refine retf _ _ _ _ ?_ kn rfl;rw[Qlj,hlen,hall,Ja9,Ja9,decide_eq_decide];omega
structure ExVis {α:Type}(ob:α→List (Nat×Obj))(step:α→Ex→α)(ok:α→Prop)(f:Nat)(caps:List C):Prop where
 nm:∀a b,(ob a).map Prod.fst=(ob b).map Prod.fst
 nd:∀a,((ob a).map Prod.fst).Nodup
 ne:∀a,∀p∈ob a,p.2≠.none
 st:∀a s,ok a→ok (step a s)
 c:∀(a:α) (s:Ex) (H:Heap) (K:V→Heap→Prop),ok a→s.size≤2^40→(∀p∈ob a,H p.1=p.2)→(∀H',Upd H H' (ob (step a s))→K (.tup []) H')→Ql prog f ([.ag s.cells]++caps.map .c) H K
theorem Qaz9 {α:Type}{step:α→Ex→α}{ok:α→Prop}(hs:∀a s,ok a→ok (step a s)):∀(l:List Ex) (a:α),ok a→ok (l.foldl step a)
 |[],_,h=>h
 |x::r,a,h=>Qaz9 hs r _ (hs _ _ h)
theorem Qhd {l:List Ex}{i:Nat}(h:i<l.length):Qac (l.take (i+1))=Qac (l.take i)++(l[i]).pre:=by
 rw[Jd h,Qa19];simp[Qac]
theorem Qa6p {α:Type}{ob:α→List (Nat×Obj)}{step:α→Ex→α}{ok:α→Prop}{f:Nat}{caps:List C}(hv:ExVis ob step ok f caps) :
  ∀(n:Nat) (x:Ex) (a:α) (H:Heap) (K:V→Heap→Prop),x.size≤n→x.size≤2^40→ok a→(∀p∈ob a,H p.1=p.2)→(∀H',Upd H H' (ob (x.pre.foldl step a))→K (.tup []) H')→
   Ql prog Qhf [.ag x.cells,.c (.fn f caps)] H K:=by
 intro n
 induction n with
 |zero=>intro x a H K h;have:=x.size_pos;omega
 |succ n ih=>
 intro x a H K hn hb ha hh hK;have hsz:=x.size_kids;refine Q5 ?_;refine Qc Qal Qam0 ?_;refine Qa ?_;simp only[go_sem,x.cells_eq];refine Qa ?_;simp only[go_sem];have kn:Kn H H (ob a) []:=.startE (fun p hp=>⟨hh p hp,hv.ne a p hp⟩) (hv.nd a);have hvc:=hv.c a x;rw[x.cells_eq]at hvc;refine hvc _ _ ha hb hh fun H1 hu=>?_;have kn:=kn.callAll hu (hv.nm _ _) (hv.ne _);have hok1:=hv.st a x ha;simp only[go_sem];refine Qa ?_;simp only[go_sem,Qj];intro hl;simp only[LIM]at hl;refine Qd (Qab (fun m e1 H1=>∃(i:Nat),m=x.kids.length-i∧i≤x.kids.length∧Kn H H1 (ob ((Qac (x.kids.take i)).foldl step (step a x))) []∧
  e1=[(1,.c (.fn f caps)),(10,.c (.sl false 4 (Qt x.kids))),(11,.c (.int .i64 x.kids.length)),(12,.c (.int .i64 i))]) x.kids.length ?_ ?_)
 ·exact⟨0,by omega,by omega,by simpa[Qac]using kn,rfl⟩
 ·clear kn;rintro m e1 H2 ⟨i,hm1,hi,kn,rfl⟩;obtain⟨a1,ha1⟩:∃a1,(Qac (x.kids.take i)).foldl step (step a x)=a1:=⟨_,rfl⟩;have hok2:ok a1:=by rw[←ha1];exact Qaz9 hv.st _ _ hok1
  rw[ha1]at kn;refine Qa ?_;simp only[go_sem];refine Qf (Qb rfl ?_ ?_)
  ·intro hc;have hlt:i<x.kids.length:=by simpa using hc
   have hms:=Qau (Jf hlt);obtain⟨y,hy⟩:∃y,x.kids[i]=y:=⟨_,rfl⟩;have htk:=Qhd hlt;rw[hy]at hms htk;refine Qe ?_;try simp only[go_sem]
   refine Qf (Qd ?_);refine Qa ?_;simp only[go_sem,hlt,Qj,Qr _ _ hlt,hy,y.cells_eq];intro x5 hx5 H3 h3;have kn:=kn.al hx5 h3;have g5:=kn.l 0 rfl;simp only[go_sem,Qra,g5];intro H4 h4;have kn:=kn.stL 0 rfl h4;have g5:=kn.l 0 rfl;refine Qq ?_;simp only[go_sem,g5];have hih:=fun K=>ih y a1 H4 K;rw[y.cells_eq]at hih;refine hih _ (by omega) (by omega) hok2 (fun p hp=>(kn.get p (Jb _ hp)).1) fun H5 hu=>?_;have kn:=Kn.drop (A:=[]) (kn.callAll hu (hv.nm _ _) (hv.ne _));simp only[go_sem];refine Qq ?_;simp only[go_sem,AE.X.next];refine⟨Q1 (by omega) (by omega),x.kids.length-(i+1),by omega,i+1,rfl,by omega,?_,rfl⟩;rw[htk,List.foldl_append,ha1];exact kn
  ·intro hc;have hge:x.kids.length≤i:=by simpa using hc
   rw[Jc hge]at ha1;refine Q9 ?_;simp only[go_sem,AE.X.next,Qp,Q8,Qasa];refine⟨.tup [],.tup _ _ rfl fun j x x' h=>by simp at h,hK _ ?_⟩;rw[x.pre_eq,List.foldl_cons,ha1];exact kn.fin
theorem Qa6j {l:List Fn}{s:List UInt8}(h:∀f∈l,¬f.name=s):Qi1 l s=none:=by
 rw[Qi1,List.findIdx?_eq_none_iff];exact fun f hf=>by simpa using h f hf
theorem Qa6i {l:List Fn}{s:List UInt8}{i:Nat}(hi:i<l.length)(h:l[i].name=s)(hn:∀f∈l.take i,¬f.name=s):Qi1 l s=some i:=by
 rw[Qi1,List.findIdx?_eq_some_iff_getElem];refine⟨hi,by simpa using h,fun j hj=>?_⟩;have:=hn l[j] (by rw[List.mem_take_iff_getElem];exact⟨j,by omega,rfl⟩);simpa using this
theorem Qbfl {f:Fn}{s:List UInt8}(hK:K (.c (.bool (decide (f.name=s)))) H):Ql prog Qfp [.ag f.cells,.c (.pp [.str s])] H K:=by
 refine Qc Qal Qaq8 ?_;refine Qa ?_;simp only[go_sem,Fn.cells];refine Qa ?_;simp only[go_sem];refine Qh ?_;simp only[go_sem,Qp,Q8,Q9g,Ja,forall_eq,RS.op];exact hK
theorem Qan1 {fl:Bool}{l:List Fn}{s:List UInt8}(hK:K (.c (.int .i64 (ixI (Qi1 l s)))) H) :
  Ql prog Qfx [.c (.sl fl 3 (Qy l)),.c (.fn Qfp [.pp [.str s]])] H K:=by
 refine Qc Qal Q6x ?_;refine Qa ?_;simp only[go_sem];refine Q6 ?_;refine Qa ?_;simp only[go_sem,Qw];intro hl;simp only[LIM]at hl;refine Qf (Qd (Qab (fun m e1 H1=>∃(i:Nat),m=l.length-i∧i≤l.length∧H1=H∧(∀f∈l.take i,¬f.name=s)∧e1=[(0,.c (.sl fl 3 (Qy l))),(1,.c (.fn Qfp [.pp [.str s]])),(7,.c (.int .i64 l.length)),(8,.c (.int .i64 i))]) l.length ?_ ?_))
 ·exact⟨0,by omega,by omega,rfl,by simp,rfl⟩
 ·rintro m e1 H1 ⟨i,hm,hi,rfl,hall,rfl⟩;refine Qa ?_;simp only[go_sem];refine Qf (Qb rfl ?_ ?_)
  ·intro hc;have hlt:i<l.length:=by simpa using hc
   refine Qe ?_;simp only[go_sem];refine Qf (Qd ?_);refine Qa ?_;simp only[go_sem];refine Qa ?_;simp only[go_sem,hlt,Qw,Qaf _ _ hlt,Fn.take3,Fn.allOw,Fn.cells_len];refine Qbfl ?_;refine Qb rfl ?_ ?_
   ·intro hc2;have hn:l[i].name=s:=(by simpa using hc2);refine Qa ?_;simp only[go_sem];refine Qh ?_;simp only[go_sem,X.next,Qp,Q8,Qm4,Ja,forall_eq,RS.op];rw[Qa6i hlt hn hall]at hK;exact hK
   ·intro hc2;have hn:¬l[i].name=s:=(by simpa using hc2);refine Qe ?_;simp only[go_sem];refine Qq ?_;simp only[go_sem,X.next];refine⟨Q1 (by omega) (by omega),l.length-(i+1),by omega,i+1,rfl,by omega,?_,rfl⟩;rw[Jd hlt];intro x hx;rcases Jg.1 hx with hx|hx
    ·exact hall x hx
    ·simp only[Ja]at hx;subst hx;exact hn
  ·intro hc;have hge:l.length≤i:=by simpa using hc
   rw[Jc hge]at hall;refine Q9 ?_;simp only[go_sem,X.next];refine Qa ?_;simp only[go_sem];refine Qh ?_;simp only[go_sem,Qp,Q8,Qm4,Ja,forall_eq,RS.op];rw[Qa6j hall]at hK;exact hK
theorem Qacm {fl:Bool}{l:List Fn}{s:List UInt8}(hK:K (.c (.int .i64 (ixI (Qi1 l s)))) H):Ql prog Qk2 [.ag [.sl fl 3 (Qy l)],.c (.str s)] H K:=by
 refine Qc Qal Qa7j ?_;refine Qa ?_;simp only[go_sem];refine Qa ?_;simp only[go_sem];refine Qan1 ?_;simp only[go_sem,Q9p];refine Qh ?_;simp only[go_sem,Qp,Q8,Qm4,Ja,forall_eq,RS.op];exact hK
def scC:List Nat→C
 |[]=>.pnil
 |l::r=>.pp [.mp l,scC r]
structure MapOk (val:Nat→Int)(es:List (C×V))(b:List (List UInt8×Nat)):Prop where
 ky:∀e∈es,∃s,e.1=.str s
 fd:∀s,Qc0 (.str s) es=(b.find? fun p=>decide (p.1=s)).map fun p=>V.c (.int .i64 (val p.2))
def ScOk (val:Nat→Int)(H:Heap):List Nat→Vars→Prop
 |[],[]=>True
 |l::ls,b::v=>(∃n es,H l=.map n es∧MapOk val es b)∧ScOk val H ls v
 |_,_=>False
theorem Qanz (b:List (List UInt8×Nat))(v:Vars)(s:List UInt8):Vars.find (b::v) s=((b.find? fun p=>decide (p.1=s)).map Prod.snd).or (Vars.find v s):=by
 rw[Vars.find,Vars.find,List.flatten_cons,List.find?_append];cases b.find? fun p=>decide (p.1=s) <;> rfl
def valO (val:Nat→Int):Option Nat→Int
 |none=>0
 |some n=>val n
theorem Qa1b {val:Nat→Int}{ls:List Nat}{v:Vars}{s:List UInt8}(h:ScOk val H ls v)(hK:K (.tup [.c (.int .i64 (valO val (v.find s))),.c (.bool (v.find s).isSome)]) H) :
  Ql prog Qeu [.c (scC ls),.c (.str s)] H K:=by
 refine Qc Qal Qadw ?_;have ret:∀(n:Int) (b:Bool) (e:Env),n=valO val (v.find s)→b=(v.find s).isSome→lk 4 e=.c (.int .i64 n)→lk 5 e=.c (.bool b)→Qp Qll K .ret e H:=by
  rintro n b e rfl rfl h4 h5;simp only[go_sem,Qp,Q8,Qll,J3,Jt,RS.op,h4,h5];exact⟨fun _=>trivial,hK⟩
 refine Qa ?_;simp only[go_sem];refine Qf (Qd (Qab (fun m e1 H1=>∃(ls':List Nat) (v':Vars),m=ls'.length∧H1=H∧ScOk val H ls' v'∧v.find s=v'.find s∧e1=[(0,.c (scC ls')),(1,.c (.str s))]) ls.length ?_ ?_))
 ·exact⟨ls,v,rfl,rfl,h,rfl,rfl⟩
 ·rintro m e1 H1 ⟨ls',v',hm,rfl,hs,hf,rfl⟩;refine Q6 ?_;refine Qa ?_
  cases ls' with
  |nil=>
   cases v' with
   |cons b v'=>exact hs.elim
   |nil=>
    simp only[go_sem,scC,C.isPtr,or_true,true_or,true_and];refine Qf (Qb rfl (fun h=>by cases h) (fun _=>?_));refine Q9 ?_;simp only[go_sem,X.next];refine Qa ?_;simp only[go_sem];refine Qh ?_;exact ret 0 false _ (by rw[hf];rfl) (by rw[hf];rfl) (by simp[lk]) (by simp[lk])
  |cons l r=>
   cases v' with
   |nil=>exact hs.elim
   |cons b v'=>
    obtain⟨⟨n,es,hl,hm2⟩,hs⟩:=hs;have hfd:=hm2.fd s;have hky:=eq_true hm2.ky;rw[Qanz]at hf;simp only[go_sem,scC,C.isPtr,or_true,true_or,true_and];refine Qf (Qb rfl (fun _=>?_) (fun h=>by cases h));refine Qe ?_;simp only[go_sem];refine Qf (Qd ?_);refine Qa ?_;simp only[go_sem,C.isPtr,Qo4,Qf5,Qad,hl,hfd,hky,Ju,Jx]
    cases hb:b.find? fun p=>decide (p.1=s)with
    |none=>
     rw[hb]at hf;simp only[Ja6,Jat,Option.isSome_none,go_sem];refine Qa ?_;simp only[go_sem];refine Qb rfl (fun h=>by cases h) (fun _=>?_);refine Qe ?_;try simp only[go_sem]
     refine Qq ?_;simp only[go_sem,X.next];have how:(scC r).isOw=false:=(by cases r <;> rfl);refine⟨by rw[how];rfl,r.length,by rw[Jl]at hm;omega,r,v',rfl,hs,?_,rfl⟩;rw[hf];rfl
    |some x=>
     rw[hb]at hf;simp only[J8,Jab,Option.isSome_some,go_sem];refine Qa ?_;simp only[go_sem];refine Qb rfl (fun _=>?_) (fun h=>by cases h);refine Qa ?_;simp only[go_sem];refine Qh ?_;simp only[go_sem,X.next];exact ret (val x.2) true _ (by rw[hf];rfl) (by rw[hf];rfl) (by simp[lk]) (by simp[lk])
theorem Qac4 {c:Nat}{l at':C}{code n:Int}(hH:H c=.st [l,at',.int .i64 code])(hK:∀H',Upd H H' [(c,.st [l,at',.int .i64 (Qcs code n)])]→K (.tup []) H') :
  Ql prog Qao [.c (.ptr c 0),.c (.int .i64 n)] H K:=by
 refine Qc Qal Q6p ?_;have kn:=Kn.start1 hH (by nofun);refine Qa ?_;simp only[go_sem,hH];refine Qb rfl (fun hc=>?_) (fun hc=>?_)
 ·have h0:code=0:=by simpa using hc
  refine Qq ?_;simp only[go_sem,hH];intro H1 h1;have kn:=kn.stE 0 rfl h1;simp only[Qp,Q8,Qasa,go_sem];refine hK _ ⟨fun p hp=>?_,fun m h1 h2=>kn.chg m h1 h2⟩;rw[Qcs,if_pos h0]at hp;exact (kn.get p (Jb _ hp)).1
 ·have h0:¬code=0:=by simpa using hc
  refine Qe ?_;simp only[Qp,Q8,Qasa,go_sem];refine hK _ ⟨fun p hp=>?_,fun m h1 h2=>rfl⟩;rw[Qcs,if_neg h0]at hp;simp only[Ja]at hp;rw[hp];exact hH
abbrev ScD:=List (Nat×Nat×List (C×V))
def ScD.ob (sc:ScD):List (Nat×Obj):=sc.map fun x=>(x.1,.map x.2.1 x.2.2)
def ScD.ls (sc:ScD):List Nat:=sc.map Prod.fst
def ScD.ok (val:Nat→Int):ScD→Vars→Prop
 |[],[]=>True
 |x::r,b::v=>MapOk val x.2.2 b∧ScD.ok val r v
 |_,_=>False
theorem ScD.scOk {val:Nat→Int}:∀{sc:ScD} {v:Vars},ScD.ok val sc v→(∀p∈sc.ob,H p.1=p.2)→ScOk val H sc.ls v
 |[],[],_,_=>trivial
 |[],_::_,h,_=>h.elim
 |_::_,[],h,_=>h.elim
 |x::r,b::v,h,hh=>⟨⟨x.2.1,x.2.2,hh (x.1,.map x.2.1 x.2.2) (by simp[ScD.ob]),h.1⟩,ScD.scOk h.2 fun p hp=>hh p (by simp only[ScD.ob,J1,Jn]at hp⊢;exact .inr hp)⟩
def Qrs (c:Nat)(fl:Bool)(l:List Fn)(k:Nat)(sc:ScD)(code:Int):List (Nat×Obj):=(c,.st [.sl fl 3 (Qy l),.int .i64 k,.int .i64 code])::sc.ob
theorem Qbbt {c:Nat}{fl:Bool}{l:List Fn}{k:Nat}{sc:ScD}{v:Vars}{val:Nat→Int}{code:Int}{p:Ex}(hk:k≤l.length)(hn:((c::sc.ls)).Nodup)(hs:ScD.ok val sc v)
  (hh:∀q∈Qrs c fl l k sc code,H q.1=q.2) (hK:∀H',Upd H H' (Qrs c fl l k sc (Qcs code (Qdx l k v p)))→K (.tup []) H') :
  Ql prog Qcc [.ag p.cells,.c (.pp [scC sc.ls]),.c (.pp [.ptr c 0])] H K:=by
 have hsc:=ScD.scOk hs fun q hq=>hh q (Jk _ hq);have hc:H c=.st [.sl fl 3 (Qy l),.int .i64 k,.int .i64 code]:=hh (c,_) (by simp[Qrs]);have how:(scC sc.ls).isOw=false:=by cases sc.ls <;> rfl
 have keep:∀H',Upd H H' [(c,.st [.sl fl 3 (Qy l),.int .i64 k,.int .i64 (Qcs code (Qdx l k v p))])]→K (.tup []) H':=by
  intro H' hu;refine hK _ ⟨fun q hq=>?_,fun m h1 h2=>?_⟩
  ·rcases Jn.1 hq with rfl|hq
   ·exact hu.1 _ (by simp)
   ·have h1:=hh q (Jk _ hq);rw[hu.2 q.1 (by rw[h1];obtain⟨x,_,rfl⟩:=Jh.1 hq;nofun) ?_,h1];simp only[J1,Ja1,Ja];intro e;have hm:q.1∈sc.ls:=by
     obtain⟨x,hx,rfl⟩:=Jh.1 hq;exact Jh.2 ⟨x,hx,rfl⟩
    rw[e]at hm;exact (Jau.1 hn).1 hm
  ·refine hu.2 m h1 ?_;simp only[J1,Ja1,Ja];intro e;exact h2 (by rw[e];simp[Qrs])
 have same:Qdx l k v p=0→K (.tup []) H:=by
  intro h0;refine keep H ⟨fun q hq=>?_,fun m h1 h2=>rfl⟩;simp only[Ja]at hq;rw[hq,h0,hc,Qcs];by_cases hz:code=0
  ·rw[if_pos hz,hz]
  ·rw[if_neg hz]
 refine Qc Qal Qyt ?_;refine Qa ?_;simp only[go_sem,p.cells_eq];refine Qa ?_;simp only[go_sem,how];refine Qd ?_;refine Qa ?_;simp only[go_sem,how];have done:∀(H':Heap) (e:Env),K (.tup []) H'→Qp Qasa K .nrm e H':=by
  intro H' e h;simp only[Qp,Q8,Qasa,go_sem];exact h
 refine Qb rfl ?_ ?_
 ·intro hc2;have h2:p.op=2:=by simpa using hc2
  have hpc:Qdx l k v p=if (v.find p.name).isSome then 0 else 3:=by rw[Qdx,if_pos h2]
  refine Qa ?_;simp only[go_sem,how];refine Qa1b hsc ?_;simp only[go_sem,Qgh,Ju,Jx];refine Qa ?_;simp only[go_sem];refine Qb rfl ?_ ?_
  ·intro hc3;have hf:(v.find p.name).isSome=false:=by simpa using hc3
   rw[hf]at hpc;refine Qq ?_;simp only[go_sem];refine Qac4 hc fun H' hu=>?_;simp only[go_sem,X.next];rw[hpc]at keep;exact done _ _ (keep _ hu)
  ·intro hc3;have hf:(v.find p.name).isSome=true:=by simpa using hc3
   rw[hf]at hpc;refine Qe ?_;simp only[go_sem,X.next];exact done _ _ (same (by rw[hpc];rfl))
 intro hc2;have h2:¬p.op=2:=by simpa using hc2
 refine Qa ?_;simp only[go_sem,how];refine Qb rfl ?_ ?_
 ·intro hc3;have h3:p.op=13:=by simpa using hc3
  refine Qa1 ?_;simp only[go_sem,hc,Qw];refine⟨⟨by omega,by omega⟩,?_⟩;have etk:List.take k (Qy l)=Qy (l.take k):=by simp only[Qy,Jba]
  rw[etk];refine Qacm ?_;simp only[go_sem,Qgi];refine Qa ?_;simp only[go_sem]
  cases hx:Qi1 (l.take k) p.name with
  |none=>
   have hpc:Qdx l k v p=4:=by rw[Qdx,if_neg h2,if_pos h3,hx]
   rw[hpc]at keep;refine Qb rfl (fun _=>?_) (fun h=>by simp[ixI]at h);refine Qq ?_;simp only[go_sem];refine Qac4 hc fun H' hu=>?_;simp only[go_sem,X.next];exact done _ _ (keep _ hu)
  |some j=>
   have hj:j<l.length:=by
    rw[Qi1,List.findIdx?_eq_some_iff_getElem]at hx;obtain⟨h,_⟩:=hx;rw[Jo]at h;omega
   have hpc:Qdx l k v p=if (l[j]).params.length=p.kids.length then 0 else 5:=by rw[Qdx,if_neg h2,if_pos h3,hx];simp[hj]
   refine Qb rfl (fun h=>by have:=of_decide_eq_true h;simp only[ixI]at this;omega) (fun _=>?_);refine Qa1 ?_;simp only[go_sem,hc,ixI,hj,Qw,Qaf _ _ hj,Fn.cells,Qo,Qj];refine Qb rfl ?_ ?_
   ·intro hc4;have hne:¬l[j].params.length=p.kids.length:=by
     have h:=Qyw hc4;rw[decide_eq_false_iff_not]at h;omega
    rw[if_neg hne]at hpc;rw[hpc]at keep;refine Qq ?_;simp only[go_sem];refine Qac4 hc fun H' hu=>?_;simp only[go_sem,X.next];exact done _ _ (keep _ hu)
   ·intro hc4;have he:l[j].params.length=p.kids.length:=by
     have h:=Qmu hc4;rw[decide_eq_true_eq]at h;omega
    rw[if_pos he]at hpc;refine Qe ?_;simp only[go_sem,X.next];exact done _ _ (same hpc)
 ·intro hc3;have h3:¬p.op=13:=by simpa using hc3
  refine Qe ?_;simp only[go_sem,X.next];exact done _ _ (same (by rw[Qdx,if_neg h2,if_neg h3]))
theorem Qbkx {c:Nat}{fl:Bool}{l:List Fn}{k:Nat}{sc:ScD}{v:Vars}{val:Nat→Int}(hk:k≤l.length)(hn:((c::sc.ls)).Nodup)(hs:ScD.ok val sc v) :
  ExVis (Qrs c fl l k sc) (fun code p=>Qcs code (Qdx l k v p)) (fun _=>True) Qcc [.pp [scC sc.ls],.pp [.ptr c 0]]:=by
 refine⟨fun _ _=>rfl,fun a=>?_,fun a p hp=>?_,fun _ _ h=>h,fun a s H K _ _ hh hK=>Qbbt hk hn hs hh hK⟩
 ·have e:(Qrs c fl l k sc a).map Prod.fst=c::sc.ls:=by simp only[Qrs,ScD.ob,ScD.ls,J1,Ja0];rfl
  rw[e];exact hn
 ·rcases Jn.1 hp with rfl|hp
  ·nofun
  ·obtain⟨x,_,rfl⟩:=Jh.1 hp;nofun
theorem Qbbg {c:Nat}{fl:Bool}{l:List Fn}{k:Nat}{sc:ScD}{v:Vars}{val:Nat→Int}{code:Int}{x:Ex}(hk:k≤l.length)(hn:((c::sc.ls)).Nodup)(hs:ScD.ok val sc v)(hx:x.size≤2^40)
  (hh:∀q∈Qrs c fl l k sc code,H q.1=q.2) (hK:∀H',Upd H H' (Qrs c fl l k sc (Qa0 l k v x.pre code))→K (.tup []) H') :
  Ql prog Qfs [.c (.ptr c 0),.ag x.cells,.c (scC sc.ls)] H K:=by
 have how:(scC sc.ls).isOw=false:=by cases sc.ls <;> rfl
 refine Qc Qal Q6o ?_;refine Qa ?_;simp only[go_sem,x.cells_eq,how];refine Qq ?_;simp only[go_sem,how];have h:=fun K=>Qa6p (Qbkx (fl:=fl) hk hn hs) x.size x code H K;rw[x.cells_eq]at h;refine h _ (Jm _) hx trivial hh fun H' hu=>?_;simp only[Qp,Q8,Qasa,go_sem];exact hK _ hu
end Go.AE.Y
namespace Go.AE.Y
theorem Qac6 (s t:List UInt8)(v:V):∀(es:List (C×V)),(∀e∈es,∃s,e.1=.str s)→Qc0 (.str t) (Q1d (.str s) v es)=if s=t then some v else Qc0 (.str t) es
 |[],_=>by
  simp only[Q1d,Qc0,Qem];by_cases h:s=t
  ·subst h;simp
  ·have h':¬t=s:=fun e=>h e.symm;simp[h,h']
 |e::es,hk=>by
  obtain⟨k,hk1⟩:=hk e (by simp);obtain⟨e1,e2⟩:=e;simp only at hk1;subst hk1;have ih:=Qac6 s t v es fun x hx=>hk x (Jk _ hx);simp only[Q1d,Qem];by_cases h:s=k
  ·subst h;simp only[decide_true,if_true,Qc0,Qem];by_cases h2:s=t
   ·subst h2;simp
   ·have h':¬t=s:=fun e=>h2 e.symm;simp[h2,h']
  ·simp only[h,decide_false,Jao,if_false,Qc0,Qem];rw[ih];by_cases h2:t=k
   ·subst h2;simp[h]
   ·simp[h2]
theorem Qajg (s:List UInt8)(v:V):∀(es:List (C×V)),(∀e∈es,∃s,e.1=.str s)→∀e∈Q1d (.str s) v es,∃s,e.1=.str s
 |[],_,e,he=>by simp only[Q1d,Ja]at he;subst he;exact⟨s,rfl⟩
 |x::es,hk,e,he=>by
  simp only[Q1d]at he;split at he
  ·rcases Jn.1 he with rfl|he
   ·exact⟨s,rfl⟩
   ·exact hk e (Jk _ he)
  ·rcases Jn.1 he with rfl|he
   ·exact hk _ (by simp)
   ·exact Qajg s v es (fun y hy=>hk y (Jk _ hy)) e he
theorem MapOk.put {val:Nat→Int}{es:List (C×V)}{b:List (List UInt8×Nat)}(h:MapOk val es b)(s:List UInt8)(n:Nat):MapOk val (Q1d (.str s) (.c (.int .i64 (val n))) es) ((s,n)::b):=by
 refine⟨Qajg s _ es h.ky,fun t=>?_⟩;rw[Qac6 s t _ es h.ky,List.find?_cons];by_cases e:s=t
 ·subst e;simp
 ·simp[e,h.fd t]
theorem MapOk.nil (val:Nat→Int):MapOk val [] []:=⟨by simp,fun s=>rfl⟩
attribute [local go_sem] cond_true cond_false Bool.not_true Bool.not_false
open Go.Proofs.Tryz
variable {H H0:Heap}{K:V→Heap→Prop}{E E' L:List (Nat×Obj)}
theorem Qaqb {sc:C}(how:sc.isOw=false)(hK:∀lm n H',H lm=.none→H'=H.set lm (.map n [])→K (.c (.pp [.mp lm,sc])) H'):Ql prog Qc6 [.c sc] H K:=by
 refine Qc Qal Qadx ?_;refine Qa ?_;simp only[go_sem];refine Qa ?_;simp only[go_sem];intro lm hlm H1 h1;simp only[go_sem,Qno,how];refine Qh ?_;simp only[go_sem,Qp,Q8,Qcu,Ja,forall_eq,RS.op,how];exact hK lm _ H1 hlm h1
theorem Q61 (fns:List Fn)(k:Nat)(v:Vars)(a b:List Ex)(c:Int):Qa0 fns k v (a++b) c=Qa0 fns k v b (Qa0 fns k v a c):=by rw[Qa0,List.foldl_append];rfl
theorem Qa50 (c:Nat)(fl:Bool)(l:List Fn)(k:Nat)(sc:ScD)(x y:Int):(Qrs c fl l k sc x).map Prod.fst=(Qrs c fl l k sc y).map Prod.fst:=rfl
theorem Qavn (c:Nat)(fl:Bool)(l:List Fn)(k:Nat)(sc:ScD)(x:Int):∀p∈Qrs c fl l k sc x,p.2≠.none:=by
 intro p hp;rcases Jn.1 hp with rfl|hp
 ·nofun
 ·obtain⟨x,_,rfl⟩:=Jh.1 hp;nofun
theorem Qbbf {c x7 N i:Nat}{fl f5:Bool}{l:List Fn}{k:Nat}{sc:ScD}{v:Vars}{val:Nat→Int}{code:Int}{x:St}{sts:List St}{L:List (Nat×Obj)}{Q:X→Env→Heap→Prop}
  (hk:k≤l.length) (hn:((c::sc.ls)).Nodup) (hs:ScD.ok val sc v) (hx:x.size≤2^40)
  (kn:Kn H0 H (Qrs c fl l k sc code) [(x7,.st [.int .i64 x.op,.str x.name,.sl false 4 (Qt x.args),.sl false 5 (Qk x.body),.sl false 5 (Qk x.els)])])
  (hQ:∀H',Kn H0 H' (Qrs c fl l k sc (Qa0 l k v (Qac x.args) code)) [(x7,.st [.int .i64 x.op,.str x.name,.sl false 4 (Qt x.args),.sl false 5 (Qk x.body),.sl false 5 (Qk x.els)])]→
   ∀e',lk 0 e'=.c (.ptr c 0)→lk 2 e'=.c (scC sc.ls)→lk 7 e'=.c (.ptr x7 0)→lk 14 e'=.c (.sl f5 5 (Qk sts))→lk 15 e'=.c (.int .i64 N)→lk 16 e'=.c (.int .i64 i)→Q3 prog Qd1 Q e' H') :
  Q3 prog Qic Q [(0,.c (.ptr c 0)),(2,.c (scC sc.ls)),(7,.c (.ptr x7 0)),(14,.c (.sl f5 5 (Qk sts))),(15,.c (.int .i64 N)),(16,.c (.int .i64 i))] H:=by
 have how:(scC sc.ls).isOw=false:=by cases sc.ls <;> rfl
 have hse:=x.size_eq;have g7:=kn.l 0 rfl;refine Q6 ?_;refine Qa ?_;simp only[go_sem,g7,how,Qj];intro hl;simp only[LIM]at hl;refine Qf (Qd (Qab (fun m e1 H1=>∃(j:Nat),m=x.args.length-j∧j≤x.args.length∧Kn H0 H1 (Qrs c fl l k sc (Qa0 l k v (Qac (x.args.take j)) code)) [(x7,.st [.int .i64 x.op,.str x.name,.sl false 4 (Qt x.args),.sl false 5 (Qk x.body),.sl false 5 (Qk x.els)])]∧
  e1=[(0,.c (.ptr c 0)),(2,.c (scC sc.ls)),(7,.c (.ptr x7 0)),(14,.c (.sl f5 5 (Qk sts))),(15,.c (.int .i64 N)),(16,.c (.int .i64 i)),(21,.c (.sl false 4 (Qt x.args))),(22,.c (.int .i64 x.args.length)),(23,.c (.int .i64 j))]) x.args.length ?_ ?_))
 ·exact⟨0,by omega,by omega,by simpa[Qac,Qa0]using kn,rfl⟩
 ·clear kn;rintro m e1 H1 ⟨j,hm,hj,kn,rfl⟩;refine Qa ?_;simp only[go_sem,how];refine Qf (Qb rfl ?_ ?_)
  ·intro hc;have hlt:j<x.args.length:=by simpa using hc
   have hms:=Qau (Jf hlt);obtain⟨y,hy⟩:∃y,x.args[j]=y:=⟨_,rfl⟩;have htk:=Qhd hlt;rw[hy]at hms htk;refine Qe ?_;try simp only[go_sem]
   refine Qf (Qd ?_);refine Qa ?_;simp only[go_sem,how,hlt,Qj,Qr _ _ hlt,hy,y.cells_eq];intro x9 hx9 H3 h3;have kn:=kn.al hx9 h3;have g9:=kn.l 1 rfl;simp only[go_sem,Qif,g9,how];intro H4 h4;have kn:=kn.stL 1 rfl h4;have g9:=kn.l 1 rfl;refine Qq ?_;simp only[go_sem,g9,how];have h:=fun K=>Qbbg (H:=H4) (K:=K) (fl:=fl) (x:=y) (code:=Qa0 l k v (Qac (x.args.take j)) code) hk hn hs (by omega) (fun p hp=>(kn.get p (Jb _ hp)).1);rw[y.cells_eq]at h;refine h _ fun H5 hu=>?_;have kn:=Kn.drop (A:=[(x7,_)]) (kn.callAll hu (Qa50 _ _ _ _ _ _ _) (Qavn _ _ _ _ _ _));simp only[go_sem,how];refine Qq ?_;simp only[go_sem,AE.X.next,how];refine⟨Q1 (by omega) (by omega),x.args.length-(j+1),by omega,j+1,rfl,by omega,?_,rfl⟩;rw[htk,Q61];exact kn
  ·intro hc;have hge:x.args.length≤j:=by simpa using hc
   rw[Jc hge]at kn;refine Q9 ?_;simp only[go_sem,AE.X.next];exact hQ _ kn _ rfl rfl rfl rfl rfl rfl
def Qajf (op:Int)(name:List UInt8)(x:Nat×Nat×List (C×V)):Nat×Nat×List (C×V):=if op=1 then (x.1,x.2.1+1,Q1d (.str name) (.c (.int .i64 0)) x.2.2)else x
def opC (v:Vars)(op:Int)(name:List UInt8)(c:Int):Int:=if op=1 then Qcs c (if Qfl v name then 2 else 0)else if op=2 then Qcs c (if (v.find name).isSome then 0 else 3)else c
theorem Qaod (c:Int):Qcs c 0=c:=by rw[Qcs];split <;> simp_all
theorem Qa0d {val:Nat→Int}{es:List (C×V)}{b:List (List UInt8×Nat)}(h:MapOk val es b)(r:Vars)(s:List UInt8):(Qc0 (.str s) es).isSome=Qfl (b::r) s:=by
 rw[h.fd s,Qfl,Option.isSome_map,List.headD_cons,Ja4,List.find?_isSome,Jaa]
theorem Qan4 (c:Nat)(fl:Bool)(l:List Fn)(k:Nat)(sc:ScD)(x:Int):(Qrs c fl l k sc x).map Prod.fst=c::sc.ls:=by simp only[Qrs,ScD.ob,ScD.ls,J1,Ja0];rfl
theorem Qbfg (l:List Fn)(k:Nat)(op:Int)(name:List UInt8)(args:List Ex)(s:Ck):(stC l k op name args s).c=opC s.v op name (Qa0 l k s.v (Qac args) s.c):=by
 simp only[stC,opC];split
 ·rfl
 ·split <;> rfl
theorem Qbeo {es:List (C×V)}{b:List (List UInt8×Nat)}{r:Vars}(h:MapOk (fun _=>0) es b)(l:List Fn)(k:Nat)(op:Int)(name:List UInt8)(args:List Ex)(s:Ck)(hv:s.v=b::r)(l0 n0:Nat) :
  ∃b',(stC l k op name args s).v=b'::r∧MapOk (fun _=>0) (Qajf op name (l0,n0,es)).2.2 b':=by
 simp only[stC,Qajf];split
 ·exact⟨(name,s.n)::b,by simp[Qa8,hv],h.put name s.n⟩
 ·split
  ·exact⟨b,hv,h⟩
  ·exact⟨b,hv,h⟩
theorem Qbax (op:Int)(name:List UInt8)(l0 n0:Nat)(es:List (C×V)):(Qajf op name (l0,n0,es)).2.2.length≤es.length+1:=by
 have hu:∀(es:List (C×V)),(Q1d (.str name) (.c (.int .i64 0)) es).length≤es.length+1:=by
  intro es
  induction es with
  |nil=>simp[Q1d]
  |cons e es ih=>
   simp only[Q1d];split
   ·simp
   ·simp only[Jl];omega
 simp only[Qajf];split
 ·exact hu es
 ·exact Nat.le_succ _
abbrev stO (x:St):Obj:=.st [.int .i64 x.op,.str x.name,.sl false 4 (Qt x.args),.sl false 5 (Qk x.body),.sl false 5 (Qk x.els)]
theorem Qbf4 {c x7 N i l0 n0:Nat}{fl f5:Bool}{l:List Fn}{k:Nat}{es0:List (C×V)}{rest:ScD}{b:List (List UInt8×Nat)}{r:Vars}{code:Int}{x:St}{sts:List St}{Q:X→Env→Heap→Prop}{e:Env}
  (hn:(c::l0::rest.ls).Nodup) (hs:ScD.ok (fun _=>0) ((l0,n0,es0)::rest) (b::r)) (hlen:es0.length+1≤LIM)
  (kn:Kn H0 H (Qrs c fl l k ((l0,n0,es0)::rest) code) [(x7,stO x)])
  (f0:lk 0 e=.c (.ptr c 0)) (f2:lk 2 e=.c (scC (l0::rest.ls))) (f7:lk 7 e=.c (.ptr x7 0)) (f14:lk 14 e=.c (.sl f5 5 (Qk sts))) (f15:lk 15 e=.c (.int .i64 N)) (f16:lk 16 e=.c (.int .i64 i))
  (hQ:∀H',Kn H0 H' (Qrs c fl l k (Qajf x.op x.name (l0,n0,es0)::rest) (opC (b::r) x.op x.name code)) [(x7,stO x)]→
   ∀e',lk 0 e'=.c (.ptr c 0)→lk 2 e'=.c (scC (l0::rest.ls))→lk 7 e'=.c (.ptr x7 0)→lk 14 e'=.c (.sl f5 5 (Qk sts))→lk 15 e'=.c (.int .i64 N)→lk 16 e'=.c (.int .i64 i)→Q3 prog Qd0 Q e' H') :
  Q3 prog Qd1 Q e H:=by
 have how:(scC (l0::rest.ls)).isOw=false:=rfl;have how2:(scC rest.ls).isOw=false:=by cases rest.ls <;> rfl
 have hm:=hs.1;have hky:=eq_true hm.ky;have hv:(Qc0 (.str x.name) es0).getD (.c (.int .i64 0))=.c (.int .i64 0):=by
  rw[hm.fd];cases b.find? fun p=>decide (p.1=x.name) <;> rfl
 have hin:=Qa0d hm r x.name;have g7:=kn.l 0 rfl;have gc:=kn.e 0 rfl;have g1:=kn.e 1 rfl;refine Q6 ?_;refine Qa ?_;simp only[go_sem,f0,f2,f7,f14,f15,f16,g7,how];refine Qf (Qd ?_);refine Qa ?_;simp only[go_sem,how];refine Qb rfl ?_ ?_
 ·intro hc;have h1:x.op=1:=by simpa using hc
  have eT:Qajf x.op x.name (l0,n0,es0)=(l0,n0+1,Q1d (.str x.name) (.c (.int .i64 0)) es0):=by simp only[Qajf,if_pos h1]
  have eC:opC (b::r) x.op x.name code=Qcs code (if Qfl (b::r) x.name then 2 else 0):=by simp only[opC,if_pos h1]
  rw[eT,eC]at hQ;have tail:∀(H1:Heap) (e1:Env),Kn H0 H1 (Qrs c fl l k ((l0,n0,es0)::rest) (Qcs code (if Qfl (b::r) x.name then 2 else 0))) [(x7,stO x)]→
    lk 0 e1=.c (.ptr c 0)→lk 2 e1=.c (.pp [.mp l0,scC rest.ls])→lk 7 e1=.c (.ptr x7 0)→lk 14 e1=.c (.sl f5 5 (Qk sts))→lk 15 e1=.c (.int .i64 N)→lk 16 e1=.c (.int .i64 i)→
    Q3 prog Qjy (X.inBlock 4 (X.sq prog Qd0 Q)) e1 H1:=by
   intro H1 e1 kn a0 a2 a7 a14 a15 a16;have g7:=kn.l 0 rfl;have g1:=kn.e 1 rfl;refine Qel ?_;simp only[go_sem,a0,a2,a7,a14,a15,a16,g7,g1,Qf5,hky,how2];refine⟨by omega,?_⟩;intro H2 h2;have kn:Kn H0 H2 (Qrs c fl l k ((l0,n0+1,Q1d (.str x.name) (.c (.int .i64 0)) es0)::rest) (Qcs code (if Qfl (b::r) x.name then 2 else 0))) [(x7,stO x)]:=kn.stE 1 rfl h2;try simp only[go_sem,X.next,how2]
   exact hQ _ kn _ rfl rfl rfl rfl rfl rfl
  refine Q6 ?_;refine Qa1 ?_;simp only[go_sem,scC,g7,g1,Qo4,Qf5,Qad,hky,hv,hin,how2,Ju,Jx];refine Qf ?_;refine Qa ?_;simp only[go_sem,how2];refine Qb rfl ?_ ?_
  ·intro hc2;have hi:Qfl (b::r) x.name=true:=by simpa using hc2
   rw[hi]at tail;refine Qq ?_;simp only[go_sem,how2];refine Qac4 gc fun H2 hu=>?_;have kn:=kn.callE 0 rfl hu (by nofun);simp only[go_sem,X.next,how2];exact tail _ _ kn rfl rfl rfl rfl rfl rfl
  ·intro hc2;have hi:Qfl (b::r) x.name=false:=by simpa using hc2
   rw[hi]at tail;refine Qe ?_;simp only[go_sem,X.next,how2];refine tail _ _ ?_ rfl rfl rfl rfl rfl rfl;have:Qcs code (if false=true then 2 else 0)=code:=Qaod code;rw[this];exact kn
 intro hc;have h1:¬x.op=1:=by simpa using hc
 have eT:Qajf x.op x.name (l0,n0,es0)=(l0,n0,es0):=by simp only[Qajf,if_neg h1]
 rw[eT]at hQ;refine Qa ?_;simp only[go_sem,how];refine Qb rfl ?_ ?_
 ·intro hc2;have h2:x.op=2:=by simpa using hc2
  have eC:opC (b::r) x.op x.name code=Qcs code (if (Vars.find (b::r) x.name).isSome then 0 else 3):=by simp only[opC,if_neg h1,if_pos h2]
  rw[eC]at hQ;refine Qa ?_;simp only[go_sem,g7,how];refine Qa1b (ScD.scOk hs fun q hq=>(kn.get q (Jb _ (Jk _ hq))).1) ?_;simp only[go_sem,Qig,Ju,Jx,how];refine Qa ?_;simp only[go_sem,how];refine Qb rfl ?_ ?_
  ·intro hc3;have hf:(Vars.find (b::r) x.name).isSome=false:=by simpa using hc3
   rw[hf]at hQ;refine Qq ?_;simp only[go_sem,how];refine Qac4 gc fun H2 hu=>?_;have kn:=kn.callE 0 rfl hu (by nofun);simp only[go_sem,X.next,how];exact hQ _ kn _ rfl rfl rfl rfl rfl rfl
  ·intro hc3;have hf:(Vars.find (b::r) x.name).isSome=true:=by simpa using hc3
   rw[hf]at hQ;refine Qe ?_;simp only[go_sem,X.next,how];refine hQ _ ?_ _ rfl rfl rfl rfl rfl rfl;have:Qcs code (if true=true then 0 else 3)=code:=Qaod code;rw[this];exact kn
 ·intro hc2;have h2:¬x.op=2:=by simpa using hc2
  have eC:opC (b::r) x.op x.name code=code:=by simp only[opC,if_neg h1,if_neg h2]
  rw[eC]at hQ;refine Qe ?_;simp only[go_sem,X.next,how];exact hQ _ kn _ rfl rfl rfl rfl rfl rfl
theorem Qbe4 {c lm n1 n2:Nat}{es1 es2:List (C×V)}{fl:Bool}{l:List Fn}{k:Nat}{sc:ScD}{x y:Int}{p:Nat×Obj}{H':Heap}
  (kn:Kn H0 H (Qrs c fl l k sc x) [p,(lm,.map n1 es1)]) (hu:Upd H H' (Qrs c fl l k ((lm,n2,es2)::sc) y)):Kn H0 H' (Qrs c fl l k sc y) [p]:=by
 refine Kn.drop (A:=[p]) (B:=[(lm,.map n2 es2)]) ?_;have hlm:lm∉(Qrs c fl l k sc x).map Prod.fst:=fun h=>by
  obtain⟨q,hq,e⟩:=Jh.1 h;exact kn.ext q hq (by rw[e];exact kn.free 1 rfl)
 have hp:p.1≠lm:=kn.neL 0 1 (l:=p.1) (o:=p.2) rfl rfl (by omega);have hpE:p.1∉(Qrs c fl l k sc x).map Prod.fst:=fun h=>by
  obtain⟨q,hq,e⟩:=Jh.1 h;exact kn.ext q hq (by rw[e];exact kn.loc p (by simp))
 refine kn.callg (E2:=Qrs c fl l k sc y) (L2:=[p,(lm,.map n2 es2)]) hu (Qa50 _ _ _ _ _ _ _) rfl (fun q hq=>?_) (fun u hu=>?_)
 ·rcases Jg.1 hq with hq|hq
  ·refine⟨Qavn _ _ _ _ _ _ q hq,.inl ?_⟩;rcases Jn.1 hq with rfl|hq
   ·exact Jw
   ·exact Jk _ (Jk _ hq)
  ·rcases Jn.1 hq with rfl|hq
   ·refine⟨(kn.get q (by simp)).2,.inr ⟨by simp,?_⟩⟩;rw[Qan4]at hpE⊢;simp only[ScD.ls,J1,Jn,not_or]at hpE⊢;exact⟨hpE.1,hp,hpE.2⟩
   ·simp only[Ja]at hq;subst hq;exact⟨by nofun,.inl (Jk _ Jw)⟩
 ·rcases Jn.1 hu with rfl|hu
  ·exact .inl Jw
  ·rcases Jn.1 hu with rfl|hu
   ·exact .inr (by simp)
   ·exact .inl (Jk _ (List.mem_map_of_mem (f:=Prod.fst) hu))
theorem Qbey {c lm n1:Nat}{fl:Bool}{l:List Fn}{k:Nat}{sc:ScD}{x:Int}{p:Nat×Obj}
  (kn:Kn H0 H (Qrs c fl l k sc x) [p,(lm,.map n1 [])]):∀q∈Qrs c fl l k ((lm,n1,[])::sc) x,H q.1=q.2:=by
 intro q hq;rcases Jn.1 hq with rfl|hq
 ·exact kn.e 0 rfl
 ·rcases Jn.1 hq with rfl|hq
  ·exact kn.l 1 rfl
  ·exact (kn.get q (Jb _ (Jk _ hq))).1
theorem Qbez {c lm n1:Nat}{fl:Bool}{l:List Fn}{k:Nat}{sc:ScD}{x:Int}{p:Nat×Obj}
  (kn:Kn H0 H (Qrs c fl l k sc x) [p,(lm,.map n1 [])]):(c::lm::sc.ls).Nodup:=by
 have hlm:lm∉(Qrs c fl l k sc x).map Prod.fst:=fun h=>by
  obtain⟨q,hq,e⟩:=Jh.1 h;exact kn.ext q hq (by rw[e];exact kn.free 1 rfl)
 have hd:=kn.dE;rw[Qan4]at hd hlm;simp only[Jau,Jn,not_or]at hd hlm⊢;exact⟨⟨fun e=>hlm.1 e.symm,hd.1⟩,hlm.2,hd.2⟩
theorem Qbed {x:St}{d:Int}(h:x.form d=true):Qax x.body (d-1)=true∧Qax x.els (d-1)=true∧(¬(x.op=5∨x.op=6)→x.body=[]∧x.els=[]):=by
 rw[x.form_eq,Qaap]at h;simp only[Jq,Bool.or_eq_true,decide_eq_true_eq]at h;obtain⟨⟨⟨_,⟨⟨_,h5⟩,h6⟩⟩,hb⟩,he⟩:=h;refine⟨hb,he,fun hn=>⟨List.eq_nil_of_length_eq_zero ?_,List.eq_nil_of_length_eq_zero ?_⟩⟩
 ·rcases h6 with h6|h6
  ·exact (hn h6).elim
  ·exact h6
 ·rcases h5 with h5|h5
  ·exact (hn (.inl h5)).elim
  ·exact h5
theorem Qa5z {c:Nat}{fl:Bool}{l:List Fn}{k:Nat}(hk:k≤l.length):∀(n:Nat) (sts:List St) (d:Int) (f5:Bool) (l0 n0:Nat) (es0:List (C×V)) (rest:ScD) (b:List (List UInt8×Nat)) (r:Vars) (s:Ck) (H:Heap) (K:V→Heap→Prop),
  Qi sts≤n→Qi sts≤2^38→Qax sts d=true→(c::l0::rest.ls).Nodup→s.v=b::r→ScD.ok (fun _=>0) ((l0,n0,es0)::rest) (b::r)→es0.length+sts.length≤LIM→
  (∀q∈Qrs c fl l k ((l0,n0,es0)::rest) s.c,H q.1=q.2)→
  (∀H' n' es' b',(Qam l k sts s).v=b'::r→MapOk (fun _=>0) es' b'→Upd H H' (Qrs c fl l k ((l0,n',es')::rest) (Qam l k sts s).c)→K (.tup []) H')→
  Ql prog Qb2 [.c (.ptr c 0),.c (.sl f5 5 (Qk sts)),.c (scC (l0::rest.ls))] H K:=by
 intro n
 induction n using Nat.strongRecOn with
 |_ n ih=>
 intro sts d f5 l0 n0 es0 rest b r s H K hn hb hf hnd hsv hsc hle hh hK;have how:(scC (l0::rest.ls)).isOw=false:=rfl;rw[Q36,J5]at hf;refine Q5 ?_;refine Qc Qal Q4l ?_;refine Qa ?_;simp only[go_sem,how,Qx];intro hl;simp only[LIM]at hl hle;have kn:Kn H H (Qrs c fl l k ((l0,n0,es0)::rest) s.c) []:=.startE (fun p hp=>⟨hh p hp,Qavn _ _ _ _ _ _ p hp⟩) (by rw[Qan4];exact hnd);refine Qd (Qab (fun m e1 H1=>∃(i n':Nat) (es':List (C×V)) (bi:List (List UInt8×Nat)),m=sts.length-i∧i≤sts.length∧(Qam l k (sts.take i) s).v=bi::r∧MapOk (fun _=>0) es' bi∧es'.length≤es0.length+i∧
  Kn H H1 (Qrs c fl l k ((l0,n',es')::rest) (Qam l k (sts.take i) s).c) []∧
  e1=[(0,.c (.ptr c 0)),(2,.c (scC (l0::rest.ls))),(14,.c (.sl f5 5 (Qk sts))),(15,.c (.int .i64 sts.length)),(16,.c (.int .i64 i))]) sts.length ?_ ?_)
 ·exact⟨0,n0,es0,b,by omega,by omega,by simpa[Qam]using hsv,hsc.1,by omega,by simpa[Qam]using kn,rfl⟩
 ·clear kn;rintro m e1 H1 ⟨i,n',es',bi,hm,hi,hvi,hmi,hei,kn,rfl⟩;obtain⟨si,hsi⟩:∃si,Qam l k (sts.take i) s=si:=⟨_,rfl⟩;rw[hsi]at hvi kn;refine Qa ?_;simp only[go_sem,how];refine Qf (Qb rfl ?_ ?_)
  ·intro hc;have hlt:i<sts.length:=by simpa using hc
   have hms:=Qa3 (Jf hlt);obtain⟨x,hx⟩:∃x,sts[i]=x:=⟨_,rfl⟩;have htk:=Qanv l k hlt s;have hfx:=hf sts[i] (Jf hlt);rw[hx]at hms hfx;rw[hsi,hx]at htk;have hse:=x.size_eq;have hbl:=Qan x.body;have hel:=Qan x.els;obtain⟨fb,fe,fn⟩:=Qbed hfx;have hsci:ScD.ok (fun _=>0) ((l0,n',es')::rest) (bi::r):=⟨hmi,hsc.2⟩;refine Qe ?_;try simp only[go_sem]
   refine Qf (Qd ?_);refine Qa ?_;simp only[go_sem,how,hlt,Qx,Qbe _ _ hlt,hx,x.cells_eq];intro x7 hx7 H3 h3;have kn:=kn.al hx7 h3;have g7:=kn.l 0 rfl;simp only[go_sem,Qie,g7,how];intro H4 h4;have kn:Kn H H4 (Qrs c fl l k ((l0,n',es')::rest) si.c) [(x7,stO x)]:=kn.stL 0 rfl h4;clear g7;refine Qbbf (L:=[]) (sc:=(l0,n',es')::rest) (v:=bi::r) hk hnd hsci (by omega) kn (fun H5 kn e5 f0 f2 f7 f14 f15 f16=>?_);clear h4 h3;refine Qbf4 hnd hsci (by simp only[LIM];omega) kn f0 f2 f7 f14 f15 f16 (fun H6 kn e6 f0 f2 f7 f14 f15 f16=>?_);obtain⟨b1,hv1,hm1⟩:=Qbeo hmi l k x.op x.name x.args si hvi l0 n';have hl1:=Qbax x.op x.name l0 n' es';have hc1:=Qbfg l k x.op x.name x.args si;rw[hvi]at hc1;rw[←hc1]at kn;obtain⟨es1,n1,ht⟩:∃es1 n1,Qajf x.op x.name (l0,n',es')=(l0,n1,es1):=by
    simp only[Qajf];split <;> exact⟨_,_,rfl⟩
   rw[ht]at kn hm1 hl1;simp only at hl1;have hck:=x.ck_eq l k si;obtain⟨s1,hs1⟩:∃s1,stC l k x.op x.name x.args si=s1:=⟨_,rfl⟩;rw[hs1]at kn hv1 hck;rw[hv1]at hck;have hsc1:ScD.ok (fun _=>0) ((l0,n1,es1)::rest) (b1::r):=⟨hm1,hsc.2⟩;have g7:=kn.l 0 rfl;have fin:∀(H':Heap) (e':Env),Kn H H' (Qrs c fl l k ((l0,n1,es1)::rest) (x.ck l k si).c) []→lk 0 e'=.c (.ptr c 0)→lk 2 e'=.c (scC (l0::rest.ls))→lk 14 e'=.c (.sl f5 5 (Qk sts))→lk 15 e'=.c (.int .i64 sts.length)→lk 16 e'=.c (.int .i64 i)→
     Q3 prog Qid (X.next (fun e2 H2=>∃m',m'<m∧∃(i n':Nat) (es':List (C×V)) (bi:List (List UInt8×Nat)),m'=sts.length-i∧i≤sts.length∧(Qam l k (sts.take i) s).v=bi::r∧MapOk (fun _=>0) es' bi∧es'.length≤es0.length+i∧
      Kn H H2 (Qrs c fl l k ((l0,n',es')::rest) (Qam l k (sts.take i) s).c) []∧
      e2=[(0,.c (.ptr c 0)),(2,.c (scC (l0::rest.ls))),(14,.c (.sl f5 5 (Qk sts))),(15,.c (.int .i64 sts.length)),(16,.c (.int .i64 i))]) (X.inBlock 0 (Qp Qasa (unK H K)))) e' H':=by
    intro H' e' kn f0 f2 f14 f15 f16;refine Qq ?_;simp only[go_sem,f0,f2,f14,f15,f16,how,AE.X.next];refine⟨Q1 (by omega) (by omega),sts.length-(i+1),by omega,i+1,n1,es1,b1,rfl,by omega,?_,hm1,by omega,?_,rfl⟩
    ·rw[htk,hck]
    ·rw[htk];exact kn
   refine Qa ?_;simp only[go_sem,f0,f2,f7,f14,f15,f16,g7,how];refine Qb rfl ?_ ?_
   ·intro hc2;refine Qa1 ?_;simp only[go_sem,f0,f2,f7,f14,f15,f16,g7,how];refine Qaqb how (fun lm nn H7 hlm h7=>?_);have kn:=kn.al hlm h7;have g7:=kn.l 0 rfl;simp only[go_sem,Qgy,g7,how];have hih:=ih (Qi x.body) (by omega) x.body (d-1) false lm nn [] ((l0,n1,es1)::rest) [] (b1::r) ⟨[]::b1::r,s1.c,s1.n⟩ H7;refine hih _ (Jm _) (by omega) fb (Qbez kn) rfl ⟨.nil _,hsc1⟩ (by simp only[Jp,LIM];omega) (Qbey kn) (fun H8 n8 es8 b8 _ _ hu=>?_);have kn:=Qbe4 kn hu;have g7:=kn.l 0 rfl;simp only[go_sem,how];refine Qel ?_;simp only[go_sem,g7,how];refine Qaqb how (fun lm nn H9 hlm h9=>?_);have kn:=kn.al hlm h9;have g7:=kn.l 0 rfl;simp only[go_sem,Qgz,g7,how];obtain⟨s2,hs2⟩:∃s2,Qam l k x.body ⟨[]::b1::r,s1.c,s1.n⟩=s2:=⟨_,rfl⟩;rw[hs2]at kn hck;have hih:=ih (Qi x.els) (by omega) x.els (d-1) false lm nn [] ((l0,n1,es1)::rest) [] (b1::r) ⟨[]::b1::r,s2.c,s2.n⟩ H9;refine hih _ (Jm _) (by omega) fe (Qbez kn) rfl ⟨.nil _,hsc1⟩ (by simp only[Jp,LIM];omega) (Qbey kn) (fun H10 n10 es10 b10 _ _ hu=>?_);have kn:=Kn.drop (A:=[]) (Qbe4 kn hu);simp only[go_sem,AE.X.next,how];refine fin _ _ ?_ rfl rfl rfl rfl rfl;rw[hck];exact kn
   ·intro hc2;have hno:¬(x.op=5∨x.op=6):=by
     intro h;rcases h with h|h <;> simp[h]at hc2
    obtain⟨eb,ee⟩:=fn hno;rw[eb,ee]at hck;simp only[Qam]at hck;refine Qe ?_;simp only[go_sem,AE.X.next,how];refine fin _ _ ?_ rfl rfl rfl rfl rfl;rw[hck];exact Kn.drop (A:=[]) kn
  ·intro hc;have hge:sts.length≤i:=by simpa using hc
   rw[Jc hge]at hsi;refine Q9 ?_;simp only[go_sem,AE.X.next,Qp,Q8,Qasa];refine⟨.tup [],.tup _ _ rfl fun j x x' h=>by simp at h,hK _ n' es' bi (by rw[hsi];exact hvi) hmi ?_⟩;rw[hsi];exact kn.fin
abbrev fnO (f:Fn):Obj:=.st [.str f.name,.sl false 1 (Q0 f.params),.sl false 5 (Qk f.body)]
abbrev ckO (fl:Bool)(l:List Fn)(k:Int)(code:Int):Obj:=.st [.sl fl 3 (Qy l),.int .i64 k,.int .i64 code]
theorem Qacq (s:List UInt8)(v:V):∀(es:List (C×V)),(Q1d (.str s) v es).length≤es.length+1
 |[]=>by simp[Q1d]
 |e::es=>by
  have:=Qacq s v es;simp only[Q1d];split
  ·simp
  ·simp only[Jl];omega
theorem Qbis {c x5 N i:Nat}{fl:Bool}{l:List Fn}{a:Int}{e:Env}{Q:X→Env→Heap→Prop}(hi:i<l.length)(hf:l[i].form=true)(hs:Qi l[i].body≤2^38)
  (kn:Kn H0 H [] [(c,ckO fl l i a),(x5,fnO l[i])])
  (f1:lk 1 e=.c (.pp [.sl fl 3 (Qy l)])) (f3:lk 3 e=.c (.ptr c 0)) (f4:lk 4 e=.c (.int .i64 i)) (f5:lk 5 e=.c (.ptr x5 0)) (f18:lk 18 e=.c (.sl fl 3 (Qy l))) (f19:lk 19 e=.c (.int .i64 N)) (f20:lk 20 e=.c (.int .i64 i))
  (hQ:∀H',Kn H0 H' [] [(c,ckO fl l i (Qcs a (fnCk l i).c))]→∀e',lk 1 e'=.c (.pp [.sl fl 3 (Qy l)])→lk 3 e'=.c (.ptr c 0)→lk 18 e'=.c (.sl fl 3 (Qy l))→lk 19 e'=.c (.int .i64 N)→lk 20 e'=.c (.int .i64 i)→Q .nrm e' H') :
  Q3 prog Qjj Q e H:=by
 rw[←Qbgq hi a]at hQ;obtain⟨f,hfe⟩:∃f,l[i]=f:=⟨_,rfl⟩;obtain⟨j0,hj0,hji⟩:=Qbgr hi;rw[hfe]at hf hs hQ kn hj0;have g5:=kn.l 1 rfl;have hfp:f.params.length≤3∧Qax f.body 4=true:=by
  rw[Fn.form]at hf;simp only[Jq,decide_eq_true_eq]at hf;exact⟨hf.1.2,hf.2⟩
 have two:∀(H1:Heap) (e1:Env),Kn H0 H1 [] [(c,ckO fl l i (Qcs a (ixC l i f.name))),(x5,fnO f)]→lk 1 e1=.c (.pp [.sl fl 3 (Qy l)])→lk 3 e1=.c (.ptr c 0)→lk 5 e1=.c (.ptr x5 0)→lk 18 e1=.c (.sl fl 3 (Qy l))→lk 19 e1=.c (.int .i64 N)→lk 20 e1=.c (.int .i64 i)→
   Q3 prog Qji Q e1 H1:=by
  intro H1 e1 kn f1 f3 f5 f18 f19 f20;refine Qa ?_;simp only[go_sem,f1,f3,f5,f18,f19,f20];refine Qaqb (sc:=.pnil) rfl (fun lm nn H2 hlm h2=>?_);have kn:=kn.al hlm h2;have g5:=kn.l 1 rfl;simp only[go_sem,Qjo,f1,f3,f5,f18,f19,f20];refine Q6 ?_;refine Qa ?_;simp only[go_sem,g5,Qo];intro hl;simp only[LIM]at hl;obtain⟨s0,hs0⟩:∃s0:Ck,(⟨[[]],Qcs a (ixC l i f.name),0⟩:Ck)=s0:=⟨_,rfl⟩;have hs0v:s0.v=[[]]:=by rw[←hs0]
  have hs0c:Qcs a (ixC l i f.name)=s0.c:=by rw[←hs0]
  rw[hs0]at hQ;rw[hs0c]at kn;refine Qf (Qd (Qab (fun m e2 H3=>∃(j n':Nat) (es':List (C×V)) (bj:List (List UInt8×Nat)),m=f.params.length-j∧j≤f.params.length∧(Qt6 (f.params.take j) s0).v=[bj]∧MapOk (fun _=>0) es' bj∧es'.length≤j∧
   Kn H0 H3 [] [(c,ckO fl l i (Qt6 (f.params.take j) s0).c),(x5,fnO f),(lm,.map n' es')]∧
   e2=[(1,.c (.pp [.sl fl 3 (Qy l)])),(3,.c (.ptr c 0)),(5,.c (.ptr x5 0)),(6,.c (.pp [.mp lm,.pnil])),(18,.c (.sl fl 3 (Qy l))),(19,.c (.int .i64 N)),(20,.c (.int .i64 i)),(39,.c (.sl false 1 (Q0 f.params))),(40,.c (.int .i64 f.params.length)),(41,.c (.int .i64 j))]) f.params.length ?_ ?_))
  ·exact⟨0,nn,[],[],by omega,by omega,hs0v,.nil _,by simp,kn,rfl⟩
  ·clear kn;rintro m e2 H3 ⟨j,n',es',bj,hm,hj,hvj,hmj,hej,kn,rfl⟩;obtain⟨sj,hsj⟩:∃sj,Qt6 (f.params.take j) s0=sj:=⟨_,rfl⟩;rw[hsj]at hvj kn;refine Qa ?_;simp only[go_sem];refine Qf (Qb rfl ?_ ?_)
   ·intro hc;have hlt:j<f.params.length:=(by simpa using hc);obtain⟨p,hp⟩:∃p,f.params[j]=p:=⟨_,rfl⟩;have hpd:f.params.getD j []=p:=(by simp[Ji,hlt,hp]);have htk:=Qar0 hlt s0;rw[hsj,hp]at htk;have hky:=eq_true hmj.ky;have hv:(Qc0 (.str p) es').getD (.c (.int .i64 0))=.c (.int .i64 0):=by
     rw[hmj.fd];cases bj.find? fun q=>decide (q.1=p) <;> rfl
    have hin:=Qa0d hmj [] p;have gl:=kn.l 2 rfl;have gc:=kn.l 0 rfl;refine Qe ?_;try simp only[go_sem]
    refine Qf (Qd ?_);refine Qa ?_;simp only[go_sem,hlt,Qo,Qbo _ _ hlt,hpd];have tail:∀(H4:Heap) (e3:Env),Kn H0 H4 [] [(c,ckO fl l i (Qcs sj.c (if Qfl [bj] p then 2 else 0))),(x5,fnO f),(lm,.map n' es')]→
      lk 1 e3=.c (.pp [.sl fl 3 (Qy l)])→lk 3 e3=.c (.ptr c 0)→lk 5 e3=.c (.ptr x5 0)→lk 6 e3=.c (.pp [.mp lm,.pnil])→lk 8 e3=.c (.str p)→lk 18 e3=.c (.sl fl 3 (Qy l))→lk 19 e3=.c (.int .i64 N)→lk 20 e3=.c (.int .i64 i)→
      lk 39 e3=.c (.sl false 1 (Q0 f.params))→lk 40 e3=.c (.int .i64 f.params.length)→lk 41 e3=.c (.int .i64 j)→
      Q3 prog Qlq (X.inBlock 3 (X.sq prog Qjg (X.next (fun e2 H3=>∃m',m'<m∧∃(j n':Nat) (es':List (C×V)) (bj:List (List UInt8×Nat)),m'=f.params.length-j∧j≤f.params.length∧(Qt6 (f.params.take j) s0).v=[bj]∧MapOk (fun _=>0) es' bj∧es'.length≤j∧
       Kn H0 H3 [] [(c,ckO fl l i (Qt6 (f.params.take j) s0).c),(x5,fnO f),(lm,.map n' es')]∧
       e2=[(1,.c (.pp [.sl fl 3 (Qy l)])),(3,.c (.ptr c 0)),(5,.c (.ptr x5 0)),(6,.c (.pp [.mp lm,.pnil])),(18,.c (.sl fl 3 (Qy l))),(19,.c (.int .i64 N)),(20,.c (.int .i64 i)),(39,.c (.sl false 1 (Q0 f.params))),(40,.c (.int .i64 f.params.length)),(41,.c (.int .i64 j))]) (X.inBlock 2 (X.sq prog Qjh Q))))) e3 H4:=by
     intro H4 e3 kn f1 f3 f5 f6 f8 f18 f19 f20 f39 f40 f41;have gl:=kn.l 2 rfl;refine Qq ?_;simp only[go_sem,f1,f3,f5,f6,f8,f18,f19,f20,f39,f40,f41,gl,Qf5,hky];refine⟨by simp only[LIM];omega,?_⟩;intro H5 h5;have kn:=kn.stL 2 rfl h5;try simp only[go_sem,AE.X.next]
     refine Qq ?_;simp only[go_sem,AE.X.next];have hl2:=Qacq p (.c (.int .i64 0)) es';refine⟨Q1 (by omega) (by omega),f.params.length-(j+1),by omega,j+1,n'+1,Q1d (.str p) (.c (.int .i64 0)) es',(p,sj.n)::bj,rfl,by omega,?_,hmj.put p sj.n,by omega,?_,rfl⟩
     ·rw[htk];simp[Qa8,hvj]
     ·rw[htk,hvj];exact kn
    refine Q6 ?_;refine Qa ?_;simp only[go_sem,gl,Qo4,Qf5,Qad,hky,hv,hin,Ju,Jx];refine Qf ?_;refine Qa ?_;simp only[go_sem];refine Qb rfl ?_ ?_
    ·intro hc2;have hi2:Qfl [bj] p=true:=(by simpa using hc2);rw[hi2]at tail;refine Qq ?_;simp only[go_sem];refine Qac4 gc fun H6 hu=>?_;have kn:=kn.callL 0 rfl hu (by nofun);simp only[go_sem,AE.X.next];exact tail _ _ kn rfl rfl rfl rfl rfl rfl rfl rfl rfl rfl rfl
    ·intro hc2;have hi2:Qfl [bj] p=false:=(by simpa using hc2);rw[hi2]at tail;refine Qe ?_;simp only[go_sem,AE.X.next];refine tail _ _ ?_ rfl rfl rfl rfl rfl rfl rfl rfl rfl rfl rfl;have:Qcs sj.c (if false=true then 2 else 0)=sj.c:=Qaod sj.c;rw[this];exact kn
   ·intro hc;have hge:f.params.length≤j:=(by simpa using hc);rw[Jc hge]at hsj;rw[hsj]at hQ;have g5:=kn.l 1 rfl;refine Q9 ?_;simp only[go_sem,AE.X.next];refine Qq ?_;simp only[go_sem,g5];have knp:Kn H0 H3 [] [(c,ckO fl l i sj.c),(lm,.map n' es'),(x5,fnO f)]:=kn.perm (.cons _ (.swap _ _ _));have hb:=Qa5z (c:=c) (fl:=fl) (l:=l) (k:=i) (by omega) (Qi f.body) f.body 4 false lm n' es' [] bj [] sj H3;refine hb _ (Jm _) hs hfp.2 ?_ hvj ⟨hmj,trivial⟩ ?_ ?_ (fun H6 n6 es6 b6 hv6 hm6 hu=>?_)
    ·have:=knp.dL;simp only[J1,Ja1,Jau,Jn,Jt,or_false,not_or]at this⊢;exact⟨⟨this.1.1,by simp[ScD.ls]⟩,by simp[ScD.ls],by simp[ScD.ls]⟩
    ·have:=Qan f.body;simp only[LIM];omega
    ·intro q hq;rcases Jn.1 hq with rfl|hq
     ·exact knp.l 0 rfl
     ·rcases Jn.1 hq with rfl|hq
      ·exact knp.l 1 rfl
      ·exact absurd hq (by simp[ScD.ob])
    ·have kn:=Kn.drop (A:=[(c,ckO fl l i (Qam l i f.body sj).c)]) (Kn.callLs (L:=[(c,ckO fl l i sj.c),(lm,.map n' es')]) (L':=[(c,ckO fl l i (Qam l i f.body sj).c),(lm,.map n6 es6)]) (M:=[(x5,fnO f)]) knp hu rfl (by
      intro p hp;simp only[Jn,Jt,or_false]at hp;rcases hp with rfl|rfl <;> nofun))
     simp only[go_sem];exact hQ _ kn _ rfl rfl rfl rfl rfl
 have hlt:decide (ixI (Qi1 l f.name)<(i:Int)) = !decide (Qi1 l f.name=some i):=by
  rw[hj0];simp only[ixI,Jv];by_cases h:j0=i
  ·simp[h]
  ·have:(j0:Int)<i:=by omega
   simp[h,this]
 refine Q6 ?_;refine Qa ?_;simp only[go_sem,f1,f3,f4,f5,f18,f19,f20,g5];refine Qacm ?_;simp only[go_sem,Qjn,f1,f3,f4,f5,f18,f19,f20,hlt];refine Qf (Qb rfl ?_ ?_)
 ·intro hc;have hne:¬Qi1 l f.name=some i:=by simpa using hc
  rw[ixC,if_neg hne]at two;refine Qq ?_;simp only[go_sem];refine Qac4 (kn.l 0 rfl) fun H6 hu=>?_;have kn:=kn.callL 0 rfl hu (by nofun);simp only[go_sem,AE.X.next];exact two _ _ kn rfl rfl rfl rfl rfl rfl
 ·intro hc;have heq:Qi1 l f.name=some i:=by simpa using hc
  rw[ixC,if_pos heq,Qaod]at two;refine Qe ?_;simp only[go_sem,AE.X.next];exact two _ _ kn rfl rfl rfl rfl rfl rfl
theorem Qa6o {l:List Fn}{fl:Bool}(hf:Qs l≤2^38)(g:GK H)(hK:∀H',Upd H H' []→K (.c (.int .i64 (Q62 l))) H'):Ql prog Qfn [.ag [.sl fl 3 (Qy l)]] H K:=by
 refine Q5 ?_;refine Qc Qal Q6k ?_;have retf:∀(b:Int) (e:Env) (H':Heap) (L:List (Nat×Obj)),Q62 l=b→Kn H H' [] L→lk 2 e=.c (.int .i64 b)→Qp Qcu (unK H K) .ret e H':=by
  intro b e H' L hf kn h4;simp only[go_sem,Qp,Q8,Qcu,Ja,forall_eq,RS.op,h4];refine⟨_,.c _ _ (Qg rfl),?_⟩;rw[←hf];exact hK _ kn.fin
 have kn:=Kn.start0 H;refine Qa ?_;simp only[go_sem];refine Q6 ?_;refine Qa ?_;simp only[go_sem];refine Qaas (by omega) g fun H1 hu=>?_;have kn:=kn.call0 hu;simp only[go_sem,Qjk];refine Qf (Qb rfl ?_ ?_)
 ·intro hc;have hb:Qlj l=false:=by simpa using hc
  refine Qa ?_;simp only[go_sem];refine Qh ?_;simp only[go_sem,AE.X.next];exact retf 1 _ _ _ (by rw[Q62,hb];rfl) kn rfl
 intro hc;have hb:Qlj l=true:=by simpa using hc
 have hpc:Q62 l=ckK l l.length:=by rw[Q62,if_pos hb]
 have hv:=hb;simp only[Qlj,Jq,decide_eq_true_eq,J5]at hv;refine Qe ?_;try simp only[go_sem]
 refine Qa ?_;simp only[go_sem];intro c hc0 H2 h2;have kn:=kn.al hc0 h2;simp only[go_sem,Qjl];refine Q6 ?_;refine Qa ?_;simp only[go_sem,Qw];intro hl;simp only[LIM]at hl;refine Qf (Qd (Qab (fun m e1 H1=>∃(i:Nat) (at_:Int),m=l.length-i∧i≤l.length∧Kn H H1 [] [(c,ckO fl l at_ (ckK l i))]∧
  e1=[(1,.c (.pp [.sl fl 3 (Qy l)])),(3,.c (.ptr c 0)),(18,.c (.sl fl 3 (Qy l))),(19,.c (.int .i64 l.length)),(20,.c (.int .i64 i))]) l.length ?_ ?_))
 ·exact⟨0,0,by omega,by omega,kn,rfl⟩
 ·clear kn;rintro m e1 H3 ⟨i,at_,hm,hi,kn,rfl⟩;refine Qa ?_;simp only[go_sem];refine Qf (Qb rfl ?_ ?_)
  ·intro hc;have hlt:i<l.length:=by simpa using hc
   have hms:=Qa5 (Jf hlt);have hfm:=hv.1.2 _ (Jf hlt);have hsu:=Qan3 l i;refine Qe ?_;try simp only[go_sem]
   refine Qf (Qd ?_);refine Qa ?_;simp only[go_sem,hlt,Qw,Qaf _ _ hlt,Fn.cells];intro x5 hx5 H4 h4;have kn:=kn.al hx5 h4;have g5:=kn.l 1 rfl;simp only[go_sem,Qjm,g5];intro H5 h5;have kn:=kn.stL 1 rfl h5;have gc:=kn.l 0 rfl;refine Qa ?_;simp only[go_sem,gc];intro H6 h6;have kn:Kn H H6 [] [(c,ckO fl l i (ckK l i)),(x5,fnO l[i])]:=kn.stL 0 rfl h6;refine Qbis hlt hfm (by omega) kn rfl rfl rfl rfl rfl rfl rfl (fun H7 kn e7 f1 f3 f18 f19 f20=>?_);simp only[go_sem,AE.X.next];refine Qq ?_;simp only[go_sem,AE.X.next,f1,f3,f18,f19,f20];refine⟨Q1 (by omega) (by omega),l.length-(i+1),by omega,i+1,i,rfl,by omega,?_,rfl⟩;rw[hsu];exact kn
  ·intro hc;have hge:l.length≤i:=by simpa using hc
   have hil:i=l.length:=by omega
   subst hil;have gc:=kn.l 0 rfl;refine Q9 ?_;simp only[go_sem,AE.X.next];refine Qa ?_;simp only[go_sem,gc];refine Qh ?_;exact retf _ _ _ _ hpc kn rfl
theorem Qaoe {l:List Fn}{fl:Bool}(hf:Qs l≤2^38)(g:GK H)(hK:∀H',Upd H H' []→K (.c (.bool (Qss l))) H'):Ql prog Qot [.ag [.sl fl 3 (Qy l)]] H K:=by
 refine Qc Qal Qa7k ?_;refine Qa ?_;simp only[go_sem];refine Qa ?_;simp only[go_sem];refine Qa6o hf g fun H1 hu=>?_;simp only[go_sem,Q9q];refine Qh ?_;simp only[go_sem,Qp,Q8,Qcu,Ja,forall_eq,RS.op];exact hK _ hu
end Go.AE.Y
namespace Go.AE
variable {H0 H H' F:Heap}{E L B A M:List (Nat×Obj)}{sz:Nat}{rows:List (List C)}{c:C}{Lg:List (Nat×Obj)}
def Gp (Lg:List (Nat×Obj))(sz:Nat)(rows:List (List C))(c:C):Prop:=
 (c=.sl true sz []∧rows=[]∧Lg=[])∨∃y R,c=.vsl y sz 0 rows.length∧Lg=[(y,.vec sz R)]∧R.take rows.length=rows
theorem Gp.nil (sz:Nat):Gp [] sz [] (.sl true sz []):=.inl ⟨rfl,rfl,rfl⟩
theorem Gp.isOw (h:Gp Lg sz rows c):c.isOw=false:=by rcases h with ⟨rfl,_⟩|⟨y,R,rfl,_⟩ <;> rfl
theorem Gp.slc (h:Gp Lg sz rows c)(hg:∀p∈Lg,H p.1=p.2):Slc H sz rows c:=by
 rcases h with ⟨rfl,rfl,rfl⟩|⟨y,R,rfl,rfl,hR⟩
 ·exact .mk' H true sz []
 ·have hy:H y=.vec sz R:=hg (y,.vec sz R) (by simp);have hle:rows.length≤R.length:=by
   have:=congrArg List.length hR;rw[Jo]at this;omega
  exact⟨by simp[okSl,hy,hle],rfl,by simp[rowsOf,hy,hR],rfl⟩
theorem Gp.ne (h:Gp Lg sz rows c):∀p∈Lg,p.2≠.none:=by
 rcases h with ⟨_,_,rfl⟩|⟨y,R,_,rfl,_⟩
 ·simp
 ·intro p hp;simp only[Ja]at hp;subst hp;nofun
theorem Kn.growP {K:V→Heap→Prop}{new:List (List C)}{b:C}(kn:Kn H0 H E (B++Lg))(hc:Gp Lg sz rows c)(hb:Slc H sz new b)
  (h1:∀r∈new,noOw r=true) (h2:rows.length+new.length≤LIM)
  (h:∀t Lg' H',Gp Lg' sz (rows++new) t→Kn H0 H' E (B++Lg')→K (.c t) H'):appQ H sz c b K:=by
 refine⟨hb.ok,hb.sz,?_⟩;rcases hc with ⟨rfl,rfl,rfl⟩|⟨y,R,rfl,rfl,hR⟩
 ·simp only[hb.rows,hb.len,Jaf,Jp,J7];refine⟨trivial,.inl trivial,h1,by simpa using h2,fun l hl H' hH'=>?_⟩;rw[Jam]at kn;exact h _ _ H' (.inr ⟨l,new,by simp,rfl,Jal⟩) (kn.al hl hH')
 ·have hle:rows.length≤R.length:=by
   have:=congrArg List.length hR;rw[Jo]at this;omega
  have hy:H y=.vec sz R:=(kn.get (y,.vec sz R) (by simp)).1;simp only[hy,hb.rows,hb.len,Ja7,hR];refine⟨trivial,trivial,by omega,h1,h2,fun l' hl' H' hH'=>?_⟩;refine h _ [(l',.vec sz (rows++new))] H' (.inr ⟨l',rows++new,by simp,rfl,Jal⟩) ?_;have:=kn.ap B.length (y:=y) (o:=.vec sz R) (by simp) hl' hH';simpa using this
theorem Gp.cut (h:Gp Lg sz rows c){k:Nat}(hk:k≤rows.length):Gp Lg sz (rows.take k) (sliC none (some (k:Int)) c):=by
 rcases h with ⟨rfl,rfl,rfl⟩|⟨y,R,rfl,rfl,hR⟩
 ·refine .inl ⟨?_,by simp,rfl⟩;simp[sliC]
 ·refine .inr ⟨y,R,?_,rfl,?_⟩
  ·simp only[sliC,Jat,Jab,Jo,Int.toNat_natCast,Int.toNat_zero,J7,Jbc];rw[Jav hk]
  ·rw[Jo,Jav hk,←hR,Ja8,Jav hk]
theorem Kn.side (kn:Kn F H [] (A++M)):∃F',Kn F' H [] A∧∀(A':List (Nat×Obj)) (H':Heap),Kn F' H' [] A'→Kn F H' [] (A'++M):=by
 have hnd:=kn.dL;rw[Jr]at hnd;obtain⟨d1,d2,d3⟩:=Js.1 hnd;obtain⟨F',hF'⟩:∃F':Heap,F'=fun m=>if m∈M.map Prod.fst then H m else F m:=⟨_,rfl⟩;have hin:∀m,m∈M.map Prod.fst→F' m=H m:=fun m hm=>by rw[hF'];exact if_pos hm
 have hout:∀m,m∉M.map Prod.fst→F' m=F m:=fun m hm=>by rw[hF'];exact if_neg hm
 have hM:∀p∈M,F' p.1=p.2∧p.2≠.none:=fun p hp=>by
  have:=kn.get p (by simp[hp]);rw[hin p.1 (Qbn hp)];exact this
 refine⟨F',⟨fun p hp=>kn.get p (by simp only[Jaf]at hp⊢;exact Jb _ hp),by simp,fun p hp=>?_,by simp,d1,fun m hm _=>?_⟩,fun A' H' k=>?_⟩
 ·rw[hout p.1 fun h=>d3 _ (Qbn hp) _ h rfl];exact kn.loc p (Jb _ hp)
 ·by_cases h:m∈M.map Prod.fst
  ·rw[hin m h]
  ·rw[hout m h]at hm⊢;exact kn.chg m hm (by simp)
 ·have hA:∀p∈A',p.1∉M.map Prod.fst:=fun p hp h=>by
   obtain⟨q,hq,e⟩:=Jh.1 h;have h1:=k.loc p hp;rw[←e,(hM q hq).1]at h1;exact (hM q hq).2 h1
  refine⟨fun p hp=>?_,by simp,fun p hp=>?_,by simp,?_,fun m hm _=>?_⟩
  ·simp only[Jaf]at hp;rcases Jg.1 hp with hp|hp
   ·exact k.get p (by simpa using hp)
   ·obtain⟨h1,h2⟩:=hM p hp;refine⟨?_,h2⟩;rw[k.chg p.1 (by rw[h1];exact h2) (by simp),h1]
  ·rcases Jg.1 hp with hp|hp
   ·rw[←hout p.1 (hA p hp)];exact k.loc p hp
   ·exact kn.loc p (Je _ hp)
  ·rw[Jr];refine Js.2 ⟨k.dL,d2,fun a ha b hb hab=>?_⟩;obtain⟨p,hp,rfl⟩:=Jh.1 ha;exact hA p hp (hab▸hb)
  ·have hmM:m∉M.map Prod.fst:=fun h=>by
    obtain⟨q,hq,rfl⟩:=Jh.1 h;exact hm (kn.loc q (Je _ hq))
   have:=k.chg m (by rw[hout m hmM];exact hm) (by simp);rw[this,hout m hmM]
end Go.AE
namespace Go.AE.Y
attribute [local go_sem] cond_true cond_false Bool.not_true Bool.not_false
open Go.Proofs.Tryz
variable {H H0:Heap}{K:V→Heap→Prop}{E E' L:List (Nat×Obj)}
abbrev wO (fl:Bool)(fns:List Fn)(k:Nat)(vc:C)(cnt:Nat)(code:Int):Obj:=.st [.sl fl 3 (Qy fns),.int .i64 k,vc,.int .i64 cnt,.int .i64 code]
theorem Qa0i {n:Nat}(hK:∀s,K (.c (.str s)) H):Ql prog Q4d [.c (.int .i64 n)] H K:=by
 refine Qc Qal Qbc3 ?_;have e1:((n:Int).tmod 26)=((n % 26:Nat):Int):=rfl;have h1:n % 26<26:=Nat.mod_lt _ (by omega);refine Qa ?_;simp only[go_sem];refine Qa ?_;simp only[go_sem,e1];generalize n % 26=q at *;refine⟨by decide,?_⟩;refine Qa ?_;simp only[go_sem];refine⟨Q1 (by omega) (by omega),⟨by omega,by omega⟩,?_,?_⟩
 ·simp only[LIM,Ja3,Jo,Jl,Jp];omega
 refine Qh ?_;simp only[go_sem,Qp,Q8,Qcu,Ja,forall_eq,RS.op];exact hK _
theorem Q53 {w k cnt:Nat}{fl:Bool}{fns:List Fn}{vc:C}{code n:Int}(how:vc.isOw=false)(hH:H w=wO fl fns k vc cnt code)(hK:∀H',Upd H H' [(w,wO fl fns k vc cnt (Qcs code n))]→K (.tup []) H') :
  Ql prog Qcj [.c (.ptr w 0),.c (.int .i64 n)] H K:=by
 refine Qc Qal Qaou ?_;have kn:=Kn.start1 hH (by nofun);refine Qa ?_;simp only[go_sem,hH,how];refine Qb rfl (fun hc=>?_) (fun hc=>?_)
 ·have h0:code=0:=by simpa using hc
  refine Qq ?_;simp only[go_sem,hH,how];intro H1 h1;have kn:=kn.stE 0 rfl h1;simp only[Qp,Q8,Qasa,go_sem];refine hK _ ⟨fun p hp=>?_,fun m h1 h2=>kn.chg m h1 h2⟩;rw[Qcs,if_pos h0]at hp;exact (kn.get p (Jb _ hp)).1
 ·have h0:¬code=0:=by simpa using hc
  refine Qe ?_;simp only[Qp,Q8,Qasa,go_sem];refine hK _ ⟨fun p hp=>?_,fun m h1 h2=>rfl⟩;rw[Qcs,if_neg h0]at hp;simp only[Ja]at hp;rw[hp];exact hH
def Qbil (v:Vars)(s:List UInt8)(r:Int):Prop:=
 (r=-1∧((vT v).find? fun x=>decide (x.1=s))=none)∨∃(i:Nat) (x:List UInt8×Nat×Nat),r=i∧i<(vT v).length∧(Qbp v).getD i []=row3 x∧((vT v).find? fun x=>decide (x.1=s))=some x
theorem Qa1m {w k cnt:Nat}{fl:Bool}{fns:List Fn}{vc:C}{code:Int}{v:Vars}{s:List UInt8}(how:vc.isOw=false)(hH:H w=wO fl fns k vc cnt code)(hg:Slc H 3 (Qbp v) vc)
  (hK:∀r,Qbil v s r→K (.c (.int .i64 r)) H):Ql prog Qhz [.c (.ptr w 0),.c (.str s)] H K:=by
 have hok:=eq_true hg.ok;have hrw:=hg.rows;have hln:=hg.len;have hsz:=hg.sz;rw[Qyd]at hln;refine Qc Qal Qaov ?_;have retf:∀(n:Int) (e:Env),Qbil v s n→lk 4 e=.c (.int .i64 n)→Qp Qm4 K .ret e H:=by
  intro b e hf h1;simp only[go_sem,Qp,Q8,Qm4,Ja,forall_eq,RS.op,h1];exact hK _ hf
 refine Qa ?_;simp only[go_sem];refine Q6 ?_;refine Qa ?_;simp only[go_sem,hH,how,hok,hln];intro hl;simp only[LIM]at hl;refine⟨Q1 (by omega) (by omega),?_⟩;refine Qf (Qd (Qab (fun n e1 H1=>∃(j:Nat),n=j∧j≤(vT v).length∧H1=H∧(∀x∈(vT v).take ((vT v).length-j),¬decide (x.1=s)=true)∧e1=[(0,.c (.ptr w 0)),(1,.c (.str s)),(5,.c (.int .i64 ((j:Int)-1)))]) (vT v).length ?_ ?_))
 ·exact⟨(vT v).length,rfl,by omega,rfl,by simp,rfl⟩
 ·rintro n e1 H1 ⟨j,hnj,hj,rfl,hall,rfl⟩;refine Q6 ?_;refine Qa ?_;simp only[go_sem];refine Qf (Qb rfl ?_ ?_)
  ·intro hc;have hj1:1≤j:=by simp at hc;omega
   obtain⟨i,rfl⟩:∃i,j=i+1:=⟨j-1,by omega⟩;have e1:(((i+1:Nat):Int)-1)=(i:Int):=by omega
   have hlt:i<(vT v).length:=by omega
   have hk:(vT v).length-1-i<(vT v).length:=by omega
   have hr:=Qany v hlt;have ek:(vT v).length-(i+1)=(vT v).length-1-i:=by omega
   obtain⟨x,hx⟩:∃x,(vT v)[(vT v).length-1-i]=x:=⟨_,rfl⟩;rw[hx]at hr;have hr2:=hr;rw[row3]at hr2;rw[e1]at hc⊢;refine Qe ?_;simp only[go_sem];refine Qf (Qd ?_);refine Qa ?_;simp only[go_sem,hH,how,hok,hln,hrw,hsz,hlt,hr2];refine Qb rfl ?_ ?_
   ·intro hc2;refine Qa ?_;simp only[go_sem];refine Qh ?_;simp only[go_sem,AE.X.next];refine retf _ _ (.inr ⟨i,x,rfl,hlt,hr,?_⟩) rfl;have:=Qbgo (p:=fun x:List UInt8×Nat×Nat=>decide (x.1=s)) hk (by rw[hx];exact hc2) (by rw[←ek];exact hall);rw[this,hx]
   ·intro hc2;refine Qe ?_;simp only[go_sem];refine Qq ?_;simp only[go_sem,AE.X.next];refine⟨Q1 (by omega) (by omega),i,by omega,i,rfl,by omega,?_,rfl⟩;have e2:(vT v).length-i=(vT v).length-1-i+1:=(by omega);rw[e2,Jd hk];intro y hy;rcases Jg.1 hy with hy|hy
    ·rw[←ek]at hy;exact hall y hy
    ·simp only[Ja]at hy;rw[hy,hx];intro h;rw[h]at hc2;cases hc2
  ·intro hc;have hj0:j=0:=by simp at hc;omega
   subst hj0;refine Q9 ?_;simp only[go_sem,AE.X.next];refine Qa ?_;simp only[go_sem];refine Qh ?_;refine retf (-1) _ (.inl ⟨rfl,?_⟩) rfl;rw[List.find?_eq_none];simpa using hall
theorem Qba5 {w k cnt:Nat}{fl:Bool}{fns:List Fn}{vc:C}{code:Int}{v:Vars}{s:List UInt8}(how:vc.isOw=false)(hH:H w=wO fl fns k vc cnt code)(hg:Slc H 3 (Qbp v) vc)
  (hK:∀t H',Upd H H' [(w,wO fl fns k vc cnt (Qcs code (if (v.find s).isSome then 0 else 3)))]→K (.c (.str t)) H'):Ql prog Qkp [.c (.ptr w 0),.c (.str s)] H K:=by
 have hok:=eq_true hg.ok;have hrw:=hg.rows;have hln:=hg.len;have hsz:=hg.sz;rw[Qyd]at hln;refine Qc Qal Qarp ?_;have retf:∀(t:List UInt8) (e:Env) (H':Heap),Upd H H' [(w,wO fl fns k vc cnt (Qcs code (if (v.find s).isSome then 0 else 3)))]→lk 4 e=.c (.str t)→Qp Qm4 K .ret e H':=by
  intro b e H' hu h1;simp only[go_sem,Qp,Q8,Qm4,Ja,forall_eq,RS.op,h1];exact hK _ _ hu
 refine Qa ?_;simp only[go_sem];refine Qa ?_;simp only[go_sem];refine Qa1m how hH hg fun r hr=>?_;simp only[go_sem,Qw3];refine Q6 ?_;refine Qa ?_;simp only[go_sem];have hvf:=Qbif v s;rcases hr with ⟨rfl,hf⟩|⟨i,x,rfl,hlt,hrow,hf⟩
 ·rw[hf]at hvf;rw[hvf]at retf;refine Qf (Qb rfl (fun _=>?_) (fun h=>by cases h));refine Qa ?_;simp only[go_sem];refine Q53 how hH fun H1 hu=>?_;simp only[go_sem];refine Qa ?_;simp only[go_sem];refine Qh ?_;simp only[go_sem,AE.X.next];exact retf _ _ _ hu rfl
 ·rw[hf]at hvf;rw[hvf]at retf;have hr2:=hrow;rw[row3]at hr2;refine Qf (Qb rfl (fun h=>by have:=of_decide_eq_true h;omega) (fun _=>?_));refine Qe ?_;try simp only[go_sem]
  refine Qa ?_;simp only[go_sem,hH,how,hok,hln,hrw,hsz,hlt,hr2];refine Qa0i fun t=>?_;simp only[go_sem,Qw4];refine Qh ?_;refine retf t _ _ ⟨fun q hq=>?_,fun m h1 h2=>rfl⟩ rfl;simp only[Ja]at hq;rw[hq];have e0:Qcs code (if (Option.map (fun x:List UInt8×Nat×Nat=>x.2.1) (some x)).isSome=true then 0 else 3)=code:=Qamw code;rw[e0];exact hH
theorem Qba3 {F:Heap}{w k cnt:Nat}{fl:Bool}{fns:List Fn}{vc:C}{code:Int}{b:List (List UInt8×Nat)}{r:Vars}{s:List UInt8}{Lg:List (Nat×Obj)}(hg:Gp Lg 3 (Qbp (b::r)) vc)
  (kn:Kn F H [] ((w,wO fl fns k vc cnt code)::Lg)) (hc:cnt≤2^40) (hl:(Qbp (b::r)).length+1≤LIM)
  (hK:∀t H' vc' Lg',Gp Lg' 3 (Qbp (((s,cnt)::b)::r)) vc'→Kn F H' [] ((w,wO fl fns k vc' (cnt+1) (Qcs code (if Qfl (b::r) s then 2 else 0)))::Lg')→K (.c (.str t)) H') :
  Ql prog Qko [.c (.ptr w 0),.c (.str s),.c (.int .i64 r.length)] H K:=by
 have how:=hg.isOw;have hH:=kn.l 0 rfl;have hs:=hg.slc fun p hp=>(kn.get p (by simp[hp])).1;have hok:=eq_true hs.ok;have hrw:=hs.rows;have hln:=hs.len;have hsz:=hs.sz;rw[Qyd]at hln;refine Qc Qal Qaro ?_;have tail:∀(code':Int) (H1:Heap) (e1:Env),code'=Qcs code (if Qfl (b::r) s then 2 else 0)→Kn F H1 [] ((w,wO fl fns k vc cnt code')::Lg)→lk 0 e1=.c (.ptr w 0)→lk 1 e1=.c (.str s)→lk 2 e1=.c (.int .i64 r.length)→
   Q3 prog Q1b (Qp Qbe9 K) e1 H1:=by
  intro code' H1 e1 hcode kn f0 f1 f2;subst hcode;have hH:=kn.l 0 rfl;refine Qa1 ?_;simp only[go_sem,f0,f1,f2,hH,how];refine Kn.growP (B:=[(w,wO fl fns k vc cnt (Qcs code (if Qfl (b::r) s then 2 else 0)))]) kn hg (.mk' _ true 3 _) (by simp[noOw,C.isOw]) (by simpa using hl) fun t Lg' H2 hg' kn=>?_;have how':=hg'.isOw;have hH:=kn.l 0 rfl;simp only[go_sem,Qw1,hH,how',f0,f1,f2];intro H3 h3;have kn:=kn.stL 0 rfl h3;have hH:=kn.l 0 rfl;refine Qa ?_;simp only[go_sem,hH,how',f0,f1,f2];refine⟨Q1 (by omega) (by omega),?_⟩;intro H4 h4;have kn:=kn.stL 0 rfl h4;have hH:=kn.l 0 rfl;refine Qa ?_;simp only[go_sem,hH,how',f0,f1,f2];refine⟨Q1 (by omega) (by omega),?_⟩;have en:((cnt:Int)+1-1)=((cnt:Nat):Int):=by omega
  try rw[en]
  refine Qa0i fun t'=>?_;simp only[go_sem,Qw2];refine Qh ?_;simp only[go_sem,Qp,Q8,Qbe9,Ja,forall_eq,RS.op];exact hK t' _ t Lg' (by rw[Qajh];exact hg') kn
 refine Qa ?_;simp only[go_sem];refine Qa ?_;simp only[go_sem];refine Qa1m how hH hs fun n hn=>?_;simp only[go_sem,Qw0];refine Q6 ?_;have htop:=Qbks b r s;rcases hn with ⟨rfl,hf⟩|⟨i,x,rfl,hlt,hrow,hf⟩
 ·rw[hf]at htop;have hm1:decide ((0:Int)≤-1)=false:=by decide
  have tn:Int.toNat (-1)=0:=rfl;have ht0:Qfl (b::r) s=false:=by rw[htop];rfl
  rw[ht0]at tail;obtain⟨ro,hro,hcase⟩:∃ro,(Qbp (b::r)).getD 0 []=ro∧(ro=[]∨∃a m n,ro=[.str a,.int .i64 m,.int .i64 n]):=by
   refine⟨_,rfl,?_⟩;rcases Jap (vT (b::r)).length with h0|h0
   ·refine .inl ?_;have:Qbp (b::r)=[]:=List.eq_nil_of_length_eq_zero (by rw[Qyd];exact h0);rw[this];rfl
   ·exact .inr ⟨_,_,_,Qany _ h0⟩
  refine Qa ?_;rcases hcase with rfl|⟨a,m,n,rfl⟩
  ·simp only[go_sem,hm1,hH,how,hok,hln,hrw,hsz,hro,tn,List.headD_nil];refine Qf (Qb rfl (fun h=>by cases h) (fun _=>?_));refine Qe ?_;simp only[go_sem];exact tail code _ _ (Qamw code).symm kn rfl rfl rfl
  ·simp only[go_sem,hm1,hH,how,hok,hln,hrw,hsz,hro,tn];refine Qf (Qb rfl (fun h=>by cases h) (fun _=>?_));refine Qe ?_;simp only[go_sem];exact tail code _ _ (Qamw code).symm kn rfl rfl rfl
 ·rw[hf]at htop;have hr2:=hrow;rw[row3]at hr2;have hge:decide ((0:Int)≤(i:Int))=true:=decide_eq_true (by omega);refine Qa ?_;simp only[go_sem,hge,hH,how,hok,hln,hrw,hsz,hlt,hr2];have he:decide (((x.2.2:Nat):Int)=((r.length:Nat):Int))=decide (x.2.2=r.length):=by rw[decide_eq_decide];omega
  simp only[J8,Jab]at htop;rw[←htop]at he;rw[he];refine Qf (Qb rfl (fun hc2=>?_) (fun hc2=>?_))
  ·refine Qq ?_;simp only[go_sem];refine Q53 how hH fun H1 hu=>?_;have kn:=kn.callL 0 rfl hu (by nofun);simp only[go_sem,AE.X.next];refine tail _ _ _ ?_ kn rfl rfl rfl;have:Qfl (b::r) s=true:=by simpa using hc2
   rw[this];rfl
  ·refine Qe ?_;simp only[go_sem,AE.X.next];refine tail code _ _ ?_ kn rfl rfl rfl;have:Qfl (b::r) s=false:=by simpa using hc2
   rw[this];exact (Qamw code).symm
theorem Qaqf {l:List Fn}{fl:Bool}{name:List UInt8}(hK:K (.c (.int .i64 (ixI (Qi1 l name)))) H):Ql prog Qox [.ag [.sl fl 3 (Qy l)],.c (.str name)] H K:=by
 refine Qc Qal Qa7u ?_;have retf:∀(n:Int) (e:Env),n=ixI (Qi1 l name)→lk 4 e=.c (.int .i64 n)→Qp Qm4 K .ret e H:=by
  intro b e hn h1;simp only[go_sem,Qp,Q8,Qm4,Ja,forall_eq,RS.op,h1];rw[hn];exact hK
 refine Qa ?_;simp only[go_sem];refine Q6 ?_;refine Qa ?_;simp only[go_sem];refine Qf (Qd (Qab (fun n e1 H1=>∃(i:Nat),n=l.length-i∧i≤l.length∧H1=H∧(∀f∈l.take i,¬f.name=name)∧e1=[(1,.c (.str name)),(2,.c (.pp [.sl fl 3 (Qy l)])),(5,.c (.int .i64 i))]) l.length ?_ ?_))
 ·exact⟨0,by omega,by omega,rfl,by simp,rfl⟩
 ·rintro n e1 H1 ⟨i,hn1,hi,rfl,hall,rfl⟩;refine Q6 ?_;refine Qa ?_;simp only[go_sem,Qw];intro hl;simp only[LIM]at hl;refine Qf (Qb rfl ?_ ?_)
  ·intro hc;have hlt:i<l.length:=by simpa using hc
   refine Qe ?_;simp only[go_sem];refine Qf (Qd ?_);refine Qa ?_;simp only[go_sem,hlt,Qw,Qaf _ _ hlt,Fn.cells];refine Qb rfl ?_ ?_
   ·intro hc2;have hnm:l[i].name=name:=(by simpa using hc2);refine Qa ?_;simp only[go_sem];refine Qh ?_;simp only[go_sem,AE.X.next];exact retf i _ (by rw[Qa6i hlt hnm hall];rfl) rfl
   ·intro hc2;have hnm:¬l[i].name=name:=(by simpa using hc2);refine Qe ?_;simp only[go_sem];refine Qq ?_;simp only[go_sem,AE.X.next];refine⟨Q1 (by omega) (by omega),l.length-(i+1),by omega,i+1,rfl,by omega,?_,rfl⟩;rw[Jd hlt];intro x hx;rcases Jg.1 hx with hx|hx
    ·exact hall x hx
    ·simp only[Ja]at hx;subst hx;exact hnm
  ·intro hc;have hge:l.length≤i:=by simpa using hc
   rw[Jc hge]at hall;refine Q9 ?_;simp only[go_sem,AE.X.next];refine Qa ?_;simp only[go_sem];refine Qh ?_;exact retf (-1) _ (by rw[Qa6j hall];rfl) rfl
abbrev exO (op n:Int)(nm:List UInt8)(kc:C):Obj:=.st [.int .i64 op,.int .i64 n,.str nm,kc]
theorem Qbeu {w k cnt:Nat}{fl:Bool}{fns:List Fn}{vc:C}{Lg:List (Nat×Obj)}{v:Vars}(hg:Gp Lg 3 (Qbp v) vc):∀(n:Nat) (x:Ex) (code:Int) (H:Heap) (K:V→Heap→Prop),
  x.size≤n→x.size≤2^38→((w::Lg.map Prod.fst).Nodup)→(∀p∈(w,wO fl fns k vc cnt code)::Lg,H p.1=p.2)→
  (∀(y:Ex) H',Upd H H' ((w,wO fl fns k vc cnt (Qa0 fns k v x.pre code))::Lg)→K (.ag y.cells) H')→Ql prog Qhy [.c (.ptr w 0),.ag x.cells] H K:=by
 have how:=hg.isOw;intro n
 induction n with
 |zero=>intro x code H K h;have:=x.size_pos;omega
 |succ n ih=>
 intro x code H K hn hb hnd hh hK;have hsz:=x.size_kids;have hne:∀c,∀p∈(w,wO fl fns k vc cnt c)::Lg,p.2≠.none:=by
  intro c p hp;rcases Jn.1 hp with rfl|hp
  ·nofun
  ·exact hg.ne p hp
 have kn:Kn H H ((w,wO fl fns k vc cnt code)::Lg) []:=.startE (fun p hp=>⟨hh p hp,hne _ p hp⟩) hnd;refine Q5 ?_;refine Qc Qal Qaot ?_;refine Qa ?_;simp only[go_sem,x.cells_eq];intro x3 hx3 H1 h1;have kn:=kn.al hx3 h1;simp only[go_sem,Qsl];intro x4 hx4 H2 h2;have kn:Kn H H2 ((w,wO fl fns k vc cnt code)::Lg) [(x3,exO x.op x.n x.name (.sl false 4 (Qt x.kids))),(x4,exO 0 0 [] (.sl true 4 []))]:=kn.al hx4 h2;try simp only[go_sem]
 have three:∀(H1:Heap) (e1:Env) (nm:List UInt8),Kn H H1 ((w,wO fl fns k vc cnt (Qcs code (Qdx fns k v x)))::Lg) [(x3,exO x.op x.n nm (.sl false 4 (Qt x.kids))),(x4,exO 0 0 [] (.sl true 4 []))]→
   lk 0 e1=.c (.ptr w 0)→lk 3 e1=.c (.ptr x3 0)→lk 4 e1=.c (.ptr x4 0)→Q3 prog Qi8 (Qp Qm5 (unK H K)) e1 H1:=by
  intro H1 e1 nm kn f0 f3 f4;refine Qa ?_;simp only[go_sem,f0,f3,f4];refine Q6 ?_;refine Qa ?_;simp only[go_sem];refine Qf (Qd (Qab (fun m e2 H2=>∃(j:Nat) (ks:List Ex) (Lk:List (Nat×Obj)) (t:C),m=x.kids.length-j∧j≤x.kids.length∧Gr Lk 4 (Qt ks) t∧ks.length=j∧
   Kn H H2 ((w,wO fl fns k vc cnt (Qa0 fns k v (Qac (x.kids.take j)) (Qcs code (Qdx fns k v x))))::Lg) ([(x3,exO x.op x.n nm (.sl false 4 (Qt x.kids))),(x4,exO 0 0 [] (.sl true 4 []))]++Lk)∧
   e2=[(0,.c (.ptr w 0)),(3,.c (.ptr x3 0)),(4,.c (.ptr x4 0)),(6,.c t),(7,.c (.int .i64 j))]) x.kids.length ?_ ?_))
  ·exact⟨0,[],[],.sl true 4 [],by omega,by omega,.nil 4,rfl,by simpa[Qac,Qa0]using kn,rfl⟩
  ·clear kn f0 f3 f4;rintro m e2 H2 ⟨j,ks,Lk,t,hm,hj,hgk,hks,kn,rfl⟩;have hto:=hgk.isOw;have g3:=kn.l 0 rfl;refine Q6 ?_;refine Qa ?_;simp only[go_sem,g3,hto,Qj];intro hl;simp only[LIM]at hl;refine Qf (Qb rfl ?_ ?_)
   ·intro hc;have hlt:j<x.kids.length:=(by simpa using hc);have hms:=Qau (Jf hlt);obtain⟨y,hy⟩:∃y,x.kids[j]=y:=⟨_,rfl⟩;have htk:=Qhd hlt;rw[hy]at hms htk;refine Qe ?_;try simp only[go_sem]
    refine Qf (Qd ?_);refine Qq ?_;simp only[go_sem,g3,hto,hlt,Qj,Qr _ _ hlt,hy,y.cells_eq];have hih:=fun K=>ih y (Qa0 fns k v (Qac (x.kids.take j)) (Qcs code (Qdx fns k v x))) H2 K;rw[y.cells_eq]at hih;refine hih _ (by omega) (by omega) hnd (fun p hp=>(kn.get p (Jb _ hp)).1) fun z H5 hu=>?_;have kn:=kn.callAll hu rfl (hne _);simp only[go_sem,Qsp,hto,z.cells_len];refine kn.growR hgk (.mk' _ true 4 _) (by simpa using z.noOw) (by simp only[Qj,Jl,Jp,LIM];omega) fun t' Lk' H6 hg' hto' kn=>?_;rw[Qe9]at hg';simp only[go_sem,Qso,hto'];refine Qq ?_;simp only[go_sem,AE.X.next,hto'];refine⟨Q1 (by omega) (by omega),x.kids.length-(j+1),by omega,j+1,ks++[z],Lk',t',rfl,by omega,hg',by simp[hks],?_,rfl⟩;rw[htk,Q61];exact kn
   ·intro hc;have hge:x.kids.length≤j:=(by simpa using hc);rw[Jc hge]at kn;refine Q9 ?_;simp only[go_sem,AE.X.next];refine Qa ?_;simp only[go_sem,g3,hto];intro H3 h3;have kn:=kn.stL 0 rfl h3;have g3:=kn.l 0 rfl;have g4:=kn.l 1 rfl;refine Qa ?_;simp only[go_sem,g3,g4,hto];intro H4 h4;have kn:=kn.stL 1 rfl h4;have g4:=kn.l 1 rfl;refine Qh ?_;simp only[go_sem,Qp,Q8,Qm5,Ja,forall_eq,RS.op,g4,hto];refine⟨.ag (Ex.mk x.op x.n nm ks).cells,?_,hK (Ex.mk x.op x.n nm ks) _ ?_⟩
    ·rw[Ex.cells_eq];exact (FrzL.cons (Qg rfl) (.cons (Qg rfl) (.cons (Qg rfl) (.cons (hgk.frz (B:=[_,_]) kn (Qa4 _)) .nil)))).ag
    ·rw[x.pre_eq];exact kn.fin
 have two:∀(H1:Heap) (e1:Env) (nm:List UInt8) (code1:Int),(x.op=2→code1=Qcs code (Qdx fns k v x))→(¬x.op=2→code1=code∧nm=x.name)→Kn H H1 ((w,wO fl fns k vc cnt code1)::Lg) [(x3,exO x.op x.n nm (.sl false 4 (Qt x.kids))),(x4,exO 0 0 [] (.sl true 4 []))]→
   lk 0 e1=.c (.ptr w 0)→lk 3 e1=.c (.ptr x3 0)→lk 4 e1=.c (.ptr x4 0)→Q3 prog Qsk (Qp Qm5 (unK H K)) e1 H1:=by
  intro H1 e1 nm code1 hc1 hc2 kn f0 f3 f4;have g3:=kn.l 0 rfl;have gw:=kn.e 0 rfl;refine Q6 ?_;refine Qa ?_;simp only[go_sem,f0,f3,f4,g3];refine Qf (Qb rfl ?_ ?_)
  ·intro hc;have h13:x.op=13:=by simpa using hc
   have h2:¬x.op=2:=by omega
   obtain⟨ec,en⟩:=hc2 h2;rw[ec,en]at kn;rw[ec]at gw;rw[en]at g3;have hpc:=Qa00 fns k v x;rw[if_neg h2,if_pos h13]at hpc;refine Qa1 ?_;simp only[go_sem,g3,gw,how];refine Qaqf ?_;simp only[go_sem,Qsn];have bad:∀(e2:Env),Qdx fns k v x=4→lk 0 e2=.c (.ptr w 0)→lk 3 e2=.c (.ptr x3 0)→lk 4 e2=.c (.ptr x4 0)→lk 35 e2=.c (.bool true)→Q3 prog Qwz (X.sq prog Qi8 (Qp Qm5 (unK H K))) e2 H1:=by
    intro e2 hp f0 f3 f4 f35;refine Qb (c:=true) f35 (fun _=>?_) (fun h=>by cases h);refine Qq ?_;simp only[go_sem,f0,f3,f4];refine Q53 how gw fun H3 hu=>?_;have kn:=kn.callE 0 rfl hu (by nofun);rw[←hp]at kn;simp only[go_sem,AE.X.next];exact three _ _ _ kn rfl rfl rfl
   cases hx:Qi1 fns x.name with
   |none=>
    rw[hx]at hpc;refine Qa ?_;simp only[go_sem,ixI,gw,how];exact bad _ hpc rfl rfl rfl rfl
   |some j=>
    rw[hx]at hpc;obtain⟨hj,_,_⟩:=Qt9 hx;simp only[hj,J4,J8,Jab]at hpc;have hd0:decide ((j:Int)<0)=false:=decide_eq_false (by omega);refine Qa ?_;simp only[go_sem,ixI,gw,how,hd0];by_cases hkj:k≤j
    ·have hd:decide ((k:Int)≤(j:Int))=true:=decide_eq_true (by omega);rw[if_pos hkj]at hpc;refine bad _ hpc rfl rfl rfl ?_;simp[lk,hkj]
    ·have hd:decide ((k:Int)≤(j:Int))=false:=decide_eq_false (by omega);rw[if_neg hkj]at hpc;refine Qb (c:=false) (by simp[Opd.raw,lk];omega) (fun h=>by cases h) (fun _=>?_);refine Qa1 ?_;simp only[go_sem,g3,gw,how,hj,Qw,Qaf _ _ hj,Fn.cells,Qo,Qj];refine Qb rfl ?_ ?_
     ·intro hc4;have hne:¬fns[j].params.length=x.kids.length:=by
       have h:=Qyw hc4;rw[decide_eq_false_iff_not]at h;omega
      rw[if_neg hne]at hpc;refine Qq ?_;simp only[go_sem];refine Q53 how gw fun H3 hu=>?_;have kn:=kn.callE 0 rfl hu (by nofun);rw[←hpc]at kn;simp only[go_sem,AE.X.next];exact three _ _ _ kn rfl rfl rfl
     ·intro hc4;have he:fns[j].params.length=x.kids.length:=by
       have h:=Qmu hc4;rw[decide_eq_true_eq]at h;omega
      rw[if_pos he]at hpc;refine Qe ?_;simp only[go_sem,AE.X.next];refine three _ _ x.name ?_ rfl rfl rfl;rw[hpc,Qamw];exact kn
  ·intro hc;have h13:¬x.op=13:=by simpa using hc
   refine Qe ?_;simp only[go_sem,AE.X.next];refine three _ _ nm ?_ rfl rfl rfl;by_cases h2:x.op=2
   ·rw[←hc1 h2];exact kn
   ·obtain⟨ec,_⟩:=hc2 h2;rw[ec]at kn;have hpc:=Qa00 fns k v x;rw[if_neg h2,if_neg h13]at hpc;rw[hpc,Qamw];exact kn
 have g3:=kn.l 0 rfl;have gw:=kn.e 0 rfl;refine Q6 ?_;refine Qa ?_;simp only[go_sem,g3];refine Qf (Qb rfl ?_ ?_)
 ·intro hc;have h2:x.op=2:=by simpa using hc
  have hpc:Qdx fns k v x=if (v.find x.name).isSome then 0 else 3:=by rw[Qdx,if_pos h2]
  refine Qq ?_;simp only[go_sem,g3];refine Qba5 how gw (hg.slc fun p hp=>(kn.get p (by simp[hp])).1) fun t H3 hu=>?_;have kn:=kn.callE 0 rfl hu (by nofun);have g3:=kn.l 0 rfl;simp only[go_sem,Qsm,g3];intro H4 h4;have kn:=kn.stL 0 rfl h4;try simp only[go_sem,AE.X.next]
  exact two _ _ t _ (fun _=>by rw[hpc]) (fun h=>absurd h2 h) kn rfl rfl rfl
 ·intro hc;have h2:¬x.op=2:=by simpa using hc
  refine Qe ?_;simp only[go_sem,AE.X.next];exact two _ _ x.name code (fun h=>absurd h h2) (fun _=>⟨rfl,rfl⟩) kn rfl rfl rfl
end Go.AE.Y
namespace Go.AE
variable {H0 H H' F:Heap}{E L B A M:List (Nat×Obj)}{S:Nat→Bool}
theorem Kn.sub {L':List (Nat×Obj)}(kn:Kn H0 H E L)(hs:L'.Sublist L):Kn H0 H E L':=
 ⟨fun p hp=>kn.get p (by
   rcases Jg.1 hp with h|h
   ·exact Jb _ h
   ·exact Je _ (hs.subset h)),kn.ext,fun p hp=>kn.loc p (hs.subset hp),kn.dE,kn.dL.sublist (hs.map _),kn.chg⟩
theorem Kn.stM {x:Nat}{o o':Obj}(kn:Kn H0 H E (A++(x,o)::B))(h1:H'=H.set x o')(ho:o'≠.none:=by nofun):Kn H0 H' E (A++(x,o')::B):=by
 have:=kn.stL A.length (x:=x) (o:=o) (by simp) h1 ho;simpa using this
theorem Kn.getM {x:Nat}{o:Obj}(kn:Kn H0 H E (A++(x,o)::B)):H x=o:=(kn.get (x,o) (by simp)).1
theorem Qa0a {e e':Env}(h:∀p∈e',FrzV H S (lk p.1 e) p.2):∀t,FrzV H S (lk t e) (lk t e'):=fun t=>by
 induction e' with
 |nil=>exact .unk _
 |cons p e' ih=>
  obtain⟨s,v⟩:=p;by_cases ht:t=s
  ·subst ht;have:=h (t,v) Jw;simpa[lk]using this
  ·have:=ih fun p hp=>h p (Jk _ hp);simpa[lk,ht]using this
end Go.AE
namespace Go.AE.Y
attribute [local go_sem] cond_true cond_false Bool.not_true Bool.not_false
open Go.Proofs.Tryz
variable {H H0 F:Heap}{K:V→Heap→Prop}{E E' L:List (Nat×Obj)}
def StsW (w k:Nat)(fl:Bool)(fns:List Fn)(n:Nat):Prop:=∀(sts:List St) (f5:Bool) (b:List (List UInt8×Nat)) (r:Vars) (s:Ck) (vc:C) (Lg:List (Nat×Obj)) (F H:Heap) (K:V→Heap→Prop),
 Qi sts≤n→s.v=b::r→(r≠[]→b=[])→Gp Lg 3 (Qbp (b::r)) vc→Kn F H [] ((w,wO fl fns k vc s.n s.c)::Lg)→(Qbp (b::r)).length≤s.n→s.n+Qi sts≤2^38→r.length+Qi sts≤2^38→
 (∀out H' vc' Lg',(r=[]→Gp Lg' 3 (Qbp (Qam fns k sts s).v) vc')→(r≠[]→Gp Lg' 3 (Qbp r) vc')→Kn F H' [] ((w,wO fl fns k vc' (Qam fns k sts s).n (Qam fns k sts s).c)::Lg')→K (.c (.sl false 5 (Qk out))) H')→
 Ql prog Qds [.c (.ptr w 0),.c (.sl f5 5 (Qk sts)),.c (.int .i64 r.length)] H K
abbrev stX (op:Int)(nm:List UInt8)(a b c:C):Obj:=.st [.int .i64 op,.str nm,a,b,c]
theorem Qba2 {w k x10 i many:Nat}{fl f5:Bool}{fns:List Fn}{x:St}{sts:List St}{outs:List St}{ars:List Ex}{nm:List UInt8}{t vc:C}{Lz Lg:List (Nat×Obj)}{e:Env}{Q:X→Env→Heap→Prop}{s1:Ck}{b1:List (List UInt8×Nat)}{r:Vars}
  (hN:∀n,n<x.size→StsW w k fl fns n) (hv:s1.v=b1::r) (hg:Gp Lg 3 (Qbp (b1::r)) vc) (hz:Gr Lz 5 (Qk outs) t) (ho:outs.length<2^38)
  (kn:Kn F H [] (((w,wO fl fns k vc s1.n s1.c)::Lg)++((x10,stX x.op nm (.sl false 4 (Qt ars)) (.sl false 5 (Qk x.body)) (.sl false 5 (Qk x.els)))::Lz)))
  (hrow:(Qbp (b1::r)).length≤s1.n) (hn:s1.n+Qi x.body+Qi x.els≤2^38) (hr:r.length+x.size≤2^38)
  (f0:lk 0 e=.c (.ptr w 0)) (f1:lk 1 e=.c (.sl f5 5 (Qk sts))) (f2:lk 2 e=.c (.int .i64 r.length)) (f7:lk 7 e=.c t) (f8:lk 8 e=.c (.int .i64 many)) (f9:lk 9 e=.c (.int .i64 i)) (f10:lk 10 e=.c (.ptr x10 0))
  (hQ:∀(s2 s3:Ck) H' out vc' Lg' Lz' t',Qam fns k x.body ⟨[]::s1.v,s1.c,s1.n⟩=s2→Qam fns k x.els ⟨[]::s1.v,s2.c,s2.n⟩=s3→Gp Lg' 3 (Qbp (b1::r)) vc'→Gr Lz' 5 (Qk (outs++[out])) t'→
   Kn F H' [] (((w,wO fl fns k vc' s3.n s3.c)::Lg')++Lz')→Q .nrm [(0,.c (.ptr w 0)),(1,.c (.sl f5 5 (Qk sts))),(2,.c (.int .i64 r.length)),(7,.c t'),(8,.c (.int .i64 many)),(9,.c (.int .i64 i))] H') :
  Q3 prog Qhr Q e H:=by
 have hto:=hz.isOw;have hse:=x.size_eq;have g10:=kn.getM;have elen:((r.length:Int)+1)=(((b1::r).length:Nat):Int):=by simp
 obtain⟨s2,hs2⟩:∃s2,Qam fns k x.body ⟨[]::s1.v,s1.c,s1.n⟩=s2:=⟨_,rfl⟩;obtain⟨s3,hs3⟩:∃s3,Qam fns k x.els ⟨[]::s1.v,s2.c,s2.n⟩=s3:=⟨_,rfl⟩;have hn2:=Q35 fns k x.body ⟨[]::s1.v,s1.c,s1.n⟩;rw[hs2]at hn2;simp only at hn2;refine Qa ?_;simp only[go_sem,f0,f1,f2,f7,f8,f9,f10,g10,hto];refine⟨Q1 (by omega) (by omega),?_⟩;rw[elen];obtain⟨F',kn',back⟩:=kn.side;refine hN (Qi x.body) (by omega) x.body false [] (b1::r) ⟨[]::s1.v,s1.c,s1.n⟩ vc Lg F' H _ (Jm _) (by rw[hv]) (fun _=>rfl) (by rw[Qpz];exact hg) kn' (by rw[Qpz];exact hrow) (by show s1.n+_≤_;omega) (by simp only[Jl];omega) fun out1 H1 vc1 Lg1 _ hg1 kn=>?_;have hg1:=hg1 (by simp);rw[hs2]at kn;have kn:=back _ _ kn;clear back kn';have g10:=kn.getM;simp only[go_sem,Qnp,f0,f1,f2,f7,f8,f9,f10,g10,hto];intro H2 h2;have kn:=kn.stM h2;have g10:=kn.getM;refine Qa ?_;simp only[go_sem,g10,hto];refine⟨Q1 (by omega) (by omega),?_⟩;rw[elen];obtain⟨F',kn',back⟩:=kn.side;refine hN (Qi x.els) (by omega) x.els false [] (b1::r) ⟨[]::s1.v,s2.c,s2.n⟩ vc1 Lg1 F' H2 _ (Jm _) (by rw[hv]) (fun _=>rfl) (by rw[Qpz];exact hg1) kn' (by rw[Qpz];show _≤s2.n;omega) (by show s2.n+_≤_;omega) (by simp only[Jl];omega) fun out2 H3 vc2 Lg2 _ hg2 kn=>?_;have hg2:=hg2 (by simp);rw[hs3]at kn;have kn:=back _ _ kn;clear back kn';have g10:=kn.getM;simp only[go_sem,Qnq,g10,hto];intro H4 h4;have kn:=kn.stM h4;have g10:=kn.getM;refine Qq ?_;simp only[go_sem,g10,hto];have kn:Kn F H4 [] ((((w,wO fl fns k vc2 s3.n s3.c)::Lg2)++[(x10,stX x.op nm (.sl false 4 (Qt ars)) (.sl false 5 (Qk out1)) (.sl false 5 (Qk out2)))])++Lz):=by
  rw[Jj];exact kn
 refine kn.growR hz (new:=[(St.mk x.op nm ars out1 out2).cells]) (.mk' _ true 5 _) (by simpa using (St.mk x.op nm ars out1 out2).noOw) (by simp only[Qx,Jl,Jp,LIM];omega) fun t' Lz' H5 hz' hto' kn=>?_;rw[Qanw]at hz';simp only[go_sem,Qnr,hto'];refine hQ s2 s3 H5 (St.mk x.op nm ars out1 out2) vc2 Lg2 Lz' t' hs2 hs3 hg2 hz' ?_;refine kn.sub ?_;rw[Jj];exact List.Sublist.append (List.Sublist.refl _) (List.sublist_append_right _ _)
theorem Qbig {w k x10 i many:Nat}{fl f5:Bool}{fns:List Fn}{x:St}{sts:List St}{outs:List St}{ars:List Ex}{t vc:C}{Lz Lg:List (Nat×Obj)}{e:Env}{Q:X→Env→Heap→Prop}{s:Ck}{b:List (List UInt8×Nat)}{r:Vars}
  (hN:∀n,n<x.size→StsW w k fl fns n) (hv:s.v=b::r) (hg:Gp Lg 3 (Qbp (b::r)) vc) (hz:Gr Lz 5 (Qk outs) t) (ho:outs.length<2^38)
  (kn:Kn F H [] (((w,wO fl fns k vc s.n (Qa0 fns k (b::r) (Qac x.args) s.c))::Lg)++((x10,stX x.op x.name (.sl false 4 (Qt ars)) (.sl false 5 (Qk x.body)) (.sl false 5 (Qk x.els)))::Lz)))
  (hrow:(Qbp (b::r)).length≤s.n) (hn:s.n+x.size≤2^38) (hr:r.length+x.size≤2^38)
  (f0:lk 0 e=.c (.ptr w 0)) (f1:lk 1 e=.c (.sl f5 5 (Qk sts))) (f2:lk 2 e=.c (.int .i64 r.length)) (f7:lk 7 e=.c t) (f8:lk 8 e=.c (.int .i64 many)) (f9:lk 9 e=.c (.int .i64 i)) (f10:lk 10 e=.c (.ptr x10 0))
  (hQ:∀H' out vc' Lg' Lz' t' b1,(x.ck fns k s).v=b1::r→Gp Lg' 3 (Qbp (b1::r)) vc'→(Qbp (b1::r)).length≤(x.ck fns k s).n→Gr Lz' 5 (Qk (outs++[out])) t'→
   Kn F H' [] (((w,wO fl fns k vc' (x.ck fns k s).n (x.ck fns k s).c)::Lg')++Lz')→Q .nrm [(0,.c (.ptr w 0)),(1,.c (.sl f5 5 (Qk sts))),(2,.c (.int .i64 r.length)),(7,.c t'),(8,.c (.int .i64 many)),(9,.c (.int .i64 i))] H') :
  Q3 prog Qpo Q e H:=by
 have hto:=hz.isOw;have hse:=x.size_eq;have how:=hg.isOw;have g10:=kn.getM;obtain⟨s1,hs1⟩:∃s1,stC fns k x.op x.name x.args s=s1:=⟨_,rfl⟩;have hn1:=Qbke fns k x.op x.name x.args s;have hr1:=Qbea fns k x.op x.name x.args s hv hrow;obtain⟨b1,hv1⟩:=Qbeb fns k x.op x.name x.args s hv;have hc1:=Qbfg fns k x.op x.name x.args s;rw[hs1]at hn1 hr1 hv1 hc1;rw[hv1]at hr1;rw[hv]at hc1;have hck:=x.ck_eq fns k s;rw[hs1]at hck;have tail:∀(H1:Heap) (e1:Env) (nm:List UInt8) (vc1:C) (Lg1:List (Nat×Obj)),Gp Lg1 3 (Qbp (b1::r)) vc1→
   Kn F H1 [] (((w,wO fl fns k vc1 s1.n s1.c)::Lg1)++((x10,stX x.op nm (.sl false 4 (Qt ars)) (.sl false 5 (Qk x.body)) (.sl false 5 (Qk x.els)))::Lz))→
   lk 0 e1=.c (.ptr w 0)→lk 1 e1=.c (.sl f5 5 (Qk sts))→lk 2 e1=.c (.int .i64 r.length)→lk 7 e1=.c t→lk 8 e1=.c (.int .i64 many)→lk 9 e1=.c (.int .i64 i)→lk 10 e1=.c (.ptr x10 0)→
   Q3 prog Qhr Q e1 H1:=by
  intro H1 e1 nm vc1 Lg1 hg1 kn f0 f1 f2 f7 f8 f9 f10;refine Qba2 hN hv1 hg1 hz ho kn hr1 (by omega) hr f0 f1 f2 f7 f8 f9 f10 fun s2 s3 H' out vc' Lg' Lz' t' e2 e3 hg' hz' kn=>?_;rw[e2,e3]at hck;refine hQ H' out vc' Lg' Lz' t' b1 (by rw[hck];exact hv1) hg' ?_ hz' (by rw[hck];exact kn);have:=(St.ck_n fns k x s).1;rw[hck]at this⊢;have h2:=Q35 fns k x.body ⟨[]::s1.v,s1.c,s1.n⟩;have h3:=Q35 fns k x.els ⟨[]::s1.v,s2.c,s2.n⟩;rw[e2]at h2;rw[e3]at h3;simp only at h2 h3⊢;omega
 refine Q6 ?_;refine Qa ?_;simp only[go_sem,f0,f1,f2,f7,f8,f9,f10,g10,hto];refine Qf (Qb rfl ?_ ?_)
 ·intro hc;have h1:x.op=1:=by simpa using hc
  have es1:s1=⟨((x.name,s.n)::b)::r,Qcs (Qa0 fns k (b::r) (Qac x.args) s.c) (if Qfl (b::r) x.name then 2 else 0),s.n+1⟩:=by
   rw[←hs1,stC,if_pos h1,hv];rfl
  rw[es1]at tail hv1;simp only[Jad]at hv1;obtain⟨hb1,_⟩:=hv1;subst hb1;refine Qq ?_;simp only[go_sem,g10,hto];obtain⟨F',kn',back⟩:=kn.side;refine Qba3 hg kn' (by omega) (by simp only[LIM];omega) fun t2 H1 vc1 Lg1 hg1 kn=>?_;have kn:=back _ _ kn;have g10:=kn.getM;simp only[go_sem,Qpt,g10,hto];intro H2 h2;have kn:=kn.stM h2;have g10:=kn.getM;try simp only[go_sem,AE.X.next,hto]
  refine Q6 ?_;refine Qa ?_;simp only[go_sem,g10,hto];refine Qf (Qb rfl (fun h=>?_) (fun _=>?_))
  ·have:=of_decide_eq_true h;omega
  ·refine Qe ?_;try simp only[go_sem,AE.X.next,hto]
   exact tail _ _ t2 vc1 Lg1 hg1 kn rfl rfl rfl rfl rfl rfl rfl
 ·intro hc;have h1:¬x.op=1:=by simpa using hc
  refine Qe ?_;try simp only[go_sem,AE.X.next,hto]
  refine Q6 ?_;refine Qa ?_;simp only[go_sem,g10,hto];refine Qf (Qb rfl ?_ ?_)
  ·intro hc2;have h2:x.op=2:=by simpa using hc2
   have es1:s1=⟨b::r,Qcs (Qa0 fns k (b::r) (Qac x.args) s.c) (if (Vars.find (b::r) x.name).isSome then 0 else 3),s.n⟩:=by
    rw[←hs1,stC,if_neg h1,if_pos h2,hv]
   rw[es1]at tail hv1;simp only[Jad]at hv1;obtain⟨hb1,_⟩:=hv1;subst hb1;refine Qq ?_;simp only[go_sem,g10,hto];refine Qba5 how (kn.l 0 rfl) (hg.slc fun p hp=>(kn.get p (by simp[hp])).1) fun t2 H1 hu=>?_;have kn:Kn F H1 [] (((w,wO fl fns k vc s.n (Qcs (Qa0 fns k (b::r) (Qac x.args) s.c) (if (Vars.find (b::r) x.name).isSome then 0 else 3)))::Lg)++((x10,stX x.op x.name (.sl false 4 (Qt ars)) (.sl false 5 (Qk x.body)) (.sl false 5 (Qk x.els)))::Lz)):=kn.callL 0 rfl hu (by nofun);have g10:=kn.getM;simp only[go_sem,Qpu,g10,hto];intro H2 h2;have kn:=kn.stM h2;try simp only[go_sem,AE.X.next,hto]
   exact tail _ _ t2 vc Lg hg kn rfl rfl rfl rfl rfl rfl rfl
  ·intro hc2;have h2:¬x.op=2:=by simpa using hc2
   have es1:s1=⟨b::r,Qa0 fns k (b::r) (Qac x.args) s.c,s.n⟩:=by
    rw[←hs1,stC,if_neg h1,if_neg h2,hv]
   rw[es1]at tail hv1;simp only[Jad]at hv1;obtain⟨hb1,_⟩:=hv1;subst hb1;refine Qe ?_;try simp only[go_sem,AE.X.next,hto]
   exact tail _ _ x.name vc Lg hg kn rfl rfl rfl rfl rfl rfl rfl
theorem Qba4 (w k:Nat)(fl:Bool)(fns:List Fn):∀n,StsW w k fl fns n:=by
 intro n
 induction n using Nat.strongRecOn with
 |_ n ih=>
 intro sts f5 b r s vc Lg F H K hn hsv hbr hg kn hrow hsn hrl hK;have how:=hg.isOw;have hslen:=Qan sts;refine Qacu ?_;refine Qc Qal Qajs ?_;refine Qa ?_;simp only[go_sem];refine Qa ?_;simp only[go_sem];have gw:=kn.l 0 rfl;have hs0:=hg.slc fun p hp=>(kn.get p (by simp[hp])).1;have hok0:=eq_true hs0.ok;have hln0:=hs0.len;refine Qa ?_;simp only[go_sem,gw,how,hok0,hln0];intro hl0;simp only[LIM]at hl0;refine Q6 ?_;refine Qa ?_;simp only[go_sem];refine Qf (Qd (Qab (fun m e1 H1=>∃(i:Nat) (outs:List St) (Lz Lgi:List (Nat×Obj)) (t vci:C) (bi:List (List UInt8×Nat)),m=sts.length-i∧i≤sts.length∧(Qam fns k (sts.take i) s).v=bi::r∧Gr Lz 5 (Qk outs) t∧outs.length=i∧
   Gp Lgi 3 (Qbp (bi::r)) vci∧(Qbp (bi::r)).length≤(Qam fns k (sts.take i) s).n∧Kn F H1 [] (((w,wO fl fns k vci (Qam fns k (sts.take i) s).n (Qam fns k (sts.take i) s).c)::Lgi)++Lz)∧
   e1=[(0,.c (.ptr w 0)),(1,.c (.sl f5 5 (Qk sts))),(2,.c (.int .i64 r.length)),(7,.c t),(8,.c (.int .i64 (Qbp (b::r)).length)),(9,.c (.int .i64 i))]) sts.length ?_ ?_))
 ·exact⟨0,[],[],Lg,.sl true 5 [],vc,b,by omega,by omega,by simpa[Qam]using hsv,.nil 5,rfl,hg,by simpa[Qam]using hrow,by simpa[Qam]using kn,rfl⟩
 ·clear kn gw hs0 hok0 hln0;rintro m e1 H1 ⟨i,outs,Lz,Lgi,t,vci,bi,hm,hi,hvi,hz,hol,hgi,hri,kn,rfl⟩;have hni:=Q35 fns k (sts.take i) s;have hsl:=Qbl sts i;obtain⟨si,hsi⟩:∃si,Qam fns k (sts.take i) s=si:=⟨_,rfl⟩;rw[hsi]at hvi kn hri hni;have hto:=hz.isOw;have howi:=hgi.isOw;refine Q6 ?_;refine Qa ?_;simp only[go_sem,hto,Qx];intro hl;simp only[LIM]at hl;refine Qf (Qb rfl ?_ ?_)
  ·intro hc;have hlt:i<sts.length:=by simpa using hc
   have hms:=Qa3 (Jf hlt);obtain⟨x,hx⟩:∃x,sts[i]=x:=⟨_,rfl⟩;have htk:=Qanv fns k hlt s;have hst:=Qi0 hlt;have hsl2:=Qbl sts (i+1);rw[hx]at hms hst;rw[hsi,hx]at htk;have hse:=x.size_eq;refine Qe ?_;try simp only[go_sem]
   refine Qf (Qd ?_);refine Qa ?_;simp only[go_sem,hto,hlt,Qx,Qbe _ _ hlt,hx,x.cells_eq];intro x10 hx10 H3 h3;have kn:Kn F H3 [] (((w,wO fl fns k vci si.n si.c)::Lgi)++((x10,stX 0 [] (.sl true 4 []) (.sl true 5 []) (.sl true 5 []))::Lz)):=(kn.al hx10 h3).perm (by
    rw[Jj];exact Jah _ (Jy (l₁:=Lz) (l₂:=[(x10,_)])))
   have g10:=kn.getM;simp only[go_sem,Qpq,g10,hto];intro H4 h4;have kn:Kn F H4 [] (((w,wO fl fns k vci si.n si.c)::Lgi)++((x10,stO x)::Lz)):=kn.stM h4;have g10:=kn.getM;refine Qa ?_;simp only[go_sem,hto];refine Q6 ?_;refine Qa ?_;simp only[go_sem,hto];refine Qf (Qd (Qab (fun m e2 H5=>∃(j:Nat) (ars:List Ex) (La:List (Nat×Obj)) (ta:C),m=x.args.length-j∧j≤x.args.length∧Gr La 4 (Qt ars) ta∧ars.length=j∧
    Kn F H5 [] ((((w,wO fl fns k vci si.n (Qa0 fns k (bi::r) (Qac (x.args.take j)) si.c))::Lgi)++((x10,stO x)::Lz))++La)∧
    e2=[(0,.c (.ptr w 0)),(1,.c (.sl f5 5 (Qk sts))),(2,.c (.int .i64 r.length)),(7,.c t),(8,.c (.int .i64 (Qbp (b::r)).length)),(9,.c (.int .i64 i)),(10,.c (.ptr x10 0)),(11,.c ta),(12,.c (.int .i64 j))]) x.args.length ?_ ?_))
   ·exact⟨0,[],[],.sl true 4 [],by omega,by omega,.nil 4,rfl,by simpa[Qac,Qa0]using kn,rfl⟩
   ·clear kn g10 h4 h3;rintro m2 e2 H5 ⟨j,ars,La,ta,hm2,hj,hga,hars,kn,rfl⟩;have hao:=hga.isOw;have kn2:Kn F H5 [] (((w,wO fl fns k vci si.n (Qa0 fns k (bi::r) (Qac (x.args.take j)) si.c))::Lgi)++((x10,stO x)::(Lz++La))):=by
     rw[Jj]at kn;exact kn
    have g10:=kn2.getM;refine Q6 ?_;refine Qa ?_;simp only[go_sem,hto,hao,g10,Qj];intro hl2;simp only[LIM]at hl2;refine Qf (Qb rfl ?_ ?_)
    ·intro hc2;have hlt2:j<x.args.length:=(by simpa using hc2);have hms2:=Qau (Jf hlt2);obtain⟨y,hy⟩:∃y,x.args[j]=y:=⟨_,rfl⟩;have htk2:=Qhd hlt2;rw[hy]at hms2 htk2;refine Qe ?_;try simp only[go_sem]
     refine Qf (Qd ?_);refine Qq ?_;simp only[go_sem,hto,hao,g10,hlt2,Qj,Qr _ _ hlt2,hy,y.cells_eq];have hE:=fun K=>Qbeu (k:=k) (w:=w) (cnt:=si.n) (fl:=fl) (fns:=fns) hgi y.size y (Qa0 fns k (bi::r) (Qac (x.args.take j)) si.c) H5 K;rw[y.cells_eq]at hE;have hnd:(w::Lgi.map Prod.fst).Nodup:=by
      have:=kn2.dL;rw[Jr]at this;exact (Js.1 this).1
     refine hE _ (Jm _) (by omega) hnd (fun p hp=>(kn2.get p (by simp only[Jaf];exact Jb _ hp)).1) fun z H6 hu=>?_;have kn:=Kn.callLs (L:=(w,wO fl fns k vci si.n (Qa0 fns k (bi::r) (Qac (x.args.take j)) si.c))::Lgi) (M:=(x10,stO x)::(Lz++La)) kn2 hu rfl (by
      intro p hp;rcases Jn.1 hp with rfl|hp
      ·nofun
      ·exact hgi.ne p hp)
     simp only[go_sem,Qps,hto,hao,z.cells_len];have kn:Kn F H6 [] ((((w,wO fl fns k vci si.n (Qa0 fns k (bi::r) y.pre (Qa0 fns k (bi::r) (Qac (x.args.take j)) si.c)))::Lgi)++((x10,stO x)::Lz))++La):=by
      rw[Jj];exact kn
     refine kn.growR hga (.mk' _ true 4 _) (by simpa using z.noOw) (by simp only[Qj,Jl,Jp,LIM];omega) fun ta' La' H7 hga' hao' kn=>?_;rw[Qe9]at hga';simp only[go_sem,Qpr,hto,hao'];refine Qq ?_;simp only[go_sem,AE.X.next,hto,hao'];refine⟨Q1 (by omega) (by omega),x.args.length-(j+1),by omega,j+1,ars++[z],La',ta',rfl,by omega,hga',by simp[hars],?_,rfl⟩;rw[htk2,Q61];exact kn
    ·intro hc2;have hge2:x.args.length≤j:=(by simpa using hc2);rw[Jc hge2]at kn;refine Q9 ?_;simp only[go_sem,AE.X.next];obtain⟨S,H6,f1,f2,kn⟩:=hga.freeze kn (Qa4 _);refine Q6 ?_;refine c_gh (Qoz S (Qa0a ?_) f2) (e':=[(0,.c (.ptr w 0)),(1,.c (.sl f5 5 (Qk sts))),(2,.c (.int .i64 r.length)),(7,.c t),(8,.c (.int .i64 (Qbp (b::r)).length)),(9,.c (.int .i64 i)),(10,.c (.ptr x10 0)),(11,.c (.sl false 4 (Qt ars)))]) ?_
     ·intro p hp;simp only[Jn,Jt,or_false]at hp;rcases hp with rfl|rfl|rfl|rfl|rfl|rfl|rfl|rfl
      ·exact .c _ _ (.same _ rfl)
      ·exact .c _ _ (.same _ rfl)
      ·exact .c _ _ (.same _ rfl)
      ·exact .c _ _ (.same _ hto)
      ·exact .c _ _ (.same _ rfl)
      ·exact .c _ _ (.same _ rfl)
      ·exact .c _ _ (.same _ rfl)
      ·exact .c _ _ f1
     have g10:=kn.getM;refine Qa ?_;simp only[go_sem,hto,g10];intro H7 h7;have kn:=kn.stM h7;refine Qbig (fun n' hn'=>ih n' (by omega)) hvi hgi hz (by omega) kn hri (by omega) (by omega) rfl rfl rfl rfl rfl rfl rfl fun H8 out vc8 Lg8 Lz8 t8 b8 hv8 hg8 hr8 hz8 kn=>?_;have hto8:=hz8.isOw;simp only[go_sem,AE.X.next,hto8];refine Qq ?_;simp only[go_sem,AE.X.next,hto8];refine⟨Q1 (by omega) (by omega),sts.length-(i+1),by omega,i+1,outs++[out],Lz8,Lg8,t8,vc8,b8,rfl,by omega,?_,hz8,by simp[hol],hg8,?_,?_,rfl⟩
     ·rw[htk];exact hv8
     ·rw[htk];exact hr8
     ·rw[htk];exact kn
  ·intro hc;have hge:sts.length≤i:=by simpa using hc
   rw[Jc hge]at hsi;have gw:=kn.l 0 rfl;have hsi2:=hgi.slc fun p hp=>(kn.get p (by simp[hp])).1;have hoki:=eq_true hsi2.ok;have hlni:=hsi2.len;have hszi:=hsi2.sz;refine Q9 ?_;simp only[go_sem,AE.X.next];have fin:∀(H':Heap) (e':Env) (vc':C),(r=[]→Gp Lgi 3 (Qbp si.v) vc')→(r≠[]→Gp Lgi 3 (Qbp r) vc')→Kn F H' [] (((w,wO fl fns k vc' si.n si.c)::Lgi)++Lz)→lk 7 e'=.c t→Q3 prog Qpp (Qp Qbe9 (finK K)) e' H':=by
    intro H' e' vc' h1 h2 kn f7;refine Qa ?_;simp only[go_sem,f7,hto];refine Qh ?_;simp only[go_sem,Qp,Q8,Qbe9,Ja,forall_eq,RS.op,hto];obtain⟨S,H6,f1,f2,kn⟩:=hz.freeze kn (Qas _);refine⟨S,_,H6,.c _ _ f1,f2,?_⟩;rw[hsi]at hK;exact hK outs H6 vc' Lgi h1 h2 kn
   refine Q6 ?_;refine Qa ?_;simp only[go_sem,hto];refine Qf (Qb rfl ?_ ?_)
   ·intro hc2;have hr0:r≠[]:=by
     intro h;rw[h]at hc2;simp at hc2
    have hb0:=hbr hr0;rw[hb0,Qpz];have hle:=Qbet bi r;have hcut:=hgi.cut hle;rw[Qa5g]at hcut;refine Qq ?_;simp only[go_sem,gw,howi,hto,hoki,hlni,hszi,bnds,Ja6,J8,Jat,Jab];refine⟨⟨by omega,by omega⟩,?_⟩;intro H7 h7;have hco:=hcut.isOw;have kn:=kn.stL 0 rfl h7;try simp only[go_sem,AE.X.next,hto]
    exact fin _ _ _ (fun h=>absurd h hr0) (fun _=>hcut) kn rfl
   ·intro hc2;have hr0:r=[]:=by
     cases hr:r with
     |nil=>rfl
     |cons a q=>rw[hr]at hc2;simp only[Jl,decide_eq_false_iff_not]at hc2;omega
    refine Qe ?_;try simp only[go_sem,AE.X.next,hto]
    exact fin _ _ vci (fun _=>by rw[hvi];exact hgi) (fun h=>absurd hr0 h) kn rfl
end Go.AE.Y
namespace Go.AE
variable {H0 H H' F:Heap}{E L B A M:List (Nat×Obj)}{p:Nat×Obj}
theorem Kn.stM2 {x:Nat}{o o':Obj}(kn:Kn H0 H E (A++p::(x,o)::B))(h1:H'=H.set x o')(ho:o'≠.none:=by nofun):Kn H0 H' E (A++p::(x,o')::B):=by
 have k2:Kn H0 H E ((A++[p])++(x,o)::B):=by rw[Jj];exact kn
 have k3:=k2.stM h1 ho;rw[Jj]at k3;exact k3
theorem Kn.getM2 {x:Nat}{o:Obj}(kn:Kn H0 H E (A++p::(x,o)::B)):H x=o:=(kn.get (x,o) (by simp)).1
end Go.AE
namespace Go.AE.Y
attribute [local go_sem] cond_true cond_false Bool.not_true Bool.not_false
open Go.Proofs.Tryz
variable {H H0 F:Heap}{K:V→Heap→Prop}{E E' L:List (Nat×Obj)}
theorem Qbjc (l:List Fn)(s:List UInt8)(k:Nat):decide (ixI (Qi1 l s)=(k:Int))=decide (Qi1 l s=some k):=by
 rw[decide_eq_decide]
 cases Qi1 l s with
 |none=>simp only[ixI];constructor
        ·intro h;omega
        ·intro h;cases h
 |some j=>simp only[ixI,Jv];omega
theorem Qbje {fns:List Fn}{fl:Bool}{k:Nat}(hk:k<fns.length)(hb:Qi fns[k].body≤2^36)(hp:fns[k].params.length≤2^30)
  (hK:∀(f':Fn) (cnt:Nat) H',Upd H H' []→K (.tup [.ag f'.cells,.c (.int .i64 (fnCk fns k).c),.c (.int .i64 cnt)]) H'):Ql prog Qavz [.ag [.sl fl 3 (Qy fns)],.c (.int .i64 k)] H K:=by
 obtain⟨f,hfe⟩:∃f,fns[k]=f:=⟨_,rfl⟩;have hfc:fnCk fns k=Qam fns k f.body (Qt6 f.params ⟨[[]],ixC fns k f.name,0⟩):=by
  rw[fnCk,J4 hk,hfe];rfl
 rw[hfe]at hb hp;obtain⟨s0,hs0⟩:∃s0:Ck,(⟨[[]],ixC fns k f.name,0⟩:Ck)=s0:=⟨_,rfl⟩;rw[hs0]at hfc;have hs0v:s0.v=[[]]:=by rw[←hs0]
 have hs0n:s0.n=0:=by rw[←hs0]
 have hs0c:s0.c=ixC fns k f.name:=by rw[←hs0]
 refine Q5 ?_;refine Qc Qal Qbjm ?_;refine Qa ?_;simp only[go_sem];intro x4 hx4 H1 h1;have kn:=(Kn.start0 H).al hx4 h1;simp only[go_sem,Qatl];refine Qa ?_;simp only[go_sem];intro w hw H2 h2;have kn:=kn.al hw h2;simp only[go_sem,Qatm];refine Qa ?_;simp only[go_sem,hk,Qw,Qaf _ _ hk,hfe,Fn.cells];intro x8 hx8 H3 h3;have kn:=kn.al hx8 h3;have g8:=kn.l 2 rfl;simp only[go_sem,Qatn,g8];intro H4 h4;have kn:=kn.stL 2 rfl h4;have kn:Kn H H4 [] (((w,wO fl fns k (.sl true 3 []) 0 0)::[])++(x4,.st [.str [],.sl true 1 [],.sl true 5 []])::(x8,fnO f)::[]):=kn.perm (.swap _ _ _);have g8:=kn.getM2;refine Q6 ?_;refine Qa ?_;simp only[go_sem,g8];refine Qaqf ?_;have hix:=Qbjc fns f.name k;simp only[go_sem,Qato,hix];have two:∀(H1:Heap) (e1:Env),Kn H H1 [] (((w,wO fl fns k (.sl true 3 []) 0 (ixC fns k f.name))::[])++(x4,.st [.str [],.sl true 1 [],.sl true 5 []])::(x8,fnO f)::[])→lk 4 e1=.c (.ptr x4 0)→lk 7 e1=.c (.ptr w 0)→lk 8 e1=.c (.ptr x8 0)→
   Q3 prog Qatk (Qp Qa8g (unK H K)) e1 H1:=by
  intro H1 e1 kn f4 f7 f8;have kn:Kn H H1 [] (((w,wO fl fns k (.sl true 3 []) s0.n s0.c)::[])++(x4,.st [.str [],.sl true 1 [],.sl true 5 []])::(x8,fnO f)::[]):=by rw[hs0n,hs0c];exact kn
  refine Qa ?_;simp only[go_sem,f4,f7,f8];refine Q6 ?_;refine Qa ?_;simp only[go_sem];refine Qf (Qd (Qab (fun m e2 H2=>∃(j:Nat) (ps:List (List UInt8)) (Lg Lp:List (Nat×Obj)) (vc t:C) (bj:List (List UInt8×Nat)),m=f.params.length-j∧j≤f.params.length∧(Qt6 (f.params.take j) s0).v=[bj]∧(Qt6 (f.params.take j) s0).n=j∧(Qbp [bj]).length≤j∧
   Gp Lg 3 (Qbp [bj]) vc∧Gr Lp 1 (Q0 ps) t∧ps.length=j∧
   Kn H H2 [] (((w,wO fl fns k vc (Qt6 (f.params.take j) s0).n (Qt6 (f.params.take j) s0).c)::Lg)++(x4,.st [.str [],.sl true 1 [],.sl true 5 []])::(x8,fnO f)::Lp)∧
   e2=[(4,.c (.ptr x4 0)),(7,.c (.ptr w 0)),(8,.c (.ptr x8 0)),(9,.c t),(10,.c (.int .i64 j))]) f.params.length ?_ ?_))
  ·exact⟨0,[],[],[],.sl true 3 [],.sl true 1 [],[],by omega,by omega,hs0v,hs0n,by simp[Qbp,vT],.nil 3,.nil 1,rfl,kn,rfl⟩
  ·clear kn;rintro m e2 H2 ⟨j,ps,Lg,Lp,vc,t,bj,hm,hj,hvj,hnj,hrj,hg,hgp,hps,kn,rfl⟩;obtain⟨sj,hsj⟩:∃sj,Qt6 (f.params.take j) s0=sj:=⟨_,rfl⟩;rw[hsj]at hvj kn hnj;have hto:=hgp.isOw;have g8:=kn.getM2;refine Q6 ?_;refine Qa ?_;simp only[go_sem,g8,hto,Qo];intro hl;simp only[LIM]at hl;refine Qf (Qb rfl ?_ ?_)
   ·intro hc;have hlt:j<f.params.length:=(by simpa using hc);obtain⟨p,hpe⟩:∃p,f.params[j]=p:=⟨_,rfl⟩;have hpd:f.params.getD j []=p:=(by simp[Ji,hlt,hpe]);have htk:=Qar0 hlt s0;rw[hsj,hpe,hvj]at htk;refine Qe ?_;try simp only[go_sem]
    refine Qf (Qd ?_);refine Qq ?_;simp only[go_sem,g8,hto,hlt,Qo,Qbo _ _ hlt,hpd];obtain⟨F',kn',back⟩:=kn.side;refine Qba3 (r:=[]) hg kn' (by omega) (by simp only[LIM];omega) fun t2 H5 vc' Lg' hg' kn=>?_;have kn:=back _ _ kn;simp only[go_sem,Qatq,hto];have kn:Kn H H5 [] ((((w,wO fl fns k vc' (sj.n+1) (Qcs sj.c (if Qfl [bj] p then 2 else 0)))::Lg')++[(x4,.st [.str [],.sl true 1 [],.sl true 5 []]),(x8,fnO f)])++Lp):=(by rw[Jj];exact kn);refine kn.growR hgp (.mk' _ true 1 _) (by simp[noOw,C.isOw]) (by simp only[Qo,Jl,Jp,LIM];omega) fun t' Lp' H6 hgp' hto' kn=>?_;rw[Q34]at hgp';simp only[go_sem,Qatp,hto'];refine Qq ?_;simp only[go_sem,AE.X.next,hto'];refine⟨Q1 (by omega) (by omega),f.params.length-(j+1),by omega,j+1,ps++[t2],Lg',Lp',vc',t',(p,sj.n)::bj,rfl,by omega,?_,?_,?_,hg',hgp',by simp[hps],?_,rfl⟩
    ·rw[htk];simp[Qa8]
    ·rw[htk];simp[hnj]
    ·rw[Qajh];simp only[Jz,List.length_singleton];omega
    ·rw[htk];rw[Jj]at kn;exact kn
   ·intro hc;have hge:f.params.length≤j:=(by simpa using hc);rw[Jc hge]at hsj;rw[hsj]at hfc;refine Q9 ?_;simp only[go_sem,AE.X.next];refine Qa ?_;simp only[go_sem,g8,hto];intro H5 h5;have kn:=kn.stM2 h5;have g8:=kn.getM2;refine Qa ?_;simp only[go_sem,g8,hto];obtain⟨F',kn',back⟩:=kn.side;refine Qba4 w k fl fns (Qi f.body) f.body false bj [] sj vc Lg F' H5 _ (Jm _) hvj (fun h=>absurd rfl h) hg kn' (by omega) (by omega) (by simp only[Jp];omega) fun out H6 vc' Lg' _ _ kn=>?_;have kn:=back _ _ kn;rw[←hfc]at kn;have g8:=kn.getM2;simp only[go_sem,Qang,g8,hto];intro H7 h7;have kn:=kn.stM2 h7;have g8:=kn.getM2;have g4:=kn.getM;have gw:=kn.l 0 rfl;refine Qa1 ?_;simp only[go_sem,g8,g4,gw,hto];intro H8 h8;have kn:=kn.stM h8;have g8:=kn.getM2;have g4:=kn.getM;have gw:=kn.l 0 rfl;simp only[go_sem,Qanh,g8,g4,gw,hto];refine Qh ?_;simp only[go_sem,Qp,Q8,Qa8g,J3,Jt,RS.op,g4,hto];have kn2:Kn H H8 [] ((((w,wO fl fns k vc' (fnCk fns k).n (fnCk fns k).c)::Lg')++[(x4,.st [.str f.name,t,.sl false 5 (Qk out)]),(x8,.st [.str f.name,t,.sl false 5 (Qk out)])])++Lp):=(by rw[Jj];exact kn);refine⟨fun _=>trivial,.tup [.ag (Fn.cells ⟨f.name,ps,out⟩),.c (.int .i64 (fnCk fns k).c),.c (.int .i64 (fnCk fns k).n)],.tup _ _ rfl (fun j x x' h1 h2=>?_),hK ⟨f.name,ps,out⟩ _ _ kn.fin⟩;rcases j with _|_|_|j
    ·simp only[J0,Jv]at h1 h2;subst h1 h2;exact (FrzL.cons (Qg rfl) (.cons (hgp.frz kn2 (Qaw _)) (.cons (Qg rfl) .nil))).ag
    ·simp only[Jae,J0,Jv]at h1 h2;subst h1 h2;exact .c _ _ (Qg rfl)
    ·simp only[Jae,J0,Jv]at h1 h2;subst h1 h2;exact .c _ _ (Qg rfl)
    ·simp at h1
 refine Qf (Qb rfl ?_ ?_)
 ·intro hc;have hne:¬Qi1 fns f.name=some k:=by simpa using hc
  rw[ixC,if_neg hne]at two;refine Qq ?_;simp only[go_sem];refine Q53 rfl (kn.l 0 rfl) fun H5 hu=>?_;have kn:=kn.callL 0 rfl hu (by nofun);simp only[go_sem,AE.X.next];exact two _ _ kn rfl rfl rfl
 ·intro hc;have he:Qi1 fns f.name=some k:=by simpa using hc
  rw[ixC,if_pos he]at two;refine Qe ?_;simp only[go_sem,AE.X.next];exact two _ _ kn rfl rfl rfl
theorem Qbam {l:List Fn}{fl:Bool}(hf:Qs l≤2^36)(hK:∀H',Upd H H' []→K (.c (.int .i64 (Q62 l))) H'):Ql prog Qf0 [.ag [.sl fl 3 (Qy l)]] H K:=by
 refine Q5 ?_;refine Qc Qal Q6z ?_;have retf:∀(b:Int) (e:Env) (H':Heap) (L:List (Nat×Obj)),Q62 l=b→Kn H H' [] L→lk 2 e=.c (.int .i64 b)→Qp Qcu (unK H K) .ret e H':=by
  intro b e H' L hf kn h4;simp only[go_sem,Qp,Q8,Qcu,Ja,forall_eq,RS.op,h4];refine⟨_,.c _ _ (Qg rfl),?_⟩;rw[←hf];exact hK _ kn.fin
 have kn:=Kn.start0 H;refine Qa ?_;simp only[go_sem];refine Q6 ?_;refine Qa ?_;simp only[go_sem];refine Qact (by omega) ?_;simp only[go_sem,Qki];refine Qf (Qb rfl ?_ ?_)
 ·intro hc;have hb:Qlj l=false:=by simpa using hc
  refine Qa ?_;simp only[go_sem];refine Qh ?_;simp only[go_sem,AE.X.next];exact retf 1 _ _ _ (by rw[Q62,hb];rfl) kn rfl
 intro hc;have hb:Qlj l=true:=by simpa using hc
 have hpc:Q62 l=ckK l l.length:=by rw[Q62,if_pos hb]
 have hv:=hb;simp only[Qlj,Jq,decide_eq_true_eq,J5]at hv;refine Qe ?_;try simp only[go_sem]
 refine Q6 ?_;refine Qa ?_;simp only[go_sem];refine Qf (Qd (Qab (fun m e1 H1=>∃(i:Nat),m=l.length-i∧i≤l.length∧Kn H H1 [] []∧ckK l i=0∧e1=[(1,.c (.pp [.sl fl 3 (Qy l)])),(3,.c (.int .i64 i))]) l.length ?_ ?_))
 ·exact⟨0,by omega,by omega,kn,rfl,rfl⟩
 ·clear kn;rintro m e1 H1 ⟨i,hm,hi,kn,hc0,rfl⟩;refine Q6 ?_;refine Qa ?_;simp only[go_sem,Qw];intro hl;simp only[LIM]at hl;refine Qf (Qb rfl ?_ ?_)
  ·intro hc;have hlt:i<l.length:=by simpa using hc
   have hms:=Qa5 (Jf hlt);have hfm:=hv.1.2 _ (Jf hlt);have hpl:l[i].params.length≤3:=by
    rw[Fn.form]at hfm;simp only[Jq,decide_eq_true_eq]at hfm;exact hfm.1.2
   have hsu:=Qan3 l i;rw[hc0]at hsu;refine Qe ?_;try simp only[go_sem]
   refine Qf (Qd ?_);refine Qa ?_;simp only[go_sem];refine Qbje hlt (by omega) (by omega) fun f' cnt H2 hu=>?_;have kn:=kn.call0 hu;simp only[go_sem,Qkl,Ju,Jx,Fn.cells];intro x4 hx4 H3 h3;have kn:=kn.al hx4 h3;have g4:=kn.l 0 rfl;simp only[go_sem,Qkk,g4,Fn.cells];intro H4 h4;have kn:=kn.stL 0 rfl h4;simp only[go_sem,Qkj];refine Qa ?_;simp only[go_sem];refine Qb rfl ?_ ?_
   ·intro hc2;have hne:(fnCk l i).c≠0:=(by simpa using hc2);refine Qa ?_;simp only[go_sem];refine Qh ?_;simp only[go_sem,AE.X.next];refine retf _ _ _ _ ?_ kn rfl;rw[hpc];exact Qbbh l (by rw[hsu,Qcs,if_pos rfl]) hne _ (by omega)
   ·intro hc2;have he:(fnCk l i).c=0:=(by simpa using hc2);refine Qe ?_;try simp only[go_sem]
    refine Qq ?_;simp only[go_sem,AE.X.next];refine⟨Q1 (by omega) (by omega),l.length-(i+1),by omega,i+1,rfl,by omega,Kn.drop (A:=[]) kn,?_,rfl⟩;rw[hsu,he];rfl
  ·intro hc;have hge:l.length≤i:=by simpa using hc
   have hil:i=l.length:=by omega
   subst hil;refine Q9 ?_;simp only[go_sem,AE.X.next];refine Qa ?_;simp only[go_sem];refine Qh ?_;exact retf 0 _ _ _ (by rw[hpc,hc0]) kn rfl
theorem Qbd9 {l:List Fn}{fl:Bool}(hf:Qs l≤2^36)(hK:∀H',Upd H H' []→K (.c (.bool (Qss l))) H'):Ql prog Qade [.ag [.sl fl 3 (Qy l)]] H K:=by
 refine Qc Qal Qbc2 ?_;refine Qa ?_;simp only[go_sem];refine Qa ?_;simp only[go_sem];refine Qbam hf fun H1 hu=>?_;simp only[go_sem,Qahk];refine Qh ?_;simp only[go_sem,Qp,Q8,Qcu,Ja,forall_eq,RS.op];exact hK _ hu
end Go.AE.Y
namespace Go.AE.Y
structure OInts where
 ns:List Int
 y:Nat
def OInts.c (x:OInts):C:=.vsl x.y 1 0 x.ns.length
def OInts.lg (x:OInts):List (Nat×Obj):=[(x.y,.vec 1 (Qm x.ns))]
structure OPhi where
 to:Int
 ns:List Int
 ac:C
 lg:List (Nat×Obj)
def OPhi.row (x:OPhi):List C:=[.int .i64 x.to,x.ac]
def OPhi.ok (x:OPhi):Prop:=(∃y,x.ac=.vsl y 1 0 x.ns.length∧x.lg=[(y,.vec 1 (Qm x.ns))])∨(∃fl,x.ac=.sl fl 1 (Qm x.ns)∧x.lg=[])
def OPhi.own (x:OPhi):Prop:=∃y,x.ac=.vsl y 1 0 x.ns.length∧x.lg=[(y,.vec 1 (Qm x.ns))]
structure OIns where
 op:Int
 to:Int
 a:OInts
 n:Int
def OIns.row (x:OIns):List C:=[.int .i64 x.op,.int .i64 x.to,x.a.c,.int .i64 x.n]
def OIns.lg (x:OIns):List (Nat×Obj):=x.a.lg
structure OBlk where
 phis:List OPhi
 pc:C
 pl:List (Nat×Obj)
 ins:List OIns
 ic:C
 il:List (Nat×Obj)
 jump:Int
 on:Int
 nx:OInts
def OBlk.row (x:OBlk):List C:=[x.pc,x.ic,.int .i64 x.jump,.int .i64 x.on,x.nx.c]
def OBlk.lg (x:OBlk):List (Nat×Obj):=x.nx.lg++(x.phis.flatMap OPhi.lg++(x.pl++(x.ins.flatMap OIns.lg++x.il)))
structure OBlk.ok (x:OBlk):Prop where
 p:Gr x.pl 2 (x.phis.map OPhi.row) x.pc
 i:Gr x.il 4 (x.ins.map OIns.row) x.ic
 a:∀p∈x.phis,p.ok
structure OCode where
 params:Int
 regs:Int
 blocks:List OBlk
 bc:C
 bl:List (Nat×Obj)
def OCode.row (x:OCode):List C:=[.int .i64 x.params,.int .i64 x.regs,x.bc]
def OCode.lg (x:OCode):List (Nat×Obj):=x.blocks.flatMap OBlk.lg++x.bl
structure OCode.ok (x:OCode):Prop where
 b:Gr x.bl 5 (x.blocks.map OBlk.row) x.bc
 bs:∀b∈x.blocks,b.ok
def OPhi.d (x:OPhi):PhiD:=⟨x.to,x.ns⟩
def OIns.d (x:OIns):InsD:=⟨x.op,x.to,x.a.ns,x.n⟩
def OBlk.d (x:OBlk):BlkD:=⟨x.phis.map OPhi.d,x.ins.map OIns.d,x.jump,x.on,x.nx.ns⟩
def OCode.d (x:OCode):CodeD:=⟨x.params,x.regs,x.blocks.map OBlk.d⟩
theorem OPhi.noOw (x:OPhi)(h:x.ok):Go.AE.noOw x.row=true:=by
 rcases h with ⟨y,h,_⟩|⟨fl,h,_⟩ <;> simp only[Go.AE.noOw,OPhi.row,h] <;> rfl
theorem OIns.noOw (x:OIns):Go.AE.noOw x.row=true:=rfl
theorem OBlk.noOw (x:OBlk)(h:x.ok):Go.AE.noOw x.row=true:=by
 simp only[Go.AE.noOw,OBlk.row,OInts.c,J9,Jac,h.p.isOw,h.i.isOw];rfl
theorem OCode.noOw (x:OCode)(h:x.ok):Go.AE.noOw x.row=true:=by
 simp only[Go.AE.noOw,OCode.row,J9,Jac,h.b.isOw];rfl
variable {H:Heap}{S:Nat→Bool}
def Held (H:Heap)(S:Nat→Bool)(l:List (Nat×Obj)):Prop:=∀p∈l,H p.1=p.2∧S p.1=true
theorem Held.l {a b:List (Nat×Obj)}(h:Held H S (a++b)):Held H S a:=fun p hp=>h p (Jb _ hp)
theorem Held.r {a b:List (Nat×Obj)}(h:Held H S (a++b)):Held H S b:=fun p hp=>h p (Je _ hp)
theorem Held.m {α:Type}{f:α→List (Nat×Obj)}{l:List α}(h:Held H S (l.flatMap f)){x:α}(hx:x∈l):Held H S (f x):=fun p hp=>h p (Jak.2 ⟨x,hx,hp⟩)
theorem OInts.frz (x:OInts)(h:Held H S x.lg):FrzC H S x.c (.sl false 1 (Qm x.ns)):=by
 obtain⟨h1,h2⟩:=h (x.y,.vec 1 (Qm x.ns)) (by simp[OInts.lg]);exact (FrzR.same (Qa7 _)).vsl h2 h1 (by simp[Qm])
theorem OPhi.frz (x:OPhi)(hok:x.ok)(h:Held H S x.lg):FrzL H S x.row (PhiD.mk x.to x.ns).cells:=by
 refine .cons (Qg rfl) (.cons ?_ .nil);rcases hok with ⟨y,h1,h2⟩|⟨fl,h1,h2⟩
 ·obtain⟨h3,h4⟩:=h (y,.vec 1 (Qm x.ns)) (by rw[h2];simp);rw[h1];exact (FrzR.same (Qa7 _)).vsl h4 h3 (by simp[Qm])
 ·rw[h1];exact (FrzR.same (Qa7 _)).sl
theorem OIns.frz (x:OIns)(h:Held H S x.lg):FrzL H S x.row (InsD.mk x.op x.to x.a.ns x.n).cells:=.cons (Qg rfl) (.cons (Qg rfl) (.cons (x.a.frz h) (.cons (Qg rfl) .nil)))
theorem Qav3 {α β:Type}{f:α→List C}{g:β→List C}:∀(l:List α),(∀x∈l,∃y,FrzL H S (f x) (g y))→∃l':List β,FrzR H S (l.map f) (l'.map g)∧l'.length=l.length
 |[],_=>⟨[],.nil,rfl⟩
 |x::l,h=>by
  obtain⟨y,hy⟩:=h x Jw;obtain⟨l',hl',hn⟩:=Qav3 l fun z hz=>h z (Jk _ hz);exact⟨y::l',.cons hy hl',by simp[hn]⟩
theorem Q4f {α β:Type}{P:β→Prop}{f:α→List C}{g:β→List C}:∀(l:List α),(∀x∈l,∃y,FrzL H S (f x) (g y)∧P y)→∃l':List β,FrzR H S (l.map f) (l'.map g)∧l'.length=l.length∧∀y∈l',P y
 |[],_=>⟨[],.nil,rfl,by simp⟩
 |x::l,h=>by
  obtain⟨y,hy,hp⟩:=h x Jw;obtain⟨l',hl',hn,hps⟩:=Q4f l fun z hz=>h z (Jk _ hz);refine⟨y::l',.cons hy hl',by simp[hn],fun z hz=>?_⟩;rcases Jn.1 hz with rfl|hz
  ·exact hp
  ·exact hps z hz
theorem OBlk.frz (x:OBlk)(hok:x.ok)(h:Held H S x.lg):∃d:BlkD,FrzL H S x.row d.cells∧d.next=x.nx.ns∧d.ins.length=x.ins.length∧d.phis.length=x.phis.length:=by
 obtain⟨ps,hps,hpn⟩:=Qav3 (H:=H) (S:=S) (f:=OPhi.row) (g:=PhiD.cells) x.phis fun p hp=>⟨_,p.frz (hok.a p hp) (h.r.l.m hp)⟩;obtain⟨is,his,hin⟩:=Qav3 (H:=H) (S:=S) (f:=OIns.row) (g:=InsD.cells) x.ins fun p hp=>⟨_,p.frz (h.r.r.r.l.m hp)⟩;exact⟨⟨ps,is,x.jump,x.on,x.nx.ns⟩,.cons (Gr.frzM hok.p h.r.r.l hps) (.cons (Gr.frzM hok.i h.r.r.r.r his) (.cons (Qg rfl) (.cons (Qg rfl) (.cons (x.nx.frz h.l) .nil)))),rfl,hin,hpn⟩
end Go.AE.Y
namespace Go.AE.Y
structure BlkD.sm (b:BlkD):Prop where
 n:b.next.length≤2
 i:b.ins.length≤1000
 p:b.phis.length≤1000
 ia:∀x∈b.ins,x.args.length≤1000
 pa:∀x∈b.phis,x.args.length≤1000
structure CodeD.sm (c:CodeD):Prop where
 b0:0<c.blocks.length
 b:c.blocks.length≤160
 bs:∀b∈c.blocks,b.sm
 p0:0≤c.params
 p1:c.params≤1000
structure OBlk.sm (b:OBlk)(N:Nat):Prop where
 n:b.nx.ns.length≤2
 i:b.ins.length≤1000
 p:b.phis.length≤N
 ia:∀x∈b.ins,x.a.ns.length≤N
 pa:∀x∈b.phis,x.ns.length≤N
structure OCode.sm (c:OCode)(N:Nat):Prop where
 b0:0<c.blocks.length
 b:c.blocks.length≤160
 bs:∀b∈c.blocks,b.sm N
 p0:0≤c.params
 p1:c.params≤1000
theorem OBlk.sm.mono {b:OBlk}{N M:Nat}(h:b.sm N)(hm:N≤M):b.sm M:=⟨h.n,h.i,by have:=h.p;omega,fun x hx=>by have:=h.ia x hx;omega,fun x hx=>by have:=h.pa x hx;omega⟩
theorem OCode.sm.mono {c:OCode}{N M:Nat}(h:c.sm N)(hm:N≤M):c.sm M:=⟨h.b0,h.b,fun b hb=>(h.bs b hb).mono hm,h.p0,h.p1⟩
structure BlkD.sg (b:BlkD):Prop where
 n:b.next.length≤1000000
 i:b.ins.length≤1000000
 p:b.phis.length≤1000000
 ia:∀x∈b.ins,x.args.length≤1000000
 pa:∀x∈b.phis,x.args.length≤1000000
structure CodeD.sg (c:CodeD):Prop where
 b:c.blocks.length≤1000000
 bs:∀b∈c.blocks,b.sg
theorem BlkD.sm.sg {b:BlkD}(h:b.sm):b.sg:=⟨by have:=h.n;omega,by have:=h.i;omega,by have:=h.p;omega,fun x hx=>by have:=h.ia x hx;omega,fun x hx=>by have:=h.pa x hx;omega⟩
theorem CodeD.sm.sg {c:CodeD}(h:c.sm):c.sg:=⟨by have:=h.b;omega,fun b hb=>(h.bs b hb).sg⟩
structure CodeD.gd (c:CodeD):Prop where
 b0:0<c.blocks.length
 b1:c.blocks.length≤160
 n:∀b∈c.blocks,b.next.length≤2
 f:c.fits
 s:c.sg
theorem CodeD.sm.fits {c:CodeD}(h:c.sm):c.fits:=fun b hb=>⟨by have:=(h.bs b hb).i;omega,by have:=(h.bs b hb).p;omega⟩
theorem CodeD.sm.gd {c:CodeD}(h:c.sm):c.gd:=⟨h.b0,h.b,fun b hb=>(h.bs b hb).n,h.fits,h.sg⟩
variable {H:Heap}{S:Nat→Bool}
theorem Qacl {α β:Type}{f:α→List C}{g:β→List C}{d:α→β}:∀(l:List α),(∀x∈l,FrzL H S (f x) (g (d x)))→FrzR H S (l.map f) ((l.map d).map g)
 |[],_=>.nil
 |x::l,h=>.cons (h x Jw) (Qacl l fun z hz=>h z (Jk _ hz))
theorem OBlk.frzD (x:OBlk)(hok:x.ok)(h:Held H S x.lg):FrzL H S x.row x.d.cells:=by
 have hps:=Qacl (H:=H) (S:=S) (f:=OPhi.row) (g:=PhiD.cells) (d:=OPhi.d) x.phis fun p hp=>p.frz (hok.a p hp) (h.r.l.m hp);have his:=Qacl (H:=H) (S:=S) (f:=OIns.row) (g:=InsD.cells) (d:=OIns.d) x.ins fun p hp=>p.frz (h.r.r.r.l.m hp);exact .cons (Gr.frzM hok.p h.r.r.l hps) (.cons (Gr.frzM hok.i h.r.r.r.r his) (.cons (Qg rfl) (.cons (Qg rfl) (.cons (x.nx.frz h.l) .nil))))
theorem OCode.frz (x:OCode){N:Nat}(hN:N≤100000)(hok:x.ok)(hs:x.sm N)(h:Held H S x.lg):∃d:CodeD,FrzL H S x.row d.cells∧d.gd:=by
 have hbs:=Qacl (H:=H) (S:=S) (f:=OBlk.row) (g:=BlkD.cells) (d:=OBlk.d) x.blocks fun b hb=>b.frzD (hok.bs b hb) (h.l.m hb);have hb0:=hs.b0;have hb1:=hs.b;have hd:∀d∈x.blocks.map OBlk.d,d.next.length≤2∧d.ins.length≤1000∧d.phis.length≤N∧(∀i∈d.ins,i.args.length≤N)∧∀i∈d.phis,i.args.length≤N:=fun d hd=>by
  obtain⟨b,hb,rfl⟩:=Jh.1 hd;have hsb:=hs.bs b hb;refine⟨hsb.n,by simpa[OBlk.d]using hsb.i,by simpa[OBlk.d]using hsb.p,fun i hi=>?_,fun i hi=>?_⟩
  ·obtain⟨y,hy,rfl⟩:=Jh.1 hi;exact hsb.ia y hy
  ·obtain⟨y,hy,rfl⟩:=Jh.1 hi;exact hsb.pa y hy
 refine⟨⟨x.params,x.regs,x.blocks.map OBlk.d⟩,.cons (Qg rfl) (.cons (Qg rfl) (.cons (Gr.frzM hok.b h.r hbs) .nil)),by simpa using hb0,by simpa using hb1,fun b hb=>(hd b hb).1,fun b hb=>?_,by simp only[J2];omega,fun b hb=>?_⟩
 ·obtain⟨h1,h2,h3,h4,h5⟩:=hd b hb;omega
 ·obtain⟨h1,h2,h3,h4,h5⟩:=hd b hb;exact⟨by omega,by omega,by omega,fun i hi=>by have:=h4 i hi;omega,fun i hi=>by have:=h5 i hi;omega⟩
theorem OCodes.frz {N:Nat}(hN:N≤100000){us:List OCode}{cc:C}{cl:List (Nat×Obj)}(hg:Gr cl 3 (us.map OCode.row) cc)(hu:∀u∈us,u.ok∧u.sm N)(h:Held H S (us.flatMap OCode.lg++cl)) :
  ∃cs:List CodeD,FrzC H S cc (.sl false 3 (Qa56 cs))∧cs.length=us.length∧∀c∈cs,c.gd:=by
 obtain⟨cs,h1,h2,h3⟩:=Q4f (H:=H) (S:=S) (P:=CodeD.gd) (f:=OCode.row) (g:=CodeD.cells) us fun u hu2=>u.frz hN (hu u hu2).1 (hu u hu2).2 (h.l.m hu2);exact⟨cs,Gr.frzM hg h.r h1,h2,h3⟩
end Go.AE.Y
namespace Go.AE
variable {P:Program}
theorem Qbir {a b:SC}{Q:X→Env→Heap→Prop}{e:Env}{H:Heap}(T:Env→Heap→Prop)(h1:∀Q':X→Env→Heap→Prop,(∀e H,T e H→Q' .nrm e H)→(∀e H,Q .ret e H→Q' .ret e H)→(∀i e H,Q (.exit i) e H→Q' (.exit i) e H)→Q3 P a Q' e H)
  (h2:∀e H,T e H→Q3 P b Q e H):Q3 P (.seq a b) Q e H:=h1 (X.sq P b Q) h2 (fun _ _ h=>h) (fun _ _ _ h=>h)
end Go.AE
namespace Go.AE.Y
structure UPhi where
 to:Int
 ns:List Int
 ac:C
 al:List (Nat×Obj)
def UPhi.row (x:UPhi):List C:=[.int .i64 x.to,x.ac]
structure UBlk where
 phis:List UPhi
 pc:C
 pl:List (Nat×Obj)
 ins:List InsD
 ic:C
 il:List (Nat×Obj)
 jump:Int
 on:Int
 nfl:Bool
 next:List Int
def UBlk.row (x:UBlk):List C:=[x.pc,x.ic,.int .i64 x.jump,.int .i64 x.on,.sl x.nfl 1 (Qm x.next)]
def UBlk.lg (x:UBlk):List (Nat×Obj):=x.il++(x.phis.flatMap UPhi.al++x.pl)
structure UBlk.ok (x:UBlk):Prop where
 p:Gr x.pl 2 (x.phis.map UPhi.row) x.pc
 i:Gr x.il 4 (Qbgx x.ins) x.ic
 a:∀p∈x.phis,Gr p.al 1 (Qm p.ns) p.ac
structure UBlk.sm (b:UBlk)(N:Nat):Prop where
 n:b.next.length≤2
 i:b.ins.length≤1000
 p:b.phis.length≤N
 ia:∀x∈b.ins,x.args.length≤1000
 pa:∀x∈b.phis,x.ns.length≤1000
structure UCode where
 params:Int
 regs:Int
 blocks:List UBlk
 bc:C
 bl:List (Nat×Obj)
def UCode.row (x:UCode):List C:=[.int .i64 x.params,.int .i64 x.regs,x.bc]
def UCode.lg (x:UCode):List (Nat×Obj):=x.blocks.flatMap UBlk.lg++x.bl
structure UCode.ok (x:UCode):Prop where
 b:Gr x.bl 5 (x.blocks.map UBlk.row) x.bc
 bs:∀b∈x.blocks,b.ok
 p0:0≤x.params
 p1:x.params≤3
structure UCode.sm (c:UCode)(N:Nat):Prop where
 b0:0<c.blocks.length
 b:c.blocks.length≤160
 bs:∀b∈c.blocks,b.sm N
theorem UPhi.noOw (x:UPhi)(h:Gr x.al 1 (Qm x.ns) x.ac):Go.AE.noOw x.row=true:=by
 simp only[Go.AE.noOw,UPhi.row,J9,Jac,h.isOw];rfl
theorem UBlk.noOw (x:UBlk)(h:x.ok):Go.AE.noOw x.row=true:=by
 simp only[Go.AE.noOw,UBlk.row,J9,Jac,h.p.isOw,h.i.isOw];rfl
theorem UCode.noOw (x:UCode)(h:x.ok):Go.AE.noOw x.row=true:=by
 simp only[Go.AE.noOw,UCode.row,J9,Jac,h.b.isOw];rfl
theorem UBlk.sm.mono {b:UBlk}{N M:Nat}(h:b.sm N)(hm:N≤M):b.sm M:=⟨h.n,h.i,by have:=h.p;omega,h.ia,h.pa⟩
theorem UCode.sm.mono {c:UCode}{N M:Nat}(h:c.sm N)(hm:N≤M):c.sm M:=⟨h.b0,h.b,fun b hb=>(h.bs b hb).mono hm⟩
variable {H:Heap}{S:Nat→Bool}
theorem UBlk.frz (x:UBlk){N:Nat}(hN:N≤1000)(hok:x.ok)(hs:x.sm N)(h:Held H S x.lg):∃d:BlkD,FrzL H S x.row d.cells∧d.sm:=by
 obtain⟨ps,hps,hpn,hpp⟩:=Q4f (H:=H) (S:=S) (P:=fun p:PhiD=>p.args.length≤1000) (f:=UPhi.row) (g:=PhiD.cells) x.phis fun p hp=>
  ⟨⟨p.to,p.ns⟩,.cons (Qg rfl) (.cons (Gr.frzM (hok.a p hp) (h.r.l.m hp) (FrzR.same (Qa7 _))) .nil),hs.pa p hp⟩
 have h1:=hs.n;have h2:=hs.i;have h3:=hs.p;exact⟨⟨ps,x.ins,x.jump,x.on,x.next⟩,.cons (Gr.frzM hok.p h.r.r hps) (.cons (Gr.frzM hok.i h.l (FrzR.same (Qa2d _))) (.cons (Qg rfl) (.cons (Qg rfl) (.cons (FrzR.same (Qa7 _)).sl .nil)))),
  h1,h2,by show ps.length≤_;omega,hs.ia,hpp⟩
theorem UCode.frz (x:UCode){N:Nat}(hN:N≤1000)(hok:x.ok)(hs:x.sm N)(h:Held H S x.lg):∃d:CodeD,FrzL H S x.row d.cells∧d.sm:=by
 obtain⟨bs,hbs,hbn,hbp⟩:=Q4f (H:=H) (S:=S) (P:=BlkD.sm) (f:=UBlk.row) (g:=BlkD.cells) x.blocks fun b hb=>b.frz hN (hok.bs b hb) (hs.bs b hb) (h.l.m hb);have hb0:=hs.b0;have hb1:=hs.b;exact⟨⟨x.params,x.regs,bs⟩,.cons (Qg rfl) (.cons (Qg rfl) (.cons (Gr.frzM hok.b h.r hbs) .nil)),by show 0<bs.length;omega,by show bs.length≤_;omega,hbp,hok.p0,by have:=hok.p1;show x.params≤_;omega⟩
theorem UCodes.frz {us:List UCode}{N:Nat}(hN:N≤1000){cc:C}{cl:List (Nat×Obj)}(hg:Gr cl 3 (us.map UCode.row) cc)(hu:∀u∈us,u.ok∧u.sm N)(h:Held H S (us.flatMap UCode.lg++cl)) :
  ∃cs:List CodeD,FrzC H S cc (.sl false 3 (Qa56 cs))∧cs.length=us.length∧∀c∈cs,c.sm:=by
 obtain⟨cs,h1,h2,h3⟩:=Q4f (H:=H) (S:=S) (P:=CodeD.sm) (f:=UCode.row) (g:=CodeD.cells) us fun u hu2=>u.frz hN (hu u hu2).1 (hu u hu2).2 (h.l.m hu2);exact⟨cs,Gr.frzM hg h.r h1,h2,h3⟩
end Go.AE.Y
namespace Go.AE.Y
theorem Qaa {α:Type}{l1 l2:List α}(h:∀f:List α→Nat,(∀a b,f (a++b)=f a+f b)→f []=0→(∀x l,f (x::l)=f [x]+f l)→(∀a b:List α,a.Perm b→f a=f b)→f l1=f l2):l1.Perm l2:=by
 classical
 exact List.perm_iff_count.2 fun a=>h (List.count a) (fun _ _=>List.count_append) rfl (fun x l=>by rw[Ja5,Ja5];simp;omega) (fun _ _ hp=>hp.count_eq a)
def UCode.put (u:UCode)(bi:Nat)(b:UBlk)(bl:List (Nat×Obj)):UCode:={ u with blocks:=u.blocks.set bi b,bl:=bl }
end Go.AE.Y
namespace Go.AE
open Go.AE.Y
open Go.Proofs.Tryz
variable {H:Heap}{K:V→Heap→Prop}
theorem Slc.keep {H':Heap}{sz:Nat}{rows:List (List C)}{b:C}{E L:List (Nat×Obj)}(h:Slc H sz rows b)(kn:Kn H H' E L)(hE:∀l a c d,b=.vsl l a c d→l∉E.map Prod.fst):Slc H' sz rows b:=by
 obtain⟨h1,h2,h3,h4⟩:=h
 cases b with
 |sl fl z rs=>exact⟨trivial,h2,h3,h4⟩
 |vsl l z st n=>
  simp only[Go.AE.okSl]at h1
  cases ho:H l with
  |vec y rs=>
   have:=kn.chg l (by rw[ho];simp) (hE l z st n rfl);refine⟨?_,h2,?_,h4⟩
   ·simp only[Go.AE.okSl,this];exact h1
   ·simp only[Go.AE.rowsOf,this];exact h3
  |_=>rw[ho]at h1;exact h1.elim
 |_=>exact h1.elim
end Go.AE
namespace Go.AE.Y
open Go.Proofs.Tryz
variable {H:Heap}{K:V→Heap→Prop}
end Go.AE.Y
namespace Go.AE
open Go.AE.Y
open Go.Proofs.Tryz
variable {H:Heap}{K:V→Heap→Prop}
theorem Gr.slc {H0 H:Heap}{E B Lg:List (Nat×Obj)}{sz:Nat}{rows:List (List C)}{c:C}(h:Gr Lg sz rows c)(kn:Kn H0 H E (B++Lg)):Slc H sz rows c:=by
 obtain⟨h1,h2⟩:=h.get kn;exact⟨h1,h.elemSz,h2,h.lenC⟩
theorem Gr.ne {H0 H:Heap}{E B Lg:List (Nat×Obj)}{sz:Nat}{rows:List (List C)}{c:C}{r:Nat}{o:Obj}(h:Gr Lg sz rows c)(kn:Kn H0 H E (B++Lg))(hr:(r,o)∈E):∀l a d n,c=.vsl l a d n→l≠r:=by
 intro l a d n hc hh;rcases h with ⟨h1,_⟩|⟨y,h1,h2⟩
 ·rw[h1]at hc;simp at hc
 ·rw[h1]at hc;have hy:y=l:=by injection hc
  have:=kn.loc (y,.vec sz rows) (by rw[h2];simp);exact kn.ext (r,o) hr (by rw[←hh,←hy];exact this)
theorem Gr.slcM {H0 H:Heap}{E L Lg:List (Nat×Obj)}{sz:Nat}{rows:List (List C)}{c:C}(h:Gr Lg sz rows c)(kn:Kn H0 H E L)(hm:∀p∈Lg,p∈L):Slc H sz rows c:=by
 rcases h with ⟨h1,h2,h3⟩|⟨y,h1,h2⟩
 ·rw[h1,h2];exact .mk' _ _ _ _
 ·have hy:H y=.vec sz rows:=(kn.get (y,.vec sz rows) (Je _ (hm _ (by rw[h2];simp)))).1;rw[h1];exact⟨by simp[Go.AE.okSl,hy],rfl,by simp[Go.AE.rowsOf,hy],rfl⟩
end Go.AE
namespace Go.AE.Y
open Go.Proofs.Tryz
def Qn (l:List Nat):List (List C):=Qm (l.map Int.ofNat)
theorem Qah (l:List Nat):(Qn l).length=l.length:=by simp[Qn,Qv]
theorem Qav (l:List Nat):∀r∈Qn l,noOw r=true:=Qa7 _
variable {H:Heap}{K:V→Heap→Prop}
theorem Qa1l {n lo hi:Int}(hK:K (.c (.bool (decide (lo≤n)&&decide (n≤hi)))) H):Ql prog Qcx [.c (.int .i64 n),.c (.int .i64 lo),.c (.int .i64 hi)] H K:=by
 refine Qc Qal Qady ?_;refine Qa ?_;simp only[go_sem];refine Qa ?_;simp only[go_sem];refine Qh ?_;simp only[go_sem,Qp,Q8,Qbe9,Ja,forall_eq,RS.op];have:(bif decide (lo≤n)then decide (n≤hi)else false)=(decide (lo≤n)&&decide (n≤hi)):=by cases decide (lo≤n) <;> rfl
 first|exact hK|(rw[this];exact hK)|(simpa[this]using hK)
theorem Qavk {c:C}{ns:List Int}{f:Nat}{caps:List C}{p:Int→Bool}(hs:Slc H 1 (Qm ns) c)(how:c.isOw=false)
  (hf:∀(x:Int) (K':V→Heap→Prop),x∈ns→K' (.c (.bool (p x))) H→Ql prog f ([.c (.int .i64 x)]++caps.map .c) H K')
  (hK:∀r:Int,decide (0≤r)=ns.any p→K (.c (.int .i64 r)) H) :
  Ql prog Qlg [.c c,.c (.fn f caps)] H K:=by
 refine Qc Qal Qajt ?_;have hok:=eq_true hs.ok;have hlen:=hs.len;have hsz:=hs.sz;have hrw:=hs.rows;refine Qa ?_;simp only[go_sem];refine Q6 ?_;refine Qa ?_;simp only[go_sem,hok,hlen,Qv];intro hl;simp only[LIM]at hl;refine Qf (Qd (Qab (fun m e1 H1=>∃(i:Nat),m=ns.length-i∧i≤ns.length∧H1=H∧(∀x∈ns.take i,p x=false)∧e1=[(0,.c c),(1,.c (.fn f caps)),(7,.c (.int .i64 ns.length)),(8,.c (.int .i64 i))]) ns.length ?_ ?_))
 ·exact⟨0,by omega,by omega,rfl,by simp,rfl⟩
 ·rintro m e1 H1 ⟨i,hm,hi,rfl,hno,rfl⟩;refine Qa ?_;simp only[go_sem];refine Qf (Qb rfl ?_ ?_)
  ·intro hc;have hlt:i<ns.length:=by simpa using hc
   have hgd:ns.getD i 0=ns[i]:=by simp[Ji,hlt]
   refine Qe ?_;simp only[go_sem];refine Qf (Qd ?_);refine Qa ?_;simp only[go_sem];refine Qa ?_;simp only[go_sem,hok,hlen,hsz,hrw,hlt,Qv,Qb3 _ _ hlt];refine hf _ _ (by rw[hgd];exact Jf hlt) ?_;refine Qb rfl ?_ ?_
   ·intro hc2;refine Qa ?_;simp only[go_sem];refine Qh ?_;simp only[go_sem,X.next,Qp,Q8,Qm4,Ja,forall_eq,RS.op];refine hK _ ?_;have:ns.any p=true:=Jaa.2 ⟨ns[i],Jf hlt,by rw[←hgd];exact hc2⟩;rw[this];simp
   ·intro hc2;refine Qe ?_;simp only[go_sem];refine Qq ?_;simp only[go_sem,X.next];refine⟨Q1 (by omega) (by omega),ns.length-(i+1),by omega,i+1,rfl,by omega,?_,rfl⟩;rw[Jd hlt];intro x hx;rcases Jg.1 hx with hx|hx
    ·exact hno x hx
    ·simp only[Ja]at hx;subst hx;rw[←hgd];exact hc2
  ·intro hc;have hge:ns.length≤i:=by simpa using hc
   rw[Jc hge]at hno;refine Q9 ?_;simp only[go_sem,X.next];refine Qa ?_;simp only[go_sem];refine Qh ?_;simp only[go_sem,Qp,Q8,Qm4,Ja,forall_eq,RS.op];refine hK _ ?_;have:ns.any p=false:=by
    cases hc:ns.any p with
    |false=>rfl
    |true=>obtain⟨x,hx,hp⟩:=Jaa.1 hc;rw[hno x hx]at hp;exact absurd hp (by simp)
   rw[this];rfl
theorem Qaji {c:C}{ns:List Int}{f:Nat}{caps:List C}{p:Int→Bool}(hs:Slc H 1 (Qm ns) c)(how:c.isOw=false)
  (hf:∀(x:Int) (K':V→Heap→Prop),x∈ns→K' (.c (.bool (p x))) H→Ql prog f ([.c (.int .i64 x)]++caps.map .c) H K')
  (hK:K (.c (.bool (ns.any p))) H):Ql prog Qfw [.c c,.c (.fn f caps)] H K:=by
 refine Qc Qal Q6w ?_;refine Qa ?_;simp only[go_sem];refine Qa ?_;simp only[go_sem];refine Qavk hs how hf fun r hr=>?_;simp only[go_sem,Qkh];refine Qh ?_;simp only[go_sem,Qp,Q8,Qm4,Ja,forall_eq,RS.op];rw[hr];exact hK
end Go.AE.Y
namespace Go.AE.Y
open Go.Proofs.Tryz
variable {H H0:Heap}{K:V→Heap→Prop}
theorem Qdw (l:List Nat)(i:Nat)(h:i<l.length):(Qn l).getD i []=[.int .i64 ((l.getD i 0:Nat):Int)]:=by
 simp[Qn,Qm,Ji,h]
theorem Qa2q (a b:List Nat):Qn (a++b)=Qn a++Qn b:=by simp[Qn,Qm]
end Go.AE.Y
namespace Go.AE.Y
variable {P:Program}{H:Heap}{g:G}{w:World}
theorem Qbek (hs:Sat H g w)(os:Array Go.Obj):∃g',Stp H g w H g' (Go.Sort.grow w os):=by
 obtain⟨l⟩:=os
 induction l generalizing g w with
 |nil=>exact⟨g,by rw[Go.Sort.grow_empty];exact .refl hs⟩
 |cons x l ih=>
  have h1:=Q85 hs x;obtain⟨g',h2⟩:=ih h1.sat;refine⟨g',?_⟩;have e:Go.Sort.grow w ⟨x::l⟩=Go.Sort.grow (w.alloc x) ⟨l⟩:=by
   rw[Go.Sort.alloc_eq_grow,Go.Sort.grow_grow];congr 1;simp
  rw[e];exact h1.trans h2
theorem Qa8f {b off:Nat}{cs:Array Value}{T:TypeId}{d:Array Int}(h:w.heap[b]? = some (.cells cs T (0,0))) :
  Go.Sort.putRow (Value.int .i64) w b off d=World.putCells w b (Go.Sort.putCells (Value.int .i64) off d cs) T:=by
 simp only[Go.Sort.putRow,Go.Sort.mapBlock,World.putCells];congr 1;apply Array.ext_getElem?;intro i;simp only[Array.getElem?_modify];by_cases hi:b=i
 ·subst hi;have hlt:b<w.heap.size:=Qhv h;rw[if_pos rfl,h];simp[hlt,Go.Sort.onCells]
 ·rw[if_neg hi,Array.getElem?_setIfInBounds_ne hi]
theorem Qa1s {f:Nat}(hf:fnOk P f=true)
  (hc:∀(blk off cap:Nat) (zs:List Int) (w:World),Go.Sort.Holds (Value.int .i64) w blk off zs.toArray→blk<w.heap.size→zs.length<4611686018427387904→
   Calls P f #[.slice (some ⟨blk,off,none⟩) zs.length cap] w fun e w'=>
    e=.returned (.tuple #[])∧∃n os,w'=Go.Sort.grow (Go.Sort.putRow (Value.int .i64) (Go.Sort.ahead w n) blk off (zs.mergeSort fun x y=>decide (x≤y)).toArray) os)
  {z n:Nat} {ns:List Int} {K:V→Heap→Prop} (hz:H z=.vec 1 (Qm ns)) (hn:n=ns.length) (h0:0<n)
  (hK:∀H',Upd H H' [(z,.vec 1 (Qm (ns.mergeSort fun x y=>decide (x≤y))))]→K (.tup []) H'):Ql P f [.c (.vsl z 1 0 n)] H K:=by
 refine⟨hf,fun g w vs hs hl hv=>?_⟩;obtain⟨v,rfl⟩:∃v,vs=[v]:=by
  match vs,hl with
  |[v],_=>exact⟨v,rfl⟩
 have hr:=hv 0 _ v rfl rfl;have ho:=hs.objs z;rw[hz]at ho
 cases hr with
 |c _ _ hr=>
  cases hr with
  |vslnil=>omega
  |vsl l sz st n cap b base T m hio hnc hsh hm=>
   obtain⟨b',base',T',cs,val,hio',hown,hblk,hsz,hlim,hrow,hcell,hrep⟩:=SatVec.of ho hio;rw[hio]at hio';simp only[Jv,Jaz,true_and]at hio';obtain⟨rfl,rfl⟩:=hio';have hlt:=Qhv hblk;rw[Qv]at hsz hlim;have hel:∀j (hj:j<ns.length),cs[base+j]? = some (.int .i64 ns[j]):=by
    intro j hj;have h1:(Qm ns)[j]? = some [.int .i64 ns[j]]:=(by simp[Qm,hj]);have h2:=hcell j _ 0 _ h1 rfl;have h3:=hrep j _ 0 _ h1 rfl;have h4:val j 0=.int .i64 ns[j]:=by
     exact (fun vv (h:RepC w g (.int .i64 ns[j]) vv)=>by cases h;rfl:∀vv,RepC w g (.int .i64 ns[j]) vv→vv=.int .i64 ns[j]) _ (h3.toC rfl)
    simpa[h4]using h2
   have hH:Go.Sort.Holds (Value.int .i64) w b base ns.toArray:=by
    intro j hj;have hj':j<ns.length:=(by simpa using hj);refine⟨?_,?_⟩
    ·rw[Qci hblk,hel j hj'];simp[getElem!_pos,hj']
    ·simp[World.frozen?,hblk]
   subst hn;simp only[Nat.zero_mul,Jbb];refine (hc b base cap ns w hH hlt (by simp only[LIM]at hlim;omega)).mono fun e w'=>?_;rintro⟨rfl,nn,os,rfl⟩;have s1:Stp H g w H g (Go.Sort.ahead w nn):=Qavd hs (w.drawn+nn);have hblk1:(Go.Sort.ahead w nn).heap[b]? = some (.cells cs T' (0,0)):=hblk;have hel2:∀i (c:C),((Qm (ns.mergeSort fun x y=>decide (x≤y)))[i]? = some [c])→∃x:Int,c=.int .i64 x∧(Go.Sort.putCells (Value.int .i64) base (ns.mergeSort fun x y=>decide (x≤y)).toArray cs)[base+i]? = some (.int .i64 x):=by
    intro i c hi;have hlen:(ns.mergeSort fun x y=>decide (x≤y)).length=ns.length:=List.length_mergeSort _;have hil:i<(ns.mergeSort fun x y=>decide (x≤y)).length:=by
     rcases Nat.lt_or_ge i (ns.mergeSort fun x y=>decide (x≤y)).length with h|h
     ·exact h
     ·rw[Jaj (by rw[Qv];exact h)]at hi;simp at hi
    refine⟨(ns.mergeSort fun x y=>decide (x≤y))[i],?_,?_⟩
    ·simp only[Qm,Jag,J4 hil,J8,Jv,Jad,and_true]at hi;exact hi.symm
    ·simp only[Go.Sort.putCells,Array.getElem?_mapIdx];rw[Array.getElem?_eq_getElem (by omega)];simp only[J8,Jv];rw[if_pos ⟨by omega,by simp only[List.size_toArray];omega⟩];congr 1;simp[getElem!_pos];rw[J4 hil];rfl
   have s2:=Qfb s1.sat hown hblk1 (cs':=Go.Sort.putCells (Value.int .i64) base (ns.mergeSort fun x y=>decide (x≤y)).toArray cs) (by simp[Go.Sort.putCells])
    (.vec 1 (Qm (ns.mergeSort fun x y=>decide (x≤y)))) (by rw[hz];simp) (fun hle hb2=>.inr ⟨b,base,T',_,fun i _=>.int .i64 ((ns.mergeSort fun x y=>decide (x≤y)).getD i 0),hio,hown,hb2,by
      rw[Qv,List.length_mergeSort];simp[Go.Sort.putCells];omega,by rw[Qv,List.length_mergeSort];exact hlim,fun i row hi=>by
       simp only[Qm,Jag,Option.map_eq_some_iff]at hi;obtain⟨x,_,rfl⟩:=hi;rfl,fun i row j c hi hj=>by
       have hi':=hi;simp only[Qm,Jag,Option.map_eq_some_iff]at hi';obtain⟨y,hy,rfl⟩:=hi';have hj0:j=0:=by
        rcases Jap j with h|h
        ·exact h
        ·rw[Jaj (by simp;omega)]at hj;simp at hj
       subst hj0;obtain⟨x,hx,he⟩:=hel2 i _ hi;simp only[C.int.injEq,true_and]at hx;subst hx;simp only[Nat.mul_one,Jbb];rw[he,Ji,hy];rfl,fun i row j c hi hj=>by
       have hi':=hi;simp only[Qm,Jag,Option.map_eq_some_iff]at hi';obtain⟨y,hy,rfl⟩:=hi';have hj0:j=0:=by
        rcases Jap j with h|h
        ·exact h
        ·rw[Jaj (by simp;omega)]at hj;simp at hj
       subst hj0;simp at hj;subst hj;show RepO _ _ _ _ _ (Value.int .i64 ((ns.mergeSort fun x y=>decide (x≤y)).getD i 0));rw[Ji,hy];exact .plain _ _ _ _ (.int _ _)⟩) (by simp)
   rw[←Qa8f hblk1]at s2;obtain⟨g',s3⟩:=Qbek s2.sat os;refine .inl ⟨.tuple #[],.tup [],_,g',rfl,hK _ ⟨by simp[Heap.set_same],fun m _ hm=>Heap.set_other _ _ (by simpa using hm)⟩,s1.trans (s2.trans s3),?_⟩;exact .tup [] [] rfl (by simp)
theorem Qa5q {f:Nat}(hf:fnOk P f=true){k:IntKind}{x r:Int}(hc:∀w,Calls P f #[.int k x] w fun e w'=>e=.returned (.int .i64 r)∧w'=w){K:V→Heap→Prop}(hK:K (.c (.int .i64 r)) H) :
  Ql P f [.c (.int k x)] H K:=by
 refine⟨hf,fun g w vs hs hl hv=>?_⟩;obtain⟨v,rfl⟩:∃v,vs=[v]:=by
  match vs,hl with
  |[v],_=>exact⟨v,rfl⟩
 have hr:=hv 0 _ v rfl rfl
 cases hr with
 |c _ _ hr=>
  cases hr;refine (hc w).mono fun e w'=>?_;rintro⟨rfl,rfl⟩;exact .inl ⟨_,_,H,g,rfl,hK,.refl hs,.c _ _ (.int _ _)⟩
end Go.AE.Y
namespace Go.Proofs
open Go.Shelf
def Tryz.lays189_ren:Go.Shelf.Ren:=⟨fun|189=>159|125=>239|257=>238|128=>314|129=>315|294=>305|295=>306|296=>307|297=>308|298=>309|299=>310|216=>311|300=>312|301=>313|328=>344|329=>345|330=>346|331=>347|332=>348|215=>349|343=>367|n=>n,fun|28=>31|3=>3|46=>273|0=>0|51=>333|53=>335|4=>4|183=>327|182=>326|131=>106|5=>5|9=>9|218=>344|222=>238|228=>356|229=>64|n=>n,fun|n=>n⟩
theorem Tryz.lays189:Go.Proofs.Lays.n189 Tryz.prog Tryz.lays189_ren:={
 mixed:=by kernel_rfl
 f125:=Tryz.func239.trans (congrArg some (by kernel_rfl))
 f128:=Tryz.func314.trans (congrArg some (by kernel_rfl))
 f129:=Tryz.func315.trans (congrArg some (by kernel_rfl))
 f189:=Tryz.func159.trans (congrArg some (by kernel_rfl))
 f215:=Tryz.func349.trans (congrArg some (by kernel_rfl))
 f216:=Tryz.func311.trans (congrArg some (by kernel_rfl))
 f257:=Tryz.func238.trans (congrArg some (by kernel_rfl))
 f294:=Tryz.func305.trans (congrArg some (by kernel_rfl))
 f295:=Tryz.func306.trans (congrArg some (by kernel_rfl))
 f296:=Tryz.func307.trans (congrArg some (by kernel_rfl))
 f297:=Tryz.func308.trans (congrArg some (by kernel_rfl))
 f298:=Tryz.func309.trans (congrArg some (by kernel_rfl))
 f299:=Tryz.func310.trans (congrArg some (by kernel_rfl))
 f300:=Tryz.func312.trans (congrArg some (by kernel_rfl))
 f301:=Tryz.func313.trans (congrArg some (by kernel_rfl))
 f328:=Tryz.func344.trans (congrArg some (by kernel_rfl))
 f329:=Tryz.func345.trans (congrArg some (by kernel_rfl))
 f330:=Tryz.func346.trans (congrArg some (by kernel_rfl))
 f331:=Tryz.func347.trans (congrArg some (by kernel_rfl))
 f332:=Tryz.func348.trans (congrArg some (by kernel_rfl))
 f343:=Tryz.func367.trans (congrArg some (by kernel_rfl))
 t0:=Tryz.underlying0
 a0:=Tryz.isAgg0
 z0:=Tryz.sizeOf0
 v0:=Tryz.zeroValue0
 t3:=Tryz.underlying3
 a3:=Tryz.isAgg3
 z3:=Tryz.sizeOf3
 v3:=Tryz.zeroValue3
 t4:=Tryz.underlying4
 a4:=Tryz.isAgg4
 z4:=Tryz.sizeOf4
 v4:=Tryz.zeroValue4
 t5:=Tryz.underlying5
 a5:=Tryz.isAgg5
 z5:=Tryz.sizeOf5
 v5:=Tryz.zeroValue5
 t9:=Tryz.underlying9
 a9:=Tryz.isAgg9
 z9:=Tryz.sizeOf9
 v9:=Tryz.zeroValue9
 t28:=Tryz.underlying31
 a28:=Tryz.isAgg31
 z28:=Tryz.sizeOf31
 v28:=Tryz.zeroValue31
 t46:=Tryz.underlying273
 a46:=Tryz.isAgg273
 z46:=Tryz.sizeOf273
 v46:=Tryz.zeroValue273
 t51:=Tryz.underlying333
 a51:=Tryz.isAgg333
 z51:=Tryz.sizeOf333
 v51:=Tryz.zeroValue333
 t53:=Tryz.underlying335
 a53:=Tryz.isAgg335
 z53:=Tryz.sizeOf335
 v53:=Tryz.zeroValue335
 t131:=Tryz.underlying106
 a131:=Tryz.isAgg106
 z131:=Tryz.sizeOf106
 v131:=Tryz.zeroValue106
 t182:=Tryz.underlying326
 a182:=Tryz.isAgg326
 z182:=Tryz.sizeOf326
 v182:=Tryz.zeroValue326
 t183:=Tryz.underlying327
 a183:=Tryz.isAgg327
 z183:=Tryz.sizeOf327
 v183:=Tryz.zeroValue327
 t218:=Tryz.underlying344
 a218:=Tryz.isAgg344
 z218:=Tryz.sizeOf344
 v218:=Tryz.zeroValue344
 t222:=Tryz.underlying238
 a222:=Tryz.isAgg238
 z222:=Tryz.sizeOf238
 v222:=Tryz.zeroValue238
 t228:=Tryz.underlying356
 a228:=Tryz.isAgg356
 z228:=Tryz.sizeOf356
 v228:=Tryz.zeroValue356
 t229:=Tryz.underlying64
 a229:=Tryz.isAgg64
 z229:=Tryz.sizeOf64
 v229:=Tryz.zeroValue64 }
end Go.Proofs
namespace Go.AE.Y
open Go.Proofs.Tryz
variable {H H0:Heap}{K:V→Heap→Prop}{E B Lg:List (Nat×Obj)}
theorem Qa5t {x:Int}(h0:0≤x)(h1:x≤18446744073709551615)(hK:∀n:Int,K (.c (.int .i64 n)) H):Ql prog Qac8 [.c (.int .u64 x)] H K:=
 Qa5q (by kernel_rfl) (fun w=>calls_of_every_depth fun D=>Go.Proofs.AnyS.bits_LenIn (ρ:=lays189_ren) { lays189 with } D x w h0 h1) (hK _)
theorem Qbja {c:C}(how:c.isOw=false)(hK:K (.tup []) H):Ql prog Qb8 [.c c,.c (.int .i64 0),.c (.int .i64 0)] H K:=by
 refine Qc Qal Qoh ?_;refine Qa ?_;simp only[go_sem];refine⟨Q1 (by omega) (by omega),?_⟩;refine Qd (Qab (fun m e1 H1=>H1=H∧e1=[(0,.c c),(1,.c (.int .i64 0)),(2,.c (.int .i64 0)),(6,.c (.int .i64 1))]) 0 ⟨rfl,rfl⟩ ?_);rintro m e1 H1 ⟨rfl,rfl⟩;refine Q6 ?_;refine Qa ?_;simp only[go_sem];refine Qf (Qb rfl (fun h=>by simp at h) fun _=>?_);refine Q9 ?_;simp only[go_sem,X.next,Qp,Q8,Qasa,Jt];exact⟨fun _=>trivial,hK⟩
theorem Qbjs {c:C}{l:Int}(how:c.isOw=false)(hK:K (.tup []) H):Ql prog Qbq [.c c,.c (.int .i64 0),.c (.int .i64 0),.c (.int .i64 l)] H K:=by
 refine Qc Qal Q1i ?_;refine Qa ?_;simp only[go_sem];refine Qa ?_;simp only[go_sem];refine Qd (Qab (fun m e1 H1=>H1=H∧e1=[(0,.c c),(1,.c (.int .i64 0)),(2,.c (.int .i64 0)),(3,.c (.int .i64 l)),(8,.c (.bool true)),(9,.c (.bool true))]) 0 ⟨rfl,rfl⟩ ?_);rintro m e1 H1 ⟨rfl,rfl⟩;refine Qd ?_;refine Qa ?_;simp only[go_sem];refine⟨Q1 (by omega) (by omega),?_⟩;refine Q6 ?_;refine Qa ?_;simp only[go_sem];refine Qf (Qb rfl (fun _=>?_) (fun h=>by simp at h));refine Qa ?_;simp only[go_sem];refine Qbja how ?_;simp only[Qava];refine Qh ?_;simp only[go_sem,X.next,Qp,Q8,Qasa,Jt];exact⟨fun _=>trivial,hK⟩
theorem Qbfq {c:C}(hok:okSl H c)(hl:lenC c=0)(how:c.isOw=false)(hK:K (.tup []) H):Ql prog Qov [.c c] H K:=by
 have hok:=eq_true hok;refine Qc Qal Qa7t ?_;refine Qa ?_;simp only[go_sem,hok,hl];have e0:((0:Nat):Int)=0:=rfl;refine Qq ?_;simp only[go_sem,e0];refine⟨⟨by decide,by decide⟩,?_⟩;refine Qa5t (by omega) (by omega) fun n=>?_;simp only[go_sem,Qaan];refine Qbjs how ?_;simp only[go_sem,Qp,Q8,Qasa,Jt];exact⟨fun _=>trivial,hK⟩
theorem Qbex {c:C}{ns:List Int}(kn:Kn H0 H E (B++Lg))(hgr:Gr Lg 1 (Qm ns) c)
  (hK:∀Lg' H',Gr Lg' 1 (Qm (srt ns)) c→Kn H0 H' E (B++Lg')→K (.tup []) H'):Ql prog Qov [.c c] H K:=by
 by_cases h0:ns=[]
 ·subst h0;refine Qbfq (hgr.okSl kn) (by rw[hgr.lenC];rfl) hgr.isOw (hK Lg H ?_ kn);have:srt []=[]:=by simp[srt]
  rw[this];exact hgr
 ·rcases hgr with ⟨_,h,_⟩|⟨y,rfl,rfl⟩
  ·cases ns with
   |nil=>exact absurd rfl h0
   |cons a b=>simp[Qm]at h
  ·have hy:=kn.l B.length (l:=y) (o:=.vec 1 (Qm ns)) (by simp);have hpos:0<ns.length:=List.length_pos_iff.2 h0;refine Qa1s (by kernel_rfl) (fun blk off cap zs w h1 h2 h3=>Go.Proofs.Any.slices_Sort_int lays189 blk off cap zs w h1 h2 h3) hy (by rw[Qv]) (by rw[Qv];exact hpos) fun H' hu=>?_;refine hK [(y,.vec 1 (Qm (srt ns)))] H' (.inr ⟨y,by rw[Qv,Qv,Qbao],rfl⟩) ?_;have:=kn.callL B.length (l:=y) (o:=.vec 1 (Qm ns)) (by simp) hu (by simp);simpa[srt]using this
def Qoi (ks:List Nat):List (C×V):=ks.map fun k:Nat=>(.int .i64 (k:Int),.c (.bool true))
theorem Qa7w (ks:List Nat):(Qoi ks).length=ks.length:=by simp[Qoi]
theorem Qad7 (ks:List Nat)(n:Int):Qf5 0 (.int .i64 n) (Qoi ks)=True:=by
 refine eq_true ?_;simp only[Qf5,Qoi,Jh];rintro e ⟨k,_,rfl⟩;exact⟨k,rfl⟩
theorem Qavx (ks:List Nat)(b:Nat):(Qc0 (.int .i64 (b:Int)) (Qoi ks)).getD (.c (.bool false))=.c (.bool (decide (b∈ks))):=by
 induction ks with
 |nil=>simp[Qoi,Qc0]
 |cons k ks ih=>
  simp only[Qoi,J1,Qc0,Qem]at ih⊢;by_cases h:b=k
  ·subst h;simp
  ·have:¬(b:Int)=(k:Int):=by omega
   simp only[this,decide_false,Jao,if_false];rw[ih];simp[h]
theorem Qa5f (ks:List Nat)(b:Nat)(h:b∉ks):Q1d (.int .i64 (b:Int)) (.c (.bool true)) (Qoi ks)=Qoi (ks++[b]):=by
 induction ks with
 |nil=>simp[Qoi,Q1d]
 |cons k ks ih=>
  simp only[Jn,not_or]at h;have hk:¬(b:Int)=(k:Int):=by omega
  have ih:=ih h.2;simp only[Qoi,J1,Q1d,Qem,hk,decide_false,Jao,if_false,Jas]at ih⊢;rw[ih]
theorem Qad2 {ks:List Nat}(h:ks.Nodup):(Qoi ks).Nodup:=by
 rw[Qoi,List.Nodup,Jar];refine List.Pairwise.imp (fun {a b} hab he=>?_) h;simp only[Jaz,C.int.injEq,true_and,and_true]at he;exact hab (by omega)
theorem Qaqe {M ver:Nat}{ks:List Nat}(hM:H M=.map ver (Qoi ks))(hnd:ks.Nodup)(hl:ks.length≤LIM)
  (hK:∀l H',Upd H H' []→l.Pairwise (· < ·)→(∀x,x∈l↔x∈ks)→K (.c (.sl false 1 (Qn l))) H') :
  Ql prog Qcd [.c (.mp M)] H K:=by
 refine Q5 ?_;refine Qc Qal Qyu ?_;have hMn:H M≠.none:=by rw[hM];simp
 have kn0:=Kn.start1 hM (by simp);refine Qa ?_;simp only[go_sem];refine Qa ?_;simp only[go_sem];refine Q6 ?_;refine Qa ?_;simp only[go_sem,hM];refine⟨Qad2 hnd,fun it hit H1 h1=>?_⟩;have kn:=kn0.al hit h1;refine Qf (Qd (Qab (fun m e1 H1=>∃(left:List (C×V)) (cur:Option (C×V)) (os:List Nat) (c:C) (Lg:List (Nat×Obj)),m=left.length∧os.Nodup∧(∀x,x∈os→x∈ks)∧(∀x∈ks,x∈os∨(C.int .i64 (x:Int),V.c (.bool true))∈left)∧
  (∀y∈left,∃x∈ks,x∉os∧y=(C.int .i64 (x:Int),V.c (.bool true)))∧left.Nodup∧os.length+left.length=ks.length∧
  Gr Lg 1 (Qn os) c∧Kn H H1 [(M,.map ver (Qoi ks))] ([(it,.iter (some (M,ver)) left cur)]++Lg)∧e1=[(3,.c c),(6,.c (.itr it))]) (Qoi ks).length ?_ ?_))
 ·refine⟨Qoi ks,none,[],_,[],rfl,by simp,by simp,fun x hx=>.inr ?_,fun y hy=>?_,Qad2 hnd,by simp[Qoi],.nil 1,kn,rfl⟩
  ·exact Jh.2 ⟨x,hx,rfl⟩
  ·obtain⟨x,hx,rfl⟩:=Jh.1 hy;exact⟨x,hx,by simp,rfl⟩
 ·rintro m e1 H2 ⟨left,cur,os,c,Lg,rfl,hond,hosub,hall,hleft,hlnd,hlen,hgr,kn,rfl⟩;have hM2:=kn.e 0 rfl;have hit2:=kn.l 0 rfl;have hcw:=hgr.isOw;refine Qa ?_;simp only[go_sem,hcw,hit2,hM2];refine⟨⟨_,rfl⟩,fun hnil=>?_,fun y left' hy hl' hnd' hlen' H3 h3=>?_⟩
  ·subst hnil;simp only[go_sem,Qc4,Ju];refine Qf (Qb rfl (fun h=>by simp at h) fun _=>?_);refine Q9 ?_;simp only[go_sem,X.next];refine Qa ?_;simp only[go_sem,hcw];refine Qbex kn hgr fun Lg2 H3 hgr kn=>?_;refine Qa ?_;simp only[go_sem,hcw];refine Qh ?_;simp only[go_sem,Qp,Q8,Qcu,Ja,forall_eq,RS.op,hcw];have hmem:∀x,x∈os↔x∈ks:=fun x=>⟨hosub x,fun hx=>(hall x hx).resolve_right (by simp)⟩;have hni:(os.map Int.ofNat).Nodup:=by
    rw[List.Nodup,Jar];exact List.Pairwise.imp (fun {a b} hab he=>hab (Int.ofNat.inj he)) hond
   have hsn:=Qbap hni;obtain⟨l,hl1,hl2,hl3⟩:∃l:List Nat,srt (os.map Int.ofNat)=l.map Int.ofNat∧l.Pairwise (· < ·)∧∀x,x∈l↔x∈ks:=by
    refine⟨(srt (os.map Int.ofNat)).map Int.toNat,?_,?_,fun x=>?_⟩
    ·rw[Ja0]
     conv=>lhs;rw[←Jan (srt (os.map Int.ofNat))]
     refine List.map_congr_left fun x hx=>?_;rw[Qajc]at hx;obtain⟨y,_,rfl⟩:=Jh.1 hx;simp
    ·rw[Jar];refine List.Pairwise.imp_of_mem (fun {a b} ha hb hab=>?_) hsn;rw[Qajc]at ha hb;obtain⟨x,_,rfl⟩:=Jh.1 ha;obtain⟨y,_,rfl⟩:=Jh.1 hb;simpa using hab
    ·rw[←hmem];constructor
     ·intro hx;obtain⟨y,hy,rfl⟩:=Jh.1 hx;rw[Qajc]at hy;obtain⟨z,hz,rfl⟩:=Jh.1 hy;simpa using hz
     ·intro hx;exact Jh.2 ⟨(x:Int),by rw[Qajc];exact Jh.2 ⟨x,hx,rfl⟩,by simp⟩
   have:=hgr.frz kn (Qa7 _);rw[hl1]at this;exact⟨_,.c _ _ this,hK l _ (kn.fin.drop1 hM) hl2 hl3⟩
  ·obtain⟨k,hk,hkos,rfl⟩:=hleft y hy;have kn:=kn.stL 0 rfl h3;have hM3:=kn.e 0 rfl;have hit3:=kn.l 0 rfl;simp only[go_sem,Qc4,Ju];refine Qf (Qb rfl (fun _=>?_) (fun h=>by simp at h));refine Qe ?_;simp only[go_sem];refine Qd ?_;refine Qa ?_;simp only[go_sem,hcw,hit3,hM3];refine⟨⟨_,rfl⟩,?_⟩;simp only[go_sem,Qgk,Ju];refine Qq ?_;simp only[go_sem,hcw];have hol:os.length+1≤LIM:=by omega
   refine kn.growR (B:=[_]) (new:=Qn [k]) hgr (.mk' _ _ _ _) (Qav _) (by simp only[Qah,Jl,Jp];omega) fun t Lg' H4 hgr ht kn=>?_;simp only[go_sem,Qgl,X.next];refine⟨left'.length,by omega,left',_,os++[k],t,Lg',rfl,?_,fun x hx=>?_,fun x hx=>?_,fun y hy'=>?_,hnd',?_,?_,kn,rfl⟩
   ·refine Js.2 ⟨hond,by simp,fun a ha b hb=>?_⟩;simp at hb;subst hb;exact fun e=>hkos (e▸ha)
   ·rcases Jg.1 hx with hx|hx
    ·exact hosub x hx
    ·simp at hx;subst hx;exact hk
   ·rcases hall x hx with h|h
    ·exact .inl (Jb _ h)
    ·by_cases hxk:x=k
     ·subst hxk;exact .inl (Je _ (by simp))
     ·refine .inr ((hl' _).2 ⟨h,fun he=>hxk ?_⟩);simp only[Jaz,C.int.injEq,true_and,and_true]at he;omega
   ·obtain⟨h1,h2⟩:=(hl' y).1 hy';obtain⟨x,hx,hxo,rfl⟩:=hleft y h1;refine⟨x,hx,fun hh=>?_,rfl⟩;rcases Jg.1 hh with hh|hh
    ·exact hxo hh
    ·simp at hh;subst hh;exact h2 rfl
   ·simp;omega
   ·rw[Qa2q];exact hgr
theorem Q84 {M ver:Nat}{ks:List Nat}(hM:H M=.map ver (Qoi ks))(hnd:ks.Nodup)(hl:ks.length≤LIM)
  (hK:∀fl l H',Upd H H' []→l.Pairwise (· < ·)→(∀x,x∈l↔x∈ks)→K (.c (.sl fl 1 (Qn l))) H') :
  Ql prog Qcd [.c (.mp M)] H K:=Qaqe hM hnd hl fun l H'=>hK false l H'
def Gw (Lg:List (Nat×Obj))(sz:Nat)(rows:List (List C))(c:C):Prop:=
 (c=.sl true sz []∧rows=[]∧Lg=[])∨∃y R,c=.vsl y sz 0 rows.length∧Lg=[(y,.vec sz R)]∧R.take rows.length=rows
end Go.AE.Y
namespace Go.AE
open Go.AE.Y
open Go.Proofs.Tryz
variable {H H0:Heap}{K:V→Heap→Prop}{E B Lg:List (Nat×Obj)}
theorem Gr.gw {sz:Nat}{rows:List (List C)}{c:C}(h:Gr Lg sz rows c):Gw Lg sz rows c:=by
 rcases h with h|⟨y,h1,h2⟩
 ·exact .inl h
 ·exact .inr ⟨y,rows,h1,h2,Jal⟩
end Go.AE
namespace Go.AE.Y
open Go.Proofs.Tryz
variable {H H0:Heap}{K:V→Heap→Prop}{E B Lg:List (Nat×Obj)}
theorem Gw.isOw {sz:Nat}{rows:List (List C)}{c:C}(h:Gw Lg sz rows c):c.isOw=false:=by rcases h with ⟨rfl,_⟩|⟨y,R,rfl,_⟩ <;> rfl
theorem Gw.frz {ns:List Int}{c:C}(h:Gw Lg 1 (Qm ns) c)(kn:Kn H0 H E (B++Lg)):FrzC H (un H0) c (.sl false 1 (Qm ns)):=by
 rcases h with ⟨rfl,h2,_⟩|⟨y,R,rfl,rfl,hR⟩
 ·rw[h2];exact FrzR.nil.sl
 ·have hle:(Qm ns).length≤R.length:=by
   have:=congrArg List.length hR;rw[Jo]at this;omega
  have h:=FrzR.same (H:=H) (S:=un H0) (Qa7 ns);exact .vsl y 1 0 _ R (Qm ns) (Qm ns) (Qyc (kn.loc (y,.vec 1 R) (by simp))) (kn.get (y,.vec 1 R) (by simp)).1 (by omega) (by simpa using hR.symm) h.spec.1 (fun i r r' h1 h2=>(h.spec.2 i r r' h1 h2).spec.1) fun i r r' j c c' h1 h2 h3 h4=>(h.spec.2 i r r' h1 h2).spec.2 j c c' h3 h4
theorem Qbfk {fl:Bool}{ns:List Int}{L:List (Nat×Obj)}(kn:Kn H0 H E L)(hl:ns.length≤LIM)(hK:∀t Lg H',Gr Lg 1 (Qm ns) t→t.isOw=false→Kn H0 H' E (L++Lg)→K (.c t) H') :
  Ql prog Q1g [.c (.sl fl 1 (Qm ns))] H K:=by
 refine Qc Qal Qa2n ?_;refine Qa ?_;simp only[go_sem];refine Q6 ?_;refine Qa ?_;simp only[go_sem];intro b hb;refine Qf (Qb rfl ?_ ?_)
 ·intro hbt;have hn:=hb hbt;refine Qa ?_;simp only[go_sem];refine Qh ?_;simp only[go_sem,Qp,Q8,Qcu,Ja,forall_eq,RS.op];refine hK _ [] H ?_ rfl (by simpa using kn);rw[hn];exact .nil 1
 ·intro hbf;refine Qe ?_;simp only[go_sem];refine Qa ?_;simp only[go_sem,Qv];refine⟨.inl trivial,Qa7 _,by omega,fun z hz H1 h1=>?_⟩;have kn:=kn.al hz h1;simp only[go_sem,Q5x];refine Qh ?_;simp only[go_sem,Qp,Q8,Qcu,Ja,forall_eq,RS.op];exact hK _ _ H1 (.mk z 1 _ (by rw[Qv];omega)) rfl kn
theorem Qa2e (ns:List Int)(i:Nat)(x:Int):(Qm ns).set i [.int .i64 x]=Qm (ns.set i x):=by simp[Qm,List.map_set]
theorem Qav7 (ns:List Int)(k:Nat):(Qm ns).take k=Qm (ns.take k):=by simp[Qm,Jba]
theorem Qa5j {c:C}{ns:List Int}(kn:Kn H0 H E (B++Lg))(hgr:Gr Lg 1 (Qm ns) c)(hs:ns.Pairwise (·≤·))(hL:ns.length≤2 ^ 38)
  (hK:∀t Lg' ns' H',Gw Lg' 1 (Qm ns') t→t.isOw=false→Kn H0 H' E (B++Lg')→ns'.Pairwise (· < ·)→(∀x,x∈ns'↔x∈ns)→ns'.length≤ns.length→K (.c t) H') :
  Ql prog Qqf [.c c] H K:=by
 have how:=hgr.isOw;have hok:=eq_true (hgr.okSl kn);have hlen:=hgr.lenC;have hrw:=hgr.rowsOf kn;have hsz:=hgr.elemSz;refine Qc Qal Qaru ?_;refine Qa ?_;simp only[go_sem];refine Q6 ?_;refine Qa ?_;simp only[go_sem,hok,hlen,Qv];intro _;refine Qf (Qb rfl ?_ ?_)
 ·intro hc;have h2:ns.length<2:=by have:=of_decide_eq_true hc;omega
  refine Qa ?_;simp only[go_sem];refine Qh ?_;simp only[go_sem,Qp,Q8,Qcu,Ja,forall_eq,RS.op];exact hK c Lg ns H hgr.gw how kn (Qaql hs fun i h0 hi=>by omega) (fun _=>Iff.rfl) (Jm _)
 ·intro hc;have h2:2≤ns.length:=by have:=of_decide_eq_false hc;omega
  obtain⟨z,rfl,rfl⟩:∃z,c=.vsl z 1 0 ns.length∧Lg=[(z,.vec 1 (Qm ns))]:=by
   rcases hgr with ⟨_,h,_⟩|⟨y,h1,h2⟩
   ·have:ns.length=0:=(by rw[←Qv,h];rfl);omega
   ·exact⟨y,by rw[h1,Qv],h2⟩
  have hz:=kn.l B.length (l:=z) (o:=.vec 1 (Qm ns)) (by simp);refine Qe ?_;simp only[go_sem];refine Q6 ?_;refine Qa ?_;simp only[go_sem];refine Qf (Qd (Qab (fun m e1 H1=>∃(k:Nat),m=ns.length-k∧0<k∧k≤ns.length∧H1=H∧(∀i,0<i→i<k→ns.getD i 0≠ns.getD (i-1) 0)∧e1=[(0,.c (.vsl z 1 0 ns.length)),(3,.c (.int .i64 k))]) (ns.length-1) ?_ ?_))
  ·exact⟨1,rfl,by omega,by omega,rfl,fun i h0 h1=>by omega,rfl⟩
  ·rintro m e1 H1 ⟨k,hm,hk0,hk,rfl,hne,rfl⟩;refine Q6 ?_;refine Qa ?_;simp only[go_sem,hz,Qv,J7,Jm];intro hlim;simp only[LIM]at hlim;refine Qf (Qb rfl ?_ ?_)
   ·intro hc2;have hlt:k<ns.length:=(by simpa using hc2);have hlt1:k-1<ns.length:=(by omega);have e1:((k:Int)-1)=((k-1:Nat):Int):=(by omega);have htk:(Qm ns).take ns.length=Qm ns:=Jc (by rw[Qv];exact Jm _);refine Qe ?_;simp only[go_sem];refine Qf (Qd ?_);refine Qa1 ?_;simp only[go_sem,hz,e1,hlt,hlt1,htk,Qv,Qb3 _ _ hlt,Qb3 _ _ hlt1,J7,Jm];refine⟨Q1 (by omega) (by omega),?_⟩;refine Qb rfl ?_ ?_
    ·intro hc3;have heq:ns.getD k 0=ns.getD (k-1) 0:=(by simpa using hc3);refine Qa ?_;simp only[go_sem,hz,Qv,J7,Jm];refine⟨by omega,?_⟩;refine Q6 ?_;refine Qa ?_;simp only[go_sem];refine Qf (Qd (Qab (fun m e1 H2=>∃(j kk:Nat) (R:List Int),m=ns.length-j∧k<j∧j≤ns.length∧Cmp ns R kk j∧Kn H0 H2 E (B++[(z,.vec 1 (Qm R))])∧
      e1=[(0,.c (.vsl z 1 0 ns.length)),(3,.c (.int .i64 kk)),(4,.c (.vsl z 1 k (ns.length-k))),(5,.c (.int .i64 ((j-k:Nat):Int)))]) (ns.length-(k+1)) ?_ ?_))
     ·refine⟨k+1,k,ns,rfl,by omega,by omega,.start hs hk0 hlt hne heq,kn,?_⟩;have:k+1-k=1:=(by omega);rw[this];rfl
     ·rintro m2 e1 H2 ⟨j,kk,R,hm2,hkj,hj,hcm,kn,rfl⟩;have hz:=kn.l B.length (l:=z) (o:=.vec 1 (Qm R)) (by simp);have hRl:=hcm.len;have hkkj:=hcm.kj;refine Q6 ?_;refine Qa ?_;have e3:k+(ns.length-k)=ns.length:=(by omega);simp only[go_sem,hz,Qv,hRl,e3,Jm];intro _;refine Qf (Qb rfl ?_ ?_)
      ·intro hc4;have hjl:j<ns.length:=(by have:=of_decide_eq_true hc4;omega);have hjR:j<R.length:=(by omega);have hjR1:j-1<R.length:=(by omega);have hjk:j-k<ns.length-k:=(by omega);have hjk1:j-k-1<ns.length-k:=(by omega);have e4:(((j-k:Nat):Int)-1)=((j-k-1:Nat):Int):=(by omega);have hr1:(((Qm R).drop k).take (ns.length-k)).getD (j-k) []=[.int .i64 (ns.getD j 0)]:=by
        rw[←hcm.same j (by omega),←Qb3 _ _ hjR];simp only[Ji,Jay,Jax];rw[if_pos hjk];have:k+(j-k)=j:=(by omega);rw[this]
       have hr2:(((Qm R).drop k).take (ns.length-k)).getD (j-k-1) []=[.int .i64 (ns.getD (j-1) 0)]:=by
        rw[←hcm.same (j-1) (by omega),←Qb3 _ _ hjR1];simp only[Ji,Jay,Jax];rw[if_pos hjk1];have:k+(j-k-1)=j-1:=(by omega);rw[this]
       refine Qe ?_;simp only[go_sem];refine Qbir (fun e2 H3=>∃(kk:Nat) (R:List Int),Cmp ns R kk (j+1)∧Kn H0 H3 E (B++[(z,.vec 1 (Qm R))])∧
        lk 0 e2=.c (.vsl z 1 0 ns.length)∧lk 3 e2=.c (.int .i64 kk)∧lk 4 e2=.c (.vsl z 1 k (ns.length-k))∧lk 5 e2=.c (.int .i64 ((j-k:Nat):Int))) ?_ ?_
       ·intro Q hnr _ _;refine Qd ?_;refine Qa1 ?_;simp only[go_sem,hz,e3,e4,hr1,hr2,hjk,hjk1,Qv,hRl,Jm];refine⟨Q1 (by omega) (by omega),?_⟩;refine Qb rfl ?_ ?_
        ·intro hc5;have hne5:ns.getD j 0≠ns.getD (j-1) 0:=(by simpa using hc5);have hkkl:kk<ns.length:=(by omega);have hkkR:kk<R.length:=(by omega);have htk:(Qm R).take ns.length=Qm R:=Jc (by rw[Qv];omega);refine Qa ?_;simp only[go_sem,hz,e3,hr1,hjk,hkkl,Qb3 _ _ hkkR,Qa2e,Qv,hRl,J7,Jm];intro H3 h3;have kn3:=kn.stL B.length (x:=z) (o:=.vec 1 (Qm R)) (by simp) h3;have kn:Kn H0 H3 E (B++[(z,.vec 1 (Qm (R.set kk (ns.getD j 0))))]):=(by simpa using kn3);refine Qq ?_;simp only[go_sem];refine⟨Q1 (by omega) (by omega),?_⟩;exact hnr _ _ ⟨kk+1,_,hcm.ne hs hjl hne5,kn,rfl,rfl,rfl,rfl⟩
        ·intro hc5;have heq5:ns.getD j 0=ns.getD (j-1) 0:=(by simpa using hc5);refine Qe ?_;simp only[go_sem];exact hnr _ _ ⟨kk,R,hcm.eq hjl heq5,kn,rfl,rfl,rfl,rfl⟩
       ·rintro e2 H3 ⟨kk,R,hcm,kn,l0,l3,l4,l5⟩;refine Qq ?_;simp only[go_sem,X.next,l0,l3,l4,l5];refine⟨Q1 (by omega) (by omega),ns.length-(j+1),by omega,j+1,kk,R,rfl,by omega,by omega,hcm,kn,?_⟩;have:(((j-k:Nat):Int)+1)=((j+1-k:Nat):Int):=(by omega);rw[this]
      ·intro hc4;have hje:j=ns.length:=(by have:=of_decide_eq_false hc4;omega);subst hje;have hkkl:kk≤R.length:=(by omega);refine Q9 ?_;simp only[go_sem,X.next];refine Qa ?_;have e5:kk+(ns.length-kk)=ns.length:=(by omega);simp only[go_sem,hz,e5,Qv,hRl,J7,Jm];refine⟨by omega,fun H3 h3=>?_⟩;have kn3:=kn.stL B.length (x:=z) (o:=.vec 1 (Qm R)) (by simp) h3;have htk2:((Qm R).take kk++List.replicate (ns.length-kk) [C.int .i64 0]++(Qm R).drop ns.length).take kk=Qm (R.take kk):=by
        rw[Jj,List.take_append_of_le_length (by rw[Jo,Qv];omega),Ja8,Nat.min_self,Qav7]
       have hl2:ns.length≤((Qm R).take kk++List.replicate (ns.length-kk) [C.int .i64 0]++(Qm R).drop ns.length).length:=by
        simp only[Jz,Jo,List.length_replicate,Ja3,Qv];omega
       generalize (Qm R).take kk++List.replicate (ns.length-kk) [C.int .i64 0]++(Qm R).drop ns.length=R2 at *;have kn:Kn H0 H3 E (B++[(z,.vec 1 R2)]):=(by simpa using kn3);have hz3:=kn.l B.length (l:=z) (o:=.vec 1 R2) (by simp);refine Qa ?_;simp only[go_sem,hz3,hl2,J7,Jbc];refine⟨by omega,?_⟩;refine Qh ?_;simp only[go_sem,X.next,Qp,Q8,Qcu,Ja,forall_eq,RS.op];have hrl:(Qm (R.take kk)).length=kk:=(by rw[Qv,Jo];omega);refine hK (.vsl z 1 0 kk) _ (R.take kk) H3 (.inr ⟨z,R2,?_,rfl,?_⟩) rfl kn hcm.asc (fun x=>?_) (by rw[Jo];omega)
       ·rw[hrl]
       ·rw[hrl];exact htk2
       ·rw[hcm.mem,Jal]
    ·intro hc3;have hneq:¬ns.getD k 0=ns.getD (k-1) 0:=(by simpa using hc3);refine Qe ?_;simp only[go_sem];refine Qq ?_;simp only[go_sem,X.next];refine⟨Q1 (by omega) (by omega),ns.length-(k+1),by omega,k+1,rfl,by omega,by omega,fun i h0 h1=>?_,rfl⟩;by_cases h:i<k
     ·exact hne i h0 h
     ·have:i=k:=(by omega);subst this;exact hneq
   ·intro hc2;have hge:ns.length≤k:=(by simpa using hc2);refine Q9 ?_;simp only[go_sem,X.next];refine Qa ?_;simp only[go_sem];refine Qh ?_;simp only[go_sem,Qp,Q8,Qcu,Ja,forall_eq,RS.op];exact hK _ _ ns H1 hgr.gw rfl kn (Qaql hs fun i h0 hi=>hne i h0 (by omega)) (fun _=>Iff.rfl) (Jm _)
end Go.AE.Y
namespace Go.AE.Y
attribute [local go_sem] cond_true cond_false Bool.not_true Bool.not_false
open Go.Proofs.Tryz
variable {H H0 F:Heap}{K:V→Heap→Prop}{E E' L:List (Nat×Obj)}
abbrev Qaml (x5:Nat)(fl:Bool)(fns:List Fn):List C:=[.ptr x5 0,.pp [.sl fl 3 (Qy fns)]]
theorem Qbit {x5:Nat}{fl:Bool}{fns:List Fn}{e:Ex}{ns:List Int}{t:C}{Lg:List (Nat×Obj)}(hgr:Gr Lg 1 (Qm ns) t)(kn:Kn F H [] ((x5,.st [t])::Lg))(hl:ns.length<2^38)
  (hK:∀H' t' Lg',Gr Lg' 1 (Qm (ns++clI fns e)) t'→Kn F H' [] ((x5,.st [t'])::Lg')→K (.tup []) H'):Ql prog Qb1 ([.ag e.cells]++(Qaml x5 fl fns).map .c) H K:=by
 have hto:=hgr.isOw;have g5:=kn.l 0 rfl;refine Qc Qal Q4k ?_;refine Qa ?_;simp only[go_sem,e.cells_eq];refine Qa ?_;simp only[go_sem];refine Qb rfl ?_ ?_
 ·intro hc;have h13:e.op=13:=by simpa using hc
  rw[clI,if_pos h13]at hK;refine Qel ?_;simp only[go_sem,g5,hto];refine Qacm ?_;simp only[go_sem,Qib,g5,hto];refine Kn.growR (B:=[(x5,.st [t])]) kn hgr (.mk' _ true 1 _) (by simp[noOw,C.isOw]) (by simp only[Qv,Jl,Jp,LIM];omega) fun t' Lg' H1 hgr' hto' kn=>?_;have g5:=kn.l 0 rfl;simp only[go_sem,Qia,g5,hto'];intro H2 h2;have kn:=kn.stL 0 rfl h2;simp only[go_sem,Qp,Q8,Qasa];rw[Qav6]at hgr';exact hK _ _ _ hgr' kn
 ·intro hc;have h13:¬e.op=13:=by simpa using hc
  rw[clI,if_neg h13,Jam]at hK;refine Qe ?_;simp only[go_sem,Qp,Q8,Qasa];exact hK _ _ _ hgr kn
theorem Qa54 {x5:Nat}{fl:Bool}{fns:List Fn}:∀(n:Nat) (x:Ex) (ns:List Int) (t:C) (Lg:List (Nat×Obj)) (F H:Heap) (K:V→Heap→Prop),x.size≤n→Gr Lg 1 (Qm ns) t→Kn F H [] ((x5,.st [t])::Lg)→ns.length+x.size≤2^38→
  (∀H' t' Lg',Gr Lg' 1 (Qm (ns++clL fns x.pre)) t'→Kn F H' [] ((x5,.st [t'])::Lg')→K (.tup []) H')→Ql prog Qhf [.ag x.cells,.c (.fn Qb1 (Qaml x5 fl fns))] H K:=by
 intro n
 induction n with
 |zero=>intro x ns t Lg F H K h;have:=x.size_pos;omega
 |succ n ih=>
 intro x ns t Lg F H K hn hgr kn hb hK;have hsz:=x.size_kids;have hone:(clI fns x).length≤1:=by rw[clI];split <;> simp
 refine Qc Qal Qam0 ?_;refine Qa ?_;simp only[go_sem,x.cells_eq];refine Qa ?_;simp only[go_sem];have hvc:=fun K=>Qbit (K:=K) (fl:=fl) (fns:=fns) (e:=x) hgr kn (by omega);rw[x.cells_eq]at hvc;refine hvc _ fun H1 t1 Lg1 hgr1 kn=>?_;simp only[go_sem];refine Qa ?_;simp only[go_sem,Qj];intro hl;simp only[LIM]at hl;refine Qd (Qab (fun m e1 H1=>∃(i:Nat) (t2:C) (Lg2:List (Nat×Obj)),m=x.kids.length-i∧i≤x.kids.length∧Gr Lg2 1 (Qm (ns++clI fns x++clL fns (Qac (x.kids.take i)))) t2∧Kn F H1 [] ((x5,.st [t2])::Lg2)∧
  e1=[(1,.c (.fn Qb1 (Qaml x5 fl fns))),(10,.c (.sl false 4 (Qt x.kids))),(11,.c (.int .i64 x.kids.length)),(12,.c (.int .i64 i))]) x.kids.length ?_ ?_)
 ·exact⟨0,t1,Lg1,by omega,by omega,by simpa[Qac,clL]using hgr1,kn,rfl⟩
 ·clear kn hgr1;rintro m e1 H2 ⟨i,t2,Lg2,hm1,hi,hgr,kn,rfl⟩;refine Qa ?_;simp only[go_sem];refine Qf (Qb rfl ?_ ?_)
  ·intro hc;have hlt:i<x.kids.length:=by simpa using hc
   have hms:=Qau (Jf hlt);obtain⟨y,hy⟩:∃y,x.kids[i]=y:=⟨_,rfl⟩;have htk:=Qhd hlt;have hlen:(clL fns (Qac (x.kids.take i))).length+y.size≤Qu x.kids:=by
    have h1:=Q6a fns (Qac (x.kids.take i));rw[Qk1]at h1;have h2:Qu x.kids=Qu (x.kids.take i)+Qu (x.kids.drop i):=(by rw[←Qey,J6]);have h3:x.kids.drop i=y::x.kids.drop (i+1):=(by rw[←hy];exact (List.getElem_cons_drop hlt).symm);rw[h3]at h2;simp only[Qu]at h2;omega
   rw[hy]at hms htk;refine Qe ?_;try simp only[go_sem]
   refine Qf (Qd ?_);refine Qa ?_;simp only[go_sem,hlt,Qj,Qr _ _ hlt,hy,y.cells_eq];intro xk hxk H3 h3;have kn:Kn F H3 [] (((x5,.st [t2])::Lg2)++[(xk,.st [.int .i64 0,.int .i64 0,.str [],.sl true 4 []])]):=kn.al hxk h3;have g5:=kn.getM;simp only[go_sem,Qra,g5];intro H4 h4;have kn:=kn.stM h4;have g5:=kn.getM;refine Qq ?_;simp only[go_sem,g5];obtain⟨F',kn',back⟩:=kn.side;have hih:=fun K=>ih y (ns++clI fns x++clL fns (Qac (x.kids.take i))) t2 Lg2 F' H4 K;rw[y.cells_eq]at hih;refine hih _ (by omega) hgr kn' (by simp only[Jz];omega) fun H5 t3 Lg3 hgr3 kn=>?_;have kn:=Kn.drop (back _ _ kn);simp only[go_sem];refine Qq ?_;simp only[go_sem,AE.X.next];refine⟨Q1 (by omega) (by omega),x.kids.length-(i+1),by omega,i+1,t3,Lg3,rfl,by omega,?_,kn,rfl⟩;rw[htk,Qacy,←Jj];exact hgr3
  ·intro hc;have hge:x.kids.length≤i:=by simpa using hc
   rw[Jc hge]at hgr;refine Q9 ?_;simp only[go_sem,AE.X.next,Qp,Q8,Qasa];refine hK _ t2 Lg2 ?_ kn;rw[x.pre_eq,clL,Jaq,←Jj];exact hgr
theorem Qbky {x5:Nat}{fl:Bool}{fns:List Fn}{x:St}{nest:Int}{ns:List Int}{t:C}{Lg:List (Nat×Obj)}(hgr:Gr Lg 1 (Qm ns) t)(kn:Kn F H [] ((x5,.st [t])::Lg))(hb:ns.length+Qu x.args≤2^38)
  (hK:∀H' t' Lg',Gr Lg' 1 (Qm (ns++clL fns (Qac x.args))) t'→Kn F H' [] ((x5,.st [t'])::Lg')→K (.tup []) H'):Ql prog Qc5 ([.ag x.cells,.c (.int .i64 nest)]++(Qaml x5 fl fns).map .c) H K:=by
 refine Qc Qal Qadr ?_;refine Qa ?_;simp only[go_sem,x.cells_eq];refine Qa ?_;simp only[go_sem,Qj];intro hl;simp only[LIM]at hl;refine Qd (Qab (fun m e1 H1=>∃(i:Nat) (t2:C) (Lg2:List (Nat×Obj)),m=x.args.length-i∧i≤x.args.length∧Gr Lg2 1 (Qm (ns++clL fns (Qac (x.args.take i)))) t2∧Kn F H1 [] ((x5,.st [t2])::Lg2)∧
  e1=[(2,.c (.ptr x5 0)),(3,.c (.pp [.sl fl 3 (Qy fns)])),(9,.c (.sl false 4 (Qt x.args))),(10,.c (.int .i64 x.args.length)),(11,.c (.int .i64 i))]) x.args.length ?_ ?_)
 ·exact⟨0,t,Lg,by omega,by omega,by simpa[Qac,clL]using hgr,kn,rfl⟩
 ·clear kn hgr;rintro m e1 H2 ⟨i,t2,Lg2,hm1,hi,hgr,kn,rfl⟩;refine Qa ?_;simp only[go_sem];refine Qf (Qb rfl ?_ ?_)
  ·intro hc;have hlt:i<x.args.length:=by simpa using hc
   have hms:=Qau (Jf hlt);obtain⟨y,hy⟩:∃y,x.args[i]=y:=⟨_,rfl⟩;have htk:=Qhd hlt;have hlen:(clL fns (Qac (x.args.take i))).length+y.size≤Qu x.args:=by
    have h1:=Q6a fns (Qac (x.args.take i));rw[Qk1]at h1;have h2:Qu x.args=Qu (x.args.take i)+Qu (x.args.drop i):=(by rw[←Qey,J6]);have h3:x.args.drop i=y::x.args.drop (i+1):=(by rw[←hy];exact (List.getElem_cons_drop hlt).symm);rw[h3]at h2;simp only[Qu]at h2;omega
   rw[hy]at hms htk;refine Qe ?_;try simp only[go_sem]
   refine Qf (Qd ?_);refine Qa ?_;simp only[go_sem,hlt,Qj,Qr _ _ hlt,hy,y.cells_eq];intro xk hxk H3 h3;have kn:Kn F H3 [] (((x5,.st [t2])::Lg2)++[(xk,.st [.int .i64 0,.int .i64 0,.str [],.sl true 4 []])]):=kn.al hxk h3;have g5:=kn.getM;simp only[go_sem,Qng,g5];intro H4 h4;have kn:=kn.stM h4;have g5:=kn.getM;refine Qq ?_;simp only[go_sem,g5];obtain⟨F',kn',back⟩:=kn.side;have hih:=fun K=>Qa54 (x5:=x5) (fl:=fl) (fns:=fns) y.size y (ns++clL fns (Qac (x.args.take i))) t2 Lg2 F' H4 K;rw[y.cells_eq]at hih;refine hih _ (Jm _) hgr kn' (by simp only[Jz];omega) fun H5 t3 Lg3 hgr3 kn=>?_;have kn:=Kn.drop (back _ _ kn);simp only[go_sem];refine Qq ?_;simp only[go_sem,AE.X.next];refine⟨Q1 (by omega) (by omega),x.args.length-(i+1),by omega,i+1,t3,Lg3,rfl,by omega,?_,kn,rfl⟩;rw[htk,Qacy,←Jj];exact hgr3
  ·intro hc;have hge:x.args.length≤i:=by simpa using hc
   rw[Jc hge]at hgr;refine Q9 ?_;simp only[go_sem,AE.X.next,Qp,Q8,Qasa];exact hK _ t2 Lg2 hgr kn
theorem Qa55 {x5:Nat}{fl:Bool}{fns:List Fn}:∀(n:Nat) (l:List St) (nest:Int) (f5:Bool) (ns:List Int) (t:C) (Lg:List (Nat×Obj)) (F H:Heap) (K:V→Heap→Prop),Qi l≤n→0≤nest→nest+n≤2^41→Gr Lg 1 (Qm ns) t→Kn F H [] ((x5,.st [t])::Lg)→ns.length+Qi l≤2^38→
  (∀H' t' Lg',Gr Lg' 1 (Qm (ns++clL fns (Qat l))) t'→Kn F H' [] ((x5,.st [t'])::Lg')→K (.tup []) H')→Ql prog Qe2 [.c (.sl f5 5 (Qk l)),.c (.int .i64 nest),.c (.fn Qc5 (Qaml x5 fl fns))] H K:=by
 intro n
 induction n using Nat.strongRecOn with
 |_ n ih=>
 intro l nest f5 ns t Lg F H K hn h0 hm hgr kn hb hK;refine Qc Qal Qam1 ?_;refine Qa ?_;simp only[go_sem,Qx];intro hl;simp only[LIM]at hl;refine Qd (Qab (fun m e1 H1=>∃(i:Nat) (t2:C) (Lg2:List (Nat×Obj)),m=l.length-i∧i≤l.length∧Gr Lg2 1 (Qm (ns++clL fns (Qat (l.take i)))) t2∧Kn F H1 [] ((x5,.st [t2])::Lg2)∧
  e1=[(1,.c (.int .i64 nest)),(2,.c (.fn Qc5 (Qaml x5 fl fns))),(8,.c (.sl f5 5 (Qk l))),(9,.c (.int .i64 l.length)),(10,.c (.int .i64 i))]) l.length ?_ ?_)
 ·exact⟨0,t,Lg,by omega,by omega,by simpa[Qat,clL]using hgr,kn,rfl⟩
 ·clear kn hgr;rintro m e1 H1 ⟨i,t2,Lg2,hm1,hi,hgr,kn,rfl⟩;refine Qa ?_;simp only[go_sem];refine Qf (Qb rfl ?_ ?_)
  ·intro hc;have hlt:i<l.length:=by simpa using hc
   have hms:=Qa3 (Jf hlt);have htk:=Qazp hlt;have hst:=Qi0 hlt;have hsl2:=Qbl l (i+1);have hcl:=Q6a fns (Qat (l.take i));have hpl:=Qla (l.take i);obtain⟨x,hx⟩:∃x,l[i]=x:=⟨_,rfl⟩;rw[hx]at hms hst htk;have hse:=x.size_eq;have hca:=Q6a fns (Qac x.args);rw[Qk1]at hca;have hcb:=Q6a fns (Qat x.body);have hpb:=Qla x.body;refine Qe ?_;try simp only[go_sem]
   refine Qf (Qd ?_);refine Qa ?_;simp only[go_sem,hlt,Qx,Qbe _ _ hlt,hx,x.cells_eq];intro x7 hx7 H3 h3;have kn:Kn F H3 [] (((x5,.st [t2])::Lg2)++[(x7,.st [.int .i64 0,.str [],.sl true 4 [],.sl true 5 [],.sl true 5 []])]):=kn.al hx7 h3;have g7:=kn.getM;simp only[go_sem,Qrc,g7];intro H4 h4;have kn:=kn.stM h4;have g7:=kn.getM;refine Qa ?_;simp only[go_sem,g7];obtain⟨F',kn',back⟩:=kn.side;have hvc:=fun K=>Qbky (K:=K) (fl:=fl) (fns:=fns) (x:=x) (nest:=nest) hgr kn' (by simp only[Jz];omega);rw[x.cells_eq]at hvc;refine hvc _ fun H5 t3 Lg3 hgr kn=>?_;have kn:=back _ _ kn;clear back kn' hvc;have g7:=kn.getM;simp only[go_sem];refine Qa ?_;simp only[go_sem,g7];refine⟨Q1 (by omega) (by omega),?_⟩;obtain⟨F',kn',back⟩:=kn.side;refine ih (Qi x.body) (by omega) x.body (nest+1) false _ _ _ F' _ _ (Jm _) (by omega) (by omega) hgr kn' (by simp only[Jz];omega) fun H6 t4 Lg4 hgr kn=>?_;have kn:=back _ _ kn;clear back kn';have g7:=kn.getM;simp only[go_sem];refine Qq ?_;simp only[go_sem,g7];refine⟨Q1 (by omega) (by omega),?_⟩;obtain⟨F',kn',back⟩:=kn.side;refine ih (Qi x.els) (by omega) x.els (nest+1) false _ _ _ F' _ _ (Jm _) (by omega) (by omega) hgr kn' (by simp only[Jz];omega) fun H7 t5 Lg5 hgr kn=>?_;have kn:=Kn.drop (back _ _ kn);simp only[go_sem];refine Qq ?_;simp only[go_sem,AE.X.next];refine⟨Q1 (by omega) (by omega),l.length-(i+1),by omega,i+1,t5,Lg5,rfl,by omega,?_,kn,rfl⟩;rw[htk,x.pre_eq,Qacy,Qacy,Qacy];simpa only[Jj]using hgr
  ·intro hc;have hge:l.length≤i:=by simpa using hc
   rw[Jc hge]at hgr;refine Q9 ?_;simp only[go_sem,AE.X.next,Qp,Q8,Qasa];exact hK _ t2 Lg2 hgr kn
theorem Qa5x {fl:Bool}{fns:List Fn}{k:Nat}(h:FineP fns)(hk:k<fns.length)(hb:Qi fns[k].body≤2^36)(hK:∀H',Upd H H' []→K (.c (.sl false 1 (Qn (Q39 fns k)))) H') :
  Ql prog Qp4 [.ag [.sl fl 3 (Qy fns)],.c (.int .i64 k)] H K:=by
 obtain⟨f,hfe⟩:∃f,fns[k]=f:=⟨_,rfl⟩;have hcalls:=fun ns h1 h2=>Qa51 h hk (ns:=ns) h1 h2;rw[hfe]at hb hcalls;have hcl:=Q6a fns (Qat f.body);have hpl:=Qla f.body;refine Q5 ?_;refine Qc Qal Qarb ?_;refine Qa ?_;simp only[go_sem];refine Qa ?_;simp only[go_sem];intro x5 hx5 H1 h1;have kn:=(Kn.start0 H).al hx5 h1;refine Qa ?_;simp only[go_sem,hk,Qw,Qaf _ _ hk,hfe,Fn.cells];refine Qa55 (x5:=x5) (fl:=fl) (fns:=fns) (Qi f.body) f.body 1 false [] (.sl true 1 []) [] H H1 _ (Jm _) (by omega) (by omega) (.nil 1) kn (by simp only[Jp];omega) fun H2 t Lg hgr kn=>?_;rw[Jaf]at hgr;have hto:=hgr.isOw;have g5:=kn.l 0 rfl;simp only[go_sem];refine Qa ?_;simp only[go_sem,g5,hto];refine Qbex (B:=[(x5,.st [t])]) kn hgr fun Lg2 H3 hgr kn=>?_;have g5:=kn.l 0 rfl;simp only[go_sem];refine Qa ?_;simp only[go_sem,g5,hto];refine Qa5j kn hgr (Qanu _) (by rw[Qbao];omega) fun t2 Lg3 ns' H4 hgw how2 kn h1 h2 h3=>?_;simp only[go_sem,Qu9,how2];refine Qh ?_;simp only[go_sem,Qp,Q8,Qm4,Ja,forall_eq,RS.op,how2];have he:=hcalls ns' h1 (fun x=>by rw[h2,Qajc]);refine⟨_,.c _ _ (hgw.frz kn),?_⟩;rw[he];exact hK _ kn.fin
end Go.AE.Y
namespace Go.AE.Y
open Go.Proofs.Tryz
def Qvm:List Item:=[sJ 1 5 9]
def Qvn:List Item:=eI 5 (.alloc [.mnil])::Qvm
def Qaj8:SC:=.reg [lJ 17 6,mJ 18 8,eI 19 (.callv (.t 17) [.t 18])] [5,6,11,12,13]
def Qaj9:SC:=.reg [cJ 20 .add 13 1,mJ 13 20] [5,6,11,12,13]
def Qaka:SC:=.seq (.block 1 (sR [iJ 15 1 11 13,lJ 16 15,mJ 8 16] [5,6,8,11,12,13] Qaj8)) Qaj9
def Qae7:SC:=sR [bJ 14 .lss 13 12] [5,6,11,12,13,14] (cX 14 0 Qaka)
def Qvo:List Item:=[mJ 4 22]
def Qakb:SC:=sR (lJ 21 5::aJ 22 Qcd [.t 21]::Qvo) [4] .ret
def Qakc:SC:=.seq (sR [mJ 11 0,nJ 12 11,zJ 13 0] [5,6,11,12,13] (bL 0 Qae7)) Qakb
def Qakd:SC:=sR [fI 10 (.mkf Qet [.t 5,.t 3,.t 6]),sJ 1 6 10] [0,5,6] Qakc
def Qae4:SC:=sR [eI 6 (.alloc [.fnil])] [0,3,5,6] Qakd
def Qae5:SC:=sR (eI 9 (.mkm)::Qvn) [0,3,5] Qae4
def Qasq:SC:=sR [vJ 3 1,fI 4 (.mv (.k (.c (.sl true 1 []))))] [0,3] Qae5
theorem Qard:mFn prog Qp6 2 23 Qasq Qm4=true:=by kernel_rfl
def Qnh:List Item:=[nJ 16 15,zJ 17 0]
def Q7n:SC:=.reg [lJ 21 3,mJ 22 6,eI 23 (.callv (.t 21) [.t 22])] [3,15,16,17]
def Q7o:SC:=.reg [cJ 24 .add 17 1,mJ 17 24] [3,15,16,17]
def Q7p:SC:=.seq (.block 1 (sR [iJ 19 1 15 17,lJ 20 19,mJ 6 20] [3,6,15,16,17] Q7n)) Q7o
def Q46:SC:=sR [bJ 18 .lss 17 16] [3,15,16,17,18] (cX 18 0 Q7p)
def Q7q:SC:=sR (lJ 13 2::mJ 14 0::eI 15 (.callv (.t 13) [.t 14])::Qnh) [3,15,16,17] (bL 0 Q46)
def Q7r:SC:=cT 10 (sR [lJ 11 1,mJ 12 0,.e none none (.upd 0 (.t 11) (.t 12) (.k (.c (.bool true))))] [0,2,3] Q7q) .skip
def Qae6:SC:=sR [lJ 7 1,mJ 8 0,fI 9 (.lup 0 (.c (.bool false)) (.t 7) (.t 8)),oJ 10 9] [0,1,2,3,10] Q7r
theorem Qads:mFn prog Qet 4 25 Qae6 Qasa=true:=by kernel_rfl
def Qa4v:SC:=cT 10 (sR [fB 4 false] [4] .ret) .skip
def Qa4w:SC:=cT 25 (sR [fB 4 false] [4] .ret) .skip
def Qa4x:SC:=.reg [mJ 15 5,cJ 16 .add 15 1,mJ 5 16] [0,1,5]
def Qa4y:SC:=.seq (.block 1 (.seq (.dreg 9 [0,1,2,3,4,5,6,7,8] ( mJ 17 0::mJ 18 5::iJ 19 1 17 18::lJ 20 19::mJ 21 1::mJ 22 5::iJ 23 1 21 22::lJ 24 23::bJ 25 .neq 20 24::[]) [0,1,5,25]) Qa4w)) Qa4x
def Qazc:SC:=.seq (sR [mJ 11 5,mJ 12 0,nJ 13 12,bJ 14 .lss 11 13] [0,1,5,14] (cT 14 .skip (.exit 0))) Qa4y
def Qa4z:SC:=sR [fB 4 true] [4] .ret
def Qa40:SC:=.seq (sR [zJ 5 0] [0,1,5] (bL 0 Qazc)) Qa4z
def Qa41:SC:=.seq (sR [mJ 6 0,nJ 7 6,mJ 8 1,nJ 9 8,bJ 10 .neq 7 9] [0,1,10] Qa4v) Qa40
def Qbd7:SC:=sR [fB 4 false] [0,1] Qa41
theorem Qbc5:mFn prog Q4e 2 26 Qbd7 Qm4=true:=by kernel_rfl
def Qauv:SC:=cT 10 (sR [fB 4 false] [4] .ret) .skip
def Qauw:SC:=cT 24 (sR [fB 4 false] [4] .ret) .skip
def Qaux:SC:=.seq (.dreg 9 [0,1,2,3,4,5,6,7,8] ( mJ 16 0::mJ 17 5::iJ 18 1 16 17::lJ 19 18::mJ 20 1::mJ 21 5::iJ 22 1 20 21::lJ 23 22::bJ 24 .neq 19 23::[]) [0,1,12,13,24]) Qauw
def Qauy:SC:=.reg [cJ 25 .add 13 1,mJ 13 25] [0,1,12,13]
def Qauz:SC:=.seq (.block 1 (sR [mJ 15 13,mJ 5 15] [0,1,5,12,13] Qaux)) Qauy
def Qap8:SC:=sR [bJ 14 .lss 13 12] [0,1,12,13,14] (cX 14 0 Qauz)
def Qau0:SC:=sR [fB 4 true] [4] .ret
def Qau1:SC:=.seq (sR [mJ 11 0,nJ 12 11,zJ 13 0] [0,1,12,13] (bL 0 Qap8)) Qau0
def Qau2:SC:=.seq (sR [mJ 6 0,nJ 7 6,mJ 8 1,nJ 9 8,bJ 10 .neq 7 9] [0,1,10] Qauv) Qau1
def Qa49:SC:=sR [fB 4 false] [0,1] Qau2
theorem Qa2o:mFn prog Qqg 2 26 Qa49 Qm4=true:=by kernel_rfl
end Go.AE.Y
namespace Go.AE.Y
attribute [local go_sem] cond_true cond_false Bool.not_true Bool.not_false
attribute [local instance] Classical.propDecidable
open Go.Proofs.Tryz
variable {H H0:Heap}{K:V→Heap→Prop}{E B Lg:List (Nat×Obj)}{fns:List Fn}
theorem Qaqm {k x:Nat}(h:x∈Q39 fns k):Cls fns k x:=(ascL_mem.1 h).2
theorem Qa7y (hg:FineP fns){k x:Nat}(h:Cls fns k x):x∈Q39 fns k:=by
 obtain⟨_,hj,_⟩:=id h;exact ascL_mem.2 ⟨hj,h⟩
theorem Qbjq {S:Nat→Prop}(h0:S (fns.length-1))(h1:∀k,S k→∀n,Cls fns k n→S n){n:Nat}(hn:NdF fns n):S n:=by
 induction hn with
 |top=>exact h0
 |to _ h ih=>exact h1 _ ih _ h
theorem Qbc8 (h:FineP fns){l:List Nat}(ha:l.Pairwise (· < ·))(h0:fns.length-1∈l)(h1:∀k∈l,∀n,Cls fns k n→n∈l)(h2:∀k∈l,NdF fns k):l=Qct fns:=
 Qa5s ha (Qqj fns) fun n=>⟨fun x=>h.need_mem.2 (h2 n x),fun x=>Qbjq (S:=(·∈l)) h0 h1 (h.need_mem.1 x)⟩
theorem Qbld {f:Bool}{k:Nat}(hg:FineP fns)(hk:k<fns.length)(hb:Qi fns[k].body≤2^36)(hK:∀H',Upd H H' []→K (.c (.sl false 1 (Qn (Q39 fns k)))) H') :
  Ql prog Qcq [.c (.int .i64 k),.c (.pp [.sl f 3 (Qy fns)])] H K:=by
 refine Qc Qal Qaat ?_;refine Qa ?_;simp only[go_sem];refine Qa ?_;simp only[go_sem];refine Qa5x hg hk hb fun H1 hu=>?_;simp only[go_sem,Qlr];refine Qh ?_;simp only[go_sem,Qp,Q8,Q9g,Ja,forall_eq,RS.op];exact hK _ hu
structure VstF (fns:List Fn)(ks ns ks':List Nat):Prop where
 nd:ks'.Nodup
 sub:∀x∈ks,x∈ks'
 ns:∀x∈ns,x∈ks'
 cl:∀x∈ks',x∈ks∨∀m∈Q39 fns x,m∈ks'
 need:∀x∈ks',NdF fns x
theorem VstF.nil {ks:List Nat}(h:ks.Nodup)(hn:∀x∈ks,NdF fns x):VstF fns ks [] ks:=⟨h,fun _ h=>h,by simp,fun _ h=>.inl h,hn⟩
theorem VstF.app {ks ns k1 k2:List Nat}{n:Nat}(h:VstF fns ks ns k1)(k:VstF fns k1 [n] k2):VstF fns ks (ns++[n]) k2:=
 ⟨k.nd,fun x hx=>k.sub x (h.sub x hx),fun x hx=>by
  rcases Jg.1 hx with hx|hx
  ·exact k.sub x (h.ns x hx)
  ·exact k.ns x hx,fun x hx=>by
  rcases k.cl x hx with h1|h1
  ·rcases h.cl x h1 with h2|h2
   ·exact .inl h2
   ·exact .inr fun m hm=>k.sub m (h2 m hm)
  ·exact .inr h1,k.need⟩
theorem VstF.one {ks k1:List Nat}{n:Nat}(h:VstF fns (ks++[n]) (Q39 fns n) k1):VstF fns ks [n] k1:=
 ⟨h.nd,fun x hx=>h.sub x (Jb _ hx),fun x hx=>h.sub x (Je _ hx),fun x hx=>by
  rcases h.cl x hx with h1|h1
  ·rcases Jg.1 h1 with h1|h1
   ·exact .inl h1
   ·simp only[Ja]at h1;subst h1;exact .inr h.ns
  ·exact .inr h1,h.need⟩
theorem Qa70 {ks:List Nat}(hg:FineP fns)(h:ks.Nodup)(hn:∀x∈ks,NdF fns x):ks.length≤4:=by
 have:=Qarz h fun x hx=>hg.nd_lt (hn x hx);have:=hg.len;omega
def Qavo (x5 x6:Nat)(f:Bool)(fns:List Fn):List C:=[.ptr x5 0,.pp [.fn Qcq [.pp [.sl f 3 (Qy fns)]]],.ptr x6 0]
def clEF (M x5 x6:Nat)(f:Bool)(fns:List Fn)(ver:Nat)(ks:List Nat):List (Nat×Obj):=
 [(M,.map ver (Qoi ks)),(x5,.st [.mp M]),(x6,.st [.fn Qet (Qavo x5 x6 f fns)])]
theorem Qbkt {F:Heap}{M x5 x6:Nat}{f:Bool}(hg:FineP fns)(hsz:∀k (hk:k<fns.length),Qi fns[k].body≤2^36) :
  ∀(n:Nat) (ks:List Nat) (ver:Nat) (H:Heap) (K:V→Heap→Prop),NdF fns n→ks.Nodup→(∀x∈ks,NdF fns x)→Kn F H (clEF M x5 x6 f fns ver ks) []→
   (∀(ks':List Nat) (ver':Nat) (H':Heap),VstF fns ks [n] ks'→Kn F H' (clEF M x5 x6 f fns ver' ks') []→K (.tup []) H')→
   Ql prog Qet ([.c (.int .i64 n)]++(Qavo x5 x6 f fns).map .c) H K:=by
 intro n
 induction n using Nat.strongRecOn with
 |ind n ih=>
 intro ks ver H K hn hnd hns kn hK;have hnl:=hg.nd_lt hn;have hM:=kn.e 0 rfl;have hx5:=kn.e 1 rfl;have hx6:=kn.e 2 rfl;refine Qc Qal Qads ?_;refine Qa ?_;simp only[go_sem,Qavo,hx5,hM,Qo4,Qad,Qad7,Qavx];refine Qb rfl ?_ ?_
 ·intro hc;have hnk:n∉ks:=by simpa using hc
  have hkl:=Qa70 hg hnd hns;refine Qa ?_;simp only[go_sem,hx5,hM,Qad7,Qa7w,Qa5f _ _ hnk];refine⟨by simp only[LIM];omega,fun H1 h1=>?_⟩;have kn:Kn F H1 (clEF M x5 x6 f fns (ver+1) (ks++[n])) []:=kn.stE 0 rfl h1;refine Qa ?_;simp only[go_sem];refine Qbld hg hnl (hsz _ hnl) fun H2 hu=>?_;have kn:=kn.call0 hu;obtain⟨L,hL⟩:∃L,Q39 fns n=L:=⟨_,rfl⟩;have hLn:∀x∈L,x<n∧NdF fns x:=fun x hx=>by
   rw[←hL]at hx;exact⟨hg.cls_lt (Qaqm hx),.to hn (Qaqm hx)⟩
  rw[hL];simp only[go_sem,Qnh,Qah];try intro hlim
  simp only[LIM]at hlim;have hnd2:(ks++[n]).Nodup:=Js.2 ⟨hnd,by simp,fun a ha c hc=>by
   simp only[Ja]at hc;subst hc;exact fun e=>hnk (e▸ha)⟩
  have hns2:∀x∈ks++[n],NdF fns x:=fun x hx=>by
   rcases Jg.1 hx with hx|hx
   ·exact hns x hx
   ·simp only[Ja]at hx;subst hx;exact hn
  refine Qd (Qab (fun m e1 H1=>∃(i:Nat) (k1:List Nat) (ver1:Nat),m=L.length-i∧i≤L.length∧VstF fns (ks++[n]) (L.take i) k1∧Kn F H1 (clEF M x5 x6 f fns ver1 k1) []∧
   e1=[(3,.c (.ptr x6 0)),(15,.c (.sl false 1 (Qn L))),(16,.c (.int .i64 L.length)),(17,.c (.int .i64 i))]) L.length ?_ ?_)
  ·exact⟨0,_,_,by omega,by omega,.nil hnd2 hns2,kn,rfl⟩
  ·clear kn hx6;rintro m e1 H3 ⟨i,k1,ver1,hm,hi,hv,kn,rfl⟩;have hx6:=kn.e 2 rfl;refine Qa ?_;simp only[go_sem];refine Qf (Qb rfl ?_ ?_)
   ·intro hc2;have hlt:i<L.length:=(by simpa using hc2);have hgd:L.getD i 0=L[i]:=(by simp[Ji,hlt]);obtain⟨h1,h2⟩:=hLn _ (Jf hlt);rw[←hgd]at h1 h2;refine Qe ?_;try simp only[go_sem]
    refine Qf (Qd ?_);refine Qa ?_;simp only[go_sem,hlt,Qah,Qdw _ _ hlt];refine Qq ?_;simp only[go_sem,hx6];refine ih _ h1 k1 ver1 H3 _ h2 hv.nd hv.need kn fun k2 ver2 H4 hv2 kn=>?_;refine Qq ?_;simp only[go_sem,X.next];refine⟨Q1 (by omega) (by omega),L.length-(i+1),by omega,i+1,k2,ver2,rfl,by omega,?_,kn,rfl⟩;rw[Jd hlt,←hgd];exact hv.app hv2
   ·intro hc2;have hge:L.length≤i:=(by simpa using hc2);rw[Jc hge]at hv;refine Q9 ?_;simp only[go_sem,X.next,Qp,Q8,Qasa,Jt];refine⟨fun _=>trivial,hK k1 ver1 H3 (.one ?_) kn⟩;rw[hL];exact hv
 ·intro hc;have hnk:n∈ks:=by simpa using hc
  refine Qe ?_;simp only[go_sem,Qp,Q8,Qasa,Jt];exact⟨fun _=>trivial,hK ks ver H ⟨hnd,fun _ h=>h,by simpa using hnk,fun _ h=>.inl h,hns⟩ kn⟩
theorem Qa11 {ns:List Nat}{f:Bool}(hg:FineP fns)(hsz:∀k (hk:k<fns.length),Qi fns[k].body≤2^36)(hns:ns=[fns.length-1])(hK:∀H',Upd H H' []→K (.c (.sl false 1 (Qn (Qct fns)))) H') :
  Ql prog Qp6 [.c (.sl true 1 (Qn ns)),.c (.fn Qcq [.pp [.sl f 3 (Qy fns)]])] H K:=by
 refine Q5 ?_;refine Qc Qal Qard ?_;refine Qa ?_;simp only[go_sem];refine Qa ?_;simp only[go_sem];intro M hM0 H1 h1;have kn:Kn H H1 [] [(M,.map 0 (Qoi []))]:=(Kn.start0 H).al hM0 h1;simp only[go_sem,Qvn];intro x5 hx5 H3 h3;have kn:=kn.al hx5 h3;have hx5:=kn.l 1 rfl;simp only[go_sem,Qvm,hx5];intro H4 h4;have kn:=kn.stL 1 rfl h4;refine Qa ?_;simp only[go_sem];intro x6 hx6 H5 h5;have kn:=kn.al hx6 h5;have hx6:=kn.l 2 rfl;refine Qa ?_;simp only[go_sem,hx6];intro H6 h6;have kn:Kn H H6 [] (clEF M x5 x6 f fns 0 []++[]):=kn.stL 2 rfl h6;have kF:=kn.mid;have hnl:ns.length=1:=by rw[hns];rfl
 refine Q6 ?_;refine Qa ?_;simp only[go_sem,Qah];try intro hlim
 refine Qf (Qd (Qab (fun m e1 H1=>∃(i:Nat) (k1:List Nat) (ver1:Nat),m=ns.length-i∧i≤ns.length∧VstF fns [] (ns.take i) k1∧Kn H6 H1 (clEF M x5 x6 f fns ver1 k1) []∧
  e1=[(5,.c (.ptr x5 0)),(6,.c (.ptr x6 0)),(11,.c (.sl true 1 (Qn ns))),(12,.c (.int .i64 ns.length)),(13,.c (.int .i64 i))]) ns.length ?_ ?_))
 ·exact⟨0,_,_,by omega,by omega,.nil List.nodup_nil (by simp),kF,rfl⟩
 ·clear kF hx5 hx6;rintro m e1 H8 ⟨i,k1,ver1,hm,hi,hv,kF,rfl⟩;have hx6:=kF.e 2 rfl;have hx5:=kF.e 1 rfl;have hM:=kF.e 0 rfl;refine Qa ?_;simp only[go_sem];refine Qf (Qb rfl ?_ ?_)
  ·intro hc2;have hlt:i<ns.length:=by simpa using hc2
   have hgd:ns.getD i 0=ns[i]:=by simp[Ji,hlt]
   have hnd:NdF fns (ns.getD i 0):=by
    have:ns[i]∈ns:=Jf hlt;rw[←hgd]at this;rw[hns]at this⊢;simp only[Ja]at this;rw[this];exact .top
   refine Qe ?_;try simp only[go_sem]
   refine Qf (Qd ?_);refine Qa ?_;simp only[go_sem,hlt,Qah,Qdw _ _ hlt];refine Qq ?_;simp only[go_sem,hx6];refine Qbkt hg hsz _ k1 ver1 H8 _ hnd hv.nd hv.need kF fun k2 ver2 H9 hv2 kF=>?_;refine Qq ?_;simp only[go_sem,X.next];refine⟨Q1 (by omega) (by omega),ns.length-(i+1),by omega,i+1,k2,ver2,rfl,by omega,?_,kF,rfl⟩;rw[Jd hlt,←hgd];exact hv.app hv2
  ·intro hc2;have hge:ns.length≤i:=by simpa using hc2
   rw[Jc hge]at hv;have hkl:=Qa70 hg hv.nd hv.need;refine Q9 ?_;simp only[go_sem,X.next];refine Qa ?_;simp only[go_sem,hx5];refine Q84 hM hv.nd (by simp only[LIM];omega) fun fl2 l H9 hu hasc hmem=>?_;have kn:=kn.comp (kF.call0 hu) rfl;simp only[go_sem,Qvo];refine Qh ?_;simp only[go_sem,Qp,Q8,Qm4,Ja,forall_eq,RS.op];have hl:l=Qct fns:=by
    refine Qbc8 hg hasc ?_ ?_ ?_
    ·rw[hmem];exact hv.ns _ (by rw[hns];simp)
    ·intro k hk n hn;rw[hmem]at hk⊢;exact (hv.cl k hk).resolve_left (by simp) n (Qa7y hg hn)
    ·intro k hk;rw[hmem]at hk;exact hv.need k hk
   rw[hl];exact⟨_,.c _ _ (Qaob (Qqk (Qav _))),hK _ kn.fin⟩
noncomputable def Qarw (fns:List Fn):List Nat:=if Qss fns=true then Qct fns else []
theorem Qa5v {fns:List Fn}{n:Nat}(h:Qs fns≤n):∀k (hk:k<fns.length),Qi fns[k].body≤n:=fun k hk=>Nat.le_trans (Qa5 (Jf hk)) h
theorem Qaq0 {fl:Bool}(hf:Qs fns≤2^36)(g:GK H)(hK:∀H',Upd H H' []→K (.c (.sl false 1 (Qn (Qarw fns)))) H') :
  Ql prog Qoc [.ag [.sl fl 3 (Qy fns)]] H K:=by
 refine Q5 ?_;refine Qc Qal Qaon ?_;refine Qa ?_;simp only[go_sem];refine Q6 ?_;refine Qa ?_;simp only[go_sem];refine Qaoe (by omega) g fun H1 hu=>?_;have kn:=(Kn.start0 H).call0 hu;simp only[go_sem,Qrz];refine Qf (Qb rfl ?_ ?_)
 ·intro hc;have hg:Qss fns=false:=by simpa using hc
  refine Qa ?_;simp only[go_sem];refine Qh ?_;simp only[go_sem,AE.X.next,Qp,Q8,Qcu,Ja,forall_eq,RS.op];have:=hK _ kn.fin;rw[Qarw,hg]at this;exact⟨_,.c _ _ FrzR.nil.sl,this⟩
 ·intro hc;have hgb:Qss fns=true:=by simpa using hc
  have hg:=fine_iff.1 hgb;rw[Qarw,if_pos hgb]at hK;have h1:=hg.len;have e1:(fns.length:Int)-1=((fns.length-1:Nat):Int):=by omega
  refine Qe ?_;try simp only[go_sem]
  refine Qa ?_;simp only[go_sem,Qw,e1];try intro _
  refine⟨Q1 (by omega) (by omega),?_⟩;refine Qa11 (ns:=[fns.length-1]) (f:=fl) hg (Qa5v hf) rfl fun H2 hu=>?_;have kn:=kn.call0 hu;simp only[go_sem,Qr0];refine Qh ?_;simp only[go_sem,Qp,Q8,Qcu,Ja,forall_eq,RS.op];exact⟨_,.c _ _ (Qaob (Qqk (Qav _))),hK _ kn.fin⟩
end Go.AE.Y
namespace Go.AE.Y
attribute [local go_sem] cond_true cond_false Bool.not_true Bool.not_false
open Go.Proofs.Tryz
variable {H H0 F:Heap}{K:V→Heap→Prop}{E B Lg:List (Nat×Obj)}{fns:List Fn}
theorem Qa7v {g:Ex→Ex}{f:Nat}{caps:List C}{l:List Ex}{fl:Bool}
  (hf:∀x∈l,∀(H1:Heap) (K':V→Heap→Prop),(∀H2,Upd H1 H2 []→K' (.ag (g x).cells) H2)→Ql prog f ([.ag x.cells]++caps.map .c) H1 K')
  (hK:∀H',Upd H H' []→K (.c (.sl false 4 (Qt (l.map g)))) H'):Ql prog Qb5 [.c (.sl fl 4 (Qt l)),.c (.fn f caps)] H K:=by
 refine Q5 ?_;refine Qc Qal Quk ?_;refine Qa ?_;simp only[go_sem];refine Qa ?_;simp only[go_sem];refine Q6 ?_;refine Qa ?_;simp only[go_sem,Qj];intro hl;simp only[LIM]at hl;refine Qf (Qd (Qab (fun m e1 H1=>∃(i:Nat) (t:C) (Lg:List (Nat×Obj)),m=l.length-i∧i≤l.length∧Gr Lg 4 (Qt ((l.take i).map g)) t∧Kn H H1 [] Lg∧
  e1=[(1,.c (.fn f caps)),(5,.c t),(8,.c (.sl fl 4 (Qt l))),(9,.c (.int .i64 l.length)),(10,.c (.int .i64 i))]) l.length ?_ ?_))
 ·exact⟨0,_,[],by omega,by omega,.nil 4,Kn.start0 H,rfl⟩
 ·rintro m e1 H1 ⟨i,t,Lg,hm,hi,hgr,kn,rfl⟩;have hto:=hgr.isOw;refine Qa ?_;simp only[go_sem,hto];refine Qf (Qb rfl ?_ ?_)
  ·intro hc;have hlt:i<l.length:=by simpa using hc
   obtain⟨x,hx⟩:∃x,l[i]=x:=⟨_,rfl⟩;have hxm:x∈l:=by rw[←hx];exact Jf hlt
   have htk:Qt ((l.take (i+1)).map g)=Qt ((l.take i).map g)++[(g x).cells]:=by
    rw[Qe9,Jd hlt,hx];simp
   refine Qe ?_;try simp only[go_sem]
   refine Qf (Qd ?_);refine Qa ?_;simp only[go_sem,hto,hlt,Qj,Qr _ _ hlt,hx,x.cells_eq];intro x7 hx7 H3 h3;have kn:Kn H H3 [] ([(x7,.st [.int .i64 0,.int .i64 0,.str [],.sl true 4 []])]++Lg):=(kn.al hx7 h3).perm Jy;have g7:=kn.l 0 rfl;simp only[go_sem,Qff,g7,hto];intro H4 h4;have kn:Kn H H4 [] ([(x7,.st [.int .i64 x.op,.int .i64 x.n,.str x.name,.sl false 4 (Qt x.kids)])]++Lg):=kn.stL 0 rfl h4;have g7:=kn.l 0 rfl;refine Qq ?_;simp only[go_sem,g7,hto];have hfx:=hf x hxm H4;rw[x.cells_eq]at hfx;refine hfx _ fun H5 hu=>?_;have kn:=kn.call0 hu;simp only[go_sem,Qfh,hto,(g x).cells_len];refine kn.growR hgr (new:=[(g x).cells]) (.mk' _ true 4 _) (by simpa using (g x).noOw) (by simp only[Qj,J2,Jo,Jl,Jp,LIM];omega) fun t2 Lg2 H6 hgr2 hto2 kn=>?_;simp only[go_sem,Qfg,hto2];refine Qq ?_;simp only[go_sem,AE.X.next,hto2];exact⟨Q1 (by omega) (by omega),l.length-(i+1),by omega,i+1,t2,Lg2,rfl,by omega,by rw[htk];exact hgr2,kn.sub (List.sublist_append_right _ _),rfl⟩
  ·intro hc;have hge:l.length≤i:=by simpa using hc
   rw[Jc hge]at hgr;refine Q9 ?_;simp only[go_sem,AE.X.next];refine Qa ?_;simp only[go_sem,hto];refine Qh ?_;simp only[go_sem,Qp,Q8,Qm4,Ja,forall_eq,RS.op,hto];exact⟨_,.c _ _ (hgr.frz (B:=[]) kn (Qa4 _)),hK _ kn.fin⟩
theorem Qawg {g:St→St}{f:Nat}{caps:List C}{l:List St}{fl:Bool}
  (hf:∀x∈l,∀(H1:Heap) (K':V→Heap→Prop),(∀H2,Upd H1 H2 []→K' (.ag (g x).cells) H2)→Ql prog f ([.ag x.cells]++caps.map .c) H1 K')
  (hK:∀H',Upd H H' []→K (.c (.sl false 5 (Qk (l.map g)))) H'):Ql prog Qba [.c (.sl fl 5 (Qk l)),.c (.fn f caps)] H K:=by
 refine Q5 ?_;refine Qc Qal Qul ?_;refine Qa ?_;simp only[go_sem];refine Qa ?_;simp only[go_sem];refine Q6 ?_;refine Qa ?_;simp only[go_sem,Qx];intro hl;simp only[LIM]at hl;refine Qf (Qd (Qab (fun m e1 H1=>∃(i:Nat) (t:C) (Lg:List (Nat×Obj)),m=l.length-i∧i≤l.length∧Gr Lg 5 (Qk ((l.take i).map g)) t∧Kn H H1 [] Lg∧
  e1=[(1,.c (.fn f caps)),(5,.c t),(8,.c (.sl fl 5 (Qk l))),(9,.c (.int .i64 l.length)),(10,.c (.int .i64 i))]) l.length ?_ ?_))
 ·exact⟨0,_,[],by omega,by omega,.nil 5,Kn.start0 H,rfl⟩
 ·rintro m e1 H1 ⟨i,t,Lg,hm,hi,hgr,kn,rfl⟩;have hto:=hgr.isOw;refine Qa ?_;simp only[go_sem,hto];refine Qf (Qb rfl ?_ ?_)
  ·intro hc;have hlt:i<l.length:=by simpa using hc
   obtain⟨x,hx⟩:∃x,l[i]=x:=⟨_,rfl⟩;have hxm:x∈l:=by rw[←hx];exact Jf hlt
   have htk:Qk ((l.take (i+1)).map g)=Qk ((l.take i).map g)++[(g x).cells]:=by
    rw[Qanw,Jd hlt,hx];simp
   refine Qe ?_;try simp only[go_sem]
   refine Qf (Qd ?_);refine Qa ?_;simp only[go_sem,hto,hlt,Qx,Qbe _ _ hlt,hx,x.cells_eq];intro x7 hx7 H3 h3;have kn:Kn H H3 [] ([(x7,.st [.int .i64 0,.str [],.sl true 4 [],.sl true 5 [],.sl true 5 []])]++Lg):=(kn.al hx7 h3).perm Jy;have g7:=kn.l 0 rfl;simp only[go_sem,Qfi,g7,hto];intro H4 h4;have kn:Kn H H4 [] ([(x7,stO x)]++Lg):=kn.stL 0 rfl h4;have g7:=kn.l 0 rfl;refine Qq ?_;simp only[go_sem,g7,hto];have hfx:=hf x hxm H4;rw[x.cells_eq]at hfx;refine hfx _ fun H5 hu=>?_;have kn:=kn.call0 hu;simp only[go_sem,Qfk,hto,(g x).cells_len];refine kn.growR hgr (new:=[(g x).cells]) (.mk' _ true 5 _) (by simpa using (g x).noOw) (by simp only[Qx,J2,Jo,Jl,Jp,LIM];omega) fun t2 Lg2 H6 hgr2 hto2 kn=>?_;simp only[go_sem,Qfj,hto2];refine Qq ?_;simp only[go_sem,AE.X.next,hto2];exact⟨Q1 (by omega) (by omega),l.length-(i+1),by omega,i+1,t2,Lg2,rfl,by omega,by rw[htk];exact hgr2,kn.sub (List.sublist_append_right _ _),rfl⟩
  ·intro hc;have hge:l.length≤i:=by simpa using hc
   rw[Jc hge]at hgr;refine Q9 ?_;simp only[go_sem,AE.X.next];refine Qa ?_;simp only[go_sem,hto];refine Qh ?_;simp only[go_sem,Qp,Q8,Qm4,Ja,forall_eq,RS.op,hto];exact⟨_,.c _ _ (hgr.frz (B:=[]) kn (Qas _)),hK _ kn.fin⟩
theorem Qavp:∀(n:Nat) (x:Ex) {H:Heap} {K:V→Heap→Prop},x.size≤n→(∀H',Upd H H' []→K (.ag x.cells) H')→Ql prog Qft [.ag x.cells] H K:=by
 intro n
 induction n with
 |zero=>intro x H K h;have:=x.size_pos;omega
 |succ n ih=>
 intro x H K hn hK;have hsz:=x.size_kids;refine Q5 ?_;refine Qc Qal Qajp ?_;refine Qa ?_;simp only[go_sem,x.cells_eq];intro x1 hx1 H1 h1;have kn:=(Kn.start0 H).al hx1 h1;simp only[go_sem,Qpc];intro x2 hx2 H2 h2;have kn:=kn.al hx2 h2;have g1:=kn.l 0 rfl;refine Qa ?_;simp only[go_sem,g1];refine Qa7v (g:=id) (caps:=[]) (fun y hy H1 K' hK'=>ih y (by have:=Qau hy;omega) hK') fun H3 hu=>?_;rw[Jan];have kn:=kn.call0 hu;have g1:=kn.l 0 rfl;simp only[go_sem,Qpd,g1];intro H4 h4;have kn:=kn.stL 0 rfl h4;have g1:=kn.l 0 rfl;have g2:=kn.l 1 rfl;refine Qa ?_;simp only[go_sem,g1,g2];intro H5 h5;have kn:=kn.stL 1 rfl h5;have g2:=kn.l 1 rfl;refine Qh ?_;simp only[go_sem,Qp,Q8,Q9m,Ja,forall_eq,RS.op,g2];rw[x.cells_eq]at hK;exact⟨_,(FrzL.cons (Qg rfl) (.cons (Qg rfl) (.cons (Qg rfl) (.cons (FrzR.same (Qa4 _)).sl .nil)))).ag,hK _ kn.fin⟩
theorem Qavq:∀(n:Nat) (x:St) {H:Heap} {K:V→Heap→Prop},x.size≤n→(∀H',Upd H H' []→K (.ag x.cells) H')→Ql prog Qdq [.ag x.cells] H K:=by
 intro n
 induction n with
 |zero=>intro x H K h;have:=x.size_pos;omega
 |succ n ih=>
 intro x H K hn hK;have hsz:=x.size_eq;refine Q5 ?_;refine Qc Qal Qajq ?_;refine Qa ?_;simp only[go_sem,x.cells_eq];intro x1 hx1 H1 h1;have kn:=(Kn.start0 H).al hx1 h1;simp only[go_sem,Qpe];intro x2 hx2 H2 h2;have kn:=kn.al hx2 h2;have g1:=kn.l 0 rfl;refine Qa ?_;simp only[go_sem,g1];refine Qa7v (g:=id) (caps:=[]) (fun y hy H1 K' hK'=>Qavp y.size y (Jm _) hK') fun H3 hu=>?_;rw[Jan];have kn:=kn.call0 hu;have g1:=kn.l 0 rfl;simp only[go_sem,Qpf,g1];intro H4 h4;have kn:=kn.stL 0 rfl h4;have g1:=kn.l 0 rfl;refine Qa ?_;simp only[go_sem,g1];refine Qawg (g:=id) (caps:=[]) (fun y hy H1 K' hK'=>ih y (by have:=Qa3 hy;omega) hK') fun H3 hu=>?_;rw[Jan];have kn:=kn.call0 hu;have g1:=kn.l 0 rfl;simp only[go_sem,Qpg,g1];intro H4 h4;have kn:=kn.stL 0 rfl h4;have g1:=kn.l 0 rfl;refine Qa ?_;simp only[go_sem,g1];refine Qawg (g:=id) (caps:=[]) (fun y hy H1 K' hK'=>ih y (by have:=Qa3 hy;omega) hK') fun H3 hu=>?_;rw[Jan];have kn:=kn.call0 hu;have g1:=kn.l 0 rfl;simp only[go_sem,Qph,g1];intro H4 h4;have kn:=kn.stL 0 rfl h4;have g1:=kn.l 0 rfl;have g2:=kn.l 1 rfl;refine Qa ?_;simp only[go_sem,g1,g2];intro H5 h5;have kn:=kn.stL 1 rfl h5;have g2:=kn.l 1 rfl;refine Qh ?_;simp only[go_sem,Qp,Q8,Q03,Ja,forall_eq,RS.op,g2];rw[x.cells_eq]at hK;exact⟨_,(FrzL.cons (Qg rfl) (.cons (Qg rfl) (.cons (FrzR.same (Qa4 _)).sl (.cons (FrzR.same (Qas _)).sl (.cons (FrzR.same (Qas _)).sl .nil))))).ag,hK _ kn.fin⟩
theorem Qa1o {fl:Bool}{ss:List (List UInt8)}(hl:ss.length≤2^38)(hK:∀H',Upd H H' []→K (.c (.sl false 1 (Q0 ss))) H'):Ql prog Qfv [.c (.sl fl 1 (Q0 ss))] H K:=by
 refine Q5 ?_;refine Qc Qal Q6v ?_;refine Qa ?_;simp only[go_sem];refine Q6 ?_;refine Qa ?_;simp only[go_sem];intro b hb;refine Qf (Qb rfl ?_ ?_)
 ·intro hbt;have hn:=hb hbt;have hs:ss=[]:=by
   cases ss with
   |nil=>rfl
   |cons a r=>simp[Q0]at hn
  subst hs;refine Qa ?_;simp only[go_sem];refine Qh ?_;simp only[go_sem,Qp,Q8,Qcu,Ja,forall_eq,RS.op];exact⟨_,.c _ _ FrzR.nil.sl,hK _ (Kn.start0 H).fin⟩
 ·intro hbf;refine Qe ?_;simp only[go_sem];refine Qa ?_;simp only[go_sem,Qo];refine⟨.inl trivial,Qaw _,by simp only[LIM];omega,fun z hz H1 h1=>?_⟩;have kn:=(Kn.start0 H).al hz h1;simp only[go_sem,Qkg];refine Qh ?_;simp only[go_sem,Qp,Q8,Qcu,Ja,forall_eq,RS.op];exact⟨_,.c _ _ ((Gr.mk z 1 _ (by rw[Qo];omega)).frz (B:=[]) kn (Qaw _)),hK _ kn.fin⟩
theorem Qa52 {f:Fn}(hl:f.params.length≤2^38)(hK:∀H',Upd H H' []→K (.ag f.cells) H'):Ql prog Qp5 [.ag f.cells] H K:=by
 refine Q5 ?_;refine Qc Qal Qarc ?_;refine Qa ?_;simp only[go_sem,Fn.cells];intro x1 hx1 H1 h1;have kn:=(Kn.start0 H).al hx1 h1;simp only[go_sem,Qvj];intro x2 hx2 H2 h2;have kn:=kn.al hx2 h2;have g1:=kn.l 0 rfl;refine Qa ?_;simp only[go_sem,g1];refine Qa1o hl fun H3 hu=>?_;have kn:=kn.call0 hu;have g1:=kn.l 0 rfl;simp only[go_sem,Qvk,g1];intro H4 h4;have kn:=kn.stL 0 rfl h4;have g1:=kn.l 0 rfl;refine Qa ?_;simp only[go_sem,g1];refine Qawg (g:=id) (caps:=[]) (fun y hy H1 K' hK'=>Qavq y.size y (Jm _) hK') fun H3 hu=>?_;rw[Jan];have kn:=kn.call0 hu;have g1:=kn.l 0 rfl;simp only[go_sem,Qvl,g1];intro H4 h4;have kn:=kn.stL 0 rfl h4;have g1:=kn.l 0 rfl;have g2:=kn.l 1 rfl;refine Qa ?_;simp only[go_sem,g1,g2];intro H5 h5;have kn:=kn.stL 1 rfl h5;have g2:=kn.l 1 rfl;refine Qh ?_;simp only[go_sem,Qp,Q8,Q9j,Ja,forall_eq,RS.op,g2];exact⟨_,(FrzL.cons (Qg rfl) (.cons (FrzR.same (Qaw _)).sl (.cons (FrzR.same (Qas _)).sl .nil))).ag,hK _ kn.fin⟩
theorem Qbkz {fl:Bool}{k:Nat}(hk:k<fns.length)(hp:∀f∈fns,f.params.length≤2^38)(hK:∀H',Upd H H' []→K (.ag (fnAt fns k).cells) H'):Ql prog Qbi ([.c (.int .i64 k)]++[C.pp [.sl fl 3 (Qy fns)]].map .c) H K:=by
 obtain⟨f,hfe⟩:∃f,fns[k]=f:=⟨_,rfl⟩;rw[Qfm hk,hfe]at hK;have hpf:f.params.length≤2^38:=hp f (by rw[←hfe];exact Jf hk);refine Q5 ?_;refine Qc Qal Qyr ?_;refine Qa ?_;simp only[go_sem];intro x3 hx3 H1 h1;have kn:=(Kn.start0 H).al hx3 h1;refine Qa ?_;simp only[go_sem,hk,Qw,Qaf _ _ hk,hfe,Fn.take3,Fn.allOw,Fn.cells_len];refine Qa52 hpf fun H2 hu=>?_;have kn:=kn.call0 hu;have g3:=kn.l 0 rfl;simp only[go_sem,Qge,g3,Fn.cells];intro H3 h3;have kn:=kn.stL 0 rfl h3;have g3:=kn.l 0 rfl;refine Qh ?_;simp only[go_sem,Qp,Q8,Qjc,Ja,forall_eq,RS.op,g3];exact⟨_,(FrzL.cons (Qg rfl) (.cons (FrzR.same (Qaw _)).sl (.cons (FrzR.same (Qas _)).sl .nil))).ag,hK _ kn.fin⟩
theorem Qa2p {fl fl2:Bool}{l:List Nat}(hl4:∀k∈l,k<fns.length)(hp:∀f∈fns,f.params.length≤2^38)(hK:∀H',Upd H H' []→K (.c (.sl false 3 (Qy (l.map (fnAt fns))))) H') :
  Ql prog Qe0 [.c (.sl fl2 1 (Qn l)),.c (.fn Qbi [.pp [.sl fl 3 (Qy fns)]])] H K:=by
 refine Q5 ?_;refine Qc Qal Q4m ?_;refine Qa ?_;simp only[go_sem];refine Qa ?_;simp only[go_sem];refine Q6 ?_;refine Qa ?_;simp only[go_sem,Qah];intro hl;simp only[LIM]at hl;refine Qf (Qd (Qab (fun m e1 H1=>∃(i:Nat) (t:C) (Lg:List (Nat×Obj)),m=l.length-i∧i≤l.length∧Gr Lg 3 (Qy ((l.take i).map (fnAt fns))) t∧Kn H H1 [] Lg∧
  e1=[(1,.c (.fn Qbi [.pp [.sl fl 3 (Qy fns)]])),(5,.c t),(8,.c (.sl fl2 1 (Qn l))),(9,.c (.int .i64 l.length)),(10,.c (.int .i64 i))]) l.length ?_ ?_))
 ·exact⟨0,_,[],by omega,by omega,.nil 3,Kn.start0 H,rfl⟩
 ·rintro m e1 H1 ⟨i,t,Lg,hm,hi,hgr,kn,rfl⟩;have hto:=hgr.isOw;refine Qa ?_;simp only[go_sem,hto];refine Qf (Qb rfl ?_ ?_)
  ·intro hc;have hlt:i<l.length:=by simpa using hc
   obtain⟨x,hx⟩:∃x,l[i]=x:=⟨_,rfl⟩;have hxd:l.getD i 0=x:=by simp[Ji,hlt,hx]
   have hxm:x<fns.length:=hl4 x (by rw[←hx];exact Jf hlt);have htk:Qy ((l.take (i+1)).map (fnAt fns))=Qy ((l.take i).map (fnAt fns))++[(fnAt fns x).cells]:=by
    rw[Qyk,Jd hlt,hx];simp
   refine Qe ?_;try simp only[go_sem]
   refine Qf (Qd ?_);refine Qa ?_;simp only[go_sem,hto,hlt,Qah,Qdw _ _ hlt,hxd];refine Qq ?_;simp only[go_sem,hto];refine Qbkz hxm hp fun H5 hu=>?_;have kn:=kn.call0 hu;simp only[go_sem,Qii,hto,Fn.cells_len];refine Kn.growR (B:=[]) kn hgr (new:=[(fnAt fns x).cells]) (.mk' _ true 3 _) (by simp[Fn.noOw]) (by simp only[Qw,J2,Jo,Jl,Jp,LIM];omega) fun t2 Lg2 H6 hgr2 hto2 kn=>?_;simp only[go_sem,Qih,hto2];refine Qq ?_;simp only[go_sem,AE.X.next,hto2];exact⟨Q1 (by omega) (by omega),l.length-(i+1),by omega,i+1,t2,Lg2,rfl,by omega,by rw[htk];exact hgr2,kn,rfl⟩
  ·intro hc;have hge:l.length≤i:=by simpa using hc
   rw[Jc hge]at hgr;refine Q9 ?_;simp only[go_sem,AE.X.next];refine Qa ?_;simp only[go_sem,hto];refine Qh ?_;simp only[go_sem,Qp,Q8,Qm4,Ja,forall_eq,RS.op,hto];exact⟨_,.c _ _ (hgr.frz (B:=[]) kn (Qcr _)),hK _ kn.fin⟩
noncomputable def Qaqt (fns:List Fn):List Fn:=if Qss fns=true then Qbm fns else []
theorem Qa1j {S:Nat→Bool}{rows:List (List C)}{fl:Bool}(hr:∀r∈rows,noOw r=true)(b:Bool):FrzV H S (.tup [.ag [.sl fl 3 rows],.c (.bool b)]) (.tup [.ag [.sl false 3 rows],.c (.bool b)]):=by
 refine .tup _ _ rfl fun j x x' h1 h2=>?_;rcases j with _|_|j
 ·simp only[J0,Jv]at h1 h2;subst h1 h2;exact (FrzL.cons (FrzR.same hr).sl .nil).ag
 ·simp only[Jae,J0,Jv]at h1 h2;subst h1 h2;exact .c _ _ (Qg rfl)
 ·simp at h1
theorem Qar4 (h:Qlj fns=true):∀f∈fns,f.params.length≤3:=by
 intro f hf;simp only[Qlj,Jq,decide_eq_true_eq,J5]at h;have:=h.1.2 f hf;rw[Fn.form]at this;simp only[Jq,decide_eq_true_eq]at this;exact this.1.2
theorem Qbb7 {fl:Bool}(hf:Qs fns≤2^36)(g:GK H)(hK:∀H',Upd H H' []→K (.tup [.ag [.sl false 3 (Qy (Qaqt fns))],.c (.bool (Qss fns))]) H') :
  Ql prog Qfo [.ag [.sl fl 3 (Qy fns)]] H K:=by
 refine Q5 ?_;have g0:=g;refine Qc Qal Q6l ?_;refine Qa ?_;simp only[go_sem];intro x2 hx2 H1 h1;have kn:=(Kn.start0 H).al hx2 h1;have g:=g0.kn kn;simp only[go_sem,Qjp];refine Q6 ?_;refine Qa ?_;simp only[go_sem];refine Qaoe (by omega) g fun H2 hu=>?_;have kn:=kn.call0 hu;have g:=g0.kn kn;have g2:=kn.l 0 rfl;simp only[go_sem,Qjq];refine Qf (Qb rfl ?_ ?_)
 ·intro hc;have hb:Qss fns=false:=by simpa using hc
  refine Qa ?_;simp only[go_sem,g2];intro H3 h3;have kn:=kn.stL 0 rfl h3;have g2:=kn.l 0 rfl;simp only[go_sem,Qjr];refine Qh ?_;simp only[go_sem,AE.X.next,Qp,Q8,Qhi,J3,Jt,RS.op,g2];have:=hK _ kn.fin;rw[Qaqt,hb]at this;exact⟨fun _=>trivial,_,Qa1j (by simp) false,this⟩
 ·intro hc;have hb:Qss fns=true:=by simpa using hc
  have hg:=fine_iff.1 hb;rw[hb,Qaqt,if_pos hb,Qbm]at hK;refine Qe ?_;try simp only[go_sem]
  refine Qa ?_;simp only[go_sem];refine Qaq0 hf g fun H3 hu=>?_;have kn:=kn.call0 hu;rw[Qarw,if_pos hb];simp only[go_sem,Qju];refine Qa2p (fun k hk=>hg.nd_lt (hg.need_mem.1 hk)) (fun f hf=>by have:=Qar4 hg.v f hf;omega) fun H4 hu=>?_;have kn:=kn.call0 hu;have g2:=kn.l 0 rfl;simp only[go_sem,Qjt,g2];intro H5 h5;have kn:=kn.stL 0 rfl h5;have g2:=kn.l 0 rfl;simp only[go_sem,Qjs];refine Qh ?_;simp only[go_sem,Qp,Q8,Qhi,J3,Jt,RS.op,g2];exact⟨fun _=>trivial,_,Qa1j (Qcr _) true,hK _ kn.fin⟩
end Go.AE.Y
namespace Go.AE.Y
open Go.Proofs.Tryz
structure IS where
 fns:List Fn
 pfl:Bool
 params:Int
 regs:Int
 bc:C
 lb:List (Nat×Obj)
 blocks:List Blk
 at_:Nat
def IS.o (s:IS):Obj:=.st [.sl s.pfl 3 (Qy s.fns),.int .i64 s.params,.int .i64 s.regs,s.bc,.int .i64 s.at_]
structure IS.ok (s:IS)(N:Nat):Prop where
 r0:0≤s.regs
 r1:s.regs≤N
 b1:s.blocks.length≤N
 i1:∀b∈s.blocks,b.irows.length≤N
theorem IS.ok.mono {s:IS}{N M:Nat}(h:s.ok N)(hm:N≤M):s.ok M:=
 ⟨h.r0,by have:=h.r1;omega,by have:=h.b1;omega,fun b hb=>by have:=h.i1 b hb;omega⟩
def IS.d (s:IS):Lw:=⟨s.regs,s.blocks.map Blk.d,s.at_⟩
end Go.AE.Y
namespace Go.AE.Y
attribute [local go_sem] cond_true cond_false Bool.not_true Bool.not_false
open Go.Proofs.Tryz
variable {F H H':Heap}{w:Nat}{s:IS}{K:V→Heap→Prop}{M Lg:List (Nat×Obj)}
abbrev vI (n:Nat):Int:=n
theorem Qaao (l:List Nat):(scC l).isOw=false:=by cases l <;> rfl
end Go.AE.Y
namespace Go.AE.Y
mutual
theorem Ex.form_ok:∀(x:Ex) (d:Int),x.form d=true→x.ok
 |.mk op n name kids,d,h=>by
  rw[Ex.form,Jq,Jq]at h;obtain⟨⟨_,hh⟩,hk⟩:=h;simp only[Qac1,Jq,decide_eq_true_eq]at hh;have h2:=hh.1.1.1.1.2;rw[Ex.ok];refine⟨fun h10=>?_,Qamp kids _ hk⟩;subst h10;simp only[Qdv,Qdi]at h2;omega
theorem Qamp:∀(l:List Ex) (d:Int),Qhc l d=true→Qdn l
 |[],_,_=>by simp[Qdn]
 |x::r,d,h=>by
  rw[Qhc,Jq]at h;rw[Qdn];exact⟨Ex.form_ok x d h.1,Qamp r d h.2⟩
end
theorem Qavv {l:List Ex}(h:∀a∈l,a.valid=true):Qdn l:=by
 induction l with
 |nil=>simp[Qdn]
 |cons x r ih=>
  have h1:=h x (by simp);rw[Ex.valid,Jq]at h1;rw[Qdn];exact⟨Ex.form_ok x _ h1.1,ih fun a ha=>h a (by simp[ha])⟩
theorem Qan6 {l:List Ex}(h:∀a∈l,a.valid=true):Qu l≤l.length * 30:=by
 induction l with
 |nil=>simp[Qu]
 |cons x r ih=>
  have h1:=h x (by simp);rw[Ex.valid,Jq,decide_eq_true_eq]at h1;have h2:=ih fun a ha=>h a (by simp[ha]);simp only[Qu,Jl];omega
theorem Qbfu (op:Int):argN op≤2:=by rw[argN];split <;> omega
mutual
theorem St.form_size:∀(x:St) (d:Int),x.form d=true→x.size≤100 * x.cnt∧x.ok
 |.mk op name args body els,d,h=>by
  rw[St.form_eq]at h;simp only[St.op,St.name,St.args,St.body,St.els,Jq]at h;obtain⟨⟨⟨_,hh⟩,hb⟩,he⟩:=h;simp only[Qaap,Jq,decide_eq_true_eq,J5]at hh;have hv:∀a∈args,a.valid=true:=hh.1.1.1.2;have hl:args.length=argN op:=hh.1.1.1.1.1.1.2;have h0:0<argN op:=by rw[argN];split <;> omega
  have h2:=Qbfu op;have h3:=Qan6 hv;obtain⟨b1,b2⟩:=Qn9 body _ hb;obtain⟨e1,e2⟩:=Qn9 els _ he;have hs:=(St.mk op name args body els).size_eq;simp only[St.args,St.body,St.els]at hs;refine⟨?_,?_⟩
  ·rw[hs,St.cnt];omega
  ·rw[St.ok_eq];simp only[St.args,St.body,St.els];refine⟨by omega,?_,b2,e2⟩;exact Qavv hv
theorem Qn9:∀(l:List St) (d:Int),Qax l d=true→Qi l≤100 * Qcm l∧Qdl l
 |[],_,_=>by simp[Qi,Qcm,Qdl]
 |x::r,d,h=>by
  rw[Qax,Jq]at h;obtain⟨a1,a2⟩:=St.form_size x d h.1;obtain⟨r1,r2⟩:=Qn9 r d h.2;rw[Qi,Qcm,Qdl];exact⟨by omega,a2,r2⟩
end
theorem FineP.sizes {fns:List Fn}(h:FineP fns):∀k (hk:k<fns.length),Qi fns[k].body≤4000∧Qdl fns[k].body∧fns[k].params.length≤3:=by
 intro k hk;obtain⟨_,_,_,_,_,h6,h7⟩:=h.fn hk;obtain⟨a1,a2⟩:=Qn9 _ _ h7;have hv:=h.v;simp only[Qlj,Jq,decide_eq_true_eq]at hv;have hc:Qcm fns[k].body≤Qdb fns:=by
  have h1:=Q6b hk;have h2:Qdb (fns.take (k+1))≤Qdb fns:=by
   conv=>rhs;rw[←J6 (k+1) fns,Qacz]
   omega
  omega
 exact⟨by omega,a2,h6⟩
open Go.Proofs.Tryz
variable {H:Heap}{K:V→Heap→Prop}
theorem Qbca {n:Int}(hK:K (.c (.bool (decide (0≤n)&&decide (n≤255)))) H):Ql prog Qh4 [.c (.int .i64 n)] H K:=by
 refine Qc Qal Qadt ?_;refine Qa ?_;simp only[go_sem];refine Qa ?_;simp only[go_sem];refine Qa1l ?_;simp only[go_sem,Qop];refine Qh ?_;simp only[go_sem,Qp,Q8,Qcu,Ja,forall_eq,RS.op];exact hK
end Go.AE.Y
namespace Go.AE.Y
attribute [local go_sem] cond_true cond_false Bool.not_true Bool.not_false
attribute [local instance] Classical.propDecidable
open Go.Proofs.Tryz
variable {H H0 F:Heap}{K:V→Heap→Prop}{E B Lg:List (Nat×Obj)}{fns:List Fn}
theorem Gr.slc2 {sz:Nat}{rows:List (List C)}{c:C}(h:Gr Lg sz rows c)(kn:Kn H0 H E (B++Lg)):Slc H sz rows c:=⟨h.okSl kn,h.elemSz,h.rowsOf kn,h.lenC⟩
end Go.AE.Y
namespace Go.AE
variable {H0 H H1:Heap}{E L N Lg B:List (Nat×Obj)}{sz:Nat}{rows rows':List (List C)}{c:C}{S:Nat→Bool}
theorem Slc.kn (h:Slc H sz rows c)(kn:Kn H H1 [] L):Slc H1 sz rows c:=by
 match c,h with
 |.sl f z r,h=>exact⟨trivial,h.sz,h.rows,h.len⟩
 |.vsl l a st n,h=>
  have hl:H l≠.none:=fun e=>by
   have:=h.ok;simp only[okSl,e]at this
  have he:=kn.chg l hl (by simp);have h1:=h.ok;have h2:=h.rows;simp only[okSl,rowsOf]at h1 h2;refine⟨?_,h.sz,?_,h.len⟩
  ·simp only[okSl,he];exact h1
  ·simp only[rowsOf,he];exact h2
theorem Kn.addNew (kn:Kn H0 H E L)(k2:Kn H H1 [] N):Kn H0 H1 E (L++N):=by
 refine⟨fun p hp=>?_,kn.ext,fun p hp=>?_,kn.dE,?_,fun m hm hn=>?_⟩
 ·rcases Jg.1 hp with hp|hp
  ·obtain⟨h1,h2⟩:=kn.get p (Jb _ hp);rw[k2.chg p.1 (by rw[h1];exact h2) (by simp)];exact⟨h1,h2⟩
  ·rcases Jg.1 hp with hp|hp
   ·obtain⟨h1,h2⟩:=kn.get p (Je _ hp);rw[k2.chg p.1 (by rw[h1];exact h2) (by simp)];exact⟨h1,h2⟩
   ·exact k2.get p (by simpa using hp)
 ·rcases Jg.1 hp with hp|hp
  ·exact kn.loc p hp
  ·exact (kn.newFree (k2.loc p hp)).1
 ·rw[Jr];refine Js.2 ⟨kn.dL,k2.dL,fun a ha b hb hab=>?_⟩;obtain⟨p,hp,rfl⟩:=Jh.1 hb;exact (kn.newFree (k2.loc p hp)).2.2 (hab▸ha)
 ·rw[k2.chg m (by rw[kn.chg m hm hn];exact hm) (by simp),kn.chg m hm hn]
theorem Gr.frzm (h:Gr Lg sz rows c)(hm:∀p∈Lg,H p.1=p.2∧S p.1=true)(hr:Y.FrzR H S rows rows'):FrzC H S c (.sl false sz rows'):=by
 rcases h with ⟨rfl,rfl,rfl⟩|⟨y,rfl,rfl⟩
 ·cases hr;exact Y.FrzR.nil.sl
 ·obtain⟨h1,h2⟩:=hm (y,.vec sz rows) (by simp);exact hr.vsl h2 h1 rfl
theorem Kn.frzN (kn:Kn H0 H E (B++Lg)):Kn H0 (H.frz fun m=>(Lg.map Prod.fst).contains m) E B:=by
 have hd:=kn.dL;rw[Jr]at hd;obtain⟨d1,d2,d3⟩:=Js.1 hd;have key:∀m,m∉Lg.map Prod.fst→(H.frz fun m=>(Lg.map Prod.fst).contains m) m=H m:=fun m hm=>by
  have:(Lg.map Prod.fst).contains m=false:=by
   cases hc:(Lg.map Prod.fst).contains m with
   |false=>rfl
   |true=>exact absurd (Jai.1 hc) hm
  simp only[Heap.frz,this];rfl
 refine⟨fun p hp=>?_,kn.ext,fun p hp=>kn.loc p (Jb _ hp),kn.dE,d1,fun m hm hx=>?_⟩
 ·have hg:H p.1=p.2∧p.2≠.none:=kn.get p (by
   rcases Jg.1 hp with h|h
   ·exact Jb _ h
   ·exact Je _ (Jb _ h))
  refine⟨?_,hg.2⟩;rw[key p.1 (fun hh=>?_)];exact hg.1;rcases Jg.1 hp with h|h
  ·obtain⟨r,hr,he⟩:=Jh.1 hh;exact kn.ext p h (he▸kn.loc r (Je _ hr))
  ·exact d3 _ (Qbn h) _ hh rfl
 ·rw[key m (fun hh=>?_)];exact kn.chg m hm hx;obtain⟨r,hr,he⟩:=Jh.1 hh;exact hm (he▸kn.loc r (Je _ hr))
theorem Qbgt {p:Nat×Obj}(h:p∈Lg):(fun m=>(Lg.map Prod.fst).contains m) p.1=true:=Jai.2 (Qbn h)
theorem Kn.frzS_out (kn:Kn H0 H E (B++Lg)){p:Nat×Obj}(h:p∈B):(fun m=>(Lg.map Prod.fst).contains m) p.1=false:=by
 have hd:=kn.dL;rw[Jr]at hd
 cases hc:(Lg.map Prod.fst).contains p.1 with
 |false=>exact hc
 |true=>exact absurd rfl ((Js.1 hd).2.2 _ (Qbn h) _ (Jai.1 hc))
end Go.AE
namespace Go.AE.Y
attribute [local go_sem] cond_true cond_false Bool.not_true Bool.not_false
open Go.Proofs.Tryz
variable {H H0 F:Heap}{K:V→Heap→Prop}{E B Lg:List (Nat×Obj)}{fns:List Fn}{S:Nat→Bool}
theorem Qav2 {α β:Type}{f:α→List C}{g:β→List C}{d:α→β}:∀(l:List α),(∀x∈l,FrzL H S (f x) (g (d x)))→FrzR H S (l.map f) ((l.map d).map g)
 |[],_=>.nil
 |x::l,h=>.cons (h x Jw) (Qav2 l fun z hz=>h z (Jk _ hz))
structure OSt where
 x:St
 ac:C
 al:List (Nat×Obj)
def OSt.row (o:OSt):List C:=[.int .i64 o.x.op,.str o.x.name,o.ac,.sl false 5 (Qk o.x.body),.sl false 5 (Qk o.x.els)]
def OSt.ok (o:OSt):Prop:=Gr o.al 4 (Qt o.x.args) o.ac
theorem OSt.noOw {o:OSt}(h:o.ok):Go.AE.noOw o.row=true:=by
 have:=h.isOw;simp only[OSt.row,Go.AE.noOw,J9,Jac,Q4h,Qym,Qadi,this];rfl
theorem OSt.frz {o:OSt}(h:o.ok)(hm:∀p∈o.al,H p.1=p.2∧S p.1=true):FrzL H S o.row o.x.cells:=by
 rw[o.x.cells_eq];exact .cons (Qg rfl) (.cons (Qg rfl) (.cons (Gr.frzm h hm (FrzR.same (Qa4 _))) (.cons (FrzR.same (Qas _)).sl (.cons (FrzR.same (Qas _)).sl .nil))))
theorem Qa0y {os:List OSt}{Lz:List (Nat×Obj)}{t:C}(ho:∀o∈os,o.ok)(hz:Gr Lz 5 (os.map OSt.row) t)(hm:∀p∈os.flatMap OSt.al++Lz,H p.1=p.2∧S p.1=true):FrzC H S t (.sl false 5 (Qk (os.map OSt.x))):=by
 rw[Qpy];refine Gr.frzm hz (fun p hp=>hm p (Je _ hp)) (Qav2 os fun o hoo=>OSt.frz (ho o hoo) fun p hp=>hm p (Jb _ (Jak.2 ⟨o,hoo,hp⟩)))
theorem Qbco:∀(n:Nat) (x:Ex) {H:Heap} {K:V→Heap→Prop},x.size≤n→(∀H',Upd H H' []→K (.ag x.cells) H')→Ql prog Q4a [.ag x.cells] H K:=by
 intro n
 induction n with
 |zero=>intro x H K h;have:=x.size_pos;omega
 |succ n ih=>
 intro x H K hn hK;have hsz:=x.size_kids;refine Q5 ?_;refine Qc Qal Qbcx ?_;refine Qa ?_;simp only[go_sem,x.cells_eq];intro x1 hx1 H1 h1;have kn:=(Kn.start0 H).al hx1 h1;simp only[go_sem,Qafv];intro x2 hx2 H2 h2;have kn:Kn H H2 [] ([(x1,exO x.op x.n x.name (.sl false 4 (Qt x.kids))),(x2,exO 0 0 [] (.sl true 4 []))]):=kn.al hx2 h2;refine Qa ?_;simp only[go_sem];refine Q6 ?_;refine Qa ?_;simp only[go_sem];refine Qf (Qd (Qab (fun m e2 H2=>∃(j:Nat) (Lk:List (Nat×Obj)) (t:C),m=x.kids.length-j∧j≤x.kids.length∧Gr Lk 4 (Qt (x.kids.take j)) t∧
  Kn H H2 [] ([(x1,exO x.op x.n x.name (.sl false 4 (Qt x.kids))),(x2,exO 0 0 [] (.sl true 4 []))]++Lk)∧
  e2=[(1,.c (.ptr x1 0)),(2,.c (.ptr x2 0)),(3,.c t),(4,.c (.int .i64 j))]) x.kids.length ?_ ?_))
 ·exact⟨0,[],.sl true 4 [],by omega,by omega,.nil 4,kn,rfl⟩
 ·clear kn;rintro m e2 H3 ⟨j,Lk,t,hm,hj,hgk,kn,rfl⟩;have hto:=hgk.isOw;have g1:=kn.l 0 rfl;refine Q6 ?_;refine Qa ?_;simp only[go_sem,g1,hto,Qj];intro hl;simp only[LIM]at hl;refine Qf (Qb rfl ?_ ?_)
  ·intro hc;have hlt:j<x.kids.length:=by simpa using hc
   have hms:=Qau (Jf hlt);obtain⟨y,hy⟩:∃y,x.kids[j]=y:=⟨_,rfl⟩;have htk:Qt (x.kids.take (j+1))=Qt (x.kids.take j)++[y.cells]:=by
    rw[Qe9,Jd hlt,hy]
   rw[hy]at hms;refine Qe ?_;try simp only[go_sem]
   refine Qf (Qd ?_);refine Qq ?_;simp only[go_sem,g1,hto,hlt,Qj,Qr _ _ hlt,hy,Ex.take4,Ex.allOw,Ex.cells_len];refine ih y (by omega) fun H5 hu=>?_;have kn:=kn.call0 hu;simp only[go_sem,Qafx,hto,y.cells_len];refine kn.growR hgk (new:=[y.cells]) (.mk' _ true 4 _) (by simpa using y.noOw) (by simp only[Qj,Jo,Jl,Jp,LIM];omega) fun t' Lk' H6 hg' hto' kn=>?_;rw[←htk]at hg';simp only[go_sem,Qafw,hto'];refine Qq ?_;simp only[go_sem,AE.X.next,hto'];exact⟨Q1 (by omega) (by omega),x.kids.length-(j+1),by omega,j+1,Lk',t',rfl,by omega,hg',kn,rfl⟩
  ·intro hc;have hge:x.kids.length≤j:=by simpa using hc
   rw[Jc hge]at hgk;refine Q9 ?_;simp only[go_sem,AE.X.next];refine Qa ?_;simp only[go_sem,g1,hto];intro H4 h4;have kn:=kn.stL 0 rfl h4;have g1:=kn.l 0 rfl;have g2:=kn.l 1 rfl;refine Qa ?_;simp only[go_sem,g1,g2,hto];intro H5 h5;have kn:=kn.stL 1 rfl h5;have g2:=kn.l 1 rfl;refine Qh ?_;simp only[go_sem,Qp,Q8,Q9m,Ja,forall_eq,RS.op,g2,hto];rw[x.cells_eq]at hK;exact⟨_,(FrzL.cons (Qg rfl) (.cons (Qg rfl) (.cons (Qg rfl) (.cons (hgk.frz (B:=[_,_]) kn (Qa4 _)) .nil)))).ag,hK _ kn.fin⟩
structure SRd (H:Heap)(rows:List (List C))(l:List St):Prop where
 len:rows.length=l.length
 get:∀i (h:i<l.length),∃ac:C,rows.getD i []=[.int .i64 l[i].op,.str l[i].name,ac,.sl false 5 (Qk l[i].body),.sl false 5 (Qk l[i].els)]∧ac.isOw=false∧Slc H 4 (Qt l[i].args) ac
theorem SRd.fz (H:Heap)(l:List St):SRd H (Qk l) l:=⟨Qx l,fun i h=>⟨.sl false 4 (Qt l[i].args),by rw[Qbe _ _ h,St.cells_eq],rfl,.mk' H false 4 _⟩⟩
theorem SRd.kn {H1:Heap}{L:List (Nat×Obj)}{rows:List (List C)}{l:List St}(h:SRd H rows l)(kn:Kn H H1 [] L):SRd H1 rows l:=⟨h.len,fun i hi=>by
 obtain⟨ac,h1,h2,h3⟩:=h.get i hi;exact⟨ac,h1,h2,h3.kn kn⟩⟩
theorem OSt.slc {o:OSt}(h:o.ok)(hm:∀p∈o.al,H p.1=p.2):Slc H 4 (Qt o.x.args) o.ac:=by
 have hk:Gr o.al 4 (Qt o.x.args) o.ac:=h;refine⟨?_,hk.elemSz,?_,hk.lenC⟩
 ·rcases hk with ⟨h1,h2,h3⟩|⟨y,h1,h2⟩
  ·rw[h1];trivial
  ·have:H y=.vec 4 (Qt o.x.args):=hm (y,_) (by rw[h2];simp);rw[h1];simp[okSl,this]
 ·rcases hk with ⟨h1,h2,h3⟩|⟨y,h1,h2⟩
  ·rw[h1,h2];rfl
  ·have:H y=.vec 4 (Qt o.x.args):=hm (y,_) (by rw[h2];simp);rw[h1];simp[rowsOf,this]
theorem SRd.os {os:List OSt}(ho:∀o∈os,o.ok)(hm:∀p∈os.flatMap OSt.al,H p.1=p.2):SRd H (os.map OSt.row) (os.map OSt.x):=by
 refine⟨by simp,fun i hi=>?_⟩;have hi2:i<os.length:=by simpa using hi
 have hm2:=Jf hi2;refine⟨os[i].ac,?_,(ho _ hm2).isOw,?_⟩
 ·simp[Ji,hi2,OSt.row]
 ·rw[List.getElem_map];exact OSt.slc (ho _ hm2) fun p hp=>hm p (Jak.2 ⟨_,hm2,hp⟩)
def StO (n:Nat):Prop:=∀(l:List St) (rows:List (List C)) (c:C) (H:Heap) (K:V→Heap→Prop),Qi l≤n→Qi l≤2^38→c.isOw=false→Slc H 5 rows c→SRd H rows l→
 (∀(os:List OSt) t Lz H',os.map OSt.x=l→(∀o∈os,o.ok)→Gr Lz 5 (os.map OSt.row) t→Kn H H' [] (os.flatMap OSt.al++Lz)→K (.c t) H')→Ql prog Qhg [.c c] H K
theorem Qbfh {n:Nat}(h:StO n){l:List St}{f:Bool}{H:Heap}{K:V→Heap→Prop}(hn:Qi l≤n)(hb:Qi l≤2^38)(hK:∀H',Upd H H' []→K (.c (.sl false 5 (Qk l))) H'):Ql prog Qhg [.c (.sl f 5 (Qk l))] H K:=by
 refine Q5 (h l (Qk l) (.sl f 5 (Qk l)) H _ hn hb rfl (.mk' H f 5 _) (.fz H l) fun os t Lz H' hx ho hz kn=>?_);refine⟨_,.c _ _ (Qa0y ho hz fun p hp=>⟨(kn.get p (by simpa using hp)).1,Qyc (kn.loc p hp)⟩),?_⟩;rw[hx];exact hK _ kn.fin
theorem Qbkj:∀n,StO n:=by
 intro n
 induction n using Nat.strongRecOn with
 |_ n ih=>
 intro l rows c H K hn hb how hs0 hr0 hK;have hsl0:=Qan l;have hrl:=hr0.len;refine Qc Qal Qa7r ?_;refine Qa ?_;simp only[go_sem,how];refine Qa ?_;simp only[go_sem,how];refine Q6 ?_;refine Qa ?_;simp only[go_sem,how];refine Qf (Qd (Qab (fun m e1 H1=>∃(i:Nat) (os:List OSt) (Lz:List (Nat×Obj)) (t:C),m=l.length-i∧i≤l.length∧os.map OSt.x=l.take i∧(∀o∈os,o.ok)∧Gr Lz 5 (os.map OSt.row) t∧Kn H H1 [] (os.flatMap OSt.al++Lz)∧
  e1=[(0,.c c),(3,.c t),(4,.c (.int .i64 i))]) l.length ?_ ?_))
 ·exact⟨0,[],[],.sl true 5 [],by omega,by omega,by simp,by simp,.nil 5,Kn.start0 H,rfl⟩
 ·rintro m e1 H1 ⟨i,os,Lz,t,hm,hi,hox,ho,hz,kn,rfl⟩;have hto:=hz.isOw;have hs1:=hs0.kn kn;have hok:=eq_true hs1.ok;have hrw:=hs1.rows;have hln:=hs1.len;have hsz:=hs1.sz;rw[hrl]at hln;refine Q6 ?_;refine Qa ?_;simp only[go_sem,how,hok,hln,hto];intro hl;simp only[LIM]at hl;refine Qf (Qb rfl ?_ ?_)
  ·intro hc;have hlt:i<l.length:=by simpa using hc
   have hms:=Qa3 (Jf hlt);obtain⟨x,hx⟩:∃x,l[i]=x:=⟨_,rfl⟩;rw[hx]at hms;have hse:=x.size_eq;obtain⟨ac,hrow,haw,_⟩:=hr0.get i hlt;rw[hx]at hrow;have hol:os.length=i:=by
    have:=congrArg List.length hox;rw[J2,Jo]at this;omega
   refine Qe ?_;try simp only[go_sem]
   refine Qf (Qd ?_);refine Qa ?_;simp only[go_sem,how,hok,hln,hrw,hsz,hto,haw,hlt,hrow];intro x5 hx5 H3 h3;have kn:Kn H H3 [] ((os.flatMap OSt.al++Lz)++(x5,.st [.int .i64 0,.str [],.sl true 4 [],.sl true 5 [],.sl true 5 []])::[]):=kn.al hx5 h3;have g5:=kn.getM;simp only[go_sem,Qaag,g5,how,hto,haw];intro H4 h4;have kn:Kn H H4 [] ((os.flatMap OSt.al++Lz)++(x5,stX x.op x.name ac (.sl false 5 (Qk x.body)) (.sl false 5 (Qk x.els)))::[]):=kn.stM h4;refine Qa ?_;simp only[go_sem,how,hto];refine Q6 ?_;refine Qa ?_;simp only[go_sem,how,hto];refine Qf (Qd (Qab (fun m2 e2 H5=>∃(j:Nat) (La:List (Nat×Obj)) (ta:C),m2=x.args.length-j∧j≤x.args.length∧Gr La 4 (Qt (x.args.take j)) ta∧Kn H H5 [] ((os.flatMap OSt.al++Lz)++(x5,stX x.op x.name ac (.sl false 5 (Qk x.body)) (.sl false 5 (Qk x.els)))::La)∧
    e2=[(0,.c c),(3,.c t),(4,.c (.int .i64 i)),(5,.c (.ptr x5 0)),(6,.c ta),(7,.c (.int .i64 j))]) x.args.length ?_ ?_))
   ·exact⟨0,[],.sl true 4 [],by omega,by omega,.nil 4,kn,rfl⟩
   ·clear kn g5 h4 h3;rintro m2 e2 H5 ⟨j,La,ta,hm2,hj,hga,kn,rfl⟩;have hao:=hga.isOw;have g5:=kn.getM;obtain⟨ac',hrow',haw',hsa⟩:=(hr0.kn kn).get i hlt;rw[hx]at hrow' hsa;have hacc:ac=ac':=by
     rw[hrow]at hrow';simp only[Jad]at hrow';exact hrow'.2.2.1
    subst hacc;have hoka:=eq_true hsa.ok;have hrwa:=hsa.rows;have hlna:=hsa.len;have hsza:=hsa.sz;rw[Qj]at hlna;refine Q6 ?_;refine Qa ?_;simp only[go_sem,how,haw,hto,hao,g5,hoka,hlna];intro hl2;simp only[LIM]at hl2;refine Qf (Qb rfl ?_ ?_)
    ·intro hc2;have hlt2:j<x.args.length:=(by simpa using hc2);have hms2:=Qau (Jf hlt2);obtain⟨y,hy⟩:∃y,x.args[j]=y:=⟨_,rfl⟩;have htk:Qt (x.args.take (j+1))=Qt (x.args.take j)++[y.cells]:=by
      rw[Qe9,Jd hlt2,hy]
     refine Qe ?_;try simp only[go_sem]
     refine Qf (Qd ?_);refine Qq ?_;simp only[go_sem,how,haw,hto,hao,g5,hoka,hlna,hrwa,hsza,hlt2,Qr _ _ hlt2,hy,Ex.take4,Ex.allOw,Ex.cells_len];refine Qbco y.size y (Jm _) fun H6 hu=>?_;have kn:=kn.call0 hu;simp only[go_sem,how,haw,Qaai,hto,hao,y.cells_len];have kn:Kn H H6 [] (((os.flatMap OSt.al++Lz)++[(x5,stX x.op x.name ac (.sl false 5 (Qk x.body)) (.sl false 5 (Qk x.els)))])++La):=(by rw[Jj _ [_]];exact kn);refine kn.growR hga (new:=[y.cells]) (.mk' _ true 4 _) (by simpa using y.noOw) (by simp only[Qj,Jo,Jl,Jp,LIM];omega) fun ta' La' H7 hga' hao' kn=>?_;rw[←htk]at hga';simp only[go_sem,how,haw,Qaah,hto,hao'];refine Qq ?_;simp only[go_sem,AE.X.next,how,haw,hto,hao'];refine⟨Q1 (by omega) (by omega),x.args.length-(j+1),by omega,j+1,La',ta',rfl,by omega,hga',?_,rfl⟩;rw[Jj _ [_]]at kn;exact kn
    ·intro hc2;have hge2:x.args.length≤j:=(by simpa using hc2);rw[Jc hge2]at hga;refine Q9 ?_;simp only[go_sem,AE.X.next];refine Qel ?_;simp only[go_sem,how,haw,hto,hao,g5];refine Qbfh (ih (Qi x.body) (by omega)) (Jm _) (by omega) fun H6 hu=>?_;have kn:=kn.call0 hu;have g5:=kn.getM;simp only[go_sem,how,haw,Qaal,hto,hao,g5];refine Qbfh (ih (Qi x.els) (by omega)) (Jm _) (by omega) fun H7 hu=>?_;have kn:=kn.call0 hu;have g5:=kn.getM;simp only[go_sem,how,haw,Qaak,hto,hao,g5];have kn:Kn H H7 [] ((os.flatMap OSt.al++(x5,stX x.op x.name ac (.sl false 5 (Qk x.body)) (.sl false 5 (Qk x.els)))::La)++Lz):=kn.perm (by
      rw[Jj,Jj];exact Jah _ Jy)
     have hok:OSt.ok ⟨x,ta,La⟩:=hga;refine kn.growR hz (new:=[OSt.row ⟨x,ta,La⟩]) (.mk' _ true 5 _) (by simpa using OSt.noOw hok) (by simp only[J2,Jl,Jp,LIM];omega) fun t' Lz' H8 hz' hto' kn=>?_;have kn:Kn H H8 [] ((os++[(⟨x,ta,La⟩:OSt)]).flatMap OSt.al++Lz'):=by
      refine kn.sub ?_;rw[Jaw,Jaq,Ja2,Jam];exact List.Sublist.append (List.Sublist.append (List.Sublist.refl _) (List.sublist_cons_self _ _)) (List.Sublist.refl _)
     simp only[go_sem,how,haw,Qaaj,hto'];refine Qq ?_;simp only[go_sem,AE.X.next,how,hto'];refine⟨Q1 (by omega) (by omega),l.length-(i+1),by omega,i+1,os++[(⟨x,ta,La⟩:OSt)],Lz',t',rfl,by omega,?_,?_,?_,kn,rfl⟩
     ·rw[Jr,hox,Jd hlt,hx];rfl
     ·intro o hoo;rcases Jg.1 hoo with hoo|hoo
      ·exact ho o hoo
      ·simp only[Ja]at hoo;subst hoo;exact hok
     ·rw[Jr];exact hz'
  ·intro hc;have hge:l.length≤i:=by simpa using hc
   rw[Jc hge]at hox;refine Q9 ?_;simp only[go_sem,AE.X.next];refine Qa ?_;simp only[go_sem,hto];refine Qh ?_;simp only[go_sem,Qp,Q8,Qcu,Ja,forall_eq,RS.op,hto];exact hK os t Lz _ hox ho hz kn
theorem Qa8c (A B C D:List (Nat×Obj)):(((A++B)++C)++D).Perm ((A++(C++D))++B):=by
 simp only[Jj];refine Jah _ (Jy.trans ?_);simp only[Jj];exact .refl _
structure OFn where
 f:Fn
 pc:C
 pl:List (Nat×Obj)
 os:List OSt
 bc:C
 bl:List (Nat×Obj)
def OFn.row (u:OFn):List C:=[.str u.f.name,u.pc,u.bc]
def OFn.lg (u:OFn):List (Nat×Obj):=u.pl++(u.os.flatMap OSt.al++u.bl)
structure OFn.ok (u:OFn):Prop where
 p:Gr u.pl 1 (Q0 u.f.params) u.pc
 o:∀o∈u.os,o.ok
 b:Gr u.bl 5 (u.os.map OSt.row) u.bc
 x:u.os.map OSt.x=u.f.body
theorem OFn.noOw {u:OFn}(h:u.ok):Go.AE.noOw u.row=true:=by
 have h1:=h.p.isOw;have h2:=h.b.isOw;simp only[OFn.row,Go.AE.noOw,J9,Jac,Qym,h1,h2];rfl
theorem OFn.frz {u:OFn}(h:u.ok)(hm:∀p∈u.lg,H p.1=p.2∧S p.1=true):FrzL H S u.row u.f.cells:=by
 have hb:=Qa0y (H:=H) (S:=S) h.o h.b fun p hp=>hm p (Je _ hp);rw[h.x]at hb;exact .cons (Qg rfl) (.cons (Gr.frzm h.p (fun p hp=>hm p (Jb _ hp)) (FrzR.same (Qaw _))) (.cons hb .nil))
theorem Qbda {us:List OFn}{Lz:List (Nat×Obj)}{t:C}(ho:∀u∈us,u.ok)(hz:Gr Lz 3 (us.map OFn.row) t)(hm:∀p∈us.flatMap OFn.lg++Lz,H p.1=p.2∧S p.1=true):FrzC H S t (.sl false 3 (Qy (us.map OFn.f))):=
 Gr.frzm hz (fun p hp=>hm p (Je _ hp)) (Qav2 us fun o hoo=>OFn.frz (ho o hoo) fun p hp=>hm p (Jb _ (Jak.2 ⟨o,hoo,hp⟩)))
theorem Qa68 {l:List Fn}{c:C}(how:c.isOw=false)(hs:Slc H 3 (Qy l) c)(hb:Qs l≤2^38)(hp:∀f∈l,f.params.length≤2^38)
  (hK:∀(us:List OFn) t Lz H',us.map OFn.f=l→(∀u∈us,u.ok)→Gr Lz 3 (us.map OFn.row) t→t.isOw=false→Kn H H' [] (us.flatMap OFn.lg++Lz)→K (.ag [t]) H'):Ql prog Qadd [.ag [c]] H K:=by
 refine Qc Qal Qbc1 ?_;refine Qa ?_;simp only[go_sem,how];intro x2 hx2 H1 h1;have kn:=(Kn.start0 H).al hx2 h1;refine Qa ?_;simp only[go_sem,how];intro x3 hx3 H2 h2;have kn:=kn.al hx3 h2;have g3:=kn.l 1 rfl;simp only[go_sem,Qahf,g3,how];intro H3 h3;have kn:Kn H H3 [] ((x2,.st [.sl true 3 []])::(x3,.st [.sl true 3 []])::([]++[])):=kn.stL 1 rfl h3;refine Q6 ?_;refine Qa ?_;simp only[go_sem,how];refine Qf (Qd (Qab (fun m e1 H1=>∃(i:Nat) (us:List OFn) (Lz:List (Nat×Obj)) (t:C),m=l.length-i∧i≤l.length∧us.map OFn.f=l.take i∧(∀o∈us,o.ok)∧Gr Lz 3 (us.map OFn.row) t∧
  Kn H H1 [] ((x2,.st [.sl true 3 []])::(x3,.st [t])::(us.flatMap OFn.lg++Lz))∧
  e1=[(1,.c (.pp [c])),(2,.c (.ptr x2 0)),(3,.c (.ptr x3 0)),(4,.c (.int .i64 i))]) l.length ?_ ?_))
 ·exact⟨0,[],[],.sl true 3 [],by omega,by omega,by simp,by simp,.nil 3,kn,rfl⟩
 ·clear kn g3 h3 h2 h1;rintro m e1 H1 ⟨i,us,Lz,t,hm,hi,hux,hu,hz,kn,rfl⟩;have hto:=hz.isOw;have hs1:=hs.kn kn;have hok:=eq_true hs1.ok;have hrw:=hs1.rows;have hln:=hs1.len;have hsz:=hs1.sz;rw[Qw]at hln;refine Q6 ?_;refine Qa ?_;simp only[go_sem,how,hto,hok,hln];intro hl;simp only[LIM]at hl;refine Qf (Qb rfl ?_ ?_)
  ·intro hc;have hlt:i<l.length:=by simpa using hc
   have hms:=Qa5 (Jf hlt);have hpl:=hp _ (Jf hlt);obtain⟨x,hx⟩:∃x,l[i]=x:=⟨_,rfl⟩;rw[hx]at hms hpl;have hul:us.length=i:=by
    have:=congrArg List.length hux;rw[J2,Jo]at this;omega
   refine Qe ?_;try simp only[go_sem]
   refine Qf (Qd ?_);refine Qa ?_;simp only[go_sem,how,hto,hok,hln,hrw,hsz,hlt,Qaf _ _ hlt,hx,Fn.cells];intro x5 hx5 H3 h3;have kn:=(kn.al hx5 h3).perm (L':=(x2,.st [.sl true 3 []])::(x3,.st [t])::(x5,_)::(us.flatMap OFn.lg++Lz)) (.cons _ (.cons _ Jy));have g5:=kn.l 2 rfl;simp only[go_sem,Qahg,g5,how,hto];intro H4 h4;have kn:Kn H H4 [] ((x2,.st [.sl true 3 []])::(x3,.st [t])::(x5,fnO x)::(us.flatMap OFn.lg++Lz)):=kn.stL 2 rfl h4;have g5:=kn.l 2 rfl;have g3:=kn.l 1 rfl;refine Qel ?_;simp only[go_sem,g5,g3,how,hto,Qo];refine⟨.inl trivial,Qaw _,by simp only[LIM];omega,fun z hz0 H5 h5=>?_⟩;have kn:=kn.al hz0 h5;have g5:=kn.l 2 rfl;have g3:=kn.l 1 rfl;simp only[go_sem,Qahj,g5,g3,how,hto];refine Qbkj (Qi x.body) x.body _ (.sl false 5 (Qk x.body)) H5 _ (Jm _) (by omega) rfl (.mk' _ false 5 _) (.fz _ _) fun os tb Lb H6 hox ho hzb k2=>?_;have kn:=kn.addNew k2;have htb:=hzb.isOw;have g5:=kn.l 2 rfl;have g3:=kn.l 1 rfl;simp only[go_sem,Qahi,g5,g3,how,hto,htb];obtain⟨u,hue⟩:∃u:OFn,u=⟨x,.vsl z 1 0 (0+x.params.length),[(z,.vec 1 ([]++Q0 x.params))],os,tb,Lb⟩:=⟨_,rfl⟩;have huo:u.ok:=by
    rw[hue];exact⟨by simpa using Gr.mk (n:=0+x.params.length) z 1 (Q0 x.params) (by rw[Qo];omega),ho,hzb,hox⟩
   have hulg:u.lg=[(z,.vec 1 ([]++Q0 x.params))]++(os.flatMap OSt.al++Lb):=by rw[hue];rfl
   have hur:u.row=[.str x.name,.vsl z 1 0 (0+x.params.length),tb]:=by rw[hue];rfl
   have kn:Kn H H6 [] (((x2,.st [.sl true 3 []])::(x3,.st [t])::(x5,fnO x)::(us.flatMap OFn.lg++u.lg))++Lz):=kn.perm (by
    rw[hulg];exact .cons _ (.cons _ (.cons _ (Qa8c _ _ _ _))))
   refine kn.growR hz (new:=[u.row]) (by rw[hur];exact .mk' _ true 3 _) (by simpa using OFn.noOw huo) (by simp only[J2,Jl,Jp,LIM];omega) fun t' Lz' H8 hz' hto' kn=>?_;have g3:=kn.l 1 rfl;simp only[go_sem,Qahh,g3,how,hto'];intro H9 h9;have kn:=kn.stL 1 rfl h9;have kn:Kn H H9 [] ((x2,.st [.sl true 3 []])::(x3,.st [t'])::((us++[u]).flatMap OFn.lg++Lz')):=by
    refine kn.sub ?_;rw[Jaw,Jaq,Ja2,Jam];exact .cons_cons _ (.cons_cons _ (.cons _ (List.Sublist.refl _)))
   try simp only[go_sem,AE.X.next]
   refine Qq ?_;simp only[go_sem,AE.X.next,how];refine⟨Q1 (by omega) (by omega),l.length-(i+1),by omega,i+1,us++[u],Lz',t',rfl,by omega,?_,?_,?_,kn,rfl⟩
   ·rw[Jr,hux,Jd hlt,hx,hue];rfl
   ·intro o hoo;rcases Jg.1 hoo with hoo|hoo
    ·exact hu o hoo
    ·simp only[Ja]at hoo;subst hoo;exact huo
   ·rw[Jr];exact hz'
  ·intro hc;have hge:l.length≤i:=by simpa using hc
   rw[Jc hge]at hux;have g3:=kn.l 1 rfl;have g2:=kn.l 0 rfl;refine Q9 ?_;simp only[go_sem,AE.X.next];refine Qa ?_;simp only[go_sem,g3,g2,hto];intro H3 h3;have kn:=kn.stL 0 rfl h3;have g2:=kn.l 0 rfl;refine Qh ?_;simp only[go_sem,Qp,Q8,Qao2,Ja,forall_eq,RS.op,g2,hto];exact hK us t Lz _ hux hu hz hto (kn.sub (.cons _ (.cons _ (List.Sublist.refl _))))
theorem Qkt (a b:List Fn):Qs (a++b)=Qs a+Qs b:=by
 induction a with
 |nil=>simp[Qs]
 |cons x r ih=>simp only[Jas,Qs,ih];omega
theorem Q9e:∀(l:List Nat) (n:Nat),l.Pairwise (· < ·)→(∀x∈l,n≤x∧x<fns.length)→Qs (l.map (fnAt fns))≤Qs (fns.drop n)
 |[],n,_,_=>by simp[Qs]
 |x::r,n,hp,hx=>by
  obtain⟨h1,h2⟩:=hx x Jw;have hp2:=List.pairwise_cons.1 hp;have ih:=Q9e r (x+1) hp2.2 fun y hy=>⟨hp2.1 y hy,(hx y (Jk _ hy)).2⟩;have e1:fns.drop x=fns[x]::fns.drop (x+1):=(List.getElem_cons_drop h2).symm;have e2:Qs (fns.drop x)≤Qs (fns.drop n):=by
   have:fns.drop n=(fns.drop n).take (x-n)++fns.drop x:=by
    conv=>lhs;rw[←J6 (x-n) (fns.drop n)]
    rw[List.drop_drop];congr 2;omega
   rw[this,Qkt];omega
  rw[e1]at e2;simp only[J1,Qs,Qfm h2]at e2⊢;omega
theorem Qa15 (h:FineP fns):Qs (Qbm fns)≤Qs fns:=by
 have:=Q9e (fns:=fns) (Qct fns) 0 (Qqj fns) fun x hx=>⟨Nat.zero_le _,h.nd_lt (h.need_mem.1 hx)⟩;rw[Ja7]at this;exact this
end Go.AE.Y
