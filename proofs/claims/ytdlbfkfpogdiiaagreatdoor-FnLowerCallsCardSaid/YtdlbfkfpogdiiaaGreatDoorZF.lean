/- Part 6 of the proof: the engine, codes, walks and plain laws, each named where it stands. -/
import Derived.Test.YtdlbfkfpogdiiaaGreatDoorZE
import Derived.Below
import Derived.OpenShut
import Derived.ProofKit
import Derived.WideKeyElems2
open Nat (reduceEqDiff reduceAdd reduceLeDiff reduceLT)
set_option linter.unusedVariables false
set_option linter.unusedSimpArgs false
set_option maxRecDepth 4000
set_option maxHeartbeats 8000000
open Array renaming getElem?_eq_none->J7,getElem?_toList->J9,getElem?_eq_some_iff->Jae
open Bool renaming and_eq_true->Jo
open Int renaming eq_ofNat_of_zero_le->Jy,le_refl->Ja3
open List renaming mem_append_right->Ja,mem_singleton->Jb,mem_append_left->Jc,length_map->Jd,mem_append->Je,take_succ_eq_append_getElem->Jf,getD_eq_getElem?_getD->Jg,length_nil->Jh,append_assoc->Ji,getElem_mem->Jj,length_cons->Jk,map_append->Jl,take_of_length_le->Jm,perm_append_comm->Jn,mem_flatMap->Jp,getElem?_map->Jq,mem_cons->Jr,length_take->Jt,map_cons->Jv,mem_map->Jw,cons_append->Jx,nil_append->Jz,contains_iff_mem->J1,getElem?_eq_none->J2,append_nil->J3,not_mem_nil->J4,mem_map_of_mem->J5,nodup_append->J8,mem_cons_of_mem->Jaa,mem_of_getElem?->Jab,all_cons->Jac,flatMap_append->Jad,all_nil->Jaf,length_append->Jag,getElem?_eq_getElem->Jah,all_eq_true->Jai,getElem_map->Jaj,map_map->Jal,map_set->Jam,take_append_drop->Jan,getElem?_of_mem->Jaq,mem_of_mem_take->Jar,getD_cons_succ->Jas,getD_cons_zero->Jat,set_cons_succ->Jau,set_cons_zero->Jav,flatMap_cons->Jax,getElem?_inj->Jay,getElem?_set->Jaz,flatMap_nil->Ja1,take_length->Ja2,nodup_cons->Ja4,map_take->Ja5
open List.Perm renaming append_left->Jak
open Nat renaming le_refl->Js,zero_add->Ju,eq_zero_or_pos->J6,lt_or_ge->Jao,one_le_two_pow->Jaw,le_trans->Ja6
open Option renaming map_some->Jap
open Option.some renaming inj->J0,injEq->Ja0
namespace Go.AE.Y
attribute [local go_sem] cond_true cond_false Bool.not_true Bool.not_false
attribute [local instance] Classical.propDecidable
open Go.Proofs.Tryz
variable {H:Heap}{K:V→Heap→Prop}{fns:List Fn}
theorem Qbnd {f:Fn}{fl:Bool}(hpl:f.params.length≤3)(hbo:Qcn f.body)(hbs:Qh f.body≤2^34)
  (hK:∀(H':Heap),Upd H H' []→(Qlj 0 fns f).fits→K (.ag (Qlj 0 fns f).cells) H'):Ql prog Qdp [.ag f.cells,.c (.pp [.sl fl 3 (Q1 fns)])] H K:=by
 refine Q0 ?_;refine Qb Qai Q0m ?_;refine Qa ?_;simp only[go_sem,Fn.cells];intro x3 hx3 H1 h1;have kn:=(Kn.start0 H).al hx3 h1;have hlf:=fun K=>Qa8x (fns:=fns) (f:=f) (fl:=fl) (H:=H1) (K:=K) hpl hbo hbs;simp only[Fn.cells]at hlf;refine Qa ?_;simp only[go_sem];refine hlf _ fun H2 hu hfit=>?_;have kn:=kn.call0 hu;have g3:=kn.l 0 rfl;obtain⟨c,hc⟩:∃c,Qlj 0 fns f=c:=⟨_,rfl⟩;rw[hc]at hfit hK⊢;simp only[go_sem,Qf3,g3,CodeD.cells];intro H3 h3;have kn:=kn.stL 0 rfl h3;have g3:=kn.l 0 rfl;refine Qi ?_;simp only[go_sem,Qs,Q6,Qjg,Jb,forall_eq,RS.op,g3];exact⟨_,FrzL.ag (.cons (Qg rfl) (.cons (Qg rfl) (.cons (FrzR.same (Qagu _)).sl .nil))),hK _ kn.fin hfit⟩
theorem Qbnk {g:Fn→CodeD}{f:Nat}{caps:List C}{l:List Fn}{fl:Bool}(hll:l.length≤4)
  (hf:∀x∈l,∀(H1:Heap) (K':V→Heap→Prop),(∀H2,Upd H1 H2 []→(g x).fits→K' (.ag (g x).cells) H2)→Ql prog f ([.ag x.cells]++caps.map .c) H1 K')
  (hK:∀H',Upd H H' []→(∀c∈l.map g,c.fits)→K (.c (.sl false 3 (Q2 (l.map g)))) H'):Ql prog Qee [.c (.sl fl 3 (Q1 l)),.c (.fn f caps)] H K:=by
 refine Q0 ?_;refine Qb Qai Q4k ?_;refine Qa ?_;simp only[go_sem];refine Qa ?_;simp only[go_sem];refine Q4 ?_;refine Qa ?_;simp only[go_sem,Qz];intro hl;simp only[LIM]at hl;refine Qf (Qd (Qw (fun m e1 H1=>∃(i:Nat) (t:C) (Lg:List (Nat×Obj)),m=l.length-i∧i≤l.length∧Gr Lg 3 (Q2 ((l.take i).map g)) t∧Kn H H1 [] Lg∧(∀c∈(l.take i).map g,c.fits)∧
  e1=[(1,.c (.fn f caps)),(5,.c t),(8,.c (.sl fl 3 (Q1 l))),(9,.c (.int .i64 l.length)),(10,.c (.int .i64 i))]) l.length ?_ ?_))
 ·exact⟨0,_,[],by omega,by omega,.nil 3,Kn.start0 H,by simp,rfl⟩
 ·rintro m e1 H1 ⟨i,t,Lg,hm,hi,hgr,kn,hfi,rfl⟩;have hto:=hgr.isOw;refine Qa ?_;simp only[go_sem,hto];refine Qf (Qc rfl ?_ ?_)
  ·intro hc;have hlt:i<l.length:=by simpa using hc
   obtain⟨x,hx⟩:∃x,l[i]=x:=⟨_,rfl⟩;have hxm:x∈l:=by rw[←hx];exact Jj hlt
   have htk0:(l.take (i+1)).map g=(l.take i).map g++[g x]:=by rw[Jf hlt,hx];simp
   have htk:Q2 ((l.take (i+1)).map g)=Q2 ((l.take i).map g)++[(g x).cells]:=by rw[Qab4,htk0]
   refine Qe ?_;try simp only[go_sem]
   refine Qf (Qd ?_);refine Qa ?_;simp only[go_sem,hto,hlt,Qz,Qat _ _ hlt,hx,Fn.cells];intro x7 hx7 H3 h3;have kn:Kn H H3 [] ([(x7,.st [.str [],.sl true 1 [],.sl true 5 []])]++Lg):=(kn.al hx7 h3).perm Jn;have g7:=kn.l 0 rfl;simp only[go_sem,Qg2,g7,hto];intro H4 h4;have kn:Kn H H4 [] ([(x7,.st [.str x.name,.sl false 1 (Qab x.params),.sl false 5 (Qm x.body)])]++Lg):=kn.stL 0 rfl h4;have g7:=kn.l 0 rfl;refine Qq ?_;simp only[go_sem,g7,hto];have hfx:=hf x hxm H4;simp only[Fn.cells]at hfx;refine hfx _ fun H5 hu hft=>?_;have kn:=kn.call0 hu;obtain⟨gx,hgx⟩:∃gx,g x=gx:=⟨_,rfl⟩;rw[hgx]at htk htk0 hft;rw[hgx];simp only[go_sem,Qg4,hto,CodeD.cells];refine kn.growR hgr (new:=[gx.cells]) (.mk' _ true 3 _) (by intro r hr;simp only[Jb]at hr;subst hr;rfl) (by simp only[Qaj,Jd,Jt,Jk,Jh,LIM];omega) fun t2 Lg2 H6 hgr2 hto2 kn=>?_;simp only[go_sem,Qg3,hto2];refine Qq ?_;simp only[go_sem,AE.X.next,hto2];exact⟨Qo (by omega) (by omega),l.length-(i+1),by omega,i+1,t2,Lg2,rfl,by omega,by rw[htk];exact hgr2,kn.sub (List.sublist_append_right _ _),fun c hc=>by
    rw[htk0]at hc;rcases Je.1 hc with h|h
    ·exact hfi c h
    ·simp only[Jb]at h;subst h;exact hft,rfl⟩
  ·intro hc;have hge:l.length≤i:=by simpa using hc
   rw[Jm hge]at hgr hfi;refine Qv ?_;simp only[go_sem,AE.X.next];refine Qa ?_;simp only[go_sem,hto];refine Qi ?_;simp only[go_sem,Qs,Q6,Qm6,Jb,forall_eq,RS.op,hto];exact⟨_,.c _ _ (hgr.frz (B:=[]) kn (Qmt _)),hK _ kn.fin hfi⟩
theorem Qbdu {fl:Bool}(hf:Qt fns≤2^36)(g:GK H)(hK:∀H',Upd H H' []→(∀c∈lowP fns,c.fits)→K (.tup [.ag [.sl false 3 (Q2 (lowP fns))],.c (.bool (lowB fns))]) H') :
  Ql prog Qfh [.ag [.sl fl 3 (Q1 fns)]] H K:=by
 refine Q0 ?_;refine Qb Qai Q9g ?_;refine Qa ?_;simp only[go_sem];intro x2 hx2 H1 h1;have kn:=(Kn.start0 H).al hx2 h1;have g2:=kn.l 0 rfl;simp only[go_sem,Qjt];refine Q4 ?_;refine Qa ?_;simp only[go_sem];refine Qa7a (by omega) (g.kn kn) fun H2 hu=>?_;have kn:=kn.call0 hu;have g2:=kn.l 0 rfl;simp only[go_sem,Qju];have bad:∀(e:Env) (H':Heap) (L:List (Nat×Obj)),lowB fns=false→Kn H H' [] ((x2,.st [.sl true 3 []])::L)→lk 2 e=.c (.ptr x2 0)→lk 3 e=.c (.bool false)→Qs Qd6 (unK H K) .ret e H':=by
  intro e H' L hb kn l2 l3;have g2:=kn.l 0 rfl;simp only[go_sem,Qs,Q6,Qd6,Jr,J4,or_false,forall_eq_or_imp,forall_eq,RS.op,g2,l2,l3];have:=hK _ kn.fin (by rw[lowP,hb];simp);rw[lowP,hb]at this;refine⟨_,Qagn (rows:=[]) (by simp) _,this⟩
 refine Qf (Qc rfl (fun hc=>?_) (fun hc=>?_))
 ·have hb:Qat6 fns=false:=by simpa using hc
  refine Qa ?_;simp only[go_sem,g2];intro H3 h3;have kn:=kn.stL 0 rfl h3;simp only[go_sem,Qjv];refine Qi ?_;exact bad _ _ _ (by rw[lowB,hb];rfl) kn rfl rfl
 have hb:Qat6 fns=true:=by simpa using hc
 have hp:=fine_iff.1 hb;have hdd:Qba 0 fns=Qba (-1) fns:=hp.low_dd 0 (-1);refine Qe ?_;try simp only[go_sem]
 refine Qa ?_;simp only[go_sem];refine Qbnk (g:=Qlj 0 fns) hp.len.2 (fun x hx H3 K3 hK3=>?_) fun H3 hu hfit=>?_
 ·obtain⟨k,hk,rfl⟩:=List.mem_iff_getElem.1 hx;obtain⟨z1,z2,z3⟩:=hp.sizes k hk;exact Qbnd z3 z2 (by omega) hK3
 have hfit:∀c∈Qba (-1) fns,c.fits:=by rw[←hdd];exact hfit
 have hun:fns.map (Qlj 0 fns)=Qba (-1) fns:=hdd;rw[hun];have kn:=kn.call0 hu;simp only[go_sem,Qjx];intro x4 hx4 H4 h4;have kn:=kn.al hx4 h4;have g4:=kn.l 1 rfl;simp only[go_sem,Qjw,g4];intro H5 h5;have kn:Kn H H5 [] [(x2,.st [.sl true 3 []]),(x4,.st [.sl false 3 (Q2 (Qba (-1) fns))])]:=kn.stL 1 rfl h5;have g4:=kn.l 1 rfl;refine Q4 ?_;refine Qa ?_;simp only[go_sem,g4];refine Qaud hfit fun H6 hu=>?_;have kn:=kn.call0 hu;have g2:=kn.l 0 rfl;have g4:=kn.l 1 rfl;simp only[go_sem,Qjy];refine Qf (Qc rfl (fun hc=>?_) (fun hc=>?_))
 ·have hg:Qabz (Qba (-1) fns)=false:=by simpa using hc
  refine Qa ?_;simp only[go_sem,g2];intro H7 h7;have kn:=kn.stL 0 rfl h7;simp only[go_sem,Qjz];refine Qi ?_;exact bad _ _ _ (by rw[lowB,hg,Bool.and_false]) kn rfl rfl
 have hg:Qabz (Qba (-1) fns)=true:=by simpa using hc
 have hlow:lowB fns=true:=by rw[lowB,hb,hg];rfl
 have hP:lowP fns=Qba (-1) fns:=by rw[lowP,if_pos hlow]
 refine Qe ?_;try simp only[go_sem]
 refine Qa ?_;simp only[go_sem,g2,g4];intro H7 h7;have kn:=kn.stL 0 rfl h7;have g2:=kn.l 0 rfl;simp only[go_sem,Qj0];refine Qi ?_;simp only[go_sem,Qs,Q6,Qd6,Jr,J4,or_false,forall_eq_or_imp,forall_eq,RS.op,g2];have:=hK _ kn.fin (by rw[hP];exact hfit);rw[hP,hlow]at this;exact⟨_,Qagn (Qmt _) _,this⟩
end Go.AE.Y
namespace Go.AE.Y
attribute [local go_sem] cond_true cond_false Bool.not_true Bool.not_false
attribute [local instance] Classical.propDecidable
open Go.Proofs.Tryz
variable {H H0 F:Heap}{K:V→Heap→Prop}{E B Lg:List (Nat×Obj)}{fns:List Fn}
theorem Gr.slc2 {sz:Nat}{rows:List (List C)}{c:C}(h:Gr Lg sz rows c)(kn:Kn H0 H E (B++Lg)):Slc H sz rows c:=⟨h.okSl kn,h.elemSz,h.rowsOf kn,h.lenC⟩
end Go.AE.Y
namespace Go.AE
variable {H0 H H1:Heap}{E L N Lg B:List (Nat×Obj)}{sz:Nat}{rows rows':List (List C)}{c:C}{S:Nat→Bool}
theorem Slc.kn (h:Slc H sz rows c)(kn:Kn H H1 [] L):Slc H1 sz rows c:=by
 match c,h with
 |.sl f z r,h=>exact⟨trivial,h.sz,h.rows,h.len⟩
 |.vsl l a st n,h=>
  have hl:H l≠.none:=fun e=>by
   have:=h.ok;simp only[okSl,e]at this
  have he:=kn.chg l hl (by simp);have h1:=h.ok;have h2:=h.rows;simp only[okSl,rowsOf]at h1 h2;refine⟨?_,h.sz,?_,h.len⟩
  ·simp only[okSl,he];exact h1
  ·simp only[rowsOf,he];exact h2
theorem Kn.addNew (kn:Kn H0 H E L)(k2:Kn H H1 [] N):Kn H0 H1 E (L++N):=by
 refine⟨fun p hp=>?_,kn.ext,fun p hp=>?_,kn.dE,?_,fun m hm hn=>?_⟩
 ·rcases Je.1 hp with hp|hp
  ·obtain⟨h1,h2⟩:=kn.get p (Jc _ hp);rw[k2.chg p.1 (by rw[h1];exact h2) (by simp)];exact⟨h1,h2⟩
  ·rcases Je.1 hp with hp|hp
   ·obtain⟨h1,h2⟩:=kn.get p (Ja _ hp);rw[k2.chg p.1 (by rw[h1];exact h2) (by simp)];exact⟨h1,h2⟩
   ·exact k2.get p (by simpa using hp)
 ·rcases Je.1 hp with hp|hp
  ·exact kn.loc p hp
  ·exact (kn.newFree (k2.loc p hp)).1
 ·rw[Jl];refine J8.2 ⟨kn.dL,k2.dL,fun a ha b hb hab=>?_⟩;obtain⟨p,hp,rfl⟩:=Jw.1 hb;exact (kn.newFree (k2.loc p hp)).2.2 (hab▸ha)
 ·rw[k2.chg m (by rw[kn.chg m hm hn];exact hm) (by simp),kn.chg m hm hn]
theorem Gr.frzm (h:Gr Lg sz rows c)(hm:∀p∈Lg,H p.1=p.2∧S p.1=true)(hr:Y.FrzR H S rows rows'):FrzC H S c (.sl false sz rows'):=by
 rcases h with ⟨rfl,rfl,rfl⟩|⟨y,rfl,rfl⟩
 ·cases hr;exact Y.FrzR.nil.sl
 ·obtain⟨h1,h2⟩:=hm (y,.vec sz rows) (by simp);exact hr.vsl h2 h1 rfl
theorem Kn.frzN (kn:Kn H0 H E (B++Lg)):Kn H0 (H.frz fun m=>(Lg.map Prod.fst).contains m) E B:=by
 have hd:=kn.dL;rw[Jl]at hd;obtain⟨d1,d2,d3⟩:=J8.1 hd;have key:∀m,m∉Lg.map Prod.fst→(H.frz fun m=>(Lg.map Prod.fst).contains m) m=H m:=fun m hm=>by
  have:(Lg.map Prod.fst).contains m=false:=by
   cases hc:(Lg.map Prod.fst).contains m with
   |false=>rfl
   |true=>exact absurd (J1.1 hc) hm
  simp only[Heap.frz,this];rfl
 refine⟨fun p hp=>?_,kn.ext,fun p hp=>kn.loc p (Jc _ hp),kn.dE,d1,fun m hm hx=>?_⟩
 ·have hg:H p.1=p.2∧p.2≠.none:=kn.get p (by
   rcases Je.1 hp with h|h
   ·exact Jc _ h
   ·exact Ja _ (Jc _ h))
  refine⟨?_,hg.2⟩;rw[key p.1 (fun hh=>?_)];exact hg.1;rcases Je.1 hp with h|h
  ·obtain⟨r,hr,he⟩:=Jw.1 hh;exact kn.ext p h (he▸kn.loc r (Ja _ hr))
  ·exact d3 _ (Qb1 h) _ hh rfl
 ·rw[key m (fun hh=>?_)];exact kn.chg m hm hx;obtain⟨r,hr,he⟩:=Jw.1 hh;exact hm (he▸kn.loc r (Ja _ hr))
theorem Qbms {p:Nat×Obj}(h:p∈Lg):(fun m=>(Lg.map Prod.fst).contains m) p.1=true:=J1.2 (Qb1 h)
theorem Kn.frzS_out (kn:Kn H0 H E (B++Lg)){p:Nat×Obj}(h:p∈B):(fun m=>(Lg.map Prod.fst).contains m) p.1=false:=by
 have hd:=kn.dL;rw[Jl]at hd
 cases hc:(Lg.map Prod.fst).contains p.1 with
 |false=>exact hc
 |true=>exact absurd rfl ((J8.1 hd).2.2 _ (Qb1 h) _ (J1.1 hc))
end Go.AE
namespace Go.AE.Y
attribute [local go_sem] cond_true cond_false Bool.not_true Bool.not_false
open Go.Proofs.Tryz
variable {H H0 F:Heap}{K:V→Heap→Prop}{E B Lg:List (Nat×Obj)}{fns:List Fn}{S:Nat→Bool}
theorem Qa2d {α β:Type}{f:α→List C}{g:β→List C}{d:α→β}:∀(l:List α),(∀x∈l,FrzL H S (f x) (g (d x)))→FrzR H S (l.map f) ((l.map d).map g)
 |[],_=>.nil
 |x::l,h=>.cons (h x List.mem_cons_self) (Qa2d l fun z hz=>h z (Jaa _ hz))
structure OSt where
 x:St
 ac:C
 al:List (Nat×Obj)
def OSt.row (o:OSt):List C:=[.int .i64 o.x.op,.str o.x.name,o.ac,.sl false 5 (Qm o.x.body),.sl false 5 (Qm o.x.els)]
def OSt.ok (o:OSt):Prop:=Gr o.al 4 (Qy o.x.args) o.ac
theorem OSt.noOw {o:OSt}(h:o.ok):Go.AE.noOw o.row=true:=by
 have:=h.isOw;simp only[OSt.row,Go.AE.noOw,Jac,Jaf,Q67,Q0f,Qahj,this];rfl
theorem OSt.frz {o:OSt}(h:o.ok)(hm:∀p∈o.al,H p.1=p.2∧S p.1=true):FrzL H S o.row o.x.cells:=by
 rw[o.x.cells_eq];exact .cons (Qg rfl) (.cons (Qg rfl) (.cons (Gr.frzm h hm (FrzR.same (Qbs _))) (.cons (FrzR.same (Qbt _)).sl (.cons (FrzR.same (Qbt _)).sl .nil))))
theorem Qa7s {os:List OSt}{Lz:List (Nat×Obj)}{t:C}(ho:∀o∈os,o.ok)(hz:Gr Lz 5 (os.map OSt.row) t)(hm:∀p∈os.flatMap OSt.al++Lz,H p.1=p.2∧S p.1=true):FrzC H S t (.sl false 5 (Qm (os.map OSt.x))):=by
 rw[Qpn];refine Gr.frzm hz (fun p hp=>hm p (Ja _ hp)) (Qa2d os fun o hoo=>OSt.frz (ho o hoo) fun p hp=>hm p (Jc _ (Jp.2 ⟨o,hoo,hp⟩)))
theorem Qbi0:∀(n:Nat) (x:Ex) {H:Heap} {K:V→Heap→Prop},x.size≤n→(∀H',Upd H H' []→K (.ag x.cells) H')→Ql prog Q6z [.ag x.cells] H K:=by
 intro n
 induction n with
 |zero=>intro x H K h;have:=x.size_pos;omega
 |succ n ih=>
 intro x H K hn hK;have hsz:=x.size_kids;refine Q0 ?_;refine Qb Qai Qbjb ?_;refine Qa ?_;simp only[go_sem,x.cells_eq];intro x1 hx1 H1 h1;have kn:=(Kn.start0 H).al hx1 h1;simp only[go_sem,Qaj3];intro x2 hx2 H2 h2;have kn:Kn H H2 [] ([(x1,exO x.op x.n x.name (.sl false 4 (Qy x.kids))),(x2,exO 0 0 [] (.sl true 4 []))]):=kn.al hx2 h2;refine Qa ?_;simp only[go_sem];refine Q4 ?_;refine Qa ?_;simp only[go_sem];refine Qf (Qd (Qw (fun m e2 H2=>∃(j:Nat) (Lk:List (Nat×Obj)) (t:C),m=x.kids.length-j∧j≤x.kids.length∧Gr Lk 4 (Qy (x.kids.take j)) t∧
  Kn H H2 [] ([(x1,exO x.op x.n x.name (.sl false 4 (Qy x.kids))),(x2,exO 0 0 [] (.sl true 4 []))]++Lk)∧
  e2=[(1,.c (.ptr x1 0)),(2,.c (.ptr x2 0)),(3,.c t),(4,.c (.int .i64 j))]) x.kids.length ?_ ?_))
 ·exact⟨0,[],.sl true 4 [],by omega,by omega,.nil 4,kn,rfl⟩
 ·clear kn;rintro m e2 H3 ⟨j,Lk,t,hm,hj,hgk,kn,rfl⟩;have hto:=hgk.isOw;have g1:=kn.l 0 rfl;refine Q4 ?_;refine Qa ?_;simp only[go_sem,g1,hto,Qn];intro hl;simp only[LIM]at hl;refine Qf (Qc rfl ?_ ?_)
  ·intro hc;have hlt:j<x.kids.length:=by simpa using hc
   have hms:=Qan (Jj hlt);obtain⟨y,hy⟩:∃y,x.kids[j]=y:=⟨_,rfl⟩;have htk:Qy (x.kids.take (j+1))=Qy (x.kids.take j)++[y.cells]:=by
    rw[Qg7,Jf hlt,hy]
   rw[hy]at hms;refine Qe ?_;try simp only[go_sem]
   refine Qf (Qd ?_);refine Qq ?_;simp only[go_sem,g1,hto,hlt,Qn,Qap _ _ hlt,hy,Ex.take4,Ex.allOw,Ex.cells_len];refine ih y (by omega) fun H5 hu=>?_;have kn:=kn.call0 hu;simp only[go_sem,Qaj5,hto,y.cells_len];refine kn.growR hgk (new:=[y.cells]) (.mk' _ true 4 _) (by simpa using y.noOw) (by simp only[Qn,Jt,Jk,Jh,LIM];omega) fun t' Lk' H6 hg' hto' kn=>?_;rw[←htk]at hg';simp only[go_sem,Qaj4,hto'];refine Qq ?_;simp only[go_sem,AE.X.next,hto'];exact⟨Qo (by omega) (by omega),x.kids.length-(j+1),by omega,j+1,Lk',t',rfl,by omega,hg',kn,rfl⟩
  ·intro hc;have hge:x.kids.length≤j:=by simpa using hc
   rw[Jm hge]at hgk;refine Qv ?_;simp only[go_sem,AE.X.next];refine Qa ?_;simp only[go_sem,g1,hto];intro H4 h4;have kn:=kn.stL 0 rfl h4;have g1:=kn.l 0 rfl;have g2:=kn.l 1 rfl;refine Qa ?_;simp only[go_sem,g1,g2,hto];intro H5 h5;have kn:=kn.stL 1 rfl h5;have g2:=kn.l 1 rfl;refine Qi ?_;simp only[go_sem,Qs,Q6,Qacd,Jb,forall_eq,RS.op,g2,hto];rw[x.cells_eq]at hK;exact⟨_,(FrzL.cons (Qg rfl) (.cons (Qg rfl) (.cons (Qg rfl) (.cons (hgk.frz (B:=[_,_]) kn (Qbs _)) .nil)))).ag,hK _ kn.fin⟩
structure SRd (H:Heap)(rows:List (List C))(l:List St):Prop where
 len:rows.length=l.length
 get:∀i (h:i<l.length),∃ac:C,rows.getD i []=[.int .i64 l[i].op,.str l[i].name,ac,.sl false 5 (Qm l[i].body),.sl false 5 (Qm l[i].els)]∧ac.isOw=false∧Slc H 4 (Qy l[i].args) ac
theorem SRd.fz (H:Heap)(l:List St):SRd H (Qm l) l:=⟨Qu l,fun i h=>⟨.sl false 4 (Qy l[i].args),by rw[Qbc _ _ h,St.cells_eq],rfl,.mk' H false 4 _⟩⟩
theorem SRd.kn {H1:Heap}{L:List (Nat×Obj)}{rows:List (List C)}{l:List St}(h:SRd H rows l)(kn:Kn H H1 [] L):SRd H1 rows l:=⟨h.len,fun i hi=>by
 obtain⟨ac,h1,h2,h3⟩:=h.get i hi;exact⟨ac,h1,h2,h3.kn kn⟩⟩
theorem OSt.slc {o:OSt}(h:o.ok)(hm:∀p∈o.al,H p.1=p.2):Slc H 4 (Qy o.x.args) o.ac:=by
 have hk:Gr o.al 4 (Qy o.x.args) o.ac:=h;refine⟨?_,hk.elemSz,?_,hk.lenC⟩
 ·rcases hk with ⟨h1,h2,h3⟩|⟨y,h1,h2⟩
  ·rw[h1];trivial
  ·have:H y=.vec 4 (Qy o.x.args):=hm (y,_) (by rw[h2];simp);rw[h1];simp[okSl,this]
 ·rcases hk with ⟨h1,h2,h3⟩|⟨y,h1,h2⟩
  ·rw[h1,h2];rfl
  ·have:H y=.vec 4 (Qy o.x.args):=hm (y,_) (by rw[h2];simp);rw[h1];simp[rowsOf,this]
theorem SRd.os {os:List OSt}(ho:∀o∈os,o.ok)(hm:∀p∈os.flatMap OSt.al,H p.1=p.2):SRd H (os.map OSt.row) (os.map OSt.x):=by
 refine⟨by simp,fun i hi=>?_⟩;have hi2:i<os.length:=by simpa using hi
 have hm2:=Jj hi2;refine⟨os[i].ac,?_,(ho _ hm2).isOw,?_⟩
 ·simp[Jg,hi2,OSt.row]
 ·rw[Jaj];exact OSt.slc (ho _ hm2) fun p hp=>hm p (Jp.2 ⟨_,hm2,hp⟩)
def StO (n:Nat):Prop:=∀(l:List St) (rows:List (List C)) (c:C) (H:Heap) (K:V→Heap→Prop),Qh l≤n→Qh l≤2^38→c.isOw=false→Slc H 5 rows c→SRd H rows l→
 (∀(os:List OSt) t Lz H',os.map OSt.x=l→(∀o∈os,o.ok)→Gr Lz 5 (os.map OSt.row) t→Kn H H' [] (os.flatMap OSt.al++Lz)→K (.c t) H')→Ql prog Qhb [.c c] H K
theorem Qblm {n:Nat}(h:StO n){l:List St}{f:Bool}{H:Heap}{K:V→Heap→Prop}(hn:Qh l≤n)(hb:Qh l≤2^38)(hK:∀H',Upd H H' []→K (.c (.sl false 5 (Qm l))) H'):Ql prog Qhb [.c (.sl f 5 (Qm l))] H K:=by
 refine Q0 (h l (Qm l) (.sl f 5 (Qm l)) H _ hn hb rfl (.mk' H f 5 _) (.fz H l) fun os t Lz H' hx ho hz kn=>?_);refine⟨_,.c _ _ (Qa7s ho hz fun p hp=>⟨(kn.get p (by simpa using hp)).1,Qn7 (kn.loc p hp)⟩),?_⟩;rw[hx];exact hK _ kn.fin
theorem Qbp7:∀n,StO n:=by
 intro n
 induction n using Nat.strongRecOn with
 |_ n ih=>
 intro l rows c H K hn hb how hs0 hr0 hK;have hsl0:=Qb8 l;have hrl:=hr0.len;refine Qb Qai Qbeu ?_;refine Qa ?_;simp only[go_sem,how];refine Qa ?_;simp only[go_sem,how];refine Q4 ?_;refine Qa ?_;simp only[go_sem,how];refine Qf (Qd (Qw (fun m e1 H1=>∃(i:Nat) (os:List OSt) (Lz:List (Nat×Obj)) (t:C),m=l.length-i∧i≤l.length∧os.map OSt.x=l.take i∧(∀o∈os,o.ok)∧Gr Lz 5 (os.map OSt.row) t∧Kn H H1 [] (os.flatMap OSt.al++Lz)∧
  e1=[(0,.c c),(3,.c t),(4,.c (.int .i64 i))]) l.length ?_ ?_))
 ·exact⟨0,[],[],.sl true 5 [],by omega,by omega,by simp,by simp,.nil 5,Kn.start0 H,rfl⟩
 ·rintro m e1 H1 ⟨i,os,Lz,t,hm,hi,hox,ho,hz,kn,rfl⟩;have hto:=hz.isOw;have hs1:=hs0.kn kn;have hok:=eq_true hs1.ok;have hrw:=hs1.rows;have hln:=hs1.len;have hsz:=hs1.sz;rw[hrl]at hln;refine Q4 ?_;refine Qa ?_;simp only[go_sem,how,hok,hln,hto];intro hl;simp only[LIM]at hl;refine Qf (Qc rfl ?_ ?_)
  ·intro hc;have hlt:i<l.length:=by simpa using hc
   have hms:=Qbg (Jj hlt);obtain⟨x,hx⟩:∃x,l[i]=x:=⟨_,rfl⟩;rw[hx]at hms;have hse:=x.size_eq;obtain⟨ac,hrow,haw,_⟩:=hr0.get i hlt;rw[hx]at hrow;have hol:os.length=i:=by
    have:=congrArg List.length hox;rw[Jd,Jt]at this;omega
   refine Qe ?_;try simp only[go_sem]
   refine Qf (Qd ?_);refine Qa ?_;simp only[go_sem,how,hok,hln,hrw,hsz,hto,haw,hlt,hrow];intro x5 hx5 H3 h3;have kn:Kn H H3 [] ((os.flatMap OSt.al++Lz)++(x5,.st [.int .i64 0,.str [],.sl true 4 [],.sl true 5 [],.sl true 5 []])::[]):=kn.al hx5 h3;have g5:=kn.getM;simp only[go_sem,Qadb,g5,how,hto,haw];intro H4 h4;have kn:Kn H H4 [] ((os.flatMap OSt.al++Lz)++(x5,stX x.op x.name ac (.sl false 5 (Qm x.body)) (.sl false 5 (Qm x.els)))::[]):=kn.stM h4;refine Qa ?_;simp only[go_sem,how,hto];refine Q4 ?_;refine Qa ?_;simp only[go_sem,how,hto];refine Qf (Qd (Qw (fun m2 e2 H5=>∃(j:Nat) (La:List (Nat×Obj)) (ta:C),m2=x.args.length-j∧j≤x.args.length∧Gr La 4 (Qy (x.args.take j)) ta∧Kn H H5 [] ((os.flatMap OSt.al++Lz)++(x5,stX x.op x.name ac (.sl false 5 (Qm x.body)) (.sl false 5 (Qm x.els)))::La)∧
    e2=[(0,.c c),(3,.c t),(4,.c (.int .i64 i)),(5,.c (.ptr x5 0)),(6,.c ta),(7,.c (.int .i64 j))]) x.args.length ?_ ?_))
   ·exact⟨0,[],.sl true 4 [],by omega,by omega,.nil 4,kn,rfl⟩
   ·clear kn g5 h4 h3;rintro m2 e2 H5 ⟨j,La,ta,hm2,hj,hga,kn,rfl⟩;have hao:=hga.isOw;have g5:=kn.getM;obtain⟨ac',hrow',haw',hsa⟩:=(hr0.kn kn).get i hlt;rw[hx]at hrow' hsa;have hacc:ac=ac':=by
     rw[hrow]at hrow';simp only[List.cons.injEq]at hrow';exact hrow'.2.2.1
    subst hacc;have hoka:=eq_true hsa.ok;have hrwa:=hsa.rows;have hlna:=hsa.len;have hsza:=hsa.sz;rw[Qn]at hlna;refine Q4 ?_;refine Qa ?_;simp only[go_sem,how,haw,hto,hao,g5,hoka,hlna];intro hl2;simp only[LIM]at hl2;refine Qf (Qc rfl ?_ ?_)
    ·intro hc2;have hlt2:j<x.args.length:=(by simpa using hc2);have hms2:=Qan (Jj hlt2);obtain⟨y,hy⟩:∃y,x.args[j]=y:=⟨_,rfl⟩;have htk:Qy (x.args.take (j+1))=Qy (x.args.take j)++[y.cells]:=by
      rw[Qg7,Jf hlt2,hy]
     refine Qe ?_;try simp only[go_sem]
     refine Qf (Qd ?_);refine Qq ?_;simp only[go_sem,how,haw,hto,hao,g5,hoka,hlna,hrwa,hsza,hlt2,Qap _ _ hlt2,hy,Ex.take4,Ex.allOw,Ex.cells_len];refine Qbi0 y.size y (Js _) fun H6 hu=>?_;have kn:=kn.call0 hu;simp only[go_sem,how,haw,Qadd,hto,hao,y.cells_len];have kn:Kn H H6 [] (((os.flatMap OSt.al++Lz)++[(x5,stX x.op x.name ac (.sl false 5 (Qm x.body)) (.sl false 5 (Qm x.els)))])++La):=(by rw[Ji _ [_]];exact kn);refine kn.growR hga (new:=[y.cells]) (.mk' _ true 4 _) (by simpa using y.noOw) (by simp only[Qn,Jt,Jk,Jh,LIM];omega) fun ta' La' H7 hga' hao' kn=>?_;rw[←htk]at hga';simp only[go_sem,how,haw,Qadc,hto,hao'];refine Qq ?_;simp only[go_sem,AE.X.next,how,haw,hto,hao'];refine⟨Qo (by omega) (by omega),x.args.length-(j+1),by omega,j+1,La',ta',rfl,by omega,hga',?_,rfl⟩;rw[Ji _ [_]]at kn;exact kn
    ·intro hc2;have hge2:x.args.length≤j:=(by simpa using hc2);rw[Jm hge2]at hga;refine Qv ?_;simp only[go_sem,AE.X.next];refine Qeb ?_;simp only[go_sem,how,haw,hto,hao,g5];refine Qblm (ih (Qh x.body) (by omega)) (Js _) (by omega) fun H6 hu=>?_;have kn:=kn.call0 hu;have g5:=kn.getM;simp only[go_sem,how,haw,Qadg,hto,hao,g5];refine Qblm (ih (Qh x.els) (by omega)) (Js _) (by omega) fun H7 hu=>?_;have kn:=kn.call0 hu;have g5:=kn.getM;simp only[go_sem,how,haw,Qadf,hto,hao,g5];have kn:Kn H H7 [] ((os.flatMap OSt.al++(x5,stX x.op x.name ac (.sl false 5 (Qm x.body)) (.sl false 5 (Qm x.els)))::La)++Lz):=kn.perm (by
      rw[Ji,Ji];exact Jak _ Jn)
     have hok:OSt.ok ⟨x,ta,La⟩:=hga;refine kn.growR hz (new:=[OSt.row ⟨x,ta,La⟩]) (.mk' _ true 5 _) (by simpa using OSt.noOw hok) (by simp only[Jd,Jk,Jh,LIM];omega) fun t' Lz' H8 hz' hto' kn=>?_;have kn:Kn H H8 [] ((os++[(⟨x,ta,La⟩:OSt)]).flatMap OSt.al++Lz'):=by
      refine kn.sub ?_;rw[Jad,Jax,Ja1,J3];exact List.Sublist.append (List.Sublist.append (List.Sublist.refl _) (List.sublist_cons_self _ _)) (List.Sublist.refl _)
     simp only[go_sem,how,haw,Qade,hto'];refine Qq ?_;simp only[go_sem,AE.X.next,how,hto'];refine⟨Qo (by omega) (by omega),l.length-(i+1),by omega,i+1,os++[(⟨x,ta,La⟩:OSt)],Lz',t',rfl,by omega,?_,?_,?_,kn,rfl⟩
     ·rw[Jl,hox,Jf hlt,hx];rfl
     ·intro o hoo;rcases Je.1 hoo with hoo|hoo
      ·exact ho o hoo
      ·simp only[Jb]at hoo;subst hoo;exact hok
     ·rw[Jl];exact hz'
  ·intro hc;have hge:l.length≤i:=by simpa using hc
   rw[Jm hge]at hox;refine Qv ?_;simp only[go_sem,AE.X.next];refine Qa ?_;simp only[go_sem,hto];refine Qi ?_;simp only[go_sem,Qs,Q6,Qer,Jb,forall_eq,RS.op,hto];exact hK os t Lz _ hox ho hz kn
theorem Qbe8 (A B C D:List (Nat×Obj)):(((A++B)++C)++D).Perm ((A++(C++D))++B):=by
 simp only[Ji];refine Jak _ (Jn.trans ?_);simp only[Ji];exact .refl _
structure OFn where
 f:Fn
 pc:C
 pl:List (Nat×Obj)
 os:List OSt
 bc:C
 bl:List (Nat×Obj)
def OFn.row (u:OFn):List C:=[.str u.f.name,u.pc,u.bc]
def OFn.lg (u:OFn):List (Nat×Obj):=u.pl++(u.os.flatMap OSt.al++u.bl)
structure OFn.ok (u:OFn):Prop where
 p:Gr u.pl 1 (Qab u.f.params) u.pc
 o:∀o∈u.os,o.ok
 b:Gr u.bl 5 (u.os.map OSt.row) u.bc
 x:u.os.map OSt.x=u.f.body
theorem OFn.noOw {u:OFn}(h:u.ok):Go.AE.noOw u.row=true:=by
 have h1:=h.p.isOw;have h2:=h.b.isOw;simp only[OFn.row,Go.AE.noOw,Jac,Jaf,Q0f,h1,h2];rfl
theorem OFn.frz {u:OFn}(h:u.ok)(hm:∀p∈u.lg,H p.1=p.2∧S p.1=true):FrzL H S u.row u.f.cells:=by
 have hb:=Qa7s (H:=H) (S:=S) h.o h.b fun p hp=>hm p (Ja _ hp);rw[h.x]at hb;exact .cons (Qg rfl) (.cons (Gr.frzm h.p (fun p hp=>hm p (Jc _ hp)) (FrzR.same (Qc7 _))) (.cons hb .nil))
theorem Qbjn {us:List OFn}{Lz:List (Nat×Obj)}{t:C}(ho:∀u∈us,u.ok)(hz:Gr Lz 3 (us.map OFn.row) t)(hm:∀p∈us.flatMap OFn.lg++Lz,H p.1=p.2∧S p.1=true):FrzC H S t (.sl false 3 (Q1 (us.map OFn.f))):=
 Gr.frzm hz (fun p hp=>hm p (Ja _ hp)) (Qa2d us fun o hoo=>OFn.frz (ho o hoo) fun p hp=>hm p (Jc _ (Jp.2 ⟨o,hoo,hp⟩)))
theorem Qbec {l:List Fn}{c:C}(how:c.isOw=false)(hs:Slc H 3 (Q1 l) c)(hb:Qt l≤2^38)(hp:∀f∈l,f.params.length≤2^38)
  (hK:∀(us:List OFn) t Lz H',us.map OFn.f=l→(∀u∈us,u.ok)→Gr Lz 3 (us.map OFn.row) t→t.isOw=false→Kn H H' [] (us.flatMap OFn.lg++Lz)→K (.ag [t]) H'):Ql prog Qahc [.ag [c]] H K:=by
 refine Qb Qai Qbjf ?_;refine Qa ?_;simp only[go_sem,how];intro x2 hx2 H1 h1;have kn:=(Kn.start0 H).al hx2 h1;refine Qa ?_;simp only[go_sem,how];intro x3 hx3 H2 h2;have kn:=kn.al hx3 h2;have g3:=kn.l 1 rfl;simp only[go_sem,Qaln,g3,how];intro H3 h3;have kn:Kn H H3 [] ((x2,.st [.sl true 3 []])::(x3,.st [.sl true 3 []])::([]++[])):=kn.stL 1 rfl h3;refine Q4 ?_;refine Qa ?_;simp only[go_sem,how];refine Qf (Qd (Qw (fun m e1 H1=>∃(i:Nat) (us:List OFn) (Lz:List (Nat×Obj)) (t:C),m=l.length-i∧i≤l.length∧us.map OFn.f=l.take i∧(∀o∈us,o.ok)∧Gr Lz 3 (us.map OFn.row) t∧
  Kn H H1 [] ((x2,.st [.sl true 3 []])::(x3,.st [t])::(us.flatMap OFn.lg++Lz))∧
  e1=[(1,.c (.pp [c])),(2,.c (.ptr x2 0)),(3,.c (.ptr x3 0)),(4,.c (.int .i64 i))]) l.length ?_ ?_))
 ·exact⟨0,[],[],.sl true 3 [],by omega,by omega,by simp,by simp,.nil 3,kn,rfl⟩
 ·clear kn g3 h3 h2 h1;rintro m e1 H1 ⟨i,us,Lz,t,hm,hi,hux,hu,hz,kn,rfl⟩;have hto:=hz.isOw;have hs1:=hs.kn kn;have hok:=eq_true hs1.ok;have hrw:=hs1.rows;have hln:=hs1.len;have hsz:=hs1.sz;rw[Qz]at hln;refine Q4 ?_;refine Qa ?_;simp only[go_sem,how,hto,hok,hln];intro hl;simp only[LIM]at hl;refine Qf (Qc rfl ?_ ?_)
  ·intro hc;have hlt:i<l.length:=by simpa using hc
   have hms:=Qbb (Jj hlt);have hpl:=hp _ (Jj hlt);obtain⟨x,hx⟩:∃x,l[i]=x:=⟨_,rfl⟩;rw[hx]at hms hpl;have hul:us.length=i:=by
    have:=congrArg List.length hux;rw[Jd,Jt]at this;omega
   refine Qe ?_;try simp only[go_sem]
   refine Qf (Qd ?_);refine Qa ?_;simp only[go_sem,how,hto,hok,hln,hrw,hsz,hlt,Qat _ _ hlt,hx,Fn.cells];intro x5 hx5 H3 h3;have kn:=(kn.al hx5 h3).perm (L':=(x2,.st [.sl true 3 []])::(x3,.st [t])::(x5,_)::(us.flatMap OFn.lg++Lz)) (.cons _ (.cons _ Jn));have g5:=kn.l 2 rfl;simp only[go_sem,Qalo,g5,how,hto];intro H4 h4;have kn:Kn H H4 [] ((x2,.st [.sl true 3 []])::(x3,.st [t])::(x5,fnO x)::(us.flatMap OFn.lg++Lz)):=kn.stL 2 rfl h4;have g5:=kn.l 2 rfl;have g3:=kn.l 1 rfl;refine Qeb ?_;simp only[go_sem,g5,g3,how,hto,Qr];refine⟨.inl trivial,Qc7 _,by simp only[LIM];omega,fun z hz0 H5 h5=>?_⟩;have kn:=kn.al hz0 h5;have g5:=kn.l 2 rfl;have g3:=kn.l 1 rfl;simp only[go_sem,Qalr,g5,g3,how,hto];refine Qbp7 (Qh x.body) x.body _ (.sl false 5 (Qm x.body)) H5 _ (Js _) (by omega) rfl (.mk' _ false 5 _) (.fz _ _) fun os tb Lb H6 hox ho hzb k2=>?_;have kn:=kn.addNew k2;have htb:=hzb.isOw;have g5:=kn.l 2 rfl;have g3:=kn.l 1 rfl;simp only[go_sem,Qalq,g5,g3,how,hto,htb];obtain⟨u,hue⟩:∃u:OFn,u=⟨x,.vsl z 1 0 (0+x.params.length),[(z,.vec 1 ([]++Qab x.params))],os,tb,Lb⟩:=⟨_,rfl⟩;have huo:u.ok:=by
    rw[hue];exact⟨by simpa using Gr.mk (n:=0+x.params.length) z 1 (Qab x.params) (by rw[Qr];omega),ho,hzb,hox⟩
   have hulg:u.lg=[(z,.vec 1 ([]++Qab x.params))]++(os.flatMap OSt.al++Lb):=by rw[hue];rfl
   have hur:u.row=[.str x.name,.vsl z 1 0 (0+x.params.length),tb]:=by rw[hue];rfl
   have kn:Kn H H6 [] (((x2,.st [.sl true 3 []])::(x3,.st [t])::(x5,fnO x)::(us.flatMap OFn.lg++u.lg))++Lz):=kn.perm (by
    rw[hulg];exact .cons _ (.cons _ (.cons _ (Qbe8 _ _ _ _))))
   refine kn.growR hz (new:=[u.row]) (by rw[hur];exact .mk' _ true 3 _) (by simpa using OFn.noOw huo) (by simp only[Jd,Jk,Jh,LIM];omega) fun t' Lz' H8 hz' hto' kn=>?_;have g3:=kn.l 1 rfl;simp only[go_sem,Qalp,g3,how,hto'];intro H9 h9;have kn:=kn.stL 1 rfl h9;have kn:Kn H H9 [] ((x2,.st [.sl true 3 []])::(x3,.st [t'])::((us++[u]).flatMap OFn.lg++Lz')):=by
    refine kn.sub ?_;rw[Jad,Jax,Ja1,J3];exact .cons_cons _ (.cons_cons _ (.cons _ (List.Sublist.refl _)))
   try simp only[go_sem,AE.X.next]
   refine Qq ?_;simp only[go_sem,AE.X.next,how];refine⟨Qo (by omega) (by omega),l.length-(i+1),by omega,i+1,us++[u],Lz',t',rfl,by omega,?_,?_,?_,kn,rfl⟩
   ·rw[Jl,hux,Jf hlt,hx,hue];rfl
   ·intro o hoo;rcases Je.1 hoo with hoo|hoo
    ·exact hu o hoo
    ·simp only[Jb]at hoo;subst hoo;exact huo
   ·rw[Jl];exact hz'
  ·intro hc;have hge:l.length≤i:=by simpa using hc
   rw[Jm hge]at hux;have g3:=kn.l 1 rfl;have g2:=kn.l 0 rfl;refine Qv ?_;simp only[go_sem,AE.X.next];refine Qa ?_;simp only[go_sem,g3,g2,hto];intro H3 h3;have kn:=kn.stL 0 rfl h3;have g2:=kn.l 0 rfl;refine Qi ?_;simp only[go_sem,Qs,Q6,Qa74,Jb,forall_eq,RS.op,g2,hto];exact hK us t Lz _ hux hu hz hto (kn.sub (.cons _ (.cons _ (List.Sublist.refl _))))
theorem Qqb (a b:List Fn):Qt (a++b)=Qt a+Qt b:=by
 induction a with
 |nil=>simp[Qt]
 |cons x r ih=>simp only[Jx,Qt,ih];omega
end Go.AE.Y
namespace Go.AE
variable {H0 H:Heap}{E B Lg:List (Nat×Obj)}{sz:Nat}{rows:List (List C)}{c:C}
def Gt (Lg:List (Nat×Obj))(sz:Nat)(rows:List (List C))(c:C):Prop:=(c=.sl true sz rows∧Lg=[])∨Gr Lg sz rows c
theorem Gt.isOw (h:Gt Lg sz rows c):c.isOw=false:=by
 rcases h with ⟨rfl,_⟩|h
 ·rfl
 ·exact h.isOw
theorem Gt.frz (h:Gt Lg sz rows c)(kn:Kn H0 H E (B++Lg))(hr:∀r∈rows,noOw r=true):FrzC H (un H0) c (.sl false sz rows):=by
 rcases h with ⟨rfl,_⟩|h
 ·exact (Y.FrzR.same hr).sl
 ·exact h.frz kn hr
theorem Kn.growT {K:V→Heap→Prop}{new:List (List C)}{b:C}(kn:Kn H0 H E (B++Lg))(hc:Gt Lg sz rows c)(hb:Slc H sz new b)(hn:new≠[])
  (h0:∀r∈rows,noOw r=true) (h1:∀r∈new,noOw r=true) (h2:rows.length+new.length≤LIM)
  (h:∀t Lg' H',Gr Lg' sz (rows++new) t→t.isOw=false→Kn H0 H' E (B++Lg')→K (.c t) H'):appQ H sz c b K:=by
 rcases hc with ⟨rfl,rfl⟩|hc
 ·refine⟨hb.ok,hb.sz,rfl,.inr (by rw[hb.rows];exact hn),?_,by rw[hb.len];exact h2,fun l hl H' hH'=>?_⟩
  ·rw[hb.rows];intro r hr;rcases Je.1 hr with hr|hr
   ·exact h0 r hr
   ·exact h1 r hr
  ·rw[J3]at kn;rw[hb.len];refine h _ [(l,.vec sz (rows++new))] H' (.mk l sz _ (by simp)) rfl ?_;have:=kn.al hl hH'
   rwa [hb.rows]at this
 ·exact kn.growR hc hb h1 h2 h
theorem Kn.addNewE {H1:Heap}{L N:List (Nat×Obj)}(kn:Kn H0 H E L)(i:Nat){l:Nat}{o o':Obj}(h:E[i]? = some (l,o))(k2:Kn H H1 [(l,o')] N):Kn H0 H1 (E.set i (l,o')) (L++N):=by
 have hne:∀p∈E++L,H p.1≠.none:=fun p hp=>by obtain⟨a,b⟩:=kn.get p hp;rw[a];exact b
 have hl:H1 l=o'∧o'≠.none:=k2.get (l,o') (by simp);have hu:Upd H H1 [(l,o')]:=⟨fun p hp=>by simp at hp;subst hp;exact hl.1,fun m hm hx=>k2.chg m hm hx⟩;have k3:=kn.callE i h hu hl.2;refine⟨fun p hp=>?_,k3.ext,fun p hp=>?_,k3.dE,?_,k3.chg⟩
 ·rw[←Ji]at hp;rcases Je.1 hp with hp|hp
  ·exact k3.get p hp
  ·exact k2.get p (Ja _ hp)
 ·rcases Je.1 hp with hp|hp
  ·exact kn.loc p hp
  ·exact (kn.newFree (k2.loc p hp)).1
 ·rw[Jl];refine J8.2 ⟨kn.dL,k2.dL,fun a ha b hb hab=>?_⟩;obtain⟨p,hp,rfl⟩:=Jw.1 ha;obtain⟨q,hq,rfl⟩:=Jw.1 hb;exact hne p (Ja _ hp) (by rw[hab];exact k2.loc q hq)
end Go.AE
namespace Go.AE.Y
open Go.Proofs.Tryz
def Ex.ct (x:Ex):List C:=[.int .i64 x.op,.int .i64 x.n,.str x.name,.sl true 4 (Qy x.kids)]
theorem Ex.frzT {H:Heap}{S:Nat→Bool}(x:Ex):FrzV H S (.ag [.int .i64 x.op,.int .i64 x.n,.str x.name,.sl true 4 (Qy x.kids)]) (.ag x.ct):=
 (FrzL.cons (.same _ rfl) (.cons (.same _ rfl) (.cons (.same _ rfl) (.cons (.same _ rfl) .nil)))).ag
theorem Qbd9 {R:Rdr}{k:Nat}{fl:Bool}{ss:List (List UInt8)}{H:Heap}{K:V→Heap→Prop}(hH:H R.l=R.o k)(hk:k+2≤2^40)
  (hK:∀(x:Ex) (H':Heap) (k':Nat),k<k'→k'≤k+2→Upd H H' [(R.l,R.o k')]→x.ok→x.size=1→K (.ag x.ct) H') :
  Ql prog Qu0 [.c (.ptr R.l 0),.c (.sl fl 1 (Qab ss))] H K:=by
 refine Q0 ?_;refine Qb Qai Qa7o ?_;refine Qa ?_;simp only[go_sem];intro x hx H1 h1;have kn:=(Kn.start1 hH (R.o_ne k)).al hx h1;refine Q4 ?_;refine Qa ?_;simp only[go_sem,Qr];intro hl;have rest:∀(b:Bool) (H2:Heap) (k2:Nat),k≤k2→k2≤k+1→Kn H H2 [(R.l,R.o k2)] [(x,.st [.int .i64 0,.int .i64 0,.str [],.sl true 4 []])]→(b=false→0<ss.length)→
   Q8 prog (s_l2Leaf_2.seq Qaaz) (Qs Qm7 (unK H K)) [(0,V.c (C.ptr R.l 0)),(1,V.c (C.sl fl 1 (Qab ss))),(4,V.c (C.ptr x 0)),(12,V.c (.bool b))] H2:=by
  intro b H2 k2 hk1 hk2 kn hb;refine Qf (Qc rfl ?_ ?_)
  ·intro hb';refine Qa ?_;simp only[go_sem];refine Qvd (ns:=[0,1,2,3,5,7,15,16,100,255]) (kn.e 0 rfl) (by omega) (by simp) fun v H3 hv hu=>?_;have kn:=kn.callE 0 rfl hu (R.o_ne _);have hx3:=kn.l 0 rfl;simp only[go_sem,Q5s,hx3];intro H4 h4;have kn:=kn.stL 0 rfl h4;have hx4:=kn.l 0 rfl;refine Qi ?_;simp only[go_sem,Qs,Q6,Qm7,Jb,forall_eq,RS.op,hx4];refine⟨_,(Ex.mk 1 v [] []).frzT,hK _ _ (k2+1) (by omega) (by omega) kn.fin ?_ ?_⟩
   ·simp[Ex.ok,Qcx]
   ·simp[Ex.size,Qp]
  ·intro hb';refine Qe ?_;simp only[go_sem];refine Qa ?_;simp only[go_sem];refine of_c (kn.e 0 rfl) (by omega) (hb hb') fun v H3 hv hu=>?_;have kn:=kn.callE 0 rfl hu (R.o_ne _);have hx3:=kn.l 0 rfl;simp only[go_sem,Q5t,hx3];intro H4 h4;have kn:=kn.stL 0 rfl h4;have hx4:=kn.l 0 rfl;refine Qi ?_;simp only[go_sem,Qs,Q6,Qm7,Jb,forall_eq,RS.op,hx4];refine⟨_,(Ex.mk 2 0 v []).frzT,hK _ _ (k2+1) (by omega) (by omega) kn.fin ?_ ?_⟩
   ·simp[Ex.ok,Qcx]
   ·simp[Ex.size,Qp]
 refine⟨fun hb=>?_,fun hb=>?_⟩
 ·refine Qch (kn.e 0 rfl) (by omega) fun v H2 hv hu=>?_;have kn:=kn.callE 0 rfl hu (R.o_ne _);simp only[go_sem,Qmf];refine rest _ H2 (k+1) (by omega) (by omega) kn ?_;intro h;have:¬ss.length=0:=by simpa using hb
  omega
 ·have hb2:decide ((ss.length:Int)=0)=true:=by simpa using hb
  simp only[go_sem,Qmf,hb2];exact rest true H1 k (by omega) (by omega) kn (fun h=>by simp at h)
theorem Qbd6 {R : Rdr} {fl : Bool} {ss : List (List UInt8)} (d : Nat) {k : Nat} {H : Heap} {K : V → Heap → Prop} (deep : Int) (hd : deep ≤ d) (hH : H R.l = R.o k) (hk : k + 6 * 2^d ≤ 2^40)
    (hK : ∀ (x : Ex) (H' : Heap) (k' : Nat), k < k' → k' + 3 ≤ k + 6 * 2^d → Upd H H' [(R.l, R.o k')] → x.ok → k + x.size ≤ k' → K (.ag x.ct) H') :
    Ql prog Qds [.c (.ptr R.l 0), .c (.sl fl 1 (Qab ss)), .c (.int .i64 deep)] H K := by
  have hp1 : 1 ≤ 2^d := Jaw;have hp0 : d < 2^d := Nat.lt_two_pow_self;refine Q0 ?_;refine Qb Qai Qa7l ?_;refine Qa ?_;simp only [go_sem];intro x hx H1 h1;have kn := (Kn.start1 hH (R.o_ne k)).al hx h1;refine Q4 ?_;refine Qa ?_;simp only [go_sem];have rest : ∀ (b : Bool) (H2 : Heap) (k2 : Nat), k ≤ k2 → k2 ≤ k + 1 → Kn H H2 [(R.l, R.o k2)] [(x, .st [.int .i64 0, .int .i64 0, .str [], .sl true 4 []])] → (b = false → 2 ≤ deep) →
      Q8 prog (s_l2Expr_2.seq Q5f) (Qs Qqc (unK H K))
       [(0, V.c (C.ptr R.l 0)), (1, V.c (C.sl fl 1 (Qab ss))), (2, .c (.int .i64 deep)), (6, V.c (C.ptr x 0)), (14, V.c (.bool b))] H2 := by
    intro b H2 k2 hk1 hk2 kn hb;have fin : ∀ (op n : Int) (name : List UInt8) (kids : List Ex) (H3 : Heap) (k3 : Nat) (o : Obj), k < k3 → k3 + 3 ≤ k + 6 * 2^d → Kn H H3 [(R.l, R.o k3)] [(x, .st [.int .i64 op, .int .i64 n, .str name, .sl true 4 (Qy kids)])] →
        (op = 10 → kids.length = 2) → Qcx kids → k + 1 + Qp kids ≤ k3 →
        Q6 Qqc [(6, V.c (C.ptr x 0))] H3 (unK H K) := by
      intro op n name kids H3 k3 o g1 g2 kn g3 g4 g5;have hx3 := kn.l 0 rfl;simp only [go_sem, Q6, Qqc, Jb, forall_eq, RS.op, hx3];refine ⟨_, (Ex.mk op n name kids).frzT, hK _ _ k3 g1 g2 kn.fin ?_ ?_⟩
      · simp only [Ex.ok]; exact ⟨g3, g4⟩
      · simp only [Ex.size]; omega
    refine Qf (Qc rfl ?_ ?_)
    · intro hb';refine Qa ?_;simp only [go_sem];refine Qbd9 (kn.e 0 rfl) (by omega) fun y H3 k3 g1 g2 hu hok hsz => ?_;have kn := kn.callE 0 rfl hu (R.o_ne _);have hx3 := kn.l 0 rfl;simp only [go_sem, Q5g, hx3, Ex.ct];intro H4 h4;have kn := kn.stL 0 rfl h4;refine Qi ?_;simp only [go_sem, Qs];refine fin _ _ _ _ _ k3 .none (by omega) (by omega) kn (Ex.ok_and hok) (Ex.ok_kids hok) ?_;have := y.size_kids; omega
    · intro hb';have hdp := hb hb';have hp : 2^d = 2 * 2^(d-1) := (by rw [← Nat.pow_succ']; congr 1; omega);have hp2 : 1 ≤ 2^(d-1) := Jaw;have ihd := fun {k H K} => @Q68 R fl ss (d-1) k H K;generalize 2^(d-1) = e at *;refine Qe ?_;simp only [go_sem];refine Q4 ?_;refine Qa ?_;simp only [go_sem];refine Qch (kn.e 0 rfl) (by omega) fun v H3 hv hu => ?_;have kn := kn.callE 0 rfl hu (R.o_ne _);simp only [go_sem, Q5h];refine Qf (Qc rfl ?_ ?_)
      · intro hc;refine Qa ?_;simp only [go_sem];refine Qvd (ns := [11, 12, 11]) (kn.e 0 rfl) (by omega) (by simp) fun op H4 hop hu => ?_;have kn := kn.callE 0 rfl hu (R.o_ne _);simp only [go_sem, Q5j];refine ⟨Qo (by omega) (by omega), ?_⟩;refine ihd (deep - 1) (by omega) (kn.e 0 rfl) (by omega) fun y H5 k5 g1 g2 hu hok hsz => ?_;have kn := kn.callE 0 rfl hu (R.o_ne _);have hx5 := kn.l 0 rfl;simp only [go_sem, Q5i, hx5, y.cells_len];intro H6 h6;have kn := kn.stL 0 rfl h6;refine Qi ?_;simp only [go_sem, Qs];refine fin op 0 [] [y] _ k5 .none (by omega) (by omega) kn (fun h => ?_) ⟨hok, trivial⟩ ?_
        · subst h; simp at hop
        · simp only [Qp]; omega
      · intro hc;refine Qe ?_;simp only [go_sem];refine Qa ?_;simp only [go_sem];refine Qvd (ns := [3, 3, 4, 5, 6, 7, 8, 9, 10]) (kn.e 0 rfl) (by omega) (by simp) fun op H4 hop hu => ?_;have kn := kn.callE 0 rfl hu (R.o_ne _);simp only [go_sem, Q5k];refine Qa ?_;simp only [go_sem];refine ⟨Qo (by omega) (by omega), ?_⟩;refine ihd (deep - 1) (by omega) (kn.e 0 rfl) (by omega) fun y H5 k5 g1 g2 hu hok hsz => ?_;have kn := kn.callE 0 rfl hu (R.o_ne _);simp only [go_sem, Q5m];refine ⟨Qo (by omega) (by omega), ?_⟩;refine ihd (deep - 1) (by omega) (kn.e 0 rfl) (by omega) fun z H6 k6 g3 g4 hu hok2 hsz2 => ?_;have kn := kn.callE 0 rfl hu (R.o_ne _);have hx5 := kn.l 0 rfl;simp only [go_sem, Q5l, hx5, y.cells_len, z.cells_len];intro H7 h7;have kn := kn.stL 0 rfl h7;refine Qi ?_;simp only [go_sem, Qs];refine fin op 0 [] [y, z] _ k6 .none (by omega) (by omega) kn (fun h => rfl) ⟨hok, hok2, trivial⟩ ?_;simp only [Qp]; omega
  refine ⟨fun hb => ?_, fun hb => ?_⟩
  · refine Qch (kn.e 0 rfl) (by omega) fun v H2 hv hu => ?_;have kn := kn.callE 0 rfl hu (R.o_ne _);simp only [go_sem, Qmc];refine rest _ H2 (k + 1) (by omega) (by omega) kn ?_;intro h;have : ¬ deep < 2 := (by simpa using hb);omega
  · have hb2 : decide (deep < 2) = true := (by simpa using hb);simp only [go_sem, Qmc, hb2];exact rest true H1 k (by omega) (by omega) kn (fun h => by simp at h)
attribute [local go_sem] cond_true cond_false Bool.not_true Bool.not_false
variable {H H0 F:Heap}{K:V→Heap→Prop}{E B Lg:List (Nat×Obj)}
theorem Qaue {R:Rdr}{k:Nat}{deep:Int}(hd:deep≤7)(hH:H R.l=R.o k)(hk:k+2000≤2^38)
  (hK:∀(x:Ex) (t:C) (Lk:List (Nat×Obj)) (H':Heap) (k':Nat),k<k'→k'≤k+1000→Gt Lk 4 (Qy x.kids) t→Kn H H' [(R.l,R.o k')] Lk→x.size≤2000→K (.ag [.int .i64 x.op,.int .i64 x.n,.str x.name,t]) H') :
  Ql prog Qz9 [.c (.ptr R.l 0),.c (.int .i64 deep)] H K:=by
 refine Qb Qai Qbnh ?_;refine Qa ?_;simp only[go_sem];intro x4 hx4 H1 h1;have kn:=(Kn.start1 hH (R.o_ne k)).al hx4 h1;refine Qa ?_;simp only[go_sem];refine Qbd6 (ss:=[[97],[98],[120],[103,111]]) 7 deep (by omega) (kn.e 0 rfl) (by omega) fun x H2 k2 g1 g2 hu hok hsz=>?_;have kn:=kn.callE 0 rfl hu (R.o_ne _);have hxz:=hsz;simp only[go_sem,Qas5,Ex.ct];intro x5 hx5 H3 h3;have kn:=kn.al hx5 h3;have g5:=kn.l 1 rfl;simp only[go_sem,Qas4,g5];intro H4 h4;have kn:=kn.stL 1 rfl h4;refine Q4 ?_;refine Qa ?_;simp only[go_sem];refine Qch (kn.e 0 rfl) (by omega) fun v H5 hv hu=>?_;have kn:=kn.callE 0 rfl hu (R.o_ne _);have g5:=kn.l 1 rfl;have g4:=kn.l 0 rfl;simp only[go_sem,Qas6];refine Qf (Qc rfl ?_ ?_)
 ·intro hc;refine Qa ?_;simp only[go_sem,g5,g4];intro H6 h6;have kn:=kn.stL 0 rfl h6;have g4:=kn.l 0 rfl;refine Qi ?_;simp only[go_sem,AE.X.next,Qs,Q6,Qm7,Jb,forall_eq,RS.op,g4];exact hK x _ [] _ (k2+1) (by omega) (by omega) (.inl ⟨rfl,rfl⟩) (Kn.drop (A:=[]) kn) (by omega)
 intro hc;refine Qe ?_;try simp only[go_sem]
 refine Qa ?_;simp only[go_sem];refine of_c (ss:=[[102],[103],[97]]) (kn.e 0 rfl) (by omega) (by simp) fun nm H6 hv2 hu=>?_;have kn:=kn.callE 0 rfl hu (R.o_ne _);simp only[go_sem,Qas8];intro x6 hx6 H7 h7;have kn:=kn.al hx6 h7;have g6:=kn.l 2 rfl;simp only[go_sem,Qas7,g6];intro H8 h8;have kn:=kn.stL 2 rfl h8;refine Q4 ?_;refine Qa ?_;simp only[go_sem];refine Qch (kn.e 0 rfl) (by omega) fun cnt H9 hcnt hu=>?_;have kn:=kn.callE 0 rfl hu (R.o_ne _);rw[if_neg (by omega)]at hcnt;obtain⟨cj,rfl⟩:=Jy hcnt.1;simp only[go_sem,Qas9];refine Qf (Qd (Qw (fun m e1 H1=>∃(j:Nat) (ks:List Ex) (Lk:List (Nat×Obj)) (t:C) (k3:Nat),m=j∧ks.length+j≤3∧k2+3≤k3∧k3+30 * j≤k2+103∧Gr Lk 4 (Qy ks) t∧Qp ks≤ks.length * 100∧
   Kn H H1 [(R.l,R.o k3)] ([(x4,exO 0 0 [] (.sl true 4 [])),(x5,exO x.op x.n x.name (.sl true 4 (Qy x.kids))),(x6,exO 13 0 nm t)]++Lk)∧
   e1=[(0,.c (.ptr R.l 0)),(4,.c (.ptr x4 0)),(5,.c (.ptr x5 0)),(6,.c (.ptr x6 0)),(7,.c (.int .i64 j))]) cj ?_ ?_))
 ·exact⟨cj,[],[],.sl true 4 [],k2+3,by omega,by simp;omega,by omega,by omega,.nil 4,by simp[Qp],kn,rfl⟩
 ·clear kn g6 g5 g4 h8 h7;rintro m e1 H10 ⟨j,ks,Lk,t,k3,hm,hj,hk3,hk4,hgk,hks,kn,rfl⟩;have hto:=hgk.isOw;have g6:=kn.l 2 rfl;refine Q4 ?_;refine Qa ?_;simp only[go_sem];refine Qf (Qc rfl ?_ ?_)
  ·intro hc2;have hj0:0<j:=by simpa using hc2
   refine Qe ?_;try simp only[go_sem]
   refine Qf (Qd ?_);refine Qeb ?_;simp only[go_sem,g6,hto];refine Q68 (ss:=[[97],[98]]) 2 2 (by omega) (kn.e 0 rfl) (by omega) fun y H11 k4 g1 g2 hu hok2 hsz2=>?_;have kn:=kn.callE 0 rfl hu (R.o_ne _);have g6:=kn.l 2 rfl;simp only[go_sem,Qatb,g6,hto,y.cells_len];refine Kn.growR (B:=[_,_,_]) kn hgk (new:=[y.cells]) (.mk' _ true 4 _) (by simpa using y.noOw) (by simp only[Qn,Jk,Jh,LIM];omega) fun t' Lk' H12 hgk' hto' kn=>?_;rw[Qg7]at hgk';have g6:=kn.l 2 rfl;simp only[go_sem,Qata,g6,hto'];intro H13 h13;have kn:=kn.stL 2 rfl h13;try simp only[go_sem,AE.X.next]
   refine Qq ?_;try simp only[go_sem,AE.X.next]
   refine⟨Qo (by omega) (by omega),j-1,by omega,j-1,ks++[y],Lk',t',k4,rfl,by simp;omega,by omega,by omega,hgk',?_,kn,?_⟩
   ·rw[Qey];simp only[Qp,Jag,Jk,Jh];omega
   ·have:((j:Int)-1)=((j-1:Nat):Int):=(by omega);rw[this]
  ·intro hc2;have g4:=kn.l 0 rfl;have g5:=kn.l 1 rfl;refine Qv ?_;simp only[go_sem,AE.X.next];refine Q4 ?_;refine Qa ?_;simp only[go_sem];refine Qch (kn.e 0 rfl) (by omega) fun v3 H11 hv3 hu=>?_;have kn:=kn.callE 0 rfl hu (R.o_ne _);have g4:=kn.l 0 rfl;have g5:=kn.l 1 rfl;have g6:=kn.l 2 rfl;simp only[go_sem,Qajt];refine Qf (Qc rfl ?_ ?_)
   ·intro hc3;refine Qa ?_;simp only[go_sem,g6,g4,hto];intro H12 h12;have kn:Kn H H12 [(R.l,R.o (k3+1))] ([(x4,exO 13 0 nm t),(x5,exO x.op x.n x.name (.sl true 4 (Qy x.kids))),(x6,exO 13 0 nm t)]++Lk):=kn.stL 0 rfl h12;have g4:=kn.l 0 rfl;refine Qi ?_;simp only[go_sem,AE.X.next,Qs,Q6,Qm7,Jb,forall_eq,RS.op,g4,hto];refine hK (.mk 13 0 nm ks) t Lk _ (k3+1) (by omega) (by omega) (.inr hgk) (kn.sub (List.sublist_append_right _ _)) ?_;simp only[Ex.size];omega
   ·intro hc3;refine Qe ?_;try simp only[go_sem]
    have f1:FrzC H11 (fun m=>(Lk.map Prod.fst).contains m) t (.sl false 4 (Qy ks)):=Gr.frzm hgk (fun p hp=>⟨(kn.get p (Ja _ (Ja _ hp))).1,Qbms hp⟩) (FrzR.same (Qbs _));have o5:=kn.frzS_out (p:=(x5,exO x.op x.n x.name (.sl true 4 (Qy x.kids)))) (by simp);have o6:=kn.frzS_out (p:=(x6,exO 13 0 nm t)) (by simp);have kz:=(kn.frzN.setL 1 (o':=exO x.op x.n x.name (.sl false 4 (Qy x.kids))) rfl (by nofun)).setL 2 (o':=exO 13 0 nm (.sl false 4 (Qy ks))) rfl (by nofun);have hfz:=((Q0e H11 (fun m=>(Lk.map Prod.fst).contains m)).set (o:=exO x.op x.n x.name (.sl false 4 (Qy x.kids))) o5 (by
     show FrzO H11 _ (H11 x5) _;rw[g5];exact FrzKL.st (.same (.same (.same (.cons rfl (FrzR.same (Qbs _)).sl .nil))))) ).set (o:=exO 13 0 nm (.sl false 4 (Qy ks))) o6 (by
     show FrzO H11 _ (H11 x6) _;rw[g6];exact FrzKL.st (.same (.same (.same (.cons hto f1 .nil)))))
    refine c_gh (Qhc _ (Qbdn ?_) hfz) (e':=[(4,.c (.ptr x4 0)),(5,.c (.ptr x5 0)),(6,.c (.ptr x6 0))]) ?_
    ·intro p hp;simp only[Jr,J4,or_false]at hp;rcases hp with rfl|rfl|rfl <;> exact .c _ _ (.same _ rfl)
    have g4:=kz.l 0 rfl;have g5:=kz.l 1 rfl;have g6:=kz.l 2 rfl;refine Qa ?_;simp only[go_sem,g4,g5,g6];intro H12 h12;have kz:=kz.stL 0 rfl h12;have g4:=kz.l 0 rfl;refine Qi ?_;simp only[go_sem,AE.X.next,Qs,Q6,Qm7,Jb,forall_eq,RS.op,g4];refine hK (.mk 3 0 [] [x,.mk 13 0 nm ks]) _ [] _ (k3+1) (by omega) (by omega) (.inl ⟨?_,rfl⟩) (Kn.drop (A:=[]) kz) ?_
    ·show C.sl true 4 _=C.sl true 4 (Qy [x,.mk 13 0 nm ks]);simp only[Qy,Ex.cells_eq];rfl
    ·simp only[Ex.size,Qp];omega
theorem Qbm7 {R:Rdr}{k:Nat}{deep:Int}(hd:deep≤7)(hH:H R.l=R.o k)(hk:k+2000≤2^38)
  (hK:∀(x:Ex) (H':Heap) (k':Nat),k<k'→k'≤k+1000→Upd H H' [(R.l,R.o k')]→x.size≤2000→K (.ag x.cells) H') :
  Ql prog Qz9 [.c (.ptr R.l 0),.c (.int .i64 deep)] H K:=by
 refine Q0 (Qaue hd hH hk fun x t Lk H' k' h1 h2 hg kn hsz=>?_);have:=hK x (H'.frz (un H)) k' h1 h2 kn.fin hsz;rw[x.cells_eq]at this;exact⟨_,(FrzL.cons (Qg rfl) (.cons (Qg rfl) (.cons (Qg rfl) (.cons (hg.frz (B:=[]) kn (Qbs _)) .nil)))).ag,this⟩
theorem Qbiz {R:Rdr}{k:Nat}(hH:H R.l=R.o k)(hk:k+8000≤2^38)
  (hK:∀(x:Ex) (H':Heap) (k':Nat),k<k'→k'≤k+3000→Upd H H' [(R.l,R.o k')]→x.size≤4000→K (.ag x.cells) H') :
  Ql prog Qag9 [.c (.ptr R.l 0)] H K:=by
 refine Q0 ?_;refine Qb Qai Qbja ?_;refine Qa ?_;simp only[go_sem];intro x2 hx2 H1 h1;have kn:=(Kn.start1 hH (R.o_ne k)).al hx2 h1;refine Qa ?_;simp only[go_sem];refine Qaue (by omega) (kn.e 0 rfl) (by omega) fun x t Lk H2 k2 g1 g2 hg k2n hsz=>?_;have hto:=hg.isOw;have kn:Kn H H2 [(R.l,R.o k2)] ([(x2,exO 0 0 [] (.sl true 4 []))]++Lk):=kn.addNewE 0 rfl k2n;simp only[go_sem,Qajw,hto];intro x3 hx3 H3 h3;have kn:Kn H H3 [(R.l,R.o k2)] ([(x2,exO 0 0 [] (.sl true 4 [])),(x3,exO 0 0 [] (.sl true 4 []))]++Lk):=(kn.al hx3 h3).perm (.cons _ (Jn (l₁:=Lk)));have g3:=kn.l 1 rfl;simp only[go_sem,Qajv,g3,hto];intro H4 h4;have kn:Kn H H4 [(R.l,R.o k2)] ([(x2,exO 0 0 [] (.sl true 4 [])),(x3,exO x.op x.n x.name t)]++Lk):=kn.stL 1 rfl h4;refine Q4 ?_;refine Qa ?_;simp only[go_sem];refine Qch (kn.e 0 rfl) (by omega) fun v H5 hv hu=>?_;have kn:Kn H H5 [(R.l,R.o (k2+1))] ([(x2,exO 0 0 [] (.sl true 4 [])),(x3,exO x.op x.n x.name t)]++Lk):=kn.callE 0 rfl hu (R.o_ne _);simp only[go_sem];have fin:∀(y:Ex) (t:C) (Lk:List (Nat×Obj)) (H6:Heap) (e6:Env) (k6:Nat),Gt Lk 4 (Qy y.kids) t→y.size≤4000→k<k6→k6≤k+3000→Kn H H6 [(R.l,R.o k6)] ([(x2,exO 0 0 [] (.sl true 4 [])),(x3,exO y.op y.n y.name t)]++Lk)→lk 2 e6=.c (.ptr x2 0)→lk 3 e6=.c (.ptr x3 0)→
   Q8 prog Qaju (Qs Qacd (unK H K)) e6 H6:=by
  intro y t Lk H6 e6 k6 hg hsz a1 a2 kn f2 f3;have hto:=hg.isOw;have g2:=kn.l 0 rfl;have g3:=kn.l 1 rfl;refine Qa ?_;simp only[go_sem,f2,f3,g2,g3,hto];intro H7 h7;have kn:=kn.stL 0 rfl h7;have g2:=kn.l 0 rfl;refine Qi ?_;simp only[go_sem,Qs,Q6,Qacd,Jb,forall_eq,RS.op,g2,hto];have:=hK y _ k6 a1 a2 kn.fin hsz;rw[y.cells_eq]at this;exact⟨_,(FrzL.cons (Qg rfl) (.cons (Qg rfl) (.cons (Qg rfl) (.cons (hg.frz (B:=[_,_]) kn (Qbs _)) .nil)))).ag,this⟩
 have hxs:=x.size_kids;refine Qf (Qd ?_);refine Qa ?_;simp only[go_sem];have g3:=kn.l 1 rfl;refine Qc rfl ?_ ?_
 ·intro hc;refine Qq ?_;simp only[go_sem];refine Qvd (ns:=[-1,256,3]) (kn.e 0 rfl) (by omega) (by simp) fun w H6 hw hu=>?_;have kn:=kn.callE 0 rfl hu (R.o_ne _);have g3:=kn.l 1 rfl;simp only[go_sem,Qajx,g3,hto];intro H7 h7;have kn:=kn.stL 1 rfl h7;try simp only[go_sem,AE.X.next]
  exact fin (.mk x.op w x.name x.kids) t Lk _ _ (k2+1+1) hg (by simp only[Ex.size];omega) (by omega) (by omega) kn rfl rfl
 intro hc;refine Qa ?_;simp only[go_sem];refine Qc rfl ?_ ?_
 ·intro hc;refine Qq ?_;simp only[go_sem];refine of_c (ss:=[[],[100,111],[65],[97,98,99,100,101],[113]]) (kn.e 0 rfl) (by omega) (by simp) fun w H6 hw hu=>?_;have kn:=kn.callE 0 rfl hu (R.o_ne _);have g3:=kn.l 1 rfl;simp only[go_sem,Qajy,g3,hto];intro H7 h7;have kn:=kn.stL 1 rfl h7;try simp only[go_sem,AE.X.next]
  exact fin (.mk x.op x.n w x.kids) t Lk _ _ (k2+1+1) hg (by simp only[Ex.size];omega) (by omega) (by omega) kn rfl rfl
 intro hc;refine Qa ?_;simp only[go_sem];refine Qc rfl ?_ ?_
 ·intro hc;refine Qq ?_;simp only[go_sem];refine Qvd (ns:=[0,14,-1,5,11]) (kn.e 0 rfl) (by omega) (by simp) fun w H6 hw hu=>?_;have kn:=kn.callE 0 rfl hu (R.o_ne _);have g3:=kn.l 1 rfl;simp only[go_sem,Qajz,g3,hto];intro H7 h7;have kn:=kn.stL 1 rfl h7;try simp only[go_sem,AE.X.next]
  exact fin (.mk w x.n x.name x.kids) t Lk _ _ (k2+1+1) hg (by simp only[Ex.size];omega) (by omega) (by omega) kn rfl rfl
 intro hc;refine Qa ?_;simp only[go_sem];refine Qc rfl ?_ ?_
 ·intro hc;refine Qeb ?_;simp only[go_sem,g3,hto];refine Qa7d (ss:=[]) (kn.e 0 rfl) (by omega) fun y H6 k6 b1 b2 hu hok hys=>?_;have kn:=kn.callE 0 rfl hu (R.o_ne _);have g3:=kn.l 1 rfl;have hkl:=Qa19 x.kids;simp only[go_sem,Qaj1,g3,hto,y.cells_len];refine Kn.growT (B:=[_,_]) kn hg (new:=[y.cells]) (.mk' _ true 4 _) (by simp) (Qbs _) (by simpa using y.noOw) (by simp only[Qn,Jk,Jh,LIM];omega) fun t' Lk' H7 hg' hto' kn=>?_;rw[Qg7]at hg';have g3:=kn.l 1 rfl;simp only[go_sem,Qaj0,g3,hto'];intro H8 h8;have kn:=kn.stL 1 rfl h8;try simp only[go_sem,AE.X.next]
  exact fin (.mk x.op x.n x.name (x.kids++[y])) t' Lk' _ _ k6 (.inr hg') (by simp only[Ex.size,Qey,Qp];omega) (by omega) (by omega) kn rfl rfl
 intro hc;refine Qa ?_;simp only[go_sem];refine Qc rfl ?_ ?_
 ·intro hc;refine Qq ?_;simp only[go_sem];have kn:=Kn.drop (A:=[(x2,exO 0 0 [] (.sl true 4 [])),(x3,exO x.op x.n x.name t)]) kn;refine Qaue (by omega) (kn.e 0 rfl) (by omega) fun y t2 Lk2 H6 k6 b1 b2 hg2 k2n hsz2=>?_;have hto2:=hg2.isOw;have kn:Kn H H6 [(R.l,R.o k6)] ([(x2,exO 0 0 [] (.sl true 4 [])),(x3,exO x.op x.n x.name t)]++Lk2):=kn.addNewE 0 rfl k2n;have g3:=kn.l 1 rfl;simp only[go_sem,Qaj2,g3,hto,hto2];intro H7 h7;have kn:Kn H H7 [(R.l,R.o k6)] ([(x2,exO 0 0 [] (.sl true 4 [])),(x3,exO y.op y.n y.name t2)]++Lk2):=kn.stL 1 rfl h7;try simp only[go_sem,AE.X.next]
  exact fin y t2 Lk2 _ _ k6 hg2 (by omega) (by omega) (by omega) kn rfl rfl
 ·intro hc;refine Qe ?_;try simp only[go_sem,AE.X.next]
  exact fin x t Lk _ _ (k2+1) hg (by omega) (by omega) (by omega) kn rfl rfl
end Go.AE.Y
namespace Go.AE
variable {H0 H:Heap}{E B Lg:List (Nat×Obj)}{sz:Nat}{rows rows':List (List C)}{c c':C}{S:Nat→Bool}
def Fz (Lg:List (Nat×Obj))(c c':C):Prop:=c.isOw=false∧∀(H:Heap) (S:Nat→Bool),(∀p∈Lg,H p.1=p.2∧S p.1=true)→FrzC H S c c'
theorem Fz.same (h:c.isOw=false):Fz [] c c:=⟨h,fun H S _=>.same _ h⟩
def PR (rows rows':List (List C)):Prop:=(∀r∈rows,noOw r=true)∧∀(H:Heap) (S:Nat→Bool),Y.FrzR H S rows rows'
theorem PR.app {a b a' b':List (List C)}(h:PR a a')(k:PR b b'):PR (a++b) (a'++b'):=⟨Y.noOw_app h.1 k.1,fun H S=>(h.2 H S).app (k.2 H S)⟩
theorem PR.len (h:PR rows rows'):rows.length=rows'.length:=((h.2 (fun _=>.none) fun _=>false).spec.1).symm
theorem PR.fz (h:PR rows rows')(hg:Gr Lg sz rows c):Fz Lg c (.sl false sz rows'):=⟨hg.isOw,fun H S hm=>Gr.frzm hg hm (h.2 H S)⟩
theorem PR.sl (h:PR rows rows')(fl:Bool):Fz [] (.sl fl sz rows) (.sl false sz rows'):=⟨rfl,fun H S _=>(h.2 H S).sl⟩
theorem Qa6u {r r':List C}:∀{rows rows':List (List C)} (i:Nat),Y.FrzR H S rows rows'→FrzL H S r r'→Y.FrzR H S (rows.set i r) (rows'.set i r')
 |_,_,_,.nil,_=>.nil
 |_,_,0,.cons h t,k=>.cons k t
 |_,_,i+1,.cons h t,k=>.cons h (Qa6u i t k)
end Go.AE
namespace Go.AE.Y
attribute [local go_sem] cond_true cond_false Bool.not_true Bool.not_false
open Go.Proofs.Tryz
variable {H H0 F:Heap}{K:V→Heap→Prop}{E B Lg:List (Nat×Obj)}
theorem PR.sts (l:List St):PR (Qm l) (Qm l):=⟨Qbt l,fun H S=>FrzR.same (Qbt l)⟩
theorem Qvf:∀(l:List Fn) (i:Nat) (f:Fn),Qt (l.set i f)≤Qt l+Qh f.body
 |[],i,f=>by simp[Qt]
 |x::r,0,f=>by simp only[Jav,Qt];omega
 |x::r,i+1,f=>by have:=Qvf r i f;simp only[Jau,Qt];omega
theorem Qbe9 {op:Int}{nm:List UInt8}{a:C}{ars:List Ex}(ha:a.isOw=false)(hf:∀(H:Heap) (S:Nat→Bool),FrzC H S a (.sl false 4 (Qy ars))) :
  PR [[.int .i64 op,.str nm,a,.sl true 5 [],.sl true 5 []]] (Qm [.mk op nm ars [] []]):=by
 refine⟨fun r hr=>by simp only[Jb]at hr;subst hr;simp only[noOw,Jac,Jaf,Q67,Q0f,Qahj,ha];rfl,fun H S=>?_⟩;simp only[Qm,St.cells_eq,St.op,St.name,St.args,St.body,St.els];exact .cons (.cons (Qg rfl) (.cons (Qg rfl) (.cons (hf H S) (.cons FrzR.nil.sl (.cons FrzR.nil.sl .nil))))) .nil
abbrev a0C:C:=.sl true 4 [[.int .i64 1,.int .i64 0,.str [],.sl true 4 []]]
theorem Qa20 (n:Int)(H:Heap)(S:Nat→Bool):FrzC H S (.sl true 4 [[.int .i64 1,.int .i64 n,.str [],.sl true 4 []]]) (.sl false 4 (Qy [.mk 1 n [] []])):=by
 simp only[Qy,Ex.cells_eq,Ex.op,Ex.n,Ex.name,Ex.kids];exact (FrzR.cons (.cons (Qg rfl) (.cons (Qg rfl) (.cons (Qg rfl) (.cons FrzR.nil.sl .nil)))) .nil).sl
theorem Qbi4 {R:Rdr}{k:Nat}(hH:H R.l=R.o k)(hk:k+7100000≤2^30)
  (hK:∀(l:List Fn) (H':Heap) (k':Nat),k<k'→k'≤k+7010000→Upd H H' [(R.l,R.o k')]→Qt l≤2^36→K (.ag [.sl false 3 (Q1 l)]) H') :
  Ql prog Qahb [.c (.ptr R.l 0)] H K:=by
 refine Q0 ?_;refine Qb Qai Qbjd ?_;refine Qa ?_;simp only[go_sem];intro x2 hx2 H1 h1;have kn:=(Kn.start1 hH (R.o_ne k)).al hx2 h1;refine Qa ?_;simp only[go_sem];refine Qa7f (kn.e 0 rfl) (by omega) fun l H2 k2 g1 g2 hu hpr=>?_;have kn:=kn.callE 0 rfl hu (R.o_ne _);have hpos:=hpr.pos;have hl4:=hpr.len;have hsz:=hpr.size;have e1:(l.length:Int)-1=((l.length-1:Nat):Int):=by omega
 have hl1:l.length-1<l.length:=by omega
 obtain⟨f,hfe⟩:∃f,l[l.length-1]=f:=⟨_,rfl⟩;have hfm:f∈l:=by rw[←hfe];exact Jj hl1
 have hfs:=Qbb hfm;have hfl:=Qb8 f.body;have hfp:=hpr.par f hfm;simp only[go_sem,Qaj9];intro x3 hx3 H3 h3;have kn:=kn.al hx3 h3;have g3:=kn.l 1 rfl;simp only[go_sem,Qaj8,g3];intro H4 h4;have kn:=kn.stL 1 rfl h4;have g3:=kn.l 1 rfl;refine Qa ?_;simp only[go_sem,g3,e1,hl1,Qz,Qat _ _ hl1,hfe,Fn.cells];try intro _
 refine⟨Qo (by omega) (by omega),?_⟩;intro x4 hx4 H5 h5;have kn:=kn.al hx4 h5;have g4:=kn.l 2 rfl;simp only[go_sem,Qaka,g4];intro H6 h6;have kn:=kn.stL 2 rfl h6;refine Q4 ?_;refine Qa ?_;simp only[go_sem];refine Qch (kn.e 0 rfl) (by omega) fun v H7 hv hu=>?_;have kn:Kn H H7 [(R.l,R.o (k2+1))] ([(x2,.st [.sl true 3 []]),(x3,.st [.sl false 3 (Q1 l)]),(x4,fnO f)]++[]):=kn.callE 0 rfl hu (R.o_ne _);simp only[go_sem];have fin:∀(nm:List UInt8) (ps:List (List UInt8)) (body:List St) (pc bc:C) (Lp Lb:List (Nat×Obj)) (H8:Heap) (e8:Env) (k8:Nat),Fz Lp pc (.sl false 1 (Qab ps))→Fz Lb bc (.sl false 5 (Qm body))→Qh body≤Qh f.body+100000→k<k8→k8≤k+7010000→
   Kn H H8 [(R.l,R.o k8)] ([(x2,.st [.sl true 3 []]),(x3,.st [.sl false 3 (Q1 l)]),(x4,.st [.str nm,pc,bc])]++(Lp++Lb))→lk 2 e8=.c (.ptr x2 0)→lk 3 e8=.c (.ptr x3 0)→lk 4 e8=.c (.ptr x4 0)→
   Q8 prog Qaj7 (Qs Qa74 (unK H K)) e8 H8:=by
  intro nm ps body pc bc Lp Lb H8 e8 k8 hp hb hbs a1 a2 kn f2 f3 f4;have hpo:=hp.1;have hbo:=hb.1;have g3:=kn.l 1 rfl;refine Qa ?_;simp only[go_sem,f2,f3,f4,g3,Qz,hpo,hbo];refine⟨.inl trivial,Qd5 _,by simp only[LIM];omega,fun z hz H9 h9=>?_⟩;have kn:Kn H H9 [(R.l,R.o k8)] ([(x2,.st [.sl true 3 []]),(x3,.st [.sl false 3 (Q1 l)]),(x4,.st [.str nm,pc,bc]),(z,.vec 3 ([]++Q1 l))]++(Lp++Lb)):=(kn.al hz h9).perm (.cons _ (.cons _ (.cons _ (Jn (l₁:=Lp++Lb)))));have gz:=kn.l 3 rfl;have g4:=kn.l 2 rfl;simp only[go_sem,Qac3,f2,f3,f4];refine Qa ?_;simp only[go_sem,gz,g4,e1,hl1,hpo,hbo,Qz,Qat _ _ hl1,hfe,Fn.cells,Jz,Ju];try intro _
  refine⟨Qo (by omega) (by omega),?_⟩;intro H10 h10;have kn:Kn H H10 [(R.l,R.o k8)] ([(x2,.st [.sl true 3 []]),(x3,.st [.sl false 3 (Q1 l)]),(x4,.st [.str nm,pc,bc]),(z,.vec 3 ((Q1 l).set (l.length-1) [.str nm,pc,bc]))]++(Lp++Lb)):=kn.stL 3 rfl h10;have g2:=kn.l 0 rfl;have gz:=kn.l 3 rfl;refine Qa ?_;simp only[go_sem,g2];intro H11 h11;have kn:Kn H H11 [(R.l,R.o k8)] ([(x2,.st [.vsl z 3 0 l.length]),(x3,.st [.sl false 3 (Q1 l)]),(x4,.st [.str nm,pc,bc]),(z,.vec 3 ((Q1 l).set (l.length-1) [.str nm,pc,bc]))]++(Lp++Lb)):=kn.stL 0 rfl h11;have g2:=kn.l 0 rfl;have gz:=kn.l 3 rfl;refine Qi ?_;simp only[go_sem,Qs,Q6,Qa74,Jb,forall_eq,RS.op,g2];have hun:∀p∈Lp++Lb,H11 p.1=p.2∧un H p.1=true:=fun p hp=>⟨(kn.get p (Ja _ (Ja _ hp))).1,Qn7 (kn.loc p (Ja _ hp))⟩;have hfr:FrzR H11 (un H) ((Q1 l).set (l.length-1) [.str nm,pc,bc]) (Q1 (l.set (l.length-1) ⟨nm,ps,body⟩)):=by
   have:Q1 (l.set (l.length-1) ⟨nm,ps,body⟩)=(Q1 l).set (l.length-1) (Fn.cells ⟨nm,ps,body⟩):=by simp[Q1,Jam]
   rw[this];exact Qa6u _ (FrzR.same (Qd5 l)) (.cons (Qg rfl) (.cons (hp.2 _ _ fun p hp=>hun p (Jc _ hp)) (.cons (hb.2 _ _ fun p hp=>hun p (Ja _ hp)) .nil)))
  have hps:=Qvf l (l.length-1) ⟨nm,ps,body⟩;refine⟨_,(FrzL.cons (FrzR.vsl (Qn7 (kn.free 3 rfl)) ?_ ?_ hfr) .nil).ag,hK _ _ k8 a1 a2 kn.fin ?_⟩
  ·exact gz
  ·simp[Qz]
  ·simp only at hps;omega
 have fz0:Fz [] (.sl false 1 (Qab f.params)) (.sl false 1 (Qab f.params)):=.same rfl;have fzb:Fz [] (.sl false 5 (Qm f.body)) (.sl false 5 (Qm f.body)):=.same rfl;have g4:=kn.l 2 rfl;refine Qf (Qd ?_);refine Qa ?_;simp only[go_sem];refine Qc rfl (fun hc=>?_) (fun hc=>?_)
 ·refine Qq ?_;simp only[go_sem];refine of_c (ss:=[[102],[100,111],[],[103]]) (kn.e 0 rfl) (by omega) (by simp) fun w H8 hw hu=>?_;have kn:=kn.callE 0 rfl hu (R.o_ne _);have g4:=kn.l 2 rfl;simp only[go_sem,Qakb,g4];intro H9 h9;have kn:=kn.stL 2 rfl h9;try simp only[go_sem,AE.X.next]
  exact fin w f.params f.body _ _ [] [] _ _ (k2+1+1) fz0 fzb (by omega) (by omega) (by omega) kn rfl rfl rfl
 refine Qa ?_;simp only[go_sem];refine Qc rfl (fun hc=>?_) (fun hc=>?_)
 ·refine Qq ?_;simp only[go_sem,g4,Qr];refine⟨.inl trivial,Qc7 _,by simp only[LIM];omega,fun z hz H8 h8=>?_⟩;have kn:=kn.al hz h8;have hg0:Gr [(z,.vec 1 ([]++Qab f.params))] 1 (Qab f.params) (.vsl z 1 0 (0+f.params.length)):=Gr.mk z 1 (Qab f.params) (by rw[Qr];omega);generalize C.vsl z 1 0 (0+f.params.length)=cz at hg0⊢;have hczo:=hg0.isOw;simp only[go_sem,Qake,hczo];refine of_c (ss:=[[97],[120],[105,102]]) (kn.e 0 rfl) (by omega) (by simp) fun w H9 hw hu=>?_;have kn:Kn H H9 [(R.l,R.o (k2+1+1))] ([(x2,.st [.sl true 3 []]),(x3,.st [.sl false 3 (Q1 l)]),(x4,fnO f)]++[(z,.vec 1 ([]++Qab f.params))]):=kn.callE 0 rfl hu (R.o_ne _);simp only[go_sem,Qakd,hczo];refine Kn.growR (B:=[_,_,_]) (rows:=Qab f.params) kn hg0 (new:=[[.str w]]) (.mk' _ true 1 _) (by simp[noOw,C.isOw]) (by simp only[Qr,Jk,Jh,LIM];omega) fun t Lt H10 hgt hto kn=>?_;rw[Q6t]at hgt;have g4:=kn.l 2 rfl;simp only[go_sem,Qakc,g4,hto];intro H11 h11;have kn:=kn.stL 2 rfl h11;try simp only[go_sem,AE.X.next]
  refine fin f.name (f.params++[w]) f.body t _ Lt [] _ _ (k2+1+1) ⟨hto,fun H S hm=>Gr.frzm hgt hm (FrzR.same (Qc7 _))⟩ fzb (by omega) (by omega) (by omega) ?_ rfl rfl rfl;rw[J3];exact kn
 refine Qa ?_;simp only[go_sem];refine Qc rfl (fun hc=>?_) (fun hc=>?_)
 ·refine Qq ?_;simp only[go_sem,g4,Qu];refine⟨.inl trivial,Qbt _,by simp only[LIM];omega,fun z hz H8 h8=>?_⟩;have kn:=kn.al hz h8;have hg0:Gr [(z,.vec 5 ([]++Qm f.body))] 5 (Qm f.body) (.vsl z 5 0 (0+f.body.length)):=Gr.mk z 5 (Qm f.body) (by rw[Qu];omega);generalize C.vsl z 5 0 (0+f.body.length)=cz at hg0⊢;have hczo:=hg0.isOw;simp only[go_sem,Qakh,hczo];refine Qbiz (kn.e 0 rfl) (by omega) fun x H9 k9 b1 b2 hu hxs=>?_;have kn:Kn H H9 [(R.l,R.o k9)] ([(x2,.st [.sl true 3 []]),(x3,.st [.sl false 3 (Q1 l)]),(x4,fnO f)]++[(z,.vec 5 ([]++Qm f.body))]):=kn.callE 0 rfl hu (R.o_ne _);simp only[go_sem,Qakg,x.cells_len,hczo];have hpr:=(PR.sts f.body).app (Qbe9 (op:=3) (nm:=[]) (a:=.sl true 4 [x.cells]) (ars:=[x]) rfl fun H S=>by
   simp only[Qy];exact (FrzR.cons (.same x.noOw) .nil).sl)
  refine Kn.growR (B:=[_,_,_]) (rows:=Qm f.body) kn hg0 (new:=[[.int .i64 3,.str [],.sl true 4 [x.cells],.sl true 5 [],.sl true 5 []]]) (.mk' _ true 5 _) (by simp[noOw,C.isOw]) (by simp only[Qu,Jk,Jh,LIM];omega) fun t Lt H10 hgt hto kn=>?_;have g4:=kn.l 2 rfl;simp only[go_sem,Qakf,g4,hto];intro H11 h11;have kn:=kn.stL 2 rfl h11;try simp only[go_sem,AE.X.next]
  have hfz:=hpr.fz hgt;rw[Qmn]at hfz;exact fin f.name f.params (f.body++[.mk 3 [] [x] [] []]) _ t [] Lt _ _ k9 fz0 hfz (by simp only[Qbm,Qh,St.size,Qp];omega) (by omega) (by omega) kn rfl rfl rfl
 refine Qa ?_;simp only[go_sem];refine Qc rfl (fun hc=>?_) (fun hc=>?_)
 ·refine Qq ?_;simp only[go_sem,g4,Qu];refine⟨.inl trivial,Qbt _,by simp only[LIM];omega,fun z hz H8 h8=>?_⟩;have kn:=kn.al hz h8;have hg0:Gr [(z,.vec 5 ([]++Qm f.body))] 5 (Qm f.body) (.vsl z 5 0 (0+f.body.length)):=Gr.mk z 5 (Qm f.body) (by rw[Qu];omega);generalize C.vsl z 5 0 (0+f.body.length)=cz at hg0⊢;have hczo:=hg0.isOw;simp only[go_sem,Qacs,hczo];refine Qch (kn.e 0 rfl) (by omega) fun op H9 hop hu=>?_;have kn:=kn.callE 0 rfl hu (R.o_ne _);simp only[go_sem,Qacr,hczo];refine of_c (ss:=[[],[97],[122,122]]) (kn.e 0 rfl) (by omega) (by simp) fun w H10 hw hu=>?_;have kn:=kn.callE 0 rfl hu (R.o_ne _);simp only[go_sem,Qacq,hczo];refine Qbm7 (by omega) (kn.e 0 rfl) (by omega) fun x H11 k9 b1 b2 hu hxs=>?_;have kn:Kn H H11 [(R.l,R.o k9)] ([(x2,.st [.sl true 3 []]),(x3,.st [.sl false 3 (Q1 l)]),(x4,fnO f)]++[(z,.vec 5 ([]++Qm f.body))]):=kn.callE 0 rfl hu (R.o_ne _);simp only[go_sem,Qacp,x.cells_len,hczo];have hpr:=(PR.sts f.body).app (Qbe9 (op:=op) (nm:=w) (a:=.sl true 4 [x.cells]) (ars:=[x]) rfl fun H S=>by
   simp only[Qy];exact (FrzR.cons (.same x.noOw) .nil).sl)
  refine Kn.growR (B:=[_,_,_]) (rows:=Qm f.body) kn hg0 (new:=[[.int .i64 op,.str w,.sl true 4 [x.cells],.sl true 5 [],.sl true 5 []]]) (.mk' _ true 5 _) (by simp[noOw,C.isOw]) (by simp only[Qu,Jk,Jh,LIM];omega) fun t Lt H12 hgt hto kn=>?_;have g4:=kn.l 2 rfl;simp only[go_sem,Qaco,g4,hto];intro H13 h13;have kn:=kn.stL 2 rfl h13;try simp only[go_sem,AE.X.next]
  have hfz:=hpr.fz hgt;rw[Qmn]at hfz;exact fin f.name f.params (f.body++[.mk op w [x] [] []]) _ t [] Lt _ _ k9 fz0 hfz (by simp only[Qbm,Qh,St.size,Qp];omega) (by omega) (by omega) kn rfl rfl rfl
 refine Qa ?_;simp only[go_sem];refine Qc rfl (fun hc=>?_) (fun hc=>?_)
 ·refine Qa ?_;simp only[go_sem];intro x5 hx5 H8 h8;have kn:=kn.al hx5 h8;have g5:=kn.l 3 rfl;simp only[go_sem,Qact,g5];intro H9 h9;have kn:=kn.stL 3 rfl h9;refine Q4 ?_;refine Qa ?_;simp only[go_sem];refine Qch (kn.e 0 rfl) (by omega) fun cnt H10 hcnt hu=>?_;have kn:=kn.callE 0 rfl hu (R.o_ne _);rw[if_neg (by omega)]at hcnt;obtain⟨cj,rfl⟩:=Jy hcnt.1;simp only[go_sem,Qacu];refine Qf (Qd (Qw (fun m e1 H1=>∃(j:Nat) (op:Int) (b:C) (bl:List St) (k9:Nat),m=j∧j≤4∧k2+2≤k9∧k9+j≤k2+6∧b.isOw=false∧(∀(H:Heap) (S:Nat→Bool),FrzC H S b (.sl false 5 (Qm bl)))∧Qh bl+3 * j≤12∧
   Kn H H1 [(R.l,R.o k9)] [(x2,.st [.sl true 3 []]),(x3,.st [.sl false 3 (Q1 l)]),(x4,fnO f),(x5,.st [.int .i64 op,.str [],a0C,b,.sl true 5 []])]∧
   e1=[(0,.c (.ptr R.l 0)),(2,.c (.ptr x2 0)),(3,.c (.ptr x3 0)),(4,.c (.ptr x4 0)),(5,.c (.ptr x5 0)),(6,.c (.int .i64 j))]) cj ?_ ?_))
  ·exact⟨cj,6,.sl true 5 [],[],k2+2,by omega,by omega,by omega,by omega,rfl,fun H S=>FrzR.nil.sl,by simp only[Qh];omega,kn,rfl⟩
  ·clear kn g5 h9 h8;rintro m e1 H11 ⟨j,op,b,bl,k9,hm,hj,hk9,hk10,hbo,hbf,hbs,kn,rfl⟩;have g5:=kn.l 3 rfl;have g4:=kn.l 2 rfl;refine Q4 ?_;refine Qa ?_;simp only[go_sem];have hrowf:∀(H:Heap) (S:Nat→Bool),FrzL H S [.int .i64 op,.str [],a0C,b,.sl true 5 []] (St.mk op [] [.mk 1 0 [] []] bl []).cells:=fun H S=>by
    simp only[St.cells_eq,St.op,St.name,St.args,St.body,St.els];exact .cons (Qg rfl) (.cons (Qg rfl) (.cons (Qa20 0 H S) (.cons (hbf H S) (.cons FrzR.nil.sl .nil))))
   refine Qf (Qc rfl (fun hc2=>?_) (fun hc2=>?_))
   ·have hj0:0<j:=(by simpa using hc2);refine Qe ?_;try simp only[go_sem]
    refine Qf (Qd ?_);refine Qeb ?_;simp only[go_sem,g5,hbo];refine Qvd (ns:=[5,6]) (kn.e 0 rfl) (by omega) (by simp) fun w H12 hw hu=>?_;have kn:=kn.callE 0 rfl hu (R.o_ne _);have g5:=kn.l 3 rfl;simp only[go_sem,Qacv,g5,hbo];intro H13 h13;have kn:=kn.stL 3 rfl h13;try simp only[go_sem,AE.X.next]
    refine Qq ?_;try simp only[go_sem,AE.X.next]
    refine⟨Qo (by omega) (by omega),j-1,by omega,j-1,w,.sl true 5 [[.int .i64 op,.str [],a0C,b,.sl true 5 []]],[.mk op [] [.mk 1 0 [] []] bl []],k9+1,rfl,by omega,by omega,by omega,rfl,fun H S=>?_,?_,kn,?_⟩
    ·simp only[Qm];exact (FrzR.cons (hrowf H S) .nil).sl
    ·simp only[Qh,St.size,Qp,Ex.size];omega
    ·have:((j:Int)-1)=((j-1:Nat):Int):=(by omega);rw[this]
   ·refine Qv ?_;simp only[go_sem,AE.X.next];refine Qeb ?_;simp only[go_sem,g5,g4,hbo,Qu];refine⟨.inl trivial,Qbt _,by simp only[LIM];omega,fun z hz H12 h12=>?_⟩;have kn:Kn H H12 [(R.l,R.o k9)] ([(x2,.st [.sl true 3 []]),(x3,.st [.sl false 3 (Q1 l)]),(x4,fnO f),(x5,.st [.int .i64 op,.str [],a0C,b,.sl true 5 []])]++[(z,.vec 5 ([]++Qm f.body))]):=kn.al hz h12;have g5:=kn.l 3 rfl;have hg0:Gr [(z,.vec 5 ([]++Qm f.body))] 5 (Qm f.body) (.vsl z 5 0 (0+f.body.length)):=Gr.mk z 5 (Qm f.body) (by rw[Qu];omega);generalize C.vsl z 5 0 (0+f.body.length)=cz at hg0⊢;have hczo:=hg0.isOw;simp only[go_sem,Qacx,g5,hbo,hczo];have hpr:PR (Qm f.body++[[.int .i64 op,.str [],a0C,b,.sl true 5 []]]) (Qm f.body++Qm [.mk op [] [.mk 1 0 [] []] bl []]):=(PR.sts f.body).app ⟨fun r hr=>by simp only[Jb]at hr;subst hr;simp only[noOw,Jac,Jaf,Q67,Q0f,Qahj,hbo];rfl,fun H S=>by simp only[Qm];exact .cons (hrowf H S) .nil⟩;refine Kn.growR (B:=[_,_,_,_]) (rows:=Qm f.body) kn hg0 (new:=[[.int .i64 op,.str [],a0C,b,.sl true 5 []]]) (.mk' _ true 5 _) (fun r hr=>by simp only[Jb]at hr;subst hr;simp only[noOw,Jac,Jaf,Q67,Q0f,Qahj,hbo];rfl) (by simp only[Qu,Jk,Jh,LIM];omega) fun t Lt H13 hgt hto kn=>?_;have g4:=kn.l 2 rfl;simp only[go_sem,Qacw,g4,hto];intro H14 h14;have kn:=kn.stL 2 rfl h14;try simp only[go_sem,AE.X.next]
    have hfz:=hpr.fz hgt;rw[Qmn]at hfz;refine fin f.name f.params (f.body++[.mk op [] [.mk 1 0 [] []] bl []]) _ t [] Lt _ _ k9 fz0 hfz (by simp only[Qbm,Qh,St.size,Qp,Ex.size];omega) (by omega) (by omega) (kn.sub ?_) rfl rfl rfl;exact .cons_cons _ (.cons_cons _ (.cons_cons _ (.cons _ (List.Sublist.refl _))))
 refine Qa ?_;simp only[go_sem];refine Qc rfl (fun hc=>?_) (fun hc=>?_)
 ·have g2:=kn.l 0 rfl;refine Qa ?_;simp only[go_sem,g2];intro H8 h8;have kn:=kn.stL 0 rfl h8;have g2:=kn.l 0 rfl;refine Qi ?_;simp only[go_sem,AE.X.next,Qs,Q6,Qa74,Jb,forall_eq,RS.op,g2];exact⟨_,(FrzL.cons FrzR.nil.sl .nil).ag,hK [] _ (k2+1) (by omega) (by omega) kn.fin (by simp[Qt])⟩
 refine Qa ?_;simp only[go_sem];refine Qc rfl (fun hc=>?_) (fun hc=>?_)
 ·refine Qa ?_;simp only[go_sem];refine Qvd (ns:=[20,40,41]) (kn.e 0 rfl) (by omega) (by simp) fun cnt H8 hcnt hu=>?_;have kn:=kn.callE 0 rfl hu (R.o_ne _);have hc41:0≤cnt∧cnt≤41:=by
   simp only[Jr,J4,or_false]at hcnt;omega
  obtain⟨cj,rfl⟩:=Jy hc41.1;simp only[go_sem,Qacy];refine Qd (Qw (fun m e1 H1=>∃(j:Nat) (b:C) (rows:List (List C)) (body:List St) (Lb:List (Nat×Obj)),m=j∧j≤41∧PR rows (Qm body)∧(b=.sl false 5 rows∧Lb=[]∨Gr Lb 5 rows b)∧Qh body+3 * j≤Qh f.body+123∧
   Kn H H1 [(R.l,R.o (k2+1+1))] ([(x2,.st [.sl true 3 []]),(x3,.st [.sl false 3 (Q1 l)]),(x4,.st [.str f.name,.sl false 1 (Qab f.params),b])]++Lb)∧
   e1=[(2,.c (.ptr x2 0)),(3,.c (.ptr x3 0)),(4,.c (.ptr x4 0)),(7,.c (.int .i64 j))]) cj ?_ ?_)
  ·exact⟨cj,.sl false 5 (Qm f.body),Qm f.body,f.body,[],rfl,by omega,PR.sts _,.inl ⟨rfl,rfl⟩,by omega,kn,rfl⟩
  ·clear kn g4;rintro m e1 H9 ⟨j,b,rows,body,Lb,hm,hj,hpr,hb,hbs,kn,rfl⟩;have hbo:b.isOw=false:=by
    rcases hb with ⟨rfl,_⟩|hb
    ·rfl
    ·exact hb.isOw
   have hbl:=Qb8 body;have hrl:=hpr.len;rw[Qu]at hrl;have hsb:Slc H9 5 rows b:=by
    rcases hb with ⟨rfl,_⟩|hb
    ·exact .mk' _ false 5 _
    ·exact Gr.slc2 hb kn
   have hokb:=eq_true hsb.ok;have hszb:=hsb.sz;have hrwb:=hsb.rows;have hlnb:=hsb.len;have g4:=kn.l 2 rfl;refine Q4 ?_;refine Qa ?_;simp only[go_sem];refine Qf (Qc rfl (fun hc2=>?_) (fun hc2=>?_))
   ·have hj0:0<j:=(by simpa using hc2);refine Qe ?_;try simp only[go_sem]
    refine Qf (Qd ?_);refine Qq ?_;simp only[go_sem,g4,hbo,hokb,hszb,hrwb,hlnb];refine⟨.inl trivial,hpr.1,by simp only[LIM];omega,fun z hz H10 h10=>?_⟩;have kn:=kn.al hz h10;have kn:Kn H H10 [(R.l,R.o (k2+1+1))] ([(x2,.st [.sl true 3 []]),(x3,.st [.sl false 3 (Q1 l)]),(x4,.st [.str f.name,.sl false 1 (Qab f.params),b])]++[(z,.vec 5 ([]++rows))]):=kn.sub (by
     rw[Ji];exact List.Sublist.append (List.Sublist.refl _) (List.sublist_append_right _ _))
    have hg0:Gr [(z,.vec 5 ([]++rows))] 5 (rows) (.vsl z 5 0 (0+rows.length)):=Gr.mk z 5 (rows) (by omega);generalize C.vsl z 5 0 (0+rows.length)=cz at hg0⊢;have hczo:=hg0.isOw;simp only[go_sem,Qac0,hczo];have hpr2:=hpr.app (Qbe9 (op:=3) (nm:=[]) (a:=.sl true 4 [[.int .i64 1,.int .i64 j,.str [],.sl true 4 []]]) (ars:=[.mk 1 j [] []]) rfl fun H S=>Qa20 j H S);rw[Qmn]at hpr2;refine Kn.growR (B:=[_,_,_]) (rows:=rows) kn hg0 (new:=[[.int .i64 3,.str [],.sl true 4 [[.int .i64 1,.int .i64 j,.str [],.sl true 4 []]],.sl true 5 [],.sl true 5 []]]) (.mk' _ true 5 _) (by simp[noOw,C.isOw]) (by simp only[Jk,Jh,LIM];omega) fun t Lt H11 hgt hto kn=>?_;have g4:=kn.l 2 rfl;simp only[go_sem,Qacz,g4,hto,hbo,hczo];intro H12 h12;have kn:=kn.stL 2 rfl h12;try simp only[go_sem,AE.X.next]
    refine Qq ?_;try simp only[go_sem,AE.X.next]
    refine⟨Qo (by omega) (by omega),j-1,by omega,j-1,t,_,body++[.mk 3 [] [.mk 1 j [] []] [] []],Lt,rfl,by omega,hpr2,.inr hgt,?_,kn,?_⟩
    ·simp only[Qbm,Qh,St.size,Qp,Ex.size];omega
    ·have:((j:Int)-1)=((j-1:Nat):Int):=(by omega);rw[this]
   ·refine Qv ?_;simp only[go_sem,AE.X.next];have hfz:Fz Lb b (.sl false 5 (Qm body)):=by
     rcases hb with ⟨rfl,rfl⟩|hb
     ·exact hpr.sl false
     ·exact hpr.fz hb
    exact fin f.name f.params body _ b [] Lb _ _ (k2+1+1) fz0 hfz (by omega) (by omega) (by omega) kn rfl rfl rfl
 refine Qa ?_;simp only[go_sem];refine Qc rfl (fun hc=>?_) (fun hc=>?_)
 ·have g3:=kn.l 1 rfl;have g2:=kn.l 0 rfl;have h0:(0:Nat)<l.length:=hpos;refine Qag ?_;simp only[go_sem,g3,h0,Ja3,Qz,Qat _ _ h0,Fn.take3,Fn.allOw,Fn.cells_len];refine⟨.inl trivial,Qd5 _,by simp only[LIM];omega,fun z hz H8 h8=>?_⟩;have kn:Kn H H8 [(R.l,R.o (k2+1))] ([(x2,.st [.sl true 3 []]),(x3,.st [.sl false 3 (Q1 l)]),(x4,fnO f)]++[(z,.vec 3 ([]++Q1 l))]):=kn.al hz h8;have g3:=kn.l 1 rfl;have hg0:Gr [(z,.vec 3 ([]++Q1 l))] 3 (Q1 l) (.vsl z 3 0 (0+l.length)):=Gr.mk z 3 (Q1 l) (by rw[Qz];omega);generalize C.vsl z 3 0 (0+l.length)=cz at hg0⊢;have hczo:=hg0.isOw;simp only[go_sem,Qac2,g3,h0,Ja3,hczo,Qz,Qat _ _ h0,Fn.take3,Fn.allOw,Fn.cells_len];refine Kn.growR (B:=[_,_,_]) (rows:=Q1 l) kn hg0 (new:=[l[0].cells]) (.mk' _ true 3 _) (by simp[Fn.noOw]) (by simp only[Qz,Jk,Jh,LIM];omega) fun t Lt H9 hgt hto kn=>?_;rw[Q89]at hgt;have g2:=kn.l 0 rfl;simp only[go_sem,Qac1,g2,hto,hczo];intro H10 h10;have kn:=kn.stL 0 rfl h10;have g2:=kn.l 0 rfl;refine Qi ?_;simp only[go_sem,AE.X.next,Qs,Q6,Qa74,Jb,forall_eq,RS.op,g2,hto];refine⟨_,(FrzL.cons (hgt.frz (B:=[_,_,_]) kn (Qd5 _)) .nil).ag,hK (l++[l[0]]) _ (k2+1) (by omega) (by omega) kn.fin ?_⟩;have:=Qbb (Jj h0);simp only[Qqb,Qt];omega
 ·refine Qe ?_;try simp only[go_sem,AE.X.next]
  exact fin f.name f.params f.body _ _ [] [] _ _ (k2+1) fz0 fzb (by omega) (by omega) (by omega) kn rfl rfl rfl
end Go.AE.Y
namespace Go.AE.Y
open Go.Proofs.Tryz
def Qatf:List Item:=[sJ 1 3 8]
def Qatg:List Item:=eI 3 (.alloc [.sl true 3 []])::Qatf
def Qath:List Item:=[cJ 11 .gtr 10 2]
def Qbgg:SC:=cT 11 (sR [tJ 12 1 3,sJ 1 2 12] [2] .ret) .skip
def Qati:List Item:=[cJ 15 .eql 14 0]
def Qatj:List Item:=[sJ 1 2 17]
def Qbgh:SC:=cT 15 (sR (mJ 16 0::aJ 17 Qahb [.t 16]::Qatj) [2] .ret) .skip
def Qatk:List Item:=[sJ 1 3 19]
def Qatl:List Item:=[hJ 21 20,iJ 27 3 21 26,mJ 4 27]
def Qbgi:SC:=cT 33 (sR [tJ 34 1 3,sJ 1 2 34] [2] .ret) .skip
def Qalt:List Item:=[hJ 38 37,iJ 46 5 38 45,mJ 5 46]
def Qalu:List Item:=[sJ 4 6 50]
def Qalv:List Item:=fI 50 (.bld [.int .i64 0,.int .i64 0,.str [],.sl true 4 []] [(0,1,kI 2),(2,1,.t 49)])::eI 6 (.alloc [.int .i64 0,.int .i64 0,.str [],.sl true 4 []])::Qalu
def Qalw:List Item:=[fI 58 (.bld [.int .i64 0,.int .i64 0,.str [],.sl true 4 []] [(0,1,kI 1),(1,1,kI 1)]),fI 59 (.bsl 4 [.t 58]),fI 60 (.bld [.int .i64 0,.int .i64 0,.str [],.sl true 4 []] [(0,1,kI 13),(2,1,.t 57),(3,1,.t 59)]),sJ 4 6 60]
def Qalx:List Item:=[kJ 72 68,fJ 73 1 72,sJ 1 73 71]
def Qbaz:SC:=cT 67 (.reg (mJ 68 5::mJ 69 0::fI 70 (.bsl 1 [.k (.c (.str [97])),.k (.c (.str [98])),.k (.c (.str [122,122])),.k (.c (.str [99])),.k (.c (.str [100]))])::aJ 71 Qbl [.t 69,.t 70]::Qalx) [2,3]) .skip
def Qba0:SC:=sR [tJ 74 1 3,sJ 1 2 74] [2] .ret
def Qaly:List Item:=[kJ 89 77,fJ 90 2 89,sJ 1 90 88]
def Qalz:List Item:=hJ 81 80::xJ 88 5 81 87::Qaly
def Qba1:SC:=sR [tJ 91 1 3,sJ 1 2 91] [2] .ret
def Qba2:SC:=cT 75 (.seq (.dreg 15 [0,1,2,3,4,5,6,7,8,9,10,4,11,12,13,14] ( mJ 77 4::mJ 78 4::kJ 79 78::fJ 80 2 79::lJ 81 80::mJ 82 4::kJ 83 82::fJ 84 2 83::lJ 85 84::fI 86 (.sli 5 (.t 85) none (some (kI 1)))::aJ 87 Qhb [.t 86]::Qalz) [2,3]) Qba1) .skip
def Qba3:SC:=cT 61 (.seq (sR [mJ 63 5,kJ 64 63,fJ 65 1 64,lJ 66 65,fI 67 (.bin 0 .neq (.t 66) (.k (.c (.str []))))] [0,2,3,5,67] Qbaz) Qba0) (sR [cJ 76 .eql 52 2,mJ 75 76] [2,3,4,5,6,75] Qba2)
def Qba4:SC:=cT 53 (.reg (mJ 55 0::fI 56 (.bsl 1 [.k (.c (.str [102])),.k (.c (.str [103])),.k (.c (.str [109])),.k (.c (.str [113]))])::aJ 57 Qbl [.t 55,.t 56]::Qalw) [2,3,5,6]) (sR [cJ 62 .eql 52 1,mJ 61 62] [0,2,3,4,5,6,52,61] Qba3)
def Qba5:SC:=.block 0 (sR [cJ 54 .eql 52 0,mJ 53 54] [0,2,3,4,5,6,52,53] Qba4)
def Qba6:SC:=cT 96 (.dreg 7 [0,1,2,3,4,5,6] ( mJ 97 5::kJ 98 97::fJ 99 2 98::lJ 100 99::tJ 101 4 6::fI 102 (.iad 4 (.t 100) (kI 0))::sJ 4 102 101::[]) [2,3]) .skip
def Qba7:SC:=sR [tJ 103 1 3,sJ 1 2 103] [2] .ret
def Qate:SC:=.seq (.seq (.seq .gh (.reg [mJ 92 5,kJ 93 92,fJ 94 0 93,lJ 95 94,cJ 96 .neq 95 8] [2,3,5,6,96])) Qba6) Qba7
def Qba8:SC:=.seq (sR [mJ 51 0,aJ 52 Qx [.t 51,kI 4]] [0,2,3,4,5,6,52] Qba5) Qate
def Qba9:SC:=sR (mJ 47 0::fI 48 (.bsl 1 [.k (.c (.str [122,122])),.k (.c (.str [97])),.k (.c (.str [98])),.k (.c (.str [99])),.k (.c (.str [100]))])::aJ 49 Qbl [.t 47,.t 48]::Qalv) [0,2,3,4,5,6] Qba8
def Qbba:SC:=.seq (.dreg 13 [0,1,2,3,4,5,6,7,8,9,10,3,11,12] ( mJ 35 4::kJ 36 35::fJ 37 2 36::lJ 38 37::mJ 39 0::mJ 40 4::kJ 41 40::fJ 42 2 41::lJ 43 42::nJ 44 43::aJ 45 Qx [.t 39,.t 44]::Qalt) [0,2,3,4,5]) Qba9
def Qbbb:SC:=.seq (sR [mJ 28 4,kJ 29 28,fJ 30 2 29,lJ 31 30,nJ 32 31,cJ 33 .eql 32 0] [0,2,3,4,33] Qbgi) Qbba
def Qbbc:SC:=.seq (.dreg 9 [0,1,2,3,4,5,6,1,7,8] ( fJ 20 0 3::lJ 21 20::mJ 22 0::fJ 23 0 3::lJ 24 23::nJ 25 24::aJ 26 Qx [.t 22,.t 25]::Qatl) [0,2,3,4]) Qbbb
def Qbbd:SC:=sR (tJ 18 1 3::aJ 19 Qahc [.t 18]::Qatk) [0,2,3] Qbbc
def Qbbe:SC:=.seq (sR (mJ 13 0::aJ 14 Qx [.t 13,kI 6]::Qati) [0,2,3,15] Qbgh) Qbbd
def Qbbf:SC:=.seq (sR (mJ 9 0::aJ 10 Qx [.t 9,kI 5]::Qath) [0,2,3,11] Qbgg) Qbbe
def Qbbg:SC:=sR (mJ 7 0::aJ 8 Q61 [.t 7]::Qatg) [0,2,3] Qbbf
def Qbnu:SC:=sR [eI 2 (.alloc [.sl true 3 []])] [0,2] Qbbg
theorem Qbni:mFn prog Qahe 1 104 Qbnu Qa74=true:=by kernel_rfl
end Go.AE.Y
namespace Go.AE
variable {H0 H H':Heap}{E L:List (Nat×Obj)}
theorem Kn.neM (kn:Kn H0 H E L){a b:Nat}{oa ob:Obj}(h1:(a,oa)∈L)(h2:(b,ob)∈L)(h:oa≠ob):a≠b:=fun e=>by
 subst e;exact h ((kn.get _ (Ja _ h1)).1.symm.trans (kn.get _ (Ja _ h2)).1)
theorem Kn.upd1 (kn:Kn H0 H E L){x:Nat}{o o':Obj}(hm:(x,o)∈L)(h1:H'=H.set x o')(ho:o'≠.none:=by nofun):∃L',Kn H0 H' E L'∧(x,o')∈L'∧∀p∈L,p.1≠x→p∈L':=by
 obtain⟨i,hi⟩:=Jaq hm;refine⟨L.set i (x,o'),kn.stL i hi h1 ho,?_,fun p hp hne=>?_⟩
 ·have hlt:=(List.getElem?_eq_some_iff.1 hi).1;exact List.mem_iff_getElem?.2 ⟨i,by rw[Jaz];simp[hlt]⟩
 ·obtain⟨j,hj⟩:=Jaq hp;refine List.mem_iff_getElem?.2 ⟨j,?_⟩;rw[Jaz];have:i≠j:=fun e=>by
   subst e;rw[hi]at hj;exact hne (by rw[←J0 hj])
  rw[if_neg this];exact hj
theorem Kn.stMid {P A B Q:List (Nat×Obj)}{x:Nat}{o o':Obj}(kn:Kn H0 H E ((P++(A++(x,o)::B))++Q))(h1:H'=H.set x o')(ho:o'≠.none:=by nofun):Kn H0 H' E ((P++(A++(x,o')::B))++Q):=by
 have e:∀o,(P++(A++(x,o)::B))++Q=(P++A)++(x,o)::(B++Q):=fun o=>by simp
 rw[e]at kn⊢;exact kn.stM h1 ho
theorem Kn.lastM {A B:List (Nat×Obj)}{x:Nat×Obj}(kn:Kn H0 H E (A++x::B)):Kn H0 H E ((A++B)++[x]):=
 kn.perm (List.perm_middle.trans (List.perm_append_singleton x (A++B)).symm)
theorem Kn.getL (kn:Kn H0 H E L){x:Nat}{o:Obj}(hm:(x,o)∈L):H x=o:=(kn.get _ (Ja _ hm)).1
end Go.AE
namespace Go.AE.Y
attribute [local go_sem] cond_true cond_false Bool.not_true Bool.not_false
open Go.Proofs.Tryz
variable {H H0 F:Heap}{K:V→Heap→Prop}{E B Lg:List (Nat×Obj)}
theorem Gr.vec {sz:Nat}{rows:List (List C)}{c:C}(h:Gr Lg sz rows c):∀p∈Lg,∃z r,p.2=Obj.vec z r:=by
 rcases h with ⟨_,_,rfl⟩|⟨y,_,rfl⟩
 ·simp
 ·intro p hp;simp only[Jb]at hp;subst hp;exact⟨_,_,rfl⟩
theorem OFn.vec {u:OFn}(h:u.ok):∀p∈u.lg,∃z r,p.2=Obj.vec z r:=by
 intro p hp;rcases Je.1 hp with hp|hp
 ·exact Gr.vec h.p p hp
 ·rcases Je.1 hp with hp|hp
  ·obtain⟨o,ho,hp⟩:=Jp.1 hp;exact Gr.vec (h.o o ho) p hp
  ·exact Gr.vec h.b p hp
theorem Qbdp {α:Type}{l:List α}{i:Nat}(h:i<l.length)(d:α):l.getD i d=l[i]:=by simp[Jg,h]
theorem Qag2:∀(l:List Ex) (i:Nat) (x:Ex),Qp (l.set i x)≤Qp l+x.size
 |[],i,x=>by simp[Qp]
 |y::r,0,x=>by simp only[Jav,Qp];omega
 |y::r,i+1,x=>by have:=Qag2 r i x;simp only[Jau,Qp];omega
def obU (z:Nat)(us:List OFn):List (Nat×Obj):=us.flatMap OFn.lg++[(z,.vec 3 (us.map OFn.row))]
theorem Qbnn {z:Nat}{us:List OFn}(h:∀u∈us,u.ok):∀p∈obU z us,∃s r,p.2=Obj.vec s r:=by
 intro p hp;rcases Je.1 hp with hp|hp
 ·obtain⟨u,hu,hp⟩:=Jp.1 hp;exact OFn.vec (h u hu) p hp
 ·simp only[Jb]at hp;subst hp;exact⟨_,_,rfl⟩
theorem Qa1l {α:Type}{l:List α}{i:Nat}(h:i<l.length){a:α}(ha:l[i]=a):∃l1 l2,l=l1++a::l2∧l1.length=i:=by
 refine⟨l.take i,l.drop (i+1),?_,by rw[Jt];omega⟩;rw[←ha,List.getElem_cons_drop,Jan]
theorem Qbg1 {α:Type}(l1 l2:List α)(a b:α){i:Nat}(hi:l1.length=i):(l1++a::l2).set i b=l1++b::l2:=by
 subst hi;simp
theorem Qahy (z:Nat)(us1 us2:List OFn)(u:OFn):obU z (us1++u::us2)=us1.flatMap OFn.lg++(u.lg++(us2.flatMap OFn.lg++[(z,.vec 3 (us1.map OFn.row++u.row::us2.map OFn.row))])):=by
 simp[obU]
theorem Qbeh (u:OFn)(o1 o2:List OSt)(o:OSt)(h:u.os=o1++o::o2):u.lg=u.pl++(o1.flatMap OSt.al++(o.al++(o2.flatMap OSt.al++u.bl))):=by
 simp[OFn.lg,h]
theorem Qbi5 {R:Rdr}{k:Nat}(hH:H R.l=R.o k)(hk:k+15000000≤2^30)
  (hK:∀(l:List Fn) (H':Heap) (k':Nat),k<k'→Upd H H' [(R.l,R.o k')]→Qt l≤2^36→K (.ag [.sl false 3 (Q1 l)]) H') :
  Ql prog Qahe [.c (.ptr R.l 0)] H K:=by
 refine Q0 ?_;refine Qb Qai Qbni ?_;refine Qa ?_;simp only[go_sem];intro x2 hx2 H1 h1;have kn:=(Kn.start1 hH (R.o_ne k)).al hx2 h1;refine Qa ?_;simp only[go_sem];refine Qa7f (kn.e 0 rfl) (by omega) fun l H2 k2 g1 g2 hu hpr=>?_;have kn:=kn.callE 0 rfl hu (R.o_ne _);have hpos:=hpr.pos;have hl4:=hpr.len;have hsz:=hpr.size;simp only[go_sem,Qatg];intro x3 hx3 H3 h3;have kn:=kn.al hx3 h3;have g3:=kn.l 1 rfl;simp only[go_sem,Qatf,g3];intro H4 h4;have kn:=kn.stL 1 rfl h4;refine Q4 ?_;refine Qa ?_;simp only[go_sem];refine Qch (kn.e 0 rfl) (by omega) fun v H5 hv hu=>?_;have kn:=kn.callE 0 rfl hu (R.o_ne _);have g3:=kn.l 1 rfl;have g2':=kn.l 0 rfl;simp only[go_sem,Qath];refine Qf (Qc rfl (fun hc=>?_) (fun hc=>?_))
 ·refine Qa ?_;simp only[go_sem,g3,g2'];intro H6 h6;have kn:=kn.stL 0 rfl h6;have g2':=kn.l 0 rfl;refine Qi ?_;simp only[go_sem,AE.X.next,Qs,Q6,Qa74,Jb,forall_eq,RS.op,g2'];exact⟨_,(FrzL.cons (FrzR.same (Qd5 _)).sl .nil).ag,hK l _ (k2+1) (by omega) kn.fin (by omega)⟩
 refine Qe ?_;try simp only[go_sem]
 refine Q4 ?_;refine Qa ?_;simp only[go_sem];refine Qch (kn.e 0 rfl) (by omega) fun v2 H6 hv2 hu=>?_;have kn:=kn.callE 0 rfl hu (R.o_ne _);simp only[go_sem,Qati];refine Qf (Qc rfl (fun hc=>?_) (fun hc=>?_))
 ·refine Qa ?_;simp only[go_sem];refine Qbi4 (kn.e 0 rfl) (by omega) fun l2 H7 k7 b1 b2 hu hs2=>?_;have kn:=kn.callE 0 rfl hu (R.o_ne _);have g2':=kn.l 0 rfl;simp only[go_sem,Qatj,g2'];intro H8 h8;have kn:=kn.stL 0 rfl h8;have g2':=kn.l 0 rfl;refine Qi ?_;simp only[go_sem,AE.X.next,Qs,Q6,Qa74,Jb,forall_eq,RS.op,g2'];exact⟨_,(FrzL.cons (FrzR.same (Qd5 _)).sl .nil).ag,hK l2 _ k7 (by omega) kn.fin (by omega)⟩
 refine Qe ?_;try simp only[go_sem]
 have g3:=kn.l 1 rfl;refine Qa ?_;simp only[go_sem,g3];refine Qbec (l:=l) rfl (.mk' _ false 3 _) (by omega) (fun f hf=>by have:=hpr.par f hf;omega) fun us t Lz H7 hux huo hz hto k2n=>?_;have hul:us.length=l.length:=by rw[←hux,Jd]
 obtain⟨z,rfl,rfl⟩:∃z,t=.vsl z 3 0 us.length∧Lz=[(z,.vec 3 (us.map OFn.row))]:=by
  rcases hz with ⟨_,h,_⟩|⟨y,h1,h2⟩
  ·have:=congrArg List.length h;rw[Jd,Jh]at this;omega
  ·exact⟨y,by rw[h1,Jd],h2⟩
 have kn:=kn.addNew k2n;have g3:=kn.l 1 rfl;simp only[go_sem,Qatk,g3];intro H8 h8;have kn:Kn H H8 [(R.l,R.o (k2+1+1))] ([(x2,.st [.sl true 3 []]),(x3,.st [.vsl z 3 0 us.length])]++obU z us):=kn.stL 1 rfl h8;have fin:∀(us':List OFn) (L8:List (Nat×Obj)) (H8 H9:Heap) (k8:Nat),(∀u∈us',u.ok)→us'.length=us.length→Qt (us'.map OFn.f)≤2^36→k<k8→Kn H H8 [(R.l,R.o k8)] L8→(x2,.st [.sl true 3 []])∈L8→(∀p∈obU z us',p∈L8)→H9=H8.set x2 (.st [.vsl z 3 0 us.length])→
   Qs Qa74 (unK H K) .ret [(2,.c (.ptr x2 0))] H9:=by
  intro us' L8 H8 H9 k8 hu' hl' hs' hkk kn hm2 hmem h9;obtain⟨L9,kn9,hx29,hoth⟩:=kn.upd1 hm2 h9;have g2:=kn9.getL hx29;simp only[go_sem,Qs,Q6,Qa74,Jb,forall_eq,RS.op,g2];have hin:∀p∈obU z us',p∈L9:=fun p hp=>hoth p (hmem p hp) fun e=>by
   obtain⟨s,r,he⟩:=Qbnn hu' p hp;obtain⟨p1,p2⟩:=p;simp only at he e;exact kn.neM (hmem _ hp) hm2 (by rw[he];nofun) e
  have hf:=Qbjn (H:=H9) (S:=un H) hu' (Gr.mk (n:=us.length) z 3 (us'.map OFn.row) (by rw[Jd];omega)) fun p hp=>⟨(kn9.get p (Ja _ (hin p hp))).1,Qn7 (kn9.loc p (hin p hp))⟩;exact⟨_,(FrzL.cons hf .nil).ag,hK _ _ k8 hkk kn9.fin hs'⟩
 have gz:H8 z=.vec 3 (us.map OFn.row):=kn.getL (by simp[obU]);have g3:=kn.l 1 rfl;refine Qag ?_;simp only[go_sem,g3,gz,Jd,Ju,Js];try intro _
 refine Qch (kn.e 0 rfl) (by omega) fun iv H9 hiv hu=>?_;have kn:Kn H H9 [(R.l,R.o (k2+1+1+1))] ([(x2,.st [.sl true 3 []]),(x3,.st [.vsl z 3 0 us.length])]++obU z us):=kn.callE 0 rfl hu (R.o_ne _);rw[if_neg (by omega)]at hiv;obtain⟨i,rfl⟩:=Jy hiv.1;have hi:i<us.length:=by omega
 have gz:H9 z=.vec 3 (us.map OFn.row):=kn.getL (by simp[obU]);have g3:=kn.l 1 rfl;have htk:(us.map OFn.row).take us.length=us.map OFn.row:=Jm (by rw[Jd];exact Js _);obtain⟨u,hue⟩:∃u,us[i]=u:=⟨_,rfl⟩;have hum:u∈us:=by rw[←hue];exact Jj hi
 have hur:=huo u hum;have hpo:=hur.p.isOw;have hbo:=hur.b.isOw;have hrow:(us.map OFn.row).getD i []=[.str u.f.name,u.pc,u.bc]:=by rw[Qbdp (by rw[Jd];exact hi),Jaj,hue];rfl
 simp only[go_sem,Qatl,g3,gz,hi,Jd,Ju,Js];have hsb:Slc H9 5 (u.os.map OSt.row) u.bc:=by
  have hm:∀p∈u.bl,H9 p.1=p.2:=fun p hp=>kn.getL (Ja _ (Jc _ (Jp.2 ⟨u,hum,Ja _ (Ja _ hp)⟩)));have hb:=hur.b;refine⟨?_,hb.elemSz,?_,hb.lenC⟩
  ·rcases hb with ⟨h1,h2,h3⟩|⟨y,h1,h2⟩
   ·rw[h1];trivial
   ·have:=hm (y,.vec 5 (u.os.map OSt.row)) (by rw[h2];simp);rw[h1];simp only[okSl];simp only[this];simp
  ·rcases hb with ⟨h1,h2,h3⟩|⟨y,h1,h2⟩
   ·rw[h1,h2];rfl
   ·have:=hm (y,.vec 5 (u.os.map OSt.row)) (by rw[h2];simp);rw[h1];simp only[rowsOf];simp only[this,List.drop_zero,Ja2]
 have hokb:=eq_true hsb.ok;have hlnb:=hsb.len;rw[Jd]at hlnb;refine Q4 ?_;refine Qa ?_;simp only[go_sem,gz,hi,htk,hrow,hpo,hbo,hokb,hlnb,Jd,Ju,Js];try intro hlim
 have hsz1:∀us':List OFn,us'.map OFn.f=l→Qt (us'.map OFn.f)≤2^36:=fun us' h=>by rw[h];omega
 refine Qf (Qc rfl (fun hc=>?_) (fun hc=>?_))
 ·have g2:=kn.l 0 rfl;refine Qa ?_;simp only[go_sem,g3,g2];intro H10 h10;refine Qi ?_;try simp only[go_sem,AE.X.next]
  exact fin us _ _ _ (k2+1+1+1) huo rfl (hsz1 us hux) (by omega) kn (by simp) (fun p hp=>Ja _ hp) h10
 have hone:0<u.os.length:=by
  have h:¬((u.os.length:Int)=0):=by simpa using hc
  omega
 obtain⟨y,hbc,hbl⟩:∃y,u.bc=.vsl y 5 0 u.os.length∧u.bl=[(y,.vec 5 (u.os.map OSt.row))]:=by
  rcases hur.b with ⟨_,h,_⟩|⟨y,h1,h2⟩
  ·have:=congrArg List.length h;rw[Jd,Jh]at this;omega
  ·exact⟨y,by rw[h1,Jd],h2⟩
 have hym:(y,Obj.vec 5 (u.os.map OSt.row))∈obU z us:=Jc _ (Jp.2 ⟨u,hum,Ja _ (Ja _ (by rw[hbl];simp))⟩);have hrowb:=hrow;rw[hbc]at hrow;refine Qe ?_;try simp only[go_sem]
 have gy:H9 y=.vec 5 (u.os.map OSt.row):=kn.getL (Ja _ hym);refine Qag ?_;simp only[go_sem,gz,gy,hi,htk,hrow,hpo,Jd,Ju,Js];try intro _
 refine Qch (kn.e 0 rfl) (by omega) fun jv H10 hjv hu=>?_;have kn:Kn H H10 [(R.l,R.o (k2+1+1+1+1))] ([(x2,.st [.sl true 3 []]),(x3,.st [.vsl z 3 0 us.length])]++obU z us):=kn.callE 0 rfl hu (R.o_ne _);rw[if_neg (by omega)]at hjv;obtain⟨j,rfl⟩:=Jy hjv.1;have hj:j<u.os.length:=by omega
 have gz:H10 z=.vec 3 (us.map OFn.row):=kn.getL (by simp[obU]);have gy:H10 y=.vec 5 (u.os.map OSt.row):=kn.getL (Ja _ hym);have htky:(u.os.map OSt.row).take u.os.length=u.os.map OSt.row:=Jm (by rw[Jd];exact Js _);obtain⟨o,hoe⟩:∃o,u.os[j]=o:=⟨_,rfl⟩;have hom:o∈u.os:=by rw[←hoe];exact Jj hj
 have hook:=hur.o o hom;have hao:=Gr.isOw hook;have horow:(u.os.map OSt.row).getD j []=[.int .i64 o.x.op,.str o.x.name,o.ac,.sl false 5 (Qm o.x.body),.sl false 5 (Qm o.x.els)]:=by rw[Qbdp (by rw[Jd];exact hj),Jaj,hoe];rfl
 simp only[go_sem,Qalt,gz,gy,hi,hj,htk,hrow,hpo,Jd,Ju,Js];refine Qa ?_;simp only[go_sem];refine of_c (ss:=[[122,122],[97],[98],[99],[100]]) (kn.e 0 rfl) (by omega) (by simp) fun w H11 hw hu=>?_;have kn:Kn H H11 [(R.l,R.o (k2+1+1+1+1+1))] ([(x2,.st [.sl true 3 []]),(x3,.st [.vsl z 3 0 us.length])]++obU z us):=kn.callE 0 rfl hu (R.o_ne _);simp only[go_sem,Qalv];intro x6 hx6 H12 h12;have kn:=kn.al hx6 h12;have g6:H12 x6=.st [.int .i64 0,.int .i64 0,.str [],.sl true 4 []]:=kn.getL (by simp);simp only[go_sem,Qalu,g6];intro H13 h13;have kn:Kn H H13 [(R.l,R.o (k2+1+1+1+1+1))] (([(x2,.st [.sl true 3 []]),(x3,.st [.vsl z 3 0 us.length])]++obU z us)++(x6,.st [.int .i64 2,.int .i64 0,.str w,.sl true 4 []])::[]):=by
  refine Kn.stM (A:=[(x2,.st [.sl true 3 []]),(x3,.st [.vsl z 3 0 us.length])]++obU z us) kn h13
 refine Q4 ?_;refine Qa ?_;simp only[go_sem];refine Qch (kn.e 0 rfl) (by omega) fun q H14 hq hu=>?_;have kn:Kn H H14 [(R.l,R.o (k2+1+1+1+1+1+1))] (([(x2,.st [.sl true 3 []]),(x3,.st [.vsl z 3 0 us.length])]++obU z us)++(x6,.st [.int .i64 2,.int .i64 0,.str w,.sl true 4 []])::[]):=kn.callE 0 rfl hu (R.o_ne _);simp only[go_sem];have hfl:∀f':Fn,Qt ((us.map OFn.f).set i f')≤2^34+Qh f'.body:=fun f'=>by
  have:=Qvf (us.map OFn.f) i f';rw[hux]at this⊢;omega
 have hub:Qh u.f.body≤2^34:=by
  have:u.f∈l:=by rw[←hux];exact J5 hum
  have:=Qbb this;omega
 have hobs:o.x.size≤Qh u.f.body:=by
  have:o.x∈u.f.body:=by rw[←hur.x];exact J5 hom
  exact Qbg this
 obtain⟨us1,us2,hus,hi1⟩:=Qa1l hi hue;obtain⟨o1,o2,hos,hj1⟩:=Qa1l hj hoe;have hP:Qt (us1.map OFn.f)+Qh u.f.body+Qt (us2.map OFn.f)≤2^34:=by
  have h1:l=us1.map OFn.f++u.f::us2.map OFn.f:=by rw[←hux,hus];simp
  rw[h1,Qqb]at hsz;simp only[Qt]at hsz;omega
 have hSz:Qh (o1.map OSt.x)+o.x.size+Qh (o2.map OSt.x)=Qh u.f.body:=by
  have h1:u.f.body=o1.map OSt.x++o.x::o2.map OSt.x:=by rw[←hur.x,hos];simp
  rw[h1,Qbm];simp only[Qh];omega
 have hok':∀u':OFn,u'.ok→∀v∈us1++u'::us2,v.ok:=by
  intro u' hu' v hv;rcases Je.1 hv with hv|hv
  ·exact huo v (by rw[hus];exact Jc _ hv)
  ·rcases Jr.1 hv with rfl|hv
   ·exact hu'
   ·exact huo v (by rw[hus];exact Ja _ (Jaa _ hv))
 have hlen':∀u':OFn,(us1++u'::us2).length=us.length:=fun u'=>by rw[hus];simp
 have hps':∀u':OFn,Qh u'.f.body≤2^35→Qt ((us1++u'::us2).map OFn.f)≤2^36:=fun u' h=>by
  rw[Jl,Jv,Qqb];simp only[Qt];omega
 have hoo:∀v∈o1++o2,v.ok:=fun v hv=>hur.o v (by
  rw[hos];rcases Je.1 hv with hv|hv
  ·exact Jc _ hv
  ·exact Ja _ (Jaa _ hv))
 have hargs:0<o.x.args.length:=by
  have h1:o.x∈u.f.body:=by rw[←hur.x];exact J5 hom
  have h2:u.f∈l:=by rw[←hux];exact J5 hum
  have:=Qan5 (hpr.ok _ h2) _ h1;rw[St.ok_eq]at this;exact this.1
 have last:∀(op n:Int) (nm:List UInt8) (ks:C) (kk:List Ex) (H14:Heap) (e14:Env) (k14:Nat),k<k14→Kn H H14 [(R.l,R.o k14)] (([(x2,.st [.sl true 3 []]),(x3,.st [.vsl z 3 0 us.length])]++obU z us)++(x6,.st [.int .i64 op,.int .i64 n,.str nm,ks])::[])→ks.isOw=false→
   (∀(H:Heap) (S:Nat→Bool),FrzC H S ks (.sl false 4 (Qy kk)))→Qp kk≤10→
   lk 2 e14=.c (.ptr x2 0)→lk 3 e14=.c (.ptr x3 0)→lk 5 e14=.c (.ep (.vsl y 5 0 u.os.length) 5 j 0)→lk 6 e14=.c (.ptr x6 0)→Q8 prog Qate (Qs Qa74 (unK H K)) e14 H14:=by
  intro op n nm ks kk H14 e14 k14 hk14 kn hko hkf hks f2 f3 f5 f6;have g6:H14 x6=.st [.int .i64 op,.int .i64 n,.str nm,ks]:=kn.getM;have kz:=Kn.frzN (Lg:=[]) (B:=([(x2,.st [.sl true 3 []]),(x3,.st [.vsl z 3 0 us.length])]++obU z us)++(x6,.st [.int .i64 op,.int .i64 n,.str nm,ks])::[]) (by rw[J3];exact kn);have kz:=kz.stM (o':=.st [.int .i64 op,.int .i64 n,.str nm,.sl false 4 (Qy kk)]) rfl;have hfz:=(Q0e H14 (fun m=>(([]:List (Nat×Obj)).map Prod.fst).contains m)).set (l:=x6) (o:=.st [.int .i64 op,.int .i64 n,.str nm,.sl false 4 (Qy kk)]) rfl (by
   rw[g6];exact FrzKL.st (.same (.same (.same (.cons hko (hkf _ _) .nil)))))
  obtain⟨H15,hH15⟩:∃H15,((H14.frz (fun m=>(([]:List (Nat×Obj)).map Prod.fst).contains m)).set x6 (.st [.int .i64 op,.int .i64 n,.str nm,.sl false 4 (Qy kk)]))=H15:=⟨_,rfl⟩;rw[hH15]at kz hfz;refine Q4 ?_;refine Q4 ?_;refine c_gh (Qhc _ (Qbdn ?_) hfz) (e':=[(2,.c (.ptr x2 0)),(3,.c (.ptr x3 0)),(5,.c (.ep (.vsl y 5 0 u.os.length) 5 j 0)),(6,.c (.ptr x6 0))]) ?_
  ·intro p hp;simp only[Jr,J4,or_false]at hp;rcases hp with rfl|rfl|rfl|rfl
   ·simp only[f2];exact .c _ _ (.same _ rfl)
   ·simp only[f3];exact .c _ _ (.same _ rfl)
   ·simp only[f5];exact .c _ _ (.same _ rfl)
   ·simp only[f6];exact .c _ _ (.same _ rfl)
  have gy:H15 y=.vec 5 (u.os.map OSt.row):=kz.getL (Jc _ (Ja _ hym));have g6:H15 x6=.st [.int .i64 op,.int .i64 n,.str nm,.sl false 4 (Qy kk)]:=kz.getM;have g2:=kz.l 0 rfl;have g3:=kz.l 1 rfl;refine Qa ?_;simp only[go_sem,gy,hj,htky,horow,hao,Jd,Ju,Js];refine Qf (Qc rfl (fun hc=>?_) (fun hc=>?_))
  ·obtain⟨ya,hac,hal⟩:∃ya,o.ac=.vsl ya 4 0 o.x.args.length∧o.al=[(ya,.vec 4 (Qy o.x.args))]:=by
    rcases (show Gr o.al 4 (Qy o.x.args) o.ac from hook)with ⟨_,h,_⟩|⟨y,h1,h2⟩
    ·have:=congrArg List.length h;rw[Qn,Jh]at this;omega
    ·exact⟨y,by rw[h1,Qn],h2⟩
   have hA:obU z us=(us1.flatMap OFn.lg++(u.pl++o1.flatMap OSt.al))++(ya,.vec 4 (Qy o.x.args))::((o2.flatMap OSt.al++u.bl)++(us2.flatMap OFn.lg++[(z,.vec 3 (us1.map OFn.row++u.row::us2.map OFn.row))])):=by
    conv=>lhs;rw[hus]
    rw[Qahy,Qbeh u o1 o2 o hos,hal];simp only[Ji,Jx,Jz]
   have gya:H15 ya=.vec 4 (Qy o.x.args):=kz.getL (Jc _ (Ja _ (by rw[hA];simp)));have hg0:=Qap o.x.args 0 hargs;rw[Ex.cells_eq]at hg0;rw[hac]at horow;refine Qeb ?_;simp only[go_sem,gy,g6,gya,hj,htky,horow,hac,hargs,hg0,Qn,Jd,Ja3,Ju,Js];intro H16 h16;try simp only[go_sem,AE.X.next]
   obtain⟨x',hx'⟩:∃x':St,x'=.mk o.x.op o.x.name (o.x.args.set 0 (.mk op n nm kk)) o.x.body o.x.els:=⟨_,rfl⟩;obtain⟨o',ho'⟩:∃o':OSt,o'=⟨x',o.ac,[(ya,.vec 4 (Qy x'.args))]⟩:=⟨_,rfl⟩;obtain⟨u',hu'⟩:∃u':OFn,u'=⟨⟨u.f.name,u.f.params,o1.map OSt.x++x'::o2.map OSt.x⟩,u.pc,u.pl,o1++o'::o2,u.bc,u.bl⟩:=⟨_,rfl⟩;have hxs:Qy x'.args=(Qy o.x.args).set 0 [.int .i64 op,.int .i64 n,.str nm,.sl false 4 (Qy kk)]:=by
    rw[hx'];simp only[St.args,Quw,Jam,Ex.cells_eq,Ex.op,Ex.n,Ex.name,Ex.kids]
   have hrow':o'.row=o.row:=by rw[ho',hx'];rfl
   have hok0:o'.ok:=by
    rw[ho'];show Gr _ 4 (Qy x'.args) o.ac;rw[hac];exact Gr.mk (n:=o.x.args.length) ya 4 (Qy x'.args) (by rw[hxs,List.length_set,Qn])
   have huok:u'.ok:=by
    rw[hu'];refine⟨hur.p,fun v hv=>?_,?_,by rw[Jl,Jv,ho']⟩
    ·rcases Je.1 hv with hv|hv
     ·exact hoo v (Jc _ hv)
     ·rcases Jr.1 hv with rfl|hv
      ·exact hok0
      ·exact hoo v (Ja _ hv)
    ·have hb:=hur.b;rw[hos]at hb;show Gr u.bl 5 ((o1++o'::o2).map OSt.row) u.bc;rw[Jl,Jv,hrow'];rw[Jl,Jv]at hb;exact hb
   have hA2:obU z (us1++u'::us2)=(us1.flatMap OFn.lg++(u.pl++o1.flatMap OSt.al))++(ya,.vec 4 (Qy x'.args))::((o2.flatMap OSt.al++u.bl)++(us2.flatMap OFn.lg++[(z,.vec 3 (us1.map OFn.row++u.row::us2.map OFn.row))])):=by
    rw[Qahy,Qbeh u' o1 o2 o' (by rw[hu']),ho',hu'];simp only[Ji,Jx,Jz,OFn.row]
   have kz2:Kn H H16 [(R.l,R.o k14)] (([(x2,.st [.sl true 3 []]),(x3,.st [.vsl z 3 0 us.length])]++obU z (us1++u'::us2))++(x6,.st [.int .i64 op,.int .i64 n,.str nm,.sl false 4 (Qy kk)])::[]):=by
    rw[hA2,hxs];rw[hA]at kz;exact kz.stMid h16
   have g2:=kz2.l 0 rfl;have g3:=kz2.l 1 rfl;refine Qa ?_;simp only[go_sem,g2,g3];intro H17 h17;refine Qi ?_;refine fin (us1++u'::us2) _ _ _ k14 (hok' u' huok) (hlen' u') (hps' u' ?_) hk14 kz2 (by simp) (fun p hp=>Jc _ (Ja _ hp)) h17;have he:=Qag2 o.x.args 0 (.mk op n nm kk);have hse:=o.x.size_eq;rw[hu'];simp only[Qbm,Qh];rw[hx'];simp only[St.size,Ex.size]at he⊢;omega
  ·refine Qe ?_;try simp only[go_sem,AE.X.next]
   refine Qa ?_;simp only[go_sem,g2,g3];intro H17 h17;refine Qi ?_;exact fin us _ _ _ k14 huo rfl (hsz1 us hux) hk14 kz (by simp) (fun p hp=>Jc _ (Ja _ hp)) h17
 have gz:H14 z=.vec 3 (us.map OFn.row):=kn.getL (by simp[obU]);have gy:H14 y=.vec 5 (u.os.map OSt.row):=kn.getL (Jc _ (Ja _ hym));have g2:=kn.l 0 rfl;have g3:=kn.l 1 rfl;refine Qf (Qd ?_);refine Qa ?_;simp only[go_sem];refine Qc rfl (fun hc0=>?_) (fun hc0=>?_)
 ·refine Qq ?_;simp only[go_sem];refine of_c (ss:=[[102],[103],[109],[113]]) (kn.e 0 rfl) (by omega) (by simp) fun w2 H15 hw2 hu=>?_;have kn:Kn H H15 [(R.l,R.o (k2+1+1+1+1+1+1+1))] (([(x2,.st [.sl true 3 []]),(x3,.st [.vsl z 3 0 us.length])]++obU z us)++(x6,.st [.int .i64 2,.int .i64 0,.str w,.sl true 4 []])::[]):=kn.callE 0 rfl hu (R.o_ne _);have g6:H15 x6=.st [.int .i64 2,.int .i64 0,.str w,.sl true 4 []]:=kn.getM;simp only[go_sem,Qalw,g6];intro H16 h16;have kn:=kn.stM h16;try simp only[go_sem,AE.X.next]
  exact last 13 0 w2 _ [.mk 1 1 [] []] _ _ _ (by omega) kn rfl (Qa20 1) (by simp[Qp,Ex.size]) rfl rfl rfl rfl
 refine Qa ?_;simp only[go_sem];refine Qc rfl (fun hc1=>?_) (fun hc1=>?_)
 ·refine Q4 ?_;refine Qa ?_;simp only[go_sem,gy,hj,htky,horow,hao,Jd,Ju,Js];refine Qf (Qc rfl (fun hcn=>?_) (fun hcn=>?_))
  ·refine Qq ?_;simp only[go_sem];refine of_c (ss:=[[97],[98],[122,122],[99],[100]]) (kn.e 0 rfl) (by omega) (by simp) fun w2 H15 hw2 hu=>?_;have kn:Kn H H15 [(R.l,R.o (k2+1+1+1+1+1+1+1))] (([(x2,.st [.sl true 3 []]),(x3,.st [.vsl z 3 0 us.length])]++obU z us)++(x6,.st [.int .i64 2,.int .i64 0,.str w,.sl true 4 []])::[]):=kn.callE 0 rfl hu (R.o_ne _);have gy:H15 y=.vec 5 (u.os.map OSt.row):=kn.getL (Jc _ (Ja _ hym));simp only[go_sem,Qalx,gy,hj,htky,horow,hao,Jd,Ju,Js];intro H16 h16;try simp only[go_sem,AE.X.next]
   obtain⟨x',hx'⟩:∃x':St,x'=.mk o.x.op w2 o.x.args o.x.body o.x.els:=⟨_,rfl⟩;obtain⟨o',ho'⟩:∃o':OSt,o'=⟨x',o.ac,o.al⟩:=⟨_,rfl⟩;obtain⟨u',hu'⟩:∃u':OFn,u'=⟨⟨u.f.name,u.f.params,o1.map OSt.x++x'::o2.map OSt.x⟩,u.pc,u.pl,o1++o'::o2,u.bc,[(y,.vec 5 ((o1++o'::o2).map OSt.row))]⟩:=⟨_,rfl⟩;have hrow':o'.row=[.int .i64 o.x.op,.str w2,o.ac,.sl false 5 (Qm o.x.body),.sl false 5 (Qm o.x.els)]:=by rw[ho',hx'];rfl
   have hok0:o'.ok:=by
    rw[ho',hx'];exact hook
   have hrs:(u.os.map OSt.row).set j [.int .i64 o.x.op,.str w2,o.ac,.sl false 5 (Qm o.x.body),.sl false 5 (Qm o.x.els)]=(o1++o'::o2).map OSt.row:=by
    rw[←hrow',←Jam,hos,Qbg1 o1 o2 o o' hj1]
   have huok:u'.ok:=by
    rw[hu'];refine⟨hur.p,fun v hv=>?_,?_,by rw[Jl,Jv,ho']⟩
    ·rcases Je.1 hv with hv|hv
     ·exact hoo v (Jc _ hv)
     ·rcases Jr.1 hv with rfl|hv
      ·exact hok0
      ·exact hoo v (Ja _ hv)
    ·show Gr [(y,.vec 5 ((o1++o'::o2).map OSt.row))] 5 ((o1++o'::o2).map OSt.row) u.bc;rw[hbc];exact Gr.mk (n:=u.os.length) y 5 _ (by rw[hos];simp)
   have hA:obU z us=(us1.flatMap OFn.lg++(u.pl++u.os.flatMap OSt.al))++(y,.vec 5 (u.os.map OSt.row))::(us2.flatMap OFn.lg++[(z,.vec 3 (us1.map OFn.row++u.row::us2.map OFn.row))]):=by
    conv=>lhs;rw[hus]
    rw[Qahy,OFn.lg,hbl];simp only[Ji,Jx,Jz]
   have hal:(o1++o'::o2).flatMap OSt.al=u.os.flatMap OSt.al:=by
    rw[hos,ho'];simp
   have hA2:obU z (us1++u'::us2)=(us1.flatMap OFn.lg++(u.pl++u.os.flatMap OSt.al))++(y,.vec 5 ((o1++o'::o2).map OSt.row))::(us2.flatMap OFn.lg++[(z,.vec 3 (us1.map OFn.row++u.row::us2.map OFn.row))]):=by
    rw[Qahy,hu'];simp only[OFn.lg,OFn.row,hal,Ji,Jx,Jz]
   have kz2:Kn H H16 [(R.l,R.o (k2+1+1+1+1+1+1+1))] (([(x2,.st [.sl true 3 []]),(x3,.st [.vsl z 3 0 us.length])]++obU z (us1++u'::us2))++(x6,.st [.int .i64 2,.int .i64 0,.str w,.sl true 4 []])::[]):=by
    rw[hA2,←hrs];rw[hA]at kn;exact kn.stMid h16
   have g2:=kz2.l 0 rfl;have g3:=kz2.l 1 rfl;refine Qa ?_;simp only[go_sem,g2,g3];intro H17 h17;refine Qi ?_;try simp only[go_sem,AE.X.next]
   refine fin (us1++u'::us2) _ _ _ _ (hok' u' huok) (hlen' u') (hps' u' ?_) (by omega) kz2 (by simp) (fun p hp=>Jc _ (Ja _ hp)) h17;have hse:=o.x.size_eq;rw[hu'];simp only[Qbm,Qh];rw[hx'];simp only[St.size];omega
  ·refine Qe ?_;try simp only[go_sem,AE.X.next]
   refine Qa ?_;simp only[go_sem,g2,g3];intro H17 h17;refine Qi ?_;try simp only[go_sem,AE.X.next]
   exact fin us _ _ _ _ huo rfl (hsz1 us hux) (by omega) kn (by simp) (fun p hp=>Jc _ (Ja _ hp)) h17
 refine Qa ?_;simp only[go_sem];refine Qc rfl (fun hc2=>?_) (fun hc2=>?_)
 ·have hsl:sliC none (some 1) u.bc=.vsl y 5 0 1:=by rw[hbc];simp[sliC]
  have hokb:okSl H14 u.bc=True:=by rw[hbc];simp[okSl,gy]
  have hszb:u.bc.elemSz=5:=by rw[hbc];rfl
  have h1m:((1:Int)≤(u.os.length:Int))=True:=eq_true (by omega);refine Qag ?_;simp only[go_sem,gz,hi,htk,hrowb,hpo,hbo,hokb,hlnb,hszb,hsl,h1m,bnds,Option.map_none,Jap,Option.getD_none,Option.getD_some,Jd,Ju,Js];have hbx:(u.os.take 1).map OSt.x=u.f.body.take 1:=by rw[←hur.x,Ja5]
  have hrx:(u.os.map OSt.row).take 1=(u.os.take 1).map OSt.row:=by rw[Ja5]
  have hsz1':=Qa6 u.f.body 1;have hsl1:Slc H14 5 ((u.os.take 1).map OSt.row) (.vsl y 5 0 1):=by
   rw[←hrx];refine⟨by simp only[okSl,gy,Jd];exact⟨trivial,by omega⟩,rfl,by simp[rowsOf,gy],?_⟩;simp only[Qa7i,Jt,Jd];omega
  have hrd:SRd H14 ((u.os.take 1).map OSt.row) ((u.os.take 1).map OSt.x):=SRd.os (fun v hv=>hur.o v (Jar hv)) fun p hp=>by
   obtain⟨v,hv,hp⟩:=Jp.1 hp;exact kn.getL (Jc _ (Ja _ (Jc _ (Jp.2 ⟨u,hum,Ja _ (Jc _ (Jp.2 ⟨v,Jar hv,hp⟩))⟩))))
  refine⟨⟨by omega,by omega⟩,?_⟩;refine Qbp7 (Qh ((u.os.take 1).map OSt.x)) ((u.os.take 1).map OSt.x) _ (.vsl y 5 0 1) H14 _ (Js _) (by rw[hbx];omega) rfl hsl1 hrd fun os2 t2 Lb H15 hx2 ho2 hz2 k2n=>?_;have hlen2:os2.length≤1:=by
   have:=congrArg List.length hx2;rw[Jd,Jd,Jt]at this;omega
  have hto2:=hz2.isOw;have hA:obU z us=(us1.flatMap OFn.lg++(u.pl++u.os.flatMap OSt.al))++(y,.vec 5 (u.os.map OSt.row))::(us2.flatMap OFn.lg++[(z,.vec 3 (us.map OFn.row))]):=by
   conv=>lhs;rw[hus]
   rw[Qahy,OFn.lg,hbl];have:us.map OFn.row=us1.map OFn.row++u.row::us2.map OFn.row:=by rw[hus];simp
   rw[this];simp only[Ji,Jx,Jz]
  have kn:=kn.addNew k2n;have gz:H15 z=.vec 3 (us.map OFn.row):=kn.getL (by simp[obU]);rw[hA]at kn;have kn:Kn H H15 [(R.l,R.o (k2+1+1+1+1+1+1))] ((([(x2,.st [.sl true 3 []]),(x3,.st [.vsl z 3 0 us.length])]++(us1.flatMap OFn.lg++(u.pl++u.os.flatMap OSt.al)))++(us2.flatMap OFn.lg++(z,.vec 3 (us.map OFn.row))::((x6,.st [.int .i64 2,.int .i64 0,.str w,.sl true 4 []])::(os2.flatMap OSt.al++Lb))))++u.bl):=by
   rw[hbl];refine Kn.lastM ?_;simpa only[Ji,Jx,Jz]using kn
  simp only[go_sem,Qalz,gz,hi,htk,hrowb,hpo,hbo,Jd,Ju,Js];have hubl:u.os.length≤Qh u.f.body:=by
   have:=Qb8 u.f.body;rw[←hur.x,Jd]at this;rw[←hur.x];exact this
  refine kn.growR hur.b (Gr.slc2 hz2 k2n) (fun r hr=>by
   obtain⟨v,hv,rfl⟩:=Jw.1 hr;exact OSt.noOw (ho2 v hv)) (by simp only[Jd,LIM];omega) fun t3 L3 H16 hg3 hto3 kn=>?_
  have gz:H16 z=.vec 3 (us.map OFn.row):=kn.getL (by simp);simp only[go_sem,Qaly,gz,hi,htk,hrowb,hpo,hto3,Jd,Ju,Js];intro H17 h17;try simp only[go_sem,AE.X.next]
  obtain⟨u',hu'⟩:∃u':OFn,u'=⟨⟨u.f.name,u.f.params,u.f.body++u.f.body.take 1⟩,u.pc,u.pl,u.os++os2,t3,L3⟩:=⟨_,rfl⟩;have huok:u'.ok:=by
   rw[hu'];refine⟨hur.p,fun v hv=>?_,?_,by rw[Jl,hur.x,hx2,hbx]⟩
   ·rcases Je.1 hv with hv|hv
    ·exact hur.o v hv
    ·exact ho2 v hv
   ·show Gr L3 5 ((u.os++os2).map OSt.row) t3;rw[Jl];exact hg3
  have hrs:(us.map OFn.row).set i [.str u.f.name,u.pc,t3]=(us1++u'::us2).map OFn.row:=by
   have:[.str u.f.name,u.pc,t3]=u'.row:=by rw[hu'];rfl
   rw[this,←Jam]
   conv=>lhs;rw[hus,Qbg1 us1 us2 u u' hi1]
  rw[hrs]at h17;have kn:Kn H H16 [(R.l,R.o (k2+1+1+1+1+1+1))] (([(x2,.st [.sl true 3 []]),(x3,.st [.vsl z 3 0 us.length])]++((us1.flatMap OFn.lg++(u.pl++u.os.flatMap OSt.al))++us2.flatMap OFn.lg))++(z,.vec 3 (us.map OFn.row))::((x6,.st [.int .i64 2,.int .i64 0,.str w,.sl true 4 []])::((os2.flatMap OSt.al++Lb)++L3))):=by
   simpa only[Ji,Jx,Jz]using kn
  have kn:=kn.stM h17;have g2:=kn.l 0 rfl;have g3:=kn.l 1 rfl;refine Qa ?_;simp only[go_sem,g2,g3];intro H18 h18;refine Qi ?_;try simp only[go_sem,AE.X.next]
  refine fin (us1++u'::us2) _ _ _ _ (hok' u' huok) (hlen' u') (hps' u' ?_) (by omega) kn (by simp) (fun p hp=>?_) h18
  ·rw[hu'];simp only[Qbm];omega
  ·rcases Je.1 hp with hp|hp
   ·obtain⟨v,hv,hpv⟩:=Jp.1 hp;rcases Je.1 hv with hv|hv
    ·have:p∈us1.flatMap OFn.lg:=Jp.2 ⟨v,hv,hpv⟩;simp[this]
    ·rcases Jr.1 hv with rfl|hv
     ·rw[hu']at hpv;simp only[OFn.lg,Jad,Je]at hpv;rcases hpv with h|(h|h)|h
      ·simp only[Je,Jr,h,true_or,or_true]
      ·simp only[Je,Jr,h,true_or,or_true]
      ·simp only[Je,Jr,h,true_or,or_true]
      ·simp only[Je,Jr,h,true_or,or_true]
     ·have:p∈us2.flatMap OFn.lg:=Jp.2 ⟨v,hv,hpv⟩;simp only[Je,Jr,this,true_or,or_true]
   ·simp only[Jb]at hp;subst hp;simp
 ·refine Qe ?_;try simp only[go_sem,AE.X.next]
  exact last 2 0 w _ [] _ _ _ (by omega) kn rfl (fun H S=>FrzR.nil.sl) (by simp[Qp]) rfl rfl rfl rfl
end Go.AE.Y
namespace Go.AE.Y
attribute [local go_sem] cond_true cond_false Bool.not_true Bool.not_false
attribute [local instance] Classical.propDecidable
open Go.Proofs.Tryz
variable {H:Heap}{K:V→Heap→Prop}{bs:List UInt8}
theorem Q6w {fl:Bool}(hK:∀(l:List Fn) H',Upd H H' []→Qt l≤2^36→K (.ag [.sl false 3 (Q1 l)]) H') :
  Ql prog Qdh [.c (.sl fl 1 (Qci bs))] H K:=by
 refine Q0 ?_;refine Qb Qai Qvb ?_;refine Qa ?_;simp only[go_sem];intro x2 hx2 H1 h1;have kn:=(Kn.start0 H).al hx2 h1;refine Qa ?_;simp only[go_sem];refine Qbea fun R H2 hR h2=>?_;have kn:=kn.al hR h2 (R.o_ne 0);simp only[go_sem,Qfa];refine Qbi5 (kn.l 1 rfl) (by omega) fun l H3 k2 hk2 hu hsz=>?_;have kn:=kn.callL 1 rfl hu (R.o_ne _);have hx2:=kn.l 0 rfl;simp only[go_sem,Qe9,hx2];intro H4 h4;have kn:=kn.stL 0 rfl h4;have hx2:=kn.l 0 rfl;refine Qi ?_;simp only[go_sem,Qs,Q6,Qa74,Jb,forall_eq,RS.op,hx2];exact⟨_,(FrzL.cons (FrzR.same (Qd5 _)).sl .nil).ag,hK l _ kn.fin hsz⟩
end Go.AE.Y
namespace Go.AE.Y
attribute [local go_sem] cond_true cond_false Bool.not_true Bool.not_false
attribute [local instance] Classical.propDecidable
open Go.Proofs.Tryz
variable {H:Heap}{K:V→Heap→Prop}{fns:List Fn}
theorem Qa8b {fl:Bool}{k:Nat}(hf:Qt fns≤2^36)(g:GK H)(h:FineP fns)(hk:k<fns.length)(hK:∀H',Upd H H' []→K (.c (.sl false 1 (Qayh (Qagw fns k)))) H') :
  Ql prog Qnk [.ag [.sl fl 3 (Q1 fns)],.c (.int .i64 k)] H K:=by
 have hb:=(h.sizes k hk).1;have hl4:=h.len.2;refine Q0 ?_;refine Qb Qai Qauk ?_;refine Qa ?_;simp only[go_sem];refine Q4 ?_;refine Qa ?_;simp only[go_sem];refine Qa7a (by omega) g fun H1 hu=>?_;have kn:=(Kn.start0 H).call0 hu;rw[fine_iff.2 h];simp only[go_sem,Qrg,Qz];try intro _
 refine⟨Qo (by omega) (by omega),?_⟩;refine Qod ?_;simp only[go_sem,Qrf];refine Qf (Qc rfl (fun hc=>?_) (fun _=>?_))
 ·have:(decide ((0:Int)≤k)&&decide ((k:Int)≤(fns.length:Int)-1))=true:=by
   rw[Jo,decide_eq_true_eq,decide_eq_true_eq];omega
  simp[this]at hc;omega
 refine Qe ?_;try simp only[go_sem]
 refine Qa ?_;simp only[go_sem];refine Qbc0 h hk (by omega) fun H2 hu=>?_;have kn:=kn.call0 hu;simp only[go_sem,Qrh];refine Qi ?_;simp only[go_sem,Qs,Q6,Qm6,Jb,forall_eq,RS.op];exact⟨_,.c _ _ (FrzR.same (Qa2y _)).sl,hK _ kn.fin⟩
end Go.AE.Y
namespace Go.AE.Y
attribute [local go_sem] cond_true cond_false Bool.not_true Bool.not_false
open Go.Proofs.Tryz
variable {H H0:Heap}{K:V→Heap→Prop}
theorem Qaug {f g:Bool}{ns:List Int}(hK:K (.c (.bool true)) H):Ql prog Qu1 [.c (.sl f 1 (Qk ns)),.c (.sl g 1 (Qk ns))] H K:=by
 refine Qb Qai Qbji ?_;refine Qa ?_;simp only[go_sem];refine Q4 ?_;refine Qa ?_;simp only[go_sem,Qj,decide_true];intro hl;try intro _
 simp only[LIM]at hl;refine Qf (Qc rfl ?_ ?_)
 ·intro h;simp at h
 intro _;refine Qe ?_;try simp only[go_sem]
 refine Q4 ?_;refine Qa ?_;simp only[go_sem];try intro _
 refine Qf (Qd (Qw (fun m e1 H1=>∃(i:Nat),m=ns.length-i∧i≤ns.length∧H1=H∧lk 0 e1=.c (.sl f 1 (Qk ns))∧lk 1 e1=.c (.sl g 1 (Qk ns))∧lk 5 e1=.c (.int .i64 i)) ns.length ?_ ?_))
 ·exact⟨0,by omega,by omega,rfl,rfl,rfl,rfl⟩
 ·rintro m e1 H1 ⟨i,hm,hi,rfl,l0,l1,l5⟩;refine Q4 ?_;refine Qa ?_;simp only[go_sem,l0,l1,l5,Qj];try intro _
  refine Qf (Qc rfl ?_ ?_)
  ·intro hc;have hlt:i<ns.length:=by simpa using hc
   refine Qe ?_;try simp only[go_sem]
   refine Qf (Qd ?_);refine Qag ?_;simp only[go_sem,hlt,Qj,Qak _ _ hlt,decide_true];refine Qc rfl ?_ ?_
   ·intro h;simp at h
   intro _;refine Qe ?_;try simp only[go_sem]
   refine Qq ?_;simp only[go_sem];refine⟨Qo (by omega) (by omega),?_⟩;show ∃m,_;exact⟨ns.length-(i+1),by omega,i+1,rfl,by omega,rfl,rfl,rfl,rfl⟩
  ·intro hc;refine Qv ?_;simp only[go_sem,X.next];refine Qa ?_;simp only[go_sem];refine Qi ?_;simp only[go_sem,Qs,Q6,Qm6,Jb,forall_eq,RS.op];exact hK
theorem Qauh {p:BlkD}(hK:∀H',Upd H H' []→K (.c (.bool true)) H'):Ql prog Qnp [.ag p.cells,.ag p.cells] H K:=by
 refine Q0 ?_;refine Qb Qai Qauv ?_;refine Qa ?_;simp only[go_sem,BlkD.cells];refine Q4 ?_;refine Qa ?_;simp only[go_sem,Qct,Qc9,decide_true];intro hlp hli;simp only[LIM]at hlp hli;refine Qaug ?_;simp only[go_sem,Qsa];refine Qf (Qc rfl ?_ ?_)
 ·intro h;simp at h
 intro _;refine Qe ?_;try simp only[go_sem]
 refine Q4 ?_;refine Qa ?_;simp only[go_sem];refine Qf (Qd (Qw (fun m e1 H1=>∃(i:Nat),m=p.phis.length-i∧i≤p.phis.length∧H1=H∧lk 2 e1=.c (.pp p.cells)∧lk 3 e1=.c (.pp p.cells)∧lk 5 e1=.c (.int .i64 i)) p.phis.length ?_ ?_))
 ·exact⟨0,by omega,by omega,rfl,rfl,rfl,rfl⟩
 ·rintro m e1 H1 ⟨i,hm,hi,rfl,l2,l3,l5⟩;simp only[BlkD.cells]at l2 l3;refine Q4 ?_;refine Qa ?_;simp only[go_sem,l2,l3,l5,Qct];try intro _
  refine Qf (Qc rfl ?_ ?_)
  ·intro hc;have hlt:i<p.phis.length:=by simpa using hc
   obtain⟨x,hx⟩:∃x,p.phis[i]=x:=⟨_,rfl⟩;refine Qe ?_;try simp only[go_sem]
   refine Qf (Qd ?_);refine Qag ?_;simp only[go_sem,hlt,Qct,Qlv _ _ hlt,hx,PhiD.cells,decide_true];refine Qaug ?_;simp only[go_sem,Qsb];refine Qc rfl ?_ ?_
   ·intro h;simp at h
   intro _;refine Qe ?_;try simp only[go_sem]
   refine Qq ?_;simp only[go_sem];refine⟨Qo (by omega) (by omega),?_⟩;show ∃m,_;exact⟨p.phis.length-(i+1),by omega,i+1,rfl,by omega,rfl,rfl,rfl,rfl⟩
  ·intro hc;refine Qv ?_;simp only[go_sem,X.next];refine Q4 ?_;refine Qa ?_;simp only[go_sem];refine Qf (Qd (Qw (fun m e1 H2=>∃(i:Nat),m=p.ins.length-i∧i≤p.ins.length∧Kn H1 H2 [] []∧lk 2 e1=.c (.pp p.cells)∧lk 3 e1=.c (.pp p.cells)∧lk 6 e1=.c (.int .i64 i)) p.ins.length ?_ ?_))
   ·exact⟨0,by omega,by omega,.start0 H1,rfl,rfl,rfl⟩
   ·clear l2 l3 l5;rintro m e1 H2 ⟨i,hm,hi,kn,l2,l3,l6⟩;simp only[BlkD.cells]at l2 l3;refine Q4 ?_;refine Qa ?_;simp only[go_sem,l2,l3,l6,Qc9];try intro _
    refine Qf (Qc rfl ?_ ?_)
    ·intro hc;have hlt:i<p.ins.length:=(by simpa using hc);obtain⟨x,hx⟩:∃x,p.ins[i]=x:=⟨_,rfl⟩;refine Qe ?_;try simp only[go_sem]
     refine Qf (Qd ?_);refine Qa ?_;simp only[go_sem,hlt,Qc9,Qoe _ _ hlt,hx,InsD.cells];intro x7 hx7 H3 h3;have kn:=kn.al hx7 h3;have hx7:=kn.l 0 rfl;simp only[go_sem,Qsc,hx7];intro H4 h4;have kn:Kn H1 H4 [] [(x7,.st x.cells)]:=kn.stL 0 rfl h4;refine Qa ?_;simp only[go_sem,hlt,Qc9,Qoe _ _ hlt,hx,InsD.cells];intro x8 hx8 H5 h5;have kn:=kn.al hx8 h5;have hx8:=kn.l 1 rfl;simp only[go_sem,Qsd,hx8];intro H6 h6;have kn:Kn H1 H6 [] [(x7,.st x.cells),(x8,.st x.cells)]:=kn.stL 1 rfl h6;have hx7:H6 x7=.st x.cells:=kn.l 0 rfl;have hx8:H6 x8=.st x.cells:=kn.l 1 rfl;refine Qa ?_;simp only[go_sem,hx7,hx8,InsD.cells,decide_true];refine Qaug ?_;simp only[go_sem,Qse];refine Qc rfl ?_ ?_
     ·intro h;simp at h
     intro _;refine Qe ?_;try simp only[go_sem]
     refine Qq ?_;simp only[go_sem];refine⟨Qo (by omega) (by omega),?_⟩;show ∃m,_;exact⟨p.ins.length-(i+1),by omega,i+1,rfl,by omega,Kn.drop (A:=[]) (B:=[(x7,_),(x8,_)]) kn,rfl,rfl,rfl⟩
    ·intro hc;refine Qv ?_;simp only[go_sem,X.next];refine Qa ?_;simp only[go_sem];refine Qi ?_;simp only[go_sem,Qs,Q6,Qm6,Jb,forall_eq,RS.op];exact⟨_,.c _ _ (Qg rfl),hK _ kn.fin⟩
theorem Qaxp {p:CodeD}(hK:∀H',Upd H H' []→K (.c (.bool true)) H'):Ql prog Qp3 [.ag p.cells,.ag p.cells] H K:=by
 refine Q0 ?_;refine Qb Qai Qaya ?_;refine Qa ?_;simp only[go_sem,CodeD.cells];refine Q4 ?_;refine Qa ?_;simp only[go_sem,Qam,decide_true];intro hl;try intro _
 simp only[LIM]at hl;refine Qf (Qc rfl ?_ ?_)
 ·intro h;simp at h
 intro _;refine Qe ?_;try simp only[go_sem]
 refine Q4 ?_;refine Qa ?_;simp only[go_sem];refine Qf (Qd (Qw (fun m e1 H1=>∃(i:Nat),m=p.blocks.length-i∧i≤p.blocks.length∧Kn H H1 [] []∧lk 2 e1=.c (.pp [.int .i64 p.params,.int .i64 p.regs,.sl false 5 (Qaq p.blocks)])∧lk 3 e1=.c (.pp [.int .i64 p.params,.int .i64 p.regs,.sl false 5 (Qaq p.blocks)])∧lk 5 e1=.c (.int .i64 i)) p.blocks.length ?_ ?_))
 ·exact⟨0,by omega,by omega,.start0 H,rfl,rfl,rfl⟩
 ·rintro m e1 H1 ⟨i,hm,hi,kn,l2,l3,l5⟩;refine Q4 ?_;refine Qa ?_;simp only[go_sem,l2,l3,l5,Qam];try intro _
  refine Qf (Qc rfl ?_ ?_)
  ·intro hc;have hlt:i<p.blocks.length:=by simpa using hc
   obtain⟨x,hx⟩:∃x,p.blocks[i]=x:=⟨_,rfl⟩;refine Qe ?_;try simp only[go_sem]
   refine Qf (Qd ?_);refine Qag ?_;simp only[go_sem,hlt,Qam,Qdm _ _ hlt,hx,BlkD.cells];refine Qauh (p:=x) fun H2 hu=>?_;have kn:=kn.call0 hu;simp only[go_sem,Qyo];refine Qc rfl ?_ ?_
   ·intro h;simp at h
   intro _;refine Qe ?_;try simp only[go_sem]
   refine Qq ?_;simp only[go_sem];refine⟨Qo (by omega) (by omega),?_⟩;show ∃m,_;exact⟨p.blocks.length-(i+1),by omega,i+1,rfl,by omega,kn,rfl,rfl,rfl⟩
  ·intro hc;refine Qv ?_;simp only[go_sem,X.next];refine Qa ?_;simp only[go_sem];refine Qi ?_;simp only[go_sem,Qs,Q6,Qm6,Jb,forall_eq,RS.op];exact⟨_,.c _ _ (Qg rfl),hK _ kn.fin⟩
theorem Qq9 {f g:Bool}{cs:List CodeD}(hK:∀H',Upd H H' []→K (.c (.bool true)) H'):Ql prog Qfs [.ag [.sl f 3 (Q2 cs)],.ag [.sl g 3 (Q2 cs)]] H K:=by
 refine Q0 ?_;refine Qb Qai Qaop ?_;refine Qa ?_;simp only[go_sem];refine Q4 ?_;refine Qa ?_;simp only[go_sem,Qaj,decide_true];intro hl;try intro _
 simp only[LIM]at hl;refine Qf (Qc rfl ?_ ?_)
 ·intro h;simp at h
 intro _;refine Qe ?_;try simp only[go_sem]
 refine Q4 ?_;refine Qa ?_;simp only[go_sem];refine Qf (Qd (Qw (fun m e1 H1=>∃(i:Nat),m=cs.length-i∧i≤cs.length∧Kn H H1 [] []∧lk 2 e1=.c (.pp [.sl f 3 (Q2 cs)])∧lk 3 e1=.c (.pp [.sl g 3 (Q2 cs)])∧lk 5 e1=.c (.int .i64 i)) cs.length ?_ ?_))
 ·exact⟨0,by omega,by omega,.start0 H,rfl,rfl,rfl⟩
 ·rintro m e1 H1 ⟨i,hm,hi,kn,l2,l3,l5⟩;refine Q4 ?_;refine Qa ?_;simp only[go_sem,l2,l3,l5,Qaj];try intro _
  refine Qf (Qc rfl ?_ ?_)
  ·intro hc;have hlt:i<cs.length:=by simpa using hc
   obtain⟨x,hx⟩:∃x,cs[i]=x:=⟨_,rfl⟩;refine Qe ?_;try simp only[go_sem]
   refine Qf (Qd ?_);refine Qag ?_;simp only[go_sem,hlt,Qaj,Qbh _ _ hlt,hx,CodeD.cells];refine Qaxp (p:=x) fun H2 hu=>?_;have kn:=kn.call0 hu;simp only[go_sem,Qpg];refine Qc rfl ?_ ?_
   ·intro h;simp at h
   intro _;refine Qe ?_;try simp only[go_sem]
   refine Qq ?_;simp only[go_sem];refine⟨Qo (by omega) (by omega),?_⟩;show ∃m,_;exact⟨cs.length-(i+1),by omega,i+1,rfl,by omega,kn,rfl,rfl,rfl⟩
  ·intro hc;refine Qv ?_;simp only[go_sem,X.next];refine Qa ?_;simp only[go_sem];refine Qi ?_;simp only[go_sem,Qs,Q6,Qm6,Jb,forall_eq,RS.op];exact⟨_,.c _ _ (Qg rfl),hK _ kn.fin⟩
end Go.AE.Y
namespace Go.AE.Y
attribute [local go_sem] cond_true cond_false Bool.not_true Bool.not_false
open Go.Proofs.Tryz
variable {H:Heap}{K:V→Heap→Prop}
attribute [local instance] Classical.propDecidable
def Qbq0 (x:InsD):Option Nat:=if Q7h x.op then some x.to.toNat else none
def toN (l:List Int):List Nat:=l.map Int.toNat
def Qbqu (q:CodeD)(b m:Nat):List Nat:=(((q.blocks[m]?.map BlkD.phis).getD []).map fun p=>(p.args.getD ((Qcm (gnx q) (m:Int) q.blocks.length).idxOf (b:Int)) 0).toNat)
def Qbqw (q:CodeD):Flo where
 n:=q.blocks.length
 nx b:=nxN (gnx q) b
 on b:=match q.blocks[b]? with
  |some y=>if y.jump=1 then []else [y.on.toNat]
  |none=>[]
 ins b:=match q.blocks[b]? with
  |some y=>y.ins.map fun x=>(Qbq0 x,toN x.args)
  |none=>[]
 ph b:=match q.blocks[b]? with
  |some y=>y.phis.map fun p=>p.to.toNat
  |none=>[]
 ea:=Qbqu q
def rIn (q:CodeD)(v:Int):Prop:=0≤v∧v<q.regs
structure BlkD.ok (q:CodeD)(b:Nat)(y:BlkD):Prop where
 nxl:y.next.length≤2
 nx:∀v∈y.next,1≤v∧v<q.blocks.length
 jmp:y.jump=1∨y.jump=2∨y.jump=3
 on:¬y.jump=1→rIn q y.on
 args:∀x∈y.ins,∀v∈x.args,rIn q v
 to:∀x∈y.ins,Q7h x.op=true→rIn q x.to
 pto:∀p∈y.phis,rIn q p.to
 pargs:∀p∈y.phis,∀v∈p.args,rIn q v
 pal:∀p∈y.phis,p.args.length=(Qcm (gnx q) (b:Int) q.blocks.length).length
 al:∀x∈y.ins,x.args.length≤3
structure CodeD.ok (q:CodeD):Prop where
 r0:0≤q.regs
 r1:q.regs≤300
 b0:0<q.blocks.length
 b1:q.blocks.length≤160
 bs:∀(b:Nat) (h:b<q.blocks.length),q.blocks[b].ok q b
 il:∀(b:Nat) (h:b<q.blocks.length),q.blocks[b].ins.length≤1200∧q.blocks[b].phis.length≤1200
theorem Qa7q {α:Type}{f:α→Nat}{l:List α}{x:α}(h:x∈l):f x≤Q0l f l:=by
 induction l with
 |nil=>simp at h
 |cons y l ih=>
  simp only[Q0l,Jv,List.sum_cons]at *;rcases Jr.1 h with rfl|h
  ·omega
  ·have:=ih h;omega
theorem Qboa {cs:List CodeD}(h:Qabz cs=true){k:Nat}(hk:k<cs.length):cs[k].ok:=by
 obtain⟨_,h2,h3⟩:=of_decide_eq_true h;obtain⟨g1,g2⟩:=h2 k hk;simp only[Q9b,Jo,decide_eq_true_eq]at g1;refine⟨by omega,by omega,by omega,by omega,fun b hb=>?_,fun b hb=>?_⟩
 ·have g:=g2 b hb;simp only[blkG,Jo]at g;obtain⟨⟨⟨j,nx⟩,ins⟩,ph⟩:=g;simp only[Q4i,Jo,decide_eq_true_eq]at j;obtain⟨j1,j2⟩:=j;rw[Jai]at nx ins ph;have hj:(cs[k].blocks[b].jump=1∨cs[k].blocks[b].jump=2∨cs[k].blocks[b].jump=3)∧cs[k].blocks[b].next.length≤2:=by
   rw[Qvc]at j1;split at j1
   ·omega
   ·split at j1
    ·omega
    ·split at j1 <;> omega
  have hi:∀x∈cs[k].blocks[b].ins,(∀v∈x.args,rIn cs[k] v)∧(Q7h x.op=true→rIn cs[k] x.to):=fun x hx=>by
   have:=ins x hx;simp only[insG,insH,Qvr,Jo,Jai,decide_eq_true_eq,Qa25 hk]at this;obtain⟨⟨⟨_,a1⟩,a2⟩,_⟩:=this;refine⟨fun v hv=>by have:=a1 v hv;exact⟨by omega,by omega⟩,fun hm=>?_⟩;rw[insT,hm,if_pos rfl,decide_eq_true_eq]at a2;exact⟨by omega,by omega⟩
  have hal:∀x∈cs[k].blocks[b].ins,x.args.length≤3:=fun x hx=>by
   have:=ins x hx;simp only[insG,Jo]at this;have h3:=this.2;rw[insL]at h3;split at h3
   ·simp only[Jo,decide_eq_true_eq]at h3;have hn:x.n.toNat<cs.length:=(by omega);have:=(h2 x.n.toNat hn).1;simp only[Q9b,Jo,decide_eq_true_eq]at this;rw[Qa22 hn]at h3;omega
   ·simp only[Jo,decide_eq_true_eq]at h3;have:=Qbhq (op:=x.op);omega
  have hp:∀p∈cs[k].blocks[b].phis,rIn cs[k] p.to∧(∀v∈p.args,rIn cs[k] v)∧p.args.length=(Qcm (gnx cs[k]) (b:Int) cs[k].blocks.length).length:=fun p hp=>by
   have:=ph p hp;simp only[phiG,Qvr,Jo,Jai,decide_eq_true_eq,Qam]at this;obtain⟨⟨⟨_,a1⟩,a2⟩,a3⟩:=this;have hgn:(fun i=>(cs[k].blocks.map BlkD.next).getD i [])=gnx cs[k]:=rfl;rw[hgn]at a1;exact⟨⟨by omega,by omega⟩,fun v hv=>by have:=a2 v hv;exact⟨by omega,by omega⟩,by omega⟩
  refine⟨hj.2,fun v hv=>?_,hj.1,fun hn=>?_,fun x hx=>(hi x hx).1,fun x hx=>(hi x hx).2,fun p h=>(hp p h).1,fun p h=>(hp p h).2.1,fun p h=>(hp p h).2.2,hal⟩
  ·have:=nx v hv;simp only[Qadx,decide_eq_true_eq,Qam]at this;omega
  ·rw[if_neg hn,decide_eq_true_eq]at j2;exact⟨by omega,by omega⟩
 ·have a1:=Qa7q (f:=cntQ) (Jj hk);have a2:=Qa7q (f:=cntY) (Jj hb);simp only[cntQ,cntY]at *;omega
variable {q:CodeD}
theorem Qbo2 {b:Nat}(h:b<q.blocks.length):gnx q b=q.blocks[b].next:=by simp[gnx,Jg,h]
theorem CodeD.ok.next (h:q.ok){b m:Nat}(hb:b<q.blocks.length)(hm:m∈(Qbqw q).nx b):m<q.blocks.length∧(m:Int)∈gnx q b:=by
 obtain⟨v,hv,rfl⟩:=Jw.1 hm;have hv':=hv;rw[Qbo2 hb]at hv';have:=(h.bs b hb).nx v hv';refine⟨by omega,?_⟩;have e:((v.toNat:Nat):Int)=v:=by omega
 rw[e];exact hv
theorem IsIx.idx {ns:List Int}{v r:Int}(h:IsIx ns v r)(hm:v∈ns):r=(ns.idxOf v:Nat):=by
 rcases h with ⟨_,hn⟩|⟨i,rfl,h1,h2,h3⟩
 ·exact absurd hm hn
 ·have h4:ns[i]=v:=by rw[←h2,Jg,Jah h1];rfl
  have h5:ns.idxOf v=i:=by
   have e:ns=ns.take i++ns[i]::ns.drop (i+1):=by rw[←List.drop_eq_getElem_cons h1,Jan]
   rw[e,List.idxOf_append,if_neg h3,h4];simp[Jt];omega
  rw[h5]
end Go.AE.Y
namespace Go.AE.Y
attribute [local go_sem] cond_true cond_false Bool.not_true Bool.not_false
attribute [local instance] Classical.propDecidable
open Go.Proofs.Tryz
variable {H:Heap}{K:V→Heap→Prop}{bs:List UInt8}
def cxI (l:List InsD):List Int:=(l.filter fun x=>decide (x.op=14)).map InsD.n
theorem Qbl5 (a b:List BlkD):cxs (a++b)=cxs a++cxs b:=by simp[cxs]
theorem Qa62 {l:List BlkD}{i:Nat}(h:i<l.length):cxs (l.take (i+1))=cxs (l.take i)++cxI l[i].ins:=by
 rw[Jf h,Qbl5];simp[cxs,cxI]
theorem Qbhw {l:List InsD}{i:Nat}(h:i<l.length):cxI (l.take (i+1))=cxI (l.take i)++if l[i].op=14 then [l[i].n]else []:=by
 rw[Jf h,cxI,cxI,List.filter_append,Jl];congr 1;by_cases h14:l[i].op=14 <;> simp[h14]
theorem Qbc8 (l:List InsD):(cxI l).length≤l.length:=by rw[cxI,Jd];exact List.length_filter_le _ _
theorem Qa15 {cd:CodeD}(ho:cd.ok):∀n,n≤cd.blocks.length→(cxs (cd.blocks.take n)).length≤n * 1200
 |0,_=>by simp[cxs]
 |n+1,h=>by
  have h1:=Qa15 ho n (by omega);have h2:=Qbc8 (cd.blocks[n]'(by omega)).ins;have h3:=(ho.il n (by omega)).1;rw[Qa62 (by omega),Jag];omega
theorem Qbi9 {fns:List Fn}(h:FineP fns){k:Nat}(hk:k<fns.length)(n:Int):(n∈(Qagw fns k).map Int.ofNat)↔n∈cxs (Qlj (-1) fns fns[k]).blocks:=by
 rw[Qbei h (-1) hk n];constructor
 ·intro hm;obtain⟨j,hj,rfl⟩:=Jw.1 hm;exact⟨j,rfl,(ascL_mem.1 hj).2⟩
 ·rintro⟨j,rfl,hc⟩;exact Jw.2 ⟨j,ascL_mem.2 ⟨Nat.lt_trans (h.cls_lt hc) hk,hc⟩,rfl⟩
theorem FnLowerCalls_c (g:GK H)(hK:∀H',K (.c (.bool true)) H'):Ql prog Qmx [.c (.sl false 1 (Qci bs))] H K:=by
 have g0:=g;refine Qb Qai Q9n ?_;have retT':∀(e:Env) (H':Heap),lk 2 e=.c (.bool true)→Qs Qer K .ret e H':=by
  intro e H' h2;simp only[go_sem,Qs,Q6,Qer,Jb,forall_eq,RS.op,h2];exact hK H'
 refine Qa ?_;simp only[go_sem];refine Q4 ?_;refine Qa ?_;simp only[go_sem,Qb5];intro _;refine Qf (Qc rfl (fun hc=>?_) (fun hc=>?_))
 ·refine Qa ?_;simp only[go_sem];refine Qi ?_;exact retT' _ _ rfl
 refine Qe ?_;try simp only[go_sem]
 refine Qa ?_;simp only[go_sem];refine Q6w fun fns H1 hu hsz=>?_;have kn:=(Kn.start0 H).call0 hu;simp only[go_sem,Qj9];intro x3 hx3 H2 h2;have kn:=kn.al hx3 h2;have hx3:=kn.l 0 rfl;simp only[go_sem,Qj8,hx3];intro H3 h3;have kn:Kn H H3 [] [(x3,.st [.sl false 3 (Q1 fns)])]:=kn.stL 0 rfl h3;have hx3:=kn.l 0 rfl;refine Qa ?_;simp only[go_sem,hx3];refine Qbdu hsz (g0.kn kn) fun H4 hu hfit=>?_;have kn:=kn.call0 hu;simp only[go_sem,Qkc,Jat,Jas];intro x4 hx4 H5 h5;have kn:=kn.al hx4 h5;have hx4:=kn.l 1 rfl;simp only[go_sem,Qkb,hx4];intro H6 h6;have kn:Kn H H6 [] [(x3,.st [.sl false 3 (Q1 fns)]),(x4,.st [.sl false 3 (Q2 (lowP fns))])]:=kn.stL 1 rfl h6;have hx3:=kn.l 0 rfl;simp only[go_sem,Qka];refine Qa ?_;simp only[go_sem,hx3];refine Qbg5 hsz fun H7 hu _=>?_;have kn:=kn.call0 hu;simp only[go_sem,Qkf,Jat,Jas];intro x6 hx6 H8 h8;have kn:=kn.al hx6 h8;have hx6:=kn.l 2 rfl;simp only[go_sem,Qke,hx6];intro H9 h9;have kn:Kn H H9 [] [(x3,.st [.sl false 3 (Q1 fns)]),(x4,.st [.sl false 3 (Q2 (lowP fns))]),(x6,.st [.sl false 3 (Q2 (lowP fns))])]:=kn.stL 2 rfl h9;have hx4:=kn.l 1 rfl;have hx6:=kn.l 2 rfl;simp only[go_sem,Qkd];refine Q4 ?_
 cases hg:lowB fns with
 |false=>
  refine Qa ?_;simp only[go_sem,hx4,hx6];refine Qq9 fun H10 hu=>?_;have kn:=kn.call0 hu;have hx4:=kn.l 1 rfl;have hx6:=kn.l 2 rfl;simp only[go_sem,Qej];refine Qf (Qc rfl ?_ ?_)
  ·intro _;refine Qa ?_;simp only[go_sem,hx4,hx6];refine Qq9 fun H11 hu=>?_;simp only[go_sem,Qix];refine Qi ?_;exact retT' _ _ rfl
  ·intro h;simp at h
 |true=>
  have hP:lowP fns=Qba (-1) fns:=by rw[lowP,if_pos hg]
  have hfine:FineP fns:=by
   rw[lowB,Jo]at hg;exact fine_iff.1 hg.1
  rw[hP]at kn hx4 hx6 hfit;refine Qa ?_;simp only[go_sem,hx4,hx6];refine Qq9 fun H10 hu=>?_;have kn:=kn.call0 hu;have hx4:=kn.l 1 rfl;simp only[go_sem,Qej];refine Qf (Qc rfl (fun h=>by simp at h) (fun _=>?_));refine Qe ?_;try simp only[go_sem]
  refine Q4 ?_;refine Qa ?_;simp only[go_sem,hx4,Qaj];try intro _
  have kn0:Kn H H10 [] [(x3,.st [.sl false 3 (Q1 fns)])]:=kn.sub (.cons_cons _ (List.nil_sublist _));have hl4:=hfine.len.2;have hul:(Qba (-1) fns).length=fns.length:=by simp[Qba]
  obtain⟨us,hus⟩:∃us,Qba (-1) fns=us:=⟨_,rfl⟩;have hug:Qabz us=true:=by
   rw[←hus];rw[lowB,Jo]at hg;exact hg.2
  rw[hus]at hul hfit⊢;refine Qf (Qd (Qw (fun m e1 H1=>∃(k:Nat),m=us.length-k∧k≤us.length∧Kn H H1 [] [(x3,.st [.sl false 3 (Q1 fns)])]∧
   e1=[(3,.c (.ptr x3 0)),(59,.c (.sl false 3 (Q2 us))),(60,.c (.int .i64 us.length)),(61,.c (.int .i64 k))]) us.length ?_ ?_))
  ·exact⟨0,by omega,by omega,kn0,rfl⟩
  ·rintro m e1 H11 ⟨k,hm,hk,kn,rfl⟩;refine Qa ?_;simp only[go_sem];refine Qf (Qc rfl ?_ ?_)
   ·intro hc;have hlt:k<us.length:=(by simpa using hc);have hkf:k<fns.length:=(by omega);obtain⟨cd,hcd⟩:∃cd,us[k]=cd:=⟨_,rfl⟩;have hcl:cd=Qlj (-1) fns fns[k]:=(by rw[←hcd];subst hus;simp[Qba]);have hok:cd.ok:=(by rw[←hcd];exact Qboa hug hlt);have hb160:=hok.b1;refine Qe ?_;try simp only[go_sem]
    refine Qf (Qd ?_);refine Qa ?_;simp only[go_sem,hlt,Qaj,Qbh _ _ hlt,hcd,CodeD.cells];intro x9 hx9 H12 h12;have kn:=kn.al hx9 h12;have g9:=kn.l 1 rfl;simp only[go_sem,Qiy,g9];intro H13 h13;have kn:Kn H H13 [] [(x3,.st [.sl false 3 (Q1 fns)]),(x9,.st [.int .i64 cd.params,.int .i64 cd.regs,.sl false 5 (Qaq cd.blocks)])]:=kn.stL 1 rfl h13;refine Qa ?_;simp only[go_sem];refine Q4 ?_;have gx3:=kn.l 0 rfl;refine Qa ?_;simp only[go_sem,gx3];refine Qa8b hsz (g0.kn kn) hfine hkf fun H14 hu=>?_;have kn:=kn.call0 hu;obtain⟨cl,hcle⟩:∃cl:List Int,(Qagw fns k).map Int.ofNat=cl:=⟨_,rfl⟩;have hnat:Qayh (Qagw fns k)=Qk cl:=(by rw[←hcle];simp[Qayh]);rw[hnat];simp only[go_sem,Qiz,Qj];have hcl4:cl.length≤4:=by
     rw[←hcle,Jd];exact Ja6 Qblx hl4
    intro _;refine Qf (Qd (Qw (fun m e1 H1=>∃(j:Nat) (t:C) (Lg:List (Nat×Obj)),m=cl.length-j∧j≤cl.length∧Gr Lg 1 (Qk (cl.take j)) t∧
     Kn H H1 [] ([(x3,.st [.sl false 3 (Q1 fns)]),(x9,.st [.int .i64 cd.params,.int .i64 cd.regs,.sl false 5 (Qaq cd.blocks)])]++Lg)∧
     e1=[(3,.c (.ptr x3 0)),(9,.c (.ptr x9 0)),(10,.c t),(59,.c (.sl false 3 (Q2 us))),(60,.c (.int .i64 us.length)),(61,.c (.int .i64 k)),(69,.c (.sl false 1 (Qk cl))),(70,.c (.int .i64 cl.length)),(71,.c (.int .i64 j))]) cl.length ?_ ?_))
    ·exact⟨0,_,[],by omega,by omega,.nil 1,by simpa using kn,rfl⟩
    ·clear kn gx3 g9;rintro m2 e1 H15 ⟨j,t,Lg,hm2,hj,hgr,kn,rfl⟩;have hto:=hgr.isOw;refine Qa ?_;simp only[go_sem,hto];refine Qf (Qc rfl ?_ ?_)
     ·intro hc2;have hlj:j<cl.length:=(by simpa using hc2);refine Qe ?_;try simp only[go_sem]
      refine Qf (Qd ?_);refine Qa ?_;simp only[go_sem,hto,hlj,Qj,Qak _ _ hlj];refine Qq ?_;simp only[go_sem,hto];refine kn.growR hgr (new:=Qk [cl.getD j 0]) (.mk' _ true 1 _) (Qal _) (by simp only[Qj,Jt,Jk,Jh,LIM];omega) fun t2 Lg2 H16 hgr2 hto2 kn=>?_;rw[←Qhd]at hgr2;simp only[go_sem,Qi0,hto2];refine Qq ?_;simp only[go_sem,AE.X.next,hto2];exact⟨Qo (by omega) (by omega),cl.length-(j+1),by omega,j+1,t2,Lg2,rfl,by omega,by rw[Jf hlj,show cl[j]=cl.getD j 0 by simp[Jg,hlj]];exact hgr2,kn,rfl⟩
     ·intro hc2;have hge:cl.length≤j:=(by simpa using hc2);rw[Jm hge]at hgr;refine Qv ?_;simp only[go_sem,AE.X.next];refine Qa ?_;simp only[go_sem,hto];refine Q4 ?_;have gx9:=kn.l 1 rfl;refine Qa ?_;simp only[go_sem,gx9,hto,Qam];intro _;have kn:Kn H H15 [] (([(x3,.st [.sl false 3 (Q1 fns)])]++Lg)++[]):=by
       rw[J3];exact kn.sub (.cons_cons _ (.cons _ (List.Sublist.refl _)))
      refine Qf (Qd (Qw (fun m e1 H1=>∃(b:Nat) (t2:C) (Lg2:List (Nat×Obj)),m=cd.blocks.length-b∧b≤cd.blocks.length∧Gr Lg2 1 (Qk (cxs (cd.blocks.take b))) t2∧
       Kn H H1 [] (([(x3,.st [.sl false 3 (Q1 fns)])]++Lg)++Lg2)∧
       e1=[(3,.c (.ptr x3 0)),(10,.c t),(13,.c t2),(59,.c (.sl false 3 (Q2 us))),(60,.c (.int .i64 us.length)),(61,.c (.int .i64 k)),(82,.c (.sl false 5 (Qaq cd.blocks))),(83,.c (.int .i64 cd.blocks.length)),(84,.c (.int .i64 b))]) cd.blocks.length ?_ ?_))
      ·exact⟨0,_,[],by omega,by omega,.nil 1,kn,rfl⟩
      ·clear kn gx9;rintro m3 e1 H16 ⟨b,t2,Lg2,hm3,hb,hgr2,kn,rfl⟩;have hto2:=hgr2.isOw;refine Qa ?_;simp only[go_sem,hto,hto2];refine Qf (Qc rfl ?_ ?_)
       ·intro hc3;have hlb:b<cd.blocks.length:=(by simpa using hc3);obtain⟨y,hy⟩:∃y,cd.blocks[b]=y:=⟨_,rfl⟩;have hil:y.ins.length≤1200:=(by rw[←hy];exact (hok.il b hlb).1);have hcb:=Qa15 hok b (by omega);refine Qe ?_;try simp only[go_sem]
        refine Qf (Qd ?_);refine Qa ?_;simp only[go_sem,hto,hto2,hlb,Qam,Qdm _ _ hlb,BlkD.cells,hy];intro x15 hx15 H17 h17;have kn:=kn.al hx15 h17;have gx:H17 x15=.st [.sl true 2 [],.sl true 4 [],.int .i64 0,.int .i64 0,.sl true 1 []]:=(kn.get (x15,.st [.sl true 2 [],.sl true 4 [],.int .i64 0,.int .i64 0,.sl true 1 []]) (by simp)).1;simp only[go_sem,Qi1,gx,hto,hto2];intro H18 h18;have kn:Kn H H17 [] ([(x15,.st [.sl true 2 [],.sl true 4 [],.int .i64 0,.int .i64 0,.sl true 1 []])]++(([(x3,.st [.sl false 3 (Q1 fns)])]++Lg)++Lg2)):=kn.perm Jn;have kn:Kn H H18 [] ([(x15,.st [.sl false 2 (Qgk y.phis),.sl false 4 (Qmq y.ins),.int .i64 y.jump,.int .i64 y.on,.sl false 1 (Qk y.next)])]++(([(x3,.st [.sl false 3 (Q1 fns)])]++Lg)++Lg2)):=kn.stL 0 rfl h18;have gx:H18 x15=.st [.sl false 2 (Qgk y.phis),.sl false 4 (Qmq y.ins),.int .i64 y.jump,.int .i64 y.on,.sl false 1 (Qk y.next)]:=kn.l 0 rfl;have kn:Kn H H18 [] (([(x3,.st [.sl false 3 (Q1 fns)])]++Lg)++Lg2):=Kn.drop (B:=[(x15,_)]) (kn.perm Jn);refine Qa ?_;simp only[go_sem,gx,hto,hto2,Qc9];try intro _
        refine Qd (Qw (fun m e1 H1=>∃(j:Nat) (t2:C) (Lg2:List (Nat×Obj)),m=y.ins.length-j∧j≤y.ins.length∧Gr Lg2 1 (Qk (cxs (cd.blocks.take b)++cxI (y.ins.take j))) t2∧
         Kn H H1 [] (([(x3,.st [.sl false 3 (Q1 fns)])]++Lg)++Lg2)∧
         e1=[(3,.c (.ptr x3 0)),(10,.c t),(13,.c t2),(59,.c (.sl false 3 (Q2 us))),(60,.c (.int .i64 us.length)),(61,.c (.int .i64 k)),(82,.c (.sl false 5 (Qaq cd.blocks))),(83,.c (.int .i64 cd.blocks.length)),(84,.c (.int .i64 b)),(89,.c (.sl false 4 (Qmq y.ins))),(90,.c (.int .i64 y.ins.length)),(91,.c (.int .i64 j))]) y.ins.length ?_ ?_)
        ·exact⟨0,t2,Lg2,by omega,by omega,by simpa[cxI]using hgr2,kn,rfl⟩
        ·clear kn gx hgr2 hto2;rintro m4 e1 H19 ⟨j,t2,Lg2,hm4,hj,hgr2,kn,rfl⟩;have hto2:=hgr2.isOw;refine Qa ?_;simp only[go_sem,hto,hto2];refine Qf (Qc rfl ?_ ?_)
         ·intro hc4;have hlj:j<y.ins.length:=(by simpa using hc4);obtain⟨x,hx⟩:∃x,y.ins[j]=x:=⟨_,rfl⟩;have hsucc:=Qbhw hlj;rw[hx]at hsucc;have hcl2:=Ja6 (Qbc8 (y.ins.take j)) (List.length_take_le j y.ins);refine Qe ?_;try simp only[go_sem]
          refine Qf (Qd ?_);refine Qa ?_;simp only[go_sem,hto,hto2,hlj,Qc9,Qoe _ _ hlj,InsD.cells,hx];intro x17 hx17 H20 h20;have kn:=kn.al hx17 h20;have gx:H20 x17=.st [.int .i64 0,.int .i64 0,.sl true 1 [],.int .i64 0]:=(kn.get (x17,.st [.int .i64 0,.int .i64 0,.sl true 1 [],.int .i64 0]) (by simp)).1;simp only[go_sem,Qi2,gx,hto,hto2];intro H21 h21;have kn:Kn H H20 [] ([(x17,.st [.int .i64 0,.int .i64 0,.sl true 1 [],.int .i64 0])]++(([(x3,.st [.sl false 3 (Q1 fns)])]++Lg)++Lg2)):=kn.perm Jn;have kn:Kn H H21 [] ([(x17,.st [.int .i64 x.op,.int .i64 x.to,.sl false 1 (Qk x.args),.int .i64 x.n])]++(([(x3,.st [.sl false 3 (Q1 fns)])]++Lg)++Lg2)):=kn.stL 0 rfl h21;have gx:H21 x17=.st [.int .i64 x.op,.int .i64 x.to,.sl false 1 (Qk x.args),.int .i64 x.n]:=kn.l 0 rfl;have kn:Kn H H21 [] (([(x3,.st [.sl false 3 (Q1 fns)])]++Lg)++Lg2):=Kn.drop (B:=[(x17,_)]) (kn.perm Jn);refine Qa ?_;simp only[go_sem,gx,hto,hto2];refine Qc rfl ?_ ?_
          ·intro hc5;have h14:x.op=14:=(by simpa using hc5);rw[if_pos h14]at hsucc;refine Qq ?_;simp only[go_sem,gx,hto,hto2];refine kn.growR hgr2 (new:=Qk [x.n]) (.mk' _ true 1 _) (Qal _) (by simp only[Qj,Jag,Jk,Jh,LIM];omega) fun t3 Lg3 H22 hgr3 hto3 kn=>?_;rw[←Qhd]at hgr3;simp only[go_sem,Qi3,hto,hto3,AE.X.next];refine Qq ?_;simp only[go_sem,AE.X.next,hto,hto3];exact⟨Qo (by omega) (by omega),y.ins.length-(j+1),by omega,j+1,t3,Lg3,rfl,by omega,by rw[hsucc,←Ji];exact hgr3,kn,rfl⟩
          ·intro hc5;have h14:¬x.op=14:=(by simpa using hc5);rw[if_neg h14,J3]at hsucc;refine Qe ?_;try simp only[go_sem,AE.X.next]
           refine Qq ?_;simp only[go_sem,AE.X.next,hto,hto2];exact⟨Qo (by omega) (by omega),y.ins.length-(j+1),by omega,j+1,t2,Lg2,rfl,by omega,by rw[hsucc];exact hgr2,kn,rfl⟩
         ·intro hc4;have hge:y.ins.length≤j:=(by simpa using hc4);rw[Jm hge]at hgr2;refine Qv ?_;simp only[go_sem,AE.X.next];refine Qq ?_;simp only[go_sem,AE.X.next,hto,hto2];exact⟨Qo (by omega) (by omega),cd.blocks.length-(b+1),by omega,b+1,t2,Lg2,rfl,by omega,by rw[Qa62 hlb,hy];exact hgr2,kn,rfl⟩
       ·intro hc3;have hge:cd.blocks.length≤b:=(by simpa using hc3);rw[Jm hge]at hgr2;refine Qv ?_;simp only[go_sem,AE.X.next];have hsame:∀n,n∈cl↔n∈cxs cd.blocks:=by
         intro n;rw[←hcle,hcl];exact Qbi9 hfine hkf n
        have hs1:Slc H16 1 (Qk cl) t:=Gr.slcM hgr kn fun p hp=>Jc _ (Ja _ hp);have hs2:Slc H16 1 (Qk (cxs cd.blocks)) t2:=Gr.slc2 hgr2 kn;have knx:Kn H H16 [] [(x3,.st [.sl false 3 (Q1 fns)])]:=Kn.drop (B:=Lg) (Kn.drop (B:=Lg2) kn);clear kn hgr hgr2;have hok1:=eq_true hs1.ok;have hlen1:=hs1.len;have hsz1:=hs1.sz;have hrw1:=hs1.rows;have hok2:=eq_true hs2.ok;have hlen2:=hs2.len;have hsz2:=hs2.sz;have hrw2:=hs2.rows;obtain⟨md,hmd⟩:∃md,cxs cd.blocks=md:=⟨_,rfl⟩;have hmdl:md.length≤192000:=by
         have:=Qa15 hok cd.blocks.length (Js _);rw[Ja2,hmd]at this;omega
        rw[hmd]at hs2 hlen2 hrw2 hsame;refine Qa ?_;simp only[go_sem,hto,hto2,hok1,hlen1,Qj];try intro _
        refine Qf (Qd (Qw (fun m e1 H1=>∃(j:Nat),m=cl.length-j∧j≤cl.length∧H1=H16∧
         e1=[(3,.c (.ptr x3 0)),(10,.c t),(13,.c t2),(59,.c (.sl false 3 (Q2 us))),(60,.c (.int .i64 us.length)),(61,.c (.int .i64 k)),(105,.c t),(106,.c (.int .i64 cl.length)),(107,.c (.int .i64 j))]) cl.length ?_ ?_))
        ·exact⟨0,by omega,by omega,rfl,rfl⟩
        ·rintro m4 e1 H17 ⟨j,hm4,hj,rfl,rfl⟩;refine Qa ?_;simp only[go_sem,hto,hto2];refine Qf (Qc rfl ?_ ?_)
         ·intro hc4;have hlj:j<cl.length:=(by simpa using hc4);have hgd:cl.getD j 0=cl[j]:=(by simp[Jg,hlj]);refine Qe ?_;try simp only[go_sem]
          refine Qf (Qd ?_);refine Qa ?_;simp only[go_sem,hto,hto2,hok1,hlen1,hsz1,hrw1,hlj,Qj,Qak _ _ hlj];refine Qa ?_;simp only[go_sem,hto,hto2];refine Qbhj hs2 hto2 ?_;rw[J1.2 ((hsame _).1 (by rw[hgd];exact Jj hlj))];simp only[go_sem,Qi4,hto,hto2];refine Qc rfl (fun h=>by simp at h) (fun _=>?_);refine Qe ?_;try simp only[go_sem,AE.X.next]
          refine Qq ?_;simp only[go_sem,AE.X.next,hto,hto2];exact⟨Qo (by omega) (by omega),cl.length-(j+1),by omega,j+1,rfl,by omega,rfl⟩
         ·intro hc4;refine Qv ?_;simp only[go_sem,AE.X.next];refine Qa ?_;simp only[go_sem,hto,hto2,hok2,hlen2,Qj];try intro _
          refine Qd (Qw (fun m e1 H1=>∃(j:Nat),m=md.length-j∧j≤md.length∧H1=H17∧
           e1=[(3,.c (.ptr x3 0)),(10,.c t),(59,.c (.sl false 3 (Q2 us))),(60,.c (.int .i64 us.length)),(61,.c (.int .i64 k)),(116,.c t2),(117,.c (.int .i64 md.length)),(118,.c (.int .i64 j))]) md.length ?_ ?_)
          ·exact⟨0,by omega,by omega,rfl,rfl⟩
          ·rintro m5 e1 H18 ⟨j,hm5,hj,rfl,rfl⟩;refine Qa ?_;simp only[go_sem,hto,hto2];refine Qf (Qc rfl ?_ ?_)
           ·intro hc5;have hlj:j<md.length:=(by simpa using hc5);have hgd:md.getD j 0=md[j]:=(by simp[Jg,hlj]);refine Qe ?_;try simp only[go_sem]
            refine Qf (Qd ?_);refine Qa ?_;simp only[go_sem,hto,hto2,hok2,hlen2,hsz2,hrw2,hlj,Qj,Qak _ _ hlj];refine Qa ?_;simp only[go_sem,hto,hto2];refine Qbhj hs1 hto ?_;rw[J1.2 ((hsame _).2 (by rw[hgd];exact Jj hlj))];simp only[go_sem,Qi5,hto,hto2];refine Qc rfl (fun h=>by simp at h) (fun _=>?_);refine Qe ?_;try simp only[go_sem,AE.X.next]
            refine Qq ?_;simp only[go_sem,AE.X.next,hto,hto2];exact⟨Qo (by omega) (by omega),md.length-(j+1),by omega,j+1,rfl,by omega,rfl⟩
           ·intro hc5;refine Qv ?_;simp only[go_sem,AE.X.next];refine Qq ?_;simp only[go_sem,AE.X.next];exact⟨Qo (by omega) (by omega),us.length-(k+1),by omega,k+1,rfl,by omega,knx,rfl⟩
   ·intro hc;refine Qv ?_;simp only[go_sem,AE.X.next];refine Qa ?_;simp only[go_sem];refine Qi ?_;exact retT' _ _ rfl
end Go.AE.Y
namespace Go.AE.Y
open Go.ChangeShapes Go.WideShapes Go.ChangeAt Go.RowKit
def Qbcp (w:World)(a:Option Addr)(len cap:Nat)(zs:List Int):Prop:=
 (a=none∧len=0∧cap=0∧zs=[])∨
 ∃x,a=some x∧len≤cap∧zs.length=cap∧(∀i,i<zs.length→w.cell? (x.add i)=some (.int .u8 (zs.getD i 0)))∧∀n∈zs,(Lit.int .u8 n).wf=true
theorem Qbl1 {n:Int}(h:(Lit.int .u8 n).wf=true):((UInt8.ofNat n.toNat).toNat:Int)=n:=by
 simp only[Lit.wf,Jo,decide_eq_true_eq]at h;have a1:IntKind.min .u8=0:=by decide
 have a2:IntKind.max .u8=255:=by decide
 rw[a1,a2]at h;rw[UInt8.toNat_ofNat'];omega
theorem Qagx {P:Program}{f:Nat}{H0:Heap}{g0:G}(h:∀bs:List UInt8,bs.length≤1048576→Ql P f [.c (.sl false 1 (Qci bs))] H0 fun v _=>v=.c (.bool true))
  {a0:Option Addr} {len0 cap0:Nat} {z0:List Int} {w:World} (hg:∀b,b<w.heap.size→g0.per b=true) (hs:Sat H0 g0 w) (hr:Qbcp w a0 len0 cap0 z0) (hl:len0≤1048576) :
  Calls P f #[.slice a0 len0 cap0] w fun e w'=>e=.returned (.bool true)∧Below w.heap.size w w':=by
 have key:∃bs:List UInt8,bs.length=len0∧RepC w g0 (.sl false 1 (Qci bs)) (.slice a0 len0 cap0):=by
  rcases hr with ⟨rfl,rfl,rfl,rfl⟩|⟨x,rfl,hlc,hz,hcell,hwf⟩
  ·exact⟨[],rfl,.slnil _ _ _⟩
  ·obtain⟨b,off,spot⟩:=x;have hbl:((z0.take len0).map fun n=>UInt8.ofNat n.toNat).length=len0:=by simp;omega
   by_cases h0:cap0=0
   ·subst h0;have:len0=0:=(by omega);subst this;exact⟨[],rfl,.slnil _ _ _⟩
   have hc0:=hcell 0 (by omega);have hspot:spot=none:=by simpa[Addr.add]using World.cell?_spot hc0
   subst hspot;have hadd:∀i,(⟨b,off,none⟩:Addr).add i=⟨b,off+i,none⟩:=by
    intro i;by_cases h:i=0 <;> simp[Addr.add,h]
   have hb:b<w.heap.size:=by
    rcases Jao b w.heap.size with h|h
    ·exact h
    ·simp[World.cell?,Addr.add,J7 h]at hc0
   refine⟨_,hbl,?_⟩;have hget:∀(i:Nat) (row:List C),(Qci ((z0.take len0).map fun n=>UInt8.ofNat n.toNat))[i]? = some row→i<len0∧row=[.int .u8 (z0.getD i 0)]:=by
    intro i row hi;have hlt:i<len0:=by
     rcases Jao i len0 with h|h
     ·exact h
     ·rw[J2 (by rw[Qb5];omega)]at hi;simp at hi
    have hz0:i<z0.length:=(by omega);refine⟨hlt,?_⟩;simp only[Qci,Jq,List.getElem?_take,if_pos hlt,Jah hz0,Jap,Ja0]at hi;rw[←hi,Qbl1 (hwf _ (Jj hz0))];simp[Jg,hz0]
   have:=RepC.sl (w:=w) (g:=g0) false 1 (Qci ((z0.take len0).map fun n=>UInt8.ofNat n.toNat)) b off cap0 (fun i _=>.int .u8 (z0.getD i 0))
    (by rw[Qb5,hbl];simp only[LIM];omega) (by simp) (by rw[Qb5,hbl];exact hlc) (hg _ hb)
    (fun i row hi=>by rw[(hget i row hi).2];rfl)
    (fun i row j c hi hj=>by
     obtain⟨h1,rfl⟩:=hget i row hi;have hj0:j=0:=by
      rcases J6 j with h|h
      ·exact h
      ·rw[J2 (by simp;omega)]at hj;simp at hj
     subst hj0;have:=hcell i (by omega);rw[hadd]at this;simpa using this)
    (fun i row j c hi hj=>by
     obtain⟨h1,rfl⟩:=hget i row hi;have hj0:j=0:=by
      rcases J6 j with h|h
      ·exact h
      ·rw[J2 (by simp;omega)]at hj;simp at hj
     subst hj0;simp at hj;subst hj;exact .int _ _)
   rw[Qb5,hbl]at this;exact this
 obtain⟨bs,hbl,hrep⟩:=key;have hc:=(h bs (by omega)).2 _ w [.slice a0 len0 cap0] hs rfl (fun j x u hj hu=>by
  cases j with
  |zero=>simp at hj hu;subst hj;subst hu;exact .c _ _ hrep
  |succ j=>simp at hj)
 refine hc.mono fun e w'=>?_;rintro (⟨v,x,H',g',rfl,rfl,hst,hv⟩|⟨v,H',g',_,h,_⟩)
 rotate_left
 ·cases h
 have:v=.bool true:=by cases hv with|c _ _ h=>cases h;rfl
 subst this;exact⟨rfl,hst.le.os,hst.le.tape,hst.le.output,hst.le.size,fun k hk=>(hst.le.per k (hg _ hk)).2⟩
def signL:List (Int×List UInt8×Int):=[(3,[43],3),(4,[45],3),(5,[42],4),(6,[47],4),(7,[37],4),(8,[60],2),(9,[61],2),(10,[38],1)]
def kC (t:Int×List UInt8×Int):C:=.int .i64 t.1
def rC (t:Int×List UInt8×Int):List C:=[.str t.2.1,.int .i64 t.2.2]
def kvV (t:Int×List UInt8×Int):Value×Value:=(.int .i64 t.1,.agg #[.string ⟨t.2.1.toArray⟩,.int .i64 t.2.2])
def eC (t:Int×List UInt8×Int):C×V:=(kC t,.ag (rC t))
structure Tabs (w:World):Prop where
 keys:∀(j:Nat) (s:List UInt8),keysL[j]? = some s→w.cell? ⟨Qft,j,none⟩=some (.string ⟨s.toArray⟩)
 sign:∃b ms clock ts,w.cell? ⟨Qbj,0,none⟩=some (.map (some b))∧w.heap[b]? = some (.map ms clock)∧Go.MapKept.Stamped ms clock∧List.Perm ts signL∧
  ms.toList.map (fun m=>(m.key,m.val))=ts.map kvV
def gh5 (w:World):G:=⟨fun b=>decide (b<w.heap.size),fun _=>none,fun l=>if l=Qft then some (Qft,9,0)else if l=Qbj then some (Qbj,1,0)else none⟩
def hp5 (ts:List (Int×List UInt8×Int)):Heap:=fun l=>if l=Qft then .gl Qft (keysL.map C.str)else if l=Qbj then .gl Qbj [.cm true (ts.map kC) (ts.map rC)]else .none
theorem Qa8v {op:Int}:∀{l1 l2:List (Int×List UInt8×Int)},l1.Perm l2→(l2.map (·.1)).Nodup→Qfc (.int .i64 op) (l1.map eC)=Qfc (.int .i64 op) (l2.map eC):=by
 intro l1 l2 hp
 induction hp with
 |nil=>intro _;rfl
 |cons x h ih=>
  intro hn;simp only[Jv,Ja4]at hn;simp only[Jv,Qfc,ih hn.2]
 |swap x y l=>
  intro hn;simp only[Jv,Ja4,Jr,not_or]at hn;simp only[Jv,Qfc,eC,kC,Qfu,decide_eq_true_eq];by_cases h1:op=y.1
  ·have h2:¬op=x.1:=fun e=>hn.1.1 (e.symm.trans h1);rw[if_pos h1,if_neg h2,if_pos h1]
  ·by_cases h2:op=x.1
   ·rw[if_neg h1,if_pos h2,if_pos h2]
   ·rw[if_neg h1,if_neg h2,if_neg h2,if_neg h1]
 |trans h1 h2 ih1 ih2=>
  intro hn;exact (ih1 ((h2.map _).nodup_iff.2 hn)).trans (ih2 hn)
theorem Qbif {ts:List (Int×List UInt8×Int)}(hp:ts.Perm signL):GK (hp5 ts):=by
 refine⟨rfl,ts.map kC,ts.map rC,rfl,fun op=>?_⟩;have e:((ts.map kC).zip (ts.map rC)).map (fun e=>(e.1,V.ag e.2))=ts.map eC:=by
  rw[List.zip_map',Jal];rfl
 rw[e];refine⟨?_,?_⟩
 ·intro x hx;obtain⟨t,_,rfl⟩:=Jw.1 hx;exact⟨_,rfl⟩
 ·rw[Qa8v hp (by decide)];simp only[signL,Jv,List.map_nil,Qfc,eC,kC,rC,Qfu,decide_eq_true_eq,levN];by_cases h3:op=3
  ·subst h3;exact⟨_,rfl⟩
  by_cases h4:op=4
  ·subst h4;exact⟨_,rfl⟩
  by_cases h5:op=5
  ·subst h5;exact⟨_,rfl⟩
  by_cases h6:op=6
  ·subst h6;exact⟨_,rfl⟩
  by_cases h7:op=7
  ·subst h7;exact⟨_,rfl⟩
  by_cases h8:op=8
  ·subst h8;exact⟨_,rfl⟩
  by_cases h9:op=9
  ·subst h9;exact⟨_,rfl⟩
  by_cases h10:op=10
  ·subst h10;exact⟨_,rfl⟩
  exact⟨[],by simp[h3,h4,h5,h6,h7,h8,h9,h10]⟩
theorem Qbcd {w:World}{ts:List (Int×List UInt8×Int)}{b:Nat}{ms:Array MapEntry}{clock:Nat}(hk:∀(j:Nat) (s:List UInt8),keysL[j]? = some s→w.cell? ⟨Qft,j,none⟩=some (.string ⟨s.toArray⟩))
  (hc:w.cell? ⟨Qbj,0,none⟩=some (.map (some b))) (hb:w.heap[b]? = some (.map ms clock)) (hst:Go.MapKept.Stamped ms clock) (hp:ts.Perm signL)
  (hm:ms.toList.map (fun m=>(m.key,m.val))=ts.map kvV):Sat (hp5 ts) (gh5 w) w:=by
 have szof:∀{a:Addr} {v:Value},w.cell? a=some v→a.block<w.heap.size:=by
  intro a v h;rcases Jao a.block w.heap.size with h'|h'
  ·exact h'
  ·simp[World.cell?,J7 h']at h
 have h1:Qft<w.heap.size:=szof (hk 0 _ rfl);have h2:Qbj<w.heap.size:=szof hc;have h3:b<w.heap.size:=by
  rcases Jao b w.heap.size with h'|h'
  ·exact h'
  ·simp[J7 h']at hb
 have hlen:ms.size=ts.length:=by
  have:=congrArg List.length hm;simpa using this
 have hl8:ts.length=8:=hp.length_eq;have hget:∀(i:Nat) (m:MapEntry),ms[i]? = some m→∃t,ts[i]? = some t∧t∈signL∧m.key=.int .i64 t.1∧m.val=.agg #[.string ⟨t.2.1.toArray⟩,.int .i64 t.2.2]:=by
  intro i m h;have h':(ms.toList.map (fun m=>(m.key,m.val)))[i]? = some (m.key,m.val):=by
   rw[Jq,J9,h];rfl
  rw[hm,Jq]at h'
  cases ht:ts[i]? with
  |none=>rw[ht]at h';cases h'
  |some t=>
   rw[ht]at h';simp only[Jap,Ja0,kvV,Prod.mk.injEq]at h';exact⟨t,rfl,(hp.mem_iff).1 (Jab ht),h'.1.symm,h'.2.symm⟩
 refine⟨fun b hb=>⟨by simp[gh5];omega,rfl⟩,⟨3,fun l hl=>by simp only[gh5];rw[if_neg (by simp only[Qft];omega),if_neg (by simp only[Qbj];omega)]⟩,fun b x h=>by simp[gh5]at h,fun b l p h=>by simp[gh5]at h,fun l=>?_⟩;by_cases e1:l=Qft
 ·subst e1;refine⟨9,fun j=>.string ⟨(keysL.getD j []).toArray⟩,by simp[gh5],by simpa[gh5]using h1,fun j c h=>?_,fun j c h=>?_⟩
  ·rw[Jq]at h
   cases hs:keysL[j]? with
   |none=>rw[hs]at h;cases h
   |some s=>
    show _=some (Value.string ⟨(keysL.getD j []).toArray⟩);rw[hk j s hs,Jg,hs];rfl
  ·rw[Jq]at h
   cases hs:keysL[j]? with
   |none=>rw[hs]at h;cases h
   |some s=>
    rw[hs]at h;obtain rfl:=J0 h;have hle:s.length≤4:=by
     have:∀s∈keysL,s.length≤4:=(by decide);exact this s (Jab hs)
    show RepC _ _ _ (Value.string ⟨(keysL.getD j []).toArray⟩);rw[Jg,hs];exact .str _ (by simp only[LIM];omega)
 ·by_cases e2:l=Qbj
  ·subst e2;refine⟨1,fun _=>.map (some b),by simp[gh5],by simpa[gh5]using h2,fun j c h=>?_,fun j c h=>?_⟩
   ·obtain rfl:j=0:=by
     rcases J6 j with h'|h'
     ·exact h'
     ·rw[J2 (by simp;omega)]at h;cases h
    exact hc
   ·obtain rfl:j=0:=by
     rcases J6 j with h'|h'
     ·exact h'
     ·rw[J2 (by simp;omega)]at h;cases h
    obtain rfl:=J0 h;obtain⟨_,s2,s3⟩:=hst;refine .cm true (ts.map kC) (ts.map rC) b ms clock (fun i j=>match ts[i]? with|some t=>if j=0 then .string ⟨t.2.1.toArray⟩else .int .i64 t.2.2|none=>.int .i64 0) (by simpa[gh5]using h3) hb (by simpa using hlen) (by simp) (by simp[hl8,LIM]) ?_ ?_ ?_ ?_
    ·intro i j m m' hi hj he;have gi:ms.toList[i]? = some m:=(by rw[J9];exact hi);have gj:ms.toList[j]? = some m':=(by rw[J9];exact hj);rcases he with he|he
     ·have:=Jay (l:=ms.toList.map (·.born)) (i:=i) (j:=j) (by simpa using (Jae.1 hi).1) s2;exact this.1 (by rw[Jq,Jq,gi,gj];simp[he])
     ·have:=Jay (l:=ms.toList.map (·.key)) (i:=i) (j:=j) (by simpa using (Jae.1 hi).1) s3;exact this.1 (by rw[Jq,Jq,gi,gj];simp[he])
    ·intro i row m hr hi;obtain⟨t,ht,_,_,hv⟩:=hget i m hi;rw[Jq,ht]at hr;obtain rfl:=J0 hr;refine⟨?_,fun h=>by cases h⟩;rw[hv];simp[rC,ht,List.range_succ]
    ·intro i k m hk' hi;obtain⟨t,ht,_,hkey,_⟩:=hget i m hi;rw[Jq,ht]at hk';obtain rfl:=J0 hk';rw[hkey];exact .int _ _
    ·intro i row j c hr hj;rw[Jq]at hr
     cases ht:ts[i]? with
     |none=>rw[ht]at hr;cases hr
     |some t=>
      rw[ht]at hr;obtain rfl:=J0 hr;have hmem:t∈signL:=(hp.mem_iff).1 (Jab ht);have hle:t.2.1.length≤1:=by
       have:∀t∈signL,t.2.1.length≤1:=(by decide);exact this t hmem
      match j,hj with
      |0,hj=>
       obtain rfl:=J0 hj;exact .str _ (by simp only[LIM];omega)
      |1,hj=>
       obtain rfl:=J0 hj;exact .int _ _
      |j+2,hj=>simp[rC]at hj
  ·show SatObj _ _ _ _ (hp5 ts l);rw[hp5,if_neg e1,if_neg e2];trivial
theorem calls_of_acall5 {P:Program}{f:Nat}(h:∀(H:Heap) (bs:List UInt8),GK H→bs.length≤1048576→Ql P f [.c (.sl false 1 (Qci bs))] H fun v _=>v=.c (.bool true))
  {a0:Option Addr} {len0 cap0:Nat} {z0:List Int} {w:World} (ht:Tabs w) (hr:Qbcp w a0 len0 cap0 z0) (hl:len0≤1048576) :
  Calls P f #[.slice a0 len0 cap0] w fun e w'=>e=.returned (.bool true)∧Below w.heap.size w w':=by
 obtain⟨hk,b,ms,clock,ts,h1,h2,h3,h4,h5⟩:=ht;exact Qagx (g0:=gh5 w) (fun bs hb=>h (hp5 ts) bs (Qbif h4) hb) (fun b hb=>by simpa[gh5]using hb) (Qbcd hk h1 h2 h3 h4 h5) hr hl
theorem Qahi {H:Type}(x:Lit×DataW H):∀l,(DataW.insert x l).Perm (x::l)
 |[]=>.refl _
 |y::r=>by
  rw[DataW.insert];split
  ·exact .refl _
  ·exact ((Qahi x r).cons y).trans (.swap x y r)
theorem Qasq {H:Type}:∀l:List (Lit×DataW H),(l.foldr DataW.insert []).Perm l
 |[]=>.refl _
 |x::r=>(Qahi x _).trans ((Qasq r).cons x)
def litD (t:Int×List UInt8×Int):Lit×DataW Unit:=(.int .i64 t.1,.agg [.lit (.string t.2.1),.lit (.int .i64 t.2.2)])
def decD:Lit×DataW Unit→Int×List UInt8×Int
 |(.int _ n,.agg [.lit (.string s),.lit (.int _ l)])=>(n,s,l)
 |_=>(0,[],0)
theorem sign_entries {l:List MapEntry}{f:MapEntry→Lit×DataW Unit}(hp:((l.map f).foldr DataW.insert [])=signL.map litD)(hf:∀m∈l,∀t,f m=litD t→(m.key,m.val)=kvV t) :
  ∃ts,List.Perm ts signL∧l.map (fun m=>(m.key,m.val))=ts.map kvV:=by
 have h1:(l.map f).Perm (signL.map litD):=(Qasq _).symm.trans (by rw[hp]);refine⟨(l.map f).map decD,?_,?_⟩
 ·have:=h1.map decD;rw[Jal (g:=decD) (f:=litD)]at this;exact this
 ·rw[Jal,Jal];refine List.map_congr_left fun m hm=>?_;have hmem:f m∈signL.map litD:=(h1.mem_iff).1 (Jw.2 ⟨m,hm,rfl⟩);obtain⟨t,_,ht⟩:=Jw.1 hmem;have e:decD (f m)=t:=by rw[←ht];rfl
  simp only[Function.comp,e];exact hf m hm t ht.symm
end Go.AE.Y
