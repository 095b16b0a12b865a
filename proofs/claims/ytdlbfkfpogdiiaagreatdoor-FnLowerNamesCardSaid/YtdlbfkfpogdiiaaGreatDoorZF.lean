/- Part 6 of the proof: the engine, codes, walks and plain laws, each named where it stands. -/
import Derived.Test.YtdlbfkfpogdiiaaGreatDoorZE
import Derived.Below
import Derived.Laws.Runes
import Derived.OpenShut
import Derived.ProofKit
import Derived.WalkLawsBesides
import Derived.WalkSmall
import Derived.WideKeyElems2
open Nat (reduceEqDiff reduceAdd reduceLeDiff reduceLT)
set_option linter.unusedVariables false
set_option linter.unusedSimpArgs false
set_option maxRecDepth 4000
set_option maxHeartbeats 8000000
open Array renaming getElem?_eq_none->Jaa,getElem?_toList->Jab,getElem?_eq_some_iff->Jal
open Bool renaming and_eq_true->Jaf
open Int renaming eq_ofNat_of_zero_le->J0,le_refl->Ja7
open List renaming mem_singleton->Ja,mem_append_right->Jb,mem_append_left->Jc,length_map->Jd,mem_append->Je,take_succ_eq_append_getElem->Jf,length_nil->Jg,mem_cons->Jh,length_cons->Ji,append_assoc->Jj,getElem_mem->Jk,map_append->Jl,getD_eq_getElem?_getD->Jm,take_of_length_le->Jo,mem_flatMap->Jp,getElem?_map->Jq,perm_append_comm->Jr,mem_cons_of_mem->Js,length_take->Jt,cons_append->Ju,map_cons->Jv,mem_map->Jw,append_nil->Jy,nil_append->Jz,getD_cons_succ->J1,getD_cons_zero->J2,mem_map_of_mem->J3,getElem?_eq_none->J5,not_mem_nil->J6,nodup_append->J7,mem_cons_self->J8,contains_iff_mem->Jac,map_nil->Jad,take_append_drop->Jae,take_length->Jag,mem_iff_getElem->Jah,mem_of_getElem?->Jai,all_cons->Jaj,flatMap_append->Jak,all_nil->Jam,map_map->Jan,getElem?_eq_getElem->Jao,getElem_map->Jap,map_set->Jar,nodup_cons->Jas,forall_mem_cons->Jav,getElem?_of_mem->Jaw,mem_of_mem_take->Jax,set_cons_succ->Jay,set_cons_zero->Jaz,flatMap_cons->Ja1,getElem?_inj->Ja2,getElem?_set->Ja3,any_eq_true->Ja5,flatMap_nil->Ja6,range_succ->Ja8,map_take->Ja9
open List.Perm renaming append_left->Jaq
open Nat renaming le_refl->Jn,zero_add->Jx,eq_zero_or_pos->J9,lt_or_ge->Jat,one_le_two_pow->Ja0,zero_le->Jba
open Option renaming map_some->Jau
open Option.some renaming inj->J4,injEq->Ja4
namespace Go.AE
variable {H0 H H1:Heap}{E L N Lg B:List (Nat×Obj)}{sz:Nat}{rows rows':List (List C)}{c:C}{S:Nat→Bool}
theorem Slc.kn (h:Slc H sz rows c)(kn:Kn H H1 [] L):Slc H1 sz rows c:=by
 match c,h with
 |.sl f z r,h=>exact⟨trivial,h.sz,h.rows,h.len⟩
 |.vsl l a st n,h=>
  have hl:H l≠.none:=fun e=>by
   have:=h.ok;simp only[okSl,e]at this
  have he:=kn.chg l hl (by simp);have h1:=h.ok;have h2:=h.rows;simp only[okSl,rowsOf]at h1 h2;refine⟨?_,h.sz,?_,h.len⟩
  ·simp only[okSl,he];exact h1
  ·simp only[rowsOf,he];exact h2
theorem Kn.addNew (kn:Kn H0 H E L)(k2:Kn H H1 [] N):Kn H0 H1 E (L++N):=by
 refine⟨fun p hp=>?_,kn.ext,fun p hp=>?_,kn.dE,?_,fun m hm hn=>?_⟩
 ·rcases Je.1 hp with hp|hp
  ·obtain⟨h1,h2⟩:=kn.get p (Jc _ hp);rw[k2.chg p.1 (by rw[h1];exact h2) (by simp)];exact⟨h1,h2⟩
  ·rcases Je.1 hp with hp|hp
   ·obtain⟨h1,h2⟩:=kn.get p (Jb _ hp);rw[k2.chg p.1 (by rw[h1];exact h2) (by simp)];exact⟨h1,h2⟩
   ·exact k2.get p (by simpa using hp)
 ·rcases Je.1 hp with hp|hp
  ·exact kn.loc p hp
  ·exact (kn.newFree (k2.loc p hp)).1
 ·rw[Jl];refine J7.2 ⟨kn.dL,k2.dL,fun a ha b hb hab=>?_⟩;obtain⟨p,hp,rfl⟩:=Jw.1 hb;exact (kn.newFree (k2.loc p hp)).2.2 (hab▸ha)
 ·rw[k2.chg m (by rw[kn.chg m hm hn];exact hm) (by simp),kn.chg m hm hn]
theorem Gr.frzm (h:Gr Lg sz rows c)(hm:∀p∈Lg,H p.1=p.2∧S p.1=true)(hr:Y.FrzR H S rows rows'):FrzC H S c (.sl false sz rows'):=by
 rcases h with ⟨rfl,rfl,rfl⟩|⟨y,rfl,rfl⟩
 ·cases hr;exact Y.FrzR.nil.sl
 ·obtain⟨h1,h2⟩:=hm (y,.vec sz rows) (by simp);exact hr.vsl h2 h1 rfl
theorem Kn.frzN (kn:Kn H0 H E (B++Lg)):Kn H0 (H.frz fun m=>(Lg.map Prod.fst).contains m) E B:=by
 have hd:=kn.dL;rw[Jl]at hd;obtain⟨d1,d2,d3⟩:=J7.1 hd;have key:∀m,m∉Lg.map Prod.fst→(H.frz fun m=>(Lg.map Prod.fst).contains m) m=H m:=fun m hm=>by
  have:(Lg.map Prod.fst).contains m=false:=by
   cases hc:(Lg.map Prod.fst).contains m with
   |false=>rfl
   |true=>exact absurd (Jac.1 hc) hm
  simp only[Heap.frz,this];rfl
 refine⟨fun p hp=>?_,kn.ext,fun p hp=>kn.loc p (Jc _ hp),kn.dE,d1,fun m hm hx=>?_⟩
 ·have hg:H p.1=p.2∧p.2≠.none:=kn.get p (by
   rcases Je.1 hp with h|h
   ·exact Jc _ h
   ·exact Jb _ (Jc _ h))
  refine⟨?_,hg.2⟩;rw[key p.1 (fun hh=>?_)];exact hg.1;rcases Je.1 hp with h|h
  ·obtain⟨r,hr,he⟩:=Jw.1 hh;exact kn.ext p h (he▸kn.loc r (Jb _ hr))
  ·exact d3 _ (Qb6 h) _ hh rfl
 ·rw[key m (fun hh=>?_)];exact kn.chg m hm hx;obtain⟨r,hr,he⟩:=Jw.1 hh;exact hm (he▸kn.loc r (Jb _ hr))
theorem Qbp9 {p:Nat×Obj}(h:p∈Lg):(fun m=>(Lg.map Prod.fst).contains m) p.1=true:=Jac.2 (Qb6 h)
theorem Kn.frzS_out (kn:Kn H0 H E (B++Lg)){p:Nat×Obj}(h:p∈B):(fun m=>(Lg.map Prod.fst).contains m) p.1=false:=by
 have hd:=kn.dL;rw[Jl]at hd
 cases hc:(Lg.map Prod.fst).contains p.1 with
 |false=>exact hc
 |true=>exact absurd rfl ((J7.1 hd).2.2 _ (Qb6 h) _ (Jac.1 hc))
end Go.AE
namespace Go.AE.Y
attribute [local go_sem] cond_true cond_false Bool.not_true Bool.not_false
open Go.Proofs.Tryz
variable {H H0 F:Heap}{K:V→Heap→Prop}{E B Lg:List (Nat×Obj)}{fns:List Fn}{S:Nat→Bool}
theorem Qa57 {α β:Type}{f:α→List C}{g:β→List C}{d:α→β}:∀(l:List α),(∀x∈l,FrzL H S (f x) (g (d x)))→FrzR H S (l.map f) ((l.map d).map g)
 |[],_=>.nil
 |x::l,h=>.cons (h x J8) (Qa57 l fun z hz=>h z (Js _ hz))
structure OSt where
 x:St
 ac:C
 al:List (Nat×Obj)
def OSt.row (o:OSt):List C:=[.int .i64 o.x.op,.str o.x.name,o.ac,.sl false 5 (Qk o.x.body),.sl false 5 (Qk o.x.els)]
def OSt.ok (o:OSt):Prop:=Gr o.al 4 (Qw o.x.args) o.ac
theorem OSt.noOw {o:OSt}(h:o.ok):Go.AE.noOw o.row=true:=by
 have:=h.isOw;simp only[OSt.row,Go.AE.noOw,Jaj,Jam,Qaa4,Q30,Qalg,this];rfl
theorem OSt.frz {o:OSt}(h:o.ok)(hm:∀p∈o.al,H p.1=p.2∧S p.1=true):FrzL H S o.row o.x.cells:=by
 rw[o.x.cells_eq];exact .cons (Qd rfl) (.cons (Qd rfl) (.cons (Gr.frzm h hm (FrzR.same (Qa5 _))) (.cons (FrzR.same (Qa9 _)).sl (.cons (FrzR.same (Qa9 _)).sl .nil))))
theorem Qbbe {os:List OSt}{Lz:List (Nat×Obj)}{t:C}(ho:∀o∈os,o.ok)(hz:Gr Lz 5 (os.map OSt.row) t)(hm:∀p∈os.flatMap OSt.al++Lz,H p.1=p.2∧S p.1=true):FrzC H S t (.sl false 5 (Qk (os.map OSt.x))):=by
 rw[Qsu];refine Gr.frzm hz (fun p hp=>hm p (Jb _ hp)) (Qa57 os fun o hoo=>OSt.frz (ho o hoo) fun p hp=>hm p (Jc _ (Jp.2 ⟨o,hoo,hp⟩)))
theorem Qbmj:∀(n:Nat) (x:Ex) {H:Heap} {K:V→Heap→Prop},x.size≤n→(∀H',Upd H H' []→K (.ag x.cells) H')→Qj prog Qaaw [.ag x.cells] H K:=by
 intro n
 induction n with
 |zero=>intro x H K h;have:=x.size_pos;omega
 |succ n ih=>
 intro x H K hn hK;have hsz:=x.size_kids;refine Qn ?_;refine Qb Qad Qbmt ?_;refine Qa ?_;simp only[go_sem,x.cells_eq];intro x1 hx1 H1 h1;have kn:=(Kn.start0 H).al hx1 h1;simp only[go_sem,Qany];intro x2 hx2 H2 h2;have kn:Kn H H2 [] ([(x1,exO x.op x.n x.name (.sl false 4 (Qw x.kids))),(x2,exO 0 0 [] (.sl true 4 []))]):=kn.al hx2 h2;refine Qa ?_;simp only[go_sem];refine Q5 ?_;refine Qa ?_;simp only[go_sem];refine Qg (Qe (Q2 (fun m e2 H2=>∃(j:Nat) (Lk:List (Nat×Obj)) (t:C),m=x.kids.length-j∧j≤x.kids.length∧Gr Lk 4 (Qw (x.kids.take j)) t∧
  Kn H H2 [] ([(x1,exO x.op x.n x.name (.sl false 4 (Qw x.kids))),(x2,exO 0 0 [] (.sl true 4 []))]++Lk)∧
  e2=[(1,.c (.ptr x1 0)),(2,.c (.ptr x2 0)),(3,.c t),(4,.c (.int .i64 j))]) x.kids.length ?_ ?_))
 ·exact⟨0,[],.sl true 4 [],by omega,by omega,.nil 4,kn,rfl⟩
 ·clear kn;rintro m e2 H3 ⟨j,Lk,t,hm,hj,hgk,kn,rfl⟩;have hto:=hgk.isOw;have g1:=kn.l 0 rfl;refine Q5 ?_;refine Qa ?_;simp only[go_sem,g1,hto,Ql];intro hl;simp only[LIM]at hl;refine Qg (Qc rfl ?_ ?_)
  ·intro hc;have hlt:j<x.kids.length:=by simpa using hc
   have hms:=Qar (Jk hlt);obtain⟨y,hy⟩:∃y,x.kids[j]=y:=⟨_,rfl⟩;have htk:Qw (x.kids.take (j+1))=Qw (x.kids.take j)++[y.cells]:=by
    rw[Qf1,Jf hlt,hy]
   rw[hy]at hms;refine Qf ?_;try simp only[go_sem]
   refine Qg (Qe ?_);refine Qp ?_;simp only[go_sem,g1,hto,hlt,Ql,Qaq _ _ hlt,hy,Ex.take4,Ex.allOw,Ex.cells_len];refine ih y (by omega) fun H5 hu=>?_;have kn:=kn.call0 hu;simp only[go_sem,Qan0,hto,y.cells_len];refine kn.growR hgk (new:=[y.cells]) (.mk' _ true 4 _) (by simpa using y.noOw) (by simp only[Ql,Jt,Ji,Jg,LIM];omega) fun t' Lk' H6 hg' hto' kn=>?_;rw[←htk]at hg';simp only[go_sem,Qanz,hto'];refine Qp ?_;simp only[go_sem,AE.X.next,hto'];exact⟨Qm (by omega) (by omega),x.kids.length-(j+1),by omega,j+1,Lk',t',rfl,by omega,hg',kn,rfl⟩
  ·intro hc;have hge:x.kids.length≤j:=by simpa using hc
   rw[Jo hge]at hgk;refine Q1 ?_;simp only[go_sem,AE.X.next];refine Qa ?_;simp only[go_sem,g1,hto];intro H4 h4;have kn:=kn.stL 0 rfl h4;have g1:=kn.l 0 rfl;have g2:=kn.l 1 rfl;refine Qa ?_;simp only[go_sem,g1,g2,hto];intro H5 h5;have kn:=kn.stL 1 rfl h5;have g2:=kn.l 1 rfl;refine Qi ?_;simp only[go_sem,Qq,Q7,Qagc,Ja,forall_eq,RS.op,g2,hto];rw[x.cells_eq]at hK;exact⟨_,(FrzL.cons (Qd rfl) (.cons (Qd rfl) (.cons (Qd rfl) (.cons (hgk.frz (B:=[_,_]) kn (Qa5 _)) .nil)))).ag,hK _ kn.fin⟩
structure SRd (H:Heap)(rows:List (List C))(l:List St):Prop where
 len:rows.length=l.length
 get:∀i (h:i<l.length),∃ac:C,rows.getD i []=[.int .i64 l[i].op,.str l[i].name,ac,.sl false 5 (Qk l[i].body),.sl false 5 (Qk l[i].els)]∧ac.isOw=false∧Slc H 4 (Qw l[i].args) ac
theorem SRd.fz (H:Heap)(l:List St):SRd H (Qk l) l:=⟨Qv l,fun i h=>⟨.sl false 4 (Qw l[i].args),by rw[Qbg _ _ h,St.cells_eq],rfl,.mk' H false 4 _⟩⟩
theorem SRd.kn {H1:Heap}{L:List (Nat×Obj)}{rows:List (List C)}{l:List St}(h:SRd H rows l)(kn:Kn H H1 [] L):SRd H1 rows l:=⟨h.len,fun i hi=>by
 obtain⟨ac,h1,h2,h3⟩:=h.get i hi;exact⟨ac,h1,h2,h3.kn kn⟩⟩
theorem OSt.slc {o:OSt}(h:o.ok)(hm:∀p∈o.al,H p.1=p.2):Slc H 4 (Qw o.x.args) o.ac:=by
 have hk:Gr o.al 4 (Qw o.x.args) o.ac:=h;refine⟨?_,hk.elemSz,?_,hk.lenC⟩
 ·rcases hk with ⟨h1,h2,h3⟩|⟨y,h1,h2⟩
  ·rw[h1];trivial
  ·have:H y=.vec 4 (Qw o.x.args):=hm (y,_) (by rw[h2];simp);rw[h1];simp[okSl,this]
 ·rcases hk with ⟨h1,h2,h3⟩|⟨y,h1,h2⟩
  ·rw[h1,h2];rfl
  ·have:H y=.vec 4 (Qw o.x.args):=hm (y,_) (by rw[h2];simp);rw[h1];simp[rowsOf,this]
theorem SRd.os {os:List OSt}(ho:∀o∈os,o.ok)(hm:∀p∈os.flatMap OSt.al,H p.1=p.2):SRd H (os.map OSt.row) (os.map OSt.x):=by
 refine⟨by simp,fun i hi=>?_⟩;have hi2:i<os.length:=by simpa using hi
 have hm2:=Jk hi2;refine⟨os[i].ac,?_,(ho _ hm2).isOw,?_⟩
 ·simp[Jm,hi2,OSt.row]
 ·rw[Jap];exact OSt.slc (ho _ hm2) fun p hp=>hm p (Jp.2 ⟨_,hm2,hp⟩)
def StO (n:Nat):Prop:=∀(l:List St) (rows:List (List C)) (c:C) (H:Heap) (K:V→Heap→Prop),Qh l≤n→Qh l≤2^38→c.isOw=false→Slc H 5 rows c→SRd H rows l→
 (∀(os:List OSt) t Lz H',os.map OSt.x=l→(∀o∈os,o.ok)→Gr Lz 5 (os.map OSt.row) t→Kn H H' [] (os.flatMap OSt.al++Lz)→K (.c t) H')→Qj prog Qi3 [.c c] H K
theorem Qbo7 {n:Nat}(h:StO n){l:List St}{f:Bool}{H:Heap}{K:V→Heap→Prop}(hn:Qh l≤n)(hb:Qh l≤2^38)(hK:∀H',Upd H H' []→K (.c (.sl false 5 (Qk l))) H'):Qj prog Qi3 [.c (.sl f 5 (Qk l))] H K:=by
 refine Qn (h l (Qk l) (.sl f 5 (Qk l)) H _ hn hb rfl (.mk' H f 5 _) (.fz H l) fun os t Lz H' hx ho hz kn=>?_);refine⟨_,.c _ _ (Qbbe ho hz fun p hp=>⟨(kn.get p (by simpa using hp)).1,Qu0 (kn.loc p hp)⟩),?_⟩;rw[hx];exact hK _ kn.fin
theorem Qbtp:∀n,StO n:=by
 intro n
 induction n using Nat.strongRecOn with
 |_ n ih=>
 intro l rows c H K hn hb how hs0 hr0 hK;have hsl0:=Qcd l;have hrl:=hr0.len;refine Qb Qad Qbh8 ?_;refine Qa ?_;simp only[go_sem,how];refine Qa ?_;simp only[go_sem,how];refine Q5 ?_;refine Qa ?_;simp only[go_sem,how];refine Qg (Qe (Q2 (fun m e1 H1=>∃(i:Nat) (os:List OSt) (Lz:List (Nat×Obj)) (t:C),m=l.length-i∧i≤l.length∧os.map OSt.x=l.take i∧(∀o∈os,o.ok)∧Gr Lz 5 (os.map OSt.row) t∧Kn H H1 [] (os.flatMap OSt.al++Lz)∧
  e1=[(0,.c c),(3,.c t),(4,.c (.int .i64 i))]) l.length ?_ ?_))
 ·exact⟨0,[],[],.sl true 5 [],by omega,by omega,by simp,by simp,.nil 5,Kn.start0 H,rfl⟩
 ·rintro m e1 H1 ⟨i,os,Lz,t,hm,hi,hox,ho,hz,kn,rfl⟩;have hto:=hz.isOw;have hs1:=hs0.kn kn;have hok:=eq_true hs1.ok;have hrw:=hs1.rows;have hln:=hs1.len;have hsz:=hs1.sz;rw[hrl]at hln;refine Q5 ?_;refine Qa ?_;simp only[go_sem,how,hok,hln,hto];intro hl;simp only[LIM]at hl;refine Qg (Qc rfl ?_ ?_)
  ·intro hc;have hlt:i<l.length:=by simpa using hc
   have hms:=Qbl (Jk hlt);obtain⟨x,hx⟩:∃x,l[i]=x:=⟨_,rfl⟩;rw[hx]at hms;have hse:=x.size_eq;obtain⟨ac,hrow,haw,_⟩:=hr0.get i hlt;rw[hx]at hrow;have hol:os.length=i:=by
    have:=congrArg List.length hox;rw[Jd,Jt]at this;omega
   refine Qf ?_;try simp only[go_sem]
   refine Qg (Qe ?_);refine Qa ?_;simp only[go_sem,how,hok,hln,hrw,hsz,hto,haw,hlt,hrow];intro x5 hx5 H3 h3;have kn:Kn H H3 [] ((os.flatMap OSt.al++Lz)++(x5,.st [.int .i64 0,.str [],.sl true 4 [],.sl true 5 [],.sl true 5 []])::[]):=kn.al hx5 h3;have g5:=kn.getM;simp only[go_sem,Qaha,g5,how,hto,haw];intro H4 h4;have kn:Kn H H4 [] ((os.flatMap OSt.al++Lz)++(x5,stX x.op x.name ac (.sl false 5 (Qk x.body)) (.sl false 5 (Qk x.els)))::[]):=kn.stM h4;refine Qa ?_;simp only[go_sem,how,hto];refine Q5 ?_;refine Qa ?_;simp only[go_sem,how,hto];refine Qg (Qe (Q2 (fun m2 e2 H5=>∃(j:Nat) (La:List (Nat×Obj)) (ta:C),m2=x.args.length-j∧j≤x.args.length∧Gr La 4 (Qw (x.args.take j)) ta∧Kn H H5 [] ((os.flatMap OSt.al++Lz)++(x5,stX x.op x.name ac (.sl false 5 (Qk x.body)) (.sl false 5 (Qk x.els)))::La)∧
    e2=[(0,.c c),(3,.c t),(4,.c (.int .i64 i)),(5,.c (.ptr x5 0)),(6,.c ta),(7,.c (.int .i64 j))]) x.args.length ?_ ?_))
   ·exact⟨0,[],.sl true 4 [],by omega,by omega,.nil 4,kn,rfl⟩
   ·clear kn g5 h4 h3;rintro m2 e2 H5 ⟨j,La,ta,hm2,hj,hga,kn,rfl⟩;have hao:=hga.isOw;have g5:=kn.getM;obtain⟨ac',hrow',haw',hsa⟩:=(hr0.kn kn).get i hlt;rw[hx]at hrow' hsa;have hacc:ac=ac':=by
     rw[hrow]at hrow';simp only[List.cons.injEq]at hrow';exact hrow'.2.2.1
    subst hacc;have hoka:=eq_true hsa.ok;have hrwa:=hsa.rows;have hlna:=hsa.len;have hsza:=hsa.sz;rw[Ql]at hlna;refine Q5 ?_;refine Qa ?_;simp only[go_sem,how,haw,hto,hao,g5,hoka,hlna];intro hl2;simp only[LIM]at hl2;refine Qg (Qc rfl ?_ ?_)
    ·intro hc2;have hlt2:j<x.args.length:=(by simpa using hc2);have hms2:=Qar (Jk hlt2);obtain⟨y,hy⟩:∃y,x.args[j]=y:=⟨_,rfl⟩;have htk:Qw (x.args.take (j+1))=Qw (x.args.take j)++[y.cells]:=by
      rw[Qf1,Jf hlt2,hy]
     refine Qf ?_;try simp only[go_sem]
     refine Qg (Qe ?_);refine Qp ?_;simp only[go_sem,how,haw,hto,hao,g5,hoka,hlna,hrwa,hsza,hlt2,Qaq _ _ hlt2,hy,Ex.take4,Ex.allOw,Ex.cells_len];refine Qbmj y.size y (Jn _) fun H6 hu=>?_;have kn:=kn.call0 hu;simp only[go_sem,how,haw,Qahc,hto,hao,y.cells_len];have kn:Kn H H6 [] (((os.flatMap OSt.al++Lz)++[(x5,stX x.op x.name ac (.sl false 5 (Qk x.body)) (.sl false 5 (Qk x.els)))])++La):=(by rw[Jj _ [_]];exact kn);refine kn.growR hga (new:=[y.cells]) (.mk' _ true 4 _) (by simpa using y.noOw) (by simp only[Ql,Jt,Ji,Jg,LIM];omega) fun ta' La' H7 hga' hao' kn=>?_;rw[←htk]at hga';simp only[go_sem,how,haw,Qahb,hto,hao'];refine Qp ?_;simp only[go_sem,AE.X.next,how,haw,hto,hao'];refine⟨Qm (by omega) (by omega),x.args.length-(j+1),by omega,j+1,La',ta',rfl,by omega,hga',?_,rfl⟩;rw[Jj _ [_]]at kn;exact kn
    ·intro hc2;have hge2:x.args.length≤j:=(by simpa using hc2);rw[Jo hge2]at hga;refine Q1 ?_;simp only[go_sem,AE.X.next];refine Qe8 ?_;simp only[go_sem,how,haw,hto,hao,g5];refine Qbo7 (ih (Qh x.body) (by omega)) (Jn _) (by omega) fun H6 hu=>?_;have kn:=kn.call0 hu;have g5:=kn.getM;simp only[go_sem,how,haw,Qahf,hto,hao,g5];refine Qbo7 (ih (Qh x.els) (by omega)) (Jn _) (by omega) fun H7 hu=>?_;have kn:=kn.call0 hu;have g5:=kn.getM;simp only[go_sem,how,haw,Qahe,hto,hao,g5];have kn:Kn H H7 [] ((os.flatMap OSt.al++(x5,stX x.op x.name ac (.sl false 5 (Qk x.body)) (.sl false 5 (Qk x.els)))::La)++Lz):=kn.perm (by
      rw[Jj,Jj];exact Jaq _ Jr)
     have hok:OSt.ok ⟨x,ta,La⟩:=hga;refine kn.growR hz (new:=[OSt.row ⟨x,ta,La⟩]) (.mk' _ true 5 _) (by simpa using OSt.noOw hok) (by simp only[Jd,Ji,Jg,LIM];omega) fun t' Lz' H8 hz' hto' kn=>?_;have kn:Kn H H8 [] ((os++[(⟨x,ta,La⟩:OSt)]).flatMap OSt.al++Lz'):=by
      refine kn.sub ?_;rw[Jak,Ja1,Ja6,Jy];exact List.Sublist.append (List.Sublist.append (List.Sublist.refl _) (List.sublist_cons_self _ _)) (List.Sublist.refl _)
     simp only[go_sem,how,haw,Qahd,hto'];refine Qp ?_;simp only[go_sem,AE.X.next,how,hto'];refine⟨Qm (by omega) (by omega),l.length-(i+1),by omega,i+1,os++[(⟨x,ta,La⟩:OSt)],Lz',t',rfl,by omega,?_,?_,?_,kn,rfl⟩
     ·rw[Jl,hox,Jf hlt,hx];rfl
     ·intro o hoo;rcases Je.1 hoo with hoo|hoo
      ·exact ho o hoo
      ·simp only[Ja]at hoo;subst hoo;exact hok
     ·rw[Jl];exact hz'
  ·intro hc;have hge:l.length≤i:=by simpa using hc
   rw[Jo hge]at hox;refine Q1 ?_;simp only[go_sem,AE.X.next];refine Qa ?_;simp only[go_sem,hto];refine Qi ?_;simp only[go_sem,Qq,Q7,Qfh,Ja,forall_eq,RS.op,hto];exact hK os t Lz _ hox ho hz kn
theorem Qbin (A B C D:List (Nat×Obj)):(((A++B)++C)++D).Perm ((A++(C++D))++B):=by
 simp only[Jj];refine Jaq _ (Jr.trans ?_);simp only[Jj];exact .refl _
structure OFn where
 f:Fn
 pc:C
 pl:List (Nat×Obj)
 os:List OSt
 bc:C
 bl:List (Nat×Obj)
def OFn.row (u:OFn):List C:=[.str u.f.name,u.pc,u.bc]
def OFn.lg (u:OFn):List (Nat×Obj):=u.pl++(u.os.flatMap OSt.al++u.bl)
structure OFn.ok (u:OFn):Prop where
 p:Gr u.pl 1 (Q9 u.f.params) u.pc
 o:∀o∈u.os,o.ok
 b:Gr u.bl 5 (u.os.map OSt.row) u.bc
 x:u.os.map OSt.x=u.f.body
theorem OFn.noOw {u:OFn}(h:u.ok):Go.AE.noOw u.row=true:=by
 have h1:=h.p.isOw;have h2:=h.b.isOw;simp only[OFn.row,Go.AE.noOw,Jaj,Jam,Q30,h1,h2];rfl
theorem OFn.frz {u:OFn}(h:u.ok)(hm:∀p∈u.lg,H p.1=p.2∧S p.1=true):FrzL H S u.row u.f.cells:=by
 have hb:=Qbbe (H:=H) (S:=S) h.o h.b fun p hp=>hm p (Jb _ hp);rw[h.x]at hb;exact .cons (Qd rfl) (.cons (Gr.frzm h.p (fun p hp=>hm p (Jc _ hp)) (FrzR.same (Qb1 _))) (.cons hb .nil))
theorem Qbm6 {us:List OFn}{Lz:List (Nat×Obj)}{t:C}(ho:∀u∈us,u.ok)(hz:Gr Lz 3 (us.map OFn.row) t)(hm:∀p∈us.flatMap OFn.lg++Lz,H p.1=p.2∧S p.1=true):FrzC H S t (.sl false 3 (Q3 (us.map OFn.f))):=
 Gr.frzm hz (fun p hp=>hm p (Jb _ hp)) (Qa57 us fun o hoo=>OFn.frz (ho o hoo) fun p hp=>hm p (Jc _ (Jp.2 ⟨o,hoo,hp⟩)))
theorem Qbhr {l:List Fn}{c:C}(how:c.isOw=false)(hs:Slc H 3 (Q3 l) c)(hb:Qs l≤2^38)(hp:∀f∈l,f.params.length≤2^38)
  (hK:∀(us:List OFn) t Lz H',us.map OFn.f=l→(∀u∈us,u.ok)→Gr Lz 3 (us.map OFn.row) t→t.isOw=false→Kn H H' [] (us.flatMap OFn.lg++Lz)→K (.ag [t]) H'):Qj prog Qak8 [.ag [c]] H K:=by
 refine Qb Qad Qbmx ?_;refine Qa ?_;simp only[go_sem,how];intro x2 hx2 H1 h1;have kn:=(Kn.start0 H).al hx2 h1;refine Qa ?_;simp only[go_sem,how];intro x3 hx3 H2 h2;have kn:=kn.al hx3 h2;have g3:=kn.l 1 rfl;simp only[go_sem,Qapi,g3,how];intro H3 h3;have kn:Kn H H3 [] ((x2,.st [.sl true 3 []])::(x3,.st [.sl true 3 []])::([]++[])):=kn.stL 1 rfl h3;refine Q5 ?_;refine Qa ?_;simp only[go_sem,how];refine Qg (Qe (Q2 (fun m e1 H1=>∃(i:Nat) (us:List OFn) (Lz:List (Nat×Obj)) (t:C),m=l.length-i∧i≤l.length∧us.map OFn.f=l.take i∧(∀o∈us,o.ok)∧Gr Lz 3 (us.map OFn.row) t∧
  Kn H H1 [] ((x2,.st [.sl true 3 []])::(x3,.st [t])::(us.flatMap OFn.lg++Lz))∧
  e1=[(1,.c (.pp [c])),(2,.c (.ptr x2 0)),(3,.c (.ptr x3 0)),(4,.c (.int .i64 i))]) l.length ?_ ?_))
 ·exact⟨0,[],[],.sl true 3 [],by omega,by omega,by simp,by simp,.nil 3,kn,rfl⟩
 ·clear kn g3 h3 h2 h1;rintro m e1 H1 ⟨i,us,Lz,t,hm,hi,hux,hu,hz,kn,rfl⟩;have hto:=hz.isOw;have hs1:=hs.kn kn;have hok:=eq_true hs1.ok;have hrw:=hs1.rows;have hln:=hs1.len;have hsz:=hs1.sz;rw[Qx]at hln;refine Q5 ?_;refine Qa ?_;simp only[go_sem,how,hto,hok,hln];intro hl;simp only[LIM]at hl;refine Qg (Qc rfl ?_ ?_)
  ·intro hc;have hlt:i<l.length:=by simpa using hc
   have hms:=Qbf (Jk hlt);have hpl:=hp _ (Jk hlt);obtain⟨x,hx⟩:∃x,l[i]=x:=⟨_,rfl⟩;rw[hx]at hms hpl;have hul:us.length=i:=by
    have:=congrArg List.length hux;rw[Jd,Jt]at this;omega
   refine Qf ?_;try simp only[go_sem]
   refine Qg (Qe ?_);refine Qa ?_;simp only[go_sem,how,hto,hok,hln,hrw,hsz,hlt,Qat _ _ hlt,hx,Fn.cells];intro x5 hx5 H3 h3;have kn:=(kn.al hx5 h3).perm (L':=(x2,.st [.sl true 3 []])::(x3,.st [t])::(x5,_)::(us.flatMap OFn.lg++Lz)) (.cons _ (.cons _ Jr));have g5:=kn.l 2 rfl;simp only[go_sem,Qapj,g5,how,hto];intro H4 h4;have kn:Kn H H4 [] ((x2,.st [.sl true 3 []])::(x3,.st [t])::(x5,fnO x)::(us.flatMap OFn.lg++Lz)):=kn.stL 2 rfl h4;have g5:=kn.l 2 rfl;have g3:=kn.l 1 rfl;refine Qe8 ?_;simp only[go_sem,g5,g3,how,hto,Qo];refine⟨.inl trivial,Qb1 _,by simp only[LIM];omega,fun z hz0 H5 h5=>?_⟩;have kn:=kn.al hz0 h5;have g5:=kn.l 2 rfl;have g3:=kn.l 1 rfl;simp only[go_sem,Qapm,g5,g3,how,hto];refine Qbtp (Qh x.body) x.body _ (.sl false 5 (Qk x.body)) H5 _ (Jn _) (by omega) rfl (.mk' _ false 5 _) (.fz _ _) fun os tb Lb H6 hox ho hzb k2=>?_;have kn:=kn.addNew k2;have htb:=hzb.isOw;have g5:=kn.l 2 rfl;have g3:=kn.l 1 rfl;simp only[go_sem,Qapl,g5,g3,how,hto,htb];obtain⟨u,hue⟩:∃u:OFn,u=⟨x,.vsl z 1 0 (0+x.params.length),[(z,.vec 1 ([]++Q9 x.params))],os,tb,Lb⟩:=⟨_,rfl⟩;have huo:u.ok:=by
    rw[hue];exact⟨by simpa using Gr.mk (n:=0+x.params.length) z 1 (Q9 x.params) (by rw[Qo];omega),ho,hzb,hox⟩
   have hulg:u.lg=[(z,.vec 1 ([]++Q9 x.params))]++(os.flatMap OSt.al++Lb):=by rw[hue];rfl
   have hur:u.row=[.str x.name,.vsl z 1 0 (0+x.params.length),tb]:=by rw[hue];rfl
   have kn:Kn H H6 [] (((x2,.st [.sl true 3 []])::(x3,.st [t])::(x5,fnO x)::(us.flatMap OFn.lg++u.lg))++Lz):=kn.perm (by
    rw[hulg];exact .cons _ (.cons _ (.cons _ (Qbin _ _ _ _))))
   refine kn.growR hz (new:=[u.row]) (by rw[hur];exact .mk' _ true 3 _) (by simpa using OFn.noOw huo) (by simp only[Jd,Ji,Jg,LIM];omega) fun t' Lz' H8 hz' hto' kn=>?_;have g3:=kn.l 1 rfl;simp only[go_sem,Qapk,g3,how,hto'];intro H9 h9;have kn:=kn.stL 1 rfl h9;have kn:Kn H H9 [] ((x2,.st [.sl true 3 []])::(x3,.st [t'])::((us++[u]).flatMap OFn.lg++Lz')):=by
    refine kn.sub ?_;rw[Jak,Ja1,Ja6,Jy];exact .cons_cons _ (.cons_cons _ (.cons _ (List.Sublist.refl _)))
   try simp only[go_sem,AE.X.next]
   refine Qp ?_;simp only[go_sem,AE.X.next,how];refine⟨Qm (by omega) (by omega),l.length-(i+1),by omega,i+1,us++[u],Lz',t',rfl,by omega,?_,?_,?_,kn,rfl⟩
   ·rw[Jl,hux,Jf hlt,hx,hue];rfl
   ·intro o hoo;rcases Je.1 hoo with hoo|hoo
    ·exact hu o hoo
    ·simp only[Ja]at hoo;subst hoo;exact huo
   ·rw[Jl];exact hz'
  ·intro hc;have hge:l.length≤i:=by simpa using hc
   rw[Jo hge]at hux;have g3:=kn.l 1 rfl;have g2:=kn.l 0 rfl;refine Q1 ?_;simp only[go_sem,AE.X.next];refine Qa ?_;simp only[go_sem,g3,g2,hto];intro H3 h3;have kn:=kn.stL 0 rfl h3;have g2:=kn.l 0 rfl;refine Qi ?_;simp only[go_sem,Qq,Q7,Qbbq,Ja,forall_eq,RS.op,g2,hto];exact hK us t Lz _ hux hu hz hto (kn.sub (.cons _ (.cons _ (List.Sublist.refl _))))
theorem Qtg (a b:List Fn):Qs (a++b)=Qs a+Qs b:=by
 induction a with
 |nil=>simp[Qs]
 |cons x r ih=>simp only[Ju,Qs,ih];omega
end Go.AE.Y
namespace Go.AE
variable {H0 H:Heap}{E B Lg:List (Nat×Obj)}{sz:Nat}{rows:List (List C)}{c:C}
def Gt (Lg:List (Nat×Obj))(sz:Nat)(rows:List (List C))(c:C):Prop:=(c=.sl true sz rows∧Lg=[])∨Gr Lg sz rows c
theorem Gt.isOw (h:Gt Lg sz rows c):c.isOw=false:=by
 rcases h with ⟨rfl,_⟩|h
 ·rfl
 ·exact h.isOw
theorem Gt.frz (h:Gt Lg sz rows c)(kn:Kn H0 H E (B++Lg))(hr:∀r∈rows,noOw r=true):FrzC H (un H0) c (.sl false sz rows):=by
 rcases h with ⟨rfl,_⟩|h
 ·exact (Y.FrzR.same hr).sl
 ·exact h.frz kn hr
theorem Kn.growT {K:V→Heap→Prop}{new:List (List C)}{b:C}(kn:Kn H0 H E (B++Lg))(hc:Gt Lg sz rows c)(hb:Slc H sz new b)(hn:new≠[])
  (h0:∀r∈rows,noOw r=true) (h1:∀r∈new,noOw r=true) (h2:rows.length+new.length≤LIM)
  (h:∀t Lg' H',Gr Lg' sz (rows++new) t→t.isOw=false→Kn H0 H' E (B++Lg')→K (.c t) H'):appQ H sz c b K:=by
 rcases hc with ⟨rfl,rfl⟩|hc
 ·refine⟨hb.ok,hb.sz,rfl,.inr (by rw[hb.rows];exact hn),?_,by rw[hb.len];exact h2,fun l hl H' hH'=>?_⟩
  ·rw[hb.rows];intro r hr;rcases Je.1 hr with hr|hr
   ·exact h0 r hr
   ·exact h1 r hr
  ·rw[Jy]at kn;rw[hb.len];refine h _ [(l,.vec sz (rows++new))] H' (.mk l sz _ (by simp)) rfl ?_;have:=kn.al hl hH'
   rwa [hb.rows]at this
 ·exact kn.growR hc hb h1 h2 h
theorem Kn.addNewE {H1:Heap}{L N:List (Nat×Obj)}(kn:Kn H0 H E L)(i:Nat){l:Nat}{o o':Obj}(h:E[i]? = some (l,o))(k2:Kn H H1 [(l,o')] N):Kn H0 H1 (E.set i (l,o')) (L++N):=by
 have hne:∀p∈E++L,H p.1≠.none:=fun p hp=>by obtain⟨a,b⟩:=kn.get p hp;rw[a];exact b
 have hl:H1 l=o'∧o'≠.none:=k2.get (l,o') (by simp);have hu:Upd H H1 [(l,o')]:=⟨fun p hp=>by simp at hp;subst hp;exact hl.1,fun m hm hx=>k2.chg m hm hx⟩;have k3:=kn.callE i h hu hl.2;refine⟨fun p hp=>?_,k3.ext,fun p hp=>?_,k3.dE,?_,k3.chg⟩
 ·rw[←Jj]at hp;rcases Je.1 hp with hp|hp
  ·exact k3.get p hp
  ·exact k2.get p (Jb _ hp)
 ·rcases Je.1 hp with hp|hp
  ·exact kn.loc p hp
  ·exact (kn.newFree (k2.loc p hp)).1
 ·rw[Jl];refine J7.2 ⟨kn.dL,k2.dL,fun a ha b hb hab=>?_⟩;obtain⟨p,hp,rfl⟩:=Jw.1 ha;obtain⟨q,hq,rfl⟩:=Jw.1 hb;exact hne p (Jb _ hp) (by rw[hab];exact k2.loc q hq)
end Go.AE
namespace Go.AE.Y
open Go.Proofs.Tryz
def Ex.ct (x:Ex):List C:=[.int .i64 x.op,.int .i64 x.n,.str x.name,.sl true 4 (Qw x.kids)]
theorem Ex.frzT {H:Heap}{S:Nat→Bool}(x:Ex):FrzV H S (.ag [.int .i64 x.op,.int .i64 x.n,.str x.name,.sl true 4 (Qw x.kids)]) (.ag x.ct):=
 (FrzL.cons (.same _ rfl) (.cons (.same _ rfl) (.cons (.same _ rfl) (.cons (.same _ rfl) .nil)))).ag
theorem Qbho {R:Rdr}{k:Nat}{fl:Bool}{ss:List (List UInt8)}{H:Heap}{K:V→Heap→Prop}(hH:H R.l=R.o k)(hk:k+2≤2^40)
  (hK:∀(x:Ex) (H':Heap) (k':Nat),k<k'→k'≤k+2→Upd H H' [(R.l,R.o k')]→x.ok→x.size=1→K (.ag x.ct) H') :
  Qj prog Qyc [.c (.ptr R.l 0),.c (.sl fl 1 (Q9 ss))] H K:=by
 refine Qn ?_;refine Qb Qad Qba9 ?_;refine Qa ?_;simp only[go_sem];intro x hx H1 h1;have kn:=(Kn.start1 hH (R.o_ne k)).al hx h1;refine Q5 ?_;refine Qa ?_;simp only[go_sem,Qo];intro hl;have rest:∀(b:Bool) (H2:Heap) (k2:Nat),k≤k2→k2≤k+1→Kn H H2 [(R.l,R.o k2)] [(x,.st [.int .i64 0,.int .i64 0,.str [],.sl true 4 []])]→(b=false→0<ss.length)→
   Q8 prog (s_l2Leaf_2.seq Qaex) (Qq Qps (unK H K)) [(0,V.c (C.ptr R.l 0)),(1,V.c (C.sl fl 1 (Q9 ss))),(4,V.c (C.ptr x 0)),(12,V.c (.bool b))] H2:=by
  intro b H2 k2 hk1 hk2 kn hb;refine Qg (Qc rfl ?_ ?_)
  ·intro hb';refine Qa ?_;simp only[go_sem];refine Qys (ns:=[0,1,2,3,5,7,15,16,100,255]) (kn.e 0 rfl) (by omega) (by simp) fun v H3 hv hu=>?_;have kn:=kn.callE 0 rfl hu (R.o_ne _);have hx3:=kn.l 0 rfl;simp only[go_sem,Q9q,hx3];intro H4 h4;have kn:=kn.stL 0 rfl h4;have hx4:=kn.l 0 rfl;refine Qi ?_;simp only[go_sem,Qq,Q7,Qps,Ja,forall_eq,RS.op,hx4];refine⟨_,(Ex.mk 1 v [] []).frzT,hK _ _ (k2+1) (by omega) (by omega) kn.fin ?_ ?_⟩
   ·simp[Ex.ok,Qda]
   ·simp[Ex.size,Qr]
  ·intro hb';refine Qf ?_;simp only[go_sem];refine Qa ?_;simp only[go_sem];refine of_c (kn.e 0 rfl) (by omega) (hb hb') fun v H3 hv hu=>?_;have kn:=kn.callE 0 rfl hu (R.o_ne _);have hx3:=kn.l 0 rfl;simp only[go_sem,Q9r,hx3];intro H4 h4;have kn:=kn.stL 0 rfl h4;have hx4:=kn.l 0 rfl;refine Qi ?_;simp only[go_sem,Qq,Q7,Qps,Ja,forall_eq,RS.op,hx4];refine⟨_,(Ex.mk 2 0 v []).frzT,hK _ _ (k2+1) (by omega) (by omega) kn.fin ?_ ?_⟩
   ·simp[Ex.ok,Qda]
   ·simp[Ex.size,Qr]
 refine⟨fun hb=>?_,fun hb=>?_⟩
 ·refine Qcp (kn.e 0 rfl) (by omega) fun v H2 hv hu=>?_;have kn:=kn.callE 0 rfl hu (R.o_ne _);simp only[go_sem,Qoz];refine rest _ H2 (k+1) (by omega) (by omega) kn ?_;intro h;have:¬ss.length=0:=by simpa using hb
  omega
 ·have hb2:decide ((ss.length:Int)=0)=true:=by simpa using hb
  simp only[go_sem,Qoz,hb2];exact rest true H1 k (by omega) (by omega) kn (fun h=>by simp at h)
theorem Qbhl {R : Rdr} {fl : Bool} {ss : List (List UInt8)} (d : Nat) {k : Nat} {H : Heap} {K : V → Heap → Prop} (deep : Int) (hd : deep ≤ d) (hH : H R.l = R.o k) (hk : k + 6 * 2^d ≤ 2^40)
    (hK : ∀ (x : Ex) (H' : Heap) (k' : Nat), k < k' → k' + 3 ≤ k + 6 * 2^d → Upd H H' [(R.l, R.o k')] → x.ok → k + x.size ≤ k' → K (.ag x.ct) H') :
    Qj prog Qeb [.c (.ptr R.l 0), .c (.sl fl 1 (Q9 ss)), .c (.int .i64 deep)] H K := by
  have hp1 : 1 ≤ 2^d := Ja0;have hp0 : d < 2^d := Nat.lt_two_pow_self;refine Qn ?_;refine Qb Qad Qba6 ?_;refine Qa ?_;simp only [go_sem];intro x hx H1 h1;have kn := (Kn.start1 hH (R.o_ne k)).al hx h1;refine Q5 ?_;refine Qa ?_;simp only [go_sem];have rest : ∀ (b : Bool) (H2 : Heap) (k2 : Nat), k ≤ k2 → k2 ≤ k + 1 → Kn H H2 [(R.l, R.o k2)] [(x, .st [.int .i64 0, .int .i64 0, .str [], .sl true 4 []])] → (b = false → 2 ≤ deep) →
      Q8 prog (s_l2Expr_2.seq Q9d) (Qq Qth (unK H K))
       [(0, V.c (C.ptr R.l 0)), (1, V.c (C.sl fl 1 (Q9 ss))), (2, .c (.int .i64 deep)), (6, V.c (C.ptr x 0)), (14, V.c (.bool b))] H2 := by
    intro b H2 k2 hk1 hk2 kn hb;have fin : ∀ (op n : Int) (name : List UInt8) (kids : List Ex) (H3 : Heap) (k3 : Nat) (o : Obj), k < k3 → k3 + 3 ≤ k + 6 * 2^d → Kn H H3 [(R.l, R.o k3)] [(x, .st [.int .i64 op, .int .i64 n, .str name, .sl true 4 (Qw kids)])] →
        (op = 10 → kids.length = 2) → Qda kids → k + 1 + Qr kids ≤ k3 →
        Q7 Qth [(6, V.c (C.ptr x 0))] H3 (unK H K) := by
      intro op n name kids H3 k3 o g1 g2 kn g3 g4 g5;have hx3 := kn.l 0 rfl;simp only [go_sem, Q7, Qth, Ja, forall_eq, RS.op, hx3];refine ⟨_, (Ex.mk op n name kids).frzT, hK _ _ k3 g1 g2 kn.fin ?_ ?_⟩
      · simp only [Ex.ok]; exact ⟨g3, g4⟩
      · simp only [Ex.size]; omega
    refine Qg (Qc rfl ?_ ?_)
    · intro hb';refine Qa ?_;simp only [go_sem];refine Qbho (kn.e 0 rfl) (by omega) fun y H3 k3 g1 g2 hu hok hsz => ?_;have kn := kn.callE 0 rfl hu (R.o_ne _);have hx3 := kn.l 0 rfl;simp only [go_sem, Q9e, hx3, Ex.ct];intro H4 h4;have kn := kn.stL 0 rfl h4;refine Qi ?_;simp only [go_sem, Qq];refine fin _ _ _ _ _ k3 .none (by omega) (by omega) kn (Ex.ok_and hok) (Ex.ok_kids hok) ?_;have := y.size_kids; omega
    · intro hb';have hdp := hb hb';have hp : 2^d = 2 * 2^(d-1) := (by rw [← Nat.pow_succ']; congr 1; omega);have hp2 : 1 ≤ 2^(d-1) := Ja0;have ihd := fun {k H K} => @Qaa6 R fl ss (d-1) k H K;generalize 2^(d-1) = e at *;refine Qf ?_;simp only [go_sem];refine Q5 ?_;refine Qa ?_;simp only [go_sem];refine Qcp (kn.e 0 rfl) (by omega) fun v H3 hv hu => ?_;have kn := kn.callE 0 rfl hu (R.o_ne _);simp only [go_sem, Q9f];refine Qg (Qc rfl ?_ ?_)
      · intro hc;refine Qa ?_;simp only [go_sem];refine Qys (ns := [11, 12, 11]) (kn.e 0 rfl) (by omega) (by simp) fun op H4 hop hu => ?_;have kn := kn.callE 0 rfl hu (R.o_ne _);simp only [go_sem, Q9h];refine ⟨Qm (by omega) (by omega), ?_⟩;refine ihd (deep - 1) (by omega) (kn.e 0 rfl) (by omega) fun y H5 k5 g1 g2 hu hok hsz => ?_;have kn := kn.callE 0 rfl hu (R.o_ne _);have hx5 := kn.l 0 rfl;simp only [go_sem, Q9g, hx5, y.cells_len];intro H6 h6;have kn := kn.stL 0 rfl h6;refine Qi ?_;simp only [go_sem, Qq];refine fin op 0 [] [y] _ k5 .none (by omega) (by omega) kn (fun h => ?_) ⟨hok, trivial⟩ ?_
        · subst h; simp at hop
        · simp only [Qr]; omega
      · intro hc;refine Qf ?_;simp only [go_sem];refine Qa ?_;simp only [go_sem];refine Qys (ns := [3, 3, 4, 5, 6, 7, 8, 9, 10]) (kn.e 0 rfl) (by omega) (by simp) fun op H4 hop hu => ?_;have kn := kn.callE 0 rfl hu (R.o_ne _);simp only [go_sem, Q9i];refine Qa ?_;simp only [go_sem];refine ⟨Qm (by omega) (by omega), ?_⟩;refine ihd (deep - 1) (by omega) (kn.e 0 rfl) (by omega) fun y H5 k5 g1 g2 hu hok hsz => ?_;have kn := kn.callE 0 rfl hu (R.o_ne _);simp only [go_sem, Q9k];refine ⟨Qm (by omega) (by omega), ?_⟩;refine ihd (deep - 1) (by omega) (kn.e 0 rfl) (by omega) fun z H6 k6 g3 g4 hu hok2 hsz2 => ?_;have kn := kn.callE 0 rfl hu (R.o_ne _);have hx5 := kn.l 0 rfl;simp only [go_sem, Q9j, hx5, y.cells_len, z.cells_len];intro H7 h7;have kn := kn.stL 0 rfl h7;refine Qi ?_;simp only [go_sem, Qq];refine fin op 0 [] [y, z] _ k6 .none (by omega) (by omega) kn (fun h => rfl) ⟨hok, hok2, trivial⟩ ?_;simp only [Qr]; omega
  refine ⟨fun hb => ?_, fun hb => ?_⟩
  · refine Qcp (kn.e 0 rfl) (by omega) fun v H2 hv hu => ?_;have kn := kn.callE 0 rfl hu (R.o_ne _);simp only [go_sem, Qow];refine rest _ H2 (k + 1) (by omega) (by omega) kn ?_;intro h;have : ¬ deep < 2 := (by simpa using hb);omega
  · have hb2 : decide (deep < 2) = true := (by simpa using hb);simp only [go_sem, Qow, hb2];exact rest true H1 k (by omega) (by omega) kn (fun h => by simp at h)
attribute [local go_sem] cond_true cond_false Bool.not_true Bool.not_false
variable {H H0 F:Heap}{K:V→Heap→Prop}{E B Lg:List (Nat×Obj)}
theorem Qax4 {R:Rdr}{k:Nat}{deep:Int}(hd:deep≤7)(hH:H R.l=R.o k)(hk:k+2000≤2^38)
  (hK:∀(x:Ex) (t:C) (Lk:List (Nat×Obj)) (H':Heap) (k':Nat),k<k'→k'≤k+1000→Gt Lk 4 (Qw x.kids) t→Kn H H' [(R.l,R.o k')] Lk→x.size≤2000→K (.ag [.int .i64 x.op,.int .i64 x.n,.str x.name,t]) H') :
  Qj prog Q3t [.c (.ptr R.l 0),.c (.int .i64 deep)] H K:=by
 refine Qb Qad Qbqy ?_;refine Qa ?_;simp only[go_sem];intro x4 hx4 H1 h1;have kn:=(Kn.start1 hH (R.o_ne k)).al hx4 h1;refine Qa ?_;simp only[go_sem];refine Qbhl (ss:=[[97],[98],[120],[103,111]]) 7 deep (by omega) (kn.e 0 rfl) (by omega) fun x H2 k2 g1 g2 hu hok hsz=>?_;have kn:=kn.callE 0 rfl hu (R.o_ne _);have hxz:=hsz;simp only[go_sem,Qaws,Ex.ct];intro x5 hx5 H3 h3;have kn:=kn.al hx5 h3;have g5:=kn.l 1 rfl;simp only[go_sem,Qawr,g5];intro H4 h4;have kn:=kn.stL 1 rfl h4;refine Q5 ?_;refine Qa ?_;simp only[go_sem];refine Qcp (kn.e 0 rfl) (by omega) fun v H5 hv hu=>?_;have kn:=kn.callE 0 rfl hu (R.o_ne _);have g5:=kn.l 1 rfl;have g4:=kn.l 0 rfl;simp only[go_sem,Qawt];refine Qg (Qc rfl ?_ ?_)
 ·intro hc;refine Qa ?_;simp only[go_sem,g5,g4];intro H6 h6;have kn:=kn.stL 0 rfl h6;have g4:=kn.l 0 rfl;refine Qi ?_;simp only[go_sem,AE.X.next,Qq,Q7,Qps,Ja,forall_eq,RS.op,g4];exact hK x _ [] _ (k2+1) (by omega) (by omega) (.inl ⟨rfl,rfl⟩) (Kn.drop (A:=[]) kn) (by omega)
 intro hc;refine Qf ?_;try simp only[go_sem]
 refine Qa ?_;simp only[go_sem];refine of_c (ss:=[[102],[103],[97]]) (kn.e 0 rfl) (by omega) (by simp) fun nm H6 hv2 hu=>?_;have kn:=kn.callE 0 rfl hu (R.o_ne _);simp only[go_sem,Qawv];intro x6 hx6 H7 h7;have kn:=kn.al hx6 h7;have g6:=kn.l 2 rfl;simp only[go_sem,Qawu,g6];intro H8 h8;have kn:=kn.stL 2 rfl h8;refine Q5 ?_;refine Qa ?_;simp only[go_sem];refine Qcp (kn.e 0 rfl) (by omega) fun cnt H9 hcnt hu=>?_;have kn:=kn.callE 0 rfl hu (R.o_ne _);rw[if_neg (by omega)]at hcnt;obtain⟨cj,rfl⟩:=J0 hcnt.1;simp only[go_sem,Qaww];refine Qg (Qe (Q2 (fun m e1 H1=>∃(j:Nat) (ks:List Ex) (Lk:List (Nat×Obj)) (t:C) (k3:Nat),m=j∧ks.length+j≤3∧k2+3≤k3∧k3+30 * j≤k2+103∧Gr Lk 4 (Qw ks) t∧Qr ks≤ks.length * 100∧
   Kn H H1 [(R.l,R.o k3)] ([(x4,exO 0 0 [] (.sl true 4 [])),(x5,exO x.op x.n x.name (.sl true 4 (Qw x.kids))),(x6,exO 13 0 nm t)]++Lk)∧
   e1=[(0,.c (.ptr R.l 0)),(4,.c (.ptr x4 0)),(5,.c (.ptr x5 0)),(6,.c (.ptr x6 0)),(7,.c (.int .i64 j))]) cj ?_ ?_))
 ·exact⟨cj,[],[],.sl true 4 [],k2+3,by omega,by simp;omega,by omega,by omega,.nil 4,by simp[Qr],kn,rfl⟩
 ·clear kn g6 g5 g4 h8 h7;rintro m e1 H10 ⟨j,ks,Lk,t,k3,hm,hj,hk3,hk4,hgk,hks,kn,rfl⟩;have hto:=hgk.isOw;have g6:=kn.l 2 rfl;refine Q5 ?_;refine Qa ?_;simp only[go_sem];refine Qg (Qc rfl ?_ ?_)
  ·intro hc2;have hj0:0<j:=by simpa using hc2
   refine Qf ?_;try simp only[go_sem]
   refine Qg (Qe ?_);refine Qe8 ?_;simp only[go_sem,g6,hto];refine Qaa6 (ss:=[[97],[98]]) 2 2 (by omega) (kn.e 0 rfl) (by omega) fun y H11 k4 g1 g2 hu hok2 hsz2=>?_;have kn:=kn.callE 0 rfl hu (R.o_ne _);have g6:=kn.l 2 rfl;simp only[go_sem,Qawy,g6,hto,y.cells_len];refine Kn.growR (B:=[_,_,_]) kn hgk (new:=[y.cells]) (.mk' _ true 4 _) (by simpa using y.noOw) (by simp only[Ql,Ji,Jg,LIM];omega) fun t' Lk' H12 hgk' hto' kn=>?_;rw[Qf1]at hgk';have g6:=kn.l 2 rfl;simp only[go_sem,Qawx,g6,hto'];intro H13 h13;have kn:=kn.stL 2 rfl h13;try simp only[go_sem,AE.X.next]
   refine Qp ?_;try simp only[go_sem,AE.X.next]
   refine⟨Qm (by omega) (by omega),j-1,by omega,j-1,ks++[y],Lk',t',k4,rfl,by simp;omega,by omega,by omega,hgk',?_,kn,?_⟩
   ·rw[Qnv];simp only[Qr,List.length_append,Ji,Jg];omega
   ·have:((j:Int)-1)=((j-1:Nat):Int):=(by omega);rw[this]
  ·intro hc2;have g4:=kn.l 0 rfl;have g5:=kn.l 1 rfl;refine Q1 ?_;simp only[go_sem,AE.X.next];refine Q5 ?_;refine Qa ?_;simp only[go_sem];refine Qcp (kn.e 0 rfl) (by omega) fun v3 H11 hv3 hu=>?_;have kn:=kn.callE 0 rfl hu (R.o_ne _);have g4:=kn.l 0 rfl;have g5:=kn.l 1 rfl;have g6:=kn.l 2 rfl;simp only[go_sem,Qano];refine Qg (Qc rfl ?_ ?_)
   ·intro hc3;refine Qa ?_;simp only[go_sem,g6,g4,hto];intro H12 h12;have kn:Kn H H12 [(R.l,R.o (k3+1))] ([(x4,exO 13 0 nm t),(x5,exO x.op x.n x.name (.sl true 4 (Qw x.kids))),(x6,exO 13 0 nm t)]++Lk):=kn.stL 0 rfl h12;have g4:=kn.l 0 rfl;refine Qi ?_;simp only[go_sem,AE.X.next,Qq,Q7,Qps,Ja,forall_eq,RS.op,g4,hto];refine hK (.mk 13 0 nm ks) t Lk _ (k3+1) (by omega) (by omega) (.inr hgk) (kn.sub (List.sublist_append_right _ _)) ?_;simp only[Ex.size];omega
   ·intro hc3;refine Qf ?_;try simp only[go_sem]
    have f1:FrzC H11 (fun m=>(Lk.map Prod.fst).contains m) t (.sl false 4 (Qw ks)):=Gr.frzm hgk (fun p hp=>⟨(kn.get p (Jb _ (Jb _ hp))).1,Qbp9 hp⟩) (FrzR.same (Qa5 _));have o5:=kn.frzS_out (p:=(x5,exO x.op x.n x.name (.sl true 4 (Qw x.kids)))) (by simp);have o6:=kn.frzS_out (p:=(x6,exO 13 0 nm t)) (by simp);have kz:=(kn.frzN.setL 1 (o':=exO x.op x.n x.name (.sl false 4 (Qw x.kids))) rfl (by nofun)).setL 2 (o':=exO 13 0 nm (.sl false 4 (Qw ks))) rfl (by nofun);have hfz:=((Q3y H11 (fun m=>(Lk.map Prod.fst).contains m)).set (o:=exO x.op x.n x.name (.sl false 4 (Qw x.kids))) o5 (by
     show FrzO H11 _ (H11 x5) _;rw[g5];exact FrzKL.st (.same (.same (.same (.cons rfl (FrzR.same (Qa5 _)).sl .nil))))) ).set (o:=exO 13 0 nm (.sl false 4 (Qw ks))) o6 (by
     show FrzO H11 _ (H11 x6) _;rw[g6];exact FrzKL.st (.same (.same (.same (.cons hto f1 .nil)))))
    refine c_gh (Qi4 _ (Qbg3 ?_) hfz) (e':=[(4,.c (.ptr x4 0)),(5,.c (.ptr x5 0)),(6,.c (.ptr x6 0))]) ?_
    ·intro p hp;simp only[Jh,J6,or_false]at hp;rcases hp with rfl|rfl|rfl <;> exact .c _ _ (.same _ rfl)
    have g4:=kz.l 0 rfl;have g5:=kz.l 1 rfl;have g6:=kz.l 2 rfl;refine Qa ?_;simp only[go_sem,g4,g5,g6];intro H12 h12;have kz:=kz.stL 0 rfl h12;have g4:=kz.l 0 rfl;refine Qi ?_;simp only[go_sem,AE.X.next,Qq,Q7,Qps,Ja,forall_eq,RS.op,g4];refine hK (.mk 3 0 [] [x,.mk 13 0 nm ks]) _ [] _ (k3+1) (by omega) (by omega) (.inl ⟨?_,rfl⟩) (Kn.drop (A:=[]) kz) ?_
    ·show C.sl true 4 _=C.sl true 4 (Qw [x,.mk 13 0 nm ks]);simp only[Qw,Ex.cells_eq];rfl
    ·simp only[Ex.size,Qr];omega
theorem Qbqo {R:Rdr}{k:Nat}{deep:Int}(hd:deep≤7)(hH:H R.l=R.o k)(hk:k+2000≤2^38)
  (hK:∀(x:Ex) (H':Heap) (k':Nat),k<k'→k'≤k+1000→Upd H H' [(R.l,R.o k')]→x.size≤2000→K (.ag x.cells) H') :
  Qj prog Q3t [.c (.ptr R.l 0),.c (.int .i64 deep)] H K:=by
 refine Qn (Qax4 hd hH hk fun x t Lk H' k' h1 h2 hg kn hsz=>?_);have:=hK x (H'.frz (un H)) k' h1 h2 kn.fin hsz;rw[x.cells_eq]at this;exact⟨_,(FrzL.cons (Qd rfl) (.cons (Qd rfl) (.cons (Qd rfl) (.cons (hg.frz (B:=[]) kn (Qa5 _)) .nil)))).ag,this⟩
theorem Qbmi {R:Rdr}{k:Nat}(hH:H R.l=R.o k)(hk:k+8000≤2^38)
  (hK:∀(x:Ex) (H':Heap) (k':Nat),k<k'→k'≤k+3000→Upd H H' [(R.l,R.o k')]→x.size≤4000→K (.ag x.cells) H') :
  Qj prog Qak5 [.c (.ptr R.l 0)] H K:=by
 refine Qn ?_;refine Qb Qad Qbms ?_;refine Qa ?_;simp only[go_sem];intro x2 hx2 H1 h1;have kn:=(Kn.start1 hH (R.o_ne k)).al hx2 h1;refine Qa ?_;simp only[go_sem];refine Qax4 (by omega) (kn.e 0 rfl) (by omega) fun x t Lk H2 k2 g1 g2 hg k2n hsz=>?_;have hto:=hg.isOw;have kn:Kn H H2 [(R.l,R.o k2)] ([(x2,exO 0 0 [] (.sl true 4 []))]++Lk):=kn.addNewE 0 rfl k2n;simp only[go_sem,Qanr,hto];intro x3 hx3 H3 h3;have kn:Kn H H3 [(R.l,R.o k2)] ([(x2,exO 0 0 [] (.sl true 4 [])),(x3,exO 0 0 [] (.sl true 4 []))]++Lk):=(kn.al hx3 h3).perm (.cons _ (Jr (l₁:=Lk)));have g3:=kn.l 1 rfl;simp only[go_sem,Qanq,g3,hto];intro H4 h4;have kn:Kn H H4 [(R.l,R.o k2)] ([(x2,exO 0 0 [] (.sl true 4 [])),(x3,exO x.op x.n x.name t)]++Lk):=kn.stL 1 rfl h4;refine Q5 ?_;refine Qa ?_;simp only[go_sem];refine Qcp (kn.e 0 rfl) (by omega) fun v H5 hv hu=>?_;have kn:Kn H H5 [(R.l,R.o (k2+1))] ([(x2,exO 0 0 [] (.sl true 4 [])),(x3,exO x.op x.n x.name t)]++Lk):=kn.callE 0 rfl hu (R.o_ne _);simp only[go_sem];have fin:∀(y:Ex) (t:C) (Lk:List (Nat×Obj)) (H6:Heap) (e6:Env) (k6:Nat),Gt Lk 4 (Qw y.kids) t→y.size≤4000→k<k6→k6≤k+3000→Kn H H6 [(R.l,R.o k6)] ([(x2,exO 0 0 [] (.sl true 4 [])),(x3,exO y.op y.n y.name t)]++Lk)→lk 2 e6=.c (.ptr x2 0)→lk 3 e6=.c (.ptr x3 0)→
   Q8 prog Qanp (Qq Qagc (unK H K)) e6 H6:=by
  intro y t Lk H6 e6 k6 hg hsz a1 a2 kn f2 f3;have hto:=hg.isOw;have g2:=kn.l 0 rfl;have g3:=kn.l 1 rfl;refine Qa ?_;simp only[go_sem,f2,f3,g2,g3,hto];intro H7 h7;have kn:=kn.stL 0 rfl h7;have g2:=kn.l 0 rfl;refine Qi ?_;simp only[go_sem,Qq,Q7,Qagc,Ja,forall_eq,RS.op,g2,hto];have:=hK y _ k6 a1 a2 kn.fin hsz;rw[y.cells_eq]at this;exact⟨_,(FrzL.cons (Qd rfl) (.cons (Qd rfl) (.cons (Qd rfl) (.cons (hg.frz (B:=[_,_]) kn (Qa5 _)) .nil)))).ag,this⟩
 have hxs:=x.size_kids;refine Qg (Qe ?_);refine Qa ?_;simp only[go_sem];have g3:=kn.l 1 rfl;refine Qc rfl ?_ ?_
 ·intro hc;refine Qp ?_;simp only[go_sem];refine Qys (ns:=[-1,256,3]) (kn.e 0 rfl) (by omega) (by simp) fun w H6 hw hu=>?_;have kn:=kn.callE 0 rfl hu (R.o_ne _);have g3:=kn.l 1 rfl;simp only[go_sem,Qans,g3,hto];intro H7 h7;have kn:=kn.stL 1 rfl h7;try simp only[go_sem,AE.X.next]
  exact fin (.mk x.op w x.name x.kids) t Lk _ _ (k2+1+1) hg (by simp only[Ex.size];omega) (by omega) (by omega) kn rfl rfl
 intro hc;refine Qa ?_;simp only[go_sem];refine Qc rfl ?_ ?_
 ·intro hc;refine Qp ?_;simp only[go_sem];refine of_c (ss:=[[],[100,111],[65],[97,98,99,100,101],[113]]) (kn.e 0 rfl) (by omega) (by simp) fun w H6 hw hu=>?_;have kn:=kn.callE 0 rfl hu (R.o_ne _);have g3:=kn.l 1 rfl;simp only[go_sem,Qant,g3,hto];intro H7 h7;have kn:=kn.stL 1 rfl h7;try simp only[go_sem,AE.X.next]
  exact fin (.mk x.op x.n w x.kids) t Lk _ _ (k2+1+1) hg (by simp only[Ex.size];omega) (by omega) (by omega) kn rfl rfl
 intro hc;refine Qa ?_;simp only[go_sem];refine Qc rfl ?_ ?_
 ·intro hc;refine Qp ?_;simp only[go_sem];refine Qys (ns:=[0,14,-1,5,11]) (kn.e 0 rfl) (by omega) (by simp) fun w H6 hw hu=>?_;have kn:=kn.callE 0 rfl hu (R.o_ne _);have g3:=kn.l 1 rfl;simp only[go_sem,Qanu,g3,hto];intro H7 h7;have kn:=kn.stL 1 rfl h7;try simp only[go_sem,AE.X.next]
  exact fin (.mk w x.n x.name x.kids) t Lk _ _ (k2+1+1) hg (by simp only[Ex.size];omega) (by omega) (by omega) kn rfl rfl
 intro hc;refine Qa ?_;simp only[go_sem];refine Qc rfl ?_ ?_
 ·intro hc;refine Qe8 ?_;simp only[go_sem,g3,hto];refine Qbay (ss:=[]) (kn.e 0 rfl) (by omega) fun y H6 k6 b1 b2 hu hok hys=>?_;have kn:=kn.callE 0 rfl hu (R.o_ne _);have g3:=kn.l 1 rfl;have hkl:=Qa54 x.kids;simp only[go_sem,Qanw,g3,hto,y.cells_len];refine Kn.growT (B:=[_,_]) kn hg (new:=[y.cells]) (.mk' _ true 4 _) (by simp) (Qa5 _) (by simpa using y.noOw) (by simp only[Ql,Ji,Jg,LIM];omega) fun t' Lk' H7 hg' hto' kn=>?_;rw[Qf1]at hg';have g3:=kn.l 1 rfl;simp only[go_sem,Qanv,g3,hto'];intro H8 h8;have kn:=kn.stL 1 rfl h8;try simp only[go_sem,AE.X.next]
  exact fin (.mk x.op x.n x.name (x.kids++[y])) t' Lk' _ _ k6 (.inr hg') (by simp only[Ex.size,Qnv,Qr];omega) (by omega) (by omega) kn rfl rfl
 intro hc;refine Qa ?_;simp only[go_sem];refine Qc rfl ?_ ?_
 ·intro hc;refine Qp ?_;simp only[go_sem];have kn:=Kn.drop (A:=[(x2,exO 0 0 [] (.sl true 4 [])),(x3,exO x.op x.n x.name t)]) kn;refine Qax4 (by omega) (kn.e 0 rfl) (by omega) fun y t2 Lk2 H6 k6 b1 b2 hg2 k2n hsz2=>?_;have hto2:=hg2.isOw;have kn:Kn H H6 [(R.l,R.o k6)] ([(x2,exO 0 0 [] (.sl true 4 [])),(x3,exO x.op x.n x.name t)]++Lk2):=kn.addNewE 0 rfl k2n;have g3:=kn.l 1 rfl;simp only[go_sem,Qanx,g3,hto,hto2];intro H7 h7;have kn:Kn H H7 [(R.l,R.o k6)] ([(x2,exO 0 0 [] (.sl true 4 [])),(x3,exO y.op y.n y.name t2)]++Lk2):=kn.stL 1 rfl h7;try simp only[go_sem,AE.X.next]
  exact fin y t2 Lk2 _ _ k6 hg2 (by omega) (by omega) (by omega) kn rfl rfl
 ·intro hc;refine Qf ?_;try simp only[go_sem,AE.X.next]
  exact fin x t Lk _ _ (k2+1) hg (by omega) (by omega) (by omega) kn rfl rfl
end Go.AE.Y
namespace Go.AE
variable {H0 H:Heap}{E B Lg:List (Nat×Obj)}{sz:Nat}{rows rows':List (List C)}{c c':C}{S:Nat→Bool}
def Fz (Lg:List (Nat×Obj))(c c':C):Prop:=c.isOw=false∧∀(H:Heap) (S:Nat→Bool),(∀p∈Lg,H p.1=p.2∧S p.1=true)→FrzC H S c c'
theorem Fz.same (h:c.isOw=false):Fz [] c c:=⟨h,fun H S _=>.same _ h⟩
def PR (rows rows':List (List C)):Prop:=(∀r∈rows,noOw r=true)∧∀(H:Heap) (S:Nat→Bool),Y.FrzR H S rows rows'
theorem PR.app {a b a' b':List (List C)}(h:PR a a')(k:PR b b'):PR (a++b) (a'++b'):=⟨Y.noOw_app h.1 k.1,fun H S=>(h.2 H S).app (k.2 H S)⟩
theorem PR.len (h:PR rows rows'):rows.length=rows'.length:=((h.2 (fun _=>.none) fun _=>false).spec.1).symm
theorem PR.fz (h:PR rows rows')(hg:Gr Lg sz rows c):Fz Lg c (.sl false sz rows'):=⟨hg.isOw,fun H S hm=>Gr.frzm hg hm (h.2 H S)⟩
theorem PR.sl (h:PR rows rows')(fl:Bool):Fz [] (.sl fl sz rows) (.sl false sz rows'):=⟨rfl,fun H S _=>(h.2 H S).sl⟩
theorem Qbah {r r':List C}:∀{rows rows':List (List C)} (i:Nat),Y.FrzR H S rows rows'→FrzL H S r r'→Y.FrzR H S (rows.set i r) (rows'.set i r')
 |_,_,_,.nil,_=>.nil
 |_,_,0,.cons h t,k=>.cons k t
 |_,_,i+1,.cons h t,k=>.cons h (Qbah i t k)
end Go.AE
namespace Go.AE.Y
attribute [local go_sem] cond_true cond_false Bool.not_true Bool.not_false
open Go.Proofs.Tryz
variable {H H0 F:Heap}{K:V→Heap→Prop}{E B Lg:List (Nat×Obj)}
theorem PR.sts (l:List St):PR (Qk l) (Qk l):=⟨Qa9 l,fun H S=>FrzR.same (Qa9 l)⟩
theorem Qyv:∀(l:List Fn) (i:Nat) (f:Fn),Qs (l.set i f)≤Qs l+Qh f.body
 |[],i,f=>by simp[Qs]
 |x::r,0,f=>by simp only[Jaz,Qs];omega
 |x::r,i+1,f=>by have:=Qyv r i f;simp only[Jay,Qs];omega
theorem Qbip {op:Int}{nm:List UInt8}{a:C}{ars:List Ex}(ha:a.isOw=false)(hf:∀(H:Heap) (S:Nat→Bool),FrzC H S a (.sl false 4 (Qw ars))) :
  PR [[.int .i64 op,.str nm,a,.sl true 5 [],.sl true 5 []]] (Qk [.mk op nm ars [] []]):=by
 refine⟨fun r hr=>by simp only[Ja]at hr;subst hr;simp only[noOw,Jaj,Jam,Qaa4,Q30,Qalg,ha];rfl,fun H S=>?_⟩;simp only[Qk,St.cells_eq,St.op,St.name,St.args,St.body,St.els];exact .cons (.cons (Qd rfl) (.cons (Qd rfl) (.cons (hf H S) (.cons FrzR.nil.sl (.cons FrzR.nil.sl .nil))))) .nil
abbrev a0C:C:=.sl true 4 [[.int .i64 1,.int .i64 0,.str [],.sl true 4 []]]
theorem Qa6q (n:Int)(H:Heap)(S:Nat→Bool):FrzC H S (.sl true 4 [[.int .i64 1,.int .i64 n,.str [],.sl true 4 []]]) (.sl false 4 (Qw [.mk 1 n [] []])):=by
 simp only[Qw,Ex.cells_eq,Ex.op,Ex.n,Ex.name,Ex.kids];exact (FrzR.cons (.cons (Qd rfl) (.cons (Qd rfl) (.cons (Qd rfl) (.cons FrzR.nil.sl .nil)))) .nil).sl
theorem Qbmn {R:Rdr}{k:Nat}(hH:H R.l=R.o k)(hk:k+7100000≤2^30)
  (hK:∀(l:List Fn) (H':Heap) (k':Nat),k<k'→k'≤k+7010000→Upd H H' [(R.l,R.o k')]→Qs l≤2^36→K (.ag [.sl false 3 (Q3 l)]) H') :
  Qj prog Qak7 [.c (.ptr R.l 0)] H K:=by
 refine Qn ?_;refine Qb Qad Qbmv ?_;refine Qa ?_;simp only[go_sem];intro x2 hx2 H1 h1;have kn:=(Kn.start1 hH (R.o_ne k)).al hx2 h1;refine Qa ?_;simp only[go_sem];refine Qba0 (kn.e 0 rfl) (by omega) fun l H2 k2 g1 g2 hu hpr=>?_;have kn:=kn.callE 0 rfl hu (R.o_ne _);have hpos:=hpr.pos;have hl4:=hpr.len;have hsz:=hpr.size;have e1:(l.length:Int)-1=((l.length-1:Nat):Int):=by omega
 have hl1:l.length-1<l.length:=by omega
 obtain⟨f,hfe⟩:∃f,l[l.length-1]=f:=⟨_,rfl⟩;have hfm:f∈l:=by rw[←hfe];exact Jk hl1
 have hfs:=Qbf hfm;have hfl:=Qcd f.body;have hfp:=hpr.par f hfm;simp only[go_sem,Qan4];intro x3 hx3 H3 h3;have kn:=kn.al hx3 h3;have g3:=kn.l 1 rfl;simp only[go_sem,Qan3,g3];intro H4 h4;have kn:=kn.stL 1 rfl h4;have g3:=kn.l 1 rfl;refine Qa ?_;simp only[go_sem,g3,e1,hl1,Qx,Qat _ _ hl1,hfe,Fn.cells];try intro _
 refine⟨Qm (by omega) (by omega),?_⟩;intro x4 hx4 H5 h5;have kn:=kn.al hx4 h5;have g4:=kn.l 2 rfl;simp only[go_sem,Qan5,g4];intro H6 h6;have kn:=kn.stL 2 rfl h6;refine Q5 ?_;refine Qa ?_;simp only[go_sem];refine Qcp (kn.e 0 rfl) (by omega) fun v H7 hv hu=>?_;have kn:Kn H H7 [(R.l,R.o (k2+1))] ([(x2,.st [.sl true 3 []]),(x3,.st [.sl false 3 (Q3 l)]),(x4,fnO f)]++[]):=kn.callE 0 rfl hu (R.o_ne _);simp only[go_sem];have fin:∀(nm:List UInt8) (ps:List (List UInt8)) (body:List St) (pc bc:C) (Lp Lb:List (Nat×Obj)) (H8:Heap) (e8:Env) (k8:Nat),Fz Lp pc (.sl false 1 (Q9 ps))→Fz Lb bc (.sl false 5 (Qk body))→Qh body≤Qh f.body+100000→k<k8→k8≤k+7010000→
   Kn H H8 [(R.l,R.o k8)] ([(x2,.st [.sl true 3 []]),(x3,.st [.sl false 3 (Q3 l)]),(x4,.st [.str nm,pc,bc])]++(Lp++Lb))→lk 2 e8=.c (.ptr x2 0)→lk 3 e8=.c (.ptr x3 0)→lk 4 e8=.c (.ptr x4 0)→
   Q8 prog Qan2 (Qq Qbbq (unK H K)) e8 H8:=by
  intro nm ps body pc bc Lp Lb H8 e8 k8 hp hb hbs a1 a2 kn f2 f3 f4;have hpo:=hp.1;have hbo:=hb.1;have g3:=kn.l 1 rfl;refine Qa ?_;simp only[go_sem,f2,f3,f4,g3,Qx,hpo,hbo];refine⟨.inl trivial,Qc3 _,by simp only[LIM];omega,fun z hz H9 h9=>?_⟩;have kn:Kn H H9 [(R.l,R.o k8)] ([(x2,.st [.sl true 3 []]),(x3,.st [.sl false 3 (Q3 l)]),(x4,.st [.str nm,pc,bc]),(z,.vec 3 ([]++Q3 l))]++(Lp++Lb)):=(kn.al hz h9).perm (.cons _ (.cons _ (.cons _ (Jr (l₁:=Lp++Lb)))));have gz:=kn.l 3 rfl;have g4:=kn.l 2 rfl;simp only[go_sem,Qag2,f2,f3,f4];refine Qa ?_;simp only[go_sem,gz,g4,e1,hl1,hpo,hbo,Qx,Qat _ _ hl1,hfe,Fn.cells,Jz,Jx];try intro _
  refine⟨Qm (by omega) (by omega),?_⟩;intro H10 h10;have kn:Kn H H10 [(R.l,R.o k8)] ([(x2,.st [.sl true 3 []]),(x3,.st [.sl false 3 (Q3 l)]),(x4,.st [.str nm,pc,bc]),(z,.vec 3 ((Q3 l).set (l.length-1) [.str nm,pc,bc]))]++(Lp++Lb)):=kn.stL 3 rfl h10;have g2:=kn.l 0 rfl;have gz:=kn.l 3 rfl;refine Qa ?_;simp only[go_sem,g2];intro H11 h11;have kn:Kn H H11 [(R.l,R.o k8)] ([(x2,.st [.vsl z 3 0 l.length]),(x3,.st [.sl false 3 (Q3 l)]),(x4,.st [.str nm,pc,bc]),(z,.vec 3 ((Q3 l).set (l.length-1) [.str nm,pc,bc]))]++(Lp++Lb)):=kn.stL 0 rfl h11;have g2:=kn.l 0 rfl;have gz:=kn.l 3 rfl;refine Qi ?_;simp only[go_sem,Qq,Q7,Qbbq,Ja,forall_eq,RS.op,g2];have hun:∀p∈Lp++Lb,H11 p.1=p.2∧un H p.1=true:=fun p hp=>⟨(kn.get p (Jb _ (Jb _ hp))).1,Qu0 (kn.loc p (Jb _ hp))⟩;have hfr:FrzR H11 (un H) ((Q3 l).set (l.length-1) [.str nm,pc,bc]) (Q3 (l.set (l.length-1) ⟨nm,ps,body⟩)):=by
   have:Q3 (l.set (l.length-1) ⟨nm,ps,body⟩)=(Q3 l).set (l.length-1) (Fn.cells ⟨nm,ps,body⟩):=by simp[Q3,Jar]
   rw[this];exact Qbah _ (FrzR.same (Qc3 l)) (.cons (Qd rfl) (.cons (hp.2 _ _ fun p hp=>hun p (Jc _ hp)) (.cons (hb.2 _ _ fun p hp=>hun p (Jb _ hp)) .nil)))
  have hps:=Qyv l (l.length-1) ⟨nm,ps,body⟩;refine⟨_,(FrzL.cons (FrzR.vsl (Qu0 (kn.free 3 rfl)) ?_ ?_ hfr) .nil).ag,hK _ _ k8 a1 a2 kn.fin ?_⟩
  ·exact gz
  ·simp[Qx]
  ·simp only at hps;omega
 have fz0:Fz [] (.sl false 1 (Q9 f.params)) (.sl false 1 (Q9 f.params)):=.same rfl;have fzb:Fz [] (.sl false 5 (Qk f.body)) (.sl false 5 (Qk f.body)):=.same rfl;have g4:=kn.l 2 rfl;refine Qg (Qe ?_);refine Qa ?_;simp only[go_sem];refine Qc rfl (fun hc=>?_) (fun hc=>?_)
 ·refine Qp ?_;simp only[go_sem];refine of_c (ss:=[[102],[100,111],[],[103]]) (kn.e 0 rfl) (by omega) (by simp) fun w H8 hw hu=>?_;have kn:=kn.callE 0 rfl hu (R.o_ne _);have g4:=kn.l 2 rfl;simp only[go_sem,Qan6,g4];intro H9 h9;have kn:=kn.stL 2 rfl h9;try simp only[go_sem,AE.X.next]
  exact fin w f.params f.body _ _ [] [] _ _ (k2+1+1) fz0 fzb (by omega) (by omega) (by omega) kn rfl rfl rfl
 refine Qa ?_;simp only[go_sem];refine Qc rfl (fun hc=>?_) (fun hc=>?_)
 ·refine Qp ?_;simp only[go_sem,g4,Qo];refine⟨.inl trivial,Qb1 _,by simp only[LIM];omega,fun z hz H8 h8=>?_⟩;have kn:=kn.al hz h8;have hg0:Gr [(z,.vec 1 ([]++Q9 f.params))] 1 (Q9 f.params) (.vsl z 1 0 (0+f.params.length)):=Gr.mk z 1 (Q9 f.params) (by rw[Qo];omega);generalize C.vsl z 1 0 (0+f.params.length)=cz at hg0⊢;have hczo:=hg0.isOw;simp only[go_sem,Qan9,hczo];refine of_c (ss:=[[97],[120],[105,102]]) (kn.e 0 rfl) (by omega) (by simp) fun w H9 hw hu=>?_;have kn:Kn H H9 [(R.l,R.o (k2+1+1))] ([(x2,.st [.sl true 3 []]),(x3,.st [.sl false 3 (Q3 l)]),(x4,fnO f)]++[(z,.vec 1 ([]++Q9 f.params))]):=kn.callE 0 rfl hu (R.o_ne _);simp only[go_sem,Qan8,hczo];refine Kn.growR (B:=[_,_,_]) (rows:=Q9 f.params) kn hg0 (new:=[[.str w]]) (.mk' _ true 1 _) (by simp[noOw,C.isOw]) (by simp only[Qo,Ji,Jg,LIM];omega) fun t Lt H10 hgt hto kn=>?_;rw[Quy]at hgt;have g4:=kn.l 2 rfl;simp only[go_sem,Qan7,g4,hto];intro H11 h11;have kn:=kn.stL 2 rfl h11;try simp only[go_sem,AE.X.next]
  refine fin f.name (f.params++[w]) f.body t _ Lt [] _ _ (k2+1+1) ⟨hto,fun H S hm=>Gr.frzm hgt hm (FrzR.same (Qb1 _))⟩ fzb (by omega) (by omega) (by omega) ?_ rfl rfl rfl;rw[Jy];exact kn
 refine Qa ?_;simp only[go_sem];refine Qc rfl (fun hc=>?_) (fun hc=>?_)
 ·refine Qp ?_;simp only[go_sem,g4,Qv];refine⟨.inl trivial,Qa9 _,by simp only[LIM];omega,fun z hz H8 h8=>?_⟩;have kn:=kn.al hz h8;have hg0:Gr [(z,.vec 5 ([]++Qk f.body))] 5 (Qk f.body) (.vsl z 5 0 (0+f.body.length)):=Gr.mk z 5 (Qk f.body) (by rw[Qv];omega);generalize C.vsl z 5 0 (0+f.body.length)=cz at hg0⊢;have hczo:=hg0.isOw;simp only[go_sem,Qaoc,hczo];refine Qbmi (kn.e 0 rfl) (by omega) fun x H9 k9 b1 b2 hu hxs=>?_;have kn:Kn H H9 [(R.l,R.o k9)] ([(x2,.st [.sl true 3 []]),(x3,.st [.sl false 3 (Q3 l)]),(x4,fnO f)]++[(z,.vec 5 ([]++Qk f.body))]):=kn.callE 0 rfl hu (R.o_ne _);simp only[go_sem,Qaob,x.cells_len,hczo];have hpr:=(PR.sts f.body).app (Qbip (op:=3) (nm:=[]) (a:=.sl true 4 [x.cells]) (ars:=[x]) rfl fun H S=>by
   simp only[Qw];exact (FrzR.cons (.same x.noOw) .nil).sl)
  refine Kn.growR (B:=[_,_,_]) (rows:=Qk f.body) kn hg0 (new:=[[.int .i64 3,.str [],.sl true 4 [x.cells],.sl true 5 [],.sl true 5 []]]) (.mk' _ true 5 _) (by simp[noOw,C.isOw]) (by simp only[Qv,Ji,Jg,LIM];omega) fun t Lt H10 hgt hto kn=>?_;have g4:=kn.l 2 rfl;simp only[go_sem,Qaoa,g4,hto];intro H11 h11;have kn:=kn.stL 2 rfl h11;try simp only[go_sem,AE.X.next]
  have hfz:=hpr.fz hgt;rw[Qo4]at hfz;exact fin f.name f.params (f.body++[.mk 3 [] [x] [] []]) _ t [] Lt _ _ k9 fz0 hfz (by simp only[Qbt,Qh,St.size,Qr];omega) (by omega) (by omega) kn rfl rfl rfl
 refine Qa ?_;simp only[go_sem];refine Qc rfl (fun hc=>?_) (fun hc=>?_)
 ·refine Qp ?_;simp only[go_sem,g4,Qv];refine⟨.inl trivial,Qa9 _,by simp only[LIM];omega,fun z hz H8 h8=>?_⟩;have kn:=kn.al hz h8;have hg0:Gr [(z,.vec 5 ([]++Qk f.body))] 5 (Qk f.body) (.vsl z 5 0 (0+f.body.length)):=Gr.mk z 5 (Qk f.body) (by rw[Qv];omega);generalize C.vsl z 5 0 (0+f.body.length)=cz at hg0⊢;have hczo:=hg0.isOw;simp only[go_sem,Qagr,hczo];refine Qcp (kn.e 0 rfl) (by omega) fun op H9 hop hu=>?_;have kn:=kn.callE 0 rfl hu (R.o_ne _);simp only[go_sem,Qagq,hczo];refine of_c (ss:=[[],[97],[122,122]]) (kn.e 0 rfl) (by omega) (by simp) fun w H10 hw hu=>?_;have kn:=kn.callE 0 rfl hu (R.o_ne _);simp only[go_sem,Qagp,hczo];refine Qbqo (by omega) (kn.e 0 rfl) (by omega) fun x H11 k9 b1 b2 hu hxs=>?_;have kn:Kn H H11 [(R.l,R.o k9)] ([(x2,.st [.sl true 3 []]),(x3,.st [.sl false 3 (Q3 l)]),(x4,fnO f)]++[(z,.vec 5 ([]++Qk f.body))]):=kn.callE 0 rfl hu (R.o_ne _);simp only[go_sem,Qago,x.cells_len,hczo];have hpr:=(PR.sts f.body).app (Qbip (op:=op) (nm:=w) (a:=.sl true 4 [x.cells]) (ars:=[x]) rfl fun H S=>by
   simp only[Qw];exact (FrzR.cons (.same x.noOw) .nil).sl)
  refine Kn.growR (B:=[_,_,_]) (rows:=Qk f.body) kn hg0 (new:=[[.int .i64 op,.str w,.sl true 4 [x.cells],.sl true 5 [],.sl true 5 []]]) (.mk' _ true 5 _) (by simp[noOw,C.isOw]) (by simp only[Qv,Ji,Jg,LIM];omega) fun t Lt H12 hgt hto kn=>?_;have g4:=kn.l 2 rfl;simp only[go_sem,Qagn,g4,hto];intro H13 h13;have kn:=kn.stL 2 rfl h13;try simp only[go_sem,AE.X.next]
  have hfz:=hpr.fz hgt;rw[Qo4]at hfz;exact fin f.name f.params (f.body++[.mk op w [x] [] []]) _ t [] Lt _ _ k9 fz0 hfz (by simp only[Qbt,Qh,St.size,Qr];omega) (by omega) (by omega) kn rfl rfl rfl
 refine Qa ?_;simp only[go_sem];refine Qc rfl (fun hc=>?_) (fun hc=>?_)
 ·refine Qa ?_;simp only[go_sem];intro x5 hx5 H8 h8;have kn:=kn.al hx5 h8;have g5:=kn.l 3 rfl;simp only[go_sem,Qags,g5];intro H9 h9;have kn:=kn.stL 3 rfl h9;refine Q5 ?_;refine Qa ?_;simp only[go_sem];refine Qcp (kn.e 0 rfl) (by omega) fun cnt H10 hcnt hu=>?_;have kn:=kn.callE 0 rfl hu (R.o_ne _);rw[if_neg (by omega)]at hcnt;obtain⟨cj,rfl⟩:=J0 hcnt.1;simp only[go_sem,Qagt];refine Qg (Qe (Q2 (fun m e1 H1=>∃(j:Nat) (op:Int) (b:C) (bl:List St) (k9:Nat),m=j∧j≤4∧k2+2≤k9∧k9+j≤k2+6∧b.isOw=false∧(∀(H:Heap) (S:Nat→Bool),FrzC H S b (.sl false 5 (Qk bl)))∧Qh bl+3 * j≤12∧
   Kn H H1 [(R.l,R.o k9)] [(x2,.st [.sl true 3 []]),(x3,.st [.sl false 3 (Q3 l)]),(x4,fnO f),(x5,.st [.int .i64 op,.str [],a0C,b,.sl true 5 []])]∧
   e1=[(0,.c (.ptr R.l 0)),(2,.c (.ptr x2 0)),(3,.c (.ptr x3 0)),(4,.c (.ptr x4 0)),(5,.c (.ptr x5 0)),(6,.c (.int .i64 j))]) cj ?_ ?_))
  ·exact⟨cj,6,.sl true 5 [],[],k2+2,by omega,by omega,by omega,by omega,rfl,fun H S=>FrzR.nil.sl,by simp only[Qh];omega,kn,rfl⟩
  ·clear kn g5 h9 h8;rintro m e1 H11 ⟨j,op,b,bl,k9,hm,hj,hk9,hk10,hbo,hbf,hbs,kn,rfl⟩;have g5:=kn.l 3 rfl;have g4:=kn.l 2 rfl;refine Q5 ?_;refine Qa ?_;simp only[go_sem];have hrowf:∀(H:Heap) (S:Nat→Bool),FrzL H S [.int .i64 op,.str [],a0C,b,.sl true 5 []] (St.mk op [] [.mk 1 0 [] []] bl []).cells:=fun H S=>by
    simp only[St.cells_eq,St.op,St.name,St.args,St.body,St.els];exact .cons (Qd rfl) (.cons (Qd rfl) (.cons (Qa6q 0 H S) (.cons (hbf H S) (.cons FrzR.nil.sl .nil))))
   refine Qg (Qc rfl (fun hc2=>?_) (fun hc2=>?_))
   ·have hj0:0<j:=(by simpa using hc2);refine Qf ?_;try simp only[go_sem]
    refine Qg (Qe ?_);refine Qe8 ?_;simp only[go_sem,g5,hbo];refine Qys (ns:=[5,6]) (kn.e 0 rfl) (by omega) (by simp) fun w H12 hw hu=>?_;have kn:=kn.callE 0 rfl hu (R.o_ne _);have g5:=kn.l 3 rfl;simp only[go_sem,Qagu,g5,hbo];intro H13 h13;have kn:=kn.stL 3 rfl h13;try simp only[go_sem,AE.X.next]
    refine Qp ?_;try simp only[go_sem,AE.X.next]
    refine⟨Qm (by omega) (by omega),j-1,by omega,j-1,w,.sl true 5 [[.int .i64 op,.str [],a0C,b,.sl true 5 []]],[.mk op [] [.mk 1 0 [] []] bl []],k9+1,rfl,by omega,by omega,by omega,rfl,fun H S=>?_,?_,kn,?_⟩
    ·simp only[Qk];exact (FrzR.cons (hrowf H S) .nil).sl
    ·simp only[Qh,St.size,Qr,Ex.size];omega
    ·have:((j:Int)-1)=((j-1:Nat):Int):=(by omega);rw[this]
   ·refine Q1 ?_;simp only[go_sem,AE.X.next];refine Qe8 ?_;simp only[go_sem,g5,g4,hbo,Qv];refine⟨.inl trivial,Qa9 _,by simp only[LIM];omega,fun z hz H12 h12=>?_⟩;have kn:Kn H H12 [(R.l,R.o k9)] ([(x2,.st [.sl true 3 []]),(x3,.st [.sl false 3 (Q3 l)]),(x4,fnO f),(x5,.st [.int .i64 op,.str [],a0C,b,.sl true 5 []])]++[(z,.vec 5 ([]++Qk f.body))]):=kn.al hz h12;have g5:=kn.l 3 rfl;have hg0:Gr [(z,.vec 5 ([]++Qk f.body))] 5 (Qk f.body) (.vsl z 5 0 (0+f.body.length)):=Gr.mk z 5 (Qk f.body) (by rw[Qv];omega);generalize C.vsl z 5 0 (0+f.body.length)=cz at hg0⊢;have hczo:=hg0.isOw;simp only[go_sem,Qagw,g5,hbo,hczo];have hpr:PR (Qk f.body++[[.int .i64 op,.str [],a0C,b,.sl true 5 []]]) (Qk f.body++Qk [.mk op [] [.mk 1 0 [] []] bl []]):=(PR.sts f.body).app ⟨fun r hr=>by simp only[Ja]at hr;subst hr;simp only[noOw,Jaj,Jam,Qaa4,Q30,Qalg,hbo];rfl,fun H S=>by simp only[Qk];exact .cons (hrowf H S) .nil⟩;refine Kn.growR (B:=[_,_,_,_]) (rows:=Qk f.body) kn hg0 (new:=[[.int .i64 op,.str [],a0C,b,.sl true 5 []]]) (.mk' _ true 5 _) (fun r hr=>by simp only[Ja]at hr;subst hr;simp only[noOw,Jaj,Jam,Qaa4,Q30,Qalg,hbo];rfl) (by simp only[Qv,Ji,Jg,LIM];omega) fun t Lt H13 hgt hto kn=>?_;have g4:=kn.l 2 rfl;simp only[go_sem,Qagv,g4,hto];intro H14 h14;have kn:=kn.stL 2 rfl h14;try simp only[go_sem,AE.X.next]
    have hfz:=hpr.fz hgt;rw[Qo4]at hfz;refine fin f.name f.params (f.body++[.mk op [] [.mk 1 0 [] []] bl []]) _ t [] Lt _ _ k9 fz0 hfz (by simp only[Qbt,Qh,St.size,Qr,Ex.size];omega) (by omega) (by omega) (kn.sub ?_) rfl rfl rfl;exact .cons_cons _ (.cons_cons _ (.cons_cons _ (.cons _ (List.Sublist.refl _))))
 refine Qa ?_;simp only[go_sem];refine Qc rfl (fun hc=>?_) (fun hc=>?_)
 ·have g2:=kn.l 0 rfl;refine Qa ?_;simp only[go_sem,g2];intro H8 h8;have kn:=kn.stL 0 rfl h8;have g2:=kn.l 0 rfl;refine Qi ?_;simp only[go_sem,AE.X.next,Qq,Q7,Qbbq,Ja,forall_eq,RS.op,g2];exact⟨_,(FrzL.cons FrzR.nil.sl .nil).ag,hK [] _ (k2+1) (by omega) (by omega) kn.fin (by simp[Qs])⟩
 refine Qa ?_;simp only[go_sem];refine Qc rfl (fun hc=>?_) (fun hc=>?_)
 ·refine Qa ?_;simp only[go_sem];refine Qys (ns:=[20,40,41]) (kn.e 0 rfl) (by omega) (by simp) fun cnt H8 hcnt hu=>?_;have kn:=kn.callE 0 rfl hu (R.o_ne _);have hc41:0≤cnt∧cnt≤41:=by
   simp only[Jh,J6,or_false]at hcnt;omega
  obtain⟨cj,rfl⟩:=J0 hc41.1;simp only[go_sem,Qagx];refine Qe (Q2 (fun m e1 H1=>∃(j:Nat) (b:C) (rows:List (List C)) (body:List St) (Lb:List (Nat×Obj)),m=j∧j≤41∧PR rows (Qk body)∧(b=.sl false 5 rows∧Lb=[]∨Gr Lb 5 rows b)∧Qh body+3 * j≤Qh f.body+123∧
   Kn H H1 [(R.l,R.o (k2+1+1))] ([(x2,.st [.sl true 3 []]),(x3,.st [.sl false 3 (Q3 l)]),(x4,.st [.str f.name,.sl false 1 (Q9 f.params),b])]++Lb)∧
   e1=[(2,.c (.ptr x2 0)),(3,.c (.ptr x3 0)),(4,.c (.ptr x4 0)),(7,.c (.int .i64 j))]) cj ?_ ?_)
  ·exact⟨cj,.sl false 5 (Qk f.body),Qk f.body,f.body,[],rfl,by omega,PR.sts _,.inl ⟨rfl,rfl⟩,by omega,kn,rfl⟩
  ·clear kn g4;rintro m e1 H9 ⟨j,b,rows,body,Lb,hm,hj,hpr,hb,hbs,kn,rfl⟩;have hbo:b.isOw=false:=by
    rcases hb with ⟨rfl,_⟩|hb
    ·rfl
    ·exact hb.isOw
   have hbl:=Qcd body;have hrl:=hpr.len;rw[Qv]at hrl;have hsb:Slc H9 5 rows b:=by
    rcases hb with ⟨rfl,_⟩|hb
    ·exact .mk' _ false 5 _
    ·exact Gr.slc2 hb kn
   have hokb:=eq_true hsb.ok;have hszb:=hsb.sz;have hrwb:=hsb.rows;have hlnb:=hsb.len;have g4:=kn.l 2 rfl;refine Q5 ?_;refine Qa ?_;simp only[go_sem];refine Qg (Qc rfl (fun hc2=>?_) (fun hc2=>?_))
   ·have hj0:0<j:=(by simpa using hc2);refine Qf ?_;try simp only[go_sem]
    refine Qg (Qe ?_);refine Qp ?_;simp only[go_sem,g4,hbo,hokb,hszb,hrwb,hlnb];refine⟨.inl trivial,hpr.1,by simp only[LIM];omega,fun z hz H10 h10=>?_⟩;have kn:=kn.al hz h10;have kn:Kn H H10 [(R.l,R.o (k2+1+1))] ([(x2,.st [.sl true 3 []]),(x3,.st [.sl false 3 (Q3 l)]),(x4,.st [.str f.name,.sl false 1 (Q9 f.params),b])]++[(z,.vec 5 ([]++rows))]):=kn.sub (by
     rw[Jj];exact List.Sublist.append (List.Sublist.refl _) (List.sublist_append_right _ _))
    have hg0:Gr [(z,.vec 5 ([]++rows))] 5 (rows) (.vsl z 5 0 (0+rows.length)):=Gr.mk z 5 (rows) (by omega);generalize C.vsl z 5 0 (0+rows.length)=cz at hg0⊢;have hczo:=hg0.isOw;simp only[go_sem,Qagz,hczo];have hpr2:=hpr.app (Qbip (op:=3) (nm:=[]) (a:=.sl true 4 [[.int .i64 1,.int .i64 j,.str [],.sl true 4 []]]) (ars:=[.mk 1 j [] []]) rfl fun H S=>Qa6q j H S);rw[Qo4]at hpr2;refine Kn.growR (B:=[_,_,_]) (rows:=rows) kn hg0 (new:=[[.int .i64 3,.str [],.sl true 4 [[.int .i64 1,.int .i64 j,.str [],.sl true 4 []]],.sl true 5 [],.sl true 5 []]]) (.mk' _ true 5 _) (by simp[noOw,C.isOw]) (by simp only[Ji,Jg,LIM];omega) fun t Lt H11 hgt hto kn=>?_;have g4:=kn.l 2 rfl;simp only[go_sem,Qagy,g4,hto,hbo,hczo];intro H12 h12;have kn:=kn.stL 2 rfl h12;try simp only[go_sem,AE.X.next]
    refine Qp ?_;try simp only[go_sem,AE.X.next]
    refine⟨Qm (by omega) (by omega),j-1,by omega,j-1,t,_,body++[.mk 3 [] [.mk 1 j [] []] [] []],Lt,rfl,by omega,hpr2,.inr hgt,?_,kn,?_⟩
    ·simp only[Qbt,Qh,St.size,Qr,Ex.size];omega
    ·have:((j:Int)-1)=((j-1:Nat):Int):=(by omega);rw[this]
   ·refine Q1 ?_;simp only[go_sem,AE.X.next];have hfz:Fz Lb b (.sl false 5 (Qk body)):=by
     rcases hb with ⟨rfl,rfl⟩|hb
     ·exact hpr.sl false
     ·exact hpr.fz hb
    exact fin f.name f.params body _ b [] Lb _ _ (k2+1+1) fz0 hfz (by omega) (by omega) (by omega) kn rfl rfl rfl
 refine Qa ?_;simp only[go_sem];refine Qc rfl (fun hc=>?_) (fun hc=>?_)
 ·have g3:=kn.l 1 rfl;have g2:=kn.l 0 rfl;have h0:(0:Nat)<l.length:=hpos;refine Qaf ?_;simp only[go_sem,g3,h0,Ja7,Qx,Qat _ _ h0,Fn.take3,Fn.allOw,Fn.cells_len];refine⟨.inl trivial,Qc3 _,by simp only[LIM];omega,fun z hz H8 h8=>?_⟩;have kn:Kn H H8 [(R.l,R.o (k2+1))] ([(x2,.st [.sl true 3 []]),(x3,.st [.sl false 3 (Q3 l)]),(x4,fnO f)]++[(z,.vec 3 ([]++Q3 l))]):=kn.al hz h8;have g3:=kn.l 1 rfl;have hg0:Gr [(z,.vec 3 ([]++Q3 l))] 3 (Q3 l) (.vsl z 3 0 (0+l.length)):=Gr.mk z 3 (Q3 l) (by rw[Qx];omega);generalize C.vsl z 3 0 (0+l.length)=cz at hg0⊢;have hczo:=hg0.isOw;simp only[go_sem,Qag1,g3,h0,Ja7,hczo,Qx,Qat _ _ h0,Fn.take3,Fn.allOw,Fn.cells_len];refine Kn.growR (B:=[_,_,_]) (rows:=Q3 l) kn hg0 (new:=[l[0].cells]) (.mk' _ true 3 _) (by simp[Fn.noOw]) (by simp only[Qx,Ji,Jg,LIM];omega) fun t Lt H9 hgt hto kn=>?_;rw[Q3x]at hgt;have g2:=kn.l 0 rfl;simp only[go_sem,Qag0,g2,hto,hczo];intro H10 h10;have kn:=kn.stL 0 rfl h10;have g2:=kn.l 0 rfl;refine Qi ?_;simp only[go_sem,AE.X.next,Qq,Q7,Qbbq,Ja,forall_eq,RS.op,g2,hto];refine⟨_,(FrzL.cons (hgt.frz (B:=[_,_,_]) kn (Qc3 _)) .nil).ag,hK (l++[l[0]]) _ (k2+1) (by omega) (by omega) kn.fin ?_⟩;have:=Qbf (Jk h0);simp only[Qtg,Qs];omega
 ·refine Qf ?_;try simp only[go_sem,AE.X.next]
  exact fin f.name f.params f.body _ _ [] [] _ _ (k2+1) fz0 fzb (by omega) (by omega) (by omega) kn rfl rfl rfl
end Go.AE.Y
namespace Go.AE.Y
open Go.Proofs.Tryz
def Qaw2:List Item:=[sJ 1 3 8]
def Qaw3:List Item:=eI 3 (.alloc [.sl true 3 []])::Qaw2
def Qaw4:List Item:=[cJ 11 .gtr 10 2]
def Qbjx:SC:=cT 11 (sR [tJ 12 1 3,sJ 1 2 12] [2] .ret) .skip
def Qaw5:List Item:=[cJ 15 .eql 14 0]
def Qaw6:List Item:=[sJ 1 2 17]
def Qbjy:SC:=cT 15 (sR (mJ 16 0::aJ 17 Qak7 [.t 16]::Qaw6) [2] .ret) .skip
def Qaw7:List Item:=[sJ 1 3 19]
def Qaw8:List Item:=[hJ 21 20,iJ 27 3 21 26,mJ 4 27]
def Qbjz:SC:=cT 33 (sR [tJ 34 1 3,sJ 1 2 34] [2] .ret) .skip
def Qapo:List Item:=[hJ 38 37,iJ 46 5 38 45,mJ 5 46]
def Qapp:List Item:=[sJ 4 6 50]
def Qapq:List Item:=fI 50 (.bld [.int .i64 0,.int .i64 0,.str [],.sl true 4 []] [(0,1,kI 2),(2,1,.t 49)])::eI 6 (.alloc [.int .i64 0,.int .i64 0,.str [],.sl true 4 []])::Qapp
def Qapr:List Item:=[fI 58 (.bld [.int .i64 0,.int .i64 0,.str [],.sl true 4 []] [(0,1,kI 1),(1,1,kI 1)]),fI 59 (.bsl 4 [.t 58]),fI 60 (.bld [.int .i64 0,.int .i64 0,.str [],.sl true 4 []] [(0,1,kI 13),(2,1,.t 57),(3,1,.t 59)]),sJ 4 6 60]
def Qaps:List Item:=[kJ 72 68,fJ 73 1 72,sJ 1 73 71]
def Qbeo:SC:=cT 67 (.reg (mJ 68 5::mJ 69 0::fI 70 (.bsl 1 [.k (.c (.str [97])),.k (.c (.str [98])),.k (.c (.str [122,122])),.k (.c (.str [99])),.k (.c (.str [100]))])::aJ 71 Qbq [.t 69,.t 70]::Qaps) [2,3]) .skip
def Qbep:SC:=sR [tJ 74 1 3,sJ 1 2 74] [2] .ret
def Qapt:List Item:=[kJ 89 77,fJ 90 2 89,sJ 1 90 88]
def Qapu:List Item:=hJ 81 80::xJ 88 5 81 87::Qapt
def Qbeq:SC:=sR [tJ 91 1 3,sJ 1 2 91] [2] .ret
def Qber:SC:=cT 75 (.seq (.dreg 15 [0,1,2,3,4,5,6,7,8,9,10,4,11,12,13,14] ( mJ 77 4::mJ 78 4::kJ 79 78::fJ 80 2 79::lJ 81 80::mJ 82 4::kJ 83 82::fJ 84 2 83::lJ 85 84::fI 86 (.sli 5 (.t 85) none (some (kI 1)))::aJ 87 Qi3 [.t 86]::Qapu) [2,3]) Qbeq) .skip
def Qbes:SC:=cT 61 (.seq (sR [mJ 63 5,kJ 64 63,fJ 65 1 64,lJ 66 65,fI 67 (.bin 0 .neq (.t 66) (.k (.c (.str []))))] [0,2,3,5,67] Qbeo) Qbep) (sR [cJ 76 .eql 52 2,mJ 75 76] [2,3,4,5,6,75] Qber)
def Qbet:SC:=cT 53 (.reg (mJ 55 0::fI 56 (.bsl 1 [.k (.c (.str [102])),.k (.c (.str [103])),.k (.c (.str [109])),.k (.c (.str [113]))])::aJ 57 Qbq [.t 55,.t 56]::Qapr) [2,3,5,6]) (sR [cJ 62 .eql 52 1,mJ 61 62] [0,2,3,4,5,6,52,61] Qbes)
def Qbeu:SC:=.block 0 (sR [cJ 54 .eql 52 0,mJ 53 54] [0,2,3,4,5,6,52,53] Qbet)
def Qbev:SC:=cT 96 (.dreg 7 [0,1,2,3,4,5,6] ( mJ 97 5::kJ 98 97::fJ 99 2 98::lJ 100 99::tJ 101 4 6::fI 102 (.iad 4 (.t 100) (kI 0))::sJ 4 102 101::[]) [2,3]) .skip
def Qbew:SC:=sR [tJ 103 1 3,sJ 1 2 103] [2] .ret
def Qaw1:SC:=.seq (.seq (.seq .gh (.reg [mJ 92 5,kJ 93 92,fJ 94 0 93,lJ 95 94,cJ 96 .neq 95 8] [2,3,5,6,96])) Qbev) Qbew
def Qbex:SC:=.seq (sR [mJ 51 0,aJ 52 Qz [.t 51,kI 4]] [0,2,3,4,5,6,52] Qbeu) Qaw1
def Qbey:SC:=sR (mJ 47 0::fI 48 (.bsl 1 [.k (.c (.str [122,122])),.k (.c (.str [97])),.k (.c (.str [98])),.k (.c (.str [99])),.k (.c (.str [100]))])::aJ 49 Qbq [.t 47,.t 48]::Qapq) [0,2,3,4,5,6] Qbex
def Qbez:SC:=.seq (.dreg 13 [0,1,2,3,4,5,6,7,8,9,10,3,11,12] ( mJ 35 4::kJ 36 35::fJ 37 2 36::lJ 38 37::mJ 39 0::mJ 40 4::kJ 41 40::fJ 42 2 41::lJ 43 42::nJ 44 43::aJ 45 Qz [.t 39,.t 44]::Qapo) [0,2,3,4,5]) Qbey
def Qbe0:SC:=.seq (sR [mJ 28 4,kJ 29 28,fJ 30 2 29,lJ 31 30,nJ 32 31,cJ 33 .eql 32 0] [0,2,3,4,33] Qbjz) Qbez
def Qbe1:SC:=.seq (.dreg 9 [0,1,2,3,4,5,6,1,7,8] ( fJ 20 0 3::lJ 21 20::mJ 22 0::fJ 23 0 3::lJ 24 23::nJ 25 24::aJ 26 Qz [.t 22,.t 25]::Qaw8) [0,2,3,4]) Qbe0
def Qbe2:SC:=sR (tJ 18 1 3::aJ 19 Qak8 [.t 18]::Qaw7) [0,2,3] Qbe1
def Qbe3:SC:=.seq (sR (mJ 13 0::aJ 14 Qz [.t 13,kI 6]::Qaw5) [0,2,3,15] Qbjy) Qbe2
def Qbe4:SC:=.seq (sR (mJ 9 0::aJ 10 Qz [.t 9,kI 5]::Qaw4) [0,2,3,11] Qbjx) Qbe3
def Qbe5:SC:=sR (mJ 7 0::aJ 8 Qaay [.t 7]::Qaw3) [0,2,3] Qbe4
def Qbre:SC:=sR [eI 2 (.alloc [.sl true 3 []])] [0,2] Qbe5
theorem Qbqz:mFn prog Qala 1 104 Qbre Qbbq=true:=by kernel_rfl
end Go.AE.Y
namespace Go.AE
variable {H0 H H':Heap}{E L:List (Nat×Obj)}
theorem Kn.neM (kn:Kn H0 H E L){a b:Nat}{oa ob:Obj}(h1:(a,oa)∈L)(h2:(b,ob)∈L)(h:oa≠ob):a≠b:=fun e=>by
 subst e;exact h ((kn.get _ (Jb _ h1)).1.symm.trans (kn.get _ (Jb _ h2)).1)
theorem Kn.upd1 (kn:Kn H0 H E L){x:Nat}{o o':Obj}(hm:(x,o)∈L)(h1:H'=H.set x o')(ho:o'≠.none:=by nofun):∃L',Kn H0 H' E L'∧(x,o')∈L'∧∀p∈L,p.1≠x→p∈L':=by
 obtain⟨i,hi⟩:=Jaw hm;refine⟨L.set i (x,o'),kn.stL i hi h1 ho,?_,fun p hp hne=>?_⟩
 ·have hlt:=(List.getElem?_eq_some_iff.1 hi).1;exact List.mem_iff_getElem?.2 ⟨i,by rw[Ja3];simp[hlt]⟩
 ·obtain⟨j,hj⟩:=Jaw hp;refine List.mem_iff_getElem?.2 ⟨j,?_⟩;rw[Ja3];have:i≠j:=fun e=>by
   subst e;rw[hi]at hj;exact hne (by rw[←J4 hj])
  rw[if_neg this];exact hj
theorem Kn.stMid {P A B Q:List (Nat×Obj)}{x:Nat}{o o':Obj}(kn:Kn H0 H E ((P++(A++(x,o)::B))++Q))(h1:H'=H.set x o')(ho:o'≠.none:=by nofun):Kn H0 H' E ((P++(A++(x,o')::B))++Q):=by
 have e:∀o,(P++(A++(x,o)::B))++Q=(P++A)++(x,o)::(B++Q):=fun o=>by simp
 rw[e]at kn⊢;exact kn.stM h1 ho
theorem Kn.lastM {A B:List (Nat×Obj)}{x:Nat×Obj}(kn:Kn H0 H E (A++x::B)):Kn H0 H E ((A++B)++[x]):=
 kn.perm (List.perm_middle.trans (List.perm_append_singleton x (A++B)).symm)
theorem Kn.getL (kn:Kn H0 H E L){x:Nat}{o:Obj}(hm:(x,o)∈L):H x=o:=(kn.get _ (Jb _ hm)).1
end Go.AE
namespace Go.AE.Y
attribute [local go_sem] cond_true cond_false Bool.not_true Bool.not_false
open Go.Proofs.Tryz
variable {H H0 F:Heap}{K:V→Heap→Prop}{E B Lg:List (Nat×Obj)}
theorem Gr.vec {sz:Nat}{rows:List (List C)}{c:C}(h:Gr Lg sz rows c):∀p∈Lg,∃z r,p.2=Obj.vec z r:=by
 rcases h with ⟨_,_,rfl⟩|⟨y,_,rfl⟩
 ·simp
 ·intro p hp;simp only[Ja]at hp;subst hp;exact⟨_,_,rfl⟩
theorem OFn.vec {u:OFn}(h:u.ok):∀p∈u.lg,∃z r,p.2=Obj.vec z r:=by
 intro p hp;rcases Je.1 hp with hp|hp
 ·exact Gr.vec h.p p hp
 ·rcases Je.1 hp with hp|hp
  ·obtain⟨o,ho,hp⟩:=Jp.1 hp;exact Gr.vec (h.o o ho) p hp
  ·exact Gr.vec h.b p hp
theorem Qbg5 {α:Type}{l:List α}{i:Nat}(h:i<l.length)(d:α):l.getD i d=l[i]:=by simp[Jm,h]
theorem Qakz:∀(l:List Ex) (i:Nat) (x:Ex),Qr (l.set i x)≤Qr l+x.size
 |[],i,x=>by simp[Qr]
 |y::r,0,x=>by simp only[Jaz,Qr];omega
 |y::r,i+1,x=>by have:=Qakz r i x;simp only[Jay,Qr];omega
def obU (z:Nat)(us:List OFn):List (Nat×Obj):=us.flatMap OFn.lg++[(z,.vec 3 (us.map OFn.row))]
theorem Qbq5 {z:Nat}{us:List OFn}(h:∀u∈us,u.ok):∀p∈obU z us,∃s r,p.2=Obj.vec s r:=by
 intro p hp;rcases Je.1 hp with hp|hp
 ·obtain⟨u,hu,hp⟩:=Jp.1 hp;exact OFn.vec (h u hu) p hp
 ·simp only[Ja]at hp;subst hp;exact⟨_,_,rfl⟩
theorem Qa5g {α:Type}{l:List α}{i:Nat}(h:i<l.length){a:α}(ha:l[i]=a):∃l1 l2,l=l1++a::l2∧l1.length=i:=by
 refine⟨l.take i,l.drop (i+1),?_,by rw[Jt];omega⟩;rw[←ha,List.getElem_cons_drop,Jae]
theorem Qbkj {α:Type}(l1 l2:List α)(a b:α){i:Nat}(hi:l1.length=i):(l1++a::l2).set i b=l1++b::l2:=by
 subst hi;simp
theorem Qalw (z:Nat)(us1 us2:List OFn)(u:OFn):obU z (us1++u::us2)=us1.flatMap OFn.lg++(u.lg++(us2.flatMap OFn.lg++[(z,.vec 3 (us1.map OFn.row++u.row::us2.map OFn.row))])):=by
 simp[obU]
theorem Qbhw (u:OFn)(o1 o2:List OSt)(o:OSt)(h:u.os=o1++o::o2):u.lg=u.pl++(o1.flatMap OSt.al++(o.al++(o2.flatMap OSt.al++u.bl))):=by
 simp[OFn.lg,h]
theorem Qbmo {R:Rdr}{k:Nat}(hH:H R.l=R.o k)(hk:k+15000000≤2^30)
  (hK:∀(l:List Fn) (H':Heap) (k':Nat),k<k'→Upd H H' [(R.l,R.o k')]→Qs l≤2^36→K (.ag [.sl false 3 (Q3 l)]) H') :
  Qj prog Qala [.c (.ptr R.l 0)] H K:=by
 refine Qn ?_;refine Qb Qad Qbqz ?_;refine Qa ?_;simp only[go_sem];intro x2 hx2 H1 h1;have kn:=(Kn.start1 hH (R.o_ne k)).al hx2 h1;refine Qa ?_;simp only[go_sem];refine Qba0 (kn.e 0 rfl) (by omega) fun l H2 k2 g1 g2 hu hpr=>?_;have kn:=kn.callE 0 rfl hu (R.o_ne _);have hpos:=hpr.pos;have hl4:=hpr.len;have hsz:=hpr.size;simp only[go_sem,Qaw3];intro x3 hx3 H3 h3;have kn:=kn.al hx3 h3;have g3:=kn.l 1 rfl;simp only[go_sem,Qaw2,g3];intro H4 h4;have kn:=kn.stL 1 rfl h4;refine Q5 ?_;refine Qa ?_;simp only[go_sem];refine Qcp (kn.e 0 rfl) (by omega) fun v H5 hv hu=>?_;have kn:=kn.callE 0 rfl hu (R.o_ne _);have g3:=kn.l 1 rfl;have g2':=kn.l 0 rfl;simp only[go_sem,Qaw4];refine Qg (Qc rfl (fun hc=>?_) (fun hc=>?_))
 ·refine Qa ?_;simp only[go_sem,g3,g2'];intro H6 h6;have kn:=kn.stL 0 rfl h6;have g2':=kn.l 0 rfl;refine Qi ?_;simp only[go_sem,AE.X.next,Qq,Q7,Qbbq,Ja,forall_eq,RS.op,g2'];exact⟨_,(FrzL.cons (FrzR.same (Qc3 _)).sl .nil).ag,hK l _ (k2+1) (by omega) kn.fin (by omega)⟩
 refine Qf ?_;try simp only[go_sem]
 refine Q5 ?_;refine Qa ?_;simp only[go_sem];refine Qcp (kn.e 0 rfl) (by omega) fun v2 H6 hv2 hu=>?_;have kn:=kn.callE 0 rfl hu (R.o_ne _);simp only[go_sem,Qaw5];refine Qg (Qc rfl (fun hc=>?_) (fun hc=>?_))
 ·refine Qa ?_;simp only[go_sem];refine Qbmn (kn.e 0 rfl) (by omega) fun l2 H7 k7 b1 b2 hu hs2=>?_;have kn:=kn.callE 0 rfl hu (R.o_ne _);have g2':=kn.l 0 rfl;simp only[go_sem,Qaw6,g2'];intro H8 h8;have kn:=kn.stL 0 rfl h8;have g2':=kn.l 0 rfl;refine Qi ?_;simp only[go_sem,AE.X.next,Qq,Q7,Qbbq,Ja,forall_eq,RS.op,g2'];exact⟨_,(FrzL.cons (FrzR.same (Qc3 _)).sl .nil).ag,hK l2 _ k7 (by omega) kn.fin (by omega)⟩
 refine Qf ?_;try simp only[go_sem]
 have g3:=kn.l 1 rfl;refine Qa ?_;simp only[go_sem,g3];refine Qbhr (l:=l) rfl (.mk' _ false 3 _) (by omega) (fun f hf=>by have:=hpr.par f hf;omega) fun us t Lz H7 hux huo hz hto k2n=>?_;have hul:us.length=l.length:=by rw[←hux,Jd]
 obtain⟨z,rfl,rfl⟩:∃z,t=.vsl z 3 0 us.length∧Lz=[(z,.vec 3 (us.map OFn.row))]:=by
  rcases hz with ⟨_,h,_⟩|⟨y,h1,h2⟩
  ·have:=congrArg List.length h;rw[Jd,Jg]at this;omega
  ·exact⟨y,by rw[h1,Jd],h2⟩
 have kn:=kn.addNew k2n;have g3:=kn.l 1 rfl;simp only[go_sem,Qaw7,g3];intro H8 h8;have kn:Kn H H8 [(R.l,R.o (k2+1+1))] ([(x2,.st [.sl true 3 []]),(x3,.st [.vsl z 3 0 us.length])]++obU z us):=kn.stL 1 rfl h8;have fin:∀(us':List OFn) (L8:List (Nat×Obj)) (H8 H9:Heap) (k8:Nat),(∀u∈us',u.ok)→us'.length=us.length→Qs (us'.map OFn.f)≤2^36→k<k8→Kn H H8 [(R.l,R.o k8)] L8→(x2,.st [.sl true 3 []])∈L8→(∀p∈obU z us',p∈L8)→H9=H8.set x2 (.st [.vsl z 3 0 us.length])→
   Qq Qbbq (unK H K) .ret [(2,.c (.ptr x2 0))] H9:=by
  intro us' L8 H8 H9 k8 hu' hl' hs' hkk kn hm2 hmem h9;obtain⟨L9,kn9,hx29,hoth⟩:=kn.upd1 hm2 h9;have g2:=kn9.getL hx29;simp only[go_sem,Qq,Q7,Qbbq,Ja,forall_eq,RS.op,g2];have hin:∀p∈obU z us',p∈L9:=fun p hp=>hoth p (hmem p hp) fun e=>by
   obtain⟨s,r,he⟩:=Qbq5 hu' p hp;obtain⟨p1,p2⟩:=p;simp only at he e;exact kn.neM (hmem _ hp) hm2 (by rw[he];nofun) e
  have hf:=Qbm6 (H:=H9) (S:=un H) hu' (Gr.mk (n:=us.length) z 3 (us'.map OFn.row) (by rw[Jd];omega)) fun p hp=>⟨(kn9.get p (Jb _ (hin p hp))).1,Qu0 (kn9.loc p (hin p hp))⟩;exact⟨_,(FrzL.cons hf .nil).ag,hK _ _ k8 hkk kn9.fin hs'⟩
 have gz:H8 z=.vec 3 (us.map OFn.row):=kn.getL (by simp[obU]);have g3:=kn.l 1 rfl;refine Qaf ?_;simp only[go_sem,g3,gz,Jd,Jx,Jn];try intro _
 refine Qcp (kn.e 0 rfl) (by omega) fun iv H9 hiv hu=>?_;have kn:Kn H H9 [(R.l,R.o (k2+1+1+1))] ([(x2,.st [.sl true 3 []]),(x3,.st [.vsl z 3 0 us.length])]++obU z us):=kn.callE 0 rfl hu (R.o_ne _);rw[if_neg (by omega)]at hiv;obtain⟨i,rfl⟩:=J0 hiv.1;have hi:i<us.length:=by omega
 have gz:H9 z=.vec 3 (us.map OFn.row):=kn.getL (by simp[obU]);have g3:=kn.l 1 rfl;have htk:(us.map OFn.row).take us.length=us.map OFn.row:=Jo (by rw[Jd];exact Jn _);obtain⟨u,hue⟩:∃u,us[i]=u:=⟨_,rfl⟩;have hum:u∈us:=by rw[←hue];exact Jk hi
 have hur:=huo u hum;have hpo:=hur.p.isOw;have hbo:=hur.b.isOw;have hrow:(us.map OFn.row).getD i []=[.str u.f.name,u.pc,u.bc]:=by rw[Qbg5 (by rw[Jd];exact hi),Jap,hue];rfl
 simp only[go_sem,Qaw8,g3,gz,hi,Jd,Jx,Jn];have hsb:Slc H9 5 (u.os.map OSt.row) u.bc:=by
  have hm:∀p∈u.bl,H9 p.1=p.2:=fun p hp=>kn.getL (Jb _ (Jc _ (Jp.2 ⟨u,hum,Jb _ (Jb _ hp)⟩)));have hb:=hur.b;refine⟨?_,hb.elemSz,?_,hb.lenC⟩
  ·rcases hb with ⟨h1,h2,h3⟩|⟨y,h1,h2⟩
   ·rw[h1];trivial
   ·have:=hm (y,.vec 5 (u.os.map OSt.row)) (by rw[h2];simp);rw[h1];simp only[okSl];simp only[this];simp
  ·rcases hb with ⟨h1,h2,h3⟩|⟨y,h1,h2⟩
   ·rw[h1,h2];rfl
   ·have:=hm (y,.vec 5 (u.os.map OSt.row)) (by rw[h2];simp);rw[h1];simp only[rowsOf];simp only[this,List.drop_zero,Jag]
 have hokb:=eq_true hsb.ok;have hlnb:=hsb.len;rw[Jd]at hlnb;refine Q5 ?_;refine Qa ?_;simp only[go_sem,gz,hi,htk,hrow,hpo,hbo,hokb,hlnb,Jd,Jx,Jn];try intro hlim
 have hsz1:∀us':List OFn,us'.map OFn.f=l→Qs (us'.map OFn.f)≤2^36:=fun us' h=>by rw[h];omega
 refine Qg (Qc rfl (fun hc=>?_) (fun hc=>?_))
 ·have g2:=kn.l 0 rfl;refine Qa ?_;simp only[go_sem,g3,g2];intro H10 h10;refine Qi ?_;try simp only[go_sem,AE.X.next]
  exact fin us _ _ _ (k2+1+1+1) huo rfl (hsz1 us hux) (by omega) kn (by simp) (fun p hp=>Jb _ hp) h10
 have hone:0<u.os.length:=by
  have h:¬((u.os.length:Int)=0):=by simpa using hc
  omega
 obtain⟨y,hbc,hbl⟩:∃y,u.bc=.vsl y 5 0 u.os.length∧u.bl=[(y,.vec 5 (u.os.map OSt.row))]:=by
  rcases hur.b with ⟨_,h,_⟩|⟨y,h1,h2⟩
  ·have:=congrArg List.length h;rw[Jd,Jg]at this;omega
  ·exact⟨y,by rw[h1,Jd],h2⟩
 have hym:(y,Obj.vec 5 (u.os.map OSt.row))∈obU z us:=Jc _ (Jp.2 ⟨u,hum,Jb _ (Jb _ (by rw[hbl];simp))⟩);have hrowb:=hrow;rw[hbc]at hrow;refine Qf ?_;try simp only[go_sem]
 have gy:H9 y=.vec 5 (u.os.map OSt.row):=kn.getL (Jb _ hym);refine Qaf ?_;simp only[go_sem,gz,gy,hi,htk,hrow,hpo,Jd,Jx,Jn];try intro _
 refine Qcp (kn.e 0 rfl) (by omega) fun jv H10 hjv hu=>?_;have kn:Kn H H10 [(R.l,R.o (k2+1+1+1+1))] ([(x2,.st [.sl true 3 []]),(x3,.st [.vsl z 3 0 us.length])]++obU z us):=kn.callE 0 rfl hu (R.o_ne _);rw[if_neg (by omega)]at hjv;obtain⟨j,rfl⟩:=J0 hjv.1;have hj:j<u.os.length:=by omega
 have gz:H10 z=.vec 3 (us.map OFn.row):=kn.getL (by simp[obU]);have gy:H10 y=.vec 5 (u.os.map OSt.row):=kn.getL (Jb _ hym);have htky:(u.os.map OSt.row).take u.os.length=u.os.map OSt.row:=Jo (by rw[Jd];exact Jn _);obtain⟨o,hoe⟩:∃o,u.os[j]=o:=⟨_,rfl⟩;have hom:o∈u.os:=by rw[←hoe];exact Jk hj
 have hook:=hur.o o hom;have hao:=Gr.isOw hook;have horow:(u.os.map OSt.row).getD j []=[.int .i64 o.x.op,.str o.x.name,o.ac,.sl false 5 (Qk o.x.body),.sl false 5 (Qk o.x.els)]:=by rw[Qbg5 (by rw[Jd];exact hj),Jap,hoe];rfl
 simp only[go_sem,Qapo,gz,gy,hi,hj,htk,hrow,hpo,Jd,Jx,Jn];refine Qa ?_;simp only[go_sem];refine of_c (ss:=[[122,122],[97],[98],[99],[100]]) (kn.e 0 rfl) (by omega) (by simp) fun w H11 hw hu=>?_;have kn:Kn H H11 [(R.l,R.o (k2+1+1+1+1+1))] ([(x2,.st [.sl true 3 []]),(x3,.st [.vsl z 3 0 us.length])]++obU z us):=kn.callE 0 rfl hu (R.o_ne _);simp only[go_sem,Qapq];intro x6 hx6 H12 h12;have kn:=kn.al hx6 h12;have g6:H12 x6=.st [.int .i64 0,.int .i64 0,.str [],.sl true 4 []]:=kn.getL (by simp);simp only[go_sem,Qapp,g6];intro H13 h13;have kn:Kn H H13 [(R.l,R.o (k2+1+1+1+1+1))] (([(x2,.st [.sl true 3 []]),(x3,.st [.vsl z 3 0 us.length])]++obU z us)++(x6,.st [.int .i64 2,.int .i64 0,.str w,.sl true 4 []])::[]):=by
  refine Kn.stM (A:=[(x2,.st [.sl true 3 []]),(x3,.st [.vsl z 3 0 us.length])]++obU z us) kn h13
 refine Q5 ?_;refine Qa ?_;simp only[go_sem];refine Qcp (kn.e 0 rfl) (by omega) fun q H14 hq hu=>?_;have kn:Kn H H14 [(R.l,R.o (k2+1+1+1+1+1+1))] (([(x2,.st [.sl true 3 []]),(x3,.st [.vsl z 3 0 us.length])]++obU z us)++(x6,.st [.int .i64 2,.int .i64 0,.str w,.sl true 4 []])::[]):=kn.callE 0 rfl hu (R.o_ne _);simp only[go_sem];have hfl:∀f':Fn,Qs ((us.map OFn.f).set i f')≤2^34+Qh f'.body:=fun f'=>by
  have:=Qyv (us.map OFn.f) i f';rw[hux]at this⊢;omega
 have hub:Qh u.f.body≤2^34:=by
  have:u.f∈l:=by rw[←hux];exact J3 hum
  have:=Qbf this;omega
 have hobs:o.x.size≤Qh u.f.body:=by
  have:o.x∈u.f.body:=by rw[←hur.x];exact J3 hom
  exact Qbl this
 obtain⟨us1,us2,hus,hi1⟩:=Qa5g hi hue;obtain⟨o1,o2,hos,hj1⟩:=Qa5g hj hoe;have hP:Qs (us1.map OFn.f)+Qh u.f.body+Qs (us2.map OFn.f)≤2^34:=by
  have h1:l=us1.map OFn.f++u.f::us2.map OFn.f:=by rw[←hux,hus];simp
  rw[h1,Qtg]at hsz;simp only[Qs]at hsz;omega
 have hSz:Qh (o1.map OSt.x)+o.x.size+Qh (o2.map OSt.x)=Qh u.f.body:=by
  have h1:u.f.body=o1.map OSt.x++o.x::o2.map OSt.x:=by rw[←hur.x,hos];simp
  rw[h1,Qbt];simp only[Qh];omega
 have hok':∀u':OFn,u'.ok→∀v∈us1++u'::us2,v.ok:=by
  intro u' hu' v hv;rcases Je.1 hv with hv|hv
  ·exact huo v (by rw[hus];exact Jc _ hv)
  ·rcases Jh.1 hv with rfl|hv
   ·exact hu'
   ·exact huo v (by rw[hus];exact Jb _ (Js _ hv))
 have hlen':∀u':OFn,(us1++u'::us2).length=us.length:=fun u'=>by rw[hus];simp
 have hps':∀u':OFn,Qh u'.f.body≤2^35→Qs ((us1++u'::us2).map OFn.f)≤2^36:=fun u' h=>by
  rw[Jl,Jv,Qtg];simp only[Qs];omega
 have hoo:∀v∈o1++o2,v.ok:=fun v hv=>hur.o v (by
  rw[hos];rcases Je.1 hv with hv|hv
  ·exact Jc _ hv
  ·exact Jb _ (Js _ hv))
 have hargs:0<o.x.args.length:=by
  have h1:o.x∈u.f.body:=by rw[←hur.x];exact J3 hom
  have h2:u.f∈l:=by rw[←hux];exact J3 hum
  have:=Qarv (hpr.ok _ h2) _ h1;rw[St.ok_eq]at this;exact this.1
 have last:∀(op n:Int) (nm:List UInt8) (ks:C) (kk:List Ex) (H14:Heap) (e14:Env) (k14:Nat),k<k14→Kn H H14 [(R.l,R.o k14)] (([(x2,.st [.sl true 3 []]),(x3,.st [.vsl z 3 0 us.length])]++obU z us)++(x6,.st [.int .i64 op,.int .i64 n,.str nm,ks])::[])→ks.isOw=false→
   (∀(H:Heap) (S:Nat→Bool),FrzC H S ks (.sl false 4 (Qw kk)))→Qr kk≤10→
   lk 2 e14=.c (.ptr x2 0)→lk 3 e14=.c (.ptr x3 0)→lk 5 e14=.c (.ep (.vsl y 5 0 u.os.length) 5 j 0)→lk 6 e14=.c (.ptr x6 0)→Q8 prog Qaw1 (Qq Qbbq (unK H K)) e14 H14:=by
  intro op n nm ks kk H14 e14 k14 hk14 kn hko hkf hks f2 f3 f5 f6;have g6:H14 x6=.st [.int .i64 op,.int .i64 n,.str nm,ks]:=kn.getM;have kz:=Kn.frzN (Lg:=[]) (B:=([(x2,.st [.sl true 3 []]),(x3,.st [.vsl z 3 0 us.length])]++obU z us)++(x6,.st [.int .i64 op,.int .i64 n,.str nm,ks])::[]) (by rw[Jy];exact kn);have kz:=kz.stM (o':=.st [.int .i64 op,.int .i64 n,.str nm,.sl false 4 (Qw kk)]) rfl;have hfz:=(Q3y H14 (fun m=>(([]:List (Nat×Obj)).map Prod.fst).contains m)).set (l:=x6) (o:=.st [.int .i64 op,.int .i64 n,.str nm,.sl false 4 (Qw kk)]) rfl (by
   rw[g6];exact FrzKL.st (.same (.same (.same (.cons hko (hkf _ _) .nil)))))
  obtain⟨H15,hH15⟩:∃H15,((H14.frz (fun m=>(([]:List (Nat×Obj)).map Prod.fst).contains m)).set x6 (.st [.int .i64 op,.int .i64 n,.str nm,.sl false 4 (Qw kk)]))=H15:=⟨_,rfl⟩;rw[hH15]at kz hfz;refine Q5 ?_;refine Q5 ?_;refine c_gh (Qi4 _ (Qbg3 ?_) hfz) (e':=[(2,.c (.ptr x2 0)),(3,.c (.ptr x3 0)),(5,.c (.ep (.vsl y 5 0 u.os.length) 5 j 0)),(6,.c (.ptr x6 0))]) ?_
  ·intro p hp;simp only[Jh,J6,or_false]at hp;rcases hp with rfl|rfl|rfl|rfl
   ·simp only[f2];exact .c _ _ (.same _ rfl)
   ·simp only[f3];exact .c _ _ (.same _ rfl)
   ·simp only[f5];exact .c _ _ (.same _ rfl)
   ·simp only[f6];exact .c _ _ (.same _ rfl)
  have gy:H15 y=.vec 5 (u.os.map OSt.row):=kz.getL (Jc _ (Jb _ hym));have g6:H15 x6=.st [.int .i64 op,.int .i64 n,.str nm,.sl false 4 (Qw kk)]:=kz.getM;have g2:=kz.l 0 rfl;have g3:=kz.l 1 rfl;refine Qa ?_;simp only[go_sem,gy,hj,htky,horow,hao,Jd,Jx,Jn];refine Qg (Qc rfl (fun hc=>?_) (fun hc=>?_))
  ·obtain⟨ya,hac,hal⟩:∃ya,o.ac=.vsl ya 4 0 o.x.args.length∧o.al=[(ya,.vec 4 (Qw o.x.args))]:=by
    rcases (show Gr o.al 4 (Qw o.x.args) o.ac from hook)with ⟨_,h,_⟩|⟨y,h1,h2⟩
    ·have:=congrArg List.length h;rw[Ql,Jg]at this;omega
    ·exact⟨y,by rw[h1,Ql],h2⟩
   have hA:obU z us=(us1.flatMap OFn.lg++(u.pl++o1.flatMap OSt.al))++(ya,.vec 4 (Qw o.x.args))::((o2.flatMap OSt.al++u.bl)++(us2.flatMap OFn.lg++[(z,.vec 3 (us1.map OFn.row++u.row::us2.map OFn.row))])):=by
    conv=>lhs;rw[hus]
    rw[Qalw,Qbhw u o1 o2 o hos,hal];simp only[Jj,Ju,Jz]
   have gya:H15 ya=.vec 4 (Qw o.x.args):=kz.getL (Jc _ (Jb _ (by rw[hA];simp)));have hg0:=Qaq o.x.args 0 hargs;rw[Ex.cells_eq]at hg0;rw[hac]at horow;refine Qe8 ?_;simp only[go_sem,gy,g6,gya,hj,htky,horow,hac,hargs,hg0,Ql,Jd,Ja7,Jx,Jn];intro H16 h16;try simp only[go_sem,AE.X.next]
   obtain⟨x',hx'⟩:∃x':St,x'=.mk o.x.op o.x.name (o.x.args.set 0 (.mk op n nm kk)) o.x.body o.x.els:=⟨_,rfl⟩;obtain⟨o',ho'⟩:∃o':OSt,o'=⟨x',o.ac,[(ya,.vec 4 (Qw x'.args))]⟩:=⟨_,rfl⟩;obtain⟨u',hu'⟩:∃u':OFn,u'=⟨⟨u.f.name,u.f.params,o1.map OSt.x++x'::o2.map OSt.x⟩,u.pc,u.pl,o1++o'::o2,u.bc,u.bl⟩:=⟨_,rfl⟩;have hxs:Qw x'.args=(Qw o.x.args).set 0 [.int .i64 op,.int .i64 n,.str nm,.sl false 4 (Qw kk)]:=by
    rw[hx'];simp only[St.args,Qx7,Jar,Ex.cells_eq,Ex.op,Ex.n,Ex.name,Ex.kids]
   have hrow':o'.row=o.row:=by rw[ho',hx'];rfl
   have hok0:o'.ok:=by
    rw[ho'];show Gr _ 4 (Qw x'.args) o.ac;rw[hac];exact Gr.mk (n:=o.x.args.length) ya 4 (Qw x'.args) (by rw[hxs,List.length_set,Ql])
   have huok:u'.ok:=by
    rw[hu'];refine⟨hur.p,fun v hv=>?_,?_,by rw[Jl,Jv,ho']⟩
    ·rcases Je.1 hv with hv|hv
     ·exact hoo v (Jc _ hv)
     ·rcases Jh.1 hv with rfl|hv
      ·exact hok0
      ·exact hoo v (Jb _ hv)
    ·have hb:=hur.b;rw[hos]at hb;show Gr u.bl 5 ((o1++o'::o2).map OSt.row) u.bc;rw[Jl,Jv,hrow'];rw[Jl,Jv]at hb;exact hb
   have hA2:obU z (us1++u'::us2)=(us1.flatMap OFn.lg++(u.pl++o1.flatMap OSt.al))++(ya,.vec 4 (Qw x'.args))::((o2.flatMap OSt.al++u.bl)++(us2.flatMap OFn.lg++[(z,.vec 3 (us1.map OFn.row++u.row::us2.map OFn.row))])):=by
    rw[Qalw,Qbhw u' o1 o2 o' (by rw[hu']),ho',hu'];simp only[Jj,Ju,Jz,OFn.row]
   have kz2:Kn H H16 [(R.l,R.o k14)] (([(x2,.st [.sl true 3 []]),(x3,.st [.vsl z 3 0 us.length])]++obU z (us1++u'::us2))++(x6,.st [.int .i64 op,.int .i64 n,.str nm,.sl false 4 (Qw kk)])::[]):=by
    rw[hA2,hxs];rw[hA]at kz;exact kz.stMid h16
   have g2:=kz2.l 0 rfl;have g3:=kz2.l 1 rfl;refine Qa ?_;simp only[go_sem,g2,g3];intro H17 h17;refine Qi ?_;refine fin (us1++u'::us2) _ _ _ k14 (hok' u' huok) (hlen' u') (hps' u' ?_) hk14 kz2 (by simp) (fun p hp=>Jc _ (Jb _ hp)) h17;have he:=Qakz o.x.args 0 (.mk op n nm kk);have hse:=o.x.size_eq;rw[hu'];simp only[Qbt,Qh];rw[hx'];simp only[St.size,Ex.size]at he⊢;omega
  ·refine Qf ?_;try simp only[go_sem,AE.X.next]
   refine Qa ?_;simp only[go_sem,g2,g3];intro H17 h17;refine Qi ?_;exact fin us _ _ _ k14 huo rfl (hsz1 us hux) hk14 kz (by simp) (fun p hp=>Jc _ (Jb _ hp)) h17
 have gz:H14 z=.vec 3 (us.map OFn.row):=kn.getL (by simp[obU]);have gy:H14 y=.vec 5 (u.os.map OSt.row):=kn.getL (Jc _ (Jb _ hym));have g2:=kn.l 0 rfl;have g3:=kn.l 1 rfl;refine Qg (Qe ?_);refine Qa ?_;simp only[go_sem];refine Qc rfl (fun hc0=>?_) (fun hc0=>?_)
 ·refine Qp ?_;simp only[go_sem];refine of_c (ss:=[[102],[103],[109],[113]]) (kn.e 0 rfl) (by omega) (by simp) fun w2 H15 hw2 hu=>?_;have kn:Kn H H15 [(R.l,R.o (k2+1+1+1+1+1+1+1))] (([(x2,.st [.sl true 3 []]),(x3,.st [.vsl z 3 0 us.length])]++obU z us)++(x6,.st [.int .i64 2,.int .i64 0,.str w,.sl true 4 []])::[]):=kn.callE 0 rfl hu (R.o_ne _);have g6:H15 x6=.st [.int .i64 2,.int .i64 0,.str w,.sl true 4 []]:=kn.getM;simp only[go_sem,Qapr,g6];intro H16 h16;have kn:=kn.stM h16;try simp only[go_sem,AE.X.next]
  exact last 13 0 w2 _ [.mk 1 1 [] []] _ _ _ (by omega) kn rfl (Qa6q 1) (by simp[Qr,Ex.size]) rfl rfl rfl rfl
 refine Qa ?_;simp only[go_sem];refine Qc rfl (fun hc1=>?_) (fun hc1=>?_)
 ·refine Q5 ?_;refine Qa ?_;simp only[go_sem,gy,hj,htky,horow,hao,Jd,Jx,Jn];refine Qg (Qc rfl (fun hcn=>?_) (fun hcn=>?_))
  ·refine Qp ?_;simp only[go_sem];refine of_c (ss:=[[97],[98],[122,122],[99],[100]]) (kn.e 0 rfl) (by omega) (by simp) fun w2 H15 hw2 hu=>?_;have kn:Kn H H15 [(R.l,R.o (k2+1+1+1+1+1+1+1))] (([(x2,.st [.sl true 3 []]),(x3,.st [.vsl z 3 0 us.length])]++obU z us)++(x6,.st [.int .i64 2,.int .i64 0,.str w,.sl true 4 []])::[]):=kn.callE 0 rfl hu (R.o_ne _);have gy:H15 y=.vec 5 (u.os.map OSt.row):=kn.getL (Jc _ (Jb _ hym));simp only[go_sem,Qaps,gy,hj,htky,horow,hao,Jd,Jx,Jn];intro H16 h16;try simp only[go_sem,AE.X.next]
   obtain⟨x',hx'⟩:∃x':St,x'=.mk o.x.op w2 o.x.args o.x.body o.x.els:=⟨_,rfl⟩;obtain⟨o',ho'⟩:∃o':OSt,o'=⟨x',o.ac,o.al⟩:=⟨_,rfl⟩;obtain⟨u',hu'⟩:∃u':OFn,u'=⟨⟨u.f.name,u.f.params,o1.map OSt.x++x'::o2.map OSt.x⟩,u.pc,u.pl,o1++o'::o2,u.bc,[(y,.vec 5 ((o1++o'::o2).map OSt.row))]⟩:=⟨_,rfl⟩;have hrow':o'.row=[.int .i64 o.x.op,.str w2,o.ac,.sl false 5 (Qk o.x.body),.sl false 5 (Qk o.x.els)]:=by rw[ho',hx'];rfl
   have hok0:o'.ok:=by
    rw[ho',hx'];exact hook
   have hrs:(u.os.map OSt.row).set j [.int .i64 o.x.op,.str w2,o.ac,.sl false 5 (Qk o.x.body),.sl false 5 (Qk o.x.els)]=(o1++o'::o2).map OSt.row:=by
    rw[←hrow',←Jar,hos,Qbkj o1 o2 o o' hj1]
   have huok:u'.ok:=by
    rw[hu'];refine⟨hur.p,fun v hv=>?_,?_,by rw[Jl,Jv,ho']⟩
    ·rcases Je.1 hv with hv|hv
     ·exact hoo v (Jc _ hv)
     ·rcases Jh.1 hv with rfl|hv
      ·exact hok0
      ·exact hoo v (Jb _ hv)
    ·show Gr [(y,.vec 5 ((o1++o'::o2).map OSt.row))] 5 ((o1++o'::o2).map OSt.row) u.bc;rw[hbc];exact Gr.mk (n:=u.os.length) y 5 _ (by rw[hos];simp)
   have hA:obU z us=(us1.flatMap OFn.lg++(u.pl++u.os.flatMap OSt.al))++(y,.vec 5 (u.os.map OSt.row))::(us2.flatMap OFn.lg++[(z,.vec 3 (us1.map OFn.row++u.row::us2.map OFn.row))]):=by
    conv=>lhs;rw[hus]
    rw[Qalw,OFn.lg,hbl];simp only[Jj,Ju,Jz]
   have hal:(o1++o'::o2).flatMap OSt.al=u.os.flatMap OSt.al:=by
    rw[hos,ho'];simp
   have hA2:obU z (us1++u'::us2)=(us1.flatMap OFn.lg++(u.pl++u.os.flatMap OSt.al))++(y,.vec 5 ((o1++o'::o2).map OSt.row))::(us2.flatMap OFn.lg++[(z,.vec 3 (us1.map OFn.row++u.row::us2.map OFn.row))]):=by
    rw[Qalw,hu'];simp only[OFn.lg,OFn.row,hal,Jj,Ju,Jz]
   have kz2:Kn H H16 [(R.l,R.o (k2+1+1+1+1+1+1+1))] (([(x2,.st [.sl true 3 []]),(x3,.st [.vsl z 3 0 us.length])]++obU z (us1++u'::us2))++(x6,.st [.int .i64 2,.int .i64 0,.str w,.sl true 4 []])::[]):=by
    rw[hA2,←hrs];rw[hA]at kn;exact kn.stMid h16
   have g2:=kz2.l 0 rfl;have g3:=kz2.l 1 rfl;refine Qa ?_;simp only[go_sem,g2,g3];intro H17 h17;refine Qi ?_;try simp only[go_sem,AE.X.next]
   refine fin (us1++u'::us2) _ _ _ _ (hok' u' huok) (hlen' u') (hps' u' ?_) (by omega) kz2 (by simp) (fun p hp=>Jc _ (Jb _ hp)) h17;have hse:=o.x.size_eq;rw[hu'];simp only[Qbt,Qh];rw[hx'];simp only[St.size];omega
  ·refine Qf ?_;try simp only[go_sem,AE.X.next]
   refine Qa ?_;simp only[go_sem,g2,g3];intro H17 h17;refine Qi ?_;try simp only[go_sem,AE.X.next]
   exact fin us _ _ _ _ huo rfl (hsz1 us hux) (by omega) kn (by simp) (fun p hp=>Jc _ (Jb _ hp)) h17
 refine Qa ?_;simp only[go_sem];refine Qc rfl (fun hc2=>?_) (fun hc2=>?_)
 ·have hsl:sliC none (some 1) u.bc=.vsl y 5 0 1:=by rw[hbc];simp[sliC]
  have hokb:okSl H14 u.bc=True:=by rw[hbc];simp[okSl,gy]
  have hszb:u.bc.elemSz=5:=by rw[hbc];rfl
  have h1m:((1:Int)≤(u.os.length:Int))=True:=eq_true (by omega);refine Qaf ?_;simp only[go_sem,gz,hi,htk,hrowb,hpo,hbo,hokb,hlnb,hszb,hsl,h1m,bnds,Option.map_none,Jau,Option.getD_none,Option.getD_some,Jd,Jx,Jn];have hbx:(u.os.take 1).map OSt.x=u.f.body.take 1:=by rw[←hur.x,Ja9]
  have hrx:(u.os.map OSt.row).take 1=(u.os.take 1).map OSt.row:=by rw[Ja9]
  have hsz1':=Qbm u.f.body 1;have hsl1:Slc H14 5 ((u.os.take 1).map OSt.row) (.vsl y 5 0 1):=by
   rw[←hrx];refine⟨by simp only[okSl,gy,Jd];exact⟨trivial,by omega⟩,rfl,by simp[rowsOf,gy],?_⟩;simp only[Qba3,Jt,Jd];omega
  have hrd:SRd H14 ((u.os.take 1).map OSt.row) ((u.os.take 1).map OSt.x):=SRd.os (fun v hv=>hur.o v (Jax hv)) fun p hp=>by
   obtain⟨v,hv,hp⟩:=Jp.1 hp;exact kn.getL (Jc _ (Jb _ (Jc _ (Jp.2 ⟨u,hum,Jb _ (Jc _ (Jp.2 ⟨v,Jax hv,hp⟩))⟩))))
  refine⟨⟨by omega,by omega⟩,?_⟩;refine Qbtp (Qh ((u.os.take 1).map OSt.x)) ((u.os.take 1).map OSt.x) _ (.vsl y 5 0 1) H14 _ (Jn _) (by rw[hbx];omega) rfl hsl1 hrd fun os2 t2 Lb H15 hx2 ho2 hz2 k2n=>?_;have hlen2:os2.length≤1:=by
   have:=congrArg List.length hx2;rw[Jd,Jd,Jt]at this;omega
  have hto2:=hz2.isOw;have hA:obU z us=(us1.flatMap OFn.lg++(u.pl++u.os.flatMap OSt.al))++(y,.vec 5 (u.os.map OSt.row))::(us2.flatMap OFn.lg++[(z,.vec 3 (us.map OFn.row))]):=by
   conv=>lhs;rw[hus]
   rw[Qalw,OFn.lg,hbl];have:us.map OFn.row=us1.map OFn.row++u.row::us2.map OFn.row:=by rw[hus];simp
   rw[this];simp only[Jj,Ju,Jz]
  have kn:=kn.addNew k2n;have gz:H15 z=.vec 3 (us.map OFn.row):=kn.getL (by simp[obU]);rw[hA]at kn;have kn:Kn H H15 [(R.l,R.o (k2+1+1+1+1+1+1))] ((([(x2,.st [.sl true 3 []]),(x3,.st [.vsl z 3 0 us.length])]++(us1.flatMap OFn.lg++(u.pl++u.os.flatMap OSt.al)))++(us2.flatMap OFn.lg++(z,.vec 3 (us.map OFn.row))::((x6,.st [.int .i64 2,.int .i64 0,.str w,.sl true 4 []])::(os2.flatMap OSt.al++Lb))))++u.bl):=by
   rw[hbl];refine Kn.lastM ?_;simpa only[Jj,Ju,Jz]using kn
  simp only[go_sem,Qapu,gz,hi,htk,hrowb,hpo,hbo,Jd,Jx,Jn];have hubl:u.os.length≤Qh u.f.body:=by
   have:=Qcd u.f.body;rw[←hur.x,Jd]at this;rw[←hur.x];exact this
  refine kn.growR hur.b (Gr.slc2 hz2 k2n) (fun r hr=>by
   obtain⟨v,hv,rfl⟩:=Jw.1 hr;exact OSt.noOw (ho2 v hv)) (by simp only[Jd,LIM];omega) fun t3 L3 H16 hg3 hto3 kn=>?_
  have gz:H16 z=.vec 3 (us.map OFn.row):=kn.getL (by simp);simp only[go_sem,Qapt,gz,hi,htk,hrowb,hpo,hto3,Jd,Jx,Jn];intro H17 h17;try simp only[go_sem,AE.X.next]
  obtain⟨u',hu'⟩:∃u':OFn,u'=⟨⟨u.f.name,u.f.params,u.f.body++u.f.body.take 1⟩,u.pc,u.pl,u.os++os2,t3,L3⟩:=⟨_,rfl⟩;have huok:u'.ok:=by
   rw[hu'];refine⟨hur.p,fun v hv=>?_,?_,by rw[Jl,hur.x,hx2,hbx]⟩
   ·rcases Je.1 hv with hv|hv
    ·exact hur.o v hv
    ·exact ho2 v hv
   ·show Gr L3 5 ((u.os++os2).map OSt.row) t3;rw[Jl];exact hg3
  have hrs:(us.map OFn.row).set i [.str u.f.name,u.pc,t3]=(us1++u'::us2).map OFn.row:=by
   have:[.str u.f.name,u.pc,t3]=u'.row:=by rw[hu'];rfl
   rw[this,←Jar]
   conv=>lhs;rw[hus,Qbkj us1 us2 u u' hi1]
  rw[hrs]at h17;have kn:Kn H H16 [(R.l,R.o (k2+1+1+1+1+1+1))] (([(x2,.st [.sl true 3 []]),(x3,.st [.vsl z 3 0 us.length])]++((us1.flatMap OFn.lg++(u.pl++u.os.flatMap OSt.al))++us2.flatMap OFn.lg))++(z,.vec 3 (us.map OFn.row))::((x6,.st [.int .i64 2,.int .i64 0,.str w,.sl true 4 []])::((os2.flatMap OSt.al++Lb)++L3))):=by
   simpa only[Jj,Ju,Jz]using kn
  have kn:=kn.stM h17;have g2:=kn.l 0 rfl;have g3:=kn.l 1 rfl;refine Qa ?_;simp only[go_sem,g2,g3];intro H18 h18;refine Qi ?_;try simp only[go_sem,AE.X.next]
  refine fin (us1++u'::us2) _ _ _ _ (hok' u' huok) (hlen' u') (hps' u' ?_) (by omega) kn (by simp) (fun p hp=>?_) h18
  ·rw[hu'];simp only[Qbt];omega
  ·rcases Je.1 hp with hp|hp
   ·obtain⟨v,hv,hpv⟩:=Jp.1 hp;rcases Je.1 hv with hv|hv
    ·have:p∈us1.flatMap OFn.lg:=Jp.2 ⟨v,hv,hpv⟩;simp[this]
    ·rcases Jh.1 hv with rfl|hv
     ·rw[hu']at hpv;simp only[OFn.lg,Jak,Je]at hpv;rcases hpv with h|(h|h)|h
      ·simp only[Je,Jh,h,true_or,or_true]
      ·simp only[Je,Jh,h,true_or,or_true]
      ·simp only[Je,Jh,h,true_or,or_true]
      ·simp only[Je,Jh,h,true_or,or_true]
     ·have:p∈us2.flatMap OFn.lg:=Jp.2 ⟨v,hv,hpv⟩;simp only[Je,Jh,this,true_or,or_true]
   ·simp only[Ja]at hp;subst hp;simp
 ·refine Qf ?_;try simp only[go_sem,AE.X.next]
  exact last 2 0 w _ [] _ _ _ (by omega) kn rfl (fun H S=>FrzR.nil.sl) (by simp[Qr]) rfl rfl rfl rfl
end Go.AE.Y
namespace Go.AE.Y
attribute [local go_sem] cond_true cond_false Bool.not_true Bool.not_false
attribute [local instance] Classical.propDecidable
open Go.Proofs.Tryz
variable {H:Heap}{K:V→Heap→Prop}{bs:List UInt8}
theorem Qaat {fl:Bool}(hK:∀(l:List Fn) H',Upd H H' []→Qs l≤2^36→K (.ag [.sl false 3 (Q3 l)]) H') :
  Qj prog Qdw [.c (.sl fl 1 (Qcu bs))] H K:=by
 refine Qn ?_;refine Qb Qad Qyr ?_;refine Qa ?_;simp only[go_sem];intro x2 hx2 H1 h1;have kn:=(Kn.start0 H).al hx2 h1;refine Qa ?_;simp only[go_sem];refine Qbhp fun R H2 hR h2=>?_;have kn:=kn.al hR h2 (R.o_ne 0);simp only[go_sem,Qgx];refine Qbmo (kn.l 1 rfl) (by omega) fun l H3 k2 hk2 hu hsz=>?_;have kn:=kn.callL 1 rfl hu (R.o_ne _);have hx2:=kn.l 0 rfl;simp only[go_sem,Qgw,hx2];intro H4 h4;have kn:=kn.stL 0 rfl h4;have hx2:=kn.l 0 rfl;refine Qi ?_;simp only[go_sem,Qq,Q7,Qbbq,Ja,forall_eq,RS.op,hx2];exact⟨_,(FrzL.cons (FrzR.same (Qc3 _)).sl .nil).ag,hK l _ kn.fin hsz⟩
end Go.AE.Y
namespace Go.AE.Y
open Go.Proofs.Tryz
variable {H:Heap}{K:V→Heap→Prop}
theorem Qav4 {z:Int}(h0:0≤z)(hz:z<26):Utf8.encode (97+z)=⟨#[UInt8.ofNat (97+z.toNat)]⟩:=by
 have hv:Utf8.valid (97+z)=true:=by
  rw[validRune_eq,validRune];exact decide_eq_true (.inl ⟨by omega,by omega⟩)
 have ht:(97+z).toNat=97+z.toNat:=by omega
 unfold Utf8.encode;simp only[hv,if_true,ht];rw[if_pos (by omega)]
theorem Qblk (n:Nat):(⟨#[118]⟩:ByteArray)++⟨#[UInt8.ofNat (97+n)]⟩=⟨(Qct n).toArray⟩:=by
 apply ByteArray.ext;rw[ByteArray.data_append];simp[Qct]
theorem Qbc4 (z:Int)(h0:0≤z)(hz:z<26)(v:Value)(w:World)(Q:Ending→World→Prop)(hQ:Q (.returned (.string (⟨#[118]⟩++Utf8.encode (97+z)))) w):Calls prog Qck #[v,.int .i64 z] w Q:=by
 go_enter Go.Proofs.Tryz.func168,Go.Proofs.Tryz.ntmps168
 go_wp2
 ·rename_i hsz
  have he:(Utf8.encode (97+z)).size=1:=by rw[Qav4 h0 hz];rfl
  rw[he]at hsz;exact absurd hsz (by omega)
 ·exact hQ
theorem Qay1 {r:C}{n:Nat}(hn:n<26)(hK:K (.c (.str (Qct n))) H):Qj prog Qck [.c r,.c (.int .i64 (n:Nat))] H K:=by
 refine⟨by kernel_rfl,fun g w vs hs hl hv=>?_⟩;obtain⟨u,v,rfl⟩:∃u v,vs=[u,v]:=by
  match vs,hl with
  |[u,v],_=>exact⟨u,v,rfl⟩
 have hr:=hv 1 _ v rfl rfl
 cases hr with
 |c _ _ hr=>
  cases hr;refine Qbc4 (n:Nat) (by omega) (by omega) u w _ ?_;rw[Qav4 (by omega) (by omega),Int.toNat_natCast,Qblk];exact .inl ⟨_,_,H,g,rfl,hK,.refl hs,.c _ _ (.str _ (by simp[Qct,LIM]))⟩
end Go.AE.Y
namespace Go.AE.Y
attribute [local go_sem] cond_true cond_false Bool.not_true Bool.not_false
open Go.Proofs.Tryz
variable {H H0 F:Heap}{K:V→Heap→Prop}{E B Lg:List (Nat×Obj)}{fns:List Fn}
theorem ScOk.upd {H':Heap}{val:Nat→Int}:∀{ls:List Nat} {v:Vars},ScOk val H ls v→(∀m,H m≠.none→H' m=H m)→ScOk val H' ls v
 |[],[],_,_=>trivial
 |_::_,_::_,⟨⟨n,es,h1,h2⟩,h3⟩,hu=>⟨⟨n,es,by rw[hu _ (by rw[h1];nofun),h1],h2⟩,h3.upd hu⟩
theorem Qbbv (v:Vars)(t:List UInt8):valO vI (v.find t)=((Qdl v t:Nat):Int):=by
 rw[Qdl];cases v.find t <;> rfl
theorem Qa2c {v:Vars}{n:Nat}(h:∀p∈v.flatten,p.2<n)(h0:0<n)(t:List UInt8):Qdl v t<n:=by
 rw[Qdl,Vars.find]
 cases hf:v.flatten.find? fun p=>decide (p.1=t)with
 |none=>exact h0
 |some p=>exact h p (List.mem_of_find?_eq_some hf)
theorem Qbbb {g:Ex→Ex}{f:Nat}{caps:List C}{l:List Ex}{fl:Bool}
  (hf:∀x∈l,∀(H1:Heap) (K':V→Heap→Prop),(∀m,H m≠.none→H1 m=H m)→(∀H2,Upd H1 H2 []→K' (.ag (g x).cells) H2)→Qj prog f ([.ag x.cells]++caps.map .c) H1 K')
  (hK:∀H',Upd H H' []→K (.c (.sl false 4 (Qw (l.map g)))) H'):Qj prog Qcf [.c (.sl fl 4 (Qw l)),.c (.fn f caps)] H K:=by
 refine Qn ?_;refine Qb Qad Qym ?_;refine Qa ?_;simp only[go_sem];refine Qa ?_;simp only[go_sem];refine Q5 ?_;refine Qa ?_;simp only[go_sem,Ql];intro hl;simp only[LIM]at hl;refine Qg (Qe (Q2 (fun m e1 H1=>∃(i:Nat) (t:C) (Lg:List (Nat×Obj)),m=l.length-i∧i≤l.length∧Gr Lg 4 (Qw ((l.take i).map g)) t∧Kn H H1 [] Lg∧
  e1=[(1,.c (.fn f caps)),(5,.c t),(8,.c (.sl fl 4 (Qw l))),(9,.c (.int .i64 l.length)),(10,.c (.int .i64 i))]) l.length ?_ ?_))
 ·exact⟨0,_,[],by omega,by omega,.nil 4,Kn.start0 H,rfl⟩
 ·rintro m e1 H1 ⟨i,t,Lg,hm,hi,hgr,kn,rfl⟩;have hto:=hgr.isOw;refine Qa ?_;simp only[go_sem,hto];refine Qg (Qc rfl ?_ ?_)
  ·intro hc;have hlt:i<l.length:=by simpa using hc
   obtain⟨x,hx⟩:∃x,l[i]=x:=⟨_,rfl⟩;have hxm:x∈l:=by rw[←hx];exact Jk hlt
   have htk:Qw ((l.take (i+1)).map g)=Qw ((l.take i).map g)++[(g x).cells]:=by
    rw[Qf1,Jf hlt,hx];simp
   refine Qf ?_;try simp only[go_sem]
   refine Qg (Qe ?_);refine Qa ?_;simp only[go_sem,hto,hlt,Ql,Qaq _ _ hlt,hx,x.cells_eq];intro x7 hx7 H3 h3;have kn:Kn H H3 [] ([(x7,.st [.int .i64 0,.int .i64 0,.str [],.sl true 4 []])]++Lg):=(kn.al hx7 h3).perm Jr;have g7:=kn.l 0 rfl;simp only[go_sem,Qgi,g7,hto];intro H4 h4;have kn:Kn H H4 [] ([(x7,.st [.int .i64 x.op,.int .i64 x.n,.str x.name,.sl false 4 (Qw x.kids)])]++Lg):=kn.stL 0 rfl h4;have g7:=kn.l 0 rfl;refine Qp ?_;simp only[go_sem,g7,hto];have hfx:=hf x hxm H4;rw[x.cells_eq]at hfx;refine hfx _ (fun m hm=>kn.chg m hm (by simp)) fun H5 hu=>?_;have kn:=kn.call0 hu;simp only[go_sem,Qgk,hto,(g x).cells_len];refine kn.growR hgr (new:=[(g x).cells]) (.mk' _ true 4 _) (by simpa using (g x).noOw) (by simp only[Ql,Jd,Jt,Ji,Jg,LIM];omega) fun t2 Lg2 H6 hgr2 hto2 kn=>?_;simp only[go_sem,Qgj,hto2];refine Qp ?_;simp only[go_sem,AE.X.next,hto2];exact⟨Qm (by omega) (by omega),l.length-(i+1),by omega,i+1,t2,Lg2,rfl,by omega,by rw[htk];exact hgr2,kn.sub (List.sublist_append_right _ _),rfl⟩
  ·intro hc;have hge:l.length≤i:=by simpa using hc
   rw[Jo hge]at hgr;refine Q1 ?_;simp only[go_sem,AE.X.next];refine Qa ?_;simp only[go_sem,hto];refine Qi ?_;simp only[go_sem,Qq,Q7,Qpr,Ja,forall_eq,RS.op,hto];exact⟨_,.c _ _ (hgr.frz (B:=[]) kn (Qa5 _)),hK _ kn.fin⟩
theorem Qbm5 {σ:Type}{ob:σ→List (Nat×Obj)}{I:Nat→σ→Prop}{G:Nat→List St}{s0:σ}{f:Nat}{caps:List C}{l:List St}{fl:Bool}
  (hne:∀s,∀p∈ob s,p.2≠.none) (hg0:G 0=[]) (hgl:∀i,i≤l.length→(G i).length=i) (h0:I 0 s0) (hh:∀q∈ob s0,H q.1=q.2) (hnd:((ob s0).map Prod.fst).Nodup) (hnm:∀i s,I i s→(ob s).map Prod.fst=(ob s0).map Prod.fst)
  (hf:∀(i:Nat) (hi:i<l.length) (s:σ) (H1:Heap) (K':V→Heap→Prop),I i s→(∀q∈ob s,H1 q.1=q.2)→(∀(y:St) (s':σ) (H2:Heap),G (i+1)=G i++[y]→I (i+1) s'→Upd H1 H2 (ob s')→K' (.ag y.cells) H2)→Qj prog f ([.ag (l[i]).cells]++caps.map .c) H1 K')
  (hK:∀s' H',I l.length s'→Upd H H' (ob s')→K (.c (.sl false 5 (Qk (G l.length)))) H'):Qj prog Qds [.c (.sl fl 5 (Qk l)),.c (.fn f caps)] H K:=by
 refine Qn ?_;refine Qb Qad Qyn ?_;refine Qa ?_;simp only[go_sem];refine Qa ?_;simp only[go_sem];refine Q5 ?_;refine Qa ?_;simp only[go_sem,Qv];intro hl;simp only[LIM]at hl;refine Qg (Qe (Q2 (fun m e1 H1=>∃(i:Nat) (t:C) (Lg:List (Nat×Obj)) (s:σ),m=l.length-i∧i≤l.length∧I i s∧Gr Lg 5 (Qk (G i)) t∧Kn H H1 (ob s) Lg∧
  e1=[(1,.c (.fn f caps)),(5,.c t),(8,.c (.sl fl 5 (Qk l))),(9,.c (.int .i64 l.length)),(10,.c (.int .i64 i))]) l.length ?_ ?_))
 ·exact⟨0,_,[],s0,by omega,by omega,h0,by rw[hg0];exact .nil 5,Kn.startE (fun p hp=>⟨hh p hp,hne _ p hp⟩) hnd,rfl⟩
 ·rintro m e1 H1 ⟨i,t,Lg,s,hm,hi,hI,hgr,kn,rfl⟩;have hto:=hgr.isOw;refine Qa ?_;simp only[go_sem,hto];refine Qg (Qc rfl ?_ ?_)
  ·intro hc;have hlt:i<l.length:=by simpa using hc
   have hgl1:=hgl i (by omega);obtain⟨x,hx⟩:∃x,l[i]=x:=⟨_,rfl⟩;refine Qf ?_;try simp only[go_sem]
   refine Qg (Qe ?_);refine Qa ?_;simp only[go_sem,hto,hlt,Qv,Qbg _ _ hlt,hx,x.cells_eq];intro x7 hx7 H3 h3;have kn:Kn H H3 (ob s) ([(x7,.st [.int .i64 0,.str [],.sl true 4 [],.sl true 5 [],.sl true 5 []])]++Lg):=(kn.al hx7 h3).perm Jr;have g7:=kn.l 0 rfl;simp only[go_sem,Qgl,g7,hto];intro H4 h4;have kn:Kn H H4 (ob s) ([(x7,stO x)]++Lg):=kn.stL 0 rfl h4;have g7:=kn.l 0 rfl;refine Qp ?_;simp only[go_sem,g7,hto];have hfx:=hf i hlt s H4;rw[hx,x.cells_eq]at hfx;refine hfx _ hI (fun q hq=>(kn.get q (Jc _ hq)).1) fun y s' H5 hy hI' hu=>?_;have kn:=kn.callAll hu ((hnm _ _ hI').trans (hnm _ _ hI).symm) (hne _);simp only[go_sem,Qgn,hto,y.cells_len];refine kn.growR hgr (new:=[y.cells]) (.mk' _ true 5 _) (by simpa using y.noOw) (by simp only[Qv,hgl1,Ji,Jg,LIM];omega) fun t2 Lg2 H6 hgr2 hto2 kn=>?_;simp only[go_sem,Qgm,hto2];refine Qp ?_;simp only[go_sem,AE.X.next,hto2];exact⟨Qm (by omega) (by omega),l.length-(i+1),by omega,i+1,t2,Lg2,s',rfl,by omega,hI',by rw[hy,←Qaxk];exact hgr2,kn.sub (List.sublist_append_right _ _),rfl⟩
  ·intro hc;have hge:l.length≤i:=by simpa using hc
   have hie:i=l.length:=by omega
   subst hie;refine Q1 ?_;simp only[go_sem,AE.X.next];refine Qa ?_;simp only[go_sem,hto];refine Qi ?_;simp only[go_sem,Qq,Q7,Qpr,Ja,forall_eq,RS.op,hto];exact⟨_,.c _ _ (hgr.frz (B:=[]) kn (Qa9 _)),hK _ _ hI kn.fin⟩
theorem Qbne {r:Nat}{ls:List Nat}{v:Vars}(hv:∀p∈v.flatten,p.2<26):∀(n:Nat) (x:Ex) {H:Heap} {K:V→Heap→Prop},x.size≤n→ScOk vI H ls v→(∀H',Upd H H' []→K (.ag (x.ren (Qdl v)).cells) H')→
  Qj prog Qd1 [.c (.ptr r 0),.ag x.cells,.c (scC ls)] H K:=by
 intro n
 induction n with
 |zero=>intro x H K h;have:=x.size_pos;omega
 |succ n ih=>
 intro x H K hn hsc hK;have how:=Qsr ls;have hsz:=x.size_kids;have hK:∀H',Upd H H' []→K (.ag [.int .i64 x.op,.int .i64 x.n,.str (if x.op=2 then Qct (Qdl v x.name)else x.name),.sl false 4 (Qw (Qbz (Qdl v) x.kids))]) H':=fun H' h=>by
  have:=hK H' h;rw[x.ren_eq,Ex.cells_eq]at this;exact this
 refine Qn ?_;refine Qb Qad Qadq ?_;refine Qa ?_;simp only[go_sem,x.cells_eq];intro x4 hx4 H1 h1;have kn:=(Kn.start0 H).al hx4 h1;simp only[go_sem,Qmh,how];intro x6 hx6 H2 h2;have kn:=kn.al hx6 h2;have g4:=kn.l 0 rfl;refine Q5 ?_;refine Qa ?_;simp only[go_sem,g4,how];have tail:∀(nm:List UInt8) (H3:Heap) (e:Env),Kn H H3 [] [(x4,.st [.int .i64 x.op,.int .i64 x.n,.str nm,.sl false 4 (Qw x.kids)]),(x6,.st [.int .i64 0,.int .i64 0,.str [],.sl true 4 []])]→
   nm=(if x.op=2 then Qct (Qdl v x.name)else x.name)→lk 3 e=.c (.pp [.ptr r 0])→lk 4 e=.c (.ptr x4 0)→lk 5 e=.c (.pp [scC ls])→lk 6 e=.c (.ptr x6 0)→Q8 prog Qot (Qq Qth (unK H K)) e H3:=by
  intro nm H3 e kn hnm l3 l4 l5 l6;have g4:=kn.l 0 rfl;refine Qa ?_;simp only[go_sem,l3,l4,l5,l6,g4,how];refine Qbbb (g:=Ex.ren (Qdl v)) (caps:=[.pp [.ptr r 0],.pp [scC ls]]) (fun y hy H1' K' hke hK'=>?_) fun H4 hu=>?_
  ·have hsc':ScOk vI H1' ls v:=(hsc.upd fun m hm=>kn.chg m hm (by simp)).upd fun m hm=>hke m hm;have hys:=Qar hy;refine Qn ?_;refine Qb Qad Q4f ?_;refine Qa ?_;simp only[go_sem,y.cells_eq,how];intro y4 hy4 H5 h5;have k2:=(Kn.start0 H1').al hy4 h5;refine Qa ?_;simp only[go_sem,how];have hih:=fun K2=>ih y (H:=H5) (K:=K2) (by omega) (hsc'.upd fun m hm=>k2.chg m hm (by simp));rw[y.cells_eq]at hih;refine hih _ fun H6 hu=>?_;have k2:=k2.call0 hu;have g:=k2.l 0 rfl;rw[Ex.cells_eq];simp only[go_sem,Qh2,g];intro H7 h7;have k2:=k2.stL 0 rfl h7;have g:=k2.l 0 rfl;refine Qi ?_;simp only[go_sem,Qq,Q7,Qps,Ja,forall_eq,RS.op,g];rw[Ex.cells_eq]at hK';exact⟨_,(FrzL.cons (Qd rfl) (.cons (Qd rfl) (.cons (Qd rfl) (.cons (FrzR.same (Qa5 _)).sl .nil)))).ag,hK' _ k2.fin⟩
  rw[←Qi0];have kn:=kn.call0 hu;have g4:=kn.l 0 rfl;simp only[go_sem,Qmk,l3,l4,l5,l6,g4];intro H5 h5;have kn:=kn.stL 0 rfl h5;have g4:=kn.l 0 rfl;have g6:=kn.l 1 rfl;refine Qa ?_;simp only[go_sem,g4,g6];intro H6 h6;have kn:=kn.stL 1 rfl h6;have g6:=kn.l 1 rfl;refine Qi ?_;simp only[go_sem,Qq,Q7,Qth,Ja,forall_eq,RS.op,g6];rw[←hnm]at hK;exact⟨_,(FrzL.cons (Qd rfl) (.cons (Qd rfl) (.cons (Qd rfl) (.cons (FrzR.same (Qa5 _)).sl .nil)))).ag,hK _ kn.fin⟩
 refine Qg ?_;refine Qc rfl (fun hc=>?_) (fun hc=>?_)
 ·have h2:x.op=2:=by simpa using hc
  refine Qa ?_;simp only[go_sem,g4,how];refine Q34 (hsc.upd fun m hm=>kn.chg m hm (by simp)) ?_;simp only[go_sem,Qmi,J2,J1,how];rw[Qbbv];refine Qp ?_;simp only[go_sem,how];refine Qay1 (Qa2c hv (by omega) _) ?_;simp only[go_sem,Qmj,g4,how];intro H3 h3;have kn:=kn.stL 0 rfl h3;try simp only[go_sem,AE.X.next,how]
  exact tail _ _ _ kn (by rw[if_pos h2]) rfl rfl rfl rfl
 ·have h2:¬x.op=2:=by simpa using hc
  refine Qf ?_;try simp only[go_sem,AE.X.next,how]
  exact tail _ _ _ kn (by rw[if_neg h2]) rfl rfl rfl rfl
end Go.AE.Y
namespace Go.AE.Y
attribute [local go_sem] cond_true cond_false Bool.not_true Bool.not_false
open Go.Proofs.Tryz
variable {H H0 F:Heap}{K:V→Heap→Prop}{P:List (Nat×Obj)}{r l0 m:Nat}{rest sc:ScD}{rv:Vars}
def rnOb (r n:Nat)(sc:ScD):List (Nat×Obj):=(r,.st [.int .i64 (n:Nat)])::sc.ob
theorem Qtr (r n:Nat)(sc:ScD):(rnOb r n sc).map Prod.fst=r::sc.ls:=by simp only[rnOb,ScD.ob,ScD.ls,Jv,Jan];rfl
theorem Qami (r n:Nat)(sc:ScD):∀p∈rnOb r n sc,p.2≠.none:=by
 intro p hp;rcases Jh.1 hp with rfl|hp
 ·nofun
 ·obtain⟨x,_,rfl⟩:=Jw.1 hp;nofun
theorem Qbo5 {n n' lm n1 n2:Nat}{es1 es2:List (C×V)}{H':Heap}(kn:Kn H0 H (rnOb r n sc) (P++[(lm,.map n1 es1)]))(hu:Upd H H' (rnOb r n' ((lm,n2,es2)::sc))):Kn H0 H' (rnOb r n' sc) P:=by
 refine Kn.drop (A:=P) (B:=[(lm,.map n2 es2)]) ?_;have hlm0:H0 lm=.none:=kn.loc (lm,.map n1 es1) (by simp);have hlm:lm∉(rnOb r n sc).map Prod.fst:=fun h=>by
  obtain⟨q,hq,e⟩:=Jw.1 h;exact kn.ext q hq (by rw[e];exact hlm0)
 have hd:=kn.dL;rw[Jl]at hd;have hd3:=(J7.1 hd).2.2;have hP1:∀p∈P,p.1≠lm:=fun p hp=>hd3 p.1 (J3 hp) lm (by simp);have hP2:∀p∈P,p.1∉(rnOb r n sc).map Prod.fst:=fun p hp h=>by
  obtain⟨q,hq,e⟩:=Jw.1 h;exact kn.ext q hq (by rw[e];exact kn.loc p (Jc _ hp))
 refine kn.callg (E2:=rnOb r n' sc) (L2:=P++[(lm,.map n2 es2)]) hu rfl (by simp) (fun q hq=>?_) (fun u hu=>?_)
 ·rcases Je.1 hq with hq|hq
  ·refine⟨Qami _ _ _ q hq,.inl ?_⟩;rcases Jh.1 hq with rfl|hq
   ·exact J8
   ·exact Js _ (Js _ hq)
  ·rcases Je.1 hq with hq|hq
   ·refine⟨(kn.get q (by simp[hq])).2,.inr ⟨by simp[hq],?_⟩⟩;have h1:=hP1 q hq;have h2:=hP2 q hq;rw[Qtr]at h2⊢;simp only[ScD.ls,Jv,Jh,not_or]at h2⊢;exact⟨h2.1,h1,h2.2⟩
   ·simp only[Ja]at hq;subst hq;exact⟨by nofun,.inl (Js _ J8)⟩
 ·rcases Jh.1 hu with rfl|hu
  ·exact .inl J8
  ·rcases Jh.1 hu with rfl|hu
   ·exact .inr (by simp)
   ·exact .inl (Js _ (J3 (f:=Prod.fst) hu))
theorem Qbs5 {n lm n1:Nat}(kn:Kn H0 H (rnOb r n sc) (P++[(lm,.map n1 [])])):∀q∈rnOb r n ((lm,n1,[])::sc),H q.1=q.2:=by
 intro q hq;rcases Jh.1 hq with rfl|hq
 ·exact kn.e 0 rfl
 ·rcases Jh.1 hq with rfl|hq
  ·exact (kn.get (lm,.map n1 []) (by simp)).1
  ·exact (kn.get q (Jc _ (Js _ hq))).1
theorem Qbs6 {n lm n1:Nat}{es1:List (C×V)}(kn:Kn H0 H (rnOb r n sc) (P++[(lm,.map n1 es1)])):(r::lm::sc.ls).Nodup:=by
 have hlm:lm∉(rnOb r n sc).map Prod.fst:=fun h=>by
  obtain⟨q,hq,e⟩:=Jw.1 h;exact kn.ext q hq (by rw[e];exact kn.loc (lm,.map n1 es1) (by simp))
 have hd:=kn.dE;rw[Qtr]at hd hlm;simp only[Jas,Jh,not_or]at hd hlm⊢;exact⟨⟨fun e=>hlm.1 e.symm,hd.1⟩,hlm.2,hd.2⟩
structure RnX where
 c:Nat
 g:Nat
 es:List (C×V)
 b:List (List UInt8×Nat)
abbrev RnX.ob (r l0:Nat)(rest:ScD)(s:RnX):List (Nat×Obj):=rnOb r s.c ((l0,s.g,s.es)::rest)
structure RnX.ok (rv:Vars)(s:RnX)(q:RnQ):Prop where
 q:q=⟨s.b::rv,s.c⟩
 m:MapOk vI s.es s.b
 l:s.es.length≤s.c
 lt:∀p∈(s.b::rv).flatten,p.2<s.c
theorem St.ren_of (x:St)(s s1:RnQ)(h:s1=if x.op=1 then ⟨Qaj s.v x.name s.n,s.n+1⟩else s) :
  x.ren s=(.mk x.op (if x.op=1 then Qct s.n else if x.op=2 then Qct (Qdl s.v x.name)else x.name) (Qbz (Qdl s.v) x.args) (Qaw x.body ⟨[]::s1.v,s1.n⟩).1 (Qaw x.els ⟨[]::s1.v,(Qaw x.body ⟨[]::s1.v,s1.n⟩).2.n⟩).1,
   ⟨s1.v,(Qaw x.els ⟨[]::s1.v,(Qaw x.body ⟨[]::s1.v,s1.n⟩).2.n⟩).2.n⟩):=by
 subst h;cases x;simp only[St.ren,St.op,St.name,St.args,St.body,St.els];rfl
theorem Qbbr {n n0:Nat}{ls:List Nat}{es0:List (C×V)}{s:List UInt8}(hr:H r=.st [.int .i64 (n:Nat)])(hl:H l0=.map n0 es0)(hne:r≠l0)(hn:n<26)(hky:∀e∈es0,∃s,e.1=.str s)(hlen:es0.length≤26)
  (hK:∀H',Upd H H' [(r,.st [.int .i64 (n+1:Nat)]),(l0,.map (n0+1) (Q7w (.str s) (.c (.int .i64 (n:Nat))) es0))]→K (.c (.str (Qct n))) H') :
  Qj prog Qd0 [.c (.ptr r 0),.c (.pp [.mp l0,scC ls]),.c (.str s)] H K:=by
 have how:=Qsr ls;have kn:=Kn.start2 hr (by nofun) hl (by nofun) hne;have hky:=eq_true hky;refine Qb Qad Qadp ?_;refine Qa ?_;simp only[go_sem,how];refine Qaf ?_;simp only[go_sem,hr,hl,Qo7,hky,how];refine⟨by simp only[LIM];omega,?_⟩;intro H1 h1;have kn:=kn.stE 1 rfl h1;have gr:=kn.e 0 rfl;refine Qa ?_;simp only[go_sem,gr];refine⟨Qm (by omega) (by omega),fun H2 h2=>?_⟩;have kn:=kn.stE 0 rfl h2;have gr:=kn.e 0 rfl;refine Qa ?_;simp only[go_sem,gr];refine⟨Qm (by omega) (by omega),?_⟩;have e1:((n:Int)+1-1)=(n:Nat):=by omega
 try rw[e1]
 refine Qay1 hn ?_;simp only[go_sem,Qmg];refine Qi ?_;simp only[go_sem,Qq,Q7,Qbo3,Ja,forall_eq,RS.op];exact hK _ kn.upd
def RnB (r m:Nat):Prop:=∀(sts:List St) (f5:Bool) (l0:Nat) (rest:ScD) (rv:Vars) (s:RnX) (q:RnQ) (H:Heap) (K:V→Heap→Prop),Qh sts≤m→(r::l0::rest.ls).Nodup→ScD.ok vI rest rv→s.ok rv q→q.n+Qu sts≤26→
 (∀p∈s.ob r l0 rest,H p.1=p.2)→(∀(s':RnX) (H':Heap),s'.ok rv (Qaw sts q).2→Upd H H' (s'.ob r l0 rest)→K (.c (.sl false 5 (Qk (Qaw sts q).1))) H')→
 Qj prog Qcc [.c (.ptr r 0),.c (.sl f5 5 (Qk sts)),.c (scC (l0::rest.ls))] H K
theorem Qay2 {x:St}{x3 x4:Nat}{s1:RnX}{q1:RnQ}{nm:List UInt8}{ar:List Ex}{e:Env}(hB:RnB r m)(hb:Qh x.body≤m)(he:Qh x.els≤m)(hsc:ScD.ok vI rest rv)(hs1:s1.ok rv q1)
  (hlets:q1.n+Qu x.body+Qu x.els≤26)
  (kn:Kn H0 H (s1.ob r l0 rest) [(x3,.st [.int .i64 x.op,.str nm,.sl false 4 (Qw ar),.sl false 5 (Qk x.body),.sl false 5 (Qk x.els)]),(x4,.st [.int .i64 0,.str [],.sl true 4 [],.sl true 5 [],.sl true 5 []])])
  (l1:lk 1 e=.c (.pp [.ptr r 0])) (l2:lk 2 e=.c (.pp [scC (l0::rest.ls)])) (l3:lk 3 e=.c (.ptr x3 0)) (l4:lk 4 e=.c (.ptr x4 0))
  (hK:∀(s':RnX) (H':Heap),s'.ok rv ⟨q1.v,(Qaw x.els ⟨[]::q1.v,(Qaw x.body ⟨[]::q1.v,q1.n⟩).2.n⟩).2.n⟩→Upd H0 H' (s'.ob r l0 rest)→
   K (.ag (St.mk x.op nm ar (Qaw x.body ⟨[]::q1.v,q1.n⟩).1 (Qaw x.els ⟨[]::q1.v,(Qaw x.body ⟨[]::q1.v,q1.n⟩).2.n⟩).1).cells) H') :
  Q8 prog Qgo (Qq Qama (unK H0 K)) e H:=by
 have how:(scC (l0::rest.ls)).isOw=false:=rfl;have how2:=Qsr rest.ls;have hq:=hs1.q;subst hq;have g3:=kn.l 0 rfl;have hlt:∀(c:Nat),s1.c≤c→∀p∈([]::s1.b::rv:Vars).flatten,p.2<c:=fun c hc p hp=>by
  have:=hs1.lt p (by simpa using hp);omega
 simp only at hlets hK;refine Qaf ?_;simp only[go_sem,l1,l2,l3,l4,g3,how,how2];refine Qp2 how (fun lm nn H7 hlm h7=>?_);have kn:=kn.al hlm h7;have g3:=kn.l 0 rfl;simp only[go_sem,Qfl,l1,l2,l3,l4,g3,how,how2];have h:=fun K=>hB x.body false lm ((l0,s1.g,s1.es)::rest) (s1.b::rv) ⟨s1.c,nn,[],[]⟩ ⟨[]::s1.b::rv,s1.c⟩ H7 K hb (Qbs6 (P:=[_,_]) kn) ⟨hs1.m,hsc⟩ ⟨rfl,.nil _,Jba _,hlt s1.c (Jn _)⟩ (by simp only;omega) (Qbs5 (P:=[_,_]) kn);refine h _ (fun s2 H8 hs2 hu=>?_);have kn:=Qbo5 (P:=[_,_]) kn hu;have g3:=kn.l 0 rfl;have hn2:=Qnl x.body ⟨[]::s1.b::rv,s1.c⟩;have hc2:s2.c=(Qaw x.body ⟨[]::s1.b::rv,s1.c⟩).2.n:=by rw[hs2.q]
 simp only[go_sem,Qgu,l1,l2,l3,l4,g3,how,how2];intro H9 h9;have kn:=kn.stL 0 rfl h9;have g3:=kn.l 0 rfl;rw[←hc2]at hK;refine Qaf ?_;simp only[go_sem,l1,l2,l3,l4,g3,how,how2];refine Qp2 how (fun lm nn H7 hlm h7=>?_);have kn:=kn.al hlm h7;have g3:=kn.l 0 rfl;simp only[go_sem,Qfn,l1,l2,l3,l4,g3,how,how2];simp only at hn2;have h:=fun K=>hB x.els false lm ((l0,s1.g,s1.es)::rest) (s1.b::rv) ⟨s2.c,nn,[],[]⟩ ⟨[]::s1.b::rv,s2.c⟩ H7 K he (Qbs6 (P:=[_,_]) kn) ⟨hs1.m,hsc⟩ ⟨rfl,.nil _,Jba _,hlt s2.c (by omega)⟩ (by simp only;omega) (Qbs5 (P:=[_,_]) kn);refine h _ (fun s3 H8 hs3 hu=>?_);have kn:=Qbo5 (P:=[_,_]) kn hu;have g3:=kn.l 0 rfl;have hn3:=Qnl x.els ⟨[]::s1.b::rv,s2.c⟩;have hc3:s3.c=(Qaw x.els ⟨[]::s1.b::rv,s2.c⟩).2.n:=by rw[hs3.q]
 simp only at hn3;rw[←hc3]at hK;simp only[go_sem,Qfm,l1,l2,l3,l4,g3,how,how2];intro H10 h10;have kn:=kn.stL 0 rfl h10;have g3:=kn.l 0 rfl;have g4:=kn.l 1 rfl;refine Qa ?_;simp only[go_sem,g3,g4,how,how2];intro H11 h11;have kn:=kn.stL 1 rfl h11;have g4:=kn.l 1 rfl;refine Qi ?_;simp only[go_sem,Qq,Q7,Qama,Ja,forall_eq,RS.op,g4];have:=hs1.l;exact⟨_,(FrzL.cons (Qd rfl) (.cons (Qd rfl) (.cons (FrzR.same (Qa5 _)).sl (.cons (FrzR.same (Qa9 _)).sl (.cons (FrzR.same (Qa9 _)).sl .nil))))).ag,
  hK ⟨s3.c,s1.g,s1.es,s1.b⟩ _ ⟨rfl,hs1.m,by simp only;omega,fun p hp=>by have:=hs1.lt p hp;simp only;omega⟩ kn.fin⟩
theorem Qbs4 {x:St}{s:RnX}{q:RnQ}(hB:RnB r m)(hb:Qh x.body≤m)(he:Qh x.els≤m)(hnd:(r::l0::rest.ls).Nodup)(hsc:ScD.ok vI rest rv)(hs:s.ok rv q)(hlets:q.n+x.lets≤26)
  (hh:∀p∈s.ob r l0 rest,H p.1=p.2) (hK:∀(s':RnX) (H':Heap),s'.ok rv (x.ren q).2→Upd H H' (s'.ob r l0 rest)→K (.ag (x.ren q).1.cells) H') :
  Qj prog Qdt ([.ag x.cells]++[C.pp [.ptr r 0],C.pp [scC (l0::rest.ls)]].map .c) H K:=by
 have how:(scC (l0::rest.ls)).isOw=false:=rfl;have how2:=Qsr rest.ls;have hq:=hs.q;subst hq;have hlt26:∀p∈(s.b::rv:Vars).flatten,p.2<26:=fun p hp=>by have:=hs.lt p hp;simp only at hlets;omega
 have hle:=x.lets_eq;simp only at hlets;refine Qn ?_;have kn:Kn H H (s.ob r l0 rest) []:=.startE (fun p hp=>⟨hh p hp,Qami _ _ _ p hp⟩) (by rw[Qtr];exact hnd);have sck:∀(H':Heap) {L:List (Nat×Obj)},Kn H H' (s.ob r l0 rest) L→ScOk vI H' (l0::rest.ls) (s.b::rv):=fun H' L kn=>ScD.scOk (sc:=(l0,s.g,s.es)::rest) ⟨hs.m,hsc⟩ fun p hp=>(kn.get p (Jc _ (Js _ hp))).1;refine Qb Qad Qyo ?_;refine Qa ?_;simp only[go_sem,x.cells_eq,how,how2];intro x3 hx3 H1 h1;have kn:=kn.al hx3 h1;simp only[go_sem,Qgp,how,how2];intro x4 hx4 H2 h2;have kn:=kn.al hx4 h2;have g3:=kn.l 0 rfl;refine Qa ?_;simp only[go_sem,g3,how,how2];refine Qbbb (g:=Ex.ren (Qdl (s.b::rv))) (caps:=[.pp [.ptr r 0],.pp [scC (l0::rest.ls)]]) (fun y hy H1' K' hke hK'=>?_) fun H3 hu=>?_
 ·have hsc':ScOk vI H1' (l0::rest.ls) (s.b::rv):=(sck _ kn).upd fun m hm=>hke m hm;refine Qn ?_;refine Qb Qad Qq1 ?_;refine Qa ?_;simp only[go_sem,y.cells_eq,how,how2];intro y4 hy4 H5 h5;have k2:=(Kn.start0 H1').al hy4 h5;refine Qa ?_;simp only[go_sem,how,how2];have hih:=fun K2=>Qbne (r:=r) (ls:=l0::rest.ls) hlt26 y.size y (H:=H5) (K:=K2) (Jn _) (hsc'.upd fun m hm=>k2.chg m hm (by simp));rw[y.cells_eq]at hih;refine hih _ fun H6 hu=>?_;have k2:=k2.call0 hu;have g:=k2.l 0 rfl;rw[Ex.cells_eq];simp only[go_sem,Qeq,g];intro H7 h7;have k2:=k2.stL 0 rfl h7;have g:=k2.l 0 rfl;refine Qi ?_;simp only[go_sem,Qq,Q7,Qps,Ja,forall_eq,RS.op,g];rw[Ex.cells_eq]at hK';exact⟨_,(FrzL.cons (Qd rfl) (.cons (Qd rfl) (.cons (Qd rfl) (.cons (FrzR.same (Qa5 _)).sl .nil)))).ag,hK' _ k2.fin⟩
 rw[←Qi0];have kn:=kn.call0 hu;have g3:=kn.l 0 rfl;simp only[go_sem,Qgq,g3,how,how2];intro H4 h4;have kn:=kn.stL 0 rfl h4;have g3:=kn.l 0 rfl;refine Q5 ?_;refine Qa ?_;simp only[go_sem,g3,how,how2];refine Qg (Qe ?_);refine Qa ?_;simp only[go_sem,how,how2];refine Qc rfl (fun hc=>?_) (fun hc=>?_)
 ·have h1:x.op=1:=by simpa using hc
  rw[if_pos h1]at hle;have hrn:=x.ren_of ⟨s.b::rv,s.c⟩ ⟨((x.name,s.c)::s.b)::rv,s.c+1⟩ (by rw[if_pos h1];rfl);rw[hrn,if_pos h1]at hK;have hl5:=hs.l;refine Qp ?_;simp only[go_sem,g3,how,how2];refine Qbbr (n:=s.c) (kn.e 0 rfl) (kn.e 1 rfl) (kn.neE 0 1 rfl rfl (by omega)) (by omega) hs.m.ky (by show s.es.length≤26;omega) fun H5 hu=>?_;have kn:=kn.callEE 0 1 rfl rfl (by omega) hu (by nofun) (by nofun);have g3:=kn.l 0 rfl;simp only[go_sem,Qgr,g3,how,how2];intro H6 h6;have kn:=kn.stL 0 rfl h6;try simp only[go_sem,AE.X.next,how,how2]
  have hs1:RnX.ok rv ⟨s.c+1,s.g+1,Q7w (.str x.name) (.c (.int .i64 (s.c:Nat))) s.es,(x.name,s.c)::s.b⟩ ⟨((x.name,s.c)::s.b)::rv,s.c+1⟩:=by
   refine⟨rfl,hs.m.put x.name s.c,?_,fun p hp=>?_⟩
   ·have:=Q39 x.name (.c (.int .i64 (s.c:Nat))) s.es;simp only;omega
   ·simp only[List.flatten_cons,Ju,Jh]at hp;rcases hp with rfl|hp
    ·simp only;omega
    ·have:=hs.lt p (by simpa using hp);simp only;omega
  exact Qay2 (x:=x) hB hb he hsc hs1 (by simp only;omega) kn rfl rfl rfl rfl hK
 ·have h1:¬x.op=1:=by simpa using hc
  rw[if_neg h1]at hle;have hrn:=x.ren_of ⟨s.b::rv,s.c⟩ ⟨s.b::rv,s.c⟩ (by rw[if_neg h1]);rw[hrn,if_neg h1]at hK;refine Qa ?_;simp only[go_sem,how,how2];refine Qc rfl (fun hc2=>?_) (fun hc2=>?_)
  ·have h2:x.op=2:=by simpa using hc2
   rw[if_pos h2]at hK;refine Qa ?_;simp only[go_sem,g3,how,how2];refine Q34 (sck _ kn) ?_;simp only[go_sem,Qgs,J2,J1,how,how2];rw[Qbbv];refine Qp ?_;simp only[go_sem,how,how2];refine Qay1 (Qa2c hlt26 (by omega) _) ?_;simp only[go_sem,Qgt,g3,how,how2];intro H6 h6;have kn:=kn.stL 0 rfl h6;try simp only[go_sem,AE.X.next,how,how2]
   exact Qay2 (x:=x) hB hb he hsc hs (by simp only;omega) kn rfl rfl rfl rfl hK
  ·have h2:¬x.op=2:=by simpa using hc2
   rw[if_neg h2]at hK;refine Qf ?_;try simp only[go_sem,AE.X.next,how,how2]
   exact Qay2 (x:=x) hB hb he hsc hs (by simp only;omega) kn rfl rfl rfl rfl hK
theorem Qbiu:∀(m:Nat),RnB r m:=by
 intro m
 induction m using Nat.strongRecOn with
 |_ m ih=>
 intro sts f5 l0 rest rv s q H K hsz hnd hsc hs hlets hh hK;have how:(scC (l0::rest.ls)).isOw=false:=rfl;have how2:=Qsr rest.ls;refine Qb Qad Qabd ?_;refine Qa ?_;simp only[go_sem,how,how2];refine Qa ?_;simp only[go_sem,how,how2];refine Qbm5 (ob:=RnX.ob r l0 rest) (I:=fun i s'=>s'.ok rv (Qaw (sts.take i) q).2) (G:=fun i=>(Qaw (sts.take i) q).1) (s0:=s) (caps:=[.pp [.ptr r 0],.pp [scC (l0::rest.ls)]])
  (fun s p hp=>Qami _ _ _ p hp) (by simp[Qaw]) (fun i hi=>by rw[Qafw,Jt];omega) (by simpa[Qaw]using hs) hh (by rw[Qtr];exact hnd) (fun i s' h=>by simp only[Qtr];rfl)
  (fun i hi s' H1 K' hI hh' hK'=>?_) (fun s' H' hI hu=>?_)
 ·have hms:=Qbl (Jk hi);have hse:=(sts[i]).size_eq;have htk:Qaw (sts.take (i+1)) q=((Qaw (sts.take i) q).1++[((sts[i]).ren (Qaw (sts.take i) q).2).1],((sts[i]).ren (Qaw (sts.take i) q).2).2):=by
   rw[Jf hi,Qbad]
  have hn:=Qnl (sts.take i) q;have hll:=Qahq hi;have hll2:=Qart (sts.take (i+1)) (sts.drop (i+1));rw[Jae]at hll2;exact Qbs4 (ih (max (Qh (sts[i]).body) (Qh (sts[i]).els)) (by omega)) (by omega) (by omega) hnd hsc hI (by omega) hh' fun s2 H2 h2 hu=>hK' _ s2 H2 (by simp only[htk]) (by rw[htk];exact h2) hu
 ·rw[Jag]at hI;simp only[go_sem,Qkr,how,how2,Jag];refine Qi ?_;simp only[go_sem,Qq,Q7,Qbo3,Ja,forall_eq,RS.op];exact hK s' H' hI hu
end Go.AE.Y
namespace Go.AE.Y
attribute [local go_sem] cond_true cond_false Bool.not_true Bool.not_false
open Go.Proofs.Tryz
variable {H H0 F:Heap}{K:V→Heap→Prop}{fns:List Fn}
theorem Qbij {ps:List (List UInt8)}{i:Nat}(h:i<ps.length):Qyu (ps.take (i+1))=(Qaj (Qyu (ps.take i)).1 ps[i] (Qyu (ps.take i)).2,(Qyu (ps.take i)).2+1):=by
 rw[Jf h,Qyu,Qyu,List.foldl_append];rfl
theorem Qbnf {ps:List (List UInt8)}{r l0 x3 x4 n0:Nat}{fl:Bool}(h3:H x3=.st [.ptr r 0])(h4:H x4=.st [scC [l0]])(hr:H r=.st [.int .i64 0])(hl:H l0=.map n0 [])(hne:r≠l0)(hp:ps.length≤3)
  (hK:∀(s':RnX) H',s'.ok [] ⟨(Qyu ps).1,ps.length⟩→Upd H H' (s'.ob r l0 [])→K (.c (.sl false 1 (Q9 (Qp5 ps.length)))) H') :
  Qj prog Qch [.c (.sl fl 1 (Q9 ps)),.c (.fn Qbu [.ptr x3 0,.ptr x4 0])] H K:=by
 have n3r:x3≠r:=fun h=>by rw[h,hr]at h3;simp at h3
 have n3l:x3≠l0:=fun h=>by rw[h,hl]at h3;simp at h3
 have n4r:x4≠r:=fun h=>by rw[h,hr]at h4;simp[scC]at h4
 have n4l:x4≠l0:=fun h=>by rw[h,hl]at h4;simp at h4
 refine Qn ?_;refine Qb Qad Qqe ?_;refine Qa ?_;simp only[go_sem];refine Qa ?_;simp only[go_sem];refine Q5 ?_;refine Qa ?_;simp only[go_sem,Qo];intro hl;simp only[LIM]at hl;refine Qg (Qe (Q2 (fun m e1 H1=>∃(i:Nat) (t:C) (Lg:List (Nat×Obj)) (s:RnX),m=ps.length-i∧i≤ps.length∧s.ok [] ⟨(Qyu (ps.take i)).1,i⟩∧Gr Lg 1 (Q9 (Qp5 i)) t∧Kn H H1 (s.ob r l0 []) Lg∧
  e1=[(1,.c (.fn Qbu [.ptr x3 0,.ptr x4 0])),(5,.c t),(8,.c (.sl fl 1 (Q9 ps))),(9,.c (.int .i64 ps.length)),(10,.c (.int .i64 i))]) ps.length ?_ ?_))
 ·refine⟨0,_,[],⟨0,n0,[],[]⟩,by omega,by omega,⟨by simp[Qyu],.nil _,Jn _,by simp⟩,.nil 1,Kn.startE (fun p hp=>?_) (by simp[rnOb,ScD.ob,hne]),rfl⟩;simp only[rnOb,ScD.ob,Jv,Jad,Jh,J6,or_false]at hp;rcases hp with rfl|rfl
  ·exact⟨hr,by nofun⟩
  ·exact⟨by assumption,by nofun⟩
 ·rintro m e1 H1 ⟨i,t,Lg,s,hm,hi,hs,hgr,kn,rfl⟩;have hto:=hgr.isOw;refine Qa ?_;simp only[go_sem,hto];refine Qg (Qc rfl ?_ ?_)
  ·intro hc;have hlt:i<ps.length:=by simpa using hc
   obtain⟨x,hx⟩:∃x,ps[i]=x:=⟨_,rfl⟩;have hxd:ps.getD i []=x:=by simp[Jm,hlt,hx]
   refine Qf ?_;try simp only[go_sem]
   refine Qg (Qe ?_);refine Qa ?_;simp only[go_sem,hto,hlt,Qo,Qbs _ _ hlt,hxd];refine Qp ?_;simp only[go_sem,hto];have g3:H1 x3=.st [.ptr r 0]:=by rw[kn.chg x3 (by rw[h3];nofun) (by simp[Qtr,ScD.ls,n3r,n3l]),h3]
   have g4:H1 x4=.st [scC [l0]]:=by rw[kn.chg x4 (by rw[h4];nofun) (by simp[Qtr,ScD.ls,n4r,n4l]),h4]
   have hsq:=hs.q;simp only[RnQ.mk.injEq]at hsq;obtain⟨e1,e2⟩:=hsq;have hsl:=hs.l;refine Qb Qad Qq0 ?_;refine Qa ?_;simp only[go_sem];refine Qa ?_;simp only[go_sem,g3,g4,scC];refine Qbbr (ls:=[]) (n:=s.c) (kn.e 0 rfl) (kn.e 1 rfl) hne (by omega) hs.m.ky (by show s.es.length≤26;omega) fun H5 hu=>?_;have kn:=kn.callEE 0 1 rfl rfl (by omega) hu (by nofun) (by nofun);simp only[go_sem,Qek];refine Qi ?_;simp only[go_sem,Qq,Q7,Qpr,Ja,forall_eq,RS.op];have hs1:RnX.ok [] ⟨s.c+1,s.g+1,Q7w (.str x) (.c (.int .i64 (s.c:Nat))) s.es,(x,s.c)::s.b⟩ ⟨(Qyu (ps.take (i+1))).1,i+1⟩:=by
    have hpv:(Qyu (ps.take i)).2=i:=by
     have:∀(l:List (List UInt8)) (p:Vars×Nat),(l.foldl (fun s p=>(Qaj s.1 p s.2,s.2+1)) p).2=p.2+l.length:=by
      intro l;induction l with
      |nil=>intro p;rfl
      |cons a l ih=>intro p;rw[List.foldl_cons,ih];simp;omega
     rw[Qyu,this];simp;omega
    refine⟨?_,hs.m.put x s.c,?_,fun p hp=>?_⟩
    ·rw[Qbij hlt,hpv,e1,hx,←e2];rfl
    ·have:=Q39 x (.c (.int .i64 (s.c:Nat))) s.es;simp only;omega
    ·simp only[List.flatten_cons,Ju,Jh]at hp;rcases hp with rfl|hp
     ·simp only;omega
     ·have:=hs.lt p (by simpa using hp);simp only;omega
   have hvn:Q9 (Qp5 (i+1))=Q9 (Qp5 i)++[[.str (Qct s.c)]]:=by
    rw[Quy,←e2,Qp5,Qp5,Ja8,Jl];rfl
   simp only[go_sem,Qd4,hto];refine Kn.growR (B:=[]) kn hgr (new:=Q9 [Qct s.c]) (.mk' _ true 1 _) (Qb1 _) (by simp only[Qo,Qp5,Jd,List.length_range,Ji,Jg,LIM];omega) fun t2 Lg2 H6 hgr2 hto2 kn=>?_;simp only[go_sem,Qd3,hto2];refine Qp ?_;simp only[go_sem,AE.X.next,hto2];exact⟨Qm (by omega) (by omega),ps.length-(i+1),by omega,i+1,t2,Lg2,_,rfl,by omega,hs1,by rw[hvn];exact hgr2,kn,rfl⟩
  ·intro hc;have hge:ps.length≤i:=by simpa using hc
   have hie:i=ps.length:=by omega
   subst hie;rw[Jag]at hs;refine Q1 ?_;simp only[go_sem,AE.X.next];refine Qa ?_;simp only[go_sem,hto];refine Qi ?_;simp only[go_sem,Qq,Q7,Qpr,Ja,forall_eq,RS.op,hto];exact⟨_,.c _ _ (hgr.frz (B:=[]) kn (Qb1 _)),hK _ _ hs kn.fin⟩
theorem Qbs3 {f:Fn}(hp:f.params.length≤3)(hf:f.params.length+Qu f.body≤26)(hK:∀H',Upd H H' []→K (.ag f.ren.cells) H'):Qj prog Qdq ([.ag f.cells]++([]:List C).map .c) H K:=by
 refine Qn ?_;refine Qb Qad Qyk ?_;refine Qa ?_;simp only[go_sem,Fn.cells];intro x1 hx1 H1 h1;have kn:=(Kn.start0 H).al hx1 h1;simp only[go_sem,Qf9];intro x2 hx2 H2 h2;have kn:=kn.al hx2 h2;refine Qa ?_;simp only[go_sem];intro x6 hx6 H3 h3;have kn:=kn.al hx6 h3;simp only[go_sem,Qge];refine Qp2 rfl fun lm nn H4 hlm h4=>?_;have kn:=kn.al hlm h4;simp only[go_sem,Qgd];intro x3 hx3 H5 h5;have kn:=kn.al hx3 h5;simp only[go_sem,Qgc];intro x4 hx4 H6 h6;have kn:=kn.al hx4 h6;have g3:=kn.l 4 rfl;simp only[go_sem,Qgb,g3];intro H7 h7;have kn:=kn.stL 4 rfl h7;have g4:=kn.l 5 rfl;simp only[go_sem,Qga,g4];intro H8 h8;have kn:=kn.stL 5 rfl h8;have g1:=kn.l 0 rfl;have g3:=kn.l 4 rfl;have g4:=kn.l 5 rfl;refine Qa ?_;simp only[go_sem,g1];refine Qbnf (r:=x6) (l0:=lm) g3 g4 (kn.l 2 rfl) (kn.l 3 rfl) (kn.neL 2 3 rfl rfl (by omega)) hp fun s' H9 hs' hu=>?_;have kn:=Kn.callLs (L:=[(x6,_),(lm,_)]) (L':=s'.ob x6 lm []) (M:=[(x1,_),(x2,_),(x3,_),(x4,_)]) (kn.perm ((Jr (l₁:=[(x1,_),(x2,_)]) (l₂:=[(x6,_),(lm,_)])).append_right [(x3,_),(x4,_)])) hu (by simp[rnOb,ScD.ob]) (Qami _ _ _);have g1:=kn.l 2 rfl;simp only[go_sem,Qgf,g1];intro H10 h10;have kn:=kn.stL 2 rfl h10;have g1:=kn.l 2 rfl;have g3:=kn.l 4 rfl;have g4:=kn.l 5 rfl;refine Qa ?_;simp only[go_sem,g1,g3,g4];have h:=fun K=>Qbiu (r:=x6) (Qh f.body) f.body false lm [] [] s' ⟨(Qyu f.params).1,f.params.length⟩ H10 K (Jn _) (by simp[ScD.ls];exact kn.neL 0 1 rfl rfl (by omega)) trivial hs' hf (fun p hp=>(kn.get p (by simp only[Jz];exact Jc _ hp)).1);refine h _ fun s2 H11 hs2 hu=>?_;have kn:=Kn.callLs (L:=s'.ob x6 lm []) (L':=s2.ob x6 lm []) (M:=[(x1,_),(x2,_),(x3,_),(x4,_)]) kn hu (by simp[rnOb,ScD.ob]) (Qami _ _ _);have g1:=kn.l 2 rfl;simp only[go_sem,Qgg,g1];intro H12 h12;have kn:=kn.stL 2 rfl h12;have g1:=kn.l 2 rfl;have g2:=kn.l 3 rfl;refine Qa ?_;simp only[go_sem,g1,g2];intro H13 h13;have kn:=kn.stL 3 rfl h13;have g2:=kn.l 3 rfl;refine Qi ?_;simp only[go_sem,Qq,Q7,Qj1,Ja,forall_eq,RS.op,g2];exact⟨_,(FrzL.cons (Qd rfl) (.cons (FrzR.same (Qb1 _)).sl (.cons (FrzR.same (Qa9 _)).sl .nil))).ag,hK _ kn.fin⟩
theorem Qbq2 {g:Fn→Fn}{f:Nat}{caps:List C}{l:List Fn}{fl:Bool}
  (hf:∀x∈l,∀(H1:Heap) (K':V→Heap→Prop),(∀H2,Upd H1 H2 []→K' (.ag (g x).cells) H2)→Qj prog f ([.ag x.cells]++caps.map .c) H1 K')
  (hK:∀H',Upd H H' []→K (.c (.sl false 3 (Q3 (l.map g)))) H'):Qj prog Qg8 [.c (.sl fl 3 (Q3 l)),.c (.fn f caps)] H K:=by
 refine Qn ?_;refine Qb Qad Qado ?_;refine Qa ?_;simp only[go_sem];refine Qa ?_;simp only[go_sem];refine Q5 ?_;refine Qa ?_;simp only[go_sem,Qx];intro hl;simp only[LIM]at hl;refine Qg (Qe (Q2 (fun m e1 H1=>∃(i:Nat) (t:C) (Lg:List (Nat×Obj)),m=l.length-i∧i≤l.length∧Gr Lg 3 (Q3 ((l.take i).map g)) t∧Kn H H1 [] Lg∧
  e1=[(1,.c (.fn f caps)),(5,.c t),(8,.c (.sl fl 3 (Q3 l))),(9,.c (.int .i64 l.length)),(10,.c (.int .i64 i))]) l.length ?_ ?_))
 ·exact⟨0,_,[],by omega,by omega,.nil 3,Kn.start0 H,rfl⟩
 ·rintro m e1 H1 ⟨i,t,Lg,hm,hi,hgr,kn,rfl⟩;have hto:=hgr.isOw;refine Qa ?_;simp only[go_sem,hto];refine Qg (Qc rfl ?_ ?_)
  ·intro hc;have hlt:i<l.length:=by simpa using hc
   obtain⟨x,hx⟩:∃x,l[i]=x:=⟨_,rfl⟩;have hxm:x∈l:=by rw[←hx];exact Jk hlt
   have htk:Q3 ((l.take (i+1)).map g)=Q3 ((l.take i).map g)++[(g x).cells]:=by
    rw[Q3x,Jf hlt,hx];simp
   refine Qf ?_;try simp only[go_sem]
   refine Qg (Qe ?_);refine Qa ?_;simp only[go_sem,hto,hlt,Qx,Qat _ _ hlt,hx,Fn.cells];intro x7 hx7 H3 h3;have kn:Kn H H3 [] ([(x7,.st [.str [],.sl true 1 [],.sl true 5 []])]++Lg):=(kn.al hx7 h3).perm Jr;have g7:=kn.l 0 rfl;simp only[go_sem,Qmd,g7,hto];intro H4 h4;have kn:Kn H H4 [] ([(x7,.st [.str x.name,.sl false 1 (Q9 x.params),.sl false 5 (Qk x.body)])]++Lg):=kn.stL 0 rfl h4;have g7:=kn.l 0 rfl;refine Qp ?_;simp only[go_sem,g7,hto];have hfx:=hf x hxm H4;simp only[Fn.cells]at hfx;refine hfx _ fun H5 hu=>?_;have kn:=kn.call0 hu;simp only[go_sem,Qmf,hto];refine kn.growR hgr (new:=[(g x).cells]) (.mk' _ true 3 _) (by simp[Fn.noOw]) (by simp only[Qx,Jd,Jt,Ji,Jg,LIM];omega) fun t2 Lg2 H6 hgr2 hto2 kn=>?_;simp only[go_sem,Qme,hto2];refine Qp ?_;simp only[go_sem,AE.X.next,hto2];exact⟨Qm (by omega) (by omega),l.length-(i+1),by omega,i+1,t2,Lg2,rfl,by omega,by rw[htk];exact hgr2,kn.sub (List.sublist_append_right _ _),rfl⟩
  ·intro hc;have hge:l.length≤i:=by simpa using hc
   rw[Jo hge]at hgr;refine Q1 ?_;simp only[go_sem,AE.X.next];refine Qa ?_;simp only[go_sem,hto];refine Qi ?_;simp only[go_sem,Qq,Q7,Qpr,Ja,forall_eq,RS.op,hto];exact⟨_,.c _ _ (hgr.frz (B:=[]) kn (Qc3 _)),hK _ kn.fin⟩
theorem c1_c {f:Fn}(hb:Qh f.body≤2^34)(hp:f.params.length≤3)(hK:∀H',Upd H H' []→K (.c (.bool (decide (26<f.params.length+Qu f.body)))) H') :
  Qj prog Qdp [.ag f.cells] H K:=by
 refine Qb Qad Qyj ?_;refine Qa ?_;simp only[go_sem,Fn.cells];refine Qa ?_;simp only[go_sem];have h:=fun K=>Qalh (f:=f) (H:=H) (K:=K) hb hp;simp only[Fn.cells]at h;refine h _ fun H1 hu=>?_;simp only[go_sem,Qf8];refine Qi ?_;simp only[go_sem,Qq,Q7,Qfh,Ja,forall_eq,RS.op];have e:decide ((26:Int)<(f.params.length:Int)+Qu f.body)=decide (26<f.params.length+Qu f.body):=decide_eq_decide.2 (by omega)
 first|(rw[e];exact hK _ hu)|exact hK _ hu
end Go.AE.Y
namespace Go.AE.Y
attribute [local go_sem] cond_true cond_false Bool.not_true Bool.not_false
open Go.Proofs.Tryz
variable {H H0:Heap}{K:V→Heap→Prop}
theorem Qarr {f g:Bool}{ns:List Int}(hK:K (.c (.bool true)) H):Qj prog Qn4 [.c (.sl f 1 (Q0 ns)),.c (.sl g 1 (Q0 ns))] H K:=by
 refine Qb Qad Qbcy ?_;refine Qa ?_;simp only[go_sem];refine Q5 ?_;refine Qa ?_;simp only[go_sem,Qt,decide_true];intro hl;try intro _
 simp only[LIM]at hl;refine Qg (Qc rfl ?_ ?_)
 ·intro h;simp at h
 intro _;refine Qf ?_;try simp only[go_sem]
 refine Q5 ?_;refine Qa ?_;simp only[go_sem,Qt];try intro _
 refine Qg (Qe (Q2 (fun m e1 H1=>∃(i:Nat),m=ns.length-i∧i≤ns.length∧H1=H∧lk 0 e1=.c (.sl f 1 (Q0 ns))∧lk 1 e1=.c (.sl g 1 (Q0 ns))∧lk 12 e1=.c (.int .i64 ns.length)∧lk 13 e1=.c (.int .i64 i)) ns.length ?_ ?_))
 ·exact⟨0,by omega,by omega,rfl,rfl,rfl,rfl,rfl⟩
 ·rintro m e1 H1 ⟨i,hm,hi,rfl,l0,l1,l12,l13⟩;refine Qa ?_;simp only[go_sem,l0,l1,l12,l13];refine Qg (Qc rfl ?_ ?_)
  ·intro hc;have hlt:i<ns.length:=by simpa using hc
   refine Qf ?_;try simp only[go_sem]
   refine Qg (Qe ?_);refine Qa ?_;simp only[go_sem];refine Qaf ?_;simp only[go_sem,hlt,Qt,Qbj _ _ hlt,decide_true];refine Qc rfl ?_ ?_
   ·intro h;simp at h
   intro _;refine Qf ?_;try simp only[go_sem]
   refine Qp ?_;simp only[go_sem];refine⟨Qm (by omega) (by omega),?_⟩;show ∃m,_;exact⟨ns.length-(i+1),by omega,i+1,rfl,by omega,rfl,rfl,rfl,rfl,rfl⟩
  ·intro hc;refine Q1 ?_;simp only[go_sem,X.next];refine Qa ?_;simp only[go_sem];refine Qi ?_;simp only[go_sem,Qq,Q7,Qpr,Ja,forall_eq,RS.op];exact hK
theorem Qax6 {f g:Bool}{ns:List Int}(hK:K (.c (.bool true)) H):Qj prog Qyd [.c (.sl f 1 (Q0 ns)),.c (.sl g 1 (Q0 ns))] H K:=by
 refine Qb Qad Qbm0 ?_;refine Qa ?_;simp only[go_sem];refine Q5 ?_;refine Qa ?_;simp only[go_sem,Qt,decide_true];intro hl;try intro _
 simp only[LIM]at hl;refine Qg (Qc rfl ?_ ?_)
 ·intro h;simp at h
 intro _;refine Qf ?_;try simp only[go_sem]
 refine Q5 ?_;refine Qa ?_;simp only[go_sem];try intro _
 refine Qg (Qe (Q2 (fun m e1 H1=>∃(i:Nat),m=ns.length-i∧i≤ns.length∧H1=H∧lk 0 e1=.c (.sl f 1 (Q0 ns))∧lk 1 e1=.c (.sl g 1 (Q0 ns))∧lk 5 e1=.c (.int .i64 i)) ns.length ?_ ?_))
 ·exact⟨0,by omega,by omega,rfl,rfl,rfl,rfl⟩
 ·rintro m e1 H1 ⟨i,hm,hi,rfl,l0,l1,l5⟩;refine Q5 ?_;refine Qa ?_;simp only[go_sem,l0,l1,l5,Qt];try intro _
  refine Qg (Qc rfl ?_ ?_)
  ·intro hc;have hlt:i<ns.length:=by simpa using hc
   refine Qf ?_;try simp only[go_sem]
   refine Qg (Qe ?_);refine Qaf ?_;simp only[go_sem,hlt,Qt,Qbj _ _ hlt,decide_true];refine Qc rfl ?_ ?_
   ·intro h;simp at h
   intro _;refine Qf ?_;try simp only[go_sem]
   refine Qp ?_;simp only[go_sem];refine⟨Qm (by omega) (by omega),?_⟩;show ∃m,_;exact⟨ns.length-(i+1),by omega,i+1,rfl,by omega,rfl,rfl,rfl,rfl⟩
  ·intro hc;refine Q1 ?_;simp only[go_sem,X.next];refine Qa ?_;simp only[go_sem];refine Qi ?_;simp only[go_sem,Qq,Q7,Qpr,Ja,forall_eq,RS.op];exact hK
theorem Qbki {p:PhiD}(hK:∀H',Upd H H' []→K (.c (.bool true)) H'):Qj prog Qha [.ag p.cells,.ag p.cells] H K:=by
 refine Qn ?_;refine Qb Qad Qa1u ?_;have kn:=Kn.start0 H;refine Qa ?_;simp only[go_sem,PhiD.cells];refine Qa ?_;simp only[go_sem,decide_true];refine Qarr ?_;simp only[go_sem,Q00,decide_true];refine Qi ?_;simp only[go_sem,Qq,Q7,Qpr,Ja,forall_eq,RS.op];exact⟨_,.c _ _ (Qd rfl),hK _ kn.fin⟩
theorem Qblm {f g:Bool}{l:List PhiD}(hK:∀H',Upd H H' []→K (.c (.bool true)) H'):Qj prog Qft [.c (.sl f 2 (Qf3 l)),.c (.sl g 2 (Qf3 l)),.c (.fn Qha [])] H K:=by
 refine Qn ?_;refine Qb Qad Qabf ?_;refine Qa ?_;simp only[go_sem];refine Q5 ?_;refine Qa ?_;simp only[go_sem,Qbr,decide_true];intro hl;try intro _
 simp only[LIM]at hl;refine Qg (Qc rfl ?_ ?_)
 ·intro h;simp at h
 intro _;refine Qf ?_;try simp only[go_sem]
 refine Q5 ?_;refine Qa ?_;simp only[go_sem,Qbr];try intro _
 refine Qg (Qe (Q2 (fun m e1 H1=>∃(i:Nat),m=l.length-i∧i≤l.length∧Kn H H1 [] []∧lk 1 e1=.c (.sl g 2 (Qf3 l))∧lk 2 e1=.c (.fn Qha [])∧lk 15 e1=.c (.sl f 2 (Qf3 l))∧lk 16 e1=.c (.int .i64 l.length)∧lk 17 e1=.c (.int .i64 i)) l.length ?_ ?_))
 ·exact⟨0,by omega,by omega,.start0 H,rfl,rfl,rfl,rfl,rfl⟩
 ·rintro m e1 H1 ⟨i,hm,hi,kn,l1,l2,l15,l16,l17⟩;refine Qa ?_;simp only[go_sem,l1,l2,l15,l16,l17];refine Qg (Qc rfl ?_ ?_)
  ·intro hc;have hlt:i<l.length:=by simpa using hc
   obtain⟨p,hp⟩:∃p,l[i]=p:=⟨_,rfl⟩;refine Qf ?_;try simp only[go_sem]
   refine Qg (Qe ?_);refine Qa ?_;simp only[go_sem,l1,l2,l15,l16,l17,hlt,Qbr,Qfw _ _ hlt,hp,PhiD.cells];intro x8 hx8 H2 h2;have kn:=kn.al hx8 h2;have hx8:=kn.l 0 rfl;simp only[go_sem,Qk3,hx8];intro H3 h3;have kn:Kn H H3 [] [(x8,.st p.cells)]:=kn.stL 0 rfl h3;refine Qa ?_;simp only[go_sem,l1,l2,l15,l16,l17,hlt,Qbr,Qfw _ _ hlt,hp,PhiD.cells];intro x9 hx9 H4 h4;have kn:=kn.al hx9 h4;have hx9:=kn.l 1 rfl;simp only[go_sem,Qk4,hx9];intro H5 h5;have kn:Kn H H5 [] [(x8,.st p.cells),(x9,.st p.cells)]:=kn.stL 1 rfl h5;have hx8:H5 x8=.st p.cells:=kn.l 0 rfl;have hx9:H5 x9=.st p.cells:=kn.l 1 rfl;refine Qa ?_;simp only[go_sem,hx8,hx9,PhiD.cells,Jy,Jad];refine Qbki (p:=p) fun H6 hu=>?_;have kn:=kn.call0 hu;simp only[go_sem,Qk5];refine Qc rfl ?_ ?_
   ·intro h;simp at h
   intro _;refine Qf ?_;try simp only[go_sem]
   refine Qp ?_;simp only[go_sem,l1,l2,l15,l16,l17];refine⟨Qm (by omega) (by omega),?_⟩;show ∃m,_;exact⟨l.length-(i+1),by omega,i+1,rfl,by omega,Kn.drop (A:=[]) (B:=[(x8,_),(x9,_)]) kn,rfl,rfl,rfl,rfl,rfl⟩
  ·intro hc;refine Q1 ?_;simp only[go_sem,X.next];refine Qa ?_;simp only[go_sem];refine Qi ?_;simp only[go_sem,Qq,Q7,Qbo3,Ja,forall_eq,RS.op];exact⟨_,.c _ _ (Qd rfl),hK _ kn.fin⟩
theorem Qbkh {p:InsD}(hK:∀H',Upd H H' []→K (.c (.bool true)) H'):Qj prog Qg9 [.ag p.cells,.ag p.cells] H K:=by
 refine Qn ?_;refine Qb Qad Qa1t ?_;have kn:=Kn.start0 H;refine Qa ?_;simp only[go_sem,InsD.cells];refine Qa ?_;simp only[go_sem,decide_true];refine Qarr ?_;simp only[go_sem,Q0z,decide_true];refine Qi ?_;simp only[go_sem,Qq,Q7,Qpr,Ja,forall_eq,RS.op];exact⟨_,.c _ _ (Qd rfl),hK _ kn.fin⟩
theorem Qbll {f g:Bool}{l:List InsD}(hK:∀H',Upd H H' []→K (.c (.bool true)) H'):Qj prog Qfs [.c (.sl f 4 (Qn7 l)),.c (.sl g 4 (Qn7 l)),.c (.fn Qg9 [])] H K:=by
 refine Qn ?_;refine Qb Qad Qabe ?_;refine Qa ?_;simp only[go_sem];refine Q5 ?_;refine Qa ?_;simp only[go_sem,Qco,decide_true];intro hl;try intro _
 simp only[LIM]at hl;refine Qg (Qc rfl ?_ ?_)
 ·intro h;simp at h
 intro _;refine Qf ?_;try simp only[go_sem]
 refine Q5 ?_;refine Qa ?_;simp only[go_sem,Qco];try intro _
 refine Qg (Qe (Q2 (fun m e1 H1=>∃(i:Nat),m=l.length-i∧i≤l.length∧Kn H H1 [] []∧lk 1 e1=.c (.sl g 4 (Qn7 l))∧lk 2 e1=.c (.fn Qg9 [])∧lk 15 e1=.c (.sl f 4 (Qn7 l))∧lk 16 e1=.c (.int .i64 l.length)∧lk 17 e1=.c (.int .i64 i)) l.length ?_ ?_))
 ·exact⟨0,by omega,by omega,.start0 H,rfl,rfl,rfl,rfl,rfl⟩
 ·rintro m e1 H1 ⟨i,hm,hi,kn,l1,l2,l15,l16,l17⟩;refine Qa ?_;simp only[go_sem,l1,l2,l15,l16,l17];refine Qg (Qc rfl ?_ ?_)
  ·intro hc;have hlt:i<l.length:=by simpa using hc
   obtain⟨p,hp⟩:∃p,l[i]=p:=⟨_,rfl⟩;refine Qf ?_;try simp only[go_sem]
   refine Qg (Qe ?_);refine Qa ?_;simp only[go_sem,l1,l2,l15,l16,l17,hlt,Qco,Qnp _ _ hlt,hp,InsD.cells];intro x8 hx8 H2 h2;have kn:=kn.al hx8 h2;have hx8:=kn.l 0 rfl;simp only[go_sem,Qk0,hx8];intro H3 h3;have kn:Kn H H3 [] [(x8,.st p.cells)]:=kn.stL 0 rfl h3;refine Qa ?_;simp only[go_sem,l1,l2,l15,l16,l17,hlt,Qco,Qnp _ _ hlt,hp,InsD.cells];intro x9 hx9 H4 h4;have kn:=kn.al hx9 h4;have hx9:=kn.l 1 rfl;simp only[go_sem,Qk1,hx9];intro H5 h5;have kn:Kn H H5 [] [(x8,.st p.cells),(x9,.st p.cells)]:=kn.stL 1 rfl h5;have hx8:H5 x8=.st p.cells:=kn.l 0 rfl;have hx9:H5 x9=.st p.cells:=kn.l 1 rfl;refine Qa ?_;simp only[go_sem,hx8,hx9,InsD.cells,Jy,Jad];refine Qbkh (p:=p) fun H6 hu=>?_;have kn:=kn.call0 hu;simp only[go_sem,Qk2];refine Qc rfl ?_ ?_
   ·intro h;simp at h
   intro _;refine Qf ?_;try simp only[go_sem]
   refine Qp ?_;simp only[go_sem,l1,l2,l15,l16,l17];refine⟨Qm (by omega) (by omega),?_⟩;show ∃m,_;exact⟨l.length-(i+1),by omega,i+1,rfl,by omega,Kn.drop (A:=[]) (B:=[(x8,_),(x9,_)]) kn,rfl,rfl,rfl,rfl,rfl⟩
  ·intro hc;refine Q1 ?_;simp only[go_sem,X.next];refine Qa ?_;simp only[go_sem];refine Qi ?_;simp only[go_sem,Qq,Q7,Qbo3,Ja,forall_eq,RS.op];exact⟨_,.c _ _ (Qd rfl),hK _ kn.fin⟩
theorem Qbab {p:BlkD}(hK:∀H',Upd H H' []→K (.c (.bool true)) H'):Qj prog Qea [.ag p.cells,.ag p.cells] H K:=by
 refine Qn ?_;refine Qb Qad Qasg ?_;have kn:=Kn.start0 H;refine Qa ?_;simp only[go_sem,BlkD.cells];refine Qa ?_;simp only[go_sem,decide_true];refine Qarr ?_;simp only[go_sem,Qr9,decide_true];refine Qblm fun H1 hu=>?_;have kn:=kn.call0 hu;simp only[go_sem,Qr8,decide_true];refine Qbll fun H1 hu=>?_;have kn:=kn.call0 hu;simp only[go_sem,Qr7,decide_true];refine Qi ?_;simp only[go_sem,Qq,Q7,Qpr,Ja,forall_eq,RS.op];exact⟨_,.c _ _ (Qd rfl),hK _ kn.fin⟩
theorem Qbcc {f g:Bool}{l:List BlkD}(hK:∀H',Upd H H' []→K (.c (.bool true)) H'):Qj prog Qef [.c (.sl f 5 (Qap l)),.c (.sl g 5 (Qap l)),.c (.fn Qea [])] H K:=by
 refine Qn ?_;refine Qb Qad Q4i ?_;refine Qa ?_;simp only[go_sem];refine Q5 ?_;refine Qa ?_;simp only[go_sem,Qal,decide_true];intro hl;try intro _
 simp only[LIM]at hl;refine Qg (Qc rfl ?_ ?_)
 ·intro h;simp at h
 intro _;refine Qf ?_;try simp only[go_sem]
 refine Q5 ?_;refine Qa ?_;simp only[go_sem,Qal];try intro _
 refine Qg (Qe (Q2 (fun m e1 H1=>∃(i:Nat),m=l.length-i∧i≤l.length∧Kn H H1 [] []∧lk 1 e1=.c (.sl g 5 (Qap l))∧lk 2 e1=.c (.fn Qea [])∧lk 15 e1=.c (.sl f 5 (Qap l))∧lk 16 e1=.c (.int .i64 l.length)∧lk 17 e1=.c (.int .i64 i)) l.length ?_ ?_))
 ·exact⟨0,by omega,by omega,.start0 H,rfl,rfl,rfl,rfl,rfl⟩
 ·rintro m e1 H1 ⟨i,hm,hi,kn,l1,l2,l15,l16,l17⟩;refine Qa ?_;simp only[go_sem,l1,l2,l15,l16,l17];refine Qg (Qc rfl ?_ ?_)
  ·intro hc;have hlt:i<l.length:=by simpa using hc
   obtain⟨p,hp⟩:∃p,l[i]=p:=⟨_,rfl⟩;refine Qf ?_;try simp only[go_sem]
   refine Qg (Qe ?_);refine Qa ?_;simp only[go_sem,l1,l2,l15,l16,l17,hlt,Qal,Qdf _ _ hlt,hp,BlkD.cells];intro x8 hx8 H2 h2;have kn:=kn.al hx8 h2;have hx8:=kn.l 0 rfl;simp only[go_sem,Qh5,hx8];intro H3 h3;have kn:Kn H H3 [] [(x8,.st p.cells)]:=kn.stL 0 rfl h3;refine Qa ?_;simp only[go_sem,l1,l2,l15,l16,l17,hlt,Qal,Qdf _ _ hlt,hp,BlkD.cells];intro x9 hx9 H4 h4;have kn:=kn.al hx9 h4;have hx9:=kn.l 1 rfl;simp only[go_sem,Qh6,hx9];intro H5 h5;have kn:Kn H H5 [] [(x8,.st p.cells),(x9,.st p.cells)]:=kn.stL 1 rfl h5;have hx8:H5 x8=.st p.cells:=kn.l 0 rfl;have hx9:H5 x9=.st p.cells:=kn.l 1 rfl;refine Qa ?_;simp only[go_sem,hx8,hx9,BlkD.cells,Jy,Jad];refine Qbab (p:=p) fun H6 hu=>?_;have kn:=kn.call0 hu;simp only[go_sem,Qh7];refine Qc rfl ?_ ?_
   ·intro h;simp at h
   intro _;refine Qf ?_;try simp only[go_sem]
   refine Qp ?_;simp only[go_sem,l1,l2,l15,l16,l17];refine⟨Qm (by omega) (by omega),?_⟩;show ∃m,_;exact⟨l.length-(i+1),by omega,i+1,rfl,by omega,Kn.drop (A:=[]) (B:=[(x8,_),(x9,_)]) kn,rfl,rfl,rfl,rfl,rfl⟩
  ·intro hc;refine Q1 ?_;simp only[go_sem,X.next];refine Qa ?_;simp only[go_sem];refine Qi ?_;simp only[go_sem,Qq,Q7,Qbo3,Ja,forall_eq,RS.op];exact⟨_,.c _ _ (Qd rfl),hK _ kn.fin⟩
theorem Qbf2 {p:CodeD}(hK:∀H',Upd H H' []→K (.c (.bool true)) H'):Qj prog Qfb [.ag p.cells,.ag p.cells] H K:=by
 refine Qn ?_;refine Qb Qad Qaye ?_;have kn:=Kn.start0 H;refine Qa ?_;simp only[go_sem,CodeD.cells];refine Qa ?_;simp only[go_sem,decide_true];refine Qbcc fun H1 hu=>?_;have kn:=kn.call0 hu;simp only[go_sem,Qvc,decide_true];refine Qi ?_;simp only[go_sem,Qq,Q7,Qpr,Ja,forall_eq,RS.op];exact⟨_,.c _ _ (Qd rfl),hK _ kn.fin⟩
theorem Qbgu {f g:Bool}{l:List CodeD}(hK:∀H',Upd H H' []→K (.c (.bool true)) H'):Qj prog Qe0 [.c (.sl f 3 (Qy l)),.c (.sl g 3 (Qy l)),.c (.fn Qfb [])] H K:=by
 refine Qn ?_;refine Qb Qad Q74 ?_;refine Qa ?_;simp only[go_sem];refine Q5 ?_;refine Qa ?_;simp only[go_sem,Qae,decide_true];intro hl;try intro _
 simp only[LIM]at hl;refine Qg (Qc rfl ?_ ?_)
 ·intro h;simp at h
 intro _;refine Qf ?_;try simp only[go_sem]
 refine Q5 ?_;refine Qa ?_;simp only[go_sem,Qae];try intro _
 refine Qg (Qe (Q2 (fun m e1 H1=>∃(i:Nat),m=l.length-i∧i≤l.length∧Kn H H1 [] []∧lk 1 e1=.c (.sl g 3 (Qy l))∧lk 2 e1=.c (.fn Qfb [])∧lk 15 e1=.c (.sl f 3 (Qy l))∧lk 16 e1=.c (.int .i64 l.length)∧lk 17 e1=.c (.int .i64 i)) l.length ?_ ?_))
 ·exact⟨0,by omega,by omega,.start0 H,rfl,rfl,rfl,rfl,rfl⟩
 ·rintro m e1 H1 ⟨i,hm,hi,kn,l1,l2,l15,l16,l17⟩;refine Qa ?_;simp only[go_sem,l1,l2,l15,l16,l17];refine Qg (Qc rfl ?_ ?_)
  ·intro hc;have hlt:i<l.length:=by simpa using hc
   obtain⟨p,hp⟩:∃p,l[i]=p:=⟨_,rfl⟩;refine Qf ?_;try simp only[go_sem]
   refine Qg (Qe ?_);refine Qa ?_;simp only[go_sem,l1,l2,l15,l16,l17,hlt,Qae,Qbe _ _ hlt,hp,CodeD.cells];intro x8 hx8 H2 h2;have kn:=kn.al hx8 h2;have hx8:=kn.l 0 rfl;simp only[go_sem,Qiu,hx8];intro H3 h3;have kn:Kn H H3 [] [(x8,.st p.cells)]:=kn.stL 0 rfl h3;refine Qa ?_;simp only[go_sem,l1,l2,l15,l16,l17,hlt,Qae,Qbe _ _ hlt,hp,CodeD.cells];intro x9 hx9 H4 h4;have kn:=kn.al hx9 h4;have hx9:=kn.l 1 rfl;simp only[go_sem,Qiv,hx9];intro H5 h5;have kn:Kn H H5 [] [(x8,.st p.cells),(x9,.st p.cells)]:=kn.stL 1 rfl h5;have hx8:H5 x8=.st p.cells:=kn.l 0 rfl;have hx9:H5 x9=.st p.cells:=kn.l 1 rfl;refine Qa ?_;simp only[go_sem,hx8,hx9,CodeD.cells,Jy,Jad];refine Qbf2 (p:=p) fun H6 hu=>?_;have kn:=kn.call0 hu;simp only[go_sem,Qiw];refine Qc rfl ?_ ?_
   ·intro h;simp at h
   intro _;refine Qf ?_;try simp only[go_sem]
   refine Qp ?_;simp only[go_sem,l1,l2,l15,l16,l17];refine⟨Qm (by omega) (by omega),?_⟩;show ∃m,_;exact⟨l.length-(i+1),by omega,i+1,rfl,by omega,Kn.drop (A:=[]) (B:=[(x8,_),(x9,_)]) kn,rfl,rfl,rfl,rfl,rfl⟩
  ·intro hc;refine Q1 ?_;simp only[go_sem,X.next];refine Qa ?_;simp only[go_sem];refine Qi ?_;simp only[go_sem,Qq,Q7,Qbo3,Ja,forall_eq,RS.op];exact⟨_,.c _ _ (Qd rfl),hK _ kn.fin⟩
theorem Qax2 {f g:Bool}{cs:List CodeD}(hK:∀H',Upd H H' []→K (.c (.bool true)) H'):Qj prog Qnx [.ag [.sl f 3 (Qy cs)],.ag [.sl g 3 (Qy cs)]] H K:=by
 refine Qn ?_;refine Qb Qad Qar8 ?_;refine Qa ?_;simp only[go_sem];refine Qa ?_;simp only[go_sem];refine Qbgu fun H1 hu=>?_;have kn:=(Kn.start0 H).call0 hu;simp only[go_sem,Qrm];refine Qi ?_;simp only[go_sem,Qq,Q7,Qpr,Ja,forall_eq,RS.op];exact⟨_,.c _ _ (Qd rfl),hK _ kn.fin⟩
theorem Qax7 {p:BlkD}(hK:∀H',Upd H H' []→K (.c (.bool true)) H'):Qj prog Qqb [.ag p.cells,.ag p.cells] H K:=by
 refine Qn ?_;refine Qb Qad Qayl ?_;refine Qa ?_;simp only[go_sem,BlkD.cells];refine Q5 ?_;refine Qa ?_;simp only[go_sem,Qbr,Qco,decide_true];intro hlp hli;simp only[LIM]at hlp hli;refine Qax6 ?_;simp only[go_sem,Qvy];refine Qg (Qc rfl ?_ ?_)
 ·intro h;simp at h
 intro _;refine Qf ?_;try simp only[go_sem]
 refine Q5 ?_;refine Qa ?_;simp only[go_sem];refine Qg (Qe (Q2 (fun m e1 H1=>∃(i:Nat),m=p.phis.length-i∧i≤p.phis.length∧H1=H∧lk 2 e1=.c (.pp p.cells)∧lk 3 e1=.c (.pp p.cells)∧lk 5 e1=.c (.int .i64 i)) p.phis.length ?_ ?_))
 ·exact⟨0,by omega,by omega,rfl,rfl,rfl,rfl⟩
 ·rintro m e1 H1 ⟨i,hm,hi,rfl,l2,l3,l5⟩;simp only[BlkD.cells]at l2 l3;refine Q5 ?_;refine Qa ?_;simp only[go_sem,l2,l3,l5,Qbr];try intro _
  refine Qg (Qc rfl ?_ ?_)
  ·intro hc;have hlt:i<p.phis.length:=by simpa using hc
   obtain⟨x,hx⟩:∃x,p.phis[i]=x:=⟨_,rfl⟩;refine Qf ?_;try simp only[go_sem]
   refine Qg (Qe ?_);refine Qaf ?_;simp only[go_sem,hlt,Qbr,Qfw _ _ hlt,hx,PhiD.cells,decide_true];refine Qax6 ?_;simp only[go_sem,Qvz];refine Qc rfl ?_ ?_
   ·intro h;simp at h
   intro _;refine Qf ?_;try simp only[go_sem]
   refine Qp ?_;simp only[go_sem];refine⟨Qm (by omega) (by omega),?_⟩;show ∃m,_;exact⟨p.phis.length-(i+1),by omega,i+1,rfl,by omega,rfl,rfl,rfl,rfl⟩
  ·intro hc;refine Q1 ?_;simp only[go_sem,X.next];refine Q5 ?_;refine Qa ?_;simp only[go_sem];refine Qg (Qe (Q2 (fun m e1 H2=>∃(i:Nat),m=p.ins.length-i∧i≤p.ins.length∧Kn H1 H2 [] []∧lk 2 e1=.c (.pp p.cells)∧lk 3 e1=.c (.pp p.cells)∧lk 6 e1=.c (.int .i64 i)) p.ins.length ?_ ?_))
   ·exact⟨0,by omega,by omega,.start0 H1,rfl,rfl,rfl⟩
   ·clear l2 l3 l5;rintro m e1 H2 ⟨i,hm,hi,kn,l2,l3,l6⟩;simp only[BlkD.cells]at l2 l3;refine Q5 ?_;refine Qa ?_;simp only[go_sem,l2,l3,l6,Qco];try intro _
    refine Qg (Qc rfl ?_ ?_)
    ·intro hc;have hlt:i<p.ins.length:=(by simpa using hc);obtain⟨x,hx⟩:∃x,p.ins[i]=x:=⟨_,rfl⟩;refine Qf ?_;try simp only[go_sem]
     refine Qg (Qe ?_);refine Qa ?_;simp only[go_sem,hlt,Qco,Qnp _ _ hlt,hx,InsD.cells];intro x7 hx7 H3 h3;have kn:=kn.al hx7 h3;have hx7:=kn.l 0 rfl;simp only[go_sem,Qv0,hx7];intro H4 h4;have kn:Kn H1 H4 [] [(x7,.st x.cells)]:=kn.stL 0 rfl h4;refine Qa ?_;simp only[go_sem,hlt,Qco,Qnp _ _ hlt,hx,InsD.cells];intro x8 hx8 H5 h5;have kn:=kn.al hx8 h5;have hx8:=kn.l 1 rfl;simp only[go_sem,Qv1,hx8];intro H6 h6;have kn:Kn H1 H6 [] [(x7,.st x.cells),(x8,.st x.cells)]:=kn.stL 1 rfl h6;have hx7:H6 x7=.st x.cells:=kn.l 0 rfl;have hx8:H6 x8=.st x.cells:=kn.l 1 rfl;refine Qa ?_;simp only[go_sem,hx7,hx8,InsD.cells,decide_true];refine Qax6 ?_;simp only[go_sem,Qv2];refine Qc rfl ?_ ?_
     ·intro h;simp at h
     intro _;refine Qf ?_;try simp only[go_sem]
     refine Qp ?_;simp only[go_sem];refine⟨Qm (by omega) (by omega),?_⟩;show ∃m,_;exact⟨p.ins.length-(i+1),by omega,i+1,rfl,by omega,Kn.drop (A:=[]) (B:=[(x7,_),(x8,_)]) kn,rfl,rfl,rfl⟩
    ·intro hc;refine Q1 ?_;simp only[go_sem,X.next];refine Qa ?_;simp only[go_sem];refine Qi ?_;simp only[go_sem,Qq,Q7,Qpr,Ja,forall_eq,RS.op];exact⟨_,.c _ _ (Qd rfl),hK _ kn.fin⟩
theorem Qa1j {p:CodeD}(hK:∀H',Upd H H' []→K (.c (.bool true)) H'):Qj prog Qtb [.ag p.cells,.ag p.cells] H K:=by
 refine Qn ?_;refine Qb Qad Qa15 ?_;refine Qa ?_;simp only[go_sem,CodeD.cells];refine Q5 ?_;refine Qa ?_;simp only[go_sem,Qal,decide_true];intro hl;try intro _
 simp only[LIM]at hl;refine Qg (Qc rfl ?_ ?_)
 ·intro h;simp at h
 intro _;refine Qf ?_;try simp only[go_sem]
 refine Q5 ?_;refine Qa ?_;simp only[go_sem];refine Qg (Qe (Q2 (fun m e1 H1=>∃(i:Nat),m=p.blocks.length-i∧i≤p.blocks.length∧Kn H H1 [] []∧lk 2 e1=.c (.pp [.int .i64 p.params,.int .i64 p.regs,.sl false 5 (Qap p.blocks)])∧lk 3 e1=.c (.pp [.int .i64 p.params,.int .i64 p.regs,.sl false 5 (Qap p.blocks)])∧lk 5 e1=.c (.int .i64 i)) p.blocks.length ?_ ?_))
 ·exact⟨0,by omega,by omega,.start0 H,rfl,rfl,rfl⟩
 ·rintro m e1 H1 ⟨i,hm,hi,kn,l2,l3,l5⟩;refine Q5 ?_;refine Qa ?_;simp only[go_sem,l2,l3,l5,Qal];try intro _
  refine Qg (Qc rfl ?_ ?_)
  ·intro hc;have hlt:i<p.blocks.length:=by simpa using hc
   obtain⟨x,hx⟩:∃x,p.blocks[i]=x:=⟨_,rfl⟩;refine Qf ?_;try simp only[go_sem]
   refine Qg (Qe ?_);refine Qaf ?_;simp only[go_sem,hlt,Qal,Qdf _ _ hlt,hx,BlkD.cells];refine Qax7 (p:=x) fun H2 hu=>?_;have kn:=kn.call0 hu;simp only[go_sem,Q18];refine Qc rfl ?_ ?_
   ·intro h;simp at h
   intro _;refine Qf ?_;try simp only[go_sem]
   refine Qp ?_;simp only[go_sem];refine⟨Qm (by omega) (by omega),?_⟩;show ∃m,_;exact⟨p.blocks.length-(i+1),by omega,i+1,rfl,by omega,kn,rfl,rfl,rfl⟩
  ·intro hc;refine Q1 ?_;simp only[go_sem,X.next];refine Qa ?_;simp only[go_sem];refine Qi ?_;simp only[go_sem,Qq,Q7,Qpr,Ja,forall_eq,RS.op];exact⟨_,.c _ _ (Qd rfl),hK _ kn.fin⟩
theorem Qnk {f g:Bool}{cs:List CodeD}(hK:∀H',Upd H H' []→K (.c (.bool true)) H'):Qj prog Qhf [.ag [.sl f 3 (Qy cs)],.ag [.sl g 3 (Qy cs)]] H K:=by
 refine Qn ?_;refine Qb Qad Qasj ?_;refine Qa ?_;simp only[go_sem];refine Q5 ?_;refine Qa ?_;simp only[go_sem,Qae,decide_true];intro hl;try intro _
 simp only[LIM]at hl;refine Qg (Qc rfl ?_ ?_)
 ·intro h;simp at h
 intro _;refine Qf ?_;try simp only[go_sem]
 refine Q5 ?_;refine Qa ?_;simp only[go_sem];refine Qg (Qe (Q2 (fun m e1 H1=>∃(i:Nat),m=cs.length-i∧i≤cs.length∧Kn H H1 [] []∧lk 2 e1=.c (.pp [.sl f 3 (Qy cs)])∧lk 3 e1=.c (.pp [.sl g 3 (Qy cs)])∧lk 5 e1=.c (.int .i64 i)) cs.length ?_ ?_))
 ·exact⟨0,by omega,by omega,.start0 H,rfl,rfl,rfl⟩
 ·rintro m e1 H1 ⟨i,hm,hi,kn,l2,l3,l5⟩;refine Q5 ?_;refine Qa ?_;simp only[go_sem,l2,l3,l5,Qae];try intro _
  refine Qg (Qc rfl ?_ ?_)
  ·intro hc;have hlt:i<cs.length:=by simpa using hc
   obtain⟨x,hx⟩:∃x,cs[i]=x:=⟨_,rfl⟩;refine Qf ?_;try simp only[go_sem]
   refine Qg (Qe ?_);refine Qaf ?_;simp only[go_sem,hlt,Qae,Qbe _ _ hlt,hx,CodeD.cells];refine Qa1j (p:=x) fun H2 hu=>?_;have kn:=kn.call0 hu;simp only[go_sem,Qsl];refine Qc rfl ?_ ?_
   ·intro h;simp at h
   intro _;refine Qf ?_;try simp only[go_sem]
   refine Qp ?_;simp only[go_sem];refine⟨Qm (by omega) (by omega),?_⟩;show ∃m,_;exact⟨cs.length-(i+1),by omega,i+1,rfl,by omega,kn,rfl,rfl,rfl⟩
  ·intro hc;refine Q1 ?_;simp only[go_sem,X.next];refine Qa ?_;simp only[go_sem];refine Qi ?_;simp only[go_sem,Qq,Q7,Qpr,Ja,forall_eq,RS.op];exact⟨_,.c _ _ (Qd rfl),hK _ kn.fin⟩
end Go.AE.Y
namespace Go.AE.Y
attribute [local go_sem] cond_true cond_false Bool.not_true Bool.not_false
open Go.Proofs.Tryz
variable {H:Heap}{K:V→Heap→Prop}
attribute [local instance] Classical.propDecidable
def Qbuh (x:InsD):Option Nat:=if Qaf4 x.op then some x.to.toNat else none
def toN (l:List Int):List Nat:=l.map Int.toNat
def Qbub (q:CodeD)(b m:Nat):List Nat:=(((q.blocks[m]?.map BlkD.phis).getD []).map fun p=>(p.args.getD ((Qc5 (gnx q) (m:Int) q.blocks.length).idxOf (b:Int)) 0).toNat)
def Qbud (q:CodeD):Flo where
 n:=q.blocks.length
 nx b:=nxN (gnx q) b
 on b:=match q.blocks[b]? with
  |some y=>if y.jump=1 then []else [y.on.toNat]
  |none=>[]
 ins b:=match q.blocks[b]? with
  |some y=>y.ins.map fun x=>(Qbuh x,toN x.args)
  |none=>[]
 ph b:=match q.blocks[b]? with
  |some y=>y.phis.map fun p=>p.to.toNat
  |none=>[]
 ea:=Qbub q
def rIn (q:CodeD)(v:Int):Prop:=0≤v∧v<q.regs
structure BlkD.ok (q:CodeD)(b:Nat)(y:BlkD):Prop where
 nxl:y.next.length≤2
 nx:∀v∈y.next,1≤v∧v<q.blocks.length
 jmp:y.jump=1∨y.jump=2∨y.jump=3
 on:¬y.jump=1→rIn q y.on
 args:∀x∈y.ins,∀v∈x.args,rIn q v
 to:∀x∈y.ins,Qaf4 x.op=true→rIn q x.to
 pto:∀p∈y.phis,rIn q p.to
 pargs:∀p∈y.phis,∀v∈p.args,rIn q v
 pal:∀p∈y.phis,p.args.length=(Qc5 (gnx q) (b:Int) q.blocks.length).length
 al:∀x∈y.ins,x.args.length≤3
structure CodeD.ok (q:CodeD):Prop where
 r0:0≤q.regs
 r1:q.regs≤300
 b0:0<q.blocks.length
 b1:q.blocks.length≤160
 bs:∀(b:Nat) (h:b<q.blocks.length),q.blocks[b].ok q b
 il:∀(b:Nat) (h:b<q.blocks.length),q.blocks[b].ins.length≤1200∧q.blocks[b].phis.length≤1200
variable {q:CodeD}
theorem Qbsj {b:Nat}(h:b<q.blocks.length):gnx q b=q.blocks[b].next:=by simp[gnx,Jm,h]
theorem CodeD.ok.next (h:q.ok){b m:Nat}(hb:b<q.blocks.length)(hm:m∈(Qbud q).nx b):m<q.blocks.length∧(m:Int)∈gnx q b:=by
 obtain⟨v,hv,rfl⟩:=Jw.1 hm;have hv':=hv;rw[Qbsj hb]at hv';have:=(h.bs b hb).nx v hv';refine⟨by omega,?_⟩;have e:((v.toNat:Nat):Int)=v:=by omega
 rw[e];exact hv
theorem IsIx.idx {ns:List Int}{v r:Int}(h:IsIx ns v r)(hm:v∈ns):r=(ns.idxOf v:Nat):=by
 rcases h with ⟨_,hn⟩|⟨i,rfl,h1,h2,h3⟩
 ·exact absurd hm hn
 ·have h4:ns[i]=v:=by rw[←h2,Jm,Jao h1];rfl
  have h5:ns.idxOf v=i:=by
   have e:ns=ns.take i++ns[i]::ns.drop (i+1):=by rw[←List.drop_eq_getElem_cons h1,Jae]
   rw[e,List.idxOf_append,if_neg h3,h4];simp[Jt];omega
  rw[h5]
end Go.AE.Y
namespace Go.AE.Y
attribute [local go_sem] cond_true cond_false Bool.not_true Bool.not_false
open Go.Proofs.Tryz
variable {H H0:Heap}{K:V→Heap→Prop}{fns:List Fn}
theorem Qar0 {fl:Bool}{l:List Fn}{f:Nat}{caps:List C}{p:Fn→Bool}
  (hf:∀(x:Fn) (H1:Heap) (K':V→Heap→Prop),x∈l→Kn H H1 [] []→(∀H2,Upd H1 H2 []→K' (.c (.bool (p x))) H2)→Qj prog f ([.ag x.cells]++caps.map .c) H1 K')
  (hK:∀(r:Int) (H':Heap),Upd H H' []→decide (0≤r)=l.any p→K (.c (.int .i64 r)) H') :
  Qj prog Qcm [.c (.sl fl 3 (Q3 l)),.c (.fn f caps)] H K:=by
 refine Qn ?_;refine Qb Qad Qq3 ?_;refine Qa ?_;simp only[go_sem];refine Q5 ?_;refine Qa ?_;simp only[go_sem,Qx];intro hl;simp only[LIM]at hl;refine Qg (Qe (Q2 (fun m e1 H1=>∃(i:Nat),m=l.length-i∧i≤l.length∧Kn H H1 [] []∧(∀x∈l.take i,p x=false)∧e1=[(0,.c (.sl fl 3 (Q3 l))),(1,.c (.fn f caps)),(7,.c (.int .i64 l.length)),(8,.c (.int .i64 i))]) l.length ?_ ?_))
 ·exact⟨0,by omega,by omega,Kn.start0 H,by simp,rfl⟩
 ·rintro m e1 H1 ⟨i,hm,hi,kn,hall,rfl⟩;refine Qa ?_;simp only[go_sem];refine Qg (Qc rfl ?_ ?_)
  ·intro hc;have hlt:i<l.length:=by simpa using hc
   refine Qf ?_;simp only[go_sem];refine Qg (Qe ?_);refine Qa ?_;simp only[go_sem];refine Qa ?_;simp only[go_sem,hlt,Qx,Qat _ _ hlt,Fn.take3,Fn.allOw,Fn.cells_len];refine hf _ _ _ (Jk hlt) kn fun H2 hu=>?_;have kn:=kn.call0 hu;refine Qc rfl ?_ ?_
   ·intro hc2;refine Qa ?_;simp only[go_sem];refine Qi ?_;simp only[go_sem,X.next,Qq,Q7,Qpr,Ja,forall_eq,RS.op];refine⟨_,.c _ _ (Qd rfl),hK _ _ kn.fin ?_⟩;have:l.any p=true:=Ja5.2 ⟨_,Jk hlt,hc2⟩;rw[this];simp
   ·intro hc2;refine Qf ?_;simp only[go_sem];refine Qp ?_;simp only[go_sem,X.next];refine⟨Qm (by omega) (by omega),l.length-(i+1),by omega,i+1,rfl,by omega,kn,?_,rfl⟩;rw[Jf hlt];intro x hx;rcases Je.1 hx with hx|hx
    ·exact hall x hx
    ·simp only[Ja]at hx;subst hx;exact hc2
  ·intro hc;have hge:l.length≤i:=by simpa using hc
   rw[Jo hge]at hall;refine Q1 ?_;simp only[go_sem,X.next];refine Qa ?_;simp only[go_sem];refine Qi ?_;simp only[go_sem,Qq,Q7,Qpr,Ja,forall_eq,RS.op];refine⟨_,.c _ _ (Qd rfl),hK _ _ kn.fin ?_⟩;have:l.any p=false:=by
    cases hc:l.any p with
    |false=>rfl
    |true=>obtain⟨x,hx,hp⟩:=Ja5.1 hc;rw[hall x hx]at hp;exact absurd hp (by simp)
   rw[this];rfl
theorem Qahr {fl:Bool}{l:List Fn}{f:Nat}{caps:List C}{p:Fn→Bool}
  (hf:∀(x:Fn) (H1:Heap) (K':V→Heap→Prop),x∈l→Kn H H1 [] []→(∀H2,Upd H1 H2 []→K' (.c (.bool (p x))) H2)→Qj prog f ([.ag x.cells]++caps.map .c) H1 K')
  (hK:∀(H':Heap),Upd H H' []→K (.c (.bool (l.any p))) H') :
  Qj prog Qed [.c (.sl fl 3 (Q3 l)),.c (.fn f caps)] H K:=by
 refine Qb Qad Q4g ?_;refine Qa ?_;simp only[go_sem];refine Qa ?_;simp only[go_sem];refine Qar0 hf fun r H' hu hr=>?_;simp only[go_sem,Qh3];refine Qi ?_;simp only[go_sem,Qq,Q7,Qpr,Ja,forall_eq,RS.op];rw[hr];exact hK _ hu
def fewB (fns:List Fn):Bool:=fns.all fun f=>!decide (26<f.params.length+Qu f.body)
theorem fewB_iff {fns:List Fn}:fewB fns=true↔few fns:=by
 rw[fewB,few,List.all_eq_true];exact forall_congr' fun f=>imp_congr_right fun _=>by simp
def renB (fns:List Fn):Bool:=Qak3 fns&&fewB fns
def renP (fns:List Fn):List Fn:=if renB fns=true then fns.map Fn.ren else []
theorem Qbcl {fl:Bool}(hf:Qs fns≤2^36)(g:GK H)(hK:∀H',Upd H H' []→K (.tup [.ag [.sl false 3 (Q3 (renP fns))],.c (.bool (renB fns))]) H') :
  Qj prog Qfr [.ag [.sl fl 3 (Q3 fns)]] H K:=by
 refine Qn ?_;have g0:=g;refine Qb Qad Qaa8 ?_;refine Qa ?_;simp only[go_sem];intro x2 hx2 H1 h1;have kn:=(Kn.start0 H).al hx2 h1;have g:=g0.kn kn;simp only[go_sem,Qj9];have bad:∀(e:Env) (H':Heap),renB fns=false→Kn H H' [] [(x2,.st [.sl true 3 []])]→lk 2 e=.c (.ptr x2 0)→lk 3 e=.c (.bool false)→Qq Qet (unK H K) .ret e H':=by
  intro e H' hr kn l2 l3;have g2:=kn.l 0 rfl;simp only[go_sem,AE.X.next,Qq,Q7,Qet,Jav,J6,RS.op,l2,l3,g2];have:=hK _ kn.fin;rw[renP,hr]at this;exact⟨fun _=>trivial,_,Q38 (by simp) false,this⟩
 have back:∀(H':Heap) (x:V),renB fns=false→Kn H H' [] [(x2,.st [.sl true 3 []])]→Q8 prog (s_im_RenameProgram_4.seq Ql8) (Qq Qet (unK H K)) [(1,x),(2,.c (.ptr x2 0)),(11,.c (.bool true))] H':=by
  intro H' x hr kn;have g2:=kn.l 0 rfl;refine Qg (Qc rfl (fun _=>?_) (fun h=>by simp[lk]at h));refine Qa ?_;simp only[go_sem,g2];intro H3 h3;have kn:=kn.stL 0 rfl h3;simp only[go_sem,Qka];refine Qi ?_;exact bad _ _ hr kn rfl rfl
 refine Q5 ?_;refine Qa ?_;simp only[go_sem];refine Qbav (by omega) g fun H2 hu=>?_;have kn:=kn.call0 hu;have g:=g0.kn kn;have g2:=kn.l 0 rfl
 cases hb:Qak3 fns with
 |false=>
  simp only[go_sem,Qel,Qcr];exact back _ _ (by rw[renB,hb];rfl) kn
 |true=>
  have hp:=fine_iff.1 hb;simp only[go_sem,Qel];refine Qahr (caps:=[]) (p:=fun f=>decide (26<f.params.length+Qu f.body)) (fun x H1 K' hx _ hK'=>?_) fun H3 hu=>?_
  ·obtain⟨k,hk,rfl⟩:=Jah.1 hx;obtain⟨z1,z2,z3⟩:=hp.sizes k hk;exact c1_c (by omega) z3 hK'
  have kn:=kn.call0 hu;have g2:=kn.l 0 rfl;have hfe:(fns.any fun f=>decide (26<f.params.length+Qu f.body)) = !fewB fns:=by
   rw[fewB,List.not_all_eq_any_not];simp
  rw[hfe]
  cases hw:fewB fns with
  |false=>
   simp only[go_sem,Qcr];exact back _ _ (by rw[renB,hb,hw];rfl) kn
  |true=>
   have hr:renB fns=true:=by rw[renB,hb,hw];rfl
   have hfw:=fewB_iff.1 hw;rw[hr,renP,if_pos hr]at hK;simp only[go_sem,Qcr];refine Qg (Qc rfl (fun h=>by simp[lk]at h) (fun _=>?_));refine Qf ?_;try simp only[go_sem]
   refine Qa ?_;simp only[go_sem];refine Qbq2 (g:=Fn.ren) (caps:=[]) (fun x hx H1 K' hK'=>?_) fun H4 hu=>?_
   ·obtain⟨k,hk,rfl⟩:=Jah.1 hx;obtain⟨z1,z2,z3⟩:=hp.sizes k hk;exact Qbs3 z3 (hfw _ hx) hK'
   have kn:=kn.call0 hu;have g2:=kn.l 0 rfl;simp only[go_sem,Qkc,g2];intro H5 h5;have kn:=kn.stL 0 rfl h5;have g2:=kn.l 0 rfl;simp only[go_sem,Qkb];refine Qi ?_;simp only[go_sem,AE.X.next,Qq,Q7,Qet,Jav,J6,RS.op,g2];exact⟨fun _=>trivial,_,Q38 (Qc3 _) true,hK _ kn.fin⟩
end Go.AE.Y
namespace Go.AE.Y
attribute [local go_sem] cond_true cond_false Bool.not_true Bool.not_false
attribute [local instance] Classical.propDecidable
open Go.Proofs.Tryz
variable {H:Heap}{K:V→Heap→Prop}{bs:List UInt8}
theorem Qbgz {fns:List Fn}(h:FineP fns):Qs fns≤2^36:=by
 have h1:=Q78 (m:=4000) (l:=fns) fun f hf=>by
  obtain⟨k,hk,rfl⟩:=Jah.1 hf;exact (h.sizes k hk).1
 have h2:=Nat.mul_le_mul_right (4000+1) h.len.2;omega
theorem Qbnc {fns:List Fn}(hl:lowB fns=true)(hr:renB fns=true):Qs (renP fns)≤2^36∧lowB (renP fns)=true∧lowP (renP fns)=lowP fns:=by
 have hP:lowP fns=Qbd (-1) fns:=by rw[lowP,if_pos hl]
 rw[lowB,Jaf]at hl;have hf:=fine_iff.1 hl.1;have hrr:=hr;rw[renB,Jaf]at hr;have hw:=fewB_iff.1 hr.2;have hf2:=Qbnb hf hw;have hlow:=Qbq9 hf hw (-1) (-1);have hg:lowB (fns.map Fn.ren)=true:=by
  rw[lowB,Jaf];exact⟨fine_iff.2 hf2,by rw[hlow];exact hl.2⟩
 rw[renP,if_pos hrr];exact⟨Qbgz hf2,hg,by rw[hP,lowP,if_pos hg];exact hlow⟩
theorem FnLowerNames_c (g:GK H)(hK:∀H',K (.c (.bool true)) H'):Qj prog Qpg [.c (.sl false 1 (Qcu bs))] H K:=by
 have g0:=g;refine Qb Qad Qadr ?_;have retT':∀(e:Env) (H':Heap),lk 2 e=.c (.bool true)→Qq Qfh K .ret e H':=by
  intro e H' h2;simp only[go_sem,Qq,Q7,Qfh,Ja,forall_eq,RS.op,h2];exact hK H'
 refine Qa ?_;simp only[go_sem];refine Q5 ?_;refine Qa ?_;simp only[go_sem,Qca];intro _;refine Qg (Qc rfl (fun hc=>?_) (fun hc=>?_))
 ·refine Qa ?_;simp only[go_sem];refine Qi ?_;exact retT' _ _ rfl
 refine Qf ?_;try simp only[go_sem]
 refine Qa ?_;simp only[go_sem];refine Qaat fun fns H1 hu hsz=>?_;have kn:=(Kn.start0 H).call0 hu;simp only[go_sem,Qmo];intro x3 hx3 H2 h2;have kn:=kn.al hx3 h2;have hx3:=kn.l 0 rfl;simp only[go_sem,Qmn,hx3];intro H3 h3;have kn:Kn H H3 [] [(x3,.st [.sl false 3 (Q3 fns)])]:=kn.stL 0 rfl h3;have hx3:=kn.l 0 rfl;refine Qa ?_;simp only[go_sem,hx3];refine Qa1d hsz (g0.kn kn) fun H4 hu hfit=>?_;have kn:=kn.call0 hu;simp only[go_sem,Qmr,J2,J1];intro x4 hx4 H5 h5;have kn:=kn.al hx4 h5;have hx4:=kn.l 1 rfl;simp only[go_sem,Qmq,hx4];intro H6 h6;have kn:Kn H H6 [] [(x3,.st [.sl false 3 (Q3 fns)]),(x4,.st [.sl false 3 (Qy (lowP fns))])]:=kn.stL 1 rfl h6;have hx3:=kn.l 0 rfl;simp only[go_sem,Qmp];refine Qa ?_;simp only[go_sem,hx3];refine Qbkn hsz fun H7 hu _=>?_;have kn:=kn.call0 hu;simp only[go_sem,Qmu,J2,J1];intro x6 hx6 H8 h8;have kn:=kn.al hx6 h8;have hx6:=kn.l 2 rfl;simp only[go_sem,Qmt,hx6];intro H9 h9;have kn:Kn H H9 [] [(x3,.st [.sl false 3 (Q3 fns)]),(x4,.st [.sl false 3 (Qy (lowP fns))]),(x6,.st [.sl false 3 (Qy (lowP fns))])]:=kn.stL 2 rfl h9;have hx3:=kn.l 0 rfl;simp only[go_sem,Qms];refine Qa ?_;simp only[go_sem,hx3];refine Qbcl hsz (g0.kn kn) fun H10 hu=>?_;have kn:=kn.call0 hu;simp only[go_sem,Qku,J2,J1];intro x8 hx8 H11 h11;have kn:=kn.al hx8 h11;have hx8:=kn.l 3 rfl;simp only[go_sem,Qkt,hx8];intro H12 h12;have kn:Kn H H12 [] [(x3,.st [.sl false 3 (Q3 fns)]),(x4,.st [.sl false 3 (Qy (lowP fns))]),(x6,.st [.sl false 3 (Qy (lowP fns))]),(x8,.st [.sl false 3 (Q3 (renP fns))])]:=kn.stL 3 rfl h12;have hx4:=kn.l 1 rfl;have hx6:=kn.l 2 rfl;have hx8:=kn.l 3 rfl;simp only[go_sem,Qmv];refine Q5 ?_;have back:∀(b:Bool) (H':Heap),Kn H H' [] [(x3,.st [.sl false 3 (Q3 fns)]),(x4,.st [.sl false 3 (Qy (lowP fns))]),(x6,.st [.sl false 3 (Qy (lowP fns))]),(x8,.st [.sl false 3 (Q3 (renP fns))])]→
   Q8 prog (.seq Qml Qmm) (Qq Qfh K) [(4,.c (.ptr x4 0)),(5,.c (.bool b)),(6,.c (.ptr x6 0)),(7,.c (.bool b)),(8,.c (.ptr x8 0)),(48,.c (.bool true))] H':=by
  intro b H' kn;have hx4:=kn.l 1 rfl;have hx6:=kn.l 2 rfl;refine Qg (Qc rfl (fun _=>?_) (fun h=>by simp[lk]at h));refine Qa ?_;simp only[go_sem,hx4,hx6];have hbb:(b == b)=true:=by simp
  try simp only[go_sem,hbb]
  refine Qnk fun H11 hu=>?_;simp only[go_sem,Qkv];refine Qi ?_;exact retT' _ _ rfl
 cases hg:lowB fns with
 |false=>
  refine Qa ?_;simp only[go_sem,hx4,hx6];refine Qnk fun H13 hu=>?_;have kn:=kn.call0 hu;simp only[go_sem,Qcs];exact back false _ kn
 |true=>
  cases hr:renB fns with
  |false=>
   refine Qa ?_;simp only[go_sem,hx4,hx6];refine Qnk fun H13 hu=>?_;have kn:=kn.call0 hu;simp only[go_sem,Qcs];exact back true _ kn
  |true=>
   obtain⟨r1,r2,r3⟩:=Qbnc hg hr;refine Qa ?_;simp only[go_sem,hx4,hx6];refine Qnk fun H13 hu=>?_;have kn:=kn.call0 hu;have hx8:=kn.l 3 rfl;simp only[go_sem,Qcs];refine Qg (Qc rfl (fun h=>by simp[lk]at h) (fun _=>?_));refine Qf ?_;try simp only[go_sem]
   refine Qa ?_;simp only[go_sem,hx8];refine Qa1d r1 (g0.kn kn) fun H14 hu _=>?_;rw[r2,r3];have kn:=kn.call0 hu;simp only[go_sem,Qky,J2,J1];intro x10 hx10 H15 h15;have kn:=kn.al hx10 h15;have hx10:=kn.l 4 rfl;simp only[go_sem,Qkx,hx10];intro H16 h16;have kn:Kn H H16 [] [(x3,.st [.sl false 3 (Q3 fns)]),(x4,.st [.sl false 3 (Qy (lowP fns))]),(x6,.st [.sl false 3 (Qy (lowP fns))]),(x8,.st [.sl false 3 (Q3 (renP fns))]),(x10,.st [.sl false 3 (Qy (lowP fns))])]:=kn.stL 4 rfl h16;have hx4:=kn.l 1 rfl;have hx10:=kn.l 4 rfl;simp only[go_sem,Qkw];refine Qa ?_;simp only[go_sem,hx4,hx10];refine Qax2 fun H17 hu=>?_;simp only[go_sem,Qkz];refine Qi ?_;exact retT' _ _ rfl
end Go.AE.Y
namespace Go.AE.Y
open Go.ChangeShapes Go.WideShapes Go.ChangeAt Go.RowKit
def Qbgb (w:World)(a:Option Addr)(len cap:Nat)(zs:List Int):Prop:=
 (a=none∧len=0∧cap=0∧zs=[])∨
 ∃x,a=some x∧len≤cap∧zs.length=cap∧(∀i,i<zs.length→w.cell? (x.add i)=some (.int .u8 (zs.getD i 0)))∧∀n∈zs,(Lit.int .u8 n).wf=true
theorem Qbpk {n:Int}(h:(Lit.int .u8 n).wf=true):((UInt8.ofNat n.toNat).toNat:Int)=n:=by
 simp only[Lit.wf,Jaf,decide_eq_true_eq]at h;have a1:IntKind.min .u8=0:=by decide
 have a2:IntKind.max .u8=255:=by decide
 rw[a1,a2]at h;rw[UInt8.toNat_ofNat'];omega
theorem Qaks {P:Program}{f:Nat}{H0:Heap}{g0:G}(h:∀bs:List UInt8,bs.length≤1048576→Qj P f [.c (.sl false 1 (Qcu bs))] H0 fun v _=>v=.c (.bool true))
  {a0:Option Addr} {len0 cap0:Nat} {z0:List Int} {w:World} (hg:∀b,b<w.heap.size→g0.per b=true) (hs:Sat H0 g0 w) (hr:Qbgb w a0 len0 cap0 z0) (hl:len0≤1048576) :
  Calls P f #[.slice a0 len0 cap0] w fun e w'=>e=.returned (.bool true)∧Below w.heap.size w w':=by
 have key:∃bs:List UInt8,bs.length=len0∧RepC w g0 (.sl false 1 (Qcu bs)) (.slice a0 len0 cap0):=by
  rcases hr with ⟨rfl,rfl,rfl,rfl⟩|⟨x,rfl,hlc,hz,hcell,hwf⟩
  ·exact⟨[],rfl,.slnil _ _ _⟩
  ·obtain⟨b,off,spot⟩:=x;have hbl:((z0.take len0).map fun n=>UInt8.ofNat n.toNat).length=len0:=by simp;omega
   by_cases h0:cap0=0
   ·subst h0;have:len0=0:=(by omega);subst this;exact⟨[],rfl,.slnil _ _ _⟩
   have hc0:=hcell 0 (by omega);have hspot:spot=none:=by simpa[Addr.add]using World.cell?_spot hc0
   subst hspot;have hadd:∀i,(⟨b,off,none⟩:Addr).add i=⟨b,off+i,none⟩:=by
    intro i;by_cases h:i=0 <;> simp[Addr.add,h]
   have hb:b<w.heap.size:=by
    rcases Jat b w.heap.size with h|h
    ·exact h
    ·simp[World.cell?,Addr.add,Jaa h]at hc0
   refine⟨_,hbl,?_⟩;have hget:∀(i:Nat) (row:List C),(Qcu ((z0.take len0).map fun n=>UInt8.ofNat n.toNat))[i]? = some row→i<len0∧row=[.int .u8 (z0.getD i 0)]:=by
    intro i row hi;have hlt:i<len0:=by
     rcases Jat i len0 with h|h
     ·exact h
     ·rw[J5 (by rw[Qca];omega)]at hi;simp at hi
    have hz0:i<z0.length:=(by omega);refine⟨hlt,?_⟩;simp only[Qcu,Jq,List.getElem?_take,if_pos hlt,Jao hz0,Jau,Ja4]at hi;rw[←hi,Qbpk (hwf _ (Jk hz0))];simp[Jm,hz0]
   have:=RepC.sl (w:=w) (g:=g0) false 1 (Qcu ((z0.take len0).map fun n=>UInt8.ofNat n.toNat)) b off cap0 (fun i _=>.int .u8 (z0.getD i 0))
    (by rw[Qca,hbl];simp only[LIM];omega) (by simp) (by rw[Qca,hbl];exact hlc) (hg _ hb)
    (fun i row hi=>by rw[(hget i row hi).2];rfl)
    (fun i row j c hi hj=>by
     obtain⟨h1,rfl⟩:=hget i row hi;have hj0:j=0:=by
      rcases J9 j with h|h
      ·exact h
      ·rw[J5 (by simp;omega)]at hj;simp at hj
     subst hj0;have:=hcell i (by omega);rw[hadd]at this;simpa using this)
    (fun i row j c hi hj=>by
     obtain⟨h1,rfl⟩:=hget i row hi;have hj0:j=0:=by
      rcases J9 j with h|h
      ·exact h
      ·rw[J5 (by simp;omega)]at hj;simp at hj
     subst hj0;simp at hj;subst hj;exact .int _ _)
   rw[Qca,hbl]at this;exact this
 obtain⟨bs,hbl,hrep⟩:=key;have hc:=(h bs (by omega)).2 _ w [.slice a0 len0 cap0] hs rfl (fun j x u hj hu=>by
  cases j with
  |zero=>simp at hj hu;subst hj;subst hu;exact .c _ _ hrep
  |succ j=>simp at hj)
 refine hc.mono fun e w'=>?_;rintro (⟨v,x,H',g',rfl,rfl,hst,hv⟩|⟨v,H',g',_,h,_⟩)
 rotate_left
 ·cases h
 have:v=.bool true:=by cases hv with|c _ _ h=>cases h;rfl
 subst this;exact⟨rfl,hst.le.os,hst.le.tape,hst.le.output,hst.le.size,fun k hk=>(hst.le.per k (hg _ hk)).2⟩
def signL:List (Int×List UInt8×Int):=[(3,[43],3),(4,[45],3),(5,[42],4),(6,[47],4),(7,[37],4),(8,[60],2),(9,[61],2),(10,[38],1)]
def kC (t:Int×List UInt8×Int):C:=.int .i64 t.1
def rC (t:Int×List UInt8×Int):List C:=[.str t.2.1,.int .i64 t.2.2]
def kvV (t:Int×List UInt8×Int):Value×Value:=(.int .i64 t.1,.agg #[.string ⟨t.2.1.toArray⟩,.int .i64 t.2.2])
def eC (t:Int×List UInt8×Int):C×V:=(kC t,.ag (rC t))
structure Tabs (w:World):Prop where
 keys:∀(j:Nat) (s:List UInt8),keysL[j]? = some s→w.cell? ⟨Qhg,j,none⟩=some (.string ⟨s.toArray⟩)
 sign:∃b ms clock ts,w.cell? ⟨Qbp,0,none⟩=some (.map (some b))∧w.heap[b]? = some (.map ms clock)∧Go.MapKept.Stamped ms clock∧List.Perm ts signL∧
  ms.toList.map (fun m=>(m.key,m.val))=ts.map kvV
def gh5 (w:World):G:=⟨fun b=>decide (b<w.heap.size),fun _=>none,fun l=>if l=Qhg then some (Qhg,9,0)else if l=Qbp then some (Qbp,1,0)else none⟩
def hp5 (ts:List (Int×List UInt8×Int)):Heap:=fun l=>if l=Qhg then .gl Qhg (keysL.map C.str)else if l=Qbp then .gl Qbp [.cm true (ts.map kC) (ts.map rC)]else .none
theorem Qbci {op:Int}:∀{l1 l2:List (Int×List UInt8×Int)},l1.Perm l2→(l2.map (·.1)).Nodup→Qg0 (.int .i64 op) (l1.map eC)=Qg0 (.int .i64 op) (l2.map eC):=by
 intro l1 l2 hp
 induction hp with
 |nil=>intro _;rfl
 |cons x h ih=>
  intro hn;simp only[Jv,Jas]at hn;simp only[Jv,Qg0,ih hn.2]
 |swap x y l=>
  intro hn;simp only[Jv,Jas,Jh,not_or]at hn;simp only[Jv,Qg0,eC,kC,Qhh,decide_eq_true_eq];by_cases h1:op=y.1
  ·have h2:¬op=x.1:=fun e=>hn.1.1 (e.symm.trans h1);rw[if_pos h1,if_neg h2,if_pos h1]
  ·by_cases h2:op=x.1
   ·rw[if_neg h1,if_pos h2,if_pos h2]
   ·rw[if_neg h1,if_neg h2,if_neg h2,if_neg h1]
 |trans h1 h2 ih1 ih2=>
  intro hn;exact (ih1 ((h2.map _).nodup_iff.2 hn)).trans (ih2 hn)
theorem Qbly {ts:List (Int×List UInt8×Int)}(hp:ts.Perm signL):GK (hp5 ts):=by
 refine⟨rfl,ts.map kC,ts.map rC,rfl,fun op=>?_⟩;have e:((ts.map kC).zip (ts.map rC)).map (fun e=>(e.1,V.ag e.2))=ts.map eC:=by
  rw[List.zip_map',Jan];rfl
 rw[e];refine⟨?_,?_⟩
 ·intro x hx;obtain⟨t,_,rfl⟩:=Jw.1 hx;exact⟨_,rfl⟩
 ·rw[Qbci hp (by decide)];simp only[signL,Jv,Jad,Qg0,eC,kC,rC,Qhh,decide_eq_true_eq,levN];by_cases h3:op=3
  ·subst h3;exact⟨_,rfl⟩
  by_cases h4:op=4
  ·subst h4;exact⟨_,rfl⟩
  by_cases h5:op=5
  ·subst h5;exact⟨_,rfl⟩
  by_cases h6:op=6
  ·subst h6;exact⟨_,rfl⟩
  by_cases h7:op=7
  ·subst h7;exact⟨_,rfl⟩
  by_cases h8:op=8
  ·subst h8;exact⟨_,rfl⟩
  by_cases h9:op=9
  ·subst h9;exact⟨_,rfl⟩
  by_cases h10:op=10
  ·subst h10;exact⟨_,rfl⟩
  exact⟨[],by simp[h3,h4,h5,h6,h7,h8,h9,h10]⟩
theorem Qbf3 {w:World}{ts:List (Int×List UInt8×Int)}{b:Nat}{ms:Array MapEntry}{clock:Nat}(hk:∀(j:Nat) (s:List UInt8),keysL[j]? = some s→w.cell? ⟨Qhg,j,none⟩=some (.string ⟨s.toArray⟩))
  (hc:w.cell? ⟨Qbp,0,none⟩=some (.map (some b))) (hb:w.heap[b]? = some (.map ms clock)) (hst:Go.MapKept.Stamped ms clock) (hp:ts.Perm signL)
  (hm:ms.toList.map (fun m=>(m.key,m.val))=ts.map kvV):Sat (hp5 ts) (gh5 w) w:=by
 have szof:∀{a:Addr} {v:Value},w.cell? a=some v→a.block<w.heap.size:=by
  intro a v h;rcases Jat a.block w.heap.size with h'|h'
  ·exact h'
  ·simp[World.cell?,Jaa h']at h
 have h1:Qhg<w.heap.size:=szof (hk 0 _ rfl);have h2:Qbp<w.heap.size:=szof hc;have h3:b<w.heap.size:=by
  rcases Jat b w.heap.size with h'|h'
  ·exact h'
  ·simp[Jaa h']at hb
 have hlen:ms.size=ts.length:=by
  have:=congrArg List.length hm;simpa using this
 have hl8:ts.length=8:=hp.length_eq;have hget:∀(i:Nat) (m:MapEntry),ms[i]? = some m→∃t,ts[i]? = some t∧t∈signL∧m.key=.int .i64 t.1∧m.val=.agg #[.string ⟨t.2.1.toArray⟩,.int .i64 t.2.2]:=by
  intro i m h;have h':(ms.toList.map (fun m=>(m.key,m.val)))[i]? = some (m.key,m.val):=by
   rw[Jq,Jab,h];rfl
  rw[hm,Jq]at h'
  cases ht:ts[i]? with
  |none=>rw[ht]at h';cases h'
  |some t=>
   rw[ht]at h';simp only[Jau,Ja4,kvV,Prod.mk.injEq]at h';exact⟨t,rfl,(hp.mem_iff).1 (Jai ht),h'.1.symm,h'.2.symm⟩
 refine⟨fun b hb=>⟨by simp[gh5];omega,rfl⟩,⟨3,fun l hl=>by simp only[gh5];rw[if_neg (by simp only[Qhg];omega),if_neg (by simp only[Qbp];omega)]⟩,fun b x h=>by simp[gh5]at h,fun b l p h=>by simp[gh5]at h,fun l=>?_⟩;by_cases e1:l=Qhg
 ·subst e1;refine⟨9,fun j=>.string ⟨(keysL.getD j []).toArray⟩,by simp[gh5],by simpa[gh5]using h1,fun j c h=>?_,fun j c h=>?_⟩
  ·rw[Jq]at h
   cases hs:keysL[j]? with
   |none=>rw[hs]at h;cases h
   |some s=>
    show _=some (Value.string ⟨(keysL.getD j []).toArray⟩);rw[hk j s hs,Jm,hs];rfl
  ·rw[Jq]at h
   cases hs:keysL[j]? with
   |none=>rw[hs]at h;cases h
   |some s=>
    rw[hs]at h;obtain rfl:=J4 h;have hle:s.length≤4:=by
     have:∀s∈keysL,s.length≤4:=(by decide);exact this s (Jai hs)
    show RepC _ _ _ (Value.string ⟨(keysL.getD j []).toArray⟩);rw[Jm,hs];exact .str _ (by simp only[LIM];omega)
 ·by_cases e2:l=Qbp
  ·subst e2;refine⟨1,fun _=>.map (some b),by simp[gh5],by simpa[gh5]using h2,fun j c h=>?_,fun j c h=>?_⟩
   ·obtain rfl:j=0:=by
     rcases J9 j with h'|h'
     ·exact h'
     ·rw[J5 (by simp;omega)]at h;cases h
    exact hc
   ·obtain rfl:j=0:=by
     rcases J9 j with h'|h'
     ·exact h'
     ·rw[J5 (by simp;omega)]at h;cases h
    obtain rfl:=J4 h;obtain⟨_,s2,s3⟩:=hst;refine .cm true (ts.map kC) (ts.map rC) b ms clock (fun i j=>match ts[i]? with|some t=>if j=0 then .string ⟨t.2.1.toArray⟩else .int .i64 t.2.2|none=>.int .i64 0) (by simpa[gh5]using h3) hb (by simpa using hlen) (by simp) (by simp[hl8,LIM]) ?_ ?_ ?_ ?_
    ·intro i j m m' hi hj he;have gi:ms.toList[i]? = some m:=(by rw[Jab];exact hi);have gj:ms.toList[j]? = some m':=(by rw[Jab];exact hj);rcases he with he|he
     ·have:=Ja2 (l:=ms.toList.map (·.born)) (i:=i) (j:=j) (by simpa using (Jal.1 hi).1) s2;exact this.1 (by rw[Jq,Jq,gi,gj];simp[he])
     ·have:=Ja2 (l:=ms.toList.map (·.key)) (i:=i) (j:=j) (by simpa using (Jal.1 hi).1) s3;exact this.1 (by rw[Jq,Jq,gi,gj];simp[he])
    ·intro i row m hr hi;obtain⟨t,ht,_,_,hv⟩:=hget i m hi;rw[Jq,ht]at hr;obtain rfl:=J4 hr;refine⟨?_,fun h=>by cases h⟩;rw[hv];simp[rC,ht,Ja8]
    ·intro i k m hk' hi;obtain⟨t,ht,_,hkey,_⟩:=hget i m hi;rw[Jq,ht]at hk';obtain rfl:=J4 hk';rw[hkey];exact .int _ _
    ·intro i row j c hr hj;rw[Jq]at hr
     cases ht:ts[i]? with
     |none=>rw[ht]at hr;cases hr
     |some t=>
      rw[ht]at hr;obtain rfl:=J4 hr;have hmem:t∈signL:=(hp.mem_iff).1 (Jai ht);have hle:t.2.1.length≤1:=by
       have:∀t∈signL,t.2.1.length≤1:=(by decide);exact this t hmem
      match j,hj with
      |0,hj=>
       obtain rfl:=J4 hj;exact .str _ (by simp only[LIM];omega)
      |1,hj=>
       obtain rfl:=J4 hj;exact .int _ _
      |j+2,hj=>simp[rC]at hj
  ·show SatObj _ _ _ _ (hp5 ts l);rw[hp5,if_neg e1,if_neg e2];trivial
theorem calls_of_acall5 {P:Program}{f:Nat}(h:∀(H:Heap) (bs:List UInt8),GK H→bs.length≤1048576→Qj P f [.c (.sl false 1 (Qcu bs))] H fun v _=>v=.c (.bool true))
  {a0:Option Addr} {len0 cap0:Nat} {z0:List Int} {w:World} (ht:Tabs w) (hr:Qbgb w a0 len0 cap0 z0) (hl:len0≤1048576) :
  Calls P f #[.slice a0 len0 cap0] w fun e w'=>e=.returned (.bool true)∧Below w.heap.size w w':=by
 obtain⟨hk,b,ms,clock,ts,h1,h2,h3,h4,h5⟩:=ht;exact Qaks (g0:=gh5 w) (fun bs hb=>h (hp5 ts) bs (Qbly h4) hb) (fun b hb=>by simpa[gh5]using hb) (Qbf3 hk h1 h2 h3 h4 h5) hr hl
theorem Qalf {H:Type}(x:Lit×DataW H):∀l,(DataW.insert x l).Perm (x::l)
 |[]=>.refl _
 |y::r=>by
  rw[DataW.insert];split
  ·exact .refl _
  ·exact ((Qalf x r).cons y).trans (.swap x y r)
theorem Qawb {H:Type}:∀l:List (Lit×DataW H),(l.foldr DataW.insert []).Perm l
 |[]=>.refl _
 |x::r=>(Qalf x _).trans ((Qawb r).cons x)
def litD (t:Int×List UInt8×Int):Lit×DataW Unit:=(.int .i64 t.1,.agg [.lit (.string t.2.1),.lit (.int .i64 t.2.2)])
def decD:Lit×DataW Unit→Int×List UInt8×Int
 |(.int _ n,.agg [.lit (.string s),.lit (.int _ l)])=>(n,s,l)
 |_=>(0,[],0)
theorem sign_entries {l:List MapEntry}{f:MapEntry→Lit×DataW Unit}(hp:((l.map f).foldr DataW.insert [])=signL.map litD)(hf:∀m∈l,∀t,f m=litD t→(m.key,m.val)=kvV t) :
  ∃ts,List.Perm ts signL∧l.map (fun m=>(m.key,m.val))=ts.map kvV:=by
 have h1:(l.map f).Perm (signL.map litD):=(Qawb _).symm.trans (by rw[hp]);refine⟨(l.map f).map decD,?_,?_⟩
 ·have:=h1.map decD;rw[Jan (g:=decD) (f:=litD)]at this;exact this
 ·rw[Jan,Jan];refine List.map_congr_left fun m hm=>?_;have hmem:f m∈signL.map litD:=(h1.mem_iff).1 (Jw.2 ⟨m,hm,rfl⟩);obtain⟨t,_,ht⟩:=Jw.1 hmem;have e:decD (f m)=t:=by rw[←ht];rfl
  simp only[Function.comp,e];exact hf m hm t ht.symm
end Go.AE.Y
