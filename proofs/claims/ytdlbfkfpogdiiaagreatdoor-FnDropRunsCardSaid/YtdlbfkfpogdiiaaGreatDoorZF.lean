/- Part 6 of the proof: the engine, codes, walks and plain laws, each named where it stands. -/
import Derived.Test.YtdlbfkfpogdiiaaGreatDoorZE
import Derived.Below
import Derived.Defers
import Derived.Laws.Pointers
import Derived.OpenShut
import Derived.ProofKit
import Derived.Recover
import Derived.WideKeyElems2
open Nat (reduceEqDiff reduceAdd reduceLeDiff reduceLT)
set_option linter.unusedVariables false
set_option linter.unusedSimpArgs false
set_option maxRecDepth 4000
set_option maxHeartbeats 8000000
open Array renaming getElem?_eq_none->Jt,getElem?_toList->Jw,getElem?_eq_some_iff->J1
open Bool renaming true_and->J5,and_eq_true->J6,decide_and->Jab,false_and->Jag,false_eq_true->Jaj
open List renaming getElem_cons_zero->Ja,mem_singleton->Jb,getD_cons_zero->Jc,getD_cons_succ->Jd,mem_append_right->Je,getD_eq_getElem?_getD->Jf,getElem?_map->Jg,length_nil->Ji,length_cons->Jj,getElem_cons_succ->Jk,forall_mem_cons->Jm,mem_append_left->Jn,getElem?_eq_none->Jo,map_cons->Jp,mem_map->Jq,drop_eq_getElem_cons->Jr,drop_eq_nil_of_le->Ju,mem_of_getElem?->Jx,length_map->Jz,mem_append->J0,map_map->J2,mem_or_eq_of_mem_set->J3,eq_of_mem_replicate->J4,getElem_mem->J7,not_mem_nil->J8,take_of_length_le->Jaa,contains_iff_mem->Jac,map_congr_left->Jah,getElem?_take->Jak,length_append->Jal,mem_cons->Jam,getElem?_inj->Jan,ext_getElem->Jao,take_length->Jap,length_set->Jar,nodup_cons->Jas,map_nil->Jau,map_set->Jav
open List.cons renaming injEq->Jy
open Nat renaming eq_zero_or_pos->Js,lt_or_ge->Jad,zero_add->Jae,le_refl->Jai,zero_le->Jaw
open Option renaming isSome_none->Jh,getD_none->J9,map_some->Jaf,getD_some->Jaq
open Option.some renaming inj->Jl,injEq->Jv
open Prod.mk renaming injEq->Jat
namespace Go.AE.Y
attribute [local go_sem] cond_true cond_false Bool.not_true Bool.not_false
open Go.Proofs.Tryz
variable {H H' H0:Heap}{K:V→Heap→Prop}{E A B:List (Nat×Obj)}{X:Mn}
def Rdn (Li:List (Nat×Obj))(rows:List (List C))(c:C):Prop:=(Li=[]∧∃fl,c=.sl fl 1 rows)∨Gr Li 1 rows c
theorem Rdn.isOw {Li:List (Nat×Obj)}{rows:List (List C)}{c:C}(h:Rdn Li rows c):c.isOw=false:=by
 rcases h with ⟨_,fl,rfl⟩|h
 ·rfl
 ·exact h.isOw
theorem Rdn.slc {Li L:List (Nat×Obj)}{rows:List (List C)}{c:C}(h:Rdn Li rows c)(kn:Kn H0 H E L)(hm:∀p∈Li,p∈L):Slc H 1 rows c:=by
 rcases h with ⟨_,fl,rfl⟩|h
 ·exact .mk' _ _ _ _
 ·exact h.slcM kn hm
def ExK (X:Mn)(h:Nat):Prop:=∀(x:Ex) (v:Vars) (m:Ms) (r:Rt) (m':Ms) (H0 H:Heap) (E B:List (Nat×Obj)) (a:Ma) (sd:ScD) (K:V→Heap→Prop),
 Ev X.fns X.S h (.ex x v) m r m'→a.m=m→a.ok X→ScD.ok vI sd v→vBy v→Kn H0 H E (X.F a sd B)→
 (∀z a' H',r=.val z→a'.m=m'→a'.ok X→Kn H0 H' E (X.F a' sd B)→K (.c (.int .i64 (z:Nat))) H')→
 (∀(z:Nat) a' H',r=.dn z→a'.m=m'→a'.ok X→Kn H0 H' E (X.F a' [] B)→K (.pn (endV z)) H')→
 Ql prog Qae [.c (.ptr X.l 0),.ag x.cells,.c (scC sd.ls)] H K
def Qbfj (X:Mn)(h:Nat):Prop:=∀(k:Nat) (hk:k<X.fns.length) (ns:List Nat) (m:Ms) (r:Rt) (m':Ms) (H0 H:Heap) (E B Li:List (Nat×Obj)) (a:Ma) (c:C) (K:V→Heap→Prop),
 Ev X.fns X.S h (.call X.fns[k] ns) m r m'→a.m=m→a.ok X→(∀n∈ns,n<256)→ns.length=X.fns[k].params.length→Rdn Li (Qn ns) c→Kn H0 H E (X.F a [] (Li++B))→
 (∀z a' H',r=.val z→a'.m=m'→a'.ok X→Kn H0 H' E (X.F a' [] (Li++B))→K (.c (.int .i64 (z:Nat))) H')→
 (∀(z:Nat) a' H',r=.dn z→a'.m=m'→a'.ok X→Kn H0 H' E (X.F a' [] B)→K (.pn (endV z)) H')→
 Ql prog Qde [.c (.ptr X.l 0),.c (.int .i64 k),.c c] H K
def bkC:Option Nat→C
 |none=>.pnil
 |some n=>.pp [.int .i64 (n:Nat)]
def ScL (n:Nat):ScD→Prop
 |[]=>False
 |x::r=>x.2.2.length+n≤2^37∧∀y∈r,y.2.2.length≤2^37
def lenS (sd:ScD):List Nat:=sd.map fun x=>x.2.2.length
def ScG (k:Nat):ScD→ScD→Prop
 |x::r,x'::r'=>x'.2.2.length≤x.2.2.length+k∧lenS r'=lenS r
 |_,_=>False
theorem ScL.refl {n:Nat}{sd:ScD}(h:ScL n sd):ScG 0 sd sd:=by
 cases sd with
 |nil=>exact h
 |cons x r=>exact⟨Jai _,rfl⟩
theorem ScG.trans {i j:Nat}{a b c:ScD}(h:ScG i a b)(k:ScG j b c):ScG (i+j) a c:=by
 match a,b,c,h,k with
 |_::_,_::_,_::_,h,k=>exact⟨by have:=h.1;have:=k.1;omega,k.2.trans h.2⟩
theorem ScG.mono {i j:Nat}{a b:ScD}(h:ScG i a b)(hij:i≤j):ScG j a b:=by
 match a,b,h with
 |_::_,_::_,h=>exact⟨by have:=h.1;omega,h.2⟩
theorem Qa7a {a b:ScD}(h:lenS b=lenS a)(ha:∀y∈a,y.2.2.length≤2^37):∀y∈b,y.2.2.length≤2^37:=by
 intro y hy;have:y.2.2.length∈lenS b:=Jq.2 ⟨y,hy,rfl⟩;rw[h]at this;obtain⟨z,hz,e⟩:=Jq.1 this;rw[←e];exact ha z hz
theorem ScL.step {n k j:Nat}{a b:ScD}(h:ScL n a)(g:ScG k a b)(hk:k+j≤n):ScL j b:=by
 match a,b,h,g with
 |_::_,_::_,h,g=>exact⟨by have:=h.1;have:=g.1;omega,Qa7a g.2 h.2⟩
theorem ScL.len {n:Nat}{a b:ScD}(h:ScL n a)(e:lenS b=lenS a):ScL n b:=by
 match a,b,h with
 |x::r,[],h=>simp[lenS]at e
 |x::r,y::t,h=>
  simp only[lenS,Jp,Jy]at e;exact⟨by have:=h.1;omega,Qa7a (b:=t) (a:=r) e.2 h.2⟩
theorem ScG.len {k:Nat}{a b c:ScD}(h:ScG k a b)(e:lenS c=lenS b):ScG k a c:=by
 match a,b,c,h with
 |x::r,y::t,[],h=>simp[lenS]at e
 |x::r,y::t,z::u,h=>
  simp only[lenS,Jp,Jy]at e;exact⟨by have:=h.1;omega,by have:=h.2;rw[←this];exact e.2⟩
theorem Qa8d {sd' sd:ScD}{v':Vars}{x:Nat×Nat×List (C×V)}{k:Nat}(hs:ScD.ok vI sd' v')(hl:sd'.ls=ScD.ls (x::sd))(hg:ScG k (x::sd) sd'):∃(x':Nat×Nat×List (C×V)) (t:ScD),sd'=x'::t∧t.ls=sd.ls∧ScD.ok vI t v'.tail∧lenS t=lenS sd:=by
 match sd',v',hs,hg with
 |x'::t,b::v,hs,hg=>
  simp only[ScD.ls,Jp,Jy]at hl;exact⟨x',t,rfl,hl.2,hs.2,hg.2⟩
def BlkK (X:Mn)(h:Nat):Prop:=∀(l:List St) (fl:Bool) (v:Vars) (m:Ms) (r:Rt) (m':Ms) (H0 H:Heap) (E B:List (Nat×Obj)) (a:Ma) (sd:ScD) (K:V→Heap→Prop),
 Ev X.fns X.S h (.blk l v) m r m'→a.m=m→a.ok X→ScD.ok vI sd v→vBy v→ScL l.length sd→Qi l≤2^36→Kn H0 H E (X.F a sd B)→
 (∀b v' a' sd' H',r=.env b v'→a'.m=m'→a'.ok X→ScD.ok vI sd' v'→sd'.ls=sd.ls→ScG l.length sd sd'→Kn H0 H' E (X.F a' sd' B)→K (.c (bkC b)) H')→
 (∀(z:Nat) a' H',r=.dn z→a'.m=m'→a'.ok X→Kn H0 H' E (X.F a' [] B)→K (.pn (endV z)) H')→
 Ql prog Qbc [.c (.ptr X.l 0),.c (.sl fl 5 (Qk l)),.c (scC sd.ls)] H K
def StK (X:Mn)(h:Nat):Prop:=∀(x:St) (v:Vars) (m:Ms) (r:Rt) (m':Ms) (H0 H:Heap) (E B:List (Nat×Obj)) (a:Ma) (sd:ScD) (K:V→Heap→Prop),
 Ev X.fns X.S h (.st x v) m r m'→a.m=m→a.ok X→a.m.s.length<a.m.u→ScD.ok vI sd v→vBy v→ScL 1 sd→x.size≤2^36→Kn H0 H E (X.F a sd B)→
 (∀b v' a' sd' H',r=.env b v'→a'.m=m'→a'.ok X→ScD.ok vI sd' v'→sd'.ls=sd.ls→ScG 1 sd sd'→Kn H0 H' E (X.F a' sd' B)→K (.c (bkC b)) H')→
 (∀(z:Nat) a' H',r=.dn z→a'.m=m'→a'.ok X→Kn H0 H' E (X.F a' [] B)→K (.pn (endV z)) H')→
 Ql prog Qdg [.c (.ptr X.l 0),.ag x.cells,.c (scC sd.ls)] H K
theorem Qbgl {fns:List Fn}{S h:Nat}{v:Vars}{m m':Ms}{r:Rt}(hev:Ev fns S h (.exs [] v) m r m'):r=.vals []∧m'=m:=by cases hev;exact⟨rfl,rfl⟩
theorem Qa6f {fns:List Fn}{S:Nat}:∀{l:List Ex} {h:Nat} {v:Vars} {m m':Ms} {ns:List Nat},Ev fns S h (.exs l v) m (.vals ns) m'→ns.length=l.length
 |[],_,_,_,_,_,h=>by cases h;rfl
 |_::_,_,_,_,_,_,h=>by
  cases h with
  |cons e1 e2=>simp[Qa6f e2]
theorem Qbbu {fns:List Fn}{S h:Nat}{k:Ex}{l:List Ex}{v:Vars}{m m':Ms}{r:Rt}(hev:Ev fns S h (.exs (k::l) v) m r m') :
  (∃n m1 h1 h2 r',h1<h∧h2<h∧Ev fns S h1 (.ex k v) m (.val n) m1∧Ev fns S h2 (.exs l v) m1 r' m'∧(∀ns',r'=.vals ns'→r=.vals (n::ns'))∧(∀z,r'=.dn z→r=.dn z))∨
  ∃z h1,h1<h∧Ev fns S h1 (.ex k v) m (.dn z) m'∧r=.dn z:=by
 cases hev with
 |cons e1 e2=>exact .inl ⟨_,_,_,_,_,by omega,by omega,e1,e2,fun ns' h=>by simp only[Rt.vals.injEq]at h;rw[h],fun z h=>by simp at h⟩
 |consS e1=>exact .inr ⟨_,_,by omega,e1,rfl⟩
 |consS2 e1 e2=>exact .inl ⟨_,_,_,_,_,by omega,by omega,e1,e2,fun ns' h=>by simp at h,fun z h=>h⟩
theorem Qaz3 {h hb:Nat}(hE:∀h',h'<h→ExK X h'){x:Ex}{v:Vars}{r:Rt}{m':Ms}{a:Ma}{sd:ScD}{Q:AE.X→Env→Heap→Prop}(hbh:hb<h)
  (hev:Ev X.fns X.S hb (.exs x.kids v) a.m r m') (ha:a.ok X) (hs:ScD.ok vI sd v) (hv:vBy v) (kn:Kn H0 H E (X.F a sd B))
  (hQ:∀ns c Li a1 H1 e',r=.vals ns→a1.m=m'→a1.ok X→Gr Li 1 (Qn ns) c→Kn H0 H1 E (X.F a1 sd (Li++B))→lk 0 e'=.c (.ptr X.l 0)→lk 2 e'=.c (scC sd.ls)→
   lk 4 e'=.c (.pp [.int .i64 x.op,.int .i64 x.n,.str x.name,.sl false 4 (Qt x.kids)])→lk 9 e'=.c c→Q3 prog Qj1 Q e' H1)
  (hP:∀(z:Nat) a' H',r=.dn z→a'.m=m'→a'.ok X→Kn H0 H' E (X.F a' [] B)→Q (.pan (endV z)) [] H') :
  Q3 prog Qj2 Q [(0,.c (.ptr X.l 0)),(2,.c (scC sd.ls)),(4,.c (.pp [.int .i64 x.op,.int .i64 x.n,.str x.name,.sl false 4 (Qt x.kids)])),(9,.c (.sl true 1 []))] H:=by
 have how:=Qaao sd.ls;refine Q6 ?_;refine Qa ?_;simp only[go_sem,Qj,how];intro hl;simp only[LIM]at hl;refine Qf (Qd (Qab (fun m e1 H1=>∃(i:Nat) (ns:List Nat) (c:C) (Li:List (Nat×Obj)) (a1:Ma) (h1:Nat) (r1:Rt),m=x.kids.length-i∧i≤x.kids.length∧ns.length=i∧h1<h∧Ev X.fns X.S h1 (.exs (x.kids.drop i) v) a1.m r1 m'∧a1.ok X∧
  (∀ns',r1=.vals ns'→r=.vals (ns++ns'))∧(∀z,r1=.dn z→r=.dn z)∧Gr Li 1 (Qn ns) c∧Kn H0 H1 E (X.F a1 sd (Li++B))∧
  e1=[(0,.c (.ptr X.l 0)),(2,.c (scC sd.ls)),(4,.c (.pp [.int .i64 x.op,.int .i64 x.n,.str x.name,.sl false 4 (Qt x.kids)])),(9,.c c),(72,.c (.sl false 4 (Qt x.kids))),(73,.c (.int .i64 x.kids.length)),(74,.c (.int .i64 i))]) x.kids.length ?_ ?_))
 ·exact⟨0,[],_,[],a,hb,r,by omega,by omega,rfl,hbh,hev,ha,fun ns' h=>by simpa using h,fun z h=>h,.nil 1,kn,rfl⟩
 ·clear kn ha hev;rintro m e1 H1 ⟨i,ns,c,Li,a1,h1,r1,hm,hi,hnl,hh1,hev,ha,hr1,hr2,hgr,kn,rfl⟩;have hco:=hgr.isOw;refine Qa ?_;simp only[go_sem,how,hco];refine Qf (Qb rfl ?_ ?_)
  ·intro hc;have hlt:i<x.kids.length:=by simpa using hc
   obtain⟨k,hk⟩:∃k,x.kids[i]=k:=⟨_,rfl⟩;rw[Jr hlt,hk]at hev;refine Qe ?_;try simp only[go_sem]
   refine Qf (Qd ?_);refine Qa ?_;simp only[go_sem,how,hco,hlt,Qj,Qr _ _ hlt,hk,k.cells_eq];intro x11 hx11 H3 h3;have kn:=Qa7g (kn.al hx11 h3);have g11:H3 x11=.st [.int .i64 0,.int .i64 0,.str [],.sl true 4 []]:=(kn.get (x11,.st [.int .i64 0,.int .i64 0,.str [],.sl true 4 []]) (by simp[Mn.F])).1;simp only[go_sem,Qka,how,hco,g11];intro H4 h4;have kn:Kn H0 H4 E (X.F a1 sd ((x11,.st [.int .i64 k.op,.int .i64 k.n,.str k.name,.sl false 4 (Qt k.kids)])::(Li++B))):=by
    have k2:Kn H0 H3 E (([(X.l,X.o a1)]++(a1.so++sd.ob))++(x11,.st [.int .i64 0,.int .i64 0,.str [],.sl true 4 []])::(Li++B)):=(by simpa[Mn.F]using kn);have k3:=k2.stM h4;simpa[Mn.F]using k3
   have g11:H4 x11=.st [.int .i64 k.op,.int .i64 k.n,.str k.name,.sl false 4 (Qt k.kids)]:=(kn.get (x11,.st [.int .i64 k.op,.int .i64 k.n,.str k.name,.sl false 4 (Qt k.kids)]) (by simp[Mn.F])).1;refine Qq ?_;simp only[go_sem,how,hco,g11];have go:∀(h2:Nat) (r2:Rt) (m2:Ms) (K1:V→Heap→Prop),h2<h→Ev X.fns X.S h2 (.ex k v) a1.m r2 m2→
     (∀z a' H',r2=.val z→a'.m=m2→a'.ok X→Kn H0 H' E (X.F a' sd (Li++B))→K1 (.c (.int .i64 (z:Nat))) H')→
     (∀(z:Nat) a' H',r2=.dn z→a'.m=m2→a'.ok X→Kn H0 H' E (X.F a' [] B)→K1 (.pn (endV z)) H')→
     Ql prog Qae [.c (.ptr X.l 0),.ag [.int .i64 k.op,.int .i64 k.n,.str k.name,.sl false 4 (Qt k.kids)],.c (scC sd.ls)] H4 K1:=by
    intro h2 r2 m2 K1 hh2 e2 hA hB;have hh:=hE h2 hh2 k v a1.m r2 m2 H0 H4 E ((x11,.st [.int .i64 k.op,.int .i64 k.n,.str k.name,.sl false 4 (Qt k.kids)])::(Li++B)) a1 sd K1 e2 rfl ha hs hv kn;rw[k.cells_eq]at hh;exact hh (fun z a' H' q1 q2 q3 q4=>hA z a' H' q1 q2 q3 (Quj (A:=[(x11,_)]) q4)) (fun z a' H' q1 q2 q3 q4=>hB z a' H' q1 q2 q3 (Quj (A:=(x11,_)::Li) q4))
   rcases Qbbu hev with ⟨n,m1,h2,h3',r',hh2,hh3,e1,e2,q1,q2⟩|⟨z,h2,hh2,e1,q1⟩
   ·refine go _ _ _ _ (by omega) e1 (fun z a2 H5 hz hm2 ha2 kn=>?_) (fun z a2 H5 hz=>by cases hz);obtain rfl:=Rt.val.inj hz;subst hm2;simp only[go_sem,Qil,how,hco];have kn:=mF_B (A:=Li) kn;refine kn.growR hgr (new:=Qn [n]) (.mk' _ true 1 _) (Qav _) (by simp only[Qah,hnl,Jj,Ji,LIM];omega) fun t2 Lg2 H6 hgr2 hto2 kn=>?_;have kn:=Qblb kn;rw[show Qn ns++Qn [n]=Qn (ns++[n])by simp[Qn,Qm]]at hgr2;simp only[go_sem,Qik,how,hto2];refine Qq ?_;simp only[go_sem,AE.X.next,how,hto2];refine⟨Q1 (by omega) (by omega),x.kids.length-(i+1),by omega,i+1,ns++[n],t2,Lg2,a2,h3',r',rfl,by omega,by simp[hnl],by omega,e2,ha2,fun ns2 h=>?_,fun z h=>hr2 z (q2 z h),hgr2,kn,rfl⟩;have:=hr1 (n::ns2) (q1 ns2 h);rw[this];simp
   ·refine go _ _ _ _ (by omega) e1 (fun z a2 H5 hz=>by cases hz) (fun z2 a2 H5 hz hm2 ha2 kn=>?_);obtain rfl:=Rt.dn.inj hz;simp only[go_sem];exact hP _ a2 H5 (hr2 _ q1) hm2 ha2 kn
  ·intro hc;have hge:x.kids.length≤i:=by simpa using hc
   rw[Ju hge]at hev;obtain⟨q1,q2⟩:=Qbgl hev;refine Q9 ?_;simp only[go_sem,AE.X.next];exact hQ ns c Li a1 H1 _ (by have:=hr1 [] q1;simpa using this) q2.symm ha hgr kn rfl rfl rfl rfl
theorem Qbi3 {h:Nat}(hE:∀h',h'<h→ExK X h')(hC:∀h',h'<h→Qbfj X h'):ExK X h:=by
 intro x v m r m' H0 H E B a sd K hev ham ha hs hv kn hK hP;subst ham;have how:=Qaao sd.ls;refine Qc Qal Q6s ?_;have retK:∀(z:Nat) (a':Ma) (H':Heap) (e:Env),r=.val z→a'.m=m'→a'.ok X→Kn H0 H' E (X.F a' sd B)→lk 6 e=.c (.int .i64 (z:Nat))→Qp Qbe9 K .ret e H':=by
  intro z a' H' e h1 h2 h3 h4 h5;simp only[go_sem,Qp,Q8,Qbe9,Jb,forall_eq,RS.op,h5];exact hK z a' H' h1 h2 h3 h4
 have ev0:∀(k:Ex) (l:List Ex) (h1:Nat) (r1:Rt) (m1:Ms) (K1:V→Heap→Prop) (H1:Heap),x.kids=k::l→h1<h→Ev X.fns X.S h1 (.ex k v) a.m r1 m1→Kn H0 H1 E (X.F a sd B)→
   (∀(z:Nat) (a1:Ma) (H1:Heap),r1=.val z→a1.m=m1→a1.ok X→Kn H0 H1 E (X.F a1 sd B)→K1 (.c (.int .i64 (z:Nat))) H1)→
   (∀(z:Nat) (a':Ma) H',r1=.dn z→a'.m=m1→a'.ok X→Kn H0 H' E (X.F a' [] B)→K1 (.pn (endV z)) H')→
   Ql prog Qae [.c (.ptr X.l 0),.ag [.int .i64 k.op,.int .i64 k.n,.str k.name,.sl false 4 (Qt k.kids)],.c (scC sd.ls)] H1 K1:=by
  intro k l h1 r1 m1 K1 H1 hk hh1 e1 kn hA hB;have hh:=hE h1 hh1 k v a.m r1 m1 H0 H1 E B a sd K1 e1 rfl ha hs hv kn;rw[k.cells_eq]at hh;exact hh hA hB
 refine Qa ?_;simp only[go_sem,x.cells_eq,how];refine Q6 ?_;refine Qa ?_;simp only[go_sem,how];refine Qf (Qd ?_);refine Qa ?_;simp only[go_sem,how];refine Qb rfl (fun hc=>?_) (fun hc=>?_)
 ·have h1:x.op=1:=by simpa using hc
  cases hev with
  |num _ h2 h3=>
   refine Qa ?_;simp only[go_sem,how];refine Qh ?_;try simp only[go_sem,AE.X.next]
   exact retK x.n.toNat a _ _ rfl rfl ha kn (by simp[lk];omega)
  |_=>exfalso;omega
 have n1:¬x.op=1:=by simpa using hc
 refine Qa ?_;simp only[go_sem,how];refine Qb rfl (fun hc=>?_) (fun hc=>?_)
 ·have h2:x.op=2:=by simpa using hc
  cases hev with
  |var _ hf=>
   refine Qa1 ?_;simp only[go_sem,how];refine Qba1 hs (fun y hy=>(kn.get (y.1,.map y.2.1 y.2.2) (Je _ (Je _ (Je _ (Jn _ (Jq.2 ⟨y,hy,rfl⟩)))))).1) (by rw[hf];rfl) (fun p l nn es q vp b vq hsd hvv hpl hno hany hm=>?_);have hfs:=hf;rw[hvv,Qams hno]at hfs;obtain⟨y,hy⟩:=Option.isSome_iff_exists.1 ((List.find?_isSome (xs:=b) (p:=fun p=>decide (p.1=x.name))).2 (List.any_eq_true.1 hany));rw[hy]at hfs;simp only[Jaf,Option.some_or,Jv]at hfs;have hfe:Qc0 (.str x.name) es=some (.c (.int .i64 (vI y.2))):=by rw[hm.fd,hy];rfl
   have hky:=eq_true hm.ky;subst hsd;have hl:=Qbcv kn;simp only[go_sem,Qj6,C.isPtr,Qo4,Qf5,Qad,hl,hky,hfe,how,Jaq,Jc,Jd];refine Qh ?_;try simp only[go_sem,AE.X.next]
   refine retK _ a _ _ rfl rfl ha kn ?_;simp[lk,←hfs]
  |_=>exfalso;omega
 have n2:¬x.op=2:=by simpa using hc
 refine Qa ?_;simp only[go_sem,how];refine Qb rfl (fun hc=>?_) (fun hc=>?_)
 ·have h10:x.op=10:=by simpa using hc
  have six:∀(k l:Ex) (h2:Nat) (r2:Rt) (m2:Ms) (a1:Ma) (H1:Heap) (e:Env),x.kids=[k,l]→h2<h→Ev X.fns X.S h2 (.ex l v) a1.m r2 m2→a1.ok X→Kn H0 H1 E (X.F a1 sd B)→
    (∀(z:Nat) (a2:Ma) (H2:Heap),r2=.val z→a2.m=m2→a2.ok X→Kn H0 H2 E (X.F a2 sd B)→∀e',lk 6 e'=.c (.int .i64 (if z=0 then 0 else 1:Nat))→Qp Qbe9 K .ret e' H2)→
    (∀(z:Nat) (a':Ma) H',r2=.dn z→a'.m=m2→a'.ok X→Kn H0 H' E (X.F a' [] B)→K (.pn (endV z)) H')→
    lk 0 e=.c (.ptr X.l 0)→lk 2 e=.c (scC sd.ls)→lk 4 e=.c (.pp [.int .i64 x.op,.int .i64 x.n,.str x.name,.sl false 4 (Qt x.kids)])→
    Q3 prog Qly (AE.X.inBlock 0 (AE.X.sq prog Qef (Qp Qbe9 K))) e H1:=by
   intro k l h2 r2 m2 a1 H1 e hk hh2 e2 ha1 kn hA hB l0 l2 l4;have hkl:1<x.kids.length:=by rw[hk];simp
   have hx1:x.kids[1]=l:=by simp only[hk,Jk,Ja]
   refine Qa ?_;simp only[go_sem,l0,l2,l4,how,hkl,Qj,Qr _ _ hkl,hx1,l.cells_eq];have hh:=hE h2 hh2 l v a1.m r2 m2 H0 H1 E B a1 sd;rw[l.cells_eq]at hh;refine⟨by omega,hh _ e2 rfl ha1 hs hv kn (fun z a2 H2 hz hm2 ha2 kn=>?_) (fun z a2 H2 hz hm2 ha2 kn=>?_)⟩
   ·simp only[go_sem,Qj8,how];refine Qa1u ?_;simp only[go_sem,Qj7,Jc,Jd];refine Qa ?_;simp only[go_sem];refine Qh ?_;try simp only[go_sem,AE.X.next]
    refine hA z a2 H2 hz hm2 ha2 kn _ ?_;have:trI ((z:Int)≠0)=((if z=0 then 0 else 1:Nat):Int):=by
     unfold trI;by_cases hz0:z=0
     ·subst hz0;simp
     ·rw[if_pos (by omega),if_neg hz0];rfl
    rw[←this];simp[lk]
   ·simp only[go_sem];exact hB z a2 H2 hz hm2 ha2 kn
  cases hev with
  |kidS _ _ hk _ e1=>
   have hkl:0<x.kids.length:=by rw[hk];simp
   have hx0:=List.getElem_of_eq hk hkl;rw[Ja]at hx0;refine Q6 ?_;refine Qa ?_;simp only[go_sem,how,hkl,Qj,Qr _ _ hkl,hx0,Ex.cells_eq];refine⟨by omega,ev0 _ _ _ _ _ _ _ hk (by omega) e1 kn (fun z a1 H1 hz=>by cases hz) (fun z a1 H1 hz hm1 ha1 kn=>?_)⟩;simp only[go_sem];exact hP z a1 H1 hz hm1 ha1 kn
  |and0 _ hk e1=>
   have hkl:0<x.kids.length:=by rw[hk];simp
   have hx0:=List.getElem_of_eq hk hkl;rw[Ja]at hx0;refine Q6 ?_;refine Qa ?_;simp only[go_sem,how,hkl,Qj,Qr _ _ hkl,hx0,Ex.cells_eq];refine⟨by omega,ev0 _ _ _ _ _ _ _ hk (by omega) e1 kn (fun z a1 H1 hz hm1 ha1 kn=>?_) (fun z a1 H1 hz=>by cases hz)⟩;simp only[go_sem,Qco,how];obtain rfl:=Rt.val.inj hz;refine Qf (Qb rfl (fun _=>?_) (fun h=>by simp[lk]at h));refine Qa ?_;simp only[go_sem];refine Qh ?_;try simp only[go_sem,AE.X.next]
   exact retK 0 a1 _ _ rfl hm1 ha1 kn rfl
  |and1 _ hk e1 hx e2=>
   have hkl:0<x.kids.length:=by rw[hk];simp
   have hx0:=List.getElem_of_eq hk hkl;rw[Ja]at hx0;refine Q6 ?_;refine Qa ?_;simp only[go_sem,how,hkl,Qj,Qr _ _ hkl,hx0,Ex.cells_eq];refine⟨by omega,ev0 _ _ _ _ _ _ _ hk (by omega) e1 kn (fun z a1 H1 hz hm1 ha1 kn=>?_) (fun z a1 H1 hz=>by cases hz)⟩;simp only[go_sem,Qco,how];obtain rfl:=Rt.val.inj hz;subst hm1;refine Qf (Qb rfl (fun h=>by simp[lk]at h;omega) (fun _=>?_));refine Qe ?_;try simp only[go_sem]
   refine six _ _ _ _ _ a1 H1 _ hk (by omega) e2 ha1 kn (fun z a2 H2 hz hm2 ha2 kn e' h6=>?_) (fun z a2 H2 hz=>by cases hz) rfl rfl rfl;obtain rfl:=Rt.val.inj hz;exact retK _ a2 _ _ rfl hm2 ha2 kn h6
  |andS _ hk e1 hx e2=>
   have hkl:0<x.kids.length:=by rw[hk];simp
   have hx0:=List.getElem_of_eq hk hkl;rw[Ja]at hx0;refine Q6 ?_;refine Qa ?_;simp only[go_sem,how,hkl,Qj,Qr _ _ hkl,hx0,Ex.cells_eq];refine⟨by omega,ev0 _ _ _ _ _ _ _ hk (by omega) e1 kn (fun z a1 H1 hz hm1 ha1 kn=>?_) (fun z a1 H1 hz=>by cases hz)⟩;simp only[go_sem,Qco,how];obtain rfl:=Rt.val.inj hz;subst hm1;refine Qf (Qb rfl (fun h=>by simp[lk]at h;omega) (fun _=>?_));refine Qe ?_;try simp only[go_sem]
   exact six _ _ _ _ _ a1 H1 _ hk (by omega) e2 ha1 kn (fun z a2 H2 hz=>by cases hz) (fun z a2 H2 hz hm2 ha2 kn=>hP z a2 H2 hz hm2 ha2 kn) rfl rfl rfl
  |_=>exfalso;omega
 have n10:¬x.op=10:=by simpa using hc
 refine Qa ?_;simp only[go_sem,how];refine Qb rfl (fun hc=>?_) (fun hc=>?_)
 ·have h12:x.op=12:=by simpa using hc
  cases hev with
  |kidS _ _ hk _ e1=>
   have hkl:0<x.kids.length:=by rw[hk];simp
   have hx0:=List.getElem_of_eq hk hkl;rw[Ja]at hx0;refine Qa ?_;simp only[go_sem,how,hkl,Qj,Qr _ _ hkl,hx0,Ex.cells_eq];refine⟨by omega,ev0 _ _ _ _ _ _ _ hk (by omega) e1 kn (fun z a1 H1 hz=>by cases hz) (fun z a1 H1 hz hm1 ha1 kn=>?_)⟩;simp only[go_sem];exact hP z a1 H1 hz hm1 ha1 kn
  |at_ _ hk e1 hx=>
   have hkl:0<x.kids.length:=by rw[hk];simp
   have hx0:=List.getElem_of_eq hk hkl;rw[Ja]at hx0;refine Qa ?_;simp only[go_sem,how,hkl,Qj,Qr _ _ hkl,hx0,Ex.cells_eq];refine⟨by omega,ev0 _ _ _ _ _ _ _ hk (by omega) e1 kn (fun z a1 H1 hz hm1 ha1 kn=>?_) (fun z a1 H1 hz=>by cases hz)⟩;obtain rfl:=Rt.val.inj hz;subst hm1;simp only[go_sem,Qeg,how];refine Qaok (fun h16=>?_) (fun h16=>by omega);have hX:=mF_o kn;have hcl:=ha1.b.c;have hg:=Qbc6 (c:=a1.m.c) (j:=_) (by rw[hcl];exact hx);have hnl:=ha1.len;simp only[go_sem,Qj9,hX,hnl,Qbe0,hg,Jj];refine⟨by rw[List.length_drop,hnl];omega,?_⟩;refine Qh ?_;try simp only[go_sem,AE.X.next]
   exact retK _ a1 _ _ rfl rfl ha1 kn rfl
  |atS _ hk e1 hx=>
   have hkl:0<x.kids.length:=by rw[hk];simp
   have hx0:=List.getElem_of_eq hk hkl;rw[Ja]at hx0;refine Qa ?_;simp only[go_sem,how,hkl,Qj,Qr _ _ hkl,hx0,Ex.cells_eq];refine⟨by omega,ev0 _ _ _ _ _ _ _ hk (by omega) e1 kn (fun z a1 H1 hz hm1 ha1 kn=>?_) (fun z a1 H1 hz=>by cases hz)⟩;obtain rfl:=Rt.val.inj hz;subst hm1;simp only[go_sem,Qeg,how];refine Qaok (fun h16=>by omega) (fun h16=>?_);simp only[go_sem];exact hP 2 a1 H1 rfl rfl ha1 (Qadk kn)
  |_=>exfalso;omega
 have n12:¬x.op=12:=by simpa using hc
 refine Qa ?_;simp only[go_sem,how];refine Qb rfl (fun hc=>?_) (fun hc=>?_)
 ·have h13:x.op=13:=by simpa using hc
  refine Qa ?_;simp only[go_sem,how];have panQ:∀(z:Nat) a' H',r=.dn z→a'.m=m'→a'.ok X→Kn H0 H' E (X.F a' [] B)→(AE.X.inBlock 0 (AE.X.sq prog Qef (Qp Qbe9 K))) (.pan (endV z)) [] H':=by
   intro z a' H' h1 h2 h3 h4;simp only[go_sem];exact hP z a' H' h1 h2 h3 h4
  cases hev with
  |callS hj _ hix _ e1=>exact Qaz3 hE (by omega) e1 ha hs hv kn (fun ns c Li a1 H1 e' h=>by cases h) panQ
  |@call _ _ _ j ns m1 _ _ ha0 hb0 hj _ hix hpl e1 e2=>
   refine Qaz3 hE (by omega) e1 ha hs hv kn (fun ns2 c Li a1 H1 e' hr hm1 ha1 hgr kn l0 l2 l4 l9=>?_) (fun z a' H' h=>by cases h);obtain rfl:=Rt.vals.inj hr;subst hm1;have hco:=hgr.isOw;have hX:=mF_o kn;have hby:=e1.by (show vBy v from hv) ha.b
   have hex:=Qa6f e1;refine Qa1 ?_;simp only[go_sem,l0,l2,l4,l9,hX,hco,how];refine Qacm ?_;rw[hix];simp only[go_sem,Qin,ixI,l0,l2,l4,l9,hco,how];refine hC _ (by omega) j hj _ a1.m r m' H0 H1 E (sd.ob++B) Li a1 c _ e2 rfl ha1 hby.1 (by rw[hex];exact hpl.symm) (.inr hgr) ?_ (fun z a2 H2 hz hm2 ha2 kn=>?_) (fun z a2 H2 hz hm2 ha2 kn=>?_)
   ·exact kn.perm (Qaa fun f hf h0 hc hp=>by have:ScD.ob []=[]:=rfl;simp only[Mn.F,hf,this,h0];omega)
   ·have kn:Kn H0 H2 E (X.F a2 sd (Li++B)):=kn.perm (Qaa fun f hf h0 hc hp=>by have:ScD.ob []=[]:=rfl;simp only[Mn.F,hf,this,h0];omega);simp only[go_sem,Qim,hco,how];refine Qh ?_;try simp only[go_sem,AE.X.next]
    exact retK z a2 _ _ hz hm2 ha2 (Quj kn) rfl
   ·simp only[go_sem];exact hP z a2 H2 hz hm2 ha2 (Quj (A:=sd.ob) kn)
  |_=>exfalso;omega
 have n13:¬x.op=13:=by simpa using hc
 refine Qe ?_;try simp only[go_sem,AE.X.next,how]
 have arT:∀(b:Bool) (w:Nat) (a2:Ma) (H2:Heap),(b=true→r=.val w)→(b=false→r=.dn 1)→a2.m=m'→a2.ok X→Kn H0 H2 E (X.F a2 sd B)→
   Q3 prog Qj3 (Qp Qbe9 K) [(14,.c (.int .i64 (w:Nat))),(15,.c (.bool b))] H2:=by
  intro b w a2 H2 q1 q2 q3 q4 kn;refine Q6 ?_;refine Qa ?_;simp only[go_sem]
  cases b with
  |true=>
   refine Qf (Qb rfl (fun h=>by simp[lk]at h) (fun _=>?_));refine Qe ?_;try simp only[go_sem]
   refine Qa ?_;simp only[go_sem];refine Qh ?_;exact retK w a2 H2 _ (q1 rfl) q3 q4 kn rfl
  |false=>
   refine Qf (Qb rfl (fun _=>?_) (fun h=>by simp[lk]at h));refine Qq ?_;simp only[go_sem];refine Qbat ?_;simp only[go_sem];exact hP 1 a2 H2 (q2 rfl) q3 q4 (Qadk kn)
 have two:∀(k l:Ex) (x1:Nat) (h2:Nat) (r2:Rt) (m2:Ms) (a1:Ma) (H1:Heap),x.kids=[k,l]→h2<h→Ev X.fns X.S h2 (.ex l v) a1.m r2 m2→a1.ok X→Kn H0 H1 E (X.F a1 sd B)→
   (∀(z:Nat) (a2:Ma) (H2:Heap),r2=.val z→a2.m=m2→a2.ok X→Kn H0 H2 E (X.F a2 sd B)→
    Q3 prog Qj4 (Qp Qbe9 K) [(4,.c (.pp [.int .i64 x.op,.int .i64 x.n,.str x.name,.sl false 4 (Qt x.kids)])),(12,.c (.int .i64 (x1:Nat))),(13,.c (.int .i64 (z:Nat)))] H2)→
   (∀(z:Nat) (a':Ma) H',r2=.dn z→a'.m=m2→a'.ok X→Kn H0 H' E (X.F a' [] B)→K (.pn (endV z)) H')→
   Q3 prog Qj5 (Qp Qbe9 K) [(0,.c (.ptr X.l 0)),(2,.c (scC sd.ls)),(4,.c (.pp [.int .i64 x.op,.int .i64 x.n,.str x.name,.sl false 4 (Qt x.kids)])),(12,.c (.int .i64 (x1:Nat))),(13,.c (.int .i64 0))] H1:=by
  intro k l x1 h2 r2 m2 a1 H1 hk hh2 e2 ha1 kn hA hB;have hkl:1<x.kids.length:=by rw[hk];simp
  have hk2:x.kids.length=2:=by rw[hk];rfl
  have hx1:x.kids[1]=l:=by simp only[hk,Jk,Ja]
  refine Q6 ?_;refine Qa ?_;simp only[go_sem,how,Qj,hk2];try intro _
  refine Qf (Qb rfl (fun _=>?_) (fun h=>by simp at h));refine Qq ?_;simp only[go_sem,how,hkl,Qj,Qr _ _ hkl,hx1,l.cells_eq];have hh:=hE h2 hh2 l v a1.m r2 m2 H0 H1 E B a1 sd;rw[l.cells_eq]at hh;refine⟨by omega,hh _ e2 rfl ha1 hs hv kn (fun z a2 H2 hz hm2 ha2 kn=>?_) (fun z a2 H2 hz hm2 ha2 kn=>?_)⟩
  ·simp only[go_sem,Qio,how];exact hA z a2 H2 hz hm2 ha2 kn
  ·simp only[go_sem];exact hB z a2 H2 hz hm2 ha2 kn
 cases hev with
 |kidS _ _ hk _ e1=>
  have hkl:0<x.kids.length:=by rw[hk];simp
  have hx0:=List.getElem_of_eq hk hkl;rw[Ja]at hx0;refine Qa ?_;simp only[go_sem,how,hkl,Qj,Qr _ _ hkl,hx0,Ex.cells_eq];refine⟨by omega,ev0 _ _ _ _ _ _ _ hk (by omega) e1 kn (fun z a1 H1 hz=>by cases hz) (fun z a1 H1 hz hm1 ha1 kn=>?_)⟩;simp only[go_sem];exact hP z a1 H1 hz hm1 ha1 kn
 |not h11 hk e1=>
  have hkl:0<x.kids.length:=by rw[hk];simp
  have hk1:x.kids.length=1:=by rw[hk];rfl
  have hx0:=List.getElem_of_eq hk hkl;rw[Ja]at hx0;refine Qa ?_;simp only[go_sem,how,hkl,Qj,Qr _ _ hkl,hx0,Ex.cells_eq];refine⟨by omega,ev0 _ _ _ _ _ _ _ hk (by omega) e1 kn (fun z a1 H1 hz hm1 ha1 kn=>?_) (fun z a1 H1 hz=>by cases hz)⟩;obtain rfl:=Rt.val.inj hz;simp only[go_sem,Qbk,how];refine Q6 ?_;refine Qa ?_;simp only[go_sem,how,Qj,hk1];try intro _
  refine Qf (Qb rfl (fun h=>by simp at h) (fun _=>?_));refine Qe ?_;try simp only[go_sem]
  refine Qa ?_;simp only[go_sem,h11];refine Qa1v ?_;simp only[go_sem,Qcg,Jc,Jd]
  rename_i w _ _ _
  have e:∀w:Nat,trI ((w:Int)=0)=((if w=0 then 1 else 0:Nat):Int):=by
   intro w;unfold trI;by_cases hz0:w=0
   ·subst hz0;simp
   ·rw[if_neg (by omega),if_neg hz0];rfl
  rw[e];exact arT true _ a1 H1 (fun _=>rfl) (fun h=>by cases h) hm1 ha1 kn
 |ar h3 h9 hk e1 e2 hw=>
  have hkl:0<x.kids.length:=by rw[hk];simp
  have hx0:=List.getElem_of_eq hk hkl;rw[Ja]at hx0;have b1:=e1.by (show vBy v from hv) ha.b
  refine Qa ?_;simp only[go_sem,how,hkl,Qj,Qr _ _ hkl,hx0,Ex.cells_eq];refine⟨by omega,ev0 _ _ _ _ _ _ _ hk (by omega) e1 kn (fun z a1 H1 hz hm1 ha1 kn=>?_) (fun z a1 H1 hz=>by cases hz)⟩;obtain rfl:=Rt.val.inj hz;subst hm1;have b2:=e2.by (show vBy v from hv) ha1.b
  simp only[go_sem,Qbk,how];refine two _ _ _ _ _ _ a1 H1 hk (by omega) e2 ha1 kn (fun z a2 H2 hz hm2 ha2 kn=>?_) (fun z a2 H2 hz=>by cases hz);obtain rfl:=Rt.val.inj hz;refine Qa ?_;simp only[go_sem];refine Qa0n b1.1 b2.1 h3 h9 (fun z hz=>?_) (fun h=>by rw[hw]at h;cases h);rw[hw]at hz;obtain rfl:=Jl hz;simp only[go_sem,Qcg,Jc,Jd];exact arT true _ a2 H2 (fun _=>rfl) (fun h=>by cases h) hm2 ha2 kn
 |arD h3 h9 hk e1 e2 hw=>
  have hkl:0<x.kids.length:=by rw[hk];simp
  have hx0:=List.getElem_of_eq hk hkl;rw[Ja]at hx0;have b1:=e1.by (show vBy v from hv) ha.b
  refine Qa ?_;simp only[go_sem,how,hkl,Qj,Qr _ _ hkl,hx0,Ex.cells_eq];refine⟨by omega,ev0 _ _ _ _ _ _ _ hk (by omega) e1 kn (fun z a1 H1 hz hm1 ha1 kn=>?_) (fun z a1 H1 hz=>by cases hz)⟩;obtain rfl:=Rt.val.inj hz;subst hm1;have b2:=e2.by (show vBy v from hv) ha1.b
  simp only[go_sem,Qbk,how];refine two _ _ _ _ _ _ a1 H1 hk (by omega) e2 ha1 kn (fun z a2 H2 hz hm2 ha2 kn=>?_) (fun z a2 H2 hz=>by cases hz);obtain rfl:=Rt.val.inj hz;refine Qa ?_;simp only[go_sem];refine Qa0n b1.1 b2.1 h3 h9 (fun z hz=>by rw[hw]at hz;cases hz) (fun _=>?_);simp only[go_sem,Qcg,Jc,Jd];exact arT false 0 a2 H2 (fun h=>by cases h) (fun _=>rfl) hm2 ha2 kn
 |arS h3 h9 hk e1 e2=>
  have hkl:0<x.kids.length:=by rw[hk];simp
  have hx0:=List.getElem_of_eq hk hkl;rw[Ja]at hx0;refine Qa ?_;simp only[go_sem,how,hkl,Qj,Qr _ _ hkl,hx0,Ex.cells_eq];refine⟨by omega,ev0 _ _ _ _ _ _ _ hk (by omega) e1 kn (fun z a1 H1 hz hm1 ha1 kn=>?_) (fun z a1 H1 hz=>by cases hz)⟩;obtain rfl:=Rt.val.inj hz;subst hm1;simp only[go_sem,Qbk,how];exact two _ _ _ _ _ _ a1 H1 hk (by omega) e2 ha1 kn (fun z a2 H2 hz=>by cases hz) (fun z a2 H2 hz hm2 ha2 kn=>hP z a2 H2 hz hm2 ha2 kn)
 |_=>exfalso;omega
theorem Qamk (b:Option Nat):(bkC b).isOw=false:=by cases b <;> rfl
theorem Qbew {ps:List (List UInt8)}{ns:List Nat}{i:Nat}(h:i<ps.length)(h2:i<ns.length):((ps.take (i+1)).zip ns).reverse=(ps[i],ns[i])::((ps.take i).zip ns).reverse:=by
 have:(ps.take (i+1)).zip ns=(ps.take i).zip ns++[(ps[i],ns[i])]:=by
  apply Jao
  ·simp;omega
  ·intro j h1 h3;rw[List.getElem_append];split
   ·rename_i hj
    simp at hj;simp
   ·rename_i hj
    simp at hj h1;have:j=i:=(by omega);subst this;simp
 rw[this];simp
theorem Qbbb {h:Nat}(hsz:∀k (hk:k<X.fns.length),Qi X.fns[k].body≤4000∧X.fns[k].params.length≤3)(hB:∀h',h'<h→BlkK X h'):Qbfj X h:=by
 intro k hk ns m r m' H0 H E B Li a c K hev ham ha hns hnl hrd kn hK hP;subst ham;have hco:=hrd.isOw;obtain⟨z1,z2⟩:=hsz k hk;obtain⟨f,hf⟩:∃f,X.fns[k]=f:=⟨_,rfl⟩;rw[hf]at hev hnl z1 z2;have hbl:=Qan f.body;refine Qc Qal Q6q ?_;have retK:∀(z:Nat) (a':Ma) (H':Heap) (e:Env),r=.val z→a'.m=m'→a'.ok X→Kn H0 H' E (X.F a' [] (Li++B))→lk 6 e=.c (.int .i64 (z:Nat))→Qp Qbe9 K .ret e H':=by
  intro z a' H' e h1 h2 h3 h4 h5;simp only[go_sem,Qp,Q8,Qbe9,Jb,forall_eq,RS.op,h5];exact hK z a' H' h1 h2 h3 h4
 have hX:=mF_o kn;refine Qa ?_;simp only[go_sem,hco];refine Qa ?_;simp only[go_sem,hco];intro lm hlm H1 h1;have kn:=Qaol (kn.al hlm h1);have hX:=mF_o kn;simp only[go_sem,Qjz,hco];refine Q6 ?_;refine Qa ?_;simp only[go_sem,hX,hco,hk,hf,Qw,Qaf _ _ hk,Fn.cells,Qo];try intro _
 refine Qf (Qd (Qab (fun m e1 H1=>∃(i n:Nat) (es:List (C×V)),m=f.params.length-i∧i≤f.params.length∧MapOk vI es ((f.params.take i).zip ns).reverse∧es.length≤i∧Kn H0 H1 E (X.F a [(lm,n,es)] (Li++B))∧
  e1=[(0,.c (.ptr X.l 0)),(1,.c (.int .i64 k)),(2,.c c),(7,.c (.pp [.mp lm,.pnil])),(22,.c (.sl false 1 (Q0 f.params))),(23,.c (.int .i64 f.params.length)),(24,.c (.int .i64 i))]) f.params.length ?_ ?_))
 ·exact⟨0,_,[],by omega,by omega,.nil _,by simp,kn,rfl⟩
 ·clear kn hX;rintro m e1 H2 ⟨i,n,es,hm,hi,hmo,hel,kn,rfl⟩;refine Qa ?_;simp only[go_sem,hco];refine Qf (Qb rfl ?_ ?_)
  ·intro hc;have hlt:i<f.params.length:=by simpa using hc
   have hln:i<ns.length:=by omega
   have hky:=eq_true hmo.ky;have hl:=Qbcv (p:=[]) kn;have hsl:=hrd.slc kn fun p hp=>by simp[Mn.F,hp]
   have hok:=eq_true hsl.ok;have hlen:=hsl.len;have hsz1:=hsl.sz;have hrw:=hsl.rows;refine Qe ?_;try simp only[go_sem]
   refine Qf (Qd ?_);refine Qa ?_;simp only[go_sem,hco,hlt,Qo,Qbo _ _ hlt];refine Qel ?_;simp only[go_sem,hco,hl,Qf5,hky,hok,hlen,hsz1,hrw,Qah,hln,Qdw _ _ hln];refine⟨by simp only[LIM];omega,?_⟩;intro H3 h3;have kn:=Qa7h (p:=[]) kn h3;try simp only[go_sem,AE.X.next,hco]
   refine Qq ?_;simp only[go_sem,AE.X.next,hco];have e1:f.params.getD i []=f.params[i]:=by simp[Jf,hlt]
   have e2:ns.getD i 0=ns[i]:=by simp[Jf,hln]
   have hul:=Qacq f.params[i] (.c (.int .i64 (ns[i]:Nat))) es;rw[e1,e2]at kn;refine⟨Q1 (by omega) (by omega),f.params.length-(i+1),by omega,i+1,_,_,rfl,by omega,?_,by omega,kn,rfl⟩;rw[Qbew hlt hln];exact hmo.put _ _
  ·intro hc;have hge:f.params.length≤i:=by simpa using hc
   rw[Jaa hge]at hmo;refine Q9 ?_;simp only[go_sem,AE.X.next];have hX:=mF_o kn;refine Q6 ?_;refine Qa ?_;simp only[go_sem,hX,hco,hk,hf,Qw,Qaf _ _ hk,Fn.cells,Qo];generalize hr0:r=r0 at hev
   cases hev with
   |@body _ _ _ rb _ ab e1=>
    have hh:=hB ab (by omega) f.body false (parE f.params ns) a.m rb m' H0 H2 E (Li++B) a [(lm,n,es)];refine hh _ e1 rfl ha ⟨hmo,trivial⟩ (Qaox hns) ⟨by simp only;omega,by simp⟩ (by omega) kn (fun b v' a2 sd' H3 hz hm2 ha2 hs2 hls _ kn=>?_) (fun z a2 H3 hz hm2 ha2 kn=>?_)
    ·subst hz;have hpop:Kn H0 H3 E (X.F a2 [] (Li++B)):=by
      cases sd' with
      |nil=>exact kn
      |cons x t=>
       have:t=[]:=by
        simp only[ScD.ls,Jp,Jau,Jy,List.map_eq_nil_iff]at hls;exact hls.2
       subst this;exact Qa0o kn
     have hbo:=Qamk b;simp only[go_sem,Qj0,hbo];refine Qa ?_
     cases b with
     |none=>
      simp only[go_sem,bkC,C.isPtr,or_true,true_or,true_and];refine Qf (Qb rfl (fun h=>by cases h) (fun _=>?_));refine Qe ?_;try simp only[go_sem]
      refine Qa ?_;simp only[go_sem];refine Qh ?_;exact retK 0 a2 H3 _ hr0 hm2 ha2 hpop rfl
     |some w=>
      simp only[go_sem,bkC,C.isPtr,or_true,true_or,true_and];refine Qf (Qb rfl (fun _=>?_) (fun h=>by cases h));refine Qa ?_;simp only[go_sem,Jc];refine Qh ?_;exact retK w a2 H3 _ hr0 hm2 ha2 hpop rfl
    ·subst hz;simp only[go_sem];exact hP z a2 H3 hr0 hm2 ha2 (Quj kn)
theorem Qbf0 {fns:List Fn}{S h:Nat}{v:Vars}{m m':Ms}{r:Rt}(hev:Ev fns S h (.blk [] v) m r m'):r=.env none v∧m'=m:=by cases hev;exact⟨rfl,rfl⟩
theorem ScL.mono {n k:Nat}{sd:ScD}(h:ScL n sd)(hk:k≤n):ScL k sd:=by
 cases sd with
 |nil=>exact h
 |cons x r=>exact⟨by have:=h.1;omega,h.2⟩
theorem Qbfy {h:Nat}(hS:∀h',h'<h→StK X h'):BlkK X h:=by
 intro l fl v m r m' H0 H E B a sd K hev ham ha hs hv hsl hsz kn hK hP;subst ham;have how:=Qaao sd.ls;refine Qc Qal Q4n ?_;have retK:∀b v' a' sd' H' e,r=.env b v'→a'.m=m'→a'.ok X→ScD.ok vI sd' v'→sd'.ls=sd.ls→ScG l.length sd sd'→Kn H0 H' E (X.F a' sd' B)→lk 6 e=.c (bkC b)→Qp Qbe9 K .ret e H':=by
  intro b v' a' sd' H' e h1 h2 h3 h4 h5 h6 h7 h8;have hbo:=Qamk b;simp only[go_sem,Qp,Q8,Qbe9,Jb,forall_eq,RS.op,h8,hbo];exact hK b v' a' sd' H' h1 h2 h3 h4 h5 h6 h7
 refine Qa ?_;simp only[go_sem,how];refine Q6 ?_;refine Qa ?_;simp only[go_sem,how,Qx];intro hl;simp only[LIM]at hl;refine Qf (Qd (Qab (fun m e1 H1=>∃(i:Nat) (v1:Vars) (a1:Ma) (sd1:ScD) (h1:Nat),m=l.length-i∧i≤l.length∧h1≤h∧Ev X.fns X.S h1 (.blk (l.drop i) v1) a1.m r m'∧a1.ok X∧ScD.ok vI sd1 v1∧vBy v1∧sd1.ls=sd.ls∧ScG i sd sd1∧ScL (l.length-i) sd1∧
  Kn H0 H1 E (X.F a1 sd1 B)∧e1=[(0,.c (.ptr X.l 0)),(2,.c (scC sd.ls)),(10,.c (.sl fl 5 (Qk l))),(11,.c (.int .i64 l.length)),(12,.c (.int .i64 i))]) l.length ?_ ?_))
 ·exact⟨0,v,a,sd,h,by omega,by omega,Jai _,hev,ha,hs,hv,rfl,hsl.refl,hsl,kn,rfl⟩
 ·clear kn ha hev hs hv hsl;rintro m e1 H1 ⟨i,v1,a1,sd1,h1,hm,hi,hh1,hev,ha,hs,hv,hls,hsg,hsl,kn,rfl⟩;refine Qa ?_;simp only[go_sem,how];refine Qf (Qb rfl ?_ ?_)
  ·intro hc;have hlt:i<l.length:=by simpa using hc
   have hms:=Qa3 (J7 hlt);obtain⟨x,hx⟩:∃x,l[i]=x:=⟨_,rfl⟩;rw[Jr hlt,hx]at hev;rw[hx]at hms;refine Qe ?_;try simp only[go_sem]
   refine Qf (Qd ?_);refine Qa ?_;simp only[go_sem,how,hlt,Qx,Qbe _ _ hlt,hx,x.cells_eq];intro x8 hx8 H3 h3;have kn:=Qa7g (kn.al hx8 h3);have g8:H3 x8=.st [.int .i64 0,.str [],.sl true 4 [],.sl true 5 [],.sl true 5 []]:=(kn.get (x8,.st [.int .i64 0,.str [],.sl true 4 [],.sl true 5 [],.sl true 5 []]) (by simp[Mn.F])).1;simp only[go_sem,Qij,how,g8];intro H4 h4;have kn:Kn H0 H4 E (X.F a1 sd1 ((x8,stO x)::B)):=by
    have k2:Kn H0 H3 E (([(X.l,X.o a1)]++(a1.so++sd1.ob))++(x8,.st [.int .i64 0,.str [],.sl true 4 [],.sl true 5 [],.sl true 5 []])::B):=(by simpa[Mn.F]using kn);have k3:=k2.stM h4;simpa[Mn.F]using k3
   refine Qa ?_;simp only[go_sem,how];refine Qa7i kn ha (fun H5 hu kn ha2=>?_) (fun hu=>?_)
   ·have g8:H5 x8=stO x:=(kn.get (x8,stO x) (by simp[Mn.F])).1;simp only[go_sem,how];refine Qa ?_;simp only[go_sem,how,g8];have go:∀(h2:Nat) (r2:Rt) (m2:Ms) (K1:V→Heap→Prop),h2<h→Ev X.fns X.S h2 (.st x v1) ⟨a1.m.u+1,a1.m.s,a1.m.c⟩ r2 m2→
      (∀b v' a' sd' H',r2=.env b v'→a'.m=m2→a'.ok X→ScD.ok vI sd' v'→sd'.ls=sd.ls→ScG 1 sd1 sd'→Kn H0 H' E (X.F a' sd' B)→K1 (.c (bkC b)) H')→
      (∀(z:Nat) a' H',r2=.dn z→a'.m=m2→a'.ok X→Kn H0 H' E (X.F a' [] B)→K1 (.pn (endV z)) H')→
      Ql prog Qdg [.c (.ptr X.l 0),.ag [.int .i64 x.op,.str x.name,.sl false 4 (Qt x.args),.sl false 5 (Qk x.body),.sl false 5 (Qk x.els)],.c (scC sd.ls)] H5 K1:=by
     intro h2 r2 m2 K1 hh2 e2 hA hB;have hlu:=ha.l;have hh:=hS h2 hh2 x v1 ⟨a1.m.u+1,a1.m.s,a1.m.c⟩ r2 m2 H0 H5 E ((x8,stO x)::B) ⟨⟨a1.m.u+1,a1.m.s,a1.m.c⟩,a1.sc,a1.so⟩ sd1 K1 e2 rfl ha2 (show a1.m.s.length<a1.m.u+1 by omega) hs hv (hsl.mono (by omega)) (by omega) kn;rw[x.cells_eq,hls]at hh;exact hh (fun b v' a' sd' H' q1 q2 q3 q4 q5 q6 q7=>hA b v' a' sd' H' q1 q2 q3 q4 q5 q6 (Quj (A:=[(x8,_)]) q7)) (fun z a' H' q1 q2 q3 q4=>hB z a' H' q1 q2 q3 (Quj (A:=[(x8,_)]) q4))
    cases hev with
    |fuel hu2=>exfalso;omega
    |@next _ _ _ _ v2 m2 _ _ ha3 hb3 hu2 e1 e2=>
     refine go _ _ _ _ (by omega) e1 (fun b v' a2 sd2 H6 hz hm2 ha2 hs2 hls2 hsl2 kn=>?_) (fun z a2 H6 hz=>by cases hz);obtain⟨rfl,rfl⟩:=Rt.env.inj hz;subst hm2;have hv2:=(e1.by (show vBy v1 from hv) (ha.b.tick _)).1.2;simp only[go_sem,Qd2,bkC,how];refine Qa ?_;simp only[go_sem,C.isPtr,or_true,true_or,true_and,how];refine Qb rfl (fun h=>by cases h) (fun _=>?_);refine Qe ?_;try simp only[go_sem,AE.X.next]
     refine Qq ?_;simp only[go_sem,AE.X.next,how];exact⟨Q1 (by omega) (by omega),l.length-(i+1),by omega,i+1,v2,a2,sd2,hb3,rfl,by omega,by omega,e2,ha2,hs2,hv2,hls2,hsg.trans hsl2,hsl.step hsl2 (by omega),kn,rfl⟩
    |@back _ _ _ _ n v2 m2 _ hu2 e1=>
     refine go _ _ _ _ (by omega) e1 (fun b v' a2 sd2 H6 hz hm2 ha2 hs2 hls2 hsl2 kn=>?_) (fun z a2 H6 hz=>by cases hz);obtain⟨rfl,rfl⟩:=Rt.env.inj hz;simp only[go_sem,Qd2,bkC,how];refine Qa ?_;simp only[go_sem,C.isPtr,or_true,true_or,true_and,how];refine Qb rfl (fun _=>?_) (fun h=>by cases h);refine Qa ?_;simp only[go_sem];refine Qh ?_;try simp only[go_sem,AE.X.next]
     exact retK (some n) v2 a2 sd2 H6 _ rfl hm2 ha2 hs2 hls2 ((hsg.trans hsl2).mono (by omega)) kn rfl
    |stS hu2 e1=>
     refine go _ _ _ _ (by omega) e1 (fun b v' a2 sd2 H6 hz=>by cases hz) (fun z a2 H6 hz hm2 ha2 kn=>?_);obtain rfl:=Rt.dn.inj hz;simp only[go_sem];exact hP _ a2 H6 rfl hm2 ha2 kn
   ·cases hev with
    |fuel _=>
     simp only[go_sem];exact hP 3 a1 H4 rfl rfl ha (Quj (A:=[(x8,_)]) (Qadk kn))
    |next hu2 _ _=>exfalso;omega
    |back hu2 _=>exfalso;omega
    |stS hu2 _=>exfalso;omega
  ·intro hc;have hge:l.length≤i:=by simpa using hc
   rw[Ju hge]at hev;obtain⟨q1,q2⟩:=Qbf0 hev;refine Q9 ?_;simp only[go_sem,AE.X.next];refine Qa ?_;simp only[go_sem];refine Qh ?_;exact retK none v1 a1 sd1 H1 _ q1 q2.symm ha hs hls (hsg.mono hi) kn rfl
theorem Qbe5 {fns:List Fn}{S h:Nat}{x:St}{v:Vars}{m m':Ms}{r:Rt}(hev:Ev fns S h (.lp x v) m r m') :
  ∃k r1 m1 h1,x.args=[k]∧h1<h∧Ev fns S h1 (.ex k v) m r1 m1∧((∃z,r1=.dn z∧r=.dn z∧m'=m1)∨(r1=.val 0∧r=.env none v∧m'=m1)∨
   ∃n h2 r2 m2,n≠0∧r1=.val n∧h2<h∧Ev fns S h2 (.blk x.body ([]::v)) m1 r2 m2∧((∃z v1,r2=.env (some z) v1∧r=.env (some z) v1.tail∧m'=m2)∨(∃z,r2=.dn z∧r=.dn z∧m'=m2)∨
    ∃v1,r2=.env none v1∧((m2.u=S∧r=.dn 3∧m'=m2)∨(m2.u<S∧∃h3,h3<h∧Ev fns S h3 (.lp x v1.tail) ⟨m2.u+1,m2.s,m2.c⟩ r m')))):=by
 cases hev with
 |lpS h1 e1=>exact⟨_,_,_,_,h1,by omega,e1,.inl ⟨_,rfl,rfl,rfl⟩⟩
 |lp0 h1 e1=>exact⟨_,_,_,_,h1,by omega,e1,.inr (.inl ⟨rfl,rfl,rfl⟩)⟩
 |lpB h1 e1 h2 e2=>exact⟨_,_,_,_,h1,by omega,e1,.inr (.inr ⟨_,_,_,_,h2,rfl,by omega,e2,.inl ⟨_,_,rfl,rfl,rfl⟩⟩)⟩
 |lpD h1 e1 h2 e2=>exact⟨_,_,_,_,h1,by omega,e1,.inr (.inr ⟨_,_,_,_,h2,rfl,by omega,e2,.inr (.inl ⟨_,rfl,rfl,rfl⟩)⟩)⟩
 |lpF h1 e1 h2 e2 h3=>exact⟨_,_,_,_,h1,by omega,e1,.inr (.inr ⟨_,_,_,_,h2,rfl,by omega,e2,.inr (.inr ⟨_,rfl,.inl ⟨h3,rfl,rfl⟩⟩)⟩)⟩
 |lpN h1 e1 h2 e2 h3 e3=>exact⟨_,_,_,_,h1,by omega,e1,.inr (.inr ⟨_,_,_,_,h2,rfl,by omega,e2,.inr (.inr ⟨_,rfl,.inr ⟨h3,_,by omega,e3⟩⟩)⟩)⟩
theorem ScL.all {n:Nat}{sd:ScD}(h:ScL n sd):∀y∈sd,y.2.2.length≤2^37:=by
 cases sd with
 |nil=>exact h.elim
 |cons x r=>
  intro y hy;rcases Jam.1 hy with rfl|hy
  ·have:=h.1;omega
  ·exact h.2 y hy
theorem Qbf7 {b c d:C}{m:List C}{j:Nat}:(b::c::d::m).drop (4+j)=m.drop (j+1):=by rw[show 4+j=(j+1)+3 by omega];rfl
theorem Qbki {h:Nat}(hE:∀h',h'<h→ExK X h')(hB:∀h',h'<h→BlkK X h'):StK X h:=by
 intro x v m r m' H0 H E B a sd K hev ham ha hlu hs hv hsl hxs kn hK hP;subst ham;have how:=Qaao sd.ls;have hse:=x.size_eq;have hbl:=Qan x.body;have hel:=Qan x.els;refine Qc Qal Q6t ?_;have retK:∀b v' a' sd' H' e,r=.env b v'→a'.m=m'→a'.ok X→ScD.ok vI sd' v'→sd'.ls=sd.ls→ScG 1 sd sd'→Kn H0 H' E (X.F a' sd' B)→lk 6 e=.c (bkC b)→Qp Qbe9 K .ret e H':=by
  intro b v' a' sd' H' e h1 h2 h3 h4 h5 h6 h7 h8;have hbo:=Qamk b;simp only[go_sem,Qp,Q8,Qbe9,Jb,forall_eq,RS.op,h8,hbo];exact hK b v' a' sd' H' h1 h2 h3 h4 h5 h6 h7
 have evA:∀(k:Ex) (v1:Vars) (sd1:ScD) (a1:Ma) (h1:Nat) (r1:Rt) (m1:Ms) (K1:V→Heap→Prop) (H1:Heap),h1<h→Ev X.fns X.S h1 (.ex k v1) a1.m r1 m1→a1.ok X→ScD.ok vI sd1 v1→vBy v1→sd1.ls=sd.ls→Kn H0 H1 E (X.F a1 sd1 B)→
   (∀(z:Nat) (a2:Ma) (H1:Heap),r1=.val z→a2.m=m1→a2.ok X→Kn H0 H1 E (X.F a2 sd1 B)→K1 (.c (.int .i64 (z:Nat))) H1)→
   (∀(z:Nat) (a':Ma) H',r1=.dn z→a'.m=m1→a'.ok X→Kn H0 H' E (X.F a' [] B)→K1 (.pn (endV z)) H')→
   Ql prog Qae [.c (.ptr X.l 0),.ag [.int .i64 k.op,.int .i64 k.n,.str k.name,.sl false 4 (Qt k.kids)],.c (scC sd.ls)] H1 K1:=by
  intro k v1 sd1 a1 h1 r1 m1 K1 H1 hh1 e1 ha1 hs1 hv1 hls kn hA hB;have hh:=hE h1 hh1 k v1 a1.m r1 m1 H0 H1 E B a1 sd1 K1 e1 rfl ha1 hs1 hv1 kn;rw[k.cells_eq,hls]at hh;exact hh hA hB
 refine Qa ?_;simp only[go_sem,x.cells_eq,how];refine Q6 ?_;refine Qa ?_;simp only[go_sem,how];refine Qf (Qb rfl (fun hc=>?_) (fun hc=>?_))
 ·have h6:x.op=6:=by simpa using hc
  cases hev with
  |@loop _ _ _ _ _ h0 _ e0=>
   refine Qf (Qd (Qab (fun mm e1 H1=>∃(v1:Vars) (a1:Ma) (sd1:ScD),mm<h0+1∧Ev X.fns X.S mm (.lp x v1) a1.m r m'∧a1.ok X∧ScD.ok vI sd1 v1∧vBy v1∧sd1.ls=sd.ls∧lenS sd1=lenS sd∧Kn H0 H1 E (X.F a1 sd1 B)∧
    lk 0 e1=.c (.ptr X.l 0)∧lk 2 e1=.c (scC sd.ls)∧lk 4 e1=.c (.pp [.int .i64 x.op,.str x.name,.sl false 4 (Qt x.args),.sl false 5 (Qk x.body),.sl false 5 (Qk x.els)])) h0 ?_ ?_))
   ·exact⟨v,a,sd,by omega,e0,ha,hs,hv,rfl,rfl,kn,rfl,rfl,rfl⟩
   ·clear kn ha hs hv hlu;rintro mm e1' H1 ⟨v1,a1,sd1,hmm,hev,ha,hs,hv,hls,hln,kn,l0,l2,l4⟩;obtain⟨k,r1,m1,h1,hk,hh1,e1,hr⟩:=Qbe5 hev;have hkl:0<x.args.length:=(by rw[hk];simp);have hx0:=List.getElem_of_eq hk hkl;rw[Ja]at hx0;have hsl1:ScL 1 sd1:=hsl.len hln;have b1:=e1.by (show vBy v1 from hv) ha.b;refine Q6 ?_;refine Qa ?_;simp only[go_sem,l0,l2,l4,how,hkl,Qj,Qr _ _ hkl,hx0,Ex.cells_eq];refine⟨by omega,evA k v1 sd1 a1 h1 r1 m1 _ _ (by omega) e1 ha hs hv hls kn (fun z a2 H2 hz hm2 ha2 kn=>?_) (fun z a2 H2 hz hm2 ha2 kn=>?_)⟩
    ·simp only[go_sem,Qkd,l0,l2,l4,how];rcases hr with ⟨z',q1,_⟩|⟨q1,q2,q3⟩|⟨n,h2,r2,m2,hn,q1,hh2,e2,hr2⟩
     ·rw[q1]at hz;cases hz
     ·rw[q1]at hz;obtain rfl:=Rt.val.inj hz;refine Qf (Qb rfl (fun h=>by simp[lk]at h) (fun _=>?_));refine Q9 ?_;simp only[go_sem,AE.X.next];refine Qa ?_;simp only[go_sem];refine Qh ?_;exact retK none v1 a2 sd1 H2 _ q2 (by rw[hm2,q3]) ha2 hs hls ((hsl.refl.len hln).mono (by omega)) kn rfl
     ·rw[q1]at hz;obtain rfl:=Rt.val.inj hz;subst hm2;refine Qf (Qb rfl (fun _=>?_) (fun h=>by simp[lk]at h;omega));refine Qe ?_;try simp only[go_sem]
      refine Qd ?_;refine Q6 ?_;refine Qa1 ?_;simp only[go_sem,how];refine Qaof how (fun lm nn H7 hlm h7=>?_);have kn:=Qaol (kn.al hlm h7);simp only[go_sem,Qkf,how];have hh:=hB h2 (by omega) x.body false ([]::v1) a2.m r2 m2 H0 H7 E B a2 ((lm,nn,[])::sd1);have hlsm:ScD.ls ((lm,nn,[])::sd1)=lm::sd.ls:=(by rw[←hls];rfl);rw[hlsm]at hh;have hsl1':=hsl1.all;refine hh _ e2 rfl ha2 ⟨.nil _,hs⟩ (vBy.push hv) ⟨by simp only[Ji];omega,hsl1'⟩ (by omega) kn (fun b v2 a3 sd2 H8 hz hm3 ha3 hs2 hls2 hsg2 kn=>?_) (fun z a3 H8 hz hm3 ha3 kn=>?_)
      ·obtain⟨x',t,rfl,ht1,ht2,ht3⟩:=Qa8d (x:=(lm,nn,[])) (sd:=sd1) hs2 (by rw[hls2,←hlsm]) hsg2;have kn:=Qa0o kn;have hbo:=Qamk b;simp only[go_sem,Qke,how,hbo];have hls3:t.ls=sd.ls:=ht1.trans hls;have hln3:lenS t=lenS sd:=ht3.trans hln;refine Q6 ?_;refine Qa ?_
       cases b with
       |none=>
        have hv3:=(e2.by (vBy.push hv) ha2.b).1;rw[hz]at hv3;simp only[go_sem,bkC,C.isPtr,or_true,true_or,true_and,how];refine Qf (Qb rfl (fun h=>by cases h) (fun _=>?_));refine Qe ?_;try simp only[go_sem]
        refine Qq ?_;simp only[go_sem,how];rcases hr2 with ⟨z',w,p1,_⟩|⟨z',p1,_⟩|⟨w,p1,p2⟩
        ·rw[p1]at hz;cases hz
        ·rw[p1]at hz;cases hz
        ·rw[p1]at hz;obtain⟨_,rfl⟩:=Rt.env.inj hz;refine Qa7i kn ha3 (fun H9 hu kn ha4=>?_) (fun hu=>?_)
         ·simp only[go_sem,AE.X.next,how];rcases p2 with ⟨q,_⟩|⟨q,h3,hh3,e3⟩
          ·exfalso;rw[←hm3]at q;omega
          ·refine⟨h3,by omega,w.tail,_,t,by omega,by rw[←hm3]at e3;exact e3,ha4,ht2,hv3.2.pop,hls3,hln3,?_⟩
           first|exact kn|exact⟨kn,rfl,rfl,rfl⟩
         ·simp only[go_sem];rcases p2 with ⟨q,q2,q3⟩|⟨q,_⟩
          ·exact hP 3 a3 H8 q2 (by rw[hm3,q3]) ha3 (Qadk kn)
          ·exfalso;rw[←hm3]at q;omega
       |some w=>
        simp only[go_sem,bkC,C.isPtr,or_true,true_or,true_and,how];refine Qf (Qb rfl (fun _=>?_) (fun h=>by cases h));refine Qa ?_;simp only[go_sem];refine Qh ?_;try simp only[go_sem,AE.X.next]
        rcases hr2 with ⟨z',w',p1,p2,p3⟩|⟨z',p1,_⟩|⟨w',p1,_⟩
        ·rw[p1]at hz;obtain⟨q,rfl⟩:=Rt.env.inj hz;obtain rfl:=Jl q;exact retK _ _ a3 t H8 _ p2 (by rw[hm3,p3]) ha3 ht2 hls3 ((hsl.refl.len hln3).mono (by omega)) kn rfl
        ·rw[p1]at hz;cases hz
        ·rw[p1]at hz;cases hz
      ·simp only[go_sem];rcases hr2 with ⟨z',v2,p1,_⟩|⟨z',p1,p2,p3⟩|⟨v2,p1,_⟩
       ·rw[p1]at hz;cases hz
       ·rw[p1]at hz;obtain rfl:=Rt.dn.inj hz;exact hP _ a3 H8 p2 (by rw[hm3,p3]) ha3 kn
       ·rw[p1]at hz;cases hz
    ·simp only[go_sem];rcases hr with ⟨z',q1,q2,q3⟩|⟨q1,_⟩|⟨n,h2,r2,m2,hn,q1,_⟩
     ·rw[q1]at hz;obtain rfl:=Rt.dn.inj hz;exact hP _ a2 H2 q2 (by rw[hm2,q3]) ha2 kn
     ·rw[q1]at hz;cases hz
     ·rw[q1]at hz;cases hz
  |_=>exfalso;omega
 have n6:¬x.op=6:=by simpa using hc
 refine Qe ?_;try simp only[go_sem]
 have t29:∀v' a' sd' H' e,r=.env none v'→a'.m=m'→a'.ok X→ScD.ok vI sd' v'→sd'.ls=sd.ls→ScG 1 sd sd'→Kn H0 H' E (X.F a' sd' B)→Q3 prog Qeh (Qp Qbe9 K) e H':=by
  intro v' a' sd' H' e h1 h2 h3 h4 h5 h6 h7;refine Qa ?_;simp only[go_sem];refine Qh ?_;exact retK none v' a' sd' H' _ h1 h2 h3 h4 h5 h6 h7 rfl
 have arg0:∀(k:Ex) (l:List Ex) (h1:Nat) (r1:Rt) (m1:Ms),x.args=k::l→h1<h→Ev X.fns X.S h1 (.ex k v) a.m r1 m1→
   (∀(z:Nat) (a1:Ma) (H1:Heap),r1=.val z→a1.m=m1→a1.ok X→Kn H0 H1 E (X.F a1 sd B)→
    Q3 prog Qkb (AE.X.sq prog Qeh (Qp Qbe9 K)) [(0,.c (.ptr X.l 0)),(2,.c (scC sd.ls)),(4,.c (.pp [.int .i64 x.op,.str x.name,.sl false 4 (Qt x.args),.sl false 5 (Qk x.body),.sl false 5 (Qk x.els)])),(8,.c (.int .i64 (z:Nat))),(40,.c (.int .i64 x.op))] H1)→
   (∀(z:Nat) (a':Ma) H',r1=.dn z→a'.m=m1→a'.ok X→Kn H0 H' E (X.F a' [] B)→K (.pn (endV z)) H')→
   Q3 prog Qkc (Qp Qbe9 K) [(0,.c (.ptr X.l 0)),(2,.c (scC sd.ls)),(4,.c (.pp [.int .i64 x.op,.str x.name,.sl false 4 (Qt x.args),.sl false 5 (Qk x.body),.sl false 5 (Qk x.els)])),(12,.c (.bool (decide (x.op=6))))] H:=by
  intro k l h1 r1 m1 hk hh1 e1 hA hB;have hkl:0<x.args.length:=by rw[hk];simp
  have hx0:=List.getElem_of_eq hk hkl;rw[Ja]at hx0;refine Qa ?_;simp only[go_sem,how,hkl,Qj,Qr _ _ hkl,hx0,Ex.cells_eq];refine⟨by omega,evA k v sd a h1 r1 m1 _ _ hh1 e1 ha hs hv rfl kn (fun z a2 H2 hz hm2 ha2 kn=>?_) (fun z a2 H2 hz hm2 ha2 kn=>?_)⟩
  ·simp only[go_sem,Qip,how];refine Q6 ?_;refine Qa ?_;simp only[go_sem,how];exact Qf (hA z a2 H2 hz hm2 ha2 kn)
  ·simp only[go_sem];exact hB z a2 H2 hz hm2 ha2 kn
 cases hev with
 |loop h6 _=>exact absurd h6 n6
 |argS _ hk _ e1=>exact arg0 _ _ _ _ _ hk (by omega) e1 (fun z a1 H1 hz=>by cases hz) (fun z a1 H1 hz hm1 ha1 kn=>hP z a1 H1 hz hm1 ha1 kn)
 |let_ h1 hk e1=>
  refine arg0 _ _ _ _ _ hk (by omega) e1 (fun z a1 H1 hz hm1 ha1 kn=>?_) (fun z a1 H1 hz=>by cases hz);obtain rfl:=(Rt.val.inj hz).symm;obtain⟨x0,rest,rfl⟩:∃x0 rest,sd=x0::rest:=by
   cases sd with
   |nil=>exact hsl.elim
   |cons p q=>exact⟨p,q,rfl⟩
  obtain⟨l0,n0,es0⟩:=x0;obtain⟨b,vr,rfl⟩:∃b vr,v=b::vr:=by
   cases v with
   |nil=>exact hs.elim
   |cons p q=>exact⟨p,q,rfl⟩
  obtain⟨hm0,hsr⟩:=hs;obtain⟨hl0,hl1⟩:=hsl;have hls:ScD.ls ((l0,n0,es0)::rest)=l0::ScD.ls rest:=rfl;have how2:=Qaao (ScD.ls rest);have hky:=eq_true hm0.ky;have hl:=Qbcv (p:=[]) kn;refine Qd ?_;refine Qa ?_;simp only[go_sem,how];refine Qb rfl (fun _=>?_) (fun h=>by simp[h1]at h);refine Qel ?_;simp only[go_sem,hls,scC,hl,Qf5,hky,how2,Jc,Jd];refine⟨by simp only[LIM];simp only at hl0;omega,?_⟩;intro H3 h3;have kn:=Qa7h (p:=[]) kn h3;try simp only[go_sem,AE.X.next]
  have hul:=Qacq x.name (.c (.int .i64 (z:Nat))) es0;exact t29 _ a1 ((l0,n0+1,Q1d (.str x.name) (.c (.int .i64 (z:Nat))) es0)::rest) H3 _ rfl hm1 ha1 ⟨hm0.put x.name z,hsr⟩ rfl ⟨hul,rfl⟩ kn
 |set h2 hk hf e1=>
  refine arg0 _ _ _ _ _ hk (by omega) e1 (fun z a1 H1 hz hm1 ha1 kn=>?_) (fun z a1 H1 hz=>by cases hz);obtain rfl:=(Rt.val.inj hz).symm;refine Qd ?_;refine Qa ?_;simp only[go_sem,how];refine Qb rfl (fun h=>by simp[h2]at h) (fun _=>?_);refine Qa ?_;simp only[go_sem,how];refine Qb rfl (fun _=>?_) (fun h=>by simp[h2]at h);refine Qel ?_;simp only[go_sem,how];refine Qba1 hs (fun y hy=>(kn.get (y.1,.map y.2.1 y.2.2) (Je _ (Je _ (Je _ (Jn _ (Jq.2 ⟨y,hy,rfl⟩)))))).1) hf (fun p l nn es q vp b vq hsd hvv hpl hno hany hm=>?_);have hky:=eq_true hm.ky;subst hsd;subst hvv;have hl:=Qbcv kn;have hes:es.length≤2^37:=hsl.all (l,nn,es) (by simp);have how2:=Qaao (ScD.ls q);simp only[go_sem,Qiq,C.isPtr,hl,Qf5,hky,how2,Jc,Jd];refine⟨by simp only[LIM];omega,?_⟩;intro H3 h3;have kn:=Qa7h kn h3;try simp only[go_sem,AE.X.next]
  obtain⟨o1,o2⟩:=(ScD.ok_app hpl).1 hs;have hus:=Qavg x.name (.c (.int .i64 (z:Nat))) es hm.ky (by rw[hm.any];exact hany);refine t29 _ a1 _ H3 _ rfl hm1 ha1 ?_ ?_ ((hsl.refl.len ?_).mono (by omega)) kn
  ·rw[Qau6 hno hany];exact (ScD.ok_app hpl).2 ⟨o1,hm.set hany z,o2.2⟩
  ·simp[ScD.ls]
  ·simp[lenS,hus]
 |say h3 hk e1=>
  refine arg0 _ _ _ _ _ hk (by omega) e1 (fun z a1 H1 hz hm1 ha1 kn=>?_) (fun z a1 H1 hz=>by cases hz);obtain rfl:=(Rt.val.inj hz).symm;have hb1:=e1.by (show vBy v from hv) ha.b
  subst hm1;have hsl2:a1.m.s.length<a1.m.u:=by have:=hb1.2.2.2.1;simp only[Tk.sl]at this;omega
  have hX:=mF_o kn;have hco:=ha1.g.isOw;have hnl:=ha1.len;have hS:=ha1.S;have huS:=ha1.u;refine Qd ?_;refine Qa ?_;simp only[go_sem,how];refine Qb rfl (fun h=>by simp[h3]at h) (fun _=>?_);refine Qa ?_;simp only[go_sem,how];refine Qb rfl (fun h=>by simp[h3]at h) (fun _=>?_);refine Qa ?_;simp only[go_sem,how];refine Qb rfl (fun _=>?_) (fun h=>by simp[h3]at h);refine Qq ?_;simp only[go_sem,hX,hco,how];have kn:=mF_s kn;refine kn.growR ha1.g (new:=Qn [z]) (.mk' _ true 1 _) (Qav _) (by simp only[Qah,Jj,Ji,LIM];omega) fun t2 Lg2 H6 hgr2 hto2 kn=>?_;rw[show Qn a1.m.s++Qn [z]=Qn (a1.m.s++[z])by simp[Qn,Qm]]at hgr2;have hX:H6 X.l=.st (.sl X.fl 3 (Qy X.fns)::.int .i64 X.S::.int .i64 (a1.m.u:Nat)::a1.sc::Q9d a1.m.c):=kn.l 0 rfl;simp only[go_sem,Qir,hX,hto2,hnl];intro H7 h7;have kn:Kn H0 H7 E (X.F ⟨⟨a1.m.u,a1.m.s++[z],a1.m.c⟩,t2,Lg2⟩ sd B):=Qblc rfl (kn.stL 0 rfl h7);try simp only[go_sem,AE.X.next]
  refine t29 v ⟨⟨a1.m.u,a1.m.s++[z],a1.m.c⟩,t2,Lg2⟩ sd H7 _ rfl rfl ⟨hgr2,⟨ha1.b.c,ha1.b.cb,fun y hy=>?_⟩,by simp only[Jal,Jj,Ji];omega,ha1.u,ha1.S⟩ hs rfl (hsl.refl.mono (by omega)) kn;rcases J0.1 hy with hy|hy
  ·exact ha1.b.sb y hy
  ·simp only[Jb]at hy;subst hy;exact hb1.1
 |put h4 hk e1 e2 hn=>
  refine arg0 _ _ _ _ _ hk (by omega) e1 (fun z a1 H1 hz hm1 ha1 kn=>?_) (fun z a1 H1 hz=>by cases hz);obtain rfl:=(Rt.val.inj hz).symm;refine Qd ?_;refine Qa ?_;simp only[go_sem,how];refine Qb rfl (fun h=>by simp[h4]at h) (fun _=>?_);refine Qa ?_;simp only[go_sem,how];refine Qb rfl (fun h=>by simp[h4]at h) (fun _=>?_);refine Qa ?_;simp only[go_sem,how];refine Qb rfl (fun h=>by simp[h4]at h) (fun _=>?_);refine Qa ?_;simp only[go_sem,how];refine Qb rfl (fun _=>?_) (fun h=>by simp[h4]at h);have hkl:1<x.args.length:=by rw[hk];simp
  have hx1:=List.getElem_of_eq hk hkl;simp only[Jk,Ja]at hx1;subst hm1;refine Qa ?_;simp only[go_sem,how,hkl,Qj,Qr _ _ hkl,hx1,Ex.cells_eq];refine⟨by omega,evA _ v sd a1 _ _ _ _ _ (by omega) e2 ha1 hs hv rfl kn (fun z2 a2 H2 hz2 hm2 ha2 kn=>?_) (fun z2 a2 H2 hz2=>by cases hz2)⟩;obtain rfl:=(Rt.val.inj hz2).symm;have hb2:=e2.by (show vBy v from hv) ha1.b
  subst hm2;have hX:=mF_o kn;have hnl:=ha2.len;simp only[go_sem,Qd3,how];refine Qq ?_;simp only[go_sem,how];refine Qaok (fun h16=>?_) (fun h16=>by omega);simp only[go_sem,Qis,hX,hnl,Qbe0,Qbkm,Jj];refine⟨by omega,fun H3 h3=>?_⟩;have hcl:=ha2.b.c;have hput:=Qbc7 (c:=a2.m.c) (j:=z) (by omega) z2;rw[Qbf7,hput]at h3;have kn:Kn H0 H3 E (X.F ⟨⟨a2.m.u,a2.m.s,a2.m.c.set z z2⟩,a2.sc,a2.so⟩ sd B):=kn.stL 0 rfl h3;refine t29 v ⟨⟨a2.m.u,a2.m.s,a2.m.c.set z z2⟩,a2.sc,a2.so⟩ sd H3 _ rfl rfl ⟨ha2.g,⟨by simp[hcl],fun y hy=>?_,ha2.b.sb⟩,ha2.l,ha2.u,ha2.S⟩ hs rfl (hsl.refl.mono (by omega)) kn;rcases J3 hy with hy|rfl
  ·exact ha2.b.cb y hy
  ·exact hb2.1
 |putC h4 hk e1 e2 hn=>
  refine arg0 _ _ _ _ _ hk (by omega) e1 (fun z a1 H1 hz hm1 ha1 kn=>?_) (fun z a1 H1 hz=>by cases hz);obtain rfl:=(Rt.val.inj hz).symm;refine Qd ?_;refine Qa ?_;simp only[go_sem,how];refine Qb rfl (fun h=>by simp[h4]at h) (fun _=>?_);refine Qa ?_;simp only[go_sem,how];refine Qb rfl (fun h=>by simp[h4]at h) (fun _=>?_);refine Qa ?_;simp only[go_sem,how];refine Qb rfl (fun h=>by simp[h4]at h) (fun _=>?_);refine Qa ?_;simp only[go_sem,how];refine Qb rfl (fun _=>?_) (fun h=>by simp[h4]at h);have hkl:1<x.args.length:=by rw[hk];simp
  have hx1:=List.getElem_of_eq hk hkl;simp only[Jk,Ja]at hx1;subst hm1;refine Qa ?_;simp only[go_sem,how,hkl,Qj,Qr _ _ hkl,hx1,Ex.cells_eq];refine⟨by omega,evA _ v sd a1 _ _ _ _ _ (by omega) e2 ha1 hs hv rfl kn (fun z2 a2 H2 hz2 hm2 ha2 kn=>?_) (fun z2 a2 H2 hz2=>by cases hz2)⟩;simp only[go_sem,Qd3,how];refine Qq ?_;simp only[go_sem,how];refine Qaok (fun h16=>by omega) (fun h16=>?_);simp only[go_sem];exact hP 2 a2 H2 rfl hm2 ha2 (Qadk kn)
 |putS h4 hk e1 e2=>
  refine arg0 _ _ _ _ _ hk (by omega) e1 (fun z a1 H1 hz hm1 ha1 kn=>?_) (fun z a1 H1 hz=>by cases hz);obtain rfl:=(Rt.val.inj hz).symm;refine Qd ?_;refine Qa ?_;simp only[go_sem,how];refine Qb rfl (fun h=>by simp[h4]at h) (fun _=>?_);refine Qa ?_;simp only[go_sem,how];refine Qb rfl (fun h=>by simp[h4]at h) (fun _=>?_);refine Qa ?_;simp only[go_sem,how];refine Qb rfl (fun h=>by simp[h4]at h) (fun _=>?_);refine Qa ?_;simp only[go_sem,how];refine Qb rfl (fun _=>?_) (fun h=>by simp[h4]at h);have hkl:1<x.args.length:=by rw[hk];simp
  have hx1:=List.getElem_of_eq hk hkl;simp only[Jk,Ja]at hx1;subst hm1;refine Qa ?_;simp only[go_sem,how,hkl,Qj,Qr _ _ hkl,hx1,Ex.cells_eq];refine⟨by omega,evA _ v sd a1 _ _ _ _ _ (by omega) e2 ha1 hs hv rfl kn (fun z2 a2 H2 hz2=>by cases hz2) (fun z2 a2 H2 hz2 hm2 ha2 kn=>?_)⟩;simp only[go_sem];exact hP z2 a2 H2 hz2 hm2 ha2 kn
 |@ift _ _ _ _ m1 r0 _ ha0 hb0 _ h5 hk e1 hn e2=>
  refine arg0 _ _ _ _ _ hk (by omega) e1 (fun z a1 H1 hz hm1 ha1 kn=>?_) (fun z a1 H1 hz=>by cases hz);obtain rfl:=(Rt.val.inj hz).symm;subst hm1;refine Qd ?_;refine Qa ?_;simp only[go_sem,how];refine Qb rfl (fun h=>by simp[h5]at h) (fun _=>?_);refine Qa ?_;simp only[go_sem,how];refine Qb rfl (fun h=>by simp[h5]at h) (fun _=>?_);refine Qa ?_;simp only[go_sem,how];refine Qb rfl (fun h=>by simp[h5]at h) (fun _=>?_);refine Qa ?_;simp only[go_sem,how];refine Qb rfl (fun h=>by simp[h5]at h) (fun _=>?_);refine Qa ?_;simp only[go_sem,how];refine Qb rfl (fun _=>?_) (fun h=>by simp[h5]at h);refine Q6 ?_;refine Qa ?_;simp only[go_sem,how];refine Qf (Qb rfl (fun _=>?_) (fun h=>by simp[lk]at h;omega));refine Qa1 ?_;simp only[go_sem,how];refine Qaof how (fun lm nn H7 hlm h7=>?_);have kn:=Qaol (kn.al hlm h7);simp only[go_sem,Qiu,how];generalize hr0:r0.pop=rp at *;have hh:=hB hb0 (by omega) x.body false ([]::v) a1.m r0 m' H0 H7 E B a1 ((lm,nn,[])::sd);have hlsm:ScD.ls ((lm,nn,[])::sd)=lm::sd.ls:=rfl;rw[hlsm]at hh;refine hh _ e2 rfl ha1 ⟨.nil _,hs⟩ (vBy.push hv) ⟨by simp only[Ji];omega,hsl.all⟩ (by omega) kn (fun b v2 a3 sd2 H8 hz hm3 ha3 hs2 hls2 hsg2 kn=>?_) (fun z a3 H8 hz hm3 ha3 kn=>?_)
  ·obtain⟨x',t,rfl,ht1,ht2,ht3⟩:=Qa8d (x:=(lm,nn,[])) (sd:=sd) hs2 hls2 hsg2;have kn:=Qa0o kn;have hbo:=Qamk b;simp only[go_sem,Qit,how,hbo];refine Qh ?_;try simp only[go_sem,AE.X.next]
   exact retK b v2.tail a3 t H8 _ (by rw[←hr0,hz];rfl) hm3 ha3 ht2 ht1 ((hsl.refl.len ht3).mono (by omega)) kn rfl
  ·simp only[go_sem];exact hP z a3 H8 (by rw[←hr0,hz];rfl) hm3 ha3 kn
 |@iff_ _ _ _ m1 r0 _ ha0 hb0 _ h5 hk e1 e2=>
  refine arg0 _ _ _ _ _ hk (by omega) e1 (fun z a1 H1 hz hm1 ha1 kn=>?_) (fun z a1 H1 hz=>by cases hz);obtain rfl:=(Rt.val.inj hz).symm;subst hm1;refine Qd ?_;refine Qa ?_;simp only[go_sem,how];refine Qb rfl (fun h=>by simp[h5]at h) (fun _=>?_);refine Qa ?_;simp only[go_sem,how];refine Qb rfl (fun h=>by simp[h5]at h) (fun _=>?_);refine Qa ?_;simp only[go_sem,how];refine Qb rfl (fun h=>by simp[h5]at h) (fun _=>?_);refine Qa ?_;simp only[go_sem,how];refine Qb rfl (fun h=>by simp[h5]at h) (fun _=>?_);refine Qa ?_;simp only[go_sem,how];refine Qb rfl (fun _=>?_) (fun h=>by simp[h5]at h);refine Q6 ?_;refine Qa ?_;simp only[go_sem,how];refine Qf (Qb rfl (fun h=>by simp[lk]at h) (fun _=>?_));refine Qe ?_;try simp only[go_sem]
  refine Qa1 ?_;simp only[go_sem,how];refine Qaof how (fun lm nn H7 hlm h7=>?_);have kn:=Qaol (kn.al hlm h7);simp only[go_sem,Qiw,how];generalize hr0:r0.pop=rp at *;have hh:=hB hb0 (by omega) x.els false ([]::v) a1.m r0 m' H0 H7 E B a1 ((lm,nn,[])::sd);have hlsm:ScD.ls ((lm,nn,[])::sd)=lm::sd.ls:=rfl;rw[hlsm]at hh;refine hh _ e2 rfl ha1 ⟨.nil _,hs⟩ (vBy.push hv) ⟨by simp only[Ji];omega,hsl.all⟩ (by omega) kn (fun b v2 a3 sd2 H8 hz hm3 ha3 hs2 hls2 hsg2 kn=>?_) (fun z a3 H8 hz hm3 ha3 kn=>?_)
  ·obtain⟨x',t,rfl,ht1,ht2,ht3⟩:=Qa8d (x:=(lm,nn,[])) (sd:=sd) hs2 hls2 hsg2;have kn:=Qa0o kn;have hbo:=Qamk b;simp only[go_sem,Qiv,how,hbo];refine Qh ?_;try simp only[go_sem,AE.X.next]
   exact retK b v2.tail a3 t H8 _ (by rw[←hr0,hz];rfl) hm3 ha3 ht2 ht1 ((hsl.refl.len ht3).mono (by omega)) kn rfl
  ·simp only[go_sem];exact hP z a3 H8 (by rw[←hr0,hz];rfl) hm3 ha3 kn
 |bck h7 hk e1=>
  refine arg0 _ _ _ _ _ hk (by omega) e1 (fun z a1 H1 hz hm1 ha1 kn=>?_) (fun z a1 H1 hz=>by cases hz);obtain rfl:=(Rt.val.inj hz).symm;refine Qd ?_;refine Qa ?_;simp only[go_sem,how];refine Qb rfl (fun h=>by simp[h7]at h) (fun _=>?_);refine Qa ?_;simp only[go_sem,how];refine Qb rfl (fun h=>by simp[h7]at h) (fun _=>?_);refine Qa ?_;simp only[go_sem,how];refine Qb rfl (fun h=>by simp[h7]at h) (fun _=>?_);refine Qa ?_;simp only[go_sem,how];refine Qb rfl (fun h=>by simp[h7]at h) (fun _=>?_);refine Qa ?_;simp only[go_sem,how];refine Qb rfl (fun h=>by simp[h7]at h) (fun _=>?_);refine Qa ?_;simp only[go_sem,how];refine Qb rfl (fun _=>?_) (fun h=>by simp[h7]at h);refine Qa ?_;simp only[go_sem];refine Qh ?_;try simp only[go_sem,AE.X.next]
  exact retK (some z) v a1 sd H1 _ rfl hm1 ha1 hs rfl (hsl.refl.mono (by omega)) kn rfl
 |do_ h8 hk e1=>
  refine arg0 _ _ _ _ _ hk (by omega) e1 (fun z a1 H1 hz hm1 ha1 kn=>?_) (fun z a1 H1 hz=>by cases hz);obtain rfl:=(Rt.val.inj hz).symm;refine Qd ?_;refine Qa ?_;simp only[go_sem,how];refine Qb rfl (fun h=>by simp[h8]at h) (fun _=>?_);refine Qa ?_;simp only[go_sem,how];refine Qb rfl (fun h=>by simp[h8]at h) (fun _=>?_);refine Qa ?_;simp only[go_sem,how];refine Qb rfl (fun h=>by simp[h8]at h) (fun _=>?_);refine Qa ?_;simp only[go_sem,how];refine Qb rfl (fun h=>by simp[h8]at h) (fun _=>?_);refine Qa ?_;simp only[go_sem,how];refine Qb rfl (fun h=>by simp[h8]at h) (fun _=>?_);refine Qa ?_;simp only[go_sem,how];refine Qb rfl (fun h=>by simp[h8]at h) (fun _=>?_);refine Qe ?_;try simp only[go_sem,AE.X.next]
  exact t29 v a1 sd H1 _ rfl hm1 ha1 hs rfl (hsl.refl.mono (by omega)) kn
theorem Qa0v (hsz:∀k (hk:k<X.fns.length),Qi X.fns[k].body≤4000∧X.fns[k].params.length≤3):∀n h,h<n→ExK X h∧Qbfj X h∧BlkK X h∧StK X h
 |0,_,h=>by omega
 |n+1,h,hh=>by
  have ih:=Qa0v hsz n;exact⟨Qbi3 (fun h' h1=>(ih h' (by omega)).1) (fun h' h1=>(ih h' (by omega)).2.1),Qbbb hsz (fun h' h1=>(ih h' (by omega)).2.2.1),
   Qbfy (fun h' h1=>(ih h' (by omega)).2.2.2),Qbki (fun h' h1=>(ih h' (by omega)).1) (fun h' h1=>(ih h' (by omega)).2.2.1)⟩
end Go.AE.Y
namespace Go.AE.Y
attribute [local go_sem] cond_true cond_false Bool.not_true Bool.not_false
open Go.Proofs.Tryz
variable {H H' H0:Heap}{K:V→Heap→Prop}{E A B:List (Nat×Obj)}{X:Sn}
def LpA (fns:List Fn)(S h:Nat)(x:St)(v:Vars)(m1:Ms)(n:Nat)(r:Rt)(m':Ms):Prop:=(n=0∧r=.env none v∧m'=m1)∨(n≠0∧∃h2 r2 m2,h2<h∧Ev fns S h2 (.blk x.body ([]::v)) m1 r2 m2∧
 ((∃z v1,r2=.env (some z) v1∧r=.env (some z) v1.tail∧m'=m2)∨(∃z,r2=.dn z∧r=.dn z∧m'=m2)∨
  ∃v1,r2=.env none v1∧((m2.u=S∧r=.dn 3∧m'=m2)∨(m2.u<S∧∃h3,h3<h∧Ev fns S h3 (.lp x v1.tail) ⟨m2.u+1,m2.s,m2.c⟩ r m'))))
theorem Qa7e {fns:List Fn}{S h:Nat}{x:St}{v:Vars}{m m':Ms}{r:Rt}(hev:Ev fns S h (.lp x v) m r m') :
  ∃k h1 m1 r1,x.args=[k]∧h1<h∧Ev fns S h1 (.ex k v) m r1 m1∧((∃z,r1=.dn z∧r=.dn z∧m'=m1)∨∃n,r1=.val n∧LpA fns S h x v m1 n r m'):=by
 obtain⟨k,r1,m1,h1,hk,hh1,e1,hr⟩:=Qbe5 hev;refine⟨k,h1,m1,r1,hk,hh1,e1,?_⟩;rcases hr with hr|⟨q1,q2,q3⟩|⟨n,h2,r2,m2,hn,q1,hh2,e2,hr2⟩
 ·exact .inl hr
 ·exact .inr ⟨0,q1,.inl ⟨rfl,q2,q3⟩⟩
 ·exact .inr ⟨n,q1,.inr ⟨hn,h2,r2,m2,hh2,e2,hr2⟩⟩
theorem Qbhs {h h0 w:Nat}(hE:∀h',h'<h→ExR X h')(hB:∀h',h'<h→BlkR X h'){x:St}{v:Vars}{r:Rt}{m':Ms}{a:Ma}{sv:Se}(hh0:h0≤h)(hk0:∃k,x.args=[k])
  (hl:LpA X.fns X.S h0 x v a.m w r m') (ha:a.sok X) (hok:sv.ok) (hF:sv.F=v.flatten) (hv:vBy v) (hsz:x.size+sv.F.length≤2^36) (kn:Kn H0 H E (X.G a none (sv.ob none++B)))
  (hK:∀b v' a' (sv':Se) H',r=.env b v'→a'.m=m'→a'.sok X→sv'.ok→sv'.l=sv.l→sv'.F=v'.flatten→Kn H0 H' E (X.G a' none (sv'.ob b++B))→K (.tup []) H')
  (hP:∀(z:Nat) a' (sv':Se) H',r=.dn z→a'.m=m'→a'.sok X→sv'.ok→sv'.l=sv.l→sv'.F.length=sv.F.length→Kn H0 H' E (X.G a' (some z) (sv'.ob none++B))→K (.tup []) H') :
  Ql prog Qqe [.c (.ptr X.l 0),.ag x.cells,.c (.int .i64 w),.c (.ptr sv.l 0)] H K:=by
 obtain⟨k,hk⟩:=hk0;have hkl:0<x.args.length:=by rw[hk];simp
 have hx0:=List.getElem_of_eq hk hkl;rw[Ja]at hx0;have hse:=x.size_eq;have hbl:=Qan x.body;refine Qc Qal Qarr ?_;refine Qa ?_;simp only[go_sem,x.cells_eq];refine Qd (Qab (fun mm e1 H1=>∃(w:Nat) (v1:Vars) (a1:Ma) (sv1:Se) (eo:Option Nat),mm<h0+1∧((eo=none∧LpA X.fns X.S mm x v1 a1.m w r m'∧sv1.F=v1.flatten∧vBy v1)∨∃z,eo=some z∧r=.dn z∧a1.m=m')∧a1.sok X∧sv1.ok∧sv1.l=sv.l∧sv1.F.length=sv.F.length∧
  Kn H0 H1 E (X.G a1 eo (sv1.ob none++B))∧
  e1=[(0,.c (.ptr X.l 0)),(2,.c (.int .i64 w)),(3,.c (.ptr sv.l 0)),(5,.c (.pp [.int .i64 x.op,.str x.name,.sl false 4 (Qt x.args),.sl false 5 (Qk x.body),.sl false 5 (Qk x.els)]))]) h0 ?_ ?_)
 ·exact⟨w,v,a,sv,none,by omega,.inl ⟨rfl,hl,hF,hv⟩,ha,hok,rfl,rfl,kn,rfl⟩
 ·clear kn ha hok hF hv hl;rintro mm e1 H1 ⟨w,v1,a1,sv1,eo,hmm,hmode,ha,hok1,hl1,hln,kn,rfl⟩;have hX:=sG_o kn;have hvv:=sG_v kn;rw[hl1]at hvv;refine Q6 ?_;refine Qa ?_;rcases hmode with ⟨rfl,hlp,hF1,hv1⟩|⟨z,rfl,hz,hm⟩
  ·rcases hlp with ⟨rfl,hr,hm⟩|⟨hn,h2,r2,m2,hh2,e2,hr2⟩
   ·simp only[go_sem,hX,Jh];refine Qf (Qb rfl (fun h=>by simp[lk]at h) (fun _=>?_));refine Q9 ?_;simp only[go_sem,AE.X.next,Qp,Q8,Qasa];exact hK none v1 a1 sv1 H1 hr hm.symm ha hok1 hl1 hF1 kn
   ·simp only[go_sem,hX,Jh];refine Qf (Qb rfl (fun _=>?_) (fun h=>by simp[lk]at h;omega));refine Qe ?_;try simp only[go_sem]
    refine Qd ?_;refine Qa ?_;simp only[go_sem];have hh:=hB h2 (by omega) x.body false ([]::v1) a1.m r2 m2 H0 H1 E B a1 sv1;rw[hl1]at hh;refine hh _ e2 rfl ha hok1 (by rw[hF1];simp) (by simp) (vBy.push hv1) (by omega) (by omega) kn (fun b v2 a2 sv2 H2 hz hm2 ha2 hok2 hl2 hF2 kn=>?_) (fun z a2 sv2 H2 hz hm2 ha2 hok2 hl2 hF2 kn=>?_)
    ·have hsh:=e2.shp;rw[hz]at hsh;obtain⟨g1,g2,_,_⟩:=hsh (by simp);have hln2:=Qajb g2;rw[show (([]:List (List UInt8×Nat))::v1).flatten=v1.flatten from rfl,Qac7 g1 (by rw[g2];rfl)]at hF2;have hlF:sv2.F.length=sv.F.length:=(by rw[hF2,Qyg,hln2,←Qyg,←hF1,hln]);have hX:=sG_o kn;have hvv:=sG_v kn;rw[hl2]at hvv;have hno:=hok2.n.isOw;have hvo:=hok2.v.isOw;simp only[go_sem];refine Q6 ?_;refine Qa ?_
     cases b with
     |some w2=>
      simp only[go_sem,hX,hvv,hno,hvo,Jh,Option.isSome_some];refine Qf (Qb rfl (fun _=>?_) (fun h=>by simp[lk]at h));refine Qh ?_;simp only[go_sem,AE.X.next,Qp,Q8,Qasa];rcases hr2 with ⟨z',v3,p1,p2,p3⟩|⟨z',p1,_⟩|⟨v3,p1,_⟩
      ·rw[p1]at hz;obtain⟨q,rfl⟩:=Rt.env.inj hz;obtain rfl:=Jl q;exact hK _ _ a2 sv2 H2 p2 (by rw[hm2,p3]) ha2 hok2 hl2 hF2 kn
      ·rw[p1]at hz;cases hz
      ·rw[p1]at hz;cases hz
     |none=>
      simp only[go_sem,hX,hvv,hno,hvo,Jh,Option.isSome_some];refine Qf (Qb rfl (fun h=>by simp[lk]at h) (fun _=>?_));refine Qe ?_;try simp only[go_sem]
      refine Qa ?_;simp only[go_sem];rcases hr2 with ⟨z',v3,p1,_⟩|⟨z',p1,_⟩|⟨v3,p1,p2⟩
      ·rw[p1]at hz;cases hz
      ·rw[p1]at hz;cases hz
      rw[p1]at hz;obtain⟨_,rfl⟩:=Rt.env.inj hz;subst hm2;have hv3:=((e2.by (vBy.push hv1) ha.b).1:Rt.by r2);rw[p1]at hv3;refine Qa8m kn ha2 (fun H3 hu kn ha3=>?_) (fun H3 hu kn=>?_)
      ·rcases p2 with ⟨q,_⟩|⟨_,h3,hh3,e3⟩
       ·exfalso;omega
       obtain⟨k',h4,m4,r4,hk',hh4,e4,hr4⟩:=Qa7e e3;obtain rfl:k=k':=(by rw[hk]at hk';simpa using hk');simp only[go_sem];refine Qq ?_;simp only[go_sem,hkl,Qj,Qr _ _ hkl,hx0,Ex.cells_eq];refine⟨by omega,?_⟩;have hh:=hE h4 (by omega) k v3.tail ⟨a2.m.u+1,a2.m.s,a2.m.c⟩ r4 m4 H0 H3 E B ⟨⟨a2.m.u+1,a2.m.s,a2.m.c⟩,a2.sc,a2.so⟩ sv2;rw[Ex.cells_eq,hl2]at hh;refine hh _ e4 rfl ha3 hok2 hF2 hv3.2.pop kn (fun w4 a4 H4 hz4 hm4 ha4 kn=>?_) (fun z4 w4 a4 H4 hz4 hm4 ha4 kn=>?_)
       ·simp only[go_sem,AE.X.next,Qgq];rcases hr4 with ⟨z',q1,_⟩|⟨n,q1,q2⟩
        ·rw[q1]at hz4;cases hz4
        ·rw[q1]at hz4;obtain rfl:=Rt.val.inj hz4;subst hm4;exact⟨h3,by omega,n,v3.tail,a4,sv2,none,by omega,.inl ⟨rfl,q2,hF2,hv3.2.pop⟩,ha4,hok2,hl2,hlF,kn,rfl⟩
       ·simp only[go_sem,AE.X.next,Qgq];rcases hr4 with ⟨z',q1,q2,q3⟩|⟨n,q1,q2⟩
        ·rw[q1]at hz4;obtain rfl:=Rt.dn.inj hz4;exact⟨h3,by omega,w4,v3.tail,a4,sv2,some z',by omega,.inr ⟨z',rfl,q2,by rw[hm4,q3]⟩,ha4,hok2,hl2,hlF,kn,rfl⟩
        ·rw[q1]at hz4;cases hz4
      ·rcases p2 with ⟨_,q2,q3⟩|⟨q,_⟩
       ·simp only[go_sem];refine Qq ?_;simp only[go_sem,hkl,Qj,Qr _ _ hkl,hx0,Ex.cells_eq];refine⟨by omega,?_⟩;have ho:=fun K1 hK1=>Qaem (K:=K1) (x:=k) (c:=.ptr sv.l 0) rfl kn hK1;rw[k.cells_eq]at ho;refine ho _ ?_;simp only[go_sem,AE.X.next,Qgq];exact⟨0,by omega,0,v3.tail,a2,sv2,some 3,by omega,.inr ⟨3,rfl,q2,q3.symm⟩,ha2,hok2,hl2,hlF,kn,rfl⟩
       ·exfalso;omega
    ·have hX:=sG_o kn;have hvv:=sG_v kn;rw[hl2]at hvv;have hno:=hok2.n.isOw;have hvo:=hok2.v.isOw;simp only[go_sem];refine Q6 ?_;refine Qa ?_;simp only[go_sem,hX,hvv,hno,hvo,Jh,Option.isSome_some];refine Qf (Qb rfl (fun _=>?_) (fun h=>by simp[lk]at h));refine Qh ?_;simp only[go_sem,AE.X.next,Qp,Q8,Qasa];rcases hr2 with ⟨z',v3,p1,_⟩|⟨z',p1,p2,p3⟩|⟨v3,p1,_⟩
     ·rw[p1]at hz;cases hz
     ·rw[p1]at hz;obtain rfl:=Rt.dn.inj hz;exact hP _ a2 sv2 H2 p2 (by rw[hm2,p3]) ha2 hok2 hl2 (by rw[hF2,hln]) kn
     ·rw[p1]at hz;cases hz
  ·simp only[go_sem,hX,Option.isSome_some];refine Qf (Qb rfl (fun h=>by simp[lk]at h) (fun _=>?_));refine Q9 ?_;simp only[go_sem,AE.X.next,Qp,Q8,Qasa];exact hP z a1 sv1 H1 hz hm ha hok1 hl1 hln kn
theorem Qbdd {v:Vars}(h:v≠[])(s:List UInt8)(n:Nat):(Qa8 v s n).flatten=(s,n)::v.flatten:=by
 cases v with
 |nil=>exact absurd rfl h
 |cons b v=>rfl
theorem setF {F:List (List UInt8×Nat)}{k n:Nat}{s:List UInt8}(hk:k<F.length)(h1:F[k].1=s):((F.set k (s,n)).map Prod.fst).reverse=(F.map Prod.fst).reverse∧((F.set k (s,n)).map Prod.snd).reverse=(F.map Prod.snd).reverse.set (F.length-1-k) n:=by
 constructor
 ·congr 1;rw[Jav];apply Jao (by simp);intro i h2 h3;rw[List.getElem_set];split
  ·rename_i h;subst h;simp[h1]
  ·rfl
 ·rw[Jav];have:=Qbhq (l:=F.map Prod.snd) (k:=k) (by rw[Jz];exact hk) n;rw[Jz]at this;exact this.symm
theorem Qbkl {h:Nat}(hE:∀h',h'<h→ExR X h')(hB:∀h',h'<h→BlkR X h'):StR X h:=by
 intro x v m r m' H0 H E B a sv K hev ham ha hlu hok hF hvn hv hxs kn hK hP;subst ham;have hse:=x.size_eq;have hbl:=Qan x.body;have hel:=Qan x.els;refine Qc Qal Qars ?_;have evA:∀(k:Ex) (a1:Ma) (h1:Nat) (r1:Rt) (m1:Ms) (K1:V→Heap→Prop) (H1:Heap),h1<h→Ev X.fns X.S h1 (.ex k v) a1.m r1 m1→a1.sok X→Kn H0 H1 E (X.G a1 none (sv.ob none++B))→
   (∀(z:Nat) (a2:Ma) (H1:Heap),r1=.val z→a2.m=m1→a2.sok X→Kn H0 H1 E (X.G a2 none (sv.ob none++B))→K1 (.c (.int .i64 (z:Nat))) H1)→
   (∀(z w:Nat) (a':Ma) H',r1=.dn z→a'.m=m1→a'.sok X→Kn H0 H' E (X.G a' (some z) (sv.ob none++B))→K1 (.c (.int .i64 (w:Nat))) H')→
   Ql prog Qa2 [.c (.ptr X.l 0),.ag [.int .i64 k.op,.int .i64 k.n,.str k.name,.sl false 4 (Qt k.kids)],.c (.ptr sv.l 0)] H1 K1:=by
  intro k a1 h1 r1 m1 K1 H1 hh1 e1 ha1 kn hA hB;have hh:=hE h1 hh1 k v a1.m r1 m1 H0 H1 E B a1 sv K1 e1 rfl ha1 hok hF hv kn;rw[k.cells_eq]at hh;exact hh hA hB
 obtain⟨xb,hxb⟩:∃xb,V.c (.pp [.int .i64 x.op,.str x.name,.sl false 4 (Qt x.args),.sl false 5 (Qk x.body),.sl false 5 (Qk x.els)])=xb:=⟨_,rfl⟩;have t21:∀(w:Int) (w7:Int) (eo:Option Nat) (a1:Ma) (H1:Heap),a1.sok X→Kn H0 H1 E (X.G a1 eo (sv.ob none++B))→
   (eo=none→Q3 prog Qgr (Qp Qasa K) [(0,.c (.ptr X.l 0)),(2,.c (.ptr sv.l 0)),(4,xb),(6,.c (.int .i64 w)),(7,.c (.int .i64 w7)),(30,.c (.int .i64 x.op))] H1)→
   (∀z,eo=some z→r=.dn z∧a1.m=m')→
   Q3 prog Qxg (Qp Qasa K) [(0,.c (.ptr X.l 0)),(2,.c (.ptr sv.l 0)),(4,xb),(6,.c (.int .i64 w)),(7,.c (.int .i64 w7)),(17,.c (.bool (decide (x.op=4))))] H1:=by
  intro w w7 eo a1 H1 ha1 kn hA hD;have hX:=sG_o kn;subst hxb
  cases eo with
  |none=>
   refine Q6 ?_;refine Qa ?_;simp only[go_sem,hX,Jh];refine Qf (Qb rfl (fun h=>by simp[lk]at h) (fun _=>?_));refine Qe ?_;try simp only[go_sem]
   refine Qa ?_;simp only[go_sem];exact hA rfl
  |some z=>
   refine Q6 ?_;refine Qa ?_;simp only[go_sem,hX,Option.isSome_some];refine Qf (Qb rfl (fun _=>?_) (fun h=>by simp[lk]at h));refine Qh ?_;simp only[go_sem,Qp,Q8,Qasa];exact hP z a1 sv H1 (hD z rfl).1 (hD z rfl).2 ha1 hok rfl rfl kn
 have first:∀(k:Ex) (l:List Ex) (h1:Nat) (r1:Rt) (m1:Ms),x.args=k::l→h1<h→Ev X.fns X.S h1 (.ex k v) a.m r1 m1→(x.op=4→l≠[])→
   (∀(z:Nat) (a1:Ma) (H1:Heap),r1=.val z→a1.m=m1→a1.sok X→Kn H0 H1 E (X.G a1 none (sv.ob none++B))→x.op≠4→
    Q3 prog Qgr (Qp Qasa K) [(0,.c (.ptr X.l 0)),(2,.c (.ptr sv.l 0)),(4,xb),(6,.c (.int .i64 z)),(7,.c (.int .i64 0)),(30,.c (.int .i64 x.op))] H1)→
   (∀(z:Nat) (a1:Ma) (H1:Heap),r1=.val z→a1.m=m1→a1.sok X→Kn H0 H1 E (X.G a1 none (sv.ob none++B))→x.op=4→
    ∃k2 l2 h2 r2 m2,x.args=k::k2::l2∧h2<h∧Ev X.fns X.S h2 (.ex k2 v) m1 r2 m2∧
     (∀(z2:Nat) (a2:Ma) (H2:Heap),r2=.val z2→a2.m=m2→a2.sok X→Kn H0 H2 E (X.G a2 none (sv.ob none++B))→
      Q3 prog Qgr (Qp Qasa K) [(0,.c (.ptr X.l 0)),(2,.c (.ptr sv.l 0)),(4,xb),(6,.c (.int .i64 z)),(7,.c (.int .i64 z2)),(30,.c (.int .i64 x.op))] H2)∧
     ∀z2,r2=.dn z2→r=.dn z2∧m2=m')→
   (∀z,r1=.dn z→r=.dn z∧m1=m')→
   Q3 prog Qaam (Qp Qasa K) [(0,.c (.ptr X.l 0)),(1,.ag [.int .i64 x.op,.str x.name,.sl false 4 (Qt x.args),.sl false 5 (Qk x.body),.sl false 5 (Qk x.els)]),(2,.c (.ptr sv.l 0))] H:=by
  intro k l h1 r1 m1 hk hh1 e1 hl4 hA hA4 hD;have hkl:0<x.args.length:=by rw[hk];simp
  have hx0:=List.getElem_of_eq hk hkl;rw[Ja]at hx0;refine Qa ?_;simp only[go_sem];refine Qa ?_;simp only[go_sem,hkl,Qj,Qr _ _ hkl,hx0,Ex.cells_eq];refine⟨by omega,evA k a h1 r1 m1 _ _ hh1 e1 ha kn (fun z a1 H1 hz hm1 ha1 kn=>?_) (fun z w a1 H1 hz hm1 ha1 kn=>?_)⟩
  ·simp only[go_sem,Qmb];refine Qa ?_;simp only[go_sem];refine Q6 ?_;refine Qa ?_;simp only[go_sem];refine Qf (Qb rfl (fun hc=>?_) (fun hc=>?_))
   ·have h4:x.op=4:=(by simpa[lk]using hc);obtain⟨k2,l2,h2,r2,m2,q1,q2,q3,q4,q5⟩:=hA4 z a1 H1 hz hm1 ha1 kn h4;subst hm1;have hkl2:1<x.args.length:=(by rw[q1];simp);have hx1:=List.getElem_of_eq q1 hkl2;simp only[Jk,Ja]at hx1;refine Qq ?_;simp only[go_sem,hkl2,Qj,Qr _ _ hkl2,hx1,Ex.cells_eq];refine⟨by omega,evA k2 a1 h2 r2 m2 _ _ q2 q3 ha1 kn (fun z2 a2 H2 hz2 hm2 ha2 kn=>?_) (fun z2 w a2 H2 hz2 hm2 ha2 kn=>?_)⟩
    ·simp only[go_sem,Qgs];rw[hxb];exact t21 _ _ none a2 H2 ha2 kn (fun _=>q4 z2 a2 H2 hz2 hm2 ha2 kn) (fun z h=>by cases h)
    ·simp only[go_sem,Qgs];rw[hxb];exact t21 _ _ (some z2) a2 H2 ha2 kn (fun h=>by cases h) (fun z h=>by cases h;exact⟨(q5 z2 hz2).1,by rw[hm2,(q5 z2 hz2).2]⟩)
   ·have h4:x.op≠4:=(by simpa[lk]using hc);refine Qe ?_;try simp only[go_sem]
    rw[hxb];exact t21 _ _ none a1 H1 ha1 kn (fun _=>hA z a1 H1 hz hm1 ha1 kn h4) (fun z h=>by cases h)
  ·simp only[go_sem,Qmb];refine Qa ?_;simp only[go_sem];refine Q6 ?_;refine Qa ?_;simp only[go_sem];refine Qf (Qb rfl (fun hc=>?_) (fun hc=>?_))
   ·have h4:x.op=4:=(by simpa[lk]using hc);obtain⟨k2,l2,rfl⟩:∃k2 l2,l=k2::l2:=by
     cases l with
     |nil=>exact absurd rfl (hl4 h4)
     |cons p q=>exact⟨p,q,rfl⟩
    have hkl2:1<x.args.length:=(by rw[hk];simp);have hx1:=List.getElem_of_eq hk hkl2;simp only[Jk,Ja]at hx1;refine Qq ?_;simp only[go_sem,hkl2,Qj,Qr _ _ hkl2,hx1,Ex.cells_eq];refine⟨by omega,?_⟩;have ho:=fun K1 hK1=>Qaem (K:=K1) (x:=k2) (c:=.ptr sv.l 0) rfl kn hK1;rw[k2.cells_eq]at ho;refine ho _ ?_;simp only[go_sem,Qgs];rw[hxb];exact t21 _ _ (some z) a1 H1 ha1 kn (fun h=>by cases h) (fun z2 h=>by cases h;exact⟨(hD z hz).1,by rw[hm1,(hD z hz).2]⟩)
   ·have h4:x.op≠4:=(by simpa[lk]using hc);refine Qe ?_;try simp only[go_sem]
    rw[hxb];exact t21 _ _ (some z) a1 H1 ha1 kn (fun h=>by cases h) (fun z2 h=>by cases h;exact⟨(hD z hz).1,by rw[hm1,(hD z hz).2]⟩)
 rw[x.cells_eq]
 cases hev with
 |loop h6 e0=>
  obtain⟨k,h1,m1,r1,hk,hh1,e1,hr⟩:=Qa7e e0;refine first k [] h1 r1 m1 hk (by omega) e1 (fun h=>by omega) (fun z a1 H1 hz hm1 ha1 kn _=>?_) (fun z a1 H1 hz hm1 ha1 kn h4=>by omega) (fun z hz=>?_)
  ·rcases hr with ⟨z',q1,_⟩|⟨n,q1,q2⟩
   ·rw[q1]at hz;cases hz
   rw[q1]at hz;obtain rfl:=Rt.val.inj hz;subst hm1;subst hxb;refine Qd ?_;refine Qa ?_;simp only[go_sem];refine Qb rfl (fun h=>by simp[h6]at h) (fun _=>?_);refine Qa ?_;simp only[go_sem];refine Qb rfl (fun h=>by simp[h6]at h) (fun _=>?_);refine Qa ?_;simp only[go_sem];refine Qb rfl (fun h=>by simp[h6]at h) (fun _=>?_);refine Qa ?_;simp only[go_sem];refine Qb rfl (fun h=>by simp[h6]at h) (fun _=>?_);refine Qa ?_;simp only[go_sem];refine Qb rfl (fun h=>by simp[h6]at h) (fun _=>?_);refine Qa ?_;simp only[go_sem];refine Qb rfl (fun _=>?_) (fun h=>by simp[h6]at h);have hh:=fun K1=>Qbhs (K:=K1) hE hB (h0:=_) (by omega) ⟨k,hk⟩ q2 ha1 hok hF hv hxs kn;rw[x.cells_eq]at hh;refine Qq ?_;simp only[go_sem];refine hh _ (fun b v' a' sv' H' p1 p2 p3 p4 p5 p6 kn=>?_) (fun z a' sv' H' p1 p2 p3 p4 p5 p6 kn=>?_)
   ·simp only[go_sem,AE.X.next,Qp,Q8,Qasa];exact hK b v' a' sv' H' p1 p2 p3 p4 p5 p6 kn
   ·simp only[go_sem,AE.X.next,Qp,Q8,Qasa];exact hP z a' sv' H' p1 p2 p3 p4 p5 p6 kn
  ·rcases hr with ⟨z',q1,q2,q3⟩|⟨n,q1,q2⟩
   ·rw[q1]at hz;obtain rfl:=Rt.dn.inj hz;exact⟨q2,q3.symm⟩
   ·rw[q1]at hz;cases hz
 |argS h6 hk hl e1=>
  refine first _ _ _ _ _ hk (by omega) e1 hl (fun z a1 H1 hz=>by cases hz) (fun z a1 H1 hz=>by cases hz) (fun z hz=>?_);obtain rfl:=Rt.dn.inj hz;exact⟨rfl,rfl⟩
 |let_ h1 hk e1=>
  refine first _ _ _ _ _ hk (by omega) e1 (fun h=>by omega) (fun z a1 H1 hz hm1 ha1 kn _=>?_) (fun z a1 H1 hz hm1 ha1 kn h4=>by omega) (fun z hz=>by cases hz);obtain rfl:=(Rt.val.inj hz).symm;subst hxb;refine Qd ?_;refine Qa ?_;simp only[go_sem];refine Qb rfl (fun _=>?_) (fun h=>by simp[h1]at h);have hvv:=sG_v kn;have hno:=hok.n.isOw;have hvo:=hok.v.isOw;have hnl:sv.nms.length=sv.F.length:=by simp[Se.nms]
  have hvl:sv.vals.length=sv.F.length:=by simp[Se.vals]
  refine Qa1 ?_;simp only[go_sem,hvv,hno,hvo];have knp:Kn H0 H1 E (([(X.l,X.o a1 none)]++(a1.so++([(X.y,.vec 1 (Qn a1.m.c))]++([(sv.l,sv.o none)]++(sv.vl++B)))))++sv.nl):=kn.perm (Qaa fun f hf h0 hc hp=>by simp only[Sn.G,Se.ob,hf];omega);refine Kn.growP (new:=Q0 [x.name]) knp hok.n (.mk' _ true 1 _) (Qaw _) (by simp only[Qo,hnl,Jj,Ji,LIM];omega) fun nc nl H2 hgn kn=>?_;have kn:Kn H0 H2 E (X.G a1 none ((sv.l,sv.o none)::(sv.vl++(nl++B)))):=kn.perm (Qaa fun f hf h0 hc hp=>by simp only[Sn.G,hf];rw[hc _ (sv.vl++(nl++B))];simp only[hf];omega);have hvv:H2 sv.l=.st [sv.nc,sv.vc,.bool false,.int .i64 0]:=Qdz (A:=[]) kn;have hnc:=hgn.isOw;simp only[go_sem,Qxh,hvv,hno,hvo,hnc];intro H3 h3;have kn:Kn H0 H3 E (X.G a1 none ((sv.l,.st [nc,sv.vc,.bool false,.int .i64 0])::(sv.vl++(nl++B)))):=Qu2 (A:=[]) kn h3;have hvv:H3 sv.l=.st [nc,sv.vc,.bool false,.int .i64 0]:=Qdz (A:=[]) kn;refine Qq ?_;simp only[go_sem,hvv,hno,hvo,hnc];have knp:Kn H0 H3 E (([(X.l,X.o a1 none)]++(a1.so++([(X.y,.vec 1 (Qn a1.m.c))]++([(sv.l,.st [nc,sv.vc,.bool false,.int .i64 0])]++(nl++B)))))++sv.vl):=kn.perm (Qaa fun f hf h0 hc hp=>by simp only[Sn.G,hf];rw[hc _ (sv.vl++(nl++B))];simp only[hf];omega);refine Kn.growP (new:=Qn [z]) knp hok.v (.mk' _ true 1 _) (Qav _) (by simp only[Qah,hvl,Jj,Ji,LIM];omega) fun vc vl H4 hgv kn=>?_;have kn:Kn H0 H4 E (X.G a1 none ((sv.l,.st [nc,sv.vc,.bool false,.int .i64 0])::(nl++(vl++B)))):=kn.perm (Qaa fun f hf h0 hc hp=>by simp only[Sn.G,hf];rw[hc _ (nl++(vl++B))];simp only[hf];omega);have hvv:H4 sv.l=.st [nc,sv.vc,.bool false,.int .i64 0]:=Qdz (A:=[]) kn;have hvc:=hgv.isOw;simp only[go_sem,Qxi,hvv,hno,hvo,hnc,hvc];intro H5 h5;have kn:Kn H0 H5 E (X.G a1 none ((sv.l,.st [nc,vc,.bool false,.int .i64 0])::(nl++(vl++B)))):=Qu2 (A:=[]) kn h5;try simp only[go_sem,AE.X.next,Qp,Q8,Qasa]
  refine hK none _ a1 ⟨sv.l,(x.name,z)::sv.F,nc,nl,vc,vl⟩ H5 rfl hm1 ha1 ⟨?_,?_⟩ rfl (by rw[Qbdd hvn,hF]) (by simpa[Se.ob,Se.o]using kn)
  ·have:Q0 (Se.nms ⟨sv.l,(x.name,z)::sv.F,nc,nl,vc,vl⟩)=Q0 sv.nms++Q0 [x.name]:=by simp[Se.nms,Q0]
   rw[this];exact hgn
  ·have:Qn (Se.vals ⟨sv.l,(x.name,z)::sv.F,nc,nl,vc,vl⟩)=Qn sv.vals++Qn [z]:=by simp[Se.vals,Qn,Qm]
   rw[this];exact hgv
 |set h2 hk hf e1=>
  refine first _ _ _ _ _ hk (by omega) e1 (fun h=>by omega) (fun z a1 H1 hz hm1 ha1 kn _=>?_) (fun z a1 H1 hz hm1 ha1 kn h4=>by omega) (fun z hz=>by cases hz);obtain rfl:=(Rt.val.inj hz).symm;subst hxb;refine Qd ?_;refine Qa ?_;simp only[go_sem];refine Qb rfl (fun h=>by simp[h2]at h) (fun _=>?_);refine Qa ?_;simp only[go_sem];refine Qb rfl (fun _=>?_) (fun h=>by simp[h2]at h);rw[Qaqv,←hF,Option.isSome_map]at hf;have hvv:=sG_v kn;have hno:=hok.n.isOw;have hvo:=hok.v.isOw;have hs:=sG_n kn hok;have hw:=sG_w kn hok;have hok2:=eq_true hw.ok;have hlen2:=hw.len;have hsz2:=hw.sz;have hrw2:=hw.rows;refine Qel ?_;simp only[go_sem,hvv,hno,hvo];refine Qbfd (F:=sv.F) hs hno hf (fun k hk hk1 hk2=>?_);have hvl:sv.vals.length=sv.F.length:=by simp[Se.vals]
  have hlt:sv.F.length-1-k<sv.vals.length:=by omega
  simp only[go_sem,Qxj,hvv,hno,hvo,hok2,hlen2,hsz2,hrw2,Qah,hlt];rcases hok.v with ⟨_,q2,_⟩|⟨y,R,q1,q2,q3⟩
  ·exfalso;have:=congrArg List.length q2;rw[Qah,hvl]at this;have h0:sv.F.length=0:=this;omega
  rw[Qah]at q1 q3;have hy:H1 y=.vec 1 R:=(kn.get (y,.vec 1 R) (by simp[Sn.G,Se.ob,q2])).1;have hRl:sv.vals.length≤R.length:=by
   have:=congrArg List.length q3;rw[List.length_take,Qah]at this;omega
  have hgl:(R.getD (sv.F.length-1-k) []).drop 1=[]:=by
   have hlt2:sv.F.length-1-k<R.length:=by omega
   have e1:R[sv.F.length-1-k]? = (Qn sv.vals)[sv.F.length-1-k]?:=by rw[←q3,Jak,if_pos hlt]
   rw[Jf,e1,←Jf,Qdw _ _ hlt];rfl
  rw[q1];simp only[hy,Jae,List.take_zero,List.nil_append,hgl];refine⟨trivial,trivial,hlt,hRl,by omega,fun H3 h3=>?_⟩;try simp only[go_sem,AE.X.next,Qp,Q8,Qasa]
  obtain⟨r1,r2⟩:=setF (n:=z) hk hk1;refine hK none _ a1 ⟨sv.l,sv.F.set k (x.name,z),sv.nc,sv.nl,sv.vc,[(y,.vec 1 (R.set (sv.F.length-1-k) [.int .i64 (z:Nat)]))]⟩ H3 rfl hm1 ha1 ⟨?_,?_⟩ rfl ?_ ?_
  ·rw[Se.nms];simp only;rw[r1];exact hok.n
  ·rw[Se.vals];simp only;rw[r2];refine .inr ⟨y,_,?_,rfl,?_⟩
   ·rw[q1,Qah];simp[Se.vals]
   ·rw[Qah,Jar,show (sv.F.map Prod.snd).reverse.length=sv.vals.length from rfl,List.take_set,q3];simp[Qn,Qm,Se.vals]
  ·simp only;rw[Qau5,←hF,Qbaj hk hk1 hk2]
  ·have k2:Kn H0 H1 E (X.G a1 none (([(sv.l,sv.o none)]++sv.nl)++(y,.vec 1 R)::B)):=by simpa[Se.ob,q2]using kn
   have k3:=Qu2 k2 h3;simpa[Se.ob,Se.o]using k3
 |say h3 hk e1=>
  refine first _ _ _ _ _ hk (by omega) e1 (fun h=>by omega) (fun z a1 H1 hz hm1 ha1 kn _=>?_) (fun z a1 H1 hz hm1 ha1 kn h4=>by omega) (fun z hz=>by cases hz);obtain rfl:=(Rt.val.inj hz).symm;have hb1:=e1.by (show vBy v from hv) ha.b
  subst hm1;have hsl2:a1.m.s.length<a1.m.u:=by have:=hb1.2.2.2.1;simp only[Tk.sl]at this;omega
  have hX:=sG_o kn;have hco:=ha1.g.isOw;have hS:=ha1.S;have huS:=ha1.u;subst hxb;refine Qd ?_;refine Qa ?_;simp only[go_sem];refine Qb rfl (fun h=>by simp[h3]at h) (fun _=>?_);refine Qa ?_;simp only[go_sem];refine Qb rfl (fun h=>by simp[h3]at h) (fun _=>?_);refine Qa ?_;simp only[go_sem];refine Qb rfl (fun _=>?_) (fun h=>by simp[h3]at h);refine Qq ?_;simp only[go_sem,hX,hco];have knp:Kn H0 H1 E (([(X.l,X.o a1 none)]++([(X.y,.vec 1 (Qn a1.m.c))]++(sv.ob none++B)))++a1.so):=kn.perm (Qaa fun f hf h0 hc hp=>by simp only[Sn.G,Se.ob,hf];omega);refine knp.growR ha1.g (new:=Qn [z]) (.mk' _ true 1 _) (Qav _) (by simp only[Qah,Jj,Ji,LIM];omega) fun t2 Lg2 H6 hgr2 hto2 kn=>?_;rw[show Qn a1.m.s++Qn [z]=Qn (a1.m.s++[z])by simp[Qn,Qm]]at hgr2;have hX:H6 X.l=.st [.sl X.fl 3 (Qy X.fns),a1.sc,.int .i64 0,.int .i64 0,.vsl X.y 1 0 16,.int .i64 (X.S-a1.m.u:Nat),.bool false]:=kn.l 0 rfl;simp only[go_sem,Qxk,hX,hto2];intro H7 h7;have kn:Kn H0 H7 E (([(X.l,.st [.sl X.fl 3 (Qy X.fns),t2,.int .i64 0,.int .i64 0,.vsl X.y 1 0 16,.int .i64 (X.S-a1.m.u:Nat),.bool false])]++([(X.y,.vec 1 (Qn a1.m.c))]++(sv.ob none++B)))++Lg2):=kn.stL 0 rfl h7;have kn:Kn H0 H7 E (X.G ⟨⟨a1.m.u,a1.m.s++[z],a1.m.c⟩,t2,Lg2⟩ none (sv.ob none++B)):=kn.perm (Qaa fun f hf h0 hc hp=>by simp only[Sn.G,Sn.o,Se.ob,hf,J9,Jh];have e0:((0:Nat):Int)=0:=rfl;rw[e0];omega);try simp only[go_sem,AE.X.next,Qp,Q8,Qasa]
  refine hK none v ⟨⟨a1.m.u,a1.m.s++[z],a1.m.c⟩,t2,Lg2⟩ sv H7 rfl rfl ⟨hgr2,⟨ha1.b.c,ha1.b.cb,fun y hy=>?_⟩,by simp only[Jal,Jj,Ji];omega,ha1.u,ha1.S⟩ hok rfl hF kn;rcases J0.1 hy with hy|hy
  ·exact ha1.b.sb y hy
  ·simp only[Jb]at hy;subst hy;exact hb1.1
 |put h4 hk e1 e2 hn=>
  refine first _ _ _ _ _ hk (by omega) e1 (fun _=>by simp) (fun z a1 H1 hz hm1 ha1 kn h=>absurd h4 h) (fun z a1 H1 hz hm1 ha1 kn _=>⟨_,_,_,_,_,hk,by omega,e2,fun z2 a2 H2 hz2 hm2 ha2 kn=>?_,fun z2 hz2=>?_⟩) (fun z hz=>by cases hz)
  rotate_left
  ·cases hz2
  obtain rfl:=(Rt.val.inj hz).symm;obtain rfl:=(Rt.val.inj hz2).symm;have b1:=e1.by (show vBy v from hv) ha.b
  have hb2:=e2.by (show vBy v from hv) b1.2.1
  subst hm2;subst hxb;refine Qd ?_;refine Qa ?_;simp only[go_sem];refine Qb rfl (fun h=>by simp[h4]at h) (fun _=>?_);refine Qa ?_;simp only[go_sem];refine Qb rfl (fun h=>by simp[h4]at h) (fun _=>?_);refine Qa ?_;simp only[go_sem];refine Qb rfl (fun h=>by simp[h4]at h) (fun _=>?_);refine Qa ?_;simp only[go_sem];refine Qb rfl (fun _=>?_) (fun h=>by simp[h4]at h);refine Q6 ?_;refine Qa ?_;simp only[go_sem];refine Qf (Qb rfl (fun h=>by simp[lk]at h;omega) (fun _=>?_));refine Qe ?_;try simp only[go_sem]
  have hX:=sG_o kn;have hy:=sG_y kn;have hcl:=ha2.b.c;refine Qq ?_;simp only[go_sem,hX,hy,hcl,Qah];have hput:(Qn a2.m.c).set (0+z) (.int .i64 (z2:Nat)::List.drop 1 ((Qn a2.m.c).getD (0+z) []))=Qn (a2.m.c.set z z2):=by
   rw[Jae,Qdw _ _ (by omega)];simp[Qn,Qm]
  refine⟨hn,hn,fun H3 h3=>?_⟩;rw[hput]at h3;have kn2:Kn H0 H2 E (([(X.l,X.o a2 none)]++a2.so)++(X.y,.vec 1 (Qn a2.m.c))::(sv.ob none++B)):=by simpa[Sn.G]using kn
  have kn3:=kn2.stM h3;have kn:Kn H0 H3 E (X.G ⟨⟨a2.m.u,a2.m.s,a2.m.c.set z z2⟩,a2.sc,a2.so⟩ none (sv.ob none++B)):=by simpa[Sn.G,Sn.o]using kn3
  try simp only[go_sem,AE.X.next,Qp,Q8,Qasa]
  refine hK none v ⟨⟨a2.m.u,a2.m.s,a2.m.c.set z z2⟩,a2.sc,a2.so⟩ sv H3 rfl rfl ⟨ha2.g,⟨by simp[hcl],fun y hy=>?_,ha2.b.sb⟩,ha2.l,ha2.u,ha2.S⟩ hok rfl hF kn;rcases J3 hy with hy|rfl
  ·exact ha2.b.cb y hy
  ·exact hb2.1
 |putC h4 hk e1 e2 hn=>
  refine first _ _ _ _ _ hk (by omega) e1 (fun _=>by simp) (fun z a1 H1 hz hm1 ha1 kn h=>absurd h4 h) (fun z a1 H1 hz hm1 ha1 kn _=>⟨_,_,_,_,_,hk,by omega,e2,fun z2 a2 H2 hz2 hm2 ha2 kn=>?_,fun z2 hz2=>?_⟩) (fun z hz=>by cases hz)
  rotate_left
  ·cases hz2
  obtain rfl:=(Rt.val.inj hz).symm;obtain rfl:=(Rt.val.inj hz2).symm;subst hxb;refine Qd ?_;refine Qa ?_;simp only[go_sem];refine Qb rfl (fun h=>by simp[h4]at h) (fun _=>?_);refine Qa ?_;simp only[go_sem];refine Qb rfl (fun h=>by simp[h4]at h) (fun _=>?_);refine Qa ?_;simp only[go_sem];refine Qb rfl (fun h=>by simp[h4]at h) (fun _=>?_);refine Qa ?_;simp only[go_sem];refine Qb rfl (fun _=>?_) (fun h=>by simp[h4]at h);refine Q6 ?_;refine Qa ?_;simp only[go_sem];refine Qf (Qb rfl (fun _=>?_) (fun h=>by simp[lk]at h;omega));refine Qa ?_;simp only[go_sem];refine Qao5 (z:=2) kn fun H3 kn=>?_;simp only[go_sem];refine Qh ?_;simp only[go_sem,AE.X.next,Qp,Q8,Qasa];exact hP 2 a2 sv H3 rfl hm2 ha2 hok rfl rfl kn
 |putS h4 hk e1 e2=>
  refine first _ _ _ _ _ hk (by omega) e1 (fun _=>by simp) (fun z a1 H1 hz hm1 ha1 kn h=>absurd h4 h) (fun z a1 H1 hz hm1 ha1 kn _=>⟨_,_,_,_,_,hk,by omega,e2,fun z2 a2 H2 hz2 hm2 ha2 kn=>?_,fun z2 hz2=>?_⟩) (fun z hz=>by cases hz)
  ·cases hz2
  ·obtain rfl:=Rt.dn.inj hz2;exact⟨rfl,rfl⟩
 |@ift _ _ _ _ m1 r0 _ hq0 hq1 _ h5 hk e1 hn e2=>
  refine first _ _ _ _ _ hk (by omega) e1 (fun h=>by omega) (fun z a1 H1 hz hm1 ha1 kn _=>?_) (fun z a1 H1 hz hm1 ha1 kn h4=>by omega) (fun z hz=>by cases hz);obtain rfl:=(Rt.val.inj hz).symm;subst hm1;generalize hr0:r0.pop=rp at *;subst hxb;refine Qd ?_;refine Qa ?_;simp only[go_sem];refine Qb rfl (fun h=>by simp[h5]at h) (fun _=>?_);refine Qa ?_;simp only[go_sem];refine Qb rfl (fun h=>by simp[h5]at h) (fun _=>?_);refine Qa ?_;simp only[go_sem];refine Qb rfl (fun h=>by simp[h5]at h) (fun _=>?_);refine Qa ?_;simp only[go_sem];refine Qb rfl (fun h=>by simp[h5]at h) (fun _=>?_);refine Qa ?_;simp only[go_sem];refine Qb rfl (fun _=>?_) (fun h=>by simp[h5]at h);refine Qa ?_;simp only[go_sem];refine Qb rfl (fun _=>?_) (fun h=>by simp[lk]at h;omega);refine Qq ?_;simp only[go_sem];have hh:=hB hq1 (by omega) x.body false ([]::v) a1.m r0 m' H0 H1 E B a1 sv;refine hh _ e2 rfl ha1 hok (by rw[hF];simp) (by simp) (vBy.push hv) (by omega) (by omega) kn (fun b v2 a3 sv2 H8 hz3 hm3 ha3 hok3 hl3 hF3 kn=>?_) (fun z3 a3 sv2 H8 hz3 hm3 ha3 hok3 hl3 hF3 kn=>?_)
  ·simp only[go_sem,AE.X.next,Qp,Q8,Qasa];have hsh:=e2.shp;rw[hz3]at hsh;obtain⟨g1,g2,_,_⟩:=hsh (by simp);rw[show (([]:List (List UInt8×Nat))::v).flatten=v.flatten from rfl,Qac7 g1 (by rw[g2];rfl)]at hF3;exact hK b v2.tail a3 sv2 H8 (by rw[←hr0,hz3];rfl) hm3 ha3 hok3 hl3 hF3 kn
  ·simp only[go_sem,AE.X.next,Qp,Q8,Qasa];exact hP z3 a3 sv2 H8 (by rw[←hr0,hz3];rfl) hm3 ha3 hok3 hl3 hF3 kn
 |@iff_ _ _ _ m1 r0 _ hq0 hq1 _ h5 hk e1 e2=>
  refine first _ _ _ _ _ hk (by omega) e1 (fun h=>by omega) (fun z a1 H1 hz hm1 ha1 kn _=>?_) (fun z a1 H1 hz hm1 ha1 kn h4=>by omega) (fun z hz=>by cases hz);obtain rfl:=(Rt.val.inj hz).symm;subst hm1;generalize hr0:r0.pop=rp at *;subst hxb;refine Qd ?_;refine Qa ?_;simp only[go_sem];refine Qb rfl (fun h=>by simp[h5]at h) (fun _=>?_);refine Qa ?_;simp only[go_sem];refine Qb rfl (fun h=>by simp[h5]at h) (fun _=>?_);refine Qa ?_;simp only[go_sem];refine Qb rfl (fun h=>by simp[h5]at h) (fun _=>?_);refine Qa ?_;simp only[go_sem];refine Qb rfl (fun h=>by simp[h5]at h) (fun _=>?_);refine Qa ?_;simp only[go_sem];refine Qb rfl (fun _=>?_) (fun h=>by simp[h5]at h);refine Qa ?_;simp only[go_sem];refine Qb rfl (fun h=>by simp[lk]at h) (fun _=>?_);refine Qq ?_;simp only[go_sem];have hh:=hB hq1 (by omega) x.els false ([]::v) a1.m r0 m' H0 H1 E B a1 sv;refine hh _ e2 rfl ha1 hok (by rw[hF];simp) (by simp) (vBy.push hv) (by omega) (by omega) kn (fun b v2 a3 sv2 H8 hz3 hm3 ha3 hok3 hl3 hF3 kn=>?_) (fun z3 a3 sv2 H8 hz3 hm3 ha3 hok3 hl3 hF3 kn=>?_)
  ·simp only[go_sem,AE.X.next,Qp,Q8,Qasa];have hsh:=e2.shp;rw[hz3]at hsh;obtain⟨g1,g2,_,_⟩:=hsh (by simp);rw[show (([]:List (List UInt8×Nat))::v).flatten=v.flatten from rfl,Qac7 g1 (by rw[g2];rfl)]at hF3;exact hK b v2.tail a3 sv2 H8 (by rw[←hr0,hz3];rfl) hm3 ha3 hok3 hl3 hF3 kn
  ·simp only[go_sem,AE.X.next,Qp,Q8,Qasa];exact hP z3 a3 sv2 H8 (by rw[←hr0,hz3];rfl) hm3 ha3 hok3 hl3 hF3 kn
 |bck h7 hk e1=>
  refine first _ _ _ _ _ hk (by omega) e1 (fun h=>by omega) (fun z a1 H1 hz hm1 ha1 kn _=>?_) (fun z a1 H1 hz hm1 ha1 kn h4=>by omega) (fun z hz=>by cases hz);obtain rfl:=(Rt.val.inj hz).symm;subst hxb;refine Qd ?_;refine Qa ?_;simp only[go_sem];refine Qb rfl (fun h=>by simp[h7]at h) (fun _=>?_);refine Qa ?_;simp only[go_sem];refine Qb rfl (fun h=>by simp[h7]at h) (fun _=>?_);refine Qa ?_;simp only[go_sem];refine Qb rfl (fun h=>by simp[h7]at h) (fun _=>?_);refine Qa ?_;simp only[go_sem];refine Qb rfl (fun h=>by simp[h7]at h) (fun _=>?_);refine Qa ?_;simp only[go_sem];refine Qb rfl (fun h=>by simp[h7]at h) (fun _=>?_);refine Qa ?_;simp only[go_sem];refine Qb rfl (fun h=>by simp[h7]at h) (fun _=>?_);refine Qa ?_;simp only[go_sem];refine Qb rfl (fun _=>?_) (fun h=>by simp[h7]at h);have hvv:=sG_v kn;have hno:=hok.n.isOw;have hvo:=hok.v.isOw;refine Qa ?_;simp only[go_sem,hvv,hno,hvo];intro H2 h2;have kn:Kn H0 H2 E (X.G a1 none ((sv.l,.st [sv.nc,sv.vc,.bool true,.int .i64 0])::((sv.nl++sv.vl)++B))):=Qu2 (A:=[]) (o:=sv.o none) kn h2;have hvv:H2 sv.l=.st [sv.nc,sv.vc,.bool true,.int .i64 0]:=Qdz (A:=[]) kn;refine Qq ?_;simp only[go_sem,hvv,hno,hvo];intro H3 h3;have kn:Kn H0 H3 E (X.G a1 none (sv.ob (some z)++B)):=Qu2 (A:=[]) kn h3;simp only[go_sem,AE.X.next,Qp,Q8,Qasa];exact hK (some z) v a1 sv H3 rfl hm1 ha1 hok rfl hF kn
 |do_ h8 hk e1=>
  refine first _ _ _ _ _ hk (by omega) e1 (fun h=>by omega) (fun z a1 H1 hz hm1 ha1 kn _=>?_) (fun z a1 H1 hz hm1 ha1 kn h4=>by omega) (fun z hz=>by cases hz);obtain rfl:=(Rt.val.inj hz).symm;subst hxb;refine Qd ?_;refine Qa ?_;simp only[go_sem];refine Qb rfl (fun h=>by simp[h8]at h) (fun _=>?_);refine Qa ?_;simp only[go_sem];refine Qb rfl (fun h=>by simp[h8]at h) (fun _=>?_);refine Qa ?_;simp only[go_sem];refine Qb rfl (fun h=>by simp[h8]at h) (fun _=>?_);refine Qa ?_;simp only[go_sem];refine Qb rfl (fun h=>by simp[h8]at h) (fun _=>?_);refine Qa ?_;simp only[go_sem];refine Qb rfl (fun h=>by simp[h8]at h) (fun _=>?_);refine Qa ?_;simp only[go_sem];refine Qb rfl (fun h=>by simp[h8]at h) (fun _=>?_);refine Qa ?_;simp only[go_sem];refine Qb rfl (fun h=>by simp[h8]at h) (fun _=>?_);refine Qe ?_;try simp only[go_sem,AE.X.next,Qp,Q8,Qasa]
  exact hK none v a1 sv H1 rfl hm1 ha1 hok rfl hF kn
end Go.AE.Y
namespace Go.AE
variable {H0 H H':Heap}{E L B Lg:List (Nat×Obj)}{S:Nat→Bool}
theorem Kn.freezeT (kn:Kn H0 H E (B++Lg)):∃S:Nat→Bool,(∀p∈Lg,H p.1=p.2∧S p.1=true)∧(∀p∈B,H p.1=p.2∧S p.1=false)∧FrzH H S (H.frz S)∧Kn H0 (H.frz S) E B:=by
 have hd:=kn.dL;rw[List.map_append]at hd;obtain⟨d1,d2,d3⟩:=List.nodup_append.1 hd;have keyB:∀m,m∉Lg.map Prod.fst→(Lg.map Prod.fst).contains m=false:=fun m hm=>by
  cases hc:(Lg.map Prod.fst).contains m with
  |false=>rfl
  |true=>exact absurd (Jac.1 hc) hm
 have key:∀m,m∉Lg.map Prod.fst→(H.frz fun m=>(Lg.map Prod.fst).contains m) m=H m:=fun m hm=>by
  simp only[Heap.frz,keyB m hm];rfl
 have hB:∀p∈B,p.1∉Lg.map Prod.fst:=fun p hp hh=>d3 _ (Qbn hp) _ hh rfl;refine⟨fun m=>(Lg.map Prod.fst).contains m,fun p hp=>⟨(kn.get p (Je _ (Je _ hp))).1,Jac.2 (Qbn hp)⟩,
  fun p hp=>⟨(kn.get p (Je _ (Jn _ hp))).1,keyB _ (hB p hp)⟩,Qqi _ _,?_⟩
 refine⟨fun p hp=>?_,kn.ext,fun p hp=>kn.loc p (Jn _ hp),kn.dE,d1,fun m hm hx=>?_⟩
 ·have hg:H p.1=p.2∧p.2≠.none:=kn.get p (by
   rcases J0.1 hp with h|h
   ·exact Jn _ h
   ·exact Je _ (Jn _ h))
  refine⟨?_,hg.2⟩;rw[key p.1 (fun hh=>?_)];exact hg.1;rcases J0.1 hp with h|h
  ·obtain⟨r,hr,he⟩:=Jq.1 hh;exact kn.ext p h (he▸kn.loc r (Je _ hr))
  ·exact hB p h hh
 ·rw[key m (fun hh=>?_)]
  ·exact kn.chg m hm hx
  ·obtain⟨r,hr,he⟩:=Jq.1 hh;exact hm (he▸kn.loc r (Je _ hr))
end Go.AE
namespace Go.AE.Y
variable {H:Heap}
theorem Q6f {S:Nat→Bool}{a b a' b':V}(h:FrzV H S a a')(k:FrzV H S b b'):FrzV H S (.tup [a,b]) (.tup [a',b']):=by
 refine .tup _ _ rfl fun j x x' h1 h2=>?_
 match j with
 |0=>simp at h1 h2;subst h1;subst h2;exact h
 |1=>simp at h1 h2;subst h1;subst h2;exact k
 |j+2=>simp at h1
end Go.AE.Y
namespace Go.AE.Y
attribute [local go_sem] cond_true cond_false Bool.not_true Bool.not_false
open Go.Proofs.Tryz
variable {H H0:Heap}{K:V→Heap→Prop}
theorem Qau7 {f g:Bool}{ns:List Int}(hK:K (.c (.bool true)) H):Ql prog Qqg [.c (.sl f 1 (Qm ns)),.c (.sl g 1 (Qm ns))] H K:=by
 refine Qc Qal Qa2o ?_;refine Qa ?_;simp only[go_sem];refine Q6 ?_;refine Qa ?_;simp only[go_sem,Qv,decide_true];intro hl;try intro _
 simp only[LIM]at hl;refine Qf (Qb rfl ?_ ?_)
 ·intro h;simp at h
 intro _;refine Qe ?_;try simp only[go_sem]
 refine Q6 ?_;refine Qa ?_;simp only[go_sem,Qv];try intro _
 refine Qf (Qd (Qab (fun m e1 H1=>∃(i:Nat),m=ns.length-i∧i≤ns.length∧H1=H∧lk 0 e1=.c (.sl f 1 (Qm ns))∧lk 1 e1=.c (.sl g 1 (Qm ns))∧lk 12 e1=.c (.int .i64 ns.length)∧lk 13 e1=.c (.int .i64 i)) ns.length ?_ ?_))
 ·exact⟨0,by omega,by omega,rfl,rfl,rfl,rfl,rfl⟩
 ·rintro m e1 H1 ⟨i,hm,hi,rfl,l0,l1,l12,l13⟩;refine Qa ?_;simp only[go_sem,l0,l1,l12,l13];refine Qf (Qb rfl ?_ ?_)
  ·intro hc;have hlt:i<ns.length:=by simpa using hc
   refine Qe ?_;try simp only[go_sem]
   refine Qf (Qd ?_);refine Qa ?_;simp only[go_sem];refine Qa1 ?_;simp only[go_sem,hlt,Qv,Qb3 _ _ hlt,decide_true];refine Qb rfl ?_ ?_
   ·intro h;simp at h
   intro _;refine Qe ?_;try simp only[go_sem]
   refine Qq ?_;simp only[go_sem];refine⟨Q1 (by omega) (by omega),?_⟩;show ∃m,_;exact⟨ns.length-(i+1),by omega,i+1,rfl,by omega,rfl,rfl,rfl,rfl,rfl⟩
  ·intro hc;refine Q9 ?_;simp only[go_sem,X.next];refine Qa ?_;simp only[go_sem];refine Qh ?_;simp only[go_sem,Qp,Q8,Qm4,Jb,forall_eq,RS.op];exact hK
theorem Qa0j {f g:Bool}{ns:List Int}(hK:K (.c (.bool true)) H):Ql prog Q4e [.c (.sl f 1 (Qm ns)),.c (.sl g 1 (Qm ns))] H K:=by
 refine Qc Qal Qbc5 ?_;refine Qa ?_;simp only[go_sem];refine Q6 ?_;refine Qa ?_;simp only[go_sem,Qv,decide_true];intro hl;try intro _
 simp only[LIM]at hl;refine Qf (Qb rfl ?_ ?_)
 ·intro h;simp at h
 intro _;refine Qe ?_;try simp only[go_sem]
 refine Q6 ?_;refine Qa ?_;simp only[go_sem];try intro _
 refine Qf (Qd (Qab (fun m e1 H1=>∃(i:Nat),m=ns.length-i∧i≤ns.length∧H1=H∧lk 0 e1=.c (.sl f 1 (Qm ns))∧lk 1 e1=.c (.sl g 1 (Qm ns))∧lk 5 e1=.c (.int .i64 i)) ns.length ?_ ?_))
 ·exact⟨0,by omega,by omega,rfl,rfl,rfl,rfl⟩
 ·rintro m e1 H1 ⟨i,hm,hi,rfl,l0,l1,l5⟩;refine Q6 ?_;refine Qa ?_;simp only[go_sem,l0,l1,l5,Qv];try intro _
  refine Qf (Qb rfl ?_ ?_)
  ·intro hc;have hlt:i<ns.length:=by simpa using hc
   refine Qe ?_;try simp only[go_sem]
   refine Qf (Qd ?_);refine Qa1 ?_;simp only[go_sem,hlt,Qv,Qb3 _ _ hlt,decide_true];refine Qb rfl ?_ ?_
   ·intro h;simp at h
   intro _;refine Qe ?_;try simp only[go_sem]
   refine Qq ?_;simp only[go_sem];refine⟨Q1 (by omega) (by omega),?_⟩;show ∃m,_;exact⟨ns.length-(i+1),by omega,i+1,rfl,by omega,rfl,rfl,rfl,rfl⟩
  ·intro hc;refine Q9 ?_;simp only[go_sem,X.next];refine Qa ?_;simp only[go_sem];refine Qh ?_;simp only[go_sem,Qp,Q8,Qm4,Jb,forall_eq,RS.op];exact hK
end Go.AE.Y
namespace Go.AE.Y
open Go.Proofs.Tryz
theorem Qa1y (p:Addr)(w:World) :
  CallsD prog Quc #[.pointer (some p)] .returning w fun e u' w'=>e=.returned (.tuple #[])∧u'=.returning∧w'=w:=by
 refine callsD_of_wpS Go.Proofs.Tryz.func196 rfl fun c₀ cs hu=>?_;apply wpS_seq;apply wpS_region;simp[wpOpsS,go_sem,recoverD,hu,Go.Proofs.Tryz.ntmps196,Exit.thenS];apply wpS_seq;apply wpS_region;simp[wpOpsS,go_sem,Exit.thenS];refine wpS_cond (t:=false) (by simp[Act.eval]) ?_;simp only[Jaj,if_false];refine wpS_of_wp (wp_skip ?_);cases c₀
 simp_all[bodyPostS,results,Go.Proofs.Tryz.results196]
set_option maxRecDepth 4000 in
theorem Qacw (p:Addr)(n:Int)(x:Value)(older:List PanicEntry)(w:World)(hc:w.cell? p=some x)(hz:w.frozen? p=false) :
  CallsD prog Quc #[.pointer (some p)] (.panicking ({ v:=.iface 234 (.int .i64 n),recovered:=false }::older)) w fun e u' w'=>
   e=.returned (.tuple #[])∧u'=.panicking ({ v:=.iface 234 (.int .i64 n),recovered:=true }::older)∧w'=w.setCell p (.int .i64 n):=by
 refine callsD_of_wpS Go.Proofs.Tryz.func196 rfl fun c₀ cs hu=>?_;apply wpS_seq;apply wpS_region;simp[wpOpsS,go_sem,recoverD,hu,Go.Proofs.Tryz.ntmps196,Exit.thenS];apply wpS_seq;apply wpS_region;simp[wpOpsS,go_sem,Exit.thenS];refine wpS_cond (t:=true) (by simp[Act.eval]) ?_;simp only[if_true];have hta:∀w:World,(Instr.typeAssert (.iface 234 (.int .i64 n)) 20 234 true).run prog w=.ok (.tuple #[.int .i64 n,.bool true]) w:=fun w=>by kernel_rfl
 apply wpS_seq;apply wpS_region;simp[wpOpsS,go_sem,Exit.thenS,hta];apply wpS_seq;apply wpS_seq;apply wpS_region;simp[wpOpsS,go_sem,Exit.thenS];refine wpS_cond (t:=false) (by simp[Act.eval]) ?_;simp only[Jaj,if_false];refine wpS_of_wp (wp_skip ?_);simp only[Exit.thenS];apply wpS_region;simp[wpOpsS,go_sem,hc,hz,bodyPostS,results,Go.Proofs.Tryz.results196]
theorem Qa1z {f : Nat} {caps : Array Value} {w : World} {R : Ending → World → Prop} (hf : fnOk prog f = true)
    (h : Calls prog f caps (w.alloc (.cells #[.int .i64 0] 3)) fun e w' => w'.cell? ⟨w.heap.size, 0, none⟩ = some (.int .i64 0) ∧ w'.frozen? ⟨w.heap.size, 0, none⟩ = false ∧
      ((∃ v, e = .returned v ∧ R (.returned (.int .i64 0)) (w'.setCell ⟨w.heap.size, 0, none⟩ (.int .i64 0))) ∨
       (∃ n, e = .panicked [{ v := .iface 234 (.int .i64 n), recovered := false }] ∧ R (.returned (.int .i64 n)) (w'.setCell ⟨w.heap.size, 0, none⟩ (.int .i64 n))))) :
    Calls prog Qub #[.func (.func f) #[] caps] w R := by
  have hmf : ∀ fn (first cap : Array Value) (w : World), (Instr.makeFunc fn first cap).run prog w = .ok (.func fn first cap) w := fun _ _ _ _ => rfl
  go_enter_defers Go.Proofs.Tryz.func114, Go.Proofs.Tryz.ntmps114
  go_wp2
  have hcall : ∀ w, (callFunc f caps).run prog w = .ok (.enter f caps) w := fun w => Qt7 hf caps w;simp only [hcall, Array.append_empty, Array.empty_append, Oper.upon_enter];refine h.mono ?_;rintro e w' ⟨hc, hz, hR⟩;rcases hR with ⟨v, rfl, hR⟩ | ⟨n, rfl, hR⟩
  · go_wp2
    refine leaves_cons (f := 196) (args := #[.pointer (some ⟨w.heap.size, 0, none⟩)]) (by simp) (by simp [go_sem]) ?_;refine (Qa1y ⟨w.heap.size, 0, none⟩ _).mono ?_;rintro e u' w'' ⟨rfl, rfl, rfl⟩;simp [Leaves, settle, results, Go.Proofs.Tryz.results114, go_sem];refine ⟨_, ?_, hR⟩;simp [go_sem, hc]
  · show Leaves _ _ _ _ _ _ _;refine leaves_cons (f := 196) (args := #[.pointer (some ⟨w.heap.size, 0, none⟩)]) (by simp) (by simp [go_sem]) ?_;refine (Qacw ⟨w.heap.size, 0, none⟩ n _ [] _ hc hz).mono ?_;rintro e u' w'' ⟨rfl, rfl, rfl⟩;simp [Leaves, settle, results, Go.Proofs.Tryz.results114, go_sem];refine ⟨_, ?_, hR⟩;simp [go_sem, hc]
variable {H:Heap}{K:V→Heap→Prop}
theorem Qazn {w:World}{b:Nat}{cs:Array Value}{T:TypeId}{v:Value}(h:w.heap[b]? = some (.cells cs T (0,0))):w.setCell ⟨b,0,none⟩ v=World.putCells w b (cs.setIfInBounds 0 v) T:=by
 unfold World.setCell World.putCells;congr 1;refine Array.ext_getElem? fun i=>?_;rw[Array.getElem?_modify,Array.getElem?_setIfInBounds];by_cases hi:b=i
 ·subst hi;rw[if_pos rfl,if_pos rfl,if_pos (Qhv h),h];rfl
 ·rw[if_neg hi,if_neg hi]
theorem Qbbe {f:Nat}{caps:List C}(hf:fnOk prog f=true)
  (h:∀xe,H xe=.none→∀H1,H1=H.set xe (.st [.int .i64 0])→Ql prog f (caps.map .c) H1 fun x H2=>H2 xe=.st [.int .i64 0]∧((∃n,x=.pn (endV n)∧∀H3,H3=H2.set xe (.st [.int .i64 n])→K (.c (.int .i64 n)) H3)∨
   ((∀v,x≠.pn v)∧∀H3,H3=H2.set xe (.st [.int .i64 0])→K (.c (.int .i64 0)) H3))) :
  Ql prog Qub [.c (.fn f caps)] H K:=by
 refine⟨by kernel_rfl,fun g w vs hs hl hv=>?_⟩;obtain⟨v,rfl⟩:∃v,vs=[v]:=by
  match vs,hl with
  |[v],_=>exact⟨v,rfl⟩
 have hr:=hv 0 _ v rfl rfl;obtain⟨cvs,rfl,hcl,hcv⟩:=hr.c_inv.fn_inv;obtain⟨xe,hxe,hHx⟩:=hs.newName;have hle:=Qf3 hs hxe 1 0 (.cells #[.int .i64 0] 3);have hst:=Qca hs hxe 1 0 (.cells #[.int .i64 0] 3) (.st [.int .i64 0]) (fun g' hg=>by
  subst hg;exact Qro (cells:=[.int .i64 0]) (fun j c u h1 h2=>by
   cases j with
   |zero=>simp at h1 h2;subst h1;subst h2;exact .int _ _
   |succ j=>simp at h1) rfl hle)
 refine Qa1z hf ?_;have hc:=(h xe hHx _ rfl).2 _ _ cvs hst.sat (by simp[hcl]) (fun j x u h1 h2=>by
  rw[Jg]at h1
  cases hj:caps[j]? with
  |none=>rw[hj]at h1;simp at h1
  |some c=>
   rw[hj]at h1;simp at h1;subst h1;exact .c _ _ ((hcv j c u hj h2).mono hst.le))
 refine hc.mono fun e w2 hh=>?_;have box:∀H2 g2 n,H2 xe=.st [.int .i64 0]→Stp (H.set xe (.st [.int .i64 0])) (g.newObj xe w.heap.size 1 0) (w.alloc (.cells #[.int .i64 0] 3)) H2 g2 w2→
   w2.cell? ⟨w.heap.size,0,none⟩=some (.int .i64 0)∧w2.frozen? ⟨w.heap.size,0,none⟩=false∧Stp H2 g2 w2 (H2.set xe (.st [.int .i64 n])) g2 (w2.setCell ⟨w.heap.size,0,none⟩ (.int .i64 n)):=by
  intro H2 g2 n hx hst2;have hio:g2.io xe=some (w.heap.size,1,0):=hst2.le.io xe _ (by simp[G.newObj]);have hob:=hst2.sat.objs xe;rw[hx]at hob;obtain⟨b',sz',T,cs,q1,q2,q3,q4,q5⟩:=hob;rw[hio]at q1;simp only[Jv,Jat,and_true]at q1;obtain⟨rfl,rfl⟩:=q1;have hc1:cs.size=1:=q4;have hc0:cs[0]? = some cs[0]:=Array.getElem?_eq_getElem (by omega);have hcv:cs[0]=.int .i64 0:=((q5 0 _ _ rfl hc0).toC rfl).int_inv;refine⟨?_,by simp[World.frozen?,q3],?_⟩
  ·rw[Qci q3,hc0,hcv]
  ·rw[Qazn q3];refine Qfb hst2.sat q2 q3 (by simp) _ (by rw[hx];simp) (fun hle hw'=>?_) (by simp);refine⟨w.heap.size,1,T,_,hio,q2,hw',by simp[hc1],fun j c v e1 e2=>?_⟩
   cases j with
   |zero=>
    simp[hc1]at e1 e2;subst e1;subst e2;exact .plain _ _ _ _ (.int _ _)
   |succ j=>simp at e1
 rcases hh with ⟨v,x,H2,g2,rfl,⟨hx,hk⟩,hst2,hr2⟩|⟨v,H2,g2,rfl,⟨hx,hk⟩,hst2⟩
 ·obtain⟨b1,b2,b3⟩:=box H2 g2 0 hx hst2;refine⟨b1,b2,.inl ⟨v,rfl,.inl ⟨_,.c (.int .i64 0),_,g2,rfl,?_,hst.trans (hst2.trans b3),.c _ _ (.int _ _)⟩⟩⟩;rcases hk with ⟨n,rfl,_⟩|⟨_,hk⟩
  ·cases hr2
  ·exact hk _ rfl
 ·rcases hk with ⟨n,hvn,hk⟩|⟨hno,_⟩
  ·cases hvn;obtain⟨b1,b2,b3⟩:=box H2 g2 n hx hst2;exact⟨b1,b2,.inr ⟨n,rfl,.inl ⟨_,.c (.int .i64 n),_,g2,rfl,hk _ rfl,hst.trans (hst2.trans b3),.c _ _ (.int _ _)⟩⟩⟩
  ·exact absurd rfl (hno v)
end Go.AE.Y
namespace Go.AE.Y
attribute [local go_sem] cond_true cond_false Bool.not_true Bool.not_false
open Go.Proofs.Tryz
variable {H H' H0:Heap}{K:V→Heap→Prop}{E A B:List (Nat×Obj)}{X:Mn}
theorem Q6j {a:Ma}{sd:ScD}{x:Nat}{o:Obj}(k:Kn H0 H E (X.F a sd (A++(x,o)::B))):H x=o:=(k.get (x,o) (by simp[Mn.F])).1
theorem Qaq6 {a:Ma}{sd:ScD}{x:Nat}{o o':Obj}(k:Kn H0 H E (X.F a sd (A++(x,o)::B)))(h:H'=H.set x o')(ho:o'≠.none:=by nofun):Kn H0 H' E (X.F a sd (A++(x,o')::B)):=by
 have k2:Kn H0 H E (([(X.l,X.o a)]++(a.so++(sd.ob++A)))++(x,o)::B):=by simpa[Mn.F]using k
 simpa[Mn.F]using k2.stM h ho
def oN (e v:Nat):Obj:=.st [.sl true 1 [],.int .i64 (e:Nat),.int .i64 (v:Nat),.sl true 1 []]
def ocN (o:Oc):List C:=[.sl false 1 (Qn o.s),.int .i64 (o.e:Nat),.int .i64 (o.v:Nat),.sl false 1 (Qn o.c)]
def Qba7 (fns:List Fn):Prop:=∀k (hk:k<fns.length),Qi fns[k].body≤4000∧fns[k].params.length≤3
theorem Qbjv {h:Nat}{l:List Nat}{f2:Bool}{x8 x9:Nat}{r:Rt}{m':Ms}{a:Ma}(hsz:Qba7 X.fns)(h0:0<X.fns.length)(hn:X.fns.length≤4)(hl:l.length=(Qmt X.fns).params.length)(hbl:∀n∈l,n<256)
  (hev:Ev X.fns X.S h (.call (Qmt X.fns) l) a.m r m') (ha:a.ok X) (kn:Kn H0 H E (X.F a [] ((x8,.st [.ptr X.l 0])::(x9,oN 0 0)::B)))
  (hK:∀z a' H',r=.val z→a'.m=m'→a'.ok X→Kn H0 H' E (X.F a' [] ((x8,.st [.ptr X.l 0])::(x9,oN 0 z)::B))→K (.tup []) H')
  (hP:∀(z:Nat) a' H',r=.dn z→a'.m=m'→a'.ok X→Kn H0 H' E (X.F a' [] ((x8,.st [.ptr X.l 0])::(x9,oN 0 0)::B))→K (.pn (endV z)) H') :
  Ql prog Qe1 [.c (.ptr x8 0),.c (.pp [.sl X.fl 3 (Qy X.fns)]),.c (.pp [.sl f2 1 (Qn l)]),.c (.ptr x9 0)] H K:=by
 have hk:X.fns.length-1<X.fns.length:=by omega
 rw[Qmt,Qfm hk]at hev hl;refine Qc Qal Q4o ?_;have hx8:H x8=.st [.ptr X.l 0]:=Q6j (A:=[]) kn;have hi1:((X.fns.length:Int)-1)=((X.fns.length-1:Nat):Int):=by omega
 refine Qq ?_;simp only[go_sem,hx8,Qw];try intro _
 refine⟨Q1 (by omega) (by omega),?_⟩;rw[hi1];refine (Qa0v hsz (h+1) h (by omega)).2.1 _ hk l a.m r m' H0 H E _ [] a (.sl f2 1 (Qn l)) _ hev rfl ha hbl hl (.inl ⟨rfl,f2,rfl⟩) kn (fun z a' H1 hz hm1 ha1 kn=>?_) (fun z a' H1 hz hm1 ha1 kn=>?_)
 ·have hx9:H1 x9=.st [.sl true 1 [],.int .i64 0,.int .i64 0,.sl true 1 []]:=Q6j (A:=[(x8,_)]) kn;simp only[go_sem,Qix,hx9];intro H2 h2;simp only[go_sem,Qp,Q8,Qasa];exact hK z a' H2 hz hm1 ha1 (Qaq6 (A:=[(x8,_)]) kn h2)
 ·simp only[go_sem];exact hP z a' H1 hz hm1 ha1 kn
theorem Qbhc {a:Ma}{sd:ScD}(k:Kn H0 H E (X.F a sd A))(h:A.Perm B):Kn H0 H E (X.F a sd B):=k.perm (.append_left _ (.append_left _ (.append_left _ h)))
theorem perm4 {α:Type}(a b c d:α):[a,b,c,d].Perm [c,d,b,a]:=Qaa fun f hf h0 hc hp=>by
 have e:∀a b c d,f [a,b,c,d]=f [a]+f [b]+f [c]+f [d]:=fun a b c d=>by rw[hc a,hc b,hc c];omega
 rw[e,e];omega
def Mn.pc (X:Mn)(a:Ma):List C:=.sl X.fl 3 (Qy X.fns)::.int .i64 X.S::.int .i64 (a.m.u:Nat)::.sl false 1 (Qn a.m.s)::Q9d a.m.c
theorem Qa0b {S:Nat→Bool}:∀l:List Nat,FrzL H S (Q9d l) (Q9d l)
 |[]=>.nil
 |v::l=>.cons (Qg rfl) (Qa0b l)
theorem Qbhk {S:Nat→Bool}{a:Ma}(ha:a.ok X)(hm:∀p∈[(X.l,X.o a)]++a.so,H p.1=p.2∧S p.1=true):FrzC H S (.ptr X.l 0) (.pp (X.pc a)):=by
 obtain⟨h1,h2⟩:=hm (X.l,X.o a) (by simp);refine FrzL.ptr h2 h1 ?_;refine .cons (Qg rfl) (.cons (Qg rfl) (.cons (Qg rfl) (.cons ?_ (Qa0b _))));exact Gr.frzM ha.g (fun p hp=>hm p (by simp[hp])) (FrzR.same (Qav _))
theorem Qa7z {l:List Nat}{n:Nat}(h:l.length=n):((Q9d l).take n).map (fun c=>[c])=Qn l:=by
 subst h;rw[Jaa (by simp[Q9d])];simp[Q9d,Qn,Qm]
theorem Qasd {fns:List Fn}{S h:Nat}{l:List Nat}{fl f2:Bool}{r:Rt}{m':Ms}(hsz:Qba7 fns)(h0:0<fns.length)(hn:fns.length≤4)(hl:l.length=(Qmt fns).params.length)(hbl:∀n∈l,n<256)(hS:S≤60000)
  (hev:Ev fns S h (.call (Qmt fns) l) ms0 r m') (hr:isV r)
  (hK:∀H',Upd H H' []→K (.tup [.ag (ocN (ocOf r m')),.c (.int .i64 (m'.u:Nat))]) H') :
  Ql prog Qi4 [.ag [.sl fl 3 (Qy fns)],.c (.sl f2 1 (Qn l)),.c (.int .i64 S)] H K:=by
 refine Q5 ?_;refine Qc Qal Qadv ?_;refine Qa ?_;simp only[go_sem];intro x6 hx6 H1 h1;have kn:Kn H H1 [] [(x6,oN 0 0)]:=(Kn.start0 H).al hx6 h1;simp only[go_sem,Qni];refine Qa ?_;simp only[go_sem];intro ml hml H2 h2;obtain⟨X,hX⟩:∃X:Mn,X=⟨ml,fl,fns,S⟩:=⟨_,rfl⟩;obtain⟨a0,ha0⟩:∃a0:Ma,a0=⟨ms0,.sl true 1 [],[]⟩:=⟨_,rfl⟩;have kn:Kn H H2 [] (X.F a0 [] [(x6,oN 0 0)]):=by
  subst hX;subst ha0;have k:Kn H H2 [] ([(x6,oN 0 0)]++[(ml,Mn.o ⟨ml,fl,fns,S⟩ ⟨ms0,.sl true 1 [],[]⟩)]):=kn.al hml h2;exact k.perm (by simpa[Mn.F,ScD.ob]using List.Perm.swap _ _ _)
 have hXl:X.l=ml:=by rw[hX]
 have hXf:X.fl=fl:=by rw[hX]
 have hXc:X.fns=fns:=by rw[hX]
 have hXS:X.S=S:=by rw[hX]
 have ha0k:a0.ok X:=by
  subst ha0;exact⟨.nil 1,⟨rfl,fun x hx=>by rw[J4 hx];omega,fun x hx=>by simp[ms0]at hx⟩,Jai _,Jaw _,by rw[hXS];exact hS⟩
 have ha0m:a0.m=ms0:=by rw[ha0]
 simp only[go_sem,Qnk];intro x8 hx8 H3 h3;have kn:Kn H H3 [] (X.F a0 [] [(x8,.st [.pnil]),(x6,oN 0 0)]):=Qa7g (kn.al hx8 h3);have hx8:H3 x8=.st [.pnil]:=Q6j (A:=[]) kn;simp only[go_sem,Qnj,hx8];intro H4 h4;rw[←hXl]at h4;have kn:Kn H H4 [] (X.F a0 [] [(x8,.st [.ptr X.l 0]),(x6,oN 0 0)]):=Qaq6 (A:=[]) kn h4;refine Qa ?_;simp only[go_sem];intro x9 hx9 H5 h5;have kn:Kn H H5 [] (X.F a0 [] [(x9,oN 0 0),(x8,.st [.ptr X.l 0]),(x6,oN 0 0)]):=Qa7g (kn.al hx9 h5);refine Qbir (fun e2 H2=>∃(a1:Ma),Kn H H2 [] (X.F a1 [] [(x8,.st [.ptr X.l 0]),(x9,oN (ocOf r m').e (ocOf r m').v),(x6,oN 0 0)])∧a1.ok X∧a1.m=m'∧lk 6 e2=.c (.ptr x6 0)∧lk 8 e2=.c (.ptr x8 0)∧lk 9 e2=.c (.ptr x9 0)) ?_ ?_
 ·intro Q' hQn hQr hQe;refine Qq ?_;simp only[go_sem];refine Qbbe (by kernel_rfl) fun xe hxe H6 h6=>?_;have kn:Kn H H6 [] (X.F a0 [] [(xe,.st [.int .i64 0]),(x9,oN 0 0),(x8,.st [.ptr X.l 0]),(x6,oN 0 0)]):=Qa7g (kn.al hxe h6);have kn:Kn H H6 [] (X.F a0 [] [(x8,.st [.ptr X.l 0]),(x9,oN 0 0),(x6,oN 0 0),(xe,.st [.int .i64 0])]):=Qbhc kn (Qaa fun f hf h0 hc hp=>by
   have e:∀a b c d,f [a,b,c,d]=f [a]+f [b]+f [c]+f [d]:=fun a b c d=>by rw[hc a,hc b,hc c];omega
   rw[e,e];omega)
  have key:∀(e v:Nat) (a1:Ma) (H7 H8:Heap),Kn H H7 [] (X.F a1 [] [(x8,.st [.ptr X.l 0]),(x9,oN 0 v),(x6,oN 0 0),(xe,.st [.int .i64 0])])→H8=H7.set xe (.st [.int .i64 (e:Nat)])→
    H7 xe=.st [.int .i64 0]∧Kn H H8 [] (X.F a1 [] [(x8,.st [.ptr X.l 0]),(x9,oN 0 v),(x6,oN 0 0)]):=by
   intro e v a1 H7 H8 k h8;refine⟨Q6j (A:=[(x8,_),(x9,_),(x6,_)]) k,?_⟩;have k2:=Qaq6 (A:=[(x8,_),(x9,_),(x6,_)]) k h8;exact k2.sub (List.Sublist.append (List.Sublist.refl _) (List.Sublist.append (List.Sublist.refl _) (List.Sublist.append (List.Sublist.refl _) (by
    show List.Sublist [(x8,_),(x9,_),(x6,_)] ([(x8,_),(x9,_),(x6,_)]++[(xe,_)]);exact List.sublist_append_left _ _))))
  have hl':l.length=(Qmt X.fns).params.length:=by rw[hXc];exact hl
  rw[←hXf,←hXc];refine Qbjv (X:=X) (f2:=f2) (r:=r) (m':=m') (h:=h) (a:=a0) (by rw[hXc];exact hsz) (by rw[hXc];exact h0) (by rw[hXc];exact hn) hl' hbl (by rw[hXc,hXS,ha0m];exact hev) ha0k kn (fun z a1 H7 hz hm1 ha1 kn7=>?_) (fun z a1 H7 hz hm1 ha1 kn7=>?_)
  ·refine⟨(key 0 z a1 H7 _ kn7 rfl).1,.inr ⟨by simp,fun H8 h8=>?_⟩⟩;have k:=(key 0 z a1 H7 H8 kn7 h8).2;have hx9:H8 x9=.st [.sl true 1 [],.int .i64 0,.int .i64 (z:Nat),.sl true 1 []]:=Q6j (A:=[(x8,_)]) k;simp only[go_sem,Qgj,hx9];intro H9 h9;subst hz;exact hQn _ _ ⟨a1,Qaq6 (A:=[(x8,_)]) k h9,ha1,hm1,rfl,rfl,rfl⟩
  ·refine⟨(key z 0 a1 H7 _ kn7 rfl).1,.inl ⟨z,rfl,fun H8 h8=>?_⟩⟩;have k:=(key z 0 a1 H7 H8 kn7 h8).2;have hx9:H8 x9=.st [.sl true 1 [],.int .i64 0,.int .i64 0,.sl true 1 []]:=Q6j (A:=[(x8,_)]) k;simp only[go_sem,Qgj,hx9];intro H9 h9;subst hz;exact hQn _ _ ⟨a1,Qaq6 (A:=[(x8,_)]) k h9,ha1,hm1,rfl,rfl,rfl⟩
 clear kn hx8;rintro e2 H6 ⟨a1,kn,ha1,hm1,l6,l8,l9⟩;obtain⟨e,he⟩:∃e,(ocOf r m').e=e:=⟨_,rfl⟩;obtain⟨v,hv⟩:∃v,(ocOf r m').v=v:=⟨_,rfl⟩;rw[he,hv]at kn;have kn:Kn H H6 [] ([(x6,oN 0 0),(x8,.st [.ptr X.l 0]),(x9,oN e v)]++([(X.l,X.o a1)]++a1.so)):=kn.perm (Qaa fun f hf h0 hc hp=>by
  have e3:∀a b c,f [a,b,c]=f [a]+f [b]+f [c]:=fun a b c=>by rw[hc a,hc b];omega
  have:ScD.ob []=[]:=rfl;simp only[Mn.F,hf,this,h0,e3];omega)
 obtain⟨Sf,hfL,hfB,hfr,kn2⟩:=kn.freezeT;have hpc:=Qbhk ha1 hfL;have hx8:=hfB (x8,.st [.ptr X.l 0]) (by simp);have hfr2:FrzH H6 Sf ((H6.frz Sf).set x8 (.st [.pp (X.pc a1)])):=hfr.set hx8.2 (by rw[hx8.1];exact (FrzKL.cons rfl hpc .nil).st);have kn:Kn H ((H6.frz Sf).set x8 (.st [.pp (X.pc a1)])) [] [(x6,oN 0 0),(x8,.st [.pp (X.pc a1)]),(x9,oN e v)]:=kn2.setL 1 rfl (by nofun);obtain⟨H7,hH7⟩:∃H7,(H6.frz Sf).set x8 (.st [.pp (X.pc a1)])=H7:=⟨_,rfl⟩;rw[hH7]at hfr2 kn;refine Q6 ?_;refine c_gh (e':=[(6,.c (.ptr x6 0)),(8,.c (.ptr x8 0)),(9,.c (.ptr x9 0))]) (H':=H7) (Qoz Sf (Qa0a fun p hp=>?_) hfr2) ?_
 ·simp only[Jam,J8,or_false]at hp;rcases hp with rfl|rfl|rfl
  ·rw[l6];exact .c _ _ (.same _ rfl)
  ·rw[l8];exact .c _ _ (.same _ rfl)
  ·rw[l9];exact .c _ _ (.same _ rfl)
 have hx8:H7 x8=.st [.pp (.sl X.fl 3 (Qy X.fns)::.int .i64 X.S::.int .i64 (a1.m.u:Nat)::.sl false 1 (Qn a1.m.s)::Q9d a1.m.c)]:=kn.l 1 rfl;have hlen:=ha1.len;have hrow:=Qa7z ha1.b.c;have hcl:=ha1.b.c;refine Qa1 ?_;simp only[go_sem,hx8,hlen,hrow];refine⟨by simp only[LIM];omega,?_⟩;refine Qbfk (ns:=a1.m.c.map Int.ofNat) kn (by rw[Jz,hcl];simp only[LIM];omega) fun t Lg H8 hgr how kn=>?_;have hx8:H8 x8=.st [.pp (.sl X.fl 3 (Qy X.fns)::.int .i64 X.S::.int .i64 (a1.m.u:Nat)::.sl false 1 (Qn a1.m.s)::Q9d a1.m.c)]:=kn.l 1 rfl;have hx9:H8 x9=.st [.sl true 1 [],.int .i64 (e:Nat),.int .i64 (v:Nat),.sl true 1 []]:=kn.l 2 rfl;simp only[go_sem,Qnm,hx8,hx9];intro H9 h9;have kn:Kn H H9 [] ([(x6,oN 0 0),(x8,.st [.pp (X.pc a1)]),(x9,.st [.sl false 1 (Qn a1.m.s),.int .i64 (e:Nat),.int .i64 (v:Nat),.sl true 1 []])]++Lg):=kn.stL 2 rfl h9;have hx9:H9 x9=.st [.sl false 1 (Qn a1.m.s),.int .i64 (e:Nat),.int .i64 (v:Nat),.sl true 1 []]:=kn.l 2 rfl;simp only[go_sem,Qnl,hx9];intro H10 h10;have kn:Kn H H10 [] ([(x6,oN 0 0),(x8,.st [.pp (X.pc a1)]),(x9,.st [.sl false 1 (Qn a1.m.s),.int .i64 (e:Nat),.int .i64 (v:Nat),t])]++Lg):=kn.stL 2 rfl h10;have hx6:H10 x6=.st [.sl true 1 [],.int .i64 0,.int .i64 0,.sl true 1 []]:=kn.l 0 rfl;have hx8:H10 x8=.st [.pp (.sl X.fl 3 (Qy X.fns)::.int .i64 X.S::.int .i64 (a1.m.u:Nat)::.sl false 1 (Qn a1.m.s)::Q9d a1.m.c)]:=kn.l 1 rfl;have hx9:H10 x9=.st [.sl false 1 (Qn a1.m.s),.int .i64 (e:Nat),.int .i64 (v:Nat),t]:=kn.l 2 rfl;refine Qa1 ?_;simp only[go_sem,hx6,hx8,hx9,how];intro H11 h11;have kn:Kn H H11 [] ([(x6,.st [.sl false 1 (Qn a1.m.s),.int .i64 (e:Nat),.int .i64 (v:Nat),t]),(x8,.st [.pp (X.pc a1)]),(x9,.st [.sl false 1 (Qn a1.m.s),.int .i64 (e:Nat),.int .i64 (v:Nat),t])]++Lg):=kn.stL 0 rfl h11;have hx6:H11 x6=.st [.sl false 1 (Qn a1.m.s),.int .i64 (e:Nat),.int .i64 (v:Nat),t]:=kn.l 0 rfl;have hx8:H11 x8=.st [.pp (.sl X.fl 3 (Qy X.fns)::.int .i64 X.S::.int .i64 (a1.m.u:Nat)::.sl false 1 (Qn a1.m.s)::Q9d a1.m.c)]:=kn.l 1 rfl;simp only[go_sem,Qnn,hx8];refine Qh ?_;simp only[go_sem,Qp,Q8,Quv,Jm,RS.op,hx6,how];refine⟨_,Q6f (FrzL.ag (.cons (Qg rfl) (.cons (Qg rfl) (.cons (Qg rfl) (.cons (hgr.frz kn (Qa7 _)) .nil))))) (.c _ _ (Qg rfl)),?_⟩;have:=hK _ kn.fin;have ho:ocN (ocOf r m')=[.sl false 1 (Qn a1.m.s),.int .i64 (e:Nat),.int .i64 (v:Nat),.sl false 1 (Qn a1.m.c)]:=by
  rw[ocN,he,hv,hm1];rcases hr with ⟨z,rfl⟩|⟨z,rfl⟩ <;> rfl
 rw[ho,←hm1]at this;exact this
end Go.AE.Y
namespace Go.AE.Y
attribute [local go_sem] cond_true cond_false Bool.not_true Bool.not_false
open Go.Proofs.Tryz
variable {H H' H0:Heap}{K:V→Heap→Prop}{fns:List Fn}
def bysB (l:List Int):Bool:=!l.any fun v=>!(decide (0≤v)&&decide (v≤255))
theorem bysB_iff {l:List Int}:bysB l=true↔∀v∈l,0≤v∧v≤255:=by
 simp[bysB,List.any_eq_false]
theorem Qavm {v:Int}(hK:K (.c (.bool (!(decide (0≤v)&&decide (v≤255))))) H):Ql prog Qi2 [.c (.int .i64 v)] H K:=by
 refine Qc Qal Qadq ?_;refine Qa ?_;simp only[go_sem];refine Qa ?_;simp only[go_sem];refine Qbca ?_;simp only[go_sem,Qnf];refine Qh ?_;simp only[go_sem,Qp,Q8,Qcu,Jb,forall_eq,RS.op];exact hK
theorem Qa1x {l:List Int}{f2:Bool}{n:Int}(hK:K (.c (.bool (decide ((l.length:Int)=n)&&bysB l))) H):Ql prog Qp3 [.c (.sl f2 1 (Qm l)),.c (.int .i64 n)] H K:=by
 refine Qc Qal Qara ?_;refine Qa ?_;simp only[go_sem];refine Qa ?_
 cases hd:decide ((l.length:Int)=n)with
 |false=>
  rw[hd,Jag]at hK;simp only[go_sem,Qv,hd];try intro _
  simp only[go_sem,Qlx];refine Qh ?_;simp only[go_sem,Qp,Q8,Qm4,Jb,forall_eq,RS.op];exact hK
 |true=>
  rw[hd,J5]at hK;simp only[go_sem,Qv,hd];try intro _
  refine Qaji (p:=fun v=>!(decide (0≤v)&&decide (v≤255))) (.mk' _ _ _ _) rfl (fun x K' _ hk=>Qavm hk) ?_;simp only[go_sem,Qlx];refine Qh ?_;simp only[go_sem,Qp,Q8,Qm4,Jb,forall_eq,RS.op];exact hK
def canB (fns:List Fn)(l:List Int):Bool:=Qss fns&&(decide ((l.length:Int)=((Qmt fns).params.length:Nat))&&bysB l)
theorem Qbbd {l:List Int}{fl f2:Bool}(hf:Qs fns≤2^36)(g:GK H)(hK:∀H',Upd H H' []→K (.c (.bool (canB fns l))) H'):Ql prog Qua [.ag [.sl fl 3 (Qy fns)],.c (.sl f2 1 (Qm l))] H K:=by
 refine Qc Qal Qawc ?_;refine Qa ?_;simp only[go_sem];refine Qa ?_;simp only[go_sem];refine Qaoe (by omega) g fun H1 hu=>?_
 cases hb:Qss fns with
 |false=>
  have:=hK H1 hu;rw[canB,hb,Jag]at this;simp only[go_sem,Qoo,Qon];refine Qh ?_;simp only[go_sem,Qp,Q8,Qm4,Jb,forall_eq,RS.op];exact this
 |true=>
  have:=hK H1 hu;rw[canB,hb,J5]at this;have h0:=(fine_iff.1 hb).len;have hk:fns.length-1<fns.length:=by omega
  have hi1:((fns.length:Int)-1)=((fns.length-1:Nat):Int):=by omega
  rw[Qmt,Qfm hk]at this;simp only[go_sem,Qoo,Qw,hi1,hk,Qaf _ _ hk,Fn.cells,Qo];intro _;refine⟨Q1 (by omega) (by omega),fun _=>?_⟩;refine Qa1x ?_;simp only[go_sem,Qon];refine Qh ?_;simp only[go_sem,Qp,Q8,Qm4,Jb,forall_eq,RS.op];exact this
def runV (fns:List Fn)(l:List Int)(S:Int):Bool:=canB fns l&&(decide (0≤S)&&decide (S≤4000))
def oc0:Oc:=⟨0,0,[],[],0⟩
structure RunD (fns:List Fn)(l:List Int)(S:Int)(o:Oc):Prop where
 v:runV fns l S=true→RunR fns S.toNat (l.map Int.toNat) o
 n:runV fns l S=false→o=oc0
end Go.AE.Y
namespace Go.AE
open Go.AE.Y
open Go.Proofs.Tryz
variable {H H' H0:Heap}{K:V→Heap→Prop}{fns:List Fn}
theorem Y.FineP.sizes3 (h:FineP fns):Qba7 fns:=fun k hk=>⟨(h.sizes k hk).1,(h.sizes k hk).2.2⟩
end Go.AE
namespace Go.AE.Y
attribute [local go_sem] cond_true cond_false Bool.not_true Bool.not_false
open Go.Proofs.Tryz
variable {H H' H0:Heap}{K:V→Heap→Prop}{fns:List Fn}
theorem Qpa {l:List Int}{S:Int}(h:runV fns l S=true):FineP fns∧(l.map Int.toNat).length=(Qmt fns).params.length∧(∀v∈l,0≤v∧v≤255)∧0≤S∧S≤4000:=by
 simp only[runV,canB,J6,decide_eq_true_eq]at h;obtain⟨⟨h1,h2,h3⟩,h4,h5⟩:=h;exact⟨fine_iff.1 h1,by rw[Jz];omega,bysB_iff.1 h3,h4,h5⟩
theorem Qble (fns:List Fn)(l:List Int)(S:Int):∃o,RunD fns l S o:=by
 cases h:runV fns l S with
 |false=>exact⟨oc0,⟨fun h2=>(by rw[h]at h2;cases h2),fun _=>rfl⟩⟩
 |true=>
  obtain⟨h1,h2,_⟩:=Qpa h;obtain⟨o,ho⟩:=Qbjw (S:=S.toNat) h1 h2;exact⟨o,⟨fun _=>ho,fun h2=>(by rw[h]at h2;cases h2)⟩⟩
theorem Qa0e {l:List Int}(h:∀v∈l,0≤v∧v≤255):Qm l=Qn (l.map Int.toNat)∧∀n∈l.map Int.toNat,n<256:=by
 refine⟨?_,fun n hn=>?_⟩
 ·rw[Qn,J2];congr 1
  conv=>lhs;rw[←List.map_id l]
  refine Jah fun v hv=>?_;have:=h v hv;simp only[id,Function.comp];show v=((v.toNat:Nat):Int);omega
 ·obtain⟨v,hv,rfl⟩:=Jq.1 hn;have:=h v hv;omega
theorem Qa6q {l:List Int}{S:Int}{fl f2:Bool}{o:Oc}(hf:Qs fns≤2^36)(g:GK H)(ho:RunD fns l S o)(hK:∀H',Upd H H' []→K (.tup [.ag (ocN o),.c (.bool (runV fns l S))]) H') :
  Ql prog Qes [.ag [.sl fl 3 (Qy fns)],.c (.sl f2 1 (Qm l)),.c (.int .i64 S)] H K:=by
 refine Q5 ?_;have g0:=g;refine Qc Qal Qado ?_;refine Qa ?_;simp only[go_sem];intro x6 hx6 H1 h1;have kn:Kn H H1 [] [(x6,oN 0 0)]:=(Kn.start0 H).al hx6 h1;simp only[go_sem,Qm8];refine Q6 ?_;refine Qa ?_;simp only[go_sem];refine Qbbd hf (g0.kn kn) fun H2 hu=>?_;have kn:=kn.call0 hu;have hx6:H2 x6=.st [.sl true 1 [],.int .i64 0,.int .i64 0,.sl true 1 []]:=kn.l 0 rfl;have back:∀(H3:Heap) (x:V) (y:V) (z:V),runV fns l S=false→Kn H H3 [] [(x6,oN 0 0)]→Q3 prog (s_im_RunProgram_4.seq Qm7) (Qp Quv (unK H K)) [(1,x),(2,y),(3,z),(6,.c (.ptr x6 0)),(18,.c (.bool true))] H3:=by
  intro H3 x y z hr kn;have hx6:H3 x6=.st [.sl true 1 [],.int .i64 0,.int .i64 0,.sl true 1 []]:=kn.l 0 rfl;refine Qf (Qb rfl (fun _=>?_) (fun h=>by simp[lk]at h));refine Qa ?_;simp only[go_sem,hx6];intro H4 h4;have kn:=kn.stL 0 rfl h4;have hx6:=kn.l 0 rfl;simp only[go_sem,Qm9];refine Qh ?_;simp only[go_sem,Qp,Q8,Quv,Jm,J8,RS.op,hx6,AE.X.next];have:=hK _ kn.fin;rw[hr,ho.n hr]at this;refine⟨fun _=>trivial,_,Q6f (FrzL.ag (.cons FrzR.nil.sl (.cons (Qg rfl) (.cons (Qg rfl) (.cons FrzR.nil.sl .nil))))) (.c _ _ (Qg rfl)),?_⟩;exact this
 cases hc:canB fns l with
 |false=>
  simp only[go_sem,Qgg,Qdj];exact back _ _ _ _ (by rw[runV,hc];rfl) kn
 |true=>
  simp only[go_sem,Qgg];refine Qa1l ?_
  cases hw:(decide (0≤S)&&decide (S≤4000))with
  |false=>
   simp only[go_sem,Qdj];exact back _ _ _ _ (by rw[runV,hc,hw];rfl) kn
  |true=>
   have hr:runV fns l S=true:=by rw[runV,hc,hw];rfl
   obtain⟨p1,p2,p3,p4,p5⟩:=Qpa hr;obtain⟨q1,q2⟩:=Qa0e p3;obtain⟨y,r,m',e,hv,hoo⟩:=ho.v hr;rw[hr]at hK;have hSt:(S.toNat:Int)=S:=by omega
   simp only[go_sem,Qdj];refine Qf (Qb rfl (fun h=>by simp[lk]at h) (fun _=>?_));refine Qe ?_;try simp only[go_sem]
   refine Qa ?_;simp only[go_sem];rw[q1,←hSt];refine Qasd p1.sizes3 p1.len.1 p1.len.2 p2 q2 (by omega) e hv fun H3 hu=>?_;rw[←hoo];have kn:=kn.call0 hu;simp only[go_sem,Qnc,Jc,Jd];intro x8 hx8 H4 h4;have kn:Kn H H4 [] [(x6,oN 0 0),(x8,oN 0 0)]:=kn.al hx8 h4;have hx8:H4 x8=.st [.sl true 1 [],.int .i64 0,.int .i64 0,.sl true 1 []]:=kn.l 1 rfl;simp only[go_sem,Qnb,hx8,ocN];intro H5 h5;have kn:Kn H H5 [] [(x6,oN 0 0),(x8,.st (ocN o))]:=kn.stL 1 rfl h5;have hx8:H5 x8=.st [.sl false 1 (Qn o.s),.int .i64 (o.e:Nat),.int .i64 (o.v:Nat),.sl false 1 (Qn o.c)]:=kn.l 1 rfl;have hx6:H5 x6=.st [.sl true 1 [],.int .i64 0,.int .i64 0,.sl true 1 []]:=kn.l 0 rfl;simp only[go_sem,Qna];refine Qa ?_;simp only[go_sem,hx8,hx6];intro H6 h6;have kn:Kn H H6 [] [(x6,.st (ocN o)),(x8,.st (ocN o))]:=kn.stL 0 rfl h6;have hx6:H6 x6=.st [.sl false 1 (Qn o.s),.int .i64 (o.e:Nat),.int .i64 (o.v:Nat),.sl false 1 (Qn o.c)]:=kn.l 0 rfl;simp only[go_sem,Qnd];refine Qh ?_;simp only[go_sem,Qp,Q8,Quv,Jm,RS.op,hx6];refine⟨_,Q6f (FrzL.ag (.cons (FrzR.same (Qav _)).sl (.cons (Qg rfl) (.cons (Qg rfl) (.cons (FrzR.same (Qav _)).sl .nil))))) (.c _ _ (Qg rfl)),?_⟩;exact hK _ kn.fin
theorem Qa6r {o:Oc}(hK:K (.c (.bool true)) H):Ql prog Qhe [.ag (ocN o),.ag (ocN o)] H K:=by
 refine Qc Qal Qaau ?_;refine Qa ?_;simp only[go_sem,ocN];refine Qa ?_;simp only[go_sem];refine Qau7 (ns:=o.s.map Int.ofNat) ?_;simp only[go_sem,Qlv,decide_true];refine Qau7 (ns:=o.c.map Int.ofNat) ?_;simp only[go_sem,Qlu];refine Qh ?_;simp only[go_sem,Qp,Q8,Qm4,Jb,forall_eq,RS.op];exact hK
end Go.AE.Y
namespace Go.AE.Y
attribute [local go_sem] cond_true cond_false Bool.not_true Bool.not_false
open Go.Proofs.Tryz
variable {H H' H0:Heap}{K:V→Heap→Prop}{E A B:List (Nat×Obj)}{X:Sn}{fns:List Fn}
theorem Qbff (hsz:∀k (hk:k<X.fns.length),Qi X.fns[k].body≤4000∧X.fns[k].params.length≤3):∀n h,h<n→ExR X h∧BlkR X h∧StR X h
 |0,_,h=>by omega
 |n+1,h,hh=>by
  have ih:=Qbff hsz n;exact⟨Qbi4 (fun h' h1=>(ih h' (by omega)).1) (Qbbc hsz (fun h' h1=>(ih h' (by omega)).1) (fun h' h1=>(ih h' (by omega)).2.1)),
   Qbfz (fun h' h1=>(ih h' (by omega)).2.2),Qbkl (fun h' h1=>(ih h' (by omega)).1) (fun h' h1=>(ih h' (by omega)).2.1)⟩
theorem Qbjf {S h:Nat}{l:List Nat}{fl f2:Bool}{r:Rt}{m':Ms}(hsz:Qba7 fns)(h0:0<fns.length)(hn:fns.length≤4)(hl:l.length=(Qmt fns).params.length)(hbl:∀n∈l,n<256)(hS:S≤60000)
  (hev:Ev fns S h (.call (Qmt fns) l) ms0 r m') (hr:isV r)
  (hK:∀H',Upd H H' []→K (.tup [.ag (ocN (ocOf r m')),.c (.int .i64 (S-m'.u:Nat))]) H') :
  Ql prog Qav0 [.ag [.sl fl 3 (Qy fns)],.c (.sl f2 1 (Qn l)),.c (.int .i64 S)] H K:=by
 have hk:fns.length-1<fns.length:=by omega
 have hi1:((fns.length:Int)-1)=((fns.length-1:Nat):Int):=by omega
 obtain⟨z1,z2⟩:=hsz _ hk;rw[Qmt,Qfm hk]at hev hl;obtain⟨f,hf⟩:∃f,fns[fns.length-1]=f:=⟨_,rfl⟩;rw[hf]at hev hl z1 z2;refine Q5 ?_;refine Qc Qal Qbjn ?_;refine Qa ?_;simp only[go_sem];intro x6 hx6 H1 h1;have kn:Kn H H1 [] [(x6,oN 0 0)]:=(Kn.start0 H).al hx6 h1;simp only[go_sem,Qat1];refine Qa1 ?_;simp only[go_sem];refine⟨by omega,by simp only[LIM];omega,fun y hy H2 h2=>?_⟩;simp only[go_sem,Qat3];intro xl hxl H3 h3;obtain⟨X,hX⟩:∃X:Sn,X=⟨xl,y,fl,fns,S⟩:=⟨_,rfl⟩;obtain⟨a0,ha0⟩:∃a0:Ma,a0=⟨ms0,.sl true 1 [],[]⟩:=⟨_,rfl⟩;have hrep:List.replicate 16 [C.int .i64 0]=Qn (List.replicate 16 0):=by rfl
 simp only[show Int.toNat 16=16 from rfl]at h2 h3;rw[hrep]at h2;have kn:Kn H H3 [] (X.G a0 none [(x6,oN 0 0)]):=by
  subst hX;subst ha0;have k:=((kn.al hy h2).al hxl h3);exact k.perm (Qaa fun f hf h0 hc hp=>by
   have e:∀a b c,f [a,b,c]=f [a]+f [b]+f [c]:=fun a b c=>by rw[hc a,hc b];omega
   simp only[Sn.G,Sn.o,hf,ms0,J9,Jh,Nat.sub_zero,h0];have e0:((0:Nat):Int)=0:=rfl;rw[e0];omega)
 have hXl:X.l=xl:=by rw[hX]
 have hXf:X.fl=fl:=by rw[hX]
 have hXc:X.fns=fns:=by rw[hX]
 have hXS:X.S=S:=by rw[hX]
 have ha0k:a0.sok X:=by
  subst ha0;exact⟨.nil 1,⟨rfl,fun x hx=>by rw[J4 hx];omega,fun x hx=>by simp[ms0]at hx⟩,Jai _,Jaw _,by rw[hXS];exact hS⟩
 have ha0m:a0.m=ms0:=by rw[ha0]
 rw[←hXl];simp only[go_sem,Qat2];refine Qa ?_;simp only[go_sem,Qw,hi1,hk,Qaf _ _ hk,hf,Fn.cells];intro _;refine⟨Q1 (by omega) (by omega),fun x9 hx9 H4 h4=>?_⟩;have kn:Kn H H4 [] (X.G a0 none [(x9,.st [.str [],.sl true 1 [],.sl true 5 []]),(x6,oN 0 0)]):=Qawo (kn.al hx9 h4);have hx9:H4 x9=.st [.str [],.sl true 1 [],.sl true 5 []]:=Qdz (A:=[]) kn;simp only[go_sem,Qat4,hx9];intro H5 h5;have kn:Kn H H5 [] (X.G a0 none [(x9,.st [.str f.name,.sl false 1 (Q0 f.params),.sl false 5 (Qk f.body)]),(x6,oN 0 0)]):=Qu2 (A:=[]) kn h5;have hx9:H5 x9=.st [.str f.name,.sl false 1 (Q0 f.params),.sl false 5 (Qk f.body)]:=Qdz (A:=[]) kn;refine Qa ?_;simp only[go_sem,hx9];refine⟨.inl trivial,Qaw _,by simp only[Qo,LIM];omega,fun yn hyn H6 h6=>?_⟩;rw[Jae];obtain⟨nl,hnl⟩:∃nl:List (Nat×Obj),nl=[(yn,.vec 1 (Q0 f.params))]:=⟨_,rfl⟩;obtain⟨nc,hnce⟩:∃nc:C,nc=.vsl yn 1 0 (Q0 f.params).length:=⟨_,rfl⟩;have hgn:Gp nl 1 (Q0 f.params) nc:=.inr ⟨yn,Q0 f.params,hnce,hnl,Jap⟩;have kn:Kn H H6 [] (X.G a0 none (nl++[(x9,.st [.str f.name,.sl false 1 (Q0 f.params),.sl false 5 (Qk f.body)]),(x6,oN 0 0)])):=by rw[hnl];exact Qawo (kn.al hyn h6)
 rw[←hnce];have hnc:=hgn.isOw;simp only[go_sem,Qat7,hnc];refine⟨.inl trivial,Qav _,by simp only[Qah,LIM];omega,fun yv hyv H7 h7=>?_⟩;rw[Jae];obtain⟨vl,hvl⟩:∃vl:List (Nat×Obj),vl=[(yv,.vec 1 (Qn l))]:=⟨_,rfl⟩;obtain⟨vc,hvce⟩:∃vc:C,vc=.vsl yv 1 0 (Qn l).length:=⟨_,rfl⟩;have hgv:Gp vl 1 (Qn l) vc:=.inr ⟨yv,Qn l,hvce,hvl,Jap⟩;have kn:Kn H H7 [] (X.G a0 none (vl++(nl++[(x9,.st [.str f.name,.sl false 1 (Q0 f.params),.sl false 5 (Qk f.body)]),(x6,oN 0 0)]))):=by rw[hvl];exact Qawo (kn.al hyv h7)
 rw[←hvce];have hvco:=hgv.isOw;simp only[go_sem,Qat6,hnc,hvco];intro xw hxw H8 h8;obtain⟨q1,q2⟩:=Qbfe (ps:=f.params) (ns:=l) hl;obtain⟨sv,hsv⟩:∃sv:Se,sv=⟨xw,(f.params.zip l).reverse,nc,nl,vc,vl⟩:=⟨_,rfl⟩;have s1:sv.ok:=by
  rw[hsv];constructor
  ·rw[Se.nms];simp only;rw[q1];exact hgn
  ·rw[Se.vals];simp only;rw[q2];exact hgv
 have s2:sv.l=xw:=by rw[hsv]
 have s3:sv.F=(parE f.params l).flatten:=by rw[hsv];simp[parE]
 have s4:sv.F.length≤3:=by rw[hsv];simp only[List.length_reverse,List.length_zip];omega
 have kn:Kn H H8 [] (X.G a0 none (sv.ob none++[(x9,.st [.str f.name,.sl false 1 (Q0 f.params),.sl false 5 (Qk f.body)]),(x6,oN 0 0)])):=by
  rw[hsv];have k:=Qawo (kn.al hxw h8);refine k.perm (Qaa fun f hf h0 hc hp=>?_);generalize [(x9,_),(x6,_)]=R;simp only[Sn.G,Se.ob,Se.o,hf,J9,Jh];rw[hc _ (vl++(nl++R))];simp only[hf];have e0:((0:Nat):Int)=0:=rfl;rw[e0];omega
 have hx9:H8 x9=.st [.str f.name,.sl false 1 (Q0 f.params),.sl false 5 (Qk f.body)]:=Qdz (A:=sv.ob none) kn;simp only[go_sem,Qat5];refine Qa ?_;simp only[go_sem,hx9];have fin:∀(e v:Nat) (ov:Bool) (a2:Ma) (R:List (Nat×Obj)) (H10:Heap),a2.sok X→m'=a2.m→ocOf r m'=⟨e,v,a2.m.s,a2.m.c,a2.m.u⟩→
   Kn H H10 [] ([(X.l,.st [.sl X.fl 3 (Qy X.fns),a2.sc,.int .i64 (e:Nat),.int .i64 (v:Nat),.vsl X.y 1 0 16,.int .i64 (X.S-a2.m.u:Nat),.bool ov])]++(a2.so++([(X.y,.vec 1 (Qn a2.m.c))]++([(x6,oN 0 0)]++R))))→
   Q3 prog Qa1a (Qp Quv (unK H K)) [(6,.c (.ptr x6 0)),(8,.c (.ptr X.l 0))] H10:=by
  intro e v ov a2 R H10 ha2 hm ho kn;have hX:H10 X.l=.st [.sl X.fl 3 (Qy X.fns),a2.sc,.int .i64 (e:Nat),.int .i64 (v:Nat),.vsl X.y 1 0 16,.int .i64 (X.S-a2.m.u:Nat),.bool ov]:=kn.l 0 rfl;have hx6:H10 x6=.st [.sl true 1 [],.int .i64 0,.int .i64 0,.sl true 1 []]:=(kn.get (x6,oN 0 0) (by simp)).1;have hso:=ha2.g.isOw;have hcl:=ha2.b.c;refine Qa1 ?_;simp only[go_sem,hX,hx6,hso];intro H11 h11;have kn2:Kn H H10 [] (([(X.l,.st [.sl X.fl 3 (Qy X.fns),a2.sc,.int .i64 (e:Nat),.int .i64 (v:Nat),.vsl X.y 1 0 16,.int .i64 (X.S-a2.m.u:Nat),.bool ov])]++(a2.so++([(X.y,.vec 1 (Qn a2.m.c))])))++(x6,oN 0 0)::R):=by simpa using kn
  have kn3:=kn2.stM h11;have hX:H11 X.l=.st [.sl X.fl 3 (Qy X.fns),a2.sc,.int .i64 (e:Nat),.int .i64 (v:Nat),.vsl X.y 1 0 16,.int .i64 (X.S-a2.m.u:Nat),.bool ov]:=kn3.l 0 rfl;have hx6:H11 x6=.st [a2.sc,.int .i64 (e:Nat),.int .i64 (v:Nat),.vsl X.y 1 0 16]:=by rw[h11];exact Heap.set_same _ _ _
  simp only[go_sem,Qat8,hX];refine Qh ?_;simp only[go_sem,Qp,Q8,Quv,Jm,RS.op,hx6,hso];have ks:∃B1,Kn H H11 [] (B1++a2.so):=⟨[(X.l,.st [.sl X.fl 3 (Qy X.fns),a2.sc,.int .i64 (e:Nat),.int .i64 (v:Nat),.vsl X.y 1 0 16,.int .i64 (X.S-a2.m.u:Nat),.bool ov])]++([(X.y,.vec 1 (Qn a2.m.c))]++([(x6,.st [a2.sc,.int .i64 (e:Nat),.int .i64 (v:Nat),.vsl X.y 1 0 16])]++R)),kn3.perm (Qaa fun f hf h0 hc hp=>by simp only[hf];rw[hc _ R];omega)⟩;have ky:∃B1,Kn H H11 [] (B1++[(X.y,.vec 1 (Qn a2.m.c))]):=⟨[(X.l,.st [.sl X.fl 3 (Qy X.fns),a2.sc,.int .i64 (e:Nat),.int .i64 (v:Nat),.vsl X.y 1 0 16,.int .i64 (X.S-a2.m.u:Nat),.bool ov])]++(a2.so++([(x6,.st [a2.sc,.int .i64 (e:Nat),.int .i64 (v:Nat),.vsl X.y 1 0 16])]++R)),kn3.perm (Qaa fun f hf h0 hc hp=>by simp only[hf];rw[hc _ R];omega)⟩;obtain⟨B1,ks⟩:=ks;obtain⟨B2,ky⟩:=ky;refine⟨_,Q6f (FrzL.ag (.cons (ha2.g.frz ks (Qav _)) (.cons (Qg rfl) (.cons (Qg rfl) (.cons ((Gr.mk X.y 1 (Qn a2.m.c) (n:=16) (by rw[Qah,hcl])).frz ky (Qav _)) .nil))))) (.c _ _ (Qg rfl)),?_⟩;have:=hK _ kn3.fin;rw[ho,ocN,hm,←hXS]at this;exact this
 generalize hr0:r=r0 at hev
 cases hev with
 |@body _ _ _ rb _ ab e3=>
  have hbl2:=Qan f.body;have hh:=((Qbff (X:=X) (by rw[hXc];exact hsz) (ab+1) ab (by omega)).2.1) f.body false (parE f.params l) ms0 rb m' H H8 [] [(x9,.st [.str f.name,.sl false 1 (Q0 f.params),.sl false 5 (Qk f.body)]),(x6,oN 0 0)] a0 sv;rw[s2]at hh;refine hh _ (by rw[hXc,hXS];exact e3) ha0m ha0k s1 s3 (by simp[parE]) (Qaox hbl) (by omega) (by omega) kn (fun b v' a2 sv' H9 hz hm2 ha2 hok2 hl2 _ kn=>?_) (fun z a2 sv' H9 hz hm2 ha2 hok2 hl2 _ kn=>?_)
  ·have hX:=sG_o kn;have hvv:=sG_v kn;rw[hl2]at hvv;have hno:=hok2.n.isOw;have hvo:=hok2.v.isOw;have hso:=ha2.g.isOw;refine Q6 ?_;refine Qa ?_;simp only[go_sem,hX,Jh];refine Qf (Qb rfl (fun _=>?_) (fun h=>by simp[lk]at h));refine Qq ?_;simp only[go_sem,hX,hvv,hno,hvo,hso,Jh];intro H10 h10;have kn:Kn H H10 [] ([(X.l,.st [.sl X.fl 3 (Qy X.fns),a2.sc,.int .i64 (0:Nat),.int .i64 (b.getD 0:Nat),.vsl X.y 1 0 16,.int .i64 (X.S-a2.m.u:Nat),.bool false])]++(a2.so++([(X.y,.vec 1 (Qn a2.m.c))]++(sv'.ob b++[(x9,.st [.str f.name,.sl false 1 (Q0 f.params),.sl false 5 (Qk f.body)]),(x6,oN 0 0)])))):=kn.stL 0 rfl h10;refine fin 0 (b.getD 0) false a2 ([(x9,.st [.str f.name,.sl false 1 (Q0 f.params),.sl false 5 (Qk f.body)])]++sv'.ob b) H10 ha2 hm2.symm ?_ (kn.perm (Qaa fun f hf h0 hc hp=>?_))
   ·rw[hr0,hz,hm2];cases b <;> rfl
   ·simp only[hf];rw[hc _ [(x6,oN 0 0)]];omega
  ·have hX:=sG_o kn;refine Q6 ?_;refine Qa ?_;simp only[go_sem,hX,Option.isSome_some];refine Qf (Qb rfl (fun h=>by simp[lk]at h) (fun _=>?_));refine Qe ?_;try simp only[go_sem]
   refine fin z 0 true a2 ([(x9,.st [.str f.name,.sl false 1 (Q0 f.params),.sl false 5 (Qk f.body)])]++sv'.ob none) H9 ha2 hm2.symm ?_ (kn.perm (Qaa fun f hf h0 hc hp=>?_))
   ·rw[hr0,hz,hm2];rfl
   ·simp only[Sn.G,Sn.o,hf,Jaq,Option.isSome_some];rw[hc _ [(x6,oN 0 0)]];have e0:((0:Nat):Int)=0:=rfl;rw[e0];omega
theorem Qa5w {v:Int}{l:List Int}:bysB (v::l)=(decide (0≤v∧v≤255)&&bysB l):=by
 simp only[bysB,List.any_cons,Bool.not_or,Bool.not_not,Jab]
theorem Qa2i {l:List Int}{f2:Bool}(hK:K (.c (.bool (bysB l))) H):Ql prog Q1f [.c (.sl f2 1 (Qm l))] H K:=by
 refine Qc Qal Qa2m ?_;refine Qa ?_;simp only[go_sem];refine Q6 ?_;refine Qa ?_;simp only[go_sem];refine Qf (Qd (Qab (fun n e1 H1=>∃(i:Nat),n=l.length-i∧i≤l.length∧H1=H∧bysB l=bysB (l.drop i)∧e1=[(0,.c (.sl f2 1 (Qm l))),(3,.c (.int .i64 i))]) l.length ?_ ?_))
 ·exact⟨0,by omega,by omega,rfl,rfl,rfl⟩
 ·rintro n e1 H1 ⟨i,hn,hi,rfl,hb,rfl⟩;refine Q6 ?_;refine Qa ?_;simp only[go_sem,Qv];intro hl;simp only[LIM]at hl;refine Qf (Qb rfl ?_ ?_)
  ·intro hc;have hlt:i<l.length:=by have:=of_decide_eq_true hc;omega
   refine Qe ?_;try simp only[go_sem]
   rw[Jr hlt,Qa5w]at hb;refine Qf (Qd ?_);refine Qa ?_;simp only[go_sem,hlt,Qv,Qb3 _ _ hlt];have hgd:l.getD i 0=l[i]:=by simp[Jf,hlt]
   refine Qrv ?_;simp only[go_sem,Q5n];rw[hgd]
   cases hd:decide (0≤l[i]∧l[i]≤255)with
   |false=>
    rw[hd,Jag]at hb;refine Qb rfl (fun _=>?_) (fun h=>by simp[lk]at h);refine Qa ?_;simp only[go_sem];refine Qh ?_;simp only[go_sem,AE.X.next,Qp,Q8,Qcu,Jb,forall_eq,RS.op];rw[hb]at hK;exact hK
   |true=>
    rw[hd,J5]at hb;refine Qb rfl (fun h=>by simp[lk]at h) (fun _=>?_);refine Qe ?_;try simp only[go_sem,AE.X.next]
    refine Qq ?_;simp only[go_sem,AE.X.next];exact⟨Q1 (by omega) (by omega),l.length-(i+1),by omega,i+1,rfl,by omega,hb,rfl⟩
  ·intro hc;have hge:l.length≤i:=by have:=of_decide_eq_false hc;omega
   rw[Ju hge]at hb;refine Q9 ?_;simp only[go_sem,AE.X.next];refine Qa ?_;simp only[go_sem];refine Qh ?_;simp only[go_sem,Qp,Q8,Qcu,Jb,forall_eq,RS.op];rw[hb]at hK;exact hK
theorem Qbcs {l:List Int}{fl f2:Bool}(hf:Qs fns≤2^36)(hK:∀H',Upd H H' []→K (.c (.bool (canB fns l))) H'):Ql prog Qadg [.ag [.sl fl 3 (Qy fns)],.c (.sl f2 1 (Qm l))] H K:=by
 refine Qc Qal Qbc4 ?_;have retf:∀(b:Bool) (e:Env) (H':Heap),Upd H H' []→b=canB fns l→lk 4 e=.c (.bool b)→Qp Qm4 K .ret e H':=by
  intro b e H' hu hb h1;simp only[go_sem,Qp,Q8,Qm4,Jb,forall_eq,RS.op,h1];rw[hb];exact hK H' hu
 refine Qa ?_;simp only[go_sem];refine Qa ?_;simp only[go_sem];refine Qbd9 hf fun H1 hu=>?_
 cases hb:Qss fns with
 |false=>
  simp only[go_sem,Q27,Qre];refine Qh ?_;exact retf false _ H1 hu (by rw[canB,hb];rfl) rfl
 |true=>
  have h0:=(fine_iff.1 hb).len;have hk:fns.length-1<fns.length:=by omega
  have hi1:((fns.length:Int)-1)=((fns.length-1:Nat):Int):=by omega
  simp only[go_sem,Q27];refine Qa2i ?_
  cases hv:bysB l with
  |false=>
   simp only[go_sem,Qre];refine Qh ?_;exact retf false _ H1 hu (by rw[canB,hb,hv,Bool.and_false];rfl) rfl
  |true=>
   simp only[go_sem,Qre,Qw,hi1,hk,Qaf _ _ hk,Fn.cells,Qv,Qo];intro _ _;refine⟨Q1 (by omega) (by omega),fun _=>?_⟩;refine Qh ?_;exact retf _ _ H1 hu (by rw[canB,hb,hv,Bool.and_true,J5,Qmt,Qfm hk]) rfl
end Go.AE.Y
namespace Go.AE.Y
attribute [local go_sem] cond_true cond_false Bool.not_true Bool.not_false
open Go.Proofs.Tryz
variable {H H' H0:Heap}{K:V→Heap→Prop}{fns:List Fn}
theorem Qbh3 {l:List Int}{S:Int}{fl f2:Bool}{o:Oc}(hf:Qs fns≤2^36)(ho:RunD fns l S o)(hK:∀H',Upd H H' []→K (.tup [.ag (ocN o),.c (.bool (runV fns l S))]) H') :
  Ql prog Qi5 [.ag [.sl fl 3 (Qy fns)],.c (.sl f2 1 (Qm l)),.c (.int .i64 S)] H K:=by
 refine Q5 ?_;refine Qc Qal Qad1 ?_;refine Qa ?_;simp only[go_sem];intro x6 hx6 H1 h1;have kn:Kn H H1 [] [(x6,oN 0 0)]:=(Kn.start0 H).al hx6 h1;simp only[go_sem,Qn2];refine Q6 ?_;refine Qa ?_;simp only[go_sem];refine Qbcs hf fun H2 hu=>?_;have kn:=kn.call0 hu;have hx6:H2 x6=.st [.sl true 1 [],.int .i64 0,.int .i64 0,.sl true 1 []]:=kn.l 0 rfl;have back:∀(H3:Heap) (x:V) (y:V) (z:V),runV fns l S=false→Kn H H3 [] [(x6,oN 0 0)]→Q3 prog (s_sp_RunProgram_4.seq Qn1) (Qp Quv (unK H K)) [(1,x),(2,y),(3,z),(6,.c (.ptr x6 0)),(18,.c (.bool true))] H3:=by
  intro H3 x y z hr kn;have hx6:H3 x6=.st [.sl true 1 [],.int .i64 0,.int .i64 0,.sl true 1 []]:=kn.l 0 rfl;refine Qf (Qb rfl (fun _=>?_) (fun h=>by simp[lk]at h));refine Qa ?_;simp only[go_sem,hx6];intro H4 h4;have kn:=kn.stL 0 rfl h4;have hx6:=kn.l 0 rfl;simp only[go_sem,Qn3];refine Qh ?_;simp only[go_sem,Qp,Q8,Quv,Jm,J8,RS.op,hx6,AE.X.next];have:=hK _ kn.fin;rw[hr,ho.n hr]at this;refine⟨fun _=>trivial,_,Q6f (FrzL.ag (.cons FrzR.nil.sl (.cons (Qg rfl) (.cons (Qg rfl) (.cons FrzR.nil.sl .nil))))) (.c _ _ (Qg rfl)),?_⟩;exact this
 cases hc:canB fns l with
 |false=>
  simp only[go_sem,Qgu,Qdk];exact back _ _ _ _ (by rw[runV,hc];rfl) kn
 |true=>
  simp only[go_sem,Qgu];refine Qrv ?_
  cases hw:decide (0≤S∧S≤4000)with
  |false=>
   simp only[go_sem,Qdk];exact back _ _ _ _ (by rw[runV,hc,←Jab,hw];rfl) kn
  |true=>
   have hr:runV fns l S=true:=by rw[runV,hc,←Jab,hw];rfl
   obtain⟨p1,p2,p3,p4,p5⟩:=Qpa hr;obtain⟨q1,q2⟩:=Qa0e p3;obtain⟨y,r,m',e,hv,hoo⟩:=ho.v hr;rw[hr]at hK;have hSt:(S.toNat:Int)=S:=by omega
   simp only[go_sem,Qdk];refine Qf (Qb rfl (fun h=>by simp[lk]at h) (fun _=>?_));refine Qe ?_;try simp only[go_sem]
   refine Qa ?_;simp only[go_sem];rw[q1,←hSt];refine Qbjf p1.sizes3 p1.len.1 p1.len.2 p2 q2 (by omega) e hv fun H3 hu=>?_;rw[←hoo];have kn:=kn.call0 hu;simp only[go_sem,Qn6,Jc,Jd];intro x8 hx8 H4 h4;have kn:Kn H H4 [] [(x6,oN 0 0),(x8,oN 0 0)]:=kn.al hx8 h4;have hx8:H4 x8=.st [.sl true 1 [],.int .i64 0,.int .i64 0,.sl true 1 []]:=kn.l 1 rfl;simp only[go_sem,Qn5,hx8,ocN];intro H5 h5;have kn:Kn H H5 [] [(x6,oN 0 0),(x8,.st (ocN o))]:=kn.stL 1 rfl h5;have hx8:H5 x8=.st [.sl false 1 (Qn o.s),.int .i64 (o.e:Nat),.int .i64 (o.v:Nat),.sl false 1 (Qn o.c)]:=kn.l 1 rfl;have hx6:H5 x6=.st [.sl true 1 [],.int .i64 0,.int .i64 0,.sl true 1 []]:=kn.l 0 rfl;simp only[go_sem,Qn4];refine Qa ?_;simp only[go_sem,hx8,hx6];intro H6 h6;have kn:Kn H H6 [] [(x6,.st (ocN o)),(x8,.st (ocN o))]:=kn.stL 0 rfl h6;have hx6:H6 x6=.st [.sl false 1 (Qn o.s),.int .i64 (o.e:Nat),.int .i64 (o.v:Nat),.sl false 1 (Qn o.c)]:=kn.l 0 rfl;simp only[go_sem,Qn7];refine Qh ?_;simp only[go_sem,Qp,Q8,Quv,Jm,RS.op,hx6];refine⟨_,Q6f (FrzL.ag (.cons (FrzR.same (Qav _)).sl (.cons (Qg rfl) (.cons (Qg rfl) (.cons (FrzR.same (Qav _)).sl .nil))))) (.c _ _ (Qg rfl)),?_⟩;exact hK _ kn.fin
theorem Qban {o:Oc}(hK:K (.c (.bool true)) H):Ql prog Qd6 [.ag (ocN o),.ag (ocN o)] H K:=by
 refine Qc Qal Qaav ?_;refine Qa ?_;simp only[go_sem,ocN];refine Qa ?_;simp only[go_sem];refine Qa0j (ns:=o.s.map Int.ofNat) ?_;simp only[go_sem,Qmp,decide_true];refine Qa0j (ns:=o.c.map Int.ofNat) ?_;simp only[go_sem,Qmo];refine Qh ?_;simp only[go_sem,Qp,Q8,Qm4,Jb,forall_eq,RS.op];exact hK
end Go.AE.Y
namespace Go.AE.Y
attribute [local go_sem] cond_true cond_false Bool.not_true Bool.not_false
attribute [local instance] Classical.propDecidable
open Go.Proofs.Tryz
variable {H:Heap}{K:V→Heap→Prop}{bs:List UInt8}
theorem Qavs {fns:List Fn}(hb:Qss fns=true)(hs:Qs fns≤2^36) :
  Qaqt fns=Qbm fns∧Qs (Qbm fns)≤2^36∧Qss (Qbm fns)=true∧Qaqt (Qbm fns)=Qbm fns∧Q62 (Qbm fns)=0∧
  (Qarw fns).length=(Qbm fns).length∧(Qarw (Qbm fns)).length=(Qbm fns).length∧(Qbm fns).length≤4:=by
 have h:=fine_iff.1 hb;have h2:=Q6c h;have hb2:=fine_iff.2 h2;refine⟨by rw[Qaqt,if_pos hb],by have:=Qa15 h;omega,hb2,by rw[Qaqt,if_pos hb2,Qavr h],by simpa[Qss]using hb2,by rw[Qarw,if_pos hb,Qcb],by rw[Qarw,if_pos hb2,Qarx h,List.length_range,Qcb],h2.len.2⟩
end Go.AE.Y
namespace Go.AE.Y
open Go.Proofs.Tryz
attribute [local go_sem] cond_true cond_false Bool.not_true Bool.not_false
variable {H H' H0:Heap}{K:V→Heap→Prop}{fns:List Fn}
theorem Qbjg {R:Rdr}{k:Nat}{fl:Bool}(hH:H R.l=R.o k)(hk:k≤2^39)(hpar:∀f∈fns,f.params.length≤9)
  (hK:∀(ns:List Int) (H':Heap) (k':Nat),Upd H H' [(R.l,R.o k')]→k'≤k+20→K (.c (.sl false 1 (Qm ns))) H'):Ql prog Qav1 [.c (.ptr R.l 0),.ag [.sl fl 3 (Qy fns)]] H K:=by
 refine Q5 ?_;refine Qc Qal Qbjo ?_;refine Qa ?_;simp only[go_sem];refine Qa ?_;simp only[go_sem];refine Qa ?_;simp only[go_sem];refine Q6 ?_;refine Qa ?_;simp only[go_sem,Qw];intro hl0;simp only[LIM]at hl0;have kn:Kn H H [(R.l,R.o k)] []:=Kn.start1 hH (R.o_ne k);have fin:∀(ns:List Int) (c:C) (Lg:List (Nat×Obj)) (k2:Nat) (H2:Heap),Gr Lg 1 (Qm ns) c→k2≤k+20→Kn H H2 [(R.l,R.o k2)] Lg→Q3 prog Qat9 (Qp Qm4 (unK H K)) [(5,.c c)] H2:=by
  intro ns c Lg k2 H2 hg hk2 kn;have hco:=hg.isOw;refine Qa ?_;simp only[go_sem,hco];refine Qh ?_;simp only[go_sem,Qp,Q8,Qm4,Jb,forall_eq,RS.op,hco];exact⟨_,.c _ _ (hg.frz (B:=[]) kn (Qa7 _)),hK ns _ k2 kn.fin hk2⟩
 have rest:∀(n:Nat),n≤9→Q3 prog Qaua (Qp Qm4 (unK H K)) [(0,.c (.ptr R.l 0)),(5,.c (.sl true 1 [])),(6,.c (.int .i64 n))] H:=by
  intro n hn;refine Q6 ?_;refine Qa ?_;simp only[go_sem];refine Qf (Qd (Qab (fun m e1 H1=>∃(i:Nat) (ns:List Int) (c:C) (Lg:List (Nat×Obj)) (k2:Nat),m=n-i∧i≤n∧ns.length=i∧Gr Lg 1 (Qm ns) c∧k2≤k+2 * i∧Kn H H1 [(R.l,R.o k2)] Lg∧
   e1=[(0,.c (.ptr R.l 0)),(5,.c c),(6,.c (.int .i64 n)),(7,.c (.int .i64 i))]) n ?_ ?_))
  ·exact⟨0,[],_,[],k,by omega,by omega,rfl,.nil 1,by omega,kn,rfl⟩
  ·clear kn;rintro m e1 H1 ⟨i,ns,c,Lg,k2,hm,hi,hnl,hg,hk2,kn,rfl⟩;have hco:=hg.isOw;refine Q6 ?_;refine Qa ?_;simp only[go_sem,hco];refine Qf (Qb rfl ?_ ?_)
   ·intro hc;have hlt:i<n:=(by have:=of_decide_eq_true hc;omega);refine Qe ?_;try simp only[go_sem]
    refine Qf (Qd ?_);refine Qq ?_;simp only[go_sem,hco];refine Qbx (kn.e 0 rfl) (by omega) fun v H2 hv hu=>?_;have kn:=kn.callE 0 rfl hu (R.o_ne _);simp only[go_sem,Qaud,hco];refine Qo3 (ns:=[0,1,2,3,7,16,255,v]) (kn.e 0 rfl) (by omega) (by simp) fun v2 H3 hv2 hu=>?_;have kn:=kn.callE 0 rfl hu (R.o_ne _);simp only[go_sem,Qauc,hco];refine Kn.growR (B:=[]) (new:=Qm [v2]) kn hg (.mk' _ true 1 _) (Qa7 _) (by simp only[Qv,Jj,Ji,LIM];omega) fun t Lg' H4 hg2 hto kn=>?_;rw[show Qm ns++Qm [v2]=Qm (ns++[v2])by simp[Qm]]at hg2;simp only[go_sem,AE.X.next,Qaub,hto];refine Qq ?_;simp only[go_sem,AE.X.next,hto];exact⟨Q1 (by omega) (by omega),n-(i+1),by omega,i+1,ns++[v2],t,Lg',k2+1+1,rfl,by omega,by simp[hnl],hg2,by omega,kn,rfl⟩
   ·intro hc;refine Q9 ?_;simp only[go_sem,AE.X.next];refine Q6 ?_;refine Qa ?_;simp only[go_sem,hco];refine Qbx (kn.e 0 rfl) (by omega) fun v H2 hv hu=>?_;have kn:=kn.callE 0 rfl hu (R.o_ne _);simp only[go_sem,hco];refine Qf (Qd ?_);refine Qa ?_;simp only[go_sem,hco];refine Qb rfl (fun hc=>?_) (fun hc=>?_)
    ·refine Qq ?_;simp only[go_sem,hco];refine Kn.growR (B:=[]) (new:=Qm [0]) kn hg (.mk' _ true 1 _) (Qa7 _) (by simp only[Qv,Jj,Ji,LIM];omega) fun t Lg' H4 hg2 hto kn=>?_;rw[show Qm ns++Qm [0]=Qm (ns++[0])by simp[Qm]]at hg2;simp only[go_sem,AE.X.next,Qaue,hto];exact fin _ _ _ _ _ hg2 (by omega) kn
    refine Qa ?_;simp only[go_sem,hco];refine Qb rfl (fun hc=>?_) (fun hc=>?_)
    ·refine Qa ?_;have hokc:=hg.okSl (B:=[]) kn;have hlc:=hg.lenC;simp only[go_sem,hco,hokc,hlc,Qv];intro _;refine Qb rfl (fun hc=>?_) (fun hc=>?_)
     ·have hn0:0<ns.length:=(by have:decide ((0:Int)<(ns.length:Nat))=true:=hc;have:=of_decide_eq_true this;omega);rcases hg with ⟨_,h,_⟩|⟨y,rfl,rfl⟩
      ·exfalso;have:=congrArg List.length h;rw[Qv]at this;have h0:ns.length=0:=this;omega
      refine Qq ?_;simp only[go_sem,hco];refine Qo3 (ns:=[-1,256]) (kn.e 0 rfl) (by omega) (by simp) fun v2 H3 hv2 hu=>?_;have kn:=kn.callE 0 rfl hu (R.o_ne _);have gy:=kn.l 0 rfl;simp only[go_sem,Qauf,gy,Qv,hn0];refine⟨⟨by omega,by omega⟩,by omega,fun H4 h4=>?_⟩;have hset:(Qm ns).set 0 (.int .i64 v2::List.drop 1 ((Qm ns).getD 0 []))=Qm (ns.set 0 v2):=by
       rw[Qb3 _ _ hn0];simp[Qm]
      rw[hset]at h4;have kn:=kn.stL 0 rfl h4;exact fin (ns.set 0 v2) _ _ _ _ (.inr ⟨y,by rw[Qv,Jar],rfl⟩) (by omega) kn
     ·refine Qe ?_;simp only[go_sem,AE.X.next,hco];exact fin _ _ _ _ _ hg (by omega) kn
    ·refine Qe ?_;simp only[go_sem,AE.X.next,hco];exact fin _ _ _ _ _ hg (by omega) kn
 by_cases h0:0<fns.length
 ·have hk:fns.length-1<fns.length:=by omega
  have hi1:((fns.length:Int)-1)=((fns.length-1:Nat):Int):=by omega
  refine Qf (Qb rfl (fun _=>?_) (fun h=>by have h2:decide ((0:Int)<(fns.length:Nat))=false:=h;have:=of_decide_eq_false h2;omega));refine Qq ?_;simp only[go_sem,Qw,hi1,hk,Qaf _ _ hk,Fn.cells,Qo];intro _;refine⟨Q1 (by omega) (by omega),fun hp=>?_⟩;exact rest _ (hpar _ (J7 hk))
 ·refine Qf (Qb rfl (fun h=>by simp[lk]at h;omega) (fun _=>?_));refine Qe ?_;simp only[go_sem];exact rest 0 (by omega)
theorem Qa6m {S:Nat→Bool}{a a' b b' c c':V}(h1:FrzV H S a a')(h2:FrzV H S b b')(h3:FrzV H S c c'):FrzV H S (.tup [a,b,c]) (.tup [a',b',c']):=by
 refine .tup _ _ rfl fun j x x' h4 h5=>?_
 match j with
 |0=>simp at h4 h5;subst h4;subst h5;exact h1
 |1=>simp at h4 h5;subst h4;subst h5;exact h2
 |2=>simp at h4 h5;subst h4;subst h5;exact h3
 |j+3=>simp at h4
theorem Qaar {bs:List UInt8}{fl:Bool}(hK:∀(l:List Fn) (ns:List Int) (S:Int) H',Upd H H' []→PS l→K (.tup [.ag [.sl false 3 (Qy l)],.c (.sl false 1 (Qm ns)),.c (.int .i64 S)]) H') :
  Ql prog Qeb [.c (.sl fl 1 (Qch bs))] H K:=by
 refine Q5 ?_;refine Qc Qal Q1j ?_;refine Qa ?_;simp only[go_sem];intro x2 hx2 H1 h1;have kn:=(Kn.start0 H).al hx2 h1;simp only[go_sem,Qg1];refine Qa ?_;simp only[go_sem];refine Qa65 fun R H2 hR h2=>?_;have kn:Kn H H2 [] [(x2,.st [.sl true 3 []]),(R.l,R.o 0)]:=kn.al hR h2 (R.o_ne 0);simp only[go_sem,Qg2];refine Qa ?_;simp only[go_sem];refine Qaoi (kn.l 1 rfl) (by omega) fun l H3 k2 g1 g2 hu hpr=>?_;have kn:=kn.callL 1 rfl hu (R.o_ne _);have hps:PS l:=⟨by have:=hpr.size;omega,fun f hf=>by have:=hpr.par f hf;omega⟩;simp only[go_sem,Qg4];intro x6 hx6 H4 h4;have kn:=kn.al hx6 h4;have gx6:=kn.l 2 rfl;simp only[go_sem,Qg3,gx6];intro H5 h5;have kn:Kn H H5 [] [(x2,.st [.sl true 3 []]),(R.l,R.o k2),(x6,.st [.sl false 3 (Qy l)])]:=kn.stL 2 rfl h5;refine Q6 ?_;refine Qa ?_;simp only[go_sem];refine Qbx (kn.l 1 rfl) (by omega) fun v H6 hv hu=>?_;have kn:Kn H H6 [] [(x2,.st [.sl true 3 []]),(R.l,R.o (k2+1)),(x6,.st [.sl false 3 (Qy l)])]:=kn.callL 1 rfl hu (R.o_ne _);simp only[go_sem,Qg5];have rest:∀(l:List Fn) (k3:Nat) (H7:Heap) (e7:Env),lk 2 e7=.c (.ptr x2 0)→lk 5 e7=.c (.ptr R.l 0)→lk 6 e7=.c (.ptr x6 0)→PS l→k3≤2^38→Kn H H7 [] [(x2,.st [.sl true 3 []]),(R.l,R.o k3),(x6,.st [.sl false 3 (Qy l)])]→
   Q3 prog Qg0 (Qp Qe4 (unK H K)) e7 H7:=by
  intro l k3 H7 e7 f2 f5 f6 hps hk3 kn;have gx6:=kn.l 2 rfl;refine Qa1 ?_;simp only[go_sem,f2,f5,f6,gx6];refine Qbjg (kn.l 1 rfl) (by omega) hps.2 fun ns H8 k4 hu hk4=>?_;have kn:=kn.callL 1 rfl hu (R.o_ne _);have gx6:=kn.l 2 rfl;simp only[go_sem,Qg9,f2,f5,f6,gx6];refine Qo3 (ns:=[400,400,1000,20,5,1,0,4000,-1,4001]) (kn.l 1 rfl) (by omega) (by simp) fun v2 H9 hv2 hu=>?_;have kn:=kn.callL 1 rfl hu (R.o_ne _);have gx6:=kn.l 2 rfl;have gx2:=kn.l 0 rfl;simp only[go_sem,Qg8,f2,f5,f6,gx6,gx2];intro H10 h10;have kn:=kn.stL 0 rfl h10;have gx2:=kn.l 0 rfl;simp only[go_sem,Qg7,f2,f5,f6];refine Qh ?_;simp only[go_sem,Qp,Q8,Qe4,Jm,RS.op,gx2];exact⟨_,Qa6m (FrzL.ag (.cons (FrzR.same (Qcr _)).sl .nil)) (.c _ _ (FrzR.same (Qa7 _)).sl) (.c _ _ (Qg rfl)),hK l ns v2 _ kn.fin hps⟩
 refine Qf (Qb rfl (fun hc=>?_) (fun hc=>?_))
 ·refine Qq ?_;simp only[go_sem];refine Qa69 (kn.l 1 rfl) (by omega) fun l2 H7 k3 hk3 hk3' hu hps2=>?_;have kn:=kn.callL 1 rfl hu (R.o_ne _);have gx6:=kn.l 2 rfl;simp only[go_sem,Qg6,gx6];intro H8 h8;have kn:=kn.stL 2 rfl h8;try simp only[go_sem]
  exact rest l2 k3 _ _ rfl rfl rfl hps2 (by omega) kn
 ·refine Qe ?_;try simp only[go_sem]
  exact rest l _ _ _ rfl rfl rfl hps (by omega) kn
end Go.AE.Y
namespace Go.AE.Y
attribute [local go_sem] cond_true cond_false Bool.not_true Bool.not_false
attribute [local instance] Classical.propDecidable
open Go.Proofs.Tryz
variable {H:Heap}{K:V→Heap→Prop}{bs:List UInt8}
theorem Qa59 {fns:List Fn}{l:List Int}{S:Int}{o:Oc}(hs:Qs fns≤2^36)(hr:runV fns l S=true)(ho:RunD fns l S o):Qaqt fns=Qbm fns∧Qs (Qbm fns)≤2^36∧runV (Qbm fns) l S=true∧RunD (Qbm fns) l S o:=by
 obtain⟨p1,p2,p3,p4,p5⟩:=Qpa hr;obtain⟨f1,f2,f3,_⟩:=Qavs (fine_iff.2 p1) hs;have hr2:runV (Qbm fns) l S=true:=by
  simp only[runV,canB,J6]at hr⊢;rw[Qaq4 p1];exact⟨⟨f3,hr.1.2⟩,hr.2⟩
 exact⟨f1,f2,hr2,fun _=>Qbbj p1 (ho.v hr),fun h=>by rw[hr2]at h;cases h⟩
theorem FnDropRuns_c (g:GK H)(hK:∀H',K (.c (.bool true)) H'):Ql prog Qru [.c (.sl false 1 (Qch bs))] H K:=by
 have g0:=g;refine Qc Qal Qadz ?_;have retT':∀(e:Env) (H':Heap),lk 2 e=.c (.bool true)→Qp Qcu K .ret e H':=by
  intro e H' h2;simp only[go_sem,Qp,Q8,Qcu,Jb,forall_eq,RS.op,h2];exact hK H'
 refine Qa ?_;simp only[go_sem];refine Q6 ?_;refine Qa ?_;simp only[go_sem,Qb0];intro _;refine Qf (Qb rfl (fun hc=>?_) (fun hc=>?_))
 ·refine Qa ?_;simp only[go_sem];refine Qh ?_;exact retT' _ _ rfl
 refine Qe ?_;try simp only[go_sem]
 refine Qa ?_;simp only[go_sem];refine Qaar fun fns l S H1 hu hps=>?_;have hsz:=hps.1;obtain⟨o,ho⟩:=Qble fns l S;have kn:=(Kn.start0 H).call0 hu;simp only[go_sem,Qnu,Jc,Jd];intro x3 hx3 H2 h2;have kn:=kn.al hx3 h2;have hx3:=kn.l 0 rfl;simp only[go_sem,Qnt,hx3];intro H3 h3;have kn:Kn H H3 [] [(x3,.st [.sl false 3 (Qy fns)])]:=kn.stL 0 rfl h3;have hx3:=kn.l 0 rfl;simp only[go_sem,Qns];refine Qa ?_;simp only[go_sem,hx3];refine Qa6q hsz (g0.kn kn) ho fun H4 hu=>?_;have kn:=kn.call0 hu;simp only[go_sem,Qnx,Jc,Jd];intro x6 hx6 H5 h5;have kn:=kn.al hx6 h5;have hx6:=kn.l 1 rfl;simp only[go_sem,Qnw,hx6,ocN];intro H6 h6;have kn:Kn H H6 [] [(x3,.st [.sl false 3 (Qy fns)]),(x6,.st (ocN o))]:=kn.stL 1 rfl h6;have hx3:=kn.l 0 rfl;simp only[go_sem,Qnv];refine Qa ?_;simp only[go_sem,hx3];refine Qbh3 hsz ho fun H7 hu=>?_;have kn:=kn.call0 hu;simp only[go_sem,Qn0,Jc,Jd];intro x8 hx8 H8 h8;have kn:=kn.al hx8 h8;have hx8:=kn.l 2 rfl;simp only[go_sem,Qnz,hx8,ocN];intro H9 h9;have kn:Kn H H9 [] [(x3,.st [.sl false 3 (Qy fns)]),(x6,.st (ocN o)),(x8,.st (ocN o))]:=kn.stL 2 rfl h9;have hx3:=kn.l 0 rfl;have hx6:H9 x6=.st [.sl false 1 (Qn o.s),.int .i64 (o.e:Nat),.int .i64 (o.v:Nat),.sl false 1 (Qn o.c)]:=kn.l 1 rfl;have hx8:H9 x8=.st [.sl false 1 (Qn o.s),.int .i64 (o.e:Nat),.int .i64 (o.v:Nat),.sl false 1 (Qn o.c)]:=kn.l 2 rfl;have same:=fun K1 hK1=>Qban (K:=K1) (H:=H9) (o:=o) hK1;simp only[ocN]at same;simp only[go_sem,Qny];refine Q6 ?_
 cases hr:runV fns l S with
 |false=>
  refine Qa ?_;simp only[go_sem,hx6,hx8,bne_self_eq_false,decide_true,decide_false];refine same _ ?_;simp only[go_sem,Qe8];refine Qf (Qb rfl (fun _=>?_) (fun h=>by simp[lk]at h));refine Qa ?_;simp only[go_sem,hx6,hx8,bne_self_eq_false,decide_true,decide_false];refine same _ ?_;simp only[go_sem,Qmc];refine Qh ?_;exact retT' _ _ rfl
 |true=>
  obtain⟨f1,f2,f3,f4⟩:=Qa59 hsz hr ho;refine Qa ?_;simp only[go_sem,hx6,hx8,bne_self_eq_false,decide_true,decide_false];refine same _ ?_;simp only[go_sem,Qe8];refine Qf (Qb rfl (fun h=>by simp[lk]at h) (fun _=>?_));refine Qe ?_;try simp only[go_sem]
  refine Qa ?_;simp only[go_sem,hx3];refine Qbb7 hsz (g0.kn kn) fun H10 hu=>?_;rw[f1,show Qss fns=true from fine_iff.2 (Qpa hr).1];have kn:=kn.call0 hu;simp only[go_sem,Qmf,Jc,Jd];intro x10 hx10 H11 h11;have kn:=kn.al hx10 h11;have hx10:=kn.l 3 rfl;simp only[go_sem,Qme,hx10];intro H12 h12;have kn:Kn H H12 [] [(x3,.st [.sl false 3 (Qy fns)]),(x6,.st (ocN o)),(x8,.st (ocN o)),(x10,.st [.sl false 3 (Qy (Qbm fns))])]:=kn.stL 3 rfl h12;have hx10:=kn.l 3 rfl;simp only[go_sem,Qmd];refine Qa ?_;simp only[go_sem,hx10];refine Qa6q f2 (g0.kn kn) f4 fun H13 hu=>?_;rw[f3];have kn:=kn.call0 hu;simp only[go_sem,Qmi,Jc,Jd];intro x12 hx12 H14 h14;have kn:=kn.al hx12 h14;have hx12:=kn.l 4 rfl;simp only[go_sem,Qmh,hx12,ocN];intro H15 h15;have kn:Kn H H15 [] [(x3,.st [.sl false 3 (Qy fns)]),(x6,.st (ocN o)),(x8,.st (ocN o)),(x10,.st [.sl false 3 (Qy (Qbm fns))]),(x12,.st (ocN o))]:=kn.stL 4 rfl h15;have hx6:H15 x6=.st [.sl false 1 (Qn o.s),.int .i64 (o.e:Nat),.int .i64 (o.v:Nat),.sl false 1 (Qn o.c)]:=kn.l 1 rfl;have hx12:H15 x12=.st [.sl false 1 (Qn o.s),.int .i64 (o.e:Nat),.int .i64 (o.v:Nat),.sl false 1 (Qn o.c)]:=kn.l 4 rfl;simp only[go_sem,Qmg];refine Qa ?_;simp only[go_sem,hx6,hx12];have same2:=fun K1 hK1=>Qa6r (K:=K1) (H:=H15) (o:=o) hK1;simp only[ocN]at same2;refine same2 _ ?_;simp only[go_sem,Qmj];refine Qh ?_;exact retT' _ _ rfl
end Go.AE.Y
namespace Go.AE.Y
open Go.ChangeShapes Go.WideShapes Go.ChangeAt Go.RowKit
def Qa5k (w:World)(a:Option Addr)(len cap:Nat)(zs:List Int):Prop:=
 (a=none∧len=0∧cap=0∧zs=[])∨
 ∃x,a=some x∧len≤cap∧zs.length=cap∧(∀i,i<zs.length→w.cell? (x.add i)=some (.int .u8 (zs.getD i 0)))∧∀n∈zs,(Lit.int .u8 n).wf=true
theorem Qbf2 {n:Int}(h:(Lit.int .u8 n).wf=true):((UInt8.ofNat n.toNat).toNat:Int)=n:=by
 simp only[Lit.wf,J6,decide_eq_true_eq]at h;have a1:IntKind.min .u8=0:=by decide
 have a2:IntKind.max .u8=255:=by decide
 rw[a1,a2]at h;rw[UInt8.toNat_ofNat'];omega
theorem Qacv {P:Program}{f:Nat}{H0:Heap}{g0:G}(h:∀bs:List UInt8,bs.length≤1048576→Ql P f [.c (.sl false 1 (Qch bs))] H0 fun v _=>v=.c (.bool true))
  {a0:Option Addr} {len0 cap0:Nat} {z0:List Int} {w:World} (hg:∀b,b<w.heap.size→g0.per b=true) (hs:Sat H0 g0 w) (hr:Qa5k w a0 len0 cap0 z0) (hl:len0≤1048576) :
  Calls P f #[.slice a0 len0 cap0] w fun e w'=>e=.returned (.bool true)∧Below w.heap.size w w':=by
 have key:∃bs:List UInt8,bs.length=len0∧RepC w g0 (.sl false 1 (Qch bs)) (.slice a0 len0 cap0):=by
  rcases hr with ⟨rfl,rfl,rfl,rfl⟩|⟨x,rfl,hlc,hz,hcell,hwf⟩
  ·exact⟨[],rfl,.slnil _ _ _⟩
  ·obtain⟨b,off,spot⟩:=x;have hbl:((z0.take len0).map fun n=>UInt8.ofNat n.toNat).length=len0:=by simp;omega
   by_cases h0:cap0=0
   ·subst h0;have:len0=0:=(by omega);subst this;exact⟨[],rfl,.slnil _ _ _⟩
   have hc0:=hcell 0 (by omega);have hspot:spot=none:=by simpa[Addr.add]using World.cell?_spot hc0
   subst hspot;have hadd:∀i,(⟨b,off,none⟩:Addr).add i=⟨b,off+i,none⟩:=by
    intro i;by_cases h:i=0 <;> simp[Addr.add,h]
   have hb:b<w.heap.size:=by
    rcases Jad b w.heap.size with h|h
    ·exact h
    ·simp[World.cell?,Addr.add,Jt h]at hc0
   refine⟨_,hbl,?_⟩;have hget:∀(i:Nat) (row:List C),(Qch ((z0.take len0).map fun n=>UInt8.ofNat n.toNat))[i]? = some row→i<len0∧row=[.int .u8 (z0.getD i 0)]:=by
    intro i row hi;have hlt:i<len0:=by
     rcases Jad i len0 with h|h
     ·exact h
     ·rw[Jo (by rw[Qb0];omega)]at hi;simp at hi
    have hz0:i<z0.length:=(by omega);refine⟨hlt,?_⟩;simp only[Qch,Jg,Jak,if_pos hlt,List.getElem?_eq_getElem hz0,Jaf,Jv]at hi;rw[←hi,Qbf2 (hwf _ (J7 hz0))];simp[Jf,hz0]
   have:=RepC.sl (w:=w) (g:=g0) false 1 (Qch ((z0.take len0).map fun n=>UInt8.ofNat n.toNat)) b off cap0 (fun i _=>.int .u8 (z0.getD i 0))
    (by rw[Qb0,hbl];simp only[LIM];omega) (by simp) (by rw[Qb0,hbl];exact hlc) (hg _ hb)
    (fun i row hi=>by rw[(hget i row hi).2];rfl)
    (fun i row j c hi hj=>by
     obtain⟨h1,rfl⟩:=hget i row hi;have hj0:j=0:=by
      rcases Js j with h|h
      ·exact h
      ·rw[Jo (by simp;omega)]at hj;simp at hj
     subst hj0;have:=hcell i (by omega);rw[hadd]at this;simpa using this)
    (fun i row j c hi hj=>by
     obtain⟨h1,rfl⟩:=hget i row hi;have hj0:j=0:=by
      rcases Js j with h|h
      ·exact h
      ·rw[Jo (by simp;omega)]at hj;simp at hj
     subst hj0;simp at hj;subst hj;exact .int _ _)
   rw[Qb0,hbl]at this;exact this
 obtain⟨bs,hbl,hrep⟩:=key;have hc:=(h bs (by omega)).2 _ w [.slice a0 len0 cap0] hs rfl (fun j x u hj hu=>by
  cases j with
  |zero=>simp at hj hu;subst hj;subst hu;exact .c _ _ hrep
  |succ j=>simp at hj)
 refine hc.mono fun e w'=>?_;rintro (⟨v,x,H',g',rfl,rfl,hst,hv⟩|⟨v,H',g',_,h,_⟩)
 rotate_left
 ·cases h
 have:v=.bool true:=by cases hv with|c _ _ h=>cases h;rfl
 subst this;exact⟨rfl,hst.le.os,hst.le.tape,hst.le.output,hst.le.size,fun k hk=>(hst.le.per k (hg _ hk)).2⟩
def signL:List (Int×List UInt8×Int):=[(3,[43],3),(4,[45],3),(5,[42],4),(6,[47],4),(7,[37],4),(8,[60],2),(9,[61],2),(10,[38],1)]
def kC (t:Int×List UInt8×Int):C:=.int .i64 t.1
def rC (t:Int×List UInt8×Int):List C:=[.str t.2.1,.int .i64 t.2.2]
def kvV (t:Int×List UInt8×Int):Value×Value:=(.int .i64 t.1,.agg #[.string ⟨t.2.1.toArray⟩,.int .i64 t.2.2])
def eC (t:Int×List UInt8×Int):C×V:=(kC t,.ag (rC t))
structure Tabs (w:World):Prop where
 keys:∀(j:Nat) (s:List UInt8),keysL[j]? = some s→w.cell? ⟨Qf2,j,none⟩=some (.string ⟨s.toArray⟩)
 sign:∃b ms clock ts,w.cell? ⟨Qbb,0,none⟩=some (.map (some b))∧w.heap[b]? = some (.map ms clock)∧Go.MapKept.Stamped ms clock∧List.Perm ts signL∧
  ms.toList.map (fun m=>(m.key,m.val))=ts.map kvV
def gh5 (w:World):G:=⟨fun b=>decide (b<w.heap.size),fun _=>none,fun l=>if l=Qf2 then some (Qf2,9,0)else if l=Qbb then some (Qbb,1,0)else none⟩
def hp5 (ts:List (Int×List UInt8×Int)):Heap:=fun l=>if l=Qf2 then .gl Qf2 (keysL.map C.str)else if l=Qbb then .gl Qbb [.cm true (ts.map kC) (ts.map rC)]else .none
theorem Qa2b {op:Int}:∀{l1 l2:List (Int×List UInt8×Int)},l1.Perm l2→(l2.map (·.1)).Nodup→Qc0 (.int .i64 op) (l1.map eC)=Qc0 (.int .i64 op) (l2.map eC):=by
 intro l1 l2 hp
 induction hp with
 |nil=>intro _;rfl
 |cons x h ih=>
  intro hn;simp only[Jp,Jas]at hn;simp only[Jp,Qc0,ih hn.2]
 |swap x y l=>
  intro hn;simp only[Jp,Jas,Jam,not_or]at hn;simp only[Jp,Qc0,eC,kC,Qem,decide_eq_true_eq];by_cases h1:op=y.1
  ·have h2:¬op=x.1:=fun e=>hn.1.1 (e.symm.trans h1);rw[if_pos h1,if_neg h2,if_pos h1]
  ·by_cases h2:op=x.1
   ·rw[if_neg h1,if_pos h2,if_pos h2]
   ·rw[if_neg h1,if_neg h2,if_neg h2,if_neg h1]
 |trans h1 h2 ih1 ih2=>
  intro hn;exact (ih1 ((h2.map _).nodup_iff.2 hn)).trans (ih2 hn)
theorem Qbb5 {ts:List (Int×List UInt8×Int)}(hp:ts.Perm signL):GK (hp5 ts):=by
 refine⟨rfl,ts.map kC,ts.map rC,rfl,fun op=>?_⟩;have e:((ts.map kC).zip (ts.map rC)).map (fun e=>(e.1,V.ag e.2))=ts.map eC:=by
  rw[List.zip_map',J2];rfl
 rw[e];refine⟨?_,?_⟩
 ·intro x hx;obtain⟨t,_,rfl⟩:=Jq.1 hx;exact⟨_,rfl⟩
 ·rw[Qa2b hp (by decide)];simp only[signL,Jp,Jau,Qc0,eC,kC,rC,Qem,decide_eq_true_eq,levN];by_cases h3:op=3
  ·subst h3;exact⟨_,rfl⟩
  by_cases h4:op=4
  ·subst h4;exact⟨_,rfl⟩
  by_cases h5:op=5
  ·subst h5;exact⟨_,rfl⟩
  by_cases h6:op=6
  ·subst h6;exact⟨_,rfl⟩
  by_cases h7:op=7
  ·subst h7;exact⟨_,rfl⟩
  by_cases h8:op=8
  ·subst h8;exact⟨_,rfl⟩
  by_cases h9:op=9
  ·subst h9;exact⟨_,rfl⟩
  by_cases h10:op=10
  ·subst h10;exact⟨_,rfl⟩
  exact⟨[],by simp[h3,h4,h5,h6,h7,h8,h9,h10]⟩
theorem Qa5a {w:World}{ts:List (Int×List UInt8×Int)}{b:Nat}{ms:Array MapEntry}{clock:Nat}(hk:∀(j:Nat) (s:List UInt8),keysL[j]? = some s→w.cell? ⟨Qf2,j,none⟩=some (.string ⟨s.toArray⟩))
  (hc:w.cell? ⟨Qbb,0,none⟩=some (.map (some b))) (hb:w.heap[b]? = some (.map ms clock)) (hst:Go.MapKept.Stamped ms clock) (hp:ts.Perm signL)
  (hm:ms.toList.map (fun m=>(m.key,m.val))=ts.map kvV):Sat (hp5 ts) (gh5 w) w:=by
 have szof:∀{a:Addr} {v:Value},w.cell? a=some v→a.block<w.heap.size:=by
  intro a v h;rcases Jad a.block w.heap.size with h'|h'
  ·exact h'
  ·simp[World.cell?,Jt h']at h
 have h1:Qf2<w.heap.size:=szof (hk 0 _ rfl);have h2:Qbb<w.heap.size:=szof hc;have h3:b<w.heap.size:=by
  rcases Jad b w.heap.size with h'|h'
  ·exact h'
  ·simp[Jt h']at hb
 have hlen:ms.size=ts.length:=by
  have:=congrArg List.length hm;simpa using this
 have hl8:ts.length=8:=hp.length_eq;have hget:∀(i:Nat) (m:MapEntry),ms[i]? = some m→∃t,ts[i]? = some t∧t∈signL∧m.key=.int .i64 t.1∧m.val=.agg #[.string ⟨t.2.1.toArray⟩,.int .i64 t.2.2]:=by
  intro i m h;have h':(ms.toList.map (fun m=>(m.key,m.val)))[i]? = some (m.key,m.val):=by
   rw[Jg,Jw,h];rfl
  rw[hm,Jg]at h'
  cases ht:ts[i]? with
  |none=>rw[ht]at h';cases h'
  |some t=>
   rw[ht]at h';simp only[Jaf,Jv,kvV,Jat]at h';exact⟨t,rfl,(hp.mem_iff).1 (Jx ht),h'.1.symm,h'.2.symm⟩
 refine⟨fun b hb=>⟨by simp[gh5];omega,rfl⟩,⟨3,fun l hl=>by simp only[gh5];rw[if_neg (by simp only[Qf2];omega),if_neg (by simp only[Qbb];omega)]⟩,fun b x h=>by simp[gh5]at h,fun b l p h=>by simp[gh5]at h,fun l=>?_⟩;by_cases e1:l=Qf2
 ·subst e1;refine⟨9,fun j=>.string ⟨(keysL.getD j []).toArray⟩,by simp[gh5],by simpa[gh5]using h1,fun j c h=>?_,fun j c h=>?_⟩
  ·rw[Jg]at h
   cases hs:keysL[j]? with
   |none=>rw[hs]at h;cases h
   |some s=>
    show _=some (Value.string ⟨(keysL.getD j []).toArray⟩);rw[hk j s hs,Jf,hs];rfl
  ·rw[Jg]at h
   cases hs:keysL[j]? with
   |none=>rw[hs]at h;cases h
   |some s=>
    rw[hs]at h;obtain rfl:=Jl h;have hle:s.length≤4:=by
     have:∀s∈keysL,s.length≤4:=(by decide);exact this s (Jx hs)
    show RepC _ _ _ (Value.string ⟨(keysL.getD j []).toArray⟩);rw[Jf,hs];exact .str _ (by simp only[LIM];omega)
 ·by_cases e2:l=Qbb
  ·subst e2;refine⟨1,fun _=>.map (some b),by simp[gh5],by simpa[gh5]using h2,fun j c h=>?_,fun j c h=>?_⟩
   ·obtain rfl:j=0:=by
     rcases Js j with h'|h'
     ·exact h'
     ·rw[Jo (by simp;omega)]at h;cases h
    exact hc
   ·obtain rfl:j=0:=by
     rcases Js j with h'|h'
     ·exact h'
     ·rw[Jo (by simp;omega)]at h;cases h
    obtain rfl:=Jl h;obtain⟨_,s2,s3⟩:=hst;refine .cm true (ts.map kC) (ts.map rC) b ms clock (fun i j=>match ts[i]? with|some t=>if j=0 then .string ⟨t.2.1.toArray⟩else .int .i64 t.2.2|none=>.int .i64 0) (by simpa[gh5]using h3) hb (by simpa using hlen) (by simp) (by simp[hl8,LIM]) ?_ ?_ ?_ ?_
    ·intro i j m m' hi hj he;have gi:ms.toList[i]? = some m:=(by rw[Jw];exact hi);have gj:ms.toList[j]? = some m':=(by rw[Jw];exact hj);rcases he with he|he
     ·have:=Jan (l:=ms.toList.map (·.born)) (i:=i) (j:=j) (by simpa using (J1.1 hi).1) s2;exact this.1 (by rw[Jg,Jg,gi,gj];simp[he])
     ·have:=Jan (l:=ms.toList.map (·.key)) (i:=i) (j:=j) (by simpa using (J1.1 hi).1) s3;exact this.1 (by rw[Jg,Jg,gi,gj];simp[he])
    ·intro i row m hr hi;obtain⟨t,ht,_,_,hv⟩:=hget i m hi;rw[Jg,ht]at hr;obtain rfl:=Jl hr;refine⟨?_,fun h=>by cases h⟩;rw[hv];simp[rC,ht,List.range_succ]
    ·intro i k m hk' hi;obtain⟨t,ht,_,hkey,_⟩:=hget i m hi;rw[Jg,ht]at hk';obtain rfl:=Jl hk';rw[hkey];exact .int _ _
    ·intro i row j c hr hj;rw[Jg]at hr
     cases ht:ts[i]? with
     |none=>rw[ht]at hr;cases hr
     |some t=>
      rw[ht]at hr;obtain rfl:=Jl hr;have hmem:t∈signL:=(hp.mem_iff).1 (Jx ht);have hle:t.2.1.length≤1:=by
       have:∀t∈signL,t.2.1.length≤1:=(by decide);exact this t hmem
      match j,hj with
      |0,hj=>
       obtain rfl:=Jl hj;exact .str _ (by simp only[LIM];omega)
      |1,hj=>
       obtain rfl:=Jl hj;exact .int _ _
      |j+2,hj=>simp[rC]at hj
  ·show SatObj _ _ _ _ (hp5 ts l);rw[hp5,if_neg e1,if_neg e2];trivial
theorem calls_of_acall5 {P:Program}{f:Nat}(h:∀(H:Heap) (bs:List UInt8),GK H→bs.length≤1048576→Ql P f [.c (.sl false 1 (Qch bs))] H fun v _=>v=.c (.bool true))
  {a0:Option Addr} {len0 cap0:Nat} {z0:List Int} {w:World} (ht:Tabs w) (hr:Qa5k w a0 len0 cap0 z0) (hl:len0≤1048576) :
  Calls P f #[.slice a0 len0 cap0] w fun e w'=>e=.returned (.bool true)∧Below w.heap.size w w':=by
 obtain⟨hk,b,ms,clock,ts,h1,h2,h3,h4,h5⟩:=ht;exact Qacv (g0:=gh5 w) (fun bs hb=>h (hp5 ts) bs (Qbb5 h4) hb) (fun b hb=>by simpa[gh5]using hb) (Qa5a hk h1 h2 h3 h4 h5) hr hl
theorem Qadh {H:Type}(x:Lit×DataW H):∀l,(DataW.insert x l).Perm (x::l)
 |[]=>.refl _
 |y::r=>by
  rw[DataW.insert];split
  ·exact .refl _
  ·exact ((Qadh x r).cons y).trans (.swap x y r)
theorem Qamv {H:Type}:∀l:List (Lit×DataW H),(l.foldr DataW.insert []).Perm l
 |[]=>.refl _
 |x::r=>(Qadh x _).trans ((Qamv r).cons x)
def litD (t:Int×List UInt8×Int):Lit×DataW Unit:=(.int .i64 t.1,.agg [.lit (.string t.2.1),.lit (.int .i64 t.2.2)])
def decD:Lit×DataW Unit→Int×List UInt8×Int
 |(.int _ n,.agg [.lit (.string s),.lit (.int _ l)])=>(n,s,l)
 |_=>(0,[],0)
theorem sign_entries {l:List MapEntry}{f:MapEntry→Lit×DataW Unit}(hp:((l.map f).foldr DataW.insert [])=signL.map litD)(hf:∀m∈l,∀t,f m=litD t→(m.key,m.val)=kvV t) :
  ∃ts,List.Perm ts signL∧l.map (fun m=>(m.key,m.val))=ts.map kvV:=by
 have h1:(l.map f).Perm (signL.map litD):=(Qamv _).symm.trans (by rw[hp]);refine⟨(l.map f).map decD,?_,?_⟩
 ·have:=h1.map decD;rw[J2 (g:=decD) (f:=litD)]at this;exact this
 ·rw[J2,J2];refine Jah fun m hm=>?_;have hmem:f m∈signL.map litD:=(h1.mem_iff).1 (Jq.2 ⟨m,hm,rfl⟩);obtain⟨t,_,ht⟩:=Jq.1 hmem;have e:decD (f m)=t:=by rw[←ht];rfl
  simp only[Function.comp,e];exact hf m hm t ht.symm
end Go.AE.Y
