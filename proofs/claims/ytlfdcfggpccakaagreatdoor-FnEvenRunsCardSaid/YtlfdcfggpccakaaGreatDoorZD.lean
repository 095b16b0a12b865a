/- Part 4 of the proof: the engine, codes, walks and plain laws, each named where it stands. -/
import Derived.Test.YtlfdcfggpccakaaGreatDoorZC
import Derived.Shelf.Sort.Plain
import Derived.Shelf.Sort.So_math_bits_LenIn
open Nat (reduceEqDiff reduceAdd reduceLeDiff reduceLT)
set_option linter.unusedVariables false
set_option linter.unusedSimpArgs false
set_option maxRecDepth 4000
open Bool renaming and_eq_true->Jp,not_false->J0,not_true->J7,false_eq_true->Ja3,not_eq_true'->Ja8,eq_iff_iff->Jbc,true_and->Jbd
open Int renaming eq_ofNat_of_zero_le->Jas
open List renaming getD_eq_getElem?_getD->Ja,mem_singleton->Jb,take_of_length_le->Jc,getElem_mem->Jd,take_succ_eq_append_getElem->Je,mem_append_right->Jf,mem_append->Jg,mem_append_left->Jh,getElem?_eq_getElem->Ji,length_replicate->Jj,mem_cons_of_mem->Jk,length_set->Jl,mem_cons_self->Jm,mem_map->Jo,length_cons->Jq,length_nil->Jr,getElem?_eq_none->Jt,map_append->Ju,length_map->Jv,map_cons->Jw,mem_iff_getElem->Jx,drop_eq_getElem_cons->Jy,contains_iff_mem->Jz,perm_append_comm->J1,nil_append->J2,cons_append->J3,map_nil->J4,mem_cons->J5,map_set->J6,length_take->J8,filter_append->J9,getElem?_set->Jaa,nodup_append->Jab,drop_zero->Jac,mem_or_eq_of_mem_set->Jad,mem_range->Jae,getElem?_replicate->Jaf,ext_getElem?->Jag,take_append_drop->Jah,all_eq_true->Jai,any_eq_true->Jaj,mem_of_getElem?->Jal,mem_filter->Jan,range_succ->Jao,sum_append->Jap,map_map->Jaq,append_assoc->Jar,sum_cons->Jat,filter_cons->Jau,getElem_map->Jav,length_drop->Jaw,getElem?_set_self->Jax,filter_nil->Jay,set_append_right->Jaz,singleton_append->Ja0,getElem?_set_ne->Ja1,mem_of_mem_take->Ja2,length_append->Ja4,pairwise_cons->Ja5,set_cons_succ->Ja6,set_cons_zero->Ja7,getElem_drop->Ja9,length_range->Jba,set_set->Jbb,all_cons->Jbe
open List.Pairwise renaming filter->Jbh
open Nat renaming le_refl->Jn,zero_add->Js,mul_le_mul_right->Jam,sub_self->Jbf,succ_mul->Jbg
open Option renaming getD_some->Jak
open Option.some renaming inj->Jbi
namespace Go.AE.Y
open Go.Proofs.Tryz
variable {H:Heap}{K:V→Heap→Prop}
structure GRd (H:Heap)(c:C)(rows:List (List C))(nx:Nat→List Int):Prop where
 s:Slc H 5 rows c
 ow:c.isOw=false
 no:∀r∈rows,noOw r=true
 x:∀i,i<rows.length→∃a1 a2 a3 a4 fl,rows.getD i []=[a1,a2,a3,a4,.sl fl 1 (Qb (nx i))]
theorem GRd.keep {c:C}{rows:List (List C)}{nx:Nat→List Int}{H':Heap}{E L:List (Nat×Obj)}(h:GRd H c rows nx)(kn:Kn H H' E L)(hE:∀l a b d,c=.vsl l a b d→l∉E.map Prod.fst):GRd H' c rows nx:=⟨h.s.keep kn hE,h.ow,h.no,h.x⟩
theorem GRd.keep0 {c:C}{rows:List (List C)}{nx:Nat→List Int}{H':Heap}{L:List (Nat×Obj)}(h:GRd H c rows nx)(kn:Kn H H' [] L):GRd H' c rows nx:=h.keep kn (by simp)
def gnx (q:CodeD):Nat→List Int:=fun i=>(q.blocks.map BlkD.next).getD i []
theorem Qg0 (H:Heap)(q:CodeD)(fl:Bool):GRd H (.sl fl 5 (Qm q.blocks)) (Qm q.blocks) (gnx q):=by
 refine⟨.mk' _ _ _ _,rfl,Qwk _,fun i h=>?_⟩;rw[Qo]at h;rw[Qaa _ _ h];have:gnx q i=q.blocks[i].next:=by simp[gnx,Ja,h]
 exact⟨.sl false 2 (Q1 q.blocks[i].phis),.sl false 4 (Qaq q.blocks[i].ins),.int .i64 q.blocks[i].jump,.int .i64 q.blocks[i].on,false,by rw[this];rfl⟩
set_option maxHeartbeats 1000000 in
theorem Qbff {p rg:Int}{bc:C}{rows:List (List C)}{nx:Nat→List Int}(hg:GRd H bc rows nx)(hK:K (.c (.bool (Qoq rows.length nx))) H):Qs prog Q05 [.ag [.int .i64 p,.int .i64 rg,bc]] H K:=by
 refine Qc Qaj Qbf3 ?_;have how:=hg.ow;have hok:=eq_true hg.s.ok;have hlen:=hg.s.len;have hsz:=hg.s.sz;have hrw:=hg.s.rows;have retf:∀(b:Bool) (e:Env),b=Qoq rows.length nx→lk 2 e=.c (.bool b)→Q3 Qaav K .ret e H:=by
  intro b e hb h3;simp only[go_sem,Q3,Qab,Qaav,Jb,forall_eq,RS.op,h3];rw[hb];exact hK
 refine Qa ?_;simp only[go_sem];refine Qy ?_;refine Qa ?_;simp only[go_sem];refine Qh (Qf (Qw (fun m e1 H1=>∃(i:Nat),m=rows.length-i∧i≤rows.length∧H1=H∧(∀j,j<i→∀x∈nx j,0≤x∧x≤(rows.length:Int)-1)∧e1=[(1,.c (.pp [.int .i64 p,.int .i64 rg,bc])),(3,.c (.int .i64 i))]) rows.length ?_ ?_))
 ·exact⟨0,by omega,by omega,rfl,fun j hj=>by omega,rfl⟩
 ·rintro m e1 H1 ⟨i,hm,hi,rfl,hall,rfl⟩;refine Qy ?_;refine Qa ?_;simp only[go_sem,how,hok,hlen];intro hl;simp only[LIM]at hl;refine Qh (Qe rfl ?_ ?_)
  ·intro hc;have hlt:i<rows.length:=by simpa using hc
   obtain⟨a1,a2,a3,a4,fl,hrow⟩:=hg.x i hlt;refine Qi ?_;simp only[go_sem];refine Qd2 (fun e2 H2=>H2=H1∧(∀x∈nx i,0≤x∧x≤(rows.length:Int)-1)∧lk 1 e2=.c (.pp [.int .i64 p,.int .i64 rg,bc])∧lk 3 e2=.c (.int .i64 i)) ?_ ?_
   ·intro Q hn hr _;refine Qf ?_;refine Qa ?_;simp only[go_sem];refine Qf (Qw (fun m e1 H2=>∃(k:Nat),m=(nx i).length-k∧k≤(nx i).length∧H2=H1∧(∀x∈(nx i).take k,0≤x∧x≤(rows.length:Int)-1)∧e1=[(1,.c (.pp [.int .i64 p,.int .i64 rg,bc])),(3,.c (.int .i64 i)),(4,.c (.int .i64 k))]) (nx i).length ?_ ?_)
    ·exact⟨0,by omega,by omega,rfl,by simp,rfl⟩
    ·rintro m2 e1 H2 ⟨k,hm2,hk,rfl,hall2,rfl⟩;refine Qy ?_;refine Qa ?_;simp only[go_sem,how,hok,hlen,hsz,hrw,hlt,hrow,Qd];intro hl2;simp only[LIM]at hl2;refine Qh (Qe rfl ?_ ?_)
     ·intro hc;have hlt2:k<(nx i).length:=(by simpa using hc);have hgd:(nx i).getD k 0=(nx i)[k]:=(by simp[Ja,hlt2]);refine Qi ?_;simp only[go_sem];refine Qh (Qf ?_);refine Qag ?_;simp only[go_sem,how,hok,hlen,hsz,hrw,hlt,hrow,hlt2,Qd,Qn _ _ hlt2,hgd];refine⟨Qr (by omega) (by omega),?_⟩;refine Qc9 ?_;simp only[go_sem,Q3t];refine Qe rfl ?_ ?_
      ·intro hc2;refine Qa ?_;simp only[go_sem];refine Qk ?_;simp only[go_sem,X.next];refine hr _ _ (retf false _ ?_ (by simp[lk]))
       cases hf:Qoq rows.length nx with
       |false=>rfl
       |true=>
        have:=Q9w hf hlt (Jd hlt2);simp at hc2;omega
      ·intro hc2;refine Qi ?_;simp only[go_sem];refine Qq ?_;simp only[go_sem,X.next];refine⟨Qr (by omega) (by omega),(nx i).length-(k+1),by omega,k+1,rfl,by omega,fun x hx=>?_,rfl⟩;rw[Je hlt2]at hx;rcases Jg.1 hx with hx|hx
       ·exact hall2 x hx
       ·simp only[Jb]at hx;subst hx;simpa using hc2
     ·intro hc;have hge:(nx i).length≤k:=(by simpa using hc);rw[Jc hge]at hall2;refine Qv ?_;simp only[go_sem,X.next];exact hn _ _ ⟨rfl,hall2,by simp[lk],by simp[lk]⟩
   ·rintro e2 H2 ⟨rfl,hx,l1,l3⟩;refine Qq ?_;simp only[go_sem,X.next,l1,l3];refine⟨Qr (by omega) (by omega),rows.length-(i+1),by omega,i+1,rfl,by omega,fun j hj=>?_,rfl⟩;by_cases h:j<i
    ·exact hall j h
    ·have:j=i:=(by omega);subst this;exact hx
  ·intro hc;have hge:i=rows.length:=by have:¬i<rows.length:=(by simpa using hc);omega
   subst hge;refine Qv ?_;simp only[go_sem,X.next];refine Qa ?_;simp only[go_sem,how,hok,hlen];intro _;refine Qk ?_;refine retf _ _ ?_ (by simp[lk];rfl);have:(List.range rows.length).all (fun i=>(nx i).all fun x=>decide (0≤x∧x≤(rows.length:Int)-1))=true:=by
    simp only[Jai,Jae,decide_eq_true_eq];exact hall
   simp only[Qoq,this,Jbd];try (by_cases h:0<rows.length <;> simp[h])
end Go.AE.Y
namespace Go.AE.Y
open Go.Proofs.Tryz
def Qu (S:List Bool):List (List C):=S.map fun b=>[.bool b]
theorem Qz (S:List Bool):(Qu S).length=S.length:=by simp[Qu]
theorem Q6 (S:List Bool)(i:Nat)(h:i<S.length):(Qu S).getD i []=[.bool (S.getD i false)]:=by
 simp[Qu,Ja,h]
theorem Qbo (S:List Bool)(i:Nat)(b:Bool):(Qu S).set i [.bool b]=Qu (S.set i b):=by simp[Qu,J6]
theorem Qii (S:List Bool):∀r∈Qu S,noOw r=true:=by intro r hr;obtain⟨x,_,rfl⟩:=Jo.1 hr;rfl
def Qaf (l:List Nat):List (List C):=Qb (l.map Int.ofNat)
theorem Q7 (l:List Nat):(Qaf l).length=l.length:=by simp[Qaf,Qd]
theorem Qa1s (l:List Nat)(n:Nat):Qaf l++[[.int .i64 (n:Int)]]=Qaf (l++[n]):=by simp[Qaf,Qb]
theorem Qbr (l:List Nat):∀r∈Qaf l,noOw r=true:=Qp _
set_option maxHeartbeats 2000000 in
theorem Q1m {F:Heap}{p rg:Int}{bc:C}{rows:List (List C)}{nx:Nat→List Int}{y:Nat}(hfit:Qoq rows.length nx=true)(hn:rows.length≤1000000)(hg:GRd F bc rows nx)(hyb:∀l a b d,bc=.vsl l a b d→l≠y) :
  ∀(u b:Nat) (S:List Bool) (o:List Nat) (oc:C) (Lg:List (Nat×Obj)) (H:Heap) (K:V→Heap→Prop),S.length=rows.length→rows.length-cnt S≤u→b<rows.length→S.getD b false=false→
   Kn F H [(y,.vec 1 (Qu S))] ([]++Lg)→Gr Lg 1 (Qaf o) oc→o.length≤cnt S→
   (∀(S':List Bool) (o':List Nat) (oc':C) (Lg':List (Nat×Obj)) (H':Heap),Dfs (nxN nx) [b] S o S' o'→Kn F H' [(y,.vec 1 (Qu S'))] ([]++Lg')→Gr Lg' 1 (Qaf o') oc'→K (.c oc') H')→
   Qs prog Qeu [.ag [.int .i64 p,.int .i64 rg,bc],.c (.int .i64 b),.c (.vsl y 1 0 rows.length),.c oc] H K:=by
 intro u
 induction u with
 |zero=>
  intro b S o oc Lg H K hS hu hb hsb;have h1:=Qamm (S:=S) (x:=b) (by omega) hsb;have h2:=Qarl (S.set b true);rw[Jl]at h2;omega
 |succ u ih=>
  intro b S o oc Lg H K hS hu hb hsb kn hgr hol hK;have how:=hg.ow;have hbS:b<S.length:=by omega
  obtain⟨a1,a2,a3,a4,fl,hrow⟩:=hg.x b hb;have hsz:=hg.s.sz;have hlen:=hg.s.len;have hy:=kn.e 0 rfl;have hocw:=hgr.isOw;refine Qc Qaj Qbaz ?_;refine Qa ?_;simp only[go_sem,how];refine Qa ?_;have htk:List.take rows.length (Qu S)=Qu S:=Jc (by rw[Qz];omega);simp only[go_sem,hy,hb,hbS,Qz,hS,Q6 _ _ hbS,Qbo,Jac,Js,Jn];intro H1 h1;have kn:=kn.stE 0 rfl h1;have hcS:=Qamm hbS hsb;have hnxl:(nxN nx b).length=(nx b).length:=by simp[nxN]
  refine Qy ?_;refine Qa ?_;simp only[go_sem];refine Qh (Qf (Qw (fun m e1 H1=>∃(i:Nat) (S1:List Bool) (o1:List Nat) (oc1:C) (Lg1:List (Nat×Obj)),m=(nx b).length-i∧i≤(nx b).length∧Dfs (nxN nx) ((nxN nx b).take i) (S.set b true) o S1 o1∧
   Kn F H1 [(y,.vec 1 (Qu S1))] ([]++Lg1)∧Gr Lg1 1 (Qaf o1) oc1∧
   e1=[(1,.c (.int .i64 b)),(2,.c (.vsl y 1 0 rows.length)),(3,.c oc1),(4,.c (.pp [.int .i64 p,.int .i64 rg,bc])),(9,.c (.int .i64 i))]) (nx b).length ?_ ?_))
  ·exact⟨0,_,o,oc,Lg,by omega,by omega,.nil _ _,kn,hgr,rfl⟩
  ·rintro m e1 H2 ⟨i,S1,o1,oc1,Lg1,hm,hi,hd,kn,hgr,rfl⟩;have hgd:∀x,x<(S.set b true).length→∀z∈nxN nx x,z<(S.set b true).length:=by
    rw[Jl,hS];exact fun x hx z hz=>Qall hfit hx hz
   have hd1:=hd.len;rw[Jl,hS]at hd1;have hd2:=hd.count hgd (fun x hx=>hgd b (by rw[Jl];exact hbS) x (Ja2 hx));have hd3:=hd.olen;have hd4:=Qarl S1;have hg2:=hg.keep kn (fun l a b d hh=>by simpa using hyb l a b d hh);have hok2:=eq_true hg2.s.ok;have hrw2:=hg2.s.rows;have hy:=kn.e 0 rfl;refine Qy ?_;refine Qa ?_;simp only[go_sem,how,hok2,hlen,hsz,hrw2,hb,hrow,Qd];intro hl;simp only[LIM]at hl;refine Qh (Qe rfl ?_ ?_)
   ·intro hc;have hlt:i<(nx b).length:=(by simpa using hc);obtain⟨w,hw⟩:∃w:Nat,(nx b).getD i 0=w:=by
     have h1:=Q9w hfit hb (Jd hlt);refine⟨((nx b)[i]).toNat,?_⟩;simp only[Ja,Ji hlt,Jak];omega
    have hwn:(nxN nx b).take (i+1)=(nxN nx b).take i++[w]:=by
     rw[Je (by rw[hnxl];exact hlt)];congr 1;simp only[nxN,Jav];simp only[Ja,Ji hlt,Jak]at hw;rw[hw];simp
    have hwl:w<rows.length:=Qall hfit hb (x:=w) (by
     have:w∈(nxN nx b).take (i+1):=(by rw[hwn];simp);exact Ja2 this)
    have hwS:w<S1.length:=(by omega);refine Qi ?_;simp only[go_sem];refine Qd2 (fun e2 H2=>∃(S2:List Bool) (o2:List Nat) (oc2:C) (Lg2:List (Nat×Obj)),Dfs (nxN nx) ((nxN nx b).take (i+1)) (S.set b true) o S2 o2∧
     Kn F H2 [(y,.vec 1 (Qu S2))] ([]++Lg2)∧Gr Lg2 1 (Qaf o2) oc2∧
     lk 1 e2=.c (.int .i64 b)∧lk 2 e2=.c (.vsl y 1 0 rows.length)∧lk 3 e2=.c oc2∧lk 4 e2=.c (.pp [.int .i64 p,.int .i64 rg,bc])∧lk 9 e2=.c (.int .i64 i)) ?_ ?_
    ·intro Q hnr _ _;have htk2:List.take rows.length (Qu S1)=Qu S1:=Jc (by rw[Qz];omega);refine Qf ?_;refine Qa ?_;simp only[go_sem,how,hok2,hlen,hsz,hrw2,hb,hrow,hlt,hy,hw,hwl,hwS,htk2,hd1,Qz,Q6 _ _ hwS,Qd,Qn _ _ hlt,Jac,Js,Jn];refine Qe rfl ?_ ?_
     ·intro hc2;have hsw:S1.getD w false=false:=Qt3 hc2;refine Qa2 ?_;simp only[go_sem,how,hok2,hlen,hsz,hrw2,hb,hrow,hlt,hw,Qd,Qn _ _ hlt,hgr.isOw];refine ih w S1 o1 oc1 Lg1 H2 _ hd1 (by omega) hwl hsw kn hgr (by omega) fun S2 o2 oc2 Lg2 H3 hd' kn hgr=>?_;simp only[go_sem,Qzr];refine hnr _ _ ⟨S2,o2,oc2,Lg2,?_,kn,hgr,rfl,rfl,rfl,rfl,rfl⟩;rw[hwn];exact hd.app hd'
     ·intro hc2;have hsw:S1.getD w false=true:=Qez hc2;refine Qi ?_;simp only[go_sem];refine hnr _ _ ⟨S1,o1,oc1,Lg1,?_,kn,hgr,rfl,rfl,rfl,rfl,rfl⟩;rw[hwn];exact hd.app (.skip hsw (.nil _ _))
    ·rintro e2 H3 ⟨S2,o2,oc2,Lg2,hd,kn,hgr,l1,l2,l3,l4,l9⟩;refine Qq ?_;simp only[go_sem,X.next,l1,l2,l3,l4,l9];exact⟨Qr (by omega) (by omega),(nx b).length-(i+1),by omega,i+1,S2,o2,oc2,Lg2,rfl,by omega,hd,kn,hgr,rfl⟩
   ·intro hc;have hge:(nx b).length≤i:=(by simpa using hc);rw[Jc (by rw[hnxl];exact hge)]at hd;have hocw:=hgr.isOw;refine Qv ?_;simp only[go_sem,X.next];refine Qa ?_;simp only[go_sem,hocw];refine kn.grow (new:=Qb [(b:Int)]) hgr (.mk' _ _ _ _) (Qp _) (by simp only[Q7,Qd,LIM,Jq,Jr];omega) fun z H3 kn=>?_;simp only[go_sem,Qzs];refine Qk ?_;simp only[go_sem,Q3,Qab,Qals,reduceIte,Jb,forall_eq,RS.op];refine hK S1 (o1++[b]) _ _ H3 (.one hsb hd) kn ?_;rw[←Qa1s];exact .mk _ _ _ (by simp)
variable {H:Heap}{K:V→Heap→Prop}
theorem Qdh {n lo hi:Int}(hK:K (.c (.bool (decide (lo≤n)&&decide (n≤hi)))) H):Qs prog Qax [.c (.int .i64 n),.c (.int .i64 lo),.c (.int .i64 hi)] H K:=by
 refine Qc Qaj Qa1f ?_;refine Qa ?_;simp only[go_sem];refine Qa ?_;simp only[go_sem];refine Qk ?_;simp only[go_sem,Q3,Qab,Qaat,Jb,forall_eq,RS.op];have:(bif decide (lo≤n)then decide (n≤hi)else false)=(decide (lo≤n)&&decide (n≤hi)):=by cases decide (lo≤n) <;> rfl
 first|exact hK|(rw[this];exact hK)|(simpa[this]using hK)
def IsIx (ns:List Int)(v r:Int):Prop:=(r=-1∧v∉ns)∨∃i:Nat,r=i∧i<ns.length∧ns.getD i 0=v∧v∉ns.take i
theorem IsIx.nonneg {ns:List Int}{v r:Int}(h:IsIx ns v r):decide (0≤r)=ns.contains v:=by
 rcases h with ⟨rfl,hn⟩|⟨i,rfl,h1,h2,_⟩
 ·have:ns.contains v=false:=by
   cases hc:ns.contains v with
   |false=>rfl
   |true=>exact absurd (Jz.1 hc) hn
  rw[this];rfl
 ·have:v∈ns:=by
   rw[←h2,Ja,Ji h1];exact Jd h1
  rw[Jz.2 this];simp
theorem Qbd2 {c:C}{ns:List Int}{v:Int}(hs:Slc H 1 (Qb ns) c)(how:c.isOw=false)(hK:∀r,IsIx ns v r→K (.c (.int .i64 r)) H) :
  Qs prog Ql4 [.c c,.c (.int .i64 v)] H K:=by
 refine Qc Qaj Qba7 ?_;have hok:=eq_true hs.ok;have hlen:=hs.len;have hsz:=hs.sz;have hrw:=hs.rows;refine Qa ?_;simp only[go_sem,how];refine Qy ?_;refine Qa ?_;simp only[go_sem,how,hok,hlen,Qd];intro hl;simp only[LIM]at hl;refine Qh (Qf (Qw (fun m e1 H1=>∃(i:Nat),m=ns.length-i∧i≤ns.length∧H1=H∧v∉ns.take i∧e1=[(0,.c c),(1,.c (.int .i64 v)),(7,.c (.int .i64 ns.length)),(8,.c (.int .i64 i))]) ns.length ?_ ?_))
 ·exact⟨0,by omega,by omega,rfl,by simp,rfl⟩
 ·rintro m e1 H1 ⟨i,hm,hi,rfl,hno,rfl⟩;refine Qa ?_;simp only[go_sem,how];refine Qh (Qe rfl ?_ ?_)
  ·intro hc;have hlt:i<ns.length:=by simpa using hc
   have hgd:ns.getD i 0=ns[i]:=by simp[Ja,hlt]
   refine Qi ?_;simp only[go_sem];refine Qh (Qf ?_);refine Qa ?_;simp only[go_sem,how];refine Qa ?_;simp only[go_sem,how,hok,hlen,hsz,hrw,hlt,Qd,Qn _ _ hlt];refine Qe rfl ?_ ?_
   ·intro hc2;have hv:v=ns.getD i 0:=(by simpa using hc2);refine Qa ?_;simp only[go_sem];refine Qk ?_;simp only[go_sem,X.next,Q3,Qab,Q1z,Jb,forall_eq,RS.op];exact hK _ (.inr ⟨i,rfl,hlt,hv.symm,hno⟩)
   ·intro hc2;have hv:¬v=ns.getD i 0:=(by simpa using hc2);refine Qi ?_;simp only[go_sem];refine Qq ?_;simp only[go_sem,X.next];refine⟨Qr (by omega) (by omega),ns.length-(i+1),by omega,i+1,rfl,by omega,?_,rfl⟩;rw[Je hlt];simp only[Jg,Jb,not_or];exact⟨hno,fun h=>hv (by rw[hgd];exact h)⟩
  ·intro hc;have hge:ns.length≤i:=by simpa using hc
   rw[Jc hge]at hno;refine Qv ?_;simp only[go_sem,X.next];refine Qa ?_;simp only[go_sem];refine Qk ?_;simp only[go_sem,Q3,Qab,Q1z,Jb,forall_eq,RS.op];exact hK _ (.inl ⟨rfl,hno⟩)
theorem Qa9w {c:C}{ns:List Int}{v:Int}(hs:Slc H 1 (Qb ns) c)(how:c.isOw=false)(hK:K (.c (.bool (ns.contains v))) H) :
  Qs prog Qjj [.c c,.c (.int .i64 v)] H K:=by
 refine Qc Qaj Qanm ?_;refine Qa ?_;simp only[go_sem,how];refine Qa ?_;simp only[go_sem,how];refine Qbd2 hs how fun r hr=>?_;simp only[go_sem,Qom];refine Qk ?_;simp only[go_sem,Q3,Qab,Qy0,Jb,forall_eq,RS.op];rw[hr.nonneg];exact hK
theorem Qa0k {c:C}{ns:List Int}{f:Nat}{caps:List C}{p:Int→Bool}(hs:Slc H 1 (Qb ns) c)(how:c.isOw=false)
  (hf:∀(x:Int) (K':V→Heap→Prop),x∈ns→K' (.c (.bool (p x))) H→Qs prog f ([.c (.int .i64 x)]++caps.map .c) H K')
  (hK:∀r:Int,decide (0≤r)=ns.any p→K (.c (.int .i64 r)) H) :
  Qs prog Qhn [.c c,.c (.fn f caps)] H K:=by
 refine Qc Qaj Qahh ?_;have hok:=eq_true hs.ok;have hlen:=hs.len;have hsz:=hs.sz;have hrw:=hs.rows;refine Qa ?_;simp only[go_sem,how];refine Qy ?_;refine Qa ?_;simp only[go_sem,how,hok,hlen,Qd];intro hl;simp only[LIM]at hl;refine Qh (Qf (Qw (fun m e1 H1=>∃(i:Nat),m=ns.length-i∧i≤ns.length∧H1=H∧(∀x∈ns.take i,p x=false)∧e1=[(0,.c c),(1,.c (.fn f caps)),(7,.c (.int .i64 ns.length)),(8,.c (.int .i64 i))]) ns.length ?_ ?_))
 ·exact⟨0,by omega,by omega,rfl,by simp,rfl⟩
 ·rintro m e1 H1 ⟨i,hm,hi,rfl,hno,rfl⟩;refine Qa ?_;simp only[go_sem,how];refine Qh (Qe rfl ?_ ?_)
  ·intro hc;have hlt:i<ns.length:=by simpa using hc
   have hgd:ns.getD i 0=ns[i]:=by simp[Ja,hlt]
   refine Qi ?_;simp only[go_sem];refine Qh (Qf ?_);refine Qa ?_;simp only[go_sem,how];refine Qa ?_;simp only[go_sem,how,hok,hlen,hsz,hrw,hlt,Qd,Qn _ _ hlt];refine hf _ _ (by rw[hgd];exact Jd hlt) ?_;refine Qe rfl ?_ ?_
   ·intro hc2;refine Qa ?_;simp only[go_sem];refine Qk ?_;simp only[go_sem,X.next,Q3,Qab,Qjp,Jb,forall_eq,RS.op];refine hK _ ?_;have:ns.any p=true:=Jaj.2 ⟨ns[i],Jd hlt,by rw[←hgd];exact hc2⟩;rw[this];simp
   ·intro hc2;refine Qi ?_;simp only[go_sem];refine Qq ?_;simp only[go_sem,X.next];refine⟨Qr (by omega) (by omega),ns.length-(i+1),by omega,i+1,rfl,by omega,?_,rfl⟩;rw[Je hlt];intro x hx;rcases Jg.1 hx with hx|hx
    ·exact hno x hx
    ·simp only[Jb]at hx;subst hx;rw[←hgd];exact hc2
  ·intro hc;have hge:ns.length≤i:=by simpa using hc
   rw[Jc hge]at hno;refine Qv ?_;simp only[go_sem,X.next];refine Qa ?_;simp only[go_sem];refine Qk ?_;simp only[go_sem,Q3,Qab,Qjp,Jb,forall_eq,RS.op];refine hK _ ?_;have:ns.any p=false:=by
    cases hc:ns.any p with
    |false=>rfl
    |true=>obtain⟨x,hx,hp⟩:=Jaj.1 hc;rw[hno x hx]at hp;exact absurd hp (by simp)
   rw[this];rfl
theorem Qe9 {c:C}{ns:List Int}{f:Nat}{caps:List C}{p:Int→Bool}(hs:Slc H 1 (Qb ns) c)(how:c.isOw=false)
  (hf:∀(x:Int) (K':V→Heap→Prop),x∈ns→K' (.c (.bool (p x))) H→Qs prog f ([.c (.int .i64 x)]++caps.map .c) H K')
  (hK:K (.c (.bool (ns.any p))) H):Qs prog Qbf [.c c,.c (.fn f caps)] H K:=by
 refine Qc Qaj Q1q ?_;refine Qa ?_;simp only[go_sem,how];refine Qa ?_;simp only[go_sem,how];refine Qa0k hs how hf fun r hr=>?_;simp only[go_sem,Qgp];refine Qk ?_;simp only[go_sem,Q3,Qab,Qkm,Jb,forall_eq,RS.op];rw[hr];exact hK
end Go.AE.Y
namespace Go.AE.Y
attribute [local instance] Classical.propDecidable
inductive Rch (g:Nat→List Nat)(A:Nat→Prop):Nat→Nat→Prop
 |refl {x:Nat}:¬A x→Rch g A x x
 |step {x y z:Nat}:Rch g A x y→z∈g y→¬A z→Rch g A x z
variable {g:Nat→List Nat}{A B:Nat→Prop}{x y z:Nat}
theorem Rch.mono (h:Rch g A x y)(hAB:∀z,B z→A z):Rch g B x y:=by
 induction h with
 |refl h=>exact .refl fun hb=>h (hAB _ hb)
 |step h1 h2 h3 ih=>exact ih.step h2 fun hb=>h3 (hAB _ hb)
theorem Rch.fst (h:Rch g A x y):¬A x:=by
 induction h with
 |refl h=>exact h
 |step _ _ _ ih=>exact ih
theorem Rch.snd (h:Rch g A x y):¬A y:=by
 cases h with
 |refl h=>exact h
 |step _ _ h=>exact h
theorem Rch.trans (h:Rch g A x y)(k:Rch g A y z):Rch g A x z:=by
 induction k with
 |refl _=>exact h
 |step _ h2 h3 ih=>exact ih.step h2 h3
theorem Rch.head (hx:¬A x)(hy:y∈g x)(h:Rch g A y z):Rch g A x z:=(Rch.step (.refl hx) hy h.fst).trans h
theorem Rch.lt {n:Nat}(hg:∀x,x<n→∀y∈g x,y<n)(h:Rch g A x y)(hx:x<n):y<n:=by
 induction h with
 |refl _=>exact hx
 |step _ h2 _ ih=>exact hg _ ih _ h2
variable {xs:List Nat}{S S' S1:List Bool}{o o' o1:List Nat}
theorem Dfs.adds (h:Dfs g xs S o S' o'):(∀x,x<S.length→∀y∈g x,y<S.length)→(∀x∈xs,x<S.length)→
  ∃t,o'=o++t∧(∀x,S'.getD x false=true↔S.getD x false=true∨x∈t)∧(∀x∈t,∀y∈g x,S'.getD y false=true)∧
   (∀x∈xs,S'.getD x false=true)∧(∀y∈t,∃x∈xs,Rch g (fun z=>S.getD z false=true) x y):=by
 induction h with
 |nil S o=>exact fun _ _=>⟨[],by simp,by simp,by simp,by simp,by simp⟩
 |@skip x xs S S' o o' h1 h2 ih=>
  intro hg hx;obtain⟨t,e,a1,a2,a3,a4⟩:=ih hg fun y hy=>hx y (Jk _ hy);refine⟨t,e,a1,a2,fun y hy=>?_,fun y hy=>?_⟩
  ·rcases J5.1 hy with rfl|hy
   ·exact h2.mono _ h1
   ·exact a3 y hy
  ·obtain⟨z,hz,hr⟩:=a4 y hy;exact⟨z,Jk _ hz,hr⟩
 |@go x xs S S1 S' o o1 o' h1 h2 h3 ih1 ih2=>
  intro hg hxs;have hx:=hxs x Jm;have hl:=h2.len;rw[Jl]at hl;obtain⟨t1,e1,a1,a2,a3,a4⟩:=ih1 (by simpa using hg) (by simpa using hg x hx);obtain⟨t2,e2,b1,b2,b3,b4⟩:=ih2 (by rw[hl];exact hg) (by rw[hl];exact fun y hy=>hxs y (Jk _ hy));have hset:∀y,(S.set x true).getD y false=true↔y=x∨S.getD y false=true:=by
   intro y;rw[Ql5];by_cases hyx:y=x
   ·simp[hyx,hx]
   ·simp[hyx]
  have hmono:∀y,S.getD y false=true→S1.getD y false=true:=fun y hy=>(a1 y).2 (.inl ((hset y).2 (.inr hy)));have hxS1:S1.getD x false=true:=(a1 x).2 (.inl ((hset x).2 (.inl rfl)));refine⟨t1++[x]++t2,by rw[e2,e1];simp,fun y=>?_,fun y hy z hz=>?_,fun y hy=>?_,fun y hy=>?_⟩
  ·rw[b1,a1,hset];simp only[Jg,Jb];constructor
   ·rintro (((h|h)|h)|h)
    ·exact .inr (.inl (.inr h))
    ·exact .inl h
    ·exact .inr (.inl (.inl h))
    ·exact .inr (.inr h)
   ·rintro (h|((h|h)|h))
    ·exact .inl (.inl (.inr h))
    ·exact .inl (.inr h)
    ·exact .inl (.inl (.inl h))
    ·exact .inr h
  ·rcases Jg.1 hy with hy|hy
   ·rcases Jg.1 hy with hy|hy
    ·exact (b1 z).2 (.inl (a2 y hy z hz))
    ·simp only[Jb]at hy;subst hy;exact (b1 z).2 (.inl (a3 z hz))
   ·exact b2 y hy z hz
  ·rcases J5.1 hy with rfl|hy
   ·exact (b1 y).2 (.inl hxS1)
   ·exact b3 y hy
  ·rcases Jg.1 hy with hy|hy
   ·rcases Jg.1 hy with hy|hy
    ·obtain⟨z,hz,hr⟩:=a4 y hy;exact⟨x,Jm,.head (by rw[h1];simp) hz (hr.mono fun w hw=>(hset w).2 (.inr hw))⟩
    ·simp only[Jb]at hy;subst hy;exact⟨y,Jm,.refl (by rw[h1];simp)⟩
   ·obtain⟨z,hz,hr⟩:=b4 y hy;exact⟨z,Jk _ hz,hr.mono hmono⟩
theorem Dfs.seen (h:Dfs g xs S o S' o')(hg:∀x,x<S.length→∀y∈g x,y<S.length)(hxs:∀x∈xs,x<S.length)(y:Nat) :
  S'.getD y false=true↔S.getD y false=true∨∃x∈xs,Rch g (fun z=>S.getD z false=true) x y:=by
 obtain⟨t,e,a1,a2,a3,a4⟩:=h.adds hg hxs;constructor
 ·intro hy;rcases (a1 y).1 hy with hy|hy
  ·exact .inl hy
  ·exact .inr (a4 y hy)
 ·rintro (hy|⟨x,hx,hr⟩)
  ·exact h.mono y hy
  ·induction hr with
   |refl _=>exact a3 _ hx
   |step h1 h2 h3 ih=>
    rcases (a1 _).1 ih with h|h
    ·exact absurd h h1.snd
    ·exact a2 _ h _ h2
theorem Dfs.list (h:Dfs g xs S [] S' o')(hg:∀x,x<S.length→∀y∈g x,y<S.length)(hxs:∀x∈xs,x<S.length)(hS:∀x,S.getD x false=false)(y:Nat) :
  y∈o'↔S'.getD y false=true:=by
 obtain⟨t,e,a1,_⟩:=h.adds hg hxs;rw[a1,hS];simp[e]
theorem Qboa:∀{l k:List Nat},l.Pairwise (· < ·)→k.Pairwise (· < ·)→(∀x,x∈l↔x∈k)→l=k
 |[],[],_,_,_=>rfl
 |[],b::k,_,_,h=>by have:=(h b).2 Jm;simp at this
 |a::l,[],_,_,h=>by have:=(h a).1 Jm;simp at this
 |a::l,b::k,h1,h2,h=>by
  rw[Ja5]at h1 h2;have hab:a=b:=by
   rcases J5.1 ((h a).1 Jm)with e|e
   ·exact e
   ·rcases J5.1 ((h b).2 Jm)with e'|e'
    ·exact e'.symm
    ·have:=h1.1 b e';have:=h2.1 a e;omega
  subst hab;congr 1;refine Qboa h1.2 h2.2 fun x=>⟨fun hx=>?_,fun hx=>?_⟩
  ·rcases J5.1 ((h x).1 (Jk _ hx))with e|e
   ·subst e;have:=h1.1 x hx;omega
   ·exact e
  ·rcases J5.1 ((h x).2 (Jk _ hx))with e|e
   ·subst e;have:=h2.1 x hx;omega
   ·exact e
theorem Qbd7 {l:List Nat}{n:Nat}{p:Nat→Bool}(h1:l.Pairwise (· < ·))(h:∀x,x∈l↔x<n∧p x=true):l=(List.range n).filter p:=
 Qboa h1 (Jbh _ List.pairwise_lt_range) fun x=>by rw[h];simp[Jan]
noncomputable def Qvh (g:Nat→List Nat)(a:Int)(x:Nat):Bool:=decide (Rch g (fun z=>(z:Int)=a) 0 x)
noncomputable def Q6j (g:Nat→List Nat)(a b:Nat):Bool:=Qvh g (-1) a&&Qvh g (-1) b&&!Qvh g a b
end Go.AE.Y
namespace Go.AE.Y
open Go.Proofs.Tryz
variable {H:Heap}{K:V→Heap→Prop}
theorem GRd.ows {c:C}{rows:List (List C)}{nx:Nat→List Int}(h:GRd H c rows nx){i:Nat}(hi:i<rows.length){a1 a2 a3 a4 a5:C}(hr:rows.getD i []=[a1,a2,a3,a4,a5]) :
  a1.isOw=false∧a2.isOw=false∧a3.isOw=false∧a4.isOw=false∧a5.isOw=false:=by
 have:=h.no _ (Jd hi);have e:rows[i]=[a1,a2,a3,a4,a5]:=by rw[←hr];simp[Ja,hi]
 rw[e]at this;simpa[Go.AE.noOw]using this
def Q1t (nx:Nat→List Int)(b:Int)(n:Nat):List Int:=if decide (0≤b)&&decide (b≤(n:Int)-1)then Q8 nx b n else []
set_option maxHeartbeats 1000000 in
theorem Qarc {p rg:Int}{bc:C}{rows:List (List C)}{nx:Nat→List Int}{b:Int}(hg:GRd H bc rows nx)
  (hK:∀fl H',Upd H H' []→K (.c (.sl fl 1 (Qb (Q1t nx b rows.length)))) H'):Qs prog Qgw [.ag [.int .i64 p,.int .i64 rg,bc],.c (.int .i64 b)] H K:=by
 refine Qx ?_;refine Qc Qaj Qar6 ?_;have how:=hg.ow;have hok:=eq_true hg.s.ok;have hlen:=hg.s.len;have hsz:=hg.s.sz;refine Qa ?_;simp only[go_sem,how];refine Qa ?_;simp only[go_sem,how];refine Qy ?_;refine Qa ?_;simp only[go_sem,how,hok,hlen];intro hl;simp only[LIM]at hl;refine⟨Qr (by omega) (by omega),?_⟩;refine Qdh ?_;simp only[go_sem,Qpx];refine Qh (Qe rfl ?_ ?_)
 ·intro hc;have hc':=Qt3 hc;refine Qa ?_;simp only[go_sem];refine Qk ?_;simp only[go_sem,Q3,Qab,Qpn,Jb,forall_eq,RS.op];have h:=hK false _ (Kn.start0 H).fin;simp only[Q1t,hc']at h;exact⟨_,.c _ _ FrzR.nil.sl,h⟩
 ·intro hc;have hc':=Qez hc;refine Qi ?_;simp only[go_sem];refine Qy ?_;refine Qa ?_;simp only[go_sem,how,hok,hlen];intro _;refine Qh (Qf (Qw (fun m e1 H1=>∃(i:Nat) (c:C) (Lg:List (Nat×Obj)),m=rows.length-i∧i≤rows.length∧Gr Lg 1 (Qb (Q8 nx b i)) c∧Kn H H1 [] ([]++Lg)∧
   e1=[(1,.c (.int .i64 b)),(5,.c c),(16,.c bc),(17,.c (.int .i64 rows.length)),(18,.c (.int .i64 i))]) rows.length ?_ ?_))
  ·exact⟨0,_,[],by omega,by omega,.nil 1,Kn.start0 H,rfl⟩
  ·rintro m e1 H1 ⟨i,c,Lg,hm,hi,hgr,kn,rfl⟩;have hg1:=hg.keep0 kn;have hok1:=eq_true hg1.s.ok;have hrw1:=hg1.s.rows;refine Qa ?_;simp only[go_sem];refine Qh (Qe rfl ?_ ?_)
   ·intro hc;have hlt:i<rows.length:=(by simpa using hc);obtain⟨a1,a2,a3,a4,fl,hrow⟩:=hg.x i hlt;obtain⟨o1,o2,o3,o4,_⟩:=hg.ows hlt hrow;refine Qi ?_;simp only[go_sem];refine Qd2 (fun e2 H2=>∃(c:C) (Lg:List (Nat×Obj)),Gr Lg 1 (Qb (Q8 nx b (i+1))) c∧Kn H H2 [] ([]++Lg)∧
     lk 1 e2=.c (.int .i64 b)∧lk 5 e2=.c c∧lk 16 e2=.c bc∧lk 17 e2=.c (.int .i64 rows.length)∧lk 18 e2=.c (.int .i64 i)) ?_ ?_
    ·intro Q hnr _ _;refine Qf ?_;refine Qa ?_;simp only[go_sem,how,hok1,hlen,hsz,hrw1,hlt,hrow,o1,o2,o3,o4];intro x hx H2 h2;have kn:=(kn.al hx h2).perm J1;have hx2:=kn.l 0 rfl;simp only[go_sem,Qpy,hx2];intro H3 h3;have kn:=kn.stL 0 rfl h3;have hx3:=kn.l 0 rfl;refine Qa ?_;simp only[go_sem,hx3];refine Qa9w (.mk' _ _ _ _) rfl ?_;refine Qe rfl ?_ ?_
     ·intro hcon;have hpl:=Qcs nx b i;refine Qq ?_;simp only[go_sem];refine kn.grow (B:=[_]) (new:=Qb [(i:Int)]) hgr (.mk' _ _ _ _) (Qp _) (by simp only[Qd,LIM,Jq,Jr];omega) fun y' H4 kn=>?_;simp only[go_sem,Qpz];refine hnr _ _ ⟨_,_,?_,(kn.perm J1).drop,rfl,rfl,rfl,rfl,rfl⟩;rw[Qir,hcon,if_pos rfl,Qbg];exact .mk _ _ _ (by simp)
     ·intro hcon;refine Qi ?_;simp only[go_sem];refine hnr _ _ ⟨c,Lg,?_,?_,rfl,rfl,rfl,rfl,rfl⟩
      ·rw[Qir,hcon];simpa using hgr
      ·have kn:Kn H H3 [] ([(x,.st [a1,a2,a3,a4,.sl fl 1 (Qb (nx i))])]++([]++Lg)):=kn;exact (kn.perm J1).drop
    ·rintro e2 H2 ⟨c2,Lg2,hgr,kn,l1,l5,l16,l17,l18⟩;refine Qq ?_;simp only[go_sem,X.next,l1,l5,l16,l17,l18];exact⟨Qr (by omega) (by omega),rows.length-(i+1),by omega,i+1,c2,Lg2,rfl,by omega,hgr,kn,rfl⟩
   ·intro hc;have hge:i=rows.length:=(by have:¬i<rows.length:=(by simpa using hc);omega);subst hge;refine Qv ?_;simp only[go_sem,X.next];refine Qa ?_;simp only[go_sem,hgr.isOw];refine Qk ?_;simp only[go_sem,Q3,Qab,Qpn,Jb,forall_eq,RS.op,hgr.isOw];refine⟨_,.c _ _ (hgr.frz kn (Qp _)),?_⟩;have:=hK false _ kn.fin;simp only[Q1t,hc']at this;exact this
end Go.AE.Y
namespace Go.AE.Y
attribute [local instance] Classical.propDecidable
variable {g:Nat→List Nat}{a:Int}{n:Nat}{S:List Bool}{T:List Nat}{b:Nat}
theorem Qbl (n x:Nat):(List.replicate n false).getD x false=false:=by
 simp only[Ja,Jaf];split <;> rfl
end Go.AE.Y
namespace Go.AE.Y
open Go.Proofs.Tryz
variable {H H0:Heap}{K:V→Heap→Prop}
theorem Qbn (n:Nat):List.replicate n [C.bool false]=Qu (List.replicate n false):=by simp[Qu]
theorem Qau (l:List Nat)(i:Nat)(h:i<l.length):(Qaf l).getD i []=[.int .i64 ((l.getD i 0:Nat):Int)]:=by
 simp[Qaf,Qb,Ja,h]
theorem Q1s (a b:List Nat):Qaf (a++b)=Qaf a++Qaf b:=by simp[Qaf,Qb]
end Go.AE.Y
namespace Go.AE
variable {H0 F H:Heap}{E E0 E' L L1 L2 M:List (Nat×Obj)}
theorem Kn.startE (h:∀p∈E,H p.1=p.2∧p.2≠.none)(hd:(E.map Prod.fst).Nodup):Kn H H E []:=
 ⟨by simpa using h,fun p hp=>by rw[(h p hp).1];exact (h p hp).2,by simp,hd,by simp,fun _ _ _=>rfl⟩
theorem Kn.mid (k:Kn H0 F E0 (L1++L2)):Kn F F L1 []:=
 .startE (fun p hp=>k.get p (Jf _ (Jh _ hp))) (by
  have:=k.dL;rw[Ju]at this;exact (Jab.1 this).1)
theorem Kn.comp (k1:Kn H0 F E0 (L1++L2))(k2:Kn F H E' M)(hE:E'.map Prod.fst=L1.map Prod.fst):Kn H0 H E0 ((E'++L2)++M):=by
 have hd:=k1.dL;rw[Ju]at hd;obtain⟨d1,d2,d3⟩:=Jab.1 hd;have hE0:∀p∈E0,F p.1=p.2∧p.2≠.none:=fun p hp=>k1.get p (Jh _ hp);have hL2:∀p∈L2,F p.1=p.2∧p.2≠.none:=fun p hp=>k1.get p (Jf _ (Jf _ hp));have inL1:∀p∈E',∃q∈L1,q.1=p.1:=fun p hp=>by
  have:=Qao hp;rw[hE]at this;obtain⟨q,h1,h2⟩:=Jo.1 this;exact⟨q,h1,h2⟩
 have keep:∀m,F m≠.none→m∉L1.map Prod.fst→H m=F m:=fun m h1 h2=>k2.chg m h1 (by rw[hE];exact h2);have hE0L:∀p∈E0,∀q∈L1,p.1≠q.1:=fun p hp q hq hh=>k1.ext p hp (hh▸k1.loc q (Jh _ hq));refine⟨fun p hp=>?_,k1.ext,fun p hp=>?_,k1.dE,?_,fun m hm hn=>?_⟩
 ·rcases Jg.1 hp with hp|hp
  ·obtain⟨h1,h2⟩:=hE0 p hp;refine⟨?_,h2⟩;rw[keep p.1 (by rw[h1];exact h2) (fun hh=>?_),h1];obtain⟨q,hq,hqq⟩:=Jo.1 hh;exact hE0L p hp q hq hqq.symm
  ·rcases Jg.1 hp with hp|hp
   ·rcases Jg.1 hp with hp|hp
    ·exact k2.get p (Jh _ hp)
    ·obtain⟨h1,h2⟩:=hL2 p hp;refine⟨?_,h2⟩;rw[keep p.1 (by rw[h1];exact h2) (fun hh=>?_),h1];exact d3 _ hh _ (Qao hp) rfl
   ·exact k2.get p (Jf _ hp)
 ·rcases Jg.1 hp with hp|hp
  ·rcases Jg.1 hp with hp|hp
   ·obtain⟨q,hq,hh⟩:=inL1 p hp;rw[←hh];exact k1.loc q (Jh _ hq)
   ·exact k1.loc p (Jf _ hp)
  ·have h1:=k2.loc p hp
   cases h0:H0 p.1 with
   |none=>rfl
   |_=>
    by_cases hx:p.1∈E0.map Prod.fst
    ·obtain⟨q,hq,hh⟩:=Jo.1 hx;obtain⟨a1,a2⟩:=hE0 q hq;rw[hh,h1]at a1;exact absurd a1.symm a2
    ·have:=k1.chg p.1 (by rw[h0];simp) hx;rw[h1,h0]at this;simp at this
 ·rw[Ju,Ju];refine Jab.2 ⟨Jab.2 ⟨k2.dE,d2,fun a ha b hb=>?_⟩,k2.dL,fun a ha b hb hab=>?_⟩
  ·rw[hE]at ha;exact d3 a ha b hb
  ·obtain⟨q,hq,rfl⟩:=Jo.1 hb;have hf:=k2.loc q hq;rcases Jg.1 ha with ha|ha
   ·obtain⟨r,hr,rfl⟩:=Jo.1 ha;exact k2.ext r hr (hab▸hf)
   ·obtain⟨r,hr,rfl⟩:=Jo.1 ha;obtain⟨a1,a2⟩:=hL2 r hr;rw[hab,hf]at a1;exact a2 a1.symm
 ·rw[keep m (by rw[k1.chg m hm hn];exact hm) (fun hh=>?_),k1.chg m hm hn];obtain⟨q,hq,rfl⟩:=Jo.1 hh;exact hm (k1.loc q (Jh _ hq))
theorem Kn.upd (k:Kn H0 H E L):Upd H0 H E:=⟨fun p hp=>(k.get p (Jh _ hp)).1,fun m hm hn=>k.chg m hm hn⟩
theorem Y.FrzL.ptr {S:Nat→Bool}{l:Nat}{cells cells':List C}(hS:S l=true)(hH:H l=.st cells)(h:FrzL H S cells cells'):FrzC H S (.ptr l 0) (.pp cells'):=by
 obtain⟨h1,h2⟩:=h.spec;exact .ptr l 0 cells cells cells' hS hH rfl h1 h2
theorem Kn.growR {B Lg:List (Nat×Obj)}{K:V→Heap→Prop}{sz:Nat}{rows new:List (List C)}{b c:C}(kn:Kn H0 H E (B++Lg))(hc:Gr Lg sz rows c)(hb:Slc H sz new b)
  (h1:∀r∈new,noOw r=true) (h2:rows.length+new.length≤LIM)
  (h:∀t Lg' H',Gr Lg' sz (rows++new) t→t.isOw=false→Kn H0 H' E (B++Lg')→K (.c t) H'):appQ H sz c b K:=
 kn.grow hc hb h1 h2 fun y' H' k=>h _ _ H' (.mk y' sz _ (by simp)) rfl k
end Go.AE
namespace Go.AE.Y
variable {ns:List Int}{n:Int}{at':Nat}
structure InsAt (ns:List Int)(n:Int)(k:Nat):Prop where
 le:k≤ns.length
 lo:∀i,i<k→∀(h:i<ns.length),ns[i]<n
 hi:∀(h:k<ns.length),n≤ns[k]
theorem InsAt.mem_of_asc {k:Nat}(h:InsAt ns n k)(ha:ns.Pairwise (· < ·)):(∀x∈ns.take k,x<n)∧(∀x∈ns.drop k,n≤x)∧(∀x∈ns.drop (k+1),n<x):=by
 have hp:=List.pairwise_iff_getElem.1 ha;refine⟨fun x hx=>?_,fun x hx=>?_,fun x hx=>?_⟩
 ·obtain⟨i,hi,rfl⟩:=Jx.1 hx;rw[List.getElem_take];rw[J8]at hi;exact h.lo i (by omega) (by omega)
 ·obtain⟨i,hi,rfl⟩:=Jx.1 hx;rw[Ja9];rw[Jaw]at hi;have h1:=h.hi (by omega);by_cases h0:i=0
  ·subst h0;exact h1
  ·have:=hp k (k+i) (by omega) (by omega) (by omega);exact Int.le_trans h1 (Int.le_of_lt this)
 ·obtain⟨i,hi,rfl⟩:=Jx.1 hx;rw[Ja9];rw[Jaw]at hi;have h1:=h.hi (by omega);have:=hp k (k+1+i) (by omega) (by omega) (by omega);exact Int.lt_of_le_of_lt h1 this
theorem InsAt.new {k:Nat}(h:InsAt ns n k)(ha:ns.Pairwise (· < ·))(hn:∀(h:k<ns.length),ns[k]≠n) :
  (ns.take k++[n]++ns.drop k).Pairwise (· < ·)∧(∀x,x∈ns.take k++[n]++ns.drop k↔x=n∨x∈ns):=by
 obtain⟨h1,h2,h3⟩:=h.mem_of_asc ha;have h4:∀x∈ns.drop k,n<x:=by
  intro x hx;have hk:k<ns.length:=by
   rcases Nat.lt_or_ge k ns.length with h|h
   ·exact h
   ·rw[List.drop_eq_nil_of_le h]at hx;simp at hx
  rw[Jy hk]at hx;rcases J5.1 hx with rfl|hx
  ·have:=h.hi hk;have:=hn hk;omega
  ·exact h3 x hx
 refine⟨?_,fun x=>?_⟩
 ·rw[Jar,List.pairwise_append];refine⟨ha.sublist (List.take_sublist _ _),?_,fun a ha' b hb=>?_⟩
  ·rw[Ja0,Ja5];exact⟨h4,ha.sublist (List.drop_sublist _ _)⟩
  ·have:=h1 a ha';rcases Jg.1 hb with hb|hb
   ·simp at hb;subst hb;exact this
   ·have:=h2 b hb;omega
 ·conv=>rhs;rw[←Jah k ns]
  simp only[Jg,Jb];constructor
  ·rintro ((h|h)|h)
   ·exact .inr (.inl h)
   ·exact .inl h
   ·exact .inr (.inr h)
  ·rintro (h|h|h)
   ·exact .inl (.inr h)
   ·exact .inl (.inl h)
   ·exact .inr h
end Go.AE.Y
namespace Go.AE.Y
open Go.Proofs.Tryz
variable {H H0:Heap}{K:V→Heap→Prop}
theorem Qamz {c:C}{ns:List Int}{v:Int}(hs:Slc H 1 (Qb ns) c)(how:c.isOw=false)(hK:∀r,IsIx ns v r→K (.c (.int .i64 r)) H) :
  Qs prog Qtj [.c c,.c (.int .i64 v)] H K:=by
 refine Qc Qaj Qbqd ?_;have hok:=eq_true hs.ok;have hlen:=hs.len;have hsz:=hs.sz;have hrw:=hs.rows;refine Qa ?_;simp only[go_sem,how];refine Qy ?_;refine Qa ?_;simp only[go_sem,how];refine Qh (Qf (Qw (fun m e1 H1=>∃(i:Nat),m=ns.length-i∧i≤ns.length∧H1=H∧v∉ns.take i∧e1=[(0,.c c),(1,.c (.int .i64 v)),(5,.c (.int .i64 i))]) ns.length ?_ ?_))
 ·exact⟨0,by omega,by omega,rfl,by simp,rfl⟩
 ·rintro m e1 H1 ⟨i,hm,hi,rfl,hno,rfl⟩;refine Qy ?_;refine Qa ?_;simp only[go_sem,how,hok,hlen,Qd];intro hl;simp only[LIM]at hl;refine Qh (Qe rfl ?_ ?_)
  ·intro hc;have hlt:i<ns.length:=by simpa using hc
   have hgd:ns.getD i 0=ns[i]:=by simp[Ja,hlt]
   refine Qi ?_;simp only[go_sem];refine Qh (Qf ?_);refine Qa ?_;simp only[go_sem,how,hok,hlen,hsz,hrw,hlt,Qd,Qn _ _ hlt];refine Qe rfl ?_ ?_
   ·intro hc2;have hv:ns.getD i 0=v:=(by simpa using hc2);refine Qa ?_;simp only[go_sem];refine Qk ?_;simp only[go_sem,X.next,Q3,Qab,Qa1w,Jb,forall_eq,RS.op];exact hK _ (.inr ⟨i,rfl,hlt,hv,hno⟩)
   ·intro hc2;have hv:¬ns.getD i 0=v:=(by simpa using hc2);refine Qi ?_;simp only[go_sem];refine Qq ?_;simp only[go_sem,how,X.next];refine⟨Qr (by omega) (by omega),ns.length-(i+1),by omega,i+1,rfl,by omega,?_,rfl⟩;rw[Je hlt];simp only[Jg,Jb,not_or];exact⟨hno,fun h=>hv (by rw[hgd];exact h.symm)⟩
  ·intro hc;have hge:ns.length≤i:=by simpa using hc
   rw[Jc hge]at hno;refine Qv ?_;simp only[go_sem,X.next];refine Qa ?_;simp only[go_sem];refine Qk ?_;simp only[go_sem,Q3,Qab,Qa1w,Jb,forall_eq,RS.op];exact hK _ (.inl ⟨rfl,hno⟩)
set_option maxHeartbeats 1000000 in
theorem Qts {fl:Bool}{ns:List Int}{n:Int}(ha:ns.Pairwise (· < ·))(hL:ns.length+1≤2 ^ 38)
  (hK:∀(fl':Bool) (ns':List Int) (H':Heap),Upd H H' []→ns'.Pairwise (· < ·)→(∀x,x∈ns'↔x=n∨x∈ns)→ns'.length≤ns.length+1→K (.c (.sl fl' 1 (Qb ns'))) H') :
  Qs prog Qev [.c (.sl fl 1 (Qb ns)),.c (.int .i64 n)] H K:=by
 refine Qx ?_;refine Qc Qaj Qba4 ?_;have rest:∀i:Nat,InsAt ns n i→Qah prog Q55 (Q3 Qkl (unK H K)) [(0,V.c (.sl fl 1 (Qb ns))),(1,.c (.int .i64 n)),(5,.c (.int .i64 i))] H:=by
  intro i hat;have hile:=hat.le;refine Qy ?_;refine Qa ?_;have tail:∀e:Env,(∀(h:i<ns.length),ns[i]≠n)→lk 0 e=.c (.sl fl 1 (Qb ns))→lk 1 e=.c (.int .i64 n)→lk 5 e=.c (.int .i64 i)→Qah prog Q54 (Q3 Qkl (unK H K)) e H:=by
   intro e hne l0 l1 l5;obtain⟨q1,q2⟩:=hat.new ha hne;have ht1:List.take i (Qb ns)=Qb (ns.take i):=by simp[Qb,List.map_take]
   have ht2:List.drop i (List.take ns.length (Qb ns))=Qb (ns.drop i):=by
    rw[Jc (by rw[Qd];exact Jn _)];simp[Qb,List.map_drop]
   refine Qa ?_;simp only[go_sem,l0,l1,l5,Qd,ht1];refine⟨by omega,?_⟩;refine⟨.inl trivial,Qp _,by simp only[LIM,J8];omega,fun z hz H1 h1=>?_⟩;have kn:Kn H H1 [] ([]++[(z,.vec 1 (Qb (ns.take i)))]):=(Kn.start0 H).al hz h1;simp only[go_sem,Q0o,l0,l1,l5];generalize ht6:C.vsl z 1 0 (0+(List.take i ns).length)=t6;have hgr:Gr [(z,.vec 1 (Qb (ns.take i)))] 1 (Qb (ns.take i)) t6:=by rw[←ht6];exact .mk z 1 _ (by simp[Qd])
   have hw6:=hgr.isOw;refine Qag ?_;simp only[go_sem,hw6,Qd,ht2];refine⟨by omega,?_⟩;refine kn.growR (new:=Qb [n]) hgr (.mk' _ _ _ _) (Qp _) (by simp only[Qd,LIM,J8,Jr,Jq];omega) fun t7 Lg H2 hgr hw7 kn=>?_;simp only[go_sem,Q0q,hw7,Qd,ht2];refine⟨by omega,?_⟩;refine kn.growR (new:=Qb (ns.drop i)) hgr (.mk' _ _ _ _) (Qp _) (by simp only[Qd,LIM,J8,Jaw,Jr,Jq,Ja4];omega) fun t8 Lg H3 hgr hw8 kn=>?_;simp only[go_sem,Q0p];refine Qk ?_;simp only[go_sem,Q3,Qab,Qkl,Jb,forall_eq,RS.op];have e0:Qb (ns.take i)++Qb [n]++Qb (ns.drop i)=Qb (ns.take i++[n]++ns.drop i):=by simp[Qb]
   rw[e0]at hgr;refine⟨_,.c _ _ (hgr.frz kn (Qp _)),hK _ _ _ kn.fin q1 q2 ?_⟩;simp;omega
  simp only[go_sem,Qd];by_cases hlt:i<ns.length
  ·have hgd:ns.getD i 0=ns[i]:=by simp[Ja,hlt]
   simp only[go_sem,hlt,Qd,Qn _ _ hlt];intro _;refine Qh (Qe rfl ?_ ?_)
   ·intro hc2;have he:ns[i]=n:=(by rw[←hgd];simpa[hlt]using hc2);refine Qa ?_;simp only[go_sem];refine Qk ?_;simp only[go_sem,Q3,Qab,Qkl,Jb,forall_eq,RS.op];refine⟨_,.c _ _ (Q1l (noOw_mem (Qp _))),hK _ ns _ (Kn.start0 H).fin ha (fun x=>⟨.inr,?_⟩) (by omega)⟩;rintro (rfl|h)
    ·rw[←he];exact Jd hlt
    ·exact h
   ·intro hc2;have he:ns[i]≠n:=(by rw[←hgd];simpa[hlt]using hc2);refine Qi ?_;simp only[go_sem];exact tail _ (fun _=>he) rfl rfl rfl
  ·have hdf:decide ((i:Int)<(ns.length:Int))=false:=by simp;omega
   have hgo:(Qb ns).getD i []=[]:=by rw[Ja,Jt (by rw[Qd];omega)];rfl
   simp only[go_sem,hdf,hgo,Qd,cond_false];intro _;refine Qh (Qe rfl ?_ ?_)
   ·intro hc2;simp at hc2
   ·intro _;refine Qi ?_;simp only[go_sem];exact tail _ (fun h=>absurd h hlt) rfl rfl rfl
 refine Qa ?_;simp only[go_sem];refine Qa ?_;simp only[go_sem];refine Qh (Qf (Qw (fun m e1 H1=>∃(i:Nat),m=ns.length-i∧i≤ns.length∧H1=H∧(∀k,k<i→∀(h:k<ns.length),ns[k]<n)∧e1=[(0,.c (.sl fl 1 (Qb ns))),(1,.c (.int .i64 n)),(5,.c (.int .i64 i))]) ns.length ?_ ?_))
 ·exact⟨0,by omega,by omega,rfl,fun k hk=>by omega,rfl⟩
 ·rintro m e1 H1 ⟨i,hm,hi,rfl,hlo,rfl⟩;refine Qy ?_;refine Qa ?_;by_cases hlt:i<ns.length
  ·have hgd:ns.getD i 0=ns[i]:=by simp[Ja,hlt]
   simp only[go_sem,hlt,Qd,Qn _ _ hlt];intro _;refine Qh (Qe rfl ?_ ?_)
   ·intro hc;have hv:ns[i]<n:=(by rw[←hgd];simpa[hlt]using hc);refine Qi ?_;simp only[go_sem];refine Qf ?_;refine Qq ?_;simp only[go_sem,X.next];refine⟨Qr (by omega) (by omega),ns.length-(i+1),by omega,i+1,rfl,by omega,fun k hk h=>?_,rfl⟩;by_cases h':k<i
    ·exact hlo k h' h
    ·have:k=i:=(by omega);subst this;exact hv
   ·intro hc;have hv:¬ns[i]<n:=(by rw[←hgd];simpa[hlt]using hc);refine Qv ?_;simp only[go_sem,X.next];exact rest i ⟨hi,hlo,fun _=>by omega⟩
  ·have hdf:decide ((i:Int)<(ns.length:Int))=false:=by simp;omega
   have hgo:(Qb ns).getD i []=[]:=by rw[Ja,Jt (by rw[Qd];omega)];rfl
   simp only[go_sem,hdf,hgo,Qd,cond_false];intro _;refine Qh (Qe rfl ?_ ?_)
   ·intro hc2;simp at hc2
   ·intro _;refine Qv ?_;simp only[go_sem,X.next];exact rest i ⟨hi,hlo,fun h=>absurd h hlt⟩
end Go.AE.Y
namespace Go.AE.Y
attribute [local instance] Classical.propDecidable
variable {g:Nat→List Nat}{n h:Nat}
theorem rchB_iff {a:Int}{x:Nat}:Qvh g a x=true↔Rch g (fun z=>(z:Int)=a) 0 x:=by simp[Qvh]
theorem Qas9 (b:Nat):Qvh g (b:Int) b=false:=by
 cases hc:Qvh g (b:Int) b with
 |false=>rfl
 |true=>exact absurd rfl (rchB_iff.1 hc).snd
theorem Qbeh (b:Nat):Q6j g b b=Qvh g (-1) b:=by simp[Q6j,Qas9]
theorem Qbo6 {a b:Nat}(h:Q6j g a b=true):Qvh g (-1) a=true∧Qvh g (-1) b=true:=by
 simp only[Q6j,Jp]at h;exact⟨h.1.1,h.1.2⟩
end Go.AE.Y
namespace Go.AE.Y
open Go.Proofs.Tryz
variable {H H0:Heap}{K:V→Heap→Prop}
structure GF (rows:List (List C))(nx:Nat→List Int):Prop where
 no:∀r∈rows,noOw r=true
 x:∀i,i<rows.length→∃a1 a2 a3 a4 fl,rows.getD i []=[a1,a2,a3,a4,.sl fl 1 (Qb (nx i))]
 n:rows.length≤10000
 m:∀i,i<rows.length→(nx i).length≤1000
theorem GF.grd {rows:List (List C)}{nx:Nat→List Int}(h:GF rows nx)(H:Heap)(fl:Bool):GRd H (.sl fl 5 rows) rows nx:=⟨.mk' _ _ _ _,rfl,h.no,h.x⟩
theorem Qa05 {q:CodeD}(h:q.gd):GF (Qm q.blocks) (gnx q):=by
 refine⟨(Qg0 (fun _=>.none) q false).no,(Qg0 (fun _=>.none) q false).x,by rw[Qo];have:=h.b1;omega,fun i hi=>?_⟩;rw[Qo]at hi;have:gnx q i=q.blocks[i].next:=by simp[gnx,Ja,hi]
 rw[this];have:=h.n _ (Jd hi);omega
noncomputable def inL (n:Nat)(g:Nat→List Nat):List Bool:=(List.range n).map (Qvh g (-1))
noncomputable def Qhb (n:Nat)(g:Nat→List Nat)(a:Nat):List Bool:=(List.range n).map (Q6j g a)
noncomputable def ovOf (n:Nat)(g:Nat→List Nat)(k:Nat):List (List C):=(List.range k).map fun a=>[.sl false 1 (Qu (Qhb n g a))]
theorem Qfc (n:Nat)(f:Nat→Bool){i:Nat}(h:i<n):((List.range n).map f).getD i false=f i:=by simp[Ja,h]
theorem Qamx {n:Nat}{g:Nat→List Nat}:(inL n g).length=n:=by simp[inL]
theorem Qeq {n:Nat}{g:Nat→List Nat}{a:Nat}:(Qhb n g a).length=n:=by simp[Qhb]
theorem Qtv {n:Nat}{g:Nat→List Nat}{k:Nat}:(ovOf n g k).length=k:=by simp[ovOf]
theorem Qa8s {n:Nat}{g:Nat→List Nat}{i:Nat}(h:i<n):(inL n g).getD i false=Qvh g (-1) i:=Qfc _ _ h
theorem Q9r {n:Nat}{g:Nat→List Nat}{a i:Nat}(h:i<n):(Qhb n g a).getD i false=Q6j g a i:=Qfc _ _ h
theorem Qaan {n:Nat}{g:Nat→List Nat}{k a:Nat}(h:a<k):(ovOf n g k).getD a []=[.sl false 1 (Qu (Qhb n g a))]:=by simp[ovOf,Ja,h]
noncomputable def ysL (n:Nat)(g:Nat→List Nat)(ys:List Nat):List (Nat×Obj):=ys.zipIdx.map fun x=>(x.1,.vec 1 (Qu (Qhb n g x.2)))
def ysR (n:Nat)(ys:List Nat):List (List C):=ys.map fun y=>[.vsl y 1 0 n]
theorem Qbn7 (n:Nat)(g:Nat→List Nat)(ys:List Nat)(y:Nat):ysL n g (ys++[y])=ysL n g ys++[(y,.vec 1 (Qu (Qhb n g ys.length)))]:=by
 simp[ysL,List.zipIdx_append]
theorem Qbn8 (n:Nat)(ys:List Nat)(y:Nat):ysR n (ys++[y])=ysR n ys++[[.vsl y 1 0 n]]:=by simp[ysR]
theorem Qbrl (n:Nat)(ys:List Nat):(ysR n ys).length=ys.length:=by simp[ysR]
theorem Qbtd {S:Nat→Bool}{n:Nat}{g:Nat→List Nat}(ys:List Nat):∀(k:Nat),(∀p∈(ys.zipIdx k).map fun x=>(x.1,Obj.vec 1 (Qu (Qhb n g x.2))),H p.1=p.2∧S p.1=true)→
  FrzR H S (ysR n ys) ((List.range' k ys.length).map fun a=>[.sl false 1 (Qu (Qhb n g a))]):=by
 induction ys with
 |nil=>intro k _;exact .nil
 |cons y ys ih=>
  intro k h;rw[List.zipIdx_cons,Jw]at h;obtain⟨h1,h2⟩:=h _ Jm;simp only[Jq,List.range'_succ,Jw,ysR];refine .cons (.cons ((FrzR.same (Qii _)).vsl h2 h1 (by rw[Qz,Qeq])) .nil) (ih (k+1) fun p hp=>h p (Jk _ hp))
theorem Qbrm {S:Nat→Bool}{n:Nat}{g:Nat→List Nat}(ys:List Nat)(h:∀p∈ysL n g ys,H p.1=p.2∧S p.1=true):FrzR H S (ysR n ys) (ovOf n g ys.length):=by
 have:=Qbtd (H:=H) (S:=S) (n:=n) (g:=g) ys 0 h;rw[←List.range_eq_range']at this;exact this
theorem Qasq (n:Nat)(f:Nat→Bool){i:Nat}(h:i<n):((List.range i).map f++List.replicate (n-i) false).set i (f i)=(List.range (i+1)).map f++List.replicate (n-(i+1)) false:=by
 refine Jag fun j=>?_;have e:n-i=(n-(i+1))+1:=by omega
 rw[e,List.replicate_succ,Jao,Ju];rw[List.set_append];simp only[Jv,Jba,Nat.lt_irrefl,if_false,Jbf,Ja7,Jw,J4,Jar,Ja0]
end Go.AE.Y
namespace Go.AE.Y
open Go.Proofs.Tryz
variable {H H0:Heap}{K:V→Heap→Prop}{E B Lg:List (Nat×Obj)}
def Qbto (ks:List Nat):List (C×V):=ks.map fun k:Nat=>(.int .i64 (k:Int),.c (.bool true))
theorem Q9i {fl:Bool}{ns:List Int}{L:List (Nat×Obj)}(kn:Kn H0 H E L)(hl:ns.length≤LIM)(hK:∀t Lg H',Gr Lg 1 (Qb ns) t→t.isOw=false→Kn H0 H' E (L++Lg)→K (.c t) H') :
  Qs prog Qdj [.c (.sl fl 1 (Qb ns))] H K:=by
 refine Qc Qaj Qba5 ?_;refine Qa ?_;simp only[go_sem];refine Qy ?_;refine Qa ?_;simp only[go_sem];intro b hb;refine Qh (Qe rfl ?_ ?_)
 ·intro hbt;have hn:=hb hbt;refine Qa ?_;simp only[go_sem];refine Qk ?_;simp only[go_sem,Q3,Qab,Q1y,Jb,forall_eq,RS.op];refine hK _ [] H ?_ rfl (by simpa using kn);rw[hn];exact .nil 1
 ·intro hbf;refine Qi ?_;simp only[go_sem];refine Qa ?_;simp only[go_sem,Qd];refine⟨.inl trivial,Qp _,by omega,fun z hz H1 h1=>?_⟩;have kn:=kn.al hz h1;simp only[go_sem,Q0r];refine Qk ?_;simp only[go_sem,Q3,Qab,Q1y,Jb,forall_eq,RS.op];exact hK _ _ H1 (.mk z 1 _ (by rw[Qd];omega)) rfl kn
theorem Qex (ns:List Int)(i:Nat)(x:Int):(Qb ns).set i [.int .i64 x]=Qb (ns.set i x):=by simp[Qb,J6]
theorem Q9m {n:Nat}{S:List Bool}{f:Nat→Bool}(hl:S.length=n)(h:∀x,x<n→S.getD x false=f x):S=(List.range n).map f:=by
 refine List.ext_getElem (by simp[hl]) fun i h1 h2=>?_;have hi:i<n:=by rw[←hl];exact h1
 have:=h i hi;simp only[Ja,Ji h1,Jak]at this;simp[this]
theorem Qak7 {n:Nat}{nx:Nat→List Int}{S:List Bool}{o:List Nat}(hf:Qoq n nx=true)(hd:Dfs (nxN nx) [0] (List.replicate n false) [] S o):S=inL n (nxN nx):=by
 have hn0:=Qo2 hf;have hgl:∀x,x<(List.replicate n false).length→∀y∈nxN nx x,y<(List.replicate n false).length:=by
  rw[Jj];exact fun x hx y hy=>Qall hf hx hy
 have hx0:∀x∈[0],x<(List.replicate n false).length:=by rw[Jj];simpa using hn0
 have hl:=hd.len;rw[Jj]at hl;refine Q9m hl fun x hx=>?_;have hs:=hd.seen hgl hx0 x;rw[Qbl]at hs;simp only[Ja3,false_or,Jb,exists_eq_left]at hs;rw[Jbc,hs,rchB_iff];exact⟨fun hr=>hr.mono fun z hz=>by omega,fun hr=>hr.mono fun z hz=>by rw[Qbl]at hz;simp at hz⟩
theorem Qak5 {n:Nat}{nx:Nat→List Int}{S:List Bool}{o:List Nat}{a:Nat}(hf:Qoq n nx=true)(ha:a<n)(hd:Dfs (nxN nx) [0] ((List.replicate n false).set a true) [] S o) :
  S.set a false=(List.range n).map (Qvh (nxN nx) a):=by
 have hn0:=Qo2 hf;have hgl:∀x,x<((List.replicate n false).set a true).length→∀y∈nxN nx x,y<((List.replicate n false).set a true).length:=by
  rw[Jl,Jj];exact fun x hx y hy=>Qall hf hx hy
 have hx0:∀x∈[0],x<((List.replicate n false).set a true).length:=by rw[Jl,Jj];simpa using hn0
 have hl:=hd.len;rw[Jl,Jj]at hl;refine Q9m (by rw[Jl];exact hl) fun x hx=>?_;have hs0:∀z,((List.replicate n false).set a true).getD z false=true↔z=a:=by
  intro z;rw[Ql5,Jj,Qbl];by_cases hz:z=a
  ·simp[hz,ha]
  ·simp[hz]
 have hset:(S.set a false).getD x false=if x=a then false else S.getD x false:=by
  simp only[Ja,Jaa];by_cases hxa:a=x
  ·subst hxa;simp[hl,ha]
  ·have:¬x=a:=fun h=>hxa h.symm;simp[hxa,this]
 rw[hset];by_cases hxa:x=a
 ·subst hxa;rw[if_pos rfl,Qas9]
 ·rw[if_neg hxa,Jbc,hd.seen hgl hx0 x,hs0,rchB_iff];simp only[hxa,false_or,Jb,exists_eq_left];exact⟨fun hr=>hr.mono fun z hz=>(hs0 z).2 (by omega),fun hr=>hr.mono fun z hz=>by have:=(hs0 z).1 hz;omega⟩
theorem Qbn6 {n:Nat}{g:Nat→List Nat}:((List.replicate n false).set 0 true).set 0 false=(List.range n).map (Qvh g (0:Nat)):=by
 refine Q9m (by simp) fun x hx=>?_;have:Qvh g ((0:Nat):Int) x=false:=by
  cases hc:Qvh g ((0:Nat):Int) x with
  |false=>rfl
  |true=>exact absurd rfl (rchB_iff.1 hc).fst
 rw[this,Jbb];have:(List.replicate n false).set 0 false=List.replicate n false:=by
  cases n with
  |zero=>rfl
  |succ n=>rfl
 rw[this,Qbl]
set_option maxHeartbeats 4000000 in
theorem Qar1 {p rg:Int}{fl:Bool}{rows:List (List C)}{nx:Nat→List Int}(hg:GF rows nx)(hf:Qoq rows.length nx=true)
  (hK:∀H',Upd H H' []→K (.c (.sl false 1 (ovOf rows.length (nxN nx) rows.length))) H') :
  Qs prog Qto [.ag [.int .i64 p,.int .i64 rg,.sl fl 5 rows]] H K:=by
 have hn:=hg.n;have hn0:=Qo2 hf;have hyb:∀(y:Nat) l a b d,C.sl fl 5 rows=.vsl l a b d→l≠y:=by intro y l a b d h;cases h
 refine Qx ?_;refine Qc Qaj Qbf6 ?_;refine Qa ?_;simp only[go_sem];refine Qa ?_;simp only[go_sem];intro _;refine Qa ?_;simp only[go_sem];refine Qa ?_;simp only[go_sem,Qbn];refine⟨by simp only[LIM];omega,fun al hal H1 h1=>?_⟩;have kn:Kn H H1 [] ([(al,.vec 1 (Qu (List.replicate rows.length false)))]++[]):=(Kn.start0 H).al hal h1;simp only[go_sem,Q38];refine Qa ?_;simp only[go_sem];refine Q1m (F:=H1) hf (by omega) (hg.grd H1 fl) (hyb al) rows.length 0 (List.replicate rows.length false) [] (.sl true 1 []) [] H1 _ (by simp) (by omega) hn0 (Qbl _ _) kn.mid (.nil 1) (by simp) fun S o oc Lg0 H2 hd k2 _=>?_;have kn:Kn H H2 [] [(al,.vec 1 (Qu (inL rows.length (nxN nx))))]:=by
  have:=(kn.comp k2 rfl).drop;rw[Qak7 hf hd]at this;exact this
 refine Qy ?_;refine Qa ?_;simp only[go_sem];refine Qh (Qf (Qw (fun m e1 H1=>∃(ys:List Nat) (oc:C) (Lg:List (Nat×Obj)),m=rows.length-ys.length∧ys.length≤rows.length∧Gr Lg 1 (ysR rows.length ys) oc∧
  Kn H H1 [] (([(al,.vec 1 (Qu (inL rows.length (nxN nx))))]++ysL rows.length (nxN nx) ys)++Lg)∧
  e1=[(1,.c (.pp [.int .i64 p,.int .i64 rg,.sl fl 5 rows])),(3,.c (.int .i64 rows.length)),(4,.c oc),(5,.c (.vsl al 1 0 rows.length)),(6,.c (.int .i64 ys.length))]) rows.length ?_ ?_))
 ·exact⟨[],_,[],by simp,by simp,.nil 1,kn,rfl⟩
 ·rintro m e1 H3 ⟨ys,oc,Lg,hm,hi,hgr,kn,rfl⟩;have hoc:=hgr.isOw;refine Qy ?_;refine Qa ?_;simp only[go_sem,hoc];refine Qh (Qe rfl ?_ ?_)
  ·intro hc;have hlt:ys.length<rows.length:=by simpa using hc
   have hlti:ys.length<(inL rows.length (nxN nx)).length:=by rw[Qamx];exact hlt
   refine Qi ?_;simp only[go_sem];refine Qd2 (fun e2 H4=>∃(oc:C) (Lg:List (Nat×Obj)) (y:Nat),Gr Lg 1 (ysR rows.length (ys++[y])) oc∧
    Kn H H4 [] (([(al,.vec 1 (Qu (inL rows.length (nxN nx))))]++ysL rows.length (nxN nx) (ys++[y]))++Lg)∧
    lk 1 e2=.c (.pp [.int .i64 p,.int .i64 rg,.sl fl 5 rows])∧lk 3 e2=.c (.int .i64 rows.length)∧lk 4 e2=.c oc∧lk 5 e2=.c (.vsl al 1 0 rows.length)∧lk 6 e2=.c (.int .i64 ys.length)) ?_ ?_
   ·intro Q hnr _ _;refine Qf ?_;refine Qa ?_;simp only[go_sem,hoc,Qbn];refine⟨by simp only[LIM];omega,fun y2 hy2 H4 h4=>?_⟩;have kn:Kn H H4 [] ([(y2,.vec 1 (Qu (List.replicate rows.length false)))]++([(al,.vec 1 (Qu (inL rows.length (nxN nx))))]++(ysL rows.length (nxN nx) ys++Lg))):=
     (kn.al hy2 h4).perm (Ql fun f hf h0 hc hp=>by simp only[hf];omega)
    have hy:=kn.l 0 rfl;have hr0:ys.length<(List.replicate rows.length false).length:=(by rw[Jj];exact hlt);simp only[go_sem,Q39];refine Qa ?_;have htk0:∀(S:List Bool),S.length=rows.length→(Qu S).take rows.length=Qu S:=fun S h=>Jc (by rw[Qz];omega);simp only[go_sem,hoc,hy,hlt,Qz,Jj,Q6 _ _ hr0,Qbo,Js,Jn];intro H5 h5;have kn:Kn H H5 [] ([(y2,.vec 1 (Qu ((List.replicate rows.length false).set ys.length true)))]++([(al,.vec 1 (Qu (inL rows.length (nxN nx))))]++(ysL rows.length (nxN nx) ys++Lg))):=kn.stL 0 rfl h5;refine Qy ?_;refine Qa ?_;simp only[go_sem,hoc];have rest:∀(e:Env) (H6:Heap),lk 1 e=.c (.pp [.int .i64 p,.int .i64 rg,.sl fl 5 rows])→lk 3 e=.c (.int .i64 rows.length)→lk 4 e=.c oc→lk 5 e=.c (.vsl al 1 0 rows.length)→lk 6 e=.c (.int .i64 ys.length)→lk 7 e=.c (.vsl y2 1 0 rows.length)→
      Kn H H6 [] ([(y2,.vec 1 (Qu ((List.range rows.length).map (Qvh (nxN nx) ys.length))))]++([(al,.vec 1 (Qu (inL rows.length (nxN nx))))]++(ysL rows.length (nxN nx) ys++Lg)))→
      Qah prog Q37 Q e H6:=by
     intro e H6 l1 l3 l4 l5 l6 l7 kn;refine Qa ?_;simp only[go_sem,l1,l3,l4,l5,l6,l7,Qbn];refine⟨by simp only[LIM];omega,fun y3 hy3 H7 h7=>?_⟩;have kn:Kn H H7 [] ([(y3,.vec 1 (Qu (List.replicate rows.length false)))]++([(y2,.vec 1 (Qu ((List.range rows.length).map (Qvh (nxN nx) ys.length))))]++([(al,.vec 1 (Qu (inL rows.length (nxN nx))))]++(ysL rows.length (nxN nx) ys++Lg)))):=
      (kn.al hy3 h7).perm (Ql fun f hf h0 hc hp=>by simp only[hf];omega)
     simp only[go_sem,Q4a,l1,l3,l4,l5,l6,l7];refine Qy ?_;refine Qa ?_;simp only[go_sem,hoc];refine Qh (Qf (Qw (fun m e1 H1=>∃b:Nat,m=rows.length-b∧b≤rows.length∧
      Kn H H1 [] ([(y3,.vec 1 (Qu ((List.range b).map (Q6j (nxN nx) ys.length)++List.replicate (rows.length-b) false)))]++([(y2,.vec 1 (Qu ((List.range rows.length).map (Qvh (nxN nx) ys.length))))]++([(al,.vec 1 (Qu (inL rows.length (nxN nx))))]++(ysL rows.length (nxN nx) ys++Lg))))∧
      e1=[(1,.c (.pp [.int .i64 p,.int .i64 rg,.sl fl 5 rows])),(3,.c (.int .i64 rows.length)),(4,.c oc),(5,.c (.vsl al 1 0 rows.length)),(6,.c (.int .i64 ys.length)),(7,.c (.vsl y2 1 0 rows.length)),(8,.c (.vsl y3 1 0 rows.length)),(9,.c (.int .i64 b))]) rows.length ?_ ?_))
     ·exact⟨0,by omega,by omega,by simpa using kn,rfl⟩
     ·rintro m2 e1 H8 ⟨b,hm2,hb,kn,rfl⟩;have hy3:=kn.l 0 rfl;have hy2:=kn.l 1 rfl;have hal:=kn.l 2 rfl;have hyl:((List.range b).map (Q6j (nxN nx) ys.length)++List.replicate (rows.length-b) false).length=rows.length:=(by simp;omega);refine Qy ?_;refine Qa ?_;simp only[go_sem,hoc];refine Qh (Qe rfl ?_ ?_)
      ·intro hc2;have hbl:b<rows.length:=(by simpa using hc2);have hbi:b<(inL rows.length (nxN nx)).length:=(by rw[Qamx];exact hbl);have hbr:b<((List.range rows.length).map (Qvh (nxN nx) ys.length)).length:=(by simpa using hbl);have hby:b<((List.range b).map (Q6j (nxN nx) ys.length)++List.replicate (rows.length-b) false).length:=(by rw[hyl];exact hbl);have t1:=htk0 (inL rows.length (nxN nx)) Qamx;have t2:=htk0 ((List.range rows.length).map (Qvh (nxN nx) ys.length)) (by simp);have t3:=htk0 _ hyl;refine Qi ?_;simp only[go_sem];refine Qh (Qf ?_);refine Qq ?_;simp only[go_sem,hoc,hy3,hy2,hal,hbl,hlt,t1,t2,t3,Qz,hyl,Qamx,Jv,Jba,Q6 _ _ hlti,Qa8s hlt,Q6 _ _ hbi,Qa8s hbl,Q6 _ _ hbr,Qfc _ _ hbl,Q6 _ _ hby,Qbo,Js,Jn];intro H9 h9;have kn:=kn.stL 0 rfl h9;refine Qq ?_;simp only[go_sem,hoc,X.next];refine⟨Qr (by omega) (by omega),rows.length-(b+1),by omega,b+1,rfl,by omega,?_,rfl⟩;rw[←Qasq _ _ hbl];have:Q6j (nxN nx) ys.length b=(bif (bif Qvh (nxN nx) (-1) ys.length then Qvh (nxN nx) (-1) b else false)then !Qvh (nxN nx) (↑ys.length) b else false):=by
        simp only[Q6j];cases Qvh (nxN nx) (-1) ys.length <;> cases Qvh (nxN nx) (-1) b <;> rfl
       rw[this];exact kn
      ·intro hc2;have hbe:b=rows.length:=(by have:¬b<rows.length:=(by simpa using hc2);omega);subst hbe;refine Qv ?_;simp only[go_sem,X.next];refine Qq ?_;simp only[go_sem,hoc];have kn:Kn H H8 [] (([(al,.vec 1 (Qu (inL rows.length (nxN nx))))]++ysL rows.length (nxN nx) (ys++[y3]))++Lg):=by
        have hrow:(List.range rows.length).map (Q6j (nxN nx) ys.length)++List.replicate (rows.length-rows.length) false=Qhb rows.length (nxN nx) ys.length:=(by simp[Qhb]);rw[hrow]at kn;have:=kn.perm (L':=(([(al,.vec 1 (Qu (inL rows.length (nxN nx))))]++ysL rows.length (nxN nx) (ys++[y3]))++Lg)++[(y2,.vec 1 (Qu ((List.range rows.length).map (Qvh (nxN nx) ys.length))))]) (Ql fun f hf h0 hc hp=>by simp only[Qbn7,hf];omega);exact this.drop
       refine kn.growR (new:=[[.vsl y3 1 0 rows.length]]) hgr (.mk' _ _ _ _) (by simp[Go.AE.noOw,C.isOw]) (by simp only[Qbrl,LIM,Jq,Jr];omega) fun t Lg' H9 hgr ht kn=>?_;simp only[go_sem,Q4b,ht];refine hnr _ _ ⟨t,Lg',y3,?_,kn,rfl,rfl,rfl,rfl,rfl⟩;rw[Qbn8];exact hgr
    refine Qh (Qe rfl ?_ ?_)
    ·intro ha;have ha0:ys.length≠0:=(by simpa using ha);refine Qa ?_;simp only[go_sem,hoc];refine Q1m (F:=H5) hf (by omega) (hg.grd H5 fl) (hyb y2) rows.length 0 ((List.replicate rows.length false).set ys.length true) [] (.sl true 1 []) [] H5 _ (by simp) (by omega) hn0 (by rw[Ql5,Qbl,if_neg (by omega)]) kn.mid (.nil 1) (by simp) fun S o oc' Lg0 H6 hd k2 _=>?_;have hSl:=hd.len;rw[Jl,Jj]at hSl;have kn:Kn H H6 [] ([(y2,.vec 1 (Qu S))]++([(al,.vec 1 (Qu (inL rows.length (nxN nx))))]++(ysL rows.length (nxN nx) ys++Lg))):=(kn.comp k2 rfl).drop;have hy:=kn.l 0 rfl;have hyS:ys.length<S.length:=(by omega);refine Qq ?_;simp only[go_sem,hoc,hy,hlt,Qz,hSl,htk0 S hSl,Q6 _ _ hyS,Qbo,Js,Jn];intro H7 h7;have kn:=kn.stL 0 rfl h7;refine rest _ H7 rfl rfl rfl rfl rfl rfl ?_;rw[←Qak5 hf hlt hd];exact kn
    ·intro ha;have ha0:ys.length=0:=(by simpa using ha);have hy:=kn.l 0 rfl;have hyS:ys.length<((List.replicate rows.length false).set ys.length true).length:=(by simpa using hlt);refine Qq ?_;simp only[go_sem,hoc,hy,hlt,Qz,Jl,Jj,Q6 _ _ hyS,Qbo,Js,Jn];intro H7 h7;have kn:=kn.stL 0 rfl h7;refine rest _ H7 rfl rfl rfl rfl rfl rfl ?_;have:=Qbn6 (n:=rows.length) (g:=nxN nx);rw[ha0]at kn⊢;rw[←this];exact kn
   ·rintro e2 H4 ⟨oc2,Lg2,y,hgr,kn,l1,l3,l4,l5,l6⟩;refine Qq ?_;simp only[go_sem,X.next,l1,l3,l4,l5,l6];exact⟨Qr (by omega) (by omega),rows.length-(ys.length+1),by omega,ys++[y],oc2,Lg2,by simp,by simp;omega,hgr,kn,by simp⟩
  ·intro hc;have hge:ys.length=rows.length:=by have:¬ys.length<rows.length:=(by simpa using hc);omega
   refine Qv ?_;simp only[go_sem,X.next];refine Qa ?_;simp only[go_sem,hoc];refine Qk ?_;simp only[go_sem,Q3,Qab,Qasy,Jb,forall_eq,RS.op,hoc];have hfr:=Qbrm (H:=H3) (S:=un H) (n:=rows.length) (g:=nxN nx) ys (fun q hq=>⟨(kn.get q (by simp[hq])).1,Qe8 (kn.loc q (by simp[hq]))⟩);rw[hge]at hfr;exact⟨_,.c _ _ (hgr.frzR kn hfr),hK _ kn.fin⟩
end Go.AE.Y
namespace Go.AE.Y
open Go.Proofs.Tryz
def Qzj:List Item:=[mJ 3 12]
def Qzk:List Item:=.chk 6 none (.ld 3 true (.t 1))::aJ 12 Qeu [.t 6,kI 0,.t 10,.t 11]::Qzj
def Qzl:List Item:=[mJ 4 27]
def Qat6:SC:=.reg [mJ 19 5,cJ 20 .sub 19 1,mJ 5 20] [3,4,5]
def Qat7:SC:=.seq (.block 1 (.reg (mJ 21 4::mJ 22 3::mJ 23 5::iJ 24 1 22 23::lJ 25 24::fI 26 (.bsl 1 [.t 25])::xJ 27 1 21 26::Qzl) [3,4,5])) Qat6
def Qaom:SC:=.seq (sR [mJ 17 5,cJ 18 .geq 17 0] [3,4,5,18] (cT 18 .skip (.exit 0))) Qat7
def Qat8:SC:=sR [mJ 28 4,mJ 2 28] [2] .ret
def Qat9:SC:=.seq (sR [mJ 14 3,nJ 15 14,cJ 16 .sub 15 1,mJ 5 16] [3,4,5] (bL 0 Qaom)) Qat8
def Qaua:SC:=sR [fI 13 (.bsl 1 []),mJ 4 13] [3,4] Qat9
def Qaub:SC:=.seq (.dreg 8 [0,1,2,3,5,4,0,6,7] ( tJ 6 3 1::fJ 7 2 1::lJ 8 7::nJ 9 8::fI 11 (.bsl 1 [])::eI 10 (.mks 1 [.bool false] (.t 9))::Qzk) [3]) Qaua
def Qbbq:SC:=sR [vJ 1 0,fI 2 (.mv (.k (.c (.sl true 1 []))))] [1] Qaub
def Qalq:List RS:=[.tmp 2]
theorem Qbax:mFn prog Qhk 1 29 Qbbq Qalq=true:=by kernel_rfl
def Qvt:List Item:=[mJ 3 17]
def Qaou:SC:=.reg [mJ 10 4,cJ 11 .add 10 1,mJ 4 11] [0,3,4]
def Qaov:SC:=.seq (.block 1 (.reg (mJ 12 3::mJ 13 0::mJ 14 4::iJ 15 1 13 14::lJ 16 15::aJ 17 Qev [.t 12,.t 16]::Qvt) [0,3,4])) Qaou
def Qai0:SC:=.seq (sR [mJ 6 4,mJ 7 0,nJ 8 7,bJ 9 .lss 6 8] [0,3,4,9] (cT 9 .skip (.exit 0))) Qaov
def Qaow:SC:=sR [mJ 18 3,mJ 2 18] [2] .ret
def Qaox:SC:=.seq (sR [zJ 4 0] [0,3,4] (bL 0 Qai0)) Qaow
def Qaoy:SC:=sR [fI 5 (.bsl 1 []),mJ 3 5] [0,3] Qaox
def Qa2o:SC:=sR [fI 2 (.mv (.k (.c (.sl true 1 []))))] [0] Qaoy
def Qaaw:List RS:=[.tmp 2]
theorem Qa1g:mFn prog Qo6 1 19 Qa2o Qaaw=true:=by kernel_rfl
def Qlc:List Item:=[oJ 5 4]
def Q8p:SC:=cT 5 (sR [fI 6 (.bsl 1 []),mJ 2 6] [2] .ret) .skip
def Qld:List Item:=[mJ 2 9]
def Qle:List Item:=aJ 9 Qo6 [.t 8]::Qld
def Q8q:SC:=sR (tJ 7 3 1::aJ 8 Qhk [.t 7]::Qle) [2] .ret
def Q8r:SC:=.seq (sR (tJ 3 3 1::aJ 4 Q05 [.t 3]::Qlc) [1,5] Q8p) Q8q
def Qak2:SC:=sR [vJ 1 0,fI 2 (.mv (.k (.c (.sl true 1 []))))] [1] Q8r
def Qvf:List RS:=[.tmp 2]
theorem Qahk:mFn prog Qhq 1 10 Qak2 Qvf=true:=by kernel_rfl
def Qzq:List Item:=[mJ 5 9]
def Qaut:SC:=.reg [mJ 13 6,cJ 14 .add 13 1,mJ 6 14] [0,1,5,6]
def Qauu:SC:=.seq (.block 1 (.reg [mJ 15 5,mJ 16 6,iJ 17 1 15 16,.e none none (.sto 1 (.t 17) (kI (-1)))] [0,1,5,6])) Qaut
def Qaos:SC:=.seq (sR [mJ 10 6,mJ 11 0,bJ 12 .lss 10 11] [0,1,5,6,12] (cT 12 .skip (.exit 0))) Qauu
def Qauv:SC:=.reg [mJ 22 7,cJ 23 .add 22 1,mJ 7 23] [1,5,7]
def Qauw:SC:=.seq (.block 3 (.reg [mJ 24 5,mJ 25 1,mJ 26 7,iJ 27 1 25 26,lJ 28 27,mJ 29 7,iJ 30 1 24 28,sJ 1 30 29] [1,5,7])) Qauv
def Qaot:SC:=.seq (sR [mJ 18 7,mJ 19 1,nJ 20 19,bJ 21 .lss 18 20] [1,5,7,21] (cT 21 .skip (.exit 2))) Qauw
def Qaux:SC:=sR [mJ 31 5,mJ 4 31] [4] .ret
def Qauy:SC:=.seq (sR [zJ 7 0] [1,5,7] (bL 2 Qaot)) Qaux
def Qauz:SC:=.seq (sR [zJ 6 0] [0,1,5,6] (bL 0 Qaos)) Qauy
def Qaor:SC:=sR (mJ 8 0::eI 9 (.mks 1 [.int .i64 0] (.t 8))::Qzq) [0,1,5] Qauz
def Qbbr:SC:=sR [fI 4 (.mv (.k (.c (.sl true 1 []))))] [0,1] Qaor
def Qalr:List RS:=[.tmp 4]
theorem Qbay:mFn prog Qwp 2 32 Qbbr Qalr=true:=by kernel_rfl
def Q3v:List Item:=[mJ 5 20]
def Q3w:List Item:=[sJ 3 6 25]
def Q3x:List Item:=[hJ 33 32,.chk 36 none (.iad 1 (.t 34) (.t 35)),hJ 37 36,.chk 38 none (.iad 5 (.t 33) (.t 37)),.chk 39 none (.ld 5 true (.t 38)),sJ 5 8 40]
def Q3y:List Item:=eI 8 (.alloc [.sl true 2 [],.sl true 4 [],.int .i64 0,.int .i64 0,.sl true 1 []])::Q3x
def Qa2k:SC:=.reg [mJ 46 9,cJ 47 .add 46 1,mJ 9 47] [1,2,4,5,6,7,8,9]
def Qa2l:SC:=.seq (.block 3 (.dreg 13 [0,1,2,3,4,5,6,7,8,9,10,11,12] ( fJ 48 4 8::lJ 49 48::mJ 50 9::mJ 51 5::fJ 52 4 8::lJ 53 52::mJ 54 9::iJ 55 1 53 54::lJ 56 55::iJ 57 1 51 56::lJ 58 57::iJ 59 1 49 50::sJ 1 59 58::[]) [1,2,4,5,6,7,8,9])) Qa2k
def Qaus:SC:=.seq (sR [mJ 41 9,fJ 42 4 8,lJ 43 42,nJ 44 43,bJ 45 .lss 41 44] [1,2,4,5,6,7,8,9,45] (cT 45 .skip (.exit 2))) Qa2l
def Q3z:List Item:=[fJ 65 2 6,sJ 1 65 64]
def Qa2m:SC:=.reg (fJ 60 2 6::lJ 61 60::tJ 62 5 8::fI 63 (.bsl 5 [.t 62])::xJ 64 5 61 63::Q3z) [1,2,4,5,6,7]
def Qa2n:SC:=.seq (sR [zJ 9 0] [1,2,4,5,6,7,8,9] (bL 2 Qaus)) (.seq .gh Qa2m)
def Qauc:SC:=.reg [mJ 30 7,cJ 31 .add 30 1,mJ 7 31] [1,2,4,5,6,7]
def Qaud:SC:=.seq (.block 1 (.seq (.dreg 9 [0,1,2,3,4,5,6,7,8,9,1,4,5,6,7,10] ( fJ 32 2 2::lJ 33 32::mJ 34 1::mJ 35 7::iJ 36 1 34 35::lJ 37 36::iJ 38 5 33 37::tJ 39 5 38::aJ 40 Qfb [.t 39]::Q3y) [1,2,4,5,6,7,8]) Qa2n)) Qauc
def Qaon:SC:=.seq (sR [mJ 26 7,mJ 27 1,nJ 28 27,bJ 29 .lss 26 28] [1,2,4,5,6,7,29] (cT 29 .skip (.exit 0))) Qaud
def Qzm:List Item:=[mJ 11 77]
def Qzn:List Item:=[mJ 12 80]
def Qzo:List Item:=[mJ 14 122]
def Qzp:List Item:=hJ 101 100::.chk 103 none (.iad 5 (.t 101) (.t 102))::hJ 105 104::.chk 107 none (.iad 2 (.t 105) (.t 106))::hJ 109 108::iJ 119 1 109 118::lJ 120 119::fI 121 (.bsl 1 [.t 120])::xJ 122 1 99 121::Qzo
def Qaue:SC:=.reg [mJ 97 15,cJ 98 .add 97 1,mJ 15 98] [1,2,4,6,10,11,12,13,14,15]
def Qauf:SC:=.seq (.block 9 (.dreg 25 [0,1,2,3,4,5,6,7,8,9,10,11,12,13,14,15,16,17,18,19,2,4,6,8,10,20,21,22,23,24] ( mJ 99 14::fJ 100 2 6::lJ 101 100::mJ 102 10::iJ 103 5 101 102::fJ 104 0 103::lJ 105 104::mJ 106 13::iJ 107 2 105 106::fJ 108 1 107::lJ 109 108::mJ 110 11::mJ 111 1::mJ 112 12::mJ 113 15::iJ 114 1 112 113::lJ 115 114::iJ 116 1 111 115::lJ 117 116::aJ 118 Qtj [.t 110,.t 117]::Qzp) [1,2,4,6,10,11,12,13,14,15])) Qaue
def Qaoo:SC:=.seq (sR [mJ 93 15,mJ 94 12,nJ 95 94,bJ 96 .lss 93 95] [1,2,4,6,10,11,12,13,14,15,96] (cT 96 .skip (.exit 8))) Qauf
def Qaug:SC:=.reg [fJ 123 2 6,lJ 124 123,mJ 125 10,iJ 126 5 124 125,fJ 127 0 126,lJ 128 127,mJ 129 13,mJ 130 14,iJ 131 2 128 129,fJ 132 1 131,sJ 1 132 130] [1,2,4,6,10,11,12,13]
def Qauh:SC:=.seq (sR [zJ 15 0] [1,2,4,6,10,11,12,13,14,15] (bL 8 Qaoo)) (.seq .gh Qaug)
def Qaui:SC:=.reg [mJ 90 13,cJ 91 .add 90 1,mJ 13 91] [1,2,4,6,10,11,12,13]
def Qauj:SC:=.seq (.block 7 (sR [fI 92 (.bsl 1 []),mJ 14 92] [1,2,4,6,10,11,12,13,14] Qauh)) Qaui
def Qaop:SC:=.seq (sR [mJ 81 13,fJ 82 2 6,lJ 83 82,mJ 84 10,iJ 85 5 83 84,fJ 86 0 85,lJ 87 86,nJ 88 87,bJ 89 .lss 81 88] [1,2,4,6,10,11,12,13,89] (cT 89 .skip (.exit 6))) Qauj
def Qauk:SC:=sR [zJ 13 0] [1,2,4,6,10,11,12,13] (bL 6 Qaop)
def Qaul:SC:=sR (tJ 78 3 6::mJ 79 10::aJ 80 Qci [.t 78,.t 79]::Qzn) [1,2,4,6,10,11,12] Qauk
def Qaum:SC:=.reg [mJ 70 10,cJ 71 .add 70 1,mJ 10 71] [1,2,4,6,10]
def Qaun:SC:=.seq (.block 5 (.seq (.dreg 7 [0,1,2,3,4,5,6] ( tJ 72 3 2::mJ 73 1::mJ 74 10::iJ 75 1 73 74::lJ 76 75::aJ 77 Qci [.t 72,.t 76]::Qzm) [1,2,4,6,10,11]) Qaul)) Qaum
def Qaoq:SC:=.seq (sR [mJ 66 10,mJ 67 1,nJ 68 67,bJ 69 .lss 66 68] [1,2,4,6,10,69] (cT 69 .skip (.exit 4))) Qaun
def Qauo:SC:=sR [tJ 133 3 6,sJ 3 4 133] [4] .ret
def Q3u:SC:=.seq (sR [zJ 10 0] [1,2,4,6,10] (bL 4 Qaoq)) Qauo
def Qaup:SC:=.seq (sR [zJ 7 0] [1,2,4,5,6,7] (bL 0 Qaon)) Q3u
def Qauq:SC:=sR (fJ 21 0 2::lJ 22 21::fJ 23 1 2::lJ 24 23::fI 25 (.bld [.int .i64 0,.int .i64 0,.sl true 5 []] [(0,1,.t 22),(1,1,.t 24)])::eI 6 (.alloc [.int .i64 0,.int .i64 0,.sl true 5 []])::Q3w) [1,2,4,5,6] Qaup
def Qaur:SC:=sR (fJ 16 2 2::lJ 17 16::nJ 18 17::mJ 19 1::aJ 20 Qwp [.t 18,.t 19]::Q3v) [1,2,4,5] Qauq
def Qbhs:SC:=sR [vJ 2 0,eI 4 (.alloc [.int .i64 0,.int .i64 0,.sl true 5 []])] [1,2,4] Qaur
def Qasx:List RS:=[.cell 4 3 true]
theorem Qbf4:mFn prog Qtm 2 134 Qbhs Qasx=true:=by kernel_rfl
def Q3r:List Item:=[sJ 3 2 6]
def Q3s:List Item:=.chk 3 none (.ld 3 true (.t 1))::aJ 6 Qtm [.t 3,.t 5]::Q3r
def Qa19:SC:=.seq (.dreg 5 [0,1,2,0,3,4] ( tJ 3 3 1::tJ 4 3 1::aJ 5 Qhq [.t 4]::Q3s) [2]) .ret
def Qbhp:SC:=sR [vJ 1 0,eI 2 (.alloc [.int .i64 0,.int .i64 0,.sl true 5 []])] [1,2] Qa19
def Qasw:List RS:=[.cell 2 3 true]
theorem Qbf2:mFn prog Qtl 1 7 Qbhp Qasw=true:=by kernel_rfl
def Qng:List Item:=[mJ 9 20]
def Qnh:List Item:=[mJ 7 54]
def Qab9:SC:=cT 51 (.reg (mJ 52 7::mJ 53 8::aJ 54 Qev [.t 52,.t 53]::Qnh) [1,2,3,7,8,9,10]) .skip
def Qaca:SC:=.reg [mJ 25 10,cJ 26 .add 25 1,mJ 10 26] [1,2,3,7,8,9,10]
def Qacb:SC:=.seq (.block 3 (.seq (.dreg 25 [0,1,2,3,4,5,6,7,8,9,10,11,12,13,14,15,16,17,18,19,20,21,22,23,24] ( mJ 27 1::mJ 28 2::iJ 29 1 27 28::lJ 30 29::mJ 31 9::mJ 32 10::iJ 33 1 31 32::lJ 34 33::iJ 35 1 30 34::lJ 36 35::mJ 37 36::gTm 38 37 8::gTm 39 37 2::gT 40 37 (.bin 0 .eql (.t 38) (.t 39))::gTm 41 37 40::gFm 42 41 1::gFm 43 41 2::gF 44 41 (.iad 1 (.t 42) (.t 43))::gFl 45 41 44::gFm 46 41 8::gF 47 41 (.iad 1 (.t 45) (.t 46))::gFl 48 41 47::gF 49 41 (.not (.t 48))::gT 50 37 (.pick (.t 41) (.k (.c (.bool true))) (.t 49))::pF 51 37 50::[]) [1,2,3,7,8,9,10,51]) Qab9)) Qaca
def Q7m:SC:=.seq (sR [mJ 21 10,mJ 22 9,nJ 23 22,bJ 24 .lss 21 23] [1,2,3,7,8,9,10,24] (cT 24 .skip (.exit 2))) Qacb
def Qacc:SC:=sR [zJ 10 0] [1,2,3,7,8,9,10] (bL 2 Q7m)
def Qacd:SC:=.reg [mJ 16 8,cJ 17 .add 16 1,mJ 8 17] [1,2,3,7,8]
def Qace:SC:=.seq (.block 1 (sR (tJ 18 3 3::mJ 19 8::aJ 20 Qci [.t 18,.t 19]::Qng) [1,2,3,7,8,9] Qacc)) Qacd
def Q7n:SC:=.seq (sR [mJ 12 8,mJ 13 1,nJ 14 13,bJ 15 .lss 12 14] [1,2,3,7,8,15] (cT 15 .skip (.exit 0))) Qace
def Q7j:SC:=sR [mJ 55 7,mJ 6 55] [6] .ret
def Q7k:SC:=.seq (sR [zJ 8 0] [1,2,3,7,8] (bL 0 Q7n)) Q7j
def Q7l:SC:=sR [fI 11 (.bsl 1 []),mJ 7 11] [1,2,3,7] Q7k
def Qao4:SC:=sR [vJ 3 0,fI 6 (.mv (.k (.c (.sl true 1 []))))] [1,2,3] Q7l
def Qys:List RS:=[.tmp 6]
theorem Qane:mFn prog Qjg 3 56 Qao4 Qys=true:=by kernel_rfl
def Qk2:List Item:=[mJ 8 15]
def Qk3:List Item:=[oJ 29 28]
def Qk4:List Item:=[mJ 10 33]
def Qk5:List Item:=[cJ 46 .lss 45 0]
def Qk6:List Item:=[mJ 7 52]
def Qk7:List Item:=[mJ 8 59]
def Q7o:SC:=.reg (mJ 53 8::mJ 54 10::mJ 55 11::iJ 56 1 54 55::lJ 57 56::fI 58 (.bsl 1 [.t 57])::xJ 59 1 53 58::Qk7) [1,3,7,8,10,11]
def Q7p:SC:=cT 46 (sR (mJ 47 7::mJ 48 10::mJ 49 11::iJ 50 1 48 49::lJ 51 50::aJ 52 Qev [.t 47,.t 51]::Qk6) [1,3,7,8,10,11] Q7o) .skip
def Q7q:SC:=.reg [mJ 38 11,cJ 39 .add 38 1,mJ 11 39] [1,3,7,8,10,11]
def Q7r:SC:=.seq (.block 3 (sR (mJ 40 7::mJ 41 10::mJ 42 11::iJ 43 1 41 42::lJ 44 43::aJ 45 Qtj [.t 40,.t 44]::Qk5) [1,3,7,8,10,11,46] Q7p)) Q7q
def Qzt:SC:=.seq (sR [mJ 34 11,mJ 35 10,nJ 36 35,bJ 37 .lss 34 36] [1,3,7,8,10,11,37] (cT 37 .skip (.exit 2))) Q7r
def Q2g:SC:=sR [zJ 11 0] [1,3,7,8,10,11] (bL 2 Qzt)
def Q2h:SC:=sR (tJ 30 3 3::mJ 31 1::mJ 32 9::aJ 33 Qjg [.t 30,.t 31,.t 32]::Qk4) [1,3,7,8,10] Q2g
def Q2i:SC:=.seq (sR (mJ 24 9::mJ 25 1::nJ 26 25::cJ 27 .sub 26 1::aJ 28 Qbq [.t 24,kI 0,.t 27]::Qk3) [1,3,7,8,9,29] (cT 29 (.exit 1) .skip)) Q2h
def Q2j:SC:=sR [mJ 22 8,fI 23 (.sli 1 (.t 22) (some (kI 1)) none),mJ 8 23] [1,3,7,8,9] Q2i
def Q2k:SC:=.block 1 (sR [mJ 19 8,fI 20 (.iad 1 (.t 19) (kI 0)),lJ 21 20,mJ 9 21] [1,3,7,8,9] Q2j)
def Qzu:SC:=.seq (sR [mJ 16 8,nJ 17 16,cJ 18 .gtr 17 0] [1,3,7,8,18] (cT 18 .skip (.exit 0))) Q2k
def Q2l:SC:=sR [mJ 60 7,mJ 6 60] [6] .ret
def Q2m:SC:=sR (fI 13 (.bsl 1 [])::mJ 14 2::xJ 15 1 13 14::Qk2) [1,3,7,8] (.seq (bL 0 Qzu) Q2l)
def Q2n:SC:=sR [fI 12 (.bsl 1 []),mJ 7 12] [1,2,3,7] Q2m
def Qai1:SC:=sR [vJ 3 0,fI 6 (.mv (.k (.c (.sl true 1 []))))] [1,2,3] Q2n
def Qvd:List RS:=[.tmp 6]
theorem Qahg:mFn prog Qhl 3 61 Qai1 Qvd=true:=by kernel_rfl
def Qav4:SC:=cT 44 (.reg [mJ 45 6,mJ 5 45] [0,3,4,5,6]) .skip
def Qav5:SC:=.reg [mJ 18 6,cJ 19 .add 18 1,mJ 6 19] [0,3,4,5,6]
def Qav6:SC:=.seq (.block 3 (sR [mJ 20 6,mJ 21 4,bJ 22 .neq 20 21,mJ 23 22,gTm 24 23 0,gTm 25 23 6,gT 26 23 (.iad 1 (.t 24) (.t 25)),gTl 27 23 26,gTm 28 23 4,gT 29 23 (.iad 1 (.t 27) (.t 28)),gTl 30 23 29,pF 31 23 30,mJ 32 31,gTm 33 32 5,gT 34 32 (.bin 0 .lss (.t 33) (kI 0)),gTm 35 32 34,gFm 36 35 0,gFm 37 35 5,gF 38 35 (.iad 1 (.t 36) (.t 37)),gFl 39 35 38,gFm 40 35 6,gF 41 35 (.iad 1 (.t 39) (.t 40)),gFl 42 35 41,gT 43 32 (.pick (.t 35) (.k (.c (.bool true))) (.t 42)),pF 44 32 43] [0,3,4,5,6,44] Qav4)) Qav5
def Qao8:SC:=.seq (sR [mJ 14 6,mJ 15 0,nJ 16 15,bJ 17 .lss 14 16] [0,3,4,5,6,17] (cT 17 .skip (.exit 2))) Qav6
def Qzv:List Item:=[mJ 3 49]
def Qav7:SC:=.reg (mJ 46 3::mJ 47 5::fI 48 (.bsl 1 [.t 47])::xJ 49 1 46 48::Qzv) [0,3,4]
def Qav8:SC:=.seq (sR [zJ 6 0] [0,3,4,5,6] (bL 2 Qao8)) Qav7
def Qav9:SC:=.reg [mJ 12 4,cJ 13 .add 12 1,mJ 4 13] [0,3,4]
def Qawa:SC:=.seq (.block 1 (sR [zJ 5 (-1)] [0,3,4,5] Qav8)) Qav9
def Qao9:SC:=.seq (sR [mJ 8 4,mJ 9 0,nJ 10 9,bJ 11 .lss 8 10] [0,3,4,11] (cT 11 .skip (.exit 0))) Qawa
def Qao5:SC:=sR [mJ 50 3,mJ 2 50] [2] .ret
def Qao6:SC:=.seq (sR [zJ 4 0] [0,3,4] (bL 0 Qao9)) Qao5
def Qao7:SC:=sR [fI 7 (.bsl 1 []),mJ 3 7] [0,3] Qao6
def Qbbt:SC:=sR [fI 2 (.mv (.k (.c (.sl true 1 []))))] [0] Qao7
def Qalt:List RS:=[.tmp 2]
theorem Qba0:mFn prog Qwq 1 51 Qbbt Qalt=true:=by kernel_rfl
def Q4c:List Item:=[mJ 5 23]
def Qa2y:SC:=cT 19 (.reg (mJ 20 5::mJ 21 6::fI 22 (.bsl 1 [.t 21])::xJ 23 1 20 22::Q4c) [0,1,5,6]) .skip
def Qa2z:SC:=.reg [mJ 12 6,cJ 13 .add 12 1,mJ 6 13] [0,1,5,6]
def Qa20:SC:=.seq (.block 1 (sR [mJ 14 0,mJ 15 6,iJ 16 1 14 15,lJ 17 16,mJ 18 1,bJ 19 .eql 17 18] [0,1,5,6,19] Qa2y)) Qa2z
def Qawb:SC:=.seq (sR [mJ 8 6,mJ 9 0,nJ 10 9,bJ 11 .lss 8 10] [0,1,5,6,11] (cT 11 .skip (.exit 0))) Qa20
def Qa21:SC:=sR [mJ 24 5,mJ 4 24] [4] .ret
def Qa22:SC:=.seq (sR [zJ 6 0] [0,1,5,6] (bL 0 Qawb)) Qa21
def Qa23:SC:=sR [fI 7 (.bsl 1 []),mJ 5 7] [0,1,5] Qa22
def Qbhw:SC:=sR [fI 4 (.mv (.k (.c (.sl true 1 []))))] [0,1] Qa23
def Qasz:List RS:=[.tmp 4]
theorem Qbf7:mFn prog Q06 2 25 Qbhw Qasz=true:=by kernel_rfl
def Q4z:List Item:=[mJ 3 11]
def Q40:List Item:=[iJ 50 1 40 41,sJ 1 50 49]
def Qa3n:SC:=.reg (mJ 40 3::mJ 41 6::mJ 42 3::mJ 43 6::iJ 44 1 42 43::lJ 45 44::mJ 46 4::fI 47 (.bsl 1 [.t 46,kI (-1)])::fI 48 (.bsl 1 [.t 47])::xJ 49 1 45 48::Q40) [1,3,4,5]
def Qa3o:SC:=.reg [mJ 28 5,cJ 29 .add 28 1,mJ 5 29] [1,3,4,5]
def Qa3p:SC:=.seq (.block 3 (sR [fJ 30 2 1,lJ 31 30,mJ 32 4,iJ 33 5 31 32,fJ 34 0 33,lJ 35 34,mJ 36 5,iJ 37 2 35 36,fJ 38 0 37,lJ 39 38,mJ 6 39] [1,3,4,5,6] Qa3n)) Qa3o
def Qaxy:SC:=.seq (sR [mJ 19 5,fJ 20 2 1,lJ 21 20,mJ 22 4,iJ 23 5 21 22,fJ 24 0 23,lJ 25 24,nJ 26 25,bJ 27 .lss 19 26] [1,3,4,5,27] (cT 27 .skip (.exit 2))) Qa3p
def Q41:List Item:=[mJ 8 71]
def Q42:List Item:=[iJ 85 1 74 75,sJ 1 85 84]
def Qa3q:SC:=cT 73 (.reg (mJ 74 3::mJ 75 8::mJ 76 3::mJ 77 8::iJ 78 1 76 77::lJ 79 78::mJ 80 4::mJ 81 7::fI 82 (.bsl 1 [.t 80,.t 81])::fI 83 (.bsl 1 [.t 82])::xJ 84 1 79 83::Q42) [1,3,4,7]) .skip
def Qa3r:SC:=sR [mJ 72 8,cJ 73 .geq 72 0] [1,3,4,7,8,73] Qa3q
def Qaxq:SC:=.reg [mJ 60 7,cJ 61 .add 60 1,mJ 7 61] [1,3,4,7]
def Qaxr:SC:=.seq (.block 5 (sR (fJ 62 2 1::lJ 63 62::mJ 64 4::iJ 65 5 63 64::fJ 66 1 65::lJ 67 66::mJ 68 7::iJ 69 4 67 68::tJ 70 4 69::aJ 71 Qin [.t 70]::Q41) [1,3,4,7,8] Qa3r)) Qaxq
def Qapw:SC:=.seq (sR [mJ 51 7,fJ 52 2 1,lJ 53 52,mJ 54 4,iJ 55 5 53 54,fJ 56 1 55,lJ 57 56,nJ 58 57,bJ 59 .lss 51 58] [1,3,4,7,59] (cT 59 .skip (.exit 4))) Qaxr
def Qaxs:SC:=sR [zJ 7 0] [1,3,4,7] (bL 4 Qapw)
def Qaxt:SC:=.reg [mJ 17 4,cJ 18 .add 17 1,mJ 4 18] [1,3,4]
def Qaxu:SC:=.seq (.block 1 (.seq (sR [zJ 5 0] [1,3,4,5] (bL 2 Qaxy)) Qaxs)) Qaxt
def Qapx:SC:=.seq (sR [mJ 12 4,fJ 13 2 1,lJ 14 13,nJ 15 14,bJ 16 .lss 12 15] [1,3,4,16] (cT 16 .skip (.exit 0))) Qaxu
def Qaxv:SC:=sR [mJ 86 3,mJ 2 86] [2] .ret
def Qaxw:SC:=.seq (sR [zJ 4 0] [1,3,4] (bL 0 Qapx)) Qaxv
def Qaxx:SC:=sR (fJ 9 1 1::lJ 10 9::eI 11 (.mks 1 [.sl true 1 []] (.t 10))::Q4z) [1,3] Qaxw
def Qbh2:SC:=sR [vJ 1 0,fI 2 (.mv (.k (.c (.sl true 1 []))))] [1] Qaxx
def Qas3:List RS:=[.tmp 2]
theorem Qbgd:mFn prog Q1b 1 87 Qbh2 Qas3=true:=by kernel_rfl
def Qzx:List Item:=[sJ 3 3 8]
def Qzy:List Item:=eI 3 (.alloc [.int .i64 0,.int .i64 0,.sl true 5 []])::Qzx
def Qzz:List Item:=[fI 11 (.fld 0 1 false (.t 10)),fI 12 (.iad 1 (.t 11) (kI 0)),lJ 13 12,mJ 4 13]
def Qz0:List Item:=[mJ 5 32]
def Qaw3:SC:=cT 26 (.reg (mJ 27 5::mJ 28 6::fI 29 (.bsl 1 [])::fI 30 (.bld [.int .i64 0,.int .i64 0,.sl true 1 [],.int .i64 0] [(0,1,kI 1),(1,1,.t 28),(2,1,.t 29)])::fI 31 (.bsl 4 [.t 30])::xJ 32 4 27 31::Qz0) [2,3,4,5,6]) .skip
def Qaw4:SC:=.reg [mJ 21 6,cJ 22 .add 21 1,mJ 6 22] [2,3,4,5,6]
def Qaw5:SC:=.seq (.block 1 (sR [mJ 23 4,mJ 24 6,iJ 25 1 23 24,lJ 26 25] [2,3,4,5,6,26] Qaw3)) Qaw4
def Qapr:SC:=.seq (sR [mJ 17 6,fJ 18 1 3,lJ 19 18,bJ 20 .lss 17 19] [2,3,4,5,6,20] (cT 20 .skip (.exit 0))) Qaw5
def Qz1:List Item:=[hJ 34 33,fI 42 (.iad 5 (.t 34) (kI 0)),fJ 43 1 42,sJ 1 43 41]
def Qaw6:SC:=sR [tJ 44 3 3,sJ 3 2 44] [2] .ret
def Qapm:SC:=.seq (.dreg 12 [0,1,2,3,4,5,6,7,8,1,9,10,11] ( fJ 33 2 3::lJ 34 33::mJ 35 5::fJ 36 2 3::lJ 37 36::fI 38 (.iad 5 (.t 37) (kI 0))::fJ 39 1 38::lJ 40 39::xJ 41 4 35 40::Qz1) [2,3]) Qaw6
def Qapn:SC:=.seq (sR [fJ 15 0 3,lJ 16 15,mJ 6 16] [2,3,4,5,6] (bL 0 Qapr)) Qapm
def Qapo:SC:=sR [fI 14 (.bsl 4 []),mJ 5 14] [2,3,4,5] Qapn
def Qapp:SC:=sR (tJ 9 3 3::aJ 10 Qtp [.t 9]::Qzz) [2,3,4] Qapo
def Qapq:SC:=sR (tJ 7 3 1::aJ 8 Qtl [.t 7]::Qzy) [2,3] Qapp
def Qbbu:SC:=sR [vJ 1 0,eI 2 (.alloc [.int .i64 0,.int .i64 0,.sl true 5 []])] [1,2] Qapq
def Qalu:List RS:=[.cell 2 3 true]
theorem Qba1:mFn prog Qwr 1 45 Qbbu Qalu=true:=by kernel_rfl
def Q4s:List Item:=[sJ 3 3 14]
def Q4t:List Item:=eI 3 (.alloc [.int .i64 0,.int .i64 0,.sl true 5 []])::Q4s
def Q4u:List Item:=[mJ 4 16]
def Q4v:List Item:=[sJ 2 5 18]
def Q4w:List Item:=eI 5 (.alloc [.sl true 1 [],.sl true 1 []])::Q4v
def Q4x:List Item:=[mJ 6 20]
def Qa3k:SC:=cT 32 (.reg [fI 33 (.bsl 1 [kI 0]),mJ 8 33] [1,2,3,4,5,6,7,8]) .skip
def Q4y:List Item:=[mJ 8 53]
def Qa3l:SC:=.reg [mJ 41 9,cJ 42 .add 41 1,mJ 9 42] [1,2,3,4,5,6,7,8,9]
def Qa3m:SC:=.seq (.block 3 (.reg (mJ 43 8::mJ 44 6::mJ 45 7::iJ 46 1 44 45::lJ 47 46::mJ 48 9::iJ 49 1 47 48::lJ 50 49::fI 51 (.iad 1 (.t 50) (kI 0))::lJ 52 51::aJ 53 Qev [.t 43,.t 52]::Q4y) [1,2,3,4,5,6,7,8,9])) Qa3l
def Qaps:SC:=.seq (sR [mJ 34 9,mJ 35 6,mJ 36 7,iJ 37 1 35 36,lJ 38 37,nJ 39 38,bJ 40 .lss 34 39] [1,2,3,4,5,6,7,8,9,40] (cT 40 .skip (.exit 2))) Qa3m
def Q0a:List Item:=[mJ 10 57]
def Q0b:List Item:=[sJ 2 12 78]
def Q0c:List Item:=[nJ 85 84]
def Q0d:List Item:=[fJ 93 1 12,sJ 1 93 92]
def Qaw7:SC:=.reg [cJ 94 .add 86 1,mJ 86 94] [1,2,3,4,5,6,7,10,11,12,85,86]
def Qaw8:SC:=.seq (.block 7 (.reg (fJ 88 1 12::lJ 89 88::mJ 90 7::fI 91 (.bsl 1 [.t 90])::xJ 92 1 89 91::Q0d) [1,2,3,4,5,6,7,10,11,12,85,86])) Qaw7
def Qapt:SC:=sR [bJ 87 .lss 86 85] [1,2,3,4,5,6,7,10,11,12,85,86,87] (cX 87 6 Qaw8)
def Q0e:List Item:=[hJ 96 95,.chk 99 none (.iad 1 (.t 97) (.t 98)),hJ 100 99,iJ 113 5 96 100,fJ 114 0 113,sJ 1 114 112]
def Q0f:List Item:=hJ 96 95::.chk 99 none (.iad 1 (.t 97) (.t 98))::hJ 100 99::hJ 104 103::.chk 107 none (.iad 1 (.t 105) (.t 106))::hJ 108 107::.chk 109 none (.iad 5 (.t 104) (.t 108))::hJ 111 110::xJ 112 2 102 111::Q0e
def Qaw9:SC:=.dreg 21 [0,1,2,3,4,5,6,8,9,10,11,12,13,14,15,16,7,1,4,5,9,12,13,14,16,17,1,4,5,18,19,20] ( fJ 95 2 3::lJ 96 95::mJ 97 10::mJ 98 11::iJ 99 1 97 98::lJ 100 99::tJ 101 2 12::fJ 103 2 3::lJ 104 103::mJ 105 10::mJ 106 11::iJ 107 1 105 106::lJ 108 107::iJ 109 5 104 108::fJ 110 0 109::lJ 111 110::eI 102 (.bslm 2 [.t 101])::Q0f) [1,2,3,4,5,6,7,10,11]
def Qaxa:SC:=.seq (.seq (.dreg 8 [0,1,2,3,4,7,5,6] ( tJ 79 3 1::mJ 80 10::mJ 81 11::iJ 82 1 80 81::lJ 83 82::zJ 86 0::aJ 84 Qci [.t 79,.t 83]::Q0c) [1,2,3,4,5,6,7,10,11,12,85,86]) (bL 6 Qapt)) Qaw9
def Qaxb:SC:=sR (mJ 76 7::fI 77 (.bsl 1 [])::fI 78 (.bld [.int .i64 0,.sl true 1 []] [(0,1,.t 76),(1,1,.t 77)])::eI 12 (.alloc [.int .i64 0,.sl true 1 []])::Q0b) [1,2,3,4,5,6,7,10,11,12] Qaxa
def Qaxc:SC:=.reg [mJ 62 11,cJ 63 .add 62 1,mJ 11 63] [1,2,3,4,5,6,7,10,11]
def Qaxd:SC:=.seq (.block 5 (.seq (.seq (.dreg 12 [0,1,2,3,4,5,6,7,8,9,10,11] ( fJ 64 0 5::lJ 65 64::mJ 66 10::mJ 67 11::iJ 68 1 66 67::lJ 69 68::iJ 70 1 65 69::lJ 71 70::mJ 72 7::iJ 73 1 71 72::lJ 74 73::oJ 75 74::[]) [1,2,3,4,5,6,7,10,11,75]) (cT 75 (.exit 5) .skip)) Qaxb)) Qaxc
def Qapu:SC:=.seq (sR [mJ 58 11,mJ 59 10,nJ 60 59,bJ 61 .lss 58 60] [1,2,3,4,5,6,7,10,11,61] (cT 61 .skip (.exit 4))) Qaxd
def Qaxe:SC:=sR [zJ 11 0] [1,2,3,4,5,6,7,10,11] (bL 4 Qapu)
def Qaxf:SC:=sR (tJ 54 3 1::mJ 55 4::mJ 56 8::aJ 57 Qhl [.t 54,.t 55,.t 56]::Q0a) [1,2,3,4,5,6,7,10] Qaxe
def Qaxg:SC:=.seq (sR [zJ 9 0] [1,2,3,4,5,6,7,8,9] (bL 2 Qaps)) Qaxf
def Qaxh:SC:=.seq (sR [mJ 29 7,fJ 30 0 1,lJ 31 30,bJ 32 .lss 29 31] [1,2,3,4,5,6,7,8,32] Qa3k) Qaxg
def Qaxi:SC:=.reg [mJ 26 7,cJ 27 .sub 26 1,mJ 7 27] [1,2,3,4,5,6,7]
def Qaxj:SC:=.seq (.block 1 (sR [fI 28 (.bsl 1 []),mJ 8 28] [1,2,3,4,5,6,7,8] Qaxh)) Qaxi
def Qapv:SC:=.seq (sR [mJ 24 7,cJ 25 .geq 24 0] [1,2,3,4,5,6,7,25] (cT 25 .skip (.exit 0))) Qaxj
def Qaxk:SC:=sR [tJ 115 3 3,sJ 3 2 115] [2] .ret
def Qaxl:SC:=.seq (sR [fJ 21 1 1,lJ 22 21,cJ 23 .sub 22 1,mJ 7 23] [1,2,3,4,5,6,7] (bL 0 Qapv)) Qaxk
def Qaxm:SC:=sR (tJ 19 3 1::aJ 20 Q1b [.t 19]::Q4x) [1,2,3,4,5,6] Qaxl
def Qaxn:SC:=sR (tJ 17 3 1::aJ 18 Qtp [.t 17]::Q4w) [1,2,3,4,5] Qaxm
def Qaxo:SC:=sR (tJ 15 3 1::aJ 16 Qto [.t 15]::Q4u) [1,2,3,4] Qaxn
def Qaxp:SC:=sR (tJ 13 3 1::aJ 14 Qfl [.t 13]::Q4t) [1,2,3] Qaxo
def Qbh1:SC:=sR [vJ 1 0,eI 2 (.alloc [.int .i64 0,.int .i64 0,.sl true 5 []])] [1,2] Qaxp
def Qas2:List RS:=[.cell 2 3 true]
theorem Qbgc:mFn prog Q1a 1 116 Qbh1 Qas2=true:=by kernel_rfl
def Qz8:SC:=sR [mJ 11 0,kJ 12 11,fJ 13 7 12,lJ 14 13,cJ 15 .sub 14 1,mJ 2 15] [2] .ret
def Qz9:SC:=sR [mJ 3 0,mJ 4 0,kJ 5 4,fJ 6 7 5,lJ 7 6,cJ 8 .add 7 1,kJ 9 3,fJ 10 7 9,sJ 1 10 8] [0] Qz8
def Q7t:SC:=sR [zJ 2 0] [0] Qz9
def Qm2:List RS:=[.tmp 2]
theorem Q6p:mFn prog Qcw 1 16 Q7t Qm2=true:=by kernel_rfl
def Qh9:List Item:=[hJ 37 36,iJ 41 2 37 38,fJ 42 0 41,sJ 1 42 40]
def Qz2:SC:=.reg [mJ 32 7,cJ 33 .add 32 1,mJ 7 33] [0,1,2,6,7]
def Qz3:SC:=.seq (.block 1 (.dreg 10 [0,1,2,3,4,5,6,3,7,8,9] ( mJ 34 6::kJ 35 34::fJ 36 0 35::lJ 37 36::mJ 38 7::mJ 39 0::aJ 40 Qcw [.t 39]::Qh9) [0,1,2,6,7])) Qz2
def Qxo:SC:=.seq (sR [mJ 25 7,mJ 26 6,kJ 27 26,fJ 28 0 27,lJ 29 28,nJ 30 29,bJ 31 .lss 25 30] [0,1,2,6,7,31] (cT 31 .skip (.exit 0))) Qz3
def Qz4:SC:=.reg [mJ 50 8,cJ 51 .add 50 1,mJ 8 51] [0,1,2,6,8]
def Qz5:SC:=.seq (.block 3 (.dreg 24 [0,1,2,3,4,5,6,7,8,9,10,11,12,13,14,15,16,17,18,19,20,21,22,23] ( mJ 52 2::mJ 53 0::kJ 54 53::fJ 55 0 54::fJ 56 2 55::lJ 57 56::mJ 58 1::iJ 59 5 57 58::fJ 60 0 59::lJ 61 60::mJ 62 8::iJ 63 2 61 62::fJ 64 0 63::lJ 65 64::mJ 66 6::kJ 67 66::fJ 68 0 67::lJ 69 68::mJ 70 8::iJ 71 2 69 70::fJ 72 0 71::lJ 73 72::iJ 74 1 52 65::sJ 1 74 73::[]) [0,1,2,6,8])) Qz4
def Qxp:SC:=.seq (sR [mJ 43 8,mJ 44 6,kJ 45 44,fJ 46 0 45,lJ 47 46,nJ 48 47,bJ 49 .lss 43 48] [0,1,2,6,8,49] (cT 49 .skip (.exit 2))) Qz5
def Qz6:SC:=.reg [mJ 95 10,cJ 96 .add 95 1,mJ 10 96] [0,1,2,6,9,10]
def Qz7:SC:=.seq (.block 7 (.dreg 25 [0,1,2,3,4,5,6,7,8,9,10,11,12,13,14,15,16,17,18,19,20,21,22,23,24] ( mJ 97 6::kJ 98 97::fJ 99 1 98::lJ 100 99::mJ 101 9::iJ 102 4 100 101::fJ 103 2 102::lJ 104 103::mJ 105 10::mJ 106 2::mJ 107 6::kJ 108 107::fJ 109 1 108::lJ 110 109::mJ 111 9::iJ 112 4 110 111::fJ 113 2 112::lJ 114 113::mJ 115 10::iJ 116 1 114 115::lJ 117 116::iJ 118 1 106 117::lJ 119 118::iJ 120 1 104 105::sJ 1 120 119::[]) [0,1,2,6,9,10])) Qz6
def Qxq:SC:=.seq (sR [mJ 84 10,mJ 85 6,kJ 86 85,fJ 87 1 86,lJ 88 87,mJ 89 9,iJ 90 4 88 89,fJ 91 2 90,lJ 92 91,nJ 93 92,bJ 94 .lss 84 93] [0,1,2,6,9,10,94] (cT 94 .skip (.exit 6))) Qz7
def Qgk:List Item:=[mJ 11 131]
def Qw8:SC:=.reg [mJ 143 6,kJ 144 143,fJ 145 1 144,lJ 146 145,mJ 147 9,mJ 148 11,iJ 149 4 146 147,fJ 150 1 149,sJ 1 150 148] [0,1,2,6,9]
def Qw9:SC:=sR [mJ 132 2,mJ 133 6,kJ 134 133,fJ 135 1 134,lJ 136 135,mJ 137 9,iJ 138 4 136 137,fJ 139 1 138,lJ 140 139,mJ 141 11,iJ 142 1 132 140,sJ 1 142 141] [0,1,2,6,9,11] Qw8
def Qxa:SC:=cT 129 (sR (mJ 130 0::aJ 131 Qcw [.t 130]::Qgk) [0,1,2,6,9,11] Qw9) .skip
def Qxb:SC:=sR [mJ 121 6,kJ 122 121,fJ 123 1 122,lJ 124 123,mJ 125 9,iJ 126 4 124 125,fJ 127 0 126,lJ 128 127,aJ 129 Qew [.t 128]] [0,1,2,6,9,129] Qxa
def Qxc:SC:=.reg [mJ 82 9,cJ 83 .add 82 1,mJ 9 83] [0,1,2,6,9]
def Qxd:SC:=.seq (.block 5 (.seq (sR [zJ 10 0] [0,1,2,6,9,10] (bL 6 Qxq)) Qxb)) Qxc
def Qur:SC:=.seq (sR [mJ 75 9,mJ 76 6,kJ 77 76,fJ 78 1 77,lJ 79 78,nJ 80 79,bJ 81 .lss 75 80] [0,1,2,6,9,81] (cT 81 .skip (.exit 4))) Qxd
def Qxe:SC:=cT 155 (.reg [mJ 156 6,mJ 157 2,mJ 158 6,kJ 159 158,fJ 160 3 159,lJ 161 160,iJ 162 1 157 161,lJ 163 162,kJ 164 156,fJ 165 3 164,sJ 1 165 163] [0,1,2,6]) .skip
def Qgl:List Item:=[mJ 14 189]
def Qgm:List Item:=mJ 188 1::aJ 189 Qtj [.t 187,.t 188]::Qgl
def Qxf:SC:=.reg [mJ 202 15,cJ 203 .add 202 1,mJ 15 203] [0,1,2,6,12,13,14,15]
def Qxg:SC:=.seq (.block 11 (.dreg 35 [0,1,2,3,4,5,6,7,8,9,10,11,12,13,14,15,16,17,18,19,20,21,22,23,24,25,26,27,28,29,30,31,32,33,34] ( mJ 204 0::kJ 205 204::fJ 206 3 205::fJ 207 2 206::lJ 208 207::mJ 209 13::iJ 210 5 208 209::fJ 211 0 210::lJ 212 211::mJ 213 15::iJ 214 2 212 213::fJ 215 1 214::lJ 216 215::mJ 217 14::mJ 218 2::mJ 219 0::kJ 220 219::fJ 221 0 220::fJ 222 2 221::lJ 223 222::mJ 224 13::iJ 225 5 223 224::fJ 226 0 225::lJ 227 226::mJ 228 15::iJ 229 2 227 228::fJ 230 1 229::lJ 231 230::mJ 232 14::iJ 233 1 231 232::lJ 234 233::iJ 235 1 218 234::lJ 236 235::iJ 237 1 216 217::sJ 1 237 236::[]) [0,1,2,6,12,13,14,15])) Qxf
def Qus:SC:=.seq (sR [mJ 190 15,mJ 191 0,kJ 192 191,fJ 193 0 192,fJ 194 2 193,lJ 195 194,mJ 196 13,iJ 197 5 195 196,fJ 198 0 197,lJ 199 198,nJ 200 199,bJ 201 .lss 190 200] [0,1,2,6,12,13,14,15,201] (cT 201 .skip (.exit 10))) Qxg
def Qxh:SC:=sR [zJ 15 0] [0,1,2,6,12,13,14,15] (bL 10 Qus)
def Qxi:SC:=sR (mJ 182 0::kJ 183 182::fJ 184 0 183::tJ 185 3 184::mJ 186 13::aJ 187 Qci [.t 185,.t 186]::Qgm) [0,1,2,6,12,13,14] Qxh
def Qxj:SC:=.reg [mJ 173 12,cJ 174 .add 173 1,mJ 12 174] [0,1,2,6,12]
def Qxk:SC:=.seq (.block 9 (sR [mJ 175 6,kJ 176 175,fJ 177 4 176,lJ 178 177,mJ 179 12,iJ 180 1 178 179,lJ 181 180,mJ 13 181] [0,1,2,6,12,13] Qxi)) Qxj
def Qut:SC:=.seq (sR [mJ 166 12,mJ 167 6,kJ 168 167,fJ 169 4 168,lJ 170 169,nJ 171 170,bJ 172 .lss 166 171] [0,1,2,6,12,172] (cT 172 .skip (.exit 8))) Qxk
def Qgn:List Item:=[mJ 16 243]
def Qgo:List Item:=[.chk 253 none (.iad 1 (.t 251) (.t 252)),hJ 254 253,aJ 258 Qcv [.t 250,.t 254,.t 257]]
def Qxl:SC:=.reg [mJ 248 17,cJ 249 .add 248 1,mJ 17 249] [0,2,16,17]
def Qxm:SC:=.seq (.block 13 (.dreg 9 [0,1,2,3,4,5,6,7,3,4,8] ( mJ 250 0::mJ 251 16::mJ 252 17::iJ 253 1 251 252::lJ 254 253::fI 255 (.bsl 1 [])::mJ 256 2::xJ 257 1 255 256::Qgo) [0,2,16,17])) Qxl
def Quu:SC:=.seq (sR [mJ 244 17,mJ 245 16,nJ 246 245,bJ 247 .lss 244 246] [0,2,16,17,247] (cT 247 .skip (.exit 12))) Qxm
def Qxn:SC:=sR [zJ 17 0] [0,2,16,17] (bL 12 Quu)
def Qh7:SC:=sR (mJ 238 0::kJ 239 238::fJ 240 6 239::lJ 241 240::mJ 242 1::aJ 243 Q06 [.t 241,.t 242]::Qgn) [0,2,16] Qxn
def Qdm:SC:=.seq (sR [zJ 12 0] [0,1,2,6,12] (bL 8 Qut)) Qh7
def Qdn:SC:=.seq (sR [mJ 151 6,kJ 152 151,fJ 153 2 152,lJ 154 153,cJ 155 .neq 154 1] [0,1,2,6,155] Qxe) Qdm
def Qdo:SC:=.seq (sR [zJ 9 0] [0,1,2,6,9] (bL 4 Qur)) Qdn
def Qdp:SC:=.seq (sR [zJ 8 0] [0,1,2,6,8] (bL 2 Qxp)) Qdo
def Qh8:SC:=.seq (sR [zJ 7 0] [0,1,2,6,7] (bL 0 Qxo)) Qdp
def Q7s:SC:=sR [mJ 18 0,kJ 19 18,fJ 20 3 19,fJ 21 2 20,lJ 22 21,mJ 23 1,iJ 24 5 22 23,mJ 6 24] [0,1,2,6] Qh8
def Qm1:List RS:=[]
theorem Q6o:mFn prog Qcv 3 259 Q7s Qm1=true:=by kernel_rfl
def Qvx:List Item:=[sJ 3 3 9]
def Qvy:List Item:=eI 3 (.alloc [.int .i64 0,.int .i64 0,.sl true 5 []])::Qvx
def Qvz:List Item:=aJ 9 Q1a [.t 8]::Qvy
def Qv0:List Item:=[mJ 4 19]
def Qv1:List Item:=.chk 10 none (.ld 3 true (.t 3))::hJ 17 16::fI 18 (.bld [.int .i64 0,.int .i64 0,.sl true 5 [],.int .i64 0,.int .i64 0,.sl true 5 [],.sl true 1 [],.int .i64 0] [(0,3,.t 10),(3,3,.t 12),(6,1,.t 15),(7,1,.t 17)])::eI 19 (.boxm (.t 18))::Qv0
def Qv2:List Item:=.chk 10 none (.ld 3 true (.t 3))::hJ 17 16::aJ 15 Qwq [.t 14]::Qv1
def Qv3:List Item:=.chk 10 none (.ld 3 true (.t 3))::.chk 13 none (.ld 3 true (.t 3))::hJ 17 16::aJ 14 Qto [.t 13]::Qv2
def Qv4:List Item:=[mJ 5 22]
def Qapy:SC:=.reg [mJ 27 6,cJ 28 .add 27 1,mJ 6 28] [1,2,4,5,6]
def Qapz:SC:=.seq (.block 1 (.reg [mJ 29 5,mJ 30 6,mJ 31 6,iJ 32 1 29 30,sJ 1 32 31] [1,2,4,5,6])) Qapy
def Qach:SC:=.seq (sR [mJ 23 6,fJ 24 0 1,lJ 25 24,bJ 26 .lss 23 25] [1,2,4,5,6,26] (cT 26 .skip (.exit 0))) Qapz
def Qaja:SC:=sR [mJ 44 4,kJ 45 44,fJ 46 3 45,tJ 47 3 46,sJ 3 2 47] [2] .ret
def Qajb:SC:=sR [mJ 36 4,mJ 37 4,kJ 38 37,fJ 39 7 38,lJ 40 39,kJ 41 36,fJ 42 3 41,fJ 43 1 42,sJ 1 43 40] [2,4] Qaja
def Qajc:SC:=sR [mJ 33 4,mJ 34 5,aJ 35 Qcv [.t 33,kI 0,.t 34]] [2,4] Qajb
def Qajd:SC:=.seq (sR [zJ 6 0] [1,2,4,5,6] (bL 0 Qach)) Qajc
def Qaje:SC:=sR (fJ 20 1 3::lJ 21 20::eI 22 (.mks 1 [.int .i64 0] (.t 21))::Qv4) [1,2,4,5] Qajd
def Qajf:SC:=.seq (.dreg 11 [0,1,3,6,7,2,0,3,7,4,0,7,5,0,7,8,9,10] ( tJ 10 3 3::tJ 11 3 3::tJ 13 3 3::fJ 16 0 1::lJ 17 16::aJ 12 Qfl [.t 11]::Qv3) [1,2,3,4]) Qaje
def Qajg:SC:=sR (tJ 7 3 1::aJ 8 Qwr [.t 7]::Qvz) [1,2,3] Qajf
def Qa3s:SC:=sR [vJ 1 0,eI 2 (.alloc [.int .i64 0,.int .i64 0,.sl true 5 []])] [1,2] Qajg
def Qaa1:List RS:=[.cell 2 3 true]
theorem Qa1i:mFn prog Qo8 1 48 Qa3s Qaa1=true:=by kernel_rfl
def Qave:List Item:=[sJ 3 4 9]
def Qavf:List Item:=[sJ 3 4 15]
def Qavg:List Item:=.chk 12 none (.ld 3 true (.t 2))::aJ 15 Qtm [.t 12,.t 14]::Qavf
def Qavh:List Item:=[sJ 3 4 19]
def Qavi:List Item:=[sJ 3 4 23]
def Q30:List Item:=[sJ 3 4 27]
def Qavj:List Item:=[sJ 3 4 31]
def Qavk:List Item:=[sJ 3 4 35]
def Qavl:List Item:=[sJ 3 4 39]
def Q31:List Item:=[sJ 3 4 43]
def Qaoz:List Item:=[sJ 3 4 47]
def Qao0:List Item:=[sJ 3 4 51]
def Qau0:SC:=cT 48 (sR (tJ 50 3 2::aJ 51 Qbah [.t 50]::Qao0) [4] .ret) .skip
def Qau1:SC:=cT 44 (sR (tJ 46 3 2::aJ 47 Qbai [.t 46]::Qaoz) [4] .ret) (sR [fI 49 (.bin 0 .eql (.t 5) (.k (.c (.str [106,111,105,110])))),mJ 48 49] [2,4,48] Qau0)
def Qau2:SC:=cT 40 (sR (tJ 42 3 2::aJ 43 Q1d [.t 42]::Q31) [4] .ret) (sR [fI 45 (.bin 0 .eql (.t 5) (.k (.c (.str [115,107,105,112])))),mJ 44 45] [2,4,5,44] Qau1)
def Qau3:SC:=cT 36 (sR (tJ 38 3 2::aJ 39 Qa0y [.t 38]::Qavl) [4] .ret) (sR [fI 41 (.bin 0 .eql (.t 5) (.k (.c (.str [101,118,101,110])))),mJ 40 41] [2,4,5,40] Qau2)
def Qau4:SC:=cT 32 (sR (tJ 34 3 2::aJ 35 Qa0x [.t 34]::Qavk) [4] .ret) (sR [fI 37 (.bin 0 .eql (.t 5) (.k (.c (.str [104,111,105,115,116])))),mJ 36 37] [2,4,5,36] Qau3)
def Qau5:SC:=cT 28 (sR (tJ 30 3 2::aJ 31 Qbey [.t 30]::Qavj) [4] .ret) (sR [fI 33 (.bin 0 .eql (.t 5) (.k (.c (.str [115,104,97,114,101])))),mJ 32 33] [2,4,5,32] Qau4)
def Qau6:SC:=cT 24 (sR (tJ 26 3 2::aJ 27 Qo8 [.t 26]::Q30) [4] .ret) (sR [fI 29 (.bin 0 .eql (.t 5) (.k (.c (.str [107,110,111,119,110])))),mJ 28 29] [2,4,5,28] Qau5)
def Qau7:SC:=cT 20 (sR (tJ 22 3 2::aJ 23 Qbag [.t 22]::Qavi) [4] .ret) (sR [fI 25 (.bin 0 .eql (.t 5) (.k (.c (.str [115,105,110,103,108,101])))),mJ 24 25] [2,4,5,24] Qau6)
def Qau8:SC:=cT 16 (sR (tJ 18 3 2::aJ 19 Qa0w [.t 18]::Qavh) [4] .ret) (sR [fI 21 (.bin 0 .eql (.t 5) (.k (.c (.str [105,100,108,101])))),mJ 20 21] [2,4,5,20] Qau7)
def Qau9:SC:=cT 10 (.seq (.dreg 5 [0,1,2,0,3,4] ( tJ 12 3 2::tJ 13 3 2::aJ 14 Qhk [.t 13]::Qavg) [4]) .ret) (sR [fI 17 (.bin 0 .eql (.t 5) (.k (.c (.str [115,112,108,105,116])))),mJ 16 17] [2,4,5,16] Qau8)
def Qava:SC:=cT 6 (sR (tJ 8 3 2::aJ 9 Qtl [.t 8]::Qave) [4] .ret) (sR [fI 11 (.bin 0 .eql (.t 5) (.k (.c (.str [111,114,100,101,114])))),mJ 10 11] [2,4,5,10] Qau9)
def Qavb:SC:=.block 0 (sR [fI 7 (.bin 0 .eql (.t 5) (.k (.c (.str [114,101,97,99,104])))),mJ 6 7] [2,4,5,6] Qava)
def Qao1:List Item:=[sJ 3 4 53]
def Qavc:SC:=sR (tJ 52 3 2::aJ 53 Qa0z [.t 52]::Qao1) [4] .ret
def Qavd:SC:=.seq (sR [mJ 5 1] [2,4,5] Qavb) Qavc
def Qbht:SC:=sR [vJ 2 0,eI 4 (.alloc [.int .i64 0,.int .i64 0,.sl true 5 []])] [1,2,4] Qavd
def Qaax:List RS:=[.cell 4 3 true]
theorem Qase:mFn prog Qj4 2 54 Qbht Qaax=true:=by kernel_rfl
def Qrs:List Item:=[fB 5 false]
def Qrt:List Item:=[oJ 10 9]
def Qru:List Item:=[fB 5 false]
def Qa2a:SC:=cT 10 (sR (fI 11 (.bld [.sl true 3 []] [])::sJ 1 4 11::Qru) [4,5] .ret) .skip
def Qrv:List Item:=[sJ 1 6 12]
def Qrw:List Item:=[fJ 31 0 6,sJ 1 31 30]
def Qrx:List Item:=hJ 21 20::fI 29 (.bsl 3 [.t 28])::xJ 30 3 21 29::Qrw
def Qa2b:SC:=.reg [mJ 18 7,cJ 19 .add 18 1,mJ 7 19] [1,2,4,6,7]
def Qa2c:SC:=.seq (.block 1 (.dreg 13 [0,1,2,3,4,5,6,7,8,1,9,10,11,12] ( fJ 20 0 6::lJ 21 20::fJ 22 0 2::lJ 23 22::mJ 24 7::iJ 25 3 23 24::tJ 26 3 25::mJ 27 1::aJ 28 Qj4 [.t 26,.t 27]::Qrx) [1,2,4,6,7])) Qa2b
def Qat3:SC:=.seq (sR [mJ 13 7,fJ 14 0 2,lJ 15 14,nJ 16 15,bJ 17 .lss 13 16] [1,2,4,6,7,17] (cT 17 .skip (.exit 0))) Qa2c
def Qmm:List Item:=[oJ 34 33]
def Qmn:List Item:=[fB 5 false]
def Qatx:SC:=cT 34 (sR (fI 35 (.bld [.sl true 3 []] [])::sJ 1 4 35::Qmn) [4,5] .ret) .skip
def Qmo:List Item:=[fB 5 true]
def Qaty:SC:=sR (tJ 36 1 6::sJ 1 4 36::Qmo) [4,5] .ret
def Qatz:SC:=.seq .gh (.seq (sR (tJ 32 1 6::aJ 33 Qb6 [.t 32]::Qmm) [4,6,34] Qatx) Qaty)
def Qat0:SC:=.seq (sR [zJ 7 0] [1,2,4,6,7] (bL 0 Qat3)) Qatz
def Qat1:SC:=sR (fI 12 (.bld [.sl true 3 []] [])::eI 6 (.alloc [.sl true 3 []])::Qrv) [1,2,4,6] Qat0
def Qat2:SC:=.seq (sR (tJ 8 1 2::aJ 9 Qb6 [.t 8]::Qrt) [1,2,4,10] Qa2a) Qat1
def Qbhq:SC:=sR (vJ 2 0::eI 4 (.alloc [.sl true 3 []])::Qrs) [1,2,4] Qat2
def Qhx:List RS:=[.cell 4 1 true,.tmp 5]
theorem Qasd:mFn prog Qj3 2 37 Qbhq Qhx=true:=by kernel_rfl
def Qi7:List Item:=[fB 3 false]
def Qi8:List Item:=[mJ 3 7]
def Qi9:List Item:=fI 6 (.ext (.t 5) 0)::fI 7 (.ext (.t 5) 1)::sJ 1 2 6::Qi8
def Q2x:SC:=sR (tJ 4 1 1::eI 5 (.call Qj3 [.t 4,.k (.c (.str [115,105,110,103,108,101]))])::Qi9) [2,3] .ret
def Qagu:SC:=sR (vJ 1 0::eI 2 (.alloc [.sl true 3 []])::Qi7) [1,2] Q2x
def Qpv:List RS:=[.cell 2 1 true,.tmp 3]
theorem Qaai:mFn prog Qf7 1 8 Qagu Qpv=true:=by kernel_rfl
def Q4o:List Item:=[mJ 4 10]
def Q4p:List Item:=sJ 1 3 9::Q4o
def Q4q:List Item:=mJ 5 8::fI 9 (.ext (.t 5) 0)::fI 10 (.ext (.t 5) 1)::eI 3 (.alloc [.sl true 3 []])::Q4p
def Q4r:List Item:=aJ 8 Qf7 [.t 7]::Q4q
def Qa3g:SC:=cT 12 (sR [fI 13 (.bsl 1 []),fI 14 (.bld [.int .i64 0,.int .i64 0,.sl true 1 [],.int .i64 0] [(0,1,kI 1),(2,1,.t 13)]),fI 15 (.bsl 4 [.t 14]),fI 16 (.bld [.sl true 2 [],.sl true 4 [],.int .i64 0,.int .i64 0,.sl true 1 []] [(1,1,.t 15),(2,1,kI 3)]),fI 17 (.bsl 5 [.t 16]),fI 18 (.bld [.int .i64 0,.int .i64 0,.sl true 5 []] [(1,1,kI 1),(2,1,.t 17)]),fI 19 (.bsl 3 [.t 18]),fI 20 (.bld [.sl true 3 []] [(0,1,.t 19)]),sJ 1 2 20] [2] .ret) .skip
def Qa3h:SC:=sR [tJ 21 1 3,sJ 1 2 21] [2] .ret
def Qa3i:SC:=.seq (sR [mJ 11 4,oJ 12 11] [2,3,12] Qa3g) Qa3h
def Qa3j:SC:=sR (mJ 6 0::aJ 7 Qtn [.t 6]::Q4r) [2,3,4] Qa3i
def Qbh0:SC:=sR [eI 2 (.alloc [.sl true 3 []])] [0,2] Qa3j
def Qaa0:List RS:=[.cell 2 1 true]
theorem Qbgb:mFn prog Q09 1 22 Qbh0 Qaa0=true:=by kernel_rfl
def Q4l:List Item:=[cJ 5 .eql 4 0]
def Q4m:List Item:=[sJ 1 2 7]
def Qa3d:SC:=cT 5 (sR (mJ 6 0::aJ 7 Qtk [.t 6]::Q4m) [2] .ret) .skip
def Q4n:List Item:=[sJ 1 2 9]
def Qa3e:SC:=sR (mJ 8 0::aJ 9 Q09 [.t 8]::Q4n) [2] .ret
def Qa3f:SC:=.seq (sR (mJ 3 0::aJ 4 Qt [.t 3,kI 8]::Q4l) [0,2,5] Qa3d) Qa3e
def Qbhz:SC:=sR [eI 2 (.alloc [.sl true 3 []])] [0,2] Qa3f
def Qaaz:List RS:=[.cell 2 1 true]
theorem Qbga:mFn prog Q08 1 10 Qbhz Qaaz=true:=by kernel_rfl
def Q43:List Item:=[mJ 3 5]
def Q44:List Item:=[cJ 8 .eql 7 0]
def Q45:List Item:=[sJ 1 2 10]
def Qa3t:SC:=cT 8 (sR (mJ 9 3::aJ 10 Q08 [.t 9]::Q45) [2] .ret) .skip
def Q46:List Item:=[sJ 1 2 12]
def Qa3u:SC:=sR (mJ 11 3::aJ 12 Qtk [.t 11]::Q46) [2] .ret
def Qa3v:SC:=.seq (sR (mJ 6 3::aJ 7 Qt [.t 6,kI 2]::Q44) [2,3,8] Qa3t) Qa3u
def Qa3w:SC:=sR (mJ 4 0::aJ 5 Q1g [.t 4]::Q43) [2,3] Qa3v
def Qbh3:SC:=sR [eI 2 (.alloc [.sl true 3 []])] [0,2] Qa3w
def Qaa2:List RS:=[.cell 2 1 true]
theorem Qbge:mFn prog Q1c 1 13 Qbh3 Qaa2=true:=by kernel_rfl
end Go.AE.Y
namespace Go.AE.Y
attribute [local instance] Classical.propDecidable
variable {g:Nat→List Nat}{n:Nat}
theorem Qa8i {a b:Nat}:Q6j g a b=true↔Qvh g (-1) a=true∧Qvh g (-1) b=true∧¬Rch g (fun z=>(z:Int)=a) 0 b:=by
 simp only[Q6j,Jp,Ja8,and_assoc];refine and_congr_right fun _=>and_congr_right fun _=>?_;rw[←Bool.not_eq_true,rchB_iff]
theorem Rch.via {A:Nat→Prop}{a b:Nat}(h:Rch g A 0 b)(hn:¬Rch g (fun z=>(z:Int)=a) 0 b):Rch g A 0 a:=by
 induction h with
 |refl h=>
  by_cases ha:0=a
  ·subst ha;exact .refl h
  ·exact absurd (Rch.refl fun hh=>ha (by omega)) hn
 |@step y z h1 h2 h3 ih=>
  by_cases hy:Rch g (fun z=>(z:Int)=a) 0 y
  ·by_cases ha:z=a
   ·subst ha;exact .step h1 h2 h3
   ·exact absurd (Rch.step hy h2 fun hh=>ha (by omega)) hn
  ·exact ih hy
theorem Qbaa {x a b:Nat}(h1:Q6j g x a=true)(h2:Q6j g a b=true):Q6j g x b=true:=by
 rw[Qa8i]at *;exact⟨h1.1,h2.2.1,fun h=>h1.2.2 (h.via h2.2.2)⟩
theorem Rch.two {A:Nat→Prop}{a b z:Nat}(hab:a≠b)(h:Rch g A 0 z):Rch g (fun w=>w=a∨w=b) 0 z∨Rch g (fun w=>(w:Int)=b) 0 a∨Rch g (fun w=>(w:Int)=a) 0 b:=by
 induction h with
 |refl _=>
  by_cases ha:0=a
  ·subst ha;exact .inr (.inl (.refl fun hh=>hab (by omega)))
  ·by_cases hb:0=b
   ·subst hb;exact .inr (.inr (.refl fun hh=>hab (by omega)))
   ·exact .inl (.refl fun hh=>hh.elim ha hb)
 |@step y z h1 h2 h3 ih=>
  rcases ih with h|h
  ·by_cases ha:z=a
   ·subst ha;exact .inr (.inl (.step (h.mono fun w hw=>.inr (by omega)) h2 fun hh=>hab (by omega)))
   ·by_cases hb:z=b
    ·subst hb;exact .inr (.inr (.step (h.mono fun w hw=>.inl (by omega)) h2 fun hh=>hab (by omega)))
    ·exact .inl (.step h h2 fun hh=>hh.elim ha hb)
  ·exact .inr h
theorem Qbeg {a b:Nat}(h1:Q6j g a b=true)(h2:Q6j g b a=true):a=b:=by
 by_cases hab:a=b
 ·exact hab
 rw[Qa8i]at *;rcases (rchB_iff.1 h1.1).two hab with h|h|h
 ·exact absurd (.inl rfl) h.snd
 ·exact absurd h h2.2.2
 ·exact absurd h h1.2.2
noncomputable def depL (n:Nat)(g:Nat→List Nat)(b:Nat):Nat:=((List.range n).filter fun a=>Q6j g a b).length
theorem Qbew {α:Type}{p q:α→Bool}{l:List α}(h:∀x∈l,p x=true→q x=true){y:α}(hy:y∈l)(hq:q y=true)(hp:p y=false):(l.filter p).length<(l.filter q).length:=by
 have le:∀(l:List α),(∀x∈l,p x=true→q x=true)→(l.filter p).length≤(l.filter q).length:=fun l=>by
  induction l with
  |nil=>intro _;simp
  |cons x l ih=>
   intro h;have h1:=ih fun z hz=>h z (Jk _ hz);have h2:=h x Jm
   cases hpx:p x with
   |false=>cases hqx:q x <;> simp[hpx,hqx] <;> omega
   |true=>have:=h2 hpx;simp[hpx,this];omega
 induction l with
 |nil=>simp at hy
 |cons x l ih=>
  have h2:=h x Jm;have h3:=le l fun z hz=>h z (Jk _ hz);rcases J5.1 hy with rfl|hy
  ·simp[hq,hp];omega
  ·have h1:=ih (fun z hz=>h z (Jk _ hz)) hy
   cases hpx:p x with
   |false=>cases hqx:q x <;> simp[hpx,hqx] <;> omega
   |true=>have:=h2 hpx;simp[hpx,this];omega
theorem Qbo4 {a b:Nat}(hb:b<n)(h:Q6j g a b=true)(hab:a≠b):depL n g a<depL n g b:=by
 refine Qbew (fun x _ hx=>Qbaa hx h) (y:=b) (Jae.2 hb) ?_ ?_
 ·rw[Qbeh];exact (Qbo6 h).2
 ·cases hc:Q6j g b a with
  |false=>rfl
  |true=>exact absurd (Qbeg h hc) hab
def Tree (n:Nat)(ids:List Int)(dp:Nat→Nat):Prop:=ids.length=n∧∀b,b<n→ids.getD b 0=-1∨∃a:Nat,ids.getD b 0=a∧a<n∧dp a<dp b
inductive Sub (ids:List Int)(b:Nat):Nat→Prop
 |refl:Sub ids b b
 |step {y x:Nat}:Sub ids b y→x<ids.length→ids.getD x 0=(y:Int)→Sub ids b x
variable {ids:List Int}{dp:Nat→Nat}
def Qt1 (ids:List Int)(b:Nat):List Nat:=(List.range ids.length).filter fun i=>decide (ids.getD i 0=(b:Int))
theorem kidsL_mem {b k:Nat}:k∈Qt1 ids b↔k<ids.length∧ids.getD k 0=(b:Int):=by simp[Qt1]
theorem Tree.up (t:Tree n ids dp){b k:Nat}(hk:k<ids.length)(h:ids.getD k 0=(b:Int)):b<n∧dp b<dp k:=by
 have hk':k<n:=by rw[←t.1];exact hk
 rcases t.2 k hk' with h1|⟨a,h1,h2,h3⟩
 ·omega
 ·have:a=b:=by omega
  subst this;exact⟨h2,h3⟩
theorem Sub.dep (t:Tree n ids dp){b x:Nat}(h:Sub ids b x):x=b∨dp b<dp x:=by
 induction h with
 |refl=>exact .inl rfl
 |step h1 h2 h3 ih=>
  have:=(t.up h2 h3).2;rcases ih with rfl|ih
  ·exact .inr this
  ·exact .inr (by omega)
theorem Sub.kid {b k x:Nat}(hk:k∈Qt1 ids b)(h:Sub ids k x):Sub ids b x:=by
 obtain⟨h1,h2⟩:=kidsL_mem.1 hk
 induction h with
 |refl=>exact .step .refl h1 h2
 |step _ h3 h4 ih=>exact ih.step h3 h4
theorem Sub.kid_ne (t:Tree n ids dp){b k:Nat}(hk:k∈Qt1 ids b):¬Sub ids k b:=fun h=>by
 obtain⟨h1,h2⟩:=kidsL_mem.1 hk;have:=(t.up h1 h2).2;rcases h.dep t with rfl|h
 ·omega
 ·omega
theorem Sub.line {a b x:Nat}(h1:Sub ids a x)(h2:Sub ids b x):Sub ids a b∨Sub ids b a:=by
 induction h1 with
 |refl=>exact .inr h2
 |@step y x h3 h4 h5 ih=>
  cases h2 with
  |refl=>exact .inl (.step h3 h4 h5)
  |@step y' _ h6 h7 h8=>
   have:y=y':=by omega
   subst this;exact ih h6
theorem Sub.kids_apart (t:Tree n ids dp){b k j x:Nat}(hk:k∈Qt1 ids b)(hj:j∈Qt1 ids b)(h1:Sub ids k x)(h2:Sub ids j x):k=j:=by
 have one:∀{k j:Nat},k∈Qt1 ids b→j∈Qt1 ids b→Sub ids k j→k=j:=fun {k j} hk hj h=>by
  cases h with
  |refl=>rfl
  |@step y _ h3 h4 h5=>
   have h6:=(kidsL_mem.1 hj).2;have:y=b:=by omega
   subst this;exact absurd h3 (Sub.kid_ne t hk)
 rcases h1.line h2 with h|h
 ·exact one hk hj h
 ·exact (one hj hk h).symm
theorem Sub.split {b x:Nat}(h:Sub ids b x):x=b∨∃k∈Qt1 ids b,Sub ids k x:=by
 induction h with
 |refl=>exact .inl rfl
 |@step y x h1 h2 h3 ih=>
  rcases ih with rfl|⟨k,hk,h⟩
  ·exact .inr ⟨x,kidsL_mem.2 ⟨h2,h3⟩,.refl⟩
  ·exact .inr ⟨k,hk,h.step h2 h3⟩
theorem Sub.lt {b x:Nat}(hb:b<ids.length)(h:Sub ids b x):x<ids.length:=by
 cases h with
 |refl=>exact hb
 |step _ h _=>exact h
def potW (n:Nat)(w:Nat→Nat)(U:Nat→Prop) [DecidablePred U]:Nat:=(((List.range n).filter fun x=>decide (U x)).map w).sum
theorem Qbmf {w:Nat→Nat}{U V:Nat→Prop}{b:Nat}(hb:b<n)(hU:U b)(hV:∀x,V x↔U x∧x≠b):potW n w V+w b=potW n w U:=by
 have key:∀m,(((List.range m).filter fun x=>decide (V x)).map w).sum+(if b<m then w b else 0)=(((List.range m).filter fun x=>decide (U x)).map w).sum:=fun m=>by
  induction m with
  |zero=>simp
  |succ m ih=>
   rw[Jao,J9,J9,Ju,Ju,Jap,Jap];by_cases hm:m=b
   ·subst hm;have h1:decide (V m)=false:=decide_eq_false fun h=>((hV m).1 h).2 rfl;have h2:decide (U m)=true:=decide_eq_true hU;have h3:¬m<m:=(by omega);rw[if_neg h3]at ih;simp[h1,h2];omega
   ·have h1:decide (V m)=decide (U m):=(by rw[decide_eq_decide,hV];exact⟨fun h=>h.1,fun h=>⟨h,hm⟩⟩);have h2:(b<m+1)=(b<m):=(by rw[eq_iff_iff];omega);simp only[Jau,Jay,h1,h2];omega
 have:=key n;rw[if_pos hb]at this;exact this
theorem Qbqs {w:Nat→Nat}{U V:Nat→Prop}(h:∀x,V x→U x):potW n w V≤potW n w U:=by
 have key:∀m,(((List.range m).filter fun x=>decide (V x)).map w).sum≤(((List.range m).filter fun x=>decide (U x)).map w).sum:=fun m=>by
  induction m with
  |zero=>simp
  |succ m ih=>
   rw[Jao,J9,J9,Ju,Ju,Jap,Jap];by_cases hv:V m
   ·have h1:decide (V m)=true:=decide_eq_true hv;have h2:decide (U m)=true:=decide_eq_true (h m hv);simp[h1,h2];omega
   ·have h1:decide (V m)=false:=decide_eq_false hv;simp[h1];omega
 exact key n
end Go.AE.Y
namespace Go.AE.Y
attribute [local go_sem] cond_true cond_false Bool.not_true Bool.not_false
open Go.Proofs.Tryz
variable {H H0:Heap}{K:V→Heap→Prop}{E B Lg:List (Nat×Obj)}
theorem Qa08 {fl:Bool}{l:List Nat}(hl:l.length≤2 ^ 30)(hK:∀(fl':Bool) (k:List Nat) H',Upd H H' []→k.Pairwise (· < ·)→(∀x,x∈k↔x∈l)→K (.c (.sl false 1 (Qaf k))) H') :
  Qs prog Qo6 [.c (.sl fl 1 (Qaf l))] H K:=by
 refine Qx ?_;refine Qc Qaj Qa1g ?_;refine Qa ?_;simp only[go_sem];refine Qa ?_;simp only[go_sem];refine Qy ?_;refine Qa ?_;simp only[go_sem];refine Qh (Qf (Qw (fun m e1 H1=>∃(i:Nat) (fl':Bool) (ns:List Int),m=l.length-i∧i≤l.length∧ns.Pairwise (· < ·)∧(∀x,x∈ns↔∃y∈l.take i,(y:Int)=x)∧ns.length≤i∧Kn H H1 [] []∧
  lk 0 e1=.c (.sl fl 1 (Qaf l))∧lk 3 e1=.c (.sl fl' 1 (Qb ns))∧lk 4 e1=.c (.int .i64 i)) l.length ?_ ?_))
 ·exact⟨0,_,[],by omega,by omega,by simp,by simp,by simp,Kn.start0 H,rfl,rfl,rfl⟩
 ·rintro m e1 H1 ⟨i,fl',ns,hm,hi,ha,hns,hnl,kn,l0,l3,l4⟩;refine Qy ?_;refine Qa ?_;simp only[go_sem,l0,l3,l4,Q7];intro _;refine Qh (Qe rfl ?_ ?_)
  ·intro hc;have hlt:i<l.length:=by simpa using hc
   have hg:l.getD i 0=l[i]:=by simp[Ja,hlt]
   refine Qi ?_;try simp only[go_sem]
   refine Qh (Qf ?_);refine Qq ?_;simp only[go_sem,hlt,Q7,Qau _ _ hlt,hg];refine Qts ha (by omega) fun fl2 ns2 H2 hu ha2 hm2 hl2=>?_;have kn:=kn.call0 hu;simp only[go_sem,Qvt];refine Qq ?_;simp only[go_sem,X.next];refine⟨Qr (by omega) (by omega),l.length-(i+1),by omega,i+1,fl2,ns2,rfl,by omega,ha2,fun x=>?_,by omega,kn,?_⟩
   ·rw[hm2,hns,Je hlt];constructor
    ·rintro (rfl|⟨y,hy,rfl⟩)
     ·exact⟨l[i],Jf _ (Jb.2 rfl),rfl⟩
     ·exact⟨y,Jh _ hy,rfl⟩
    ·rintro⟨y,hy,rfl⟩;rcases Jg.1 hy with hy|hy
     ·exact .inr ⟨y,hy,rfl⟩
     ·simp only[Jb]at hy;rw[hy];exact .inl rfl
   ·first|exact⟨rfl,rfl,rfl⟩|exact rfl|trivial
  ·intro hc;have hge:l.length≤i:=by simpa using hc
   rw[Jc hge]at hns;have hk:ns=(ns.map Int.toNat).map Int.ofNat:=by
    rw[Jaq]
    conv=>lhs;rw[←List.map_id ns]
    refine List.map_congr_left fun x hx=>?_;obtain⟨y,_,rfl⟩:=(hns x).1 hx;simp
   have hko:Qb ns=Qaf (ns.map Int.toNat):=by (conv=>lhs;rw[hk]);rfl
   refine Qv ?_;simp only[go_sem,X.next];refine Qa ?_;simp only[go_sem,l3,hko];refine Qk ?_;simp only[go_sem,Q3,Qab,Qaaw,Jb,forall_eq,RS.op];refine⟨_,.c _ _ (FrzR.same (Qbr _)).sl,hK true (ns.map Int.toNat) _ kn.fin ?_ fun x=>?_⟩
   ·rw[hk,List.pairwise_map]at ha;exact ha.imp fun h=>by simpa using h
   ·rw[Jo];constructor
    ·rintro⟨v,hv,rfl⟩;obtain⟨y,hy,rfl⟩:=(hns v).1 hv;simpa using hy
    ·exact fun h=>⟨(x:Int),(hns _).2 ⟨x,h,rfl⟩,by simp⟩
set_option maxHeartbeats 1000000 in
theorem Qa07 {p rg:Int}{fl:Bool}{rows:List (List C)}{nx:Nat→List Int}(hg:GF rows nx)(hf:Qoq rows.length nx=true)
  (hK:∀(S:List Bool) (o:List Nat) H',Upd H H' []→Dfs (nxN nx) [0] (List.replicate rows.length false) [] S o→K (.c (.sl false 1 (Qaf o.reverse))) H') :
  Qs prog Qhk [.ag [.int .i64 p,.int .i64 rg,.sl fl 5 rows]] H K:=by
 have hn:=hg.n;have hn0:=Qo2 hf;have hyb:∀(y:Nat) l a b d,C.sl fl 5 rows=.vsl l a b d→l≠y:=by intro y l a b d h;cases h
 refine Qx ?_;refine Qc Qaj Qbax ?_;refine Qa ?_;simp only[go_sem];refine Qag ?_;simp only[go_sem,Qbn];try intro _
 refine⟨by simp only[LIM];omega,fun al hal H1 h1=>?_⟩;have kn:Kn H H1 [] ([(al,.vec 1 (Qu (List.replicate rows.length false)))]++[]):=(Kn.start0 H).al hal h1;simp only[go_sem,Qzk];refine Q1m (F:=H1) hf (by omega) (hg.grd H1 fl) (hyb al) rows.length 0 (List.replicate rows.length false) [] (.sl true 1 []) [] H1 _ (by simp) (by omega) hn0 (Qbl _ _) kn.mid (.nil 1) (by simp) fun S o oc Lg0 H2 hd k2 hgo=>?_;have kn:Kn H H2 [] ([(al,.vec 1 (Qu S))]++Lg0):=by
  have:=(kn.comp k2 rfl);simpa using this
 have how:=hgo.isOw;have hsz:=hgo.elemSz;have hlen:=hgo.lenC;rw[Q7]at hlen;have hgl:∀x,x<(List.replicate rows.length false).length→∀y∈nxN nx x,y<(List.replicate rows.length false).length:=by
  rw[Jj];exact fun x hx y hy=>Qall hf hx hy
 have hx0:∀x∈[0],x<(List.replicate rows.length false).length:=by rw[Jj];simpa using hn0
 have hol:o.length≤rows.length:=by
  have h1:=hd.count hgl hx0;have h2:=Qarl S;rw[hd.len,Jj]at h2;simp only[Jr]at h1;omega
 simp only[go_sem,Qzj,how];refine Qa ?_;simp only[go_sem,how];refine Qy ?_;refine Qa ?_;have hok0:=eq_true (hgo.get kn).1;simp only[go_sem,how,hok0,hlen];try intro _
 refine⟨Qr (by omega) (by omega),?_⟩;refine Qh (Qf (Qw (fun m e1 H1=>∃(k:Nat) (r:List Nat) (t:C) (Lg:List (Nat×Obj)),m=k∧k≤o.length∧r.length+k=o.length∧r=(o.drop k).reverse∧Gr Lg 1 (Qaf r) t∧Kn H H1 [] (([(al,.vec 1 (Qu S))]++Lg0)++Lg)∧
  lk 3 e1=.c oc∧lk 4 e1=.c t∧lk 5 e1=.c (.int .i64 ((k:Int)-1))) o.length ?_ ?_))
 ·exact⟨o.length,[],_,[],rfl,by omega,by simp,by simp,.nil 1,by simpa using kn,rfl,rfl,rfl⟩
 ·clear kn hok0;rintro m e1 H3 ⟨k,r,t,Lg,rfl,hk,hrl,hrm,hgr,kn,l3,l4,l5⟩;have htw:=hgr.isOw;have hok0:=eq_true (hgo.get kn.drop).1;have hrw:=(hgo.get kn.drop).2;refine Qy ?_;refine Qa ?_;simp only[go_sem,l3,l4,l5,htw,how];refine Qh (Qe rfl ?_ ?_)
  ·intro hc;have hge:(0:Int)≤(m:Int)-1:=by simpa using hc
   obtain⟨k,rfl⟩:∃k,m=k+1:=⟨m-1,by omega⟩;have ek:((k+1:Nat):Int)-1=(k:Int):=by omega
   have hlt:k<o.length:=by omega
   have hgd:o.getD k 0=o[k]:=by simp[Ja,hlt]
   rw[ek];refine Qi ?_;try simp only[go_sem]
   refine Qh (Qf ?_);refine Qq ?_;simp only[go_sem,htw,how,hok0,hlen,hsz,hrw,hlt,Q7,Qau _ _ hlt,hgd];refine kn.growR (new:=Qaf [o[k]]) hgr (.mk' _ _ _ _) (Qbr _) (by simp only[Q7,LIM,Jq,Jr];omega) fun t2 Lg2 H4 hgr2 ht2 kn=>?_;simp only[go_sem,Qzl,how,ht2];refine Qq ?_;simp only[go_sem,X.next,how,ht2];refine⟨Qr (by omega) (by omega),k,by omega,k,r++[o[k]],t2,Lg2,rfl,by omega,by simp only[Ja4,Jq,Jr];omega,?_,?_,kn,?_⟩
   ·rw[hrm,Jy hlt,List.reverse_cons]
   ·rw[Q1s];exact hgr2
   ·first|exact⟨rfl,rfl,rfl⟩|exact rfl|trivial
  ·intro hc;have hk0:m=0:=by have:¬(0:Int)≤(m:Int)-1:=(by simpa using hc);omega
   subst hk0;refine Qv ?_;simp only[go_sem,X.next];refine Qa ?_;simp only[go_sem,l4,htw];refine Qk ?_;simp only[go_sem,Q3,Qab,Qalq,Jb,forall_eq,RS.op,htw];rw[Jac]at hrm;subst hrm;exact⟨_,.c _ _ (hgr.frz kn (Qbr _)),hK S o _ kn.fin hd⟩
theorem Qbao {p rg:Int}{fl:Bool}{rows:List (List C)}{nx:Nat→List Int}(hg:GF rows nx)(hf:Qoq rows.length nx=true)
  (hK:∀(o:List Nat) H',Upd H H' []→o.length≤rows.length→(∀x,x∈o↔x<rows.length∧Qvh (nxN nx) (-1) x=true)→K (.c (.sl false 1 (Qaf o))) H') :
  Qs prog Qhk [.ag [.int .i64 p,.int .i64 rg,.sl fl 5 rows]] H K:=by
 have hn0:=Qo2 hf;refine Qa07 hg hf fun S o H' hu hd=>?_;have hgl:∀x,x<(List.replicate rows.length false).length→∀y∈nxN nx x,y<(List.replicate rows.length false).length:=by
  rw[Jj];exact fun x hx y hy=>Qall hf hx hy
 have hx0:∀x∈[0],x<(List.replicate rows.length false).length:=by rw[Jj];simpa using hn0
 have hmem:∀x,x∈o↔x<rows.length∧Qvh (nxN nx) (-1) x=true:=fun x=>by
  rw[hd.list hgl hx0 (Qbl _),Qak7 hf hd,inL];by_cases hx:x<rows.length
  ·rw[Qfc _ _ hx];simp[hx]
  ·rw[Ja,Jt (by simpa using hx)];simp[hx]
 have hol:o.length≤rows.length:=by
  have h1:=hd.count hgl hx0;have h2:=Qarl S;rw[hd.len,Jj]at h2;simp only[Jr]at h1;omega
 exact hK o.reverse H' hu (by rw[List.length_reverse];exact hol) fun x=>by rw[List.mem_reverse,hmem]
noncomputable def rchL (n:Nat)(g:Nat→List Nat):List Nat:=(List.range n).filter (Qvh g (-1))
theorem Qaq4 {p rg:Int}{fl:Bool}{rows:List (List C)}{nx:Nat→List Int}(hg:GF rows nx)(hf:Qoq rows.length nx=true)
  (hK:∀H',Upd H H' []→K (.c (.sl false 1 (Qaf (rchL rows.length (nxN nx))))) H') :
  Qs prog Qhq [.ag [.int .i64 p,.int .i64 rg,.sl fl 5 rows]] H K:=by
 have hn:=hg.n;refine Qx ?_;refine Qc Qaj Qahk ?_;refine Qa ?_;simp only[go_sem];refine Qy ?_;refine Qa ?_;simp only[go_sem];refine Qbff (hg.grd H fl) ?_;simp only[go_sem,Qlc,hf];refine Qh (Qe rfl (fun h=>by simp at h) (fun _=>?_));refine Qi ?_;try simp only[go_sem]
 refine Qa ?_;simp only[go_sem];refine Qbao hg hf fun o H1 hu hol hom=>?_;have kn:=(Kn.start0 H).call0 hu;simp only[go_sem,Qle];refine Qa08 (by omega) fun _ k H2 hu ha hk=>?_;have kn:=kn.call0 hu;simp only[go_sem,Qld];have e:k=rchL rows.length (nxN nx):=Qbd7 ha fun x=>by rw[hk,hom]
 refine Qk ?_;simp only[go_sem,Q3,Qab,Qvf,Jb,forall_eq,RS.op];rw[e];exact⟨_,.c _ _ (FrzR.same (Qbr _)).sl,hK _ kn.fin⟩
theorem Qyg (n:Nat)(v:Int):List.replicate n [C.int .i64 v]=Qb (List.replicate n v):=by simp[Qb]
theorem Qcx (l:List Int)(i:Nat)(v:Int):(Qb l).set i [C.int .i64 v]=Qb (l.set i v):=by simp[Qb,J6]
def Qbd3 (n:Nat)(l:List Nat)(P:List Int):Prop:=P.length=n∧∀x∈l,∃i,∃h:i<l.length,l[i]=x∧P.getD x 0=(i:Int)
set_option maxHeartbeats 1000000 in
theorem Qbaq {n:Nat}{fl:Bool}{l:List Nat}(hn:n≤1000000)(hl:l.length≤1000000)(hx:∀x∈l,x<n)(hK:∀P H',Qbd3 n l P→Upd H H' []→K (.c (.sl false 1 (Qb P))) H') :
  Qs prog Qwp [.c (.int .i64 n),.c (.sl fl 1 (Qaf l))] H K:=by
 refine Qx ?_;refine Qc Qaj Qbay ?_;refine Qa ?_;simp only[go_sem];refine Qa ?_;simp only[go_sem];refine⟨by simp only[LIM];omega,fun y hy H1 h1=>?_⟩;rw[Qyg]at h1;have kn:=(Kn.start0 H).al hy h1;simp only[go_sem,Qzq];refine Qy ?_;refine Qa ?_;simp only[go_sem];refine Qh (Qf (Qw (fun m e1 H1=>∃(i:Nat) (P:List Int),m=n-i∧i≤n∧P.length=n∧Kn H H1 [] [(y,.vec 1 (Qb P))]∧
  lk 0 e1=.c (.int .i64 n)∧lk 1 e1=.c (.sl fl 1 (Qaf l))∧lk 5 e1=.c (.vsl y 1 0 n)∧lk 6 e1=.c (.int .i64 i)) n ?_ ?_))
 ·exact⟨0,List.replicate n 0,by omega,by omega,by simp,kn,rfl,rfl,rfl,rfl⟩
 ·clear kn h1;rintro m e1 H2 ⟨i,P,hm,hi,hP,kn,l0,l1,l5,l6⟩;have hy:=kn.l 0 rfl;have htk:(Qb P).take n=Qb P:=Jc (by rw[Qd];omega);refine Qy ?_;refine Qa ?_;simp only[go_sem,l0,l1,l5,l6];refine Qh (Qe rfl ?_ ?_)
  ·intro hc;have hlt:i<n:=by simpa using hc
   refine Qi ?_;try simp only[go_sem]
   refine Qh (Qf ?_);have hltP:i<P.length:=by omega
   refine Qq ?_;simp only[go_sem,hy,hlt,Qd,hP,Qn _ _ hltP,Qcx,Js,Jn];intro H3 h3;have kn:=kn.stL 0 rfl h3;refine Qq ?_;simp only[go_sem,X.next];refine⟨Qr (by omega) (by omega),n-(i+1),by omega,i+1,_,rfl,by omega,by rw[Jl];exact hP,kn,?_⟩
   first|exact⟨rfl,rfl,rfl,rfl⟩|exact rfl|trivial
  ·intro hc;refine Qv ?_;simp only[go_sem,X.next];refine Qy ?_;refine Qa ?_;simp only[go_sem,l0,l1,l5,l6];refine Qh (Qf (Qw (fun m e1 H1=>∃(j:Nat) (P:List Int),m=l.length-j∧j≤l.length∧P.length=n∧(∀x∈l.take j,∃i,∃h:i<l.length,l[i]=x∧P.getD x 0=(i:Int))∧Kn H H1 [] [(y,.vec 1 (Qb P))]∧
    lk 1 e1=.c (.sl fl 1 (Qaf l))∧lk 5 e1=.c (.vsl y 1 0 n)∧lk 7 e1=.c (.int .i64 j)) l.length ?_ ?_))
   ·exact⟨0,P,by omega,by omega,hP,by simp,kn,rfl,rfl,rfl⟩
   ·clear kn hy htk hP;clear P;rintro m e1 H3 ⟨j,P,hm,hj,hP,hpl,kn,l1,l5,l7⟩;have hy:=kn.l 0 rfl;refine Qy ?_;refine Qa ?_;simp only[go_sem,l1,l5,l7,Q7];intro _;refine Qh (Qe rfl ?_ ?_)
    ·intro hc;have hlt:j<l.length:=(by simpa using hc);have hgd:l.getD j 0=l[j]:=(by simp[Ja,hlt]);have hxn:=hx _ (Jd hlt);have hxP:l[j]<P.length:=(by omega);refine Qi ?_;try simp only[go_sem]
     refine Qh (Qf ?_);refine Qq ?_;simp only[go_sem,hy,hlt,Q7,Qau _ _ hlt,hgd,hxn,Qd,hP,Qn _ _ hxP,Qcx,Js,Jn];intro H4 h4;have kn:=kn.stL 0 rfl h4;refine Qq ?_;simp only[go_sem,X.next];refine⟨Qr (by omega) (by omega),l.length-(j+1),by omega,j+1,_,rfl,by omega,by rw[Jl];exact hP,fun x hxm=>?_,kn,?_⟩
     ·by_cases hxe:x=l[j]
      ·refine⟨j,hlt,hxe.symm,?_⟩;rw[hxe,Ja,Jax hxP];rfl
      ·rw[Je hlt]at hxm;rcases Jg.1 hxm with h|h
       ·obtain⟨i,hi,h1,h2⟩:=hpl x h;refine⟨i,hi,h1,?_⟩;rw[Ja,Ja1 (fun h=>hxe h.symm),←Ja];exact h2
       ·exact absurd (Jb.1 h) hxe
     ·first|exact⟨rfl,rfl,rfl⟩|exact rfl|trivial
    ·intro hc;have hge:l.length≤j:=(by simpa using hc);rw[Jc hge]at hpl;refine Qv ?_;simp only[go_sem,X.next];refine Qa ?_;simp only[go_sem,l5];refine Qk ?_;simp only[go_sem,Q3,Qab,Qalr,Jb,forall_eq,RS.op];exact⟨_,.c _ _ ((FrzR.same (Qp _)).vsl (kn.un 0 rfl) hy (by rw[Qd,hP])),hK P _ ⟨hP,hpl⟩ kn.fin⟩
def Qary (ids:List Int)(b n:Nat):List Nat:=(List.range n).filter fun i=>decide (ids.getD i 0=(b:Int))
theorem Qale (ids:List Int)(b n:Nat):Qary ids b (n+1)=Qary ids b n++if decide (ids.getD n 0=(b:Int))=true then [n]else []:=by
 simp only[Qary,Jao,J9];congr 1;by_cases h:ids.getD n 0=(b:Int)
 ·rw[decide_eq_true h,if_pos rfl];simp only[Jau,Jay,h,decide_true,if_true]
 ·rw[decide_eq_false h,if_neg (by simp)];simp only[Jau,Jay,h,decide_false,Ja3,if_false]
theorem Qbfc (ids:List Int)(b n:Nat):(Qary ids b n).length≤n:=by
 have:=List.length_filter_le (fun i=>decide (ids.getD i 0=(b:Int))) (List.range n);simpa[Qary]using this
theorem Qbfh {fl:Bool}{ids:List Int}{b:Nat}(hl:ids.length≤1000000)(hK:∀H',Upd H H' []→K (.c (.sl false 1 (Qaf (Qt1 ids b)))) H') :
  Qs prog Q06 [.c (.sl fl 1 (Qb ids)),.c (.int .i64 b)] H K:=by
 refine Qx ?_;refine Qc Qaj Qbf7 ?_;refine Qa ?_;simp only[go_sem];refine Qa ?_;simp only[go_sem];refine Qy ?_;refine Qa ?_;simp only[go_sem];refine Qh (Qf (Qw (fun m e1 H1=>∃(i:Nat) (t:C) (Lg:List (Nat×Obj)),m=ids.length-i∧i≤ids.length∧Gr Lg 1 (Qaf (Qary ids b i)) t∧Kn H H1 [] ([]++Lg)∧
  lk 0 e1=.c (.sl fl 1 (Qb ids))∧lk 1 e1=.c (.int .i64 b)∧lk 5 e1=.c t∧lk 6 e1=.c (.int .i64 i)) ids.length ?_ ?_))
 ·exact⟨0,_,[],by omega,by omega,.nil 1,Kn.start0 H,rfl,rfl,rfl,rfl⟩
 ·rintro m e1 H1 ⟨i,t,Lg,hm,hi,hgr,kn,l0,l1,l5,l6⟩;have htw:=hgr.isOw;refine Qy ?_;refine Qa ?_;simp only[go_sem,l0,l1,l5,l6,htw,Qd];intro _;refine Qh (Qe rfl ?_ ?_)
  ·intro hc;have hlt:i<ids.length:=by simpa using hc
   have hkl:=Qbfc ids b i;refine Qi ?_;try simp only[go_sem]
   refine Qd2 (fun e2 H2=>∃(t:C) (Lg:List (Nat×Obj)),Gr Lg 1 (Qaf (Qary ids b (i+1))) t∧Kn H H2 [] ([]++Lg)∧
    lk 0 e2=.c (.sl fl 1 (Qb ids))∧lk 1 e2=.c (.int .i64 b)∧lk 5 e2=.c t∧lk 6 e2=.c (.int .i64 i)) ?_ ?_
   ·intro Q hnr _ _;refine Qf ?_;refine Qa ?_;simp only[go_sem,htw,hlt,Qd,Qn _ _ hlt];refine Qe rfl ?_ ?_
    ·intro hc2;refine Qq ?_;simp only[go_sem,htw];refine kn.growR (B:=[]) (new:=Qaf [i]) hgr (.mk' _ _ _ _) (Qbr _) (by simp only[Q7,LIM,Jq,Jr];omega) fun t2 Lg2 H2 hgr2 ht2 kn=>?_;simp only[go_sem,Q4c,ht2];refine hnr _ _ ⟨t2,Lg2,?_,kn,rfl,rfl,rfl,rfl⟩;rw[Qale,hc2,if_pos rfl,Q1s];exact hgr2
    ·intro hc2;refine Qi ?_;try simp only[go_sem]
     refine hnr _ _ ⟨t,Lg,?_,kn,rfl,rfl,rfl,rfl⟩;rw[Qale,hc2];simpa using hgr
   ·rintro e2 H2 ⟨t2,Lg2,hgr2,kn,l0,l1,l5,l6⟩;have ht2:=hgr2.isOw;refine Qq ?_;simp only[go_sem,X.next,l0,l1,l5,l6,ht2];refine⟨Qr (by omega) (by omega),ids.length-(i+1),by omega,i+1,t2,Lg2,rfl,by omega,hgr2,kn,?_⟩
    first|exact⟨rfl,rfl,rfl,rfl⟩|exact rfl|trivial
  ·intro hc;have hge:i=ids.length:=by have:ids.length≤i:=(by simpa using hc);omega
   refine Qv ?_;simp only[go_sem,X.next];refine Qa ?_;simp only[go_sem,l5,htw];refine Qk ?_;simp only[go_sem,Q3,Qab,Qasz,Jb,forall_eq,RS.op,htw];have e:Qary ids b i=Qt1 ids b:=by rw[hge];rfl
   rw[e]at hgr;exact⟨_,.c _ _ (hgr.frz kn (Qbr _)),hK _ kn.fin⟩
set_option maxHeartbeats 2000000 in
theorem Qbas {fl:Bool}{n:Nat}{g:Nat→List Nat}(hn0:0<n)(hn:n≤1000000)(hK:∀ids H',Tree n ids (depL n g)→Upd H H' []→K (.c (.sl false 1 (Qb ids))) H') :
  Qs prog Qwq [.c (.sl fl 1 (ovOf n g n))] H K:=by
 have hm1:Int.toNat (-1)=0:=rfl;refine Qx ?_;refine Qc Qaj Qba0 ?_;refine Qa ?_;simp only[go_sem];refine Qa ?_;simp only[go_sem];refine Qy ?_;refine Qa ?_;simp only[go_sem];refine Qh (Qf (Qw (fun m e1 H1=>∃(b:Nat) (ids:List Int) (t:C) (Lg:List (Nat×Obj)),m=n-b∧b≤n∧ids.length=b∧(∀x,x<b→ids.getD x 0=-1∨∃a:Nat,ids.getD x 0=a∧a<n∧depL n g a<depL n g x)∧Gr Lg 1 (Qb ids) t∧Kn H H1 [] ([]++Lg)∧
  lk 0 e1=.c (.sl fl 1 (ovOf n g n))∧lk 3 e1=.c t∧lk 4 e1=.c (.int .i64 b)) n ?_ ?_))
 ·exact⟨0,[],_,[],by omega,by omega,rfl,fun x hx=>by omega,.nil 1,Kn.start0 H,rfl,rfl,rfl⟩
 ·rintro m e1 H1 ⟨b,ids,t,Lg,hm,hb,hil,hids,hgr,kn,l0,l3,l4⟩;have htw:=hgr.isOw;refine Qy ?_;refine Qa ?_;simp only[go_sem,l0,l3,l4,htw,Qtv];intro _;refine Qh (Qe rfl ?_ ?_)
  ·intro hc;have hlt:b<n:=by simpa using hc
   refine Qi ?_;try simp only[go_sem]
   refine Qd2 (fun e2 H2=>∃(v:Int),(v=-1∨∃a:Nat,v=a∧a<n∧depL n g a<depL n g b)∧∃(t:C) (Lg:List (Nat×Obj)),Gr Lg 1 (Qb (ids++[v])) t∧Kn H H2 [] ([]++Lg)∧
    lk 0 e2=.c (.sl fl 1 (ovOf n g n))∧lk 3 e2=.c t∧lk 4 e2=.c (.int .i64 b)) ?_ ?_
   ·intro Q hnr _ _;refine Qf ?_;refine Qa ?_;simp only[go_sem,htw];refine Qy ?_;refine Qa ?_;simp only[go_sem,htw];refine Qh (Qf (Qw (fun m e1 H1'=>∃(a:Nat) (v:Int),m=n-a∧a≤n∧H1'=H1∧(v=-1∨∃a:Nat,v=a∧a<n∧depL n g a<depL n g b)∧
     lk 0 e1=.c (.sl fl 1 (ovOf n g n))∧lk 3 e1=.c t∧lk 4 e1=.c (.int .i64 b)∧lk 5 e1=.c (.int .i64 v)∧lk 6 e1=.c (.int .i64 a)) n ?_ ?_))
    ·exact⟨0,-1,by omega,by omega,rfl,.inl rfl,rfl,rfl,rfl,rfl,rfl⟩
    ·rintro m2 e2 H2 ⟨a,v,hm2,ha,rfl,hv,l0,l3,l4,l5,l6⟩;refine Qy ?_;refine Qa ?_;simp only[go_sem,l0,l3,l4,l5,l6,htw,Qtv];intro _;refine Qh (Qe rfl ?_ ?_)
     ·intro hc2;have hal:a<n:=(by simpa using hc2);have hbd:b<(Qhb n g a).length:=(by rw[Qeq];exact hlt);refine Qi ?_;try simp only[go_sem]
      refine Qd2 (fun e2 H2'=>∃(v:Int),H2'=H2∧(v=-1∨∃a:Nat,v=a∧a<n∧depL n g a<depL n g b)∧
       lk 0 e2=.c (.sl fl 1 (ovOf n g n))∧lk 3 e2=.c t∧lk 4 e2=.c (.int .i64 b)∧lk 5 e2=.c (.int .i64 v)∧lk 6 e2=.c (.int .i64 a)) ?_ ?_
      ·intro Q2 hnr2 _ _;refine Qf ?_;obtain⟨w,hw,hwn,hneg⟩:∃w:Nat,v.toNat=w∧w<n∧(decide (v<0)=false→v=(w:Int)):=by
        rcases hv with rfl|⟨a',rfl,h1,_⟩
        ·exact⟨0,rfl,hn0,fun h=>by simp at h⟩
        ·exact⟨a',by omega,h1,fun _=>rfl⟩
       have had:a<(Qhb n g w).length:=(by rw[Qeq];exact hal);refine Qa ?_;simp only[go_sem,htw,hal,hlt,hw,hwn,Qtv,Qaan hal,Qaan hwn,Qz,Qeq,Q6 _ _ hbd,Q6 _ _ had,Q9r hlt,Q9r hal];refine⟨fun h=>?_,?_⟩
       ·rw[Jp,Ja8,decide_eq_false_iff_not]at h;omega
       refine Qe rfl ?_ ?_
       ·intro hc3;have hd:¬((a:Int)=b)∧Q6j g a b=true:=by
         by_cases hab:(a:Int)=b
         ·rw[decide_eq_true hab]at hc3;simp at hc3
         ·refine⟨hab,?_⟩
          cases hd:Q6j g a b with
          |true=>rfl
          |false=>rw[decide_eq_false hab,hd]at hc3;simp at hc3
        refine Qq ?_;simp only[go_sem,htw];exact hnr2 _ _ ⟨(a:Int),rfl,.inr ⟨a,rfl,hal,Qbo4 hlt hd.2 fun h=>hd.1 (by rw[h])⟩,rfl,rfl,rfl,rfl,rfl⟩
       ·intro _;refine Qi ?_;try simp only[go_sem]
        exact hnr2 _ _ ⟨v,rfl,hv,rfl,rfl,rfl,rfl,rfl⟩
      ·rintro e3 H3 ⟨v2,rfl,hv2,l0,l3,l4,l5,l6⟩;refine Qq ?_;simp only[go_sem,l0,l3,l4,l5,l6,htw];refine⟨Qr (by omega) (by omega),?_⟩;show ∃m,_;exact⟨n-(a+1),by rw[hm2];exact Nat.sub_lt_sub_left hal (Nat.lt_succ_self a),a+1,v2,rfl,hal,rfl,hv2,rfl,rfl,rfl,rfl,rfl⟩
     ·intro hc2;refine Qv ?_;simp only[go_sem,X.next];refine Qq ?_;simp only[go_sem,l0,l3,l4,l5,l6,htw];refine kn.growR (B:=[]) (new:=Qb [v]) hgr (.mk' _ _ _ _) (Qp _) (by simp only[Qd,LIM,Jq,Jr];omega) fun t2 Lg2 H3 hgr2 ht2 kn=>?_;simp only[go_sem,Qzv,ht2];refine hnr _ _ ⟨v,hv,t2,Lg2,?_,kn,rfl,rfl,rfl⟩;have:Qb (ids++[v])=Qb ids++Qb [v]:=(by simp[Qb]);rw[this];exact hgr2
   ·rintro e2 H2 ⟨v,hv,t2,Lg2,hgr2,kn,l0,l3,l4⟩;have ht2:=hgr2.isOw;refine Qq ?_;simp only[go_sem,X.next,l0,l3,l4,ht2];refine⟨Qr (by omega) (by omega),n-(b+1),by omega,b+1,ids++[v],t2,Lg2,rfl,by omega,by simp[hil],fun x hx=>?_,hgr2,kn,?_⟩
    ·by_cases hxb:x<b
     ·have e:(ids++[v]).getD x 0=ids.getD x 0:=(by simp[Ja,List.getElem?_append_left (show x<ids.length by omega)]);rw[e];exact hids x hxb
     ·have hxe:x=b:=(by omega);subst hxe;have e:(ids++[v]).getD x 0=v:=(by simp[Ja,←hil]);rw[e];exact hv
    ·first|exact⟨rfl,rfl,rfl⟩|exact rfl|trivial
  ·intro hc;have hbe:b=n:=by have:n≤b:=(by simpa using hc);omega
   subst hbe;refine Qv ?_;simp only[go_sem,X.next];refine Qa ?_;simp only[go_sem,l3,htw];refine Qk ?_;simp only[go_sem,Q3,Qab,Qalt,Jb,forall_eq,RS.op,htw];exact⟨_,.c _ _ (hgr.frz kn (Qp _)),hK ids _ ⟨hil,hids⟩ kn.fin⟩
end Go.AE.Y
namespace Go.AE.Y
open Go.Proofs.Tryz
variable {H:Heap}{K:V→Heap→Prop}
theorem Qbe7 {op:Int}(hK:K (.c (.bool (decide (1≤op)&&decide (op≤14)))) H):Qs prog Qls [.c (.int .i64 op)] H K:=by
 refine Qc Qaj Qbaw ?_;refine Qa ?_;simp only[go_sem];refine Qa ?_;simp only[go_sem];refine Qdh ?_;simp only[go_sem,Qzh];refine Qk ?_;simp only[go_sem,Q3,Qab,Qalp,Jb,forall_eq,RS.op];exact hK
theorem Qa8u {n:Int}(hK:K (.c (.bool (decide (0≤n)&&decide (n≤255)))) H):Qs prog Qij [.c (.int .i64 n)] H K:=by
 refine Qc Qaj Qa1d ?_;refine Qa ?_;simp only[go_sem];refine Qa ?_;simp only[go_sem];refine Qdh ?_;simp only[go_sem,Qvs];refine Qk ?_;simp only[go_sem,Q3,Qab,Qaar,Jb,forall_eq,RS.op];exact hK
theorem Qbja {op:Int}(hK:K (.c (.bool (Qdv op))) H):Qs prog Qti [.c (.int .i64 op)] H K:=by
 refine Qc Qaj Qbf0 ?_;refine Qa ?_;simp only[go_sem];refine Qa ?_;simp only[go_sem];refine Qbe7 ?_;simp only[go_sem,Q3n];refine Qk ?_;simp only[go_sem,Q3,Qab,Qasv,Jb,forall_eq,RS.op];have:∀a b c:Bool,(bif bif a then b else false then c else false)=(a&&b&&c):=by decide
 rw[this];have e:(decide (1≤op)&&decide (op≤14))=decide (1≤op∧op≤14):=by simp
 rw[e];exact hK
theorem Qaq9 {j:Int}(hK:K (.c (.bool (decide (j=2) || decide (j=3)))) H):Qs prog Qik [.c (.int .i64 j)] H K:=by
 refine Qc Qaj Qa1e ?_;refine Qa ?_;simp only[go_sem];refine Qa ?_;simp only[go_sem];refine Qk ?_;simp only[go_sem,Q3,Qab,Qaas,Jb,forall_eq,RS.op];have:∀a b:Bool,(bif a then true else b)=(a || b):=by decide
 first|(rw[this];exact hK)|exact hK
theorem Qa1t {j:Int}(hK:K (.c (.int .i64 (Qd1 j))) H):Qs prog Qhj [.c (.int .i64 j)] H K:=by
 refine Qc Qaj Qahf ?_;have retf:∀(n:Int) (e:Env),Qd1 j=n→lk 2 e=.c (.int .i64 n)→Q3 Qjo K .ret e H:=by
  intro b e h1 h3;simp only[go_sem,Q3,Qab,Qjo,Jb,forall_eq,RS.op,h3];rw[←h1];exact hK
 refine Qa ?_;simp only[go_sem];refine Qy ?_;refine Qa ?_;simp only[go_sem];refine Qh (Qf ?_);refine Qa ?_;simp only[go_sem];refine Qe rfl ?_ ?_
 ·intro hc;refine Qa ?_;simp only[go_sem];refine Qk ?_;simp only[go_sem];exact retf 1 _ (by simp at hc;simp[Qd1,hc]) (by simp[lk])
 intro hc1;refine Qa ?_;simp only[go_sem];refine Qe rfl ?_ ?_
 ·intro hc;refine Qa ?_;simp only[go_sem];refine Qk ?_;simp only[go_sem];exact retf 2 _ (by simp at hc;simp[Qd1,hc]) (by simp[lk])
 intro hc2;refine Qa ?_;simp only[go_sem];refine Qe rfl ?_ ?_
 ·intro hc;refine Qa ?_;simp only[go_sem];refine Qk ?_;simp only[go_sem];exact retf 0 _ (by simp at hc;simp[Qd1,hc]) (by simp[lk])
 ·intro hc;refine Qi ?_;simp only[go_sem];refine Qa ?_;simp only[go_sem];refine Qk ?_;exact retf (-1) _ (by simp at hc hc1 hc2;simp[Qd1,hc,hc1,hc2]) (by simp[lk])
def Qarg (op:Int):Int:=if op=1 then 0 else if op=2∨op=10∨op=11∨op=13 then 1 else 2
theorem Qbe6 {op:Int}(hK:K (.c (.int .i64 (Qarg op))) H):Qs prog Qlr [.c (.int .i64 op)] H K:=by
 refine Qc Qaj Qar9 ?_;have retf:∀(n:Int) (e:Env),Qarg op=n→lk 2 e=.c (.int .i64 n)→Q3 Qiu K .ret e H:=by
  intro b e h1 h3;simp only[go_sem,Q3,Qab,Qiu,Jb,forall_eq,RS.op,h3];rw[←h1];exact hK
 refine Qa ?_;simp only[go_sem];refine Qy ?_;refine Qa ?_;simp only[go_sem];refine Qh (Qf ?_);refine Qa ?_;simp only[go_sem];refine Qe rfl ?_ ?_
 ·intro hc;refine Qa ?_;simp only[go_sem];refine Qk ?_;simp only[go_sem];exact retf 0 _ (by simp at hc;simp[Qarg,hc]) (by simp[lk])
 intro hc1;have fin:∀(b:Bool) (e:Env),b=decide (op=2∨op=10∨op=11∨op=13)→lk 6 e=.c (.bool b)→Qah prog Qvq (X.inBlock 0 (X.sq prog Qvr (Q3 Qiu K))) e H:=by
  intro b e hb l6;refine Qe l6 ?_ ?_
  ·intro hc;refine Qa ?_;simp only[go_sem];refine Qk ?_;simp only[go_sem];exact retf 1 _ (by rw[hc]at hb;have:=of_decide_eq_true hb.symm;simp at hc1;rw[Qarg,if_neg hc1,if_pos this]) (by simp[lk])
  ·intro hc;refine Qi ?_;simp only[go_sem];refine Qa ?_;simp only[go_sem];refine Qk ?_;exact retf 2 _ (by rw[hc]at hb;have:=of_decide_eq_false hb.symm;simp at hc1;rw[Qarg,if_neg hc1,if_neg this]) (by simp[lk])
 refine Qy ?_;refine Qa ?_;simp only[go_sem];refine Qh (Qe rfl ?_ ?_)
 ·intro hc;refine Qi ?_;simp only[go_sem];exact fin true _ (decide_eq_true (.inl (of_decide_eq_true hc))).symm (by simp[lk];exact of_decide_eq_true hc)
 intro hc2;refine Qa ?_;simp only[go_sem];refine Qe rfl ?_ ?_
 ·intro hc;refine Qi ?_;simp only[go_sem];exact fin true _ (decide_eq_true (.inr (.inl (of_decide_eq_true hc)))).symm (by simp[lk];exact of_decide_eq_true hc)
 intro hc3;refine Qa ?_;simp only[go_sem];refine Qe rfl ?_ ?_
 ·intro hc;refine Qi ?_;simp only[go_sem];exact fin true _ (decide_eq_true (.inr (.inr (.inl (of_decide_eq_true hc))))).symm (by simp[lk];exact of_decide_eq_true hc)
 intro hc4;refine Qq ?_;simp only[go_sem];refine fin (decide (op=13)) _ ?_ (by simp[lk]);have a2:=of_decide_eq_false hc2;have a3:=of_decide_eq_false hc3;have a4:=of_decide_eq_false hc4;simp[a2,a3,a4]
theorem Qa0f {l:List BlkD}(hf:∀b∈l,b.ins.length≤2 ^ 38∧b.phis.length≤2 ^ 38):Qoo Qx7 l≤l.length * 549755813888:=by
 induction l with
 |nil=>simp[Qoo]
 |cons y l ih=>
  have h1:=hf y Jm;have h2:=ih fun b hb=>hf b (Jk _ hb);simp only[Qoo,Jw,Jat,Qx7,Jq]at *;omega
set_option maxHeartbeats 1000000 in
theorem Qa0p {q:CodeD}{fl:Bool}(hf:q.fits)(hb:q.blocks.length≤160)(hK:∀H',Upd H H' []→K (.c (.int .i64 (Q9p q))) H') :
  Qs prog Qhf [.ag [.int .i64 q.params,.int .i64 q.regs,.sl fl 5 (Qm q.blocks)]] H K:=by
 refine Qx ?_;refine Qc Qaj Qaha ?_;have hsb:=Qa0f hf;refine Qa ?_;simp only[go_sem];refine Qa ?_;simp only[go_sem];refine Qy ?_;refine Qa ?_;simp only[go_sem,Qo];intro _;refine Qh (Qf (Qw (fun m e1 H1=>∃(i:Nat),m=q.blocks.length-i∧i≤q.blocks.length∧Kn H H1 [] []∧
  e1=[(3,.c (.int .i64 (Qoo Qx7 (q.blocks.take i):Nat))),(7,.c (.sl fl 5 (Qm q.blocks))),(8,.c (.int .i64 q.blocks.length)),(9,.c (.int .i64 i))]) q.blocks.length ?_ ?_))
 ·exact⟨0,by omega,by omega,Kn.start0 H,rfl⟩
 ·rintro m e1 H1 ⟨i,hm,hi,kn,rfl⟩;refine Qa ?_;simp only[go_sem];refine Qh (Qe rfl ?_ ?_)
  ·intro hc;have hlt:i<q.blocks.length:=by simpa using hc
   have hbf:=hf _ (Jd hlt);have hss:=Qlm (f:=Qx7) hlt;have hle:=Qa76 (f:=Qx7) (l:=q.blocks) (i+1);have hcy:Qx7 q.blocks[i]=q.blocks[i].ins.length+q.blocks[i].phis.length:=rfl;have hmul:q.blocks.length * 549755813888≤160 * 549755813888:=Jam _ hb;refine Qi ?_;simp only[go_sem];refine Qh (Qf ?_);refine Qa ?_;simp only[go_sem,hlt,Qo,Qaa _ _ hlt,BlkD.cells];intro x5 hx5 H2 h2;have kn:=kn.al hx5 h2;have hx5:=kn.l 0 rfl;simp only[go_sem,Qkw,hx5];intro H3 h3;have kn:Kn H H3 [] ([]++[(x5,.st [.sl false 2 (Q1 q.blocks[i].phis),.sl false 4 (Qaq q.blocks[i].ins),.int .i64 q.blocks[i].jump,.int .i64 q.blocks[i].on,.sl false 1 (Qb q.blocks[i].next)])]):=kn.stL 0 rfl h3;have hx5:=kn.l 0 rfl;refine Qq ?_;simp only[go_sem,hx5,Qal,Q0];intro _ _;refine⟨Qr (by omega) (by omega),Qr (by omega) (by omega),?_⟩;refine Qq ?_;simp only[go_sem,X.next];refine⟨Qr (by omega) (by omega),q.blocks.length-(i+1),by omega,i+1,rfl,by omega,kn.drop,?_⟩;rw[hss,hcy];have:((Qoo Qx7 (q.blocks.take i):Nat):Int)+((q.blocks[i].phis.length:Int)+q.blocks[i].ins.length)=((Qoo Qx7 (q.blocks.take i)+(q.blocks[i].ins.length+q.blocks[i].phis.length):Nat):Int):=by omega
   rw[this];rfl
  ·intro hc;have hge:q.blocks.length≤i:=by simpa using hc
   refine Qv ?_;simp only[go_sem,X.next];refine Qa ?_;simp only[go_sem];refine Qk ?_;simp only[go_sem,Q3,Qab,Qu8,Jb,forall_eq,RS.op];rw[Jc hge];exact⟨_,.c _ _ (Qg rfl),hK _ kn.fin⟩
theorem Qald {x7:Nat}{q:CodeD}{v:Int}(h7:H x7=.st q.cells)(hr:-(2^62)≤q.regs)(hr2:q.regs≤2^62)(hK:K (.c (.bool (decide (0≤v∧v≤q.regs-1)))) H) :
  Qs prog Qc8 [.c (.int .i64 v),.c (.ptr x7 0)] H K:=by
 refine Qc Qaj Qanb ?_;refine Qa ?_;simp only[go_sem];refine Qa ?_;simp only[go_sem,h7,CodeD.cells];refine⟨Qr (by omega) (by omega),?_⟩;refine Qdh ?_;simp only[go_sem,Qna];refine Qk ?_;simp only[go_sem,Q3,Qab,Qyo,Jb,forall_eq,RS.op];have e:(decide (0≤v)&&decide (v≤q.regs-1))=decide (0≤v∧v≤q.regs-1):=by simp
 rw[e];exact hK
theorem Qbak {x7 x8:Nat}{q:CodeD}{v:Int}(h7:H x7=.st q.cells)(h8:H x8=.st [.fn Qc8 [.ptr x7 0]])(hr:-(2^62)≤q.regs)(hr2:q.regs≤2^62)(hK:K (.c (.bool (!decide (0≤v∧v≤q.regs-1)))) H) :
  Qs prog Qje [.c (.int .i64 v),.c (.ptr x8 0)] H K:=by
 refine Qc Qaj Qanc ?_;refine Qa ?_;simp only[go_sem];refine Qa ?_;simp only[go_sem,h8,J3,J2,Jw,J4];refine Qald h7 hr hr2 ?_;simp only[go_sem,Qnb];refine Qk ?_;simp only[go_sem,Q3,Qab,Qyp,Jb,forall_eq,RS.op];exact hK
theorem Qa0n (p:Int→Bool)(l:List Int):(l.any fun x=>!p x) = !l.all p:=by
 induction l with
 |nil=>rfl
 |cons x l ih=>simp only[List.any_cons,Jbe,ih];cases p x <;> simp
set_option maxHeartbeats 1000000 in
theorem Qbps {cs:List CodeD}{fl:Bool}{k:Nat}{x:InsD}(hk:k<cs.length)(hr:0≤cs[k].regs)(hr2:cs[k].regs≤300)(hcl:cs.length≤100)(hK:∀(H':Heap),Upd H H' []→K (.c (.bool (Q6l cs k x))) H') :
  Qs prog Qwo [.ag [.sl fl 3 (Qj cs)],.c (.int .i64 k),.ag x.cells] H K:=by
 refine Qx ?_;refine Qc Qaj Qbav ?_;refine Qa ?_;simp only[go_sem,InsD.cells];refine Qa ?_;simp only[go_sem,hk,Q4,Qam _ _ hk,CodeD.cells];intro x7 hx7 H1 h1;have kn:=(Kn.start0 H).al hx7 h1;have hx7:=kn.l 0 rfl;simp only[go_sem,Qze,hx7];intro H2 h2;have kn:=kn.stL 0 rfl h2;refine Qa ?_;simp only[go_sem];intro x8 hx8 H3 h3;have kn:=kn.al hx8 h3;have hx8:=kn.l 1 rfl;simp only[go_sem,Qzf,hx8];intro H4 h4;have kn:Kn H H4 [] [(x7,.st cs[k].cells),(x8,.st [.fn Qc8 [.ptr x7 0]])]:=kn.stL 1 rfl h4;have h7:H4 x7=.st cs[k].cells:=kn.l 0 rfl;have h8:=kn.l 1 rfl;have hrg:=Qa10 hk;have retf:∀(b:Bool) (e:Env),Q6l cs k x=b→lk 6 e=.c (.bool b)→Q3 Qkf (unK H K) .ret e H4:=by
  intro b e h1 h3;simp only[go_sem,Q3,Qab,Qkf,Jb,forall_eq,RS.op,h3];rw[←h1];exact⟨_,.c _ _ (Qg rfl),hK _ kn.fin⟩
 refine Qy ?_;refine Qa ?_;simp only[go_sem];refine Qbe7 ?_;simp only[go_sem,Qzg];have rest2:∀(E1:Env) (b:Bool),insH cs[k].regs x=true→insT cs[k].regs x=(!b)→lk 1 E1=.c (.int .i64 k)→lk 3 E1=.c (.pp [.sl fl 3 (Qj cs)])→lk 5 E1=.c (.pp [.int .i64 x.op,.int .i64 x.to,.sl false 1 (Qb x.args),.int .i64 x.n])→lk 45 E1=.c (.bool b)→
   Qah prog (s_im_insOk_8.seq Qzc) (Q3 Qkf (unK H K)) E1 H4:=by
  intro E1 b hb1 hb2 l1 l3 l5 l45;refine Qh (Qe l45 ?_ ?_)
  ·intro hc;refine Qa ?_;simp only[go_sem];refine Qk ?_;simp only[go_sem];exact retf false _ (by rw[Q6l,hrg,hb2,hc];simp) (by simp[lk])
  intro hc;rw[hc]at hb2;have hG:Q6l cs k x=insL cs k x:=by rw[Q6l,hrg,hb1,hb2];rfl
  have hop14:1≤x.op∧x.op≤14:=by
   simp only[insH,Jp,decide_eq_true_eq]at hb1;exact hb1.1
  refine Qi ?_;simp only[go_sem];refine Qy ?_;refine Qa ?_;simp only[go_sem,l1,l3,l5];refine Qh (Qf ?_);refine Qa ?_;simp only[go_sem];refine Qe rfl ?_ ?_
  ·intro hc;have hop:x.op=1:=of_decide_eq_true hc;have hL:insL cs k x=(decide ((x.args.length:Int)=0)&&(decide (0≤x.n)&&decide (x.n≤255))):=by
    rw[insL,if_neg (by omega)];simp[Qha,hop]
   refine Qa ?_;simp only[go_sem,Qd];intro _;refine⟨fun hb=>?_,fun hb=>?_⟩
   ·refine Qa8u ?_;simp only[go_sem,Qmd];refine Qk ?_;simp only[go_sem];refine retf _ _ ?_ (by simp[lk];rfl);have hb':x.args=[]:=List.length_eq_zero_iff.1 (by have:=of_decide_eq_true hb;omega);rw[hG,hL];simp[hb']
   ·simp only[go_sem,Qmd,hb];refine Qk ?_;simp only[go_sem];exact retf false _ (by rw[hG,hL,hb];rfl) (by simp[lk])
  intro hc1;have hop1:¬x.op=1:=of_decide_eq_false hc1;refine Qa ?_;simp only[go_sem];refine Qe rfl ?_ ?_
  ·intro hc;have hop:x.op=14:=of_decide_eq_true hc;rw[insL,if_pos hop]at hG;refine Qag ?_;simp only[go_sem];refine⟨Qr (by omega) (by omega),?_⟩;refine Qdh ?_;by_cases hin:0≤x.n∧x.n≤(k:Int)-1
   ·obtain⟨m,hm⟩:=Jas hin.1;have hmk:m<cs.length:=(by omega);have h1:(0≤(m:Int))=True:=eq_true (by omega);have h2:((m:Int)≤(k:Int)-1)=True:=eq_true (by omega);simp only[go_sem,Qfg,hm,h1,h2,hmk,decide_true,Bool.and_self,Q4,Qam _ _ hmk,CodeD.cells,Qd];refine Qk ?_;simp only[go_sem];refine retf _ _ ?_ (by simp[lk];rfl);rw[hG,hm,Int.toNat_natCast,Qanq hmk];simp only[h1,h2,and_self,decide_true,Jbd]
   ·have hin':(decide (0≤x.n)&&decide (x.n≤(k:Int)-1))=false:=(by simpa using hin);have hin2:decide (0≤x.n∧x.n≤(k:Int)-1)=false:=(by simpa using hin);by_cases hm:x.n.toNat<cs.length
    ·simp only[go_sem,Qfg,hin',Qam _ _ hm,CodeD.cells];refine Qk ?_;simp only[go_sem];exact retf false _ (by rw[hG,hin2];rfl) (by simp[lk])
    ·have hgd:(Qj cs).getD x.n.toNat []=[]:=by
      rw[Ja,Jt (by rw[Q4];omega)];rfl
     simp only[go_sem,Qfg,hin',hgd,List.take_nil,List.headD_nil];refine Qk ?_;simp only[go_sem];exact retf false _ (by rw[hG,hin2];rfl) (by simp[lk])
  ·intro hc;have hop:¬x.op=14:=of_decide_eq_false hc;have hA:Qha x.op=Qarg x.op:=by
    rw[Qha,Qarg,if_neg hop1,if_neg hop1];split
    ·rfl
    ·rw[if_pos (by omega)]
   have hL:insL cs k x=(decide (x.n=0)&&decide ((x.args.length:Int)=Qarg x.op)):=by
    rw[insL,if_neg hop,hA];by_cases hn:x.n=0
    ·simp[hn]
    ·simp[hn,hop1]
   refine Qi ?_;simp only[go_sem];refine Qag ?_;simp only[go_sem,Qd];refine⟨fun hb=>?_,fun hb=>?_⟩
   ·refine Qbe6 ?_;simp only[go_sem,Qjt,hb,Qd];refine Qk ?_;refine retf _ _ ?_ (by simp[lk];rfl);have hb':=of_decide_eq_true hb;rw[hG,hL];simp[hb']
   ·simp only[go_sem,Qjt,hb,Qd];refine Qk ?_;exact retf false _ (by rw[hG,hL,hb];rfl) (by simp[lk])
 have rest:∀(E1:Env) (b:Bool),insH cs[k].regs x=(!b)→lk 1 E1=.c (.int .i64 k)→lk 3 E1=.c (.pp [.sl fl 3 (Qj cs)])→lk 5 E1=.c (.pp [.int .i64 x.op,.int .i64 x.to,.sl false 1 (Qb x.args),.int .i64 x.n])→lk 8 E1=.c (.ptr x8 0)→lk 24 E1=.c (.bool b)→
   Qah prog (s_im_insOk_4.seq Qzd) (Q3 Qkf (unK H K)) E1 H4:=by
  intro E1 b hb l1 l3 l5 l8 l24;refine Qh (Qe l24 ?_ ?_)
  ·intro hc;refine Qa ?_;simp only[go_sem];refine Qk ?_;simp only[go_sem];exact retf false _ (by rw[Q6l,hrg,hb,hc];rfl) (by simp[lk])
  intro hc;rw[hc]at hb;refine Qi ?_;simp only[go_sem];refine Qy ?_;refine Qa ?_;simp only[go_sem,l1,l3,l5,l8];refine Qbja ?_
  cases hmk:Qdv x.op with
  |true=>
   simp only[go_sem,cond_true,cond_false,J7,J0,Qmc,l1,l3,l5,l8,h8];refine Qald h7 (by omega) (by omega) ?_;have hT:insT cs[k].regs x=decide (0≤x.to∧x.to≤cs[k].regs-1):=by rw[insT,hmk];rfl
   cases hd:decide (0≤x.to∧x.to≤cs[k].regs-1)with
   |true=>
    simp only[go_sem,cond_true,cond_false,J7,J0,Qg4,l1,l3,l5,l8,h8];refine Qbja ?_;simp only[go_sem,cond_true,cond_false,J7,J0,Qg3,l1,l3,l5,l8,hmk];exact rest2 _ false hb (by rw[hT,hd];rfl) (by simp[lk]) (by simp[lk]) (by simp[lk]) (by simp[lk])
   |false=>
    simp only[go_sem,cond_true,cond_false,J7,J0,Qg4,Qg3,l1,l3,l5,l8,h8];exact rest2 _ true hb (by rw[hT,hd];rfl) (by simp[lk]) (by simp[lk]) (by simp[lk]) (by simp[lk])
  |false=>
   have hT:insT cs[k].regs x=decide (x.to=-1):=by rw[insT,hmk];rfl
   simp only[go_sem,cond_true,cond_false,J7,J0,Qmc,Qg4,l1,l3,l5,l8,h8];refine Qbja ?_;simp only[go_sem,cond_true,cond_false,J7,J0,Qg3,l1,l3,l5,l8,hmk];refine rest2 _ (!decide (x.to=-1)) hb ?_ ?_ ?_ ?_ ?_
   ·rw[hT];simp
   ·rfl
   ·rfl
   ·rfl
   ·rfl
 cases hi:(decide (1≤x.op)&&decide (x.op≤14))with
 |false=>
  simp only[go_sem,Qmb];refine rest _ true ?_ (by simp[lk]) (by simp[lk]) (by simp[lk]) (by simp[lk]) (by simp[lk]);have:decide (1≤x.op∧x.op≤14)=false:=by simpa using hi
  rw[insH,this];rfl
 |true=>
  simp only[go_sem,h8];refine Qe9 (p:=fun r=>!decide (0≤r∧r≤cs[k].regs-1)) (.mk' _ _ _ _) rfl (fun v K' hv hK'=>Qbak h7 h8 (by omega) (by omega) hK') ?_;simp only[go_sem,Qmb];refine rest _ (x.args.any fun r=>!decide (0≤r∧r≤cs[k].regs-1)) ?_ (by simp[lk]) (by simp[lk]) (by simp[lk]) (by simp[lk]) (by simp[lk]);have:decide (1≤x.op∧x.op≤14)=true:=by simpa using hi
  rw[insH,this,Qa0n,Qpw];simp
end Go.AE.Y
namespace Go.AE.Y
attribute [local go_sem] cond_true cond_false Bool.not_true Bool.not_false
open Go.Proofs.Tryz
variable {H:Heap}{K:V→Heap→Prop}
theorem Qara {fl:Bool}{l:List InsD}{f:Nat}{caps:List C}{p:InsD→Bool}
  (hf:∀(x:InsD) (H1:Heap) (K':V→Heap→Prop),x∈l→(∀H2,Upd H1 H2 []→K' (.c (.bool (p x))) H2)→Qs prog f ([.ag x.cells]++caps.map .c) H1 K')
  (hK:∀(r:Int) (H':Heap),Upd H H' []→decide (0≤r)=l.any p→K (.c (.int .i64 r)) H') :
  Qs prog Qdk [.c (.sl fl 4 (Qaq l)),.c (.fn f caps)] H K:=by
 refine Qx ?_;refine Qc Qaj Qyj ?_;refine Qa ?_;simp only[go_sem];refine Qy ?_;refine Qa ?_;simp only[go_sem,Qal];intro hl;simp only[LIM]at hl;refine Qh (Qf (Qw (fun m e1 H1=>∃(i:Nat),m=l.length-i∧i≤l.length∧Kn H H1 [] []∧(∀x∈l.take i,p x=false)∧e1=[(0,.c (.sl fl 4 (Qaq l))),(1,.c (.fn f caps)),(7,.c (.int .i64 l.length)),(8,.c (.int .i64 i))]) l.length ?_ ?_))
 ·exact⟨0,by omega,by omega,Kn.start0 H,by simp,rfl⟩
 ·rintro m e1 H1 ⟨i,hm,hi,kn,hall,rfl⟩;refine Qa ?_;simp only[go_sem];refine Qh (Qe rfl ?_ ?_)
  ·intro hc;have hlt:i<l.length:=by simpa using hc
   refine Qi ?_;simp only[go_sem];refine Qh (Qf ?_);refine Qa ?_;simp only[go_sem];refine Qa ?_;simp only[go_sem,hlt,Qal,Qb7 _ _ hlt,InsD.take4,InsD.allOw,InsD.len4];refine hf _ _ _ (Jd hlt) fun H2 hu=>?_;have kn:=kn.call0 hu;refine Qe rfl ?_ ?_
   ·intro hc2;refine Qa ?_;simp only[go_sem];refine Qk ?_;simp only[go_sem,X.next,Q3,Qab,Qd9,Jb,forall_eq,RS.op];refine⟨_,.c _ _ (Qg rfl),hK _ _ kn.fin ?_⟩;have:l.any p=true:=Jaj.2 ⟨_,Jd hlt,hc2⟩;rw[this];simp
   ·intro hc2;refine Qi ?_;simp only[go_sem];refine Qq ?_;simp only[go_sem,X.next];refine⟨Qr (by omega) (by omega),l.length-(i+1),by omega,i+1,rfl,by omega,kn,?_,rfl⟩;rw[Je hlt];intro x hx;rcases Jg.1 hx with hx|hx
    ·exact hall x hx
    ·simp only[Jb]at hx;subst hx;exact hc2
  ·intro hc;have hge:l.length≤i:=by simpa using hc
   rw[Jc hge]at hall;refine Qv ?_;simp only[go_sem,X.next];refine Qa ?_;simp only[go_sem];refine Qk ?_;simp only[go_sem,Q3,Qab,Qd9,Jb,forall_eq,RS.op];refine⟨_,.c _ _ (Qg rfl),hK _ _ kn.fin ?_⟩;have:l.any p=false:=by
    cases hc:l.any p with
    |false=>rfl
    |true=>obtain⟨x,hx,hp⟩:=Jaj.1 hc;rw[hall x hx]at hp;exact absurd hp (by simp)
   rw[this];rfl
theorem Q9j {fl:Bool}{l:List InsD}{f:Nat}{caps:List C}{p:InsD→Bool}
  (hf:∀(x:InsD) (H1:Heap) (K':V→Heap→Prop),x∈l→(∀H2,Upd H1 H2 []→K' (.c (.bool (p x))) H2)→Qs prog f ([.ag x.cells]++caps.map .c) H1 K')
  (hK:∀(H':Heap),Upd H H' []→K (.c (.bool (l.any p))) H') :
  Qs prog Qcl [.c (.sl fl 4 (Qaq l)),.c (.fn f caps)] H K:=by
 refine Qc Qaj Qpj ?_;refine Qa ?_;simp only[go_sem];refine Qa ?_;simp only[go_sem];refine Qara hf fun r H' hu hr=>?_;simp only[go_sem,Qd0];refine Qk ?_;simp only[go_sem,Q3,Qab,Qfq,Jb,forall_eq,RS.op];rw[hr];exact hK _ hu
theorem Qwl {x5:Nat}{q:CodeD}{v:Int}(h5:H x5=.st q.cells)(hr:-(2^62)≤q.regs)(hr2:q.regs≤2^62)(hK:K (.c (.bool (decide (0≤v∧v≤q.regs-1)))) H) :
  Qs prog Qak [.c (.int .i64 v),.c (.ptr x5 0)] H K:=by
 refine Qc Qaj Qahb ?_;refine Qa ?_;simp only[go_sem];refine Qa ?_;simp only[go_sem,h5,CodeD.cells];refine⟨Qr (by omega) (by omega),?_⟩;refine Qdh ?_;simp only[go_sem,Qkx];refine Qk ?_;simp only[go_sem,Q3,Qab,Qu9,Jb,forall_eq,RS.op];have e:(decide (0≤v)&&decide (v≤q.regs-1))=decide (0≤v∧v≤q.regs-1):=by simp
 rw[e];exact hK
theorem Qa0q {x5:Nat}{q:CodeD}{v:Int}(h5:H x5=.st q.cells)(hb:q.blocks.length≤2 ^ 38)(hK:K (.c (.bool (!Q6q (Qm q.blocks).length v))) H) :
  Qs prog Qhg [.c (.int .i64 v),.c (.ptr x5 0)] H K:=by
 refine Qc Qaj Qahc ?_;refine Qa ?_;simp only[go_sem];refine Qa ?_;simp only[go_sem,h5,CodeD.cells,Qo];intro _;refine⟨Qr (by omega) (by omega),?_⟩;refine Qdh ?_;simp only[go_sem,Qky];refine Qk ?_;simp only[go_sem,Q3,Qab,Qva,Jb,forall_eq,RS.op];have e:(decide (1≤v)&&decide (v≤(q.blocks.length:Int)-1))=Q6q (Qm q.blocks).length v:=by simp[Q6q,Qo]
 rw[e];exact hK
theorem Qa0r {cs:List CodeD}{fl:Bool}{k:Nat}{x:InsD}(hk:k<cs.length)(hr:0≤cs[k].regs)(hr2:cs[k].regs≤300)(hcl:cs.length≤100)(hK:∀(H':Heap),Upd H H' []→K (.c (.bool (!Q6l cs k x))) H') :
  Qs prog Qhh [.ag x.cells,.c (.pp [.sl fl 3 (Qj cs)]),.c (.pp [.int .i64 k])] H K:=by
 refine Qc Qaj Qahd ?_;refine Qa ?_;simp only[go_sem,InsD.cells];refine Qa ?_;simp only[go_sem];refine Qbps hk hr hr2 hcl fun H' hu=>?_;simp only[go_sem,Qkz];refine Qk ?_;simp only[go_sem,Q3,Qab,Qvb,Jb,forall_eq,RS.op];exact hK _ hu
theorem Qa0s {x5 x6:Nat}{q:CodeD}{v:Int}(h5:H x5=.st q.cells)(h6:H x6=.st [.fn Qak [.ptr x5 0]])(hr:-(2^62)≤q.regs)(hr2:q.regs≤2^62)(hK:K (.c (.bool (!decide (0≤v∧v≤q.regs-1)))) H) :
  Qs prog Qhi [.c (.int .i64 v),.c (.ptr x6 0)] H K:=by
 refine Qc Qaj Qahe ?_;refine Qa ?_;simp only[go_sem];refine Qa ?_;simp only[go_sem,h6,J3,J2,Jw,J4];refine Qwl h5 hr hr2 ?_;simp only[go_sem,Qk0];refine Qk ?_;simp only[go_sem,Q3,Qab,Qvc,Jb,forall_eq,RS.op];exact hK
attribute [local instance] Classical.propDecidable
def blkC (b:BlkD):Obj:=.st [.sl false 2 (Q1 b.phis),.sl false 4 (Qaq b.ins),.int .i64 b.jump,.int .i64 b.on,.sl false 1 (Qb b.next)]
theorem Qarm {cs:List CodeD}{k:Nat}{hk:k<cs.length}(h:¬Qag3 cs k hk):decide (Qag3 cs k hk)=false:=decide_eq_false h
set_option maxHeartbeats 2000000 in
theorem Qbj4 {cs:List CodeD}{fl:Bool}{k:Nat}(hk:k<cs.length)(hcl:cs.length≤100)(hfit:cs[k].fits)(hK:∀(H':Heap),Upd H H' []→K (.c (.bool (decide (Qag3 cs k hk)))) H') :
  Qs prog Qo5 [.ag [.sl fl 3 (Qj cs)],.c (.int .i64 k)] H K:=by
 refine Qx ?_;refine Qc Qaj Qa1c ?_;have retf:∀(v:Bool) (e:Env) (H':Heap) (L:List (Nat×Obj)),decide (Qag3 cs k hk)=v→Kn H H' [] L→lk 4 e=.c (.bool v)→Q3 Qht (unK H K) .ret e H':=by
  intro v e H' L hb kn h3;simp only[go_sem,Q3,Qab,Qht,Jb,forall_eq,RS.op,h3];rw[←hb];exact⟨_,.c _ _ (Qg rfl),hK _ kn.fin⟩
 obtain⟨q,hq⟩:∃q,cs[k]=q:=⟨_,rfl⟩;have hP:Qag3 cs k hk=(Qpf q=true∧∀(b:Nat) (h:b<q.blocks.length),Q84 cs k b q q.blocks[b]=true):=by subst hq;rfl
 refine Qa ?_;simp only[go_sem];refine Qa ?_;simp only[go_sem,hk,Q4,Qam _ _ hk,CodeD.cells,hq];intro x5 hx5 H1 h1;have kn:=(Kn.start0 H).al hx5 h1;have hx5:=kn.l 0 rfl;simp only[go_sem,Qvn,hx5];intro H2 h2;have kn:Kn H H2 [] [(x5,.st q.cells)]:=kn.stL 0 rfl h2;have hx5:H2 x5=.st [.int .i64 q.params,.int .i64 q.regs,.sl false 5 (Qm q.blocks)]:=kn.l 0 rfl;refine Qy ?_;refine Qa ?_;simp only[go_sem,hx5];refine Qdh ?_;have rest0:∀(b:Bool) (E1:Env),Qpf q=(!b)→lk 2 E1=.c (.pp [.sl fl 3 (Qj cs)])→lk 3 E1=.c (.pp [.int .i64 k])→lk 5 E1=.c (.ptr x5 0)→lk 36 E1=.c (.bool b)→
   Qah prog (s_im_codeOk_4.seq Qvm) (Q3 Qht (unK H K)) E1 H2:=by
  intro b E1 hb l2 l3 l5 l36;refine Qh (Qe l36 ?_ ?_)
  ·intro hc;refine Qa ?_;simp only[go_sem];refine Qk ?_;simp only[go_sem];exact retf false _ _ _ (Qarm fun h=>by rw[hP,hb,hc]at h;simp at h) kn (by simp[lk])
  intro hc;rw[hc]at hb;have hb':=hb;simp only[Qpf,J0,Jp,decide_eq_true_eq]at hb';obtain⟨hr0,hr1,hb0,hbl⟩:0≤q.regs∧q.regs≤300∧0<q.blocks.length∧q.blocks.length≤160:=by omega
  refine Qi ?_;simp only[go_sem];refine Qa ?_;simp only[go_sem,l2,l3,l5];intro x6 hx6 H3 h3;have kn:=kn.al hx6 h3;have hx6:=kn.l 1 rfl;simp only[go_sem,Qvo,hx6,l2,l3,l5];intro H4 h4;have kn:Kn H H4 [] [(x5,.st q.cells),(x6,.st [.fn Qak [.ptr x5 0]])]:=kn.stL 1 rfl h4;have hx5:H4 x5=.st [.int .i64 q.params,.int .i64 q.regs,.sl false 5 (Qm q.blocks)]:=kn.l 0 rfl;refine Qy ?_;refine Qa ?_;simp only[go_sem,hx5,Qo];intro _;refine Qh (Qf (Qw (fun m e1 H1=>∃(j:Nat),m=q.blocks.length-j∧j≤q.blocks.length∧(∀(i:Nat) (hi:i<q.blocks.length),i<j→Q84 cs k i q q.blocks[i]=true)∧Kn H H1 [] [(x5,.st q.cells),(x6,.st [.fn Qak [.ptr x5 0]])]∧
   e1=[(2,.c (.pp [.sl fl 3 (Qj cs)])),(3,.c (.pp [.int .i64 k])),(5,.c (.ptr x5 0)),(6,.c (.ptr x6 0)),(39,.c (.sl false 5 (Qm q.blocks))),(40,.c (.int .i64 q.blocks.length)),(41,.c (.int .i64 j))]) q.blocks.length ?_ ?_))
  ·exact⟨0,by omega,by omega,fun _ _ h=>by omega,kn,rfl⟩
  ·rintro m e1 H5 ⟨j,hm,hj,hdone,kn,rfl⟩;refine Qa ?_;simp only[go_sem];refine Qh (Qe rfl ?_ ?_)
   ·intro hc1;have hlt:j<q.blocks.length:=(by simpa using hc1);have hbf:q.blocks[j].ins.length≤2 ^ 38∧q.blocks[j].phis.length≤2 ^ 38:=(by subst hq;exact hfit _ (Jd hlt));refine Qi ?_;simp only[go_sem];refine Qd2 (fun e2 H2=>Kn H H2 [] [(x5,.st q.cells),(x6,.st [.fn Qak [.ptr x5 0]])]∧Q84 cs k j q q.blocks[j]=true∧lk 2 e2=.c (.pp [.sl fl 3 (Qj cs)])∧lk 3 e2=.c (.pp [.int .i64 k])∧lk 5 e2=.c (.ptr x5 0)∧lk 6 e2=.c (.ptr x6 0)∧
     lk 39 e2=.c (.sl false 5 (Qm q.blocks))∧lk 40 e2=.c (.int .i64 q.blocks.length)∧lk 41 e2=.c (.int .i64 j)) ?_ ?_
    ·intro Q hnr hrt _;replace hrt:∀e H',Q3 Qht (unK H K) .ret e H'→Q .ret e H':=fun e H' h=>hrt e H' (by simpa only[go_sem,X.next]using h);have retq:∀(e:Env) (H':Heap) (L:List (Nat×Obj)),Q84 cs k j q q.blocks[j]=false→Kn H H' [] L→lk 4 e=.c (.bool false)→Q .ret e H':=fun e H' L hb kn l4=>
      hrt e H' (retf false e H' L (Qarm fun h=>by rw[hP]at h;rw[h.2 j hlt]at hb;exact absurd hb (by simp)) kn l4)
     have hGd:Q84 cs k j q q.blocks[j]=(Qor q.regs q.blocks[j]&&q.blocks[j].next.all (Q6q (Qm q.blocks).length)&&q.blocks[j].ins.all (Q6l cs k)&&q.blocks[j].phis.all (phiG q.regs (Q8 (gnx q) (j:Int) (Qm q.blocks).length).length j)):=rfl;refine Qf ?_;refine Qa ?_;simp only[go_sem,hlt,Qo,Qaa _ _ hlt,BlkD.cells];obtain⟨y,hy⟩:∃y,q.blocks[j]=y:=⟨_,rfl⟩;rw[hy]at hGd retq hbf hnr;rw[hy];intro x8 hx8 H6 h6;have kn:=kn.al hx8 h6;have hx8:=kn.l 2 rfl;simp only[go_sem,Qvp,hx8];intro H7 h7;have kn:Kn H H7 [] [(x5,.st q.cells),(x6,.st [.fn Qak [.ptr x5 0]]),(x8,blkC y)]:=kn.stL 2 rfl h7;have hx5:H7 x5=.st [.int .i64 q.params,.int .i64 q.regs,.sl false 5 (Qm q.blocks)]:=kn.l 0 rfl;have hx5':H7 x5=.st q.cells:=kn.l 0 rfl;have hx6:=kn.l 1 rfl;have hx8:H7 x8=.st [.sl false 2 (Q1 y.phis),.sl false 4 (Qaq y.ins),.int .i64 y.jump,.int .i64 y.on,.sl false 1 (Qb y.next)]:=kn.l 2 rfl;have rest3:∀(E1:Env) (H8:Heap),Qor q.regs y=true→y.next.all (Q6q (Qm q.blocks).length)=true→y.ins.all (Q6l cs k)=true→Kn H H8 [] [(x5,.st q.cells),(x6,.st [.fn Qak [.ptr x5 0]]),(x8,blkC y)]→
       lk 2 E1=.c (.pp [.sl fl 3 (Qj cs)])→lk 3 E1=.c (.pp [.int .i64 k])→lk 5 E1=.c (.ptr x5 0)→lk 6 E1=.c (.ptr x6 0)→lk 7 E1=.c (.int .i64 j)→lk 8 E1=.c (.ptr x8 0)→
       lk 39 E1=.c (.sl false 5 (Qm q.blocks))→lk 40 E1=.c (.int .i64 q.blocks.length)→lk 41 E1=.c (.int .i64 j)→Qah prog Qjr (X.inBlock 1 Q) E1 H8:=by
      intro E1 H8 g1 g2 g3 kn l2 l3 l5 l6 l7 l8 l39 l40 l41;have hx5:H8 x5=.st [.int .i64 q.params,.int .i64 q.regs,.sl false 5 (Qm q.blocks)]:=kn.l 0 rfl;have hin:(decide (0≤(j:Int))&&decide ((j:Int)≤((Qm q.blocks).length:Int)-1))=true:=(by rw[Qo];simp;omega);refine Qa ?_;simp only[go_sem,hx5,l2,l3,l5,l6,l7,l8,l39,l40,l41];refine Qarc (rows:=Qm q.blocks) (nx:=gnx q) (Qg0 _ q false) fun fl' H9 hu=>?_;have kn:=kn.call0 hu;rw[Q1t,if_pos hin];generalize hnp:Q8 (gnx q) (j:Int) (Qm q.blocks).length=ps;rw[hnp]at hGd;simp only[go_sem,Qp7,l2,l3,l5,l6,l7,l8,l39,l40,l41,Qd];intro _;have hx8:H9 x8=.st [.sl false 2 (Q1 y.phis),.sl false 4 (Qaq y.ins),.int .i64 y.jump,.int .i64 y.on,.sl false 1 (Qb y.next)]:=kn.l 2 rfl;refine Qa ?_;simp only[go_sem,hx8,Q0];intro _;refine Qf (Qw (fun m e1 H1=>∃(i:Nat),m=y.phis.length-i∧i≤y.phis.length∧(y.phis.take i).all (phiG q.regs ps.length j)=true∧Kn H H1 [] [(x5,.st q.cells),(x6,.st [.fn Qak [.ptr x5 0]])]∧
       e1=[(2,.c (.pp [.sl fl 3 (Qj cs)])),(3,.c (.pp [.int .i64 k])),(5,.c (.ptr x5 0)),(6,.c (.ptr x6 0)),(7,.c (.int .i64 j)),(9,.c (.int .i64 ps.length)),(39,.c (.sl false 5 (Qm q.blocks))),(40,.c (.int .i64 q.blocks.length)),(41,.c (.int .i64 j)),(91,.c (.sl false 2 (Q1 y.phis))),(92,.c (.int .i64 y.phis.length)),(93,.c (.int .i64 i))]) y.phis.length ?_ ?_)
      ·exact⟨0,by omega,by omega,rfl,kn.drop (A:=[_,_]),rfl⟩
      ·rintro m2 e1 H10 ⟨i,hm2,hi,hall,kn,rfl⟩;refine Qa ?_;simp only[go_sem];refine Qh (Qe rfl ?_ ?_)
       ·intro hc2;have hil:i<y.phis.length:=(by simpa using hc2);refine Qi ?_;simp only[go_sem];refine Qh (Qf ?_);refine Qa ?_;simp only[go_sem,hil,Q0,Qaw _ _ hil,PhiD.cells];obtain⟨z,hz⟩:∃z,y.phis[i]=z:=⟨_,rfl⟩;rw[hz];intro x11 hx11 H11 h11;have kn:=kn.al hx11 h11;have hx11:=kn.l 2 rfl;simp only[go_sem,Qp8,hx11];intro H12 h12;have kn:Kn H H12 [] ([(x5,.st q.cells),(x6,.st [.fn Qak [.ptr x5 0]])]++[(x11,.st [.int .i64 z.to,.sl false 1 (Qb z.args)])]):=kn.stL 2 rfl h12;have hx5':H12 x5=.st q.cells:=kn.l 0 rfl;have hx6:=kn.l 1 rfl;have hx11:=kn.l 2 rfl;have fin:∀(b3:Bool) (E1:Env),phiG q.regs ps.length j z=(!b3)→lk 2 E1=.c (.pp [.sl fl 3 (Qj cs)])→lk 3 E1=.c (.pp [.int .i64 k])→lk 5 E1=.c (.ptr x5 0)→lk 6 E1=.c (.ptr x6 0)→lk 7 E1=.c (.int .i64 j)→lk 9 E1=.c (.int .i64 ps.length)→
          lk 39 E1=.c (.sl false 5 (Qm q.blocks))→lk 40 E1=.c (.int .i64 q.blocks.length)→lk 41 E1=.c (.int .i64 j)→lk 91 E1=.c (.sl false 2 (Q1 y.phis))→lk 92 E1=.c (.int .i64 y.phis.length)→lk 93 E1=.c (.int .i64 i)→lk 118 E1=.c (.bool b3)→
          Qah prog Qvj (X.inBlock 3 (X.sq prog Qvk (X.next (fun e2 H2=>∃m,m<m2∧∃(i:Nat),m=y.phis.length-i∧i≤y.phis.length∧(y.phis.take i).all (phiG q.regs ps.length j)=true∧Kn H H2 [] [(x5,.st q.cells),(x6,.st [.fn Qak [.ptr x5 0]])]∧
           e2=[(2,.c (.pp [.sl fl 3 (Qj cs)])),(3,.c (.pp [.int .i64 k])),(5,.c (.ptr x5 0)),(6,.c (.ptr x6 0)),(7,.c (.int .i64 j)),(9,.c (.int .i64 ps.length)),(39,.c (.sl false 5 (Qm q.blocks))),(40,.c (.int .i64 q.blocks.length)),(41,.c (.int .i64 j)),(91,.c (.sl false 2 (Q1 y.phis))),(92,.c (.int .i64 y.phis.length)),(93,.c (.int .i64 i))])
           (X.inBlock 2 (X.inBlock 1 Q))))) E1 H12:=by
         intro b3 E1 hph l2 l3 l5 l6 l7 l9 l39 l40 l41 l91 l92 l93 l118;refine Qe l118 ?_ ?_
         ·intro hc3;refine Qa ?_;simp only[go_sem];refine Qk ?_;simp only[go_sem,X.next];exact retq _ _ _ (by rw[hGd,Qamh hil (by rw[hz,hph,hc3];rfl)];simp) kn (by simp[lk])
         ·intro hc3;refine Qi ?_;simp only[go_sem];refine Qq ?_;simp only[go_sem,X.next,l2,l3,l5,l6,l7,l9,l39,l40,l41,l91,l92,l93];exact⟨Qr (by omega) (by omega),y.phis.length-(i+1),by omega,i+1,rfl,by omega,by rw[Q83 hil,hall,hz,hph,hc3];rfl,kn.drop,rfl⟩
        have hpG:phiG q.regs ps.length j z=(!decide (j=0)&&decide ((z.args.length:Int)=ps.length)&&Qpw q.regs z.args&&decide (0≤z.to∧z.to≤q.regs-1)):=rfl;refine Qa ?_;simp only[go_sem]
        cases hj0:decide ((j:Int)=0)with
        |true=>
         have hj0':decide (j=0)=true:=(by simpa using hj0);simp only[go_sem,Qcu,Qct];exact fin true _ (by rw[hpG,hj0'];rfl) (by simp[lk]) (by simp[lk]) (by simp[lk]) (by simp[lk]) (by simp[lk]) (by simp[lk]) (by simp[lk]) (by simp[lk]) (by simp[lk]) (by simp[lk]) (by simp[lk]) (by simp[lk]) (by simp[lk])
        |false=>
         have hj0':decide (j=0)=false:=(by simpa using hj0);simp only[go_sem,hx11,hx6,J3,J2,Jw,J4];refine Qwl hx5' (by omega) (by omega) ?_
         cases ht:decide (0≤z.to∧z.to≤q.regs-1)with
         |false=>
          simp only[go_sem,Qcu,Qct];exact fin true _ (by rw[hpG,ht];simp) (by simp[lk]) (by simp[lk]) (by simp[lk]) (by simp[lk]) (by simp[lk]) (by simp[lk]) (by simp[lk]) (by simp[lk]) (by simp[lk]) (by simp[lk]) (by simp[lk]) (by simp[lk]) (by simp[lk])
         |true=>
          by_cases hal:(z.args.length:Int)=ps.length
          ·simp only[go_sem,Qcu,hx11,Qd,hal,not_true_eq_false,decide_false,decide_true,J7];intro _;refine Qe9 (p:=fun r=>!decide (0≤r∧r≤q.regs-1)) (.mk' _ _ _ _) rfl (fun v K' hv hK'=>Qa0s hx5' hx6 (by omega) (by omega) hK') ?_;simp only[go_sem,Qct];refine fin (z.args.any fun r=>!decide (0≤r∧r≤q.regs-1)) _ ?_ (by simp[lk]) (by simp[lk]) (by simp[lk]) (by simp[lk]) (by simp[lk]) (by simp[lk]) (by simp[lk]) (by simp[lk]) (by simp[lk]) (by simp[lk]) (by simp[lk]) (by simp[lk]) (by simp[lk]);rw[hpG,hj0',ht,Qa0n,hal,Qpw];simp
          ·simp only[go_sem,Qcu,Qct,hx11,Qd,hal,not_false_eq_true,decide_false,decide_true,J0];intro _;exact fin true _ (by rw[hpG];simp[hal]) (by simp[lk]) (by simp[lk]) (by simp[lk]) (by simp[lk]) (by simp[lk]) (by simp[lk]) (by simp[lk]) (by simp[lk]) (by simp[lk]) (by simp[lk]) (by simp[lk]) (by simp[lk]) (by simp[lk])
       ·intro hc2;have hge:y.phis.length≤i:=(by simpa using hc2);rw[Jc hge]at hall;refine Qv ?_;simp only[go_sem,X.next];exact hnr _ _ ⟨kn,by rw[hGd,g1,g2,g3,hall];rfl,rfl,rfl,rfl,rfl,rfl,rfl,rfl⟩
     have rest2:∀(b1:Bool) (E1:Env),Qor q.regs y=(!b1)→lk 2 E1=.c (.pp [.sl fl 3 (Qj cs)])→lk 3 E1=.c (.pp [.int .i64 k])→lk 5 E1=.c (.ptr x5 0)→lk 6 E1=.c (.ptr x6 0)→lk 7 E1=.c (.int .i64 j)→lk 8 E1=.c (.ptr x8 0)→
       lk 39 E1=.c (.sl false 5 (Qm q.blocks))→lk 40 E1=.c (.int .i64 q.blocks.length)→lk 41 E1=.c (.int .i64 j)→lk 75 E1=.c (.bool b1)→Qah prog (s_im_codeOk_11.seq Qvl) (X.inBlock 1 Q) E1 H7:=by
      intro b1 E1 hb1 l2 l3 l5 l6 l7 l8 l39 l40 l41 l75;refine Qh (Qe l75 ?_ ?_)
      ·intro hc2;refine Qa ?_;simp only[go_sem];refine Qk ?_;simp only[go_sem];exact retq _ _ _ (by rw[hGd,hb1,hc2];simp) kn (by simp[lk])
      intro hc2;rw[hc2]at hb1;refine Qi ?_;simp only[go_sem];refine Qy ?_;refine Qa ?_;simp only[go_sem,hx8,l2,l3,l5,l6,l7,l8,l39,l40,l41];refine Qe9 (p:=fun v=>!Q6q (Qm q.blocks).length v) (.mk' _ _ _ _) rfl (fun v K' hv hK'=>Qa0q hx5' (by omega) hK') ?_;have fin:∀(b:Bool) (E1:Env) (H8:Heap),(y.next.all (Q6q (Qm q.blocks).length)&&y.ins.all (Q6l cs k))=(!b)→Kn H H8 [] [(x5,.st q.cells),(x6,.st [.fn Qak [.ptr x5 0]]),(x8,blkC y)]→lk 2 E1=.c (.pp [.sl fl 3 (Qj cs)])→lk 3 E1=.c (.pp [.int .i64 k])→lk 5 E1=.c (.ptr x5 0)→lk 6 E1=.c (.ptr x6 0)→lk 7 E1=.c (.int .i64 j)→lk 8 E1=.c (.ptr x8 0)→
        lk 39 E1=.c (.sl false 5 (Qm q.blocks))→lk 40 E1=.c (.int .i64 q.blocks.length)→lk 41 E1=.c (.int .i64 j)→lk 85 E1=.c (.bool b)→Qah prog (s_im_codeOk_14.seq Qjr) (X.inBlock 1 Q) E1 H8:=by
       intro b E1 H8 hb kn l2 l3 l5 l6 l7 l8 l39 l40 l41 l85;refine Qh (Qe l85 ?_ ?_)
       ·intro hc3;refine Qa ?_;simp only[go_sem];refine Qk ?_;simp only[go_sem];exact retq _ _ _ (by rw[hGd,Bool.and_assoc (Qor _ _),hb,hc3];simp) kn (by simp[lk])
       ·intro hc3;rw[hc3]at hb;simp only[J0,Jp]at hb;refine Qi ?_;simp only[go_sem];exact rest3 E1 H8 hb1 hb.1 hb.2 kn l2 l3 l5 l6 l7 l8 l39 l40 l41
      rw[Qa0n]
      cases ha:y.next.all (Q6q (Qm q.blocks).length)with
      |false=>
       simp only[go_sem,Qh5,Qh4,l2,l3,l5,l6,l7,l8,l39,l40,l41];exact fin true _ _ (by rw[ha];rfl) kn (by simp[lk]) (by simp[lk]) (by simp[lk]) (by simp[lk]) (by simp[lk]) (by simp[lk]) (by simp[lk]) (by simp[lk]) (by simp[lk]) (by simp[lk])
      |true=>
       simp only[go_sem,Qh5,hx8,l2,l3,l5,l6,l7,l8,l39,l40,l41];refine Q9j (p:=fun x=>!Q6l cs k x) (fun x H1 K' hx hK'=>Qa0r hk (by rw[hq];exact hr0) (by rw[hq];exact hr1) hcl hK') fun H8 hu=>?_;have kn:=kn.call0 hu;simp only[go_sem,Qh4,l2,l3,l5,l6,l7,l8,l39,l40,l41];refine fin (y.ins.any fun x=>!Q6l cs k x) _ _ ?_ kn (by simp[lk]) (by simp[lk]) (by simp[lk]) (by simp[lk]) (by simp[lk]) (by simp[lk]) (by simp[lk]) (by simp[lk]) (by simp[lk]) (by simp[lk]);rw[ha,←List.not_all_eq_any_not];simp
     refine Qy ?_;refine Qag ?_;simp only[go_sem,hx8,Qd];refine Qa1t ?_;have hjG:Qor q.regs y=(decide ((y.next.length:Int)=Qd1 y.jump)&&if y.jump=1 then decide (y.on=0)else decide (0≤y.on∧y.on≤q.regs-1)):=rfl;by_cases hn:(y.next.length:Int)=Qd1 y.jump
     ·have hjmp:y.jump=1∨(y.jump=2∨y.jump=3)∧¬y.jump=1:=by
       rw[Qd1]at hn;split at hn
       ·exact .inl ‹_›
       ·split at hn
        ·omega
        ·split at hn
         ·omega
         ·omega
      simp only[go_sem,Qh3,hx8,Qd,hn,not_true_eq_false,decide_false,decide_true,J7];refine Qaq9 ?_;rcases hjmp with h1|⟨h1,h2⟩
      ·have hu:(decide (y.jump=2) || decide (y.jump=3))=false:=(by simp[h1]);simp only[go_sem,Qff,Qdd,hu,hx8];refine Qaq9 ?_;simp only[go_sem,Qdc,hu,hx8];exact rest2 (!decide (y.on=0)) _ (by rw[hjG,if_pos h1,hn];simp) (by simp[lk]) (by simp[lk]) (by simp[lk]) (by simp[lk]) (by simp[lk]) (by simp[lk]) (by simp[lk]) (by simp[lk]) (by simp[lk]) (by simp[lk])
      ·have hu:(decide (y.jump=2) || decide (y.jump=3))=true:=(by simpa using h1);simp only[go_sem,Qff,hu,hx8,hx6,J3,J2,Jw,J4];refine Qwl hx5' (by omega) (by omega) ?_
       cases ho:decide (0≤y.on∧y.on≤q.regs-1)with
       |true=>
        simp only[go_sem,Qdd,hx8];refine Qaq9 ?_;simp only[go_sem,Qdc,hu,hx8];exact rest2 false _ (by rw[hjG,if_neg h2,hn,ho];simp) (by simp[lk]) (by simp[lk]) (by simp[lk]) (by simp[lk]) (by simp[lk]) (by simp[lk]) (by simp[lk]) (by simp[lk]) (by simp[lk]) (by simp[lk])
       |false=>
        simp only[go_sem,Qdd,Qdc,hx8];exact rest2 true _ (by rw[hjG,if_neg h2,ho];simp) (by simp[lk]) (by simp[lk]) (by simp[lk]) (by simp[lk]) (by simp[lk]) (by simp[lk]) (by simp[lk]) (by simp[lk]) (by simp[lk]) (by simp[lk])
     ·simp only[go_sem,Qh3,Qff,Qdd,Qdc,hx8,Qd,hn,not_false_eq_true,decide_false,decide_true,J0];exact rest2 true _ (by rw[hjG];simp[hn]) (by simp[lk]) (by simp[lk]) (by simp[lk]) (by simp[lk]) (by simp[lk]) (by simp[lk]) (by simp[lk]) (by simp[lk]) (by simp[lk]) (by simp[lk])
    ·rintro e2 H8 ⟨kn,hbg,l2,l3,l5,l6,l39,l40,l41⟩;refine Qq ?_;simp only[go_sem,X.next,l2,l3,l5,l6,l39,l40,l41];refine⟨Qr (by omega) (by omega),q.blocks.length-(j+1),by omega,j+1,rfl,by omega,fun i hi hij=>?_,kn,rfl⟩;by_cases h:i<j
     ·exact hdone i hi h
     ·have:i=j:=(by omega);subst this;exact hbg
   ·intro hc1;have hge:q.blocks.length≤j:=(by simpa using hc1);refine Qv ?_;simp only[go_sem,X.next];refine Qa ?_;simp only[go_sem];refine Qk ?_;exact retf true _ _ _ (decide_eq_true (by rw[hP];exact⟨by rw[hb];rfl,fun b h=>hdone b h (by omega)⟩)) kn (by simp[lk])
 have hH:Qpf q=(decide (0≤q.params∧q.params≤3)&&decide (q.params≤q.regs∧q.regs≤300)&&decide (1≤(q.blocks.length:Int)∧(q.blocks.length:Int)≤160)):=rfl;by_cases hr:0≤q.regs∧q.regs≤300
 ·have hr':(decide (0≤q.regs)&&decide (q.regs≤300))=true:=by simpa using hr
  simp only[go_sem,Qjs,hr',hx5];refine Qdh ?_;by_cases hp:0≤q.params∧q.params≤3∧q.params≤q.regs
  ·have hp':(decide (0≤q.params)&&decide (q.params≤if q.regs<3 then q.regs else 3))=true:=by
    split <;> simp <;> omega
   simp only[go_sem,Qfe,hp',hx5,Qo];intro _;refine Qdh ?_;simp only[go_sem,Qfd];refine rest0 _ _ ?_ (by simp[lk]) (by simp[lk]) (by simp[lk]) (by simp[lk];rfl);have a1:decide (0≤q.params∧q.params≤3)=true:=by simp;omega
   have a2:decide (q.params≤q.regs∧q.regs≤300)=true:=by simp;omega
   rw[hH,a1,a2];simp
  ·have hp':(decide (0≤q.params)&&decide (q.params≤if q.regs<3 then q.regs else 3))=false:=by
    split <;> simp <;> omega
   simp only[go_sem,Qfe,Qfd,hp',hx5];refine rest0 true _ ?_ (by simp[lk]) (by simp[lk]) (by simp[lk]) (by simp[lk]);rw[hH];simp;omega
 ·have hr':(decide (0≤q.regs)&&decide (q.regs≤300))=false:=by simpa using hr
  simp only[go_sem,Qjs,Qfe,Qfd,hr',hx5];refine rest0 true _ ?_ (by simp[lk]) (by simp[lk]) (by simp[lk]) (by simp[lk]);rw[hH];simp;omega
set_option maxHeartbeats 1000000 in
theorem Qg1 {cs:List CodeD}{fl:Bool}(hfit:∀c∈cs,c.fits)(hK:∀(H':Heap),Upd H H' []→K (.c (.bool (Qbw cs))) H') :
  Qs prog Qb4 [.ag [.sl fl 3 (Qj cs)]] H K:=by
 refine Qx ?_;refine Qc Qaj Qag8 ?_;have retf:∀(b:Bool) (e:Env) (H':Heap) (L:List (Nat×Obj)),Qbw cs=b→Kn H H' [] L→lk 2 e=.c (.bool b)→Q3 Qjn (unK H K) .ret e H':=by
  intro b e H' L hb kn h3;simp only[go_sem,Q3,Qab,Qjn,Jb,forall_eq,RS.op,h3];rw[←hb];exact⟨_,.c _ _ (Qg rfl),hK _ kn.fin⟩
 have kn:=Kn.start0 H;refine Qa ?_;simp only[go_sem];refine Qy ?_;refine Qa ?_;simp only[go_sem,Q4];intro hcl;refine Qdh ?_;simp only[go_sem,Qkr];refine Qh (Qe rfl ?_ ?_)
 ·intro hc;have hc':=Qt3 hc;refine Qa ?_;simp only[go_sem];refine Qk ?_;simp only[go_sem];exact retf false _ _ _ (Qtu fun hu=>by have h1:=hu.1;simp at hc';omega) kn (by simp[lk])
 intro hc;have hc':=Qez hc;have hc4:1≤cs.length∧cs.length≤4:=by simp at hc';omega
 refine Qi ?_;simp only[go_sem];refine Qa ?_;simp only[go_sem];refine Qy ?_;refine Qa ?_;simp only[go_sem,Q4];intro _;refine Qh (Qf (Qw (fun m e1 H1=>∃(k:Nat),m=cs.length-k∧k≤cs.length∧Qoo Q9p (cs.take k)≤k * (160 * 549755813888)∧(∀(i:Nat) (hi:i<cs.length),i<k→Qag3 cs i hi)∧Kn H H1 [] []∧
  e1=[(1,.c (.pp [.sl fl 3 (Qj cs)])),(3,.c (.int .i64 (Qoo Q9p (cs.take k):Nat))),(12,.c (.sl fl 3 (Qj cs))),(13,.c (.int .i64 cs.length)),(14,.c (.int .i64 k))]) cs.length ?_ ?_))
 ·exact⟨0,by omega,by omega,by simp[Qoo],fun _ _ h=>by omega,kn,rfl⟩
 ·rintro m e1 H1 ⟨k,hm,hk,hsum,hdone,kn,rfl⟩;refine Qa ?_;simp only[go_sem];refine Qh (Qe rfl ?_ ?_)
  ·intro hc2;have hlt:k<cs.length:=by simpa using hc2
   have hss:=Qlm (f:=Q9p) hlt;refine Qi ?_;simp only[go_sem];refine Qh (Qf ?_);refine Qa ?_;simp only[go_sem,hlt,Q4,Qam _ _ hlt,CodeD.cells];obtain⟨q,hq⟩:∃q,cs[k]=q:=⟨_,rfl⟩;have hqf:q.fits:=by subst hq;exact hfit _ (Jd hlt)
   rw[hq];intro x5 hx5 H2 h2;have kn:=kn.al hx5 h2;have hx5:=kn.l 0 rfl;simp only[go_sem,Qks,hx5];intro H3 h3;have kn:Kn H H3 [] ([]++[(x5,.st [.int .i64 q.params,.int .i64 q.regs,.sl false 5 (Qm q.blocks)])]):=kn.stL 0 rfl h3;refine Qy ?_;refine Qa ?_;simp only[go_sem];refine Qbj4 hlt (by omega) (by rw[hq];exact hqf) fun H4 hu=>?_;have kn:=kn.call0 hu;have hx5:=kn.l 0 rfl;simp only[go_sem,Qkt];refine Qh (Qe rfl ?_ ?_)
   ·intro hc3;have hno:=of_decide_eq_false (Qt3 hc3);refine Qa ?_;simp only[go_sem];refine Qk ?_;simp only[go_sem,X.next];exact retf false _ _ _ (Qtu fun hu=>hno (hu.2.1 k hlt)) kn (by simp[lk])
   ·intro hc3;have hyes:=of_decide_eq_true (Qez hc3);have hbl:q.blocks.length≤160:=by
     have:=hyes.1;rw[hq]at this;simp only[Qpf,Jp,decide_eq_true_eq]at this;omega
    have hcq:Q9p q≤160 * 549755813888:=Nat.le_trans (Qa0f hqf) (Jam _ hbl);have hk4:k * (160 * 549755813888)≤4 * (160 * 549755813888):=Jam _ (by omega);have hk1:(k+1) * (160 * 549755813888)=k * (160 * 549755813888)+160 * 549755813888:=Jbg _ _;rw[hq]at hss;refine Qi ?_;simp only[go_sem];refine Qq ?_;simp only[go_sem,hx5];refine Qa0p hqf hbl fun H5 hu=>?_;have kn:=kn.call0 hu;simp only[go_sem,Qku];refine⟨Qr (by omega) (by omega),?_⟩;refine Qq ?_;simp only[go_sem,X.next];refine⟨Qr (by omega) (by omega),cs.length-(k+1),by omega,k+1,rfl,by omega,by rw[hss,hk1];omega,fun i hi hik=>?_,kn.drop,?_⟩
    ·by_cases h:i<k
     ·exact hdone i hi h
     ·have:i=k:=(by omega);subst this;exact hyes
    ·rw[hss];rfl
  ·intro hc2;have hge:cs.length≤k:=by simpa using hc2
   rw[Jc hge];refine Qv ?_;simp only[go_sem,X.next];refine Qa ?_;simp only[go_sem];refine Qk ?_;refine retf (decide (((Qoo Q9p cs:Nat):Int)≤800)) _ _ _ ?_ kn (by simp[lk]);by_cases hs:Qoo Q9p cs≤800
   ·have h1:Qbw cs=true:=decide_eq_true ⟨by omega,fun i hi=>hdone i hi (by omega),hs⟩;rw[h1];simp;omega
   ·rw[Qtu fun hu=>hs hu.2.2];simp;omega
end Go.AE.Y
namespace Go.AE.Y
attribute [local instance] Classical.propDecidable
structure Flo where
 n:Nat
 nx:Nat→List Nat
 on:Nat→List Nat
 ins:Nat→List (Option Nat×List Nat)
 ph:Nat→List Nat
 ea:Nat→Nat→List Nat
abbrev RS':=Nat→Prop
def Qbpt (x:Option Nat×List Nat)(S:RS'):RS':=fun r=>r∈x.2∨(S r∧x.1≠some r)
def behL (l:List (Option Nat×List Nat))(S:RS'):RS':=l.foldr Qbpt S
theorem Qbd8 {l:List (Option Nat×List Nat)}{S T:RS'}(h:∀r,S r→T r):∀r,behL l S r→behL l T r:=by
 induction l with
 |nil=>exact h
 |cons x l ih=>
  rintro r (hr|⟨hr,h2⟩)
  ·exact .inl hr
  ·exact .inr ⟨ih r hr,h2⟩
variable {F:Flo}
def Flo.endS (F:Flo)(X:RS')(b:Nat):RS':=fun r=>X r∨r∈F.on b
def Flo.beh (F:Flo)(X:RS')(b k:Nat):RS':=behL ((F.ins b).drop k) (F.endS X b)
theorem Flo.beh_end (X:RS')(b k:Nat)(h:(F.ins b).length≤k):F.beh X b k=F.endS X b:=by rw[Flo.beh,List.drop_of_length_le h];rfl
theorem Flo.beh_step (X:RS')(b k:Nat)(h:k<(F.ins b).length):F.beh X b k=Qbpt (F.ins b)[k] (F.beh X b (k+1)):=by
 rw[Flo.beh,Jy h];rfl
theorem Flo.beh_mono {X Y:RS'}(h:∀r,X r→Y r)(b k:Nat):∀r,F.beh X b k r→F.beh Y b k r:=
 Qbd8 fun r hr=>hr.elim (fun h1=>.inl (h r h1)) .inr
def Flo.outT (F:Flo)(I:Nat→RS')(b:Nat):RS':=fun r=>∃m∈F.nx b,I m r∨r∈F.ea b m
def Flo.thru (F:Flo)(X:RS')(b:Nat):RS':=fun r=>F.beh X b 0 r∧r∉F.ph b
def Flo.inT (F:Flo)(I:Nat→RS')(b:Nat):RS':=F.thru (F.outT I b) b
theorem Flo.thru_mono {X Y:RS'}(h:∀r,X r→Y r)(b:Nat):∀r,F.thru X b r→F.thru Y b r:=fun r hr=>⟨Flo.beh_mono h b 0 r hr.1,hr.2⟩
def Flo.fits (F:Flo):Prop:=∀b,b<F.n→∀m∈F.nx b,m<F.n
variable {I J:Nat→RS'}
theorem Flo.outT_mono (hf:F.fits)(h:∀b,b<F.n→∀r,I b r→J b r){b:Nat}(hb:b<F.n):∀r,F.outT I b r→F.outT J b r:=by
 rintro r ⟨m,hm,h1|h1⟩
 ·exact⟨m,hm,.inl (h m (hf b hb m hm) r h1)⟩
 ·exact⟨m,hm,.inr h1⟩
theorem Flo.inT_mono (hf:F.fits)(h:∀b,b<F.n→∀r,I b r→J b r){b:Nat}(hb:b<F.n):∀r,F.inT I b r→F.inT J b r:=
 Flo.thru_mono (Flo.outT_mono hf h hb) b
def Flo.Pre (F:Flo)(J:Nat→RS'):Prop:=∀b,b<F.n→∀r,F.inT J b r→J b r
def Flo.LI (F:Flo)(b:Nat):RS':=fun r=>∀J,F.Pre J→J b r
def Flo.LO (F:Flo)(b:Nat):RS':=F.outT F.LI b
theorem Flo.LI_pre (hf:F.fits):F.Pre F.LI:=fun b hb r hr J hJ=>hJ b hb r (Flo.inT_mono hf (fun b hb r hr=>hr J hJ) hb r hr)
def Flo.Below (F:Flo)(I:Nat→RS'):Prop:=∀b,b<F.n→∀r,I b r→F.LI b r
theorem Flo.is_least (h1:F.Pre I)(h2:F.Below I){b:Nat}(hb:b<F.n)(r:Nat):I b r↔F.LI b r:=⟨h2 b hb r,fun h=>h I h1⟩
theorem Flo.Below.outT (hf:F.fits)(h:F.Below I){b:Nat}(hb:b<F.n):∀r,F.outT I b r→F.LO b r:=Flo.outT_mono hf h hb
noncomputable def ascL (R:Nat)(S:RS'):List Nat:=(List.range R).filter fun r=>decide (S r)
theorem Qanp {a:List Nat}(ha:a.Nodup):∀{b:List Nat},(∀x∈a,x∈b)→a.length≤b.length:=by
 induction a with
 |nil=>intro b _;simp
 |cons x a ih=>
  intro b h;have hx:=h x Jm;have hn:=List.nodup_cons.1 ha;have:=ih hn.2 (b:=b.erase x) fun y hy=>(List.mem_erase_of_ne (fun he=>by subst he;exact hn.1 hy)).2 (h y (Jk _ hy));rw[List.length_erase_of_mem hx]at this;have hp:=List.length_pos_of_mem hx;simp only[Jq];omega
theorem Qass {a:List Nat}{R:Nat}(ha:a.Nodup)(h:∀x∈a,x<R):a.length≤R:=by
 have:=Qanp ha (b:=List.range R) fun x hx=>Jae.2 (h x hx);simpa using this
end Go.AE.Y
namespace Go.AE.Y
attribute [local go_sem] cond_true cond_false Bool.not_true Bool.not_false
open Go.Proofs.Tryz
variable {H:Heap}{K:V→Heap→Prop}
attribute [local instance] Classical.propDecidable
def Qahn (x:InsD):Option Nat:=if Qdv x.op then some x.to.toNat else none
def toN (l:List Int):List Nat:=l.map Int.toNat
def Qbr4 (q:CodeD)(b m:Nat):List Nat:=(((q.blocks[m]?.map BlkD.phis).getD []).map fun p=>(p.args.getD ((Q8 (gnx q) (m:Int) q.blocks.length).idxOf (b:Int)) 0).toNat)
def Qa8 (q:CodeD):Flo where
 n:=q.blocks.length
 nx b:=nxN (gnx q) b
 on b:=match q.blocks[b]? with
  |some y=>if y.jump=1 then []else [y.on.toNat]
  |none=>[]
 ins b:=match q.blocks[b]? with
  |some y=>y.ins.map fun x=>(Qahn x,toN x.args)
  |none=>[]
 ph b:=match q.blocks[b]? with
  |some y=>y.phis.map fun p=>p.to.toNat
  |none=>[]
 ea:=Qbr4 q
def rIn (q:CodeD)(v:Int):Prop:=0≤v∧v<q.regs
structure BlkD.ok (q:CodeD)(b:Nat)(y:BlkD):Prop where
 nxl:y.next.length≤2
 nx:∀v∈y.next,1≤v∧v<q.blocks.length
 jmp:y.jump=1∨y.jump=2∨y.jump=3
 on:¬y.jump=1→rIn q y.on
 args:∀x∈y.ins,∀v∈x.args,rIn q v
 to:∀x∈y.ins,Qdv x.op=true→rIn q x.to
 pto:∀p∈y.phis,rIn q p.to
 pargs:∀p∈y.phis,∀v∈p.args,rIn q v
 pal:∀p∈y.phis,p.args.length=(Q8 (gnx q) (b:Int) q.blocks.length).length
 al:∀x∈y.ins,x.args.length≤3
structure CodeD.ok (q:CodeD):Prop where
 r0:0≤q.regs
 r1:q.regs≤300
 b0:0<q.blocks.length
 b1:q.blocks.length≤160
 bs:∀(b:Nat) (h:b<q.blocks.length),q.blocks[b].ok q b
 il:∀(b:Nat) (h:b<q.blocks.length),q.blocks[b].ins.length≤1200∧q.blocks[b].phis.length≤1200
theorem Q89 {α:Type}{f:α→Nat}{l:List α}{x:α}(h:x∈l):f x≤Qoo f l:=by
 induction l with
 |nil=>simp at h
 |cons y l ih=>
  simp only[Qoo,Jw,Jat]at *;rcases J5.1 h with rfl|h
  ·omega
  ·have:=ih h;omega
theorem Qaq8 {cs:List CodeD}(h:Qbw cs=true){k:Nat}(hk:k<cs.length):cs[k].ok:=by
 obtain⟨_,h2,h3⟩:=of_decide_eq_true h;obtain⟨g1,g2⟩:=h2 k hk;simp only[Qpf,Jp,decide_eq_true_eq]at g1;refine⟨by omega,by omega,by omega,by omega,fun b hb=>?_,fun b hb=>?_⟩
 ·have g:=g2 b hb;simp only[Q84,Jp]at g;obtain⟨⟨⟨j,nx⟩,ins⟩,ph⟩:=g;simp only[Qor,Jp,decide_eq_true_eq]at j;obtain⟨j1,j2⟩:=j;rw[Jai]at nx ins ph;have hj:(cs[k].blocks[b].jump=1∨cs[k].blocks[b].jump=2∨cs[k].blocks[b].jump=3)∧cs[k].blocks[b].next.length≤2:=by
   rw[Qd1]at j1;split at j1
   ·omega
   ·split at j1
    ·omega
    ·split at j1 <;> omega
  have hi:∀x∈cs[k].blocks[b].ins,(∀v∈x.args,rIn cs[k] v)∧(Qdv x.op=true→rIn cs[k] x.to):=fun x hx=>by
   have:=ins x hx;simp only[Q6l,insH,Qpw,Jp,Jai,decide_eq_true_eq,Qa10 hk]at this;obtain⟨⟨⟨_,a1⟩,a2⟩,_⟩:=this;refine⟨fun v hv=>by have:=a1 v hv;exact⟨by omega,by omega⟩,fun hm=>?_⟩;rw[insT,hm,if_pos rfl,decide_eq_true_eq]at a2;exact⟨by omega,by omega⟩
  have hal:∀x∈cs[k].blocks[b].ins,x.args.length≤3:=fun x hx=>by
   have:=ins x hx;simp only[Q6l,Jp]at this;have h3:=this.2;rw[insL]at h3;split at h3
   ·simp only[Jp,decide_eq_true_eq]at h3;have hn:x.n.toNat<cs.length:=(by omega);have:=(h2 x.n.toNat hn).1;simp only[Qpf,Jp,decide_eq_true_eq]at this;rw[Qanq hn]at h3;omega
   ·simp only[Jp,decide_eq_true_eq]at h3;have:=argsN_in (op:=x.op);omega
  have hp:∀p∈cs[k].blocks[b].phis,rIn cs[k] p.to∧(∀v∈p.args,rIn cs[k] v)∧p.args.length=(Q8 (gnx cs[k]) (b:Int) cs[k].blocks.length).length:=fun p hp=>by
   have:=ph p hp;simp only[phiG,Qpw,Jp,Jai,decide_eq_true_eq,Qo]at this;obtain⟨⟨⟨_,a1⟩,a2⟩,a3⟩:=this;have hgn:(fun i=>(cs[k].blocks.map BlkD.next).getD i [])=gnx cs[k]:=rfl;rw[hgn]at a1;exact⟨⟨by omega,by omega⟩,fun v hv=>by have:=a2 v hv;exact⟨by omega,by omega⟩,by omega⟩
  refine⟨hj.2,fun v hv=>?_,hj.1,fun hn=>?_,fun x hx=>(hi x hx).1,fun x hx=>(hi x hx).2,fun p h=>(hp p h).1,fun p h=>(hp p h).2.1,fun p h=>(hp p h).2.2,hal⟩
  ·have:=nx v hv;simp only[Q6q,decide_eq_true_eq,Qo]at this;omega
  ·rw[if_neg hn,decide_eq_true_eq]at j2;exact⟨by omega,by omega⟩
 ·have a1:=Q89 (f:=Q9p) (Jd hk);have a2:=Q89 (f:=Qx7) (Jd hb);simp only[Q9p,Qx7]at *;omega
variable {q:CodeD}
theorem Qbki {b:Nat}(h:b<q.blocks.length):(Qa8 q).on b=if q.blocks[b].jump=1 then []else [q.blocks[b].on.toNat]:=by simp[Qa8,h]
theorem Qbex {b:Nat}(h:b<q.blocks.length):(Qa8 q).ins b=q.blocks[b].ins.map fun x=>(Qahn x,toN x.args):=by simp[Qa8,h]
theorem Qbkj {b:Nat}(h:b<q.blocks.length):(Qa8 q).ph b=q.blocks[b].phis.map fun p=>p.to.toNat:=by simp[Qa8,h]
theorem Qbkh {b m:Nat}(h:m<q.blocks.length):(Qa8 q).ea b m=q.blocks[m].phis.map fun p=>(p.args.getD ((Q8 (gnx q) (m:Int) q.blocks.length).idxOf (b:Int)) 0).toNat:=by simp[Qa8,Qbr4,h]
theorem Qye {b:Nat}(h:b<q.blocks.length):gnx q b=q.blocks[b].next:=by simp[gnx,Ja,h]
theorem CodeD.ok.next (h:q.ok){b m:Nat}(hb:b<q.blocks.length)(hm:m∈(Qa8 q).nx b):m<q.blocks.length∧(m:Int)∈gnx q b:=by
 obtain⟨v,hv,rfl⟩:=Jo.1 hm;have hv':=hv;rw[Qye hb]at hv';have:=(h.bs b hb).nx v hv';refine⟨by omega,?_⟩;have e:((v.toNat:Nat):Int)=v:=by omega
 rw[e];exact hv
theorem CodeD.ok.fitsF (h:q.ok):(Qa8 q).fits:=fun b hb m hm=>(h.next hb hm).1
theorem CodeD.ok.ix (h:q.ok){b m:Nat}(hb:b<q.blocks.length)(hm:(m:Int)∈gnx q b):(Q8 (gnx q) (m:Int) q.blocks.length).idxOf (b:Int)<(Q8 (gnx q) (m:Int) q.blocks.length).length:=by
 refine List.idxOf_lt_length_of_mem ?_;simp only[Q8,Jo,Jan,Jae];exact⟨b,⟨hb,Jz.2 hm⟩,rfl⟩
theorem IsIx.idx {ns:List Int}{v r:Int}(h:IsIx ns v r)(hm:v∈ns):r=(ns.idxOf v:Nat):=by
 rcases h with ⟨_,hn⟩|⟨i,rfl,h1,h2,h3⟩
 ·exact absurd hm hn
 ·have h4:ns[i]=v:=by rw[←h2,Ja,Ji h1];rfl
  have h5:ns.idxOf v=i:=by
   have e:ns=ns.take i++ns[i]::ns.drop (i+1):=by rw[←Jy h1,Jah]
   rw[e,List.idxOf_append,if_neg h3,h4];simp[J8];omega
  rw[h5]
def Mem (bs:List Bool)(S:RS'):Prop:=∀r,bs.getD r false=true↔S r
theorem Mem.congr {bs:List Bool}{S T:RS'}(h:Mem bs S)(hST:∀r,S r↔T r):Mem bs T:=fun r=>(h r).trans (hST r)
theorem Qars (S:List Bool)(x y:Nat)(v:Bool):(S.set x v).getD y false=(if y=x∧x<S.length then v else S.getD y false):=by
 simp only[Ja,Jaa];by_cases h:x=y
 ·subst h;by_cases h2:x<S.length <;> simp[h2]
 ·have:¬y=x:=fun e=>h e.symm;simp[h,this]
theorem Mem.ins {bs:List Bool}{S:RS'}(h:Mem bs S){x:Nat}(hx:x<bs.length):Mem (bs.set x true) (fun r=>r=x∨S r):=fun r=>by
 rw[Qars];by_cases hr:r=x
 ·simp[hr,hx]
 ·simp only[hr,false_and,if_false,false_or];exact h r
theorem Mem.del {bs:List Bool}{S:RS'}(h:Mem bs S){x:Nat}(hx:x<bs.length):Mem (bs.set x false) (fun r=>S r∧r≠x):=fun r=>by
 rw[Qars];by_cases hr:r=x
 ·simp[hr,hx]
 ·simp only[hr,false_and,if_false,ne_eq,not_false_eq_true,and_true];exact h r
theorem Mem.lt {bs:List Bool}{S:RS'}(h:Mem bs S){r:Nat}(hr:S r):r<bs.length:=by
 have:=(h r).2 hr;refine Classical.byContradiction fun hn=>?_;rw[Ja,Jt (by omega)]at this;exact absurd this (by simp)
theorem Mem.none (n:Nat):Mem (List.replicate n false) fun _=>False:=fun r=>by
 rw[Ja,Jaf];split <;> simp
end Go.AE.Y
namespace Go.AE.Y
attribute [local go_sem] cond_true cond_false Bool.not_true Bool.not_false
open Go.Proofs.Tryz
variable {H H0:Heap}{K:V→Heap→Prop}{E L:List (Nat×Obj)}
def Qos (x:InsD):Int:=if Qdv x.op then x.to else -1
theorem Qamd {x:InsD}(hK:K (.c (.int .i64 (Qos x))) H):Qs prog Qin [.ag x.cells] H K:=by
 refine Qc Qaj Qa1p ?_;refine Qa ?_;simp only[go_sem,InsD.cells];refine Qy ?_;refine Qa ?_;simp only[go_sem];refine Qpg ?_;refine Qh (Qe rfl ?_ ?_)
 ·intro hc;refine Qa ?_;simp only[go_sem];refine Qk ?_;simp only[go_sem,X.next,Q3,Qab,Qwx,Jb,forall_eq,RS.op];rw[Qos,hc,if_pos rfl]at hK;exact hK
 ·intro hc;refine Qi ?_;try simp only[go_sem]
  refine Qa ?_;simp only[go_sem];refine Qk ?_;simp only[go_sem,Q3,Qab,Qwx,Jb,forall_eq,RS.op];rw[Qos,hc,if_neg (by simp)]at hK;exact hK
theorem Qbnz {l:List Int}{a:Nat}(h:a<l.length):(toN l).take (a+1)=(toN l).take a++[(l.getD a 0).toNat]:=by
 have h':a<(toN l).length:=by simpa[toN]using h
 rw[Je h'];simp[toN,Ja,h]
theorem Qj8 {l:List Int}{a:Nat}(h:a<l.length):l.getD a 0∈l:=by
 rw[Ja,Ji h];exact Jd h
theorem rIn.nat {q:CodeD}{v:Int}(h:rIn q v):v=(v.toNat:Int)∧v.toNat<q.regs.toNat:=by obtain⟨a,b⟩:=h;omega
structure CodeR (F:Heap)(X:List Nat)(bc:C)(q:CodeD):Prop where
 ow:bc.isOw=false
 s:∀H1:Heap,(∀m,F m≠.none→m∉X→H1 m=F m)→Slc H1 5 (Qm q.blocks) bc
theorem CodeR.sl (F:Heap)(X:List Nat)(fl:Bool)(q:CodeD):CodeR F X (.sl fl 5 (Qm q.blocks)) q:=⟨rfl,fun _ _=>.mk' _ _ _ _⟩
theorem CodeR.rd {F H:Heap}{X:List Nat}{bc:C}{q:CodeD}{E L:List (Nat×Obj)}(h:CodeR F X bc q)(kn:Kn F H E L)(hX:∀x∈E.map Prod.fst,x∈X):Slc H 5 (Qm q.blocks) bc:=
 h.s H fun m hm hx=>kn.chg m hm fun hh=>hx (hX m hh)
theorem CodeR.facts {F H:Heap}{X:List Nat}{bc:C}{q:CodeD}{E L:List (Nat×Obj)}(h:CodeR F X bc q)(kn:Kn F H E L)(hX:∀x∈E.map Prod.fst,x∈X) :
  okSl H bc=True∧lenC bc=q.blocks.length∧bc.elemSz=5∧rowsOf H bc=Qm q.blocks:=
 have s:=h.rd kn hX
 ⟨eq_true s.ok,by rw[s.len,Qo],s.sz,s.rows⟩
theorem CodeR.mid {F H:Heap}{bc:C}{q:CodeD}{L:List (Nat×Obj)}(h:CodeR F [] bc q)(kn:Kn F H [] L):CodeR H (L.map Prod.fst) bc q:=
 ⟨h.ow,fun H1 hh=>h.s H1 fun m hm _=>by
  have h1:=kn.chg m hm (by simp);rw[hh m (by rw[h1];exact hm) fun hx=>?_,h1];obtain⟨p,hp,he⟩:=Jo.1 hx;exact hm (he▸kn.loc p hp)⟩
theorem CodeR.nil {F:Heap}{X:List Nat}{bc:C}{q:CodeD}(h:CodeR F X bc q):CodeR F [] bc q:=⟨h.ow,fun H1 hh=>h.s H1 fun m hm _=>hh m hm (by simp)⟩
theorem CodeR.vsl {F:Heap}{X:List Nat}{q:CodeD}{z:Nat}(hz:F z=.vec 5 (Qm q.blocks))(hX:z∉X):CodeR F X (.vsl z 5 0 q.blocks.length) q:=
 ⟨rfl,fun H1 hh=>by
  have h1:H1 z=.vec 5 (Qm q.blocks):=by rw[hh z (by rw[hz];simp) hX,hz]
  exact⟨by simp only[okSl,h1,Qo];exact⟨trivial,by omega⟩,rfl,by simp only[rowsOf,h1,Jac];exact Jc (by rw[Qo];exact Jn _),by simp only[lenC,Qo]⟩⟩
set_option maxHeartbeats 2000000 in
theorem Qa09 {q:CodeD}{bc:C}{ic oc cb:C}{orows:List (List C)}{b:Nat}{i:Int}{bs:List Bool}{W:RS'}(ho:q.ok)(hbc:CodeR H [] bc q)(hb:b<q.blocks.length)(hi:-1≤i)(hi2:i<q.blocks[b].ins.length)
  (kn:Kn H0 H E L) (hs:Slc H 1 orows oc) (how:oc.isOw=false) (hiw:ic.isOw=false) (hbl:b<orows.length) (hrow:orows.getD b []=[cb]) (hcb:Slc H 1 (Qu bs) cb) (hcw:cb.isOw=false) (hlen:bs.length=q.regs.toNat) (hm:Mem bs W)
  (hK:∀y bs' H',bs'.length=q.regs.toNat→Mem bs' ((Qa8 q).beh W b (i+1).toNat)→Kn H0 H' E (L++[(y,.vec 1 (Qu bs'))])→K (.c (.vsl y 1 0 q.regs.toNat)) H') :
  Qs prog Qo7 [.ag [.int .i64 q.params,.int .i64 q.regs,bc],.ag [ic,oc],.c (.int .i64 b),.c (.int .i64 i)] H K:=by
 have hr0:=ho.r0;have hr1:=ho.r1;obtain⟨y,hy⟩:∃y,q.blocks[b]=y:=⟨_,rfl⟩;have hyo:y.ok q b:=by rw[←hy];exact ho.bs b hb
 have hil:y.ins.length≤1200∧y.phis.length≤1200:=by rw[←hy];exact ho.il b hb
 rw[hy]at hi2;have hon:(Qa8 q).on b=if y.jump=1 then []else [y.on.toNat]:=by rw[Qbki hb,hy]
 have hins:(Qa8 q).ins b=y.ins.map fun x=>(Qahn x,toN x.args):=by rw[Qbex hb,hy]
 have hok:=eq_true hs.ok;have hol:=hs.len;have hoz:=hs.sz;have hor:=hs.rows;have hok2:=eq_true hcb.ok;have hol2:=hcb.len;have hoz2:=hcb.sz;have hor2:=hcb.rows;refine Qc Qaj Qa1h ?_;refine Qa ?_;have hbw:=hbc.ow;simp only[go_sem,how,hiw,hbw];refine Qa ?_;simp only[go_sem,how,hiw,hbw,hcw,hok,hol,hoz,hor,hbl,hrow,hok2,hol2,hoz2,hor2,Qz,hlen,J2,Jr,Js];refine⟨.inl trivial,Qii _,by simp only[LIM];omega,fun y9 hy9 H1 h1=>?_⟩;have kn:=kn.al hy9 h1;simp only[go_sem,Qvu,hbw];refine Qa ?_;have hbs:=hbc.s H1 fun m hm _=>by
  have hne:m≠y9:=fun hh=>hm (by rw[hh];exact hy9);rw[h1,Heap.set_other _ _ hne]
 have hbok:=eq_true hbs.ok;have hbln:=hbs.len;have hbsz:=hbs.sz;have hbrw:=hbs.rows;simp only[go_sem,hbw,hbok,hbln,hbsz,hbrw,hb,Qo,Qaa _ _ hb,BlkD.cells,hy];intro x10 hx10 H2 h2;have kn:=kn.al hx10 h2;have hx10:=kn.l (L++[(y9,Obj.vec 1 (Qu bs))]).length (l:=x10) (o:=.st [.sl true 2 [],.sl true 4 [],.int .i64 0,.int .i64 0,.sl true 1 []]) (by simp);simp only[go_sem,Qvv,hx10];intro H3 h3;have kn:Kn H0 H3 E ((L++[(y9,.vec 1 (Qu bs))])++[(x10,blkC y)]):=by
  have:=kn.stL (L++[(y9,Obj.vec 1 (Qu bs))]).length (x:=x10) (o:=.st [.sl true 2 [],.sl true 4 [],.int .i64 0,.int .i64 0,.sl true 1 []]) (by simp) h3;simpa[blkC]using this
 have getx:∀{bs1:List Bool} {H4:Heap},Kn H0 H4 E ((L++[(y9,.vec 1 (Qu bs1))])++[(x10,blkC y)])→H4 x10=.st [.sl false 2 (Q1 y.phis),.sl false 4 (Qaq y.ins),.int .i64 y.jump,.int .i64 y.on,.sl false 1 (Qb y.next)]∧H4 y9=.vec 1 (Qu bs1):=fun {bs1 H4} kn=>
  ⟨(kn.get (x10,blkC y) (by simp)).1,(kn.get (y9,.vec 1 (Qu bs1)) (by simp)).1⟩
 have putx:∀{bs1 bs2:List Bool} {H4 H5:Heap},Kn H0 H4 E ((L++[(y9,.vec 1 (Qu bs1))])++[(x10,blkC y)])→H5=H4.set y9 (.vec 1 (Qu bs2))→Kn H0 H5 E ((L++[(y9,.vec 1 (Qu bs2))])++[(x10,blkC y)]):=fun {bs1 bs2 H4 H5} kn h=>by
  have:=kn.stL L.length (x:=y9) (o:=.vec 1 (Qu bs1)) (by simp) h;simpa using this
 have htk:∀(bs1:List Bool),bs1.length=q.regs.toNat→(Qu bs1).take q.regs.toNat=Qu bs1:=fun bs1 h=>Jc (by rw[Qz];omega);refine Qy ?_;refine Qa ?_;obtain⟨hx10,hy9⟩:=getx kn;simp only[go_sem,hx10];refine Qd2 (fun e2 H4=>∃(bs1:List Bool),bs1.length=q.regs.toNat∧Mem bs1 ((Qa8 q).endS W b)∧Kn H0 H4 E ((L++[(y9,.vec 1 (Qu bs1))])++[(x10,blkC y)])∧
  lk 3 e2=.c (.int .i64 i)∧lk 9 e2=.c (.vsl y9 1 0 q.regs.toNat)∧lk 10 e2=.c (.ptr x10 0)) ?_ ?_
 ·intro Q hnr _ _;refine Qe rfl ?_ ?_
  ·intro hc;have hj:¬y.jump=1:=by simpa using hc
   obtain⟨hv,hvl⟩:=(hyo.on hj).nat;have hvl':y.on.toNat<bs.length:=by omega
   generalize hr:y.on.toNat=r at *;refine Qq ?_;simp only[go_sem,hx10,hy9,hv,hvl,htk _ hlen,Qz,hlen,Qbo,Q6 _ _ hvl',Js,Jn];intro H4 h4;refine hnr _ _ ⟨_,by rw[Jl];exact hlen,?_,putx kn h4,rfl,rfl,rfl⟩;refine (hm.ins (by omega)).congr fun z=>?_;rw[Flo.endS,hon,if_neg hj];simp[or_comm]
  ·intro hc;have hj:y.jump=1:=by simpa using hc
   refine Qi ?_;try simp only[go_sem]
   refine hnr _ _ ⟨bs,hlen,?_,kn,rfl,rfl,rfl⟩;refine hm.congr fun z=>?_;rw[Flo.endS,hon,if_pos hj];simp
 ·rintro e2 H4 ⟨bs1,hlen,hm,kn,l3,l9,l10⟩;obtain⟨hx10,hy9⟩:=getx kn;refine Qy ?_;refine Qa ?_;simp only[go_sem,l3,l9,l10,hx10,Qal];intro _;refine⟨Qr (by omega) (by omega),?_⟩;refine Qh (Qf (Qw (fun m e1 H1=>∃(k:Nat) (j:Int) (bs1:List Bool),m=k∧k≤y.ins.length∧i+1≤k∧j=(k:Int)-1∧bs1.length=q.regs.toNat∧Mem bs1 ((Qa8 q).beh W b k)∧Kn H0 H1 E ((L++[(y9,.vec 1 (Qu bs1))])++[(x10,blkC y)])∧
   e1=[(3,.c (.int .i64 i)),(9,.c (.vsl y9 1 0 q.regs.toNat)),(10,.c (.ptr x10 0)),(11,.c (.int .i64 j))]) y.ins.length ?_ ?_))
  ·refine⟨y.ins.length,_,bs1,rfl,Jn _,by omega,rfl,hlen,hm.congr fun z=>?_,kn,rfl⟩;rw[Flo.beh_end _ _ _ (by rw[hins,Jv];exact Jn _)]
  ·rintro m e1 H5 ⟨k,j,bs1,rfl,hk,hik,hjk,hlen,hm,kn,rfl⟩;obtain⟨hx10,hy9⟩:=getx kn;refine Qy ?_;refine Qa ?_;simp only[go_sem];refine Qh (Qe rfl ?_ ?_)
   ·intro hc;have hgt:i<j:=(by simpa using hc);obtain⟨k,rfl⟩:∃k',m=k'+1:=⟨m-1,by omega⟩;have hj:j=(k:Int):=(by omega);subst hj;have hkl:k<y.ins.length:=(by omega);obtain⟨x,hx⟩:∃x,y.ins[k]=x:=⟨_,rfl⟩;have hxm:x∈y.ins:=(by rw[←hx];exact Jd hkl);have hstep:(Qa8 q).beh W b k=Qbpt (Qahn x,toN x.args) ((Qa8 q).beh W b (k+1)):=by
     rw[Flo.beh_step _ _ _ (by rw[hins,Jv];exact hkl)];simp only[hins,Jav,hx]
    refine Qi ?_;try simp only[go_sem]
    refine Qd2 (fun e2 H6=>∃(bs2:List Bool),bs2.length=q.regs.toNat∧Mem bs2 ((Qa8 q).beh W b k)∧Kn H0 H6 E ((L++[(y9,.vec 1 (Qu bs2))])++[(x10,blkC y)])∧
     lk 3 e2=.c (.int .i64 i)∧lk 9 e2=.c (.vsl y9 1 0 q.regs.toNat)∧lk 10 e2=.c (.ptr x10 0)∧lk 11 e2=.c (.int .i64 k)) ?_ ?_
    ·intro Q hnr _ _;refine Qf ?_;refine Qa ?_;simp only[go_sem,hx10,hkl,Qal,Qb7 _ _ hkl,InsD.take4,InsD.allOw,InsD.len4,hx];refine Qamd ?_;simp only[go_sem,Qvw];refine Qy ?_;refine Qa ?_;simp only[go_sem];refine Qd2 (fun e2 H6=>∃(bs2:List Bool),bs2.length=q.regs.toNat∧Mem bs2 (fun r=>(Qa8 q).beh W b (k+1) r∧Qahn x≠some r)∧Kn H0 H6 E ((L++[(y9,.vec 1 (Qu bs2))])++[(x10,blkC y)])∧
      lk 3 e2=.c (.int .i64 i)∧lk 9 e2=.c (.vsl y9 1 0 q.regs.toNat)∧lk 10 e2=.c (.ptr x10 0)∧lk 11 e2=.c (.int .i64 k)) ?_ ?_
     ·intro Q hnr _ _;refine Qe rfl ?_ ?_
      ·intro hc2;have hmk:Qdv x.op=true:=by
        cases hmk:Qdv x.op with
        |true=>rfl
        |false=>simp[Qos,hmk]at hc2
       obtain⟨hv,hvl⟩:=(hyo.to x hxm hmk).nat;have hvl':x.to.toNat<bs1.length:=(by omega);have hmi:Qos x=x.to:=(by rw[Qos,hmk];rfl);have hmo:Qahn x=some x.to.toNat:=(by rw[Qahn,hmk];rfl);rw[hmi];rw[hmo]at hnr;generalize hr:x.to.toNat=r at *;refine Qq ?_;simp only[go_sem,hx10,hy9,hv,hvl,htk _ hlen,Qz,hlen,Qbo,Q6 _ _ hvl',Js,Jn];intro H6 h6;refine hnr _ _ ⟨_,by rw[Jl];exact hlen,?_,putx kn h6,rfl,rfl,rfl,rfl⟩;refine (hm.del (by omega)).congr fun z=>?_;simp[eq_comm]
      ·intro hc2;have hmk:Qdv x.op=false:=by
        cases hmk:Qdv x.op with
        |false=>rfl
        |true=>
         have:=(hyo.to x hxm hmk).1;simp[Qos,hmk]at hc2;omega
       have hmo:Qahn x=none:=(by rw[Qahn,hmk];rfl);rw[hmo]at hnr;refine Qi ?_;try simp only[go_sem]
       exact hnr _ _ ⟨bs1,hlen,hm.congr fun z=>by simp,kn,rfl,rfl,rfl,rfl⟩
     ·rintro e2 H6 ⟨bs2,hlen,hm,kn,l3,l9,l10,l11⟩;refine Qa ?_;simp only[go_sem,l3,l9,l10,l11];refine Qf (Qw (fun m e1 H1=>∃(a:Nat) (bs2:List Bool),m=x.args.length-a∧a≤x.args.length∧bs2.length=q.regs.toNat∧Mem bs2 (fun r=>r∈(toN x.args).take a∨((Qa8 q).beh W b (k+1) r∧Qahn x≠some r))∧Kn H0 H1 E ((L++[(y9,.vec 1 (Qu bs2))])++[(x10,blkC y)])∧
       e1=[(3,.c (.int .i64 i)),(9,.c (.vsl y9 1 0 q.regs.toNat)),(10,.c (.ptr x10 0)),(11,.c (.int .i64 k)),(13,.c (.int .i64 a))]) x.args.length ?_ ?_)
      ·exact⟨0,bs2,by omega,by omega,hlen,hm.congr fun z=>by simp,kn,rfl⟩
      ·rintro m2 e1 H7 ⟨a,bs2,hm2,ha,hlen,hm,kn,rfl⟩;obtain⟨hx10,hy9⟩:=getx kn;refine Qy ?_;refine Qa ?_;simp only[go_sem,hx10,hkl,Qal,Qb7 _ _ hkl,InsD.cells,hx,Qd];intro hal;simp only[LIM]at hal;refine Qh (Qe rfl ?_ ?_)
       ·intro hc2;have hlt:a<x.args.length:=(by simpa using hc2);obtain⟨hv,hvl⟩:=(hyo.args x hxm _ (Qj8 hlt)).nat;have htk2:=Qbnz hlt;have hvl':(x.args.getD a 0).toNat<bs2.length:=(by omega);generalize hr:(x.args.getD a 0).toNat=r at *;refine Qi ?_;try simp only[go_sem]
        refine Qh (Qf ?_);refine Qq ?_;simp only[go_sem,hx10,hy9,hkl,Qal,Qb7 _ _ hkl,InsD.cells,hx,hlt,Qd,Qn _ _ hlt,hv,hvl,htk _ hlen,Qz,hlen,Qbo,Q6 _ _ hvl',Js,Jn];intro H8 h8;refine Qq ?_;simp only[go_sem,X.next];refine⟨Qr (by omega) (by omega),x.args.length-(a+1),by omega,a+1,_,rfl,by omega,by rw[Jl];exact hlen,?_,putx kn h8,rfl⟩;refine (hm.ins (by omega)).congr fun z=>?_;rw[htk2];simp only[Jg,Jb];constructor
        ·rintro (h|h|h)
         ·exact .inl (.inr h)
         ·exact .inl (.inl h)
         ·exact .inr h
        ·rintro ((h|h)|h)
         ·exact .inr (.inl h)
         ·exact .inl h
         ·exact .inr (.inr h)
       ·intro hc2;have hge:x.args.length≤a:=(by simpa using hc2);refine Qv ?_;simp only[go_sem,X.next];refine hnr _ _ ⟨bs2,hlen,hm.congr fun z=>?_,kn,rfl,rfl,rfl,rfl⟩;rw[hstep,Jc (by simpa[toN]using hge)];rfl
    ·rintro e2 H6 ⟨bs2,hlen,hm,kn,l3,l9,l10,l11⟩;refine Qq ?_;simp only[go_sem,X.next,l3,l9,l10,l11];exact⟨Qr (by omega) (by omega),k,by omega,k,(k:Int)-1,bs2,rfl,by omega,by omega,rfl,hlen,hm,kn,rfl⟩
   ·intro hc;have hle:¬i<j:=(by simpa using hc);refine Qv ?_;simp only[go_sem,X.next];refine Qa ?_;simp only[go_sem];refine Qk ?_;simp only[go_sem,Q3,Qab,Qaay,Jb,forall_eq,RS.op];have e1:(i+1).toNat=m:=(by omega);exact hK y9 bs1 H5 hlen (by rw[e1];exact hm) kn.drop
end Go.AE.Y
namespace Go.AE.Y
attribute [local go_sem] cond_true cond_false Bool.not_true Bool.not_false
open Go.Proofs.Tryz
variable {H H0 F:Heap}{K:V→Heap→Prop}{E L:List (Nat×Obj)}
structure SetO where
 c:C
 lg:List (Nat×Obj)
 ks:List Nat
structure SetO.ok (R:Nat)(s:SetO):Prop where
 nd:s.ks.Nodup
 lt:∀x∈s.ks,x<R
 m:(s.c=.mnil∧s.lg=[]∧s.ks=[])∨∃M ver,s.c=.mp M∧s.lg=[(M,.map ver (Qbto s.ks))]
theorem SetO.ok.isOw {R:Nat}{s:SetO}(h:s.ok R):s.c.isOw=false:=by rcases h.m with ⟨h,_⟩|⟨M,ver,h,_⟩ <;> rw[h] <;> rfl
theorem SetO.ok.len {R:Nat}{s:SetO}(h:s.ok R):s.ks.length≤R:=Qass h.nd h.lt
end Go.AE.Y
namespace Go.AE.Y
attribute [local instance] Classical.propDecidable
def tab (zs:List (Nat×List Bool))(b:Nat):RS':=fun r=>(((zs[b]?).map Prod.snd).getD []).getD r false=true
variable {zs zi zo:List (Nat×List Bool)}{F:Flo}
theorem Qbjk {b:Nat}(h:b<zs.length)(r:Nat):tab zs b r↔zs[b].2.getD r false=true:=by simp[tab,h]
theorem Qa9q {b:Nat}{x:Nat×List Bool}(h:b<zs.length)(r:Nat):tab (zs.set b x) b r↔x.2.getD r false=true:=by simp[tab,h]
theorem Qtg {b c:Nat}{x:Nat×List Bool}(h:c≠b):tab (zs.set b x) c=tab zs c:=by
 funext r
 simp only[tab];rw[Ja1 (fun e=>h e.symm)]
theorem Qaz9 {α:Type}{l:List α}{i:Nat}{x:α}(h:l[i]? = some x):l.set i x=l:=by
 have hi:=(List.getElem?_eq_some_iff.1 h).1;refine Jag fun j=>?_;rw[Jaa];by_cases hij:i=j
 ·subst hij;rw[if_pos rfl,if_pos hi,h]
 ·rw[if_neg hij]
theorem Q9q {a b:List Bool}(hl:a.length=b.length)(h:∀r,a.getD r false=true→b.getD r false=true):cnt a≤cnt b∧(∀r,a.getD r false≠b.getD r false→cnt a<cnt b):=by
 induction a generalizing b with
 |nil=>
  cases b with
  |nil=>exact⟨Jn _,fun r hr=>absurd rfl hr⟩
  |cons=>simp at hl
 |cons x a ih=>
  cases b with
  |nil=>simp at hl
  |cons y b=>
   have ih':=ih (b:=b) (by simpa using hl) fun r hr=>by have:=h (r+1);simpa using this (by simpa using hr)
   have h0:x=true→y=true:=by have:=h 0;simpa using this
   have hc:∀(z:Bool) (l:List Bool),cnt (z::l)=cnt l+(if z=true then 1 else 0):=fun z l=>by
    simp only[cnt,List.count_cons];cases z <;> simp
   rw[hc,hc];refine⟨?_,fun r hr=>?_⟩
   ·cases x with
    |false=>have:=ih'.1;cases y <;> simp <;> omega
    |true=>rw[h0 rfl];have:=ih'.1;simp;omega
   ·cases r with
    |zero=>
     have hxy:x≠y:=by simpa using hr
     cases x with
     |true=>exact absurd (h0 rfl).symm hxy
     |false=>
      cases y with
      |false=>exact absurd rfl hxy
      |true=>have:=ih'.1;simp;omega
    |succ r=>
     have:=ih'.2 r (by simpa using hr)
     cases x with
     |false=>cases y <;> simp <;> omega
     |true=>rw[h0 rfl];simp;omega
def Qln (zs:List (Nat×List Bool)):Nat:=(zs.map fun p=>cnt p.2).sum
theorem Qa9s {b:Nat}{x:Nat×List Bool}(h:b<zs.length):Qln (zs.set b x)+cnt zs[b].2=Qln zs+cnt x.2:=by
 induction zs generalizing b with
 |nil=>simp at h
 |cons z zs ih=>
  cases b with
  |zero=>simp[Qln];omega
  |succ b=>
   have:=ih (b:=b) (by simpa using h);simp only[Qln,Ja6,Jw,Jat,List.getElem_cons_succ]at this⊢;omega
theorem Qaq7 {R:Nat}(h:∀p∈zs,p.2.length=R):Qln zs≤zs.length * R:=by
 induction zs with
 |nil=>simp[Qln]
 |cons z zs ih=>
  have h1:=Qarl z.2;rw[h z Jm]at h1;have h2:=ih fun p hp=>h p (Jk _ hp);simp only[Qln,Jw,Jat,Jq,Jbg]at *;omega
structure LvInv (F:Flo)(zi zo:List (Nat×List Bool)):Prop where
 bi:∀b,b<F.n→∀r,tab zi b r→F.LI b r
 bo:∀b,b<F.n→∀r,tab zo b r→F.LO b r
 post:∀b,b<F.n→∀r,tab zi b r→F.thru (tab zo b) b r
def LvCl (F:Flo)(zi zo:List (Nat×List Bool))(b:Nat):Prop:=(∀r,F.outT (tab zi) b r→tab zo b r)∧∀r,F.thru (tab zo b) b r→tab zi b r
theorem LvInv.done (h:LvInv F zi zo)(hf:F.fits)(hc:∀b,b<F.n→LvCl F zi zo b):∀b,b<F.n→∀r,(tab zi b r↔F.LI b r)∧(tab zo b r↔F.LO b r):=by
 have hp:F.Pre (tab zi):=fun b hb r hr=>(hc b hb).2 r (Flo.thru_mono (hc b hb).1 b r hr);intro b hb r;refine⟨Flo.is_least hp h.bi hb r,h.bo b hb r,fun hr=>(hc b hb).1 r ?_⟩;exact Flo.outT_mono hf (fun c hc r hr=>(Flo.is_least hp h.bi hc r).2 hr) hb r hr
theorem LvInv.step {R z w y b:Nat}{bs bw bs1 nb:List Bool}{a a1 a2:Bool}(h:LvInv F zi zo)(hf:F.fits)(hb:b<F.n)(hil:zi.length=F.n)(hol:zo.length=F.n)(hRi:∀p∈zi,p.2.length=R)(hRo:∀p∈zo,p.2.length=R)
  (hl1:bs1.length=R) (hln:nb.length=R) (hzo:zo[b]? = some (z,bs)) (hzi:zi[b]? = some (w,bw))
  (g1:∀r,bs.getD r false=true→bs1.getD r false=true) (g2:∀r,bs1.getD r false=true→F.LO b r) (g3:∀r,F.outT (tab zi) b r→bs1.getD r false=true)
  (g4:∀r,nb.getD r false=true↔F.thru (fun r=>bs1.getD r false=true) b r)
  (k1:a1=true→a=true∨cnt bs<cnt bs1) (k2:a1=false→a=false∧bs1=bs)
  (k3:a2=true→a1=true∨∃r,nb.getD r false≠bw.getD r false) (k4:a2=false→a1=false∧∀r,r<R→nb.getD r false=bw.getD r false) :
  LvInv F (zi.set b (y,nb)) (zo.set b (z,bs1))∧Qln zi+Qln zo≤Qln (zi.set b (y,nb))+Qln (zo.set b (z,bs1))∧
   (a2=true→a=true∨Qln zi+Qln zo<Qln (zi.set b (y,nb))+Qln (zo.set b (z,bs1)))∧
   (a2=false→a=false∧LvCl F (zi.set b (y,nb)) (zo.set b (z,bs1)) b∧∀c,LvCl F zi zo c→LvCl F (zi.set b (y,nb)) (zo.set b (z,bs1)) c):=by
 have hbi:b<zi.length:=by omega
 have hbo:b<zo.length:=by omega
 have ezo:zo[b]=(z,bs):=by rw[Ji hbo]at hzo;simpa using hzo
 have ezi:zi[b]=(w,bw):=by rw[Ji hbi]at hzi;simpa using hzi
 have hlb:bs.length=R:=hRo (z,bs) (by rw[←ezo];exact Jd hbo);have hlw:bw.length=R:=hRi (w,bw) (by rw[←ezi];exact Jd hbi);have tzo:∀r,tab zo b r↔bs.getD r false=true:=fun r=>by rw[Qbjk hbo,ezo]
 have tzi:∀r,tab zi b r↔bw.getD r false=true:=fun r=>by rw[Qbjk hbi,ezi]
 have tzo':∀r,tab (zo.set b (z,bs1)) b r↔bs1.getD r false=true:=fun r=>Qa9q hbo r;have tzi':∀r,tab (zi.set b (y,nb)) b r↔nb.getD r false=true:=fun r=>Qa9q hbi r;have hsub:∀r,bw.getD r false=true→nb.getD r false=true:=fun r hr=>by
  rw[g4];exact Flo.thru_mono (fun r hr=>g1 r ((tzo r).1 hr)) b r (h.post b hb r ((tzi r).2 hr))
 have c1:=Q9q (a:=bs) (b:=bs1) (by omega) g1;have c2:=Q9q (a:=bw) (b:=nb) (by omega) hsub;have t1:=Qa9s (zs:=zo) (x:=(z,bs1)) hbo;have t2:=Qa9s (zs:=zi) (x:=(y,nb)) hbi;rw[ezo]at t1;rw[ezi]at t2;simp only at t1 t2;refine⟨⟨fun c hc r hr=>?_,fun c hc r hr=>?_,fun c hc r hr=>?_⟩,by have:=c1.1;have:=c2.1;omega,fun ha=>?_,fun ha=>?_⟩
 ·by_cases hcb:c=b
  ·subst hcb;rw[tzi',g4]at hr;exact Flo.LI_pre hf c hb r (Flo.thru_mono g2 c r hr)
  ·rw[Qtg hcb]at hr;exact h.bi c hc r hr
 ·by_cases hcb:c=b
  ·subst hcb;rw[tzo']at hr;exact g2 r hr
  ·rw[Qtg hcb]at hr;exact h.bo c hc r hr
 ·by_cases hcb:c=b
  ·subst hcb;rw[tzi',g4]at hr;exact Flo.thru_mono (fun r hr=>(tzo' r).2 hr) c r hr
  ·rw[Qtg hcb]at hr⊢;exact h.post c hc r hr
 ·rcases k3 ha with h1|⟨r,hr⟩
  ·rcases k1 h1 with h2|h2
   ·exact .inl h2
   ·right;have:=c2.1;omega
  ·right;have:=c2.2 r (fun e=>hr e.symm);have:=c1.1;omega
 ·obtain⟨h1,h2⟩:=k4 ha;obtain⟨h3,h4⟩:=k2 h1;have hnb:∀r,nb.getD r false=bw.getD r false:=fun r=>by
   by_cases hr:r<R
   ·exact h2 r hr
   ·rw[Ja,Ja,Jt (by omega),Jt (by omega)]
  have ti:tab (zi.set b (y,nb))=tab zi:=by
   funext c r
   by_cases hcb:c=b
   ·subst hcb;refine propext ?_;rw[tzi',tzi,hnb]
   ·rw[Qtg hcb]
  have to:tab (zo.set b (z,bs1))=tab zo:=by
   funext c r
   by_cases hcb:c=b
   ·subst hcb;refine propext ?_;rw[tzo',tzo,h4]
   ·rw[Qtg hcb]
  refine⟨h3,⟨fun r hr=>?_,fun r hr=>?_⟩,fun c hc=>?_⟩
  ·rw[ti]at hr;exact (tzo' r).2 (g3 r hr)
  ·rw[tzi',g4];exact Flo.thru_mono (fun r hr=>(tzo' r).1 hr) b r hr
  ·rw[LvCl,ti,to];exact hc
end Go.AE.Y
namespace Go.AE.Y
attribute [local go_sem] cond_true cond_false Bool.not_true Bool.not_false
open Go.Proofs.Tryz
variable {H H0 F:Heap}{K:V→Heap→Prop}{E L:List (Nat×Obj)}
def Qbz (R:Nat)(zs:List (Nat×List Bool)):List (List C):=zs.map fun p=>[.vsl p.1 1 0 R]
def obZ (zs:List (Nat×List Bool)):List (Nat×Obj):=zs.map fun p=>(p.1,.vec 1 (Qu p.2))
theorem Qa0 (R:Nat)(zs:List (Nat×List Bool)):(Qbz R zs).length=zs.length:=by simp[Qbz]
theorem Qdw (R:Nat)(zs:List (Nat×List Bool))(i:Nat)(h:i<zs.length):(Qbz R zs).getD i []=[.vsl zs[i].1 1 0 R]:=by simp[Qbz,Ja,h]
theorem Qatd {R:Nat}{zs:List (Nat×List Bool)}{i:Nat}{x:Nat×List Bool}(h:i<zs.length)(hx:x.1=zs[i].1):Qbz R (zs.set i x)=Qbz R zs:=by
 rw[Qbz,J6,hx];refine Jag fun j=>?_;rw[Jaa];split
 ·subst_vars;rw[if_pos (by simpa using h)];simp[Qbz,h]
 ·rfl
def lvE (R yi yo:Nat)(zi zo:List (Nat×List Bool)):List (Nat×Obj):=[(yi,.vec 1 (Qbz R zi)),(yo,.vec 1 (Qbz R zo))]++(obZ zi++obZ zo)
variable {R yi yo:Nat}{zi zo:List (Nat×List Bool)}
theorem Qbtn {b:Nat}(hb:b<zo.length):(lvE R yi yo zi zo)[2+zi.length+b]? = some (zo[b].1,.vec 1 (Qu zo[b].2)):=by
 have:2+zi.length+b=(zi.length+b)+1+1:=by omega
 rw[lvE,this];simp only[J3,J2,List.getElem?_cons_succ];rw[List.getElem?_append_right (by simp[obZ])];simp[obZ,hb]
theorem Qbqa {b z:Nat}{bs:List Bool}(hb:b<zo.length)(hz:zo[b].1=z):(lvE R yi yo zi zo).set (2+zi.length+b) (z,.vec 1 (Qu bs))=lvE R yi yo zi (zo.set b (z,bs)):=by
 have:2+zi.length+b=(zi.length+b)+1+1:=by omega
 rw[lvE,lvE,this,Qatd hb hz.symm];simp only[J3,J2,Ja6];rw[Jaz _ _ (by simp[obZ])];simp[obZ,J6]
theorem Qam6 {b m z w:Nat}{bs nb:List Bool}(kn:Kn F H (lvE R yi yo zi (zo.set b (z,bs))) L)(hb:b<zo.length)(hz:zo[b].1=z)(hm:m<zi.length)(hw:zi[m]=(w,nb)) :
  H yi=.vec 1 (Qbz R zi)∧H yo=.vec 1 (Qbz R zo)∧H z=.vec 1 (Qu bs)∧H w=.vec 1 (Qu nb):=by
 refine⟨(kn.get (yi,.vec 1 (Qbz R zi)) (by simp[lvE])).1,?_,(kn.get (z,.vec 1 (Qu bs)) ?_).1,(kn.get (w,.vec 1 (Qu nb)) ?_).1⟩
 ·rw[←Qatd (R:=R) (x:=(z,bs)) hb hz.symm];exact (kn.get (yo,.vec 1 (Qbz R (zo.set b (z,bs)))) (by simp[lvE])).1
 ·refine Jh _ (Jf _ (Jf _ (Jo.2 ⟨(z,bs),?_,rfl⟩)));exact Jx.2 ⟨b,by simpa using hb,by simp⟩
 ·exact Jh _ (Jf _ (Jh _ (Jo.2 ⟨(w,nb),by rw[←hw];exact Jd hm,rfl⟩)))
theorem Qbp9 {b z:Nat}{bs bs2:List Bool}{H':Heap}(kn:Kn F H (lvE R yi yo zi (zo.set b (z,bs))) L)(hb:b<zo.length)(h:H'=H.set z (.vec 1 (Qu bs2))):Kn F H' (lvE R yi yo zi (zo.set b (z,bs2))) L:=by
 have hb':b<(zo.set b (z,bs)).length:=by simpa using hb
 have:=kn.stE (2+zi.length+b) (x:=z) (o:=.vec 1 (Qu bs)) (by have h:=Qbtn (R:=R) (yi:=yi) (yo:=yo) (zi:=zi) hb';simpa using h) h;rw[Qbqa hb' (by simp),Jbb]at this;exact this
theorem Qbfy {b z:Nat}{bs bs2:List Bool}:(lvE R yi yo zi (zo.set b (z,bs))).map Prod.fst=(lvE R yi yo zi (zo.set b (z,bs2))).map Prod.fst:=by
 have e:∀bs:List Bool,(obZ (zo.set b (z,bs))).map Prod.fst=(zo.map Prod.fst).set b z:=fun bs=>by
  simp only[obZ,J6,Jaq];rfl
 simp only[lvE,Ju,Jw,J4,e]
theorem Q0w {bs:List Bool}{r:Nat}(h:bs.getD r false=true):bs.set r true=bs:=by
 refine Jag fun j=>?_;rw[Jaa];split
 ·subst_vars
  rw[Ja]at h;split
  ·rename_i hl;rw[Ji hl]at h⊢;simp at h;rw[h]
  ·rename_i hl;rw[Jt (by omega)]
 ·rfl
structure lvOk (R n:Nat)(zi zo:List (Nat×List Bool)):Prop where
 i:zi.length=n
 o:zo.length=n
 li:∀p∈zi,p.2.length=R
 lo:∀p∈zo,p.2.length=R
set_option maxHeartbeats 4000000 in
theorem Qbfi {q:CodeD}{bc:C}{Xs:List Nat}{b m z:Nat}{bs nb:List Bool}{w:Nat}(ho:q.ok)(hbc:CodeR F Xs bc q)(hX:∀x∈(lvE q.regs.toNat yi yo zi zo).map Prod.fst,x∈Xs)(hb:b<q.blocks.length)(hmx:(m:Int)∈gnx q b)(hok:lvOk q.regs.toNat q.blocks.length zi zo)
  (hz:zo[b]? = some (z,bs)) (hw:zi[m]? = some (w,nb)) {O I:RS'} (hO:Mem bs O) (hI:Mem nb I)
  (kn:Kn F H (lvE q.regs.toNat yi yo zi zo) [])
  (hK:∀(bs':List Bool) (a:Bool) H',bs'.length=q.regs.toNat→Mem bs' (fun r=>O r∨I r∨r∈(Qa8 q).ea b m)→(a=true→cnt bs<cnt bs')→(a=false→bs'=bs)→Kn F H' (lvE q.regs.toNat yi yo zi (zo.set b (z,bs'))) []→K (.c (.bool a)) H') :
  Qs prog Q07 [.ag [.int .i64 q.params,.int .i64 q.regs,bc],.ag [.vsl yi 1 0 q.blocks.length,.vsl yo 1 0 q.blocks.length],.c (.int .i64 b),.c (.int .i64 m)] H K:=by
 have hr0:=ho.r0;have hr1:=ho.r1;have hb1:=ho.b1;have hmb:m<q.blocks.length:=by
  have:=(ho.bs b hb).nx (m:Int) (by rw[←Qye hb];exact hmx);omega
 have hix:=ho.ix hb hmx;have hpe:(b:Int)∈Q8 (gnx q) (m:Int) q.blocks.length:=List.idxOf_lt_length_iff.1 hix;obtain⟨y,hy⟩:∃y,q.blocks[m]=y:=⟨_,rfl⟩;have hyo:y.ok q m:=by rw[←hy];exact ho.bs m hmb
 have hil:y.ins.length≤1200∧y.phis.length≤1200:=by rw[←hy];exact ho.il m hmb
 have hea:(Qa8 q).ea b m=y.phis.map fun p=>(p.args.getD ((Q8 (gnx q) (m:Int) q.blocks.length).idxOf (b:Int)) 0).toNat:=by rw[Qbkh hmb,hy]
 generalize hat:(Q8 (gnx q) (m:Int) q.blocks.length).idxOf (b:Int)=at_ at *;have hbo:b<zo.length:=by rw[hok.o];exact hb
 have hmi:m<zi.length:=by rw[hok.i];exact hmb
 have hz':zo[b]=(z,bs):=by rw[Ji hbo]at hz;simpa using hz
 have hw':zi[m]=(w,nb):=by rw[Ji hmi]at hw;simpa using hw
 have hz1:zo[b].1=z:=by rw[hz']
 have hw1:zi[m].1=w:=by rw[hw']
 have hbl:bs.length=q.regs.toNat:=hok.lo (z,bs) (by rw[←hz'];exact Jd hbo);have hnl:nb.length=q.regs.toNat:=hok.li (w,nb) (by rw[←hw'];exact Jd hmi);have hzl:=hok.o;have hil2:=hok.i;have hset:zo.set b (z,bs)=zo:=Qaz9 hz;have htk:∀(bs1:List Bool),bs1.length=q.regs.toNat→(Qu bs1).take q.regs.toNat=Qu bs1:=fun bs1 h=>Jc (by rw[Qz];omega);have htz:∀(zs:List (Nat×List Bool)),zs.length=q.blocks.length→(Qbz q.regs.toNat zs).take q.blocks.length=Qbz q.regs.toNat zs:=fun zs h=>Jc (by rw[Qa0];omega);rw[←hset]at kn hX;have hbw:=hbc.ow;have hX2:∀(bs1:List Bool),∀x∈(lvE q.regs.toNat yi yo zi (zo.set b (z,bs1))).map Prod.fst,x∈Xs:=fun bs1 x hx=>hX x (by rw[Qbfy (bs2:=bs)]at hx;exact hx);obtain⟨hyi,hyo',hzz,hww⟩:=Qam6 kn hbo hz1 hmi hw';refine Qc Qaj Qbf8 ?_;refine Qa ?_;simp only[go_sem,hbw];refine Qa ?_;simp only[go_sem,hbw,hyi,hww,htz _ hil2,htk _ hnl,Qa0,Qdw _ _ _ hmi,hw1,hmb,hil2,Qz,hnl,Js,Jn,J2,Jr];refine⟨.inl trivial,Qii _,by simp only[LIM];omega,fun y9 hy9 H1 h1=>?_⟩;have kn:=kn.al hy9 h1;simp only[go_sem,Q4d,hbw];refine Qa ?_;simp only[go_sem,hbw];refine Qfm (rows:=Qm q.blocks) (nx:=gnx q) (hbc.rd kn hX) hbw (Qg0 H1 q false).x fun H2 hu=>?_;have kn:=kn.call0 hu;rw[Qo];simp only[go_sem,Q4f];refine Qamz (.mk' _ _ _ _) rfl fun r hr=>?_;have hr:=hr.idx hpe;rw[hat]at hr;subst hr;simp only[go_sem,Q4e];refine Qy ?_;refine Qa ?_;simp only[go_sem];refine Qh (Qf (Qw (fun m1 e1 H1=>∃(i:Nat) (nb1:List Bool),m1=y.phis.length-i∧i≤y.phis.length∧nb1.length=q.regs.toNat∧Mem nb1 (fun r=>I r∨r∈((Qa8 q).ea b m).take i)∧Kn F H1 (lvE q.regs.toNat yi yo zi (zo.set b (z,bs))) [(y9,.vec 1 (Qu nb1))]∧
  e1=[(2,.c (.int .i64 b)),(3,.c (.int .i64 m)),(4,.c (.pp [.int .i64 q.params,.int .i64 q.regs,bc])),(5,.c (.pp [.vsl yi 1 0 q.blocks.length,.vsl yo 1 0 q.blocks.length])),(9,.c (.vsl y9 1 0 q.regs.toNat)),(10,.c (.int .i64 at_)),(11,.c (.int .i64 i))]) y.phis.length ?_ ?_))
 ·exact⟨0,nb,by omega,by omega,hnl,hI.congr fun r=>by simp,kn,rfl⟩
 ·rintro m1 e1 H3 ⟨i,nb1,hm1,hi,hnl,hN,kn,rfl⟩;have hy9:=kn.l 0 rfl;obtain⟨hbok,hbln,hbsz,hbrw⟩:=hbc.facts kn (hX2 bs);refine Qy ?_;refine Qa ?_;simp only[go_sem,hbw,hbok,hbln,hbsz,hbrw,hmb,Qo,Qaa _ _ hmb,hy,BlkD.cells,Q0];intro _;refine Qh (Qe rfl ?_ ?_)
  ·intro hc;have hlt:i<y.phis.length:=by simpa using hc
   have hpal:=hyo.pal _ (Jd hlt);have hal:at_<y.phis[i].args.length:=by omega
   obtain⟨hv,hvl⟩:=(hyo.pargs _ (Jd hlt) _ (Qj8 hal)).nat;have htk2:((Qa8 q).ea b m).take (i+1)=((Qa8 q).ea b m).take i++[(y.phis[i].args.getD at_ 0).toNat]:=by
    rw[Je (by rw[hea,Jv];exact hlt)];simp[hea]
   have hvl':(y.phis[i].args.getD at_ 0).toNat<nb1.length:=by omega
   generalize hr:(y.phis[i].args.getD at_ 0).toNat=r at *;refine Qi ?_;try simp only[go_sem]
   refine Qh (Qf ?_);refine Qq ?_;simp only[go_sem,hbw,hbok,hbln,hbsz,hbrw,hmb,Qo,Qaa _ _ hmb,hy,BlkD.cells,Q0,hlt,Qaw _ _ hlt,PhiD.cells,hal,Qd,Qn _ _ hal,hv,hvl,hy9,htk _ hnl,Qz,hnl,Qbo,Q6 _ _ hvl',Js,Jn];intro H4 h4;have kn:=kn.stL 0 rfl h4;refine Qq ?_;simp only[go_sem,X.next];refine⟨Qr (by omega) (by omega),y.phis.length-(i+1),by omega,i+1,_,rfl,by omega,by rw[Jl];exact hnl,?_,kn,rfl⟩;refine (hN.ins (by omega)).congr fun x=>?_;rw[htk2];simp only[Jg,Jb];constructor
   ·rintro (h|h|h)
    ·exact .inr (.inr h)
    ·exact .inl h
    ·exact .inr (.inl h)
   ·rintro (h|h|h)
    ·exact .inr (.inl h)
    ·exact .inr (.inr h)
    ·exact .inl h
  ·intro hc;have hge:y.phis.length≤i:=by simpa using hc
   have hN:Mem nb1 (fun r=>I r∨r∈(Qa8 q).ea b m):=hN.congr fun r=>by rw[Jc (by rw[hea,Jv];exact hge)]
   refine Qv ?_;simp only[go_sem,X.next];refine Qa ?_;simp only[go_sem];refine Qy ?_;refine Qa ?_;simp only[go_sem];refine Qh (Qf (Qw (fun m1 e1 H1=>∃(i:Nat) (bs1:List Bool) (more:Bool),m1=q.regs.toNat-i∧i≤q.regs.toNat∧bs1.length=q.regs.toNat∧Mem bs1 (fun r=>O r∨(r<i∧(I r∨r∈(Qa8 q).ea b m)))∧(more=true→cnt bs<cnt bs1)∧(more=false→bs1=bs)∧
    Kn F H1 (lvE q.regs.toNat yi yo zi (zo.set b (z,bs1))) [(y9,.vec 1 (Qu nb1))]∧
    e1=[(2,.c (.int .i64 b)),(4,.c (.pp [.int .i64 q.params,.int .i64 q.regs,bc])),(5,.c (.pp [.vsl yi 1 0 q.blocks.length,.vsl yo 1 0 q.blocks.length])),(9,.c (.vsl y9 1 0 q.regs.toNat)),(12,.c (.bool more)),(13,.c (.int .i64 i))]) q.regs.toNat ?_ ?_))
   ·exact⟨0,bs,false,by omega,by omega,hbl,hO.congr fun r=>by simp,by simp,fun _=>rfl,kn,rfl⟩
   ·rintro m1 e1 H4 ⟨i,bs1,more,hm1,hi,hbl1,hB,hmt,hmf,kn,rfl⟩;have hy9:=kn.l 0 rfl;obtain⟨hyi,hyo',hzz,hww⟩:=Qam6 kn hbo hz1 hmi hw';refine Qy ?_;refine Qa ?_;simp only[go_sem];refine Qh (Qe rfl ?_ ?_)
    ·intro hc;have hlt:i<q.regs.toNat:=(by have:(i:Int)<q.regs:=(by simpa using hc);omega);have hlt':i<nb1.length:=(by omega);have hlt2:i<bs1.length:=(by omega);refine Qi ?_;try simp only[go_sem]
     refine Qd2 (fun e2 H2=>∃(bs2:List Bool) (more:Bool),bs2.length=q.regs.toNat∧Mem bs2 (fun r=>O r∨(r<i+1∧(I r∨r∈(Qa8 q).ea b m)))∧(more=true→cnt bs<cnt bs2)∧(more=false→bs2=bs)∧
      Kn F H2 (lvE q.regs.toNat yi yo zi (zo.set b (z,bs2))) [(y9,.vec 1 (Qu nb1))]∧
      lk 2 e2=.c (.int .i64 b)∧lk 4 e2=.c (.pp [.int .i64 q.params,.int .i64 q.regs,bc])∧lk 5 e2=.c (.pp [.vsl yi 1 0 q.blocks.length,.vsl yo 1 0 q.blocks.length])∧lk 9 e2=.c (.vsl y9 1 0 q.regs.toNat)∧lk 12 e2=.c (.bool more)∧lk 13 e2=.c (.int .i64 i)) ?_ ?_
     ·intro Q hnr _ _;refine Qf ?_;refine Qa ?_;simp only[go_sem,hy9,hlt,htk _ hnl,Qz,hnl,Q6 _ _ hlt',Js,Jn];refine Qe rfl ?_ ?_
      ·intro hc2;have hneed:=(hN i).1 hc2;have hMem:Mem (bs1.set i true) (fun r=>O r∨(r<i+1∧(I r∨r∈(Qa8 q).ea b m))):=(hB.ins hlt2).congr fun r=>by
        constructor
        ·rintro (rfl|h|h)
         ·exact .inr ⟨by omega,hneed⟩
         ·exact .inl h
         ·exact .inr ⟨by omega,h.2⟩
        ·rintro (h|h)
         ·exact .inr (.inl h)
         ·by_cases hri:r=i
          ·exact .inl hri
          ·exact .inr (.inr ⟨by omega,h.2⟩)
       have hset2:∀(e:Env),lk 2 e=.c (.int .i64 b)→lk 4 e=.c (.pp [.int .i64 q.params,.int .i64 q.regs,bc])→lk 5 e=.c (.pp [.vsl yi 1 0 q.blocks.length,.vsl yo 1 0 q.blocks.length])→lk 9 e=.c (.vsl y9 1 0 q.regs.toNat)→lk 12 e=.c (.bool (bif more then true else !bs1.getD i false))→lk 13 e=.c (.int .i64 i)→
         Qah prog Qacg (X.inBlock 3 Q) e H4:=by
        intro e l2 l4 l5 l9 l12 l13;refine Qq ?_;simp only[go_sem,l2,l4,l5,l9,l12,l13,hyo',hzz,htz _ hzl,htk _ hbl1,Qa0,Qdw _ _ _ hbo,hz1,hb,hzl,hlt,Qz,hbl1,Qbo,Q6 _ _ hlt2,Js,Jn];intro H5 h5;refine hnr _ _ ⟨bs1.set i true,_,by rw[Jl];exact hbl1,hMem,?_,?_,Qbp9 kn hbo h5,rfl,rfl,rfl,rfl,rfl,rfl⟩
        ·intro hmo
         cases hg:bs1.getD i false with
         |true=>
          rw[Q0w hg];rw[hg]at hmo
          cases hmm:more with
          |true=>exact hmt hmm
          |false=>rw[hmm]at hmo;simp at hmo
         |false=>
          rw[Qamm hlt2 hg]
          cases hmm:more with
          |true=>have:=hmt hmm;omega
          |false=>rw[hmf hmm];omega
        ·intro hmo
         cases hmm:more with
         |true=>rw[hmm]at hmo;simp at hmo
         |false=>
          rw[hmm]at hmo;have hg:bs1.getD i false=true:=(by simpa using hmo);rw[Q0w hg];exact hmf hmm
       cases hmm:more with
       |true=>
        refine Qa ?_;simp only[go_sem,hyo',hzz,htz _ hzl,htk _ hbl1,Qa0,Qdw _ _ _ hbo,hz1,hb,hzl,hlt,Qz,hbl1,Q6 _ _ hlt2,Js,Jn];exact hset2 _ rfl rfl rfl rfl (by rw[hmm];rfl) rfl
       |false=>
        refine Qa ?_;simp only[go_sem,hyo',hzz,htz _ hzl,htk _ hbl1,Qa0,Qdw _ _ _ hbo,hz1,hb,hzl,hlt,Qz,hbl1,Q6 _ _ hlt2,Js,Jn];exact hset2 _ rfl rfl rfl rfl (by rw[hmm];rfl) rfl
      ·intro hc2;refine Qi ?_;try simp only[go_sem]
       refine hnr _ _ ⟨bs1,more,hbl1,hB.congr fun r=>?_,hmt,hmf,kn,rfl,rfl,rfl,rfl,rfl,rfl⟩;constructor
       ·rintro (h|h)
        ·exact .inl h
        ·exact .inr ⟨by omega,h.2⟩
       ·rintro (h|h)
        ·exact .inl h
        ·by_cases hri:r=i
         ·subst hri;have:=(hN r).2 h.2;rw[this]at hc2;exact absurd hc2 (by simp)
         ·exact .inr ⟨by omega,h.2⟩
     ·rintro e2 H5 ⟨bs2,more2,hbl2,hB2,hmt2,hmf2,kn,l2,l4,l5,l9,l12,l13⟩;refine Qq ?_;simp only[go_sem,X.next,l2,l4,l5,l9,l12,l13];exact⟨Qr (by omega) (by omega),q.regs.toNat-(i+1),by omega,i+1,bs2,more2,rfl,by omega,hbl2,hB2,hmt2,hmf2,kn,rfl⟩
    ·intro hc;have hge:q.regs.toNat≤i:=(by have:q.regs≤(i:Int):=(by simpa using hc);omega);refine Qv ?_;simp only[go_sem,X.next];refine Qa ?_;simp only[go_sem];refine Qk ?_;simp only[go_sem,Q3,Qab,Qas0,Jb,forall_eq,RS.op];refine hK bs1 more H4 hbl1 (hB.congr fun r=>?_) hmt hmf (kn.drop (A:=[]));constructor
     ·rintro (h|h)
      ·exact .inl h
      ·exact .inr h.2
     ·rintro (h|h)
      ·exact .inl h
      ·have:r<nb1.length:=hN.lt h;exact .inr ⟨by omega,h⟩
end Go.AE.Y
namespace Go.AE.Y
attribute [local go_sem] cond_true cond_false Bool.not_true Bool.not_false
open Go.Proofs.Tryz
variable {H H0 F:Heap}{K:V→Heap→Prop}{E L:List (Nat×Obj)}
def Q10 (zs:List (Nat×List Bool)):List (List C):=zs.map fun p=>[.sl false 1 (Qu p.2)]
theorem Qata (zs:List (Nat×List Bool)):(Q10 zs).length=zs.length:=by simp[Q10]
theorem Qalx (zs:List (Nat×List Bool))(i:Nat)(h:i<zs.length):(Q10 zs).getD i []=[.sl false 1 (Qu zs[i].2)]:=by simp[Q10,Ja,h]
theorem Qatc {S:Nat→Bool}{R:Nat}{zs:List (Nat×List Bool)}(hl:∀p∈zs,p.2.length=R)(hH:∀p∈obZ zs,H p.1=p.2∧S p.1=true):FrzR H S (Qbz R zs) (Q10 zs):=by
 induction zs with
 |nil=>exact .nil
 |cons z zs ih=>
  have h1:=hH (z.1,.vec 1 (Qu z.2)) (by simp[obZ]);refine .cons (.cons ?_ .nil) (ih (fun p hp=>hl p (Jk _ hp)) fun p hp=>hH p (by simp only[obZ,Jw];exact Jk _ hp));exact (FrzR.same (Qii _)).vsl h1.2 h1.1 (by rw[Qz];exact (hl z Jm).symm)
theorem Qbnp {α:Type}{l:List α}{i:Nat}{x:α}(h:i<l.length):(l++[x]).Perm (l.set i x++[l[i]]):=by
 have e:∀(m:List α) (hm:i<m.length),m.Perm (m[i]::m.eraseIdx i):=fun m hm=>by
  have h1:(m[i]::m.eraseIdx i).Perm m:=by
   rw[List.eraseIdx_eq_take_drop_succ];refine List.perm_middle.symm.trans ?_;rw[←Jy hm,Jah]
  exact h1.symm
 have h1:=e l h;have h2:=e (l.set i x) (by simpa using h);simp only[List.getElem_set_self,List.eraseIdx_set_eq]at h2;refine (h1.append_right [x]).trans ?_;refine List.Perm.trans ?_ (h2.append_right [l[i]]).symm;simp only[J3];refine (List.Perm.cons _ J1).trans ?_;refine List.Perm.trans ?_ (List.Perm.cons _ J1);exact List.Perm.swap _ _ _
def Qbtm (q:CodeD)(zi zo:List (Nat×List Bool)):Prop:=lvOk q.regs.toNat q.blocks.length zi zo∧∀b,b<q.blocks.length→∀r,(tab zi b r↔(Qa8 q).LI b r)∧(tab zo b r↔(Qa8 q).LO b r)
theorem Qbgv {zs:List (Nat×List Bool)}{b:Nat}(h:b<zs.length):Mem zs[b].2 (tab zs b):=fun r=>(Qbjk h r).symm
theorem Qabh (n r:Nat):(List.replicate n false).getD r false=false:=by
 rw[Ja,Jaf];split <;> rfl
def Qth (x2 x3 yi yo n:Nat):List (Nat×Obj):=[(x2,.st [.sl true 1 [],.sl true 1 []]),(x3,.st [.vsl yi 1 0 n,.vsl yo 1 0 n])]
set_option maxHeartbeats 4000000 in
theorem Qar2 {q:CodeD}{bc:C}(ho:q.ok)(hbc:CodeR H [] bc q)
  (hK:∀(zi zo:List (Nat×List Bool)) H',Upd H H' []→Qbtm q zi zo→K (.ag [.sl false 1 (Q10 zi),.sl false 1 (Q10 zo)]) H') :
  Qs prog Qtp [.ag [.int .i64 q.params,.int .i64 q.regs,bc]] H K:=by
 have hr0:=ho.r0;have hr1:=ho.r1;have hb0:=ho.b0;have hb1:=ho.b1;have hfit:=ho.fitsF;have hFn:(Qa8 q).n=q.blocks.length:=rfl;obtain⟨R,hR⟩:∃R,q.regs.toNat=R:=⟨_,rfl⟩;obtain⟨n,hn⟩:∃n,q.blocks.length=n:=⟨_,rfl⟩;have hRq:q.regs=(R:Int):=by omega
 refine Qx ?_;have hbw:=hbc.ow;refine Qc Qaj Qbf9 ?_;refine Qa ?_;simp only[go_sem,hbw];intro x2 hx2 H1 h1;have kn:=(Kn.start0 H).al hx2 h1;refine Qa ?_;simp only[go_sem,hbw];intro x3 hx3 H2 h2;have kn:=kn.al hx3 h2;have hx3:=kn.l 1 rfl;simp only[go_sem,Q4g,hx3];intro H3 h3;have kn:Kn H H3 [] [(x2,.st [.sl true 1 [],.sl true 1 []]),(x3,.st [.sl true 1 [],.sl true 1 []])]:=kn.stL 1 rfl h3;refine Qa ?_;obtain⟨hbok,hbln,hbsz,hbrw⟩:=hbc.facts kn (by simp);simp only[go_sem,hbw,hbok,hbln,hbsz,hbrw,hn];clear hbok hbrw;intro _;refine Qy ?_;refine Qa ?_;simp only[go_sem];refine Qh (Qf (Qw (fun m e1 H1=>∃(i:Nat) (zi zo:List (Nat×List Bool)) (ci co:C) (Li Lo:List (Nat×Obj)),m=n-i∧i≤n∧zi.length=i∧zo.length=i∧(∀p∈zi,p.2=List.replicate R false)∧(∀p∈zo,p.2=List.replicate R false)∧
  Gr Li 1 (Qbz R zi) ci∧Gr Lo 1 (Qbz R zo) co∧Kn H H1 [] ([(x2,.st [.sl true 1 [],.sl true 1 []]),(x3,.st [ci,co])]++(obZ zi++(obZ zo++(Li++Lo))))∧
  e1=[(1,.c (.pp [.int .i64 q.params,.int .i64 q.regs,bc])),(2,.c (.ptr x2 0)),(3,.c (.ptr x3 0)),(4,.c (.int .i64 n)),(5,.c (.int .i64 i))]) n ?_ ?_))
 ·exact⟨0,[],[],_,_,[],[],by omega,by omega,rfl,rfl,by simp,by simp,.nil 1,.nil 1,kn,rfl⟩
 ·rintro m e1 H4 ⟨i,zi,zo,ci,co,Li,Lo,hm,hi,hzil,hzol,hzi,hzo,hgi,hgo,kn,rfl⟩;refine Qy ?_;refine Qa ?_;simp only[go_sem];refine Qh (Qe rfl ?_ ?_)
  ·intro hc;have hlt:i<n:=by simpa using hc
   have hciw:=hgi.isOw;have hcow:=hgo.isOw;have hx3:=kn.l 1 rfl;refine Qi ?_;try simp only[go_sem]
   refine Qh (Qf ?_);refine Qag ?_;simp only[go_sem,hx3,hciw,hcow];refine⟨by omega,by simp only[LIM];omega,fun y1 hy1 H5 h5=>?_⟩;have kn:Kn H H5 [] (([(x2,.st [.sl true 1 [],.sl true 1 []]),(x3,.st [ci,co])]++(obZ (zi++[(y1,List.replicate R false)])++(obZ zo++Lo)))++Li):=
    (kn.al hy1 h5).perm (Ql fun f hf h0 hc hp=>by
     have hc':=hc (x2,.st [.sl true 1 [],.sl true 1 []]) [(x3,.st [ci,co])];simp only[hf,obZ,Ju,Jw,J4,Qbn,hR];omega)
   have hx3:=kn.l 1 rfl;simp only[go_sem,Q4i,hx3,hciw,hcow];refine kn.growR hgi (.mk' _ _ _ _) (by intro r hr;simp at hr;subst hr;rfl) (by simp only[LIM,Qa0,Jq,Jr];omega) fun ci2 Li2 H6 hgi2 hciw2 kn=>?_;have hx3:=kn.l 1 rfl;simp only[go_sem,Q4h,hx3,hciw2,hcow];intro H7 h7;have kn:Kn H H7 [] ([(x2,.st [.sl true 1 [],.sl true 1 []]),(x3,.st [ci2,co])]++(obZ (zi++[(y1,List.replicate R false)])++(obZ zo++Lo))++Li2):=kn.stL 1 rfl h7;have hgi2:Gr Li2 1 (Qbz R (zi++[(y1,List.replicate R false)])) ci2:=by
    have:Qbz R (zi++[(y1,List.replicate R false)])=Qbz R zi++[[C.vsl y1 1 0 q.regs.toNat]]:=(by simp[Qbz,hR]);rw[this];exact hgi2
   have hx3:=kn.l 1 rfl;refine Qa2 ?_;simp only[go_sem,hx3,hciw2,hcow];refine⟨by omega,by simp only[LIM];omega,fun y2 hy2 H8 h8=>?_⟩;have kn:Kn H H8 [] (([(x2,.st [.sl true 1 [],.sl true 1 []]),(x3,.st [ci2,co])]++(obZ (zi++[(y1,List.replicate R false)])++(obZ (zo++[(y2,List.replicate R false)])++Li2)))++Lo):=
    (kn.al hy2 h8).perm (Ql fun f hf h0 hc hp=>by
     simp only[hf,obZ,Ju,Jw,J4,Qbn,hR];omega)
   have hx3:=kn.l 1 rfl;simp only[go_sem,Q4k,hx3,hciw2,hcow];refine kn.growR hgo (.mk' _ _ _ _) (by intro r hr;simp at hr;subst hr;rfl) (by simp only[LIM,Qa0,Jq,Jr];omega) fun co2 Lo2 H9 hgo2 hcow2 kn=>?_;have hx3:=kn.l 1 rfl;simp only[go_sem,Q4j,hx3,hciw2,hcow2];intro H10 h10;have kn:Kn H H10 [] ([(x2,.st [.sl true 1 [],.sl true 1 []]),(x3,.st [ci2,co2])]++(obZ (zi++[(y1,List.replicate R false)])++(obZ (zo++[(y2,List.replicate R false)])++Li2))++Lo2):=kn.stL 1 rfl h10;have hgo2:Gr Lo2 1 (Qbz R (zo++[(y2,List.replicate R false)])) co2:=by
    have:Qbz R (zo++[(y2,List.replicate R false)])=Qbz R zo++[[C.vsl y2 1 0 q.regs.toNat]]:=(by simp[Qbz,hR]);rw[this];exact hgo2
   refine Qq ?_;simp only[go_sem,X.next];refine⟨Qr (by omega) (by omega),n-(i+1),by omega,i+1,zi++[(y1,List.replicate R false)],zo++[(y2,List.replicate R false)],ci2,co2,Li2,Lo2,rfl,by omega,by simp[hzil],by simp[hzol],?_,?_,hgi2,hgo2,?_,rfl⟩
   ·intro p hp;rcases Jg.1 hp with hp|hp
    ·exact hzi p hp
    ·simp at hp;rw[hp]
   ·intro p hp;rcases Jg.1 hp with hp|hp
    ·exact hzo p hp
    ·simp at hp;rw[hp]
   ·exact kn.perm (by simp only[Jar];exact .refl _)
  ·intro hc;have hin:i=n:=by have:n≤i:=(by simpa using hc);omega
   subst hin;obtain⟨yi,hyi,hLi⟩:∃yi,ci=.vsl yi 1 0 i∧Li=[(yi,.vec 1 (Qbz R zi))]:=by
    rcases hgi with ⟨_,h,_⟩|⟨y,h1,h2⟩
    ·have:=congrArg List.length h;rw[Qa0,hzil]at this;simp at this;omega
    ·exact⟨y,by rw[h1,Qa0,hzil],h2⟩
   obtain⟨yo,hyo,hLo⟩:∃yo,co=.vsl yo 1 0 i∧Lo=[(yo,.vec 1 (Qbz R zo))]:=by
    rcases hgo with ⟨_,h,_⟩|⟨y,h1,h2⟩
    ·have:=congrArg List.length h;rw[Qa0,hzol]at this;simp at this;omega
    ·exact⟨y,by rw[h1,Qa0,hzol],h2⟩
   have kn:Kn H H4 [] (lvE R yi yo zi zo++Qth x2 x3 yi yo i):=by
    refine kn.perm (Ql fun f hf h0 hc hp=>?_);rw[hLi,hLo,hyi,hyo];have e1:=hc (x2,.st [.sl true 1 [],.sl true 1 []]) [(x3,.st [.vsl yi 1 0 i,.vsl yo 1 0 i])];have e2:=hc (yi,.vec 1 (Qbz R zi)) [(yo,.vec 1 (Qbz R zo))];simp only[hf,lvE,Qth];omega
   have hlv:lvOk R i zi zo:=⟨hzil,hzol,fun p hp=>by rw[hzi p hp];simp,fun p hp=>by rw[hzo p hp];simp⟩;have hno:∀(zs:List (Nat×List Bool)),(∀p∈zs,p.2=List.replicate R false)→∀b r,¬tab zs b r:=fun zs h b r hr=>by
    rw[tab]at hr
    cases hg:zs[b]? with
    |none=>rw[hg]at hr;simp at hr
    |some p=>
     rw[hg]at hr;have:=h p (Jal hg);simp only[Option.map_some,Jak,this,Qabh]at hr;exact absurd hr (by simp)
   have hinv:LvInv (Qa8 q) zi zo:=⟨fun b _ r hr=>absurd hr (hno zi hzi b r),fun b _ r hr=>absurd hr (hno zo hzo b r),fun b _ r hr=>absurd hr (hno zi hzi b r)⟩;refine Qv ?_;simp only[go_sem,X.next];refine Qy ?_;refine Qa ?_;simp only[go_sem];clear hno hzi hzo hgi hgo hLi hLo hyi hyo hzil hzol hm hc hi;refine Qh (Qf (Qw (fun m e1 H1=>∃(zi zo:List (Nat×List Bool)) (a:Bool) (yi yo:Nat),m=(if a=true then 2 * (i * R)+1-(Qln zi+Qln zo)else 0)∧lvOk R i zi zo∧LvInv (Qa8 q) zi zo∧(a=false→∀b,b<i→LvCl (Qa8 q) zi zo b)∧
    Kn H H1 [] (lvE R yi yo zi zo++Qth x2 x3 yi yo i)∧
    lk 1 e1=.c (.pp [.int .i64 q.params,.int .i64 q.regs,bc])∧lk 2 e1=.c (.ptr x2 0)∧lk 3 e1=.c (.ptr x3 0)∧lk 4 e1=.c (.int .i64 i)∧lk 6 e1=.c (.bool a)) (2 * (i * R)+1-(Qln zi+Qln zo)) ?_ ?_))
   ·exact⟨zi,zo,true,yi,yo,rfl,hlv,hinv,fun h=>by simp at h,kn,rfl,rfl,rfl,rfl,rfl⟩
   ·clear hlv hinv kn;rintro m e1 H5 ⟨zi,zo,a,yi,yo,hm,hlv,hinv,hcl,kn,l1,l2,l3,l4,l6⟩;have htl0:=Qaq7 hlv.li;have hto0:=Qaq7 hlv.lo;rw[hlv.i]at htl0;rw[hlv.o]at hto0;refine Qy ?_;refine Qa ?_;simp only[go_sem,l1,l2,l3,l4,l6];refine Qh (Qe rfl ?_ ?_)
    ·intro hat;rw[hat,if_pos rfl]at hm;refine Qi ?_;try simp only[go_sem]
     refine Qf ?_;refine Qa ?_;simp only[go_sem];refine Qa ?_;simp only[go_sem];refine⟨Qr (by omega) (by omega),?_⟩;clear hcl;refine Qf (Qw (fun m1 e1 H1=>∃(k:Nat) (j:Int) (zi1 zo1:List (Nat×List Bool)) (a:Bool) (yi yo:Nat),m1=k∧k≤i∧j=(k:Int)-1∧lvOk R i zi1 zo1∧LvInv (Qa8 q) zi1 zo1∧Qln zi+Qln zo≤Qln zi1+Qln zo1∧
      (a=true→Qln zi+Qln zo<Qln zi1+Qln zo1)∧(a=false→∀b,k≤b→b<i→LvCl (Qa8 q) zi1 zo1 b)∧
      Kn H H1 [] (lvE R yi yo zi1 zo1++Qth x2 x3 yi yo i)∧
      e1=[(1,.c (.pp [.int .i64 q.params,.int .i64 q.regs,bc])),(2,.c (.ptr x2 0)),(3,.c (.ptr x3 0)),(4,.c (.int .i64 i)),(6,.c (.bool a)),(7,.c (.int .i64 j))]) i ?_ ?_)
     ·exact⟨i,_,zi,zo,false,yi,yo,rfl,Jn _,rfl,hlv,hinv,Jn _,fun h=>by simp at h,fun _ b h1 h2=>by omega,kn,rfl⟩
     ·have hTb:Qln zi+Qln zo≤2 * (i * R):=(by omega);generalize hT0:Qln zi+Qln zo=T0 at *;clear hinv hlv kn hto0 htl0 hT0;clear zi zo yi yo;rintro m1 e1 H6 ⟨k,j,zi,zo,a,yi,yo,rfl,hk,hjk,hlv,hinv,htot,htt,htf,kn,rfl⟩;have htl0:=Qaq7 hlv.li;have hto0:=Qaq7 hlv.lo;rw[hlv.i]at htl0;rw[hlv.o]at hto0;refine Qy ?_;refine Qa ?_;simp only[go_sem];refine Qh (Qe rfl ?_ ?_)
      ·intro hc;have hge:0≤j:=(by simpa using hc);obtain⟨b,rfl⟩:∃b,m1=b+1:=⟨m1-1,by omega⟩;have hj:j=(b:Int):=(by omega);subst hj;have hbn:b<i:=(by omega);have hbq:b<q.blocks.length:=(by omega);have hbo:b<zo.length:=(by rw[hlv.o];exact hbn);have hbi:b<zi.length:=(by rw[hlv.i];exact hbn);obtain⟨⟨z,bs⟩,hz⟩:∃p,zo[b]=p:=⟨_,rfl⟩;obtain⟨⟨w,bw⟩,hw⟩:∃p,zi[b]=p:=⟨_,rfl⟩;have hz':zo[b]? = some (z,bs):=(by rw[Ji hbo,hz]);have hw':zi[b]? = some (w,bw):=(by rw[Ji hbi,hw]);have hbsl:bs.length=R:=hlv.lo (z,bs) (by rw[←hz];exact Jd hbo);have hbwl:bw.length=R:=hlv.li (w,bw) (by rw[←hw];exact Jd hbi);have hmo:Mem bs (tab zo b):=(by have:=Qbgv hbo;rw[hz]at this;exact this);have hzs:zo.set b (z,bs)=zo:=Qaz9 hz';obtain⟨y,hy⟩:∃y,q.blocks[b]=y:=⟨_,rfl⟩;have hyo:y.ok q b:=(by rw[←hy];exact ho.bs b hbq);have hil:y.ins.length≤1200∧y.phis.length≤1200:=(by rw[←hy];exact ho.il b hbq);have hnx:(Qa8 q).nx b=y.next.map Int.toNat:=(by rw[←hy,←Qye hbq];rfl);have hph:(Qa8 q).ph b=y.phis.map fun p=>p.to.toNat:=(by rw[Qbkj hbq,hy]);refine Qi ?_;try simp only[go_sem]
       refine Qd2 (fun e2 H2=>∃(zi2 zo2:List (Nat×List Bool)) (a2:Bool) (yi yo:Nat),lvOk R i zi2 zo2∧LvInv (Qa8 q) zi2 zo2∧Qln zi+Qln zo≤Qln zi2+Qln zo2∧
        (a2=true→a=true∨Qln zi+Qln zo<Qln zi2+Qln zo2)∧(a2=false→a=false∧LvCl (Qa8 q) zi2 zo2 b∧∀c,LvCl (Qa8 q) zi zo c→LvCl (Qa8 q) zi2 zo2 c)∧
        Kn H H2 [] (lvE R yi yo zi2 zo2++Qth x2 x3 yi yo i)∧
        lk 1 e2=.c (.pp [.int .i64 q.params,.int .i64 q.regs,bc])∧lk 2 e2=.c (.ptr x2 0)∧lk 3 e2=.c (.ptr x3 0)∧lk 4 e2=.c (.int .i64 i)∧lk 6 e2=.c (.bool a2)∧lk 7 e2=.c (.int .i64 b)) ?_ ?_
       ·intro Q hnr _ _;refine Qf ?_;refine Qy ?_;refine Qa ?_;simp only[go_sem];refine Qh (Qf (Qw (fun m2 e1 H1=>∃(i2:Nat) (bs1:List Bool) (a1:Bool),m2=y.next.length-i2∧i2≤y.next.length∧bs1.length=R∧(∀r,bs.getD r false=true→bs1.getD r false=true)∧(∀r,bs1.getD r false=true→(Qa8 q).LO b r)∧
         (∀m∈((Qa8 q).nx b).take i2,∀r,tab zi m r∨r∈(Qa8 q).ea b m→bs1.getD r false=true)∧(a1=true→a=true∨cnt bs<cnt bs1)∧(a1=false→a=false∧bs1=bs)∧
         Kn H H1 [] (lvE R yi yo zi (zo.set b (z,bs1))++Qth x2 x3 yi yo i)∧
         e1=[(1,.c (.pp [.int .i64 q.params,.int .i64 q.regs,bc])),(2,.c (.ptr x2 0)),(3,.c (.ptr x3 0)),(4,.c (.int .i64 i)),(6,.c (.bool a1)),(7,.c (.int .i64 b)),(8,.c (.int .i64 i2))]) y.next.length ?_ ?_))
        ·exact⟨0,bs,a,by omega,by omega,hbsl,fun r h=>h,fun r h=>hinv.bo b hbq r ((hmo r).1 h),by simp,fun h=>.inl h,fun h=>⟨h,rfl⟩,by rw[hzs];exact kn,rfl⟩
        ·rintro m2 e1 H7 ⟨i2,bs1,a1,hm2,hi2,hb1l,g1,g2,g3,k1,k2,kn,rfl⟩;have hx3:H7 x3=.st [.vsl yi 1 0 i,.vsl yo 1 0 i]:=(kn.get (x3,.st [.vsl yi 1 0 i,.vsl yo 1 0 i]) (by simp[Qth])).1;obtain⟨hbok,_,_,hbrw⟩:=hbc.facts kn (by simp);refine Qy ?_;refine Qa ?_;simp only[go_sem,hbw,hbok,hbln,hbsz,hbrw,hbq,Qo,Qaa _ _ hbq,hy,BlkD.cells,Qd];intro _;refine Qh (Qe rfl ?_ ?_)
         ·intro hc2;have hlt:i2<y.next.length:=(by simpa using hc2);have hnl2:=hyo.nxl;have hgd:y.next.getD i2 0=y.next[i2]:=(by simp[Ja,hlt]);have hmx:y.next[i2]∈gnx q b:=(by rw[Qye hbq,hy];exact Jd hlt);have hmr:=hyo.nx _ (Jd hlt);obtain⟨mm,hmm⟩:=Jas (show 0≤y.next[i2]by omega);have hmi:mm<zi.length:=(by rw[hlv.i];omega);have hmF:mm∈(Qa8 q).nx b:=(by rw[hnx];exact Jo.2 ⟨y.next[i2],Jd hlt,by rw[hmm];rfl⟩);have htk:((Qa8 q).nx b).take (i2+1)=((Qa8 q).nx b).take i2++[mm]:=by
           rw[Je (by rw[hnx,Jv];exact hlt)];congr 1;simp only[hnx,Jav,hmm];rfl
          rw[hmm]at hmx hgd;have hbo':b<(zo.set b (z,bs1)).length:=(by simpa using hbo);have hlv':lvOk R i zi (zo.set b (z,bs1)):=⟨hlv.i,by rw[Jl];exact hlv.o,hlv.li,fun p hp=>by
           rcases Jad hp with hp|rfl
           ·exact hlv.lo p hp
           ·exact hb1l⟩
          refine Qi ?_;try simp only[go_sem]
          refine Qh (Qf ?_);refine Qa2 ?_;simp only[go_sem,hx3,hbw,hbok,hbln,hbsz,hbrw,hbq,Qo,Qaa _ _ hbq,hy,BlkD.cells,hlt,Qd,Qn _ _ hlt,hgd];subst hR;subst hn;refine Qbfi (F:=H7) (z:=z) (bs:=bs1) (w:=zi[mm].1) (nb:=zi[mm].2) (O:=fun r=>bs1.getD r false=true) (I:=tab zi mm) ho (hbc.mid kn) (fun x hx=>by rw[Ju];exact Jh _ hx) hbq hmx hlv' (by rw[Jax hbo]) (by rw[Ji hmi]) (fun r=>Iff.rfl) (Qbgv hmi) kn.mid fun bs2 f H8 hb2l hm2' hf1 hf2 k2'=>?_;rw[Jbb]at k2';have kn:=(kn.comp k2' Qbfy).drop;have stepT:∀a1',(a1'=(f || a1))→∃m,m<m2∧∃(i5:Nat) (bs1:List Bool) (a1:Bool),m=y.next.length-i5∧i5≤y.next.length∧bs1.length=q.regs.toNat∧(∀r,bs.getD r false=true→bs1.getD r false=true)∧(∀r,bs1.getD r false=true→(Qa8 q).LO b r)∧
            (∀m∈((Qa8 q).nx b).take i5,∀r,tab zi m r∨r∈(Qa8 q).ea b m→bs1.getD r false=true)∧(a1=true→a=true∨cnt bs<cnt bs1)∧(a1=false→a=false∧bs1=bs)∧
            Kn H H8 [] (lvE q.regs.toNat yi yo zi (zo.set b (z,bs1))++Qth x2 x3 yi yo q.blocks.length)∧
            [(1,V.c (.pp [.int .i64 q.params,.int .i64 q.regs,bc])),(2,.c (.ptr x2 0)),(3,.c (.ptr x3 0)),(4,.c (.int .i64 q.blocks.length)),(6,.c (.bool a1')),(7,.c (.int .i64 b)),(8,.c (.int .i64 ((i2:Int)+1)))]=[(1,.c (.pp [.int .i64 q.params,.int .i64 q.regs,bc])),(2,.c (.ptr x2 0)),(3,.c (.ptr x3 0)),(4,.c (.int .i64 q.blocks.length)),(6,.c (.bool a1)),(7,.c (.int .i64 b)),(8,.c (.int .i64 i5))]:=by
           intro a1' ha1';refine⟨y.next.length-(i2+1),by omega,i2+1,bs2,a1',rfl,by omega,hb2l,fun r hr=>(hm2' r).2 (.inl (g1 r hr)),fun r hr=>?_,fun m hm r hr=>?_,fun ha=>?_,fun ha=>?_,kn,rfl⟩
           ·rcases (hm2' r).1 hr with h|h|h
            ·exact g2 r h
            ·exact⟨mm,hmF,.inl (hinv.bi mm (hfit b hbq mm hmF) r h)⟩
            ·exact⟨mm,hmF,.inr h⟩
           ·rw[htk]at hm;rcases Jg.1 hm with hm|hm
            ·exact (hm2' r).2 (.inl (g3 m hm r hr))
            ·simp only[Jb]at hm;subst hm;exact (hm2' r).2 (.inr hr)
           ·have c1:cnt bs≤cnt bs1:=(Q9q (by omega) g1).1
            cases hf:f with
            |true=>have:=hf1 hf;right;omega
            |false=>
             rw[hf2 hf];rw[ha1',hf]at ha;exact k1 (by simpa using ha)
           ·rw[ha1']at ha;have hff:f=false:=by cases hf:f with
             |true=>rw[hf]at ha;simp at ha
             |false=>rfl
            rw[hff]at ha;obtain⟨q1,q2⟩:=k2 (by simpa using ha);exact⟨q1,by rw[hf2 hff,q2]⟩
          cases hfc:f with
          |true=>
           simp only[go_sem,Qry];refine Qq ?_;simp only[go_sem,X.next];exact⟨Qr (by omega) (by omega),stepT true (by rw[hfc];rfl)⟩
          |false=>
           simp only[go_sem,Qry];refine Qq ?_;simp only[go_sem,X.next];exact⟨Qr (by omega) (by omega),stepT a1 (by rw[hfc];rfl)⟩
         ·intro hc2;have hge2:y.next.length≤i2:=(by simpa using hc2);have g3:∀r,(Qa8 q).outT (tab zi) b r→bs1.getD r false=true:=fun r ⟨m,hm,hr⟩=>
           g3 m (by rw[Jc (by rw[hnx,Jv];exact hge2)];exact hm) r hr
          refine Qv ?_;simp only[go_sem,X.next];refine Qa ?_;simp only[go_sem,hx3,hbw];have hbo':b<(zo.set b (z,bs1)).length:=(by simpa using hbo);obtain⟨hyiH,hyoH,hzzH,hwwH⟩:=Qam6 kn.mid hbo (by rw[hz]) hbi hw;have hsl:Slc H7 1 (Qbz R zo) (.vsl yo 1 0 i):=⟨by simp only[okSl,hyoH,Qa0,hlv.o];exact⟨trivial,by omega⟩,rfl,by simp only[rowsOf,hyoH,Jac];exact Jc (by rw[Qa0,hlv.o];exact Jn _),by simp only[lenC,Qa0,hlv.o]⟩;have hsb:Slc H7 1 (Qu bs1) (.vsl z 1 0 R):=⟨by simp only[okSl,hzzH,Qz,hb1l];exact⟨trivial,by omega⟩,rfl,by simp only[rowsOf,hzzH,Jac];exact Jc (by rw[Qz,hb1l];exact Jn _),by simp only[lenC,Qz,hb1l]⟩;refine Qa09 (i:=-1) (ic:=.vsl yi 1 0 i) (bc:=bc) (W:=fun r=>bs1.getD r false=true) ho (hbc.mid kn).nil hbq (by omega) (by omega) kn hsl rfl rfl (by rw[Qa0];exact hbo) (by rw[Qdw _ _ _ hbo,hz]) hsb rfl (by rw[hR];exact hb1l) (fun r=>Iff.rfl) fun y9 nb0 H8 hnl0 hm0 kn=>?_;rw[hR]at hnl0;simp only[go_sem,Qzw,hR];refine Qy ?_;refine Qa ?_;simp only[go_sem];refine Qh (Qf (Qw (fun m2 e1 H1=>∃(i2:Nat) (nb:List Bool),m2=y.phis.length-i2∧i2≤y.phis.length∧nb.length=R∧Mem nb (fun r=>(Qa8 q).beh (fun r=>bs1.getD r false=true) b 0 r∧r∉((Qa8 q).ph b).take i2)∧
           Kn H H1 [] ((lvE R yi yo zi (zo.set b (z,bs1))++Qth x2 x3 yi yo i)++[(y9,.vec 1 (Qu nb))])∧
           e1=[(1,.c (.pp [.int .i64 q.params,.int .i64 q.regs,bc])),(2,.c (.ptr x2 0)),(3,.c (.ptr x3 0)),(4,.c (.int .i64 i)),(6,.c (.bool a1)),(7,.c (.int .i64 b)),(9,.c (.vsl y9 1 0 R)),(10,.c (.int .i64 i2))]) y.phis.length ?_ ?_))
          ·exact⟨0,nb0,by omega,by omega,hnl0,hm0.congr fun r=>by simp,kn,rfl⟩
          ·clear hm0 hnl0 kn;rintro m3 e1 H9 ⟨i3,nb,hm3,hi3,hnl,hmn,kn,rfl⟩;have hy9:H9 y9=.vec 1 (Qu nb):=(kn.get (y9,.vec 1 (Qu nb)) (by simp)).1;have htkn:(Qu nb).take R=Qu nb:=Jc (by rw[Qz];omega);obtain⟨hbok,_,_,hbrw⟩:=hbc.facts kn (by simp);refine Qy ?_;refine Qa ?_;simp only[go_sem,hbw,hbok,hbln,hbsz,hbrw,hbq,Qo,Qaa _ _ hbq,hy,BlkD.cells,Q0];intro _;refine Qh (Qe rfl ?_ ?_)
           ·intro hc3;have hlt3:i3<y.phis.length:=(by simpa using hc3);obtain⟨hv,hvl⟩:=(hyo.pto _ (Jd hlt3)).nat;rw[hR]at hvl;have htk3:((Qa8 q).ph b).take (i3+1)=((Qa8 q).ph b).take i3++[(y.phis[i3].to).toNat]:=by
             rw[Je (by rw[hph,Jv];exact hlt3)];simp[hph]
            have hvl':(y.phis[i3].to).toNat<nb.length:=(by omega);generalize hr:(y.phis[i3].to).toNat=r at *;refine Qi ?_;try simp only[go_sem]
            refine Qh (Qf ?_);refine Qq ?_;simp only[go_sem,hbw,hbok,hbln,hbsz,hbrw,hbq,Qo,Qaa _ _ hbq,hy,BlkD.cells,hlt3,Q0,Qaw _ _ hlt3,PhiD.cells,hv,hvl,hy9,htkn,Qz,hnl,Qbo,Q6 _ _ hvl',Js,Jn];intro H10 h10;have kn:=kn.stL (lvE R yi yo zi (zo.set b (z,bs1))++Qth x2 x3 yi yo i).length (x:=y9) (o:=.vec 1 (Qu nb)) (by simp) h10;refine Qq ?_;simp only[go_sem,X.next];refine⟨Qr (by omega) (by omega),y.phis.length-(i3+1),by omega,i3+1,nb.set r false,rfl,by omega,by rw[Jl];exact hnl,?_,by simpa using kn,rfl⟩;refine (hmn.del hvl').congr fun x=>?_;rw[htk3];simp only[Jg,Jb,not_or,and_assoc]
           ·intro hc3;have hge3:y.phis.length≤i3:=(by simpa using hc3);have hmn:Mem nb ((Qa8 q).thru (fun r=>bs1.getD r false=true) b):=hmn.congr fun r=>(by rw[Jc (by rw[hph,Jv];exact hge3)];rfl);refine Qv ?_;simp only[go_sem,X.next];refine Qy ?_;refine Qa ?_;simp only[go_sem];refine Qh (Qf (Qw (fun m4 e1 H1=>∃(i4:Nat) (a2:Bool),m4=R-i4∧i4≤R∧H1=H9∧(a2=true→a1=true∨∃r,nb.getD r false≠bw.getD r false)∧(a2=false→a1=false∧∀r,r<i4→nb.getD r false=bw.getD r false)∧
             e1=[(1,.c (.pp [.int .i64 q.params,.int .i64 q.regs,bc])),(2,.c (.ptr x2 0)),(3,.c (.ptr x3 0)),(4,.c (.int .i64 i)),(6,.c (.bool a2)),(7,.c (.int .i64 b)),(9,.c (.vsl y9 1 0 R)),(11,.c (.int .i64 i4))]) R ?_ ?_))
            ·exact⟨0,a1,by omega,by omega,rfl,fun h=>.inl h,fun h=>⟨h,fun r hr=>by omega⟩,rfl⟩
            ·have hx3:H9 x3=.st [.vsl yi 1 0 i,.vsl yo 1 0 i]:=(kn.get (x3,.st [.vsl yi 1 0 i,.vsl yo 1 0 i]) (by simp[Qth])).1;have knA:=kn.drop;obtain⟨hyiH,hyoH,hzzH,hwwH⟩:=Qam6 knA.mid hbo (by rw[hz]) hbi hw;rintro m4 e1 H10 ⟨i4,a2,hm4,hi4,rfl,k3,k4,rfl⟩;have htz:∀(zs:List (Nat×List Bool)),zs.length=i→(Qbz R zs).take i=Qbz R zs:=fun zs h=>Jc (by rw[Qa0];omega);have htb:∀(bs:List Bool),bs.length=R→(Qu bs).take R=Qu bs:=fun bs h=>Jc (by rw[Qz];omega);have hw1:zi[b].1=w:=(by rw[hw]);have hil3:=hlv.i;refine Qy ?_;refine Qa ?_;simp only[go_sem];refine Qh (Qe rfl ?_ ?_)
             ·intro hc4;have hlt4:i4<R:=(by have:(i4:Int)<q.regs:=(by simpa using hc4);omega);have hln4:i4<nb.length:=(by omega);have hlw4:i4<bw.length:=(by omega);refine Qi ?_;try simp only[go_sem]
              refine Qd2 (fun e2 H2=>∃(a3:Bool),H2=H10∧(a3=true→a2=true∨nb.getD i4 false≠bw.getD i4 false)∧(a3=false→a2=false∧nb.getD i4 false=bw.getD i4 false)∧
               lk 1 e2=.c (.pp [.int .i64 q.params,.int .i64 q.regs,bc])∧lk 2 e2=.c (.ptr x2 0)∧lk 3 e2=.c (.ptr x3 0)∧lk 4 e2=.c (.int .i64 i)∧lk 6 e2=.c (.bool a3)∧lk 7 e2=.c (.int .i64 b)∧lk 9 e2=.c (.vsl y9 1 0 R)∧lk 11 e2=.c (.int .i64 i4)) ?_ ?_
              ·intro Q hnr _ _;refine Qf ?_
               cases ha2:a2 with
               |true=>
                refine Qa2 ?_;simp only[go_sem,hx3,hyiH,hwwH,hy9,htz _ hil3,htb _ hnl,htb _ hbwl,Qa0,Qdw _ _ _ hbi,hw1,hbn,hil3,hlt4,Qz,hnl,hbwl,Q6 _ _ hln4,Q6 _ _ hlw4,Js,Jn];exact hnr _ _ ⟨true,rfl,fun _=>.inl ha2,fun h=>by simp at h,rfl,rfl,rfl,rfl,rfl,rfl,rfl,rfl⟩
               |false=>
                refine Qa2 ?_;simp only[go_sem,hx3,hyiH,hwwH,hy9,htz _ hil3,htb _ hnl,htb _ hbwl,Qa0,Qdw _ _ _ hbi,hw1,hbn,hil3,hlt4,Qz,hnl,hbwl,Q6 _ _ hln4,Q6 _ _ hlw4,Js,Jn];refine hnr _ _ ⟨_,rfl,fun h=>?_,fun h=>?_,rfl,rfl,rfl,rfl,rfl,rfl,rfl,rfl⟩
                ·right;intro he;rw[he]at h;simp at h
                ·exact⟨ha2,by simpa using h⟩
              ·rintro e2 H11 ⟨a3,rfl,q1,q2,l1,l2,l3,l4,l6,l7,l9,l11⟩;refine Qq ?_;simp only[go_sem,X.next,l1,l2,l3,l4,l6,l7,l9,l11];refine⟨Qr (by omega) (by omega),R-(i4+1),by omega,i4+1,a3,rfl,by omega,fun h=>?_,fun h=>?_,rfl⟩
               ·rcases q1 h with h1|h1
                ·exact k3 h1
                ·exact .inr ⟨i4,h1⟩
               ·obtain⟨h1,h2⟩:=q2 h;obtain⟨h3,h4⟩:=k4 h1;refine⟨h3,fun r hr=>?_⟩;by_cases hri:r<i4
                ·exact h4 r hri
                ·have:r=i4:=(by omega);subst this;exact h2
             ·intro hc4;have hge4:i4=R:=(by have:¬(i4:Int)<q.regs:=(by simpa using hc4);omega);subst hge4;refine Qv ?_;simp only[go_sem,X.next];refine Qq ?_;simp only[go_sem,hx3,hyiH,htz _ hil3,Qa0,Qdw _ _ _ hbi,hbn,hil3,Js,Jn];intro H11 h11;have hrow:(Qbz i4 zi).set b [.vsl y9 1 0 i4]=Qbz i4 (zi.set b (y9,nb)):=(by rw[Qbz,Qbz,J6]);rw[hrow]at h11;have hobs:obZ (zi.set b (y9,nb))=(obZ zi).set b (y9,.vec 1 (Qu nb)):=(by rw[obZ,obZ,J6]);have hmv:=Qbnp (l:=obZ zi) (i:=b) (x:=(y9,Obj.vec 1 (Qu nb))) (by simpa[obZ]using hbi);have kn:Kn H H11 [] ((lvE i4 yi yo (zi.set b (y9,nb)) (zo.set b (z,bs1))++Qth x2 x3 yi yo i)++[(obZ zi)[b]'(by simpa[obZ]using hbi)]):=by
               have k5:Kn H H11 [] ((([(yi,.vec 1 (Qbz i4 (zi.set b (y9,nb)))),(yo,.vec 1 (Qbz i4 (zo.set b (z,bs1))))]++(obZ zi++obZ (zo.set b (z,bs1))))++Qth x2 x3 yi yo i)++[(y9,.vec 1 (Qu nb))]):=kn.stL 0 (x:=yi) (o:=.vec 1 (Qbz i4 zi)) rfl h11;refine k5.perm (Ql fun f hf h0 hc hp=>?_);have e1:=hp _ _ hmv;simp only[hf]at e1;simp only[lvE,hf,hobs];omega
              have kn:=kn.drop;have hst:=hinv.step (y:=y9) hfit hbq (hlv.i.trans hn.symm) (hlv.o.trans hn.symm) hlv.li hlv.lo hb1l hnl hz' hw' g1 g2 g3 (fun r=>hmn r) k1 k2 k3 k4;obtain⟨s1,s2,s3,s4⟩:=hst;refine hnr _ _ ⟨zi.set b (y9,nb),zo.set b (z,bs1),a2,yi,yo,⟨by rw[Jl];exact hlv.i,by rw[Jl];exact hlv.o,fun p hp=>?_,fun p hp=>?_⟩,s1,s2,s3,s4,kn,rfl,rfl,rfl,rfl,rfl,rfl⟩
              ·rcases Jad hp with hp|rfl
               ·exact hlv.li p hp
               ·exact hnl
              ·rcases Jad hp with hp|rfl
               ·exact hlv.lo p hp
               ·exact hb1l
       ·rintro e2 H7 ⟨zi2,zo2,a2,yi2,yo2,hlv2,hinv2,t1,t2,t3,kn,l1,l2,l3,l4,l6,l7⟩;refine Qq ?_;simp only[go_sem,X.next,l1,l2,l3,l4,l6,l7];refine⟨Qr (by omega) (by omega),b,by omega,b,(b:Int)-1,zi2,zo2,a2,yi2,yo2,rfl,by omega,rfl,hlv2,hinv2,by omega,fun ha=>?_,fun ha c hbc hci=>?_,kn,rfl⟩
        ·rcases t2 ha with h|h
         ·have:=htt h;omega
         ·omega
        ·obtain⟨u1,u2,u3⟩:=t3 ha;by_cases hcb:c=b
         ·subst hcb;exact u2
         ·exact u3 c (htf u1 c (by omega) hci)
      ·intro hc;have hlt0:¬0≤j:=(by simpa using hc);have hk0:m1=0:=(by omega);subst hk0;refine Qv ?_;simp only[go_sem,X.next];refine⟨if a=true then 2 * (i * R)+1-(Qln zi+Qln zo)else 0,?_,zi,zo,a,yi,yo,rfl,hlv,hinv,fun ha b hb=>htf ha b (by omega) hb,kn,by first|exact⟨rfl,rfl,rfl,rfl⟩|exact rfl|trivial⟩;split
       ·have:=htt ‹_›;omega
       ·omega
    ·intro haf;have hcl:=hcl haf;have hdone:=hinv.done hfit fun b hb=>hcl b (by rw[←hn];exact hb);have hx3:H5 x3=.st [.vsl yi 1 0 i,.vsl yo 1 0 i]:=(kn.get (x3,.st [.vsl yi 1 0 i,.vsl yo 1 0 i]) (by simp[Qth])).1;have hx2:H5 x2=.st [.sl true 1 [],.sl true 1 []]:=(kn.get (x2,.st [.sl true 1 [],.sl true 1 []]) (by simp[Qth])).1;refine Qv ?_;simp only[go_sem,X.next];refine Qa ?_;simp only[go_sem,hx2,hx3];intro H6 h6;have kn:Kn H H6 [] (lvE R yi yo zi zo++[(x2,.st [.vsl yi 1 0 i,.vsl yo 1 0 i]),(x3,.st [.vsl yi 1 0 i,.vsl yo 1 0 i])]):=by
      have:=kn.stL (lvE R yi yo zi zo).length (x:=x2) (o:=.st [.sl true 1 [],.sl true 1 []]) (by simp[Qth]) h6;simpa[Qth]using this
     have hx2:H6 x2=.st [.vsl yi 1 0 i,.vsl yo 1 0 i]:=(kn.get (x2,.st [.vsl yi 1 0 i,.vsl yo 1 0 i]) (by simp)).1;have hg:∀p∈lvE R yi yo zi zo,H6 p.1=p.2∧un H p.1=true:=fun p hp=>⟨(kn.get p (Jf _ (Jh _ hp))).1,Qe8 (kn.loc p (Jh _ hp))⟩;have g1:=hg (yi,.vec 1 (Qbz R zi)) (by simp[lvE]);have g2:=hg (yo,.vec 1 (Qbz R zo)) (by simp[lvE]);refine Qk ?_;simp only[go_sem,Q3,Qab,Qas1,Jb,forall_eq,RS.op,hx2];refine⟨_,(FrzL.cons (FrzR.vsl g1.2 g1.1 (by rw[Qa0,hlv.i]) (Qatc hlv.li fun p hp=>hg p (by simp only[lvE];exact Jf _ (Jh _ hp))))
      (FrzL.cons (FrzR.vsl g2.2 g2.1 (by rw[Qa0,hlv.o]) (Qatc hlv.lo fun p hp=>hg p (by simp only[lvE];exact Jf _ (Jf _ hp)))) FrzL.nil)).ag,hK zi zo _ kn.fin ⟨by rw[hR,hn];exact hlv,fun b hb=>hdone b hb⟩⟩
end Go.AE.Y
namespace Go.AE.Y
attribute [local go_sem] cond_true cond_false Bool.not_true Bool.not_false
open Go.Proofs.Tryz
variable {H H0:Heap}{K:V→Heap→Prop}{E B Lg:List (Nat×Obj)}
theorem Qhr {S:Nat→Bool}{a b a' b':V}(h:FrzV H S a a')(k:FrzV H S b b'):FrzV H S (.tup [a,b]) (.tup [a',b']):=by
 refine .tup _ _ rfl fun j x x' h1 h2=>?_
 match j with
 |0=>simp at h1 h2;subst h1;subst h2;exact h
 |1=>simp at h1 h2;subst h1;subst h2;exact k
 |j+2=>simp at h1
theorem Qdg {S:Nat→Bool}(cs:List CodeD):FrzV H S (.ag [.sl false 3 (Qj cs)]) (.ag [.sl false 3 (Qj cs)]):=FrzL.ag (.cons (FrzR.same (Qa9 cs)).sl .nil)
theorem UnitOk.fits {cs:List CodeD}(h:UnitOk cs):∀c∈cs,c.fits:=fun c hc=>(h.2.2 c hc).f
end Go.AE.Y
namespace Go.AE.Y
open Go.Proofs.Tryz
def Qkv:List Item:=[fJ 6 2 1,sJ 1 6 5]
def Q61:SC:=sR [tJ 7 4 1,sJ 4 2 7] [2] .ret
def Q62:SC:=sR (fJ 3 2 1::lJ 4 3::aJ 5 Qdj [.t 4]::Qkv) [1,2] Q61
def Qah1:SC:=sR [eI 1 (.boxm (.t 0)),eI 2 (.alloc [.int .i64 0,.int .i64 0,.sl true 1 [],.int .i64 0])] [1,2] Q62
def Qu7:List RS:=[.cell 2 4 true]
theorem Qag9:mFn prog Qc7 1 8 Qah1 Qu7=true:=by kernel_rfl
def Qh0:List Item:=[fJ 6 0 1,sJ 1 6 5]
def Qh1:List Item:=[fJ 10 1 1,sJ 1 10 9]
def Qh2:List Item:=[fJ 14 4 1,sJ 1 14 13]
def Qy8:SC:=sR [tJ 15 5 1,sJ 5 2 15] [2] .ret
def Qy9:SC:=sR (fJ 11 4 1::lJ 12 11::aJ 13 Qdj [.t 12]::Qh2) [1,2] Qy8
def Qza:SC:=sR (fJ 7 1 1::lJ 8 7::eI 9 (.call Qc4 [.t 8,.k (.c (.fn Qc7 []))])::Qh1) [1,2] Qy9
def Qzb:SC:=sR (fJ 3 0 1::lJ 4 3::eI 5 (.call Qb0 [.t 4,.k (.c (.fn Qcg []))])::Qh0) [1,2] Qza
def Q60:SC:=sR [eI 1 (.boxm (.t 0)),eI 2 (.alloc [.sl true 2 [],.sl true 4 [],.int .i64 0,.int .i64 0,.sl true 1 []])] [1,2] Qzb
def Qm0:List RS:=[.cell 2 5 true]
theorem Q6n:mFn prog Qce 1 16 Q60 Qm0=true:=by kernel_rfl
def Qi3:List Item:=[fJ 6 2 1,sJ 1 6 5]
def Q19:SC:=sR [tJ 7 3 1,sJ 3 2 7] [2] .ret
def Q2a:SC:=sR (fJ 3 2 1::lJ 4 3::eI 5 (.call Qb5 [.t 4,.k (.c (.fn Qce []))])::Qi3) [1,2] Q19
def Qabw:SC:=sR [eI 1 (.boxm (.t 0)),eI 2 (.alloc [.int .i64 0,.int .i64 0,.sl true 5 []])] [1,2] Q2a
def Qpp:List RS:=[.cell 2 3 true]
theorem Qaaf:mFn prog Qd4 1 8 Qabw Qpp=true:=by kernel_rfl
end Go.AE.Y
namespace Go.AE.Y
attribute [local go_sem] cond_true cond_false Bool.not_true Bool.not_false
open Go.Proofs.Tryz
variable {H H0 F:Heap}{K:V→Heap→Prop}{E L:List (Nat×Obj)}
theorem Qa98 {x:PhiD}(hl:x.args.length≤LIM)(hK:∀H',Upd H H' []→K (.ag x.cells) H'):Qs prog Qcg [.ag x.cells] H K:=by
 refine Qx ?_;refine Qc Qaj Qana ?_;refine Qa ?_;simp only[go_sem,PhiD.cells];intro x2 hx2 H1 h1;have kn:=(Kn.start0 H).al hx2 h1;refine Qag ?_;simp only[go_sem];refine Q9i kn hl fun t Lg H2 hgr how kn=>?_;have hx2:=kn.l 0 rfl;simp only[go_sem,Qm9,how,hx2];intro H3 h3;have kn:Kn H H3 [] ([(x2,.st [.int .i64 x.to,t])]++Lg):=kn.stL 0 rfl h3;have hx2:=kn.l 0 rfl;refine Qk ?_;simp only[go_sem,Q3,Qab,Qyn,Jb,forall_eq,RS.op,how,hx2];exact⟨_,FrzL.ag (.cons (Qg rfl) (.cons (hgr.frz kn (Qp _)) .nil)),hK _ kn.fin⟩
theorem Qa97 {x:InsD}(hl:x.args.length≤LIM)(hK:∀H',Upd H H' []→K (.ag x.cells) H'):Qs prog Qc7 [.ag x.cells] H K:=by
 refine Qx ?_;refine Qc Qaj Qag9 ?_;refine Qa ?_;simp only[go_sem,InsD.cells];intro x1 hx1 H0 h0;have kn:=(Kn.start0 H).al hx1 h0;intro x2 hx2 H1 h1;have kn:=kn.al hx2 h1;have hx1:=kn.l 0 rfl;refine Qa ?_;simp only[go_sem,hx1];refine Q9i kn hl fun t Lg H2 hgr how kn=>?_;have hx1:=kn.l 0 rfl;simp only[go_sem,Qkv,how,hx1];intro H3 h3;have kn:=kn.stL 0 rfl h3;have hx1:=kn.l 0 rfl;have hx2:=kn.l 1 rfl;refine Qa ?_;simp only[go_sem,hx1,hx2,how];intro H4 h4;have kn:Kn H H4 [] ([(x1,.st [.int .i64 x.op,.int .i64 x.to,t,.int .i64 x.n]),(x2,.st [.int .i64 x.op,.int .i64 x.to,t,.int .i64 x.n])]++Lg):=kn.stL 1 rfl h4;have hx2:=kn.l 1 rfl;refine Qk ?_;simp only[go_sem,Q3,Qab,Qu7,Jb,forall_eq,RS.op,how,hx2];exact⟨_,FrzL.ag (.cons (Qg rfl) (.cons (Qg rfl) (.cons (hgr.frz kn (Qp _)) (.cons (Qg rfl) .nil)))),hK _ kn.fin⟩
theorem Qbl1 {l:List PhiD}{fl:Bool}(hl:l.length≤2 ^ 38)(ha:∀x∈l,x.args.length≤LIM)(kn:Kn H0 H E L)(hK:∀t Lg H',Gr Lg 2 (Q1 l) t→Kn H0 H' E (L++Lg)→K (.c t) H') :
  Qs prog Qb0 [.c (.sl fl 2 (Q1 l)),.c (.fn Qcg [])] H K:=by
 refine Qc Qaj Qwt ?_;refine Qa ?_;simp only[go_sem];refine Qa ?_;simp only[go_sem];refine Qy ?_;refine Qa ?_;simp only[go_sem,Q0];intro _;refine Qh (Qf (Qw (fun m e1 H1=>∃(i:Nat) (t:C) (Lg:List (Nat×Obj)),m=l.length-i∧i≤l.length∧Gr Lg 2 (Q1 (l.take i)) t∧Kn H0 H1 E (L++Lg)∧
  e1=[(1,.c (.fn Qcg [])),(5,.c t),(8,.c (.sl fl 2 (Q1 l))),(9,.c (.int .i64 l.length)),(10,.c (.int .i64 i))]) l.length ?_ ?_))
 ·exact⟨0,_,[],by omega,by omega,.nil 2,by simpa using kn,rfl⟩
 ·clear kn;rintro m e1 H1 ⟨i,t,Lg,hm,hi,hgr,kn,rfl⟩;have htw:=hgr.isOw;refine Qa ?_;simp only[go_sem,htw];refine Qh (Qe rfl ?_ ?_)
  ·intro hc;have hlt:i<l.length:=by simpa using hc
   obtain⟨p,hp⟩:∃p,l[i]=p:=⟨_,rfl⟩;have hpm:p∈l:=by rw[←hp];exact Jd hlt
   have htk:l.take (i+1)=l.take i++[p]:=by rw[Je hlt,hp]
   refine Qi ?_;try simp only[go_sem]
   refine Qh (Qf ?_);refine Qa ?_;simp only[go_sem,htw,hlt,Q0,Qaw _ _ hlt,PhiD.cells,hp];intro x7 hx7 H2 h2;have kn:=kn.al hx7 h2;have hx7:H2 x7=.st [.int .i64 0,.sl true 1 []]:=(kn.get (x7,.st [.int .i64 0,.sl true 1 []]) (by simp)).1;simp only[go_sem,Qed,hx7,htw];intro H3 h3;have kn:Kn H0 H3 E ((L++[(x7,.st [.int .i64 p.to,.sl false 1 (Qb p.args)])])++Lg):=by
    have:=kn.stL (L++Lg).length (x:=x7) (o:=.st [.int .i64 0,.sl true 1 []]) (by simp) h3;refine Kn.perm (by simpa using this) (Ql fun f hf h0 hc hp=>by simp only[hf];omega)
   have hx7:H3 x7=.st [.int .i64 p.to,.sl false 1 (Qb p.args)]:=(kn.get (x7,.st [.int .i64 p.to,.sl false 1 (Qb p.args)]) (by simp)).1;refine Qq ?_;simp only[go_sem,htw,hx7,List.append_nil,J4];refine Qa98 (x:=p) (ha p hpm) fun H4 hu=>?_;have kn:=kn.call0 hu;simp only[go_sem,Qef,htw,PhiD.cells];have hsm:(l.take i).length≤l.length:=by rw[J8];omega
   refine kn.growR (new:=Q1 [p]) hgr (.mk' _ _ _ _) (Qhs _) (by simp only[Q0,LIM,Jq,Jr];omega) fun t2 Lg2 H5 hgr2 ht2 kn=>?_;simp only[go_sem,Qee,ht2];refine Qq ?_;simp only[go_sem,X.next,ht2];refine⟨Qr (by omega) (by omega),l.length-(i+1),by omega,i+1,t2,Lg2,rfl,by omega,?_,?_,rfl⟩
   ·rw[htk];have:Q1 (l.take i++[p])=Q1 (l.take i)++Q1 [p]:=(by simp[Q1]);rw[this];exact hgr2
   ·exact Kn.drop (B:=[(x7,.st [.int .i64 p.to,.sl false 1 (Qb p.args)])]) (kn.perm (Ql fun f hf h0 hc hp=>by simp only[hf];omega))
  ·intro hc;have hge:l.length≤i:=by simpa using hc
   rw[Jc hge]at hgr;refine Qv ?_;simp only[go_sem,X.next];refine Qa ?_;simp only[go_sem,htw];refine Qk ?_;simp only[go_sem,Q3,Qab,Qhv,Jb,forall_eq,RS.op,htw];exact hK t Lg H1 hgr kn
def kRow (y:BlkD)(pc:C):List C:=[pc,.sl false 4 (Qaq y.ins),.int .i64 y.jump,.int .i64 y.on,.sl false 1 (Qb y.next)]
structure BlkD.cl (y:BlkD):Prop where
 i:y.ins.length≤2 ^ 38
 p:y.phis.length≤2 ^ 38
 n:y.next.length≤LIM
 ia:∀x∈y.ins,x.args.length≤LIM
 pa:∀x∈y.phis,x.args.length≤LIM
structure KBlk where
 y:BlkD
 pc:C
 pl:List (Nat×Obj)
def KBlk.row (b:KBlk):List C:=kRow b.y b.pc
def KBlk.ok (b:KBlk):Prop:=Gr b.pl 2 (Q1 b.y.phis) b.pc
theorem KBlk.noOw {b:KBlk}(h:b.ok):Go.AE.noOw b.row=true:=by
 have:=h.isOw;simp only[Go.AE.noOw,KBlk.row,kRow,Jbe,List.all_nil,this];rfl
end Go.AE.Y
namespace Go.AE.Y
attribute [local go_sem] cond_true cond_false Bool.not_true Bool.not_false
open Go.Proofs.Tryz
variable {H H0 F:Heap}{K:V→Heap→Prop}{E L B pl:List (Nat×Obj)}
theorem Qbbd (l:List PhiD)(i:Nat)(x:PhiD):(Q1 l).set i x.cells=Q1 (l.set i x):=by simp[Q1,J6]
end Go.AE.Y
namespace Go.AE.Y
attribute [local go_sem] cond_true cond_false Bool.not_true Bool.not_false
open Go.Proofs.Tryz
variable {H H0 F:Heap}{K:V→Heap→Prop}{E L B:List (Nat×Obj)}{q:CodeD}
theorem CodeD.ok.fts (h:q.ok):q.fits:=fun y hy=>by
 obtain⟨b,hb,rfl⟩:=Jx.1 hy;have:=h.il b hb;omega
theorem CodeD.ok.cl (h:q.ok):∀y∈q.blocks,y.cl:=fun y hy=>by
 obtain⟨b,hb,rfl⟩:=Jx.1 hy;have h1:=h.il b hb;have h2:=h.bs b hb;have h3:=h2.nxl;have h4:=h.b1;refine⟨by omega,by omega,by simp only[LIM];omega,fun x hx=>?_,fun x hx=>?_⟩
 ·have:=h2.al x hx;simp only[LIM];omega
 ·have:=h2.pal x hx;have h5:=Qcs (gnx q) (b:Int) q.blocks.length;simp only[LIM];omega
end Go.AE.Y
namespace Go.AE
variable {H0 H H':Heap}{E L B Lg:List (Nat×Obj)}{S:Nat→Bool}
theorem Kn.freeze0 (kn:Kn H0 H E (B++Lg)):∃S:Nat→Bool,(∀p∈Lg,H p.1=p.2∧S p.1=true)∧(∀p∈B,H p.1=p.2∧S p.1=false)∧FrzH H S (H.frz S)∧Kn H0 (H.frz S) E B:=by
 have hd:=kn.dL;rw[Ju]at hd;obtain⟨d1,d2,d3⟩:=Jab.1 hd;have keyB:∀m,m∉Lg.map Prod.fst→(Lg.map Prod.fst).contains m=false:=fun m hm=>by
  cases hc:(Lg.map Prod.fst).contains m with
  |false=>rfl
  |true=>exact absurd (Jz.1 hc) hm
 have key:∀m,m∉Lg.map Prod.fst→(H.frz fun m=>(Lg.map Prod.fst).contains m) m=H m:=fun m hm=>by
  simp only[Heap.frz,keyB m hm];rfl
 have hB:∀p∈B,p.1∉Lg.map Prod.fst:=fun p hp hh=>d3 _ (Qao hp) _ hh rfl;refine⟨fun m=>(Lg.map Prod.fst).contains m,fun p hp=>⟨(kn.get p (Jf _ (Jf _ hp))).1,Jz.2 (Qao hp)⟩,
  fun p hp=>⟨(kn.get p (Jf _ (Jh _ hp))).1,keyB _ (hB p hp)⟩,Qd7 _ _,?_⟩
 refine⟨fun p hp=>?_,kn.ext,fun p hp=>kn.loc p (Jh _ hp),kn.dE,d1,fun m hm hx=>?_⟩
 ·have hg:H p.1=p.2∧p.2≠.none:=kn.get p (by
   rcases Jg.1 hp with h|h
   ·exact Jh _ h
   ·exact Jf _ (Jh _ h))
  refine⟨?_,hg.2⟩;rw[key p.1 (fun hh=>?_)];exact hg.1;rcases Jg.1 hp with h|h
  ·obtain⟨r,hr,he⟩:=Jo.1 hh;exact kn.ext p h (he▸kn.loc r (Jf _ hr))
  ·exact hB p h hh
 ·rw[key m (fun hh=>?_)]
  ·exact kn.chg m hm hx
  ·obtain⟨r,hr,he⟩:=Jo.1 hh;exact hm (he▸kn.loc r (Jf _ hr))
theorem Q1k {e e':Env}(h:∀p∈e',FrzV H S (lk p.1 e) p.2):∀t,FrzV H S (lk t e) (lk t e'):=fun t=>by
 induction e' with
 |nil=>exact .unk _
 |cons p e' ih=>
  obtain⟨s,v⟩:=p;by_cases ht:t=s
  ·subst ht;have:=h (t,v) Jm;simpa[lk]using this
  ·have:=ih fun p hp=>h p (Jk _ hp);simpa[lk,ht]using this
theorem FrzO.vecR {sz:Nat}{rows rows':List (List C)}(h:Y.FrzR H S rows rows')(hn:∀r∈rows,noOw r=true):FrzO H S (.vec sz rows) (.vec sz rows'):=by
 refine .vec sz rows rows' h.spec.1 (fun i r r' h1 h2=>(h.spec.2 i r r' h1 h2).spec.1) fun i r r' j c c' h1 h2 h3 h4=>.inr ⟨?_,(h.spec.2 i r r' h1 h2).spec.2 j c c' h3 h4⟩;exact Y.noOw_mem hn r (Jal h1) c (Jal h3)
end Go.AE
namespace Go.AE.Y
variable {H H0:Heap}{E L R B Lg:List (Nat×Obj)}{S:Nat→Bool}
theorem Qgz {α:Type}{f g:α→List C}:∀(l:List α),(∀x∈l,FrzL H S (f x) (g x))→FrzR H S (l.map f) (l.map g)
 |[],_=>.nil
 |x::l,h=>.cons (h x Jm) (Qgz l fun y hy=>h y (Jk _ hy))
theorem Qamy {is:List OIns}(h:Held H S (is.flatMap OIns.lg)):FrzR H S (is.map OIns.row) (Qaq (is.map OIns.d)):=by
 rw[Qaq,Jaq];exact Qgz is fun x hx=>x.frz (h.m hx)
theorem Qaao {ph:List OPhi}(ho:∀p∈ph,p.ok)(h:Held H S (ph.flatMap OPhi.lg)):FrzR H S (ph.map OPhi.row) (Q1 (ph.map OPhi.d)):=by
 rw[Q1,Jaq];exact Qgz ph fun x hx=>x.frz (ho x hx) (h.m hx)
theorem OBlk.gh {o:OBlk}(hok:o.ok){x8:Nat}(kn:Kn H0 H E ([(x8,.st o.row)]++(R++o.lg))) :
  ∃S H3 pl,FrzH H S H3∧Gr pl 2 (Q1 o.d.phis) o.pc∧Kn H0 H3 E ([(x8,.st (kRow o.d o.pc))]++(R++pl)):=by
 have kn:Kn H0 H E (([(x8,.st o.row)]++(o.pl++R))++(o.nx.lg++(o.phis.flatMap OPhi.lg++(o.ins.flatMap OIns.lg++o.il)))):=kn.perm (Ql fun f hf h0 hc hp=>by
  simp only[hf,OBlk.lg];omega)
 obtain⟨S,hS,hB,hfz,kn⟩:=kn.freeze0;have hHd:Held H S (o.nx.lg++(o.phis.flatMap OPhi.lg++(o.ins.flatMap OIns.lg++o.il))):=hS;have hic:=Gr.frzM hok.i hHd.r.r.r (Qamy hHd.r.r.l);have hph:=Qaao hok.a hHd.r.l;have hnx:=o.nx.frz hHd.l;have hx8:=hB (x8,.st o.row) (by simp);have f1:FrzH H S ((H.frz S).set x8 (.st (kRow o.d o.pc))):=hfz.set hx8.2 (by
  rw[hx8.1];exact FrzKL.st (.same (.cons hok.i.isOw hic (.same (.same (.cons rfl hnx .nil))))))
 have kn:=kn.setL (o':=.st (kRow o.d o.pc)) 0 rfl (by simp);have kn:Kn H0 ((H.frz S).set x8 (.st (kRow o.d o.pc))) E ([(x8,.st (kRow o.d o.pc))]++(o.pl++R)):=kn;rcases hok.p with ⟨h1,h2,h3⟩|⟨z,h1,h2⟩
 ·have hph0:o.phis=[]:=List.map_eq_nil_iff.1 h2;refine⟨S,_,[],f1,?_,by rw[h3]at kn;simpa using kn⟩;rw[h1];simp only[OBlk.d,hph0,J4];exact .nil 2
 ·rw[h2]at kn;have hz:=hB (z,.vec 2 (o.phis.map OPhi.row)) (by rw[h2];simp);have hno:∀r∈o.phis.map OPhi.row,Go.AE.noOw r=true:=fun r hr=>by
   obtain⟨p,hp,rfl⟩:=Jo.1 hr;exact p.noOw (hok.a p hp)
  refine⟨S,_,[(z,.vec 2 (Q1 o.d.phis))],f1.set (o:=.vec 2 (Q1 o.d.phis)) hz.2 (by rw[hz.1];exact .vecR hph hno),?_,?_⟩
  ·rw[h1];exact .mk _ _ _ (by simp[OBlk.d,Q0])
  ·have kn:=kn.setL (o':=.vec 2 (Q1 o.d.phis)) 1 rfl (by simp);exact kn.perm (Ql fun f hf h0 hc hp=>by
    show f ([(x8,_)]++([(z,_)]++R))=_;simp only[hf];omega)
def Qan (q:CodeD)(b:Nat):BlkD:=q.blocks.getD b ⟨[],[],0,0,[]⟩
theorem Qbs {q:CodeD}{b:Nat}(h:b<q.blocks.length):Qan q b=q.blocks[b]:=by simp[Qan,Ja,h]
theorem Qart {q:CodeD}{b:Nat}(h:b<q.blocks.length):gnx q b=(Qan q b).next:=by rw[Qbs h,Qye h]
structure Pk (q:CodeD)(l:List Nat):Prop where
 n:l.length≤160
 z:l[0]? = some 0
 lt:∀x∈l,x<q.blocks.length
 cl:∀x∈l,∀v∈gnx q x,v.toNat∈l
def pkY (q:CodeD)(P:List Int)(b:Nat):BlkD:=⟨(Qan q b).phis,(Qan q b).ins,(Qan q b).jump,(Qan q b).on,(Qan q b).next.map fun v=>P.getD v.toNat 0⟩
def pkN (q:CodeD)(P:List Int)(l:List Nat):Nat→List Int:=fun i=>(l.map fun b=>(pkY q P b).next).getD i []
structure PkB (q:CodeD)(P:List Int)(b:Nat)(y:BlkD):Prop where
 j:y.jump=(Qan q b).jump
 o:y.on=(Qan q b).on
 i:y.ins=(Qan q b).ins
 n:y.next=(pkY q P b).next
 t:y.phis.map PhiD.to=(Qan q b).phis.map PhiD.to
def PkA (q:CodeD)(P:List Int)(l:List Nat)(j:Nat)(p:PhiD):Prop:=p.args.length=(Q8 (pkN q P l) (j:Int) l.length).length∧∀v∈p.args,rIn q v
structure PkR (q d:CodeD):Prop where
 ok:d.ok
 p:d.params=q.params
 r:d.regs=q.regs
 i:∀y∈d.blocks,∃y0∈q.blocks,y.ins=y0.ins∧y.phis.length=y0.phis.length
variable {q:CodeD}{P:List Int}{l:List Nat}
theorem Pk.get (hp:Pk q l){j:Nat}(hj:j<l.length):l.getD j 0=l[j]∧l[j]∈l∧l[j]<q.blocks.length:=
 ⟨by simp[Ja,hj],Jd hj,hp.lt _ (Jd hj)⟩
theorem Pk.to (ho:q.ok)(hp:Pk q l)(hP:Qbd3 q.blocks.length l P){b:Nat}(hb:b∈l){w:Int}(hw:w∈(Qan q b).next):1≤w∧w.toNat<P.length∧∃i,∃h:i<l.length,l[i]=w.toNat∧P.getD w.toNat 0=(i:Int)∧1≤i:=by
 have hlt:=hp.lt b hb;have h1:1≤w∧w<q.blocks.length:=by
  rw[Qbs hlt]at hw;exact (ho.bs b hlt).nx w hw
 have h2:=hp.cl b hb w (by rw[Qart hlt];exact hw);obtain⟨i,hi,h3,h4⟩:=hP.2 _ h2;refine⟨h1.1,by rw[hP.1];exact hp.lt _ h2,i,hi,h3,h4,?_⟩;have hz:=hp.z;by_cases h0:i=0
 ·subst h0;rw[Ji hi,h3]at hz;have:=Jbi hz;omega
 ·omega
theorem Qbg2 {j:Nat}(hj:j<l.length):pkN q P l j=(pkY q P l[j]).next:=by simp[pkN,Ja,hj]
theorem Pk.preds (ho:q.ok)(hp:Pk q l)(hP:Qbd3 q.blocks.length l P){j:Nat}(hj:j<l.length){m:Int}(hm:m∈Q8 (pkN q P l) (j:Int) l.length) :
  ∃j',∃h:j'<l.length,m=(j':Int)∧((l[j']:Nat):Int)∈Q8 (gnx q) ((l[j]:Nat):Int) q.blocks.length:=by
 simp only[Q8,Jo,Jan,Jae]at hm;obtain⟨j',⟨h1,h2⟩,rfl⟩:=hm;refine⟨j',h1,rfl,?_⟩;have h3:=Jz.1 h2;rw[Qbg2 h1]at h3;obtain⟨w,hw,h4⟩:=Jo.1 h3;obtain⟨g1,g2⟩:=(hp.get h1).2;obtain⟨w1,_,i,hi,h5,h6,_⟩:=hp.to ho hP g1 hw;have hij:i=j:=by omega
 subst hij;simp only[Q8,Jo,Jan,Jae];refine⟨l[j'],⟨g2,Jz.2 ?_⟩,rfl⟩;rw[Qart g2,h5];have e:((w.toNat:Nat):Int)=w:=by omega
 rw[e];exact hw
theorem CodeD.ok.sg (h:q.ok):q.sg:=⟨by have:=h.b1;omega,fun y hy=>by
 obtain⟨b,hb,rfl⟩:=Jx.1 hy;have h1:=h.il b hb;have h2:=h.bs b hb;have h3:=h2.nxl;have h4:=h.b1;refine⟨by omega,by omega,by omega,fun x hx=>by have:=h2.al x hx;omega,fun x hx=>?_⟩;have:=h2.pal x hx;have h5:=Qcs (gnx q) (b:Int) q.blocks.length;omega⟩
theorem Qbtr (ho:q.ok)(hp:Pk q l)(hP:Qbd3 q.blocks.length l P){d:CodeD}(h1:d.params=q.params)(h2:d.regs=q.regs)(hl:d.blocks.length=l.length)
  (hb:∀j (h:j<d.blocks.length),PkB q P (l.getD j 0) d.blocks[j]∧∀p∈d.blocks[j].phis,PkA q P l j p):PkR q d:=by
 have hg:gnx d=pkN q P l:=by
  funext i
  by_cases hi:i<l.length
  ·have hi':i<d.blocks.length:=by omega
   rw[Qbg2 hi,Qye hi',(hb i hi').1.n,(hp.get hi).1]
  ·have hi':¬i<d.blocks.length:=by omega
   rw[gnx,pkN,Ja,Ja,Jt (by simpa using hi'),Jt (by simpa using hi)]
 have hr:∀v,rIn q v→rIn d v:=fun v hv=>by simp only[rIn,h2]at hv⊢;exact hv
 have hl0:0<l.length:=by
  have:=hp.z
  cases l with
  |nil=>simp at this
  |cons=>simp
 have hn:=hp.n;refine⟨⟨by rw[h2];exact ho.r0,by rw[h2];exact ho.r1,by omega,by omega,fun b h=>?_,fun b h=>?_⟩,h1,h2,fun y hy=>?_⟩
 ·have hbl:b<l.length:=by omega
  obtain⟨g,ga⟩:=hb b h;obtain⟨e1,e2,e3⟩:=hp.get hbl;rw[e1]at g;have o:=ho.bs _ e3;rw[←Qbs e3]at o;have gt:∀p∈d.blocks[b].phis,rIn q p.to:=fun p hp'=>by
   have:p.to∈d.blocks[b].phis.map PhiD.to:=Jo.2 ⟨p,hp',rfl⟩;rw[g.t]at this;obtain⟨p0,hp0,he⟩:=Jo.1 this;rw[←he];exact o.pto p0 hp0
  refine⟨by rw[g.n];simpa[pkY]using o.nxl,fun v hv=>?_,by rw[g.j];exact o.jmp,fun hj=>by rw[g.j]at hj;rw[g.o];exact hr _ (o.on hj),fun x hx v hv=>?_,fun x hx hm=>?_,fun x hx=>hr _ (gt x hx),fun x hx v hv=>hr _ ((ga x hx).2 v hv),fun x hx=>?_,fun x hx=>?_⟩
  ·rw[g.n]at hv;obtain⟨w,hw,rfl⟩:=Jo.1 hv;obtain⟨_,_,i,hi,_,h6,h7⟩:=hp.to ho hP e2 hw;rw[h6];omega
  ·rw[g.i]at hx;exact hr _ (o.args x hx v hv)
  ·rw[g.i]at hx;exact hr _ (o.to x hx hm)
  ·rw[(ga x hx).1,hg,hl]
  ·rw[g.i]at hx;exact o.al x hx
 ·have hbl:b<l.length:=by omega
  obtain⟨g,ga⟩:=hb b h;obtain⟨e1,e2,e3⟩:=hp.get hbl;rw[e1]at g;have gi:=g.i;have h3:=congrArg List.length g.t;rw[Qbs e3]at gi h3;have:=ho.il _ e3;simp only[Jv]at h3;rw[gi];omega
 ·obtain⟨b,h,rfl⟩:=Jx.1 hy;have hbl:b<l.length:=by omega
  obtain⟨g,ga⟩:=hb b h;obtain⟨e1,e2,e3⟩:=hp.get hbl;rw[e1]at g;have gi:=g.i;have h3:=congrArg List.length g.t;rw[Qbs e3]at gi h3;simp only[Jv]at h3;exact⟨_,Jd e3,gi,h3⟩
theorem Qbl2 {α:Type}{f:α→α}{l:List α}{k:Nat}(hk:k<l.length):((l.take k).map f++l.drop k).set k (f l[k])=(l.take (k+1)).map f++l.drop (k+1):=by
 have h1:((l.take k).map f).length=k:=by simp;omega
 rw[Jaz _ _ (by omega),h1,Jbf,Jy hk,Ja7,Je hk,Ju];simp
end Go.AE.Y
namespace Go.AE.Y
open Go.Proofs.Tryz
variable {H H0:Heap}{K:V→Heap→Prop}{S:Nat→Bool}
theorem OBlk.frzF {o:OBlk}(hok:o.ok)(h:Held H S o.lg):FrzL H S o.row o.d.cells:=
 .cons (Gr.frzM hok.p h.r.r.l (Qaao hok.a h.r.l)) (.cons (Gr.frzM hok.i h.r.r.r.r (Qamy h.r.r.r.l)) (.cons (Qg rfl) (.cons (Qg rfl) (.cons (o.nx.frz h.l) .nil))))
theorem Qbeb {bs:List OBlk}(ho:∀o∈bs,o.ok)(h:Held H S (bs.flatMap OBlk.lg)):FrzR H S (bs.map OBlk.row) (Qm (bs.map OBlk.d)):=by
 rw[Qm,Jaq];exact Qgz bs fun x hx=>OBlk.frzF (ho x hx) (h.m hx)
theorem Qblc {q:CodeD}(hq:q.sg)(hb:0<q.blocks.length)(hK:∀z H',Kn H H' [] [(z,.vec 5 (Qm q.blocks))]→K (.ag [.int .i64 q.params,.int .i64 q.regs,.vsl z 5 0 q.blocks.length]) H'):Qs prog Qfl [.ag q.cells] H K:=by
 refine Qcb (Q88 hq fun o H' kn hok hd _=>?_);have hbl:o.blocks.length=q.blocks.length:=by rw[←hd];simp[OCode.d]
 have hpr:o.params=q.params:=by rw[←hd];rfl
 have hrg:o.regs=q.regs:=by rw[←hd];rfl
 have hbd:o.blocks.map OBlk.d=q.blocks:=by rw[←hd];rfl
 rcases hok.b with ⟨h1,h2,h3⟩|⟨z,h1,h2⟩
 ·have:=congrArg List.length h2;simp only[Jv,Jr]at this;omega
 ·have kn:Kn H H' [] ([(z,.vec 5 (o.blocks.map OBlk.row))]++o.blocks.flatMap OBlk.lg):=kn.perm (by rw[OCode.lg,h2];exact J1);obtain⟨S,hS,hB,hfz,kn2⟩:=kn.freeze0;have hfr:=Qbeb hok.bs hS;rw[hbd]at hfr;have hz:=hB (z,.vec 5 (o.blocks.map OBlk.row)) (by simp);have f1:FrzH H' S ((H'.frz S).set z (.vec 5 (Qm q.blocks))):=hfz.set hz.2 (by
   rw[hz.1];exact FrzO.vecR hfr (fun r hr=>by obtain⟨x,hx,rfl⟩:=Jo.1 hr;exact x.noOw (hok.bs x hx)))
  have kn2:=kn2.setL (o':=.vec 5 (Qm q.blocks)) 0 rfl (by simp);have kn2:Kn H ((H'.frz S).set z (.vec 5 (Qm q.blocks))) [] [(z,.vec 5 (Qm q.blocks))]:=kn2;refine⟨S,_,_,?_,f1,hK z _ kn2⟩;refine FrzL.ag ?_;rw[OCode.row,hpr,hrg,h1,Jv,hbl];exact .cons (Qg rfl) (.cons (Qg rfl) (.cons (.same _ rfl) .nil))
end Go.AE.Y
