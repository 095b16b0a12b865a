/- Part 4 of the proof: the engine, codes, walks and plain laws, each named where it stands. -/
import Derived.Test.YtchjcdooknkfpaaGreatDoorZC
import Derived.Shelf.Sort.Plain
import Derived.Shelf.Sort.So_math_bits_LenIn
open Nat (reduceEqDiff reduceAdd reduceLeDiff reduceLT)
set_option linter.unusedVariables false
set_option linter.unusedSimpArgs false
set_option maxRecDepth 4000
set_option maxHeartbeats 4000000
open Bool renaming and_eq_true->Jp,not_false->Jz,not_true->Jat,false_eq_true->Jax,not_eq_true'->Jbi,eq_iff_iff->Jbq,true_and->Jbr
open Iff renaming rfl->Jbv
open Int renaming eq_ofNat_of_zero_le->Ja0
open List renaming getD_eq_getElem?_getD->Ja,mem_singleton->Jb,take_of_length_le->Jc,getElem?_eq_getElem->Jd,getElem_mem->Je,take_succ_eq_append_getElem->Jf,length_replicate->Jg,length_set->Ji,mem_append->Jj,mem_append_left->Jl,mem_cons_of_mem->Jm,mem_append_right->Jn,mem_cons_self->Jo,length_cons->Jq,length_nil->Jr,getElem?_eq_none->Js,mem_map->Jt,map_cons->Ju,length_take->Jv,map_append->Jw,length_map->Jx,nil_append->Jy,drop_eq_getElem_cons->J0,perm_append_comm->J1,cons_append->J2,mem_iff_getElem->J3,drop_zero->J4,map_nil->J5,mem_cons->J6,mem_range->J7,pairwise_iff_getElem->J8,any_eq_true->J9,filter_append->Jab,map_set->Jac,getElem?_set->Jad,getElem_take->Jae,mem_of_mem_take->Jaf,mem_or_eq_of_mem_set->Jag,getElem?_replicate->Jah,append_assoc->Jai,ext_getElem?->Jaj,getElem?_map->Jak,nodup_append->Jal,contains_iff_mem->Jam,take_append_drop->Jan,all_eq_true->Jao,getElem_map->Jap,length_drop->Jaq,not_mem_nil->Jar,mem_filter->Jau,range_succ->Jav,sum_append->Jaw,length_append->Jay,sum_cons->Ja1,filter_cons->Ja2,getElem?_set_self->Ja3,pairwise_lt_range->Ja4,filter_nil->Ja5,getElem_set_self->Ja6,singleton_append->Ja7,getElem?_set_ne->Jba,pairwise_append->Jbb,map_congr_left->Jbc,getElem?_drop->Jbd,getElem?_take->Jbe,pairwise_cons->Jbf,set_cons_succ->Jbg,getElem_drop->Jbj,length_range->Jbk,pairwise_map->Jbl,map_map->Jbm,set_set->Jbn,take_length->Jbp,map_take->Jbs,map_id->Jbw
open List.Pairwise renaming filter->Ja9
open Nat renaming le_refl->Jh,zero_add->Jk,mul_le_mul_right->Jas,eq_zero_or_pos->Jbh,lt_or_ge->Jbo,add_zero->Jbt,succ_mul->Jbu
open Option renaming getD_some->Jaa,map_some->Ja8
open Option.some renaming injEq->Jaz
namespace Go.AE
variable{H H' H0:Heap}{K:Uk}{p:Nat->Bool}{bc:C}{ns ids:List Int}{f z x5 a R:Nat}{caps:List C}{g:Nat->List Nat}{A:Nat->Prop}{x:Nat×List Bool}{S bs:List Bool}{E:Ul}{fl:Bool}{α:Type}{cs:List Y.CodeD}{zs:List (Nat×List Bool)}
namespace Y
open Go.Proofs.Tryz
structure GRd (H:Heap)(c:C)(rows:List (List C))(nx:Nat->List Int):Prop where
 s:Slc H 5 rows c
 ow:c.ai=false
 no:∀r∈rows,am r=true
 x:∀i,i<rows.length->∃a1 a2 a3 a4 fl,rows.getD i []=[a1,a2,a3,a4,.sl fl 1 (Qb (nx i))]
theorem GRd.keep {c:C}{rows:List (List C)}{nx:Nat->List Int}{H':Heap}{E L:Ul}(h:GRd H c rows nx)(kn:Kn H H' E L)(hE:∀l a b d,c=.ah l a b d->l∉E.map Prod.fst):GRd H' c rows nx:=⟨h.s.keep kn hE,h.ow,h.no,h.x⟩
theorem GRd.keep0 {c:C}{rows:List (List C)}{nx:Nat->List Int}{L:Ul}(h:GRd H c rows nx)(kn:Kn H H' [] L):GRd H' c rows nx:=h.keep kn ZC
def gnx (q:CodeD):Nat->List Int:=λi=>(q.blocks.map BlkD.next).getD i []
theorem Fb (H:Heap)(q:CodeD)(fl:Bool):GRd H (.sl fl 5 (Qo q.blocks)) (Qo q.blocks) (gnx q):=by
 refine⟨.mk' _ _ _ _,rfl,RV _,λi h=>?_⟩;rw[Qn]at h;rw[CU _ _ h];have:gnx q i=q.blocks[i].next:=by simp[gnx,Ja,h]
 exact⟨.sl false 2 (Q3 q.blocks[i].ab),.sl false 4 (Cu q.blocks[i].ins),Ui q.blocks[i].jump,Ui q.blocks[i].on,false,by rw[this];rfl⟩
theorem YR {p rg:Int}{rows:List (List C)}{nx:Nat->List Int}(hg:GRd H bc rows nx)(hK:K (.c (.bool (CX rows.length nx))) H):Qu prog Og [.ag [Ui p,Ui rg,bc]] H K:=by
 refine Qd Co Yh ?_;have bq:=hg.ow;have aq:=eq_true hg.s.ok;have ak:=hg.s.len;have br:=hg.s.sz;have de:=hg.s.rows;have retf:∀(b:Bool) (e:Env),b=CX rows.length nx->lk 2 e=.c (.bool b)->Q5 Cq K .ret e H:=by
  intro b e hb h3;simp only[go_sem,Q5,Cn,Jb,forall_eq,RS.op,h3];rw[hb];exact hK
 refine Wi ?_;refine Qh (Qe (Qy (λm e1 H1=>∃(i:Nat),m=rows.length-i/\i<=rows.length/\H1=H/\(∀j,j<i->∀x∈nx j,0<=x/\x<=(rows.length:Int)-1)/\e1=[(1,.c (.pp [Ui p,Ui rg,bc])),(3,Uv i)]) rows.length ?_ ?_))
 ·exact⟨0,ZA,ZA,rfl,λj hj=>ZA,rfl⟩
 ·rintro m e1 H1 ⟨i,hm,hi,rfl,cd,rfl⟩;refine Q1 (Qa ?_);simp only[go_sem,bq,aq,ak];intro hl;simp only[LIM]at hl;refine Wt ?_ ?_
  ·intro hc;have af:i<rows.length:=ZD
   obtain⟨a1,a2,a3,a4,fl,aD⟩:=hg.x i af;refine Ze ?_;refine CN (λe2 H2=>H2=H1/\(∀x∈nx i,0<=x/\x<=(rows.length:Int)-1)/\lk 1 e2=.c (.pp [Ui p,Ui rg,bc])/\lk 3 e2=Uv i) ?_ ?_
   ·intro Q hn hr _;refine Wr ?_;refine Qe (Qy (λm e1 H2=>∃(k:Nat),m=(nx i).length-k/\k<=(nx i).length/\H2=H1/\(∀x∈(nx i).take k,0<=x/\x<=(rows.length:Int)-1)/\e1=[(1,.c (.pp [Ui p,Ui rg,bc])),(3,Uv i),(4,Uv k)]) (nx i).length ?_ ?_)
    ·exact⟨0,ZA,ZA,rfl,ZC,rfl⟩
    ·rintro m2 e1 H2 ⟨k,fz,hk,rfl,gD,rfl⟩;refine Q1 (Qa ?_);simp only[go_sem,bq,aq,ak,br,de,af,aD,Qc];intro kY;simp only[LIM]at kY;refine Wt ?_ ?_
     ·intro hc;have aP:k<(nx i).length:=ZD;have b8:(nx i).getD k 0=(nx i)[k]:=(by simp[Ja,aP]);refine Wm ?_;refine Cv ?_;simp only[go_sem,bq,aq,ak,br,de,af,aD,aP,Qc,Qk _ _ aP,b8];refine⟨Qv,?_⟩;refine Dq ?_;simp only[go_sem,Q1n];refine Wu ?_ ?_
      ·intro aC;refine Wp ?_;refine hr _ _ (retf false _ ?_ ZB)
       cases hf:CX rows.length nx with
       |false=>rfl
       |true=>
        have:=Pd hf af (Je aP);simp at aC;omega
      ·intro aC;refine Wl ?_;refine⟨Qv,(nx i).length-(k+1),ZA,k+1,rfl,ZA,λx hx=>?_,rfl⟩;rw[Jf aP]at hx;rcases Jj.1 hx with hx|hx
       ·exact gD x hx
       ·simp only[Jb]at hx;subst hx;simpa using aC
     ·intro hc;have bp:(nx i).length<=k:=ZD;rw[Jc bp]at gD;refine Zb ?_;exact hn _ _ ⟨rfl,gD,ZB,ZB⟩
   ·rintro e2 H2 ⟨rfl,hx,l1,l3⟩;refine Qt ?_;simp only[go_sem,X.next,l1,l3];refine⟨Qv,rows.length-(i+1),ZA,i+1,rfl,ZA,λj hj=>?_,rfl⟩;by_cases h:j<i
    ·exact cd j h
    ·have:j=i:=ZA;subst this;exact hx
  ·intro hc;have bp:i=rows.length:=by have:¬i<rows.length:=ZD;omega
   subst bp;refine Zb ?_;refine Zp bq aq ak ?_;intro _;refine Ql ?_;refine retf _ _ ?_ ZJ;have:(List.range rows.length).all (λi=>(nx i).all λx=>decide (0<=x/\x<=(rows.length:Int)-1))=true:=by
    simp only[Jao,J7,decide_eq_true_eq];exact cd
   simp only[CX,this,Jbr];try (by_cases h:0<rows.length <;> simp[h])
end Y
namespace Y
open Go.Proofs.Tryz
def Qx (S:List Bool):List (List C):=S.map λb=>[.bool b]
theorem Q4 (S:List Bool):(Qx S).length=S.length:=by simp[Qx]
theorem Q7 (S:List Bool)(i:Nat)(h:i<S.length):(Qx S).getD i []=[.bool (S.getD i false)]:=by
 simp[Qx,Ja,h]
theorem EU (S:List Bool)(i:Nat)(b:Bool):(Qx S).set i [.bool b]=Qx (S.set i b):=by simp[Qx,Jac]
theorem P9 (S:List Bool):∀r∈Qx S,am r=true:=by intro r hr;obtain⟨x,_,rfl⟩:=Jt.1 hr;rfl
def Cs (l:List Nat):List (List C):=Qb (l.map Int.ofNat)
theorem Q6 (l:List Nat):(Cs l).length=l.length:=by simp[Cs,Qc]
theorem Q6j (l:List Nat)(n:Nat):Cs l++[[Ui (n:Int)]]=Cs (l++[n]):=by simp[Cs,Qb]
theorem Ff (l:List Nat):∀r∈Cs l,am r=true:=Qr _
theorem Rz {F:Heap}{p rg:Int}{rows:List (List C)}{nx:Nat->List Int}{y:Nat}(aT:CX rows.length nx=true)(hn:rows.length<=1000000)(hg:GRd F bc rows nx)(cI:∀l a b d,bc=.ah l a b d->l≠y) :
  ∀(u b:Nat) (S:List Bool) (o:List Nat) (oc:C) (Lg:Ul) (H:Heap) (K:V->Heap->Prop),S.length=rows.length->rows.length-cnt S<=u->b<rows.length->S.getD b false=false->
   Kn F H [(y,.vec 1 (Qx S))] ([]++Lg)->Gr Lg 1 (Cs o) oc->o.length<=cnt S->
   (∀(S':List Bool) (o':List Nat) (oc':C) (Lg':Ul) (H':Heap),Dfs (nxN nx) [b] S o S' o'->Kn F H' [(y,.vec 1 (Qx S'))] ([]++Lg')->Gr Lg' 1 (Cs o') oc'->K (.c oc') H')->
   Qu prog Q5k [.ag [Ui p,Ui rg,bc],Uv b,.c (.ah y 1 0 rows.length),.c oc] H K:=by
 intro u
 induction u with
 |zero=>
  intro b S o oc Lg H K hS hu hb fZ;have h1:=Ii (S:=S) (x:=b) ZA fZ;have h2:=GG (S.set b true);rw[Ji]at h2;omega
 |succ u ih=>
  intro b S o oc Lg H K hS hu hb fZ kn ax eJ hK;have bq:=hg.ow;have s0:b<S.length:=ZA
  obtain⟨a1,a2,a3,a4,fl,aD⟩:=hg.x b hb;have br:=hg.s.sz;have ak:=hg.s.len;have hy:=kn.e 0 rfl;have kX:=ax.ai;refine Qd Co Qaq2 ?_;refine Wk ?_;have bQ:List.take rows.length (Qx S)=Qx S:=Jc Zan;simp only[go_sem,hy,hb,Q4,hS,Q7 _ _ s0,EU,J4,Jk,Jh];intro H1 h1;have kn:=kn.stE 0 rfl h1;have hcS:=Ii s0 fZ;have mS:(nxN nx b).length=(nx b).length:=by simp[nxN]
  refine Wa ?_;refine Qh (Qe (Qy (λm e1 H1=>∃(i:Nat) (S1:List Bool) (o1:List Nat) (oc1:C) (Lg1:Ul),m=(nx b).length-i/\i<=(nx b).length/\Dfs (nxN nx) ((nxN nx b).take i) (S.set b true) o S1 o1/\
   Kn F H1 [(y,.vec 1 (Qx S1))] ([]++Lg1)/\Gr Lg1 1 (Cs o1) oc1/\
   e1=[(1,Uv b),(2,.c (.ah y 1 0 rows.length)),(3,.c oc1),(4,.c (.pp [Ui p,Ui rg,bc])),(9,Uv i)]) (nx b).length ?_ ?_))
  ·exact⟨0,_,o,oc,Lg,ZA,ZA,.nil _ _,kn,ax,rfl⟩
  ·rintro m e1 H2 ⟨i,S1,o1,oc1,Lg1,hm,hi,hd,kn,ax,rfl⟩;have b8:∀x,x<(S.set b true).length->∀z∈nxN nx x,z<(S.set b true).length:=by
    rw[Ji,hS];exact λx hx z hz=>F0 aT hx hz
   have di:=hd.len;rw[Ji,hS]at di;have fi:=hd.count b8 (λx hx=>b8 b (by rw[Ji];exact s0) x (Jaf hx));have hd3:=hd.olen;have hd4:=GG S1;have cS:=hg.keep kn (λl a b d hh=>by simpa using cI l a b d hh);have fA:=eq_true cS.s.ok;have rh:=cS.s.rows;have hy:=kn.e 0 rfl;refine Q1 (Qa ?_);simp only[go_sem,bq,fA,ak,br,rh,hb,aD,Qc];intro hl;simp only[LIM]at hl;refine Wt ?_ ?_
   ·intro hc;have af:i<(nx b).length:=ZD;obtain⟨w,hw⟩:∃w:Nat,(nx b).getD i 0=w:=by
     have h1:=Pd aT hb (Je af);refine⟨((nx b)[i]).toNat,?_⟩;simp only[Ja,Jd af,Jaa];omega
    have nM:(nxN nx b).take (i+1)=(nxN nx b).take i++[w]:=by
     rw[Jf (by rw[mS];exact af)];congr 1;simp only[nxN,Jap];simp only[Ja,Jd af,Jaa]at hw;rw[hw];simp
    have pC:w<rows.length:=F0 aT hb (x:=w) (by
     have:w∈(nxN nx b).take (i+1):=(by rw[nM];simp);exact Jaf this)
    have xp:w<S1.length:=ZA;refine Ze ?_;refine CN (λe2 H2=>∃(S2:List Bool) (o2:List Nat) (oc2:C) (Lg2:Ul),Dfs (nxN nx) ((nxN nx b).take (i+1)) (S.set b true) o S2 o2/\
     Kn F H2 [(y,.vec 1 (Qx S2))] ([]++Lg2)/\Gr Lg2 1 (Cs o2) oc2/\
     lk 1 e2=Uv b/\lk 2 e2=.c (.ah y 1 0 rows.length)/\lk 3 e2=.c oc2/\lk 4 e2=.c (.pp [Ui p,Ui rg,bc])/\lk 9 e2=Uv i) ?_ ?_
    ·intro Q bS _ _;have gQ:List.take rows.length (Qx S1)=Qx S1:=Jc Zan;refine Qe (Qa ?_);simp only[go_sem,bq,fA,ak,br,rh,hb,aD,af,hy,hw,pC,gQ,di,Q4,Q7 _ _ xp,Qc,Qk _ _ af,J4,Jk,Jh];refine Wu ?_ ?_
     ·intro aC;have gE:S1.getD w false=false:=DE aC;refine C7 ?_;simp only[go_sem,bq,fA,ak,br,rh,hb,aD,af,hw,Qc,Qk _ _ af];refine ih w S1 o1 oc1 Lg1 H2 _ di ZA pC gE kn ax ZA λS2 o2 oc2 Lg2 H3 dj kn ax=>?_;simp only[go_sem,PE];refine bS _ _ ⟨S2,o2,oc2,Lg2,?_,kn,ax,Rf0⟩;rw[nM];exact hd.app dj
     ·intro aC;have gE:S1.getD w false=true:=CS aC;refine Ze ?_;refine bS _ _ ⟨S1,o1,oc1,Lg1,?_,kn,ax,Rf0⟩;rw[nM];exact hd.app (.skip gE (.nil _ _))
    ·rintro e2 H3 ⟨S2,o2,oc2,Lg2,hd,kn,ax,l1,l2,l3,l4,l9⟩;refine Qt ?_;simp only[go_sem,X.next,l1,l2,l3,l4,l9];exact⟨Qv,(nx b).length-(i+1),ZA,i+1,S2,o2,oc2,Lg2,rfl,ZA,hd,kn,ax,rfl⟩
   ·intro hc;have bp:(nx b).length<=i:=ZD;rw[Jc (by rw[mS];exact bp)]at hd;have kX:=ax.ai;refine Wb ?_;refine kn.grow (new:=Qb [(b:Int)]) ax (.mk' _ _ _ _) (Qr _) ZaU λz H3 kn=>?_;simp only[go_sem,PD];refine Zf ?_;refine hK S1 (o1++[b]) _ _ H3 (.one fZ hd) kn ?_;rw[<-Q6j];exact .mk _ _ _ ZC
theorem EC {n lo hi:Int}(hK:K (.c (.bool (decide (lo<=n)&&decide (n<=hi)))) H):Qu prog Q0w [Uv n,Uv lo,Uv hi] H K:=by
 refine Qd Co Qamc ?_;refine Wd ?_;refine Zf ?_;have:(bif decide (lo<=n)then decide (n<=hi)else false)=(decide (lo<=n)&&decide (n<=hi)):=by cases decide (lo<=n) <;> rfl
 first|exact hK|(rw[this];exact hK)|(simpa[this]using hK)
def IsIx (ns:List Int)(v r:Int):Prop:=(r=-1/\v∉ns)\/∃i:Nat,r=i/\i<ns.length/\ns.getD i 0=v/\v∉ns.take i
theorem IsIx.nonneg{v r:Int}(h:IsIx ns v r):decide (0<=r)=ns.contains v:=by
 rcases h with ⟨rfl,hn⟩|⟨i,rfl,h1,h2,_⟩
 ·have:ns.contains v=false:=by
   cases hc:ns.contains v with
   |false=>rfl
   |true=>exact absurd (Jam.1 hc) hn
  rw[this];rfl
 ·have:v∈ns:=by
   rw[<-h2,Ja,Jd h1];exact Je h1
  rw[Jam.2 this];simp
theorem KN {c:C}{v:Int}(hs:Slc H 1 (Qb ns) c)(bq:c.ai=false)(hK:∀r,IsIx ns v r->K (Uv r) H) :
  Qu prog Q5v [.c c,Uv v] H K:=by
 refine Qd Co Qara ?_;have aq:=eq_true hs.ok;have ak:=hs.len;have br:=hs.sz;have de:=hs.rows;refine Wg ?_;simp only[go_sem,aq,ak,Qc];intro hl;simp only[LIM]at hl;refine Qh (Qe (Qy (λm e1 H1=>∃(i:Nat),m=ns.length-i/\i<=ns.length/\H1=H/\v∉ns.take i/\e1=[(0,.c c),(1,Uv v),(7,.c (Ui ns.length)),(8,Uv i)]) ns.length ?_ ?_))
 ·exact⟨0,ZA,ZA,rfl,ZC,rfl⟩
 ·rintro m e1 H1 ⟨i,hm,hi,rfl,b7,rfl⟩;refine Za ?_;refine Wt ?_ ?_
  ·intro hc;have af:i<ns.length:=ZD
   have b8:ns.getD i 0=ns[i]:=Zaj
   refine Ze ?_;refine We ?_;refine Qa ?_;simp only[go_sem,aq,ak,br,de,af,Qc,Qk _ _ af];refine Wu ?_ ?_
   ·intro aC;have hv:v=ns.getD i 0:=ZG;refine Za ?_;refine Zo ?_;exact hK _ (.inr ⟨i,rfl,af,hv.symm,b7⟩)
   ·intro aC;have hv:¬v=ns.getD i 0:=ZG;refine Wl ?_;refine⟨Qv,ns.length-(i+1),ZA,i+1,rfl,ZA,?_,rfl⟩;rw[Jf af];simp only[Jj,Jb,not_or];exact⟨b7,λh=>hv (by rw[b8];exact h)⟩
  ·intro hc;have bp:ns.length<=i:=ZD
   rw[Jc bp]at b7;refine Wh ?_;exact hK _ (.inl ⟨rfl,b7⟩)
theorem Qapw {c:C}{v:Int}(hs:Slc H 1 (Qb ns) c)(bq:c.ai=false)(hK:K (.c (.bool (ns.contains v))) H) :
  Qu prog Qs6 [.c c,Uv v] H K:=by
 refine Qd Co Qafe ?_;refine Wd ?_;refine KN hs bq λr hr=>?_;simp only[go_sem,GC];refine Zf ?_;rw[hr.nonneg];exact hK
theorem Qalc {c:C}{p:Int->Bool}(hs:Slc H 1 (Qb ns) c)(bq:c.ai=false)
  (hf:∀(x:Int) (K':V->Heap->Prop),x∈ns->K' (.c (.bool (p x))) H->Qu prog f ([Uv x]++caps.map .c) H K')
  (hK:∀r:Int,decide (0<=r)=ns.any p->K (Uv r) H) :
  Qu prog Qo5 [.c c,.c (.fn f caps)] H K:=by
 refine Qd Co Qaa4 ?_;have aq:=eq_true hs.ok;have ak:=hs.len;have br:=hs.sz;have de:=hs.rows;refine Wg ?_;simp only[go_sem,aq,ak,Qc];intro hl;simp only[LIM]at hl;refine Qh (Qe (Qy (λm e1 H1=>∃(i:Nat),m=ns.length-i/\i<=ns.length/\H1=H/\(∀x∈ns.take i,p x=false)/\e1=[(0,.c c),(1,.c (.fn f caps)),(7,.c (Ui ns.length)),(8,Uv i)]) ns.length ?_ ?_))
 ·exact⟨0,ZA,ZA,rfl,ZC,rfl⟩
 ·rintro m e1 H1 ⟨i,hm,hi,rfl,b7,rfl⟩;refine Za ?_;refine Wt ?_ ?_
  ·intro hc;have af:i<ns.length:=ZD
   have b8:ns.getD i 0=ns[i]:=Zaj
   refine Ze ?_;refine We ?_;refine Qa ?_;simp only[go_sem,aq,ak,br,de,af,Qc,Qk _ _ af];refine hf _ _ (by rw[b8];exact Je af) ?_;refine Wu ?_ ?_
   ·intro aC;refine Za ?_;refine Zo ?_;refine hK _ ?_;have:ns.any p=true:=J9.2 ⟨ns[i],Je af,by rw[<-b8];exact aC⟩;rw[this];simp
   ·intro aC;refine Wl ?_;refine⟨Qv,ns.length-(i+1),ZA,i+1,rfl,ZA,?_,rfl⟩;rw[Jf af];intro x hx;rcases Jj.1 hx with hx|hx
    ·exact b7 x hx
    ·simp only[Jb]at hx;subst hx;rw[<-b8];exact aC
  ·intro hc;have bp:ns.length<=i:=ZD
   rw[Jc bp]at b7;refine Wh ?_;refine hK _ ?_;have:ns.any p=false:=by
    cases hc:ns.any p with
    |false=>rfl
    |true=>obtain⟨x,hx,hp⟩:=J9.1 hc;rw[b7 x hx]at hp;exact absurd hp ZC
   rw[this];rfl
theorem Ky {c:C}{p:Int->Bool}(hs:Slc H 1 (Qb ns) c)(bq:c.ai=false)
  (hf:∀(x:Int) (K':V->Heap->Prop),x∈ns->K' (.c (.bool (p x))) H->Qu prog f ([Uv x]++caps.map .c) H K')
  (hK:K (.c (.bool (ns.any p))) H):Qu prog Tn [.c c,.c (.fn f caps)] H K:=by
 refine Qd Co Qzy ?_;refine Wd ?_;refine Qalc hs bq hf λr hr=>?_;simp only[go_sem,GC];refine Zf ?_;rw[hr];exact hK
theorem Qagm {c:C}{rows:List (List C)}(hs:Slc H 5 rows c)(bq:c.ai=false)(b7:∀r∈rows,am r=true)(h5:∀i,i<rows.length->(rows.getD i []).length=5)
  (hf:∀(i:Nat) (K':V->Heap->Prop),i<rows.length->K' (.c (.bool (p i))) H->Qu prog f ([.ag (rows.getD i [])]++caps.map .c) H K')
  (hK:∀r:Int,decide (0<=r)=(List.range rows.length).any p->K (Uv r) H) :
  Qu prog Qfn [.c c,.c (.fn f caps)] H K:=by
 refine Qd Co Qsr ?_;have aq:=eq_true hs.ok;have ak:=hs.len;have br:=hs.sz;have de:=hs.rows;refine Wg ?_;simp only[go_sem,aq,ak];intro hl;simp only[LIM]at hl;refine Qh (Qe (Qy (λm e1 H1=>∃(i:Nat),m=rows.length-i/\i<=rows.length/\H1=H/\(∀x,x<i->p x=false)/\e1=[(0,.c c),(1,.c (.fn f caps)),(7,.c (Ui rows.length)),(8,Uv i)]) rows.length ?_ ?_))
 ·exact⟨0,ZA,ZA,rfl,ZC,rfl⟩
 ·rintro m e1 H1 ⟨i,hm,hi,rfl,cd,rfl⟩;refine Za ?_;refine Wt ?_ ?_
  ·intro hc;have af:i<rows.length:=ZD
   have bQ:(rows.getD i []).take 5=rows.getD i []:=Jc (by rw[h5 i af];omega);have aS:(5<=(rows.getD i []).length)=True:=eq_true (by rw[h5 i af];omega);have jI:am (rows.getD i [])=true:=b7 _ (by rw[Ja,Jd af];exact Je af);have haw:((rows.getD i []).all λc=>!c.ai)=true:=jI;refine Ze ?_;refine We ?_;refine Qa ?_;simp only[go_sem,aq,ak,br,de,af,bQ,aS,haw,J4];refine hf _ _ af ?_;refine Wu ?_ ?_
   ·intro aC;refine Za ?_;refine Zo ?_;refine hK _ ?_;have:(List.range rows.length).any p=true:=J9.2 ⟨i,J7.2 af,aC⟩;rw[this];simp
   ·intro aC;refine Wl ?_;refine⟨Qv,rows.length-(i+1),ZA,i+1,rfl,ZA,?_,rfl⟩;intro x hx;by_cases h:x<i
    ·exact cd x h
    ·have:x=i:=ZA;subst this;exact aC
  ·intro hc;have bp:rows.length<=i:=ZD
   refine Wh ?_;refine hK _ ?_;have:(List.range rows.length).any p=false:=by
    cases hc:(List.range rows.length).any p with
    |false=>rfl
    |true=>obtain⟨x,hx,hp⟩:=J9.1 hc;rw[cd x (by have:=J7.1 hx;omega)]at hp;exact absurd hp ZC
   rw[this];rfl
theorem Q43 {c:C}{rows:List (List C)}(hs:Slc H 5 rows c)(bq:c.ai=false)(b7:∀r∈rows,am r=true)(h5:∀i,i<rows.length->(rows.getD i []).length=5)
  (hf:∀(i:Nat) (K':V->Heap->Prop),i<rows.length->K' (.c (.bool (p i))) H->Qu prog f ([.ag (rows.getD i [])]++caps.map .c) H K')
  (hK:K (.c (.bool ((List.range rows.length).any p))) H):Qu prog Qdt [.c c,.c (.fn f caps)] H K:=by
 refine Qd Co Qlv ?_;refine Wd ?_;refine Qagm hs bq b7 h5 hf λr hr=>?_;simp only[go_sem,GC];refine Zf ?_;rw[hr];exact hK
theorem YI {p rg:Int}{rows:List (List C)}{nx:Nat->List Int}(hg:GRd H bc rows nx)(hK:K (.c (.bool (CX rows.length nx))) H):Qu prog Qwn [.ag [Ui p,Ui rg,bc]] H K:=by
 have bq:=hg.ow;have aq:=eq_true hg.s.ok;have ak:=hg.s.len;have h5:∀i,i<rows.length->(rows.getD i []).length=5:=λi hi=>by obtain⟨a1,a2,a3,a4,fl,h⟩:=hg.x i hi;rw[h];rfl
 refine Qd Co Qah3 ?_;refine Za ?_;refine Zp bq aq ak ?_;intro hl;simp only[LIM]at hl;refine⟨λhc=>?_,λhc=>?_⟩
 ·have hn:0<rows.length:=ZD
  refine Q43 (p:=λi=>(nx i).any λx=>!(decide (0<=x)&&decide (x<=(rows.length:Int)-1))) hg.s bq hg.no h5 (λi K' hi py=>?_) ?_
  ·obtain⟨a1,a2,a3,a4,fl,aD⟩:=hg.x i hi;rw[aD];refine Qd Co Q6a ?_;refine Qa ?_;simp only[go_sem,J2,Jy,Ju,J5];refine Za ?_;refine Ky (ns:=nx i) (p:=λx=>!(decide (0<=x)&&decide (x<=(rows.length:Int)-1))) (.mk' _ _ _ _) rfl (λx K'' hx hK''=>?_) ?_
   ·refine Qd Co Qw9 ?_;refine Qa ?_;simp only[go_sem,J2,Jy,Ju,J5];refine Zp bq aq ak ?_;intro _;refine⟨Qv,?_⟩;refine EC ?_;simp only[go_sem,Ri];refine Zf ?_;exact hK''
   ·simp only[go_sem,IH];refine Zf ?_;exact py
  ·simp only[go_sem,SR,hc];refine Zf ?_;have:CX rows.length nx = !((List.range rows.length).any λi=>(nx i).any λx=>!(decide (0<=x)&&decide (x<=(rows.length:Int)-1))):=by
    simp only[CX,hn,decide_true,Bool.and_true,List.not_any_eq_all_not,Bool.not_not,Bool.decide_and]
   rw[<-this];exact hK
 ·have hn:rows.length=0:=by have:¬0<rows.length:=ZD;omega
  simp only[go_sem,SR,hc];refine Zf ?_;have:CX rows.length nx=false:=by simp[CX,hn]
  rw[this]at hK;exact hK
end Y
namespace Y
attribute [local instance] Classical.propDecidable
inductive Rch (g:Nat->List Nat)(A:Nat->Prop):Nat->Nat->Prop
 |refl {x:Nat}:¬A x->Rch g A x x
 |step {x y z:Nat}:Rch g A x y->z∈g y->¬A z->Rch g A x z
variable{B:Nat->Prop}{x y:Nat}
theorem Rch.mono (h:Rch g A x y)(nY:∀z,B z->A z):Rch g B x y:=by
 induction h with
 |refl h=>exact .refl λhb=>h (nY _ hb)
 |step h1 h2 h3 ih=>exact ih.step h2 λhb=>h3 (nY _ hb)
theorem Rch.fst (h:Rch g A x y):¬A x:=by
 induction h with
 |refl h=>exact h
 |step _ _ _ ih=>exact ih
theorem Rch.snd (h:Rch g A x y):¬A y:=by
 cases h with
 |refl h=>exact h
 |step _ _ h=>exact h
theorem Rch.trans (h:Rch g A x y)(k:Rch g A y z):Rch g A x z:=by
 induction k with
 |refl _=>exact h
 |step _ h2 h3 ih=>exact ih.step h2 h3
theorem Rch.head (hx:¬A x)(hy:y∈g x)(h:Rch g A y z):Rch g A x z:=(Rch.step (.refl hx) hy h.fst).trans h
theorem Rch.lt {n:Nat}(hg:∀x,x<n->∀y∈g x,y<n)(h:Rch g A x y)(hx:x<n):y<n:=by
 induction h with
 |refl _=>exact hx
 |step _ h2 _ ih=>exact hg _ ih _ h2
variable{xs:List Nat}{S' S1:List Bool}{o o' o1:List Nat}
theorem Dfs.adds (h:Dfs g xs S o S' o'):(∀x,x<S.length->∀y∈g x,y<S.length)->(∀x∈xs,x<S.length)->
  ∃t,o'=o++t/\(∀x,S'.getD x false=true↔S.getD x false=true\/x∈t)/\(∀x∈t,∀y∈g x,S'.getD y false=true)/\
   (∀x∈xs,S'.getD x false=true)/\(∀y∈t,∃x∈xs,Rch g (λz=>S.getD z false=true) x y):=by
 induction h with
 |nil S o=>exact λ_ _=>⟨[],ZC,ZC,ZC,ZC,ZC⟩
 |@skip x xs S S' o o' h1 h2 ih=>
  intro hg hx;obtain⟨t,e,a1,a2,a3,a4⟩:=ih hg λy hy=>hx y (Jm _ hy);refine⟨t,e,a1,a2,λy hy=>?_,λy hy=>?_⟩
  ·rcases J6.1 hy with rfl|hy
   ·exact h2.mono _ h1
   ·exact a3 y hy
  ·obtain⟨z,hz,hr⟩:=a4 y hy;exact⟨z,Jm _ hz,hr⟩
 |@go x xs S S1 S' o o1 o' h1 h2 h3 ih1 ih2=>
  intro hg lD;have hx:=lD x Jo;have hl:=h2.len;rw[Ji]at hl;obtain⟨t1,e1,a1,a2,a3,a4⟩:=ih1 Zak (by simpa using hg x hx);obtain⟨t2,e2,b1,b2,b3,b4⟩:=ih2 (by rw[hl];exact hg) (by rw[hl];exact λy hy=>lD y (Jm _ hy));have bX:∀y,(S.set x true).getD y false=true↔y=x\/S.getD y false=true:=by
   intro y;rw[GO];by_cases vU:y=x
   ·simp[vU,hx]
   ·simp[vU]
  have uF:∀y,S.getD y false=true->S1.getD y false=true:=λy hy=>(a1 y).2 (.inl ((bX y).2 (.inr hy)));have wP:S1.getD x false=true:=(a1 x).2 (.inl ((bX x).2 (.inl rfl)));refine⟨t1++[x]++t2,by rw[e2,e1];simp,λy=>?_,λy hy z hz=>?_,λy hy=>?_,λy hy=>?_⟩
  ·rw[b1,a1,bX];simp only[Jj,Jb];constructor
   ·rintro (((h|h)|h)|h)
    ·exact .inr (.inl (.inr h))
    ·exact .inl h
    ·exact .inr (.inl (.inl h))
    ·exact .inr (.inr h)
   ·rintro (h|((h|h)|h))
    ·exact .inl (.inl (.inr h))
    ·exact .inl (.inr h)
    ·exact .inl (.inl (.inl h))
    ·exact .inr h
  ·rcases Jj.1 hy with hy|hy
   ·rcases Jj.1 hy with hy|hy
    ·exact (b1 z).2 (.inl (a2 y hy z hz))
    ·simp only[Jb]at hy;subst hy;exact (b1 z).2 (.inl (a3 z hz))
   ·exact b2 y hy z hz
  ·rcases J6.1 hy with rfl|hy
   ·exact (b1 y).2 (.inl wP)
   ·exact b3 y hy
  ·rcases Jj.1 hy with hy|hy
   ·rcases Jj.1 hy with hy|hy
    ·obtain⟨z,hz,hr⟩:=a4 y hy;exact⟨x,Jo,.head (by rw[h1];simp) hz (hr.mono λw hw=>(bX w).2 (.inr hw))⟩
    ·simp only[Jb]at hy;subst hy;exact⟨y,Jo,.refl (by rw[h1];simp)⟩
   ·obtain⟨z,hz,hr⟩:=b4 y hy;exact⟨z,Jm _ hz,hr.mono uF⟩
theorem Dfs.seen (h:Dfs g xs S o S' o')(hg:∀x,x<S.length->∀y∈g x,y<S.length)(lD:∀x∈xs,x<S.length)(y:Nat) :
  S'.getD y false=true↔S.getD y false=true\/∃x∈xs,Rch g (λz=>S.getD z false=true) x y:=by
 obtain⟨t,e,a1,a2,a3,a4⟩:=h.adds hg lD;constructor
 ·intro hy;rcases (a1 y).1 hy with hy|hy
  ·exact .inl hy
  ·exact .inr (a4 y hy)
 ·rintro (hy|⟨x,hx,hr⟩)
  ·exact h.mono y hy
  ·induction hr with
   |refl _=>exact a3 _ hx
   |step h1 h2 h3 ih=>
    rcases (a1 _).1 ih with h|h
    ·exact absurd h h1.snd
    ·exact a2 _ h _ h2
theorem Dfs.list (h:Dfs g xs S [] S' o')(hg:∀x,x<S.length->∀y∈g x,y<S.length)(lD:∀x∈xs,x<S.length)(hS:∀x,S.getD x false=false)(y:Nat) :
  y∈o'↔S'.getD y false=true:=by
 obtain⟨t,e,a1,_⟩:=h.adds hg lD;rw[a1,hS];simp[e]
theorem Hk:∀{l k:List Nat},l.Pairwise (· < ·)->k.Pairwise (· < ·)->(∀x,x∈l↔x∈k)->l=k
 |[],[],_,_,_=>rfl
 |[],b::k,_,_,h=>by have:=(h b).2 Jo;simp at this
 |a::l,[],_,_,h=>by have:=(h a).1 Jo;simp at this
 |a::l,b::k,h1,h2,h=>by
  rw[Jbf]at h1 h2;have eP:a=b:=by
   rcases J6.1 ((h a).1 Jo)with e|e
   ·exact e
   ·rcases J6.1 ((h b).2 Jo)with e'|e'
    ·exact e'.symm
    ·have:=h1.1 b e';have:=h2.1 a e;omega
  subst eP;congr 1;refine Hk h1.2 h2.2 λx=>⟨λhx=>?_,λhx=>?_⟩
  ·rcases J6.1 ((h x).1 (Jm _ hx))with e|e
   ·subst e;have:=h1.1 x hx;omega
   ·exact e
  ·rcases J6.1 ((h x).2 (Jm _ hx))with e|e
   ·subst e;have:=h2.1 x hx;omega
   ·exact e
theorem Qasj {l:List Nat}{n:Nat}(h1:l.Pairwise (· < ·))(h:∀x,x∈l↔x<n/\p x=true):l=(List.range n).filter p:=
 Hk h1 (Ja9 _ Ja4) λx=>by rw[h];simp[Jau]
noncomputable def CF (g:Nat->List Nat)(a:Int)(x:Nat):Bool:=decide (Rch g (λz=>(z:Int)=a) 0 x)
noncomputable def Dd (g:Nat->List Nat)(a b:Nat):Bool:=CF g (-1) a&&CF g (-1) b&&!CF g a b
end Y
variable{p:Y.InsD->Bool}
namespace Y
open Go.Proofs.Tryz
theorem Qa0y {rows:List (List C)}(h:∀r∈rows,am r=true){i:Nat}(hi:i<rows.length){a1 a2 a3 a4 a5:C}(hr:rows.getD i []=[a1,a2,a3,a4,a5]) :
  a1.ai=false/\a2.ai=false/\a3.ai=false/\a4.ai=false/\a5.ai=false:=by
 have:=h _ (Je hi);have e:rows[i]=[a1,a2,a3,a4,a5]:=by rw[<-hr];simp[Ja,hi]
 rw[e]at this;simpa[Go.AE.am]using this
def ES (nx:Nat->List Int)(b:Int)(n:Nat):List Int:=if decide (0<=b)&&decide (b<=(n:Int)-1)then Qs nx b n else []
theorem RC {p rg:Int}{rows:List (List C)}{nx:Nat->List Int}{b:Int}(hs:Slc H 5 rows bc)(bq:bc.ai=false)(b7:∀r∈rows,am r=true)
  (hx:∀i,i<rows.length->∃a1 a2 a3 a4 a5,rows.getD i []=[a1,a2,a3,a4,a5]/\Slc H 1 (Qb (nx i)) a5)
  (hK:∀fl H',Upd H H' []->K (.c (.sl fl 1 (Qb (ES nx b rows.length)))) H'):Qu prog Sy [.ag [Ui p,Ui rg,bc],Uv b] H K:=by
 refine Q0 ?_;refine Qd Co Qah0 ?_;have aq:=eq_true hs.ok;have ak:=hs.len;have br:=hs.sz;refine Wd ?_;refine Q1 (Qa ?_);simp only[go_sem,bq,aq,ak];intro hl;simp only[LIM]at hl;refine⟨Qv,?_⟩;refine EC ?_;simp only[go_sem,PW];refine Wt ?_ ?_
 ·intro hc;have cA:=DE hc;refine Za ?_;refine Zf ?_;have h:=hK false _ (Kn.an H).fin;simp only[ES,cA]at h;exact⟨_,.c _ _ FrzR.nil.sl,h⟩
 ·intro hc;have cA:=CS hc;refine Ze ?_;refine Q1 (Qa ?_);simp only[go_sem,bq,aq,ak];intro _;refine Qh (Qe (Qy (λm e1 H1=>∃(i:Nat) (c:C) (Lg:Ul),m=rows.length-i/\i<=rows.length/\Gr Lg 1 (Qb (Qs nx b i)) c/\Kn H H1 [] ([]++Lg)/\
   e1=[(1,Uv b),(5,.c c),(16,.c bc),(17,.c (Ui rows.length)),(18,Uv i)]) rows.length ?_ ?_))
  ·exact⟨0,_,[],ZA,ZA,.nil 1,Kn.an H,rfl⟩
  ·rintro m e1 H1 ⟨i,c,Lg,hm,hi,ax,kn,rfl⟩;have cE:=hs.keep0 kn;have eK:=eq_true cE.ok;have jo:=cE.rows;refine Za ?_;refine Wt ?_ ?_
   ·intro hc;have af:i<rows.length:=ZD;obtain⟨a1,a2,a3,a4,a5,aD,pL⟩:=hx i af;obtain⟨o1,o2,o3,o4,o5⟩:=Qa0y b7 af aD;refine Ze ?_;refine CN (λe2 H2=>∃(c:C) (Lg:Ul),Gr Lg 1 (Qb (Qs nx b (i+1))) c/\Kn H H2 [] ([]++Lg)/\
     lk 1 e2=Uv b/\lk 5 e2=.c c/\lk 16 e2=.c bc/\lk 17 e2=.c (Ui rows.length)/\lk 18 e2=Uv i) ?_ ?_
    ·intro Q bS _ _;refine Qe (Qa ?_);simp only[go_sem,eK,ak,br,jo,af,aD,o1,o2,o3,o4,o5];intro x hx H2 h2;have kn:=(kn.al hx h2).perm J1;have aL:=kn.l 0 rfl;simp only[go_sem,Qpy,aL];intro H3 h3;have kn:=kn.az 0 rfl h3;have aO:=kn.l 0 rfl;refine Zl aO o5 ?_;refine Qapw (pL.keep0 kn) o5 ?_;refine Wu ?_ ?_
     ·intro ig;have db:=E3 nx b i;refine Zh ?_;refine kn.grow (B:=[_]) (new:=Qb [(i:Int)]) ax (.mk' _ _ _ _) (Qr _) (by simp only[Qc,LIM,Jq,Jr];omega) λy' H4 kn=>?_;simp only[go_sem,Qpz];refine bS _ _ ⟨_,_,?_,(kn.perm J1).drop,Rf0⟩;rw[P8,ig,if_pos rfl,Ec];exact .mk _ _ _ ZC
     ·intro ig;refine Ze ?_;refine bS _ _ ⟨c,Lg,?_,?_,Rf0⟩
      ·rw[P8,ig];simpa using ax
      ·have kn:Kn H H3 [] ([(x,.st [a1,a2,a3,a4,a5])]++([]++Lg)):=kn;exact (kn.perm J1).drop
    ·rintro e2 H2 ⟨c2,Lg2,ax,kn,l1,l5,l16,l17,l18⟩;refine Qt ?_;simp only[go_sem,X.next,l1,l5,l16,l17,l18];exact⟨Qv,rows.length-(i+1),ZA,i+1,c2,Lg2,rfl,ZA,ax,kn,rfl⟩
   ·intro hc;have bp:i=rows.length:=(by have:¬i<rows.length:=(by simpa using hc);omega);subst bp;refine Wh ?_;refine⟨_,.c _ _ (ax.frz kn (Qr _)),?_⟩;have:=hK false _ kn.fin;simp only[ES,cA]at this;exact this
theorem Q45 {p rg:Int}{rows:List (List C)}{nx:Nat->List Int}{b:Int}(hg:GRd H bc rows nx)
  (hK:∀fl H',Upd H H' []->K (.c (.sl fl 1 (Qb (ES nx b rows.length)))) H'):Qu prog Sy [.ag [Ui p,Ui rg,bc],Uv b] H K:=
 RC hg.s hg.ow hg.no (λi hi=>by
  obtain⟨a1,a2,a3,a4,fl,h⟩:=hg.x i hi;exact⟨a1,a2,a3,a4,_,h,.mk' _ _ _ _⟩) hK
end Y
namespace Y
attribute [local instance] Classical.propDecidable
variable{a:Int}{n:Nat}{T:List Nat}{b:Nat}
theorem EW (n x:Nat):(List.replicate n false).getD x false=false:=by
 simp only[Ja,Jah];split <;> rfl
end Y
namespace Y
open Go.Proofs.Tryz
theorem GX (n:Nat):List.replicate n [C.bool false]=Qx (List.replicate n false):=by simp[Qx]
theorem D5 (l:List Nat)(i:Nat)(h:i<l.length):(Cs l).getD i []=[Ui ((l.getD i 0:Nat):Int)]:=by
 simp[Cs,Qb,Ja,h]
theorem RG (a b:List Nat):Cs (a++b)=Cs a++Cs b:=by simp[Cs,Qb]
end Y
section
variable{F:Heap}{E0 E' L L1 L2 M:Ul}
theorem Kn.startE (h:∀p∈E,H p.1=p.2/\p.2≠.none)(hd:(E.map Prod.fst).Nodup):Kn H H E []:=
 ⟨ZI,λp hp=>by rw[(h p hp).1];exact (h p hp).2,ZC,hd,ZC,λ_ _ _=>rfl⟩
theorem Kn.mid (k:Kn H0 F E0 (L1++L2)):Kn F F L1 []:=
 .startE (λp hp=>k.get p (Jn _ (Jl _ hp))) (by
  have:=k.dL;rw[Jw]at this;exact (Jal.1 this).1)
theorem Kn.comp (k1:Kn H0 F E0 (L1++L2))(k2:Kn F H E' M)(hE:E'.map Prod.fst=L1.map Prod.fst):Kn H0 H E0 ((E'++L2)++M):=by
 have hd:=k1.dL;rw[Jw]at hd;obtain⟨d1,d2,d3⟩:=Jal.1 hd;have Ci:∀p∈E0,F p.1=p.2/\p.2≠.none:=λp hp=>k1.get p (Jl _ hp);have Ca:∀p∈L2,F p.1=p.2/\p.2≠.none:=λp hp=>k1.get p (Jn _ (Jn _ hp));have inL1:∀p∈E',∃q∈L1,q.1=p.1:=λp hp=>by
  have:=CD hp;rw[hE]at this;obtain⟨q,h1,h2⟩:=Jt.1 this;exact⟨q,h1,h2⟩
 have keep:∀m,F m≠.none->m∉L1.map Prod.fst->H m=F m:=λm h1 h2=>k2.chg m h1 (by rw[hE];exact h2);have AK:∀p∈E0,∀q∈L1,p.1≠q.1:=λp hp q hq hh=>k1.ext p hp (hh▸k1.loc q (Jl _ hq));refine⟨λp hp=>?_,k1.ext,λp hp=>?_,k1.dE,?_,λm hm hn=>?_⟩
 ·rcases Jj.1 hp with hp|hp
  ·obtain⟨h1,h2⟩:=Ci p hp;refine⟨?_,h2⟩;rw[keep p.1 (by rw[h1];exact h2) (λhh=>?_),h1];obtain⟨q,hq,hqq⟩:=Jt.1 hh;exact AK p hp q hq hqq.symm
  ·rcases Jj.1 hp with hp|hp
   ·rcases Jj.1 hp with hp|hp
    ·exact k2.get p (Jl _ hp)
    ·obtain⟨h1,h2⟩:=Ca p hp;refine⟨?_,h2⟩;rw[keep p.1 (by rw[h1];exact h2) (λhh=>?_),h1];exact d3 _ hh _ (CD hp) rfl
   ·exact k2.get p (Jn _ hp)
 ·rcases Jj.1 hp with hp|hp
  ·rcases Jj.1 hp with hp|hp
   ·obtain⟨q,hq,hh⟩:=inL1 p hp;rw[<-hh];exact k1.loc q (Jl _ hq)
   ·exact k1.loc p (Jn _ hp)
  ·have h1:=k2.loc p hp
   cases h0:H0 p.1 with
   |none=>rfl
   |_=>
    by_cases hx:p.1∈E0.map Prod.fst
    ·obtain⟨q,hq,hh⟩:=Jt.1 hx;obtain⟨a1,a2⟩:=Ci q hq;rw[hh,h1]at a1;exact absurd a1.symm a2
    ·have:=k1.chg p.1 (by rw[h0];simp) hx;rw[h1,h0]at this;simp at this
 ·rw[Jw,Jw];refine Jal.2 ⟨Jal.2 ⟨k2.dE,d2,λa ha b hb=>?_⟩,k2.dL,λa ha b hb eP=>?_⟩
  ·rw[hE]at ha;exact d3 a ha b hb
  ·obtain⟨q,hq,rfl⟩:=Jt.1 hb;have hf:=k2.loc q hq;rcases Jj.1 ha with ha|ha
   ·obtain⟨r,hr,rfl⟩:=Jt.1 ha;exact k2.ext r hr (eP▸hf)
   ·obtain⟨r,hr,rfl⟩:=Jt.1 ha;obtain⟨a1,a2⟩:=Ca r hr;rw[eP,hf]at a1;exact a2 a1.symm
 ·rw[keep m (by rw[k1.chg m hm hn];exact hm) (λhh=>?_),k1.chg m hm hn];obtain⟨q,hq,rfl⟩:=Jt.1 hh;exact hm (k1.loc q (Jl _ hq))
theorem Kn.upd (k:Kn H0 H E L):Upd H0 H E:=⟨λp hp=>(k.get p (Jl _ hp)).1,λm hm hn=>k.chg m hm hn⟩
theorem Y.FrzL.ptr {S:Nat->Bool}{l:Nat}{cells cells':List C}(hS:S l=true)(hH:H l=.st cells)(h:FrzL H S cells cells'):FrzC H S (.ptr l 0) (.pp cells'):=by
 obtain⟨h1,h2⟩:=h.spec;exact .ptr l 0 cells cells cells' hS hH rfl h1 h2
theorem Kn.bk {B Lg:Ul}{sz:Nat}{rows new:List (List C)}{b c:C}(kn:Kn H0 H E (B++Lg))(hc:Gr Lg sz rows c)(hb:Slc H sz new b)
  (h1:∀r∈new,am r=true) (h2:rows.length+new.length<=LIM)
  (h:∀t Lg' H',Gr Lg' sz (rows++new) t->t.ai=false->Kn H0 H' E (B++Lg')->K (.c t) H'):appQ H sz c b K:=
 kn.grow hc hb h1 h2 λy' H' k=>h _ _ H' (.mk y' sz _ ZC) rfl k
end
namespace Y
open Go.Proofs.Tryz
def FZ (x3 x4 x5:Nat)(p rg:Int)(bc:C):List C:=[.ptr x4 0,.pp [.int .i64 p,.int .i64 rg,bc],.ptr x5 0,.ptr x3 0]
def visE (x3 x4 x5 y n:Nat)(p rg:Int)(bc:C)(S:List Bool)(oc:C):List (Nat×Obj):=
 [(y,.vec 1 (Qx S)),(x3,.st [oc]),(x4,.st [.ah y 1 0 n]),(x5,.st [.fn PZ (FZ x3 x4 x5 p rg bc)])]
theorem Qa54 {F:Heap}{p rg:Int}{rows:List (List C)}{nx:Nat->List Int}{y x3 x4:Nat}(aT:CX rows.length nx=true)(hn:rows.length<=1000000)(hg:GRd F bc rows nx)
  (cI:∀l a b d,bc=.ah l a b d->l≠y/\l≠x3/\l≠x4/\l≠x5) :
  ∀(u b:Nat) (S:List Bool) (o:List Nat) (oc:C) (Lg:Ul) (H:Heap) (K:V->Heap->Prop),S.length=rows.length->rows.length-cnt S<=u->b<rows.length->S.getD b false=false->
   Kn F H (visE x3 x4 x5 y rows.length p rg bc S oc) ([]++Lg)->Gr Lg 1 (Cs o) oc->o.length<=cnt S->
   (∀(S':List Bool) (o':List Nat) (oc':C) (Lg':Ul) (H':Heap),Dfs (nxN nx) [b] S o S' o'->Kn F H' (visE x3 x4 x5 y rows.length p rg bc S' oc') ([]++Lg')->Gr Lg' 1 (Cs o') oc'->K (.tup []) H')->
   Qu prog PZ ([Uv b]++(FZ x3 x4 x5 p rg bc).map .c) H K:=by
 intro u
 induction u with
 |zero=>
  intro b S o oc Lg H K hS hu hb fZ;have h1:=Ii (S:=S) (x:=b) ZA fZ;have h2:=GG (S.set b true);rw[Ji]at h2;omega
 |succ u ih=>
  intro b S o oc Lg H K hS hu hb fZ kn ax eJ hK;have bq:=hg.ow;have s0:b<S.length:=ZA
  obtain⟨a1,a2,a3,a4,fl,aD⟩:=hg.x b hb;have br:=hg.s.sz;have ak:=hg.s.len;have kX:=ax.ai;refine Qd Co Qaa2 ?_;have hy:=kn.e 0 rfl;have bh:=kn.e 2 rfl;have bQ:List.take rows.length (Qx S)=Qx S:=Jc Zan;refine Qa ?_;simp only[go_sem,FZ,bh,hy,hb,Q4,hS,Q7 _ _ s0,EU,J4,Jk,Jh];intro H1 h1;have kn:Kn F H1 (visE x3 x4 x5 y rows.length p rg bc (S.set b true) oc) ([]++Lg):=kn.stE 0 rfl h1;have hcS:=Ii s0 fZ;have mS:(nxN nx b).length=(nx b).length:=by simp[nxN]
  have dV:∀(S:List Bool) (oc:C) (l a b d),bc=.ah l a b d->l∉(visE x3 x4 x5 y rows.length p rg bc S oc).map Prod.fst:=by
   intro S oc l a b d hh;obtain⟨q1,q2,q3,q4⟩:=cI l a b d hh;simp[visE,q1,q2,q3,q4]
  have eY:=hg.keep kn (dV _ _);have eK:=eq_true eY.s.ok;have jo:=eY.s.rows;refine Q1 (Qa ?_);simp only[go_sem,bq,eK,ak,br,jo,hb,aD,Qc];intro iX;simp only[LIM]at iX;refine Qh (Qe (Qy (λm e1 H1=>∃(i:Nat) (S1:List Bool) (o1:List Nat) (oc1:C) (Lg1:Ul),m=(nx b).length-i/\i<=(nx b).length/\Dfs (nxN nx) ((nxN nx b).take i) (S.set b true) o S1 o1/\
   Kn F H1 (visE x3 x4 x5 y rows.length p rg bc S1 oc1) ([]++Lg1)/\Gr Lg1 1 (Cs o1) oc1/\
   e1=[(0,Uv b),(1,Up x4),(3,Up x5),(4,Up x3),(16,.c (.sl fl 1 (Qb (nx b)))),(17,.c (Ui (nx b).length)),(18,Uv i)]) (nx b).length ?_ ?_))
  ·exact⟨0,_,o,oc,Lg,ZA,ZA,.nil _ _,kn,ax,rfl⟩
  ·rintro m e1 H2 ⟨i,S1,o1,oc1,Lg1,hm,hi,hd,kn,ax,rfl⟩;have b8:∀x,x<(S.set b true).length->∀z∈nxN nx x,z<(S.set b true).length:=by
    rw[Ji,hS];exact λx hx z hz=>F0 aT hx hz
   have di:=hd.len;rw[Ji,hS]at di;have fi:=hd.count b8 (λx hx=>b8 b (by rw[Ji];exact s0) x (Jaf hx));have hd3:=hd.olen;have hd4:=GG S1;have hy:=kn.e 0 rfl;have aO:=kn.e 1 rfl;have bh:=kn.e 2 rfl;have bt:=kn.e 3 rfl;refine Za ?_;refine Wt ?_ ?_
   ·intro hc;have af:i<(nx b).length:=ZD;obtain⟨w,hw⟩:∃w:Nat,(nx b).getD i 0=w:=by
     have h1:=Pd aT hb (Je af);refine⟨((nx b)[i]).toNat,?_⟩;simp only[Ja,Jd af,Jaa];omega
    have nM:(nxN nx b).take (i+1)=(nxN nx b).take i++[w]:=by
     rw[Jf (by rw[mS];exact af)];congr 1;simp only[nxN,Jap];simp only[Ja,Jd af,Jaa]at hw;rw[hw];simp
    have pC:w<rows.length:=F0 aT hb (x:=w) (by
     have:w∈(nxN nx b).take (i+1):=(by rw[nM];simp);exact Jaf this)
    have xp:w<S1.length:=ZA;refine Ze ?_;refine CN (λe2 H2=>∃(S2:List Bool) (o2:List Nat) (oc2:C) (Lg2:Ul),Dfs (nxN nx) ((nxN nx b).take (i+1)) (S.set b true) o S2 o2/\
     Kn F H2 (visE x3 x4 x5 y rows.length p rg bc S2 oc2) ([]++Lg2)/\Gr Lg2 1 (Cs o2) oc2/\
     lk 0 e2=Uv b/\lk 1 e2=Up x4/\lk 3 e2=Up x5/\lk 4 e2=Up x3/\lk 16 e2=.c (.sl fl 1 (Qb (nx b)))/\lk 17 e2=.c (Ui (nx b).length)/\lk 18 e2=Uv i) ?_ ?_
    ·intro Q bS _ _;have gQ:List.take rows.length (Qx S1)=Qx S1:=Jc Zan;refine Qe (Qa ?_);simp only[go_sem,hw,af,Qc,Qk _ _ af];refine Qa ?_;simp only[go_sem,bh,hy,pC,gQ,di,Q4,Q7 _ _ xp,J4,Jk,Jh];refine Wu ?_ ?_
     ·intro aC;have gE:S1.getD w false=false:=DE aC;refine Qt ?_;simp only[go_sem,bt];refine ih w S1 o1 oc1 Lg1 H2 _ di ZA pC gE kn ax ZA λS2 o2 oc2 Lg2 H3 dj kn ax=>?_;refine bS _ _ ⟨S2,o2,oc2,Lg2,?_,kn,ax,Rf0⟩;rw[nM];exact hd.app dj
     ·intro aC;have gE:S1.getD w false=true:=CS aC;refine Ze ?_;refine bS _ _ ⟨S1,o1,oc1,Lg1,?_,kn,ax,Rf0⟩;rw[nM];exact hd.app (.skip gE (.nil _ _))
    ·rintro e2 H3 ⟨S2,o2,oc2,Lg2,hd,kn,ax,l0,l1,l3,l4,l16,l17,l18⟩;refine Qt ?_;simp only[go_sem,X.next,l0,l1,l3,l4,l16,l17,l18];exact⟨Qv,(nx b).length-(i+1),ZA,i+1,S2,o2,oc2,Lg2,rfl,ZA,hd,kn,ax,rfl⟩
   ·intro hc;have bp:(nx b).length<=i:=ZD;rw[Jc (by rw[mS];exact bp)]at hd;have kX:=ax.ai;refine Zb ?_;refine Qt ?_;simp only[go_sem,aO,kX];refine kn.grow (new:=Qb [(b:Int)]) ax (.mk' _ _ _ _) (Qr _) ZaU λz H3 kn=>?_;have aO:=kn.e 1 rfl;simp only[go_sem,Qk4,aO];intro H4 h4;have kn:=kn.stE 1 rfl h4;simp only[go_sem,Q5,Cn,CQ,Jar];refine⟨λ_=>trivial,hK S1 (o1++[b]) _ _ H4 (.one fZ hd) kn ?_⟩;rw[<-Q6j];exact .mk _ _ _ ZC
theorem Qak7 {p rg:Int}{rows:List (List C)}{nx:Nat->List Int}(hg:GRd H bc rows nx)(aT:CX rows.length nx=true)(hn:rows.length<=1000000)
  (hK:∀(S:List Bool) (o:List Nat) (t:C) (Lg:Ul) (H':Heap),Gr Lg 1 (Cs o) t->Kn H H' [] ([]++Lg)->Dfs (nxN nx) [0] (List.replicate rows.length false) [] S o->K (.c t) H') :
  Qu prog So [.ag [Ui p,Ui rg,bc]] H K:=by
 refine Qd Co Qamb ?_;have bq:=hg.ow;have ak:=hg.s.len;have cq:=GQ aT;refine Wd ?_;intro x3 aO H1 h1;have kn:=(Kn.an H).al aO h1;have eY:=hg.keep0 kn;have eK:=eq_true eY.s.ok;refine Qa ?_;simp only[go_sem,bq,eK,ak,GX];intro hl;refine⟨by simp only[LIM];omega,λy hy H2 h2=>?_⟩;have kn:=kn.al hy h2;simp only[go_sem,Quo];intro x4 bh H3 h3;have kn:=kn.al bh h3;have bh:=kn.l 2 rfl;simp only[go_sem,Qun,bh];intro H4 h4;have kn:=kn.az 2 rfl h4;refine Za ?_;intro x5 bt H5 h5;have kn:=kn.al bt h5;have bt:=kn.l 3 rfl;refine Zj bt ?_;intro H6 h6;have kn:=kn.az 3 rfl h6;have kn:Kn H H6 [] ([(x3,.st [.sl true 1 []]),(y,.vec 1 (Qx (List.replicate rows.length false))),(x4,.st [.ah y 1 0 rows.length]),(x5,.st [.fn PZ (FZ x3 x4 x5 p rg bc)])]):=kn;have kn:Kn H H6 [] (visE x3 x4 x5 y rows.length p rg bc (List.replicate rows.length false) (.sl true 1 [])++[]):=kn.perm (List.Perm.swap _ _ _);have bt:=kn.l 3 rfl;have hg6:=hg.keep0 kn;have cI:∀l a b d,bc=.ah l a b d->l≠y/\l≠x3/\l≠x4/\l≠x5:=by
  intro l a b d hh;have hu:H l≠.none:=by
   have:=hg.s.ok;rw[hh]at this;intro h0;simp only[aZ,h0]at this
  exact⟨λh=>hu (h▸kn.free 0 rfl),λh=>hu (h▸kn.free 1 rfl),λh=>hu (h▸kn.free 2 rfl),λh=>hu (h▸kn.free 3 rfl)⟩
 refine Zj bt ?_;refine Qa54 aT hn hg6 cI rows.length 0 (List.replicate rows.length false) [] (.sl true 1 []) [] H6 _ ZC ZA cq (EW _ _) kn.mid (.nil 1) ZC λS o oc Lg H7 hd k2 ax=>?_;have kn:=kn.comp k2 rfl;have aO:=kn.l 1 rfl;have kX:=ax.ai;refine Zl aO kX ?_;refine Zf ?_;have kn:=kn.perm (L':=([]++Lg)++(visE x3 x4 x5 y rows.length p rg bc S oc++[])) (by rw[Jy];exact J1);exact hK S o oc Lg _ ax kn.drop hd
theorem Qa15 {p rg:Int}{rows:List (List C)}{nx:Nat->List Int}(hg:GRd H bc rows nx)(aT:CX rows.length nx=true)(hn:rows.length<=1000000)
  (hK:∀(S:List Bool) (o:List Nat) (H':Heap),Upd H H' []->Dfs (nxN nx) [0] (List.replicate rows.length false) [] S o->K (.c (.sl false 1 (Cs o))) H') :
  Qu prog So [.ag [Ui p,Ui rg,bc]] H K:=
 Q0 (Qak7 hg aT hn λS o t Lg H' ax kn hd=>⟨_,.c _ _ (ax.frz kn (Qr _)),hK S o _ kn.fin hd⟩)
end Y
namespace Y
variable{n:Int}{at':Nat}
structure InsAt (ns:List Int)(n:Int)(k:Nat):Prop where
 le:k<=ns.length
 lo:∀i,i<k->∀(h:i<ns.length),ns[i]<n
 hi:∀(h:k<ns.length),n<=ns[k]
theorem InsAt.mem_of_asc {k:Nat}(h:InsAt ns n k)(ha:ns.Pairwise (· < ·)):(∀x∈ns.take k,x<n)/\(∀x∈ns.drop k,n<=x)/\(∀x∈ns.drop (k+1),n<x):=by
 have hp:=J8.1 ha;refine⟨λx hx=>?_,λx hx=>?_,λx hx=>?_⟩
 ·obtain⟨i,hi,rfl⟩:=J3.1 hx;rw[Jae];rw[Jv]at hi;exact h.lo i ZA ZA
 ·obtain⟨i,hi,rfl⟩:=J3.1 hx;rw[Jbj];rw[Jaq]at hi;have h1:=h.hi ZA;by_cases h0:i=0
  ·subst h0;exact h1
  ·have:=hp k (k+i) ZA ZA ZA;exact Int.le_trans h1 (Int.le_of_lt this)
 ·obtain⟨i,hi,rfl⟩:=J3.1 hx;rw[Jbj];rw[Jaq]at hi;have h1:=h.hi ZA;have:=hp k (k+1+i) ZA ZA ZA;exact Int.lt_of_le_of_lt h1 this
theorem InsAt.new {k:Nat}(h:InsAt ns n k)(ha:ns.Pairwise (· < ·))(hn:∀(h:k<ns.length),ns[k]≠n) :
  (ns.take k++[n]++ns.drop k).Pairwise (· < ·)/\(∀x,x∈ns.take k++[n]++ns.drop k↔x=n\/x∈ns):=by
 obtain⟨h1,h2,h3⟩:=h.mem_of_asc ha;have h4:∀x∈ns.drop k,n<x:=by
  intro x hx;have hk:k<ns.length:=by
   rcases Jbo k ns.length with h|h
   ·exact h
   ·rw[List.drop_eq_nil_of_le h]at hx;simp at hx
  rw[J0 hk]at hx;rcases J6.1 hx with rfl|hx
  ·have:=h.hi hk;have:=hn hk;omega
  ·exact h3 x hx
 refine⟨?_,λx=>?_⟩
 ·rw[Jai,Jbb];refine⟨ha.sublist (List.take_sublist _ _),?_,λa BK b hb=>?_⟩
  ·rw[Ja7,Jbf];exact⟨h4,ha.sublist (List.drop_sublist _ _)⟩
  ·have:=h1 a BK;rcases Jj.1 hb with hb|hb
   ·simp at hb;subst hb;exact this
   ·have:=h2 b hb;omega
 ·conv=>rhs;rw[<-Jan k ns]
  simp only[Jj,Jb];constructor
  ·rintro ((h|h)|h)
   ·exact .inr (.inl h)
   ·exact .inl h
   ·exact .inr (.inr h)
  ·rintro (h|h|h)
   ·exact .inl (.inr h)
   ·exact .inl (.inl h)
   ·exact .inr h
theorem V8{l:List Nat}(h1:ns.Pairwise (· < ·))(h2:l.Pairwise (· < ·))(h:∀x,x∈ns↔∃y∈l,(y:Int)=x):ns=l.map Int.ofNat:=by
 have iV:∀x∈ns,0<=x:=λx hx=>by obtain⟨y,_,rfl⟩:=(h x).1 hx;omega
 have e:ns=(ns.map Int.toNat).map Int.ofNat:=by
  rw[Jbm]
  conv=>lhs;rw[<-Jbw ns]
  refine Jbc λx hx=>?_;have:=iV x hx;simp only[Function.comp_def,id];exact (Int.toNat_of_nonneg this).symm
 rw[e];congr 1;refine Hk ?_ h2 λx=>?_
 ·rw[Jbl];refine List.Pairwise.imp_of_mem (λ{a b} ha hb eP=>?_) h1;have:=iV a ha;have:=iV b hb;omega
 ·constructor
  ·intro hx;obtain⟨y,hy,rfl⟩:=Jt.1 hx;obtain⟨z,hz,rfl⟩:=(h y).1 hy;simpa using hz
  ·intro hx;exact Jt.2 ⟨(x:Int),(h x).2 ⟨x,hx,rfl⟩,ZC⟩
end Y
namespace Y
open Go.Proofs.Tryz
theorem OR {c:C}{v:Int}(hs:Slc H 1 (Qb ns) c)(bq:c.ai=false)(hK:∀r,IsIx ns v r->K (Uv r) H) :
  Qu prog LF [.c c,Uv v] H K:=by
 refine Qd Co Qa4q ?_;have aq:=eq_true hs.ok;have ak:=hs.len;have br:=hs.sz;have de:=hs.rows;refine Wi ?_;refine Qh (Qe (Qy (λm e1 H1=>∃(i:Nat),m=ns.length-i/\i<=ns.length/\H1=H/\v∉ns.take i/\e1=[(0,.c c),(1,Uv v),(5,Uv i)]) ns.length ?_ ?_))
 ·exact⟨0,ZA,ZA,rfl,ZC,rfl⟩
 ·rintro m e1 H1 ⟨i,hm,hi,rfl,b7,rfl⟩;refine Q1 (Qa ?_);simp only[go_sem,aq,ak,Qc];intro hl;simp only[LIM]at hl;refine Wt ?_ ?_
  ·intro hc;have af:i<ns.length:=ZD
   have b8:ns.getD i 0=ns[i]:=Zaj
   refine Wo ?_;simp only[go_sem,aq,ak,br,de,af,Qc,Qk _ _ af];refine Wu ?_ ?_
   ·intro aC;have hv:ns.getD i 0=v:=ZG;refine Za ?_;refine Zo ?_;exact hK _ (.inr ⟨i,rfl,af,hv,b7⟩)
   ·intro aC;have hv:¬ns.getD i 0=v:=ZG;refine Wl ?_;refine⟨Qv,ns.length-(i+1),ZA,i+1,rfl,ZA,?_,rfl⟩;rw[Jf af];simp only[Jj,Jb,not_or];exact⟨b7,λh=>hv (by rw[b8];exact h.symm)⟩
  ·intro hc;have bp:ns.length<=i:=ZD
   rw[Jc bp]at b7;refine Wh ?_;exact hK _ (.inl ⟨rfl,b7⟩)
theorem Pi{n:Int}(ha:ns.Pairwise (· < ·))(hL:ns.length+1<=2 ^ 38)
  (hK:∀(fl':Bool) (ns':List Int) (H':Heap),Upd H H' []->ns'.Pairwise (· < ·)->(∀x,x∈ns'↔x=n\/x∈ns)->ns'.length<=ns.length+1->K (.c (.sl fl' 1 (Qb ns'))) H') :
  Qu prog Q5s [.c (.sl fl 1 (Qb ns)),Uv n] H K:=by
 refine Q0 ?_;refine Qd Co Qaq7 ?_;have rest:∀i:Nat,InsAt ns n i->Cr prog Q3n (Q5 Cp (unK H K)) [(0,V.c (.sl fl 1 (Qb ns))),(1,Uv n),(5,Uv i)] H:=by
  intro i bu;have hile:=bu.le;refine Q1 (Qa ?_);have tail:∀e:Env,(∀(h:i<ns.length),ns[i]≠n)->lk 0 e=.c (.sl fl 1 (Qb ns))->lk 1 e=Uv n->lk 5 e=Uv i->Cr prog Q3m (Q5 Cp (unK H K)) e H:=by
   intro e be l0 l1 l5;obtain⟨q1,q2⟩:=bu.new ha be;have wb:List.take i (Qb ns)=Qb (ns.take i):=by simp[Qb,Jbs]
   have cQ:List.drop i (List.take ns.length (Qb ns))=Qb (ns.drop i):=by
    rw[Jc (by rw[Qc];exact Jh _)];simp[Qb,List.map_drop]
   refine Qa ?_;simp only[go_sem,l0,l5,Qc,wb];refine⟨ZA,?_⟩;refine⟨.inl trivial,Qr _,by simp only[LIM,Jv];omega,λz hz H1 h1=>?_⟩;have kn:Kn H H1 [] ([]++[(z,.vec 1 (Qb (ns.take i)))]):=(Kn.an H).al hz h1;simp only[go_sem,Qy5,l0,l1,l5];generalize ht6:C.ah z 1 0 (0+(List.take i ns).length)=t6;have ax:Gr [(z,.vec 1 (Qb (ns.take i)))] 1 (Qb (ns.take i)) t6:=by rw[<-ht6];exact .mk z 1 _ (by simp[Qc])
   have hw6:=ax.ai;refine Cv ?_;simp only[go_sem,Qc,cQ];refine⟨ZA,?_⟩;refine kn.bk (new:=Qb [n]) ax (.mk' _ _ _ _) (Qr _) (by simp only[Qc,LIM,Jv,Jr,Jq];omega) λt7 Lg H2 ax hw7 kn=>?_;simp only[go_sem,Qy7,Qc,cQ];refine⟨ZA,?_⟩;refine kn.bk (new:=Qb (ns.drop i)) ax (.mk' _ _ _ _) (Qr _) (by simp only[Qc,LIM,Jv,Jaq,Jr,Jq,Jay];omega) λt8 Lg H3 ax AX kn=>?_;simp only[go_sem,Qy6];refine Zf ?_;have e0:Qb (ns.take i)++Qb [n]++Qb (ns.drop i)=Qb (ns.take i++[n]++ns.drop i):=Zap
   rw[e0]at ax;refine⟨_,.c _ _ (ax.frz kn (Qr _)),hK _ _ _ kn.fin q1 q2 ?_⟩;simp;omega
  simp only[go_sem,Qc];by_cases af:i<ns.length
  ·have b8:ns.getD i 0=ns[i]:=Zaj
   simp only[go_sem,af,Qk _ _ af];intro _;refine Wt ?_ ?_
   ·intro aC;have he:ns[i]=n:=(by rw[<-b8];simpa[af]using aC);refine Za ?_;refine Zf ?_;refine⟨_,.c _ _ (Gt (noOw_mem (Qr _))),hK _ ns _ (Kn.an H).fin ha (λx=>⟨.inr,?_⟩) ZA⟩;rintro (rfl|h)
    ·rw[<-he];exact Je af
    ·exact h
   ·intro aC;have he:ns[i]≠n:=(by rw[<-b8];simpa[af]using aC);refine Ze ?_;exact tail _ (λ_=>he) rfl rfl rfl
  ·have zV:decide ((i:Int)<(ns.length:Int))=false:=ZF
   have cO:(Qb ns).getD i []=[]:=by rw[Ja,Js ZZ];rfl
   simp only[go_sem,zV,cO,cond_false];intro _;refine Wt ?_ ?_
   ·intro aC;simp at aC
   ·intro _;refine Ze ?_;exact tail _ (λh=>absurd h af) rfl rfl rfl
 refine Wd ?_;refine Qh (Qe (Qy (λm e1 H1=>∃(i:Nat),m=ns.length-i/\i<=ns.length/\H1=H/\(∀k,k<i->∀(h:k<ns.length),ns[k]<n)/\e1=[(0,.c (.sl fl 1 (Qb ns))),(1,Uv n),(5,Uv i)]) ns.length ?_ ?_))
 ·exact⟨0,ZA,ZA,rfl,λk hk=>ZA,rfl⟩
 ·rintro m e1 H1 ⟨i,hm,hi,rfl,rL,rfl⟩;refine Q1 (Qa ?_);by_cases af:i<ns.length
  ·have b8:ns.getD i 0=ns[i]:=Zaj
   simp only[go_sem,af,Qc,Qk _ _ af];intro _;refine Wt ?_ ?_
   ·intro hc;have hv:ns[i]<n:=(by rw[<-b8];simpa[af]using hc);refine Ze ?_;refine Qe (Qt ?_);simp only[go_sem,X.next];refine⟨Qv,ns.length-(i+1),ZA,i+1,rfl,ZA,λk hk h=>?_,rfl⟩;by_cases h':k<i
    ·exact rL k h' h
    ·have:k=i:=ZA;subst this;exact hv
   ·intro hc;have hv:¬ns[i]<n:=(by rw[<-b8];simpa[af]using hc);refine Zb ?_;exact rest i ⟨hi,rL,λ_=>ZA⟩
  ·have zV:decide ((i:Int)<(ns.length:Int))=false:=ZF
   have cO:(Qb ns).getD i []=[]:=by rw[Ja,Js ZZ];rfl
   simp only[go_sem,zV,cO,Qc,cond_false];intro _;refine Wt ?_ ?_
   ·intro aC;simp at aC
   ·intro _;refine Zb ?_;exact rest i ⟨hi,rL,λh=>absurd h af⟩
end Y
namespace Y
attribute [local instance] Classical.propDecidable
variable{n h:Nat}
theorem rchB_iff {a:Int}{x:Nat}:CF g a x=true↔Rch g (λz=>(z:Int)=a) 0 x:=by simp[CF]
theorem MA (b:Nat):CF g (b:Int) b=false:=by
 cases hc:CF g (b:Int) b with
 |false=>rfl
 |true=>exact absurd rfl (rchB_iff.1 hc).snd
theorem YX (b:Nat):Dd g b b=CF g (-1) b:=by simp[Dd,MA]
theorem Qa3e {b:Nat}(h:Dd g a b=true):CF g (-1) a=true/\CF g (-1) b=true:=by
 simp only[Dd,Jp]at h;exact⟨h.1.1,h.1.2⟩
end Y
namespace Y
open Go.Proofs.Tryz
structure GF (rows:List (List C))(nx:Nat->List Int):Prop where
 no:∀r∈rows,am r=true
 x:∀i,i<rows.length->∃a1 a2 a3 a4 fl,rows.getD i []=[a1,a2,a3,a4,.sl fl 1 (Qb (nx i))]
 n:rows.length<=10000
 m:∀i,i<rows.length->(nx i).length<=1000
theorem GF.grd {rows:List (List C)}{nx:Nat->List Int}(h:GF rows nx)(H:Heap)(fl:Bool):GRd H (.sl fl 5 rows) rows nx:=⟨.mk' _ _ _ _,rfl,h.no,h.x⟩
theorem Hx {q:CodeD}(h:q.gd):GF (Qo q.blocks) (gnx q):=by
 refine⟨(Fb (λ_=>.none) q false).no,(Fb (λ_=>.none) q false).x,by rw[Qn];have:=h.b1;omega,λi hi=>?_⟩;rw[Qn]at hi;have:gnx q i=q.blocks[i].next:=by simp[gnx,Ja,hi]
 rw[this];have:=h.n _ (Je hi);omega
noncomputable def inL (n:Nat)(g:Nat->List Nat):List Bool:=(List.range n).map (CF g (-1))
noncomputable def Ee (n:Nat)(g:Nat->List Nat)(a:Nat):List Bool:=(List.range n).map (Dd g a)
noncomputable def Dl (n:Nat)(g:Nat->List Nat)(k:Nat):List (List C):=(List.range k).map λa=>[.sl false 1 (Qx (Ee n g a))]
theorem PS (n:Nat)(f:Nat->Bool){i:Nat}(h:i<n):((List.range n).map f).getD i false=f i:=by simp[Ja,h]
theorem Gs {n:Nat}:(inL n g).length=n:=by simp[inL]
theorem GV {n:Nat}:(Ee n g a).length=n:=by simp[Ee]
theorem Iq {n:Nat}{k:Nat}:(Dl n g k).length=k:=by simp[Dl]
theorem L7 {n:Nat}{i:Nat}(h:i<n):(inL n g).getD i false=CF g (-1) i:=PS _ _ h
theorem Q5b {n:Nat}{i:Nat}(h:i<n):(Ee n g a).getD i false=Dd g a i:=PS _ _ h
theorem Q6n {n:Nat}{k:Nat}(h:a<k):(Dl n g k).getD a []=[.sl false 1 (Qx (Ee n g a))]:=by simp[Dl,Ja,h]
noncomputable def ysL (n:Nat)(g:Nat->List Nat)(ys:List Nat):List (Nat×Obj):=ys.zipIdx.map λx=>(x.1,.vec 1 (Qx (Ee n g x.2)))
def ysR (n:Nat)(ys:List Nat):List (List C):=ys.map λy=>[.ah y 1 0 n]
theorem Qa17 (n:Nat)(g:Nat->List Nat)(ys:List Nat)(y:Nat):ysL n g (ys++[y])=ysL n g ys++[(y,.vec 1 (Qx (Ee n g ys.length)))]:=by
 simp[ysL,List.zipIdx_append]
theorem Qa18 (n:Nat)(ys:List Nat)(y:Nat):ysR n (ys++[y])=ysR n ys++[[.ah y 1 0 n]]:=by simp[ysR]
theorem Qa56 (n:Nat)(ys:List Nat):(ysR n ys).length=ys.length:=by simp[ysR]
theorem Qa8g {S:Nat->Bool}{n:Nat}(ys:List Nat):∀(k:Nat),(∀p∈(ys.zipIdx k).map λx=>(x.1,Obj.vec 1 (Qx (Ee n g x.2))),H p.1=p.2/\S p.1=true)->
  FrzR H S (ysR n ys) ((List.range' k ys.length).map λa=>[.sl false 1 (Qx (Ee n g a))]):=by
 induction ys with
 |nil=>intro k _;exact .nil
 |cons y ys ih=>
  intro k h;rw[List.zipIdx_cons,Ju]at h;obtain⟨h1,h2⟩:=h _ Jo;simp only[Jq,List.range'_succ,Ju,ysR];refine .cons (.cons ((FrzR.same (P9 _)).ah h2 h1 (by rw[Q4,GV])) .nil) (ih (k+1) λp hp=>h p (Jm _ hp))
theorem Qa57 {S:Nat->Bool}{n:Nat}(ys:List Nat)(h:∀p∈ysL n g ys,H p.1=p.2/\S p.1=true):FrzR H S (ysR n ys) (Dl n g ys.length):=by
 have:=Qa8g (H:=H) (S:=S) (n:=n) (g:=g) ys 0 h;rw[<-List.range_eq_range']at this;exact this
theorem Qaim (n:Nat)(f:Nat->Bool){i:Nat}(h:i<n):((List.range i).map f++List.replicate (n-i) false).set i (f i)=(List.range (i+1)).map f++List.replicate (n-(i+1)) false:=by
 refine Jaj λj=>?_;have e:n-i=(n-(i+1))+1:=ZA
 rw[e,List.replicate_succ,Jav,Jw];rw[List.set_append];simp only[Jx,Jbk,Nat.lt_irrefl,if_false,Nat.sub_self,List.set_cons_zero,Ju,J5,Jai,Ja7]
end Y
namespace Y
variable{P:Program}{g:G}{w:World}
theorem Qa1u (hs:Sat H g w)(os:Array Go.Obj):∃g',Stp H g w H g' (Go.Sort.grow w os):=by
 obtain⟨l⟩:=os
 induction l generalizing g w with
 |nil=>exact⟨g,by rw[Go.Sort.grow_empty];exact .refl hs⟩
 |cons x l ih=>
  have h1:=Q0l hs x;obtain⟨g',h2⟩:=ih h1.sat;refine⟨g',?_⟩;have e:Go.Sort.grow w ⟨x::l⟩=Go.Sort.grow (w.alloc x) ⟨l⟩:=by
   rw[Go.Sort.alloc_eq_grow,Go.Sort.grow_grow];congr 1;simp
  rw[e];exact h1.trans h2
theorem X2 {b off:Nat}{cs:Array Value}{T:TypeId}{d:Array Int}(h:w.heap[b]? = some (.cells cs T (0,0))) :
  Go.Sort.putRow (Value.int .i64) w b off d=World.aB w b (Go.Sort.putCells (Value.int .i64) off d cs) T:=by
 simp only[Go.Sort.putRow,Go.Sort.mapBlock,World.aB];congr 1;apply Array.ext_getElem?;intro i;simp only[Array.getElem?_modify];by_cases hi:b=i
 ·subst hi;have af:b<w.heap.size:=G3 h;rw[if_pos rfl,h];simp[af,Go.Sort.onCells]
 ·rw[if_neg hi,Array.getElem?_setIfInBounds_ne hi]
theorem Qap0(hf:fnOk P f=true)
  (hc:∀(blk off cap:Nat) (zs:List Int) (w:World),Go.Sort.Holds (Value.int .i64) w blk off zs.toArray->blk<w.heap.size->zs.length<4611686018427387904->
   Calls P f #[.slice (some ⟨blk,off,none⟩) zs.length cap] w λe w'=>
    e=.returned (.tuple #[])/\∃n os,w'=Go.Sort.grow (Go.Sort.putRow (Value.int .i64) (Go.Sort.ahead w n) blk off (zs.mergeSort λx y=>decide (x<=y)).toArray) os)
  {n:Nat} {K:V->Heap->Prop} (hz:H z=.vec 1 (Qb ns)) (hn:n=ns.length) (h0:0<n)
  (hK:∀H',Upd H H' [(z,.vec 1 (Qb (ns.mergeSort λx y=>decide (x<=y))))]->K (.tup []) H'):Qu P f [.c (.ah z 1 0 n)] H K:=by
 refine⟨hf,λg w vs hs hl hv=>?_⟩;obtain⟨v,rfl⟩:∃v,vs=[v]:=by
  match vs,hl with
  |[v],_=>exact⟨v,rfl⟩
 have hr:=hv 0 _ v rfl rfl;have ho:=hs.objs z;rw[hz]at ho
 cases hr with
 |c _ _ hr=>
  cases hr with
  |bO=>omega
  |ah l sz st n cap b base T m bK wq iU hm=>
   obtain⟨b',base',T',cs,val,rV,jZ,bU,br,ev,aD,cj,dA⟩:=SatVec.of ho bK;rw[bK]at rV;simp only[Jaz,Prod.mk.injEq,true_and]at rV;obtain⟨rfl,rfl⟩:=rV;have af:=G3 bU;rw[Qc]at br ev;have gJ:∀j (hj:j<ns.length),cs[base+j]? = some (.int .i64 ns[j]):=by
    intro j hj;have h1:(Qb ns)[j]? = some [.int .i64 ns[j]]:=(by simp[Qb,hj]);have h2:=cj j _ 0 _ h1 rfl;have h3:=dA j _ 0 _ h1 rfl;have h4:val j 0=.int .i64 ns[j]:=by
     exact (λvv (h:RepC w g (.int .i64 ns[j]) vv)=>by cases h;rfl:∀vv,RepC w g (.int .i64 ns[j]) vv->vv=.int .i64 ns[j]) _ (h3.toC rfl)
    simpa[h4]using h2
   have hH:Go.Sort.Holds (Value.int .i64) w b base ns.toArray:=by
    intro j hj;have bE:j<ns.length:=ZS;refine⟨?_,?_⟩
    ·rw[FJ bU,gJ j bE];simp[getElem!_pos,bE]
    ·simp[World.frozen?,bU]
   subst hn;simp only[Nat.zero_mul,Jbt];refine (hc b base cap ns w hH af (by simp only[LIM]at ev;omega)).mono λe w'=>?_;rintro⟨rfl,nn,os,rfl⟩;have s1:Stp H g w H g (Go.Sort.ahead w nn):=My hs (w.drawn+nn);have qs:(Go.Sort.ahead w nn).heap[b]? = some (.cells cs T' (0,0)):=bU;have zS:∀i (c:C),((Qb (ns.mergeSort λx y=>decide (x<=y)))[i]? = some [c])->∃x:Int,c=.int .i64 x/\(Go.Sort.putCells (Value.int .i64) base (ns.mergeSort λx y=>decide (x<=y)).toArray cs)[base+i]? = some (.int .i64 x):=by
    intro i c hi;have ak:(ns.mergeSort λx y=>decide (x<=y)).length=ns.length:=List.length_mergeSort _;have cK:i<(ns.mergeSort λx y=>decide (x<=y)).length:=by
     rcases Jbo i (ns.mergeSort λx y=>decide (x<=y)).length with h|h
     ·exact h
     ·rw[Js (by rw[Qc];exact h)]at hi;simp at hi
    refine⟨(ns.mergeSort λx y=>decide (x<=y))[i],?_,?_⟩
    ·simp only[Qb,Jak,Jd cK,Ja8,Jaz,List.cons.injEq,and_true]at hi;exact hi.symm
    ·simp only[Go.Sort.putCells,Array.getElem?_mapIdx];rw[Array.getElem?_eq_getElem ZA];simp only[Ja8,Jaz];rw[if_pos ⟨ZA,by simp only[List.size_toArray];omega⟩];congr 1;simp[getElem!_pos];rw[Jd cK];rfl
   have s2:=IB s1.sat jZ qs (cs':=Go.Sort.putCells (Value.int .i64) base (ns.mergeSort λx y=>decide (x<=y)).toArray cs) (by simp[Go.Sort.putCells])
    (.vec 1 (Qb (ns.mergeSort λx y=>decide (x<=y)))) Zbk (λaS cC=>.inr ⟨b,base,T',_,λi _=>.int .i64 ((ns.mergeSort λx y=>decide (x<=y)).getD i 0),bK,jZ,cC,by
      rw[Qc,List.length_mergeSort];simp[Go.Sort.putCells];omega,by rw[Qc,List.length_mergeSort];exact ev,λi row hi=>by
       simp only[Qb,Jak,Option.map_eq_some_iff]at hi;obtain⟨x,_,rfl⟩:=hi;rfl,λi row j c hi hj=>by
       have bZ:=hi;simp only[Qb,Jak,Option.map_eq_some_iff]at bZ;obtain⟨y,hy,rfl⟩:=bZ;have lM:j=0:=by
        rcases Jbh j with h|h
        ·exact h
        ·rw[Js ZF]at hj;simp at hj
       subst lM;obtain⟨x,hx,he⟩:=zS i _ hi;simp only[C.int.injEq,true_and]at hx;subst hx;simp only[Nat.mul_one,Jbt];rw[he,Ja,hy];rfl,λi row j c hi hj=>by
       have bZ:=hi;simp only[Qb,Jak,Option.map_eq_some_iff]at bZ;obtain⟨y,hy,rfl⟩:=bZ;have lM:j=0:=by
        rcases Jbh j with h|h
        ·exact h
        ·rw[Js ZF]at hj;simp at hj
       subst lM;simp at hj;subst hj;show RepO _ _ _ _ _ (Value.int .i64 ((ns.mergeSort λx y=>decide (x<=y)).getD i 0));rw[Ja,hy];exact .plain _ _ _ _ (.int _ _)⟩) ZC
   rw[<-X2 qs]at s2;obtain⟨g',s3⟩:=Qa1u s2.sat os;refine .inl ⟨.tuple #[],.tup [],_,g',rfl,hK _ ⟨by simp[Heap.aF],λm _ hm=>Heap.aj _ _ ZaX⟩,s1.trans (s2.trans s3),?_⟩;exact .tup [] [] rfl ZC
theorem Qash(hf:fnOk P f=true){k:IntKind}{x r:Int}(hc:∀w,Calls P f #[.int k x] w λe w'=>e=.returned (.int .i64 r)/\w'=w){K:V->Heap->Prop}(hK:K (.c (.int .i64 r)) H) :
  Qu P f [.c (.int k x)] H K:=by
 refine⟨hf,λg w vs hs hl hv=>?_⟩;obtain⟨v,rfl⟩:∃v,vs=[v]:=by
  match vs,hl with
  |[v],_=>exact⟨v,rfl⟩
 have hr:=hv 0 _ v rfl rfl
 cases hr with
 |c _ _ hr=>
  cases hr;refine (hc w).mono λe w'=>?_;rintro⟨rfl,rfl⟩;exact .inl ⟨_,_,H,g,rfl,hK,.refl hs,.c _ _ (.int _ _)⟩
end Y
namespace Y
structure Cmp (ns R:List Int)(k j:Nat):Prop where
 len:R.length=ns.length
 kj:k<j
 jn:j<=ns.length
 asc:(R.take k).Pairwise (· < ·)
 mem:∀x,x∈R.take k↔x∈ns.take j
 same:∀i,j<=i+1->R.getD i 0=ns.getD i 0
variable{R:List Int}{k j:Nat}
theorem take_mem {l:List Int}{x:Int}:x∈l.take j↔∃i,i<j/\i<l.length/\l.getD i 0=x:=by
 constructor
 ·intro h;obtain⟨i,hi,rfl⟩:=J3.1 h;rw[Jv]at hi;refine⟨i,ZA,ZA,?_⟩;rw[Jae,Ja,Jd ZA];rfl
 ·rintro⟨i,h1,h2,rfl⟩;rw[Ja,Jd h2];exact J3.2 ⟨i,by rw[Jv];omega,by rw[Jae];rfl⟩
theorem I8(h:ns.Pairwise (·<=·)){b:Nat}(eP:a<=b)(hb:b<ns.length):ns.getD a 0<=ns.getD b 0:=by
 rcases Jbo a b with h1|h1
 ·have:=J8.1 h a b ZA hb h1;simpa[Ja,hb,show a<ns.length by omega]using this
 ·have:a=b:=ZA
  subst this;exact Int.le_refl _
theorem Cmp.start (hs:ns.Pairwise (·<=·))(iI:0<k)(hk:k<ns.length)(be:∀i,0<i->i<k->ns.getD i 0≠ns.getD (i-1) 0)(he:ns.getD k 0=ns.getD (k-1) 0):Cmp ns ns k (k+1):=by
 refine⟨rfl,ZA,ZA,?_,λx=>?_,λi _=>rfl⟩
 ·rw[J8];intro a b ha hb eP;rw[Jv]at ha hb;rw[Jae,Jae];have h1:=I8 hs (a:=a) (b:=b-1) ZA ZA;have h2:=I8 hs (a:=b-1) (b:=b) ZA ZA;have h3:=be b ZA ZA;have e1:ns.getD a 0=ns[a]:=by simp[Ja,show a<ns.length by omega]
  have e2:ns.getD b 0=ns[b]:=by simp[Ja,show b<ns.length by omega]
  rw[e1]at h1;rw[e2]at h2 h3;omega
 ·rw[take_mem,take_mem];constructor
  ·rintro⟨i,h1,h2,h3⟩;exact⟨i,ZA,h2,h3⟩
  ·rintro⟨i,h1,h2,h3⟩;by_cases h:i<k
   ·exact⟨i,h,h2,h3⟩
   ·have:i=k:=ZA;subst this;exact⟨i-1,ZA,ZA,by rw[<-he];exact h3⟩
theorem Cmp.eq (c:Cmp ns R k j)(hj:j<ns.length)(he:ns.getD j 0=ns.getD (j-1) 0):Cmp ns R k (j+1):=by
 have:=c.kj;refine⟨c.len,ZA,ZA,c.asc,λx=>?_,λi hi=>c.same i ZA⟩;rw[c.mem,take_mem,take_mem];constructor
 ·rintro⟨i,h1,h2,h3⟩;exact⟨i,ZA,h2,h3⟩
 ·rintro⟨i,h1,h2,h3⟩;by_cases h:i<j
  ·exact⟨i,h,h2,h3⟩
  ·have:i=j:=ZA
   subst this;exact⟨i-1,ZA,ZA,by rw[<-he];exact h3⟩
theorem Cmp.ne (c:Cmp ns R k j)(hs:ns.Pairwise (·<=·))(hj:j<ns.length)(he:ns.getD j 0≠ns.getD (j-1) 0):Cmp ns (R.set k (ns.getD j 0)) (k+1) (j+1):=by
 have hkj:=c.kj;have cz:k<R.length:=by rw[c.len];omega
 have bQ:(R.set k (ns.getD j 0)).take (k+1)=R.take k++[ns.getD j 0]:=by
  rw[Jf (by rw[Ji];exact cz),Ja6];congr 1;rw[List.take_set_of_le (Jh _)]
 refine⟨by rw[Ji];exact c.len,ZA,ZA,?_,λx=>?_,λi hi=>?_⟩
 ·rw[bQ,Jbb];refine⟨c.asc,ZC,λa ha b hb=>?_⟩;simp at hb;subst hb;obtain⟨i,h1,h2,rfl⟩:=take_mem.1 ((c.mem a).1 ha);have h3:=I8 hs (a:=i) (b:=j-1) ZA ZA;have h4:=I8 hs (a:=j-1) (b:=j) ZA hj;simp only[Ja]at *;omega
 ·rw[bQ,Jj,c.mem,take_mem,take_mem];simp only[Jb];constructor
  ·rintro (⟨i,h1,h2,h3⟩|rfl)
   ·exact⟨i,ZA,h2,h3⟩
   ·exact⟨j,ZA,hj,rfl⟩
  ·rintro⟨i,h1,h2,h3⟩;by_cases h:i<j
   ·exact .inl ⟨i,h,h2,h3⟩
   ·have:i=j:=ZA;subst this;exact .inr h3.symm
 ·have:k≠i:=ZA
  rw[<-c.same i ZA];simp[Ja,this]
theorem MY (hs:ns.Pairwise (·<=·))(be:∀i,0<i->i<ns.length->ns.getD i 0≠ns.getD (i-1) 0):ns.Pairwise (· < ·):=by
 rw[J8];intro a b ha hb eP;have h1:=I8 hs (a:=a) (b:=b-1) ZA ZA;have h2:=I8 hs (a:=b-1) (b:=b) ZA ZA;have h3:=be b ZA ZA;have e1:ns.getD a 0=ns[a]:=by simp[Ja,ha]
 have e2:ns.getD b 0=ns[b]:=by simp[Ja,hb]
 rw[e1]at h1;rw[e2]at h2 h3;omega
def srt (ns:List Int):List Int:=ns.mergeSort λx y=>decide (x<=y)
theorem Hq (ns:List Int):(srt ns).length=ns.length:=List.length_mergeSort _
theorem Qa5o (ns:List Int)(x:Int):x∈srt ns↔x∈ns:=(List.mergeSort_perm ns _).mem_iff
theorem Qar5 (ns:List Int):(srt ns).Pairwise (·<=·):=by
 have:=List.pairwise_mergeSort (le:=λx y:Int=>decide (x<=y)) (by simp only[decide_eq_true_eq];omega) (by simp only[Bool.or_eq_true,decide_eq_true_eq];omega) ns;exact this.imp ZC
end Y
end Go.AE
namespace Go.Proofs
open Go.Shelf
def Tryz.lays189_ren:Go.Shelf.Ren:=⟨fun|189=>109|125=>165|257=>164|128=>203|129=>204|294=>194|295=>195|296=>196|297=>197|298=>198|299=>199|216=>200|300=>201|301=>202|328=>230|329=>231|330=>232|331=>233|332=>234|215=>235|343=>245|n=>n,fun|28=>32|3=>3|46=>161|0=>0|51=>212|53=>214|4=>4|183=>205|182=>204|131=>133|5=>5|9=>9|218=>239|222=>162|228=>251|229=>248|n=>n,fun|n=>n⟩
theorem Tryz.lays189:Go.Proofs.Lays.n189 Tryz.prog Tryz.lays189_ren:={
 mixed:=by kernel_rfl
 f125:=Tryz.func165.trans (congrArg some (by kernel_rfl))
 f128:=Tryz.func203.trans (congrArg some (by kernel_rfl))
 f129:=Tryz.func204.trans (congrArg some (by kernel_rfl))
 f189:=Tryz.func109.trans (congrArg some (by kernel_rfl))
 f215:=Tryz.func235.trans (congrArg some (by kernel_rfl))
 f216:=Tryz.func200.trans (congrArg some (by kernel_rfl))
 f257:=Tryz.func164.trans (congrArg some (by kernel_rfl))
 f294:=Tryz.func194.trans (congrArg some (by kernel_rfl))
 f295:=Tryz.func195.trans (congrArg some (by kernel_rfl))
 f296:=Tryz.func196.trans (congrArg some (by kernel_rfl))
 f297:=Tryz.func197.trans (congrArg some (by kernel_rfl))
 f298:=Tryz.func198.trans (congrArg some (by kernel_rfl))
 f299:=Tryz.func199.trans (congrArg some (by kernel_rfl))
 f300:=Tryz.func201.trans (congrArg some (by kernel_rfl))
 f301:=Tryz.func202.trans (congrArg some (by kernel_rfl))
 f328:=Tryz.func230.trans (congrArg some (by kernel_rfl))
 f329:=Tryz.func231.trans (congrArg some (by kernel_rfl))
 f330:=Tryz.func232.trans (congrArg some (by kernel_rfl))
 f331:=Tryz.func233.trans (congrArg some (by kernel_rfl))
 f332:=Tryz.func234.trans (congrArg some (by kernel_rfl))
 f343:=Tryz.func245.trans (congrArg some (by kernel_rfl))
 t0:=Tryz.underlying0
 a0:=Tryz.isAgg0
 z0:=Tryz.sizeOf0
 v0:=Tryz.zeroValue0
 t3:=Tryz.underlying3
 a3:=Tryz.isAgg3
 z3:=Tryz.sizeOf3
 v3:=Tryz.zeroValue3
 t4:=Tryz.underlying4
 a4:=Tryz.isAgg4
 z4:=Tryz.sizeOf4
 v4:=Tryz.zeroValue4
 t5:=Tryz.underlying5
 a5:=Tryz.isAgg5
 z5:=Tryz.sizeOf5
 v5:=Tryz.zeroValue5
 t9:=Tryz.underlying9
 a9:=Tryz.isAgg9
 z9:=Tryz.sizeOf9
 v9:=Tryz.zeroValue9
 t28:=Tryz.underlying32
 a28:=Tryz.isAgg32
 z28:=Tryz.sizeOf32
 v28:=Tryz.zeroValue32
 t46:=Tryz.underlying161
 a46:=Tryz.isAgg161
 z46:=Tryz.sizeOf161
 v46:=Tryz.zeroValue161
 t51:=Tryz.underlying212
 a51:=Tryz.isAgg212
 z51:=Tryz.sizeOf212
 v51:=Tryz.zeroValue212
 t53:=Tryz.underlying214
 a53:=Tryz.isAgg214
 z53:=Tryz.sizeOf214
 v53:=Tryz.zeroValue214
 t131:=Tryz.underlying133
 a131:=Tryz.isAgg133
 z131:=Tryz.sizeOf133
 v131:=Tryz.zeroValue133
 t182:=Tryz.underlying204
 a182:=Tryz.isAgg204
 z182:=Tryz.sizeOf204
 v182:=Tryz.zeroValue204
 t183:=Tryz.underlying205
 a183:=Tryz.isAgg205
 z183:=Tryz.sizeOf205
 v183:=Tryz.zeroValue205
 t218:=Tryz.underlying239
 a218:=Tryz.isAgg239
 z218:=Tryz.sizeOf239
 v218:=Tryz.zeroValue239
 t222:=Tryz.underlying162
 a222:=Tryz.isAgg162
 z222:=Tryz.sizeOf162
 v222:=Tryz.zeroValue162
 t228:=Tryz.underlying251
 a228:=Tryz.isAgg251
 z228:=Tryz.sizeOf251
 v228:=Tryz.zeroValue251
 t229:=Tryz.underlying248
 a229:=Tryz.isAgg248
 z229:=Tryz.sizeOf248
 v229:=Tryz.zeroValue248 }
end Go.Proofs
namespace Go.AE
variable{H H0:Heap}{K:Uk}{E:Ul}{ns ids:List Int}{fl:Bool}{bc:C}{S bs:List Bool}{a x5 R:Nat}{g:Nat->List Nat}{A:Nat->Prop}{x:Nat×List Bool}{α:Type}{cs:List Y.CodeD}{caps:List C}{p:Y.InsD->Bool}{zs:List (Nat×List Bool)}
namespace Y
open Go.Proofs.Tryz
variable{B Lg:Ul}
theorem Qasm {x:Int}(h0:0<=x)(h1:x<=18446744073709551615)(hK:∀n:Int,K (Uv n) H):Qu prog Qalm [.c (.int .u64 x)] H K:=
 Qash ZE (λw=>calls_of_every_depth λD=>Go.Proofs.AnyS.bits_LenIn (ρ:=lays189_ren) { lays189 with } D x w h0 h1) (hK _)
theorem Qa6x {c:C}(bq:c.ai=false)(hK:K (.tup []) H):Qu prog Qc4 [.c c,Uv 0,Uv 0] H K:=by
 refine Qd Co Qjw ?_;refine Za ?_;refine⟨Qv,?_⟩;refine Qe (Qy (λm e1 H1=>H1=H/\e1=[(0,.c c),(1,Uv 0),(2,Uv 0),(6,Uv 1)]) 0 ⟨rfl,rfl⟩ ?_);rintro m e1 H1 ⟨rfl,rfl⟩;refine Wa ?_;refine Qh (Qf rfl (λh=>ZH) λ_=>?_);refine Qw ?_;simp only[go_sem,X.next,Q5,Cn,CQ,Jar];exact⟨λ_=>trivial,hK⟩
theorem Qa7l {c:C}{l:Int}(bq:c.ai=false)(hK:K (.tup []) H):Qu prog Qgh [.c c,Uv 0,Uv 0,Uv l] H K:=by
 refine Qd Co Qvs ?_;refine Wd ?_;refine Qe (Qy (λm e1 H1=>H1=H/\e1=[(0,.c c),(1,Uv 0),(2,Uv 0),(3,Uv l),(8,.c (.bool true)),(9,.c (.bool true))]) 0 ⟨rfl,rfl⟩ ?_);rintro m e1 H1 ⟨rfl,rfl⟩;refine Wr ?_;refine⟨Qv,?_⟩;refine Wa ?_;refine Qh (Qf rfl (λ_=>?_) (λh=>ZH));refine Za ?_;refine Qa6x bq ?_;simp only[HU];refine Ql ?_;simp only[go_sem,X.next,Q5,Cn,CQ,Jar];exact⟨λ_=>trivial,hK⟩
theorem Qa2x {c:C}(aq:aZ H c)(hl:ay c=0)(bq:c.ai=false)(hK:K (.tup []) H):Qu prog R6 [.c c] H K:=by
 have aq:=eq_true aq;refine Qd Co XH ?_;refine Zl aq hl ?_;have e0:((0:Nat):Int)=0:=rfl;refine Qt ?_;simp only[go_sem,e0];refine⟨⟨ZN,ZN⟩,?_⟩;refine Qasm ZA ZA λn=>?_;simp only[go_sem,Q3z];refine Qa7l bq ?_;simp only[go_sem,Q5,Cn,CQ,Jar];exact⟨λ_=>trivial,hK⟩
theorem Qa6d {c:C}(kn:Kn H0 H E (B++Lg))(ax:Gr Lg 1 (Qb ns) c)
  (hK:∀Lg' H',Gr Lg' 1 (Qb (srt ns)) c->Kn H0 H' E (B++Lg')->K (.tup []) H'):Qu prog R6 [.c c] H K:=by
 by_cases h0:ns=[]
 ·subst h0;refine Qa2x (ax.aZ kn) (by rw[ax.ay];rfl) ax.ai (hK Lg H ?_ kn);have:srt []=[]:=by simp[srt]
  rw[this];exact ax
 ·rcases ax with ⟨_,h,_⟩|⟨y,rfl,rfl⟩
  ·cases ns with
   |nil=>exact absurd rfl h0
   |cons a b=>simp[Qb]at h
  ·have hy:=kn.l B.length (l:=y) (o:=.vec 1 (Qb ns)) ZC;have mL:0<ns.length:=List.length_pos_iff.2 h0;refine Qap0 ZE (λblk off cap zs w h1 h2 h3=>Go.Proofs.Any.slices_Sort_int lays189 blk off cap zs w h1 h2 h3) hy (by rw[Qc]) (by rw[Qc];exact mL) λH' hu=>?_;refine hK [(y,.vec 1 (Qb (srt ns)))] H' (.inr ⟨y,by rw[Qc,Qc,Hq],rfl⟩) ?_;have:=kn.callL B.length (l:=y) (o:=.vec 1 (Qb ns)) ZC hu ZC;simpa[srt]using this
def Qa8w (ks:List Nat):List (C×V):=ks.map λk:Nat=>(.int .i64 (k:Int),.c (.bool true))
def Gw (Lg:List (Nat×Obj))(sz:Nat)(rows:List (List C))(c:C):Prop:=
 (c=.sl true sz []/\rows=[]/\Lg=[])\/∃y R,c=.ah y sz 0 rows.length/\Lg=[(y,.vec sz R)]/\R.take rows.length=rows
end Y
section
open Go.AE.Y
open Go.Proofs.Tryz
variable{B Lg:Ul}
theorem Gr.gw {sz:Nat}{rows:List (List C)}{c:C}(h:Gr Lg sz rows c):Gw Lg sz rows c:=by
 rcases h with h|⟨y,h1,h2⟩
 ·exact .inl h
 ·exact .inr ⟨y,rows,h1,h2,Jbp⟩
end
namespace Y
open Go.Proofs.Tryz
variable{B Lg:Ul}
theorem Gw.ai {sz:Nat}{rows:List (List C)}{c:C}(h:Gw Lg sz rows c):c.ai=false:=by rcases h with ⟨rfl,_⟩|⟨y,R,rfl,_⟩ <;> rfl
theorem Gw.frz{c:C}(h:Gw Lg 1 (Qb ns) c)(kn:Kn H0 H E (B++Lg)):FrzC H (un H0) c (.sl false 1 (Qb ns)):=by
 rcases h with ⟨rfl,h2,_⟩|⟨y,R,rfl,rfl,hR⟩
 ·rw[h2];exact FrzR.nil.sl
 ·have aS:(Qb ns).length<=R.length:=by
   have:=congrArg List.length hR;rw[Jv]at this;omega
  have h:=FrzR.same (H:=H) (S:=un H0) (Qr ns);exact .ah y 1 0 _ R (Qb ns) (Qb ns) (Ef (kn.loc (y,.vec 1 R) ZC)) (kn.get (y,.vec 1 R) ZC).1 ZA (by simpa using hR.symm) h.spec.1 (λi r r' h1 h2=>(h.spec.2 i r r' h1 h2).spec.1) λi r r' j c c' h1 h2 h3 h4=>(h.spec.2 i r r' h1 h2).spec.2 j c c' h3 h4
theorem Il{L:Ul}(kn:Kn H0 H E L)(hl:ns.length<=LIM)(hK:∀t Lg H',Gr Lg 1 (Qb ns) t->t.ai=false->Kn H0 H' E (L++Lg)->K (.c t) H') :
  Qu prog Q5t [.c (.sl fl 1 (Qb ns))] H K:=by
 refine Qd Co Qaq8 ?_;refine Wi ?_;intro b hb;refine Wt ?_ ?_
 ·intro pf;have hn:=hb pf;refine Za ?_;refine Zf ?_;refine hK _ [] H ?_ rfl ZL;rw[hn];exact .nil 1
 ·intro th;refine Ze ?_;refine Qa ?_;simp only[go_sem,Qc];refine⟨.inl trivial,Qr _,ZA,λz hz H1 h1=>?_⟩;have kn:=kn.al hz h1;simp only[go_sem,Qy9];refine Zf ?_;exact hK _ _ H1 (.mk z 1 _ ZZ) rfl kn
theorem G7 (ns:List Int)(i:Nat)(x:Int):(Qb ns).set i [Ui x]=Qb (ns.set i x):=by simp[Qb,Jac]
theorem Qalr (ns:List Int)(k:Nat):(Qb ns).take k=Qb (ns.take k):=by simp[Qb,Jbs]
theorem Qasa {c:C}(kn:Kn H0 H E (B++Lg))(ax:Gr Lg 1 (Qb ns) c)(hs:ns.Pairwise (·<=·))(hL:ns.length<=2 ^ 38)
  (hK:∀t Lg' ns' H',Gw Lg' 1 (Qb ns') t->t.ai=false->Kn H0 H' E (B++Lg')->ns'.Pairwise (· < ·)->(∀x,x∈ns'↔x∈ns)->ns'.length<=ns.length->K (.c t) H') :
  Qu prog Qw3 [.c c] H K:=by
 have bq:=ax.ai;have aq:=eq_true (ax.aZ kn);have ak:=ax.ay;have de:=ax.rowsOf kn;have br:=ax.aQ;refine Qd Co Qail ?_;refine Wg ?_;simp only[go_sem,aq,ak,Qc];intro _;refine Wt ?_ ?_
 ·intro hc;have h2:ns.length<2:=by have:=of_decide_eq_true hc;omega
  refine Za ?_;refine Zf ?_;exact hK c Lg ns H ax.gw bq kn (MY hs λi h0 hi=>ZA) (λ_=>Jbv) (Jh _)
 ·intro hc;have h2:2<=ns.length:=by have:=of_decide_eq_false hc;omega
  obtain⟨z,rfl,rfl⟩:∃z,c=.ah z 1 0 ns.length/\Lg=[(z,.vec 1 (Qb ns))]:=by
   rcases ax with ⟨_,h,_⟩|⟨y,h1,h2⟩
   ·have:ns.length=0:=(by rw[<-Qc,h];rfl);omega
   ·exact⟨y,by rw[h1,Qc],h2⟩
  have hz:=kn.l B.length (l:=z) (o:=.vec 1 (Qb ns)) ZC;refine Ze ?_;refine Wa ?_;refine Qh (Qe (Qy (λm e1 H1=>∃(k:Nat),m=ns.length-k/\0<k/\k<=ns.length/\H1=H/\(∀i,0<i->i<k->ns.getD i 0≠ns.getD (i-1) 0)/\e1=[(0,.c (.ah z 1 0 ns.length)),(3,Uv k)]) (ns.length-1) ?_ ?_))
  ·exact⟨1,rfl,ZA,ZA,rfl,λi h0 h1=>ZA,rfl⟩
  ·rintro m e1 H1 ⟨k,hm,iI,hk,rfl,be,rfl⟩;refine Q1 (Qa ?_);simp only[go_sem,hz,Qc,Jk,Jh];intro ev;simp only[LIM]at ev;refine Wt ?_ ?_
   ·intro aC;have af:k<ns.length:=ZG;have oN:k-1<ns.length:=ZA;have e1:((k:Int)-1)=((k-1:Nat):Int):=ZA;have bQ:(Qb ns).take ns.length=Qb ns:=Jc (by rw[Qc];exact Jh _);refine Wm ?_;refine Cv ?_;simp only[go_sem,hz,e1,af,oN,bQ,Qc,Qk _ _ af,Qk _ _ oN,Jk,Jh];refine⟨Qv,?_⟩;refine Wu ?_ ?_
    ·intro bv;have iM:ns.getD k 0=ns.getD (k-1) 0:=ZT;refine Qa ?_;simp only[go_sem,hz,Qc,Jk,Jh];refine⟨ZA,?_⟩;refine Wa ?_;refine Qh (Qe (Qy (λm e1 H2=>∃(j kk:Nat) (R:List Int),m=ns.length-j/\k<j/\j<=ns.length/\Cmp ns R kk j/\Kn H0 H2 E (B++[(z,.vec 1 (Qb R))])/\
      e1=[(0,.c (.ah z 1 0 ns.length)),(3,Uv kk),(4,.c (.ah z 1 k (ns.length-k))),(5,Uv ((j-k:Nat):Int))]) (ns.length-(k+1)) ?_ ?_))
     ·refine⟨k+1,k,ns,rfl,ZA,ZA,.start hs iI af be iM,kn,?_⟩;have:k+1-k=1:=ZA;rw[this];rfl
     ·rintro m2 e1 H2 ⟨j,kk,R,fz,hkj,hj,kH,kn,rfl⟩;have hz:=kn.l B.length (l:=z) (o:=.vec 1 (Qb R)) ZC;have fF:=kH.len;have hkkj:=kH.kj;refine Q1 (Qa ?_);have e3:k+(ns.length-k)=ns.length:=ZA;simp only[go_sem,hz,Qc,fF,e3,Jh];intro _;refine Wt ?_ ?_
      ·intro dz;have dU:j<ns.length:=(by have:=of_decide_eq_true dz;omega);have hjR:j<R.length:=ZA;have zv:j-1<R.length:=ZA;have qi:j-k<ns.length-k:=ZA;have uR:j-k-1<ns.length-k:=ZA;have e4:(((j-k:Nat):Int)-1)=((j-k-1:Nat):Int):=ZA;have cN:(((Qb R).drop k).take (ns.length-k)).getD (j-k) []=[Ui (ns.getD j 0)]:=by
        rw[<-kH.same j ZA,<-Qk _ _ hjR];simp only[Ja,Jbe,Jbd];rw[if_pos qi];have:k+(j-k)=j:=ZA;rw[this]
       have eE:(((Qb R).drop k).take (ns.length-k)).getD (j-k-1) []=[Ui (ns.getD (j-1) 0)]:=by
        rw[<-kH.same (j-1) ZA,<-Qk _ _ zv];simp only[Ja,Jbe,Jbd];rw[if_pos uR];have:k+(j-k-1)=j-1:=ZA;rw[this]
       refine Ze ?_;refine CN (λe2 H3=>∃(kk:Nat) (R:List Int),Cmp ns R kk (j+1)/\Kn H0 H3 E (B++[(z,.vec 1 (Qb R))])/\
        lk 0 e2=.c (.ah z 1 0 ns.length)/\lk 3 e2=Uv kk/\lk 4 e2=.c (.ah z 1 k (ns.length-k))/\lk 5 e2=Uv ((j-k:Nat):Int)) ?_ ?_
       ·intro Q bS _ _;refine Qe (Cv ?_);simp only[go_sem,hz,e3,e4,cN,eE,qi,uR,Qc,fF,Jh];refine⟨Qv,?_⟩;refine Wu ?_ ?_
        ·intro fw;have yL:ns.getD j 0≠ns.getD (j-1) 0:=ZaI;have uO:kk<ns.length:=ZA;have zk:kk<R.length:=ZA;have bQ:(Qb R).take ns.length=Qb R:=Jc ZZ;refine Qa ?_;simp only[go_sem,hz,e3,cN,qi,uO,Qk _ _ zk,G7,Qc,fF,Jk,Jh];intro H3 h3;have kn3:=kn.az B.length (x:=z) (o:=.vec 1 (Qb R)) ZC h3;have kn:Kn H0 H3 E (B++[(z,.vec 1 (Qb (R.set kk (ns.getD j 0))))]):=(by simpa using kn3);refine Zh ?_;refine⟨Qv,?_⟩;exact bS _ _ ⟨kk+1,_,kH.ne hs dU yL,kn,Rf0⟩
        ·intro fw;have zR:ns.getD j 0=ns.getD (j-1) 0:=ZaI;refine Ze ?_;exact bS _ _ ⟨kk,R,kH.eq dU zR,kn,Rf0⟩
       ·rintro e2 H3 ⟨kk,R,kH,kn,l0,l3,l4,l5⟩;refine Qt ?_;simp only[go_sem,X.next,l0,l3,l4,l5];refine⟨Qv,ns.length-(j+1),ZA,j+1,kk,R,rfl,ZA,ZA,kH,kn,?_⟩;have:(((j-k:Nat):Int)+1)=((j+1-k:Nat):Int):=ZA;rw[this]
      ·intro dz;have nf:j=ns.length:=(by have:=of_decide_eq_false dz;omega);subst nf;have uO:kk<=R.length:=ZA;refine Zb ?_;refine Qa ?_;have e5:kk+(ns.length-kk)=ns.length:=ZA;simp only[go_sem,hz,e5,Qc,fF,Jk,Jh];refine⟨ZA,λH3 h3=>?_⟩;have kn3:=kn.az B.length (x:=z) (o:=.vec 1 (Qb R)) ZC h3;have gQ:((Qb R).take kk++List.replicate (ns.length-kk) [C.int .i64 0]++(Qb R).drop ns.length).take kk=Qb (R.take kk):=by
        rw[Jai,List.take_append_of_le_length (by rw[Jv,Qc];omega),List.take_take,Nat.min_self,Qalr]
       have kY:ns.length<=((Qb R).take kk++List.replicate (ns.length-kk) [C.int .i64 0]++(Qb R).drop ns.length).length:=by
        simp only[Jay,Jv,Jg,Jaq,Qc];omega
       generalize (Qb R).take kk++List.replicate (ns.length-kk) [C.int .i64 0]++(Qb R).drop ns.length=R2 at *;have kn:Kn H0 H3 E (B++[(z,.vec 1 R2)]):=(by simpa using kn3);have wI:=kn.l B.length (l:=z) (o:=.vec 1 R2) ZC;refine Qa ?_;simp only[go_sem,wI,kY,Jk,Nat.sub_zero];refine⟨ZA,?_⟩;refine Zo ?_;have cF:(Qb (R.take kk)).length=kk:=(by rw[Qc,Jv];omega);refine hK (.ah z 1 0 kk) _ (R.take kk) H3 (.inr ⟨z,R2,?_,rfl,?_⟩) rfl kn kH.asc (λx=>?_) (by rw[Jv];omega)
       ·rw[cF]
       ·rw[cF];exact gQ
       ·rw[kH.mem,Jbp]
    ·intro bv;have yK:¬ns.getD k 0=ns.getD (k-1) 0:=ZT;refine Wl ?_;refine⟨Qv,ns.length-(k+1),ZA,k+1,rfl,ZA,ZA,λi h0 h1=>?_,rfl⟩;by_cases h:i<k
     ·exact be i h0 h
     ·have:i=k:=ZA;subst this;exact yK
   ·intro aC;have bp:ns.length<=k:=ZG;refine Wh ?_;exact hK _ _ ns H1 ax.gw rfl kn (MY hs λi h0 hi=>be i h0 ZA) (λ_=>Jbv) (Jh _)
theorem OB(hL:ns.length<=2 ^ 38)(hK:∀ns' H',Upd H H' []->ns'.Pairwise (· < ·)->(∀x,x∈ns'↔x∈ns)->ns'.length<=ns.length->K (.c (.sl false 1 (Qb ns'))) H') :
  Qu prog Ok [.c (.sl fl 1 (Qb ns))] H K:=by
 refine Q0 ?_;refine Qd Co Yl ?_;refine Wd ?_;refine Il (Kn.an H) ZW λt Lg H1 ax bq kn=>?_;simp only[go_sem,I3];refine Za ?_;refine Qa6d kn ax λLg H2 ax kn=>?_;refine Za ?_;refine Qasa kn ax (Qar5 ns) (by rw[Hq];exact hL) λt2 Lg2 ns' H3 zB how2 kn h1 h2 h3=>?_;simp only[go_sem,PA];refine Zf ?_;exact⟨_,.c _ _ (zB.frz kn),hK ns' _ kn.fin h1 (λx=>by rw[h2,Qa5o]) (by rw[Hq]at h3;exact h3)⟩
noncomputable def EL (n:Nat)(nx:Nat->List Int):List Nat:=if CX n nx then (List.range n).filter (CF (nxN nx) (-1))else []
theorem Qald {p rg:Int}{rows:List (List C)}{nx:Nat->List Int}(hg:GRd H bc rows nx)(hn:rows.length<=1000000)
  (hK:∀H',Upd H H' []->K (.c (.sl false 1 (Cs (EL rows.length nx)))) H') :
  Qu prog Qos [.ag [Ui p,Ui rg,bc]] H K:=by
 have bq:=hg.ow;refine Q0 ?_;refine Qd Co Qaas ?_;refine Wg ?_;simp only[go_sem,bq];refine YI hg ?_;simp only[go_sem,IE];refine Qh (Qf rfl (λhc=>?_) (λhc=>?_))
 ·have hf:=DE hc;refine Za ?_;refine Zf ?_;have:=hK _ (Kn.an H).fin;simp only[EL,hf]at this;exact⟨_,.c _ _ FrzR.nil.sl,this⟩
 ·have hf:=CS hc;have cq:=GQ hf;refine Ze ?_;refine Zj bq ?_;refine Qa15 hg hf hn λS o H1 hu hd=>?_;have kn:=(Kn.an H).au hu;simp only[go_sem,Qky];have cW:∀x,x<(List.replicate rows.length false).length->∀y∈nxN nx x,y<(List.replicate rows.length false).length:=by
   rw[Jg];exact λx hx y hy=>F0 hf hx hy
  have lE:∀x∈[0],x<(List.replicate rows.length false).length:=ZaC
  have sr:=hd.count cW lE;have dk:cnt (List.replicate rows.length false)=0:=by simp[cnt,List.count_replicate]
  have cL:=GG S;have tn:=hd.len;rw[Jg]at tn;have eJ:o.length<=1000000:=by simp only[Jr]at sr;omega
  refine OB (ns:=o.map Int.ofNat) (by rw[Jx];omega) λns' H2 hu h1 h2 h3=>?_;have kn:=kn.au hu;simp only[go_sem,Rb];refine Zf ?_;have he:ns'=(EL rows.length nx).map Int.ofNat:=by
   simp only[EL,hf,if_pos];refine V8 h1 (Ja9 _ Ja4) λx=>?_;rw[h2];have cr:∀y,y∈o↔y<rows.length/\CF (nxN nx) (-1) y=true:=by
    intro y;rw[hd.list cW lE (EW _) y,hd.seen cW lE y];rw[EW];simp only[Jax,false_or,Jb,exists_eq_left,rchB_iff];constructor
    ·intro hr;have eE:=hr.mono (B:=λz=>(z:Int)=-1) (λz hz=>ZA);exact⟨eE.lt (λx hx y hy=>F0 hf hx hy) cq,eE⟩
    ·intro hr;exact hr.2.mono λz hz=>by rw[EW]at hz;simp at hz
   constructor
   ·intro hx;obtain⟨y,hy,rfl⟩:=Jt.1 hx;obtain⟨h1,h2⟩:=(cr y).1 hy;exact⟨y,Jau.2 ⟨J7.2 h1,h2⟩,rfl⟩
   ·rintro⟨y,hy,rfl⟩;obtain⟨h1,h2⟩:=Jau.1 hy;exact Jt.2 ⟨y,(cr y).2 ⟨J7.1 h1,h2⟩,rfl⟩
  have:=hK _ kn.fin;rw[Cs,<-he]at this;exact⟨_,.c _ _ (Gt (noOw_mem (Qr _))),this⟩
theorem Q47 {n:Nat}{f:Nat->Bool}(hl:S.length=n)(h:∀x,x<n->S.getD x false=f x):S=(List.range n).map f:=by
 refine List.ext_getElem Za3 λi h1 h2=>?_;have hi:i<n:=by rw[<-hl];exact h1
 have:=h i hi;simp only[Ja,Jd h1,Jaa]at this;simp[this]
theorem Oc {n:Nat}{nx:Nat->List Int}{o:List Nat}(hf:CX n nx=true)(hd:Dfs (nxN nx) [0] (List.replicate n false) [] S o):S=inL n (nxN nx):=by
 have cq:=GQ hf;have cW:∀x,x<(List.replicate n false).length->∀y∈nxN nx x,y<(List.replicate n false).length:=by
  rw[Jg];exact λx hx y hy=>F0 hf hx hy
 have lE:∀x∈[0],x<(List.replicate n false).length:=ZaC
 have hl:=hd.len;rw[Jg]at hl;refine Q47 hl λx hx=>?_;have hs:=hd.seen cW lE x;rw[EW]at hs;simp only[Jax,false_or,Jb,exists_eq_left]at hs;rw[Jbq,hs,rchB_iff];exact⟨λhr=>hr.mono λz hz=>ZA,λhr=>hr.mono λz hz=>by rw[EW]at hz;simp at hz⟩
theorem Qabv {n:Nat}{nx:Nat->List Int}{o:List Nat}(hf:CX n nx=true)(ha:a<n)(hd:Dfs (nxN nx) [0] ((List.replicate n false).set a true) [] S o) :
  S.set a false=(List.range n).map (CF (nxN nx) a):=by
 have cq:=GQ hf;have cW:∀x,x<((List.replicate n false).set a true).length->∀y∈nxN nx x,y<((List.replicate n false).set a true).length:=by
  rw[Ji,Jg];exact λx hx y hy=>F0 hf hx hy
 have lE:∀x∈[0],x<((List.replicate n false).set a true).length:=by rw[Ji,Jg];simpa using cq
 have hl:=hd.len;rw[Ji,Jg]at hl;refine Q47 (by rw[Ji];exact hl) λx hx=>?_;have xQ:∀z,((List.replicate n false).set a true).getD z false=true↔z=a:=by
  intro z;rw[GO,Jg,EW];by_cases hz:z=a
  ·simp[hz,ha]
  ·simp[hz]
 have bX:(S.set a false).getD x false=if x=a then false else S.getD x false:=by
  simp only[Ja,Jad];by_cases nL:a=x
  ·subst nL;simp[hl,ha]
  ·have:¬x=a:=λh=>nL h.symm;simp[nL,this]
 rw[bX];by_cases nL:x=a
 ·subst nL;rw[if_pos rfl,MA]
 ·rw[if_neg nL,Jbq,hd.seen cW lE x,xQ,rchB_iff];simp only[nL,false_or,Jb,exists_eq_left];exact⟨λhr=>hr.mono λz hz=>(xQ z).2 ZA,λhr=>hr.mono λz hz=>by have:=(xQ z).1 hz;omega⟩
theorem Qa16 {n:Nat}:((List.replicate n false).set 0 true).set 0 false=(List.range n).map (CF g (0:Nat)):=by
 refine Q47 ZC λx hx=>?_;have:CF g ((0:Nat):Int) x=false:=by
  cases hc:CF g ((0:Nat):Int) x with
  |false=>rfl
  |true=>exact absurd rfl (rchB_iff.1 hc).fst
 rw[this,Jbn];have:(List.replicate n false).set 0 false=List.replicate n false:=by
  cases n with
  |zero=>rfl
  |succ n=>rfl
 rw[this,EW]
theorem MD {p rg:Int}{rows:List (List C)}{nx:Nat->List Int}(hg:GF rows nx)(hf:CX rows.length nx=true)
  (hK:∀H',Upd H H' []->K (.c (.sl false 1 (Dl rows.length (nxN nx) rows.length))) H') :
  Qu prog NU [.ag [Ui p,Ui rg,.sl fl 5 rows]] H K:=by
 have hn:=hg.n;have cq:=GQ hf;have cI:∀(y:Nat) l a b d,C.sl fl 5 rows=.ah l a b d->l≠y:=by intro y l a b d h;cases h
 refine Q0 ?_;refine Qd Co Ye ?_;refine Wd ?_;intro _;refine Wk ?_;simp only[go_sem,GX];refine⟨by simp only[LIM];omega,λal ee H1 h1=>?_⟩;have kn:Kn H H1 [] ([(al,.vec 1 (Qx (List.replicate rows.length false)))]++[]):=(Kn.an H).al ee h1;simp only[go_sem,Q1y];refine Za ?_;refine Rz (F:=H1) hf ZA (hg.grd H1 fl) (cI al) rows.length 0 (List.replicate rows.length false) [] (.sl true 1 []) [] H1 _ ZC ZA cq (EW _ _) kn.mid (.nil 1) ZC λS o oc Lg0 H2 hd k2 _=>?_;have kn:Kn H H2 [] [(al,.vec 1 (Qx (inL rows.length (nxN nx))))]:=by
  have:=(kn.comp k2 rfl).drop;rw[Oc hf hd]at this;exact this
 refine Wa ?_;refine Qh (Qe (Qy (λm e1 H1=>∃(ys:List Nat) (oc:C) (Lg:Ul),m=rows.length-ys.length/\ys.length<=rows.length/\Gr Lg 1 (ysR rows.length ys) oc/\
  Kn H H1 [] (([(al,.vec 1 (Qx (inL rows.length (nxN nx))))]++ysL rows.length (nxN nx) ys)++Lg)/\
  e1=[(1,.c (.pp [Ui p,Ui rg,.sl fl 5 rows])),(3,.c (Ui rows.length)),(4,.c oc),(5,.c (.ah al 1 0 rows.length)),(6,.c (Ui ys.length))]) rows.length ?_ ?_))
 ·exact⟨[],_,[],ZC,ZC,.nil 1,kn,rfl⟩
 ·rintro m e1 H3 ⟨ys,oc,Lg,hm,hi,ax,kn,rfl⟩;have hoc:=ax.ai;refine Wa ?_;refine Wt ?_ ?_
  ·intro hc;have af:ys.length<rows.length:=ZD
   have yY:ys.length<(inL rows.length (nxN nx)).length:=by rw[Gs];exact af
   refine Ze ?_;refine CN (λe2 H4=>∃(oc:C) (Lg:Ul) (y:Nat),Gr Lg 1 (ysR rows.length (ys++[y])) oc/\
    Kn H H4 [] (([(al,.vec 1 (Qx (inL rows.length (nxN nx))))]++ysL rows.length (nxN nx) (ys++[y]))++Lg)/\
    lk 1 e2=.c (.pp [Ui p,Ui rg,.sl fl 5 rows])/\lk 3 e2=.c (Ui rows.length)/\lk 4 e2=.c oc/\lk 5 e2=.c (.ah al 1 0 rows.length)/\lk 6 e2=.c (Ui ys.length)) ?_ ?_
   ·intro Q bS _ _;refine Qe (Qa ?_);simp only[go_sem,GX];refine⟨by simp only[LIM];omega,λy2 lC H4 h4=>?_⟩;have kn:Kn H H4 [] ([(y2,.vec 1 (Qx (List.replicate rows.length false)))]++([(al,.vec 1 (Qx (inL rows.length (nxN nx))))]++(ysL rows.length (nxN nx) ys++Lg))):=
     (kn.al lC h4).perm (Qi λf hf h0 hc hp=>by simp only[Ui,hf];omega)
    have hy:=kn.l 0 rfl;have bI:ys.length<(List.replicate rows.length false).length:=(by rw[Jg];exact af);simp only[go_sem,Q1z];refine Qa ?_;have qX:∀(S:List Bool),S.length=rows.length->(Qx S).take rows.length=Qx S:=λS h=>Jc Zan;simp only[go_sem,hy,af,Q4,Jg,Q7 _ _ bI,EU,Jk,Jh];intro H5 h5;have kn:Kn H H5 [] ([(y2,.vec 1 (Qx ((List.replicate rows.length false).set ys.length true)))]++([(al,.vec 1 (Qx (inL rows.length (nxN nx))))]++(ysL rows.length (nxN nx) ys++Lg))):=kn.az 0 rfl h5;refine Wa ?_;have rest:∀(e:Env) (H6:Heap),lk 1 e=.c (.pp [Ui p,Ui rg,.sl fl 5 rows])->lk 3 e=.c (Ui rows.length)->lk 4 e=.c oc->lk 5 e=.c (.ah al 1 0 rows.length)->lk 6 e=.c (Ui ys.length)->lk 7 e=.c (.ah y2 1 0 rows.length)->
      Kn H H6 [] ([(y2,.vec 1 (Qx ((List.range rows.length).map (CF (nxN nx) ys.length))))]++([(al,.vec 1 (Qx (inL rows.length (nxN nx))))]++(ysL rows.length (nxN nx) ys++Lg)))->
      Cr prog Q1x Q e H6:=by
     intro e H6 l1 l3 l4 l5 l6 l7 kn;refine Qa ?_;simp only[go_sem,l3,GX];refine⟨by simp only[LIM];omega,λy3 tF H7 h7=>?_⟩;have kn:Kn H H7 [] ([(y3,.vec 1 (Qx (List.replicate rows.length false)))]++([(y2,.vec 1 (Qx ((List.range rows.length).map (CF (nxN nx) ys.length))))]++([(al,.vec 1 (Qx (inL rows.length (nxN nx))))]++(ysL rows.length (nxN nx) ys++Lg)))):=
      (kn.al tF h7).perm (Qi λf hf h0 hc hp=>by simp only[Ui,hf];omega)
     simp only[go_sem,Q10,l1,l3,l4,l5,l6,l7];refine Wa ?_;refine Qh (Qe (Qy (λm e1 H1=>∃b:Nat,m=rows.length-b/\b<=rows.length/\
      Kn H H1 [] ([(y3,.vec 1 (Qx ((List.range b).map (Dd (nxN nx) ys.length)++List.replicate (rows.length-b) false)))]++([(y2,.vec 1 (Qx ((List.range rows.length).map (CF (nxN nx) ys.length))))]++([(al,.vec 1 (Qx (inL rows.length (nxN nx))))]++(ysL rows.length (nxN nx) ys++Lg))))/\
      e1=[(1,.c (.pp [Ui p,Ui rg,.sl fl 5 rows])),(3,.c (Ui rows.length)),(4,.c oc),(5,.c (.ah al 1 0 rows.length)),(6,.c (Ui ys.length)),(7,.c (.ah y2 1 0 rows.length)),(8,.c (.ah y3 1 0 rows.length)),(9,Uv b)]) rows.length ?_ ?_))
     ·exact⟨0,ZA,ZA,ZL,rfl⟩
     ·rintro m2 e1 H8 ⟨b,fz,hb,kn,rfl⟩;have tF:=kn.l 0 rfl;have lC:=kn.l 1 rfl;have ee:=kn.l 2 rfl;have lB:((List.range b).map (Dd (nxN nx) ys.length)++List.replicate (rows.length-b) false).length=rows.length:=ZF;refine Wa ?_;refine Wt ?_ ?_
      ·intro aC;have bj:b<rows.length:=ZG;have cP:b<(inL rows.length (nxN nx)).length:=(by rw[Gs];exact bj);have gK:b<((List.range rows.length).map (CF (nxN nx) ys.length)).length:=(by simpa using bj);have su:b<((List.range b).map (Dd (nxN nx) ys.length)++List.replicate (rows.length-b) false).length:=(by rw[lB];exact bj);have t1:=qX (inL rows.length (nxN nx)) Gs;have t2:=qX ((List.range rows.length).map (CF (nxN nx) ys.length)) ZC;have t3:=qX _ lB;refine Wm ?_;refine Qt ?_;simp only[go_sem,tF,lC,ee,bj,af,t1,t2,Q4,lB,Gs,Jx,Jbk,Q7 _ _ yY,L7 af,Q7 _ _ cP,L7 bj,Q7 _ _ gK,PS _ _ bj,Q7 _ _ su,EU,Jk,Jh];intro H9 h9;have kn:=kn.az 0 rfl h9;refine Zg ?_;refine⟨Qv,rows.length-(b+1),ZA,b+1,rfl,ZA,?_,rfl⟩;rw[<-Qaim _ _ bj];have:Dd (nxN nx) ys.length b=(bif (bif CF (nxN nx) (-1) ys.length then CF (nxN nx) (-1) b else false)then !CF (nxN nx) (↑ys.length) b else false):=by
        simp only[Dd];cases CF (nxN nx) (-1) ys.length <;> cases CF (nxN nx) (-1) b <;> rfl
       rw[this];exact kn
      ·intro aC;have gC:b=rows.length:=(by have:¬b<rows.length:=(by simpa using aC);omega);subst gC;refine Zb ?_;refine Zh ?_;have kn:Kn H H8 [] (([(al,.vec 1 (Qx (inL rows.length (nxN nx))))]++ysL rows.length (nxN nx) (ys++[y3]))++Lg):=by
        have aD:(List.range rows.length).map (Dd (nxN nx) ys.length)++List.replicate (rows.length-rows.length) false=Ee rows.length (nxN nx) ys.length:=(by simp[Ee]);rw[aD]at kn;have:=kn.perm (L':=(([(al,.vec 1 (Qx (inL rows.length (nxN nx))))]++ysL rows.length (nxN nx) (ys++[y3]))++Lg)++[(y2,.vec 1 (Qx ((List.range rows.length).map (CF (nxN nx) ys.length))))]) (Qi λf hf h0 hc hp=>by simp only[Ui,Qa17,hf];omega);exact this.drop
       refine kn.bk (new:=[[.ah y3 1 0 rows.length]]) ax (.mk' _ _ _ _) (by simp[Go.AE.am,C.ai]) (by simp only[Qa56,LIM,Jq,Jr];omega) λt Lg' H9 ax ht kn=>?_;simp only[go_sem,Q11];refine bS _ _ ⟨t,Lg',y3,?_,kn,Rf0⟩;rw[Qa18];exact ax
    refine Wt ?_ ?_
    ·intro ha;have vB:ys.length≠0:=ZaH;refine Za ?_;refine Rz (F:=H5) hf ZA (hg.grd H5 fl) (cI y2) rows.length 0 ((List.replicate rows.length false).set ys.length true) [] (.sl true 1 []) [] H5 _ ZC ZA cq (by rw[GO,EW,if_neg (by omega)]) kn.mid (.nil 1) ZC λS o oc' Lg0 H6 hd k2 _=>?_;have tn:=hd.len;rw[Ji,Jg]at tn;have kn:Kn H H6 [] ([(y2,.vec 1 (Qx S))]++([(al,.vec 1 (Qx (inL rows.length (nxN nx))))]++(ysL rows.length (nxN nx) ys++Lg))):=(kn.comp k2 rfl).drop;have hy:=kn.l 0 rfl;have qA:ys.length<S.length:=ZA;refine Qt ?_;simp only[go_sem,hy,af,Q4,tn,Q7 _ _ qA,EU,Jk,Jh];intro H7 h7;have kn:=kn.az 0 rfl h7;refine rest _ H7 rfl rfl rfl rfl rfl rfl ?_;rw[<-Qabv hf af hd];exact kn
    ·intro ha;have vB:ys.length=0:=ZaH;have hy:=kn.l 0 rfl;have qA:ys.length<((List.replicate rows.length false).set ys.length true).length:=(by simpa using af);refine Qt ?_;simp only[go_sem,hy,af,Q4,Ji,Jg,Q7 _ _ qA,EU,Jk,Jh];intro H7 h7;have kn:=kn.az 0 rfl h7;refine rest _ H7 rfl rfl rfl rfl rfl rfl ?_;have:=Qa16 (n:=rows.length) (g:=nxN nx);rw[vB]at kn⊢;rw[<-this];exact kn
   ·rintro e2 H4 ⟨oc2,Lg2,y,ax,kn,l1,l3,l4,l5,l6⟩;refine Qt ?_;simp only[go_sem,X.next,l1,l3,l4,l5,l6];exact⟨Qv,rows.length-(ys.length+1),ZA,ys++[y],oc2,Lg2,ZC,by simp;omega,ax,kn,ZC⟩
  ·intro hc;have bp:ys.length=rows.length:=by have:¬ys.length<rows.length:=ZD;omega
   refine Wh ?_;have ew:=Qa57 (H:=H3) (S:=un H) (n:=rows.length) (g:=nxN nx) ys (λq hq=>⟨(kn.get q (by simp[hq])).1,Ef (kn.loc q (by simp[hq]))⟩);rw[bp]at ew;exact⟨_,.c _ _ (ax.frzR kn ew),hK _ kn.fin⟩
end Y
namespace Y
open Go.Proofs.Tryz
def Qya:=dY 0xc80031
def Qyb:=dY 0x1010f548fd1830664f0c2 Qya
def Qyc:=dY 0xb90041
def Qars:=dW 0x7210c90029f4801c2100330490059f1f01458013300033205122f011c010113580380480157001420068123c003400f07458011212500400330090059f1f014053800e4120320d80049f01c0d2131108f0a9f01c0b9f05015224360660706000405030201000908a211014f0090121 [] [Qyb,Qyc] [eI 10 (.mks 1 [.bool false] (.t 9))]
theorem Qaq0:mFn prog RO 1 29 Qars Cq=true:=ZE
def Qup:=dY 1638449
def Qam7:=dZ 0x7210290029f38012210902031042b9d0101134800803800c60014200680934020400244056010064125004020300f0041122020580039f01c052101014f00211 M6 Qup
theorem Qamd:mFn prog Q0x 1 19 Qam7 Cq=true:=ZE
def Qlc:=dY 4323594385 PA
def Qabr:=dW 0x72120159d536072187210680029f01c0621053312101b3d1360321211014f0090121 [] [IE,Qlc]
theorem Qaa6:mFn prog Qo6 1 10 Qabr Cq=true:=ZE
def Qyh:=dY 9961553
def Qart:=dW 0x7410f90049f5801f2113130790079f1f004780163013130101e1513780010113780180580188003420268153d13140024405180780124125024131300f007112030040e80069f1f004600d300300407f01e01136805800f40014200680c350300500144080300a31250040300400f0061123003108f700821002014f00411 [] [Qyh] [eI 9 (.mks 1 [.int .i64 0] (.t 8))]
theorem Qaq1:mFn prog Q5j 2 32 Qart Cp=true:=ZE
def P3:=dY 4784209
def Q1p:=dY 0x99683e001
def Q1q:=dY 0x8a885e6a52764f5a1a52634f4a2514f3a2a12434f0a2114f006
def Q1r:=dY 0x117004727532f081 Q1q
def Q1s:=dY 0x101e6822412
def Qyd:=dY 0xdc00b1
def Qye:=dY 852161
def Qyf:=dY 0x7a5f00e1
def Qyg:=dY 0x103e122f011c010de13ce6d14fae9e26b34f8e6914f6e5e56734f4e6514f779 Qyf
def Qafw:=dZ 0x3110180bd00d9f1f004d805a300003110180201e0121223e80d80010020153a800168227bb0d20000031101a02e00f9f1f004f8061300000031101a10728ed010413010113f80c80180b80010120123d80010020153a80016822e806314f18171615140a08060402131211100f0e0d0c0b0a090807060504030201001e19a0942086860360f0000031101b0024405c80f805d41250840000031101a00f00f11200003110190cd00e9f01c5c210742066859359f0003110190074405010020153a80016822d8051912 .skip Qyg
def Q1o:=dW 0x74100483e6836852131101507c00a9f1f004a80463009506400031101800f00d1100311017201289da8068364e310311016104289d010113a801802836486707f20542046845345f3110160024405180a8042412504431101500f00a112 [Qafw] [Qyd,Qye]
def Qajm:=dW 0x900010160f90079f1f0047801e300001016202522f015c88560168223c50d20000010180fa0099f1f0049802e300000010180101e2b1b1301051301011398001884258098001884230dd0df034202682d32df000001019003440501884298029512502400000101800f009112000010171018dd05604530101137801800128222090a0706050401090807060504030201001009a2014200681d31df000101700244051807801a4125004000101600f007112 [Q1o] [Q1r,Q1s]
def Xn:=dW 0x900101525700332f069f011210257003d1f01281201280215610101410128cd180050128221051101305700332f049f190221 [Qajm] [P3,Q1p]
theorem Yg:mFn prog Of 2 134 Xn Dj=true:=ZE
def P4:=dY 0x68283e001
def Q1m:=dY 0x102258d430364f062 P4
def XO:=dZ 0x7211018bd2361360330403000201000605a201205700332f090121 .skip Q1m
theorem Yi:mFn prog Kg 1 7 XO CK=true:=ZE
def Qm9:=dY 7012465
def Q4f:=dW 0x300150190089f1f004701030000300170a900a9f1f004a8019308000300172012b9d880780343033333f0003001802f05aa03f9a4ba0f05280f05210f0115230f885200f05210f0115230f285200f185200f04b00f0124b40f284b00f884b00f00010413010113a809800101132801801b19f19f19f203420268183d000300180024405980a801541250240003001700f00a110030016101289d88038361231014200680f360300160024405180300c412 [] [G8,Qm9]
def Qafz:=dZ 0x76107b0069f780372109500403001500f008112300140b80079f01c0b210013014f0069f290321 Q4f
theorem Qae6:mFn prog Qs0 3 56 Qafz Cx=true:=ZE
def Qk5:=dY 0xf80081
def Qk6:=dY 33233
def Qk7:=dY 1704097
def Qk8:=dY 0xf0442e1
def Qk9:=dY 4915313
def Qla:=dY 0xbb0081
def Qyj:=dW 0x10311607a00b9f1f004b80263080103116505122f011c010113b80a80880357001031164042b9d010113b80a807802f612e32ef010311730428ed010113b80a8078028610342026825325f01031170024405a80b80224125024010311600f00b1110311520123ded98018038361e4180161d31df003116100f3355d1f01405180980185120031150790089f08f88016310031150590099f010f0138801341014006812390311500f064057010312 [] [Qk6,Qk7,Qk8,Qk9,Qla] [fI 23 (.sli 1 (.t 22) (some (kI 1)) none)]
def Qabm:=dZ 0x7610cb0069f7803c21095004203114101122f28001c0d31300140c80079f01c0c210013014f0069f290321 Qyj Qk5
theorem Qaa3:mFn prog Qo3 3 61 Qabm Cx=true:=ZE
def Qaf0:=dZ 0x2030d80049f1f004700c300203102122f011c5803802e400002050390069f1f004680123080002050da0059f6802d202c32cf00020602f00aa03f741a0f04610f0114630f684600f04610f0114630f584600f084600f04100f0f044140f584100f002f07a02f10f0112f30f482f00f02f10f0112f30f682f00f082f00f0001344806801419f103420268113a0002060024405080700e412502400020500f0061120020407f00511014200680b36020400244050803008412 .skip PE
def Qarv:=dZ 0x72102b0029f3803221095004020300f0041122020780039f01c072101014f00211 Qaf0
theorem Qaq3:mFn prog Q5l 1 51 Qarv Cq=true:=ZE
def P2:=dY 7929937
def Xj:=dZ 0x7410890049f5801821030040d80069f1f004500c30803004102122f011c6805801440133c03005001241800101136800800e61014200680b34030050024405080100841250040300400f00611230030780059f01c0721002014f00411 .skip P2
theorem Yd:mFn prog NT 2 25 Xj Cp=true:=ZE
def Q2i:=dY 0xb80031
def Q2j:=dY 0x101e9a8a13322
def Q2k:=dY 0x101ebcac13552
def Qaj1:=dW 0x9201140db0079f1f0047803c30820114304122f011c0121c7804800101138803808803804ab049349f02011600f0748804821020115201ddd04601437800101201534800118223ea1054204683b33bf2011500744050101201534800118227803391250442011400f00711001140d90059f1f0045801c3000114103122f011c7f021c48001011368038068038028a000011507a0069f0100201235800100201534800118221eb1034202681b31bf0011500744050100201534800118225801391250240011400f0051120142 [Re] [Q2j,OU,Q2k]
def Xd:=dW 0x72106d0029f3805621090068103b01140034405011822700c5125004011300f004112112108f01712093111014f0090121 [Qaj1] [Q2i] [eI 11 (.mks 1 [.sl true 1 []] (.t 10))]
theorem Y5:mFn prog NN 1 87 Xd Cq=true:=ZE
def Qyl:=dY 0x88383e001
def Qym:=dY 0x15700332f031 Qyl
def Qyn:=dY 0xd80049f010f01308f0b4 [] [fI 11 (.fld 0 1 false (.t 10))]
def Qyo:=dY 655441
def Qyp:=dY 0x201e0120f7531a2214f2a4
def Qarw:=dW 0x72100283e38362c21022405422f010120f0530138225800138222190b0a09010807060504030201000d0ca20000250690069f1f00468015308000025304422f014c0121111f103017004d1f01c6805801b601a31af0000260010113680480174101420068143d000026002440138126801141250040000250090069f0138020f312000240e80059f04c0e210023201b5d536092102210157d536072101205700332f090121 [] [Qym,Qyn,Qyo,Qyp]
theorem Qaq4:mFn prog Q5m 1 45 Qarw CK=true:=ZE
def Q2d:=dY 0xe8383e001
def Q2e:=dY 0x15700332f031 Q2d
def Q2f:=dY 0x29582e001
def Q2g:=dY 0x11717232f051 Q2f
def Q2h:=dY 4784225
def Qyq:=dY 0x9b00a1
def Qyr:=dY 0xecc82e001
def Qys:=dY 21841
def Qyt:=dY 0x101ec8125d2
def Qyu:=dY 0x201e0024e0e533e6414f2e1e16334ffd6014f716
def Qyv:=dY 0x106e222f16f14f3756d34f46c14f5616b34f7e6814f3e6414f2e1e16334ffd6014f709 Qyu
def Qaj0:=dW 0x2000000190fb00b9f1f004b803e300200000019408f669f010020453010113b80a80013822679fc826010113b80a800138225f11f14131205040111100e0d0c0905040107100f0e0d0c0b0a0908060504030201002015a055f0020000001c0ed0569f1f7045e20055f0020000001c302122f011c78001c812585007420657b0055f0020000001d0104457115064055f0020000001c204289d549f0f0569f010113b80a8018364f706050704030201000808a220020000001a1170232f0c9f01111021702d1f01c7804c4180564b34bf020000001a008010113780010413010113b80a8001580240cc0cf220542 [] [Qyr,Qys,Qyt,Qyv] [eI 102 (.bslm 2 [.t 101])]
def Qaf1:=dW 0x170b90079f1f0147801a300904683d33df020000001a0024405a80b803a4125044020000001900f00b1120000001820123bad8804801836364100000000190aa0099f1f0049802930000000001910ba2b9d010f0130101139800101137806808802bb00342026828328f000000001a0054405010113780680980227125024000000001900f009112800000001801a0089f0f11c212020320f000000019002440118027801d4120000000180c90089f01c1c210142006819319f0000001800f07478018212 [Qaj0] [PD,Qyq]
def Xe:=dW 0x72100283e38367321095004000000170790079f1f014011812154120000016401b8d18361321000015301b5d183611210001420196d18360f21001310190d18360d2101205700332f090121 [Qaf1] [Q2e,Pt,Q2g,Q2h]
theorem Y6:mFn prog NO 1 116 Xe CK=true:=ZE
def Q4h:=dZ 0x7210f80029f1f01401072070800b61010201e072571f0040107207302003910100f00211
theorem Q4a:mFn prog Qkf 1 16 Q4h Cq=true:=ZE
def Qie:=dY 0x201e002232342514f294
def Qgt:=dY 0x835f00b1
def Qv6:=dZ 0x23000503d0099f1f004980523082300050201e0121243b8098001012076808f9012300060101e1845f13b80010120143980010120768028084c11230006101bbd080822181381f2300060019bd01002014398001012076807991023000600e00a9f1f004a805f3002300060101e9e8e13010ae13010113a800102201439800101207680280a8001022014398001012076806119f19f19f074206685e35ef0230007004d44050102201439800101207680a8054b125064023000600f00a1120542 .skip Qgt
def Qgu:=dY 0xbd5f00e1
def Qgv:=dY 0x10128ed180bc2 Qgu
def Qv7:=dZ 0x5300080cb5f00f9f1f004f80ca300005300080101ed95fd85f13010da5f13010113e80010120123f80010020153d800102200207080280e80010120123f80010020153d800102203207080cc23f23f23f0b420a68c93c9f00053000900be5f4405010020153d800102200207080f80bec1250a400053000800f00f11
def Qgw:=dY 0xf35f0101
def Qgx:List Item:=[.chk 253 none (.iad 1 (.t 251) (.t 252)),hJ 254 253,aJ 258 Tb [.t 250,.t 254,.t 257]]
def Qic:=dW 0xd1040f95f0119f1f004190f8300d104201122f28001c010113190090080fa808040307060504030201000b09a0d420c68f73f7f0d1050024405090190f441250c40d10400f01111d1031012bcd1800106207080ee61 [] [Qgw,Qgx]
def Tm:=dZ 0x195300050ae5f00c9f1f004c80ad300900530007101289dd8003600207080b66105300060b55f00d9f010113c800104207680af8109420868ac3acf53000600544050104207680c80a6712508453000500f00c112 Qv7 Qgv Qic
def Tl:=dZ 0x98300040201e0327701041301032076802806809cb09b39bf3000501f034010220768097512 Tm
def Tk:=dZ 0x1909046851351f230006005440501012076809804b712504423000500f009112 Qv6 [] Tl
def Tj:=dZ 0x913000503b0089f1f00488032301300050101e1c4b13010020123880010020768001002012388001002015318001022002070802803418f18f18f0342026831331f130006005440501002076808802b712502413000500f008112 Tk
def Qid:=dZ 0x903000501a0079f1f0047802030030005101bbd080780010020768022709080703060504030201000b0aa014200681f31ff0300060054405010020768078019712500403000500f007112 Tj Qie
def Q4g:=dZ 0x9300040890069f015318001022032070801281 Qid
theorem Q39:mFn prog Tb 3 259 Q4g CQ=true:=ZE
def Qus:=dY 0x15700332f031 Po
def Qut:=dY 4321431697 Qus
def Quu:=dY 3735617
def Quv:=dY 0x1052f0172165337304017570057008d1f11114f3830a64f124 Quu
def Quw:=dY 0x10195d091114f3830a64f0f3 Quv
def Qux:=dY 0x10196d091114f3830d64f3830a64f0e4 Quw
def Quy:=dY 6881361
def Qam9:=dW 0x72100283e036032074802c511220301e0120324701072074804802491122000f1397d58048021310010150c90069f1f0046801b300010150101e12136806805801d50014200681a31af0010160024401180268017412500400101500f00611201014308f01381214310001420190d0c9f011802109f38360d9f7366360a60a0908070005070004070300020706030100120ba2001310194d536072101205700332f090121 [] [Qut,Qux,Quy] [eI 22 (.mks 1 [.int .i64 0] (.t 21))]
theorem Qamf:mFn prog Q0z 1 48 Qam9 CK=true:=ZE
def Qajo:=dY 0x98483e001
def Qajp:=dY 0xf8483e001
def Qajq:=dY 0x102258d2830c64f0f2 Qajp
def Qajr:=dY 0x39483e001
def Qajs:=dY 0x79483e001
def Q1t:=dY 0xb9483e001
def Qajt:=dY 0xf9483e001
def Qaju:=dY 0x3a483e001
def Qajv:=dY 0x7a483e001
def Qajw:=dY 0xba483e001
def Qafx:=dY 0xfa483e001
def Qyi:=dY 0x3b483e001
def Qajn:=dW 0x874190162d2836322130330f12301b0309f78f312174180161d28362e212c32cf01240da02c9f68f2d2174170160d28362a2128328f012409a0289f58f29217416015fd2836262124324f012405a0249f48f25217415015ed2836222120320f012401a0209f38f21217414015dd28361e211c31cf01240d901c9f28f1d217413015cd28361a2118318f01240990189f18f19217412015bd28361621143e01240590149f08f15217411015ad28361221103 [] [Qajr,Qajs,Q1t,Qajt,Qaju,Qajv,Qajw,Qafx,Qyi] [fI 21 (.bin 0 .eql (.t 5) (.k (.c (.str [105,100,108,101])))),fI 25 (.bin 0 .eql (.t 5) (.k (.c (.str [115,105,110,103,108,101])))),fI 29 (.bin 0 .eql (.t 5) (.k (.c (.str [107,110,111,119,110])))),fI 33 (.bin 0 .eql (.t 5) (.k (.c (.str [115,104,97,114,101])))),fI 37 (.bin 0 .eql (.t 5) (.k (.c (.str [104,111,105,115,116])))),fI 41 (.bin 0 .eql (.t 5) (.k (.c (.str [101,118,101,110])))),fI 45 (.bin 0 .eql (.t 5) (.k (.c (.str [115,107,105,112])))),fI 49 (.bin 0 .eql (.t 5) (.k (.c (.str [106,111,105,110]))))]
def Qafy:=dY 0x5b483e001
def Xm:=dW 0x74130163d2836342109a01240190109f28f112174120159d283628360c30403000201000605a20a3401240b800a9f18f0b2174110157d5360821063001240780069f08f0721004012303005112101305700332f049f190221 [Qajn] [Qajo,Qajq,Qafy] [fI 7 (.bin 0 .eql (.t 5) (.k (.c (.str [114,101,97,99,104])))),fI 11 (.bin 0 .eql (.t 5) (.k (.c (.str [111,114,100,101,114])))),fI 17 (.bin 0 .eql (.t 5) (.k (.c (.str [115,112,108,105,116]))))]
theorem MU:mFn prog Pl 2 54 Xm Dj=true:=ZE
def Sg:=dY 0xc8681e001
def Se:=dY 0x101e68021f2
def Sd:=dY 0x1059322f013c491514f1d3 Se
def S0:=dY 33313
def Xp:=dW 0x704260481e681624218704210481e0371d1f232122322f14350134d681620212d20110150390079f1f0047801230011015401235d18003601337800128020168021490c0b0a09010807060504030201000e0da0142006811390110160034405012802500d512500401101500f00711211014337132f069f0371d1f0c21870421071e0371d1f0b210a35101420134d516082121013137132f049f190221 [] [FA,Kx,Sg,Sd,S0,Ku]
theorem MV:mFn prog Kf 2 37 Xp F2=true:=ZE
def IG:=dY 3080241
def IF:=dY 0x1151e11b00b063 IH
def Qaaa:=dW 0x7022208f2160421012137132f090121 [] [IG,IF] [eI 5 (.call Kf [.t 4,.k (.c (.str [115,105,110,103,108,101]))])]
abbrev Iw:List RS:=[.cell 2 1 true,.tmp 3]
theorem Q6e:mFn prog Qmq 1 8 Qaaa Iw=true:=ZE
def Q19:=dY 0xa80041
def Q2a:=dY 0x198381e001 Q19
def Q2b:=dY 0x137132f039f41b30b099f880054 Q2a
def Q2c:=dY 4319924353 Q2b
def Xf:=dZ 0x9872100281e0101371d1f013c0121f11257003d1f015c036f120112170047275d1f014c0121f102017004d1f01c0d910c38023008600b21200231014fd500621102037132f0211 Nm Q2c
theorem XZ:mFn prog NP 1 22 Xf CV=true:=ZE
def Xg:=dW 0x7213014dd70082187212012ed50062105321031086f022cd2003212102037132f0211 [] [P7,P6,P5]
theorem Ya:mFn prog NQ 1 10 Xg CV=true:=ZE
def Q2l:=dY 0xf024081
def Q2m:=dY 0xa8281e001
def Q2n:=dY 0xc8281e001
def Xc:=dW 0x7214012ed700b2187213012dd50092108340232026f022cd20062120221012bd300421102037132f0211 [] [I3,Q2l,Q2m,Q2n]
theorem Y4:mFn prog NM 1 13 Xc CV=true:=ZE
end Y
namespace Y
attribute [local instance] Classical.propDecidable
variable{n:Nat}
theorem LV {b:Nat}:Dd g a b=true↔CF g (-1) a=true/\CF g (-1) b=true/\¬Rch g (λz=>(z:Int)=a) 0 b:=by
 simp only[Dd,Jp,Jbi,and_assoc];refine and_congr_right λ_=>and_congr_right λ_=>?_;rw[<-Bool.not_eq_true,rchB_iff]
theorem Rch.via{b:Nat}(h:Rch g A 0 b)(hn:¬Rch g (λz=>(z:Int)=a) 0 b):Rch g A 0 a:=by
 induction h with
 |refl h=>
  by_cases ha:0=a
  ·subst ha;exact .refl h
  ·exact absurd (Rch.refl λhh=>ha ZA) hn
 |@step y z h1 h2 h3 ih=>
  by_cases hy:Rch g (λz=>(z:Int)=a) 0 y
  ·by_cases ha:z=a
   ·subst ha;exact .step h1 h2 h3
   ·exact absurd (Rch.step hy h2 λhh=>ha ZA) hn
  ·exact ih hy
theorem Qaqb {x b:Nat}(h1:Dd g x a=true)(h2:Dd g a b=true):Dd g x b=true:=by
 rw[LV]at *;exact⟨h1.1,h2.2.1,λh=>h1.2.2 (h.via h2.2.2)⟩
theorem Rch.two{b z:Nat}(eP:a≠b)(h:Rch g A 0 z):Rch g (λw=>w=a\/w=b) 0 z\/Rch g (λw=>(w:Int)=b) 0 a\/Rch g (λw=>(w:Int)=a) 0 b:=by
 induction h with
 |refl _=>
  by_cases ha:0=a
  ·subst ha;exact .inr (.inl (.refl λhh=>eP ZA))
  ·by_cases hb:0=b
   ·subst hb;exact .inr (.inr (.refl λhh=>eP ZA))
   ·exact .inl (.refl λhh=>hh.elim ha hb)
 |@step y z h1 h2 h3 ih=>
  rcases ih with h|h
  ·by_cases ha:z=a
   ·subst ha;exact .inr (.inl (.step (h.mono λw hw=>.inr ZA) h2 λhh=>eP ZA))
   ·by_cases hb:z=b
    ·subst hb;exact .inr (.inr (.step (h.mono λw hw=>.inl ZA) h2 λhh=>eP ZA))
    ·exact .inl (.step h h2 λhh=>hh.elim ha hb)
  ·exact .inr h
theorem YY {b:Nat}(h1:Dd g a b=true)(h2:Dd g b a=true):a=b:=by
 by_cases eP:a=b
 ·exact eP
 rw[LV]at *;rcases (rchB_iff.1 h1.1).two eP with h|h|h
 ·exact absurd (.inl rfl) h.snd
 ·exact absurd h h2.2.2
 ·exact absurd h h1.2.2
noncomputable def depL (n:Nat)(g:Nat->List Nat)(b:Nat):Nat:=((List.range n).filter λa=>Dd g a b).length
theorem Qas3{p q:α->Bool}{l:List α}(h:∀x∈l,p x=true->q x=true){y:α}(hy:y∈l)(hq:q y=true)(hp:p y=false):(l.filter p).length<(l.filter q).length:=by
 have le:∀(l:List α),(∀x∈l,p x=true->q x=true)->(l.filter p).length<=(l.filter q).length:=λl=>by
  induction l with
  |nil=>intro _;simp
  |cons x l ih=>
   intro h;have h1:=ih λz hz=>h z (Jm _ hz);have h2:=h x Jo
   cases rr:p x with
   |false=>cases mA:q x <;> simp[rr,mA] <;> omega
   |true=>have:=h2 rr;simp[rr,this];omega
 induction l with
 |nil=>simp at hy
 |cons x l ih=>
  have h2:=h x Jo;have h3:=le l λz hz=>h z (Jm _ hz);rcases J6.1 hy with rfl|hy
  ·simp[hq,hp];omega
  ·have h1:=ih (λz hz=>h z (Jm _ hz)) hy
   cases rr:p x with
   |false=>cases mA:q x <;> simp[rr,mA] <;> omega
   |true=>have:=h2 rr;simp[rr,this];omega
theorem Qa3c {b:Nat}(hb:b<n)(h:Dd g a b=true)(eP:a≠b):depL n g a<depL n g b:=by
 refine Qas3 (λx _ hx=>Qaqb hx h) (y:=b) (J7.2 hb) ?_ ?_
 ·rw[YX];exact (Qa3e h).2
 ·cases hc:Dd g b a with
  |false=>rfl
  |true=>exact absurd (YY h hc) eP
def Tree (n:Nat)(ids:List Int)(dp:Nat->Nat):Prop:=ids.length=n/\∀b,b<n->ids.getD b 0=-1\/∃a:Nat,ids.getD b 0=a/\a<n/\dp a<dp b
inductive Sub (ids:List Int)(b:Nat):Nat->Prop
 |refl:Sub ids b b
 |step {y x:Nat}:Sub ids b y->x<ids.length->ids.getD x 0=(y:Int)->Sub ids b x
variable{dp:Nat->Nat}
def DW (ids:List Int)(b:Nat):List Nat:=(List.range ids.length).filter λi=>decide (ids.getD i 0=(b:Int))
theorem kidsL_mem {b k:Nat}:k∈DW ids b↔k<ids.length/\ids.getD k 0=(b:Int):=by simp[DW]
theorem Tree.up (t:Tree n ids dp){b k:Nat}(hk:k<ids.length)(h:ids.getD k 0=(b:Int)):b<n/\dp b<dp k:=by
 have fD:k<n:=by rw[<-t.1];exact hk
 rcases t.2 k fD with h1|⟨a,h1,h2,h3⟩
 ·omega
 ·have:a=b:=ZA
  subst this;exact⟨h2,h3⟩
theorem Sub.dep (t:Tree n ids dp){b x:Nat}(h:Sub ids b x):x=b\/dp b<dp x:=by
 induction h with
 |refl=>exact .inl rfl
 |step h1 h2 h3 ih=>
  have:=(t.up h2 h3).2;rcases ih with rfl|ih
  ·exact .inr this
  ·exact .inr ZA
theorem Sub.kid {b k x:Nat}(hk:k∈DW ids b)(h:Sub ids k x):Sub ids b x:=by
 obtain⟨h1,h2⟩:=kidsL_mem.1 hk
 induction h with
 |refl=>exact .step .refl h1 h2
 |step _ h3 h4 ih=>exact ih.step h3 h4
theorem Sub.kid_ne (t:Tree n ids dp){b k:Nat}(hk:k∈DW ids b):¬Sub ids k b:=λh=>by
 obtain⟨h1,h2⟩:=kidsL_mem.1 hk;have:=(t.up h1 h2).2;rcases h.dep t with rfl|h
 ·omega
 ·omega
theorem Sub.line {b x:Nat}(h1:Sub ids a x)(h2:Sub ids b x):Sub ids a b\/Sub ids b a:=by
 induction h1 with
 |refl=>exact .inr h2
 |@step y x h3 h4 h5 ih=>
  cases h2 with
  |refl=>exact .inl (.step h3 h4 h5)
  |@step y' _ h6 h7 h8=>
   have:y=y':=ZA
   subst this;exact ih h6
theorem Sub.kids_apart (t:Tree n ids dp){b k j x:Nat}(hk:k∈DW ids b)(hj:j∈DW ids b)(h1:Sub ids k x)(h2:Sub ids j x):k=j:=by
 have one:∀{k j:Nat},k∈DW ids b->j∈DW ids b->Sub ids k j->k=j:=λ{k j} hk hj h=>by
  cases h with
  |refl=>rfl
  |@step y _ h3 h4 h5=>
   have h6:=(kidsL_mem.1 hj).2;have:y=b:=ZA
   subst this;exact absurd h3 (Sub.kid_ne t hk)
 rcases h1.line h2 with h|h
 ·exact one hk hj h
 ·exact (one hj hk h).symm
theorem Sub.split {b x:Nat}(h:Sub ids b x):x=b\/∃k∈DW ids b,Sub ids k x:=by
 induction h with
 |refl=>exact .inl rfl
 |@step y x h1 h2 h3 ih=>
  rcases ih with rfl|⟨k,hk,h⟩
  ·exact .inr ⟨x,kidsL_mem.2 ⟨h2,h3⟩,.refl⟩
  ·exact .inr ⟨k,hk,h.step h2 h3⟩
theorem Sub.lt {b x:Nat}(hb:b<ids.length)(h:Sub ids b x):x<ids.length:=by
 cases h with
 |refl=>exact hb
 |step _ h _=>exact h
def potW (n:Nat)(w:Nat->Nat)(U:Nat->Prop) [DecidablePred U]:Nat:=(((List.range n).filter λx=>decide (U x)).map w).sum
theorem Qa0w {w:Nat->Nat}{U V:Nat->Prop}{b:Nat}(hb:b<n)(hU:U b)(hV:∀x,V x↔U x/\x≠b):potW n w V+w b=potW n w U:=by
 have key:∀m,(((List.range m).filter λx=>decide (V x)).map w).sum+(if b<m then w b else 0)=(((List.range m).filter λx=>decide (U x)).map w).sum:=λm=>by
  induction m with
  |zero=>simp
  |succ m ih=>
   rw[Jav,Jab,Jab,Jw,Jw,Jaw,Jaw];by_cases hm:m=b
   ·subst hm;have h1:decide (V m)=false:=decide_eq_false λh=>((hV m).1 h).2 rfl;have h2:decide (U m)=true:=decide_eq_true hU;have h3:¬m<m:=ZA;rw[if_neg h3]at ih;simp[h1,h2];omega
   ·have h1:decide (V m)=decide (U m):=(by rw[decide_eq_decide,hV];exact⟨λh=>h.1,λh=>⟨h,hm⟩⟩);have h2:(b<m+1)=(b<m):=(by rw[eq_iff_iff];omega);simp only[Ja2,Ja5,h1,h2];omega
 have:=key n;rw[if_pos hb]at this;exact this
theorem Qa5b {w:Nat->Nat}{U V:Nat->Prop}(h:∀x,V x->U x):potW n w V<=potW n w U:=by
 have key:∀m,(((List.range m).filter λx=>decide (V x)).map w).sum<=(((List.range m).filter λx=>decide (U x)).map w).sum:=λm=>by
  induction m with
  |zero=>simp
  |succ m ih=>
   rw[Jav,Jab,Jab,Jw,Jw,Jaw,Jaw];by_cases hv:V m
   ·have h1:decide (V m)=true:=decide_eq_true hv;have h2:decide (U m)=true:=decide_eq_true (h m hv);simp[h1,h2];omega
   ·have h1:decide (V m)=false:=decide_eq_false hv;simp[h1];omega
 exact key n
end Y
namespace Y
attribute [local go_sem] cond_true cond_false Bool.not_true Bool.not_false
open Go.Proofs.Tryz
variable{B Lg:Ul}
theorem Qalz{l:List Nat}(hl:l.length<=2 ^ 30)(hK:∀(fl':Bool) (k:List Nat) H',Upd H H' []->k.Pairwise (· < ·)->(∀x,x∈k↔x∈l)->K (.c (.sl false 1 (Cs k))) H') :
  Qu prog Q0x [.c (.sl fl 1 (Cs l))] H K:=by
 refine Q0 ?_;refine Qd Co Qamd ?_;refine Wd ?_;refine Wa ?_;refine Qh (Qe (Qy (λm e1 H1=>∃(i:Nat) (fl':Bool) (ns:List Int),m=l.length-i/\i<=l.length/\ns.Pairwise (· < ·)/\(∀x,x∈ns↔∃y∈l.take i,(y:Int)=x)/\ns.length<=i/\Kn H H1 [] []/\
  lk 0 e1=.c (.sl fl 1 (Cs l))/\lk 3 e1=.c (.sl fl' 1 (Qb ns))/\lk 4 e1=Uv i) l.length ?_ ?_))
 ·exact⟨0,_,[],ZA,ZA,ZC,ZC,ZC,Kn.an H,Rf0⟩
 ·rintro m e1 H1 ⟨i,fl',ns,hm,hi,ha,dT,bF,kn,l0,l3,l4⟩;refine Q1 (Qa ?_);simp only[go_sem,l0,l3,l4,Q6];intro _;refine Wt ?_ ?_
  ·intro hc;have af:i<l.length:=ZD
   have hg:l.getD i 0=l[i]:=Zaj
   refine Zc ?_
   refine Ws ?_;simp only[go_sem,af,Q6,D5 _ _ af,hg];refine Pi ha ZA λfl2 ns2 H2 hu nB fz kY=>?_;have kn:=kn.au hu;simp only[go_sem,Qup];refine Zg ?_;refine⟨Qv,l.length-(i+1),ZA,i+1,fl2,ns2,rfl,ZA,nB,λx=>?_,ZA,kn,?_⟩
   ·rw[fz,dT,Jf af];constructor
    ·rintro (rfl|⟨y,hy,rfl⟩)
     ·exact⟨l[i],Jn _ (Jb.2 rfl),rfl⟩
     ·exact⟨y,Jl _ hy,rfl⟩
    ·rintro⟨y,hy,rfl⟩;rcases Jj.1 hy with hy|hy
     ·exact .inr ⟨y,hy,rfl⟩
     ·simp only[Jb]at hy;rw[hy];exact .inl rfl
   ·first|exact⟨rfl,rfl,rfl⟩|exact rfl|trivial
  ·intro hc;have bp:l.length<=i:=ZD
   rw[Jc bp]at dT;have hk:ns=(ns.map Int.toNat).map Int.ofNat:=by
    rw[Jbm]
    conv=>lhs;rw[<-Jbw ns]
    refine Jbc λx hx=>?_;obtain⟨y,_,rfl⟩:=(dT x).1 hx;simp
   have kZ:Qb ns=Cs (ns.map Int.toNat):=by (conv=>lhs;rw[hk]);rfl
   refine Zb ?_;refine Zj kZ ?_;refine Zf ?_;refine⟨_,.c _ _ (FrzR.same (Ff _)).sl,hK true (ns.map Int.toNat) _ kn.fin ?_ λx=>?_⟩
   ·rw[hk,Jbl]at ha;exact ha.imp λh=>ZI
   ·rw[Jt];constructor
    ·rintro⟨v,hv,rfl⟩;obtain⟨y,hy,rfl⟩:=(dT v).1 hv;simpa using hy
    ·exact λh=>⟨(x:Int),(dT _).2 ⟨x,h,rfl⟩,ZC⟩
theorem Qaly {p rg:Int}{rows:List (List C)}{nx:Nat->List Int}(hg:GF rows nx)(hf:CX rows.length nx=true)
  (hK:∀(S:List Bool) (o:List Nat) H',Upd H H' []->Dfs (nxN nx) [0] (List.replicate rows.length false) [] S o->K (.c (.sl false 1 (Cs o.reverse))) H') :
  Qu prog RO [.ag [Ui p,Ui rg,.sl fl 5 rows]] H K:=by
 have hn:=hg.n;have cq:=GQ hf;have cI:∀(y:Nat) l a b d,C.sl fl 5 rows=.ah l a b d->l≠y:=by intro y l a b d h;cases h
 refine Q0 ?_;refine Qd Co Qaq0 ?_;refine Za ?_;refine Cv ?_;simp only[go_sem,GX];try intro _
 refine⟨by simp only[LIM];omega,λal ee H1 h1=>?_⟩;have kn:Kn H H1 [] ([(al,.vec 1 (Qx (List.replicate rows.length false)))]++[]):=(Kn.an H).al ee h1;simp only[go_sem,Qyb];refine Rz (F:=H1) hf ZA (hg.grd H1 fl) (cI al) rows.length 0 (List.replicate rows.length false) [] (.sl true 1 []) [] H1 _ ZC ZA cq (EW _ _) kn.mid (.nil 1) ZC λS o oc Lg0 H2 hd k2 cO=>?_;have kn:Kn H H2 [] ([(al,.vec 1 (Qx S))]++Lg0):=by
  have:=(kn.comp k2 rfl);simpa using this
 have bq:=cO.ai;have br:=cO.aQ;have ak:=cO.ay;rw[Q6]at ak;have cW:∀x,x<(List.replicate rows.length false).length->∀y∈nxN nx x,y<(List.replicate rows.length false).length:=by
  rw[Jg];exact λx hx y hy=>F0 hf hx hy
 have lE:∀x∈[0],x<(List.replicate rows.length false).length:=ZaC
 have eJ:o.length<=rows.length:=by
  have h1:=hd.count cW lE;have h2:=GG S;rw[hd.len,Jg]at h2;simp only[Jr]at h1;omega
 simp only[go_sem,Qya];refine Wg ?_;have oD:=eq_true (cO.get kn).1;simp only[go_sem,oD,ak];try intro _
 refine⟨Qv,?_⟩;refine Qh (Qe (Qy (λm e1 H1=>∃(k:Nat) (r:List Nat) (t:C) (Lg:Ul),m=k/\k<=o.length/\r.length+k=o.length/\r=(o.drop k).reverse/\Gr Lg 1 (Cs r) t/\Kn H H1 [] (([(al,.vec 1 (Qx S))]++Lg0)++Lg)/\
  lk 3 e1=.c oc/\lk 4 e1=.c t/\lk 5 e1=Uv ((k:Int)-1)) o.length ?_ ?_))
 ·exact⟨o.length,[],_,[],rfl,ZA,ZC,ZC,.nil 1,ZL,Rf0⟩
 ·clear kn oD;rintro m e1 H3 ⟨k,r,t,Lg,rfl,hk,cF,pM,ax,kn,l3,l4,l5⟩;have fU:=ax.ai;have oD:=eq_true (cO.get kn.drop).1;have de:=(cO.get kn.drop).2;refine Q1 (Qa ?_);simp only[go_sem,l3,l4,l5];refine Wt ?_ ?_
  ·intro hc;have bp:(0:Int)<=(m:Int)-1:=ZD
   obtain⟨k,rfl⟩:∃k,m=k+1:=⟨m-1,ZA⟩;have ek:((k+1:Nat):Int)-1=(k:Int):=ZA
   have af:k<o.length:=ZA
   have b8:o.getD k 0=o[k]:=Zaj
   rw[ek];refine Zc ?_
   refine Ws ?_;simp only[go_sem,oD,ak,br,de,af,D5 _ _ af,b8];refine kn.bk (new:=Cs [o[k]]) ax (.mk' _ _ _ _) (Ff _) (by simp only[Q6,LIM,Jq,Jr];omega) λt2 Lg2 H4 bY cQ kn=>?_;simp only[go_sem,Qyc];refine Zg ?_;refine⟨Qv,k,ZA,k,r++[o[k]],t2,Lg2,rfl,ZA,by simp only[Jay,Jq,Jr];omega,?_,?_,kn,?_⟩
   ·rw[pM,J0 af,List.reverse_cons]
   ·rw[RG];exact bY
   ·first|exact⟨rfl,rfl,rfl⟩|exact rfl|trivial
  ·intro hc;have iI:m=0:=by have:¬(0:Int)<=(m:Int)-1:=ZD;omega
   subst iI;refine Wh ?_;rw[J4]at pM;subst pM;exact⟨_,.c _ _ (ax.frz kn (Ff _)),hK S o _ kn.fin hd⟩
theorem Qaqq {p rg:Int}{rows:List (List C)}{nx:Nat->List Int}(hg:GF rows nx)(hf:CX rows.length nx=true)
  (hK:∀(o:List Nat) H',Upd H H' []->o.length<=rows.length->(∀x,x∈o↔x<rows.length/\CF (nxN nx) (-1) x=true)->K (.c (.sl false 1 (Cs o))) H') :
  Qu prog RO [.ag [Ui p,Ui rg,.sl fl 5 rows]] H K:=by
 have cq:=GQ hf;refine Qaly hg hf λS o H' hu hd=>?_;have cW:∀x,x<(List.replicate rows.length false).length->∀y∈nxN nx x,y<(List.replicate rows.length false).length:=by
  rw[Jg];exact λx hx y hy=>F0 hf hx hy
 have lE:∀x∈[0],x<(List.replicate rows.length false).length:=ZaC
 have cr:∀x,x∈o↔x<rows.length/\CF (nxN nx) (-1) x=true:=λx=>by
  rw[hd.list cW lE (EW _),Oc hf hd,inL];by_cases hx:x<rows.length
  ·rw[PS _ _ hx];simp[hx]
  ·rw[Ja,Js ZaY];simp[hx]
 have eJ:o.length<=rows.length:=by
  have h1:=hd.count cW lE;have h2:=GG S;rw[hd.len,Jg]at h2;simp only[Jr]at h1;omega
 exact hK o.reverse H' hu (by rw[List.length_reverse];exact eJ) λx=>by rw[List.mem_reverse,cr]
noncomputable def rchL (n:Nat)(g:Nat->List Nat):List Nat:=(List.range n).filter (CF g (-1))
theorem Qage {p rg:Int}{rows:List (List C)}{nx:Nat->List Int}(hg:GF rows nx)(hf:CX rows.length nx=true)
  (hK:∀H',Upd H H' []->K (.c (.sl false 1 (Cs (rchL rows.length (nxN nx))))) H') :
  Qu prog Qo6 [.ag [Ui p,Ui rg,.sl fl 5 rows]] H K:=by
 have hn:=hg.n;refine Q0 ?_;refine Qd Co Qaa6 ?_;refine Wi ?_;refine YR (hg.grd H fl) ?_;simp only[go_sem,IE,hf];refine Qh (Qf rfl (λh=>ZH) (λ_=>?_));refine Zc ?_
 refine Za ?_;refine Qaqq hg hf λo H1 hu eJ hom=>?_;have kn:=(Kn.an H).au hu;simp only[go_sem,Qlc];refine Qalz ZA λ_ k H2 hu ha hk=>?_;have kn:=kn.au hu;simp only[go_sem,PA];have e:k=rchL rows.length (nxN nx):=Qasj ha λx=>by rw[hk,hom]
 refine Zf ?_;rw[e];exact⟨_,.c _ _ (FrzR.same (Ff _)).sl,hK _ kn.fin⟩
theorem Qw6 (n:Nat)(v:Int):List.replicate n [C.int .i64 v]=Qb (List.replicate n v):=Zap
theorem F8 (l:List Int)(i:Nat)(v:Int):(Qb l).set i [C.int .i64 v]=Qb (l.set i v):=by simp[Qb,Jac]
def Er (n:Nat)(l:List Nat)(P:List Int):Prop:=P.length=n/\∀x∈l,∃i,∃h:i<l.length,l[i]=x/\P.getD x 0=(i:Int)
theorem Qaqs {n:Nat}{l:List Nat}(hn:n<=1000000)(hl:l.length<=1000000)(hx:∀x∈l,x<n)(hK:∀P H',Er n l P->Upd H H' []->K (.c (.sl false 1 (Qb P))) H') :
  Qu prog Q5j [Uv n,.c (.sl fl 1 (Cs l))] H K:=by
 refine Q0 ?_;refine Qd Co Qaq1 ?_;refine Wd ?_;refine⟨by simp only[LIM];omega,λy hy H1 h1=>?_⟩;rw[Qw6]at h1;have kn:=(Kn.an H).al hy h1;simp only[go_sem,Qyh];refine Wa ?_;refine Qh (Qe (Qy (λm e1 H1=>∃(i:Nat) (P:List Int),m=n-i/\i<=n/\P.length=n/\Kn H H1 [] [(y,.vec 1 (Qb P))]/\
  lk 0 e1=Uv n/\lk 1 e1=.c (.sl fl 1 (Cs l))/\lk 5 e1=.c (.ah y 1 0 n)/\lk 6 e1=Uv i) n ?_ ?_))
 ·exact⟨0,List.replicate n 0,ZA,ZA,ZC,kn,Rf0⟩
 ·clear kn h1;rintro m e1 H2 ⟨i,P,hm,hi,hP,kn,l0,l1,l5,l6⟩;have hy:=kn.l 0 rfl;have bQ:(Qb P).take n=Qb P:=Jc ZZ;refine Q1 (Qa ?_);simp only[go_sem,l0,l1,l5,l6];refine Wt ?_ ?_
  ·intro hc;have af:i<n:=ZD
   refine Zc ?_
   refine Qh (Qe ?_);have yZ:i<P.length:=ZA
   refine Qt ?_;simp only[go_sem,hy,af,Qc,hP,Qk _ _ yZ,F8,Jk,Jh];intro H3 h3;have kn:=kn.az 0 rfl h3;refine Zg ?_;refine⟨Qv,n-(i+1),ZA,i+1,_,rfl,ZA,by rw[Ji];exact hP,kn,?_⟩
   first|exact⟨rfl,rfl,rfl,rfl⟩|exact rfl|trivial
  ·intro hc;refine Zb ?_;refine Wa ?_;refine Qh (Qe (Qy (λm e1 H1=>∃(j:Nat) (P:List Int),m=l.length-j/\j<=l.length/\P.length=n/\(∀x∈l.take j,∃i,∃h:i<l.length,l[i]=x/\P.getD x 0=(i:Int))/\Kn H H1 [] [(y,.vec 1 (Qb P))]/\
    lk 1 e1=.c (.sl fl 1 (Cs l))/\lk 5 e1=.c (.ah y 1 0 n)/\lk 7 e1=Uv j) l.length ?_ ?_))
   ·exact⟨0,P,ZA,ZA,hP,ZC,kn,Rf0⟩
   ·clear kn hy bQ hP;clear P;rintro m e1 H3 ⟨j,P,hm,hj,hP,db,kn,l1,l5,l7⟩;have hy:=kn.l 0 rfl;refine Q1 (Qa ?_);simp only[go_sem,l1,l5,l7,Q6];intro _;refine Wt ?_ ?_
    ·intro hc;have af:j<l.length:=ZD;have b8:l.getD j 0=l[j]:=Zaj;have sO:=hx _ (Je af);have AS:l[j]<P.length:=ZA;refine Zc ?_
     refine Ws ?_;simp only[go_sem,hy,af,Q6,D5 _ _ af,b8,sO,Qc,hP,Qk _ _ AS,F8,Jk,Jh];intro H4 h4;have kn:=kn.az 0 rfl h4;refine Zg ?_;refine⟨Qv,l.length-(j+1),ZA,j+1,_,rfl,ZA,by rw[Ji];exact hP,λx kw=>?_,kn,?_⟩
     ·by_cases jh:x=l[j]
      ·refine⟨j,af,jh.symm,?_⟩;rw[jh,Ja,Ja3 AS];rfl
      ·rw[Jf af]at kw;rcases Jj.1 kw with h|h
       ·obtain⟨i,hi,h1,h2⟩:=db x h;refine⟨i,hi,h1,?_⟩;rw[Ja,Jba (λh=>jh h.symm),<-Ja];exact h2
       ·exact absurd (Jb.1 h) jh
     ·first|exact⟨rfl,rfl,rfl⟩|exact rfl|trivial
    ·intro hc;have bp:l.length<=j:=ZD;rw[Jc bp]at db;refine Wh ?_;exact⟨_,.c _ _ ((FrzR.same (Qr _)).ah (kn.un 0 rfl) hy (by rw[Qc,hP])),hK P _ ⟨hP,db⟩ kn.fin⟩
def DR (ids:List Int)(b n:Nat):List Nat:=(List.range n).filter λi=>decide (ids.getD i 0=(b:Int))
theorem N8 (ids:List Int)(b n:Nat):DR ids b (n+1)=DR ids b n++if decide (ids.getD n 0=(b:Int))=true then [n]else []:=by
 simp only[DR,Jav,Jab];congr 1;by_cases h:ids.getD n 0=(b:Int)
 ·rw[decide_eq_true h,if_pos rfl];simp only[Ja2,Ja5,h,decide_true,if_true]
 ·rw[decide_eq_false h,if_neg ZC];simp only[Ja2,Ja5,h,decide_false,Jax,if_false]
theorem Y8 (ids:List Int)(b n:Nat):(DR ids b n).length<=n:=by
 have:=List.length_filter_le (λi=>decide (ids.getD i 0=(b:Int))) (List.range n);simpa[DR]using this
theorem YP{b:Nat}(hl:ids.length<=1000000)(hK:∀H',Upd H H' []->K (.c (.sl false 1 (Cs (DW ids b)))) H') :
  Qu prog NT [.c (.sl fl 1 (Qb ids)),Uv b] H K:=by
 refine Q0 ?_;refine Qd Co Yd ?_;refine Wd ?_;refine Wa ?_;refine Qh (Qe (Qy (λm e1 H1=>∃(i:Nat) (t:C) (Lg:Ul),m=ids.length-i/\i<=ids.length/\Gr Lg 1 (Cs (DR ids b i)) t/\Kn H H1 [] ([]++Lg)/\
  lk 0 e1=.c (.sl fl 1 (Qb ids))/\lk 1 e1=Uv b/\lk 5 e1=.c t/\lk 6 e1=Uv i) ids.length ?_ ?_))
 ·exact⟨0,_,[],ZA,ZA,.nil 1,Kn.an H,Rf0⟩
 ·rintro m e1 H1 ⟨i,t,Lg,hm,hi,ax,kn,l0,l1,l5,l6⟩;have fU:=ax.ai;refine Q1 (Qa ?_);simp only[go_sem,l0,l1,l5,l6,Qc];intro _;refine Wt ?_ ?_
  ·intro hc;have af:i<ids.length:=ZD
   have cz:=Y8 ids b i;refine Zc ?_
   refine CN (λe2 H2=>∃(t:C) (Lg:Ul),Gr Lg 1 (Cs (DR ids b (i+1))) t/\Kn H H2 [] ([]++Lg)/\
    lk 0 e2=.c (.sl fl 1 (Qb ids))/\lk 1 e2=Uv b/\lk 5 e2=.c t/\lk 6 e2=Uv i) ?_ ?_
   ·intro Q bS _ _;refine Qe (Qa ?_);simp only[go_sem,af,Qc,Qk _ _ af];refine Wu ?_ ?_
    ·intro aC;refine Zh ?_;refine kn.bk (B:=[]) (new:=Cs [i]) ax (.mk' _ _ _ _) (Ff _) (by simp only[Q6,LIM,Jq,Jr];omega) λt2 Lg2 H2 bY cQ kn=>?_;simp only[go_sem,P2];refine bS _ _ ⟨t2,Lg2,?_,kn,Rf0⟩;rw[N8,aC,if_pos rfl,RG];exact bY
    ·intro aC;refine Zc ?_
     refine bS _ _ ⟨t,Lg,?_,kn,Rf0⟩;rw[N8,aC];simpa using ax
   ·rintro e2 H2 ⟨t2,Lg2,bY,kn,l0,l1,l5,l6⟩;have cQ:=bY.ai;refine Qt ?_;simp only[go_sem,X.next,l0,l1,l5,l6];refine⟨Qv,ids.length-(i+1),ZA,i+1,t2,Lg2,rfl,ZA,bY,kn,?_⟩
    first|exact⟨rfl,rfl,rfl,rfl⟩|exact rfl|trivial
  ·intro hc;have bp:i=ids.length:=by have:ids.length<=i:=ZD;omega
   refine Wh ?_;have e:DR ids b i=DW ids b:=by rw[bp];rfl
   rw[e]at ax;exact⟨_,.c _ _ (ax.frz kn (Ff _)),hK _ kn.fin⟩
theorem Qaqu{n:Nat}(cq:0<n)(hn:n<=1000000)(hK:∀ids H',Tree n ids (depL n g)->Upd H H' []->K (.c (.sl false 1 (Qb ids))) H') :
  Qu prog Q5l [.c (.sl fl 1 (Dl n g n))] H K:=by
 have te:Int.toNat (-1)=0:=rfl;refine Q0 ?_;refine Qd Co Qaq3 ?_;refine Wd ?_;refine Wa ?_;refine Qh (Qe (Qy (λm e1 H1=>∃(b:Nat) (ids:List Int) (t:C) (Lg:Ul),m=n-b/\b<=n/\ids.length=b/\(∀x,x<b->ids.getD x 0=-1\/∃a:Nat,ids.getD x 0=a/\a<n/\depL n g a<depL n g x)/\Gr Lg 1 (Qb ids) t/\Kn H H1 [] ([]++Lg)/\
  lk 0 e1=.c (.sl fl 1 (Dl n g n))/\lk 3 e1=.c t/\lk 4 e1=Uv b) n ?_ ?_))
 ·exact⟨0,[],_,[],ZA,ZA,rfl,λx hx=>ZA,.nil 1,Kn.an H,Rf0⟩
 ·rintro m e1 H1 ⟨b,ids,t,Lg,hm,hb,cK,uY,ax,kn,l0,l3,l4⟩;have fU:=ax.ai;refine Q1 (Qa ?_);simp only[go_sem,l0,l3,l4,Iq];intro _;refine Wt ?_ ?_
  ·intro hc;have af:b<n:=ZD
   refine Zc ?_
   refine CN (λe2 H2=>∃(v:Int),(v=-1\/∃a:Nat,v=a/\a<n/\depL n g a<depL n g b)/\∃(t:C) (Lg:Ul),Gr Lg 1 (Qb (ids++[v])) t/\Kn H H2 [] ([]++Lg)/\
    lk 0 e2=.c (.sl fl 1 (Dl n g n))/\lk 3 e2=.c t/\lk 4 e2=Uv b) ?_ ?_
   ·intro Q bS _ _;refine Wr ?_;refine Wa ?_;refine Qh (Qe (Qy (λm e1 H1'=>∃(a:Nat) (v:Int),m=n-a/\a<=n/\H1'=H1/\(v=-1\/∃a:Nat,v=a/\a<n/\depL n g a<depL n g b)/\
     lk 0 e1=.c (.sl fl 1 (Dl n g n))/\lk 3 e1=.c t/\lk 4 e1=Uv b/\lk 5 e1=Uv v/\lk 6 e1=Uv a) n ?_ ?_))
    ·exact⟨0,-1,ZA,ZA,rfl,.inl rfl,Rf0⟩
    ·rintro m2 e2 H2 ⟨a,v,fz,ha,rfl,hv,l0,l3,l4,l5,l6⟩;refine Q1 (Qa ?_);simp only[go_sem,l0,l3,l4,l5,l6,Iq];intro _;refine Wt ?_ ?_
     ·intro aC;have ee:a<n:=ZG;have sy:b<(Ee n g a).length:=(by rw[GV];exact af);refine Zc ?_
      refine CN (λe2 H2'=>∃(v:Int),H2'=H2/\(v=-1\/∃a:Nat,v=a/\a<n/\depL n g a<depL n g b)/\
       lk 0 e2=.c (.sl fl 1 (Dl n g n))/\lk 3 e2=.c t/\lk 4 e2=Uv b/\lk 5 e2=Uv v/\lk 6 e2=Uv a) ?_ ?_
      ·intro Q2 u4 _ _;refine Qe ?_;obtain⟨w,hw,nM,oL⟩:∃w:Nat,v.toNat=w/\w<n/\(decide (v<0)=false->v=(w:Int)):=by
        rcases hv with rfl|⟨a',rfl,h1,_⟩
        ·exact⟨0,rfl,cq,λh=>ZH⟩
        ·exact⟨a',ZA,h1,λ_=>rfl⟩
       have had:a<(Ee n g w).length:=(by rw[GV];exact ee);refine Qa ?_;simp only[go_sem,ee,af,hw,nM,Iq,Q6n ee,Q6n nM,Q4,GV,Q7 _ _ sy,Q7 _ _ had,Q5b af,Q5b ee];refine⟨λh=>?_,?_⟩
       ·rw[Jp,Jbi,decide_eq_false_iff_not]at h;omega
       refine Wu ?_ ?_
       ·intro bv;have hd:¬((a:Int)=b)/\Dd g a b=true:=by
         by_cases eP:(a:Int)=b
         ·rw[decide_eq_true eP]at bv;simp at bv
         ·refine⟨eP,?_⟩
          cases hd:Dd g a b with
          |true=>rfl
          |false=>rw[decide_eq_false eP,hd]at bv;simp at bv
        refine Zh ?_;exact u4 _ _ ⟨(a:Int),rfl,.inr ⟨a,rfl,ee,Qa3c af hd.2 λh=>hd.1 (by rw[h])⟩,Rf0⟩
       ·intro _;refine Zc ?_
        exact u4 _ _ ⟨v,rfl,hv,Rf0⟩
      ·rintro e3 H3 ⟨v2,rfl,ji,l0,l3,l4,l5,l6⟩;refine Qt ?_;simp only[go_sem,l0,l3,l4,l5,l6];refine⟨Qv,?_⟩;show ∃m,_;exact⟨n-(a+1),by rw[fz];exact Nat.sub_lt_sub_left ee (Nat.lt_succ_self a),a+1,v2,rfl,ee,rfl,ji,Rf0⟩
     ·intro aC;refine Zb ?_;refine Zh ?_;refine kn.bk (B:=[]) (new:=Qb [v]) ax (.mk' _ _ _ _) (Qr _) (by simp only[Qc,LIM,Jq,Jr];omega) λt2 Lg2 H3 bY cQ kn=>?_;simp only[go_sem,PE];refine bS _ _ ⟨v,hv,t2,Lg2,?_,kn,Rf0⟩;have:Qb (ids++[v])=Qb ids++Qb [v]:=Zap;rw[this];exact bY
   ·rintro e2 H2 ⟨v,hv,t2,Lg2,bY,kn,l0,l3,l4⟩;have cQ:=bY.ai;refine Qt ?_;simp only[go_sem,X.next,l0,l3,l4];refine⟨Qv,n-(b+1),ZA,b+1,ids++[v],t2,Lg2,rfl,ZA,by simp[cK],λx hx=>?_,bY,kn,?_⟩
    ·by_cases tH:x<b
     ·have e:(ids++[v]).getD x 0=ids.getD x 0:=(by simp[Ja,List.getElem?_append_left (show x<ids.length by omega)]);rw[e];exact uY x tH
     ·have jh:x=b:=ZA;subst jh;have e:(ids++[v]).getD x 0=v:=(by simp[Ja,<-cK]);rw[e];exact hv
    ·first|exact⟨rfl,rfl,rfl⟩|exact rfl|trivial
  ·intro hc;have gC:b=n:=by have:n<=b:=ZD;omega
   subst gC;refine Wh ?_;exact⟨_,.c _ _ (ax.frz kn (Qr _)),hK ids _ ⟨cK,uY⟩ kn.fin⟩
end Y
namespace Y
open Go.Proofs.Tryz
theorem KG {op:Int}(hK:K (.c (.bool (decide (1<=op)&&decide (op<=14)))) H):Qu prog Q5i [Uv op] H K:=by
 refine Qd Co Qaqz ?_;refine Wd ?_;refine EC ?_;simp only[go_sem,PM];refine Zf ?_;exact hK
theorem L4 {n:Int}(hK:K (.c (.bool (decide (0<=n)&&decide (n<=255)))) H):Qu prog Q0t [Uv n] H K:=by
 refine Qd Co Qal5 ?_;refine Wd ?_;refine EC ?_;simp only[go_sem,PM];refine Zf ?_;exact hK
theorem Hb {op:Int}(hK:K (.c (.bool (D0 op))) H):Qu prog Oj [Uv op] H K:=by
 refine Qd Co Yk ?_;refine Wd ?_;refine KG ?_;simp only[go_sem,Pw];refine Zf ?_;have:∀a b c:Bool,(bif bif a then b else false then c else false)=(a&&b&&c):=ZN
 rw[this];have e:(decide (1<=op)&&decide (op<=14))=decide (1<=op/\op<=14):=ZC
 rw[e];exact hK
theorem HD {j:Int}(hK:K (.c (.bool (decide (j=2) || decide (j=3)))) H):Qu prog Q0v [.c (.int .i64 j)] H K:=by
 refine Qd Co Qama ?_;refine Wd ?_;refine Zf ?_;have:∀a b:Bool,(bif a then true else b)=(a || b):=ZN
 first|(rw[this];exact hK)|exact hK
theorem Qamp {j:Int}(hK:K (Uv (CM j)) H):Qu prog Qoz [Uv j] H K:=by
 refine Qd Co Qaa0 ?_;have retf:∀(n:Int) (e:Env),CM j=n->lk 2 e=Uv n->Q5 Cq K .ret e H:=by
  intro b e h1 h3;simp only[go_sem,Q5,Cn,Jb,forall_eq,RS.op,h3];rw[<-h1];exact hK
 refine Wi ?_;refine We ?_;refine Wu ?_ ?_
 ·intro hc;refine Wf ?_;exact retf 1 _ Zah ZB
 intro bN;refine Za ?_;refine Wu ?_ ?_
 ·intro hc;refine Wf ?_;exact retf 2 _ Zah ZB
 intro aC;refine Za ?_;refine Wu ?_ ?_
 ·intro hc;refine Wf ?_;exact retf 0 _ Zah ZB
 ·intro hc;refine Ze ?_;refine Za ?_;refine Ql ?_;exact retf (-1) _ (by simp at hc bN aC;simp[CM,hc,bN,aC]) ZB
def DT (op:Int):Int:=if op=1 then 0 else if op=2\/op=10\/op=11\/op=13 then 1 else 2
theorem YE {op:Int}(hK:K (Uv (DT op)) H):Qu prog Qwo [Uv op] H K:=by
 refine Qd Co Qah4 ?_;have retf:∀(n:Int) (e:Env),DT op=n->lk 2 e=Uv n->Q5 Cq K .ret e H:=by
  intro b e h1 h3;simp only[go_sem,Q5,Cn,Jb,forall_eq,RS.op,h3];rw[<-h1];exact hK
 refine Wi ?_;refine We ?_;refine Wu ?_ ?_
 ·intro hc;refine Wf ?_;exact retf 0 _ (by simp at hc;simp[DT,hc]) ZB
 intro bN;have fin:∀(b:Bool) (e:Env),b=decide (op=2\/op=10\/op=11\/op=13)->lk 6 e=.c (.bool b)->Cr prog Qtw (X.inBlock 0 (X.sq prog Qtx (Q5 Cq K))) e H:=by
  intro b e hb l6;refine Qf l6 ?_ ?_
  ·intro hc;refine Wf ?_;exact retf 1 _ (by rw[hc]at hb;have:=of_decide_eq_true hb.symm;simp at bN;rw[DT,if_neg bN,if_pos this]) ZB
  ·intro hc;refine Ze ?_;refine Za ?_;refine Ql ?_;exact retf 2 _ (by rw[hc]at hb;have:=of_decide_eq_false hb.symm;simp at bN;rw[DT,if_neg bN,if_neg this]) ZB
 refine Wa ?_;refine Wt ?_ ?_
 ·intro hc;refine Ze ?_;exact fin true _ (decide_eq_true (.inl (of_decide_eq_true hc))).symm Zas
 intro aC;refine Za ?_;refine Wu ?_ ?_
 ·intro hc;refine Ze ?_;exact fin true _ (decide_eq_true (.inr (.inl (of_decide_eq_true hc)))).symm Zas
 intro bv;refine Za ?_;refine Wu ?_ ?_
 ·intro hc;refine Ze ?_;exact fin true _ (decide_eq_true (.inr (.inr (.inl (of_decide_eq_true hc))))).symm Zas
 intro dz;refine Zh ?_;refine fin (decide (op=13)) _ ?_ ZB;have a2:=of_decide_eq_false aC;have a3:=of_decide_eq_false bv;have a4:=of_decide_eq_false dz;simp[a2,a3,a4]
theorem Mx {l:List BlkD}(hf:∀b∈l,b.ins.length<=2 ^ 38/\b.ab.length<=2 ^ 38):C2 CA l<=l.length * 549755813888:=by
 induction l with
 |nil=>simp[C2]
 |cons y l ih=>
  have h1:=hf y Jo;have h2:=ih λb hb=>hf b (Jm _ hb);simp only[C2,Ju,Ja1,CA,Jq]at *;omega
theorem Qalg {q:CodeD}(hf:q.fits)(hb:q.blocks.length<=160)(hK:∀H',Upd H H' []->K (Uv (CB q)) H') :
  Qu prog Qou [.ag [Ui q.params,Ui q.ae,.sl fl 5 (Qo q.blocks)]] H K:=by
 refine Q0 ?_;refine Qd Co Qaav ?_;have fZ:=Mx hf;refine Wd ?_;refine Q1 (Qa ?_);simp only[go_sem,Qn];intro _;refine Qh (Qe (Qy (λm e1 H1=>∃(i:Nat),m=q.blocks.length-i/\i<=q.blocks.length/\Kn H H1 [] []/\
  e1=[(3,Uv (C2 CA (q.blocks.take i):Nat)),(7,.c (.sl fl 5 (Qo q.blocks))),(8,.c (Ui q.blocks.length)),(9,Uv i)]) q.blocks.length ?_ ?_))
 ·exact⟨0,ZA,ZA,Kn.an H,rfl⟩
 ·rintro m e1 H1 ⟨i,hm,hi,kn,rfl⟩;refine Za ?_;refine Wt ?_ ?_
  ·intro hc;have af:i<q.blocks.length:=ZD
   have th:=hf _ (Je af);have rb:=FG (f:=CA) af;have aS:=Gc (f:=CA) (l:=q.blocks) (i+1);have ie:CA q.blocks[i]=q.blocks[i].ins.length+q.blocks[i].ab.length:=rfl;have uD:q.blocks.length * 549755813888<=160 * 549755813888:=Jas _ hb;refine Wo ?_;simp only[go_sem,af,Qn,CU _ _ af,BlkD.cells];intro x5 bt H2 h2;have kn:=kn.al bt h2;have bt:=kn.l 0 rfl;simp only[go_sem,Qk2,bt];intro H3 h3;have kn:Kn H H3 [] ([]++[(x5,.st [.sl false 2 (Q3 q.blocks[i].ab),.sl false 4 (Cu q.blocks[i].ins),Ui q.blocks[i].jump,Ui q.blocks[i].on,.sl false 1 (Qb q.blocks[i].next)])]):=kn.az 0 rfl h3;have bt:=kn.l 0 rfl;refine Qt ?_;simp only[go_sem,bt,CR,Qz];intro _ _;refine⟨Qv,Qv,?_⟩;refine Zg ?_;refine⟨Qv,q.blocks.length-(i+1),ZA,i+1,rfl,ZA,kn.drop,?_⟩;rw[rb,ie];have:((C2 CA (q.blocks.take i):Nat):Int)+((q.blocks[i].ab.length:Int)+q.blocks[i].ins.length)=((C2 CA (q.blocks.take i)+(q.blocks[i].ins.length+q.blocks[i].ab.length):Nat):Int):=ZA
   rw[this];rfl
  ·intro hc;have bp:q.blocks.length<=i:=ZD
   refine Wh ?_;rw[Jc bp];exact⟨_,.c _ _ (Qg rfl),hK _ kn.fin⟩
theorem N9 {x7:Nat}{q:CodeD}{v:Int}(h7:H x7=.st q.cells)(hr:-(2^62)<=q.ae)(eE:q.ae<=2^62)(hK:K (.c (.bool (decide (0<=v/\v<=q.ae-1)))) H) :
  Qu prog PT [Uv v,Up x7] H K:=by
 refine Qd Co Qae2 ?_;refine Za ?_;refine Zw h7 ?_;refine⟨Qv,?_⟩;refine EC ?_;simp only[go_sem,Ti];refine Zf ?_;have e:(decide (0<=v)&&decide (v<=q.ae-1))=decide (0<=v/\v<=q.ae-1):=ZC
 rw[e];exact hK
theorem Qaqi {x7 x8:Nat}{q:CodeD}{v:Int}(h7:H x7=.st q.cells)(h8:H x8=.st [.fn PT [.ptr x7 0]])(hr:-(2^62)<=q.ae)(eE:q.ae<=2^62)(hK:K (.c (.bool (!decide (0<=v/\v<=q.ae-1)))) H) :
  Qu prog Qsx [Uv v,Up x8] H K:=by
 refine Qd Co Qae3 ?_;refine Wk ?_;simp only[go_sem,h8,J2,Jy,Ju,J5];refine N9 h7 hr eE ?_;simp only[go_sem,Th];refine Zf ?_;exact hK
theorem HB (p:Int->Bool)(l:List Int):(l.any λx=>!p x) = !l.all p:=by
 induction l with
 |nil=>rfl
 |cons x l ih=>simp only[List.any_cons,List.all_cons,ih];cases p x <;> simp
theorem Qa30{k:Nat}{x:InsD}(hk:k<cs.length)(hr:0<=cs[k].ae)(eE:cs[k].ae<=300)(cL:cs.length<=100)(hK:∀(H':Heap),Upd H H' []->K (.c (.bool (CG cs k x))) H') :
  Qu prog Q5h [.ag [.sl fl 3 (Qm cs)],Uv k,.ag x.cells] H K:=by
 refine Q0 ?_;refine Qd Co Qaqy ?_;refine Zy ?_;refine Qa ?_;simp only[go_sem,hk,Q8,DP _ _ hk,CodeD.cells];intro x7 bz H1 h1;have kn:=(Kn.an H).al bz h1;have bz:=kn.l 0 rfl;simp only[go_sem,PH,bz];intro H2 h2;have kn:=kn.az 0 rfl h2;refine Za ?_;intro x8 aV H3 h3;have kn:=kn.al aV h3;have aV:=kn.l 1 rfl;simp only[go_sem,Qx7,aV];intro H4 h4;have kn:Kn H H4 [] [(x7,.st cs[k].cells),(x8,.st [.fn PT [.ptr x7 0]])]:=kn.az 1 rfl h4;have h7:H4 x7=.st cs[k].cells:=kn.l 0 rfl;have h8:=kn.l 1 rfl;have jq:=Im hk;have retf:∀(b:Bool) (e:Env),CG cs k x=b->lk 6 e=.c (.bool b)->Q5 Cx (unK H K) .ret e H4:=by
  intro b e h1 h3;simp only[go_sem,Q5,Cn,Jb,forall_eq,RS.op,h3];rw[<-h1];exact⟨_,.c _ _ (Qg rfl),hK _ kn.fin⟩
 refine Wa ?_;refine KG ?_;simp only[go_sem,Qx8];have rest2:∀(E1:Env) (b:Bool),insH cs[k].ae x=true->insT cs[k].ae x=(!b)->lk 1 E1=Uv k->lk 3 E1=.c (.pp [.sl fl 3 (Qm cs)])->lk 5 E1=.c (.pp [Ui x.op,Ui x.to,.sl false 1 (Qb x.args),Ui x.n])->lk 45 E1=.c (.bool b)->
   Cr prog (s_im_insOk_8.seq Qx5) (Q5 Cx (unK H K)) E1 H4:=by
  intro E1 b bm cC l1 l3 l5 l45;refine Qh (Qf l45 ?_ ?_)
  ·intro hc;refine Wf ?_;exact retf false _ (by rw[CG,jq,cC,hc];simp) ZB
  intro hc;rw[hc]at cC;have hG:CG cs k x=insL cs k x:=by rw[CG,jq,bm,cC];rfl
  have pQ:1<=x.op/\x.op<=14:=by
   simp only[insH,Jp,decide_eq_true_eq]at bm;exact bm.1
  refine Ze ?_;refine Q1 (Qa ?_);simp only[go_sem,l1,l3,l5];refine We ?_;refine Wu ?_ ?_
  ·intro hc;have bB:x.op=1:=of_decide_eq_true hc;have hL:insL cs k x=(decide ((x.args.length:Int)=0)&&(decide (0<=x.n)&&decide (x.n<=255))):=by
    rw[insL,if_neg ZA];simp[Db,bB]
   refine Qa ?_;simp only[go_sem,Qc];intro _;refine⟨λhb=>?_,λhb=>?_⟩
   ·refine L4 ?_;simp only[go_sem,S3];refine Zk ?_;refine retf _ _ ?_ ZJ;have aW:x.args=[]:=List.length_eq_zero_iff.1 (by have:=of_decide_eq_true hb;omega);rw[hG,hL];simp[aW]
   ·simp only[go_sem,S3,hb];refine Zk ?_;exact retf false _ (by rw[hG,hL,hb];rfl) ZB
  intro bN;have rA:¬x.op=1:=of_decide_eq_false bN;refine Za ?_;refine Wu ?_ ?_
  ·intro hc;have bB:x.op=14:=of_decide_eq_true hc;rw[insL,if_pos bB]at hG;refine Zu ?_;refine⟨Qv,?_⟩;refine EC ?_;by_cases bT:0<=x.n/\x.n<=(k:Int)-1
   ·obtain⟨m,hm⟩:=Ja0 bT.1;have cU:m<cs.length:=ZA;have h1:(0<=(m:Int))=True:=eq_true ZA;have h2:((m:Int)<=(k:Int)-1)=True:=eq_true ZA;simp only[go_sem,PN,hm,h1,h2,cU,decide_true,Bool.and_self,Q8,DP _ _ cU,CodeD.cells,Qc];refine Zk ?_;refine retf _ _ ?_ ZJ;rw[hG,hm,Int.toNat_natCast,GJ cU];simp only[h1,h2,and_self,decide_true,Jbr]
   ·have iL:(decide (0<=x.n)&&decide (x.n<=(k:Int)-1))=false:=(by simpa using bT);have uV:decide (0<=x.n/\x.n<=(k:Int)-1)=false:=(by simpa using bT);by_cases hm:x.n.toNat<cs.length
    ·simp only[go_sem,PN,iL,DP _ _ hm,CodeD.cells];refine Zk ?_;exact retf false _ (by rw[hG,uV];rfl) ZB
    ·have b8:(Qm cs).getD x.n.toNat []=[]:=by
      rw[Ja,Js (by rw[Q8];omega)];rfl
     simp only[go_sem,PN,iL,b8,List.take_nil,List.headD_nil];refine Zk ?_;exact retf false _ (by rw[hG,uV];rfl) ZB
  ·intro hc;have bB:¬x.op=14:=of_decide_eq_false hc;have hA:Db x.op=DT x.op:=by
    rw[Db,DT,if_neg rA,if_neg rA];split
    ·rfl
    ·rw[if_pos ZA]
   have hL:insL cs k x=(decide (x.n=0)&&decide ((x.args.length:Int)=DT x.op)):=by
    rw[insL,if_neg bB,hA];by_cases hn:x.n=0
    ·simp[hn]
    ·simp[hn,rA]
   refine Ze ?_;refine Cv ?_;simp only[go_sem,Qc];refine⟨λhb=>?_,λhb=>?_⟩
   ·refine YE ?_;simp only[go_sem,SF,hb,Qc];refine Ql ?_;refine retf _ _ ?_ ZJ;have aW:=of_decide_eq_true hb;rw[hG,hL];simp[aW]
   ·simp only[go_sem,SF,hb,Qc];refine Ql ?_;exact retf false _ (by rw[hG,hL,hb];rfl) ZB
 have rest:∀(E1:Env) (b:Bool),insH cs[k].ae x=(!b)->lk 1 E1=Uv k->lk 3 E1=.c (.pp [.sl fl 3 (Qm cs)])->lk 5 E1=.c (.pp [Ui x.op,Ui x.to,.sl false 1 (Qb x.args),Ui x.n])->lk 8 E1=Up x8->lk 24 E1=.c (.bool b)->
   Cr prog (s_im_insOk_4.seq Qx6) (Q5 Cx (unK H K)) E1 H4:=by
  intro E1 b hb l1 l3 l5 l8 l24;refine Qh (Qf l24 ?_ ?_)
  ·intro hc;refine Wf ?_;exact retf false _ (by rw[CG,jq,hb,hc];rfl) ZB
  intro hc;rw[hc]at hb;refine Ze ?_;refine Q1 (Qa ?_);simp only[go_sem,l5];refine Hb ?_
  cases cU:D0 x.op with
  |true=>
   simp only[go_sem,Jz,S4,l5,l8,h8];refine N9 h7 ZA ZA ?_;have hT:insT cs[k].ae x=decide (0<=x.to/\x.to<=cs[k].ae-1):=by rw[insT,cU];rfl
   cases hd:decide (0<=x.to/\x.to<=cs[k].ae-1)with
   |true=>
    simp only[go_sem,cond_true,Jat,Jz,PF,l5];refine Hb ?_;simp only[go_sem,cond_false,Jat,Jz,PG,l1,l3,l5,cU];exact rest2 _ false hb (by rw[hT,hd];rfl) ZB ZB ZB ZB
   |false=>
    simp only[go_sem,cond_true,Jat,Jz,PF,PG,l1,l3,l5];exact rest2 _ true hb (by rw[hT,hd];rfl) ZB ZB ZB ZB
  |false=>
   have hT:insT cs[k].ae x=decide (x.to=-1):=by rw[insT,cU];rfl
   simp only[go_sem,cond_false,Jz,S4,PF,l5,l8,h8];refine Hb ?_;simp only[go_sem,cond_true,cond_false,Jz,PG,l1,l3,l5,cU];refine rest2 _ (!decide (x.to=-1)) hb ?_ ?_ ?_ ?_ ?_
   ·rw[hT];simp
   ·rfl
   ·rfl
   ·rfl
   ·rfl
 cases hi:(decide (1<=x.op)&&decide (x.op<=14))with
 |false=>
  simp only[go_sem,S5];refine rest _ true ?_ ZB ZB ZB ZB ZB;have:decide (1<=x.op/\x.op<=14)=false:=ZV
  rw[insH,this];rfl
 |true=>
  simp only[go_sem];refine Ky (p:=λr=>!decide (0<=r/\r<=cs[k].ae-1)) (.mk' _ _ _ _) rfl (λv K' hv py=>Qaqi h7 h8 ZA ZA py) ?_;simp only[go_sem,S5];refine rest _ (x.args.any λr=>!decide (0<=r/\r<=cs[k].ae-1)) ?_ ZB ZB ZB ZB ZB;have:decide (1<=x.op/\x.op<=14)=true:=ZV
  rw[insH,this,HB,D3];simp
end Y
namespace Y
attribute [local go_sem] cond_true cond_false Bool.not_true Bool.not_false
open Go.Proofs.Tryz
theorem Qagn{l:List InsD}{f:Nat}
  (hf:∀(x:InsD) (H1:Heap) (K':V->Heap->Prop),x∈l->(∀H2,Upd H1 H2 []->K' (.c (.bool (p x))) H2)->Qu prog f ([.ag x.cells]++caps.map .c) H1 K')
  (hK:∀(r:Int) (H':Heap),Upd H H' []->decide (0<=r)=l.any p->K (Uv r) H') :
  Qu prog Qhn [.c (.sl fl 4 (Cu l)),.c (.fn f caps)] H K:=by
 refine Q0 ?_;refine Qd Co Qxb ?_;refine Wg ?_;simp only[go_sem,CR];intro hl;simp only[LIM]at hl;refine Qh (Qe (Qy (λm e1 H1=>∃(i:Nat),m=l.length-i/\i<=l.length/\Kn H H1 [] []/\(∀x∈l.take i,p x=false)/\e1=[(0,.c (.sl fl 4 (Cu l))),(1,.c (.fn f caps)),(7,.c (Ui l.length)),(8,Uv i)]) l.length ?_ ?_))
 ·exact⟨0,ZA,ZA,Kn.an H,ZC,rfl⟩
 ·rintro m e1 H1 ⟨i,hm,hi,kn,cd,rfl⟩;refine Za ?_;refine Wt ?_ ?_
  ·intro hc;have af:i<l.length:=ZD
   refine Ze ?_;refine We ?_;refine Qa ?_;simp only[go_sem,af,CR,Fd _ _ af,InsD.cG,InsD.b6,InsD.len4];refine hf _ _ _ (Je af) λH2 hu=>?_;have kn:=kn.au hu;refine Wu ?_ ?_
   ·intro aC;refine Za ?_;refine Zo ?_;refine⟨_,.c _ _ (Qg rfl),hK _ _ kn.fin ?_⟩;have:l.any p=true:=J9.2 ⟨_,Je af,aC⟩;rw[this];simp
   ·intro aC;refine Wl ?_;refine⟨Qv,l.length-(i+1),ZA,i+1,rfl,ZA,kn,?_,rfl⟩;rw[Jf af];intro x hx;rcases Jj.1 hx with hx|hx
    ·exact cd x hx
    ·simp only[Jb]at hx;subst hx;exact aC
  ·intro hc;have bp:l.length<=i:=ZD
   rw[Jc bp]at cd;refine Wh ?_;refine⟨_,.c _ _ (Qg rfl),hK _ _ kn.fin ?_⟩;have:l.any p=false:=by
    cases hc:l.any p with
    |false=>rfl
    |true=>obtain⟨x,hx,hp⟩:=J9.1 hc;rw[cd x hx]at hp;exact absurd hp ZC
   rw[this];rfl
theorem Q44{l:List InsD}{f:Nat}
  (hf:∀(x:InsD) (H1:Heap) (K':V->Heap->Prop),x∈l->(∀H2,Upd H1 H2 []->K' (.c (.bool (p x))) H2)->Qu prog f ([.ag x.cells]++caps.map .c) H1 K')
  (hK:∀(H':Heap),Upd H H' []->K (.c (.bool (l.any p))) H') :
  Qu prog Qeg [.c (.sl fl 4 (Cu l)),.c (.fn f caps)] H K:=by
 refine Qd Co Qpe ?_;refine Wd ?_;refine Qagn hf λr H' hu hr=>?_;simp only[go_sem,GC];refine Zf ?_;rw[hr];exact hK _ hu
theorem RU{q:CodeD}{v:Int}(h5:H x5=.st q.cells)(hr:-(2^62)<=q.ae)(eE:q.ae<=2^62)(hK:K (.c (.bool (decide (0<=v/\v<=q.ae-1)))) H) :
  Qu prog EX [Uv v,Up x5] H K:=by
 refine Qd Co Qaaw ?_;refine Za ?_;refine Zw h5 ?_;refine⟨Qv,?_⟩;refine EC ?_;simp only[go_sem,Ti];refine Zf ?_;have e:(decide (0<=v)&&decide (v<=q.ae-1))=decide (0<=v/\v<=q.ae-1):=ZC
 rw[e];exact hK
theorem Qalh{q:CodeD}{v:Int}(h5:H x5=.st q.cells)(hb:q.blocks.length<=2 ^ 38)(hK:K (.c (.bool (!DV (Qo q.blocks).length v))) H) :
  Qu prog Qov [Uv v,Up x5] H K:=by
 refine Qd Co Qaax ?_;refine Wk ?_;simp only[go_sem,h5,CodeD.cells,Qn];intro _;refine⟨Qv,?_⟩;refine EC ?_;simp only[go_sem,Ri];refine Zf ?_;have e:(decide (1<=v)&&decide (v<=(q.blocks.length:Int)-1))=DV (Qo q.blocks).length v:=by simp[DV,Qn]
 rw[e];exact hK
theorem Qali{k:Nat}{x:InsD}(hk:k<cs.length)(hr:0<=cs[k].ae)(eE:cs[k].ae<=300)(cL:cs.length<=100)(hK:∀(H':Heap),Upd H H' []->K (.c (.bool (!CG cs k x))) H') :
  Qu prog Qow [.ag x.cells,.c (.pp [.sl fl 3 (Qm cs)]),.c (.pp [Ui k])] H K:=by
 refine Qd Co Qaay ?_;refine Zy ?_;refine Za ?_;refine Qa30 hk hr eE cL λH' hu=>?_;simp only[go_sem,Qk3];refine Zf ?_;exact hK _ hu
theorem Qalj {x6:Nat}{q:CodeD}{v:Int}(h5:H x5=.st q.cells)(h6:H x6=.st [.fn EX [.ptr x5 0]])(hr:-(2^62)<=q.ae)(eE:q.ae<=2^62)(hK:K (.c (.bool (!decide (0<=v/\v<=q.ae-1)))) H) :
  Qu prog Qox [Uv v,Up x6] H K:=by
 refine Qd Co Qaaz ?_;refine Wk ?_;simp only[go_sem,h6,J2,Jy,Ju,J5];refine RU h5 hr eE ?_;simp only[go_sem,Th];refine Zf ?_;exact hK
attribute [local instance] Classical.propDecidable
def blkC (b:BlkD):Obj:=.st [.sl false 2 (Q3 b.ab),.sl false 4 (Cu b.ins),.int .i64 b.jump,.int .i64 b.on,.sl false 1 (Qb b.next)]
theorem Ni{k:Nat}{hk:k<cs.length}(h:¬Dt cs k hk):decide (Dt cs k hk)=false:=decide_eq_false h
theorem V4{k:Nat}(hk:k<cs.length)(cL:cs.length<=100)(aT:cs[k].fits)(hK:∀(H':Heap),Upd H H' []->K (.c (.bool (decide (Dt cs k hk)))) H') :
  Qu prog Q0s [.ag [.sl fl 3 (Qm cs)],Uv k] H K:=by
 refine Q0 ?_;refine Qd Co Qal4 ?_;have retf:∀(v:Bool) (e:Env) (H':Heap) (L:Ul),decide (Dt cs k hk)=v->Kn H H' [] L->lk 4 e=.c (.bool v)->Q5 Cp (unK H K) .ret e H':=by
  intro v e H' L hb kn h3;simp only[go_sem,Q5,Cn,Jb,forall_eq,RS.op,h3];rw[<-hb];exact⟨_,.c _ _ (Qg rfl),hK _ kn.fin⟩
 obtain⟨q,hq⟩:∃q,cs[k]=q:=⟨_,rfl⟩;have hP:Dt cs k hk=(Dz q=true/\∀(b:Nat) (h:b<q.blocks.length),CP cs k b q q.blocks[b]=true):=by subst hq;rfl
 refine Wk ?_;simp only[go_sem,hk,Q8,DP _ _ hk,CodeD.cells,hq];intro x5 bt H1 h1;have kn:=(Kn.an H).al bt h1;have bt:=kn.l 0 rfl;simp only[go_sem,Qtt,bt];intro H2 h2;have kn:Kn H H2 [] [(x5,.st q.cells)]:=kn.az 0 rfl h2;have bt:H2 x5=.st [Ui q.params,Ui q.ae,.sl false 5 (Qo q.blocks)]:=kn.l 0 rfl;refine Q1 (Qa ?_);simp only[go_sem,bt];refine EC ?_;have rest0:∀(b:Bool) (E1:Env),Dz q=(!b)->lk 2 E1=.c (.pp [.sl fl 3 (Qm cs)])->lk 3 E1=.c (.pp [Ui k])->lk 5 E1=Up x5->lk 36 E1=.c (.bool b)->
   Cr prog (s_im_codeOk_4.seq Qtq) (Q5 Cp (unK H K)) E1 H2:=by
  intro b E1 hb l2 l3 l5 l36;refine Qh (Qf l36 ?_ ?_)
  ·intro hc;refine Wf ?_;exact retf false _ _ _ (Ni λh=>by rw[hP,hb,hc]at h;simp at h) kn ZB
  intro hc;rw[hc]at hb;have aW:=hb;simp only[Dz,Jz,Jp,decide_eq_true_eq]at aW;obtain⟨bI,cN,eB,bj⟩:0<=q.ae/\q.ae<=300/\0<q.blocks.length/\q.blocks.length<=160:=ZA
  refine Ze ?_;refine Zj l5 ?_;intro x6 aY H3 h3;have kn:=kn.al aY h3;have aY:=kn.l 1 rfl;simp only[go_sem,Qtu,aY,l2,l3,l5];intro H4 h4;have kn:Kn H H4 [] [(x5,.st q.cells),(x6,.st [.fn EX [.ptr x5 0]])]:=kn.az 1 rfl h4;have bt:H4 x5=.st [Ui q.params,Ui q.ae,.sl false 5 (Qo q.blocks)]:=kn.l 0 rfl;refine Q1 (Qa ?_);simp only[go_sem,bt,Qn];intro _;refine Qh (Qe (Qy (λm e1 H1=>∃(j:Nat),m=q.blocks.length-j/\j<=q.blocks.length/\(∀(i:Nat) (hi:i<q.blocks.length),i<j->CP cs k i q q.blocks[i]=true)/\Kn H H1 [] [(x5,.st q.cells),(x6,.st [.fn EX [.ptr x5 0]])]/\
   e1=[(2,.c (.pp [.sl fl 3 (Qm cs)])),(3,.c (.pp [Ui k])),(5,Up x5),(6,Up x6),(39,.c (.sl false 5 (Qo q.blocks))),(40,.c (Ui q.blocks.length)),(41,Uv j)]) q.blocks.length ?_ ?_))
  ·exact⟨0,ZA,ZA,λ_ _ h=>ZA,kn,rfl⟩
  ·rintro m e1 H5 ⟨j,hm,hj,da,kn,rfl⟩;refine Za ?_;refine Wt ?_ ?_
   ·intro bN;have af:j<q.blocks.length:=ZaZ;have th:q.blocks[j].ins.length<=2 ^ 38/\q.blocks[j].ab.length<=2 ^ 38:=(by subst hq;exact aT _ (Je af));refine Ze ?_;refine CN (λe2 H2=>Kn H H2 [] [(x5,.st q.cells),(x6,.st [.fn EX [.ptr x5 0]])]/\CP cs k j q q.blocks[j]=true/\lk 2 e2=.c (.pp [.sl fl 3 (Qm cs)])/\lk 3 e2=.c (.pp [Ui k])/\lk 5 e2=Up x5/\lk 6 e2=Up x6/\
     lk 39 e2=.c (.sl false 5 (Qo q.blocks))/\lk 40 e2=.c (Ui q.blocks.length)/\lk 41 e2=Uv j) ?_ ?_
    ·intro Q bS mz _;replace mz:∀e H',Q5 Cp (unK H K) .ret e H'->Q .ret e H':=λe H' h=>mz e H' (by simpa only[go_sem,X.next]using h);have retq:∀(e:Env) (H':Heap) (L:Ul),CP cs k j q q.blocks[j]=false->Kn H H' [] L->lk 4 e=.c (.bool false)->Q .ret e H':=λe H' L hb kn l4=>
      mz e H' (retf false e H' L (Ni λh=>by rw[hP]at h;rw[h.2 j af]at hb;exact absurd hb ZC) kn l4)
     have kM:CP cs k j q q.blocks[j]=(Dp q.ae q.blocks[j]&&q.blocks[j].next.all (DV (Qo q.blocks).length)&&q.blocks[j].ins.all (CG cs k)&&q.blocks[j].ab.all (phiG q.ae (Qs (gnx q) (j:Int) (Qo q.blocks).length).length j)):=rfl;refine Qe (Qa ?_);simp only[go_sem,af,Qn,CU _ _ af,BlkD.cells];obtain⟨y,hy⟩:∃y,q.blocks[j]=y:=⟨_,rfl⟩;rw[hy]at kM retq th bS;rw[hy];intro x8 aV H6 h6;have kn:=kn.al aV h6;have aV:=kn.l 2 rfl;simp only[go_sem,Qtv,aV];intro H7 h7;have kn:Kn H H7 [] [(x5,.st q.cells),(x6,.st [.fn EX [.ptr x5 0]]),(x8,blkC y)]:=kn.az 2 rfl h7;have bt:H7 x5=.st [Ui q.params,Ui q.ae,.sl false 5 (Qo q.blocks)]:=kn.l 0 rfl;have md:H7 x5=.st q.cells:=kn.l 0 rfl;have aY:=kn.l 1 rfl;have aV:H7 x8=.st [.sl false 2 (Q3 y.ab),.sl false 4 (Cu y.ins),Ui y.jump,Ui y.on,.sl false 1 (Qb y.next)]:=kn.l 2 rfl;have rest3:∀(E1:Env) (H8:Heap),Dp q.ae y=true->y.next.all (DV (Qo q.blocks).length)=true->y.ins.all (CG cs k)=true->Kn H H8 [] [(x5,.st q.cells),(x6,.st [.fn EX [.ptr x5 0]]),(x8,blkC y)]->
       lk 2 E1=.c (.pp [.sl fl 3 (Qm cs)])->lk 3 E1=.c (.pp [Ui k])->lk 5 E1=Up x5->lk 6 E1=Up x6->lk 7 E1=Uv j->lk 8 E1=Up x8->
       lk 39 E1=.c (.sl false 5 (Qo q.blocks))->lk 40 E1=.c (Ui q.blocks.length)->lk 41 E1=Uv j->Cr prog SH (X.inBlock 1 Q) E1 H8:=by
      intro E1 H8 g1 g2 g3 kn l2 l3 l5 l6 l7 l8 l39 l40 l41;have bt:H8 x5=.st [Ui q.params,Ui q.ae,.sl false 5 (Qo q.blocks)]:=kn.l 0 rfl;have bT:(decide (0<=(j:Int))&&decide ((j:Int)<=((Qo q.blocks).length:Int)-1))=true:=(by rw[Qn];simp;omega);refine Zp bt l5 l7 ?_;refine Q45 (rows:=Qo q.blocks) (nx:=gnx q) (Fb _ q false) λfl' H9 hu=>?_;have kn:=kn.au hu;rw[ES,if_pos bT];generalize mU:Qs (gnx q) (j:Int) (Qo q.blocks).length=ps;rw[mU]at kM;simp only[go_sem,Qp6,l2,l3,l5,l6,l7,l8,l39,l40,l41,Qc];intro _;have aV:H9 x8=.st [.sl false 2 (Q3 y.ab),.sl false 4 (Cu y.ins),Ui y.jump,Ui y.on,.sl false 1 (Qb y.next)]:=kn.l 2 rfl;refine Qa ?_;simp only[go_sem,aV,Qz];intro _;refine Qe (Qy (λm e1 H1=>∃(i:Nat),m=y.ab.length-i/\i<=y.ab.length/\(y.ab.take i).all (phiG q.ae ps.length j)=true/\Kn H H1 [] [(x5,.st q.cells),(x6,.st [.fn EX [.ptr x5 0]])]/\
       e1=[(2,.c (.pp [.sl fl 3 (Qm cs)])),(3,.c (.pp [Ui k])),(5,Up x5),(6,Up x6),(7,Uv j),(9,.c (Ui ps.length)),(39,.c (.sl false 5 (Qo q.blocks))),(40,.c (Ui q.blocks.length)),(41,Uv j),(91,.c (.sl false 2 (Q3 y.ab))),(92,.c (Ui y.ab.length)),(93,Uv i)]) y.ab.length ?_ ?_)
      ·exact⟨0,ZA,ZA,rfl,kn.drop (A:=[_,_]),rfl⟩
      ·rintro m2 e1 H10 ⟨i,fz,hi,cd,kn,rfl⟩;refine Za ?_;refine Wt ?_ ?_
       ·intro aC;have cK:i<y.ab.length:=ZG;refine Wo ?_;simp only[go_sem,cK,Qz,D2 _ _ cK,PhiD.cells];obtain⟨z,hz⟩:∃z,y.ab[i]=z:=⟨_,rfl⟩;rw[hz];intro x11 eR H11 eC;have kn:=kn.al eR eC;have eR:=kn.l 2 rfl;simp only[go_sem,Qp7,eR];intro H12 jf;have kn:Kn H H12 [] ([(x5,.st q.cells),(x6,.st [.fn EX [.ptr x5 0]])]++[(x11,.st [Ui z.to,.sl false 1 (Qb z.args)])]):=kn.az 2 rfl jf;have md:H12 x5=.st q.cells:=kn.l 0 rfl;have aY:=kn.l 1 rfl;have eR:=kn.l 2 rfl;have fin:∀(b3:Bool) (E1:Env),phiG q.ae ps.length j z=(!b3)->lk 2 E1=.c (.pp [.sl fl 3 (Qm cs)])->lk 3 E1=.c (.pp [Ui k])->lk 5 E1=Up x5->lk 6 E1=Up x6->lk 7 E1=Uv j->lk 9 E1=.c (Ui ps.length)->
          lk 39 E1=.c (.sl false 5 (Qo q.blocks))->lk 40 E1=.c (Ui q.blocks.length)->lk 41 E1=Uv j->lk 91 E1=.c (.sl false 2 (Q3 y.ab))->lk 92 E1=.c (Ui y.ab.length)->lk 93 E1=Uv i->lk 118 E1=.c (.bool b3)->
          Cr prog Qtn (X.inBlock 3 (X.sq prog Qto (X.next (λe2 H2=>∃m,m<m2/\∃(i:Nat),m=y.ab.length-i/\i<=y.ab.length/\(y.ab.take i).all (phiG q.ae ps.length j)=true/\Kn H H2 [] [(x5,.st q.cells),(x6,.st [.fn EX [.ptr x5 0]])]/\
           e2=[(2,.c (.pp [.sl fl 3 (Qm cs)])),(3,.c (.pp [Ui k])),(5,Up x5),(6,Up x6),(7,Uv j),(9,.c (Ui ps.length)),(39,.c (.sl false 5 (Qo q.blocks))),(40,.c (Ui q.blocks.length)),(41,Uv j),(91,.c (.sl false 2 (Q3 y.ab))),(92,.c (Ui y.ab.length)),(93,Uv i)])
           (X.inBlock 2 (X.inBlock 1 Q))))) E1 H12:=by
         intro b3 E1 fb l2 l3 l5 l6 l7 l9 l39 l40 l41 l91 l92 l93 l118;refine Qf l118 ?_ ?_
         ·intro bv;refine Wp ?_;exact retq _ _ _ (by rw[kM,Gu cK (by rw[hz,fb,bv];rfl)];simp) kn ZB
         ·intro bv;refine Ze ?_;refine Qt ?_;simp only[go_sem,X.next,l2,l3,l5,l6,l7,l9,l39,l40,l41,l91,l92,l93];exact⟨Qv,y.ab.length-(i+1),ZA,i+1,rfl,ZA,by rw[Ru cK,cd,hz,fb,bv];rfl,kn.drop,rfl⟩
        have wm:phiG q.ae ps.length j z=(!decide (j=0)&&decide ((z.args.length:Int)=ps.length)&&D3 q.ae z.args&&decide (0<=z.to/\z.to<=q.ae-1)):=rfl;refine Za ?_
        cases lM:decide ((j:Int)=0)with
        |true=>
         have rT:decide (j=0)=true:=(by simpa using lM);simp only[go_sem,Kv,Kw];exact fin true _ (by rw[wm,rT];rfl) ZB ZB ZB ZB ZB ZB ZB ZB ZB ZB ZB ZB ZB
        |false=>
         have rT:decide (j=0)=false:=(by simpa using lM);simp only[go_sem,eR,aY,Ju,J5];refine RU md ZA ZA ?_
         cases ht:decide (0<=z.to/\z.to<=q.ae-1)with
         |false=>
          simp only[go_sem,Kv,Kw];exact fin true _ (by rw[wm,ht];simp) ZB ZB ZB ZB ZB ZB ZB ZB ZB ZB ZB ZB ZB
         |true=>
          by_cases ee:(z.args.length:Int)=ps.length
          ·simp only[go_sem,Kv,eR,Qc,ee,decide_true,Jat];intro _;refine Ky (p:=λr=>!decide (0<=r/\r<=q.ae-1)) (.mk' _ _ _ _) rfl (λv K' hv py=>Qalj md aY ZA ZA py) ?_;simp only[go_sem,Kw];refine fin (z.args.any λr=>!decide (0<=r/\r<=q.ae-1)) _ ?_ ZB ZB ZB ZB ZB ZB ZB ZB ZB ZB ZB ZB ZB;rw[wm,rT,ht,HB,ee,D3];simp
          ·simp only[go_sem,Kv,Kw,eR,Qc,ee,decide_false,Jz];intro _;exact fin true _ (by rw[wm];simp[ee]) ZB ZB ZB ZB ZB ZB ZB ZB ZB ZB ZB ZB ZB
       ·intro aC;have bp:y.ab.length<=i:=ZG;rw[Jc bp]at cd;refine Zb ?_;exact bS _ _ ⟨kn,by rw[kM,g1,g2,g3,cd];rfl,Rf0⟩
     have rest2:∀(b1:Bool) (E1:Env),Dp q.ae y=(!b1)->lk 2 E1=.c (.pp [.sl fl 3 (Qm cs)])->lk 3 E1=.c (.pp [Ui k])->lk 5 E1=Up x5->lk 6 E1=Up x6->lk 7 E1=Uv j->lk 8 E1=Up x8->
       lk 39 E1=.c (.sl false 5 (Qo q.blocks))->lk 40 E1=.c (Ui q.blocks.length)->lk 41 E1=Uv j->lk 75 E1=.c (.bool b1)->Cr prog (s_im_codeOk_11.seq Qtp) (X.inBlock 1 Q) E1 H7:=by
      intro b1 E1 bm l2 l3 l5 l6 l7 l8 l39 l40 l41 l75;refine Qh (Qf l75 ?_ ?_)
      ·intro aC;refine Wf ?_;exact retq _ _ _ (by rw[kM,bm,aC];simp) kn ZB
      intro aC;rw[aC]at bm;refine Ze ?_;refine Q1 (Qa ?_);simp only[go_sem,aV,l5,l8];refine Ky (p:=λv=>!DV (Qo q.blocks).length v) (.mk' _ _ _ _) rfl (λv K' hv py=>Qalh md ZA py) ?_;have fin:∀(b:Bool) (E1:Env) (H8:Heap),(y.next.all (DV (Qo q.blocks).length)&&y.ins.all (CG cs k))=(!b)->Kn H H8 [] [(x5,.st q.cells),(x6,.st [.fn EX [.ptr x5 0]]),(x8,blkC y)]->lk 2 E1=.c (.pp [.sl fl 3 (Qm cs)])->lk 3 E1=.c (.pp [Ui k])->lk 5 E1=Up x5->lk 6 E1=Up x6->lk 7 E1=Uv j->lk 8 E1=Up x8->
        lk 39 E1=.c (.sl false 5 (Qo q.blocks))->lk 40 E1=.c (Ui q.blocks.length)->lk 41 E1=Uv j->lk 85 E1=.c (.bool b)->Cr prog (s_l2Form_8.seq SH) (X.inBlock 1 Q) E1 H8:=by
       intro b E1 H8 hb kn l2 l3 l5 l6 l7 l8 l39 l40 l41 l85;refine Qh (Qf l85 ?_ ?_)
       ·intro bv;refine Wf ?_;exact retq _ _ _ (by rw[kM,Bool.and_assoc (Dp _ _),hb,bv];simp) kn ZB
       ·intro bv;rw[bv]at hb;simp only[Jz,Jp]at hb;refine Ze ?_;exact rest3 E1 H8 bm hb.1 hb.2 kn l2 l3 l5 l6 l7 l8 l39 l40 l41
      rw[HB]
      cases ha:y.next.all (DV (Qo q.blocks).length)with
      |false=>
       simp only[go_sem,SS,ST,l2,l3,l5,l6,l7,l8,l39,l40,l41];exact fin true _ _ (by rw[ha];rfl) kn ZB ZB ZB ZB ZB ZB ZB ZB ZB ZB
      |true=>
       simp only[go_sem,SS,aV,l2,l3,l8];refine Q44 (p:=λx=>!CG cs k x) (λx H1 K' hx py=>Qali hk (by rw[hq];exact bI) (by rw[hq];exact cN) cL py) λH8 hu=>?_;have kn:=kn.au hu;simp only[go_sem,ST,l2,l3,l5,l6,l7,l8,l39,l40,l41];refine fin (y.ins.any λx=>!CG cs k x) _ _ ?_ kn ZB ZB ZB ZB ZB ZB ZB ZB ZB ZB;rw[ha,<-List.not_all_eq_any_not];simp
     refine Q1 (Cv ?_);simp only[go_sem,aV,Qc];refine Qamp ?_;have ww:Dp q.ae y=(decide ((y.next.length:Int)=CM y.jump)&&if y.jump=1 then decide (y.on=0)else decide (0<=y.on/\y.on<=q.ae-1)):=rfl;by_cases hn:(y.next.length:Int)=CM y.jump
     ·have zu:y.jump=1\/(y.jump=2\/y.jump=3)/\¬y.jump=1:=by
       rw[CM]at hn;split at hn
       ·exact .inl ‹_›
       ·split at hn
        ·omega
        ·split at hn
         ·omega
         ·omega
      simp only[go_sem,SU,aV,Qc,hn,decide_true,Jat];refine HD ?_;rcases zu with h1|⟨h1,h2⟩
      ·have hu:(decide (y.jump=2) || decide (y.jump=3))=false:=Zbn;simp only[go_sem,PO,Kq,hu,aV];refine HD ?_;simp only[go_sem,Kr,hu,aV];exact rest2 (!decide (y.on=0)) _ (by rw[ww,if_pos h1,hn];simp) ZB ZB ZB ZB ZB ZB ZB ZB ZB ZB
      ·have hu:(decide (y.jump=2) || decide (y.jump=3))=true:=ZX;simp only[go_sem,PO,hu,aV,aY,J2,Jy,Ju,J5];refine RU md ZA ZA ?_
       cases ho:decide (0<=y.on/\y.on<=q.ae-1)with
       |true=>
        simp only[go_sem,Kq,aV];refine HD ?_;simp only[go_sem,Kr,hu,aV];exact rest2 false _ (by rw[ww,if_neg h2,hn,ho];simp) ZB ZB ZB ZB ZB ZB ZB ZB ZB ZB
       |false=>
        simp only[go_sem,Kq,Kr,aV];exact rest2 true _ (by rw[ww,if_neg h2,ho];simp) ZB ZB ZB ZB ZB ZB ZB ZB ZB ZB
     ·simp only[go_sem,SU,PO,Kq,Kr,aV,Qc,hn,decide_false,Jz];exact rest2 true _ (by rw[ww];simp[hn]) ZB ZB ZB ZB ZB ZB ZB ZB ZB ZB
    ·rintro e2 H8 ⟨kn,hbg,l2,l3,l5,l6,l39,l40,l41⟩;refine Qt ?_;simp only[go_sem,X.next,l2,l3,l5,l6,l39,l40,l41];refine⟨Qv,q.blocks.length-(j+1),ZA,j+1,rfl,ZA,λi hi hY=>?_,kn,rfl⟩;by_cases h:i<j
     ·exact da i hi h
     ·have:i=j:=ZA;subst this;exact hbg
   ·intro bN;have bp:q.blocks.length<=j:=ZaZ;refine Wb ?_;refine Ql ?_;exact retf true _ _ _ (decide_eq_true (by rw[hP];exact⟨by rw[hb];rfl,λb h=>da b h (by omega)⟩)) kn ZB
 have hH:Dz q=(decide (0<=q.params/\q.params<=3)&&decide (q.params<=q.ae/\q.ae<=300)&&decide (1<=(q.blocks.length:Int)/\(q.blocks.length:Int)<=160)):=rfl;by_cases hr:0<=q.ae/\q.ae<=300
 ·have bd:(decide (0<=q.ae)&&decide (q.ae<=300))=true:=Zai
  simp only[go_sem,SG,bd,bt];refine EC ?_;by_cases hp:0<=q.params/\q.params<=3/\q.params<=q.ae
  ·have bV:(decide (0<=q.params)&&decide (q.params<=if q.ae<3 then q.ae else 3))=true:=by
    split <;> simp <;> omega
   simp only[go_sem,PP,bV,bt,Qn];intro _;refine EC ?_;simp only[go_sem,PQ];refine rest0 _ _ ?_ ZB ZB ZB ZJ;have a1:decide (0<=q.params/\q.params<=3)=true:=ZF
   have a2:decide (q.params<=q.ae/\q.ae<=300)=true:=ZF
   rw[hH,a1,a2];simp
  ·have bV:(decide (0<=q.params)&&decide (q.params<=if q.ae<3 then q.ae else 3))=false:=by
    split <;> simp <;> omega
   simp only[go_sem,PP,PQ,bV,bt];refine rest0 true _ ?_ ZB ZB ZB ZB;rw[hH];simp;omega
 ·have bd:(decide (0<=q.ae)&&decide (q.ae<=300))=false:=Zai
  simp only[go_sem,SG,PP,PQ,bd,bt];refine rest0 true _ ?_ ZB ZB ZB ZB;rw[hH];simp;omega
theorem PI(aT:∀c∈cs,c.fits)(hK:∀(H':Heap),Upd H H' []->K (.c (.bool (C0 cs))) H') :
  Qu prog SO [.ag [.sl fl 3 (Qm cs)]] H K:=by
 refine Q0 ?_;refine Qd Co Qaat ?_;have retf:∀(b:Bool) (e:Env) (H':Heap) (L:Ul),C0 cs=b->Kn H H' [] L->lk 2 e=.c (.bool b)->Q5 Cq (unK H K) .ret e H':=by
  intro b e H' L hb kn h3;simp only[go_sem,Q5,Cn,Jb,forall_eq,RS.op,h3];rw[<-hb];exact⟨_,.c _ _ (Qg rfl),hK _ kn.fin⟩
 have kn:=Kn.an H;refine Wg ?_;simp only[go_sem,Q8];intro cL;refine EC ?_;simp only[go_sem,Kx];refine Wt ?_ ?_
 ·intro hc;have cA:=DE hc;refine Wf ?_;exact retf false _ _ _ (Ir λhu=>by have h1:=hu.1;simp at cA;omega) kn ZB
 intro hc;have cA:=CS hc;have dz:1<=cs.length/\cs.length<=4:=by simp at cA;omega
 refine Ze ?_;refine Wg ?_;simp only[go_sem,Q8];intro _;refine Qh (Qe (Qy (λm e1 H1=>∃(k:Nat),m=cs.length-k/\k<=cs.length/\C2 CB (cs.take k)<=k * (160 * 549755813888)/\(∀(i:Nat) (hi:i<cs.length),i<k->Dt cs i hi)/\Kn H H1 [] []/\
  e1=[(1,.c (.pp [.sl fl 3 (Qm cs)])),(3,Uv (C2 CB (cs.take k):Nat)),(12,.c (.sl fl 3 (Qm cs))),(13,.c (Ui cs.length)),(14,Uv k)]) cs.length ?_ ?_))
 ·exact⟨0,ZA,ZA,by simp[C2],λ_ _ h=>ZA,kn,rfl⟩
 ·rintro m e1 H1 ⟨k,hm,hk,hsum,da,kn,rfl⟩;refine Za ?_;refine Wt ?_ ?_
  ·intro aC;have af:k<cs.length:=ZG
   have rb:=FG (f:=CB) af;refine Wo ?_;simp only[go_sem,af,Q8,DP _ _ af,CodeD.cells];obtain⟨q,hq⟩:∃q,cs[k]=q:=⟨_,rfl⟩;have sW:q.fits:=by subst hq;exact aT _ (Je af)
   rw[hq];intro x5 bt H2 h2;have kn:=kn.al bt h2;have bt:=kn.l 0 rfl;simp only[go_sem,Qkz,bt];intro H3 h3;have kn:Kn H H3 [] ([]++[(x5,.st [Ui q.params,Ui q.ae,.sl false 5 (Qo q.blocks)])]):=kn.az 0 rfl h3;refine Wa ?_;refine V4 af ZA (by rw[hq];exact sW) λH4 hu=>?_;have kn:=kn.au hu;have bt:=kn.l 0 rfl;simp only[go_sem,Rc];refine Wt ?_ ?_
   ·intro bv;have b7:=of_decide_eq_false (DE bv);refine Wp ?_;exact retf false _ _ _ (Ir λhu=>b7 (hu.2.1 k af)) kn ZB
   ·intro bv;have tC:=of_decide_eq_true (CS bv);have bj:q.blocks.length<=160:=by
     have:=tC.1;rw[hq]at this;simp only[Dz,Jp,decide_eq_true_eq]at this;omega
    have hcq:CB q<=160 * 549755813888:=Nat.le_trans (Mx sW) (Jas _ bj);have jv:k * (160 * 549755813888)<=4 * (160 * 549755813888):=Jas _ ZA;have iY:(k+1) * (160 * 549755813888)=k * (160 * 549755813888)+160 * 549755813888:=Jbu _ _;rw[hq]at rb;refine Ze ?_;refine Qt ?_;simp only[go_sem,bt];refine Qalg sW bj λH5 hu=>?_;have kn:=kn.au hu;simp only[go_sem,Qk0];refine⟨Qv,?_⟩;refine Zg ?_;refine⟨Qv,cs.length-(k+1),ZA,k+1,rfl,ZA,by rw[rb,iY];omega,λi hi Bz=>?_,kn.drop,?_⟩
    ·by_cases h:i<k
     ·exact da i hi h
     ·have:i=k:=ZA;subst this;exact tC
    ·rw[rb];rfl
  ·intro aC;have bp:cs.length<=k:=ZG
   rw[Jc bp];refine Wb ?_;refine Ql ?_;refine retf (decide (((C2 CB cs:Nat):Int)<=800)) _ _ _ ?_ kn ZB;by_cases hs:C2 CB cs<=800
   ·have h1:C0 cs=true:=decide_eq_true ⟨ZA,λi hi=>da i hi ZA,hs⟩;rw[h1];simp;omega
   ·rw[Ir λhu=>hs hu.2.2];simp;omega
end Y
namespace Y
attribute [local instance] Classical.propDecidable
structure Flo where
 n:Nat
 nx:Nat->List Nat
 on:Nat->List Nat
 ins:Nat->List (Option Nat×List Nat)
 ph:Nat->List Nat
 ea:Nat->Nat->List Nat
abbrev RS':=Nat->Prop
def Ia (x:Option Nat×List Nat)(S:RS'):RS':=λr=>r∈x.2\/(S r/\x.1≠some r)
def behL (l:List (Option Nat×List Nat))(S:RS'):RS':=l.foldr Ia S
theorem Qask {l:List (Option Nat×List Nat)}{S T:RS'}(h:∀r,S r->T r):∀r,behL l S r->behL l T r:=by
 induction l with
 |nil=>exact h
 |cons x l ih=>
  rintro r (hr|⟨hr,h2⟩)
  ·exact .inl hr
  ·exact .inr ⟨ih r hr,h2⟩
variable{F:Flo}
def Flo.endS (F:Flo)(X:RS')(b:Nat):RS':=λr=>X r\/r∈F.on b
def Flo.beh (F:Flo)(X:RS')(b k:Nat):RS':=behL ((F.ins b).drop k) (F.endS X b)
theorem Flo.beh_end (X:RS')(b k:Nat)(h:(F.ins b).length<=k):F.beh X b k=F.endS X b:=by rw[Flo.beh,List.drop_of_length_le h];rfl
theorem Flo.beh_step (X:RS')(b k:Nat)(h:k<(F.ins b).length):F.beh X b k=Ia (F.ins b)[k] (F.beh X b (k+1)):=by
 rw[Flo.beh,J0 h];rfl
theorem Flo.beh_mono {X Y:RS'}(h:∀r,X r->Y r)(b k:Nat):∀r,F.beh X b k r->F.beh Y b k r:=
 Qask λr hr=>hr.elim (λh1=>.inl (h r h1)) .inr
def Flo.outT (F:Flo)(I:Nat->RS')(b:Nat):RS':=λr=>∃m∈F.nx b,I m r\/r∈F.ea b m
def Flo.thru (F:Flo)(X:RS')(b:Nat):RS':=λr=>F.beh X b 0 r/\r∉F.ph b
def Flo.inT (F:Flo)(I:Nat->RS')(b:Nat):RS':=F.thru (F.outT I b) b
theorem Flo.thru_mono {X Y:RS'}(h:∀r,X r->Y r)(b:Nat):∀r,F.thru X b r->F.thru Y b r:=λr hr=>⟨Flo.beh_mono h b 0 r hr.1,hr.2⟩
def Flo.fits (F:Flo):Prop:=∀b,b<F.n->∀m∈F.nx b,m<F.n
variable{I J:Nat->RS'}
theorem Flo.outT_mono (hf:F.fits)(h:∀b,b<F.n->∀r,I b r->J b r){b:Nat}(hb:b<F.n):∀r,F.outT I b r->F.outT J b r:=by
 rintro r ⟨m,hm,h1|h1⟩
 ·exact⟨m,hm,.inl (h m (hf b hb m hm) r h1)⟩
 ·exact⟨m,hm,.inr h1⟩
theorem Flo.inT_mono (hf:F.fits)(h:∀b,b<F.n->∀r,I b r->J b r){b:Nat}(hb:b<F.n):∀r,F.inT I b r->F.inT J b r:=
 Flo.thru_mono (Flo.outT_mono hf h hb) b
def Flo.Pre (F:Flo)(J:Nat->RS'):Prop:=∀b,b<F.n->∀r,F.inT J b r->J b r
def Flo.LI (F:Flo)(b:Nat):RS':=λr=>∀J,F.Pre J->J b r
def Flo.LO (F:Flo)(b:Nat):RS':=F.outT F.LI b
theorem Flo.LI_pre (hf:F.fits):F.Pre F.LI:=λb hb r hr J hJ=>hJ b hb r (Flo.inT_mono hf (λb hb r hr=>hr J hJ) hb r hr)
def Flo.Below (F:Flo)(I:Nat->RS'):Prop:=∀b,b<F.n->∀r,I b r->F.LI b r
theorem Flo.is_least (h1:F.Pre I)(h2:F.Below I){b:Nat}(hb:b<F.n)(r:Nat):I b r↔F.LI b r:=⟨h2 b hb r,λh=>h I h1⟩
theorem Flo.Below.outT (hf:F.fits)(h:F.Below I){b:Nat}(hb:b<F.n):∀r,F.outT I b r->F.LO b r:=Flo.outT_mono hf h hb
theorem Qafg {a:List Nat}(ha:a.Nodup):∀{b:List Nat},(∀x∈a,x∈b)->a.length<=b.length:=by
 induction a with
 |nil=>intro b _;simp
 |cons x a ih=>
  intro b h;have hx:=h x Jo;have hn:=List.nodup_cons.1 ha;have:=ih hn.2 (b:=b.erase x) λy hy=>(List.mem_erase_of_ne (λhe=>by subst he;exact hn.1 hy)).2 (h y (Jm _ hy));rw[List.length_erase_of_mem hx]at this;have hp:=List.length_pos_of_mem hx;simp only[Jq];omega
theorem Qaip {a:List Nat}(ha:a.Nodup)(h:∀x∈a,x<R):a.length<=R:=by
 have:=Qafg ha (b:=List.range R) λx hx=>J7.2 (h x hx);simpa using this
end Y
variable{S:Y.RS'}
namespace Y
attribute [local go_sem] cond_true cond_false Bool.not_true Bool.not_false
open Go.Proofs.Tryz
attribute [local instance] Classical.propDecidable
def Dv (x:InsD):Option Nat:=if D0 x.op then some x.to.toNat else none
def toN (l:List Int):List Nat:=l.map Int.toNat
def O1 (q:CodeD)(b m:Nat):List Nat:=(((q.blocks[m]?.map BlkD.ab).getD []).map λp=>(p.args.getD ((Qs (gnx q) (m:Int) q.blocks.length).idxOf (b:Int)) 0).toNat)
def Cy (q:CodeD):Flo where
 n:=q.blocks.length
 nx b:=nxN (gnx q) b
 on b:=match q.blocks[b]? with
  |some y=>if y.jump=1 then []else [y.on.toNat]
  |none=>[]
 ins b:=match q.blocks[b]? with
  |some y=>y.ins.map λx=>(Dv x,toN x.args)
  |none=>[]
 ph b:=match q.blocks[b]? with
  |some y=>y.ab.map λp=>p.to.toNat
  |none=>[]
 ea:=O1 q
def rIn (q:CodeD)(v:Int):Prop:=0<=v/\v<q.ae
structure BlkD.ok (q:CodeD)(b:Nat)(y:BlkD):Prop where
 nxl:y.next.length<=2
 nx:∀v∈y.next,1<=v/\v<q.blocks.length
 jmp:y.jump=1\/y.jump=2\/y.jump=3
 on:¬y.jump=1->rIn q y.on
 args:∀x∈y.ins,∀v∈x.args,rIn q v
 to:∀x∈y.ins,D0 x.op=true->rIn q x.to
 pto:∀p∈y.ab,rIn q p.to
 pargs:∀p∈y.ab,∀v∈p.args,rIn q v
 pal:∀p∈y.ab,p.args.length=(Qs (gnx q) (b:Int) q.blocks.length).length
 al:∀x∈y.ins,x.args.length<=3
structure CodeD.ok (q:CodeD):Prop where
 r0:0<=q.ae
 r1:q.ae<=300
 b0:0<q.blocks.length
 b1:q.blocks.length<=160
 bs:∀(b:Nat) (h:b<q.blocks.length),q.blocks[b].ok q b
 il:∀(b:Nat) (h:b<q.blocks.length),q.blocks[b].ins.length<=1200/\q.blocks[b].ab.length<=1200
theorem Rk{f:α->Nat}{l:List α}{x:α}(h:x∈l):f x<=C2 f l:=by
 induction l with
 |nil=>simp at h
 |cons y l ih=>
  simp only[C2,Ju,Ja1]at *;rcases J6.1 h with rfl|h
  ·omega
  ·have:=ih h;omega
theorem FB(h:C0 cs=true){k:Nat}(hk:k<cs.length):cs[k].ok:=by
 obtain⟨_,h2,h3⟩:=of_decide_eq_true h;obtain⟨g1,g2⟩:=h2 k hk;simp only[Dz,Jp,decide_eq_true_eq]at g1;refine⟨ZA,ZA,ZA,ZA,λb hb=>?_,λb hb=>?_⟩
 ·have g:=g2 b hb;simp only[CP,Jp]at g;obtain⟨⟨⟨j,nx⟩,ins⟩,ph⟩:=g;simp only[Dp,Jp,decide_eq_true_eq]at j;obtain⟨j1,j2⟩:=j;rw[Jao]at nx ins ph;have hj:(cs[k].blocks[b].jump=1\/cs[k].blocks[b].jump=2\/cs[k].blocks[b].jump=3)/\cs[k].blocks[b].next.length<=2:=by
   rw[CM]at j1;split at j1
   ·omega
   ·split at j1
    ·omega
    ·split at j1 <;> omega
  have hi:∀x∈cs[k].blocks[b].ins,(∀v∈x.args,rIn cs[k] v)/\(D0 x.op=true->rIn cs[k] x.to):=λx hx=>by
   have:=ins x hx;simp only[CG,insH,D3,Jp,Jao,decide_eq_true_eq,Im hk]at this;obtain⟨⟨⟨_,a1⟩,a2⟩,_⟩:=this;refine⟨λv hv=>by have:=a1 v hv;exact⟨ZA,ZA⟩,λhm=>?_⟩;rw[insT,hm,if_pos rfl,decide_eq_true_eq]at a2;exact⟨ZA,ZA⟩
  have ee:∀x∈cs[k].blocks[b].ins,x.args.length<=3:=λx hx=>by
   have:=ins x hx;simp only[CG,Jp]at this;have h3:=this.2;rw[insL]at h3;split at h3
   ·simp only[Jp,decide_eq_true_eq]at h3;have hn:x.n.toNat<cs.length:=ZA;have:=(h2 x.n.toNat hn).1;simp only[Dz,Jp,decide_eq_true_eq]at this;rw[GJ hn]at h3;omega
   ·simp only[Jp,decide_eq_true_eq]at h3;have:=argsN_in (op:=x.op);omega
  have hp:∀p∈cs[k].blocks[b].ab,rIn cs[k] p.to/\(∀v∈p.args,rIn cs[k] v)/\p.args.length=(Qs (gnx cs[k]) (b:Int) cs[k].blocks.length).length:=λp hp=>by
   have:=ph p hp;simp only[phiG,D3,Jp,Jao,decide_eq_true_eq,Qn]at this;obtain⟨⟨⟨_,a1⟩,a2⟩,a3⟩:=this;have jd:(λi=>(cs[k].blocks.map BlkD.next).getD i [])=gnx cs[k]:=rfl;rw[jd]at a1;exact⟨⟨ZA,ZA⟩,λv hv=>by have:=a2 v hv;exact⟨ZA,ZA⟩,ZA⟩
  refine⟨hj.2,λv hv=>?_,hj.1,λhn=>?_,λx hx=>(hi x hx).1,λx hx=>(hi x hx).2,λp h=>(hp p h).1,λp h=>(hp p h).2.1,λp h=>(hp p h).2.2,ee⟩
  ·have:=nx v hv;simp only[DV,decide_eq_true_eq,Qn]at this;omega
  ·rw[if_neg hn,decide_eq_true_eq]at j2;exact⟨ZA,ZA⟩
 ·have a1:=Rk (f:=CB) (Je hk);have a2:=Rk (f:=CA) (Je hb);simp only[CB,CA]at *;omega
variable{q:CodeD}
theorem Vq {b:Nat}(h:b<q.blocks.length):(Cy q).on b=if q.blocks[b].jump=1 then []else [q.blocks[b].on.toNat]:=by simp[Cy,h]
theorem Qas4 {b:Nat}(h:b<q.blocks.length):(Cy q).ins b=q.blocks[b].ins.map λx=>(Dv x,toN x.args):=by simp[Cy,h]
theorem Vp {b:Nat}(h:b<q.blocks.length):(Cy q).ph b=q.blocks[b].ab.map λp=>p.to.toNat:=by simp[Cy,h]
theorem Vr {b m:Nat}(h:m<q.blocks.length):(Cy q).ea b m=q.blocks[m].ab.map λp=>(p.args.getD ((Qs (gnx q) (m:Int) q.blocks.length).idxOf (b:Int)) 0).toNat:=by simp[Cy,O1,h]
theorem EZ {b:Nat}(h:b<q.blocks.length):gnx q b=q.blocks[b].next:=by simp[gnx,Ja,h]
theorem CodeD.ok.next (h:q.ok){b m:Nat}(hb:b<q.blocks.length)(hm:m∈(Cy q).nx b):m<q.blocks.length/\(m:Int)∈gnx q b:=by
 obtain⟨v,hv,rfl⟩:=Jt.1 hm;have iS:=hv;rw[EZ hb]at iS;have:=(h.bs b hb).nx v iS;refine⟨ZA,?_⟩;have e:((v.toNat:Nat):Int)=v:=ZA
 rw[e];exact hv
theorem CodeD.ok.fitsF (h:q.ok):(Cy q).fits:=λb hb m hm=>(h.next hb hm).1
theorem CodeD.ok.ix (h:q.ok){b m:Nat}(hb:b<q.blocks.length)(hm:(m:Int)∈gnx q b):(Qs (gnx q) (m:Int) q.blocks.length).idxOf (b:Int)<(Qs (gnx q) (m:Int) q.blocks.length).length:=by
 refine List.idxOf_lt_length_of_mem ?_;simp only[Qs,Jt,Jau,J7];exact⟨b,⟨hb,Jam.2 hm⟩,rfl⟩
theorem IsIx.idx{v r:Int}(h:IsIx ns v r)(hm:v∈ns):r=(ns.idxOf v:Nat):=by
 rcases h with ⟨_,hn⟩|⟨i,rfl,h1,h2,h3⟩
 ·exact absurd hm hn
 ·have h4:ns[i]=v:=by rw[<-h2,Ja,Jd h1];rfl
  have h5:ns.idxOf v=i:=by
   have e:ns=ns.take i++ns[i]::ns.drop (i+1):=by rw[<-J0 h1,Jan]
   rw[e,List.idxOf_append,if_neg h3,h4];simp[Jv];omega
  rw[h5]
def Mem (bs:List Bool)(S:RS'):Prop:=∀r,bs.getD r false=true↔S r
theorem Mem.congr{T:RS'}(h:Mem bs S)(hST:∀r,S r↔T r):Mem bs T:=λr=>(h r).trans (hST r)
theorem ML (S:List Bool)(x y:Nat)(v:Bool):(S.set x v).getD y false=(if y=x/\x<S.length then v else S.getD y false):=by
 simp only[Ja,Jad];by_cases h:x=y
 ·subst h;by_cases h2:x<S.length <;> simp[h2]
 ·have:¬y=x:=λe=>h e.symm;simp[h,this]
theorem Mem.ins(h:Mem bs S){x:Nat}(hx:x<bs.length):Mem (bs.set x true) (λr=>r=x\/S r):=λr=>by
 rw[ML];by_cases hr:r=x
 ·simp[hr,hx]
 ·simp only[hr,false_and,if_false,false_or];exact h r
theorem Mem.del(h:Mem bs S){x:Nat}(hx:x<bs.length):Mem (bs.set x false) (λr=>S r/\r≠x):=λr=>by
 rw[ML];by_cases hr:r=x
 ·simp[hr,hx]
 ·simp only[hr,false_and,if_false,ne_eq,not_false_eq_true,and_true];exact h r
theorem Mem.lt(h:Mem bs S){r:Nat}(hr:S r):r<bs.length:=by
 have:=(h r).2 hr;refine Classical.byContradiction λhn=>?_;rw[Ja,Js ZA]at this;exact absurd this ZC
theorem Mem.none (n:Nat):Mem (List.replicate n false) λ_=>False:=λr=>by
 rw[Ja,Jah];split <;> simp
end Y
namespace Y
attribute [local go_sem] cond_true cond_false Bool.not_true Bool.not_false
open Go.Proofs.Tryz
variable{L:Ul}
def DF (x:InsD):Int:=if D0 x.op then x.to else -1
theorem N2 {x:InsD}(hK:K (Uv (DF x)) H):Qu prog Q05 [.ag x.cells] H K:=by
 refine Qd Co Qamm ?_;refine Zy ?_;refine Wa ?_;refine IX ?_;refine Wt ?_ ?_
 ·intro hc;refine Za ?_;refine Zf ?_;rw[DF,hc,if_pos rfl]at hK;exact hK
 ·intro hc;refine Zc ?_
  refine Za ?_;refine Zf ?_;rw[DF,hc,if_neg ZC]at hK;exact hK
theorem Qa1w {l:List Int}(h:a<l.length):(toN l).take (a+1)=(toN l).take a++[(l.getD a 0).toNat]:=by
 have h':a<(toN l).length:=by simpa[toN]using h
 rw[Jf h'];simp[toN,Ja,h]
theorem I1 {l:List Int}(h:a<l.length):l.getD a 0∈l:=by
 rw[Ja,Jd h];exact Je h
theorem rIn.nat {q:CodeD}{v:Int}(h:rIn q v):v=(v.toNat:Int)/\v.toNat<q.ae.toNat:=by obtain⟨a,b⟩:=h;omega
structure CodeR (F:Heap)(X:List Nat)(bc:C)(q:CodeD):Prop where
 ow:bc.ai=false
 s:∀H1:Heap,(∀m,F m≠.none->m∉X->H1 m=F m)->Slc H1 5 (Qo q.blocks) bc
theorem CodeR.sl (F:Heap)(X:List Nat)(fl:Bool)(q:CodeD):CodeR F X (.sl fl 5 (Qo q.blocks)) q:=⟨rfl,λ_ _=>.mk' _ _ _ _⟩
theorem CodeR.rd {F:Heap}{X:List Nat}{q:CodeD}(h:CodeR F X bc q)(kn:Kn F H E L)(hX:∀x∈E.map Prod.fst,x∈X):Slc H 5 (Qo q.blocks) bc:=
 h.s H λm hm hx=>kn.chg m hm λhh=>hx (hX m hh)
theorem CodeR.facts {F:Heap}{X:List Nat}{q:CodeD}(h:CodeR F X bc q)(kn:Kn F H E L)(hX:∀x∈E.map Prod.fst,x∈X) :
  aZ H bc=True/\ay bc=q.blocks.length/\bc.aQ=5/\rowsOf H bc=Qo q.blocks:=
 have s:=h.rd kn hX
 ⟨eq_true s.ok,by rw[s.len,Qn],s.sz,s.rows⟩
theorem CodeR.mid {F:Heap}{q:CodeD}(h:CodeR F [] bc q)(kn:Kn F H [] L):CodeR H (L.map Prod.fst) bc q:=
 ⟨h.ow,λH1 hh=>h.s H1 λm hm _=>by
  have h1:=kn.chg m hm ZC;rw[hh m (by rw[h1];exact hm) λhx=>?_,h1];obtain⟨p,hp,he⟩:=Jt.1 hx;exact hm (he▸kn.loc p hp)⟩
theorem CodeR.nil {F:Heap}{X:List Nat}{q:CodeD}(h:CodeR F X bc q):CodeR F [] bc q:=⟨h.ow,λH1 hh=>h.s H1 λm hm _=>hh m hm ZC⟩
theorem CodeR.ah {F:Heap}{X:List Nat}{q:CodeD}{z:Nat}(hz:F z=.vec 5 (Qo q.blocks))(hX:z∉X):CodeR F X (.ah z 5 0 q.blocks.length) q:=
 ⟨rfl,λH1 hh=>by
  have h1:H1 z=.vec 5 (Qo q.blocks):=by rw[hh z Zbk hX,hz]
  exact⟨by simp only[aZ,h1,Qn];exact⟨trivial,ZA⟩,rfl,by simp only[rowsOf,h1,J4];exact Jc (by rw[Qn];exact Jh _),by simp only[ay,Qn]⟩⟩
theorem Qal0 {q:CodeD}{ic oc cb:C}{orows:List (List C)}{b:Nat}{i:Int}{W:RS'}(ho:q.ok)(dV:CodeR H [] bc q)(hb:b<q.blocks.length)(hi:-1<=i)(jc:i<q.blocks[b].ins.length)
  (kn:Kn H0 H E L) (hs:Slc H 1 orows oc) (bq:oc.ai=false) (ki:ic.ai=false) (bj:b<orows.length) (aD:orows.getD b []=[cb]) (fj:Slc H 1 (Qx bs) cb) (hcw:cb.ai=false) (ak:bs.length=q.ae.toNat) (hm:Mem bs W)
  (hK:∀y bs' H',bs'.length=q.ae.toNat->Mem bs' ((Cy q).beh W b (i+1).toNat)->Kn H0 H' E (L++[(y,.vec 1 (Qx bs'))])->K (.c (.ah y 1 0 q.ae.toNat)) H') :
  Qu prog Q0y [.ag [Ui q.params,Ui q.ae,bc],.ag [ic,oc],Uv b,Uv i] H K:=by
 have bI:=ho.r0;have cN:=ho.r1;obtain⟨y,hy⟩:∃y,q.blocks[b]=y:=⟨_,rfl⟩;have cp:y.ok q b:=by rw[<-hy];exact ho.bs b hb
 have cK:y.ins.length<=1200/\y.ab.length<=1200:=by rw[<-hy];exact ho.il b hb
 rw[hy]at jc;have yC:(Cy q).on b=if y.jump=1 then []else [y.on.toNat]:=by rw[Vq hb,hy]
 have iK:(Cy q).ins b=y.ins.map λx=>(Dv x,toN x.args):=by rw[Qas4 hb,hy]
 have aq:=eq_true hs.ok;have eJ:=hs.len;have hoz:=hs.sz;have ka:=hs.rows;have fA:=eq_true fj.ok;have yD:=fj.len;have y5:=fj.sz;have yB:=fj.rows;refine Qd Co Qame ?_;refine Qa ?_;have j5:=dV.ow;simp only[go_sem];refine Qa ?_;simp only[go_sem,bq,hcw,aq,eJ,hoz,ka,bj,aD,fA,yD,y5,yB,Q4,ak,Jy,Jr,Jk];refine⟨.inl trivial,P9 _,by simp only[LIM];omega,λy9 iB H1 h1=>?_⟩;have kn:=kn.al iB h1;simp only[go_sem,G8];refine Qa ?_;have lr:=dV.s H1 λm hm _=>by
  have be:m≠y9:=λhh=>hm (by rw[hh];exact iB);rw[h1,Heap.aj _ _ be]
 have bD:=eq_true lr.ok;have ip:=lr.len;have iN:=lr.sz;have fS:=lr.rows;simp only[go_sem,j5,bD,ip,iN,fS,hb,Qn,CU _ _ hb,BlkD.cells,hy];intro x10 bP H2 h2;have kn:=kn.al bP h2;have bP:=kn.l (L++[(y9,Obj.vec 1 (Qx bs))]).length (l:=x10) (o:=.st [.sl true 2 [],.sl true 4 [],Ui 0,Ui 0,.sl true 1 []]) ZC;simp only[go_sem,Quq,bP];intro H3 h3;have kn:Kn H0 H3 E ((L++[(y9,.vec 1 (Qx bs))])++[(x10,blkC y)]):=by
  have:=kn.az (L++[(y9,Obj.vec 1 (Qx bs))]).length (x:=x10) (o:=.st [.sl true 2 [],.sl true 4 [],Ui 0,Ui 0,.sl true 1 []]) ZC h3;simpa[blkC]using this
 have getx:∀{bs1:List Bool} {H4:Heap},Kn H0 H4 E ((L++[(y9,.vec 1 (Qx bs1))])++[(x10,blkC y)])->H4 x10=.st [.sl false 2 (Q3 y.ab),.sl false 4 (Cu y.ins),Ui y.jump,Ui y.on,.sl false 1 (Qb y.next)]/\H4 y9=.vec 1 (Qx bs1):=λ{bs1 H4} kn=>
  ⟨(kn.get (x10,blkC y) ZC).1,(kn.get (y9,.vec 1 (Qx bs1)) ZC).1⟩
 have putx:∀{bs1 bs2:List Bool} {H4 H5:Heap},Kn H0 H4 E ((L++[(y9,.vec 1 (Qx bs1))])++[(x10,blkC y)])->H5=H4.set y9 (.vec 1 (Qx bs2))->Kn H0 H5 E ((L++[(y9,.vec 1 (Qx bs2))])++[(x10,blkC y)]):=λ{bs1 bs2 H4 H5} kn h=>by
  have:=kn.az L.length (x:=y9) (o:=.vec 1 (Qx bs1)) ZC h;simpa using this
 have bQ:∀(bs1:List Bool),bs1.length=q.ae.toNat->(Qx bs1).take q.ae.toNat=Qx bs1:=λbs1 h=>Jc Zan;refine Q1 (Qa ?_);obtain⟨bP,iB⟩:=getx kn;simp only[go_sem,bP];refine CN (λe2 H4=>∃(bs1:List Bool),bs1.length=q.ae.toNat/\Mem bs1 ((Cy q).endS W b)/\Kn H0 H4 E ((L++[(y9,.vec 1 (Qx bs1))])++[(x10,blkC y)])/\
  lk 3 e2=Uv i/\lk 9 e2=.c (.ah y9 1 0 q.ae.toNat)/\lk 10 e2=Up x10) ?_ ?_
 ·intro Q bS _ _;refine Wu ?_ ?_
  ·intro hc;have hj:¬y.jump=1:=ZD
   obtain⟨hv,bH⟩:=(cp.on hj).nat;have f9:y.on.toNat<bs.length:=ZA
   generalize hr:y.on.toNat=r at *;refine Qt ?_;simp only[go_sem,bP,iB,hv,bH,Q4,ak,EU,Q7 _ _ f9,Jk,Jh];intro H4 h4;refine bS _ _ ⟨_,by rw[Ji];exact ak,?_,putx kn h4,Rf0⟩;refine (hm.ins ZA).congr λz=>?_;rw[Flo.endS,yC,if_neg hj];simp[or_comm]
  ·intro hc;have hj:y.jump=1:=ZD
   refine Zc ?_
   refine bS _ _ ⟨bs,ak,?_,kn,Rf0⟩;refine hm.congr λz=>?_;rw[Flo.endS,yC,if_pos hj];simp
 ·rintro e2 H4 ⟨bs1,ak,hm,kn,l3,l9,l10⟩;obtain⟨bP,iB⟩:=getx kn;refine Q1 (Qa ?_);simp only[go_sem,l3,l9,l10,bP,CR];intro _;refine⟨Qv,?_⟩;refine Qh (Qe (Qy (λm e1 H1=>∃(k:Nat) (j:Int) (bs1:List Bool),m=k/\k<=y.ins.length/\i+1<=k/\j=(k:Int)-1/\bs1.length=q.ae.toNat/\Mem bs1 ((Cy q).beh W b k)/\Kn H0 H1 E ((L++[(y9,.vec 1 (Qx bs1))])++[(x10,blkC y)])/\
   e1=[(3,Uv i),(9,.c (.ah y9 1 0 q.ae.toNat)),(10,Up x10),(11,Uv j)]) y.ins.length ?_ ?_))
  ·refine⟨y.ins.length,_,bs1,rfl,Jh _,ZA,rfl,ak,hm.congr λz=>?_,kn,rfl⟩;rw[Flo.beh_end _ _ _ (by rw[iK,Jx];exact Jh _)]
  ·rintro m e1 H5 ⟨k,j,bs1,rfl,hk,Bz,qi,ak,hm,kn,rfl⟩;obtain⟨bP,iB⟩:=getx kn;refine Wa ?_;refine Wt ?_ ?_
   ·intro hc;have gI:i<j:=ZD;obtain⟨k,rfl⟩:∃k',m=k'+1:=⟨m-1,ZA⟩;have hj:j=(k:Int):=ZA;subst hj;have cz:k<y.ins.length:=ZA;obtain⟨x,hx⟩:∃x,y.ins[k]=x:=⟨_,rfl⟩;have kw:x∈y.ins:=(by rw[<-hx];exact Je cz);have ky:(Cy q).beh W b k=Ia (Dv x,toN x.args) ((Cy q).beh W b (k+1)):=by
     rw[Flo.beh_step _ _ _ (by rw[iK,Jx];exact cz)];simp only[iK,Jap,hx]
    refine Zc ?_
    refine CN (λe2 H6=>∃(bs2:List Bool),bs2.length=q.ae.toNat/\Mem bs2 ((Cy q).beh W b k)/\Kn H0 H6 E ((L++[(y9,.vec 1 (Qx bs2))])++[(x10,blkC y)])/\
     lk 3 e2=Uv i/\lk 9 e2=.c (.ah y9 1 0 q.ae.toNat)/\lk 10 e2=Up x10/\lk 11 e2=Uv k) ?_ ?_
    ·intro Q bS _ _;refine Qe (Qa ?_);simp only[go_sem,bP,cz,CR,Fd _ _ cz,InsD.cG,InsD.b6,InsD.len4,hx];refine N2 ?_;simp only[go_sem,Qur];refine Wa ?_;refine CN (λe2 H6=>∃(bs2:List Bool),bs2.length=q.ae.toNat/\Mem bs2 (λr=>(Cy q).beh W b (k+1) r/\Dv x≠some r)/\Kn H0 H6 E ((L++[(y9,.vec 1 (Qx bs2))])++[(x10,blkC y)])/\
      lk 3 e2=Uv i/\lk 9 e2=.c (.ah y9 1 0 q.ae.toNat)/\lk 10 e2=Up x10/\lk 11 e2=Uv k) ?_ ?_
     ·intro Q bS _ _;refine Wu ?_ ?_
      ·intro aC;have cU:D0 x.op=true:=by
        cases cU:D0 x.op with
        |true=>rfl
        |false=>simp[DF,cU]at aC
       obtain⟨hv,bH⟩:=(cp.to x kw cU).nat;have f9:x.to.toNat<bs1.length:=ZA;have nR:DF x=x.to:=(by rw[DF,cU];rfl);have eF:Dv x=some x.to.toNat:=(by rw[Dv,cU];rfl);rw[nR];rw[eF]at bS;generalize hr:x.to.toNat=r at *;refine Qt ?_;simp only[go_sem,iB,hv,bH,Q4,ak,EU,Q7 _ _ f9,Jk,Jh];intro H6 h6;refine bS _ _ ⟨_,by rw[Ji];exact ak,?_,putx kn h6,Rf0⟩;refine (hm.del ZA).congr λz=>?_;simp[eq_comm]
      ·intro aC;have cU:D0 x.op=false:=by
        cases cU:D0 x.op with
        |false=>rfl
        |true=>
         have:=(cp.to x kw cU).1;simp[DF,cU]at aC;omega
       have eF:Dv x=none:=(by rw[Dv,cU];rfl);rw[eF]at bS;refine Zc ?_
       exact bS _ _ ⟨bs1,ak,hm.congr λz=>ZC,kn,Rf0⟩
     ·rintro e2 H6 ⟨bs2,ak,hm,kn,l3,l9,l10,l11⟩;refine Qa ?_;simp only[go_sem,l3,l9,l10,l11];refine Qe (Qy (λm e1 H1=>∃(a:Nat) (bs2:List Bool),m=x.args.length-a/\a<=x.args.length/\bs2.length=q.ae.toNat/\Mem bs2 (λr=>r∈(toN x.args).take a\/((Cy q).beh W b (k+1) r/\Dv x≠some r))/\Kn H0 H1 E ((L++[(y9,.vec 1 (Qx bs2))])++[(x10,blkC y)])/\
       e1=[(3,Uv i),(9,.c (.ah y9 1 0 q.ae.toNat)),(10,Up x10),(11,Uv k),(13,Uv a)]) x.args.length ?_ ?_)
      ·exact⟨0,bs2,ZA,ZA,ak,hm.congr λz=>ZC,kn,rfl⟩
      ·rintro m2 e1 H7 ⟨a,bs2,fz,ha,ak,hm,kn,rfl⟩;obtain⟨bP,iB⟩:=getx kn;refine Q1 (Qa ?_);simp only[go_sem,bP,cz,CR,Fd _ _ cz,InsD.cells,hx,Qc];intro ee;simp only[LIM]at ee;refine Wt ?_ ?_
       ·intro aC;have af:a<x.args.length:=ZG;obtain⟨hv,bH⟩:=(cp.args x kw _ (I1 af)).nat;have gQ:=Qa1w af;have f9:(x.args.getD a 0).toNat<bs2.length:=ZA;generalize hr:(x.args.getD a 0).toNat=r at *;refine Zc ?_
        refine Ws ?_;simp only[go_sem,bP,iB,cz,CR,Fd _ _ cz,InsD.cells,hx,af,Qc,Qk _ _ af,hv,bH,Q4,ak,EU,Q7 _ _ f9,Jk,Jh];intro H8 h8;refine Zg ?_;refine⟨Qv,x.args.length-(a+1),ZA,a+1,_,rfl,ZA,by rw[Ji];exact ak,?_,putx kn h8,rfl⟩;refine (hm.ins ZA).congr λz=>?_;rw[gQ];simp only[Jj,Jb];constructor
        ·rintro (h|h|h)
         ·exact .inl (.inr h)
         ·exact .inl (.inl h)
         ·exact .inr h
        ·rintro ((h|h)|h)
         ·exact .inr (.inl h)
         ·exact .inl h
         ·exact .inr (.inr h)
       ·intro aC;have bp:x.args.length<=a:=ZG;refine Zb ?_;refine bS _ _ ⟨bs2,ak,hm.congr λz=>?_,kn,Rf0⟩;rw[ky,Jc (by simpa[toN]using bp)];rfl
    ·rintro e2 H6 ⟨bs2,ak,hm,kn,l3,l9,l10,l11⟩;refine Qt ?_;simp only[go_sem,X.next,l3,l9,l10,l11];exact⟨Qv,k,ZA,k,(k:Int)-1,bs2,rfl,ZA,ZA,rfl,ak,hm,kn,rfl⟩
   ·intro hc;have aS:¬i<j:=ZD;refine Wh ?_;have e1:(i+1).toNat=m:=ZA;exact hK y9 bs1 H5 ak (by rw[e1];exact hm) kn.drop
end Y
namespace Y
attribute [local go_sem] cond_true cond_false Bool.not_true Bool.not_false
open Go.Proofs.Tryz
variable{F:Heap}{L:Ul}
structure SetO where
 c:C
 lg:Ul
 ks:List Nat
structure SetO.ok (R:Nat)(s:SetO):Prop where
 nd:s.ks.Nodup
 lt:∀x∈s.ks,x<R
 m:(s.c=.mnil/\s.lg=[]/\s.ks=[])\/∃M ver,s.c=.mp M/\s.lg=[(M,.map ver (Qa8w s.ks))]
theorem SetO.ok.ai {R:Nat}{s:SetO}(h:s.ok R):s.c.ai=false:=by rcases h.m with ⟨h,_⟩|⟨M,ver,h,_⟩ <;> rw[h] <;> rfl
theorem SetO.ok.len{s:SetO}(h:s.ok R):s.ks.length<=R:=Qaip h.nd h.lt
end Y
namespace Y
attribute [local instance] Classical.propDecidable
def tab (zs:List (Nat×List Bool))(b:Nat):RS':=λr=>(((zs[b]?).map Prod.snd).getD []).getD r false=true
variable{zi zo:List (Nat×List Bool)}{F:Flo}
theorem GZ {b:Nat}(h:b<zs.length)(r:Nat):tab zs b r↔zs[b].2.getD r false=true:=by simp[tab,h]
theorem KY {b:Nat}(h:b<zs.length)(r:Nat):tab (zs.set b x) b r↔x.2.getD r false=true:=by simp[tab,h]
theorem IT {b c:Nat}(h:c≠b):tab (zs.set b x) c=tab zs c:=by
 funext r
 simp only[tab];rw[Jba (λe=>h e.symm)]
theorem Me{l:List α}{i:Nat}{x:α}(h:l[i]? = some x):l.set i x=l:=by
 have hi:=(List.getElem?_eq_some_iff.1 h).1;refine Jaj λj=>?_;rw[Jad];by_cases hY:i=j
 ·subst hY;rw[if_pos rfl,if_pos hi,h]
 ·rw[if_neg hY]
theorem Q5a {a b:List Bool}(hl:a.length=b.length)(h:∀r,a.getD r false=true->b.getD r false=true):cnt a<=cnt b/\(∀r,a.getD r false≠b.getD r false->cnt a<cnt b):=by
 induction a generalizing b with
 |nil=>
  cases b with
  |nil=>exact⟨Jh _,λr hr=>absurd rfl hr⟩
  |cons=>simp at hl
 |cons x a ih=>
  cases b with
  |nil=>simp at hl
  |cons y b=>
   have ih':=ih (b:=b) Zag λr hr=>by have:=h (r+1);simpa using this Zai
   have h0:x=true->y=true:=by have:=h 0;simpa using this
   have hc:∀(z:Bool) (l:List Bool),cnt (z::l)=cnt l+(if z=true then 1 else 0):=λz l=>by
    simp only[cnt,List.count_cons];cases z <;> simp
   rw[hc,hc];refine⟨?_,λr hr=>?_⟩
   ·cases x with
    |false=>have:=ih'.1;cases y <;> simp <;> omega
    |true=>rw[h0 rfl];have:=ih'.1;simp;omega
   ·cases r with
    |zero=>
     have qB:x≠y:=Zai
     cases x with
     |true=>exact absurd (h0 rfl).symm qB
     |false=>
      cases y with
      |false=>exact absurd rfl qB
      |true=>have:=ih'.1;simp;omega
    |succ r=>
     have:=ih'.2 r Zai
     cases x with
     |false=>cases y <;> simp <;> omega
     |true=>rw[h0 rfl];simp;omega
def C9 (zs:List (Nat×List Bool)):Nat:=(zs.map λp=>cnt p.2).sum
theorem KX {b:Nat}(h:b<zs.length):C9 (zs.set b x)+cnt zs[b].2=C9 zs+cnt x.2:=by
 induction zs generalizing b with
 |nil=>simp at h
 |cons z zs ih=>
  cases b with
  |zero=>simp[C9];omega
  |succ b=>
   have:=ih (b:=b) ZI;simp only[C9,Jbg,Ju,Ja1,List.getElem_cons_succ]at this⊢;omega
theorem Gb(h:∀p∈zs,p.2.length=R):C9 zs<=zs.length * R:=by
 induction zs with
 |nil=>simp[C9]
 |cons z zs ih=>
  have h1:=GG z.2;rw[h z Jo]at h1;have h2:=ih λp hp=>h p (Jm _ hp);simp only[C9,Ju,Ja1,Jq,Jbu]at *;omega
structure LvInv (F:Flo)(zi zo:List (Nat×List Bool)):Prop where
 bi:∀b,b<F.n->∀r,tab zi b r->F.LI b r
 bo:∀b,b<F.n->∀r,tab zo b r->F.LO b r
 post:∀b,b<F.n->∀r,tab zi b r->F.thru (tab zo b) b r
def LvCl (F:Flo)(zi zo:List (Nat×List Bool))(b:Nat):Prop:=(∀r,F.outT (tab zi) b r->tab zo b r)/\∀r,F.thru (tab zo b) b r->tab zi b r
theorem LvInv.done (h:LvInv F zi zo)(hf:F.fits)(hc:∀b,b<F.n->LvCl F zi zo b):∀b,b<F.n->∀r,(tab zi b r↔F.LI b r)/\(tab zo b r↔F.LO b r):=by
 have hp:F.Pre (tab zi):=λb hb r hr=>(hc b hb).2 r (Flo.thru_mono (hc b hb).1 b r hr);intro b hb r;refine⟨Flo.is_least hp h.bi hb r,h.bo b hb r,λhr=>(hc b hb).1 r ?_⟩;exact Flo.outT_mono hf (λc hc r hr=>(Flo.is_least hp h.bi hc r).2 hr) hb r hr
theorem LvInv.step {R z w y b:Nat}{bs bw bs1 nb:List Bool}{a a1 a2:Bool}(h:LvInv F zi zo)(hf:F.fits)(hb:b<F.n)(cK:zi.length=F.n)(eJ:zo.length=F.n)(hRi:∀p∈zi,p.2.length=R)(hRo:∀p∈zo,p.2.length=R)
  (rN:bs1.length=R) (nS:nb.length=R) (qx:zo[b]? = some (z,bs)) (pB:zi[b]? = some (w,bw))
  (g1:∀r,bs.getD r false=true->bs1.getD r false=true) (g2:∀r,bs1.getD r false=true->F.LO b r) (g3:∀r,F.outT (tab zi) b r->bs1.getD r false=true)
  (g4:∀r,nb.getD r false=true↔F.thru (λr=>bs1.getD r false=true) b r)
  (k1:a1=true->a=true\/cnt bs<cnt bs1) (k2:a1=false->a=false/\bs1=bs)
  (k3:a2=true->a1=true\/∃r,nb.getD r false≠bw.getD r false) (k4:a2=false->a1=false/\∀r,r<R->nb.getD r false=bw.getD r false) :
  LvInv F (zi.set b (y,nb)) (zo.set b (z,bs1))/\C9 zi+C9 zo<=C9 (zi.set b (y,nb))+C9 (zo.set b (z,bs1))/\
   (a2=true->a=true\/C9 zi+C9 zo<C9 (zi.set b (y,nb))+C9 (zo.set b (z,bs1)))/\
   (a2=false->a=false/\LvCl F (zi.set b (y,nb)) (zo.set b (z,bs1)) b/\∀c,LvCl F zi zo c->LvCl F (zi.set b (y,nb)) (zo.set b (z,bs1)) c):=by
 have cP:b<zi.length:=ZA
 have ck:b<zo.length:=ZA
 have ezo:zo[b]=(z,bs):=by rw[Jd ck]at qx;simpa using qx
 have ezi:zi[b]=(w,bw):=by rw[Jd cP]at pB;simpa using pB
 have qe:bs.length=R:=hRo (z,bs) (by rw[<-ezo];exact Je ck);have mY:bw.length=R:=hRi (w,bw) (by rw[<-ezi];exact Je cP);have tzo:∀r,tab zo b r↔bs.getD r false=true:=λr=>by rw[GZ ck,ezo]
 have tzi:∀r,tab zi b r↔bw.getD r false=true:=λr=>by rw[GZ cP,ezi]
 have tzo':∀r,tab (zo.set b (z,bs1)) b r↔bs1.getD r false=true:=λr=>KY ck r;have tzi':∀r,tab (zi.set b (y,nb)) b r↔nb.getD r false=true:=λr=>KY cP r;have jU:∀r,bw.getD r false=true->nb.getD r false=true:=λr hr=>by
  rw[g4];exact Flo.thru_mono (λr hr=>g1 r ((tzo r).1 hr)) b r (h.post b hb r ((tzi r).2 hr))
 have c1:=Q5a (a:=bs) (b:=bs1) ZA g1;have c2:=Q5a (a:=bw) (b:=nb) ZA jU;have t1:=KX (zs:=zo) (x:=(z,bs1)) ck;have t2:=KX (zs:=zi) (x:=(y,nb)) cP;rw[ezo]at t1;rw[ezi]at t2;simp only at t1 t2;refine⟨⟨λc hc r hr=>?_,λc hc r hr=>?_,λc hc r hr=>?_⟩,by have:=c1.1;have:=c2.1;omega,λha=>?_,λha=>?_⟩
 ·by_cases fj:c=b
  ·subst fj;rw[tzi',g4]at hr;exact Flo.LI_pre hf c hb r (Flo.thru_mono g2 c r hr)
  ·rw[IT fj]at hr;exact h.bi c hc r hr
 ·by_cases fj:c=b
  ·subst fj;rw[tzo']at hr;exact g2 r hr
  ·rw[IT fj]at hr;exact h.bo c hc r hr
 ·by_cases fj:c=b
  ·subst fj;rw[tzi',g4]at hr;exact Flo.thru_mono (λr hr=>(tzo' r).2 hr) c r hr
  ·rw[IT fj]at hr⊢;exact h.post c hc r hr
 ·rcases k3 ha with h1|⟨r,hr⟩
  ·rcases k1 h1 with h2|h2
   ·exact .inl h2
   ·right;have:=c2.1;omega
  ·right;have:=c2.2 r (λe=>hr e.symm);have:=c1.1;omega
 ·obtain⟨h1,h2⟩:=k4 ha;obtain⟨h3,h4⟩:=k2 h1;have oM:∀r,nb.getD r false=bw.getD r false:=λr=>by
   by_cases hr:r<R
   ·exact h2 r hr
   ·rw[Ja,Ja,Js ZA,Js ZA]
  have ti:tab (zi.set b (y,nb))=tab zi:=by
   funext c r
   by_cases fj:c=b
   ·subst fj;refine propext ?_;rw[tzi',tzi,oM]
   ·rw[IT fj]
  have to:tab (zo.set b (z,bs1))=tab zo:=by
   funext c r
   by_cases fj:c=b
   ·subst fj;refine propext ?_;rw[tzo',tzo,h4]
   ·rw[IT fj]
  refine⟨h3,⟨λr hr=>?_,λr hr=>?_⟩,λc hc=>?_⟩
  ·rw[ti]at hr;exact (tzo' r).2 (g3 r hr)
  ·rw[tzi',g4];exact Flo.thru_mono (λr hr=>(tzo' r).1 hr) b r hr
  ·rw[LvCl,ti,to];exact hc
end Y
namespace Y
attribute [local go_sem] cond_true cond_false Bool.not_true Bool.not_false
open Go.Proofs.Tryz
variable{F:Heap}{L:Ul}
def C6 (R:Nat)(zs:List (Nat×List Bool)):List (List C):=zs.map λp=>[.ah p.1 1 0 R]
def obZ (zs:List (Nat×List Bool)):List (Nat×Obj):=zs.map λp=>(p.1,.vec 1 (Qx p.2))
theorem Dw (R:Nat)(zs:List (Nat×List Bool)):(C6 R zs).length=zs.length:=by simp[C6]
theorem G6 (R:Nat)(zs:List (Nat×List Bool))(i:Nat)(h:i<zs.length):(C6 R zs).getD i []=[.ah zs[i].1 1 0 R]:=by simp[C6,Ja,h]
theorem Mz{i:Nat}(h:i<zs.length)(hx:x.1=zs[i].1):C6 R (zs.set i x)=C6 R zs:=by
 rw[C6,Jac,hx];refine Jaj λj=>?_;rw[Jad];split
 ·subst_vars;rw[if_pos ZI];simp[C6,h]
 ·rfl
def lvE (R yi yo:Nat)(zi zo:List (Nat×List Bool)):List (Nat×Obj):=[(yi,.vec 1 (C6 R zi)),(yo,.vec 1 (C6 R zo))]++(obZ zi++obZ zo)
variable{yi yo:Nat}{zi zo:List (Nat×List Bool)}
theorem Qa8v {b:Nat}(hb:b<zo.length):(lvE R yi yo zi zo)[2+zi.length+b]? = some (zo[b].1,.vec 1 (Qx zo[b].2)):=by
 have:2+zi.length+b=(zi.length+b)+1+1:=ZA
 rw[lvE,this];simp only[J2,Jy,List.getElem?_cons_succ];rw[List.getElem?_append_right (by simp[obZ])];simp[obZ,hb]
theorem Qa4n {b z:Nat}(hb:b<zo.length)(hz:zo[b].1=z):(lvE R yi yo zi zo).set (2+zi.length+b) (z,.vec 1 (Qx bs))=lvE R yi yo zi (zo.set b (z,bs)):=by
 have:2+zi.length+b=(zi.length+b)+1+1:=ZA
 rw[lvE,lvE,this,Mz hb hz.symm];simp only[J2,Jy,Jbg];rw[List.set_append_right _ _ (by simp[obZ])];simp[obZ,Jac]
theorem Gi {b m z w:Nat}{nb:List Bool}(kn:Kn F H (lvE R yi yo zi (zo.set b (z,bs))) L)(hb:b<zo.length)(hz:zo[b].1=z)(hm:m<zi.length)(hw:zi[m]=(w,nb)) :
  H yi=.vec 1 (C6 R zi)/\H yo=.vec 1 (C6 R zo)/\H z=.vec 1 (Qx bs)/\H w=.vec 1 (Qx nb):=by
 refine⟨(kn.get (yi,.vec 1 (C6 R zi)) (by simp[lvE])).1,?_,(kn.get (z,.vec 1 (Qx bs)) ?_).1,(kn.get (w,.vec 1 (Qx nb)) ?_).1⟩
 ·rw[<-Mz (R:=R) (x:=(z,bs)) hb hz.symm];exact (kn.get (yo,.vec 1 (C6 R (zo.set b (z,bs)))) (by simp[lvE])).1
 ·refine Jl _ (Jn _ (Jn _ (Jt.2 ⟨(z,bs),?_,rfl⟩)));exact J3.2 ⟨b,Zac,ZC⟩
 ·exact Jl _ (Jn _ (Jl _ (Jt.2 ⟨(w,nb),by rw[<-hw];exact Je hm,rfl⟩)))
theorem Qa4m {b z:Nat}{bs2:List Bool}{H':Heap}(kn:Kn F H (lvE R yi yo zi (zo.set b (z,bs))) L)(hb:b<zo.length)(h:H'=H.set z (.vec 1 (Qx bs2))):Kn F H' (lvE R yi yo zi (zo.set b (z,bs2))) L:=by
 have aW:b<(zo.set b (z,bs)).length:=Zac
 have:=kn.stE (2+zi.length+b) (x:=z) (o:=.vec 1 (Qx bs)) (by have h:=Qa8v (R:=R) (yi:=yi) (yo:=yo) (zi:=zi) aW;simpa using h) h;rw[Qa4n aW ZC,Jbn]at this;exact this
theorem K9 {b z:Nat}{bs2:List Bool}:(lvE R yi yo zi (zo.set b (z,bs))).map Prod.fst=(lvE R yi yo zi (zo.set b (z,bs2))).map Prod.fst:=by
 have e:∀bs:List Bool,(obZ (zo.set b (z,bs))).map Prod.fst=(zo.map Prod.fst).set b z:=λbs=>by
  simp only[obZ,Jac,Jbm];rfl
 simp only[lvE,Jw,Ju,J5,e]
theorem Qzb{r:Nat}(h:bs.getD r false=true):bs.set r true=bs:=by
 refine Jaj λj=>?_;rw[Jad];split
 ·subst_vars
  rw[Ja]at h;split
  ·rename_i hl;rw[Jd hl]at h⊢;simp at h;rw[h]
  ·rename_i hl;rw[Js ZA]
 ·rfl
structure lvOk (R n:Nat)(zi zo:List (Nat×List Bool)):Prop where
 i:zi.length=n
 o:zo.length=n
 li:∀p∈zi,p.2.length=R
 lo:∀p∈zo,p.2.length=R
theorem YO {q:CodeD}{Xs:List Nat}{b m z:Nat}{nb:List Bool}{w:Nat}(ho:q.ok)(dV:CodeR F Xs bc q)(hX:∀x∈(lvE q.ae.toNat yi yo zi zo).map Prod.fst,x∈Xs)(hb:b<q.blocks.length)(uC:(m:Int)∈gnx q b)(aq:lvOk q.ae.toNat q.blocks.length zi zo)
  (hz:zo[b]? = some (z,bs)) (hw:zi[m]? = some (w,nb)) {O I:RS'} (hO:Mem bs O) (hI:Mem nb I)
  (kn:Kn F H (lvE q.ae.toNat yi yo zi zo) [])
  (hK:∀(bs':List Bool) (a:Bool) H',bs'.length=q.ae.toNat->Mem bs' (λr=>O r\/I r\/r∈(Cy q).ea b m)->(a=true->cnt bs<cnt bs')->(a=false->bs'=bs)->Kn F H' (lvE q.ae.toNat yi yo zi (zo.set b (z,bs'))) []->K (.c (.bool a)) H') :
  Qu prog NS [.ag [Ui q.params,Ui q.ae,bc],.ag [.ah yi 1 0 q.blocks.length,.ah yo 1 0 q.blocks.length],Uv b,Uv m] H K:=by
 have bI:=ho.r0;have cN:=ho.r1;have bm:=ho.b1;have iW:m<q.blocks.length:=by
  have:=(ho.bs b hb).nx (m:Int) (by rw[<-EZ hb];exact uC);omega
 have gH:=ho.ix hb uC;have jX:(b:Int)∈Qs (gnx q) (m:Int) q.blocks.length:=List.idxOf_lt_length_iff.1 gH;obtain⟨y,hy⟩:∃y,q.blocks[m]=y:=⟨_,rfl⟩;have cp:y.ok q m:=by rw[<-hy];exact ho.bs m iW
 have cK:y.ins.length<=1200/\y.ab.length<=1200:=by rw[<-hy];exact ho.il m iW
 have qo:(Cy q).ea b m=y.ab.map λp=>(p.args.getD ((Qs (gnx q) (m:Int) q.blocks.length).idxOf (b:Int)) 0).toNat:=by rw[Vr iW,hy]
 generalize bu:(Qs (gnx q) (m:Int) q.blocks.length).idxOf (b:Int)=at_ at *;have ck:b<zo.length:=by rw[aq.o];exact hb
 have nR:m<zi.length:=by rw[aq.i];exact iW
 have dt:zo[b]=(z,bs):=by rw[Jd ck]at hz;simpa using hz
 have f8:zi[m]=(w,nb):=by rw[Jd nR]at hw;simpa using hw
 have qy:zo[b].1=z:=by rw[dt]
 have ir:zi[m].1=w:=by rw[f8]
 have bj:bs.length=q.ae.toNat:=aq.lo (z,bs) (by rw[<-dt];exact Je ck);have bF:nb.length=q.ae.toNat:=aq.li (w,nb) (by rw[<-f8];exact Je nR);have iR:=aq.o;have uW:=aq.i;have bX:zo.set b (z,bs)=zo:=Me hz;have bQ:∀(bs1:List Bool),bs1.length=q.ae.toNat->(Qx bs1).take q.ae.toNat=Qx bs1:=λbs1 h=>Jc Zan;have qU:∀(zs:List (Nat×List Bool)),zs.length=q.blocks.length->(C6 q.ae.toNat zs).take q.blocks.length=C6 q.ae.toNat zs:=λzs h=>Jc (by rw[Dw];omega);rw[<-bX]at kn hX;have j5:=dV.ow;have A0:∀(bs1:List Bool),∀x∈(lvE q.ae.toNat yi yo zi (zo.set b (z,bs1))).map Prod.fst,x∈Xs:=λbs1 x hx=>hX x (by rw[K9 (bs2:=bs)]at hx;exact hx);obtain⟨jC,od,sI,oq⟩:=Gi kn ck qy nR f8;refine Qd Co Yc ?_;refine Wk ?_;simp only[go_sem,jC,oq,qU _ uW,bQ _ bF,Dw,G6 _ _ _ nR,ir,iW,uW,Q4,bF,Jk,Jh,Jy,Jr];refine⟨.inl trivial,P9 _,by simp only[LIM];omega,λy9 iB H1 h1=>?_⟩;have kn:=kn.al iB h1;simp only[go_sem,G8];refine Zj j5 ?_;refine F6 (rows:=Qo q.blocks) (nx:=gnx q) (dV.rd kn hX) j5 (Fb H1 q false).x λH2 hu=>?_;have kn:=kn.au hu;rw[Qn];simp only[go_sem,Q13];refine OR (.mk' _ _ _ _) rfl λr hr=>?_;have hr:=hr.idx jX;rw[bu]at hr;subst hr;simp only[go_sem,Q12];refine Wa ?_;refine Qh (Qe (Qy (λm1 e1 H1=>∃(i:Nat) (nb1:List Bool),m1=y.ab.length-i/\i<=y.ab.length/\nb1.length=q.ae.toNat/\Mem nb1 (λr=>I r\/r∈((Cy q).ea b m).take i)/\Kn F H1 (lvE q.ae.toNat yi yo zi (zo.set b (z,bs))) [(y9,.vec 1 (Qx nb1))]/\
  e1=[(2,Uv b),(3,Uv m),(4,.c (.pp [Ui q.params,Ui q.ae,bc])),(5,.c (.pp [.ah yi 1 0 q.blocks.length,.ah yo 1 0 q.blocks.length])),(9,.c (.ah y9 1 0 q.ae.toNat)),(10,Uv at_),(11,Uv i)]) y.ab.length ?_ ?_))
 ·exact⟨0,nb,ZA,ZA,bF,hI.congr λr=>ZC,kn,rfl⟩
 ·rintro m1 e1 H3 ⟨i,nb1,te,hi,bF,hN,kn,rfl⟩;have iB:=kn.l 0 rfl;obtain⟨bD,ip,iN,fS⟩:=dV.facts kn (A0 bs);refine Q1 (Qa ?_);simp only[go_sem,j5,bD,ip,iN,fS,iW,CU _ _ iW,hy,BlkD.cells,Qz];intro _;refine Wt ?_ ?_
  ·intro hc;have af:i<y.ab.length:=ZD
   have mP:=cp.pal _ (Je af);have ee:at_<y.ab[i].args.length:=ZA
   obtain⟨hv,bH⟩:=(cp.pargs _ (Je af) _ (I1 ee)).nat;have gQ:((Cy q).ea b m).take (i+1)=((Cy q).ea b m).take i++[(y.ab[i].args.getD at_ 0).toNat]:=by
    rw[Jf (by rw[qo,Jx];exact af)];simp[qo]
   have f9:(y.ab[i].args.getD at_ 0).toNat<nb1.length:=ZA
   generalize hr:(y.ab[i].args.getD at_ 0).toNat=r at *;refine Zc ?_
   refine Ws ?_;simp only[go_sem,j5,bD,ip,iN,fS,iW,CU _ _ iW,hy,BlkD.cells,Qz,af,D2 _ _ af,PhiD.cells,ee,Qc,Qk _ _ ee,hv,bH,iB,Q4,bF,EU,Q7 _ _ f9,Jk,Jh];intro H4 h4;have kn:=kn.az 0 rfl h4;refine Zg ?_;refine⟨Qv,y.ab.length-(i+1),ZA,i+1,_,rfl,ZA,by rw[Ji];exact bF,?_,kn,rfl⟩;refine (hN.ins ZA).congr λx=>?_;rw[gQ];simp only[Jj,Jb];constructor
   ·rintro (h|h|h)
    ·exact .inr (.inr h)
    ·exact .inl h
    ·exact .inr (.inl h)
   ·rintro (h|h|h)
    ·exact .inr (.inl h)
    ·exact .inr (.inr h)
    ·exact .inl h
  ·intro hc;have bp:y.ab.length<=i:=ZD
   have hN:Mem nb1 (λr=>I r\/r∈(Cy q).ea b m):=hN.congr λr=>by rw[Jc (by rw[qo,Jx];exact bp)]
   refine Wb ?_;refine Wa ?_;refine Qh (Qe (Qy (λm1 e1 H1=>∃(i:Nat) (bs1:List Bool) (more:Bool),m1=q.ae.toNat-i/\i<=q.ae.toNat/\bs1.length=q.ae.toNat/\Mem bs1 (λr=>O r\/(r<i/\(I r\/r∈(Cy q).ea b m)))/\(more=true->cnt bs<cnt bs1)/\(more=false->bs1=bs)/\
    Kn F H1 (lvE q.ae.toNat yi yo zi (zo.set b (z,bs1))) [(y9,.vec 1 (Qx nb1))]/\
    e1=[(2,Uv b),(4,.c (.pp [Ui q.params,Ui q.ae,bc])),(5,.c (.pp [.ah yi 1 0 q.blocks.length,.ah yo 1 0 q.blocks.length])),(9,.c (.ah y9 1 0 q.ae.toNat)),(12,.c (.bool more)),(13,Uv i)]) q.ae.toNat ?_ ?_))
   ·exact⟨0,bs,false,ZA,ZA,bj,hO.congr λr=>ZC,ZC,λ_=>rfl,kn,rfl⟩
   ·rintro m1 e1 H4 ⟨i,bs1,more,te,hi,j8,hB,ju,uG,kn,rfl⟩;have iB:=kn.l 0 rfl;obtain⟨jC,od,sI,oq⟩:=Gi kn ck qy nR f8;refine Wa ?_;refine Wt ?_ ?_
    ·intro hc;have af:i<q.ae.toNat:=(by have:(i:Int)<q.ae:=(by simpa using hc);omega);have fC:i<nb1.length:=ZA;have aP:i<bs1.length:=ZA;refine Zc ?_
     refine CN (λe2 H2=>∃(bs2:List Bool) (more:Bool),bs2.length=q.ae.toNat/\Mem bs2 (λr=>O r\/(r<i+1/\(I r\/r∈(Cy q).ea b m)))/\(more=true->cnt bs<cnt bs2)/\(more=false->bs2=bs)/\
      Kn F H2 (lvE q.ae.toNat yi yo zi (zo.set b (z,bs2))) [(y9,.vec 1 (Qx nb1))]/\
      lk 2 e2=Uv b/\lk 4 e2=.c (.pp [Ui q.params,Ui q.ae,bc])/\lk 5 e2=.c (.pp [.ah yi 1 0 q.blocks.length,.ah yo 1 0 q.blocks.length])/\lk 9 e2=.c (.ah y9 1 0 q.ae.toNat)/\lk 12 e2=.c (.bool more)/\lk 13 e2=Uv i) ?_ ?_
     ·intro Q bS _ _;refine Qe (Qa ?_);simp only[go_sem,iB,af,bQ _ bF,Q4,bF,Q7 _ _ fC,Jk,Jh];refine Wu ?_ ?_
      ·intro aC;have u9:=(hN i).1 aC;have AB:Mem (bs1.set i true) (λr=>O r\/(r<i+1/\(I r\/r∈(Cy q).ea b m))):=(hB.ins aP).congr λr=>by
        constructor
        ·rintro (rfl|h|h)
         ·exact .inr ⟨ZA,u9⟩
         ·exact .inl h
         ·exact .inr ⟨ZA,h.2⟩
        ·rintro (h|h)
         ·exact .inr (.inl h)
         ·by_cases m9:r=i
          ·exact .inl m9
          ·exact .inr (.inr ⟨ZA,h.2⟩)
       have pI:∀(e:Env),lk 2 e=Uv b->lk 4 e=.c (.pp [Ui q.params,Ui q.ae,bc])->lk 5 e=.c (.pp [.ah yi 1 0 q.blocks.length,.ah yo 1 0 q.blocks.length])->lk 9 e=.c (.ah y9 1 0 q.ae.toNat)->lk 12 e=.c (.bool (bif more then true else !bs1.getD i false))->lk 13 e=Uv i->
         Cr prog Q7t (X.inBlock 3 Q) e H4:=by
        intro e l2 l4 l5 l9 l12 l13;refine Qt ?_;simp only[go_sem,l2,l4,l5,l9,l12,l13,od,sI,qU _ iR,Dw,G6 _ _ _ ck,qy,hb,iR,af,Q4,j8,EU,Q7 _ _ aP,Jk,Jh];intro H5 h5;refine bS _ _ ⟨bs1.set i true,_,by rw[Ji];exact j8,AB,?_,?_,Qa4m kn ck h5,Rf0⟩
        ·intro eF
         cases hg:bs1.getD i false with
         |true=>
          rw[Qzb hg];rw[hg]at eF
          cases eG:more with
          |true=>exact ju eG
          |false=>rw[eG]at eF;simp at eF
         |false=>
          rw[Ii aP hg]
          cases eG:more with
          |true=>have:=ju eG;omega
          |false=>rw[uG eG];omega
        ·intro eF
         cases eG:more with
         |true=>rw[eG]at eF;simp at eF
         |false=>
          rw[eG]at eF;have hg:bs1.getD i false=true:=(by simpa using eF);rw[Qzb hg];exact uG eG
       cases eG:more with
       |true=>
        refine Qa ?_;simp only[go_sem,od,sI,qU _ iR,bQ _ j8,Dw,G6 _ _ _ ck,qy,hb,iR,af,Q4,j8,Q7 _ _ aP,Jk,Jh];exact pI _ rfl rfl rfl rfl (by rw[eG];rfl) rfl
       |false=>
        refine Qa ?_;simp only[go_sem,od,sI,qU _ iR,bQ _ j8,Dw,G6 _ _ _ ck,qy,hb,iR,af,Q4,j8,Q7 _ _ aP,Jk,Jh];exact pI _ rfl rfl rfl rfl (by rw[eG];rfl) rfl
      ·intro aC;refine Zc ?_
       refine bS _ _ ⟨bs1,more,j8,hB.congr λr=>?_,ju,uG,kn,Rf0⟩;constructor
       ·rintro (h|h)
        ·exact .inl h
        ·exact .inr ⟨ZA,h.2⟩
       ·rintro (h|h)
        ·exact .inl h
        ·by_cases m9:r=i
         ·subst m9;have:=(hN r).2 h.2;rw[this]at aC;exact absurd aC ZC
         ·exact .inr ⟨ZA,h.2⟩
     ·rintro e2 H5 ⟨bs2,more2,vz,hB2,yP,yS,kn,l2,l4,l5,l9,l12,l13⟩;refine Qt ?_;simp only[go_sem,X.next,l2,l4,l5,l9,l12,l13];exact⟨Qv,q.ae.toNat-(i+1),ZA,i+1,bs2,more2,rfl,ZA,vz,hB2,yP,yS,kn,rfl⟩
    ·intro hc;have bp:q.ae.toNat<=i:=(by have:q.ae<=(i:Int):=(by simpa using hc);omega);refine Wh ?_;refine hK bs1 more H4 j8 (hB.congr λr=>?_) ju uG (kn.drop (A:=[]));constructor
     ·rintro (h|h)
      ·exact .inl h
      ·exact .inr h.2
     ·rintro (h|h)
      ·exact .inl h
      ·have:r<nb1.length:=hN.lt h;exact .inr ⟨ZA,h⟩
end Y
namespace Y
attribute [local go_sem] cond_true cond_false Bool.not_true Bool.not_false
open Go.Proofs.Tryz
variable{F:Heap}{L:Ul}
def E6 (zs:List (Nat×List Bool)):List (List C):=zs.map λp=>[.sl false 1 (Qx p.2)]
theorem M1 (zs:List (Nat×List Bool)):(E6 zs).length=zs.length:=by simp[E6]
theorem N0 (zs:List (Nat×List Bool))(i:Nat)(h:i<zs.length):(E6 zs).getD i []=[.sl false 1 (Qx zs[i].2)]:=by simp[E6,Ja,h]
theorem M0 {S:Nat->Bool}(hl:∀p∈zs,p.2.length=R)(hH:∀p∈obZ zs,H p.1=p.2/\S p.1=true):FrzR H S (C6 R zs) (E6 zs):=by
 induction zs with
 |nil=>exact .nil
 |cons z zs ih=>
  have h1:=hH (z.1,.vec 1 (Qx z.2)) (by simp[obZ]);refine .cons (.cons ?_ .nil) (ih (λp hp=>hl p (Jm _ hp)) λp hp=>hH p (by simp only[obZ,Ju];exact Jm _ hp));exact (FrzR.same (P9 _)).ah h1.2 h1.1 (by rw[Q4];exact (hl z Jo).symm)
theorem Qa1m{l:List α}{i:Nat}{x:α}(h:i<l.length):(l++[x]).Perm (l.set i x++[l[i]]):=by
 have e:∀(m:List α) (hm:i<m.length),m.Perm (m[i]::m.eraseIdx i):=λm hm=>by
  have h1:(m[i]::m.eraseIdx i).Perm m:=by
   rw[List.eraseIdx_eq_take_drop_succ];refine List.perm_middle.symm.trans ?_;rw[<-J0 hm,Jan]
  exact h1.symm
 have h1:=e l h;have h2:=e (l.set i x) ZI;simp only[Ja6,List.eraseIdx_set_eq]at h2;refine (h1.append_right [x]).trans ?_;refine List.Perm.trans ?_ (h2.append_right [l[i]]).symm;simp only[J2];refine (List.Perm.cons _ J1).trans ?_;refine List.Perm.trans ?_ (List.Perm.cons _ J1);exact List.Perm.swap _ _ _
def Qa8u (q:CodeD)(zi zo:List (Nat×List Bool)):Prop:=lvOk q.ae.toNat q.blocks.length zi zo/\∀b,b<q.blocks.length->∀r,(tab zi b r↔(Cy q).LI b r)/\(tab zo b r↔(Cy q).LO b r)
theorem K8{b:Nat}(h:b<zs.length):Mem zs[b].2 (tab zs b):=λr=>(GZ h r).symm
theorem Q7l (n r:Nat):(List.replicate n false).getD r false=false:=by
 rw[Ja,Jah];split <;> rfl
def DM (x2 x3 yi yo n:Nat):List (Nat×Obj):=[(x2,.st [.sl true 1 [],.sl true 1 []]),(x3,.st [.ah yi 1 0 n,.ah yo 1 0 n])]
theorem MC {q:CodeD}(ho:q.ok)(dV:CodeR H [] bc q)
  (hK:∀(zi zo:List (Nat×List Bool)) H',Upd H H' []->Qa8u q zi zo->K (.ag [.sl false 1 (E6 zi),.sl false 1 (E6 zo)]) H') :
  Qu prog NR [.ag [Ui q.params,Ui q.ae,bc]] H K:=by
 have bI:=ho.r0;have cN:=ho.r1;have eB:=ho.b0;have bm:=ho.b1;have aT:=ho.fitsF;have hFn:(Cy q).n=q.blocks.length:=rfl;obtain⟨R,hR⟩:∃R,q.ae.toNat=R:=⟨_,rfl⟩;obtain⟨n,hn⟩:∃n,q.blocks.length=n:=⟨_,rfl⟩;have vF:q.ae=(R:Int):=ZA
 refine Q0 ?_;have j5:=dV.ow;refine Qd Co Yb ?_;refine Za ?_;intro x2 aL H1 h1;have kn:=(Kn.an H).al aL h1;refine Za ?_;intro x3 aO H2 h2;have kn:=kn.al aO h2;have aO:=kn.l 1 rfl;simp only[go_sem,Q14,aO];intro H3 h3;have kn:Kn H H3 [] [(x2,.st [.sl true 1 [],.sl true 1 []]),(x3,.st [.sl true 1 [],.sl true 1 []])]:=kn.az 1 rfl h3;refine Qa ?_;obtain⟨bD,ip,iN,fS⟩:=dV.facts kn ZC;simp only[go_sem,j5,bD,ip,hn];clear bD fS;intro _;refine Wa ?_;refine Qh (Qe (Qy (λm e1 H1=>∃(i:Nat) (zi zo:List (Nat×List Bool)) (ci co:C) (Li Lo:Ul),m=n-i/\i<=n/\zi.length=i/\zo.length=i/\(∀p∈zi,p.2=List.replicate R false)/\(∀p∈zo,p.2=List.replicate R false)/\
  Gr Li 1 (C6 R zi) ci/\Gr Lo 1 (C6 R zo) co/\Kn H H1 [] ([(x2,.st [.sl true 1 [],.sl true 1 []]),(x3,.st [ci,co])]++(obZ zi++(obZ zo++(Li++Lo))))/\
  e1=[(1,.c (.pp [Ui q.params,Ui q.ae,bc])),(2,Up x2),(3,Up x3),(4,Uv n),(5,Uv i)]) n ?_ ?_))
 ·exact⟨0,[],[],_,_,[],[],ZA,ZA,rfl,rfl,ZC,ZC,.nil 1,.nil 1,kn,rfl⟩
 ·rintro m e1 H4 ⟨i,zi,zo,ci,co,Li,Lo,hm,hi,lV,lU,pB,qx,iz,cO,kn,rfl⟩;refine Wa ?_;refine Wt ?_ ?_
  ·intro hc;have af:i<n:=ZD
   have vq:=iz.ai;have bM:=cO.ai;have aO:=kn.l 1 rfl;refine Zc ?_
   refine Qh (Qe ?_);refine Cv ?_;simp only[go_sem,aO,vq];refine⟨ZA,by simp only[LIM];omega,λy1 tG H5 h5=>?_⟩;have kn:Kn H H5 [] (([(x2,.st [.sl true 1 [],.sl true 1 []]),(x3,.st [ci,co])]++(obZ (zi++[(y1,List.replicate R false)])++(obZ zo++Lo)))++Li):=
    (kn.al tG h5).perm (Qi λf hf h0 hc hp=>by
     have cA:=hc (x2,.st [.sl true 1 [],.sl true 1 []]) [(x3,.st [ci,co])];simp only[Ui,hf,obZ,Jw,Ju,J5,GX,hR];omega)
   have aO:=kn.l 1 rfl;simp only[go_sem,Q16,aO,vq];refine kn.bk iz (.mk' _ _ _ _) (by intro r hr;simp at hr;subst hr;rfl) (by simp only[LIM,Dw,Jq,Jr];omega) λci2 Li2 H6 rX B9 kn=>?_;have aO:=kn.l 1 rfl;simp only[go_sem,Q15,aO];intro H7 h7;have kn:Kn H H7 [] ([(x2,.st [.sl true 1 [],.sl true 1 []]),(x3,.st [ci2,co])]++(obZ (zi++[(y1,List.replicate R false)])++(obZ zo++Lo))++Li2):=kn.az 1 rfl h7;have rX:Gr Li2 1 (C6 R (zi++[(y1,List.replicate R false)])) ci2:=by
    have:C6 R (zi++[(y1,List.replicate R false)])=C6 R zi++[[C.ah y1 1 0 q.ae.toNat]]:=(by simp[C6,hR]);rw[this];exact rX
   have aO:=kn.l 1 rfl;refine C7 ?_;simp only[go_sem,aO,bM];refine⟨ZA,by simp only[LIM];omega,λy2 lC H8 h8=>?_⟩;have kn:Kn H H8 [] (([(x2,.st [.sl true 1 [],.sl true 1 []]),(x3,.st [ci2,co])]++(obZ (zi++[(y1,List.replicate R false)])++(obZ (zo++[(y2,List.replicate R false)])++Li2)))++Lo):=
    (kn.al lC h8).perm (Qi λf hf h0 hc hp=>by
     simp only[Ui,hf,obZ,Jw,Ju,J5,GX,hR];omega)
   have aO:=kn.l 1 rfl;simp only[go_sem,Q18,aO,bM];refine kn.bk cO (.mk' _ _ _ _) (by intro r hr;simp at hr;subst hr;rfl) (by simp only[LIM,Dw,Jq,Jr];omega) λco2 Lo2 H9 nj B7 kn=>?_;have aO:=kn.l 1 rfl;simp only[go_sem,Q17,aO];intro H10 dh;have kn:Kn H H10 [] ([(x2,.st [.sl true 1 [],.sl true 1 []]),(x3,.st [ci2,co2])]++(obZ (zi++[(y1,List.replicate R false)])++(obZ (zo++[(y2,List.replicate R false)])++Li2))++Lo2):=kn.az 1 rfl dh;have nj:Gr Lo2 1 (C6 R (zo++[(y2,List.replicate R false)])) co2:=by
    have:C6 R (zo++[(y2,List.replicate R false)])=C6 R zo++[[C.ah y2 1 0 q.ae.toNat]]:=(by simp[C6,hR]);rw[this];exact nj
   refine Zg ?_;refine⟨Qv,n-(i+1),ZA,i+1,zi++[(y1,List.replicate R false)],zo++[(y2,List.replicate R false)],ci2,co2,Li2,Lo2,rfl,ZA,by simp[lV],by simp[lU],?_,?_,rX,nj,?_,rfl⟩
   ·intro p hp;rcases Jj.1 hp with hp|hp
    ·exact pB p hp
    ·simp at hp;rw[hp]
   ·intro p hp;rcases Jj.1 hp with hp|hp
    ·exact qx p hp
    ·simp at hp;rw[hp]
   ·exact kn.perm (by simp only[Jai];exact .refl _)
  ·intro hc;have bT:i=n:=by have:n<=i:=ZD;omega
   subst bT;obtain⟨yi,jC,BZ⟩:∃yi,ci=.ah yi 1 0 i/\Li=[(yi,.vec 1 (C6 R zi))]:=by
    rcases iz with ⟨_,h,_⟩|⟨y,h1,h2⟩
    ·have:=congrArg List.length h;rw[Dw,lV]at this;simp at this;omega
    ·exact⟨y,by rw[h1,Dw,lV],h2⟩
   obtain⟨yo,cp,BY⟩:∃yo,co=.ah yo 1 0 i/\Lo=[(yo,.vec 1 (C6 R zo))]:=by
    rcases cO with ⟨_,h,_⟩|⟨y,h1,h2⟩
    ·have:=congrArg List.length h;rw[Dw,lU]at this;simp at this;omega
    ·exact⟨y,by rw[h1,Dw,lU],h2⟩
   have kn:Kn H H4 [] (lvE R yi yo zi zo++DM x2 x3 yi yo i):=by
    refine kn.perm (Qi λf hf h0 hc hp=>?_);rw[BZ,BY,jC,cp];have e1:=hc (x2,.st [.sl true 1 [],.sl true 1 []]) [(x3,.st [.ah yi 1 0 i,.ah yo 1 0 i])];have e2:=hc (yi,.vec 1 (C6 R zi)) [(yo,.vec 1 (C6 R zo))];simp only[Ui,hf,lvE,DM];omega
   have cY:lvOk R i zi zo:=⟨lV,lU,λp hp=>by rw[pB p hp];simp,λp hp=>by rw[qx p hp];simp⟩;have b7:∀(zs:List (Nat×List Bool)),(∀p∈zs,p.2=List.replicate R false)->∀b r,¬tab zs b r:=λzs h b r hr=>by
    rw[tab]at hr
    cases hg:zs[b]? with
    |none=>rw[hg]at hr;simp at hr
    |some p=>
     rw[hg]at hr;have:=h p (List.mem_of_getElem? hg);simp only[Ja8,Jaa,this,Q7l]at hr;exact absurd hr ZC
   have gA:LvInv (Cy q) zi zo:=⟨λb _ r hr=>absurd hr (b7 zi pB b r),λb _ r hr=>absurd hr (b7 zo qx b r),λb _ r hr=>absurd hr (b7 zi pB b r)⟩;refine Zb ?_;refine Wa ?_;clear b7 pB qx iz cO BZ BY jC cp lV lU hm hc hi;refine Qh (Qe (Qy (λm e1 H1=>∃(zi zo:List (Nat×List Bool)) (a:Bool) (yi yo:Nat),m=(if a=true then 2 * (i * R)+1-(C9 zi+C9 zo)else 0)/\lvOk R i zi zo/\LvInv (Cy q) zi zo/\(a=false->∀b,b<i->LvCl (Cy q) zi zo b)/\
    Kn H H1 [] (lvE R yi yo zi zo++DM x2 x3 yi yo i)/\
    lk 1 e1=.c (.pp [Ui q.params,Ui q.ae,bc])/\lk 2 e1=Up x2/\lk 3 e1=Up x3/\lk 4 e1=Uv i/\lk 6 e1=.c (.bool a)) (2 * (i * R)+1-(C9 zi+C9 zo)) ?_ ?_))
   ·exact⟨zi,zo,true,yi,yo,rfl,cY,gA,λh=>ZH,kn,Rf0⟩
   ·clear cY gA kn;rintro m e1 H5 ⟨zi,zo,a,yi,yo,hm,cY,gA,cL,kn,l1,l2,l3,l4,l6⟩;have oy:=Gb cY.li;have ox:=Gb cY.lo;rw[cY.i]at oy;rw[cY.o]at ox;refine Q1 (Qa ?_);simp only[go_sem,l1,l2,l3,l4,l6];refine Wt ?_ ?_
    ·intro bu;rw[bu,if_pos rfl]at hm;refine Zc ?_
     refine Wr ?_;refine Za ?_;refine⟨Qv,?_⟩;clear cL;refine Qe (Qy (λm1 e1 H1=>∃(k:Nat) (j:Int) (zi1 zo1:List (Nat×List Bool)) (a:Bool) (yi yo:Nat),m1=k/\k<=i/\j=(k:Int)-1/\lvOk R i zi1 zo1/\LvInv (Cy q) zi1 zo1/\C9 zi+C9 zo<=C9 zi1+C9 zo1/\
      (a=true->C9 zi+C9 zo<C9 zi1+C9 zo1)/\(a=false->∀b,k<=b->b<i->LvCl (Cy q) zi1 zo1 b)/\
      Kn H H1 [] (lvE R yi yo zi1 zo1++DM x2 x3 yi yo i)/\
      e1=[(1,.c (.pp [Ui q.params,Ui q.ae,bc])),(2,Up x2),(3,Up x3),(4,Uv i),(6,.c (.bool a)),(7,Uv j)]) i ?_ ?_)
     ·exact⟨i,_,zi,zo,false,yi,yo,rfl,Jh _,rfl,cY,gA,Jh _,λh=>ZH,λ_ b h1 h2=>ZA,kn,rfl⟩
     ·have hTb:C9 zi+C9 zo<=2 * (i * R):=ZA;generalize hT0:C9 zi+C9 zo=T0 at *;clear gA cY kn ox oy hT0;clear zi zo yi yo;rintro m1 e1 H6 ⟨k,j,zi,zo,a,yi,yo,rfl,hk,qi,cY,gA,htot,vZ,sS,kn,rfl⟩;have oy:=Gb cY.li;have ox:=Gb cY.lo;rw[cY.i]at oy;rw[cY.o]at ox;refine Wa ?_;refine Wt ?_ ?_
      ·intro hc;have bp:0<=j:=ZD;obtain⟨b,rfl⟩:∃b,m1=b+1:=⟨m1-1,ZA⟩;have hj:j=(b:Int):=ZA;subst hj;have cB:b<i:=ZA;have ik:b<q.blocks.length:=ZA;have ck:b<zo.length:=(by rw[cY.o];exact cB);have cP:b<zi.length:=(by rw[cY.i];exact cB);obtain⟨⟨z,bs⟩,hz⟩:∃p,zo[b]=p:=⟨_,rfl⟩;obtain⟨⟨w,bw⟩,hw⟩:∃p,zi[b]=p:=⟨_,rfl⟩;have dt:zo[b]? = some (z,bs):=(by rw[Jd ck,hz]);have f8:zi[b]? = some (w,bw):=(by rw[Jd cP,hw]);have Af:bs.length=R:=cY.lo (z,bs) (by rw[<-hz];exact Je ck);have pd:bw.length=R:=cY.li (w,bw) (by rw[<-hw];exact Je cP);have eF:Mem bs (tab zo b):=(by have:=K8 ck;rw[hz]at this;exact this);have iq:zo.set b (z,bs)=zo:=Me dt;obtain⟨y,hy⟩:∃y,q.blocks[b]=y:=⟨_,rfl⟩;have cp:y.ok q b:=(by rw[<-hy];exact ho.bs b ik);have cK:y.ins.length<=1200/\y.ab.length<=1200:=(by rw[<-hy];exact ho.il b ik);have fd:(Cy q).nx b=y.next.map Int.toNat:=(by rw[<-hy,<-EZ ik];rfl);have fb:(Cy q).ph b=y.ab.map λp=>p.to.toNat:=(by rw[Vp ik,hy]);refine Zc ?_
       refine CN (λe2 H2=>∃(zi2 zo2:List (Nat×List Bool)) (a2:Bool) (yi yo:Nat),lvOk R i zi2 zo2/\LvInv (Cy q) zi2 zo2/\C9 zi+C9 zo<=C9 zi2+C9 zo2/\
        (a2=true->a=true\/C9 zi+C9 zo<C9 zi2+C9 zo2)/\(a2=false->a=false/\LvCl (Cy q) zi2 zo2 b/\∀c,LvCl (Cy q) zi zo c->LvCl (Cy q) zi2 zo2 c)/\
        Kn H H2 [] (lvE R yi yo zi2 zo2++DM x2 x3 yi yo i)/\
        lk 1 e2=.c (.pp [Ui q.params,Ui q.ae,bc])/\lk 2 e2=Up x2/\lk 3 e2=Up x3/\lk 4 e2=Uv i/\lk 6 e2=.c (.bool a2)/\lk 7 e2=Uv b) ?_ ?_
       ·intro Q bS _ _;refine Qe (Q1 ?_);refine Za ?_;refine Qh (Qe (Qy (λm2 e1 H1=>∃(i2:Nat) (bs1:List Bool) (a1:Bool),m2=y.next.length-i2/\i2<=y.next.length/\bs1.length=R/\(∀r,bs.getD r false=true->bs1.getD r false=true)/\(∀r,bs1.getD r false=true->(Cy q).LO b r)/\
         (∀m∈((Cy q).nx b).take i2,∀r,tab zi m r\/r∈(Cy q).ea b m->bs1.getD r false=true)/\(a1=true->a=true\/cnt bs<cnt bs1)/\(a1=false->a=false/\bs1=bs)/\
         Kn H H1 [] (lvE R yi yo zi (zo.set b (z,bs1))++DM x2 x3 yi yo i)/\
         e1=[(1,.c (.pp [Ui q.params,Ui q.ae,bc])),(2,Up x2),(3,Up x3),(4,Uv i),(6,.c (.bool a1)),(7,Uv b),(8,Uv i2)]) y.next.length ?_ ?_))
        ·exact⟨0,bs,a,ZA,ZA,Af,λr h=>h,λr h=>gA.bo b ik r ((eF r).1 h),ZC,λh=>.inl h,λh=>⟨h,rfl⟩,by rw[iq];exact kn,rfl⟩
        ·rintro m2 e1 H7 ⟨i2,bs1,a1,fz,jc,iO,g1,g2,g3,k1,k2,kn,rfl⟩;have aO:H7 x3=.st [.ah yi 1 0 i,.ah yo 1 0 i]:=(kn.get (x3,.st [.ah yi 1 0 i,.ah yo 1 0 i]) Zbp).1;obtain⟨bD,_,_,fS⟩:=dV.facts kn ZC;refine Q1 (Qa ?_);simp only[go_sem,j5,bD,ip,iN,fS,ik,CU _ _ ik,hy,BlkD.cells,Qc];intro _;refine Wt ?_ ?_
         ·intro aC;have af:i2<y.next.length:=ZG;have yI:=cp.nxl;have b8:y.next.getD i2 0=y.next[i2]:=Zaj;have uC:y.next[i2]∈gnx q b:=(by rw[EZ ik,hy];exact Je af);have hmr:=cp.nx _ (Je af);obtain⟨mm,eG⟩:=Ja0 (show 0<=y.next[i2]by omega);have nR:mm<zi.length:=(by rw[cY.i];omega);have yU:mm∈(Cy q).nx b:=(by rw[fd];exact Jt.2 ⟨y.next[i2],Je af,by rw[eG];rfl⟩);have bQ:((Cy q).nx b).take (i2+1)=((Cy q).nx b).take i2++[mm]:=by
           rw[Jf (by rw[fd,Jx];exact af)];congr 1;simp only[fd,Jap,eG];rfl
          rw[eG]at uC b8;have Aj:b<(zo.set b (z,bs1)).length:=(by simpa using ck);have yW:lvOk R i zi (zo.set b (z,bs1)):=⟨cY.i,by rw[Ji];exact cY.o,cY.li,λp hp=>by
           rcases Jag hp with hp|rfl
           ·exact cY.lo p hp
           ·exact iO⟩
          refine Zc ?_
          refine Wq ?_;simp only[go_sem,aO,j5,bD,ip,iN,fS,ik,CU _ _ ik,hy,BlkD.cells,af,Qc,Qk _ _ af,b8];subst hR;subst hn;refine YO (F:=H7) (z:=z) (bs:=bs1) (w:=zi[mm].1) (nb:=zi[mm].2) (O:=λr=>bs1.getD r false=true) (I:=tab zi mm) ho (dV.mid kn) (λx hx=>by rw[Jw];exact Jl _ hx) ik uC yW (by rw[Ja3 ck]) (by rw[Jd nR]) (λr=>Jbv) (K8 nR) kn.mid λbs2 f H8 sB gy nr kE k2'=>?_;rw[Jbn]at k2';have kn:=(kn.comp k2' K9).drop;have stepT:∀a1',(a1'=(f || a1))->∃m,m<m2/\∃(i5:Nat) (bs1:List Bool) (a1:Bool),m=y.next.length-i5/\i5<=y.next.length/\bs1.length=q.ae.toNat/\(∀r,bs.getD r false=true->bs1.getD r false=true)/\(∀r,bs1.getD r false=true->(Cy q).LO b r)/\
            (∀m∈((Cy q).nx b).take i5,∀r,tab zi m r\/r∈(Cy q).ea b m->bs1.getD r false=true)/\(a1=true->a=true\/cnt bs<cnt bs1)/\(a1=false->a=false/\bs1=bs)/\
            Kn H H8 [] (lvE q.ae.toNat yi yo zi (zo.set b (z,bs1))++DM x2 x3 yi yo q.blocks.length)/\
            [(1,V.c (.pp [Ui q.params,Ui q.ae,bc])),(2,Up x2),(3,Up x3),(4,.c (Ui q.blocks.length)),(6,.c (.bool a1')),(7,Uv b),(8,Uv ((i2:Int)+1))]=[(1,.c (.pp [Ui q.params,Ui q.ae,bc])),(2,Up x2),(3,Up x3),(4,.c (Ui q.blocks.length)),(6,.c (.bool a1)),(7,Uv b),(8,Uv i5)]:=by
           intro a1' vA;refine⟨y.next.length-(i2+1),ZA,i2+1,bs2,a1',rfl,ZA,sB,λr hr=>(gy r).2 (.inl (g1 r hr)),λr hr=>?_,λm hm r hr=>?_,λha=>?_,λha=>?_,kn,rfl⟩
           ·rcases (gy r).1 hr with h|h|h
            ·exact g2 r h
            ·exact⟨mm,yU,.inl (gA.bi mm (aT b ik mm yU) r h)⟩
            ·exact⟨mm,yU,.inr h⟩
           ·rw[bQ]at hm;rcases Jj.1 hm with hm|hm
            ·exact (gy r).2 (.inl (g3 m hm r hr))
            ·simp only[Jb]at hm;subst hm;exact (gy r).2 (.inr hr)
           ·have c1:cnt bs<=cnt bs1:=(Q5a ZA g1).1
            cases hf:f with
            |true=>have:=nr hf;right;omega
            |false=>
             rw[kE hf];rw[vA,hf]at ha;exact k1 ZaH
           ·rw[vA]at ha;have oY:f=false:=by cases hf:f with
             |true=>rw[hf]at ha;simp at ha
             |false=>rfl
            rw[oY]at ha;obtain⟨q1,q2⟩:=k2 ZaH;exact⟨q1,by rw[kE oY,q2]⟩
          cases B2:f with
          |true=>
           simp only[go_sem,Sc];refine Zg ?_;exact⟨Qv,stepT true (by rw[B2];rfl)⟩
          |false=>
           simp only[go_sem,Sc];refine Zg ?_;exact⟨Qv,stepT a1 (by rw[B2];rfl)⟩
         ·intro aC;have zH:y.next.length<=i2:=ZG;have g3:∀r,(Cy q).outT (tab zi) b r->bs1.getD r false=true:=λr ⟨m,hm,hr⟩=>
           g3 m (by rw[Jc (by rw[fd,Jx];exact zH)];exact hm) r hr
          refine Zb ?_;refine Zl aO j5 ?_;have Aj:b<(zo.set b (z,bs1)).length:=(by simpa using ck);obtain⟨oe,qz,qu,qO⟩:=Gi kn.mid ck (by rw[hz]) cP hw;have dd:Slc H7 1 (C6 R zo) (.ah yo 1 0 i):=⟨by simp only[aZ,qz,Dw,cY.o];exact⟨trivial,ZA⟩,rfl,by simp only[rowsOf,qz,J4];exact Jc (by rw[Dw,cY.o];exact Jh _),by simp only[ay,Dw,cY.o]⟩;have fZ:Slc H7 1 (Qx bs1) (.ah z 1 0 R):=⟨by simp only[aZ,qu,Q4,iO];exact⟨trivial,ZA⟩,rfl,by simp only[rowsOf,qu,J4];exact Jc (by rw[Q4,iO];exact Jh _),by simp only[ay,Q4,iO]⟩;refine Qal0 (i:=-1) (ic:=.ah yi 1 0 i) (bc:=bc) (W:=λr=>bs1.getD r false=true) ho (dV.mid kn).nil ik ZA ZA kn dd rfl rfl (by rw[Dw];exact ck) (by rw[G6 _ _ _ ck,hz]) fZ rfl (by rw[hR];exact iO) (λr=>Jbv) λy9 nb0 H8 oK kh kn=>?_;rw[hR]at oK;simp only[go_sem,Qyk,hR];refine Wa ?_;refine Qh (Qe (Qy (λm2 e1 H1=>∃(i2:Nat) (nb:List Bool),m2=y.ab.length-i2/\i2<=y.ab.length/\nb.length=R/\Mem nb (λr=>(Cy q).beh (λr=>bs1.getD r false=true) b 0 r/\r∉((Cy q).ph b).take i2)/\
           Kn H H1 [] ((lvE R yi yo zi (zo.set b (z,bs1))++DM x2 x3 yi yo i)++[(y9,.vec 1 (Qx nb))])/\
           e1=[(1,.c (.pp [Ui q.params,Ui q.ae,bc])),(2,Up x2),(3,Up x3),(4,Uv i),(6,.c (.bool a1)),(7,Uv b),(9,.c (.ah y9 1 0 R)),(10,Uv i2)]) y.ab.length ?_ ?_))
          ·exact⟨0,nb0,ZA,ZA,oK,kh.congr λr=>ZC,kn,rfl⟩
          ·clear kh oK kn;rintro m3 e1 H9 ⟨i3,nb,uH,hi3,bF,gV,kn,rfl⟩;have iB:H9 y9=.vec 1 (Qx nb):=(kn.get (y9,.vec 1 (Qx nb)) ZC).1;have htkn:(Qx nb).take R=Qx nb:=Jc Zan;obtain⟨bD,_,_,fS⟩:=dV.facts kn ZC;refine Q1 (Qa ?_);simp only[go_sem,j5,bD,ip,iN,fS,ik,CU _ _ ik,hy,BlkD.cells,Qz];intro _;refine Wt ?_ ?_
           ·intro bv;have bR:i3<y.ab.length:=ZT;obtain⟨hv,bH⟩:=(cp.pto _ (Je bR)).nat;rw[hR]at bH;have qW:((Cy q).ph b).take (i3+1)=((Cy q).ph b).take i3++[(y.ab[i3].to).toNat]:=by
             rw[Jf (by rw[fb,Jx];exact bR)];simp[fb]
            have f9:(y.ab[i3].to).toNat<nb.length:=ZA;generalize hr:(y.ab[i3].to).toNat=r at *;refine Zc ?_
            refine Ws ?_;simp only[go_sem,j5,bD,ip,iN,fS,ik,CU _ _ ik,hy,BlkD.cells,bR,Qz,D2 _ _ bR,PhiD.cells,hv,bH,iB,Q4,bF,EU,Q7 _ _ f9,Jk,Jh];intro H10 dh;have kn:=kn.az (lvE R yi yo zi (zo.set b (z,bs1))++DM x2 x3 yi yo i).length (x:=y9) (o:=.vec 1 (Qx nb)) ZC dh;refine Zg ?_;refine⟨Qv,y.ab.length-(i3+1),ZA,i3+1,nb.set r false,rfl,ZA,by rw[Ji];exact bF,?_,ZL,rfl⟩;refine (gV.del f9).congr λx=>?_;rw[qW];simp only[Jj,Jb,not_or,and_assoc]
           ·intro bv;have zG:y.ab.length<=i3:=ZT;have gV:Mem nb ((Cy q).thru (λr=>bs1.getD r false=true) b):=gV.congr λr=>(by rw[Jc (by rw[fb,Jx];exact zG)];rfl);refine Zb ?_;refine Wa ?_;refine Qh (Qe (Qy (λm4 e1 H1=>∃(i4:Nat) (a2:Bool),m4=R-i4/\i4<=R/\H1=H9/\(a2=true->a1=true\/∃r,nb.getD r false≠bw.getD r false)/\(a2=false->a1=false/\∀r,r<i4->nb.getD r false=bw.getD r false)/\
             e1=[(1,.c (.pp [Ui q.params,Ui q.ae,bc])),(2,Up x2),(3,Up x3),(4,Uv i),(6,.c (.bool a2)),(7,Uv b),(9,.c (.ah y9 1 0 R)),(11,Uv i4)]) R ?_ ?_))
            ·exact⟨0,a1,ZA,ZA,rfl,λh=>.inl h,λh=>⟨h,λr hr=>ZA⟩,rfl⟩
            ·have aO:H9 x3=.st [.ah yi 1 0 i,.ah yo 1 0 i]:=(kn.get (x3,.st [.ah yi 1 0 i,.ah yo 1 0 i]) Zbp).1;have knA:=kn.drop;obtain⟨oe,qz,qu,qO⟩:=Gi knA.mid ck (by rw[hz]) cP hw;rintro m4 e1 H10 ⟨i4,a2,hm4,hi4,rfl,k3,k4,rfl⟩;have qU:∀(zs:List (Nat×List Bool)),zs.length=i->(C6 R zs).take i=C6 R zs:=λzs h=>Jc (by rw[Dw];omega);have wa:∀(bs:List Bool),bs.length=R->(Qx bs).take R=Qx bs:=λbs h=>Jc Zan;have ir:zi[b].1=w:=(by rw[hw]);have ng:=cY.i;refine Wa ?_;refine Wt ?_ ?_
             ·intro dz;have gW:i4<R:=(by have:(i4:Int)<q.ae:=(by simpa using dz);omega);have uJ:i4<nb.length:=ZA;have uI:i4<bw.length:=ZA;refine Zc ?_
              refine CN (λe2 H2=>∃(a3:Bool),H2=H10/\(a3=true->a2=true\/nb.getD i4 false≠bw.getD i4 false)/\(a3=false->a2=false/\nb.getD i4 false=bw.getD i4 false)/\
               lk 1 e2=.c (.pp [Ui q.params,Ui q.ae,bc])/\lk 2 e2=Up x2/\lk 3 e2=Up x3/\lk 4 e2=Uv i/\lk 6 e2=.c (.bool a3)/\lk 7 e2=Uv b/\lk 9 e2=.c (.ah y9 1 0 R)/\lk 11 e2=Uv i4) ?_ ?_
              ·intro Q bS _ _;refine Qe ?_
               cases nB:a2 with
               |true=>
                refine C7 ?_;simp only[go_sem,aO,oe,qO,iB,qU _ ng,wa _ bF,wa _ pd,Dw,G6 _ _ _ cP,ir,cB,ng,gW,Q4,bF,pd,Q7 _ _ uJ,Q7 _ _ uI,Jk,Jh];exact bS _ _ ⟨true,rfl,λ_=>.inl nB,λh=>ZH,Rf0⟩
               |false=>
                refine C7 ?_;simp only[go_sem,aO,oe,qO,iB,qU _ ng,wa _ bF,wa _ pd,Dw,G6 _ _ _ cP,ir,cB,ng,gW,Q4,bF,pd,Q7 _ _ uJ,Q7 _ _ uI,Jk,Jh];refine bS _ _ ⟨_,rfl,λh=>?_,λh=>?_,Rf0⟩
                ·right;intro he;rw[he]at h;simp at h
                ·exact⟨nB,ZI⟩
              ·rintro e2 H11 ⟨a3,rfl,q1,q2,l1,l2,l3,l4,l6,l7,l9,l11⟩;refine Qt ?_;simp only[go_sem,X.next,l1,l2,l3,l4,l6,l7,l9,l11];refine⟨Qv,R-(i4+1),ZA,i4+1,a3,rfl,ZA,λh=>?_,λh=>?_,rfl⟩
               ·rcases q1 h with h1|h1
                ·exact k3 h1
                ·exact .inr ⟨i4,h1⟩
               ·obtain⟨h1,h2⟩:=q2 h;obtain⟨h3,h4⟩:=k4 h1;refine⟨h3,λr hr=>?_⟩;by_cases m9:r<i4
                ·exact h4 r m9
                ·have:r=i4:=ZA;subst this;exact h2
             ·intro dz;have zF:i4=R:=(by have:¬(i4:Int)<q.ae:=(by simpa using dz);omega);subst zF;refine Zb ?_;refine Qt ?_;simp only[go_sem,aO,oe,Dw,G6 _ _ _ cP,cB,ng,Jk,Jh];intro H11 eC;have aD:(C6 i4 zi).set b [.ah y9 1 0 i4]=C6 i4 (zi.set b (y9,nb)):=(by rw[C6,C6,Jac]);rw[aD]at eC;have oG:obZ (zi.set b (y9,nb))=(obZ zi).set b (y9,.vec 1 (Qx nb)):=(by rw[obZ,obZ,Jac]);have wr:=Qa1m (l:=obZ zi) (i:=b) (x:=(y9,Obj.vec 1 (Qx nb))) (by simpa[obZ]using cP);have kn:Kn H H11 [] ((lvE i4 yi yo (zi.set b (y9,nb)) (zo.set b (z,bs1))++DM x2 x3 yi yo i)++[(obZ zi)[b]'(by simpa[obZ]using cP)]):=by
               have k5:Kn H H11 [] ((([(yi,.vec 1 (C6 i4 (zi.set b (y9,nb)))),(yo,.vec 1 (C6 i4 (zo.set b (z,bs1))))]++(obZ zi++obZ (zo.set b (z,bs1))))++DM x2 x3 yi yo i)++[(y9,.vec 1 (Qx nb))]):=kn.az 0 (x:=yi) (o:=.vec 1 (C6 i4 zi)) rfl eC;refine k5.perm (Qi λf hf h0 hc hp=>?_);have e1:=hp _ _ wr;simp only[hf]at e1;simp only[Ui,lvE,hf,oG];omega
              have kn:=kn.drop;have aI:=gA.step (y:=y9) aT ik (cY.i.trans hn.symm) (cY.o.trans hn.symm) cY.li cY.lo iO bF dt f8 g1 g2 g3 (λr=>gV r) k1 k2 k3 k4;obtain⟨s1,s2,s3,s4⟩:=aI;refine bS _ _ ⟨zi.set b (y9,nb),zo.set b (z,bs1),a2,yi,yo,⟨by rw[Ji];exact cY.i,by rw[Ji];exact cY.o,λp hp=>?_,λp hp=>?_⟩,s1,s2,s3,s4,kn,Rf0⟩
              ·rcases Jag hp with hp|rfl
               ·exact cY.li p hp
               ·exact bF
              ·rcases Jag hp with hp|rfl
               ·exact cY.lo p hp
               ·exact iO
       ·rintro e2 H7 ⟨zi2,zo2,a2,yi2,yo2,yV,uU,t1,t2,t3,kn,l1,l2,l3,l4,l6,l7⟩;refine Qt ?_;simp only[go_sem,X.next,l1,l2,l3,l4,l6,l7];refine⟨Qv,b,ZA,b,(b:Int)-1,zi2,zo2,a2,yi2,yo2,rfl,ZA,rfl,yV,uU,ZA,λha=>?_,λha c dV dG=>?_,kn,rfl⟩
        ·rcases t2 ha with h|h
         ·have:=vZ h;omega
         ·omega
        ·obtain⟨u1,u2,u3⟩:=t3 ha;by_cases fj:c=b
         ·subst fj;exact u2
         ·exact u3 c (sS u1 c ZA dG)
      ·intro hc;have hlt0:¬0<=j:=ZD;have iI:m1=0:=ZA;subst iI;refine Zb ?_;refine⟨if a=true then 2 * (i * R)+1-(C9 zi+C9 zo)else 0,?_,zi,zo,a,yi,yo,rfl,cY,gA,λha b hb=>sS ha b ZA hb,kn,by first|exact⟨rfl,Rf0⟩|exact rfl|trivial⟩;split
       ·have:=vZ ‹_›;omega
       ·omega
    ·intro haf;have cL:=cL haf;have da:=gA.done aT λb hb=>cL b (by rw[<-hn];exact hb);have aO:H5 x3=.st [.ah yi 1 0 i,.ah yo 1 0 i]:=(kn.get (x3,.st [.ah yi 1 0 i,.ah yo 1 0 i]) Zbp).1;have aL:H5 x2=.st [.sl true 1 [],.sl true 1 []]:=(kn.get (x2,.st [.sl true 1 [],.sl true 1 []]) Zbp).1;refine Zb ?_;refine Zl aL aO ?_;intro H6 h6;have kn:Kn H H6 [] (lvE R yi yo zi zo++[(x2,.st [.ah yi 1 0 i,.ah yo 1 0 i]),(x3,.st [.ah yi 1 0 i,.ah yo 1 0 i])]):=by
      have:=kn.az (lvE R yi yo zi zo).length (x:=x2) (o:=.st [.sl true 1 [],.sl true 1 []]) Zbp h6;simpa[DM]using this
     have aL:H6 x2=.st [.ah yi 1 0 i,.ah yo 1 0 i]:=(kn.get (x2,.st [.ah yi 1 0 i,.ah yo 1 0 i]) ZC).1;have hg:∀p∈lvE R yi yo zi zo,H6 p.1=p.2/\un H p.1=true:=λp hp=>⟨(kn.get p (Jn _ (Jl _ hp))).1,Ef (kn.loc p (Jl _ hp))⟩;have g1:=hg (yi,.vec 1 (C6 R zi)) (by simp[lvE]);have g2:=hg (yo,.vec 1 (C6 R zo)) (by simp[lvE]);refine Zs aL ?_;refine⟨_,(FrzL.cons (FrzR.ah g1.2 g1.1 (by rw[Dw,cY.i]) (M0 cY.li λp hp=>hg p (by simp only[lvE];exact Jn _ (Jl _ hp))))
      (FrzL.cons (FrzR.ah g2.2 g2.1 (by rw[Dw,cY.o]) (M0 cY.lo λp hp=>hg p (by simp only[lvE];exact Jn _ (Jn _ hp)))) FrzL.nil)).ag,hK zi zo _ kn.fin ⟨by rw[hR,hn];exact cY,λb hb=>da b hb⟩⟩
end Y
end Go.AE
