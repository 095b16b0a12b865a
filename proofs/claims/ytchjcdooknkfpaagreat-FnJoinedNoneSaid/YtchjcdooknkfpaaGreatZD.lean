/- Part 4 of the proof: the engine, codes, walks and plain laws, each named where it stands. -/
import Derived.Test.YtchjcdooknkfpaaGreatZC
import Derived.Shelf.Sort.Plain
import Derived.Shelf.Sort.So_math_bits_LenIn
open Nat (reduceEqDiff reduceAdd reduceLeDiff reduceLT)
set_option linter.unusedVariables false
set_option linter.unusedSimpArgs false
set_option maxRecDepth 4000
set_option maxHeartbeats 4000000
open Bool renaming and_eq_true->Jl,not_false->Jy,not_true->Jap,false_eq_true->Jat,not_eq_true'->Jbe,eq_iff_iff->Jbl,true_and->Jbo
open List renaming getD_eq_getElem?_getD->Ja,mem_singleton->Jb,take_of_length_le->Jc,getElem?_eq_getElem->Jd,length_replicate->Je,getElem_mem->Jf,take_succ_eq_append_getElem->Jg,length_set->Jh,mem_cons_of_mem->Ji,mem_append->Jj,mem_cons_self->Jn,getElem?_eq_none->Jo,length_cons->Jp,length_nil->Jq,mem_append_left->Jr,mem_map->Js,length_take->Jt,mem_append_right->Ju,map_cons->Jv,map_append->Jw,nil_append->Jx,mem_iff_getElem->Jz,mem_range->J0,cons_append->J1,mem_cons->J2,drop_eq_getElem_cons->J3,pairwise_iff_getElem->J4,getElem?_set->J5,length_map->J6,any_eq_true->J7,drop_zero->J8,filter_append->J9,length_append->Jaa,map_nil->Jab,perm_append_comm->Jac,getElem_take->Jad,mem_of_mem_take->Jae,all_eq_true->Jaf,ext_getElem?->Jah,getElem?_map->Jai,nodup_append->Jaj,contains_iff_mem->Jak,map_set->Jal,length_drop->Jam,not_mem_nil->Jan,mem_filter->Jaq,range_succ->Jar,sum_append->Jas,set_cons_succ->Jau,append_assoc->Jav,getElem?_replicate->Jax,sum_cons->Jay,filter_cons->Jaz,getElem_map->Ja0,pairwise_lt_range->Ja1,filter_nil->Ja2,singleton_append->Ja3,take_append_drop->Ja4,getElem?_set_ne->Ja6,pairwise_append->Ja7,map_congr_left->Ja8,getElem?_drop->Ja9,getElem?_take->Jba,map_take->Jbb,pairwise_cons->Jbc,getElem_drop->Jbf,length_range->Jbg,pairwise_map->Jbh,map_map->Jbi,take_length->Jbk,count_cons->Jbm,set_set->Jbp,map_id->Jbs
open List.Pairwise renaming filter->Ja5
open Nat renaming le_refl->Jk,zero_add->Jm,mul_le_mul_right->Jao,eq_zero_or_pos->Jbd,lt_or_ge->Jbj,add_zero->Jbq,succ_mul->Jbr
open Option renaming getD_some->Jag,map_some->Jbn
open Option.some renaming injEq->Jaw
namespace Go.AE.Y
open Go.Proofs.Tryz
variable {H:Heap}{K:Uk}
def UnitOk (cs:List CodeD):Prop:=0<cs.length/\cs.length<=4/\∀c∈cs,c.gd
theorem Km {R:Rdr}{k:Nat}(hH:H R.l=R.o k)(hk:k+7100000<=2^30)
  (hK:∀(cs:List CodeD) (H':Heap) (k':Nat),k<k'->k'<=k+7050000->Upd H H' [(R.l,R.o k')]->UnitOk cs->K (.ag [.sl false 3 (Qn cs)]) H') :
  Qv prog L7 [.c (.ptr R.l 0)] H K:=by
 refine Qz ?_;refine Qd A6 Qbk8 ?_;refine Za ?_;intro x2 aH H1 h1;have kn:=(Kn.start1 hH (R.an k)).al aH h1;have tail:∀(E1:Env) (H2:Heap) (k1:Nat) (L:Ul),k<k1->k1<=k+7000500->Kn H H2 [(R.l,R.o k1)] ([(x2,.st [.sl true 3 []])]++L)->lk 0 E1=.c (.ptr R.l 0)->lk 2 E1=Up x2->
   A9 prog Ny (Q7 AG (unK H K)) E1 H2:=by
  intro E1 H2 k1 L i9 fx kn l0 l2;refine Zi l0 ?_;refine IW (kn.e 0 rfl) ZA λcs H3 k2 iR iQ hu mt tZ gK=>?_;have kn:=kn.aq 0 rfl hu (R.an _);have aH:=kn.l 0 rfl;simp only[go_sem,Q32,aH,l2];intro H4 h4;have kn:=kn.aA 0 rfl h4;have aH:=kn.l 0 rfl;refine Zt aH ?_;exact⟨_,FrzL.ag (.cons (FrzR.same (Di cs)).sl .nil),hK cs _ k2 ZA ZA kn.fin ⟨mt,ZA,λc hc=>(gK c hc).gd⟩⟩
 refine Wa ?_;refine AX (kn.e 0 rfl) ZA λv H2 hv hu=>?_;have kn:=kn.aq 0 rfl hu (R.an _);simp only[go_sem,Q3y];refine Wu ?_ ?_
 ·intro hc;refine Za ?_;refine YH (kn.e 0 rfl) ZA λl H3 k1 i9 fx hu hp=>?_;have kn:=kn.aq 0 rfl hu (R.an _);simp only[go_sem,Q31];refine YA hp λcs H4 hu mt aU=>?_;have kn:=kn.au hu;simp only[go_sem,E3];intro x3 aK H5 h5;have kn:=kn.al aK h5;have aK:=kn.l 1 rfl;simp only[go_sem,Dy,aK];intro H6 h6;have kn:=kn.aA 1 rfl h6;have aK:=kn.l 1 rfl;refine Zi aK ?_;refine Qa4n aU λb H7 hb hu=>?_;have kn:=kn.au hu;have aK:=kn.l 1 rfl;have aH:=kn.l 0 rfl;refine Wv ?_ ?_
  ·intro bg;refine Zn aK aH ?_;intro H8 h8;have kn:=kn.aA 0 rfl h8;have aH:=kn.l 0 rfl;refine Zt aH ?_;obtain⟨g1,g2,g3⟩:=hb bg;exact⟨_,FrzL.ag (.cons (FrzR.same (Di cs)).sl .nil),hK cs _ k1 ZA ZA kn.fin ⟨g2,g1,g3⟩⟩
  ·intro bg;refine Zc ?_;exact tail _ _ k1 [(x3,.st [.sl false 3 (Qn cs)])] ZA ZA kn ZB ZB
 ·intro hc;refine Zc ?_;exact tail _ _ (k+1) [] ZA ZA kn ZB ZB
theorem Ko {R:Rdr}{k:Nat}(hH:H R.l=R.o k)(hk:k+7200000<=2^30)
  (hK:∀(cs:List CodeD) (H':Heap) (k':Nat),k<k'->k'<=k+7100000->Upd H H' [(R.l,R.o k')]->UnitOk cs->K (.ag [.sl false 3 (Qn cs)]) H') :
  Qv prog LB [.c (.ptr R.l 0)] H K:=by
 refine Qz ?_;refine Qd A6 Qbk4 ?_;refine Za ?_;intro x2 aH H1 h1;have kn:=(Kn.start1 hH (R.an k)).al aH h1;refine Wa ?_;refine AX (kn.e 0 rfl) ZA λv H2 hv hu=>?_;have kn:=kn.aq 0 rfl hu (R.an _);simp only[go_sem,Py];refine Wu ?_ ?_
 ·intro hc;refine Za ?_;refine YG (kn.e 0 rfl) ZA λcs H3 k2 iR iQ hu mt tZ b6=>?_;have kn:=kn.aq 0 rfl hu (R.an _);have aH:=kn.l 0 rfl;simp only[go_sem,Px,aH];intro H4 h4;have kn:=kn.aA 0 rfl h4;have aH:=kn.l 0 rfl;refine Zt aH ?_;exact⟨_,FrzL.ag (.cons (FrzR.same (Di cs)).sl .nil),hK cs _ k2 ZA ZA kn.fin ⟨mt,ZA,b6⟩⟩
 ·intro hc;refine Zc ?_;refine Za ?_;refine Km (kn.e 0 rfl) ZA λcs H3 k2 iR iQ hu aw=>?_;have kn:=kn.aq 0 rfl hu (R.an _);have aH:=kn.l 0 rfl;simp only[go_sem,Pw,aH];intro H4 h4;have kn:=kn.aA 0 rfl h4;have aH:=kn.l 0 rfl;refine Zt aH ?_;exact⟨_,FrzL.ag (.cons (FrzR.same (Di cs)).sl .nil),hK cs _ k2 ZA ZA kn.fin aw⟩
theorem Qbku {fl:Bool}{bs:List UInt8}(hK:∀(R:Rdr) (H':Heap),H R.l=.none->H'=H.set R.l (R.o 0)->K (.c (.ptr R.l 0)) H'):Qv prog Lq [.c (.sl fl 1 (B3 bs))] H K:=by
 refine Qd A6 Qbln ?_;refine Wg ?_;simp only[go_sem,Dr];intro _;have tail:∀(fl:Bool) (bs:List UInt8) (E1:Env),lk 0 E1=.c (.sl fl 1 (B3 bs))->A9 prog MX (Q7 A8 K) E1 H:=by
  intro fl bs E1 l0;refine Zi l0 ?_;intro l hl H' h';simp only[go_sem,Q5a];refine Ze ?_;exact hK ⟨l,fl,bs⟩ H' hl h'
 refine Wu ?_ ?_
 ·intro hc;have h2:(2000:Int)<bs.length:=ZD
  refine Qq ?_;simp only[go_sem,Dr];refine⟨⟨ZA,ZA,ZA⟩,?_⟩;have ht:List.take 2000 (B3 bs)=B3 (bs.take 2000):=by simp[B3,Jbb]
  rw[ht];exact tail _ (bs.take 2000) _ ZJ
 ·intro hc;refine Qi ?_;exact tail fl bs _ ZB
end Go.AE.Y
namespace Go.AE.Y
def Bn (n:Nat)(nx:Nat->List Int):Bool:=(List.range n).all (λi=>(nx i).all λx=>decide (0<=x/\x<=(n:Int)-1))&&decide (0<n)
def nxN (nx:Nat->List Int)(b:Nat):List Nat:=(nx b).map Int.toNat
theorem Oy {n:Nat}{nx:Nat->List Int}(h:Bn n nx=true){b:Nat}(hb:b<n){x:Int}(hx:x∈nx b):0<=x/\x<=(n:Int)-1:=by
 simp only[Bn,Jl,Jaf,J0,decide_eq_true_eq]at h;exact h.1 b hb x hx
theorem ER {n:Nat}{nx:Nat->List Int}(h:Bn n nx=true):0<n:=by
 simp only[Bn,Jl,decide_eq_true_eq]at h;exact h.2
theorem D6 {n:Nat}{nx:Nat->List Int}(h:Bn n nx=true){b:Nat}(hb:b<n){x:Nat}(hx:x∈nxN nx b):x<n:=by
 obtain⟨y,hy,rfl⟩:=Js.1 hx;have:=Oy h hb hy;omega
inductive Dfs (g:Nat->List Nat):List Nat->List Bool->List Nat->List Bool->List Nat->Prop
 |nil (S:List Bool) (o:List Nat):Dfs g [] S o S o
 |skip {x:Nat} {xs:List Nat} {S S':List Bool} {o o':List Nat}:S.getD x false=true->Dfs g xs S o S' o'->Dfs g (x::xs) S o S' o'
 |go {x:Nat} {xs:List Nat} {S S1 S':List Bool} {o o1 o':List Nat}:S.getD x false=false->Dfs g (g x) (S.set x true) o S1 o1->Dfs g xs S1 (o1++[x]) S' o'->Dfs g (x::xs) S o S' o'
variable {g:Nat->List Nat}{xs:List Nat}{S S' S1:List Bool}{o o' o1:List Nat}
theorem Dfs.app (h:Dfs g xs S o S1 o1):∀{ys:List Nat},Dfs g ys S1 o1 S' o'->Dfs g (xs++ys) S o S' o':=by
 induction h with
 |nil S o=>exact λh=>h
 |skip h1 h2 ih=>exact λh=>.skip h1 (ih h)
 |go h1 h2 h3 ih1 ih2=>exact λh=>.go h1 h2 (ih2 h)
theorem Dfs.one {x:Nat}(h1:S.getD x false=false)(h:Dfs g (g x) (S.set x true) o S1 o1):Dfs g [x] S o S1 (o1++[x]):=.go h1 h (.nil _ _)
theorem Dfs.len (h:Dfs g xs S o S' o'):S'.length=S.length:=by
 induction h with
 |nil=>rfl
 |skip _ _ ih=>exact ih
 |go _ _ _ ih1 ih2=>rw[ih2,ih1,Jh]
theorem EO (S:List Bool)(x y:Nat):(S.set x true).getD y false=(if y=x/\x<S.length then true else S.getD y false):=by
 simp only[Ja,J5];by_cases h:x=y
 ·subst h;by_cases h2:x<S.length
  ·simp[h2]
  ·simp[h2]
 ·have h':¬y=x:=λhh=>h hh.symm;simp[h,h']
theorem Dfs.mono (h:Dfs g xs S o S' o'):∀x,S.getD x false=true->S'.getD x false=true:=by
 induction h with
 |nil=>exact λ_ h=>h
 |skip _ _ ih=>exact ih
 |go _ _ _ ih1 ih2=>
  intro x hx;refine ih2 x (ih1 x ?_);rw[EO];split
  ·rfl
  ·exact hx
def cnt (S:List Bool):Nat:=S.count true
theorem GI {x:Nat}(hx:x<S.length)(h:S.getD x false=false):cnt (S.set x true)=cnt S+1:=by
 induction S generalizing x with
 |nil=>simp at hx
 |cons a S ih=>
  cases x with
  |zero=>
   simp at h;subst h;simp[cnt]
  |succ x=>
   have:=ih (x:=x) (by simpa using hx) ZI;simp only[cnt,Jau,Jbm]at this⊢;omega
theorem EH (S:List Bool):cnt S<=S.length:=List.count_le_length
theorem Dfs.count (h:Dfs g xs S o S' o'):(∀x,x<S.length->∀y∈g x,y<S.length)->(∀x∈xs,x<S.length)->o'.length+cnt S=o.length+cnt S':=by
 induction h with
 |nil=>intros;rfl
 |skip _ _ ih=>exact λh1 h2=>ih h1 λx hx=>h2 x (Ji _ hx)
 |@go x xs S S1 S' o o1 o' h1 h2 h3 ih1 ih2=>
  intro hg kQ;have hx:=kQ x Jn;have e1:=ih1 Zak (by simpa using hg x hx);have hl:=h2.len;rw[Jh]at hl;have e2:=ih2 (by rw[hl];exact hg) (by rw[hl];exact λy hy=>kQ y (Ji _ hy));rw[GI hx h1]at e1;simp only[Jaa,Jp,Jq]at e2;omega
theorem Dfs.olen (h:Dfs g xs S o S' o'):o.length<=o'.length:=by
 induction h with
 |nil=>exact Jk _
 |skip _ _ ih=>exact ih
 |go _ _ _ ih1 ih2=>rw[Jaa]at ih2;omega
theorem Dfs.all (h:Dfs g xs S o S' o'):∀P:Nat->Prop,(∀x,P x->∀y∈g x,P y)->(∀x∈xs,P x)->(∀x∈o,P x)->∀x∈o',P x:=by
 induction h with
 |nil=>exact λP _ _ h=>h
 |skip _ _ ih=>exact λP h1 h2 h3=>ih P h1 (λx hx=>h2 x (Ji _ hx)) h3
 |go h1 h2 h3 ih1 ih2=>
  intro P hg kQ ho;have hx:=kQ _ Jn;refine ih2 P hg (λy hy=>kQ y (Ji _ hy)) λy hy=>?_;rcases Jj.1 hy with hy|hy
  ·exact ih1 P hg (hg _ hx) ho y hy
  ·simp at hy;subst hy;exact hx
end Go.AE.Y
namespace Go.AE.Y
open Go.Proofs.Tryz
variable {H:Heap}{K:Uk}
structure GRd (H:Heap)(c:C)(rows:List (List C))(nx:Nat->List Int):Prop where
 s:Slc H 5 rows c
 ow:c.ah=false
 no:∀r∈rows,ak r=true
 x:∀i,i<rows.length->∃a1 a2 a3 a4 fl,rows.getD i []=[a1,a2,a3,a4,.sl fl 1 (Qc (nx i))]
theorem GRd.keep {c:C}{rows:List (List C)}{nx:Nat->List Int}{H':Heap}{E L:Ul}(h:GRd H c rows nx)(kn:Kn H H' E L)(hE:∀l a b d,c=.ai l a b d->l∉E.map Prod.fst):GRd H' c rows nx:=⟨h.s.keep kn hE,h.ow,h.no,h.x⟩
theorem GRd.keep0 {c:C}{rows:List (List C)}{nx:Nat->List Int}{H':Heap}{L:Ul}(h:GRd H c rows nx)(kn:Kn H H' [] L):GRd H' c rows nx:=h.keep kn ZC
def gnx (q:CodeD):Nat->List Int:=λi=>(q.blocks.map BlkD.next).getD i []
theorem Dl (H:Heap)(q:CodeD)(fl:Bool):GRd H (.sl fl 5 (Qm q.blocks)) (Qm q.blocks) (gnx q):=by
 refine⟨.mk' _ _ _ _,rfl,PH _,λi h=>?_⟩;rw[Ql]at h;rw[Q9 _ _ h];have:gnx q i=q.blocks[i].next:=by simp[gnx,Ja,h]
 exact⟨.sl false 2 (Q3 q.blocks[i].ab),.sl false 4 (AD q.blocks[i].ins),Ui q.blocks[i].jump,Ui q.blocks[i].on,false,by rw[this];rfl⟩
theorem Qbkf {p rg:Int}{bc:C}{rows:List (List C)}{nx:Nat->List Int}(hg:GRd H bc rows nx)(hK:K (.c (.bool (Bn rows.length nx))) H):Qv prog LA [.ag [Ui p,Ui rg,bc]] H K:=by
 refine Qd A6 Qbk6 ?_;have bt:=hg.ow;have aw:=eq_true hg.s.ok;have am:=hg.s.len;have bj:=hg.s.sz;have cL:=hg.s.rows;have retf:∀(b:Bool) (e:Env),b=Bn rows.length nx->lk 2 e=.c (.bool b)->Q7 A8 K .ret e H:=by
  intro b e hb h3;simp only[go_sem,Q7,A5,Jb,forall_eq,RS.op,h3];rw[hb];exact hK
 refine Wh ?_;refine Qh (Qe (Qx (λm e1 H1=>∃(i:Nat),m=rows.length-i/\i<=rows.length/\H1=H/\(∀j,j<i->∀x∈nx j,0<=x/\x<=(rows.length:Int)-1)/\e1=[(1,.c (.pp [Ui p,Ui rg,bc])),(3,Uv i)]) rows.length ?_ ?_))
 ·exact⟨0,ZA,ZA,rfl,λj hj=>ZA,rfl⟩
 ·rintro m e1 H1 ⟨i,hm,hi,rfl,bI,rfl⟩;refine Q1 (Qa ?_);simp only[go_sem,bt,aw,am];intro hl;simp only[LIM]at hl;refine Wu ?_ ?_
  ·intro hc;have af:i<rows.length:=ZD
   obtain⟨a1,a2,a3,a4,fl,aC⟩:=hg.x i af;refine Zc ?_;refine Bk (λe2 H2=>H2=H1/\(∀x∈nx i,0<=x/\x<=(rows.length:Int)-1)/\lk 1 e2=.c (.pp [Ui p,Ui rg,bc])/\lk 3 e2=Uv i) ?_ ?_
   ·intro Q hn hr _;refine Wt ?_;refine Qe (Qx (λm e1 H2=>∃(k:Nat),m=(nx i).length-k/\k<=(nx i).length/\H2=H1/\(∀x∈(nx i).take k,0<=x/\x<=(rows.length:Int)-1)/\e1=[(1,.c (.pp [Ui p,Ui rg,bc])),(3,Uv i),(4,Uv k)]) (nx i).length ?_ ?_)
    ·exact⟨0,ZA,ZA,rfl,ZC,rfl⟩
    ·rintro m2 e1 H2 ⟨k,eW,hk,rfl,fS,rfl⟩;refine Q1 (Qa ?_);simp only[go_sem,bt,aw,am,bj,cL,af,aC,Qb];intro mg;simp only[LIM]at mg;refine Wu ?_ ?_
     ·intro hc;have aN:k<(nx i).length:=ZD;have b6:(nx i).getD k 0=(nx i)[k]:=(by simp[Ja,aN]);refine Wj ?_;refine AC ?_;simp only[go_sem,bt,aw,am,bj,cL,af,aC,aN,Qb,Qo _ _ aN,b6];refine⟨Qr,?_⟩;refine B1 ?_;simp only[go_sem,Q3q];refine Wv ?_ ?_
      ·intro a7;refine Wn ?_;refine hr _ _ (retf false _ ?_ ZB)
       cases hf:Bn rows.length nx with
       |false=>rfl
       |true=>
        have:=Oy hf af (Jf aN);simp at a7;omega
      ·intro a7;refine Wi ?_;refine⟨Qr,(nx i).length-(k+1),ZA,k+1,rfl,ZA,λx hx=>?_,rfl⟩;rw[Jg aN]at hx;rcases Jj.1 hx with hx|hx
       ·exact fS x hx
       ·simp only[Jb]at hx;subst hx;simpa using a7
     ·intro hc;have bp:(nx i).length<=k:=ZD;rw[Jc bp]at fS;refine Zb ?_;exact hn _ _ ⟨rfl,fS,ZB,ZB⟩
   ·rintro e2 H2 ⟨rfl,hx,l1,l3⟩;refine Qq ?_;simp only[go_sem,X.next,l1,l3];refine⟨Qr,rows.length-(i+1),ZA,i+1,rfl,ZA,λj hj=>?_,rfl⟩;by_cases h:j<i
    ·exact bI j h
    ·have:j=i:=ZA;subst this;exact hx
  ·intro hc;have bp:i=rows.length:=by have:¬i<rows.length:=ZD;omega
   subst bp;refine Zb ?_;refine Zp bt aw am ?_;intro _;refine Qk ?_;refine retf _ _ ?_ ZJ;have:(List.range rows.length).all (λi=>(nx i).all λx=>decide (0<=x/\x<=(rows.length:Int)-1))=true:=by
    simp only[Jaf,J0,decide_eq_true_eq];exact bI
   simp only[Bn,this,Jbo];try (by_cases h:0<rows.length <;> simp[h])
end Go.AE.Y
namespace Go.AE.Y
open Go.Proofs.Tryz
def Qs (S:List Bool):List (List C):=S.map λb=>[.bool b]
theorem Q0 (S:List Bool):(Qs S).length=S.length:=by simp[Qs]
theorem Q6 (S:List Bool)(i:Nat)(h:i<S.length):(Qs S).getD i []=[.bool (S.getD i false)]:=by
 simp[Qs,Ja,h]
theorem Df (S:List Bool)(i:Nat)(b:Bool):(Qs S).set i [.bool b]=Qs (S.set i b):=by simp[Qs,Jal]
theorem ON (S:List Bool):∀r∈Qs S,ak r=true:=by intro r hr;obtain⟨x,_,rfl⟩:=Js.1 hr;rfl
def AA (l:List Nat):List (List C):=Qc (l.map Int.ofNat)
theorem Q4 (l:List Nat):(AA l).length=l.length:=by simp[AA,Qb]
theorem NM (l:List Nat)(n:Nat):AA l++[[Ui (n:Int)]]=AA (l++[n]):=by simp[AA,Qc]
theorem Dq (l:List Nat):∀r∈AA l,ak r=true:=Qw _
theorem Q05 {F:Heap}{p rg:Int}{bc:C}{rows:List (List C)}{nx:Nat->List Int}{y:Nat}(aU:Bn rows.length nx=true)(hn:rows.length<=1000000)(hg:GRd F bc rows nx)(cP:∀l a b d,bc=.ai l a b d->l≠y) :
  ∀(u b:Nat) (S:List Bool) (o:List Nat) (oc:C) (Lg:Ul) (H:Heap) (K:V->Heap->Prop),S.length=rows.length->rows.length-cnt S<=u->b<rows.length->S.getD b false=false->
   Kn F H [(y,.vec 1 (Qs S))] ([]++Lg)->Gr Lg 1 (AA o) oc->o.length<=cnt S->
   (∀(S':List Bool) (o':List Nat) (oc':C) (Lg':Ul) (H':Heap),Dfs (nxN nx) [b] S o S' o'->Kn F H' [(y,.vec 1 (Qs S'))] ([]++Lg')->Gr Lg' 1 (AA o') oc'->K (.c oc') H')->
   Qv prog NG [.ag [Ui p,Ui rg,bc],Uv b,.c (.ai y 1 0 rows.length),.c oc] H K:=by
 intro u
 induction u with
 |zero=>
  intro b S o oc Lg H K hS hu hb fH;have h1:=GI (S:=S) (x:=b) ZA fH;have h2:=EH (S.set b true);rw[Jh]at h2;omega
 |succ u ih=>
  intro b S o oc Lg H K hS hu hb fH kn ay ev hK;have bt:=hg.ow;have rm:b<S.length:=ZA
  obtain⟨a1,a2,a3,a4,fl,aC⟩:=hg.x b hb;have bj:=hg.s.sz;have am:=hg.s.len;have hy:=kn.e 0 rfl;have kw:=ay.ah;refine Qd A6 Qbfu ?_;refine Wk ?_;have bP:List.take rows.length (Qs S)=Qs S:=Jc Zan;simp only[go_sem,hy,hb,Q0,hS,Q6 _ _ rm,Df,J8,Jm,Jk];intro H1 h1;have kn:=kn.stE 0 rfl h1;have hcS:=GI rm fH;have lX:(nxN nx b).length=(nx b).length:=by simp[nxN]
  refine Wa ?_;refine Qh (Qe (Qx (λm e1 H1=>∃(i:Nat) (S1:List Bool) (o1:List Nat) (oc1:C) (Lg1:Ul),m=(nx b).length-i/\i<=(nx b).length/\Dfs (nxN nx) ((nxN nx b).take i) (S.set b true) o S1 o1/\
   Kn F H1 [(y,.vec 1 (Qs S1))] ([]++Lg1)/\Gr Lg1 1 (AA o1) oc1/\
   e1=[(1,Uv b),(2,.c (.ai y 1 0 rows.length)),(3,.c oc1),(4,.c (.pp [Ui p,Ui rg,bc])),(9,Uv i)]) (nx b).length ?_ ?_))
  ·exact⟨0,_,o,oc,Lg,ZA,ZA,.nil _ _,kn,ay,rfl⟩
  ·rintro m e1 H2 ⟨i,S1,o1,oc1,Lg1,hm,hi,hd,kn,ay,rfl⟩;have b6:∀x,x<(S.set b true).length->∀z∈nxN nx x,z<(S.set b true).length:=by
    rw[Jh,hS];exact λx hx z hz=>D6 aU hx hz
   have cU:=hd.len;rw[Jh,hS]at cU;have eT:=hd.count b6 (λx hx=>b6 b (by rw[Jh];exact rm) x (Jae hx));have hd3:=hd.olen;have hd4:=EH S1;have dA:=hg.keep kn (λl a b d hh=>by simpa using cP l a b d hh);have fd:=eq_true dA.s.ok;have qj:=dA.s.rows;have hy:=kn.e 0 rfl;refine Q1 (Qa ?_);simp only[go_sem,bt,fd,am,bj,qj,hb,aC,Qb];intro hl;simp only[LIM]at hl;refine Wu ?_ ?_
   ·intro hc;have af:i<(nx b).length:=ZD;obtain⟨w,hw⟩:∃w:Nat,(nx b).getD i 0=w:=by
     have h1:=Oy aU hb (Jf af);refine⟨((nx b)[i]).toNat,?_⟩;simp only[Ja,Jd af,Jag];omega
    have mT:(nxN nx b).take (i+1)=(nxN nx b).take i++[w]:=by
     rw[Jg (by rw[lX];exact af)];congr 1;simp only[nxN,Ja0];simp only[Ja,Jd af,Jag]at hw;rw[hw];simp
    have sr:w<rows.length:=D6 aU hb (x:=w) (by
     have:w∈(nxN nx b).take (i+1):=(by rw[mT];simp);exact Jae this)
    have vN:w<S1.length:=ZA;refine Zc ?_;refine Bk (λe2 H2=>∃(S2:List Bool) (o2:List Nat) (oc2:C) (Lg2:Ul),Dfs (nxN nx) ((nxN nx b).take (i+1)) (S.set b true) o S2 o2/\
     Kn F H2 [(y,.vec 1 (Qs S2))] ([]++Lg2)/\Gr Lg2 1 (AA o2) oc2/\
     lk 1 e2=Uv b/\lk 2 e2=.c (.ai y 1 0 rows.length)/\lk 3 e2=.c oc2/\lk 4 e2=.c (.pp [Ui p,Ui rg,bc])/\lk 9 e2=Uv i) ?_ ?_
    ·intro Q bH _ _;have gm:List.take rows.length (Qs S1)=Qs S1:=Jc Zan;refine Qe (Qa ?_);simp only[go_sem,bt,fd,am,bj,qj,hb,aC,af,hy,hw,sr,gm,cU,Q0,Q6 _ _ vN,Qb,Qo _ _ af,J8,Jm,Jk];refine Wv ?_ ?_
     ·intro a7;have fU:S1.getD w false=false:=BM a7;refine AY ?_;simp only[go_sem,bt,fd,am,bj,qj,hb,aC,af,hw,Qb,Qo _ _ af];refine ih w S1 o1 oc1 Lg1 H2 _ cU ZA sr fU kn ay ZA λS2 o2 oc2 Lg2 H3 cR kn ay=>?_;simp only[go_sem,On];refine bH _ _ ⟨S2,o2,oc2,Lg2,?_,kn,ay,rfl,rfl,rfl,rfl,rfl⟩;rw[mT];exact hd.app cR
     ·intro a7;have fU:S1.getD w false=true:=Bi a7;refine Zc ?_;refine bH _ _ ⟨S1,o1,oc1,Lg1,?_,kn,ay,rfl,rfl,rfl,rfl,rfl⟩;rw[mT];exact hd.app (.skip fU (.nil _ _))
    ·rintro e2 H3 ⟨S2,o2,oc2,Lg2,hd,kn,ay,l1,l2,l3,l4,l9⟩;refine Qq ?_;simp only[go_sem,X.next,l1,l2,l3,l4,l9];exact⟨Qr,(nx b).length-(i+1),ZA,i+1,S2,o2,oc2,Lg2,rfl,ZA,hd,kn,ay,rfl⟩
   ·intro hc;have bp:(nx b).length<=i:=ZD;rw[Jc (by rw[lX];exact bp)]at hd;have kw:=ay.ah;refine Wc ?_;refine kn.grow (new:=Qc [(b:Int)]) ay (.mk' _ _ _ _) (Qw _) ZaS λz H3 kn=>?_;simp only[go_sem,Om];refine Ze ?_;refine hK S1 (o1++[b]) _ _ H3 (.one fH hd) kn ?_;rw[<-NM];exact .mk _ _ _ ZC
variable {H:Heap}{K:Uk}
theorem Dc {n lo hi:Int}(hK:K (.c (.bool (decide (lo<=n)&&decide (n<=hi)))) H):Qv prog Q2w [Uv n,Uv lo,Uv hi] H K:=by
 refine Qd A6 Qa5m ?_;refine Wd ?_;refine Ze ?_;have:(bif decide (lo<=n)then decide (n<=hi)else false)=(decide (lo<=n)&&decide (n<=hi)):=by cases decide (lo<=n) <;> rfl
 first|exact hK|(rw[this];exact hK)|(simpa[this]using hK)
def IsIx (ns:List Int)(v r:Int):Prop:=(r=-1/\v∉ns)\/∃i:Nat,r=i/\i<ns.length/\ns.getD i 0=v/\v∉ns.take i
theorem IsIx.nonneg {ns:List Int}{v r:Int}(h:IsIx ns v r):decide (0<=r)=ns.contains v:=by
 rcases h with ⟨rfl,hn⟩|⟨i,rfl,h1,h2,_⟩
 ·have:ns.contains v=false:=by
   cases hc:ns.contains v with
   |false=>rfl
   |true=>exact absurd (Jak.1 hc) hn
  rw[this];rfl
 ·have:v∈ns:=by
   rw[<-h2,Ja,Jd h1];exact Jf h1
  rw[Jak.2 this];simp
theorem VV {c:C}{ns:List Int}{v:Int}(hs:Slc H 1 (Qc ns) c)(bt:c.ah=false)(hK:∀r,IsIx ns v r->K (Uv r) H) :
  Qv prog N8 [.c c,Uv v] H K:=by
 refine Qd A6 Qbf1 ?_;have aw:=eq_true hs.ok;have am:=hs.len;have bj:=hs.sz;have cL:=hs.rows;refine Wg ?_;simp only[go_sem,aw,am,Qb];intro hl;simp only[LIM]at hl;refine Qh (Qe (Qx (λm e1 H1=>∃(i:Nat),m=ns.length-i/\i<=ns.length/\H1=H/\v∉ns.take i/\e1=[(0,.c c),(1,Uv v),(7,.c (Ui ns.length)),(8,Uv i)]) ns.length ?_ ?_))
 ·exact⟨0,ZA,ZA,rfl,ZC,rfl⟩
 ·rintro m e1 H1 ⟨i,hm,hi,rfl,bx,rfl⟩;refine Za ?_;refine Wu ?_ ?_
  ·intro hc;have af:i<ns.length:=ZD
   have b6:ns.getD i 0=ns[i]:=Zaj
   refine Zc ?_;refine Wf ?_;refine Qa ?_;simp only[go_sem,aw,am,bj,cL,af,Qb,Qo _ _ af];refine Wv ?_ ?_
   ·intro a7;have hv:v=ns.getD i 0:=ZF;refine Za ?_;refine Zo ?_;exact hK _ (.inr ⟨i,rfl,af,hv.symm,bx⟩)
   ·intro a7;have hv:¬v=ns.getD i 0:=ZF;refine Wi ?_;refine⟨Qr,ns.length-(i+1),ZA,i+1,rfl,ZA,?_,rfl⟩;rw[Jg af];simp only[Jj,Jb,not_or];exact⟨bx,λh=>hv (by rw[b6];exact h)⟩
  ·intro hc;have bp:ns.length<=i:=ZD
   rw[Jc bp]at bx;refine Wo ?_;exact hK _ (.inl ⟨rfl,bx⟩)
theorem Qbet {c:C}{ns:List Int}{v:Int}(hs:Slc H 1 (Qc ns) c)(bt:c.ah=false)(hK:K (.c (.bool (ns.contains v))) H) :
  Qv prog Qti [.c c,Uv v] H K:=by
 refine Qd A6 Qarf ?_;refine Wd ?_;refine VV hs bt λr hr=>?_;simp only[go_sem,E7];refine Ze ?_;rw[hr.nonneg];exact hK
theorem Qa4l {c:C}{ns:List Int}{f:Nat}{caps:List C}{p:Int->Bool}(hs:Slc H 1 (Qc ns) c)(bt:c.ah=false)
  (hf:∀(x:Int) (K':V->Heap->Prop),x∈ns->K' (.c (.bool (p x))) H->Qv prog f ([Uv x]++caps.map .c) H K')
  (hK:∀r:Int,decide (0<=r)=ns.any p->K (Uv r) H) :
  Qv prog Qn9 [.c c,.c (.fn f caps)] H K:=by
 refine Qd A6 Qaiz ?_;have aw:=eq_true hs.ok;have am:=hs.len;have bj:=hs.sz;have cL:=hs.rows;refine Wg ?_;simp only[go_sem,aw,am,Qb];intro hl;simp only[LIM]at hl;refine Qh (Qe (Qx (λm e1 H1=>∃(i:Nat),m=ns.length-i/\i<=ns.length/\H1=H/\(∀x∈ns.take i,p x=false)/\e1=[(0,.c c),(1,.c (.fn f caps)),(7,.c (Ui ns.length)),(8,Uv i)]) ns.length ?_ ?_))
 ·exact⟨0,ZA,ZA,rfl,ZC,rfl⟩
 ·rintro m e1 H1 ⟨i,hm,hi,rfl,bx,rfl⟩;refine Za ?_;refine Wu ?_ ?_
  ·intro hc;have af:i<ns.length:=ZD
   have b6:ns.getD i 0=ns[i]:=Zaj
   refine Zc ?_;refine Wf ?_;refine Qa ?_;simp only[go_sem,aw,am,bj,cL,af,Qb,Qo _ _ af];refine hf _ _ (by rw[b6];exact Jf af) ?_;refine Wv ?_ ?_
   ·intro a7;refine Za ?_;refine Zo ?_;refine hK _ ?_;have:ns.any p=true:=J7.2 ⟨ns[i],Jf af,by rw[<-b6];exact a7⟩;rw[this];simp
   ·intro a7;refine Wi ?_;refine⟨Qr,ns.length-(i+1),ZA,i+1,rfl,ZA,?_,rfl⟩;rw[Jg af];intro x hx;rcases Jj.1 hx with hx|hx
    ·exact bx x hx
    ·simp only[Jb]at hx;subst hx;rw[<-b6];exact a7
  ·intro hc;have bp:ns.length<=i:=ZD
   rw[Jc bp]at bx;refine Wo ?_;refine hK _ ?_;have:ns.any p=false:=by
    cases hc:ns.any p with
    |false=>rfl
    |true=>obtain⟨x,hx,hp⟩:=J7.1 hc;rw[bx x hx]at hp;exact absurd hp ZC
   rw[this];rfl
theorem Pb {c:C}{ns:List Int}{f:Nat}{caps:List C}{p:Int->Bool}(hs:Slc H 1 (Qc ns) c)(bt:c.ah=false)
  (hf:∀(x:Int) (K':V->Heap->Prop),x∈ns->K' (.c (.bool (p x))) H->Qv prog f ([Uv x]++caps.map .c) H K')
  (hK:K (.c (.bool (ns.any p))) H):Qv prog Qg9 [.c c,.c (.fn f caps)] H K:=by
 refine Qd A6 Q08 ?_;refine Wd ?_;refine Qa4l hs bt hf λr hr=>?_;simp only[go_sem,E7];refine Ze ?_;rw[hr];exact hK
theorem Qavb {c:C}{rows:List (List C)}{f:Nat}{caps:List C}{p:Nat->Bool}(hs:Slc H 5 rows c)(bt:c.ah=false)(bx:∀r∈rows,ak r=true)(h5:∀i,i<rows.length->(rows.getD i []).length=5)
  (hf:∀(i:Nat) (K':V->Heap->Prop),i<rows.length->K' (.c (.bool (p i))) H->Qv prog f ([.ag (rows.getD i [])]++caps.map .c) H K')
  (hK:∀r:Int,decide (0<=r)=(List.range rows.length).any p->K (Uv r) H) :
  Qv prog Qer [.c c,.c (.fn f caps)] H K:=by
 refine Qd A6 Qsd ?_;have aw:=eq_true hs.ok;have am:=hs.len;have bj:=hs.sz;have cL:=hs.rows;refine Wg ?_;simp only[go_sem,aw,am];intro hl;simp only[LIM]at hl;refine Qh (Qe (Qx (λm e1 H1=>∃(i:Nat),m=rows.length-i/\i<=rows.length/\H1=H/\(∀x,x<i->p x=false)/\e1=[(0,.c c),(1,.c (.fn f caps)),(7,.c (Ui rows.length)),(8,Uv i)]) rows.length ?_ ?_))
 ·exact⟨0,ZA,ZA,rfl,ZC,rfl⟩
 ·rintro m e1 H1 ⟨i,hm,hi,rfl,bI,rfl⟩;refine Za ?_;refine Wu ?_ ?_
  ·intro hc;have af:i<rows.length:=ZD
   have bP:(rows.getD i []).take 5=rows.getD i []:=Jc (by rw[h5 i af];omega);have aR:(5<=(rows.getD i []).length)=True:=eq_true (by rw[h5 i af];omega);have jk:ak (rows.getD i [])=true:=bx _ (by rw[Ja,Jd af];exact Jf af);have haw:((rows.getD i []).all λc=>!c.ah)=true:=jk;refine Zc ?_;refine Wf ?_;refine Qa ?_;simp only[go_sem,aw,am,bj,cL,af,bP,aR,haw,J8];refine hf _ _ af ?_;refine Wv ?_ ?_
   ·intro a7;refine Za ?_;refine Zo ?_;refine hK _ ?_;have:(List.range rows.length).any p=true:=J7.2 ⟨i,J0.2 af,a7⟩;rw[this];simp
   ·intro a7;refine Wi ?_;refine⟨Qr,rows.length-(i+1),ZA,i+1,rfl,ZA,?_,rfl⟩;intro x hx;by_cases h:x<i
    ·exact bI x h
    ·have:x=i:=ZA;subst this;exact a7
  ·intro hc;have bp:rows.length<=i:=ZD
   refine Wo ?_;refine hK _ ?_;have:(List.range rows.length).any p=false:=by
    cases hc:(List.range rows.length).any p with
    |false=>rfl
    |true=>obtain⟨x,hx,hp⟩:=J7.1 hc;rw[bI x (by have:=J0.1 hx;omega)]at hp;exact absurd hp ZC
   rw[this];rfl
theorem Q9u {c:C}{rows:List (List C)}{f:Nat}{caps:List C}{p:Nat->Bool}(hs:Slc H 5 rows c)(bt:c.ah=false)(bx:∀r∈rows,ak r=true)(h5:∀i,i<rows.length->(rows.getD i []).length=5)
  (hf:∀(i:Nat) (K':V->Heap->Prop),i<rows.length->K' (.c (.bool (p i))) H->Qv prog f ([.ag (rows.getD i [])]++caps.map .c) H K')
  (hK:K (.c (.bool ((List.range rows.length).any p))) H):Qv prog Qc2 [.c c,.c (.fn f caps)] H K:=by
 refine Qd A6 Qka ?_;refine Wd ?_;refine Qavb hs bt bx h5 hf λr hr=>?_;simp only[go_sem,E7];refine Ze ?_;rw[hr];exact hK
theorem Qbjs {p rg:Int}{bc:C}{rows:List (List C)}{nx:Nat->List Int}(hg:GRd H bc rows nx)(hK:K (.c (.bool (Bn rows.length nx))) H):Qv prog Qxp [.ag [Ui p,Ui rg,bc]] H K:=by
 have bt:=hg.ow;have aw:=eq_true hg.s.ok;have am:=hg.s.len;have h5:∀i,i<rows.length->(rows.getD i []).length=5:=λi hi=>by obtain⟨a1,a2,a3,a4,fl,h⟩:=hg.x i hi;rw[h];rfl
 refine Qd A6 Qawo ?_;refine Za ?_;refine Zp bt aw am ?_;intro hl;simp only[LIM]at hl;refine⟨λhc=>?_,λhc=>?_⟩
 ·have hn:0<rows.length:=ZD
  refine Q9u (p:=λi=>(nx i).any λx=>!(decide (0<=x)&&decide (x<=(rows.length:Int)-1))) hg.s bt hg.no h5 (λi K' hi o7=>?_) ?_
  ·obtain⟨a1,a2,a3,a4,fl,aC⟩:=hg.x i hi;rw[aC];refine Qd A6 Qaau ?_;refine Qa ?_;simp only[go_sem,J1,Jx,Jv,Jab];refine Za ?_;refine Pb (ns:=nx i) (p:=λx=>!(decide (0<=x)&&decide (x<=(rows.length:Int)-1))) (.mk' _ _ _ _) rfl (λx K'' hx hK''=>?_) ?_
   ·refine Qd A6 Qyb ?_;refine Qa ?_;simp only[go_sem,J1,Jx,Jv,Jab];refine Zp bt aw am ?_;intro _;refine⟨Qr,?_⟩;refine Dc ?_;simp only[go_sem,OS];refine Ze ?_;exact hK''
   ·simp only[go_sem,G2];refine Ze ?_;exact o7
  ·simp only[go_sem,Rw,hc];refine Ze ?_;have:Bn rows.length nx = !((List.range rows.length).any λi=>(nx i).any λx=>!(decide (0<=x)&&decide (x<=(rows.length:Int)-1))):=by
    simp only[Bn,hn,decide_true,Bool.and_true,List.not_any_eq_all_not,Bool.not_not,Bool.decide_and]
   rw[<-this];exact hK
 ·have hn:rows.length=0:=by have:¬0<rows.length:=ZD;omega
  simp only[go_sem,Rw,hc];refine Ze ?_;have:Bn rows.length nx=false:=by simp[Bn,hn]
  rw[this]at hK;exact hK
end Go.AE.Y
namespace Go.AE.Y
attribute [local instance] Classical.propDecidable
inductive Rch (g:Nat->List Nat)(A:Nat->Prop):Nat->Nat->Prop
 |refl {x:Nat}:¬A x->Rch g A x x
 |step {x y z:Nat}:Rch g A x y->z∈g y->¬A z->Rch g A x z
variable {g:Nat->List Nat}{A B:Nat->Prop}{x y z:Nat}
theorem Rch.mono (h:Rch g A x y)(nk:∀z,B z->A z):Rch g B x y:=by
 induction h with
 |refl h=>exact .refl λhb=>h (nk _ hb)
 |step h1 h2 h3 ih=>exact ih.step h2 λhb=>h3 (nk _ hb)
theorem Rch.fst (h:Rch g A x y):¬A x:=by
 induction h with
 |refl h=>exact h
 |step _ _ _ ih=>exact ih
theorem Rch.snd (h:Rch g A x y):¬A y:=by
 cases h with
 |refl h=>exact h
 |step _ _ h=>exact h
theorem Rch.trans (h:Rch g A x y)(k:Rch g A y z):Rch g A x z:=by
 induction k with
 |refl _=>exact h
 |step _ h2 h3 ih=>exact ih.step h2 h3
theorem Rch.head (hx:¬A x)(hy:y∈g x)(h:Rch g A y z):Rch g A x z:=(Rch.step (.refl hx) hy h.fst).trans h
theorem Rch.lt {n:Nat}(hg:∀x,x<n->∀y∈g x,y<n)(h:Rch g A x y)(hx:x<n):y<n:=by
 induction h with
 |refl _=>exact hx
 |step _ h2 _ ih=>exact hg _ ih _ h2
variable {xs:List Nat}{S S' S1:List Bool}{o o' o1:List Nat}
theorem Dfs.adds (h:Dfs g xs S o S' o'):(∀x,x<S.length->∀y∈g x,y<S.length)->(∀x∈xs,x<S.length)->
  ∃t,o'=o++t/\(∀x,S'.getD x false=true↔S.getD x false=true\/x∈t)/\(∀x∈t,∀y∈g x,S'.getD y false=true)/\
   (∀x∈xs,S'.getD x false=true)/\(∀y∈t,∃x∈xs,Rch g (λz=>S.getD z false=true) x y):=by
 induction h with
 |nil S o=>exact λ_ _=>⟨[],ZC,ZC,ZC,ZC,ZC⟩
 |@skip x xs S S' o o' h1 h2 ih=>
  intro hg hx;obtain⟨t,e,a1,a2,a3,a4⟩:=ih hg λy hy=>hx y (Ji _ hy);refine⟨t,e,a1,a2,λy hy=>?_,λy hy=>?_⟩
  ·rcases J2.1 hy with rfl|hy
   ·exact h2.mono _ h1
   ·exact a3 y hy
  ·obtain⟨z,hz,hr⟩:=a4 y hy;exact⟨z,Ji _ hz,hr⟩
 |@go x xs S S1 S' o o1 o' h1 h2 h3 ih1 ih2=>
  intro hg kQ;have hx:=kQ x Jn;have hl:=h2.len;rw[Jh]at hl;obtain⟨t1,e1,a1,a2,a3,a4⟩:=ih1 Zak (by simpa using hg x hx);obtain⟨t2,e2,b1,b2,b3,b4⟩:=ih2 (by rw[hl];exact hg) (by rw[hl];exact λy hy=>kQ y (Ji _ hy));have bK:∀y,(S.set x true).getD y false=true↔y=x\/S.getD y false=true:=by
   intro y;rw[EO];by_cases u6:y=x
   ·simp[u6,hx]
   ·simp[u6]
  have tv:∀y,S.getD y false=true->S1.getD y false=true:=λy hy=>(a1 y).2 (.inl ((bK y).2 (.inr hy)));have vq:S1.getD x false=true:=(a1 x).2 (.inl ((bK x).2 (.inl rfl)));refine⟨t1++[x]++t2,by rw[e2,e1];simp,λy=>?_,λy hy z hz=>?_,λy hy=>?_,λy hy=>?_⟩
  ·rw[b1,a1,bK];simp only[Jj,Jb];constructor
   ·rintro (((h|h)|h)|h)
    ·exact .inr (.inl (.inr h))
    ·exact .inl h
    ·exact .inr (.inl (.inl h))
    ·exact .inr (.inr h)
   ·rintro (h|((h|h)|h))
    ·exact .inl (.inl (.inr h))
    ·exact .inl (.inr h)
    ·exact .inl (.inl (.inl h))
    ·exact .inr h
  ·rcases Jj.1 hy with hy|hy
   ·rcases Jj.1 hy with hy|hy
    ·exact (b1 z).2 (.inl (a2 y hy z hz))
    ·simp only[Jb]at hy;subst hy;exact (b1 z).2 (.inl (a3 z hz))
   ·exact b2 y hy z hz
  ·rcases J2.1 hy with rfl|hy
   ·exact (b1 y).2 (.inl vq)
   ·exact b3 y hy
  ·rcases Jj.1 hy with hy|hy
   ·rcases Jj.1 hy with hy|hy
    ·obtain⟨z,hz,hr⟩:=a4 y hy;exact⟨x,Jn,.head (by rw[h1];simp) hz (hr.mono λw hw=>(bK w).2 (.inr hw))⟩
    ·simp only[Jb]at hy;subst hy;exact⟨y,Jn,.refl (by rw[h1];simp)⟩
   ·obtain⟨z,hz,hr⟩:=b4 y hy;exact⟨z,Ji _ hz,hr.mono tv⟩
theorem Dfs.seen (h:Dfs g xs S o S' o')(hg:∀x,x<S.length->∀y∈g x,y<S.length)(kQ:∀x∈xs,x<S.length)(y:Nat) :
  S'.getD y false=true↔S.getD y false=true\/∃x∈xs,Rch g (λz=>S.getD z false=true) x y:=by
 obtain⟨t,e,a1,a2,a3,a4⟩:=h.adds hg kQ;constructor
 ·intro hy;rcases (a1 y).1 hy with hy|hy
  ·exact .inl hy
  ·exact .inr (a4 y hy)
 ·rintro (hy|⟨x,hx,hr⟩)
  ·exact h.mono y hy
  ·induction hr with
   |refl _=>exact a3 _ hx
   |step h1 h2 h3 ih=>
    rcases (a1 _).1 ih with h|h
    ·exact absurd h h1.snd
    ·exact a2 _ h _ h2
theorem Dfs.list (h:Dfs g xs S [] S' o')(hg:∀x,x<S.length->∀y∈g x,y<S.length)(kQ:∀x∈xs,x<S.length)(hS:∀x,S.getD x false=false)(y:Nat) :
  y∈o'↔S'.getD y false=true:=by
 obtain⟨t,e,a1,_⟩:=h.adds hg kQ;rw[a1,hS];simp[e]
theorem Fw:∀{l k:List Nat},l.Pairwise (· < ·)->k.Pairwise (· < ·)->(∀x,x∈l↔x∈k)->l=k
 |[],[],_,_,_=>rfl
 |[],b::k,_,_,h=>by have:=(h b).2 Jn;simp at this
 |a::l,[],_,_,h=>by have:=(h a).1 Jn;simp at this
 |a::l,b::k,h1,h2,h=>by
  rw[Jbc]at h1 h2;have eH:a=b:=by
   rcases J2.1 ((h a).1 Jn)with e|e
   ·exact e
   ·rcases J2.1 ((h b).2 Jn)with e'|e'
    ·exact e'.symm
    ·have:=h1.1 b e';have:=h2.1 a e;omega
  subst eH;congr 1;refine Fw h1.2 h2.2 λx=>⟨λhx=>?_,λhx=>?_⟩
  ·rcases J2.1 ((h x).1 (Ji _ hx))with e|e
   ·subst e;have:=h1.1 x hx;omega
   ·exact e
  ·rcases J2.1 ((h x).2 (Ji _ hx))with e|e
   ·subst e;have:=h2.1 x hx;omega
   ·exact e
theorem Qbi2 {l:List Nat}{n:Nat}{p:Nat->Bool}(h1:l.Pairwise (· < ·))(h:∀x,x∈l↔x<n/\p x=true):l=(List.range n).filter p:=
 Fw h1 (Ja5 _ Ja1) λx=>by rw[h];simp[Jaq]
noncomputable def AW (g:Nat->List Nat)(a:Int)(x:Nat):Bool:=decide (Rch g (λz=>(z:Int)=a) 0 x)
noncomputable def Br (g:Nat->List Nat)(a b:Nat):Bool:=AW g (-1) a&&AW g (-1) b&&!AW g a b
end Go.AE.Y
namespace Go.AE.Y
open Go.Proofs.Tryz
variable {H:Heap}{K:Uk}
theorem XW {rows:List (List C)}(h:∀r∈rows,ak r=true){i:Nat}(hi:i<rows.length){a1 a2 a3 a4 a5:C}(hr:rows.getD i []=[a1,a2,a3,a4,a5]) :
  a1.ah=false/\a2.ah=false/\a3.ah=false/\a4.ah=false/\a5.ah=false:=by
 have:=h _ (Jf hi);have e:rows[i]=[a1,a2,a3,a4,a5]:=by rw[<-hr];simp[Ja,hi]
 rw[e]at this;simpa[Go.AE.ak]using this
def Db (nx:Nat->List Int)(b:Int)(n:Nat):List Int:=if decide (0<=b)&&decide (b<=(n:Int)-1)then Qp nx b n else []
theorem Q0t {p rg:Int}{bc:C}{rows:List (List C)}{nx:Nat->List Int}{b:Int}(hs:Slc H 5 rows bc)(bt:bc.ah=false)(bx:∀r∈rows,ak r=true)
  (hx:∀i,i<rows.length->∃a1 a2 a3 a4 a5,rows.getD i []=[a1,a2,a3,a4,a5]/\Slc H 1 (Qc (nx i)) a5)
  (hK:∀fl H',Upd H H' []->K (.c (.sl fl 1 (Qc (Db nx b rows.length)))) H'):Qv prog Rl [.ag [Ui p,Ui rg,bc],Uv b] H K:=by
 refine Qz ?_;refine Qd A6 Qawn ?_;have aw:=eq_true hs.ok;have am:=hs.len;have bj:=hs.sz;refine Wd ?_;refine Q1 (Qa ?_);simp only[go_sem,bt,aw,am];intro hl;simp only[LIM]at hl;refine⟨Qr,?_⟩;refine Dc ?_;simp only[go_sem,Qoz];refine Wu ?_ ?_
 ·intro hc;have cf:=BM hc;refine Za ?_;refine Ze ?_;have h:=hK false _ (Kn.ao H).fin;simp only[Db,cf]at h;exact⟨_,.c _ _ FrzR.nil.sl,h⟩
 ·intro hc;have cf:=Bi hc;refine Zc ?_;refine Q1 (Qa ?_);simp only[go_sem,bt,aw,am];intro _;refine Qh (Qe (Qx (λm e1 H1=>∃(i:Nat) (c:C) (Lg:Ul),m=rows.length-i/\i<=rows.length/\Gr Lg 1 (Qc (Qp nx b i)) c/\Kn H H1 [] ([]++Lg)/\
   e1=[(1,Uv b),(5,.c c),(16,.c bc),(17,.c (Ui rows.length)),(18,Uv i)]) rows.length ?_ ?_))
  ·exact⟨0,_,[],ZA,ZA,.nil 1,Kn.ao H,rfl⟩
  ·rintro m e1 H1 ⟨i,c,Lg,hm,hi,ay,kn,rfl⟩;have cn:=hs.keep0 kn;have ew:=eq_true cn.ok;have iK:=cn.rows;refine Za ?_;refine Wu ?_ ?_
   ·intro hc;have af:i<rows.length:=ZD;obtain⟨a1,a2,a3,a4,a5,aC,oG⟩:=hx i af;obtain⟨o1,o2,o3,o4,o5⟩:=XW bx af aC;refine Zc ?_;refine Bk (λe2 H2=>∃(c:C) (Lg:Ul),Gr Lg 1 (Qc (Qp nx b (i+1))) c/\Kn H H2 [] ([]++Lg)/\
     lk 1 e2=Uv b/\lk 5 e2=.c c/\lk 16 e2=.c bc/\lk 17 e2=.c (Ui rows.length)/\lk 18 e2=Uv i) ?_ ?_
    ·intro Q bH _ _;refine Qe (Qa ?_);simp only[go_sem,ew,am,bj,iK,af,aC,o1,o2,o3,o4,o5];intro x hx H2 h2;have kn:=(kn.al hx h2).perm Jac;have aH:=kn.l 0 rfl;simp only[go_sem,Qo0,aH];intro H3 h3;have kn:=kn.aA 0 rfl h3;have aK:=kn.l 0 rfl;refine Zn aK o5 ?_;refine Qbet (oG.keep0 kn) o5 ?_;refine Wv ?_ ?_
     ·intro iv;have cQ:=CA nx b i;refine Zh ?_;refine kn.grow (B:=[_]) (new:=Qc [(i:Int)]) ay (.mk' _ _ _ _) (Qw _) (by simp only[Qb,LIM,Jp,Jq];omega) λy' H4 kn=>?_;simp only[go_sem,Qo1];refine bH _ _ ⟨_,_,?_,(kn.perm Jac).drop,rfl,rfl,rfl,rfl,rfl⟩;rw[OM,iv,if_pos rfl,De];exact .mk _ _ _ ZC
     ·intro iv;refine Zc ?_;refine bH _ _ ⟨c,Lg,?_,?_,rfl,rfl,rfl,rfl,rfl⟩
      ·rw[OM,iv];simpa using ay
      ·have kn:Kn H H3 [] ([(x,.st [a1,a2,a3,a4,a5])]++([]++Lg)):=kn;exact (kn.perm Jac).drop
    ·rintro e2 H2 ⟨c2,Lg2,ay,kn,l1,l5,l16,l17,l18⟩;refine Qq ?_;simp only[go_sem,X.next,l1,l5,l16,l17,l18];exact⟨Qr,rows.length-(i+1),ZA,i+1,c2,Lg2,rfl,ZA,ay,kn,rfl⟩
   ·intro hc;have bp:i=rows.length:=(by have:¬i<rows.length:=(by simpa using hc);omega);subst bp;refine Wo ?_;refine⟨_,.c _ _ (ay.frz kn (Qw _)),?_⟩;have:=hK false _ kn.fin;simp only[Db,cf]at this;exact this
theorem Q9w {p rg:Int}{bc:C}{rows:List (List C)}{nx:Nat->List Int}{b:Int}(hg:GRd H bc rows nx)
  (hK:∀fl H',Upd H H' []->K (.c (.sl fl 1 (Qc (Db nx b rows.length)))) H'):Qv prog Rl [.ag [Ui p,Ui rg,bc],Uv b] H K:=
 Q0t hg.s hg.ow hg.no (λi hi=>by
  obtain⟨a1,a2,a3,a4,fl,h⟩:=hg.x i hi;exact⟨a1,a2,a3,a4,_,h,.mk' _ _ _ _⟩) hK
end Go.AE.Y
namespace Go.AE.Y
attribute [local instance] Classical.propDecidable
variable {g:Nat->List Nat}{a:Int}{n:Nat}{S:List Bool}{T:List Nat}{b:Nat}
theorem Dg (n x:Nat):(List.replicate n false).getD x false=false:=by
 simp only[Ja,Jax];split <;> rfl
end Go.AE.Y
namespace Go.AE.Y
open Go.Proofs.Tryz
variable {H H0:Heap}{K:Uk}
theorem FV (n:Nat):List.replicate n [C.bool false]=Qs (List.replicate n false):=by simp[Qs]
theorem BJ (l:List Nat)(i:Nat)(h:i<l.length):(AA l).getD i []=[Ui ((l.getD i 0:Nat):Int)]:=by
 simp[AA,Qc,Ja,h]
theorem Q1b (a b:List Nat):AA (a++b)=AA a++AA b:=by simp[AA,Qc]
end Go.AE.Y
namespace Go.AE
variable {H0 F H:Heap}{E E0 E' L L1 L2 M:Ul}
theorem Kn.startE (h:∀p∈E,H p.1=p.2/\p.2≠.none)(hd:(E.map Prod.fst).Nodup):Kn H H E []:=
 ⟨ZI,λp hp=>by rw[(h p hp).1];exact (h p hp).2,ZC,hd,ZC,λ_ _ _=>rfl⟩
theorem Kn.mid (k:Kn H0 F E0 (L1++L2)):Kn F F L1 []:=
 .startE (λp hp=>k.get p (Ju _ (Jr _ hp))) (by
  have:=k.dL;rw[Jw]at this;exact (Jaj.1 this).1)
theorem Kn.comp (k1:Kn H0 F E0 (L1++L2))(k2:Kn F H E' M)(hE:E'.map Prod.fst=L1.map Prod.fst):Kn H0 H E0 ((E'++L2)++M):=by
 have hd:=k1.dL;rw[Jw]at hd;obtain⟨d1,d2,d3⟩:=Jaj.1 hd;have A0:∀p∈E0,F p.1=p.2/\p.2≠.none:=λp hp=>k1.get p (Jr _ hp);have Au:∀p∈L2,F p.1=p.2/\p.2≠.none:=λp hp=>k1.get p (Ju _ (Ju _ hp));have inL1:∀p∈E',∃q∈L1,q.1=p.1:=λp hp=>by
  have:=AV hp;rw[hE]at this;obtain⟨q,h1,h2⟩:=Js.1 this;exact⟨q,h1,h2⟩
 have keep:∀m,F m≠.none->m∉L1.map Prod.fst->H m=F m:=λm h1 h2=>k2.chg m h1 (by rw[hE];exact h2);have yR:∀p∈E0,∀q∈L1,p.1≠q.1:=λp hp q hq hh=>k1.ext p hp (hh▸k1.loc q (Jr _ hq));refine⟨λp hp=>?_,k1.ext,λp hp=>?_,k1.dE,?_,λm hm hn=>?_⟩
 ·rcases Jj.1 hp with hp|hp
  ·obtain⟨h1,h2⟩:=A0 p hp;refine⟨?_,h2⟩;rw[keep p.1 (by rw[h1];exact h2) (λhh=>?_),h1];obtain⟨q,hq,hqq⟩:=Js.1 hh;exact yR p hp q hq hqq.symm
  ·rcases Jj.1 hp with hp|hp
   ·rcases Jj.1 hp with hp|hp
    ·exact k2.get p (Jr _ hp)
    ·obtain⟨h1,h2⟩:=Au p hp;refine⟨?_,h2⟩;rw[keep p.1 (by rw[h1];exact h2) (λhh=>?_),h1];exact d3 _ hh _ (AV hp) rfl
   ·exact k2.get p (Ju _ hp)
 ·rcases Jj.1 hp with hp|hp
  ·rcases Jj.1 hp with hp|hp
   ·obtain⟨q,hq,hh⟩:=inL1 p hp;rw[<-hh];exact k1.loc q (Jr _ hq)
   ·exact k1.loc p (Ju _ hp)
  ·have h1:=k2.loc p hp
   cases h0:H0 p.1 with
   |none=>rfl
   |_=>
    by_cases hx:p.1∈E0.map Prod.fst
    ·obtain⟨q,hq,hh⟩:=Js.1 hx;obtain⟨a1,a2⟩:=A0 q hq;rw[hh,h1]at a1;exact absurd a1.symm a2
    ·have:=k1.chg p.1 (by rw[h0];simp) hx;rw[h1,h0]at this;simp at this
 ·rw[Jw,Jw];refine Jaj.2 ⟨Jaj.2 ⟨k2.dE,d2,λa ha b hb=>?_⟩,k2.dL,λa ha b hb eH=>?_⟩
  ·rw[hE]at ha;exact d3 a ha b hb
  ·obtain⟨q,hq,rfl⟩:=Js.1 hb;have hf:=k2.loc q hq;rcases Jj.1 ha with ha|ha
   ·obtain⟨r,hr,rfl⟩:=Js.1 ha;exact k2.ext r hr (eH▸hf)
   ·obtain⟨r,hr,rfl⟩:=Js.1 ha;obtain⟨a1,a2⟩:=Au r hr;rw[eH,hf]at a1;exact a2 a1.symm
 ·rw[keep m (by rw[k1.chg m hm hn];exact hm) (λhh=>?_),k1.chg m hm hn];obtain⟨q,hq,rfl⟩:=Js.1 hh;exact hm (k1.loc q (Jr _ hq))
theorem Kn.upd (k:Kn H0 H E L):Upd H0 H E:=⟨λp hp=>(k.get p (Jr _ hp)).1,λm hm hn=>k.chg m hm hn⟩
theorem Y.FrzL.ptr {S:Nat->Bool}{l:Nat}{cells cells':List C}(hS:S l=true)(hH:H l=.st cells)(h:FrzL H S cells cells'):FrzC H S (.ptr l 0) (.pp cells'):=by
 obtain⟨h1,h2⟩:=h.spec;exact .ptr l 0 cells cells cells' hS hH rfl h1 h2
theorem Kn.br {B Lg:Ul}{K:Uk}{sz:Nat}{rows new:List (List C)}{b c:C}(kn:Kn H0 H E (B++Lg))(hc:Gr Lg sz rows c)(hb:Slc H sz new b)
  (h1:∀r∈new,ak r=true) (h2:rows.length+new.length<=LIM)
  (h:∀t Lg' H',Gr Lg' sz (rows++new) t->t.ah=false->Kn H0 H' E (B++Lg')->K (.c t) H'):appQ H sz c b K:=
 kn.grow hc hb h1 h2 λy' H' k=>h _ _ H' (.mk y' sz _ ZC) rfl k
end Go.AE
namespace Go.AE.Y
open Go.Proofs.Tryz
variable {H H0:Heap}{K:Uk}
def Eg (x3 x4 x5:Nat)(p rg:Int)(bc:C):List C:=[.ptr x4 0,.pp [.int .i64 p,.int .i64 rg,bc],.ptr x5 0,.ptr x3 0]
def visE (x3 x4 x5 y n:Nat)(p rg:Int)(bc:C)(S:List Bool)(oc:C):List (Nat×Obj):=
 [(y,.vec 1 (Qs S)),(x3,.st [oc]),(x4,.st [.ai y 1 0 n]),(x5,.st [.fn Pc (Eg x3 x4 x5 p rg bc)])]
theorem Tu {F:Heap}{p rg:Int}{bc:C}{rows:List (List C)}{nx:Nat->List Int}{y x3 x4 x5:Nat}(aU:Bn rows.length nx=true)(hn:rows.length<=1000000)(hg:GRd F bc rows nx)
  (cP:∀l a b d,bc=.ai l a b d->l≠y/\l≠x3/\l≠x4/\l≠x5) :
  ∀(u b:Nat) (S:List Bool) (o:List Nat) (oc:C) (Lg:Ul) (H:Heap) (K:V->Heap->Prop),S.length=rows.length->rows.length-cnt S<=u->b<rows.length->S.getD b false=false->
   Kn F H (visE x3 x4 x5 y rows.length p rg bc S oc) ([]++Lg)->Gr Lg 1 (AA o) oc->o.length<=cnt S->
   (∀(S':List Bool) (o':List Nat) (oc':C) (Lg':Ul) (H':Heap),Dfs (nxN nx) [b] S o S' o'->Kn F H' (visE x3 x4 x5 y rows.length p rg bc S' oc') ([]++Lg')->Gr Lg' 1 (AA o') oc'->K (.tup []) H')->
   Qv prog Pc ([Uv b]++(Eg x3 x4 x5 p rg bc).map .c) H K:=by
 intro u
 induction u with
 |zero=>
  intro b S o oc Lg H K hS hu hb fH;have h1:=GI (S:=S) (x:=b) ZA fH;have h2:=EH (S.set b true);rw[Jh]at h2;omega
 |succ u ih=>
  intro b S o oc Lg H K hS hu hb fH kn ay ev hK;have bt:=hg.ow;have rm:b<S.length:=ZA
  obtain⟨a1,a2,a3,a4,fl,aC⟩:=hg.x b hb;have bj:=hg.s.sz;have am:=hg.s.len;have kw:=ay.ah;refine Qd A6 Qaix ?_;have hy:=kn.e 0 rfl;have aY:=kn.e 2 rfl;have bP:List.take rows.length (Qs S)=Qs S:=Jc Zan;refine Qa ?_;simp only[go_sem,Eg,aY,hy,hb,Q0,hS,Q6 _ _ rm,Df,J8,Jm,Jk];intro H1 h1;have kn:Kn F H1 (visE x3 x4 x5 y rows.length p rg bc (S.set b true) oc) ([]++Lg):=kn.stE 0 rfl h1;have hcS:=GI rm fH;have lX:(nxN nx b).length=(nx b).length:=by simp[nxN]
  have dw:∀(S:List Bool) (oc:C) (l a b d),bc=.ai l a b d->l∉(visE x3 x4 x5 y rows.length p rg bc S oc).map Prod.fst:=by
   intro S oc l a b d hh;obtain⟨q1,q2,q3,q4⟩:=cP l a b d hh;simp[visE,q1,q2,q3,q4]
  have fR:=hg.keep kn (dw _ _);have ew:=eq_true fR.s.ok;have iK:=fR.s.rows;refine Q1 (Qa ?_);simp only[go_sem,bt,ew,am,bj,iK,hb,aC,Qb];intro i8;simp only[LIM]at i8;refine Qh (Qe (Qx (λm e1 H1=>∃(i:Nat) (S1:List Bool) (o1:List Nat) (oc1:C) (Lg1:Ul),m=(nx b).length-i/\i<=(nx b).length/\Dfs (nxN nx) ((nxN nx b).take i) (S.set b true) o S1 o1/\
   Kn F H1 (visE x3 x4 x5 y rows.length p rg bc S1 oc1) ([]++Lg1)/\Gr Lg1 1 (AA o1) oc1/\
   e1=[(0,Uv b),(1,Up x4),(3,Up x5),(4,Up x3),(16,.c (.sl fl 1 (Qc (nx b)))),(17,.c (Ui (nx b).length)),(18,Uv i)]) (nx b).length ?_ ?_))
  ·exact⟨0,_,o,oc,Lg,ZA,ZA,.nil _ _,kn,ay,rfl⟩
  ·rintro m e1 H2 ⟨i,S1,o1,oc1,Lg1,hm,hi,hd,kn,ay,rfl⟩;have b6:∀x,x<(S.set b true).length->∀z∈nxN nx x,z<(S.set b true).length:=by
    rw[Jh,hS];exact λx hx z hz=>D6 aU hx hz
   have cU:=hd.len;rw[Jh,hS]at cU;have eT:=hd.count b6 (λx hx=>b6 b (by rw[Jh];exact rm) x (Jae hx));have hd3:=hd.olen;have hd4:=EH S1;have hy:=kn.e 0 rfl;have aK:=kn.e 1 rfl;have aY:=kn.e 2 rfl;have bm:=kn.e 3 rfl;refine Za ?_;refine Wu ?_ ?_
   ·intro hc;have af:i<(nx b).length:=ZD;obtain⟨w,hw⟩:∃w:Nat,(nx b).getD i 0=w:=by
     have h1:=Oy aU hb (Jf af);refine⟨((nx b)[i]).toNat,?_⟩;simp only[Ja,Jd af,Jag];omega
    have mT:(nxN nx b).take (i+1)=(nxN nx b).take i++[w]:=by
     rw[Jg (by rw[lX];exact af)];congr 1;simp only[nxN,Ja0];simp only[Ja,Jd af,Jag]at hw;rw[hw];simp
    have sr:w<rows.length:=D6 aU hb (x:=w) (by
     have:w∈(nxN nx b).take (i+1):=(by rw[mT];simp);exact Jae this)
    have vN:w<S1.length:=ZA;refine Zc ?_;refine Bk (λe2 H2=>∃(S2:List Bool) (o2:List Nat) (oc2:C) (Lg2:Ul),Dfs (nxN nx) ((nxN nx b).take (i+1)) (S.set b true) o S2 o2/\
     Kn F H2 (visE x3 x4 x5 y rows.length p rg bc S2 oc2) ([]++Lg2)/\Gr Lg2 1 (AA o2) oc2/\
     lk 0 e2=Uv b/\lk 1 e2=Up x4/\lk 3 e2=Up x5/\lk 4 e2=Up x3/\lk 16 e2=.c (.sl fl 1 (Qc (nx b)))/\lk 17 e2=.c (Ui (nx b).length)/\lk 18 e2=Uv i) ?_ ?_
    ·intro Q bH _ _;have gm:List.take rows.length (Qs S1)=Qs S1:=Jc Zan;refine Qe (Qa ?_);simp only[go_sem,hw,af,Qb,Qo _ _ af];refine Qa ?_;simp only[go_sem,aY,hy,sr,gm,cU,Q0,Q6 _ _ vN,J8,Jm,Jk];refine Wv ?_ ?_
     ·intro a7;have fU:S1.getD w false=false:=BM a7;refine Qq ?_;simp only[go_sem,bm];refine ih w S1 o1 oc1 Lg1 H2 _ cU ZA sr fU kn ay ZA λS2 o2 oc2 Lg2 H3 cR kn ay=>?_;refine bH _ _ ⟨S2,o2,oc2,Lg2,?_,kn,ay,rfl,rfl,rfl,rfl,rfl,rfl,rfl⟩;rw[mT];exact hd.app cR
     ·intro a7;have fU:S1.getD w false=true:=Bi a7;refine Zc ?_;refine bH _ _ ⟨S1,o1,oc1,Lg1,?_,kn,ay,rfl,rfl,rfl,rfl,rfl,rfl,rfl⟩;rw[mT];exact hd.app (.skip fU (.nil _ _))
    ·rintro e2 H3 ⟨S2,o2,oc2,Lg2,hd,kn,ay,l0,l1,l3,l4,l16,l17,l18⟩;refine Qq ?_;simp only[go_sem,X.next,l0,l1,l3,l4,l16,l17,l18];exact⟨Qr,(nx b).length-(i+1),ZA,i+1,S2,o2,oc2,Lg2,rfl,ZA,hd,kn,ay,rfl⟩
   ·intro hc;have bp:(nx b).length<=i:=ZD;rw[Jc (by rw[lX];exact bp)]at hd;have kw:=ay.ah;refine Zb ?_;refine Qq ?_;simp only[go_sem,aK,kw];refine kn.grow (new:=Qc [(b:Int)]) ay (.mk' _ _ _ _) (Qw _) ZaS λz H3 kn=>?_;have aK:=kn.e 1 rfl;simp only[go_sem,Qjg,aK];intro H4 h4;have kn:=kn.stE 1 rfl h4;simp only[go_sem,Q7,A5,By,Jan];refine⟨λ_=>trivial,hK S1 (o1++[b]) _ _ H4 (.one fH hd) kn ?_⟩;rw[<-NM];exact .mk _ _ _ ZC
theorem Qa4h {p rg:Int}{bc:C}{rows:List (List C)}{nx:Nat->List Int}(hg:GRd H bc rows nx)(aU:Bn rows.length nx=true)(hn:rows.length<=1000000)
  (hK:∀(S:List Bool) (o:List Nat) (t:C) (Lg:Ul) (H':Heap),Gr Lg 1 (AA o) t->Kn H H' [] ([]++Lg)->Dfs (nxN nx) [0] (List.replicate rows.length false) [] S o->K (.c t) H') :
  Qv prog PV [.ag [Ui p,Ui rg,bc]] H K:=by
 refine Qd A6 Qa5l ?_;have bt:=hg.ow;have am:=hg.s.len;have cd:=ER aU;refine Wd ?_;intro x3 aK H1 h1;have kn:=(Kn.ao H).al aK h1;have fR:=hg.keep0 kn;have ew:=eq_true fR.s.ok;refine Qa ?_;simp only[go_sem,bt,ew,am,FV];intro hl;refine⟨by simp only[LIM];omega,λy hy H2 h2=>?_⟩;have kn:=kn.al hy h2;simp only[go_sem,Qu1];intro x4 aY H3 h3;have kn:=kn.al aY h3;have aY:=kn.l 2 rfl;simp only[go_sem,Qu0,aY];intro H4 h4;have kn:=kn.aA 2 rfl h4;refine Za ?_;intro x5 bm H5 h5;have kn:=kn.al bm h5;have bm:=kn.l 3 rfl;refine Zi bm ?_;intro H6 h6;have kn:=kn.aA 3 rfl h6;have kn:Kn H H6 [] ([(x3,.st [.sl true 1 []]),(y,.vec 1 (Qs (List.replicate rows.length false))),(x4,.st [.ai y 1 0 rows.length]),(x5,.st [.fn Pc (Eg x3 x4 x5 p rg bc)])]):=kn;have kn:Kn H H6 [] (visE x3 x4 x5 y rows.length p rg bc (List.replicate rows.length false) (.sl true 1 [])++[]):=kn.perm (List.Perm.swap _ _ _);have bm:=kn.l 3 rfl;have hg6:=hg.keep0 kn;have cP:∀l a b d,bc=.ai l a b d->l≠y/\l≠x3/\l≠x4/\l≠x5:=by
  intro l a b d hh;have hu:H l≠.none:=by
   have:=hg.s.ok;rw[hh]at this;intro h0;simp only[aW,h0]at this
  exact⟨λh=>hu (h▸kn.free 0 rfl),λh=>hu (h▸kn.free 1 rfl),λh=>hu (h▸kn.free 2 rfl),λh=>hu (h▸kn.free 3 rfl)⟩
 refine Zi bm ?_;refine Tu aU hn hg6 cP rows.length 0 (List.replicate rows.length false) [] (.sl true 1 []) [] H6 _ ZC ZA cd (Dg _ _) kn.mid (.nil 1) ZC λS o oc Lg H7 hd k2 ay=>?_;have kn:=kn.comp k2 rfl;have aK:=kn.l 1 rfl;have kw:=ay.ah;refine Zn aK kw ?_;refine Ze ?_;have kn:=kn.perm (L':=([]++Lg)++(visE x3 x4 x5 y rows.length p rg bc S oc++[])) (by rw[Jx];exact Jac);exact hK S o oc Lg _ ay kn.drop hd
theorem XI {p rg:Int}{bc:C}{rows:List (List C)}{nx:Nat->List Int}(hg:GRd H bc rows nx)(aU:Bn rows.length nx=true)(hn:rows.length<=1000000)
  (hK:∀(S:List Bool) (o:List Nat) (H':Heap),Upd H H' []->Dfs (nxN nx) [0] (List.replicate rows.length false) [] S o->K (.c (.sl false 1 (AA o))) H') :
  Qv prog PV [.ag [Ui p,Ui rg,bc]] H K:=
 Qz (Qa4h hg aU hn λS o t Lg H' ay kn hd=>⟨_,.c _ _ (ay.frz kn (Qw _)),hK S o _ kn.fin hd⟩)
end Go.AE.Y
namespace Go.AE.Y
variable {ns:List Int}{n:Int}{at':Nat}
structure InsAt (ns:List Int)(n:Int)(k:Nat):Prop where
 le:k<=ns.length
 lo:∀i,i<k->∀(h:i<ns.length),ns[i]<n
 hi:∀(h:k<ns.length),n<=ns[k]
theorem InsAt.mem_of_asc {k:Nat}(h:InsAt ns n k)(ha:ns.Pairwise (· < ·)):(∀x∈ns.take k,x<n)/\(∀x∈ns.drop k,n<=x)/\(∀x∈ns.drop (k+1),n<x):=by
 have hp:=J4.1 ha;refine⟨λx hx=>?_,λx hx=>?_,λx hx=>?_⟩
 ·obtain⟨i,hi,rfl⟩:=Jz.1 hx;rw[Jad];rw[Jt]at hi;exact h.lo i ZA ZA
 ·obtain⟨i,hi,rfl⟩:=Jz.1 hx;rw[Jbf];rw[Jam]at hi;have h1:=h.hi ZA;by_cases h0:i=0
  ·subst h0;exact h1
  ·have:=hp k (k+i) ZA ZA ZA;exact Int.le_trans h1 (Int.le_of_lt this)
 ·obtain⟨i,hi,rfl⟩:=Jz.1 hx;rw[Jbf];rw[Jam]at hi;have h1:=h.hi ZA;have:=hp k (k+1+i) ZA ZA ZA;exact Int.lt_of_le_of_lt h1 this
theorem InsAt.new {k:Nat}(h:InsAt ns n k)(ha:ns.Pairwise (· < ·))(hn:∀(h:k<ns.length),ns[k]≠n) :
  (ns.take k++[n]++ns.drop k).Pairwise (· < ·)/\(∀x,x∈ns.take k++[n]++ns.drop k↔x=n\/x∈ns):=by
 obtain⟨h1,h2,h3⟩:=h.mem_of_asc ha;have h4:∀x∈ns.drop k,n<x:=by
  intro x hx;have hk:k<ns.length:=by
   rcases Jbj k ns.length with h|h
   ·exact h
   ·rw[List.drop_eq_nil_of_le h]at hx;simp at hx
  rw[J3 hk]at hx;rcases J2.1 hx with rfl|hx
  ·have:=h.hi hk;have:=hn hk;omega
  ·exact h3 x hx
 refine⟨?_,λx=>?_⟩
 ·rw[Jav,Ja7];refine⟨ha.sublist (List.take_sublist _ _),?_,λa Ah b hb=>?_⟩
  ·rw[Ja3,Jbc];exact⟨h4,ha.sublist (List.drop_sublist _ _)⟩
  ·have:=h1 a Ah;rcases Jj.1 hb with hb|hb
   ·simp at hb;subst hb;exact this
   ·have:=h2 b hb;omega
 ·conv=>rhs;rw[<-Ja4 k ns]
  simp only[Jj,Jb];constructor
  ·rintro ((h|h)|h)
   ·exact .inr (.inl h)
   ·exact .inl h
   ·exact .inr (.inr h)
  ·rintro (h|h|h)
   ·exact .inl (.inr h)
   ·exact .inl (.inl h)
   ·exact .inr h
theorem Qbow {ns:List Int}{l:List Nat}(h1:ns.Pairwise (· < ·))(h2:l.Pairwise (· < ·))(h:∀x,x∈ns↔∃y∈l,(y:Int)=x):ns=l.map Int.ofNat:=by
 have jD:∀x∈ns,0<=x:=λx hx=>by obtain⟨y,_,rfl⟩:=(h x).1 hx;omega
 have e:ns=(ns.map Int.toNat).map Int.ofNat:=by
  rw[Jbi]
  conv=>lhs;rw[<-Jbs ns]
  refine Ja8 λx hx=>?_;have:=jD x hx;simp only[Function.comp_def,id];exact (Int.toNat_of_nonneg this).symm
 rw[e];congr 1;refine Fw ?_ h2 λx=>?_
 ·rw[Jbh];refine List.Pairwise.imp_of_mem (λ{a b} ha hb eH=>?_) h1;have:=jD a ha;have:=jD b hb;omega
 ·constructor
  ·intro hx;obtain⟨y,hy,rfl⟩:=Js.1 hx;obtain⟨z,hz,rfl⟩:=(h y).1 hy;simpa using hz
  ·intro hx;exact Js.2 ⟨(x:Int),(h x).2 ⟨x,hx,rfl⟩,ZC⟩
end Go.AE.Y
namespace Go.AE.Y
open Go.Proofs.Tryz
variable {H H0:Heap}{K:Uk}
theorem D1 {c:C}{ns:List Int}{v:Int}(hs:Slc H 1 (Qc ns) c)(bt:c.ah=false)(hK:∀r,IsIx ns v r->K (Uv r) H) :
  Qv prog IC [.c c,Uv v] H K:=by
 refine Qd A6 TW ?_;have aw:=eq_true hs.ok;have am:=hs.len;have bj:=hs.sz;have cL:=hs.rows;refine Wh ?_;refine Qh (Qe (Qx (λm e1 H1=>∃(i:Nat),m=ns.length-i/\i<=ns.length/\H1=H/\v∉ns.take i/\e1=[(0,.c c),(1,Uv v),(5,Uv i)]) ns.length ?_ ?_))
 ·exact⟨0,ZA,ZA,rfl,ZC,rfl⟩
 ·rintro m e1 H1 ⟨i,hm,hi,rfl,bx,rfl⟩;refine Q1 (Qa ?_);simp only[go_sem,aw,am,Qb];intro hl;simp only[LIM]at hl;refine Wu ?_ ?_
  ·intro hc;have af:i<ns.length:=ZD
   have b6:ns.getD i 0=ns[i]:=Zaj
   refine Wm ?_;simp only[go_sem,aw,am,bj,cL,af,Qb,Qo _ _ af];refine Wv ?_ ?_
   ·intro a7;have hv:ns.getD i 0=v:=ZF;refine Za ?_;refine Zo ?_;exact hK _ (.inr ⟨i,rfl,af,hv,bx⟩)
   ·intro a7;have hv:¬ns.getD i 0=v:=ZF;refine Wi ?_;refine⟨Qr,ns.length-(i+1),ZA,i+1,rfl,ZA,?_,rfl⟩;rw[Jg af];simp only[Jj,Jb,not_or];exact⟨bx,λh=>hv (by rw[b6];exact h.symm)⟩
  ·intro hc;have bp:ns.length<=i:=ZD
   rw[Jc bp]at bx;refine Wo ?_;exact hK _ (.inl ⟨rfl,bx⟩)
theorem O6 {fl:Bool}{ns:List Int}{n:Int}(ha:ns.Pairwise (· < ·))(hL:ns.length+1<=2 ^ 38)
  (hK:∀(fl':Bool) (ns':List Int) (H':Heap),Upd H H' []->ns'.Pairwise (· < ·)->(∀x,x∈ns'↔x=n\/x∈ns)->ns'.length<=ns.length+1->K (.c (.sl fl' 1 (Qc ns'))) H') :
  Qv prog NB [.c (.sl fl 1 (Qc ns)),Uv n] H K:=by
 refine Qz ?_;refine Qd A6 Qbfz ?_;have rest:∀i:Nat,InsAt ns n i->A9 prog Q54 (Q7 A7 (unK H K)) [(0,V.c (.sl fl 1 (Qc ns))),(1,Uv n),(5,Uv i)] H:=by
  intro i bq;have hile:=bq.le;refine Q1 (Qa ?_);have tail:∀e:Env,(∀(h:i<ns.length),ns[i]≠n)->lk 0 e=.c (.sl fl 1 (Qc ns))->lk 1 e=Uv n->lk 5 e=Uv i->A9 prog Q53 (Q7 A7 (unK H K)) e H:=by
   intro e bf l0 l1 l5;obtain⟨q1,q2⟩:=bq.new ha bf;have zn:List.take i (Qc ns)=Qc (ns.take i):=by simp[Qc,Jbb]
   have di:List.drop i (List.take ns.length (Qc ns))=Qc (ns.drop i):=by
    rw[Jc (by rw[Qb];exact Jk _)];simp[Qc,List.map_drop]
   refine Qa ?_;simp only[go_sem,l0,l5,Qb,zn];refine⟨ZA,?_⟩;refine⟨.inl trivial,Qw _,by simp only[LIM,Jt];omega,λz hz H1 h1=>?_⟩;have kn:Kn H H1 [] ([]++[(z,.vec 1 (Qc (ns.take i)))]):=(Kn.ao H).al hz h1;simp only[go_sem,Q0i,l0,l1,l5];generalize ht6:C.ai z 1 0 (0+(List.take i ns).length)=t6;have ay:Gr [(z,.vec 1 (Qc (ns.take i)))] 1 (Qc (ns.take i)) t6:=by rw[<-ht6];exact .mk z 1 _ (by simp[Qb])
   have hw6:=ay.ah;refine AC ?_;simp only[go_sem,Qb,di];refine⟨ZA,?_⟩;refine kn.br (new:=Qc [n]) ay (.mk' _ _ _ _) (Qw _) (by simp only[Qb,LIM,Jt,Jq,Jp];omega) λt7 Lg H2 ay hw7 kn=>?_;simp only[go_sem,Q0k,Qb,di];refine⟨ZA,?_⟩;refine kn.br (new:=Qc (ns.drop i)) ay (.mk' _ _ _ _) (Qw _) (by simp only[Qb,LIM,Jt,Jam,Jq,Jp,Jaa];omega) λt8 Lg H3 ay ze kn=>?_;simp only[go_sem,Q0j];refine Ze ?_;have e0:Qc (ns.take i)++Qc [n]++Qc (ns.drop i)=Qc (ns.take i++[n]++ns.drop i):=Zat
   rw[e0]at ay;refine⟨_,.c _ _ (ay.frz kn (Qw _)),hK _ _ _ kn.fin q1 q2 ?_⟩;simp;omega
  simp only[go_sem,Qb];by_cases af:i<ns.length
  ·have b6:ns.getD i 0=ns[i]:=Zaj
   simp only[go_sem,af,Qo _ _ af];intro _;refine Wu ?_ ?_
   ·intro a7;have he:ns[i]=n:=(by rw[<-b6];simpa[af]using a7);refine Za ?_;refine Ze ?_;refine⟨_,.c _ _ (Es (noOw_mem (Qw _))),hK _ ns _ (Kn.ao H).fin ha (λx=>⟨.inr,?_⟩) ZA⟩;rintro (rfl|h)
    ·rw[<-he];exact Jf af
    ·exact h
   ·intro a7;have he:ns[i]≠n:=(by rw[<-b6];simpa[af]using a7);refine Zc ?_;exact tail _ (λ_=>he) rfl rfl rfl
  ·have yd:decide ((i:Int)<(ns.length:Int))=false:=ZG
   have db:(Qc ns).getD i []=[]:=by rw[Ja,Jo Zab];rfl
   simp only[go_sem,yd,db,cond_false];intro _;refine Wu ?_ ?_
   ·intro a7;simp at a7
   ·intro _;refine Zc ?_;exact tail _ (λh=>absurd h af) rfl rfl rfl
 refine Wd ?_;refine Qh (Qe (Qx (λm e1 H1=>∃(i:Nat),m=ns.length-i/\i<=ns.length/\H1=H/\(∀k,k<i->∀(h:k<ns.length),ns[k]<n)/\e1=[(0,.c (.sl fl 1 (Qc ns))),(1,Uv n),(5,Uv i)]) ns.length ?_ ?_))
 ·exact⟨0,ZA,ZA,rfl,λk hk=>ZA,rfl⟩
 ·rintro m e1 H1 ⟨i,hm,hi,rfl,qG,rfl⟩;refine Q1 (Qa ?_);by_cases af:i<ns.length
  ·have b6:ns.getD i 0=ns[i]:=Zaj
   simp only[go_sem,af,Qb,Qo _ _ af];intro _;refine Wu ?_ ?_
   ·intro hc;have hv:ns[i]<n:=(by rw[<-b6];simpa[af]using hc);refine Zc ?_;refine Qe (Qq ?_);simp only[go_sem,X.next];refine⟨Qr,ns.length-(i+1),ZA,i+1,rfl,ZA,λk hk h=>?_,rfl⟩;by_cases h':k<i
    ·exact qG k h' h
    ·have:k=i:=ZA;subst this;exact hv
   ·intro hc;have hv:¬ns[i]<n:=(by rw[<-b6];simpa[af]using hc);refine Zb ?_;exact rest i ⟨hi,qG,λ_=>ZA⟩
  ·have yd:decide ((i:Int)<(ns.length:Int))=false:=ZG
   have db:(Qc ns).getD i []=[]:=by rw[Ja,Jo Zab];rfl
   simp only[go_sem,yd,db,Qb,cond_false];intro _;refine Wu ?_ ?_
   ·intro a7;simp at a7
   ·intro _;refine Zb ?_;exact rest i ⟨hi,qG,λh=>absurd h af⟩
end Go.AE.Y
namespace Go.AE.Y
attribute [local instance] Classical.propDecidable
variable {g:Nat->List Nat}{n h:Nat}
theorem rchB_iff {a:Int}{x:Nat}:AW g a x=true↔Rch g (λz=>(z:Int)=a) 0 x:=by simp[AW]
theorem Kf (b:Nat):AW g (b:Int) b=false:=by
 cases hc:AW g (b:Int) b with
 |false=>rfl
 |true=>exact absurd rfl (rchB_iff.1 hc).snd
theorem Qbjb (b:Nat):Br g b b=AW g (-1) b:=by simp[Br,Kf]
theorem VX {a b:Nat}(h:Br g a b=true):AW g (-1) a=true/\AW g (-1) b=true:=by
 simp only[Br,Jl]at h;exact⟨h.1.1,h.1.2⟩
end Go.AE.Y
namespace Go.AE.Y
open Go.Proofs.Tryz
variable {H H0:Heap}{K:Uk}
structure GF (rows:List (List C))(nx:Nat->List Int):Prop where
 no:∀r∈rows,ak r=true
 x:∀i,i<rows.length->∃a1 a2 a3 a4 fl,rows.getD i []=[a1,a2,a3,a4,.sl fl 1 (Qc (nx i))]
 n:rows.length<=10000
 m:∀i,i<rows.length->(nx i).length<=1000
theorem GF.grd {rows:List (List C)}{nx:Nat->List Int}(h:GF rows nx)(H:Heap)(fl:Bool):GRd H (.sl fl 5 rows) rows nx:=⟨.mk' _ _ _ _,rfl,h.no,h.x⟩
theorem FY {q:CodeD}(h:q.gd):GF (Qm q.blocks) (gnx q):=by
 refine⟨(Dl (λ_=>.none) q false).no,(Dl (λ_=>.none) q false).x,by rw[Ql];have:=h.b1;omega,λi hi=>?_⟩;rw[Ql]at hi;have:gnx q i=q.blocks[i].next:=by simp[gnx,Ja,hi]
 rw[this];have:=h.n _ (Jf hi);omega
noncomputable def inL (n:Nat)(g:Nat->List Nat):List Bool:=(List.range n).map (AW g (-1))
noncomputable def Cs (n:Nat)(g:Nat->List Nat)(a:Nat):List Bool:=(List.range n).map (Br g a)
noncomputable def ovOf (n:Nat)(g:Nat->List Nat)(k:Nat):List (List C):=(List.range k).map λa=>[.sl false 1 (Qs (Cs n g a))]
theorem OZ (n:Nat)(f:Nat->Bool){i:Nat}(h:i<n):((List.range n).map f).getD i false=f i:=by simp[Ja,h]
theorem Er {n:Nat}{g:Nat->List Nat}:(inL n g).length=n:=by simp[inL]
theorem EU {n:Nat}{g:Nat->List Nat}{a:Nat}:(Cs n g a).length=n:=by simp[Cs]
theorem Gn {n:Nat}{g:Nat->List Nat}{k:Nat}:(ovOf n g k).length=k:=by simp[ovOf]
theorem I7 {n:Nat}{g:Nat->List Nat}{i:Nat}(h:i<n):(inL n g).getD i false=AW g (-1) i:=OZ _ _ h
theorem Q92 {n:Nat}{g:Nat->List Nat}{a i:Nat}(h:i<n):(Cs n g a).getD i false=Br g a i:=OZ _ _ h
theorem FT {n:Nat}{g:Nat->List Nat}{k a:Nat}(h:a<k):(ovOf n g k).getD a []=[.sl false 1 (Qs (Cs n g a))]:=by simp[ovOf,Ja,h]
noncomputable def ysL (n:Nat)(g:Nat->List Nat)(ys:List Nat):List (Nat×Obj):=ys.zipIdx.map λx=>(x.1,.vec 1 (Qs (Cs n g x.2)))
def ysR (n:Nat)(ys:List Nat):List (List C):=ys.map λy=>[.ai y 1 0 n]
theorem XG (n:Nat)(g:Nat->List Nat)(ys:List Nat)(y:Nat):ysL n g (ys++[y])=ysL n g ys++[(y,.vec 1 (Qs (Cs n g ys.length)))]:=by
 simp[ysL,List.zipIdx_append]
theorem XF (n:Nat)(ys:List Nat)(y:Nat):ysR n (ys++[y])=ysR n ys++[[.ai y 1 0 n]]:=by simp[ysR]
theorem Ts (n:Nat)(ys:List Nat):(ysR n ys).length=ys.length:=by simp[ysR]
theorem Sr {S:Nat->Bool}{n:Nat}{g:Nat->List Nat}(ys:List Nat):∀(k:Nat),(∀p∈(ys.zipIdx k).map λx=>(x.1,Obj.vec 1 (Qs (Cs n g x.2))),H p.1=p.2/\S p.1=true)->
  FrzR H S (ysR n ys) ((List.range' k ys.length).map λa=>[.sl false 1 (Qs (Cs n g a))]):=by
 induction ys with
 |nil=>intro k _;exact .nil
 |cons y ys ih=>
  intro k h;rw[List.zipIdx_cons,Jv]at h;obtain⟨h1,h2⟩:=h _ Jn;simp only[Jp,List.range'_succ,Jv,ysR];refine .cons (.cons ((FrzR.same (ON _)).ai h2 h1 (by rw[Q0,EU])) .nil) (ih (k+1) λp hp=>h p (Ji _ hp))
theorem Tr {S:Nat->Bool}{n:Nat}{g:Nat->List Nat}(ys:List Nat)(h:∀p∈ysL n g ys,H p.1=p.2/\S p.1=true):FrzR H S (ysR n ys) (ovOf n g ys.length):=by
 have:=Sr (H:=H) (S:=S) (n:=n) (g:=g) ys 0 h;rw[<-List.range_eq_range']at this;exact this
theorem Qaw5 (n:Nat)(f:Nat->Bool){i:Nat}(h:i<n):((List.range i).map f++List.replicate (n-i) false).set i (f i)=(List.range (i+1)).map f++List.replicate (n-(i+1)) false:=by
 refine Jah λj=>?_;have e:n-i=(n-(i+1))+1:=ZA
 rw[e,List.replicate_succ,Jar,Jw];rw[List.set_append];simp only[J6,Jbg,Nat.lt_irrefl,if_false,Nat.sub_self,List.set_cons_zero,Jv,Jab,Jav,Ja3]
end Go.AE.Y
namespace Go.AE.Y
variable {P:Program}{H:Heap}{g:G}{w:World}
theorem Xn (hs:Sat H g w)(os:Array Go.Obj):∃g',Stp H g w H g' (Go.Sort.grow w os):=by
 obtain⟨l⟩:=os
 induction l generalizing g w with
 |nil=>exact⟨g,by rw[Go.Sort.grow_empty];exact .refl hs⟩
 |cons x l ih=>
  have h1:=Q2l hs x;obtain⟨g',h2⟩:=ih h1.sat;refine⟨g',?_⟩;have e:Go.Sort.grow w ⟨x::l⟩=Go.Sort.grow (w.alloc x) ⟨l⟩:=by
   rw[Go.Sort.alloc_eq_grow,Go.Sort.grow_grow];congr 1;simp
  rw[e];exact h1.trans h2
theorem Qbl8 {b off:Nat}{cs:Array Value}{T:TypeId}{d:Array Int}(h:w.heap[b]? = some (.cells cs T (0,0))) :
  Go.Sort.putRow (Value.int .i64) w b off d=World.aB w b (Go.Sort.putCells (Value.int .i64) off d cs) T:=by
 simp only[Go.Sort.putRow,Go.Sort.mapBlock,World.aB];congr 1;apply Array.ext_getElem?;intro i;simp only[Array.getElem?_modify];by_cases hi:b=i
 ·subst hi;have af:b<w.heap.size:=EP h;rw[if_pos rfl,h];simp[af,Go.Sort.onCells]
 ·rw[if_neg hi,Array.getElem?_setIfInBounds_ne hi]
theorem Qbew {f:Nat}(hf:fnOk P f=true)
  (hc:∀(blk off cap:Nat) (zs:List Int) (w:World),Go.Sort.Holds (Value.int .i64) w blk off zs.toArray->blk<w.heap.size->zs.length<4611686018427387904->
   Calls P f #[.slice (some ⟨blk,off,none⟩) zs.length cap] w λe w'=>
    e=.returned (.tuple #[])/\∃n os,w'=Go.Sort.grow (Go.Sort.putRow (Value.int .i64) (Go.Sort.ahead w n) blk off (zs.mergeSort λx y=>decide (x<=y)).toArray) os)
  {z n:Nat} {ns:List Int} {K:V->Heap->Prop} (hz:H z=.vec 1 (Qc ns)) (hn:n=ns.length) (h0:0<n)
  (hK:∀H',Upd H H' [(z,.vec 1 (Qc (ns.mergeSort λx y=>decide (x<=y))))]->K (.tup []) H'):Qv P f [.c (.ai z 1 0 n)] H K:=by
 refine⟨hf,λg w vs hs hl hv=>?_⟩;obtain⟨v,rfl⟩:∃v,vs=[v]:=by
  match vs,hl with
  |[v],_=>exact⟨v,rfl⟩
 have hr:=hv 0 _ v rfl rfl;have ho:=hs.objs z;rw[hz]at ho
 cases hr with
 |c _ _ hr=>
  cases hr with
  |bS=>omega
  |ai l sz st n cap b base T m bM uI iG hm=>
   obtain⟨b',base',T',cs,val,qP,j8,cO,bj,dz,aC,bX,dl⟩:=SatVec.of ho bM;rw[bM]at qP;simp only[Jaw,Prod.mk.injEq,true_and]at qP;obtain⟨rfl,rfl⟩:=qP;have af:=EP cO;rw[Qb]at bj dz;have nh:∀j (hj:j<ns.length),cs[base+j]? = some (.int .i64 ns[j]):=by
    intro j hj;have h1:(Qc ns)[j]? = some [.int .i64 ns[j]]:=(by simp[Qc,hj]);have h2:=bX j _ 0 _ h1 rfl;have h3:=dl j _ 0 _ h1 rfl;have h4:val j 0=.int .i64 ns[j]:=by
     exact (λvv (h:RepC w g (.int .i64 ns[j]) vv)=>by cases h;rfl:∀vv,RepC w g (.int .i64 ns[j]) vv->vv=.int .i64 ns[j]) _ (h3.toC rfl)
    simpa[h4]using h2
   have hH:Go.Sort.Holds (Value.int .i64) w b base ns.toArray:=by
    intro j hj;have bE:j<ns.length:=ZT;refine⟨?_,?_⟩
    ·rw[EG cO,nh j bE];simp[getElem!_pos,bE]
    ·simp[World.frozen?,cO]
   subst hn;simp only[Nat.zero_mul,Jbq];refine (hc b base cap ns w hH af (by simp only[LIM]at dz;omega)).mono λe w'=>?_;rintro⟨rfl,nn,os,rfl⟩;have s1:Stp H g w H g (Go.Sort.ahead w nn):=NW hs (w.drawn+nn);have pt:(Go.Sort.ahead w nn).heap[b]? = some (.cells cs T' (0,0)):=cO;have xY:∀i (c:C),((Qc (ns.mergeSort λx y=>decide (x<=y)))[i]? = some [c])->∃x:Int,c=.int .i64 x/\(Go.Sort.putCells (Value.int .i64) base (ns.mergeSort λx y=>decide (x<=y)).toArray cs)[base+i]? = some (.int .i64 x):=by
    intro i c hi;have am:(ns.mergeSort λx y=>decide (x<=y)).length=ns.length:=List.length_mergeSort _;have cj:i<(ns.mergeSort λx y=>decide (x<=y)).length:=by
     rcases Jbj i (ns.mergeSort λx y=>decide (x<=y)).length with h|h
     ·exact h
     ·rw[Jo (by rw[Qb];exact h)]at hi;simp at hi
    refine⟨(ns.mergeSort λx y=>decide (x<=y))[i],?_,?_⟩
    ·simp only[Qc,Jai,Jd cj,Jbn,Jaw,List.cons.injEq,and_true]at hi;exact hi.symm
    ·simp only[Go.Sort.putCells,Array.getElem?_mapIdx];rw[Array.getElem?_eq_getElem ZA];simp only[Jbn,Jaw];rw[if_pos ⟨ZA,by simp only[List.size_toArray];omega⟩];congr 1;simp[getElem!_pos];rw[Jd cj];rfl
   have s2:=OK s1.sat j8 pt (cs':=Go.Sort.putCells (Value.int .i64) base (ns.mergeSort λx y=>decide (x<=y)).toArray cs) (by simp[Go.Sort.putCells])
    (.vec 1 (Qc (ns.mergeSort λx y=>decide (x<=y)))) Zbg (λaR cx=>.inr ⟨b,base,T',_,λi _=>.int .i64 ((ns.mergeSort λx y=>decide (x<=y)).getD i 0),bM,j8,cx,by
      rw[Qb,List.length_mergeSort];simp[Go.Sort.putCells];omega,by rw[Qb,List.length_mergeSort];exact dz,λi row hi=>by
       simp only[Qc,Jai,Option.map_eq_some_iff]at hi;obtain⟨x,_,rfl⟩:=hi;rfl,λi row j c hi hj=>by
       have bN:=hi;simp only[Qc,Jai,Option.map_eq_some_iff]at bN;obtain⟨y,hy,rfl⟩:=bN;have kX:j=0:=by
        rcases Jbd j with h|h
        ·exact h
        ·rw[Jo ZG]at hj;simp at hj
       subst kX;obtain⟨x,hx,he⟩:=xY i _ hi;simp only[C.int.injEq,true_and]at hx;subst hx;simp only[Nat.mul_one,Jbq];rw[he,Ja,hy];rfl,λi row j c hi hj=>by
       have bN:=hi;simp only[Qc,Jai,Option.map_eq_some_iff]at bN;obtain⟨y,hy,rfl⟩:=bN;have kX:j=0:=by
        rcases Jbd j with h|h
        ·exact h
        ·rw[Jo ZG]at hj;simp at hj
       subst kX;simp at hj;subst hj;show RepO _ _ _ _ _ (Value.int .i64 ((ns.mergeSort λx y=>decide (x<=y)).getD i 0));rw[Ja,hy];exact .plain _ _ _ _ (.int _ _)⟩) ZC
   rw[<-Qbl8 pt]at s2;obtain⟨g',s3⟩:=Xn s2.sat os;refine .inl ⟨.tuple #[],.tup [],_,g',rfl,hK _ ⟨by simp[Heap.aE],λm _ hm=>Heap.aj _ _ ZaV⟩,s1.trans (s2.trans s3),?_⟩;exact .tup [] [] rfl ZC
theorem Qbi0 {f:Nat}(hf:fnOk P f=true){k:IntKind}{x r:Int}(hc:∀w,Calls P f #[.int k x] w λe w'=>e=.returned (.int .i64 r)/\w'=w){K:V->Heap->Prop}(hK:K (.c (.int .i64 r)) H) :
  Qv P f [.c (.int k x)] H K:=by
 refine⟨hf,λg w vs hs hl hv=>?_⟩;obtain⟨v,rfl⟩:∃v,vs=[v]:=by
  match vs,hl with
  |[v],_=>exact⟨v,rfl⟩
 have hr:=hv 0 _ v rfl rfl
 cases hr with
 |c _ _ hr=>
  cases hr;refine (hc w).mono λe w'=>?_;rintro⟨rfl,rfl⟩;exact .inl ⟨_,_,H,g,rfl,hK,.refl hs,.c _ _ (.int _ _)⟩
end Go.AE.Y
namespace Go.AE.Y
structure Cmp (ns R:List Int)(k j:Nat):Prop where
 len:R.length=ns.length
 kj:k<j
 jn:j<=ns.length
 asc:(R.take k).Pairwise (· < ·)
 mem:∀x,x∈R.take k↔x∈ns.take j
 same:∀i,j<=i+1->R.getD i 0=ns.getD i 0
variable {ns R:List Int}{k j:Nat}
theorem take_mem {l:List Int}{j:Nat}{x:Int}:x∈l.take j↔∃i,i<j/\i<l.length/\l.getD i 0=x:=by
 constructor
 ·intro h;obtain⟨i,hi,rfl⟩:=Jz.1 h;rw[Jt]at hi;refine⟨i,ZA,ZA,?_⟩;rw[Jad,Ja,Jd ZA];rfl
 ·rintro⟨i,h1,h2,rfl⟩;rw[Ja,Jd h2];exact Jz.2 ⟨i,by rw[Jt];omega,by rw[Jad];rfl⟩
theorem G8 {ns:List Int}(h:ns.Pairwise (·<=·)){a b:Nat}(eH:a<=b)(hb:b<ns.length):ns.getD a 0<=ns.getD b 0:=by
 rcases Jbj a b with h1|h1
 ·have:=J4.1 h a b ZA hb h1;simpa[Ja,hb,show a<ns.length by omega]using this
 ·have:a=b:=ZA
  subst this;exact Int.le_refl _
theorem Cmp.start (hs:ns.Pairwise (·<=·))(ip:0<k)(hk:k<ns.length)(bf:∀i,0<i->i<k->ns.getD i 0≠ns.getD (i-1) 0)(he:ns.getD k 0=ns.getD (k-1) 0):Cmp ns ns k (k+1):=by
 refine⟨rfl,ZA,ZA,?_,λx=>?_,λi _=>rfl⟩
 ·rw[J4];intro a b ha hb eH;rw[Jt]at ha hb;rw[Jad,Jad];have h1:=G8 hs (a:=a) (b:=b-1) ZA ZA;have h2:=G8 hs (a:=b-1) (b:=b) ZA ZA;have h3:=bf b ZA ZA;have e1:ns.getD a 0=ns[a]:=by simp[Ja,show a<ns.length by omega]
  have e2:ns.getD b 0=ns[b]:=by simp[Ja,show b<ns.length by omega]
  rw[e1]at h1;rw[e2]at h2 h3;omega
 ·rw[take_mem,take_mem];constructor
  ·rintro⟨i,h1,h2,h3⟩;exact⟨i,ZA,h2,h3⟩
  ·rintro⟨i,h1,h2,h3⟩;by_cases h:i<k
   ·exact⟨i,h,h2,h3⟩
   ·have:i=k:=ZA;subst this;exact⟨i-1,ZA,ZA,by rw[<-he];exact h3⟩
theorem Cmp.eq (c:Cmp ns R k j)(hj:j<ns.length)(he:ns.getD j 0=ns.getD (j-1) 0):Cmp ns R k (j+1):=by
 have:=c.kj;refine⟨c.len,ZA,ZA,c.asc,λx=>?_,λi hi=>c.same i ZA⟩;rw[c.mem,take_mem,take_mem];constructor
 ·rintro⟨i,h1,h2,h3⟩;exact⟨i,ZA,h2,h3⟩
 ·rintro⟨i,h1,h2,h3⟩;by_cases h:i<j
  ·exact⟨i,h,h2,h3⟩
  ·have:i=j:=ZA
   subst this;exact⟨i-1,ZA,ZA,by rw[<-he];exact h3⟩
theorem Cmp.ne (c:Cmp ns R k j)(hs:ns.Pairwise (·<=·))(hj:j<ns.length)(he:ns.getD j 0≠ns.getD (j-1) 0):Cmp ns (R.set k (ns.getD j 0)) (k+1) (j+1):=by
 have hkj:=c.kj;have ce:k<R.length:=by rw[c.len];omega
 have bP:(R.set k (ns.getD j 0)).take (k+1)=R.take k++[ns.getD j 0]:=by
  rw[Jg (by rw[Jh];exact ce),List.getElem_set_self];congr 1;rw[List.take_set_of_le (Jk _)]
 refine⟨by rw[Jh];exact c.len,ZA,ZA,?_,λx=>?_,λi hi=>?_⟩
 ·rw[bP,Ja7];refine⟨c.asc,ZC,λa ha b hb=>?_⟩;simp at hb;subst hb;obtain⟨i,h1,h2,rfl⟩:=take_mem.1 ((c.mem a).1 ha);have h3:=G8 hs (a:=i) (b:=j-1) ZA ZA;have h4:=G8 hs (a:=j-1) (b:=j) ZA hj;simp only[Ja]at *;omega
 ·rw[bP,Jj,c.mem,take_mem,take_mem];simp only[Jb];constructor
  ·rintro (⟨i,h1,h2,h3⟩|rfl)
   ·exact⟨i,ZA,h2,h3⟩
   ·exact⟨j,ZA,hj,rfl⟩
  ·rintro⟨i,h1,h2,h3⟩;by_cases h:i<j
   ·exact .inl ⟨i,h,h2,h3⟩
   ·have:i=j:=ZA;subst this;exact .inr h3.symm
 ·have:k≠i:=ZA
  rw[<-c.same i ZA];simp[Ja,this]
theorem K8 (hs:ns.Pairwise (·<=·))(bf:∀i,0<i->i<ns.length->ns.getD i 0≠ns.getD (i-1) 0):ns.Pairwise (· < ·):=by
 rw[J4];intro a b ha hb eH;have h1:=G8 hs (a:=a) (b:=b-1) ZA ZA;have h2:=G8 hs (a:=b-1) (b:=b) ZA ZA;have h3:=bf b ZA ZA;have e1:ns.getD a 0=ns[a]:=by simp[Ja,ha]
 have e2:ns.getD b 0=ns[b]:=by simp[Ja,hb]
 rw[e1]at h1;rw[e2]at h2 h3;omega
def srt (ns:List Int):List Int:=ns.mergeSort λx y=>decide (x<=y)
theorem F0 (ns:List Int):(srt ns).length=ns.length:=List.length_mergeSort _
theorem T7 (ns:List Int)(x:Int):x∈srt ns↔x∈ns:=(List.mergeSort_perm ns _).mem_iff
theorem Qbis (ns:List Int):(srt ns).Pairwise (·<=·):=by
 have:=List.pairwise_mergeSort (le:=λx y:Int=>decide (x<=y)) (by simp only[decide_eq_true_eq];omega) (by simp only[Bool.or_eq_true,decide_eq_true_eq];omega) ns;exact this.imp ZC
end Go.AE.Y
namespace Go.Proofs
open Go.Shelf
def Tryz.lays189_ren:Go.Shelf.Ren:=⟨fun|189=>63|125=>109|257=>108|128=>172|129=>173|294=>163|295=>164|296=>165|297=>166|298=>167|299=>168|216=>169|300=>170|301=>171|328=>203|329=>204|330=>205|331=>206|332=>207|215=>208|343=>226|n=>n,fun|28=>35|3=>3|46=>118|0=>0|51=>178|53=>180|4=>4|183=>172|182=>171|131=>115|5=>5|9=>9|218=>218|222=>222|228=>234|229=>235|n=>n,fun|n=>n⟩
theorem Tryz.lays189:Go.Proofs.Lays.n189 Tryz.prog Tryz.lays189_ren:={
 mixed:=by kernel_rfl
 f125:=Tryz.func109.trans (congrArg some (by kernel_rfl))
 f128:=Tryz.func172.trans (congrArg some (by kernel_rfl))
 f129:=Tryz.func173.trans (congrArg some (by kernel_rfl))
 f189:=Tryz.func63.trans (congrArg some (by kernel_rfl))
 f215:=Tryz.func208.trans (congrArg some (by kernel_rfl))
 f216:=Tryz.func169.trans (congrArg some (by kernel_rfl))
 f257:=Tryz.func108.trans (congrArg some (by kernel_rfl))
 f294:=Tryz.func163.trans (congrArg some (by kernel_rfl))
 f295:=Tryz.func164.trans (congrArg some (by kernel_rfl))
 f296:=Tryz.func165.trans (congrArg some (by kernel_rfl))
 f297:=Tryz.func166.trans (congrArg some (by kernel_rfl))
 f298:=Tryz.func167.trans (congrArg some (by kernel_rfl))
 f299:=Tryz.func168.trans (congrArg some (by kernel_rfl))
 f300:=Tryz.func170.trans (congrArg some (by kernel_rfl))
 f301:=Tryz.func171.trans (congrArg some (by kernel_rfl))
 f328:=Tryz.func203.trans (congrArg some (by kernel_rfl))
 f329:=Tryz.func204.trans (congrArg some (by kernel_rfl))
 f330:=Tryz.func205.trans (congrArg some (by kernel_rfl))
 f331:=Tryz.func206.trans (congrArg some (by kernel_rfl))
 f332:=Tryz.func207.trans (congrArg some (by kernel_rfl))
 f343:=Tryz.func226.trans (congrArg some (by kernel_rfl))
 t0:=Tryz.underlying0
 a0:=Tryz.isAgg0
 z0:=Tryz.sizeOf0
 v0:=Tryz.zeroValue0
 t3:=Tryz.underlying3
 a3:=Tryz.isAgg3
 z3:=Tryz.sizeOf3
 v3:=Tryz.zeroValue3
 t4:=Tryz.underlying4
 a4:=Tryz.isAgg4
 z4:=Tryz.sizeOf4
 v4:=Tryz.zeroValue4
 t5:=Tryz.underlying5
 a5:=Tryz.isAgg5
 z5:=Tryz.sizeOf5
 v5:=Tryz.zeroValue5
 t9:=Tryz.underlying9
 a9:=Tryz.isAgg9
 z9:=Tryz.sizeOf9
 v9:=Tryz.zeroValue9
 t28:=Tryz.underlying35
 a28:=Tryz.isAgg35
 z28:=Tryz.sizeOf35
 v28:=Tryz.zeroValue35
 t46:=Tryz.underlying118
 a46:=Tryz.isAgg118
 z46:=Tryz.sizeOf118
 v46:=Tryz.zeroValue118
 t51:=Tryz.underlying178
 a51:=Tryz.isAgg178
 z51:=Tryz.sizeOf178
 v51:=Tryz.zeroValue178
 t53:=Tryz.underlying180
 a53:=Tryz.isAgg180
 z53:=Tryz.sizeOf180
 v53:=Tryz.zeroValue180
 t131:=Tryz.underlying115
 a131:=Tryz.isAgg115
 z131:=Tryz.sizeOf115
 v131:=Tryz.zeroValue115
 t182:=Tryz.underlying171
 a182:=Tryz.isAgg171
 z182:=Tryz.sizeOf171
 v182:=Tryz.zeroValue171
 t183:=Tryz.underlying172
 a183:=Tryz.isAgg172
 z183:=Tryz.sizeOf172
 v183:=Tryz.zeroValue172
 t218:=Tryz.underlying218
 a218:=Tryz.isAgg218
 z218:=Tryz.sizeOf218
 v218:=Tryz.zeroValue218
 t222:=Tryz.underlying222
 a222:=Tryz.isAgg222
 z222:=Tryz.sizeOf222
 v222:=Tryz.zeroValue222
 t228:=Tryz.underlying234
 a228:=Tryz.isAgg234
 z228:=Tryz.sizeOf234
 v228:=Tryz.zeroValue234
 t229:=Tryz.underlying235
 a229:=Tryz.isAgg235
 z229:=Tryz.sizeOf235
 v229:=Tryz.zeroValue235 }
end Go.Proofs
namespace Go.AE.Y
open Go.Proofs.Tryz
variable {H H0:Heap}{K:Uk}{E B Lg:Ul}
theorem Qbi5 {x:Int}(h0:0<=x)(h1:x<=18446744073709551615)(hK:∀n:Int,K (Uv n) H):Qv prog Qa4u [.c (.int .u64 x)] H K:=
 Qbi0 ZE (λw=>calls_of_every_depth λD=>Go.Proofs.AnyS.bits_LenIn (ρ:=lays189_ren) { lays189 with } D x w h0 h1) (hK _)
theorem Ta {c:C}(bt:c.ah=false)(hK:K (.tup []) H):Qv prog Qce [.c c,Uv 0,Uv 0] H K:=by
 refine Qd A6 Qh6 ?_;refine Za ?_;refine⟨Qr,?_⟩;refine Qe (Qx (λm e1 H1=>H1=H/\e1=[(0,.c c),(1,Uv 0),(2,Uv 0),(6,Uv 1)]) 0 ⟨rfl,rfl⟩ ?_);rintro m e1 H1 ⟨rfl,rfl⟩;refine Wa ?_;refine Qh (Qf rfl (λh=>ZH) λ_=>?_);refine Qu ?_;simp only[go_sem,X.next,Q7,A5,By,Jan];exact⟨λ_=>trivial,hK⟩
theorem SG {c:C}{l:Int}(bt:c.ah=false)(hK:K (.tup []) H):Qv prog Qe7 [.c c,Uv 0,Uv 0,Uv l] H K:=by
 refine Qd A6 Qv5 ?_;refine Wd ?_;refine Qe (Qx (λm e1 H1=>H1=H/\e1=[(0,.c c),(1,Uv 0),(2,Uv 0),(3,Uv l),(8,.c (.bool true)),(9,.c (.bool true))]) 0 ⟨rfl,rfl⟩ ?_);rintro m e1 H1 ⟨rfl,rfl⟩;refine Wt ?_;refine⟨Qr,?_⟩;refine Wa ?_;refine Qh (Qf rfl (λ_=>?_) (λh=>ZH));refine Za ?_;refine Ta bt ?_;simp only[FJ];refine Qk ?_;simp only[go_sem,X.next,Q7,A5,By,Jan];exact⟨λ_=>trivial,hK⟩
theorem VU {c:C}(aw:aW H c)(hl:ax c=0)(bt:c.ah=false)(hK:K (.tup []) H):Qv prog Q02 [.c c] H K:=by
 have aw:=eq_true aw;refine Qd A6 Qblu ?_;refine Zn aw hl ?_;have e0:((0:Nat):Int)=0:=rfl;refine Qq ?_;simp only[go_sem,e0];refine⟨⟨ZN,ZN⟩,?_⟩;refine Qbi5 ZA ZA λn=>?_;simp only[go_sem,Q6h];refine SG bt ?_;simp only[go_sem,Q7,A5,By,Jan];exact⟨λ_=>trivial,hK⟩
theorem Tn {c:C}{ns:List Int}(kn:Kn H0 H E (B++Lg))(ay:Gr Lg 1 (Qc ns) c)
  (hK:∀Lg' H',Gr Lg' 1 (Qc (srt ns)) c->Kn H0 H' E (B++Lg')->K (.tup []) H'):Qv prog Q02 [.c c] H K:=by
 by_cases h0:ns=[]
 ·subst h0;refine VU (ay.aW kn) (by rw[ay.ax];rfl) ay.ah (hK Lg H ?_ kn);have:srt []=[]:=by simp[srt]
  rw[this];exact ay
 ·rcases ay with ⟨_,h,_⟩|⟨y,rfl,rfl⟩
  ·cases ns with
   |nil=>exact absurd rfl h0
   |cons a b=>simp[Qc]at h
  ·have hy:=kn.l B.length (l:=y) (o:=.vec 1 (Qc ns)) ZC;have lR:0<ns.length:=List.length_pos_iff.2 h0;refine Qbew ZE (λblk off cap zs w h1 h2 h3=>Go.Proofs.Any.slices_Sort_int lays189 blk off cap zs w h1 h2 h3) hy (by rw[Qb]) (by rw[Qb];exact lR) λH' hu=>?_;refine hK [(y,.vec 1 (Qc (srt ns)))] H' (.inr ⟨y,by rw[Qb,Qb,F0],rfl⟩) ?_;have:=kn.callL B.length (l:=y) (o:=.vec 1 (Qc ns)) ZC hu ZC;simpa[srt]using this
def Sd (ks:List Nat):List (C×V):=ks.map λk:Nat=>(.int .i64 (k:Int),.c (.bool true))
def Gw (Lg:List (Nat×Obj))(sz:Nat)(rows:List (List C))(c:C):Prop:=
 (c=.sl true sz []/\rows=[]/\Lg=[])\/∃y R,c=.ai y sz 0 rows.length/\Lg=[(y,.vec sz R)]/\R.take rows.length=rows
end Go.AE.Y
namespace Go.AE
open Go.AE.Y
open Go.Proofs.Tryz
variable {H H0:Heap}{K:Uk}{E B Lg:Ul}
theorem Gr.gw {sz:Nat}{rows:List (List C)}{c:C}(h:Gr Lg sz rows c):Gw Lg sz rows c:=by
 rcases h with h|⟨y,h1,h2⟩
 ·exact .inl h
 ·exact .inr ⟨y,rows,h1,h2,Jbk⟩
end Go.AE
namespace Go.AE.Y
open Go.Proofs.Tryz
variable {H H0:Heap}{K:Uk}{E B Lg:Ul}
theorem Gw.ah {sz:Nat}{rows:List (List C)}{c:C}(h:Gw Lg sz rows c):c.ah=false:=by rcases h with ⟨rfl,_⟩|⟨y,R,rfl,_⟩ <;> rfl
theorem Gw.frz {ns:List Int}{c:C}(h:Gw Lg 1 (Qc ns) c)(kn:Kn H0 H E (B++Lg)):FrzC H (un H0) c (.sl false 1 (Qc ns)):=by
 rcases h with ⟨rfl,h2,_⟩|⟨y,R,rfl,rfl,hR⟩
 ·rw[h2];exact FrzR.nil.sl
 ·have aR:(Qc ns).length<=R.length:=by
   have:=congrArg List.length hR;rw[Jt]at this;omega
  have h:=FrzR.same (H:=H) (S:=un H0) (Qw ns);exact .ai y 1 0 _ R (Qc ns) (Qc ns) (C5 (kn.loc (y,.vec 1 R) ZC)) (kn.get (y,.vec 1 R) ZC).1 ZA (by simpa using hR.symm) h.spec.1 (λi r r' h1 h2=>(h.spec.2 i r r' h1 h2).spec.1) λi r r' j c c' h1 h2 h3 h4=>(h.spec.2 i r r' h1 h2).spec.2 j c c' h3 h4
theorem Ev {fl:Bool}{ns:List Int}{L:Ul}(kn:Kn H0 H E L)(hl:ns.length<=LIM)(hK:∀t Lg H',Gr Lg 1 (Qc ns) t->t.ah=false->Kn H0 H' E (L++Lg)->K (.c t) H') :
  Qv prog N9 [.c (.sl fl 1 (Qc ns))] H K:=by
 refine Qd A6 Qbf0 ?_;refine Wh ?_;intro b hb;refine Wu ?_ ?_
 ·intro oq;have hn:=hb oq;refine Za ?_;refine Ze ?_;refine hK _ [] H ?_ rfl ZL;rw[hn];exact .nil 1
 ·intro rP;refine Zc ?_;refine Qa ?_;simp only[go_sem,Qb];refine⟨.inl trivial,Qw _,ZA,λz hz H1 h1=>?_⟩;have kn:=kn.al hz h1;simp only[go_sem,Q0l];refine Ze ?_;exact hK _ _ H1 (.mk z 1 _ Zab) rfl kn
theorem Qbfb (ns:List Int)(i:Nat)(x:Int):(Qc ns).set i [Ui x]=Qc (ns.set i x):=by simp[Qc,Jal]
theorem Qa4z (ns:List Int)(k:Nat):(Qc ns).take k=Qc (ns.take k):=by simp[Qc,Jbb]
theorem Qbiw {c:C}{ns:List Int}(kn:Kn H0 H E (B++Lg))(ay:Gr Lg 1 (Qc ns) c)(hs:ns.Pairwise (·<=·))(hL:ns.length<=2 ^ 38)
  (hK:∀t Lg' ns' H',Gw Lg' 1 (Qc ns') t->t.ah=false->Kn H0 H' E (B++Lg')->ns'.Pairwise (· < ·)->(∀x,x∈ns'↔x∈ns)->ns'.length<=ns.length->K (.c t) H') :
  Qv prog Qx2 [.c c] H K:=by
 have bt:=ay.ah;have aw:=eq_true (ay.aW kn);have am:=ay.ax;have cL:=ay.rowsOf kn;have bj:=ay.aO;refine Qd A6 Qaw4 ?_;refine Wg ?_;simp only[go_sem,aw,am,Qb];intro _;refine Wu ?_ ?_
 ·intro hc;have h2:ns.length<2:=by have:=of_decide_eq_true hc;omega
  refine Za ?_;refine Ze ?_;exact hK c Lg ns H ay.gw bt kn (K8 hs λi h0 hi=>ZA) (λ_=>Iff.rfl) (Jk _)
 ·intro hc;have h2:2<=ns.length:=by have:=of_decide_eq_false hc;omega
  obtain⟨z,rfl,rfl⟩:∃z,c=.ai z 1 0 ns.length/\Lg=[(z,.vec 1 (Qc ns))]:=by
   rcases ay with ⟨_,h,_⟩|⟨y,h1,h2⟩
   ·have:ns.length=0:=(by rw[<-Qb,h];rfl);omega
   ·exact⟨y,by rw[h1,Qb],h2⟩
  have hz:=kn.l B.length (l:=z) (o:=.vec 1 (Qc ns)) ZC;refine Zc ?_;refine Wa ?_;refine Qh (Qe (Qx (λm e1 H1=>∃(k:Nat),m=ns.length-k/\0<k/\k<=ns.length/\H1=H/\(∀i,0<i->i<k->ns.getD i 0≠ns.getD (i-1) 0)/\e1=[(0,.c (.ai z 1 0 ns.length)),(3,Uv k)]) (ns.length-1) ?_ ?_))
  ·exact⟨1,rfl,ZA,ZA,rfl,λi h0 h1=>ZA,rfl⟩
  ·rintro m e1 H1 ⟨k,hm,ip,hk,rfl,bf,rfl⟩;refine Q1 (Qa ?_);simp only[go_sem,hz,Qb,Jm,Jk];intro dz;simp only[LIM]at dz;refine Wu ?_ ?_
   ·intro a7;have af:k<ns.length:=ZF;have tx:k-1<ns.length:=ZA;have e1:((k:Int)-1)=((k-1:Nat):Int):=ZA;have bP:(Qc ns).take ns.length=Qc ns:=Jc (by rw[Qb];exact Jk _);refine Wj ?_;refine AC ?_;simp only[go_sem,hz,e1,af,tx,bP,Qb,Qo _ _ af,Qo _ _ tx,Jm,Jk];refine⟨Qr,?_⟩;refine Wv ?_ ?_
    ·intro bn;have iu:ns.getD k 0=ns.getD (k-1) 0:=ZR;refine Qa ?_;simp only[go_sem,hz,Qb,Jm,Jk];refine⟨ZA,?_⟩;refine Wa ?_;refine Qh (Qe (Qx (λm e1 H2=>∃(j kk:Nat) (R:List Int),m=ns.length-j/\k<j/\j<=ns.length/\Cmp ns R kk j/\Kn H0 H2 E (B++[(z,.vec 1 (Qc R))])/\
      e1=[(0,.c (.ai z 1 0 ns.length)),(3,Uv kk),(4,.c (.ai z 1 k (ns.length-k))),(5,Uv ((j-k:Nat):Int))]) (ns.length-(k+1)) ?_ ?_))
     ·refine⟨k+1,k,ns,rfl,ZA,ZA,.start hs ip af bf iu,kn,?_⟩;have:k+1-k=1:=ZA;rw[this];rfl
     ·rintro m2 e1 H2 ⟨j,kk,R,eW,hkj,hj,jZ,kn,rfl⟩;have hz:=kn.l B.length (l:=z) (o:=.vec 1 (Qc R)) ZC;have gS:=jZ.len;have hkkj:=jZ.kj;refine Q1 (Qa ?_);have e3:k+(ns.length-k)=ns.length:=ZA;simp only[go_sem,hz,Qb,gS,e3,Jk];intro _;refine Wu ?_ ?_
      ·intro dc;have dq:j<ns.length:=(by have:=of_decide_eq_true dc;omega);have hjR:j<R.length:=ZA;have xD:j-1<R.length:=ZA;have pb:j-k<ns.length-k:=ZA;have tI:j-k-1<ns.length-k:=ZA;have e4:(((j-k:Nat):Int)-1)=((j-k-1:Nat):Int):=ZA;have ib:(((Qc R).drop k).take (ns.length-k)).getD (j-k) []=[Ui (ns.getD j 0)]:=by
        rw[<-jZ.same j ZA,<-Qo _ _ hjR];simp only[Ja,Jba,Ja9];rw[if_pos pb];have:k+(j-k)=j:=ZA;rw[this]
       have f9:(((Qc R).drop k).take (ns.length-k)).getD (j-k-1) []=[Ui (ns.getD (j-1) 0)]:=by
        rw[<-jZ.same (j-1) ZA,<-Qo _ _ xD];simp only[Ja,Jba,Ja9];rw[if_pos tI];have:k+(j-k-1)=j-1:=ZA;rw[this]
       refine Zc ?_;refine Bk (λe2 H3=>∃(kk:Nat) (R:List Int),Cmp ns R kk (j+1)/\Kn H0 H3 E (B++[(z,.vec 1 (Qc R))])/\
        lk 0 e2=.c (.ai z 1 0 ns.length)/\lk 3 e2=Uv kk/\lk 4 e2=.c (.ai z 1 k (ns.length-k))/\lk 5 e2=Uv ((j-k:Nat):Int)) ?_ ?_
       ·intro Q bH _ _;refine Qe (AC ?_);simp only[go_sem,hz,e3,e4,ib,f9,pb,tI,Qb,gS,Jk];refine⟨Qr,?_⟩;refine Wv ?_ ?_
        ·intro eU;have wU:ns.getD j 0≠ns.getD (j-1) 0:=(by simpa using eU);have tF:kk<ns.length:=ZA;have xu:kk<R.length:=ZA;have bP:(Qc R).take ns.length=Qc R:=Jc Zab;refine Qa ?_;simp only[go_sem,hz,e3,ib,pb,tF,Qo _ _ xu,Qbfb,Qb,gS,Jm,Jk];intro H3 h3;have kn3:=kn.aA B.length (x:=z) (o:=.vec 1 (Qc R)) ZC h3;have kn:Kn H0 H3 E (B++[(z,.vec 1 (Qc (R.set kk (ns.getD j 0))))]):=(by simpa using kn3);refine Zh ?_;refine⟨Qr,?_⟩;exact bH _ _ ⟨kk+1,_,jZ.ne hs dq wU,kn,rfl,rfl,rfl,rfl⟩
        ·intro eU;have xX:ns.getD j 0=ns.getD (j-1) 0:=(by simpa using eU);refine Zc ?_;exact bH _ _ ⟨kk,R,jZ.eq dq xX,kn,rfl,rfl,rfl,rfl⟩
       ·rintro e2 H3 ⟨kk,R,jZ,kn,l0,l3,l4,l5⟩;refine Qq ?_;simp only[go_sem,X.next,l0,l3,l4,l5];refine⟨Qr,ns.length-(j+1),ZA,j+1,kk,R,rfl,ZA,ZA,jZ,kn,?_⟩;have:(((j-k:Nat):Int)+1)=((j+1-k:Nat):Int):=ZA;rw[this]
      ·intro dc;have nU:j=ns.length:=(by have:=of_decide_eq_false dc;omega);subst nU;have tF:kk<=R.length:=ZA;refine Zb ?_;refine Qa ?_;have e5:kk+(ns.length-kk)=ns.length:=ZA;simp only[go_sem,hz,e5,Qb,gS,Jm,Jk];refine⟨ZA,λH3 h3=>?_⟩;have kn3:=kn.aA B.length (x:=z) (o:=.vec 1 (Qc R)) ZC h3;have gm:((Qc R).take kk++List.replicate (ns.length-kk) [C.int .i64 0]++(Qc R).drop ns.length).take kk=Qc (R.take kk):=by
        rw[Jav,List.take_append_of_le_length (by rw[Jt,Qb];omega),List.take_take,Nat.min_self,Qa4z]
       have mg:ns.length<=((Qc R).take kk++List.replicate (ns.length-kk) [C.int .i64 0]++(Qc R).drop ns.length).length:=by
        simp only[Jaa,Jt,Je,Jam,Qb];omega
       generalize (Qc R).take kk++List.replicate (ns.length-kk) [C.int .i64 0]++(Qc R).drop ns.length=R2 at *;have kn:Kn H0 H3 E (B++[(z,.vec 1 R2)]):=(by simpa using kn3);have vk:=kn.l B.length (l:=z) (o:=.vec 1 R2) ZC;refine Qa ?_;simp only[go_sem,vk,mg,Jm,Nat.sub_zero];refine⟨ZA,?_⟩;refine Zo ?_;have dB:(Qc (R.take kk)).length=kk:=(by rw[Qb,Jt];omega);refine hK (.ai z 1 0 kk) _ (R.take kk) H3 (.inr ⟨z,R2,?_,rfl,?_⟩) rfl kn jZ.asc (λx=>?_) (by rw[Jt];omega)
       ·rw[dB]
       ·rw[dB];exact gm
       ·rw[jZ.mem,Jbk]
    ·intro bn;have wT:¬ns.getD k 0=ns.getD (k-1) 0:=ZR;refine Wi ?_;refine⟨Qr,ns.length-(k+1),ZA,k+1,rfl,ZA,ZA,λi h0 h1=>?_,rfl⟩;by_cases h:i<k
     ·exact bf i h0 h
     ·have:i=k:=ZA;subst this;exact wT
   ·intro a7;have bp:ns.length<=k:=ZF;refine Wo ?_;exact hK _ _ ns H1 ay.gw rfl kn (K8 hs λi h0 hi=>bf i h0 ZA) (λ_=>Iff.rfl) (Jk _)
theorem HE {fl:Bool}{ns:List Int}(hL:ns.length<=2 ^ 38)(hK:∀ns' H',Upd H H' []->ns'.Pairwise (· < ·)->(∀x,x∈ns'↔x∈ns)->ns'.length<=ns.length->K (.c (.sl false 1 (Qc ns'))) H') :
  Qv prog LD [.c (.sl fl 1 (Qc ns))] H K:=by
 refine Qz ?_;refine Qd A6 Qbk2 ?_;refine Wd ?_;refine Ev (Kn.ao H) ZY λt Lg H1 ay bt kn=>?_;simp only[go_sem,CQ];refine Za ?_;refine Tn kn ay λLg H2 ay kn=>?_;refine Za ?_;refine Qbiw kn ay (Qbis ns) (by rw[F0];exact hL) λt2 Lg2 ns' H3 xN how2 kn h1 h2 h3=>?_;simp only[go_sem,P0];refine Ze ?_;exact⟨_,.c _ _ (xN.frz kn),hK ns' _ kn.fin h1 (λx=>by rw[h2,T7]) (by rw[F0]at h3;exact h3)⟩
noncomputable def CR (n:Nat)(nx:Nat->List Int):List Nat:=if Bn n nx then (List.range n).filter (AW (nxN nx) (-1))else []
theorem Qa4m {p rg:Int}{bc:C}{rows:List (List C)}{nx:Nat->List Int}(hg:GRd H bc rows nx)(hn:rows.length<=1000000)
  (hK:∀H',Upd H H' []->K (.c (.sl false 1 (AA (CR rows.length nx)))) H') :
  Qv prog Qnx [.ag [Ui p,Ui rg,bc]] H K:=by
 have bt:=hg.ow;refine Qz ?_;refine Qd A6 Qain ?_;refine Wg ?_;simp only[go_sem,bt];refine Qbjs hg ?_;simp only[go_sem,OG];refine Qh (Qf rfl (λhc=>?_) (λhc=>?_))
 ·have hf:=BM hc;refine Za ?_;refine Ze ?_;have:=hK _ (Kn.ao H).fin;simp only[CR,hf]at this;exact⟨_,.c _ _ FrzR.nil.sl,this⟩
 ·have hf:=Bi hc;have cd:=ER hf;refine Zc ?_;refine Zi bt ?_;refine XI hg hf hn λS o H1 hu hd=>?_;have kn:=(Kn.ao H).au hu;simp only[go_sem,Qi4];have d9:∀x,x<(List.replicate rows.length false).length->∀y∈nxN nx x,y<(List.replicate rows.length false).length:=by
   rw[Je];exact λx hx y hy=>D6 hf hx hy
  have kT:∀x∈[0],x<(List.replicate rows.length false).length:=Zaz
  have rh:=hd.count d9 kT;have dg:cnt (List.replicate rows.length false)=0:=by simp[cnt,List.count_replicate]
  have cA:=EH S;have rS:=hd.len;rw[Je]at rS;have ev:o.length<=1000000:=by simp only[Jq]at rh;omega
  refine HE (ns:=o.map Int.ofNat) (by rw[J6];omega) λns' H2 hu h1 h2 h3=>?_;have kn:=kn.au hu;simp only[go_sem,Qi3];refine Ze ?_;have he:ns'=(CR rows.length nx).map Int.ofNat:=by
   simp only[CR,hf,if_pos];refine Qbow h1 (Ja5 _ Ja1) λx=>?_;rw[h2];have bZ:∀y,y∈o↔y<rows.length/\AW (nxN nx) (-1) y=true:=by
    intro y;rw[hd.list d9 kT (Dg _) y,hd.seen d9 kT y];rw[Dg];simp only[Jat,false_or,Jb,exists_eq_left,rchB_iff];constructor
    ·intro hr;have f9:=hr.mono (B:=λz=>(z:Int)=-1) (λz hz=>ZA);exact⟨f9.lt (λx hx y hy=>D6 hf hx hy) cd,f9⟩
    ·intro hr;exact hr.2.mono λz hz=>by rw[Dg]at hz;simp at hz
   constructor
   ·intro hx;obtain⟨y,hy,rfl⟩:=Js.1 hx;obtain⟨h1,h2⟩:=(bZ y).1 hy;exact⟨y,Jaq.2 ⟨J0.2 h1,h2⟩,rfl⟩
   ·rintro⟨y,hy,rfl⟩;obtain⟨h1,h2⟩:=Jaq.1 hy;exact Js.2 ⟨y,(bZ y).2 ⟨J0.1 h1,h2⟩,rfl⟩
  have:=hK _ kn.fin;rw[AA,<-he]at this;exact⟨_,.c _ _ (Es (noOw_mem (Qw _))),this⟩
theorem Q9y {n:Nat}{S:List Bool}{f:Nat->Bool}(hl:S.length=n)(h:∀x,x<n->S.getD x false=f x):S=(List.range n).map f:=by
 refine List.ext_getElem Za0 λi h1 h2=>?_;have hi:i<n:=by rw[<-hl];exact h1
 have:=h i hi;simp only[Ja,Jd h1,Jag]at this;simp[this]
theorem LY {n:Nat}{nx:Nat->List Int}{S:List Bool}{o:List Nat}(hf:Bn n nx=true)(hd:Dfs (nxN nx) [0] (List.replicate n false) [] S o):S=inL n (nxN nx):=by
 have cd:=ER hf;have d9:∀x,x<(List.replicate n false).length->∀y∈nxN nx x,y<(List.replicate n false).length:=by
  rw[Je];exact λx hx y hy=>D6 hf hx hy
 have kT:∀x∈[0],x<(List.replicate n false).length:=Zaz
 have hl:=hd.len;rw[Je]at hl;refine Q9y hl λx hx=>?_;have hs:=hd.seen d9 kT x;rw[Dg]at hs;simp only[Jat,false_or,Jb,exists_eq_left]at hs;rw[Jbl,hs,rchB_iff];exact⟨λhr=>hr.mono λz hz=>ZA,λhr=>hr.mono λz hz=>by rw[Dg]at hz;simp at hz⟩
theorem Qan2 {n:Nat}{nx:Nat->List Int}{S:List Bool}{o:List Nat}{a:Nat}(hf:Bn n nx=true)(ha:a<n)(hd:Dfs (nxN nx) [0] ((List.replicate n false).set a true) [] S o) :
  S.set a false=(List.range n).map (AW (nxN nx) a):=by
 have cd:=ER hf;have d9:∀x,x<((List.replicate n false).set a true).length->∀y∈nxN nx x,y<((List.replicate n false).set a true).length:=by
  rw[Jh,Je];exact λx hx y hy=>D6 hf hx hy
 have kT:∀x∈[0],x<((List.replicate n false).set a true).length:=by rw[Jh,Je];simpa using cd
 have hl:=hd.len;rw[Jh,Je]at hl;refine Q9y (by rw[Jh];exact hl) λx hx=>?_;have wi:∀z,((List.replicate n false).set a true).getD z false=true↔z=a:=by
  intro z;rw[EO,Je,Dg];by_cases hz:z=a
  ·simp[hz,ha]
  ·simp[hz]
 have bK:(S.set a false).getD x false=if x=a then false else S.getD x false:=by
  simp only[Ja,J5];by_cases mS:a=x
  ·subst mS;simp[hl,ha]
  ·have:¬x=a:=λh=>mS h.symm;simp[mS,this]
 rw[bK];by_cases mS:x=a
 ·subst mS;rw[if_pos rfl,Kf]
 ·rw[if_neg mS,Jbl,hd.seen d9 kT x,wi,rchB_iff];simp only[mS,false_or,Jb,exists_eq_left];exact⟨λhr=>hr.mono λz hz=>(wi z).2 ZA,λhr=>hr.mono λz hz=>by have:=(wi z).1 hz;omega⟩
theorem XH {n:Nat}{g:Nat->List Nat}:((List.replicate n false).set 0 true).set 0 false=(List.range n).map (AW g (0:Nat)):=by
 refine Q9y ZC λx hx=>?_;have:AW g ((0:Nat):Int) x=false:=by
  cases hc:AW g ((0:Nat):Int) x with
  |false=>rfl
  |true=>exact absurd rfl (rchB_iff.1 hc).fst
 rw[this,Jbp];have:(List.replicate n false).set 0 false=List.replicate n false:=by
  cases n with
  |zero=>rfl
  |succ n=>rfl
 rw[this,Dg]
theorem Kl {p rg:Int}{fl:Bool}{rows:List (List C)}{nx:Nat->List Int}(hg:GF rows nx)(hf:Bn rows.length nx=true)
  (hK:∀H',Upd H H' []->K (.c (.sl false 1 (ovOf rows.length (nxN nx) rows.length))) H') :
  Qv prog L6 [.ag [Ui p,Ui rg,.sl fl 5 rows]] H K:=by
 have hn:=hg.n;have cd:=ER hf;have cP:∀(y:Nat) l a b d,C.sl fl 5 rows=.ai l a b d->l≠y:=by intro y l a b d h;cases h
 refine Qz ?_;refine Qd A6 Qbk9 ?_;refine Wd ?_;intro _;refine Wk ?_;simp only[go_sem,FV];refine⟨by simp only[LIM];omega,λal dD H1 h1=>?_⟩;have kn:Kn H H1 [] ([(al,.vec 1 (Qs (List.replicate rows.length false)))]++[]):=(Kn.ao H).al dD h1;simp only[go_sem,Q34];refine Za ?_;refine Q05 (F:=H1) hf ZA (hg.grd H1 fl) (cP al) rows.length 0 (List.replicate rows.length false) [] (.sl true 1 []) [] H1 _ ZC ZA cd (Dg _ _) kn.mid (.nil 1) ZC λS o oc Lg0 H2 hd k2 _=>?_;have kn:Kn H H2 [] [(al,.vec 1 (Qs (inL rows.length (nxN nx))))]:=by
  have:=(kn.comp k2 rfl).drop;rw[LY hf hd]at this;exact this
 refine Wa ?_;refine Qh (Qe (Qx (λm e1 H1=>∃(ys:List Nat) (oc:C) (Lg:Ul),m=rows.length-ys.length/\ys.length<=rows.length/\Gr Lg 1 (ysR rows.length ys) oc/\
  Kn H H1 [] (([(al,.vec 1 (Qs (inL rows.length (nxN nx))))]++ysL rows.length (nxN nx) ys)++Lg)/\
  e1=[(1,.c (.pp [Ui p,Ui rg,.sl fl 5 rows])),(3,.c (Ui rows.length)),(4,.c oc),(5,.c (.ai al 1 0 rows.length)),(6,.c (Ui ys.length))]) rows.length ?_ ?_))
 ·exact⟨[],_,[],ZC,ZC,.nil 1,kn,rfl⟩
 ·rintro m e1 H3 ⟨ys,oc,Lg,hm,hi,ay,kn,rfl⟩;have hoc:=ay.ah;refine Wa ?_;refine Wu ?_ ?_
  ·intro hc;have af:ys.length<rows.length:=ZD
   have xh:ys.length<(inL rows.length (nxN nx)).length:=by rw[Er];exact af
   refine Zc ?_;refine Bk (λe2 H4=>∃(oc:C) (Lg:Ul) (y:Nat),Gr Lg 1 (ysR rows.length (ys++[y])) oc/\
    Kn H H4 [] (([(al,.vec 1 (Qs (inL rows.length (nxN nx))))]++ysL rows.length (nxN nx) (ys++[y]))++Lg)/\
    lk 1 e2=.c (.pp [Ui p,Ui rg,.sl fl 5 rows])/\lk 3 e2=.c (Ui rows.length)/\lk 4 e2=.c oc/\lk 5 e2=.c (.ai al 1 0 rows.length)/\lk 6 e2=.c (Ui ys.length)) ?_ ?_
   ·intro Q bH _ _;refine Qe (Qa ?_);simp only[go_sem,FV];refine⟨by simp only[LIM];omega,λy2 kP H4 h4=>?_⟩;have kn:Kn H H4 [] ([(y2,.vec 1 (Qs (List.replicate rows.length false)))]++([(al,.vec 1 (Qs (inL rows.length (nxN nx))))]++(ysL rows.length (nxN nx) ys++Lg))):=
     (kn.al kP h4).perm (Qj λf hf h0 hc hp=>by simp only[Ui,hf];omega)
    have hy:=kn.l 0 rfl;have bR:ys.length<(List.replicate rows.length false).length:=(by rw[Je];exact af);simp only[go_sem,P3];refine Qa ?_;have qd:∀(S:List Bool),S.length=rows.length->(Qs S).take rows.length=Qs S:=λS h=>Jc Zan;simp only[go_sem,hy,af,Q0,Je,Q6 _ _ bR,Df,Jm,Jk];intro H5 h5;have kn:Kn H H5 [] ([(y2,.vec 1 (Qs ((List.replicate rows.length false).set ys.length true)))]++([(al,.vec 1 (Qs (inL rows.length (nxN nx))))]++(ysL rows.length (nxN nx) ys++Lg))):=kn.aA 0 rfl h5;refine Wa ?_;have rest:∀(e:Env) (H6:Heap),lk 1 e=.c (.pp [Ui p,Ui rg,.sl fl 5 rows])->lk 3 e=.c (Ui rows.length)->lk 4 e=.c oc->lk 5 e=.c (.ai al 1 0 rows.length)->lk 6 e=.c (Ui ys.length)->lk 7 e=.c (.ai y2 1 0 rows.length)->
      Kn H H6 [] ([(y2,.vec 1 (Qs ((List.range rows.length).map (AW (nxN nx) ys.length))))]++([(al,.vec 1 (Qs (inL rows.length (nxN nx))))]++(ysL rows.length (nxN nx) ys++Lg)))->
      A9 prog Q33 Q e H6:=by
     intro e H6 l1 l3 l4 l5 l6 l7 kn;refine Qa ?_;simp only[go_sem,l3,FV];refine⟨by simp only[LIM];omega,λy3 sh H7 h7=>?_⟩;have kn:Kn H H7 [] ([(y3,.vec 1 (Qs (List.replicate rows.length false)))]++([(y2,.vec 1 (Qs ((List.range rows.length).map (AW (nxN nx) ys.length))))]++([(al,.vec 1 (Qs (inL rows.length (nxN nx))))]++(ysL rows.length (nxN nx) ys++Lg)))):=
      (kn.al sh h7).perm (Qj λf hf h0 hc hp=>by simp only[Ui,hf];omega)
     simp only[go_sem,Q36,l1,l3,l4,l5,l6,l7];refine Wa ?_;refine Qh (Qe (Qx (λm e1 H1=>∃b:Nat,m=rows.length-b/\b<=rows.length/\
      Kn H H1 [] ([(y3,.vec 1 (Qs ((List.range b).map (Br (nxN nx) ys.length)++List.replicate (rows.length-b) false)))]++([(y2,.vec 1 (Qs ((List.range rows.length).map (AW (nxN nx) ys.length))))]++([(al,.vec 1 (Qs (inL rows.length (nxN nx))))]++(ysL rows.length (nxN nx) ys++Lg))))/\
      e1=[(1,.c (.pp [Ui p,Ui rg,.sl fl 5 rows])),(3,.c (Ui rows.length)),(4,.c oc),(5,.c (.ai al 1 0 rows.length)),(6,.c (Ui ys.length)),(7,.c (.ai y2 1 0 rows.length)),(8,.c (.ai y3 1 0 rows.length)),(9,Uv b)]) rows.length ?_ ?_))
     ·exact⟨0,ZA,ZA,ZL,rfl⟩
     ·rintro m2 e1 H8 ⟨b,eW,hb,kn,rfl⟩;have sh:=kn.l 0 rfl;have kP:=kn.l 1 rfl;have dD:=kn.l 2 rfl;have fT:((List.range b).map (Br (nxN nx) ys.length)++List.replicate (rows.length-b) false).length=rows.length:=ZG;refine Wa ?_;refine Wu ?_ ?_
      ·intro a7;have bk:b<rows.length:=ZF;have cB:b<(inL rows.length (nxN nx)).length:=(by rw[Er];exact bk);have fX:b<((List.range rows.length).map (AW (nxN nx) ys.length)).length:=(by simpa using bk);have rj:b<((List.range b).map (Br (nxN nx) ys.length)++List.replicate (rows.length-b) false).length:=(by rw[fT];exact bk);have t1:=qd (inL rows.length (nxN nx)) Er;have t2:=qd ((List.range rows.length).map (AW (nxN nx) ys.length)) ZC;have t3:=qd _ fT;refine Wj ?_;refine Qq ?_;simp only[go_sem,sh,kP,dD,bk,af,t1,t2,Q0,fT,Er,J6,Jbg,Q6 _ _ xh,I7 af,Q6 _ _ cB,I7 bk,Q6 _ _ fX,OZ _ _ bk,Q6 _ _ rj,Df,Jm,Jk];intro H9 h9;have kn:=kn.aA 0 rfl h9;refine Zg ?_;refine⟨Qr,rows.length-(b+1),ZA,b+1,rfl,ZA,?_,rfl⟩;rw[<-Qaw5 _ _ bk];have:Br (nxN nx) ys.length b=(bif (bif AW (nxN nx) (-1) ys.length then AW (nxN nx) (-1) b else false)then !AW (nxN nx) (↑ys.length) b else false):=by
        simp only[Br];cases AW (nxN nx) (-1) ys.length <;> cases AW (nxN nx) (-1) b <;> rfl
       rw[this];exact kn
      ·intro a7;have f0:b=rows.length:=(by have:¬b<rows.length:=(by simpa using a7);omega);subst f0;refine Zb ?_;refine Zh ?_;have kn:Kn H H8 [] (([(al,.vec 1 (Qs (inL rows.length (nxN nx))))]++ysL rows.length (nxN nx) (ys++[y3]))++Lg):=by
        have aC:(List.range rows.length).map (Br (nxN nx) ys.length)++List.replicate (rows.length-rows.length) false=Cs rows.length (nxN nx) ys.length:=(by simp[Cs]);rw[aC]at kn;have:=kn.perm (L':=(([(al,.vec 1 (Qs (inL rows.length (nxN nx))))]++ysL rows.length (nxN nx) (ys++[y3]))++Lg)++[(y2,.vec 1 (Qs ((List.range rows.length).map (AW (nxN nx) ys.length))))]) (Qj λf hf h0 hc hp=>by simp only[Ui,XG,hf];omega);exact this.drop
       refine kn.br (new:=[[.ai y3 1 0 rows.length]]) ay (.mk' _ _ _ _) (by simp[Go.AE.ak,C.ah]) (by simp only[Ts,LIM,Jp,Jq];omega) λt Lg' H9 ay ht kn=>?_;simp only[go_sem,Q37];refine bH _ _ ⟨t,Lg',y3,?_,kn,rfl,rfl,rfl,rfl,rfl⟩;rw[XF];exact ay
    refine Wu ?_ ?_
    ·intro ha;have um:ys.length≠0:=ZaF;refine Za ?_;refine Q05 (F:=H5) hf ZA (hg.grd H5 fl) (cP y2) rows.length 0 ((List.replicate rows.length false).set ys.length true) [] (.sl true 1 []) [] H5 _ ZC ZA cd (by rw[EO,Dg,if_neg (by omega)]) kn.mid (.nil 1) ZC λS o oc' Lg0 H6 hd k2 _=>?_;have rS:=hd.len;rw[Jh,Je]at rS;have kn:Kn H H6 [] ([(y2,.vec 1 (Qs S))]++([(al,.vec 1 (Qs (inL rows.length (nxN nx))))]++(ysL rows.length (nxN nx) ys++Lg))):=(kn.comp k2 rfl).drop;have hy:=kn.l 0 rfl;have pE:ys.length<S.length:=ZA;refine Qq ?_;simp only[go_sem,hy,af,Q0,rS,Q6 _ _ pE,Df,Jm,Jk];intro H7 h7;have kn:=kn.aA 0 rfl h7;refine rest _ H7 rfl rfl rfl rfl rfl rfl ?_;rw[<-Qan2 hf af hd];exact kn
    ·intro ha;have um:ys.length=0:=ZaF;have hy:=kn.l 0 rfl;have pE:ys.length<((List.replicate rows.length false).set ys.length true).length:=(by simpa using af);refine Qq ?_;simp only[go_sem,hy,af,Q0,Jh,Je,Q6 _ _ pE,Df,Jm,Jk];intro H7 h7;have kn:=kn.aA 0 rfl h7;refine rest _ H7 rfl rfl rfl rfl rfl rfl ?_;have:=XH (n:=rows.length) (g:=nxN nx);rw[um]at kn⊢;rw[<-this];exact kn
   ·rintro e2 H4 ⟨oc2,Lg2,y,ay,kn,l1,l3,l4,l5,l6⟩;refine Qq ?_;simp only[go_sem,X.next,l1,l3,l4,l5,l6];exact⟨Qr,rows.length-(ys.length+1),ZA,ys++[y],oc2,Lg2,ZC,by simp;omega,ay,kn,ZC⟩
  ·intro hc;have bp:ys.length=rows.length:=by have:¬ys.length<rows.length:=ZD;omega
   refine Wo ?_;have ey:=Tr (H:=H3) (S:=un H) (n:=rows.length) (g:=nxN nx) ys (λq hq=>⟨(kn.get q (by simp[hq])).1,C5 (kn.loc q (by simp[hq]))⟩);rw[bp]at ey;exact⟨_,.c _ _ (ay.frzR kn ey),hK _ kn.fin⟩
end Go.AE.Y
namespace Go.AE.Y
open Go.Proofs.Tryz
def Qzb:=dY 0xc80031
def Qzc:=dY 0x1010f5475d1830664f0c2 Qzb
def Qzd:=dY 0xb90041
def Qaya:=dZ 0x330490059f1f0145801330
def Qayb:=dZ 0x90033105122f011c01011358038048015700142 Qaya Qzd
def Qasp:=dZ 0x90068123c003400f07458011212 Qayb
def Qayc:=dZ 0x7210c90029f4801c21
def Qayd:=dZ 0x1909500400330090059f1f014053800e412 Qasp [] Qayc
def Qaye:=dZ 0x90320d80049f01c0d21 Qayd
def Qayf:=dW 0x931108f0a9f01c0b9f05015224360660706000405030201000908a2 [Qaye] [Qzc] [eI 10 (.mks 1 [.bool false] (.t 9))]
def Qbgj:=dZ 0x911014f0090121 Qayf
theorem Qbfs:mFn prog PD 1 29 Qbgj A8=true:=ZE
def Qu2:=dY 1638449
def Qasy:=dZ 0x902031042b5d0101134800803800c600142 HU Qu2
def Qalo:=dZ 0x90068093402040024405601006412 Qasy
def Qasz:=dZ 0x7210290029f3801221
def Qas0:=dZ 0x19095004020300f004112 Qalo [] Qasz
def Qas1:=dZ 0x92020580039f01c0521 Qas0
def Qa63:=dZ 0x901014f00211 Qas1
theorem Qa5n:mFn prog Q2x 1 19 Qa63 A8=true:=ZE
def Q80:=dZ 0x87210680029f01c0621053
def Qjq:=dY 4323332241 P0
def Q81:=dZ 0x72110147d5360721 .skip Qjq
def Q82:=dZ 0x1909312101afd13603212 Q80 OG Q81
def Qany:=dZ 0x911014f0090121 Q82
theorem Qai1:mFn prog Qob 1 10 Qany A8=true:=ZE
def Qzi:=dY 9961553
def Qayx:=dZ 0x30040e80069f1f004600d30
def Qayy:=dZ 0x90300407f01e01136805800f400142 Qayx
def Qasv:=dZ 0x900680c350300500144080300a312 Qayy
def Qayz:=dZ 0x13130790079f1f0047801630
def Qay0:=dZ 0x913130101e151378001011378018058018800342 Qayz
def Qasw:=dZ 0x90268153d1314002440518078012412 Qay0
def Qay1:=dZ 0x7410f90049f5801f21
def Qay2:=dZ 0x19095024131300f007112 Qasw [] Qay1
def Qay3:=dZ 0x190950040300400f006112 Qasv [] Qay2
def Qasu:=dW 0x93003108f700821 [Qay3] [Qzi] [eI 9 (.mks 1 [.int .i64 0] (.t 8))]
def Qbgk:=dZ 0x9002014f00411 Qasu
theorem Qbft:mFn prog NH 2 32 Qbgk A7=true:=ZE
def Pu:=dY 4784209
def Q3t:=dY 0x99683e001
def Q3u:=dY 0x8a885e6a52764f5a1a52634f4a2514f3a2a12434f0a2114f006
def Q3v:=dY 0x117004727532f081 Q3u
def Qa6z:=dZ 0x10180fa0099f1f0049802e30
def Qa60:=dZ 0x90000010180101e2b1b1301051301011398001884258098001884230dd0df0342 Qa6z
def Qayw:=dZ 0x902682d32df000001019003440501884298029512 Qa60
def Q3w:=dY 0x101e6822412
def Qa61:=dZ 0x1016102522f015c88560168223c50 .skip Q3w
def Qa62:=dZ 0x19d209502400000101800f009112 Qayw [] Qa61
def Qayg:=dZ 0x10160f90079f1f0047801e30
def Qayh:=dZ 0x19090000101710173d05604530101137801800128222090a0706050401090807060504030201001009a20142 Qa62 Q3v Qayg
def Qasq:=dZ 0x900681d31df000101700244051807801a412 Qayh
def Qze:=dY 0xdc00b1
def Qzf:=dY 852161
def Qzg:=dY 0x7a5f00e1
def Qzh:=dY 0x103e122f011c010de13ce6d14fae9e26b34f8e6914f6e5e56734f4e6514f779 Qzg
def Qayi:=dZ 0x31101a02e00f9f1f004f806130
def Qayj:=dZ 0x90000031101a107274d010413010113f80c80180b80010120123d80010020153a80016822e806314f18171615140a08060402131211100f0e0d0c0b0a090807060504030201001e19a0942 Qayi Qzh
def Qasr:=dZ 0x9086860360f0000031101b0024405c80f805d412 Qayj
def Qayk:=dZ 0x3110180201e0121223e80d80010020153a800168227bb0
def Qayl:=dZ 0x19d20950840000031101a00f00f112 Qasr [] Qayk
def Qaym:=dZ 0x3110180bd00d9f1f004d805a30
def Qayn:=dZ 0x190900003110190cd00e9f01c5c210742 Qayl [] Qaym
def Qass:=dZ 0x9066859359f0003110190074405010020153a80016822d8051912 Qayn
def Qayo:=dZ 0x9506400031101800f00d11 Qass
def Qayp:=dZ 0x90031101710126fda8068364e31 Qayo Qzf
def Qayq:=dZ 0x31101507c00a9f1f004a804630
def Qayr:=dZ 0x1909031101610426fd010113a801802836486707f20542 Qayp Qze Qayq
def Qast:=dZ 0x9046845345f3110160024405180a8042412 Qayr
def Qays:=dZ 0x74100483e68368521
def Q3r:=dZ 0x1909504431101500f00a112 Qast [] Qays
def Qayt:=dZ 0x19095004000101600f007112 Qasq [] Q3r
def Qayu:=dZ 0x900101515700332f069f011210257003d1f0128120128021561 Qayt Q3t
def Qayv:=dZ 0x901014101272d180050128221051 Qayu Pu
def Qbms:=dZ 0x9101305700332f049f190221 Qayv
theorem Qbk7:mFn prog L8 2 134 Qbms Bv=true:=ZE
def Pv:=dY 0x68283e001
def Q3p:=dY 0x102246d430364f062 Pv
def Qa6o:=dZ 0x72110171d2361360330403000201000605a2 .skip Q3p
def Qbmp:=dZ 0x901205700332f090121 Qa6o
theorem Qbk5:mFn prog Hi 1 7 Qbmp Bf=true:=ZE
def Qll:=dY 7012465
def Qac1:=dZ 0x8000300171012b5d8807803430333 .skip Qll
def Qac2:=dZ 0x300170a900a9f1f004a801930
def Qac3:=dZ 0x190933f0003001802f05aa03f9a4ba0f05280f05210f0115230f885200f05210f0115230f285200f185200f04b00f0124b40f284b00f884b00f00010413010113a809800101132801801b19f19f19f20342 Qac1 [] Qac2
def Q7x:=dZ 0x90268183d000300180024405980a8015412 Qac3
def Qac4:=dZ 0x950240003001700f00a11 Q7x
def Qac5:=dZ 0x300150190089f1f004701030
def Qac6:=dZ 0x1909003001610126fd880383612310142 Qac4 Ch Qac5
def Q7y:=dZ 0x900680f360300160024405180300c412 Qac6
def Q7u:=dZ 0x76107b0069f7803721
def Q7v:=dZ 0x1909500403001500f008112 Q7y [] Q7u
def Q7w:=dZ 0x9300140b80079f01c0b21 Q7v
def Qas6:=dZ 0x90013014f0069f290321 Q7w
theorem Qaq7:mFn prog Qtb 3 56 Qas6 AJ=true:=ZE
def Qjh:=dY 0xf80081
def Qji:=dY 33233
def Qjj:=dY 1704097
def Qjk:=dY 0xf0442e1
def Qjl:=dY 4915313
def Qjm:=dY 0xbb0081
def Q7z:=dZ 0x103116105122f011c010113b80a808803570 .skip Qjm
def Q70:=dZ 0x80901031161042b5d010113b80a807802f612e3 Q7z Qjl
def Q71:=dZ 0x10311607a00b9f1f004b802630
def Q72:=dZ 0x19092ef0103117104274d010113b80a8078028610342 Q70 Qjk Q71
def Qzm:=dZ 0x9026825325f01031170024405a80b8022412 Q72
def Q1t:=dZ 0x95024010311600f00b11 Qzm
def Q1u:=dZ 0x910311510123d4d98018038361e41 Q1t Qjj
def Q1v:=dZ 0x980161d31df003116100f3343d1f0140518098018512 Q1u Qji
def Q1w:=dW 0x90031150790089f08f8801631 [Q1v] [] [fI 23 (.sli 1 (.t 22) (some (kI 1)) none)]
def Q1x:=dZ 0x90031150590099f010f0138801341014 Q1w
def Qzn:=dZ 0x9006812390311500f064057010312 Q1x
def Q1y:=dZ 0x7610cb0069f7803c21
def Q1z:=dZ 0x19095004203114101122f28001c0d31 Qzn Qjh Q1y
def Q10:=dZ 0x9300140c80079f01c0c21 Q1z
def Qalp:=dZ 0x90013014f0069f290321 Q10
theorem Qaiy:mFn prog Qn8 3 61 Qalp AJ=true:=ZE
def Qaz9:=dZ 0x80002050da0059f6802d202c3
def Qa0a:=dZ 0x2050390069f1f0046801230
def Qa0b:=dZ 0x19092cf00020602f00aa03f741a0f04610f0114630f684600f04610f0114630f584600f084600f04100f0f044140f584100f002f07a02f10f0112f30f482f00f02f10f0112f30f682f00f082f00f0001344806801419f10342 Qaz9 [] Qa0a
def Qata:=dZ 0x90268113a0002060024405080700e412 Qa0b
def Qa0c:=dZ 0x203102122f011c5803802e40 .skip On
def Qa0d:=dZ 0x1909502400020500f006112 Qata [] Qa0c
def Qa0e:=dZ 0x2030d80049f1f004700c30
def Qa0f:=dZ 0x19090020407f005110142 Qa0d [] Qa0e
def Qatb:=dZ 0x900680b36020400244050803008412 Qa0f
def Qas7:=dZ 0x72102b0029f3803221
def Qas8:=dZ 0x19095004020300f004112 Qatb [] Qas7
def Qas9:=dZ 0x92020780039f01c0721 Qas8
def Qbgm:=dZ 0x901014f00211 Qas9
theorem Qbfv:mFn prog NF 1 51 Qbgm A8=true:=ZE
def P2:=dY 7929937
def Qa7d:=dZ 0x803004102122f011c6805801440133 .skip P2
def Qa7e:=dZ 0x30040d80069f1f004500c30
def Qa7f:=dZ 0x1909c03005001241800101136800800e610142 Qa7d [] Qa7e
def Qa0g:=dZ 0x900680b340300500244050801008412 Qa7f
def Qa7g:=dZ 0x7410890049f5801821
def Qa7h:=dZ 0x190950040300400f006112 Qa0g [] Qa7g
def Qa7i:=dZ 0x930030780059f01c0721 Qa7h
def Qbmw:=dZ 0x9002014f00411 Qa7i
theorem Qbla:mFn prog L5 2 25 Qbmw A7=true:=ZE
def Q4v:=dY 0xb80031
def Q4w:=dY 0x101e9a8a13322
def Qa72:=dZ 0x114103122f011c7f021c48001011368038068038028a0 .skip Q4w
def Qa73:=dZ 0x1140d90059f1f0045801c30
def Qa74:=dZ 0x190900011507a0069f0100201235800100201534800118221eb10342 Qa72 [] Qa73
def Qa13:=dZ 0x902681b31bf00115007440501002015348001182258013912 Qa74
def Q4y:=dY 0x101ebcac13552
def Qa75:=dZ 0x820114104122f011c0121c7804800101138803808803804ab0493 .skip Q4y
def Qa76:=dZ 0x949f02011600f0748804821 Qa75
def Qa1v:=dZ 0x201140db0079f1f0047803c30
def Qa1w:=dZ 0x1909020115101d3d04601437800101201534800118223ea10542 Qa76 E4 Qa1v
def Qaty:=dZ 0x904683b33bf20115007440501012015348001182278033912 Qa1w
def Qa1x:=dZ 0x950442011400f00711 Qaty
def Qa1z:=dW 0x29190950240011400f0051120142 [Qa13,Qa1x,Pe] []
def Qatz:=dZ 0x90068103b01140034405011822700c512 Qa1z
def Qa10:=dZ 0x72106d0029f3805621
def Qa11:=dZ 0x19095004011300f004112 Qatz [] Qa10
def Qa12:=dW 0x9112108f017120931 [Qa11] [Q4v] [eI 11 (.mks 1 [.sl true 1 []] (.t 10))]
def Qbm2:=dZ 0x911014f0090121 Qa12
theorem Qblg:mFn prog Lw 1 87 Qbm2 A8=true:=ZE
def Qzq:=dY 0x88383e001
def Qzr:=dY 0x15700332f031 Qzq
def Qzs:=dY 0xd80049f010f01308f0b4 [] [fI 11 (.fld 0 1 false (.t 10))]
def Qzt:=dY 655441
def Qa08:=dZ 0x8000025104422f014c0121111f103017004d1f01c6805801b601a3 .skip Qzt
def Qa09:=dZ 0x250690069f1f0046801530
def Qa1a:=dZ 0x19091af000026001011368048017410142 Qa08 [] Qa09
def Qatt:=dZ 0x90068143d0000260024401381268011412 Qa1a
def Qzu:=dY 0x201e0120f7531a2214f2a4
def Qa1b:=dZ 0x72100283e38362c21
def Qato:=dZ 0x9022105422f010120f0530138225800138222190b0a09010807060504030201000d0ca2 Qa1b Qzu
def Qatp:=dZ 0x190950040000250090069f0138020f312 Qatt [] Qato
def Qatq:=dZ 0x9000240e80059f04c0e21 Qatp
def Qatr:=dZ 0x90023101b1d5360921 Qatq Qzs
def Qats:=dZ 0x902210145d5360721 Qatr Qzr
def Qbgn:=dZ 0x901205700332f090121 Qats
theorem Qbfw:mFn prog NE 1 45 Qbgn Bf=true:=ZE
def Q4o:=dY 0xe8383e001
def Q4p:=dY 0x15700332f031 Q4o
def Q4r:=dY 0x29582e001
def Q4s:=dY 0x11717232f051 Q4r
def Q4t:=dY 4784225
def Qa7z:=dZ 0x800000001801a0089f0f11c2120203
def Qa70:=dZ 0x190aa0099f1f0049802930
def Qa71:=dZ 0x9000000001910ba2b5d010f0130101139800101137806808802bb00342 Qa70 Om
def Qatu:=dZ 0x9026828328f000000001a005440501011378068098022712 Qa71
def Qz3:=dY 0x9b00a1
def Qz4:=dY 0xecc82e001
def Qz5:=dY 21841
def Qz6:=dY 0x101ec8125d2
def Qa1c:=dZ 0x55f0020000001c0ed0569f1f7045e20
def Qa1d:=dZ 0x9055f0020000001c102122f011c78001c81258500742 Qa1c Qz6
def Qatv:=dZ 0x90657b0055f0020000001d010445711 Qa1d
def Qz7:=dY 0x201e0024e0e533e6414f2e1e16334ffd6014f716
def Qz8:=dY 0x106e222f16f14f3756d34f46c14f5616b34f7e6814f3e6414f2e1e16334ffd6014f709 Qz7
def Qa1e:=dW 0x200000019108f669f010020453010113b80a80013822679fc826010113b80a800138225f11f14131205040111100e0d0c0905040107100f0e0d0c0b0a0908060504030201002015a [] [Qz8] [eI 102 (.bslm 2 [.t 101])]
def Qa1f:=dZ 0x19095064055f0020000001c10426fd549f0f0569f010113b80a8018364f706050704030201000808a22 Qatv Qz5 Qa1e
def Qa1g:=dZ 0x90020000001a1170232f0c9f01111021702d1f01c7804c41 Qa1f Qz4
def Qa1h:=dZ 0x2000000190fb00b9f1f004b803e30
def Qa1i:=dZ 0x190980564b34bf020000001a008010113780010413010113b80a8001580240cc0cf220542 Qa1g [] Qa1h
def Qatw:=dZ 0x904683d33df020000001a0024405a80b803a412 Qa1i
def Qa1j:=dZ 0x95044020000001900f00b11 Qatw
def Qa1k:=dZ 0x920000001810123b6d88048018363641 Qa1j Qz3
def Qa1l:=dZ 0x19095024000000001900f009112 Qatu [] Qa1k
def Qa1m:=dZ 0x190920f000000019002440118027801d412 Qa7z [] Qa1l
def Qa1n:=dZ 0x170b90079f1f0147801a30
def Qa1o:=dZ 0x19090000000180c90089f01c1c210142 Qa1m [] Qa1n
def Qatx:=dZ 0x9006819319f0000001800f07478018212 Qa1o
def Qa1p:=dZ 0x72100283e38367321
def Qa1q:=dZ 0x19095004000000170790079f1f01401181215412 Qatx [] Qa1p
def Qa1r:=dZ 0x90000016101b4d18361321 Qa1q Q4t
def Qa1s:=dZ 0x9000015101b1d18361121 Qa1r Q4s
def Qa1t:=dZ 0x9000141017cd18360f21 Qa1s Ez
def Qa1u:=dZ 0x9001310176d18360d21 Qa1t Q4p
def Qbm1:=dZ 0x901205700332f090121 Qa1u
theorem Qblf:mFn prog Lx 1 116 Qbm1 Bf=true:=ZE
def Qz1:=dZ 0x7210f80029f1f01401072070800b61
def Qz2:=dZ 0x9010201e072571f004010720730200391 Qz1
def Q74:=dZ 0x90100f00211 Qz2
theorem Q6p:mFn prog Qin 1 16 Q74 A8=true:=ZE
def Qgw:=dY 0x201e002232342514f294
def Qzv:=dZ 0x3000501a0079f1f0047802030
def Qzw:=dZ 0x9030005101b7d080780010020768022709080703060504030201000b0aa0142 Qzv Qgw
def Qwy:=dZ 0x900681f31ff0300060054405010020768078019712 Qzw
def Qzx:=dZ 0x13000503b0089f1f0048803230
def Qzy:=dZ 0x91300050101e1c4b13010020123880010020768001002012388001002015318001022002070802803418f18f18f0342 Qzx
def Qwz:=dZ 0x9026831331f130006005440501002076808802b712 Qzy
def Qzz:=dZ 0x23000600e00a9f1f004a805f30
def Qz0:=dZ 0x902300060101e9e8e13010ae13010113a800102201439800101207680280a8001022014398001012076806119f19f19f0742 Qzz
def Qw0:=dZ 0x906685e35ef0230007004d44050102201439800101207680a8054b12 Qz0
def Qfa:=dY 0x835f00b1
def Qwi:=dZ 0x2300050201e0121243b8098001012076808f90
def Qwj:=dZ 0x912300060101e1845f13b80010120143980010120768028084c1 Qwi
def Qwk:=dZ 0x8091230006101b7d0808221813 Qwj Qfa
def Qwl:=dZ 0x981f23000600181d01002014398001012076807991 Qwk
def Qwm:=dZ 0x23000503d0099f1f0049805230
def Qwn:=dW 0x2919095064023000600f00a1120542 [Qw0,Qwl,Qwm] []
def Qsf:=dZ 0x9046851351f230006005440501012076809804b712 Qwn
def Qwo:=dZ 0x8300040201e0327701041301032076802806809cb09b3
def Qfb:=dY 0xbd5f00e1
def Qfc:=dY 0x101274d180bc2 Qfb
def Qwp:=dZ 0x5300080cb5f00f9f1f004f80ca30
def Qwq:=dZ 0x90005300080101ed95fd85f13010da5f13010113e80010120123f80010020153d800102200207080280e80010120123f80010020153d800102203207080cc23f23f23f0b42 Qwp
def Qsg:=dZ 0x90a68c93c9f00053000900be5f4405010020153d800102200207080f80bec12 Qwq
def Qwr:=dZ 0x950a400053000800f00f11 Qsg
def Qws:=dZ 0x90053000710126fdd8003600207080b661 Qwr Qfc
def Qwt:=dZ 0x5300050ae5f00c9f1f004c80ad30
def Qwu:=dZ 0x190905300060b55f00d9f010113c800104207680af810942 Qws [] Qwt
def Qsh:=dZ 0x90868ac3acf53000600544050104207680c80a6712 Qwu
def Qfd:=dY 0xf35f0101
def Qfe:List Item:=[.chk 253 none (.iad 1 (.t 251) (.t 252)),hJ 254 253,aJ 258 RC [.t 250,.t 254,.t 257]]
def Qwv:=dZ 0xd1040f95f0119f1f004190f830
def Qww:=dZ 0x90d104101122f28001c010113190090080fa808040307060504030201000b09a0d42 Qwv Qfe
def Qsi:=dZ 0x90c68f73f7f0d1050024405090190f4412 Qww
def Qwx:=dZ 0x950c40d10400f01111 Qsi
def Qgu:=dZ 0x9d1031012b8d1800106207080ee61 Qwx Qfd
def RG:=dZ 0x1909508453000500f00c112 Qsh [] Qgu
def RE:=dZ 0x19099bf3000501f034010220768097512 Qwo [] RG
def RL:=dZ 0x1909504423000500f009112 Qsf [] RE
def RK:=dZ 0x1909502413000500f008112 Qwz [] RL
def Qgv:=dZ 0x1909500403000500f007112 Qwy [] RK
def Q73:=dZ 0x9300040890069f015318001022032070801281 Qgv
theorem Q6o:mFn prog RC 3 259 Q73 By=true:=ZE
def Qu7:=dY 0x15700332f031 Ew
def Qu8:=dY 4319727761 Qu7
def Qu9:=dY 3735617
def Qva:=dY 0x1052f0172165337304017570057008d1f11114f3830a64f124 Qu9
def Qvb:=dY 0x1017bd091114f3830a64f0f3 Qva
def Qvc:=dY 0x1017cd091114f3830d64f3830a64f0e4 Qvb
def Qvd:=dY 6881361
def Qat0:=dZ 0x10150c90069f1f0046801b30
def Qat1:=dZ 0x90010150101e12136806805801d500142 Qat0
def Qac9:=dZ 0x900681a31af0010160024401180268017412 Qat1
def Qaly:=dZ 0x72100283e036032074802c51
def Qalz:=dZ 0x91220301e0120324701072074804802491 Qaly
def Qal0:=dZ 0x9122000f137dd5804802131 Qalz
def Qal1:=dZ 0x1909500400101500f006112 Qac9 [] Qal0
def Qal2:=dW 0x901014108f0138121431 [Qal1] [Qvd] [eI 22 (.mks 1 [.int .i64 0] (.t 21))]
def Qal3:=dZ 0x90001410176d0c9f011802109f38360d9f7366360a60a0908070005070004070300020706030100120ba2 Qal2 Qvc
def Qal4:=dZ 0x900131017ad5360721 Qal3 Qu8
def Qa77:=dZ 0x901205700332f090121 Qal4
theorem Qa5p:mFn prog Q2z 1 48 Qa77 Bf=true:=ZE
def Qazi:=dY 0x98483e001
def Qazj:=dY 0xf8483e001
def Qazk:=dY 0x102246d2830c64f0f2 Qazj
def Qazl:=dY 0x39483e001
def Qazm:=dY 0x79483e001
def Q3x:=dY 0xb9483e001
def Qazn:=dY 0xf9483e001
def Qazo:=dY 0x3a483e001
def Qazp:=dY 0x7a483e001
def Qazq:=dY 0xba483e001
def Qas2:=dY 0xfa483e001
def Qzj:=dY 0x3b483e001
def Qay4:=dZ 0x874110150d28363221303 .skip Qzj
def Qay5:=dW 0x930f12301b0309f08f31217411014fd28362e212c3 [Qay4] [Qas2] [fI 49 (.bin 0 .eql (.t 5) (.k (.c (.str [106,111,105,110]))))]
def Qay6:=dW 0x92cf01240da02c9f08f2d217411014ed28362a21283 [Qay5] [Qazq] [fI 45 (.bin 0 .eql (.t 5) (.k (.c (.str [115,107,105,112]))))]
def Qay7:=dW 0x928f012409a0289f08f29217411014dd28362621243 [Qay6] [Qazp] [fI 41 (.bin 0 .eql (.t 5) (.k (.c (.str [101,118,101,110]))))]
def Qay8:=dW 0x924f012405a0249f08f25217411014cd28362221203 [Qay7] [Qazo] [fI 37 (.bin 0 .eql (.t 5) (.k (.c (.str [104,111,105,115,116]))))]
def Qay9:=dW 0x920f012401a0209f08f21217411014bd28361e211c3 [Qay8] [Qazn] [fI 33 (.bin 0 .eql (.t 5) (.k (.c (.str [115,104,97,114,101]))))]
def Qaza:=dW 0x91cf01240d901c9f08f1d217411014ad28361a21183 [Qay9] [Q3x] [fI 29 (.bin 0 .eql (.t 5) (.k (.c (.str [107,110,111,119,110]))))]
def Qazb:=dW 0x918f01240990189f08f192174110149d28361621143 [Qaza] [Qazm] [fI 25 (.bin 0 .eql (.t 5) (.k (.c (.str [115,105,110,103,108,101]))))]
def Qazc:=dW 0x9e01240590149f08f152174110148d28361221103 [Qazb] [Qazl] [fI 21 (.bin 0 .eql (.t 5) (.k (.c (.str [105,100,108,101]))))]
def Qazd:=dW 0x9a01240190109f08f112174110147d283628360c30403000201000605a20a3 [Qazc] [Qazk] [fI 17 (.bin 0 .eql (.t 5) (.k (.c (.str [115,112,108,105,116]))))]
def Qaze:=dW 0x9401240b800a9f08f0b2174110145d5360821063 [Qazd] [Qazi] [fI 11 (.bin 0 .eql (.t 5) (.k (.c (.str [111,114,100,101,114]))))]
def Qazf:=dW 0x9001240780069f08f0721004 [Qaze] [] [fI 7 (.bin 0 .eql (.t 5) (.k (.c (.str [114,101,97,99,104]))))]
def Qas3:=dY 0x5b483e001
def Qazg:=dZ 0x74110151d28363421 .skip Qas3
def Qazh:=dZ 0x1909012303005112 Qazf [] Qazg
def Qbmt:=dZ 0x9101305700332f049f190221 Qazh
theorem Kh:mFn prog O7 2 54 Qbmt Bv=true:=ZE
def Qa6p:=dZ 0x870421071e0371d1f0b210a3 .skip CB
def PQ:=dY 0xc8681e001
def PP:=dY 0x101e68021f2
def PO:=dY 0x1059322f013c491514f1d3 PP
def Qa6q:=dZ 0x110150390079f1f0047801230
def Qa6r:=dZ 0x9011015101229d18003601337800128020168021490c0b0a09010807060504030201000e0da0142 Qa6q PO
def Qax7:=dZ 0x9006811390110160034405012802500d512 Qa6r
def Rb:=dY 33313
def Qax1:=dZ 0x8704210481e0371d1f2321223 .skip CB
def Qax2:=dZ 0x704210481e68162421 .skip GX
def Qax3:=dZ 0x190922f14310128d681620212d2 Qax1 Rb Qax2
def Qax4:=dZ 0x1909500401101500f007112 Qax7 [] Qax3
def Qax5:=dZ 0x911014137132f069f0371d1f0c21 Qax4 PQ
def Qax6:=dZ 0x19095101410128d51608212 Qa6p Hk Qax5
def Qbmq:=dZ 0x91013137132f049f190221 Qax6 CB
theorem Ki:mFn prog Hh 2 37 Qbmq DB=true:=ZE
def G1:=dY 3080241
def G0:=dY 0x1151e11b00b063 G2
def Q2c:=dW 0x7022108f2160421 [] [G0] [eI 5 (.call Hh [.t 4,.k (.c (.str [115,105,110,103,108,101]))])]
def Qah4:=dZ 0x9012137132f090121 Q2c G1
abbrev Gu:List RS:=[.cell 2 1 true,.tmp 3]
theorem Qaaw:mFn prog Qk8 1 8 Qah4 Gu=true:=ZE
def Q4k:=dY 0xa80041
def Q4l:=dY 0x198381e001 Q4k
def Q4m:=dY 0x137132f039f41b30b099f880054 Q4l
def Q4n:=dY 4318351489 Q4m
def Qa7v:=dZ 0x872100281e0101371d1f013c0121f11257003d1f015c036f120112170047275d1f014c0121f102017004d1f01c0d910c3
def Qa7x:=dZ 0x19098023008600b212 Qa7v [] In
def Qa7y:=dZ 0x900231013bd500621 Qa7x Q4n
def Qbm0:=dZ 0x9102037132f0211 Qa7y
theorem Qble:mFn prog Ly 1 22 Qbm0 AG=true:=ZE
def Qa7s:=dZ 0x872110121d500621053 .skip Px
def Qa7t:=dZ 0x72110139d700821 .skip Pw
def Qa7u:=dZ 0x190921031086f021fd2003212 Qa7s Py Qa7t
def Qbmz:=dZ 0x9102037132f0211 Qa7u
theorem Qbld:mFn prog Lz 1 10 Qbmz AG=true:=ZE
def Q40:=dY 0xf024081
def Q41:=dY 0xa8281e001
def Qa78:=dZ 0x872110120d500921083 .skip Q41
def Q42:=dY 0xc8281e001
def Qa79:=dZ 0x72110121d700b21 .skip Q42
def Qa8a:=dZ 0x190940231026f021fd2006212 Qa78 Q40 Qa79
def Qa8b:=dZ 0x90221011ed300421 Qa8a CQ
def Qbm3:=dZ 0x9102037132f0211 Qa8b
theorem Qblh:mFn prog Lv 1 13 Qbm3 AG=true:=ZE
end Go.AE.Y
namespace Go.AE.Y
attribute [local instance] Classical.propDecidable
variable {g:Nat->List Nat}{n:Nat}
theorem II {a b:Nat}:Br g a b=true↔AW g (-1) a=true/\AW g (-1) b=true/\¬Rch g (λz=>(z:Int)=a) 0 b:=by
 simp only[Br,Jl,Jbe,and_assoc];refine and_congr_right λ_=>and_congr_right λ_=>?_;rw[<-Bool.not_eq_true,rchB_iff]
theorem Rch.via {A:Nat->Prop}{a b:Nat}(h:Rch g A 0 b)(hn:¬Rch g (λz=>(z:Int)=a) 0 b):Rch g A 0 a:=by
 induction h with
 |refl h=>
  by_cases ha:0=a
  ·subst ha;exact .refl h
  ·exact absurd (Rch.refl λhh=>ha ZA) hn
 |@step y z h1 h2 h3 ih=>
  by_cases hy:Rch g (λz=>(z:Int)=a) 0 y
  ·by_cases ha:z=a
   ·subst ha;exact .step h1 h2 h3
   ·exact absurd (Rch.step hy h2 λhh=>ha ZA) hn
  ·exact ih hy
theorem Qbe3 {x a b:Nat}(h1:Br g x a=true)(h2:Br g a b=true):Br g x b=true:=by
 rw[II]at *;exact⟨h1.1,h2.2.1,λh=>h1.2.2 (h.via h2.2.2)⟩
theorem Rch.two {A:Nat->Prop}{a b z:Nat}(eH:a≠b)(h:Rch g A 0 z):Rch g (λw=>w=a\/w=b) 0 z\/Rch g (λw=>(w:Int)=b) 0 a\/Rch g (λw=>(w:Int)=a) 0 b:=by
 induction h with
 |refl _=>
  by_cases ha:0=a
  ·subst ha;exact .inr (.inl (.refl λhh=>eH ZA))
  ·by_cases hb:0=b
   ·subst hb;exact .inr (.inr (.refl λhh=>eH ZA))
   ·exact .inl (.refl λhh=>hh.elim ha hb)
 |@step y z h1 h2 h3 ih=>
  rcases ih with h|h
  ·by_cases ha:z=a
   ·subst ha;exact .inr (.inl (.step (h.mono λw hw=>.inr ZA) h2 λhh=>eH ZA))
   ·by_cases hb:z=b
    ·subst hb;exact .inr (.inr (.step (h.mono λw hw=>.inl ZA) h2 λhh=>eH ZA))
    ·exact .inl (.step h h2 λhh=>hh.elim ha hb)
  ·exact .inr h
theorem Qbja {a b:Nat}(h1:Br g a b=true)(h2:Br g b a=true):a=b:=by
 by_cases eH:a=b
 ·exact eH
 rw[II]at *;rcases (rchB_iff.1 h1.1).two eH with h|h|h
 ·exact absurd (.inl rfl) h.snd
 ·exact absurd h h2.2.2
 ·exact absurd h h1.2.2
noncomputable def depL (n:Nat)(g:Nat->List Nat)(b:Nat):Nat:=((List.range n).filter λa=>Br g a b).length
theorem Qbjj {α:Type}{p q:α->Bool}{l:List α}(h:∀x∈l,p x=true->q x=true){y:α}(hy:y∈l)(hq:q y=true)(hp:p y=false):(l.filter p).length<(l.filter q).length:=by
 have le:∀(l:List α),(∀x∈l,p x=true->q x=true)->(l.filter p).length<=(l.filter q).length:=λl=>by
  induction l with
  |nil=>intro _;simp
  |cons x l ih=>
   intro h;have h1:=ih λz hz=>h z (Ji _ hz);have h2:=h x Jn
   cases qp:p x with
   |false=>cases lN:q x <;> simp[qp,lN] <;> omega
   |true=>have:=h2 qp;simp[qp,this];omega
 induction l with
 |nil=>simp at hy
 |cons x l ih=>
  have h2:=h x Jn;have h3:=le l λz hz=>h z (Ji _ hz);rcases J2.1 hy with rfl|hy
  ·simp[hq,hp];omega
  ·have h1:=ih (λz hz=>h z (Ji _ hz)) hy
   cases qp:p x with
   |false=>cases lN:q x <;> simp[qp,lN] <;> omega
   |true=>have:=h2 qp;simp[qp,this];omega
theorem VY {a b:Nat}(hb:b<n)(h:Br g a b=true)(eH:a≠b):depL n g a<depL n g b:=by
 refine Qbjj (λx _ hx=>Qbe3 hx h) (y:=b) (J0.2 hb) ?_ ?_
 ·rw[Qbjb];exact (VX h).2
 ·cases hc:Br g b a with
  |false=>rfl
  |true=>exact absurd (Qbja h hc) eH
def Tree (n:Nat)(ids:List Int)(dp:Nat->Nat):Prop:=ids.length=n/\∀b,b<n->ids.getD b 0=-1\/∃a:Nat,ids.getD b 0=a/\a<n/\dp a<dp b
inductive Sub (ids:List Int)(b:Nat):Nat->Prop
 |refl:Sub ids b b
 |step {y x:Nat}:Sub ids b y->x<ids.length->ids.getD x 0=(y:Int)->Sub ids b x
variable {ids:List Int}{dp:Nat->Nat}
def Ck (ids:List Int)(b:Nat):List Nat:=(List.range ids.length).filter λi=>decide (ids.getD i 0=(b:Int))
theorem kidsL_mem {b k:Nat}:k∈Ck ids b↔k<ids.length/\ids.getD k 0=(b:Int):=by simp[Ck]
theorem Tree.up (t:Tree n ids dp){b k:Nat}(hk:k<ids.length)(h:ids.getD k 0=(b:Int)):b<n/\dp b<dp k:=by
 have fg:k<n:=by rw[<-t.1];exact hk
 rcases t.2 k fg with h1|⟨a,h1,h2,h3⟩
 ·omega
 ·have:a=b:=ZA
  subst this;exact⟨h2,h3⟩
theorem Sub.dep (t:Tree n ids dp){b x:Nat}(h:Sub ids b x):x=b\/dp b<dp x:=by
 induction h with
 |refl=>exact .inl rfl
 |step h1 h2 h3 ih=>
  have:=(t.up h2 h3).2;rcases ih with rfl|ih
  ·exact .inr this
  ·exact .inr ZA
theorem Sub.kid {b k x:Nat}(hk:k∈Ck ids b)(h:Sub ids k x):Sub ids b x:=by
 obtain⟨h1,h2⟩:=kidsL_mem.1 hk
 induction h with
 |refl=>exact .step .refl h1 h2
 |step _ h3 h4 ih=>exact ih.step h3 h4
theorem Sub.kid_ne (t:Tree n ids dp){b k:Nat}(hk:k∈Ck ids b):¬Sub ids k b:=λh=>by
 obtain⟨h1,h2⟩:=kidsL_mem.1 hk;have:=(t.up h1 h2).2;rcases h.dep t with rfl|h
 ·omega
 ·omega
theorem Sub.line {a b x:Nat}(h1:Sub ids a x)(h2:Sub ids b x):Sub ids a b\/Sub ids b a:=by
 induction h1 with
 |refl=>exact .inr h2
 |@step y x h3 h4 h5 ih=>
  cases h2 with
  |refl=>exact .inl (.step h3 h4 h5)
  |@step y' _ h6 h7 h8=>
   have:y=y':=ZA
   subst this;exact ih h6
theorem Sub.kids_apart (t:Tree n ids dp){b k j x:Nat}(hk:k∈Ck ids b)(hj:j∈Ck ids b)(h1:Sub ids k x)(h2:Sub ids j x):k=j:=by
 have one:∀{k j:Nat},k∈Ck ids b->j∈Ck ids b->Sub ids k j->k=j:=λ{k j} hk hj h=>by
  cases h with
  |refl=>rfl
  |@step y _ h3 h4 h5=>
   have h6:=(kidsL_mem.1 hj).2;have:y=b:=ZA
   subst this;exact absurd h3 (Sub.kid_ne t hk)
 rcases h1.line h2 with h|h
 ·exact one hk hj h
 ·exact (one hj hk h).symm
theorem Sub.split {b x:Nat}(h:Sub ids b x):x=b\/∃k∈Ck ids b,Sub ids k x:=by
 induction h with
 |refl=>exact .inl rfl
 |@step y x h1 h2 h3 ih=>
  rcases ih with rfl|⟨k,hk,h⟩
  ·exact .inr ⟨x,kidsL_mem.2 ⟨h2,h3⟩,.refl⟩
  ·exact .inr ⟨k,hk,h.step h2 h3⟩
theorem Sub.lt {b x:Nat}(hb:b<ids.length)(h:Sub ids b x):x<ids.length:=by
 cases h with
 |refl=>exact hb
 |step _ h _=>exact h
def potW (n:Nat)(w:Nat->Nat)(U:Nat->Prop) [DecidablePred U]:Nat:=(((List.range n).filter λx=>decide (U x)).map w).sum
theorem XX {w:Nat->Nat}{U V:Nat->Prop}{b:Nat}(hb:b<n)(hU:U b)(hV:∀x,V x↔U x/\x≠b):potW n w V+w b=potW n w U:=by
 have key:∀m,(((List.range m).filter λx=>decide (V x)).map w).sum+(if b<m then w b else 0)=(((List.range m).filter λx=>decide (U x)).map w).sum:=λm=>by
  induction m with
  |zero=>simp
  |succ m ih=>
   rw[Jar,J9,J9,Jw,Jw,Jas,Jas];by_cases hm:m=b
   ·subst hm;have h1:decide (V m)=false:=decide_eq_false λh=>((hV m).1 h).2 rfl;have h2:decide (U m)=true:=decide_eq_true hU;have h3:¬m<m:=ZA;rw[if_neg h3]at ih;simp[h1,h2];omega
   ·have h1:decide (V m)=decide (U m):=(by rw[decide_eq_decide,hV];exact⟨λh=>h.1,λh=>⟨h,hm⟩⟩);have h2:(b<m+1)=(b<m):=(by rw[eq_iff_iff];omega);simp only[Jaz,Ja2,h1,h2];omega
 have:=key n;rw[if_pos hb]at this;exact this
theorem Vl {w:Nat->Nat}{U V:Nat->Prop}(h:∀x,V x->U x):potW n w V<=potW n w U:=by
 have key:∀m,(((List.range m).filter λx=>decide (V x)).map w).sum<=(((List.range m).filter λx=>decide (U x)).map w).sum:=λm=>by
  induction m with
  |zero=>simp
  |succ m ih=>
   rw[Jar,J9,J9,Jw,Jw,Jas,Jas];by_cases hv:V m
   ·have h1:decide (V m)=true:=decide_eq_true hv;have h2:decide (U m)=true:=decide_eq_true (h m hv);simp[h1,h2];omega
   ·have h1:decide (V m)=false:=decide_eq_false hv;simp[h1];omega
 exact key n
end Go.AE.Y
namespace Go.AE.Y
attribute [local go_sem] cond_true cond_false Bool.not_true Bool.not_false
open Go.Proofs.Tryz
variable {H H0:Heap}{K:Uk}{E B Lg:Ul}
theorem Qa49 {fl:Bool}{l:List Nat}(hl:l.length<=2 ^ 30)(hK:∀(fl':Bool) (k:List Nat) H',Upd H H' []->k.Pairwise (· < ·)->(∀x,x∈k↔x∈l)->K (.c (.sl false 1 (AA k))) H') :
  Qv prog Q2x [.c (.sl fl 1 (AA l))] H K:=by
 refine Qz ?_;refine Qd A6 Qa5n ?_;refine Wd ?_;refine Wa ?_;refine Qh (Qe (Qx (λm e1 H1=>∃(i:Nat) (fl':Bool) (ns:List Int),m=l.length-i/\i<=l.length/\ns.Pairwise (· < ·)/\(∀x,x∈ns↔∃y∈l.take i,(y:Int)=x)/\ns.length<=i/\Kn H H1 [] []/\
  lk 0 e1=.c (.sl fl 1 (AA l))/\lk 3 e1=.c (.sl fl' 1 (Qc ns))/\lk 4 e1=Uv i) l.length ?_ ?_))
 ·exact⟨0,_,[],ZA,ZA,ZC,ZC,ZC,Kn.ao H,rfl,rfl,rfl⟩
 ·rintro m e1 H1 ⟨i,fl',ns,hm,hi,ha,dv,bC,kn,l0,l3,l4⟩;refine Q1 (Qa ?_);simp only[go_sem,l0,l3,l4,Q4];intro _;refine Wu ?_ ?_
  ·intro hc;have af:i<l.length:=ZD
   have hg:l.getD i 0=l[i]:=Zaj
   refine Zd ?_
   refine Wr ?_;simp only[go_sem,af,Q4,BJ _ _ af,hg];refine O6 ha ZA λfl2 ns2 H2 hu mD eW mg=>?_;have kn:=kn.au hu;simp only[go_sem,Qu2];refine Zg ?_;refine⟨Qr,l.length-(i+1),ZA,i+1,fl2,ns2,rfl,ZA,mD,λx=>?_,ZA,kn,?_⟩
   ·rw[eW,dv,Jg af];constructor
    ·rintro (rfl|⟨y,hy,rfl⟩)
     ·exact⟨l[i],Ju _ (Jb.2 rfl),rfl⟩
     ·exact⟨y,Jr _ hy,rfl⟩
    ·rintro⟨y,hy,rfl⟩;rcases Jj.1 hy with hy|hy
     ·exact .inr ⟨y,hy,rfl⟩
     ·simp only[Jb]at hy;rw[hy];exact .inl rfl
   ·first|exact⟨rfl,rfl,rfl⟩|exact rfl|trivial
  ·intro hc;have bp:l.length<=i:=ZD
   rw[Jc bp]at dv;have hk:ns=(ns.map Int.toNat).map Int.ofNat:=by
    rw[Jbi]
    conv=>lhs;rw[<-Jbs ns]
    refine Ja8 λx hx=>?_;obtain⟨y,_,rfl⟩:=(dv x).1 hx;simp
   have kA:Qc ns=AA (ns.map Int.toNat):=by (conv=>lhs;rw[hk]);rfl
   refine Zb ?_;refine Zi kA ?_;refine Ze ?_;refine⟨_,.c _ _ (FrzR.same (Dq _)).sl,hK true (ns.map Int.toNat) _ kn.fin ?_ λx=>?_⟩
   ·rw[hk,Jbh]at ha;exact ha.imp λh=>ZI
   ·rw[Js];constructor
    ·rintro⟨v,hv,rfl⟩;obtain⟨y,hy,rfl⟩:=(dv v).1 hv;simpa using hy
    ·exact λh=>⟨(x:Int),(dv _).2 ⟨x,h,rfl⟩,ZC⟩
theorem Qa48 {p rg:Int}{fl:Bool}{rows:List (List C)}{nx:Nat->List Int}(hg:GF rows nx)(hf:Bn rows.length nx=true)
  (hK:∀(S:List Bool) (o:List Nat) H',Upd H H' []->Dfs (nxN nx) [0] (List.replicate rows.length false) [] S o->K (.c (.sl false 1 (AA o.reverse))) H') :
  Qv prog PD [.ag [Ui p,Ui rg,.sl fl 5 rows]] H K:=by
 have hn:=hg.n;have cd:=ER hf;have cP:∀(y:Nat) l a b d,C.sl fl 5 rows=.ai l a b d->l≠y:=by intro y l a b d h;cases h
 refine Qz ?_;refine Qd A6 Qbfs ?_;refine Za ?_;refine AC ?_;simp only[go_sem,FV];try intro _
 refine⟨by simp only[LIM];omega,λal dD H1 h1=>?_⟩;have kn:Kn H H1 [] ([(al,.vec 1 (Qs (List.replicate rows.length false)))]++[]):=(Kn.ao H).al dD h1;simp only[go_sem,Qzc];refine Q05 (F:=H1) hf ZA (hg.grd H1 fl) (cP al) rows.length 0 (List.replicate rows.length false) [] (.sl true 1 []) [] H1 _ ZC ZA cd (Dg _ _) kn.mid (.nil 1) ZC λS o oc Lg0 H2 hd k2 db=>?_;have kn:Kn H H2 [] ([(al,.vec 1 (Qs S))]++Lg0):=by
  have:=(kn.comp k2 rfl);simpa using this
 have bt:=db.ah;have bj:=db.aO;have am:=db.ax;rw[Q4]at am;have d9:∀x,x<(List.replicate rows.length false).length->∀y∈nxN nx x,y<(List.replicate rows.length false).length:=by
  rw[Je];exact λx hx y hy=>D6 hf hx hy
 have kT:∀x∈[0],x<(List.replicate rows.length false).length:=Zaz
 have ev:o.length<=rows.length:=by
  have h1:=hd.count d9 kT;have h2:=EH S;rw[hd.len,Je]at h2;simp only[Jq]at h1;omega
 simp only[go_sem,Qzb];refine Wg ?_;have nF:=eq_true (db.get kn).1;simp only[go_sem,nF,am];try intro _
 refine⟨Qr,?_⟩;refine Qh (Qe (Qx (λm e1 H1=>∃(k:Nat) (r:List Nat) (t:C) (Lg:Ul),m=k/\k<=o.length/\r.length+k=o.length/\r=(o.drop k).reverse/\Gr Lg 1 (AA r) t/\Kn H H1 [] (([(al,.vec 1 (Qs S))]++Lg0)++Lg)/\
  lk 3 e1=.c oc/\lk 4 e1=.c t/\lk 5 e1=Uv ((k:Int)-1)) o.length ?_ ?_))
 ·exact⟨o.length,[],_,[],rfl,ZA,ZC,ZC,.nil 1,ZL,rfl,rfl,rfl⟩
 ·clear kn nF;rintro m e1 H3 ⟨k,r,t,Lg,rfl,hk,dB,oH,ay,kn,l3,l4,l5⟩;have gk:=ay.ah;have nF:=eq_true (db.get kn.drop).1;have cL:=(db.get kn.drop).2;refine Q1 (Qa ?_);simp only[go_sem,l3,l4,l5];refine Wu ?_ ?_
  ·intro hc;have bp:(0:Int)<=(m:Int)-1:=ZD
   obtain⟨k,rfl⟩:∃k,m=k+1:=⟨m-1,ZA⟩;have ek:((k+1:Nat):Int)-1=(k:Int):=ZA
   have af:k<o.length:=ZA
   have b6:o.getD k 0=o[k]:=Zaj
   rw[ek];refine Zd ?_
   refine Wr ?_;simp only[go_sem,nF,am,bj,cL,af,BJ _ _ af,b6];refine kn.br (new:=AA [o[k]]) ay (.mk' _ _ _ _) (Dq _) (by simp only[Q4,LIM,Jp,Jq];omega) λt2 Lg2 H4 bW di kn=>?_;simp only[go_sem,Qzd];refine Zg ?_;refine⟨Qr,k,ZA,k,r++[o[k]],t2,Lg2,rfl,ZA,by simp only[Jaa,Jp,Jq];omega,?_,?_,kn,?_⟩
   ·rw[oH,J3 af,List.reverse_cons]
   ·rw[Q1b];exact bW
   ·first|exact⟨rfl,rfl,rfl⟩|exact rfl|trivial
  ·intro hc;have ip:m=0:=by have:¬(0:Int)<=(m:Int)-1:=ZD;omega
   subst ip;refine Wo ?_;rw[J8]at oH;subst oH;exact⟨_,.c _ _ (ay.frz kn (Dq _)),hK S o _ kn.fin hd⟩
theorem Qbfi {p rg:Int}{fl:Bool}{rows:List (List C)}{nx:Nat->List Int}(hg:GF rows nx)(hf:Bn rows.length nx=true)
  (hK:∀(o:List Nat) H',Upd H H' []->o.length<=rows.length->(∀x,x∈o↔x<rows.length/\AW (nxN nx) (-1) x=true)->K (.c (.sl false 1 (AA o))) H') :
  Qv prog PD [.ag [Ui p,Ui rg,.sl fl 5 rows]] H K:=by
 have cd:=ER hf;refine Qa48 hg hf λS o H' hu hd=>?_;have d9:∀x,x<(List.replicate rows.length false).length->∀y∈nxN nx x,y<(List.replicate rows.length false).length:=by
  rw[Je];exact λx hx y hy=>D6 hf hx hy
 have kT:∀x∈[0],x<(List.replicate rows.length false).length:=Zaz
 have bZ:∀x,x∈o↔x<rows.length/\AW (nxN nx) (-1) x=true:=λx=>by
  rw[hd.list d9 kT (Dg _),LY hf hd,inL];by_cases hx:x<rows.length
  ·rw[OZ _ _ hx];simp[hx]
  ·rw[Ja,Jo (by simpa using hx)];simp[hx]
 have ev:o.length<=rows.length:=by
  have h1:=hd.count d9 kT;have h2:=EH S;rw[hd.len,Je]at h2;simp only[Jq]at h1;omega
 exact hK o.reverse H' hu (by rw[List.length_reverse];exact ev) λx=>by rw[List.mem_reverse,bZ]
noncomputable def rchL (n:Nat)(g:Nat->List Nat):List Nat:=(List.range n).filter (AW g (-1))
theorem Qau4 {p rg:Int}{fl:Bool}{rows:List (List C)}{nx:Nat->List Int}(hg:GF rows nx)(hf:Bn rows.length nx=true)
  (hK:∀H',Upd H H' []->K (.c (.sl false 1 (AA (rchL rows.length (nxN nx))))) H') :
  Qv prog Qob [.ag [Ui p,Ui rg,.sl fl 5 rows]] H K:=by
 have hn:=hg.n;refine Qz ?_;refine Qd A6 Qai1 ?_;refine Wh ?_;refine Qbkf (hg.grd H fl) ?_;simp only[go_sem,OG,hf];refine Qh (Qf rfl (λh=>ZH) (λ_=>?_));refine Zd ?_
 refine Za ?_;refine Qbfi hg hf λo H1 hu ev hom=>?_;have kn:=(Kn.ao H).au hu;simp only[go_sem,Qjq];refine Qa49 ZA λ_ k H2 hu ha hk=>?_;have kn:=kn.au hu;simp only[go_sem,P0];have e:k=rchL rows.length (nxN nx):=Qbi2 ha λx=>by rw[hk,hom]
 refine Ze ?_;rw[e];exact⟨_,.c _ _ (FrzR.same (Dq _)).sl,hK _ kn.fin⟩
theorem Qx7 (n:Nat)(v:Int):List.replicate n [C.int .i64 v]=Qc (List.replicate n v):=Zat
theorem DI (l:List Int)(i:Nat)(v:Int):(Qc l).set i [C.int .i64 v]=Qc (l.set i v):=by simp[Qc,Jal]
def C0 (n:Nat)(l:List Nat)(P:List Int):Prop:=P.length=n/\∀x∈l,∃i,∃h:i<l.length,l[i]=x/\P.getD x 0=(i:Int)
theorem Qbfk {n:Nat}{fl:Bool}{l:List Nat}(hn:n<=1000000)(hl:l.length<=1000000)(hx:∀x∈l,x<n)(hK:∀P H',C0 n l P->Upd H H' []->K (.c (.sl false 1 (Qc P))) H') :
  Qv prog NH [Uv n,.c (.sl fl 1 (AA l))] H K:=by
 refine Qz ?_;refine Qd A6 Qbft ?_;refine Wd ?_;refine⟨by simp only[LIM];omega,λy hy H1 h1=>?_⟩;rw[Qx7]at h1;have kn:=(Kn.ao H).al hy h1;simp only[go_sem,Qzi];refine Wa ?_;refine Qh (Qe (Qx (λm e1 H1=>∃(i:Nat) (P:List Int),m=n-i/\i<=n/\P.length=n/\Kn H H1 [] [(y,.vec 1 (Qc P))]/\
  lk 0 e1=Uv n/\lk 1 e1=.c (.sl fl 1 (AA l))/\lk 5 e1=.c (.ai y 1 0 n)/\lk 6 e1=Uv i) n ?_ ?_))
 ·exact⟨0,List.replicate n 0,ZA,ZA,ZC,kn,rfl,rfl,rfl,rfl⟩
 ·clear kn h1;rintro m e1 H2 ⟨i,P,hm,hi,hP,kn,l0,l1,l5,l6⟩;have hy:=kn.l 0 rfl;have bP:(Qc P).take n=Qc P:=Jc Zab;refine Q1 (Qa ?_);simp only[go_sem,l0,l1,l5,l6];refine Wu ?_ ?_
  ·intro hc;have af:i<n:=ZD
   refine Zd ?_
   refine Qh (Qe ?_);have xj:i<P.length:=ZA
   refine Qq ?_;simp only[go_sem,hy,af,Qb,hP,Qo _ _ xj,DI,Jm,Jk];intro H3 h3;have kn:=kn.aA 0 rfl h3;refine Zg ?_;refine⟨Qr,n-(i+1),ZA,i+1,_,rfl,ZA,by rw[Jh];exact hP,kn,?_⟩
   first|exact⟨rfl,rfl,rfl,rfl⟩|exact rfl|trivial
  ·intro hc;refine Zb ?_;refine Wa ?_;refine Qh (Qe (Qx (λm e1 H1=>∃(j:Nat) (P:List Int),m=l.length-j/\j<=l.length/\P.length=n/\(∀x∈l.take j,∃i,∃h:i<l.length,l[i]=x/\P.getD x 0=(i:Int))/\Kn H H1 [] [(y,.vec 1 (Qc P))]/\
    lk 1 e1=.c (.sl fl 1 (AA l))/\lk 5 e1=.c (.ai y 1 0 n)/\lk 7 e1=Uv j) l.length ?_ ?_))
   ·exact⟨0,P,ZA,ZA,hP,ZC,kn,rfl,rfl,rfl⟩
   ·clear kn hy bP hP;clear P;rintro m e1 H3 ⟨j,P,hm,hj,hP,cQ,kn,l1,l5,l7⟩;have hy:=kn.l 0 rfl;refine Q1 (Qa ?_);simp only[go_sem,l1,l5,l7,Q4];intro _;refine Wu ?_ ?_
    ·intro hc;have af:j<l.length:=ZD;have b6:l.getD j 0=l[j]:=Zaj;have rC:=hx _ (Jf af);have yZ:l[j]<P.length:=ZA;refine Zd ?_
     refine Wr ?_;simp only[go_sem,hy,af,Q4,BJ _ _ af,b6,rC,Qb,hP,Qo _ _ yZ,DI,Jm,Jk];intro H4 h4;have kn:=kn.aA 0 rfl h4;refine Zg ?_;refine⟨Qr,l.length-(j+1),ZA,j+1,_,rfl,ZA,by rw[Jh];exact hP,λx kR=>?_,kn,?_⟩
     ·by_cases kS:x=l[j]
      ·refine⟨j,af,kS.symm,?_⟩;rw[kS,Ja,List.getElem?_set_self yZ];rfl
      ·rw[Jg af]at kR;rcases Jj.1 kR with h|h
       ·obtain⟨i,hi,h1,h2⟩:=cQ x h;refine⟨i,hi,h1,?_⟩;rw[Ja,Ja6 (λh=>kS h.symm),<-Ja];exact h2
       ·exact absurd (Jb.1 h) kS
     ·first|exact⟨rfl,rfl,rfl⟩|exact rfl|trivial
    ·intro hc;have bp:l.length<=j:=ZD;rw[Jc bp]at cQ;refine Wo ?_;exact⟨_,.c _ _ ((FrzR.same (Qw _)).ai (kn.un 0 rfl) hy (by rw[Qb,hP])),hK P _ ⟨hP,cQ⟩ kn.fin⟩
def Cb (ids:List Int)(b n:Nat):List Nat:=(List.range n).filter λi=>decide (ids.getD i 0=(b:Int))
theorem LN (ids:List Int)(b n:Nat):Cb ids b (n+1)=Cb ids b n++if decide (ids.getD n 0=(b:Int))=true then [n]else []:=by
 simp only[Cb,Jar,J9];congr 1;by_cases h:ids.getD n 0=(b:Int)
 ·rw[decide_eq_true h,if_pos rfl];simp only[Jaz,Ja2,h,decide_true,if_true]
 ·rw[decide_eq_false h,if_neg ZC];simp only[Jaz,Ja2,h,decide_false,Jat,if_false]
theorem Qbkc (ids:List Int)(b n:Nat):(Cb ids b n).length<=n:=by
 have:=List.length_filter_le (λi=>decide (ids.getD i 0=(b:Int))) (List.range n);simpa[Cb]using this
theorem Qbkh {fl:Bool}{ids:List Int}{b:Nat}(hl:ids.length<=1000000)(hK:∀H',Upd H H' []->K (.c (.sl false 1 (AA (Ck ids b)))) H') :
  Qv prog L5 [.c (.sl fl 1 (Qc ids)),Uv b] H K:=by
 refine Qz ?_;refine Qd A6 Qbla ?_;refine Wd ?_;refine Wa ?_;refine Qh (Qe (Qx (λm e1 H1=>∃(i:Nat) (t:C) (Lg:Ul),m=ids.length-i/\i<=ids.length/\Gr Lg 1 (AA (Cb ids b i)) t/\Kn H H1 [] ([]++Lg)/\
  lk 0 e1=.c (.sl fl 1 (Qc ids))/\lk 1 e1=Uv b/\lk 5 e1=.c t/\lk 6 e1=Uv i) ids.length ?_ ?_))
 ·exact⟨0,_,[],ZA,ZA,.nil 1,Kn.ao H,rfl,rfl,rfl,rfl⟩
 ·rintro m e1 H1 ⟨i,t,Lg,hm,hi,ay,kn,l0,l1,l5,l6⟩;have gk:=ay.ah;refine Q1 (Qa ?_);simp only[go_sem,l0,l1,l5,l6,Qb];intro _;refine Wu ?_ ?_
  ·intro hc;have af:i<ids.length:=ZD
   have ce:=Qbkc ids b i;refine Zd ?_
   refine Bk (λe2 H2=>∃(t:C) (Lg:Ul),Gr Lg 1 (AA (Cb ids b (i+1))) t/\Kn H H2 [] ([]++Lg)/\
    lk 0 e2=.c (.sl fl 1 (Qc ids))/\lk 1 e2=Uv b/\lk 5 e2=.c t/\lk 6 e2=Uv i) ?_ ?_
   ·intro Q bH _ _;refine Qe (Qa ?_);simp only[go_sem,af,Qb,Qo _ _ af];refine Wv ?_ ?_
    ·intro a7;refine Zh ?_;refine kn.br (B:=[]) (new:=AA [i]) ay (.mk' _ _ _ _) (Dq _) (by simp only[Q4,LIM,Jp,Jq];omega) λt2 Lg2 H2 bW di kn=>?_;simp only[go_sem,P2];refine bH _ _ ⟨t2,Lg2,?_,kn,rfl,rfl,rfl,rfl⟩;rw[LN,a7,if_pos rfl,Q1b];exact bW
    ·intro a7;refine Zd ?_
     refine bH _ _ ⟨t,Lg,?_,kn,rfl,rfl,rfl,rfl⟩;rw[LN,a7];simpa using ay
   ·rintro e2 H2 ⟨t2,Lg2,bW,kn,l0,l1,l5,l6⟩;have di:=bW.ah;refine Qq ?_;simp only[go_sem,X.next,l0,l1,l5,l6];refine⟨Qr,ids.length-(i+1),ZA,i+1,t2,Lg2,rfl,ZA,bW,kn,?_⟩
    first|exact⟨rfl,rfl,rfl,rfl⟩|exact rfl|trivial
  ·intro hc;have bp:i=ids.length:=by have:ids.length<=i:=ZD;omega
   refine Wo ?_;have e:Cb ids b i=Ck ids b:=by rw[bp];rfl
   rw[e]at ay;exact⟨_,.c _ _ (ay.frz kn (Dq _)),hK _ kn.fin⟩
theorem Qbfm {fl:Bool}{n:Nat}{g:Nat->List Nat}(cd:0<n)(hn:n<=1000000)(hK:∀ids H',Tree n ids (depL n g)->Upd H H' []->K (.c (.sl false 1 (Qc ids))) H') :
  Qv prog NF [.c (.sl fl 1 (ovOf n g n))] H K:=by
 have xe:Int.toNat (-1)=0:=rfl;refine Qz ?_;refine Qd A6 Qbfv ?_;refine Wd ?_;refine Wa ?_;refine Qh (Qe (Qx (λm e1 H1=>∃(b:Nat) (ids:List Int) (t:C) (Lg:Ul),m=n-b/\b<=n/\ids.length=b/\(∀x,x<b->ids.getD x 0=-1\/∃a:Nat,ids.getD x 0=a/\a<n/\depL n g a<depL n g x)/\Gr Lg 1 (Qc ids) t/\Kn H H1 [] ([]++Lg)/\
  lk 0 e1=.c (.sl fl 1 (ovOf n g n))/\lk 3 e1=.c t/\lk 4 e1=Uv b) n ?_ ?_))
 ·exact⟨0,[],_,[],ZA,ZA,rfl,λx hx=>ZA,.nil 1,Kn.ao H,rfl,rfl,rfl⟩
 ·rintro m e1 H1 ⟨b,ids,t,Lg,hm,hb,cj,tO,ay,kn,l0,l3,l4⟩;have gk:=ay.ah;refine Q1 (Qa ?_);simp only[go_sem,l0,l3,l4,Gn];intro _;refine Wu ?_ ?_
  ·intro hc;have af:b<n:=ZD
   refine Zd ?_
   refine Bk (λe2 H2=>∃(v:Int),(v=-1\/∃a:Nat,v=a/\a<n/\depL n g a<depL n g b)/\∃(t:C) (Lg:Ul),Gr Lg 1 (Qc (ids++[v])) t/\Kn H H2 [] ([]++Lg)/\
    lk 0 e2=.c (.sl fl 1 (ovOf n g n))/\lk 3 e2=.c t/\lk 4 e2=Uv b) ?_ ?_
   ·intro Q bH _ _;refine Wt ?_;refine Wa ?_;refine Qh (Qe (Qx (λm e1 H1'=>∃(a:Nat) (v:Int),m=n-a/\a<=n/\H1'=H1/\(v=-1\/∃a:Nat,v=a/\a<n/\depL n g a<depL n g b)/\
     lk 0 e1=.c (.sl fl 1 (ovOf n g n))/\lk 3 e1=.c t/\lk 4 e1=Uv b/\lk 5 e1=Uv v/\lk 6 e1=Uv a) n ?_ ?_))
    ·exact⟨0,-1,ZA,ZA,rfl,.inl rfl,rfl,rfl,rfl,rfl,rfl⟩
    ·rintro m2 e2 H2 ⟨a,v,eW,ha,rfl,hv,l0,l3,l4,l5,l6⟩;refine Q1 (Qa ?_);simp only[go_sem,l0,l3,l4,l5,l6,Gn];intro _;refine Wu ?_ ?_
     ·intro a7;have dD:a<n:=ZF;have uh:b<(Cs n g a).length:=(by rw[EU];exact af);refine Zd ?_
      refine Bk (λe2 H2'=>∃(v:Int),H2'=H2/\(v=-1\/∃a:Nat,v=a/\a<n/\depL n g a<depL n g b)/\
       lk 0 e2=.c (.sl fl 1 (ovOf n g n))/\lk 3 e2=.c t/\lk 4 e2=Uv b/\lk 5 e2=Uv v/\lk 6 e2=Uv a) ?_ ?_
      ·intro Q2 tf _ _;refine Qe ?_;obtain⟨w,hw,mT,tk⟩:∃w:Nat,v.toNat=w/\w<n/\(decide (v<0)=false->v=(w:Int)):=by
        rcases hv with rfl|⟨a',rfl,h1,_⟩
        ·exact⟨0,rfl,cd,λh=>ZH⟩
        ·exact⟨a',ZA,h1,λ_=>rfl⟩
       have had:a<(Cs n g w).length:=(by rw[EU];exact dD);refine Qa ?_;simp only[go_sem,dD,af,hw,mT,Gn,FT dD,FT mT,Q0,EU,Q6 _ _ uh,Q6 _ _ had,Q92 af,Q92 dD];refine⟨λh=>?_,?_⟩
       ·rw[Jl,Jbe,decide_eq_false_iff_not]at h;omega
       refine Wv ?_ ?_
       ·intro bn;have hd:¬((a:Int)=b)/\Br g a b=true:=by
         by_cases eH:(a:Int)=b
         ·rw[decide_eq_true eH]at bn;simp at bn
         ·refine⟨eH,?_⟩
          cases hd:Br g a b with
          |true=>rfl
          |false=>rw[decide_eq_false eH,hd]at bn;simp at bn
        refine Zh ?_;exact tf _ _ ⟨(a:Int),rfl,.inr ⟨a,rfl,dD,VY af hd.2 λh=>hd.1 (by rw[h])⟩,rfl,rfl,rfl,rfl,rfl⟩
       ·intro _;refine Zd ?_
        exact tf _ _ ⟨v,rfl,hv,rfl,rfl,rfl,rfl,rfl⟩
      ·rintro e3 H3 ⟨v2,rfl,jN,l0,l3,l4,l5,l6⟩;refine Qq ?_;simp only[go_sem,l0,l3,l4,l5,l6];refine⟨Qr,?_⟩;show ∃m,_;exact⟨n-(a+1),by rw[eW];exact Nat.sub_lt_sub_left dD (Nat.lt_succ_self a),a+1,v2,rfl,dD,rfl,jN,rfl,rfl,rfl,rfl,rfl⟩
     ·intro a7;refine Zb ?_;refine Zh ?_;refine kn.br (B:=[]) (new:=Qc [v]) ay (.mk' _ _ _ _) (Qw _) (by simp only[Qb,LIM,Jp,Jq];omega) λt2 Lg2 H3 bW di kn=>?_;simp only[go_sem,On];refine bH _ _ ⟨v,hv,t2,Lg2,?_,kn,rfl,rfl,rfl⟩;have:Qc (ids++[v])=Qc ids++Qc [v]:=Zat;rw[this];exact bW
   ·rintro e2 H2 ⟨v,hv,t2,Lg2,bW,kn,l0,l3,l4⟩;have di:=bW.ah;refine Qq ?_;simp only[go_sem,X.next,l0,l3,l4];refine⟨Qr,n-(b+1),ZA,b+1,ids++[v],t2,Lg2,rfl,ZA,by simp[cj],λx hx=>?_,bW,kn,?_⟩
    ·by_cases sj:x<b
     ·have e:(ids++[v]).getD x 0=ids.getD x 0:=(by simp[Ja,List.getElem?_append_left (show x<ids.length by omega)]);rw[e];exact tO x sj
     ·have kS:x=b:=ZA;subst kS;have e:(ids++[v]).getD x 0=v:=(by simp[Ja,<-cj]);rw[e];exact hv
    ·first|exact⟨rfl,rfl,rfl⟩|exact rfl|trivial
  ·intro hc;have f0:b=n:=by have:n<=b:=ZD;omega
   subst f0;refine Wo ?_;exact⟨_,.c _ _ (ay.frz kn (Qw _)),hK ids _ ⟨cj,tO⟩ kn.fin⟩
end Go.AE.Y
namespace Go.AE.Y
open Go.Proofs.Tryz
variable {H:Heap}{K:Uk}
theorem Ib {op:Int}(hK:K (.c (.bool (decide (1<=op)&&decide (op<=14)))) H):Qv prog Q99 [Uv op] H K:=by
 refine Qd A6 Qbfr ?_;refine Wd ?_;refine Dc ?_;simp only[go_sem,O1];refine Ze ?_;exact hK
theorem Qbpm {n:Int}(hK:K (.c (.bool (decide (0<=n)&&decide (n<=255)))) H):Qv prog Q2t [Uv n] H K:=by
 refine Qd A6 Qa5f ?_;refine Wd ?_;refine Dc ?_;simp only[go_sem,O1];refine Ze ?_;exact hK
theorem Fl {op:Int}(hK:K (.c (.bool (BR op))) H):Qv prog LC [Uv op] H K:=by
 refine Qd A6 Qbk3 ?_;refine Wd ?_;refine Ib ?_;simp only[go_sem,Ps];refine Ze ?_;have:∀a b c:Bool,(bif bif a then b else false then c else false)=(a&&b&&c):=ZN
 rw[this];have e:(decide (1<=op)&&decide (op<=14))=decide (1<=op/\op<=14):=ZC
 rw[e];exact hK
theorem F1 {j:Int}(hK:K (.c (.bool (decide (j=2) || decide (j=3)))) H):Qv prog Q2v [.c (.int .i64 j)] H K:=by
 refine Qd A6 Qa5k ?_;refine Wd ?_;refine Ze ?_;have:∀a b:Bool,(bif a then true else b)=(a || b):=ZN
 first|(rw[this];exact hK)|exact hK
theorem Qa5z {j:Int}(hK:K (Uv (Bd j)) H):Qv prog Qn4 [Uv j] H K:=by
 refine Qd A6 Qaiv ?_;have retf:∀(n:Int) (e:Env),Bd j=n->lk 2 e=Uv n->Q7 A8 K .ret e H:=by
  intro b e h1 h3;simp only[go_sem,Q7,A5,Jb,forall_eq,RS.op,h3];rw[<-h1];exact hK
 refine Wh ?_;refine Wf ?_;refine Wv ?_ ?_
 ·intro hc;refine We ?_;exact retf 1 _ Zag ZB
 intro bB;refine Za ?_;refine Wv ?_ ?_
 ·intro hc;refine We ?_;exact retf 2 _ Zag ZB
 intro a7;refine Za ?_;refine Wv ?_ ?_
 ·intro hc;refine We ?_;exact retf 0 _ Zag ZB
 ·intro hc;refine Zc ?_;refine Za ?_;refine Qk ?_;exact retf (-1) _ (by simp at hc bB a7;simp[Bd,hc,bB,a7]) ZB
def Cc (op:Int):Int:=if op=1 then 0 else if op=2\/op=10\/op=11\/op=13 then 1 else 2
theorem Qbjx {op:Int}(hK:K (Uv (Cc op)) H):Qv prog Qxq [Uv op] H K:=by
 refine Qd A6 Qawp ?_;have retf:∀(n:Int) (e:Env),Cc op=n->lk 2 e=Uv n->Q7 A8 K .ret e H:=by
  intro b e h1 h3;simp only[go_sem,Q7,A5,Jb,forall_eq,RS.op,h3];rw[<-h1];exact hK
 refine Wh ?_;refine Wf ?_;refine Wv ?_ ?_
 ·intro hc;refine We ?_;exact retf 0 _ (by simp at hc;simp[Cc,hc]) ZB
 intro bB;have fin:∀(b:Bool) (e:Env),b=decide (op=2\/op=10\/op=11\/op=13)->lk 6 e=.c (.bool b)->A9 prog Qt4 (X.inBlock 0 (X.sq prog Qt5 (Q7 A8 K))) e H:=by
  intro b e hb l6;refine Qf l6 ?_ ?_
  ·intro hc;refine We ?_;exact retf 1 _ (by rw[hc]at hb;have:=of_decide_eq_true hb.symm;simp at bB;rw[Cc,if_neg bB,if_pos this]) ZB
  ·intro hc;refine Zc ?_;refine Za ?_;refine Qk ?_;exact retf 2 _ (by rw[hc]at hb;have:=of_decide_eq_false hb.symm;simp at bB;rw[Cc,if_neg bB,if_neg this]) ZB
 refine Wa ?_;refine Wu ?_ ?_
 ·intro hc;refine Zc ?_;exact fin true _ (decide_eq_true (.inl (of_decide_eq_true hc))).symm Zas
 intro a7;refine Za ?_;refine Wv ?_ ?_
 ·intro hc;refine Zc ?_;exact fin true _ (decide_eq_true (.inr (.inl (of_decide_eq_true hc)))).symm Zas
 intro bn;refine Za ?_;refine Wv ?_ ?_
 ·intro hc;refine Zc ?_;exact fin true _ (decide_eq_true (.inr (.inr (.inl (of_decide_eq_true hc))))).symm Zas
 intro dc;refine Zh ?_;refine fin (decide (op=13)) _ ?_ ZB;have a2:=of_decide_eq_false a7;have a3:=of_decide_eq_false bn;have a4:=of_decide_eq_false dc;simp[a2,a3,a4]
theorem NV {l:List BlkD}(hf:∀b∈l,b.ins.length<=2 ^ 38/\b.ab.length<=2 ^ 38):AL AT l<=l.length * 549755813888:=by
 induction l with
 |nil=>simp[AL]
 |cons y l ih=>
  have h1:=hf y Jn;have h2:=ih λb hb=>hf b (Ji _ hb);simp only[AL,Jv,Jay,AT,Jp]at *;omega
theorem Q91 {q:CodeD}{fl:Bool}(hf:q.fits)(hb:q.blocks.length<=160)(hK:∀H',Upd H H' []->K (Uv (AI q)) H') :
  Qv prog Qnz [.ag [Ui q.params,Ui q.ae,.sl fl 5 (Qm q.blocks)]] H K:=by
 refine Qz ?_;refine Qd A6 Qaiq ?_;have fH:=NV hf;refine Wd ?_;refine Q1 (Qa ?_);simp only[go_sem,Ql];intro _;refine Qh (Qe (Qx (λm e1 H1=>∃(i:Nat),m=q.blocks.length-i/\i<=q.blocks.length/\Kn H H1 [] []/\
  e1=[(3,Uv (AL AT (q.blocks.take i):Nat)),(7,.c (.sl fl 5 (Qm q.blocks))),(8,.c (Ui q.blocks.length)),(9,Uv i)]) q.blocks.length ?_ ?_))
 ·exact⟨0,ZA,ZA,Kn.ao H,rfl⟩
 ·rintro m e1 H1 ⟨i,hm,hi,kn,rfl⟩;refine Za ?_;refine Wu ?_ ?_
  ·intro hc;have af:i<q.blocks.length:=ZD
   have rP:=hf _ (Jf af);have mW:=DE (f:=AT) af;have aR:=Dx (f:=AT) (l:=q.blocks) (i+1);have gD:AT q.blocks[i]=q.blocks[i].ins.length+q.blocks[i].ab.length:=rfl;have tr:q.blocks.length * 549755813888<=160 * 549755813888:=Jao _ hb;refine Wm ?_;simp only[go_sem,af,Ql,Q9 _ _ af,BlkD.cells];intro x5 bm H2 h2;have kn:=kn.al bm h2;have bm:=kn.l 0 rfl;simp only[go_sem,Qja,bm];intro H3 h3;have kn:Kn H H3 [] ([]++[(x5,.st [.sl false 2 (Q3 q.blocks[i].ab),.sl false 4 (AD q.blocks[i].ins),Ui q.blocks[i].jump,Ui q.blocks[i].on,.sl false 1 (Qc q.blocks[i].next)])]):=kn.aA 0 rfl h3;have bm:=kn.l 0 rfl;refine Qq ?_;simp only[go_sem,bm,Bm,Qy];intro _ _;refine⟨Qr,Qr,?_⟩;refine Zg ?_;refine⟨Qr,q.blocks.length-(i+1),ZA,i+1,rfl,ZA,kn.drop,?_⟩;rw[mW,gD];have:((AL AT (q.blocks.take i):Nat):Int)+((q.blocks[i].ab.length:Int)+q.blocks[i].ins.length)=((AL AT (q.blocks.take i)+(q.blocks[i].ins.length+q.blocks[i].ab.length):Nat):Int):=ZA
   rw[this];rfl
  ·intro hc;have bp:q.blocks.length<=i:=ZD
   refine Wo ?_;rw[Jc bp];exact⟨_,.c _ _ (Qg rfl),hK _ kn.fin⟩
theorem LP {x7:Nat}{q:CodeD}{v:Int}(h7:H x7=.st q.cells)(hr:-(2^62)<=q.ae)(f9:q.ae<=2^62)(hK:K (.c (.bool (decide (0<=v/\v<=q.ae-1)))) H) :
  Qv prog Pa [Uv v,Up x7] H K:=by
 refine Qd A6 Qaq4 ?_;refine Wk ?_;simp only[go_sem,h7,CodeD.cells];refine⟨Qr,?_⟩;refine Dc ?_;simp only[go_sem,Ri];refine Ze ?_;have e:(decide (0<=v)&&decide (v<=q.ae-1))=decide (0<=v/\v<=q.ae-1):=ZC
 rw[e];exact hK
theorem Qbfa {x7 x8:Nat}{q:CodeD}{v:Int}(h7:H x7=.st q.cells)(h8:H x8=.st [.fn Pa [.ptr x7 0]])(hr:-(2^62)<=q.ae)(f9:q.ae<=2^62)(hK:K (.c (.bool (!decide (0<=v/\v<=q.ae-1)))) H) :
  Qv prog Qs9 [Uv v,Up x8] H K:=by
 refine Qd A6 Qaq5 ?_;refine Wk ?_;simp only[go_sem,h8,J1,Jx,Jv,Jab];refine LP h7 hr f9 ?_;simp only[go_sem,Rh];refine Ze ?_;exact hK
theorem Gc (p:Int->Bool)(l:List Int):(l.any λx=>!p x) = !l.all p:=by
 induction l with
 |nil=>rfl
 |cons x l ih=>simp only[List.any_cons,List.all_cons,ih];cases p x <;> simp
theorem Vv {cs:List CodeD}{fl:Bool}{k:Nat}{x:InsD}(hk:k<cs.length)(hr:0<=cs[k].ae)(f9:cs[k].ae<=300)(cA:cs.length<=100)(hK:∀(H':Heap),Upd H H' []->K (.c (.bool (Be cs k x))) H') :
  Qv prog Q98 [.ag [.sl fl 3 (Qn cs)],Uv k,.ag x.cells] H K:=by
 refine Qz ?_;refine Qd A6 Qbfq ?_;refine Zy ?_;refine Qa ?_;simp only[go_sem,hk,Q5,Cg _ _ hk,CodeD.cells];intro x7 b7 H1 h1;have kn:=(Kn.ao H).al b7 h1;have b7:=kn.l 0 rfl;simp only[go_sem,Ov,b7];intro H2 h2;have kn:=kn.aA 0 rfl h2;refine Za ?_;intro x8 be H3 h3;have kn:=kn.al be h3;have be:=kn.l 1 rfl;simp only[go_sem,Qy7,be];intro H4 h4;have kn:Kn H H4 [] [(x7,.st cs[k].cells),(x8,.st [.fn Pa [.ptr x7 0]])]:=kn.aA 1 rfl h4;have h7:H4 x7=.st cs[k].cells:=kn.l 0 rfl;have h8:=kn.l 1 rfl;have iM:=GE hk;have retf:∀(b:Bool) (e:Env),Be cs k x=b->lk 6 e=.c (.bool b)->Q7 AJ (unK H K) .ret e H4:=by
  intro b e h1 h3;simp only[go_sem,Q7,A5,Jb,forall_eq,RS.op,h3];rw[<-h1];exact⟨_,.c _ _ (Qg rfl),hK _ kn.fin⟩
 refine Wa ?_;refine Ib ?_;simp only[go_sem,Qy8];have rest2:∀(E1:Env) (b:Bool),insH cs[k].ae x=true->insT cs[k].ae x=(!b)->lk 1 E1=Uv k->lk 3 E1=.c (.pp [.sl fl 3 (Qn cs)])->lk 5 E1=.c (.pp [Ui x.op,Ui x.to,.sl false 1 (Qc x.args),Ui x.n])->lk 45 E1=.c (.bool b)->
   A9 prog (s_im_insOk_8.seq Qy4) (Q7 AJ (unK H K)) E1 H4:=by
  intro E1 b bg cx l1 l3 l5 l45;refine Qh (Qf l45 ?_ ?_)
  ·intro hc;refine We ?_;exact retf false _ (by rw[Be,iM,cx,hc];simp) ZB
  intro hc;rw[hc]at cx;have hG:Be cs k x=insL cs k x:=by rw[Be,iM,bg,cx];rfl
  have oL:1<=x.op/\x.op<=14:=by
   simp only[insH,Jl,decide_eq_true_eq]at bg;exact bg.1
  refine Zc ?_;refine Q1 (Qa ?_);simp only[go_sem,l1,l3,l5];refine Wf ?_;refine Wv ?_ ?_
  ·intro hc;have bG:x.op=1:=of_decide_eq_true hc;have hL:insL cs k x=(decide ((x.args.length:Int)=0)&&(decide (0<=x.n)&&decide (x.n<=255))):=by
    rw[insL,if_neg ZA];simp[BQ,bG]
   refine Qa ?_;simp only[go_sem,Qb];intro _;refine⟨λhb=>?_,λhb=>?_⟩
   ·refine Qbpm ?_;simp only[go_sem,Rc];refine Zk ?_;refine retf _ _ ?_ ZJ;have aT:x.args=[]:=List.length_eq_zero_iff.1 (by have:=of_decide_eq_true hb;omega);rw[hG,hL];simp[aT]
   ·simp only[go_sem,Rc,hb];refine Zk ?_;exact retf false _ (by rw[hG,hL,hb];rfl) ZB
  intro bB;have qw:¬x.op=1:=of_decide_eq_false bB;refine Za ?_;refine Wv ?_ ?_
  ·intro hc;have bG:x.op=14:=of_decide_eq_true hc;rw[insL,if_pos bG]at hG;refine Zz ?_;refine⟨Qr,?_⟩;refine Dc ?_;by_cases cq:0<=x.n/\x.n<=(k:Int)-1
   ·obtain⟨m,hm⟩:=Int.eq_ofNat_of_zero_le cq.1;have cD:m<cs.length:=ZA;have h1:(0<=(m:Int))=True:=eq_true ZA;have h2:((m:Int)<=(k:Int)-1)=True:=eq_true ZA;simp only[go_sem,OU,hm,h1,h2,cD,decide_true,Bool.and_self,Q5,Cg _ _ cD,CodeD.cells,Qb];refine Zk ?_;refine retf _ _ ?_ ZJ;rw[hG,hm,Int.toNat_natCast,GG cD];simp only[h1,h2,and_self,decide_true,Jbo]
   ·have iq:(decide (0<=x.n)&&decide (x.n<=(k:Int)-1))=false:=(by simpa using cq);have tM:decide (0<=x.n/\x.n<=(k:Int)-1)=false:=(by simpa using cq);by_cases hm:x.n.toNat<cs.length
    ·simp only[go_sem,OU,iq,Cg _ _ hm,CodeD.cells];refine Zk ?_;exact retf false _ (by rw[hG,tM];rfl) ZB
    ·have b6:(Qn cs).getD x.n.toNat []=[]:=by
      rw[Ja,Jo (by rw[Q5];omega)];rfl
     simp only[go_sem,OU,iq,b6,List.take_nil,List.headD_nil];refine Zk ?_;exact retf false _ (by rw[hG,tM];rfl) ZB
  ·intro hc;have bG:¬x.op=14:=of_decide_eq_false hc;have hA:BQ x.op=Cc x.op:=by
    rw[BQ,Cc,if_neg qw,if_neg qw];split
    ·rfl
    ·rw[if_pos ZA]
   have hL:insL cs k x=(decide (x.n=0)&&decide ((x.args.length:Int)=Cc x.op)):=by
    rw[insL,if_neg bG,hA];by_cases hn:x.n=0
    ·simp[hn]
    ·simp[hn,qw]
   refine Zc ?_;refine AC ?_;simp only[go_sem,Qb];refine⟨λhb=>?_,λhb=>?_⟩
   ·refine Qbjx ?_;simp only[go_sem,Ro,hb,Qb];refine Qk ?_;refine retf _ _ ?_ ZJ;have aT:=of_decide_eq_true hb;rw[hG,hL];simp[aT]
   ·simp only[go_sem,Ro,hb,Qb];refine Qk ?_;exact retf false _ (by rw[hG,hL,hb];rfl) ZB
 have rest:∀(E1:Env) (b:Bool),insH cs[k].ae x=(!b)->lk 1 E1=Uv k->lk 3 E1=.c (.pp [.sl fl 3 (Qn cs)])->lk 5 E1=.c (.pp [Ui x.op,Ui x.to,.sl false 1 (Qc x.args),Ui x.n])->lk 8 E1=Up x8->lk 24 E1=.c (.bool b)->
   A9 prog (s_im_insOk_4.seq Qy5) (Q7 AJ (unK H K)) E1 H4:=by
  intro E1 b hb l1 l3 l5 l8 l24;refine Qh (Qf l24 ?_ ?_)
  ·intro hc;refine We ?_;exact retf false _ (by rw[Be,iM,hb,hc];rfl) ZB
  intro hc;rw[hc]at hb;refine Zc ?_;refine Q1 (Qa ?_);simp only[go_sem,l5];refine Fl ?_
  cases cD:BR x.op with
  |true=>
   simp only[go_sem,Jy,Rd,l5,l8,h8];refine LP h7 ZA ZA ?_;have hT:insT cs[k].ae x=decide (0<=x.to/\x.to<=cs[k].ae-1):=by rw[insT,cD];rfl
   cases hd:decide (0<=x.to/\x.to<=cs[k].ae-1)with
   |true=>
    simp only[go_sem,cond_true,Jap,Jy,OP,l5];refine Fl ?_;simp only[go_sem,cond_false,Jap,Jy,OQ,l1,l3,l5,cD];exact rest2 _ false hb (by rw[hT,hd];rfl) ZB ZB ZB ZB
   |false=>
    simp only[go_sem,cond_true,Jap,Jy,OP,OQ,l1,l3,l5];exact rest2 _ true hb (by rw[hT,hd];rfl) ZB ZB ZB ZB
  |false=>
   have hT:insT cs[k].ae x=decide (x.to=-1):=by rw[insT,cD];rfl
   simp only[go_sem,cond_false,Jy,Rd,OP,l5,l8,h8];refine Fl ?_;simp only[go_sem,cond_true,cond_false,Jy,OQ,l1,l3,l5,cD];refine rest2 _ (!decide (x.to=-1)) hb ?_ ?_ ?_ ?_ ?_
   ·rw[hT];simp
   ·rfl
   ·rfl
   ·rfl
   ·rfl
 cases hi:(decide (1<=x.op)&&decide (x.op<=14))with
 |false=>
  simp only[go_sem,Re];refine rest _ true ?_ ZB ZB ZB ZB ZB;have:decide (1<=x.op/\x.op<=14)=false:=ZU
  rw[insH,this];rfl
 |true=>
  simp only[go_sem];refine Pb (p:=λr=>!decide (0<=r/\r<=cs[k].ae-1)) (.mk' _ _ _ _) rfl (λv K' hv o7=>Qbfa h7 h8 ZA ZA o7) ?_;simp only[go_sem,Re];refine rest _ (x.args.any λr=>!decide (0<=r/\r<=cs[k].ae-1)) ?_ ZB ZB ZB ZB ZB;have:decide (1<=x.op/\x.op<=14)=true:=ZU
  rw[insH,this,Gc,BC];simp
end Go.AE.Y
namespace Go.AE.Y
attribute [local go_sem] cond_true cond_false Bool.not_true Bool.not_false
open Go.Proofs.Tryz
variable {H:Heap}{K:Uk}
theorem Qavc {fl:Bool}{l:List InsD}{f:Nat}{caps:List C}{p:InsD->Bool}
  (hf:∀(x:InsD) (H1:Heap) (K':V->Heap->Prop),x∈l->(∀H2,Upd H1 H2 []->K' (.c (.bool (p x))) H2)->Qv prog f ([.ag x.cells]++caps.map .c) H1 K')
  (hK:∀(r:Int) (H':Heap),Upd H H' []->decide (0<=r)=l.any p->K (Uv r) H') :
  Qv prog Qf8 [.c (.sl fl 4 (AD l)),.c (.fn f caps)] H K:=by
 refine Qz ?_;refine Qd A6 Qyc ?_;refine Wg ?_;simp only[go_sem,Bm];intro hl;simp only[LIM]at hl;refine Qh (Qe (Qx (λm e1 H1=>∃(i:Nat),m=l.length-i/\i<=l.length/\Kn H H1 [] []/\(∀x∈l.take i,p x=false)/\e1=[(0,.c (.sl fl 4 (AD l))),(1,.c (.fn f caps)),(7,.c (Ui l.length)),(8,Uv i)]) l.length ?_ ?_))
 ·exact⟨0,ZA,ZA,Kn.ao H,ZC,rfl⟩
 ·rintro m e1 H1 ⟨i,hm,hi,kn,bI,rfl⟩;refine Za ?_;refine Wu ?_ ?_
  ·intro hc;have af:i<l.length:=ZD
   refine Zc ?_;refine Wf ?_;refine Qa ?_;simp only[go_sem,af,Bm,DJ _ _ af,InsD.cF,InsD.bv,InsD.len4];refine hf _ _ _ (Jf af) λH2 hu=>?_;have kn:=kn.au hu;refine Wv ?_ ?_
   ·intro a7;refine Za ?_;refine Zo ?_;refine⟨_,.c _ _ (Qg rfl),hK _ _ kn.fin ?_⟩;have:l.any p=true:=J7.2 ⟨_,Jf af,a7⟩;rw[this];simp
   ·intro a7;refine Wi ?_;refine⟨Qr,l.length-(i+1),ZA,i+1,rfl,ZA,kn,?_,rfl⟩;rw[Jg af];intro x hx;rcases Jj.1 hx with hx|hx
    ·exact bI x hx
    ·simp only[Jb]at hx;subst hx;exact a7
  ·intro hc;have bp:l.length<=i:=ZD
   rw[Jc bp]at bI;refine Wo ?_;refine⟨_,.c _ _ (Qg rfl),hK _ _ kn.fin ?_⟩;have:l.any p=false:=by
    cases hc:l.any p with
    |false=>rfl
    |true=>obtain⟨x,hx,hp⟩:=J7.1 hc;rw[bI x hx]at hp;exact absurd hp ZC
   rw[this];rfl
theorem Q9v {fl:Bool}{l:List InsD}{f:Nat}{caps:List C}{p:InsD->Bool}
  (hf:∀(x:InsD) (H1:Heap) (K':V->Heap->Prop),x∈l->(∀H2,Upd H1 H2 []->K' (.c (.bool (p x))) H2)->Qv prog f ([.ag x.cells]++caps.map .c) H1 K')
  (hK:∀(H':Heap),Upd H H' []->K (.c (.bool (l.any p))) H') :
  Qv prog Qdm [.c (.sl fl 4 (AD l)),.c (.fn f caps)] H K:=by
 refine Qd A6 Qoh ?_;refine Wd ?_;refine Qavc hf λr H' hu hr=>?_;simp only[go_sem,E7];refine Ze ?_;rw[hr];exact hK _ hu
theorem PG {x5:Nat}{q:CodeD}{v:Int}(h5:H x5=.st q.cells)(hr:-(2^62)<=q.ae)(f9:q.ae<=2^62)(hK:K (.c (.bool (decide (0<=v/\v<=q.ae-1)))) H) :
  Qv prog Dh [Uv v,Up x5] H K:=by
 refine Qd A6 Qair ?_;refine Wk ?_;simp only[go_sem,h5,CodeD.cells];refine⟨Qr,?_⟩;refine Dc ?_;simp only[go_sem,Ri];refine Ze ?_;have e:(decide (0<=v)&&decide (v<=q.ae-1))=decide (0<=v/\v<=q.ae-1):=ZC
 rw[e];exact hK
theorem Qa4p {x5:Nat}{q:CodeD}{v:Int}(h5:H x5=.st q.cells)(hb:q.blocks.length<=2 ^ 38)(hK:K (.c (.bool (!Cj (Qm q.blocks).length v))) H) :
  Qv prog Qn0 [Uv v,Up x5] H K:=by
 refine Qd A6 Qais ?_;refine Wk ?_;simp only[go_sem,h5,CodeD.cells,Ql];intro _;refine⟨Qr,?_⟩;refine Dc ?_;simp only[go_sem,OS];refine Ze ?_;have e:(decide (1<=v)&&decide (v<=(q.blocks.length:Int)-1))=Cj (Qm q.blocks).length v:=by simp[Cj,Ql]
 rw[e];exact hK
theorem Qa4q {cs:List CodeD}{fl:Bool}{k:Nat}{x:InsD}(hk:k<cs.length)(hr:0<=cs[k].ae)(f9:cs[k].ae<=300)(cA:cs.length<=100)(hK:∀(H':Heap),Upd H H' []->K (.c (.bool (!Be cs k x))) H') :
  Qv prog Qn1 [.ag x.cells,.c (.pp [.sl fl 3 (Qn cs)]),.c (.pp [Ui k])] H K:=by
 refine Qd A6 Qait ?_;refine Zy ?_;refine Za ?_;refine Vv hk hr f9 cA λH' hu=>?_;simp only[go_sem,Qjd];refine Ze ?_;exact hK _ hu
theorem Qa4r {x5 x6:Nat}{q:CodeD}{v:Int}(h5:H x5=.st q.cells)(h6:H x6=.st [.fn Dh [.ptr x5 0]])(hr:-(2^62)<=q.ae)(f9:q.ae<=2^62)(hK:K (.c (.bool (!decide (0<=v/\v<=q.ae-1)))) H) :
  Qv prog Qn2 [Uv v,Up x6] H K:=by
 refine Qd A6 Qaiu ?_;refine Wk ?_;simp only[go_sem,h6,J1,Jx,Jv,Jab];refine PG h5 hr f9 ?_;simp only[go_sem,Rh];refine Ze ?_;exact hK
attribute [local instance] Classical.propDecidable
def blkC (b:BlkD):Obj:=.st [.sl false 2 (Q3 b.ab),.sl false 4 (AD b.ins),.int .i64 b.jump,.int .i64 b.on,.sl false 1 (Qc b.next)]
theorem K5 {cs:List CodeD}{k:Nat}{hk:k<cs.length}(h:¬B5 cs k hk):decide (B5 cs k hk)=false:=decide_eq_false h
theorem Qboy {cs:List CodeD}{fl:Bool}{k:Nat}(hk:k<cs.length)(cA:cs.length<=100)(aU:cs[k].fits)(hK:∀(H':Heap),Upd H H' []->K (.c (.bool (decide (B5 cs k hk)))) H') :
  Qv prog Q2s [.ag [.sl fl 3 (Qn cs)],Uv k] H K:=by
 refine Qz ?_;refine Qd A6 Qa5e ?_;have retf:∀(v:Bool) (e:Env) (H':Heap) (L:Ul),decide (B5 cs k hk)=v->Kn H H' [] L->lk 4 e=.c (.bool v)->Q7 A7 (unK H K) .ret e H':=by
  intro v e H' L hb kn h3;simp only[go_sem,Q7,A5,Jb,forall_eq,RS.op,h3];rw[<-hb];exact⟨_,.c _ _ (Qg rfl),hK _ kn.fin⟩
 obtain⟨q,hq⟩:∃q,cs[k]=q:=⟨_,rfl⟩;have hP:B5 cs k hk=(BD q=true/\∀(b:Nat) (h:b<q.blocks.length),Bh cs k b q q.blocks[b]=true):=by subst hq;rfl
 refine Wk ?_;simp only[go_sem,hk,Q5,Cg _ _ hk,CodeD.cells,hq];intro x5 bm H1 h1;have kn:=(Kn.ao H).al bm h1;have bm:=kn.l 0 rfl;simp only[go_sem,Qt1,bm];intro H2 h2;have kn:Kn H H2 [] [(x5,.st q.cells)]:=kn.aA 0 rfl h2;have bm:H2 x5=.st [Ui q.params,Ui q.ae,.sl false 5 (Qm q.blocks)]:=kn.l 0 rfl;refine Q1 (Qa ?_);simp only[go_sem,bm];refine Dc ?_;have rest0:∀(b:Bool) (E1:Env),BD q=(!b)->lk 2 E1=.c (.pp [.sl fl 3 (Qn cs)])->lk 3 E1=.c (.pp [Ui k])->lk 5 E1=Up x5->lk 36 E1=.c (.bool b)->
   A9 prog (s_im_codeOk_4.seq Qt0) (Q7 A7 (unK H K)) E1 H2:=by
  intro b E1 hb l2 l3 l5 l36;refine Qh (Qf l36 ?_ ?_)
  ·intro hc;refine We ?_;exact retf false _ _ _ (K5 λh=>by rw[hP,hb,hc]at h;simp at h) kn ZB
  intro hc;rw[hc]at hb;have aT:=hb;simp only[BD,Jy,Jl,decide_eq_true_eq]at aT;obtain⟨bR,ib,fE,bk⟩:0<=q.ae/\q.ae<=300/\0<q.blocks.length/\q.blocks.length<=160:=ZA
  refine Zc ?_;refine Zi l5 ?_;intro x6 aZ H3 h3;have kn:=kn.al aZ h3;have aZ:=kn.l 1 rfl;simp only[go_sem,Qt2,aZ,l2,l3,l5];intro H4 h4;have kn:Kn H H4 [] [(x5,.st q.cells),(x6,.st [.fn Dh [.ptr x5 0]])]:=kn.aA 1 rfl h4;have bm:H4 x5=.st [Ui q.params,Ui q.ae,.sl false 5 (Qm q.blocks)]:=kn.l 0 rfl;refine Q1 (Qa ?_);simp only[go_sem,bm,Ql];intro _;refine Qh (Qe (Qx (λm e1 H1=>∃(j:Nat),m=q.blocks.length-j/\j<=q.blocks.length/\(∀(i:Nat) (hi:i<q.blocks.length),i<j->Bh cs k i q q.blocks[i]=true)/\Kn H H1 [] [(x5,.st q.cells),(x6,.st [.fn Dh [.ptr x5 0]])]/\
   e1=[(2,.c (.pp [.sl fl 3 (Qn cs)])),(3,.c (.pp [Ui k])),(5,Up x5),(6,Up x6),(39,.c (.sl false 5 (Qm q.blocks))),(40,.c (Ui q.blocks.length)),(41,Uv j)]) q.blocks.length ?_ ?_))
  ·exact⟨0,ZA,ZA,λ_ _ h=>ZA,kn,rfl⟩
  ·rintro m e1 H5 ⟨j,hm,hj,cK,kn,rfl⟩;refine Za ?_;refine Wu ?_ ?_
   ·intro bB;have af:j<q.blocks.length:=Zar;have rP:q.blocks[j].ins.length<=2 ^ 38/\q.blocks[j].ab.length<=2 ^ 38:=(by subst hq;exact aU _ (Jf af));refine Zc ?_;refine Bk (λe2 H2=>Kn H H2 [] [(x5,.st q.cells),(x6,.st [.fn Dh [.ptr x5 0]])]/\Bh cs k j q q.blocks[j]=true/\lk 2 e2=.c (.pp [.sl fl 3 (Qn cs)])/\lk 3 e2=.c (.pp [Ui k])/\lk 5 e2=Up x5/\lk 6 e2=Up x6/\
     lk 39 e2=.c (.sl false 5 (Qm q.blocks))/\lk 40 e2=.c (Ui q.blocks.length)/\lk 41 e2=Uv j) ?_ ?_
    ·intro Q bH lI _;replace lI:∀e H',Q7 A7 (unK H K) .ret e H'->Q .ret e H':=λe H' h=>lI e H' (by simpa only[go_sem,X.next]using h);have retq:∀(e:Env) (H':Heap) (L:Ul),Bh cs k j q q.blocks[j]=false->Kn H H' [] L->lk 4 e=.c (.bool false)->Q .ret e H':=λe H' L hb kn l4=>
      lI e H' (retf false e H' L (K5 λh=>by rw[hP]at h;rw[h.2 j af]at hb;exact absurd hb ZC) kn l4)
     have ke:Bh cs k j q q.blocks[j]=(B0 q.ae q.blocks[j]&&q.blocks[j].next.all (Cj (Qm q.blocks).length)&&q.blocks[j].ins.all (Be cs k)&&q.blocks[j].ab.all (phiG q.ae (Qp (gnx q) (j:Int) (Qm q.blocks).length).length j)):=rfl;refine Qe (Qa ?_);simp only[go_sem,af,Ql,Q9 _ _ af,BlkD.cells];obtain⟨y,hy⟩:∃y,q.blocks[j]=y:=⟨_,rfl⟩;rw[hy]at ke retq rP bH;rw[hy];intro x8 be H6 h6;have kn:=kn.al be h6;have be:=kn.l 2 rfl;simp only[go_sem,Qt3,be];intro H7 h7;have kn:Kn H H7 [] [(x5,.st q.cells),(x6,.st [.fn Dh [.ptr x5 0]]),(x8,blkC y)]:=kn.aA 2 rfl h7;have bm:H7 x5=.st [Ui q.params,Ui q.ae,.sl false 5 (Qm q.blocks)]:=kn.l 0 rfl;have lB:H7 x5=.st q.cells:=kn.l 0 rfl;have aZ:=kn.l 1 rfl;have be:H7 x8=.st [.sl false 2 (Q3 y.ab),.sl false 4 (AD y.ins),Ui y.jump,Ui y.on,.sl false 1 (Qc y.next)]:=kn.l 2 rfl;have rest3:∀(E1:Env) (H8:Heap),B0 q.ae y=true->y.next.all (Cj (Qm q.blocks).length)=true->y.ins.all (Be cs k)=true->Kn H H8 [] [(x5,.st q.cells),(x6,.st [.fn Dh [.ptr x5 0]]),(x8,blkC y)]->
       lk 2 E1=.c (.pp [.sl fl 3 (Qn cs)])->lk 3 E1=.c (.pp [Ui k])->lk 5 E1=Up x5->lk 6 E1=Up x6->lk 7 E1=Uv j->lk 8 E1=Up x8->
       lk 39 E1=.c (.sl false 5 (Qm q.blocks))->lk 40 E1=.c (Ui q.blocks.length)->lk 41 E1=Uv j->A9 prog Rq (X.inBlock 1 Q) E1 H8:=by
      intro E1 H8 g1 g2 g3 kn l2 l3 l5 l6 l7 l8 l39 l40 l41;have bm:H8 x5=.st [Ui q.params,Ui q.ae,.sl false 5 (Qm q.blocks)]:=kn.l 0 rfl;have cq:(decide (0<=(j:Int))&&decide ((j:Int)<=((Qm q.blocks).length:Int)-1))=true:=(by rw[Ql];simp;omega);refine Zp bm l5 l7 ?_;refine Q9w (rows:=Qm q.blocks) (nx:=gnx q) (Dl _ q false) λfl' H9 hu=>?_;have kn:=kn.au hu;rw[Db,if_pos cq];generalize lZ:Qp (gnx q) (j:Int) (Qm q.blocks).length=ps;rw[lZ]at ke;simp only[go_sem,Qo2,l2,l3,l5,l6,l7,l8,l39,l40,l41,Qb];intro _;have be:H9 x8=.st [.sl false 2 (Q3 y.ab),.sl false 4 (AD y.ins),Ui y.jump,Ui y.on,.sl false 1 (Qc y.next)]:=kn.l 2 rfl;refine Qa ?_;simp only[go_sem,be,Qy];intro _;refine Qe (Qx (λm e1 H1=>∃(i:Nat),m=y.ab.length-i/\i<=y.ab.length/\(y.ab.take i).all (phiG q.ae ps.length j)=true/\Kn H H1 [] [(x5,.st q.cells),(x6,.st [.fn Dh [.ptr x5 0]])]/\
       e1=[(2,.c (.pp [.sl fl 3 (Qn cs)])),(3,.c (.pp [Ui k])),(5,Up x5),(6,Up x6),(7,Uv j),(9,.c (Ui ps.length)),(39,.c (.sl false 5 (Qm q.blocks))),(40,.c (Ui q.blocks.length)),(41,Uv j),(91,.c (.sl false 2 (Q3 y.ab))),(92,.c (Ui y.ab.length)),(93,Uv i)]) y.ab.length ?_ ?_)
      ·exact⟨0,ZA,ZA,rfl,kn.drop (A:=[_,_]),rfl⟩
      ·rintro m2 e1 H10 ⟨i,eW,hi,bI,kn,rfl⟩;refine Za ?_;refine Wu ?_ ?_
       ·intro a7;have cj:i<y.ab.length:=ZF;refine Wm ?_;simp only[go_sem,cj,Qy,BU _ _ cj,PhiD.cells];obtain⟨z,hz⟩:∃z,y.ab[i]=z:=⟨_,rfl⟩;rw[hz];intro x11 eD H11 eB;have kn:=kn.al eD eB;have eD:=kn.l 2 rfl;simp only[go_sem,Qo3,eD];intro H12 jq;have kn:Kn H H12 [] ([(x5,.st q.cells),(x6,.st [.fn Dh [.ptr x5 0]])]++[(x11,.st [Ui z.to,.sl false 1 (Qc z.args)])]):=kn.aA 2 rfl jq;have lB:H12 x5=.st q.cells:=kn.l 0 rfl;have aZ:=kn.l 1 rfl;have eD:=kn.l 2 rfl;have fin:∀(b3:Bool) (E1:Env),phiG q.ae ps.length j z=(!b3)->lk 2 E1=.c (.pp [.sl fl 3 (Qn cs)])->lk 3 E1=.c (.pp [Ui k])->lk 5 E1=Up x5->lk 6 E1=Up x6->lk 7 E1=Uv j->lk 9 E1=.c (Ui ps.length)->
          lk 39 E1=.c (.sl false 5 (Qm q.blocks))->lk 40 E1=.c (Ui q.blocks.length)->lk 41 E1=Uv j->lk 91 E1=.c (.sl false 2 (Q3 y.ab))->lk 92 E1=.c (Ui y.ab.length)->lk 93 E1=Uv i->lk 118 E1=.c (.bool b3)->
          A9 prog Qtx (X.inBlock 3 (X.sq prog Qty (X.next (λe2 H2=>∃m,m<m2/\∃(i:Nat),m=y.ab.length-i/\i<=y.ab.length/\(y.ab.take i).all (phiG q.ae ps.length j)=true/\Kn H H2 [] [(x5,.st q.cells),(x6,.st [.fn Dh [.ptr x5 0]])]/\
           e2=[(2,.c (.pp [.sl fl 3 (Qn cs)])),(3,.c (.pp [Ui k])),(5,Up x5),(6,Up x6),(7,Uv j),(9,.c (Ui ps.length)),(39,.c (.sl false 5 (Qm q.blocks))),(40,.c (Ui q.blocks.length)),(41,Uv j),(91,.c (.sl false 2 (Q3 y.ab))),(92,.c (Ui y.ab.length)),(93,Uv i)])
           (X.inBlock 2 (X.inBlock 1 Q))))) E1 H12:=by
         intro b3 E1 eJ l2 l3 l5 l6 l7 l9 l39 l40 l41 l91 l92 l93 l118;refine Qf l118 ?_ ?_
         ·intro bn;refine Wn ?_;exact retq _ _ _ (by rw[ke,Eu cj (by rw[hz,eJ,bn];rfl)];simp) kn ZB
         ·intro bn;refine Zc ?_;refine Qq ?_;simp only[go_sem,X.next,l2,l3,l5,l6,l7,l9,l39,l40,l41,l91,l92,l93];exact⟨Qr,y.ab.length-(i+1),ZA,i+1,rfl,ZA,by rw[Pp cj,bI,hz,eJ,bn];rfl,kn.drop,rfl⟩
        have uE:phiG q.ae ps.length j z=(!decide (j=0)&&decide ((z.args.length:Int)=ps.length)&&BC q.ae z.args&&decide (0<=z.to/\z.to<=q.ae-1)):=rfl;refine Za ?_
        cases kX:decide ((j:Int)=0)with
        |true=>
         have qN:decide (j=0)=true:=(by simpa using kX);simp only[go_sem,Ka,Kb];exact fin true _ (by rw[uE,qN];rfl) ZB ZB ZB ZB ZB ZB ZB ZB ZB ZB ZB ZB ZB
        |false=>
         have qN:decide (j=0)=false:=(by simpa using kX);simp only[go_sem,eD,aZ,Jv,Jab];refine PG lB ZA ZA ?_
         cases ht:decide (0<=z.to/\z.to<=q.ae-1)with
         |false=>
          simp only[go_sem,Ka,Kb];exact fin true _ (by rw[uE,ht];simp) ZB ZB ZB ZB ZB ZB ZB ZB ZB ZB ZB ZB ZB
         |true=>
          by_cases dD:(z.args.length:Int)=ps.length
          ·simp only[go_sem,Ka,eD,Qb,dD,decide_true,Jap];intro _;refine Pb (p:=λr=>!decide (0<=r/\r<=q.ae-1)) (.mk' _ _ _ _) rfl (λv K' hv o7=>Qa4r lB aZ ZA ZA o7) ?_;simp only[go_sem,Kb];refine fin (z.args.any λr=>!decide (0<=r/\r<=q.ae-1)) _ ?_ ZB ZB ZB ZB ZB ZB ZB ZB ZB ZB ZB ZB ZB;rw[uE,qN,ht,Gc,dD,BC];simp
          ·simp only[go_sem,Ka,Kb,eD,Qb,dD,decide_false,Jy];intro _;exact fin true _ (by rw[uE];simp[dD]) ZB ZB ZB ZB ZB ZB ZB ZB ZB ZB ZB ZB ZB
       ·intro a7;have bp:y.ab.length<=i:=ZF;rw[Jc bp]at bI;refine Zb ?_;exact bH _ _ ⟨kn,by rw[ke,g1,g2,g3,bI];rfl,rfl,rfl,rfl,rfl,rfl,rfl,rfl⟩
     have rest2:∀(b1:Bool) (E1:Env),B0 q.ae y=(!b1)->lk 2 E1=.c (.pp [.sl fl 3 (Qn cs)])->lk 3 E1=.c (.pp [Ui k])->lk 5 E1=Up x5->lk 6 E1=Up x6->lk 7 E1=Uv j->lk 8 E1=Up x8->
       lk 39 E1=.c (.sl false 5 (Qm q.blocks))->lk 40 E1=.c (Ui q.blocks.length)->lk 41 E1=Uv j->lk 75 E1=.c (.bool b1)->A9 prog (s_im_codeOk_11.seq Qtz) (X.inBlock 1 Q) E1 H7:=by
      intro b1 E1 bg l2 l3 l5 l6 l7 l8 l39 l40 l41 l75;refine Qh (Qf l75 ?_ ?_)
      ·intro a7;refine We ?_;exact retq _ _ _ (by rw[ke,bg,a7];simp) kn ZB
      intro a7;rw[a7]at bg;refine Zc ?_;refine Q1 (Qa ?_);simp only[go_sem,be,l5,l8];refine Pb (p:=λv=>!Cj (Qm q.blocks).length v) (.mk' _ _ _ _) rfl (λv K' hv o7=>Qa4p lB ZA o7) ?_;have fin:∀(b:Bool) (E1:Env) (H8:Heap),(y.next.all (Cj (Qm q.blocks).length)&&y.ins.all (Be cs k))=(!b)->Kn H H8 [] [(x5,.st q.cells),(x6,.st [.fn Dh [.ptr x5 0]]),(x8,blkC y)]->lk 2 E1=.c (.pp [.sl fl 3 (Qn cs)])->lk 3 E1=.c (.pp [Ui k])->lk 5 E1=Up x5->lk 6 E1=Up x6->lk 7 E1=Uv j->lk 8 E1=Up x8->
        lk 39 E1=.c (.sl false 5 (Qm q.blocks))->lk 40 E1=.c (Ui q.blocks.length)->lk 41 E1=Uv j->lk 85 E1=.c (.bool b)->A9 prog (s_im_codeOk_14.seq Rq) (X.inBlock 1 Q) E1 H8:=by
       intro b E1 H8 hb kn l2 l3 l5 l6 l7 l8 l39 l40 l41 l85;refine Qh (Qf l85 ?_ ?_)
       ·intro bn;refine We ?_;exact retq _ _ _ (by rw[ke,Bool.and_assoc (B0 _ _),hb,bn];simp) kn ZB
       ·intro bn;rw[bn]at hb;simp only[Jy,Jl]at hb;refine Zc ?_;exact rest3 E1 H8 bg hb.1 hb.2 kn l2 l3 l5 l6 l7 l8 l39 l40 l41
      rw[Gc]
      cases ha:y.next.all (Cj (Qm q.blocks).length)with
      |false=>
       simp only[go_sem,Rx,Ry,l2,l3,l5,l6,l7,l8,l39,l40,l41];exact fin true _ _ (by rw[ha];rfl) kn ZB ZB ZB ZB ZB ZB ZB ZB ZB ZB
      |true=>
       simp only[go_sem,Rx,be,l2,l3,l8];refine Q9v (p:=λx=>!Be cs k x) (λx H1 K' hx o7=>Qa4q hk (by rw[hq];exact bR) (by rw[hq];exact ib) cA o7) λH8 hu=>?_;have kn:=kn.au hu;simp only[go_sem,Ry,l2,l3,l5,l6,l7,l8,l39,l40,l41];refine fin (y.ins.any λx=>!Be cs k x) _ _ ?_ kn ZB ZB ZB ZB ZB ZB ZB ZB ZB ZB;rw[ha,<-List.not_all_eq_any_not];simp
     refine Q1 (AC ?_);simp only[go_sem,be,Qb];refine Qa5z ?_;have uQ:B0 q.ae y=(decide ((y.next.length:Int)=Bd y.jump)&&if y.jump=1 then decide (y.on=0)else decide (0<=y.on/\y.on<=q.ae-1)):=rfl;by_cases hn:(y.next.length:Int)=Bd y.jump
     ·have xB:y.jump=1\/(y.jump=2\/y.jump=3)/\¬y.jump=1:=by
       rw[Bd]at hn;split at hn
       ·exact .inl ‹_›
       ·split at hn
        ·omega
        ·split at hn
         ·omega
         ·omega
      simp only[go_sem,Rz,be,Qb,hn,decide_true,Jap];refine F1 ?_;rcases xB with h1|⟨h1,h2⟩
      ·have hu:(decide (y.jump=2) || decide (y.jump=3))=false:=Zbk;simp only[go_sem,OW,Hp,hu,be];refine F1 ?_;simp only[go_sem,Hq,hu,be];exact rest2 (!decide (y.on=0)) _ (by rw[uQ,if_pos h1,hn];simp) ZB ZB ZB ZB ZB ZB ZB ZB ZB ZB
      ·have hu:(decide (y.jump=2) || decide (y.jump=3))=true:=ZW;simp only[go_sem,OW,hu,be,aZ,J1,Jx,Jv,Jab];refine PG lB ZA ZA ?_
       cases ho:decide (0<=y.on/\y.on<=q.ae-1)with
       |true=>
        simp only[go_sem,Hp,be];refine F1 ?_;simp only[go_sem,Hq,hu,be];exact rest2 false _ (by rw[uQ,if_neg h2,hn,ho];simp) ZB ZB ZB ZB ZB ZB ZB ZB ZB ZB
       |false=>
        simp only[go_sem,Hp,Hq,be];exact rest2 true _ (by rw[uQ,if_neg h2,ho];simp) ZB ZB ZB ZB ZB ZB ZB ZB ZB ZB
     ·simp only[go_sem,Rz,OW,Hp,Hq,be,Qb,hn,decide_false,Jy];exact rest2 true _ (by rw[uQ];simp[hn]) ZB ZB ZB ZB ZB ZB ZB ZB ZB ZB
    ·rintro e2 H8 ⟨kn,hbg,l2,l3,l5,l6,l39,l40,l41⟩;refine Qq ?_;simp only[go_sem,X.next,l2,l3,l5,l6,l39,l40,l41];refine⟨Qr,q.blocks.length-(j+1),ZA,j+1,rfl,ZA,λi hi gC=>?_,kn,rfl⟩;by_cases h:i<j
     ·exact cK i hi h
     ·have:i=j:=ZA;subst this;exact hbg
   ·intro bB;have bp:q.blocks.length<=j:=Zar;refine Wc ?_;refine Qk ?_;exact retf true _ _ _ (decide_eq_true (by rw[hP];exact⟨by rw[hb];rfl,λb h=>cK b h (by omega)⟩)) kn ZB
 have hH:BD q=(decide (0<=q.params/\q.params<=3)&&decide (q.params<=q.ae/\q.ae<=300)&&decide (1<=(q.blocks.length:Int)/\(q.blocks.length:Int)<=160)):=rfl;by_cases hr:0<=q.ae/\q.ae<=300
 ·have bd:(decide (0<=q.ae)&&decide (q.ae<=300))=true:=Zah
  simp only[go_sem,Rp,bd,bm];refine Dc ?_;by_cases hp:0<=q.params/\q.params<=3/\q.params<=q.ae
  ·have cp:(decide (0<=q.params)&&decide (q.params<=if q.ae<3 then q.ae else 3))=true:=by
    split <;> simp <;> omega
   simp only[go_sem,OX,cp,bm,Ql];intro _;refine Dc ?_;simp only[go_sem,OY];refine rest0 _ _ ?_ ZB ZB ZB ZJ;have a1:decide (0<=q.params/\q.params<=3)=true:=ZG
   have a2:decide (q.params<=q.ae/\q.ae<=300)=true:=ZG
   rw[hH,a1,a2];simp
  ·have cp:(decide (0<=q.params)&&decide (q.params<=if q.ae<3 then q.ae else 3))=false:=by
    split <;> simp <;> omega
   simp only[go_sem,OX,OY,cp,bm];refine rest0 true _ ?_ ZB ZB ZB ZB;rw[hH];simp;omega
 ·have bd:(decide (0<=q.ae)&&decide (q.ae<=300))=false:=Zah
  simp only[go_sem,Rp,OX,OY,bd,bm];refine rest0 true _ ?_ ZB ZB ZB ZB;rw[hH];simp;omega
theorem Qx6 {cs:List CodeD}{fl:Bool}(aU:∀c∈cs,c.fits)(hK:∀(H':Heap),Upd H H' []->K (.c (.bool (AN cs))) H') :
  Qv prog Qny [.ag [.sl fl 3 (Qn cs)]] H K:=by
 refine Qz ?_;refine Qd A6 Qaio ?_;have retf:∀(b:Bool) (e:Env) (H':Heap) (L:Ul),AN cs=b->Kn H H' [] L->lk 2 e=.c (.bool b)->Q7 A8 (unK H K) .ret e H':=by
  intro b e H' L hb kn h3;simp only[go_sem,Q7,A5,Jb,forall_eq,RS.op,h3];rw[<-hb];exact⟨_,.c _ _ (Qg rfl),hK _ kn.fin⟩
 have kn:=Kn.ao H;refine Wg ?_;simp only[go_sem,Q5];intro cA;refine Dc ?_;simp only[go_sem,Hk];refine Wu ?_ ?_
 ·intro hc;have cf:=BM hc;refine We ?_;exact retf false _ _ _ (Gp λhu=>by have h1:=hu.1;simp at cf;omega) kn ZB
 intro hc;have cf:=Bi hc;have dc:1<=cs.length/\cs.length<=4:=by simp at cf;omega
 refine Zc ?_;refine Wg ?_;simp only[go_sem,Q5];intro _;refine Qh (Qe (Qx (λm e1 H1=>∃(k:Nat),m=cs.length-k/\k<=cs.length/\AL AI (cs.take k)<=k * (160 * 549755813888)/\(∀(i:Nat) (hi:i<cs.length),i<k->B5 cs i hi)/\Kn H H1 [] []/\
  e1=[(1,.c (.pp [.sl fl 3 (Qn cs)])),(3,Uv (AL AI (cs.take k):Nat)),(12,.c (.sl fl 3 (Qn cs))),(13,.c (Ui cs.length)),(14,Uv k)]) cs.length ?_ ?_))
 ·exact⟨0,ZA,ZA,by simp[AL],λ_ _ h=>ZA,kn,rfl⟩
 ·rintro m e1 H1 ⟨k,hm,hk,hsum,cK,kn,rfl⟩;refine Za ?_;refine Wu ?_ ?_
  ·intro a7;have af:k<cs.length:=ZF
   have mW:=DE (f:=AI) af;refine Wm ?_;simp only[go_sem,af,Q5,Cg _ _ af,CodeD.cells];obtain⟨q,hq⟩:∃q,cs[k]=q:=⟨_,rfl⟩;have nB:q.fits:=by subst hq;exact aU _ (Jf af)
   rw[hq];intro x5 bm H2 h2;have kn:=kn.al bm h2;have bm:=kn.l 0 rfl;simp only[go_sem,Qi6,bm];intro H3 h3;have kn:Kn H H3 [] ([]++[(x5,.st [Ui q.params,Ui q.ae,.sl false 5 (Qm q.blocks)])]):=kn.aA 0 rfl h3;refine Wa ?_;refine Qboy af ZA (by rw[hq];exact nB) λH4 hu=>?_;have kn:=kn.au hu;have bm:=kn.l 0 rfl;simp only[go_sem,OR];refine Wu ?_ ?_
   ·intro bn;have bx:=of_decide_eq_false (BM bn);refine Wn ?_;exact retf false _ _ _ (Gp λhu=>bx (hu.2.1 k af)) kn ZB
   ·intro bn;have sc:=of_decide_eq_true (Bi bn);have bk:q.blocks.length<=160:=by
     have:=sc.1;rw[hq]at this;simp only[BD,Jl,decide_eq_true_eq]at this;omega
    have hcq:AI q<=160 * 549755813888:=Nat.le_trans (NV nB) (Jao _ bk);have iQ:k * (160 * 549755813888)<=4 * (160 * 549755813888):=Jao _ ZA;have i9:(k+1) * (160 * 549755813888)=k * (160 * 549755813888)+160 * 549755813888:=Jbr _ _;rw[hq]at mW;refine Zc ?_;refine Qq ?_;simp only[go_sem,bm];refine Q91 nB bk λH5 hu=>?_;have kn:=kn.au hu;simp only[go_sem,Qi8];refine⟨Qr,?_⟩;refine Zg ?_;refine⟨Qr,cs.length-(k+1),ZA,k+1,rfl,ZA,by rw[mW,i9];omega,λi hi zM=>?_,kn.drop,?_⟩
    ·by_cases h:i<k
     ·exact cK i hi h
     ·have:i=k:=ZA;subst this;exact sc
    ·rw[mW];rfl
  ·intro a7;have bp:cs.length<=k:=ZF
   rw[Jc bp];refine Wc ?_;refine Qk ?_;refine retf (decide (((AL AI cs:Nat):Int)<=800)) _ _ _ ?_ kn ZB;by_cases hs:AL AI cs<=800
   ·have h1:AN cs=true:=decide_eq_true ⟨ZA,λi hi=>cK i hi ZA,hs⟩;rw[h1];simp;omega
   ·rw[Gp λhu=>hs hu.2.2];simp;omega
end Go.AE.Y
namespace Go.AE.Y
attribute [local instance] Classical.propDecidable
structure Flo where
 n:Nat
 nx:Nat->List Nat
 on:Nat->List Nat
 ins:Nat->List (Option Nat×List Nat)
 ph:Nat->List Nat
 ea:Nat->Nat->List Nat
abbrev RS':=Nat->Prop
def Fa (x:Option Nat×List Nat)(S:RS'):RS':=λr=>r∈x.2\/(S r/\x.1≠some r)
def behL (l:List (Option Nat×List Nat))(S:RS'):RS':=l.foldr Fa S
theorem Qbi3 {l:List (Option Nat×List Nat)}{S T:RS'}(h:∀r,S r->T r):∀r,behL l S r->behL l T r:=by
 induction l with
 |nil=>exact h
 |cons x l ih=>
  rintro r (hr|⟨hr,h2⟩)
  ·exact .inl hr
  ·exact .inr ⟨ih r hr,h2⟩
variable {F:Flo}
def Flo.endS (F:Flo)(X:RS')(b:Nat):RS':=λr=>X r\/r∈F.on b
def Flo.beh (F:Flo)(X:RS')(b k:Nat):RS':=behL ((F.ins b).drop k) (F.endS X b)
theorem Flo.beh_end (X:RS')(b k:Nat)(h:(F.ins b).length<=k):F.beh X b k=F.endS X b:=by rw[Flo.beh,List.drop_of_length_le h];rfl
theorem Flo.beh_step (X:RS')(b k:Nat)(h:k<(F.ins b).length):F.beh X b k=Fa (F.ins b)[k] (F.beh X b (k+1)):=by
 rw[Flo.beh,J3 h];rfl
theorem Flo.beh_mono {X Y:RS'}(h:∀r,X r->Y r)(b k:Nat):∀r,F.beh X b k r->F.beh Y b k r:=
 Qbi3 λr hr=>hr.elim (λh1=>.inl (h r h1)) .inr
def Flo.outT (F:Flo)(I:Nat->RS')(b:Nat):RS':=λr=>∃m∈F.nx b,I m r\/r∈F.ea b m
def Flo.thru (F:Flo)(X:RS')(b:Nat):RS':=λr=>F.beh X b 0 r/\r∉F.ph b
def Flo.inT (F:Flo)(I:Nat->RS')(b:Nat):RS':=F.thru (F.outT I b) b
theorem Flo.thru_mono {X Y:RS'}(h:∀r,X r->Y r)(b:Nat):∀r,F.thru X b r->F.thru Y b r:=λr hr=>⟨Flo.beh_mono h b 0 r hr.1,hr.2⟩
def Flo.fits (F:Flo):Prop:=∀b,b<F.n->∀m∈F.nx b,m<F.n
variable {I J:Nat->RS'}
theorem Flo.outT_mono (hf:F.fits)(h:∀b,b<F.n->∀r,I b r->J b r){b:Nat}(hb:b<F.n):∀r,F.outT I b r->F.outT J b r:=by
 rintro r ⟨m,hm,h1|h1⟩
 ·exact⟨m,hm,.inl (h m (hf b hb m hm) r h1)⟩
 ·exact⟨m,hm,.inr h1⟩
theorem Flo.inT_mono (hf:F.fits)(h:∀b,b<F.n->∀r,I b r->J b r){b:Nat}(hb:b<F.n):∀r,F.inT I b r->F.inT J b r:=
 Flo.thru_mono (Flo.outT_mono hf h hb) b
def Flo.Pre (F:Flo)(J:Nat->RS'):Prop:=∀b,b<F.n->∀r,F.inT J b r->J b r
def Flo.LI (F:Flo)(b:Nat):RS':=λr=>∀J,F.Pre J->J b r
def Flo.LO (F:Flo)(b:Nat):RS':=F.outT F.LI b
theorem Flo.LI_pre (hf:F.fits):F.Pre F.LI:=λb hb r hr J hJ=>hJ b hb r (Flo.inT_mono hf (λb hb r hr=>hr J hJ) hb r hr)
def Flo.Below (F:Flo)(I:Nat->RS'):Prop:=∀b,b<F.n->∀r,I b r->F.LI b r
theorem Flo.is_least (h1:F.Pre I)(h2:F.Below I){b:Nat}(hb:b<F.n)(r:Nat):I b r↔F.LI b r:=⟨h2 b hb r,λh=>h I h1⟩
theorem Flo.Below.outT (hf:F.fits)(h:F.Below I){b:Nat}(hb:b<F.n):∀r,F.outT I b r->F.LO b r:=Flo.outT_mono hf h hb
theorem Qarh {a:List Nat}(ha:a.Nodup):∀{b:List Nat},(∀x∈a,x∈b)->a.length<=b.length:=by
 induction a with
 |nil=>intro b _;simp
 |cons x a ih=>
  intro b h;have hx:=h x Jn;have hn:=List.nodup_cons.1 ha;have:=ih hn.2 (b:=b.erase x) λy hy=>(List.mem_erase_of_ne (λhe=>by subst he;exact hn.1 hy)).2 (h y (Ji _ hy));rw[List.length_erase_of_mem hx]at this;have hp:=List.length_pos_of_mem hx;simp only[Jp];omega
theorem Qaw8 {a:List Nat}{R:Nat}(ha:a.Nodup)(h:∀x∈a,x<R):a.length<=R:=by
 have:=Qarh ha (b:=List.range R) λx hx=>J0.2 (h x hx);simpa using this
end Go.AE.Y
namespace Go.AE.Y
attribute [local go_sem] cond_true cond_false Bool.not_true Bool.not_false
open Go.Proofs.Tryz
variable {H:Heap}{K:Uk}
attribute [local instance] Classical.propDecidable
def B8 (x:InsD):Option Nat:=if BR x.op then some x.to.toNat else none
def toN (l:List Int):List Nat:=l.map Int.toNat
def HA (q:CodeD)(b m:Nat):List Nat:=(((q.blocks[m]?.map BlkD.ab).getD []).map λp=>(p.args.getD ((Qp (gnx q) (m:Int) q.blocks.length).idxOf (b:Int)) 0).toNat)
def AH (q:CodeD):Flo where
 n:=q.blocks.length
 nx b:=nxN (gnx q) b
 on b:=match q.blocks[b]? with
  |some y=>if y.jump=1 then []else [y.on.toNat]
  |none=>[]
 ins b:=match q.blocks[b]? with
  |some y=>y.ins.map λx=>(B8 x,toN x.args)
  |none=>[]
 ph b:=match q.blocks[b]? with
  |some y=>y.ab.map λp=>p.to.toNat
  |none=>[]
 ea:=HA q
def rIn (q:CodeD)(v:Int):Prop:=0<=v/\v<q.ae
structure BlkD.ok (q:CodeD)(b:Nat)(y:BlkD):Prop where
 nxl:y.next.length<=2
 nx:∀v∈y.next,1<=v/\v<q.blocks.length
 jmp:y.jump=1\/y.jump=2\/y.jump=3
 on:¬y.jump=1->rIn q y.on
 args:∀x∈y.ins,∀v∈x.args,rIn q v
 to:∀x∈y.ins,BR x.op=true->rIn q x.to
 pto:∀p∈y.ab,rIn q p.to
 pargs:∀p∈y.ab,∀v∈p.args,rIn q v
 pal:∀p∈y.ab,p.args.length=(Qp (gnx q) (b:Int) q.blocks.length).length
 al:∀x∈y.ins,x.args.length<=3
structure CodeD.ok (q:CodeD):Prop where
 r0:0<=q.ae
 r1:q.ae<=300
 b0:0<q.blocks.length
 b1:q.blocks.length<=160
 bs:∀(b:Nat) (h:b<q.blocks.length),q.blocks[b].ok q b
 il:∀(b:Nat) (h:b<q.blocks.length),q.blocks[b].ins.length<=1200/\q.blocks[b].ab.length<=1200
theorem Ph {α:Type}{f:α->Nat}{l:List α}{x:α}(h:x∈l):f x<=AL f l:=by
 induction l with
 |nil=>simp at h
 |cons y l ih=>
  simp only[AL,Jv,Jay]at *;rcases J2.1 h with rfl|h
  ·omega
  ·have:=ih h;omega
theorem CE {cs:List CodeD}(h:AN cs=true){k:Nat}(hk:k<cs.length):cs[k].ok:=by
 obtain⟨_,h2,h3⟩:=of_decide_eq_true h;obtain⟨g1,g2⟩:=h2 k hk;simp only[BD,Jl,decide_eq_true_eq]at g1;refine⟨ZA,ZA,ZA,ZA,λb hb=>?_,λb hb=>?_⟩
 ·have g:=g2 b hb;simp only[Bh,Jl]at g;obtain⟨⟨⟨j,nx⟩,ins⟩,ph⟩:=g;simp only[B0,Jl,decide_eq_true_eq]at j;obtain⟨j1,j2⟩:=j;rw[Jaf]at nx ins ph;have hj:(cs[k].blocks[b].jump=1\/cs[k].blocks[b].jump=2\/cs[k].blocks[b].jump=3)/\cs[k].blocks[b].next.length<=2:=by
   rw[Bd]at j1;split at j1
   ·omega
   ·split at j1
    ·omega
    ·split at j1 <;> omega
  have hi:∀x∈cs[k].blocks[b].ins,(∀v∈x.args,rIn cs[k] v)/\(BR x.op=true->rIn cs[k] x.to):=λx hx=>by
   have:=ins x hx;simp only[Be,insH,BC,Jl,Jaf,decide_eq_true_eq,GE hk]at this;obtain⟨⟨⟨_,a1⟩,a2⟩,_⟩:=this;refine⟨λv hv=>by have:=a1 v hv;exact⟨ZA,ZA⟩,λhm=>?_⟩;rw[insT,hm,if_pos rfl,decide_eq_true_eq]at a2;exact⟨ZA,ZA⟩
  have dD:∀x∈cs[k].blocks[b].ins,x.args.length<=3:=λx hx=>by
   have:=ins x hx;simp only[Be,Jl]at this;have h3:=this.2;rw[insL]at h3;split at h3
   ·simp only[Jl,decide_eq_true_eq]at h3;have hn:x.n.toNat<cs.length:=ZA;have:=(h2 x.n.toNat hn).1;simp only[BD,Jl,decide_eq_true_eq]at this;rw[GG hn]at h3;omega
   ·simp only[Jl,decide_eq_true_eq]at h3;have:=argsN_in (op:=x.op);omega
  have hp:∀p∈cs[k].blocks[b].ab,rIn cs[k] p.to/\(∀v∈p.args,rIn cs[k] v)/\p.args.length=(Qp (gnx cs[k]) (b:Int) cs[k].blocks.length).length:=λp hp=>by
   have:=ph p hp;simp only[phiG,BC,Jl,Jaf,decide_eq_true_eq,Ql]at this;obtain⟨⟨⟨_,a1⟩,a2⟩,a3⟩:=this;have iC:(λi=>(cs[k].blocks.map BlkD.next).getD i [])=gnx cs[k]:=rfl;rw[iC]at a1;exact⟨⟨ZA,ZA⟩,λv hv=>by have:=a2 v hv;exact⟨ZA,ZA⟩,ZA⟩
  refine⟨hj.2,λv hv=>?_,hj.1,λhn=>?_,λx hx=>(hi x hx).1,λx hx=>(hi x hx).2,λp h=>(hp p h).1,λp h=>(hp p h).2.1,λp h=>(hp p h).2.2,dD⟩
  ·have:=nx v hv;simp only[Cj,decide_eq_true_eq,Ql]at this;omega
  ·rw[if_neg hn,decide_eq_true_eq]at j2;exact⟨ZA,ZA⟩
 ·have a1:=Ph (f:=AI) (Jf hk);have a2:=Ph (f:=AT) (Jf hb);simp only[AI,AT]at *;omega
variable {q:CodeD}
theorem Qbpd {b:Nat}(h:b<q.blocks.length):(AH q).on b=if q.blocks[b].jump=1 then []else [q.blocks[b].on.toNat]:=by simp[AH,h]
theorem Qbjk {b:Nat}(h:b<q.blocks.length):(AH q).ins b=q.blocks[b].ins.map λx=>(B8 x,toN x.args):=by simp[AH,h]
theorem Qbpe {b:Nat}(h:b<q.blocks.length):(AH q).ph b=q.blocks[b].ab.map λp=>p.to.toNat:=by simp[AH,h]
theorem Qbpc {b m:Nat}(h:m<q.blocks.length):(AH q).ea b m=q.blocks[m].ab.map λp=>(p.args.getD ((Qp (gnx q) (m:Int) q.blocks.length).idxOf (b:Int)) 0).toNat:=by simp[AH,HA,h]
theorem CD {b:Nat}(h:b<q.blocks.length):gnx q b=q.blocks[b].next:=by simp[gnx,Ja,h]
theorem CodeD.ok.next (h:q.ok){b m:Nat}(hb:b<q.blocks.length)(hm:m∈(AH q).nx b):m<q.blocks.length/\(m:Int)∈gnx q b:=by
 obtain⟨v,hv,rfl⟩:=Js.1 hm;have jy:=hv;rw[CD hb]at jy;have:=(h.bs b hb).nx v jy;refine⟨ZA,?_⟩;have e:((v.toNat:Nat):Int)=v:=ZA
 rw[e];exact hv
theorem CodeD.ok.fitsF (h:q.ok):(AH q).fits:=λb hb m hm=>(h.next hb hm).1
theorem CodeD.ok.ix (h:q.ok){b m:Nat}(hb:b<q.blocks.length)(hm:(m:Int)∈gnx q b):(Qp (gnx q) (m:Int) q.blocks.length).idxOf (b:Int)<(Qp (gnx q) (m:Int) q.blocks.length).length:=by
 refine List.idxOf_lt_length_of_mem ?_;simp only[Qp,Js,Jaq,J0];exact⟨b,⟨hb,Jak.2 hm⟩,rfl⟩
theorem IsIx.idx {ns:List Int}{v r:Int}(h:IsIx ns v r)(hm:v∈ns):r=(ns.idxOf v:Nat):=by
 rcases h with ⟨_,hn⟩|⟨i,rfl,h1,h2,h3⟩
 ·exact absurd hm hn
 ·have h4:ns[i]=v:=by rw[<-h2,Ja,Jd h1];rfl
  have h5:ns.idxOf v=i:=by
   have e:ns=ns.take i++ns[i]::ns.drop (i+1):=by rw[<-J3 h1,Ja4]
   rw[e,List.idxOf_append,if_neg h3,h4];simp[Jt];omega
  rw[h5]
def Mem (bs:List Bool)(S:RS'):Prop:=∀r,bs.getD r false=true↔S r
theorem Mem.congr {bs:List Bool}{S T:RS'}(h:Mem bs S)(hST:∀r,S r↔T r):Mem bs T:=λr=>(h r).trans (hST r)
theorem KA (S:List Bool)(x y:Nat)(v:Bool):(S.set x v).getD y false=(if y=x/\x<S.length then v else S.getD y false):=by
 simp only[Ja,J5];by_cases h:x=y
 ·subst h;by_cases h2:x<S.length <;> simp[h2]
 ·have:¬y=x:=λe=>h e.symm;simp[h,this]
theorem Mem.ins {bs:List Bool}{S:RS'}(h:Mem bs S){x:Nat}(hx:x<bs.length):Mem (bs.set x true) (λr=>r=x\/S r):=λr=>by
 rw[KA];by_cases hr:r=x
 ·simp[hr,hx]
 ·simp only[hr,false_and,if_false,false_or];exact h r
theorem Mem.del {bs:List Bool}{S:RS'}(h:Mem bs S){x:Nat}(hx:x<bs.length):Mem (bs.set x false) (λr=>S r/\r≠x):=λr=>by
 rw[KA];by_cases hr:r=x
 ·simp[hr,hx]
 ·simp only[hr,false_and,if_false,ne_eq,not_false_eq_true,and_true];exact h r
theorem Mem.lt {bs:List Bool}{S:RS'}(h:Mem bs S){r:Nat}(hr:S r):r<bs.length:=by
 have:=(h r).2 hr;refine Classical.byContradiction λhn=>?_;rw[Ja,Jo ZA]at this;exact absurd this ZC
theorem Mem.none (n:Nat):Mem (List.replicate n false) λ_=>False:=λr=>by
 rw[Ja,Jax];split <;> simp
end Go.AE.Y
namespace Go.AE.Y
attribute [local go_sem] cond_true cond_false Bool.not_true Bool.not_false
open Go.Proofs.Tryz
variable {H H0:Heap}{K:Uk}{E L:Ul}
def BN (x:InsD):Int:=if BR x.op then x.to else -1
theorem KZ {x:InsD}(hK:K (Uv (BN x)) H):Qv prog Q26 [.ag x.cells] H K:=by
 refine Qd A6 Qa5w ?_;refine Zy ?_;refine Wa ?_;refine Hb ?_;refine Wu ?_ ?_
 ·intro hc;refine Za ?_;refine Ze ?_;rw[BN,hc,if_pos rfl]at hK;exact hK
 ·intro hc;refine Zd ?_
  refine Za ?_;refine Ze ?_;rw[BN,hc,if_neg ZC]at hK;exact hK
theorem Xl {l:List Int}{a:Nat}(h:a<l.length):(toN l).take (a+1)=(toN l).take a++[(l.getD a 0).toNat]:=by
 have h':a<(toN l).length:=by simpa[toN]using h
 rw[Jg h'];simp[toN,Ja,h]
theorem Gz {l:List Int}{a:Nat}(h:a<l.length):l.getD a 0∈l:=by
 rw[Ja,Jd h];exact Jf h
theorem rIn.nat {q:CodeD}{v:Int}(h:rIn q v):v=(v.toNat:Int)/\v.toNat<q.ae.toNat:=by obtain⟨a,b⟩:=h;omega
structure CodeR (F:Heap)(X:List Nat)(bc:C)(q:CodeD):Prop where
 ow:bc.ah=false
 s:∀H1:Heap,(∀m,F m≠.none->m∉X->H1 m=F m)->Slc H1 5 (Qm q.blocks) bc
theorem CodeR.sl (F:Heap)(X:List Nat)(fl:Bool)(q:CodeD):CodeR F X (.sl fl 5 (Qm q.blocks)) q:=⟨rfl,λ_ _=>.mk' _ _ _ _⟩
theorem CodeR.rd {F H:Heap}{X:List Nat}{bc:C}{q:CodeD}{E L:Ul}(h:CodeR F X bc q)(kn:Kn F H E L)(hX:∀x∈E.map Prod.fst,x∈X):Slc H 5 (Qm q.blocks) bc:=
 h.s H λm hm hx=>kn.chg m hm λhh=>hx (hX m hh)
theorem CodeR.facts {F H:Heap}{X:List Nat}{bc:C}{q:CodeD}{E L:Ul}(h:CodeR F X bc q)(kn:Kn F H E L)(hX:∀x∈E.map Prod.fst,x∈X) :
  aW H bc=True/\ax bc=q.blocks.length/\bc.aO=5/\rowsOf H bc=Qm q.blocks:=
 have s:=h.rd kn hX
 ⟨eq_true s.ok,by rw[s.len,Ql],s.sz,s.rows⟩
theorem CodeR.mid {F H:Heap}{bc:C}{q:CodeD}{L:Ul}(h:CodeR F [] bc q)(kn:Kn F H [] L):CodeR H (L.map Prod.fst) bc q:=
 ⟨h.ow,λH1 hh=>h.s H1 λm hm _=>by
  have h1:=kn.chg m hm ZC;rw[hh m (by rw[h1];exact hm) λhx=>?_,h1];obtain⟨p,hp,he⟩:=Js.1 hx;exact hm (he▸kn.loc p hp)⟩
theorem CodeR.nil {F:Heap}{X:List Nat}{bc:C}{q:CodeD}(h:CodeR F X bc q):CodeR F [] bc q:=⟨h.ow,λH1 hh=>h.s H1 λm hm _=>hh m hm ZC⟩
theorem CodeR.ai {F:Heap}{X:List Nat}{q:CodeD}{z:Nat}(hz:F z=.vec 5 (Qm q.blocks))(hX:z∉X):CodeR F X (.ai z 5 0 q.blocks.length) q:=
 ⟨rfl,λH1 hh=>by
  have h1:H1 z=.vec 5 (Qm q.blocks):=by rw[hh z Zbg hX,hz]
  exact⟨by simp only[aW,h1,Ql];exact⟨trivial,ZA⟩,rfl,by simp only[rowsOf,h1,J8];exact Jc (by rw[Ql];exact Jk _),by simp only[ax,Ql]⟩⟩
theorem Qa5a {q:CodeD}{bc:C}{ic oc cb:C}{orows:List (List C)}{b:Nat}{i:Int}{bs:List Bool}{W:RS'}(ho:q.ok)(dw:CodeR H [] bc q)(hb:b<q.blocks.length)(hi:-1<=i)(jo:i<q.blocks[b].ins.length)
  (kn:Kn H0 H E L) (hs:Slc H 1 orows oc) (bt:oc.ah=false) (jG:ic.ah=false) (bk:b<orows.length) (aC:orows.getD b []=[cb]) (eL:Slc H 1 (Qs bs) cb) (hcw:cb.ah=false) (am:bs.length=q.ae.toNat) (hm:Mem bs W)
  (hK:∀y bs' H',bs'.length=q.ae.toNat->Mem bs' ((AH q).beh W b (i+1).toNat)->Kn H0 H' E (L++[(y,.vec 1 (Qs bs'))])->K (.c (.ai y 1 0 q.ae.toNat)) H') :
  Qv prog Q2y [.ag [Ui q.params,Ui q.ae,bc],.ag [ic,oc],Uv b,Uv i] H K:=by
 have bR:=ho.r0;have ib:=ho.r1;obtain⟨y,hy⟩:∃y,q.blocks[b]=y:=⟨_,rfl⟩;have cC:y.ok q b:=by rw[<-hy];exact ho.bs b hb
 have cj:y.ins.length<=1200/\y.ab.length<=1200:=by rw[<-hy];exact ho.il b hb
 rw[hy]at jo;have wL:(AH q).on b=if y.jump=1 then []else [y.on.toNat]:=by rw[Qbpd hb,hy]
 have mh:(AH q).ins b=y.ins.map λx=>(B8 x,toN x.args):=by rw[Qbjk hb,hy]
 have aw:=eq_true hs.ok;have ev:=hs.len;have hoz:=hs.sz;have j9:=hs.rows;have fd:=eq_true eL.ok;have wM:=eL.len;have wF:=eL.sz;have wK:=eL.rows;refine Qd A6 Qa5o ?_;refine Qa ?_;have iW:=dw.ow;simp only[go_sem];refine Qa ?_;simp only[go_sem,bt,hcw,aw,ev,hoz,j9,bk,aC,fd,wM,wF,wK,Q0,am,Jx,Jq,Jm];refine⟨.inl trivial,ON _,by simp only[LIM];omega,λy9 gW H1 h1=>?_⟩;have kn:=kn.al gW h1;simp only[go_sem,Ch];refine Qa ?_;have kH:=dw.s H1 λm hm _=>by
  have bf:m≠y9:=λhh=>hm (by rw[hh];exact gW);rw[h1,Heap.aj _ _ bf]
 have b9:=eq_true kH.ok;have gG:=kH.len;have iw:=kH.sz;have fz:=kH.rows;simp only[go_sem,iW,b9,gG,iw,fz,hb,Ql,Q9 _ _ hb,BlkD.cells,hy];intro x10 eY H2 h2;have kn:=kn.al eY h2;have eY:=kn.l (L++[(y9,Obj.vec 1 (Qs bs))]).length (l:=x10) (o:=.st [.sl true 2 [],.sl true 4 [],Ui 0,Ui 0,.sl true 1 []]) ZC;simp only[go_sem,Qu4,eY];intro H3 h3;have kn:Kn H0 H3 E ((L++[(y9,.vec 1 (Qs bs))])++[(x10,blkC y)]):=by
  have:=kn.aA (L++[(y9,Obj.vec 1 (Qs bs))]).length (x:=x10) (o:=.st [.sl true 2 [],.sl true 4 [],Ui 0,Ui 0,.sl true 1 []]) ZC h3;simpa[blkC]using this
 have getx:∀{bs1:List Bool} {H4:Heap},Kn H0 H4 E ((L++[(y9,.vec 1 (Qs bs1))])++[(x10,blkC y)])->H4 x10=.st [.sl false 2 (Q3 y.ab),.sl false 4 (AD y.ins),Ui y.jump,Ui y.on,.sl false 1 (Qc y.next)]/\H4 y9=.vec 1 (Qs bs1):=λ{bs1 H4} kn=>
  ⟨(kn.get (x10,blkC y) ZC).1,(kn.get (y9,.vec 1 (Qs bs1)) ZC).1⟩
 have putx:∀{bs1 bs2:List Bool} {H4 H5:Heap},Kn H0 H4 E ((L++[(y9,.vec 1 (Qs bs1))])++[(x10,blkC y)])->H5=H4.set y9 (.vec 1 (Qs bs2))->Kn H0 H5 E ((L++[(y9,.vec 1 (Qs bs2))])++[(x10,blkC y)]):=λ{bs1 bs2 H4 H5} kn h=>by
  have:=kn.aA L.length (x:=y9) (o:=.vec 1 (Qs bs1)) ZC h;simpa using this
 have bP:∀(bs1:List Bool),bs1.length=q.ae.toNat->(Qs bs1).take q.ae.toNat=Qs bs1:=λbs1 h=>Jc Zan;refine Q1 (Qa ?_);obtain⟨eY,gW⟩:=getx kn;simp only[go_sem,eY];refine Bk (λe2 H4=>∃(bs1:List Bool),bs1.length=q.ae.toNat/\Mem bs1 ((AH q).endS W b)/\Kn H0 H4 E ((L++[(y9,.vec 1 (Qs bs1))])++[(x10,blkC y)])/\
  lk 3 e2=Uv i/\lk 9 e2=.c (.ai y9 1 0 q.ae.toNat)/\lk 10 e2=Up x10) ?_ ?_
 ·intro Q bH _ _;refine Wv ?_ ?_
  ·intro hc;have hj:¬y.jump=1:=ZD
   obtain⟨hv,bO⟩:=(cC.on hj).nat;have eZ:y.on.toNat<bs.length:=ZA
   generalize hr:y.on.toNat=r at *;refine Qq ?_;simp only[go_sem,eY,gW,hv,bO,Q0,am,Df,Q6 _ _ eZ,Jm,Jk];intro H4 h4;refine bH _ _ ⟨_,by rw[Jh];exact am,?_,putx kn h4,rfl,rfl,rfl⟩;refine (hm.ins ZA).congr λz=>?_;rw[Flo.endS,wL,if_neg hj];simp[or_comm]
  ·intro hc;have hj:y.jump=1:=ZD
   refine Zd ?_
   refine bH _ _ ⟨bs,am,?_,kn,rfl,rfl,rfl⟩;refine hm.congr λz=>?_;rw[Flo.endS,wL,if_pos hj];simp
 ·rintro e2 H4 ⟨bs1,am,hm,kn,l3,l9,l10⟩;obtain⟨eY,gW⟩:=getx kn;refine Q1 (Qa ?_);simp only[go_sem,l3,l9,l10,eY,Bm];intro _;refine⟨Qr,?_⟩;refine Qh (Qe (Qx (λm e1 H1=>∃(k:Nat) (j:Int) (bs1:List Bool),m=k/\k<=y.ins.length/\i+1<=k/\j=(k:Int)-1/\bs1.length=q.ae.toNat/\Mem bs1 ((AH q).beh W b k)/\Kn H0 H1 E ((L++[(y9,.vec 1 (Qs bs1))])++[(x10,blkC y)])/\
   e1=[(3,Uv i),(9,.c (.ai y9 1 0 q.ae.toNat)),(10,Up x10),(11,Uv j)]) y.ins.length ?_ ?_))
  ·refine⟨y.ins.length,_,bs1,rfl,Jk _,ZA,rfl,am,hm.congr λz=>?_,kn,rfl⟩;rw[Flo.beh_end _ _ _ (by rw[mh,J6];exact Jk _)]
  ·rintro m e1 H5 ⟨k,j,bs1,rfl,hk,zM,pb,am,hm,kn,rfl⟩;obtain⟨eY,gW⟩:=getx kn;refine Wa ?_;refine Wu ?_ ?_
   ·intro hc;have fW:i<j:=ZD;obtain⟨k,rfl⟩:∃k',m=k'+1:=⟨m-1,ZA⟩;have hj:j=(k:Int):=ZA;subst hj;have ce:k<y.ins.length:=ZA;obtain⟨x,hx⟩:∃x,y.ins[k]=x:=⟨_,rfl⟩;have kR:x∈y.ins:=(by rw[<-hx];exact Jf ce);have jQ:(AH q).beh W b k=Fa (B8 x,toN x.args) ((AH q).beh W b (k+1)):=by
     rw[Flo.beh_step _ _ _ (by rw[mh,J6];exact ce)];simp only[mh,Ja0,hx]
    refine Zd ?_
    refine Bk (λe2 H6=>∃(bs2:List Bool),bs2.length=q.ae.toNat/\Mem bs2 ((AH q).beh W b k)/\Kn H0 H6 E ((L++[(y9,.vec 1 (Qs bs2))])++[(x10,blkC y)])/\
     lk 3 e2=Uv i/\lk 9 e2=.c (.ai y9 1 0 q.ae.toNat)/\lk 10 e2=Up x10/\lk 11 e2=Uv k) ?_ ?_
    ·intro Q bH _ _;refine Qe (Qa ?_);simp only[go_sem,eY,ce,Bm,DJ _ _ ce,InsD.cF,InsD.bv,InsD.len4,hx];refine KZ ?_;simp only[go_sem,Qu5];refine Wa ?_;refine Bk (λe2 H6=>∃(bs2:List Bool),bs2.length=q.ae.toNat/\Mem bs2 (λr=>(AH q).beh W b (k+1) r/\B8 x≠some r)/\Kn H0 H6 E ((L++[(y9,.vec 1 (Qs bs2))])++[(x10,blkC y)])/\
      lk 3 e2=Uv i/\lk 9 e2=.c (.ai y9 1 0 q.ae.toNat)/\lk 10 e2=Up x10/\lk 11 e2=Uv k) ?_ ?_
     ·intro Q bH _ _;refine Wv ?_ ?_
      ·intro a7;have cD:BR x.op=true:=by
        cases cD:BR x.op with
        |true=>rfl
        |false=>simp[BN,cD]at a7
       obtain⟨hv,bO⟩:=(cC.to x kR cD).nat;have eZ:x.to.toNat<bs1.length:=ZA;have mZ:BN x=x.to:=(by rw[BN,cD];rfl);have ej:B8 x=some x.to.toNat:=(by rw[B8,cD];rfl);rw[mZ];rw[ej]at bH;generalize hr:x.to.toNat=r at *;refine Qq ?_;simp only[go_sem,gW,hv,bO,Q0,am,Df,Q6 _ _ eZ,Jm,Jk];intro H6 h6;refine bH _ _ ⟨_,by rw[Jh];exact am,?_,putx kn h6,rfl,rfl,rfl,rfl⟩;refine (hm.del ZA).congr λz=>?_;simp[eq_comm]
      ·intro a7;have cD:BR x.op=false:=by
        cases cD:BR x.op with
        |false=>rfl
        |true=>
         have:=(cC.to x kR cD).1;simp[BN,cD]at a7;omega
       have ej:B8 x=none:=(by rw[B8,cD];rfl);rw[ej]at bH;refine Zd ?_
       exact bH _ _ ⟨bs1,am,hm.congr λz=>ZC,kn,rfl,rfl,rfl,rfl⟩
     ·rintro e2 H6 ⟨bs2,am,hm,kn,l3,l9,l10,l11⟩;refine Qa ?_;simp only[go_sem,l3,l9,l10,l11];refine Qe (Qx (λm e1 H1=>∃(a:Nat) (bs2:List Bool),m=x.args.length-a/\a<=x.args.length/\bs2.length=q.ae.toNat/\Mem bs2 (λr=>r∈(toN x.args).take a\/((AH q).beh W b (k+1) r/\B8 x≠some r))/\Kn H0 H1 E ((L++[(y9,.vec 1 (Qs bs2))])++[(x10,blkC y)])/\
       e1=[(3,Uv i),(9,.c (.ai y9 1 0 q.ae.toNat)),(10,Up x10),(11,Uv k),(13,Uv a)]) x.args.length ?_ ?_)
      ·exact⟨0,bs2,ZA,ZA,am,hm.congr λz=>ZC,kn,rfl⟩
      ·rintro m2 e1 H7 ⟨a,bs2,eW,ha,am,hm,kn,rfl⟩;obtain⟨eY,gW⟩:=getx kn;refine Q1 (Qa ?_);simp only[go_sem,eY,ce,Bm,DJ _ _ ce,InsD.cells,hx,Qb];intro dD;simp only[LIM]at dD;refine Wu ?_ ?_
       ·intro a7;have af:a<x.args.length:=ZF;obtain⟨hv,bO⟩:=(cC.args x kR _ (Gz af)).nat;have gm:=Xl af;have eZ:(x.args.getD a 0).toNat<bs2.length:=ZA;generalize hr:(x.args.getD a 0).toNat=r at *;refine Zd ?_
        refine Wr ?_;simp only[go_sem,eY,gW,ce,Bm,DJ _ _ ce,InsD.cells,hx,af,Qb,Qo _ _ af,hv,bO,Q0,am,Df,Q6 _ _ eZ,Jm,Jk];intro H8 h8;refine Zg ?_;refine⟨Qr,x.args.length-(a+1),ZA,a+1,_,rfl,ZA,by rw[Jh];exact am,?_,putx kn h8,rfl⟩;refine (hm.ins ZA).congr λz=>?_;rw[gm];simp only[Jj,Jb];constructor
        ·rintro (h|h|h)
         ·exact .inl (.inr h)
         ·exact .inl (.inl h)
         ·exact .inr h
        ·rintro ((h|h)|h)
         ·exact .inr (.inl h)
         ·exact .inl h
         ·exact .inr (.inr h)
       ·intro a7;have bp:x.args.length<=a:=ZF;refine Zb ?_;refine bH _ _ ⟨bs2,am,hm.congr λz=>?_,kn,rfl,rfl,rfl,rfl⟩;rw[jQ,Jc (by simpa[toN]using bp)];rfl
    ·rintro e2 H6 ⟨bs2,am,hm,kn,l3,l9,l10,l11⟩;refine Qq ?_;simp only[go_sem,X.next,l3,l9,l10,l11];exact⟨Qr,k,ZA,k,(k:Int)-1,bs2,rfl,ZA,ZA,rfl,am,hm,kn,rfl⟩
   ·intro hc;have aR:¬i<j:=ZD;refine Wo ?_;have e1:(i+1).toNat=m:=ZA;exact hK y9 bs1 H5 am (by rw[e1];exact hm) kn.drop
end Go.AE.Y
namespace Go.AE.Y
attribute [local go_sem] cond_true cond_false Bool.not_true Bool.not_false
open Go.Proofs.Tryz
variable {H H0 F:Heap}{K:Uk}{E L:Ul}
structure SetO where
 c:C
 lg:Ul
 ks:List Nat
structure SetO.ok (R:Nat)(s:SetO):Prop where
 nd:s.ks.Nodup
 lt:∀x∈s.ks,x<R
 m:(s.c=.mnil/\s.lg=[]/\s.ks=[])\/∃M ver,s.c=.mp M/\s.lg=[(M,.map ver (Sd s.ks))]
theorem SetO.ok.ah {R:Nat}{s:SetO}(h:s.ok R):s.c.ah=false:=by rcases h.m with ⟨h,_⟩|⟨M,ver,h,_⟩ <;> rw[h] <;> rfl
theorem SetO.ok.len {R:Nat}{s:SetO}(h:s.ok R):s.ks.length<=R:=Qaw8 h.nd h.lt
end Go.AE.Y
namespace Go.AE.Y
attribute [local instance] Classical.propDecidable
def tab (zs:List (Nat×List Bool))(b:Nat):RS':=λr=>(((zs[b]?).map Prod.snd).getD []).getD r false=true
variable {zs zi zo:List (Nat×List Bool)}{F:Flo}
theorem Fk {b:Nat}(h:b<zs.length)(r:Nat):tab zs b r↔zs[b].2.getD r false=true:=by simp[tab,h]
theorem Iv {b:Nat}{x:Nat×List Bool}(h:b<zs.length)(r:Nat):tab (zs.set b x) b r↔x.2.getD r false=true:=by simp[tab,h]
theorem GV {b c:Nat}{x:Nat×List Bool}(h:c≠b):tab (zs.set b x) c=tab zs c:=by
 funext r
 simp only[tab];rw[Ja6 (λe=>h e.symm)]
theorem Oh {α:Type}{l:List α}{i:Nat}{x:α}(h:l[i]? = some x):l.set i x=l:=by
 have hi:=(List.getElem?_eq_some_iff.1 h).1;refine Jah λj=>?_;rw[J5];by_cases gC:i=j
 ·subst gC;rw[if_pos rfl,if_pos hi,h]
 ·rw[if_neg gC]
theorem Q90 {a b:List Bool}(hl:a.length=b.length)(h:∀r,a.getD r false=true->b.getD r false=true):cnt a<=cnt b/\(∀r,a.getD r false≠b.getD r false->cnt a<cnt b):=by
 induction a generalizing b with
 |nil=>
  cases b with
  |nil=>exact⟨Jk _,λr hr=>absurd rfl hr⟩
  |cons=>simp at hl
 |cons x a ih=>
  cases b with
  |nil=>simp at hl
  |cons y b=>
   have ih':=ih (b:=b) Zae λr hr=>by have:=h (r+1);simpa using this Zah
   have h0:x=true->y=true:=by have:=h 0;simpa using this
   have hc:∀(z:Bool) (l:List Bool),cnt (z::l)=cnt l+(if z=true then 1 else 0):=λz l=>by
    simp only[cnt,Jbm];cases z <;> simp
   rw[hc,hc];refine⟨?_,λr hr=>?_⟩
   ·cases x with
    |false=>have:=ih'.1;cases y <;> simp <;> omega
    |true=>rw[h0 rfl];have:=ih'.1;simp;omega
   ·cases r with
    |zero=>
     have nu:x≠y:=Zah
     cases x with
     |true=>exact absurd (h0 rfl).symm nu
     |false=>
      cases y with
      |false=>exact absurd rfl nu
      |true=>have:=ih'.1;simp;omega
    |succ r=>
     have:=ih'.2 r Zah
     cases x with
     |false=>cases y <;> simp <;> omega
     |true=>rw[h0 rfl];simp;omega
def AS (zs:List (Nat×List Bool)):Nat:=(zs.map λp=>cnt p.2).sum
theorem Iu {b:Nat}{x:Nat×List Bool}(h:b<zs.length):AS (zs.set b x)+cnt zs[b].2=AS zs+cnt x.2:=by
 induction zs generalizing b with
 |nil=>simp at h
 |cons z zs ih=>
  cases b with
  |zero=>simp[AS];omega
  |succ b=>
   have:=ih (b:=b) ZI;simp only[AS,Jau,Jv,Jay,List.getElem_cons_succ]at this⊢;omega
theorem Ei {R:Nat}(h:∀p∈zs,p.2.length=R):AS zs<=zs.length * R:=by
 induction zs with
 |nil=>simp[AS]
 |cons z zs ih=>
  have h1:=EH z.2;rw[h z Jn]at h1;have h2:=ih λp hp=>h p (Ji _ hp);simp only[AS,Jv,Jay,Jp,Jbr]at *;omega
structure LvInv (F:Flo)(zi zo:List (Nat×List Bool)):Prop where
 bi:∀b,b<F.n->∀r,tab zi b r->F.LI b r
 bo:∀b,b<F.n->∀r,tab zo b r->F.LO b r
 post:∀b,b<F.n->∀r,tab zi b r->F.thru (tab zo b) b r
def LvCl (F:Flo)(zi zo:List (Nat×List Bool))(b:Nat):Prop:=(∀r,F.outT (tab zi) b r->tab zo b r)/\∀r,F.thru (tab zo b) b r->tab zi b r
theorem LvInv.done (h:LvInv F zi zo)(hf:F.fits)(hc:∀b,b<F.n->LvCl F zi zo b):∀b,b<F.n->∀r,(tab zi b r↔F.LI b r)/\(tab zo b r↔F.LO b r):=by
 have hp:F.Pre (tab zi):=λb hb r hr=>(hc b hb).2 r (Flo.thru_mono (hc b hb).1 b r hr);intro b hb r;refine⟨Flo.is_least hp h.bi hb r,h.bo b hb r,λhr=>(hc b hb).1 r ?_⟩;exact Flo.outT_mono hf (λc hc r hr=>(Flo.is_least hp h.bi hc r).2 hr) hb r hr
theorem LvInv.step {R z w y b:Nat}{bs bw bs1 nb:List Bool}{a a1 a2:Bool}(h:LvInv F zi zo)(hf:F.fits)(hb:b<F.n)(cj:zi.length=F.n)(ev:zo.length=F.n)(hRi:∀p∈zi,p.2.length=R)(hRo:∀p∈zo,p.2.length=R)
  (tB:bs1.length=R) (oT:nb.length=R) (pA:zo[b]? = some (z,bs)) (jr:zi[b]? = some (w,bw))
  (g1:∀r,bs.getD r false=true->bs1.getD r false=true) (g2:∀r,bs1.getD r false=true->F.LO b r) (g3:∀r,F.outT (tab zi) b r->bs1.getD r false=true)
  (g4:∀r,nb.getD r false=true↔F.thru (λr=>bs1.getD r false=true) b r)
  (k1:a1=true->a=true\/cnt bs<cnt bs1) (k2:a1=false->a=false/\bs1=bs)
  (k3:a2=true->a1=true\/∃r,nb.getD r false≠bw.getD r false) (k4:a2=false->a1=false/\∀r,r<R->nb.getD r false=bw.getD r false) :
  LvInv F (zi.set b (y,nb)) (zo.set b (z,bs1))/\AS zi+AS zo<=AS (zi.set b (y,nb))+AS (zo.set b (z,bs1))/\
   (a2=true->a=true\/AS zi+AS zo<AS (zi.set b (y,nb))+AS (zo.set b (z,bs1)))/\
   (a2=false->a=false/\LvCl F (zi.set b (y,nb)) (zo.set b (z,bs1)) b/\∀c,LvCl F zi zo c->LvCl F (zi.set b (y,nb)) (zo.set b (z,bs1)) c):=by
 have cB:b<zi.length:=ZA
 have cg:b<zo.length:=ZA
 have ezo:zo[b]=(z,bs):=by rw[Jd cg]at pA;simpa using pA
 have ezi:zi[b]=(w,bw):=by rw[Jd cB]at jr;simpa using jr
 have oX:bs.length=R:=hRo (z,bs) (by rw[<-ezo];exact Jf cg);have md:bw.length=R:=hRi (w,bw) (by rw[<-ezi];exact Jf cB);have tzo:∀r,tab zo b r↔bs.getD r false=true:=λr=>by rw[Fk cg,ezo]
 have tzi:∀r,tab zi b r↔bw.getD r false=true:=λr=>by rw[Fk cB,ezi]
 have tzo':∀r,tab (zo.set b (z,bs1)) b r↔bs1.getD r false=true:=λr=>Iv cg r;have tzi':∀r,tab (zi.set b (y,nb)) b r↔nb.getD r false=true:=λr=>Iv cB r;have j4:∀r,bw.getD r false=true->nb.getD r false=true:=λr hr=>by
  rw[g4];exact Flo.thru_mono (λr hr=>g1 r ((tzo r).1 hr)) b r (h.post b hb r ((tzi r).2 hr))
 have c1:=Q90 (a:=bs) (b:=bs1) ZA g1;have c2:=Q90 (a:=bw) (b:=nb) ZA j4;have t1:=Iu (zs:=zo) (x:=(z,bs1)) cg;have t2:=Iu (zs:=zi) (x:=(y,nb)) cB;rw[ezo]at t1;rw[ezi]at t2;simp only at t1 t2;refine⟨⟨λc hc r hr=>?_,λc hc r hr=>?_,λc hc r hr=>?_⟩,by have:=c1.1;have:=c2.1;omega,λha=>?_,λha=>?_⟩
 ·by_cases eL:c=b
  ·subst eL;rw[tzi',g4]at hr;exact Flo.LI_pre hf c hb r (Flo.thru_mono g2 c r hr)
  ·rw[GV eL]at hr;exact h.bi c hc r hr
 ·by_cases eL:c=b
  ·subst eL;rw[tzo']at hr;exact g2 r hr
  ·rw[GV eL]at hr;exact h.bo c hc r hr
 ·by_cases eL:c=b
  ·subst eL;rw[tzi',g4]at hr;exact Flo.thru_mono (λr hr=>(tzo' r).2 hr) c r hr
  ·rw[GV eL]at hr⊢;exact h.post c hc r hr
 ·rcases k3 ha with h1|⟨r,hr⟩
  ·rcases k1 h1 with h2|h2
   ·exact .inl h2
   ·right;have:=c2.1;omega
  ·right;have:=c2.2 r (λe=>hr e.symm);have:=c1.1;omega
 ·obtain⟨h1,h2⟩:=k4 ha;obtain⟨h3,h4⟩:=k2 h1;have nN:∀r,nb.getD r false=bw.getD r false:=λr=>by
   by_cases hr:r<R
   ·exact h2 r hr
   ·rw[Ja,Ja,Jo ZA,Jo ZA]
  have ti:tab (zi.set b (y,nb))=tab zi:=by
   funext c r
   by_cases eL:c=b
   ·subst eL;refine propext ?_;rw[tzi',tzi,nN]
   ·rw[GV eL]
  have to:tab (zo.set b (z,bs1))=tab zo:=by
   funext c r
   by_cases eL:c=b
   ·subst eL;refine propext ?_;rw[tzo',tzo,h4]
   ·rw[GV eL]
  refine⟨h3,⟨λr hr=>?_,λr hr=>?_⟩,λc hc=>?_⟩
  ·rw[ti]at hr;exact (tzo' r).2 (g3 r hr)
  ·rw[tzi',g4];exact Flo.thru_mono (λr hr=>(tzo' r).1 hr) b r hr
  ·rw[LvCl,ti,to];exact hc
end Go.AE.Y
namespace Go.AE.Y
attribute [local go_sem] cond_true cond_false Bool.not_true Bool.not_false
open Go.Proofs.Tryz
variable {H H0 F:Heap}{K:Uk}{E L:Ul}
def AQ (R:Nat)(zs:List (Nat×List Bool)):List (List C):=zs.map λp=>[.ai p.1 1 0 R]
def obZ (zs:List (Nat×List Bool)):List (Nat×Obj):=zs.map λp=>(p.1,.vec 1 (Qs p.2))
theorem B4 (R:Nat)(zs:List (Nat×List Bool)):(AQ R zs).length=zs.length:=by simp[AQ]
theorem ED (R:Nat)(zs:List (Nat×List Bool))(i:Nat)(h:i<zs.length):(AQ R zs).getD i []=[.ai zs[i].1 1 0 R]:=by simp[AQ,Ja,h]
theorem Kc {R:Nat}{zs:List (Nat×List Bool)}{i:Nat}{x:Nat×List Bool}(h:i<zs.length)(hx:x.1=zs[i].1):AQ R (zs.set i x)=AQ R zs:=by
 rw[AQ,Jal,hx];refine Jah λj=>?_;rw[J5];split
 ·subst_vars;rw[if_pos ZI];simp[AQ,h]
 ·rfl
def lvE (R yi yo:Nat)(zi zo:List (Nat×List Bool)):List (Nat×Obj):=[(yi,.vec 1 (AQ R zi)),(yo,.vec 1 (AQ R zo))]++(obZ zi++obZ zo)
variable {R yi yo:Nat}{zi zo:List (Nat×List Bool)}
theorem Se {b:Nat}(hb:b<zo.length):(lvE R yi yo zi zo)[2+zi.length+b]? = some (zo[b].1,.vec 1 (Qs zo[b].2)):=by
 have:2+zi.length+b=(zi.length+b)+1+1:=ZA
 rw[lvE,this];simp only[J1,Jx,List.getElem?_cons_succ];rw[List.getElem?_append_right (by simp[obZ])];simp[obZ,hb]
theorem TY {b z:Nat}{bs:List Bool}(hb:b<zo.length)(hz:zo[b].1=z):(lvE R yi yo zi zo).set (2+zi.length+b) (z,.vec 1 (Qs bs))=lvE R yi yo zi (zo.set b (z,bs)):=by
 have:2+zi.length+b=(zi.length+b)+1+1:=ZA
 rw[lvE,lvE,this,Kc hb hz.symm];simp only[J1,Jx,Jau];rw[List.set_append_right _ _ (by simp[obZ])];simp[obZ,Jal]
theorem Et {b m z w:Nat}{bs nb:List Bool}(kn:Kn F H (lvE R yi yo zi (zo.set b (z,bs))) L)(hb:b<zo.length)(hz:zo[b].1=z)(hm:m<zi.length)(hw:zi[m]=(w,nb)) :
  H yi=.vec 1 (AQ R zi)/\H yo=.vec 1 (AQ R zo)/\H z=.vec 1 (Qs bs)/\H w=.vec 1 (Qs nb):=by
 refine⟨(kn.get (yi,.vec 1 (AQ R zi)) (by simp[lvE])).1,?_,(kn.get (z,.vec 1 (Qs bs)) ?_).1,(kn.get (w,.vec 1 (Qs nb)) ?_).1⟩
 ·rw[<-Kc (R:=R) (x:=(z,bs)) hb hz.symm];exact (kn.get (yo,.vec 1 (AQ R (zo.set b (z,bs)))) (by simp[lvE])).1
 ·refine Jr _ (Ju _ (Ju _ (Js.2 ⟨(z,bs),?_,rfl⟩)));exact Jz.2 ⟨b,ZX,ZC⟩
 ·exact Jr _ (Ju _ (Jr _ (Js.2 ⟨(w,nb),by rw[<-hw];exact Jf hm,rfl⟩)))
theorem TZ {b z:Nat}{bs bs2:List Bool}{H':Heap}(kn:Kn F H (lvE R yi yo zi (zo.set b (z,bs))) L)(hb:b<zo.length)(h:H'=H.set z (.vec 1 (Qs bs2))):Kn F H' (lvE R yi yo zi (zo.set b (z,bs2))) L:=by
 have aT:b<(zo.set b (z,bs)).length:=ZX
 have:=kn.stE (2+zi.length+b) (x:=z) (o:=.vec 1 (Qs bs)) (by have h:=Se (R:=R) (yi:=yi) (yo:=yo) (zi:=zi) aT;simpa using h) h;rw[TY aT ZC,Jbp]at this;exact this
theorem Ia {b z:Nat}{bs bs2:List Bool}:(lvE R yi yo zi (zo.set b (z,bs))).map Prod.fst=(lvE R yi yo zi (zo.set b (z,bs2))).map Prod.fst:=by
 have e:∀bs:List Bool,(obZ (zo.set b (z,bs))).map Prod.fst=(zo.map Prod.fst).set b z:=λbs=>by
  simp only[obZ,Jal,Jbi];rfl
 simp only[lvE,Jw,Jv,Jab,e]
theorem Q0q {bs:List Bool}{r:Nat}(h:bs.getD r false=true):bs.set r true=bs:=by
 refine Jah λj=>?_;rw[J5];split
 ·subst_vars
  rw[Ja]at h;split
  ·rename_i hl;rw[Jd hl]at h⊢;simp at h;rw[h]
  ·rename_i hl;rw[Jo ZA]
 ·rfl
structure lvOk (R n:Nat)(zi zo:List (Nat×List Bool)):Prop where
 i:zi.length=n
 o:zo.length=n
 li:∀p∈zi,p.2.length=R
 lo:∀p∈zo,p.2.length=R
theorem Qbki {q:CodeD}{bc:C}{Xs:List Nat}{b m z:Nat}{bs nb:List Bool}{w:Nat}(ho:q.ok)(dw:CodeR F Xs bc q)(hX:∀x∈(lvE q.ae.toNat yi yo zi zo).map Prod.fst,x∈Xs)(hb:b<q.blocks.length)(tq:(m:Int)∈gnx q b)(aw:lvOk q.ae.toNat q.blocks.length zi zo)
  (hz:zo[b]? = some (z,bs)) (hw:zi[m]? = some (w,nb)) {O I:RS'} (hO:Mem bs O) (hI:Mem nb I)
  (kn:Kn F H (lvE q.ae.toNat yi yo zi zo) [])
  (hK:∀(bs':List Bool) (a:Bool) H',bs'.length=q.ae.toNat->Mem bs' (λr=>O r\/I r\/r∈(AH q).ea b m)->(a=true->cnt bs<cnt bs')->(a=false->bs'=bs)->Kn F H' (lvE q.ae.toNat yi yo zi (zo.set b (z,bs'))) []->K (.c (.bool a)) H') :
  Qv prog L4 [.ag [Ui q.params,Ui q.ae,bc],.ag [.ai yi 1 0 q.blocks.length,.ai yo 1 0 q.blocks.length],Uv b,Uv m] H K:=by
 have bR:=ho.r0;have ib:=ho.r1;have bg:=ho.b1;have fC:m<q.blocks.length:=by
  have:=(ho.bs b hb).nx (m:Int) (by rw[<-CD hb];exact tq);omega
 have pf:=ho.ix hb tq;have j6:(b:Int)∈Qp (gnx q) (m:Int) q.blocks.length:=List.idxOf_lt_length_iff.1 pf;obtain⟨y,hy⟩:∃y,q.blocks[m]=y:=⟨_,rfl⟩;have cC:y.ok q m:=by rw[<-hy];exact ho.bs m fC
 have cj:y.ins.length<=1200/\y.ab.length<=1200:=by rw[<-hy];exact ho.il m fC
 have pk:(AH q).ea b m=y.ab.map λp=>(p.args.getD ((Qp (gnx q) (m:Int) q.blocks.length).idxOf (b:Int)) 0).toNat:=by rw[Qbpc fC,hy]
 generalize bq:(Qp (gnx q) (m:Int) q.blocks.length).idxOf (b:Int)=at_ at *;have cg:b<zo.length:=by rw[aw.o];exact hb
 have mZ:m<zi.length:=by rw[aw.i];exact fC
 have cV:zo[b]=(z,bs):=by rw[Jd cg]at hz;simpa using hz
 have gJ:zi[m]=(w,nb):=by rw[Jd mZ]at hw;simpa using hw
 have pB:zo[b].1=z:=by rw[cV]
 have gI:zi[m].1=w:=by rw[gJ]
 have bk:bs.length=q.ae.toNat:=aw.lo (z,bs) (by rw[<-cV];exact Jf cg);have bC:nb.length=q.ae.toNat:=aw.li (w,nb) (by rw[<-gJ];exact Jf mZ);have i6:=aw.o;have tN:=aw.i;have bK:zo.set b (z,bs)=zo:=Oh hz;have bP:∀(bs1:List Bool),bs1.length=q.ae.toNat->(Qs bs1).take q.ae.toNat=Qs bs1:=λbs1 h=>Jc Zan;have qa:∀(zs:List (Nat×List Bool)),zs.length=q.blocks.length->(AQ q.ae.toNat zs).take q.blocks.length=AQ q.ae.toNat zs:=λzs h=>Jc (by rw[B4];omega);rw[<-bK]at kn hX;have iW:=dw.ow;have hX2:∀(bs1:List Bool),∀x∈(lvE q.ae.toNat yi yo zi (zo.set b (z,bs1))).map Prod.fst,x∈Xs:=λbs1 x hx=>hX x (by rw[Ia (bs2:=bs)]at hx;exact hx);obtain⟨f8,nr,ry,n3⟩:=Et kn cg pB mZ gJ;refine Qd A6 Qblb ?_;refine Wk ?_;simp only[go_sem,f8,n3,qa _ tN,bP _ bC,B4,ED _ _ _ mZ,gI,fC,tN,Q0,bC,Jm,Jk,Jx,Jq];refine⟨.inl trivial,ON _,by simp only[LIM];omega,λy9 gW H1 h1=>?_⟩;have kn:=kn.al gW h1;simp only[go_sem,Ch];refine Zi iW ?_;refine DG (rows:=Qm q.blocks) (nx:=gnx q) (dw.rd kn hX) iW (Dl H1 q false).x λH2 hu=>?_;have kn:=kn.au hu;rw[Ql];simp only[go_sem,Q4b];refine D1 (.mk' _ _ _ _) rfl λr hr=>?_;have hr:=hr.idx j6;rw[bq]at hr;subst hr;simp only[go_sem,Q4a];refine Wa ?_;refine Qh (Qe (Qx (λm1 e1 H1=>∃(i:Nat) (nb1:List Bool),m1=y.ab.length-i/\i<=y.ab.length/\nb1.length=q.ae.toNat/\Mem nb1 (λr=>I r\/r∈((AH q).ea b m).take i)/\Kn F H1 (lvE q.ae.toNat yi yo zi (zo.set b (z,bs))) [(y9,.vec 1 (Qs nb1))]/\
  e1=[(2,Uv b),(3,Uv m),(4,.c (.pp [Ui q.params,Ui q.ae,bc])),(5,.c (.pp [.ai yi 1 0 q.blocks.length,.ai yo 1 0 q.blocks.length])),(9,.c (.ai y9 1 0 q.ae.toNat)),(10,Uv at_),(11,Uv i)]) y.ab.length ?_ ?_))
 ·exact⟨0,nb,ZA,ZA,bC,hI.congr λr=>ZC,kn,rfl⟩
 ·rintro m1 e1 H3 ⟨i,nb1,xe,hi,bC,hN,kn,rfl⟩;have gW:=kn.l 0 rfl;obtain⟨b9,gG,iw,fz⟩:=dw.facts kn (hX2 bs);refine Q1 (Qa ?_);simp only[go_sem,iW,b9,gG,iw,fz,fC,Q9 _ _ fC,hy,BlkD.cells,Qy];intro _;refine Wu ?_ ?_
  ·intro hc;have af:i<y.ab.length:=ZD
   have lU:=cC.pal _ (Jf af);have dD:at_<y.ab[i].args.length:=ZA
   obtain⟨hv,bO⟩:=(cC.pargs _ (Jf af) _ (Gz dD)).nat;have gm:((AH q).ea b m).take (i+1)=((AH q).ea b m).take i++[(y.ab[i].args.getD at_ 0).toNat]:=by
    rw[Jg (by rw[pk,J6];exact af)];simp[pk]
   have eZ:(y.ab[i].args.getD at_ 0).toNat<nb1.length:=ZA
   generalize hr:(y.ab[i].args.getD at_ 0).toNat=r at *;refine Zd ?_
   refine Wr ?_;simp only[go_sem,iW,b9,gG,iw,fz,fC,Q9 _ _ fC,hy,BlkD.cells,Qy,af,BU _ _ af,PhiD.cells,dD,Qb,Qo _ _ dD,hv,bO,gW,Q0,bC,Df,Q6 _ _ eZ,Jm,Jk];intro H4 h4;have kn:=kn.aA 0 rfl h4;refine Zg ?_;refine⟨Qr,y.ab.length-(i+1),ZA,i+1,_,rfl,ZA,by rw[Jh];exact bC,?_,kn,rfl⟩;refine (hN.ins ZA).congr λx=>?_;rw[gm];simp only[Jj,Jb];constructor
   ·rintro (h|h|h)
    ·exact .inr (.inr h)
    ·exact .inl h
    ·exact .inr (.inl h)
   ·rintro (h|h|h)
    ·exact .inr (.inl h)
    ·exact .inr (.inr h)
    ·exact .inl h
  ·intro hc;have bp:y.ab.length<=i:=ZD
   have hN:Mem nb1 (λr=>I r\/r∈(AH q).ea b m):=hN.congr λr=>by rw[Jc (by rw[pk,J6];exact bp)]
   refine Wc ?_;refine Wa ?_;refine Qh (Qe (Qx (λm1 e1 H1=>∃(i:Nat) (bs1:List Bool) (more:Bool),m1=q.ae.toNat-i/\i<=q.ae.toNat/\bs1.length=q.ae.toNat/\Mem bs1 (λr=>O r\/(r<i/\(I r\/r∈(AH q).ea b m)))/\(more=true->cnt bs<cnt bs1)/\(more=false->bs1=bs)/\
    Kn F H1 (lvE q.ae.toNat yi yo zi (zo.set b (z,bs1))) [(y9,.vec 1 (Qs nb1))]/\
    e1=[(2,Uv b),(4,.c (.pp [Ui q.params,Ui q.ae,bc])),(5,.c (.pp [.ai yi 1 0 q.blocks.length,.ai yo 1 0 q.blocks.length])),(9,.c (.ai y9 1 0 q.ae.toNat)),(12,.c (.bool more)),(13,Uv i)]) q.ae.toNat ?_ ?_))
   ·exact⟨0,bs,false,ZA,ZA,bk,hO.congr λr=>ZC,ZC,λ_=>rfl,kn,rfl⟩
   ·rintro m1 e1 H4 ⟨i,bs1,more,xe,hi,iZ,hB,uK,uM,kn,rfl⟩;have gW:=kn.l 0 rfl;obtain⟨f8,nr,ry,n3⟩:=Et kn cg pB mZ gJ;refine Wa ?_;refine Wu ?_ ?_
    ·intro hc;have af:i<q.ae.toNat:=(by have:(i:Int)<q.ae:=(by simpa using hc);omega);have fe:i<nb1.length:=ZA;have aN:i<bs1.length:=ZA;refine Zd ?_
     refine Bk (λe2 H2=>∃(bs2:List Bool) (more:Bool),bs2.length=q.ae.toNat/\Mem bs2 (λr=>O r\/(r<i+1/\(I r\/r∈(AH q).ea b m)))/\(more=true->cnt bs<cnt bs2)/\(more=false->bs2=bs)/\
      Kn F H2 (lvE q.ae.toNat yi yo zi (zo.set b (z,bs2))) [(y9,.vec 1 (Qs nb1))]/\
      lk 2 e2=Uv b/\lk 4 e2=.c (.pp [Ui q.params,Ui q.ae,bc])/\lk 5 e2=.c (.pp [.ai yi 1 0 q.blocks.length,.ai yo 1 0 q.blocks.length])/\lk 9 e2=.c (.ai y9 1 0 q.ae.toNat)/\lk 12 e2=.c (.bool more)/\lk 13 e2=Uv i) ?_ ?_
     ·intro Q bH _ _;refine Qe (Qa ?_);simp only[go_sem,gW,af,bP _ bC,Q0,bC,Q6 _ _ fe,Jm,Jk];refine Wv ?_ ?_
      ·intro a7;have tn:=(hN i).1 a7;have yJ:Mem (bs1.set i true) (λr=>O r\/(r<i+1/\(I r\/r∈(AH q).ea b m))):=(hB.ins aN).congr λr=>by
        constructor
        ·rintro (rfl|h|h)
         ·exact .inr ⟨ZA,tn⟩
         ·exact .inl h
         ·exact .inr ⟨ZA,h.2⟩
        ·rintro (h|h)
         ·exact .inr (.inl h)
         ·by_cases lM:r=i
          ·exact .inl lM
          ·exact .inr (.inr ⟨ZA,h.2⟩)
       have oE:∀(e:Env),lk 2 e=Uv b->lk 4 e=.c (.pp [Ui q.params,Ui q.ae,bc])->lk 5 e=.c (.pp [.ai yi 1 0 q.blocks.length,.ai yo 1 0 q.blocks.length])->lk 9 e=.c (.ai y9 1 0 q.ae.toNat)->lk 12 e=.c (.bool (bif more then true else !bs1.getD i false))->lk 13 e=Uv i->
         A9 prog Nx (X.inBlock 3 Q) e H4:=by
        intro e l2 l4 l5 l9 l12 l13;refine Qq ?_;simp only[go_sem,l2,l4,l5,l9,l12,l13,nr,ry,qa _ i6,B4,ED _ _ _ cg,pB,hb,i6,af,Q0,iZ,Df,Q6 _ _ aN,Jm,Jk];intro H5 h5;refine bH _ _ ⟨bs1.set i true,_,by rw[Jh];exact iZ,yJ,?_,?_,TZ kn cg h5,rfl,rfl,rfl,rfl,rfl,rfl⟩
        ·intro ej
         cases hg:bs1.getD i false with
         |true=>
          rw[Q0q hg];rw[hg]at ej
          cases dm:more with
          |true=>exact uK dm
          |false=>rw[dm]at ej;simp at ej
         |false=>
          rw[GI aN hg]
          cases dm:more with
          |true=>have:=uK dm;omega
          |false=>rw[uM dm];omega
        ·intro ej
         cases dm:more with
         |true=>rw[dm]at ej;simp at ej
         |false=>
          rw[dm]at ej;have hg:bs1.getD i false=true:=(by simpa using ej);rw[Q0q hg];exact uM dm
       cases dm:more with
       |true=>
        refine Qa ?_;simp only[go_sem,nr,ry,qa _ i6,bP _ iZ,B4,ED _ _ _ cg,pB,hb,i6,af,Q0,iZ,Q6 _ _ aN,Jm,Jk];exact oE _ rfl rfl rfl rfl (by rw[dm];rfl) rfl
       |false=>
        refine Qa ?_;simp only[go_sem,nr,ry,qa _ i6,bP _ iZ,B4,ED _ _ _ cg,pB,hb,i6,af,Q0,iZ,Q6 _ _ aN,Jm,Jk];exact oE _ rfl rfl rfl rfl (by rw[dm];rfl) rfl
      ·intro a7;refine Zd ?_
       refine bH _ _ ⟨bs1,more,iZ,hB.congr λr=>?_,uK,uM,kn,rfl,rfl,rfl,rfl,rfl,rfl⟩;constructor
       ·rintro (h|h)
        ·exact .inl h
        ·exact .inr ⟨ZA,h.2⟩
       ·rintro (h|h)
        ·exact .inl h
        ·by_cases lM:r=i
         ·subst lM;have:=(hN r).2 h.2;rw[this]at a7;exact absurd a7 ZC
         ·exact .inr ⟨ZA,h.2⟩
     ·rintro e2 H5 ⟨bs2,more2,ug,hB2,wZ,xb,kn,l2,l4,l5,l9,l12,l13⟩;refine Qq ?_;simp only[go_sem,X.next,l2,l4,l5,l9,l12,l13];exact⟨Qr,q.ae.toNat-(i+1),ZA,i+1,bs2,more2,rfl,ZA,ug,hB2,wZ,xb,kn,rfl⟩
    ·intro hc;have bp:q.ae.toNat<=i:=(by have:q.ae<=(i:Int):=(by simpa using hc);omega);refine Wo ?_;refine hK bs1 more H4 iZ (hB.congr λr=>?_) uK uM (kn.drop (A:=[]));constructor
     ·rintro (h|h)
      ·exact .inl h
      ·exact .inr h.2
     ·rintro (h|h)
      ·exact .inl h
      ·have:r<nb1.length:=hN.lt h;exact .inr ⟨ZA,h⟩
end Go.AE.Y
