/- Part 6 of the proof: the engine, codes, walks and plain laws, each named where it stands. -/
import Derived.Test.YtchjcdooknkfpaaGreatDoorZE
import Derived.WalkLawsBesides
import Derived.WalkSmall
open Nat (reduceEqDiff reduceAdd reduceLeDiff reduceLT)
set_option linter.unusedVariables false
set_option linter.unusedSimpArgs false
set_option maxRecDepth 4000
set_option maxHeartbeats 16000000
open Bool renaming not_eq_false'->Ja5,and_eq_true->Ja9
open Int renaming le_refl->Jat
open List renaming mem_singleton->Ja,getElem_mem->Jb,length_map->Jc,getD_eq_getElem?_getD->Jd,mem_append_right->Je,getElem?_eq_getElem->Jh,take_of_length_le->Ji,mem_append_left->Jj,length_set->Jk,length_cons->Jl,length_nil->Jm,mem_append->Jn,map_append->Jo,take_succ_eq_append_getElem->Jp,mem_map->Jq,mem_iff_getElem->Jr,getElem_map->Js,mem_flatMap->Jt,mem_or_eq_of_mem_set->Ju,nodup_append->Jv,forall_mem_cons->Jw,getElem?_map->Jx,mem_cons->Jy,map_set->J1,eq_of_mem_replicate->J2,getD_cons_zero->J3,map_congr_left->J4,getElem_set->J6,not_mem_nil->J7,eraseIdx_set_eq->J8,getElem?_of_mem->J9,cons_append->Jaa,getElem_set_self->Jab,nil_append->Jac,mem_range->Jad,ext_getElem->Jae,getD_cons_succ->Jaf,nodup_cons->Jag,getElem_cons_succ->Jai,length_eq_one_iff->Jaj,perm_append_comm->Jal,set_getElem_self->Jam,set_set->Jan,map_cons->Jao,filter_append->Jap,length_append->Jaq,getElem?_eq_some_iff->Jar,flatMap_cons->Jas,length_take->Jau,take_length->Jav,getElem_cons_zero->Jaw,length_filter_le->Jax,map_map->Jay,range_succ->Jaz,getElem?_set_ne->Ja0,mem_of_getElem?->Ja1,take_zero->Ja3,map_eq_nil_iff->Ja4,append_assoc->Ja6,getElem_take->Ja7,mem_filter->Jbc,drop_zero->Jbd,map_id->Jbh
open List.Nodup renaming length_le_of_subset->Jak
open Nat renaming le_refl->Jf,zero_add->Jg,add_sub_cancel_left->Jah,mul_le_mul_right->Ja2,le_trans->Ja8,le_add_right->Jba,zero_lt_succ->Jbb,sub_self->Jbe,sub_zero->Jbf,succ_mul->Jbg
open Option renaming getD_some->Jz,map_some->J0
open Option.some renaming inj->J5
namespace Go.AE
variable{H H0 H':Heap}{K:Uk}{E B Lg:Ul}{α:Type}{i j z x:Nat}{ks js:List Y.JB}{Q:X->Env->Heap->Prop}{D ns ids:List Int}{fl:Bool}{cs:List Y.CodeD}{W:List Nat}{S:Nat->Bool}{os:List Y.OBlk}{a nx:Int}{U:Nat->Prop}{Z:Nat->Nat->Prop}{bs:List UInt8}{ss:List Y.PSl}{ms:List Y.PMap}
namespace Y
attribute [local go_sem] cond_true cond_false Bool.not_true Bool.not_false
attribute [local instance] Classical.propDecidable
open Go.Proofs.Tryz
variable{q:CodeD}{bc:C}{rows:List (List C)}{L:Ul}
noncomputable def jnV (q:CodeD)(b:Nat):Int:=if JnP q b (skT q b).toNat then skT q b else -1
theorem OZ {g:Nat->List Int}{v:Int}{m b:Nat}(hb:b<m)(hv:v∈g b):(Qs g v m).length=1↔∀i,i<m->v∈g i->i=b:=by
 have hm:=mem_preds.2 ⟨hb,hv⟩;constructor
 ·intro h i hi tS;obtain⟨x,hx⟩:=Jaj.1 h;have h1:=mem_preds.2 ⟨hi,tS⟩;rw[hx]at hm h1;have h2:=Ja.1 hm;have h3:=Ja.1 h1;omega
 ·intro h;have df:=IP g v m;refine Nat.le_antisymm ?_ (List.length_pos_of_mem hm);refine Classical.byContradiction λhl=>?_;obtain⟨x,y,l,hx⟩:∃x y l,Qs g v m=x::y::l:=by
   match Qs g v m,hl with
   |[],hl=>simp at hl
   |[x],hl=>simp at hl
   |x::y::l,_=>exact⟨x,y,l,rfl⟩
  have key:∀z∈Qs g v m,z=(b:Int):=λz hz=>by
   have dt:=hz;rw[Qs,Jq]at dt;obtain⟨j,hj,rfl⟩:=dt;have:=mem_preds.1 hz;have:=h j this.1 this.2;show (j:Int)=b;omega
  rw[hx]at df key;have h1:=key x ZC;have h2:=key y ZC;rw[h1,h2]at df;simp at df
theorem Yv {b:Nat}(h:RwR H q bc rows)(hb:b<q.blocks.length)(ho:q.ok)(hj:((Qq q b).next.length:Int)=CM (Qq q b).jump)(hK:∀H',Upd H H' []->K (Uv (jnV q b)) H') :
  Qu prog NK [.ag [Ui q.params,Ui q.ae,bc],Uv b] H K:=by
 have hl:=ho.b1;obtain⟨a1,a2,fl,aD,o1,o2,cE⟩:=h.x b hb;have bq:=h.ow;have aq:=eq_true h.s.ok;have ak:=h.s.len;have br:=h.s.sz;have de:=h.s.rows;have cz:=h.n;refine Q0 ?_;refine Qd Co Y2 ?_;refine Wk ?_;simp only[go_sem,bq,aq,ak,br,de,cz,hb,aD,o1,o2];intro x5 bt H1 h1;have kn:=(Kn.an H).al bt h1;have bt:=kn.l 0 rfl;simp only[go_sem,P1,bt];intro H2 h2;have kn:=kn.az 0 rfl h2;have bt:=kn.l 0 rfl;refine Q1 (Qa ?_);simp only[go_sem,bt];try intro _
 refine Wt ?_ ?_
 ·intro hc;have hn:¬JnP q b (skT q b).toNat:=λh=>by have:=h.j;simp[this]at hc
  refine Wj ?_;have:=hK _ kn.fin;rw[jnV,if_neg hn]at this;exact⟨_,.c _ _ (Qg rfl),this⟩
 ·intro hc;have tf:(Qq q b).jump=1:=ZD
  have dg:(Qq q b).next.length=1:=by
   rw[tf]at hj;simp[CM]at hj;omega
  have vS:0<(Qq q b).next.length:=ZA
  have b8:=Qk (Qq q b).next 0 vS;have xP:(Qq q b).next.getD 0 0=skT q b:=rfl;rw[xP]at b8;have fd:=(ho.bs b hb).nx (skT q b) ZaO;obtain⟨m,hm⟩:∃m:Nat,skT q b=m:=⟨(skT q b).toNat,ZA⟩;have fe:m<q.blocks.length:=ZA
  have nQ:(Qq q b).next=[(m:Int)]:=by
   obtain⟨x,hx⟩:=Jaj.1 dg;rw[skT,hx]at hm;rw[hx,<-hm];rfl
  have lS:(m:Int)∈gnx q b:=by rw[DI hb,nQ];simp
  have hV:jnV q b=if (¬m=b/\(Qq q m).ab=[]/\(Qs (gnx q) (m:Int) q.blocks.length).length=1)then (m:Int)else -1:=by
   have xG:(skT q b).toNat=m:=ZA
   rw[jnV,xG,hm];by_cases hh:¬m=b/\(Qq q m).ab=[]/\(Qs (gnx q) (m:Int) q.blocks.length).length=1
   ·rw[if_pos hh,if_pos];exact⟨hb,fe,hh.1,ZA,tf,nQ,hh.2.1,(OZ hb lS).1 hh.2.2⟩
   ·rw[if_neg hh,if_neg];exact λhp=>hh ⟨hp.ne,hp.ph,(OZ hb lS).2 hp.pr⟩
  rw[hm]at b8;rw[hV]at hK;have hR:=h.keep0 kn;obtain⟨b1,b2,fl2,m7,q1,q2,d9⟩:=hR.x m fe;have aq:=eq_true hR.s.ok;have de:=hR.s.rows;have fA:=eq_true d9.ok;have mZ:=d9.len;refine Zc ?_
  refine Qa ?_;simp only[go_sem,bt,dg,Qc,b8];refine⟨Jat 0,?_⟩;refine Q1 (Qa ?_);have kh:decide ((m:Int)=0)=false:=decide_eq_false ZA;simp only[go_sem,bq,bt,aq,ak,br,de,cz,fe,m7,q1,q2,fA,mZ,Qz,kh];intro _;refine⟨λbv=>?_,λbv=>?_⟩
  ·have dz:¬m=b/\(Qq q m).ab=[]:=by
    by_cases h1:(m:Int)=(b:Int)
    ·rw[h1]at bv;simp at bv
    ·rw[decide_eq_false h1]at bv;refine⟨ZA,List.eq_nil_of_length_eq_zero ?_⟩;have:((Qq q m).ab.length:Int)=0:=ZT;omega
   refine N4 (nx:=gnx q) hR.s bq hR.hx λH3 hu=>?_;have kn:=kn.au hu;rw[cz];have d1:decide ((m:Int)=(b:Int))=false:=decide_eq_false ZA;have d2:decide (0<((Qq q m).ab.length:Int))=false:=decide_eq_false (by rw[dz.2];simp);simp only[go_sem,IA,d1,d2,Qc];intro _;refine Wt ?_ ?_
   ·intro fw;refine Wj ?_;have:=hK _ kn.fin;rw[if_neg (λhh=>by rw[hh.2.2]at fw;simp at fw)]at this;exact⟨_,.c _ _ (Qg rfl),this⟩
   ·intro fw;refine Zc ?_
    refine Wj ?_;have:=hK _ kn.fin;rw[if_pos ⟨dz.1,dz.2,by have:((Qs (gnx q) (m:Int) q.blocks.length).length:Int)=1:=ZaI;omega⟩]at this;exact⟨_,.c _ _ (Qg rfl),this⟩
  ·have hn:¬(¬m=b/\(Qq q m).ab=[]/\(Qs (gnx q) (m:Int) q.blocks.length).length=1):=λhh=>by
    rw[decide_eq_false (λh=>hh.1 ZA),hh.2.1]at bv;simp at bv
   rw[if_neg hn]at hK;(try simp only[go_sem,IA,bv]);rw[Ja5]at bv;refine Wt ?_ ?_
   ·intro fw;refine Wj ?_;exact⟨_,.c _ _ (Qg rfl),hK _ kn.fin⟩
   ·intro fw;rw[bv]at fw;simp at fw
theorem Qaqn {b:Nat}(h:RwR H q bc rows)(hb:b<q.blocks.length)(ho:q.ok)(hj:((Qq q b).next.length:Int)=CM (Qq q b).jump)(hK:∀H',Upd H H' []->K (Uv (jnV q b)) H') :
  Qu prog Qsy [.ag [Ui q.params,Ui q.ae,bc],Uv b] H K:=by
 have hl:=ho.b1;obtain⟨a1,a2,fl,aD,o1,o2,cE⟩:=h.x b hb;have bq:=h.ow;have aq:=eq_true h.s.ok;have ak:=h.s.len;have br:=h.s.sz;have de:=h.s.rows;have cz:=h.n;refine Q0 ?_;refine Qd Co Qae4 ?_;refine Wk ?_;simp only[go_sem,bq,aq,ak,br,de,cz,hb,aD,o1,o2];intro x5 bt H1 h1;have kn:=(Kn.an H).al bt h1;have bt:=kn.l 0 rfl;simp only[go_sem,P1,bt];intro H2 h2;have kn:=kn.az 0 rfl h2;have bt:=kn.l 0 rfl;refine Q1 (Qa ?_);simp only[go_sem,bt];try intro _
 refine Wt ?_ ?_
 ·intro hc;have hn:¬JnP q b (skT q b).toNat:=λh=>by have:=h.j;simp[this]at hc
  refine Wj ?_;have:=hK _ kn.fin;rw[jnV,if_neg hn]at this;exact⟨_,.c _ _ (Qg rfl),this⟩
 ·intro hc;have tf:(Qq q b).jump=1:=ZD
  have dg:(Qq q b).next.length=1:=by
   rw[tf]at hj;simp[CM]at hj;omega
  have vS:0<(Qq q b).next.length:=ZA
  have b8:=Qk (Qq q b).next 0 vS;have xP:(Qq q b).next.getD 0 0=skT q b:=rfl;rw[xP]at b8;have fd:=(ho.bs b hb).nx (skT q b) ZaO;obtain⟨m,hm⟩:∃m:Nat,skT q b=m:=⟨(skT q b).toNat,ZA⟩;have fe:m<q.blocks.length:=ZA
  have nQ:(Qq q b).next=[(m:Int)]:=by
   obtain⟨x,hx⟩:=Jaj.1 dg;rw[skT,hx]at hm;rw[hx,<-hm];rfl
  have lS:(m:Int)∈gnx q b:=by rw[DI hb,nQ];simp
  have hV:jnV q b=if (¬m=b/\(Qq q m).ab=[]/\(Qs (gnx q) (m:Int) q.blocks.length).length=1)then (m:Int)else -1:=by
   have xG:(skT q b).toNat=m:=ZA
   rw[jnV,xG,hm];by_cases hh:¬m=b/\(Qq q m).ab=[]/\(Qs (gnx q) (m:Int) q.blocks.length).length=1
   ·rw[if_pos hh,if_pos];exact⟨hb,fe,hh.1,ZA,tf,nQ,hh.2.1,(OZ hb lS).1 hh.2.2⟩
   ·rw[if_neg hh,if_neg];exact λhp=>hh ⟨hp.ne,hp.ph,(OZ hb lS).2 hp.pr⟩
  rw[hm]at b8;rw[hV]at hK;have hR:=h.keep0 kn;obtain⟨b1,b2,fl2,m7,q1,q2,d9⟩:=hR.x m fe;have aq:=eq_true hR.s.ok;have de:=hR.s.rows;have fA:=eq_true d9.ok;have mZ:=d9.len;refine Zc ?_
  refine Qa ?_;simp only[go_sem,bt,dg,Qc,b8];refine⟨Jat 0,?_⟩;refine Q1 (Qa ?_);have kh:decide ((m:Int)=0)=false:=decide_eq_false ZA;simp only[go_sem,bq,bt,aq,ak,br,de,cz,fe,m7,q1,q2,fA,mZ,Qz,kh];intro _;refine⟨λbv=>?_,λbv=>?_⟩
  ·have dz:¬m=b/\(Qq q m).ab=[]:=by
    by_cases h1:(m:Int)=(b:Int)
    ·rw[h1]at bv;simp at bv
    ·rw[decide_eq_false h1]at bv;refine⟨ZA,List.eq_nil_of_length_eq_zero ?_⟩;have:((Qq q m).ab.length:Int)=0:=ZT;omega
   refine RC (nx:=gnx q) hR.s bq hR.no (λi hi=>by
    obtain⟨c1,c2,c3,c4,c5,e1,_,e3⟩:=hR.hx i hi;exact⟨c1,c2,c3,c4,c5,e1,e3⟩) λfl3 H3 hu=>?_
   have kn:=kn.au hu;rw[cz,ES,if_pos (by simp only[Ja9,decide_eq_true_eq];omega)];have d1:decide ((m:Int)=(b:Int))=false:=decide_eq_false ZA;have d2:decide (0<((Qq q m).ab.length:Int))=false:=decide_eq_false (by rw[dz.2];simp);simp only[go_sem,IA,d1,d2,Qc];intro _;refine Wt ?_ ?_
   ·intro fw;refine Wj ?_;have:=hK _ kn.fin;rw[if_neg (λhh=>by rw[hh.2.2]at fw;simp at fw)]at this;exact⟨_,.c _ _ (Qg rfl),this⟩
   ·intro fw;refine Zc ?_
    refine Wj ?_;have:=hK _ kn.fin;rw[if_pos ⟨dz.1,dz.2,by have:((Qs (gnx q) (m:Int) q.blocks.length).length:Int)=1:=ZaI;omega⟩]at this;exact⟨_,.c _ _ (Qg rfl),this⟩
  ·have hn:¬(¬m=b/\(Qq q m).ab=[]/\(Qs (gnx q) (m:Int) q.blocks.length).length=1):=λhh=>by
    rw[decide_eq_false (λh=>hh.1 ZA),hh.2.1]at bv;simp at bv
   rw[if_neg hn]at hK;(try simp only[go_sem,IA,bv]);rw[Ja5]at bv;refine Wt ?_ ?_
   ·intro fw;refine Wj ?_;exact⟨_,.c _ _ (Qg rfl),hK _ kn.fin⟩
   ·intro fw;rw[bv]at fw;simp at fw
end Y
namespace Y
attribute [local go_sem] cond_true cond_false Bool.not_true Bool.not_false
attribute [local instance] Classical.propDecidable
open Go.Proofs.Tryz
variable{q:CodeD}{L R:Ul}
theorem Pc {β:Type}{f:α->List β}{l:List α}(h:i<l.length)(x:α):(l.flatMap f++f x).Perm (f l[i]++(l.set i x).flatMap f):=by
 have h1:=DL (f:=f) h;have h2:=DL (f:=f) (l:=l.set i x) (i:=i) (by rw[Jk];exact h);rw[Jab,J8]at h2;refine Qi λF hF h0 hc hp=>?_;have e1:=hp _ _ h1;have e2:=hp _ _ h2;simp only[hF]at e1 e2⊢;omega
theorem Q5w{l:List α}{x d:α}(h:i<l.length):(l.set i x).getD i d=x:=by simp[Jd,h]
theorem MK{l:List α}{x d:α}(h:i≠j):(l.set i x).getD j d=l.getD j d:=by simp[Jd,Ja0 h]
def jnb (b n:JB)(t:C)(g:List (Nat×Obj)):JB:=⟨⟨b.y.ab,b.y.ins++n.y.ins,n.y.jump,n.y.on,n.y.next⟩,b.pc,b.pl,t,g,n.fl⟩
def jnn (n:Nat):JB:=⟨⟨[],[],1,0,[(n:Int)]⟩,.sl true 2 [],[],.sl true 4 [],[],true⟩
def jnY (q:CodeD)(b n:Nat)(D:List Int)(c:Nat):BlkD:=if (c:Int)∈D then ⟨(jnX q b n c).ab.map (jnA q b n c),(jnX q b n c).ins,(jnX q b n c).jump,(jnX q b n c).on,(jnX q b n c).next⟩else jnX q b n c
structure JnS (q:CodeD)(b n:Nat)(D:List Int)(ks:List JB):Prop where
 len:ks.length=q.blocks.length
 y:∀j (h:j<ks.length),ks[j].y=jnY q b n D j
 ok:∀k∈ks,k.ok
theorem Ek(hy:ks.map JB.y=q.blocks)(h:i<ks.length):ks[i].y=Qq q i:=by
 have hl:ks.length=q.blocks.length:=ZaE
 have e:(ks.map JB.y)[i]? = some ks[i].y:=Zbd
 rw[hy,Jh ZA,<-C3 ZA]at e;exact (J5 e).symm
theorem JnS.start{b n:Nat}{t:C}{g:Ul}(hy:ks.map JB.y=q.blocks)(ho:∀k∈ks,k.ok)(hp:JnP q b n)(hb:b<ks.length)(hn:n<ks.length)(hg:Gr g 4 (Cu (ks[b].y.ins++ks[n].y.ins)) t) :
  JnS q b n [] ((ks.set b (jnb ks[b] ks[n] t g)).set n (jnn n)):=by
 have hl:ks.length=q.blocks.length:=ZaE
 refine⟨by simp only[Jk];exact hl,λj hj=>?_,λk hk=>?_⟩
 ·have bE:j<ks.length:=ZS
  rw[jnY,if_neg ZC,J6];split
  ·rename_i e;subst e;rw[E4];rfl
  ·rename_i e1
   rw[J6];split
   ·rename_i e2;subst e2
    rw[D8 hp.ne,jnb,Ek hy hb,Ek hy hn]
   ·rename_i e2
    rw[Ds (λe=>e1 e.symm) (λe=>e2 e.symm),Ek hy bE]
 ·rcases Ju hk with hk|rfl
  ·rcases Ju hk with hk|rfl
   ·exact ho k hk
   ·exact⟨(ho _ (Jb hb)).p,hg⟩
  ·exact⟨.nil 2,.nil 4⟩
theorem TI{e:Env}{x6 x7 b n:Nat}{cc:C}(hp:JnP q b n)(hy:ks.map JB.y=q.blocks)(ho:∀k∈ks,k.ok)(ev:∀i (h:i<ks.length),ks[i].y.ins.length<=100000)
  (kn:Kn H0 H [] ([(x6,.st [Ui 0,Ui 0,.sl true 5 []]),(x7,.st [Ui q.params,Ui q.ae,.ah z 5 0 q.blocks.length])]++([(z,.vec 5 (ks.map JB.row))]++ks.flatMap JB.lg)))
  (l1:lk 1 e=Uv b) (l2:lk 2 e=Uv n) (l3:lk 3 e=.c cc) (l6:lk 6 e=Up x6) (l7:lk 7 e=Up x7)
  (hQ:∀(e:Env) (H':Heap) (ks:List JB),JnS q b n [] ks->Kn H0 H' [] ([(x6,.st [Ui 0,Ui 0,.sl true 5 []]),(x7,.st [Ui q.params,Ui q.ae,.ah z 5 0 q.blocks.length])]++([(z,.vec 5 (ks.map JB.row))]++ks.flatMap JB.lg))->
   lk 1 e=Uv b->lk 2 e=Uv n->lk 3 e=.c cc->lk 6 e=Up x6->lk 7 e=Up x7->lk 8 e=.c (.ep (.ah z 5 0 q.blocks.length) 5 b 0)->Cr prog Q7y Q e H') :
  Cr prog Q7z Q e H:=by
 have cz:ks.length=q.blocks.length:=ZaE
 have bj:b<ks.length:=by rw[cz];exact hp.bl
 have bF:n<ks.length:=by rw[cz];exact hp.nl
 have j9:=hp.bl;have kB:=hp.nl;have be:=hp.ne;obtain⟨kb,dy⟩:∃k,ks[b]=k:=⟨_,rfl⟩;obtain⟨kk,eL⟩:∃k,ks[n]=k:=⟨_,rfl⟩;have ck:kb.ok:=by rw[<-dy];exact ho _ (Jb bj)
 have b7:kk.ok:=by rw[<-eL];exact ho _ (Jb bF)
 have rM:=ev b bj;have zc:=ev n bF;rw[dy]at rM;rw[eL]at zc;obtain⟨RW,eH⟩:∃RW,ks.map JB.row=RW:=⟨_,rfl⟩;obtain⟨N,hN⟩:∃N,q.blocks.length=N:=⟨_,rfl⟩;have fF:RW.length=N:=Zbg
 have nF:RW.take N=RW:=Ji ZA;have nG:RW.getD b []=[kb.pc,kb.ic,Ui kb.y.jump,Ui kb.y.on,.sl kb.fl 1 (Qb kb.y.next)]:=by rw[<-eH,JB.getD bj,dy];rfl
 have vG:RW.getD n []=[kk.pc,kk.ic,Ui kk.y.jump,Ui kk.y.on,.sl kk.fl 1 (Qb kk.y.next)]:=by rw[<-eH,JB.getD bF,eL];rfl
 have oip:=ck.i.ai;have oin:=b7.i.ai;have opp:=ck.p.ai;have opn:=b7.p.ai;rw[eH]at kn;simp only[hN]at kn hQ j9 kB;have bz:=kn.l 1 rfl;have hz:=kn.l 2 rfl;refine Qa ?_;simp only[go_sem,l1,l2,l3,l6,l7,bz,hz,fF,j9,Jg,Jf];refine Cv ?_;simp only[go_sem,bz,hz,fF,nF,nG,vG,j9,kB,oip,oin,Jg,Jf];have hB:∀(t:C) (g:Ul),(ks.flatMap JB.lg++(kb.pl++g)).Perm ((kb.pl++kb.il)++(ks.set b (jnb kb kk t g)).flatMap JB.lg):=λt g=>by
  have:=Pc (f:=JB.lg) bj (jnb kb kk t g);rw[dy]at this;exact this
 have hC:∀(t:C) (g:Ul),((ks.set b (jnb kb kk t g)).flatMap JB.lg++[]).Perm ((kk.pl++kk.il)++((ks.set b (jnb kb kk t g)).set n (jnn n)).flatMap JB.lg):=λt g=>by
  have:=Pc (f:=JB.lg) (l:=ks.set b (jnb kb kk t g)) (i:=n) (by rw[Jk];exact bF) (jnn n);rw[List.getElem_set_ne ZA,eL]at this;exact this
 obtain⟨R,hR⟩:∃R,((ks.set b (jnb kb kk (.sl true 4 []) [])).set n (jnn n)).flatMap JB.lg=R:=⟨_,rfl⟩;obtain⟨X6,nC⟩:∃o,o=Obj.st [Ui 0,Ui 0,.sl true 5 []]:=⟨_,rfl⟩;obtain⟨X7,lT⟩:∃o,o=Obj.st [Ui q.params,Ui q.ae,.ah z 5 0 N]:=⟨_,rfl⟩;rw[<-nC,<-lT]at kn;simp only[<-nC,<-lT]at hQ;have kn:Kn H0 H [] (([(x6,X6),(x7,X7),(z,.vec 5 RW)]++((kk.pl++kk.il)++R))++kb.il):=kn.perm (Qi λf hf h0 hc hp=>by
  have e3:∀(a b c:Nat×Obj),f [a,b,c]=f [a,b]+f [c]:=λa b c=>ZQ
  have e1:=hp _ _ (hB (.sl true 4 []) []);have e2:=hp _ _ (hC (.sl true 4 []) []);rw[hR]at e2;simp only[Ui,hf,h0,e3]at e1 e2⊢;omega)
 refine kn.bk (new:=Cu kk.y.ins) ck.i (b7.i.slcM kn λp hp=>Zay) (GT _) (by simp only[CR,LIM];omega) λt2 Lg2 H2 cS cQ kn=>?_;have bz:=kn.l 1 rfl;rw[lT]at bz;have hz:=kn.l 2 rfl;simp only[go_sem,Q71,hz,fF,nF,nG,j9,opp,cQ,Jg,Jf];have km:∀x,(RW.set b x).getD b []=x:=λx=>Q5w ZA;have jd:∀x,(RW.set b x).getD n []=[kk.pc,kk.ic,Ui kk.y.jump,Ui kk.y.on,.sl kk.fl 1 (Qb kk.y.next)]:=λx=>by rw[MK ZA];exact vG
 have cW:∀x,(RW.set b x).length=N:=λx=>by rw[Jk];exact fF
 have gI:∀x,(RW.set b x).take N=RW.set b x:=λx=>Ji (by rw[cW x];omega);intro H3 h3;have kn:=kn.az 2 rfl h3;have bz:=kn.l 1 rfl;rw[lT]at bz;have hz:=kn.l 2 rfl;refine Qa ?_;simp only[go_sem,bz,hz,cW,gI,km,jd,j9,kB,opp,cQ,Jg,Jf];intro H4 h4;rw[Jan]at h4;have kn:=kn.az 2 rfl h4;have bz:=kn.l 1 rfl;rw[lT]at bz;have hz:=kn.l 2 rfl;refine Qa ?_;simp only[go_sem,bz,hz,cW,gI,km,jd,j9,kB,opp,cQ,Jg,Jf];intro H5 h5;rw[Jan]at h5;have kn:=kn.az 2 rfl h5;have bz:=kn.l 1 rfl;rw[lT]at bz;have hz:=kn.l 2 rfl;refine Qa ?_;simp only[go_sem,bz,hz,cW,gI,km,jd,j9,kB,opp,cQ,Jg,Jf];intro H6 h6;rw[Jan]at h6;have kn:=kn.az 2 rfl h6;have bz:=kn.l 1 rfl;rw[lT]at bz;have hz:=kn.l 2 rfl;refine Qa ?_;simp only[go_sem,bz,hz,cW,gI,km,jd,j9,kB,opp,cQ,Jg,Jf];intro H7 h7;have kn:=kn.az 2 rfl h7;have cS:Gr Lg2 4 (Cu (ks[b].y.ins++ks[n].y.ins)) t2:=by rw[dy,eL,Cu,Jo];exact cS
 have hJ:=JnS.start (q:=q) hy ho hp bj bF cS;rw[dy,eL]at hJ;obtain⟨ks2,iH⟩:∃k,(ks.set b (jnb kb kk t2 Lg2)).set n (jnn n)=k:=⟨_,rfl⟩;rw[iH]at hJ;have b9:ks2.map JB.row=(RW.set b [kb.pc,t2,Ui kk.y.jump,Ui kk.y.on,.sl kk.fl 1 (Qb kk.y.next)]).set n [.sl true 2 [],.sl true 4 [],Ui 1,Ui 0,.sl true 1 [[Ui n]]]:=by
  rw[<-iH,J1,J1,eH];rfl
 refine hQ _ H7 ks2 hJ ?_ rfl rfl rfl rfl rfl rfl;rw[b9];have hD:(R++Lg2).Perm (ks2.flatMap JB.lg):=Qi λf hf h0 hc hp=>by
  have e1:=hp _ _ (hB (.sl true 4 []) []);have e2:=hp _ _ (hC (.sl true 4 []) []);have e3:=hp _ _ (hB t2 Lg2);have e4:=hp _ _ (hC t2 Lg2);rw[hR]at e2;rw[iH]at e4;simp only[Ui,hf,h0]at e1 e2 e3 e4⊢;omega
 refine Kn.drop (B:=kk.pl++kk.il) (kn.perm (Qi λf hf h0 hc hp=>?_));have e3:∀(a b c:Nat×Obj),f [a,b,c]=f [a,b]+f [c]:=λa b c=>ZQ
 have:=hp _ _ hD;show f ([(x6,X6),(x7,X7),(z,_)]++((kk.pl++kk.il)++R)++Lg2)=_;simp only[Ui,hf,e3]at this⊢;omega
def JB.ph (k:JB)(ph:List PhiD)(pl:List (Nat×Obj)):JB:=⟨⟨ph,k.y.ins,k.y.jump,k.y.on,k.y.next⟩,k.pc,pl,k.ic,k.il,k.fl⟩
theorem JB.ph_rows{m:Nat}{ph:List PhiD}{pl:Ul}(hm:m<ks.length):(ks.set m (ks[m].ph ph pl)).map JB.row=ks.map JB.row:=by
 rw[J1];have e:(ks[m].ph ph pl).row=(ks.map JB.row)[m]'ZaX:=by rw[Js];rfl
 rw[e,Jam]
theorem JnS.step {b n m:Nat}{D:List Int}{ks:List JB}(h:JnS q b n D ks)(hm:m<ks.length)(hD:¬(m:Int)∈D){ph:List PhiD}{pl:Ul}(h1:ph=(jnX q b n m).ab.map (jnA q b n m))(hg:Gr pl 2 (Q3 ph) ks[m].pc) :
  JnS q b n (D++[(m:Int)]) (ks.set m (ks[m].ph ph pl)):=by
 refine⟨by rw[Jk];exact h.len,λj hj=>?_,λk hk=>?_⟩
 ·have bE:j<ks.length:=ZS
  rw[J6];split
  ·rename_i e;subst e
   have:=h.y m hm;rw[jnY,if_neg hD]at this;rw[JB.ph,jnY,if_pos ZC,this,h1]
  ·rename_i e
   rw[h.y j bE,jnY,jnY];have:((j:Int)∈D++[(m:Int)])↔(j:Int)∈D:=by
    simp only[Jn,Ja];exact⟨λhh=>hh.resolve_right λe2=>e ZA,.inl⟩
   by_cases qj:(j:Int)∈D
   ·rw[if_pos qj,if_pos (this.2 qj)]
   ·rw[if_neg qj,if_neg (λhh=>qj (this.1 hh))]
 ·rcases Ju hk with hk|rfl
  ·exact h.ok k hk
  ·exact⟨hg,(h.ok _ (Jb hm)).i⟩
theorem HK (b n c:Nat)(D:List Int):(jnY q b n D c).next=jnG q b n c:=by rw[jnY];split <;> rfl
theorem JnS.rows {b n:Nat}(h:JnS q b n D ks):∀j,j<(ks.map JB.row).length->∃a1 a2 a3 a4 fl,(ks.map JB.row).getD j []=[a1,a2,a3,a4,.sl fl 1 (Qb (jnG q b n j))]:=λj hj=>by
 have bE:j<ks.length:=ZS
 refine⟨ks[j].pc,ks[j].ic,Ui ks[j].y.jump,Ui ks[j].y.on,ks[j].fl,?_⟩;rw[JB.getD bE,JB.row,h.y j bE,HK]
theorem Yu{e:Env}{x6 x7 b n m:Nat}{X6:Obj}(ho:q.ok)(hp:JnP q b n)(hS:JnS q b n D ks)(hD:¬(m:Int)∈D)(hm:(m:Int)∈(Qq q n).next)(fe:m<q.blocks.length)(gV:m≠n)
  (kn:Kn H0 H [] ([(x6,X6),(x7,.st [Ui q.params,Ui q.ae,.ah z 5 0 q.blocks.length])]++([(z,.vec 5 (ks.map JB.row))]++ks.flatMap JB.lg)))
  (l1:lk 1 e=Uv b) (l2:lk 2 e=Uv n) (l3:lk 3 e=.c (.pp [Ui q.params,Ui q.ae,.sl fl 5 (Qo q.blocks)])) (l6:lk 6 e=Up x6) (l7:lk 7 e=Up x7)
  (l8:lk 8 e=.c (.ep (.ah z 5 0 q.blocks.length) 5 b 0)) (l9:lk 9 e=Uv i) (l10:lk 10 e=Uv m)
  (hQ:∀(e:Env) (H':Heap) (ks':List JB),JnS q b n (D++[(m:Int)]) ks'->ks'.map JB.row=ks.map JB.row->Kn H0 H' [] ([(x6,X6),(x7,.st [Ui q.params,Ui q.ae,.ah z 5 0 q.blocks.length])]++([(z,.vec 5 (ks'.map JB.row))]++ks'.flatMap JB.lg))->
   lk 1 e=Uv b->lk 2 e=Uv n->lk 3 e=.c (.pp [Ui q.params,Ui q.ae,.sl fl 5 (Qo q.blocks)])->lk 6 e=Up x6->lk 7 e=Up x7->
   lk 8 e=.c (.ep (.ah z 5 0 q.blocks.length) 5 b 0)->lk 9 e=Uv i->Q .nrm e H') :
  Cr prog Q7x Q e H:=by
 have bm:=ho.b1;have cz:=hS.len;have cU:m<ks.length:=ZA
 obtain⟨kb,fu⟩:∃k,ks[m]=k:=⟨_,rfl⟩;have gz:kb.ok:=by rw[<-fu];exact hS.ok _ (Jb cU)
 have oT:kb.y=jnX q b n m:=by have:=hS.y m cU;rw[jnY,if_neg hD,fu]at this;exact this
 have rS:kb.y.ab=(Qq q m).ab:=by rw[oT,G0 hp gV]
 have cp:=ho.bs m fe;have cK:=ho.il m fe;have gC:=C3 fe;rw[<-gC]at cp cK;obtain⟨R,hR⟩:∃R,kb.il++(ks.eraseIdx m).flatMap JB.lg=R:=⟨_,rfl⟩;have fv:(ks.flatMap JB.lg).Perm (kb.pl++R):=Qi λf hf h0 hc hp=>by
  have:=hp _ _ (DL (f:=JB.lg) cU);rw[fu,JB.lg]at this;rw[<-hR];simp only[Ui,hf]at this⊢;omega
 have pq:=hS.rows;obtain⟨RW,eH⟩:∃RW,ks.map JB.row=RW:=⟨_,rfl⟩;have bg:RW.length=q.blocks.length:=by rw[<-eH,Jc,cz]
 have ba:RW.getD m []=[kb.pc,kb.ic,Ui kb.y.jump,Ui kb.y.on,.sl kb.fl 1 (Qb kb.y.next)]:=by rw[<-eH,JB.getD cU,fu];rfl
 have eA:=hQ;rw[eH]at kn pq;simp only[eH]at hQ;obtain⟨N,hN⟩:∃N,q.blocks.length=N:=⟨_,rfl⟩;obtain⟨X7,lT⟩:∃o,o=Obj.st [Ui q.params,Ui q.ae,.ah z 5 0 N]:=⟨_,rfl⟩;have bx:RW.take N=RW:=Ji ZA;simp only[hN]at kn hQ l8 fe bg;simp only[<-lT]at kn hQ;refine Qa ?_;simp only[go_sem,l1,l2,l3,l6,l7,l8,l9,l10];refine F6 (nx:=gnx q) (.mk' _ _ _ _) rfl (Fb H q fl).x λH2 hu=>?_;have kn:=kn.au hu;simp only[go_sem,Q72,Qn,l1,l2,l3,l6,l7,l8,l9,l10];obtain⟨olds,eJ⟩:∃o,Qs (gnx q) (m:Int) q.blocks.length=o:=⟨_,rfl⟩;rw[eJ];have bz:=kn.l 1 rfl;rw[lT]at bz;have hz:=kn.l 2 rfl;refine Zj bz ?_;refine F6 (nx:=jnG q b n) (vslc hz bg.symm) rfl pq λH3 hu=>?_;have kn:=kn.au hu;rw[bg];obtain⟨news,jI⟩:∃o,Qs (jnG q b n) (m:Int) N=o:=⟨_,rfl⟩;rw[jI];have yI:news.length<=N:=by rw[<-jI];exact E3 _ _ _
 simp only[go_sem,Q73];refine Za ?_;have kn:Kn H0 H3 [] (([(x6,X6),(x7,X7),(z,.vec 5 RW)]++R)++kb.pl):=kn.perm (Qi λf hf h0 hc hp=>by
  have:=hp _ _ fv;have e3:∀(a b c:Nat×Obj),f [a,b,c]=f [a,b]+f [c]:=λa b c=>ZQ
  simp only[Ui,hf,e3]at this⊢;omega)
 obtain⟨J,hJ⟩:∃J,J=jnA q b n m:=⟨_,rfl⟩;refine Qe (Qy (λt e1 H1=>∃(k:Nat) (ph:List PhiD) (pl:Ul),t=ph.length-k/\k<=ph.length/\ph=mix J (Qq q m).ab k/\Gr pl 2 (Q3 ph) kb.pc/\
  Kn H0 H1 [] (([(x6,X6),(x7,X7),(z,.vec 5 RW)]++R)++pl)/\
  lk 1 e1=Uv b/\lk 2 e1=Uv n/\lk 3 e1=.c (.pp [Ui q.params,Ui q.ae,.sl fl 5 (Qo q.blocks)])/\lk 6 e1=Up x6/\lk 7 e1=Up x7/\
  lk 8 e1=.c (.ep (.ah z 5 0 N) 5 b 0)/\lk 9 e1=Uv i/\lk 10 e1=Uv m/\lk 11 e1=.c (.sl false 1 (Qb olds))/\lk 12 e1=.c (.sl false 1 (Qb news))/\lk 13 e1=Uv k) kb.y.ab.length ?_ ?_)
 ·exact⟨0,kb.y.ab,kb.pl,ZA,ZA,by rw[rS,IQ],gz.p,kn,Rf0⟩
 ·clear kn bz hz hu l1 l2 l3 l6 l7 l8 l9 l10;rintro t2 e2 H4 ⟨k,ph,pl,cQ,hk,eW,ax,kn,l1,l2,l3,l6,l7,l8,l9,l10,l11,l12,l13⟩;have jW:ph.length=(Qq q m).ab.length:=by rw[eW,Eg]
  have bz:=kn.l 1 rfl;rw[lT]at bz;have hz:=kn.l 2 rfl;have fx:=ax.ai;have gk:=eq_true (ax.get kn).1;have dM:=ax.ay;rw[Qz]at dM;refine Q1 (Qa ?_);simp only[go_sem,l1,l2,l3,l6,l7,l8,l9,l10,l11,l12,l13,bz,hz,bg,bx,ba,fe,fx,gk,dM,Jg,Jf];try intro _
  refine Wt ?_ ?_
  ·intro aC;have aP:k<ph.length:=ZG
   obtain⟨zp,gS,db⟩:∃z,kb.pc=.ah z 2 0 ph.length/\pl=[(z,.vec 2 (Q3 ph))]:=by
    rcases ax with ⟨_,h,_⟩|⟨y,h1,h2⟩
    ·have:=congrArg List.length h;rw[Qz]at this;simp only[Jm]at this;omega
    ·exact⟨y,by rw[h1,Qz],h2⟩
   rw[gS]at ba;rw[db]at kn;clear fx gk dM;obtain⟨p,ur⟩:∃p,ph[k]=p:=⟨_,rfl⟩;have iI:k<(Qq q m).ab.length:=ZA
   have iG:(Qq q m).ab[k]=p:=by
    rw[<-ur];subst eW;exact (EO iI aP).symm
   have dD:p∈(Qq q m).ab:=by rw[<-iG];exact Jb iI
   obtain⟨NA,tq⟩:∃NA,(J p).args=NA:=⟨_,rfl⟩;have vL:NA=news.map λw=>p.args.getD (olds.idxOf (if w=(b:Int)then (n:Int)else w)) 0:=by rw[<-tq,hJ,jnA,hN,jI,<-hN,eJ]
   have hNl:NA.length=news.length:=by rw[vL,Jc]
   have hJp:J p=⟨p.to,NA⟩:=by rw[<-tq,hJ];rfl
   have mP:p.args.length=olds.length:=by rw[<-eJ];exact cp.pal p dD
   have o8:(Q3 ph).take ph.length=Q3 ph:=Ji (by rw[Qz];omega);have kU:(Q3 ph).getD k []=[Ui p.to,.sl false 1 (Qb p.args)]:=by rw[D2 _ _ aP,ur];rfl
   have ws:m<q.blocks.length:=ZA
   have vy:q.blocks[m].ab=(Qq q m).ab:=by rw[gC]
   have BA:(Q3 q.blocks[m].ab).getD k []=[Ui p.to,.sl false 1 (Qb p.args)]:=by rw[vy,D2 _ _ iI,iG];rfl
   have jL:k<q.blocks[m].ab.length:=by rw[vy];exact iI
   refine Zc ?_
   refine We ?_;refine Wa ?_;refine Qh (Qe (Qy (λt e1 H1=>∃(j:Nat) (av:List Int) (t':C) (Lg:Ul),t=news.length-j/\j<=news.length/\av=NA.take j/\Gr Lg 1 (Qb av) t'/\
    Kn H0 H1 [] (([(x6,X6),(x7,X7),(z,.vec 5 RW)]++R++[(zp,.vec 2 (Q3 ph))])++Lg)/\
    lk 1 e1=Uv b/\lk 2 e1=Uv n/\lk 3 e1=.c (.pp [Ui q.params,Ui q.ae,.sl fl 5 (Qo q.blocks)])/\lk 6 e1=Up x6/\lk 7 e1=Up x7/\
    lk 8 e1=.c (.ep (.ah z 5 0 N) 5 b 0)/\lk 9 e1=Uv i/\lk 10 e1=Uv m/\lk 11 e1=.c (.sl false 1 (Qb olds))/\lk 12 e1=.c (.sl false 1 (Qb news))/\lk 13 e1=Uv k/\
    lk 14 e1=.c t'/\lk 15 e1=Uv j) news.length ?_ ?_))
   ·exact⟨0,[],_,[],ZA,ZA,ZC,.nil 1,ZL,Rf0⟩
   ·clear kn bz hz l1 l2 l3 l6 l7 l8 l9 l10 l11 l12 l13;rintro t3 e3 H5 ⟨j,av,t',Lg,sT,hj,fT,gI,kn,l1,l2,l3,l6,l7,l8,l9,l10,l11,l12,l13,l14,l15⟩;have fU:=gI.ai;have pk:av.length=j:=(by rw[fT,Jau];omega);refine Q1 (Qa ?_);simp only[go_sem,l1,l2,l3,l6,l7,l8,l9,l10,l11,l12,l13,l14,l15,Qc];try intro _
    refine Wt ?_ ?_
    ·intro bv;have bR:j<news.length:=ZT;have nQ:news[j]∈Qs (jnG q b n) (m:Int) N:=(by rw[jI];exact Jb bR);obtain⟨w,hwN,nN,vV⟩:=preds_mem.1 nQ;have rY:news.getD j 0=(w:Int):=(by rw[<-vV];simp[Jd,bR]);obtain⟨og,oE⟩:∃o:Nat,(if w=b then n else w)=o:=⟨_,rfl⟩;have ew:=Hu hp hm (c:=w) ZA nN;rw[oE]at ew;have eF:(og:Int)∈olds:=(by rw[<-eJ];exact preds_mem.2 ⟨_,ew.2,ew.1,rfl⟩);have AA:j<NA.length:=ZA;have wD:NA[j]=p.args.getD (olds.idxOf (og:Int)) 0:=by
      subst vL;rw[Js,vV];by_cases lF:w=b
      ·rw[if_pos lF]at oE;rw[if_pos (by rw[lF]),oE]
      ·rw[if_neg lF]at oE;rw[if_neg ZA,oE]
     refine Zc ?_
     refine Wc ?_;simp only[go_sem,bR,Qc,Qk _ _ bR,rY];refine Wa ?_;refine CN (λe1 H1=>Kn H0 H1 [] (([(x6,X6),(x7,X7),(z,.vec 5 RW)]++R++[(zp,.vec 2 (Q3 ph))])++Lg)/\
      lk 1 e1=Uv b/\lk 2 e1=Uv n/\lk 3 e1=.c (.pp [Ui q.params,Ui q.ae,.sl fl 5 (Qo q.blocks)])/\lk 6 e1=Up x6/\lk 7 e1=Up x7/\
      lk 8 e1=.c (.ep (.ah z 5 0 N) 5 b 0)/\lk 9 e1=Uv i/\lk 10 e1=Uv m/\lk 11 e1=.c (.sl false 1 (Qb olds))/\lk 12 e1=.c (.sl false 1 (Qb news))/\lk 13 e1=Uv k/\
      lk 14 e1=.c t'/\lk 15 e1=Uv j/\lk 16 e1=Uv og) ?_ ?_
     ·intro Q2 bS _ _;refine Wu ?_ ?_
      ·intro dz;have lF:w=b:=(by have:(w:Int)=b:=(by simpa using dz);omega);rw[if_pos lF]at oE;subst oE;refine Zh ?_;exact bS _ _ ⟨kn,Rf0⟩
      ·intro dz;have lF:¬w=b:=λh=>(by rw[h]at dz;simp at dz);rw[if_neg lF]at oE;subst oE;refine Zc ?_
       exact bS _ _ ⟨kn,Rf0⟩
     ·rintro e4 H6 ⟨kn,l1,l2,l3,l6,l7,l8,l9,l10,l11,l12,l13,l14,l15,l16⟩;refine C7 ?_;simp only[go_sem,l3,l10,l11,l13,l14,l16,ws,jL,Qn,CU _ _ ws,BlkD.cells,Qz,BA];refine OR (ns:=olds) (.mk' _ _ _ _) rfl λr hr=>?_;obtain⟨a,ha⟩:∃a,olds.idxOf (og:Int)=a:=⟨_,rfl⟩;have ra:r=(a:Int):=(by rw[<-ha];exact hr.idx eF);have ee:a<olds.length:=(by rw[<-ha];exact List.idxOf_lt_length_of_mem eF);rw[ha]at wD;have nA:a<p.args.length:=ZA;simp only[go_sem,Q75,ra,ws,jL,Qn,CU _ _ ws,BlkD.cells,Qz,BA,nA,Qc,Qk _ _ nA];refine kn.bk (new:=Qb [p.args.getD a 0]) gI (.mk' _ _ _ _) (Qr _) (by simp only[Qc,LIM,Jl,Jm];omega) λt4 Lg2 H7 ni htt2 kn=>?_;simp only[go_sem,l1,l2,l3,l6,l7,l8,l9,l10,l11,l12,l13,l14,l15,Q74];refine Zh ?_;refine⟨Qv,?_⟩;show ∃m,_;refine⟨news.length-(j+1),ZA,j+1,av++[p.args.getD a 0],t4,Lg2,rfl,ZA,by rw[fT,Jp AA,wD],by rw[Ec];exact ni,kn,rfl,rfl,rfl,rfl,rfl,rfl,rfl,rfl,rfl,rfl,rfl,rfl,ZB⟩
    ·intro bv;have nf:j=news.length:=(by have:news.length<=j:=(by simpa using bv);omega);have fT:av=NA:=(by rw[fT,Ji (by omega)]);subst fT;have jm:=OO (f:=J) iI;rw[iG,hJp]at jm;refine Zb ?_;obtain⟨S,kq,ly,fh,kn⟩:=kn.bW;have oV:FrzC H5 S t' (.sl false 1 (Qb av)):=Gr.frzM gI kq (FrzR.same (Qr _));refine Qh (c_gh (Fe S (FC ?_) fh) (e':=[(1,Uv b),(2,Uv n),(3,.c (.pp [Ui q.params,Ui q.ae,.sl fl 5 (Qo q.blocks)])),(6,Up x6),(7,Up x7),(8,.c (.ep (.ah z 5 0 N) 5 b 0)),(9,Uv i),(10,Uv m),(11,.c (.sl false 1 (Qb olds))),(12,.c (.sl false 1 (Qb news))),(13,Uv k),(14,.c (.sl false 1 (Qb av)))]) ?_)
     ·simp only[Jw];exact⟨.c _ _ (.same _ rfl),.c _ _ (.same _ rfl),.c _ _ (.same _ rfl),.c _ _ (.same _ rfl),.c _ _ (.same _ rfl),.c _ _ (.same _ rfl),.c _ _ (.same _ rfl),.c _ _ (.same _ rfl),.c _ _ (.same _ rfl),.c _ _ (.same _ rfl),.c _ _ (.same _ rfl),.c _ _ oV,ZC⟩
     generalize H5.frz S=H6 at *;have bz:=kn.l 1 rfl;rw[lT]at bz;have hz:=kn.l 2 rfl;have vT:H6 zp=.vec 2 (Q3 ph):=(kn.get (zp,.vec 2 (Q3 ph)) ZC).1;have bX:(Q3 ph).set k [Ui p.to,.sl false 1 (Qb av)]=Q3 (ph.set k ⟨p.to,av⟩):=NW ph k ⟨p.to,av⟩;refine Qt ?_;simp only[go_sem,bz,hz,vT,bg,bx,ba,fe,aP,kU,bX,Qz,Jg,Jf];intro H7 h7;have kn:Kn H0 H7 [] (([(x6,X6),(x7,X7),(z,.vec 5 RW)]++R)++[(zp,.vec 2 (Q3 (ph.set k ⟨p.to,av⟩)))]):=by
      have:=kn.az ([(x6,X6),(x7,X7),(z,Obj.vec 5 RW)]++R).length (x:=zp) (o:=.vec 2 (Q3 ph)) ZC h7;simpa using this
     refine Zh ?_;refine⟨Qv,?_⟩;show ∃m,_;refine⟨ph.length-(k+1),ZA,k+1,ph.set k ⟨p.to,av⟩,_,by rw[Jk],by rw[Jk];omega,by rw[eW];exact jm,?_,kn,rfl,rfl,rfl,rfl,rfl,rfl,rfl,rfl,rfl,rfl,ZB⟩;rw[gS];exact .mk _ _ _ (by rw[Qz,Jk])
  ·intro aC;have bp:ph.length<=k:=ZG
   refine Zb ?_;have jX:ph=(jnX q b n m).ab.map (jnA q b n m):=by rw[eW,OP _ _ ZA,hJ,G0 hp gV]
   have aI:=hS.step cU hD jX (pl:=pl) (by rw[fu];exact ax);have de:=JB.ph_rows (ks:=ks) (ph:=ph) (pl:=pl) cU;have d9:=DL (f:=JB.lg) (l:=ks.set m (ks[m].ph ph pl)) (i:=m) (by rw[Jk];exact cU);rw[Jab,J8,fu]at d9;rw[fu]at aI de;have kA:(kb.ph ph pl).lg=pl++kb.il:=rfl;rw[kA]at d9;generalize ks.set m (kb.ph ph pl)=ks' at *;refine hQ _ H4 ks' aI (de.trans eH) ?_ rfl rfl rfl rfl rfl rfl rfl;rw[de,eH];refine kn.perm (Qi λf hf h0 hc hp=>?_);have:=hp _ _ d9;have e3:∀(a b c:Nat×Obj),f [a,b,c]=f [a,b]+f [c]:=λa b c=>ZQ
   rw[<-hR];simp only[Ui,hf,e3]at this⊢;omega
theorem JnS.congr {b n:Nat}{D':List Int}(h:JnS q b n D ks)(hD:∀x,x∈D↔x∈D'):JnS q b n D' ks:=by
 refine⟨h.len,λj hj=>?_,h.ok⟩;rw[h.y j hj,jnY,jnY];by_cases hj:(j:Int)∈D
 ·rw[if_pos hj,if_pos ((hD _).1 hj)]
 ·rw[if_neg hj,if_neg (λhh=>hj ((hD _).2 hh))]
theorem JnS.all {b n:Nat}(h:JnS q b n (Qq q n).next ks):ks.map JB.y=(jnQ q b n).blocks:=by
 refine Jae (by rw[Jc,h.len,Gy]) λj h1 h2=>?_;have hj:j<ks.length:=ZX
 rw[Js,h.y j hj,<-C3 h2,GM (by rw[<-h.len];exact hj)];rfl
theorem O6 {b n:Nat}(hp:JnP q b n):jnG q b n b=(Qq q n).next:=by rw[jnG,D8 hp.ne]
theorem Qa10(h2:ns.length<=2)(hi:i<ns.length):(bif decide ((0:Int)<(i:Int))then decide (ns[i]=ns.getD 0 0)else false)=decide (ns[i]∈ns.take i):=by
 match ns,i,h2,hi with
 |[x],0,_,_=>simp
 |[x,y],0,_,_=>simp
 |[x,y],1,_,_=>simp
theorem TH {b n:Nat}(ho:q.ok)(hj:((Qq q n).next.length:Int)=CM (Qq q n).jump)(hp:JnP q b n)(hK:∀H',Upd H H' []->K (.ag (jnQ q b n).cells) H') :
  Qu prog Nf [.ag q.cells,Uv b,Uv n] H K:=by
 have bm:=ho.b1;have bj:=hp.bl;have bF:=hp.nl;have fW:(Qq q n).next.length<=2:=by
  unfold CM at hj;split at hj
  ·omega
  ·split at hj
   ·omega
   ·split at hj <;> omega
 obtain⟨nn,iV⟩:∃l,(Qq q n).next=l:=⟨_,rfl⟩;have uB:nn.length<=2:=by rw[<-iV];exact fW
 have fd:∀v∈nn,∃m:Nat,v=(m:Int)/\m<q.blocks.length/\m≠n:=λv hv=>by
  rw[<-iV]at hv;have ji:=hv;rw[C3 bF]at ji;have:=(ho.bs n bF).nx v ji;refine⟨v.toNat,ZA,ZA,λe=>?_⟩;have e2:v=(n:Int):=ZA
  rw[e2]at hv;exact hp.ne (hp.pr n bF (by rw[DI bF];exact hv))
 refine Q0 ?_;refine Qd Co T1 ?_;refine Qa ?_;simp only[go_sem,CodeD.cells];intro x6 aY H1 h1;have kn:=(Kn.an H).al aY h1;refine Za ?_;refine T8 ho.sg ZA λz ks H2 hy aq k2=>?_;have kn:=kn.comp0 k2;simp only[go_sem,Q70];intro x7 bz H3 h3;have kn:Kn H H3 [] ([(x6,.st [Ui 0,Ui 0,.sl true 5 []]),(x7,.st [Ui 0,Ui 0,.sl true 5 []])]++([(z,.vec 5 (ks.map JB.row))]++ks.flatMap JB.lg)):=(kn.al bz h3).perm (Qi λf hf h0 hc hp=>by
  have e2:∀(a b:Nat×Obj),f [a,b]=f [a]+f [b]:=λa b=>hc a [b];show f (([]++[(x6,_)])++([(z,_)]++ks.flatMap JB.lg)++[(x7,_)])=_;simp only[Ui,hf,e2,h0];omega)
 have bz:=kn.l 1 rfl;simp only[go_sem,P0,bz];intro H4 h4;have kn:Kn H H4 [] ([(x6,.st [Ui 0,Ui 0,.sl true 5 []]),(x7,.st [Ui q.params,Ui q.ae,.ah z 5 0 q.blocks.length])]++([(z,.vec 5 (ks.map JB.row))]++ks.flatMap JB.lg)):=kn.az 1 rfl h4;refine TI hp hy aq (λi hi=>by
  have cz:ks.length=q.blocks.length:=ZaE
  have:=(ho.il i ZA).1;rw[Ek hy hi,C3 ZA];omega) kn rfl rfl rfl rfl rfl λe5 H5 ks2 hS kn l1 l2 l3 l6 l7 l8=>?_
 clear hy aq k2 bz h4 h3;refine Q1 (Qa ?_);simp only[go_sem,l1,l2,l3,l6,l7,l8];obtain⟨N,hN⟩:∃N,q.blocks.length=N:=⟨_,rfl⟩;refine Qh (Qe (Qy (λt e1 H1=>∃(i:Nat) (ks:List JB),t=nn.length-i/\i<=nn.length/\JnS q b n (nn.take i) ks/\
  Kn H H1 [] ([(x6,.st [Ui 0,Ui 0,.sl true 5 []]),(x7,.st [Ui q.params,Ui q.ae,.ah z 5 0 q.blocks.length])]++([(z,.vec 5 (ks.map JB.row))]++ks.flatMap JB.lg))/\
  lk 1 e1=Uv b/\lk 2 e1=Uv n/\lk 3 e1=.c (.pp [Ui q.params,Ui q.ae,.sl false 5 (Qo q.blocks)])/\lk 6 e1=Up x6/\lk 7 e1=Up x7/\
  lk 8 e1=.c (.ep (.ah z 5 0 q.blocks.length) 5 b 0)/\lk 9 e1=Uv i) nn.length ?_ ?_))
 ·exact⟨0,ks2,ZA,ZA,by rw[Ja3];exact hS,kn,Rf0⟩
 ·clear kn hS l1 l2 l3 l6 l7 l8;rintro t e1 H6 ⟨i,ks,ht,hi,hS,kn,l1,l2,l3,l6,l7,l8,l9⟩;have cz:=hS.len;have nW:b<ks.length:=ZA
  have hz:=kn.l 2 rfl;have fF:(ks.map JB.row).length=q.blocks.length:=by rw[Jc,cz]
  have nF:(ks.map JB.row).take q.blocks.length=ks.map JB.row:=Ji ZA;have nG:(ks.map JB.row).getD b []=[ks[b].pc,ks[b].ic,Ui ks[b].y.jump,Ui ks[b].y.on,.sl ks[b].fl 1 (Qb nn)]:=by
   rw[JB.getD nW,JB.row,hS.y b nW,HK,O6 hp,iV]
  refine Q1 (Qa ?_);simp only[go_sem,l1,l2,l3,l6,l7,l8,l9,hz,fF,nF,nG,bj,Qc,Jg,Jf];try intro _
  refine Wt ?_ ?_
  ·intro hc;have af:i<nn.length:=ZD
   have Cl:0<nn.length:=ZA
   obtain⟨m,hm,fe,gV⟩:=fd nn[i] (Jb af);have b8:nn.getD i 0=(m:Int):=by rw[<-hm];simp[Jd,af]
   have AM:=Qa10 (ns:=nn) (by rw[<-iV];exact fW) af;rw[hm]at AM;refine Zc ?_
   refine Wc ?_;simp only[go_sem,hz,fF,nF,nG,bj,af,Qc,Qk _ _ af,b8,Jg,Jf];refine Q1 (Qa ?_);simp only[go_sem,hz,fF,nF,nG,bj,Cl,Qc,Qk _ _ Cl,Jg,Jf];try intro _
   refine⟨λ_=>Jat 0,?_⟩;refine Wt ?_ ?_
   ·intro aC;have aC:=AM.symm.trans aC;have cr:(m:Int)∈nn.take i:=of_decide_eq_true aC;refine Zb ?_;refine Zh ?_;refine⟨Qv,?_⟩;show ∃m,_;refine⟨nn.length-(i+1),ZA,i+1,ks,rfl,ZA,hS.congr λx=>?_,kn,rfl,rfl,rfl,rfl,rfl,rfl,ZB⟩;rw[Jp af,hm,Jn,Ja];exact⟨.inl,λh=>h.elim id λe=>by rw[e];exact cr⟩
   ·intro aC;have aC:=AM.symm.trans aC;have cr:¬(m:Int)∈nn.take i:=of_decide_eq_false aC;refine Zc ?_
    refine Yu ho hp hS cr (by rw[iV,<-hm];exact Jb af) fe gV kn rfl rfl rfl rfl rfl rfl rfl rfl λe7 H7 ks' nE de kn l1 l2 l3 l6 l7 l8 l9=>?_;simp only[go_sem,X.next];refine Qt ?_;simp only[go_sem,l1,l2,l3,l6,l7,l8,l9];refine⟨Qv,?_⟩;show ∃m,_;refine⟨nn.length-(i+1),ZA,i+1,ks',rfl,ZA,?_,kn,rfl,rfl,rfl,rfl,rfl,rfl,ZB⟩;rw[Jp af,hm];exact nE
  ·intro hc;have iZ:i=nn.length:=by have:nn.length<=i:=ZD;omega
   subst iZ;rw[Jav,<-iV]at hS;refine Zb ?_;have bz:=kn.l 1 rfl;have aY:=kn.l 0 rfl;refine Zl bz aY ?_;intro H7 h7;have kn:Kn H H7 [] ([(x6,.st [Ui q.params,Ui q.ae,.ah z 5 0 q.blocks.length]),(x7,.st [Ui q.params,Ui q.ae,.ah z 5 0 q.blocks.length])]++([(z,.vec 5 (ks.map JB.row))]++ks.flatMap JB.lg)):=kn.az 0 rfl h7;have aY:=kn.l 0 rfl;have hz:=kn.l 2 rfl;refine Zi aY ?_;have hH:Held H7 (un H) (ks.flatMap JB.lg):=λp hp=>
    ⟨(kn.get p (Je _ (Je _ (Je _ hp)))).1,Ef (kn.loc p (Je _ (Je _ hp)))⟩
   have b9:=JB.frzR hS.ok hH;rw[hS.all]at b9;have ew:=FrzR.ah (kn.un 2 rfl) hz (by rw[Jc,cz]) b9;exact⟨_,FrzL.ag (.cons (Qg rfl) (.cons (Qg rfl) (.cons ew .nil))),hK _ kn.fin⟩
end Y
namespace Y
attribute [local go_sem] cond_true cond_false Bool.not_true Bool.not_false
attribute [local instance] Classical.propDecidable
open Go.Proofs.Tryz
variable{q p:CodeD}{L R:Ul}
structure JnOk (q:CodeD):Prop where
 ok:∀i,(Nat.repeat jn1 i q).ok
 jn:∀i b,b<(Nat.repeat jn1 i q).blocks.length->((Qq (Nat.repeat jn1 i q) b).next.length:Int)=CM (Qq (Nat.repeat jn1 i q) b).jump
theorem KC(hg:C0 cs=true){k:Nat}(hk:k<cs.length):JnOk cs[k]:=by
 have fD:∀i,k<(cs.map (Nat.repeat jn1 i)).length:=λi=>by simpa using hk
 have e:∀i,(cs.map (Nat.repeat jn1 i))[k]'(fD i)=Nat.repeat jn1 i cs[k]:=λi=>by rw[Js]
 refine⟨λi=>?_,λi b hb=>?_⟩
 ·have:=FB (Is hg i) (fD i);rw[e]at this;exact this
 ·have:=(IJ (Is hg i)).jn k b (fD i) (by rw[Eh (fD i),e];exact hb);rw[Eh (fD i),e]at this;exact this
theorem Ht:∀i,(Nat.repeat jn1 i q).blocks.length=q.blocks.length
 |0=>rfl
 |i+1=>by
  show (jn1 (Nat.repeat jn1 i q)).blocks.length=_;rw[Hw,Ht i]
theorem HM:(jn1 q).params=q.params/\(jn1 q).ae=q.ae:=⟨Q51,Gm⟩
theorem Q5z {b:Nat}(hb:JnP q b (skT q b).toNat)(h:∀c,c<b->¬JnP q c (skT q c).toNat):jnF q=some (b,(skT q b).toNat):=by
 have bj:=hb.bl;obtain⟨m,hm⟩:∃m,q.blocks.length=b+(m+1):=⟨q.blocks.length-b-1,ZA⟩;have e:List.range q.blocks.length=List.range b++(List.range (m+1)).map (b+·):=by rw[hm,List.range_add]
 rw[jnF,e,List.find?_append];have h1:(List.range b).find? (λb=>decide (JnP q b (skT q b).toNat))=none:=by
  rw[List.find?_eq_none];intro c hc hh;exact h c (Jad.1 hc) (of_decide_eq_true hh)
 rw[h1,List.range_succ_eq_map];simp[hb]
theorem Q5y (h:∀c,c<q.blocks.length->¬JnP q c (skT q c).toNat):jnF q=none:=by
 rw[jnF,Option.map_eq_none_iff,List.find?_eq_none];intro c hc hh;exact h c (Jad.1 hc) (of_decide_eq_true hh)
theorem N7(ho:q.ok)(hK:∀H',Upd H H' []->K (.ag (drpE q).cells) H') :
  Qu prog Kg [.ag [Ui q.params,Ui q.ae,.sl fl 5 (Qo q.blocks)]] H K:=by
 refine Q0 (Qaqo ho λz H' kn=>?_);have ew:=FrzR.ah (kn.un 0 rfl) (kn.l 0 rfl) (by rw[Qn]) (FrzR.same (RV _));exact⟨_,FrzL.ag (.cons (Qg rfl) (.cons (Qg rfl) (.cons ew .nil))),hK _ kn.fin⟩
theorem Yw (ho:q.ok)(hs:JnOk (drpE q))(hK:∀H',Upd H H' []->K (.ag (jnD q).cells) H') :
  Qu prog NL [.ag [Ui q.params,Ui q.ae,.sl false 5 (Qo q.blocks)]] H K:=by
 obtain⟨d,hd⟩:∃d,drpE q=d:=⟨_,rfl⟩;have qj:jnD q=drpE (jnE d):=Zaw
 rw[hd]at hs;have nV:d.ok:=hs.ok 0;have di:=nV.b1;refine Q0 ?_;refine Qd Co Y3 ?_;refine Za ?_;intro x2 aL H1 h1;have kn:=(Kn.an H).al aL h1;refine Za ?_;refine N7 ho λH2 hu=>?_;have kn:=kn.au hu;rw[hd];simp only[go_sem,Q2p,CodeD.cells];intro x3 aO H3 h3;have kn:Kn H H3 [] [(x2,.st [Ui 0,Ui 0,.sl true 5 []]),(x3,.st [Ui 0,Ui 0,.sl true 5 []])]:=kn.al aO h3;have aO:=kn.l 1 rfl;simp only[go_sem,Q2o,aO];intro H4 h4;have kn:Kn H H4 [] [(x2,.st [Ui 0,Ui 0,.sl true 5 []]),(x3,.st d.cells)]:=kn.az 1 rfl h4;refine Wa ?_;refine Qh (Qe (Qy (λmm e1 H1=>∃(i b:Nat),mm=jnW (Nat.repeat jn1 i d) * (d.blocks.length+1)+(d.blocks.length-b)/\b<=d.blocks.length/\(∀c,c<b->¬JnP (Nat.repeat jn1 i d) c (skT (Nat.repeat jn1 i d) c).toNat)/\
  Kn H H1 [] [(x2,.st [Ui 0,Ui 0,.sl true 5 []]),(x3,.st (Nat.repeat jn1 i d).cells)]/\e1=[(2,Up x2),(3,Up x3),(4,Uv b)]) (jnW (Nat.repeat jn1 0 d) * (d.blocks.length+1)+(d.blocks.length-0)) ?_ ?_))
 ·exact⟨0,0,rfl,ZA,λc hc=>absurd hc (Nat.not_lt_zero c),kn,rfl⟩
 clear kn aO;rintro mm e1 H5 ⟨i,b,eG,bj,b7,kn,rfl⟩;obtain⟨p,hp⟩:∃p,Nat.repeat jn1 i d=p:=⟨_,rfl⟩;have lI:p.ok:=by rw[<-hp];exact hs.ok i
 have ut:∀b,b<p.blocks.length->((Qq p b).next.length:Int)=CM (Qq p b).jump:=by rw[<-hp];exact hs.jn i
 have db:p.blocks.length=d.blocks.length:=by rw[<-hp];exact Ht i
 rw[hp]at eG b7 kn;have aO:=kn.l 1 rfl;have aL:=kn.l 0 rfl;rw[<-db]at bj;refine Q1 (Qa ?_);simp only[go_sem,aO,CodeD.cells,Qn];try intro _
 refine Wt ?_ ?_
 ·intro hc;have af:b<p.blocks.length:=by have:(b:Int)<p.blocks.length:=of_decide_eq_true hc;omega
  refine Zc ?_
  refine Qh (Qe ?_);refine Zw aO ?_;refine Yv .frz af lI (ut b af) λH6 hu=>?_;have kn:=kn.au hu;have aO:=kn.l 1 rfl;simp only[go_sem,Q2q];refine Za ?_;by_cases hj:JnP p b (skT p b).toNat
  ·have hF:=Q5z hj b7;have fC:=Ro hF;have cq:=hj.n0;have hV:jnV p b=(((skT p b).toNat:Nat):Int):=by rw[jnV,if_pos hj];omega
   have e1:jn1 p=jnQ p b (skT p b).toNat:=by rw[jn1,jnS,hF]
   rw[hV];refine Qf rfl (λ_=>?_) (λaC=>by have:¬(0:Int)<=((skT p b).toNat:Int):=of_decide_eq_false aC;omega);refine Zw aO ?_;refine TH lI (ut _ hj.nl) hj λH7 hu=>?_;have kn:=kn.au hu;rw[<-e1];have aO:=kn.l 1 rfl;simp only[go_sem,Q2r,aO,CodeD.cells];intro H8 h8;have kn:Kn H H8 [] [(x2,.st [Ui 0,Ui 0,.sl true 5 []]),(x3,.st (jn1 p).cells)]:=kn.az 1 rfl h8;refine Zg ?_;refine Zg ?_;refine⟨Qv,?_⟩;have cE:Nat.repeat jn1 (i+1) d=jn1 p:=by
    show jn1 (Nat.repeat jn1 i d)=_;rw[hp]
   have hm:=Ja2 (d.blocks.length+1) (Nat.succ_le_of_lt fC);rw[Jbg]at hm;show ∃m,_;refine⟨jnW (jn1 p) * (d.blocks.length+1)+(d.blocks.length-0),ZA,i+1,0,by rw[cE],ZA,λc hc=>absurd hc (Nat.not_lt_zero c),by rw[cE];exact kn,rfl⟩
  ·have hV:jnV p b=-1:=by rw[jnV,if_neg hj]
   rw[hV];refine Qf rfl (λaC=>absurd aC ZN) (λ_=>?_);refine Qj ?_;try simp only[go_sem,X.next]
   refine Zh ?_;refine⟨Qv,?_⟩;show ∃m,_;refine⟨jnW p * (d.blocks.length+1)+(d.blocks.length-(b+1)),ZA,i,b+1,by rw[hp],ZA,λc hc=>?_,by rw[hp];exact kn,rfl⟩;rw[hp];by_cases fj:c=b
   ·rw[fj];exact hj
   ·exact b7 c ZA
 ·intro hc;have gC:b=p.blocks.length:=by have:¬(b:Int)<p.blocks.length:=of_decide_eq_false hc;omega
  subst gC;have ft:=Q5y b7;have jX:p=jnE d:=by rw[<-hp]at ft⊢;exact OG di ft
  refine Zb ?_;refine Zw aO ?_;refine N7 lI λH6 hu=>?_;have kn:=kn.au hu;have aL:=kn.l 0 rfl;simp only[go_sem,Qyw,CodeD.cells,aL];intro H7 h7;have kn:=kn.az 0 rfl h7;have aL:=kn.l 0 rfl;refine Zi aL ?_;rw[qj,<-jX]at hK;exact⟨_,FrzL.ag (.cons (.same _ rfl) (.cons (.same _ rfl) (.cons (.same _ rfl) .nil))),hK _ kn.fin⟩
end Y
namespace Y
attribute [local go_sem] cond_true cond_false Bool.not_true Bool.not_false
open Go.Proofs.Tryz
variable{q:CodeD}
abbrev Plc:=Int×Int
def pRow (p:Plc):List C:=[.sl true 1 [[.int .i64 p.1],[.int .i64 p.2]]]
def Dx (ps:List Plc):List (List C):=ps.map pRow
theorem OY (ps:List Plc):(Dx ps).length=ps.length:=by simp[Dx]
theorem Qarh (ps:List Plc)(i:Nat)(h:i<ps.length):(Dx ps).getD i []=pRow ps[i]:=by simp[Dx,Jd,h]
theorem RE (ps:List Plc):∀r∈Dx ps,am r=true:=by intro r hr;obtain⟨x,_,rfl⟩:=Jq.1 hr;rfl
def phS (q:CodeD)(b k r:Nat):List Plc:=(((Qq q b).ab.take k).filter λp=>decide (p.to=(r:Int))).map λ_=>((b:Int),(-1:Int))
def EP (q:CodeD)(b i:Nat):Int:=(((Qq q b).ins[i]?).map DF).getD (-1)
def inS (q:CodeD)(b j r:Nat):List Plc:=((List.range j).filter λi=>decide (EP q b i=(r:Int))).map λ(i:Nat)=>((b:Int),(i:Int))
def blS (q:CodeD)(b r:Nat):List Plc:=phS q b (Qq q b).ab.length r++inS q b (Qq q b).ins.length r
def DO (q:CodeD)(b r:Nat):List Plc:=(List.range b).flatMap λb=>blS q b r
def Ej (q:CodeD)(r:Nat):List Plc:=DO q q.blocks.length r
def Es (q:CodeD):List (List C):=(List.range q.ae.toNat).map λr=>[.sl false 1 (Dx (Ej q r))]
theorem Qa0n {b k r:Nat}(h:k<(Qq q b).ab.length):phS q b (k+1) r=phS q b k r++if (Qq q b).ab[k].to=(r:Int)then [((b:Int),(-1:Int))]else []:=by
 rw[phS,phS,Jp h,Jap,Jo];congr 1;by_cases hc:(Qq q b).ab[k].to=(r:Int)
 ·rw[if_pos hc];simp[hc]
 ·rw[if_neg hc];simp[hc]
theorem XF {b:Nat}(h:i<(Qq q b).ins.length):EP q b i=DF (Qq q b).ins[i]:=by simp[EP,h]
theorem L6 {b r:Nat}:inS q b (j+1) r=inS q b j r++if EP q b j=(r:Int)then [((b:Int),(j:Int))]else []:=by
 rw[inS,inS,Jaz,Jap,Jo];congr 1;by_cases hc:EP q b j=(r:Int)
 ·rw[if_pos hc];simp[hc]
 ·rw[if_neg hc];simp[hc]
theorem Qanr {b r:Nat}:DO q (b+1) r=DO q b r++blS q b r:=by simp[DO,Jaz]
theorem Qamn (x:InsD):(D0 x.op=true/\DF x=x.to)\/(D0 x.op=false/\DF x=-1):=by
 cases h:D0 x.op with
 |true=>exact .inl ⟨rfl,by simp[DF,h]⟩
 |false=>exact .inr ⟨rfl,by simp[DF,h]⟩
structure SReg where
 ps:List Plc
 c:C
 lg:Ul
def SReg.row (s:SReg):List C:=[s.c]
def SReg.ok (s:SReg):Prop:=Gr s.lg 1 (Dx s.ps) s.c
structure SInv (R N:Nat)(F:Nat->List Plc)(ss:List SReg):Prop where
 n:ss.length=R
 f:∀r (h:r<ss.length),ss[r].ps=F r
 ok:∀s∈ss,s.ok
 l:∀s∈ss,s.ps.length<=N
variable{R N:Nat}{F F':Nat->List Plc}{ss:List SReg}
theorem SInv.get (h:SInv R N F ss)(hx:x<R):∃s∈ss,∃gP:x<ss.length,ss[x]=s/\s.ps=F x/\s.ok/\s.ps.length<=N/\(ss.map SReg.row).getD x []=[s.c]:=
 have gP:x<ss.length:=by rw[h.n];exact hx
 ⟨ss[x],Jb gP,gP,rfl,h.f x gP,h.ok _ (Jb gP),h.l _ (Jb gP),by simp[Jd,gP,SReg.row]⟩
theorem SInv.put (h:SInv R N F ss)(hx:x<R){p:Plc}{t:C}(hg:Gr Lg 1 (Dx (F x++[p])) t)(hF:∀r,F' r=if r=x then F x++[p]else F r) :
  SInv R (N+1) F' (ss.set x ⟨F x++[p],t,Lg⟩):=by
 obtain⟨s,hs,gP,e1,e2,e3,e4,_⟩:=h.get hx;refine⟨by rw[Jk];exact h.n,λr hr=>?_,λw hw=>?_,λw hw=>?_⟩
 ·rw[J6,hF];split
  ·rename_i e;rw[if_pos e.symm]
  ·rename_i e;rw[if_neg (λhh=>e hh.symm)];exact h.f r Zai
 ·rcases Ju hw with hw|rfl
  ·exact h.ok w hw
  ·exact hg
 ·rcases Ju hw with hw|rfl
  ·have:=h.l w hw;omega
  ·rw[e2]at e4;simp only[Jaq,Jl,Jm];omega
theorem SInv.same (h:SInv R N F ss)(hF:∀r,r<R->F' r=F r):SInv R N F' ss:=⟨h.n,λr hr=>by rw[h.f r hr,hF r Za8],h.ok,h.l⟩
theorem SInv.up (h:SInv R N F ss){M:Nat}(hM:N<=M):SInv R M F ss:=⟨h.n,h.f,h.ok,λs hs=>by have:=h.l s hs;omega⟩
def ssL (o:Nat)(ss:List SReg):List (Nat×Obj):=[(o,.vec 1 (ss.map SReg.row))]++ss.flatMap SReg.lg
theorem HV {o:Nat}{s:SReg}(hx:x<ss.length)(hs:ss[x]=s):(ssL o ss).Perm (([(o,.vec 1 (ss.map SReg.row))]++(ss.eraseIdx x).flatMap SReg.lg)++s.lg):=by
 subst hs;have:=DL (f:=SReg.lg) hx;rw[ssL];refine Qi λf hf h0 hc hp=>?_;have:=hp _ _ this;simp only[Ui,hf]at this⊢;omega
theorem Lc {o:Nat}{s:SReg}(hx:x<ss.length):(([(o,Obj.vec 1 ((ss.set x s).map SReg.row))]++(ss.eraseIdx x).flatMap SReg.lg)++s.lg).Perm (ssL o (ss.set x s)):=by
 have h1:=HV (o:=o) (ss:=ss.set x s) (x:=x) (s:=s) (by rw[Jk];exact hx) ZC;rw[J8]at h1;exact h1.symm
theorem YK(ho:q.ok)(hK:∀H',Upd H H' []->K (.c (.sl false 1 (Es q))) H') :
  Qu prog NN [.ag [Ui q.params,Ui q.ae,.sl fl 5 (Qo q.blocks)]] H K:=by
 have bI:=ho.r0;have cN:=ho.r1;have bm:=ho.b1;obtain⟨R,hR⟩:∃R:Nat,q.ae.toNat=R:=⟨_,rfl⟩;have vF:q.ae=(R:Int):=ZA
 refine Q0 ?_;refine Qd Co Y5 ?_;refine Za ?_;refine Zj vF ?_;refine⟨by simp only[LIM];omega,λo lK H1 h1=>?_⟩;have kn:Kn H H1 [] (ssL o (List.replicate R ⟨[],.sl true 1 [],[]⟩)):=by
  have e:(List.replicate R (SReg.mk [] (.sl true 1 []) [])).flatMap SReg.lg=[]:=List.flatMap_eq_nil_iff.2 λs hs=>by rw[J2 hs]
  have:=(Kn.an H).al lK h1;rw[ssL,e];simpa[SReg.row]using this
 simp only[go_sem,Q2i];have nD:SInv R 0 (DO q 0) (List.replicate R ⟨[],.sl true 1 [],[]⟩):=⟨ZC,λr h=>by simp[DO],λs hs=>by rw[J2 hs];exact .nil 1,λs hs=>by rw[J2 hs];simp⟩;generalize List.replicate R (SReg.mk [] (.sl true 1 []) [])=ss0 at *;refine Wa ?_;refine Qh (Qe (Qy (λm e1 H1=>∃(b N:Nat) (ss:List SReg),m=q.blocks.length-b/\b<=q.blocks.length/\N<=b * 2400/\SInv R N (DO q b) ss/\Kn H H1 [] (ssL o ss)/\
  lk 1 e1=.c (.pp [Ui q.params,Ui (R:Int),.sl fl 5 (Qo q.blocks)])/\lk 3 e1=.c (.ah o 1 0 R)/\lk 4 e1=Uv b) q.blocks.length ?_ ?_))
 ·exact⟨0,0,ss0,ZA,ZA,ZA,nD,kn,Rf0⟩
 ·clear kn nD h1 lK;clear ss0;rintro m e1 H1 ⟨b,N,ss,hm,hb,pw,hS,kn,l1,l3,l4⟩;refine Q1 (Qa ?_);simp only[go_sem,l1,l3,l4,Qn];try intro _
  refine Wt ?_ ?_
  ·intro hc;have af:b<q.blocks.length:=ZD
   obtain⟨y,hy⟩:∃y,q.blocks[b]=y:=⟨_,rfl⟩;have fX:Qq q b=y:=by rw[C3 af,hy]
   have cp:=ho.bs b af;have cK:=ho.il b af;rw[hy]at cp cK;refine Zc ?_
   refine Qh (Qe ?_);refine Wa ?_;refine Qh (Qe (Qy (λm e1 H1=>∃(k N:Nat) (ss:List SReg),m=y.ab.length-k/\k<=y.ab.length/\N<=b * 2400+k/\SInv R N (λr=>DO q b r++phS q b k r) ss/\Kn H H1 [] (ssL o ss)/\
    lk 1 e1=.c (.pp [Ui q.params,Ui (R:Int),.sl fl 5 (Qo q.blocks)])/\lk 3 e1=.c (.ah o 1 0 R)/\lk 4 e1=Uv b/\lk 5 e1=Uv k) y.ab.length ?_ ?_))
   ·exact⟨0,N,ss,ZA,ZA,Ja8 pw (Jba _ _),hS.same λr _=>by simp[phS],kn,Rf0⟩
   ·clear kn hS l1 l3 l4;clear ss pw;clear N;rintro m2 e2 H2 ⟨k,N,ss,fz,hk,pw,hS,kn,l1,l3,l4,l5⟩;refine Q1 (Qa ?_);simp only[go_sem,l1,l3,l4,l5,af,Qn,CU _ _ af,BlkD.cells,hy,Qz];try intro _
    refine Wt ?_ ?_
    ·intro aC;have aP:k<y.ab.length:=ZG;obtain⟨p,hp⟩:∃p,y.ab[k]=p:=⟨_,rfl⟩;have dD:p∈y.ab:=(by rw[<-hp];exact Jb aP);obtain⟨hv,bH⟩:=(cp.pto p dD).nat;have tV:∀r,phS q b (k+1) r=phS q b k r++if p.to=(r:Int)then [((b:Int),(-1:Int))]else []:=λr=>by
      have:=Qa0n (q:=q) (b:=b) (k:=k) (r:=r) (by rw[fX];exact aP);simp only[fX,hp]at this;exact this
     refine Zc ?_
     refine Qh (Qe ?_);rw[hR]at bH;generalize hx:p.to.toNat=x at *;obtain⟨s,iu,eZ,qZ,uf,aK,dd,jF⟩:=hS.get bH;have gE:=aK.ai;refine Qa ?_;simp only[go_sem,af,Qn,CU _ _ af,BlkD.cells,hy,Qz,aP,D2 _ _ aP,PhiD.cells,hp];have kn:=kn.perm (HV eZ qZ);have bf:H2 o=.vec 1 (ss.map SReg.row):=(kn.get (o,.vec 1 (ss.map SReg.row)) ZC).1;have cF:(ss.map SReg.row).length=R:=(by rw[Jc,hS.n]);have mz:(ss.map SReg.row).take R=ss.map SReg.row:=Ji ZA;refine Qt ?_;simp only[go_sem,bf,cF,mz,hv,bH,jF,gE,Jg,Jf];refine kn.bk (new:=Dx [((b:Int),(-1:Int))]) aK (.mk' _ _ _ _) (RE _) (by simp only[OY,LIM,Jl,Jm];omega) λt2 Lg2 H3 cS cQ kn=>?_;have bf:H3 o=.vec 1 (ss.map SReg.row):=(kn.get (o,.vec 1 (ss.map SReg.row)) ZC).1;simp only[go_sem,Q2j,bf,cF,bH,jF,Jg,Jf];intro H4 h4;obtain⟨s',eD⟩:∃s':SReg,s'=⟨(DO q b x++phS q b k x)++[((b:Int),(-1:Int))],t2,Lg2⟩:=⟨_,rfl⟩;have bX:(ss.map SReg.row).set x [t2]=(ss.set x s').map SReg.row:=(by rw[J1,eD];rfl);rw[bX]at h4;have kn:Kn H H4 [] (([(o,.vec 1 ((ss.set x s').map SReg.row))]++(ss.eraseIdx x).flatMap SReg.lg)++s'.lg):=by
      have e:s'.lg=Lg2:=(by rw[eD]);rw[e];exact kn.az 0 rfl h4
     have kn:=kn.perm (Lc eZ);refine Zh ?_;refine⟨Qv,?_⟩;show ∃m,_;refine⟨y.ab.length-(k+1),ZA,k+1,N+1,ss.set x s',rfl,ZA,ZA,?_,kn,Rf0⟩;rw[eD];refine (hS.put bH (p:=((b:Int),(-1:Int))) (t:=t2) (Lg:=Lg2) ?_ λr=>?_)
     ·have:Dx ((DO q b x++phS q b k x)++[((b:Int),(-1:Int))])=Dx s.ps++Dx [((b:Int),(-1:Int))]:=(by rw[uf];simp[Dx]);rw[this];exact cS
     ·show DO q b r++phS q b (k+1) r=_;rw[tV];by_cases ge:r=x
      ·subst ge;rw[if_pos rfl,if_pos hv];simp
      ·rw[if_neg ge,if_neg ZA];simp
    ·intro aC;have jK:k=y.ab.length:=(by have:y.ab.length<=k:=(by simpa using aC);omega);subst jK;refine Wb ?_;refine Qe (Qy (λm e1 H1=>∃(j N:Nat) (ss:List SReg),m=y.ins.length-j/\j<=y.ins.length/\N<=b * 2400+y.ab.length+j/\SInv R N (λr=>DO q b r++phS q b y.ab.length r++inS q b j r) ss/\Kn H H1 [] (ssL o ss)/\
      lk 1 e1=.c (.pp [Ui q.params,Ui (R:Int),.sl fl 5 (Qo q.blocks)])/\lk 3 e1=.c (.ah o 1 0 R)/\lk 4 e1=Uv b/\lk 7 e1=Uv j) y.ins.length ?_ ?_)
     ·exact⟨0,N,ss,ZA,ZA,Ja8 pw (Jba _ _),hS.same λr _=>by simp[inS],kn,Rf0⟩
     ·clear kn hS l1 l3 l4 l5;clear ss pw;clear N;rintro m3 e3 H3 ⟨j,N,ss,uH,hj,pw,hS,kn,l1,l3,l4,l7⟩;refine Q1 (Qa ?_);simp only[go_sem,l1,l3,l4,l7,af,Qn,CU _ _ af,BlkD.cells,hy,CR];try intro _
      refine Wt ?_ ?_
      ·intro bv;have bR:j<y.ins.length:=ZT;obtain⟨x,hx⟩:∃x,y.ins[j]=x:=⟨_,rfl⟩;have kw:x∈y.ins:=(by rw[<-hx];exact Jb bR);have Bo:EP q b j=DF x:=by
        have:=XF (q:=q) (b:=b) (i:=j) (by rw[fX];exact bR);simp only[fX,hx]at this;exact this
       refine Zc ?_
       refine CN (λe2 H2=>∃(N:Nat) (ss:List SReg),N<=b * 2400+y.ab.length+(j+1)/\SInv R N (λr=>DO q b r++phS q b y.ab.length r++inS q b (j+1) r) ss/\Kn H H2 [] (ssL o ss)/\
        lk 1 e2=.c (.pp [Ui q.params,Ui (R:Int),.sl fl 5 (Qo q.blocks)])/\lk 3 e2=.c (.ah o 1 0 R)/\lk 4 e2=Uv b/\lk 7 e2=Uv j) ?_ ?_
       ·intro Q bS _ _;refine Qe (Qa ?_);simp only[go_sem,af,Qn,CU _ _ af,BlkD.cells,hy,bR,CR,Fd _ _ bR,InsD.cG,InsD.b6,InsD.len4,hx];refine N2 ?_;simp only[go_sem,OU];refine Za ?_;refine Wu ?_ ?_
        ·intro dz;have bp:0<=DF x:=(by simpa using dz);have cU:D0 x.op=true/\DF x=x.to:=by
          rcases Qamn x with h|⟨_,h⟩
          ·exact h
          ·omega
         obtain⟨hv,bH⟩:=(cp.to x kw cU.1).nat;rw[<-cU.2,hR]at bH;rw[<-cU.2]at hv;clear cU;generalize hx:(DF x).toNat=z at *;obtain⟨s,iu,eZ,qZ,uf,aK,dd,jF⟩:=hS.get bH;have gE:=aK.ai;have kn:=kn.perm (HV eZ qZ);have bf:H3 o=.vec 1 (ss.map SReg.row):=(kn.get (o,.vec 1 (ss.map SReg.row)) ZC).1;have cF:(ss.map SReg.row).length=R:=(by rw[Jc,hS.n]);have mz:(ss.map SReg.row).take R=ss.map SReg.row:=Ji ZA;refine Qt ?_;simp only[go_sem,bf,cF,mz,hv,bH,jF,gE,Jg,Jf];refine kn.bk (new:=Dx [((b:Int),(j:Int))]) aK (.mk' _ _ _ _) (RE _) (by simp only[OY,LIM,Jl,Jm];omega) λt2 Lg2 H4 cS cQ kn=>?_;have bf:H4 o=.vec 1 (ss.map SReg.row):=(kn.get (o,.vec 1 (ss.map SReg.row)) ZC).1;simp only[go_sem,Q2k,bf,cF,bH,jF,Jg,Jf];intro H5 h5;obtain⟨s',eD⟩:∃s':SReg,s'=⟨(DO q b z++phS q b y.ab.length z++inS q b j z)++[((b:Int),(j:Int))],t2,Lg2⟩:=⟨_,rfl⟩;have bX:(ss.map SReg.row).set z [t2]=(ss.set z s').map SReg.row:=(by rw[J1,eD];rfl);rw[bX]at h5;have kn:Kn H H5 [] (([(o,.vec 1 ((ss.set z s').map SReg.row))]++(ss.eraseIdx z).flatMap SReg.lg)++s'.lg):=by
          have e:s'.lg=Lg2:=(by rw[eD]);rw[e];exact kn.az 0 rfl h5
         have kn:=kn.perm (Lc eZ);refine bS _ _ ⟨N+1,ss.set z s',ZA,?_,kn,Rf0⟩;rw[eD];refine (hS.put bH (p:=((b:Int),(j:Int))) (t:=t2) (Lg:=Lg2) ?_ λr=>?_)
         ·have:Dx ((DO q b z++phS q b y.ab.length z++inS q b j z)++[((b:Int),(j:Int))])=Dx s.ps++Dx [((b:Int),(j:Int))]:=(by rw[uf];simp[Dx]);rw[this];exact cS
         ·show DO q b r++phS q b y.ab.length r++inS q b (j+1) r=_;rw[L6,Bo];by_cases ge:r=z
          ·subst ge;rw[if_pos rfl,if_pos hv];simp
          ·rw[if_neg ge,if_neg ZA];simp
        ·intro dz;have oL:¬0<=DF x:=(by simpa using dz);refine Zc ?_
         refine bS _ _ ⟨N,ss,ZA,hS.same λr _=>?_,kn,Rf0⟩;rw[L6,Bo,if_neg ZA];simp
       ·rintro e4 H4 ⟨N,ss,pw,hS,kn,l1,l3,l4,l7⟩;refine Qt ?_;simp only[go_sem,l1,l3,l4,l7];refine⟨Qv,?_⟩;show ∃m,_;exact⟨y.ins.length-(j+1),ZA,j+1,N,ss,rfl,ZA,pw,hS,kn,Rf0⟩
      ·intro bv;have nf:j=y.ins.length:=(by have:y.ins.length<=j:=(by simpa using bv);omega);subst nf;refine Zb ?_;refine Zh ?_;refine⟨Qv,?_⟩;show ∃m,_;refine⟨q.blocks.length-(b+1),ZA,b+1,N,ss,rfl,ZA,ZA,hS.same λr _=>?_,kn,Rf0⟩;rw[Qanr,blS,fX];simp
  ·intro hc;have gC:b=q.blocks.length:=by have:q.blocks.length<=b:=ZD;omega
   subst gC;refine Wb ?_;refine Zd ?_;have bf:=kn.l 0 rfl;have cr:∀p∈ssL o ss,H1 p.1=p.2/\un H p.1=true:=λp hp=>⟨(kn.get p (Je _ hp)).1,Ef (kn.loc p hp)⟩;have b9:FrzR H1 (un H) (ss.map SReg.row) (Es q):=by
    have e:Es q=ss.map λs=>[C.sl false 1 (Dx s.ps)]:=by
     rw[Es,hR];refine Jae (by simp[hS.n]) λi h1 h2=>?_;have h3:i<ss.length:=Zab;simp only[Js,List.getElem_range,hS.f i h3];rfl
    rw[e];exact Fc ss λs hs=>.cons (Gr.frzM (hS.ok s hs) (λp hp=>cr p (Je _ (Jt.2 ⟨s,hs,hp⟩))) (FrzR.same (RE _))) .nil
   exact⟨_,.c _ _ (b9.ah (kn.un 0 rfl) bf (by rw[Jc,hS.n])),hK _ kn.fin⟩
end Y
namespace Y
open Go.Proofs.Tryz
def Gq (Lg:List (Nat×Obj))(W:List Nat)(c:C):Prop:=
 (c=.sl true 1 []/\W=[]/\Lg=[])\/∃z st R,c=.ah z 1 st W.length/\Lg=[(z,.vec 1 R)]/\(R.drop st).take W.length=Cs W/\st+W.length<=R.length
theorem Gq.ai {W:List Nat}{c:C}(h:Gq Lg W c):c.ai=false:=by rcases h with ⟨rfl,_⟩|⟨z,st,R,rfl,_⟩ <;> rfl
theorem Gq.aQ {W:List Nat}{c:C}(h:Gq Lg W c):c.aQ=1:=by rcases h with ⟨rfl,_⟩|⟨z,st,R,rfl,_⟩ <;> rfl
theorem Gq.ay{c:C}(h:Gq Lg W c):ay c=W.length:=by rcases h with ⟨rfl,rfl,_⟩|⟨z,st,R,rfl,_⟩ <;> rfl
theorem Gq.get {W:List Nat}{c:C}(h:Gq Lg W c)(kn:Kn H0 H E (B++Lg)):aZ H c/\rowsOf H c=Cs W:=by
 rcases h with ⟨rfl,rfl,_⟩|⟨z,st,R,rfl,rfl,h1,h2⟩
 ·exact⟨trivial,rfl⟩
 ·have hz:H z=.vec 1 R:=(kn.get (z,.vec 1 R) ZC).1;exact⟨by simp[aZ,hz,h2],by simp[rowsOf,hz,h1]⟩
theorem Gr.gq{c:C}(h:Gr Lg 1 (Cs W) c):Gq Lg W c:=by
 rcases h with ⟨h1,h2,h3⟩|⟨y,h1,h2⟩
 ·refine .inl ⟨h1,?_,h3⟩;have:=congrArg List.length h2;rw[Q6]at this;exact List.length_eq_zero_iff.1 this
 ·exact .inr ⟨y,0,Cs W,by rw[h1,Q6],h2,by rw[Jbd,Ji (by rw[Q6];exact Jf _)],by rw[Q6];omega⟩
theorem Kn.growQ{new:List Nat}{b c:C}(kn:Kn H0 H E (B++Lg))(hc:Gq Lg W c)(hb:Slc H 1 (Cs new) b)(h2:W.length+new.length<=LIM)
  (h:∀t Lg' H',Gq Lg' (W++new) t->t.ai=false->Kn H0 H' E (B++Lg')->K (.c t) H'):appQ H 1 c b K:=by
 rcases hc with ⟨rfl,rfl,rfl⟩|⟨z,st,R,rfl,rfl,h3,h4⟩
 ·refine Kn.bk (new:=Cs new) kn (.nil 1) hb (Ff _) (by simp only[Q6,Jm]at *;omega) λt Lg' H' hg ht k=>h t Lg' H' (Gr.gq ?_) ht k;simpa using hg
 ·have hz:H z=.vec 1 R:=(kn.get (z,.vec 1 R) ZC).1;refine⟨hb.ok,hb.sz,?_⟩;simp only[hz,hb.rows,hb.len,h3,Q6];refine⟨trivial,trivial,h4,Ff _,h2,λl' dq H' ey=>?_⟩;have hg:Gr [(l',.vec 1 (Cs (W++new)))] 1 (Cs (W++new)) (.ah l' 1 0 (W.length+new.length)):=.mk _ _ _ (by simp[Q6]);refine h _ _ H' (Gr.gq hg) rfl ?_;have:=kn.ap B.length (y:=z) (o:=.vec 1 R) ZC dq ey;rw[RG];simpa using this
end Y
namespace Y
attribute [local go_sem] cond_true cond_false Bool.not_true Bool.not_false
open Go.Proofs.Tryz
variable{q:CodeD}
theorem Qams {nx:Nat->List Int}{f:Int}{n:Nat}(h:i<(Qs nx f n).length):∃p:Nat,(Qs nx f n).getD i 0=(p:Int)/\p<n:=by
 have h1:(Qs nx f n)[i]∈Qs nx f n:=Jb h;have e:(Qs nx f n).getD i 0=(Qs nx f n)[i]:=by simp[Jd,h]
 rw[e];generalize (Qs nx f n)[i]=v at h1;simp only[Qs,Jq,Jbc,Jad]at h1;obtain⟨p,⟨h2,_⟩,rfl⟩:=h1;exact⟨p,rfl,h2⟩
theorem Q6i(h:∀x∈ns,0<=x):Qb ns=Cs (ns.map Int.toNat):=by
 have hk:ns=(ns.map Int.toNat).map Int.ofNat:=by
  rw[Jay]
  conv=>lhs;rw[<-Jbh ns]
  refine J4 λx hx=>?_;have:=h x hx;simp;omega
 conv=>lhs;rw[hk]
 rfl
theorem IY(h:∀x∈ns,0<=x)(ha:ns.Pairwise (· < ·)):(ns.map Int.toNat).Pairwise (· < ·):=by
 rw[List.pairwise_map];refine ha.imp_of_mem λ{a b} h1 h2 h3=>?_;have:=h a h1;have:=h b h2;omega
theorem OS {l:List Nat}{n:Nat}(ha:l.Pairwise (· < ·))(hn:∀x∈l,x<n):l.length<=n:=by
 have h1:l.Nodup:=ha.imp λh=>ZA
 have h2:l ⊆ List.range n:=λx hx=>Jad.2 (hn x hx);have:=(List.nodup_iff_count.1 h1);have h3:=Jak h1 h2;simpa using h3
theorem Qaeq {flo:Bool}{b:Nat}(ho:q.ok)(hb:b<q.blocks.length)
  (hK:∀(fl':Bool) (fs:List Nat) H',Upd H H' []->fs.Pairwise (· < ·)->(∀x∈fs,x<q.blocks.length)->K (.c (.sl fl' 1 (Cs fs))) H') :
  Qu prog Qs0 [.ag [Ui q.params,Ui q.ae,.sl fl 5 (Qo q.blocks)],.c (.sl flo 1 (Dl q.blocks.length (nxN (gnx q)) q.blocks.length)),Uv b] H K:=by
 have bm:=ho.b1;obtain⟨n,hn⟩:∃n,q.blocks.length=n:=⟨_,rfl⟩;obtain⟨g,hg⟩:∃g,nxN (gnx q)=g:=⟨_,rfl⟩;rw[hn]at hb bm hK;rw[hn,hg];refine Q0 ?_;refine Qd Co Qae6 ?_;refine Wd ?_;refine Wa ?_;refine Qh (Qe (Qy (λm e1 H1=>∃(f:Nat) (fo:Bool) (ns:List Int),m=n-f/\f<=n/\ns.Pairwise (· < ·)/\(∀x∈ns,0<=x/\x<n)/\ns.length<=f * 200/\Kn H H1 [] []/\
  lk 1 e1=.c (.sl flo 1 (Dl n g n))/\lk 2 e1=Uv b/\lk 3 e1=.c (.pp [Ui q.params,Ui q.ae,.sl fl 5 (Qo q.blocks)])/\lk 7 e1=.c (.sl fo 1 (Qb ns))/\lk 8 e1=Uv f) n ?_ ?_))
 ·exact⟨0,true,[],ZA,ZA,ZC,ZC,ZC,Kn.an H,Rf0⟩
 ·rintro m e1 H1 ⟨f,fo,ns,hm,hf,ha,dT,bF,kn,l1,l2,l3,l7,l8⟩;refine Q1 (Qa ?_);simp only[go_sem,l1,l2,l3,l7,l8,Iq];try intro _
  refine Wt ?_ ?_
  ·intro hc;have af:f<n:=ZD
   refine Zc ?_
   refine We ?_;refine F6 (nx:=gnx q) (.mk' _ _ _ _) rfl (Fb H1 q fl).x λH2 hu=>?_;have kn:=kn.au hu;rw[Qn,hn];have db:=E3 (gnx q) (f:Int) n;have kU:=λ(i:Nat)=>Qams (nx:=gnx q) (f:=(f:Int)) (n:=n) (i:=i);generalize Qs (gnx q) (f:Int) n=pr at *;simp only[go_sem,G8];refine Za ?_;refine Qe (Qy (λm e1 H1=>∃(i:Nat) (fo:Bool) (ns:List Int),m=pr.length-i/\i<=pr.length/\ns.Pairwise (· < ·)/\(∀x∈ns,0<=x/\x<n)/\ns.length<=f * 200+i/\Kn H H1 [] []/\
    lk 1 e1=.c (.sl flo 1 (Dl n g n))/\lk 2 e1=Uv b/\lk 3 e1=.c (.pp [Ui q.params,Ui q.ae,.sl fl 5 (Qo q.blocks)])/\lk 7 e1=.c (.sl fo 1 (Qb ns))/\lk 8 e1=Uv f/\lk 9 e1=.c (.sl false 1 (Qb pr))/\lk 10 e1=Uv i) pr.length ?_ ?_)
   ·exact⟨0,fo,ns,ZA,ZA,ha,dT,ZA,kn,Rf0⟩
   ·clear kn ha dT bF l1 l2 l3 l7 l8;clear ns fo;rintro m2 e2 H3 ⟨i,fo,ns,fz,hi,ha,dT,bF,kn,l1,l2,l3,l7,l8,l9,l10⟩;refine Q1 (Qa ?_);simp only[go_sem,l1,l2,l3,l7,l8,l9,l10,Qc];try intro _
    refine Wt ?_ ?_
    ·intro aC;have aP:i<pr.length:=ZG;obtain⟨p,rz,fy⟩:=kU i aP;have hpd:p<(Ee n g b).length:=(by rw[GV];exact fy);have wy:f<(Ee n g b).length:=(by rw[GV];exact af);refine Zc ?_
     refine CN (λe2 H2=>∃(fo:Bool) (ns:List Int),ns.Pairwise (· < ·)/\(∀x∈ns,0<=x/\x<n)/\ns.length<=f * 200+(i+1)/\Kn H H2 [] []/\
      lk 1 e2=.c (.sl flo 1 (Dl n g n))/\lk 2 e2=Uv b/\lk 3 e2=.c (.pp [Ui q.params,Ui q.ae,.sl fl 5 (Qo q.blocks)])/\lk 7 e2=.c (.sl fo 1 (Qb ns))/\lk 8 e2=Uv f/\lk 9 e2=.c (.sl false 1 (Qb pr))/\lk 10 e2=Uv i) ?_ ?_
     ·intro Q bS _ _;refine Qe (Cv ?_);simp only[go_sem,hb,Iq,Q6n hb,aP,Qc,Qk _ _ aP,rz,fy,af,GV,Q4,Q7 _ _ hpd,Q7 _ _ wy];refine Wu ?_ ?_
      ·intro _;refine Zh ?_;refine Pi ha ZA λfl2 ns2 H4 hu nB gy kY=>?_;have kn:=kn.au hu;simp only[go_sem,Qm9];refine bS _ _ ⟨fl2,ns2,nB,λx hx=>?_,ZA,kn,Rf0⟩;rcases (gy x).1 hx with rfl|hx
       ·omega
       ·exact dT x hx
      ·intro _;refine Zc ?_
       exact bS _ _ ⟨fo,ns,ha,dT,ZA,kn,Rf0⟩
     ·rintro e3 H4 ⟨fo,ns,ha,dT,bF,kn,l1,l2,l3,l7,l8,l9,l10⟩;refine Qt ?_;simp only[go_sem,l1,l2,l3,l7,l8,l9,l10];refine⟨Qv,?_⟩;show ∃m,_;exact⟨pr.length-(i+1),ZA,i+1,fo,ns,rfl,ZA,ha,dT,bF,kn,Rf0⟩
    ·intro aC;refine Zb ?_;refine Zh ?_;refine⟨Qv,?_⟩;show ∃m,_;exact⟨n-(f+1),ZA,f+1,fo,ns,rfl,ZA,ha,dT,ZA,kn,Rf0⟩
  ·intro hc;refine Wb ?_;refine Zd ?_;have h0:∀x∈ns,0<=x:=λx hx=>(dT x hx).1;rw[Q6i h0];refine⟨_,.c _ _ (FrzR.same (Ff _)).sl,hK false _ _ kn.fin (IY h0 ha) λx hx=>?_⟩;obtain⟨v,hv,rfl⟩:=Jq.1 hx;have:=dT v hv;omega
theorem Qaar {flo fll:Bool}{ls:List Nat}(ho:q.ok)(hls:ls.length<=1000000)
  (hK:∀(fs:List Nat) H',Upd H H' []->fs.Pairwise (· < ·)->(∀x∈fs,x<q.blocks.length)->K (.c (.sl false 1 (Cs fs))) H') :
  Qu prog Qo3 [.ag [Ui q.params,Ui q.ae,.sl fl 5 (Qo q.blocks)],.c (.sl flo 1 (Dl q.blocks.length (nxN (gnx q)) q.blocks.length)),.c (.sl fll 1 (Cs ls))] H K:=by
 have bm:=ho.b1;obtain⟨n,hn⟩:∃n,q.blocks.length=n:=⟨_,rfl⟩;obtain⟨OV,wC⟩:∃OV,Dl q.blocks.length (nxN (gnx q)) q.blocks.length=OV:=⟨_,rfl⟩;have A8:OV.length=n:=by rw[<-wC,Iq,hn]
 rw[hn]at bm hK;rw[wC];refine Q0 ?_;refine Qd Co Qaa3 ?_;refine Wd ?_;refine Za ?_;refine⟨.inl trivial,Ff _,by rw[Q6];simp only[LIM];omega,λy0 sM H1 h1=>?_⟩;have kn:Kn H H1 [] ([]++[(y0,.vec 1 (Cs ls))]):=(Kn.an H).al sM h1;obtain⟨wc0,xo⟩:∃wc0,C.ah y0 1 0 (0+(Cs ls).length)=wc0:=⟨_,rfl⟩;have yk:Gq [(y0,.vec 1 (Cs ls))] ls wc0:=by rw[<-xo];exact Gr.gq (.mk _ _ _ ZA)
 have sP:=yk.ai;rw[xo];simp only[go_sem,Qk5];refine Qh (Qe (Qy (λm e1 H1=>∃(O:List Int) (W:List Nat) (fo:Bool) (wc:C) (Lg:Ul),m=W.length+2 * (n-O.length)/\W.length+2 * (n-O.length)<=ls.length+2 * n/\O.Pairwise (· < ·)/\(∀x∈O,0<=x/\x<n)/\Gq Lg W wc/\Kn H H1 [] ([]++Lg)/\
  lk 1 e1=.c (.sl flo 1 OV)/\lk 3 e1=.c (.pp [Ui q.params,Ui q.ae,.sl fl 5 (Qo q.blocks)])/\lk 7 e1=.c (.sl fo 1 (Qb O))/\lk 8 e1=.c wc) (ls.length+2 * n) ?_ ?_))
 ·exact⟨[],ls,true,wc0,[(y0,.vec 1 (Cs ls))],ZC,ZC,ZC,ZC,yk,kn,Rf0⟩
 ·clear kn yk sP xo h1 sM;rintro m e1 H2 ⟨O,W,fo,wc,Lg,hm,sE,ha,hO,hq,kn,l1,l3,l7,l8⟩;have yg:=hq.ai;obtain⟨kT,Bg⟩:=hq.get kn;have kT:=eq_true kT;have rq:=hq.ay;have ui:=hq.aQ;refine Q1 (Qa ?_);simp only[go_sem,l1,l3,l7,l8,kT,rq];try intro _
  refine Wt ?_ ?_
  ·intro aC;obtain⟨b,W,rfl⟩:∃b W',W=b::W':=by
    cases W with
    |nil=>simp at aC
    |cons b W=>exact⟨b,W,rfl⟩
   have bI:(Cs (b::W)).getD 0 []=[Ui (b:Int)]:=rfl;obtain⟨wc2,uc,mB⟩:∃wc2,sliC (some 1) none wc=wc2/\Gq Lg W wc2:=by
    refine⟨_,rfl,?_⟩;rcases hq with ⟨_,h,_⟩|⟨z,st,R,rfl,rfl,h3,h4⟩
    ·simp at h
    ·refine .inr ⟨z,st+1,R,?_,rfl,?_,by simp at h4;omega⟩
     ·simp[sliC]
     ·have:=congrArg (List.drop 1) h3;rw[<-List.drop_drop,List.drop_take]at *;simp only[Jl,Nat.add_sub_cancel]at this;rw[this];rfl
   refine Zc ?_
   refine Qe (Qa ?_);simp only[go_sem,kT,Bg,ui,rq,bI,Nat.succ_pos,Jl]
   first|refine⟨ZA,?_⟩|skip
   refine Qa ?_;simp only[go_sem,kT,ui,rq,uc,Jl];refine⟨⟨ZA,ZA,ZA⟩,?_⟩;have yf:=mB.ai;simp only[Jl]at sE hm;refine Q1 (Qa ?_);simp only[go_sem,A8];try intro _
   refine⟨Qv,?_⟩;refine Dq ?_;simp only[go_sem,Qk6];refine Wt ?_ ?_
   ·intro _;refine Qw ?_;show ∃m,_;exact⟨W.length+2 * (n-O.length),ZA,O,W,fo,wc2,Lg,rfl,ZA,ha,hO,mB,kn,Rf0⟩
   ·intro bv;have cB:b<n:=by
     have:=CS bv;have:=of_decide_eq_true this;omega
    refine Zc ?_
    refine Za ?_;rw[<-wC];refine Qaeq ho (by rw[hn];exact cB) λflf fs H3 hu lP ib=>?_;rw[wC];rw[hn]at ib;have kn:=kn.au hu;have je:=OS lP ib;simp only[go_sem,Qk7];refine Za ?_;refine Qe (Qy (λm2 e1 H1=>∃(i:Nat) (O2:List Int) (W:List Nat) (fo:Bool) (wc:C) (Lg:Ul),m2=fs.length-i/\i<=fs.length/\W.length+2 * (n-O2.length)<m/\O2.Pairwise (· < ·)/\(∀x∈O2,0<=x/\x<n)/\Gq Lg W wc/\Kn H H1 [] ([]++Lg)/\
     lk 1 e1=.c (.sl flo 1 OV)/\lk 3 e1=.c (.pp [Ui q.params,Ui q.ae,.sl fl 5 (Qo q.blocks)])/\lk 7 e1=.c (.sl fo 1 (Qb O2))/\lk 8 e1=.c wc/\lk 10 e1=.c (.sl flf 1 (Cs fs))/\lk 11 e1=Uv i) fs.length ?_ ?_)
    ·exact⟨0,O,W,fo,wc2,Lg,ZA,ZA,ZA,ha,hO,mB,kn,Rf0⟩
    ·clear kn mB yf kT Bg rq ui yg hq uc ha hO l1 l3 l7 l8;have iW:m<=ls.length+2 * n:=ZA;clear hm sE;rintro m2 e2 H4 ⟨i,O,W,fo,wc,Lg,fz,hi,sE,ha,hO,hq,kn,l1,l3,l7,l8,l10,l11⟩;have yg:=hq.ai;refine Q1 (Qa ?_);simp only[go_sem,l1,l3,l7,l8,l10,l11,Q6];try intro _
     refine Wt ?_ ?_
     ·intro dz;have af:i<fs.length:=(by simpa using dz);obtain⟨f,hf⟩:∃f,fs[i]=f:=⟨_,rfl⟩;have oX:fs.getD i 0=f:=(by simp[Jd,af,hf]);have hfn2:f<n:=(by rw[<-hf];exact ib _ (Jb af));have hO0:∀x∈O,0<=x:=λx hx=>(hO x hx).1;have hOl:O.length<=n:=by
       have:=OS (n:=n) (IY hO0 ha) λx hx=>by
        obtain⟨v,hv,rfl⟩:=Jq.1 hx;have:=hO v hv;omega
       simpa using this
      refine Zc ?_
      refine CN (λe1 H1=>∃(O:List Int) (W:List Nat) (fo:Bool) (wc:C) (Lg:Ul),W.length+2 * (n-O.length)<m/\O.Pairwise (· < ·)/\(∀x∈O,0<=x/\x<n)/\Gq Lg W wc/\Kn H H1 [] ([]++Lg)/\
       lk 1 e1=.c (.sl flo 1 OV)/\lk 3 e1=.c (.pp [Ui q.params,Ui q.ae,.sl fl 5 (Qo q.blocks)])/\lk 7 e1=.c (.sl fo 1 (Qb O))/\lk 8 e1=.c wc/\lk 10 e1=.c (.sl flf 1 (Cs fs))/\lk 11 e1=Uv i) ?_ ?_
      ·intro Q bS _ _;refine Qe (Qa ?_);simp only[go_sem,af,Q6,D5 _ _ af,oX];refine OR (ns:=O) (.mk' _ _ _ _) rfl λr hr=>?_;simp only[go_sem,Qk8];refine Wu ?_ ?_
       ·intro fw;have oL:r<0:=ZaI;have rF:(f:Int)∉O:=by
         rcases hr with ⟨_,h⟩|⟨i,rfl,_⟩
         ·exact h
         ·omega
        refine Qa ?_;simp only[go_sem,af,Q6,D5 _ _ af,oX];refine Pi ha ZA λfl2 O2 H5 hu nB gy kY=>?_;have kn:=kn.au hu;have hO2l:O2.length=O.length+1:=by
         have h1:((f:Int)::O).Nodup:=Jag.2 ⟨rF,ha.imp λh=>ZA⟩;have h2:((f:Int)::O) ⊆ O2:=λx hx=>by
          rw[gy];rcases Jy.1 hx with h|h
          ·exact .inl h
          ·exact .inr h
         have:=Jak h1 h2;simp only[Jl]at this;omega
        have A9:∀x∈O2,0<=x/\x<n:=λx hx=>by
         rcases (gy x).1 hx with rfl|hx
         ·omega
         ·exact hO x hx
        have hO2n:O2.length<=n:=by
         have:=OS (n:=n) (IY (λx hx=>(A9 x hx).1) nB) λx hx=>by
          obtain⟨v,hv,rfl⟩:=Jq.1 hx;have:=A9 v hv;omega
         simpa using this
        simp only[go_sem,Qk9];refine Qt ?_;simp only[go_sem,af,Q6,D5 _ _ af,oX];refine Kn.growQ kn (new:=[f]) hq (.mk' _ _ _ _) (by simp only[LIM,Jl,Jm];omega) λwc2 Lg2 H6 mB ot kn=>?_;simp only[go_sem,Qla];refine bS _ _ ⟨O2,W++[f],fl2,wc2,Lg2,by simp only[Jaq,Jl,Jm];omega,nB,A9,mB,kn,Rf0⟩
       ·intro _;refine Zc ?_
        exact bS _ _ ⟨O,W,fo,wc,Lg,sE,ha,hO,hq,kn,Rf0⟩
      ·rintro e3 H5 ⟨O,W,fo,wc,Lg,sE,ha,hO,hq,kn,l1,l3,l7,l8,l10,l11⟩;have yg:=hq.ai;refine Qt ?_;simp only[go_sem,l1,l3,l7,l8,l10,l11];refine⟨Qv,?_⟩;show ∃m,_;exact⟨fs.length-(i+1),ZA,i+1,O,W,fo,wc,Lg,rfl,ZA,sE,ha,hO,hq,kn,Rf0⟩
     ·intro _;refine Qw ?_;show ∃m,_;exact⟨_,sE,O,W,fo,wc,Lg,rfl,ZA,ha,hO,hq,kn,Rf0⟩
  ·intro _;refine Wb ?_;refine Zd ?_;have h0:∀x∈O,0<=x:=λx hx=>(hO x hx).1;rw[Q6i h0];refine⟨_,.c _ _ (FrzR.same (Ff _)).sl,hK _ _ kn.fin (IY h0 ha) λx hx=>?_⟩;obtain⟨v,hv,rfl⟩:=Jq.1 hx;have:=hO v hv;omega
end Y
namespace Y
attribute [local go_sem] cond_true cond_false Bool.not_true Bool.not_false
open Go.Proofs.Tryz
variable{q:CodeD}
theorem OBlks.frzD {os:List OBlk}(aq:∀b∈os,b.ok)(h:Held H S (os.flatMap OBlk.lg)):FrzR H S (os.map OBlk.row) (Qo (os.map OBlk.d)):=by
 rw[Qo,Jay];exact Fc os λx hx=>x.frzD (aq x hx) (h.m hx)
theorem Xv {r:Nat}{p:Plc}(h:p∈Ej q r):∃b:Nat,p.1=(b:Int)/\b<q.blocks.length:=by
 simp only[Ej,DO,Jt,Jad]at h;obtain⟨b,hb,h⟩:=h;refine⟨b,?_,hb⟩;simp only[blS,phS,inS,Jn,Jq]at h;rcases h with ⟨_,_,rfl⟩|⟨_,_,rfl⟩ <;> rfl
theorem Nj:(Es q).length=q.ae.toNat:=by simp[Es]
theorem Qanq {r:Nat}(h:r<q.ae.toNat):(Es q).getD r []=[.sl false 1 (Dx (Ej q r))]:=by simp[Es,Jd,h]
structure PhS (q:CodeD)(k:Nat->Nat)(os:List OBlk):Prop where
 n:os.length=q.blocks.length
 ok:∀b∈os,b.ok
 d:∀j (h:j<os.length) (h':j<q.blocks.length),os[j].d.ins=q.blocks[j].ins/\os[j].jump=q.blocks[j].jump/\os[j].on=q.blocks[j].on/\os[j].nx.ns=q.blocks[j].next
 p:∀j (h:j<os.length),∀p∈os[j].ab,rIn q p.to/\(∀v∈p.ns,rIn q v)/\p.ns.length=(Qs (gnx q) (j:Int) q.blocks.length).length
 l:∀j (h:j<os.length) (h':j<q.blocks.length),os[j].ab.length<=q.blocks[j].ab.length+k j
variable{k k':Nat->Nat}
theorem PhS.up (h:PhS q k os)(hk:∀j,k j<=k' j):PhS q k' os:=⟨h.n,h.ok,h.d,h.p,λj h1 h2=>by have:=h.l j h1 h2;have:=hk j;omega⟩
theorem Qa0m (ho:q.ok){o:OCode}(aq:o.ok)(hd:o.d=q):PhS q (λ_=>0) o.blocks:=by
 have hb:o.blocks.map OBlk.d=q.blocks:=Zaw
 have hl:o.blocks.length=q.blocks.length:=by rw[<-hb,Jc]
 have hg:∀j (h:j<o.blocks.length) (h':j<q.blocks.length),o.blocks[j].d=q.blocks[j]:=λj h h'=>by
  have h1:(o.blocks.map OBlk.d)[j]? = some o.blocks[j].d:=Zbd
  rw[hb,Jh h']at h1;exact (J5 h1).symm
 refine⟨hl,aq.bs,λj h h'=>by rw[<-hg j h h'];exact⟨rfl,rfl,rfl,rfl⟩,λj h p hp=>?_,λj h h'=>?_⟩
 ·have h':j<q.blocks.length:=ZA
  have o1:=ho.bs j h';rw[<-hg j h h']at o1;have hm:p.d∈o.blocks[j].d.ab:=Jq.2 ⟨p,hp,rfl⟩;exact⟨o1.pto _ hm,o1.pargs _ hm,o1.pal _ hm⟩
 ·rw[<-hg j h h'];simp[OBlk.d]
theorem PhS.step {b:Nat}(h:PhS q k os)(hb:b<os.length){o:OBlk}(bf:os[b]=o){p:OPhi}{pc:C}{pl:Ul}(hp:p.ok)(hg:Gr pl 2 ((p::o.ab).map OPhi.row) pc)
  (h1:rIn q p.to) (h2:∀v∈p.ns,rIn q v) (h3:p.ns.length=(Qs (gnx q) (b:Int) q.blocks.length).length) (hk:∀j,k' j=if j=b then k j+1 else k j) :
  PhS q k' (os.set b ⟨p::o.ab,pc,pl,o.ins,o.ic,o.il,o.jump,o.on,o.nx⟩):=by
 subst bf;have aq:=h.ok _ (Jb hb);refine⟨by rw[Jk];exact h.n,λw hw=>?_,λj hj bE=>?_,λj hj x hx=>?_,λj hj bE=>?_⟩
 ·rcases Ju hw with hw|rfl
  ·exact h.ok w hw
  ·refine⟨hg,aq.i,λx hx=>?_⟩;rcases Jy.1 hx with rfl|hx
   ·exact hp
   ·exact aq.a x hx
 ·have dU:j<os.length:=ZS
  have hd:=h.d j dU bE;rw[J6];split
  ·rename_i e;subst e;exact hd
  ·exact hd
 ·have dU:j<os.length:=ZS
  rw[J6]at hx;split at hx
  ·rename_i e;subst e
   rcases Jy.1 hx with rfl|hx
   ·exact⟨h1,h2,h3⟩
   ·exact h.p _ dU x hx
  ·exact h.p j dU x hx
 ·have dU:j<os.length:=ZS
  have hl:=h.l j dU bE;rw[J6,hk];split
  ·rename_i e;subst e;rw[if_pos rfl];show (p::os[b].ab).length<=_;simp only[Jl];omega
  ·rename_i e;rw[if_neg (λh=>e h.symm)];exact hl
theorem PhS.fin (ho:q.ok)(h:PhS q k os)(hk:∀j (hj:j<q.blocks.length),q.blocks[j].ab.length+k j<=1200):(CodeD.mk q.params q.ae (os.map OBlk.d)).ok:=by
 obtain⟨d,hd⟩:∃d:CodeD,d=⟨q.params,q.ae,os.map OBlk.d⟩:=⟨_,rfl⟩;rw[<-hd];have hl:d.blocks.length=q.blocks.length:=by rw[hd];simpa using h.n
 have bC:∀j (h1:j<d.blocks.length) (h2:j<os.length),d.blocks[j]=os[j].d:=λj h1 h2=>by subst hd;simp
 have gu:d.blocks.map BlkD.next=q.blocks.map BlkD.next:=Jae Za3 λj h1 h2=>by
  simp only[Jc]at h1 h2;have h3:j<os.length:=Zbh
  simp only[Js,bC j h1 h3];exact (h.d j h3 h2).2.2.2
 have hg:gnx d=gnx q:=by funext i;rw[gnx,gnx,gu]
 have hr:∀v,rIn q v->rIn d v:=λv hv=>by simp only[rIn,hd]at hv⊢;exact hv
 have jq:d.ae=q.ae:=by rw[hd]
 refine⟨by rw[jq];exact ho.r0,by rw[jq];exact ho.r1,by rw[hl];exact ho.b0,by rw[hl];exact ho.b1,λb hb=>?_,λb hb=>?_⟩
 ·have h2:b<q.blocks.length:=ZA
  have h3:b<os.length:=Zbh
  have o:=ho.bs b h2;obtain⟨e1,e2,e3,e4⟩:=h.d b h3 h2;have hp:=h.p b h3;rw[bC b hb h3];have fb:∀p∈os[b].d.ab,rIn q p.to/\(∀v∈p.args,rIn q v)/\p.args.length=(Qs (gnx q) (b:Int) q.blocks.length).length:=λp bV=>by
   obtain⟨x,hx,rfl⟩:=Jq.1 bV;exact hp x hx
  refine⟨by show os[b].nx.ns.length<=2;rw[e4];exact o.nxl,λv hv=>by rw[hl];exact o.nx v (by rw[<-e4];exact hv),by show os[b].jump=1\/os[b].jump=2\/os[b].jump=3;rw[e2];exact o.jmp,λhj=>?_,
   λx hx v hv=>hr _ (o.args x Zbi v hv),λx hx hm=>hr _ (o.to x Zbi hm),λp hp=>hr _ (fb p hp).1,λp hp v hv=>hr _ ((fb p hp).2.1 v hv),λp hp=>by rw[hg,hl];exact (fb p hp).2.2,
   λx hx=>o.al x Zbi⟩
  show rIn d os[b].on;rw[e3];exact hr _ (o.on (by rw[<-e2];exact hj))
 ·have h2:b<q.blocks.length:=ZA
  have h3:b<os.length:=Zbh
  have o:=ho.il b h2;have e1:=(h.d b h3 h2).1;have:=h.l b h3 h2;have:=hk b h2;rw[bC b hb h3,e1];refine⟨o.1,?_⟩;simp only[OBlk.d,Jc];omega
theorem Lq {l:List Nat}(h:l.Nodup)(hi:i<l.length):l[i]∉l.take i:=λhh=>by
 obtain⟨j,hj,he⟩:=Jr.1 hh;rw[Jau]at hj;rw[Ja7]at he;have cR:j<l.length:=ZA
 have:=(List.getElem?_inj cR h (j:=i)).1 (by rw[Jh cR,Jh hi,he]);omega
def OBlk.rst (o:OBlk):List (Nat×Obj):=o.nx.lg++(o.ab.flatMap OPhi.lg++(o.ins.flatMap OIns.lg++o.il))
theorem OBlk.lg_perm (o:OBlk):o.lg.Perm (o.rst++o.pl):=Qi λf hf h0 hc hp=>by simp only[Ui,hf,OBlk.lg,OBlk.rst];omega
theorem YL (ho:q.ok)(fb:∀y∈q.blocks,y.ab.length<=900)(hK:∀(d:CodeD) H',d.ok->d.params=q.params->d.ae=q.ae->Upd H H' []->K (.ag d.cells) H') :
  Qu prog NO [.ag [Ui q.params,Ui q.ae,.sl false 5 (Qo q.blocks)]] H K:=by
 have bI:=ho.r0;have cN:=ho.r1;have eB:=ho.b0;have bm:=ho.b1;obtain⟨n,hn⟩:∃n,q.blocks.length=n:=⟨_,rfl⟩;obtain⟨R,hR⟩:∃R:Nat,q.ae.toNat=R:=⟨_,rfl⟩;have vF:q.ae=(R:Int):=ZA
 have hgf:=Hx ho.gd;refine Q0 ?_;refine Qd Co Y6 ?_;refine Za ?_;intro x2 aL H1 h1;have kn:=(Kn.an H).al aL h1;refine Za ?_;refine Rl ho.sg λo H2 k2 aq gU _=>?_;have kn:=kn.comp0 k2;have gm:o.params=q.params:=Zbl
 have rp:o.ae=q.ae:=Zbl
 have eJ:o.blocks.length=n:=by rw[<-hn,<-gU];simp[OCode.d]
 obtain⟨zb,dV,bj⟩:∃z,o.bc=.ah z 5 0 n/\o.bl=[(z,.vec 5 (o.blocks.map OBlk.row))]:=by
  rcases aq.b with ⟨_,h,_⟩|⟨y,h1,h2⟩
  ·have:=congrArg List.length h;simp only[Jc,Jm]at this;omega
  ·exact⟨y,by rw[h1,Jc,eJ],h2⟩
 have aD:o.row=[Ui q.params,Ui q.ae,.ah zb 5 0 n]:=by rw[OCode.row,gm,rp,dV]
 have hP:=Qa0m ho aq gU;have wt:o.lg=o.blocks.flatMap OBlk.lg++[(zb,.vec 5 (o.blocks.map OBlk.row))]:=by rw[OCode.lg,bj]
 rw[wt]at kn;rw[aD];generalize o.blocks=os0 at *;clear aq gU gm rp aD wt dV bj k2;simp only[go_sem,Q2e];intro x3 aO H3 h3;have kn:=(kn.al aO h3).perm Jal;have aO:=kn.l 0 rfl;simp only[go_sem,Q2d,aO];intro H4 h4;have kn:Kn H H4 [] ([(x3,.st [Ui q.params,Ui q.ae,.ah zb 5 0 n])]++([(x2,.st [Ui 0,Ui 0,.sl true 5 []])]++(os0.flatMap OBlk.lg++[(zb,.vec 5 (os0.map OBlk.row))]))):=kn.az 0 rfl h4;refine Za ?_;refine MD (rows:=Qo q.blocks) (nx:=gnx q) hgf (by rw[Qn];exact ho.fitB) λH5 hu=>?_;have kn:=kn.au hu;rw[Qn];simp only[go_sem,Pt];refine Za ?_;refine MC ho (.sl _ _ _ _) λzi zo H6 hu cY=>?_;have kn:=kn.au hu;simp only[go_sem,Q2g];intro x5 bt H7 h7;have kn:=(kn.al bt h7).perm Jal;have bt:=kn.l 0 rfl;simp only[go_sem,Q2f,bt];intro H8 h8;have kn:Kn H H8 [] (([(x3,.st [Ui q.params,Ui q.ae,.ah zb 5 0 n]),(x2,.st [Ui 0,Ui 0,.sl true 5 []]),(x5,.st [.sl false 1 (E6 zi),.sl false 1 (E6 zo)])]++[(zb,.vec 5 (os0.map OBlk.row))])++os0.flatMap OBlk.lg):=
  (kn.az 0 rfl h8).perm (Qi λf hf h0 hc hp=>by
   have e3:∀(a b c:Nat×Obj),f [a,b,c]=f [a]+f [b]+f [c]:=λa b c=>ZP
   show f ([(x5,_)]++_)=_;simp only[Ui,hf,e3];omega)
 obtain⟨XL,hX⟩:∃XL,[(x3,Obj.st [Ui q.params,Ui q.ae,.ah zb 5 0 n]),(x2,.st [Ui 0,Ui 0,.sl true 5 []]),(x5,.st [.sl false 1 (E6 zi),.sl false 1 (E6 zo)])]=XL:=⟨_,rfl⟩;rw[hX]at kn;have gX:∀{H1:Heap} {A:Ul},Kn H H1 [] (XL++A)->H1 x3=.st [Ui q.params,Ui q.ae,.ah zb 5 0 n]/\H1 x5=.st [.sl false 1 (E6 zi),.sl false 1 (E6 zo)]:=λ{H1 A} k=>by
  rw[<-hX]at k;exact⟨k.l 0 rfl,k.l 2 rfl⟩
 clear aO bt h8 h4 h1 aL;refine Za ?_;refine YK ho λH9 hu=>?_;have kn:=kn.au hu;simp only[go_sem,Q2h];refine Wa ?_;refine⟨Qv,?_⟩;have nD:PhS q (λ_=>0) os0:=hP;refine Qh (Qe (Qy (λm e1 H1=>∃(r:Nat) (os:List OBlk),m=r/\r<=R/\PhS q (λ_=>R-r) os/\Kn H H1 [] ((XL++[(zb,.vec 5 (os.map OBlk.row))])++os.flatMap OBlk.lg)/\
  lk 1 e1=.c (.pp [Ui q.params,Ui q.ae,.sl false 5 (Qo q.blocks)])/\lk 2 e1=Up x2/\lk 3 e1=Up x3/\lk 4 e1=.c (.sl false 1 (Dl q.blocks.length (nxN (gnx q)) q.blocks.length))/\lk 5 e1=Up x5/\lk 6 e1=.c (.sl false 1 (Es q))/\lk 7 e1=Uv ((r:Int)-1)) R ?_ ?_))
 ·exact⟨R,os0,rfl,ZA,nD.up λj=>ZC,kn,rfl,rfl,rfl,rfl,rfl,rfl,by simp only[lk,vF];rfl⟩
 ·clear kn nD hP;rintro m e1 H10 ⟨r,os,rfl,Bf,hS,kn,l1,l2,l3,l4,l5,l6,l7⟩;refine Q1 (Qa ?_);simp only[go_sem,l1,l2,l3,l4,l5,l6,l7];refine Wt ?_ ?_
  ·intro hc;have bp:(0:Int)<=(m:Int)-1:=ZD
   obtain⟨r,rfl⟩:∃r,m=r+1:=⟨m-1,ZA⟩;have er:((r+1:Nat):Int)-1=(r:Int):=ZA
   rw[er];have hrlt:r<R:=ZA
   have o7:r<q.ae.toNat:=ZA
   refine Zc ?_
   refine We ?_;refine Wa ?_;refine CN (λe2 H2=>∃(fo:Bool) (ns:List Int),H2=H10/\ns.Pairwise (· < ·)/\(∀x∈ns,0<=x/\x<n)/\
    lk 1 e2=.c (.pp [Ui q.params,Ui q.ae,.sl false 5 (Qo q.blocks)])/\lk 2 e2=Up x2/\lk 3 e2=Up x3/\lk 4 e2=.c (.sl false 1 (Dl q.blocks.length (nxN (gnx q)) q.blocks.length))/\lk 5 e2=Up x5/\lk 6 e2=.c (.sl false 1 (Es q))/\lk 7 e2=Uv r/\lk 8 e2=.c (.sl fo 1 (Qb ns))) ?_ ?_
   ·intro Q bS _ _;refine Wu ?_ ?_
    ·intro _;refine Zh ?_;refine bS _ _ ⟨true,[0],rfl,ZC,?_,Rf0⟩;intro x hx;simp only[Ja]at hx;subst hx;omega
    ·intro _;refine Zc ?_
     exact bS _ _ ⟨true,[],rfl,ZC,ZC,Rf0⟩
   rintro e2 H2 ⟨fo,ns,rfl,ha,dT,l1,l2,l3,l4,l5,l6,l7,l8⟩;refine Q1 (Qa ?_);simp only[go_sem,l1,l2,l3,l4,l5,l6,l7,l8];have iu:∀i (h:i<(Ej q r).length),∃b:Nat,(Ej q r)[i].1=(b:Int)/\b<n:=λi h=>by rw[<-hn];exact Xv (Jb h)
   obtain⟨sl,dd⟩:∃sl,Ej q r=sl:=⟨_,rfl⟩;have jF:=Qanq o7;rw[dd]at jF iu;refine Qh (Qe (Qy (λm2 e1 H1=>∃(i:Nat) (fo:Bool) (ns:List Int),m2=sl.length-i/\i<=sl.length/\ns.Pairwise (· < ·)/\(∀x∈ns,0<=x/\x<n)/\Kn H H1 [] ((XL++[(zb,.vec 5 (os.map OBlk.row))])++os.flatMap OBlk.lg)/\
    lk 1 e1=.c (.pp [Ui q.params,Ui q.ae,.sl false 5 (Qo q.blocks)])/\lk 2 e1=Up x2/\lk 3 e1=Up x3/\lk 4 e1=.c (.sl false 1 (Dl q.blocks.length (nxN (gnx q)) q.blocks.length))/\lk 5 e1=Up x5/\lk 6 e1=.c (.sl false 1 (Es q))/\lk 7 e1=Uv r/\lk 8 e1=.c (.sl fo 1 (Qb ns))/\lk 9 e1=Uv i) sl.length ?_ ?_))
   ·exact⟨0,fo,ns,ZA,ZA,ha,dT,kn,Rf0⟩
   ·clear kn ha dT l1 l2 l3 l4 l5 l6 l7 l8;rintro m2 e3 H11 ⟨i,fo,ns,fz,hi,ha,dT,kn,l1,l2,l3,l4,l5,l6,l7,l8,l9⟩;have rC:∀x∈ns,0<=x:=λx hx=>(dT x hx).1;have oI:ns.length<=n:=by
     have:=OS (n:=n) (IY rC ha) λx hx=>by
      obtain⟨v,hv,rfl⟩:=Jq.1 hx;have:=dT v hv;omega
     simpa using this
    refine Q1 (Qa ?_);simp only[go_sem,l1,l2,l3,l4,l5,l6,l7,l8,l9,o7,Nj,jF,OY];intro ev;simp only[LIM]at ev;refine Wt ?_ ?_
    ·intro aC;have af:i<sl.length:=ZG;obtain⟨b,hb,cB⟩:=iu i af;refine Zc ?_
     refine Ws ?_;simp only[go_sem,o7,Nj,jF,OY,af,Qarh _ _ af,pRow,hb,J3,Jbb];try simp only[go_sem,J3,Jbb,Jl,Jm]
     refine⟨Jat 0,?_⟩;refine Pi ha ZA λfl2 ns2 H12 hu nB gy kY=>?_;have kn:=kn.au hu;simp only[go_sem,PD];refine Zh ?_;refine⟨Qv,?_⟩;show ∃m,_;refine⟨sl.length-(i+1),ZA,i+1,fl2,ns2,rfl,ZA,nB,λx hx=>?_,kn,rfl,rfl,rfl,rfl,rfl,rfl,rfl,rfl,ZB⟩;rcases (gy x).1 hx with rfl|hx
     ·omega
     ·exact dT x hx
    ·intro _;refine Wb ?_;rw[Q6i rC];refine Qaar ho (by rw[Jc];omega) λfs H12 hu lP ib=>?_;have kn:=kn.au hu;have je:=OS lP ib;rw[hn]at je ib;simp only[go_sem,Qyq];refine Za ?_;refine Qe (Qy (λm2 e1 H1=>∃(i:Nat) (os:List OBlk),m2=fs.length-i/\i<=fs.length/\PhS q (λj=>R-(r+1)+if j∈fs.take i then 1 else 0) os/\Kn H H1 [] ((XL++[(zb,.vec 5 (os.map OBlk.row))])++os.flatMap OBlk.lg)/\
      lk 1 e1=.c (.pp [Ui q.params,Ui q.ae,.sl false 5 (Qo q.blocks)])/\lk 2 e1=Up x2/\lk 3 e1=Up x3/\lk 4 e1=.c (.sl false 1 (Dl q.blocks.length (nxN (gnx q)) q.blocks.length))/\lk 5 e1=Up x5/\lk 6 e1=.c (.sl false 1 (Es q))/\lk 7 e1=Uv r/\
      lk 10 e1=.c (.sl false 1 (Cs fs))/\lk 11 e1=Uv i) fs.length ?_ ?_)
     ·exact⟨0,os,ZA,ZA,hS.up λj=>ZC,kn,Rf0⟩
     ·have zN:fs.Nodup:=lP.imp λh=>ZA;clear kn hS lP ha dT rC oI l1 l2 l3 l4 l5 l6 l7 l8 l9;rintro m3 e4 H13 ⟨i,os,uH,hi,hS,kn,l1,l2,l3,l4,l5,l6,l7,l10,l11⟩;refine Q1 (Qa ?_);simp only[go_sem,l1,l2,l3,l4,l5,l6,l7,l10,l11,Q6];try intro _
      refine Wt ?_ ?_
      ·intro aC;have af:i<fs.length:=ZG;obtain⟨b,hb⟩:∃b,fs[i]=b:=⟨_,rfl⟩;have oX:fs.getD i 0=b:=(by simp[Jd,af,hb]);have cB:b<n:=(by rw[<-hb];exact ib _ (Jb af));have rE:b∉fs.take i:=(by rw[<-hb];exact Lq zN af);have bQ:∀j,j∈fs.take (i+1)↔j∈fs.take i\/j=b:=λj=>by
        rw[Jp af,hb];simp
       have oZ:b<zi.length:=(by rw[cY.1.i,hn];exact cB);obtain⟨nd,df⟩:∃nd,zi[b].2=nd:=⟨_,rfl⟩;have rH:r<nd.length:=(by rw[<-df,cY.1.li _ (Jb oZ)];exact o7);have bt:=(gX (by rw[Ja6]at kn;exact kn)).2;refine Zc ?_
       refine CN (λe2 H2=>∃(os:List OBlk),PhS q (λj=>R-(r+1)+if j∈fs.take (i+1)then 1 else 0) os/\Kn H H2 [] ((XL++[(zb,.vec 5 (os.map OBlk.row))])++os.flatMap OBlk.lg)/\
        lk 1 e2=.c (.pp [Ui q.params,Ui q.ae,.sl false 5 (Qo q.blocks)])/\lk 2 e2=Up x2/\lk 3 e2=Up x3/\lk 4 e2=.c (.sl false 1 (Dl q.blocks.length (nxN (gnx q)) q.blocks.length))/\lk 5 e2=Up x5/\lk 6 e2=.c (.sl false 1 (Es q))/\lk 7 e2=Uv r/\
        lk 10 e2=.c (.sl false 1 (Cs fs))/\lk 11 e2=Uv i) ?_ ?_
       ·intro Q bS _ _;refine Qe (Q1 ?_);refine Cv ?_;simp only[go_sem,bt,af,Q6,D5 _ _ af,oX,oZ,M1,N0 _ _ oZ,df,rH,Q4,Q7 _ _ rH];refine Wt ?_ ?_
        ·intro _;refine Qw ?_;simp only[go_sem];refine bS _ _ ⟨os,hS.up λj=>?_,kn,Rf0⟩;show _+_<=_+_;by_cases hj:j∈fs.take i
         ·rw[if_pos hj,if_pos ((bQ j).2 (.inl hj))];exact Jf _
         ·rw[if_neg hj];omega
        ·intro _;refine Zc ?_
         refine Za ?_;intro x12 fY H14 iP;have kn:=kn.al fY iP;have fY:H14 x12=.st [Ui 0,.sl true 1 []]:=(kn.get (x12,.st [Ui 0,.sl true 1 []]) ZC).1;simp only[go_sem,Qyr,fY];intro H15 vR;have kn:Kn H H15 [] (([(x12,.st [Ui r,.sl true 1 []])]++((XL++[(zb,.vec 5 (os.map OBlk.row))])++os.flatMap OBlk.lg))++[]):=by
          rw[List.append_nil];exact (kn.perm Jal).az 0 rfl vR
         refine Q1 (Cv ?_);simp only[go_sem,af,Q6,D5 _ _ af,oX];refine F6 (nx:=gnx q) (.mk' _ _ _ _) rfl (Fb H15 q false).x λH16 hu=>?_;have kn:=kn.au hu;rw[Qn];have db:=E3 (gnx q) (b:Int) q.blocks.length;obtain⟨np,mU⟩:∃np,(Qs (gnx q) (b:Int) q.blocks.length).length=np:=⟨_,rfl⟩;rw[mU]at db;simp only[go_sem,Qys,Qc,mU];try intro _
         refine Qh (Qe (Qy (λm4 e1 H1=>∃(j:Nat) (t:C) (Lg:Ul),m4=np-j/\j<=np/\Gr Lg 1 (Qb (List.replicate j (r:Int))) t/\Kn H H1 [] (([(x12,.st [Ui r,t])]++((XL++[(zb,.vec 5 (os.map OBlk.row))])++os.flatMap OBlk.lg))++Lg)/\
          lk 1 e1=.c (.pp [Ui q.params,Ui q.ae,.sl false 5 (Qo q.blocks)])/\lk 2 e1=Up x2/\lk 3 e1=Up x3/\lk 4 e1=.c (.sl false 1 (Dl q.blocks.length (nxN (gnx q)) q.blocks.length))/\lk 5 e1=Up x5/\lk 6 e1=.c (.sl false 1 (Es q))/\lk 7 e1=Uv r/\
          lk 10 e1=.c (.sl false 1 (Cs fs))/\lk 11 e1=Uv i/\lk 12 e1=Up x12/\lk 85 e1=Uv np/\lk 86 e1=Uv j) np ?_ ?_))
         ·exact⟨0,_,[],ZA,ZA,.nil 1,kn,Rf0⟩
         ·clear kn fY bt l1 l2 l3 l4 l5 l6 l7 l10 l11;rintro m4 e5 H17 ⟨j,t,Lg,hm4,hj,gI,kn,l1,l2,l3,l4,l5,l6,l7,l10,l11,l12,l85,l86⟩;have fU:=gI.ai;have fY:=kn.l 0 rfl;refine Qa ?_;simp only[go_sem,l1,l2,l3,l4,l5,l6,l7,l10,l11,l12,l85,l86];refine Wt ?_ ?_
          ·intro bv;have bR:j<np:=ZT;refine Zc ?_
           refine Ws ?_;simp only[go_sem,fY,fU];refine kn.bk (new:=Qb [(r:Int)]) gI (.mk' _ _ _ _) (Qr _) (by simp only[Qc,LIM,Jl,Jm,List.length_replicate];omega) λt2 Lg2 H18 ni cQ kn=>?_;have fY:=kn.l 0 rfl;simp only[go_sem,Qyt,fY];intro H19 h19;have kn:=kn.az 0 rfl h19;refine Zh ?_;refine⟨Qv,?_⟩;show ∃m,_;refine⟨np-(j+1),ZA,j+1,t2,Lg2,rfl,ZA,?_,kn,rfl,rfl,rfl,rfl,rfl,rfl,rfl,rfl,rfl,rfl,rfl,ZB⟩;rw[List.replicate_succ',Ec];exact ni
          ·intro bv;have nf:j=np:=(by have:np<=j:=(by simpa using bv);omega);subst nf;refine Zb ?_;have ck:b<os.length:=(by rw[hS.n,hn];exact cB);obtain⟨o,bf⟩:∃o,os[b]=o:=⟨_,rfl⟩;have jr:o.ok:=(by rw[<-bf];exact hS.ok _ (Jb ck));obtain⟨Z,hZ⟩:∃Z,(os.eraseIdx b).flatMap OBlk.lg=Z:=⟨_,rfl⟩;have fv:(os.flatMap OBlk.lg).Perm (o.lg++Z):=(by rw[<-hZ,<-bf];exact DL ck);obtain⟨RW,eH⟩:∃RW,os.map OBlk.row=RW:=⟨_,rfl⟩;have bg:RW.length=n:=(by rw[<-eH,Jc,hS.n,hn]);have ba:RW.getD b []=[o.pc,o.ic,Ui o.jump,Ui o.on,.ah o.nx.y 1 0 o.nx.ns.length]:=by
            rw[<-eH,Jd];simp only[Jx,Jh ck,bf,J0,Jz];exact o.row_eq
           have bx:RW.take n=RW:=Ji ZA;have fx:=jr.p.ai;have ki:=jr.i.ai;rw[eH]at kn;obtain⟨p,hp⟩:∃p:OPhi,p=⟨r,List.replicate j (r:Int),t,Lg⟩:=⟨_,rfl⟩;have gk:p.ok:=by
            rw[hp];rcases gI with ⟨h1,h2,h3⟩|⟨y,h1,h2⟩
            ·right;refine⟨true,?_,h3⟩;show t=_;rw[h1,h2]
            ·left;refine⟨y,?_,h2⟩;show t=_;rw[h1,Qc]
           have lH:p.row=[Ui r,t]:=(by rw[hp];rfl);have kn:Kn H H17 [] (([(zb,.vec 5 RW)]++([(x12,.st p.row)]++(XL++(Z++(o.rst++Lg)))))++o.pl):=kn.perm (Qi λf hf h0 hc bV=>by
            have h1:=bV _ _ fv;have h2:=bV _ _ o.lg_perm;rw[lH];simp only[Ui,hf]at h1 h2⊢;omega)
           have aO:H17 x3=.st [Ui q.params,Ui q.ae,.ah zb 5 0 n]:=(kn.get (x3,.st [Ui q.params,Ui q.ae,.ah zb 5 0 n]) Zbb).1;have fY:=kn.l 1 rfl;rw[lH]at fY;have cn:=kn.l 0 rfl;refine C7 ?_;simp only[go_sem,aO,fY,cn,bg,bx,ba,af,Q6,D5 _ _ af,oX,cB,fx,fU,Jg,Jf];intro y hy H18 vQ;have kn:=kn.al hy vQ;have kp:=kn.perm (L':=(([(zb,.vec 5 RW)]++([(x12,.st p.row)]++(XL++(Z++(o.rst++Lg)))))++[(y,.vec 2 [[Ui r,t]])])++o.pl) EM;have bC:=jr.p.get kp;have dd:Slc H18 2 (o.ab.map OPhi.row) o.pc:=⟨bC.1,jr.p.aQ,bC.2,jr.p.ay⟩;have yn:∀w∈o.ab.map OPhi.row,Go.AE.am w=true:=λw hw=>by
            obtain⟨x,hx,rfl⟩:=Jq.1 hw;exact x.am (jr.a x hx)
           have kU:Gr [(y,.vec 2 [[Ui r,t]])] 2 [[Ui r,t]] (.ah y 2 0 1):=.mk _ _ _ rfl;generalize ca:C.ah y 2 0 1=yc at kU⊢;have hycw:=kU.ai;have ik:b<q.blocks.length:=(by rw[hn];exact cB);have dM:o.ab.length<=3000:=by
            have h1:=hS.l b ck ik;have h2:=ho.il b ik;rw[bf]at h1;have h3:(R-(r+1)+if b∈fs.take i then 1 else 0)<=R+1:=(by split <;> omega);have h1:o.ab.length<=q.blocks[b].ab.length+(R-(r+1)+if b∈fs.take i then 1 else 0):=h1;omega
           have aO:H18 x3=.st [Ui q.params,Ui q.ae,.ah zb 5 0 n]:=(kn.get (x3,.st [Ui q.params,Ui q.ae,.ah zb 5 0 n]) Zbb).1;have cn:H18 zb=.vec 5 RW:=(kn.get (zb,.vec 5 RW) ZC).1;simp only[go_sem,Qyv,aO,cn,bg,bx,ba,af,Q6,D5 _ _ af,oX,cB,fx,Jg,Jf];refine kn.bk (new:=o.ab.map OPhi.row) kU dd yn (by simp only[Jc,Jl,Jm,LIM];omega) λt2 Lg2 H19 cS cQ kn=>?_;have aO:H19 x3=.st [Ui q.params,Ui q.ae,.ah zb 5 0 n]:=(kn.get (x3,.st [Ui q.params,Ui q.ae,.ah zb 5 0 n]) Zbb).1;have cn:H19 zb=.vec 5 RW:=(kn.get (zb,.vec 5 RW) ZC).1;simp only[go_sem,Qyu,aO,cn,bg,ba,af,Q6,D5 _ _ af,oX,cB,Jg,Jf];intro H20 tw;obtain⟨o',fV⟩:∃o':OBlk,o'=⟨p::o.ab,t2,Lg2,o.ins,o.ic,o.il,o.jump,o.on,o.nx⟩:=⟨_,rfl⟩;have bX:RW.set b [t2,o.ic,Ui o.jump,Ui o.on,.ah o.nx.y 1 0 o.nx.ns.length]=(os.set b o').map OBlk.row:=(by rw[<-eH,J1,fV];rfl);rw[bX]at tw;have kn:=kn.az 0 rfl tw;have aI:=hS.step ck bf (k':=λj=>R-(r+1)+if j∈fs.take (i+1)then 1 else 0) gk (pc:=t2) (pl:=Lg2) (by rw[Jao,lH];exact cS) (by rw[hp];exact (⟨ZA,ZA⟩:(0:Int)<=(r:Int)/\(r:Int)<q.ae)) (λv hv=>by
            rw[hp]at hv;rw[J2 hv];exact⟨ZA,ZA⟩) (by rw[hp,mU];simp) (λj'=>by
            by_cases bE:j'=b
            ·subst bE;rw[if_pos rfl,if_pos ((bQ j').2 (.inr rfl)),if_neg rE]
            ·rw[if_neg bE];by_cases cR:j'∈fs.take i
             ·rw[if_pos cR,if_pos ((bQ j').2 (.inl cR))]
             ·rw[if_neg cR,if_neg (λh=>by rcases (bQ j').1 h with h|h;exact cR h;exact bE h)])
           rw[<-fV]at aI;refine bS _ _ ⟨os.set b o',aI,?_,Rf0⟩;have d9:=DL (f:=OBlk.lg) (l:=os.set b o') (i:=b) (by rw[Jk];exact ck);rw[Jab,J8,hZ]at d9;have xU:∀f:Ul->Nat,(∀a b,f (a++b)=f a+f b)->f o'.rst=f o.rst+f Lg:=λf hf=>by
            rw[fV];simp only[OBlk.rst,Jas,hf];have:p.lg=Lg:=(by rw[hp]);rw[this];omega
           have yt:o'.pl=Lg2:=(by rw[fV]);refine Kn.drop (B:=[(x12,.st p.row)]++o.pl) (kn.perm (Qi λf hf h0 hc bV=>?_));have h1:=bV _ _ d9;have h2:=bV _ _ o'.lg_perm;have h3:=xU f hf;rw[yt]at h2;show f (([(zb,_)]++([(x12,_)]++(XL++(Z++(o.rst++Lg)))))++o.pl++Lg2)=_;simp only[Ui,hf]at h1 h2 h3⊢;omega
       ·rintro e5 H14 ⟨os,hS,kn,l1,l2,l3,l4,l5,l6,l7,l10,l11⟩;refine Qt ?_;simp only[go_sem,l1,l2,l3,l4,l5,l6,l7,l10,l11];refine⟨Qv,?_⟩;show ∃m,_;exact⟨fs.length-(i+1),ZA,i+1,os,rfl,ZA,hS,kn,rfl,rfl,rfl,rfl,rfl,rfl,rfl,rfl,ZB⟩
      ·intro aC;refine Zb ?_;refine Zh ?_;refine⟨Qv,?_⟩;show ∃m,_;refine⟨r,ZA,r,os,rfl,ZA,hS.up λj=>?_,kn,Rf0⟩;show _+_<=_;split <;> omega
  ·intro hc;have xZ:m=0:=by have:¬(0:Int)<=(m:Int)-1:=ZD;omega
   subst xZ;refine Zb ?_;have aO:H10 x3=.st [Ui q.params,Ui q.ae,.ah zb 5 0 n]:=(kn.get (x3,.st [Ui q.params,Ui q.ae,.ah zb 5 0 n]) Zbb).1;rw[<-hX]at kn;have aL:=kn.l 1 rfl;refine Zl aO aL ?_;intro H11 eC;have kn:=kn.az 1 rfl eC;have aL:=kn.l 1 rfl;refine Zi aL ?_;have jx:Held H11 (un H) (os.flatMap OBlk.lg):=λp hp=>⟨(kn.get p (by simp only[List.set,Jaa,Jac,Jy];exact .inr (.inr (.inr (.inr hp))))).1,Ef (kn.loc p (by simp only[List.set,Jaa,Jac,Jy];exact .inr (.inr (.inr (.inr hp)))))⟩;have hz:=kn.l 3 rfl;have b9:=OBlks.frzD (H:=H11) (S:=un H) hS.ok jx;exact⟨_,FrzL.ag (.cons (Qg rfl) (.cons (Qg rfl) (.cons (b9.ah (kn.un 3 rfl) hz (by rw[Jc,hS.n,hn])) .nil))),hK ⟨q.params,q.ae,os.map OBlk.d⟩ _ (hS.fin ho λj hj=>by
    have:=fb _ (Jb hj);have:=ho.il j hj;show _+(R-0)<=_;omega) rfl rfl kn.fin⟩
end Y
section
def SimC (c c':C):Prop:=c'=c\/∃a b:Int,c=.int .i64 a/\c'=.int .i64 b
inductive SimR:List C->List C->Prop
 |nil:SimR [] []
 |cons {c c':C} {l l':List C} (h:SimC c c') (t:SimR l l'):SimR (c::l) (c'::l')
theorem SimR.same:∀l,SimR l l
 |[]=>.nil
 |c::l=>.cons (.inl rfl) (SimR.same l)
theorem SimC.trans {a b c:C}(h:SimC a b)(k:SimC b c):SimC a c:=by
 rcases h with rfl|⟨x,y,rfl,rfl⟩
 ·exact k
 ·rcases k with rfl|⟨u,v,hu,rfl⟩
  ·exact .inr ⟨x,y,Rf0⟩
  ·exact .inr ⟨x,v,Rf0⟩
theorem SimR.trans {a b c:List C}(h:SimR a b):SimR b c->SimR a c:=by
 induction h generalizing c with
 |nil=>exact id
 |cons h t ih=>
  intro k
  cases k with
  |cons h2 t2=>exact .cons (h.trans h2) (ih t2)
theorem SimC.int{c:C}(h:SimC (Ui a) c):∃b:Int,c=Ui b:=by
 rcases h with rfl|⟨x,y,_,rfl⟩
 ·exact⟨a,rfl⟩
 ·exact⟨y,rfl⟩
theorem SimC.sl {fl:Bool}{sz:Nat}{rows:List (List C)}{c:C}(h:SimC (.sl fl sz rows) c):c=.sl fl sz rows:=by
 rcases h with rfl|⟨x,y,h,_⟩
 ·rfl
 ·simp at h
theorem SimC.ah {l sz st n:Nat}{c:C}(h:SimC (.ah l sz st n) c):c=.ah l sz st n:=by
 rcases h with rfl|⟨x,y,h,_⟩
 ·rfl
 ·simp at h
def SimO (X:Nat->Prop)(o o':Obj):Prop:=∃sz rows rows',o=.vec sz rows/\o'=.vec sz rows'/\rows'.length=rows.length/\∀r,r<rows.length->SimR (rows.getD r []) (rows'.getD r [])/\(X r->rows'.getD r []=rows.getD r [])
variable{X X':Nat->Prop}{o o':Obj}
theorem SimO.same (sz:Nat)(rows:List (List C)):SimO X (.vec sz rows) (.vec sz rows):=⟨sz,rows,rows,rfl,rfl,rfl,λr _=>⟨.same _,λ_=>rfl⟩⟩
theorem SimO.mono (h:SimO X o o')(hX:∀r,X' r->X r):SimO X' o o':=by
 obtain⟨sz,rows,rows',h1,h2,h3,h4⟩:=h;exact⟨sz,rows,rows',h1,h2,h3,λr hr=>⟨(h4 r hr).1,λhx=>(h4 r hr).2 (hX r hx)⟩⟩
theorem SimO.get {sz:Nat}{rows:List (List C)}(h:SimO X (.vec sz rows) o'):∃rows',o'=.vec sz rows'/\rows'.length=rows.length/\∀r,r<rows.length->SimR (rows.getD r []) (rows'.getD r [])/\(X r->rows'.getD r []=rows.getD r []):=by
 obtain⟨sz,rows,rows',h1,h2,h3,h4⟩:=h;cases h1;exact⟨rows',h2,h3,h4⟩
theorem SimO.set {sz:Nat}{rows rows':List (List C)}(h:SimO X (.vec sz rows) (.vec sz rows')){r:Nat}{new:List C}(hr:r<rows.length)(hs:SimR (rows.getD r []) new)(hX:∀r',r'≠r->X' r'->X r')(hn:¬X' r) :
  SimO X' (.vec sz rows) (.vec sz (rows'.set r new)):=by
 obtain⟨rows2,h2,h3,h4⟩:=h.get;cases h2;refine⟨sz,rows,_,rfl,rfl,by rw[Jk];exact h3,λr' bd=>?_⟩;by_cases e:r'=r
 ·subst e;have:(rows'.set r' new).getD r' []=new:=by rw[Jd,List.getElem?_set_self ZA];rfl
  rw[this];exact⟨hs,λhx=>absurd hx hn⟩
 ·have:(rows'.set r new).getD r' []=rows'.getD r' []:=by rw[Jd,Ja0 (λh=>e h.symm),<-Jd]
  rw[this];exact⟨(h4 r' bd).1,λhx=>(h4 r' bd).2 (hX r' e hx)⟩
def Ty (LG:List (Nat×Obj))(F:Heap)(E0:List (Nat×Obj))(X:Nat->Nat->Prop)(H:Heap)(L:List (Nat×Obj)):Prop:=
 ∃E1:List (Nat×Obj),E1.map Prod.fst=LG.map Prod.fst/\(∀p∈LG,∀ob,(p.1,ob)∈E1->SimO (X p.1) p.2 ob)/\Kn F H (E0++E1) L
namespace Ty
variable{LG E0 L A N:List (Nat×Obj)}{F:Heap}{X X':Nat->Nat->Prop}{m:Nat}{ob:Obj}
theorem nodup (t:Ty LG F E0 X H L):(LG.map Prod.fst).Nodup:=by
 obtain⟨E1,h1,h2,kn⟩:=t;have:=kn.dE;rw[Jo]at this;rw[<-h1];exact (Jv.1 this).2.1
theorem get (t:Ty LG F E0 X H L)(hm:(m,o)∈LG):SimO (X m) o (H m):=by
 obtain⟨E1,h1,h2,kn⟩:=t;have h3:m∈E1.map Prod.fst:=by rw[h1];exact CD hm
 obtain⟨p,hp,he⟩:=Jq.1 h3;have h4:=(kn.get p (Jj _ (Je _ hp))).1;obtain⟨a,b⟩:=p;simp only at he h4;subst he;rw[h4];exact h2 _ hm _ hp
theorem e (t:Ty LG F E0 X H L)(i:Nat){oo:Obj}(h:E0[i]? = some (x,oo)):H x=oo:=by
 obtain⟨E1,h1,h2,kn⟩:=t;exact (kn.get (x,oo) (Jj _ (Jj _ (Ja1 h)))).1
theorem weak (t:Ty LG F E0 X H L)(hX:∀m r,X' m r->X m r):Ty LG F E0 X' H L:=by
 obtain⟨E1,h1,h2,kn⟩:=t;exact⟨E1,h1,λp hp ob bf=>(h2 p hp ob bf).mono (hX p.1),kn⟩
theorem st (t:Ty LG F E0 X H L)(hm:(m,o)∈LG)(h:H'=H.set m ob)(hs:SimO (X' m) o ob)(hX:∀m',m'≠m->∀r,X' m' r->X m' r):Ty LG F E0 X' H' L:=by
 have df:=t.nodup;obtain⟨E1,h1,h2,kn⟩:=t;have h3:m∈E1.map Prod.fst:=by rw[h1];exact CD hm
 obtain⟨p,hp,he⟩:=Jq.1 h3;obtain⟨i,hi⟩:=J9 hp;obtain⟨a,b⟩:=p;simp only at he;subst he;have bf:ob≠.none:=by
  obtain⟨_,_,_,_,h,_⟩:=hs;rw[h];simp
 have di:(E1.map Prod.fst).Nodup:=by rw[h1];exact df
 have bZ:(E0++E1)[E0.length+i]? = some (a,b):=by rw[List.getElem?_append_right (by omega),Jah];exact hi
 have k2:=kn.stE (E0.length+i) bZ h bf;rw[List.set_append_right _ _ (by omega),Jah]at k2;refine⟨E1.set i (a,ob),(F9 hi).trans h1,λp hp ob' oH=>?_,k2⟩;rcases Ew oH with e|⟨j,hj,cR⟩
 ·have e1:p.1=a:=congrArg Prod.fst e;have e2:ob'=ob:=congrArg Prod.snd e;have e3:p.2=o:=by
   obtain⟨i1,g1⟩:=J9 hp;obtain⟨i2,g2⟩:=J9 hm;have:=Ev df g1 g2 e1;subst this;rw[g1]at g2;rw[J5 g2]
  rw[e1,e2,e3];exact hs
 ·have be:p.1≠a:=λhh=>hj (Ev di cR hi hh);exact (h2 p hp ob' (Ja1 cR)).mono (hX p.1 be)
theorem stE (t:Ty LG F E0 X H L)(i:Nat){x:Nat}{a b:Obj}(h:E0[i]? = some (x,a))(h1:H'=H.set x b)(hb:b≠.none:=by nofun):Ty LG F (E0.set i (x,b)) X H' L:=by
 obtain⟨E1,g1,g2,kn⟩:=t;have af:=(Jar.1 h).1;have k2:=kn.stE (o:=a) i (by rw[List.getElem?_append_left af];exact h) h1 hb;rw[List.set_append_left _ _ af]at k2;exact⟨E1,g1,g2,k2⟩
theorem au (t:Ty LG F E0 X H L)(hu:Upd H H' []):Ty LG F E0 X H' L:=by
 obtain⟨E1,g1,g2,kn⟩:=t;exact⟨E1,g1,g2,kn.au hu⟩
theorem al (t:Ty LG F E0 X H L){x:Nat}{b:Obj}(hx:H x=.none)(h1:H'=H.set x b)(hb:b≠.none:=by nofun):Ty LG F E0 X H' (L++[(x,b)]):=by
 obtain⟨E1,g1,g2,kn⟩:=t;exact⟨E1,g1,g2,kn.al hx h1 hb⟩
theorem drop (t:Ty LG F E0 X H (A++N)):Ty LG F E0 X H A:=by
 obtain⟨E1,g1,g2,kn⟩:=t;exact⟨E1,g1,g2,kn.drop⟩
theorem sub {wl cy c0:Nat}{a b c:Obj}(t:Ty LG F [(wl,a),(c0,b)] X H (L++[(cy,c)])):Ty LG H [(wl,a),(cy,c)] X H []:=by
 obtain⟨E1,g1,g2,kn⟩:=t;refine⟨E1,g1,g2,Kn.startE (λp hp=>kn.get p ?_) ?_⟩
 ·rcases Jn.1 hp with hp|hp
  ·rcases Jy.1 hp with rfl|hp
   ·simp
   ·rcases Jy.1 hp with rfl|hp
    ·simp
    ·simp at hp
  ·simp[hp]
 ·have hd:=kn.dE;simp only[Jaa,Jac,Jao,Jag,Jy,not_or]at hd⊢;have ie:∀p∈[(wl,a),(c0,b)]++E1,p.1≠cy:=λp hp hh=>kn.ext p hp (hh▸kn.loc (cy,c) (by simp));refine⟨⟨ie (wl,a) (by simp),hd.1.2⟩,λhh=>?_,hd.2.2⟩;obtain⟨p,hp,he⟩:=Jq.1 hh;exact ie p (Je _ hp) he
theorem ret {wl cy c0:Nat}{a b c a' c':Obj}(t:Ty LG F [(wl,a),(c0,b)] X H (L++[(cy,c)]))(t2:Ty LG H [(wl,a'),(cy,c')] X' H' []):Ty LG F [(wl,a'),(c0,b)] X' H' L:=by
 obtain⟨E1,g1,g2,kn⟩:=t;obtain⟨E2,k1,k2,kn2⟩:=t2;have hu:=kn2.upd;have be:∀p∈[(wl,a'),(cy,c')]++E2,p.2≠.none:=λp hp=>(kn2.get p (Jj _ hp)).2;have oW:E2.map Prod.fst=E1.map Prod.fst:=k1.trans g1.symm;have hd:=kn.dE;have B6:=kn.dL;rw[Jo]at B6;have ie:∀p∈[(wl,a),(c0,b)]++E1,p.1≠cy:=λp hp hh=>kn.ext p hp (hh▸kn.loc (cy,c) (by simp));have hk:Kn F H' ([(wl,a'),(c0,b)]++E2) (L++[(cy,c')]):=by
  refine kn.callg hu (by simp[oW]) (by simp) (λp hp=>?_) (λu jk=>?_)
  ·rcases Jn.1 hp with hp|hp
   ·rcases Jn.1 hp with hp|hp
    ·rcases Jy.1 hp with rfl|hp
     ·exact⟨be _ (by simp),.inl (by simp)⟩
     ·simp only[Ja]at hp;subst hp;have h0:(c0,b)∈([(wl,a),(c0,b)]++E1)++(L++[(cy,c)]):=(by simp);refine⟨(kn.get _ h0).2,.inr ⟨h0,?_⟩⟩;simp only[Jaa,Jac,Jao,Jag,Jy,not_or]at hd⊢;refine⟨λh=>hd.1.1 h.symm,ie (c0,b) (by simp),?_⟩;rw[oW];exact hd.2.1
    ·exact⟨be p (Je _ hp),.inl (Je _ hp)⟩
   ·rcases Jn.1 hp with hp|hp
    ·have h0:p∈([(wl,a),(c0,b)]++E1)++(L++[(cy,c)]):=(by simp[hp]);refine⟨(kn.get _ h0).2,.inr ⟨h0,λhh=>?_⟩⟩;have Bi:F p.1=.none:=kn.loc p (Jj _ hp);simp only[Jaa,Jac,Jao,Jy]at hh;rcases hh with hh|hh|hh
     ·exact kn.ext (wl,a) (by simp) (hh▸Bi)
     ·exact (Jv.1 B6).2.2 _ (CD hp) cy (by simp) hh
     ·rw[oW]at hh;obtain⟨p',bV,he⟩:=Jq.1 hh;exact kn.ext p' (Je _ bV) (he▸Bi)
    ·simp only[Ja]at hp;subst hp;exact⟨be _ (by simp),.inl (by simp)⟩
  ·rcases Jn.1 jk with h|h
   ·rcases Jy.1 h with rfl|h
    ·left;simp
    ·simp only[Ja]at h;subst h;right;simp
   ·left;rw[Jo,Jn,<-oW];exact .inr (CD h)
 exact⟨E2,k1,k2,hk.drop⟩
end Ty
end
namespace Y
variable{F:Heap}{q:CodeD}{zb wl cy R n:Nat}{X X':Nat->Nat->Prop}{cs:List Int}{o:OBlk}{b:Nat}
def LGo (os:List OBlk)(zb:Nat):List (Nat×Obj):=os.flatMap OBlk.lg++[(zb,.vec 5 (os.map OBlk.row))]
def OBlk.inN (o:OBlk):List (Nat×Obj):=o.ins.flatMap OIns.lg++o.il
def OBlk.phN (o:OBlk):List (Nat×Obj):=o.ab.flatMap OPhi.lg++o.pl
def XU (os:List OBlk)(zb:Nat)(U:Nat->Prop)(m r:Nat):Prop:=(∃x,∃h:x<os.length,m=os[x].nx.y)\/∃x,∃h:x<os.length,U x/\((m=zb/\r=x)\/∃p∈os[x].inN,m=p.1)
def XP (o:OBlk)(zb b:Nat)(j:Bool)(i k m r:Nat):Prop:=(j=true/\m=zb/\r=b)\/(∃p∈o.il,m=p.1/\i<=r)\/∃i',∃h:i'<o.ins.length,m=o.ins[i'].a.y/\(i<i'\/(i=i'/\k<=r))
theorem Q5g {α:Type}{f:α->Ul}:∀{l:List α},((l.flatMap f).map Prod.fst).Nodup->∀{i j:Nat} (hi:i<l.length) (hj:j<l.length),i≠j->∀p∈f l[i],∀p'∈f l[j],p.1≠p'.1
 |[],_,i,j,hi,_,_=>by simp at hi
 |x::l,hd,i,j,hi,hj,hY=>by
  rw[Jas,Jo]at hd;obtain⟨d1,d2,d3⟩:=Jv.1 hd;intro p hp p' bV
  cases i with
  |zero=>
   cases j with
   |zero=>exact absurd rfl hY
   |succ j=>
    simp only[Jaw,Jai]at hp bV;exact d3 _ (CD hp) _ (CD (Jt.2 ⟨_,Jb _,bV⟩))
  |succ i=>
   cases j with
   |zero=>
    simp only[Jaw,Jai]at hp bV;exact λh=>d3 _ (CD bV) _ (CD (Jt.2 ⟨_,Jb _,hp⟩)) h.symm
   |succ j=>
    simp only[Jai]at hp bV;exact Q5g d2 ZV ZS ZA p hp p' bV
theorem LH {α:Type}{f:α->Ul}:∀{l:List α},((l.flatMap f).map Prod.fst).Nodup->∀x∈l,((f x).map Prod.fst).Nodup
 |[],_,x,h=>ZH
 |y::l,hd,x,h=>by
  rw[Jas,Jo]at hd;obtain⟨d1,d2,d3⟩:=Jv.1 hd;rcases Jy.1 h with rfl|h
  ·exact d1
  ·exact LH d2 x h
structure BlkN (o:OBlk):Prop where
 pn:∀p∈o.phN,p.1≠o.nx.y
 inn:∀p∈o.inN,p.1≠o.nx.y
 pi:∀p∈o.phN,∀p'∈o.inN,p.1≠p'.1
 ii:∀p∈o.ins.flatMap OIns.lg,∀p'∈o.il,p.1≠p'.1
 ij:∀i j (hi:i<o.ins.length) (hj:j<o.ins.length),i≠j->o.ins[i].a.y≠o.ins[j].a.y
theorem Qa24 (h:(o.lg.map Prod.fst).Nodup):BlkN o:=by
 have e:o.lg=o.nx.lg++(o.phN++o.inN):=by simp only[OBlk.lg,OBlk.phN,OBlk.inN,Ja6]
 rw[e,Jo,Jo]at h;obtain⟨_,d2,d3⟩:=Jv.1 h;obtain⟨_,e2,e3⟩:=Jv.1 d2;rw[OBlk.inN,Jo]at e2;obtain⟨g1,_,g3⟩:=Jv.1 e2;have hy:o.nx.y∈o.nx.lg.map Prod.fst:=by simp[OInts.lg]
 refine⟨λp hp hh=>d3 _ hy _ (Jj _ (CD hp)) hh.symm,λp hp hh=>d3 _ hy _ (Je _ (CD hp)) hh.symm,λp hp p' bV=>e3 _ (CD hp) _ (CD bV),
  λp hp p' bV=>g3 _ (CD hp) _ (CD bV),λi j hi hj hY=>?_⟩
 exact Q5g g1 hi hj hY (o.ins[i].a.y,.vec 1 (Qb o.ins[i].a.ns)) ZaP (o.ins[j].a.y,.vec 1 (Qb o.ins[j].a.ns)) ZaP
def Apart (os:List OBlk)(zb:Nat):Prop:=((LGo os zb).map Prod.fst).Nodup
theorem Apart.zbn (h:Apart os zb)(hx:x<os.length){p:Nat×Obj}(hp:p∈os[x].lg):p.1≠zb:=by
 rw[Apart,LGo,Jo]at h;exact (Jv.1 h).2.2 _ (CD (Jt.2 ⟨_,Jb hx,hp⟩)) zb ZC
theorem Apart.same (h:Apart os zb){y:Nat}(hx:x<os.length)(hy:y<os.length){p p':Nat×Obj}(hp:p∈os[x].lg)(bV:p'∈os[y].lg)(he:p.1=p'.1):x=y:=by
 rw[Apart,LGo,Jo]at h;by_cases qB:x=y
 ·exact qB
 ·exact absurd he (Q5g (Jv.1 h).1 hx hy qB p hp p' bV)
theorem Apart.blk (h:Apart os zb)(hx:x<os.length):BlkN os[x]:=by
 rw[Apart,LGo,Jo]at h;exact Qa24 (LH (Jv.1 h).1 _ (Jb hx))
theorem OBlk.nxM (o:OBlk):(o.nx.y,Obj.vec 1 (Qb o.nx.ns))∈o.lg:=by simp[OBlk.lg,OInts.lg]
theorem OBlk.phM {p:Nat×Obj}(h:p∈o.phN):p∈o.lg:=by
 simp only[OBlk.phN,OBlk.lg,Jn]at h⊢;rcases h with h|h
 ·exact .inr (.inl h)
 ·exact .inr (.inr (.inl h))
theorem OBlk.inM {p:Nat×Obj}(h:p∈o.inN):p∈o.lg:=by
 simp only[OBlk.inN,OBlk.lg,Jn]at h⊢;exact .inr (.inr (.inr h))
theorem OBlk.aM (o:OBlk)(h:i<o.ins.length):(o.ins[i].a.y,Obj.vec 1 (Qb o.ins[i].a.ns))∈o.ins.flatMap OIns.lg:=Jt.2 ⟨_,Jb h,ZaP⟩
theorem LGo.of {p:Nat×Obj}(hx:x<os.length)(hp:p∈os[x].lg):p∈LGo os zb:=Jj _ (Jt.2 ⟨_,Jb hx,hp⟩)
theorem LGo.zbm:(zb,Obj.vec 5 (os.map OBlk.row))∈LGo os zb:=Je _ ZC
theorem Apart.ph (h:Apart os zb)(hx:x<os.length){p:Nat×Obj}(hp:p∈os[x].phN)(r:Nat):¬XU os zb U p.1 r:=by
 rintro (⟨y,hy,he⟩|⟨y,hy,_,he⟩)
 ·have:=h.same hx hy (OBlk.phM hp) os[y].nxM he;subst this;exact (h.blk hx).pn p hp he
 ·rcases he with ⟨he,_⟩|⟨p',bV,he⟩
  ·exact h.zbn hx (OBlk.phM hp) he
  ·have:=h.same hx hy (OBlk.phM hp) (OBlk.inM bV) he;subst this;exact (h.blk hx).pi p hp p' bV he
theorem Apart.phP (h:Apart os zb)(hx:x<os.length)(hb:b<os.length){p:Nat×Obj}(hp:p∈os[x].phN)(j:Bool)(i k r:Nat):¬XP os[b] zb b j i k p.1 r:=by
 rintro (⟨_,he,_⟩|⟨p',bV,he,_⟩|⟨i',bZ,he,_⟩)
 ·exact h.zbn hx (OBlk.phM hp) he
 ·have fy:p'∈os[b].inN:=Je _ bV;have:=h.same hx hb (OBlk.phM hp) (OBlk.inM fy) he;subst this;exact (h.blk hx).pi p hp p' fy he
 ·have fy:(os[b].ins[i'].a.y,Obj.vec 1 (Qb os[b].ins[i'].a.ns))∈os[b].inN:=Jj _ (os[b].aM bZ);have:=h.same hx hb (OBlk.phM hp) (OBlk.inM fy) he;subst this;exact (h.blk hx).pi p hp _ fy he
theorem Apart.inU (h:Apart os zb)(hb:b<os.length){p:Nat×Obj}(hp:p∈os[b].inN)(hU:¬U b)(r:Nat):¬XU os zb U p.1 r:=by
 rintro (⟨y,hy,he⟩|⟨y,hy,A1,he⟩)
 ·have:=h.same hb hy (OBlk.inM hp) os[y].nxM he;subst this;exact (h.blk hb).inn p hp he
 ·rcases he with ⟨he,_⟩|⟨p',bV,he⟩
  ·exact h.zbn hb (OBlk.inM hp) he
  ·have:=h.same hb hy (OBlk.inM hp) (OBlk.inM bV) he;subst this;exact hU A1
theorem Apart.zbU (h:Apart os zb)(hU:¬U b):¬XU os zb U zb b:=by
 rintro (⟨y,hy,he⟩|⟨y,hy,A1,he⟩)
 ·exact h.zbn hy os[y].nxM he.symm
 ·rcases he with ⟨_,he⟩|⟨p',bV,he⟩
  ·subst he;exact hU A1
  ·exact h.zbn hy (OBlk.inM bV) he.symm
theorem Apart.zbP (h:Apart os zb)(hb:b<os.length)(i k r:Nat):¬XP os[b] zb b false i k zb r:=by
 rintro (⟨h0,_⟩|⟨p',bV,he,_⟩|⟨i',bZ,he,_⟩)
 ·simp at h0
 ·exact h.zbn hb (OBlk.inM (Je _ bV)) he.symm
 ·exact h.zbn hb (OBlk.inM (Jj _ (os[b].aM bZ))) he.symm
structure NC (q:CodeD)(os:List OBlk)(zb R n:Nat)(ids:List Int):Prop where
 ok:q.ok
 hn:q.blocks.length=n
 hR:q.ae.toNat=R
 l:os.length=n
 d:∀x (h:x<os.length) (h':x<q.blocks.length),os[x].d=q.blocks[x]
 bo:∀b∈os,b.ok
 ow:∀b∈os,∀p∈b.ab,p.own
 t:Tree n ids (depL n (nxN (gnx q)))
def wO (q:CodeD)(ids:List Int)(zb n:Nat)(nx:Int):Obj:=.st [.int .i64 q.params,.int .i64 q.ae,.sl false 5 (Qo q.blocks),.int .i64 q.params,.int .i64 q.ae,.ah zb 5 0 n,.sl false 1 (Qb ids),.int .i64 nx]
abbrev TT (q:CodeD)(os:List OBlk)(zb n wl cy:Nat)(ids:List Int)(F:Heap)(nx:Int)(cs:List Int)(X:Nat->Nat->Prop)(H:Heap):Prop:=Ty (LGo os zb) F [(wl,wO q ids zb n nx),(cy,.vec 1 (Qb cs))] X H []
theorem K6 (hs:SimO (X zb) (.vec 5 (os.map OBlk.row)) (H zb))(c:NC q os zb R n ids)(hx:x<n)(eZ:x<os.length)(ho:os[x]=o) :
  ∃RW j on,H zb=.vec 5 RW/\RW.length=n/\RW.take n=RW/\RW.getD x []=[o.pc,o.ic,Ui j,Ui on,.ah o.nx.y 1 0 o.nx.ns.length]/\(X zb x->j=o.jump/\on=o.on)/\SimO (X zb) (.vec 5 (os.map OBlk.row)) (.vec 5 RW):=by
 subst ho;obtain⟨RW,h1,h2,h3⟩:=hs.get;rw[h1]at hs;rw[Jc,c.l]at h2;have hg:(os.map OBlk.row).getD x []=os[x].row:=by simp[Jd,eZ]
 obtain⟨h4,h5⟩:=h3 x (by rw[Jc];exact eZ);rw[hg]at h4 h5;have aq:=c.bo _ (Jb eZ);have gS:∀c',SimC os[x].pc c'->c'=os[x].pc:=λc' h=>by
  rcases aq.p with ⟨e,_⟩|⟨y,e,_⟩
  ·rw[e]at h⊢;exact h.sl
  ·rw[e]at h⊢;exact h.ah
 have ja:∀c',SimC os[x].ic c'->c'=os[x].ic:=λc' h=>by
  rcases aq.i with ⟨e,_⟩|⟨y,e,_⟩
  ·rw[e]at h⊢;exact h.sl
  ·rw[e]at h⊢;exact h.ah
 generalize hR:RW.getD x []=row at h4 h5;rw[OBlk.row_eq]at h4 h5
 cases h4 with
 |cons a1 t1=>cases t1 with
  |cons a2 t2=>cases t2 with
   |cons a3 t3=>cases t3 with
    |cons a4 t4=>cases t4 with
     |cons a5 t5=>cases t5 with
      |nil=>
       have e1:=gS _ a1;have e2:=ja _ a2;obtain⟨j,e3⟩:=a3.int;obtain⟨on,e4⟩:=a4.int;have e5:=a5.ah;subst e1;subst e2;subst e3;subst e4;subst e5;refine⟨RW,j,on,h1,h2,Ji ZA,hR,λhX=>?_,hs⟩;have:=h5 hX;simp only[List.cons.injEq,C.int.injEq,true_and]at this;exact⟨this.1,this.2.1⟩
theorem Fw (t:TT q os zb n wl cy ids F nx cs X H)(c:NC q os zb R n ids)(hx:x<n)(eZ:x<os.length)(ho:os[x]=o) :
  ∃RW j on,H zb=.vec 5 RW/\RW.length=n/\RW.take n=RW/\RW.getD x []=[o.pc,o.ic,Ui j,Ui on,.ah o.nx.y 1 0 o.nx.ns.length]/\(X zb x->j=o.jump/\on=o.on)/\SimO (X zb) (.vec 5 (os.map OBlk.row)) (.vec 5 RW):=K6 (t.get LGo.zbm) c hx eZ ho
theorem FT {m:Nat}(hs:SimO (X m) (.vec 1 (Qb ns)) (H m)):∃ns':List Int,H m=.vec 1 (Qb ns')/\ns'.length=ns.length/\(∀r,r<ns.length->X m r->ns'.getD r 0=ns.getD r 0)/\SimO (X m) (.vec 1 (Qb ns)) (.vec 1 (Qb ns')):=by
 obtain⟨rows',h1,h2,h3⟩:=hs.get;rw[Qc]at h2 h3;have hg:∀r,r<ns.length->∃v:Int,rows'.getD r []=[Ui v]/\(X m r->v=ns.getD r 0):=λr hr=>by
  obtain⟨h4,h5⟩:=h3 r hr;rw[Qk _ _ hr]at h4 h5;generalize hR:rows'.getD r []=row at h4 h5
  cases h4 with
  |cons a1 t1=>cases t1 with
   |nil=>
    obtain⟨v,e⟩:=a1.int;subst e;refine⟨v,rfl,λhX=>?_⟩;have:=h5 hX;simpa using this
 obtain⟨f,hf⟩:∃f:Nat->Int,∀r,r<ns.length->rows'.getD r []=[Ui (f r)]/\(X m r->f r=ns.getD r 0):=by
  classical
  exact⟨λr=>if h:r<ns.length then (hg r h).choose else 0,λr hr=>by simp only[hr,dite_true];exact (hg r hr).choose_spec⟩
 have b9:rows'=Qb ((List.range ns.length).map f):=by
  refine Jae (by simp[Qb,h2]) λi h4 h5=>?_;have hi:i<ns.length:=ZA
  have:=(hf i hi).1;rw[Jd,Jh h4]at this;simp only[Jz]at this;rw[this];simp[Qb]
 subst b9;rw[h1]at hs;refine⟨_,h1,ZC,λr hr hX=>?_,hs⟩;rw[Jd];simp only[Jx,List.getElem?_range hr,J0,Jz];exact (hf r hr).2 hX
theorem OA (t:TT q os zb n wl cy ids F nx cs X H){m:Nat}{ns':List Int}(hm:(m,Obj.vec 1 (Qb ns))∈LGo os zb)(hs:SimO (X m) (.vec 1 (Qb ns)) (.vec 1 (Qb ns'))){r:Nat}(hr:r<ns.length)(v:Int)
  (h:H'=H.set m (.vec 1 (Qb (ns'.set r v)))) (hX:∀m' r',¬(m'=m/\r'=r)->X' m' r'->X m' r') (hn:¬X' m r):TT q os zb n wl cy ids F nx cs X' H':=by
 refine Ty.st t hm h ?_ λm' fg r'=>hX m' r' λe=>fg e.1;rw[<-F8];refine hs.set (by rw[Qc];exact hr) ?_ (λr' bd=>hX m r' λe=>bd e.2) hn;rw[Qk _ _ hr];exact .cons (.inr ⟨_,_,Rf0⟩) .nil
theorem EE (t:TT q os zb n wl cy ids F nx cs X H)(c:NC q os zb R n ids)(eZ:x<os.length)(ho:os[x]=o):aZ H o.pc=True/\ay o.pc=o.ab.length/\o.pc.ai=false/\o.ic.ai=false:=by
 subst ho;have aq:=c.bo _ (Jb eZ);refine⟨?_,by rw[aq.p.ay,Jc],aq.p.ai,aq.i.ai⟩;rcases aq.p with ⟨e,_⟩|⟨z,e,e2⟩
 ·rw[e];rfl
 ·have hm:(z,Obj.vec 2 (os[x].ab.map OPhi.row))∈LGo os zb:=LGo.of eZ (OBlk.phM (Je _ (by rw[e2];simp)));obtain⟨rows',h1,h2,_⟩:=(t.get hm).get;rw[e];simp only[aZ,h1,h2,Jg,Jf,and_self]
theorem OBlk.phZ (aq:o.ok){k:Nat}(hk:k<o.ab.length):∃z,o.pc=.ah z 2 0 o.ab.length/\o.pl=[(z,.vec 2 (o.ab.map OPhi.row))]:=by
 rcases aq.p with ⟨_,h,_⟩|⟨y,h1,h2⟩
 ·have:=congrArg List.length h;simp only[Jc,Jm]at this;omega
 ·exact⟨y,by rw[h1,Jc],h2⟩
theorem OBlk.inZ (aq:o.ok){k:Nat}(hk:k<o.ins.length):∃z,o.ic=.ah z 4 0 o.ins.length/\o.il=[(z,.vec 4 (o.ins.map OIns.row))]:=by
 rcases aq.i with ⟨_,h,_⟩|⟨y,h1,h2⟩
 ·have:=congrArg List.length h;simp only[Jc,Jm]at this;omega
 ·exact⟨y,by rw[h1,Jc],h2⟩
theorem rdPh (t:TT q os zb n wl cy ids F nx cs X H)(c:NC q os zb R n ids)(eZ:x<os.length)(ho:os[x]=o){k:Nat}(hz:o.pl=[(z,.vec 2 (o.ab.map OPhi.row))])(hk:k<o.ab.length) :
  ∃PR to ya,H z=.vec 2 PR/\PR.length=o.ab.length/\PR.take o.ab.length=PR/\PR.getD k []=[Ui to,.ah ya 1 0 o.ab[k].ns.length]/\(ya,Obj.vec 1 (Qb o.ab[k].ns))∈o.phN/\o.ab[k].ac=.ah ya 1 0 o.ab[k].ns.length/\SimO (X z) (.vec 2 (o.ab.map OPhi.row)) (.vec 2 PR):=by
 subst ho;have hm:(z,Obj.vec 2 (os[x].ab.map OPhi.row))∈LGo os zb:=LGo.of eZ (OBlk.phM (Je _ Zbk));have hs:=t.get hm;obtain⟨PR,h1,h2,h3⟩:=hs.get;rw[h1]at hs;rw[Jc]at h2 h3;obtain⟨h4,_⟩:=h3 k hk;obtain⟨ya,e1,e2⟩:=c.ow _ (Jb eZ) _ (Jb hk);have hg:(os[x].ab.map OPhi.row).getD k []=[Ui os[x].ab[k].to,.ah ya 1 0 os[x].ab[k].ns.length]:=by
  simp only[Jd,Jx,Jh hk,J0,Jz,OPhi.row,e1]
 rw[hg]at h4;generalize hR:PR.getD k []=row at h4
 cases h4 with
 |cons a1 t1=>cases t1 with
  |cons a2 t2=>cases t2 with
   |nil=>
    obtain⟨v,e⟩:=a1.int;have e3:=a2.ah;subst e;subst e3;refine⟨PR,v,ya,h1,h2,Ji ZA,hR,?_,e1,hs⟩;exact Jj _ (Jt.2 ⟨_,Jb hk,by rw[e2];simp⟩)
theorem rdIn (t:TT q os zb n wl cy ids F nx cs X H)(eZ:x<os.length)(ho:os[x]=o){k:Nat}(hz:o.il=[(z,.vec 4 (o.ins.map OIns.row))])(hk:k<o.ins.length)(hX:X z k) :
  ∃IR,H z=.vec 4 IR/\IR.length=o.ins.length/\IR.take o.ins.length=IR/\IR.getD k []=[Ui o.ins[k].op,Ui o.ins[k].to,.ah o.ins[k].a.y 1 0 o.ins[k].a.ns.length,Ui o.ins[k].n]/\SimO (X z) (.vec 4 (o.ins.map OIns.row)) (.vec 4 IR):=by
 subst ho;have hm:(z,Obj.vec 4 (os[x].ins.map OIns.row))∈LGo os zb:=LGo.of eZ (OBlk.inM (Je _ Zbk));have hs:=t.get hm;obtain⟨IR,h1,h2,h3⟩:=hs.get;rw[h1]at hs;rw[Jc]at h2 h3;have h4:=(h3 k hk).2 hX;refine⟨IR,h1,h2,Ji ZA,?_,hs⟩;rw[h4];simp only[Jd,Jx,Jh hk,J0,Jz];rfl
theorem Qa8z (t:TT q os zb n wl cy ids F nx cs X H)(c:NC q os zb R n ids)(eZ:x<os.length)(ho:os[x]=o):aZ H o.ic=True/\ay o.ic=o.ins.length:=by
 subst ho;have aq:=c.bo _ (Jb eZ);refine⟨?_,by rw[aq.i.ay,Jc]⟩;rcases aq.i with ⟨e,_⟩|⟨z,e,e2⟩
 ·rw[e];rfl
 ·have hm:(z,Obj.vec 4 (os[x].ins.map OIns.row))∈LGo os zb:=LGo.of eZ (OBlk.inM (Je _ (by rw[e2];simp)));obtain⟨rows',h1,h2,_⟩:=(t.get hm).get;rw[e];simp only[aZ,h1,h2,Jg,Jf,and_self]
theorem NC.get (c:NC q os zb R n ids)(hb:b<n):∃hl:b<os.length,∃hq:b<q.blocks.length,os[b].d=q.blocks[b]/\os[b].ok/\q.blocks[b].ok q b/\os[b].ab.length<=1200/\os[b].ins.length<=1200:=by
 have hl:b<os.length:=by rw[c.l];exact hb
 have hq:b<q.blocks.length:=by rw[c.hn];exact hb
 have hd:=c.d b hl hq;have cK:=c.ok.il b hq;rw[<-hd]at cK;simp only[OBlk.d,Jc]at cK;exact⟨hl,hq,hd,c.bo _ (Jb hl),c.ok.bs b hq,cK.2,cK.1⟩
end Y
namespace Y
attribute [local go_sem] cond_true cond_false Bool.not_true Bool.not_false
open Go.Proofs.Tryz
variable{F:Heap}{q:CodeD}{zb wl cy R n b:Nat}{Z':Nat->Nat->Prop}{cs:List Int}{o:OBlk}{y:BlkD}{e:Env}
theorem Lr (hw:H wl=wO q ids zb n nx)(h1:0<=nx)(h2:nx<=2 ^ 40)(hK:∀H',H'=H.set wl (wO q ids zb n (nx+1))->K (Uv nx) H'):Qu prog Qkf [Up wl] H K:=by
 refine Qd Co Q4a ?_;rw[wO]at hw;refine Za ?_;refine Zj hw ?_;refine⟨Qv,λH' h'=>?_⟩;have ot:H' wl=wO q ids zb n (nx+1):=by rw[h',Heap.aF];rfl
 have hK:=hK H' h';rw[wO]at ot;refine Zj ot ?_;try refine⟨Qv,?_⟩
 refine Zd ?_
 first|exact hK|(have e:nx+1-1=nx:=ZA;rw[e];exact hK)
def LK (wl b cy R n zb:Nat)(e:Env):Prop:=lk 0 e=.c (.ptr wl 0)/\lk 1 e=.c (.int .i64 b)/\lk 2 e=.c (.ah cy 1 0 R)/\lk 6 e=.c (.ep (.ah zb 5 0 n) 5 b 0)
structure NSt (q:CodeD)(os:List OBlk)(zb n R wl cy:Nat)(ids:List Int)(F:Heap)(nx:Int)(cs:List Int)(Z:Nat->Nat->Prop)(H:Heap):Prop where
 t:TT q os zb n wl cy ids F nx cs Z H
 c:cs.length=R
theorem NSt.w (s:NSt q os zb n R wl cy ids F nx cs Z H):H wl=wO q ids zb n nx:=s.t.e 0 rfl
theorem NSt.cu (s:NSt q os zb n R wl cy ids F nx cs Z H):H cy=.vec 1 (Qb cs):=s.t.e 1 rfl
theorem NSt.ct (s:NSt q os zb n R wl cy ids F nx cs Z H):(Qb cs).take R=Qb cs:=Ji (by rw[Qc];exact Nat.le_of_eq s.c)
theorem NSt.cl (s:NSt q os zb n R wl cy ids F nx cs Z H):(Qb cs).length=R:=by rw[Qc];exact s.c
theorem NSt.setW (s:NSt q os zb n R wl cy ids F nx cs Z H){nx':Int}(h:H'=H.set wl (wO q ids zb n nx')):NSt q os zb n R wl cy ids F nx' cs Z H':=⟨s.t.stE 0 rfl h (by simp[wO]),s.c⟩
theorem NSt.setC (s:NSt q os zb n R wl cy ids F nx cs Z H){v:Int}(h:H'=H.set cy (.vec 1 (Qb (cs.set i v)))):NSt q os zb n R wl cy ids F nx (cs.set i v) Z H':=⟨s.t.stE 1 rfl h,by rw[Jk];exact s.c⟩
theorem NSt.weak (s:NSt q os zb n R wl cy ids F nx cs Z H)(hX:∀m r,Z' m r->Z m r):NSt q os zb n R wl cy ids F nx cs Z' H:=⟨s.t.weak hX,s.c⟩
theorem phA (c:NC q os zb R n ids)(hb:b<n)(hl:b<os.length)(ho:os[b]=o)(hX:∀p∈o.phN,∀r,¬Z p.1 r)(s:NSt q os zb n R wl cy ids F nx cs Z H)(hk:LK wl b cy R n zb e)(h0:0<=nx)(h1:nx+o.ab.length<=2 ^ 40)(hN:o.ab.length<=100000)
  (h:∀e' H',NSt q os zb n R wl cy ids F (nx+o.ab.length) cs Z H'->LK wl b cy R n zb e'->Cr prog Tj Q e' H'):Cr prog Qid Q e H:=by
 obtain⟨l0,l1,l2,l6⟩:=hk;have aq:=c.bo _ (Jb hl);rw[ho]at aq;refine Q1 (Qa ?_);simp only[go_sem,l0,l1,l2,l6];refine Qh (Qe (Qy (λm e1 H1=>∃i:Nat,m=o.ab.length-i/\i<=o.ab.length/\NSt q os zb n R wl cy ids F (nx+i) cs Z H1/\lk 0 e1=Up wl/\lk 1 e1=Uv b/\lk 2 e1=.c (.ah cy 1 0 R)/\lk 6 e1=.c (.ep (.ah zb 5 0 n) 5 b 0)/\lk 7 e1=Uv i) o.ab.length ?_ ?_))
 ·exact⟨0,ZA,ZA,by simpa using s,Rf0⟩
 ·clear s l0 l1 l2 l6;rintro m e1 H1 ⟨i,hm,hi,s,l0,l1,l2,l6,l7⟩;obtain⟨RW,j,on,cn,bg,bx,ba,_,_⟩:=Fw s.t c hb hl ho;obtain⟨gk,dM,fx,ki⟩:=EE s.t c hl ho;refine Q1 (Qa ?_);simp only[go_sem,l0,l1,l2,l6,l7,cn,bg,bx,ba,hb,gk,dM,fx,Jg,Jf];try intro _
  refine Wt ?_ ?_
  ·intro hc;have af:i<o.ab.length:=ZD
   obtain⟨z,gS,db⟩:=OBlk.phZ aq af;rw[gS]at ba;refine Zc ?_
   refine Wq ?_;simp only[go_sem,cn,bg,bx,ba,hb,Jg,Jf];refine Lr s.w ZA ZA λH2 h2=>?_;have s:=s.setW h2;obtain⟨RW,j,on,cn,bg,bx,ba,_,_⟩:=Fw s.t c hb hl ho;rw[gS]at ba;obtain⟨PR,to,ya,hz,vK,wA,tp,fX,Av,iE⟩:=rdPh s.t c hl ho db af;simp only[go_sem,Qie,cn,bg,bx,ba,hb,hz,vK,tp,af,Jg,Jf];intro H3 h3;have pA:(z,Obj.vec 2 (o.ab.map OPhi.row))∈o.phN:=Je _ (by rw[db];simp);have s:NSt q os zb n R wl cy ids F (nx+i+1) cs Z H3:=⟨Ty.st s.t (LGo.of hl (by rw[ho];exact OBlk.phM pA)) h3 (iE.set Zbm (by
    have hg:(o.ab.map OPhi.row).getD i []=[Ui o.ab[i].to,.ah ya 1 0 o.ab[i].ns.length]:=by
     simp only[Jd,Jx,Jh af,J0,Jz,OPhi.row,Av]
    rw[hg];exact .cons (.inr ⟨_,_,Rf0⟩) (.cons (.inl rfl) .nil)) (λr' _ h=>h) (hX _ pA _)) (λm' _ r h=>h),s.c⟩
   refine Zh ?_;refine⟨Qv,?_⟩;show ∃m,_;exact⟨o.ab.length-(i+1),ZA,i+1,rfl,ZA,by have e:nx+((i+1:Nat):Int)=nx+i+1:=ZA;rw[e];exact s,Rf0⟩
  ·intro hc;have iZ:i=o.ab.length:=by have:o.ab.length<=i:=ZD;omega
   subst iZ;refine Zb ?_;exact h _ _ s ⟨rfl,rfl,rfl,rfl⟩
theorem phB (c:NC q os zb R n ids)(hb:b<n)(hl:b<os.length)(ho:os[b]=o)(hy:o.d=y)(hq:b<q.blocks.length)(nZ:q.blocks[b]=y)(s:NSt q os zb n R wl cy ids F nx cs Z H)(hk:LK wl b cy R n zb e)(hN:o.ab.length<=100000)
  (h:∀e' H' cs',NSt q os zb n R wl cy ids F nx cs' Z H'->LK wl b cy R n zb e'->Cr prog Tk Q e' H'):Cr prog Tj Q e H:=by
 obtain⟨l0,l1,l2,l6⟩:=hk;have aq:=c.bo _ (Jb hl);rw[ho]at aq;have cp:=c.ok.bs b hq;rw[nZ]at cp;have lB:y.ab.length=o.ab.length:=by rw[<-hy];simp[OBlk.d]
 refine Q1 (Qa ?_);simp only[go_sem,l0,l1,l2,l6];refine Qh (Qe (Qy (λm e1 H1=>∃(i:Nat) (cs:List Int),m=o.ab.length-i/\i<=o.ab.length/\NSt q os zb n R wl cy ids F nx cs Z H1/\lk 0 e1=Up wl/\lk 1 e1=Uv b/\lk 2 e1=.c (.ah cy 1 0 R)/\lk 6 e1=.c (.ep (.ah zb 5 0 n) 5 b 0)/\lk 8 e1=Uv i) o.ab.length ?_ ?_))
 ·exact⟨0,cs,ZA,ZA,s,Rf0⟩
 ·clear s l0 l1 l2 l6;rintro m e1 H1 ⟨i,cs,hm,hi,s,l0,l1,l2,l6,l8⟩;obtain⟨RW,j,on,cn,bg,bx,ba,_,_⟩:=Fw s.t c hb hl ho;obtain⟨gk,dM,fx,ki⟩:=EE s.t c hl ho;refine Q1 (Qa ?_);simp only[go_sem,l0,l1,l2,l6,l8,cn,bg,bx,ba,hb,gk,dM,fx,Jg,Jf];try intro _
  refine Wt ?_ ?_
  ·intro hc;have af:i<o.ab.length:=ZD
   have aP:i<y.ab.length:=ZA
   obtain⟨z,gS,db⟩:=OBlk.phZ aq af;rw[gS]at ba;obtain⟨PR,to,ya,hz,vK,wA,tp,fX,Av,iE⟩:=rdPh s.t c hl ho db af;have hw:=s.w;rw[wO]at hw;have lq:=s.cu;have qq:=s.ct;have cL:=s.cl;obtain⟨hv,bH⟩:=(cp.pto _ (Jb aP)).nat;rw[c.hR]at bH;refine Zc ?_
   refine Wq ?_;generalize hr:y.ab[i].to.toNat=r at *;have dB:r<cs.length:=ZaQ
   simp only[go_sem,hw,cn,bg,bx,ba,hb,hz,vK,wA,tp,af,hq,Qn,CU _ _ hq,BlkD.cells,nZ,Qz,aP,D2 _ _ aP,PhiD.cells,hv,bH,lq,cL,Qk _ _ dB,F8,Jg,Jf];intro H2 h2;have s:=s.setC h2;refine Zh ?_;refine⟨Qv,?_⟩;show ∃m,_;exact⟨o.ab.length-(i+1),ZA,i+1,_,rfl,ZA,s,Rf0⟩
  ·intro hc;refine Zb ?_;exact h _ _ _ s ⟨rfl,rfl,rfl,rfl⟩
def XC (os:List OBlk)(zb:Nat)(U:Nat->Prop)(o:OBlk)(b:Nat)(j:Bool)(i k m r:Nat):Prop:=XU os zb U m r\/XP o zb b j i k m r
theorem XC.stepA {k m r:Nat}(h:XC os zb U o b true i (k+1) m r):XC os zb U o b true i k m r:=by
 rcases h with h|h|h|⟨i',bZ,h1,h2⟩
 ·exact .inl h
 ·exact .inr (.inl h)
 ·exact .inr (.inr (.inl h))
 ·exact .inr (.inr (.inr ⟨i',bZ,h1,ZA⟩))
theorem XC.stepI {k m r:Nat}(h:XC os zb U o b true (i+1) 0 m r):XC os zb U o b true i k m r:=by
 rcases h with h|h|⟨p,hp,h1,h2⟩|⟨i',bZ,h1,h2⟩
 ·exact .inl h
 ·exact .inr (.inl h)
 ·exact .inr (.inr (.inl ⟨p,hp,h1,ZA⟩))
 ·exact .inr (.inr (.inr ⟨i',bZ,h1,ZA⟩))
theorem XC.notA (ap:Apart os zb)(hl:b<os.length)(ho:os[b]=o)(hU:¬U b){k:Nat}(hi:i<o.ins.length):¬XC os zb U o b true i (k+1) o.ins[i].a.y k:=by
 subst ho;have hm:(os[b].ins[i].a.y,Obj.vec 1 (Qb os[b].ins[i].a.ns))∈os[b].inN:=Jj _ (os[b].aM hi);rintro (h|⟨_,h,_⟩|⟨p,hp,h1,h2⟩|⟨i',bZ,h1,h2⟩)
 ·exact ap.inU hl hm hU _ h
 ·exact ap.zbn hl (OBlk.inM hm) h
 ·exact (ap.blk hl).ii _ (os[b].aM hi) p hp h1
 ·by_cases uX:i=i'
  ·subst uX;omega
  ·exact (ap.blk hl).ij i i' hi bZ uX h1
theorem XC.notI (ap:Apart os zb)(hl:b<os.length)(ho:os[b]=o)(hU:¬U b){ob:Obj}(hz:(z,ob)∈o.il):¬XC os zb U o b true (i+1) 0 z i:=by
 subst ho;have hm:(z,ob)∈os[b].inN:=Je _ hz;rintro (h|⟨_,h,_⟩|⟨p,hp,h1,h2⟩|⟨i',bZ,h1,h2⟩)
 ·exact ap.inU hl hm hU _ h
 ·exact ap.zbn hl (OBlk.inM hm) h
 ·omega
 ·exact (ap.blk hl).ii _ (os[b].aM bZ) (z,ob) hz h1.symm
theorem phC (c:NC q os zb R n ids)(hb:b<n)(hl:b<os.length)(ho:os[b]=o)(hy:o.d=y)(hq:b<q.blocks.length)(nZ:q.blocks[b]=y)(hU:¬U b)(s:NSt q os zb n R wl cy ids F nx cs (XC os zb U o b true 0 0) H)(hk:LK wl b cy R n zb e)
  (h0:0<=nx) (h1:nx+o.ins.length<=2 ^ 40) (hN:o.ins.length<=100000)
  (h:∀e' H' nx' cs',nx<=nx'->nx'<=nx+o.ins.length->NSt q os zb n R wl cy ids F nx' cs' (XC os zb U o b true o.ins.length 0) H'->LK wl b cy R n zb e'->Cr prog Tl Q e' H'):Cr prog Tk Q e H:=by
 obtain⟨l0,l1,l2,l6⟩:=hk;have aq:=c.bo _ (Jb hl);rw[ho]at aq;have cp:=c.ok.bs b hq;rw[nZ]at cp;have ap:Apart os zb:=s.t.nodup;refine Q1 (Qa ?_);simp only[go_sem,l0,l1,l2,l6];refine Qh (Qe (Qy (λm e1 H1=>∃(i:Nat) (nx':Int) (cs:List Int),m=o.ins.length-i/\i<=o.ins.length/\nx<=nx'/\nx'<=nx+i/\NSt q os zb n R wl cy ids F nx' cs (XC os zb U o b true i 0) H1/\lk 0 e1=Up wl/\lk 1 e1=Uv b/\lk 2 e1=.c (.ah cy 1 0 R)/\lk 6 e1=.c (.ep (.ah zb 5 0 n) 5 b 0)/\lk 9 e1=Uv i) o.ins.length ?_ ?_))
 ·exact⟨0,nx,cs,ZA,ZA,ZA,ZA,s,Rf0⟩
 ·clear s l0 l1 l2 l6;rintro m e1 H1 ⟨i,nx',cs,hm,hi,fd,yF,s,l0,l1,l2,l6,l9⟩;obtain⟨RW,j,on,cn,bg,bx,ba,_,_⟩:=Fw s.t c hb hl ho;obtain⟨_,_,fx,ki⟩:=EE s.t c hl ho;obtain⟨lc,iw⟩:=Qa8z s.t c hl ho;refine Q1 (Qa ?_);simp only[go_sem,l0,l1,l2,l6,l9,cn,bg,bx,ba,hb,lc,iw,ki,Jg,Jf];try intro _
  refine Wt ?_ ?_
  ·intro hc;have af:i<o.ins.length:=ZD
   clear cn bg bx ba lc iw;obtain⟨z,ja,cK⟩:=OBlk.inZ aq af;have pA:(z,Obj.vec 4 (o.ins.map OIns.row))∈o.il:=by rw[cK];simp
   obtain⟨x,hx⟩:∃x,o.ins[i]=x:=⟨_,rfl⟩;have kw:x.d∈y.ins:=by rw[<-hy,<-hx];exact Jq.2 ⟨_,Jb af,rfl⟩
   have hal3:x.a.ns.length<=3:=cp.al _ kw;have Aw:∀k,XC os zb U o b true i k z i:=λk=>.inr (.inr (.inl ⟨_,pA,rfl,Jf _⟩));refine Zc ?_
   refine CN (λe2 H2=>∃(nx2:Int) (cs:List Int),nx'<=nx2/\nx2<=nx'+1/\NSt q os zb n R wl cy ids F nx2 cs (XC os zb U o b true (i+1) 0) H2/\lk 0 e2=Up wl/\lk 1 e2=Uv b/\lk 2 e2=.c (.ah cy 1 0 R)/\lk 6 e2=.c (.ep (.ah zb 5 0 n) 5 b 0)/\lk 9 e2=Uv i) ?_ ?_
   ·intro Q2 bS _ _;refine Qe (Q1 ?_);refine Za ?_;refine Qh (Qe (Qy (λm e1 H1=>∃(k:Nat),m=x.a.ns.length-k/\k<=x.a.ns.length/\NSt q os zb n R wl cy ids F nx' cs (XC os zb U o b true i k) H1/\lk 0 e1=Up wl/\lk 1 e1=Uv b/\lk 2 e1=.c (.ah cy 1 0 R)/\lk 6 e1=.c (.ep (.ah zb 5 0 n) 5 b 0)/\lk 9 e1=Uv i/\lk 10 e1=Uv k) x.a.ns.length ?_ ?_))
    ·exact⟨0,ZA,ZA,s,Rf0⟩
    ·clear s l0 l1 l2 l6 l9;rintro m2 e3 H3 ⟨k,fz,fQ,s,l0,l1,l2,l6,l9,l10⟩;obtain⟨RW,j,on,cn,bg,bx,ba,_,_⟩:=Fw s.t c hb hl ho;rw[ja]at ba;obtain⟨IR,hz,sF,tu,nX,_⟩:=rdIn s.t hl ho cK af (Aw k);have hsa:SimO (XC os zb U o b true i k o.ins[i].a.y) (.vec 1 (Qb o.ins[i].a.ns)) (H3 o.ins[i].a.y):=s.t.get (LGo.of hl ZaJ);obtain⟨ns',pj,bF,kF,iE⟩:=FT hsa;have u6:=λk=>XC.notA (k:=k) ap hl ho hU af;have cr:(o.ins[i].a.y,Obj.vec 1 (Qb o.ins[i].a.ns))∈LGo os zb:=LGo.of hl ZaJ;rw[hx]at nX pj bF kF iE u6 cr;refine Q1 (Qa ?_);simp only[go_sem,l0,l1,l2,l6,l9,l10,cn,bg,bx,ba,hb,hz,sF,tu,nX,af,pj,Qc,bF,Jg,Jf];try intro _
     refine Wt ?_ ?_
     ·intro aC;have aP:k<x.a.ns.length:=ZG;have bR:k<ns'.length:=ZA;have hXk:XC os zb U o b true i k x.a.y k:=.inr (.inr (.inr ⟨i,af,by rw[hx],.inr ⟨rfl,Jf _⟩⟩));have ov:=kF k aP hXk;have pD:x.a.ns.getD k 0∈x.d.args:=I1 aP;obtain⟨hv,bH⟩:=(cp.args _ kw _ pD).nat;rw[c.hR]at bH;rw[<-ov]at hv bH;have bu:(Qb ns').take x.a.ns.length=Qb ns':=Ji ZZ;have lq:=s.cu;have qq:=s.ct;have cL:=s.cl;refine Zc ?_
      refine Wq ?_;generalize hr:(ns'.getD k 0).toNat=r at *;have dB:r<cs.length:=ZaQ;simp only[go_sem,cn,bg,bx,ba,hb,hz,sF,tu,nX,af,pj,bu,Qc,bF,aP,Qk _ _ bR,hv,bH,lq,qq,s.c,Qk _ _ dB,F8,Jg,Jf];intro H4 h4;have s:NSt q os zb n R wl cy ids F nx' cs (XC os zb U o b true i (k+1)) H4:=⟨OA s.t cr iE aP _ h4 (λm' r' _ hh=>hh.stepA) (u6 k),s.c⟩;refine Zh ?_;refine⟨Qv,?_⟩;show ∃m,_;exact⟨x.a.ns.length-(k+1),ZA,k+1,rfl,ZA,s,Rf0⟩
     ·intro aC;refine Zb ?_;refine Qa ?_;simp only[go_sem,cn,bg,bx,ba,hb,hz,sF,tu,nX,af,Jg,Jf];refine IX ?_;try simp only[go_sem]
      refine Wu ?_ ?_
      ·intro bv;obtain⟨hv,bH⟩:=(cp.to _ kw bv).nat;rw[c.hR]at bH;have wM:x.d.to=x.to:=rfl;rw[wM]at hv bH;refine Za ?_;refine Lr s.w ZA ZA λH4 h4=>?_;have s:=s.setW h4;obtain⟨RW,j,on,cn,bg,bx,ba,_,_⟩:=Fw s.t c hb hl ho;rw[ja]at ba;obtain⟨IR,hz,sF,tu,nX,_⟩:=rdIn s.t hl ho cK af (Aw k);rw[hx]at nX;have lq:=s.cu;have qq:=s.ct;have cL:=s.cl;simp only[go_sem,Qgt];generalize hr:x.to.toNat=r at *;have dB:r<cs.length:=ZaQ;refine Qa ?_;simp only[go_sem,cn,bg,bx,ba,hb,hz,sF,tu,nX,af,hv,bH,lq,Qc,s.c,Qk _ _ dB,F8,Jg,Jf];intro H5 h5;have s:=s.setC h5;obtain⟨RW,j,on,cn,bg,bx,ba,_,_⟩:=Fw s.t c hb hl ho;rw[ja]at ba;obtain⟨IR,hz,sF,tu,nX,ud⟩:=rdIn s.t hl ho cK af (Aw k);rw[hx]at nX;refine Qt ?_;simp only[go_sem,cn,bg,bx,ba,hb,hz,sF,nX,af,Jg,Jf];intro H6 h6;have s:NSt q os zb n R wl cy ids F (nx'+1) (cs.set r nx') (XC os zb U o b true (i+1) 0) H6:=⟨Ty.st s.t (LGo.of hl (by rw[ho];exact OBlk.inM (Je _ pA))) h6 (ud.set Zbm (by
        have hg:(o.ins.map OIns.row).getD i []=[Ui x.op,Ui x.to,.ah x.a.y 1 0 x.a.ns.length,Ui x.n]:=by
         simp only[Jd,Jx,Jh af,J0,Jz,hx];rfl
        rw[hg];exact .cons (.inl rfl) (.cons (.inr ⟨_,_,Rf0⟩) (.cons (.inl rfl) (.cons (.inl rfl) .nil)))) (λr' _ hh=>hh.stepI) (XC.notI ap hl ho hU pA)) (λm' _ r' hh=>hh.stepI),s.c⟩
       exact bS _ _ ⟨nx'+1,_,ZA,ZA,s,Rf0⟩
      ·intro bv;refine Zc ?_
       exact bS _ _ ⟨nx',cs,ZA,ZA,s.weak λm r hh=>hh.stepI,Rf0⟩
   ·rintro e2 H2 ⟨nx2,cs,dg,fW,s,l0,l1,l2,l6,l9⟩;refine Qt ?_;simp only[go_sem,l0,l1,l2,l6,l9];refine⟨Qv,?_⟩;show ∃m,_;exact⟨o.ins.length-(i+1),ZA,i+1,nx2,cs,rfl,ZA,ZA,ZA,s,Rf0⟩
  ·intro hc;have iZ:i=o.ins.length:=by have:o.ins.length<=i:=ZD;omega
   subst iZ;refine Zb ?_;exact h _ _ _ _ fd yF s ⟨rfl,rfl,rfl,rfl⟩
theorem phD (c:NC q os zb R n ids)(hb:b<n)(hl:b<os.length)(ho:os[b]=o)(hy:o.d=y)(hq:b<q.blocks.length)(nZ:q.blocks[b]=y)(hU:¬U b){i0:Nat}(s:NSt q os zb n R wl cy ids F nx cs (XC os zb U o b true i0 0) H)(hk:LK wl b cy R n zb e)
  (h:∀e' H',NSt q os zb n R wl cy ids F nx cs (XU os zb U) H'->LK wl b cy R n zb e'->Cr prog Tm Q e' H'):Cr prog Tl Q e H:=by
 obtain⟨l0,l1,l2,l6⟩:=hk;have cp:=c.ok.bs b hq;rw[nZ]at cp;have ap:Apart os zb:=s.t.nodup;obtain⟨RW,j,on,cn,bg,bx,ba,kF,iE⟩:=Fw s.t c hb hl ho;obtain⟨_,_,fx,ki⟩:=EE s.t c hl ho;obtain⟨rfl,rfl⟩:=kF (.inr (.inl ⟨rfl,rfl,rfl⟩));have AQ:y.jump=o.jump/\y.on=o.on:=by rw[<-hy];exact⟨rfl,rfl⟩
 refine Q1 (Qa ?_);simp only[go_sem,l0,l1,l2,l6,cn,bg,bx,ba,hb,Jg,Jf];refine CN (λe2 H2=>NSt q os zb n R wl cy ids F nx cs (XU os zb U) H2/\LK wl b cy R n zb e2) ?_ ?_
 ·intro Q2 bS _ _;refine Wu ?_ ?_
  ·intro hc;have hj:¬y.jump=1:=by rw[AQ.1];simpa using hc
   obtain⟨hv,bH⟩:=(cp.on hj).nat;rw[c.hR]at bH;rw[AQ.2]at hv bH;have lq:=s.cu;have qq:=s.ct;generalize hr:o.on.toNat=r at *;have dB:r<cs.length:=ZaQ
   refine Qt ?_;simp only[go_sem,cn,bg,bx,ba,hb,hv,bH,lq,qq,Qc,s.c,Qk _ _ dB,Jg,Jf];intro H2 h2;have be:=λr'=>ap.zbP hl i0 0 r';have hX:∀m' r',XU os zb U m' r'->XC os zb U o b true i0 0 m' r':=λm' r' hh=>.inl hh;refine bS _ _ ⟨⟨Ty.st s.t LGo.zbm h2 (iE.set (by rw[Jc];exact hl) (by
    have hg:(os.map OBlk.row).getD b []=o.row:=by
     simp only[Jd,Jx,Jh hl,J0,Jz,ho]
    rw[hg,OBlk.row_eq];exact .cons (.inl rfl) (.cons (.inl rfl) (.cons (.inl rfl) (.cons (.inr ⟨_,_,Rf0⟩) (.cons (.inl rfl) .nil))))) (λr' _ hh=>hX _ _ hh) (ap.zbU hU)) (λm' _ r' hh=>hX _ _ hh),s.c⟩,rfl,rfl,rfl,rfl⟩
  ·intro _;refine Zc ?_
   exact bS _ _ ⟨s.weak λm r hh=>.inl hh,Rf0⟩
 ·rintro e2 H2 ⟨s,hk⟩;exact h _ _ s hk
theorem phE (c:NC q os zb R n ids)(hb:b<n)(hl:b<os.length)(ho:os[b]=o)(hy:o.d=y)(hq:b<q.blocks.length)(nZ:q.blocks[b]=y)(s:NSt q os zb n R wl cy ids F nx cs (XU os zb U) H)(hk:LK wl b cy R n zb e)
  (h:∀e' H',NSt q os zb n R wl cy ids F nx cs (XU os zb U) H'->LK wl b cy R n zb e'->Cr prog Qic Q e' H'):Cr prog Tm Q e H:=by
 obtain⟨l0,l1,l2,l6⟩:=hk;have cp:=c.ok.bs b hq;rw[nZ]at cp;have ap:Apart os zb:=s.t.nodup;have oK:o.nx.ns.length<=2:=by have:=cp.nxl;rw[<-hy]at this;exact this
 have sZ:y.next=o.nx.ns:=by rw[<-hy];rfl
 refine Q1 (Qa ?_);simp only[go_sem,l0,l1,l2,l6];refine Qh (Qe (Qy (λm e1 H1=>∃(i:Nat),m=o.nx.ns.length-i/\i<=o.nx.ns.length/\NSt q os zb n R wl cy ids F nx cs (XU os zb U) H1/\lk 0 e1=Up wl/\lk 1 e1=Uv b/\lk 2 e1=.c (.ah cy 1 0 R)/\lk 6 e1=.c (.ep (.ah zb 5 0 n) 5 b 0)/\lk 12 e1=Uv i) o.nx.ns.length ?_ ?_))
 ·exact⟨0,ZA,ZA,s,Rf0⟩
 ·clear s l0 l1 l2 l6;rintro m e1 H1 ⟨i,hm,hi,s,l0,l1,l2,l6,l12⟩;obtain⟨RW,j,on,cn,bg,bx,ba,_,_⟩:=Fw s.t c hb hl ho;obtain⟨_,_,fx,ki⟩:=EE s.t c hl ho;have xN:SimO (XU os zb U o.nx.y) (.vec 1 (Qb o.nx.ns)) (H1 o.nx.y):=s.t.get (LGo.of hl (by rw[ho];exact o.nxM));obtain⟨ns',pj,bF,kF,_⟩:=FT xN;refine Q1 (Qa ?_);simp only[go_sem,l0,l1,l2,l6,l12,cn,bg,bx,ba,hb,pj,Qc,bF,Jg,Jf];try intro _
  refine Wt ?_ ?_
  ·intro hc;have af:i<o.nx.ns.length:=ZD
   have aP:i<ns'.length:=ZA
   have bu:(Qb ns').take o.nx.ns.length=Qb ns':=Ji ZZ;have ov:=kF i af (.inl ⟨b,hl,by rw[ho]⟩);have pD:o.nx.ns.getD i 0∈y.next:=by rw[sZ];exact I1 af
   have hvr:=cp.nx _ pD;obtain⟨v,hv⟩:∃v:Nat,o.nx.ns.getD i 0=(v:Int):=⟨(o.nx.ns.getD i 0).toNat,ZA⟩;rw[hv]at ov hvr;have tP:v<q.blocks.length:=ZA
   have lG:v<n:=by rw[<-c.hn];exact tP
   refine Zc ?_
   refine Wc ?_;simp only[go_sem,cn,bg,bx,ba,hb,pj,bu,Qc,bF,af,Qk _ _ aP,ov,Jg,Jf];have hw:=s.w;rw[wO]at hw;refine Zj hw ?_;refine F6 (nx:=gnx q) (.mk' _ _ _ _) rfl (Fb H1 q false).x λH2 hu=>?_;have s:NSt q os zb n R wl cy ids F nx cs (XU os zb U) H2:=⟨s.t.au hu,s.c⟩;rw[Qn];simp only[go_sem,Qgv];refine OR (ns:=Qs (gnx q) (v:Int) q.blocks.length) (.mk' _ _ _ _) rfl λr hr=>?_;have lS:(b:Int)∈Qs (gnx q) (v:Int) q.blocks.length:=by
    simp only[Qs,Jq,Jbc,Jad];refine⟨b,⟨hq,List.contains_iff_mem.2 ?_⟩,rfl⟩;rw[EZ hq,nZ,<-hv];exact pD
   obtain⟨a,ra,ee⟩:∃a:Nat,r=(a:Int)/\a<(Qs (gnx q) (v:Int) q.blocks.length).length:=by
    rcases hr with ⟨_,hn⟩|⟨a,h1,h2,_⟩
    ·exact absurd lS hn
    ·exact⟨a,h1,h2⟩
   subst ra;clear hr;simp only[go_sem,Qgu];obtain⟨bH,_,sQ,tQ,qP,hvp,_⟩:=c.get lG;obtain⟨o',fV⟩:∃o',os[v]=o':=⟨_,rfl⟩;obtain⟨y',eQ⟩:∃y',q.blocks[v]=y':=⟨_,rfl⟩;rw[fV,eQ]at sQ;rw[fV]at tQ hvp;rw[eQ]at qP;have hyl':y'.ab.length=o'.ab.length:=by rw[<-sQ];simp[OBlk.d]
   refine Za ?_;refine Qe (Qy (λm e1 H1=>∃(k:Nat),m=o'.ab.length-k/\k<=o'.ab.length/\NSt q os zb n R wl cy ids F nx cs (XU os zb U) H1/\lk 0 e1=Up wl/\lk 1 e1=Uv b/\lk 2 e1=.c (.ah cy 1 0 R)/\lk 6 e1=.c (.ep (.ah zb 5 0 n) 5 b 0)/\lk 12 e1=Uv i/\
    lk 13 e1=Uv v/\lk 14 e1=Uv a/\lk 15 e1=Uv k) o'.ab.length ?_ ?_)
   ·exact⟨0,ZA,ZA,s,Rf0⟩
   ·clear s hw cn bg bx ba pj bu bF kF aP xN l0 l1 l2 l6 l12;rintro m2 e2 H3 ⟨k,fz,fQ,s,l0,l1,l2,l6,l12,l13,l14,l15⟩;have hw:=s.w;rw[wO]at hw;refine Q1 (Qa ?_);simp only[go_sem,l0,l1,l2,l6,l12,l13,l14,l15,hw,tP,Qn,CU _ _ tP,BlkD.cells,eQ,Qz];try intro _
    refine Wt ?_ ?_
    ·intro aC;have aP:k<y'.ab.length:=ZG;have bR:k<o'.ab.length:=ZA;obtain⟨z,gS,db⟩:=OBlk.phZ tQ bR;obtain⟨RW,j,on,cn,bg,bx,ba,_,_⟩:=Fw s.t c lG bH fV;obtain⟨_,_,hpw',hiw'⟩:=EE s.t c bH fV;rw[gS]at ba;obtain⟨PR,to,ya,hz,vK,wA,tp,fX,Av,_⟩:=rdPh s.t c bH fV db bR;obtain⟨p,hp⟩:∃p,y'.ab[k]=p:=⟨_,rfl⟩;have dD:p∈y'.ab:=(by rw[<-hp];exact Jb aP);have ym:p.args=o'.ab[k].ns:=by
      have h1:(o'.ab.map OPhi.d)[k]? = some o'.ab[k].d:=(by simp[bR]);have h2:o'.ab.map OPhi.d=y'.ab:=(by rw[<-sQ];rfl);rw[h2,Jh aP,hp]at h1;rw[J5 h1];rfl
     have mP:=qP.pal p dD;have lx:a<p.args.length:=ZA;have oI:o'.ab[k].ns.length=p.args.length:=(by rw[ym]);have tE:(ya,Obj.vec 1 (Qb o'.ab[k].ns))∈LGo os zb:=LGo.of bH (by rw[fV];exact OBlk.phM fX);obtain⟨ns',pj,bF,_,iE⟩:=FT (s.t.get tE);rw[oI]at tp bF;have u5:∀r,¬XU os zb U ya r:=λr=>ap.ph bH (p:=(ya,Obj.vec 1 (Qb o'.ab[k].ns))) (by rw[fV];exact fX) r;have bu:(Qb ns').take p.args.length=Qb ns':=Ji ZZ;have han:a<ns'.length:=ZA;obtain⟨hu,pH⟩:=(qP.pargs p dD _ (I1 lx)).nat;rw[c.hR]at pH;have lq:=s.cu;have qq:=s.ct;generalize hr:(p.args.getD a 0).toNat=r at *;have dB:r<cs.length:=(by rw[s.c];exact pH);refine Zc ?_
     refine Wq ?_;simp only[go_sem,hw,tP,lG,Qn,CU _ _ tP,BlkD.cells,eQ,Qz,aP,D2 _ _ aP,PhiD.cells,hp,cn,bg,bx,ba,hz,vK,wA,tp,bR,pj,Qc,bF,lx,Qk _ _ lx,Qk _ _ han,hu,pH,lq,qq,s.c,Qk _ _ dB,F8,Jg,Jf];intro H4 h4;have s:NSt q os zb n R wl cy ids F nx cs (XU os zb U) H4:=⟨OA s.t tE iE (by rw[oI];exact lx) _ h4 (λm' r' _ hh=>hh) (u5 a),s.c⟩;refine Zh ?_;refine⟨Qv,?_⟩;show ∃m,_;exact⟨o'.ab.length-(k+1),ZA,k+1,rfl,ZA,s,Rf0⟩
    ·intro _;refine Zb ?_;refine Zh ?_;refine⟨Qv,?_⟩;show ∃m,_;exact⟨o.nx.ns.length-(i+1),ZA,i+1,rfl,ZA,s,Rf0⟩
  ·intro _;refine Zb ?_;exact h _ _ s ⟨rfl,rfl,rfl,rfl⟩
end Y
namespace Y
attribute [local go_sem] cond_true cond_false Bool.not_true Bool.not_false
attribute [local instance] Classical.propDecidable
open Go.Proofs.Tryz
variable{F:Heap}{q:CodeD}{zb wl cy R n b:Nat}{cs:List Int}
def wgt (os:List OBlk)(x:Nat):Nat:=match os[x]? with
 |some o=>o.ab.length+o.ins.length
 |none=>0
theorem Qa8f{o:OBlk}(h:x<os.length)(ho:os[x]=o):wgt os x=o.ab.length+o.ins.length:=by simp[wgt,h,ho]
theorem Qa3b{g:Nat->List Nat}:depL n g b<=n:=by
 have:=Jax (λa=>Dd g a b) (List.range n);simpa[depL]using this
theorem Qalx (ids:List Int)(b:Nat):(DW ids b).Nodup:=List.Nodup.sublist List.filter_sublist List.nodup_range
theorem Qarg {N B:Nat}{w:Nat->Nat}(hw:∀x,w x<=B)(U:Nat->Prop):potW N w U<=N * B:=by
 have key:∀m,(((List.range m).filter λx=>decide (U x)).map w).sum<=m * B:=λm=>by
  induction m with
  |zero=>simp
  |succ m ih=>
   rw[Jaz,Jap,Jo,List.sum_append,Jbg];have h1:(((List.filter (λx=>decide (U x)) [m]).map w)).sum<=B:=by
    by_cases h:U m
    ·simp[h];exact hw m
    ·simp[h]
   omega
 exact key N
noncomputable def pW (n:Nat)(w:Nat->Nat)(U:Nat->Prop):Nat:=@potW n w U λ_=>Classical.propDecidable _
theorem Qa7j {w:Nat->Nat}{V:Nat->Prop}(hb:b<n)(hU:U b)(hV:∀x,V x↔U x/\x≠b):pW n w V+w b=pW n w U:=by
 unfold pW;exact Qa0w hb hU hV
theorem Ox {w:Nat->Nat}{V:Nat->Prop}(h:∀x,V x->U x):pW n w V<=pW n w U:=by
 unfold pW;exact Qa5b h
theorem Qa0j {N B:Nat}{w:Nat->Nat}(hw:∀x,w x<=B)(U:Nat->Prop):pW N w U<=N * B:=by
 unfold pW;exact Qarg hw U
theorem Qa4x (c:NC q os zb R n ids)(M:Int)(hM:M<=2 ^ 40):∀(N b:Nat) (U:Nat->Prop) (nx:Int) (cs:List Int) (cy:Nat) (H:Heap) (K:V->Heap->Prop),n<N+depL n (nxN (gnx q)) b->b<n->(∀x,Sub ids b x->U x)->NSt q os zb n R wl cy ids H nx cs (XU os zb U) H->0<=nx->nx+pW n (wgt os) U<=M->
  (∀nx' cs' H',NSt q os zb n R wl cy ids H nx' cs' (XU os zb λx=>U x/\¬Sub ids b x) H'->0<=nx'->nx'+pW n (wgt os) (λx=>U x/\¬Sub ids b x)<=M->K (.tup []) H')->
  Qu prog Tb [Up wl,Uv b,.c (.ah cy 1 0 R)] H K:=by
 intro N
 induction N with
 |zero=>intro b U nx cs cy H K h1;have:=Qa3b (n:=n) (g:=nxN (gnx q)) (b:=b);omega
 |succ N ih=>
  intro b U nx cs cy H K hN hb BN s h0 yl hK;obtain⟨hl,hq,hd,aq,cp,db,cK⟩:=c.get hb;obtain⟨o,ho⟩:∃o,os[b]=o:=⟨_,rfl⟩;obtain⟨y,hy⟩:∃y,q.blocks[b]=y:=⟨_,rfl⟩;rw[ho]at hd aq db cK;rw[hy]at hd cp;have ap:Apart os zb:=s.t.nodup;have w6:U b:=BN b .refl;obtain⟨U1,vE⟩:∃U1:Nat->Prop,U1=λx=>U x/\x≠b:=⟨_,rfl⟩;have vD:¬U1 b:=by rw[vE];exact λh=>h.2 rfl
  have lI:=Qa7j (n:=n) (w:=wgt os) (U:=U) (V:=U1) hb w6 (λx=>by rw[vE]);rw[Qa8f hl ho]at lI;have s1:NSt q os zb n R wl cy ids H nx cs (XC os zb U1 o b true 0 0) H:=by
   refine⟨?_,s.c⟩;refine s.t.weak λm r hh=>?_;rcases hh with (h|⟨x,hx,tk,he⟩)|⟨_,h1,h2⟩|⟨p,hp,h1,_⟩|⟨i',bZ,h1,_⟩
   ·exact .inl h
   ·rw[vE]at tk;exact .inr ⟨x,hx,tk.1,he⟩
   ·exact .inr ⟨b,hl,w6,.inl ⟨h1,h2⟩⟩
   ·exact .inr ⟨b,hl,w6,.inr ⟨p,by rw[ho];exact Je _ hp,h1⟩⟩
   ·exact .inr ⟨b,hl,w6,.inr ⟨_,by rw[ho];exact Jj _ (o.aM bZ),h1⟩⟩
  have Ax:∀p∈o.phN,∀r,¬XC os zb U1 o b true 0 0 p.1 r:=λp hp r hh=>by
   have bV:p∈os[b].phN:=by rw[ho];exact hp
   rcases hh with h|h
   ·exact ap.ph hl bV r h
   ·exact ap.phP hl hl bV true 0 0 r (by rw[ho];exact h)
  clear s;refine Qd Co Q39 ?_;have hw:=s1.w;rw[wO]at hw;obtain⟨RW,j,on,cn,bg,bx,ba,_,_⟩:=Fw s1.t c hb hl ho;refine Qa ?_;simp only[go_sem,hw,cn,bg,hb,Jg,Jf];refine phA c hb hl ho Ax s1 ⟨rfl,rfl,rfl,rfl⟩ h0 ZA ZA λe2 H2 s2 k2=>?_;refine phB c hb hl ho hd hq hy s2 k2 ZA λe3 H3 cs3 s3 k3=>?_;refine phC c hb hl ho hd hq hy vD s3 k3 ZA ZA ZA λe4 H4 nx4 cs4 dg fW s4 k4=>?_;refine phD c hb hl ho hd hq hy vD s4 k4 λe5 H5 s5 k5=>?_;refine phE c hb hl ho hd hq hy s5 k5 λe6 H6 s6 k6=>?_;obtain⟨l0,l1,l2,l6⟩:=k6;have hw:=s6.w;rw[wO]at hw;refine Zp l0 l1 hw ?_;refine YP (by rw[c.t.1];have:=c.ok.b1;rw[c.hn]at this;omega) λH7 hu=>?_;have s7:NSt q os zb n R wl cy ids H nx4 cs4 (XU os zb U1) H7:=⟨s6.t.au hu,s6.c⟩;simp only[go_sem,Qgw,l0,l2];obtain⟨kl,cz⟩:∃kl,DW ids b=kl:=⟨_,rfl⟩;rw[cz];have hkll:kl.length<=160:=by
   have h1:=Jax (λi=>decide (ids.getD i 0=(b:Int))) (List.range ids.length);rw[List.length_range,c.t.1]at h1;have h2:=c.ok.b1;rw[c.hn]at h2;rw[<-cz,DW,c.t.1];omega
  have uN:∀k∈kl,k∈DW ids b:=λk hk=>by rw[cz];exact hk
  have zh:kl.Nodup:=by rw[<-cz];exact Qalx ids b
  refine Za ?_;refine Qe (Qy (λm e1 H1=>∃(i:Nat) (nx':Int) (cs:List Int),m=kl.length-i/\i<=kl.length/\NSt q os zb n R wl cy ids H nx' cs (XU os zb λx=>U1 x/\∀k∈kl.take i,¬Sub ids k x) H1/\0<=nx'/\nx'+pW n (wgt os) (λx=>U1 x/\∀k∈kl.take i,¬Sub ids k x)<=M/\
   lk 0 e1=Up wl/\lk 2 e1=.c (.ah cy 1 0 R)/\lk 16 e1=.c (.sl false 1 (Cs kl))/\lk 17 e1=Uv i) kl.length ?_ ?_)
  ·refine⟨0,nx4,cs4,ZA,ZA,⟨s7.t.weak λm r hh=>?_,s7.c⟩,ZA,?_,Rf0⟩
   ·rcases hh with h|⟨x,hx,tk,he⟩
    ·exact .inl h
    ·exact .inr ⟨x,hx,tk.1,he⟩
   ·have:=Ox (n:=n) (w:=wgt os) (U:=U1) (V:=λx=>U1 x/\∀k∈kl.take 0,¬Sub ids k x) λx hx=>hx.1;omega
  ·clear hw cn bg bx ba s1 s6 s7 hu l0 l1 l2 l6;rintro m e7 H8 ⟨i,nx',cs,hm,hi,s,cq,pO,l0,l2,l16,l17⟩;refine Q1 (Qa ?_);simp only[go_sem,l0,l2,l16,l17,Q6];try intro _
   refine Wt ?_ ?_
   ·intro hc;have af:i<kl.length:=ZD;obtain⟨k,hk⟩:∃k,kl[i]=k:=⟨_,rfl⟩;have kC:k∈DW ids b:=uN k (by rw[<-hk];exact Jb af);have b8:kl.getD i 0=k:=(by simp[Jd,af,hk]);have rQ:=kidsL_mem.1 kC;have uM:k<n:=(by rw[<-c.t.1];exact rQ.1);have hdep:=(c.t.up rQ.1 rQ.2).2;have lq:=s.cu;refine Zc ?_
    refine Wq ?_;simp only[go_sem,af,Q6,D5 _ _ af,b8,lq,s.ct,s.cl,Jac,Jm,Jbd,Jg,Jf];refine⟨.inl trivial,Qr _,by have h1:=c.ok.r1;have h2:=c.ok.r0;have:=c.hR;simp only[LIM];omega,λz hz H9 h9=>?_⟩;have t9:=s.t.al hz h9;simp only[go_sem,Qgx,af,Q6,D5 _ _ af,b8];have jU:Ty (LGo os zb) H9 [(wl,wO q ids zb n nx'),(z,.vec 1 (Qb cs))] (XU os zb λx=>U1 x/\∀k∈kl.take i,¬Sub ids k x) H9 []:=Ty.sub (L:=[]) t9;refine ih k (λx=>U1 x/\∀k∈kl.take i,¬Sub ids k x) nx' cs z H9 _ ZA uM (λx hx=>?_) ⟨jU,s.c⟩ cq pO λnx2 cs2 H10 s10 yN uo=>?_
    ·refine⟨?_,λk' fD eD=>?_⟩
     ·rw[vE];refine⟨BN x (Sub.kid kC hx),λtH=>?_⟩;subst tH;exact Sub.kid_ne c.t kC hx
     ·have hk'm:k'∈kl:=List.mem_of_mem_take fD;have:=Sub.kids_apart c.t (uN k' hk'm) kC eD hx;subst this;rw[<-hk]at fD;exact Lq zh af fD
    have Ay:∀x,(U1 x/\∀k∈kl.take (i+1),¬Sub ids k x)↔((U1 x/\∀k∈kl.take i,¬Sub ids k x)/\¬Sub ids k x):=λx=>by
     rw[Jp af,hk];constructor
     ·rintro⟨g1,g2⟩;exact⟨⟨g1,λk' fD=>g2 k' (Jj _ fD)⟩,g2 k (Je _ ZC)⟩
     ·rintro⟨⟨g1,g2⟩,g3⟩;refine⟨g1,λk' fD=>?_⟩;rcases Jn.1 fD with h|h
      ·exact g2 k' h
      ·simp only[Ja]at h;rw[h];exact g3
    have B1:(λx=>U1 x/\∀k∈kl.take (i+1),¬Sub ids k x)=λx=>(U1 x/\∀k∈kl.take i,¬Sub ids k x)/\¬Sub ids k x:=funext λx=>propext (Ay x);have t11:=Ty.ret (L:=[]) t9 s10.t;refine Zh ?_;refine⟨Qv,?_⟩;show ∃m,_;refine⟨kl.length-(i+1),ZA,i+1,nx2,cs,rfl,ZA,?_,yN,?_,Rf0⟩
    ·rw[B1];exact⟨t11,s.c⟩
    ·rw[B1];exact uo
   ·intro hc;have iZ:i=kl.length:=(by have:kl.length<=i:=(by simpa using hc);omega);subst iZ;rw[Jav]at s pO;refine Qw ?_;simp only[go_sem,X.next,Q5,Cn,CQ,J7,false_imp_iff,implies_true,List.map_nil];have kx:∀x,(U x/\¬Sub ids b x)->(U1 x/\∀k∈kl,¬Sub ids k x):=λx hx=>by
     refine⟨by rw[vE];exact⟨hx.1,λtH=>hx.2 (by rw[tH];exact .refl)⟩,λk hk hs=>hx.2 (Sub.kid (uN k hk) hs)⟩
    refine hK nx' cs H8 ⟨s.t.weak λm r hh=>?_,s.c⟩ cq ?_
    ·rcases hh with h|⟨x,hx,tk,he⟩
     ·exact .inl h
     ·exact .inr ⟨x,hx,kx x tk,he⟩
    ·have:=Ox (n:=n) (w:=wgt os) kx;omega
theorem LGo.vec {zb:Nat}(aq:∀b∈os,b.ok)(bq:∀b∈os,∀p∈b.ab,p.own):∀p∈LGo os zb,∃sz rows,p.2=.vec sz rows:=λp hp=>by
 rcases Jn.1 hp with hp|hp
 ·obtain⟨o,ho,hp⟩:=Jt.1 hp;have h1:=aq o ho;simp only[OBlk.lg,Jn]at hp;rcases hp with hp|hp|hp|hp|hp
  ·simp only[OInts.lg,Ja]at hp;rw[hp];exact⟨_,_,rfl⟩
  ·obtain⟨x,hx,hp⟩:=Jt.1 hp;obtain⟨y,_,e⟩:=bq o ho x hx;rw[e]at hp;simp only[Ja]at hp;rw[hp];exact⟨_,_,rfl⟩
  ·rcases h1.p with ⟨_,_,e⟩|⟨y,_,e⟩
   ·rw[e]at hp;simp at hp
   ·rw[e]at hp;simp only[Ja]at hp;rw[hp];exact⟨_,_,rfl⟩
  ·obtain⟨x,hx,hp⟩:=Jt.1 hp;simp only[OIns.lg,OInts.lg,Ja]at hp;rw[hp];exact⟨_,_,rfl⟩
  ·rcases h1.i with ⟨_,_,e⟩|⟨y,_,e⟩
   ·rw[e]at hp;simp at hp
   ·rw[e]at hp;simp only[Ja]at hp;rw[hp];exact⟨_,_,rfl⟩
 ·simp only[Ja]at hp;rw[hp];exact⟨_,_,rfl⟩
theorem Qa11 {LG E0:Ul}(hv:∀p∈LG,∃sz rows,p.2=.vec sz rows)(kn:Kn H H (E0++LG) []):Ty LG H E0 Z H []:=by
 refine⟨LG,rfl,λp hp ob bf=>?_,kn⟩;have hd:=kn.dE;rw[Jo]at hd;have df:=(Jv.1 hd).2.1;obtain⟨i1,g1⟩:=J9 hp;obtain⟨i2,g2⟩:=J9 bf;have:=Ev df g1 g2 rfl;subst this;rw[g1]at g2;have e:p.2=ob:=by rw[J5 g2]
 obtain⟨sz,rows,h⟩:=hv p hp;rw[<-e,h];exact .same _ _
theorem HR{Z:Nat->Prop}{m k:Nat}(hs:SimO Z (.vec 1 (Qb ns)) (H m))(hS:S m=true)(hk:k=ns.length):∃ns':List Int,ns'.length=ns.length/\FrzC H S (.ah m 1 0 k) (.sl false 1 (Qb ns')):=by
 obtain⟨ns',h1,h2,_⟩:=FT (X:=λ_=>Z) (m:=m) hs;exact⟨ns',h2,(FrzR.same (Qr _)).ah hS h1 ZZ⟩
theorem Rp {β:Type}{S:Nat->Bool}{g:β->List C}{P:β->Prop}:∀(l:List (List C)),(∀r∈l,∃y,FrzL H S r (g y)/\P y)->∃l':List β,FrzR H S l (l'.map g)/\l'.length=l.length/\∀y∈l',P y
 |[],_=>⟨[],.nil,rfl,ZC⟩
 |x::l,h=>by
  obtain⟨y,hy,hp⟩:=h x List.mem_cons_self;obtain⟨l',dq,hn,fH⟩:=Rp l λz hz=>h z (List.mem_cons_of_mem _ hz);refine⟨y::l',.cons hy dq,ZaS,λz hz=>?_⟩;rcases Jy.1 hz with rfl|hz
  ·exact hp
  ·exact fH z hz
theorem He {l:List (List C)}{r:List C}(h:r∈l):∃i,i<l.length/\l.getD i []=r:=by
 obtain⟨i,hi,rfl⟩:=Jr.1 h;exact⟨i,hi,by simp[Jd,hi]⟩
theorem VA{o:OBlk}(aq:o.ok)(bq:∀p∈o.ab,p.own)(hs:∀p∈o.phN,SimO (Z p.1) p.2 (H p.1)/\S p.1=true):∃ps:List PhiD,FrzC H S o.pc (.sl false 2 (Q3 ps))/\ps.length=o.ab.length:=by
 rcases aq.p with ⟨h1,h2,_⟩|⟨z,h1,h2⟩
 ·have h0:o.ab=[]:=Ja4.1 h2;exact⟨[],by rw[h1];exact FrzR.nil.sl,by simp[h0]⟩
 ·obtain⟨hz,A2⟩:=hs (z,.vec 2 (o.ab.map OPhi.row)) (Je _ Zad);obtain⟨PR,g1,g2,g3⟩:=hz.get;rw[Jc]at g2 g3;obtain⟨ps,e1,e2,_⟩:=Rp (H:=H) (S:=S) (g:=PhiD.cells) (P:=λ_=>True) PR λr hr=>by
   obtain⟨i,hi,he⟩:=He hr;have bZ:i<o.ab.length:=ZA
   obtain⟨h4,_⟩:=g3 i bZ;obtain⟨ya,e3,e4⟩:=bq _ (Jb bZ);have hg:(o.ab.map OPhi.row).getD i []=[Ui o.ab[i].to,.ah ya 1 0 o.ab[i].ns.length]:=by
    simp only[Jd,Jx,Jh bZ,J0,Jz,OPhi.row,e3]
   rw[hg,he]at h4;have fX:=hs (ya,.vec 1 (Qb o.ab[i].ns)) (Jj _ (Jt.2 ⟨_,Jb bZ,by rw[e4];simp⟩));obtain⟨ns',_,ew⟩:=HR fX.1 fX.2 rfl
   cases h4 with
   |cons a1 t1=>cases t1 with
    |cons a2 t2=>cases t2 with
     |nil=>
      obtain⟨v,e⟩:=a1.int;have e5:=a2.ah;subst e;subst e5;exact⟨⟨v,ns'⟩,.cons (Qg rfl) (.cons ew .nil),trivial⟩
  exact⟨ps,by rw[h1];exact e1.ah A2 g1 (by rw[Jc,g2]),ZA⟩
theorem Qa20{o:OBlk}(aq:o.ok)(hs:∀p∈o.inN,SimO (Z p.1) p.2 (H p.1)/\S p.1=true):∃is:List InsD,FrzC H S o.ic (.sl false 4 (Cu is))/\is.length=o.ins.length:=by
 rcases aq.i with ⟨h1,h2,_⟩|⟨z,h1,h2⟩
 ·have h0:o.ins=[]:=Ja4.1 h2;exact⟨[],by rw[h1];exact FrzR.nil.sl,by simp[h0]⟩
 ·obtain⟨hz,A2⟩:=hs (z,.vec 4 (o.ins.map OIns.row)) (Je _ Zad);obtain⟨PR,g1,g2,g3⟩:=hz.get;rw[Jc]at g2 g3;obtain⟨ps,e1,e2,_⟩:=Rp (H:=H) (S:=S) (g:=InsD.cells) (P:=λ_=>True) PR λr hr=>by
   obtain⟨i,hi,he⟩:=He hr;have bZ:i<o.ins.length:=ZA
   obtain⟨h4,_⟩:=g3 i bZ;have hg:(o.ins.map OIns.row).getD i []=[Ui o.ins[i].op,Ui o.ins[i].to,.ah o.ins[i].a.y 1 0 o.ins[i].a.ns.length,Ui o.ins[i].n]:=by
    simp only[Jd,Jx,Jh bZ,J0,Jz];rfl
   rw[hg,he]at h4;have fX:=hs (o.ins[i].a.y,.vec 1 (Qb o.ins[i].a.ns)) (Jj _ (o.aM bZ));obtain⟨ns',_,ew⟩:=HR fX.1 fX.2 rfl
   cases h4 with
   |cons a1 t1=>cases t1 with
    |cons a2 t2=>cases t2 with
     |cons a3 t3=>cases t3 with
      |cons a4 t4=>cases t4 with
       |nil=>
        obtain⟨v1,f1⟩:=a1.int;obtain⟨v2,f2⟩:=a2.int;have f3:=a3.ah;obtain⟨v4,f4⟩:=a4.int;subst f1;subst f2;subst f3;subst f4;exact⟨⟨v1,v2,ns',v4⟩,.cons (Qg rfl) (.cons (Qg rfl) (.cons ew (.cons (Qg rfl) .nil))),trivial⟩
  exact⟨ps,by rw[h1];exact e1.ah A2 g1 (by rw[Jc,g2]),ZA⟩
theorem VB(c:NC q os zb R n ids)(t:∀p∈LGo os zb,SimO (Z p.1) p.2 (H p.1))(hS:∀p∈LGo os zb,S p.1=true) :
  ∃bs:List BlkD,FrzC H S (.ah zb 5 0 n) (.sl false 5 (Qo bs))/\bs.length=n/\∀y∈bs,y.ins.length<=1200/\y.ab.length<=1200:=by
 have hs:=t _ LGo.zbm;obtain⟨RW,h1,h2,h3⟩:=hs.get;rw[Jc,c.l]at h2;obtain⟨bs,e1,e2,e3⟩:=Rp (H:=H) (S:=S) (g:=BlkD.cells) (P:=λy=>y.ins.length<=1200/\y.ab.length<=1200) RW λr hr=>by
  obtain⟨x,hx,he⟩:=He hr;have sO:x<n:=ZA
  obtain⟨hl,hq,hd,aq,cp,db,cK⟩:=c.get sO;obtain⟨RW',j,on,g1,g2,_,g4,_,_⟩:=K6 hs c sO hl rfl;rw[h1]at g1;cases g1;rw[g4]at he;subst he;have qZ:∀p∈os[x].lg,SimO (Z p.1) p.2 (H p.1)/\S p.1=true:=λp hp=>⟨t p (LGo.of hl hp),hS p (LGo.of hl hp)⟩;obtain⟨ps,p1,p2⟩:=VA (H:=H) (S:=S) (Z:=Z) aq (c.ow _ (Jb hl)) λp hp=>qZ p (OBlk.phM hp);obtain⟨is,i1,i2⟩:=Qa20 (H:=H) (S:=S) (Z:=Z) aq λp hp=>qZ p (OBlk.inM hp);have fd:=qZ _ os[x].nxM;obtain⟨ns',_,n2⟩:=HR fd.1 fd.2 rfl;exact⟨⟨ps,is,j,on,ns'⟩,.cons p1 (.cons i1 (.cons (Qg rfl) (.cons (Qg rfl) (.cons n2 .nil)))),by show is.length<=_;omega,by show ps.length<=_;omega⟩
 exact⟨bs,e1.ah (hS _ LGo.zbm) h1 ZA,ZA,e3⟩
theorem Qal1(ho:q.ok)(gm:0<=q.params)(lH:q.params<=q.ae)(h9:∀y∈q.blocks,y.ins.length<=900/\y.ab.length<=900)(hK:∀(d:CodeD) H',d.fits->Upd H H' []->K (.ag d.cells) H') :
  Qu prog Q0z [.ag [Ui q.params,Ui q.ae,.sl false 5 (Qo q.blocks)]] H K:=by
 refine Q0 ?_;refine Qd Co Qamf ?_;refine Za ?_;intro x2 aL H1 h1;have kn:=(Kn.an H).al aL h1;refine Za ?_;refine Qaqv ho gm h9 λd1 H2 di rz cN h9d hu=>?_;have kn:=kn.au hu;simp only[go_sem,Qut,CodeD.cells];refine YL di h9d λd2 H3 fi fy eE hu=>?_;have kn:=kn.au hu;have hp:d2.params=q.params:=fy.trans rz;have hr:d2.ae=q.ae:=eE.trans cN;simp only[go_sem,Qus,CodeD.cells];intro x3 aO H4 h4;have kn:=kn.al aO h4;have aO:=kn.l 1 rfl;simp only[go_sem,Po,aO];intro H5 h5;have kn:Kn H H5 [] [(x2,.st [Ui 0,Ui 0,.sl true 5 []]),(x3,.st [Ui d2.params,Ui d2.ae,.sl false 5 (Qo d2.blocks)])]:=kn.az 1 rfl h5;have aO:=kn.l 1 rfl;have eB:=fi.b0;have bm:=fi.b1;have hrr0:=fi.r0;have hrr1:=fi.r1;refine Cv ?_;simp only[go_sem,aO];refine Rl fi.sg λo H6 k2 aq gU bq=>?_;have kn:=kn.comp0 k2;obtain⟨n,hn⟩:∃n,d2.blocks.length=n:=⟨_,rfl⟩;have eJ:o.blocks.length=n:=by rw[<-hn,<-gU];simp[OCode.d]
 obtain⟨zb,dV,bj⟩:∃z,o.bc=.ah z 5 0 n/\o.bl=[(z,.vec 5 (o.blocks.map OBlk.row))]:=by
  rcases aq.b with ⟨_,h,_⟩|⟨y,h1,h2⟩
  ·have:=congrArg List.length h;simp only[Jc,Jm]at this;omega
  ·exact⟨y,by rw[h1,Jc,eJ],h2⟩
 have aD:o.row=[Ui d2.params,Ui d2.ae,.ah zb 5 0 n]:=by
  rw[OCode.row,dV,<-gU];rfl
 have wt:o.lg=LGo o.blocks zb:=by rw[OCode.lg,bj];rfl
 have jH:o.blocks.map OBlk.d=d2.blocks:=Zbl
 have oG:=aq.bs;rw[wt]at kn;have aO:=kn.l 1 rfl;simp only[go_sem,Qux,aO];refine MD (rows:=Qo d2.blocks) (nx:=gnx d2) (Hx fi.gd) (by rw[Qn];exact fi.fitB) λH7 hu=>?_;have kn:=kn.au hu;have aO:=kn.l 1 rfl;rw[Qn,hn];simp only[go_sem,Quw,aO];refine Qaqu ZA ZA λids H8 tT hu=>?_;have kn:=kn.au hu;have aO:=kn.l 1 rfl;rw[aD];simp only[go_sem,Quv,aO];intro x4 bh H9 AL;have kn:=kn.al bh AL;have aO:=kn.l 1 rfl;simp only[go_sem,Quu];obtain⟨R,hR⟩:∃R:Nat,d2.ae.toNat=R:=⟨_,rfl⟩;have vF:d2.ae=(R:Int):=ZA
 refine Zj aO ?_;refine⟨ZA,by simp only[LIM];omega,λcy ie H10 dh=>?_⟩;rw[Qw6,hR]at dh;have kn:=kn.al ie dh;simp only[go_sem,Quy,hR];refine Wa ?_;generalize hos0:o.blocks=os at *;have kn:Kn H H10 [] ([(cy,.vec 1 (Qb (List.replicate R 0)))]++([(x2,.st [Ui 0,Ui 0,.sl true 5 []]),(x3,.st [Ui d2.params,Ui d2.ae,.sl false 5 (Qo d2.blocks)])]++([(x4,wO d2 ids zb n q.params)]++LGo os zb))):=kn.perm (Qi λf hf h0 hc hp=>by
  have e2:∀(a b:Nat×Obj),f [a,b]=f [a]+f [b]:=λa b=>hc a [b];simp only[Ui,hf,e2,wO];omega)
 refine Qh (Qe (Qy (λm e1 H1=>∃(r:Nat) (cs:List Int),m=q.params.toNat-r/\(r:Int)<=q.params/\cs.length=R/\
  Kn H H1 [] ([(cy,.vec 1 (Qb cs))]++([(x2,.st [Ui 0,Ui 0,.sl true 5 []]),(x3,.st [Ui d2.params,Ui d2.ae,.sl false 5 (Qo d2.blocks)])]++([(x4,wO d2 ids zb n q.params)]++LGo os zb)))/\
  lk 1 e1=.c (.pp [Ui q.params,Ui q.ae,.sl false 5 (Qo q.blocks)])/\lk 2 e1=Up x2/\lk 4 e1=Up x4/\lk 5 e1=.c (.ah cy 1 0 R)/\lk 6 e1=Uv r) q.params.toNat ?_ ?_))
 ·exact⟨0,List.replicate R 0,ZA,gm,ZC,kn,Rf0⟩
 ·clear kn dh;rintro m e1 H11 ⟨r,cs,hm,hrp,cL,kn,l1,l2,l4,l5,l6⟩;refine Q1 (Qa ?_);simp only[go_sem,l1,l2,l4,l5,l6];refine Wt ?_ ?_
  ·intro hc;have af:(r:Int)<q.params:=ZD
   have Bf:r<R:=ZA
   have dB:r<cs.length:=ZA
   have lq:=kn.l 0 rfl;have qq:(Qb cs).take R=Qb cs:=Ji ZZ;refine Zc ?_
   refine Ws ?_;simp only[go_sem,lq,Qc,cL,Bf,Qk _ _ dB,F8,Jg,Jf];intro H12 jf;have kn:=kn.az 0 rfl jf;refine Zh ?_;refine⟨Qv,?_⟩;show ∃m,_;exact⟨q.params.toNat-(r+1),ZA,r+1,_,rfl,ZA,by rw[Jk];exact cL,kn,rfl,rfl,rfl,rfl,ZB⟩
  ·intro hc;refine Zb ?_;have hC:NC d2 os zb R n ids:=⟨fi,hn,hR,eJ,λx h h'=>by
    have h1:(os.map OBlk.d)[x]? = some os[x].d:=Zbd;rw[jH,Jh h']at h1;exact (J5 h1).symm,oG,bq,tT⟩
   have kn:Kn H H11 [] ((([(x4,wO d2 ids zb n q.params),(cy,.vec 1 (Qb cs))])++LGo os zb)++[(x2,.st [Ui 0,Ui 0,.sl true 5 []]),(x3,.st [Ui d2.params,Ui d2.ae,.sl false 5 (Qo d2.blocks)])]):=kn.perm (Qi λf hf h0 hc hp=>by
    have e2:∀(a b:Nat×Obj),f [a,b]=f [a]+f [b]:=λa b=>hc a [b];simp only[Ui,hf,e2];omega)
   have sP:wgt os=wgt os:=rfl;have lF:∀x,wgt os x<=2400:=λx=>by
    rw[wgt]
    cases hx:os[x]? with
    |none=>simp
    |some o'=>
     obtain⟨eZ,wN⟩:=Jar.1 hx;have sO:x<n:=ZA;obtain⟨_,_,_,_,_,a1,a2⟩:=hC.get sO;rw[wN]at a1 a2;show o'.ab.length+o'.ins.length<=2400;omega
   have wk:=Qa0j (N:=n) lF (λ_=>True);have aI:NSt d2 os zb n R x4 cy ids H11 q.params cs (XU os zb λ_=>True) H11:=⟨Qa11 (LGo.vec oG bq) kn.mid,cL⟩;refine Za ?_;refine Qa4x hC (2 ^ 40) (Jat _) (n+1) 0 (λ_=>True) q.params cs cy H11 _ ZA ZA (λ_ _=>trivial) aI ZA (by
    have:n * 2400<=160 * 2400:=Ja2 _ ZA;omega) λnx' cs' H12 s2 cq yl=>?_
   obtain⟨t2,hcl2⟩:=s2;have AU:=Ty.e t2 0 rfl;have cQ:=t2;obtain⟨E1,g1,g2,k3⟩:=t2;have kn:=kn.comp k3 (by simp[g1]);have kn:Kn H H12 [] ([(x4,wO d2 ids zb n nx'),(x2,.st [Ui 0,Ui 0,.sl true 5 []])]++([(x3,.st [Ui d2.params,Ui d2.ae,.sl false 5 (Qo d2.blocks)])]++([(cy,.vec 1 (Qb cs'))]++E1))):=kn.perm (Qi λf hf h0 hc hp=>by
    have e2:∀(a b:Nat×Obj),f [a,b]=f [a]+f [b]:=λa b=>hc a [b];simp only[Ui,hf,h0,e2];omega)
   rw[wO]at AU;try simp only[go_sem]
   refine Qa ?_;simp only[go_sem,AU];intro H13 nI;have kn:=kn.az 0 rfl nI;have bh:=kn.l 0 rfl;have aL:=kn.l 1 rfl;refine Zl bh aL ?_;intro H14 iP;have kn:=kn.az 1 rfl iP;have aL:=kn.l 1 rfl;refine Zi aL ?_;have hE:∀p∈E1,H14 p.1=p.2/\un H p.1=true:=λp hp=>by
    have hm:p∈([(x4,Obj.st [Ui d2.params,Ui d2.ae,.sl false 5 (Qo d2.blocks),Ui d2.params,Ui nx',.ah zb 5 0 n,.sl false 1 (Qb ids),Ui nx']),(x2,.st [Ui d2.params,Ui nx',.ah zb 5 0 n])]++([(x3,.st [Ui d2.params,Ui d2.ae,.sl false 5 (Qo d2.blocks)])]++([(cy,.vec 1 (Qb cs'))]++E1)):Ul):=by
     simp[hp]
    exact⟨(kn.get p (Je _ hm)).1,Ef (kn.loc p hm)⟩
   have hty:TT d2 os zb n x4 cy ids H11 nx' cs' (XU os zb λx=>True/\¬Sub ids 0 x) H12:=cQ;have hH:∀p∈LGo os zb,H14 p.1=H12 p.1:=λp hp=>by
    have h1:p.1∈E1.map Prod.fst:=(by rw[g1];exact CD hp);obtain⟨p',bV,he⟩:=Jq.1 h1;rw[<-he,(hE p' bV).1,(k3.get p' (Jj _ (Je _ bV))).1]
   have hS:∀p∈LGo os zb,un H p.1=true:=λp hp=>by
    have h1:p.1∈E1.map Prod.fst:=(by rw[g1];exact CD hp);obtain⟨p',bV,he⟩:=Jq.1 h1;rw[<-he];exact (hE p' bV).2
   have xF:∀p∈LGo os zb,SimO (XU os zb (λx=>True/\¬Sub ids 0 x) p.1) p.2 (H14 p.1):=λp hp=>by
    rw[hH p hp];exact Ty.get hty hp
   obtain⟨bs,b1,b2,b3⟩:=VB (S:=un H) hC xF hS;exact⟨_,FrzL.ag (.cons (Qg rfl) (.cons (Qg rfl) (.cons b1 .nil))),hK ⟨d2.params,nx',bs⟩ _ (λy hy=>by have:=b3 y hy;exact⟨ZA,ZA⟩) kn.fin⟩
end Y
namespace Y
attribute [local go_sem] cond_true cond_false Bool.not_true Bool.not_false
attribute [local instance] Classical.propDecidable
open Go.Proofs.Tryz
variable{q:CodeD}
theorem V3(q:CodeD):FrzV H S (.ag q.cells) (.ag q.cells):=FrzL.ag (.cons (.same _ rfl) (.cons (.same _ rfl) (.cons (.same _ rfl) .nil)))
structure CodeD.sgl (q:CodeD):Prop where
 ok:q.ok
 p0:0<=q.params
 pr:q.params<=q.ae
 h9:∀y∈q.blocks,y.ins.length<=900/\y.ab.length<=900
theorem Qa13(h:C0 cs=true){c:CodeD}(hc:c∈cs):c.sgl:=by
 obtain⟨k,hk,rfl⟩:=Jr.1 hc;have ho:=FB h hk;obtain⟨_,h2,h3⟩:=of_decide_eq_true h;obtain⟨g1,g2⟩:=h2 k hk;simp only[Dz,Ja9,decide_eq_true_eq]at g1;refine⟨ho,ZA,ZA,λy hy=>?_⟩;have a1:=Rk (f:=CB) (Jb hk);have a2:=Rk (f:=CA) hy;simp only[CB,CA]at *;omega
theorem YQ (hq:q.sgl)(hK:∀(d:CodeD) H',d.fits->Upd H H' []->K (.ag d.cells) H') :
  Qu prog Pl [.ag [Ui q.params,Ui q.ae,.sl false 5 (Qo q.blocks)],.c (.str [115,105,110,103,108,101])] H K:=by
 refine Q0 ?_;refine Qd Co MU ?_;refine Za ?_;intro x4 bh H1 h1;have kn:=(Kn.an H).al bh h1;refine Wa ?_;refine We ?_;refine Qf rfl (λhc=>absurd hc ZN) (λ_=>?_);refine Za ?_;refine Qf rfl (λhc=>absurd hc ZN) (λ_=>?_);refine Za ?_;refine Qf rfl (λhc=>absurd hc ZN) (λ_=>?_);refine Za ?_;refine Qf rfl (λhc=>absurd hc ZN) (λ_=>?_);refine Za ?_;refine Qf rfl (λ_=>?_) (λhc=>absurd hc ZN);refine Za ?_;refine Qal1 hq.ok hq.p0 hq.pr hq.h9 λd H2 hd hu=>?_;have kn:=kn.au hu;have bh:=kn.l 0 rfl;simp only[go_sem,Q1t,CodeD.cells,bh];intro H3 h3;have kn:=kn.az 0 rfl h3;have bh:=kn.l 0 rfl;refine Zi bh ?_;exact⟨_,V3 d,hK d _ hd kn.fin⟩
theorem YS(aT:∀c∈cs,c.fits)(hK:∀(ds:List CodeD) (b:Bool) H',(b=true->UnitOk ds)->Upd H H' []->K (.tup [.ag [.sl false 3 (Qm ds)],.c (.bool b)]) H') :
  Qu prog Kf [.ag [.sl fl 3 (Qm cs)],.c (.str [115,105,110,103,108,101])] H K:=by
 refine Q0 ?_;refine Qd Co MV ?_;refine Za ?_;intro x4 bh H1 h1;have kn:=(Kn.an H).al bh h1;simp only[go_sem,FA];refine Wa ?_;refine Kp aT λH2 hu=>?_;have kn:=kn.au hu;simp only[go_sem,Kx];refine Wt ?_ ?_
 ·intro _;have bh:=kn.l 0 rfl;refine Zj bh ?_;intro H3 h3;have kn:=kn.az 0 rfl h3;have bh:=kn.l 0 rfl;(try simp only[go_sem,FA]);refine Zq bh ?_;refine⟨λ_=>trivial,_,Fa (FrzL.ag (.cons (FrzR.nil.sl) .nil)) (.c _ _ (Qg rfl)),hK [] false _ (λh=>ZH) kn.fin⟩
 ·intro hc;have hG:C0 cs=true:=CS hc;refine Zc ?_
  refine Za ?_;intro x6 aY H3 h3;have kn:=kn.al aY h3;have aY:=kn.l 1 rfl;simp only[go_sem,Sg,aY];intro H4 h4;have kn:Kn H H4 [] [(x4,.st [.sl true 3 []]),(x6,.st [.sl true 3 []])]:=kn.az 1 rfl h4;refine Wa ?_;have cL:=(Rw aT hG).1;refine Qh (Qe (Qy (λm e1 H1=>∃(ds:List CodeD) (t:C) (Lg:Ul),m=cs.length-ds.length/\ds.length<=cs.length/\(∀d∈ds,d.fits)/\Gr Lg 3 (Qm ds) t/\Kn H H1 [] ([(x4,.st [.sl true 3 []]),(x6,.st [t])]++Lg)/\
   lk 1 e1=.c (.str [115,105,110,103,108,101])/\lk 2 e1=.c (.pp [.sl fl 3 (Qm cs)])/\lk 4 e1=Up x4/\lk 6 e1=Up x6/\lk 7 e1=.c (Ui ds.length)) cs.length ?_ ?_))
  ·exact⟨[],_,[],ZC,ZC,ZC,.nil 3,ZL,Rf0⟩
  ·clear kn aY;rintro m e1 H5 ⟨ds,t,Lg,hm,lp,gB,ax,kn,l1,l2,l4,l6,l7⟩;have fU:=ax.ai;refine Q1 (Qa ?_);simp only[go_sem,l1,l2,l4,l6,l7,Q8];try intro _
   refine Wt ?_ ?_
   ·intro aC;have af:ds.length<cs.length:=ZG;have aY:=kn.l 1 rfl;obtain⟨q,hq⟩:∃q,cs[ds.length]=q:=⟨_,rfl⟩;have ui:q.sgl:=Qa13 hG (by rw[<-hq];exact Jb af);refine Zc ?_
    refine Wq ?_;simp only[go_sem,aY,fU,af,Q8,DP _ _ af,CodeD.cells,hq];refine YQ ui λd H6 hd hu=>?_;have kn:=kn.au hu;have aY:=kn.l 1 rfl;simp only[go_sem,Sd,CodeD.cells,aY,fU];refine kn.bk (new:=Qm [d]) ax (.mk' _ _ _ _) (EV _) (by simp only[Q8,LIM,Jl,Jm];omega) λt2 Lg2 H7 bY cQ kn=>?_;have aY:=kn.l 1 rfl;simp only[go_sem,Se,aY];intro H8 h8;have kn:=kn.az 1 rfl h8;refine Zh ?_;refine⟨Qv,?_⟩;show ∃m,_;refine⟨cs.length-(ds.length+1),ZA,ds++[d],t2,Lg2,ZC,by simp only[Jaq,Jl,Jm];omega,λw hw=>?_,?_,kn,rfl,rfl,rfl,rfl,ZB⟩
    ·rcases Jn.1 hw with hw|hw
     ·exact gB w hw
     ·simp only[Ja]at hw;rw[hw];exact hd
    ·have:Qm (ds++[d])=Qm ds++Qm [d]:=Zbo;rw[this];exact bY
   ·intro _;refine Zb ?_;have aY:=kn.l 1 rfl;obtain⟨S,kq,ly,fh,kn⟩:=kn.bW;have iC:=ly (x6,.st [t]) ZC;have oV:FrzC H5 S t (.sl false 3 (Qm ds)):=Gr.frzM ax kq (FrzR.same (EV _));have kn:=kn.setL (o':=.st [.sl false 3 (Qm ds)]) 1 rfl ZC;refine c_gh (Fe S (FC ?_) (fh.set (o:=.st [.sl false 3 (Qm ds)]) iC.2 ZaD)) (e':=[(4,Up x4),(6,Up x6)]) ?_
    ·simp only[Jw];exact⟨.c _ _ (.same _ rfl),.c _ _ (.same _ rfl),ZC⟩
    generalize (H5.frz S).set x6 (Obj.st [C.sl false 3 (Qm ds)])=H6 at *;have aY:=kn.l 1 rfl;have bh:=kn.l 0 rfl;clear fh iC oV kq ly;refine Q1 (Qa ?_);simp only[go_sem,aY];refine Kp gB λH7 hu=>?_;have kn:=kn.au hu;have aY:=kn.l 1 rfl;have bh:=kn.l 0 rfl;simp only[go_sem,S0];refine Wt ?_ ?_
    ·intro _;refine Zj bh ?_;intro H8 h8;have kn:=kn.az 0 rfl h8;have bh:=kn.l 0 rfl;(try simp only[go_sem,FA]);refine Zq bh ?_;refine⟨λ_=>trivial,_,Fa (FrzL.ag (.cons (FrzR.nil.sl) .nil)) (.c _ _ (Qg rfl)),hK [] false _ (λh=>ZH) kn.fin⟩
    ·intro bv;have fM:C0 ds=true:=CS bv;refine Zc ?_
     refine Zl aY bh ?_;intro H8 h8;have kn:=kn.az 0 rfl h8;have bh:=kn.l 0 rfl;simp only[go_sem,Ku];refine Zq bh ?_;obtain⟨u1,u2,u3⟩:=Rw gB fM;refine⟨λ_=>trivial,_,Fa (ET ds) (.c _ _ (Qg rfl)),hK ds true _ (λ_=>⟨u2,u1,u3⟩) kn.fin⟩
theorem Qagq(aT:∀c∈cs,c.fits)(hK:∀(ds:List CodeD) (b:Bool) H',(b=true->UnitOk ds)->Upd H H' []->K (.tup [.ag [.sl false 3 (Qm ds)],.c (.bool b)]) H') :
  Qu prog Qmq [.ag [.sl fl 3 (Qm cs)]] H K:=by
 refine Q0 ?_;refine Qd Co Q6e ?_;refine Za ?_;intro x2 aL H1 h1;have kn:=(Kn.an H).al aL h1;simp only[go_sem,IG];refine Za ?_;refine YS aT λds b H2 hb hu=>?_;have kn:=kn.au hu;have aL:=kn.l 0 rfl;simp only[go_sem,IF,J3,Jaf,aL];intro H3 h3;have kn:=kn.az 0 rfl h3;have aL:=kn.l 0 rfl;simp only[go_sem,IH];refine Zq aL ?_;exact⟨λ_=>trivial,_,Fa (ET ds) (.c _ _ (Qg rfl)),hK ds b _ hb kn.fin⟩
def oneU:List CodeD:=[⟨0,1,[⟨[],[⟨1,0,[],0⟩],3,0,[]⟩]⟩]
theorem Qa4z:UnitOk oneU:=by
 refine⟨by simp[oneU],by simp[oneU],λc hc=>?_⟩;simp only[oneU,Ja]at hc;subst hc;refine⟨ZC,ZC,λy hy=>?_,λy hy=>?_,ZC,λy hy=>?_⟩
 ·simp only[Ja]at hy;subst hy;simp
 ·simp only[Ja]at hy;subst hy;simp
 ·simp only[Ja]at hy;subst hy;exact⟨ZC,ZC,ZC,ZC,ZC⟩
theorem Qa0g:FrzC H S (.sl true 3 [[Ui 0,Ui 1,.sl true 5 [[.sl true 2 [],.sl true 4 [[Ui 1,Ui 0,.sl true 1 [],Ui 0]],Ui 3,Ui 0,.sl true 1 []]]]]) (.sl false 3 (Qm oneU)):=
 FrzR.sl (.cons (.cons (Qg rfl) (.cons (Qg rfl) (.cons (FrzR.sl (.cons (.cons FrzR.nil.sl (.cons (FrzR.sl (.cons (.cons (Qg rfl) (.cons (Qg rfl) (.cons FrzR.nil.sl (.cons (Qg rfl) .nil)))) .nil)) (.cons (Qg rfl) (.cons (Qg rfl) (.cons FrzR.nil.sl .nil))))) .nil)) .nil))) .nil)
theorem YM {R:Rdr}{k:Nat}(hH:H R.l=R.o k)(hk:k+7100000<=2^30)
  (hK:∀(cs:List CodeD) (H':Heap) (k':Nat),k<k'->k'<=k+7050000->Upd H H' [(R.l,R.o k')]->UnitOk cs->K (.ag [.sl false 3 (Qm cs)]) H') :
  Qu prog NP [.c (.ptr R.l 0)] H K:=by
 refine Q0 ?_;refine Qd Co XZ ?_;refine Za ?_;intro x2 aL H1 h1;have kn:=(Kn.start1 hH (R.ao k)).al aL h1;refine Za ?_;refine ME (kn.e 0 rfl) ZA λcs H3 k2 jw jv hu aq=>?_;have kn:=kn.aw 0 rfl hu (R.ao _);simp only[go_sem,Q2c];refine Qagq aq.fits λds b H4 hb hu=>?_;have kn:=kn.au hu;simp only[go_sem,Q2b,J3,Jaf];intro x3 aO H5 h5;have kn:=kn.al aO h5;have aO:=kn.l 1 rfl;simp only[go_sem,Q2a,aO];intro H6 h6;have kn:=kn.az 1 rfl h6;have aL:=kn.l 0 rfl;have aO:=kn.l 1 rfl;simp only[go_sem,Q19];refine Wa ?_;refine Wt ?_ ?_
 ·intro _;refine Zj aL ?_;intro H7 h7;have kn:=kn.az 0 rfl h7;have aL:=kn.l 0 rfl;refine Zi aL ?_;exact⟨_,FrzL.ag (.cons Qa0g .nil),hK oneU _ k2 jw jv kn.fin Qa4z⟩
 ·intro hc;have pf:b=true:=CS hc;refine Zc ?_
  refine Zl aL aO ?_;intro H7 h7;have kn:=kn.az 0 rfl h7;have aL:=kn.l 0 rfl;refine Zi aL ?_;exact⟨_,ET ds,hK ds _ k2 jw jv kn.fin (hb pf)⟩
theorem YN {R:Rdr}{k:Nat}(hH:H R.l=R.o k)(hk:k+7300000<=2^30)
  (hK:∀(cs:List CodeD) (H':Heap) (k':Nat),k<k'->k'<=k+7150000->Upd H H' [(R.l,R.o k')]->UnitOk cs->K (.ag [.sl false 3 (Qm cs)]) H') :
  Qu prog NQ [.c (.ptr R.l 0)] H K:=by
 refine Q0 ?_;refine Qd Co Ya ?_;refine Za ?_;intro x2 aL H1 h1;have kn:=(Kn.start1 hH (R.ao k)).al aL h1;refine Wa ?_;refine CE (kn.e 0 rfl) ZA λv H2 hv hu=>?_;have kn:=kn.aw 0 rfl hu (R.ao _);simp only[go_sem,P7];refine Wt ?_ ?_
 ·intro hc;refine Za ?_;refine MF (kn.e 0 rfl) ZA λcs H3 k2 jw jv hu aq=>?_;have kn:=kn.aw 0 rfl hu (R.ao _);have aL:=kn.l 0 rfl;simp only[go_sem,P6,aL];intro H4 h4;have kn:=kn.az 0 rfl h4;have aL:=kn.l 0 rfl;refine Zi aL ?_;exact⟨_,ET cs,hK cs _ k2 ZA ZA kn.fin aq⟩
 ·intro hc;refine Zc ?_
  refine Za ?_;refine YM (kn.e 0 rfl) ZA λcs H3 k2 jw jv hu aq=>?_;have kn:=kn.aw 0 rfl hu (R.ao _);have aL:=kn.l 0 rfl;simp only[go_sem,P5,aL];intro H4 h4;have kn:=kn.az 0 rfl h4;have aL:=kn.l 0 rfl;refine Zi aL ?_;exact⟨_,ET cs,hK cs _ k2 ZA ZA kn.fin aq⟩
theorem YJ(hK:∀(cs:List CodeD) (H':Heap),Upd H H' []->UnitOk cs->K (.ag [.sl false 3 (Qm cs)]) H') :
  Qu prog NM [.c (.sl fl 1 (Di bs))] H K:=by
 refine Q0 ?_;refine Qd Co Y4 ?_;refine Za ?_;intro x2 aL H1 h1;have kn:=(Kn.an H).al aL h1;refine Za ?_;refine Yq λR H2 hR h2=>?_;have kn:=kn.al hR h2 (R.ao 0);simp only[go_sem,I3];refine Wa ?_;refine CE (kn.l 1 rfl) ZA λv H2 hv hu=>?_;have kn:=kn.callL 1 rfl hu (R.ao _);simp only[go_sem,Q2l];refine Wt ?_ ?_
 ·intro hc;refine Za ?_;refine YN (kn.l 1 rfl) ZA λcs H3 k2 jw jv hu aq=>?_;have kn:=kn.callL 1 rfl hu (R.ao _);have aL:=kn.l 0 rfl;simp only[go_sem,Q2m,aL];intro H4 h4;have kn:=kn.az 0 rfl h4;have aL:=kn.l 0 rfl;refine Zi aL ?_;exact⟨_,ET cs,hK cs _ kn.fin aq⟩
 ·intro hc;refine Zc ?_
  refine Za ?_;refine MF (kn.l 1 rfl) ZA λcs H3 k2 jw jv hu aq=>?_;have kn:=kn.callL 1 rfl hu (R.ao _);have aL:=kn.l 0 rfl;simp only[go_sem,Q2n,aL];intro H4 h4;have kn:=kn.az 0 rfl h4;have aL:=kn.l 0 rfl;refine Zi aL ?_;exact⟨_,ET cs,hK cs _ kn.fin aq⟩
end Y
namespace Y
attribute [local instance] Classical.propDecidable
open Go.Proofs.Tryz
variable{ds:List CodeD}{q:CodeD}
theorem KB (cs:List CodeD):∀c∈perL jnD cs,c.fits:=λc hc=>by
 rw[perL]at hc;split at hc
 ·rename_i hg
  obtain⟨i,hi,rfl⟩:=Jr.1 hc;exact λy hy=>by
   obtain⟨k,hk,rfl⟩:=Jr.1 hy;have:=(FB (HL hg) hi).il k hk;omega
 ·simp at hc
theorem KA (cs:List CodeD):Dr (perL jnD cs) (C0 cs)=perL jnD cs/\(C0 cs&&C0 (perL jnD cs))=C0 cs:=by
 cases hg:C0 cs with
 |false=>simp[Dr,perL,hg]
 |true=>
  have h:=HL hg;have e:perL jnD cs=cs.map jnD:=by rw[perL,if_pos hg]
  rw[e,Dr,h];simp
theorem Qaqt (ho:q.ok)(hs:JnOk (drpE q))(hK:∀H',Upd H H' []->K (.ag (jnD q).cells) H') :
  Qu prog Pl [.ag [Ui q.params,Ui q.ae,.sl false 5 (Qo q.blocks)],.c (.str [106,111,105,110])] H K:=by
 refine Q0 ?_;refine Qd Co MU ?_;refine Za ?_;intro x4 bh H1 h1;have kn:=(Kn.an H).al bh h1;refine Wa ?_;refine We ?_;refine Qf rfl (λhc=>absurd hc ZN) (λ_=>?_);refine Za ?_;refine Qf rfl (λhc=>absurd hc ZN) (λ_=>?_);refine Za ?_;refine Qf rfl (λhc=>absurd hc ZN) (λ_=>?_);refine Za ?_;refine Qf rfl (λhc=>absurd hc ZN) (λ_=>?_);refine Za ?_;refine Qf rfl (λhc=>absurd hc ZN) (λ_=>?_);refine Za ?_;refine Qf rfl (λhc=>absurd hc ZN) (λ_=>?_);refine Za ?_;refine Qf rfl (λhc=>absurd hc ZN) (λ_=>?_);refine Za ?_;refine Qf rfl (λhc=>absurd hc ZN) (λ_=>?_);refine Za ?_;refine Qf rfl (λhc=>absurd hc ZN) (λ_=>?_);refine Za ?_;refine Qf rfl (λhc=>absurd hc ZN) (λ_=>?_);refine Za ?_;refine Qf rfl (λ_=>?_) (λhc=>absurd hc ZN);refine Za ?_;refine Yw ho hs λH2 hu=>?_;have kn:=kn.au hu;have bh:=kn.l 0 rfl;simp only[go_sem,Qyi,CodeD.cells,bh];intro H3 h3;have kn:=kn.az 0 rfl h3;have bh:=kn.l 0 rfl;refine Zi bh ?_;exact⟨_,FrzL.ag (.cons (.same _ rfl) (.cons (.same _ rfl) (.cons (.same _ rfl) .nil))),hK _ kn.fin⟩
theorem Qabu (aT:∀c∈cs,c.fits)(hK:∀H',Upd H H' []->K (.tup [.ag [.sl false 3 (Qm (perL jnD cs))],.c (.bool (C0 cs))]) H') :
  Qu prog SX [.ag [.sl fl 3 (Qm cs)]] H K:=by
 refine Q0 ?_;refine Qd Co Q6d ?_;refine Za ?_;intro x2 aL H1 h1;have kn:=(Kn.an H).al aL h1;simp only[go_sem,IG];refine Za ?_;refine Qaqp (f:=jnD) aT (KB cs) (λhg p hp H K hK=>?_) λH2 hu=>?_
 ·obtain⟨i,hi,rfl⟩:=Jr.1 hp;exact Qaqt (FB hg hi) (by
   have:=KC (Iv hg) (k:=i) ZV
   rwa [Js]at this) hK
 rw[(KA cs).1,(KA cs).2];have kn:=kn.au hu;have aL:=kn.l 0 rfl;simp only[go_sem,IF,J3,Jaf,aL];intro H3 h3;have kn:=kn.az 0 rfl h3;have aL:=kn.l 0 rfl;simp only[go_sem,IH];refine Zq aL ?_;exact⟨λ_=>trivial,_,Fa (ET _) (.c _ _ (Qg rfl)),hK _ kn.fin⟩
theorem Q32(hK:∀(cs:List CodeD) (H':Heap),Upd H H' []->UnitOk cs->K (.ag [.sl false 3 (Qm cs)]) H'):Qu prog Tp [.c (.sl fl 1 (Di bs))] H K:=by
 refine Q0 ?_;refine Qd Co Qvt ?_;refine Za ?_;intro x2 aL H1 h1;have kn:=(Kn.an H).al aL h1;refine Za ?_;refine YJ λcs H2 hu aq=>?_;have kn:=kn.au hu;have aL:=kn.l 0 rfl;simp only[go_sem,Qes,aL];intro H3 h3;have kn:=kn.az 0 rfl h3;have aL:=kn.l 0 rfl;refine Zi aL ?_;exact⟨_,ET cs,hK cs _ kn.fin aq⟩
end Y
namespace Y
attribute [local instance] Classical.propDecidable
variable{q:CodeD}{b n:Nat}
def jl (b n:Int)(l:List (Int×Int)):List (Int×Int):=deI n (upI b ((lkI n l).getD 0) l)
theorem Qa61 (b n:Int)(l:List (Int×Int)):(jl b n l).length<=l.length+1:=Ja8 (KM _ _) (Ga _ _ _)
noncomputable def jnPT (q:CodeD)(b n:Nat)(D:List Int)(r:Nat):List (List (Int×Int)):=if (r:Int)∈D then (phT q q.blocks.length r).map (jl b n)else phT q q.blocks.length r
noncomputable def jnGv (q:CodeD)(b n j:Nat)(p:PhiD)(w:Int):Int:=p.args.getD ((Qs (gnx q) (j:Int) q.blocks.length).idxOf (if (j:Int)∈(Qq q n).next then (if w=(b:Int)then (n:Int)else w)else w)) 0
theorem Vy (r:Nat):jnPT q b n [] r=phT q q.blocks.length r:=by rw[jnPT,if_neg ZC]
theorem Gp {r:Nat}(hr:r<q.blocks.length):jnPT q b n D r=(Qq q r).ab.map λp=>if (r:Int)∈D then jl b n (zpA q r p)else zpA q r p:=by
 rw[jnPT,phT,if_pos hr];split
 ·rw[Jay];rfl
 ·rfl
theorem GY (ho:q.ok){r:Nat}(hr:r<q.blocks.length){p:PhiD}(hm:p∈(Qq q r).ab){w:Int}(hw:w∈Qs (gnx q) (r:Int) q.blocks.length):lkI w (zpA q r p)=some (p.args.getD ((Qs (gnx q) (r:Int) q.blocks.length).idxOf w) 0):=by
 rw[C3 hr]at hm;exact OE hw (by rw[(ho.bs r hr).pal p hm];exact Jf _)
theorem Qa65 (ho:q.ok)(hp:JnP q b n){r:Nat}(hr:r<q.blocks.length)(jG:r≠n){p:PhiD}(hm:p∈(Qq q r).ab){w:Int}(hw:w∈Qs (jnG q b n) (r:Int) q.blocks.length) :
  (lkI w (if (r:Int)∈(Qq q n).next then jl b n (zpA q r p)else zpA q r p)).getD 0=jnGv q b n r p w:=by
 by_cases bT:(r:Int)∈(Qq q n).next
 ·rw[if_pos bT,jnGv,if_pos bT,jl];obtain⟨c,hc,kH,rfl⟩:=preds_mem.1 hw;have ew:=Hu hp bT hc kH;have B8:c≠n:=λe=>by
   rw[e,jnG,E4]at kH;have:=Ja.1 kH;exact jG ZA
  by_cases fj:c=b
  ·rw[if_pos fj]at ew;have b7:(n:Int)∈Qs (gnx q) (r:Int) q.blocks.length:=preds_mem.2 ⟨n,ew.2,ew.1,rfl⟩;rw[if_pos (by rw[fj]),fj,HZ (by have:=hp.ne;omega),EI,if_pos rfl,GY ho hr hm b7];rfl
  ·rw[if_neg fj]at ew;have b7:(c:Int)∈Qs (gnx q) (r:Int) q.blocks.length:=preds_mem.2 ⟨c,ew.2,ew.1,rfl⟩;rw[if_neg ZA,HZ ZA,EI,if_neg ZA,GY ho hr hm b7];rfl
 ·rw[if_neg bT,jnGv,if_neg bT];rw[Gn hp bT jG]at hw;rw[GY ho hr hm hw];rfl
theorem Qa68 (ho:q.ok)(hp:JnP q b n)(h:PInv (jnPT q b n (Qq q n).next) ss)(hl:ss.length=q.blocks.length):PTel (jnG q b n) q.blocks.length (jnGv q b n) (jnX q b n) ss:=by
 have ak:∀r (hr:r<ss.length),ss[r].ms.length=(Qq q r).ab.length:=λr hr=>by
  have:=congrArg List.length (h.f r hr);rw[Gp ZA]at this;simpa using this
 refine⟨λr hr=>?_,λr hr i h1 h2 w hw=>?_,h.ok⟩
 ·rw[ak r hr];by_cases jG:r=n
  ·rw[jG,hp.ph,E4]
  ·rw[G0 hp jG]
 ·by_cases jG:r=n
  ·rw[ak r hr,jG,hp.ph]at h1;simp at h1
  ·have Be:r<q.blocks.length:=ZA
   have h3:i<(Qq q r).ab.length:=by rw[<-ak r hr];exact h1
   have e:(ss[r].ms.map PMap.l)[i]? = some (ss[r].ms[i]).l:=Zbn
   rw[h.f r hr,Gp Be,Jx,Jh h3,J0]at e;rw[<-J5 e,Qa65 ho hp Be jG (Jb h3) hw];have e2:∀(l l':List PhiD) (hl:l=l') (a:i<l.length) (b:i<l'.length),l[i]=l'[i]:=λl l' hl a b=>by subst hl;rfl
   rw[e2 _ _ (G0 hp jG) h2 h3]
theorem KI:∀(l:List Int) (aa:List Int),l.Nodup->aa.length=l.length->l.map (λw=>aa.getD (l.idxOf w) 0)=aa
 |[],[],_,_=>rfl
 |[],_::_,_,h=>ZH
 |_::_,[],_,h=>ZH
 |x::l,a::aa,hn,h=>by
  have ih:=KI l aa (Jag.1 hn).2 ZI;rw[Jao];congr 1
  ·simp
  ·conv=>rhs;rw[<-ih]
   refine J4 λw hw=>?_;have hx:¬w=x:=λe=>(Jag.1 hn).1 (e▸hw);have hb:(x == w)=false:=by simp;exact λe=>hx e.symm
   rw[List.idxOf_cons,hb];simp
theorem Qa67 (ho:q.ok)(hp:JnP q b n)(hj:j<q.blocks.length):stlY (jnG q b n) q.blocks.length (jnGv q b n) j (jnX q b n j)=jnB q b n j:=by
 rw[jnB];by_cases bT:(j:Int)∈(Qq q n).next
 ·rw[if_pos bT,stlY];congr 1;refine J4 λp _=>?_;rw[stlP,jnA];congr 1;refine J4 λw _=>?_;rw[jnGv,if_pos bT]
 ·rw[if_neg bT,stlY];by_cases lL:j=n
  ·rw[lL,E4];rfl
  ·have e:(jnX q b n j).ab.map (stlP (jnG q b n) q.blocks.length (jnGv q b n) j)=(jnX q b n j).ab:=by
    rw[G0 hp lL]
    conv=>rhs;rw[<-Jbh (Qq q j).ab]
    refine J4 λp hm=>?_;have fz:=hm;rw[C3 hj]at fz;have ee:=(ho.bs j hj).pal p fz;rw[stlP,Gn hp bT lL];have e2:(Qs (gnx q) (j:Int) q.blocks.length).map (jnGv q b n j p)=p.args:=by
     have:=KI (Qs (gnx q) (j:Int) q.blocks.length) p.args (IP _ _ _) ee
     conv=>rhs;rw[<-this]
     refine J4 λw _=>?_;rw[jnGv,if_neg bT]
    rw[e2];rfl
   rw[e]
end Y
namespace Y
attribute [local go_sem] cond_true cond_false Bool.not_true Bool.not_false
attribute [local instance] Classical.propDecidable
open Go.Proofs.Tryz
variable{q:CodeD}{L R A:Ul}
theorem RwR.ofJ(kn:Kn H0 H E L)(hy:js.map JB.y=q.blocks)(ho:∀k∈js,k.ok)(hz:H z=.vec 5 (js.map JB.row))(hm:∀p∈js.flatMap JB.lg,p∈L):RwR H q (.ah z 5 0 q.blocks.length) (js.map JB.row):=by
 have hl:js.length=q.blocks.length:=ZaE
 refine⟨rfl,vslc hz (by rw[Jc,hl]),by rw[Jc,hl],λb hb=>?_⟩;have aW:b<js.length:=ZA
 have hk:=ho _ (Jb aW);refine⟨js[b].pc,js[b].ic,js[b].fl,by rw[JB.getD aW,JB.row,Ek hy aW],hk.p.ai,hk.i.ai,?_⟩;have:=hk.p.slcM kn λp hp=>hm p (Jt.2 ⟨_,Jb aW,Jj _ hp⟩);rw[Ek hy aW]at this;exact this
theorem Vx{e:Env}{x1 b n:Nat}{a2 a5:C}(hp:JnP q b n)(hy:js.map JB.y=q.blocks)(ho:∀k∈js,k.ok)(ev:∀i (h:i<js.length),js[i].y.ins.length<=100000)
  (kn:Kn H0 H [] (([(x1,.st [Ui q.params,Ui q.ae,.ah z 5 0 q.blocks.length])]++A)++([(z,.vec 5 (js.map JB.row))]++js.flatMap JB.lg)))
  (l1:lk 1 e=Up x1) (l2:lk 2 e=.c a2) (l3:lk 3 e=Uv b) (l4:lk 4 e=Uv n) (l5:lk 5 e=.c a5)
  (hQ:∀(e:Env) (H':Heap) (js:List JB),JnS q b n [] js->Kn H0 H' [] (([(x1,.st [Ui q.params,Ui q.ae,.ah z 5 0 q.blocks.length])]++A)++([(z,.vec 5 (js.map JB.row))]++js.flatMap JB.lg))->
   lk 1 e=Up x1->lk 2 e=.c a2->lk 3 e=Uv b->lk 4 e=Uv n->lk 5 e=.c a5->lk 6 e=.c (.ep (.ah z 5 0 q.blocks.length) 5 b 0)->Cr prog SE Q e H') :
  Cr prog Qtz Q e H:=by
 have cz:js.length=q.blocks.length:=ZaE
 have bj:b<js.length:=by rw[cz];exact hp.bl
 have bF:n<js.length:=by rw[cz];exact hp.nl
 have j9:=hp.bl;have kB:=hp.nl;have be:=hp.ne;obtain⟨kb,dy⟩:∃k,js[b]=k:=⟨_,rfl⟩;obtain⟨kk,eL⟩:∃k,js[n]=k:=⟨_,rfl⟩;have ck:kb.ok:=by rw[<-dy];exact ho _ (Jb bj)
 have b7:kk.ok:=by rw[<-eL];exact ho _ (Jb bF)
 have rM:=ev b bj;have zc:=ev n bF;rw[dy]at rM;rw[eL]at zc;obtain⟨RW,eH⟩:∃RW,js.map JB.row=RW:=⟨_,rfl⟩;obtain⟨N,hN⟩:∃N,q.blocks.length=N:=⟨_,rfl⟩;have fF:RW.length=N:=Zbg
 have nF:RW.take N=RW:=Ji ZA;have nG:RW.getD b []=[kb.pc,kb.ic,Ui kb.y.jump,Ui kb.y.on,.sl kb.fl 1 (Qb kb.y.next)]:=by rw[<-eH,JB.getD bj,dy];rfl
 have vG:RW.getD n []=[kk.pc,kk.ic,Ui kk.y.jump,Ui kk.y.on,.sl kk.fl 1 (Qb kk.y.next)]:=by rw[<-eH,JB.getD bF,eL];rfl
 have oip:=ck.i.ai;have oin:=b7.i.ai;have opp:=ck.p.ai;have opn:=b7.p.ai;rw[eH]at kn;simp only[hN]at kn hQ j9 kB;obtain⟨X1,sD⟩:∃o,o=Obj.st [Ui q.params,Ui q.ae,.ah z 5 0 N]:=⟨_,rfl⟩;rw[<-sD]at kn;simp only[<-sD]at hQ;have hB:∀(t:C) (g:Ul),(js.flatMap JB.lg++(kb.pl++g)).Perm ((kb.pl++kb.il)++(js.set b (jnb kb kk t g)).flatMap JB.lg):=λt g=>by
  have:=Pc (f:=JB.lg) bj (jnb kb kk t g);rw[dy]at this;exact this
 have hC:∀(t:C) (g:Ul),((js.set b (jnb kb kk t g)).flatMap JB.lg++[]).Perm ((kk.pl++kk.il)++((js.set b (jnb kb kk t g)).set n (jnn n)).flatMap JB.lg):=λt g=>by
  have:=Pc (f:=JB.lg) (l:=js.set b (jnb kb kk t g)) (i:=n) (by rw[Jk];exact bF) (jnn n);rw[List.getElem_set_ne ZA,eL]at this;exact this
 obtain⟨R,hR⟩:∃R,((js.set b (jnb kb kk (.sl true 4 []) [])).set n (jnn n)).flatMap JB.lg=R:=⟨_,rfl⟩;have kn:Kn H0 H [] (([(x1,X1),(z,.vec 5 RW)]++((kk.pl++kk.il)++(R++A)))++kb.il):=kn.perm (Qi λf hf h0 hc hp=>by
  have e2:∀(a b:Nat×Obj),f [a,b]=f [a]+f [b]:=λa b=>hc a [b];have e1:=hp _ _ (hB (.sl true 4 []) []);have e3:=hp _ _ (hC (.sl true 4 []) []);rw[hR]at e3;simp only[Ui,hf,h0,e2]at e1 e3⊢;omega)
 have cV:=kn.l 0 rfl;rw[sD]at cV;have hz:=kn.l 1 rfl;refine Cv ?_;simp only[go_sem,l1,l2,l3,l4,l5,cV,hz,fF,j9,kB,Jg,Jf];refine Cv ?_;simp only[go_sem,cV,hz,fF,nF,nG,vG,j9,kB,oip,oin,Jg,Jf];refine kn.bk (new:=Cu kk.y.ins) ck.i (b7.i.slcM kn λp hp=>Zay) (GT _) (by simp only[CR,LIM];omega) λt2 Lg2 H2 cS cQ kn=>?_;have cV:=kn.l 0 rfl;rw[sD]at cV;have hz:=kn.l 1 rfl;simp only[go_sem,Qt4,hz,fF,nF,nG,j9,opp,cQ,Jg,Jf];have km:∀x,(RW.set b x).getD b []=x:=λx=>Q5w ZA;have jd:∀x,(RW.set b x).getD n []=[kk.pc,kk.ic,Ui kk.y.jump,Ui kk.y.on,.sl kk.fl 1 (Qb kk.y.next)]:=λx=>by rw[MK ZA];exact vG
 have cW:∀x,(RW.set b x).length=N:=λx=>by rw[Jk];exact fF
 have gI:∀x,(RW.set b x).take N=RW.set b x:=λx=>Ji (by rw[cW x];omega);intro H3 h3;have kn:=kn.az 1 rfl h3;have hz:=kn.l 1 rfl;refine Cv ?_;simp only[go_sem,hz,cW,gI,km,jd,j9,kB,opp,cQ,Jg,Jf];intro H4 h4;rw[Jan]at h4;have kn:=kn.az 1 rfl h4;have hz:=kn.l 1 rfl;simp only[go_sem,Qt6,hz,cW,gI,km,jd,j9,kB,opp,cQ,Jg,Jf];intro H5 h5;rw[Jan]at h5;have kn:=kn.az 1 rfl h5;have hz:=kn.l 1 rfl;simp only[go_sem,Qt5,hz,cW,gI,km,jd,j9,kB,opp,cQ,Jg,Jf];intro H6 h6;rw[Jan]at h6;have kn:=kn.az 1 rfl h6;have hz:=kn.l 1 rfl;refine Qa ?_;simp only[go_sem,hz,cW,gI,km,jd,j9,kB,opp,cQ,Jg,Jf];intro H7 h7;have kn:=kn.az 1 rfl h7;have cS:Gr Lg2 4 (Cu (js[b].y.ins++js[n].y.ins)) t2:=by rw[dy,eL,Cu,Jo];exact cS
 have hJ:=JnS.start (q:=q) hy ho hp bj bF cS;rw[dy,eL]at hJ;obtain⟨ks2,iH⟩:∃k,(js.set b (jnb kb kk t2 Lg2)).set n (jnn n)=k:=⟨_,rfl⟩;rw[iH]at hJ;have b9:ks2.map JB.row=(RW.set b [kb.pc,t2,Ui kk.y.jump,Ui kk.y.on,.sl kk.fl 1 (Qb kk.y.next)]).set n [.sl true 2 [],.sl true 4 [],Ui 1,Ui 0,.sl true 1 [[Ui n]]]:=by
  rw[<-iH,J1,J1,eH];rfl
 refine hQ _ H7 ks2 hJ ?_ rfl rfl rfl rfl rfl rfl;rw[b9];have hD:(R++Lg2).Perm (ks2.flatMap JB.lg):=Qi λf hf h0 hc hp=>by
  have e1:=hp _ _ (hB (.sl true 4 []) []);have e2:=hp _ _ (hC (.sl true 4 []) []);have e3:=hp _ _ (hB t2 Lg2);have e4:=hp _ _ (hC t2 Lg2);rw[hR]at e2;rw[iH]at e4;simp only[Ui,hf,h0]at e1 e2 e3 e4⊢;omega
 refine Kn.drop (B:=kk.pl++kk.il) (kn.perm (Qi λf hf h0 hc hp=>?_));have e2:∀(a b:Nat×Obj),f [a,b]=f [a]+f [b]:=λa b=>hc a [b];have:=hp _ _ hD;show f ([(x1,X1),(z,_)]++((kk.pl++kk.il)++(R++A))++Lg2)=_;simp only[Ui,hf,e2]at this⊢;omega
structure MsI (s:PSl)(b n:Int)(i:Nat)(ms:List PMap):Prop where
 m:ms.map PMap.m=s.ms.map PMap.m
 l:ms.map PMap.l=mix (jl b n) (s.ms.map PMap.l) i
theorem MsI.len {s:PSl}{b n:Int}(h:MsI s b n i ms):ms.length=s.ms.length:=by
 have:=congrArg List.length h.m;simpa using this
theorem MsI.mps {s:PSl}{b n:Int}(h:MsI s b n i ms):CH ms=CH s.ms:=by
 have e:∀l:List PMap,CH l=(l.map PMap.m).map λm=>[C.mp m]:=λl=>by rw[CH,Jay];rfl
 rw[e,e,h.m]
theorem MsI.step {s:PSl}{b n:Int}{i ver:Nat}{ms:List PMap}(h:MsI s b n i ms)(hi:i<ms.length):MsI s b n (i+1) (ms.set i ⟨ms[i].m,ver,jl b n ms[i].l⟩):=by
 have hl:=h.len;refine⟨?_,?_⟩
 ·rw[J1,<-h.m];have e:ms[i].m=(ms.map PMap.m)[i]'ZV:=by rw[Js]
  rw[e,Jam]
 ·have jc:i<(s.ms.map PMap.l).length:=by rw[Jc];omega
  rw[J1,h.l,<-OO jc];have e:ms[i].l=(s.ms.map PMap.l)[i]:=by
   have e1:(ms.map PMap.l)[i]'ZV=ms[i].l:=by rw[Js]
   rw[<-e1];have e2:∀(l l':List (List (Int×Int))) (hl:l=l') (a:i<l.length) (b:i<l'.length),l[i]=l'[i]:=λl l' hl a b=>by subst hl;rfl
   rw[e2 _ _ h.l ZV ZaV];exact EO jc ZaV
  show (mix (jl b n) (s.ms.map PMap.l) i).set i (jl b n ms[i].l)=_;rw[e]
theorem Vu{e:Env}{b n m k o:Nat}{a1 a2 a77 a78:C}{N:Nat}(hN:ss.length=N)(hm:m<N)(ho:∀s∈ss,s.ok)(hl:∀s∈ss,∀p∈s.ms,p.l.length<=100000)
  (kn:Kn H0 H E ([(o,.vec 1 (ss.map PSl.row))]++(psL ss++R)))
  (l1:lk 1 e=.c a1) (l2:lk 2 e=.c a2) (l3:lk 3 e=Uv b) (l4:lk 4 e=Uv n) (l5:lk 5 e=.c (.ah o 1 0 N)) (l9:lk 9 e=Uv m) (l77:lk 77 e=.c a77) (l78:lk 78 e=.c a78) (l79:lk 79 e=Uv k) (pw:N<=100000) (fe:∀s∈ss,s.ms.length<=100000)
  (hQ:∀(e:Env) (H':Heap) (s':PSl),s'.ok->(∀h:m<ss.length,s'.ms.map PMap.l=(ss[m].ms.map PMap.l).map (jl b n))->(ss.set m s').map PSl.row=ss.map PSl.row->Kn H0 H' E ([(o,.vec 1 ((ss.set m s').map PSl.row))]++(psL (ss.set m s')++R))->
   lk 1 e=.c a1->lk 2 e=.c a2->lk 3 e=Uv b->lk 4 e=Uv n->lk 5 e=.c (.ah o 1 0 N)->lk 77 e=.c a77->lk 78 e=.c a78->lk 79 e=Uv k->Q .nrm e H') :
  Cr prog Qty Q e H:=by
 have uE:m<ss.length:=ZA
 obtain⟨s,hs⟩:∃s,ss[m]=s:=⟨_,rfl⟩;have iu:s∈ss:=by rw[<-hs];exact Jb uE
 have iT:=ho s iu;have dd:=hl s iu;have xN:=fe s iu;have gE:=Gr.ai iT;obtain⟨SW,po⟩:∃SW,ss.map PSl.row=SW:=⟨_,rfl⟩;have tn:SW.length=N:=by rw[<-po,Jc,hN]
 have hSt:SW.take N=SW:=Ji ZA;have hSg:SW.getD m []=[s.c]:=by rw[<-po];simp[Jd,uE,hs,PSl.row]
 rw[po]at kn;have ux:=kn.l 0 rfl;have o6:=IV uE hs;obtain⟨R2,pt⟩:∃R2,[(o,Obj.vec 1 SW)]++((psL (ss.eraseIdx m)++s.g)++R)=R2:=⟨_,rfl⟩;have kn:Kn H0 H E (R2++s.ms.flatMap PMap.lg):=kn.perm (Qi λf hf h0 hc hp=>by
  have h1:=hp _ _ o6;rw[PSl.lg]at h1;rw[<-pt];simp only[Ui,hf]at h1⊢;omega)
 have hgm:∀p∈s.g,p∈R2:=λp hp=>by rw[<-pt];simp[hp]
 have kS:∀(H1:Heap) (ms:List PMap),Kn H0 H1 E (R2++ms.flatMap PMap.lg)->aZ H1 s.c=True/\ay s.c=s.ms.length/\rowsOf H1 s.c=CH s.ms:=λH1 ms kn=>by
  have:=iT.slcM kn λp hp=>Jj _ (hgm p hp);exact⟨eq_true this.ok,by rw[this.len,Ey],this.rows⟩
 have br:=iT.aQ;refine Qa ?_;simp only[go_sem,l1,l2,l3,l4,l5,l9,l77,l78,l79,ux,tn,hSt,hSg,hm,gE,(kS _ _ kn).1,(kS _ _ kn).2.1,Jg,Jf];try intro _
 refine Qe (Qy (λt e1 H1=>∃(i:Nat) (ms:List PMap),t=s.ms.length-i/\i<=s.ms.length/\MsI s b n i ms/\Kn H0 H1 E (R2++ms.flatMap PMap.lg)/\
  lk 1 e1=.c a1/\lk 2 e1=.c a2/\lk 3 e1=Uv b/\lk 4 e1=Uv n/\lk 5 e1=.c (.ah o 1 0 N)/\lk 77 e1=.c a77/\lk 78 e1=.c a78/\lk 79 e1=Uv k/\lk 86 e1=.c s.c/\lk 87 e1=.c (Ui s.ms.length)/\lk 88 e1=Uv i) s.ms.length ?_ ?_)
 ·exact⟨0,s.ms,ZA,ZA,⟨rfl,(IQ _ _).symm⟩,kn,Rf0⟩
 ·clear kn ux l1 l2 l3 l4 l5 l9 l77 l78 l79;rintro t e1 H1 ⟨i,ms,ht,hi,hM,kn,l1,l2,l3,l4,l5,l77,l78,l79,l86,l87,l88⟩;have hmsl:=hM.len;refine Qa ?_;simp only[go_sem,l1,l2,l3,l4,l5,l77,l78,l79,l86,l87,l88];refine Wt ?_ ?_
  ·intro hc;have af:i<s.ms.length:=ZD
   have aP:i<ms.length:=ZA
   obtain⟨pm,dD⟩:∃pm,ms[i]=pm:=⟨_,rfl⟩;have db:pm.l.length<=100000:=by
    have e1:(ms.map PMap.l)[i]? = some pm.l:=(by simp[aP,dD]);have jc:i<(s.ms.map PMap.l).length:=Zbm;rw[hM.l,Jh ZaV,EO jc ZaV,Js]at e1;rw[<-J5 e1];exact dd _ (Jb af)
   have mW:(CH s.ms).getD i []=[.mp pm.m]:=by rw[<-hM.mps,RH _ _ aP,dD]
   have rc:=kS _ _ kn;have ua:=DL (f:=PMap.lg) aP;rw[dD]at ua;obtain⟨R3,w9⟩:∃R3,R2++(ms.eraseIdx i).flatMap PMap.lg=R3:=⟨_,rfl⟩;have kn:Kn H0 H1 E ([(pm.m,.map pm.ver (mI pm.l))]++R3):=kn.perm (Qi λf hf h0 hc hp=>by
    have h1:=hp _ _ ua;rw[PMap.lg]at h1;rw[<-w9];simp only[Ui,hf]at h1⊢;omega)
   have px:=kn.l 0 rfl;refine Zc ?_
   refine Wc ?_;simp only[go_sem,gE,rc.1,rc.2.1,rc.2.2,br,af,mW,Ey];have jt:DD H1 (.mp pm.m)=True:=by simp only[DD,px]
   have j4:CI H1 (.mp pm.m)=mI pm.l:=by simp only[CI,px]
   refine Qa ?_;simp only[go_sem,px,jt,j4,FE,OQ,Fq,Fv];refine⟨by simp only[LIM];omega,λH2 h2=>?_⟩;have kn:=kn.az 0 rfl h2;have px:=kn.l 0 rfl;refine Qt ?_;simp only[go_sem,px,FE,KL];intro H3 h3;have kn:Kn H0 H3 E ([(pm.m,.map (pm.ver+1+1) (mI (jl b n pm.l)))]++R3):=kn.az 0 rfl h3;refine Zh ?_;refine⟨Qv,?_⟩;show ∃m,_;have aI:=hM.step aP (ver:=pm.ver+1+1);rw[dD]at aI;refine⟨s.ms.length-(i+1),ZA,i+1,_,rfl,ZA,aI,?_,rfl,rfl,rfl,rfl,rfl,rfl,rfl,rfl,rfl,rfl,ZB⟩;have tZ:=DL (f:=PMap.lg) (l:=ms.set i ⟨pm.m,pm.ver+1+1,jl b n pm.l⟩) (i:=i) (by rw[Jk];exact aP);rw[Jab,J8]at tZ;refine kn.perm (Qi λf hf h0 hc hp=>?_);have h1:=hp _ _ tZ;rw[PMap.lg]at h1;rw[<-w9];simp only[Ui,hf]at h1⊢;omega
  ·intro hc;have iZ:i=s.ms.length:=by have:s.ms.length<=i:=ZD;omega
   subst iZ;refine Zb ?_;have BW:=hM.l;rw[OP _ _ (by rw[Jc];exact Jf _)]at BW;obtain⟨s',eD⟩:∃s':PSl,s'=⟨ms,s.c,s.g⟩:=⟨_,rfl⟩;have aD:(ss.set m s').map PSl.row=ss.map PSl.row:=by
    rw[J1];have e:s'.row=(ss.map PSl.row)[m]'(by simpa using uE):=(by rw[Js,hs,eD];rfl);rw[e,Jam]
   refine hQ _ H1 s' ?_ (λh=>?_) aD ?_ rfl rfl rfl rfl rfl rfl rfl rfl
   ·rw[eD];show Gr s.g 1 (CH ms) s.c;rw[hM.mps];exact iT
   ·rw[hs,eD];exact BW
   ·rw[aD,po];have mH:=Hr (s:=s') uE;refine kn.perm (Qi λf hf h0 hc hp=>?_);have h1:=hp _ _ mH;have e:s'.lg=ms.flatMap PMap.lg++s.g:=(by rw[eD];rfl);rw[e]at h1;rw[<-pt];simp only[Ui,hf]at h1⊢;omega
theorem Y9 {b n m:Nat}{s':PSl}(hS:PInv (jnPT q b n D) ss)(hm:m<ss.length)(hD:¬(m:Int)∈D)(hs:s'.ok)(hl:s'.ms.map PMap.l=(ss[m].ms.map PMap.l).map (jl b n)):PInv (jnPT q b n (D++[(m:Int)])) (ss.set m s'):=by
 refine hS.set hs λr hr=>?_;by_cases pM:r=m
 ·subst pM;rw[if_pos rfl,hl,hS.f r hm,jnPT,if_pos ZC,jnPT,if_neg hD]
 ·rw[if_neg pM,jnPT,jnPT];have:((r:Int)∈D++[(m:Int)])↔(r:Int)∈D:=by
   simp only[Jn,Ja];exact⟨λhh=>hh.resolve_right λe2=>pM ZA,.inl⟩
  by_cases h:(r:Int)∈D
  ·rw[if_pos h,if_pos (this.2 h)]
  ·rw[if_neg h,if_neg (λhh=>h (this.1 hh))]
theorem Qaql {b n:Nat}{D':List Int}(hS:PInv (jnPT q b n D) ss)(h:∀x,x∈D↔x∈D'):PInv (jnPT q b n D') ss:=by
 refine⟨λr hr=>?_,hS.ok⟩;rw[hS.f r hr,jnPT,jnPT];by_cases hd:(r:Int)∈D
 ·rw[if_pos hd,if_pos ((h _).1 hd)]
 ·rw[if_neg hd,if_neg (λhh=>hd ((h _).2 hh))]
theorem Vz (ho:q.ok){b n:Nat}(hS:PInv (jnPT q b n D) ss)(hl:ss.length=q.blocks.length):(∀s∈ss,s.ms.length<=100000)/\∀s∈ss,∀p∈s.ms,p.l.length<=100000:=by
 have bm:=ho.b1;have hz:∀r p,(zpA q r p).length<=160:=λr p=>by
  rw[zpA,List.length_zip];have:=E3 (gnx q) (r:Int) q.blocks.length;omega
 refine⟨λs hs=>?_,λs hs p hp=>?_⟩
 ·obtain⟨r,hr,rfl⟩:=Jr.1 hs;have:=congrArg List.length (hS.f r hr);rw[Gp ZA]at this;simp only[Jc]at this;have h2:=(ho.il r ZA).2;rw[<-C3 ZA]at h2;omega
 ·obtain⟨r,hr,rfl⟩:=Jr.1 hs;have hm:p.l∈ss[r].ms.map PMap.l:=Jq.2 ⟨p,hp,rfl⟩;rw[hS.f r hr,Gp ZA,Jq]at hm;obtain⟨f,_,e⟩:=hm;rw[<-e];have:=hz r f;have h2:=Qa61 b n (zpA q r f);split <;> omega
theorem Vw{e:Env}{x1 o b n:Nat}{a2:C}(hq:q.ok)(hj:((Qq q n).next.length:Int)=CM (Qq q n).jump)(hp:JnP q b n)(hJ:JnS q b n [] js)(dd:ss.length=q.blocks.length)(hS:PInv (jnPT q b n []) ss)
  (kn:Kn H0 H [] ([(x1,.st [Ui q.params,Ui q.ae,.ah z 5 0 q.blocks.length]),(z,.vec 5 (js.map JB.row)),(o,.vec 1 (ss.map PSl.row))]++(js.flatMap JB.lg++(psL ss++R))))
  (l1:lk 1 e=Up x1) (l2:lk 2 e=.c a2) (l3:lk 3 e=Uv b) (l4:lk 4 e=Uv n) (l5:lk 5 e=.c (.ah o 1 0 q.blocks.length)) (l6:lk 6 e=.c (.ep (.ah z 5 0 q.blocks.length) 5 b 0))
  (hQ:∀(e:Env) (H':Heap) (js':List JB),js'.map JB.y=(jnQ q b n).blocks->(∀k∈js',k.ok)->Kn H0 H' [] (([(x1,.st [Ui q.params,Ui q.ae,.ah z 5 0 q.blocks.length])]++R)++([(z,.vec 5 (js'.map JB.row))]++js'.flatMap JB.lg))->
   lk 1 e=Up x1->lk 2 e=.c a2->Q (.exit 1) e H') :
  Cr prog SE Q e H:=by
 have bm:=hq.b1;have bj:=hp.bl;have bF:=hp.nl;have cz:=hJ.len;have nW:b<js.length:=ZA
 have fW:(Qq q n).next.length<=2:=by
  unfold CM at hj;split at hj
  ·omega
  ·split at hj
   ·omega
   ·split at hj <;> omega
 obtain⟨nn,iV⟩:∃l,(Qq q n).next=l:=⟨_,rfl⟩;rw[iV]at fW;obtain⟨N,hN⟩:∃N,q.blocks.length=N:=⟨_,rfl⟩;obtain⟨RW,eH⟩:∃RW,js.map JB.row=RW:=⟨_,rfl⟩;have fF:RW.length=N:=Zbg
 have nF:RW.take N=RW:=Ji ZA;have nG:RW.getD b []=[js[b].pc,js[b].ic,Ui js[b].y.jump,Ui js[b].y.on,.sl js[b].fl 1 (Qb nn)]:=by
  rw[<-eH,JB.getD nW,JB.row,hJ.y b nW,HK,O6 hp,iV]
 rw[eH]at kn;simp only[hN]at kn dd l5 l6 bj;have hz:=kn.l 1 rfl;refine Q1 (Qa ?_);simp only[go_sem,l1,l2,l3,l4,l5,l6,hz,fF,nF,nG,bj,Jg,Jf];refine OB ZA λns H2 hu Ar cr ak=>?_;have kn:=kn.au hu;simp only[go_sem,l1,l2,l3,l4,l5,l6,Qt7,Qc];try intro _
 obtain⟨X1,sD⟩:∃o,o=Obj.st [Ui q.params,Ui q.ae,.ah z 5 0 N]:=⟨_,rfl⟩;rw[<-sD]at kn;refine Qh (Qe (Qy (λt e1 H1=>∃(k:Nat) (ss:List PSl),t=ns.length-k/\k<=ns.length/\ss.length=N/\PInv (jnPT q b n (ns.take k)) ss/\
  Kn H0 H1 [] ([(x1,X1),(z,.vec 5 RW),(o,.vec 1 (ss.map PSl.row))]++(js.flatMap JB.lg++(psL ss++R)))/\
  lk 1 e1=Up x1/\lk 2 e1=.c a2/\lk 3 e1=Uv b/\lk 4 e1=Uv n/\lk 5 e1=.c (.ah o 1 0 N)/\lk 77 e1=.c (.sl false 1 (Qb ns))/\lk 78 e1=.c (Ui ns.length)/\lk 79 e1=Uv k) ns.length ?_ ?_))
 ·exact⟨0,ss,ZA,ZA,dd,by rw[Ja3];exact hS,kn,Rf0⟩
 ·clear kn hz l1 l2 l3 l4 l5 l6 dd hS;rintro t e1 H3 ⟨k,ss,ht,hk,dd,hS,kn,l1,l2,l3,l4,l5,l77,l78,l79⟩;refine Qa ?_;simp only[go_sem,l1,l2,l3,l4,l5,l77,l78,l79];refine Wt ?_ ?_
  ·intro hc;have af:k<ns.length:=ZD
   have gV:ns[k]∈nn:=(cr _).1 (Jb af);have fd:0<=ns[k]/\ns[k]<q.blocks.length:=by
    rw[<-iV,C3 bF]at gV;have:=(hq.bs n bF).nx _ gV;omega
   obtain⟨m,hm⟩:∃m:Nat,ns[k]=m:=⟨ns[k].toNat,ZA⟩;have b8:ns.getD k 0=(m:Int):=by rw[<-hm];simp[Jd,af]
   have hmN:m<N:=ZA
   have rF:¬(m:Int)∈ns.take k:=λh=>by
    obtain⟨i,hi,e⟩:=Jr.1 h;rw[Jau]at hi;rw[Ja7]at e;have:=List.pairwise_iff_getElem.1 Ar i k ZA af ZA;omega
   have nS:=Vz hq hS ZA;refine Zc ?_
   refine Wc ?_;simp only[go_sem,af,Qc,Qk _ _ af,b8];refine Vu (ss:=ss) (N:=N) (m:=m) (k:=k) (o:=o) (R:=[(x1,X1),(z,.vec 5 RW)]++(js.flatMap JB.lg++R)) dd hmN hS.ok nS.2 (kn.perm (Qi λf hf h0 hc hp=>by
    have e3:∀(a b c:Nat×Obj),f [a,b,c]=f [a,b]+f [c]:=λa b c=>ZQ;simp only[Ui,hf,e3];omega)) rfl rfl rfl rfl rfl rfl rfl rfl rfl ZA nS.1 λe4 H4 s' eD dq aD kn l1 l2 l3 l4 l5 l77 l78 l79=>?_
   refine Qt ?_;simp only[go_sem,l1,l2,l3,l4,l5,l77,l78,l79];refine⟨Qv,?_⟩;show ∃m,_;have kn:Kn H0 H4 [] ([(x1,X1),(z,.vec 5 RW),(o,.vec 1 ((ss.set m s').map PSl.row))]++(js.flatMap JB.lg++(psL (ss.set m s')++R))):=kn.perm (Qi λf hf h0 hc hp=>by
    have e3:∀(a b c:Nat×Obj),f [a,b,c]=f [a,b]+f [c]:=λa b c=>ZQ;simp only[Ui,hf,e3];omega)
   refine⟨ns.length-(k+1),ZA,k+1,ss.set m s',rfl,ZA,by rw[Jk];exact dd,?_,kn,rfl,rfl,rfl,rfl,rfl,rfl,rfl,ZB⟩;rw[Jp af,hm];exact Y9 hS ZA rF eD (dq ZA)
  ·intro hc;have jK:k=ns.length:=by have:ns.length<=k:=ZD;omega
   subst jK;rw[Jav]at hS;have hS:=Qaql hS (D':=(Qq q n).next) (by rw[iV];exact cr);refine Wb ?_;rw[<-eH,sD]at kn;refine Md (js:=js) (nx:=jnG q b n) (N:=N) (g:=jnGv q b n) (Y:=jnX q b n) ZA ZA hJ.ok (λj hj=>by rw[hJ.y j hj,jnY,if_neg ZC]) (λj _=>rfl) (λj hjN=>?_) dd (by rw[<-hN];exact Qa68 hq hp hS (by omega)) kn λjs' H4 dq eQ fD kn=>?_
   ·by_cases lL:j=n
    ·rw[lL,E4];simp
    ·rw[G0 hp lL];have:=(hq.il j ZA).2;rw[<-C3 ZA]at this;omega
   ·simp only[go_sem];refine Qw ?_;refine hQ _ H4 js' ?_ fD (Kn.drop (B:=[(o,.vec 1 (ss.map PSl.row))]++psL ss) (kn.perm (Qi λf hf h0 hc hp=>?_))) rfl rfl
    ·refine Jae (by rw[Jc,dq,Gy,hN]) λj h1 h2=>?_;have hj:j<js'.length:=ZX;rw[Js,eQ j hj,<-C3 h2,GM ZA,<-hN,Qa67 hq hp ZA]
    ·have e3:∀(a b c:Nat×Obj),f [a,b,c]=f [a]+f [b]+f [c]:=λa b c=>ZP;rw[hN];simp only[Ui,hf,e3];omega
end Y
namespace Y
attribute [local go_sem] cond_true cond_false Bool.not_true Bool.not_false
attribute [local instance] Classical.propDecidable
open Go.Proofs.Tryz
variable{q p:CodeD}{L R A:Ul}
theorem Qa60(kn:Kn H0 H [] (([(x,.st [Ui q.params,Ui q.ae,.ah z 5 0 q.blocks.length])]++B)++([(z,.vec 5 (js.map JB.row))]++js.flatMap JB.lg)))(hy:js.map JB.y=q.blocks)(ho:∀k∈js,k.ok) :
  ∃(S:Nat->Bool) (H4:Heap),FrzH H S H4/\Kn H0 H4 [] ([(x,.st [Ui q.params,Ui q.ae,.sl false 5 (Qo q.blocks)])]++B):=by
 obtain⟨S,hS,hB,fh,kn⟩:=kn.bW;have hx:=hB (x,.st [Ui q.params,Ui q.ae,.ah z 5 0 q.blocks.length]) ZC;have hz:=hS (z,.vec 5 (js.map JB.row)) ZC;have hr:=JB.frzR ho (λp hp=>hS p (Je _ hp));rw[hy]at hr;refine⟨S,_,fh.set (o:=.st [Ui q.params,Ui q.ae,.sl false 5 (Qo q.blocks)]) hx.2 ?_,kn.setL (o':=.st [Ui q.params,Ui q.ae,.sl false 5 (Qo q.blocks)]) 0 rfl ZC⟩;rw[hx.1];exact FrzKL.st (.cons rfl (Qg rfl) (.cons rfl (Qg rfl) (.cons rfl (FrzR.ah hz.2 hz.1 (by rw[Jc,<-hy,Jc]) hr) .nil)))
theorem HJ:∀i,(Nat.repeat jn1 i q).params=q.params/\(Nat.repeat jn1 i q).ae=q.ae
 |0=>⟨rfl,rfl⟩
 |i+1=>by
  have:=HJ i;exact⟨(HM (q:=Nat.repeat jn1 i q)).1.trans this.1,(HM (q:=Nat.repeat jn1 i q)).2.trans this.2⟩
def jO (x1 x2 z:Nat)(q:CodeD):List (Nat×Obj):=[(x1,.st [.int .i64 q.params,.int .i64 q.ae,.ah z 5 0 q.blocks.length])]++[(x2,.st [.int .i64 0,.int .i64 0,.sl true 5 []])]
theorem Vv (ho:q.ok)(hs:JnOk (drpE q))(hK:∀H',Upd H H' []->K (.ag (jnD q).cells) H') :
  Qu prog Sk [.ag [Ui q.params,Ui q.ae,.sl fl 5 (Qo q.blocks)]] H K:=by
 obtain⟨d,hd⟩:∃d,drpE q=d:=⟨_,rfl⟩;have qj:jnD q=drpE (jnE d):=Zaw
 have kG:d.params=q.params:=Zaw
 have qp:d.ae=q.ae:=Zaw
 rw[hd]at hs;have nV:d.ok:=hs.ok 0;have di:=nV.b1;refine Q0 ?_;refine Qd Co Qal6 ?_;refine Za ?_;intro x1 cV H0 h0;have kn:=(Kn.an H).al cV h0;simp only[go_sem,Qt0];intro x2 aL H1 h1;have kn:=kn.al aL h1;have cV:=kn.l 0 rfl;refine Qa28 (Qa ?_);simp only[go_sem,cV];refine Qxy ho λjs z H2 hy hk k2=>?_;rw[hd]at hy⊢;have kn:=kn.comp0 k2;have cV:=kn.l 0 rfl;simp only[go_sem,Qt1,cV];intro H4 h4;rw[<-kG,<-qp]at h4;have kn:=kn.az 0 rfl h4;have kn:Kn H H4 [] (jO x1 x2 z d++([(z,.vec 5 (js.map JB.row))]++js.flatMap JB.lg)):=kn;refine Qh (Qj ?_);try simp only[go_sem]
 refine Qe (Qy (λmm e1 H1=>∃(i:Nat) (js:List JB),mm=jnW (Nat.repeat jn1 i d)/\js.map JB.y=(Nat.repeat jn1 i d).blocks/\(∀k∈js,k.ok)/\
  Kn H H1 [] (jO x1 x2 z d++([(z,.vec 5 (js.map JB.row))]++js.flatMap JB.lg))/\lk 1 e1=Up x1/\lk 2 e1=Up x2) (jnW (Nat.repeat jn1 0 d)) ?_ ?_)
 ·exact⟨0,js,rfl,hy,hk,kn,Rf0⟩
 clear kn cV hy hk k2;rintro mm e1 H5 ⟨i,js,eG,hy,hk,kn,l1,l2⟩;obtain⟨p,hp⟩:∃p,Nat.repeat jn1 i d=p:=⟨_,rfl⟩;have lI:p.ok:=by rw[<-hp];exact hs.ok i
 have ut:∀b,b<p.blocks.length->((Qq p b).next.length:Int)=CM (Qq p b).jump:=by rw[<-hp];exact hs.jn i
 have db:p.blocks.length=d.blocks.length:=by rw[<-hp];exact Ht i
 have fb:p.params=d.params/\p.ae=d.ae:=by rw[<-hp];exact HJ i
 have hO:jO x1 x2 z d=jO x1 x2 z p:=by rw[jO,jO,fb.1,fb.2,db]
 have rz:=lI.b1;rw[hp]at eG hy;rw[hO]at kn;have cz:(js.map JB.row).length=p.blocks.length:=by rw[Jc,<-hy,Jc]
 have cV:H5 x1=.st [Ui p.params,Ui p.ae,.ah z 5 0 p.blocks.length]:=kn.l 0 rfl;have hz:H5 z=.vec 5 (js.map JB.row):=kn.l 2 rfl;refine Qe (Q1 ?_);refine Qa ?_;simp only[go_sem,l1,l2,cV,hz,cz];refine⟨ZA,λ_=>?_⟩;refine Qh (Qe (Qy (λmm e1 H1=>∃(b:Nat),mm=p.blocks.length-b/\b<=p.blocks.length/\(∀c,c<b->¬JnP p c (skT p c).toNat)/\Kn H H1 [] (jO x1 x2 z p++([(z,.vec 5 (js.map JB.row))]++js.flatMap JB.lg))/\
  e1=[(1,Up x1),(2,Up x2),(16,.c (Ui p.blocks.length)),(17,Uv b)]) p.blocks.length ?_ ?_))
 ·exact⟨0,ZA,ZA,λc hc=>absurd hc ZA,kn,rfl⟩
 clear kn cV hz;rintro mm2 e2 H6 ⟨b,fz,bj,b7,kn,rfl⟩;have cV:H6 x1=.st [Ui p.params,Ui p.ae,.ah z 5 0 p.blocks.length]:=kn.l 0 rfl;have hz:H6 z=.vec 5 (js.map JB.row):=kn.l 2 rfl;refine Za ?_;refine Wt ?_ ?_
 ·intro hc;have af:b<p.blocks.length:=by have:(b:Int)<p.blocks.length:=of_decide_eq_true hc;omega
  have hR:RwR H6 p (.ah z 5 0 p.blocks.length) (js.map JB.row):=.ofJ kn hy hk hz λx hx=>Je _ (Je _ hx);refine Zc ?_
  refine We ?_;refine Zj cV ?_;refine Qaqn hR af lI (ut b af) λH7 hu=>?_;have kn:=kn.au hu;simp only[go_sem,Qt2];refine Wa ?_;by_cases hj:JnP p b (skT p b).toNat
  ·have hF:=Q5z hj b7;have fC:=Ro hF;obtain⟨n,hn⟩:∃n,(skT p b).toNat=n:=⟨_,rfl⟩;have cq:=hj.n0;have hV:jnV p b=(n:Int):=by rw[jnV,if_pos hj,<-hn];omega
   rw[hn]at hj hF cq;have e1:jn1 p=jnQ p b n:=by rw[jn1,jnS,hF]
   rw[hV];refine Qh (Qf rfl (λaC=>by have:(n:Int)<0:=of_decide_eq_true aC;omega) (λ_=>?_));refine Zc ?_
   have cV:H7 x1=.st [Ui p.params,Ui p.ae,.ah z 5 0 p.blocks.length]:=kn.l 0 rfl;have hz:H7 z=.vec 5 (js.map JB.row):=kn.l 2 rfl;have hR:RwR H7 p (.ah z 5 0 p.blocks.length) (js.map JB.row):=.ofJ kn hy hk hz λx hx=>Je _ (Je _ hx);refine Zj cV ?_;refine M7 lI hR λo ss H8 dd hS k8=>?_;have kn:=kn.comp0 k8;simp only[go_sem,Qt3];have dU:js.length=p.blocks.length:=ZaE
   refine Vx (x1:=x1) (z:=z) (js:=js) (q:=p) (A:=[(x2,.st [Ui 0,Ui 0,.sl true 5 []])]++([(o,.vec 1 (ss.map PSl.row))]++psL ss)) hj hy hk (λj h=>by
    have:=(lI.il j ZA).1;rw[Ek hy h,C3 ZA];omega) (kn.perm (Qi λf hf h0 hc hp=>by
    simp only[Ui,hf,jO];omega)) rfl rfl rfl rfl rfl λe9 H9 js2 hJ kn l1 l2 l3 l4 l5 l6=>?_
   refine Vw (x1:=x1) (z:=z) (o:=o) (js:=js2) (ss:=ss) (q:=p) (R:=[(x2,.st [Ui 0,Ui 0,.sl true 5 []])]) lI (ut n hj.nl) hj hJ dd ⟨λr hr=>by rw[Vy];exact hS.f r hr,hS.ok⟩ (kn.perm (Qi λf hf h0 hc hp=>by
    have e3:∀(a b c:Nat×Obj),f [a,b,c]=f [a]+f [b]+f [c]:=λa b c=>ZP;simp only[Ui,hf,e3];omega)) l1 l2 l3 l4 l5 l6 λe10 H10 js3 tF jw kn l1 l2=>?_
   rw[HO (rfl:((1:Nat) == 3)=false)];simp only[go_sem,X.next];rw[HO (rfl:((1:Nat) == 2)=false)];simp only[go_sem,X.next];have hh:=HM (q:=p);have jJ:(jn1 p).blocks.length=p.blocks.length:=Hw;refine⟨jnW (jn1 p),ZA,i+1,js3,?_,?_,jw,by rw[hO];exact kn,l1,l2⟩
   ·show _=jnW (jn1 (Nat.repeat jn1 i d));rw[hp]
   ·show _=(jn1 (Nat.repeat jn1 i d)).blocks;rw[hp,e1];exact tF
  ·have hV:jnV p b=-1:=by rw[jnV,if_neg hj]
   rw[hV];refine Qh (Qf rfl (λ_=>?_) (λaC=>absurd aC ZN));refine Zb ?_;refine Zg ?_;refine⟨Qv,p.blocks.length-(b+1),ZA,b+1,rfl,ZA,λc hc=>?_,kn,rfl⟩;by_cases fj:c=b
   ·rw[fj];exact hj
   ·exact b7 c ZA
 ·intro hc;have gC:b=p.blocks.length:=by have:¬(b:Int)<p.blocks.length:=of_decide_eq_false hc;omega
  subst gC;have ft:=Q5y b7;have jX:p=jnE d:=by rw[<-hp]at ft⊢;exact OG di ft
  refine Zb ?_;obtain⟨S,H6,fh,kn⟩:=Qa60 kn hy hk;refine Q1 (c_gh (Fe S (FC ?_) fh) (e':=[(1,Up x1),(2,Up x2)]) ?_)
  ·simp only[Jw];exact⟨.c _ _ (.same _ rfl),.c _ _ (.same _ rfl),ZC⟩
  have cV:=kn.l 0 rfl;refine Zj cV ?_;refine Qafq lI λH7 hu=>?_;have kn:=kn.au hu;have aL:H7 x2=.st [Ui 0,Ui 0,.sl true 5 []]:=kn.l 1 rfl;simp only[go_sem,Qp8,CodeD.cells,aL];intro H8 h8;have kn:=kn.az 1 rfl h8;have aL:=kn.l 1 rfl;refine Ql ?_;simp only[go_sem,X.next,Q5,Cn,Ja,forall_eq,RS.op,aL];rw[qj,<-jX]at hK;exact⟨_,FrzL.ag (.cons (.same _ rfl) (.cons (.same _ rfl) (.cons (.same _ rfl) .nil))),hK _ kn.fin⟩
theorem Qaap (aT:∀c∈cs,c.fits)(hK:∀H',Upd H H' []->K (.tup [.ag [.sl false 3 (Qm (perL jnD cs))],.c (.bool (C0 cs))]) H') :
  Qu prog Ta [.ag [.sl fl 3 (Qm cs)]] H K:=by
 refine Q0 ?_;refine Qd Co Q57 ?_;refine Za ?_;intro x2 aL H1 h1;have kn:=(Kn.an H).al aL h1;simp only[go_sem,IG];refine Za ?_;refine Qare (f:=jnD) aT (λhg p hp H K fl hK=>?_) λH2 hu=>?_
 ·obtain⟨i,hi,rfl⟩:=Jr.1 hp;exact Vv (FB hg hi) (by
   have:=KC (Iv hg) (k:=i) ZV
   rwa [Js]at this) hK
 have kn:=kn.au hu;have aL:=kn.l 0 rfl;simp only[go_sem,IF,aL,J3,Jaf];intro H4 h4;have kn:=kn.az 0 rfl h4;have aL:=kn.l 0 rfl;simp only[go_sem,IH];refine Zq aL ?_;exact⟨λ_=>trivial,_,Fa (ET _) (.c _ _ (Qg rfl)),hK _ kn.fin⟩
end Y
namespace Y
variable{S u u' u2:Nat}{X Y Z:Cf}{e:Int}{s c:List Int}
def Goes (cs:List CodeD)(S u:Nat)(X:Cf)(u':Nat)(Y:Cf):Prop:=u<=u'/\u'<=S/\Da cs (u'-u) X=Y
def Halts (cs:List CodeD)(S u:Nat)(X:Cf)(e:Int)(s c:List Int):Prop:=
 u<=S/\((e=3/\∃fs,Da cs (S-u) X=.go fs s c)\/(¬e=3/\∃n,n<=S-u/\Da cs n X=.dn e 0 s c))
theorem Goes.refl (h:u<=S):Goes cs S u X u X:=⟨Jf _,h,by rw[Jbe];rfl⟩
theorem Goes.trans (h:Goes cs S u X u' Y)(k:Goes cs S u' Y u2 Z):Goes cs S u X u2 Z:=by
 obtain⟨h1,h2,h3⟩:=h;obtain⟨k1,k2,k3⟩:=k;refine⟨ZA,k2,?_⟩;rw[show u2-u=(u'-u)+(u2-u')by omega,I0,h3,k3]
theorem Goes.halts (h:Goes cs S u X u' Y)(k:Halts cs S u' Y e s c):Halts cs S u X e s c:=by
 obtain⟨h1,h2,h3⟩:=h;obtain⟨k1,k2⟩:=k;refine⟨ZA,?_⟩;rcases k2 with ⟨k2,fs,k3⟩|⟨k2,n,k3,k4⟩
 ·exact .inl ⟨k2,fs,by rw[show S-u=(u'-u)+(S-u')by omega,I0,h3,k3]⟩
 ·exact .inr ⟨k2,(u'-u)+n,ZA,by rw[I0,h3,k4]⟩
theorem Goes.one (h:u<S)(hs:step cs X=Y):Goes cs S u X (u+1) Y:=⟨ZA,ZA,by
 rw[Jah];exact hs⟩
theorem Halts.fuel {fs:List Fr}:Halts cs S S (.go fs s c) 3 s c:=⟨Jf _,.inl ⟨rfl,fs,by rw[Jbe];rfl⟩⟩
theorem Halts.one (h:u<S)(he:¬e=3)(hs:step cs X=.dn e 0 s c):Halts cs S u X e s c:=⟨ZA,.inr ⟨he,1,ZA,hs⟩⟩
theorem XB {l:List Int}(h:Halts cs S 0 (cf0 cs l) e s c):outR cs l S=(e,0,s,c):=by
 obtain⟨_,⟨rfl,fs,h⟩|⟨_,n,h1,h2⟩⟩:=h
 ·rw[Jbf]at h;rw[outR,h]
 ·rw[outR,In cs h2 ZA]
theorem Qa0i {l:List Int}{v:Int}(h:Goes cs S 0 (cf0 cs l) u' (.dn 0 v s c)):outR cs l S=(0,v,s,c):=by
 obtain⟨_,h1,h2⟩:=h;rw[Jbf]at h2;rw[outR,In cs h2 h1]
def byI (v:Int):Prop:=0<=v/\v<=255
def byL (l:List Int):Prop:=∀v∈l,byI v
theorem byL.get {l:List Int}(h:byL l)(i:Nat):byI (l.getD i 0):=by
 rw[Jd];by_cases hi:i<l.length
 ·rw[Jh hi];exact h _ (Jb hi)
 ·rw[List.getElem?_eq_none ZA];exact⟨ZC,ZC⟩
theorem byL.rg {l:List Int}(h:byL l)(r:Int):byI (rg l r):=h.get _
theorem byL.set {l:List Int}(h:byL l){v:Int}(hv:byI v)(i:Nat):byL (l.set i v):=λx hx=>by
 rcases Ju hx with hx|rfl
 ·exact h x hx
 ·exact hv
theorem byL.app {l:List Int}(h:byL l){v:Int}(hv:byI v):byL (l++[v]):=λx hx=>by
 rcases Jn.1 hx with hx|hx
 ·exact h x hx
 ·rw[Ja]at hx;subst hx;exact hv
theorem Hj (b:Prop) [Decidable b]:byI (trI b):=by rw[trI];split <;> exact⟨ZA,ZA⟩
theorem Qa6i {op b v:Int}(ha:byI a)(hb:byI b)(h:arR op a b=some v):byI v:=by
 have hm:∀x:Int,byI (x % 256):=λx=>⟨ZA,ZA⟩;rw[arR]at h;split at h
 ·cases h;exact hm _
 ·split at h
  ·cases h;exact hm _
  ·split at h
   ·cases h;exact hm _
   ·split at h
    ·split at h
     ·cases h
     ·cases h;obtain⟨a1,a2⟩:=ha;obtain⟨b1,b2⟩:=hb;exact⟨Int.ediv_nonneg a1 b1,Int.le_trans (Int.ediv_le_self _ a1) a2⟩
    ·split at h
     ·split at h
      ·cases h
      ·rename_i eB
       cases h;obtain⟨b1,b2⟩:=hb;exact⟨Int.emod_nonneg _ eB,by have:=Int.emod_lt_of_pos a (show 0<b by omega);omega⟩
     ·split at h
      ·cases h;exact Hj _
      ·split at h <;> (cases h;exact Hj _)
theorem V6 {q:CodeD}{l:List Int}(h:byL l):byL (Ep q l):=λx hx=>by
 rcases Jn.1 hx with hx|hx
 ·exact h x hx
 ·rw[J2 hx];exact⟨ZA,ZA⟩
end Y
namespace Y
open Go.Proofs.Tryz
def Qi7:=dY 4313698433 Rb
def Q7n:=dW 0x7212011ed4160621093121010dd1160321211014f0090121 [Qmx] [IE,Qi7]
theorem Q58:mFn prog SZ 1 9 Q7n Cq=true:=ZE
def Qmy:=dY 3735713
def Qmz:=dY 79885033473 Qmy
def Qm0:=dY 0x1170017432f099f51b40b129f1900d4 Qmz
def Qm1:=dY 0x9900c1
def Qm2:=dY 0x189b84e001 Qm1
def Qm3:=dY 0x1170017432f0b9f41b30b189f790144 Qm2
def PX:=dY 0x7a0089f2f0e9a03f33da0f263
def Qafr:=dW 0x7813012204403fb844460f9844460f03d00f036f023d40f03d10f9813d20f002f01ac83700f00a801ac1000942ea609f0131fd2805816153103224101231fd38028048160e410002402f0089f39390431 [] [Qm0,Qm3,PX]
theorem Qaez:mFn prog SA 4 40 Qafr Dc=true:=ZE
def Q7q:=dZ 0x7210b80029f0100204331f01405013020110203a11100f0090121
theorem Q6b:mFn prog Qmo 1 12 Q7q Cq=true:=ZE
def Qp0:=dY 3080305
def Qp1:=dY 6881425
def Qp2:=dY 92753158145 Qp1
def Qp3:=dY 0x1170017432f089f51b40b159f490104 Qp2
def Qp4:=dY 4128881
def Qajf:=dW 0x706240684e88461721162301232ad280180381611418706210684e01700174d1f0f210e37200152012329d2801806160a412200141170017432f069f290321 [] [Qp0,PW,Qp3,Qp4]
abbrev Ry:List RS:=[.cell 6 4 true,.tmp 7]
theorem Qah1:mFn prog Qwl 3 24 Qajf Ry=true:=ZE
def Qh0:=dY 0xe90049f2f05a1e2
def Qh1:=dY 0x1022383103f03110f3833120f03110f2833120f002f05a0222340f02310f3822320f02310f2822320f002f05a0221540f01510f3811520f01510f2811520f000a14f Qh0
def Q4c:=dZ 0x741102238d0130201202055102202f019190231 .skip Qh1
theorem Q36:mFn prog Qkc 2 31 Q4c Cp=true:=ZE
def Qm5:=dY 0x290069f2f02a122
def Qm6:=dY 0x1ea609f0f03211f03f281f00f002f04a0e4 Qm5
def Qm7:=dY 0x1022491303f0d1 Qm6
def Qm8:=dY 0x1011e1303f711360f181300f00094 Qm7
def Qafv:=dZ 0x7611010dd3160721001302f0069f290321 .skip Qm8
theorem Qae5:mFn prog Qsz 3 19 Qafv Cx=true:=ZE
def Qqh:=dY 9371761
def Qqi:=dY 0xd8881e001
def Qqj:=dY 5120389249 Qqi
def SL:=dY 69229158658
def Qqk:=dY 0x201e98321b2
def Qql:=dY 0x149a91e391414f881114f003 Qqk
def Qqm:=dY 0xd90881d14f072
def Qajk:=dW 0x706251684e88198461c303010201000504a2016340137d199f98021a9f18f04207881010320788111a0c0b0a0300080907060504030201000f0dad2201633014ad44838544be1f0e210110350170017432f0911110342052f08f2806160a41100241170017432f069f29290331 [] [Qqh,Qqj,SL,Qql,Qqm] [fI 12 (.bld [.sl true 3 [],.int .i64 0,.int .i64 0,.sl true 1 [],.int .i64 0,.int .i64 0,.int .i64 0,.int .i64 0,.int .i64 0,.int .i64 0,.int .i64 0,.int .i64 0,.int .i64 0,.int .i64 0,.int .i64 0,.int .i64 0,.int .i64 0,.int .i64 0,.int .i64 0,.int .i64 0,.sl true 1 []] [(0,1,.t 10),(1,1,.t 11)]),fI 24 (.aslp 16 (.t 23) none)]
theorem Qah6:mFn prog Qwp 3 30 Qajk Ry=true:=ZE
def Qp5:=dY 0xd80049f2f03a01380f0c3
def Qajg:=dW 0x741108f081300f000124500540057100202f00411 [] [Qp5] [.e (some 11) (some (9,true)) (.call Tn [.t 10,.k (.c (.fn SY []))])]
theorem Qah2:mFn prog Qwm 2 14 Qajg Cp=true:=ZE
def Qja:=dY 69230272690
def Q7r:=dZ 0x13f01544cd611f0140501302310470 .skip Qja
theorem Q6c:mFn prog Qmp 4 12 Q7r CQ=true:=ZE
def Qgk:=dY 0xb9983e001
def Qgl:=dY 0xe9a81e001
def Qgm:=dY 74913607841 Qgl
def Qgn:=dY 0x201e08f772b3 [] [fJ 44 20 43]
def Qgo:=dY 7474634753
def Qgp:=dY 0xebe81e001
def Qgq:=dY 4315082977 Qgp
def Qgr:=dY 0x101277dc803d2 Qgq
def Qgs:=dY 2883825
def Qfu:=dY 0xac192e8c0102
def Qfv:=dY 0xad394e001
def Qss:=dZ 0x520606e00b9f010f01301d8426350000520607f5f00b9f011f01301d8427c5070370f010520707b5f0709f2f06a0f02e940f0e910f021e930f0e910fd83e920fa8e910f00026f02401d82271c17810fe0089f01021301d832a816b6167367f01052070ae0679f036f02401d8226841064010520602e00c9fb80622110052060017bd08060210055f10052090fd0579f1f7045f200055f1005209001237ada8139460805b400055f5100520a101700432f139f0461343593105420458b00055f100520a01044581150440055f100520900f00501d81254412 .skip Qfv
def Qst:=dW 0x980044f1100520a03d0469f1f6c0453200044f1100520a0101e4613010113090f80011902a814b9909f0044f001100520c4170232f119f026242310484103420247b00044f1100520b01044471150240044f1100520a00f00501d802434111005207301278de8a8279e1f01d8023f4101005207201232db8098363a3139339f0000520802f04a0f066940f06950f06910fd806920f000f074c803281200005207117004727532f0d9f0560153b800198222d61 [Qss] [Qgo,Qgr,Qgs,Qfu]
def Q0b:=dW 0x980005206302122f011cb800128f07080080238022322f00052070380221120145004000520607f00f00b2105204018f280a811f31050105208f0198121c315010415700332f099f0360133180010020020708014910000400f00811 [Qst] [Qgk,Qgm,Qgn] [eI 30 (.mks 1 [.int .i64 0] (.t 29)),eI 33 (.cpy 1 (.t 31) (.t 32)),fJ 38 20 37]
theorem Qzw:mFn prog Qit 4 128 Q0b Dc=true:=ZE
def Qi8:=dY 0x580029f08052
def Q7o:=dZ 0x7211016bd2003210102f00211 .skip Qi8
theorem Q59:mFn prog SY 1 6 Q7o Cq=true:=ZE
def Qsu:=dZ 0x7410c80049f010513010113510121231059909f2001300f0290321
theorem Qsq:mFn prog Rj 3 13 Qsu Cp=true:=ZE
def Qfw:=dY 0x101e6ca13010752e14f582c14f336
def Qfx:=dY 0x1022a7d42e14f582c14f323 Qfw
def Qfy:=dY 4326585314
def Qfz:=dY 0x11f0142f6803c2 Qfy
def Qf0:=dY 69300900785 Qfz
def Qf1:=dY 0x201e0321c74a3
def Qf2:=dY 0x103122f011c34514f483 Qf1
def Qf3:=dY 0x9d0071
def Qf4:=dY 0x104122f011c582 Qf3
def Qel:=dY 0x101e571365d14f585b14f634
def Qem:=dY 0x101e241336814f586614f6b4
def Qen:=dY 0x201e571371b60b759f745f0705f7114f586f14f6e7
def Qeo:=dY 0x10f00b6f3a8d37114f586f14f743 Qen
def Qep:=dY 0x990890099f091b70b189f790105
def Qeq:=dY 0x10243a8d51214f172 Qep
def Qer:=dY 0x11f0142f41214f162 Qeq
def Qqn:=dW 0x101e13139800148125811d608304301f1a9d1c101b31bf3044008a801a2120304450f0142f149f680159f6800148021150b0a0908070601050103040201000e0ca2040f0142f6800148125816f50a09080706020005020004030201000f0ba6c36cf00440de06c9f0a6ff8246d21030f0142f6800148125816650605020004030201000907a64364f8004505e0649f026ff8246521022f01344cd7800148320800148125815b80908020007060504030201000c0aa050f0003070ad0519f1f1d045a20050f000307101142f8806807805440050f000030803d0089f10532102420152b0050f0003080104452115014050f00030700f0050148224e412000305014f007114c3 [] [Qf4,Qel,Qem,Qeo,Qer]
def Qx9:=dW 0x94cf8003060dc04c9f0e6ff8244d21030f0142f68001032070800804170b0a09080704060504030201000d0ca3f33ff80030600c03f9f0d6ff8244021020f0142f680080383036336f80030607b0369f0c6ff8243721010f0142f6800800148125812c60a09080702000602000504030201000f0ba2a32af8003060ba02a9f0b6ff8242b2100101e2413014832014812581247022322f80030603a0229f1ff824232100480030500148020e21003040d80069f4872a6e1f0d2103030017bd0800b210303029290421 [Qqn] [Qfx,Qf0,Qf2]
theorem Qxa:mFn prog Qhm 3 120 Qx9 CQ=true:=ZE
def Q0c:=dZ 0x201e022471f00401022070800c808010036f1a9d0b100a390200424010120750010220710029909f22
theorem Qzx:mFn prog Qiu 1 19 Q0c CQ=true:=ZE
def Qqo:=dZ 0x7410c80049f010513010113700132231059909f2000300f00411
theorem Qpd:mFn prog To 3 13 Qqo Cp=true:=ZE
def Q0a:=dW 0x7410c80049f08f042177070086180020026f1a9d071006340030106f074300521200208f00411 [] [] [fI 12 (.iaa 1 16 (.t 11) (.t 9))]
theorem Qzv:mFn prog Qis 2 13 Q0a Cp=true:=ZE
def Qx2:=dY 0x3f00b0062
def Qx3:=dY 0x3f07b0062
def Qafs:=dY 0x3f01c0062
def Qx0:=dW 0x87062306142f2f02a0f037b40f287b00f000f0341808803a8138338f501409b0389f0a6f982439217062203142f0124280180880335131331f0501502b0319f096f982432217062103142f01442801808802c512a32af050150ba02a9f086f98242b21706203f09a0069f01a428018027518706203f06a0069f0194280180245123323f0130066f024080222128706202f00f0062121321f000400f024280202121d3 [] [Qx2,Qx3,Qafs]
def Qtm:=dY 0x3f05c0062
def Qx1:=dZ 0x7062102142f0f0241808804241 .skip Qtm
def Qarp:=dW 0x19091df0500060f901d9f076f98241f2081d31df0500060e901d9f066f98241e212706203f0c90069f01009f0a401842801801961173d0500060890179f056f98241821706203f0690069f01009f0a401009f0040114280180127110360500060190109f046f7241121706203f0f80069f01009f0a401042801800c610a300500060b800a9f036f1240b2100405000500800911250004008f0811000302f00f00621 [Qx0,Qx1] [] [fI 8 (.mv (.k (.c (.fn PU []))))]
abbrev Kb:List RS:=[.tmp 6,.tmp 7]
theorem NY:mFn prog RP 3 70 Qarp Kb=true:=ZE
theorem Qae0:mFn prog PU 1 4 Mq Cq=true:=ZE
def Qqp:=dY 0x98583e001
def Qqq:=dY 0x104122f011c0e2 PL
def Qajl:=dW 0x7210190029f3801121022040090079f1f780410200220420137d28f080600a40d20012051000332f059f18f092101420008b0022050036f044081150040220400f008f06212202014f0031101014f00211 [] [Qqp,Qqq] [fI 6 (.ldg 9 0 0),fI 9 (.iax 3 3 (.t 6) (.t 7)),fI 12 (.aslp 3 (.t 5) (some (.t 11)))]
theorem Qah7:mFn prog Qwq 1 18 Qajl Cq=true:=ZE
def Qv4:=dW 0x1909002315201142f78261805800e4000013161170232f079f02613230c310142000bb0002316010440b11500400231500f00570083123003014f00511002014f00411 [Oy,Ou] [Rg,Rf]
theorem Qvq:mFn prog Qgf 2 22 Qv4 Cp=true:=ZE
def endV (n:Int):Value:=.iface 116 (.int .i64 n)
theorem Qa1s (n:Int)(w:World):Calls prog Oi #[.int .i64 n] w λe w'=>e=.panicked [{ v:=endV n,recovered:=false }]/\w'=w:=by
 go_enter Go.Proofs.Tryz.func169,Go.Proofs.Tryz.ntmps169
 go_wp2
 exact⟨rfl,rfl,rfl⟩
theorem Ha {n:Int}(hK:K (.pn (endV n)) H):Qu prog Oi [Uv n] H K:=by
 refine⟨ZE,λg w vs hs hl hv=>?_⟩;obtain⟨v,rfl⟩:∃v,vs=[v]:=by
  match vs,hl with
  |[v],_=>exact⟨v,rfl⟩
 have hr:=hv 0 _ v rfl rfl
 cases hr with
 |c _ _ hr=>
  cases hr;refine (Qa1s n w).mono λe w'=>?_;rintro⟨rfl,rfl⟩;exact .inr ⟨_,H,g,rfl,hK,.refl hs⟩
end Y
section
variable{P:Program}{e:Env}
theorem Qa42{v:Value}:X.panK Q v H=Q (.pan v) [] H:=rfl
theorem Qa72 {b:SC}{v:Value}:X.sq P b Q (.pan v) e H=Q (.pan v) e H:=rfl
theorem Qa6v{v:Value}:X.inBlock i Q (.pan v) e H=Q (.pan v) e H:=rfl
theorem Qa0d {K:Env->Heap->Prop}{v:Value}:X.next K Q (.pan v) e H=Q (.pan v) e H:=rfl
theorem VH {rs:List RS}{K:V->Heap->Prop}{v:Value}:Q5 rs K (.pan v) e H=K (.pn v) H:=rfl
attribute [go_sem] Qa42 Qa72 Qa6v Qa0d VH
end
namespace Y
attribute [local go_sem] cond_true cond_false Bool.not_true Bool.not_false
open Go.Proofs.Tryz
variable{A A':Ul}
def C4 (l:List Int):List C:=l.map λv=>.int .i64 v
structure Rs where
 u:Nat
 s:List Int
 c:List Int
 t:List Int
 sc:C
 so:Ul
 tc:C
 tl:Ul
def Rs.mt (r:Rs):List C:=C4 r.c++[r.tc]
structure Rn where
 l:Nat
 fl:Bool
 cs:List CodeD
 S:Nat
def Rn.o (X:Rn)(r:Rs):Obj:=.st (.sl X.fl 3 (Qm X.cs)::.int .i64 X.S::.int .i64 r.u::r.sc::r.mt)
def Rn.F (X:Rn)(r:Rs)(A B:List (Nat×Obj)):List (Nat×Obj):=[(X.l,X.o r)]++(A++((r.so++r.tl)++B))
structure Rs.ok (X:Rn)(r:Rs):Prop where
 gs:Gr r.so 1 (Qb r.s) r.sc
 gt:Gr r.tl 1 (Qb r.t) r.tc
 c:r.c.length=16
 bc:byL r.c
 bs:byL r.s
 ls:r.s.length<=r.u
 lt:r.t.length<=r.u+1
 uS:r.u<=X.S
 S:X.S<=60000
variable{X:Rn}{r r':Rs}
theorem Rs.ok.mt (h:r.ok X):r.mt.length=17:=by simp[Rs.mt,C4,h.c]
theorem Rs.ok.tick (h:r.ok X)(hu:r.u<X.S):Rs.ok X { r with u:=r.u+1 }:=⟨h.gs,h.gt,h.c,h.bc,h.bs,Nat.le_succ_of_le h.ls,Nat.le_succ_of_le h.lt,hu,h.S⟩
theorem F_in (k:Kn H0 H E (X.F r A B)):Kn H0 H E (X.F r [] (A++B)):=k.perm (Qi λf hf h0 hc hp=>by simp only[Ui,Rn.F,hf,h0];omega)
theorem Fj (k:Kn H0 H E (X.F r [] (A++B))):Kn H0 H E (X.F r A B):=k.perm (Qi λf hf h0 hc hp=>by simp only[Ui,Rn.F,hf,h0];omega)
theorem F_al {p:Nat×Obj}(k:Kn H0 H E (X.F r A B++[p])):Kn H0 H E (X.F r (A++[p]) B):=k.perm (Qi λf hf h0 hc hp=>by simp only[Ui,Rn.F,hf];omega)
theorem Fy (k:Kn H0 H E (X.F r (A++A') B)):Kn H0 H E (X.F r A B):=Kn.drop (B:=A') (k.perm (Qi λf hf h0 hc hp=>by simp only[Ui,Rn.F,hf];omega))
theorem HC (k:Kn H0 H E (X.F r A (A'++B))):Kn H0 H E (X.F r A B):=Kn.drop (B:=A') (k.perm (Qi λf hf h0 hc hp=>by simp only[Ui,Rn.F,hf];omega))
theorem Qa6b (k:Kn H0 H E (X.F r (A++A') B)):Kn H0 H E (X.F r A (A'++B)):=k.perm (Qi λf hf h0 hc hp=>by simp only[Ui,Rn.F,hf];omega)
theorem Qa6a (k:Kn H0 H E (X.F r A (A'++B))):Kn H0 H E (X.F r (A++A') B):=k.perm (Qi λf hf h0 hc hp=>by simp only[Ui,Rn.F,hf];omega)
theorem F_s (k:Kn H0 H E (X.F r A B)):Kn H0 H E (([(X.l,X.o r)]++(A++(r.tl++B)))++r.so):=k.perm (Qi λf hf h0 hc hp=>by simp only[Ui,Rn.F,hf];omega)
theorem F_s' {so:Ul}(hs:r'.so=so)(ht:r'.tl=r.tl)(k:Kn H0 H E (([(X.l,X.o r')]++(A++(r.tl++B)))++so)):Kn H0 H E (X.F r' A B):=k.perm (Qi λf hf h0 hc hp=>by simp only[Ui,Rn.F,hf,hs,ht];omega)
theorem F_t (k:Kn H0 H E (X.F r A B)):Kn H0 H E (([(X.l,X.o r)]++(A++(r.so++B)))++r.tl):=k.perm (Qi λf hf h0 hc hp=>by simp only[Ui,Rn.F,hf];omega)
theorem F_t' {tl:Ul}(ht:r'.tl=tl)(hs:r'.so=r.so)(k:Kn H0 H E (([(X.l,X.o r')]++(A++(r.so++B)))++tl)):Kn H0 H E (X.F r' A B):=k.perm (Qi λf hf h0 hc hp=>by simp only[Ui,Rn.F,hf,hs,ht];omega)
theorem F_o (k:Kn H0 H E (X.F r A B)):H X.l=.st (.sl X.fl 3 (Qm X.cs)::Ui X.S::Ui r.u::r.sc::r.mt):=k.l 0 rfl
theorem Qa8j {a b c d:C}{m:List C}:(a::b::c::d::m).drop (4+j)=m.drop j:=by rw[Nat.add_comm];rfl
theorem cG {a b c d:C}{m:List C}:(a::b::c::d::m).take (4+j)=a::b::c::d::m.take j:=by rw[Nat.add_comm];rfl
theorem Rs.ok.get (h:r.ok X)(hj:j<16):(r.mt.drop j).take 1=[Ui (r.c.getD j 0)]:=by
 have bE:j<(C4 r.c).length:=by rw[C4,Jc,h.c];exact hj
 have cR:j<r.c.length:=by rw[h.c];exact hj
 rw[Rs.mt,List.drop_append_of_le_length ZA,List.drop_eq_getElem_cons bE,Jaa,List.take_succ_cons,Ja3];simp[C4,Jd,cR]
theorem Rs.ok.dl (h:r.ok X)(j:Nat):(r.mt.drop j).length=17-j:=by rw[List.length_drop,h.mt]
theorem Rs.ok.put (h:r.ok X)(hj:j<16)(v:Int):r.mt.take j++[Ui v]++r.mt.drop (j+1)=Rs.mt { r with c:=r.c.set j v }:=by
 have bE:j<(C4 r.c).length:=by rw[C4,Jc,h.c];exact hj
 rw[Rs.mt,Rs.mt,List.take_append_of_le_length ZA,List.drop_append_of_le_length ZA];have:C4 (r.c.set j v)=(C4 r.c).take j++Ui v::(C4 r.c).drop (j+1):=by
  rw[C4,J1,List.set_eq_take_append_cons_drop,if_pos (by simpa[C4]using bE)];rfl
 show _=C4 (r.c.set j v)++[r.tc];rw[this];simp
theorem Rs.ok.cells (h:r.ok X){v:Int}(hv:byI v):Rs.ok X { r with c:=r.c.set j v }:=⟨h.gs,h.gt,by simp[h.c],h.bc.set hv j,h.bs,h.ls,h.lt,h.uS,h.S⟩
theorem O7 (kn:Kn H0 H E (X.F r A B))(hr:r.ok X)
  (hK:∀H',r.u<X.S->Kn H0 H' E (X.F { r with u:=r.u+1 } A B)->Rs.ok X { r with u:=r.u+1 }->K (.tup []) H')
  (hP:r.u=X.S->K (.pn (endV 3)) H):Qu prog Qiu [.c (.ptr X.l 0)] H K:=by
 refine Qd Co Qzx ?_;have ju:=hr.mt;have hX:=F_o kn;have hS:=hr.S;have vY:=hr.uS;refine Q1 (Cv ?_);simp only[go_sem,hX,ju];refine Wt ?_ ?_
 ·intro hc;have hu:r.u=X.S:=by
   have:=of_decide_eq_true hc;omega
  refine Zh ?_;refine Ha ?_;simp only[go_sem];exact hP hu
 ·intro hc;have hu:r.u<X.S:=by
   have:=of_decide_eq_false hc;omega
  refine Zc ?_
  refine Qt ?_;simp only[go_sem,hX,ju];refine⟨Qv,λH' h'=>?_⟩;have kn':Kn H0 H' E (X.F { r with u:=r.u+1 } A B):=kn.az 0 rfl h';simp only[go_sem,Q5,Cn,CQ];exact hK H' hu kn' (hr.tick hu)
theorem OM {l:Nat}{n:Int}(hn:0<=n)(hK:n<16->K (.c (.ptr l (4+n.toNat))) H)(hP:16<=n->K (.pn (endV 2)) H) :
  Qu prog Qis [Up l,Uv n] H K:=by
 refine Qd Co Qzv ?_;refine Wi ?_;refine Wt ?_ ?_
 ·intro hc;have jM:16<=n:=of_decide_eq_true hc;refine Zh ?_;refine Ha ?_;simp only[go_sem];exact hP jM
 ·intro hc;have jM:n<16:=by have:=of_decide_eq_false hc;omega
  refine Zc ?_
  refine Za ?_;refine⟨⟨hn,ZA⟩,?_⟩;refine Zd ?_;have:=hK jM;simpa using this
theorem Ho {b:Bool}(hK:K (Uv (trI (b=true))) H):Qu prog PU [.c (.bool b)] H K:=by
 refine Qd Co Qae0 ?_;refine Wi ?_;refine Wt ?_ ?_
 ·intro hc;subst hc;refine Wj ?_;exact hK
 ·intro hc;subst hc;refine Zc ?_
  refine Wj ?_;exact hK
theorem Hp {p:Prop} [Decidable p]:trI (decide p=true)=trI p:=by simp[trI]
def arP (op a b:Int):Int×Bool:=match arR op a b with
 |some v=>(v,true)
 |none=>(0,false)
theorem FS {b:Int}(h:0<=a):a.tmod b=a % b:=Int.tmod_eq_emod_of_nonneg h
theorem O8 {b:Int}(h:0<=a):a.tdiv b=a / b:=Int.tdiv_eq_ediv_of_nonneg h
theorem Qa23 {op b:Int}(ha:byI a)(hb:byI b)(h3:3<=op)(h9:op<=9)(hK:K (.tup [.c (Ui (arP op a b).1),.c (.bool (arP op a b).2)]) H) :
  Qu prog RP [Uv op,Uv a,Uv b] H K:=by
 obtain⟨a0,a1⟩:=ha;obtain⟨b0,b1⟩:=hb;refine Qd Co NY ?_;have retf:∀(v:Int) (t:Bool) (e:Env),arP op a b=(v,t)->lk 6 e=Uv v->lk 7 e=.c (.bool t)->Q5 Kb K .ret e H:=by
  intro v t e h1 h2 h3;simp only[go_sem,Q5,Cn,RS.op,h2,h3];rw[h1]at hK;exact hK
 refine Wd ?_;refine Wa ?_;refine We ?_;refine Wu ?_ ?_
 ·intro hc;have ho:op=3:=of_decide_eq_true hc;subst ho;refine Za ?_;refine⟨Qv,ZA,?_⟩;refine Zk ?_;refine retf _ _ _ ?_ rfl rfl;rw[FS ZA];rfl
 intro hc;have n3:=of_decide_eq_false hc;refine Za ?_;refine Wu ?_ ?_
 ·intro hc;have ho:op=4:=of_decide_eq_true hc;subst ho;refine Za ?_;refine⟨Qv,Qv,ZA,?_⟩;refine Zk ?_;refine retf _ _ _ ?_ rfl rfl;rw[FS ZA];rfl
 intro hc;have n4:=of_decide_eq_false hc;refine Za ?_;refine Wu ?_ ?_
 ·intro hc;have ho:op=5:=of_decide_eq_true hc;subst ho;have eP:0<=a * b:=Int.mul_nonneg a0 b0;have hab2:a * b<=255 * 255:=Int.mul_le_mul a1 b1 b0 ZA;refine Za ?_;refine⟨Qv,ZA,?_⟩;refine Zk ?_;refine retf _ _ _ ?_ rfl rfl;rw[FS eP];rfl
 intro hc;have n5:=of_decide_eq_false hc;refine Wa ?_;have vP:∀(t:Bool),(t=decide (op=6\/op=7))->Cr prog Qx0 (X.inBlock 0 (X.sq prog Qx1 (Q5 Kb K))) [(0,Uv op),(1,Uv a),(2,Uv b),(8,.c (.fn PU [])),(9,Uv op),(29,.c (.bool t))] H:=by
  intro t ht;refine Wu ?_ ?_
  ·intro h;have vP:op=6\/op=7:=by rw[ht]at h;exact of_decide_eq_true h
   refine Wa ?_;refine Wt ?_ ?_
   ·intro hc;have hb:b=0:=of_decide_eq_true hc;subst hb;refine Wf ?_;refine retf _ _ _ ?_ rfl rfl;rcases vP with rfl|rfl <;> rfl
   intro hc;have hb:¬b=0:=of_decide_eq_false hc;refine Zc ?_
   refine Wa ?_;refine Wt ?_ ?_
   ·intro hc;have ho:op=6:=of_decide_eq_true hc;subst ho;have di:0<=a / b:=Int.ediv_nonneg a0 b0;have fi:a / b<=a:=Int.ediv_le_self _ a0;refine Za ?_;refine⟨⟨hb,by rw[O8 a0];exact Qv⟩,?_⟩;refine Zk ?_;refine retf _ _ _ ?_ rfl rfl;rw[O8 a0,arP,arR];simp[hb]
   ·intro hc;have ho:op=7:=(by have:=of_decide_eq_false hc;omega);subst ho;refine Zc ?_
    refine Za ?_;refine⟨hb,?_⟩;refine Zk ?_;refine retf _ _ _ ?_ rfl rfl;rw[FS a0,arP,arR];simp[hb]
  ·intro h;have vP:¬(op=6\/op=7):=by rw[ht]at h;exact of_decide_eq_false h
   refine Za ?_;refine Wu ?_ ?_
   ·intro hc;have ho:op=8:=of_decide_eq_true hc;subst ho;refine Za ?_;refine Ho ?_;rw[Hp];simp only[go_sem,Qx2];refine Zk ?_;exact retf _ _ _ rfl rfl rfl
   intro hc;have n8:=of_decide_eq_false hc;have ho:op=9:=ZA
   subst ho;refine Za ?_;refine Qf rfl ?_ (λh=>ZH);intro _;refine Za ?_;refine Ho ?_;rw[Hp];simp only[go_sem,Qx3];refine Zk ?_;exact retf _ _ _ rfl rfl rfl
 refine Wt ?_ ?_
 ·intro hc;have ho:op=6:=of_decide_eq_true hc;refine Ze ?_;exact vP _ (by rw[hc];simp[ho])
 ·intro hc;have n6:=of_decide_eq_false hc;refine Zh ?_;exact vP _ (by simp[n6])
theorem Qap1(hK:K (.tup [Uv (trI (a=0)),.c (.bool true)]) H) :
  Qu prog RP [Uv 11,Uv a,Uv 0] H K:=by
 refine Qd Co NY ?_;refine Wd ?_;refine Wa ?_;refine We ?_;refine Qf rfl (λh=>ZH) λ_=>?_;refine Za ?_;refine Qf rfl (λh=>ZH) λ_=>?_;refine Za ?_;refine Qf rfl (λh=>ZH) λ_=>?_;refine Wa ?_;refine Qh (Qf rfl (λh=>ZH) λ_=>?_);refine Zh ?_;refine Qf rfl (λh=>ZH) λ_=>?_;refine Za ?_;refine Qf rfl (λh=>ZH) λ_=>?_;refine Za ?_;refine Qf rfl (λh=>ZH) λ_=>?_;refine Za ?_;refine Qf rfl (λh=>ZH) λ_=>?_;refine Ze ?_;refine Za ?_;refine Ho ?_;rw[Hp];simp only[go_sem,Qtm];refine Ql ?_;simp only[go_sem,Q5,Cn,RS.op];exact hK
end Y
end Go.AE
