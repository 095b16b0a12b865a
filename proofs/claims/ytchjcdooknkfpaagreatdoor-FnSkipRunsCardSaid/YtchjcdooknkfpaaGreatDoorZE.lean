/- Part 5 of the proof: the engine, codes, walks and plain laws, each named where it stands. -/
import Derived.Test.YtchjcdooknkfpaaGreatDoorZD
open Nat (reduceEqDiff reduceAdd reduceLeDiff reduceLT)
set_option linter.unusedVariables false
set_option linter.unusedSimpArgs false
set_option maxRecDepth 4000
set_option maxHeartbeats 16000000
open Bool renaming and_eq_true->Ju,false_eq_true->Jbk
open Classical renaming byContradiction->Ja7
open Int renaming toNat_natCast->Jad,le_refl->Jbu
open List renaming getD_eq_getElem?_getD->Ja,length_map->Jb,getElem_mem->Jc,take_of_length_le->Jd,getElem?_eq_getElem->Je,mem_singleton->Jf,take_succ_eq_append_getElem->Jg,mem_append_right->Jh,length_nil->Jj,mem_map->Jl,perm_append_comm->Jm,length_set->Jn,length_cons->Jo,mem_append_left->Jp,getElem?_eq_none->Jq,getElem_map->Jr,map_append->Js,mem_or_eq_of_mem_set->Jt,mem_append->Jv,mem_cons_of_mem->Jw,mem_iff_getElem->Jx,length_take->Jy,getElem?_map->Jz,contains_iff_mem->J0,getElem_set->J1,mem_flatMap->J2,mem_range->J3,map_map->J4,idxOf_lt_length_of_mem->J5,length_append->J6,mem_cons_self->J7,take_length->J8,all_eq_true->Jaa,map_cons->Jab,map_set->Jac,append_nil->Jae,drop_eq_getElem_cons->Jaf,eraseIdx_set_eq->Jag,eq_of_mem_replicate->Jah,flatMap_cons->Jai,flatMap_append->Jak,getD_cons_zero->Jal,getElem_cons_succ->Jan,getElem_cons_zero->Jao,getElem_set_self->Jap,set_append_right->Jaq,getElem?_append_right->Jar,cons_append->Jas,ext_getElem->Jat,map_congr_left->Jau,map_nil->Jav,mem_filter->Jaw,append_assoc->Jax,set_getElem_self->Jay,forall_mem_cons->Jaz,mem_of_getElem?->Ja0,getD_cons_succ->Ja2,map_eq_nil_iff->Ja3,nil_append->Ja4,set_cons_zero->Ja6,pairwise_map->Ja8,all_cons->Ja9,flatMap_eq_nil_iff->Jba,flatMap_nil->Jbb,range_succ_eq_map->Jbc,all_nil->Jbd,foldl_cons->Jbe,length_filter_le->Jbf,drop_zero->Jbh,filter_sublist->Jbi,map_id->Jbj,getElem_range->Jbl,ext_getElem?->Jbm,getElem?_set->Jbn,nodup_append->Jbo,getElem_inj->Jbr,length_drop->Jbs,nodup_range->Jbt,mem_cons->Jbw,sum_cons->Jbx,set_set->Jbz
open List.Nodup renaming sublist->Ja5
open Nat renaming le_refl->Ji,zero_add->Jk,sub_self->Jbg,le_trans->Jbq,min_eq_left->Jbv,lt_irrefl->Jby,le_of_lt->Jb0
open Option renaming map_some->J9,getD_some->Jam
open Option.some renaming inj->Jaj,injEq->Jbp
open Prod.mk renaming injEq->Ja1
namespace Go.AE.Y
attribute [local go_sem] cond_true cond_false Bool.not_true Bool.not_false
open Go.Proofs.Tryz
variable {H H0 F:Heap}{K:Uk}{E L:Ul}
def BX (R:Nat)(zs:List (Nat×List Bool)):List (List C):=zs.map λp=>[.ah p.1 1 0 R]
def obZ (zs:List (Nat×List Bool)):List (Nat×Obj):=zs.map λp=>(p.1,.vec 1 (Qv p.2))
theorem CI (R:Nat)(zs:List (Nat×List Bool)):(BX R zs).length=zs.length:=by simp[BX]
theorem Gv (R:Nat)(zs:List (Nat×List Bool))(i:Nat)(h:i<zs.length):(BX R zs).getD i []=[.ah zs[i].1 1 0 R]:=by simp[BX,Ja,h]
theorem Ro {R:Nat}{zs:List (Nat×List Bool)}{i:Nat}{x:Nat×List Bool}(h:i<zs.length)(hx:x.1=zs[i].1):BX R (zs.set i x)=BX R zs:=by
 rw[BX,Jac,hx];refine Jbm λj=>?_;rw[Jbn];split
 ·subst_vars;rw[if_pos ZL];simp[BX,h]
 ·rfl
def lvE (R yi yo:Nat)(zi zo:List (Nat×List Bool)):List (Nat×Obj):=[(yi,.vec 1 (BX R zi)),(yo,.vec 1 (BX R zo))]++(obZ zi++obZ zo)
variable {R yi yo:Nat}{zi zo:List (Nat×List Bool)}
theorem Qb6p {b:Nat}(hb:b<zo.length):(lvE R yi yo zi zo)[2+zi.length+b]? = some (zo[b].1,.vec 1 (Qv zo[b].2)):=by
 have:2+zi.length+b=(zi.length+b)+1+1:=ZB
 rw[lvE,this];simp only[Jas,Ja4,List.getElem?_cons_succ];rw[Jar (by simp[obZ])];simp[obZ,hb]
theorem Qb2j {b z:Nat}{bs:List Bool}(hb:b<zo.length)(hz:zo[b].1=z):(lvE R yi yo zi zo).set (2+zi.length+b) (z,.vec 1 (Qv bs))=lvE R yi yo zi (zo.set b (z,bs)):=by
 have:2+zi.length+b=(zi.length+b)+1+1:=ZB
 rw[lvE,lvE,this,Ro hb hz.symm];simp only[Jas,Ja4,List.set_cons_succ];rw[Jaq _ _ (by simp[obZ])];simp[obZ,Jac]
theorem FD {b m z w:Nat}{bs nb:List Bool}(kn:Kn F H (lvE R yi yo zi (zo.set b (z,bs))) L)(hb:b<zo.length)(hz:zo[b].1=z)(hm:m<zi.length)(hw:zi[m]=(w,nb)) :
  H yi=.vec 1 (BX R zi)/\H yo=.vec 1 (BX R zo)/\H z=.vec 1 (Qv bs)/\H w=.vec 1 (Qv nb):=by
 refine⟨(kn.get (yi,.vec 1 (BX R zi)) (by simp[lvE])).1,?_,(kn.get (z,.vec 1 (Qv bs)) ?_).1,(kn.get (w,.vec 1 (Qv nb)) ?_).1⟩
 ·rw[<-Ro (R:=R) (x:=(z,bs)) hb hz.symm];exact (kn.get (yo,.vec 1 (BX R (zo.set b (z,bs)))) (by simp[lvE])).1
 ·refine Jp _ (Jh _ (Jh _ (Jl.2 ⟨(z,bs),?_,rfl⟩)));exact Jx.2 ⟨b,Zaa,ZD⟩
 ·exact Jp _ (Jh _ (Jp _ (Jl.2 ⟨(w,nb),by rw[<-hw];exact Jc hm,rfl⟩)))
theorem Qb2i {b z:Nat}{bs bs2:List Bool}{H':Heap}(kn:Kn F H (lvE R yi yo zi (zo.set b (z,bs))) L)(hb:b<zo.length)(h:H'=H.set z (.vec 1 (Qv bs2))):Kn F H' (lvE R yi yo zi (zo.set b (z,bs2))) L:=by
 have aW:b<(zo.set b (z,bs)).length:=Zaa
 have:=kn.stE (2+zi.length+b) (x:=z) (o:=.vec 1 (Qv bs)) (by have h:=Qb6p (R:=R) (yi:=yi) (yo:=yo) (zi:=zi) aW;simpa using h) h;rw[Qb2j aW ZD,Jbz]at this;exact this
theorem K0 {b z:Nat}{bs bs2:List Bool}:(lvE R yi yo zi (zo.set b (z,bs))).map Prod.fst=(lvE R yi yo zi (zo.set b (z,bs2))).map Prod.fst:=by
 have e:∀bs:List Bool,(obZ (zo.set b (z,bs))).map Prod.fst=(zo.map Prod.fst).set b z:=λbs=>by
  simp only[obZ,Jac,J4];rfl
 simp only[lvE,Js,Jab,Jav,e]
theorem Q4v {bs:List Bool}{r:Nat}(h:bs.getD r false=true):bs.set r true=bs:=by
 refine Jbm λj=>?_;rw[Jbn];split
 ·subst_vars
  rw[Ja]at h;split
  ·rename_i hl;rw[Je hl]at h⊢;simp at h;rw[h]
  ·rename_i hl;rw[Jq ZB]
 ·rfl
structure lvOk (R n:Nat)(zi zo:List (Nat×List Bool)):Prop where
 i:zi.length=n
 o:zo.length=n
 li:∀p∈zi,p.2.length=R
 lo:∀p∈zo,p.2.length=R
theorem Qbqy {q:CodeD}{bc:C}{Xs:List Nat}{b m z:Nat}{bs nb:List Bool}{w:Nat}(ho:q.ok)(dB:CodeR F Xs bc q)(hX:∀x∈(lvE q.ae.toNat yi yo zi zo).map Prod.fst,x∈Xs)(hb:b<q.blocks.length)(tW:(m:Int)∈gnx q b)(ax:lvOk q.ae.toNat q.blocks.length zi zo)
  (hz:zo[b]? = some (z,bs)) (hw:zi[m]? = some (w,nb)) {O I:RS'} (hO:Mem bs O) (hI:Mem nb I)
  (kn:Kn F H (lvE q.ae.toNat yi yo zi zo) [])
  (hK:∀(bs':List Bool) (a:Bool) H',bs'.length=q.ae.toNat->Mem bs' (λr=>O r\/I r\/r∈(BR q).ea b m)->(a=true->cnt bs<cnt bs')->(a=false->bs'=bs)->Kn F H' (lvE q.ae.toNat yi yo zi (zo.set b (z,bs'))) []->K (.c (.bool a)) H') :
  Qr prog Nj [.ag [Ui q.params,Ui q.ae,bc],.ag [.ah yi 1 0 q.blocks.length,.ah yo 1 0 q.blocks.length],Uv b,Uv m] H K:=by
 have bE:=ho.r0;have cI:=ho.r1;have ba:=ho.b1;have iI:m<q.blocks.length:=by
  have:=(ho.bs b hb).nx (m:Int) (by rw[<-Ez hb];exact tW);omega
 have fO:=ho.ix hb tW;have nQ:(b:Int)∈Qz (gnx q) (m:Int) q.blocks.length:=List.idxOf_lt_length_iff.1 fO;obtain⟨y,hy⟩:∃y,q.blocks[m]=y:=⟨_,rfl⟩;have cz:y.ok q m:=by rw[<-hy];exact ho.bs m iI
 have cM:y.ins.length<=1200/\y.ab.length<=1200:=by rw[<-hy];exact ho.il m iI
 have pA:(BR q).ea b m=y.ab.map λp=>(p.args.getD ((Qz (gnx q) (m:Int) q.blocks.length).idxOf (b:Int)) 0).toNat:=by rw[Qbv6 iI,hy]
 generalize br:(Qz (gnx q) (m:Int) q.blocks.length).idxOf (b:Int)=at_ at *;have cQ:b<zo.length:=by rw[ax.o];exact hb
 have nq:m<zi.length:=by rw[ax.i];exact iI
 have dx:zo[b]=(z,bs):=by rw[Je cQ]at hz;simpa using hz
 have fR:zi[m]=(w,nb):=by rw[Je nq]at hw;simpa using hw
 have sN:zo[b].1=z:=by rw[dx]
 have gW:zi[m].1=w:=by rw[fR]
 have bu:bs.length=q.ae.toNat:=ax.lo (z,bs) (by rw[<-dx];exact Jc cQ);have ck:nb.length=q.ae.toNat:=ax.li (w,nb) (by rw[<-fR];exact Jc nq);have iE:=ax.o;have ut:=ax.i;have bW:zo.set b (z,bs)=zo:=Me hz;have bF:∀(bs1:List Bool),bs1.length=q.ae.toNat->(Qv bs1).take q.ae.toNat=Qv bs1:=λbs1 h=>Jd Zan;have qk:∀(zs:List (Nat×List Bool)),zs.length=q.blocks.length->(BX q.ae.toNat zs).take q.blocks.length=BX q.ae.toNat zs:=λzs h=>Jd (by rw[CI];omega);rw[<-bW]at kn hX;have gQ:=dB.ow;have zQ:∀(bs1:List Bool),∀x∈(lvE q.ae.toNat yi yo zi (zo.set b (z,bs1))).map Prod.fst,x∈Xs:=λbs1 x hx=>hX x (by rw[K0 (bs2:=bs)]at hx;exact hx);obtain⟨jq,n7,rP,nE⟩:=FD kn cQ sN nq fR;refine Qd BF Qbro ?_;refine Wf ?_;simp only[go_sem,jq,nE,qk _ ut,bF _ ck,CI,Gv _ _ _ nq,gW,iI,ut,Q3,ck,Jk,Ji,Ja4,Jj];refine⟨.inl trivial,S3 _,by simp only[LIM];omega,λy9 ik H1 h1=>?_⟩;have kn:=kn.al ik h1;simp only[go_sem,Dp];refine Zj gQ ?_;refine Gu (rows:=Qo q.blocks) (nx:=gnx q) (dB.rd kn hX) gQ (E5 H1 q false).x λH2 hu=>?_;have kn:=kn.aw hu;rw[Qn];simp only[go_sem,Q9b];refine FF (.mk' _ _ _ _) rfl λr hr=>?_;have hr:=hr.idx nQ;rw[br]at hr;subst hr;simp only[go_sem,Q9a];refine Wa ?_;refine Qh (Qe (Qw (λm1 e1 H1=>∃(i:Nat) (nb1:List Bool),m1=y.ab.length-i/\i<=y.ab.length/\nb1.length=q.ae.toNat/\Mem nb1 (λr=>I r\/r∈((BR q).ea b m).take i)/\Kn F H1 (lvE q.ae.toNat yi yo zi (zo.set b (z,bs))) [(y9,.vec 1 (Qv nb1))]/\
  e1=[(2,Uv b),(3,Uv m),(4,.c (.pp [Ui q.params,Ui q.ae,bc])),(5,.c (.pp [.ah yi 1 0 q.blocks.length,.ah yo 1 0 q.blocks.length])),(9,.c (.ah y9 1 0 q.ae.toNat)),(10,Uv at_),(11,Uv i)]) y.ab.length ?_ ?_))
 ·exact⟨0,nb,ZB,ZB,ck,hI.congr λr=>ZD,kn,rfl⟩
 ·rintro m1 e1 H3 ⟨i,nb1,su,hi,ck,hN,kn,rfl⟩;have ik:=kn.l 0 rfl;obtain⟨b8,gS,i9,fL⟩:=dB.facts kn (zQ bs);refine Q1 (Qa ?_);simp only[go_sem,gQ,b8,gS,i9,fL,iI,Cy _ _ iI,hy,BlkD.cells,Q0];intro _;refine Wu ?_ ?_
  ·intro hc;have af:i<y.ab.length:=ZE
   have nR:=cz.pal _ (Jc af);have em:at_<y.ab[i].args.length:=ZB
   obtain⟨hv,bN⟩:=(cz.pargs _ (Jc af) _ (Ir em)).nat;have gC:((BR q).ea b m).take (i+1)=((BR q).ea b m).take i++[(y.ab[i].args.getD at_ 0).toNat]:=by
    rw[Jg (by rw[pA,Jb];exact af)];simp[pA]
   have fh:(y.ab[i].args.getD at_ 0).toNat<nb1.length:=ZB
   generalize hr:(y.ab[i].args.getD at_ 0).toNat=r at *;refine Zc ?_
   refine Wt ?_;simp only[go_sem,gQ,b8,gS,i9,fL,iI,Cy _ _ iI,hy,BlkD.cells,Q0,af,Dh _ _ af,PhiD.cells,em,Qc,Qk _ _ em,hv,bN,ik,Q3,ck,Et,Q7 _ _ fh,Jk,Ji];intro H4 h4;have kn:=kn.aB 0 rfl h4;refine Zg ?_;refine⟨Qs,y.ab.length-(i+1),ZB,i+1,_,rfl,ZB,by rw[Jn];exact ck,?_,kn,rfl⟩;refine (hN.ins ZB).congr λx=>?_;rw[gC];simp only[Jv,Jf];constructor
   ·rintro (h|h|h)
    ·exact .inr (.inr h)
    ·exact .inl h
    ·exact .inr (.inl h)
   ·rintro (h|h|h)
    ·exact .inr (.inl h)
    ·exact .inr (.inr h)
    ·exact .inl h
  ·intro hc;have bh:y.ab.length<=i:=ZE
   have hN:Mem nb1 (λr=>I r\/r∈(BR q).ea b m):=hN.congr λr=>by rw[Jd (by rw[pA,Jb];exact bh)]
   refine Wb ?_;refine Wa ?_;refine Qh (Qe (Qw (λm1 e1 H1=>∃(i:Nat) (bs1:List Bool) (more:Bool),m1=q.ae.toNat-i/\i<=q.ae.toNat/\bs1.length=q.ae.toNat/\Mem bs1 (λr=>O r\/(r<i/\(I r\/r∈(BR q).ea b m)))/\(more=true->cnt bs<cnt bs1)/\(more=false->bs1=bs)/\
    Kn F H1 (lvE q.ae.toNat yi yo zi (zo.set b (z,bs1))) [(y9,.vec 1 (Qv nb1))]/\
    e1=[(2,Uv b),(4,.c (.pp [Ui q.params,Ui q.ae,bc])),(5,.c (.pp [.ah yi 1 0 q.blocks.length,.ah yo 1 0 q.blocks.length])),(9,.c (.ah y9 1 0 q.ae.toNat)),(12,.c (.bool more)),(13,Uv i)]) q.ae.toNat ?_ ?_))
   ·exact⟨0,bs,false,ZB,ZB,bu,hO.congr λr=>ZD,ZD,λ_=>rfl,kn,rfl⟩
   ·rintro m1 e1 H4 ⟨i,bs1,more,su,hi,jl,hB,iY,tZ,kn,rfl⟩;have ik:=kn.l 0 rfl;obtain⟨jq,n7,rP,nE⟩:=FD kn cQ sN nq fR;refine Wa ?_;refine Wu ?_ ?_
    ·intro hc;have af:i<q.ae.toNat:=(by have:(i:Int)<q.ae:=(by simpa using hc);omega);have fE:i<nb1.length:=ZB;have aT:i<bs1.length:=ZB;refine Zc ?_
     refine Ck (λe2 H2=>∃(bs2:List Bool) (more:Bool),bs2.length=q.ae.toNat/\Mem bs2 (λr=>O r\/(r<i+1/\(I r\/r∈(BR q).ea b m)))/\(more=true->cnt bs<cnt bs2)/\(more=false->bs2=bs)/\
      Kn F H2 (lvE q.ae.toNat yi yo zi (zo.set b (z,bs2))) [(y9,.vec 1 (Qv nb1))]/\
      lk 2 e2=Uv b/\lk 4 e2=.c (.pp [Ui q.params,Ui q.ae,bc])/\lk 5 e2=.c (.pp [.ah yi 1 0 q.blocks.length,.ah yo 1 0 q.blocks.length])/\lk 9 e2=.c (.ah y9 1 0 q.ae.toNat)/\lk 12 e2=.c (.bool more)/\lk 13 e2=Uv i) ?_ ?_
     ·intro Q bB _ _;refine Qe (Qa ?_);simp only[go_sem,ik,af,bF _ ck,Q3,ck,Q7 _ _ fE,Jk,Ji];refine Wv ?_ ?_
      ·intro aD;have tU:=(hN i).1 aD;have Ad:Mem (bs1.set i true) (λr=>O r\/(r<i+1/\(I r\/r∈(BR q).ea b m))):=(hB.ins aT).congr λr=>by
        constructor
        ·rintro (rfl|h|h)
         ·exact .inr ⟨ZB,tU⟩
         ·exact .inl h
         ·exact .inr ⟨ZB,h.2⟩
        ·rintro (h|h)
         ·exact .inr (.inl h)
         ·by_cases lY:r=i
          ·exact .inl lY
          ·exact .inr (.inr ⟨ZB,h.2⟩)
       have oP:∀(e:Env),lk 2 e=Uv b->lk 4 e=.c (.pp [Ui q.params,Ui q.ae,bc])->lk 5 e=.c (.pp [.ah yi 1 0 q.blocks.length,.ah yo 1 0 q.blocks.length])->lk 9 e=.c (.ah y9 1 0 q.ae.toNat)->lk 12 e=.c (.bool (bif more then true else !bs1.getD i false))->lk 13 e=Uv i->
         BI prog OL (X.inBlock 3 Q) e H4:=by
        intro e l2 l4 l5 l9 l12 l13;refine Qp ?_;simp only[go_sem,l2,l4,l5,l9,l12,l13,n7,rP,qk _ iE,CI,Gv _ _ _ cQ,sN,hb,iE,af,Q3,jl,Et,Q7 _ _ aT,Jk,Ji];intro H5 h5;refine bB _ _ ⟨bs1.set i true,_,by rw[Jn];exact jl,Ad,?_,?_,Qb2i kn cQ h5,rfl,rfl,rfl,rfl,rfl,rfl⟩
        ·intro eM
         cases hg:bs1.getD i false with
         |true=>
          rw[Q4v hg];rw[hg]at eM
          cases ez:more with
          |true=>exact iY ez
          |false=>rw[ez]at eM;simp at eM
         |false=>
          rw[I9 aT hg]
          cases ez:more with
          |true=>have:=iY ez;omega
          |false=>rw[tZ ez];omega
        ·intro eM
         cases ez:more with
         |true=>rw[ez]at eM;simp at eM
         |false=>
          rw[ez]at eM;have hg:bs1.getD i false=true:=(by simpa using eM);rw[Q4v hg];exact tZ ez
       cases ez:more with
       |true=>
        refine Qa ?_;simp only[go_sem,n7,rP,qk _ iE,bF _ jl,CI,Gv _ _ _ cQ,sN,hb,iE,af,Q3,jl,Q7 _ _ aT,Jk,Ji];exact oP _ rfl rfl rfl rfl (by rw[ez];rfl) rfl
       |false=>
        refine Qa ?_;simp only[go_sem,n7,rP,qk _ iE,bF _ jl,CI,Gv _ _ _ cQ,sN,hb,iE,af,Q3,jl,Q7 _ _ aT,Jk,Ji];exact oP _ rfl rfl rfl rfl (by rw[ez];rfl) rfl
      ·intro aD;refine Zc ?_
       refine bB _ _ ⟨bs1,more,jl,hB.congr λr=>?_,iY,tZ,kn,rfl,rfl,rfl,rfl,rfl,rfl⟩;constructor
       ·rintro (h|h)
        ·exact .inl h
        ·exact .inr ⟨ZB,h.2⟩
       ·rintro (h|h)
        ·exact .inl h
        ·by_cases lY:r=i
         ·subst lY;have:=(hN r).2 h.2;rw[this]at aD;exact absurd aD ZD
         ·exact .inr ⟨ZB,h.2⟩
     ·rintro e2 H5 ⟨bs2,more2,uL,hB2,yj,ym,kn,l2,l4,l5,l9,l12,l13⟩;refine Qp ?_;simp only[go_sem,X.next,l2,l4,l5,l9,l12,l13];exact⟨Qs,q.ae.toNat-(i+1),ZB,i+1,bs2,more2,rfl,ZB,uL,hB2,yj,ym,kn,rfl⟩
    ·intro hc;have bh:q.ae.toNat<=i:=(by have:q.ae<=(i:Int):=(by simpa using hc);omega);refine Wb ?_;refine Zs ?_;refine hK bs1 more H4 jl (hB.congr λr=>?_) iY tZ (kn.drop (A:=[]));constructor
     ·rintro (h|h)
      ·exact .inl h
      ·exact .inr h.2
     ·rintro (h|h)
      ·exact .inl h
      ·have:r<nb1.length:=hN.lt h;exact .inr ⟨ZB,h⟩
end Go.AE.Y
namespace Go.AE.Y
attribute [local go_sem] cond_true cond_false Bool.not_true Bool.not_false
open Go.Proofs.Tryz
variable {H H0 F:Heap}{K:Uk}{E L:Ul}
def Ei (zs:List (Nat×List Bool)):List (List C):=zs.map λp=>[.sl false 1 (Qv p.2)]
theorem Rq (zs:List (Nat×List Bool)):(Ei zs).length=zs.length:=by simp[Ei]
theorem MK (zs:List (Nat×List Bool))(i:Nat)(h:i<zs.length):(Ei zs).getD i []=[.sl false 1 (Qv zs[i].2)]:=by simp[Ei,Ja,h]
theorem Rp {S:Nat->Bool}{R:Nat}{zs:List (Nat×List Bool)}(hl:∀p∈zs,p.2.length=R)(hH:∀p∈obZ zs,H p.1=p.2/\S p.1=true):FrzR H S (BX R zs) (Ei zs):=by
 induction zs with
 |nil=>exact .nil
 |cons z zs ih=>
  have h1:=hH (z.1,.vec 1 (Qv z.2)) (by simp[obZ]);refine .cons (.cons ?_ .nil) (ih (λp hp=>hl p (Jw _ hp)) λp hp=>hH p (by simp only[obZ,Jab];exact Jw _ hp));exact (FrzR.same (S3 _)).ah h1.2 h1.1 (by rw[Q3];exact (hl z J7).symm)
theorem VR {α:Type}{l:List α}{i:Nat}{x:α}(h:i<l.length):(l++[x]).Perm (l.set i x++[l[i]]):=by
 have e:∀(m:List α) (hm:i<m.length),m.Perm (m[i]::m.eraseIdx i):=λm hm=>by
  have h1:(m[i]::m.eraseIdx i).Perm m:=by
   rw[List.eraseIdx_eq_take_drop_succ];refine List.perm_middle.symm.trans ?_;rw[<-Jaf hm,List.take_append_drop]
  exact h1.symm
 have h1:=e l h;have h2:=e (l.set i x) ZL;simp only[Jap,Jag]at h2;refine (h1.append_right [x]).trans ?_;refine List.Perm.trans ?_ (h2.append_right [l[i]]).symm;simp only[Jas];refine (List.Perm.cons _ Jm).trans ?_;refine List.Perm.trans ?_ (List.Perm.cons _ Jm);exact List.Perm.swap _ _ _
def Qb6o (q:CodeD)(zi zo:List (Nat×List Bool)):Prop:=lvOk q.ae.toNat q.blocks.length zi zo/\∀b,b<q.blocks.length->∀r,(tab zi b r↔(BR q).LI b r)/\(tab zo b r↔(BR q).LO b r)
theorem Kz {zs:List (Nat×List Bool)}{b:Nat}(h:b<zs.length):Mem zs[b].2 (tab zs b):=λr=>(GH h r).symm
theorem Qag4 (n r:Nat):(List.replicate n false).getD r false=false:=by
 rw[Ja,List.getElem?_replicate];split <;> rfl
def Dj (x2 x3 yi yo n:Nat):List (Nat×Obj):=[(x2,.st [.sl true 1 [],.sl true 1 []]),(x3,.st [.ah yi 1 0 n,.ah yo 1 0 n])]
theorem Rv {q:CodeD}{bc:C}(ho:q.ok)(dB:CodeR H [] bc q)
  (hK:∀(zi zo:List (Nat×List Bool)) H',Upd H H' []->Qb6o q zi zo->K (.ag [.sl false 1 (Ei zi),.sl false 1 (Ei zo)]) H') :
  Qr prog Ni [.ag [Ui q.params,Ui q.ae,bc]] H K:=by
 have bE:=ho.r0;have cI:=ho.r1;have eV:=ho.b0;have ba:=ho.b1;have aR:=ho.fitsF;have sG:(BR q).n=q.blocks.length:=rfl;obtain⟨R,hR⟩:∃R,q.ae.toNat=R:=⟨_,rfl⟩;obtain⟨n,hn⟩:∃n,q.blocks.length=n:=⟨_,rfl⟩;have uX:q.ae=(R:Int):=ZB
 refine Qy ?_;have gQ:=dB.ow;refine Qd BF Qbrp ?_;refine Za ?_;intro x2 aI H1 h1;have kn:=(Kn.an H).al aI h1;refine Za ?_;intro x3 aL H2 h2;have kn:=kn.al aL h2;have aL:=kn.l 1 rfl;simp only[go_sem,Q9c,aL];intro H3 h3;have kn:Kn H H3 [] [(x2,.st [.sl true 1 [],.sl true 1 []]),(x3,.st [.sl true 1 [],.sl true 1 []])]:=kn.aB 1 rfl h3;refine Qa ?_;obtain⟨b8,gS,i9,fL⟩:=dB.facts kn ZD;simp only[go_sem,gQ,b8,gS,hn];clear b8 fL;intro _;refine Wa ?_;refine Qh (Qe (Qw (λm e1 H1=>∃(i:Nat) (zi zo:List (Nat×List Bool)) (ci co:C) (Li Lo:Ul),m=n-i/\i<=n/\zi.length=i/\zo.length=i/\(∀p∈zi,p.2=List.replicate R false)/\(∀p∈zo,p.2=List.replicate R false)/\
  Gr Li 1 (BX R zi) ci/\Gr Lo 1 (BX R zo) co/\Kn H H1 [] ([(x2,.st [.sl true 1 [],.sl true 1 []]),(x3,.st [ci,co])]++(obZ zi++(obZ zo++(Li++Lo))))/\
  e1=[(1,.c (.pp [Ui q.params,Ui q.ae,bc])),(2,Up x2),(3,Up x3),(4,Uv n),(5,Uv i)]) n ?_ ?_))
 ·exact⟨0,[],[],_,_,[],[],ZB,ZB,rfl,rfl,ZD,ZD,.nil 1,.nil 1,kn,rfl⟩
 ·rintro m e1 H4 ⟨i,zi,zo,ci,co,Li,Lo,hm,hi,lA,lz,oI,pM,lp,cP,kn,rfl⟩;refine Wa ?_;refine Wu ?_ ?_
  ·intro hc;have af:i<n:=ZE
   have uF:=lp.ai;have bG:=cP.ai;have aL:=kn.l 1 rfl;refine Zc ?_
   refine Qh (Qe ?_);refine BM ?_;simp only[go_sem,aL,uF];refine⟨ZB,by simp only[LIM];omega,λy1 sT H5 h5=>?_⟩;have kn:Kn H H5 [] (([(x2,.st [.sl true 1 [],.sl true 1 []]),(x3,.st [ci,co])]++(obZ (zi++[(y1,List.replicate R false)])++(obZ zo++Lo)))++Li):=
    (kn.al sT h5).perm (Qj λf hf h0 hc hp=>by
     have cn:=hc (x2,.st [.sl true 1 [],.sl true 1 []]) [(x3,.st [ci,co])];simp only[Ui,hf,obZ,Js,Jab,Jav,Hm,hR];omega)
   have aL:=kn.l 1 rfl;simp only[go_sem,Q9e,aL,uF];refine kn.bk lp (.mk' _ _ _ _) (by intro r hr;simp at hr;subst hr;rfl) (by simp only[LIM,CI,Jo,Jj];omega) λci2 Li2 H6 rk Bg kn=>?_;have aL:=kn.l 1 rfl;simp only[go_sem,Q9d,aL];intro H7 h7;have kn:Kn H H7 [] ([(x2,.st [.sl true 1 [],.sl true 1 []]),(x3,.st [ci2,co])]++(obZ (zi++[(y1,List.replicate R false)])++(obZ zo++Lo))++Li2):=kn.aB 1 rfl h7;have rk:Gr Li2 1 (BX R (zi++[(y1,List.replicate R false)])) ci2:=by
    have:BX R (zi++[(y1,List.replicate R false)])=BX R zi++[[C.ah y1 1 0 q.ae.toNat]]:=(by simp[BX,hR]);rw[this];exact rk
   have aL:=kn.l 1 rfl;refine BY ?_;simp only[go_sem,aL,bG];refine⟨ZB,by simp only[LIM];omega,λy2 nf H8 h8=>?_⟩;have kn:Kn H H8 [] (([(x2,.st [.sl true 1 [],.sl true 1 []]),(x3,.st [ci2,co])]++(obZ (zi++[(y1,List.replicate R false)])++(obZ (zo++[(y2,List.replicate R false)])++Li2)))++Lo):=
    (kn.al nf h8).perm (Qj λf hf h0 hc hp=>by
     simp only[Ui,hf,obZ,Js,Jab,Jav,Hm,hR];omega)
   have aL:=kn.l 1 rfl;simp only[go_sem,Q9g,aL,bG];refine kn.bk cP (.mk' _ _ _ _) (by intro r hr;simp at hr;subst hr;rfl) (by simp only[LIM,CI,Jo,Jj];omega) λco2 Lo2 H9 m9 Bf kn=>?_;have aL:=kn.l 1 rfl;simp only[go_sem,Q9f,aL];intro H10 db;have kn:Kn H H10 [] ([(x2,.st [.sl true 1 [],.sl true 1 []]),(x3,.st [ci2,co2])]++(obZ (zi++[(y1,List.replicate R false)])++(obZ (zo++[(y2,List.replicate R false)])++Li2))++Lo2):=kn.aB 1 rfl db;have m9:Gr Lo2 1 (BX R (zo++[(y2,List.replicate R false)])) co2:=by
    have:BX R (zo++[(y2,List.replicate R false)])=BX R zo++[[C.ah y2 1 0 q.ae.toNat]]:=(by simp[BX,hR]);rw[this];exact m9
   refine Zg ?_;refine⟨Qs,n-(i+1),ZB,i+1,zi++[(y1,List.replicate R false)],zo++[(y2,List.replicate R false)],ci2,co2,Li2,Lo2,rfl,ZB,by simp[lA],by simp[lz],?_,?_,rk,m9,?_,rfl⟩
   ·intro p hp;rcases Jv.1 hp with hp|hp
    ·exact oI p hp
    ·simp at hp;rw[hp]
   ·intro p hp;rcases Jv.1 hp with hp|hp
    ·exact pM p hp
    ·simp at hp;rw[hp]
   ·exact kn.perm (by simp only[Jax];exact .refl _)
  ·intro hc;have dH:i=n:=by have:n<=i:=ZE;omega
   subst dH;obtain⟨yi,jq,B3⟩:∃yi,ci=.ah yi 1 0 i/\Li=[(yi,.vec 1 (BX R zi))]:=by
    rcases lp with ⟨_,h,_⟩|⟨y,h1,h2⟩
    ·have:=congrArg List.length h;rw[CI,lA]at this;simp at this;omega
    ·exact⟨y,by rw[h1,CI,lA],h2⟩
   obtain⟨yo,cz,B2⟩:∃yo,co=.ah yo 1 0 i/\Lo=[(yo,.vec 1 (BX R zo))]:=by
    rcases cP with ⟨_,h,_⟩|⟨y,h1,h2⟩
    ·have:=congrArg List.length h;rw[CI,lz]at this;simp at this;omega
    ·exact⟨y,by rw[h1,CI,lz],h2⟩
   have kn:Kn H H4 [] (lvE R yi yo zi zo++Dj x2 x3 yi yo i):=by
    refine kn.perm (Qj λf hf h0 hc hp=>?_);rw[B3,B2,jq,cz];have e1:=hc (x2,.st [.sl true 1 [],.sl true 1 []]) [(x3,.st [.ah yi 1 0 i,.ah yo 1 0 i])];have e2:=hc (yi,.vec 1 (BX R zi)) [(yo,.vec 1 (BX R zo))];simp only[Ui,hf,lvE,Dj];omega
   have cS:lvOk R i zi zo:=⟨lA,lz,λp hp=>by rw[oI p hp];simp,λp hp=>by rw[pM p hp];simp⟩;have bD:∀(zs:List (Nat×List Bool)),(∀p∈zs,p.2=List.replicate R false)->∀b r,¬tab zs b r:=λzs h b r hr=>by
    rw[tab]at hr
    cases hg:zs[b]? with
    |none=>rw[hg]at hr;simp at hr
    |some p=>
     rw[hg]at hr;have:=h p (Ja0 hg);simp only[J9,Jam,this,Qag4]at hr;exact absurd hr ZD
   have fY:LvInv (BR q) zi zo:=⟨λb _ r hr=>absurd hr (bD zi oI b r),λb _ r hr=>absurd hr (bD zo pM b r),λb _ r hr=>absurd hr (bD zi oI b r)⟩;refine Zb ?_;refine Wa ?_;clear bD oI pM lp cP B3 B2 jq cz lA lz hm hc hi;refine Qh (Qe (Qw (λm e1 H1=>∃(zi zo:List (Nat×List Bool)) (a:Bool) (yi yo:Nat),m=(if a=true then 2 * (i * R)+1-(Ca zi+Ca zo)else 0)/\lvOk R i zi zo/\LvInv (BR q) zi zo/\(a=false->∀b,b<i->LvCl (BR q) zi zo b)/\
    Kn H H1 [] (lvE R yi yo zi zo++Dj x2 x3 yi yo i)/\
    lk 1 e1=.c (.pp [Ui q.params,Ui q.ae,bc])/\lk 2 e1=Up x2/\lk 3 e1=Up x3/\lk 4 e1=Uv i/\lk 6 e1=.c (.bool a)) (2 * (i * R)+1-(Ca zi+Ca zo)) ?_ ?_))
   ·exact⟨zi,zo,true,yi,yo,rfl,cS,fY,λh=>ZI,kn,rfl,rfl,rfl,rfl,rfl⟩
   ·clear cS fY kn;rintro m e1 H5 ⟨zi,zo,a,yi,yo,hm,cS,fY,cG,kn,l1,l2,l3,l4,l6⟩;have nH:=Gg cS.li;have nG:=Gg cS.lo;rw[cS.i]at nH;rw[cS.o]at nG;refine Q1 (Qa ?_);simp only[go_sem,l1,l2,l3,l4,l6];refine Wu ?_ ?_
    ·intro br;rw[br,if_pos rfl]at hm;refine Zc ?_
     refine Wq ?_;refine Za ?_;refine⟨Qs,?_⟩;clear cG;refine Qe (Qw (λm1 e1 H1=>∃(k:Nat) (j:Int) (zi1 zo1:List (Nat×List Bool)) (a:Bool) (yi yo:Nat),m1=k/\k<=i/\j=(k:Int)-1/\lvOk R i zi1 zo1/\LvInv (BR q) zi1 zo1/\Ca zi+Ca zo<=Ca zi1+Ca zo1/\
      (a=true->Ca zi+Ca zo<Ca zi1+Ca zo1)/\(a=false->∀b,k<=b->b<i->LvCl (BR q) zi1 zo1 b)/\
      Kn H H1 [] (lvE R yi yo zi1 zo1++Dj x2 x3 yi yo i)/\
      e1=[(1,.c (.pp [Ui q.params,Ui q.ae,bc])),(2,Up x2),(3,Up x3),(4,Uv i),(6,.c (.bool a)),(7,Uv j)]) i ?_ ?_)
     ·exact⟨i,_,zi,zo,false,yi,yo,rfl,Ji _,rfl,cS,fY,Ji _,λh=>ZI,λ_ b h1 h2=>ZB,kn,rfl⟩
     ·have hTb:Ca zi+Ca zo<=2 * (i * R):=ZB;generalize hT0:Ca zi+Ca zo=T0 at *;clear fY cS kn nG nH hT0;clear zi zo yi yo;rintro m1 e1 H6 ⟨k,j,zi,zo,a,yi,yo,rfl,hk,um,cS,fY,htot,vr,rX,kn,rfl⟩;have nH:=Gg cS.li;have nG:=Gg cS.lo;rw[cS.i]at nH;rw[cS.o]at nG;refine Wa ?_;refine Wu ?_ ?_
      ·intro hc;have bh:0<=j:=ZE;obtain⟨b,rfl⟩:∃b,m1=b+1:=⟨m1-1,ZB⟩;have hj:j=(b:Int):=ZB;subst hj;have cR:b<i:=ZB;have gR:b<q.blocks.length:=ZB;have cQ:b<zo.length:=(by rw[cS.o];exact cR);have cK:b<zi.length:=(by rw[cS.i];exact cR);obtain⟨⟨z,bs⟩,hz⟩:∃p,zo[b]=p:=⟨_,rfl⟩;obtain⟨⟨w,bw⟩,hw⟩:∃p,zi[b]=p:=⟨_,rfl⟩;have dx:zo[b]? = some (z,bs):=(by rw[Je cQ,hz]);have fR:zi[b]? = some (w,bw):=(by rw[Je cK,hw]);have zz:bs.length=R:=cS.lo (z,bs) (by rw[<-hz];exact Jc cQ);have o7:bw.length=R:=cS.li (w,bw) (by rw[<-hw];exact Jc cK);have eM:Mem bs (tab zo b):=(by have:=Kz cQ;rw[hz]at this;exact this);have gU:zo.set b (z,bs)=zo:=Me dx;obtain⟨y,hy⟩:∃y,q.blocks[b]=y:=⟨_,rfl⟩;have cz:y.ok q b:=(by rw[<-hy];exact ho.bs b gR);have cM:y.ins.length<=1200/\y.ab.length<=1200:=(by rw[<-hy];exact ho.il b gR);have fj:(BR q).nx b=y.next.map Int.toNat:=(by rw[<-hy,<-Ez gR];rfl);have dV:(BR q).ph b=y.ab.map λp=>p.to.toNat:=(by rw[Qbv8 gR,hy]);refine Zc ?_
       refine Ck (λe2 H2=>∃(zi2 zo2:List (Nat×List Bool)) (a2:Bool) (yi yo:Nat),lvOk R i zi2 zo2/\LvInv (BR q) zi2 zo2/\Ca zi+Ca zo<=Ca zi2+Ca zo2/\
        (a2=true->a=true\/Ca zi+Ca zo<Ca zi2+Ca zo2)/\(a2=false->a=false/\LvCl (BR q) zi2 zo2 b/\∀c,LvCl (BR q) zi zo c->LvCl (BR q) zi2 zo2 c)/\
        Kn H H2 [] (lvE R yi yo zi2 zo2++Dj x2 x3 yi yo i)/\
        lk 1 e2=.c (.pp [Ui q.params,Ui q.ae,bc])/\lk 2 e2=Up x2/\lk 3 e2=Up x3/\lk 4 e2=Uv i/\lk 6 e2=.c (.bool a2)/\lk 7 e2=Uv b) ?_ ?_
       ·intro Q bB _ _;refine Qe (Q1 ?_);refine Za ?_;refine Qh (Qe (Qw (λm2 e1 H1=>∃(i2:Nat) (bs1:List Bool) (a1:Bool),m2=y.next.length-i2/\i2<=y.next.length/\bs1.length=R/\(∀r,bs.getD r false=true->bs1.getD r false=true)/\(∀r,bs1.getD r false=true->(BR q).LO b r)/\
         (∀m∈((BR q).nx b).take i2,∀r,tab zi m r\/r∈(BR q).ea b m->bs1.getD r false=true)/\(a1=true->a=true\/cnt bs<cnt bs1)/\(a1=false->a=false/\bs1=bs)/\
         Kn H H1 [] (lvE R yi yo zi (zo.set b (z,bs1))++Dj x2 x3 yi yo i)/\
         e1=[(1,.c (.pp [Ui q.params,Ui q.ae,bc])),(2,Up x2),(3,Up x3),(4,Uv i),(6,.c (.bool a1)),(7,Uv b),(8,Uv i2)]) y.next.length ?_ ?_))
        ·exact⟨0,bs,a,ZB,ZB,zz,λr h=>h,λr h=>fY.bo b gR r ((eM r).1 h),ZD,λh=>.inl h,λh=>⟨h,rfl⟩,by rw[gU];exact kn,rfl⟩
        ·rintro m2 e1 H7 ⟨i2,bs1,a1,fw,ov,iA,g1,g2,g3,k1,k2,kn,rfl⟩;have aL:H7 x3=.st [.ah yi 1 0 i,.ah yo 1 0 i]:=(kn.get (x3,.st [.ah yi 1 0 i,.ah yo 1 0 i]) Zbm).1;obtain⟨b8,_,_,fL⟩:=dB.facts kn ZD;refine Q1 (Qa ?_);simp only[go_sem,gQ,b8,gS,i9,fL,gR,Cy _ _ gR,hy,BlkD.cells,Qc];intro _;refine Wu ?_ ?_
         ·intro aD;have af:i2<y.next.length:=ZH;have hnl2:=cz.nxl;have bm:y.next.getD i2 0=y.next[i2]:=Zai;have tW:y.next[i2]∈gnx q b:=(by rw[Ez gR,hy];exact Jc af);have hmr:=cz.nx _ (Jc af);obtain⟨mm,ez⟩:=Int.eq_ofNat_of_zero_le (show 0<=y.next[i2]by omega);have nq:mm<zi.length:=(by rw[cS.i];omega);have yp:mm∈(BR q).nx b:=(by rw[fj];exact Jl.2 ⟨y.next[i2],Jc af,by rw[ez];rfl⟩);have bF:((BR q).nx b).take (i2+1)=((BR q).nx b).take i2++[mm]:=by
           rw[Jg (by rw[fj,Jb];exact af)];congr 1;simp only[fj,Jr,ez];rfl
          rw[ez]at tW bm;have zA:b<(zo.set b (z,bs1)).length:=(by simpa using cQ);have yr:lvOk R i zi (zo.set b (z,bs1)):=⟨cS.i,by rw[Jn];exact cS.o,cS.li,λp hp=>by
           rcases Jt hp with hp|rfl
           ·exact cS.lo p hp
           ·exact iA⟩
          refine Zc ?_
          refine Wp ?_;simp only[go_sem,aL,gQ,b8,gS,i9,fL,gR,Cy _ _ gR,hy,BlkD.cells,af,Qc,Qk _ _ af,bm];subst hR;subst hn;refine Qbqy (F:=H7) (z:=z) (bs:=bs1) (w:=zi[mm].1) (nb:=zi[mm].2) (O:=λr=>bs1.getD r false=true) (I:=tab zi mm) ho (dB.mid kn) (λx hx=>by rw[Js];exact Jp _ hx) gR tW yr (by rw[List.getElem?_set_self cQ]) (by rw[Je nq]) (λr=>Iff.rfl) (Kz nq) kn.mid λbs2 f H8 rI fX mD lr k2'=>?_;rw[Jbz]at k2';have kn:=(kn.comp k2' K0).drop;have stepT:∀a1',(a1'=(f || a1))->∃m,m<m2/\∃(i5:Nat) (bs1:List Bool) (a1:Bool),m=y.next.length-i5/\i5<=y.next.length/\bs1.length=q.ae.toNat/\(∀r,bs.getD r false=true->bs1.getD r false=true)/\(∀r,bs1.getD r false=true->(BR q).LO b r)/\
            (∀m∈((BR q).nx b).take i5,∀r,tab zi m r\/r∈(BR q).ea b m->bs1.getD r false=true)/\(a1=true->a=true\/cnt bs<cnt bs1)/\(a1=false->a=false/\bs1=bs)/\
            Kn H H8 [] (lvE q.ae.toNat yi yo zi (zo.set b (z,bs1))++Dj x2 x3 yi yo q.blocks.length)/\
            [(1,V.c (.pp [Ui q.params,Ui q.ae,bc])),(2,Up x2),(3,Up x3),(4,.c (Ui q.blocks.length)),(6,.c (.bool a1')),(7,Uv b),(8,Uv ((i2:Int)+1))]=[(1,.c (.pp [Ui q.params,Ui q.ae,bc])),(2,Up x2),(3,Up x3),(4,.c (Ui q.blocks.length)),(6,.c (.bool a1)),(7,Uv b),(8,Uv i5)]:=by
           intro a1' uQ;refine⟨y.next.length-(i2+1),ZB,i2+1,bs2,a1',rfl,ZB,rI,λr hr=>(fX r).2 (.inl (g1 r hr)),λr hr=>?_,λm hm r hr=>?_,λha=>?_,λha=>?_,kn,rfl⟩
           ·rcases (fX r).1 hr with h|h|h
            ·exact g2 r h
            ·exact⟨mm,yp,.inl (fY.bi mm (aR b gR mm yp) r h)⟩
            ·exact⟨mm,yp,.inr h⟩
           ·rw[bF]at hm;rcases Jv.1 hm with hm|hm
            ·exact (fX r).2 (.inl (g3 m hm r hr))
            ·simp only[Jf]at hm;subst hm;exact (fX r).2 (.inr hr)
           ·have c1:cnt bs<=cnt bs1:=(Ic ZB g1).1
            cases hf:f with
            |true=>have:=mD hf;right;omega
            |false=>
             rw[lr hf];rw[uQ,hf]at ha;exact k1 ZaG
           ·rw[uQ]at ha;have oz:f=false:=by cases hf:f with
             |true=>rw[hf]at ha;simp at ha
             |false=>rfl
            rw[oz]at ha;obtain⟨q1,q2⟩:=k2 ZaG;exact⟨q1,by rw[lr oz,q2]⟩
          cases Ba:f with
          |true=>
           simp only[go_sem,T7];refine Zg ?_;exact⟨Qs,stepT true (by rw[Ba];rfl)⟩
          |false=>
           simp only[go_sem,T7];refine Zg ?_;exact⟨Qs,stepT a1 (by rw[Ba];rfl)⟩
         ·intro aD;have yX:y.next.length<=i2:=ZH;have g3:∀r,(BR q).outT (tab zi) b r->bs1.getD r false=true:=λr ⟨m,hm,hr⟩=>
           g3 m (by rw[Jd (by rw[fj,Jb];exact yX)];exact hm) r hr
          refine Zb ?_;refine Zm aL gQ ?_;have zA:b<(zo.set b (z,bs1)).length:=(by simpa using cQ);obtain⟨n9,pN,pJ,qe⟩:=FD kn.mid cQ (by rw[hz]) cK hw;have eK:Slc H7 1 (BX R zo) (.ah yo 1 0 i):=⟨by simp only[aZ,pN,CI,cS.o];exact⟨trivial,ZB⟩,rfl,by simp only[rowsOf,pN,Jbh];exact Jd (by rw[CI,cS.o];exact Ji _),by simp only[ay,CI,cS.o]⟩;have fS:Slc H7 1 (Qv bs1) (.ah z 1 0 R):=⟨by simp only[aZ,pJ,Q3,iA];exact⟨trivial,ZB⟩,rfl,by simp only[rowsOf,pJ,Jbh];exact Jd (by rw[Q3,iA];exact Ji _),by simp only[ay,Q3,iA]⟩;refine Qbbh (i:=-1) (ic:=.ah yi 1 0 i) (bc:=bc) (W:=λr=>bs1.getD r false=true) ho (dB.mid kn).nil gR ZB ZB kn eK rfl rfl (by rw[CI];exact cQ) (by rw[Gv _ _ _ cQ,hz]) fS rfl (by rw[hR];exact iA) (λr=>Iff.rfl) λy9 nb0 H8 nZ mq kn=>?_;rw[hR]at nZ;simp only[go_sem,Q3t,hR];refine Wa ?_;refine Qh (Qe (Qw (λm2 e1 H1=>∃(i2:Nat) (nb:List Bool),m2=y.ab.length-i2/\i2<=y.ab.length/\nb.length=R/\Mem nb (λr=>(BR q).beh (λr=>bs1.getD r false=true) b 0 r/\r∉((BR q).ph b).take i2)/\
           Kn H H1 [] ((lvE R yi yo zi (zo.set b (z,bs1))++Dj x2 x3 yi yo i)++[(y9,.vec 1 (Qv nb))])/\
           e1=[(1,.c (.pp [Ui q.params,Ui q.ae,bc])),(2,Up x2),(3,Up x3),(4,Uv i),(6,.c (.bool a1)),(7,Uv b),(9,.c (.ah y9 1 0 R)),(10,Uv i2)]) y.ab.length ?_ ?_))
          ·exact⟨0,nb0,ZB,ZB,nZ,mq.congr λr=>ZD,kn,rfl⟩
          ·clear mq nZ kn;rintro m3 e1 H9 ⟨i3,nb,qS,hi3,ck,vF,kn,rfl⟩;have ik:H9 y9=.vec 1 (Qv nb):=(kn.get (y9,.vec 1 (Qv nb)) ZD).1;have htkn:(Qv nb).take R=Qv nb:=Jd Zan;obtain⟨b8,_,_,fL⟩:=dB.facts kn ZD;refine Q1 (Qa ?_);simp only[go_sem,gQ,b8,gS,i9,fL,gR,Cy _ _ gR,hy,BlkD.cells,Q0];intro _;refine Wu ?_ ?_
           ·intro bA;have cf:i3<y.ab.length:=ZT;obtain⟨hv,bN⟩:=(cz.pto _ (Jc cf)).nat;rw[hR]at bN;have qm:((BR q).ph b).take (i3+1)=((BR q).ph b).take i3++[(y.ab[i3].to).toNat]:=by
             rw[Jg (by rw[dV,Jb];exact cf)];simp[dV]
            have fh:(y.ab[i3].to).toNat<nb.length:=ZB;generalize hr:(y.ab[i3].to).toNat=r at *;refine Zc ?_
            refine Wt ?_;simp only[go_sem,gQ,b8,gS,i9,fL,gR,Cy _ _ gR,hy,BlkD.cells,cf,Q0,Dh _ _ cf,PhiD.cells,hv,bN,ik,Q3,ck,Et,Q7 _ _ fh,Jk,Ji];intro H10 db;have kn:=kn.aB (lvE R yi yo zi (zo.set b (z,bs1))++Dj x2 x3 yi yo i).length (x:=y9) (o:=.vec 1 (Qv nb)) ZD db;refine Zg ?_;refine⟨Qs,y.ab.length-(i3+1),ZB,i3+1,nb.set r false,rfl,ZB,by rw[Jn];exact ck,?_,ZM,rfl⟩;refine (vF.del fh).congr λx=>?_;rw[qm];simp only[Jv,Jf,not_or,and_assoc]
           ·intro bA;have yW:y.ab.length<=i3:=ZT;have vF:Mem nb ((BR q).thru (λr=>bs1.getD r false=true) b):=vF.congr λr=>(by rw[Jd (by rw[dV,Jb];exact yW)];rfl);refine Zb ?_;refine Wa ?_;refine Qh (Qe (Qw (λm4 e1 H1=>∃(i4:Nat) (a2:Bool),m4=R-i4/\i4<=R/\H1=H9/\(a2=true->a1=true\/∃r,nb.getD r false≠bw.getD r false)/\(a2=false->a1=false/\∀r,r<i4->nb.getD r false=bw.getD r false)/\
             e1=[(1,.c (.pp [Ui q.params,Ui q.ae,bc])),(2,Up x2),(3,Up x3),(4,Uv i),(6,.c (.bool a2)),(7,Uv b),(9,.c (.ah y9 1 0 R)),(11,Uv i4)]) R ?_ ?_))
            ·exact⟨0,a1,ZB,ZB,rfl,λh=>.inl h,λh=>⟨h,λr hr=>ZB⟩,rfl⟩
            ·have aL:H9 x3=.st [.ah yi 1 0 i,.ah yo 1 0 i]:=(kn.get (x3,.st [.ah yi 1 0 i,.ah yo 1 0 i]) Zbm).1;have knA:=kn.drop;obtain⟨n9,pN,pJ,qe⟩:=FD knA.mid cQ (by rw[hz]) cK hw;rintro m4 e1 H10 ⟨i4,a2,AL,hi4,rfl,k3,k4,rfl⟩;have qk:∀(zs:List (Nat×List Bool)),zs.length=i->(BX R zs).take i=BX R zs:=λzs h=>Jd (by rw[CI];omega);have vt:∀(bs:List Bool),bs.length=R->(Qv bs).take R=Qv bs:=λbs h=>Jd Zan;have gW:zi[b].1=w:=(by rw[hw]);have m7:=cS.i;refine Wa ?_;refine Wu ?_ ?_
             ·intro ef;have gJ:i4<R:=(by have:(i4:Int)<q.ae:=(by simpa using ef);omega);have ub:i4<nb.length:=ZB;have ua:i4<bw.length:=ZB;refine Zc ?_
              refine Ck (λe2 H2=>∃(a3:Bool),H2=H10/\(a3=true->a2=true\/nb.getD i4 false≠bw.getD i4 false)/\(a3=false->a2=false/\nb.getD i4 false=bw.getD i4 false)/\
               lk 1 e2=.c (.pp [Ui q.params,Ui q.ae,bc])/\lk 2 e2=Up x2/\lk 3 e2=Up x3/\lk 4 e2=Uv i/\lk 6 e2=.c (.bool a3)/\lk 7 e2=Uv b/\lk 9 e2=.c (.ah y9 1 0 R)/\lk 11 e2=Uv i4) ?_ ?_
              ·intro Q bB _ _;refine Qe ?_
               cases mV:a2 with
               |true=>
                refine BY ?_;simp only[go_sem,aL,n9,qe,ik,qk _ m7,vt _ ck,vt _ o7,CI,Gv _ _ _ cK,gW,cR,m7,gJ,Q3,ck,o7,Q7 _ _ ub,Q7 _ _ ua,Jk,Ji];exact bB _ _ ⟨true,rfl,λ_=>.inl mV,λh=>ZI,rfl,rfl,rfl,rfl,rfl,rfl,rfl,rfl⟩
               |false=>
                refine BY ?_;simp only[go_sem,aL,n9,qe,ik,qk _ m7,vt _ ck,vt _ o7,CI,Gv _ _ _ cK,gW,cR,m7,gJ,Q3,ck,o7,Q7 _ _ ub,Q7 _ _ ua,Jk,Ji];refine bB _ _ ⟨_,rfl,λh=>?_,λh=>?_,rfl,rfl,rfl,rfl,rfl,rfl,rfl,rfl⟩
                ·right;intro he;rw[he]at h;simp at h
                ·exact⟨mV,ZL⟩
              ·rintro e2 H11 ⟨a3,rfl,q1,q2,l1,l2,l3,l4,l6,l7,l9,l11⟩;refine Qp ?_;simp only[go_sem,X.next,l1,l2,l3,l4,l6,l7,l9,l11];refine⟨Qs,R-(i4+1),ZB,i4+1,a3,rfl,ZB,λh=>?_,λh=>?_,rfl⟩
               ·rcases q1 h with h1|h1
                ·exact k3 h1
                ·exact .inr ⟨i4,h1⟩
               ·obtain⟨h1,h2⟩:=q2 h;obtain⟨h3,h4⟩:=k4 h1;refine⟨h3,λr hr=>?_⟩;by_cases lY:r<i4
                ·exact h4 r lY
                ·have:r=i4:=ZB;subst this;exact h2
             ·intro ef;have yV:i4=R:=(by have:¬(i4:Int)<q.ae:=(by simpa using ef);omega);subst yV;refine Zb ?_;refine Qp ?_;simp only[go_sem,aL,n9,CI,Gv _ _ _ cK,cR,m7,Jk,Ji];intro H11 ev;have aC:(BX i4 zi).set b [.ah y9 1 0 i4]=BX i4 (zi.set b (y9,nb)):=(by rw[BX,BX,Jac]);rw[aC]at ev;have nW:obZ (zi.set b (y9,nb))=(obZ zi).set b (y9,.vec 1 (Qv nb)):=(by rw[obZ,obZ,Jac]);have vE:=VR (l:=obZ zi) (i:=b) (x:=(y9,Obj.vec 1 (Qv nb))) (by simpa[obZ]using cK);have kn:Kn H H11 [] ((lvE i4 yi yo (zi.set b (y9,nb)) (zo.set b (z,bs1))++Dj x2 x3 yi yo i)++[(obZ zi)[b]'(by simpa[obZ]using cK)]):=by
               have k5:Kn H H11 [] ((([(yi,.vec 1 (BX i4 (zi.set b (y9,nb)))),(yo,.vec 1 (BX i4 (zo.set b (z,bs1))))]++(obZ zi++obZ (zo.set b (z,bs1))))++Dj x2 x3 yi yo i)++[(y9,.vec 1 (Qv nb))]):=kn.aB 0 (x:=yi) (o:=.vec 1 (BX i4 zi)) rfl ev;refine k5.perm (Qj λf hf h0 hc hp=>?_);have e1:=hp _ _ vE;simp only[hf]at e1;simp only[Ui,lvE,hf,nW];omega
              have kn:=kn.drop;have aN:=fY.step (y:=y9) aR gR (cS.i.trans hn.symm) (cS.o.trans hn.symm) cS.li cS.lo iA ck dx fR g1 g2 g3 (λr=>vF r) k1 k2 k3 k4;obtain⟨s1,s2,s3,s4⟩:=aN;refine bB _ _ ⟨zi.set b (y9,nb),zo.set b (z,bs1),a2,yi,yo,⟨by rw[Jn];exact cS.i,by rw[Jn];exact cS.o,λp hp=>?_,λp hp=>?_⟩,s1,s2,s3,s4,kn,rfl,rfl,rfl,rfl,rfl,rfl⟩
              ·rcases Jt hp with hp|rfl
               ·exact cS.li p hp
               ·exact ck
              ·rcases Jt hp with hp|rfl
               ·exact cS.lo p hp
               ·exact iA
       ·rintro e2 H7 ⟨zi2,zo2,a2,yi2,yo2,yq,uq,t1,t2,t3,kn,l1,l2,l3,l4,l6,l7⟩;refine Qp ?_;simp only[go_sem,X.next,l1,l2,l3,l4,l6,l7];refine⟨Qs,b,ZB,b,(b:Int)-1,zi2,zo2,a2,yi2,yo2,rfl,ZB,rfl,yq,uq,ZB,λha=>?_,λha c dB dw=>?_,kn,rfl⟩
        ·rcases t2 ha with h|h
         ·have:=vr h;omega
         ·omega
        ·obtain⟨u1,u2,u3⟩:=t3 ha;by_cases fK:c=b
         ·subst fK;exact u2
         ·exact u3 c (rX u1 c ZB dw)
      ·intro hc;have hlt0:¬0<=j:=ZE;have nr:m1=0:=ZB;subst nr;refine Zb ?_;refine⟨if a=true then 2 * (i * R)+1-(Ca zi+Ca zo)else 0,?_,zi,zo,a,yi,yo,rfl,cS,fY,λha b hb=>rX ha b ZB hb,kn,by first|exact⟨rfl,rfl,rfl,rfl⟩|exact rfl|trivial⟩;split
       ·have:=vr ‹_›;omega
       ·omega
    ·intro haf;have cG:=cG haf;have cV:=fY.done aR λb hb=>cG b (by rw[<-hn];exact hb);have aL:H5 x3=.st [.ah yi 1 0 i,.ah yo 1 0 i]:=(kn.get (x3,.st [.ah yi 1 0 i,.ah yo 1 0 i]) Zbm).1;have aI:H5 x2=.st [.sl true 1 [],.sl true 1 []]:=(kn.get (x2,.st [.sl true 1 [],.sl true 1 []]) Zbm).1;refine Zb ?_;refine Zm aI aL ?_;intro H6 h6;have kn:Kn H H6 [] (lvE R yi yo zi zo++[(x2,.st [.ah yi 1 0 i,.ah yo 1 0 i]),(x3,.st [.ah yi 1 0 i,.ah yo 1 0 i])]):=by
      have:=kn.aB (lvE R yi yo zi zo).length (x:=x2) (o:=.st [.sl true 1 [],.sl true 1 []]) Zbm h6;simpa[Dj]using this
     have aI:H6 x2=.st [.ah yi 1 0 i,.ah yo 1 0 i]:=(kn.get (x2,.st [.ah yi 1 0 i,.ah yo 1 0 i]) ZD).1;have hg:∀p∈lvE R yi yo zi zo,H6 p.1=p.2/\un H p.1=true:=λp hp=>⟨(kn.get p (Jh _ (Jp _ hp))).1,DG (kn.loc p (Jp _ hp))⟩;have g1:=hg (yi,.vec 1 (BX R zi)) (by simp[lvE]);have g2:=hg (yo,.vec 1 (BX R zo)) (by simp[lvE]);refine Ql ?_;simp only[go_sem,Q4,BE,Jf,forall_eq,RS.op,aI];refine⟨_,(FrzL.cons (FrzR.ah g1.2 g1.1 (by rw[CI,cS.i]) (Rp cS.li λp hp=>hg p (by simp only[lvE];exact Jh _ (Jp _ hp))))
      (FrzL.cons (FrzR.ah g2.2 g2.1 (by rw[CI,cS.o]) (Rp cS.lo λp hp=>hg p (by simp only[lvE];exact Jh _ (Jh _ hp)))) FrzL.nil)).ag,hK zi zo _ kn.fin ⟨by rw[hR,hn];exact cS,λb hb=>cV b hb⟩⟩
end Go.AE.Y
namespace Go.AE.Y
attribute [local go_sem] cond_true cond_false Bool.not_true Bool.not_false
open Go.Proofs.Tryz
variable {H H0:Heap}{K:Uk}{E B Lg:Ul}
theorem E4 {S:Nat->Bool}{a b a' b':V}(h:FrzV H S a a')(k:FrzV H S b b'):FrzV H S (.tup [a,b]) (.tup [a',b']):=by
 refine .tup _ _ rfl λj x x' h1 h2=>?_
 match j with
 |0=>simp at h1 h2;subst h1;subst h2;exact h
 |1=>simp at h1 h2;subst h1;subst h2;exact k
 |j+2=>simp at h1
theorem Eo {S:Nat->Bool}(cs:List CodeD):FrzV H S (.ag [.sl false 3 (Qm cs)]) (.ag [.sl false 3 (Qm cs)]):=FrzL.ag (.cons (FrzR.same (Ey cs)).sl .nil)
theorem UnitOk.fits {cs:List CodeD}(h:UnitOk cs):∀c∈cs,c.fits:=λc hc=>(h.2.2 c hc).f
end Go.AE.Y
namespace Go.AE.Y
open Go.Proofs.Tryz
def Sx:=dY 69227126882
def Qab1:=dZ 0x7210054e5460721
def Qab2:=dZ 0x901210137d011220331 Qab1 Sx
def Qaob:=dZ 0x9012001700432f052f0121 Qab2
theorem Qanf:mFn prog Kb 1 8 Qaob Td=true:=ZF
def Qhs:=dY 69226995810
def Qht:=dY 0x101e18120a2
def Qhu:=dY 0x101e18420e2
def Q2z:=dZ 0x72100285e18560f21
def Q20:=dZ 0x901210137d0118420b31 Q2z Qhu
def Q21:=dW 0x9012108f015120731 [Q20] [Qht] [eI 9 (.call VC [.t 8,.k (.c (.fn Kb []))])]
def Q22:=dW 0x9012108f011020331 [Q21] [Qhs] [eI 5 (.call VB [.t 4,.k (.c (.fn Ka []))])]
def Qab0:=dZ 0x9012017004727532f052f0121 Q22
theorem Qabk:mFn prog Mp 1 16 Qab0 Tj=true:=ZF
def Q54:=dZ 0x7210053e5360721
def Q55:=dW 0x9012108f011220331 [Q54] [Sx] [eI 5 (.call Y7 [.t 4,.k (.c (.fn Mp []))])]
def Qahj:=dZ 0x901205700332f052f0121 Q55
theorem Qafv:mFn prog Vv 1 8 Qahj Ce=true:=ZF
end Go.AE.Y
namespace Go.AE.Y
attribute [local go_sem] cond_true cond_false Bool.not_true Bool.not_false
open Go.Proofs.Tryz
variable {H H0 F:Heap}{K:Uk}{E L:Ul}
theorem Qblf {x:PhiD}(hl:x.args.length<=LIM)(hK:∀H',Upd H H' []->K (.ag x.cells) H'):Qr prog Ka [.ag x.cells] H K:=by
 refine Qy ?_;refine Qd BF Qavt ?_;refine Qa ?_;simp only[go_sem,PhiD.cells];intro x2 aI H1 h1;have kn:=(Kn.an H).al aI h1;refine Zw ?_;refine IC kn hl λt Lg H2 aq bt kn=>?_;have aI:=kn.l 0 rfl;simp only[go_sem,Qns,aI];intro H3 h3;have kn:Kn H H3 [] ([(x2,.st [Ui x.to,t])]++Lg):=kn.aB 0 rfl h3;have aI:=kn.l 0 rfl;refine Ql ?_;simp only[go_sem,Q4,BE,Jf,forall_eq,RS.op,bt,aI];exact⟨_,FrzL.ag (.cons (Qg rfl) (.cons (aq.frz kn (Qq _)) .nil)),hK _ kn.fin⟩
theorem Qble {x:InsD}(hl:x.args.length<=LIM)(hK:∀H',Upd H H' []->K (.ag x.cells) H'):Qr prog Kb [.ag x.cells] H K:=by
 refine Qy ?_;refine Qd BF Qanf ?_;refine Zz ?_;intro x1 bU H0 h0;have kn:=(Kn.an H).al bU h0;intro x2 aI H1 h1;have kn:=kn.al aI h1;have bU:=kn.l 0 rfl;refine Zj bU ?_;refine IC kn hl λt Lg H2 aq bt kn=>?_;have bU:=kn.l 0 rfl;simp only[go_sem,Sx,bU];intro H3 h3;have kn:=kn.aB 0 rfl h3;have bU:=kn.l 0 rfl;have aI:=kn.l 1 rfl;refine Zq bU aI bt ?_;intro H4 h4;have kn:Kn H H4 [] ([(x1,.st [Ui x.op,Ui x.to,t,Ui x.n]),(x2,.st [Ui x.op,Ui x.to,t,Ui x.n])]++Lg):=kn.aB 1 rfl h4;have aI:=kn.l 1 rfl;refine Ql ?_;simp only[go_sem,Q4,BE,Jf,forall_eq,RS.op,bt,aI];exact⟨_,FrzL.ag (.cons (Qg rfl) (.cons (Qg rfl) (.cons (aq.frz kn (Qq _)) (.cons (Qg rfl) .nil)))),hK _ kn.fin⟩
theorem Yc {l:List PhiD}{fl:Bool}(hl:l.length<=2 ^ 38)(ha:∀x∈l,x.args.length<=LIM)(kn:Kn H0 H E L)(hK:∀t Lg H',Gr Lg 2 (Q6 l) t->Kn H0 H' E (L++Lg)->K (.c t) H') :
  Qr prog VB [.c (.sl fl 2 (Q6 l)),.c (.fn Ka [])] H K:=by
 refine Qd BF Qzs ?_;refine Ws ?_;simp only[go_sem,Q0];intro _;refine Qh (Qe (Qw (λm e1 H1=>∃(i:Nat) (t:C) (Lg:Ul),m=l.length-i/\i<=l.length/\Gr Lg 2 (Q6 (l.take i)) t/\Kn H0 H1 E (L++Lg)/\
  e1=[(1,.c (.fn Ka [])),(5,.c t),(8,.c (.sl fl 2 (Q6 l))),(9,.c (Ui l.length)),(10,Uv i)]) l.length ?_ ?_))
 ·exact⟨0,_,[],ZB,ZB,.nil 2,ZM,rfl⟩
 ·clear kn;rintro m e1 H1 ⟨i,t,Lg,hm,hi,aq,kn,rfl⟩;have fM:=aq.ai;refine Za ?_;refine Wu ?_ ?_
  ·intro hc;have af:i<l.length:=ZE
   obtain⟨p,hp⟩:∃p,l[i]=p:=⟨_,rfl⟩;have eR:p∈l:=by rw[<-hp];exact Jc af
   have bF:l.take (i+1)=l.take i++[p]:=by rw[Jg af,hp]
   refine Zc ?_
   refine Wi ?_;simp only[go_sem,af,Q0,Dh _ _ af,PhiD.cells,hp];intro x7 cd H2 h2;have kn:=kn.al cd h2;have cd:H2 x7=.st [Ui 0,.sl true 1 []]:=(kn.get (x7,.st [Ui 0,.sl true 1 []]) ZD).1;simp only[go_sem,SQ,cd];intro H3 h3;have kn:Kn H0 H3 E ((L++[(x7,.st [Ui p.to,.sl false 1 (Qb p.args)])])++Lg):=by
    have:=kn.aB (L++Lg).length (x:=x7) (o:=.st [Ui 0,.sl true 1 []]) ZD h3;refine Kn.perm (by simpa using this) (Qj λf hf h0 hc hp=>by simp only[Ui,hf];omega)
   have cd:H3 x7=.st [Ui p.to,.sl false 1 (Qb p.args)]:=(kn.get (x7,.st [Ui p.to,.sl false 1 (Qb p.args)]) ZD).1;refine Qp ?_;simp only[go_sem,cd,Jae,Jav];refine Qblf (x:=p) (ha p eR) λH4 hu=>?_;have kn:=kn.aw hu;simp only[go_sem,Qd7,PhiD.cells];have js:(l.take i).length<=l.length:=by rw[Jy];omega
   refine kn.bk (new:=Q6 [p]) aq (.mk' _ _ _ _) (Su _) (by simp only[Q0,LIM,Jo,Jj];omega) λt2 Lg2 H5 bO dy kn=>?_;simp only[go_sem,DM];refine Zg ?_;refine⟨Qs,l.length-(i+1),ZB,i+1,t2,Lg2,rfl,ZB,?_,?_,rfl⟩
   ·rw[bF];have:Q6 (l.take i++[p])=Q6 (l.take i)++Q6 [p]:=(by simp[Q6]);rw[this];exact bO
   ·exact Kn.drop (B:=[(x7,.st [Ui p.to,.sl false 1 (Qb p.args)])]) (kn.perm (Qj λf hf h0 hc hp=>by simp only[Ui,hf];omega))
  ·intro hc;have bh:l.length<=i:=ZE
   rw[Jd bh]at aq;refine Wb ?_;refine Zs ?_;exact hK t Lg H1 aq kn
theorem Yd {l:List InsD}{fl:Bool}(hl:l.length<=2 ^ 38)(ha:∀x∈l,x.args.length<=LIM)(hK:∀H',Upd H H' []->K (.c (.sl false 4 (BJ l))) H') :
  Qr prog VC [.c (.sl fl 4 (BJ l)),.c (.fn Kb [])] H K:=by
 refine Qy ?_;refine Qd BF Qzr ?_;refine Ws ?_;simp only[go_sem,Cv];intro _;refine Qh (Qe (Qw (λm e1 H1=>∃(i:Nat) (t:C) (Lg:Ul),m=l.length-i/\i<=l.length/\Gr Lg 4 (BJ (l.take i)) t/\Kn H H1 [] ([]++Lg)/\
  e1=[(1,.c (.fn Kb [])),(5,.c t),(8,.c (.sl fl 4 (BJ l))),(9,.c (Ui l.length)),(10,Uv i)]) l.length ?_ ?_))
 ·exact⟨0,_,[],ZB,ZB,.nil 4,Kn.an H,rfl⟩
 ·rintro m e1 H1 ⟨i,t,Lg,hm,hi,aq,kn,rfl⟩;have fM:=aq.ai;refine Za ?_;refine Wu ?_ ?_
  ·intro hc;have af:i<l.length:=ZE
   obtain⟨p,hp⟩:∃p,l[i]=p:=⟨_,rfl⟩;have eR:p∈l:=by rw[<-hp];exact Jc af
   have bF:l.take (i+1)=l.take i++[p]:=by rw[Jg af,hp]
   refine Zc ?_
   refine Qh (Qe ?_);refine Zv af hp ?_;intro x7 cd H2 h2;have kn:=kn.al cd h2;have cd:H2 x7=.st [Ui 0,Ui 0,.sl true 1 [],Ui 0]:=(kn.get (x7,.st [Ui 0,Ui 0,.sl true 1 [],Ui 0]) ZD).1;simp only[go_sem,Qd2,cd];intro H3 h3;have kn:Kn H H3 [] ([(x7,.st [Ui p.op,Ui p.to,.sl false 1 (Qb p.args),Ui p.n])]++Lg):=by
    have:=kn.aB ([]++Lg).length (x:=x7) (o:=.st [Ui 0,Ui 0,.sl true 1 [],Ui 0]) ZD h3;refine Kn.perm (by simpa using this) ?_;exact Jm
   have cd:=kn.l 0 rfl;refine Qp ?_;simp only[go_sem,cd,Jae,Jav];refine Qble (x:=p) (ha p eR) λH4 hu=>?_;have kn:=kn.aw hu;simp only[go_sem,Qd4,InsD.cells];have js:(l.take i).length<=l.length:=by rw[Jy];omega
   refine kn.bk (new:=BJ [p]) aq (.mk' _ _ _ _) (IP _) (by simp only[Cv,LIM,Jo,Jj];omega) λt2 Lg2 H5 bO dy kn=>?_;simp only[go_sem,DM];refine Zg ?_;refine⟨Qs,l.length-(i+1),ZB,i+1,t2,Lg2,rfl,ZB,?_,?_,rfl⟩
   ·rw[bF];have:BJ (l.take i++[p])=BJ (l.take i)++BJ [p]:=(by simp[BJ]);rw[this];exact bO
   ·exact Kn.drop (B:=[(x7,.st [Ui p.op,Ui p.to,.sl false 1 (Qb p.args),Ui p.n])]) (kn.perm Jm)
  ·intro hc;have bh:l.length<=i:=ZE
   rw[Jd bh]at aq;refine Wb ?_;refine Zs ?_;exact⟨_,.c _ _ (aq.frz kn (IP _)),hK _ kn.fin⟩
def kRow (y:BlkD)(pc:C):List C:=[pc,.sl false 4 (BJ y.ins),.int .i64 y.jump,.int .i64 y.on,.sl false 1 (Qb y.next)]
structure BlkD.cl (y:BlkD):Prop where
 i:y.ins.length<=2 ^ 38
 p:y.ab.length<=2 ^ 38
 n:y.next.length<=LIM
 ia:∀x∈y.ins,x.args.length<=LIM
 pa:∀x∈y.ab,x.args.length<=LIM
structure KBlk where
 y:BlkD
 pc:C
 pl:Ul
def KBlk.row (b:KBlk):List C:=kRow b.y b.pc
def KBlk.ok (b:KBlk):Prop:=Gr b.pl 2 (Q6 b.y.ab) b.pc
theorem KBlk.ak {b:KBlk}(h:b.ok):Go.AE.ak b.row=true:=by
 have:=h.ai;simp only[Go.AE.ak,KBlk.row,kRow,Ja9,Jbd,this];rfl
end Go.AE.Y
namespace Go.AE.Y
attribute [local go_sem] cond_true cond_false Bool.not_true Bool.not_false
open Go.Proofs.Tryz
variable {H H0 F:Heap}{K:Uk}{E L B pl:Ul}
theorem Qbmi (l:List PhiD)(i:Nat)(x:PhiD):(Q6 l).set i x.cells=Q6 (l.set i x):=by simp[Q6,Jac]
end Go.AE.Y
namespace Go.AE.Y
attribute [local go_sem] cond_true cond_false Bool.not_true Bool.not_false
open Go.Proofs.Tryz
variable {H H0 F:Heap}{K:Uk}{E L B:Ul}{q:CodeD}
theorem CodeD.ok.fts (h:q.ok):q.fits:=λy hy=>by
 obtain⟨b,hb,rfl⟩:=Jx.1 hy;have:=h.il b hb;omega
theorem CodeD.ok.cl (h:q.ok):∀y∈q.blocks,y.cl:=λy hy=>by
 obtain⟨b,hb,rfl⟩:=Jx.1 hy;have h1:=h.il b hb;have h2:=h.bs b hb;have h3:=h2.nxl;have h4:=h.b1;refine⟨ZB,ZB,by simp only[LIM];omega,λx hx=>?_,λx hx=>?_⟩
 ·have:=h2.al x hx;simp only[LIM];omega
 ·have:=h2.pal x hx;have h5:=Es (gnx q) (b:Int) q.blocks.length;simp only[LIM];omega
end Go.AE.Y
namespace Go.AE
variable {H0 H H':Heap}{E L B Lg:Ul}{S:Nat->Bool}
theorem Kn.bQ (kn:Kn H0 H E (B++Lg)):∃S:Nat->Bool,(∀p∈Lg,H p.1=p.2/\S p.1=true)/\(∀p∈B,H p.1=p.2/\S p.1=false)/\FrzH H S (H.frz S)/\Kn H0 (H.frz S) E B:=by
 have hd:=kn.dL;rw[Js]at hd;obtain⟨d1,d2,d3⟩:=Jbo.1 hd;have keyB:∀m,m∉Lg.map Prod.fst->(Lg.map Prod.fst).contains m=false:=λm hm=>by
  cases hc:(Lg.map Prod.fst).contains m with
  |false=>rfl
  |true=>exact absurd (J0.1 hc) hm
 have key:∀m,m∉Lg.map Prod.fst->(H.frz λm=>(Lg.map Prod.fst).contains m) m=H m:=λm hm=>by
  simp only[Heap.frz,keyB m hm];rfl
 have hB:∀p∈B,p.1∉Lg.map Prod.fst:=λp hp hh=>d3 _ (Cc hp) _ hh rfl;refine⟨λm=>(Lg.map Prod.fst).contains m,λp hp=>⟨(kn.get p (Jh _ (Jh _ hp))).1,J0.2 (Cc hp)⟩,
  λp hp=>⟨(kn.get p (Jh _ (Jp _ hp))).1,keyB _ (hB p hp)⟩,Ep _ _,?_⟩
 refine⟨λp hp=>?_,kn.ext,λp hp=>kn.loc p (Jp _ hp),kn.dE,d1,λm hm hx=>?_⟩
 ·have hg:H p.1=p.2/\p.2≠.none:=kn.get p (by
   rcases Jv.1 hp with h|h
   ·exact Jp _ h
   ·exact Jh _ (Jp _ h))
  refine⟨?_,hg.2⟩;rw[key p.1 (λhh=>?_)];exact hg.1;rcases Jv.1 hp with h|h
  ·obtain⟨r,hr,he⟩:=Jl.1 hh;exact kn.ext p h (he▸kn.loc r (Jh _ hr))
  ·exact hB p h hh
 ·rw[key m (λhh=>?_)]
  ·exact kn.chg m hm hx
  ·obtain⟨r,hr,he⟩:=Jl.1 hh;exact hm (he▸kn.loc r (Jh _ hr))
theorem Fi {e e':Env}(h:∀p∈e',FrzV H S (lk p.1 e) p.2):∀t,FrzV H S (lk t e) (lk t e'):=λt=>by
 induction e' with
 |nil=>exact .unk _
 |cons p e' ih=>
  obtain⟨s,v⟩:=p;by_cases ht:t=s
  ·subst ht;have:=h (t,v) J7;simpa[lk]using this
  ·have:=ih λp hp=>h p (Jw _ hp);simpa[lk,ht]using this
theorem FrzO.vecR {sz:Nat}{rows rows':List (List C)}(h:Y.FrzR H S rows rows')(hn:∀r∈rows,ak r=true):FrzO H S (.vec sz rows) (.vec sz rows'):=by
 refine .vec sz rows rows' h.spec.1 (λi r r' h1 h2=>(h.spec.2 i r r' h1 h2).spec.1) λi r r' j c c' h1 h2 h3 h4=>.inr ⟨?_,(h.spec.2 i r r' h1 h2).spec.2 j c c' h3 h4⟩;exact Y.noOw_mem hn r (Ja0 h1) c (Ja0 h3)
end Go.AE
namespace Go.AE.Y
variable {H H0:Heap}{E L R B Lg:Ul}{S:Nat->Bool}
theorem Er {α:Type}{f g:α->List C}:∀(l:List α),(∀x∈l,FrzL H S (f x) (g x))->FrzR H S (l.map f) (l.map g)
 |[],_=>.nil
 |x::l,h=>.cons (h x J7) (Er l λy hy=>h y (Jw _ hy))
theorem Ls {is:List OIns}(h:Held H S (is.flatMap OIns.lg)):FrzR H S (is.map OIns.row) (BJ (is.map OIns.d)):=by
 rw[BJ,J4];exact Er is λx hx=>x.frz (h.m hx)
theorem Rk {ph:List OPhi}(ho:∀p∈ph,p.ok)(h:Held H S (ph.flatMap OPhi.lg)):FrzR H S (ph.map OPhi.row) (Q6 (ph.map OPhi.d)):=by
 rw[Q6,J4];exact Er ph λx hx=>x.frz (ho x hx) (h.m hx)
theorem OBlk.gh {o:OBlk}(ax:o.ok){x8:Nat}(kn:Kn H0 H E ([(x8,.st o.row)]++(R++o.lg))) :
  ∃S H3 pl,FrzH H S H3/\Gr pl 2 (Q6 o.d.ab) o.pc/\Kn H0 H3 E ([(x8,.st (kRow o.d o.pc))]++(R++pl)):=by
 have kn:Kn H0 H E (([(x8,.st o.row)]++(o.pl++R))++(o.nx.lg++(o.ab.flatMap OPhi.lg++(o.ins.flatMap OIns.lg++o.il)))):=kn.perm (Qj λf hf h0 hc hp=>by
  simp only[Ui,hf,OBlk.lg];omega)
 obtain⟨S,hS,hB,eE,kn⟩:=kn.bQ;have wa:Held H S (o.nx.lg++(o.ab.flatMap OPhi.lg++(o.ins.flatMap OIns.lg++o.il))):=hS;have iN:=Gr.frzM ax.i wa.r.r.r (Ls wa.r.r.l);have dV:=Rk ax.a wa.r.l;have fj:=o.nx.frz wa.l;have aV:=hB (x8,.st o.row) ZD;have f1:FrzH H S ((H.frz S).set x8 (.st (kRow o.d o.pc))):=eE.set aV.2 (by
  rw[aV.1];exact FrzKL.st (.same (.cons ax.i.ai iN (.same (.same (.cons rfl fj .nil))))))
 have kn:=kn.setL (o':=.st (kRow o.d o.pc)) 0 rfl ZD;have kn:Kn H0 ((H.frz S).set x8 (.st (kRow o.d o.pc))) E ([(x8,.st (kRow o.d o.pc))]++(o.pl++R)):=kn;rcases ax.p with ⟨h1,h2,h3⟩|⟨z,h1,h2⟩
 ·have xG:o.ab=[]:=Ja3.1 h2;refine⟨S,_,[],f1,?_,by rw[h3]at kn;simpa using kn⟩;rw[h1];simp only[OBlk.d,xG,Jav];exact .nil 2
 ·rw[h2]at kn;have hz:=hB (z,.vec 2 (o.ab.map OPhi.row)) Zab;have bD:∀r∈o.ab.map OPhi.row,Go.AE.ak r=true:=λr hr=>by
   obtain⟨p,hp,rfl⟩:=Jl.1 hr;exact p.ak (ax.a p hp)
  refine⟨S,_,[(z,.vec 2 (Q6 o.d.ab))],f1.set (o:=.vec 2 (Q6 o.d.ab)) hz.2 (by rw[hz.1];exact .vecR dV bD),?_,?_⟩
  ·rw[h1];exact .mk _ _ _ (by simp[OBlk.d,Q0])
  ·have kn:=kn.setL (o':=.vec 2 (Q6 o.d.ab)) 1 rfl ZD;exact kn.perm (Qj λf hf h0 hc hp=>by
    show f ([(x8,_)]++([(z,_)]++R))=_;simp only[Ui,hf];omega)
def Qx (q:CodeD)(b:Nat):BlkD:=q.blocks.getD b ⟨[],[],0,0,[]⟩
theorem Cd {q:CodeD}{b:Nat}(h:b<q.blocks.length):Qx q b=q.blocks[b]:=by simp[Qx,Ja,h]
theorem D2 {q:CodeD}{b:Nat}(h:b<q.blocks.length):gnx q b=(Qx q b).next:=by rw[Cd h,Ez h]
structure Pk (q:CodeD)(l:List Nat):Prop where
 n:l.length<=160
 z:l[0]? = some 0
 lt:∀x∈l,x<q.blocks.length
 cl:∀x∈l,∀v∈gnx q x,v.toNat∈l
def pkY (q:CodeD)(P:List Int)(b:Nat):BlkD:=⟨(Qx q b).ab,(Qx q b).ins,(Qx q b).jump,(Qx q b).on,(Qx q b).next.map λv=>P.getD v.toNat 0⟩
def pkN (q:CodeD)(P:List Int)(l:List Nat):Nat->List Int:=λi=>(l.map λb=>(pkY q P b).next).getD i []
structure PkB (q:CodeD)(P:List Int)(b:Nat)(y:BlkD):Prop where
 j:y.jump=(Qx q b).jump
 o:y.on=(Qx q b).on
 i:y.ins=(Qx q b).ins
 n:y.next=(pkY q P b).next
 t:y.ab.map PhiD.to=(Qx q b).ab.map PhiD.to
def PkA (q:CodeD)(P:List Int)(l:List Nat)(j:Nat)(p:PhiD):Prop:=p.args.length=(Qz (pkN q P l) (j:Int) l.length).length/\∀v∈p.args,rIn q v
structure PkR (q d:CodeD):Prop where
 ok:d.ok
 p:d.params=q.params
 r:d.ae=q.ae
 i:∀y∈d.blocks,∃y0∈q.blocks,y.ins=y0.ins/\y.ab.length=y0.ab.length
variable {q:CodeD}{P:List Int}{l:List Nat}
theorem Pk.get (hp:Pk q l){j:Nat}(hj:j<l.length):l.getD j 0=l[j]/\l[j]∈l/\l[j]<q.blocks.length:=
 ⟨by simp[Ja,hj],Jc hj,hp.lt _ (Jc hj)⟩
theorem Pk.to (ho:q.ok)(hp:Pk q l)(hP:DL q.blocks.length l P){b:Nat}(hb:b∈l){w:Int}(hw:w∈(Qx q b).next):1<=w/\w.toNat<P.length/\∃i,∃h:i<l.length,l[i]=w.toNat/\P.getD w.toNat 0=(i:Int)/\1<=i:=by
 have af:=hp.lt b hb;have h1:1<=w/\w<q.blocks.length:=by
  rw[Cd af]at hw;exact (ho.bs b af).nx w hw
 have h2:=hp.cl b hb w (by rw[D2 af];exact hw);obtain⟨i,hi,h3,h4⟩:=hP.2 _ h2;refine⟨h1.1,by rw[hP.1];exact hp.lt _ h2,i,hi,h3,h4,?_⟩;have hz:=hp.z;by_cases h0:i=0
 ·subst h0;rw[Je hi,h3]at hz;have:=Jaj hz;omega
 ·omega
theorem G1 {j:Nat}(hj:j<l.length):pkN q P l j=(pkY q P l[j]).next:=by simp[pkN,Ja,hj]
theorem Pk.preds (ho:q.ok)(hp:Pk q l)(hP:DL q.blocks.length l P){j:Nat}(hj:j<l.length){m:Int}(hm:m∈Qz (pkN q P l) (j:Int) l.length) :
  ∃j',∃h:j'<l.length,m=(j':Int)/\((l[j']:Nat):Int)∈Qz (gnx q) ((l[j]:Nat):Int) q.blocks.length:=by
 simp only[Qz,Jl,Jaw,J3]at hm;obtain⟨j',⟨h1,h2⟩,rfl⟩:=hm;refine⟨j',h1,rfl,?_⟩;have h3:=J0.1 h2;rw[G1 h1]at h3;obtain⟨w,hw,h4⟩:=Jl.1 h3;obtain⟨g1,g2⟩:=(hp.get h1).2;obtain⟨w1,_,i,hi,h5,h6,_⟩:=hp.to ho hP g1 hw;have gL:i=j:=ZB
 subst gL;simp only[Qz,Jl,Jaw,J3];refine⟨l[j'],⟨g2,J0.2 ?_⟩,rfl⟩;rw[D2 g2,h5];have e:((w.toNat:Nat):Int)=w:=ZB
 rw[e];exact hw
theorem CodeD.ok.sg (h:q.ok):q.sg:=⟨by have:=h.b1;omega,λy hy=>by
 obtain⟨b,hb,rfl⟩:=Jx.1 hy;have h1:=h.il b hb;have h2:=h.bs b hb;have h3:=h2.nxl;have h4:=h.b1;refine⟨ZB,ZB,ZB,λx hx=>by have:=h2.al x hx;omega,λx hx=>?_⟩;have:=h2.pal x hx;have h5:=Es (gnx q) (b:Int) q.blocks.length;omega⟩
theorem Qb6s (ho:q.ok)(hp:Pk q l)(hP:DL q.blocks.length l P){d:CodeD}(h1:d.params=q.params)(h2:d.ae=q.ae)(hl:d.blocks.length=l.length)
  (hb:∀j (h:j<d.blocks.length),PkB q P (l.getD j 0) d.blocks[j]/\∀p∈d.blocks[j].ab,PkA q P l j p):PkR q d:=by
 have hg:gnx d=pkN q P l:=by
  funext i
  by_cases hi:i<l.length
  ·have bR:i<d.blocks.length:=ZB
   rw[G1 hi,Ez bR,(hb i bR).1.n,(hp.get hi).1]
  ·have bR:¬i<d.blocks.length:=ZB
   rw[gnx,pkN,Ja,Ja,Jq (by simpa using bR),Jq Zaf]
 have hr:∀v,rIn q v->rIn d v:=λv hv=>by simp only[rIn,h2]at hv⊢;exact hv
 have iK:0<l.length:=by
  have:=hp.z
  cases l with
  |nil=>simp at this
  |cons=>simp
 have hn:=hp.n;refine⟨⟨by rw[h2];exact ho.r0,by rw[h2];exact ho.r1,ZB,ZB,λb h=>?_,λb h=>?_⟩,h1,h2,λy hy=>?_⟩
 ·have bu:b<l.length:=ZB
  obtain⟨g,ga⟩:=hb b h;obtain⟨e1,e2,e3⟩:=hp.get bu;rw[e1]at g;have o:=ho.bs _ e3;rw[<-Cd e3]at o;have gt:∀p∈d.blocks[b].ab,rIn q p.to:=λp cB=>by
   have:p.to∈d.blocks[b].ab.map PhiD.to:=Jl.2 ⟨p,cB,rfl⟩;rw[g.t]at this;obtain⟨p0,iW,he⟩:=Jl.1 this;rw[<-he];exact o.pto p0 iW
  refine⟨by rw[g.n];simpa[pkY]using o.nxl,λv hv=>?_,by rw[g.j];exact o.jmp,λhj=>by rw[g.j]at hj;rw[g.o];exact hr _ (o.on hj),λx hx v hv=>?_,λx hx hm=>?_,λx hx=>hr _ (gt x hx),λx hx v hv=>hr _ ((ga x hx).2 v hv),λx hx=>?_,λx hx=>?_⟩
  ·rw[g.n]at hv;obtain⟨w,hw,rfl⟩:=Jl.1 hv;obtain⟨_,_,i,hi,_,h6,h7⟩:=hp.to ho hP e2 hw;rw[h6];omega
  ·rw[g.i]at hx;exact hr _ (o.args x hx v hv)
  ·rw[g.i]at hx;exact hr _ (o.to x hx hm)
  ·rw[(ga x hx).1,hg,hl]
  ·rw[g.i]at hx;exact o.al x hx
 ·have bu:b<l.length:=ZB
  obtain⟨g,ga⟩:=hb b h;obtain⟨e1,e2,e3⟩:=hp.get bu;rw[e1]at g;have gi:=g.i;have h3:=congrArg List.length g.t;rw[Cd e3]at gi h3;have:=ho.il _ e3;simp only[Jb]at h3;rw[gi];omega
 ·obtain⟨b,h,rfl⟩:=Jx.1 hy;have bu:b<l.length:=ZB
  obtain⟨g,ga⟩:=hb b h;obtain⟨e1,e2,e3⟩:=hp.get bu;rw[e1]at g;have gi:=g.i;have h3:=congrArg List.length g.t;rw[Cd e3]at gi h3;simp only[Jb]at h3;exact⟨_,Jc e3,gi,h3⟩
theorem Yb {α:Type}{f:α->α}{l:List α}{k:Nat}(hk:k<l.length):((l.take k).map f++l.drop k).set k (f l[k])=(l.take (k+1)).map f++l.drop (k+1):=by
 have h1:((l.take k).map f).length=k:=ZG
 rw[Jaq _ _ ZB,h1,Jbg,Jaf hk,Ja6,Jg hk,Js];simp
end Go.AE.Y
namespace Go.AE.Y
def mix {α:Type}(f:α->α)(is:List α)(k:Nat):List α:=(is.take k).map f++is.drop k
theorem Fb {α:Type}(f:α->α)(is:List α)(k:Nat):(mix f is k).length=is.length:=by
 simp only[mix,J6,Jb,Jy,Jbs];omega
theorem GL {α:Type}{f:α->α}{is:List α}{i:Nat}(h:i<is.length)(h2:i<(mix f is i).length):(mix f is i)[i]=is[i]:=by
 have hl:((is.take i).map f).length=i:=by rw[Jb,Jy];omega
 simp only[mix];rw[List.getElem_append_right ZB];simp only[hl,Jbg,List.getElem_drop,Nat.add_zero]
theorem Hh {α:Type}{f:α->α}{is:List α}{i:Nat}(h:i<is.length):(mix f is i).set i (f is[i])=mix f is (i+1):=by
 have hl:((is.take i).map f).length=i:=by rw[Jb,Jy];omega
 rw[mix,mix,Jaq _ _ ZB,hl,Jbg,Jaf h,Ja6,Jg h,Js,Jax];rfl
theorem HG {α:Type}(f:α->α)(is:List α):mix f is 0=is:=by simp[mix]
theorem Hi {α:Type}(f:α->α)(is:List α){i:Nat}(h:is.length<=i):mix f is i=is.map f:=by
 rw[mix,Jd h,List.drop_of_length_le h,Jae]
variable {nx:Nat->List Int}{n:Nat}
theorem Hy (nx:Nat->List Int)(b:Int)(n:Nat):(Qz nx b n).Nodup:=by
 rw[Qz,List.nodup_iff_pairwise_ne,Ja8];exact List.Pairwise.imp (λbd he=>bd (Int.ofNat.inj he)) (Ja5 Jbi Jbt)
theorem preds_mem {nx:Nat->List Int}{b w:Int}{n:Nat}:w∈Qz nx b n↔∃j:Nat,j<n/\b∈nx j/\w=j:=by
 simp only[Qz,Jl,Jaw,J3,J0];constructor
 ·rintro⟨j,⟨h1,h2⟩,rfl⟩;exact⟨j,h1,h2,rfl⟩
 ·rintro⟨j,h1,h2,rfl⟩;exact⟨j,⟨h1,h2⟩,rfl⟩
theorem Qb1x {q:CodeD}{b:Nat}(h:q.blocks.length<=b):gnx q b=[]:=by
 rw[gnx,Ja,Jq ZL];rfl
end Go.AE.Y
namespace Go.AE.Y
attribute [local go_sem] cond_true cond_false Bool.not_true Bool.not_false
open Go.Proofs.Tryz
variable {H H0:Heap}{K:Uk}{E B Lg:Ul}
theorem OBlk.row_eq (o:OBlk):o.row=[o.pc,o.ic,Ui o.jump,Ui o.on,.ah o.nx.y 1 0 o.nx.ns.length]:=rfl
def OBlk.rest (o:OBlk):List (Nat×Obj):=o.ab.flatMap OPhi.lg++(o.pl++(o.ins.flatMap OIns.lg++o.il))
theorem OBlk.lg_eq (o:OBlk):o.lg=[(o.nx.y,.vec 1 (Qb o.nx.ns))]++o.rest:=rfl
theorem KBlk.row_eq (b:KBlk):b.row=[b.pc,.sl false 4 (BJ b.y.ins),Ui b.y.jump,Ui b.y.on,.sl false 1 (Qb b.y.next)]:=rfl
structure PkS (q:CodeD)(P:List Int)(l:List Nat)(i:Nat)(ks:List KBlk):Prop where
 n:ks.length=l.length
 b:∀j (h:j<ks.length),PkB q P (l.getD j 0) ks[j].y
 ok:∀b∈ks,b.ok
 a:∀j (h:j<ks.length),j<i->∀p∈ks[j].y.ab,PkA q P l j p
 u:∀j (h:j<ks.length),i<=j->ks[j].y.ab=(Qx q (l.getD j 0)).ab
theorem DK {α β:Type}{f:α->List β}:∀{l:List α} {i:Nat} (h:i<l.length),(l.flatMap f).Perm (f l[i]++(l.eraseIdx i).flatMap f)
 |[],i,h=>ZI
 |x::l,0,h=>ZD
 |x::l,i+1,h=>by
  have:=DK (f:=f) (l:=l) (i:=i) ZL;simp only[Jai,Jan,List.eraseIdx_cons_succ];refine (List.Perm.append_left _ this).trans ?_;rw[<-Jax,<-Jax];exact List.Perm.append_right _ Jm
theorem vslc {H:Heap}{z sz n:Nat}{rows:List (List C)}(h:H z=.vec sz rows)(hn:n=rows.length):Slc H sz rows (.ah z sz 0 n):=by
 subst hn;exact⟨by simp only[aZ,h,Jk,Ji,and_self],rfl,by simp only[rowsOf,h,Jbh,J8],rfl⟩
variable {q:CodeD}{P:List Int}{l:List Nat}{ks:List KBlk}
theorem PkS.step {i:Nat}(hS:PkS q P l i ks)(hi:i<ks.length){ph:List PhiD}{pl:Ul}(h1:ph.map PhiD.to=(Qx q (l.getD i 0)).ab.map PhiD.to)(h2:∀p∈ph,PkA q P l i p)(hg:Gr pl 2 (Q6 ph) ks[i].pc) :
  PkS q P l (i+1) (ks.set i ⟨⟨ph,ks[i].y.ins,ks[i].y.jump,ks[i].y.on,ks[i].y.next⟩,ks[i].pc,pl⟩):=by
 have hb:=hS.b i hi;refine⟨by rw[Jn];exact hS.n,λj h=>?_,λw hw=>?_,λj h hj=>?_,λj h hj=>?_⟩
 ·have h':j<ks.length:=ZL
  rw[J1];split
  ·rename_i e;subst e;exact⟨hb.j,hb.o,hb.i,hb.n,h1⟩
  ·exact hS.b j h'
 ·rcases Jt hw with h|rfl
  ·exact hS.ok w h
  ·exact hg
 ·have h':j<ks.length:=ZL
  rw[J1];split
  ·rename_i e;subst e;exact h2
  ·exact hS.a j h' ZB
 ·have h':j<ks.length:=ZL
  rw[J1];split
  ·omega
  ·exact hS.u j h' ZB
theorem PkS.rows {i:Nat}{ph:List PhiD}{pl:Ul}(hi:i<ks.length):(ks.set i ⟨⟨ph,ks[i].y.ins,ks[i].y.jump,ks[i].y.on,ks[i].y.next⟩,ks[i].pc,pl⟩).map KBlk.row=ks.map KBlk.row:=by
 rw[Jac];have:(KBlk.mk ⟨ph,ks[i].y.ins,ks[i].y.jump,ks[i].y.on,ks[i].y.next⟩ ks[i].pc pl).row=(ks.map KBlk.row)[i]'Zaf:=by simp[KBlk.row,kRow]
 rw[this,Jay]
end Go.AE.Y
namespace Go.AE.Y
attribute [local go_sem] cond_true cond_false Bool.not_true Bool.not_false
attribute [local instance] Classical.propDecidable
open Go.Proofs.Tryz
variable {H H0:Heap}{K:Uk}
def nwA (q:CodeD)(P:List Int)(l:List Nat)(i:Nat)(args:List Int):List Int:=
 (Qz (pkN q P l) (i:Int) l.length).map λw=>args.getD ((Qz (gnx q) ((l.getD i 0:Nat):Int) q.blocks.length).idxOf ((l.getD w.toNat 0:Nat):Int)) 0
def nwP (q:CodeD)(P:List Int)(l:List Nat)(i:Nat)(p:PhiD):PhiD:=⟨p.to,nwA q P l i p.args⟩
structure PkZ (q:CodeD)(P:List Int)(l:List Nat)(i:Nat)(ks:List KBlk):Prop where
 n:ks.length=l.length
 b:∀j (h:j<ks.length),PkB q P (l.getD j 0) ks[j].y
 ok:∀b∈ks,b.ok
 a:∀j (h:j<ks.length),j<i->ks[j].y.ab=(Qx q (l.getD j 0)).ab.map (nwP q P l j)
 u:∀j (h:j<ks.length),i<=j->ks[j].y.ab=(Qx q (l.getD j 0)).ab
variable {q:CodeD}{P:List Int}{l:List Nat}{ks:List KBlk}
theorem PkZ.step {i:Nat}(hS:PkZ q P l i ks)(hi:i<ks.length){ph:List PhiD}{pl:Ul}(h1:ph.map PhiD.to=(Qx q (l.getD i 0)).ab.map PhiD.to)(h2:ph=(Qx q (l.getD i 0)).ab.map (nwP q P l i))(hg:Gr pl 2 (Q6 ph) ks[i].pc) :
  PkZ q P l (i+1) (ks.set i ⟨⟨ph,ks[i].y.ins,ks[i].y.jump,ks[i].y.on,ks[i].y.next⟩,ks[i].pc,pl⟩):=by
 have hb:=hS.b i hi;refine⟨by rw[Jn];exact hS.n,λj h=>?_,λw hw=>?_,λj h hj=>?_,λj h hj=>?_⟩
 ·have h':j<ks.length:=ZL
  rw[J1];split
  ·rename_i e;subst e;exact⟨hb.j,hb.o,hb.i,hb.n,h1⟩
  ·exact hS.b j h'
 ·rcases Jt hw with h|rfl
  ·exact hS.ok w h
  ·exact hg
 ·have h':j<ks.length:=ZL
  rw[J1];split
  ·rename_i e;subst e;exact h2
  ·exact hS.a j h' ZB
 ·have h':j<ks.length:=ZL
  rw[J1];split
  ·omega
  ·exact hS.u j h' ZB
def pkX (q:CodeD)(P:List Int)(l:List Nat)(i:Nat):BlkD:=⟨(Qx q (l.getD i 0)).ab.map (nwP q P l i),(Qx q (l.getD i 0)).ins,(Qx q (l.getD i 0)).jump,(Qx q (l.getD i 0)).on,(pkY q P (l.getD i 0)).next⟩
def pkD (q:CodeD)(P:List Int)(l:List Nat):CodeD:=⟨q.params,q.ae,(List.range l.length).map (pkX q P l)⟩
theorem Mw (ho:q.ok)(hp:Pk q l)(hP:DL q.blocks.length l P){j:Nat}(hj:j<l.length){p:PhiD}(h:p∈(Qx q (l.getD j 0)).ab.map (nwP q P l j)):PkA q P l j p:=by
 obtain⟨p0,h0,rfl⟩:=Jl.1 h;obtain⟨g0,g1,g2⟩:=hp.get hj;have cz:=ho.bs _ g2;rw[g0,Cd g2]at h0;refine⟨by rw[nwP,nwA,Jb],λv hv=>?_⟩;obtain⟨w,hw,rfl⟩:=Jl.1 hv;obtain⟨j',b6,rfl,eM⟩:=hp.preds ho hP hj hw;have e:l.getD ((j':Int)).toNat 0=l[j']:=by rw[Jad];exact (hp.get b6).1
 rw[e,g0];have em:=cz.pal p0 h0;have fO:(Qz (gnx q) ((l[j]:Nat):Int) q.blocks.length).idxOf ((l[j']:Nat):Int)<p0.args.length:=by
  rw[em];exact J5 eM
 exact cz.pargs p0 h0 _ (Ir fO)
theorem Qbmj {H0 H:Heap}{E:Ul}{Q:X->Env->Heap->Prop}{e:Env}{fl fl2:Bool}{x4 x6 zb:Nat}{ks0:List KBlk}(ho:q.ok)(hp:Pk q l)(hP:DL q.blocks.length l P)(hS:PkZ q P l 0 ks0)
  (kn:Kn H0 H E ([(x4,.st [Ui 0,Ui 0,.sl true 5 []]),(x6,.st [Ui q.params,Ui q.ae,.ah zb 5 0 l.length]),(zb,.vec 5 (ks0.map KBlk.row))]++ks0.flatMap KBlk.pl))
  (l1:lk 1 e=.c (.sl fl2 1 (BK l))) (l2:lk 2 e=.c (.pp [Ui q.params,Ui q.ae,.sl fl 5 (Qo q.blocks)])) (l4:lk 4 e=Up x4) (l6:lk 6 e=Up x6)
  (hQ:∀(e:Env) (H':Heap) (ks:List KBlk),PkZ q P l l.length ks->Kn H0 H' E ([(x4,.st [Ui q.params,Ui q.ae,.ah zb 5 0 l.length]),(x6,.st [Ui q.params,Ui q.ae,.ah zb 5 0 l.length]),(zb,.vec 5 (ks.map KBlk.row))]++ks.flatMap KBlk.pl)->
   lk 4 e=Up x4->Q .ret e H'):BI prog Q8r Q e H:=by
 have ba:=ho.b1;have qU:=hp.n;obtain⟨X4,Bs⟩:∃o,o=Obj.st [Ui 0,Ui 0,.sl true 5 []]:=⟨_,rfl⟩;obtain⟨X6,pG⟩:∃o,o=Obj.st [Ui q.params,Ui q.ae,.ah zb 5 0 l.length]:=⟨_,rfl⟩;rw[<-Bs,<-pG]at kn;refine Q1 (Qa ?_);simp only[go_sem,l1,l2,l4,l6];refine Qh (Qe (Qw (λm e1 H1=>∃(i:Nat) (ks:List KBlk),m=l.length-i/\i<=l.length/\PkZ q P l i ks/\
  Kn H0 H1 E ([(x4,X4),(x6,X6),(zb,.vec 5 (ks.map KBlk.row))]++ks.flatMap KBlk.pl)/\
  lk 1 e1=.c (.sl fl2 1 (BK l))/\lk 2 e1=.c (.pp [Ui q.params,Ui q.ae,.sl fl 5 (Qo q.blocks)])/\lk 4 e1=Up x4/\lk 6 e1=Up x6/\lk 10 e1=Uv i) l.length ?_ ?_))
 ·exact⟨0,ks0,ZB,ZB,hS,kn,rfl,rfl,rfl,rfl,rfl⟩
 ·clear kn hS l1 l2 l4 l6;rintro m e1 H1 ⟨i,ks,hm,hi,hS,kn,l1,l2,l4,l6,l10⟩;have cg:=hS.n;refine Q1 (Qa ?_);simp only[go_sem,l1,l2,l4,l6,l10,Q5];try intro _
  refine Wu ?_ ?_
  ·intro hc;have af:i<l.length:=ZE
   have pq:i<ks.length:=ZB
   obtain⟨b,hb⟩:∃b,l[i]=b:=⟨_,rfl⟩;have sA:b∈l:=by rw[<-hb];exact Jc af
   have cR:=hp.lt b sA;have bm:l.getD i 0=b:=by simp[Ja,af,hb]
   obtain⟨kb,fx⟩:∃kb,ks[i]=kb:=⟨_,rfl⟩;have i6:Gr kb.pl 2 (Q6 kb.y.ab) kb.pc:=by rw[<-fx];exact hS.ok _ (Jc pq)
   have hkbB:PkB q P b kb.y:=by have:=hS.b i pq;rw[bm,fx]at this;exact this
   have yB:kb.y.ab=(Qx q b).ab:=by have:=hS.u i pq (Ji _);rw[bm,fx]at this;exact this
   have cz:=ho.bs b cR;have cM:=ho.il b cR;rw[<-Cd cR]at cz cM;obtain⟨R,hR⟩:∃R,(ks.eraseIdx i).flatMap KBlk.pl=R:=⟨_,rfl⟩;have fZ:(ks.flatMap KBlk.pl).Perm (kb.pl++R):=by rw[<-hR,<-fx];exact DK pq
   obtain⟨RW,jm⟩:∃RW,ks.map KBlk.row=RW:=⟨_,rfl⟩;have bn:RW.length=l.length:=by rw[<-jm,Jb,cg]
   have bj:RW.getD i []=[kb.pc,.sl false 4 (BJ kb.y.ins),Ui kb.y.jump,Ui kb.y.on,.sl false 1 (Qb kb.y.next)]:=by
    rw[<-jm,Ja];simp only[Jz,Je pq,fx,J9,Jam];exact kb.row_eq
   have bz:RW.take l.length=RW:=Jd ZB;rw[jm]at kn;have be:H1 x6=X6:=(kn.get (x6,X6) ZD).1;rw[pG]at be;refine Zc ?_
   refine Qh (Qe ?_);refine BM ?_;simp only[go_sem,af,Q5,CZ _ _ af,bm];refine Gu (nx:=gnx q) (.mk' _ _ _ _) rfl (E5 H1 q fl).x λH2 hu=>?_;have kn:=kn.aw hu;simp only[go_sem,Q3i,Qn];obtain⟨olds,eS⟩:∃o,Qz (gnx q) (b:Int) q.blocks.length=o:=⟨_,rfl⟩;rw[eS];have be:H2 x6=X6:=(kn.get (x6,X6) ZD).1;rw[pG]at be;have ca:H2 zb=.vec 5 RW:=(kn.get (zb,.vec 5 RW) ZD).1;refine Zj be ?_;refine Gu (nx:=pkN q P l) (vslc ca bn.symm) rfl (λj hj=>?_) λH3 hu=>?_
   ·have b6:j<ks.length:=ZB;have cL:j<l.length:=ZB;have AV:=hS.b j b6;rw[(hp.get cL).1]at AV;refine⟨ks[j].pc,.sl false 4 (BJ ks[j].y.ins),Ui ks[j].y.jump,Ui ks[j].y.on,false,?_⟩;rw[<-jm,Ja];simp only[Jz,Je b6,J9,Jam];rw[G1 cL,<-AV.n];exact KBlk.row_eq _
   have kn:=kn.aw hu;rw[bn];obtain⟨news,lc⟩:∃o,Qz (pkN q P l) (i:Int) l.length=o:=⟨_,rfl⟩;rw[lc];have ck:news.length<=l.length:=by rw[<-lc];exact Es _ _ _
   simp only[go_sem,Q3j];refine Za ?_;have kn:Kn H0 H3 E (([(x4,X4),(x6,X6),(zb,.vec 5 RW)]++R)++kb.pl):=kn.perm (Qj λf hf h0 hc hp=>by
    have:=hp _ _ fZ;simp only[Ui,hf]at this⊢;omega)
   refine Qe (Qw (λm e1 H1=>∃(k:Nat) (ph:List PhiD) (pl:Ul),m=ph.length-k/\k<=ph.length/\ph=mix (nwP q P l i) (Qx q b).ab k/\Gr pl 2 (Q6 ph) kb.pc/\
    Kn H0 H1 E (([(x4,X4),(x6,X6),(zb,.vec 5 RW)]++R)++pl)/\
    lk 1 e1=.c (.sl fl2 1 (BK l))/\lk 2 e1=.c (.pp [Ui q.params,Ui q.ae,.sl fl 5 (Qo q.blocks)])/\lk 4 e1=Up x4/\lk 6 e1=Up x6/\lk 10 e1=Uv i/\lk 11 e1=.c (.sl false 1 (Qb olds))/\lk 12 e1=.c (.sl false 1 (Qb news))/\lk 13 e1=Uv k) kb.y.ab.length ?_ ?_)
   ·exact⟨0,kb.y.ab,kb.pl,ZB,ZB,by rw[yB,HG],i6,kn,rfl,rfl,rfl,rfl,rfl,rfl,rfl,rfl⟩
   ·clear kn be ca fZ hu l1 l2 l4 l6 l10;rintro m2 e2 H4 ⟨k,ph,pl,fw,hk,gH,aq,kn,l1,l2,l4,l6,l10,l11,l12,l13⟩;have ku:ph.length=(Qx q b).ab.length:=(by rw[gH,Fb]);have be:H4 x6=X6:=(kn.get (x6,X6) ZD).1;rw[pG]at be;have ca:H4 zb=.vec 5 RW:=(kn.get (zb,.vec 5 RW) ZD).1;have fq:=aq.ai;have iV:=eq_true (aq.get kn).1;have fv:=aq.ay;rw[Q0]at fv;refine Q1 (Qa ?_);simp only[go_sem,l1,l2,l4,l6,l10,l11,l12,l13,be,ca,bn,bz,bj,af,fq,iV,fv,Jk,Ji];try intro _
    refine Wu ?_ ?_
    ·intro aD;have aT:k<ph.length:=ZH;obtain⟨z,ju,da⟩:∃z,kb.pc=.ah z 2 0 ph.length/\pl=[(z,.vec 2 (Q6 ph))]:=by
      rcases aq with ⟨_,h,_⟩|⟨y,h1,h2⟩
      ·have:=congrArg List.length h;rw[Q0]at this;simp only[Jj]at this;omega
      ·exact⟨y,by rw[h1,Q0],h2⟩
     rw[ju]at bj;rw[da]at kn;clear fq iV fv;obtain⟨p,A9⟩:∃p,ph[k]=p:=⟨_,rfl⟩;have nr:k<(Qx q b).ab.length:=ZB;have iW:(Qx q b).ab[k]=p:=by
      rw[<-A9];subst gH;exact (GL nr aT).symm
     have eR:p∈(Qx q b).ab:=(by rw[<-iW];exact Jc nr);obtain⟨NA,Ab⟩:∃NA,nwA q P l i p.args=NA:=⟨_,rfl⟩;have hNl:NA.length=news.length:=(by rw[<-Ab,nwA,Jb,lc]);have nR:p.args.length=olds.length:=(by rw[<-eS];exact cz.pal p eR);have xI:=cz.pargs p eR;have qB:(Q6 ph).take ph.length=Q6 ph:=Jd (by rw[Q0];omega);have md:(Q6 ph).getD k []=[Ui p.to,.sl false 1 (Qb p.args)]:=(by rw[Dh _ _ aT,A9];rfl);refine Zc ?_
     refine Wg ?_;refine Wa ?_;refine Qh (Qe (Qw (λm e1 H1=>∃(j:Nat) (av:List Int) (t:C) (Lg:Ul),m=news.length-j/\j<=news.length/\av=NA.take j/\Gr Lg 1 (Qb av) t/\
      Kn H0 H1 E (([(x4,X4),(x6,X6),(zb,.vec 5 RW)]++R++[(z,.vec 2 (Q6 ph))])++Lg)/\
      lk 1 e1=.c (.sl fl2 1 (BK l))/\lk 2 e1=.c (.pp [Ui q.params,Ui q.ae,.sl fl 5 (Qo q.blocks)])/\lk 4 e1=Up x4/\lk 6 e1=Up x6/\lk 10 e1=Uv i/\lk 11 e1=.c (.sl false 1 (Qb olds))/\lk 12 e1=.c (.sl false 1 (Qb news))/\lk 13 e1=Uv k/\
      lk 14 e1=.c t/\lk 15 e1=Uv j) news.length ?_ ?_))
     ·exact⟨0,[],_,[],ZB,ZB,ZD,.nil 1,ZM,rfl,rfl,rfl,rfl,rfl,rfl,rfl,rfl,rfl,rfl⟩
     ·clear kn be ca l1 l2 l4 l6 l10 l11 l12 l13;rintro m3 e3 H5 ⟨j,av,t,Lg,qS,hj,iB,px,kn,l1,l2,l4,l6,l10,l11,l12,l13,l14,l15⟩;have fM:=px.ai;have rJ:av.length=j:=(by rw[iB,Jy];omega);refine Q1 (Qa ?_);simp only[go_sem,l1,l2,l4,l6,l10,l11,l12,l13,l14,l15,Qc];try intro _
      refine Wu ?_ ?_
      ·intro bA;have cf:j<news.length:=ZT;have AG:news[j]∈Qz (pkN q P l) (i:Int) l.length:=(by rw[lc];exact Jc cf);obtain⟨j',b6,xY,eM⟩:=hp.preds ho hP af AG;rw[hb,eS]at eM;have yY:news.getD j 0=(j':Int):=(by rw[<-xY];simp[Ja,cf]);have ux:l.getD j' 0=l[j']:=(by simp[Ja,b6]);have be:H5 x6=X6:=(kn.get (x6,X6) ZD).1;rw[pG]at be;have ca:H5 zb=.vec 5 RW:=(kn.get (zb,.vec 5 RW) ZD).1;have hz:H5 z=.vec 2 (Q6 ph):=(kn.get (z,.vec 2 (Q6 ph)) ZD).1;refine Zc ?_
       refine Wp ?_;simp only[go_sem,be,ca,hz,bn,bz,bj,af,aT,qB,md,Q0,cf,Qc,Qk _ _ cf,yY,b6,Q5,CZ _ _ b6,ux,Jk,Ji];refine FF (ns:=olds) (.mk' _ _ _ _) rfl λr hr=>?_;obtain⟨a,ha⟩:∃a,olds.idxOf ((l[j']:Nat):Int)=a:=⟨_,rfl⟩;have ra:r=(a:Int):=(by rw[<-ha];exact hr.idx eM);have em:a<olds.length:=(by rw[<-ha];exact J5 eM);have hNj:j<NA.length:=ZB;have hNv:NA[j]=p.args.getD a 0:=by
        subst Ab;simp only[nwA,Jr,bm,eS];have e:(Qz (pkN q P l) (i:Int) l.length)[j]'(by rw[lc];exact cf)=(j':Int):=by
         subst lc;exact xY
        rw[e,Jad,ux,ha]
       have uP:a<p.args.length:=ZB;simp only[go_sem,Q3l,ra,be,ca,hz,bn,bz,bj,af,aT,qB,md,Q0,uP,Qc,Qk _ _ uP,Jk,Ji];refine kn.bk (new:=Qb [p.args.getD a 0]) px (.mk' _ _ _ _) (Qq _) (by simp only[Qc,LIM,Jo,Jj];omega) λt2 Lg2 H6 rj dy kn=>?_;simp only[go_sem,Q3k];refine Zh ?_;refine⟨Qs,?_⟩;show ∃m,_;refine⟨news.length-(j+1),ZB,j+1,av++[p.args.getD a 0],t2,Lg2,rfl,ZB,by rw[iB,Jg hNj,hNv],by rw[D8];exact rj,kn,rfl,rfl,rfl,rfl,rfl,rfl,rfl,rfl,rfl,ZC⟩
      ·intro bA;have jX:j=news.length:=(by have:news.length<=j:=(by simpa using bA);omega);have iB:av=NA:=(by rw[iB,Jd (by omega)]);subst iB;have oQ:=Hh (f:=nwP q P l i) nr;rw[iW,nwP,Ab]at oQ;refine Zb ?_;obtain⟨S,kP,ly,eE,kn⟩:=kn.bQ;have rp:FrzC H5 S t (.sl false 1 (Qb av)):=Gr.frzM px kP (FrzR.same (Qq _));refine c_gh (E7 S (Fi ?_) eE) (e':=[(1,.c (.sl fl2 1 (BK l))),(2,.c (.pp [Ui q.params,Ui q.ae,.sl fl 5 (Qo q.blocks)])),(4,Up x4),(6,Up x6),(10,Uv i),(11,.c (.sl false 1 (Qb olds))),(12,.c (.sl false 1 (Qb news))),(13,Uv k),(14,.c (.sl false 1 (Qb av)))]) ?_
       ·simp only[Jaz];exact⟨.c _ _ (.same _ rfl),.c _ _ (.same _ rfl),.c _ _ (.same _ rfl),.c _ _ (.same _ rfl),.c _ _ (.same _ rfl),.c _ _ (.same _ rfl),.c _ _ (.same _ rfl),.c _ _ (.same _ rfl),.c _ _ rp,ZD⟩
       generalize H5.frz S=H6 at *;have be:H6 x6=X6:=(kn.get (x6,X6) ZD).1;rw[pG]at be;have ca:H6 zb=.vec 5 RW:=(kn.get (zb,.vec 5 RW) ZD).1;have hz:H6 z=.vec 2 (Q6 ph):=(kn.get (z,.vec 2 (Q6 ph)) ZD).1;have bW:(Q6 ph).set k [Ui p.to,.sl false 1 (Qb av)]=Q6 (ph.set k ⟨p.to,av⟩):=Qbmi ph k ⟨p.to,av⟩;refine Qp ?_;simp only[go_sem,be,ca,hz,bn,bz,bj,af,aT,md,bW,Q0,Jk,Ji];intro H7 h7;have kn:Kn H0 H7 E (([(x4,X4),(x6,X6),(zb,.vec 5 RW)]++R)++[(z,.vec 2 (Q6 (ph.set k ⟨p.to,av⟩)))]):=by
        have:=kn.aB ([(x4,X4),(x6,X6),(zb,Obj.vec 5 RW)]++R).length (x:=z) (o:=.vec 2 (Q6 ph)) ZD h7;simpa using this
       refine Zh ?_;refine⟨Qs,?_⟩;show ∃m,_;refine⟨ph.length-(k+1),ZB,k+1,ph.set k ⟨p.to,av⟩,_,by rw[Jn],by rw[Jn];omega,by rw[gH];exact oQ,?_,kn,rfl,rfl,rfl,rfl,rfl,rfl,rfl,ZC⟩;rw[ju];exact .mk _ _ _ (by rw[Q0,Jn])
    ·intro aD;have bh:ph.length<=k:=ZH;refine Zb ?_;refine Zh ?_;refine⟨Qs,?_⟩;show ∃m,_;have nQ:ph=(Qx q b).ab.map (nwP q P l i):=(by rw[gH,Hi _ _ (by omega)]);have aN:=hS.step pq (ph:=ph) (pl:=pl) (by rw[bm,nQ,J4];rfl) (by rw[bm];exact nQ) (by rw[fx];exact aq);have ew:=PkS.rows (ks:=ks) (ph:=ph) (pl:=pl) pq;have eZ:=DK (f:=KBlk.pl) (l:=ks.set i ⟨⟨ph,ks[i].y.ins,ks[i].y.jump,ks[i].y.on,ks[i].y.next⟩,ks[i].pc,pl⟩) (i:=i) (by rw[Jn];exact pq);rw[Jap,Jag,hR]at eZ;generalize ks.set i ⟨⟨ph,ks[i].y.ins,ks[i].y.jump,ks[i].y.on,ks[i].y.next⟩,ks[i].pc,pl⟩=ks' at *;have kn:Kn H0 H4 E ([(x4,X4),(x6,X6),(zb,.vec 5 (ks'.map KBlk.row))]++ks'.flatMap KBlk.pl):=by
      rw[ew,jm];refine kn.perm (Qj λf hf h0 hc hp=>?_);have:=hp _ _ eZ;simp only[Ui,hf]at this⊢;omega
     exact⟨l.length-(i+1),ZB,i+1,ks',rfl,ZB,aN,kn,rfl,rfl,rfl,rfl,ZC⟩
  ·intro hc;have jx:i=l.length:=by have:l.length<=i:=ZE;omega
   subst jx;refine Zb ?_;have aY:=kn.l 0 rfl;have be:=kn.l 1 rfl;rw[pG]at be;rw[Bs]at aY;refine Zm aY be ?_;intro H2 h2;have kn:=kn.aB 0 rfl h2;refine Ql ?_;refine hQ _ _ ks hS ?_ ZC;rw[pG]at kn;exact kn
theorem Qblt {q:CodeD}{fl fl2:Bool}{l:List Nat}(ho:q.ok)(hp:Pk q l)
  (hK:∀(d:CodeD) z H',PkR q d->(∃P,DL q.blocks.length l P/\d=pkD q P l)->Kn H H' [] [(z,.vec 5 (Qo d.blocks))]->K (.ag [Ui d.params,Ui d.ae,.ah z 5 0 d.blocks.length]) H') :
  Qr prog Nu [.ag [Ui q.params,Ui q.ae,.sl fl 5 (Qo q.blocks)],.c (.sl fl2 1 (BK l))] H K:=by
 have ba:=ho.b1;have qU:=hp.n;have iK:0<l.length:=by
  have:=hp.z
  cases l with
  |nil=>simp at this
  |cons=>simp
 refine DS ?_;refine Qd BF Qbrk ?_;refine Za ?_;intro x4 aY H1 h1;have kn:=(Kn.an H).al aY h1;refine Qa ?_;simp only[go_sem,Qn];try intro _
 refine Qblu (n:=q.blocks.length) ZB ZB hp.lt λP H2 hP hu=>?_;have kn:=kn.aw hu;simp only[go_sem,SX];refine Za ?_;intro x6 be H3 h3;have kn:=kn.al be h3;have be:=kn.l 1 rfl;simp only[go_sem,Q8t,be];intro H4 h4;have kn:Kn H H4 [] [(x4,.st [Ui 0,Ui 0,.sl true 5 []]),(x6,.st [Ui q.params,Ui q.ae,.sl true 5 []])]:=kn.aB 1 rfl h4;refine Wa ?_;refine Qh (Qe (Qw (λm e1 H1=>∃(ks:List KBlk) (bc:C) (bl:Ul),m=l.length-ks.length/\ks.length<=l.length/\ks.map KBlk.y=(l.take ks.length).map (pkY q P)/\(∀b∈ks,b.ok)/\Gr bl 5 (ks.map KBlk.row) bc/\
  Kn H H1 [] (([(x4,.st [Ui 0,Ui 0,.sl true 5 []]),(x6,.st [Ui q.params,Ui q.ae,bc])]++ks.flatMap KBlk.pl)++bl)/\
  lk 1 e1=.c (.sl fl2 1 (BK l))/\lk 2 e1=.c (.pp [Ui q.params,Ui q.ae,.sl fl 5 (Qo q.blocks)])/\lk 4 e1=Up x4/\lk 5 e1=.c (.sl false 1 (Qb P))/\lk 6 e1=Up x6/\lk 7 e1=.c (Ui ks.length)) l.length ?_ ?_))
 ·exact⟨[],_,[],ZD,ZD,ZD,ZD,.nil 5,ZM,rfl,rfl,rfl,rfl,rfl,rfl⟩
 ·clear kn be;rintro m e1 H5 ⟨ks,bc,bl,hm,cg,cW,dq,aq,kn,l1,l2,l4,l5,l6,l7⟩;have gQ:=aq.ai;refine Q1 (Qa ?_);simp only[go_sem,l1,l2,l4,l5,l6,l7,Q5];try intro _
  refine Wu ?_ ?_
  ·intro hc;have af:ks.length<l.length:=ZE
   obtain⟨b,hb⟩:∃b,l[ks.length]=b:=⟨_,rfl⟩;have sA:b∈l:=by rw[<-hb];exact Jc af
   have cR:=hp.lt b sA;have bm:l.getD ks.length 0=b:=by simp[Ja,af,hb]
   refine Zc ?_
   refine Qh (Qe ?_);refine BM ?_;simp only[go_sem,af,Q5,CZ _ _ af,bm,cR,Qn,Cy _ _ cR,BlkD.take5,BlkD.bv,BlkD.len5];refine Q15 (ho.sg.bs _ (Jc cR)) λo H6 k2 ax gI _=>?_;have kn:=kn.comp0 k2;rw[<-Cd cR]at gI;have bt:=o.ak ax;have fq:=ax.p.ai;have ot:=ax.i.ai;simp only[go_sem,Q8v];intro x8 aV H7 h7;have kn:=(kn.al aV h7).perm Jm;have aV:=kn.l 0 rfl;simp only[go_sem,Q8u,aV,o.row_eq,af,Q5,CZ _ _ af,bm,cR,Qn,Cy _ _ cR,BlkD.take5,BlkD.bv,BlkD.len5];intro H8 h8;have kn:Kn H H8 [] ([(o.nx.y,.vec 1 (Qb o.nx.ns))]++([(x8,.st [o.pc,o.ic,Ui o.jump,Ui o.on,.ah o.nx.y 1 0 o.nx.ns.length])]++(([(x4,.st [Ui 0,Ui 0,.sl true 5 []]),(x6,.st [Ui q.params,Ui q.ae,bc])]++ks.flatMap KBlk.pl)++bl)++o.rest)):=
    (kn.aB 0 rfl h8).perm (Qj λf hf h0 hc hp=>by
     show f ([(x8,_)]++(_++_))=_;simp only[Ui,o.lg_eq,hf];omega)
   clear aV;have dA:o.nx.ns=(Qx q b).next:=Zbh
   have hns2:o.nx.ns.length<=2:=by rw[dA,Cd cR];exact (ho.bs b cR).nxl
   refine Wa ?_;refine Qh (Qe (Qw (λm e1 H1=>∃(k:Nat) (ns:List Int),m=o.nx.ns.length-k/\k<=o.nx.ns.length/\ns=(o.nx.ns.take k).map (λv=>P.getD v.toNat 0)++o.nx.ns.drop k/\
    Kn H H1 [] ([(o.nx.y,.vec 1 (Qb ns))]++([(x8,.st [o.pc,o.ic,Ui o.jump,Ui o.on,.ah o.nx.y 1 0 o.nx.ns.length])]++(([(x4,.st [Ui 0,Ui 0,.sl true 5 []]),(x6,.st [Ui q.params,Ui q.ae,bc])]++ks.flatMap KBlk.pl)++bl)++o.rest))/\
    lk 1 e1=.c (.sl fl2 1 (BK l))/\lk 2 e1=.c (.pp [Ui q.params,Ui q.ae,.sl fl 5 (Qo q.blocks)])/\lk 4 e1=Up x4/\lk 5 e1=.c (.sl false 1 (Qb P))/\lk 6 e1=Up x6/\lk 7 e1=.c (Ui ks.length)/\lk 8 e1=Up x8/\lk 9 e1=Uv k) o.nx.ns.length ?_ ?_))
   ·exact⟨0,o.nx.ns,ZB,ZB,ZD,kn,rfl,rfl,rfl,rfl,rfl,rfl,rfl,rfl⟩
   ·clear kn;rintro m2 e2 H9 ⟨k,ns,fw,hk,mh,kn,l1,l2,l4,l5,l6,l7,l8,l9⟩;have ck:ns.length=o.nx.ns.length:=(by rw[mh];simp;omega);have aV:H9 x8=.st [o.pc,o.ic,Ui o.jump,Ui o.on,.ah o.nx.y 1 0 o.nx.ns.length]:=(kn.get (x8,.st [o.pc,o.ic,Ui o.jump,Ui o.on,.ah o.nx.y 1 0 o.nx.ns.length]) ZD).1;have hy:=kn.l 0 rfl;refine Q1 (Qa ?_);simp only[go_sem,l1,l2,l4,l5,l6,l7,l8,l9,aV,hy,Qc,ck,Jk,Ji];try intro _
    refine Wu ?_ ?_
    ·intro aD;have aT:k<o.nx.ns.length:=ZH;obtain⟨w,hw⟩:∃w,o.nx.ns[k]=w:=⟨_,rfl⟩;have fD:w∈(Qx q b).next:=(by rw[<-dA,<-hw];exact Jc aT);obtain⟨w1,w2,_⟩:=hp.to ho hP sA fD;have yZ:ns.getD k 0=w:=by
      rw[mh,Ja,Jar (by rw[Jb,Jy];exact Nat.min_le_left _ _)];simp[aT,hw,Jbv (Jb0 aT)]
     have uf:k<ns.length:=ZB;have bF:(Qb ns).take o.nx.ns.length=Qb ns:=Jd ZS;have jU:=Yb (f:=λv=>P.getD v.toNat 0) aT;rw[hw]at jU;have hwe:w=(w.toNat:Int):=ZB;refine Zc ?_
     refine Wp ?_;generalize hr:w.toNat=r at *;simp only[go_sem,aV,hy,bF,aT,Qc,ck,Qk _ _ uf,yZ,hwe,w2,Qk _ _ w2,Fh,Jk,Ji];intro H10 db;have kn:=kn.aB 0 rfl db;refine Zh ?_;refine⟨Qs,?_⟩;show ∃m,_;exact⟨o.nx.ns.length-(k+1),ZB,k+1,ns.set k (P.getD r 0),rfl,ZB,by rw[mh];exact jU,kn,rfl,rfl,rfl,rfl,rfl,rfl,rfl,rfl⟩
    ·intro aD;have bh:o.nx.ns.length<=k:=ZH;rw[Jd bh,List.drop_eq_nil_of_le bh,Jae]at mh;refine Zb ?_;obtain⟨o2,kZ⟩:∃o2:OBlk,o2=⟨o.ab,o.pc,o.pl,o.ins,o.ic,o.il,o.jump,o.on,⟨ns,o.nx.y⟩⟩:=⟨_,rfl⟩;have iw:o2.ok:=(by rw[kZ];exact⟨ax.p,ax.i,ax.a⟩);have eU:o2.d=pkY q P b:=by
      rw[kZ,pkY,<-gI];simp only[OBlk.d,mh]
     have xH:o2.pc=o.pc:=(by rw[kZ]);have kn:Kn H H9 [] ([(x8,.st o2.row)]++((([(x4,.st [Ui 0,Ui 0,.sl true 5 []]),(x6,.st [Ui q.params,Ui q.ae,bc])]++ks.flatMap KBlk.pl)++bl)++o2.lg)):=by
      have er:o2.row=[o.pc,o.ic,Ui o.jump,Ui o.on,.ah o.nx.y 1 0 o.nx.ns.length]:=(by rw[kZ,OBlk.row_eq,ck]);have el:o2.lg=[(o.nx.y,.vec 1 (Qb ns))]++o.rest:=(by rw[kZ];rfl);rw[er,el];exact kn.perm (Qj λf hf h0 hc hp=>by simp only[Ui,hf];omega)
     obtain⟨S,H10,pl,eE,jy,kn⟩:=OBlk.gh iw kn;rw[eU,xH]at jy kn;refine c_gh (E7 S (Fi ?_) eE) (e':=[(1,.c (.sl fl2 1 (BK l))),(2,.c (.pp [Ui q.params,Ui q.ae,.sl fl 5 (Qo q.blocks)])),(4,Up x4),(5,.c (.sl false 1 (Qb P))),(6,Up x6),(7,.c (Ui ks.length)),(8,Up x8)]) ?_
     ·simp only[Jaz];exact⟨.c _ _ (.same _ rfl),.c _ _ (.same _ rfl),.c _ _ (.same _ rfl),.c _ _ (.same _ rfl),.c _ _ (.same _ rfl),.c _ _ (.same _ rfl),.c _ _ (.same _ rfl),ZD⟩
     clear eE aV hy;have kn:Kn H H10 [] (([(x6,.st [Ui q.params,Ui q.ae,bc])]++([(x8,.st (kRow (pkY q P b) o.pc))]++([(x4,.st [Ui 0,Ui 0,.sl true 5 []])]++(ks.flatMap KBlk.pl++pl))))++bl):=
      kn.perm (Qj λf hf h0 hc hp=>by
       have e:∀(a b:Nat×Obj),f [a,b]=f [a]+f [b]:=λa b=>hc a [b];simp only[Ui,hf,e];omega)
     have be:=kn.l 0 rfl;have aV:=kn.l 1 rfl;obtain⟨kb,fx⟩:∃kb:KBlk,kb=⟨pkY q P b,o.pc,pl⟩:=⟨_,rfl⟩;have qZ:kRow (pkY q P b) o.pc=kb.row:=(by rw[fx];rfl);have i6:kb.ok:=(by rw[fx];exact jy);have ud:=KBlk.ak i6;rw[qZ]at aV kn;have qX:kb.row.length=5:=rfl;have qW:kb.row.take 5=kb.row:=rfl;have yC:(kb.row.all λc=>!c.ai)=true:=ud;refine Qp ?_;simp only[go_sem,be,aV,gQ,qX,qW,yC];refine kn.bk (new:=[kb.row]) aq (.mk' _ _ _ _) (by intro r hr;simp only[Jf]at hr;rw[hr];exact ud) Zap λbc2 bl2 H11 bO zy kn=>?_;have be:=kn.l 0 rfl;simp only[go_sem,Q8w,be];intro H12 iP;have kn:Kn H H12 [] ((([(x4,.st [Ui 0,Ui 0,.sl true 5 []]),(x6,.st [Ui q.params,Ui q.ae,bc2])]++(ks++[kb]).flatMap KBlk.pl)++bl2)++[(x8,.st kb.row)]):=
      (kn.aB 0 rfl iP).perm (Qj λf hf h0 hc hp=>by
       have e:∀(a b:Nat×Obj),f [a,b]=f [a]+f [b]:=λa b=>hc a [b];have ek:kb.pl=pl:=(by rw[fx]);show f ([(x6,_)]++([(x8,_)]++([(x4,_)]++(ks.flatMap KBlk.pl++pl)))++bl2)=_;simp only[Ui,Jak,Jai,Jbb,Jae,ek,hf,e];omega)
     refine Zh ?_;refine⟨Qs,?_⟩;show ∃m,_;refine⟨l.length-(ks.length+1),ZB,ks++[kb],bc2,bl2,ZD,by simp only[J6,Jo,Jj];omega,?_,λw hw=>?_,by rw[Js];exact bO,kn.drop,rfl,rfl,rfl,rfl,rfl,ZC⟩
     ·simp only[J6,Jo,Jj,Jk];rw[Js,cW,Jg af,Js,hb,fx];rfl
     ·rcases Jv.1 hw with hw|hw
      ·exact dq w hw
      ·simp only[Jf]at hw;rw[hw];exact i6
  ·intro hc;have iL:ks.length=l.length:=by have:l.length<=ks.length:=ZE;omega
   rw[iL,J8]at cW;obtain⟨zb,rfl,rfl⟩:∃z,bc=.ah z 5 0 l.length/\bl=[(z,.vec 5 (ks.map KBlk.row))]:=by
    rcases aq with ⟨_,h,_⟩|⟨y,h1,h2⟩
    ·have:=congrArg List.length h;simp only[Jb,Jj]at this;omega
    ·exact⟨y,by rw[h1,Jb,iL],h2⟩
   have hS:PkZ q P l 0 ks:=by
    have hg:∀j (h:j<ks.length),ks[j].y=pkY q P (l.getD j 0):=λj h=>by
     have hj:j<l.length:=ZB;have h1:(ks.map KBlk.y)[j]? = some ks[j].y:=Zbr;rw[cW]at h1;simp only[Jz,Je hj,J9]at h1;rw[(hp.get hj).1];exact (Jaj h1).symm
    exact⟨iL,λj h=>by rw[hg j h];exact⟨rfl,rfl,rfl,rfl,rfl⟩,dq,λj h h0=>ZB,λj h _=>by rw[hg j h];rfl⟩
   have kn:Kn H H5 [] ([(x4,.st [Ui 0,Ui 0,.sl true 5 []]),(x6,.st [Ui q.params,Ui q.ae,.ah zb 5 0 l.length]),(zb,.vec 5 (ks.map KBlk.row))]++ks.flatMap KBlk.pl):=
    kn.perm (Qj λf hf h0 hc hp=>by
     have e2:∀(a b:Nat×Obj),f [a,b]=f [a]+f [b]:=λa b=>hc a [b];have e3:∀(a b c:Nat×Obj),f [a,b,c]=f [a]+f [b]+f [c]:=λa b c=>(by rw[hc a [b,c],e2];omega);simp only[Ui,hf,e2,e3];omega)
   clear cW dq iL aq;refine Zb ?_;refine Qbmj (fl:=fl) (fl2:=fl2) ho hp hP hS kn rfl rfl rfl rfl λe6 H6 ks hS kn l4=>?_;have aY:=kn.l 0 rfl;simp only[go_sem,Q4,BE,Jf,forall_eq,RS.op,l4,aY];obtain⟨d,hd⟩:∃d:CodeD,d=⟨q.params,q.ae,ks.map KBlk.y⟩:=⟨_,rfl⟩;have nu:d.blocks.length=l.length:=by rw[hd];simpa using hS.n
   have hR:=Qb6s (d:=d) ho hp hP (by rw[hd]) (by rw[hd]) nu λj h=>by
    have hj:j<ks.length:=(by rw[hS.n];omega);have e:d.blocks[j]=ks[j].y:=(by subst hd;simp);rw[e];refine⟨hS.b j hj,λp fe=>?_⟩;rw[hS.a j hj ZB]at fe;exact Mw ho hp hP ZB fe
   have zq:d=pkD q P l:=by
    rw[hd,pkD];congr 1;refine Jat (by simp[hS.n]) λj h1 h2=>?_;have hj:j<ks.length:=ZZ;simp only[Jr,Jbl];have hB:=hS.b j hj;have hA:=hS.a j hj (by have:=hS.n;omega);rw[pkX];obtain⟨y,hy⟩:∃y,ks[j].y=y:=⟨_,rfl⟩;rw[hy]at hB hA⊢;cases y;simp only at hA;obtain⟨e1,e2,e3,e4,_⟩:=hB;simp only at e1 e2 e3 e4;rw[hA,e1,e2,e3,e4]
   have kn:Kn H H6 [] ([(zb,.vec 5 (ks.map KBlk.row))]++(([(x4,.st [Ui q.params,Ui q.ae,.ah zb 5 0 l.length])]++[(x6,.st [Ui q.params,Ui q.ae,.ah zb 5 0 l.length])])++ks.flatMap KBlk.pl)):=
    kn.perm (Qj λf hf h0 hc hp=>by
     have e3:∀(a b c:Nat×Obj),f [a,b,c]=f [a]+f [b]+f [c]:=λa b c=>ZX;simp only[Ui,hf,e3];omega)
   obtain⟨S,kP,ly,eE,kn⟩:=kn.bQ;have hz:=ly (zb,.vec 5 (ks.map KBlk.row)) ZD;have bI:FrzR H6 S (ks.map KBlk.row) (Qo d.blocks):=by
    rw[hd];show FrzR H6 S (ks.map KBlk.row) (Qo (ks.map KBlk.y));rw[Qo,J4];refine Er ks λk hk=>?_;refine .cons (Gr.frzM (hS.ok k hk) (λp hp=>kP p (Jh _ (J2.2 ⟨k,hk,hp⟩))) (FrzR.same (Su _))) (.cons (Qg rfl) (.cons (Qg rfl) (.cons (Qg rfl) (.cons (Qg rfl) .nil))))
   have bD:∀r∈ks.map KBlk.row,Go.AE.ak r=true:=λr hr=>by
    obtain⟨k,hk,rfl⟩:=Jl.1 hr;exact KBlk.ak (hS.ok k hk)
   refine⟨S,.ag [Ui q.params,Ui q.ae,.ah zb 5 0 l.length],_,FrzL.ag (.cons (Qg rfl) (.cons (Qg rfl) (.cons (.same _ rfl) .nil))),eE.set (o:=.vec 5 (Qo d.blocks)) hz.2 (by rw[hz.1];exact .vecR bI bD),?_⟩;have:=hK d zb _ hR ⟨P,hP,zq⟩ (kn.setL (o':=.vec 5 (Qo d.blocks)) 0 rfl ZD);rw[nu,hR.p,hR.r]at this;exact this
end Go.AE.Y
namespace Go.AE.Y
attribute [local go_sem] cond_true cond_false Bool.not_true Bool.not_false
open Go.Proofs.Tryz
variable {H H0:Heap}{K:Uk}{E B Lg:Ul}{q:CodeD}
theorem CodeD.ok.gd (h:q.ok):q.gd:=⟨h.b0,h.b1,λy hy=>by
 obtain⟨b,hb,rfl⟩:=Jx.1 hy;exact (h.bs b hb).nxl,h.fts,h.sg⟩
theorem CodeD.ok.fitB (h:q.ok):C1 q.blocks.length (gnx q)=true:=by
 have h1:(List.range q.blocks.length).all (λi=>(gnx q i).all λx=>decide (0<=x/\x<=(q.blocks.length:Int)-1))=true:=by
  simp only[Jaa,J3,decide_eq_true_eq];intro b hb x hx;rw[Ez hb]at hx;have:=(h.bs b hb).nx x hx;omega
 have h2:decide (0<q.blocks.length)=true:=decide_eq_true h.b0;simp only[C1,h1,Bool.true_and]
 first|exact h2|simpa using h.b0
theorem CodeD.ok.rchPk (h:q.ok):Pk q (rchL q.blocks.length (nxN (gnx q))):=by
 have eV:=h.b0;have ba:=h.b1;refine⟨?_,?_,λx hx=>?_,λx hx v hv=>?_⟩
 ·have:=Jbf (Ch (nxN (gnx q)) (-1)) (List.range q.blocks.length);rw[List.length_range]at this;rw[rchL];omega
 ·obtain⟨m,hm⟩:∃m,q.blocks.length=m+1:=⟨q.blocks.length-1,ZB⟩;have h0:Ch (nxN (gnx q)) (-1) 0=true:=rchB_iff.2 (.refl ZB);rw[rchL,hm,Jbc,List.filter_cons,h0];rfl
 ·rw[rchL,Jaw,J3]at hx;exact hx.1
 ·rw[rchL,Jaw,J3]at hx⊢;have Az:=hv;rw[Ez hx.1]at Az;have:=(h.bs x hx.1).nx v Az;refine⟨ZB,rchB_iff.2 (.step (rchB_iff.1 hx.2) (Jl.2 ⟨v,hv,rfl⟩) ZB)⟩
theorem MQ {fl:Bool}(ho:q.ok)(hK:∀(d:CodeD) z H',PkR q d->(∃P,DL q.blocks.length (rchL q.blocks.length (nxN (gnx q))) P/\d=pkD q P (rchL q.blocks.length (nxN (gnx q))))->Kn H H' [] [(z,.vec 5 (Qo d.blocks))]->K (.ag [Ui d.params,Ui d.ae,.ah z 5 0 d.blocks.length]) H') :
  Qr prog Sl [.ag [Ui q.params,Ui q.ae,.sl fl 5 (Qo q.blocks)]] H K:=by
 refine DS ?_;refine Qd BF Qbri ?_;refine Za ?_;intro x2 aI H1 h1;have kn:=(Kn.an H).al aI h1;refine Zw ?_;refine Qa0b (rows:=Qo q.blocks) (nx:=gnx q) (Hd ho.gd) (by rw[Qn];exact ho.fitB) λH2 hu=>?_;have kn:=kn.aw hu;rw[Qn];simp only[go_sem,Q8p];refine Qblt ho ho.rchPk λd z H3 hR hP k2=>?_;have kn:=kn.comp0 k2;have aI:=kn.l 0 rfl;simp only[go_sem,SY,aI];intro H4 h4;have kn:Kn H H4 [] ([(x2,.st [Ui d.params,Ui d.ae,.ah z 5 0 d.blocks.length])]++[(z,.vec 5 (Qo d.blocks))]):=kn.aB 0 rfl h4;have aI:=kn.l 0 rfl;refine Ql ?_;simp only[go_sem,Q4,BE,Jf,forall_eq,RS.op,aI];obtain⟨S,kP,ly,eE,kn⟩:=(kn.perm Jm).bQ;exact⟨S,_,_,FrzL.ag (.cons (Qg rfl) (.cons (Qg rfl) (.cons (.same _ rfl) .nil))),eE,hK d z _ hR hP kn⟩
theorem Qbqt {fl:Bool}(ho:q.ok)(hK:∀(d:CodeD) z H',PkR q d->Kn H H' [] [(z,.vec 5 (Qo d.blocks))]->K (.ag [Ui d.params,Ui d.ae,.ah z 5 0 d.blocks.length]) H') :
  Qr prog Sl [.ag [Ui q.params,Ui q.ae,.sl fl 5 (Qo q.blocks)]] H K:=MQ ho λd z H' hR _ kn=>hK d z H' hR kn
def zRow (v:Int):List C:=[.int .i64 1,.int .i64 v,.sl true 1 [],.int .i64 0]
def zIns (v:Int):InsD:=⟨1,v,[],0⟩
theorem Qb0d {S:Nat->Bool}(vs:List Int):FrzR H S (vs.map zRow) (BJ (vs.map zIns)):=by
 rw[BJ,J4];exact Er vs λv _=>.cons (Qg rfl) (.cons (Qg rfl) (.cons FrzR.nil.sl (.cons (Qg rfl) .nil)))
theorem Qbvp {d:CodeD}(ho:d.ok)(h9:∀y∈d.blocks,y.ins.length<=900/\y.ab.length<=900){vs:List Int}(hv:∀v∈vs,rIn d v)(hl:vs.length<=300){y:BlkD}{ys:List BlkD}(hd:d.blocks=y::ys) :
  (CodeD.mk d.params d.ae (⟨y.ab,vs.map zIns++y.ins,y.jump,y.on,y.next⟩::ys)).ok:=by
 obtain⟨y',eX⟩:∃y':BlkD,y'=⟨y.ab,vs.map zIns++y.ins,y.jump,y.on,y.next⟩:=⟨_,rfl⟩;obtain⟨d',dc⟩:∃d':CodeD,d'=⟨d.params,d.ae,y'::ys⟩:=⟨_,rfl⟩;rw[<-eX,<-dc];have am:d'.blocks.length=d.blocks.length:=by rw[dc,hd];rfl
 have fW:d'.blocks.map BlkD.next=d.blocks.map BlkD.next:=by rw[dc,hd,eX];rfl
 have hg:gnx d'=gnx d:=by funext i;rw[gnx,gnx,fW]
 have hr:∀v,rIn d v->rIn d' v:=λv h=>by simp only[rIn,dc]at h⊢;exact h
 have h9y:=h9 y (by rw[hd];exact J7);have iU:d'.ae=d.ae:=by rw[dc]
 refine⟨by rw[iU];exact ho.r0,by rw[iU];exact ho.r1,by rw[am];exact ho.b0,by rw[am];exact ho.b1,λb h=>?_,λb h=>?_⟩
 ·have h':b<d.blocks.length:=ZB
  have o:=ho.bs b h';have dH:∀x∈d'.blocks[b].ins,x∈d.blocks[b].ins\/∃v∈vs,x=zIns v:=λx hx=>by
   cases b with
   |zero=>
    simp only[dc,Jao,eX]at hx;rcases Jv.1 hx with hx|hx
    ·obtain⟨v,hv,rfl⟩:=Jl.1 hx;exact .inr ⟨v,hv,rfl⟩
    ·left;simp only[hd,Jao];exact hx
   |succ b=>left;simp only[dc,hd,Jan]at hx⊢;exact hx
  have e:d'.blocks[b].ab=d.blocks[b].ab/\d'.blocks[b].jump=d.blocks[b].jump/\d'.blocks[b].on=d.blocks[b].on/\d'.blocks[b].next=d.blocks[b].next:=by
   cases b with
   |zero=>simp only[dc,hd,Jao,eX,and_self]
   |succ b=>simp only[dc,hd,Jan,and_self]
  obtain⟨e1,e2,e3,e4⟩:=e;refine⟨by rw[e4];exact o.nxl,λv hv=>by rw[e4]at hv;rw[am];exact o.nx v hv,by rw[e2];exact o.jmp,λhj=>by rw[e2]at hj;rw[e3];exact hr _ (o.on hj),λx hx v hv=>?_,λx hx hm=>?_,
   λp hp=>by rw[e1]at hp;exact hr _ (o.pto p hp),λp hp v hv=>by rw[e1]at hp;exact hr _ (o.pargs p hp v hv),λp hp=>by rw[e1]at hp;rw[hg,am];exact o.pal p hp,λx hx=>?_⟩
  ·rcases dH x hx with h|⟨v',_,rfl⟩
   ·exact hr _ (o.args x h v hv)
   ·simp[zIns]at hv
  ·rcases dH x hx with h|⟨v',iG,rfl⟩
   ·exact hr _ (o.to x h hm)
   ·exact hr _ (hv v' iG)
  ·rcases dH x hx with h|⟨v',_,rfl⟩
   ·exact o.al x h
   ·simp[zIns]
 ·have h':b<d.blocks.length:=ZB
  have o:=ho.il b h'
  cases b with
  |zero=>
   simp only[dc,Jao,eX,J6,Jb];omega
  |succ b=>simp only[dc,hd,Jan]at o⊢;exact o
theorem Qblx {fl:Bool}(ho:q.ok)(fU:0<=q.params)(h9:∀y∈q.blocks,y.ins.length<=900/\y.ab.length<=900)
  (hK:∀(d:CodeD) H',d.ok->d.params=q.params->d.ae=q.ae->(∀y∈d.blocks,y.ab.length<=900)->Upd H H' []->K (.ag d.cells) H') :
  Qr prog OZ [.ag [Ui q.params,Ui q.ae,.sl fl 5 (Qo q.blocks)]] H K:=by
 refine Qy ?_;refine Qd BF Qbl6 ?_;refine Za ?_;intro x2 aI H1 h1;have kn:=(Kn.an H).al aI h1;refine Za ?_;refine Qbqt ho λd z H2 hR k2=>?_;have kn:=kn.comp0 k2;have sw:=hR.ok;have zr:∀y∈d.blocks,y.ins.length<=900/\y.ab.length<=900:=λy hy=>by
  obtain⟨y0,rS,h1,h2⟩:=hR.i y hy;rw[h1,h2];exact h9 y0 rS
 have fU:0<=d.params:=by rw[hR.p];exact fU
 have bE:=sw.r0;have cI:=sw.r1;have eV:=sw.b0;have ba:=sw.b1;simp only[go_sem,Q3v];intro x3 aL H3 h3;have kn:=(kn.al aL h3).perm Jm;have aL:=kn.l 0 rfl;simp only[go_sem,Q3u,aL];intro H4 h4;have kn:Kn H H4 [] ([(x3,.st [Ui d.params,Ui d.ae,.ah z 5 0 d.blocks.length]),(x2,.st [Ui 0,Ui 0,.sl true 5 []]),(z,.vec 5 (Qo d.blocks))]):=kn.aB 0 rfl h4;have aL:=kn.l 0 rfl;have hz:=kn.l 2 rfl;refine Zj aL ?_;refine Rv sw (CodeR.ah hz ZD) λzi zo H5 hu cS=>?_;have kn:=kn.aw hu;obtain⟨y,ys,rR⟩:∃y ys,d.blocks=y::ys:=by
  cases hb:d.blocks with
  |nil=>rw[hb]at eV;simp at eV
  |cons y ys=>exact⟨y,ys,rfl⟩
 have iE:0<zi.length:=by rw[cS.1.i];exact eV
 obtain⟨nd,dh⟩:∃nd,zi[0].2=nd:=⟨_,rfl⟩;have qN:nd.length=d.ae.toNat:=by rw[<-dh];exact cS.1.li _ (Jc iE)
 simp only[go_sem,Q3w,iE,Rq,MK _ _ iE,dh];refine⟨Jbu 0,?_⟩;refine Za ?_;have aL:=kn.l 0 rfl;refine Q1 (Qa ?_);simp only[go_sem,aL];refine Qh (Qe (Qw (λm e1 H1=>∃(r:Int) (vs:List Int) (t:C) (Lg:Ul),m=(d.ae-r).toNat/\0<=r/\(r<=d.ae\/r=d.params)/\(vs.length:Int)<=r/\(vs=[]\/r<=d.ae)/\(∀v∈vs,rIn d v)/\Gr Lg 4 (vs.map zRow) t/\
  Kn H H1 [] ([(x3,.st [Ui d.params,Ui d.ae,.ah z 5 0 d.blocks.length]),(x2,.st [Ui 0,Ui 0,.sl true 5 []]),(z,.vec 5 (Qo d.blocks))]++Lg)/\
  lk 2 e1=Up x2/\lk 3 e1=Up x3/\lk 4 e1=.c (.sl false 1 (Qv nd))/\lk 5 e1=.c t/\lk 6 e1=Uv r) (d.ae-d.params).toNat ?_ ?_))
 ·exact⟨d.params,[],_,[],rfl,fU,.inr rfl,fU,.inl rfl,ZD,.nil 4,ZM,rfl,rfl,rfl,rfl,rfl⟩
 ·clear kn aL hz;rintro m e1 H6 ⟨r,vs,t,Lg,hm,hr,xg,bN,vo,ta,aq,kn,l2,l3,l4,l5,l6⟩;have fM:=aq.ai;have aL:=kn.l 0 rfl;refine Q1 (Qa ?_);simp only[go_sem,l2,l3,l4,l5,l6,aL];refine Wu ?_ ?_
  ·intro hc;have af:r<d.ae:=ZE
   obtain⟨rn,hrn⟩:∃rn:Nat,r=(rn:Int):=⟨r.toNat,ZB⟩;subst hrn;have cA:rn<nd.length:=ZB
   refine Zc ?_
   refine Ck (λe2 H2=>∃(vs:List Int) (t:C) (Lg:Ul),(vs.length:Int)<=(rn:Int)+1/\(∀v∈vs,rIn d v)/\Gr Lg 4 (vs.map zRow) t/\
    Kn H H2 [] ([(x3,.st [Ui d.params,Ui d.ae,.ah z 5 0 d.blocks.length]),(x2,.st [Ui 0,Ui 0,.sl true 5 []]),(z,.vec 5 (Qo d.blocks))]++Lg)/\
    lk 2 e2=Up x2/\lk 3 e2=Up x3/\lk 4 e2=.c (.sl false 1 (Qv nd))/\lk 5 e2=.c t/\lk 6 e2=Uv (rn:Int)) ?_ ?_
   ·intro Q bB _ _;refine Qe (Qa ?_);simp only[go_sem,cA,Q3,Q7 _ _ cA];refine Wv ?_ ?_
    ·intro aD;refine Zh ?_;refine kn.bk (new:=[zRow (rn:Int)]) aq (.mk' _ _ _ _) (by intro w hw;simp only[Jf]at hw;rw[hw];rfl) Zap λt2 Lg2 H7 bO dy kn=>?_;simp only[go_sem,Q3x];refine bB _ _ ⟨vs++[(rn:Int)],t2,Lg2,by simp only[J6,Jo,Jj];omega,λv hv=>?_,by rw[Js];exact bO,kn,rfl,rfl,rfl,rfl,rfl⟩;rcases Jv.1 hv with hv|hv
     ·exact ta v hv
     ·simp only[Jf]at hv;rw[hv];exact⟨ZB,af⟩
    ·intro aD;refine Zc ?_
     exact bB _ _ ⟨vs,t,Lg,ZB,ta,aq,kn,rfl,rfl,rfl,rfl,rfl⟩
   ·rintro e2 H7 ⟨vs,t,Lg,bN,ta,aq,kn,l2,l3,l4,l5,l6⟩;have fM:=aq.ai;refine Qp ?_;simp only[go_sem,l2,l3,l4,l5,l6];refine⟨Qs,?_⟩;show ∃m,_;exact⟨(d.ae-((rn:Int)+1)).toNat,ZB,(rn:Int)+1,vs,t,Lg,rfl,ZB,.inl ZB,bN,.inr ZB,ta,aq,kn,rfl,rfl,rfl,rfl,rfl⟩
  ·intro hc;have wK:vs.length<=300:=by
    rcases vo with rfl|h
    ·simp
    ·omega
   have bh:d.ae<=r:=ZE
   have hz:=kn.l 2 rfl;have h0:0<(Qo d.blocks).length:=by rw[Qn];exact eV
   have uM:(Qo d.blocks).getD 0 []=[.sl false 2 (Q6 y.ab),.sl false 4 (BJ y.ins),Ui y.jump,Ui y.on,.sl false 1 (Qb y.next)]:=by rw[rR];rfl
   have mN:(Qo d.blocks).take d.blocks.length=Qo d.blocks:=Jd (by rw[Qn];exact Ji _);have kS:=zr y (by rw[rR];exact J7);refine Zb ?_;refine BM ?_;simp only[go_sem,aL,hz,Qn,eV,uM,mN,Jk,Ji,Jbu];refine kn.bk (new:=BJ y.ins) aq (.mk' _ _ _ _) (IP _) (by simp only[Jb,Cv,LIM];omega) λt2 Lg2 H7 bO dy kn=>?_;have aL:=kn.l 0 rfl;have hz:=kn.l 2 rfl;simp only[go_sem,Q3y,aL,hz,Qn,eV,uM,Jk,Ji,Jbu];intro H8 h8;have bW:∀R:List C,(Qo d.blocks).set 0 R=R::Qo ys:=λR=>by rw[rR];rfl
   rw[bW]at h8;have kn:Kn H H8 [] ([(x3,.st [Ui d.params,Ui d.ae,.ah z 5 0 d.blocks.length]),(x2,.st [Ui 0,Ui 0,.sl true 5 []]),(z,.vec 5 ([.sl false 2 (Q6 y.ab),t2,Ui y.jump,Ui y.on,.sl false 1 (Qb y.next)]::Qo ys))]++Lg2):=kn.aB 2 rfl h8;have aI:=kn.l 1 rfl;have aL:=kn.l 0 rfl;refine Zm aI aL ?_;intro H9 Am;have kn:Kn H H9 [] ([(x3,.st [Ui d.params,Ui d.ae,.ah z 5 0 d.blocks.length]),(x2,.st [Ui d.params,Ui d.ae,.ah z 5 0 d.blocks.length]),(z,.vec 5 ([.sl false 2 (Q6 y.ab),t2,Ui y.jump,Ui y.on,.sl false 1 (Qb y.next)]::Qo ys))]++Lg2):=kn.aB 1 rfl Am;have aI:=kn.l 1 rfl;have hz:=kn.l 2 rfl;have hzu:=kn.un 2 rfl;refine Ql ?_;simp only[go_sem,Q4,BE,Jf,forall_eq,RS.op,aI];have jc:FrzC H9 (un H) t2 (.sl false 4 (BJ (vs.map zIns++y.ins))):=by
    have:BJ (vs.map zIns++y.ins)=BJ (vs.map zIns)++BJ y.ins:=(by simp[BJ]);rw[this];exact bO.frzR kn ((Qb0d vs).app (FrzR.same (IP _)))
   have bI:FrzR H9 (un H) ([.sl false 2 (Q6 y.ab),t2,Ui y.jump,Ui y.on,.sl false 1 (Qb y.next)]::Qo ys) (Qo (⟨y.ab,vs.map zIns++y.ins,y.jump,y.on,y.next⟩::ys)):=
    .cons (.cons (Qg rfl) (.cons jc (.cons (Qg rfl) (.cons (Qg rfl) (.cons (Qg rfl) .nil))))) (FrzR.same (T2 _))
   have nu:d.blocks.length=(⟨y.ab,vs.map zIns++y.ins,y.jump,y.on,y.next⟩::ys:List BlkD).length:=by rw[rR];rfl
   refine⟨_,FrzL.ag (.cons (Qg rfl) (.cons (Qg rfl) (.cons (bI.ah hzu hz (by rw[nu,Jo,Jo,Qn])) .nil))),hK (CodeD.mk d.params d.ae (⟨y.ab,vs.map zIns++y.ins,y.jump,y.on,y.next⟩::ys)) _ (Qbvp sw zr ta wK rR) hR.p hR.r (λw hw=>?_) kn.fin⟩;rcases Jbw.1 hw with rfl|hw
   ·exact kS.2
   ·exact (zr w (by rw[rR];exact Jw _ hw)).2
end Go.AE.Y
namespace Go.AE.Y
open Go.Proofs.Tryz
def SE:=dY 0x104122f011c122 DM
def Qr8:=dZ 0x2315101142f7801805800e40 .skip SE
def Qsa:=dZ 0x190900013160d80079f0113130c310142 Qr8 [] Is
def Qpe:=dZ 0x9000bb0002316010440b11 Qsa
def Qsc:=dZ 0x1909500400231500f0057008312 Qpe [] Iv
def Qsd:=dZ 0x93003014f00511 Qsc
def Qz6:=dZ 0x9002014f00411 Qsd
theorem Qzu:mFn prog Qf1 2 22 Qz6 BG=true:=ZF
def Sd:=dY 0xf80031
def Qx5:=dY 0x79585e590042
def Qx6:=dY 0xa90061
def Qx7:=dY 7122116609
def Qx8:=dY 2752657
def Qaw7:=dW 0x40080070110110ff007f010113a80018812b809802a80 [] [] [.e none none (.upd 0 (.t 42) (.t 43) (.t 48))]
def Qaw8:=dZ 0x40080070110110ff01b0259f1f5a043120
def Qaw9:=dZ 0x19090040080050001101111f09a07a00a9f0124131027510542 Qaw7 [] Qaw8
def Qapg:=dZ 0x90426b000400800701101110f010442611 Qaw9
def Qx9:=dY 0x101e72b133b2
def Qao4:=dZ 0x800a1011a102122f011c9800101134803804803803290 .skip Qx9
def Qao5:=dZ 0x190950440040080070110110ff00f00568023312 Qapg [] Qao4
def Qao6:=dW 0x9008007011011c108f2211 [Qao5] [Qx8] [eI 34 .mkm]
def Qao7:=dZ 0x800a1011a0cb01e9f1fe9043c20
def Qao8:=dZ 0x190900800811011b1170232f089f026132320310342 Qao6 Qx7 Qao7
def Qahr:=dZ 0x9021fb000800a1011b010441f11 Qao8
def Qao9:=dZ 0x9502400800a1011a00f0050158021b41 Qahr
def Qapa:=dZ 0x900a000118101232d48018361831 Qao9 Qx6
def Qapb:=dZ 0xd1150db0139f1f39043d20
def Qapc:=dZ 0x190900b00117117004727532f059f05624531015410142 Qapa Qx5 Qapb
def Qahs:=dZ 0x90014b000d116010441411 Qapc
def Qapd:=dZ 0x7210eb0029f3803e21
def Qape:=dZ 0x1909500400d11500f00501182210412 Qahs [] Qapd
def Qapf:=dW 0x9112108f050118220c41 [Qape] [Sd] [eI 15 (.mks 1 [.sl true 1 []] (.t 14))]
def Qbcl:=dZ 0x911014f0090121 Qapf
theorem Qbbn:mFn prog Q7n 1 63 Qbcl BH=true:=ZF
def Qyl:=dY 0xe9781ec90062
def Qym:=dY 0x201e012342352614f72a52434f1a2214f2b6
def Qaxd:=dZ 0xa060200910126fd78170e1f58068001002015348001022070801fc0e0d0c0705030b0a09080706050403020100120fa .skip Qym
def Qaxe:=dZ 0xa06020090da01a9f1fa9042d20
def Qaxf:=dZ 0x190900a04000200b14132f079f012413101c410342 Qaxd Qyl Qaxe
def Qap9:=dZ 0x9021bb000a060200a010441b11 Qaxf
def Qaxg:=dZ 0x9502400a060200900f0050101134801801561 Qap9
def Qaxh:=dZ 0x90602006101232d480036070801051 Qaxg SX
def Qaxi:=dZ 0xa0040ea00d9f1fd8042e20
def Qap7:=dZ 0x19090720050f80049f100f210142 Qaxh [] Qaxi
def Qahy:=dZ 0x9000eb00a005010440e11 Qap7
def Qbco:=dZ 0x950040a00400f0050102207700861 Qahy
theorem Qbbp:mFn prog Q7p 2 47 Qbco Cp=true:=ZF
def Qack:=dW 0x7310680039f08f40210441 [] [] [fI 6 (.lup 0 (.c (.int .i64 0)) (.t 4) (.t 5))]
def Qap8:=dZ 0x900200f00311 Qack
theorem Qanm:mFn prog SP 2 7 Qap8 Dx=true:=ZF
def Qh1:=dY 0x102253d430364f062 SY
def Q3a:=dZ 0x72110154d2361360330403000201000605a2 .skip Qh1
def Qacj:=dZ 0x901205700332f090121 Q3a
theorem Qabl:mFn prog Qj9 1 7 Qacj Ce=true:=ZF
end Go.AE.Y
namespace Go.AE.Y
attribute [local go_sem] cond_true cond_false Bool.not_true Bool.not_false
open Go.Proofs.Tryz
variable {H H0:Heap}{K:Uk}{q:CodeD}{E L:Ul}
def mI (l:List (Int×Int)):List (C×V):=l.map λp=>(.int .i64 p.1,.c (.int .i64 p.2))
def lkI (k:Int):List (Int×Int)->Option Int
 |[]=>none
 |p::l=>if k=p.1 then some p.2 else lkI k l
def upI (k v:Int):List (Int×Int)->List (Int×Int)
 |[]=>[(k,v)]
 |p::l=>if k=p.1 then (k,v)::l else p::upI k v l
theorem F3 (l:List (Int×Int)):(mI l).length=l.length:=by simp[mI]
theorem G8 (k:Int)(l:List (Int×Int)):Dk 0 (Ui k) (mI l)=True:=by
 refine eq_true ?_;simp only[Dk,mI,Jl];rintro e ⟨p,_,rfl⟩;exact⟨p.1,rfl⟩
theorem HH (k:Int):∀(l:List (Int×Int)),Df (Ui k) (mI l)=(lkI k l).map λv=>Uv v
 |[]=>rfl
 |p::l=>by
  have ih:=HH k l;simp only[mI,Jab,Df,CC,lkI]at ih⊢;by_cases h:k=p.1
  ·simp[h]
  ·simp only[h,decide_false,Jbk,if_false];exact ih
theorem FK (k:Int)(l:List (Int×Int)):(Df (Ui k) (mI l)).getD (Uv 0)=Uv ((lkI k l).getD 0):=by
 rw[HH];cases lkI k l <;> rfl
theorem Rz (k:Int)(l:List (Int×Int)):(Df (Ui k) (mI l)).isSome=(lkI k l).isSome:=by
 rw[HH];cases lkI k l <;> rfl
theorem Gf (k v:Int):∀(l:List (Int×Int)),updE (Ui k) (Uv v) (mI l)=mI (upI k v l)
 |[]=>rfl
 |p::l=>by
  have ih:=Gf k v l;simp only[mI,Jab,updE,CC,upI]at ih⊢;by_cases h:k=p.1
  ·simp[h]
  ·simp only[h,decide_false,Jbk,if_false,Jab,ih]
theorem GV (k v:Int):∀(l:List (Int×Int)),(upI k v l).length<=l.length+1
 |[]=>by simp[upI]
 |p::l=>by
  have ih:=GV k v l;simp only[upI];split
  ·simp
  ·simp only[Jo];omega
theorem Fq (k v j:Int):∀(l:List (Int×Int)),lkI j (upI k v l)=if j=k then some v else lkI j l
 |[]=>by simp[upI,lkI]
 |p::l=>by
  have ih:=Fq k v j l;simp only[upI];by_cases h:k=p.1
  ·simp only[h,if_true,lkI];by_cases hj:j=p.1 <;> simp[hj]
  ·simp only[h,if_false,lkI,ih];by_cases hj:j=p.1
   ·have:¬j=k:=λe=>h (e▸hj);simp[hj];intro e;exact absurd e.symm h
   ·simp[hj]
theorem Kh {k v:Int}:∀{l:List (Int×Int)},(∀p∈l,¬k=p.1)->upI k v l=l++[(k,v)]
 |[],_=>rfl
 |p::l,h=>by
  have ih:=Kh (v:=v) λq hq=>h q (Jw _ hq);simp only[upI,h p J7,if_false,ih,Jas]
theorem Qb0f {l aa:List Int}{i:Nat}(h:i<l.length)(h2:i<aa.length)(dh:l.Nodup):upI l[i] aa[i] ((l.zip aa).take i)=(l.zip aa).take (i+1):=by
 have hz:i<(l.zip aa).length:=by rw[List.length_zip];omega
 rw[Jg hz,List.getElem_zip,Kh];intro p hp he;obtain⟨j,hj,rfl⟩:=Jx.1 hp;rw[Jy]at hj;rw[List.getElem_take,List.getElem_zip]at he;simp only at he;have:=(Jbr dh).1 he;omega
theorem Yw {l:List (Int×Int)}(h:(l.map Prod.fst).Nodup):(mI l).Nodup:=by
 rw[mI,List.nodup_iff_pairwise_ne,Ja8];rw[List.nodup_iff_pairwise_ne,Ja8]at h;refine List.Pairwise.imp (λbd he=>?_) h;simp only[Ja1,C.int.injEq,true_and]at he;exact bd he.1
structure PMap where
 m:Nat
 ver:Nat
 l:List (Int×Int)
def PMap.lg (p:PMap):List (Nat×Obj):=[(p.m,.map p.ver (mI p.l))]
def Cw (ms:List PMap):List (List C):=ms.map λp=>[.mp p.m]
theorem Eu (ms:List PMap):(Cw ms).length=ms.length:=by simp[Cw]
theorem Np (ms:List PMap)(i:Nat)(h:i<ms.length):(Cw ms).getD i []=[.mp ms[i].m]:=by simp[Cw,Ja,h]
structure PSl where
 ms:List PMap
 c:C
 g:Ul
def PSl.row (s:PSl):List C:=[s.c]
def PSl.ok (s:PSl):Prop:=Gr s.g 1 (Cw s.ms) s.c
def PSl.lg (s:PSl):List (Nat×Obj):=s.ms.flatMap PMap.lg++s.g
def psL (ss:List PSl):List (Nat×Obj):=ss.flatMap PSl.lg
structure PInv (F:Nat->List (List (Int×Int)))(ss:List PSl):Prop where
 f:∀r (h:r<ss.length),ss[r].ms.map PMap.l=F r
 ok:∀s∈ss,s.ok
variable {F F':Nat->List (List (Int×Int))}{ss:List PSl}
theorem PInv.set (h:PInv F ss){x:Nat}{s:PSl}(hs:s.ok)(hF:∀r,r<ss.length->F' r=if r=x then s.ms.map PMap.l else F r):PInv F' (ss.set x s):=by
 refine⟨λr hr=>?_,λw hw=>?_⟩
 ·have bf:r<ss.length:=Zah
  rw[J1,hF r bf];split
  ·rename_i e;rw[if_pos e.symm]
  ·rename_i e;rw[if_neg (λhh=>e hh.symm)];exact h.f r bf
 ·rcases Jt hw with hw|rfl
  ·exact h.ok w hw
  ·exact hs
theorem Tl {x:Nat}{s:PSl}(hx:x<ss.length)(hs:ss[x]=s):(psL ss).Perm (psL (ss.eraseIdx x)++s.lg):=by
 subst hs;exact (DK (f:=PSl.lg) hx).trans Jm
theorem Kx {x:Nat}{s:PSl}(hx:x<ss.length):(psL (ss.set x s)).Perm (psL (ss.eraseIdx x)++s.lg):=by
 have h1:=Tl (ss:=ss.set x s) (x:=x) (s:=s) (by rw[Jn];exact hx) ZD;rw[Jag]at h1;exact h1
def zpA (q:CodeD)(b:Nat)(p:PhiD):List (Int×Int):=(Qz (gnx q) (b:Int) q.blocks.length).zip p.args
def phT (q:CodeD)(b r:Nat):List (List (Int×Int)):=if r<b then (Qx q r).ab.map (zpA q r)else []
theorem Yy {fl:Bool}(ho:q.ok)(hK:∀o ss H',ss.length=q.blocks.length->PInv (phT q q.blocks.length) ss->Kn H H' [] ([(o,.vec 1 (ss.map PSl.row))]++psL ss)->K (.c (.ah o 1 0 q.blocks.length)) H') :
  Qr prog Q7n [.ag [Ui q.params,Ui q.ae,.sl fl 5 (Qo q.blocks)]] H K:=by
 have ba:=ho.b1;refine DS ?_;refine Qd BF Qbbn ?_;refine Wf ?_;simp only[go_sem,Qn];intro _;refine⟨by simp only[LIM];omega,λo kZ H1 h1=>?_⟩;obtain⟨ss0,gE⟩:∃ss0:List PSl,ss0=List.replicate q.blocks.length ⟨[],.sl true 1 [],[]⟩:=⟨_,rfl⟩;have tA:ss0.length=q.blocks.length:=by rw[gE];simp
 have mW:PInv (phT q 0) ss0:=by
  rw[gE];refine⟨λr h=>by simp[phT],λs hs=>?_⟩;rw[Jah hs];exact .nil 1
 have kn:Kn H H1 [] ([(o,.vec 1 (ss0.map PSl.row))]++psL ss0):=by
  have e:psL ss0=[]:=by rw[gE];exact Jba.2 λs hs=>by rw[Jah hs];rfl
  have:=(Kn.an H).al kZ h1;rw[e,gE];simpa[PSl.row]using this
 clear gE h1 kZ;simp only[go_sem,Sd];refine Q1 (Qa ?_);simp only[go_sem,Qn];try intro _
 refine Qh (Qe (Qw (λm e1 H1=>∃(b:Nat) (ss:List PSl),m=q.blocks.length-b/\b<=q.blocks.length/\ss.length=q.blocks.length/\PInv (phT q b) ss/\Kn H H1 [] ([(o,.vec 1 (ss.map PSl.row))]++psL ss)/\
  lk 1 e1=.c (.pp [Ui q.params,Ui q.ae,.sl fl 5 (Qo q.blocks)])/\lk 3 e1=.c (.ah o 1 0 q.blocks.length)/\lk 17 e1=.c (.sl fl 5 (Qo q.blocks))/\lk 18 e1=.c (Ui q.blocks.length)/\lk 19 e1=Uv b) q.blocks.length ?_ ?_))
 ·exact⟨0,ss0,ZB,ZB,tA,mW,kn,rfl,rfl,rfl,rfl,rfl⟩
 ·clear kn mW tA;clear ss0;rintro m e1 H1 ⟨b,ss,hm,hb,eK,hS,kn,l1,l3,l17,l18,l19⟩;refine Qa ?_;simp only[go_sem,l1,l3,l17,l18,l19];refine Wu ?_ ?_
  ·intro hc;have af:b<q.blocks.length:=ZE
   obtain⟨y,hy⟩:∃y,q.blocks[b]=y:=⟨_,rfl⟩;have gV:Qx q b=y:=by rw[Cd af,hy]
   have cz:=ho.bs b af;have cM:=ho.il b af;rw[hy]at cz cM;refine Zc ?_
   refine Wi ?_;simp only[go_sem,af,Qn,Cy _ _ af,BlkD.cells,hy];intro x5 bq H2 h2;have kn:Kn H H2 [] ([(x5,_)]++([(o,.vec 1 (ss.map PSl.row))]++psL ss)):=(kn.al bq h2).perm Jm;have bq:=kn.l 0 rfl;simp only[go_sem,Qx5,bq];intro H3 h3;have kn:=kn.aB 0 rfl h3;have kn:Kn H H3 [] ([(x5,.st y.cells)]++([(o,.vec 1 (ss.map PSl.row))]++psL ss)):=kn;clear bq;refine Za ?_;refine Ts (E5 H3 q fl) λfl2 H4 hu=>?_;have kn:=kn.aw hu;have tK:DP (gnx q) (b:Int) q.blocks.length=Qz (gnx q) (b:Int) q.blocks.length:=by rw[DP,if_pos ZaK]
   rw[Qn,tK];obtain⟨ps,ft⟩:∃ps,Qz (gnx q) (b:Int) q.blocks.length=ps:=⟨_,rfl⟩;have xB:ps.Nodup:=by rw[<-ft];exact Hy _ _ _
   have da:ps.length<=q.blocks.length:=by rw[<-ft];exact Es _ _ _
   have nR:∀p∈y.ab,p.args.length=ps.length:=λp hp=>by rw[cz.pal p hp,ft]
   rw[ft];simp only[go_sem,Qx6];have bq:=kn.l 0 rfl;refine Qa ?_;simp only[go_sem,bq,BlkD.cells,Q0];try intro _
   refine Qe (Qw (λm e1 H1=>∃(k:Nat) (ss:List PSl),m=y.ab.length-k/\k<=y.ab.length/\ss.length=q.blocks.length/\PInv (λr=>if r=b then (y.ab.take k).map (zpA q b)else phT q b r) ss/\Kn H H1 [] ([(x5,.st y.cells)]++([(o,.vec 1 (ss.map PSl.row))]++psL ss))/\
    lk 1 e1=.c (.pp [Ui q.params,Ui q.ae,.sl fl 5 (Qo q.blocks)])/\lk 3 e1=.c (.ah o 1 0 q.blocks.length)/\lk 4 e1=Uv b/\lk 6 e1=.c (.sl fl2 1 (Qb ps))/\lk 17 e1=.c (.sl fl 5 (Qo q.blocks))/\lk 18 e1=.c (Ui q.blocks.length)/\lk 19 e1=Uv b/\lk 28 e1=.c (.sl false 2 (Q6 y.ab))/\lk 29 e1=.c (Ui y.ab.length)/\lk 30 e1=Uv k) y.ab.length ?_ ?_)
   ·refine⟨0,ss,ZB,ZB,eK,⟨λr hr=>?_,hS.ok⟩,kn,rfl,rfl,rfl,rfl,rfl,rfl,rfl,rfl,rfl,rfl⟩;rw[hS.f r hr];by_cases nk:r=b
    ·subst nk;simp[phT]
    ·rw[if_neg nk]
   ·clear kn hS l1 l3 l17 l18 l19 bq eK;rintro m2 e2 H5 ⟨k,ss,fw,hk,eK,hS,kn,l1,l3,l4,l6,l17,l18,l19,l28,l29,l30⟩;refine Qa ?_;simp only[go_sem,l1,l3,l4,l6,l17,l18,l19,l28,l29,l30];refine Wu ?_ ?_
    ·intro aD;have aT:k<y.ab.length:=ZH;obtain⟨p,hp⟩:∃p,y.ab[k]=p:=⟨_,rfl⟩;have eR:p∈y.ab:=(by rw[<-hp];exact Jc aT);have qE:=nR p eR;refine Zc ?_
     refine Wi ?_;simp only[go_sem,aT,Q0,Dh _ _ aT,PhiD.cells,hp];intro x8 aV H6 h6;have kn:Kn H H6 [] ([(x8,_)]++([(x5,.st y.cells)]++([(o,.vec 1 (ss.map PSl.row))]++psL ss))):=(kn.al aV h6).perm Jm;have aV:=kn.l 0 rfl;simp only[go_sem,Qx7,aV];intro H7 h7;have kn:=kn.aB 0 rfl h7;have kn:Kn H H7 [] ([(x8,.st p.cells)]++([(x5,.st y.cells)]++([(o,.vec 1 (ss.map PSl.row))]++psL ss))):=kn;clear aV;refine Za ?_;intro M hM H8 h8;have kn:Kn H H8 [] ([(M,.map 0 (mI []))]++([(x8,.st p.cells)]++([(x5,.st y.cells)]++([(o,.vec 1 (ss.map PSl.row))]++psL ss)))):=(kn.al hM h8).perm Jm;clear hM;simp only[go_sem,Qx8];refine Q1 (Qa ?_);simp only[go_sem,Qc];try intro _
     refine Qh (Qe (Qw (λm e1 H1=>∃(i ver:Nat),m=ps.length-i/\i<=ps.length/\Kn H H1 [] ([(M,.map ver (mI ((ps.zip p.args).take i)))]++([(x8,.st p.cells)]++([(x5,.st y.cells)]++([(o,.vec 1 (ss.map PSl.row))]++psL ss))))/\
      lk 1 e1=.c (.pp [Ui q.params,Ui q.ae,.sl fl 5 (Qo q.blocks)])/\lk 3 e1=.c (.ah o 1 0 q.blocks.length)/\lk 4 e1=Uv b/\lk 6 e1=.c (.sl fl2 1 (Qb ps))/\lk 8 e1=Up x8/\lk 9 e1=.c (.mp M)/\lk 17 e1=.c (.sl fl 5 (Qo q.blocks))/\lk 18 e1=.c (Ui q.blocks.length)/\lk 19 e1=Uv b/\lk 28 e1=.c (.sl false 2 (Q6 y.ab))/\lk 29 e1=.c (Ui y.ab.length)/\lk 30 e1=Uv k/\
      lk 35 e1=.c (.sl fl2 1 (Qb ps))/\lk 36 e1=.c (Ui ps.length)/\lk 37 e1=Uv i) ps.length ?_ ?_))
     ·exact⟨0,0,ZB,ZB,ZM,rfl,rfl,rfl,rfl,rfl,rfl,rfl,rfl,rfl,rfl,rfl,rfl,rfl,rfl,rfl⟩
     ·clear kn l1 l3 l4 l6 l17 l18 l19 l28 l29 l30;rintro m3 e3 H9 ⟨i,ver,qS,hi,kn,l1,l3,l4,l6,l8,l9,l17,l18,l19,l28,l29,l30,l35,l36,l37⟩;have hM:=kn.l 0 rfl;have aV:=kn.l 1 rfl;refine Qa ?_;simp only[go_sem,l1,l3,l4,l6,l8,l9,l17,l18,l19,l28,l29,l30,l35,l36,l37];refine Wu ?_ ?_
      ·intro bA;have cf:i<ps.length:=ZT;have gJ:i<p.args.length:=ZB;obtain⟨w,hw⟩:∃w,ps[i]=w:=⟨_,rfl⟩;obtain⟨a,ha⟩:∃a,p.args[i]=a:=⟨_,rfl⟩;have yR:ps.getD i 0=w:=(by simp[Ja,cf,hw]);have uz:p.args.getD i 0=a:=(by simp[Ja,gJ,ha]);have sL:=Qb0f cf gJ xB;rw[hw,ha]at sL;have iE:((ps.zip p.args).take i).length<=i:=(by rw[Jy];omega);refine Zc ?_
       refine Wi ?_;simp only[go_sem,cf,Qc,Qk _ _ cf,yR];refine Qp ?_;simp only[go_sem,aV,PhiD.cells,hM,gJ,Qc,Qk _ _ gJ,uz,G8,F3,Gf,sL];refine⟨by simp only[LIM];omega,λH10 db=>?_⟩;have kn:=kn.aB 0 rfl db;refine Zh ?_;refine⟨Qs,?_⟩;show ∃m,_;exact⟨ps.length-(i+1),ZB,i+1,ver+1,rfl,ZB,kn,rfl,rfl,rfl,rfl,rfl,rfl,rfl,rfl,rfl,rfl,rfl,rfl,rfl,rfl,rfl⟩
      ·intro bA;have bh:ps.length<=i:=ZT;have eW:(ps.zip p.args).take i=zpA q b p:=by
        rw[Jd (by rw[List.length_zip];omega),zpA,ft]
       rw[eW]at kn;refine Zb ?_;have bu:b<ss.length:=ZB;obtain⟨s,hs⟩:∃s,ss[b]=s:=⟨_,rfl⟩;have aK:s.ok:=(by rw[<-hs];exact hS.ok _ (Jc bu));have vw:=hS.f b bu;rw[hs]at vw;simp only[if_true]at vw;have iq:=Gr.ai aK;have js:s.ms.length=k:=(by have:=congrArg List.length vw;simp only[Jb,Jy]at this;omega);have jt:(ss.map PSl.row).getD b []=[s.c]:=(by simp[Ja,bu,hs,PSl.row]);have cA:(ss.map PSl.row).length=q.blocks.length:=(by rw[Jb,eK]);have lW:(ss.map PSl.row).take q.blocks.length=ss.map PSl.row:=Jd ZB;have lU:=Tl bu hs;have kn:Kn H H9 [] (([(o,.vec 1 (ss.map PSl.row)),(M,.map ver (mI (zpA q b p))),(x8,.st p.cells),(x5,.st y.cells)]++(psL (ss.eraseIdx b)++s.ms.flatMap PMap.lg))++s.g):=kn.perm (Qj λf hf h0 hc hp=>by
        have e4:∀(a b c d:Nat×Obj),f [a,b,c,d]=f [a]+f [b]+f [c]+f [d]:=λa b c d=>ZN;have:=hp _ _ lU;rw[PSl.lg]at this;simp only[Ui,hf,e4]at this⊢;omega)
       have bg:=kn.l 0 rfl;refine Qp ?_;simp only[go_sem,bg,cA,lW,af,jt,iq,Jk,Ji];refine kn.bk (new:=[[.mp M]]) aK (.mk' _ _ _ _) (by intro r hr;simp only[Jf]at hr;rw[hr];rfl) (by simp only[Eu,LIM,Jo,Jj];omega) λt2 g2 H10 cZ dy kn=>?_;have bg:=kn.l 0 rfl;simp only[go_sem,Qx9,bg,cA,af,jt,Jk,Ji];intro H11 ev;obtain⟨s',fi⟩:∃s':PSl,s'=⟨s.ms++[⟨M,ver,zpA q b p⟩],t2,g2⟩:=⟨_,rfl⟩;have hs'ok:s'.ok:=by
        rw[fi];show Gr g2 1 (Cw (s.ms++[⟨M,ver,zpA q b p⟩])) t2;have e:Cw (s.ms++[⟨M,ver,zpA q b p⟩])=Cw s.ms++[[.mp M]]:=(by simp[Cw]);rw[e];exact cZ
       have bW:(ss.map PSl.row).set b [t2]=(ss.set b s').map PSl.row:=(by rw[Jac,fi];rfl);rw[bW]at ev;have kn:=kn.aB 0 rfl ev;have qD:=Kx (s:=s') bu;have kn:Kn H H11 [] (([(x5,.st y.cells)]++([(o,.vec 1 ((ss.set b s').map PSl.row))]++psL (ss.set b s')))++[(x8,.st p.cells)]):=kn.perm (Qj λf hf h0 hc hp=>by
        have e4:∀(a b c d:Nat×Obj),f [a,b,c,d]=f [a]+f [b]+f [c]+f [d]:=λa b c d=>ZN;have:=hp _ _ qD;have es:s'.lg=(s.ms.flatMap PMap.lg++[(M,.map ver (mI (zpA q b p)))])++g2:=(by rw[fi,PSl.lg,Jak];simp[PMap.lg]);rw[es]at this;show f ([(o,_),(M,_),(x8,_),(x5,_)]++(psL (ss.eraseIdx b)++s.ms.flatMap PMap.lg)++g2)=_;simp only[Ui,hf,e4]at this⊢;omega)
       have kn:=kn.drop;refine Zh ?_;refine⟨Qs,?_⟩;show ∃m,_;refine⟨y.ab.length-(k+1),ZB,k+1,ss.set b s',rfl,ZB,by rw[Jn];exact eK,hS.set hs'ok λr hr=>?_,kn,rfl,rfl,rfl,rfl,rfl,rfl,rfl,rfl,rfl,rfl⟩;by_cases nk:r=b
       ·subst nk;rw[if_pos rfl,if_pos rfl,fi,Js,vw,Jg aT,Js,hp];rfl
       ·rw[if_neg nk,if_neg nk,if_neg nk]
    ·intro aD;have iL:k=y.ab.length:=(by have:y.ab.length<=k:=(by simpa using aD);omega);subst iL;rw[J8]at hS;refine Zb ?_;have kn:Kn H H5 [] (([(o,.vec 1 (ss.map PSl.row))]++psL ss)++[(x5,.st y.cells)]):=kn.perm Jm;have kn:=kn.drop;refine Zh ?_;refine⟨Qs,?_⟩;show ∃m,_;refine⟨q.blocks.length-(b+1),ZB,b+1,ss,rfl,ZB,eK,⟨λr hr=>?_,hS.ok⟩,kn,rfl,rfl,rfl,rfl,rfl⟩;rw[hS.f r hr];by_cases nk:r=b
     ·subst nk;rw[if_pos rfl,phT,if_pos ZB,gV]
     ·rw[if_neg nk,phT,phT];by_cases ey:r<b
      ·rw[if_pos ey,if_pos ZB]
      ·rw[if_neg ey,if_neg ZB]
  ·intro hc;have jz:b=q.blocks.length:=by have:q.blocks.length<=b:=ZE;omega
   subst jz;refine Wb ?_;refine Zs ?_;have kn:Kn H H1 [] ([]++([(o,.vec 1 (ss.map PSl.row))]++psL ss)):=kn;exact⟨unx H ([(o,.vec 1 (ss.map PSl.row))]++psL ss),.c (.ah o 1 0 q.blocks.length),H1.frz (unx H ([(o,.vec 1 (ss.map PSl.row))]++psL ss)),.c _ _ (.same _ rfl),Ep _ _,hK o ss _ eK hS kn.finK⟩
end Go.AE.Y
namespace Go.AE.Y
attribute [local go_sem] cond_true cond_false Bool.not_true Bool.not_false
open Go.Proofs.Tryz
variable {H H0:Heap}{K:Uk}{E L:Ul}
theorem Qbo5 {w:Int}{x7 M ver:Nat}{l:List (Int×Int)}(h7:H x7=.st [.mp M])(hM:H M=.map ver (mI l))(hK:K (Uv ((lkI w l).getD 0)) H) :
  Qr prog SP [Uv w,Up x7] H K:=by
 have kz:Dw H (.mp M)=True:=Zbb
 have kH:Cl H (.mp M)=mI l:=Zbc
 refine Qd BF Qanm ?_;refine Wf ?_;simp only[go_sem,h7,kz,kH,G8,FK];refine Zs ?_;exact hK
theorem Qb2r {f:Bool}{ps:List Int}{x7 M ver:Nat}{l:List (Int×Int)}(da:ps.length<=2 ^ 38)(h7:H x7=.st [.mp M])(hM:H M=.map ver (mI l))(bd:x7≠M)
  (hK:∀H',Upd H H' []->K (.c (.sl false 1 (Qb (ps.map λw=>(lkI w l).getD 0)))) H') :
  Qr prog Qf1 [.c (.sl f 1 (Qb ps)),.c (.fn SP [.ptr x7 0])] H K:=by
 obtain⟨av,iB⟩:∃av,(ps.map λw=>(lkI w l).getD 0)=av:=⟨_,rfl⟩;have havl:av.length=ps.length:=by rw[<-iB,Jb]
 rw[iB]at hK;refine Qy ?_;refine Qd BF Qzu ?_;have kn:=Kn.start2 h7 (by nofun) hM (by nofun) bd;refine Ws ?_;simp only[go_sem,Qc];try intro _
 refine Qh (Qe (Qw (λm e1 H1=>∃(i:Nat) (t:C) (Lg:Ul),m=ps.length-i/\i<=ps.length/\Gr Lg 1 (Qb (av.take i)) t/\Kn H H1 [(x7,.st [.mp M]),(M,.map ver (mI l))] ([]++Lg)/\
  lk 1 e1=.c (.fn SP [.ptr x7 0])/\lk 5 e1=.c t/\lk 8 e1=.c (.sl f 1 (Qb ps))/\lk 9 e1=.c (Ui ps.length)/\lk 10 e1=Uv i) ps.length ?_ ?_))
 ·exact⟨0,_,[],ZB,ZB,.nil 1,kn,rfl,rfl,rfl,rfl,rfl⟩
 ·clear kn;rintro m e1 H1 ⟨i,t,Lg,hm,hi,aq,kn,l1,l5,l8,l9,l10⟩;have fM:=aq.ai;refine Qa ?_;simp only[go_sem,l1,l5,l8,l9,l10];refine Wu ?_ ?_
  ·intro hc;have af:i<ps.length:=ZE
   obtain⟨w,hw⟩:∃w,ps[i]=w:=⟨_,rfl⟩;have bm:ps.getD i 0=w:=by simp[Ja,af,hw]
   have yP:i<av.length:=ZB
   have ni:av[i]=(lkI w l).getD 0:=by subst iB;rw[Jr,hw]
   have bF:av.take (i+1)=av.take i++[(lkI w l).getD 0]:=by rw[Jg yP,ni]
   refine Zc ?_
   refine Wi ?_;simp only[go_sem,af,Qc,Qk _ _ af,bm];refine Zh ?_;refine Qbo5 (kn.e 0 rfl) (kn.e 1 rfl) ?_;simp only[go_sem,SE];refine kn.bk (new:=Qb [(lkI w l).getD 0]) aq (.mk' _ _ _ _) (Qq _) (by simp only[Qc,Jy,LIM,Jo,Jj];omega) λt2 Lg2 H5 bO dy kn=>?_;simp only[go_sem,DM];refine Zh ?_;refine⟨Qs,?_⟩;show ∃m,_;refine⟨ps.length-(i+1),ZB,i+1,t2,Lg2,rfl,ZB,?_,kn,rfl,rfl,rfl,rfl,rfl⟩;rw[bF,D8];exact bO
  ·intro hc;have bh:ps.length<=i:=ZE
   rw[Jd ZB]at aq;refine Wb ?_;refine Zs ?_;exact⟨_,.c _ _ (aq.frz kn (Qq _)),hK _ ((kn.fin.drop2 hM).drop1 h7)⟩
def stlP (nx:Nat->List Int)(N:Nat)(g:Nat->PhiD->Int->Int)(j:Nat)(p:PhiD):PhiD:=⟨p.to,(Qz nx (j:Int) N).map (g j p)⟩
def stlY (nx:Nat->List Int)(N:Nat)(g:Nat->PhiD->Int->Int)(j:Nat)(y:BlkD):BlkD:=⟨y.ab.map (stlP nx N g j),y.ins,y.jump,y.on,y.next⟩
variable {nx:Nat->List Int}{N:Nat}{g:Nat->PhiD->Int->Int}{Y:Nat->BlkD}
structure StS (nx:Nat->List Int)(N:Nat)(g:Nat->PhiD->Int->Int)(Y:Nat->BlkD)(b:Nat)(ks:List KBlk):Prop where
 n:ks.length=N
 y:∀j (h:j<ks.length),ks[j].y=if j<b then stlY nx N g j (Y j)else Y j
 ok:∀k∈ks,k.ok
theorem StS.step {b:Nat}{ks:List KBlk}(hS:StS nx N g Y b ks)(hb:b<ks.length){ph:List PhiD}{pl:Ul}(h2:ph=(Y b).ab.map (stlP nx N g b))(hg:Gr pl 2 (Q6 ph) ks[b].pc) :
  StS nx N g Y (b+1) (ks.set b ⟨⟨ph,ks[b].y.ins,ks[b].y.jump,ks[b].y.on,ks[b].y.next⟩,ks[b].pc,pl⟩):=by
 refine⟨by rw[Jn];exact hS.n,λj h=>?_,λw hw=>?_⟩
 ·have h':j<ks.length:=ZL
  rw[J1];split
  ·rename_i e;subst e
   have:=hS.y b hb;rw[if_neg (Jby b)]at this;rw[if_pos (Nat.lt_succ_self b),this,h2];rfl
  ·rename_i e
   rw[hS.y j h'];by_cases hj:j<b
   ·rw[if_pos hj,if_pos ZB]
   ·rw[if_neg hj,if_neg ZB]
 ·rcases Jt hw with h|rfl
  ·exact hS.ok w h
  ·exact hg
structure PTel (nx:Nat->List Int)(N:Nat)(g:Nat->PhiD->Int->Int)(Y:Nat->BlkD)(ss:List PSl):Prop where
 ml:∀r (h:r<ss.length),ss[r].ms.length=(Y r).ab.length
 f:∀r (h:r<ss.length) i (h1:i<ss[r].ms.length) (h2:i<(Y r).ab.length),∀w∈Qz nx (r:Int) N,(lkI w (ss[r].ms[i]).l).getD 0=g r (Y r).ab[i] w
 ok:∀s∈ss,s.ok
theorem PTel.of {G:Nat->PhiD->List (Int×Int)}{ss:List PSl}(h:PInv (λj=>(Y j).ab.map (G j)) ss)(hg:∀j p w,g j p w=(lkI w (G j p)).getD 0):PTel nx N g Y ss:=
 ⟨λr hr=>by have:=congrArg List.length (h.f r hr);simpa using this,λr hr i h1 h2 w _=>by
  have e:(ss[r].ms.map PMap.l)[i]? = some (ss[r].ms[i]).l:=Zbk
  rw[h.f r hr]at e;simp only[Jz,Je h2,J9,Jbp]at e;rw[<-e,hg],h.ok⟩
theorem VQ {x zb o:Nat}{P G:Int}{ks0:List KBlk}{ss:List PSl}{R:Ul}(hN:N<=100000)(hk:StS nx N g Y 0 ks0)(fj:∀j,j<N->(Y j).next=nx j)(da:∀j,j<N->(Y j).ab.length<=100000)
  (eK:ss.length=N) (hs:PTel nx N g Y ss)
  (kn:Kn H0 H E ([(x,.st [Ui P,Ui G,.ah zb 5 0 N]),(zb,.vec 5 (ks0.map KBlk.row)),(o,.vec 1 (ss.map PSl.row))]++(ks0.flatMap KBlk.pl++(psL ss++R))))
  (hK:∀ks H',StS nx N g Y N ks->ks.map KBlk.row=ks0.map KBlk.row->Kn H0 H' E ([(x,.st [Ui P,Ui G,.ah zb 5 0 N]),(zb,.vec 5 (ks0.map KBlk.row)),(o,.vec 1 (ss.map PSl.row))]++(ks.flatMap KBlk.pl++(psL ss++R)))->K (.tup []) H') :
  Qr prog Q7p [Up x,.c (.ah o 1 0 N)] H K:=by
 obtain⟨X0,sB⟩:∃X0,X0=Obj.st [Ui P,Ui G,.ah zb 5 0 N]:=⟨_,rfl⟩;obtain⟨RW,jm⟩:∃RW,ks0.map KBlk.row=RW:=⟨_,rfl⟩;obtain⟨SW,vV⟩:∃SW,ss.map PSl.row=SW:=⟨_,rfl⟩;have bn:RW.length=N:=by rw[<-jm,Jb,hk.n]
 have bz:RW.take N=RW:=Jd ZB;have zU:SW.length=N:=by rw[<-vV,Jb,eK]
 have zT:SW.take N=SW:=Jd ZB;rw[jm,vV,<-sB]at kn;rw[jm,vV,<-sB]at hK;have uY:∀r∈RW,Go.AE.ak r=true:=λr hr=>by
  rw[<-jm]at hr;obtain⟨k,fy,rfl⟩:=Jl.1 hr;exact KBlk.ak (hk.ok k fy)
 have zX:∀j,j<RW.length->∃a1 a2 a3 a4 fl,RW.getD j []=[a1,a2,a3,a4,.sl fl 1 (Qb (nx j))]:=λj hj=>by
  have b6:j<ks0.length:=by rw[hk.n];omega
  have hy:=hk.y j b6;rw[if_neg (Nat.not_lt_zero j)]at hy;refine⟨ks0[j].pc,.sl false 4 (BJ ks0[j].y.ins),Ui ks0[j].y.jump,Ui ks0[j].y.on,false,?_⟩;rw[<-jm,Ja];simp only[Jz,Je b6,J9,Jam];rw[<-fj j ZB,<-hy];exact KBlk.row_eq _
 refine Qd BF Qbbp ?_;have hx:=kn.l 0 rfl;rw[sB]at hx;have ca:=kn.l 1 rfl;refine Qa ?_;simp only[go_sem,hx,ca,bn,Jk,Ji];try intro _
 refine Qe (Qw (λm e1 H1=>∃(b:Nat) (ks:List KBlk),m=N-b/\b<=N/\StS nx N g Y b ks/\ks.map KBlk.row=RW/\
  Kn H0 H1 E ([(x,X0),(zb,.vec 5 RW),(o,.vec 1 SW)]++(ks.flatMap KBlk.pl++(psL ss++R)))/\
  lk 0 e1=Up x/\lk 1 e1=.c (.ah o 1 0 N)/\lk 12 e1=Uv N/\lk 13 e1=Uv b) N ?_ ?_)
 ·exact⟨0,ks0,ZB,ZB,hk,jm,kn,rfl,rfl,rfl,rfl⟩
 ·clear kn hx ca;rintro m e1 H1 ⟨b,ks,hm,hb,hS,ue,kn,l0,l1,l12,l13⟩;refine Qa ?_;simp only[go_sem,l0,l1,l12,l13];refine Wu ?_ ?_
  ·intro hc;have af:b<N:=ZE
   have fx:b<ks.length:=by rw[hS.n];exact af
   obtain⟨kb,kC⟩:∃kb,ks[b]=kb:=⟨_,rfl⟩;have i6:Gr kb.pl 2 (Q6 kb.y.ab) kb.pc:=by rw[<-kC];exact hS.ok _ (Jc fx)
   have uj:kb.y=Y b:=by have:=hS.y b fx;rw[if_neg (Jby b),kC]at this;exact this
   have fS:b<ss.length:=ZB
   obtain⟨s,rZ⟩:∃s,ss[b]=s:=⟨_,rfl⟩;have js:s∈ss:=by rw[<-rZ];exact Jc fS
   have aK:=hs.ok s js;have hsml:s.ms.length=(Y b).ab.length:=by have:=hs.ml b fS;rw[rZ]at this;exact this
   have tz:∀i (h1:i<s.ms.length) (h2:i<(Y b).ab.length),∀w∈Qz nx (b:Int) N,(lkI w (s.ms[i]).l).getD 0=g b (Y b).ab[i] w:=by
    have:=hs.f b fS;rw[rZ]at this;exact this
   have bj:RW.getD b []=[kb.pc,.sl false 4 (BJ kb.y.ins),Ui kb.y.jump,Ui kb.y.on,.sl false 1 (Qb kb.y.next)]:=by
    rw[<-ue,Ja];simp only[Jz,Je fx,kC,J9,Jam];exact kb.row_eq
   have zV:SW.getD b []=[s.c]:=by
    rw[<-vV,Ja];simp only[Jz,Je fS,rZ,J9,Jam];rfl
   have iq:=Gr.ai aK;obtain⟨KR,B6⟩:∃KR,(ks.eraseIdx b).flatMap KBlk.pl=KR:=⟨_,rfl⟩;have fZ:(ks.flatMap KBlk.pl).Perm (kb.pl++KR):=by rw[<-B6,<-kC];exact DK fx
   refine Zc ?_
   refine Wg ?_;have hx:=kn.l 0 rfl;rw[sB]at hx;have ca:=kn.l 1 rfl;refine Zj hx ?_;refine Ts (nx:=nx) ⟨vslc ca bn.symm,rfl,uY,zX⟩ λfl2 H2 hu=>?_;have kn:=kn.aw hu;have tK:DP nx (b:Int) RW.length=Qz nx (b:Int) N:=by rw[bn,DP,if_pos ZaK]
   rw[tK];obtain⟨ps,ft⟩:∃ps,Qz nx (b:Int) N=ps:=⟨_,rfl⟩;have tE:ps.length<=N:=by rw[<-ft];exact Es _ _ _
   rw[ft];simp only[go_sem,SX];have ho:=kn.l 2 rfl;have p9:∀p∈s.g,p∈psL ss:=λp hp=>J2.2 ⟨s,js,Jh _ hp⟩;have nM:aZ H2 s.c=True/\ay s.c=s.ms.length:=by
    refine⟨eq_true ?_,by have:=Gr.ay aK;rw[Eu]at this;exact this⟩;rcases aK with ⟨h1,_,_⟩|⟨z,h1,h2⟩
    ·rw[h1];trivial
    ·have hz:=(kn.get (z,.vec 1 (Cw s.ms)) (Jh _ (Jh _ (Jh _ (Jp _ (p9 _ Zab)))))).1;rw[h1];simp only[aZ,hz,Jk,Ji,and_self]
   refine Qa ?_;simp only[go_sem,ho,zU,zT,zV,af,iq,nM.1,nM.2,Jk,Ji];try intro _
   have kn:Kn H0 H2 E (([(x,X0),(zb,.vec 5 RW),(o,.vec 1 SW)]++(KR++(psL ss++R)))++kb.pl):=kn.perm (Qj λf hf h0 hc hp=>by
    have:=hp _ _ fZ;simp only[Ui,hf]at this⊢;omega)
   refine Qe (Qw (λm e1 H1=>∃(i:Nat) (ph:List PhiD) (pl:Ul),m=s.ms.length-i/\i<=s.ms.length/\ph=mix (stlP nx N g b) (Y b).ab i/\Gr pl 2 (Q6 ph) kb.pc/\
    Kn H0 H1 E (([(x,X0),(zb,.vec 5 RW),(o,.vec 1 SW)]++(KR++(psL ss++R)))++pl)/\
    lk 0 e1=Up x/\lk 1 e1=.c (.ah o 1 0 N)/\lk 4 e1=Uv b/\lk 5 e1=.c (.sl fl2 1 (Qb ps))/\lk 12 e1=Uv N/\lk 13 e1=Uv b/\lk 24 e1=.c s.c/\lk 25 e1=.c (Ui s.ms.length)/\lk 26 e1=Uv i) s.ms.length ?_ ?_)
   ·exact⟨0,kb.y.ab,kb.pl,ZB,ZB,by rw[HG,uj],i6,kn,rfl,rfl,rfl,rfl,rfl,rfl,rfl,rfl,rfl⟩
   ·clear kn hx ca ho nM l0 l1 l12 l13 fZ;rintro m2 e2 H3 ⟨i,ph,pl,fw,hi,gH,aq,kn,l0,l1,l4,l5,l12,l13,l24,l25,l26⟩;have ku:ph.length=(Y b).ab.length:=(by rw[gH,Fb]);refine Qa ?_;simp only[go_sem,l0,l1,l4,l5,l12,l13,l24,l25,l26];refine Wu ?_ ?_
    ·intro aD;have aT:i<s.ms.length:=ZH;have yQ:i<(Y b).ab.length:=ZB;have hYl:=da b af;have yK:i<ph.length:=ZB;obtain⟨zs,gU,jt⟩:∃z,s.c=.ah z 1 0 s.ms.length/\s.g=[(z,.vec 1 (Cw s.ms))]:=by
      rcases aK with ⟨_,h,_⟩|⟨z,h1,h2⟩
      ·have:=congrArg List.length h;rw[Eu]at this;simp only[Jj]at this;omega
      ·exact⟨z,by rw[h1,Eu],h2⟩
     obtain⟨zp,ju,xD⟩:∃z,kb.pc=.ah z 2 0 ph.length/\pl=[(z,.vec 2 (Q6 ph))]:=by
      rcases aq with ⟨_,h,_⟩|⟨y,h1,h2⟩
      ·have:=congrArg List.length h;rw[Q0]at this;simp only[Jj]at this;omega
      ·exact⟨y,by rw[h1,Q0],h2⟩
     rw[ju]at bj;rw[xD]at kn;obtain⟨pm,eR⟩:∃pm,s.ms[i]=pm:=⟨_,rfl⟩;obtain⟨p,hp⟩:∃p,(Y b).ab[i]=p:=⟨_,rfl⟩;obtain⟨gl,dM⟩:∃gl,pm.l=gl:=⟨_,rfl⟩;have qE:ps.map (λw=>(lkI w gl).getD 0)=ps.map (g b p):=Jau λw hw=>by
      have:=tz i aT yQ w (by rw[ft];exact hw);rw[eR,dM,hp]at this;exact this
     have xF:ph[i]=p:=(by rw[<-hp];subst gH;exact GL yQ yK);have qQ:(Cw s.ms).getD i []=[.mp pm.m]:=(by rw[Np _ _ aT,eR]);have qP:(Cw s.ms).take s.ms.length=Cw s.ms:=Jd (by rw[Eu];omega);have pL:(zs,Obj.vec 1 (Cw s.ms))∈psL ss:=p9 _ (by rw[jt];simp);have B0:(pm.m,Obj.map pm.ver (mI gl))∈psL ss:=J2.2 ⟨s,js,Jp _ (J2.2 ⟨pm,by rw[<-eR];exact Jc aT,by rw[PMap.lg,dM];simp⟩)⟩;have wg:=(kn.get (zs,.vec 1 (Cw s.ms)) (by simp[pL])).1;have Ac:=(kn.get (pm.m,.map pm.ver (mI gl)) (by simp[B0])).1;refine Zc ?_
     refine Wi ?_;simp only[go_sem,gU,wg,Eu,qP,aT,qQ,Jk,Ji];intro x7 cd H4 h4;have bd:x7≠pm.m:=λe=>(by rw[e,Ac]at cd;simp at cd);have kn:Kn H0 H4 E ([(x7,.st [.mnil])]++(([(x,X0),(zb,.vec 5 RW),(o,.vec 1 SW)]++(KR++(psL ss++R)))++[(zp,.vec 2 (Q6 ph))])):=(kn.al cd h4).perm Jm;have cd:=kn.l 0 rfl;simp only[go_sem,Qyl,cd];intro H5 h5;have kn:Kn H0 H5 E ([(x7,.st [.mp pm.m])]++(([(x,X0),(zb,.vec 5 RW),(o,.vec 1 SW)]++(KR++(psL ss++R)))++[(zp,.vec 2 (Q6 ph))])):=kn.aB 0 rfl h5;have cd:=kn.l 0 rfl;have hx:=kn.l 1 rfl;rw[sB]at hx;have ca:=kn.l 2 rfl;have Ac:=(kn.get (pm.m,.map pm.ver (mI gl)) (by simp[B0])).1;have Ap:=(kn.get (zp,.vec 2 (Q6 ph)) ZD).1;have qB:(Q6 ph).take ph.length=Q6 ph:=Jd (by rw[Q0];omega);have md:(Q6 ph).getD i []=[Ui p.to,.sl false 1 (Qb p.args)]:=(by rw[Dh _ _ yK,xF];rfl);refine BY ?_;simp only[go_sem,hx,ca,bn,bz,bj,af,Jk,Ji];refine Qb2r ZB cd Ac bd λH6 hu=>?_;have kn:=kn.aw hu;have hx:=kn.l 1 rfl;rw[sB]at hx;have ca:=kn.l 2 rfl;have Ap:=(kn.get (zp,.vec 2 (Q6 ph)) ZD).1;simp only[go_sem,Qym,hx,ca,bn,bz,bj,af,Ap,Q0,yK,md,Jk,Ji];intro H7 h7;have aC:(Q6 ph).set i [Ui p.to,.sl false 1 (Qb (ps.map λw=>(lkI w gl).getD 0))]=Q6 (mix (stlP nx N g b) (Y b).ab (i+1)):=by
      rw[qE,<-Hh yQ,hp,stlP,ft,<-gH,Q6,Q6,Jac];rfl
     rw[aC]at h7;have kn:Kn H0 H7 E ((([(x,X0),(zb,.vec 5 RW),(o,.vec 1 SW)]++(KR++(psL ss++R)))++[(zp,.vec 2 (Q6 (mix (stlP nx N g b) (Y b).ab (i+1))))])++[(x7,.st [.mp pm.m])]):=
      ((kn.perm (L':=[(zp,.vec 2 (Q6 ph))]++([(x7,.st [.mp pm.m])]++([(x,X0),(zb,.vec 5 RW),(o,.vec 1 SW)]++(KR++(psL ss++R))))) (Qj λf hf h0 hc hp=>by simp only[Ui,hf];omega)).aB 0 rfl h7).perm (Qj λf hf h0 hc hp=>by
       show f ([(zp,_)]++([(x7,_)]++([(x,X0),(zb,.vec 5 RW),(o,.vec 1 SW)]++(KR++(psL ss++R)))))=_;simp only[Ui,hf];omega)
     have kn:=kn.drop;refine Zh ?_;refine⟨Qs,?_⟩;show ∃m,_;refine⟨s.ms.length-(i+1),ZB,i+1,_,_,rfl,ZB,rfl,?_,kn,rfl,rfl,rfl,rfl,rfl,rfl,by first|rfl|exact congrArg V.c gU.symm,rfl,rfl⟩;rw[ju];exact .mk _ _ _ (by rw[Q0,Fb,ku])
    ·intro aD;have jx:s.ms.length<=i:=ZH;rw[Hi _ _ ZB]at gH;refine Zb ?_;have nf:ks[b].y=Y b:=(by rw[kC,uj]);obtain⟨ks2,y5⟩:∃ks2,ks2=ks.set b ⟨⟨ph,ks[b].y.ins,ks[b].y.jump,ks[b].y.on,ks[b].y.next⟩,ks[b].pc,pl⟩:=⟨_,rfl⟩;have aN:=hS.step fx gH (pl:=pl) (by rw[kC];exact aq);have ew:=PkS.rows (ks:=ks) (ph:=ph) (pl:=pl) fx;have h1:((ks.set b ⟨⟨ph,ks[b].y.ins,ks[b].y.jump,ks[b].y.on,ks[b].y.next⟩,ks[b].pc,pl⟩).flatMap KBlk.pl).Perm (pl++KR):=by
      have:=DK (f:=KBlk.pl) (l:=ks.set b ⟨⟨ph,ks[b].y.ins,ks[b].y.jump,ks[b].y.on,ks[b].y.next⟩,ks[b].pc,pl⟩) (i:=b) (by rw[Jn];exact fx);rw[Jap,Jag,B6]at this;exact this
     rw[<-y5]at aN ew h1;have kn:Kn H0 H3 E ([(x,X0),(zb,.vec 5 RW),(o,.vec 1 SW)]++(ks2.flatMap KBlk.pl++(psL ss++R))):=kn.perm (Qj λf hf h0 hc hp=>by
      have:=hp _ _ h1;simp only[Ui,hf]at this⊢;omega)
     refine Zh ?_;refine⟨Qs,?_⟩;show ∃m,_;exact⟨N-(b+1),ZB,b+1,ks2,rfl,ZB,aN,ew.trans ue,kn,rfl,rfl,rfl,rfl⟩
  ·intro hc;have jz:b=N:=by have:N<=b:=ZE;omega
   subst jz;refine Qu ?_;simp only[go_sem,X.next,Q4,BE,Cp,List.not_mem_nil];exact⟨λ_=>trivial,hK ks _ hS ue kn⟩
end Go.AE.Y
namespace Go.AE.Y
attribute [local go_sem] cond_true cond_false Bool.not_true Bool.not_false
open Go.Proofs.Tryz
variable {H H0 F:Heap}{K:Uk}{E L B pl:Ul}
theorem Q1e {y:BlkD}(hy:y.cl)(hK:∀pc N nc nl H',Gr N 2 (Q6 y.ab) pc->Gr nl 1 (Qb y.next) nc->Kn H H' [] (N++nl)->K (.ag [pc,.sl false 4 (BJ y.ins),Ui y.jump,Ui y.on,nc]) H'):Qr prog Mp [.ag y.cells] H K:=by
 refine DS ?_;refine Qd BF Qabk ?_;refine Qa ?_;simp only[go_sem,BlkD.cells];intro x1 bU H0 h0;have kn:=(Kn.an H).al bU h0;intro x2 aI H1 h1;have kn:=kn.al aI h1;have bU:=kn.l 0 rfl;refine Zj bU ?_;refine Yc hy.p hy.pa kn λpc N H2 jy kn=>?_;have fq:=jy.ai;have bU:=kn.l 0 rfl;simp only[go_sem,Qhs,bU];intro H3 h3;have kn:=kn.aB 0 rfl h3;have bU:=kn.l 0 rfl;refine Zj bU ?_;refine Yd hy.i hy.ia λH4 hu=>?_;have kn:=kn.aw hu;have bU:=kn.l 0 rfl;simp only[go_sem,Qht,bU];intro H5 h5;have kn:=kn.aB 0 rfl h5;have bU:=kn.l 0 rfl;refine Zj bU ?_;refine IC kn hy.n λt Lg H6 aq bt kn=>?_;have bU:=kn.l 0 rfl;simp only[go_sem,Qhu,bU];intro H7 h7;have kn:=kn.aB 0 rfl h7;have bU:=kn.l 0 rfl;have aI:=kn.l 1 rfl;refine Qa ?_;simp only[go_sem,bU,aI,fq,bt];intro H8 h8;have kn:Kn H H8 [] ([(x1,.st [pc,.sl false 4 (BJ y.ins),Ui y.jump,Ui y.on,t]),(x2,.st [pc,.sl false 4 (BJ y.ins),Ui y.jump,Ui y.on,t])]++(N++Lg)):=
  (kn.aB 1 rfl h8).perm (Qj λf hf h0 hc hp=>by
   have e1:=hc (x1,.st [pc,.sl false 4 (BJ y.ins),Ui y.jump,Ui y.on,t]) ([(x2,.st [pc,.sl false 4 (BJ y.ins),Ui y.jump,Ui y.on,t])]++N++Lg);have e2:=hc (x1,.st [pc,.sl false 4 (BJ y.ins),Ui y.jump,Ui y.on,t]) [(x2,.st [pc,.sl false 4 (BJ y.ins),Ui y.jump,Ui y.on,t])];show f ((x1,_)::([(x2,_)]++N++Lg))=_;rw[e1];simp only[Ui,hf,e2];omega)
 have aI:=kn.l 1 rfl;refine Ql ?_;simp only[go_sem,Q4,BE,Jf,forall_eq,RS.op,fq,bt,aI];exact⟨unx H (N++Lg),.ag [pc,.sl false 4 (BJ y.ins),Ui y.jump,Ui y.on,t],H8.frz (unx H (N++Lg)),FrzL.ag (.cons (.same _ fq) (.cons (Qg rfl) (.cons (Qg rfl) (.cons (Qg rfl) (.cons (.same _ bt) .nil))))),Ep _ _,hK pc N t Lg _ jy aq kn.finK⟩
structure NBlk where
 y:BlkD
 pc:C
 pl:Ul
 nc:C
 nl:Ul
def NBlk.row (b:NBlk):List C:=[b.pc,.sl false 4 (BJ b.y.ins),.int .i64 b.y.jump,.int .i64 b.y.on,b.nc]
def NBlk.ok (b:NBlk):Prop:=Gr b.pl 2 (Q6 b.y.ab) b.pc/\Gr b.nl 1 (Qb b.y.next) b.nc
def NBlk.lg (b:NBlk):List (Nat×Obj):=b.pl++b.nl
theorem NBlk.ak {b:NBlk}(h:b.ok):Go.AE.ak b.row=true:=by
 have h1:=h.1.ai;have h2:=h.2.ai;simp only[Go.AE.ak,NBlk.row,Ja9,Jbd,h1,h2];rfl
theorem Qbr9 {l:List BlkD}{fl:Bool}(hl:l.length<=2 ^ 38)(ha:∀y∈l,y.cl)(kn:Kn H0 H E L)
  (hK:∀(ks:List NBlk) t Lg H',ks.map NBlk.y=l->(∀b∈ks,b.ok)->Gr Lg 5 (ks.map NBlk.row) t->Kn H0 H' E ((L++ks.flatMap NBlk.lg)++Lg)->K (.c t) H') :
  Qr prog Y7 [.c (.sl fl 5 (Qo l)),.c (.fn Mp [])] H K:=by
 refine Qd BF Qma ?_;refine Ws ?_;simp only[go_sem,Qn];intro _;refine Qh (Qe (Qw (λm e1 H1=>∃(ks:List NBlk) (t:C) (Lg:Ul),m=l.length-ks.length/\ks.length<=l.length/\ks.map NBlk.y=l.take ks.length/\(∀b∈ks,b.ok)/\Gr Lg 5 (ks.map NBlk.row) t/\Kn H0 H1 E ((L++ks.flatMap NBlk.lg)++Lg)/\
  e1=[(1,.c (.fn Mp [])),(5,.c t),(8,.c (.sl fl 5 (Qo l))),(9,.c (Ui l.length)),(10,.c (Ui ks.length))]) l.length ?_ ?_))
 ·exact⟨[],_,[],ZD,ZD,ZD,ZD,.nil 5,ZM,rfl⟩
 ·clear kn;rintro m e1 H1 ⟨ks,t,Lg,hm,hi,cW,dq,aq,kn,rfl⟩;have fM:=aq.ai;refine Za ?_;refine Wu ?_ ?_
  ·intro hc;have af:ks.length<l.length:=ZE
   obtain⟨y,hy⟩:∃y,l[ks.length]=y:=⟨_,rfl⟩;have hym:y∈l:=by rw[<-hy];exact Jc af
   have bF:l.take (ks.length+1)=l.take ks.length++[y]:=by rw[Jg af,hy]
   refine Zc ?_
   refine Wi ?_;simp only[go_sem,af,Qn,Cy _ _ af,BlkD.cells,hy];intro x7 cd H2 h2;have kn:=kn.al cd h2;have cd:H2 x7=.st [.sl true 2 [],.sl true 4 [],Ui 0,Ui 0,.sl true 1 []]:=(kn.get (x7,.st [.sl true 2 [],.sl true 4 [],Ui 0,Ui 0,.sl true 1 []]) ZD).1;simp only[go_sem,Qcm,cd];intro H3 h3;have kn:Kn H0 H3 E (((L++ks.flatMap NBlk.lg)++Lg)++[(x7,blkC y)]):=by
    have:=kn.aB ((L++ks.flatMap NBlk.lg)++Lg).length (x:=x7) (o:=.st [.sl true 2 [],.sl true 4 [],Ui 0,Ui 0,.sl true 1 []]) ZD h3;simpa[blkC]using this
   have cd:H3 x7=.st [.sl false 2 (Q6 y.ab),.sl false 4 (BJ y.ins),Ui y.jump,Ui y.on,.sl false 1 (Qb y.next)]:=(kn.get (x7,blkC y) ZD).1;have kn:=kn.drop;refine Qp ?_;simp only[go_sem,cd,Jae,Jav];refine Q1e (y:=y) (ha y hym) λpc N nc nl H4 jy ll k2=>?_;have kn:Kn H0 H4 E ((L++(ks++[(⟨y,pc,N,nc,nl⟩:NBlk)]).flatMap NBlk.lg)++Lg):=(kn.comp0 k2).perm (Qj λf hf h0 hc hp=>by
    simp only[Ui,hf,Jak,Jai,Jbb,Jae,NBlk.lg];omega)
   have fq:=jy.ai;have lc:=ll.ai;simp only[go_sem,Qco];refine kn.bk (new:=[NBlk.row ⟨y,pc,N,nc,nl⟩]) aq (.mk' _ _ _ _) (by intro r hr;simp only[Jf]at hr;subst hr;exact NBlk.ak ⟨jy,ll⟩) Zap λt2 Lg2 H5 bO dy kn=>?_;simp only[go_sem,DM];refine Zg ?_;refine⟨Qs,l.length-(ks.length+1),ZB,ks++[⟨y,pc,N,nc,nl⟩],t2,Lg2,ZD,by simp;omega,?_,λb hb=>?_,?_,kn,?_⟩
   ·rw[J6,List.length_singleton,bF,Js,cW];rfl
   ·rcases Jv.1 hb with hb|hb
    ·exact dq b hb
    ·simp only[Jf]at hb;subst hb;exact⟨jy,ll⟩
   ·rw[Js];exact bO
   ·simp
  ·intro hc;have bh:ks.length=l.length:=by have:l.length<=ks.length:=ZE;omega
   rw[bh,J8]at cW;refine Wb ?_;refine Zs ?_;exact hK ks t Lg H1 cW dq aq kn
theorem Qa0x {q:CodeD}{fl:Bool}(hb:q.blocks.length<=2 ^ 38)(ha:∀y∈q.blocks,y.cl)
  (hK:∀(ks:List NBlk) bc bl H',ks.map NBlk.y=q.blocks->(∀b∈ks,b.ok)->Gr bl 5 (ks.map NBlk.row) bc->Kn H H' [] (ks.flatMap NBlk.lg++bl)->K (.ag [Ui q.params,Ui q.ae,bc]) H') :
  Qr prog Vv [.ag [Ui q.params,Ui q.ae,.sl fl 5 (Qo q.blocks)]] H K:=by
 refine DS ?_;refine Qd BF Qafv ?_;refine Za ?_;intro x1 bU H0 h0;have kn:=(Kn.an H).al bU h0;intro x2 aI H1 h1;have kn:=kn.al aI h1;have bU:=kn.l 0 rfl;refine Zj bU ?_;refine Qbr9 hb ha kn λks bc bl H2 cW dq aq kn=>?_;have gQ:=aq.ai;have bU:=kn.l 0 rfl;simp only[go_sem,Sx,bU];intro H3 h3;have kn:=kn.aB 0 rfl h3;have bU:=kn.l 0 rfl;have aI:=kn.l 1 rfl;refine Zq bU aI gQ ?_;intro H4 h4;have kn:Kn H H4 [] ([(x1,.st [Ui q.params,Ui q.ae,bc]),(x2,.st [Ui q.params,Ui q.ae,bc])]++(ks.flatMap NBlk.lg++bl)):=by
  have:=kn.aB 1 rfl h4;refine this.perm ?_;simp only[List.set,Jas,Ja4];exact .refl _
 have aI:=kn.l 1 rfl;refine Ql ?_;simp only[go_sem,Q4,BE,Jf,forall_eq,RS.op,gQ,aI];exact⟨unx H (ks.flatMap NBlk.lg++bl),.ag [Ui q.params,Ui q.ae,bc],H4.frz (unx H (ks.flatMap NBlk.lg++bl)),FrzL.ag (.cons (Qg rfl) (.cons (Qg rfl) (.cons (.same _ gQ) .nil))),Ep _ _,hK ks bc bl _ cW dq aq kn.finK⟩
end Go.AE.Y
namespace Go.AE.Y
structure Fr where
 k:Nat
 b:Nat
 todo:List InsD
 ae:List Int
inductive Cf where
 |go (fs:List Fr) (s c:List Int)
 |dn (e v:Int) (s c:List Int)
def Qt (cs:List CodeD)(k:Nat):CodeD:=cs.getD k ⟨0,0,[]⟩
def rg (R:List Int)(r:Int):Int:=R.getD r.toNat 0
def ar (R:List Int)(x:InsD)(i:Nat):Int:=rg R (x.args.getD i 0)
def trI (b:Prop) [Decidable b]:Int:=if b then 1 else 0
def arR (op a b:Int):Option Int:=
 if op=3 then some ((a+b) % 256)else if op=4 then some ((a-b+256) % 256)else if op=5 then some (a * b % 256)
 else if op=6 then (if b=0 then none else some (a / b))else if op=7 then (if b=0 then none else some (a % b))
 else if op=8 then some (trI (a<b))else if op=9 then some (trI (a=b))else some (trI (a=0))
def C9 (q:CodeD)(l:List Int):List Int:=l++List.replicate (q.ae.toNat-l.length) 0
def fr0 (cs:List CodeD)(k:Nat)(l:List Int):Fr:=⟨k,0,(Qx (Qt cs k) 0).ins,C9 (Qt cs k) l⟩
def wayI (q:CodeD)(b a:Nat):Nat:=(Qz (gnx q) (b:Int) q.blocks.length).idxOf (a:Int)
def C0 (R:List Int)(w:Nat)(p:PhiD):Int:=rg R (p.args.getD w 0)
def phiR (R:List Int)(w:Nat)(l:List PhiD):List Int:=l.foldl (λT p=>T.set p.to.toNat (C0 R w p)) R
def ixB (y:BlkD)(R:List Int):Nat:=if y.jump=2/\rg R y.on=0 then 1 else 0
def nxB (y:BlkD)(R:List Int):Nat:=(y.next.getD (ixB y R) 0).toNat
def rtn (v:Int):List Fr->List Int->List Int->Cf
 |[],s,c=>.dn 0 v s c
 |f::fs,s,c=>match f.todo with
  |[]=>.go (f::fs) s c
  |x::t=>.go (⟨f.k,f.b,t,f.ae.set x.to.toNat v⟩::fs) s c
def stI (cs:List CodeD)(k b:Nat)(x:InsD)(t:List InsD)(R:List Int)(fs:List Fr)(s c:List Int):Cf:=
 let w:=λv=>Cf.go (⟨k,b,t,R.set x.to.toNat v⟩::fs) s c
 if x.op=1 then w x.n
 else if x.op=11 then (if 16<=ar R x 0 then .dn 2 0 s c else w (rg c (ar R x 0)))
 else if x.op=12 then (if 16<=ar R x 0 then .dn 2 0 s c else .go (⟨k,b,t,R⟩::fs) s (c.set (ar R x 0).toNat (ar R x 1)))
 else if x.op=13 then .go (⟨k,b,t,R⟩::fs) (s++[ar R x 0]) c
 else if x.op=14 then .go (fr0 cs x.n.toNat (x.args.map (rg R))::⟨k,b,x::t,R⟩::fs) s c
 else if x.op=2 then w (ar R x 0)
 else match arR x.op (ar R x 0) (ar R x 1)with
  |none=>.dn 1 0 s c
  |some v=>w v
def frJ (cs:List CodeD)(k b:Nat)(R:List Int)(n:Nat):Fr:=
 ⟨k,n,(Qx (Qt cs k) n).ins,phiR R (wayI (Qt cs k) n b) (Qx (Qt cs k) n).ab⟩
def stJ (cs:List CodeD)(k b:Nat)(R:List Int)(fs:List Fr)(s c:List Int):Cf:=
 let y:=Qx (Qt cs k) b
 if y.jump=3 then rtn (rg R y.on) fs s c else .go (frJ cs k b R (nxB y R)::fs) s c
def step (cs:List CodeD):Cf->Cf
 |.go (⟨k,b,x::t,R⟩::fs) s c=>stI cs k b x t R fs s c
 |.go (⟨k,b,[],R⟩::fs) s c=>stJ cs k b R fs s c
 |.go [] s c=>.go [] s c
 |.dn e v s c=>.dn e v s c
def C5 (cs:List CodeD):Nat->Cf->Cf
 |0,x=>x
 |n+1,x=>C5 cs n (step cs x)
theorem Il (cs:List CodeD):∀(n m:Nat) (x:Cf),C5 cs (n+m) x=C5 cs m (C5 cs n x)
 |0,m,x=>by rw[Jk];rfl
 |n+1,m,x=>by rw[Nat.add_right_comm];exact Il cs n m (step cs x)
theorem KJ (cs:List CodeD)(e v:Int)(s c:List Int):∀n,C5 cs n (.dn e v s c)=.dn e v s c
 |0=>rfl
 |n+1=>KJ cs e v s c n
theorem RV (cs:List CodeD){n m:Nat}{x:Cf}{e v:Int}{s c:List Int}(h:C5 cs n x=.dn e v s c)(hm:n<=m):C5 cs m x=.dn e v s c:=by
 obtain⟨d,rfl⟩:=Nat.exists_eq_add_of_le hm;rw[Il,h,KJ]
def ES:List Int:=List.replicate 16 0
def cf0 (cs:List CodeD)(l:List Int):Cf:=.go [fr0 cs (cs.length-1) l] [] ES
def outR (cs:List CodeD)(l:List Int)(S:Nat):Int×Int×List Int×List Int:=match C5 cs S (cf0 cs l)with
 |.dn e v s c=>(e,v,s,c)
 |.go _ s c=>(3,0,s,c)
def Ek (cs cs':List CodeD)(l:List Int)(S:Nat):Prop:=(outR cs l S).1=3\/outR cs l S=outR cs' l 60000
theorem sim {cs cs':List CodeD}{R:Cf->Cf->Prop}{B:Nat}(hs:∀x x',R x x'->∃m,m<=B/\R (step cs x) (C5 cs' m x'))
  : ∀(n:Nat) {x x':Cf},R x x'->∃m,m<=n * B/\R (C5 cs n x) (C5 cs' m x')
 |0,x,x',h=>⟨0,ZB,h⟩
 |n+1,x,x',h=>by
  obtain⟨m,h1,h2⟩:=hs x x' h;obtain⟨m2,h3,h4⟩:=sim hs n h2;refine⟨m+m2,by rw[Nat.add_mul];omega,?_⟩;rw[Il cs' m m2];exact h4
theorem Qb3j {cs cs':List CodeD}{R:Cf->Cf->Prop}{B S:Nat}{l:List Int}(hs:∀x x',R x x'->∃m,m<=B/\R (step cs x) (C5 cs' m x'))
  (hd:∀e v s c x',R (.dn e v s c) x'->x'=.dn e v s c) (hB:S * B<=60000) (h0:R (cf0 cs l) (cf0 cs' l)):Ek cs cs' l S:=by
 obtain⟨m,h1,h2⟩:=sim hs S h0;rw[Ek]
 cases hx:C5 cs S (cf0 cs l)with
 |go fs s c=>exact .inl (by rw[outR,hx])
 |dn e v s c=>
  right;rw[hx]at h2;have:=RV cs' (hd _ _ _ _ _ h2) (Jbq h1 hB);rw[outR,outR,hx,this]
structure Fr.ok (cs:List CodeD)(f:Fr):Prop where
 k:f.k<cs.length
 b:f.b<(Qt cs f.k).blocks.length
 t:∃p,(Qx (Qt cs f.k) f.b).ins=p++f.todo
 r:f.ae.length=(Qt cs f.k).ae.toNat
theorem CS {cs:List CodeD}{k:Nat}(h:k<cs.length):Qt cs k=cs[k]:=by simp[Qt,Ja,h]
theorem KT {v:PhiD->Int}:∀(l:List PhiD) (T:List Int),(l.foldl (λT p=>T.set p.to.toNat (v p)) T).length=T.length
 |[],T=>rfl
 |p::l,T=>by rw[Jbe,KT l,Jn]
theorem Yz {R:List Int}{w w':Nat}{g:PhiD->PhiD}:∀{l:List PhiD},(∀p∈l,(g p).to=p.to/\C0 R w' (g p)=C0 R w p)->phiR R w' (l.map g)=phiR R w l:=by
 intro l h;rw[phiR,phiR,List.foldl_map];have:∀(l:List PhiD) (T:List Int),(∀p∈l,(g p).to=p.to/\C0 R w' (g p)=C0 R w p)->l.foldl (λT p=>T.set (g p).to.toNat (C0 R w' (g p))) T=l.foldl (λT p=>T.set p.to.toNat (C0 R w p)) T:=by
  intro l
  induction l with
  |nil=>intro T _;rfl
  |cons p l ih=>
   intro T h;obtain⟨h1,h2⟩:=h p ZD;rw[Jbe,Jbe,h1,h2];exact ih _ λp hp=>h p ZaH
 exact this l R h
inductive RelF (RF:Fr->Fr->Prop):List Fr->List Fr->Prop where
 |nil:RelF RF [] []
 |cons {f f':Fr} {fs fs':List Fr}:RF f f'/\f.todo≠[]->RelF RF fs fs'->RelF RF (f::fs) (f'::fs')
inductive RelC (RF:Fr->Fr->Prop):Cf->Cf->Prop where
 |dn (e v:Int) (s c:List Int):RelC RF (.dn e v s c) (.dn e v s c)
 |go {f f':Fr} {fs fs':List Fr} (s c:List Int):RF f f'->RelF RF fs fs'->RelC RF (.go (f::fs) s c) (.go (f'::fs') s c)
structure InsS (cs cs':List CodeD)(RF:Fr->Fr->Prop)(x x':InsD):Prop where
 op:x'.op=x.op
 to:x'.to=x.to
 args:x'.args=x.args
 n:x.op=1->x'.n=x.n
 call:x.op=14->∀l,l.length=x.args.length->RF (fr0 cs x.n.toNat l) (fr0 cs' x'.n.toNat l)
structure SimR (cs cs':List CodeD)(RF:Fr->Fr->Prop)(B:Nat):Prop where
 b:1<=B
 ins:∀k b x t R f',RF ⟨k,b,x::t,R⟩ f'->∃k' b' x' t',f'=⟨k',b',x'::t',R⟩/\InsS cs cs' RF x x'/\∀R',R'.length=R.length->RF ⟨k,b,t,R'⟩ ⟨k',b',t',R'⟩
 jump:∀k b R f' fs fs' s c,RF ⟨k,b,[],R⟩ f'->RelF RF fs fs'->∃m,m<=B/\RelC RF (stJ cs k b R fs s c) (C5 cs' m (.go (f'::fs') s c))
theorem SimR.rtnF {RF:Fr->Fr->Prop}{v:Int}{fs fs':List Fr}{s c:List Int}(hf:RelF RF fs fs')
  (h:∀k b x t R f',RF ⟨k,b,x::t,R⟩ f'->∃k' b' x' t',f'=⟨k',b',x'::t',R⟩/\x'.to=x.to/\∀R',R'.length=R.length->RF ⟨k,b,t,R'⟩ ⟨k',b',t',R'⟩):RelC RF (rtn v fs s c) (rtn v fs' s c):=by
 cases hf with
 |nil=>exact .dn ..
 |cons h1 h2=>
  rename_i f f' fs fs'
  obtain⟨h1,h3⟩:=h1;obtain⟨k,b,t,R⟩:=f
  cases t with
  |nil=>exact absurd rfl h3
  |cons x t=>
   obtain⟨k',b',x',t',rfl,hx,hr⟩:=h _ _ _ _ _ _ h1;show RelC RF (.go (⟨k,b,t,R.set x.to.toNat v⟩::fs) s c) (.go (⟨k',b',t',R.set x'.to.toNat v⟩::fs') s c);rw[hx];exact .go s c (hr _ ZD) h2
theorem SimR.one {cs cs':List CodeD}{RF:Fr->Fr->Prop}{B:Nat}(h:SimR cs cs' RF B)(x x':Cf)(hx:RelC RF x x'):∃m,m<=B/\RelC RF (step cs x) (C5 cs' m x'):=by
 cases hx with
 |dn e v s c=>exact⟨0,ZB,.dn ..⟩
 |go s c h1 h2=>
  rename_i f f' fs fs'
  obtain⟨k,b,t,R⟩:=f
  cases t with
  |nil=>exact h.jump _ _ _ _ _ _ _ _ h1 h2
  |cons x t=>
   obtain⟨k',b',x',t',rfl,hx,hr⟩:=h.ins _ _ _ _ _ _ h1;refine⟨1,h.b,?_⟩;show RelC RF (stI cs k b x t R fs s c) (stI cs' k' b' x' t' R fs' s c);have ha:∀i,ar R x' i=ar R x i:=λi=>by rw[ar,ar,hx.args]
   rw[stI,stI];simp only[ha,hx.op,hx.to,hx.args];split
   ·rename_i oF
    rw[hx.n oF];exact .go s c (hr _ ZD) h2
   ·split
    ·split
     ·exact .dn ..
     ·exact .go s c (hr _ ZD) h2
    ·split
     ·split
      ·exact .dn ..
      ·exact .go _ _ (hr _ rfl) h2
     ·split
      ·exact .go _ _ (hr _ rfl) h2
      ·split
       ·rename_i iC
        exact .go s c (hx.call iC _ ZD) (.cons ⟨h1,ZD⟩ h2)
       ·split
        ·exact .go s c (hr _ ZD) h2
        ·split
         ·exact .dn ..
         ·exact .go s c (hr _ ZD) h2
theorem SimR.same {cs cs':List CodeD}{RF:Fr->Fr->Prop}{B S:Nat}{l:List Int}(h:SimR cs cs' RF B)(hB:S * B<=60000)(h0:RF (fr0 cs (cs.length-1) l) (fr0 cs' (cs'.length-1) l)):Ek cs cs' l S:=
 Qb3j (R:=RelC RF) h.one (λe v s c x' hx=>by cases hx;rfl) hB (.go _ _ h0 .nil)
theorem Ec {cs:List CodeD}{k b:Nat}{R:List Int}{fs:List Fr}{s c:List Int}(h:¬(Qx (Qt cs k) b).jump=3):stJ cs k b R fs s c=.go (frJ cs k b R (nxB (Qx (Qt cs k) b) R)::fs) s c:=by rw[stJ];simp only[h,if_false]
theorem EH {cs:List CodeD}{k b:Nat}{R:List Int}{fs:List Fr}{s c:List Int}(h:(Qx (Qt cs k) b).jump=3):stJ cs k b R fs s c=rtn (rg R (Qx (Qt cs k) b).on) fs s c:=by rw[stJ];simp only[h,if_true]
theorem Qbsu {q:CodeD}{l:List Int}(h:l.length<=q.ae.toNat):(C9 q l).length=q.ae.toNat:=by rw[C9];simp;omega
structure RunOk (cs:List CodeD):Prop where
 n:0<cs.length
 ok:∀k (h:k<cs.length),(Qt cs k).ok
 jn:∀k b,k<cs.length->b<(Qt cs k).blocks.length->((Qx (Qt cs k) b).next.length:Int)=Cq (Qx (Qt cs k) b).jump
 call:∀k b,k<cs.length->∀x∈(Qx (Qt cs k) b).ins,x.op=14->x.n.toNat<k
 op:∀k b,k<cs.length->∀x∈(Qx (Qt cs k) b).ins,1<=x.op/\x.op<=14/\(¬x.op=14->(x.args.length:Int)=C3 x.op)
attribute [local instance] Classical.propDecidable in
theorem G6 {cs:List CodeD}(h:BP cs=true):RunOk cs:=by
 obtain⟨h1,h2,h3⟩:=of_decide_eq_true h;refine⟨ZB,λk hk=>by rw[CS hk];exact EJ h hk,λk b hk hb=>?_,λk b hk x hx iC=>?_,λk b hk x hx=>?_⟩
 ·rw[CS hk]at hb⊢;have g:=(h2 k hk).2 b hb;simp only[Cs,CT,Ju,decide_eq_true_eq]at g;rw[Cd hb];exact g.1.1.1.1
 ·rw[CS hk]at hx;by_cases hb:b<cs[k].blocks.length
  ·rw[Cd hb]at hx;have g:=(h2 k hk).2 b hb;simp only[Cs,Ju,Jaa]at g;have:=g.1.2 x hx;simp only[Cr,insL,iC,if_true,Ju,decide_eq_true_eq]at this;omega
  ·simp[Qx,Ja,Jq (Nat.le_of_not_lt hb)]at hx
 ·rw[CS hk]at hx;by_cases hb:b<cs[k].blocks.length
  ·rw[Cd hb]at hx;have g:=(h2 k hk).2 b hb;simp only[Cs,Ju,Jaa]at g;have:=g.1.2 x hx;simp only[Cr,insH,insL,Ju,decide_eq_true_eq]at this;refine⟨this.1.1.1.1,this.1.1.1.2,λiC=>?_⟩;have:=this.2;simp only[iC,if_false,Ju,decide_eq_true_eq]at this;exact this.1.1
  ·simp[Qx,Ja,Jq (Nat.le_of_not_lt hb)]at hx
theorem Mz {cs:List CodeD}(hr:RunOk cs){k b:Nat}(hk:k<cs.length)(hb:b<(Qt cs k).blocks.length)(hj:¬(Qx (Qt cs k) b).jump=3)(R:List Int):ixB (Qx (Qt cs k) b) R<(Qx (Qt cs k) b).next.length:=by
 have h1:=hr.jn k b hk hb;have h2:=((hr.ok k hk).bs b hb).jmp;rw[<-Cd hb]at h2;generalize Qx (Qt cs k) b=y at *;rw[Cq]at h1;rcases h2 with h2|h2|h2
 ·simp only[h2,if_true]at h1;rw[ixB,if_neg ZB];omega
 ·rw[h2]at h1;simp at h1;rw[ixB];split <;> omega
 ·exact absurd h2 hj
theorem FJ {cs:List CodeD}(hr:RunOk cs){k b:Nat}(hk:k<cs.length)(hb:b<(Qt cs k).blocks.length)(hj:¬(Qx (Qt cs k) b).jump=3)(R:List Int) :
  ∃v∈(Qx (Qt cs k) b).next,nxB (Qx (Qt cs k) b) R=v.toNat/\(Qx (Qt cs k) b).next[ixB (Qx (Qt cs k) b) R]? = some v:=by
 have h:=Mz hr hk hb hj R;refine⟨_,Jc h,?_,Je h⟩;rw[nxB,Ja,Je h];rfl
end Go.AE.Y
namespace Go.AE.Y
attribute [local instance] Classical.propDecidable
variable {cs:List CodeD}{q:CodeD}
def EndsR (cs cs':List CodeD)(l:List Int):Prop:=∀S e v s c,C5 cs S (cf0 cs l)=.dn e v s c->C5 cs' S (cf0 cs' l)=.dn e v s c
theorem EndsR.same {cs cs':List CodeD}{l:List Int}(h:EndsR cs cs' l){S:Nat}(hS:S<=60000):Ek cs cs' l S:=by
 rw[Ek]
 cases hx:C5 cs S (cf0 cs l)with
 |go fs s c=>exact .inl (by rw[outR,hx])
 |dn e v s c=>exact .inr (by rw[outR,outR,hx,RV cs' (h S e v s c hx) hS])
end Go.AE.Y
namespace Go.AE.Y
attribute [local instance] Classical.propDecidable
variable {cs:List CodeD}{q:CodeD}{y:BlkD}
def skT (q:CodeD)(b:Nat):Int:=(Qx q b).next.getD 0 0
structure SkP (q:CodeD)(b:Nat):Prop where
 b0:0<b
 bl:b<q.blocks.length
 ph:(Qx q b).ab=[]
 ins:(Qx q b).ins=[]
 j:(Qx q b).jump=1
 ne:skT q b≠b
 tp:(Qx q (skT q b).toNat).ab=[]
 pr:Qz (gnx q) (b:Int) q.blocks.length≠[]
noncomputable def skF (q:CodeD):Option Nat:=(List.range q.blocks.length).find? λb=>decide (SkP q b)
theorem ET {b:Nat}(h:skF q=some b):SkP q b:=by simpa using List.find?_some h
noncomputable def skG (q:CodeD)(v:Int):Int:=match skF q with
 |some b=>if v=(b:Int)then skT q b else v
 |none=>v
noncomputable def skY (q:CodeD)(y:BlkD):BlkD:=⟨y.ab,y.ins,y.jump,y.on,y.next.map (skG q)⟩
noncomputable def skS (q:CodeD):CodeD:=⟨q.params,q.ae,q.blocks.map (skY q)⟩
theorem DZ (v:Int):skG q v=v\/∃b,skF q=some b/\v=(b:Int)/\skG q v=skT q b:=by
 rw[skG]
 cases h:skF q with
 |none=>exact .inl rfl
 |some b=>
  by_cases hv:v=(b:Int)
  ·exact .inr ⟨b,rfl,hv,by simp[hv]⟩
  ·exact .inl (by simp[hv])
theorem VN (h:skF q=none):skS q=q:=by
 have e:skG q=id:=by funext v;rw[skG,h];rfl
 have e2:skY q=id:=by funext y;rw[skY,e,Jbj];rfl
 rw[skS,e2,Jbj]
theorem En:(skS q).blocks.length=q.blocks.length:=by simp[skS]
theorem I7 (b:Nat):Qx (skS q) b=skY q (Qx q b):=by
 rw[Qx,Qx,skS];simp only[Ja,Jz]
 cases q.blocks[b]? with
 |none=>rfl
 |some y=>rfl
theorem Hb {b:Nat}(hb:b<q.blocks.length):gnx (skS q) b=(gnx q b).map (skG q):=by
 rw[D2 (by rw[En];exact hb),D2 hb,I7,skY]
theorem Md {m:Nat}(h:∀b,skF q=some b->m≠b/\(m:Int)≠skT q b):Qz (gnx (skS q)) (m:Int) (skS q).blocks.length=Qz (gnx q) (m:Int) q.blocks.length:=by
 rw[Qz,Qz,En];congr 1;refine List.filter_congr λi hi=>?_;have hi:=J3.1 hi;rw[Hb hi,Bool.eq_iff_iff,J0,J0,Jl];constructor
 ·rintro⟨v,hv,e⟩;rcases DZ (q:=q) v with h1|⟨b,hb,rfl,h1⟩
  ·rw[h1]at e;rw[<-e];exact hv
  ·exact absurd (e.symm.trans h1) (h b hb).2
 ·intro hv;refine⟨_,hv,?_⟩;rcases DZ (q:=q) (m:Int)with h1|⟨b,hb,e,_⟩
  ·exact h1
  ·exact absurd ZB (h b hb).1
theorem Qb3l {m c:Nat}(h:∀b,skF q=some b->m≠b/\(m:Int)≠skT q b):wayI (skS q) m c=wayI q m c:=by rw[wayI,wayI,Md h]
structure SkFr (cs:List CodeD)(f f':Fr):Prop where
 k:f.k<cs.length
 b:f.b<(Qt cs f.k).blocks.length
 t:∃p,(Qx (Qt cs f.k) f.b).ins=p++f.todo
 e:f'=f\/(skF (Qt cs f.k)=some f.b/\f'=⟨f.k,(skT (Qt cs f.k) f.b).toNat,(Qx (Qt cs f.k) (skT (Qt cs f.k) f.b).toNat).ins,f.ae⟩)
theorem Fy {k:Nat}(hk:k<cs.length):Qt (cs.map skS) k=skS (Qt cs k):=by
 rw[CS ZaZ,CS hk];simp
theorem Mt (hr:RunOk cs){k:Nat}(hk:k<cs.length)(l:List Int):SkFr cs (fr0 cs k l) (fr0 (cs.map skS) k l):=by
 refine⟨hk,(hr.ok k hk).b0,⟨[],rfl⟩,.inl ?_⟩;rw[fr0,fr0,Fy hk,I7];rfl
theorem Qb5v (hr:RunOk cs):SimR cs (cs.map skS) (SkFr cs) 1:=by
 have jc:∀k b x t R f',SkFr cs ⟨k,b,x::t,R⟩ f'->∃k' b' x' t',f'=⟨k',b',x'::t',R⟩/\x'=x/\k'=k/\x∈(Qx (Qt cs k) b).ins/\k<cs.length/\∀R',R'.length=R.length->SkFr cs ⟨k,b,t,R'⟩ ⟨k',b',t',R'⟩:=by
  intro k b x t R f' h;obtain⟨hk,hb,⟨p,hp⟩,e⟩:=h;rcases e with rfl|⟨e,_⟩
  ·exact⟨_,_,_,_,rfl,rfl,rfl,by rw[hp];simp,hk,λR' _=>⟨hk,hb,⟨p++[x],by rw[hp];simp⟩,.inl rfl⟩⟩
  ·have:=(ET e).ins;change (Qx (Qt cs k) b).ins=[]at this;change (Qx (Qt cs k) b).ins=p++x::t at hp;rw[this]at hp;exact absurd hp.symm ZD
 refine⟨Ji _,λk b x t R f' h=>?_,λk b R f' fs fs' s c h hf=>?_⟩
 ·obtain⟨k',b',x',t',rfl,rfl,rfl,hx,hk,hR⟩:=jc _ _ _ _ _ _ h;exact⟨_,_,_,_,rfl,⟨rfl,rfl,rfl,λ_=>rfl,λiC l _=>Mt hr (Nat.lt_trans (hr.call _ b hk _ hx iC) hk) l⟩,hR⟩
 ·obtain⟨hk,hb,⟨p,hp⟩,e⟩:=h;change k<cs.length at hk;change b<(Qt cs k).blocks.length at hb;have ho:=hr.ok k hk;rcases e with rfl|⟨e,rfl⟩
  ·refine⟨1,Ji _,?_⟩;have cr:Qx (Qt (cs.map skS) k) b=skY (Qt cs k) (Qx (Qt cs k) b):=by rw[Fy hk,I7]
   show RelC _ (stJ cs k b R fs s c) (stJ (cs.map skS) k b R fs' s c);by_cases hj:(Qx (Qt cs k) b).jump=3
   ·rw[EH hj,EH (by rw[cr];exact hj),cr];exact SimR.rtnF hf λk b x t R f' h=>by
     obtain⟨k',b',x',t',rfl,rfl,_,_,_,hR⟩:=jc _ _ _ _ _ _ h;exact⟨_,_,_,_,rfl,rfl,hR⟩
   ·obtain⟨v,hv,e,e2⟩:=FJ hr hk hb hj R;have nF:=(ho.bs b hb).nx v (by rw[Cd hb]at hv;exact hv);have hm:v.toNat<(Qt cs k).blocks.length:=ZB;have e':nxB (skY (Qt cs k) (Qx (Qt cs k) b)) R=(skG (Qt cs k) v).toNat:=by
     have fO:=Mz hr hk hb hj R;have h0:nxB (skY (Qt cs k) (Qx (Qt cs k) b)) R=(((Qx (Qt cs k) b).next.map (skG (Qt cs k))).getD (ixB (Qx (Qt cs k) b) R) 0).toNat:=rfl;have jR:(Qx (Qt cs k) b).next.getD (ixB (Qx (Qt cs k) b) R) 0=v:=(by rw[Ja,e2];rfl);rw[h0,<-jR];simp[Ja,Jz,Je fO]
    rw[Ec hj,Ec (by rw[cr];exact hj),cr,e',e];rcases DZ (q:=Qt cs k) v with h1|⟨b1,ba,nj,h1⟩
    ·rw[h1];refine .go s c ⟨hk,hm,⟨[],rfl⟩,.inl ?_⟩ hf;rw[frJ,frJ,Fy hk,I7];show Fr.mk k v.toNat (Qx (Qt cs k) v.toNat).ins (phiR R (wayI (skS (Qt cs k)) v.toNat b) (Qx (Qt cs k) v.toNat).ab)=Fr.mk k v.toNat (Qx (Qt cs k) v.toNat).ins (phiR R (wayI (Qt cs k) v.toNat b) (Qx (Qt cs k) v.toNat).ab);by_cases hw:∀b1,skF (Qt cs k)=some b1->v.toNat≠b1/\((v.toNat:Nat):Int)≠skT (Qt cs k) b1
     ·rw[Qb3l hw]
     ·have iW:(Qx (Qt cs k) v.toNat).ab=[]:=by
       refine Ja7 λbd=>hw λb1 h1=>⟨λh=>bd ?_,λh=>bd ?_⟩
       ·rw[h];exact (ET h1).ph
       ·have:=(ET h1).tp;rw[<-h,Jad]at this;exact this
      rw[iW];rfl
    ·have hs:=ET ba;have nh:v.toNat=b1:=ZB;rw[h1,nh];refine .go s c ⟨hk,hs.bl,⟨[],rfl⟩,.inr ⟨ba,?_⟩⟩ hf;rw[frJ,frJ,Fy hk,I7];show Fr.mk k (skT (Qt cs k) b1).toNat (Qx (Qt cs k) (skT (Qt cs k) b1).toNat).ins (phiR R _ (Qx (Qt cs k) (skT (Qt cs k) b1).toNat).ab)=Fr.mk k (skT (Qt cs k) b1).toNat (Qx (Qt cs k) (skT (Qt cs k) b1).toNat).ins (phiR R _ (Qx (Qt cs k) b1).ab);rw[hs.tp,hs.ph];rfl
  ·refine⟨0,Nat.zero_le _,?_⟩;have hs:=ET e;change SkP (Qt cs k) b at hs;have hj:¬(Qx (Qt cs k) b).jump=3:=by rw[hs.j];decide
   obtain⟨v,hv,e1,e2⟩:=FJ hr hk hb hj R;have nF:=(ho.bs b hb).nx v (by rw[Cd hb]at hv;exact hv);have en:nxB (Qx (Qt cs k) b) R=(skT (Qt cs k) b).toNat:=by
    rw[nxB,ixB,if_neg (λh=>absurd (hs.j.symm.trans h.1) ZO),skT]
   have hm:(skT (Qt cs k) b).toNat<(Qt cs k).blocks.length:=by rw[<-en,e1];omega
   rw[Ec hj,en];refine .go s c ⟨hk,hm,⟨[],rfl⟩,.inl ?_⟩ hf;rw[frJ,hs.tp];rfl
theorem Qb3m (hr:RunOk cs)(l:List Int):EndsR cs (cs.map skS) l:=λS e v s c h=>by
 have h0:RelC (SkFr cs) (cf0 cs l) (cf0 (cs.map skS) l):=by
  rw[cf0,cf0,Jb];exact .go _ _ (Mt hr (by have:=hr.n;omega) l) .nil
 obtain⟨m,h1,h2⟩:=sim (R:=RelC (SkFr cs)) (Qb5v hr).one S h0;rw[h]at h2;have:C5 (cs.map skS) m (cf0 (cs.map skS) l)=.dn e v s c:=by
  generalize C5 (cs.map skS) m (cf0 (cs.map skS) l)=y at h2;cases h2;rfl
 exact RV _ this ZB
theorem Qb3n (hg:BP cs=true):BP (cs.map skS)=true:=by
 have hr:=G6 hg;obtain⟨h1,h2,h3⟩:=of_decide_eq_true hg;refine decide_eq_true ⟨by rw[Jb];exact h1,λk hk=>?_,?_⟩
 ·have fz:k<cs.length:=by rw[Jb]at hk;exact hk
  obtain⟨g1,g2⟩:=h2 k fz;have e:(cs.map skS)[k]=skS cs[k]:=by rw[Jr]
  refine⟨?_,λb hb=>?_⟩
  ·rw[e];simp only[CP,Ju,decide_eq_true_eq]at g1⊢;rw[En];exact g1
  ·have aW:b<cs[k].blocks.length:=by rw[e,En]at hb;exact hb
   have g:=g2 b aW;have eb:(cs.map skS)[k].blocks[b]=skY cs[k] cs[k].blocks[b]:=by simp only[e,skS,Jr]
   have er:∀m,rgOf (cs.map skS) m=rgOf cs m:=λm=>by
    rw[rgOf,rgOf,Jz];cases cs[m]? <;> rfl
   have ep:∀m,pmOf (cs.map skS) m=pmOf cs m:=λm=>by
    rw[pmOf,pmOf,Jz];cases cs[m]? <;> rfl
   have hG:(λi=>(cs[k].blocks.map BlkD.next).getD i [])=gnx cs[k]:=rfl;have hG':(λi=>((skS cs[k]).blocks.map BlkD.next).getD i [])=gnx (skS cs[k]):=rfl;rw[eb,e];simp only[Cs,Ju,Jaa,Qn,hG]at g;simp only[Cs,Ju,Jaa,Qn,hG',skY];obtain⟨⟨⟨gj,gn⟩,gi⟩,gp⟩:=g;refine⟨⟨⟨?_,λx hx=>?_⟩,λx hx=>?_⟩,λx hx=>?_⟩
   ·simp only[CT,Jb]at gj⊢;exact gj
   ·rw[En];obtain⟨v,hv,rfl⟩:=Jl.1 hx;rcases DZ (q:=cs[k]) v with h|⟨b1,ba,_,h⟩
    ·rw[h];exact gn v hv
    ·rw[h];have hs:=ET ba;have mz:=hr.jn k b1 fz (by rw[CS fz];exact hs.bl);rw[CS fz,hs.j]at mz;have hl:0<(Qx cs[k] b1).next.length:=(by simp[Cq]at mz;omega);have ce:skT cs[k] b1∈(Qx cs[k] b1).next:=by
      rw[skT,Ja,Je hl];exact Jc hl
     have g1:=g2 b1 hs.bl;simp only[Cs,Ju,Jaa,Qn]at g1;exact g1.1.1.2 _ (by rw[<-Cd hs.bl];exact ce)
   ·have:=gi x hx;simp only[Cr,insL,er,ep]at this⊢;exact this
   ·have kY:Qz (gnx (skS cs[k])) (b:Int) (skS cs[k]).blocks.length=Qz (gnx cs[k]) (b:Int) cs[k].blocks.length:=Md λb1 ba=>by
     have hs:=ET ba;have bd:(Qx cs[k] b).ab≠[]:=by
      rw[Cd aW];intro h;rw[h]at hx;cases hx
     refine⟨λh=>bd (by rw[h];exact hs.ph),λh=>bd ?_⟩;have:=hs.tp;rw[<-h,Jad]at this;exact this
    rw[kY];exact gp x hx
 ·have:BU Ci (cs.map skS)=BU Ci cs:=by
   simp only[BU,J4];congr 1;refine Jau λq _=>?_;show Ci (skS q)=Ci q;simp only[Ci,BU,skS,J4];congr 1
  rw[this];exact h3
theorem Ig (hg:BP cs=true):∀n,BP (cs.map (Nat.repeat skS n))=true
 |0=>by
  have:(Nat.repeat skS 0:CodeD->CodeD)=id:=rfl;rw[this,Jbj];exact hg
 |n+1=>by
  have:=Qb3n (Ig hg n);rw[J4]at this;exact this
theorem KO (hg:BP cs=true)(l:List Int):∀n,EndsR cs (cs.map (Nat.repeat skS n)) l
 |0=>λS e v s c h=>by
  have:cs.map (Nat.repeat skS 0)=cs:=by
   have:(Nat.repeat skS 0:CodeD->CodeD)=id:=rfl;rw[this,Jbj]
  rw[this];exact h
 |n+1=>λS e v s c h=>by
  have h1:=KO hg l n S e v s c h;have:=Qb3m (G6 (Ig hg n)) l S e v s c h1;rw[J4]at this;exact this
theorem preds_ne {c:Nat}:Qz (gnx q) (c:Int) q.blocks.length≠[]↔∃i,i<q.blocks.length/\(c:Int)∈gnx q i:=by
 rw[Qz];constructor
 ·intro h;refine Ja7 λhn=>h ?_;rw[Ja3,List.filter_eq_nil_iff];intro i hi hc;exact hn ⟨i,J3.1 hi,J0.1 hc⟩
 ·rintro⟨i,hi,hc⟩ h;rw[Ja3,List.filter_eq_nil_iff]at h;exact h i (J3.2 hi) (J0.2 hc)
noncomputable def skW (q:CodeD):Nat:=((List.range q.blocks.length).filter λ(c:Nat)=>decide (Qz (gnx q) (c:Int) q.blocks.length≠[])).length
def SkJ (q:CodeD):Prop:=∀b,skF q=some b->skT q b∈gnx q b/\0<=skT q b
theorem Q7j {p r:Nat->Bool}:∀{l:List Nat} {b:Nat},(∀c∈l,p c=true->r c=true)->b∈l->r b=true->p b=false->(l.filter p).length<(l.filter r).length
 |x::l,b,h,hb,h1,h2=>by
  have aS:(l.filter p).length<=(l.filter r).length:=by
   rw[<-List.countP_eq_length_filter,<-List.countP_eq_length_filter];exact List.countP_mono_left λc hc=>h c (Jw _ hc)
  rcases Jbw.1 hb with rfl|hb
  ·simp[h1,h2];omega
  ·have ih:=Q7j (p:=p) (r:=r) (l:=l) (b:=b) (λc hc=>h c (Jw _ hc)) hb h1 h2;have hx:=h x J7
   cases hp:p x with
   |true=>simp[hp,hx hp];exact ih
   |false=>
    cases hr:r x with
    |true=>simp[hp,hr];omega
    |false=>simp[hp,hr];exact ih
theorem FS (hj:SkJ q){b:Nat}(h:skF q=some b):skW (skS q)<skW q:=by
 have hs:=ET h;have hg:∀v,skG q v≠(b:Int):=λv e=>by
  rcases DZ (q:=q) v with h1|⟨b1,ba,e1,h1⟩
  ·rw[h1]at e;have:skG q v=skT q b:=by rw[skG,h];simp[e]
   rw[h1,e]at this;exact hs.ne this.symm
  ·obtain rfl:b=b1:=by rw[h]at ba;exact Jaj ba
   exact hs.ne (h1.symm.trans e)
 rw[skW,skW,En];refine Q7j (b:=b) (λc hc hp=>?_) (J3.2 hs.bl) (decide_eq_true hs.pr) (decide_eq_false λhn=>?_)
 ·have hp:=of_decide_eq_true hp;rw[<-En,preds_ne]at hp;obtain⟨i,hi,hm⟩:=hp;rw[En]at hi;rw[Hb hi]at hm;obtain⟨v,hv,e⟩:=Jl.1 hm;refine decide_eq_true (preds_ne.2 ?_);rcases DZ (q:=q) v with h1|⟨b1,ba,e1,h1⟩
  ·exact⟨i,hi,by rw[<-e,h1];exact hv⟩
  ·exact⟨b1,(ET ba).bl,by rw[<-e,h1];exact (hj b1 ba).1⟩
 ·rw[<-En,preds_ne]at hn;obtain⟨i,hi,hm⟩:=hn;rw[En]at hi;rw[Hb hi]at hm;obtain⟨v,hv,e⟩:=Jl.1 hm;exact hg v e
theorem EI (i:Nat):∀j,Nat.repeat skS (i+j) q=Nat.repeat skS j (Nat.repeat skS i q)
 |0=>rfl
 |j+1=>by
  show skS (Nat.repeat skS (i+j) q)=skS (Nat.repeat skS j (Nat.repeat skS i q));rw[EI i j]
theorem Gj (h:skF q=none):∀j,Nat.repeat skS j q=q
 |0=>rfl
 |j+1=>by
  show skS (Nat.repeat skS j q)=q;rw[Gj h j,VN h]
theorem KM:∀(m:Nat) (q:CodeD),(∀i,SkJ (Nat.repeat skS i q))->skW q<=m->skF (Nat.repeat skS m q)=none
 |0,q,hJ,hm=>by
  show skF q=none
  cases h:skF q with
  |none=>rfl
  |some b=>have:skW (skS q)<skW q:=FS (hJ 0) h;omega
 |m+1,q,hJ,hm=>by
  cases h:skF q with
  |none=>rw[Gj h];exact h
  |some b=>
   have h1:skW (skS q)<skW q:=FS (hJ 0) h;have h2:=KM m (skS q) (λi=>by
    have:=hJ (1+i);rw[EI]at this;exact this) ZB
   rw[Nat.add_comm,EI];exact h2
noncomputable def skE (q:CodeD):CodeD:=Nat.repeat skS 160 q
theorem Qb5u (q:CodeD):skW q<=q.blocks.length:=by
 rw[skW];exact Jbq (Jbf _ _) ZD
theorem VO (hJ:∀i,SkJ (Nat.repeat skS i q))(hb:q.blocks.length<=160):skF (skE q)=none:=KM 160 q hJ (Jbq (Qb5u q) hb)
theorem Mu (hJ:∀i,SkJ (Nat.repeat skS i q))(hb:q.blocks.length<=160){i:Nat}(h:skF (Nat.repeat skS i q)=none):Nat.repeat skS i q=skE q:=by
 by_cases hi:i<=160
 ·obtain⟨j,hj⟩:∃j,160=i+j:=⟨160-i,ZB⟩;rw[skE,hj,EI,Gj h]
 ·obtain⟨j,hj⟩:∃j,i=160+j:=⟨i-160,ZB⟩;rw[hj,EI];exact Gj (VO hJ hb) j
theorem Qb5t (hg:BP cs=true){k:Nat}(hk:k<cs.length):SkJ cs[k]:=λb hb=>by
 have hr:=G6 hg;have hs:=ET hb;have mz:=hr.jn k b hk (by rw[CS hk];exact hs.bl);rw[CS hk,hs.j]at mz;have hl:0<(Qx cs[k] b).next.length:=by simp[Cq]at mz;omega
 have ce:skT cs[k] b∈(Qx cs[k] b).next:=by
  rw[skT,Ja,Je hl];exact Jc hl
 refine⟨by rw[D2 hs.bl];exact ce,?_⟩;have ho:=hr.ok k hk;rw[CS hk]at ho;have:=(ho.bs b hs.bl).nx _ (by rw[<-Cd hs.bl];exact ce);omega
theorem Qb3k (hg:BP cs=true){k:Nat}(hk:k<cs.length)(i:Nat):SkJ (Nat.repeat skS i cs[k]):=by
 have:=Qb5t (Ig hg i) (k:=k) ZaZ
 rwa [Jr]at this
theorem Mc (hg:BP cs=true):BP (cs.map skE)=true:=Ig hg 160
theorem Qbuy (hg:BP cs=true)(l:List Int):EndsR cs (cs.map skE) l:=KO hg l 160
end Go.AE.Y
namespace Go.AE.Y
attribute [local instance] Classical.propDecidable
open Go.Proofs.Tryz
variable {H H0 H':Heap}{K:Uk}{E L A:Ul}{q:CodeD}{fl:Bool}
structure NX where
 y:BlkD
 c:C
 nl:Ul
def NX.row (k:NX):List C:=[.sl false 2 (Q6 k.y.ab),.sl false 4 (BJ k.y.ins),.int .i64 k.y.jump,.int .i64 k.y.on,k.c]
def NX.ok (k:NX):Prop:=Gr k.nl 1 (Qb k.y.next) k.c
theorem NX.ak {k:NX}(h:k.ok):Go.AE.ak k.row=true:=by
 have h1:k.c.ai=false:=Gr.ai h;simp only[Go.AE.ak,NX.row,Ja9,Jbd,h1];rfl
theorem NX.frzR {S:Nat->Bool}{ks:List NX}(ho:∀k∈ks,k.ok)(h:Held H S (ks.flatMap NX.nl)):FrzR H S (ks.map NX.row) (Qo (ks.map NX.y)):=by
 rw[Qo,J4];exact Er ks λk hk=>.cons (.same _ rfl) (.cons (.same _ rfl) (.cons (Qg rfl) (.cons (Qg rfl) (.cons (Gr.frzM (ho k hk) (h.m hk) (FrzR.same (Qq _))) .nil))))
theorem Pm {α β:Type}{f g h:α->List β}(e:∀x,h x=f x++g x)(l:List α):(l.flatMap h).Perm (l.flatMap f++l.flatMap g):=by
 induction l with
 |nil=>exact .refl _
 |cons x l ih=>
  refine Qj λF hF h0 hc hp=>?_;have:=hp _ _ ih;simp only[Jai,e,hF]at this⊢;omega
theorem Qbw2 (hq:q.sg)(hb:0<q.blocks.length)(hK:∀z (ks:List NX) H',ks.map NX.y=q.blocks->(∀k∈ks,k.ok)->Kn H H' [] ([(z,.vec 5 (ks.map NX.row))]++ks.flatMap NX.nl)->K (.ag [Ui q.params,Ui q.ae,.ah z 5 0 q.blocks.length]) H') :
  Qr prog To [.ag q.cells] H K:=by
 refine DS (FU hq λo H' kn ax hd _=>?_);have bu:o.blocks.length=q.blocks.length:=by rw[<-hd];simp[OCode.d]
 have kY:o.params=q.params:=Zbi
 have iU:o.ae=q.ae:=Zbi
 have rF:o.blocks.map OBlk.d=q.blocks:=Zbi
 rcases ax.b with ⟨h1,h2,h3⟩|⟨z,h1,h2⟩
 ·have:=congrArg List.length h2;simp only[Jb,Jj]at this;omega
 ·obtain⟨ks,om⟩:∃ks,ks=o.blocks.map λx=>(⟨x.d,x.nx.c,x.nx.lg⟩:NX):=⟨_,rfl⟩;have cW:ks.map NX.y=q.blocks:=by rw[om,<-rF,J4];rfl
  have dq:∀k∈ks,k.ok:=λk hk=>by
   rw[om]at hk;obtain⟨x,hx,rfl⟩:=Jl.1 hk;exact .mk _ _ _ (Qc _).symm
  have da:ks.flatMap NX.nl=o.blocks.flatMap λx=>x.nx.lg:=by rw[om,List.flatMap_map]
  have kn:Kn H H' [] (([(z,.vec 5 (o.blocks.map OBlk.row))]++ks.flatMap NX.nl)++o.blocks.flatMap λx=>x.ab.flatMap OPhi.lg++(x.pl++(x.ins.flatMap OIns.lg++x.il))):=kn.perm (Qj λf hf h0 hc hp=>by
   have:=hp _ _ (Pm (f:=λx=>x.nx.lg) (g:=λx=>x.ab.flatMap OPhi.lg++(x.pl++(x.ins.flatMap OIns.lg++x.il))) (h:=OBlk.lg) (λx=>rfl) o.blocks);rw[OCode.lg,h2,da];simp only[Ui,hf]at this⊢;omega)
  obtain⟨S,hS,hB,eE,kn2⟩:=kn.bQ;have hz:=hB (z,.vec 5 (o.blocks.map OBlk.row)) ZD;have fG:FrzR H' S (o.blocks.map OBlk.row) (ks.map NX.row):=by
   rw[om,J4];refine Er o.blocks λx hx=>?_;have hh:Held H' S (x.ab.flatMap OPhi.lg++(x.pl++(x.ins.flatMap OIns.lg++x.il))):=λp hp=>hS p (J2.2 ⟨x,hx,hp⟩);exact .cons (Gr.frzM (ax.bs x hx).p hh.r.l (Rk (ax.bs x hx).a hh.l)) (.cons (Gr.frzM (ax.bs x hx).i hh.r.r.r (Ls hh.r.r.l)) (.cons (Qg rfl) (.cons (Qg rfl) (.cons (.same _ rfl) .nil))))
  have f1:FrzH H' S ((H'.frz S).set z (.vec 5 (ks.map NX.row))):=eE.set hz.2 (by
   rw[hz.1];exact FrzO.vecR fG (λr hr=>by obtain⟨x,hx,rfl⟩:=Jl.1 hr;exact x.ak (ax.bs x hx)))
  have kn2:=kn2.setL (o':=.vec 5 (ks.map NX.row)) 0 rfl ZD;have kn2:Kn H ((H'.frz S).set z (.vec 5 (ks.map NX.row))) [] ([(z,.vec 5 (ks.map NX.row))]++ks.flatMap NX.nl):=kn2;refine⟨S,_,_,?_,f1,hK z ks _ cW dq kn2⟩;refine FrzL.ag ?_;rw[OCode.row,kY,iU,h1,Jb,bu];exact .cons (Qg rfl) (.cons (Qg rfl) (.cons (.same _ rfl) .nil))
theorem Qba1 (eV:0<q.blocks.length)(hb:q.blocks.length<=2 ^ 38)(ha:∀y∈q.blocks,y.cl)
  (hK:∀z (ks:List NX) H',ks.map NX.y=q.blocks->(∀k∈ks,k.ok)->Kn H H' [] ([(z,.vec 5 (ks.map NX.row))]++ks.flatMap NX.nl)->K (.ag [Ui q.params,Ui q.ae,.ah z 5 0 q.blocks.length]) H') :
  Qr prog Vv [.ag [Ui q.params,Ui q.ae,.sl fl 5 (Qo q.blocks)]] H K:=by
 refine DS (Qa0x hb ha λos bc bl H' AD ax aq kn=>?_);have eS:os.length=q.blocks.length:=by rw[<-AD,Jb]
 rcases aq with ⟨h1,h2,h3⟩|⟨z,h1,h2⟩
 ·have:=congrArg List.length h2;simp only[Jb,Jj]at this;omega
 ·obtain⟨ks,om⟩:∃ks,ks=os.map λx=>(⟨x.y,x.nc,x.nl⟩:NX):=⟨_,rfl⟩;have cW:ks.map NX.y=q.blocks:=by rw[om,<-AD,J4];rfl
  have dq:∀k∈ks,k.ok:=λk hk=>by
   rw[om]at hk;obtain⟨x,hx,rfl⟩:=Jl.1 hk;exact (ax x hx).2
  have da:ks.flatMap NX.nl=os.flatMap λx=>x.nl:=by rw[om,List.flatMap_map]
  have kn:Kn H H' [] (([(z,.vec 5 (os.map NBlk.row))]++ks.flatMap NX.nl)++os.flatMap NBlk.pl):=kn.perm (Qj λf hf h0 hc hp=>by
   have:=hp _ _ (Pm (f:=NBlk.pl) (g:=λx=>x.nl) (h:=NBlk.lg) (λx=>rfl) os);rw[h2,da];simp only[Ui,hf]at this⊢;omega)
  obtain⟨S,hS,hB,eE,kn2⟩:=kn.bQ;have hz:=hB (z,.vec 5 (os.map NBlk.row)) ZD;have fG:FrzR H' S (os.map NBlk.row) (ks.map NX.row):=by
   rw[om,J4];refine Er os λx hx=>?_;exact .cons (Gr.frzM (ax x hx).1 (λp hp=>hS p (J2.2 ⟨x,hx,hp⟩)) (FrzR.same (Su _))) (.cons (.same _ rfl) (.cons (Qg rfl) (.cons (Qg rfl) (.cons (.same _ (ax x hx).2.ai) .nil))))
  have f1:FrzH H' S ((H'.frz S).set z (.vec 5 (ks.map NX.row))):=eE.set hz.2 (by
   rw[hz.1];exact FrzO.vecR fG (λr hr=>by obtain⟨x,hx,rfl⟩:=Jl.1 hr;exact NBlk.ak (ax x hx)))
  have kn2:=kn2.setL (o':=.vec 5 (ks.map NX.row)) 0 rfl ZD;have kn2:Kn H ((H'.frz S).set z (.vec 5 (ks.map NX.row))) [] ([(z,.vec 5 (ks.map NX.row))]++ks.flatMap NX.nl):=kn2;refine⟨S,_,_,?_,f1,hK z ks _ cW dq kn2⟩;refine FrzL.ag ?_;rw[h1,Jb,eS];exact .cons (Qg rfl) (.cons (Qg rfl) (.cons (.same _ rfl) .nil))
structure NxR (H:Heap)(q:CodeD)(bc:C)(ks:List NX):Prop where
 y:ks.map NX.y=q.blocks
 ow:bc.ai=false
 s:Slc H 5 (ks.map NX.row) bc
 x:∀k∈ks,k.c.ai=false/\Slc H 1 (Qb k.y.next) k.c
variable {bc:C}{ks:List NX}
theorem NxR.len (h:NxR H q bc ks):ks.length=q.blocks.length:=by rw[<-h.y,Jb]
theorem NxR.of {z:Nat}(kn:Kn H0 H E L)(hy:ks.map NX.y=q.blocks)(ho:∀k∈ks,k.ok)(hz:H z=.vec 5 (ks.map NX.row))(hm:∀p∈ks.flatMap NX.nl,p∈L):NxR H q (.ah z 5 0 q.blocks.length) ks:=
 ⟨hy,rfl,vslc hz (by rw[<-hy,Jb,Jb]),λk hk=>⟨(ho k hk).ai,(ho k hk).slcM kn λp hp=>hm p (J2.2 ⟨k,hk,hp⟩)⟩⟩
theorem NxR.keep0 (h:NxR H q bc ks)(kn:Kn H H' [] L):NxR H' q bc ks:=⟨h.y,h.ow,h.s.keep0 kn,λk hk=>⟨(h.x k hk).1,(h.x k hk).2.keep0 kn⟩⟩
theorem NxR.no (h:NxR H q bc ks):∀r∈ks.map NX.row,Go.AE.ak r=true:=λr hr=>by
 obtain⟨k,hk,rfl⟩:=Jl.1 hr;have h1:=(h.x k hk).1;simp only[Go.AE.ak,NX.row,Ja9,Jbd,h1];rfl
theorem NxR.at (h:NxR H q bc ks){b:Nat}(hb:b<q.blocks.length):∃k,k∈ks/\k.y=Qx q b/\(ks.map NX.row).getD b []=k.row:=by
 have aW:b<ks.length:=by rw[h.len];exact hb
 refine⟨ks[b],Jc aW,?_,by simp[Ja,aW]⟩;have e:(ks.map NX.y)[b]? = some ks[b].y:=by simp[aW]
 rw[h.y,Je hb]at e;rw[Cd hb];exact (Jaj e).symm
theorem NxR.hx (h:NxR H q bc ks):∀i,i<(ks.map NX.row).length->∃a1 a2 a3 a4 a5,(ks.map NX.row).getD i []=[a1,a2,a3,a4,a5]/\a5.ai=false/\Slc H 1 (Qb (gnx q i)) a5:=λi hi=>by
 have hi:i<q.blocks.length:=by rw[Jb,h.len]at hi;exact hi
 obtain⟨k,hk,e1,e2⟩:=h.at hi;have:=h.x k hk;rw[e1,<-D2 hi]at this;exact⟨_,_,_,_,k.c,e2,this⟩
noncomputable def nxS (q:CodeD)(i k j:Nat):List Int:=if j<i then (gnx q j).map (skG q)else if j=i then ((gnx q j).take k).map (skG q)++(gnx q j).drop k else gnx q j
theorem F2 (i k:Nat):nxS q i k i=((gnx q i).take k).map (skG q)++(gnx q i).drop k:=by simp[nxS]
theorem EN (i k:Nat):(nxS q i k i).length=(gnx q i).length:=by
 rw[F2,J6,Jb,Jy,Jbs];omega
theorem Hg {i k:Nat}(hk:k<(gnx q i).length):(nxS q i k i).getD k 0=(gnx q i)[k]:=by
 rw[F2,Ja,Jar ZG];simp[Jbv (Jb0 hk),hk]
theorem Hz {i k:Nat}(hk:k<(gnx q i).length):nxS q i (k+1) i=(nxS q i k i).set k (skG q (gnx q i)[k]):=by
 have hl:(((gnx q i).take k).map (skG q)).length=k:=ZG
 rw[F2,F2,Jaq _ _ ZB,hl,Jbg,Jaf hk,Ja6,Jg hk,Js];simp
theorem Qb2u {i:Nat}(j:Nat):nxS q i (gnx q i).length j=nxS q (i+1) 0 j:=by
 simp only[nxS];by_cases h1:j<i
 ·rw[if_pos h1,if_pos ZB]
 ·rw[if_neg h1];by_cases h2:j=i
  ·subst h2;simp
  ·rw[if_neg h2,if_neg ZB];split <;> simp
structure SkI (q:CodeD)(i k:Nat)(ks:List NX):Prop where
 n:ks.length=q.blocks.length
 y:∀j (h:j<ks.length),ks[j].y=⟨(Qx q j).ab,(Qx q j).ins,(Qx q j).jump,(Qx q j).on,nxS q i k j⟩
 ok:∀w∈ks,w.ok
theorem SkI.zero (h:ks.map NX.y=q.blocks)(ho:∀k∈ks,k.ok):SkI q 0 0 ks:=by
 have hl:ks.length=q.blocks.length:=by rw[<-h,Jb]
 refine⟨hl,λj hj=>?_,ho⟩;have b6:j<q.blocks.length:=ZB
 have e:(ks.map NX.y)[j]? = some ks[j].y:=by simp[hj]
 rw[h,Je b6,<-Cd b6]at e;rw[<-Jaj e];have:nxS q 0 0 j=(Qx q j).next:=by
  rw[<-D2 b6];simp only[nxS];split
  ·omega
  ·split <;> simp
 rw[this]
theorem SkI.row {i:Nat}(h:SkI q i (gnx q i).length ks):SkI q (i+1) 0 ks:=⟨h.n,λj hj=>by rw[h.y j hj,Qb2u],h.ok⟩
theorem SkI.end (h:SkI q q.blocks.length 0 ks):ks.map NX.y=(skS q).blocks:=by
 refine Jat (by rw[Jb,h.n,En]) λj h1 h2=>?_;have hj:j<ks.length:=ZZ
 have b6:j<q.blocks.length:=by rw[<-h.n];exact hj
 rw[Jr,h.y j hj,<-Cd h2,I7,skY,nxS,if_pos b6,D2 b6]
theorem SkI.same {i k:Nat}(h:SkI q i k ks)(hk:k<(gnx q i).length)(hv:skG q (gnx q i)[k]=(gnx q i)[k]):SkI q i (k+1) ks:=by
 refine⟨h.n,λj hj=>?_,h.ok⟩;rw[h.y j hj];by_cases vK:j=i
 ·subst vK;rw[Hz hk,hv];have:(nxS q j k j).set k (gnx q j)[k]=nxS q j k j:=by
   have hl:k<(nxS q j k j).length:=by rw[EN];exact hk
   have e:=Hg hk;rw[Ja,Je hl]at e;have e:(nxS q j k j)[k]=(gnx q j)[k]:=e;rw[<-e,Jay]
  rw[this]
 ·simp only[nxS,if_neg vK]
noncomputable def skW1 (q:CodeD)(i k y:Nat)(w:NX):NX:=⟨⟨w.y.ab,w.y.ins,w.y.jump,w.y.on,nxS q i (k+1) i⟩,w.c,[(y,.vec 1 (Qb (nxS q i (k+1) i)))]⟩
theorem SkI.step {i k y n:Nat}{w:NX}(h:SkI q i k ks)(hi:i<ks.length)(hw:ks[i]=w)(hc:w.c=.ah y 1 0 n)(hn:n=(gnx q i).length):SkI q i (k+1) (ks.set i (skW1 q i k y w)):=by
 refine⟨by rw[Jn];exact h.n,λj hj=>?_,λv hv=>?_⟩
 ·have b6:j<ks.length:=ZV
  rw[J1];split
  ·rename_i e
   subst e;have:=h.y i hi;rw[hw]at this;rw[skW1,this]
  ·rename_i e
   rw[h.y j b6];simp only[nxS,if_neg (λhh:j=i=>e hh.symm)]
 ·rcases Jt hv with hv|rfl
  ·exact h.ok v hv
  ·show Gr [(y,.vec 1 (Qb (nxS q i (k+1) i)))] 1 (Qb (nxS q i (k+1) i)) w.c;rw[hc];exact .mk _ _ _ (by rw[Qc,EN,hn])
theorem KQ {i k y:Nat}{w:NX}:(skW1 q i k y w).row=w.row:=rfl
theorem XA {i:Nat}{w w':NX}(hi:i<ks.length)(hw:ks[i]=w)(e:w'.row=w.row):(ks.set i w').map NX.row=ks.map NX.row:=by
 rw[Jac,e,<-hw];have:NX.row ks[i]=(ks.map NX.row)[i]'Zaf:=ZD
 rw[this,Jay]
theorem Mo {z i y:Nat}{w w':NX}{R R':List (List C)}(kn:Kn H0 H [] (A++([(z,.vec 5 (ks.map NX.row))]++ks.flatMap NX.nl)))(hi:i<ks.length)(hw:ks[i]=w)(hl:w.nl=[(y,.vec 1 R)])
  (hr:w'.row=w.row) (dm:w'.nl=[(y,.vec 1 R')]) (h1:H'=H.set y (.vec 1 R')):Kn H0 H' [] (A++([(z,.vec 5 ((ks.set i w').map NX.row))]++(ks.set i w').flatMap NX.nl)):=by
 have p1:=DK (f:=NX.nl) hi;have p2:=DK (f:=NX.nl) (l:=ks.set i w') (i:=i) (by rw[Jn];exact hi);rw[hw,hl]at p1;rw[Jap,Jag,dm]at p2;rw[XA hi hw hr];have kn:=kn.perm (L':=[(y,.vec 1 R)]++(A++([(z,.vec 5 (ks.map NX.row))]++(ks.eraseIdx i).flatMap NX.nl))) (Qj λf hf h0 hc hp=>by
  have:=hp _ _ p1;simp only[Ui,hf]at this⊢;omega)
 have kn:=kn.aB 0 rfl h1;have kn:Kn H0 H' [] ([(y,.vec 1 R')]++(A++([(z,.vec 5 (ks.map NX.row))]++(ks.eraseIdx i).flatMap NX.nl))):=kn;exact kn.perm (Qj λf hf h0 hc hp=>by
  have:=hp _ _ p2;simp only[Ui,hf]at this⊢;omega)
theorem Mv {x z:Nat}{B:Ul}(kn:Kn H0 H [] (([(x,.st [Ui q.params,Ui q.ae,.ah z 5 0 q.blocks.length])]++B)++([(z,.vec 5 (ks.map NX.row))]++ks.flatMap NX.nl)))(hy:ks.map NX.y=q.blocks)(ho:∀k∈ks,k.ok) :
  ∃(S:Nat->Bool) (H4:Heap),FrzH H S H4/\Kn H0 H4 [] ([(x,.st [Ui q.params,Ui q.ae,.sl false 5 (Qo q.blocks)])]++B):=by
 obtain⟨S,hS,hB,eE,kn⟩:=kn.bQ;have hx:=hB (x,.st [Ui q.params,Ui q.ae,.ah z 5 0 q.blocks.length]) ZD;have hz:=hS (z,.vec 5 (ks.map NX.row)) ZD;have hr:=NX.frzR ho (λp hp=>hS p (Jh _ hp));rw[hy]at hr;refine⟨S,_,eE.set (o:=.st [Ui q.params,Ui q.ae,.sl false 5 (Qo q.blocks)]) hx.2 ?_,kn.setL (o':=.st [Ui q.params,Ui q.ae,.sl false 5 (Qo q.blocks)]) 0 rfl ZD⟩;rw[hx.1];exact FrzKL.st (.cons rfl (Qg rfl) (.cons rfl (Qg rfl) (.cons rfl (FrzR.ah hz.2 hz.1 (by rw[Jb,<-hy,Jb]) hr) .nil)))
theorem N8 (h:∀c,c<q.blocks.length->¬SkP q c):skF q=none:=by
 rw[skF,List.find?_eq_none];intro c hc hh;exact h c (J3.1 hc) (of_decide_eq_true hh)
theorem N7 {b:Nat}(hb:SkP q b)(h:∀c,c<b->¬SkP q c):skF q=some b:=by
 have bu:=hb.bl;obtain⟨m,hm⟩:∃m,q.blocks.length=b+(m+1):=⟨q.blocks.length-b-1,ZB⟩;have e:List.range q.blocks.length=List.range b++(List.range (m+1)).map (b+·):=by rw[hm,List.range_add]
 rw[skF,e,List.find?_append];have h1:(List.range b).find? (λb=>decide (SkP q b))=none:=by
  rw[List.find?_eq_none];intro c hc hh;exact h c (J3.1 hc) (of_decide_eq_true hh)
 rw[h1,Jbc];simp[hb]
structure SkOk (q:CodeD):Prop where
 ok:∀i,(Nat.repeat skS i q).ok
 jn:∀i b,b<(Nat.repeat skS i q).blocks.length->((Qx (Nat.repeat skS i q) b).next.length:Int)=Cq (Qx (Nat.repeat skS i q) b).jump
 J:∀i,SkJ (Nat.repeat skS i q)
theorem Ko {cs:List CodeD}(hg:BP cs=true){k:Nat}(hk:k<cs.length):SkOk cs[k]:=by
 have fz:∀i,k<(cs.map (Nat.repeat skS i)).length:=λi=>ZaZ
 have e:∀i,(cs.map (Nat.repeat skS i))[k]'(fz i)=Nat.repeat skS i cs[k]:=λi=>by rw[Jr]
 refine⟨λi=>?_,λi b hb=>?_,λi=>Qb3k hg hk i⟩
 ·have:=EJ (Ig hg i) (fz i);rw[e]at this;exact this
 ·have:=(G6 (Ig hg i)).jn k b (fz i) (by rw[CS (fz i),e];exact hb);rw[CS (fz i),e]at this;exact this
theorem Ha:∀i,(Nat.repeat skS i q).blocks.length=q.blocks.length
 |0=>rfl
 |i+1=>by
  show (skS (Nat.repeat skS i q)).blocks.length=_;rw[En,Ha i]
theorem FR:∀i,(Nat.repeat skS i q).params=q.params/\(Nat.repeat skS i q).ae=q.ae
 |0=>⟨rfl,rfl⟩
 |i+1=>FR i
def EmP (q:CodeD)(b:Nat):Prop:=0<b/\(Qx q b).ab=[]/\(Qx q b).ins=[]/\(Qx q b).jump=1
end Go.AE.Y
namespace Go.AE.Y
variable {g g':Nat->List Nat}{xs:List Nat}{S S' S'':List Bool}{o o' o'':List Nat}
theorem Qb10 {l:List Nat}{x y:Nat}(hx:x∈l)(hy:y∈l)(h:l.idxOf x=l.idxOf y):x=y:=by
 have h1:=List.getElem_idxOf (J5 hx);have h2:=List.getElem_idxOf (J5 hy);rw[<-h1,<-h2];simp only[h]
theorem Dfs.nodup (h:Dfs g xs S o S' o'):(∀x,x<S.length->∀y∈g x,y<S.length)->(∀x∈xs,x<S.length)->(∀y∈o,S.getD y false=true)->o.Nodup->o'.Nodup:=by
 induction h with
 |nil S o=>exact λ_ _ _ h=>h
 |skip h1 h2 ih=>exact λhg hx ho hn=>ih hg (λy hy=>hx y (Jw _ hy)) ho hn
 |@go x xs S S1 S' o o1 o' h1 h2 h3 ih1 ih2=>
  intro hg hx ho hn;have eP:=hx x J7;have zW:=h2.len;rw[Jn]at zW;have eO:∀z,z<(S.set x true).length->∀y∈g z,y<(S.set x true).length:=by rw[Jn];exact hg
  have bU:∀y∈g x,y<(S.set x true).length:=by rw[Jn];exact hg x eP
  have vB:∀y∈o,(S.set x true).getD y false=true:=λy hy=>by
   rw[G9];split
   ·rfl
   ·exact ho y hy
  have cO:=ih1 eO bU vB hn;obtain⟨t,e,a1,a2,a3,a4⟩:=h2.adds eO bU;have wq:x∉o1:=λhm=>by
   rw[e]at hm;rcases Jv.1 hm with hm|hm
   ·have:=ho x hm;rw[h1]at this;simp at this
   ·obtain⟨z,_,hr⟩:=a4 x hm;refine hr.snd ?_;rw[G9,if_pos ⟨rfl,eP⟩]
  refine ih2 (by rw[zW];exact hg) (λy hy=>by rw[zW];exact hx y (Jw _ hy)) (λy hy=>?_) ?_
  ·rcases Jv.1 hy with hy|hy
   ·rw[e]at hy;rw[a1];rcases Jv.1 hy with hy|hy
    ·exact .inl (vB y hy)
    ·exact .inr hy
   ·rw[Jf]at hy;subst hy;refine h2.mono y ?_;rw[G9,if_pos ⟨rfl,eP⟩]
  ·rw[Jbo];refine⟨cO,ZD,λa ha b hb he=>?_⟩;rw[Jf]at hb;subst hb;subst he;exact wq ha
theorem Ks {f:Nat->Nat}:∀{l r:List Nat},l.Nodup->(∀x∈l,x∈r)->(l.map f).sum<=(r.map f).sum
 |[],_,_,_=>ZD
 |x::l,r,hn,h=>by
  have hx:=h x J7;have hp:=List.perm_cons_erase hx;have e:=((hp.map f).sum_nat);rw[e,Jab,Jbx,Jab,Jbx];have jw:=List.nodup_cons.1 hn;have:=Ks (f:=f) jw.2 (r:=r.erase x) λy hy=>by
   have vm:y≠x:=λe=>jw.1 (e▸hy);exact (List.mem_erase_of_ne vm).2 (h y (Jw _ hy))
  omega
end Go.AE.Y
namespace Go.AE.Y
attribute [local instance] Classical.propDecidable
variable {q:CodeD}{P P':List Int}{l:List Nat}
def plcs (n:Nat)(l:List Nat):List Int:=(List.range n).map λx=>((l.idxOf x:Nat):Int)
theorem Qbsl {n x:Nat}(h:x<n):(plcs n l).getD x 0=((l.idxOf x:Nat):Int):=by
 simp[plcs,Ja,h]
theorem G3 {n:Nat}(hl:∀x∈l,x<n):DL n l (plcs n l):=⟨by simp[plcs],λx hx=>
 ⟨l.idxOf x,J5 hx,List.getElem_idxOf _,Qbsl (hl x hx)⟩⟩
def pkE (q:CodeD)(l:List Nat):CodeD:=pkD q (plcs q.blocks.length l) l
theorem Qb28 {n:Nat}(hn:l.Nodup)(hP:DL n l P){x:Nat}(hx:x∈l):P.getD x 0=((l.idxOf x:Nat):Int):=by
 obtain⟨i,hi,h1,h2⟩:=hP.2 x hx;rw[h2,<-h1,List.Nodup.idxOf_getElem hn i hi]
theorem G4 (ho:q.ok)(hp:Pk q l)(hn:l.Nodup)(hP:DL q.blocks.length l P){b:Nat}(hb:b∈l):(pkY q P b).next=(Qx q b).next.map λv=>((l.idxOf v.toNat:Nat):Int):=by
 rw[pkY];refine Jau λv hv=>?_;exact Qb28 hn hP (hp.cl b hb v (by rw[D2 (hp.lt b hb)];exact hv))
theorem Qb24 (ho:q.ok)(hp:Pk q l)(hn:l.Nodup)(hP:DL q.blocks.length l P)(vX:DL q.blocks.length l P'):pkN q P l=pkN q P' l:=by
 funext i
 by_cases hi:i<l.length
 ·rw[G1 hi,G1 hi,G4 ho hp hn hP (Jc hi),G4 ho hp hn vX (Jc hi)]
 ·simp[pkN,Ja,Jq (Nat.le_of_not_lt hi)]
theorem Qb5f (ho:q.ok)(hp:Pk q l)(hn:l.Nodup)(hP:DL q.blocks.length l P):pkD q P l=pkE q l:=by
 have vX:=G3 hp.lt;rw[pkE,pkD,pkD];congr 1;refine Jau λi hi=>?_;have hi:=J3.1 hi;have hm:=Jc hi;rw[pkX,pkX,(hp.get hi).1,G4 ho hp hn hP hm,G4 ho hp hn vX hm];have:nwP q P l i=nwP q (plcs q.blocks.length l) l i:=by
  funext p
  rw[nwP,nwP,nwA,nwA,Qb24 ho hp hn hP vX]
 rw[this]
theorem Fa (q:CodeD)(l:List Nat):(pkE q l).blocks.length=l.length:=by simp[pkE,pkD]
theorem Ed {i:Nat}(h:i<(pkE q l).blocks.length):(pkE q l).blocks[i]=pkX q (plcs q.blocks.length l) l i:=by simp[pkE,pkD]
theorem K4 (hp:Pk q l):gnx (pkE q l)=pkN q (plcs q.blocks.length l) l:=by
 funext i
 by_cases hi:i<l.length
 ·rw[Ez (by rw[Fa];exact hi),G1 hi,Ed,pkX,(hp.get hi).1]
 ·rw[Qb1x (by rw[Fa];omega)];simp[pkN,Ja,Jq (Nat.le_of_not_lt hi)]
theorem Qb27 (hp:Pk q l):0∈l/\l.idxOf 0=0:=by
 have hz:=hp.z
 cases l with
 |nil=>simp at hz
 |cons a l=>simp only[List.getElem?_cons_zero,Jbp]at hz;subst hz;simp
theorem Qb23 (hp:Pk q l)(hn:l.Nodup):Ci (pkE q l)<=Ci q:=by
 have h1:Ci (pkE q l)=(l.map λb=>Co (Qx q b)).sum:=by
  rw[Ci,BU];congr 1;refine Jat (by rw[Jb,Fa,Jb]) λi h1 h2=>?_;have hi:i<l.length:=Zae
  rw[Jr,Jr,Ed,pkX,(hp.get hi).1];simp only[Co,Jb]
 have h2:Ci q=((List.range q.blocks.length).map λb=>Co (Qx q b)).sum:=by
  rw[Ci,BU];congr 1;refine Jat ZD λi h1 h2=>?_;have hi:i<q.blocks.length:=ZZ
  rw[Jr,Jr,Jbl,Cd hi]
 rw[h1,h2];exact Ks hn λx hx=>J3.2 (hp.lt x hx)
theorem Qb26 {cs:List CodeD}{lf:CodeD->List Nat}(hg:BP cs=true)(hl:∀c∈cs,Pk c (lf c)/\(lf c).Nodup):BP (cs.map λc=>pkE c (lf c))=true:=by
 obtain⟨h1,h2,h3⟩:=of_decide_eq_true hg;obtain⟨ds,gc⟩:∃ds,(cs.map λc=>pkE c (lf c))=ds:=⟨_,rfl⟩;have nu:ds.length=cs.length:=by rw[<-gc,Jb]
 have br:∀k (h:k<ds.length) (h':k<cs.length),ds[k]=pkE cs[k] (lf cs[k]):=λk h h'=>by subst gc;rw[Jr]
 rw[gc];have hr:∀k,rgOf ds k=rgOf cs k:=λk=>by
  by_cases hk:k<cs.length
  ·rw[I8 hk,I8 ZB,br k ZB hk];rfl
  ·simp[rgOf,Jq (show cs.length<=k by omega),Jq (show ds.length<=k by omega)]
 have eR:∀k,pmOf ds k=pmOf cs k:=λk=>by
  by_cases hk:k<cs.length
  ·rw[G2 hk,G2 ZB,br k ZB hk];rfl
  ·simp[pmOf,Jq (show cs.length<=k by omega),Jq (show ds.length<=k by omega)]
 refine decide_eq_true ⟨ZB,λk hk=>?_,?_⟩
 ·have hc:k<cs.length:=ZB
  have ho:=EJ hg hc;obtain⟨g1,g2⟩:=h2 k hc;obtain⟨hp,hn⟩:=hl _ (Jc hc);have e:=br k hk hc;obtain⟨q,hq⟩:∃q,cs[k]=q:=⟨_,rfl⟩;obtain⟨l,jI⟩:∃l,lf q=l:=⟨_,rfl⟩;have qy:cs[k].ae=q.ae:=by rw[hq]
  rw[hq]at ho g1 hp hn e;rw[jI]at hp hn e;have cp:∀(b:Nat) (h:b<q.blocks.length),Cs cs k b q q.blocks[b]=true:=λb h=>by subst hq;exact g2 b h
  have hrgk:rgOf cs k=q.ae:=by rw[I8 hc,hq]
  have tH:=hp.n;have iK:0<l.length:=by
   have:=hp.z
   cases l with
   |nil=>simp at this
   |cons=>simp
  refine⟨?_,λj hj=>?_⟩
  ·have:(ds[k]).blocks.length=l.length:=by rw[e,Fa]
   have AC:(ds[k]).params=q.params:=by rw[e];rfl
   have xk:(ds[k]).ae=q.ae:=by rw[e];rfl
   simp only[CP,Ju,decide_eq_true_eq,this,AC,xk]at g1⊢;refine⟨g1.1,ZB⟩
  ·have jz:∀(d:CodeD) (he:ds[k]=d) (b6:j<d.blocks.length),Cs ds k j ds[k] (ds[k].blocks[j])=Cs ds k j d d.blocks[j]:=λd he b6=>by subst he;rfl
   have b6:j<(pkE q l).blocks.length:=by rw[<-e];exact hj
   rw[jz _ e b6,Ed];have cN:j<l.length:=by rw[Fa]at b6;exact b6
   obtain⟨e1,e2,e3⟩:=hp.get cN;have hG:=cp _ e3;rw[<-Cd e3]at hG;simp only[Cs,Ju,Jaa]at hG⊢;obtain⟨⟨⟨gj,gn⟩,gi⟩,gp⟩:=hG;have hgx:(λi=>((pkE q l).blocks.map BlkD.next).getD i [])=pkN q (plcs q.blocks.length l) l:=K4 hp;refine⟨⟨⟨?_,λv hv=>?_⟩,λx hx=>?_⟩,λp fe=>?_⟩
   ·have hx:(pkX q (plcs q.blocks.length l) l j).next.length=(Qx q l[j]).next.length:=(by rw[pkX,e1,pkY,Jb]);have aI:(pkX q (plcs q.blocks.length l) l j).jump=(Qx q l[j]).jump:=(by rw[pkX,e1]);have aL:(pkX q (plcs q.blocks.length l) l j).on=(Qx q l[j]).on:=(by rw[pkX,e1]);have aY:(pkE q l).ae=q.ae:=rfl;simpa only[CT,hx,aI,aL,aY]using gj
   ·rw[pkX,e1]at hv;obtain⟨w,hw,rfl⟩:=Jl.1 hv;obtain⟨_,_,i,hi,_,h6,h7⟩:=hp.to ho (G3 hp.lt) e2 hw;simp only[DC,decide_eq_true_eq,Qn,Fa];rw[h6];omega
   ·rw[pkX,e1]at hx;have:=gi x hx;simp only[Cr,insL,hr,eR]at this⊢;exact this
   ·have hA:=Mw ho hp (G3 hp.lt) cN (by rw[pkX]at fe;exact fe);rw[pkX,e1]at fe;obtain⟨p0,h0,he⟩:=Jl.1 fe;have BD:=gp p0 h0;have lS:p.to=p0.to:=(by rw[<-he];rfl);have aY:(pkE q l).ae=q.ae:=rfl;simp only[phiG,Ju,Bool.not_eq_true',decide_eq_true_eq,decide_eq_false_iff_not]at BD⊢;obtain⟨⟨⟨f1,_⟩,_⟩,f4⟩:=BD;refine⟨⟨⟨λh0=>?_,?_⟩,?_⟩,?_⟩
    ·have hz:=hp.z;subst h0;rw[Je cN]at hz;exact f1 (Jaj hz)
    ·rw[hgx,Qn,Fa,hA.1]
    ·rw[aY];have:=hA.2;simp only[Dc,Jaa,decide_eq_true_eq];intro v hv;have:=this v hv;simp only[rIn]at this;omega
    ·rw[aY,lS];exact f4
 ·have key:∀m,m<=cs.length->BU Ci (ds.take m)<=BU Ci (cs.take m):=λm=>by
   induction m with
   |zero=>intro _;simp[BU]
   |succ m ih=>
    intro hm;have i1:=ih ZB;have hc:m<cs.length:=ZB;have hd:m<ds.length:=ZB;rw[Fl hc,Fl hd];obtain⟨hp,hn⟩:=hl _ (Jc hc);have:=Qb23 hp hn;rw[br m hd hc];omega
  have:=key _ (Ji _);have e1:ds.take cs.length=ds:=by rw[<-nu,J8]
  rw[e1,J8]at this;omega
end Go.AE.Y
namespace Go.AE.Y
open Go.Proofs.Tryz
def Qaxa:=dW 0x18f01017007f6807805801f40 [] [] [.e none none (.upd 0 (.t 31) (.t 32) (.t 33))]
def Qaxb:=dZ 0x18f0101702a01a9f1f7042220
def Qaxc:=dZ 0x19090018f00010190e90c90069f012413101c510142 Qaxa [] Qaxb
def Qyj:=dZ 0x9001bb00018f01018010441b11 Qaxc
def Qye:=dY 4849793
def Qyf:=dY 0x9a983e001
def Qyh:=dY 0x9bd85e001
def Qyi:=dY 0x117004727532f0d1 Qyh
def Qaph:=dW 0xb002df0000020120ff0101e341308ff80580e8001d8424280 [] [] [fI 71 (.lup 0 (.c (.int .i64 0)) (.t 69) (.t 70))]
def Qapi:=dZ 0xb002df0000020120ff09c03d9f1fdb044920
def Qapj:=dZ 0x190900b002df0000000201211f01c0fb00e9f012413103f510542 Qaph [] Qapi
def Qsn:=dZ 0x9043eb000b002df00000201210f010443e11 Qapj
def Qsj:=dY 3997985
def Vj:=dY 46449
def Qsk:=dY 0xad09d0139f11b00b594
def Qapk:=dW 0x85004df002df41000201210f007f4905902906240613 [] [] [.e none none (.upd 0 (.t 98) (.t 99) (.t 100))]
def Qapl:=dZ 0x9b5004df002df0141000201213f06906111 Qapk
def Qapm:=dW 0x95004df002df00141000201213f00e0fd0159f41b30b5f9fed05b9f08f3905805c81 [Qapl] [] [fI 94 (.lup2 0 (.c (.int .i64 0)) (.t 92) (.t 93))]
def Qapn:=dW 0x95004df002df0041000201212f108f5811094 [Qapm] [Qsk] [eI 88 (.ent (.t 85))]
def Qaht:=dW 0x90857b15004df002df41000201211f108f5611 [Qapn] [Vj] [eI 86 (.nxt (.t 85))]
def Qsl:=dY 0x101e75e136e2
def Qya:=dZ 0x4df002df10002012e102122f011c290010113b80a80b80a806590 .skip Qsl
def Qyb:=dW 0x190950845004df002df41000201210f008f19054212 [Qaht,Qya] [] [eI 85 (.rng (.t 84))]
def Qapo:=dW 0x9004df002df031000201210f108f5311 [Qyb] [Qsj] [eI 83 .mkm]
def Qapp:=dZ 0x4df002df10002012e0fe04f9f1ffc046f20
def Qapq:=dZ 0x1909004df002df3100020120ff02d0119f01131351310742 Qapo [] Qapp
def Qso:=dZ 0x90650b0004df002df100020120ff010445011 Qapq
def Qsm:=dY 0x101e9822752
def Qapr:=dZ 0x2df0020129102522f015cd8560198227050 .skip Qsm
def Qaps:=dZ 0x19095064004df002df10002012e00f005010113c808804a612 Qso [] Qapr
def Qapt:=dZ 0x1909504400b002df0000020120ff00f00501d8423a412 Qsn [] Qaps
def Qapu:=dZ 0x9002df000002012c10151d0560153c800128223461 Qapt Qyi
def Qapv:=dZ 0x2df00201290765f02f9f1ffa047620
def Qapw:=dZ 0x1909002df00002012b03b01b00b9f0124131031510342 Qapu [] Qapv
def Qahu:=dZ 0x90230b0002df002012a010443011 Qapw
def Qapx:=dZ 0x74100483e98367921
def Qyc:=dZ 0x94420098245da807720d22 Qapx
def Qapy:=dZ 0x19095024002df002012900f0051802d312 Qahu [] Qyc
def Qapz:=dW 0x900201017108f051802a31 [Qapy] [Sb] [eI 44 (.mks 1 [.sl true 1 []] (.t 43))]
def Qap0:=dZ 0x9020101615700332f099f011210257003d1f0128120128022561 Qapz Qyf
def Qap1:=dZ 0x920101510143d28362321 Qap0 Qye
def Qap2:=dZ 0x190950040018f0101700f00518018312 Qyj [] Qap1
def Qap3:=dW 0x901014108f1711 [Qap2] [Te] [eI 23 .mkm]
def Qbcm:=dZ 0x9101305700332f049f190221 Qap3
theorem Qbbo:mFn prog Q7o 2 122 Qbcm C8=true:=ZF
end Go.AE.Y
namespace Go.AE.Y
attribute [local go_sem] cond_true cond_false Bool.not_true Bool.not_false
open Go.Proofs.Tryz
variable {H H0:Heap}{K:Uk}{E L:Ul}{q:CodeD}{l:List Nat}
structure NowOk (l:List Nat)(i:Nat)(nl:List (Int×Int)):Prop where
 len:nl.length<=i
 f:∀v:Int,lkI v nl=if 0<=v/\v.toNat∈l.take i then some ((l.idxOf v.toNat:Nat):Int)else none
theorem NowOk.step {i:Nat}{nl:List (Int×Int)}(h:NowOk l i nl)(hn:l.Nodup)(hi:i<l.length):NowOk l (i+1) (upI ((l[i]:Nat):Int) (i:Int) nl):=by
 refine⟨by have:=GV ((l[i]:Nat):Int) (i:Int) nl;have:=h.len;omega,λv=>?_⟩;rw[Fq,h.f,Jg hi];by_cases hv:v=((l[i]:Nat):Int)
 ·have A0:v.toNat=l[i]:=ZB
  rw[if_pos hv,if_pos ⟨ZB,Jh _ (by rw[A0];exact Jf.2 rfl)⟩,A0,List.Nodup.idxOf_getElem hn i hi]
 ·rw[if_neg hv];by_cases h0:0<=v/\v.toNat∈l.take i
  ·rw[if_pos h0,if_pos ⟨h0.1,Jp _ h0.2⟩]
  ·rw[if_neg h0,if_neg];rintro⟨h1,h2⟩;rcases Jv.1 h2 with h2|h2
   ·exact h0 ⟨h1,h2⟩
   ·simp only[Jf]at h2;exact hv ZB
theorem NowOk.at {nl:List (Int×Int)}(h:NowOk l l.length nl){v:Int}(hv:0<=v)(hm:v.toNat∈l):lkI v nl=some ((l.idxOf v.toNat:Nat):Int):=by
 rw[h.f,J8,if_pos ⟨hv,hm⟩]
theorem NowOk.no {nl:List (Int×Int)}(h:NowOk l l.length nl){v:Int}(hm:v.toNat∉l):lkI v nl=none:=by
 rw[h.f,J8,if_neg λhh=>hm hh.2]
theorem XH {Q:X->Env->Heap->Prop}{e:Env}{fl fl2:Bool}{x4 M:Nat}{X4:Obj}(hn:l.Nodup)(hl:l.length<=1000)
  (kn:Kn H0 H E [(x4,X4),(M,.map 0 (mI []))])
  (l1:lk 1 e=.c (.sl fl2 1 (BK l))) (l2:lk 2 e=.c (.pp [Ui q.params,Ui q.ae,.sl fl 5 (Qo q.blocks)])) (l4:lk 4 e=Up x4) (l5:lk 5 e=.c (.mp M))
  (l24:lk 24 e=.c (.sl fl2 1 (BK l))) (l25:lk 25 e=.c (Ui l.length)) (l26:lk 26 e=Uv 0)
  (hQ:∀(e:Env) (H':Heap) (nl:List (Int×Int)) (ver:Nat),NowOk l l.length nl->Kn H0 H' E [(x4,X4),(M,.map ver (mI nl))]->
   lk 1 e=.c (.sl fl2 1 (BK l))->lk 2 e=.c (.pp [Ui q.params,Ui q.ae,.sl fl 5 (Qo q.blocks)])->lk 4 e=Up x4->lk 5 e=.c (.mp M)->Q .nrm e H') :
  BI prog (.block 0 (.loop Qyj)) Q e H:=by
 refine Qe (Qw (λm e1 H1=>∃(i ver:Nat) (nl:List (Int×Int)),m=l.length-i/\i<=l.length/\NowOk l i nl/\Kn H0 H1 E [(x4,X4),(M,.map ver (mI nl))]/\
  lk 1 e1=.c (.sl fl2 1 (BK l))/\lk 2 e1=.c (.pp [Ui q.params,Ui q.ae,.sl fl 5 (Qo q.blocks)])/\lk 4 e1=Up x4/\lk 5 e1=.c (.mp M)/\
  lk 24 e1=.c (.sl fl2 1 (BK l))/\lk 25 e1=.c (Ui l.length)/\lk 26 e1=Uv i) l.length ?_ ?_)
 ·exact⟨0,0,[],ZB,ZB,⟨ZD,λv=>by simp[lkI]⟩,kn,l1,l2,l4,l5,l24,l25,l26⟩
 ·clear kn l1 l2 l4 l5 l24 l25 l26;rintro m e1 H1 ⟨i,ver,nl,hm,hi,hN,kn,l1,l2,l4,l5,l24,l25,l26⟩;refine Qa ?_;simp only[go_sem,l1,l2,l4,l5,l24,l25,l26];refine Wu ?_ ?_
  ·intro hc;have af:i<l.length:=ZE
   have bm:l.getD i 0=l[i]:=Zai
   have hM:=kn.l 1 rfl;have ck:=hN.len;refine Zc ?_
   refine Wi ?_;simp only[go_sem,af,Q5,CZ _ _ af,bm];refine Qp ?_;simp only[go_sem,hM,G8,F3,Gf];refine⟨by simp only[LIM];omega,λH2 h2=>?_⟩;have kn:=kn.aB 1 rfl h2;refine Zh ?_;refine⟨Qs,?_⟩;show ∃m,_;exact⟨l.length-(i+1),ZB,i+1,ver+1,_,rfl,ZB,hN.step hn af,kn,rfl,rfl,rfl,rfl,rfl,rfl,rfl⟩
  ·intro hc;have bh:i=l.length:=by have:l.length<=i:=ZE;omega
   subst bh;refine Zb ?_;exact hQ _ _ nl ver hN kn rfl rfl rfl rfl
def plI (l:List Nat)(v:Int):Int:=((l.idxOf v.toNat:Nat):Int)
theorem Qbsh {Q:X->Env->Heap->Prop}{e:Env}{x13 M ver i b L9:Nat}{nl:List (Int×Int)}{ns:List Int}{pc ic nc a2 a4 a8 a9 a10 a45:C}{jj oo:Int}{Ln R:Ul}
  (hN:NowOk l l.length nl) (dA:∀v∈ns,0<=v/\v.toNat∈l) (ck:ns.length<=1000) (fq:pc.ai=false) (ot:ic.ai=false) (db:a10.ai=false) (h8:a8.ai=false) (h45:a45.ai=false) (h2:a2.ai=false)
  (hg:Gr Ln 1 (Qb ns) nc)
  (kn:Kn H0 H E (([(M,.map ver (mI nl)),(x13,.st [pc,ic,Ui jj,Ui oo,nc])]++R)++Ln))
  (l2:lk 2 e=.c a2) (l4:lk 4 e=.c a4) (l5:lk 5 e=.c (.mp M)) (l8:lk 8 e=.c a8) (l9:lk 9 e=.c a9) (l10:lk 10 e=.c a10) (l11:lk 11 e=Uv i) (l12:lk 12 e=Uv b) (l13:lk 13 e=Up x13)
  (l45:lk 45 e=.c a45) (l46:lk 46 e=Uv L9) (l47:lk 47 e=Uv i) (l59:lk 59 e=.c nc) (l60:lk 60 e=.c (Ui ns.length)) (l61:lk 61 e=Uv 0)
  (hQ:∀(e:Env) (H':Heap) (Ln:Ul),Gr Ln 1 (Qb (ns.map (plI l))) nc->Kn H0 H' E (([(M,.map ver (mI nl)),(x13,.st [pc,ic,Ui jj,Ui oo,nc])]++R)++Ln)->
   lk 2 e=.c a2->lk 4 e=.c a4->lk 5 e=.c (.mp M)->lk 8 e=.c a8->lk 9 e=.c a9->lk 10 e=.c a10->lk 11 e=Uv i->lk 12 e=Uv b->lk 13 e=Up x13->
   lk 45 e=.c a45->lk 46 e=Uv L9->lk 47 e=Uv i->Q .nrm e H') :
  BI prog (.block 4 (.loop Qsn)) Q e H:=by
 have hncw:=hg.ai;refine Qe (Qw (λm e1 H1=>∃(k:Nat) (Ln:Ul),m=ns.length-k/\k<=ns.length/\Gr Ln 1 (Qb (mix (plI l) ns k)) nc/\Kn H0 H1 E (([(M,.map ver (mI nl)),(x13,.st [pc,ic,Ui jj,Ui oo,nc])]++R)++Ln)/\
  lk 2 e1=.c a2/\lk 4 e1=.c a4/\lk 5 e1=.c (.mp M)/\lk 8 e1=.c a8/\lk 9 e1=.c a9/\lk 10 e1=.c a10/\lk 11 e1=Uv i/\lk 12 e1=Uv b/\lk 13 e1=Up x13/\
  lk 45 e1=.c a45/\lk 46 e1=Uv L9/\lk 47 e1=Uv i/\lk 59 e1=.c nc/\lk 60 e1=.c (Ui ns.length)/\lk 61 e1=Uv k) ns.length ?_ ?_)
 ·exact⟨0,Ln,ZB,ZB,by rw[HG];exact hg,kn,l2,l4,l5,l8,l9,l10,l11,l12,l13,l45,l46,l47,l59,l60,l61⟩
 ·clear kn l2 l4 l5 l8 l9 l10 l11 l12 l13 l45 l46 l47 l59 l60 l61 hg;rintro m e1 H1 ⟨k,Ln,hm,hk,hg,kn,l2,l4,l5,l8,l9,l10,l11,l12,l13,l45,l46,l47,l59,l60,l61⟩;refine Qa ?_;simp only[go_sem,l2,l4,l5,l8,l9,l10,l11,l12,l13,l45,l46,l47,l59,l60,l61];refine Wu ?_ ?_
  ·intro hc;have af:k<ns.length:=ZE
   obtain⟨y,sj,hLn⟩:∃y,nc=.ah y 1 0 ns.length/\Ln=[(y,.vec 1 (Qb (mix (plI l) ns k)))]:=by
    rcases hg with ⟨_,h,_⟩|⟨y,h1,h2⟩
    ·have:=congrArg List.length h;rw[Qc,Fb]at this;simp only[Jj]at this;omega
    ·exact⟨y,by rw[h1,Qc,Fb],h2⟩
   subst sj hLn;have di:k<(mix (plI l) ns k).length:=by rw[Fb];exact af
   obtain⟨w,hw⟩:∃w,ns[k]=w:=⟨_,rfl⟩;have bm:(mix (plI l) ns k).getD k 0=w:=by rw[Ja,Je di,GL af di,hw];rfl
   obtain⟨rV,fD⟩:=dA w (by rw[<-hw];exact Jc af);have gm:=hN.at rV fD;have bW:=Hh (f:=plI l) af;rw[hw]at bW;have hM:H1 M=.map ver (mI nl):=(kn.get (M,.map ver (mI nl)) ZD).1;have bC:H1 x13=.st [pc,ic,Ui jj,Ui oo,.ah y 1 0 ns.length]:=(kn.get (x13,.st [pc,ic,Ui jj,Ui oo,.ah y 1 0 ns.length]) ZD).1;have hy:H1 y=.vec 1 (Qb (mix (plI l) ns k)):=(kn.get (y,.vec 1 (Qb (mix (plI l) ns k))) ZD).1;have bF:(Qb (mix (plI l) ns k)).take ns.length=Qb (mix (plI l) ns k):=Jd (by rw[Qc,Fb];omega);have kz:Dw H1 (.mp M)=True:=Zbb
   have kH:Cl H1 (.mp M)=mI nl:=Zbc
   refine Zc ?_
   refine Wi ?_;simp only[go_sem,hy,bF,af,Qc,Fb,Qk _ _ di,bm,Jk,Ji];refine Qp ?_;simp only[go_sem,bC,hy,af,Qc,Fb,kz,kH,G8,FK,gm,Qk _ _ di,Fh,Jk,Ji];intro H2 h2;have e:(mix (plI l) ns k).set k ((l.idxOf w.toNat:Nat):Int)=mix (plI l) ns (k+1):=bW;rw[e]at h2;have kn:Kn H0 H2 E (([(M,.map ver (mI nl)),(x13,.st [pc,ic,Ui jj,Ui oo,.ah y 1 0 ns.length])]++R)++[(y,.vec 1 (Qb (mix (plI l) ns (k+1))))]):=by
    have:=kn.aB ([(M,Obj.map ver (mI nl)),(x13,.st [pc,ic,Ui jj,Ui oo,.ah y 1 0 ns.length])]++R).length (x:=y) (o:=.vec 1 (Qb (mix (plI l) ns k))) ZD h2;simpa using this
   refine Zh ?_;refine⟨Qs,?_⟩;show ∃m,_;exact⟨ns.length-(k+1),ZB,k+1,_,rfl,ZB,.mk _ _ _ (by rw[Qc,Fb]),kn,rfl,rfl,rfl,rfl,rfl,rfl,rfl,rfl,rfl,rfl,rfl,rfl,rfl,rfl,rfl⟩
  ·intro hc;have bh:ns.length<=k:=ZE
   rw[Hi _ _ bh]at hg;refine Zb ?_;exact hQ _ _ Ln hg kn rfl rfl rfl rfl rfl rfl rfl rfl rfl rfl rfl rfl
def Ft (q:CodeD)(l:List Nat)(b:Nat)(p:PhiD)(ml:List (Int×Int)):Prop:=
 ∀w a,(w,a)∈zpA q b p->w.toNat∈l->lkI ((l.idxOf w.toNat:Nat):Int) ml=some a
theorem Qb4a {b:Nat}{p:PhiD}{w a a':Int}(h:(w,a)∈zpA q b p)(h':(w,a')∈zpA q b p):a=a':=by
 obtain⟨i,hi,e⟩:=Jx.1 h;obtain⟨j,hj,e'⟩:=Jx.1 h';simp only[zpA,List.getElem_zip,Ja1]at e e';have hl:(zpA q b p).length=min (Qz (gnx q) (b:Int) q.blocks.length).length p.args.length:=by rw[zpA,List.length_zip]
 have gL:i=j:=(Jbr (Hy (gnx q) (b:Int) q.blocks.length)).1 (e.1.trans e'.1.symm);subst gL;exact e.2.symm.trans e'.2
theorem Ld {b:Nat}{p:PhiD}{w a:Int}(h:(w,a)∈zpA q b p):w∈Qz (gnx q) (b:Int) q.blocks.length:=(List.of_mem_zip h).1
theorem ND:∀(l aa:List Int),((l.zip aa).map Prod.fst).Sublist l
 |[],_=>ZD
 |x::l,[]=>ZD
 |x::l,a::aa=>by
  rw[List.zip_cons_cons,Jab];exact List.Sublist.cons_cons _ (ND l aa)
theorem LQ (q:CodeD)(b:Nat)(p:PhiD):(mI (zpA q b p)).Nodup:=by
 exact Yw (Ja5 (ND _ _) (Hy (gnx q) (b:Int) q.blocks.length))
structure PhM (q:CodeD)(l:List Nat)(b:Nat)(phs:List PhiD)(ms:List PMap):Prop where
 len:ms.length=phs.length
 f:∀k (h1:k<ms.length) (h2:k<phs.length),Ft q l b phs[k] (ms[k]).l
theorem PhM.nil (b:Nat):PhM q l b [] []:=⟨rfl,λk h1=>by simp at h1⟩
theorem PhM.snoc {b:Nat}{phs:List PhiD}{ms:List PMap}{p:PhiD}{m:PMap}(h:PhM q l b phs ms)(hm:Ft q l b p m.l):PhM q l b (phs++[p]) (ms++[m]):=by
 have hl:=h.len;refine⟨Za3,λk h1 h2=>?_⟩;by_cases hk:k<ms.length
 ·rw[List.getElem_append_left hk,List.getElem_append_left ZB];exact h.f k hk ZB
 ·have iL:k=ms.length:=by simp at h1;omega
  subst iL;have e1:(ms++[m])[ms.length]=m:=ZD
  have e2:(phs++[p])[ms.length]'h2=p:=by rw[List.getElem_append_right ZB];simp[hl]
  rw[e1,e2];exact hm
structure PkM (q:CodeD)(l:List Nat)(i:Nat)(ss:List PSl):Prop where
 n:ss.length=l.length
 m:∀r (h:r<ss.length),r<i->PhM q l (l.getD r 0) (Qx q (l.getD r 0)).ab (ss[r]).ms
 z:∀r (h:r<ss.length),i<=r->(ss[r]).ms=[]
 ok:∀s∈ss,s.ok
theorem XI {Q:X->Env->Heap->Prop}{e:Env}{M Mb M2 ver vb i b L9 x13 pz:Nat}{nl:List (Int×Int)}{p:PhiD}{a2 a4 a8 a9 a45 a77:C}{n78 k79:Int}{R:Ul}
  (hN:NowOk l l.length nl) (iE:(zpA q b p).length<=100000)
  (kn:Kn H0 H E ([(M,.map ver (mI nl)),(Mb,.map vb (mI (zpA q b p)))]++(R++[(M2,.map 0 (mI []))])))
  (l2:lk 2 e=.c a2) (l4:lk 4 e=.c a4) (l5:lk 5 e=.c (.mp M)) (l8:lk 8 e=.c a8) (l9:lk 9 e=.c a9) (l10:lk 10 e=.c (.ah pz 1 0 L9)) (l11:lk 11 e=Uv i) (l13:lk 13 e=Up x13)
  (l17:lk 17 e=.c (.mp Mb)) (l18:lk 18 e=.c (.mp M2)) (l45:lk 45 e=.c a45) (l46:lk 46 e=Uv L9) (l47:lk 47 e=Uv i) (l77:lk 77 e=.c a77) (l78:lk 78 e=Uv n78) (l79:lk 79 e=Uv k79)
  (hQ:∀(e:Env) (H':Heap) (ml:List (Int×Int)) (v2:Nat),Ft q l b p ml->Kn H0 H' E ([(M,.map ver (mI nl)),(Mb,.map vb (mI (zpA q b p)))]++(R++[(M2,.map v2 (mI ml))]))->
   lk 2 e=.c a2->lk 4 e=.c a4->lk 5 e=.c (.mp M)->lk 8 e=.c a8->lk 9 e=.c a9->lk 10 e=.c (.ah pz 1 0 L9)->lk 11 e=Uv i->lk 13 e=Up x13->lk 18 e=.c (.mp M2)->
   lk 45 e=.c a45->lk 46 e=Uv L9->lk 47 e=Uv i->lk 77 e=.c a77->lk 78 e=Uv n78->lk 79 e=Uv k79->BI prog Qya Q e H') :
  BI prog Qyb Q e H:=by
 have sE:=kn.l 1 rfl;refine Q1 (Qa ?_);simp only[go_sem,l2,l4,l5,l8,l9,l10,l11,l13,l17,l18,l45,l46,l47,l77,l78,l79,sE];refine⟨LQ q b p,λit ou H1 h1=>?_⟩;have kn:=kn.al ou h1;refine Qh (Qe (Qw (λm e1 H1=>∃(left:List (C×V)) (cur:Option (C×V)) (ml:List (Int×Int)) (v2:Nat),m=left.length/\left.Nodup/\(∀y∈left,y∈mI (zpA q b p))/\ml.length+left.length<=(zpA q b p).length/\
  (∀w a,(w,a)∈zpA q b p->(C.int .i64 w,V.c (Ui a))∈left\/(w.toNat∈l->lkI ((l.idxOf w.toNat:Nat):Int) ml=some a))/\
  Kn H0 H1 E (([(M,.map ver (mI nl)),(Mb,.map vb (mI (zpA q b p)))]++(R++[(M2,.map v2 (mI ml))]))++[(it,.iter (some (Mb,vb)) left cur)])/\
  lk 2 e1=.c a2/\lk 4 e1=.c a4/\lk 5 e1=.c (.mp M)/\lk 8 e1=.c a8/\lk 9 e1=.c a9/\lk 10 e1=.c (.ah pz 1 0 L9)/\lk 11 e1=Uv i/\lk 13 e1=Up x13/\lk 18 e1=.c (.mp M2)/\
  lk 45 e1=.c a45/\lk 46 e1=Uv L9/\lk 47 e1=Uv i/\lk 77 e1=.c a77/\lk 78 e1=Uv n78/\lk 79 e1=Uv k79/\lk 85 e1=.c (.itr it)) (mI (zpA q b p)).length ?_ ?_))
 ·refine⟨mI (zpA q b p),none,[],0,rfl,LQ q b p,λy h=>h,by rw[F3];simp,λw a h=>.inl (Jl.2 ⟨(w,a),h,rfl⟩),kn,rfl,rfl,rfl,rfl,rfl,rfl,rfl,rfl,rfl,rfl,rfl,rfl,rfl,rfl,rfl,rfl⟩
 ·clear kn l2 l4 l5 l8 l9 l10 l11 l13 l17 l18 l45 l46 l47 l77 l78 l79 sE ou h1;rintro m e1 H2 ⟨left,cur,ml,v2,rfl,hlnd,jA,am,bT,kn,l2,l4,l5,l8,l9,l10,l11,l13,l18,l45,l46,l47,l77,l78,l79,l85⟩;have sE:=kn.l 1 rfl;have hM:=kn.l 0 rfl;have ou:=(kn.get (it,.iter (some (Mb,vb)) left cur) ZD).1;simp only[]at ou;refine Zq l85 ou sE ?_;refine⟨⟨_,rfl⟩,λmj=>?_,λy left' hy dm tV AO H3 h3=>?_⟩
  ·subst mj;simp only[go_sem,Vj,Jal];refine Qh (Qf rfl (λh=>ZI) λ_=>?_);refine Zb ?_;exact hQ _ _ ml v2 (λw a h hm=>((bT w a h).resolve_left ZD) hm) kn.drop l2 l4 l5 l8 l9 l10 l11 l13 l18 l45 l46 l47 l77 l78 l79
  ·obtain⟨⟨w,a⟩,hz,rfl⟩:=Jl.1 (jA y hy);have rV:0<=w:=by obtain⟨j,_,_,e⟩:=preds_mem.1 (Ld hz);omega
   have hLl:(([(M,Obj.map ver (mI nl)),(Mb,Obj.map vb (mI (zpA q b p)))]++(R++[(M2,Obj.map v2 (mI ml))]))++[(it,Obj.iter (some (Mb,vb)) left cur)])[([(M,Obj.map ver (mI nl)),(Mb,Obj.map vb (mI (zpA q b p)))]++(R++[(M2,Obj.map v2 (mI ml))])).length]? = some (it,Obj.iter (some (Mb,vb)) left cur):=ZD
   have kn:=kn.aB _ hLl h3;have kn:Kn H0 H3 E (([(M,.map ver (mI nl)),(Mb,.map vb (mI (zpA q b p)))]++(R++[(M2,.map v2 (mI ml))]))++[(it,.iter (some (Mb,vb)) left' (some (C.int .i64 w,V.c (Ui a))))]):=ZM
   have sE:=kn.l 1 rfl;have hM:=kn.l 0 rfl;have ou:=(kn.get (it,.iter (some (Mb,vb)) left' (some (C.int .i64 w,V.c (Ui a)))) ZD).1;have kz:Dw H3 (.mp M)=True:=Zbb
   have kH:Cl H3 (.mp M)=mI nl:=Zbc
   simp only[go_sem,l2,l4,l5,l8,l9,l10,l11,l13,l18,l45,l46,l47,l77,l78,l79,l85,Vj,Jal];refine Qh (Qf rfl (λ_=>?_) λh=>ZI);refine Zc ?_
   refine Qe (Qa ?_);simp only[go_sem,ou,sE,Qsk,Jal,Ja2];refine⟨⟨_,rfl⟩,?_⟩;by_cases fD:w.toNat∈l
   ·have gm:=hN.at rV fD;refine Qa ?_;simp only[go_sem,kz,kH,G8,FK,Rz,gm,Option.isSome_some,Jal,Ja2];refine Za ?_;refine Qf rfl (λ_=>?_) (λh=>ZI);have vZ:=(kn.get (M2,.map v2 (mI ml)) ZD).1;refine Qp ?_;simp only[go_sem,vZ,G8,F3,Gf];refine⟨by simp only[LIM];omega,λH4 h4=>?_⟩;have kn:Kn H0 H3 E ([(M2,.map v2 (mI ml))]++([(M,.map ver (mI nl)),(Mb,.map vb (mI (zpA q b p)))]++(R++[(it,.iter (some (Mb,vb)) left' (some (C.int .i64 w,V.c (Ui a))))]))):=kn.perm (Qj λf hf h0 hc hp=>by simp only[Ui,hf];omega);have kn:=kn.aB 0 rfl h4;have kn:Kn H0 H4 E (([(M,.map ver (mI nl)),(Mb,.map vb (mI (zpA q b p)))]++(R++[(M2,.map (v2+1) (mI (upI ((l.idxOf w.toNat:Nat):Int) a ml)))]))++[(it,.iter (some (Mb,vb)) left' (some (C.int .i64 w,V.c (Ui a))))]):=kn.perm (Qj λf hf h0 hc hp=>by
     show f ([(M2,_)]++([(M,_),(Mb,_)]++(R++[(it,_)])))=_;simp only[Ui,hf];omega)
    show ∃m,_;refine⟨left'.length,ZB,left',_,upI ((l.idxOf w.toNat:Nat):Int) a ml,v2+1,rfl,tV,λy h=>jA y ((dm y).1 h).1,by have:=GV ((l.idxOf w.toNat:Nat):Int) a ml;omega,λw' a' h'=>?_,kn,rfl,rfl,rfl,rfl,rfl,rfl,rfl,rfl,rfl,rfl,rfl,rfl,rfl,rfl,rfl,rfl⟩;by_cases nE:w'=w
    ·subst nE;have:=Qb4a hz h';subst this;exact .inr λ_=>by rw[Fq,if_pos rfl]
    ·rcases bT w' a' h' with h|h
     ·refine .inl ((dm _).2 ⟨h,λe=>nE ?_⟩);simp only[Ja1,C.int.injEq,true_and]at e;exact e.1
     ·refine .inr λhm=>?_;have hw'0:0<=w':=(by obtain⟨j,_,_,e⟩:=preds_mem.1 (Ld h');omega);rw[Fq,if_neg (λe=>nE ?_),h hm];have:=Qb10 hm fD ZB;omega
   ·have gm:=hN.no fD;refine Qa ?_;simp only[go_sem,kz,kH,G8,FK,Rz,gm,Option.isSome_none,Jal,Ja2];refine Za ?_;refine Qf rfl (λh=>ZI) λ_=>?_;refine Zc ?_
    show ∃m,_;refine⟨left'.length,ZB,left',_,ml,v2,rfl,tV,λy h=>jA y ((dm y).1 h).1,ZB,λw' a' h'=>?_,kn,rfl,rfl,rfl,rfl,rfl,rfl,rfl,rfl,rfl,rfl,rfl,rfl,rfl,rfl,rfl,rfl⟩;by_cases nE:w'=w
    ·subst nE;exact .inr λhm=>absurd hm fD
    ·rcases bT w' a' h' with h|h
     ·refine .inl ((dm _).2 ⟨h,λe=>nE ?_⟩);simp only[Ja1,C.int.injEq,true_and]at e;exact e.1
     ·exact .inr h
end Go.AE.Y
namespace Go.AE.Y
attribute [local go_sem] cond_true cond_false Bool.not_true Bool.not_false
open Go.Proofs.Tryz
variable {H H0:Heap}{K:Uk}{E L:Ul}{q:CodeD}
theorem Qbsm {ms:List PMap}{j:Nat}(hj:j<ms.length):(ms.flatMap PMap.lg).Perm ([(ms[j].m,.map ms[j].ver (mI ms[j].l))]++(ms.eraseIdx j).flatMap PMap.lg):=DK hj
end Go.AE.Y
namespace Go.AE.Y
attribute [local go_sem] cond_true cond_false Bool.not_true Bool.not_false
open Go.Proofs.Tryz
variable {H H0:Heap}{K:Uk}{E L:Ul}{q:CodeD}{l:List Nat}
structure PkP (q:CodeD)(l:List Nat)(i b k:Nat)(ss:List PSl):Prop where
 n:ss.length=l.length
 m:∀r (h:r<ss.length),r<i->PhM q l (l.getD r 0) (Qx q (l.getD r 0)).ab (ss[r]).ms
 c:∀(h:i<ss.length),PhM q l b ((Qx q b).ab.take k) (ss[i]).ms
 z:∀r (h:r<ss.length),i<r->(ss[r]).ms=[]
 ok:∀s∈ss,s.ok
theorem PkM.start {i b:Nat}{ss:List PSl}(h:PkM q l i ss):PkP q l i b 0 ss:=
 ⟨h.n,h.m,λhi=>by rw[h.z i hi (Ji _),List.take_zero];exact .nil b,λr hr hir=>h.z r hr ZB,h.ok⟩
theorem PkP.fin {i b:Nat}{ss:List PSl}(h:PkP q l i b (Qx q b).ab.length ss)(hb:l.getD i 0=b):PkM q l (i+1) ss:=
 ⟨h.n,λr hr lY=>by
  by_cases e:r=i
  ·subst e;rw[hb];have:=h.c hr;rw[J8]at this;exact this
  ·exact h.m r hr ZB,λr hr lY=>h.z r hr ZB,h.ok⟩
theorem PkP.step {i b k:Nat}{ss:List PSl}(h:PkP q l i b k ss)(hi:i<ss.length)(hk:k<(Qx q b).ab.length){s':PSl}{m':PMap}(hs:s'.ms=(ss[i]).ms++[m'])(ko:s'.ok)(hm:Ft q l b (Qx q b).ab[k] m'.l) :
  PkP q l i b (k+1) (ss.set i s'):=by
 refine⟨by rw[Jn];exact h.n,λr hr lY=>?_,λhr=>?_,λr hr lY=>?_,λw hw=>?_⟩
 ·have bf:r<ss.length:=Zah
  rw[J1,if_neg ZB];exact h.m r bf lY
 ·rw[J1,if_pos rfl,hs,Jg hk];exact (h.c hi).snoc hm
 ·have bf:r<ss.length:=Zah
  rw[J1,if_neg ZB];exact h.z r bf lY
 ·rcases Jt hw with hw|rfl
  ·exact h.ok w hw
  ·exact ko
theorem Qbsi {Q:X->Env->Heap->Prop}{e:Env}{M ver i b x13 pz:Nat}{nl:List (Int×Int)}{os:List PSl}{ss:List PSl}{a2 a4 a8 a9 a45:C}{R:Ul}
  (ho:q.ok) (hN:NowOk l l.length nl) (hb:b<q.blocks.length) (hi:i<l.length) (qU:l.length<=1000) (bg:l.getD i 0=b)
  (jv:PInv (phT q q.blocks.length) os) (qG:os.length=q.blocks.length) (hS:PkM q l i ss)
  (kn:Kn H0 H E ([(M,.map ver (mI nl)),(pz,.vec 1 (ss.map PSl.row))]++(psL os++(psL ss++R))))
  (l2:lk 2 e=.c a2) (l4:lk 4 e=.c a4) (l5:lk 5 e=.c (.mp M)) (l8:lk 8 e=.c a8) (l9:lk 9 e=.c a9) (l10:lk 10 e=.c (.ah pz 1 0 l.length)) (l11:lk 11 e=Uv i) (l13:lk 13 e=Up x13)
  (l45:lk 45 e=.c a45) (l46:lk 46 e=.c (Ui l.length)) (l47:lk 47 e=Uv i) (l77:lk 77 e=.c (os[b]'ZB).c) (l78:lk 78 e=.c (Ui (Qx q b).ab.length)) (l79:lk 79 e=Uv 0)
  (hQ:∀(e:Env) (H':Heap) (ss:List PSl),PkM q l (i+1) ss->Kn H0 H' E ([(M,.map ver (mI nl)),(pz,.vec 1 (ss.map PSl.row))]++(psL os++(psL ss++R)))->
   lk 2 e=.c a2->lk 4 e=.c a4->lk 5 e=.c (.mp M)->lk 8 e=.c a8->lk 9 e=.c a9->lk 10 e=.c (.ah pz 1 0 l.length)->lk 11 e=Uv i->lk 13 e=Up x13->
   lk 45 e=.c a45->lk 46 e=.c (Ui l.length)->lk 47 e=Uv i->Q .nrm e H') :
  BI prog (.block 6 (.loop Qso)) Q e H:=by
 have cM:=ho.il b hb;have ba:=ho.b1;rw[<-Cd hb]at cM;have cQ:b<os.length:=ZB
 obtain⟨so,ko⟩:∃s,os[b]=s:=⟨_,rfl⟩;rw[ko]at l77;have ki:so.ok:=by rw[<-ko];exact jv.ok _ (Jc cQ)
 have km:=jv.f b cQ;rw[ko,phT,if_pos hb]at km;have tu:so.ms.length=(Qx q b).ab.length:=by have:=congrArg List.length km;simpa using this
 have hsow:=Gr.ai ki;refine Qe (Qw (λm e1 H1=>∃(k:Nat) (ss:List PSl),m=(Qx q b).ab.length-k/\k<=(Qx q b).ab.length/\PkP q l i b k ss/\
  Kn H0 H1 E ([(M,.map ver (mI nl)),(pz,.vec 1 (ss.map PSl.row))]++(psL os++(psL ss++R)))/\
  lk 2 e1=.c a2/\lk 4 e1=.c a4/\lk 5 e1=.c (.mp M)/\lk 8 e1=.c a8/\lk 9 e1=.c a9/\lk 10 e1=.c (.ah pz 1 0 l.length)/\lk 11 e1=Uv i/\lk 13 e1=Up x13/\
  lk 45 e1=.c a45/\lk 46 e1=.c (Ui l.length)/\lk 47 e1=Uv i/\lk 77 e1=.c so.c/\lk 78 e1=.c (Ui (Qx q b).ab.length)/\lk 79 e1=Uv k) (Qx q b).ab.length ?_ ?_)
 ·exact⟨0,ss,ZB,ZB,hS.start,kn,l2,l4,l5,l8,l9,l10,l11,l13,l45,l46,l47,l77,l78,l79⟩
 ·clear kn l2 l4 l5 l8 l9 l10 l11 l13 l45 l46 l47 l77 l78 l79 hS;clear ss;rintro m e1 H1 ⟨k,ss,hm,hk,hP,kn,l2,l4,l5,l8,l9,l10,l11,l13,l45,l46,l47,l77,l78,l79⟩;refine Qa ?_;simp only[go_sem,l2,l4,l5,l8,l9,l10,l11,l13,l45,l46,l47,l77,l78,l79];refine Wu ?_ ?_
  ·intro hc;have af:k<(Qx q b).ab.length:=ZE
   obtain⟨p,hp⟩:∃p,(Qx q b).ab[k]=p:=⟨_,rfl⟩;have ol:k<so.ms.length:=ZB
   obtain⟨pm,eR⟩:∃pm,so.ms[k]=pm:=⟨_,rfl⟩;have xC:pm.l=zpA q b p:=by
    have h1:(so.ms.map PMap.l)[k]? = some pm.l:=(by simp[ol,eR]);rw[km]at h1;simp only[Jz,Je af,hp,J9]at h1;exact (Jaj h1).symm
   obtain⟨zs,gU,jt⟩:∃z,so.c=.ah z 1 0 so.ms.length/\so.g=[(z,.vec 1 (Cw so.ms))]:=by
    rcases ki with ⟨_,h,_⟩|⟨z,h1,h2⟩
    ·have:=congrArg List.length h;rw[Eu]at this;simp only[Jj]at this;omega
    ·exact⟨z,by rw[h1,Eu],h2⟩
   have eK:=hP.n;have nt:i<ss.length:=ZB
   obtain⟨s,hs⟩:∃s,ss[i]=s:=⟨_,rfl⟩;have aK:s.ok:=by rw[<-hs];exact hP.ok _ (Jc nt)
   have nM:=hP.c nt;rw[hs]at nM;have js:s.ms.length=k:=by have:=nM.len;rw[Jy]at this;omega
   have iq:=Gr.ai aK;have qQ:(Cw so.ms).getD k []=[.mp pm.m]:=by rw[Np _ _ ol,eR]
   have qP:(Cw so.ms).take so.ms.length=Cw so.ms:=Jd (by rw[Eu];omega);have tO:=Tl cQ ko;have qO:=Qbsm ol;rw[eR,xC]at qO;have lU:=Tl nt hs;have pL:(zs,Obj.vec 1 (Cw so.ms))∈psL os:=J2.2 ⟨so,by rw[<-ko];exact Jc cQ,Jh _ (by rw[jt];simp)⟩;have wg:=(kn.get (zs,.vec 1 (Cw so.ms)) (by simp[pL])).1;refine Zc ?_
   refine Wi ?_;simp only[go_sem,gU,wg,Eu,qP,ol,qQ,Jk,Ji];refine Za ?_;intro M2 vZ H2 h2;have kn:=kn.al vZ h2;simp only[go_sem,Qsj];obtain⟨RR,Bw⟩:∃RR,[(pz,Obj.vec 1 (ss.map PSl.row))]++((psL (os.eraseIdx b)++((so.ms.eraseIdx k).flatMap PMap.lg++so.g))++(psL ss++R))=RR:=⟨_,rfl⟩;have kn:Kn H0 H2 E ([(M,.map ver (mI nl)),(pm.m,.map pm.ver (mI (zpA q b p)))]++(RR++[(M2,.map 0 (mI []))])):=kn.perm (Qj λf hf h0 hc hp=>by
    have e2:∀(a b:Nat×Obj),f [a,b]=f [a]+f [b]:=λa b=>hc a [b];have h1:=hp _ _ tO;have h2:=hp _ _ qO;rw[PSl.lg]at h1;rw[<-Bw];show f ([(M,_),(pz,_)]++(psL os++(psL ss++R))++[(M2,.map 0 [])])=_;simp only[hf,e2]at h1 h2⊢;have:mI []=[]:=rfl;rw[this];omega)
   have iE:(zpA q b p).length<=100000:=by
    rw[zpA,List.length_zip];have:=Es (gnx q) (b:Int) q.blocks.length;omega
   refine XI hN iE kn rfl rfl rfl rfl rfl rfl rfl rfl rfl rfl rfl rfl rfl rfl rfl rfl λe3 H3 ml v2 iZ kn l2 l4 l5 l8 l9 l10 l11 l13 l18 l45 l46 l47 l77 l78 l79=>?_;have kn:Kn H0 H3 E (([(pz,.vec 1 (ss.map PSl.row)),(M,.map ver (mI nl))]++([(M2,.map v2 (mI ml))]++(psL os++((psL (ss.eraseIdx i)++s.ms.flatMap PMap.lg)++R))))++s.g):=kn.perm (Qj λf hf h0 hc hp=>by
    have e2:∀(a b:Nat×Obj),f [a,b]=f [a]+f [b]:=λa b=>hc a [b];have h1:=hp _ _ tO;have h2:=hp _ _ qO;have h3:=hp _ _ lU;rw[PSl.lg]at h1 h3;rw[<-Bw];simp only[Ui,hf,e2]at h1 h2 h3⊢;omega)
   have cA:(ss.map PSl.row).length=l.length:=by rw[Jb,eK]
   have lW:(ss.map PSl.row).take l.length=ss.map PSl.row:=Jd ZB;have tx:(ss.map PSl.row).getD i []=[s.c]:=by simp[Ja,nt,hs,PSl.row]
   have sd:=kn.l 0 rfl;refine Qp ?_;simp only[go_sem,l10,l11,l18,sd,cA,lW,hi,tx,iq,Jk,Ji];refine kn.bk (new:=[[.mp M2]]) aK (.mk' _ _ _ _) (by intro r hr;simp only[Jf]at hr;rw[hr];rfl) (by simp only[Eu,LIM,Jo,Jj];omega) λt2 g2 H4 cZ dy kn=>?_;have sd:=kn.l 0 rfl;simp only[go_sem,l2,l4,l5,l8,l9,l10,l11,l13,l45,l46,l47,l77,l78,l79,Qsl,sd,cA,hi,tx,Jk,Ji];intro H5 h5;obtain⟨s',fi⟩:∃s':PSl,s'=⟨s.ms++[⟨M2,v2,ml⟩],t2,g2⟩:=⟨_,rfl⟩;have hs'ok:s'.ok:=by
    rw[fi];show Gr g2 1 (Cw (s.ms++[⟨M2,v2,ml⟩])) t2;have e:Cw (s.ms++[⟨M2,v2,ml⟩])=Cw s.ms++[[.mp M2]]:=(by simp[Cw]);rw[e];exact cZ
   have bW:(ss.map PSl.row).set i [t2]=(ss.set i s').map PSl.row:=by rw[Jac,fi];rfl
   rw[bW]at h5;have kn:=kn.aB 0 rfl h5;have qD:=Kx (s:=s') nt;have kn:Kn H0 H5 E ([(M,.map ver (mI nl)),(pz,.vec 1 ((ss.set i s').map PSl.row))]++(psL os++(psL (ss.set i s')++R))):=kn.perm (Qj λf hf h0 hc hp=>by
    have e2:∀(a b:Nat×Obj),f [a,b]=f [a]+f [b]:=λa b=>hc a [b];have:=hp _ _ qD;have es:s'.lg=(s.ms.flatMap PMap.lg++[(M2,.map v2 (mI ml))])++g2:=(by rw[fi,PSl.lg,Jak];simp[PMap.lg]);rw[es]at this;show f ([(pz,_),(M,_)]++([(M2,_)]++(psL os++((psL (ss.eraseIdx i)++s.ms.flatMap PMap.lg)++R)))++g2)=_;simp only[Ui,hf,e2]at this⊢;omega)
   refine Zh ?_;refine⟨Qs,?_⟩;show ∃m,_;refine⟨(Qx q b).ab.length-(k+1),ZB,k+1,ss.set i s',rfl,ZB,hP.step nt af (m':=⟨M2,v2,ml⟩) (by rw[hs,fi]) hs'ok (by rw[hp];exact iZ),kn,rfl,rfl,rfl,rfl,rfl,rfl,rfl,rfl,rfl,rfl,rfl,?_,rfl,rfl⟩
   first|rfl|exact congrArg V.c gU.symm
  ·intro hc;have iL:k=(Qx q b).ab.length:=by have:(Qx q b).ab.length<=k:=ZE;omega
   subst iL;refine Zb ?_;exact hQ _ _ ss (hP.fin bg) kn rfl rfl rfl rfl rfl rfl rfl rfl rfl rfl rfl
end Go.AE.Y
namespace Go.AE.Y
attribute [local go_sem] cond_true cond_false Bool.not_true Bool.not_false
open Go.Proofs.Tryz
variable {H H0:Heap}{K:Uk}{E L:Ul}{q:CodeD}
theorem Lh:∀(ks:List NBlk),(ks.flatMap NBlk.lg).Perm (ks.flatMap NBlk.pl++ks.flatMap NBlk.nl)
 |[]=>.refl _
 |k::ks=>by
  have ih:=Lh ks;refine Qj λf hf h0 hc hp=>?_;have:=hp _ _ ih;simp only[Ui,Jai,NBlk.lg,hf]at this⊢;omega
end Go.AE.Y
namespace Go.AE.Y
attribute [local go_sem] cond_true cond_false Bool.not_true Bool.not_false
open Go.Proofs.Tryz
variable {H H0:Heap}{K:Uk}{E L:Ul}{q:CodeD}{l:List Nat}
def pkG (q:CodeD)(l:List Nat)(j:Nat)(p:PhiD)(w:Int):Int:=p.args.getD ((Qz (gnx q) ((l.getD j 0:Nat):Int) q.blocks.length).idxOf ((l.getD w.toNat 0:Nat):Int)) 0
def pkYj (q:CodeD)(l:List Nat)(j:Nat):BlkD:=pkY q (plcs q.blocks.length l) (l.getD j 0)
theorem Qbsk (ho:q.ok)(hp:Pk q l){j:Nat}(hj:j<l.length):(pkYj q l j).next=pkN q (plcs q.blocks.length l) l j:=by
 rw[G1 hj,pkYj,(hp.get hj).1]
theorem XE (q:CodeD)(l:List Nat)(j:Nat):stlY (pkN q (plcs q.blocks.length l) l) l.length (pkG q l) j (pkYj q l j)=pkX q (plcs q.blocks.length l) l j:=rfl
theorem Qb5i (ho:q.ok)(hp:Pk q l){r j':Nat}(cA:r<l.length)(b6:j'<l.length){p:PhiD}(hm:p∈(Qx q (l.getD r 0)).ab)(eM:((l[j']:Nat):Int)∈Qz (gnx q) ((l.getD r 0:Nat):Int) q.blocks.length) :
  (((l[j']:Nat):Int),pkG q l r p (j':Int))∈zpA q (l.getD r 0) p:=by
 obtain⟨e1,_,e3⟩:=hp.get cA;have e3':l.getD r 0<q.blocks.length:=by rw[e1];exact e3
 rw[Cd e3']at hm;have em:=(ho.bs _ e3').pal p hm;have fO:=J5 eM;have hja:(Qz (gnx q) ((l.getD r 0:Nat):Int) q.blocks.length).idxOf ((l[j']:Nat):Int)<p.args.length:=ZB
 refine Jx.2 ⟨(Qz (gnx q) ((l.getD r 0:Nat):Int) q.blocks.length).idxOf ((l[j']:Nat):Int),by rw[zpA,List.length_zip];omega,?_⟩;simp only[zpA,List.getElem_zip,Ja1];refine⟨List.getElem_idxOf fO,?_⟩;have bm:∀(L:List Int) (i:Nat) (h:i<L.length),L[i]=L.getD i 0:=λL i h=>by simp[Ja,h]
 rw[pkG,Jad,(hp.get b6).1];exact bm _ _ hja
theorem Qb5g (ho:q.ok)(hp:Pk q l)(hn:l.Nodup){ss:List PSl}(h:PkM q l l.length ss):PTel (pkN q (plcs q.blocks.length l) l) l.length (pkG q l) (pkYj q l) ss:=by
 refine⟨λr hr=>(h.m r hr Za6).len,λr hr i h1 h2 w hw=>?_,h.ok⟩;have cA:r<l.length:=Za6
 have hM:=(h.m r hr cA).f i h1 h2;obtain⟨j',b6,rfl,eM⟩:=hp.preds ho (G3 hp.lt) cA hw;rw[<-(hp.get cA).1]at eM;have hz:=Qb5i ho hp cA b6 (Jc h2) eM;have:=hM _ _ hz (by rw[Jad];exact Jc b6);rw[Jad,List.Nodup.idxOf_getElem hn j' b6]at this;rw[this];rfl
def nK (k:NBlk):KBlk:=⟨k.y,k.pc,k.pl⟩
theorem Qb6r (ks:List NBlk):(ks.map nK).flatMap KBlk.pl=ks.flatMap NBlk.pl:=by rw[List.flatMap_map];rfl
theorem XJ {Q:X->Env->Heap->Prop}{e:Env}{x4 x9 pz:Nat}{ks:List NBlk}{ss:List PSl}{bc:C}{bl:Ul}(ho:q.ok)(hp:Pk q l)(hn:l.Nodup)
  (cg:ks.length=l.length) (cW:∀j (h:j<ks.length),ks[j].y=pkYj q l j) (dq:∀k∈ks,k.ok) (hS:PkM q l l.length ss) (uy:Gr bl 5 (ks.map NBlk.row) bc)
  (kn:Kn H0 H [] ([(x4,.st [Ui 0,Ui 0,.sl true 5 []]),(x9,.st [Ui q.params,Ui q.ae,bc]),(pz,.vec 1 (ss.map PSl.row))]++((psL ss++ks.flatMap NBlk.lg)++bl)))
  (l4:lk 4 e=Up x4) (l9:lk 9 e=Up x9) (l10:lk 10 e=.c (.ah pz 1 0 l.length))
  (hQ:∀(e:Env) (H':Heap) (ks:List KBlk) (z:Nat),ks.length=(pkE q l).blocks.length->ks.map KBlk.y=(pkE q l).blocks->(∀k∈ks,k.ok)->
   Kn H0 H' [] ([(x4,.st [Ui q.params,Ui q.ae,.ah z 5 0 (pkE q l).blocks.length]),(z,.vec 5 (ks.map KBlk.row))]++ks.flatMap KBlk.pl)->lk 4 e=Up x4->Q .ret e H') :
  BI prog Qyc Q e H:=by
 have tH:=hp.n;have iK:0<l.length:=by
  have:=hp.z
  cases l with
  |nil=>simp at this
  |cons=>simp
 have Bz:(pkE q l).blocks.length=l.length:=Fa q l;have cA:(ks.map NBlk.row).length=l.length:=by rw[Jb,cg]
 have eK:=hS.n;obtain⟨zb,rfl,rfl⟩:∃z,bc=.ah z 5 0 l.length/\bl=[(z,.vec 5 (ks.map NBlk.row))]:=by
  rcases uy with ⟨_,h,_⟩|⟨z,h1,h2⟩
  ·have:=congrArg List.length h;rw[cA]at this;simp only[Jj]at this;omega
  ·exact⟨z,by rw[h1,cA],h2⟩
 have hkp:=Lh ks;have kn:Kn H0 H [] (([(zb,.vec 5 (ks.map NBlk.row)),(x9,.st [Ui q.params,Ui q.ae,.ah zb 5 0 l.length]),(pz,.vec 1 (ss.map PSl.row)),(x4,.st [Ui 0,Ui 0,.sl true 5 []])]++(ks.flatMap NBlk.pl++psL ss))++ks.flatMap NBlk.nl):=kn.perm (Qj λf hf h0 hc hp=>by
  have e4:∀(a b c d:Nat×Obj),f [a,b,c,d]=f [a]+f [b]+f [c]+f [d]:=λa b c d=>ZN
  have e3:∀(a b c:Nat×Obj),f [a,b,c]=f [a]+f [b]+f [c]:=λa b c=>ZX
  have:=hp _ _ hkp;simp only[Ui,hf,e4,e3]at this⊢;omega)
 obtain⟨S,kP,ly,eE,kn⟩:=kn.bQ;have hz:=ly (zb,.vec 5 (ks.map NBlk.row)) ZD;have bI:FrzR H S (ks.map NBlk.row) ((ks.map nK).map KBlk.row):=by
  rw[J4];refine Er ks λk hk=>?_;have fy:=dq k hk;refine .cons (.same _ fy.1.ai) (.cons (Qg rfl) (.cons (Qg rfl) (.cons (Qg rfl) (.cons ?_ .nil))));exact Gr.frzM fy.2 (λp hp=>kP p (J2.2 ⟨k,hk,hp⟩)) (FrzR.same (Qq _))
 have bD:∀r∈ks.map NBlk.row,Go.AE.ak r=true:=λr hr=>by
  obtain⟨k,hk,rfl⟩:=Jl.1 hr;exact NBlk.ak (dq k hk)
 have rm:=eE.set (o:=.vec 5 ((ks.map nK).map KBlk.row)) hz.2 (by rw[hz.1];exact .vecR bI bD);have kn:=kn.setL (o':=.vec 5 ((ks.map nK).map KBlk.row)) 0 rfl ZD;generalize rO:(H.frz S).set zb (.vec 5 ((ks.map nK).map KBlk.row))=H2 at rm kn;have da:=Qb6r ks;have kn:Kn H0 H2 [] ([(x9,.st [Ui q.params,Ui q.ae,.ah zb 5 0 l.length]),(zb,.vec 5 ((ks.map nK).map KBlk.row)),(pz,.vec 1 (ss.map PSl.row))]++((ks.map nK).flatMap KBlk.pl++(psL ss++[(x4,.st [Ui 0,Ui 0,.sl true 5 []])]))):=kn.perm (Qj λf hf h0 hc hp=>by
  have e4:∀(a b c d:Nat×Obj),f [a,b,c,d]=f [a]+f [b]+f [c]+f [d]:=λa b c d=>ZN
  have e3:∀(a b c:Nat×Obj),f [a,b,c]=f [a]+f [b]+f [c]:=λa b c=>ZX
  rw[da];show f ([(zb,_),(x9,_),(pz,_),(x4,_)]++(ks.flatMap NBlk.pl++psL ss))=_;simp only[Ui,hf,e4,e3];omega)
 refine Q1 (c_gh (E7 S (Fi ?_) rm) (e':=[(4,Up x4),(9,Up x9),(10,.c (.ah pz 1 0 l.length))]) ?_)
 ·simp only[Jaz,l4,l9,l10];exact⟨.c _ _ (.same _ rfl),.c _ _ (.same _ rfl),.c _ _ (.same _ rfl),ZD⟩
 clear eE rm kP ly hz bI bD rO;refine Za ?_;have aN:StS (pkN q (plcs q.blocks.length l) l) l.length (pkG q l) (pkYj q l) 0 (ks.map nK):=⟨by rw[Jb,cg],λj hj=>by
  have b6:j<ks.length:=ZV
  rw[if_neg (Nat.not_lt_zero j),Jr,nK];exact cW j b6,λk hk=>by
  obtain⟨k',fz,rfl⟩:=Jl.1 hk;exact (dq k' fz).1⟩
 refine VQ (nx:=pkN q (plcs q.blocks.length l) l) (N:=l.length) (g:=pkG q l) (Y:=pkYj q l) ZB aN (λj hj=>Qbsk ho hp hj) (λj hj=>?_) eK (Qb5g ho hp hn hS) kn λks2 H3 uW ue kn=>?_
 ·obtain⟨e1,_,e3⟩:=hp.get hj;have:=(ho.il _ e3).2;rw[pkYj,pkY,e1,Cd e3];show (q.blocks[l[j]]).ab.length<=100000;omega
 have kn:Kn H0 H3 [] ([(x4,.st [Ui 0,Ui 0,.sl true 5 []]),(x9,.st [Ui q.params,Ui q.ae,.ah zb 5 0 l.length])]++([(zb,.vec 5 (ks2.map KBlk.row))]++(ks2.flatMap KBlk.pl++([(pz,.vec 1 (ss.map PSl.row))]++psL ss)))):=kn.perm (Qj λf hf h0 hc hp=>by
  have e3:∀(a b c:Nat×Obj),f [a,b,c]=f [a]+f [b]+f [c]:=λa b c=>ZX
  have e2:∀(a b:Nat×Obj),f [a,b]=f [a]+f [b]:=λa b=>hc a [b];rw[ue];simp only[Ui,hf,e3,e2];omega)
 have aY:=kn.l 0 rfl;have cY:=kn.l 1 rfl;refine Zm aY cY ?_;intro H4 h4;have kn:=kn.aB 0 rfl h4;refine Ql ?_;rw[Bz]at hQ;refine hQ _ H4 ks2 zb uW.n ?_ uW.ok ?_ rfl
 ·refine Jat (by rw[Jb,uW.n,Bz]) λj h1 h2=>?_;have hj:j<ks2.length:=ZZ
  rw[Jr,uW.y j hj,if_pos (by rw[<-uW.n];exact hj),Ed];exact XE q l j
 ·have kn:Kn H0 H4 [] (([(x4,.st [Ui q.params,Ui q.ae,.ah zb 5 0 l.length]),(zb,.vec 5 (ks2.map KBlk.row))]++ks2.flatMap KBlk.pl)++([(x9,.st [Ui q.params,Ui q.ae,.ah zb 5 0 l.length])]++([(pz,.vec 1 (ss.map PSl.row))]++psL ss))):=kn.perm (Qj λf hf h0 hc hp=>by
   have e2:∀(a b:Nat×Obj),f [a,b]=f [a]+f [b]:=λa b=>hc a [b];show f ([(x4,_),(x9,_)]++([(zb,_)]++(ks2.flatMap KBlk.pl++([(pz,_)]++psL ss))))=_;simp only[Ui,hf,e2];omega)
  exact kn.drop
def pkOb (x4 x9 M o pz ver:Nat)(nl:List (Int×Int))(os ss:List PSl)(q:CodeD)(bc:C):List (Nat×Obj):=
 [(x4,.st [.int .i64 0,.int .i64 0,.sl true 5 []]),(x9,.st [.int .i64 q.params,.int .i64 q.ae,bc]),(M,.map ver (mI nl)),(o,.vec 1 (os.map PSl.row)),(pz,.vec 1 (ss.map PSl.row))]
theorem XF {fl fl2:Bool}(ho:q.ok)(hp:Pk q l)(hn:l.Nodup)(hK:∀H',Upd H H' []->K (.ag (pkE q l).cells) H') :
  Qr prog Q7o [.ag [Ui q.params,Ui q.ae,.sl fl 5 (Qo q.blocks)],.c (.sl fl2 1 (BK l))] H K:=by
 have ba:=ho.b1;have tH:=hp.n;refine Qy ?_;refine Qd BF Qbbo ?_;refine Za ?_;intro x4 aY H1 h1;have kn:=(Kn.an H).al aY h1;refine Za ?_;intro M hM H2 h2;have kn:Kn H H2 [] [(x4,.st [Ui 0,Ui 0,.sl true 5 []]),(M,.map 0 (mI []))]:=kn.al hM h2;simp only[go_sem,Te];refine Q1 (Qa ?_);simp only[go_sem,Q5];try intro _
 refine Qh ?_;refine XH hn ZB kn rfl rfl rfl rfl rfl rfl rfl λe3 H3 nl ver hN kn l1 l2 l4 l5=>?_;simp only[go_sem];refine Zj l2 ?_;refine Yy ho λo os H4 qG jv k4=>?_;have kn:=kn.comp0 k4;simp only[go_sem,l1,l2,l4,l5,Qye];refine Za ?_;intro x9 cY H5 h5;have kn:Kn H H5 [] ([(x9,.st [Ui 0,Ui 0,.sl true 5 []])]++([(x4,.st [Ui 0,Ui 0,.sl true 5 []]),(M,.map ver (mI nl))]++([(o,.vec 1 (os.map PSl.row))]++psL os))):=(kn.al cY h5).perm Jm;have cY:=kn.l 0 rfl;simp only[go_sem,Qyf,cY];intro H6 h6;have kn:Kn H H6 [] ([(x9,.st [Ui q.params,Ui q.ae,.sl true 5 []])]++([(x4,.st [Ui 0,Ui 0,.sl true 5 []]),(M,.map ver (mI nl))]++([(o,.vec 1 (os.map PSl.row))]++psL os))):=kn.aB 0 rfl h6;refine Qa ?_;simp only[go_sem,Q5];try intro _
 refine⟨by simp only[LIM];omega,λpz sd H7 h7=>?_⟩;obtain⟨ss0,gE⟩:∃ss0:List PSl,ss0=List.replicate l.length ⟨[],.sl true 1 [],[]⟩:=⟨_,rfl⟩;have mW:PkM q l 0 ss0:=by
  rw[gE];refine⟨ZD,λr _ h=>ZB,λr h _=>ZD,λs hs=>?_⟩;rw[Jah hs];exact .nil 1
 have e0:psL ss0=[]:=by rw[gE];exact Jba.2 λs hs=>by rw[Jah hs];rfl
 have bE:List.replicate l.length [C.sl true 1 []]=ss0.map PSl.row:=by rw[gE,List.map_replicate];rfl
 rw[bE]at h7;have kn:=kn.al sd h7;have kn:Kn H H7 [] ((pkOb x4 x9 M o pz ver nl os ss0 q (.sl true 5 [])++(psL os++(psL ss0++([]:List NBlk).flatMap NBlk.lg)))++[]):=kn.perm (Qj λf hf h0 hc hp=>by
  have e5:∀(a b c d e:Nat×Obj),f [a,b,c,d,e]=f [a]+f [b]+f [c]+f [d]+f [e]:=λa b c d e=>ZQ
  have e2:∀(a b:Nat×Obj),f [a,b]=f [a]+f [b]:=λa b=>hc a [b];rw[e0];show f ([(x9,_)]++([(x4,_),(M,_)]++([(o,_)]++psL os))++[(pz,_)])=f ((pkOb x4 x9 M o pz ver nl os ss0 q (.sl true 5 [])++(psL os++([]++[])))++[]);simp only[Ui,hf,pkOb,e5,e2,h0];omega)
 clear gE bE h7 sd e0;simp only[go_sem,Sb];refine Q1 (Qa ?_);simp only[go_sem,Q5];try intro _
 refine Qh (Qe (Qw (λm e1 H1=>∃(ks:List NBlk) (ss:List PSl) (bc:C) (bl:Ul),m=l.length-ks.length/\ks.length<=l.length/\(∀j (h:j<ks.length),ks[j].y=pkYj q l j)/\(∀k∈ks,k.ok)/\PkM q l ks.length ss/\Gr bl 5 (ks.map NBlk.row) bc/\
  Kn H H1 [] ((pkOb x4 x9 M o pz ver nl os ss q bc++(psL os++(psL ss++ks.flatMap NBlk.lg)))++bl)/\
  lk 2 e1=.c (.pp [Ui q.params,Ui q.ae,.sl fl 5 (Qo q.blocks)])/\lk 4 e1=Up x4/\lk 5 e1=.c (.mp M)/\lk 8 e1=.c (.ah o 1 0 q.blocks.length)/\lk 9 e1=Up x9/\lk 10 e1=.c (.ah pz 1 0 l.length)/\
  lk 45 e1=.c (.sl fl2 1 (BK l))/\lk 46 e1=.c (Ui l.length)/\lk 47 e1=.c (Ui ks.length)) l.length ?_ ?_))
 ·exact⟨[],ss0,_,[],ZD,ZD,ZD,ZD,mW,.nil 5,kn,rfl,rfl,rfl,rfl,rfl,rfl,rfl,rfl,rfl⟩
 ·clear kn mW cY;rintro m e1 H8 ⟨ks,ss,bc,bl,hm,cg,cW,dq,hS,uy,kn,l2,l4,l5,l8,l9,l10,l45,l46,l47⟩;obtain⟨i,hi⟩:∃i,ks.length=i:=⟨_,rfl⟩;rw[hi]at hm cg hS l47;refine Qa ?_;simp only[go_sem,l2,l4,l5,l8,l9,l10,l45,l46,l47];refine Wu ?_ ?_
  ·intro hc;have af:i<l.length:=ZE
   obtain⟨eO,cZ,cR⟩:=hp.get af;obtain⟨b,hb⟩:∃b,l[i]=b:=⟨_,rfl⟩;rw[hb]at eO cZ cR;have cQ:b<os.length:=ZB
   have vT:=Cd cR;refine Zc ?_
   refine Wi ?_;simp only[go_sem,af,Q5,CZ _ _ af,eO];refine Qa ?_;simp only[go_sem,cR,Qn,Cy _ _ cR,BlkD.take5,BlkD.bv,BlkD.len5];refine Q1e (ho.cl _ (Jc cR)) λpc N nc Ln H9 jy ll k9=>?_;rw[<-vT]at jy ll;rw[<-vT];have fq:=jy.ai;have lc:=ll.ai;have kn:=kn.comp0 k9;simp only[go_sem,Qyi];intro x13 bC H10 db;have kn:=(kn.al bC db).perm Jm;have bC:=kn.l 0 rfl;simp only[go_sem,Qyh,bC];intro H11 ev;obtain⟨y,hy⟩:∃y,Qx q b=y:=⟨_,rfl⟩;rw[hy]at jy ll ev;have kn:Kn H H11 [] ([(x13,.st [pc,.sl false 4 (BJ y.ins),Ui y.jump,Ui y.on,nc])]++(((pkOb x4 x9 M o pz ver nl os ss q bc++(psL os++(psL ss++ks.flatMap NBlk.lg)))++bl)++(N++Ln))):=by
    have:=kn.aB 0 rfl ev;simpa using this
   obtain⟨R,hR⟩:∃R,[(x4,Obj.st [Ui 0,Ui 0,.sl true 5 []]),(x9,.st [Ui q.params,Ui q.ae,bc]),(o,.vec 1 (os.map PSl.row)),(pz,.vec 1 (ss.map PSl.row))]++(((psL os++(psL ss++ks.flatMap NBlk.lg))++bl)++N)=R:=⟨_,rfl⟩;have kn:Kn H H11 [] (([(M,.map ver (mI nl)),(x13,.st [pc,.sl false 4 (BJ y.ins),Ui y.jump,Ui y.on,nc])]++R)++Ln):=kn.perm (Qj λf hf h0 hc hp=>by
    have e5:∀(a b c d e:Nat×Obj),f [a,b,c,d,e]=f [a]+f [b]+f [c]+f [d]+f [e]:=λa b c d e=>ZQ;have e4:∀(a b c d:Nat×Obj),f [a,b,c,d]=f [a]+f [b]+f [c]+f [d]:=λa b c d=>ZN;have e2:∀(a b:Nat×Obj),f [a,b]=f [a]+f [b]:=λa b=>hc a [b];rw[<-hR];simp only[Ui,hf,pkOb,e5,e4,e2];omega)
   have kR:∀v∈y.next,0<=v/\v.toNat∈l:=λv hv=>by
    rw[<-hy,vT]at hv;have h1:=(ho.bs b cR).nx v hv;exact⟨ZB,hp.cl b cZ v (by rw[Ez cR];exact hv)⟩
   have kS:y.next.length<=1000:=by rw[<-hy,vT];have:=(ho.bs b cR).nxl;omega
   have bC:=kn.l 1 rfl;have oX:=ll.ay;rw[Qc]at oX;have xW:=eq_true (ll.get kn).1;refine Q1 (Qa ?_);simp only[go_sem,bC,lc,oX,xW];try intro _
   refine Qh ?_;refine Qbsh (L9:=l.length) (ic:=.sl false 4 (BJ y.ins)) hN kR kS fq rfl rfl rfl rfl rfl ll kn rfl rfl rfl rfl rfl rfl rfl rfl rfl rfl rfl rfl rfl rfl rfl λe12 H12 Ln2 yU kn l2 l4 l5 l8 l9 l10 l11 l12 l13 l45 l46 l47=>?_;obtain⟨kb,fx⟩:∃kb:NBlk,kb=⟨pkYj q l i,pc,N,nc,Ln2⟩:=⟨_,rfl⟩;have Br:pkYj q l i=⟨y.ab,y.ins,y.jump,y.on,y.next.map (plI l)⟩:=by
    have e1:=G4 ho hp hn (G3 hp.lt) cZ;rw[pkYj,eO,<-hy];show BlkD.mk (Qx q b).ab (Qx q b).ins (Qx q b).jump (Qx q b).on (pkY q (plcs q.blocks.length l) b).next=_;rw[e1];rfl
   have i6:kb.ok:=by rw[fx,Br];exact⟨jy,yU⟩
   have qZ:kb.row=[pc,.sl false 4 (BJ y.ins),Ui y.jump,Ui y.on,nc]:=by rw[fx,Br];rfl
   have yA:kb.lg=N++Ln2:=by rw[fx];rfl
   rw[<-qZ]at kn;obtain⟨so,ko⟩:∃s,os[b]=s:=⟨_,rfl⟩;have ki:so.ok:=by rw[<-ko];exact jv.ok _ (Jc cQ)
   have km:=jv.f b cQ;rw[ko,phT,if_pos cR]at km;have tu:so.ms.length=(Qx q b).ab.length:=by have:=congrArg List.length km;simpa using this
   have iq:=Gr.ai ki;have mf:∀p∈so.g,p∈psL os:=λp hp=>J2.2 ⟨so,by rw[<-ko];exact Jc cQ,Jh _ hp⟩;have nM:aZ H12 so.c=True/\ay so.c=so.ms.length:=by
    refine⟨eq_true ?_,by have:=Gr.ay ki;rw[Eu]at this;exact this⟩;rcases ki with ⟨h1,_,_⟩|⟨z,h1,h2⟩
    ·rw[h1];trivial
    ·have oH:(z,Obj.vec 1 (Cw so.ms))∈psL os:=mf _ Zab;have hz:=(kn.get (z,.vec 1 (Cw so.ms)) (by rw[<-hR];simp[oH])).1;rw[h1];simp only[aZ,hz,Jk,Ji,and_self]
   have AF:=(kn.get (o,.vec 1 (os.map PSl.row)) (by rw[<-hR];simp)).1;have xP:(os.map PSl.row).length=q.blocks.length:=by rw[Jb,qG]
   have xO:(os.map PSl.row).take q.blocks.length=os.map PSl.row:=Jd ZB;have xQ:(os.map PSl.row).getD b []=[so.c]:=by simp[Ja,cQ,ko,PSl.row]
   simp only[go_sem];refine Q1 (Qa ?_);simp only[go_sem,l2,l4,l5,l8,l9,l10,l11,l12,l13,l45,l46,l47,AF,xP,xO,xQ,cR,iq,nM.1,nM.2,tu,Jk,Ji];try intro _
   refine Qh ?_;obtain⟨R2,vd⟩:∃R2,[(x4,Obj.st [Ui 0,Ui 0,.sl true 5 []]),(x9,.st [Ui q.params,Ui q.ae,bc]),(o,.vec 1 (os.map PSl.row)),(x13,.st kb.row)]++((ks.flatMap NBlk.lg++bl)++(N++Ln2))=R2:=⟨_,rfl⟩;have kn:Kn H H12 [] ([(M,.map ver (mI nl)),(pz,.vec 1 (ss.map PSl.row))]++(psL os++(psL ss++R2))):=kn.perm (Qj λf hf h0 hc hp=>by
    have e4:∀(a b c d:Nat×Obj),f [a,b,c,d]=f [a]+f [b]+f [c]+f [d]:=λa b c d=>ZN;have e2:∀(a b:Nat×Obj),f [a,b]=f [a]+f [b]:=λa b=>hc a [b];rw[<-hR,<-vd];simp only[Ui,hf,e4,e2];omega)
   refine Qbsi (b:=b) (x13:=x13) ho hN cR af ZB eO jv qG hS kn rfl rfl rfl rfl rfl rfl rfl rfl rfl rfl rfl (congrArg V.c (congrArg PSl.c ko.symm)) rfl rfl λe13 H13 ss hS kn l2 l4 l5 l8 l9 l10 l11 l13 l45 l46 l47=>?_;have kn:Kn H H13 [] (([(x9,.st [Ui q.params,Ui q.ae,bc]),(x13,.st kb.row)]++([(x4,.st [Ui 0,Ui 0,.sl true 5 []]),(M,.map ver (mI nl)),(o,.vec 1 (os.map PSl.row)),(pz,.vec 1 (ss.map PSl.row))]++(psL os++(psL ss++(ks.flatMap NBlk.lg++kb.lg)))))++bl):=kn.perm (Qj λf hf h0 hc hp=>by
    have e4:∀(a b c d:Nat×Obj),f [a,b,c,d]=f [a]+f [b]+f [c]+f [d]:=λa b c d=>ZN;have e2:∀(a b:Nat×Obj),f [a,b]=f [a]+f [b]:=λa b=>hc a [b];rw[<-vd,yA];simp only[Ui,hf,e4,e2];omega)
   have ud:=NBlk.ak i6;have qX:kb.row.length=5:=rfl;have qW:kb.row.take 5=kb.row:=rfl;have yC:(kb.row.all λc=>!c.ai)=true:=ud;have gQ:=uy.ai;have cY:=kn.l 0 rfl;have bC:=kn.l 1 rfl;simp only[go_sem];refine Qp ?_;simp only[go_sem,l9,l13,cY,bC,gQ,qX,qW,yC];refine kn.bk (new:=[kb.row]) uy (.mk' _ _ _ _) (by intro r hr;simp only[Jf]at hr;rw[hr];exact ud) Zap λbc2 bl2 H14 za zy kn=>?_;have cY:=kn.l 0 rfl;simp only[go_sem,l2,l4,l5,l8,l9,l10,l45,l46,l47,Qsm,cY];intro H15 vk;have kn:=kn.aB 0 rfl vk;have kn:Kn H H15 [] (((pkOb x4 x9 M o pz ver nl os ss q bc2++(psL os++(psL ss++(ks++[kb]).flatMap NBlk.lg)))++bl2)++[(x13,.st kb.row)]):=kn.perm (Qj λf hf h0 hc hp=>by
    have e5:∀(a b c d e:Nat×Obj),f [a,b,c,d,e]=f [a]+f [b]+f [c]+f [d]+f [e]:=λa b c d e=>ZQ;have e4:∀(a b c d:Nat×Obj),f [a,b,c,d]=f [a]+f [b]+f [c]+f [d]:=λa b c d=>ZN;have e2:∀(a b:Nat×Obj),f [a,b]=f [a]+f [b]:=λa b=>hc a [b];show f (([(x9,_),(x13,_)]++([(x4,_),(M,_),(o,_),(pz,_)]++(psL os++(psL ss++(ks.flatMap NBlk.lg++kb.lg)))))++bl2)=_;simp only[Ui,Jak,Jai,Jbb,Jae,hf,pkOb,e5,e4,e2];omega)
   refine Zh ?_;refine⟨Qs,?_⟩;show ∃m,_;refine⟨l.length-(i+1),ZB,ks++[kb],ss,bc2,bl2,by simp[hi],by simp only[J6,Jo,Jj];omega,λj h=>?_,λw hw=>?_,by simpa[hi]using hS,by rw[Js];exact za,kn.drop,rfl,rfl,rfl,rfl,rfl,rfl,rfl,rfl,by simp[lk,hi]⟩
   ·by_cases hj:j<ks.length
    ·rw[List.getElem_append_left hj];exact cW j hj
    ·have jX:j=ks.length:=(by simp only[J6,Jo,Jj]at h;omega);subst jX;have e:(ks++[kb])[ks.length]=kb:=ZD;rw[e,fx,hi]
   ·rcases Jv.1 hw with hw|hw
    ·exact dq w hw
    ·simp only[Jf]at hw;rw[hw];exact i6
  ·intro hc;have jx:i=l.length:=by have:l.length<=i:=ZE;omega
   have iL:ks.length=l.length:=ZB
   rw[jx]at hS;refine Zb ?_;have kn:Kn H H8 [] (([(x4,.st [Ui 0,Ui 0,.sl true 5 []]),(x9,.st [Ui q.params,Ui q.ae,bc]),(pz,.vec 1 (ss.map PSl.row))]++((psL ss++ks.flatMap NBlk.lg)++bl))++([(M,.map ver (mI nl)),(o,.vec 1 (os.map PSl.row))]++psL os)):=kn.perm (Qj λf hf h0 hc hp=>by
    have e5:∀(a b c d e:Nat×Obj),f [a,b,c,d,e]=f [a]+f [b]+f [c]+f [d]+f [e]:=λa b c d e=>ZQ;have e3:∀(a b c:Nat×Obj),f [a,b,c]=f [a]+f [b]+f [c]:=λa b c=>ZX;have e2:∀(a b:Nat×Obj),f [a,b]=f [a]+f [b]:=λa b=>hc a [b];simp only[Ui,hf,pkOb,e5,e3,e2];omega)
   refine XJ ho hp hn iL cW dq hS uy kn.drop rfl rfl rfl λe3 H9 ks2 z fk mw y6 kn l4=>?_;have aY:=kn.l 0 rfl;simp only[go_sem,Q4,BE,Jf,forall_eq,RS.op,l4,aY];have ce:∀k∈ks2,∀p∈k.pl,H9 p.1=p.2/\un H p.1=true:=λk hk p hp=>
    ⟨(kn.get p (Jh _ (Jh _ (J2.2 ⟨k,hk,hp⟩)))).1,DG (kn.loc p (Jh _ (J2.2 ⟨k,hk,hp⟩)))⟩
   have hz:=kn.l 1 rfl;have bI:FrzR H9 (un H) (ks2.map KBlk.row) (Qo (pkE q l).blocks):=by
    rw[<-mw,Qo,J4];refine Er ks2 λk hk=>?_;exact .cons (Gr.frzM (y6 k hk) (ce k hk) (FrzR.same (Su _))) (.cons (Qg rfl) (.cons (Qg rfl) (.cons (Qg rfl) (.cons (Qg rfl) .nil))))
   have fG:=FrzR.ah (kn.un 1 rfl) hz (by rw[Jb,fk]) bI;exact⟨_,FrzL.ag (.cons (Qg rfl) (.cons (Qg rfl) (.cons fG .nil))),hK _ kn.fin⟩
end Go.AE.Y
namespace Go.AE.Y
attribute [local instance] Classical.propDecidable
variable {q:CodeD}{l:List Nat}
noncomputable def drpE (q:CodeD):CodeD:=pkE q (rchL q.blocks.length (nxN (gnx q)))
theorem FB (n:Nat)(g:Nat->List Nat):(rchL n g).Nodup:=Ja5 Jbi Jbt
theorem Qbvu {cs:List CodeD}(hg:BP cs=true):BP (cs.map drpE)=true:=Qb26 (lf:=λc=>rchL c.blocks.length (nxN (gnx c))) hg λc hc=>by
 obtain⟨i,hi,rfl⟩:=Jx.1 hc;exact⟨(EJ hg hi).rchPk,FB _ _⟩
end Go.AE.Y
namespace Go.AE.Y
variable {q:CodeD}
def OBlk.nxt (o:OBlk)(ns:List Int):OBlk:=⟨o.ab,o.pc,o.pl,o.ins,o.ic,o.il,o.jump,o.on,⟨ns,o.nx.y⟩⟩
end Go.AE.Y
