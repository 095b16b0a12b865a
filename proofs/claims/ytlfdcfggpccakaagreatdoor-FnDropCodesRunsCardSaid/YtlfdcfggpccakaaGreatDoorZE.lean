/- Part 5 of the proof: the engine, codes, walks and plain laws, each named where it stands. -/
import Derived.Test.YtlfdcfggpccakaaGreatDoorZD
import Derived.Defers
import Derived.Laws.Pointers
import Derived.Recover
import Derived.WalkLawsBesides
import Derived.WalkSmall
open Nat (reduceEqDiff reduceAdd reduceLeDiff reduceLT)
set_option linter.unusedVariables false
set_option linter.unusedSimpArgs false
set_option maxRecDepth 4000
open Bool renaming and_eq_true->Jm,false_eq_true->Jax
open Int renaming natCast_nonneg->Jay
open List renaming getD_eq_getElem?_getD->Ja,mem_singleton->Jb,take_of_length_le->Jc,getElem_mem->Jd,getElem?_eq_getElem->Je,length_map->Jg,mem_append_right->Jh,take_succ_eq_append_getElem->Ji,mem_append_left->Jk,length_nil->Jl,length_cons->Jn,length_set->Jo,map_append->Jp,mem_append->Jq,getElem?_eq_none->Jr,mem_map->Js,perm_append_comm->Jt,getD_cons_zero->Ju,mem_or_eq_of_mem_set->Jv,mem_iff_getElem->Jw,getD_cons_succ->Jx,drop_eq_getElem_cons->Jy,map_set->Jz,length_take->J0,drop_eq_nil_of_le->J1,length_append->J2,contains_iff_mem->J3,forall_mem_cons->J4,mem_cons_of_mem->J5,mem_of_getElem?->J6,flatMap_cons->J7,getElem?_map->J8,cons_append->J9,getElem_set->Jaa,append_nil->Jab,nil_append->Jac,getElem?_append_right->Jae,map_map->Jaf,map_nil->Jag,mem_cons_self->Jah,drop_zero->Jai,append_assoc->Jaj,eq_of_mem_replicate->Jak,idxOf_lt_length_iff->Jal,length_eq_zero_iff->Jam,map_cons->Jan,all_eq_true->Jao,getElem_set_self->Jaq,set_append_right->Jar,set_getElem_self->Jas,eraseIdx_set_eq->Jav,flatMap_append->Jaw,ext_getElem?->Jaz,getElem?_set->Ja0,not_mem_nil->Ja1,take_length->Ja2,mem_filter->Ja3,mem_range->Ja4,mem_cons->Ja5,set_set->Ja6
open Nat renaming zero_add->Jf,le_refl->Jj,sub_self->Jat,sub_zero->Ja7,zero_le->Ja8
open Option renaming map_some->Jad,getD_some->Jap
open Option.some renaming inj->Jau,injEq->Ja9
namespace Go.AE.Y
attribute [local go_sem] cond_true cond_false Bool.not_true Bool.not_false
open Go.Proofs.Tryz
variable {H H0 F:Heap}{K:V→Heap→Prop}{E L:List (Nat×Obj)}
def Aq (R:Nat)(zs:List (Nat×List Bool)):List (List C):=zs.map fun p=>[.af p.1 1 0 R]
def obZ (zs:List (Nat×List Bool)):List (Nat×Obj):=zs.map fun p=>(p.1,.vec 1 (Qt p.2))
theorem Bd (R:Nat)(zs:List (Nat×List Bool)):(Aq R zs).length=zs.length:=by simp[Aq]
theorem Ei (R:Nat)(zs:List (Nat×List Bool))(i:Nat)(h:i<zs.length):(Aq R zs).getD i []=[.af zs[i].1 1 0 R]:=by simp[Aq,Ja,h]
theorem PS {R:Nat}{zs:List (Nat×List Bool)}{i:Nat}{x:Nat×List Bool}(h:i<zs.length)(hx:x.1=zs[i].1):Aq R (zs.set i x)=Aq R zs:=by
 rw[Aq,Jz,hx];refine Jaz fun j=>?_;rw[Ja0];split
 ·subst_vars;rw[if_pos ZI];simp[Aq,h]
 ·rfl
def lvE (R yi yo:Nat)(zi zo:List (Nat×List Bool)):List (Nat×Obj):=[(yi,.vec 1 (Aq R zi)),(yo,.vec 1 (Aq R zo))]++(obZ zi++obZ zo)
variable {R yi yo:Nat}{zi zo:List (Nat×List Bool)}
theorem Qb3d {b:Nat}(hb:b<zo.length):(lvE R yi yo zi zo)[2+zi.length+b]? = some (zo[b].1,.vec 1 (Qt zo[b].2)):=by
 have:2+zi.length+b=(zi.length+b)+1+1:=Zx
 rw[lvE,this];simp only[J9,Jac,List.getElem?_cons_succ];rw[Jae (by simp[obZ])];simp[obZ,hb]
theorem VO {b z:Nat}{bs:List Bool}(hb:b<zo.length)(hz:zo[b].1=z):(lvE R yi yo zi zo).set (2+zi.length+b) (z,.vec 1 (Qt bs))=lvE R yi yo zi (zo.set b (z,bs)):=by
 have:2+zi.length+b=(zi.length+b)+1+1:=Zx
 rw[lvE,lvE,this,PS hb hz.symm];simp only[J9,Jac,List.set_cons_succ];rw[Jar _ _ (by simp[obZ])];simp[obZ,Jz]
theorem DH {b m z w:Nat}{bs nb:List Bool}(kn:Kn F H (lvE R yi yo zi (zo.set b (z,bs))) L)(hb:b<zo.length)(hz:zo[b].1=z)(hm:m<zi.length)(hw:zi[m]=(w,nb)) :
  H yi=.vec 1 (Aq R zi)∧H yo=.vec 1 (Aq R zo)∧H z=.vec 1 (Qt bs)∧H w=.vec 1 (Qt nb):=by
 refine⟨(kn.get (yi,.vec 1 (Aq R zi)) (by simp[lvE])).1,?_,(kn.get (z,.vec 1 (Qt bs)) ?_).1,(kn.get (w,.vec 1 (Qt nb)) ?_).1⟩
 ·rw[←PS (R:=R) (x:=(z,bs)) hb hz.symm];exact (kn.get (yo,.vec 1 (Aq R (zo.set b (z,bs)))) (by simp[lvE])).1
 ·refine Jk _ (Jh _ (Jh _ (Js.2 ⟨(z,bs),?_,rfl⟩)));exact Jw.2 ⟨b,ZQ,Zz⟩
 ·exact Jk _ (Jh _ (Jk _ (Js.2 ⟨(w,nb),by rw[←hw];exact Jd hm,rfl⟩)))
theorem VP {b z:Nat}{bs bs2:List Bool}{H':Heap}(kn:Kn F H (lvE R yi yo zi (zo.set b (z,bs))) L)(hb:b<zo.length)(h:H'=H.set z (.vec 1 (Qt bs2))):Kn F H' (lvE R yi yo zi (zo.set b (z,bs2))) L:=by
 have aZ:b<(zo.set b (z,bs)).length:=ZQ
 have:=kn.stE (2+zi.length+b) (x:=z) (o:=.vec 1 (Qt bs)) (by have h:=Qb3d (R:=R) (yi:=yi) (yo:=yo) (zi:=zi) aZ;simpa using h) h;rw[VO aZ Zz,Ja6]at this;exact this
theorem I4 {b z:Nat}{bs bs2:List Bool}:(lvE R yi yo zi (zo.set b (z,bs))).map Prod.fst=(lvE R yi yo zi (zo.set b (z,bs2))).map Prod.fst:=by
 have e:∀bs:List Bool,(obZ (zo.set b (z,bs))).map Prod.fst=(zo.map Prod.fst).set b z:=fun bs=>by
  simp only[obZ,Jz,Jaf];rfl
 simp only[lvE,Jp,Jan,Jag,e]
theorem Q6i {bs:List Bool}{r:Nat}(h:bs.getD r false=true):bs.set r true=bs:=by
 refine Jaz fun j=>?_;rw[Ja0];split
 ·subst_vars
  rw[Ja]at h;split
  ·rename_i hl;rw[Je hl]at h⊢;simp at h;rw[h]
  ·rename_i hl;rw[Jr Zx]
 ·rfl
structure lvOk (R n:Nat)(zi zo:List (Nat×List Bool)):Prop where
 i:zi.length=n
 o:zo.length=n
 li:∀p∈zi,p.2.length=R
 lo:∀p∈zo,p.2.length=R
set_option maxHeartbeats 4000000 in
theorem Qbn2 {q:CodeD}{bc:C}{Xs:List Nat}{b m z:Nat}{bs nb:List Bool}{w:Nat}(ho:q.ok)(dv:CodeR F Xs bc q)(hX:∀x∈(lvE q.ab.toNat yi yo zi zo).map Prod.fst,x∈Xs)(hb:b<q.blocks.length)(iE:(m:Int)∈gnx q b)(au:lvOk q.ab.toNat q.blocks.length zi zo)
  (hz:zo[b]? = some (z,bs)) (hw:zi[m]? = some (w,nb)) {O I:RS'} (hO:Mem bs O) (hI:Mem nb I)
  (kn:Kn F H (lvE q.ab.toNat yi yo zi zo) [])
  (hK:∀(bs':List Bool) (a:Bool) H',bs'.length=q.ab.toNat→Mem bs' (fun r=>O r∨I r∨r∈(Al q).ea b m)→(a=true→cnt bs<cnt bs')→(a=false→bs'=bs)→Kn F H' (lvE q.ab.toNat yi yo zi (zo.set b (z,bs'))) []→K (.c (.bool a)) H') :
  Qs prog Q6v [.ag [.int .i64 q.params,.int .i64 q.ab,bc],.ag [.af yi 1 0 q.blocks.length,.af yo 1 0 q.blocks.length],.c (.int .i64 b),.c (.int .i64 m)] H K:=by
 have bM:=ho.r0;have cG:=ho.r1;have bj:=ho.b1;have gm:m<q.blocks.length:=by
  have:=(ho.bs b hb).nx (m:Int) (by rw[←DX hb];exact iE);omega
 have gw:=ho.ix hb iE;have qj:(b:Int)∈Am (gnx q) (m:Int) q.blocks.length:=Jal.1 gw;obtain⟨y,hy⟩:∃y,q.blocks[m]=y:=⟨_,rfl⟩;have cD:y.ok q m:=by rw[←hy];exact ho.bs m gm
 have ck:y.ins.length≤1200∧y.aa.length≤1200:=by rw[←hy];exact ho.il m gm
 have pz:(Al q).ea b m=y.aa.map fun p=>(p.args.getD ((Am (gnx q) (m:Int) q.blocks.length).idxOf (b:Int)) 0).toNat:=by rw[Qbtc gm,hy]
 generalize b7:(Am (gnx q) (m:Int) q.blocks.length).idxOf (b:Int)=at_ at *;have cA:b<zo.length:=by rw[au.o];exact hb
 have eR:m<zi.length:=by rw[au.i];exact gm
 have gc:zo[b]=(z,bs):=by rw[Je cA]at hz;simpa using hz
 have fm:zi[m]=(w,nb):=by rw[Je eR]at hw;simpa using hw
 have nM:zo[b].1=z:=by rw[gc]
 have fy:zi[m].1=w:=by rw[fm]
 have bB:bs.length=q.ab.toNat:=au.lo (z,bs) (by rw[←gc];exact Jd cA);have ce:nb.length=q.ab.toNat:=au.li (w,nb) (by rw[←fm];exact Jd eR);have j5:=au.o;have pk:=au.i;have bY:zo.set b (z,bs)=zo:=PI hz;have bN:∀(bs1:List Bool),bs1.length=q.ab.toNat→(Qt bs1).take q.ab.toNat=Qt bs1:=fun bs1 h=>Jc Zai;have ot:∀(zs:List (Nat×List Bool)),zs.length=q.blocks.length→(Aq q.ab.toNat zs).take q.blocks.length=Aq q.ab.toNat zs:=fun zs h=>Jc (by rw[Bd];omega);rw[←bY]at kn hX;have fD:=dv.ow;have xw:∀(bs1:List Bool),∀x∈(lvE q.ab.toNat yi yo zi (zo.set b (z,bs1))).map Prod.fst,x∈Xs:=fun bs1 x hx=>hX x (by rw[I4 (bs2:=bs)]at hx;exact hx);obtain⟨hY,lx,pX,ye⟩:=DH kn cA nM eR fm;refine Qc Ab Qbou ?_;refine Wg ?_;simp only[go_sem,hY,ye,ot _ pk,bN _ ce,Bd,Ei _ _ _ eR,fy,gm,pk,Qy,ce,Jf,Jj,Jac,Jl];refine⟨.inl trivial,RX _,by simp only[LIM];omega,fun y9 fM H1 h1=>?_⟩;have kn:=kn.al fM h1;simp only[go_sem,OE];refine Zi fD ?_;refine Eg (rows:=Qo q.blocks) (nx:=gnx q) (dv.rd kn hX) fD (Do H1 q false).x fun H2 hu=>?_;have kn:=kn.aw hu;rw[Qm];simp only[go_sem,OC];refine CN (.mk' _ _ _ _) rfl fun r hr=>?_;have hr:=hr.idx qj;rw[b7]at hr;subst hr;simp only[go_sem,OD];refine Wa ?_;refine Qh (Qd (Qw (fun m1 e1 H1=>∃(i:Nat) (nb1:List Bool),m1=y.aa.length-i∧i≤y.aa.length∧nb1.length=q.ab.toNat∧Mem nb1 (fun r=>I r∨r∈((Al q).ea b m).take i)∧Kn F H1 (lvE q.ab.toNat yi yo zi (zo.set b (z,bs))) [(y9,.vec 1 (Qt nb1))]∧
  e1=[(2,.c (.int .i64 b)),(3,.c (.int .i64 m)),(4,.c (.pp [.int .i64 q.params,.int .i64 q.ab,bc])),(5,.c (.pp [.af yi 1 0 q.blocks.length,.af yo 1 0 q.blocks.length])),(9,.c (.af y9 1 0 q.ab.toNat)),(10,.c (.int .i64 at_)),(11,.c (.int .i64 i))]) y.aa.length ?_ ?_))
 ·exact⟨0,nb,Zx,Zx,ce,hI.congr fun r=>Zz,kn,rfl⟩
 ·rintro m1 e1 H3 ⟨i,nb1,qo,hi,ce,hN,kn,rfl⟩;have fM:=kn.l 0 rfl;obtain⟨b6,fx,fY,eO⟩:=dv.facts kn (xw bs);refine Q1 (Qa ?_);simp only[go_sem,fD,b6,fx,fY,eO,gm,Q9 _ _ gm,hy,BlkD.cells,Q7];intro _;refine Wu ?_ ?_
  ·intro hc;have ae:i<y.aa.length:=ZA
   have rx:=cD.pal _ (Jd ae);have dM:at_<y.aa[i].args.length:=Zx
   obtain⟨hv,bQ⟩:=(cD.pargs _ (Jd ae) _ (GH dM)).nat;have ey:((Al q).ea b m).take (i+1)=((Al q).ea b m).take i++[(y.aa[i].args.getD at_ 0).toNat]:=by
    rw[Ji (by rw[pz,Jg];exact ae)];simp[pz]
   have ew:(y.aa[i].args.getD at_ 0).toNat<nb1.length:=Zx
   generalize hr:(y.aa[i].args.getD at_ 0).toNat=r at *;refine Zd ?_
   refine Wt ?_;simp only[go_sem,fD,b6,fx,fY,eO,gm,Q9 _ _ gm,hy,BlkD.cells,Q7,ae,BL _ _ ae,PhiD.cells,dM,Qf,Qn _ _ dM,hv,bQ,fM,Qy,ce,Cl,Q4 _ _ ew,Jf,Jj];intro H4 h4;have kn:=kn.aB 0 rfl h4;refine Zf ?_;refine⟨Qr,y.aa.length-(i+1),Zx,i+1,_,rfl,Zx,by rw[Jo];exact ce,?_,kn,rfl⟩;refine (hN.ins Zx).congr fun x=>?_;rw[ey];simp only[Jq,Jb];constructor
   ·rintro (h|h|h)
    ·exact .inr (.inr h)
    ·exact .inl h
    ·exact .inr (.inl h)
   ·rintro (h|h|h)
    ·exact .inr (.inl h)
    ·exact .inr (.inr h)
    ·exact .inl h
  ·intro hc;have bd:y.aa.length≤i:=ZA
   have hN:Mem nb1 (fun r=>I r∨r∈(Al q).ea b m):=hN.congr fun r=>by rw[Jc (by rw[pz,Jg];exact bd)]
   refine Wc ?_;refine Wa ?_;refine Qh (Qd (Qw (fun m1 e1 H1=>∃(i:Nat) (bs1:List Bool) (more:Bool),m1=q.ab.toNat-i∧i≤q.ab.toNat∧bs1.length=q.ab.toNat∧Mem bs1 (fun r=>O r∨(r<i∧(I r∨r∈(Al q).ea b m)))∧(more=true→cnt bs<cnt bs1)∧(more=false→bs1=bs)∧
    Kn F H1 (lvE q.ab.toNat yi yo zi (zo.set b (z,bs1))) [(y9,.vec 1 (Qt nb1))]∧
    e1=[(2,.c (.int .i64 b)),(4,.c (.pp [.int .i64 q.params,.int .i64 q.ab,bc])),(5,.c (.pp [.af yi 1 0 q.blocks.length,.af yo 1 0 q.blocks.length])),(9,.c (.af y9 1 0 q.ab.toNat)),(12,.c (.bool more)),(13,.c (.int .i64 i))]) q.ab.toNat ?_ ?_))
   ·exact⟨0,bs,false,Zx,Zx,bB,hO.congr fun r=>Zz,Zz,fun _=>rfl,kn,rfl⟩
   ·rintro m1 e1 H4 ⟨i,bs1,more,qo,hi,gY,hB,gO,rK,kn,rfl⟩;have fM:=kn.l 0 rfl;obtain⟨hY,lx,pX,ye⟩:=DH kn cA nM eR fm;refine Wa ?_;refine Wu ?_ ?_
    ·intro hc;have ae:i<q.ab.toNat:=(by have:(i:Int)<q.ab:=(by simpa using hc);omega);have dW:i<nb1.length:=Zx;have aT:i<bs1.length:=Zx;refine Zd ?_
     refine A4 (fun e2 H2=>∃(bs2:List Bool) (more:Bool),bs2.length=q.ab.toNat∧Mem bs2 (fun r=>O r∨(r<i+1∧(I r∨r∈(Al q).ea b m)))∧(more=true→cnt bs<cnt bs2)∧(more=false→bs2=bs)∧
      Kn F H2 (lvE q.ab.toNat yi yo zi (zo.set b (z,bs2))) [(y9,.vec 1 (Qt nb1))]∧
      lk 2 e2=.c (.int .i64 b)∧lk 4 e2=.c (.pp [.int .i64 q.params,.int .i64 q.ab,bc])∧lk 5 e2=.c (.pp [.af yi 1 0 q.blocks.length,.af yo 1 0 q.blocks.length])∧lk 9 e2=.c (.af y9 1 0 q.ab.toNat)∧lk 12 e2=.c (.bool more)∧lk 13 e2=.c (.int .i64 i)) ?_ ?_
     ·intro Q bD _ _;refine Qd (Qa ?_);simp only[go_sem,fM,ae,bN _ ce,Qy,ce,Q4 _ _ dW,Jf,Jj];refine Wv ?_ ?_
      ·intro aC;have rH:=(hN i).1 aC;have xD:Mem (bs1.set i true) (fun r=>O r∨(r<i+1∧(I r∨r∈(Al q).ea b m))):=(hB.ins aT).congr fun r=>by
        constructor
        ·rintro (rfl|h|h)
         ·exact .inr ⟨Zx,rH⟩
         ·exact .inl h
         ·exact .inr ⟨Zx,h.2⟩
        ·rintro (h|h)
         ·exact .inr (.inl h)
         ·by_cases rc:r=i
          ·exact .inl rc
          ·exact .inr (.inr ⟨Zx,h.2⟩)
       have mV:∀(e:Env),lk 2 e=.c (.int .i64 b)→lk 4 e=.c (.pp [.int .i64 q.params,.int .i64 q.ab,bc])→lk 5 e=.c (.pp [.af yi 1 0 q.blocks.length,.af yo 1 0 q.blocks.length])→lk 9 e=.c (.af y9 1 0 q.ab.toNat)→lk 12 e=.c (.bool (bif more then true else !bs1.getD i false))→lk 13 e=.c (.int .i64 i)→
         Ac prog MT (X.inBlock 3 Q) e H4:=by
        intro e l2 l4 l5 l9 l12 l13;refine Qp ?_;simp only[go_sem,l2,l4,l5,l9,l12,l13,lx,pX,ot _ j5,Bd,Ei _ _ _ cA,nM,hb,j5,ae,Qy,gY,Cl,Q4 _ _ aT,Jf,Jj];intro H5 h5;refine bD _ _ ⟨bs1.set i true,_,by rw[Jo];exact gY,xD,?_,?_,VP kn cA h5,rfl,rfl,rfl,rfl,rfl,rfl⟩
        ·intro eX
         cases hg:bs1.getD i false with
         |true=>
          rw[Q6i hg];rw[hg]at eX
          cases dV:more with
          |true=>exact gO dV
          |false=>rw[dV]at eX;simp at eX
         |false=>
          rw[DK aT hg]
          cases dV:more with
          |true=>have:=gO dV;omega
          |false=>rw[rK dV];omega
        ·intro eX
         cases dV:more with
         |true=>rw[dV]at eX;simp at eX
         |false=>
          rw[dV]at eX;have hg:bs1.getD i false=true:=(by simpa using eX);rw[Q6i hg];exact rK dV
       cases dV:more with
       |true=>
        refine Qa ?_;simp only[go_sem,lx,pX,ot _ j5,bN _ gY,Bd,Ei _ _ _ cA,nM,hb,j5,ae,Qy,gY,Q4 _ _ aT,Jf,Jj];exact mV _ rfl rfl rfl rfl (by rw[dV];rfl) rfl
       |false=>
        refine Qa ?_;simp only[go_sem,lx,pX,ot _ j5,bN _ gY,Bd,Ei _ _ _ cA,nM,hb,j5,ae,Qy,gY,Q4 _ _ aT,Jf,Jj];exact mV _ rfl rfl rfl rfl (by rw[dV];rfl) rfl
      ·intro aC;refine Zd ?_
       refine bD _ _ ⟨bs1,more,gY,hB.congr fun r=>?_,gO,rK,kn,rfl,rfl,rfl,rfl,rfl,rfl⟩;constructor
       ·rintro (h|h)
        ·exact .inl h
        ·exact .inr ⟨Zx,h.2⟩
       ·rintro (h|h)
        ·exact .inl h
        ·by_cases rc:r=i
         ·subst rc;have:=(hN r).2 h.2;rw[this]at aC;exact absurd aC Zz
         ·exact .inr ⟨Zx,h.2⟩
     ·rintro e2 H5 ⟨bs2,more2,sB,hB2,vN,vS,kn,l2,l4,l5,l9,l12,l13⟩;refine Qp ?_;simp only[go_sem,X.next,l2,l4,l5,l9,l12,l13];exact⟨Qr,q.ab.toNat-(i+1),Zx,i+1,bs2,more2,rfl,Zx,sB,hB2,vN,vS,kn,rfl⟩
    ·intro hc;have bd:q.ab.toNat≤i:=(by have:q.ab≤(i:Int):=(by simpa using hc);omega);refine Wc ?_;refine Zj ?_;refine hK bs1 more H4 gY (hB.congr fun r=>?_) gO rK (kn.drop (A:=[]));constructor
     ·rintro (h|h)
      ·exact .inl h
      ·exact .inr h.2
     ·rintro (h|h)
      ·exact .inl h
      ·have:r<nb1.length:=hN.lt h;exact .inr ⟨Zx,h⟩
end Go.AE.Y
namespace Go.AE.Y
attribute [local go_sem] cond_true cond_false Bool.not_true Bool.not_false
open Go.Proofs.Tryz
variable {H H0 F:Heap}{K:V→Heap→Prop}{E L:List (Nat×Obj)}
def Cy (zs:List (Nat×List Bool)):List (List C):=zs.map fun p=>[.sl false 1 (Qt p.2)]
theorem Rf (zs:List (Nat×List Bool)):(Cy zs).length=zs.length:=by simp[Cy]
theorem Lk (zs:List (Nat×List Bool))(i:Nat)(h:i<zs.length):(Cy zs).getD i []=[.sl false 1 (Qt zs[i].2)]:=by simp[Cy,Ja,h]
theorem Re {S:Nat→Bool}{R:Nat}{zs:List (Nat×List Bool)}(hl:∀p∈zs,p.2.length=R)(hH:∀p∈obZ zs,H p.1=p.2∧S p.1=true):FrzR H S (Aq R zs) (Cy zs):=by
 induction zs with
 |nil=>exact .nil
 |cons z zs ih=>
  have h1:=hH (z.1,.vec 1 (Qt z.2)) (by simp[obZ]);refine .cons (.cons ?_ .nil) (ih (fun p hp=>hl p (J5 _ hp)) fun p hp=>hH p (by simp only[obZ,Jan];exact J5 _ hp));exact (FrzR.same (RX _)).af h1.2 h1.1 (by rw[Qy];exact (hl z Jah).symm)
theorem Yl {α:Type}{l:List α}{i:Nat}{x:α}(h:i<l.length):(l++[x]).Perm (l.set i x++[l[i]]):=by
 have e:∀(m:List α) (hm:i<m.length),m.Perm (m[i]::m.eraseIdx i):=fun m hm=>by
  have h1:(m[i]::m.eraseIdx i).Perm m:=by
   rw[List.eraseIdx_eq_take_drop_succ];refine List.perm_middle.symm.trans ?_;rw[←Jy hm,List.take_append_drop]
  exact h1.symm
 have h1:=e l h;have h2:=e (l.set i x) ZI;simp only[Jaq,Jav]at h2;refine (h1.append_right [x]).trans ?_;refine List.Perm.trans ?_ (h2.append_right [l[i]]).symm;simp only[J9];refine (List.Perm.cons _ Jt).trans ?_;refine List.Perm.trans ?_ (List.Perm.cons _ Jt);exact List.Perm.swap _ _ _
def Qb3c (q:CodeD)(zi zo:List (Nat×List Bool)):Prop:=lvOk q.ab.toNat q.blocks.length zi zo∧∀b,b<q.blocks.length→∀r,(tab zi b r↔(Al q).LI b r)∧(tab zo b r↔(Al q).LO b r)
theorem I2 {zs:List (Nat×List Bool)}{b:Nat}(h:b<zs.length):Mem zs[b].2 (tab zs b):=fun r=>(EE h r).symm
theorem Qair (n r:Nat):(List.replicate n false).getD r false=false:=by
 rw[Ja,List.getElem?_replicate];split <;> rfl
def B1 (x2 x3 yi yo n:Nat):List (Nat×Obj):=[(x2,.st [.sl true 1 [],.sl true 1 []]),(x3,.st [.af yi 1 0 n,.af yo 1 0 n])]
set_option maxHeartbeats 4000000 in
theorem KU {q:CodeD}{bc:C}(ho:q.ok)(dv:CodeR H [] bc q)
  (hK:∀(zi zo:List (Nat×List Bool)) H',Upd H H' []→Qb3c q zi zo→K (.ag [.sl false 1 (Cy zi),.sl false 1 (Cy zo)]) H') :
  Qs prog Rz [.ag [.int .i64 q.params,.int .i64 q.ab,bc]] H K:=by
 have bM:=ho.r0;have cG:=ho.r1;have eH:=ho.b0;have bj:=ho.b1;have aW:=ho.fitsF;have hFn:(Al q).n=q.blocks.length:=rfl;obtain⟨R,hR⟩:∃R,q.ab.toNat=R:=⟨_,rfl⟩;obtain⟨n,hn⟩:∃n,q.blocks.length=n:=⟨_,rfl⟩;have sM:q.ab=(R:Int):=Zx
 refine Qx ?_;have fD:=dv.ow;refine Qc Ab Qbow ?_;refine Za ?_;intro x2 aI H1 h1;have kn:=(Kn.aq H).al aI h1;refine Za ?_;intro x3 aP H2 h2;have kn:=kn.al aP h2;have aP:=kn.l 1 rfl;simp only[go_sem,OA,aP];intro H3 h3;have kn:Kn H H3 [] [(x2,.st [.sl true 1 [],.sl true 1 []]),(x3,.st [.sl true 1 [],.sl true 1 []])]:=kn.aB 1 rfl h3;refine Qa ?_;obtain⟨b6,fx,fY,eO⟩:=dv.facts kn Zz;simp only[go_sem,fD,b6,fx,hn];clear b6 eO;intro _;refine Wa ?_;refine Qh (Qd (Qw (fun m e1 H1=>∃(i:Nat) (zi zo:List (Nat×List Bool)) (ci co:C) (Li Lo:List (Nat×Obj)),m=n-i∧i≤n∧zi.length=i∧zo.length=i∧(∀p∈zi,p.2=List.replicate R false)∧(∀p∈zo,p.2=List.replicate R false)∧
  Gr Li 1 (Aq R zi) ci∧Gr Lo 1 (Aq R zo) co∧Kn H H1 [] ([(x2,.st [.sl true 1 [],.sl true 1 []]),(x3,.st [ci,co])]++(obZ zi++(obZ zo++(Li++Lo))))∧
  e1=[(1,.c (.pp [.int .i64 q.params,.int .i64 q.ab,bc])),(2,.c (.ptr x2 0)),(3,.c (.ptr x3 0)),(4,.c (.int .i64 n)),(5,.c (.int .i64 i))]) n ?_ ?_))
 ·exact⟨0,[],[],_,_,[],[],Zx,Zx,rfl,rfl,Zz,Zz,.nil 1,.nil 1,kn,rfl⟩
 ·rintro m e1 H4 ⟨i,zi,zo,ci,co,Li,Lo,hm,hi,jG,jF,gB,nL,dK,df,kn,rfl⟩;refine Wa ?_;refine Wu ?_ ?_
  ·intro hc;have ae:i<n:=ZA
   have su:=dK.ah;have bH:=df.ah;have aP:=kn.l 1 rfl;refine Zd ?_
   refine Qh (Qd ?_);refine Aj ?_;simp only[go_sem,aP,su];refine⟨Zx,by simp only[LIM];omega,fun y1 qI H5 h5=>?_⟩;have kn:Kn H H5 [] (([(x2,.st [.sl true 1 [],.sl true 1 []]),(x3,.st [ci,co])]++(obZ (zi++[(y1,List.replicate R false)])++(obZ zo++Lo)))++Li):=
    (kn.al qI h5).perm (Qj fun f hf h0 hc hp=>by
     have cz:=hc (x2,.st [.sl true 1 [],.sl true 1 []]) [(x3,.st [ci,co])];simp only[hf,obZ,Jp,Jan,Jag,EY,hR];omega)
   have aP:=kn.l 1 rfl;simp only[go_sem,O8,aP,su];refine kn.bg dK (.mk' _ _ _ _) (by intro r hr;simp at hr;subst hr;rfl) (by simp only[LIM,Bd,Jn,Jl];omega) fun ci2 Li2 H6 pq yU kn=>?_;have aP:=kn.l 1 rfl;simp only[go_sem,O9,aP];intro H7 h7;have kn:Kn H H7 [] ([(x2,.st [.sl true 1 [],.sl true 1 []]),(x3,.st [ci2,co])]++(obZ (zi++[(y1,List.replicate R false)])++(obZ zo++Lo))++Li2):=kn.aB 1 rfl h7;have pq:Gr Li2 1 (Aq R (zi++[(y1,List.replicate R false)])) ci2:=by
    have:Aq R (zi++[(y1,List.replicate R false)])=Aq R zi++[[C.af y1 1 0 q.ab.toNat]]:=(by simp[Aq,hR]);rw[this];exact pq
   have aP:=kn.l 1 rfl;refine Au ?_;simp only[go_sem,aP,bH];refine⟨Zx,by simp only[LIM];omega,fun y2 ji H8 h8=>?_⟩;have kn:Kn H H8 [] (([(x2,.st [.sl true 1 [],.sl true 1 []]),(x3,.st [ci2,co])]++(obZ (zi++[(y1,List.replicate R false)])++(obZ (zo++[(y2,List.replicate R false)])++Li2)))++Lo):=
    (kn.al ji h8).perm (Qj fun f hf h0 hc hp=>by
     simp only[hf,obZ,Jp,Jan,Jag,EY,hR];omega)
   have aP:=kn.l 1 rfl;simp only[go_sem,O6,aP,bH];refine kn.bg df (.mk' _ _ _ _) (by intro r hr;simp at hr;subst hr;rfl) (by simp only[LIM,Bd,Jn,Jl];omega) fun co2 Lo2 H9 kK yT kn=>?_;have aP:=kn.l 1 rfl;simp only[go_sem,O7,aP];intro H10 cS;have kn:Kn H H10 [] ([(x2,.st [.sl true 1 [],.sl true 1 []]),(x3,.st [ci2,co2])]++(obZ (zi++[(y1,List.replicate R false)])++(obZ (zo++[(y2,List.replicate R false)])++Li2))++Lo2):=kn.aB 1 rfl cS;have kK:Gr Lo2 1 (Aq R (zo++[(y2,List.replicate R false)])) co2:=by
    have:Aq R (zo++[(y2,List.replicate R false)])=Aq R zo++[[C.af y2 1 0 q.ab.toNat]]:=(by simp[Aq,hR]);rw[this];exact kK
   refine Zf ?_;refine⟨Qr,n-(i+1),Zx,i+1,zi++[(y1,List.replicate R false)],zo++[(y2,List.replicate R false)],ci2,co2,Li2,Lo2,rfl,Zx,by simp[jG],by simp[jF],?_,?_,pq,kK,?_,rfl⟩
   ·intro p hp;rcases Jq.1 hp with hp|hp
    ·exact gB p hp
    ·simp at hp;rw[hp]
   ·intro p hp;rcases Jq.1 hp with hp|hp
    ·exact nL p hp
    ·simp at hp;rw[hp]
   ·exact kn.perm (by simp only[Jaj];exact .refl _)
  ·intro hc;have dm:i=n:=by have:n≤i:=ZA;omega
   subst dm;obtain⟨yi,hY,zy⟩:∃yi,ci=.af yi 1 0 i∧Li=[(yi,.vec 1 (Aq R zi))]:=by
    rcases dK with ⟨_,h,_⟩|⟨y,h1,h2⟩
    ·have:=congrArg List.length h;rw[Bd,jG]at this;simp at this;omega
    ·exact⟨y,by rw[h1,Bd,jG],h2⟩
   obtain⟨yo,cD,zw⟩:∃yo,co=.af yo 1 0 i∧Lo=[(yo,.vec 1 (Aq R zo))]:=by
    rcases df with ⟨_,h,_⟩|⟨y,h1,h2⟩
    ·have:=congrArg List.length h;rw[Bd,jF]at this;simp at this;omega
    ·exact⟨y,by rw[h1,Bd,jF],h2⟩
   have kn:Kn H H4 [] (lvE R yi yo zi zo++B1 x2 x3 yi yo i):=by
    refine kn.perm (Qj fun f hf h0 hc hp=>?_);rw[zy,zw,hY,cD];have e1:=hc (x2,.st [.sl true 1 [],.sl true 1 []]) [(x3,.st [.af yi 1 0 i,.af yo 1 0 i])];have e2:=hc (yi,.vec 1 (Aq R zi)) [(yo,.vec 1 (Aq R zo))];simp only[hf,lvE,B1];omega
   have cI:lvOk R i zi zo:=⟨jG,jF,fun p hp=>by rw[gB p hp];simp,fun p hp=>by rw[nL p hp];simp⟩;have cd:∀(zs:List (Nat×List Bool)),(∀p∈zs,p.2=List.replicate R false)→∀b r,¬tab zs b r:=fun zs h b r hr=>by
    rw[tab]at hr
    cases hg:zs[b]? with
    |none=>rw[hg]at hr;simp at hr
    |some p=>
     rw[hg]at hr;have:=h p (J6 hg);simp only[Jad,Jap,this,Qair]at hr;exact absurd hr Zz
   have fc:LvInv (Al q) zi zo:=⟨fun b _ r hr=>absurd hr (cd zi gB b r),fun b _ r hr=>absurd hr (cd zo nL b r),fun b _ r hr=>absurd hr (cd zi gB b r)⟩;refine Zc ?_;refine Wa ?_;clear cd gB nL dK df zy zw hY cD jG jF hm hc hi;refine Qh (Qd (Qw (fun m e1 H1=>∃(zi zo:List (Nat×List Bool)) (a:Bool) (yi yo:Nat),m=(if a=true then 2 * (i * R)+1-(Av zi+Av zo)else 0)∧lvOk R i zi zo∧LvInv (Al q) zi zo∧(a=false→∀b,b<i→LvCl (Al q) zi zo b)∧
    Kn H H1 [] (lvE R yi yo zi zo++B1 x2 x3 yi yo i)∧
    lk 1 e1=.c (.pp [.int .i64 q.params,.int .i64 q.ab,bc])∧lk 2 e1=.c (.ptr x2 0)∧lk 3 e1=.c (.ptr x3 0)∧lk 4 e1=.c (.int .i64 i)∧lk 6 e1=.c (.bool a)) (2 * (i * R)+1-(Av zi+Av zo)) ?_ ?_))
   ·exact⟨zi,zo,true,yi,yo,rfl,cI,fc,fun h=>ZF,kn,rfl,rfl,rfl,rfl,rfl⟩
   ·clear cI fc kn;rintro m e1 H5 ⟨zi,zo,a,yi,yo,hm,cI,fc,cm,kn,l1,l2,l3,l4,l6⟩;have lG:=DD cI.li;have lF:=DD cI.lo;rw[cI.i]at lG;rw[cI.o]at lF;refine Q1 (Qa ?_);simp only[go_sem,l1,l2,l3,l4,l6];refine Wu ?_ ?_
    ·intro b7;rw[b7,if_pos rfl]at hm;refine Zd ?_
     refine Ws ?_;refine Za ?_;refine⟨Qr,?_⟩;clear cm;refine Qd (Qw (fun m1 e1 H1=>∃(k:Nat) (j:Int) (zi1 zo1:List (Nat×List Bool)) (a:Bool) (yi yo:Nat),m1=k∧k≤i∧j=(k:Int)-1∧lvOk R i zi1 zo1∧LvInv (Al q) zi1 zo1∧Av zi+Av zo≤Av zi1+Av zo1∧
      (a=true→Av zi+Av zo<Av zi1+Av zo1)∧(a=false→∀b,k≤b→b<i→LvCl (Al q) zi1 zo1 b)∧
      Kn H H1 [] (lvE R yi yo zi1 zo1++B1 x2 x3 yi yo i)∧
      e1=[(1,.c (.pp [.int .i64 q.params,.int .i64 q.ab,bc])),(2,.c (.ptr x2 0)),(3,.c (.ptr x3 0)),(4,.c (.int .i64 i)),(6,.c (.bool a)),(7,.c (.int .i64 j))]) i ?_ ?_)
     ·exact⟨i,_,zi,zo,false,yi,yo,rfl,Jj _,rfl,cI,fc,Jj _,fun h=>ZF,fun _ b h1 h2=>Zx,kn,rfl⟩
     ·have hTb:Av zi+Av zo≤2 * (i * R):=Zx;generalize hT0:Av zi+Av zo=T0 at *;clear fc cI kn lF lG hT0;clear zi zo yi yo;rintro m1 e1 H6 ⟨k,j,zi,zo,a,yi,yo,rfl,hk,hjk,cI,fc,htot,tg,qf,kn,rfl⟩;have lG:=DD cI.li;have lF:=DD cI.lo;rw[cI.i]at lG;rw[cI.o]at lF;refine Wa ?_;refine Wu ?_ ?_
      ·intro hc;have bd:0≤j:=ZA;obtain⟨b,rfl⟩:∃b,m1=b+1:=⟨m1-1,Zx⟩;have hj:j=(b:Int):=Zx;subst hj;have dt:b<i:=Zx;have fw:b<q.blocks.length:=Zx;have cA:b<zo.length:=(by rw[cI.o];exact dt);have cf:b<zi.length:=(by rw[cI.i];exact dt);obtain⟨⟨z,bs⟩,hz⟩:∃p,zo[b]=p:=⟨_,rfl⟩;obtain⟨⟨w,bw⟩,hw⟩:∃p,zi[b]=p:=⟨_,rfl⟩;have gc:zo[b]? = some (z,bs):=(by rw[Je cA,hz]);have fm:zi[b]? = some (w,bw):=(by rw[Je cf,hw]);have wV:bs.length=R:=cI.lo (z,bs) (by rw[←hz];exact Jd cA);have mw:bw.length=R:=cI.li (w,bw) (by rw[←hw];exact Jd cf);have eX:Mem bs (tab zo b):=(by have:=I2 cA;rw[hz]at this;exact this);have kZ:zo.set b (z,bs)=zo:=PI gc;obtain⟨y,hy⟩:∃y,q.blocks[b]=y:=⟨_,rfl⟩;have cD:y.ok q b:=(by rw[←hy];exact ho.bs b fw);have ck:y.ins.length≤1200∧y.aa.length≤1200:=(by rw[←hy];exact ho.il b fw);have eW:(Al q).nx b=y.next.map Int.toNat:=(by rw[←hy,←DX fw];rfl);have eG:(Al q).ph b=y.aa.map fun p=>p.to.toNat:=(by rw[Qbte fw,hy]);refine Zd ?_
       refine A4 (fun e2 H2=>∃(zi2 zo2:List (Nat×List Bool)) (a2:Bool) (yi yo:Nat),lvOk R i zi2 zo2∧LvInv (Al q) zi2 zo2∧Av zi+Av zo≤Av zi2+Av zo2∧
        (a2=true→a=true∨Av zi+Av zo<Av zi2+Av zo2)∧(a2=false→a=false∧LvCl (Al q) zi2 zo2 b∧∀c,LvCl (Al q) zi zo c→LvCl (Al q) zi2 zo2 c)∧
        Kn H H2 [] (lvE R yi yo zi2 zo2++B1 x2 x3 yi yo i)∧
        lk 1 e2=.c (.pp [.int .i64 q.params,.int .i64 q.ab,bc])∧lk 2 e2=.c (.ptr x2 0)∧lk 3 e2=.c (.ptr x3 0)∧lk 4 e2=.c (.int .i64 i)∧lk 6 e2=.c (.bool a2)∧lk 7 e2=.c (.int .i64 b)) ?_ ?_
       ·intro Q bD _ _;refine Qd (Q1 ?_);refine Za ?_;refine Qh (Qd (Qw (fun m2 e1 H1=>∃(i2:Nat) (bs1:List Bool) (a1:Bool),m2=y.next.length-i2∧i2≤y.next.length∧bs1.length=R∧(∀r,bs.getD r false=true→bs1.getD r false=true)∧(∀r,bs1.getD r false=true→(Al q).LO b r)∧
         (∀m∈((Al q).nx b).take i2,∀r,tab zi m r∨r∈(Al q).ea b m→bs1.getD r false=true)∧(a1=true→a=true∨cnt bs<cnt bs1)∧(a1=false→a=false∧bs1=bs)∧
         Kn H H1 [] (lvE R yi yo zi (zo.set b (z,bs1))++B1 x2 x3 yi yo i)∧
         e1=[(1,.c (.pp [.int .i64 q.params,.int .i64 q.ab,bc])),(2,.c (.ptr x2 0)),(3,.c (.ptr x3 0)),(4,.c (.int .i64 i)),(6,.c (.bool a1)),(7,.c (.int .i64 b)),(8,.c (.int .i64 i2))]) y.next.length ?_ ?_))
        ·exact⟨0,bs,a,Zx,Zx,wV,fun r h=>h,fun r h=>fc.bo b fw r ((eX r).1 h),Zz,fun h=>.inl h,fun h=>⟨h,rfl⟩,by rw[kZ];exact kn,rfl⟩
        ·rintro m2 e1 H7 ⟨i2,bs1,a1,eo,pm,fZ,g1,g2,g3,k1,k2,kn,rfl⟩;have aP:H7 x3=.st [.af yi 1 0 i,.af yo 1 0 i]:=(kn.get (x3,.st [.af yi 1 0 i,.af yo 1 0 i]) Zbb).1;obtain⟨b6,_,_,eO⟩:=dv.facts kn Zz;refine Q1 (Qa ?_);simp only[go_sem,fD,b6,fx,fY,eO,fw,Q9 _ _ fw,hy,BlkD.cells,Qf];intro _;refine Wu ?_ ?_
         ·intro aC;have ae:i2<y.next.length:=ZC;have hnl2:=cD.nxl;have bG:y.next.getD i2 0=y.next[i2]:=(by simp[Ja,ae]);have iE:y.next[i2]∈gnx q b:=(by rw[DX fw,hy];exact Jd ae);have hmr:=cD.nx _ (Jd ae);obtain⟨mm,dV⟩:=Int.eq_ofNat_of_zero_le (show 0≤y.next[i2]by omega);have eR:mm<zi.length:=(by rw[cI.i];omega);have vU:mm∈(Al q).nx b:=(by rw[eW];exact Js.2 ⟨y.next[i2],Jd ae,by rw[dV];rfl⟩);have bN:((Al q).nx b).take (i2+1)=((Al q).nx b).take i2++[mm]:=by
           rw[Ji (by rw[eW,Jg];exact ae)];congr 1;simp only[eW,List.getElem_map,dV];rfl
          rw[dV]at iE bG;have wY:b<(zo.set b (z,bs1)).length:=(by simpa using cA);have vW:lvOk R i zi (zo.set b (z,bs1)):=⟨cI.i,by rw[Jo];exact cI.o,cI.li,fun p hp=>by
           rcases Jv hp with hp|rfl
           ·exact cI.lo p hp
           ·exact fZ⟩
          refine Zd ?_
          refine Wr ?_;simp only[go_sem,aP,fD,b6,fx,fY,eO,fw,Q9 _ _ fw,hy,BlkD.cells,ae,Qf,Qn _ _ ae,bG];subst hR;subst hn;refine Qbn2 (F:=H7) (z:=z) (bs:=bs1) (w:=zi[mm].1) (nb:=zi[mm].2) (O:=fun r=>bs1.getD r false=true) (I:=tab zi mm) ho (dv.mid kn) (fun x hx=>by rw[Jp];exact Jk _ hx) fw iE vW (by rw[List.getElem?_set_self cA]) (by rw[Je eR]) (fun r=>Iff.rfl) (I2 eR) kn.mid fun bs2 f H8 pN eZ kN iZ k2'=>?_;rw[Ja6]at k2';have kn:=(kn.comp k2' I4).drop;have stepT:∀a1',(a1'=(f || a1))→∃m,m<m2∧∃(i5:Nat) (bs1:List Bool) (a1:Bool),m=y.next.length-i5∧i5≤y.next.length∧bs1.length=q.ab.toNat∧(∀r,bs.getD r false=true→bs1.getD r false=true)∧(∀r,bs1.getD r false=true→(Al q).LO b r)∧
            (∀m∈((Al q).nx b).take i5,∀r,tab zi m r∨r∈(Al q).ea b m→bs1.getD r false=true)∧(a1=true→a=true∨cnt bs<cnt bs1)∧(a1=false→a=false∧bs1=bs)∧
            Kn H H8 [] (lvE q.ab.toNat yi yo zi (zo.set b (z,bs1))++B1 x2 x3 yi yo q.blocks.length)∧
            [(1,V.c (.pp [.int .i64 q.params,.int .i64 q.ab,bc])),(2,.c (.ptr x2 0)),(3,.c (.ptr x3 0)),(4,.c (.int .i64 q.blocks.length)),(6,.c (.bool a1')),(7,.c (.int .i64 b)),(8,.c (.int .i64 ((i2:Int)+1)))]=[(1,.c (.pp [.int .i64 q.params,.int .i64 q.ab,bc])),(2,.c (.ptr x2 0)),(3,.c (.ptr x3 0)),(4,.c (.int .i64 q.blocks.length)),(6,.c (.bool a1)),(7,.c (.int .i64 b)),(8,.c (.int .i64 i5))]:=by
           intro a1' sF;refine⟨y.next.length-(i2+1),Zx,i2+1,bs2,a1',rfl,Zx,pN,fun r hr=>(eZ r).2 (.inl (g1 r hr)),fun r hr=>?_,fun m hm r hr=>?_,fun ha=>?_,fun ha=>?_,kn,rfl⟩
           ·rcases (eZ r).1 hr with h|h|h
            ·exact g2 r h
            ·exact⟨mm,vU,.inl (fc.bi mm (aW b fw mm vU) r h)⟩
            ·exact⟨mm,vU,.inr h⟩
           ·rw[bN]at hm;rcases Jq.1 hm with hm|hm
            ·exact (eZ r).2 (.inl (g3 m hm r hr))
            ·simp only[Jb]at hm;subst hm;exact (eZ r).2 (.inr hr)
           ·have c1:cnt bs≤cnt bs1:=(FZ Zx g1).1
            cases hf:f with
            |true=>have:=kN hf;right;omega
            |false=>
             rw[iZ hf];rw[sF,hf]at ha;exact k1 Zaz
           ·rw[sF]at ha;have qs:f=false:=by cases hf:f with
             |true=>rw[hf]at ha;simp at ha
             |false=>rfl
            rw[qs]at ha;obtain⟨q1,q2⟩:=k2 Zaz;exact⟨q1,by rw[iZ qs,q2]⟩
          cases yP:f with
          |true=>
           simp only[go_sem,SJ];refine Zf ?_;exact⟨Qr,stepT true (by rw[yP];rfl)⟩
          |false=>
           simp only[go_sem,SJ];refine Zf ?_;exact⟨Qr,stepT a1 (by rw[yP];rfl)⟩
         ·intro aC;have w9:y.next.length≤i2:=ZC;have g3:∀r,(Al q).outT (tab zi) b r→bs1.getD r false=true:=fun r ⟨m,hm,hr⟩=>
           g3 m (by rw[Jc (by rw[eW,Jg];exact w9)];exact hm) r hr
          refine Zc ?_;refine Zl aP fD ?_;have wY:b<(zo.set b (z,bs1)).length:=(by simpa using cA);obtain⟨lz,nN,nI,od⟩:=DH kn.mid cA (by rw[hz]) cf hw;have gH:Slc H7 1 (Aq R zo) (.af yo 1 0 i):=⟨by simp only[bh,nN,Bd,cI.o];exact⟨trivial,Zx⟩,rfl,by simp only[rowsOf,nN,Jai];exact Jc (by rw[Bd,cI.o];exact Jj _),by simp only[ay,Bd,cI.o]⟩;have ka:Slc H7 1 (Qt bs1) (.af z 1 0 R):=⟨by simp only[bh,nI,Qy,fZ];exact⟨trivial,Zx⟩,rfl,by simp only[rowsOf,nI,Jai];exact Jc (by rw[Qy,fZ];exact Jj _),by simp only[ay,Qy,fZ]⟩;refine Qa89 (i:=-1) (ic:=.af yi 1 0 i) (bc:=bc) (W:=fun r=>bs1.getD r false=true) ho (dv.mid kn).nil fw Zx Zx kn gH rfl rfl (by rw[Bd];exact cA) (by rw[Ei _ _ _ cA,hz]) ka rfl (by rw[hR];exact fZ) (fun r=>Iff.rfl) fun y9 nb0 H8 lY kx kn=>?_;rw[hR]at lY;simp only[go_sem,Q43,hR];refine Wa ?_;refine Qh (Qd (Qw (fun m2 e1 H1=>∃(i2:Nat) (nb:List Bool),m2=y.aa.length-i2∧i2≤y.aa.length∧nb.length=R∧Mem nb (fun r=>(Al q).beh (fun r=>bs1.getD r false=true) b 0 r∧r∉((Al q).ph b).take i2)∧
           Kn H H1 [] ((lvE R yi yo zi (zo.set b (z,bs1))++B1 x2 x3 yi yo i)++[(y9,.vec 1 (Qt nb))])∧
           e1=[(1,.c (.pp [.int .i64 q.params,.int .i64 q.ab,bc])),(2,.c (.ptr x2 0)),(3,.c (.ptr x3 0)),(4,.c (.int .i64 i)),(6,.c (.bool a1)),(7,.c (.int .i64 b)),(9,.c (.af y9 1 0 R)),(10,.c (.int .i64 i2))]) y.aa.length ?_ ?_))
          ·exact⟨0,nb0,Zx,Zx,lY,kx.congr fun r=>Zz,kn,rfl⟩
          ·clear kx lY kn;rintro m3 e1 H9 ⟨i3,nb,nq,hi3,ce,tC,kn,rfl⟩;have fM:H9 y9=.vec 1 (Qt nb):=(kn.get (y9,.vec 1 (Qt nb)) Zz).1;have htkn:(Qt nb).take R=Qt nb:=Jc Zai;obtain⟨b6,_,_,eO⟩:=dv.facts kn Zz;refine Q1 (Qa ?_);simp only[go_sem,fD,b6,fx,fY,eO,fw,Q9 _ _ fw,hy,BlkD.cells,Q7];intro _;refine Wu ?_ ?_
           ·intro bI;have bk:i3<y.aa.length:=ZL;obtain⟨hv,bQ⟩:=(cD.pto _ (Jd bk)).nat;rw[hR]at bQ;have gG:((Al q).ph b).take (i3+1)=((Al q).ph b).take i3++[(y.aa[i3].to).toNat]:=by
             rw[Ji (by rw[eG,Jg];exact bk)];simp[eG]
            have ew:(y.aa[i3].to).toNat<nb.length:=Zx;generalize hr:(y.aa[i3].to).toNat=r at *;refine Zd ?_
            refine Wt ?_;simp only[go_sem,fD,b6,fx,fY,eO,fw,Q9 _ _ fw,hy,BlkD.cells,bk,Q7,BL _ _ bk,PhiD.cells,hv,bQ,fM,Qy,ce,Cl,Q4 _ _ ew,Jf,Jj];intro H10 cS;have kn:=kn.aB (lvE R yi yo zi (zo.set b (z,bs1))++B1 x2 x3 yi yo i).length (x:=y9) (o:=.vec 1 (Qt nb)) Zz cS;refine Zf ?_;refine⟨Qr,y.aa.length-(i3+1),Zx,i3+1,nb.set r false,rfl,Zx,by rw[Jo];exact ce,?_,ZH,rfl⟩;refine (tC.del ew).congr fun x=>?_;rw[gG];simp only[Jq,Jb,not_or,and_assoc]
           ·intro bI;have w8:y.aa.length≤i3:=ZL;have tC:Mem nb ((Al q).thru (fun r=>bs1.getD r false=true) b):=tC.congr fun r=>(by rw[Jc (by rw[eG,Jg];exact w8)];rfl);refine Zc ?_;refine Wa ?_;refine Qh (Qd (Qw (fun m4 e1 H1=>∃(i4:Nat) (a2:Bool),m4=R-i4∧i4≤R∧H1=H9∧(a2=true→a1=true∨∃r,nb.getD r false≠bw.getD r false)∧(a2=false→a1=false∧∀r,r<i4→nb.getD r false=bw.getD r false)∧
             e1=[(1,.c (.pp [.int .i64 q.params,.int .i64 q.ab,bc])),(2,.c (.ptr x2 0)),(3,.c (.ptr x3 0)),(4,.c (.int .i64 i)),(6,.c (.bool a2)),(7,.c (.int .i64 b)),(9,.c (.af y9 1 0 R)),(11,.c (.int .i64 i4))]) R ?_ ?_))
            ·exact⟨0,a1,Zx,Zx,rfl,fun h=>.inl h,fun h=>⟨h,fun r hr=>Zx⟩,rfl⟩
            ·have aP:H9 x3=.st [.af yi 1 0 i,.af yo 1 0 i]:=(kn.get (x3,.st [.af yi 1 0 i,.af yo 1 0 i]) Zbb).1;have knA:=kn.drop;obtain⟨lz,nN,nI,od⟩:=DH knA.mid cA (by rw[hz]) cf hw;rintro m4 e1 H10 ⟨i4,a2,hm4,hi4,rfl,k3,k4,rfl⟩;have ot:∀(zs:List (Nat×List Bool)),zs.length=i→(Aq R zs).take i=Aq R zs:=fun zs h=>Jc (by rw[Bd];omega);have th:∀(bs:List Bool),bs.length=R→(Qt bs).take R=Qt bs:=fun bs h=>Jc Zai;have fy:zi[b].1=w:=(by rw[hw]);have kE:=cI.i;refine Wa ?_;refine Wu ?_ ?_
             ·intro dq;have kz:i4<R:=(by have:(i4:Int)<q.ab:=(by simpa using dq);omega);have rM:i4<nb.length:=Zx;have rL:i4<bw.length:=Zx;refine Zd ?_
              refine A4 (fun e2 H2=>∃(a3:Bool),H2=H10∧(a3=true→a2=true∨nb.getD i4 false≠bw.getD i4 false)∧(a3=false→a2=false∧nb.getD i4 false=bw.getD i4 false)∧
               lk 1 e2=.c (.pp [.int .i64 q.params,.int .i64 q.ab,bc])∧lk 2 e2=.c (.ptr x2 0)∧lk 3 e2=.c (.ptr x3 0)∧lk 4 e2=.c (.int .i64 i)∧lk 6 e2=.c (.bool a3)∧lk 7 e2=.c (.int .i64 b)∧lk 9 e2=.c (.af y9 1 0 R)∧lk 11 e2=.c (.int .i64 i4)) ?_ ?_
              ·intro Q bD _ _;refine Qd ?_
               cases kW:a2 with
               |true=>
                refine Au ?_;simp only[go_sem,aP,lz,od,fM,ot _ kE,th _ ce,th _ mw,Bd,Ei _ _ _ cf,fy,dt,kE,kz,Qy,ce,mw,Q4 _ _ rM,Q4 _ _ rL,Jf,Jj];exact bD _ _ ⟨true,rfl,fun _=>.inl kW,fun h=>ZF,rfl,rfl,rfl,rfl,rfl,rfl,rfl,rfl⟩
               |false=>
                refine Au ?_;simp only[go_sem,aP,lz,od,fM,ot _ kE,th _ ce,th _ mw,Bd,Ei _ _ _ cf,fy,dt,kE,kz,Qy,ce,mw,Q4 _ _ rM,Q4 _ _ rL,Jf,Jj];refine bD _ _ ⟨_,rfl,fun h=>?_,fun h=>?_,rfl,rfl,rfl,rfl,rfl,rfl,rfl,rfl⟩
                ·right;intro he;rw[he]at h;simp at h
                ·exact⟨kW,ZI⟩
              ·rintro e2 H11 ⟨a3,rfl,q1,q2,l1,l2,l3,l4,l6,l7,l9,l11⟩;refine Qp ?_;simp only[go_sem,X.next,l1,l2,l3,l4,l6,l7,l9,l11];refine⟨Qr,R-(i4+1),Zx,i4+1,a3,rfl,Zx,fun h=>?_,fun h=>?_,rfl⟩
               ·rcases q1 h with h1|h1
                ·exact k3 h1
                ·exact .inr ⟨i4,h1⟩
               ·obtain⟨h1,h2⟩:=q2 h;obtain⟨h3,h4⟩:=k4 h1;refine⟨h3,fun r hr=>?_⟩;by_cases rc:r<i4
                ·exact h4 r rc
                ·have:r=i4:=Zx;subst this;exact h2
             ·intro dq;have w7:i4=R:=(by have:¬(i4:Int)<q.ab:=(by simpa using dq);omega);subst w7;refine Zc ?_;refine Qp ?_;simp only[go_sem,aP,lz,Bd,Ei _ _ _ cf,dt,kE,Jf,Jj];intro H11 dY;have aK:(Aq i4 zi).set b [.af y9 1 0 i4]=Aq i4 (zi.set b (y9,nb)):=(by rw[Aq,Aq,Jz]);rw[aK]at dY;have lV:obZ (zi.set b (y9,nb))=(obZ zi).set b (y9,.vec 1 (Qt nb)):=(by rw[obZ,obZ,Jz]);have tB:=Yl (l:=obZ zi) (i:=b) (x:=(y9,Obj.vec 1 (Qt nb))) (by simpa[obZ]using cf);have kn:Kn H H11 [] ((lvE i4 yi yo (zi.set b (y9,nb)) (zo.set b (z,bs1))++B1 x2 x3 yi yo i)++[(obZ zi)[b]'(by simpa[obZ]using cf)]):=by
               have k5:Kn H H11 [] ((([(yi,.vec 1 (Aq i4 (zi.set b (y9,nb)))),(yo,.vec 1 (Aq i4 (zo.set b (z,bs1))))]++(obZ zi++obZ (zo.set b (z,bs1))))++B1 x2 x3 yi yo i)++[(y9,.vec 1 (Qt nb))]):=kn.aB 0 (x:=yi) (o:=.vec 1 (Aq i4 zi)) rfl dY;refine k5.perm (Qj fun f hf h0 hc hp=>?_);have e1:=hp _ _ tB;simp only[hf]at e1;simp only[lvE,hf,lV];omega
              have kn:=kn.drop;have aL:=fc.step (y:=y9) aW fw (cI.i.trans hn.symm) (cI.o.trans hn.symm) cI.li cI.lo fZ ce gc fm g1 g2 g3 (fun r=>tC r) k1 k2 k3 k4;obtain⟨s1,s2,s3,s4⟩:=aL;refine bD _ _ ⟨zi.set b (y9,nb),zo.set b (z,bs1),a2,yi,yo,⟨by rw[Jo];exact cI.i,by rw[Jo];exact cI.o,fun p hp=>?_,fun p hp=>?_⟩,s1,s2,s3,s4,kn,rfl,rfl,rfl,rfl,rfl,rfl⟩
              ·rcases Jv hp with hp|rfl
               ·exact cI.li p hp
               ·exact ce
              ·rcases Jv hp with hp|rfl
               ·exact cI.lo p hp
               ·exact fZ
       ·rintro e2 H7 ⟨zi2,zo2,a2,yi2,yo2,vV,rT,t1,t2,t3,kn,l1,l2,l3,l4,l6,l7⟩;refine Qp ?_;simp only[go_sem,X.next,l1,l2,l3,l4,l6,l7];refine⟨Qr,b,Zx,b,(b:Int)-1,zi2,zo2,a2,yi2,yo2,rfl,Zx,rfl,vV,rT,Zx,fun ha=>?_,fun ha c dv dg=>?_,kn,rfl⟩
        ·rcases t2 ha with h|h
         ·have:=tg h;omega
         ·omega
        ·obtain⟨u1,u2,u3⟩:=t3 ha;by_cases fv:c=b
         ·subst fv;exact u2
         ·exact u3 c (qf u1 c Zx dg)
      ·intro hc;have hlt0:¬0≤j:=ZA;have wq:m1=0:=Zx;subst wq;refine Zc ?_;refine⟨if a=true then 2 * (i * R)+1-(Av zi+Av zo)else 0,?_,zi,zo,a,yi,yo,rfl,cI,fc,fun ha b hb=>qf ha b Zx hb,kn,by first|exact⟨rfl,rfl,rfl,rfl⟩|exact rfl|trivial⟩;split
       ·have:=tg ‹_›;omega
       ·omega
    ·intro haf;have cm:=cm haf;have cK:=fc.done aW fun b hb=>cm b (by rw[←hn];exact hb);have aP:H5 x3=.st [.af yi 1 0 i,.af yo 1 0 i]:=(kn.get (x3,.st [.af yi 1 0 i,.af yo 1 0 i]) Zbb).1;have aI:H5 x2=.st [.sl true 1 [],.sl true 1 []]:=(kn.get (x2,.st [.sl true 1 [],.sl true 1 []]) Zbb).1;refine Zc ?_;refine Zl aI aP ?_;intro H6 h6;have kn:Kn H H6 [] (lvE R yi yo zi zo++[(x2,.st [.af yi 1 0 i,.af yo 1 0 i]),(x3,.st [.af yi 1 0 i,.af yo 1 0 i])]):=by
      have:=kn.aB (lvE R yi yo zi zo).length (x:=x2) (o:=.st [.sl true 1 [],.sl true 1 []]) Zbb h6;simpa[B1]using this
     have aI:H6 x2=.st [.af yi 1 0 i,.af yo 1 0 i]:=(kn.get (x2,.st [.af yi 1 0 i,.af yo 1 0 i]) Zz).1;have hg:∀p∈lvE R yi yo zi zo,H6 p.1=p.2∧un H p.1=true:=fun p hp=>⟨(kn.get p (Jh _ (Jk _ hp))).1,BN (kn.loc p (Jk _ hp))⟩;have g1:=hg (yi,.vec 1 (Aq R zi)) (by simp[lvE]);have g2:=hg (yo,.vec 1 (Aq R zo)) (by simp[lvE]);refine Ql ?_;simp only[go_sem,Q6,Aa,Jb,forall_eq,RS.op,aI];refine⟨_,(FrzL.cons (FrzR.af g1.2 g1.1 (by rw[Bd,cI.i]) (Re cI.li fun p hp=>hg p (by simp only[lvE];exact Jh _ (Jk _ hp))))
      (FrzL.cons (FrzR.af g2.2 g2.1 (by rw[Bd,cI.o]) (Re cI.lo fun p hp=>hg p (by simp only[lvE];exact Jh _ (Jh _ hp)))) FrzL.nil)).ag,hK zi zo _ kn.fin ⟨by rw[hR,hn];exact cI,fun b hb=>cK b hb⟩⟩
end Go.AE.Y
namespace Go.AE.Y
attribute [local go_sem] cond_true cond_false Bool.not_true Bool.not_false
open Go.Proofs.Tryz
variable {H H0:Heap}{K:V→Heap→Prop}{E L:List (Nat×Obj)}
def AP (bs:List Bool)(n:Nat):List Nat:=(List.range n).filter fun r=>bs.getD r false
theorem Lw (bs:List Bool)(n:Nat):AP bs (n+1)=AP bs n++if bs.getD n false=true then [n]else []:=by
 simp only[AP,List.range_succ,List.filter_append];congr 1;cases h:bs.getD n false
 ·simp[h,- Ja]
 ·simp[h,- Ja]
theorem Qbu7 (bs:List Bool)(n:Nat):(AP bs n).length≤n:=by
 have:=List.length_filter_le (fun r=>bs.getD r false) (List.range n);simpa[AP]using this
set_option maxHeartbeats 1000000 in
theorem Qbn3 {c:C}{bs:List Bool}(hs:Slc H 1 (Qt bs) c)(b8:c.ah=false)(hl:bs.length≤2 ^ 38)(hK:∀H',Upd H H' []→K (.c (.sl false 1 (Q5 (AP bs bs.length)))) H') :
  Qs prog Q6w [.c c] H K:=by
 refine Qx ?_;refine Qc Ab Qbov ?_;refine Zi b8 ?_;refine Zi b8 ?_;refine Q1 (Qa ?_);simp only[go_sem,b8];have am:=hs.len;have bz:=hs.sz;refine Qh (Qd (Qw (fun m e1 H1=>∃(i:Nat) (t:C) (Lg:List (Nat×Obj)),m=bs.length-i∧i≤bs.length∧Gr Lg 1 (Q5 (AP bs i)) t∧Kn H H1 [] ([]++Lg)∧
  e1=[(0,.c c),(3,.c t),(4,.c (.int .i64 i))]) bs.length ?_ ?_))
 ·exact⟨0,_,[],Zx,Zx,.nil 1,Kn.aq H,rfl⟩
 ·rintro m e1 H1 ⟨i,t,Lg,hm,hi,ao,kn,rfl⟩;have bp:=ao.ah;have db:=hs.keep0 kn;have fp:=eq_true db.ok;have jl:=db.rows;refine Q1 (Qa ?_);simp only[go_sem,b8,bp,fp,am,Qy];intro _;refine Wu ?_ ?_
  ·intro hc;have ae:i<bs.length:=ZA
   refine Zd ?_
   refine A4 (fun e2 H2=>∃(t:C) (Lg:List (Nat×Obj)),Gr Lg 1 (Q5 (AP bs (i+1))) t∧Kn H H2 [] ([]++Lg)∧lk 0 e2=.c c∧lk 3 e2=.c t∧lk 4 e2=.c (.int .i64 i)) ?_ ?_
   ·intro Q bD _ _;refine Qd (Qa ?_);simp only[go_sem,b8,bp,fp,am,bz,jl,ae,Qy,Q4 _ _ ae];refine Wv ?_ ?_
    ·intro aC;refine Qp ?_;simp only[go_sem,b8,bp];have em:=Qbu7 bs i;refine kn.bg (B:=[]) (new:=Q5 [i]) ao (.mk' _ _ _ _) (BC _) (by simp only[Qz,LIM,Jn,Jl];omega) fun t2 Lg2 H3 bq ca kn=>?_;simp only[go_sem,OB,b8,ca];refine bD _ _ ⟨t2,Lg2,?_,kn,rfl,rfl,rfl⟩;rw[Lw,aC,if_pos rfl,Hx];exact bq
    ·intro aC;refine Zd ?_
     refine bD _ _ ⟨t,Lg,?_,kn,rfl,rfl,rfl⟩;rw[Lw,aC];simpa using ao
   ·rintro e2 H2 ⟨t2,Lg2,bq,kn,l0,l3,l4⟩;have ca:=bq.ah;refine Qp ?_;simp only[go_sem,X.next,b8,ca,l0,l3,l4];exact⟨Qr,bs.length-(i+1),Zx,i+1,t2,Lg2,rfl,Zx,bq,kn,rfl⟩
  ·intro hc;have bd:i=bs.length:=by have:bs.length≤i:=ZA;omega
   subst bd;refine Zc ?_;refine Zi bp ?_;refine Ql ?_;simp only[go_sem,Q6,Aa,Jb,forall_eq,RS.op,bp];exact⟨_,.c _ _ (ao.frz kn (BC _)),hK _ kn.fin⟩
theorem Qbnj {cs:List CodeD}{k:Int}(h:hasG cs k=true):∃(m:Nat) (hm:m<cs.length),k=(m:Int)∧cs[m].ok:=by
 simp only[hasG,Jm,decide_eq_true_eq]at h;obtain⟨h1,h2,h3⟩:=h;refine⟨k.toNat,Zx,Zx,DY h1 _⟩
end Go.AE.Y
namespace Go.AE.Y
attribute [local go_sem] cond_true cond_false Bool.not_true Bool.not_false
open Go.Proofs.Tryz
variable {H H0:Heap}{K:V→Heap→Prop}{E B Lg:List (Nat×Obj)}
theorem DZ {S:Nat→Bool}{a b a' b':V}(h:FrzV H S a a')(k:FrzV H S b b'):FrzV H S (.tup [a,b]) (.tup [a',b']):=by
 refine .tup _ _ rfl fun j x x' h1 h2=>?_
 match j with
 |0=>simp at h1 h2;subst h1;subst h2;exact h
 |1=>simp at h1 h2;subst h1;subst h2;exact k
 |j+2=>simp at h1
theorem C5 {S:Nat→Bool}(cs:List CodeD):FrzV H S (.ag [.sl false 3 (Qk cs)]) (.ag [.sl false 3 (Qk cs)]):=FrzL.ag (.cons (FrzR.same (Dg cs)).sl .nil)
theorem UnitOk.fits {cs:List CodeD}(h:UnitOk cs):∀c∈cs,c.fits:=fun c hc=>(h.2.2 c hc).f
end Go.AE.Y
namespace Go.AE.Y
open Go.Proofs.Tryz
def Qm8:List Item:=[fJ 6 2 1,sJ 1 6 5]
def Qady:SC:=sR [tJ 7 4 1,sJ 4 2 7] [2] .ret
def Qadz:SC:=sR (fJ 3 2 1::lJ 4 3::aJ 5 Ez [.t 4]::Qm8) [1,2] Qady
def Qapj:SC:=sR [eI 1 (.boxm (.t 0)),eI 2 (.alloc [.int .i64 0,.int .i64 0,.sl true 1 [],.int .i64 0])] [1,2] Qadz
abbrev Qzi:List RS:=[.cell 2 4 true]
theorem Qaos:mFn prog HU 1 8 Qapj Qzi=true:=ZB
def Qjc:List Item:=[fJ 6 0 1,sJ 1 6 5]
def Qjd:List Item:=[fJ 10 1 1,sJ 1 10 9]
def Qje:List Item:=[fJ 14 4 1,sJ 1 14 13]
def Q4a:SC:=sR [tJ 15 5 1,sJ 5 2 15] [2] .ret
def Q4b:SC:=sR (fJ 11 4 1::lJ 12 11::aJ 13 Ez [.t 12]::Qje) [1,2] Q4a
def Q4c:SC:=sR (fJ 7 1 1::lJ 8 7::eI 9 (.call Vw [.t 8,.k (.c (.fn HU []))])::Qjd) [1,2] Q4b
def Q4d:SC:=sR (fJ 3 0 1::lJ 4 3::eI 5 (.call Sy [.t 4,.k (.c (.fn GX []))])::Qjc) [1,2] Q4c
def Qadx:SC:=sR [eI 1 (.boxm (.t 0)),eI 2 (.alloc [.sl true 2 [],.sl true 4 [],.int .i64 0,.int .i64 0,.sl true 1 []])] [1,2] Q4d
abbrev Qpg:List RS:=[.cell 2 5 true]
theorem Qadg:mFn prog HV 1 16 Qadx Qpg=true:=ZB
def Qku:List Item:=[fJ 6 2 1,sJ 1 6 5]
def Q75:SC:=sR [tJ 7 3 1,sJ 3 2 7] [2] .ret
def Q76:SC:=sR (fJ 3 2 1::lJ 4 3::eI 5 (.call V5 [.t 4,.k (.c (.fn HV []))])::Qku) [1,2] Q75
def Qai8:SC:=sR [eI 1 (.boxm (.t 0)),eI 2 (.alloc [.int .i64 0,.int .i64 0,.sl true 5 []])] [1,2] Q76
abbrev Qtk:List RS:=[.cell 2 3 true]
theorem Qahl:mFn prog TW 1 8 Qai8 Qtk=true:=ZB
end Go.AE.Y
namespace Go.AE.Y
attribute [local go_sem] cond_true cond_false Bool.not_true Bool.not_false
open Go.Proofs.Tryz
variable {H H0 F:Heap}{K:V→Heap→Prop}{E L:List (Nat×Obj)}
theorem Qbik {x:PhiD}(hl:x.args.length≤LIM)(hK:∀H',Upd H H' []→K (.ag x.cells) H'):Qs prog GX [.ag x.cells] H K:=by
 refine Qx ?_;refine Qc Ab Qauy ?_;refine Qa ?_;simp only[go_sem,PhiD.cells];intro x2 aI H1 h1;have kn:=(Kn.aq H).al aI h1;refine Zv ?_;refine CS kn hl fun t Lg H2 ao b8 kn=>?_;have aI:=kn.l 0 rfl;simp only[go_sem,Qpq,aI];intro H3 h3;have kn:Kn H H3 [] ([(x2,.st [.int .i64 x.to,t])]++Lg):=kn.aB 0 rfl h3;have aI:=kn.l 0 rfl;refine Ql ?_;simp only[go_sem,Q6,Aa,Jb,forall_eq,RS.op,b8,aI];exact⟨_,FrzL.ag (.cons (Qg rfl) (.cons (ao.frz kn (Qq _)) .nil)),hK _ kn.fin⟩
theorem Qbij {x:InsD}(hl:x.args.length≤LIM)(hK:∀H',Upd H H' []→K (.ag x.cells) H'):Qs prog HU [.ag x.cells] H K:=by
 refine Qx ?_;refine Qc Ab Qaos ?_;refine Zu ?_;intro x1 dO H0 h0;have kn:=(Kn.aq H).al dO h0;intro x2 aI H1 h1;have kn:=kn.al aI h1;have dO:=kn.l 0 rfl;refine Zi dO ?_;refine CS kn hl fun t Lg H2 ao b8 kn=>?_;have dO:=kn.l 0 rfl;simp only[go_sem,Qm8,dO];intro H3 h3;have kn:=kn.aB 0 rfl h3;have dO:=kn.l 0 rfl;have aI:=kn.l 1 rfl;refine Zp dO aI b8 ?_;intro H4 h4;have kn:Kn H H4 [] ([(x1,.st [.int .i64 x.op,.int .i64 x.to,t,.int .i64 x.n]),(x2,.st [.int .i64 x.op,.int .i64 x.to,t,.int .i64 x.n])]++Lg):=kn.aB 1 rfl h4;have aI:=kn.l 1 rfl;refine Ql ?_;simp only[go_sem,Q6,Aa,Jb,forall_eq,RS.op,b8,aI];exact⟨_,FrzL.ag (.cons (Qg rfl) (.cons (Qg rfl) (.cons (ao.frz kn (Qq _)) (.cons (Qg rfl) .nil)))),hK _ kn.fin⟩
theorem Qbuy {l:List PhiD}{fl:Bool}(hl:l.length≤2 ^ 38)(ha:∀x∈l,x.args.length≤LIM)(kn:Kn H0 H E L)(hK:∀t Lg H',Gr Lg 2 (Ae l) t→Kn H0 H' E (L++Lg)→K (.c t) H') :
  Qs prog Sy [.c (.sl fl 2 (Ae l)),.c (.fn GX [])] H K:=by
 refine Qc Ab Q07 ?_;refine Wq ?_;simp only[go_sem,Q7];intro _;refine Qh (Qd (Qw (fun m e1 H1=>∃(i:Nat) (t:C) (Lg:List (Nat×Obj)),m=l.length-i∧i≤l.length∧Gr Lg 2 (Ae (l.take i)) t∧Kn H0 H1 E (L++Lg)∧
  e1=[(1,.c (.fn GX [])),(5,.c t),(8,.c (.sl fl 2 (Ae l))),(9,.c (.int .i64 l.length)),(10,.c (.int .i64 i))]) l.length ?_ ?_))
 ·exact⟨0,_,[],Zx,Zx,.nil 2,ZH,rfl⟩
 ·clear kn;rintro m e1 H1 ⟨i,t,Lg,hm,hi,ao,kn,rfl⟩;have bp:=ao.ah;refine Za ?_;refine Wu ?_ ?_
  ·intro hc;have ae:i<l.length:=ZA
   obtain⟨p,hp⟩:∃p,l[i]=p:=⟨_,rfl⟩;have gk:p∈l:=ZaQ
   have bN:l.take (i+1)=l.take i++[p]:=by rw[Ji ae,hp]
   refine Zd ?_
   refine Wk ?_;simp only[go_sem,ae,Q7,BL _ _ ae,PhiD.cells,hp];intro x7 bC H2 h2;have kn:=kn.al bC h2;have bC:H2 x7=.st [.int .i64 0,.sl true 1 []]:=(kn.get (x7,.st [.int .i64 0,.sl true 1 []]) Zz).1;simp only[go_sem,Qe6,bC];intro H3 h3;have kn:Kn H0 H3 E ((L++[(x7,.st [.int .i64 p.to,.sl false 1 (Qb p.args)])])++Lg):=by
    have:=kn.aB (L++Lg).length (x:=x7) (o:=.st [.int .i64 0,.sl true 1 []]) Zz h3;refine Kn.perm (by simpa using this) (Qj fun f hf h0 hc hp=>by simp only[hf];omega)
   have bC:H3 x7=.st [.int .i64 p.to,.sl false 1 (Qb p.args)]:=(kn.get (x7,.st [.int .i64 p.to,.sl false 1 (Qb p.args)]) Zz).1;refine Qp ?_;simp only[go_sem,bC,Jab,Jag];refine Qbik (x:=p) (ha p gk) fun H4 hu=>?_;have kn:=kn.aw hu;simp only[go_sem,Qe8,PhiD.cells];have ll:(l.take i).length≤l.length:=by rw[J0];omega
   refine kn.bg (new:=Ae [p]) ao (.mk' _ _ _ _) (HN _) (by simp only[Q7,LIM,Jn,Jl];omega) fun t2 Lg2 H5 bq ca kn=>?_;simp only[go_sem,Qe7];refine Zf ?_;refine⟨Qr,l.length-(i+1),Zx,i+1,t2,Lg2,rfl,Zx,?_,?_,rfl⟩
   ·rw[bN];have:Ae (l.take i++[p])=Ae (l.take i)++Ae [p]:=(by simp[Ae]);rw[this];exact bq
   ·exact Kn.drop (B:=[(x7,.st [.int .i64 p.to,.sl false 1 (Qb p.args)])]) (kn.perm (Qj fun f hf h0 hc hp=>by simp only[hf];omega))
  ·intro hc;have bd:l.length≤i:=ZA
   rw[Jc bd]at ao;refine Wc ?_;refine Zj ?_;exact hK t Lg H1 ao kn
def kRow (y:BlkD)(pc:C):List C:=[pc,.sl false 4 (Af y.ins),.int .i64 y.jump,.int .i64 y.on,.sl false 1 (Qb y.next)]
structure BlkD.cl (y:BlkD):Prop where
 i:y.ins.length≤2 ^ 38
 p:y.aa.length≤2 ^ 38
 n:y.next.length≤LIM
 ia:∀x∈y.ins,x.args.length≤LIM
 pa:∀x∈y.aa,x.args.length≤LIM
structure KBlk where
 y:BlkD
 pc:C
 pl:List (Nat×Obj)
def KBlk.row (b:KBlk):List C:=kRow b.y b.pc
def KBlk.ok (b:KBlk):Prop:=Gr b.pl 2 (Ae b.y.aa) b.pc
theorem KBlk.ak {b:KBlk}(h:b.ok):Go.AE.ak b.row=true:=by
 have:=h.ah;simp only[Go.AE.ak,KBlk.row,kRow,List.all_cons,List.all_nil,this];rfl
end Go.AE.Y
namespace Go.AE.Y
attribute [local go_sem] cond_true cond_false Bool.not_true Bool.not_false
open Go.Proofs.Tryz
variable {H H0 F:Heap}{K:V→Heap→Prop}{E L B pl:List (Nat×Obj)}
theorem Qbjo (l:List PhiD)(i:Nat)(x:PhiD):(Ae l).set i x.cells=Ae (l.set i x):=by simp[Ae,Jz]
end Go.AE.Y
namespace Go.AE.Y
attribute [local go_sem] cond_true cond_false Bool.not_true Bool.not_false
open Go.Proofs.Tryz
variable {H H0 F:Heap}{K:V→Heap→Prop}{E L B:List (Nat×Obj)}{q:CodeD}
theorem CodeD.ok.fts (h:q.ok):q.fits:=fun y hy=>by
 obtain⟨b,hb,rfl⟩:=Jw.1 hy;have:=h.il b hb;omega
theorem CodeD.ok.cl (h:q.ok):∀y∈q.blocks,y.cl:=fun y hy=>by
 obtain⟨b,hb,rfl⟩:=Jw.1 hy;have h1:=h.il b hb;have h2:=h.bs b hb;have h3:=h2.nxl;have h4:=h.b1;refine⟨Zx,Zx,by simp only[LIM];omega,fun x hx=>?_,fun x hx=>?_⟩
 ·have:=h2.al x hx;simp only[LIM];omega
 ·have:=h2.pal x hx;have h5:=El (gnx q) (b:Int) q.blocks.length;simp only[LIM];omega
theorem Ib {ds ks:List (List C)}{r:List C}{n:Nat}(hn:n=ds.length):(ds++r::ks).getD n []=r:=by subst hn;simp
end Go.AE.Y
namespace Go.AE
variable {H0 H H':Heap}{E L B Lg:List (Nat×Obj)}{S:Nat→Bool}
theorem Kn.dh (kn:Kn H0 H E (B++Lg)):∃S:Nat→Bool,(∀p∈Lg,H p.1=p.2∧S p.1=true)∧(∀p∈B,H p.1=p.2∧S p.1=false)∧FrzH H S (H.frz S)∧Kn H0 (H.frz S) E B:=by
 have hd:=kn.dL;rw[Jp]at hd;obtain⟨d1,d2,d3⟩:=List.nodup_append.1 hd;have keyB:∀m,m∉Lg.map Prod.fst→(Lg.map Prod.fst).contains m=false:=fun m hm=>by
  cases hc:(Lg.map Prod.fst).contains m with
  |false=>rfl
  |true=>exact absurd (J3.1 hc) hm
 have key:∀m,m∉Lg.map Prod.fst→(H.frz fun m=>(Lg.map Prod.fst).contains m) m=H m:=fun m hm=>by
  simp only[Heap.frz,keyB m hm];rfl
 have hB:∀p∈B,p.1∉Lg.map Prod.fst:=fun p hp hh=>d3 _ (A1 hp) _ hh rfl;refine⟨fun m=>(Lg.map Prod.fst).contains m,fun p hp=>⟨(kn.get p (Jh _ (Jh _ hp))).1,J3.2 (A1 hp)⟩,
  fun p hp=>⟨(kn.get p (Jh _ (Jk _ hp))).1,keyB _ (hB p hp)⟩,C7 _ _,?_⟩
 refine⟨fun p hp=>?_,kn.ext,fun p hp=>kn.loc p (Jk _ hp),kn.dE,d1,fun m hm hx=>?_⟩
 ·have hg:H p.1=p.2∧p.2≠.none:=kn.get p (by
   rcases Jq.1 hp with h|h
   ·exact Jk _ h
   ·exact Jh _ (Jk _ h))
  refine⟨?_,hg.2⟩;rw[key p.1 (fun hh=>?_)];exact hg.1;rcases Jq.1 hp with h|h
  ·obtain⟨r,hr,he⟩:=Js.1 hh;exact kn.ext p h (he▸kn.loc r (Jh _ hr))
  ·exact hB p h hh
 ·rw[key m (fun hh=>?_)]
  ·exact kn.chg m hm hx
  ·obtain⟨r,hr,he⟩:=Js.1 hh;exact hm (he▸kn.loc r (Jh _ hr))
theorem CO {e e':Env}(h:∀p∈e',FrzV H S (lk p.1 e) p.2):∀t,FrzV H S (lk t e) (lk t e'):=fun t=>by
 induction e' with
 |nil=>exact .unk _
 |cons p e' ih=>
  obtain⟨s,v⟩:=p;by_cases ht:t=s
  ·subst ht;have:=h (t,v) Jah;simpa[lk]using this
  ·have:=ih fun p hp=>h p (J5 _ hp);simpa[lk,ht]using this
theorem FrzO.vecR {sz:Nat}{rows rows':List (List C)}(h:Y.FrzR H S rows rows')(hn:∀r∈rows,ak r=true):FrzO H S (.vec sz rows) (.vec sz rows'):=by
 refine .vec sz rows rows' h.spec.1 (fun i r r' h1 h2=>(h.spec.2 i r r' h1 h2).spec.1) fun i r r' j c c' h1 h2 h3 h4=>.inr ⟨?_,(h.spec.2 i r r' h1 h2).spec.2 j c c' h3 h4⟩;exact Y.noOw_mem hn r (J6 h1) c (J6 h3)
end Go.AE
namespace Go.AE.Y
variable {H H0:Heap}{E L R B Lg:List (Nat×Obj)}{S:Nat→Bool}
theorem Dp {α:Type}{f g:α→List C}:∀(l:List α),(∀x∈l,FrzL H S (f x) (g x))→FrzR H S (l.map f) (l.map g)
 |[],_=>.nil
 |x::l,h=>.cons (h x Jah) (Dp l fun y hy=>h y (J5 _ hy))
theorem Fx {is:List OIns}(h:Held H S (is.flatMap OIns.lg)):FrzR H S (is.map OIns.row) (Af (is.map OIns.d)):=by
 rw[Af,Jaf];exact Dp is fun x hx=>x.frz (h.m hx)
theorem FK {ph:List OPhi}(ho:∀p∈ph,p.ok)(h:Held H S (ph.flatMap OPhi.lg)):FrzR H S (ph.map OPhi.row) (Ae (ph.map OPhi.d)):=by
 rw[Ae,Jaf];exact Dp ph fun x hx=>x.frz (ho x hx) (h.m hx)
theorem OBlk.gh {o:OBlk}(au:o.ok){x8:Nat}(kn:Kn H0 H E ([(x8,.st o.row)]++(R++o.lg))) :
  ∃S H3 pl,FrzH H S H3∧Gr pl 2 (Ae o.d.aa) o.pc∧Kn H0 H3 E ([(x8,.st (kRow o.d o.pc))]++(R++pl)):=by
 have kn:Kn H0 H E (([(x8,.st o.row)]++(o.pl++R))++(o.nx.lg++(o.aa.flatMap OPhi.lg++(o.ins.flatMap OIns.lg++o.il)))):=kn.perm (Qj fun f hf h0 hc hp=>by
  simp only[hf,OBlk.lg];omega)
 obtain⟨S,hS,hB,ik,kn⟩:=kn.dh;have tT:Held H S (o.nx.lg++(o.aa.flatMap OPhi.lg++(o.ins.flatMap OIns.lg++o.il))):=hS;have gx:=Gr.frzM au.i tT.r.r.r (Fx tT.r.r.l);have eG:=FK au.a tT.r.l;have eW:=o.nx.frz tT.l;have aV:=hB (x8,.st o.row) Zz;have f1:FrzH H S ((H.frz S).set x8 (.st (kRow o.d o.pc))):=ik.set aV.2 (by
  rw[aV.1];exact FrzKL.st (.same (.cons au.i.ah gx (.same (.same (.cons rfl eW .nil))))))
 have kn:=kn.setL (o':=.st (kRow o.d o.pc)) 0 rfl Zz;have kn:Kn H0 ((H.frz S).set x8 (.st (kRow o.d o.pc))) E ([(x8,.st (kRow o.d o.pc))]++(o.pl++R)):=kn;rcases au.p with ⟨h1,h2,h3⟩|⟨z,h1,h2⟩
 ·have vw:o.aa=[]:=List.map_eq_nil_iff.1 h2;refine⟨S,_,[],f1,?_,by rw[h3]at kn;simpa using kn⟩;rw[h1];simp only[OBlk.d,vw,Jag];exact .nil 2
 ·rw[h2]at kn;have hz:=hB (z,.vec 2 (o.aa.map OPhi.row)) ZZ;have cd:∀r∈o.aa.map OPhi.row,Go.AE.ak r=true:=fun r hr=>by
   obtain⟨p,hp,rfl⟩:=Js.1 hr;exact p.ak (au.a p hp)
  refine⟨S,_,[(z,.vec 2 (Ae o.d.aa))],f1.set (o:=.vec 2 (Ae o.d.aa)) hz.2 (by rw[hz.1];exact .vecR eG cd),?_,?_⟩
  ·rw[h1];exact .mk _ _ _ (by simp[OBlk.d,Q7])
  ·have kn:=kn.setL (o':=.vec 2 (Ae o.d.aa)) 1 rfl Zz;exact kn.perm (Qj fun f hf h0 hc hp=>by
    show f ([(x8,_)]++([(z,_)]++R))=_;simp only[hf];omega)
def Ad (q:CodeD)(b:Nat):BlkD:=q.blocks.getD b ⟨[],[],0,0,[]⟩
theorem AA {q:CodeD}{b:Nat}(h:b<q.blocks.length):Ad q b=q.blocks[b]:=by simp[Ad,Ja,h]
theorem ER {q:CodeD}{b:Nat}(h:b<q.blocks.length):gnx q b=(Ad q b).next:=by rw[AA h,DX h]
structure Pk (q:CodeD)(l:List Nat):Prop where
 n:l.length≤160
 z:l[0]? = some 0
 lt:∀x∈l,x<q.blocks.length
 cl:∀x∈l,∀v∈gnx q x,v.toNat∈l
def pkY (q:CodeD)(P:List Int)(b:Nat):BlkD:=⟨(Ad q b).aa,(Ad q b).ins,(Ad q b).jump,(Ad q b).on,(Ad q b).next.map fun v=>P.getD v.toNat 0⟩
def pkN (q:CodeD)(P:List Int)(l:List Nat):Nat→List Int:=fun i=>(l.map fun b=>(pkY q P b).next).getD i []
structure PkB (q:CodeD)(P:List Int)(b:Nat)(y:BlkD):Prop where
 j:y.jump=(Ad q b).jump
 o:y.on=(Ad q b).on
 i:y.ins=(Ad q b).ins
 n:y.next=(pkY q P b).next
 t:y.aa.map PhiD.to=(Ad q b).aa.map PhiD.to
def PkA (q:CodeD)(P:List Int)(l:List Nat)(j:Nat)(p:PhiD):Prop:=p.args.length=(Am (pkN q P l) (j:Int) l.length).length∧∀v∈p.args,rIn q v
structure PkR (q d:CodeD):Prop where
 ok:d.ok
 p:d.params=q.params
 r:d.ab=q.ab
 i:∀y∈d.blocks,∃y0∈q.blocks,y.ins=y0.ins∧y.aa.length=y0.aa.length
variable {q:CodeD}{P:List Int}{l:List Nat}
theorem Pk.get (hp:Pk q l){j:Nat}(hj:j<l.length):l.getD j 0=l[j]∧l[j]∈l∧l[j]<q.blocks.length:=
 ⟨by simp[Ja,hj],Jd hj,hp.lt _ (Jd hj)⟩
theorem Pk.to (ho:q.ok)(hp:Pk q l)(hP:CE q.blocks.length l P){b:Nat}(hb:b∈l){w:Int}(hw:w∈(Ad q b).next):1≤w∧w.toNat<P.length∧∃i,∃h:i<l.length,l[i]=w.toNat∧P.getD w.toNat 0=(i:Int)∧1≤i:=by
 have ae:=hp.lt b hb;have h1:1≤w∧w<q.blocks.length:=by
  rw[AA ae]at hw;exact (ho.bs b ae).nx w hw
 have h2:=hp.cl b hb w (by rw[ER ae];exact hw);obtain⟨i,hi,h3,h4⟩:=hP.2 _ h2;refine⟨h1.1,by rw[hP.1];exact hp.lt _ h2,i,hi,h3,h4,?_⟩;have hz:=hp.z;by_cases h0:i=0
 ·subst h0;rw[Je hi,h3]at hz;have:=Jau hz;omega
 ·omega
theorem EK {j:Nat}(hj:j<l.length):pkN q P l j=(pkY q P l[j]).next:=by simp[pkN,Ja,hj]
theorem Pk.preds (ho:q.ok)(hp:Pk q l)(hP:CE q.blocks.length l P){j:Nat}(hj:j<l.length){m:Int}(hm:m∈Am (pkN q P l) (j:Int) l.length) :
  ∃j',∃h:j'<l.length,m=(j':Int)∧((l[j']:Nat):Int)∈Am (gnx q) ((l[j]:Nat):Int) q.blocks.length:=by
 simp only[Am,Js,Ja3,Ja4]at hm;obtain⟨j',⟨h1,h2⟩,rfl⟩:=hm;refine⟨j',h1,rfl,?_⟩;have h3:=J3.1 h2;rw[EK h1]at h3;obtain⟨w,hw,h4⟩:=Js.1 h3;obtain⟨g1,g2⟩:=(hp.get h1).2;obtain⟨w1,_,i,hi,h5,h6,_⟩:=hp.to ho hP g1 hw;have fV:i=j:=Zx
 subst fV;simp only[Am,Js,Ja3,Ja4];refine⟨l[j'],⟨g2,J3.2 ?_⟩,rfl⟩;rw[ER g2,h5];have e:((w.toNat:Nat):Int)=w:=Zx
 rw[e];exact hw
theorem CodeD.ok.sg (h:q.ok):q.sg:=⟨by have:=h.b1;omega,fun y hy=>by
 obtain⟨b,hb,rfl⟩:=Jw.1 hy;have h1:=h.il b hb;have h2:=h.bs b hb;have h3:=h2.nxl;have h4:=h.b1;refine⟨Zx,Zx,Zx,fun x hx=>by have:=h2.al x hx;omega,fun x hx=>?_⟩;have:=h2.pal x hx;have h5:=El (gnx q) (b:Int) q.blocks.length;omega⟩
theorem Qb3f (ho:q.ok)(hp:Pk q l)(hP:CE q.blocks.length l P){d:CodeD}(h1:d.params=q.params)(h2:d.ab=q.ab)(hl:d.blocks.length=l.length)
  (hb:∀j (h:j<d.blocks.length),PkB q P (l.getD j 0) d.blocks[j]∧∀p∈d.blocks[j].aa,PkA q P l j p):PkR q d:=by
 have hg:gnx d=pkN q P l:=by
  funext i
  by_cases hi:i<l.length
  ·have bO:i<d.blocks.length:=Zx
   rw[EK hi,DX bO,(hb i bO).1.n,(hp.get hi).1]
  ·have bO:¬i<d.blocks.length:=Zx
   rw[gnx,pkN,Ja,Ja,Jr (by simpa using bO),Jr ZV]
 have hr:∀v,rIn q v→rIn d v:=fun v hv=>by simp only[rIn,h2]at hv⊢;exact hv
 have iU:0<l.length:=by
  have:=hp.z
  cases l with
  |nil=>simp at this
  |cons=>simp
 have hn:=hp.n;refine⟨⟨by rw[h2];exact ho.r0,by rw[h2];exact ho.r1,Zx,Zx,fun b h=>?_,fun b h=>?_⟩,h1,h2,fun y hy=>?_⟩
 ·have bB:b<l.length:=Zx
  obtain⟨g,ga⟩:=hb b h;obtain⟨e1,e2,e3⟩:=hp.get bB;rw[e1]at g;have o:=ho.bs _ e3;rw[←AA e3]at o;have gt:∀p∈d.blocks[b].aa,rIn q p.to:=fun p cg=>by
   have:p.to∈d.blocks[b].aa.map PhiD.to:=Js.2 ⟨p,cg,rfl⟩;rw[g.t]at this;obtain⟨p0,jA,he⟩:=Js.1 this;rw[←he];exact o.pto p0 jA
  refine⟨by rw[g.n];simpa[pkY]using o.nxl,fun v hv=>?_,by rw[g.j];exact o.jmp,fun hj=>by rw[g.j]at hj;rw[g.o];exact hr _ (o.on hj),fun x hx v hv=>?_,fun x hx hm=>?_,fun x hx=>hr _ (gt x hx),fun x hx v hv=>hr _ ((ga x hx).2 v hv),fun x hx=>?_,fun x hx=>?_⟩
  ·rw[g.n]at hv;obtain⟨w,hw,rfl⟩:=Js.1 hv;obtain⟨_,_,i,hi,_,h6,h7⟩:=hp.to ho hP e2 hw;rw[h6];omega
  ·rw[g.i]at hx;exact hr _ (o.args x hx v hv)
  ·rw[g.i]at hx;exact hr _ (o.to x hx hm)
  ·rw[(ga x hx).1,hg,hl]
  ·rw[g.i]at hx;exact o.al x hx
 ·have bB:b<l.length:=Zx
  obtain⟨g,ga⟩:=hb b h;obtain⟨e1,e2,e3⟩:=hp.get bB;rw[e1]at g;have gi:=g.i;have h3:=congrArg List.length g.t;rw[AA e3]at gi h3;have:=ho.il _ e3;simp only[Jg]at h3;rw[gi];omega
 ·obtain⟨b,h,rfl⟩:=Jw.1 hy;have bB:b<l.length:=Zx
  obtain⟨g,ga⟩:=hb b h;obtain⟨e1,e2,e3⟩:=hp.get bB;rw[e1]at g;have gi:=g.i;have h3:=congrArg List.length g.t;rw[AA e3]at gi h3;simp only[Jg]at h3;exact⟨_,Jd e3,gi,h3⟩
theorem Qbuz {α:Type}{f:α→α}{l:List α}{k:Nat}(hk:k<l.length):((l.take k).map f++l.drop k).set k (f l[k])=(l.take (k+1)).map f++l.drop (k+1):=by
 have h1:((l.take k).map f).length=k:=ZD
 rw[Jar _ _ Zx,h1,Jat,Jy hk,List.set_cons_zero,Ji hk,Jp];simp
end Go.AE.Y
namespace Go.AE.Y
structure Fr where
 k:Nat
 b:Nat
 todo:List InsD
 ab:List Int
inductive Cf where
 |go (fs:List Fr) (s c:List Int)
 |dn (e v:Int) (s c:List Int)
def Ai (cs:List CodeD)(k:Nat):CodeD:=cs.getD k ⟨0,0,[]⟩
def rg (R:List Int)(r:Int):Int:=R.getD r.toNat 0
def ar (R:List Int)(x:InsD)(i:Nat):Int:=rg R (x.args.getD i 0)
def trI (b:Prop) [Decidable b]:Int:=if b then 1 else 0
def arR (op a b:Int):Option Int:=
 if op=3 then some ((a+b) % 256)else if op=4 then some ((a-b+256) % 256)else if op=5 then some (a * b % 256)
 else if op=6 then (if b=0 then none else some (a / b))else if op=7 then (if b=0 then none else some (a % b))
 else if op=8 then some (trI (a<b))else if op=9 then some (trI (a=b))else some (trI (a=0))
def AN (q:CodeD)(l:List Int):List Int:=l++List.replicate (q.ab.toNat-l.length) 0
def fr0 (cs:List CodeD)(k:Nat)(l:List Int):Fr:=⟨k,0,(Ad (Ai cs k) 0).ins,AN (Ai cs k) l⟩
def wayI (q:CodeD)(b a:Nat):Nat:=(Am (gnx q) (b:Int) q.blocks.length).idxOf (a:Int)
def phiV (R:List Int)(w:Nat)(p:PhiD):Int:=rg R (p.args.getD w 0)
def phiR (R:List Int)(w:Nat)(l:List PhiD):List Int:=l.foldl (fun T p=>T.set p.to.toNat (phiV R w p)) R
def ixB (y:BlkD)(R:List Int):Nat:=if y.jump=2∧rg R y.on=0 then 1 else 0
def nxB (y:BlkD)(R:List Int):Nat:=(y.next.getD (ixB y R) 0).toNat
def rtn (v:Int):List Fr→List Int→List Int→Cf
 |[],s,c=>.dn 0 v s c
 |f::fs,s,c=>match f.todo with
  |[]=>.go (f::fs) s c
  |x::t=>.go (⟨f.k,f.b,t,f.ab.set x.to.toNat v⟩::fs) s c
def stI (cs:List CodeD)(k b:Nat)(x:InsD)(t:List InsD)(R:List Int)(fs:List Fr)(s c:List Int):Cf:=
 let w:=fun v=>Cf.go (⟨k,b,t,R.set x.to.toNat v⟩::fs) s c
 if x.op=1 then w x.n
 else if x.op=11 then (if 16≤ar R x 0 then .dn 2 0 s c else w (rg c (ar R x 0)))
 else if x.op=12 then (if 16≤ar R x 0 then .dn 2 0 s c else .go (⟨k,b,t,R⟩::fs) s (c.set (ar R x 0).toNat (ar R x 1)))
 else if x.op=13 then .go (⟨k,b,t,R⟩::fs) (s++[ar R x 0]) c
 else if x.op=14 then .go (fr0 cs x.n.toNat (x.args.map (rg R))::⟨k,b,x::t,R⟩::fs) s c
 else if x.op=2 then w (ar R x 0)
 else match arR x.op (ar R x 0) (ar R x 1)with
  |none=>.dn 1 0 s c
  |some v=>w v
def frJ (cs:List CodeD)(k b:Nat)(R:List Int)(n:Nat):Fr:=
 ⟨k,n,(Ad (Ai cs k) n).ins,phiR R (wayI (Ai cs k) n b) (Ad (Ai cs k) n).aa⟩
def stJ (cs:List CodeD)(k b:Nat)(R:List Int)(fs:List Fr)(s c:List Int):Cf:=
 let y:=Ad (Ai cs k) b
 if y.jump=3 then rtn (rg R y.on) fs s c else .go (frJ cs k b R (nxB y R)::fs) s c
def step (cs:List CodeD):Cf→Cf
 |.go (⟨k,b,x::t,R⟩::fs) s c=>stI cs k b x t R fs s c
 |.go (⟨k,b,[],R⟩::fs) s c=>stJ cs k b R fs s c
 |.go [] s c=>.go [] s c
 |.dn e v s c=>.dn e v s c
def Br (cs:List CodeD):Nat→Cf→Cf
 |0,x=>x
 |n+1,x=>Br cs n (step cs x)
theorem GC (cs:List CodeD):∀(n m:Nat) (x:Cf),Br cs (n+m) x=Br cs m (Br cs n x)
 |0,m,x=>by rw[Jf];rfl
 |n+1,m,x=>by rw[Nat.add_right_comm];exact GC cs n m (step cs x)
theorem IB (cs:List CodeD)(e v:Int)(s c:List Int):∀n,Br cs n (.dn e v s c)=.dn e v s c
 |0=>rfl
 |n+1=>IB cs e v s c n
theorem Fk (cs:List CodeD){n m:Nat}{x:Cf}{e v:Int}{s c:List Int}(h:Br cs n x=.dn e v s c)(hm:n≤m):Br cs m x=.dn e v s c:=by
 obtain⟨d,rfl⟩:=Nat.exists_eq_add_of_le hm;rw[GC,h,IB]
def D9:List Int:=List.replicate 16 0
def cf0 (cs:List CodeD)(l:List Int):Cf:=.go [fr0 cs (cs.length-1) l] [] D9
def outR (cs:List CodeD)(l:List Int)(S:Nat):Int×Int×List Int×List Int:=match Br cs S (cf0 cs l)with
 |.dn e v s c=>(e,v,s,c)
 |.go _ s c=>(3,0,s,c)
def BV (cs cs':List CodeD)(l:List Int)(S:Nat):Prop:=(outR cs l S).1=3∨outR cs l S=outR cs' l 60000
theorem sim {cs cs':List CodeD}{R:Cf→Cf→Prop}{B:Nat}(hs:∀x x',R x x'→∃m,m≤B∧R (step cs x) (Br cs' m x'))
  : ∀(n:Nat) {x x':Cf},R x x'→∃m,m≤n * B∧R (Br cs n x) (Br cs' m x')
 |0,x,x',h=>⟨0,Zx,h⟩
 |n+1,x,x',h=>by
  obtain⟨m,h1,h2⟩:=hs x x' h;obtain⟨m2,h3,h4⟩:=sim hs n h2;refine⟨m+m2,by rw[Nat.add_mul];omega,?_⟩;rw[GC cs' m m2];exact h4
theorem Qb0f {cs cs':List CodeD}{R:Cf→Cf→Prop}{B S:Nat}{l:List Int}(hs:∀x x',R x x'→∃m,m≤B∧R (step cs x) (Br cs' m x'))
  (hd:∀e v s c x',R (.dn e v s c) x'→x'=.dn e v s c) (hB:S * B≤60000) (h0:R (cf0 cs l) (cf0 cs' l)):BV cs cs' l S:=by
 obtain⟨m,h1,h2⟩:=sim hs S h0;rw[BV]
 cases hx:Br cs S (cf0 cs l)with
 |go fs s c=>exact .inl (by rw[outR,hx])
 |dn e v s c=>
  right;rw[hx]at h2;have:=Fk cs' (hd _ _ _ _ _ h2) (Nat.le_trans h1 hB);rw[outR,outR,hx,this]
structure Fr.ok (cs:List CodeD)(f:Fr):Prop where
 k:f.k<cs.length
 b:f.b<(Ai cs f.k).blocks.length
 t:∃p,(Ad (Ai cs f.k) f.b).ins=p++f.todo
 r:f.ab.length=(Ai cs f.k).ab.toNat
theorem Cc {cs:List CodeD}{k:Nat}(h:k<cs.length):Ai cs k=cs[k]:=by simp[Ai,Ja,h]
theorem ID {v:PhiD→Int}:∀(l:List PhiD) (T:List Int),(l.foldl (fun T p=>T.set p.to.toNat (v p)) T).length=T.length
 |[],T=>rfl
 |p::l,T=>by rw[List.foldl_cons,ID l,Jo]
inductive RelF (RF:Fr→Fr→Prop):List Fr→List Fr→Prop where
 |nil:RelF RF [] []
 |cons {f f':Fr} {fs fs':List Fr}:RF f f'∧f.todo≠[]→RelF RF fs fs'→RelF RF (f::fs) (f'::fs')
inductive RelC (RF:Fr→Fr→Prop):Cf→Cf→Prop where
 |dn (e v:Int) (s c:List Int):RelC RF (.dn e v s c) (.dn e v s c)
 |go {f f':Fr} {fs fs':List Fr} (s c:List Int):RF f f'→RelF RF fs fs'→RelC RF (.go (f::fs) s c) (.go (f'::fs') s c)
structure InsS (cs cs':List CodeD)(RF:Fr→Fr→Prop)(x x':InsD):Prop where
 op:x'.op=x.op
 to:x'.to=x.to
 args:x'.args=x.args
 n:x.op=1→x'.n=x.n
 call:x.op=14→∀l,l.length=x.args.length→RF (fr0 cs x.n.toNat l) (fr0 cs' x'.n.toNat l)
structure SimR (cs cs':List CodeD)(RF:Fr→Fr→Prop)(B:Nat):Prop where
 b:1≤B
 ins:∀k b x t R f',RF ⟨k,b,x::t,R⟩ f'→∃k' b' x' t',f'=⟨k',b',x'::t',R⟩∧InsS cs cs' RF x x'∧∀R',R'.length=R.length→RF ⟨k,b,t,R'⟩ ⟨k',b',t',R'⟩
 jump:∀k b R f' fs fs' s c,RF ⟨k,b,[],R⟩ f'→RelF RF fs fs'→∃m,m≤B∧RelC RF (stJ cs k b R fs s c) (Br cs' m (.go (f'::fs') s c))
theorem SimR.rtnF {RF:Fr→Fr→Prop}{v:Int}{fs fs':List Fr}{s c:List Int}(hf:RelF RF fs fs')
  (h:∀k b x t R f',RF ⟨k,b,x::t,R⟩ f'→∃k' b' x' t',f'=⟨k',b',x'::t',R⟩∧x'.to=x.to∧∀R',R'.length=R.length→RF ⟨k,b,t,R'⟩ ⟨k',b',t',R'⟩):RelC RF (rtn v fs s c) (rtn v fs' s c):=by
 cases hf with
 |nil=>exact .dn ..
 |cons h1 h2=>
  rename_i f f' fs fs'
  obtain⟨h1,h3⟩:=h1;obtain⟨k,b,t,R⟩:=f
  cases t with
  |nil=>exact absurd rfl h3
  |cons x t=>
   obtain⟨k',b',x',t',rfl,hx,hr⟩:=h _ _ _ _ _ _ h1;show RelC RF (.go (⟨k,b,t,R.set x.to.toNat v⟩::fs) s c) (.go (⟨k',b',t',R.set x'.to.toNat v⟩::fs') s c);rw[hx];exact .go s c (hr _ Zz) h2
theorem SimR.one {cs cs':List CodeD}{RF:Fr→Fr→Prop}{B:Nat}(h:SimR cs cs' RF B)(x x':Cf)(hx:RelC RF x x'):∃m,m≤B∧RelC RF (step cs x) (Br cs' m x'):=by
 cases hx with
 |dn e v s c=>exact⟨0,Zx,.dn ..⟩
 |go s c h1 h2=>
  rename_i f f' fs fs'
  obtain⟨k,b,t,R⟩:=f
  cases t with
  |nil=>exact h.jump _ _ _ _ _ _ _ _ h1 h2
  |cons x t=>
   obtain⟨k',b',x',t',rfl,hx,hr⟩:=h.ins _ _ _ _ _ _ h1;refine⟨1,h.b,?_⟩;show RelC RF (stI cs k b x t R fs s c) (stI cs' k' b' x' t' R fs' s c);have ha:∀i,ar R x' i=ar R x i:=fun i=>by rw[ar,ar,hx.args]
   rw[stI,stI];simp only[ha,hx.op,hx.to,hx.args];split
   ·rename_i pV
    rw[hx.n pV];exact .go s c (hr _ Zz) h2
   ·split
    ·split
     ·exact .dn ..
     ·exact .go s c (hr _ Zz) h2
    ·split
     ·split
      ·exact .dn ..
      ·exact .go _ _ (hr _ rfl) h2
     ·split
      ·exact .go _ _ (hr _ rfl) h2
      ·split
       ·rename_i dG
        exact .go s c (hx.call dG _ Zz) (.cons ⟨h1,Zz⟩ h2)
       ·split
        ·exact .go s c (hr _ Zz) h2
        ·split
         ·exact .dn ..
         ·exact .go s c (hr _ Zz) h2
theorem SimR.same {cs cs':List CodeD}{RF:Fr→Fr→Prop}{B S:Nat}{l:List Int}(h:SimR cs cs' RF B)(hB:S * B≤60000)(h0:RF (fr0 cs (cs.length-1) l) (fr0 cs' (cs'.length-1) l)):BV cs cs' l S:=
 Qb0f (R:=RelC RF) h.one (fun e v s c x' hx=>by cases hx;rfl) hB (.go _ _ h0 .nil)
theorem EG {cs:List CodeD}{k b:Nat}{R:List Int}{fs:List Fr}{s c:List Int}(h:¬(Ad (Ai cs k) b).jump=3):stJ cs k b R fs s c=.go (frJ cs k b R (nxB (Ad (Ai cs k) b) R)::fs) s c:=by rw[stJ];simp only[h,if_false]
theorem EH {cs:List CodeD}{k b:Nat}{R:List Int}{fs:List Fr}{s c:List Int}(h:(Ad (Ai cs k) b).jump=3):stJ cs k b R fs s c=rtn (rg R (Ad (Ai cs k) b).on) fs s c:=by rw[stJ];simp only[h,if_true]
theorem Qbp3 {q:CodeD}{l:List Int}(h:l.length≤q.ab.toNat):(AN q l).length=q.ab.toNat:=by rw[AN];simp;omega
structure RunOk (cs:List CodeD):Prop where
 n:0<cs.length
 ok:∀k (h:k<cs.length),(Ai cs k).ok
 jn:∀k b,k<cs.length→b<(Ai cs k).blocks.length→((Ad (Ai cs k) b).next.length:Int)=Bg (Ad (Ai cs k) b).jump
 call:∀k b,k<cs.length→∀x∈(Ad (Ai cs k) b).ins,x.op=14→x.n.toNat<k
 op:∀k b,k<cs.length→∀x∈(Ad (Ai cs k) b).ins,1≤x.op∧x.op≤14∧(¬x.op=14→(x.args.length:Int)=AL x.op)
attribute [local instance] Classical.propDecidable in
theorem Rm {cs:List CodeD}(h:Ah cs=true):RunOk cs:=by
 obtain⟨h1,h2,h3⟩:=of_decide_eq_true h;refine⟨Zx,fun k hk=>by rw[Cc hk];exact DY h hk,fun k b hk hb=>?_,fun k b hk x hx dG=>?_,fun k b hk x hx=>?_⟩
 ·rw[Cc hk]at hb⊢;have g:=(h2 k hk).2 b hb;simp only[blkG,B5,Jm,decide_eq_true_eq]at g;rw[AA hb];exact g.1.1.1.1
 ·rw[Cc hk]at hx;by_cases hb:b<cs[k].blocks.length
  ·rw[AA hb]at hx;have g:=(h2 k hk).2 b hb;simp only[blkG,Jm,Jao]at g;have:=g.1.2 x hx;simp only[AC,insL,dG,if_true,Jm,decide_eq_true_eq]at this;omega
  ·simp[Ad,Ja,Jr (Nat.le_of_not_lt hb)]at hx
 ·rw[Cc hk]at hx;by_cases hb:b<cs[k].blocks.length
  ·rw[AA hb]at hx;have g:=(h2 k hk).2 b hb;simp only[blkG,Jm,Jao]at g;have:=g.1.2 x hx;simp only[AC,insH,insL,Jm,decide_eq_true_eq]at this;refine⟨this.1.1.1.1,this.1.1.1.2,fun dG=>?_⟩;have:=this.2;simp only[dG,if_false,Jm,decide_eq_true_eq]at this;exact this.1.1
  ·simp[Ad,Ja,Jr (Nat.le_of_not_lt hb)]at hx
theorem Qb1s {cs:List CodeD}(hr:RunOk cs){k b:Nat}(hk:k<cs.length)(hb:b<(Ai cs k).blocks.length)(hj:¬(Ad (Ai cs k) b).jump=3)(R:List Int):ixB (Ad (Ai cs k) b) R<(Ad (Ai cs k) b).next.length:=by
 have h1:=hr.jn k b hk hb;have h2:=((hr.ok k hk).bs b hb).jmp;rw[←AA hb]at h2;generalize Ad (Ai cs k) b=y at *;rw[Bg]at h1;rcases h2 with h2|h2|h2
 ·simp only[h2,if_true]at h1;rw[ixB,if_neg Zx];omega
 ·rw[h2]at h1;simp at h1;rw[ixB];split <;> omega
 ·exact absurd h2 hj
theorem Iw {cs:List CodeD}(hr:RunOk cs){k b:Nat}(hk:k<cs.length)(hb:b<(Ai cs k).blocks.length)(hj:¬(Ad (Ai cs k) b).jump=3)(R:List Int) :
  ∃v∈(Ad (Ai cs k) b).next,nxB (Ad (Ai cs k) b) R=v.toNat∧(Ad (Ai cs k) b).next[ixB (Ad (Ai cs k) b) R]? = some v:=by
 have h:=Qb1s hr hk hb hj R;refine⟨_,Jd h,?_,Je h⟩;rw[nxB,Ja,Je h];rfl
end Go.AE.Y
namespace Go.AE.Y
variable {cs:List CodeD}{S u u' u2:Nat}{X Y Z:Cf}{e:Int}{s c:List Int}
def Goes (cs:List CodeD)(S u:Nat)(X:Cf)(u':Nat)(Y:Cf):Prop:=u≤u'∧u'≤S∧Br cs (u'-u) X=Y
def Halts (cs:List CodeD)(S u:Nat)(X:Cf)(e:Int)(s c:List Int):Prop:=
 u≤S∧((e=3∧∃fs,Br cs (S-u) X=.go fs s c)∨(¬e=3∧∃n,n≤S-u∧Br cs n X=.dn e 0 s c))
theorem Goes.refl (h:u≤S):Goes cs S u X u X:=⟨Jj _,h,by rw[Jat];rfl⟩
theorem Goes.trans (h:Goes cs S u X u' Y)(k:Goes cs S u' Y u2 Z):Goes cs S u X u2 Z:=by
 obtain⟨h1,h2,h3⟩:=h;obtain⟨k1,k2,k3⟩:=k;refine⟨Zx,k2,?_⟩;rw[show u2-u=(u'-u)+(u2-u')by omega,GC,h3,k3]
theorem Goes.halts (h:Goes cs S u X u' Y)(k:Halts cs S u' Y e s c):Halts cs S u X e s c:=by
 obtain⟨h1,h2,h3⟩:=h;obtain⟨k1,k2⟩:=k;refine⟨Zx,?_⟩;rcases k2 with ⟨k2,fs,k3⟩|⟨k2,n,k3,k4⟩
 ·exact .inl ⟨k2,fs,by rw[show S-u=(u'-u)+(S-u')by omega,GC,h3,k3]⟩
 ·exact .inr ⟨k2,(u'-u)+n,Zx,by rw[GC,h3,k4]⟩
theorem Goes.one (h:u<S)(hs:step cs X=Y):Goes cs S u X (u+1) Y:=⟨Zx,Zx,by
 rw[Nat.add_sub_cancel_left];exact hs⟩
theorem Halts.fuel {fs:List Fr}:Halts cs S S (.go fs s c) 3 s c:=⟨Jj _,.inl ⟨rfl,fs,by rw[Jat];rfl⟩⟩
theorem Halts.one (h:u<S)(he:¬e=3)(hs:step cs X=.dn e 0 s c):Halts cs S u X e s c:=⟨Zx,.inr ⟨he,1,Zx,hs⟩⟩
theorem Qbpt {l:List Int}(h:Halts cs S 0 (cf0 cs l) e s c):outR cs l S=(e,0,s,c):=by
 obtain⟨_,⟨rfl,fs,h⟩|⟨_,n,h1,h2⟩⟩:=h
 ·rw[Ja7]at h;rw[outR,h]
 ·rw[outR,Fk cs h2 Zx]
theorem Qbu9 {l:List Int}{v:Int}(h:Goes cs S 0 (cf0 cs l) u' (.dn 0 v s c)):outR cs l S=(0,v,s,c):=by
 obtain⟨_,h1,h2⟩:=h;rw[Ja7]at h2;rw[outR,Fk cs h2 h1]
def byI (v:Int):Prop:=0≤v∧v≤255
def byL (l:List Int):Prop:=∀v∈l,byI v
theorem byL.get {l:List Int}(h:byL l)(i:Nat):byI (l.getD i 0):=by
 rw[Ja];by_cases hi:i<l.length
 ·rw[Je hi];exact h _ (Jd hi)
 ·rw[Jr Zx];exact⟨Zz,Zz⟩
theorem byL.rg {l:List Int}(h:byL l)(r:Int):byI (rg l r):=h.get _
theorem byL.set {l:List Int}(h:byL l){v:Int}(hv:byI v)(i:Nat):byL (l.set i v):=fun x hx=>by
 rcases Jv hx with hx|rfl
 ·exact h x hx
 ·exact hv
theorem byL.app {l:List Int}(h:byL l){v:Int}(hv:byI v):byL (l++[v]):=fun x hx=>by
 rcases Jq.1 hx with hx|hx
 ·exact h x hx
 ·rw[Jb]at hx;subst hx;exact hv
theorem EV (b:Prop) [Decidable b]:byI (trI b):=by rw[trI];split <;> exact⟨Zx,Zx⟩
theorem Qb1b {op a b v:Int}(ha:byI a)(hb:byI b)(h:arR op a b=some v):byI v:=by
 have hm:∀x:Int,byI (x % 256):=fun x=>⟨Zx,Zx⟩;rw[arR]at h;split at h
 ·cases h;exact hm _
 ·split at h
  ·cases h;exact hm _
  ·split at h
   ·cases h;exact hm _
   ·split at h
    ·split at h
     ·cases h
     ·cases h;obtain⟨a1,a2⟩:=ha;obtain⟨b1,b2⟩:=hb;exact⟨Int.ediv_nonneg a1 b1,Int.le_trans (Int.ediv_le_self _ a1) a2⟩
    ·split at h
     ·split at h
      ·cases h
      ·rename_i eH
       cases h;obtain⟨b1,b2⟩:=hb;exact⟨Int.emod_nonneg _ eH,by have:=Int.emod_lt_of_pos a (show 0<b by omega);omega⟩
     ·split at h
      ·cases h;exact EV _
      ·split at h <;> (cases h;exact EV _)
theorem Qbsx {q:CodeD}{l:List Int}(h:byL l):byL (AN q l):=fun x hx=>by
 rcases Jq.1 hx with hx|hx
 ·exact h x hx
 ·rw[Jak hx];exact⟨Zx,Zx⟩
end Go.AE.Y
namespace Go.AE.Y
open Go.Proofs.Tryz
def Qkn:List Item:=[oJ 5 4]
def Q7r:SC:=cT 5 (sR [fI 2 (.mv (.k (.c (.sl true 1 []))))] [2] .ret) .skip
def Qko:List Item:=[mJ 2 8]
def Qkp:List Item:=aJ 8 Tl [.t 7]::Qko
def Q7s:SC:=sR (tJ 6 1 1::aJ 7 Ss [.t 6]::Qkp) [2] .ret
def Q7t:SC:=.seq (sR (tJ 3 1 1::aJ 4 GY [.t 3]::Qkn) [1,5] Q7r) Q7s
def Qait:SC:=sR [vJ 1 0,fI 2 (.mv (.k (.c (.sl true 1 []))))] [1] Q7t
abbrev Qtg:List RS:=[.tmp 2]
theorem Qahi:mFn prog Vd 1 9 Qait Qtg=true:=ZB
def Qpk:List Item:=[mJ 10 19]
def Qpl:List Item:=sJ 4 9 18::Qpk
def Qpm:List Item:=mJ 13 17::fI 18 (.ext (.t 13) 0)::fI 19 (.ext (.t 13) 1)::eI 9 (.alloc [.sl true 1 [],.int .i64 0,.int .i64 0,.sl true 1 []])::Qpl
def Qpn:List Item:=[mJ 12 25]
def Qpo:List Item:=sJ 4 11 24::Qpn
def Qpp:List Item:=mJ 20 23::fI 24 (.ext (.t 20) 0)::fI 25 (.ext (.t 20) 1)::eI 11 (.alloc [.sl true 1 [],.int .i64 0,.int .i64 0,.sl true 1 []])::Qpo
def Sq:List Item:=[gT 38 30 (.pick (.t 34) (.k (.c (.bool true))) (.t 37)),pF 39 30 38,mJ 8 39]
def Qai0:SC:=sR (mJ 26 10::mJ 27 26::gTm 28 27 12::pF 29 27 28::mJ 30 29::gTf 31 30 1 9::gTl 32 30 31::gT 33 30 (.bin 0 .eql (.t 32) (kI 3))::gTm 34 30 33::gF 35 34 (.ld 4 true (.t 9))::gF 36 34 (.ld 4 true (.t 11))::.e (some 37) (some (34,false)) (.call Vn [.t 35,.t 36])::Sq) [8] .ret
def Qai1:SC:=sR (tJ 21 1 5::mJ 22 2::aJ 23 RY [.t 21,.t 22,kI 60000]::Qpp) [9,10,11,12] Qai0
def Qai2:SC:=sR (tJ 14 1 4::mJ 15 2::mJ 16 3::aJ 17 RY [.t 14,.t 15,.t 16]::Qpm) [2,5,9,10] Qai1
def Qavq:SC:=sR [vJ 4 0,vJ 5 1,fB 8 false] [2,3,4,5] Qai2
abbrev Sc:List RS:=[.tmp 8]
theorem Qauw:mFn prog TC 4 40 Qavq Sc=true:=ZB
def Q8d:SC:=sR [fJ 3 0 1,lJ 4 3,fJ 5 0 1,lJ 6 5,nJ 7 6,cJ 8 .sub 7 1,iJ 9 3 4 8,fJ 10 0 9,lJ 11 10,mJ 2 11] [2] .ret
def Qaji:SC:=sR [vJ 1 0,zJ 2 0] [1] Q8d
abbrev Qtl:List RS:=[.tmp 2]
theorem Qahn:mFn prog Ss 1 12 Qaji Qtl=true:=ZB
def Qtv:List Item:=[fB 7 false]
def Qtw:List Item:=[oJ 14 13]
def Qaiz:List Item:=[fB 7 false]
def Qape:SC:=cT 14 (sR (fI 15 (.bld [.sl true 1 [],.int .i64 0,.int .i64 0,.sl true 1 []] [])::sJ 4 6 15::Qaiz) [6,7] .ret) .skip
def Qtx:List Item:=[mJ 9 22]
def Qty:List Item:=sJ 4 8 21::Qtx
def Qtz:List Item:=mJ 16 20::fI 21 (.ext (.t 16) 0)::fI 22 (.ext (.t 16) 1)::eI 8 (.alloc [.sl true 1 [],.int .i64 0,.int .i64 0,.sl true 1 []])::Qty
def Qt0:List Item:=[fB 7 true]
def Qapf:SC:=sR (tJ 23 4 8::sJ 4 6 23::Qt0) [6,7] .ret
def Qapg:SC:=sR (tJ 17 1 3::mJ 18 1::mJ 19 2::aJ 20 Tm [.t 17,.t 18,.t 19]::Qtz) [6,8] Qapf
def Qaiy:SC:=.seq (sR (tJ 10 1 3::mJ 11 1::mJ 12 2::aJ 13 TA [.t 10,.t 11,.t 12]::Qtw) [1,2,3,6,14] Qape) Qapg
def Qa1c:SC:=sR (vJ 3 0::eI 6 (.alloc [.sl true 1 [],.int .i64 0,.int .i64 0,.sl true 1 []])::Qtv) [1,2,3,6] Qaiy
abbrev Q93:List RS:=[.cell 6 4 true,.tmp 7]
theorem Qaz6:mFn prog RY 3 24 Qa1c Q93=true:=ZB
def Qja:List Item:=[pF 30 24 29,mJ 4 30]
def Qjb:List Item:=mJ 10 9::gTf 11 10 1 2::gTl 12 10 11::gTf 13 10 1 3::gTl 14 10 13::gT 15 10 (.bin 0 .eql (.t 12) (.t 14))::pF 16 10 15::mJ 17 16::gTf 18 17 2 2::gTl 19 17 18::gTf 20 17 2 3::gTl 21 17 20::gT 22 17 (.bin 0 .eql (.t 19) (.t 21))::pF 23 17 22::mJ 24 23::gTf 25 24 3 2::gTl 26 24 25::gTf 27 24 3 3::gTl 28 24 27::.e (some 29) (some (24,true)) (.call RB [.t 26,.t 28])::Qja
def Q3z:SC:=sR (fJ 5 0 2::lJ 6 5::fJ 7 0 3::lJ 8 7::aJ 9 RB [.t 6,.t 8]::Qjb) [4] .ret
def Qadq:SC:=sR [vJ 2 0,vJ 3 1,fB 4 false] [2,3] Q3z
abbrev Qpf:List RS:=[.tmp 4]
theorem Qadf:mFn prog Vn 2 31 Qadq Qpf=true:=ZB
def Qpt:List Item:=[pF 18 15 17,mJ 6 18]
def Qpu:List Item:=pF 14 9 13::mJ 15 14::gTm 16 15 2::.e (some 17) (some (15,true)) (.call Cd [.t 16,kI 0,kI 60000])::Qpt
def Qpv:List Item:=.e (some 13) (some (9,true)) (.call Tt [.t 10,.t 12])::Qpu
def Qpw:List Item:=mJ 9 8::gTm 10 9 1::gT 11 9 (.ld 1 true (.t 3))::.e (some 12) (some (9,true)) (.call Ss [.t 11])::Qpv
def Qajn:SC:=sR (tJ 7 1 3::aJ 8 GY [.t 7]::Qpw) [6] .ret
def Qawb:SC:=sR [vJ 3 0,fB 6 false] [1,2,3] Qajn
abbrev Q3l:List RS:=[.tmp 6]
theorem Qau1:mFn prog TA 3 19 Qawb Q3l=true:=ZB
def Qur:List Item:=[fI 7 (.mv (.k (.c .pnil)))]
def Qus:List Item:=[sJ 1 8 13]
def Qut:List Item:=eI 8 (.alloc [.pnil])::Qus
def TI:List Item:=[fJ 16 1 9,sJ 1 16 15]
def Quu:List Item:=[fJ 27 3 9,sJ 1 27 25]
def Quv:List Item:=hJ 17 8::hJ 20 19::sJ 1 26 20::Quu
def Quw:List Item:=[hJ 29 8,mJ 7 29]
def Qaqc:SC:=.seq (.aA 4 [0,1,2,1,3] ( tJ 28 4 9::lJ 29 8::sJ 4 6 28::Quw) [6,7]) .ret
def Qaqd:SC:=.seq (.seq .gh (.aA 13 [0,1,2,3,4,5,6,7,9,8,0,3,10,11,12] ( lJ 17 8::kJ 18 17::fJ 19 3 18::lJ 20 19::lJ 21 8::kJ 22 21::fJ 23 4 22::fI 24 (.aslp 16 (.t 23) none)::fJ 26 0 9::aJ 25 Ez [.t 24]::Quv) [6,8,9])) Qaqc
def Qaqe:SC:=sR (fI 14 (.mkf Vh [.t 8,.t 3,.t 4,.t 9])::aJ 15 SU [.t 14]::TI) [6,8,9] Qaqd
def Qajj:SC:=sR [eI 9 (.alloc [.sl true 1 [],.int .i64 0,.int .i64 0,.sl true 1 []])] [3,4,6,8,9] Qaqe
def Qajk:SC:=sR (tJ 10 1 3::mJ 11 2::fI 12 (.bld [.sl true 3 [],.int .i64 0,.int .i64 0,.sl true 1 [],.int .i64 0,.int .i64 0,.int .i64 0,.int .i64 0,.int .i64 0,.int .i64 0,.int .i64 0,.int .i64 0,.int .i64 0,.int .i64 0,.int .i64 0,.int .i64 0,.int .i64 0,.int .i64 0,.int .i64 0,.int .i64 0,.sl true 1 []] [(0,1,.t 10),(1,1,.t 11)])::eI 13 (.boxm (.t 12))::Qut) [3,4,6,8] Qajj
def Qa1o:SC:=sR (vJ 3 0::vJ 4 1::eI 6 (.alloc [.sl true 1 [],.int .i64 0,.int .i64 0,.sl true 1 []])::Qur) [2,3,4,6] Qajk
abbrev Q96:List RS:=[.cell 6 4 true,.tmp 7]
theorem Qa0a:mFn prog Tm 3 30 Qa1o Q96=true:=ZB
def Qt1:List Item:=[gT 12 9 (.not (.t 11)),pF 13 9 12,mJ 4 13]
def Qapi:SC:=sR (mJ 5 0::nJ 6 5::mJ 7 1::bJ 8 .eql 6 7::mJ 9 8::gTm 10 9 0::.e (some 11) (some (9,true)) (.call GZ [.t 10,.k (.c (.fn Vc []))])::Qt1) [4] .ret
def Qa1k:SC:=sR [fB 4 false] [0,1] Qapi
abbrev Q94:List RS:=[.tmp 4]
theorem Qaz7:mFn prog Tt 2 14 Qa1k Q94=true:=ZB
def Qkw:List Item:=[fJ 11 2 3,sJ 1 11 10]
def Qajl:SC:=.reg (lJ 4 0::fJ 5 0 1::lJ 6 5::nJ 7 6::cJ 8 .sub 7 1::lJ 9 2::aJ 10 S4 [.t 4,.t 8,.t 9,.k (.c (.bool true))]::Qkw) []
abbrev Qtm:List RS:=[]
theorem Qaho:mFn prog Vh 4 12 Qajl Qtm=true:=ZB
def Qhe:List Item:=[sJ 3 9 27]
def Qhf:List Item:=[sJ 1 10 30]
def Qhg:List Item:=eI 10 (.alloc [.sl true 1 []])::Qhf
def Qhh:List Item:=[kJ 43 35,fJ 44 20 43,sJ 1 44 42]
def Q1t:SC:=cT 34 (.reg (mJ 35 0::mJ 36 0::kJ 37 36::fJ 38 20 37::lJ 39 38::mJ 40 11::fI 41 (.aG 1 [.t 40])::xJ 42 1 39 41::Qhh) [0,3,9,10,11,12]) .skip
def Qhi:List Item:=[sJ 5 13 49]
def Qhj:List Item:=[sJ 1 14 62]
def Qhk:List Item:=eI 14 (.alloc [.int .i64 0])::Qhj
def Qhl:List Item:=mJ 61 12::aJ 62 HI [.t 60,.t 61]::Qhk
def Qhm:List Item:=[mJ 15 66]
def Qgk:List Item:=[mJ 16 72,sJ 2 17 74]
def Qyd:SC:=.aA 9 [0,1,2,3,4,5,6,7,8] ( lJ 75 10::fJ 76 0 17::lJ 77 76::mJ 78 15::mJ 79 16::iJ 80 1 78 79::lJ 81 80::iJ 82 1 75 77::sJ 1 82 81::[]) [0,3,9,10,11,13,15,68,69,70]
def Qye:SC:=.reg [cJ 83 .add 70 1,mJ 70 83] [0,3,9,10,11,13,15,68,69,70]
def Qyf:SC:=.seq (.block 3 (sR (mJ 72 70::iJ 73 2 68 70::tJ 74 2 73::eI 17 (.alloc [.int .i64 0,.sl true 1 []])::Qgk) [0,3,9,10,11,13,15,16,17,68,69,70] Qyd)) Qye
def Qux:SC:=sR [bJ 71 .lss 70 69] [0,3,9,10,11,13,15,68,69,70,71] (cX 71 2 Qyf)
def Qyg:SC:=sR [fJ 67 0 13,lJ 68 67,nJ 69 68,zJ 70 0] [0,3,9,10,11,13,15,68,69,70] (bL 2 Qux)
def Qyh:SC:=sR (fJ 63 0 13::lJ 64 63::fI 65 (.mkf I8 [.t 10,.t 14])::aJ 66 Vv [.t 64,.t 65]::Qhm) [0,3,9,10,11,13,15] Qyg
def Qyi:SC:=cT 57 (sR (tJ 58 3 9::mJ 59 11::aJ 60 HP [.t 58,.t 59]::Qhl) [0,3,9,10,11,13,14] Qyh) .skip
def Qgl:List Item:=[sJ 4 19 90]
def Qyj:SC:=.reg [mJ 91 0,tJ 92 4 19,lJ 93 10,aJ 94 Vu [.t 91,.t 92,.t 93]] [0,3,9,10,11,13,85,86,87]
def Qyk:SC:=.reg [cJ 95 .add 87 1,mJ 87 95] [0,3,9,10,11,13,85,86,87]
def Qyl:SC:=.seq (.block 5 (sR (iJ 89 4 85 87::tJ 90 4 89::eI 19 (.alloc [.int .i64 0,.int .i64 0,.sl true 1 [],.int .i64 0])::Qgl) [0,3,9,10,11,13,19,85,86,87] Qyj)) Qyk
def Quy:SC:=sR [bJ 88 .lss 87 86] [0,3,9,10,11,13,85,86,87,88] (cX 88 4 Qyl)
def Qym:SC:=cT 112 (.reg [fJ 124 4 13,lJ 125 124,fI 126 (.iad 1 (.t 125) (kI 1)),lJ 127 126,mJ 11 127] [0,3,9,10,11,12]) (.reg [fJ 99 4 13,lJ 100 99,fI 101 (.iad 1 (.t 100) (kI 0)),lJ 102 101,mJ 11 102] [0,3,9,10,11,12])
def Qyn:SC:=cT 103 (sR [lJ 107 10,fJ 108 3 13,lJ 109 108,iJ 110 1 107 109,lJ 111 110,mJ 8 111] [8] .ret) (sR [fJ 113 2 13,lJ 114 113,cJ 115 .eql 114 2,mJ 116 115,gTl 117 116 10,gTf 118 116 3 13,gTl 119 116 118,gT 120 116 (.iad 1 (.t 117) (.t 119)),gTl 121 116 120,gT 122 116 (.bin 0 .eql (.t 121) (kI 0)),pF 123 116 122,mJ 112 123] [0,3,9,10,12,13,112] Qym)
def Qyo:SC:=.block 6 (sR [fJ 104 2 13,lJ 105 104,cJ 106 .eql 105 3,mJ 103 106] [0,3,9,10,12,13,103] Qyn)
def Qyp:SC:=sR [mJ 98 11,mJ 12 98] [0,3,9,10,12,13] Qyo
def Qyq:SC:=sR [mJ 96 0,aJ 97 S3 [.t 96]] [0,3,9,10,11,13] Qyp
def Qyr:SC:=.seq (sR [fJ 84 1 13,lJ 85 84,nJ 86 85,zJ 87 0] [0,3,9,10,11,13,85,86,87] (bL 4 Quy)) Qyq
def Qys:SC:=.seq (sR [mJ 50 12,cJ 51 .geq 50 0,mJ 52 51,gTf 53 52 0 13,gTl 54 52 53,gT 55 52 (.len (.t 54)),gT 56 52 (.bin 0 .gtr (.t 55) (kI 0)),pF 57 52 56] [0,3,9,10,11,12,13,57] Qyi) Qyr
def Qyt:SC:=sR (fJ 45 2 9::lJ 46 45::mJ 47 11::iJ 48 5 46 47::tJ 49 5 48::eI 13 (.alloc [.sl true 2 [],.sl true 4 [],.int .i64 0,.int .i64 0,.sl true 1 []])::Qhi) [0,3,9,10,11,12,13] Qys
def Quz:SC:=.block 1 (.seq (sR [mJ 34 3] [0,3,9,10,11,12,34] Q1t) Qyt)
def Qyu:SC:=sR [zJ 11 0,zJ 12 (-1)] [0,3,9,10,11,12] (bL 0 Quz)
def Qyv:SC:=sR [lJ 31 10,mJ 32 2,eI 33 (.cpy 1 (.t 31) (.t 32))] [0,3,9,10] Qyu
def Qyw:SC:=sR (fJ 28 1 9::lJ 29 28::eI 30 (.mks 1 [.int .i64 0] (.t 29))::Qhg) [0,2,3,9,10] Qyv
def Qyx:SC:=sR (mJ 20 0::kJ 21 20::fJ 22 0 21::fJ 23 0 22::lJ 24 23::mJ 25 1::iJ 26 3 24 25::tJ 27 3 26::eI 9 (.alloc [.int .i64 0,.int .i64 0,.sl true 5 []])::Qhe) [0,2,3,9] Qyw
def Q8f:SC:=sR [zJ 8 0] [0,1,2,3] Qyx
abbrev Qmp:List RS:=[.tmp 8]
theorem Q7b:mFn prog S4 4 128 Q8f Qmp=true:=ZB
def Qkq:List Item:=[oJ 5 4,mJ 2 5]
def Q7y:SC:=sR (mJ 3 0::aJ 4 RV [.t 3]::Qkq) [2] .ret
def Qai6:SC:=sR [fB 2 false] [0] Q7y
abbrev Qti:List RS:=[.tmp 2]
theorem Qahj:mFn prog Vc 1 6 Qai6 Qti=true:=ZB
def Qrq:SC:=.seq (.aA 9 [0,1,2,3,4,5,6,7,8] ( lJ 5 1::fJ 6 1 3::lJ 7 6::lJ 8 2::iJ 9 1 7 8::lJ 10 9::iJ 11 1 5 10::lJ 12 11::mJ 4 12::[]) [4]) .ret
def Qyy:SC:=sR [vJ 3 0,zJ 4 0] [1,2,3] Qrq
abbrev Qg8:List RS:=[.tmp 4]
theorem Qx3:mFn prog I8 3 13 Qyy Qg8=true:=ZB
def Qgm:List Item:=[hJ 44 5,hJ 46 45,kJ 51 50,lJ 52 51,iJ 53 1 44 46,sJ 1 53 52]
def Qgn:List Item:=hJ 44 5::hJ 46 45::aJ 50 Sx [.t 47,.t 49]::Qgm
def Qgo:List Item:=[kJ 62 59,sJ 1 62 61]
def Qgp:List Item:=mJ 60 6::eI 61 (.ba (.t 60) [kI 1])::Qgo
def Qgq:List Item:=aJ 59 Sx [.t 56,.t 58]::Qgp
def Qgr:List Item:=[kJ 74 65,fJ 75 3 74,sJ 1 75 73]
def Qgs:List Item:=hJ 69 68::fI 72 (.aG 1 [.t 71])::xJ 73 1 69 72::Qgr
def Qgt:List Item:=[mJ 7 89]
def Qgu:List Item:=fI 88 (.aG 1 [.t 87])::xJ 89 1 84 88::Qgt
def Qyz:SC:=.reg (mJ 84 7::mJ 85 6::mJ 86 8::eI 87 (.ba (.t 85) [.t 86])::Qgu) [0,4,5,6,7,80,81]
def Qu0:SC:=.reg [cJ 90 .add 81 1,mJ 81 90] [0,4,5,6,7,80,81]
def Qu1:SC:=.seq (.block 2 (sR [mJ 83 81,mJ 8 83] [0,4,5,6,7,8,80,81] Qyz)) Qu0
def Qrr:SC:=sR [bJ 82 .lss 81 80] [0,4,5,6,7,80,81,82] (cX 82 1 Qu1)
def Qfc:List Item:=[hJ 91 5,hJ 93 92,iJ 99 1 91 93,sJ 1 99 98]
def Qu2:SC:=.aA 10 [0,1,2,3,4,5,6,7,0,2,8,9] ( lJ 91 5::fJ 92 1 4::lJ 93 92::mJ 94 0::fJ 95 3 4::lJ 96 95::mJ 97 7::aJ 98 S4 [.t 94,.t 96,.t 97,.k (.c (.bool false))]::Qfc) []
def Qu3:SC:=.seq (sR [fJ 78 2 4,lJ 79 78,nJ 80 79,zJ 81 0] [0,4,5,6,7,80,81] (bL 1 Qrr)) Qu2
def Qfd:List Item:=[hJ 102 5,hJ 104 103,iJ 107 1 102 104,sJ 1 107 106]
def Qfe:List Item:=[hJ 111 5,hJ 113 112,mJ 110 116,fI 117 (.ext (.t 110) 0),fI 118 (.ext (.t 110) 1),iJ 119 1 111 113,sJ 1 119 117]
def Qff:List Item:=hJ 111 5::hJ 113 112::aJ 116 HL [kI 11,.t 115,kI 0]::Qfe
def Qfg:List Item:=[mJ 16 23,fI 24 (.ext (.t 16) 0),fI 25 (.ext (.t 16) 1),mJ 9 24,mJ 10 25]
def Qfh:List Item:=hJ 18 17::aJ 23 HL [.t 18,.t 20,.t 22]::Qfg
def Qfi:List Item:=hJ 18 17::eI 22 (.ba (.t 21) [kI 1])::Qfh
def Qu4:SC:=cT 27 (.reg [aJ 28 HE [kI 1]] [4,5,9]) .skip
def Qu5:SC:=.reg [lJ 29 5,fJ 30 1 4,lJ 31 30,mJ 32 9,iJ 33 1 29 31,sJ 1 33 32] []
def Qu6:SC:=.seq (sR [mJ 26 10,oJ 27 26] [4,5,9,27] Qu4) Qu5
def Qu7:SC:=cT 108 (.aA 11 [0,1,2,3,4,0,2,5,0,2,6,7,8,9,10] ( lJ 111 5::fJ 112 1 4::lJ 113 112::mJ 114 6::eI 115 (.ba (.t 114) [kI 0])::Qff) []) (.seq (.aA 12 [0,1,2,4,3,1,5,1,6,7,8,9,10,11] ( fJ 17 0 4::lJ 18 17::mJ 19 6::mJ 21 6::eI 20 (.ba (.t 19) [kI 0])::Qfi) [4,5,9,10]) Qu6)
def Qu8:SC:=cT 100 (.aA 7 [0,1,2,3,4,0,2,5,6] ( lJ 102 5::fJ 103 1 4::lJ 104 103::mJ 105 6::eI 106 (.ba (.t 105) [kI 0])::Qfd) []) (sR [cJ 109 .eql 15 10,mJ 108 109] [4,5,6,108] Qu7)
def Qu9:SC:=cT 76 (sR [fI 7 (.mv (.k (.c (.sl true 1 []))))] [0,4,5,6,7] Qu3) (sR [cJ 101 .eql 15 2,mJ 100 101] [4,5,6,15,100] Qu8)
def Qva:SC:=cT 63 (.aA 12 [0,1,2,3,4,5,6,4,7,8,9,10,11] ( mJ 65 0::mJ 66 0::kJ 67 66::fJ 68 3 67::lJ 69 68::mJ 70 6::eI 71 (.ba (.t 70) [kI 0])::Qgs) []) (sR [cJ 77 .eql 15 14,mJ 76 77] [0,4,5,6,15,76] Qu9)
def Qvb:SC:=cT 54 (.reg (mJ 56 0::mJ 57 6::eI 58 (.ba (.t 57) [kI 0])::Qgq) []) (sR [cJ 64 .eql 15 13,mJ 63 64] [0,4,5,6,15,63] Qva)
def Qvc:SC:=cT 42 (.aA 11 [0,1,2,3,4,5,0,2,6,0,2,7,8,9,10] ( lJ 44 5::fJ 45 1 4::lJ 46 45::mJ 47 0::mJ 48 6::eI 49 (.ba (.t 48) [kI 0])::Qgn) []) (sR [cJ 55 .eql 15 12,mJ 54 55] [0,4,5,6,15,54] Qvb)
def Qvd:SC:=cT 34 (.reg [lJ 36 5,fJ 37 1 4,lJ 38 37,fJ 39 3 4,lJ 40 39,iJ 41 1 36 38,sJ 1 41 40] []) (sR [cJ 43 .eql 15 11,mJ 42 43] [0,4,5,6,15,42] Qvc)
def Qve:SC:=.block 0 (sR [cJ 35 .eql 15 1,mJ 34 35] [0,4,5,6,15,34] Qvd)
def Qvf:SC:=sR [fJ 14 0 4,lJ 15 14] [0,4,5,6,15] Qve
def Qvg:SC:=sR [fI 13 (.mkf S6 [.t 5,.t 4]),mJ 6 13] [0,4,5,6] Qvf
def Qvh:SC:=sR [mJ 11 0,aJ 12 S3 [.t 11]] [0,4,5] Qvg
def Q4m:SC:=sR [vJ 4 1,vJ 5 2] [0,4,5] Qvh
abbrev S0:List RS:=[]
theorem Q3e:mFn prog Vu 3 120 Q4m S0=true:=ZB
def Q1u:SC:=cT 10 (.reg [aJ 11 HE [kI 3]] [0]) .skip
def Q1v:SC:=.reg [mJ 12 0,kJ 13 12,fJ 14 2 13,lJ 15 14,cJ 16 .add 15 1,kJ 17 12,fJ 18 2 17,sJ 1 18 16] []
def Q8g:SC:=.seq (.seq (.aA 9 [0,1,2,3,4,5,6,7,8] ( mJ 2 0::kJ 3 2::fJ 4 2 3::lJ 5 4::mJ 6 0::kJ 7 6::fJ 8 1 7::lJ 9 8::bJ 10 .eql 5 9::[]) [0,10]) Q1u) Q1v
abbrev Qmq:List RS:=[]
theorem Q7c:mFn prog S3 1 19 Q8g Qmq=true:=ZB
def Qoy:SC:=.seq (.aA 9 [0,1,2,3,4,5,6,7,8] ( lJ 5 1::fJ 6 2 2::lJ 7 6::mJ 8 0::iJ 9 1 7 8::lJ 10 9::iJ 11 1 5 10::lJ 12 11::mJ 4 12::[]) [4]) .ret
def Qvi:SC:=sR [zJ 4 0] [0,1,2] Qoy
abbrev Qgi:List RS:=[.tmp 4]
theorem Qs9:mFn prog S6 3 13 Qvi Qgi=true:=ZB
def Q1q:SC:=cT 6 (.reg [aJ 7 HE [kI 2]] [0,1]) .skip
def Q1r:SC:=sR [mJ 8 0,mJ 9 1,kJ 10 8,fJ 11 4 10,fI 12 (.iaa 1 16 (.t 11) (.t 9)),mJ 4 12] [4] .ret
def Q1s:SC:=.seq (sR [mJ 5 1,cJ 6 .geq 5 16] [0,1,6] Q1q) Q1r
def Q8e:SC:=sR [fI 4 (.mv (.k (.c .pnil)))] [0,1] Q1s
abbrev Qmo:List RS:=[.tmp 4]
theorem Q7a:mFn prog Sx 2 13 Q8e Qmo=true:=ZB
def Qa1d:SC:=cT 29 .skip (.reg [cJ 31 .eql 9 7,mJ 29 31] [0,1,2,8,9,29])
def Qa1e:SC:=cT 33 (sR [zJ 6 0,fB 7 false] [6,7] .ret) .skip
def Qa1f:SC:=cT 35 (sR [mJ 36 1,mJ 37 2,bJ 38 .quo 36 37,mJ 6 38,fB 7 true] [6,7] .ret) .skip
def Qa1g:SC:=sR [mJ 39 1,mJ 40 2,bJ 41 .rem 39 40,mJ 6 41,fB 7 true] [6,7] .ret
def Qa1h:SC:=.seq (sR [mJ 34 0,cJ 35 .eql 34 6] [1,2,35] Qa1f) Qa1g
def Q33:List Item:=[mJ 6 48,fB 7 true]
def Q34:List Item:=[mJ 6 55,fB 7 true]
def Qavz:List Item:=[mJ 6 65,fB 7 true]
def Qa1i:SC:=cT 56 (sR (mJ 58 8::mJ 59 1::cJ 60 .neq 59 0::mJ 61 60::gTm 62 61 2::gT 63 61 (.bin 0 .neq (.t 62) (kI 0))::pF 64 61 63::eI 65 (.ba (.t 58) [.t 64])::Qavz) [6,7] .ret) .skip
def Qa1j:SC:=cT 49 (sR (mJ 51 8::mJ 52 1::mJ 53 2::bJ 54 .eql 52 53::eI 55 (.ba (.t 51) [.t 54])::Q34) [6,7] .ret) (sR [cJ 57 .eql 9 10,mJ 56 57] [1,2,8,56] Qa1i)
def Qavr:SC:=cT 42 (sR (mJ 44 8::mJ 45 1::mJ 46 2::bJ 47 .lss 45 46::eI 48 (.ba (.t 44) [.t 47])::Q33) [6,7] .ret) (sR [cJ 50 .eql 9 9,mJ 49 50] [1,2,8,9,49] Qa1j)
def Q31:SC:=cT 29 (.seq (sR [mJ 32 2,cJ 33 .eql 32 0] [0,1,2,33] Qa1e) Qa1h) (sR [cJ 43 .eql 9 8,mJ 42 43] [1,2,8,9,42] Qavr)
def Qavs:SC:=cT 23 (sR [mJ 25 1,mJ 26 2,bJ 27 .mul 25 26,cJ 28 .rem 27 256,mJ 6 28,fB 7 true] [6,7] .ret) (.seq (sR [cJ 30 .eql 9 6,mJ 29 30] [0,1,2,8,9,29] Qa1d) Q31)
def Qavt:SC:=cT 16 (sR [mJ 18 1,mJ 19 2,bJ 20 .sub 18 19,cJ 21 .add 20 256,cJ 22 .rem 21 256,mJ 6 22,fB 7 true] [6,7] .ret) (sR [cJ 24 .eql 9 5,mJ 23 24] [0,1,2,8,9,23] Qavs)
def Qavu:SC:=cT 10 (sR [mJ 12 1,mJ 13 2,bJ 14 .add 12 13,cJ 15 .rem 14 256,mJ 6 15,fB 7 true] [6,7] .ret) (sR [cJ 17 .eql 9 4,mJ 16 17] [0,1,2,8,9,16] Qavt)
def Qavv:SC:=.block 0 (sR [cJ 11 .eql 9 3,mJ 10 11] [0,1,2,8,9,10] Qavu)
def Qzs:List Item:=[mJ 6 69,fB 7 true]
def Q32:SC:=sR (mJ 66 8::mJ 67 1::cJ 68 .eql 67 0::eI 69 (.ba (.t 66) [.t 68])::Qzs) [6,7] .ret
def Qavw:SC:=.seq (sR [mJ 9 0] [0,1,2,8,9] Qavv) Q32
def Qavx:SC:=sR [fI 8 (.mv (.k (.c (.fn Sn []))))] [0,1,2,8] Qavw
def Qbjx:SC:=sR [zJ 6 0,fB 7 false] [0,1,2] Qavx
abbrev Hv:List RS:=[.tmp 6,.tmp 7]
theorem LE:mFn prog HL 3 70 Qbjx Hv=true:=ZB
def Qai3:SC:=cT 3 (sR [zJ 2 1] [2] .ret) .skip
def Qai4:SC:=sR [zJ 2 0] [2] .ret
def Qai5:SC:=.seq (sR [mJ 3 0] [3] Qai3) Qai4
def Qavy:SC:=sR [zJ 2 0] [0] Qai5
abbrev Te:List RS:=[.tmp 2]
theorem Qaux:mFn prog Sn 1 4 Qavy Te=true:=ZB
def Qvj:List Item:=[sJ 3 5 9]
def Qvk:List Item:=[mJ 3 15]
def Qvl:List Item:=fI 14 (.aG 1 [.t 13])::xJ 15 1 10 14::Qvk
def Qaqf:SC:=.seq .gh (.reg (mJ 10 3::mJ 11 0::fI 12 (.aslp 3 (.t 5) (some (.t 11)))::aJ 13 Ez [.t 12]::Qvl) [0,3,6,7])
def Qaqg:SC:=.reg [cJ 16 .add 7 1,mJ 7 16] [0,3,6,7]
def Qaqh:SC:=.seq (.block 1 (sR (fI 9 (.iax 3 3 (.t 6) (.t 7))::eI 5 (.alloc [.int .i64 0,.int .i64 0,.int .i64 0])::Qvj) [0,3,5,6,7] Qaqf)) Qaqg
def Qajm:SC:=sR [cJ 8 .lss 7 3] [0,3,6,7,8] (cX 8 0 Qaqh)
def Qaqi:SC:=sR [mJ 17 3,mJ 2 17] [2] .ret
def Qaqj:SC:=.seq (sR [fI 6 (.ldg 9 0 0),zJ 7 0] [0,3,6,7] (bL 0 Qajm)) Qaqi
def Qaqk:SC:=sR [fI 3 (.mv (.k (.c (.sl true 1 []))))] [0,3] Qaqj
def Qa1p:SC:=sR [fI 2 (.mv (.k (.c (.sl true 1 []))))] [0] Qaqk
abbrev Q97:List RS:=[.tmp 2]
theorem Qa0b:mFn prog Tl 1 18 Qa1p Q97=true:=ZB
def Qe9:List Item:=[sJ 2 7 13]
def Qfa:List Item:=[mJ 5 19]
def Qfb:List Item:=fI 18 (.aG 1 [.t 17])::xJ 19 1 14 18::Qfa
def Qul:SC:=.reg (mJ 14 5::mJ 15 1::tJ 16 2 7::eI 17 (.ba (.t 15) [.t 16])::Qfb) [1,5,8,9,10]
def Qum:SC:=.reg [cJ 20 .add 10 1,mJ 10 20] [1,5,8,9,10]
def Qun:SC:=.seq (.block 1 (sR (iJ 12 2 8 10::tJ 13 2 12::eI 7 (.alloc [.int .i64 0,.sl true 1 []])::Qe9) [1,5,7,8,9,10] Qul)) Qum
def Qrj:SC:=sR [bJ 11 .lss 10 9] [1,5,8,9,10,11] (cX 11 0 Qun)
def Quo:SC:=sR [mJ 21 5,mJ 4 21] [4] .ret
def Qup:SC:=.seq (sR [mJ 8 0,nJ 9 8,zJ 10 0] [1,5,8,9,10] (bL 0 Qrj)) Quo
def Quq:SC:=sR [fI 5 (.mv (.k (.c (.sl true 1 []))))] [0,1,5] Qup
def Q1p:SC:=sR [fI 4 (.mv (.k (.c (.sl true 1 []))))] [0,1] Quq
abbrev Qi7:List RS:=[.tmp 4]
theorem Q08:mFn prog Vv 2 22 Q1p Qi7=true:=ZB
variable {H:Heap}{K:V→Heap→Prop}
def endV (n:Int):Value:=.iface 190 (.int .i64 n)
theorem Yf (n:Int)(w:World):Calls prog HE #[.int .i64 n] w fun e w'=>e=.panicked [{ v:=endV n,recovered:=false }]∧w'=w:=by
 go_enter Go.Proofs.Tryz.func271,Go.Proofs.Tryz.ntmps271
 go_wp2
 exact⟨rfl,rfl,rfl⟩
theorem EF {n:Int}(hK:K (.pn (endV n)) H):Qs prog HE [.c (.int .i64 n)] H K:=by
 refine⟨ZB,fun g w vs hs hl hv=>?_⟩;obtain⟨v,rfl⟩:∃v,vs=[v]:=by
  match vs,hl with
  |[v],_=>exact⟨v,rfl⟩
 have hr:=hv 0 _ v rfl rfl
 cases hr with
 |c _ _ hr=>
  cases hr;refine (Yf n w).mono fun e w'=>?_;rintro⟨rfl,rfl⟩;exact .inr ⟨_,H,g,rfl,hK,.refl hs⟩
end Go.AE.Y
namespace Go.AE
variable {P:Program}{H:Heap}{e:Env}
theorem V8 {Q:X→Env→Heap→Prop}{v:Value}:X.panK Q v H=Q (.pan v) [] H:=rfl
theorem Qb2k {b:SC}{Q:X→Env→Heap→Prop}{v:Value}:X.sq P b Q (.pan v) e H=Q (.pan v) e H:=rfl
theorem Qb1p {i:Nat}{Q:X→Env→Heap→Prop}{v:Value}:X.inBlock i Q (.pan v) e H=Q (.pan v) e H:=rfl
theorem Qbu3 {K:Env→Heap→Prop}{Q:X→Env→Heap→Prop}{v:Value}:X.next K Q (.pan v) e H=Q (.pan v) e H:=rfl
theorem Qbs9 {rs:List RS}{K:V→Heap→Prop}{v:Value}:Q6 rs K (.pan v) e H=K (.pn v) H:=rfl
attribute [go_sem] V8 Qb2k Qb1p Qbu3 Qbs9
end Go.AE
namespace Go.AE.Y
attribute [local go_sem] cond_true cond_false Bool.not_true Bool.not_false
open Go.Proofs.Tryz
variable {H H' H0:Heap}{K:V→Heap→Prop}{E A A' B:List (Nat×Obj)}
def Ao (l:List Int):List C:=l.map fun v=>.int .i64 v
structure Rs where
 u:Nat
 s:List Int
 c:List Int
 t:List Int
 sc:C
 so:List (Nat×Obj)
 tc:C
 tl:List (Nat×Obj)
def Rs.mt (r:Rs):List C:=Ao r.c++[r.tc]
structure Rn where
 l:Nat
 fl:Bool
 cs:List CodeD
 S:Nat
def Rn.o (X:Rn)(r:Rs):Obj:=.st (.sl X.fl 3 (Qk X.cs)::.int .i64 X.S::.int .i64 r.u::r.sc::r.mt)
def Rn.F (X:Rn)(r:Rs)(A B:List (Nat×Obj)):List (Nat×Obj):=[(X.l,X.o r)]++(A++((r.so++r.tl)++B))
structure Rs.ok (X:Rn)(r:Rs):Prop where
 gs:Gr r.so 1 (Qb r.s) r.sc
 gt:Gr r.tl 1 (Qb r.t) r.tc
 c:r.c.length=16
 bc:byL r.c
 bs:byL r.s
 ls:r.s.length≤r.u
 lt:r.t.length≤r.u+1
 uS:r.u≤X.S
 S:X.S≤60000
variable {X:Rn}{r r':Rs}
theorem Rs.ok.mt (h:r.ok X):r.mt.length=17:=by simp[Rs.mt,Ao,h.c]
theorem Rs.ok.tick (h:r.ok X)(hu:r.u<X.S):Rs.ok X { r with u:=r.u+1 }:=⟨h.gs,h.gt,h.c,h.bc,h.bs,Nat.le_succ_of_le h.ls,Nat.le_succ_of_le h.lt,hu,h.S⟩
theorem F_in (k:Kn H0 H E (X.F r A B)):Kn H0 H E (X.F r [] (A++B)):=k.perm (Qj fun f hf h0 hc hp=>by simp only[Rn.F,hf,h0];omega)
theorem CF (k:Kn H0 H E (X.F r [] (A++B))):Kn H0 H E (X.F r A B):=k.perm (Qj fun f hf h0 hc hp=>by simp only[Rn.F,hf,h0];omega)
theorem F_al {p:Nat×Obj}(k:Kn H0 H E (X.F r A B++[p])):Kn H0 H E (X.F r (A++[p]) B):=k.perm (Qj fun f hf h0 hc hp=>by simp only[Rn.F,hf];omega)
theorem CZ (k:Kn H0 H E (X.F r (A++A') B)):Kn H0 H E (X.F r A B):=Kn.drop (B:=A') (k.perm (Qj fun f hf h0 hc hp=>by simp only[Rn.F,hf];omega))
theorem Gw (k:Kn H0 H E (X.F r A (A'++B))):Kn H0 H E (X.F r A B):=Kn.drop (B:=A') (k.perm (Qj fun f hf h0 hc hp=>by simp only[Rn.F,hf];omega))
theorem Qb04 (k:Kn H0 H E (X.F r (A++A') B)):Kn H0 H E (X.F r A (A'++B)):=k.perm (Qj fun f hf h0 hc hp=>by simp only[Rn.F,hf];omega)
theorem Qb03 (k:Kn H0 H E (X.F r A (A'++B))):Kn H0 H E (X.F r (A++A') B):=k.perm (Qj fun f hf h0 hc hp=>by simp only[Rn.F,hf];omega)
theorem F_s (k:Kn H0 H E (X.F r A B)):Kn H0 H E (([(X.l,X.o r)]++(A++(r.tl++B)))++r.so):=k.perm (Qj fun f hf h0 hc hp=>by simp only[Rn.F,hf];omega)
theorem F_s' {so:List (Nat×Obj)}(hs:r'.so=so)(ht:r'.tl=r.tl)(k:Kn H0 H E (([(X.l,X.o r')]++(A++(r.tl++B)))++so)):Kn H0 H E (X.F r' A B):=k.perm (Qj fun f hf h0 hc hp=>by simp only[Rn.F,hf,hs,ht];omega)
theorem F_t (k:Kn H0 H E (X.F r A B)):Kn H0 H E (([(X.l,X.o r)]++(A++(r.so++B)))++r.tl):=k.perm (Qj fun f hf h0 hc hp=>by simp only[Rn.F,hf];omega)
theorem F_t' {tl:List (Nat×Obj)}(ht:r'.tl=tl)(hs:r'.so=r.so)(k:Kn H0 H E (([(X.l,X.o r')]++(A++(r.so++B)))++tl)):Kn H0 H E (X.F r' A B):=k.perm (Qj fun f hf h0 hc hp=>by simp only[Rn.F,hf,hs,ht];omega)
theorem F_o (k:Kn H0 H E (X.F r A B)):H X.l=.st (.sl X.fl 3 (Qk X.cs)::.int .i64 X.S::.int .i64 r.u::r.sc::r.mt):=k.l 0 rfl
theorem Qb22 {a b c d:C}{m:List C}{j:Nat}:(a::b::c::d::m).drop (4+j)=m.drop j:=by rw[Nat.add_comm];rfl
theorem cn {a b c d:C}{m:List C}{j:Nat}:(a::b::c::d::m).take (4+j)=a::b::c::d::m.take j:=by rw[Nat.add_comm];rfl
theorem Rs.ok.get (h:r.ok X){j:Nat}(hj:j<16):(r.mt.drop j).take 1=[.int .i64 (r.c.getD j 0)]:=by
 have cw:j<(Ao r.c).length:=by rw[Ao,Jg,h.c];exact hj
 have cj:j<r.c.length:=by rw[h.c];exact hj
 rw[Rs.mt,List.drop_append_of_le_length Zx,Jy cw,J9,List.take_succ_cons,List.take_zero];simp[Ao,Ja,cj]
theorem Rs.ok.dl (h:r.ok X)(j:Nat):(r.mt.drop j).length=17-j:=by rw[List.length_drop,h.mt]
theorem Rs.ok.put (h:r.ok X){j:Nat}(hj:j<16)(v:Int):r.mt.take j++[.int .i64 v]++r.mt.drop (j+1)=Rs.mt { r with c:=r.c.set j v }:=by
 have cw:j<(Ao r.c).length:=by rw[Ao,Jg,h.c];exact hj
 rw[Rs.mt,Rs.mt,List.take_append_of_le_length Zx,List.drop_append_of_le_length Zx];have:Ao (r.c.set j v)=(Ao r.c).take j++.int .i64 v::(Ao r.c).drop (j+1):=by
  rw[Ao,Jz,List.set_eq_take_append_cons_drop,if_pos (by simpa[Ao]using cw)];rfl
 show _=Ao (r.c.set j v)++[r.tc];rw[this];simp
theorem Rs.ok.cells (h:r.ok X){j:Nat}{v:Int}(hv:byI v):Rs.ok X { r with c:=r.c.set j v }:=⟨h.gs,h.gt,by simp[h.c],h.bc.set hv j,h.bs,h.ls,h.lt,h.uS,h.S⟩
theorem HY (kn:Kn H0 H E (X.F r A B))(hr:r.ok X)
  (hK:∀H',r.u<X.S→Kn H0 H' E (X.F { r with u:=r.u+1 } A B)→Rs.ok X { r with u:=r.u+1 }→K (.tup []) H')
  (hP:r.u=X.S→K (.pn (endV 3)) H):Qs prog S3 [.c (.ptr X.l 0)] H K:=by
 refine Qc Ab Q7c ?_;have gO:=hr.mt;have hX:=F_o kn;have hS:=hr.S;have tf:=hr.uS;refine Q1 (Aj ?_);simp only[go_sem,hX,gO];refine Wu ?_ ?_
 ·intro hc;have hu:r.u=X.S:=by
   have:=of_decide_eq_true hc;omega
  refine Zh ?_;refine EF ?_;simp only[go_sem];exact hP hu
 ·intro hc;have hu:r.u<X.S:=by
   have:=of_decide_eq_false hc;omega
  refine Zd ?_
  refine Qp ?_;simp only[go_sem,hX,gO];refine⟨Qr,fun H' h'=>?_⟩;have kn':Kn H0 H' E (X.F { r with u:=r.u+1 } A B):=kn.aB 0 rfl h';simp only[go_sem,Q6,Aa,Qmq];exact hK H' hu kn' (hr.tick hu)
theorem Il {l:Nat}{n:Int}(hn:0≤n)(hK:n<16→K (.c (.ptr l (4+n.toNat))) H)(hP:16≤n→K (.pn (endV 2)) H) :
  Qs prog Sx [.c (.ptr l 0),.c (.int .i64 n)] H K:=by
 refine Qc Ab Q7a ?_;refine Wf ?_;refine Wu ?_ ?_
 ·intro hc;have ip:16≤n:=of_decide_eq_true hc;refine Zh ?_;refine EF ?_;simp only[go_sem];exact hP ip
 ·intro hc;have ip:n<16:=by have:=of_decide_eq_false hc;omega
  refine Zd ?_
  refine Za ?_;refine⟨⟨hn,Zx⟩,?_⟩;refine Zj ?_;have:=hK ip;simpa using this
theorem Fa {b:Bool}(hK:K (.c (.int .i64 (trI (b=true)))) H):Qs prog Sn [.c (.bool b)] H K:=by
 refine Qc Ab Qaux ?_;refine Wf ?_;refine Wu ?_ ?_
 ·intro hc;subst hc;refine Za ?_;refine Zj ?_;exact hK
 ·intro hc;subst hc;refine Zd ?_
  refine Za ?_;refine Zj ?_;exact hK
theorem Fb {p:Prop} [Decidable p]:trI (decide p=true)=trI p:=by simp[trI]
def arP (op a b:Int):Int×Bool:=match arR op a b with
 |some v=>(v,true)
 |none=>(0,false)
theorem D8 {a b:Int}(h:0≤a):a.tmod b=a % b:=Int.tmod_eq_emod_of_nonneg h
theorem HZ {a b:Int}(h:0≤a):a.tdiv b=a / b:=Int.tdiv_eq_ediv_of_nonneg h
set_option maxHeartbeats 2000000 in
theorem XH {op a b:Int}(ha:byI a)(hb:byI b)(h3:3≤op)(h9:op≤9)(hK:K (.tup [.c (.int .i64 (arP op a b).1),.c (.bool (arP op a b).2)]) H) :
  Qs prog HL [.c (.int .i64 op),.c (.int .i64 a),.c (.int .i64 b)] H K:=by
 obtain⟨a0,a1⟩:=ha;obtain⟨b0,b1⟩:=hb;refine Qc Ab LE ?_;have retf:∀(v:Int) (t:Bool) (e:Env),arP op a b=(v,t)→lk 6 e=.c (.int .i64 v)→lk 7 e=.c (.bool t)→Q6 Hv K .ret e H:=by
  intro v t e h1 h2 h3;simp only[go_sem,Q6,Aa,RS.op,h2,h3];rw[h1]at hK;exact hK
 refine Wb ?_;refine Wa ?_;refine Wi ?_;refine Wv ?_ ?_
 ·intro hc;have ho:op=3:=of_decide_eq_true hc;subst ho;refine Za ?_;refine⟨Qr,Zx,?_⟩;refine Zk ?_;refine retf _ _ _ ?_ rfl rfl;rw[D8 Zx];rfl
 intro hc;have n3:=of_decide_eq_false hc;refine Za ?_;refine Wv ?_ ?_
 ·intro hc;have ho:op=4:=of_decide_eq_true hc;subst ho;refine Za ?_;refine⟨Qr,Qr,Zx,?_⟩;refine Zk ?_;refine retf _ _ _ ?_ rfl rfl;rw[D8 Zx];rfl
 intro hc;have n4:=of_decide_eq_false hc;refine Za ?_;refine Wv ?_ ?_
 ·intro hc;have ho:op=5:=of_decide_eq_true hc;subst ho;have dw:0≤a * b:=Int.mul_nonneg a0 b0;have hab2:a * b≤255 * 255:=Int.mul_le_mul a1 b1 b0 Zx;refine Za ?_;refine⟨Qr,Zx,?_⟩;refine Zk ?_;refine retf _ _ _ ?_ rfl rfl;rw[D8 dw];rfl
 intro hc;have n5:=of_decide_eq_false hc;refine Wa ?_;have sV:∀(t:Bool),(t=decide (op=6∨op=7))→Ac prog Q31 (X.inBlock 0 (X.sq prog Q32 (Q6 Hv K))) [(0,.c (.int .i64 op)),(1,.c (.int .i64 a)),(2,.c (.int .i64 b)),(8,.c (.fn Sn [])),(9,.c (.int .i64 op)),(29,.c (.bool t))] H:=by
  intro t ht;refine Wv ?_ ?_
  ·intro h;have sV:op=6∨op=7:=by rw[ht]at h;exact of_decide_eq_true h
   refine Wa ?_;refine Wu ?_ ?_
   ·intro hc;have hb:b=0:=of_decide_eq_true hc;subst hb;refine We ?_;refine retf _ _ _ ?_ rfl rfl;rcases sV with rfl|rfl <;> rfl
   intro hc;have hb:¬b=0:=of_decide_eq_false hc;refine Zd ?_
   refine Wa ?_;refine Wu ?_ ?_
   ·intro hc;have ho:op=6:=of_decide_eq_true hc;subst ho;have d9:0≤a / b:=Int.ediv_nonneg a0 b0;have dF:a / b≤a:=Int.ediv_le_self _ a0;refine Za ?_;refine⟨⟨hb,by rw[HZ a0];exact Qr⟩,?_⟩;refine Zk ?_;refine retf _ _ _ ?_ rfl rfl;rw[HZ a0,arP,arR];simp[hb]
   ·intro hc;have ho:op=7:=(by have:=of_decide_eq_false hc;omega);subst ho;refine Zd ?_
    refine Za ?_;refine⟨hb,?_⟩;refine Zk ?_;refine retf _ _ _ ?_ rfl rfl;rw[D8 a0,arP,arR];simp[hb]
  ·intro h;have sV:¬(op=6∨op=7):=by rw[ht]at h;exact of_decide_eq_false h
   refine Za ?_;refine Wv ?_ ?_
   ·intro hc;have ho:op=8:=of_decide_eq_true hc;subst ho;refine Za ?_;refine Fa ?_;rw[Fb];simp only[go_sem,Q33];refine Zk ?_;exact retf _ _ _ rfl rfl rfl
   intro hc;have n8:=of_decide_eq_false hc;have ho:op=9:=Zx
   subst ho;refine Za ?_;refine Qe rfl ?_ (fun h=>ZF);intro _;refine Za ?_;refine Fa ?_;rw[Fb];simp only[go_sem,Q34];refine Zk ?_;exact retf _ _ _ rfl rfl rfl
 refine Wu ?_ ?_
 ·intro hc;have ho:op=6:=of_decide_eq_true hc;refine Ze ?_;exact sV _ (by rw[hc];simp[ho])
 ·intro hc;have n6:=of_decide_eq_false hc;refine Zh ?_;exact sV _ (by simp[n6])
theorem Qbic {a:Int}(hK:K (.tup [.c (.int .i64 (trI (a=0))),.c (.bool true)]) H) :
  Qs prog HL [.c (.int .i64 11),.c (.int .i64 a),.c (.int .i64 0)] H K:=by
 refine Qc Ab LE ?_;refine Wb ?_;refine Wa ?_;refine Wi ?_;refine Qe rfl (fun h=>ZF) fun _=>?_;refine Za ?_;refine Qe rfl (fun h=>ZF) fun _=>?_;refine Za ?_;refine Qe rfl (fun h=>ZF) fun _=>?_;refine Wa ?_;refine Qh (Qe rfl (fun h=>ZF) fun _=>?_);refine Zh ?_;refine Qe rfl (fun h=>ZF) fun _=>?_;refine Za ?_;refine Qe rfl (fun h=>ZF) fun _=>?_;refine Za ?_;refine Qe rfl (fun h=>ZF) fun _=>?_;refine Za ?_;refine Qe rfl (fun h=>ZF) fun _=>?_;refine Ze ?_;refine Za ?_;refine Fa ?_;rw[Fb];simp only[go_sem,Qzs];refine Ql ?_;simp only[go_sem,Q6,Aa,RS.op];exact hK
end Go.AE.Y
namespace Go.AE.Y
attribute [local go_sem] cond_true cond_false Bool.not_true Bool.not_false
open Go.Proofs.Tryz
variable {H H' H0:Heap}{K:V→Heap→Prop}{E A A' B Li:List (Nat×Obj)}{X:Rn}{r r':Rs}
section
variable {cs:List CodeD}{k b:Nat}{x:InsD}{t:List InsD}{R s c:List Int}{fs:List Fr}
theorem Qb2n (h:x.op=1):stI cs k b x t R fs s c=.go (⟨k,b,t,R.set x.to.toNat x.n⟩::fs) s c:=Zam
theorem Qb33 (h:x.op=11):stI cs k b x t R fs s c=if 16≤ar R x 0 then .dn 2 0 s c else .go (⟨k,b,t,R.set x.to.toNat (rg c (ar R x 0))⟩::fs) s c:=Zam
theorem Qb2o (h:x.op=12):stI cs k b x t R fs s c=if 16≤ar R x 0 then .dn 2 0 s c else .go (⟨k,b,t,R⟩::fs) s (c.set (ar R x 0).toNat (ar R x 1)):=Zam
theorem Qb2p (h:x.op=13):stI cs k b x t R fs s c=.go (⟨k,b,t,R⟩::fs) (s++[ar R x 0]) c:=Zam
theorem Qb0j (h:x.op=14):stI cs k b x t R fs s c=.go (fr0 cs x.n.toNat (x.args.map (rg R))::⟨k,b,x::t,R⟩::fs) s c:=Zam
theorem Qb0k (h:x.op=2):stI cs k b x t R fs s c=.go (⟨k,b,t,R.set x.to.toNat (ar R x 0)⟩::fs) s c:=Zam
theorem Qb2m (h:x.op=10):stI cs k b x t R fs s c=.go (⟨k,b,t,R.set x.to.toNat (trI (ar R x 0=0))⟩::fs) s c:=by rw[stI];simp[h,arR]
theorem Qb32 (h3:3≤x.op)(h9:x.op≤9):stI cs k b x t R fs s c=if (arP x.op (ar R x 0) (ar R x 1)).2=true then .go (⟨k,b,t,R.set x.to.toNat (arP x.op (ar R x 0) (ar R x 1)).1⟩::fs) s c else .dn 1 0 s c:=by
 rw[stI,arP];simp only[show ¬x.op=1 by omega,show ¬x.op=11 by omega,show ¬x.op=12 by omega,show ¬x.op=13 by omega,show ¬x.op=14 by omega,show ¬x.op=2 by omega,if_false];cases arR x.op (ar R x 0) (ar R x 1) <;> simp
end
theorem Qb1a {op a b:Int}(ha:byI a)(hb:byI b):byI (arP op a b).1:=by
 rw[arP]
 cases h:arR op a b with
 |none=>exact⟨Zz,Zz⟩
 |some v=>exact Qb1b ha hb h
structure InsW (cs:List CodeD)(k:Nat)(x:InsD):Prop where
 op:1≤x.op∧x.op≤14
 n1:x.op=1→byI x.n
 args:∀v∈x.args,0≤v∧v.toNat<(Ai cs k).ab.toNat
 to:Bh x.op=true→0≤x.to∧x.to.toNat<(Ai cs k).ab.toNat
 len:¬x.op=14→(x.args.length:Int)=AL x.op
 cal:x.op=14→0≤x.n∧x.n.toNat<k∧(x.args.length:Int)=(Ai cs x.n.toNat).params
 al:x.args.length≤3
def Rdb (Li:List (Nat×Obj))(rows:List (List C))(c:C):Prop:=(Li=[]∧∃fl,c=.sl fl 1 rows)∨Gr Li 1 rows c
theorem Rdb.slc {rows:List (List C)}{c:C}(h:Rdb Li rows c)(kn:Kn H0 H E (B++Li)):Slc H 1 rows c:=by
 rcases h with ⟨_,fl,rfl⟩|h
 ·exact .mk' _ _ _ _
 ·exact h.slc kn
theorem Rdb.ah {rows:List (List C)}{c:C}(h:Rdb Li rows c):c.ah=false:=by
 rcases h with ⟨_,fl,rfl⟩|h
 ·rfl
 ·exact h.ah
def D3 (X:Rn)(m:Nat):Prop:=∀(H0 H:Heap) (E B Li:List (Nat×Obj)) (r:Rs) (k:Nat) (l:List Int) (inc:C) (main:Bool) (fs:List Fr) (K:V→Heap→Prop),
 m≤r.u→Kn H0 H E (X.F r Li B)→r.ok X→k<X.cs.length→Rdb Li (Qb l) inc→(l.length:Int)=(Ai X.cs k).params→byL l→r.t.length≤r.u→
 (∀v r' H',Kn H0 H' E (X.F r' Li B)→r'.ok X→byI v→r'.t.length≤r'.u→(main=false→r'.t=r.t)→Goes X.cs X.S r.u (.go (fr0 X.cs k l::fs) r.s r.c) r'.u (rtn v fs r'.s r'.c)→K (.c (.int .i64 v)) H')→
 (∀e r' H',Kn H0 H' E (X.F r' Li B)→r'.ok X→(main=false→r'.t=r.t)→Halts X.cs X.S r.u (.go (fr0 X.cs k l::fs) r.s r.c) e r'.s r'.c→K (.pn (endV e)) H')→
 Qs prog S4 [.c (.ptr X.l 0),.c (.int .i64 k),.c inc,.c (.bool main)] H K
theorem P6 (R:List Int):(Qb R).take R.length=Qb R:=Jc (by rw[Qf];exact Jj _)
theorem Bq {op to n:Int}{args R:List Int}{rl:Nat}(i:Nat)(hR:H rl=.vec 1 (Qb R))(hi:i<args.length)(hv:0≤args.getD i 0∧(args.getD i 0).toNat<R.length)(hK:K (.c (.int .i64 (rg R (args.getD i 0)))) H) :
  Qs prog S6 [.c (.int .i64 (i:Int)),.c (.pp [.af rl 1 0 R.length]),.c (.pp [.int .i64 op,.int .i64 to,.sl false 1 (Qb args),.int .i64 n])] H K:=by
 refine Qc Ab Qs9 ?_;refine Za ?_;refine Aj ?_;obtain⟨v,j8⟩:∃v:Nat,args.getD i 0=v:=⟨(args.getD i 0).toNat,Zx⟩;rw[j8]at hv hK;have ge:v<R.length:=by simpa using hv.2
 simp only[go_sem,hR,hi,j8,ge,Qf,Qn _ _ hi,Qn _ _ ge,P6,Jf];refine Zj ?_;exact hK
theorem F_g (k:Kn H0 H E (X.F r A (Li++B))):Kn H0 H E (([(X.l,X.o r)]++(A++((r.so++r.tl)++B)))++Li):=k.perm (Qj fun f hf h0 hc hp=>by simp only[Rn.F,hf];omega)
theorem F_g' (k:Kn H0 H E (([(X.l,X.o r)]++(A++((r.so++r.tl)++B)))++Li)):Kn H0 H E (X.F r A (Li++B)):=k.perm (Qj fun f hf h0 hc hp=>by simp only[Rn.F,hf];omega)
theorem F_sw (k:Kn H0 H E (X.F r A (A'++B))):Kn H0 H E (X.F r A' (A++B)):=k.perm (Qj fun f hf h0 hc hp=>by simp only[Rn.F,hf];omega)
theorem Qb1f {b c d:C}{m:List C}{j:Nat}:(b::c::d::m).drop (4+j)=m.drop (j+1):=by rw[show 4+j=(j+1)+3 by omega];rfl
set_option maxHeartbeats 8000000 in
theorem X1 {op to n:Int}{args R:List Int}{rl k b:Nat}{t:List InsD}{fs:List Fr}(hx:InsW X.cs k ⟨op,to,args,n⟩)(cm:k<X.cs.length)(iK:R.length=(Ai X.cs k).ab.toNat)(hb:byL R)
  (kn:Kn H0 H E (X.F r [(rl,.vec 1 (Qb R))] B)) (hr:r.ok X) (vf:D3 X (r.u+1))
  (hK:∀R' r' H',Kn H0 H' E (X.F r' [(rl,.vec 1 (Qb R'))] B)→r'.ok X→R'.length=R.length→byL R'→r'.t=r.t→r.u<r'.u→
   Goes X.cs X.S r.u (.go (⟨k,b,⟨op,to,args,n⟩::t,R⟩::fs) r.s r.c) r'.u (.go (⟨k,b,t,R'⟩::fs) r'.s r'.c)→K (.tup []) H')
  (hP:∀e r' H',Kn H0 H' E (X.F r' [] B)→r'.ok X→r'.t=r.t→Halts X.cs X.S r.u (.go (⟨k,b,⟨op,to,args,n⟩::t,R⟩::fs) r.s r.c) e r'.s r'.c→K (.pn (endV e)) H') :
  Qs prog Vu [.c (.ptr X.l 0),.ag [.int .i64 op,.int .i64 to,.sl false 1 (Qb args),.int .i64 n],.c (.af rl 1 0 R.length)] H K:=by
 obtain⟨⟨o1,o14⟩,dk,jf,iO,am,sw,dM⟩:=hx;simp only at o1 o14 dk jf iO am sw dM;rw[←iK]at jf iO;have m9:∀i,i<args.length→0≤args.getD i 0∧(args.getD i 0).toNat<R.length:=fun i hi=>by
  rw[Ja,Je hi];exact jf _ (Jd hi)
 refine Qc Ab Q3e ?_;have eB:∀e H',K (.tup []) H'→Q6 S0 K .nrm e H':=by
  intro e H' h;simp only[go_sem,Q6,Aa,S0];exact h
 refine Wb ?_;refine HY kn hr (fun H1 hu kn cG=>?_) (fun hu=>?_)
 rotate_left
 ·simp only[go_sem];refine hP 3 r H (CZ (A:=[]) kn) hr rfl ?_;rw[hu];exact .fuel
 obtain⟨r1,e1⟩:∃r1,({ r with u:=r.u+1 }:Rs)=r1:=⟨_,rfl⟩;have eu:r1.u=r.u+1:=by rw[←e1]
 have es:r1.s=r.s:=by rw[←e1]
 have ec:r1.c=r.c:=by rw[←e1]
 have et:r1.t=r.t:=by rw[←e1]
 rw[e1]at kn cG;clear e1;have fG:=kn.l 1 rfl;have hX:=F_o kn;have gO:=cG.mt;have one:∀Y,stI X.cs k b ⟨op,to,args,n⟩ t R fs r.s r.c=Y→Goes X.cs X.S r.u (.go (⟨k,b,⟨op,to,args,n⟩::t,R⟩::fs) r.s r.c) r1.u Y:=fun Y h=>by
  rw[eu];exact .one hu h
 have bad:∀e,¬e=3→stI X.cs k b ⟨op,to,args,n⟩ t R fs r.s r.c=.dn e 0 r.s r.c→Halts X.cs X.S r.u (.go (⟨k,b,⟨op,to,args,n⟩::t,R⟩::fs) r.s r.c) e r1.s r1.c:=fun e he h=>by
  rw[es,ec];exact .one hu he h
 have knP:=CZ (A:=[]) kn;have fF:(Qb R).length=R.length:=Qf R;have setR:∀(j:Nat) (v:Int) (H2:Heap),to=(j:Int)→byI v→H2=H1.set rl (.vec 1 (Qb (R.set j v)))→stI X.cs k b ⟨op,to,args,n⟩ t R fs r.s r.c=.go (⟨k,b,t,R.set to.toNat v⟩::fs) r.s r.c→∀e,Q6 S0 K .nrm e H2:=by
  intro j v H2 hj hv h2 aL e;refine eB _ _ (hK (R.set j v) r1 H2 (kn.aB 1 rfl h2) cG Zz (hb.set hv j) et Zx ?_);rw[es,ec];refine one _ ?_;rw[aL,hj];rfl
 refine Wb ?_;refine Ws ?_;refine Qe rfl (fun hc=>?_) (fun hc=>?_)
 ·
  have ho:op=1:=of_decide_eq_true hc;obtain⟨t0,t1⟩:=iO Zal;obtain⟨j,hj⟩:∃j:Nat,to=j:=⟨to.toNat,Zx⟩;have cj:j<R.length:=Zx
  refine Qp ?_;simp only[go_sem,fG,hj,cj,fF,Qn _ _ cj,Es,Jf];intro H2 h2;exact setR j n H2 hj (dk ho) h2 (Qb2n ho) _
 have n1:=of_decide_eq_false hc;refine Za ?_;refine Qe rfl (fun hc=>?_) (fun hc=>?_)
 ·
  have ho:op=11:=of_decide_eq_true hc;have hl:args.length=1:=by have:=am Zx;rw[ho]at this;simp[AL]at this;omega
  obtain⟨t0,t1⟩:=iO Zal;obtain⟨j,hj⟩:∃j:Nat,to=j:=⟨to.toNat,Zx⟩;have cj:j<R.length:=Zx
  refine Au ?_;simp only[go_sem,hj,Jf];refine Bq 0 fG Zx (m9 0 Zx) ?_;have mN:=hb.rg (args.getD 0 0);have aL:=Qb33 (cs:=X.cs) (k:=k) (b:=b) (x:=⟨op,to,args,n⟩) (t:=t) (R:=R) (fs:=fs) (s:=r.s) (c:=r.c) ho;have pO:ar R ⟨op,to,args,n⟩ 0=rg R (args.getD 0 0):=rfl;rw[pO]at aL;obtain⟨v,hv⟩:∃v,rg R (args.getD 0 0)=v:=⟨_,rfl⟩;rw[hv]at aL mN;rw[hv];simp only[go_sem,Qgn];refine Il mN.1 (fun ip=>?_) (fun ip=>?_)
  ·have hg:=cG.get (j:=v.toNat) Zx;have hd:=eq_true (show 1≤(r1.mt.drop v.toNat).length by rw[cG.dl];omega);simp only[go_sem,Qgm,hX,Qb22,hg,hd,fG,cj,fF,Qn _ _ cj,Es,Jf];intro H2 h2;rw[ec]at h2;exact setR j _ H2 hj (hr.bc.get _) h2 (by rw[aL,if_neg (by omega)];rfl) _
  ·simp only[go_sem];exact hP 2 r1 H1 knP cG et (bad 2 Zx (by rw[aL,if_pos ip]))
 have n11:=of_decide_eq_false hc;refine Za ?_;refine Qe rfl (fun hc=>?_) (fun hc=>?_)
 ·
  have ho:op=12:=of_decide_eq_true hc;have hl:args.length=2:=by have:=am Zx;rw[ho]at this;simp[AL]at this;omega
  refine Zh ?_;refine Bq 0 fG Zx (m9 0 Zx) ?_;have mN:=hb.rg (args.getD 0 0);have aL:=Qb2o (cs:=X.cs) (k:=k) (b:=b) (x:=⟨op,to,args,n⟩) (t:=t) (R:=R) (fs:=fs) (s:=r.s) (c:=r.c) ho;have pO:∀i,ar R ⟨op,to,args,n⟩ i=rg R (args.getD i 0):=fun _=>rfl;simp only[pO]at aL;obtain⟨v,hv⟩:∃v,rg R (args.getD 0 0)=v:=⟨_,rfl⟩;rw[hv]at aL mN;rw[hv];simp only[go_sem,Qgq];refine Il mN.1 (fun ip=>?_) (fun ip=>?_)
  ·simp only[go_sem,Qgp];refine Bq 1 fG Zx (m9 1 Zx) ?_;have mI:=hb.rg (args.getD 1 0);obtain⟨q,hq⟩:∃q,rg R (args.getD 1 0)=q:=⟨_,rfl⟩;rw[hq]at aL mI;rw[hq];have hp:=cG.put (j:=v.toNat) Zx q;simp only[go_sem,Qgo,hX,gO,cn,Qb1f,hp];refine⟨Zx,fun H2 h2=>?_⟩;refine eB _ _ (hK R { r1 with c:=r1.c.set v.toNat q } H2 (kn.aB 0 rfl h2) (cG.cells mI) rfl hb et (by show r.u<r1.u;omega) ?_);show Goes X.cs X.S r.u _ r1.u (.go (⟨k,b,t,R⟩::fs) r1.s (r1.c.set v.toNat q));rw[es,ec];exact one _ (by rw[aL,if_neg (by omega)])
  ·simp only[go_sem];exact hP 2 r1 H1 knP cG et (bad 2 Zx (by rw[aL,if_pos ip]))
 have n12:=of_decide_eq_false hc;refine Za ?_;refine Qe rfl (fun hc=>?_) (fun hc=>?_)
 ·
  have ho:op=13:=of_decide_eq_true hc;have hl:args.length=1:=by have:=am Zx;rw[ho]at this;simp[AL]at this;omega
  have b8:=cG.gs.ah;refine Au ?_;simp only[go_sem,hX,gO,b8];refine Bq 0 fG Zx (m9 0 Zx) ?_;have mN:=hb.rg (args.getD 0 0);have aL:=Qb2p (cs:=X.cs) (k:=k) (b:=b) (x:=⟨op,to,args,n⟩) (t:=t) (R:=R) (fs:=fs) (s:=r.s) (c:=r.c) ho;have pO:ar R ⟨op,to,args,n⟩ 0=rg R (args.getD 0 0):=rfl;rw[pO]at aL;obtain⟨v,hv⟩:∃v,rg R (args.getD 0 0)=v:=⟨_,rfl⟩;rw[hv]at aL mN;rw[hv];have hls:=cG.ls;have tf:=cG.uS;have hS:=cG.S;simp only[go_sem,Qgs,hX,gO,b8];refine (F_s kn).bg (new:=Qb [v]) cG.gs (.mk' _ _ _ _) (Qq _) Zat fun t2 Lg2 H2 dD ca kn2=>?_;have xw:H2 X.l=.st (.sl X.fl 3 (Qk X.cs)::.int .i64 X.S::.int .i64 r1.u::r1.sc::r1.mt):=kn2.l 0 rfl;simp only[go_sem,Qgr,xw,gO];intro H3 h3;have eE:Rs.ok X { r1 with s:=r1.s++[v],sc:=t2,so:=Lg2 }:=by
   refine⟨?_,cG.gt,cG.c,cG.bc,cG.bs.app mN,?_,cG.lt,tf,hS⟩
   ·show Gr Lg2 1 (Qb (r1.s++[v])) t2;rw[Cb];exact dD
   ·show (r1.s++[v]).length≤r1.u;have h1:=hr.ls;rw[es,J2];simp;omega
  refine eB _ _ (hK R { r1 with s:=r1.s++[v],sc:=t2,so:=Lg2 } H3 (F_s' (r:=r1) rfl rfl (kn2.aB 0 rfl h3)) eE rfl hb et (by show r.u<r1.u;omega) ?_);show Goes X.cs X.S r.u _ r1.u (.go (⟨k,b,t,R⟩::fs) (r1.s++[v]) r1.c);rw[es,ec];exact one _ aL
 have n13:=of_decide_eq_false hc;refine Za ?_;refine Qe rfl (fun hc=>?_) (fun hc=>?_)
 ·
  have ho:op=14:=of_decide_eq_true hc;obtain⟨c0,c1,c2⟩:=sw ho;obtain⟨t0,t1⟩:=iO Zal;obtain⟨j,hj⟩:∃j:Nat,to=j:=⟨to.toNat,Zx⟩;have cj:j<R.length:=Zx
  have aL:=Qb0j (cs:=X.cs) (k:=k) (b:=b) (x:=⟨op,to,args,n⟩) (t:=t) (R:=R) (fs:=fs) (s:=r.s) (c:=r.c) ho;simp only at aL;refine Wj ?_;simp only[go_sem,Qf];try intro _
  refine Qh (Qd (Qw (fun m e1 H2=>∃(i:Nat) (c7:C) (Li:List (Nat×Obj)),m=args.length-i∧i≤args.length∧Gr Li 1 (Qb ((args.take i).map (rg R))) c7∧Kn H0 H2 E (X.F r1 [(rl,.vec 1 (Qb R))] (Li++B))∧
   lk 0 e1=.c (.ptr X.l 0)∧lk 4 e1=.c (.pp [.int .i64 op,.int .i64 to,.sl false 1 (Qb args),.int .i64 n])∧lk 5 e1=.c (.pp [.af rl 1 0 R.length])∧
   lk 6 e1=.c (.fn S6 [.pp [.af rl 1 0 R.length],.pp [.int .i64 op,.int .i64 to,.sl false 1 (Qb args),.int .i64 n]])∧lk 7 e1=.c c7∧lk 80 e1=.c (.int .i64 args.length)∧lk 81 e1=.c (.int .i64 i)) args.length ?_ ?_))
  ·exact⟨0,_,[],Zx,Zx,.nil 1,kn,rfl,rfl,rfl,rfl,rfl,rfl,rfl⟩
  ·clear kn fG hX;rintro m e1 H2 ⟨i,c7,Li,hm,hi,ao,kn,l0,l4,l5,l6,l7,l80,l81⟩;have fG:=kn.l 1 rfl;have b8:=ao.ah;refine Qa ?_;simp only[go_sem,l0,l4,l5,l6,l7,l80,l81];refine Wu ?_ ?_
   ·intro hc;have ae:i<args.length:=ZA;refine Zd ?_
    refine Wi ?_;refine Zh ?_;refine Bq i fG ae (m9 i ae) ?_;have e9:args.getD i 0=args[i]:=(by simp[Ja,ae]);simp only[go_sem,Qgu];refine (F_g kn).bg (new:=Qb [rg R (args.getD i 0)]) ao (.mk' _ _ _ _) (Qq _) (by simp only[Qf,LIM,Jn,Jl,Jg,J0];omega) fun t2 Lg2 H3 dD ca kn2=>?_;simp only[go_sem,Qgt];refine Zh ?_;refine⟨Qr,?_⟩;show ∃m,_;refine⟨args.length-(i+1),Zx,i+1,t2,Lg2,rfl,Zx,?_,F_g' kn2,rfl,rfl,rfl,rfl,rfl,rfl,rfl⟩;have:Qb ((args.take (i+1)).map (rg R))=Qb ((args.take i).map (rg R))++Qb [rg R (args.getD i 0)]:=by
     rw[Ji ae,Jp,Cb,e9];rfl
    rw[this];exact dD
   ·intro hc;have bd:args.length≤i:=ZA;rw[Jc bd]at ao;have hX:=F_o kn;refine Zw ?_;refine Au ?_;simp only[go_sem];obtain⟨nn,yz⟩:∃nn:Nat,n=nn:=⟨n.toNat,Zx⟩;have vE:n.toNat=nn:=(by rw[yz];rfl);rw[vE]at c1 c2 aL;rw[yz];have wa:=hr.lt;refine vf H0 H2 E ([(rl,.vec 1 (Qb R))]++B) Li r1 nn (args.map (rg R)) c7 false (⟨k,b,⟨op,to,args,n⟩::t,R⟩::fs) _ Zx (F_sw kn) cG Zx (.inr ao) (by rw[Jg];exact c2) (fun v hv=>by
     obtain⟨a,_,rfl⟩:=Js.1 hv;exact hb.rg a) (by rw[et,eu];exact wa) (fun v r2 H3 kn3 eE hv _ ca df=>?_) (fun e r2 H3 kn3 eE ca nz=>?_)
    ·have kn3:=F_sw kn3;have hR3:=kn3.l 1 rfl;simp only[go_sem,Qfc,hR3,hj,cj,fF,Qn _ _ cj,Es,Jf];intro H4 h4;have kn4:Kn H0 H4 E (X.F r2 [(rl,.vec 1 (Qb (R.set j v)))] (Li++B)):=kn3.aB 1 rfl h4;have gy:=df.1;refine eB _ _ (hK (R.set j v) r2 H4 (Gw kn4) eE Zz (hb.set hv j) (by rw[ca rfl,et]) Zx ?_);refine (one _ aL).trans ?_;rw[←es,←ec];have ej:j=to.toNat:=Zx;rw[ej];exact df
    ·simp only[go_sem];refine hP e r2 H3 (Gw (CZ (A:=[]) (F_sw kn3))) eE (by rw[ca rfl,et]) ?_;refine (one _ aL).halts ?_;rw[←es,←ec];exact nz
 have n14:=of_decide_eq_false hc;refine Za ?_;refine Qe rfl (fun hc=>?_) (fun hc=>?_)
 ·
  have ho:op=2:=of_decide_eq_true hc;have hl:args.length=1:=by have:=am Zx;rw[ho]at this;simp[AL]at this;omega
  obtain⟨t0,t1⟩:=iO Zal;obtain⟨j,hj⟩:∃j:Nat,to=j:=⟨to.toNat,Zx⟩;have cj:j<R.length:=Zx
  refine Au ?_;simp only[go_sem,hj,Jf];refine Bq 0 fG Zx (m9 0 Zx) ?_;simp only[go_sem,Qfd,fG,cj,fF,Qn _ _ cj,Es,Jf];intro H2 h2;exact setR j _ H2 hj (hb.rg _) h2 (Qb0k ho) _
 have n2:=of_decide_eq_false hc;refine Za ?_;refine Qe rfl (fun hc=>?_) (fun hc=>?_)
 ·
  have ho:op=10:=of_decide_eq_true hc;have hl:args.length=1:=by have:=am Zx;rw[ho]at this;simp[AL]at this;omega
  obtain⟨t0,t1⟩:=iO Zal;obtain⟨j,hj⟩:∃j:Nat,to=j:=⟨to.toNat,Zx⟩;have cj:j<R.length:=Zx
  refine Au ?_;simp only[go_sem,hj,Jf];refine Bq 0 fG Zx (m9 0 Zx) ?_;simp only[go_sem,Qff,Jf];refine Qbic ?_;simp only[go_sem,Qfe,fG,cj,fF,Qn _ _ cj,Es,Jf,Ju];intro H2 h2;exact setR j _ H2 hj (EV _) h2 (Qb2m ho) _
 have n10:=of_decide_eq_false hc;have h3:3≤op:=Zx
 have h9:op≤9:=Zx
 have hl:args.length=2:=by
  have:=am Zx;rw[AL,if_neg Zx,if_neg Zx,if_pos (.inl ⟨h3,h9⟩)]at this;omega
 obtain⟨t0,t1⟩:=iO (by
  simp only[Bh,Jm,decide_eq_true_eq,Bool.not_eq_true',decide_eq_false_iff_not];omega)
 obtain⟨j,hj⟩:∃j:Nat,to=j:=⟨to.toNat,Zx⟩;have cj:j<R.length:=Zx
 have aL:=Qb32 (cs:=X.cs) (k:=k) (b:=b) (x:=⟨op,to,args,n⟩) (t:=t) (R:=R) (fs:=fs) (s:=r.s) (c:=r.c) h3 h9;have pO:∀i,ar R ⟨op,to,args,n⟩ i=rg R (args.getD i 0):=fun _=>rfl;simp only[pO]at aL;have tu:=Qb1a (op:=op) (hb.rg (args.getD 0 0)) (hb.rg (args.getD 1 0));refine Zv ?_;refine Bq 0 fG Zx (m9 0 Zx) ?_;simp only[go_sem,Qfi];refine Bq 1 fG Zx (m9 1 Zx) ?_;simp only[go_sem,Qfh];refine XH (hb.rg _) (hb.rg _) h3 h9 ?_;obtain⟨pv,ts⟩:∃pv,arP op (rg R (args.getD 0 0)) (rg R (args.getD 1 0))=pv:=⟨_,rfl⟩;rw[ts]at aL tu;rw[ts];obtain⟨v,ok⟩:=pv;simp only at aL tu;simp only[go_sem,Qfg,Ju,Jx];refine Wa ?_;refine Qh (Qe rfl (fun hc=>?_) (fun hc=>?_))
 ·have au:ok=false:=B4 hc;refine Zh ?_;refine EF ?_;simp only[go_sem];exact hP 1 r1 H1 knP cG et (bad 1 Zx (by rw[aL,if_neg (by rw[au];simp)]))
 ·have au:ok=true:=AD hc;refine Zd ?_
  refine Qp ?_;simp only[go_sem,fG,hj,cj,fF,Qn _ _ cj,Es,Jf];intro H2 h2;exact setR j _ H2 hj tu h2 (by rw[aL,if_pos au]) _
theorem YQ {p:PhiD}{R:List Int}{rl xr xa w:Nat}(h1:H xr=.st [.af rl 1 0 R.length])(hR:H rl=.vec 1 (Qb R))(h2:H xa=.st [.int .i64 w])(hw:w<p.args.length)
  (hv:0≤p.args.getD w 0∧(p.args.getD w 0).toNat<R.length) (hK:K (.c (.int .i64 (phiV R w p))) H) :
  Qs prog I8 [.ag [.int .i64 p.to,.sl false 1 (Qb p.args)],.c (.ptr xr 0),.c (.ptr xa 0)] H K:=by
 refine Qc Ab Qx3 ?_;refine Za ?_;refine Aj ?_;rw[phiV]at hK;obtain⟨v,j8⟩:∃v:Nat,p.args.getD w 0=v:=⟨(p.args.getD w 0).toNat,Zx⟩;rw[j8]at hv hK;have ge:v<R.length:=by simpa using hv.2
 simp only[go_sem,h1,h2,hR,hw,j8,ge,Qf,Qn _ _ hw,Qn _ _ ge,P6,Jf];refine Zj ?_;exact hK
set_option maxHeartbeats 4000000 in
theorem VY {ps:List PhiD}{R:List Int}{rl xr xa w:Nat}{f:Bool}(h1:H xr=.st [.af rl 1 0 R.length])(hR:H rl=.vec 1 (Qb R))(h2:H xa=.st [.int .i64 w])(hl:ps.length≤1200)(hw:∀p∈ps,w<p.args.length)
  (hv:∀p∈ps,0≤p.args.getD w 0∧(p.args.getD w 0).toNat<R.length) (hK:∀(H':Heap),Upd H H' []→K (.c (.sl false 1 (Qb (ps.map (phiV R w))))) H') :
  Qs prog Vv [.c (.sl f 2 (Ae ps)),.c (.fn I8 [.ptr xr 0,.ptr xa 0])] H K:=by
 refine Qx ?_;refine Qc Ab Q08 ?_;have kn:=Kn.aq H;have n1:H xr≠.none:=by rw[h1];simp
 have n2:H rl≠.none:=by rw[hR];simp
 have n3:H xa≠.none:=ZZ
 refine Wq ?_;simp only[go_sem,Q7];try intro _
 refine Qh (Qd (Qw (fun m e1 H1=>∃(i:Nat) (t:C) (Lg:List (Nat×Obj)),m=ps.length-i∧i≤ps.length∧Gr Lg 1 (Qb ((ps.take i).map (phiV R w))) t∧Kn H H1 [] ([]++Lg)∧
  lk 1 e1=.c (.fn I8 [.ptr xr 0,.ptr xa 0])∧lk 5 e1=.c t∧lk 8 e1=.c (.sl f 2 (Ae ps))∧lk 9 e1=.c (.int .i64 ps.length)∧lk 10 e1=.c (.int .i64 i)) ps.length ?_ ?_))
 ·exact⟨0,_,[],Zx,Zx,.nil 1,kn,rfl,rfl,rfl,rfl,rfl⟩
 ·clear kn;rintro m e1 H1 ⟨i,t,Lg,hm,hi,ao,kn,l1,l5,l8,l9,l10⟩;have bp:=ao.ah;refine Qa ?_;simp only[go_sem,l1,l5,l8,l9,l10];refine Wu ?_ ?_
  ·intro hc;have ae:i<ps.length:=ZA
   obtain⟨p,hp⟩:∃p,ps[i]=p:=⟨_,rfl⟩;have gk:p∈ps:=ZaQ
   refine Zd ?_
   refine Wk ?_;simp only[go_sem,ae,Q7,BL _ _ ae,hp,PhiD.cells];intro x7 bC H2 qC;have kn:=kn.al bC qC;have bC:H2 x7=.st [.int .i64 0,.sl true 1 []]:=(kn.get (x7,.st [.int .i64 0,.sl true 1 []]) Zz).1;simp only[go_sem,Qe9,bC];intro H3 h3;have kn:Kn H H2 [] ([(x7,.st [.int .i64 0,.sl true 1 []])]++Lg):=kn.perm Zz;have kn:Kn H H3 [] ([(x7,.st [.int .i64 p.to,.sl false 1 (Qb p.args)])]++Lg):=kn.aB 0 rfl h3;have bC:H3 x7=.st [.int .i64 p.to,.sl false 1 (Qb p.args)]:=kn.l 0 rfl;refine Zq bC ?_;refine YQ (p:=p) (R:=R) (rl:=rl) (w:=w) (by rw[kn.chg xr n1 (by simp)];exact h1) (by rw[kn.chg rl n2 (by simp)];exact hR) (by rw[kn.chg xa n3 (by simp)];exact h2) (hw p gk) (hv p gk) ?_;simp only[go_sem,Qfb];refine kn.bg (new:=Qb [phiV R w p]) ao (.mk' _ _ _ _) (Qq _) (by simp only[Qf,Jg,J0,LIM,Jn,Jl];omega) fun t2 Lg2 H4 bq ca kn=>?_;have kn:Kn H H4 [] Lg2:=Kn.drop (B:=[(x7,_)]) (kn.perm Jt);simp only[go_sem,Qfa];refine Zh ?_;refine⟨Qr,?_⟩;show ∃m,_;refine⟨ps.length-(i+1),Zx,i+1,t2,Lg2,rfl,Zx,?_,kn,rfl,rfl,rfl,rfl,rfl⟩;have:Qb ((ps.take (i+1)).map (phiV R w))=Qb ((ps.take i).map (phiV R w))++Qb [phiV R w p]:=by rw[Ji ae,Jp,Cb,hp];rfl
   rw[this];exact bq
  ·intro hc;have bd:ps.length≤i:=ZA
   rw[Jc bd]at ao;refine Zw ?_;refine Za ?_;refine Zj ?_;exact⟨_,.c _ _ (ao.frz kn (Qq _)),hK _ kn.fin⟩
end Go.AE.Y
namespace Go.AE.Y
attribute [local go_sem] cond_true cond_false Bool.not_true Bool.not_false
attribute [local instance] Classical.propDecidable
open Go.Proofs.Tryz
variable {H H' H0:Heap}{K:V→Heap→Prop}{E A A' B Li:List (Nat×Obj)}{X:Rn}{r r':Rs}
structure RunW (cs:List CodeD):Prop where
 ro:RunOk cs
 ins:∀k b,k<cs.length→b<(Ai cs k).blocks.length→∀x∈(Ad (Ai cs k) b).ins,InsW cs k x
 par:∀k,k<cs.length→0≤(Ai cs k).params∧(Ai cs k).params≤3∧(Ai cs k).params≤(Ai cs k).ab
 n:cs.length≤4
theorem runW {cs:List CodeD}(h:Ah cs=true):RunW cs:=by
 have ro:=Rm h;obtain⟨h1,h2,h3⟩:=of_decide_eq_true h;refine⟨ro,fun k b hk hb x hx=>?_,fun k hk=>?_,Zx⟩
 ·have au:=(ro.ok k hk).bs b hb;have bA:=ro.op k b hk x hx;rw[AA hb]at hx;have ec:=Cc hk;have g:AC cs k x=true:=by
   have aZ:b<cs[k].blocks.length:=by rw[←ec];exact hb
   have g:=(h2 k hk).2 b aZ;simp only[blkG,Jm,Jao]at g;refine g.1.2 x ?_;have:(Ai cs k).blocks[b]=cs[k].blocks[b]:=by simp only[ec]
   rw[←this];exact hx
  simp only[AC,insL,Jm]at g;obtain⟨_,g3⟩:=g;refine⟨⟨bA.1,bA.2.1⟩,fun h1=>?_,fun v hv=>?_,fun hm=>?_,bA.2.2,fun dG=>?_,au.al x hx⟩
  ·rw[if_neg Zx]at g3;simp only[Jm,decide_eq_true_eq]at g3;exact⟨g3.1.2.1,g3.1.2.2⟩
  ·have:=au.args x hx v hv;obtain⟨a,b⟩:=this;exact⟨a,Zx⟩
  ·obtain⟨a,b⟩:=au.to x hx hm;exact⟨a,Zx⟩
  ·rw[if_pos dG]at g3;simp only[Jm,decide_eq_true_eq]at g3;obtain⟨⟨a,b⟩,c⟩:=g3;have ae:x.n.toNat<cs.length:=Zx
   refine⟨a,Zx,?_⟩;rw[c,Hb ae,Cc ae]
 ·obtain⟨g1,_⟩:=h2 k hk;simp only[B6,Jm,decide_eq_true_eq]at g1;rw[Cc hk];omega
def B9 (cs:List CodeD)(k b:Nat):Option Nat→List Int→Fr
 |none,R=>⟨k,b,(Ad (Ai cs k) b).ins,R⟩
 |some a,R=>frJ cs k a R b
def CC:Option Nat→Int
 |none=>-1
 |some a=>a
def EX (q:CodeD)(b:Nat):Option Nat→Prop
 |none=>True
 |some a=>a<q.blocks.length∧(b:Int)∈gnx q a
theorem Ii:∀(ns:List Int) (i:Nat) (v:Int),i<ns.length→ns.getD i 0=v→v∉ns.take i→ns.idxOf v=i
 |[],i,v,h,_,_=>ZF
 |x::ns,0,v,_,h,_=>by
  have:x=v:=ZI
  simp[this]
 |x::ns,i+1,v,h1,h2,h3=>by
  have hx:¬x=v:=by
   intro hh;exact h3 (by simp[hh])
  have:=Ii ns i v Zah ZT (fun hh=>h3 (by simp[hh]));rw[List.idxOf_cons,cond_eq_ite,if_neg ZaN,this]
theorem Qb2w {q:CodeD}{b a:Nat}{ix:Int}(hq:q.ok)(ha:a<q.blocks.length)(hm:(b:Int)∈gnx q a)(h:IsIx (Am (gnx q) (b:Int) q.blocks.length) (a:Int) ix) :
  ix=(wayI q b a:Int)∧wayI q b a<(Am (gnx q) (b:Int) q.blocks.length).length:=by
 have h1:=hq.ix ha hm;refine⟨?_,h1⟩;rcases h with ⟨rfl,hn⟩|⟨i,rfl,h2,h3,h4⟩
 ·exact absurd (Jal.1 h1) hn
 ·rw[wayI,Ii _ i _ h2 h3 h4]
theorem Qbtq (n:Nat):List.replicate n [C.int .i64 0]=Qb (List.replicate n 0):=Zae
theorem XG (l:List Int)(n:Nat):Qb l++(Qb (List.replicate n 0)).drop l.length=Qb (l++List.replicate (n-l.length) 0):=by simp[Qb,List.drop_replicate]
theorem Rs.ok.d16 (h:r.ok X):r.mt.drop 16=[r.tc]:=by
 rw[Rs.mt,List.drop_append_of_le_length ZaW,J1 ZaW];rfl
theorem Rs.ok.t16 (h:r.ok X):r.mt.take 16=Ao r.c:=by
 rw[Rs.mt,List.take_append_of_le_length ZaW,Jc ZaW]
theorem Rs.ok.d17 (h:r.ok X):r.mt.drop 17=[]:=J1 (by rw[h.mt];exact Jj _)
def o9 (q:CodeD)(n:Nat):Obj:=.st [.int .i64 q.params,.int .i64 n,.sl false 5 (Qo q.blocks)]
def oB (y:BlkD):Obj:=.st [.sl false 2 (Ae y.aa),.sl false 4 (Af y.ins),.int .i64 y.jump,.int .i64 y.on,.sl false 1 (Qb y.next)]
def phF (R:List Int)(w:Nat)(l:List PhiD)(T:List Int):List Int:=l.foldl (fun T p=>T.set p.to.toNat (phiV R w p)) T
theorem YV (R:List Int)(w:Nat)(l:List PhiD)(p:PhiD)(T:List Int):phF R w (l++[p]) T=(phF R w l T).set p.to.toNat (phiV R w p):=by simp[phF]
theorem Xd (R:List Int)(w:Nat)(l:List PhiD)(T:List Int):(phF R w l T).length=T.length:=ID l T
set_option maxHeartbeats 32000000 in
theorem Qbmx (hw:RunW X.cs){m:Nat}(ih:∀m',m<m'→D3 X m'):D3 X m:=by
 intro H0 H E B Li r k l inc main fs K hm kn hr hk dm hl bB ae hK hP;have au:=hw.ro.ok k hk;obtain⟨jA,hp3,lp⟩:=hw.par k hk;have yg:=hw.ins k;have eW:=fun b hb hj R=>Iw hw.ro (k:=k) (b:=b) hk hb hj R;have rR:=fun b hb=>hw.ro.jn k b hk hb;obtain⟨q,hq⟩:∃q,Ai X.cs k=q:=⟨_,rfl⟩;rw[hq]at au jA hp3 lp hl yg eW;simp only[hq]at rR;have vk:X.cs[k]=q:=by rw[←Cc hk];exact hq
 have bM:=au.r0;have cG:=au.r1;have eH:=au.b0;have bj:=au.b1;obtain⟨n,hn⟩:∃n:Nat,q.ab=n:=⟨q.ab.toNat,Zx⟩;have jr:q.ab.toNat=n:=Zx
 have qp:l.length≤n:=Zx
 have b8:=dm.ah;have hX:=F_o kn;have gO:=hr.mt;refine Qc Ab Q7b ?_;refine Wg ?_;simp only[go_sem,hX,gO,hk,Q0,Bc _ _ hk,CodeD.cells,vk,hn];intro x9 dB H1 h1;have kn:Kn H0 H1 E (X.F r [(x9,.st [.int .i64 0,.int .i64 0,.sl true 5 []])] (Li++B)):=F_al ((F_in kn).al dB h1);have dB:H1 x9=.st [.int .i64 0,.int .i64 0,.sl true 5 []]:=kn.l 1 rfl;simp only[go_sem,Qhe,dB];intro H2 h2;have kn:Kn H0 H2 E (X.F r [(x9,o9 q n)] (Li++B)):=kn.aB 1 rfl h2;have dB:H2 x9=.st [.int .i64 q.params,.int .i64 n,.sl false 5 (Qo q.blocks)]:=kn.l 1 rfl;refine Zi dB ?_;refine⟨by simp only[LIM];omega,fun rl dQ H3 h3=>?_⟩;have kn:Kn H0 H3 E (X.F r [(x9,o9 q n),(rl,.vec 1 (Qb (List.replicate n 0)))] (Li++B)):=F_al (A:=[(x9,o9 q n)]) (kn.al dQ (by rw[h3,Qbtq]));simp only[go_sem,Qhg];intro x10 bK H4 h4;have kn:Kn H0 H4 E (X.F r [(x9,o9 q n),(rl,.vec 1 (Qb (List.replicate n 0))),(x10,.st [.sl true 1 []])] (Li++B)):=F_al (A:=[(x9,o9 q n),(rl,.vec 1 (Qb (List.replicate n 0)))]) (kn.al bK h4);have bK:H4 x10=.st [.sl true 1 []]:=kn.l 3 rfl;simp only[go_sem,Qhf,bK];intro H5 h5;have kn:Kn H0 H5 E (X.F r [(x9,o9 q n),(rl,.vec 1 (Qb (List.replicate n 0))),(x10,.st [.af rl 1 0 n])] (Li++B)):=kn.aB 3 rfl h5;have bK:H5 x10=.st [.af rl 1 0 n]:=kn.l 3 rfl;have qZ:H5 rl=.vec 1 (Qb (List.replicate n 0)):=kn.l 2 rfl;have hs:=dm.slc (F_g kn);have aN:=eq_true hs.ok;have qV:=hs.sz;have yp:=hs.rows;have gH:=hs.len;rw[Qf]at gH;refine Qa ?_;simp only[go_sem,bK,qZ,aN,qV,yp,gH,Qf,List.length_replicate,Jf];refine⟨qp,Qq _,fun H6 h6=>?_⟩;rw[XG]at h6;have kn:Kn H0 H6 E (X.F r [(x9,o9 q n),(rl,.vec 1 (Qb (AN q l))),(x10,.st [.af rl 1 0 n])] (Li++B)):=by
  rw[AN,jr];exact kn.aB 2 rfl h6
 have kn:Kn H0 H6 E (X.F r [(rl,.vec 1 (Qb (AN q l))),(x9,o9 q n),(x10,.st [.af rl 1 0 n])] (Li++B)):=kn.perm (Qj fun f hf h0 hc hp=>by
  show f ([(X.l,X.o r)]++(([(x9,o9 q n)]++([(rl,.vec 1 (Qb (AN q l)))]++[(x10,.st [.af rl 1 0 n])]))++((r.so++r.tl)++(Li++B))))=f ([(X.l,X.o r)]++(([(rl,.vec 1 (Qb (AN q l)))]++([(x9,o9 q n)]++[(x10,.st [.af rl 1 0 n])]))++((r.so++r.tl)++(Li++B))));simp only[hf];omega)
 clear dB bK qZ hs aN qV yp gH hX;refine Za ?_;refine Qd (Qw (fun mm e1 H1=>∃(b:Nat) (fr:Option Nat) (R:List Int) (r1:Rs),mm=X.S-r1.u∧b<q.blocks.length∧R.length=n∧byL R∧Kn H0 H1 E (X.F r1 [(rl,.vec 1 (Qb R)),(x9,o9 q n),(x10,.st [.af rl 1 0 n])] (Li++B))∧r1.ok X∧r.u≤r1.u∧r1.t.length≤r1.u∧(main=false→r1.t=r.t)∧EX q b fr∧
  Goes X.cs X.S r.u (.go (fr0 X.cs k l::fs) r.s r.c) r1.u (.go (B9 X.cs k b fr R::fs) r1.s r1.c)∧
  lk 0 e1=.c (.ptr X.l 0)∧lk 3 e1=.c (.bool main)∧lk 9 e1=.c (.ptr x9 0)∧lk 10 e1=.c (.ptr x10 0)∧lk 11 e1=.c (.int .i64 b)∧lk 12 e1=.c (.int .i64 (CC fr))) (X.S-r.u) ?_ ?_)
 ·refine⟨0,none,AN q l,r,rfl,eH,by rw[Qbp3 Zx,jr],Qbsx bB,kn,hr,Jj _,ae,fun _=>rfl,trivial,?_,rfl,rfl,rfl,rfl,rfl,rfl⟩;have:B9 X.cs k 0 none (AN q l)=fr0 X.cs k l:=by rw[B9,fr0,hq]
  rw[this];exact .refl hr.uS
 clear kn gO;rintro mm e1 H7 ⟨b,fr,R,r1,dV,hb,iK,tQ,kn,dT,ym,tj,qf,hfo,df,l0,l3,l9,l10,l11,l12⟩;refine Qd (Q1 ?_);refine Qa ?_;simp only[go_sem,l0,l3,l9,l10,l11,l12];clear l0 l3 l9 l10 l11 l12;refine A4 (fun e2 H2=>∃r2:Rs,Kn H0 H2 E (X.F r2 [(rl,.vec 1 (Qb R)),(x9,o9 q n),(x10,.st [.af rl 1 0 n])] (Li++B))∧r2.ok X∧r2.u=r1.u∧r2.s=r1.s∧r2.c=r1.c∧(main=false→r2.t=r1.t)∧
  lk 0 e2=.c (.ptr X.l 0)∧lk 3 e2=.c (.bool main)∧lk 9 e2=.c (.ptr x9 0)∧lk 10 e2=.c (.ptr x10 0)∧lk 11 e2=.c (.int .i64 b)∧lk 12 e2=.c (.int .i64 (CC fr))) ?_ ?_
 ·intro Q' mD zr zt;refine Qe rfl (fun hc=>?_) (fun hc=>?_)
  ·have hX:=F_o kn;have gO:=dT.mt;have wP:=dT.d16;have uP:=dT.t16;have wN:=dT.d17;have b8:=dT.gt.ah;have tf:=dT.uS;have hS:=dT.S;refine Qp ?_;simp only[go_sem,hX,wP,b8];refine (F_t kn).bg (new:=Qb [(b:Int)]) dT.gt (.mk' _ _ _ _) (Qq _) Zat fun t2 Lg2 H8 dD ca kn2=>?_;have hX:H8 X.l=.st (.sl X.fl 3 (Qk X.cs)::.int .i64 X.S::.int .i64 r1.u::r1.sc::r1.mt):=kn2.l 0 rfl;simp only[go_sem,Qhh,hX,gO,uP,wN,Jab];intro H9 h9;refine mD _ _ ⟨{ r1 with t:=r1.t++[(b:Int)],tc:=t2,tl:=Lg2 },F_t' (r:=r1) rfl rfl (kn2.aB 0 rfl h9),⟨dT.gs,?_,dT.c,dT.bc,dT.bs,dT.ls,?_,tf,hS⟩,rfl,rfl,rfl,(fun h=>by rw[h]at hc;cases hc),rfl,rfl,rfl,rfl,rfl,rfl⟩
   ·show Gr Lg2 1 (Qb (r1.t++[(b:Int)])) t2;rw[Cb];exact dD
   ·show (r1.t++[(b:Int)]).length≤r1.u+1;rw[J2];simp;exact tj
  ·refine Qi ?_;exact mD _ _ ⟨r1,kn,dT,rfl,rfl,rfl,fun _=>rfl,rfl,rfl,rfl,rfl,rfl,rfl⟩
 clear kn;rintro e2 H8 ⟨r2,kn,eE,eu,es,ec,et,l0,l3,l9,l10,l11,l12⟩;have dB:H8 x9=.st [.int .i64 q.params,.int .i64 n,.sl false 5 (Qo q.blocks)]:=kn.l 2 rfl;obtain⟨y,hy⟩:∃y,q.blocks[b]=y:=⟨_,rfl⟩;have cF:Ad q b=y:=by rw[AA hb,hy]
 have cD:=au.bs b hb;rw[hy]at cD;have ck:=au.il b hb;rw[hy]at ck;refine Qa ?_;simp only[go_sem,l9,l11,dB,hb,Qm,Q9 _ _ hb,hy,BlkD.cells];intro x13 cB H9 h9;have kn:Kn H0 H9 E (X.F r2 [(rl,.vec 1 (Qb R)),(x9,o9 q n),(x10,.st [.af rl 1 0 n]),(x13,.st [.sl true 2 [],.sl true 4 [],.int .i64 0,.int .i64 0,.sl true 1 []])] (Li++B)):=F_al (A:=[(rl,.vec 1 (Qb R)),(x9,o9 q n),(x10,.st [.af rl 1 0 n])]) (kn.al cB h9);have cB:H9 x13=.st [.sl true 2 [],.sl true 4 [],.int .i64 0,.int .i64 0,.sl true 1 []]:=kn.l 4 rfl;simp only[go_sem,Qhi,cB,l0,l3,l9,l10,l11,l12];intro H10 cS;have kn:Kn H0 H10 E (X.F r2 [(rl,.vec 1 (Qb R)),(x9,o9 q n),(x10,.st [.af rl 1 0 n]),(x13,oB y)] (Li++B)):=kn.aB 4 rfl cS;clear l0 l3 l9 l10 l11 l12 dB cB;refine A4 (fun e3 H3=>∃R2:List Int,R2.length=n∧byL R2∧B9 X.cs k b fr R=⟨k,b,y.ins,R2⟩∧Kn H0 H3 E (X.F r2 [(rl,.vec 1 (Qb R2)),(x9,o9 q n),(x10,.st [.af rl 1 0 n]),(x13,oB y)] (Li++B))∧
  lk 0 e3=.c (.ptr X.l 0)∧lk 3 e3=.c (.bool main)∧lk 9 e3=.c (.ptr x9 0)∧lk 10 e3=.c (.ptr x10 0)∧lk 11 e3=.c (.int .i64 b)∧lk 13 e3=.c (.ptr x13 0)) ?_ ?_
 ·intro Q' mD zr zt;have cB:H10 x13=.st [.sl false 2 (Ae y.aa),.sl false 4 (Af y.ins),.int .i64 y.jump,.int .i64 y.on,.sl false 1 (Qb y.next)]:=kn.l 4 rfl;have dB:H10 x9=.st [.int .i64 q.params,.int .i64 n,.sl false 5 (Qo q.blocks)]:=kn.l 2 rfl
  cases fr with
  |none=>
   have lZ:decide ((0:Int)≤-1)=false:=rfl;refine Qa ?_;simp only[go_sem,CC,lZ,cB];refine Qe (c:=false) rfl (fun hc=>by cases hc) (fun _=>?_);refine Qi ?_;refine mD _ _ ⟨R,iK,tQ,?_,kn,rfl,rfl,rfl,rfl,rfl,rfl⟩;rw[B9,hq,cF]
  |some a=>
   obtain⟨ha,zg⟩:=hfo;have bd:decide ((0:Int)≤(a:Int))=true:=decide_eq_true (Jay a);have kG:B9 X.cs k b (some a) R=⟨k,b,y.ins,phiR R (wayI q b a) y.aa⟩:=by rw[B9,frJ,hq,cF]
   refine Qa ?_;simp only[go_sem,CC,cB,Q7];try intro _
   refine Qe rfl (fun hc=>?_) (fun hc=>?_)
   rotate_left
   ·have ku:y.aa=[]:=by
     have:¬(0:Int)<(y.aa.length:Int):=of_decide_eq_false hc;exact Jam.1 Zx
    refine Qi ?_;refine mD _ _ ⟨R,iK,tQ,?_,kn,rfl,rfl,rfl,rfl,rfl,rfl⟩;rw[kG,ku];rfl
   refine Zi dB ?_;refine KR (rows:=Qo q.blocks) (nx:=gnx q) (Do H10 q false) fun fl2 H11 hu=>?_;have kn:=kn.aw hu;have hpi:G4 (gnx q) (b:Int) (Qo q.blocks).length=Am (gnx q) (b:Int) q.blocks.length:=by
    rw[Qm,G4,decide_eq_true (Jay b),decide_eq_true (show (b:Int)≤(q.blocks.length:Int)-1 by omega)];rfl
   rw[hpi];simp only[go_sem,Qhl];refine Gv (.mk' _ _ _ _) rfl fun ix gw=>?_;obtain⟨rfl,oe⟩:=Qb2w au ha zg gw;obtain⟨w,fm⟩:∃w,wayI q b a=w:=⟨_,rfl⟩;rw[fm]at oe kG;rw[fm];have dC:∀p∈y.aa,w<p.args.length:=fun p hp=>by rw[cD.pal p hp];exact oe
   have ts:∀p∈y.aa,0≤p.args.getD w 0∧(p.args.getD w 0).toNat<R.length:=fun p hp=>by
    rw[Ja,Je (dC p hp)];obtain⟨z1,z2⟩:=cD.pargs p hp _ (Jd (dC p hp));refine⟨z1,?_⟩;show (p.args[w]'(dC p hp)).toNat<R.length;omega
   simp only[go_sem,Qhk];intro x14 nZ H12 fe;have kn:Kn H0 H12 E (X.F r2 [(rl,.vec 1 (Qb R)),(x9,o9 q n),(x10,.st [.af rl 1 0 n]),(x13,oB y),(x14,.st [.int .i64 0])] (Li++B)):=F_al (A:=[(rl,.vec 1 (Qb R)),(x9,o9 q n),(x10,.st [.af rl 1 0 n]),(x13,oB y)]) (kn.al nZ fe);have nZ:H12 x14=.st [.int .i64 0]:=kn.l 5 rfl;simp only[go_sem,Qhj,nZ];intro H13 kY;have kn:Kn H0 H13 E (X.F r2 [(rl,.vec 1 (Qb R)),(x9,o9 q n),(x10,.st [.af rl 1 0 n]),(x13,oB y),(x14,.st [.int .i64 w])] (Li++B)):=kn.aB 5 rfl kY;have cB:H13 x13=.st [.sl false 2 (Ae y.aa),.sl false 4 (Af y.ins),.int .i64 y.jump,.int .i64 y.on,.sl false 1 (Qb y.next)]:=kn.l 4 rfl;have bK:H13 x10=.st [.af rl 1 0 R.length]:=by rw[iK];exact kn.l 3 rfl
   have dQ:H13 rl=.vec 1 (Qb R):=kn.l 1 rfl;refine Zi cB ?_;refine VY (ps:=y.aa) (R:=R) (rl:=rl) (w:=w) bK dQ (kn.l 5 rfl) ck.2 dC ts fun H14 hu=>?_;have kn:Kn H0 H14 E (X.F r2 [(rl,.vec 1 (Qb R)),(x9,o9 q n),(x10,.st [.af rl 1 0 n]),(x13,oB y)] (Li++B)):=CZ (A:=[(rl,.vec 1 (Qb R)),(x9,o9 q n),(x10,.st [.af rl 1 0 n]),(x13,oB y)]) (A':=[(x14,.st [.int .i64 w])]) (kn.aw hu);have cB:H14 x13=.st [.sl false 2 (Ae y.aa),.sl false 4 (Af y.ins),.int .i64 y.jump,.int .i64 y.on,.sl false 1 (Qb y.next)]:=kn.l 4 rfl;simp only[go_sem,Qhm];refine Qa ?_;simp only[go_sem,cB,Q7];try intro _
   clear cB bK dQ dB;refine Qd (Qw (fun mm e1 H1=>∃(i:Nat),mm=y.aa.length-i∧i≤y.aa.length∧byL (phF R w (y.aa.take i) R)∧Kn H0 H1 E (X.F r2 [(rl,.vec 1 (Qb (phF R w (y.aa.take i) R))),(x9,o9 q n),(x10,.st [.af rl 1 0 n]),(x13,oB y)] (Li++B))∧
    lk 0 e1=.c (.ptr X.l 0)∧lk 3 e1=.c (.bool main)∧lk 9 e1=.c (.ptr x9 0)∧lk 10 e1=.c (.ptr x10 0)∧lk 11 e1=.c (.int .i64 b)∧lk 13 e1=.c (.ptr x13 0)∧lk 15 e1=.c (.sl false 1 (Qb (y.aa.map (phiV R w))))∧lk 68 e1=.c (.sl false 2 (Ae y.aa))∧lk 69 e1=.c (.int .i64 y.aa.length)∧lk 70 e1=.c (.int .i64 i)) y.aa.length ?_ ?_)
   ·exact⟨0,Zx,Zx,tQ,kn,rfl,rfl,rfl,rfl,rfl,rfl,rfl,rfl,rfl,rfl⟩
   clear kn;rintro m2 e3 H15 ⟨i,eo,hi,xb,kn,l0,l3,l9,l10,l11,l13,l15,l68,l69,l70⟩;have bK:H15 x10=.st [.af rl 1 0 n]:=kn.l 3 rfl;obtain⟨T,hT⟩:∃T,phF R w (y.aa.take i) R=T:=⟨_,rfl⟩;have zn:T.length=n:=by rw[←hT,Xd,iK]
   rw[hT]at kn xb;have dQ:H15 rl=.vec 1 (Qb T):=kn.l 1 rfl;refine Qa ?_;simp only[go_sem,l0,l3,l9,l10,l11,l13,l15,l68,l69,l70];refine Qh (Qe rfl (fun hc=>?_) (fun hc=>?_))
   ·have ae:i<y.aa.length:=ZA;obtain⟨p,hp⟩:∃p,y.aa[i]=p:=⟨_,rfl⟩;have gk:p∈y.aa:=ZaQ;obtain⟨z1,z2⟩:=cD.pto p gk;obtain⟨j,hj⟩:∃j:Nat,p.to=j:=⟨p.to.toNat,Zx⟩;have cj:j<n:=Zx;have nw:j<T.length:=Zx;have ce:i<(y.aa.map (phiV R w)).length:=(by rw[Jg];exact ae);have qm:(y.aa.map (phiV R w)).getD i 0=phiV R w p:=(by simp[Ja,ae,hp]);refine Zd ?_
    refine Wk ?_;simp only[go_sem,ae,Q7,BL _ _ ae,hp,PhiD.cells];intro x17 jT H16 ip;have kn:Kn H0 H16 E (X.F r2 [(rl,.vec 1 (Qb T)),(x9,o9 q n),(x10,.st [.af rl 1 0 n]),(x13,oB y),(x17,.st [.int .i64 0,.sl true 1 []])] (Li++B)):=F_al (A:=[(rl,.vec 1 (Qb T)),(x9,o9 q n),(x10,.st [.af rl 1 0 n]),(x13,oB y)]) (kn.al jT ip);have jT:H16 x17=.st [.int .i64 0,.sl true 1 []]:=kn.l 5 rfl;simp only[go_sem,Qgk,jT];intro H17 xQ;have kn:Kn H0 H17 E (X.F r2 [(rl,.vec 1 (Qb T)),(x9,o9 q n),(x10,.st [.af rl 1 0 n]),(x13,oB y),(x17,.st [.int .i64 p.to,.sl false 1 (Qb p.args)])] (Li++B)):=kn.aB 5 rfl xQ;have jT:H17 x17=.st [.int .i64 p.to,.sl false 1 (Qb p.args)]:=kn.l 5 rfl;have bK:H17 x10=.st [.af rl 1 0 n]:=kn.l 3 rfl;have dQ:H17 rl=.vec 1 (Qb T):=kn.l 1 rfl;refine Au ?_;simp only[go_sem,bK,jT,dQ,hj,cj,zn,ce,qm,Qf,Qn _ _ nw,Qn _ _ ce,Es,Jf];intro H18 sW;have kn:Kn H0 H18 E (X.F r2 [(rl,.vec 1 (Qb (T.set j (phiV R w p)))),(x9,o9 q n),(x10,.st [.af rl 1 0 n]),(x13,oB y),(x17,.st [.int .i64 p.to,.sl false 1 (Qb p.args)])] (Li++B)):=kn.aB 1 rfl sW;have kn:=CZ (A:=[(rl,.vec 1 (Qb (T.set j (phiV R w p)))),(x9,o9 q n),(x10,.st [.af rl 1 0 n]),(x13,oB y)]) (A':=[(x17,.st [.int .i64 p.to,.sl false 1 (Qb p.args)])]) kn;have zm:phF R w (y.aa.take (i+1)) R=T.set j (phiV R w p):=by
     rw[Ji ae,hp,YV,hT,hj];rfl
    refine Zh ?_;refine⟨Qr,?_⟩;show ∃m,_;refine⟨y.aa.length-(i+1),Zx,i+1,rfl,Zx,?_,?_,rfl,rfl,rfl,rfl,rfl,rfl,rfl,rfl,rfl,rfl⟩
    ·rw[zm];exact xb.set (tQ.rg _) j
    ·rw[zm];exact kn
   ·have bd:y.aa.length≤i:=ZA;rw[Jc bd]at hT;refine Zw ?_;refine mD _ _ ⟨T,zn,xb,?_,kn,rfl,rfl,rfl,rfl,rfl,rfl⟩;rw[kG,←hT];rfl
 clear kn;rintro e3 H11 ⟨R2,xA,xf,hhd,kn,l0,l3,l9,l10,l11,l13⟩;have kK:Goes X.cs X.S r.u (.go (fr0 X.cs k l::fs) r.s r.c) r2.u (.go (⟨k,b,y.ins,R2⟩::fs) r2.s r2.c):=by rw[eu,es,ec,←hhd];exact df
 have cB:H11 x13=.st [.sl false 2 (Ae y.aa),.sl false 4 (Af y.ins),.int .i64 y.jump,.int .i64 y.on,.sl false 1 (Qb y.next)]:=kn.l 4 rfl;refine Q1 (Qa ?_);simp only[go_sem,l0,l3,l9,l10,l11,l13,cB,Ax];try intro _
 clear l0 l3 l9 l10 l11 l13 cB;refine Qh (Qd (Qw (fun mm e1 H1=>∃(i:Nat) (R3:List Int) (r3:Rs),mm=y.ins.length-i∧i≤y.ins.length∧R3.length=n∧byL R3∧Kn H0 H1 E (X.F r3 [(rl,.vec 1 (Qb R3)),(x9,o9 q n),(x10,.st [.af rl 1 0 n]),(x13,oB y)] (Li++B))∧r3.ok X∧r2.u≤r3.u∧r3.t=r2.t∧
  Goes X.cs X.S r.u (.go (fr0 X.cs k l::fs) r.s r.c) r3.u (.go (⟨k,b,y.ins.drop i,R3⟩::fs) r3.s r3.c)∧
  lk 0 e1=.c (.ptr X.l 0)∧lk 3 e1=.c (.bool main)∧lk 9 e1=.c (.ptr x9 0)∧lk 10 e1=.c (.ptr x10 0)∧lk 11 e1=.c (.int .i64 b)∧lk 13 e1=.c (.ptr x13 0)∧lk 85 e1=.c (.sl false 4 (Af y.ins))∧lk 86 e1=.c (.int .i64 y.ins.length)∧lk 87 e1=.c (.int .i64 i)) y.ins.length ?_ ?_))
 ·exact⟨0,R2,r2,Zx,Zx,xA,xf,kn,eE,Jj _,rfl,kK,rfl,rfl,rfl,rfl,rfl,rfl,rfl,rfl,rfl⟩
 clear kn;rintro m3 e4 H12 ⟨i,R3,r3,nq,hi,kX,pM,kn,tq,hu3,ox,ju,l0,l3,l9,l10,l11,l13,l85,l86,l87⟩;refine Qa ?_;simp only[go_sem,l0,l3,l9,l10,l11,l13,l85,l86,l87];refine Qh (Qe rfl (fun hc=>?_) (fun hc=>?_))
 ·have ae:i<y.ins.length:=ZA
  obtain⟨x,hx⟩:∃x,y.ins[i]=x:=⟨_,rfl⟩;have iN:x∈y.ins:=by rw[←hx];exact Jd ae
  have hxw:InsW X.cs k x:=yg b hk hb x (by rw[cF];exact iN);have pA:y.ins.drop i=x::y.ins.drop (i+1):=by rw[Jy ae,hx]
  obtain⟨op,to,args,nn⟩:=x;refine Zd ?_
  refine Wk ?_;simp only[go_sem,ae,Ax,B0 _ _ ae,hx,InsD.cells];intro x19 jS H13 kY;have kn:Kn H0 H13 E (X.F r3 [(rl,.vec 1 (Qb R3)),(x9,o9 q n),(x10,.st [.af rl 1 0 n]),(x13,oB y),(x19,.st [.int .i64 0,.int .i64 0,.sl true 1 [],.int .i64 0])] (Li++B)):=F_al (A:=[(rl,.vec 1 (Qb R3)),(x9,o9 q n),(x10,.st [.af rl 1 0 n]),(x13,oB y)]) (kn.al jS kY);have jS:H13 x19=.st [.int .i64 0,.int .i64 0,.sl true 1 [],.int .i64 0]:=kn.l 5 rfl;simp only[go_sem,Qgl,jS];intro H14 dG;have kn:Kn H0 H14 E (X.F r3 [(rl,.vec 1 (Qb R3)),(x9,o9 q n),(x10,.st [.af rl 1 0 n]),(x13,oB y),(x19,.st [.int .i64 op,.int .i64 to,.sl false 1 (Qb args),.int .i64 nn])] (Li++B)):=kn.aB 5 rfl dG;have jS:H14 x19=.st [.int .i64 op,.int .i64 to,.sl false 1 (Qb args),.int .i64 nn]:=kn.l 5 rfl;have bK:H14 x10=.st [.af rl 1 0 R3.length]:=by rw[kX];exact kn.l 3 rfl
  have kn:=Qb04 (A:=[(rl,.vec 1 (Qb R3))]) (A':=[(x9,o9 q n),(x10,.st [.af rl 1 0 n]),(x13,oB y),(x19,.st [.int .i64 op,.int .i64 to,.sl false 1 (Qb args),.int .i64 nn])]) kn;rw[pA]at ju;refine Qp ?_;simp only[go_sem,jS,bK];refine X1 (k:=k) (b:=b) (t:=y.ins.drop (i+1)) (fs:=fs) hxw hk (by rw[hq,jr];exact kX) pM kn tq (ih _ Zx) (fun R4 r4 H15 kn4 mY hR4l xd uO hu4 w6=>?_) (fun e r4 H15 kn4 mY uO nz=>?_)
  ·have kn4:=CZ (A:=[(rl,.vec 1 (Qb R4)),(x9,o9 q n),(x10,.st [.af rl 1 0 n]),(x13,oB y)]) (A':=[(x19,.st [.int .i64 op,.int .i64 to,.sl false 1 (Qb args),.int .i64 nn])]) (Qb03 (A:=[(rl,.vec 1 (Qb R4))]) (A':=[(x9,o9 q n),(x10,.st [.af rl 1 0 n]),(x13,oB y),(x19,.st [.int .i64 op,.int .i64 to,.sl false 1 (Qb args),.int .i64 nn])]) kn4);simp only[go_sem];refine Zh ?_;refine⟨Qr,?_⟩;show ∃m,_;exact⟨y.ins.length-(i+1),Zx,i+1,R4,r4,rfl,Zx,Zx,xd,kn4,mY,Zx,by rw[uO,ox],ju.trans w6,rfl,rfl,rfl,rfl,rfl,rfl,rfl,rfl,rfl⟩
  ·simp only[go_sem,Go.AE.X.next];exact hP e r4 H15 (CF (A:=Li) (Gw (A':=[(x9,o9 q n),(x10,.st [.af rl 1 0 n]),(x13,oB y),(x19,.st [.int .i64 op,.int .i64 to,.sl false 1 (Qb args),.int .i64 nn])]) kn4)) mY (fun h=>by rw[uO,ox,et h,qf h]) (ju.halts nz)
 have bd:y.ins.length≤i:=ZA
 rw[J1 bd]at ju;refine Zw ?_;refine Za ?_;refine HY kn tq (fun H13 vX kn4 mY=>?_) (fun vX=>?_)
 rotate_left
 ·simp only[go_sem,Go.AE.X.next];refine hP 3 r3 _ (CF (A:=Li) (CZ (A:=[]) kn)) tq (fun h=>by rw[ox,et h,qf h]) (ju.halts ?_);rw[vX];exact .fuel
 obtain⟨r4,e4⟩:∃r4,({ r3 with u:=r3.u+1 }:Rs)=r4:=⟨_,rfl⟩;have eu4:r4.u=r3.u+1:=by rw[←e4]
 have es4:r4.s=r3.s:=by rw[←e4]
 have ec4:r4.c=r3.c:=by rw[←e4]
 have et4:r4.t=r3.t:=by rw[←e4]
 rw[e4]at kn4 mY;clear e4 kn;have cB:H13 x13=.st [.sl false 2 (Ae y.aa),.sl false 4 (Af y.ins),.int .i64 y.jump,.int .i64 y.on,.sl false 1 (Qb y.next)]:=kn4.l 4 rfl;have bK:H13 x10=.st [.af rl 1 0 n]:=kn4.l 3 rfl;have dQ:H13 rl=.vec 1 (Qb R3):=kn4.l 1 rfl;have bN:List.take n (Qb R3)=Qb R3:=Jc ZO;have kz:r4.t.length≤r4.u:=by rw[et4,eu4];exact tq.lt
 have qU:main=false→r4.t=r.t:=fun h=>by rw[et4,ox,et h,qf h]
 have one:∀Y,stJ X.cs k b R3 fs r4.s r4.c=Y→Goes X.cs X.S r.u (.go (fr0 X.cs k l::fs) r.s r.c) r4.u Y:=fun Y h=>by
  refine ju.trans ?_;rw[eu4,←es4,←ec4];exact .one vX h
 have hjm:=cD.jmp;have qE:=cD.on;have tZ:=cD.nx;have wr:=rR b hb;rw[cF]at wr;refine Za ?_;refine Qd (Qa ?_);simp only[go_sem,cB];refine Qe rfl (fun hc=>?_) (fun hc=>?_)
 ·have hj:y.jump=3:=of_decide_eq_true hc;obtain⟨z1,z2⟩:=qE Zx;obtain⟨j,nv⟩:∃j:Nat,y.on=j:=⟨y.on.toNat,Zx⟩;have cj:j<n:=Zx
  have nw:j<R3.length:=Zx
  refine Qa ?_;simp only[go_sem,cB,bK,dQ,bN,nv,cj,kX,Qf,Qn _ _ nw,Jf];refine Ql ?_;simp only[go_sem,Go.AE.X.next,Q6,Aa,Jb,forall_eq,RS.op];have n9:=hK (rg R3 y.on) r4 H13 (CF (A:=Li) (CZ (A:=[]) kn4)) mY (pM.rg _) kz qU (one _ (by rw[EH (by rw[hq,cF];exact hj),hq,cF]));rw[nv]at n9;exact n9
 have nw:¬y.jump=3:=of_decide_eq_false hc;obtain⟨v,mM,mL,uE⟩:=eW b hb (by rw[cF];exact nw) R3;rw[cF]at mM mL uE;obtain⟨w1,w2⟩:=tZ v mM;obtain⟨b2,bX⟩:∃b2:Nat,v=b2:=⟨v.toNat,Zx⟩;have uC:nxB y R3=b2:=Zx
 have pN:b2<q.blocks.length:=Zx
 have w5:=one _ (by
  rw[EG (by rw[hq,cF];exact nw),hq,cF,uC])
 have gw:ixB y R3<y.next.length:=(List.getElem?_eq_some_iff.1 uE).1;have bG:y.next.getD (ixB y R3) 0=(b2:Int):=by rw[Ja,uE,bX];rfl
 have wG:EX q b2 (some b):=⟨hb,by rw[ER hb,cF,←bX];exact mM⟩;have eB:∀e,lk 0 e=.c (.ptr X.l 0)→lk 3 e=.c (.bool main)→lk 9 e=.c (.ptr x9 0)→lk 10 e=.c (.ptr x10 0)→lk 11 e=.c (.int .i64 b2)→lk 12 e=.c (.int .i64 b)→
   ∃m',m'<mm∧∃(b:Nat) (fr:Option Nat) (R:List Int) (r1:Rs),m'=X.S-r1.u∧b<q.blocks.length∧R.length=n∧byL R∧Kn H0 H13 E (X.F r1 [(rl,.vec 1 (Qb R)),(x9,o9 q n),(x10,.st [.af rl 1 0 n])] (Li++B))∧r1.ok X∧r.u≤r1.u∧r1.t.length≤r1.u∧(main=false→r1.t=r.t)∧EX q b fr∧
   Goes X.cs X.S r.u (.go (fr0 X.cs k l::fs) r.s r.c) r1.u (.go (B9 X.cs k b fr R::fs) r1.s r1.c)∧
   lk 0 e=.c (.ptr X.l 0)∧lk 3 e=.c (.bool main)∧lk 9 e=.c (.ptr x9 0)∧lk 10 e=.c (.ptr x10 0)∧lk 11 e=.c (.int .i64 b)∧lk 12 e=.c (.int .i64 (CC fr)):=by
  intro e a0 a3 a9 a10 a11 a12;refine⟨X.S-r4.u,by have:=mY.uS;omega,b2,some b,R3,r4,rfl,pN,kX,pM,CZ (A:=[(rl,.vec 1 (Qb R3)),(x9,o9 q n),(x10,.st [.af rl 1 0 n])]) (A':=[(x13,oB y)]) kn4,mY,Zx,kz,qU,wG,w5,a0,a3,a9,a10,a11,a12⟩
 rcases hjm with hj|hj|hj
 ·
  have hd:decide ((1:Int)=2)=false:=rfl;have e0:ixB y R3=0:=by rw[ixB,if_neg Zx]
  rw[e0]at gw bG;refine Qa ?_;by_cases hjr:y.on.toNat<R3.length
  ·simp only[go_sem,cB,bK,dQ,bN,hj,hd,Qn _ _ hjr,Jf];refine Qe (c:=false) rfl (fun hc=>by cases hc) (fun _=>?_);refine Qp ?_;simp only[go_sem,cB,gw,bG,Qf,Qn _ _ gw];exact⟨Zx,eB _ rfl rfl rfl rfl rfl rfl⟩
  ·have cd:(Qb R3).getD y.on.toNat []=[]:=by rw[Ja,Jr ZO];rfl
   simp only[go_sem,cB,bK,dQ,bN,hj,hd,cd,List.headD_nil,Jf];refine Qe (c:=false) rfl (fun hc=>by cases hc) (fun _=>?_);refine Qp ?_;simp only[go_sem,cB,gw,bG,Qf,Qn _ _ gw];exact⟨Zx,eB _ rfl rfl rfl rfl rfl rfl⟩
 ·
  have hd:decide ((2:Int)=2)=true:=rfl;obtain⟨z1,z2⟩:=qE Zx;obtain⟨j,nv⟩:∃j:Nat,y.on=j:=⟨y.on.toNat,Zx⟩;have cj:j<n:=Zx
  have hj4:j<R3.length:=Zx
  refine Qa ?_;simp only[go_sem,cB,bK,dQ,bN,hj,nv,cj,kX,Qf,Qn _ _ hj4,Jf];refine Qe rfl (fun hc=>?_) (fun hc=>?_)
  ·have hz:R3.getD j 0=0:=of_decide_eq_true hc;have e0:ixB y R3=1:=by rw[ixB,if_pos ⟨hj,by rw[rg,nv];exact hz⟩]
   rw[e0]at gw bG;refine Qp ?_;simp only[go_sem,cB,gw,bG,Qf,Qn _ _ gw];exact⟨Zx,eB _ rfl rfl rfl rfl rfl rfl⟩
  ·have hz:¬R3.getD j 0=0:=of_decide_eq_false hc;have e0:ixB y R3=0:=by rw[ixB,if_neg (by rintro⟨_,h⟩;rw[rg,nv]at h;exact hz h)]
   rw[e0]at gw bG;refine Qp ?_;simp only[go_sem,cB,gw,bG,Qf,Qn _ _ gw];exact⟨Zx,eB _ rfl rfl rfl rfl rfl rfl⟩
 ·exact absurd hj nw
theorem Ko (hw:RunW X.cs):∀d m,X.S+1-m≤d→D3 X m
 |0,m,h=>fun H0 H E B Li r k l inc main fs K hm kn hr=>by
  have:=hr.uS;omega
 |d+1,m,h=>Qbmx hw fun m' de=>Ko hw d m' Zx
end Go.AE.Y
namespace Go.AE.Y
open Go.Proofs.Tryz
theorem Qbig (p:Addr)(w:World) :
  CallsD prog Qsr #[.pointer (some p)] .returning w fun e u' w'=>e=.returned (.tuple #[])∧u'=.returning∧w'=w:=by
 refine callsD_of_wpS Go.Proofs.Tryz.func208 rfl fun c₀ cs hu=>?_;apply wpS_seq;apply wpS_region;simp[wpOpsS,go_sem,recoverD,hu,Go.Proofs.Tryz.ntmps208,Exit.thenS];apply wpS_seq;apply wpS_region;simp[wpOpsS,go_sem,Exit.thenS];refine wpS_cond (t:=false) (by simp[Act.eval]) ?_;simp only[Jax,if_false];refine wpS_of_wp (wp_skip ?_);cases c₀
 simp_all[bodyPostS,results,Go.Proofs.Tryz.results208]
set_option maxRecDepth 4000 in
theorem Qagn (p:Addr)(n:Int)(x:Value)(older:List PanicEntry)(w:World)(hc:w.cell? p=some x)(hz:w.frozen? p=false) :
  CallsD prog Qsr #[.pointer (some p)] (.panicking ({ v:=.iface 190 (.int .i64 n),recovered:=false }::older)) w fun e u' w'=>
   e=.returned (.tuple #[])∧u'=.panicking ({ v:=.iface 190 (.int .i64 n),recovered:=true }::older)∧w'=w.setCell p (.int .i64 n):=by
 refine callsD_of_wpS Go.Proofs.Tryz.func208 rfl fun c₀ cs hu=>?_;apply wpS_seq;apply wpS_region;simp[wpOpsS,go_sem,recoverD,hu,Go.Proofs.Tryz.ntmps208,Exit.thenS];apply wpS_seq;apply wpS_region;simp[wpOpsS,go_sem,Exit.thenS];refine wpS_cond (t:=true) (by simp[Act.eval]) ?_;simp only[if_true];have hta:∀w:World,(Instr.typeAssert (.iface 190 (.int .i64 n)) 20 190 true).run prog w=.ok (.tuple #[.int .i64 n,.bool true]) w:=fun w=>ZB
 apply wpS_seq;apply wpS_region;simp[wpOpsS,go_sem,Exit.thenS,hta];apply wpS_seq;apply wpS_seq;apply wpS_region;simp[wpOpsS,go_sem,Exit.thenS];refine wpS_cond (t:=false) (by simp[Act.eval]) ?_;simp only[Jax,if_false];refine wpS_of_wp (wp_skip ?_);simp only[Exit.thenS];apply wpS_region;simp[wpOpsS,go_sem,hc,hz,bodyPostS,results,Go.Proofs.Tryz.results208]
theorem Qbih {f : Nat} {caps : Array Value} {w : World} {R : Ending → World → Prop} (hf : fnOk prog f = true)
    (h : Calls prog f caps (w.alloc (.cells #[.int .i64 0] 3)) fun e w' => w'.cell? ⟨w.heap.size, 0, none⟩ = some (.int .i64 0) ∧ w'.frozen? ⟨w.heap.size, 0, none⟩ = false ∧
      ((∃ v, e = .returned v ∧ R (.returned (.int .i64 0)) (w'.setCell ⟨w.heap.size, 0, none⟩ (.int .i64 0))) ∨
       (∃ n, e = .panicked [{ v := .iface 190 (.int .i64 n), recovered := false }] ∧ R (.returned (.int .i64 n)) (w'.setCell ⟨w.heap.size, 0, none⟩ (.int .i64 n))))) :
    Calls prog SU #[.func (.func f) #[] caps] w R := by
  have rK : ∀ fn (first cap : Array Value) (w : World), (Instr.makeFunc fn first cap).run prog w = .ok (.func fn first cap) w := fun _ _ _ _ => rfl
  go_enter_defers Go.Proofs.Tryz.func134, Go.Proofs.Tryz.ntmps134
  go_wp2
  have sv : ∀ w, (callFunc f caps).run prog w = .ok (.enter f caps) w := fun w => SW hf caps w;simp only [sv, Array.append_empty, Array.empty_append, Oper.upon_enter];refine h.mono ?_;rintro e w' ⟨hc, hz, hR⟩;rcases hR with ⟨v, rfl, hR⟩ | ⟨n, rfl, hR⟩
  · go_wp2
    refine leaves_cons (f := 208) (args := #[.pointer (some ⟨w.heap.size, 0, none⟩)]) Zz (by simp [go_sem]) ?_;refine (Qbig ⟨w.heap.size, 0, none⟩ _).mono ?_;rintro e u' w'' ⟨rfl, rfl, rfl⟩;simp [Leaves, settle, results, Go.Proofs.Tryz.results134, go_sem];refine ⟨_, ?_, hR⟩;simp [go_sem, hc]
  · show Leaves _ _ _ _ _ _ _;refine leaves_cons (f := 208) (args := #[.pointer (some ⟨w.heap.size, 0, none⟩)]) Zz (by simp [go_sem]) ?_;refine (Qagn ⟨w.heap.size, 0, none⟩ n _ [] _ hc hz).mono ?_;rintro e u' w'' ⟨rfl, rfl, rfl⟩;simp [Leaves, settle, results, Go.Proofs.Tryz.results134, go_sem];refine ⟨_, ?_, hR⟩;simp [go_sem, hc]
variable {H:Heap}{K:V→Heap→Prop}
theorem Qbf5 {w:World}{b:Nat}{cs:Array Value}{T:TypeId}{v:Value}(h:w.heap[b]? = some (.cells cs T (0,0))):w.setCell ⟨b,0,none⟩ v=World.az w b (cs.setIfInBounds 0 v) T:=by
 unfold World.setCell World.az;congr 1;refine Array.ext_getElem? fun i=>?_;rw[Array.getElem?_modify,Array.getElem?_setIfInBounds];by_cases hi:b=i
 ·subst hi;rw[if_pos rfl,if_pos rfl,if_pos (Ee h),h];rfl
 ·rw[if_neg hi,if_neg hi]
theorem Qbsz {f:Nat}{caps:List C}(hf:fnOk prog f=true)
  (h:∀xe,H xe=.none→∀H1,H1=H.set xe (.st [.int .i64 0])→Qs prog f (caps.map .c) H1 fun x H2=>H2 xe=.st [.int .i64 0]∧((∃n,x=.pn (endV n)∧∀H3,H3=H2.set xe (.st [.int .i64 n])→K (.c (.int .i64 n)) H3)∨
   ((∀v,x≠.pn v)∧∀H3,H3=H2.set xe (.st [.int .i64 0])→K (.c (.int .i64 0)) H3))) :
  Qs prog SU [.c (.fn f caps)] H K:=by
 refine⟨ZB,fun g w vs hs hl hv=>?_⟩;obtain⟨v,rfl⟩:∃v,vs=[v]:=by
  match vs,hl with
  |[v],_=>exact⟨v,rfl⟩
 have hr:=hv 0 _ v rfl rfl;obtain⟨cvs,rfl,cm,wR⟩:=hr.aR.fn_inv;obtain⟨xe,gD,hHx⟩:=hs.newName;have aU:=Ef hs gD 1 0 (.cells #[.int .i64 0] 3);have aL:=Df hs gD 1 0 (.cells #[.int .i64 0] 3) (.st [.int .i64 0]) (fun g' hg=>by
  subst hg;exact Tp (cells:=[.int .i64 0]) (fun j c u h1 h2=>by
   cases j with
   |zero=>simp at h1 h2;subst h1;subst h2;exact .int _ _
   |succ j=>simp at h1) rfl aU)
 refine Qbih hf ?_;have hc:=(h xe hHx _ rfl).2 _ _ cvs aL.sat (by simp[cm]) (fun j x u h1 h2=>by
  rw[J8]at h1
  cases hj:caps[j]? with
  |none=>rw[hj]at h1;simp at h1
  |some c=>
   rw[hj]at h1;simp at h1;subst h1;exact .c _ _ ((wR j c u hj h2).mono aL.le))
 refine hc.mono fun e w2 hh=>?_;have box:∀H2 g2 n,H2 xe=.st [.int .i64 0]→Stp (H.set xe (.st [.int .i64 0])) (g.newObj xe w.heap.size 1 0) (w.alloc (.cells #[.int .i64 0] 3)) H2 g2 w2→
   w2.cell? ⟨w.heap.size,0,none⟩=some (.int .i64 0)∧w2.frozen? ⟨w.heap.size,0,none⟩=false∧Stp H2 g2 w2 (H2.set xe (.st [.int .i64 n])) g2 (w2.setCell ⟨w.heap.size,0,none⟩ (.int .i64 n)):=by
  intro H2 g2 n hx fO;have bR:g2.io xe=some (w.heap.size,1,0):=fO.le.io xe _ ZG;have bn:=fO.sat.objs xe;rw[hx]at bn;obtain⟨b',sz',T,cs,q1,q2,q3,q4,q5⟩:=bn;rw[bR]at q1;simp only[Ja9,Prod.mk.injEq,and_true]at q1;obtain⟨rfl,rfl⟩:=q1;have bF:cs.size=1:=q4;have cR:cs[0]? = some cs[0]:=Array.getElem?_eq_getElem Zx;have wR:cs[0]=.int .i64 0:=((q5 0 _ _ rfl cR).toC rfl).aH;refine⟨?_,by simp[World.frozen?,q3],?_⟩
  ·rw[Dt q3,cR,wR]
  ·rw[Qbf5 q3];refine HO fO.sat q2 q3 Zz _ (by rw[hx];simp) (fun aU fm=>?_) Zz;refine⟨w.heap.size,1,T,_,bR,q2,fm,by simp[bF],fun j c v e1 e2=>?_⟩
   cases j with
   |zero=>
    simp[bF]at e1 e2;subst e1;subst e2;exact .plain _ _ _ _ (.int _ _)
   |succ j=>simp at e1
 rcases hh with ⟨v,x,H2,g2,rfl,⟨hx,hk⟩,fO,eE⟩|⟨v,H2,g2,rfl,⟨hx,hk⟩,fO⟩
 ·obtain⟨b1,b2,b3⟩:=box H2 g2 0 hx fO;refine⟨b1,b2,.inl ⟨v,rfl,.inl ⟨_,.c (.int .i64 0),_,g2,rfl,?_,aL.trans (fO.trans b3),.c _ _ (.int _ _)⟩⟩⟩;rcases hk with ⟨n,rfl,_⟩|⟨_,hk⟩
  ·cases eE
  ·exact hk _ rfl
 ·rcases hk with ⟨n,mL,hk⟩|⟨cd,_⟩
  ·cases mL;obtain⟨b1,b2,b3⟩:=box H2 g2 n hx fO;exact⟨b1,b2,.inr ⟨n,rfl,.inl ⟨_,.c (.int .i64 n),_,g2,rfl,hk _ rfl,aL.trans (fO.trans b3),.c _ _ (.int _ _)⟩⟩⟩
  ·exact absurd rfl (cd v)
end Go.AE.Y
namespace Go.AE.Y
open Go.Proofs.Tryz
variable {H H0:Heap}{K:V→Heap→Prop}{E B Lg:List (Nat×Obj)}
def Gq (Lg:List (Nat×Obj))(W:List Nat)(c:C):Prop:=
 (c=.sl true 1 []∧W=[]∧Lg=[])∨∃z st R,c=.af z 1 st W.length∧Lg=[(z,.vec 1 R)]∧(R.drop st).take W.length=Q5 W∧st+W.length≤R.length
theorem Gq.ah {W:List Nat}{c:C}(h:Gq Lg W c):c.ah=false:=by rcases h with ⟨rfl,_⟩|⟨z,st,R,rfl,_⟩ <;> rfl
theorem Gq.aO {W:List Nat}{c:C}(h:Gq Lg W c):c.aO=1:=by rcases h with ⟨rfl,_⟩|⟨z,st,R,rfl,_⟩ <;> rfl
theorem Gq.ay {W:List Nat}{c:C}(h:Gq Lg W c):ay c=W.length:=by rcases h with ⟨rfl,rfl,_⟩|⟨z,st,R,rfl,_⟩ <;> rfl
theorem Gq.get {W:List Nat}{c:C}(h:Gq Lg W c)(kn:Kn H0 H E (B++Lg)):bh H c∧rowsOf H c=Q5 W:=by
 rcases h with ⟨rfl,rfl,_⟩|⟨z,st,R,rfl,rfl,h1,h2⟩
 ·exact⟨trivial,rfl⟩
 ·have hz:H z=.vec 1 R:=(kn.get (z,.vec 1 R) Zz).1;exact⟨by simp[bh,hz,h2],by simp[rowsOf,hz,h1]⟩
theorem Gr.gq {W:List Nat}{c:C}(h:Gr Lg 1 (Q5 W) c):Gq Lg W c:=by
 rcases h with ⟨h1,h2,h3⟩|⟨y,h1,h2⟩
 ·refine .inl ⟨h1,?_,h3⟩;have:=congrArg List.length h2;rw[Qz]at this;exact Jam.1 this
 ·exact .inr ⟨y,0,Q5 W,by rw[h1,Qz],h2,by rw[Jai,Jc (by rw[Qz];exact Jj _)],by rw[Qz];omega⟩
theorem Kn.growQ {K:V→Heap→Prop}{W new:List Nat}{b c:C}(kn:Kn H0 H E (B++Lg))(hc:Gq Lg W c)(hb:Slc H 1 (Q5 new) b)(h2:W.length+new.length≤LIM)
  (h:∀t Lg' H',Gq Lg' (W++new) t→t.ah=false→Kn H0 H' E (B++Lg')→K (.c t) H'):appQ H 1 c b K:=by
 rcases hc with ⟨rfl,rfl,rfl⟩|⟨z,st,R,rfl,rfl,h3,h4⟩
 ·refine Kn.bg (new:=Q5 new) kn (.nil 1) hb (BC _) (by simp only[Qz,Jl]at *;omega) fun t Lg' H' hg ht k=>h t Lg' H' (Gr.gq ?_) ht k;simpa using hg
 ·have hz:H z=.vec 1 R:=(kn.get (z,.vec 1 R) Zz).1;refine⟨hb.ok,hb.sz,?_⟩;simp only[hz,hb.rows,hb.len,h3,Qz];refine⟨trivial,trivial,h4,BC _,h2,fun l' du H' dx=>?_⟩;have hg:Gr [(l',.vec 1 (Q5 (W++new)))] 1 (Q5 (W++new)) (.af l' 1 0 (W.length+new.length)):=.mk _ _ _ (by simp[Qz]);refine h _ _ H' (Gr.gq hg) rfl ?_;have:=kn.ap B.length (y:=z) (o:=.vec 1 R) Zz du dx;rw[Hx];simpa using this
theorem Ke {S:Nat→Bool}{a b a' b':V}(h:FrzV H S a a')(k:FrzV H S b b'):FrzV H S (.tup [a,b]) (.tup [a',b']):=by
 refine .tup _ _ rfl fun j x x' h1 h2=>?_
 match j with
 |0=>simp at h1 h2;subst h1;subst h2;exact h
 |1=>simp at h1 h2;subst h1;subst h2;exact k
 |j+2=>simp at h1
end Go.AE.Y
namespace Go.AE.Y
attribute [local go_sem] cond_true cond_false Bool.not_true Bool.not_false
attribute [local instance] Classical.propDecidable
open Go.Proofs.Tryz
variable {H H' H0:Heap}{K:V→Heap→Prop}{E A A' B Li:List (Nat×Obj)}{X:Rn}{r r':Rs}
def oO (e v:Int):Obj:=.st [.sl true 1 [],.int .i64 e,.int .i64 v,.sl true 1 []]
theorem VX (hw:RunW X.cs){l:List Int}{f2:Bool}{x8 x9:Nat}(hl:(l.length:Int)=(Ai X.cs (X.cs.length-1)).params)(bB:byL l)
  (kn:Kn H0 H E (X.F r [(x8,.st [.ptr X.l 0]),(x9,oO 0 0)] B)) (hr:r.ok X) (hu:r.u=0) (hs:r.s=[]) (hc:r.c=D9) (ht:r.t=[])
  (hK:∀v r' H',Kn H0 H' E (X.F r' [(x8,.st [.ptr X.l 0]),(x9,oO 0 v)] B)→r'.ok X→Goes X.cs X.S 0 (cf0 X.cs l) r'.u (.dn 0 v r'.s r'.c)→K (.tup []) H')
  (hP:∀e r' H',Kn H0 H' E (X.F r' [(x8,.st [.ptr X.l 0]),(x9,oO 0 0)] B)→r'.ok X→Halts X.cs X.S 0 (cf0 X.cs l) e r'.s r'.c→K (.pn (endV e)) H') :
  Qs prog Vh [.c (.ptr x8 0),.c (.pp [.sl X.fl 3 (Qk X.cs)]),.c (.pp [.sl f2 1 (Qb l)]),.c (.ptr x9 0)] H K:=by
 have hn:=hw.n;have cC:=hw.ro.n;refine Qc Ab Qaho ?_;have aV:H x8=.st [.ptr X.l 0]:=kn.l 1 rfl;have ny:((X.cs.length:Int)-1)=((X.cs.length-1:Nat):Int):=Zx
 refine Qp ?_;simp only[go_sem,aV,Q0];try intro _
 refine⟨Qr,?_⟩;rw[ny];refine Ko hw (X.S+1) 0 Zx H0 H E ([(x8,.st [.ptr X.l 0]),(x9,oO 0 0)]++B) [] r (X.cs.length-1) l (.sl f2 1 (Qb l)) true [] _ (Ja8 _) (F_in kn) hr Zx (.inl ⟨rfl,f2,rfl⟩) hl bB (by rw[ht];simp) (fun v r' H' kn' be hv _ _ df=>?_) (fun e r' H' kn' be _ nz=>?_)
 ·have kn':=CF kn';have dB:H' x9=.st [.sl true 1 [],.int .i64 0,.int .i64 0,.sl true 1 []]:=kn'.l 2 rfl;simp only[go_sem,Qkw,dB];intro H2 h2;simp only[go_sem,Q6,Aa,Qtm];refine hK v r' H2 (kn'.aB 2 rfl h2) be ?_;rw[hu,hs,hc]at df;exact df
 ·simp only[go_sem];refine hP e r' H' (CF kn') be ?_;rw[hu,hs,hc]at nz;exact nz
def Rn.pc (X:Rn)(r:Rs):List C:=.sl X.fl 3 (Qk X.cs)::.int .i64 X.S::.int .i64 r.u::.sl false 1 (Qb r.s)::(Ao r.c++[.sl false 1 (Qb r.t)])
theorem Kf {S:Nat→Bool}{a b:C}(h:FrzC H S a b):∀l:List Int,FrzL H S (Ao l++[a]) (Ao l++[b])
 |[]=>.cons h .nil
 |v::l=>.cons (Qg rfl) (Kf h l)
theorem Qb15 {S:Nat→Bool}(hr:r.ok X)(hm:∀p∈[(X.l,X.o r)]++(r.so++r.tl),H p.1=p.2∧S p.1=true):FrzC H S (.ptr X.l 0) (.pp (X.pc r)):=by
 obtain⟨h1,h2⟩:=hm (X.l,X.o r) Zz;refine FrzL.ptr h2 h1 ?_;refine .cons (Qg rfl) (.cons (Qg rfl) (.cons (Qg rfl) (.cons ?_ (Kf ?_ _))))
 ·exact Gr.frzM hr.gs (fun p hp=>hm p ZaI) (FrzR.same (Qq _))
 ·exact Gr.frzM hr.gt (fun p hp=>hm p ZaI) (FrzR.same (Qq _))
theorem Qbtm (l:List Int)(c:C)(n:Nat)(h:l.length=n):((Ao l++[c]).take n).map (fun c=>[c])=Qb l:=by
 subst h;rw[List.take_append_of_le_length (by simp[Ao]),Jc (by simp[Ao])];simp[Ao,Qb]
theorem Xi (l:List Int)(c:C)(n:Nat)(h:l.length=n):(Ao l++[c]).length=n+1:=by simp[Ao,h]
set_option maxHeartbeats 8000000 in
theorem Qbp9 {cs:List CodeD}{fl f2:Bool}{l:List Int}{S:Nat}(hg:Ah cs=true)(hl:(l.length:Int)=(Ai cs (cs.length-1)).params)(bB:byL l)(hS:S≤60000)
  (hK:∀e v s c u H',outR cs l S=(e,v,s,c)→Upd H H' []→K (.tup [.ag [.sl false 1 (Qb s),.int .i64 e,.int .i64 v,.sl false 1 (Qb c)],.c (.pp u)]) H') :
  Qs prog Tm [.ag [.sl fl 3 (Qk cs)],.c (.sl f2 1 (Qb l)),.c (.int .i64 S)] H K:=by
 have hw:=runW hg;refine Qx ?_;refine Qc Ab Qa0a ?_;refine Za ?_;intro x6 aY H1 h1;have kn:Kn H H1 [] [(x6,oO 0 0)]:=(Kn.aq H).al aY h1;simp only[go_sem,Qur];refine Za ?_;intro ml eY H2 h2;obtain⟨X,hX⟩:∃X:Rn,X=⟨ml,fl,cs,S⟩:=⟨_,rfl⟩;obtain⟨r0,bM⟩:∃r0:Rs,r0=⟨0,[],D9,[],.sl true 1 [],[],.sl true 1 [],[]⟩:=⟨_,rfl⟩;have kn:Kn H H2 [] (X.F r0 [(x6,oO 0 0)] []):=by
  subst hX;subst bM;have k:Kn H H2 [] ([(x6,oO 0 0)]++[(ml,Rn.o ⟨ml,fl,cs,S⟩ ⟨0,[],D9,[],.sl true 1 [],[],.sl true 1 [],[]⟩)]):=kn.al eY h2;exact k.perm (by simpa[Rn.F]using List.Perm.swap _ _ _)
 have hXl:X.l=ml:=by rw[hX]
 have hXf:X.fl=fl:=by rw[hX]
 have sH:X.cs=cs:=by rw[hX]
 have xu:X.S=S:=by rw[hX]
 have vd:r0.ok X:=by
  subst bM;exact⟨.nil 1,.nil 1,rfl,fun v hv=>by rw[Jak hv];exact⟨Zx,Zx⟩,fun v hv=>by simp at hv,Jj _,Zz,Ja8 _,by rw[xu];exact hS⟩
 simp only[go_sem,Qut];intro x8 aV H3 h3;have kn:Kn H H3 [] (X.F r0 [(x6,oO 0 0),(x8,.st [.pnil])] []):=F_al (A:=[(x6,oO 0 0)]) (kn.al aV h3);have aV:H3 x8=.st [.pnil]:=kn.l 2 rfl;simp only[go_sem,Qus,aV];intro H4 h4;rw[←hXl]at h4;have kn:Kn H H4 [] (X.F r0 [(x6,oO 0 0),(x8,.st [.ptr X.l 0])] []):=kn.aB 2 rfl h4;refine Za ?_;intro x9 dB H5 h5;have kn:Kn H H5 [] (X.F r0 [(x6,oO 0 0),(x8,.st [.ptr X.l 0]),(x9,oO 0 0)] []):=F_al (A:=[(x6,oO 0 0),(x8,.st [.ptr X.l 0])]) (kn.al dB h5);refine A4 (fun e2 H2=>∃(e v:Int) (r1:Rs),Kn H H2 [] (X.F r1 [(x6,oO 0 0),(x8,.st [.ptr X.l 0]),(x9,oO e v)] [])∧r1.ok X∧outR cs l S=(e,v,r1.s,r1.c)∧lk 6 e2=.c (.ptr x6 0)∧lk 8 e2=.c (.ptr x8 0)∧lk 9 e2=.c (.ptr x9 0)) ?_ ?_
 ·intro Q' mD zr zt;refine Zh ?_;refine Qbsz ZB fun xe gD H6 h6=>?_;have kn:Kn H H6 [] (X.F r0 [(x6,oO 0 0),(x8,.st [.ptr X.l 0]),(x9,oO 0 0),(xe,.st [.int .i64 0])] []):=F_al (A:=[(x6,oO 0 0),(x8,.st [.ptr X.l 0]),(x9,oO 0 0)]) (kn.al gD h6);have kn:Kn H H6 [] (X.F r0 [(x8,.st [.ptr X.l 0]),(x9,oO 0 0)] [(x6,oO 0 0),(xe,.st [.int .i64 0])]):=kn.perm (Qj fun f hf h0 hc hp=>by
   show f ([(X.l,X.o r0)]++(([(x6,oO 0 0)]++([(x8,.st [.ptr X.l 0])]++([(x9,oO 0 0)]++[(xe,.st [.int .i64 0])])))++((r0.so++r0.tl)++[])))=f ([(X.l,X.o r0)]++(([(x8,.st [.ptr X.l 0])]++[(x9,oO 0 0)])++((r0.so++r0.tl)++([(x6,oO 0 0)]++[(xe,.st [.int .i64 0])]))));simp only[hf,h0];omega)
  have key:∀(e v:Int) (r1:Rs) (H7 H8:Heap),Kn H H7 [] (X.F r1 [(x8,.st [.ptr X.l 0]),(x9,oO 0 v)] [(x6,oO 0 0),(xe,.st [.int .i64 0])])→H8=H7.set xe (.st [.int .i64 e])→
    H7 xe=.st [.int .i64 0]∧Kn H H8 [] (X.F r1 [(x6,oO 0 0),(x8,.st [.ptr X.l 0]),(x9,oO 0 v)] []):=by
   intro e v r1 H7 H8 k h8;have k:Kn H H7 [] (X.F r1 [(x6,oO 0 0),(x8,.st [.ptr X.l 0]),(x9,oO 0 v),(xe,.st [.int .i64 0])] []):=k.perm (Qj fun f hf h0 hc hp=>by
    show f ([(X.l,X.o r1)]++(([(x8,.st [.ptr X.l 0])]++[(x9,oO 0 v)])++((r1.so++r1.tl)++([(x6,oO 0 0)]++[(xe,.st [.int .i64 0])]))))=f ([(X.l,X.o r1)]++(([(x6,oO 0 0)]++([(x8,.st [.ptr X.l 0])]++([(x9,oO 0 v)]++[(xe,.st [.int .i64 0])])))++((r1.so++r1.tl)++[])));simp only[hf,h0];omega)
   refine⟨k.l 4 rfl,?_⟩;have k2:Kn H H8 [] (X.F r1 [(x6,oO 0 0),(x8,.st [.ptr X.l 0]),(x9,oO 0 v),(xe,.st [.int .i64 e])] []):=k.aB 4 rfl h8;exact CZ (A:=[(x6,oO 0 0),(x8,.st [.ptr X.l 0]),(x9,oO 0 v)]) (A':=[(xe,.st [.int .i64 e])]) k2
  have du:(l.length:Int)=(Ai X.cs (X.cs.length-1)).params:=by rw[sH];exact hl
  rw[←hXf,←sH];refine VX (X:=X) (f2:=f2) (by rw[sH];exact hw) du bB kn vd (by rw[bM]) (by rw[bM]) (by rw[bM]) (by rw[bM]) (fun v r1 H7 kn7 cG df=>?_) (fun e r1 H7 kn7 cG nz=>?_)
  ·refine⟨(key 0 v r1 H7 _ kn7 rfl).1,.inr ⟨Zz,fun H8 h8=>?_⟩⟩;have k:=(key 0 v r1 H7 H8 kn7 h8).2;have dB:H8 x9=.st [.sl true 1 [],.int .i64 0,.int .i64 v,.sl true 1 []]:=k.l 3 rfl;simp only[go_sem,TI,dB];intro H9 h9;have ho:=Qbu9 df;rw[sH,xu]at ho;exact mD _ _ ⟨0,v,r1,k.aB 3 rfl h9,cG,ho,rfl,rfl,rfl⟩
  ·refine⟨(key e 0 r1 H7 _ kn7 rfl).1,.inl ⟨e,rfl,fun H8 h8=>?_⟩⟩;have k:=(key e 0 r1 H7 H8 kn7 h8).2;have dB:H8 x9=.st [.sl true 1 [],.int .i64 0,.int .i64 0,.sl true 1 []]:=k.l 3 rfl;simp only[go_sem,TI,dB];intro H9 h9;have ho:=Qbpt nz;rw[sH,xu]at ho;exact mD _ _ ⟨e,0,r1,k.aB 3 rfl h9,cG,ho,rfl,rfl,rfl⟩
 clear kn aV;rintro e2 H6 ⟨e,v,r1,kn,cG,ho,l6,l8,l9⟩;have kn:Kn H H6 [] ([(x6,oO 0 0),(x8,.st [.ptr X.l 0]),(x9,oO e v)]++([(X.l,X.o r1)]++(r1.so++r1.tl))):=kn.perm (Qj fun f hf h0 hc hp=>by simp only[Rn.F,hf,h0];omega);obtain⟨Sf,wI,yQ,eS,kn2⟩:=kn.dh;have ib:=Qb15 cG wI;have aV:=yQ (x8,.st [.ptr X.l 0]) Zz;have rY:FrzH H6 Sf ((H6.frz Sf).set x8 (.st [.pp (X.pc r1)])):=eS.set aV.2 (by rw[aV.1];exact (FrzKL.cons rfl ib .nil).st);have kn:Kn H ((H6.frz Sf).set x8 (.st [.pp (X.pc r1)])) [] [(x6,oO 0 0),(x8,.st [.pp (X.pc r1)]),(x9,oO e v)]:=kn2.setL 1 rfl (by nofun);obtain⟨H7,hH7⟩:∃H7,(H6.frz Sf).set x8 (.st [.pp (X.pc r1)])=H7:=⟨_,rfl⟩;rw[hH7]at rY kn;refine Q1 (c_gh (e':=[(6,.c (.ptr x6 0)),(8,.c (.ptr x8 0)),(9,.c (.ptr x9 0))]) (H':=H7) (Et Sf (CO fun p hp=>?_) rY) ?_)
 ·simp only[Ja5,Ja1,or_false]at hp;rcases hp with rfl|rfl|rfl
  ·rw[l6];exact .c _ _ (.same _ rfl)
  ·rw[l8];exact .c _ _ (.same _ rfl)
  ·rw[l9];exact .c _ _ (.same _ rfl)
 have aV:H7 x8=.st [.pp (.sl X.fl 3 (Qk X.cs)::.int .i64 X.S::.int .i64 r1.u::.sl false 1 (Qb r1.s)::(Ao r1.c++[.sl false 1 (Qb r1.t)]))]:=kn.l 1 rfl;have am:=Xi r1.c (.sl false 1 (Qb r1.t)) 16 cG.c;have aK:=Qbtm r1.c (.sl false 1 (Qb r1.t)) 16 cG.c;have cm:=cG.c;refine Aj ?_;simp only[go_sem,aV,am,aK];refine⟨by simp only[LIM];omega,?_⟩;refine CS kn ZM fun t Lg H8 ao b8 kn=>?_;have aV:H8 x8=.st [.pp (.sl X.fl 3 (Qk X.cs)::.int .i64 X.S::.int .i64 r1.u::.sl false 1 (Qb r1.s)::(Ao r1.c++[.sl false 1 (Qb r1.t)]))]:=kn.l 1 rfl;have dB:H8 x9=.st [.sl true 1 [],.int .i64 e,.int .i64 v,.sl true 1 []]:=kn.l 2 rfl;simp only[go_sem,Quv,aV,dB];intro H9 h9;have kn:Kn H H9 [] ([(x6,oO 0 0),(x8,.st [.pp (X.pc r1)]),(x9,.st [.sl false 1 (Qb r1.s),.int .i64 e,.int .i64 v,.sl true 1 []])]++Lg):=kn.aB 2 rfl h9;have dB:H9 x9=.st [.sl false 1 (Qb r1.s),.int .i64 e,.int .i64 v,.sl true 1 []]:=kn.l 2 rfl;simp only[go_sem,Quu,dB];intro H10 cS;have kn:Kn H H10 [] ([(x6,oO 0 0),(x8,.st [.pp (X.pc r1)]),(x9,.st [.sl false 1 (Qb r1.s),.int .i64 e,.int .i64 v,t])]++Lg):=kn.aB 2 rfl cS;have aY:H10 x6=.st [.sl true 1 [],.int .i64 0,.int .i64 0,.sl true 1 []]:=kn.l 0 rfl;have aV:H10 x8=.st [.pp (.sl X.fl 3 (Qk X.cs)::.int .i64 X.S::.int .i64 r1.u::.sl false 1 (Qb r1.s)::(Ao r1.c++[.sl false 1 (Qb r1.t)]))]:=kn.l 1 rfl;have dB:H10 x9=.st [.sl false 1 (Qb r1.s),.int .i64 e,.int .i64 v,t]:=kn.l 2 rfl;refine Aj ?_;simp only[go_sem,aY,aV,dB,b8];intro H11 dY;have kn:Kn H H11 [] ([(x6,.st [.sl false 1 (Qb r1.s),.int .i64 e,.int .i64 v,t]),(x8,.st [.pp (X.pc r1)]),(x9,.st [.sl false 1 (Qb r1.s),.int .i64 e,.int .i64 v,t])]++Lg):=kn.aB 0 rfl dY;have aY:H11 x6=.st [.sl false 1 (Qb r1.s),.int .i64 e,.int .i64 v,t]:=kn.l 0 rfl;have aV:H11 x8=.st [.pp (.sl X.fl 3 (Qk X.cs)::.int .i64 X.S::.int .i64 r1.u::.sl false 1 (Qb r1.s)::(Ao r1.c++[.sl false 1 (Qb r1.t)]))]:=kn.l 1 rfl;simp only[go_sem,Quw,aV];refine Ql ?_;simp only[go_sem,Q6,Aa,J4,RS.op,aY,b8];refine⟨_,Ke (FrzL.ag (.cons (Qg rfl) (.cons (Qg rfl) (.cons (Qg rfl) (.cons (ao.frz kn (Qq _)) .nil))))) (.c _ _ (Qg rfl)),?_⟩;exact hK e v r1.s r1.c _ _ ho kn.fin
end Go.AE.Y
namespace Go.AE.Y
open Go.Proofs.Tryz
def Qt2:List Item:=[sJ 1 5 9]
def Qt3:List Item:=eI 5 (.alloc [.mnil])::Qt2
def Qapk:SC:=.reg [lJ 17 6,mJ 18 8,eI 19 (.ba (.t 17) [.t 18])] [5,6,11,12,13]
def Qapl:SC:=.reg [cJ 20 .add 13 1,mJ 13 20] [5,6,11,12,13]
def Qapm:SC:=.seq (.block 1 (sR [iJ 15 1 11 13,lJ 16 15,mJ 8 16] [5,6,8,11,12,13] Qapk)) Qapl
def Qajd:SC:=sR [bJ 14 .lss 13 12] [5,6,11,12,13,14] (cX 14 0 Qapm)
def Qt4:List Item:=[mJ 4 22]
def Qapn:SC:=sR (lJ 21 5::aJ 22 S5 [.t 21]::Qt4) [4] .ret
def Qapo:SC:=.seq (sR [mJ 11 0,nJ 12 11,zJ 13 0] [5,6,11,12,13] (bL 0 Qajd)) Qapn
def Qapp:SC:=sR [fI 10 (.mkf Su [.t 5,.t 3,.t 6]),sJ 1 6 10] [0,5,6] Qapo
def Qaja:SC:=sR [eI 6 (.alloc [.fnil])] [0,3,5,6] Qapp
def Qajb:SC:=sR (eI 9 (.mkm)::Qt3) [0,3,5] Qaja
def Qa1l:SC:=sR [vJ 3 1,fI 4 (.mv (.k (.c (.sl true 1 []))))] [0,3] Qajb
abbrev Q95:List RS:=[.tmp 4]
theorem Qaz8:mFn prog Ts 2 23 Qa1l Q95=true:=ZB
def Qkv:List Item:=[nJ 16 15,zJ 17 0]
def Q77:SC:=.reg [lJ 21 3,mJ 22 6,eI 23 (.ba (.t 21) [.t 22])] [3,15,16,17]
def Q78:SC:=.reg [cJ 24 .add 17 1,mJ 17 24] [3,15,16,17]
def Q79:SC:=.seq (.block 1 (sR [iJ 19 1 15 17,lJ 20 19,mJ 6 20] [3,6,15,16,17] Q77)) Q78
def Q4e:SC:=sR [bJ 18 .lss 17 16] [3,15,16,17,18] (cX 18 0 Q79)
def Q8a:SC:=sR (lJ 13 2::mJ 14 0::eI 15 (.ba (.t 13) [.t 14])::Qkv) [3,15,16,17] (bL 0 Q4e)
def Q8b:SC:=cT 10 (sR [lJ 11 1,mJ 12 0,.e none none (.upd 0 (.t 11) (.t 12) (.k (.c (.bool true))))] [0,2,3] Q8a) .skip
def Qajc:SC:=sR [lJ 7 1,mJ 8 0,fI 9 (.lup 0 (.c (.bool false)) (.t 7) (.t 8)),oJ 10 9] [0,1,2,3,10] Q8b
abbrev Va:List RS:=[]
theorem Qahm:mFn prog Su 4 25 Qajc Va=true:=ZB
def Qji:List Item:=[mJ 2 9]
def Q4f:SC:=sR (fJ 3 0 1::lJ 4 3::nJ 5 4::cJ 6 .sub 5 1::fI 7 (.aG 1 [.t 6])::fI 8 (.mkf Ip [.t 1])::aJ 9 Ts [.t 7,.t 8]::Qji) [2] .ret
def Qaea:SC:=sR [vJ 1 0,fI 2 (.mv (.k (.c (.sl true 1 []))))] [1] Q4f
abbrev Qph:List RS:=[.tmp 2]
theorem Qadh:mFn prog Vm 1 10 Qaea Qph=true:=ZB
def Qe0:List Item:=[sJ 3 4 9]
def Qe1:List Item:=[mJ 3 13]
def Qe2:List Item:=fI 12 (.mkf K5 [.t 4])::aJ 13 V7 [.t 11,.t 12]::Qe1
def Qt7:SC:=sR (tJ 10 3 4::aJ 11 Vi [.t 10]::Qe2) [3] .ret
def Qt8:SC:=sR (fJ 5 0 1::lJ 6 5::mJ 7 0::iJ 8 3 6 7::tJ 9 3 8::eI 4 (.alloc [.int .i64 0,.int .i64 0,.sl true 5 []])::Qe0) [4] Qt7
def Q1m:SC:=sR [fI 3 (.mv (.k (.c (.sl true 1 []))))] [0,1] Qt8
abbrev Qi4:List RS:=[.tmp 3]
theorem Q05:mFn prog Ip 2 14 Q1m Qi4=true:=ZB
def Qne:SC:=.seq (.aA 15 [0,1,2,3,4,5,6,7,8,9,10,11,12,13,14] ( fJ 4 2 1::lJ 5 4::mJ 6 0::fI 7 (.iad 1 (.t 6) (kI 0))::lJ 8 7::iJ 9 5 5 8::fJ 10 1 9::lJ 11 10::mJ 12 0::fI 13 (.iad 1 (.t 12) (kI 1))::lJ 14 13::iJ 15 4 11 14::fJ 16 3 15::lJ 17 16::mJ 3 17::[]) [3]) .ret
def Qra:SC:=sR [zJ 3 0] [0,1] Qne
abbrev Qez:List RS:=[.tmp 3]
theorem Qq8:mFn prog K5 2 18 Qra Qez=true:=ZB
def Qeq:List Item:=[mJ 5 19]
def Qer:List Item:=fI 18 (.aG 1 [.t 17])::xJ 19 1 14 18::Qeq
def Qrc:SC:=.reg (mJ 14 5::mJ 15 1::mJ 16 7::eI 17 (.ba (.t 15) [.t 16])::Qer) [1,5,8,9,10]
def Qrd:SC:=.reg [cJ 20 .add 10 1,mJ 10 20] [1,5,8,9,10]
def Qre:SC:=.seq (.block 1 (sR [iJ 12 1 8 10,lJ 13 12,mJ 7 13] [1,5,7,8,9,10] Qrc)) Qrd
def Qow:SC:=sR [bJ 11 .lss 10 9] [1,5,8,9,10,11] (cX 11 0 Qre)
def Qrf:SC:=sR [mJ 21 5,mJ 4 21] [4] .ret
def Qrg:SC:=.seq (sR [mJ 8 0,nJ 9 8,zJ 10 0] [1,5,8,9,10] (bL 0 Qow)) Qrf
def Qrh:SC:=sR [fI 5 (.mv (.k (.c (.sl true 1 []))))] [0,1,5] Qrg
def Qyb:SC:=sR [fI 4 (.mv (.k (.c (.sl true 1 []))))] [0,1] Qrh
abbrev Qg6:List RS:=[.tmp 4]
theorem Qx1:mFn prog V7 2 22 Qyb Qg6=true:=ZB
def Qjt:List Item:=[oJ 11 10]
def Q56:SC:=cT 11 (sR [mJ 12 3,mJ 2 12] [2] .ret) .skip
def Qju:List Item:=[mJ 4 16]
def Qjv:List Item:=[mJ 6 33]
def Q57:SC:=.reg [mJ 44 7,cJ 45 .add 44 1,mJ 7 45] [1,4,5,6,7]
def Q58:SC:=.seq (.block 3 (.aA 27 [0,1,2,3,4,5,6,7,8,9,10,11,12,13,14,15,16,17,18,19,20,21,22,23,24,25,26] ( mJ 46 4::fJ 47 0 1::lJ 48 47::mJ 49 5::iJ 50 3 48 49::fJ 51 2 50::lJ 52 51::mJ 53 6::mJ 54 7::iJ 55 1 53 54::lJ 56 55::fI 57 (.iad 1 (.t 56) (kI 0))::lJ 58 57::iJ 59 5 52 58::fJ 60 1 59::lJ 61 60::mJ 62 6::mJ 63 7::iJ 64 1 62 63::lJ 65 64::fI 66 (.iad 1 (.t 65) (kI 1))::lJ 67 66::iJ 68 4 61 67::fJ 69 3 68::lJ 70 69::iJ 71 1 46 70::.e none none (.sto 1 (.t 71) (.k (.c (.bool true))))::[]) [1,4,5,6,7])) Q57
def Q2w:SC:=.seq (sR [mJ 34 7,mJ 35 6,nJ 36 35,bJ 37 .lss 34 36,mJ 38 37,gTm 39 38 4,gTm 40 38 5,gT 41 38 (.iad 1 (.t 39) (.t 40)),gTl 42 38 41,pF 43 38 42] [1,4,5,6,7,43] (cT 43 .skip (.exit 2))) Q58
def Q59:SC:=sR [zJ 7 0] [1,4,5,6,7] (bL 2 Q2w)
def Q6a:SC:=.reg [mJ 29 5,cJ 30 .sub 29 1,mJ 5 30] [1,4,5]
def Q6b:SC:=.seq (.block 1 (sR (tJ 31 1 1::mJ 32 5::aJ 33 Sr [.t 31,.t 32]::Qjv) [1,4,5,6] Q59)) Q6a
def Qzb:SC:=.seq (sR [mJ 27 5,cJ 28 .geq 27 0] [1,4,5,28] (cT 28 .skip (.exit 0))) Q6b
def Qht:List Item:=[mJ 2 73]
def Q2q:SC:=sR (mJ 72 4::aJ 73 Q6w [.t 72]::Qht) [2] .ret
def Q2r:SC:=.seq (sR [fJ 23 0 1,lJ 24 23,nJ 25 24,cJ 26 .sub 25 1,mJ 5 26] [1,4,5] (bL 0 Qzb)) Q2q
def Q2s:SC:=sR [mJ 17 4,fJ 18 0 1,lJ 19 18,nJ 20 19,cJ 21 .sub 20 1,iJ 22 1 17 21,.e none none (.sto 1 (.t 22) (.k (.c (.bool true))))] [1,4] Q2r
def Q2t:SC:=sR (fJ 13 0 1::lJ 14 13::nJ 15 14::eI 16 (.mks 1 [.bool false] (.t 15))::Qju) [1,4] Q2s
def Q2u:SC:=.seq (sR (tJ 9 1 1::aJ 10 DC [.t 9]::Qjt) [1,3,11] Q56) Q2t
def Q2v:SC:=sR [fI 8 (.aG 1 []),mJ 3 8] [1,3] Q2u
def Qafl:SC:=sR [vJ 1 0,fI 2 (.mv (.k (.c (.sl true 1 []))))] [1] Q2v
abbrev Vf:List RS:=[.tmp 2]
theorem Qadk:mFn prog Vl 1 74 Qafl Vf=true:=ZB
def Qmx:List Item:=[fB 3 false]
def Qmy:List Item:=[oJ 7 6]
def Qmz:List Item:=[fB 3 false]
def Qadn:SC:=cT 7 (sR (fI 8 (.bld [.sl true 3 []] [])::sJ 1 2 8::Qmz) [2,3] .ret) .skip
def Qm0:List Item:=[sJ 1 4 10]
def Qm1:List Item:=eI 4 (.alloc [.sl true 1 []])::Qm0
def Qm2:List Item:=[fB 3 true]
def Qm3:List Item:=fI 14 (.bld [.sl true 3 []] [(0,1,.t 13)])::sJ 1 2 14::Qm2
def Qado:SC:=sR (lJ 11 4::fI 12 (.mkf K6 [.t 1,.t 4])::aJ 13 V6 [.t 11,.t 12]::Qm3) [2,3] .ret
def Qadp:SC:=sR (tJ 9 1 1::aJ 10 Vm [.t 9]::Qm1) [1,2,4] Qado
def Q7p:SC:=.seq (sR (tJ 5 1 1::aJ 6 GY [.t 5]::Qmy) [1,2,7] Qadn) Qadp
def Qao7:SC:=sR (vJ 1 0::eI 2 (.alloc [.sl true 3 []])::Qmx) [1,2] Q7p
abbrev T4:List RS:=[.cell 2 1 true,.tmp 3]
theorem Qaoq:mFn prog TX 1 15 Qao7 T4=true:=ZB
def Qha:List Item:=[sJ 3 5 14]
def Qhb:List Item:=eI 5 (.alloc [.int .i64 0,.int .i64 0,.sl true 5 []])::Qha
def Qhc:List Item:=[sJ 5 7 21]
def Qhd:List Item:=[hJ 36 35,iJ 46 4 36 37,fJ 47 3 46,sJ 1 47 45]
def Q1g:SC:=cT 34 (.aA 14 [0,1,2,3,4,5,6,7,8,9,10,1,11,12,13] ( fJ 35 1 7::lJ 36 35::mJ 37 8::lJ 38 2::fJ 39 1 7::lJ 40 39::mJ 41 8::iJ 42 4 40 41::fJ 43 3 42::lJ 44 43::aJ 45 HI [.t 38,.t 44]::Qhd) [2,4,5,7,16,17,18,24,25]) .skip
def Q1h:SC:=sR [fJ 28 1 7,lJ 29 28,mJ 30 8,iJ 31 4 29 30,fJ 32 0 31,lJ 33 32,cJ 34 .eql 33 14] [2,4,5,7,8,16,17,18,24,25,34] Q1g
def Q1i:SC:=.reg [cJ 48 .add 25 1,mJ 25 48] [2,4,5,7,16,17,18,24,25]
def Q1j:SC:=.seq (.block 3 (sR [mJ 27 25,mJ 8 27] [2,4,5,7,8,16,17,18,24,25] Q1h)) Q1i
def Qya:SC:=sR [bJ 26 .lss 25 24] [2,4,5,7,16,17,18,24,25,26] (cX 26 2 Q1j)
def Q1k:SC:=sR [fJ 22 1 7,lJ 23 22,nJ 24 23,zJ 25 0] [2,4,5,7,16,17,18,24,25] (bL 2 Qya)
def Qx5:SC:=.reg [cJ 49 .add 18 1,mJ 18 49] [2,4,5,16,17,18]
def Qx6:SC:=.seq (.block 1 (sR (iJ 20 5 16 18::tJ 21 5 20::eI 7 (.alloc [.sl true 2 [],.sl true 4 [],.int .i64 0,.int .i64 0,.sl true 1 []])::Qhc) [2,4,5,7,16,17,18] Q1k)) Qx5
def Qtr:SC:=sR [bJ 19 .lss 18 17] [2,4,5,16,17,18,19] (cX 19 0 Qx6)
def Qx7:SC:=sR [tJ 50 3 5,sJ 3 4 50] [4] .ret
def Qx8:SC:=.seq (sR [fJ 15 2 5,lJ 16 15,nJ 17 16,zJ 18 0] [2,4,5,16,17,18] (bL 0 Qtr)) Qx7
def Qx9:SC:=sR (fJ 9 0 1::lJ 10 9::mJ 11 0::iJ 12 3 10 11::tJ 13 3 12::aJ 14 TW [.t 13]::Qhb) [2,4,5] Qx8
def Q7q:SC:=sR [eI 4 (.alloc [.int .i64 0,.int .i64 0,.sl true 5 []])] [0,1,2,4] Qx9
abbrev Qml:List RS:=[.cell 4 3 true]
theorem Q69:mFn prog K6 3 51 Q7q Qml=true:=ZB
def Qes:List Item:=[mJ 5 19]
def Qet:List Item:=fI 18 (.aG 3 [.t 17])::xJ 19 3 14 18::Qes
def Qrk:SC:=.reg (mJ 14 5::mJ 15 1::mJ 16 7::eI 17 (.ba (.t 15) [.t 16])::Qet) [1,5,8,9,10]
def Qrl:SC:=.reg [cJ 20 .add 10 1,mJ 10 20] [1,5,8,9,10]
def Qrm:SC:=.seq (.block 1 (sR [iJ 12 1 8 10,lJ 13 12,mJ 7 13] [1,5,7,8,9,10] Qrk)) Qrl
def Qox:SC:=sR [bJ 11 .lss 10 9] [1,5,8,9,10,11] (cX 11 0 Qrm)
def Qrn:SC:=sR [mJ 21 5,mJ 4 21] [4] .ret
def Qro:SC:=.seq (sR [mJ 8 0,nJ 9 8,zJ 10 0] [1,5,8,9,10] (bL 0 Qox)) Qrn
def Qrp:SC:=sR [fI 5 (.mv (.k (.c (.sl true 3 []))))] [0,1,5] Qro
def Qyc:SC:=sR [fI 4 (.mv (.k (.c (.sl true 3 []))))] [0,1] Qrp
abbrev Qg7:List RS:=[.tmp 4]
theorem Qx2:mFn prog V6 2 22 Qyc Qg7=true:=ZB
def Qqk:List Item:=[gF 45 39 (.not (.t 44)),pT 46 39 45]
def Qamd:SC:=cT 46 (sR [fB 4 false] [4] .ret) .skip
def Qql:List Item:=[gF 81 67 (.not (.t 80)),pT 82 67 81]
def Qame:SC:=cT 82 (sR [fB 4 false] [4] .ret) .skip
def Qamf:SC:=.reg [mJ 52 5,cJ 53 .add 52 1,mJ 5 53] [2,3,5]
def Qamg:SC:=.seq (.block 1 (.seq (.aA 29 [0,1,2,3,4,5,6,7,8,9,10,11,12,13,14,15,16,17,18,19,20,21,22,23,24,25,26,27,28] ( fJ 54 0 2::lJ 55 54::mJ 56 5::iJ 57 2 55 56::fJ 58 0 57::lJ 59 58::fJ 60 0 3::lJ 61 60::mJ 62 5::iJ 63 2 61 62::fJ 64 0 63::lJ 65 64::bJ 66 .neq 59 65::mJ 67 66::gFf 68 67 0 2::gFl 69 67 68::gFm 70 67 5::gF 71 67 (.iad 2 (.t 69) (.t 70))::gFf 72 67 1 71::gFl 73 67 72::gFf 74 67 0 3::gFl 75 67 74::gFm 76 67 5::gF 77 67 (.iad 2 (.t 75) (.t 76))::gFf 78 67 1 77::gFl 79 67 78::.e (some 80) (some (67,false)) (.call Hm [.t 73,.t 79])::Qql) [2,3,5,82]) Qame)) Qamf
def Qafc:SC:=.seq (sR [mJ 47 5,fJ 48 0 2,lJ 49 48,nJ 50 49,bJ 51 .lss 47 50] [2,3,5,51] (cT 51 .skip (.exit 0))) Qamg
def Qqm:List Item:=[sJ 4 7 94]
def Qqn:List Item:=[sJ 4 8 99]
def Qqo:List Item:=[gF 125 119 (.not (.t 124)),pT 126 119 125]
def Qae3:SC:=cT 126 (sR [fB 4 false] [4] .ret) .skip
def Qae4:SC:=sR (fJ 100 0 7::lJ 101 100::fJ 102 0 8::lJ 103 102::bJ 104 .neq 101 103::mJ 105 104::gFf 106 105 1 7::gFl 107 105 106::gFf 108 105 1 8::gFl 109 105 108::gF 110 105 (.bin 0 .neq (.t 107) (.t 109))::pT 111 105 110::mJ 112 111::gFf 113 112 3 7::gFl 114 112 113::gFf 115 112 3 8::gFl 116 112 115::gF 117 112 (.bin 0 .neq (.t 114) (.t 116))::pT 118 112 117::mJ 119 118::gFf 120 119 2 7::gFl 121 119 120::gFf 122 119 2 8::gFl 123 119 122::.e (some 124) (some (119,false)) (.call Hm [.t 121,.t 123])::Qqo) [2,3,6,126] Qae3
def Qae5:SC:=sR (fJ 95 1 3::lJ 96 95::mJ 97 6::iJ 98 4 96 97::tJ 99 4 98::eI 8 (.alloc [.int .i64 0,.int .i64 0,.sl true 1 [],.int .i64 0])::Qqn) [2,3,6,7,8] Qae4
def Qae6:SC:=.reg [mJ 88 6,cJ 89 .add 88 1,mJ 6 89] [2,3,6]
def Qae7:SC:=.seq (.block 3 (sR (fJ 90 1 2::lJ 91 90::mJ 92 6::iJ 93 4 91 92::tJ 94 4 93::eI 7 (.alloc [.int .i64 0,.int .i64 0,.sl true 1 [],.int .i64 0])::Qqm) [2,3,6,7] Qae5)) Qae6
def Q8t:SC:=.seq (sR [mJ 83 6,fJ 84 1 2,lJ 85 84,nJ 86 85,bJ 87 .lss 83 86] [2,3,6,87] (cT 87 .skip (.exit 2))) Qae7
def Qae8:SC:=sR [fB 4 true] [4] .ret
def Qae9:SC:=.seq (sR [zJ 6 0] [2,3,6] (bL 2 Q8t)) Qae8
def Qafa:SC:=.seq (sR [zJ 5 0] [2,3,5] (bL 0 Qafc)) Qae9
def Qafb:SC:=.seq (sR (fJ 9 0 2::lJ 10 9::nJ 11 10::fJ 12 0 3::lJ 13 12::nJ 14 13::bJ 15 .neq 11 14::mJ 16 15::gFf 17 16 1 2::gFl 18 16 17::gF 19 16 (.len (.t 18))::gFf 20 16 1 3::gFl 21 16 20::gF 22 16 (.len (.t 21))::gF 23 16 (.bin 0 .neq (.t 19) (.t 22))::pT 24 16 23::mJ 25 24::gFf 26 25 2 2::gFl 27 25 26::gFf 28 25 2 3::gFl 29 25 28::gF 30 25 (.bin 0 .neq (.t 27) (.t 29))::pT 31 25 30::mJ 32 31::gFf 33 32 3 2::gFl 34 32 33::gFf 35 32 3 3::gFl 36 32 35::gF 37 32 (.bin 0 .neq (.t 34) (.t 36))::pT 38 32 37::mJ 39 38::gFf 40 39 4 2::gFl 41 39 40::gFf 42 39 4 3::gFl 43 39 42::.e (some 44) (some (39,false)) (.call Hm [.t 41,.t 43])::Qqk) [2,3,46] Qamd) Qafa
def Qaya:SC:=sR [vJ 2 0,vJ 3 1,fB 4 false] [2,3] Qafb
abbrev Q3t:List RS:=[.tmp 4]
theorem Qau6:mFn prog T7 2 127 Qaya Q3t=true:=ZB
def Qarl:SC:=cT 26 (sR [fB 4 false] [4] .ret) .skip
def Qwm:List Item:=[oJ 45 44]
def Qarm:SC:=cT 45 (sR [fB 4 false] [4] .ret) .skip
def Qarn:SC:=.reg [mJ 32 5,cJ 33 .add 32 1,mJ 5 33] [2,3,5]
def Qaro:SC:=.seq (.block 1 (.seq (.aA 12 [0,1,2,3,4,5,6,7,8,9,10,11] ( fJ 34 2 2::lJ 35 34::mJ 36 5::iJ 37 5 35 36::tJ 38 5 37::fJ 39 2 3::lJ 40 39::mJ 41 5::iJ 42 5 40 41::tJ 43 5 42::aJ 44 T7 [.t 38,.t 43]::Qwm) [2,3,5,45]) Qarm)) Qarn
def Qamh:SC:=.seq (sR [mJ 27 5,fJ 28 2 2,lJ 29 28,nJ 30 29,bJ 31 .lss 27 30] [2,3,5,31] (cT 31 .skip (.exit 0))) Qaro
def Qarp:SC:=sR [fB 4 true] [4] .ret
def Qarq:SC:=.seq (sR [zJ 5 0] [2,3,5] (bL 0 Qamh)) Qarp
def Qarr:SC:=.seq (sR [fJ 6 0 2,lJ 7 6,fJ 8 0 3,lJ 9 8,bJ 10 .neq 7 9,mJ 11 10,gFf 12 11 1 2,gFl 13 11 12,gFf 14 11 1 3,gFl 15 11 14,gF 16 11 (.bin 0 .neq (.t 13) (.t 15)),pT 17 11 16,mJ 18 17,gFf 19 18 2 2,gFl 20 18 19,gF 21 18 (.len (.t 20)),gFf 22 18 2 3,gFl 23 18 22,gF 24 18 (.len (.t 23)),gF 25 18 (.bin 0 .neq (.t 21) (.t 24)),pT 26 18 25] [2,3,26] Qarl) Qarq
def Qa60:SC:=sR [vJ 2 0,vJ 3 1,fB 4 false] [2,3] Qarr
abbrev Pp:List RS:=[.tmp 4]
theorem Qa0i:mFn prog Th 2 46 Qa60 Pp=true:=ZB
def Qbkv:SC:=cT 10 (sR [fB 4 false] [4] .ret) .skip
def Qbkw:SC:=cT 25 (sR [fB 4 false] [4] .ret) .skip
def Qbkx:SC:=.reg [mJ 15 5,cJ 16 .add 15 1,mJ 5 16] [0,1,5]
def Qbky:SC:=.seq (.block 1 (.seq (.aA 9 [0,1,2,3,4,5,6,7,8] ( mJ 17 0::mJ 18 5::iJ 19 1 17 18::lJ 20 19::mJ 21 1::mJ 22 5::iJ 23 1 21 22::lJ 24 23::bJ 25 .neq 20 24::[]) [0,1,5,25]) Qbkw)) Qbkx
def Qbdq:SC:=.seq (sR [mJ 11 5,mJ 12 0,nJ 13 12,bJ 14 .lss 11 13] [0,1,5,14] (cT 14 .skip (.exit 0))) Qbky
def Qbkz:SC:=sR [fB 4 true] [4] .ret
def Qbk0:SC:=.seq (sR [zJ 5 0] [0,1,5] (bL 0 Qbdq)) Qbkz
def Qbk1:SC:=.seq (sR [mJ 6 0,nJ 7 6,mJ 8 1,nJ 9 8,bJ 10 .neq 7 9] [0,1,10] Qbkv) Qbk0
def YA:SC:=sR [fB 4 false] [0,1] Qbk1
abbrev IV:List RS:=[.tmp 4]
theorem Qbuo:mFn prog Hm 2 26 YA IV=true:=ZB
def Qa7o:SC:=cT 10 (sR [fB 4 false] [4] .ret) .skip
def Qa7p:SC:=cT 24 (sR [fB 4 false] [4] .ret) .skip
def Qa7q:SC:=.seq (.aA 9 [0,1,2,3,4,5,6,7,8] ( mJ 16 0::mJ 17 5::iJ 18 1 16 17::lJ 19 18::mJ 20 1::mJ 21 5::iJ 22 1 20 21::lJ 23 22::bJ 24 .neq 19 23::[]) [0,1,12,13,24]) Qa7p
def Qa7r:SC:=.reg [cJ 25 .add 13 1,mJ 13 25] [0,1,12,13]
def Qa7s:SC:=.seq (.block 1 (sR [mJ 15 13,mJ 5 15] [0,1,5,12,13] Qa7q)) Qa7r
def Qayq:SC:=sR [bJ 14 .lss 13 12] [0,1,12,13,14] (cX 14 0 Qa7s)
def Qa7t:SC:=sR [fB 4 true] [4] .ret
def Qa7u:SC:=.seq (sR [mJ 11 0,nJ 12 11,zJ 13 0] [0,1,12,13] (bL 0 Qayq)) Qa7t
def Qa7v:SC:=.seq (sR [mJ 6 0,nJ 7 6,mJ 8 1,nJ 9 8,bJ 10 .neq 7 9] [0,1,10] Qa7o) Qa7u
def Qbl6:SC:=sR [fB 4 false] [0,1] Qa7v
abbrev Ll:List RS:=[.tmp 4]
theorem Qbjk:mFn prog RB 2 26 Qbl6 Ll=true:=ZB
def Qgv:List Item:=[sJ 1 2 5]
def Qgw:List Item:=aJ 5 Q61 [.t 4]::Qgv
def Qzc:SC:=sR (mJ 3 0::aJ 4 Q64 [.t 3]::Qgw) [2] .ret
def Q6c:SC:=sR [eI 2 (.alloc [.sl true 3 []])] [0,2] Qzc
abbrev Qkl:List RS:=[.cell 2 1 true]
theorem Q3g:mFn prog V1 1 6 Q6c Qkl=true:=ZB
def Qnl:List Item:=[fB 3 false]
def Qnm:List Item:=[oJ 13 12]
def Qnn:List Item:=[fB 3 false]
def Qafm:SC:=cT 13 (sR (fI 14 (.bld [.sl true 3 []] [])::sJ 1 2 14::Qnn) [2,3] .ret) .skip
def Qno:List Item:=[mJ 4 16]
def Qnp:List Item:=[sJ 1 5 17]
def Qnq:List Item:=[hJ 25 24,.chk 28 none (.iad 1 (.t 26) (.t 27)),hJ 29 28,.chk 30 none (.iad 3 (.t 25) (.t 29)),.chk 31 none (.ld 3 true (.t 30)),sJ 3 7 32]
def Qnr:List Item:=eI 7 (.alloc [.int .i64 0,.int .i64 0,.sl true 5 []])::Qnq
def Qns:List Item:=[kJ 71 64,fJ 72 3 71,sJ 1 72 70]
def Qafn:SC:=cT 63 (.reg (mJ 64 10::mJ 65 4::mJ 66 10::kJ 67 66::fJ 68 3 67::lJ 69 68::aJ 70 En [.t 65,.t 69]::Qns) [1,2,4,5,6,7,8,9]) .skip
def Q82:SC:=sR [mJ 59 10,kJ 60 59,fJ 61 0 60,lJ 62 61,cJ 63 .eql 62 14] [1,2,4,5,6,7,8,9,10,63] Qafn
def Q83:SC:=.reg [mJ 49 9,cJ 50 .add 49 1,mJ 9 50] [1,2,4,5,6,7,8,9]
def Q84:SC:=.seq (.block 5 (sR [fJ 51 2 7,lJ 52 51,mJ 53 8,iJ 54 5 52 53,fJ 55 1 54,lJ 56 55,mJ 57 9,iJ 58 4 56 57,mJ 10 58] [1,2,4,5,6,7,8,9,10] Q82)) Q83
def Q6d:SC:=.seq (sR [mJ 40 9,fJ 41 2 7,lJ 42 41,mJ 43 8,iJ 44 5 42 43,fJ 45 1 44,lJ 46 45,nJ 47 46,bJ 48 .lss 40 47] [1,2,4,5,6,7,8,9,48] (cT 48 .skip (.exit 4))) Q84
def Q85:SC:=.reg [mJ 38 8,cJ 39 .add 38 1,mJ 8 39] [1,2,4,5,6,7,8]
def Q86:SC:=.seq (.block 3 (sR [zJ 9 0] [1,2,4,5,6,7,8,9] (bL 4 Q6d))) Q85
def Q6e:SC:=.seq (sR [mJ 33 8,fJ 34 2 7,lJ 35 34,nJ 36 35,bJ 37 .lss 33 36] [1,2,4,5,6,7,8,37] (cT 37 .skip (.exit 2))) Q86
def Qk2:List Item:=[fJ 78 0 5,sJ 1 78 77]
def Q87:SC:=.reg (fJ 73 0 5::lJ 74 73::tJ 75 3 7::fI 76 (.aG 3 [.t 75])::xJ 77 3 74 76::Qk2) [1,2,4,5,6]
def Q88:SC:=.seq (sR [zJ 8 0] [1,2,4,5,6,7,8] (bL 2 Q6e)) Q87
def Q89:SC:=.reg [mJ 22 6,cJ 23 .add 22 1,mJ 6 23] [1,2,4,5,6]
def Q9a:SC:=.seq (.block 1 (.seq (.aA 9 [0,1,2,3,4,5,6,7,8,9,1,4,5,6,7,10] ( fJ 24 0 1::lJ 25 24::mJ 26 4::mJ 27 6::iJ 28 1 26 27::lJ 29 28::iJ 30 3 25 29::tJ 31 3 30::aJ 32 Eo [.t 31]::Qnr) [1,2,4,5,6,7]) Q88)) Q89
def Q6f:SC:=.seq (sR [mJ 18 6,mJ 19 4,nJ 20 19,bJ 21 .lss 18 20] [1,2,4,5,6,21] (cT 21 .skip (.exit 0))) Q9a
def Qk3:List Item:=[fB 3 true]
def Q9b:SC:=sR (tJ 79 1 5::sJ 1 2 79::Qk3) [2,3] .ret
def Q9c:SC:=.seq (sR [zJ 6 0] [1,2,4,5,6] (bL 0 Q6f)) Q9b
def Q9d:SC:=sR (fI 17 (.bld [.sl true 3 []] [])::eI 5 (.alloc [.sl true 3 []])::Qnp) [1,2,4,5] Q9c
def Q9e:SC:=sR (tJ 15 1 1::aJ 16 Vl [.t 15]::Qno) [1,2,4] Q9d
def Q9f:SC:=.seq (sR (tJ 11 1 1::aJ 12 DC [.t 11]::Qnm) [1,2,13] Qafm) Q9e
def Qasl:SC:=sR (vJ 1 0::eI 2 (.alloc [.sl true 3 []])::Qnl) [1,2] Q9f
abbrev Tz:List RS:=[.cell 2 1 true,.tmp 3]
theorem Qao1:mFn prog TN 1 80 Qasl Tz=true:=ZB
def Qafs:SC:=cT 12 (sR [fB 4 false] [4] .ret) .skip
def Qnx:List Item:=[oJ 31 30]
def Qaft:SC:=cT 31 (sR [fB 4 false] [4] .ret) .skip
def Qafu:SC:=.reg [mJ 18 5,cJ 19 .add 18 1,mJ 5 19] [2,3,5]
def Qafv:SC:=.seq (.block 1 (.seq (.aA 12 [0,1,2,3,4,5,6,7,8,9,10,11] ( fJ 20 0 2::lJ 21 20::mJ 22 5::iJ 23 3 21 22::tJ 24 3 23::fJ 25 0 3::lJ 26 25::mJ 27 5::iJ 28 3 26 27::tJ 29 3 28::aJ 30 Th [.t 24,.t 29]::Qnx) [2,3,5,31]) Qaft)) Qafu
def Q9h:SC:=.seq (sR [mJ 13 5,fJ 14 0 2,lJ 15 14,nJ 16 15,bJ 17 .lss 13 16] [2,3,5,17] (cT 17 .skip (.exit 0))) Qafv
def Qafw:SC:=sR [fB 4 true] [4] .ret
def Qafx:SC:=.seq (sR [zJ 5 0] [2,3,5] (bL 0 Q9h)) Qafw
def Qafy:SC:=.seq (sR [fJ 6 0 2,lJ 7 6,nJ 8 7,fJ 9 0 3,lJ 10 9,nJ 11 10,bJ 12 .neq 8 11] [2,3,12] Qafs) Qafx
def Qaso:SC:=sR [vJ 2 0,vJ 3 1,fB 4 false] [2,3] Qafy
abbrev Qzq:List RS:=[.tmp 4]
theorem Qao4:mFn prog Sp 2 32 Qaso Qzq=true:=ZB
end Go.AE.Y
namespace Go.AE.Y
attribute [local go_sem] cond_true cond_false Bool.not_true Bool.not_false
open Go.Proofs.Tryz
variable {H H0:Heap}{K:V→Heap→Prop}
theorem PH {f g:Bool}{ns:List Int}(hK:K (.c (.bool true)) H):Qs prog RB [.c (.sl f 1 (Qb ns)),.c (.sl g 1 (Qb ns))] H K:=by
 refine Qc Ab Qbjk ?_;refine Wj ?_;simp only[go_sem,Qf,decide_true];intro hl;try intro _
 simp only[LIM]at hl;refine Wu ?_ ?_
 ·intro h;simp at h
 intro _;refine Zd ?_
 refine Q1 (Qa ?_);simp only[go_sem,Qf];try intro _
 refine Qh (Qd (Qw (fun m e1 H1=>∃(i:Nat),m=ns.length-i∧i≤ns.length∧H1=H∧lk 0 e1=.c (.sl f 1 (Qb ns))∧lk 1 e1=.c (.sl g 1 (Qb ns))∧lk 12 e1=.c (.int .i64 ns.length)∧lk 13 e1=.c (.int .i64 i)) ns.length ?_ ?_))
 ·exact⟨0,Zx,Zx,rfl,rfl,rfl,rfl,rfl⟩
 ·rintro m e1 H1 ⟨i,hm,hi,rfl,l0,l1,l12,l13⟩;refine Qa ?_;simp only[go_sem,l0,l1,l12,l13];refine Wu ?_ ?_
  ·intro hc;have ae:i<ns.length:=ZA
   refine Zd ?_
   refine Wi ?_;refine Aj ?_;simp only[go_sem,ae,Qf,Qn _ _ ae,decide_true];refine Wv ?_ ?_
   ·intro h;simp at h
   intro _;refine Zd ?_
   refine Zh ?_;refine⟨Qr,?_⟩;show ∃m,_;exact⟨ns.length-(i+1),Zx,i+1,rfl,Zx,rfl,rfl,rfl,rfl,rfl⟩
  ·intro hc;refine Wc ?_;refine Zj ?_;exact hK
theorem Fv {f g:Bool}{ns:List Int}(hK:K (.c (.bool true)) H):Qs prog Hm [.c (.sl f 1 (Qb ns)),.c (.sl g 1 (Qb ns))] H K:=by
 refine Qc Ab Qbuo ?_;refine Wj ?_;simp only[go_sem,Qf,decide_true];intro hl;try intro _
 simp only[LIM]at hl;refine Wu ?_ ?_
 ·intro h;simp at h
 intro _;refine Zd ?_
 refine Wa ?_;try intro _
 refine Qh (Qd (Qw (fun m e1 H1=>∃(i:Nat),m=ns.length-i∧i≤ns.length∧H1=H∧lk 0 e1=.c (.sl f 1 (Qb ns))∧lk 1 e1=.c (.sl g 1 (Qb ns))∧lk 5 e1=.c (.int .i64 i)) ns.length ?_ ?_))
 ·exact⟨0,Zx,Zx,rfl,rfl,rfl,rfl⟩
 ·rintro m e1 H1 ⟨i,hm,hi,rfl,l0,l1,l5⟩;refine Q1 (Qa ?_);simp only[go_sem,l0,l1,l5,Qf];try intro _
  refine Wu ?_ ?_
  ·intro hc;have ae:i<ns.length:=ZA
   refine Zd ?_
   refine Qh (Qd ?_);refine Aj ?_;simp only[go_sem,ae,Qf,Qn _ _ ae,decide_true];refine Wv ?_ ?_
   ·intro h;simp at h
   intro _;refine Zd ?_
   refine Zh ?_;refine⟨Qr,?_⟩;show ∃m,_;exact⟨ns.length-(i+1),Zx,i+1,rfl,Zx,rfl,rfl,rfl,rfl⟩
  ·intro hc;refine Wc ?_;refine Zj ?_;exact hK
set_option maxHeartbeats 4000000 in
theorem Qaur {p:BlkD}(hK:∀H',Upd H H' []→K (.c (.bool true)) H'):Qs prog T7 [.ag p.cells,.ag p.cells] H K:=by
 refine Qx ?_;refine Qc Ab Qau6 ?_;refine Qa ?_;simp only[go_sem,BlkD.cells];refine Q1 (Qa ?_);simp only[go_sem,Q7,Ax,decide_true];intro yB wd;simp only[LIM]at yB wd;refine Fv ?_;simp only[go_sem,Qqk];refine Wu ?_ ?_
 ·intro h;simp at h
 intro _;refine Zd ?_
 refine Wa ?_;refine Qh (Qd (Qw (fun m e1 H1=>∃(i:Nat),m=p.aa.length-i∧i≤p.aa.length∧H1=H∧lk 2 e1=.c (.pp p.cells)∧lk 3 e1=.c (.pp p.cells)∧lk 5 e1=.c (.int .i64 i)) p.aa.length ?_ ?_))
 ·exact⟨0,Zx,Zx,rfl,rfl,rfl,rfl⟩
 ·rintro m e1 H1 ⟨i,hm,hi,rfl,l2,l3,l5⟩;simp only[BlkD.cells]at l2 l3;refine Q1 (Qa ?_);simp only[go_sem,l2,l3,l5,Q7];try intro _
  refine Wu ?_ ?_
  ·intro hc;have ae:i<p.aa.length:=ZA
   obtain⟨x,hx⟩:∃x,p.aa[i]=x:=⟨_,rfl⟩;refine Zd ?_
   refine Qh (Qd ?_);refine Aj ?_;simp only[go_sem,ae,Q7,BL _ _ ae,hx,PhiD.cells,decide_true];refine Fv ?_;simp only[go_sem,Qql];refine Wv ?_ ?_
   ·intro h;simp at h
   intro _;refine Zd ?_
   refine Zh ?_;refine⟨Qr,?_⟩;show ∃m,_;exact⟨p.aa.length-(i+1),Zx,i+1,rfl,Zx,rfl,rfl,rfl,rfl⟩
  ·intro hc;refine Zc ?_;refine Wa ?_;refine Qh (Qd (Qw (fun m e1 H2=>∃(i:Nat),m=p.ins.length-i∧i≤p.ins.length∧Kn H1 H2 [] []∧lk 2 e1=.c (.pp p.cells)∧lk 3 e1=.c (.pp p.cells)∧lk 6 e1=.c (.int .i64 i)) p.ins.length ?_ ?_))
   ·exact⟨0,Zx,Zx,.aq H1,rfl,rfl,rfl⟩
   ·clear l2 l3 l5;rintro m e1 H2 ⟨i,hm,hi,kn,l2,l3,l6⟩;simp only[BlkD.cells]at l2 l3;refine Q1 (Qa ?_);simp only[go_sem,l2,l3,l6,Ax];try intro _
    refine Wu ?_ ?_
    ·intro hc;have ae:i<p.ins.length:=ZA;obtain⟨x,hx⟩:∃x,p.ins[i]=x:=⟨_,rfl⟩;refine Zd ?_
     refine Wk ?_;simp only[go_sem,ae,Ax,B0 _ _ ae,hx,InsD.cells];intro x7 bC H3 h3;have kn:=kn.al bC h3;have bC:=kn.l 0 rfl;simp only[go_sem,Qqm,bC];intro H4 h4;have kn:Kn H1 H4 [] [(x7,.st x.cells)]:=kn.aB 0 rfl h4;refine Qa ?_;simp only[go_sem,ae,Ax,B0 _ _ ae,hx,InsD.cells];intro x8 aV H5 h5;have kn:=kn.al aV h5;have aV:=kn.l 1 rfl;simp only[go_sem,Qqn,aV];intro H6 h6;have kn:Kn H1 H6 [] [(x7,.st x.cells),(x8,.st x.cells)]:=kn.aB 1 rfl h6;have bC:H6 x7=.st x.cells:=kn.l 0 rfl;have aV:H6 x8=.st x.cells:=kn.l 1 rfl;refine Qa ?_;simp only[go_sem,bC,aV,InsD.cells,decide_true];refine Fv ?_;simp only[go_sem,Qqo];refine Wv ?_ ?_
     ·intro h;simp at h
     intro _;refine Zd ?_
     refine Zh ?_;refine⟨Qr,?_⟩;show ∃m,_;exact⟨p.ins.length-(i+1),Zx,i+1,rfl,Zx,Kn.drop (A:=[]) (B:=[(x7,_),(x8,_)]) kn,rfl,rfl,rfl⟩
    ·intro hc;refine Wc ?_;refine Zj ?_;exact⟨_,.c _ _ (Qg rfl),hK _ kn.fin⟩
set_option maxHeartbeats 1000000 in
theorem Qaz2 {p:CodeD}(hK:∀H',Upd H H' []→K (.c (.bool true)) H'):Qs prog Th [.ag p.cells,.ag p.cells] H K:=by
 refine Qx ?_;refine Qc Ab Qa0i ?_;refine Qa ?_;simp only[go_sem,CodeD.cells];refine Q1 (Qa ?_);simp only[go_sem,Qm,decide_true];intro hl;try intro _
 simp only[LIM]at hl;refine Wu ?_ ?_
 ·intro h;simp at h
 intro _;refine Zd ?_
 refine Wa ?_;refine Qh (Qd (Qw (fun m e1 H1=>∃(i:Nat),m=p.blocks.length-i∧i≤p.blocks.length∧Kn H H1 [] []∧lk 2 e1=.c (.pp [.int .i64 p.params,.int .i64 p.ab,.sl false 5 (Qo p.blocks)])∧lk 3 e1=.c (.pp [.int .i64 p.params,.int .i64 p.ab,.sl false 5 (Qo p.blocks)])∧lk 5 e1=.c (.int .i64 i)) p.blocks.length ?_ ?_))
 ·exact⟨0,Zx,Zx,.aq H,rfl,rfl,rfl⟩
 ·rintro m e1 H1 ⟨i,hm,hi,kn,l2,l3,l5⟩;refine Q1 (Qa ?_);simp only[go_sem,l2,l3,l5,Qm];try intro _
  refine Wu ?_ ?_
  ·intro hc;have ae:i<p.blocks.length:=ZA
   obtain⟨x,hx⟩:∃x,p.blocks[i]=x:=⟨_,rfl⟩;refine Zd ?_
   refine Qh (Qd ?_);refine Aj ?_;simp only[go_sem,ae,Qm,Q9 _ _ ae,hx,BlkD.cells];refine Qaur (p:=x) fun H2 hu=>?_;have kn:=kn.aw hu;simp only[go_sem,Qwm];refine Wv ?_ ?_
   ·intro h;simp at h
   intro _;refine Zd ?_
   refine Zh ?_;refine⟨Qr,?_⟩;show ∃m,_;exact⟨p.blocks.length-(i+1),Zx,i+1,rfl,Zx,kn,rfl,rfl,rfl⟩
  ·intro hc;refine Wc ?_;refine Zj ?_;exact⟨_,.c _ _ (Qg rfl),hK _ kn.fin⟩
set_option maxHeartbeats 1000000 in
theorem To {f g:Bool}{cs:List CodeD}(hK:∀H',Upd H H' []→K (.c (.bool true)) H'):Qs prog Sp [.ag [.sl f 3 (Qk cs)],.ag [.sl g 3 (Qk cs)]] H K:=by
 refine Qx ?_;refine Qc Ab Qao4 ?_;refine Wj ?_;simp only[go_sem,Q0,decide_true];intro hl;try intro _
 simp only[LIM]at hl;refine Wu ?_ ?_
 ·intro h;simp at h
 intro _;refine Zd ?_
 refine Wa ?_;refine Qh (Qd (Qw (fun m e1 H1=>∃(i:Nat),m=cs.length-i∧i≤cs.length∧Kn H H1 [] []∧lk 2 e1=.c (.pp [.sl f 3 (Qk cs)])∧lk 3 e1=.c (.pp [.sl g 3 (Qk cs)])∧lk 5 e1=.c (.int .i64 i)) cs.length ?_ ?_))
 ·exact⟨0,Zx,Zx,.aq H,rfl,rfl,rfl⟩
 ·rintro m e1 H1 ⟨i,hm,hi,kn,l2,l3,l5⟩;refine Q1 (Qa ?_);simp only[go_sem,l2,l3,l5,Q0];try intro _
  refine Wu ?_ ?_
  ·intro hc;have ae:i<cs.length:=ZA
   obtain⟨x,hx⟩:∃x,cs[i]=x:=⟨_,rfl⟩;refine Zd ?_
   refine Qh (Qd ?_);refine Aj ?_;simp only[go_sem,ae,Q0,Bc _ _ ae,hx,CodeD.cells];refine Qaz2 (p:=x) fun H2 hu=>?_;have kn:=kn.aw hu;simp only[go_sem,Qnx];refine Wv ?_ ?_
   ·intro h;simp at h
   intro _;refine Zd ?_
   refine Zh ?_;refine⟨Qr,?_⟩;show ∃m,_;exact⟨cs.length-(i+1),Zx,i+1,rfl,Zx,kn,rfl,rfl,rfl⟩
  ·intro hc;refine Wc ?_;refine Zj ?_;exact⟨_,.c _ _ (Qg rfl),hK _ kn.fin⟩
end Go.AE.Y
namespace Go.AE.Y
attribute [local go_sem] cond_true cond_false Bool.not_true Bool.not_false
attribute [local instance] Classical.propDecidable
open Go.Proofs.Tryz
variable {H H' H0:Heap}{K:V→Heap→Prop}{E A A' B Li:List (Nat×Obj)}{cs ds:List CodeD}{fl f2:Bool}{l:List Int}
def AW (cs:List CodeD):Int:=(Ai cs (cs.length-1)).params
theorem Q9z (h0:0<cs.length)(hK:K (.c (.int .i64 (AW cs))) H):Qs prog Ss [.ag [.sl fl 3 (Qk cs)]] H K:=by
 refine Qc Ab Qahn ?_;have ny:((cs.length:Int)-1)=((cs.length-1:Nat):Int):=Zx
 have ae:cs.length-1<cs.length:=Zx
 rw[AW,Cc ae]at hK;refine Wg ?_;simp only[go_sem,Q0,ny,ae,Bc _ _ ae,CodeD.cells];intro hl;simp only[LIM]at hl;refine⟨Qr,?_⟩;refine Zj ?_;exact hK
theorem Qbif {v:Int}(hK:K (.c (.bool (!(decide (0≤v)&&decide (v≤255))))) H):Qs prog Vc [.c (.int .i64 v)] H K:=by
 refine Qc Ab Qahj ?_;refine Wb ?_;refine K4 ?_;simp only[go_sem,Qkq];refine Zj ?_;exact hK
theorem Qbmt {n:Int}(hn:(l.length:Int)=n)(hb:byL l)(hK:K (.c (.bool true)) H):Qs prog Tt [.c (.sl f2 1 (Qb l)),.c (.int .i64 n)] H K:=by
 have hd:decide ((l.length:Int)=n)=true:=decide_eq_true hn;refine Qc Ab Qaz7 ?_;refine Wg ?_;simp only[go_sem,Qf,hd];try intro _
 refine So (p:=fun v=>!(decide (0≤v)&&decide (v≤255))) (.mk' _ _ _ _) rfl (fun x K' _ hk=>Qbif hk) ?_;have xk:(l.any fun v=>!(decide (0≤v)&&decide (v≤255)))=false:=by
  rw[List.any_eq_false];intro v hv;obtain⟨a,b⟩:=hb v hv;simp[a,b]
 rw[xk];simp only[go_sem,Qt1];refine Zj ?_;exact hK
theorem Qbmc {S:Nat}(aW:∀c∈cs,c.fits)(hg:Ah cs=true)(hl:(l.length:Int)=AW cs)(bB:byL l)(hS:S≤60000)(hK:∀H',Upd H H' []→K (.c (.bool true)) H') :
  Qs prog TA [.ag [.sl fl 3 (Qk cs)],.c (.sl f2 1 (Qb l)),.c (.int .i64 S)] H K:=by
 have h0:=(runW hg).ro.n;refine Qc Ab Qau1 ?_;refine Wb ?_;refine Sd aW fun H1 hu=>?_;rw[hg];simp only[go_sem,Qpw];refine Q9z h0 ?_;simp only[go_sem,Qpv];refine Qbmt hl bB ?_;simp only[go_sem,Qpu];refine C2 ?_;have hw:(decide ((0:Int)≤(S:Int))&&decide ((S:Int)≤60000))=true:=ZD
 rw[hw];simp only[go_sem,Qpt];refine Zj ?_;exact hK _ hu
def C1 (o:Int×Int×List Int×List Int):List C:=[.sl false 1 (Qb o.2.2.1),.int .i64 o.1,.int .i64 o.2.1,.sl false 1 (Qb o.2.2.2)]
theorem KQ {S:Nat}(aW:∀c∈cs,c.fits)(hg:Ah cs=true)(hl:(l.length:Int)=AW cs)(bB:byL l)(hS:S≤60000)(hK:∀H',Upd H H' []→K (.tup [.ag (C1 (outR cs l S)),.c (.bool true)]) H') :
  Qs prog RY [.ag [.sl fl 3 (Qk cs)],.c (.sl f2 1 (Qb l)),.c (.int .i64 S)] H K:=by
 refine Qx ?_;refine Qc Ab Qaz6 ?_;refine Za ?_;intro x6 aY H1 h1;have kn:Kn H H1 [] [(x6,oO 0 0)]:=(Kn.aq H).al aY h1;simp only[go_sem,Qtv];refine Wa ?_;refine Qbmc aW hg hl bB hS fun H2 hu=>?_;have kn:=kn.aw hu;simp only[go_sem,Qtw];refine Qh (Qe (c:=false) rfl (fun h=>by cases h) fun _=>?_);refine Zd ?_
 refine Za ?_;refine Qbp9 hg hl bB hS fun e v s c u H3 ho hu=>?_;have kn:=kn.aw hu;simp only[go_sem,Qtz,Ju,Jx];intro x8 aV H4 h4;have kn:Kn H H4 [] [(x6,oO 0 0),(x8,oO 0 0)]:=kn.al aV h4;have aV:H4 x8=.st [.sl true 1 [],.int .i64 0,.int .i64 0,.sl true 1 []]:=kn.l 1 rfl;simp only[go_sem,Qty,aV];intro H5 h5;have kn:Kn H H5 [] [(x6,oO 0 0),(x8,.st [.sl false 1 (Qb s),.int .i64 e,.int .i64 v,.sl false 1 (Qb c)])]:=kn.aB 1 rfl h5;have aV:H5 x8=.st [.sl false 1 (Qb s),.int .i64 e,.int .i64 v,.sl false 1 (Qb c)]:=kn.l 1 rfl;have aY:H5 x6=.st [.sl true 1 [],.int .i64 0,.int .i64 0,.sl true 1 []]:=kn.l 0 rfl;simp only[go_sem,Qtx];refine Zl aV aY ?_;intro H6 h6;have kn:Kn H H6 [] [(x6,.st [.sl false 1 (Qb s),.int .i64 e,.int .i64 v,.sl false 1 (Qb c)]),(x8,.st [.sl false 1 (Qb s),.int .i64 e,.int .i64 v,.sl false 1 (Qb c)])]:=kn.aB 0 rfl h6;have aY:H6 x6=.st [.sl false 1 (Qb s),.int .i64 e,.int .i64 v,.sl false 1 (Qb c)]:=kn.l 0 rfl;simp only[go_sem,Qt0];refine Ql ?_;simp only[go_sem,Q6,Aa,J4,RS.op,aY];refine⟨_,Ke (FrzL.ag (FrzL.same rfl)) (.c _ _ (Qg rfl)),?_⟩;have:=hK _ kn.fin;rw[ho]at this;exact this
theorem Qat5 {o:Int×Int×List Int×List Int}(hK:K (.c (.bool true)) H):Qs prog Vn [.ag (C1 o),.ag (C1 o)] H K:=by
 refine Qc Ab Qadf ?_;refine Qa ?_;simp only[go_sem,C1];refine Za ?_;refine PH ?_;simp only[go_sem,Qjb,decide_true];refine PH ?_;simp only[go_sem,Qja];refine Zj ?_;exact hK
set_option maxHeartbeats 2000000 in
theorem Qbh9 {S:Nat}(kN:∀c∈cs,c.fits)(iZ:∀c∈ds,c.fits)(gy:Ah cs=true)(dD:Ah ds=true)(iT:(l.length:Int)=AW cs)(ig:(l.length:Int)=AW ds)(bB:byL l)(hS:S≤60000)(hs:BV cs ds l S)
  (hK:∀H',Upd H H' []→K (.c (.bool true)) H'):Qs prog TC [.ag [.sl fl 3 (Qk cs)],.ag [.sl fl 3 (Qk ds)],.c (.sl f2 1 (Qb l)),.c (.int .i64 S)] H K:=by
 refine Qx ?_;refine Qc Ab Qauw ?_;refine Wb ?_;refine KQ kN gy iT bB hS fun H1 hu=>?_;have kn:=(Kn.aq H).aw hu;obtain⟨o,ho⟩:∃o,outR cs l S=o:=⟨_,rfl⟩;rw[ho];simp only[go_sem,Qpm,Ju,Jx];intro x9 dB H2 h2;have kn:Kn H H2 [] [(x9,oO 0 0)]:=kn.al dB h2;have dB:H2 x9=.st [.sl true 1 [],.int .i64 0,.int .i64 0,.sl true 1 []]:=kn.l 0 rfl;simp only[go_sem,Qpl,dB,C1];intro H3 h3;have kn:Kn H H3 [] [(x9,.st (C1 o))]:=kn.aB 0 rfl h3;simp only[go_sem,Qpk];refine Za ?_;refine KQ (S:=60000) iZ dD ig bB Zx fun H4 hu=>?_;have kn:=kn.aw hu;obtain⟨p,hp⟩:∃p,outR ds l 60000=p:=⟨_,rfl⟩;rw[hp];simp only[go_sem,Qpp,Ju,Jx];intro x11 dN H5 h5;have kn:Kn H H5 [] [(x9,.st (C1 o)),(x11,oO 0 0)]:=kn.al dN h5;have dN:H5 x11=.st [.sl true 1 [],.int .i64 0,.int .i64 0,.sl true 1 []]:=kn.l 1 rfl;simp only[go_sem,Qpo,dN,C1];intro H6 h6;have kn:Kn H H6 [] [(x9,.st (C1 o)),(x11,.st (C1 p))]:=kn.aB 1 rfl h6;have dB:H6 x9=.st [.sl false 1 (Qb o.2.2.1),.int .i64 o.1,.int .i64 o.2.1,.sl false 1 (Qb o.2.2.2)]:=kn.l 0 rfl;have dN:H6 x11=.st [.sl false 1 (Qb p.2.2.1),.int .i64 p.1,.int .i64 p.2.1,.sl false 1 (Qb p.2.2.2)]:=kn.l 1 rfl;simp only[go_sem,Qpn];refine Qa ?_;have eB:∀H',Kn H H' [] [(x9,.st (C1 o)),(x11,.st (C1 p))]→unK H K (.c (.bool true)) H':=fun H' k=>⟨_,.c _ _ (Qg rfl),hK _ k.fin⟩;rw[BV,ho,hp]at hs;rcases hs with hs|hs
 ·have hd:decide (o.1=3)=true:=decide_eq_true hs;simp only[go_sem,dB,dN,hd,Sq];refine Zj ?_;exact eB _ kn
 ·subst hs;by_cases h3:o.1=3
  ·have hd:decide (o.1=3)=true:=decide_eq_true h3;simp only[go_sem,dB,dN,hd,Sq];refine Zj ?_;exact eB _ kn
  ·have hd:decide (o.1=3)=false:=decide_eq_false h3;simp only[go_sem,dB,dN,hd];refine Qat5 (o:=o) ?_;simp only[go_sem,Sq];refine Zj ?_;exact eB _ kn
def tryC:List C:=Ao [0,0,0,1,2,3,255,16,7]
def tryL (j:Nat):List Int:=([[0,0,0],[1,2,3],[255,16,7]]:List (List Int)).getD j []
def triL (n:Nat):List (List C):=(List.range 3).map fun j=>[.sl false 1 (Qb ((tryL j).take n))]
theorem Iq {j:Nat}(h:j<3):(tryL j).length=3:=by
 have:j=0∨j=1∨j=2:=Zx
 rcases this with rfl|rfl|rfl <;> rfl
theorem Qb2t {j:Nat}(h:j<3):byL (tryL j):=by
 have:j=0∨j=1∨j=2:=Zx
 intro v hv;rcases this with rfl|rfl|rfl <;> (simp[tryL]at hv;rcases hv with rfl|rfl|rfl <;> exact⟨Zx,Zx⟩)
theorem Y7 {j:Nat}(h:j<3):(tryC.drop (j * 3)).take 3=Ao (tryL j):=by
 have:j=0∨j=1∨j=2:=Zx
 rcases this with rfl|rfl|rfl <;> rfl
theorem Qbtn (l:List Int)(n:Nat):((Ao l).take n).map (fun c=>[c])=Qb (l.take n):=by simp only[Ao,Qb,List.map_take,Jaf];rfl
theorem KH (l:List Int):ak (Ao l)=true:=by simp[ak,Ao,C.ah]
theorem It {S:Nat→Bool}{n:Nat}:∀(rs:List (C×List (Nat×Obj))) (k:Nat),(∀j (h:j<rs.length),Gr rs[j].2 1 (Qb ((tryL (k+j)).take n)) rs[j].1)→(∀p∈rs.flatMap Prod.snd,H p.1=p.2∧S p.1=true)→
  FrzR H S (rs.map fun p=>[p.1]) ((List.range' k rs.length).map fun j=>[.sl false 1 (Qb ((tryL j).take n))])
 |[],k,_,_=>.nil
 |p::rs,k,h,hm=>by
  refine .cons (.cons (Gr.frzM (h 0 Zz) (fun q hq=>hm q (by rw[J7];exact Jk _ hq)) (FrzR.same (Qq _))) .nil) ?_;exact It rs (k+1) (fun j hj=>by
   have:=h (j+1) ZU;rw[show k+(j+1)=k+1+j by omega]at this;exact this) fun q hq=>hm q (by
    rw[J7];exact Jh _ hq)
set_option maxHeartbeats 4000000 in
theorem Qbsh {n:Nat}(dX:H 0=.gl 0 tryC)(hn:n≤3)(hK:∀H',Upd H H' []→K (.c (.sl false 1 (triL n))) H'):Qs prog Tl [.c (.int .i64 n)] H K:=by
 refine Qx ?_;refine Qc Ab Qa0b ?_;have bx:H 0≠.none:=by rw[dX];nofun
 have lH:tryC.length=9:=rfl;have tg:tryC.take 9=tryC:=rfl;refine Wq ?_;simp only[go_sem,dX,lH,tg];refine Qh (Qd (Qw (fun m e1 H1=>∃(i:Nat) (t:C) (Lg:List (Nat×Obj)) (rs:List (C×List (Nat×Obj))),m=3-i∧i≤3∧rs.length=i∧(∀p∈rs,p.1.ah=false)∧Gr Lg 1 (rs.map fun p=>[p.1]) t∧(∀j (h:j<rs.length),Gr rs[j].2 1 (Qb ((tryL j).take n)) rs[j].1)∧Kn H H1 [] (rs.flatMap Prod.snd++Lg)∧
  lk 0 e1=.c (.int .i64 n)∧lk 3 e1=.c t∧lk 6 e1=.ag tryC∧lk 7 e1=.c (.int .i64 i)) 3 ?_ ?_))
 ·exact⟨0,_,[],[],rfl,Zx,rfl,Zz,.nil 1,Zz,.aq H,rfl,rfl,rfl,rfl⟩
 ·rintro m e1 H1 ⟨i,t,Lg,rs,hm,hi,dQ,b8,ao,qg,kn,l0,l3,l6,l7⟩;have bp:=ao.ah;refine Qa ?_;simp only[go_sem,l0,l3,l6,l7];refine Wu ?_ ?_
  ·intro hc;have ae:i<3:=by have:(i:Int)<3:=of_decide_eq_true hc;omega
   have ru:=Y7 ae;have jX:=Iq ae;have dH:(Ao (tryL i)).length=3:=by rw[Ao,Jg,jX]
   refine Zd ?_
   refine Qh (Qd ?_);refine Zl lH ru ?_;refine⟨Zx,?_⟩;intro x5 bf H2 h2;have kn:=kn.al bf h2;have bf:H2 x5=.st [.int .i64 0,.int .i64 0,.int .i64 0]:=(kn.get (x5,.st [.int .i64 0,.int .i64 0,.int .i64 0]) Zz).1;simp only[go_sem,Qvj,bf,dH];intro H3 h3;have kn:Kn H H2 [] ([(x5,.st [.int .i64 0,.int .i64 0,.int .i64 0])]++(rs.flatMap Prod.snd++Lg)):=kn.perm Jt;have kn:Kn H H3 [] ([(x5,.st (Ao (tryL i)))]++(rs.flatMap Prod.snd++Lg)):=kn.aB 0 rfl (by rw[h3];simp[jX]);have kn:Kn H H3 [] ((rs.flatMap Prod.snd++Lg)++[(x5,.st (Ao (tryL i)))]):=kn.perm Jt;obtain⟨Sf,wI,yQ,eS,kn2⟩:=kn.dh;obtain⟨kN,iZ⟩:=wI (x5,.st (Ao (tryL i))) Zz;obtain⟨H4,z6⟩:∃H4,H3.frz Sf=H4:=⟨_,rfl⟩;refine c_gh (e':=[(0,.c (.int .i64 n)),(3,.c t),(5,.c (.pp (Ao (tryL i)))),(6,.ag tryC),(7,.c (.int .i64 i))]) (H':=H4) (by
    rw[←z6];refine Qbni Sf (CO fun p hp=>?_);simp only[Ja5,Ja1,or_false]at hp;rcases hp with rfl|rfl|rfl|rfl|rfl
    ·exact .c _ _ (.same _ rfl)
    ·exact .c _ _ (.same _ bp)
    ·exact .c _ _ (FrzL.ptr iZ kN (FrzL.same (KH _)))
    ·exact (FrzL.same (KH _)).ag
    ·exact .c _ _ (.same _ rfl)) ?_
   rw[z6]at kn2;refine Qp ?_;have bT:=Qbtn (tryL i) n;simp only[go_sem,dH,bT];refine⟨⟨⟨Zx,Zx⟩,by simp only[LIM];omega⟩,?_⟩;have pL:((tryL i).take n).length≤LIM:=by rw[J0,jX];simp only[LIM];omega
   refine CS kn2 pL fun t2 Lg2 H5 dD ca kn=>?_;simp only[go_sem,Qvl];have kn:Kn H H5 [] ((rs.flatMap Prod.snd++Lg2)++Lg):=kn.perm (Qj fun f hf h0 hc hp=>by simp only[hf];omega);refine kn.bg (new:=[[t2]]) ao (.mk' _ _ _ _) (by simp[ak,ca]) (by simp only[Jg,dQ,LIM,Jn,Jl];omega) fun t3 Lg3 H6 wF ox kn=>?_;simp only[go_sem,Qvk];refine Zh ?_;refine⟨Qr,?_⟩;show ∃m,_;refine⟨3-(i+1),Zx,i+1,t3,Lg3,rs++[(t2,Lg2)],rfl,Zx,by simp[dQ],?_,?_,?_,?_,rfl,rfl,rfl,rfl⟩
   ·intro p hp;rcases Jq.1 hp with hp|hp
    ·exact b8 p hp
    ·rw[Jb]at hp;subst hp;exact ca
   ·rw[Jp];exact wF
   ·intro j hj;rw[J2]at hj;by_cases cj:j<rs.length
    ·rw[List.getElem_append_left cj];exact qg j cj
    ·have iW:j=i:=(by simp at hj;omega);subst iW;rw[List.getElem_append_right Zx];simp only[dQ,Jat,List.getElem_cons_zero];exact dD
   ·rw[Jaw];simpa using kn
  ·intro hc;have bd:i=3:=by
    have:¬((i:Int)<3):=of_decide_eq_false hc;omega
   refine Wc ?_;refine Zj ?_;have hz:=It (H:=H1) (S:=un H) (n:=n) rs 0 (by simpa using qg) fun p hp=>⟨(kn.get p (by simp only[Jac];exact Jk _ hp)).1,BN (kn.loc p (Jk _ hp))⟩;rw[dQ,bd]at hz;exact⟨_,.c _ _ (ao.frzR kn hz),hK _ kn.fin⟩
theorem Qay9 (dX:H 0=.gl 0 tryC)(aW:∀c∈cs,c.fits)(hg:Ah cs=true)(hK:∀H',Upd H H' []→K (.c (.sl false 1 (triL (AW cs).toNat))) H'):Qs prog Vd [.ag [.sl fl 3 (Qk cs)]] H K:=by
 have hw:=runW hg;have h0:=hw.ro.n;obtain⟨p0,p3,_⟩:=hw.par (cs.length-1) Zx;have bx:H 0≠.none:=by rw[dX];nofun
 obtain⟨n,hn⟩:∃n:Nat,AW cs=n:=⟨(AW cs).toNat,by rw[AW];omega⟩;have tA:n≤3:=by rw[AW]at hn;omega
 rw[hn]at hK;refine Qc Ab Qahi ?_;refine Wf ?_;refine Sd aW fun H1 hu=>?_;have kn:=(Kn.aq H).aw hu;rw[hg];simp only[go_sem,Qkn];refine Qh (Qe (c:=false) rfl (fun h=>by cases h) fun _=>?_);refine Zd ?_
 refine Za ?_;refine Q9z h0 ?_;rw[hn];simp only[go_sem,Qkp];refine Qbsh ZaD tA fun H2 ee=>?_;have kn:=kn.aw ee;simp only[go_sem,Qko];refine Zj ?_;exact hK _ kn.upd
end Go.AE.Y
namespace Go.AE.Y
attribute [local go_sem] cond_true cond_false Bool.not_true Bool.not_false
attribute [local instance] Classical.propDecidable
open Go.Proofs.Tryz
variable {H H0:Heap}{K:V→Heap→Prop}{fl:Bool}{cs ds:List CodeD}
def Qb0e:SC:=(.cond (.t 12) (.seq (.reg (
  .f (some 2) none (.mv (.k (.c (.bool true))))::
  []) [2]) .ret) .skip)
def IL:List Item:=
  .e none none (.sto 1 (.t 3) (.t 14))::
  []
def IK:List Item:=
  .e (some 3) none (.alloc [.sl true 3 []])::
  IL
def IJ:List Item:=
  .f (some 5) none (.mv (.t 19))::
  []
def II:List Item:=
  .e none none (.sto 1 (.t 4) (.t 18))::
  IJ
def IH:List Item:=
  .f (some 15) none (.mv (.t 17))::
  .f (some 18) none (.ext (.t 15) 0)::
  .f (some 19) none (.ext (.t 15) 1)::
  .e (some 4) none (.alloc [.sl true 3 []])::
  II
def IG:List Item:=
  .f (some 7) none (.mv (.t 24))::
  []
def IF:List Item:=
  .e none none (.sto 1 (.t 6) (.t 23))::
  IG
def IE:List Item:=
  .f (some 20) none (.mv (.t 22))::
  .f (some 23) none (.ext (.t 20) 0)::
  .f (some 24) none (.ext (.t 20) 1)::
  .e (some 6) none (.alloc [.sl true 3 []])::
  IF
def Fh:List Item:=
  .f (some 32) (some (28,false)) (.not (.t 31))::
  .f (some 33) none (.pick (.t 28) (.k (.c (.bool true))) (.t 32))::
  .f (some 34) none (.mv (.t 33))::
  .f (some 35) (some (34,false)) (.mv (.t 5))::
  .f (some 36) (some (34,false)) (.not (.t 35))::
  .f (some 37) none (.pick (.t 34) (.k (.c (.bool true))) (.t 36))::
  []
def PB:List Item:=
  .f (some 45) none (.pick (.t 41) (.t 44) (.k (.c (.bool false))))::
  .f (some 2) none (.mv (.t 45))::
  []
def Yx:SC:=(.cond (.t 37) (.seq (.reg (
  .f (some 38) none (.mv (.t 5))::
  .f (some 39) none (.mv (.t 7))::
  .f (some 40) none (.bin 1 .eql (.t 38) (.t 39))::
  .f (some 41) none (.mv (.t 40))::
  .f (some 42) (some (41,true)) (.ld 1 true (.t 4))::
  .f (some 43) (some (41,true)) (.ld 1 true (.t 6))::
  .e (some 44) (some (41,true)) (.call Sp [.t 42,.t 43])::
  PB) [2]) .ret) .skip)
def PA:List Item:=
  .f (some 48) none (.len (.t 47))::
  .f (some 49) none (.mv (.k (.c (.int .i64 0))))::
  []
def P9:List Item:=
  .f (some 57) none (.not (.t 56))::
  []
def Yw:SC:=(.cond (.t 57) (.seq (.reg (
  .f (some 2) none (.mv (.k (.c (.bool false))))::
  []) [2]) .ret) .skip)
def Yv:SC:=(.seq (.reg (
  .f (some 53) none (.ld 1 true (.t 3))::
  .f (some 54) none (.ld 1 true (.t 4))::
  .f (some 55) none (.mv (.t 9))::
  .e (some 56) none (.call TC [.t 53,.t 54,.t 55,.k (.c (.int .i64 800))])::
  P9) [3,4,47,48,49,57]) Yw)
def Yu:SC:=(.reg (
  .f (some 58) none (.bin 0 .add (.t 49) (.k (.c (.int .i64 1))))::
  .f (some 49) none (.mv (.t 58))::
  []) [3,4,47,48,49])
def Yt:SC:=(.seq (.block 1 (.seq (.reg (
  .f (some 51) none (.iad 1 (.t 47) (.t 49))::
  .f (some 52) none (.ld 1 false (.t 51))::
  .f (some 9) none (.mv (.t 52))::
  []) [3,4,9,47,48,49]) Yv)) Yu)
def Qbr0:SC:=(.seq (.reg (
  .f (some 50) none (.bin 0 .lss (.t 49) (.t 48))::
  []) [3,4,47,48,49,50]) (.seq (.cond (.t 50) .skip (.exit 0)) Yt))
def P8:List Item:=
  .f (some 2) none (.mv (.t 60))::
  []
def Ys:SC:=(.seq (.reg (
  .f (some 59) none (.ld 1 true (.t 4))::
  .e (some 60) none (.call GY [.t 59])::
  P8) [2]) .ret)
def Yr:SC:=(.seq (.seq (.reg (
  .f (some 46) none (.ld 1 true (.t 3))::
  .e (some 47) none (.call Vd [.t 46])::
  PA) [3,4,47,48,49]) (.block 0 (.loop Qbr0))) Ys)
def Yq:SC:=(.seq (.seq (.reg (
  .f (some 25) none (.mv (.t 5))::
  .f (some 26) none (.mv (.t 7))::
  .f (some 27) none (.bin 1 .neq (.t 25) (.t 26))::
  .f (some 28) none (.mv (.t 27))::
  .f (some 29) (some (28,false)) (.ld 1 true (.t 4))::
  .f (some 30) (some (28,false)) (.ld 1 true (.t 6))::
  .e (some 31) (some (28,false)) (.call Sp [.t 29,.t 30])::
  Fh) [3,4,5,6,7,37]) Yx) Yr)
def Yp (sp:Nat):SC:=(.seq (.reg (
  .f (some 21) none (.ld 1 true (.t 3))::
  .e (some 22) none (.call sp [.t 21])::
  IE) [3,4,5,6,7]) Yq)
def Yo (im sp:Nat):SC:=(.seq (.reg (
  .f (some 16) none (.ld 1 true (.t 3))::
  .e (some 17) none (.call im [.t 16])::
  IH) [3,4,5]) (Yp sp))
def Yn (dr im sp:Nat):SC:=(.seq (.reg (
  .f (some 13) none (.mv (.t 0))::
  .e (some 14) none (.call dr [.t 13])::
  IK) [3]) (Yo im sp))
def Ym (dr im sp:Nat):SC:=(.seq (.seq (.reg (
  .f (some 10) none (.mv (.t 0))::
  .f (some 11) none (.len (.t 10))::
  .f (some 12) none (.bin 0 .gtr (.t 11) (.k (.c (.int .i64 1048576))))::
  []) [0,12]) Qb0e) (Yn dr im sp))
def Qb3u (dr im sp:Nat):SC:=(.seq (.reg (
  .f (some 2) none (.mv (.k (.c (.bool false))))::
  []) [0]) (Ym dr im sp))
abbrev E7:List RS:=[.tmp 2]
theorem Is (n:Nat):(triL n).length=3:=by simp[triL]
theorem Qb0q (n:Nat){i:Nat}(h:i<3):(triL n).getD i []=[.sl false 1 (Qb ((tryL i).take n))]:=by
 have:i=0∨i=1∨i=2:=Zx
 rcases this with rfl|rfl|rfl <;> rfl
theorem IZ {i n:Nat}(h:i<3)(hn:n≤3):((tryL i).take n).length=n:=by rw[J0,Iq h];omega
theorem Qb0r {i n:Nat}(h:i<3):byL ((tryL i).take n):=fun v hv=>Qb2t h v (List.mem_of_mem_take hv)
set_option maxHeartbeats 8000000 in
theorem Qbqa {f dr im sp:Nat}{P:List CodeD→List CodeD→Prop}{G:List CodeD→Bool}{bs:List UInt8}(hm:mFn prog f 1 61 (Qb3u dr im sp) E7=true)
  (pA:∀(bs:List UInt8) (H:Heap) (K:V→Heap→Prop),(∀cs H',Upd H H' []→UnitOk cs→K (.ag [.sl false 3 (Qk cs)]) H')→Qs prog dr [.c (.sl false 1 (AT bs))] H K)
  (wy:∀(cs:List CodeD) (H:Heap) (K:V→Heap→Prop),(∀c∈cs,c.fits)→(∀ds H',P cs ds→Upd H H' []→K (.tup [.ag [.sl false 3 (Qk ds)],.c (.bool (G cs))]) H')→Qs prog im [.ag [.sl false 3 (Qk cs)]] H K)
  (hsp:∀(cs:List CodeD) (H:Heap) (K:V→Heap→Prop),(∀c∈cs,c.fits)→(∀ds H',P cs ds→Upd H H' []→K (.tup [.ag [.sl false 3 (Qk ds)],.c (.bool (G cs))]) H')→Qs prog sp [.ag [.sl false 3 (Qk cs)]] H K)
  (om:∀cs ds ds',P cs ds→P cs ds'→ds=ds') (sh:∀cs ds,(∀c∈cs,c.fits)→P cs ds→∀c∈ds,c.fits)
  (hG:∀cs ds,P cs ds→G cs=true→Ah cs=true∧Ah ds=true∧AW ds=AW cs∧∀l,BV cs ds l 800)
  (dX:H 0=.gl 0 tryC) (hK:∀H',K (.c (.bool true)) H'):Qs prog f [.c (.sl false 1 (AT bs))] H K:=by
 refine Qc Ab hm ?_;have bx:H 0≠.none:=by rw[dX];nofun
 have retT':∀(e:Env) (H':Heap),lk 2 e=.c (.bool true)→Q6 E7 K .ret e H':=by
  intro e H' h2;simp only[go_sem,Q6,Aa,Jb,forall_eq,RS.op,h2];exact hK H'
 refine Wj ?_;simp only[go_sem,C9];intro _;refine Qh (Qe rfl (fun hc=>?_) (fun hc=>?_))
 ·refine Za ?_;refine Ql ?_;exact retT' _ _ rfl
 refine Zd ?_
 refine Za ?_;refine pA bs _ _ fun cs H1 hu au=>?_;have aW:=au.fits;have kn:=(Kn.aq H).aw hu;simp only[go_sem,IK];intro x3 aP H2 h2;have kn:=kn.al aP h2;have aP:=kn.l 0 rfl;simp only[go_sem,IL,aP];intro H3 h3;have kn:Kn H H3 [] [(x3,.st [.sl false 3 (Qk cs)])]:=kn.aB 0 rfl h3;have aP:=kn.l 0 rfl;refine Zi aP ?_;refine wy cs _ _ aW fun ds H4 iH hu=>?_;have tL:=sh cs ds aW iH;have kn:=kn.aw hu;simp only[go_sem,IH,Ju,Jx];intro x4 br H5 h5;have kn:=kn.al br h5;have br:=kn.l 1 rfl;simp only[go_sem,II,br];intro H6 h6;have kn:Kn H H6 [] [(x3,.st [.sl false 3 (Qk cs)]),(x4,.st [.sl false 3 (Qk ds)])]:=kn.aB 1 rfl h6;have aP:=kn.l 0 rfl;simp only[go_sem,IJ];refine Zi aP ?_;refine hsp cs _ _ aW fun ds' H7 wK hu=>?_;obtain rfl:=om cs ds ds' iH wK;have kn:=kn.aw hu;simp only[go_sem,IE,Ju,Jx];intro x6 aY H8 h8;have kn:=kn.al aY h8;have aY:=kn.l 2 rfl;simp only[go_sem,IF,aY];intro H9 h9;have kn:Kn H H9 [] [(x3,.st [.sl false 3 (Qk cs)]),(x4,.st [.sl false 3 (Qk ds)]),(x6,.st [.sl false 3 (Qk ds)])]:=kn.aB 2 rfl h9;have br:=kn.l 1 rfl;have aY:=kn.l 2 rfl;simp only[go_sem,IG];refine Q1 ?_
 cases hg:G cs with
 |false=>
  refine Zl br aY ?_;refine To fun H10 hu=>?_;have kn:=kn.aw hu;have br:=kn.l 1 rfl;have aY:=kn.l 2 rfl;simp only[go_sem,Fh];refine Wu ?_ ?_
  ·intro _;refine Zl br aY ?_;refine To fun H11 hu=>?_;simp only[go_sem,PB];refine Ql ?_;exact retT' _ _ rfl
  ·intro h;simp at h
 |true=>
  obtain⟨gy,dD,hmp,cV⟩:=hG cs ds iH hg;refine Zl br aY ?_;refine To fun H10 hu=>?_;have kn:=kn.aw hu;simp only[go_sem,Fh];refine Wu ?_ ?_
  ·intro h;simp at h
  intro _;refine Zd ?_
  have kn:Kn H H10 [] [(x3,.st [.sl false 3 (Qk cs)]),(x4,.st [.sl false 3 (Qk ds)])]:=Kn.drop (A:=[_,_]) (B:=[_]) kn;have aP:=kn.l 0 rfl;refine Q1 (Qa ?_);simp only[go_sem,aP];refine Qay9 ZaD aW gy fun H11 hu=>?_;have kn:=kn.aw hu;obtain⟨p0,p3,_⟩:=(runW gy).par (cs.length-1) (by have:=(runW gy).ro.n;omega);obtain⟨n,hn⟩:∃n:Nat,AW cs=n:=⟨(AW cs).toNat,by rw[AW];omega⟩;have tA:n≤3:=by rw[AW]at hn;omega
  rw[hn,Int.toNat_natCast];simp only[go_sem,PA,Is];try intro _
  refine Qh (Qd (Qw (fun mm e1 H1=>∃(i:Nat),mm=3-i∧i≤3∧Kn H H1 [] [(x3,.st [.sl false 3 (Qk cs)]),(x4,.st [.sl false 3 (Qk ds)])]∧
   lk 3 e1=.c (.ptr x3 0)∧lk 4 e1=.c (.ptr x4 0)∧lk 47 e1=.c (.sl false 1 (triL n))∧lk 48 e1=.c (.int .i64 3)∧lk 49 e1=.c (.int .i64 i)) 3 ?_ ?_))
  ·exact⟨0,Zx,Zx,kn,rfl,rfl,rfl,rfl,rfl⟩
  ·clear kn aP br aY;rintro mm e1 H12 ⟨i,dV,hi,kn,l3,l4,l47,l48,l49⟩;have aP:=kn.l 0 rfl;have br:=kn.l 1 rfl;refine Qa ?_;simp only[go_sem,l3,l4,l47,l48,l49];refine Wu ?_ ?_
   ·intro bF;have ae:i<3:=(by have:(i:Int)<3:=of_decide_eq_true bF;omega);refine Zd ?_
    refine Wk ?_;simp only[go_sem,ae,Is,Qb0q n ae];refine Zl aP br ?_;refine Qbh9 (S:=800) aW tL gy dD (by rw[IZ ae tA,hn]) (by rw[IZ ae tA,hmp,hn]) (Qb0r ae) Zx (cV _) fun H13 hu=>?_;have kn:=kn.aw hu;simp only[go_sem,P9];refine Qe (c:=false) rfl (fun h=>by cases h) fun _=>?_;refine Zd ?_
    refine Zh ?_;refine⟨Qr,?_⟩;show ∃m,_;exact⟨3-(i+1),Zx,i+1,rfl,Zx,kn,rfl,rfl,rfl,rfl,rfl⟩
   ·intro bF;refine Zc ?_;refine Zi br ?_;refine Sd tL fun H13 hu=>?_;rw[dD];simp only[go_sem,P8];refine Ql ?_;exact retT' _ _ rfl
end Go.AE.Y
namespace Go.AE.Y
attribute [local go_sem] cond_true cond_false Bool.not_true Bool.not_false
open Go.Proofs.Tryz
variable {H H0:Heap}{K:V→Heap→Prop}{E B Lg:List (Nat×Obj)}
theorem OBlk.row_eq (o:OBlk):o.row=[o.pc,o.ic,.int .i64 o.jump,.int .i64 o.on,.af o.nx.y 1 0 o.nx.ns.length]:=rfl
def OBlk.rest (o:OBlk):List (Nat×Obj):=o.aa.flatMap OPhi.lg++(o.pl++(o.ins.flatMap OIns.lg++o.il))
theorem OBlk.lg_eq (o:OBlk):o.lg=[(o.nx.y,.vec 1 (Qb o.nx.ns))]++o.rest:=rfl
theorem KBlk.row_eq (b:KBlk):b.row=[b.pc,.sl false 4 (Af b.y.ins),.int .i64 b.y.jump,.int .i64 b.y.on,.sl false 1 (Qb b.y.next)]:=rfl
structure PkS (q:CodeD)(P:List Int)(l:List Nat)(i:Nat)(ks:List KBlk):Prop where
 n:ks.length=l.length
 b:∀j (h:j<ks.length),PkB q P (l.getD j 0) ks[j].y
 ok:∀b∈ks,b.ok
 a:∀j (h:j<ks.length),j<i→∀p∈ks[j].y.aa,PkA q P l j p
 u:∀j (h:j<ks.length),i≤j→ks[j].y.aa=(Ad q (l.getD j 0)).aa
theorem Ej {α β:Type}{f:α→List β}:∀{l:List α} {i:Nat} (h:i<l.length),(l.flatMap f).Perm (f l[i]++(l.eraseIdx i).flatMap f)
 |[],i,h=>ZF
 |x::l,0,h=>Zz
 |x::l,i+1,h=>by
  have:=Ej (f:=f) (l:=l) (i:=i) ZI;simp only[J7,List.getElem_cons_succ,List.eraseIdx_cons_succ];refine (List.Perm.append_left _ this).trans ?_;rw[←Jaj,←Jaj];exact List.Perm.append_right _ Jt
theorem vslc {H:Heap}{z sz n:Nat}{rows:List (List C)}(h:H z=.vec sz rows)(hn:n=rows.length):Slc H sz rows (.af z sz 0 n):=by
 subst hn;exact⟨by simp only[bh,h,Jf,Jj,and_self],rfl,by simp only[rowsOf,h,Jai,Ja2],rfl⟩
variable {q:CodeD}{P:List Int}{l:List Nat}{ks:List KBlk}
theorem PkS.step {i:Nat}(hS:PkS q P l i ks)(hi:i<ks.length){ph:List PhiD}{pl:List (Nat×Obj)}(h1:ph.map PhiD.to=(Ad q (l.getD i 0)).aa.map PhiD.to)(h2:∀p∈ph,PkA q P l i p)(hg:Gr pl 2 (Ae ph) ks[i].pc) :
  PkS q P l (i+1) (ks.set i ⟨⟨ph,ks[i].y.ins,ks[i].y.jump,ks[i].y.on,ks[i].y.next⟩,ks[i].pc,pl⟩):=by
 have hb:=hS.b i hi;refine⟨by rw[Jo];exact hS.n,fun j h=>?_,fun w hw=>?_,fun j h hj=>?_,fun j h hj=>?_⟩
 ·have h':j<ks.length:=ZI
  rw[Jaa];split
  ·rename_i e;subst e;exact⟨hb.j,hb.o,hb.i,hb.n,h1⟩
  ·exact hS.b j h'
 ·rcases Jv hw with h|rfl
  ·exact hS.ok w h
  ·exact hg
 ·have h':j<ks.length:=ZI
  rw[Jaa];split
  ·rename_i e;subst e;exact h2
  ·exact hS.a j h' Zx
 ·have h':j<ks.length:=ZI
  rw[Jaa];split
  ·omega
  ·exact hS.u j h' Zx
theorem PkS.rows {i:Nat}{ph:List PhiD}{pl:List (Nat×Obj)}(hi:i<ks.length):(ks.set i ⟨⟨ph,ks[i].y.ins,ks[i].y.jump,ks[i].y.on,ks[i].y.next⟩,ks[i].pc,pl⟩).map KBlk.row=ks.map KBlk.row:=by
 rw[Jz];have:(KBlk.mk ⟨ph,ks[i].y.ins,ks[i].y.jump,ks[i].y.on,ks[i].y.next⟩ ks[i].pc pl).row=(ks.map KBlk.row)[i]'ZV:=by simp[KBlk.row,kRow]
 rw[this,Jas]
set_option maxHeartbeats 8000000 in
theorem Qbpv {H0 H:Heap}{E:List (Nat×Obj)}{Q:X→Env→Heap→Prop}{e:Env}{fl fl2:Bool}{x4 x6 zb:Nat}{ks0:List KBlk}(ho:q.ok)(hp:Pk q l)(hP:CE q.blocks.length l P)(hS:PkS q P l 0 ks0)
  (kn:Kn H0 H E ([(x4,.st [.int .i64 0,.int .i64 0,.sl true 5 []]),(x6,.st [.int .i64 q.params,.int .i64 q.ab,.af zb 5 0 l.length]),(zb,.vec 5 (ks0.map KBlk.row))]++ks0.flatMap KBlk.pl))
  (l1:lk 1 e=.c (.sl fl2 1 (Q5 l))) (l2:lk 2 e=.c (.pp [.int .i64 q.params,.int .i64 q.ab,.sl fl 5 (Qo q.blocks)])) (l4:lk 4 e=.c (.ptr x4 0)) (l6:lk 6 e=.c (.ptr x6 0))
  (hQ:∀(e:Env) (H':Heap) (ks:List KBlk),PkS q P l l.length ks→Kn H0 H' E ([(x4,.st [.int .i64 q.params,.int .i64 q.ab,.af zb 5 0 l.length]),(x6,.st [.int .i64 q.params,.int .i64 q.ab,.af zb 5 0 l.length]),(zb,.vec 5 (ks.map KBlk.row))]++ks.flatMap KBlk.pl)→
   lk 4 e=.c (.ptr x4 0)→Q .ret e H'):Ac prog OX Q e H:=by
 have bj:=ho.b1;have qp:=hp.n;obtain⟨X4,zj⟩:∃o,o=Obj.st [.int .i64 0,.int .i64 0,.sl true 5 []]:=⟨_,rfl⟩;obtain⟨X6,nF⟩:∃o,o=Obj.st [.int .i64 q.params,.int .i64 q.ab,.af zb 5 0 l.length]:=⟨_,rfl⟩;rw[←zj,←nF]at kn;refine Q1 (Qa ?_);simp only[go_sem,l1,l2,l4,l6];refine Qh (Qd (Qw (fun m e1 H1=>∃(i:Nat) (ks:List KBlk),m=l.length-i∧i≤l.length∧PkS q P l i ks∧
  Kn H0 H1 E ([(x4,X4),(x6,X6),(zb,.vec 5 (ks.map KBlk.row))]++ks.flatMap KBlk.pl)∧
  lk 1 e1=.c (.sl fl2 1 (Q5 l))∧lk 2 e1=.c (.pp [.int .i64 q.params,.int .i64 q.ab,.sl fl 5 (Qo q.blocks)])∧lk 4 e1=.c (.ptr x4 0)∧lk 6 e1=.c (.ptr x6 0)∧lk 10 e1=.c (.int .i64 i)) l.length ?_ ?_))
 ·exact⟨0,ks0,Zx,Zx,hS,kn,rfl,rfl,rfl,rfl,rfl⟩
 ·clear kn hS l1 l2 l4 l6;rintro m e1 H1 ⟨i,ks,hm,hi,hS,kn,l1,l2,l4,l6,l10⟩;have cO:=hS.n;refine Q1 (Qa ?_);simp only[go_sem,l1,l2,l4,l6,l10,Qz];try intro _
  refine Wu ?_ ?_
  ·intro hc;have ae:i<l.length:=ZA
   have nu:i<ks.length:=Zx
   obtain⟨b,hb⟩:∃b,l[i]=b:=⟨_,rfl⟩;have qv:b∈l:=by rw[←hb];exact Jd ae
   have dt:=hp.lt b qv;have bG:l.getD i 0=b:=by simp[Ja,ae,hb]
   obtain⟨kb,gr⟩:∃kb,ks[i]=kb:=⟨_,rfl⟩;have me:Gr kb.pl 2 (Ae kb.y.aa) kb.pc:=by rw[←gr];exact hS.ok _ (Jd nu)
   have hkbB:PkB q P b kb.y:=by have:=hS.b i nu;rw[bG,gr]at this;exact this
   have rQ:kb.y.aa=(Ad q b).aa:=by have:=hS.u i nu (Jj _);rw[bG,gr]at this;exact this
   have cD:=ho.bs b dt;have ck:=ho.il b dt;rw[←AA dt]at cD ck;obtain⟨R,hR⟩:∃R,(ks.eraseIdx i).flatMap KBlk.pl=R:=⟨_,rfl⟩;have iY:(ks.flatMap KBlk.pl).Perm (kb.pl++R):=by rw[←hR,←gr];exact Ej nu
   obtain⟨RW,lq⟩:∃RW,ks.map KBlk.row=RW:=⟨_,rfl⟩;have bt:RW.length=l.length:=by rw[←lq,Jg,cO]
   have bm:RW.getD i []=[kb.pc,.sl false 4 (Af kb.y.ins),.int .i64 kb.y.jump,.int .i64 kb.y.on,.sl false 1 (Qb kb.y.next)]:=by
    rw[←lq,Ja];simp only[J8,Je nu,gr,Jad,Jap];exact kb.row_eq
   have b9:RW.take l.length=RW:=Jc Zx;rw[lq]at kn;have aY:H1 x6=X6:=(kn.get (x6,X6) Zz).1;rw[nF]at aY;refine Zd ?_
   refine Qh (Qd ?_);refine Aj ?_;simp only[go_sem,ae,Qz,AU _ _ ae,bG];refine Eg (nx:=gnx q) (.mk' _ _ _ _) rfl (Do H1 q fl).x fun H2 hu=>?_;have kn:=kn.aw hu;simp only[go_sem,Q4t,Qm];obtain⟨olds,em⟩:∃o,Am (gnx q) (b:Int) q.blocks.length=o:=⟨_,rfl⟩;rw[em];have aY:H2 x6=X6:=(kn.get (x6,X6) Zz).1;rw[nF]at aY;have cp:H2 zb=.vec 5 RW:=(kn.get (zb,.vec 5 RW) Zz).1;refine Zi aY ?_;refine Eg (nx:=pkN q P l) (vslc cp bt.symm) rfl (fun j hj=>?_) fun H3 hu=>?_
   ·have cw:j<ks.length:=Zx;have cj:j<l.length:=Zx;have yK:=hS.b j cw;rw[(hp.get cj).1]at yK;refine⟨ks[j].pc,.sl false 4 (Af ks[j].y.ins),.int .i64 ks[j].y.jump,.int .i64 ks[j].y.on,false,?_⟩;rw[←lq,Ja];simp only[J8,Je cw,Jad,Jap];rw[EK cj,←yK.n];exact KBlk.row_eq _
   have kn:=kn.aw hu;rw[bt];obtain⟨news,rB⟩:∃o,Am (pkN q P l) (i:Int) l.length=o:=⟨_,rfl⟩;rw[rB];have ce:news.length≤l.length:=by rw[←rB];exact El _ _ _
   simp only[go_sem,Q4u];refine Za ?_;have kn:Kn H0 H3 E (([(x4,X4),(x6,X6),(zb,.vec 5 RW)]++R)++kb.pl):=kn.perm (Qj fun f hf h0 hc hp=>by
    have:=hp _ _ iY;simp only[hf]at this⊢;omega)
   refine Qd (Qw (fun m e1 H1=>∃(k:Nat) (ph:List PhiD) (pl:List (Nat×Obj)),m=ph.length-k∧k≤ph.length∧ph.map PhiD.to=(Ad q b).aa.map PhiD.to∧(∀j (h:j<ph.length),j<k→PkA q P l i ph[j])∧(∀j,k≤j→ph[j]? = (Ad q b).aa[j]?)∧Gr pl 2 (Ae ph) kb.pc∧
    Kn H0 H1 E (([(x4,X4),(x6,X6),(zb,.vec 5 RW)]++R)++pl)∧
    lk 1 e1=.c (.sl fl2 1 (Q5 l))∧lk 2 e1=.c (.pp [.int .i64 q.params,.int .i64 q.ab,.sl fl 5 (Qo q.blocks)])∧lk 4 e1=.c (.ptr x4 0)∧lk 6 e1=.c (.ptr x6 0)∧lk 10 e1=.c (.int .i64 i)∧lk 11 e1=.c (.sl false 1 (Qb olds))∧lk 12 e1=.c (.sl false 1 (Qb news))∧lk 13 e1=.c (.int .i64 k)) kb.y.aa.length ?_ ?_)
   ·exact⟨0,kb.y.aa,kb.pl,Zx,Zx,by rw[rQ],fun j h hj=>Zx,fun j _=>by rw[rQ],me,kn,rfl,rfl,rfl,rfl,rfl,rfl,rfl,rfl⟩
   ·clear kn aY cp iY hu l1 l2 l4 l6 l10;rintro m2 e2 H4 ⟨k,ph,pl,eo,hk,iO,vy,yu,ao,kn,l1,l2,l4,l6,l10,l11,l12,l13⟩;have lN:ph.length=(Ad q b).aa.length:=(by have:=congrArg List.length iO;simpa using this);have aY:H4 x6=X6:=(kn.get (x6,X6) Zz).1;rw[nF]at aY;have cp:H4 zb=.vec 5 RW:=(kn.get (zb,.vec 5 RW) Zz).1;have dC:=ao.ah;have gN:=eq_true (ao.get kn).1;have eF:=ao.ay;rw[Q7]at eF;refine Q1 (Qa ?_);simp only[go_sem,l1,l2,l4,l6,l10,l11,l12,l13,aY,cp,bt,b9,bm,ae,dC,gN,eF,Jf,Jj];try intro _
    refine Wu ?_ ?_
    ·intro aC;have aT:k<ph.length:=ZC;obtain⟨z,ib,dH⟩:∃z,kb.pc=.af z 2 0 ph.length∧pl=[(z,.vec 2 (Ae ph))]:=by
      rcases ao with ⟨_,h,_⟩|⟨y,h1,h2⟩
      ·have:=congrArg List.length h;rw[Q7]at this;simp only[Jl]at this;omega
      ·exact⟨y,by rw[h1,Q7],h2⟩
     rw[ib]at bm;rw[dH]at kn;clear dC gN eF;obtain⟨p,vu⟩:∃p,ph[k]=p:=⟨_,rfl⟩;have gk:p∈(Ad q b).aa:=by
      have h1:=yu k (Jj _);rw[Je aT,vu]at h1;exact J6 h1.symm
     have rx:p.args.length=olds.length:=(by rw[←em];exact cD.pal p gk);have oM:=cD.pargs p gk;have rk:(Ae ph).take ph.length=Ae ph:=Jc (by rw[Q7];omega);have lO:(Ae ph).getD k []=[.int .i64 p.to,.sl false 1 (Qb p.args)]:=(by rw[BL _ _ aT,vu];rfl);refine Zd ?_
     refine Qh (Qd ?_);refine Wf ?_;refine Qh (Qd (Qw (fun m e1 H1=>∃(j:Nat) (av:List Int) (t:C) (Lg:List (Nat×Obj)),m=news.length-j∧j≤news.length∧av.length=j∧(∀v∈av,rIn q v)∧Gr Lg 1 (Qb av) t∧
      Kn H0 H1 E (([(x4,X4),(x6,X6),(zb,.vec 5 RW)]++R++[(z,.vec 2 (Ae ph))])++Lg)∧
      lk 1 e1=.c (.sl fl2 1 (Q5 l))∧lk 2 e1=.c (.pp [.int .i64 q.params,.int .i64 q.ab,.sl fl 5 (Qo q.blocks)])∧lk 4 e1=.c (.ptr x4 0)∧lk 6 e1=.c (.ptr x6 0)∧lk 10 e1=.c (.int .i64 i)∧lk 11 e1=.c (.sl false 1 (Qb olds))∧lk 12 e1=.c (.sl false 1 (Qb news))∧lk 13 e1=.c (.int .i64 k)∧
      lk 14 e1=.c t∧lk 15 e1=.c (.int .i64 j)) news.length ?_ ?_))
     ·exact⟨0,[],_,[],Zx,Zx,rfl,Zz,.nil 1,ZH,rfl,rfl,rfl,rfl,rfl,rfl,rfl,rfl,rfl,rfl⟩
     ·clear kn aY cp l1 l2 l4 l6 l10 l11 l12 l13;rintro m3 e3 H5 ⟨j,av,t,Lg,nq,hj,mA,zf,n7,kn,l1,l2,l4,l6,l10,l11,l12,l13,l14,l15⟩;have bp:=n7.ah;refine Q1 (Qa ?_);simp only[go_sem,l1,l2,l4,l6,l10,l11,l12,l13,l14,l15,Qf];try intro _
      refine Wu ?_ ?_
      ·intro bI;have bk:j<news.length:=ZL;have y4:news[j]∈Am (pkN q P l) (i:Int) l.length:=(by rw[rB];exact Jd bk);obtain⟨j',cw,y5,eX⟩:=hp.preds ho hP ae y4;rw[hb,em]at eX;have wC:news.getD j 0=(j':Int):=(by rw[←y5];simp[Ja,bk]);have wB:l.getD j' 0=l[j']:=(by simp[Ja,cw]);have aY:H5 x6=X6:=(kn.get (x6,X6) Zz).1;rw[nF]at aY;have cp:H5 zb=.vec 5 RW:=(kn.get (zb,.vec 5 RW) Zz).1;have hz:H5 z=.vec 2 (Ae ph):=(kn.get (z,.vec 2 (Ae ph)) Zz).1;refine Zd ?_
       refine Wr ?_;simp only[go_sem,aY,cp,hz,bt,b9,bm,ae,aT,rk,lO,Q7,bk,Qf,Qn _ _ bk,wC,cw,Qz,AU _ _ cw,wB,Jf,Jj];refine CN (ns:=olds) (.mk' _ _ _ _) rfl fun r hr=>?_;obtain⟨a,ra,dM,_⟩:∃a:Nat,r=(a:Int)∧a<olds.length∧True:=by
        rcases hr with ⟨_,hn⟩|⟨a,h1,h2,_⟩
        ·exact absurd eX hn
        ·exact⟨a,h1,h2,trivial⟩
       have pP:a<p.args.length:=Zx;have wA:p.args.getD a 0∈p.args:=GH pP;simp only[go_sem,Q4w,ra,aY,cp,hz,bt,b9,bm,ae,aT,rk,lO,Q7,pP,Qf,Qn _ _ pP,Jf,Jj];refine kn.bg (new:=Qb [p.args.getD a 0]) n7 (.mk' _ _ _ _) (Qq _) Zat fun t2 Lg2 H6 po ca kn=>?_;simp only[go_sem,Q4v];refine Zh ?_;refine⟨Qr,?_⟩;show ∃m,_;refine⟨news.length-(j+1),Zx,j+1,av++[p.args.getD a 0],t2,Lg2,rfl,Zx,by simp[mA],fun v hv=>?_,by rw[Cb];exact po,kn,rfl,rfl,rfl,rfl,rfl,rfl,rfl,rfl,rfl,Zy⟩;rcases Jq.1 hv with hv|hv
       ·exact zf v hv
       ·simp only[Jb]at hv;rw[hv];exact oM _ wA
      ·intro bI;have iW:j=news.length:=(by have:news.length≤j:=(by simpa using bI);omega);refine Zc ?_;obtain⟨S,pR,qy,ik,kn⟩:=kn.dh;have tK:FrzC H5 S t (.sl false 1 (Qb av)):=Gr.frzM n7 pR (FrzR.same (Qq _));refine c_gh (Et S (CO ?_) ik) (e':=[(1,.c (.sl fl2 1 (Q5 l))),(2,.c (.pp [.int .i64 q.params,.int .i64 q.ab,.sl fl 5 (Qo q.blocks)])),(4,.c (.ptr x4 0)),(6,.c (.ptr x6 0)),(10,.c (.int .i64 i)),(11,.c (.sl false 1 (Qb olds))),(12,.c (.sl false 1 (Qb news))),(13,.c (.int .i64 k)),(14,.c (.sl false 1 (Qb av)))]) ?_
       ·simp only[J4];exact⟨.c _ _ (.same _ rfl),.c _ _ (.same _ rfl),.c _ _ (.same _ rfl),.c _ _ (.same _ rfl),.c _ _ (.same _ rfl),.c _ _ (.same _ rfl),.c _ _ (.same _ rfl),.c _ _ (.same _ rfl),.c _ _ tK,Zz⟩
       generalize H5.frz S=H6 at *;have aY:H6 x6=X6:=(kn.get (x6,X6) Zz).1;rw[nF]at aY;have cp:H6 zb=.vec 5 RW:=(kn.get (zb,.vec 5 RW) Zz).1;have hz:H6 z=.vec 2 (Ae ph):=(kn.get (z,.vec 2 (Ae ph)) Zz).1;have bY:(Ae ph).set k [.int .i64 p.to,.sl false 1 (Qb av)]=Ae (ph.set k ⟨p.to,av⟩):=Qbjo ph k ⟨p.to,av⟩;refine Qp ?_;simp only[go_sem,aY,cp,hz,bt,b9,bm,ae,aT,lO,bY,Q7,Jf,Jj];intro H7 h7;have kn:Kn H0 H7 E (([(x4,X4),(x6,X6),(zb,.vec 5 RW)]++R)++[(z,.vec 2 (Ae (ph.set k ⟨p.to,av⟩)))]):=by
        have:=kn.aB ([(x4,X4),(x6,X6),(zb,Obj.vec 5 RW)]++R).length (x:=z) (o:=.vec 2 (Ae ph)) Zz h7;simpa using this
       refine Zh ?_;refine⟨Qr,?_⟩;show ∃m,_;refine⟨ph.length-(k+1),Zx,k+1,ph.set k ⟨p.to,av⟩,_,by rw[Jo],by rw[Jo];omega,?_,fun j2 h2 cj=>?_,fun j2 cj=>?_,?_,kn,rfl,rfl,rfl,rfl,rfl,rfl,rfl,Zy⟩
       ·rw[Jz,iO];have e:p.to=((Ad q b).aa.map PhiD.to)[k]'(by rw[Jg];omega):=by
         have h1:(ph.map PhiD.to)[k]? = some p.to:=(by simp[aT,vu]);rw[iO,Je (by rw[Jg];omega)]at h1;exact (Jau h1).symm
        show List.set _ k p.to=_
        conv=>lhs;rw[e]
        exact Jas _
       ·rw[Jaa];split
        ·exact⟨by show av.length=_;rw[rB];omega,zf⟩
        ·exact vy j2 ZT Zx
       ·rw[List.getElem?_set_ne Zx];exact yu j2 Zx
       ·rw[ib];exact .mk _ _ _ (by rw[Q7,Jo])
    ·intro aC;have bd:ph.length≤k:=ZC;refine Zc ?_;refine Zh ?_;refine⟨Qr,?_⟩;show ∃m,_;have aL:=hS.step nu (ph:=ph) (pl:=pl) (by rw[bG];exact iO) (fun w hw=>by
      obtain⟨j,hj,rfl⟩:=Jw.1 hw;exact vy j hj Zx) (by rw[gr];exact ao)
     have fg:=PkS.rows (ks:=ks) (ph:=ph) (pl:=pl) nu;have dS:=Ej (f:=KBlk.pl) (l:=ks.set i ⟨⟨ph,ks[i].y.ins,ks[i].y.jump,ks[i].y.on,ks[i].y.next⟩,ks[i].pc,pl⟩) (i:=i) (by rw[Jo];exact nu);rw[Jaq,Jav,hR]at dS;generalize ks.set i ⟨⟨ph,ks[i].y.ins,ks[i].y.jump,ks[i].y.on,ks[i].y.next⟩,ks[i].pc,pl⟩=ks' at *;have kn:Kn H0 H4 E ([(x4,X4),(x6,X6),(zb,.vec 5 (ks'.map KBlk.row))]++ks'.flatMap KBlk.pl):=by
      rw[fg,lq];refine kn.perm (Qj fun f hf h0 hc hp=>?_);have:=hp _ _ dS;simp only[hf]at this⊢;omega
     exact⟨l.length-(i+1),Zx,i+1,ks',rfl,Zx,aL,kn,rfl,rfl,rfl,rfl,Zy⟩
  ·intro hc;have mg:i=l.length:=by have:l.length≤i:=ZA;omega
   subst mg;refine Zc ?_;have br:=kn.l 0 rfl;have aY:=kn.l 1 rfl;rw[nF]at aY;rw[zj]at br;refine Zl br aY ?_;intro H2 h2;have kn:=kn.aB 0 rfl h2;refine Ql ?_;refine hQ _ _ ks hS ?_ Zy;rw[nF]at kn;exact kn
set_option maxHeartbeats 8000000 in
theorem Qbi3 {q:CodeD}{fl fl2:Bool}{l:List Nat}(ho:q.ok)(hp:Pk q l)
  (hK:∀(d:CodeD) z H',PkR q d→Kn H H' [] [(z,.vec 5 (Qo d.blocks))]→K (.ag [.int .i64 d.params,.int .i64 d.ab,.af z 5 0 d.blocks.length]) H') :
  Qs prog R6 [.ag [.int .i64 q.params,.int .i64 q.ab,.sl fl 5 (Qo q.blocks)],.c (.sl fl2 1 (Q5 l))] H K:=by
 have bj:=ho.b1;have qp:=hp.n;have iU:0<l.length:=by
  have:=hp.z
  cases l with
  |nil=>simp at this
  |cons=>simp
 refine De ?_;refine Qc Ab Qbop ?_;refine Za ?_;intro x4 br H1 h1;have kn:=(Kn.aq H).al br h1;refine Qa ?_;simp only[go_sem,Qm];try intro _
 refine Qbi4 (n:=q.blocks.length) Zx Zx hp.lt fun P H2 hP hu=>?_;have kn:=kn.aw hu;simp only[go_sem,OW];refine Za ?_;intro x6 aY H3 h3;have kn:=kn.al aY h3;have aY:=kn.l 1 rfl;simp only[go_sem,OU,aY];intro H4 h4;have kn:Kn H H4 [] [(x4,.st [.int .i64 0,.int .i64 0,.sl true 5 []]),(x6,.st [.int .i64 q.params,.int .i64 q.ab,.sl true 5 []])]:=kn.aB 1 rfl h4;refine Wa ?_;refine Qh (Qd (Qw (fun m e1 H1=>∃(ks:List KBlk) (bc:C) (bl:List (Nat×Obj)),m=l.length-ks.length∧ks.length≤l.length∧ks.map KBlk.y=(l.take ks.length).map (pkY q P)∧(∀b∈ks,b.ok)∧Gr bl 5 (ks.map KBlk.row) bc∧
  Kn H H1 [] (([(x4,.st [.int .i64 0,.int .i64 0,.sl true 5 []]),(x6,.st [.int .i64 q.params,.int .i64 q.ab,bc])]++ks.flatMap KBlk.pl)++bl)∧
  lk 1 e1=.c (.sl fl2 1 (Q5 l))∧lk 2 e1=.c (.pp [.int .i64 q.params,.int .i64 q.ab,.sl fl 5 (Qo q.blocks)])∧lk 4 e1=.c (.ptr x4 0)∧lk 5 e1=.c (.sl false 1 (Qb P))∧lk 6 e1=.c (.ptr x6 0)∧lk 7 e1=.c (.int .i64 ks.length)) l.length ?_ ?_))
 ·exact⟨[],_,[],Zz,Zz,Zz,Zz,.nil 5,ZH,rfl,rfl,rfl,rfl,rfl,rfl⟩
 ·clear kn aY;rintro m e1 H5 ⟨ks,bc,bl,hm,cO,f8,fS,ao,kn,l1,l2,l4,l5,l6,l7⟩;have fD:=ao.ah;refine Q1 (Qa ?_);simp only[go_sem,l1,l2,l4,l5,l6,l7,Qz];try intro _
  refine Wu ?_ ?_
  ·intro hc;have ae:ks.length<l.length:=ZA
   obtain⟨b,hb⟩:∃b,l[ks.length]=b:=⟨_,rfl⟩;have qv:b∈l:=by rw[←hb];exact Jd ae
   have dt:=hp.lt b qv;have bG:l.getD ks.length 0=b:=by simp[Ja,ae,hb]
   refine Zd ?_
   refine Qh (Qd ?_);refine Aj ?_;simp only[go_sem,ae,Qz,AU _ _ ae,bG,dt,Qm,Q9 _ _ dt,BlkD.take5,BlkD.bv,BlkD.len5];refine Q3d (ho.sg.bs _ (Jd dt)) fun o H6 k2 au eN _=>?_;have kn:=kn.comp0 k2;rw[←AA dt]at eN;have b8:=o.ak au;have dC:=au.p.ah;have kD:=au.i.ah;simp only[go_sem,OS];intro x8 aV H7 h7;have kn:=(kn.al aV h7).perm Jt;have aV:=kn.l 0 rfl;simp only[go_sem,OT,aV,o.row_eq,ae,Qz,AU _ _ ae,bG,dt,Qm,Q9 _ _ dt,BlkD.take5,BlkD.bv,BlkD.len5];intro H8 h8;have kn:Kn H H8 [] ([(o.nx.y,.vec 1 (Qb o.nx.ns))]++([(x8,.st [o.pc,o.ic,.int .i64 o.jump,.int .i64 o.on,.af o.nx.y 1 0 o.nx.ns.length])]++(([(x4,.st [.int .i64 0,.int .i64 0,.sl true 5 []]),(x6,.st [.int .i64 q.params,.int .i64 q.ab,bc])]++ks.flatMap KBlk.pl)++bl)++o.rest)):=
    (kn.aB 0 rfl h8).perm (Qj fun f hf h0 hc hp=>by
     show f ([(x8,_)]++(_++_))=_;simp only[o.lg_eq,hf];omega)
   clear aV;have cP:o.nx.ns=(Ad q b).next:=Za4
   have rC:o.nx.ns.length≤2:=by rw[cP,AA dt];exact (ho.bs b dt).nxl
   refine Wa ?_;refine Qh (Qd (Qw (fun m e1 H1=>∃(k:Nat) (ns:List Int),m=o.nx.ns.length-k∧k≤o.nx.ns.length∧ns=(o.nx.ns.take k).map (fun v=>P.getD v.toNat 0)++o.nx.ns.drop k∧
    Kn H H1 [] ([(o.nx.y,.vec 1 (Qb ns))]++([(x8,.st [o.pc,o.ic,.int .i64 o.jump,.int .i64 o.on,.af o.nx.y 1 0 o.nx.ns.length])]++(([(x4,.st [.int .i64 0,.int .i64 0,.sl true 5 []]),(x6,.st [.int .i64 q.params,.int .i64 q.ab,bc])]++ks.flatMap KBlk.pl)++bl)++o.rest))∧
    lk 1 e1=.c (.sl fl2 1 (Q5 l))∧lk 2 e1=.c (.pp [.int .i64 q.params,.int .i64 q.ab,.sl fl 5 (Qo q.blocks)])∧lk 4 e1=.c (.ptr x4 0)∧lk 5 e1=.c (.sl false 1 (Qb P))∧lk 6 e1=.c (.ptr x6 0)∧lk 7 e1=.c (.int .i64 ks.length)∧lk 8 e1=.c (.ptr x8 0)∧lk 9 e1=.c (.int .i64 k)) o.nx.ns.length ?_ ?_))
   ·exact⟨0,o.nx.ns,Zx,Zx,Zz,kn,rfl,rfl,rfl,rfl,rfl,rfl,rfl,rfl⟩
   ·clear kn;rintro m2 e2 H9 ⟨k,ns,eo,hk,ko,kn,l1,l2,l4,l5,l6,l7,l8,l9⟩;have ce:ns.length=o.nx.ns.length:=(by rw[ko];simp;omega);have aV:H9 x8=.st [o.pc,o.ic,.int .i64 o.jump,.int .i64 o.on,.af o.nx.y 1 0 o.nx.ns.length]:=(kn.get (x8,.st [o.pc,o.ic,.int .i64 o.jump,.int .i64 o.on,.af o.nx.y 1 0 o.nx.ns.length]) Zz).1;have hy:=kn.l 0 rfl;refine Q1 (Qa ?_);simp only[go_sem,l1,l2,l4,l5,l6,l7,l8,l9,aV,hy,Qf,ce,Jf,Jj];try intro _
    refine Wu ?_ ?_
    ·intro aC;have aT:k<o.nx.ns.length:=ZC;obtain⟨w,hw⟩:∃w,o.nx.ns[k]=w:=⟨_,rfl⟩;have u9:w∈(Ad q b).next:=(by rw[←cP,←hw];exact Jd aT);obtain⟨w1,w2,_⟩:=hp.to ho hP qv u9;have wD:ns.getD k 0=w:=by
      rw[ko,Ja,Jae (by rw[Jg,J0];exact Nat.min_le_left _ _)];simp[aT,hw,Nat.min_eq_left (Nat.le_of_lt aT)]
     have md:k<ns.length:=Zx;have bN:(Qb ns).take o.nx.ns.length=Qb ns:=Jc ZO;have iQ:=Qbuz (f:=fun v=>P.getD v.toNat 0) aT;rw[hw]at iQ;have hwe:w=(w.toNat:Int):=Zx;refine Zd ?_
     refine Wr ?_;generalize hr:w.toNat=r at *;simp only[go_sem,aV,hy,bN,aT,Qf,ce,Qn _ _ md,wD,hwe,w2,Qn _ _ w2,Ds,Jf,Jj];intro H10 cS;have kn:=kn.aB 0 rfl cS;refine Zh ?_;refine⟨Qr,?_⟩;show ∃m,_;exact⟨o.nx.ns.length-(k+1),Zx,k+1,ns.set k (P.getD r 0),rfl,Zx,by rw[ko];exact iQ,kn,rfl,rfl,rfl,rfl,rfl,rfl,rfl,rfl⟩
    ·intro aC;have bd:o.nx.ns.length≤k:=ZC;rw[Jc bd,J1 bd,Jab]at ko;refine Zc ?_;obtain⟨o2,iS⟩:∃o2:OBlk,o2=⟨o.aa,o.pc,o.pl,o.ins,o.ic,o.il,o.jump,o.on,⟨ns,o.nx.y⟩⟩:=⟨_,rfl⟩;have eM:o2.ok:=(by rw[iS];exact⟨au.p,au.i,au.a⟩);have dF:o2.d=pkY q P b:=by
      rw[iS,pkY,←eN];simp only[OBlk.d,ko]
     have vx:o2.pc=o.pc:=(by rw[iS]);have kn:Kn H H9 [] ([(x8,.st o2.row)]++((([(x4,.st [.int .i64 0,.int .i64 0,.sl true 5 []]),(x6,.st [.int .i64 q.params,.int .i64 q.ab,bc])]++ks.flatMap KBlk.pl)++bl)++o2.lg)):=by
      have er:o2.row=[o.pc,o.ic,.int .i64 o.jump,.int .i64 o.on,.af o.nx.y 1 0 o.nx.ns.length]:=(by rw[iS,OBlk.row_eq,ce]);have el:o2.lg=[(o.nx.y,.vec 1 (Qb ns))]++o.rest:=(by rw[iS];rfl);rw[er,el];exact kn.perm (Qj fun f hf h0 hc hp=>by simp only[hf];omega)
     obtain⟨S,H10,pl,ik,kH,kn⟩:=OBlk.gh eM kn;rw[dF,vx]at kH kn;refine c_gh (Et S (CO ?_) ik) (e':=[(1,.c (.sl fl2 1 (Q5 l))),(2,.c (.pp [.int .i64 q.params,.int .i64 q.ab,.sl fl 5 (Qo q.blocks)])),(4,.c (.ptr x4 0)),(5,.c (.sl false 1 (Qb P))),(6,.c (.ptr x6 0)),(7,.c (.int .i64 ks.length)),(8,.c (.ptr x8 0))]) ?_
     ·simp only[J4];exact⟨.c _ _ (.same _ rfl),.c _ _ (.same _ rfl),.c _ _ (.same _ rfl),.c _ _ (.same _ rfl),.c _ _ (.same _ rfl),.c _ _ (.same _ rfl),.c _ _ (.same _ rfl),Zz⟩
     clear ik aV hy;have kn:Kn H H10 [] (([(x6,.st [.int .i64 q.params,.int .i64 q.ab,bc])]++([(x8,.st (kRow (pkY q P b) o.pc))]++([(x4,.st [.int .i64 0,.int .i64 0,.sl true 5 []])]++(ks.flatMap KBlk.pl++pl))))++bl):=
      kn.perm (Qj fun f hf h0 hc hp=>by
       have e:∀(a b:Nat×Obj),f [a,b]=f [a]+f [b]:=fun a b=>hc a [b];simp only[hf,e];omega)
     have aY:=kn.l 0 rfl;have aV:=kn.l 1 rfl;obtain⟨kb,gr⟩:∃kb:KBlk,kb=⟨pkY q P b,o.pc,pl⟩:=⟨_,rfl⟩;have wm:kRow (pkY q P b) o.pc=kb.row:=(by rw[gr];rfl);have me:kb.ok:=(by rw[gr];exact kH);have yD:=KBlk.ak me;rw[wm]at aV kn;have wk:kb.row.length=5:=rfl;have wg:kb.row.take 5=kb.row:=rfl;have hka:(kb.row.all fun c=>!c.ah)=true:=yD;refine Qp ?_;simp only[go_sem,aY,aV,fD,wk,wg,hka];refine kn.bg (new:=[kb.row]) ao (.mk' _ _ _ _) (by intro r hr;simp only[Jb]at hr;rw[hr];exact yD) (by simp only[Jg,LIM,Jn,Jl];omega) fun bc2 bl2 H11 bq hbw2 kn=>?_;have aY:=kn.l 0 rfl;simp only[go_sem,OR,aY];intro H12 fe;have kn:Kn H H12 [] ((([(x4,.st [.int .i64 0,.int .i64 0,.sl true 5 []]),(x6,.st [.int .i64 q.params,.int .i64 q.ab,bc2])]++(ks++[kb]).flatMap KBlk.pl)++bl2)++[(x8,.st kb.row)]):=
      (kn.aB 0 rfl fe).perm (Qj fun f hf h0 hc hp=>by
       have e:∀(a b:Nat×Obj),f [a,b]=f [a]+f [b]:=fun a b=>hc a [b];have ek:kb.pl=pl:=(by rw[gr]);show f ([(x6,_)]++([(x8,_)]++([(x4,_)]++(ks.flatMap KBlk.pl++pl)))++bl2)=_;simp only[Jaw,J7,List.flatMap_nil,Jab,ek,hf,e];omega)
     refine Zh ?_;refine⟨Qr,?_⟩;show ∃m,_;refine⟨l.length-(ks.length+1),Zx,ks++[kb],bc2,bl2,Zz,by simp only[J2,Jn,Jl];omega,?_,fun w hw=>?_,by rw[Jp];exact bq,kn.drop,rfl,rfl,rfl,rfl,rfl,Zy⟩
     ·simp only[J2,Jn,Jl,Jf];rw[Jp,f8,Ji ae,Jp,hb,gr];rfl
     ·rcases Jq.1 hw with hw|hw
      ·exact fS w hw
      ·simp only[Jb]at hw;rw[hw];exact me
  ·intro hc;have qr:ks.length=l.length:=by have:l.length≤ks.length:=ZA;omega
   rw[qr,Ja2]at f8;obtain⟨zb,rfl,rfl⟩:∃z,bc=.af z 5 0 l.length∧bl=[(z,.vec 5 (ks.map KBlk.row))]:=by
    rcases ao with ⟨_,h,_⟩|⟨y,h1,h2⟩
    ·have:=congrArg List.length h;simp only[Jg,Jl]at this;omega
    ·exact⟨y,by rw[h1,Jg,qr],h2⟩
   have hS:PkS q P l 0 ks:=by
    have hg:∀j (h:j<ks.length),ks[j].y=pkY q P (l.getD j 0):=fun j h=>by
     have hj:j<l.length:=Zx;have h1:(ks.map KBlk.y)[j]? = some ks[j].y:=ZaY;rw[f8]at h1;simp only[J8,Je hj,Jad]at h1;rw[(hp.get hj).1];exact (Jau h1).symm
    exact⟨qr,fun j h=>by rw[hg j h];exact⟨rfl,rfl,rfl,rfl,rfl⟩,fS,fun j h h0=>Zx,fun j h _=>by rw[hg j h];rfl⟩
   have kn:Kn H H5 [] ([(x4,.st [.int .i64 0,.int .i64 0,.sl true 5 []]),(x6,.st [.int .i64 q.params,.int .i64 q.ab,.af zb 5 0 l.length]),(zb,.vec 5 (ks.map KBlk.row))]++ks.flatMap KBlk.pl):=
    kn.perm (Qj fun f hf h0 hc hp=>by
     have e2:∀(a b:Nat×Obj),f [a,b]=f [a]+f [b]:=fun a b=>hc a [b];have e3:∀(a b c:Nat×Obj),f [a,b,c]=f [a]+f [b]+f [c]:=fun a b c=>(by rw[hc a [b,c],e2];omega);simp only[hf,e2,e3];omega)
   clear f8 fS qr ao;refine Zc ?_;refine Qbpv (fl:=fl) (fl2:=fl2) ho hp hP hS kn rfl rfl rfl rfl fun e6 H6 ks hS kn l4=>?_;have br:=kn.l 0 rfl;simp only[go_sem,Q6,Aa,Jb,forall_eq,RS.op,l4,br];obtain⟨d,hd⟩:∃d:CodeD,d=⟨q.params,q.ab,ks.map KBlk.y⟩:=⟨_,rfl⟩;have pC:d.blocks.length=l.length:=by rw[hd];simpa using hS.n
   have hR:=Qb3f (d:=d) ho hp hP (by rw[hd]) (by rw[hd]) pC fun j h=>by
    have hj:j<ks.length:=(by rw[hS.n];omega);have e:d.blocks[j]=ks[j].y:=(by subst hd;simp);rw[e];exact⟨hS.b j hj,hS.a j hj Zx⟩
   have kn:Kn H H6 [] ([(zb,.vec 5 (ks.map KBlk.row))]++(([(x4,.st [.int .i64 q.params,.int .i64 q.ab,.af zb 5 0 l.length])]++[(x6,.st [.int .i64 q.params,.int .i64 q.ab,.af zb 5 0 l.length])])++ks.flatMap KBlk.pl)):=
    kn.perm (Qj fun f hf h0 hc hp=>by
     have e3:∀(a b c:Nat×Obj),f [a,b,c]=f [a]+f [b]+f [c]:=fun a b c=>Zau;simp only[hf,e3];omega)
   obtain⟨S,pR,qy,ik,kn⟩:=kn.dh;have hz:=qy (zb,.vec 5 (ks.map KBlk.row)) Zz;have bT:FrzR H6 S (ks.map KBlk.row) (Qo d.blocks):=by
    rw[hd];show FrzR H6 S (ks.map KBlk.row) (Qo (ks.map KBlk.y));rw[Qo,Jaf];refine Dp ks fun k hk=>?_;refine .cons (Gr.frzM (hS.ok k hk) (fun p hp=>pR p (Jh _ (List.mem_flatMap.2 ⟨k,hk,hp⟩))) (FrzR.same (HN _))) (.cons (Qg rfl) (.cons (Qg rfl) (.cons (Qg rfl) (.cons (Qg rfl) .nil))))
   have cd:∀r∈ks.map KBlk.row,Go.AE.ak r=true:=fun r hr=>by
    obtain⟨k,hk,rfl⟩:=Js.1 hr;exact KBlk.ak (hS.ok k hk)
   refine⟨S,.ag [.int .i64 q.params,.int .i64 q.ab,.af zb 5 0 l.length],_,FrzL.ag (.cons (Qg rfl) (.cons (Qg rfl) (.cons (.same _ rfl) .nil))),ik.set (o:=.vec 5 (Qo d.blocks)) hz.2 (by rw[hz.1];exact .vecR bT cd),?_⟩;have:=hK d zb _ hR (kn.setL (o':=.vec 5 (Qo d.blocks)) 0 rfl Zz);rw[pC,hR.p,hR.r]at this;exact this
end Go.AE.Y
