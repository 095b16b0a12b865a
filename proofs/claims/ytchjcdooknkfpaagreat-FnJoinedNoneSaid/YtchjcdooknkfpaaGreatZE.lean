/- Part 5 of the proof: the engine, codes, walks and plain laws, each named where it stands. -/
import Derived.Test.YtchjcdooknkfpaaGreatZD
open Nat (reduceEqDiff reduceAdd reduceLeDiff reduceLT)
set_option linter.unusedVariables false
set_option linter.unusedSimpArgs false
set_option maxRecDepth 4000
set_option maxHeartbeats 16000000
open Bool renaming and_eq_true->Js,false_eq_true->Ja1
open Int renaming toNat_natCast->Jaq,le_refl->Jbm
open List renaming getD_eq_getElem?_getD->Ja,getElem_mem->Jb,take_of_length_le->Jc,mem_singleton->Jd,length_map->Je,take_succ_eq_append_getElem->Jf,mem_append_right->Jg,length_nil->Jh,length_cons->Ji,getElem?_eq_getElem->Jj,perm_append_comm->Jk,mem_map->Jm,getElem_map->Jo,length_set->Jp,mem_iff_getElem->Jq,getElem?_eq_none->Jr,idxOf_lt_length_of_mem->Jt,mem_append_left->Ju,mem_cons_of_mem->Jv,map_append->Jw,mem_append->Jx,mem_or_eq_of_mem_set->Jy,mem_range->Jz,contains_iff_mem->J0,map_cons->J1,length_take->J2,forall_mem_cons->J3,length_append->J4,getElem_set->J5,map_map->J6,mem_cons_self->J7,getElem?_map->J8,take_length->J9,all_eq_true->Jaa,mem_filter->Jab,ext_getElem->Jac,mem_flatMap->Jad,append_nil->Jae,eq_of_mem_replicate->Jaf,flatMap_cons->Jag,getD_cons_zero->Jai,map_congr_left->Jaj,not_mem_nil->Jak,getElem_cons_succ->Jal,getElem_cons_zero->Jam,map_nil->Jan,map_set->Jao,eraseIdx_set_eq->Jar,drop_eq_getElem_cons->Jas,flatMap_append->Jat,append_assoc->Jau,getElem_set_self->Jav,mem_of_getElem?->Jax,all_cons->Jay,getD_cons_succ->Ja0,all_nil->Ja3,getElem_range->Ja4,pairwise_map->Ja5,flatMap_eq_nil_iff->Ja6,length_filter_le->Ja7,set_append_right->Ja8,set_getElem_self->Ja9,drop_zero->Jba,filter_sublist->Jbb,mem_cons->Jbc,set_cons_zero->Jbd,sum_cons->Jbe,nodup_append->Jbf,cons_append->Jbi,flatMap_nil->Jbj,getElem_inj->Jbk,nodup_range->Jbl
open List.Nodup renaming sublist->Ja2
open Nat renaming le_refl->Jl,zero_add->Jn,le_trans->Jbg,sub_self->Jbh,lt_irrefl->Jbn,add_zero->Jbo
open Option renaming map_some->Jap,getD_some->Jaw
open Option.some renaming inj->Jah,injEq->Jbp
open Prod.mk renaming injEq->Jaz
namespace Go.AE.Y
attribute [local go_sem] cond_true cond_false Bool.not_true Bool.not_false
open Go.Proofs.Tryz
variable {H H0 F:Heap}{K:Uk}{E L:Ul}
def CY (zs:List (Nat×List Bool)):List (List C):=zs.map λp=>[.sl false 1 (Qs p.2)]
theorem Ke (zs:List (Nat×List Bool)):(CY zs).length=zs.length:=by simp[CY]
theorem KU (zs:List (Nat×List Bool))(i:Nat)(h:i<zs.length):(CY zs).getD i []=[.sl false 1 (Qs zs[i].2)]:=by simp[CY,Ja,h]
theorem Kd {S:Nat->Bool}{R:Nat}{zs:List (Nat×List Bool)}(hl:∀p∈zs,p.2.length=R)(hH:∀p∈obZ zs,H p.1=p.2/\S p.1=true):FrzR H S (AQ R zs) (CY zs):=by
 induction zs with
 |nil=>exact .nil
 |cons z zs ih=>
  have h1:=hH (z.1,.vec 1 (Qs z.2)) (by simp[obZ]);refine .cons (.cons ?_ .nil) (ih (λp hp=>hl p (Jv _ hp)) λp hp=>hH p (by simp only[obZ,J1];exact Jv _ hp));exact (FrzR.same (ON _)).ai h1.2 h1.1 (by rw[Q0];exact (hl z J7).symm)
theorem Xw {α:Type}{l:List α}{i:Nat}{x:α}(h:i<l.length):(l++[x]).Perm (l.set i x++[l[i]]):=by
 have e:∀(m:List α) (hm:i<m.length),m.Perm (m[i]::m.eraseIdx i):=λm hm=>by
  have h1:(m[i]::m.eraseIdx i).Perm m:=by
   rw[List.eraseIdx_eq_take_drop_succ];refine List.perm_middle.symm.trans ?_;rw[<-Jas hm,List.take_append_drop]
  exact h1.symm
 have h1:=e l h;have h2:=e (l.set i x) ZI;simp only[Jav,Jar]at h2;refine (h1.append_right [x]).trans ?_;refine List.Perm.trans ?_ (h2.append_right [l[i]]).symm;simp only[Jbi];refine (List.Perm.cons _ Jk).trans ?_;refine List.Perm.trans ?_ (List.Perm.cons _ Jk);exact List.Perm.swap _ _ _
def Sf (q:CodeD)(zi zo:List (Nat×List Bool)):Prop:=lvOk q.ae.toNat q.blocks.length zi zo/\∀b,b<q.blocks.length->∀r,(tab zi b r↔(AH q).LI b r)/\(tab zo b r↔(AH q).LO b r)
theorem HW {zs:List (Nat×List Bool)}{b:Nat}(h:b<zs.length):Mem zs[b].2 (tab zs b):=λr=>(Fk h r).symm
theorem Qab2 (n r:Nat):(List.replicate n false).getD r false=false:=by
 rw[Ja,List.getElem?_replicate];split <;> rfl
def BW (x2 x3 yi yo n:Nat):List (Nat×Obj):=[(x2,.st [.sl true 1 [],.sl true 1 []]),(x3,.st [.ai yi 1 0 n,.ai yo 1 0 n])]
theorem Kk {q:CodeD}{bc:C}(ho:q.ok)(dw:CodeR H [] bc q)
  (hK:∀(zi zo:List (Nat×List Bool)) H',Upd H H' []->Sf q zi zo->K (.ag [.sl false 1 (CY zi),.sl false 1 (CY zo)]) H') :
  Qv prog L3 [.ag [Ui q.params,Ui q.ae,bc]] H K:=by
 have bR:=ho.r0;have ib:=ho.r1;have fE:=ho.b0;have bg:=ho.b1;have aU:=ho.fitsF;have hFn:(AH q).n=q.blocks.length:=rfl;obtain⟨R,hR⟩:∃R,q.ae.toNat=R:=⟨_,rfl⟩;obtain⟨n,hn⟩:∃n,q.blocks.length=n:=⟨_,rfl⟩;have ur:q.ae=(R:Int):=ZA
 refine Qz ?_;have iW:=dw.ow;refine Qd A6 Qblc ?_;refine Za ?_;intro x2 aH H1 h1;have kn:=(Kn.ao H).al aH h1;refine Za ?_;intro x3 aK H2 h2;have kn:=kn.al aK h2;have aK:=kn.l 1 rfl;simp only[go_sem,Q4c,aK];intro H3 h3;have kn:Kn H H3 [] [(x2,.st [.sl true 1 [],.sl true 1 []]),(x3,.st [.sl true 1 [],.sl true 1 []])]:=kn.aA 1 rfl h3;refine Qa ?_;obtain⟨b9,gG,iw,fz⟩:=dw.facts kn ZC;simp only[go_sem,iW,b9,gG,hn];clear b9 fz;intro _;refine Wa ?_;refine Qh (Qe (Qx (λm e1 H1=>∃(i:Nat) (zi zo:List (Nat×List Bool)) (ci co:C) (Li Lo:Ul),m=n-i/\i<=n/\zi.length=i/\zo.length=i/\(∀p∈zi,p.2=List.replicate R false)/\(∀p∈zo,p.2=List.replicate R false)/\
  Gr Li 1 (AQ R zi) ci/\Gr Lo 1 (AQ R zo) co/\Kn H H1 [] ([(x2,.st [.sl true 1 [],.sl true 1 []]),(x3,.st [ci,co])]++(obZ zi++(obZ zo++(Li++Lo))))/\
  e1=[(1,.c (.pp [Ui q.params,Ui q.ae,bc])),(2,Up x2),(3,Up x3),(4,Uv n),(5,Uv i)]) n ?_ ?_))
 ·exact⟨0,[],[],_,_,[],[],ZA,ZA,rfl,rfl,ZC,ZC,.nil 1,.nil 1,kn,rfl⟩
 ·rintro m e1 H4 ⟨i,zi,zo,ci,co,Li,Lo,hm,hi,lr,lq,jr,pA,gP,db,kn,rfl⟩;refine Wa ?_;refine Wu ?_ ?_
  ·intro hc;have af:i<n:=ZD
   have ub:=gP.ah;have bD:=db.ah;have aK:=kn.l 1 rfl;refine Zd ?_
   refine Qh (Qe ?_);refine AC ?_;simp only[go_sem,aK,ub];refine⟨ZA,by simp only[LIM];omega,λy1 pG H5 h5=>?_⟩;have kn:Kn H H5 [] (([(x2,.st [.sl true 1 [],.sl true 1 []]),(x3,.st [ci,co])]++(obZ (zi++[(y1,List.replicate R false)])++(obZ zo++Lo)))++Li):=
    (kn.al pG h5).perm (Qj λf hf h0 hc hp=>by
     have cf:=hc (x2,.st [.sl true 1 [],.sl true 1 []]) [(x3,.st [ci,co])];simp only[Ui,hf,obZ,Jw,J1,Jan,FV,hR];omega)
   have aK:=kn.l 1 rfl;simp only[go_sem,Q4e,aK,ub];refine kn.br gP (.mk' _ _ _ _) (by intro r hr;simp at hr;subst hr;rfl) (by simp only[LIM,B4,Ji,Jh];omega) λci2 Li2 H6 qR zW kn=>?_;have aK:=kn.l 1 rfl;simp only[go_sem,Q4d,aK];intro H7 h7;have kn:Kn H H7 [] ([(x2,.st [.sl true 1 [],.sl true 1 []]),(x3,.st [ci2,co])]++(obZ (zi++[(y1,List.replicate R false)])++(obZ zo++Lo))++Li2):=kn.aA 1 rfl h7;have qR:Gr Li2 1 (AQ R (zi++[(y1,List.replicate R false)])) ci2:=by
    have:AQ R (zi++[(y1,List.replicate R false)])=AQ R zi++[[C.ai y1 1 0 q.ae.toNat]]:=(by simp[AQ,hR]);rw[this];exact qR
   have aK:=kn.l 1 rfl;refine AY ?_;simp only[go_sem,aK,bD];refine⟨ZA,by simp only[LIM];omega,λy2 kP H8 h8=>?_⟩;have kn:Kn H H8 [] (([(x2,.st [.sl true 1 [],.sl true 1 []]),(x3,.st [ci2,co])]++(obZ (zi++[(y1,List.replicate R false)])++(obZ (zo++[(y2,List.replicate R false)])++Li2)))++Lo):=
    (kn.al kP h8).perm (Qj λf hf h0 hc hp=>by
     simp only[Ui,hf,obZ,Jw,J1,Jan,FV,hR];omega)
   have aK:=kn.l 1 rfl;simp only[go_sem,Q4g,aK,bD];refine kn.br db (.mk' _ _ _ _) (by intro r hr;simp at hr;subst hr;rfl) (by simp only[LIM,B4,Ji,Jh];omega) λco2 Lo2 H9 qQ zU kn=>?_;have aK:=kn.l 1 rfl;simp only[go_sem,Q4f,aK];intro H10 dh;have kn:Kn H H10 [] ([(x2,.st [.sl true 1 [],.sl true 1 []]),(x3,.st [ci2,co2])]++(obZ (zi++[(y1,List.replicate R false)])++(obZ (zo++[(y2,List.replicate R false)])++Li2))++Lo2):=kn.aA 1 rfl dh;have qQ:Gr Lo2 1 (AQ R (zo++[(y2,List.replicate R false)])) co2:=by
    have:AQ R (zo++[(y2,List.replicate R false)])=AQ R zo++[[C.ai y2 1 0 q.ae.toNat]]:=(by simp[AQ,hR]);rw[this];exact qQ
   refine Zg ?_;refine⟨Qr,n-(i+1),ZA,i+1,zi++[(y1,List.replicate R false)],zo++[(y2,List.replicate R false)],ci2,co2,Li2,Lo2,rfl,ZA,by simp[lr],by simp[lq],?_,?_,qR,qQ,?_,rfl⟩
   ·intro p hp;rcases Jx.1 hp with hp|hp
    ·exact jr p hp
    ·simp at hp;rw[hp]
   ·intro p hp;rcases Jx.1 hp with hp|hp
    ·exact pA p hp
    ·simp at hp;rw[hp]
   ·exact kn.perm (by simp only[Jau];exact .refl _)
  ·intro hc;have cq:i=n:=by have:n<=i:=ZD;omega
   subst cq;obtain⟨yi,f8,At⟩:∃yi,ci=.ai yi 1 0 i/\Li=[(yi,.vec 1 (AQ R zi))]:=by
    rcases gP with ⟨_,h,_⟩|⟨y,h1,h2⟩
    ·have:=congrArg List.length h;rw[B4,lr]at this;simp at this;omega
    ·exact⟨y,by rw[h1,B4,lr],h2⟩
   obtain⟨yo,cC,As⟩:∃yo,co=.ai yo 1 0 i/\Lo=[(yo,.vec 1 (AQ R zo))]:=by
    rcases db with ⟨_,h,_⟩|⟨y,h1,h2⟩
    ·have:=congrArg List.length h;rw[B4,lq]at this;simp at this;omega
    ·exact⟨y,by rw[h1,B4,lq],h2⟩
   have kn:Kn H H4 [] (lvE R yi yo zi zo++BW x2 x3 yi yo i):=by
    refine kn.perm (Qj λf hf h0 hc hp=>?_);rw[At,As,f8,cC];have e1:=hc (x2,.st [.sl true 1 [],.sl true 1 []]) [(x3,.st [.ai yi 1 0 i,.ai yo 1 0 i])];have e2:=hc (yi,.vec 1 (AQ R zi)) [(yo,.vec 1 (AQ R zo))];simp only[Ui,hf,lvE,BW];omega
   have cH:lvOk R i zi zo:=⟨lr,lq,λp hp=>by rw[jr p hp];simp,λp hp=>by rw[pA p hp];simp⟩;have bx:∀(zs:List (Nat×List Bool)),(∀p∈zs,p.2=List.replicate R false)->∀b r,¬tab zs b r:=λzs h b r hr=>by
    rw[tab]at hr
    cases hg:zs[b]? with
    |none=>rw[hg]at hr;simp at hr
    |some p=>
     rw[hg]at hr;have:=h p (Jax hg);simp only[Jap,Jaw,this,Qab2]at hr;exact absurd hr ZC
   have fQ:LvInv (AH q) zi zo:=⟨λb _ r hr=>absurd hr (bx zi jr b r),λb _ r hr=>absurd hr (bx zo pA b r),λb _ r hr=>absurd hr (bx zi jr b r)⟩;refine Zb ?_;refine Wa ?_;clear bx jr pA gP db At As f8 cC lr lq hm hc hi;refine Qh (Qe (Qx (λm e1 H1=>∃(zi zo:List (Nat×List Bool)) (a:Bool) (yi yo:Nat),m=(if a=true then 2 * (i * R)+1-(AS zi+AS zo)else 0)/\lvOk R i zi zo/\LvInv (AH q) zi zo/\(a=false->∀b,b<i->LvCl (AH q) zi zo b)/\
    Kn H H1 [] (lvE R yi yo zi zo++BW x2 x3 yi yo i)/\
    lk 1 e1=.c (.pp [Ui q.params,Ui q.ae,bc])/\lk 2 e1=Up x2/\lk 3 e1=Up x3/\lk 4 e1=Uv i/\lk 6 e1=.c (.bool a)) (2 * (i * R)+1-(AS zi+AS zo)) ?_ ?_))
   ·exact⟨zi,zo,true,yi,yo,rfl,cH,fQ,λh=>ZH,kn,rfl,rfl,rfl,rfl,rfl⟩
   ·clear cH fQ kn;rintro m e1 H5 ⟨zi,zo,a,yi,yo,hm,cH,fQ,cA,kn,l1,l2,l3,l4,l6⟩;have n8:=Ei cH.li;have n7:=Ei cH.lo;rw[cH.i]at n8;rw[cH.o]at n7;refine Q1 (Qa ?_);simp only[go_sem,l1,l2,l3,l4,l6];refine Wu ?_ ?_
    ·intro bq;rw[bq,if_pos rfl]at hm;refine Zd ?_
     refine Wt ?_;refine Za ?_;refine⟨Qr,?_⟩;clear cA;refine Qe (Qx (λm1 e1 H1=>∃(k:Nat) (j:Int) (zi1 zo1:List (Nat×List Bool)) (a:Bool) (yi yo:Nat),m1=k/\k<=i/\j=(k:Int)-1/\lvOk R i zi1 zo1/\LvInv (AH q) zi1 zo1/\AS zi+AS zo<=AS zi1+AS zo1/\
      (a=true->AS zi+AS zo<AS zi1+AS zo1)/\(a=false->∀b,k<=b->b<i->LvCl (AH q) zi1 zo1 b)/\
      Kn H H1 [] (lvE R yi yo zi1 zo1++BW x2 x3 yi yo i)/\
      e1=[(1,.c (.pp [Ui q.params,Ui q.ae,bc])),(2,Up x2),(3,Up x3),(4,Uv i),(6,.c (.bool a)),(7,Uv j)]) i ?_ ?_)
     ·exact⟨i,_,zi,zo,false,yi,yo,rfl,Jl _,rfl,cH,fQ,Jl _,λh=>ZH,λ_ b h1 h2=>ZA,kn,rfl⟩
     ·have hTb:AS zi+AS zo<=2 * (i * R):=ZA;generalize hT0:AS zi+AS zo=T0 at *;clear fQ cH kn n7 n8 hT0;clear zi zo yi yo;rintro m1 e1 H6 ⟨k,j,zi,zo,a,yi,yo,rfl,hk,pb,cH,fQ,htot,zj,zm,kn,rfl⟩;have n8:=Ei cH.li;have n7:=Ei cH.lo;rw[cH.i]at n8;rw[cH.o]at n7;refine Wa ?_;refine Wu ?_ ?_
      ·intro hc;have bp:0<=j:=ZD;obtain⟨b,rfl⟩:∃b,m1=b+1:=⟨m1-1,ZA⟩;have hj:j=(b:Int):=ZA;subst hj;have cr:b<i:=ZA;have gE:b<q.blocks.length:=ZA;have cg:b<zo.length:=(by rw[cH.o];exact cr);have cB:b<zi.length:=(by rw[cH.i];exact cr);obtain⟨⟨z,bs⟩,hz⟩:∃p,zo[b]=p:=⟨_,rfl⟩;obtain⟨⟨w,bw⟩,hw⟩:∃p,zi[b]=p:=⟨_,rfl⟩;have cV:zo[b]? = some (z,bs):=(by rw[Jj cg,hz]);have gJ:zi[b]? = some (w,bw):=(by rw[Jj cB,hw]);have yk:bs.length=R:=cH.lo (z,bs) (by rw[<-hz];exact Jb cg);have om:bw.length=R:=cH.li (w,bw) (by rw[<-hw];exact Jb cB);have ej:Mem bs (tab zo b):=(by have:=HW cg;rw[hz]at this;exact this);have gH:zo.set b (z,bs)=zo:=Oh cV;obtain⟨y,hy⟩:∃y,q.blocks[b]=y:=⟨_,rfl⟩;have cC:y.ok q b:=(by rw[<-hy];exact ho.bs b gE);have cj:y.ins.length<=1200/\y.ab.length<=1200:=(by rw[<-hy];exact ho.il b gE);have eC:(AH q).nx b=y.next.map Int.toNat:=(by rw[<-hy,<-CD gE];rfl);have eJ:(AH q).ph b=y.ab.map λp=>p.to.toNat:=(by rw[Qbpe gE,hy]);refine Zd ?_
       refine Bk (λe2 H2=>∃(zi2 zo2:List (Nat×List Bool)) (a2:Bool) (yi yo:Nat),lvOk R i zi2 zo2/\LvInv (AH q) zi2 zo2/\AS zi+AS zo<=AS zi2+AS zo2/\
        (a2=true->a=true\/AS zi+AS zo<AS zi2+AS zo2)/\(a2=false->a=false/\LvCl (AH q) zi2 zo2 b/\∀c,LvCl (AH q) zi zo c->LvCl (AH q) zi2 zo2 c)/\
        Kn H H2 [] (lvE R yi yo zi2 zo2++BW x2 x3 yi yo i)/\
        lk 1 e2=.c (.pp [Ui q.params,Ui q.ae,bc])/\lk 2 e2=Up x2/\lk 3 e2=Up x3/\lk 4 e2=Uv i/\lk 6 e2=.c (.bool a2)/\lk 7 e2=Uv b) ?_ ?_
       ·intro Q bH _ _;refine Qe (Q1 ?_);refine Za ?_;refine Qh (Qe (Qx (λm2 e1 H1=>∃(i2:Nat) (bs1:List Bool) (a1:Bool),m2=y.next.length-i2/\i2<=y.next.length/\bs1.length=R/\(∀r,bs.getD r false=true->bs1.getD r false=true)/\(∀r,bs1.getD r false=true->(AH q).LO b r)/\
         (∀m∈((AH q).nx b).take i2,∀r,tab zi m r\/r∈(AH q).ea b m->bs1.getD r false=true)/\(a1=true->a=true\/cnt bs<cnt bs1)/\(a1=false->a=false/\bs1=bs)/\
         Kn H H1 [] (lvE R yi yo zi (zo.set b (z,bs1))++BW x2 x3 yi yo i)/\
         e1=[(1,.c (.pp [Ui q.params,Ui q.ae,bc])),(2,Up x2),(3,Up x3),(4,Uv i),(6,.c (.bool a1)),(7,Uv b),(8,Uv i2)]) y.next.length ?_ ?_))
        ·exact⟨0,bs,a,ZA,ZA,yk,λr h=>h,λr h=>fQ.bo b gE r ((ej r).1 h),ZC,λh=>.inl h,λh=>⟨h,rfl⟩,by rw[gH];exact kn,rfl⟩
        ·rintro m2 e1 H7 ⟨i2,bs1,a1,eW,jo,iz,g1,g2,g3,k1,k2,kn,rfl⟩;have aK:H7 x3=.st [.ai yi 1 0 i,.ai yo 1 0 i]:=(kn.get (x3,.st [.ai yi 1 0 i,.ai yo 1 0 i]) Zbm).1;obtain⟨b9,_,_,fz⟩:=dw.facts kn ZC;refine Q1 (Qa ?_);simp only[go_sem,iW,b9,gG,iw,fz,gE,Q9 _ _ gE,hy,BlkD.cells,Qb];intro _;refine Wu ?_ ?_
         ·intro a7;have af:i2<y.next.length:=ZF;have wR:=cC.nxl;have b6:y.next.getD i2 0=y.next[i2]:=Zaj;have tq:y.next[i2]∈gnx q b:=(by rw[CD gE,hy];exact Jb af);have hmr:=cC.nx _ (Jb af);obtain⟨mm,dm⟩:=Int.eq_ofNat_of_zero_le (show 0<=y.next[i2]by omega);have mZ:mm<zi.length:=(by rw[cH.i];omega);have xd:mm∈(AH q).nx b:=(by rw[eC];exact Jm.2 ⟨y.next[i2],Jb af,by rw[dm];rfl⟩);have bP:((AH q).nx b).take (i2+1)=((AH q).nx b).take i2++[mm]:=by
           rw[Jf (by rw[eC,Je];exact af)];congr 1;simp only[eC,Jo,dm];rfl
          rw[dm]at tq b6;have yp:b<(zo.set b (z,bs1)).length:=(by simpa using cg);have xg:lvOk R i zi (zo.set b (z,bs1)):=⟨cH.i,by rw[Jp];exact cH.o,cH.li,λp hp=>by
           rcases Jy hp with hp|rfl
           ·exact cH.lo p hp
           ·exact iz⟩
          refine Zd ?_
          refine Wq ?_;simp only[go_sem,aK,iW,b9,gG,iw,fz,gE,Q9 _ _ gE,hy,BlkD.cells,af,Qb,Qo _ _ af,b6];subst hR;subst hn;refine Qbki (F:=H7) (z:=z) (bs:=bs1) (w:=zi[mm].1) (nb:=zi[mm].2) (O:=λr=>bs1.getD r false=true) (I:=tab zi mm) ho (dw.mid kn) (λx hx=>by rw[Jw];exact Ju _ hx) gE tq xg (by rw[List.getElem?_set_self cg]) (by rw[Jj mZ]) (λr=>Iff.rfl) (HW mZ) kn.mid λbs2 f H8 yr fO qW ng k2'=>?_;rw[List.set_set]at k2';have kn:=(kn.comp k2' Ia).drop;have stepT:∀a1',(a1'=(f || a1))->∃m,m<m2/\∃(i5:Nat) (bs1:List Bool) (a1:Bool),m=y.next.length-i5/\i5<=y.next.length/\bs1.length=q.ae.toNat/\(∀r,bs.getD r false=true->bs1.getD r false=true)/\(∀r,bs1.getD r false=true->(AH q).LO b r)/\
            (∀m∈((AH q).nx b).take i5,∀r,tab zi m r\/r∈(AH q).ea b m->bs1.getD r false=true)/\(a1=true->a=true\/cnt bs<cnt bs1)/\(a1=false->a=false/\bs1=bs)/\
            Kn H H8 [] (lvE q.ae.toNat yi yo zi (zo.set b (z,bs1))++BW x2 x3 yi yo q.blocks.length)/\
            [(1,V.c (.pp [Ui q.params,Ui q.ae,bc])),(2,Up x2),(3,Up x3),(4,.c (Ui q.blocks.length)),(6,.c (.bool a1')),(7,Uv b),(8,Uv ((i2:Int)+1))]=[(1,.c (.pp [Ui q.params,Ui q.ae,bc])),(2,Up x2),(3,Up x3),(4,.c (Ui q.blocks.length)),(6,.c (.bool a1)),(7,Uv b),(8,Uv i5)]:=by
           intro a1' ul;refine⟨y.next.length-(i2+1),ZA,i2+1,bs2,a1',rfl,ZA,yr,λr hr=>(fO r).2 (.inl (g1 r hr)),λr hr=>?_,λm hm r hr=>?_,λha=>?_,λha=>?_,kn,rfl⟩
           ·rcases (fO r).1 hr with h|h|h
            ·exact g2 r h
            ·exact⟨mm,xd,.inl (fQ.bi mm (aU b gE mm xd) r h)⟩
            ·exact⟨mm,xd,.inr h⟩
           ·rw[bP]at hm;rcases Jx.1 hm with hm|hm
            ·exact (fO r).2 (.inl (g3 m hm r hr))
            ·simp only[Jd]at hm;subst hm;exact (fO r).2 (.inr hr)
           ·have c1:cnt bs<=cnt bs1:=(Q90 ZA g1).1
            cases hf:f with
            |true=>have:=qW hf;right;omega
            |false=>
             rw[ng hf];rw[ul,hf]at ha;exact k1 ZaF
           ·rw[ul]at ha;have oe:f=false:=by cases hf:f with
             |true=>rw[hf]at ha;simp at ha
             |false=>rfl
            rw[oe]at ha;obtain⟨q1,q2⟩:=k2 ZaF;exact⟨q1,by rw[ng oe,q2]⟩
          cases zO:f with
          |true=>
           simp only[go_sem,PN];refine Zg ?_;exact⟨Qr,stepT true (by rw[zO];rfl)⟩
          |false=>
           simp only[go_sem,PN];refine Zg ?_;exact⟨Qr,stepT a1 (by rw[zO];rfl)⟩
         ·intro a7;have xR:y.next.length<=i2:=ZF;have g3:∀r,(AH q).outT (tab zi) b r->bs1.getD r false=true:=λr ⟨m,hm,hr⟩=>
           g3 m (by rw[Jc (by rw[eC,Je];exact xR)];exact hm) r hr
          refine Zb ?_;refine Zn aK iW ?_;have yp:b<(zo.set b (z,bs1)).length:=(by simpa using cg);obtain⟨nt,pC,px,pU⟩:=Et kn.mid cg (by rw[hz]) cB hw;have cW:Slc H7 1 (AQ R zo) (.ai yo 1 0 i):=⟨by simp only[aW,pC,B4,cH.o];exact⟨trivial,ZA⟩,rfl,by simp only[rowsOf,pC,Jba];exact Jc (by rw[B4,cH.o];exact Jl _),by simp only[ax,B4,cH.o]⟩;have fH:Slc H7 1 (Qs bs1) (.ai z 1 0 R):=⟨by simp only[aW,px,Q0,iz];exact⟨trivial,ZA⟩,rfl,by simp only[rowsOf,px,Jba];exact Jc (by rw[Q0,iz];exact Jl _),by simp only[ax,Q0,iz]⟩;refine Qa5a (i:=-1) (ic:=.ai yi 1 0 i) (bc:=bc) (W:=λr=>bs1.getD r false=true) ho (dw.mid kn).nil gE ZA ZA kn cW rfl rfl (by rw[B4];exact cg) (by rw[ED _ _ _ cg,hz]) fH rfl (by rw[hR];exact iz) (λr=>Iff.rfl) λy9 nb0 H8 nM jU kn=>?_;rw[hR]at nM;simp only[go_sem,Qzp,hR];refine Wa ?_;refine Qh (Qe (Qx (λm2 e1 H1=>∃(i2:Nat) (nb:List Bool),m2=y.ab.length-i2/\i2<=y.ab.length/\nb.length=R/\Mem nb (λr=>(AH q).beh (λr=>bs1.getD r false=true) b 0 r/\r∉((AH q).ph b).take i2)/\
           Kn H H1 [] ((lvE R yi yo zi (zo.set b (z,bs1))++BW x2 x3 yi yo i)++[(y9,.vec 1 (Qs nb))])/\
           e1=[(1,.c (.pp [Ui q.params,Ui q.ae,bc])),(2,Up x2),(3,Up x3),(4,Uv i),(6,.c (.bool a1)),(7,Uv b),(9,.c (.ai y9 1 0 R)),(10,Uv i2)]) y.ab.length ?_ ?_))
          ·exact⟨0,nb0,ZA,ZA,nM,jU.congr λr=>ZC,kn,rfl⟩
          ·clear jU nM kn;rintro m3 e1 H9 ⟨i3,nb,uN,hi3,bC,jE,kn,rfl⟩;have gW:H9 y9=.vec 1 (Qs nb):=(kn.get (y9,.vec 1 (Qs nb)) ZC).1;have htkn:(Qs nb).take R=Qs nb:=Jc Zan;obtain⟨b9,_,_,fz⟩:=dw.facts kn ZC;refine Q1 (Qa ?_);simp only[go_sem,iW,b9,gG,iw,fz,gE,Q9 _ _ gE,hy,BlkD.cells,Qy];intro _;refine Wu ?_ ?_
           ·intro bn;have bF:i3<y.ab.length:=ZR;obtain⟨hv,bO⟩:=(cC.pto _ (Jb bF)).nat;rw[hR]at bO;have qc:((AH q).ph b).take (i3+1)=((AH q).ph b).take i3++[(y.ab[i3].to).toNat]:=by
             rw[Jf (by rw[eJ,Je];exact bF)];simp[eJ]
            have eZ:(y.ab[i3].to).toNat<nb.length:=ZA;generalize hr:(y.ab[i3].to).toNat=r at *;refine Zd ?_
            refine Wr ?_;simp only[go_sem,iW,b9,gG,iw,fz,gE,Q9 _ _ gE,hy,BlkD.cells,bF,Qy,BU _ _ bF,PhiD.cells,hv,bO,gW,Q0,bC,Df,Q6 _ _ eZ,Jn,Jl];intro H10 dh;have kn:=kn.aA (lvE R yi yo zi (zo.set b (z,bs1))++BW x2 x3 yi yo i).length (x:=y9) (o:=.vec 1 (Qs nb)) ZC dh;refine Zg ?_;refine⟨Qr,y.ab.length-(i3+1),ZA,i3+1,nb.set r false,rfl,ZA,by rw[Jp];exact bC,?_,ZL,rfl⟩;refine (jE.del eZ).congr λx=>?_;rw[qc];simp only[Jx,Jd,not_or,and_assoc]
           ·intro bn;have xQ:y.ab.length<=i3:=ZR;have jE:Mem nb ((AH q).thru (λr=>bs1.getD r false=true) b):=jE.congr λr=>(by rw[Jc (by rw[eJ,Je];exact xQ)];rfl);refine Zb ?_;refine Wa ?_;refine Qh (Qe (Qx (λm4 e1 H1=>∃(i4:Nat) (a2:Bool),m4=R-i4/\i4<=R/\H1=H9/\(a2=true->a1=true\/∃r,nb.getD r false≠bw.getD r false)/\(a2=false->a1=false/\∀r,r<i4->nb.getD r false=bw.getD r false)/\
             e1=[(1,.c (.pp [Ui q.params,Ui q.ae,bc])),(2,Up x2),(3,Up x3),(4,Uv i),(6,.c (.bool a2)),(7,Uv b),(9,.c (.ai y9 1 0 R)),(11,Uv i4)]) R ?_ ?_))
            ·exact⟨0,a1,ZA,ZA,rfl,λh=>.inl h,λh=>⟨h,λr hr=>ZA⟩,rfl⟩
            ·have aK:H9 x3=.st [.ai yi 1 0 i,.ai yo 1 0 i]:=(kn.get (x3,.st [.ai yi 1 0 i,.ai yo 1 0 i]) Zbm).1;have knA:=kn.drop;obtain⟨nt,pC,px,pU⟩:=Et knA.mid cg (by rw[hz]) cB hw;rintro m4 e1 H10 ⟨i4,a2,hm4,hi4,rfl,k3,k4,rfl⟩;have qa:∀(zs:List (Nat×List Bool)),zs.length=i->(AQ R zs).take i=AQ R zs:=λzs h=>Jc (by rw[B4];omega);have uB:∀(bs:List Bool),bs.length=R->(Qs bs).take R=Qs bs:=λbs h=>Jc Zan;have gI:zi[b].1=w:=(by rw[hw]);have mi:=cH.i;refine Wa ?_;refine Wu ?_ ?_
             ·intro dc;have jF:i4<R:=(by have:(i4:Int)<q.ae:=(by simpa using dc);omega);have tz:i4<nb.length:=ZA;have tw:i4<bw.length:=ZA;refine Zd ?_
              refine Bk (λe2 H2=>∃(a3:Bool),H2=H10/\(a3=true->a2=true\/nb.getD i4 false≠bw.getD i4 false)/\(a3=false->a2=false/\nb.getD i4 false=bw.getD i4 false)/\
               lk 1 e2=.c (.pp [Ui q.params,Ui q.ae,bc])/\lk 2 e2=Up x2/\lk 3 e2=Up x3/\lk 4 e2=Uv i/\lk 6 e2=.c (.bool a3)/\lk 7 e2=Uv b/\lk 9 e2=.c (.ai y9 1 0 R)/\lk 11 e2=Uv i4) ?_ ?_
              ·intro Q bH _ _;refine Qe ?_
               cases mD:a2 with
               |true=>
                refine AY ?_;simp only[go_sem,aK,nt,pU,gW,qa _ mi,uB _ bC,uB _ om,B4,ED _ _ _ cB,gI,cr,mi,jF,Q0,bC,om,Q6 _ _ tz,Q6 _ _ tw,Jn,Jl];exact bH _ _ ⟨true,rfl,λ_=>.inl mD,λh=>ZH,rfl,rfl,rfl,rfl,rfl,rfl,rfl,rfl⟩
               |false=>
                refine AY ?_;simp only[go_sem,aK,nt,pU,gW,qa _ mi,uB _ bC,uB _ om,B4,ED _ _ _ cB,gI,cr,mi,jF,Q0,bC,om,Q6 _ _ tz,Q6 _ _ tw,Jn,Jl];refine bH _ _ ⟨_,rfl,λh=>?_,λh=>?_,rfl,rfl,rfl,rfl,rfl,rfl,rfl,rfl⟩
                ·right;intro he;rw[he]at h;simp at h
                ·exact⟨mD,ZI⟩
              ·rintro e2 H11 ⟨a3,rfl,q1,q2,l1,l2,l3,l4,l6,l7,l9,l11⟩;refine Qq ?_;simp only[go_sem,X.next,l1,l2,l3,l4,l6,l7,l9,l11];refine⟨Qr,R-(i4+1),ZA,i4+1,a3,rfl,ZA,λh=>?_,λh=>?_,rfl⟩
               ·rcases q1 h with h1|h1
                ·exact k3 h1
                ·exact .inr ⟨i4,h1⟩
               ·obtain⟨h1,h2⟩:=q2 h;obtain⟨h3,h4⟩:=k4 h1;refine⟨h3,λr hr=>?_⟩;by_cases lM:r<i4
                ·exact h4 r lM
                ·have:r=i4:=ZA;subst this;exact h2
             ·intro dc;have xP:i4=R:=(by have:¬(i4:Int)<q.ae:=(by simpa using dc);omega);subst xP;refine Zb ?_;refine Qq ?_;simp only[go_sem,aK,nt,B4,ED _ _ _ cB,cr,mi,Jn,Jl];intro H11 eB;have aC:(AQ i4 zi).set b [.ai y9 1 0 i4]=AQ i4 (zi.set b (y9,nb)):=(by rw[AQ,AQ,Jao]);rw[aC]at eB;have nI:obZ (zi.set b (y9,nb))=(obZ zi).set b (y9,.vec 1 (Qs nb)):=(by rw[obZ,obZ,Jao]);have uJ:=Xw (l:=obZ zi) (i:=b) (x:=(y9,Obj.vec 1 (Qs nb))) (by simpa[obZ]using cB);have kn:Kn H H11 [] ((lvE i4 yi yo (zi.set b (y9,nb)) (zo.set b (z,bs1))++BW x2 x3 yi yo i)++[(obZ zi)[b]'(by simpa[obZ]using cB)]):=by
               have k5:Kn H H11 [] ((([(yi,.vec 1 (AQ i4 (zi.set b (y9,nb)))),(yo,.vec 1 (AQ i4 (zo.set b (z,bs1))))]++(obZ zi++obZ (zo.set b (z,bs1))))++BW x2 x3 yi yo i)++[(y9,.vec 1 (Qs nb))]):=kn.aA 0 (x:=yi) (o:=.vec 1 (AQ i4 zi)) rfl eB;refine k5.perm (Qj λf hf h0 hc hp=>?_);have e1:=hp _ _ uJ;simp only[hf]at e1;simp only[Ui,lvE,hf,nI];omega
              have kn:=kn.drop;have aQ:=fQ.step (y:=y9) aU gE (cH.i.trans hn.symm) (cH.o.trans hn.symm) cH.li cH.lo iz bC cV gJ g1 g2 g3 (λr=>jE r) k1 k2 k3 k4;obtain⟨s1,s2,s3,s4⟩:=aQ;refine bH _ _ ⟨zi.set b (y9,nb),zo.set b (z,bs1),a2,yi,yo,⟨by rw[Jp];exact cH.i,by rw[Jp];exact cH.o,λp hp=>?_,λp hp=>?_⟩,s1,s2,s3,s4,kn,rfl,rfl,rfl,rfl,rfl,rfl⟩
              ·rcases Jy hp with hp|rfl
               ·exact cH.li p hp
               ·exact bC
              ·rcases Jy hp with hp|rfl
               ·exact cH.lo p hp
               ·exact iz
       ·rintro e2 H7 ⟨zi2,zo2,a2,yi2,yo2,xf,tL,t1,t2,t3,kn,l1,l2,l3,l4,l6,l7⟩;refine Qq ?_;simp only[go_sem,X.next,l1,l2,l3,l4,l6,l7];refine⟨Qr,b,ZA,b,(b:Int)-1,zi2,zo2,a2,yi2,yo2,rfl,ZA,rfl,xf,tL,ZA,λha=>?_,λha c dw dr=>?_,kn,rfl⟩
        ·rcases t2 ha with h|h
         ·have:=zj h;omega
         ·omega
        ·obtain⟨u1,u2,u3⟩:=t3 ha;by_cases eL:c=b
         ·subst eL;exact u2
         ·exact u3 c (zm u1 c ZA dr)
      ·intro hc;have hlt0:¬0<=j:=ZD;have ip:m1=0:=ZA;subst ip;refine Zb ?_;refine⟨if a=true then 2 * (i * R)+1-(AS zi+AS zo)else 0,?_,zi,zo,a,yi,yo,rfl,cH,fQ,λha b hb=>zm ha b ZA hb,kn,by first|exact⟨rfl,rfl,rfl,rfl⟩|exact rfl|trivial⟩;split
       ·have:=zj ‹_›;omega
       ·omega
    ·intro haf;have cA:=cA haf;have cK:=fQ.done aU λb hb=>cA b (by rw[<-hn];exact hb);have aK:H5 x3=.st [.ai yi 1 0 i,.ai yo 1 0 i]:=(kn.get (x3,.st [.ai yi 1 0 i,.ai yo 1 0 i]) Zbm).1;have aH:H5 x2=.st [.sl true 1 [],.sl true 1 []]:=(kn.get (x2,.st [.sl true 1 [],.sl true 1 []]) Zbm).1;refine Zb ?_;refine Zn aH aK ?_;intro H6 h6;have kn:Kn H H6 [] (lvE R yi yo zi zo++[(x2,.st [.ai yi 1 0 i,.ai yo 1 0 i]),(x3,.st [.ai yi 1 0 i,.ai yo 1 0 i])]):=by
      have:=kn.aA (lvE R yi yo zi zo).length (x:=x2) (o:=.st [.sl true 1 [],.sl true 1 []]) Zbm h6;simpa[BW]using this
     have aH:H6 x2=.st [.ai yi 1 0 i,.ai yo 1 0 i]:=(kn.get (x2,.st [.ai yi 1 0 i,.ai yo 1 0 i]) ZC).1;have hg:∀p∈lvE R yi yo zi zo,H6 p.1=p.2/\un H p.1=true:=λp hp=>⟨(kn.get p (Jg _ (Ju _ hp))).1,C5 (kn.loc p (Ju _ hp))⟩;have g1:=hg (yi,.vec 1 (AQ R zi)) (by simp[lvE]);have g2:=hg (yo,.vec 1 (AQ R zo)) (by simp[lvE]);refine Zu aH ?_;refine⟨_,(FrzL.cons (FrzR.ai g1.2 g1.1 (by rw[B4,cH.i]) (Kd cH.li λp hp=>hg p (by simp only[lvE];exact Jg _ (Ju _ hp))))
      (FrzL.cons (FrzR.ai g2.2 g2.1 (by rw[B4,cH.o]) (Kd cH.lo λp hp=>hg p (by simp only[lvE];exact Jg _ (Jg _ hp)))) FrzL.nil)).ag,hK zi zo _ kn.fin ⟨by rw[hR,hn];exact cH,λb hb=>cK b hb⟩⟩
end Go.AE.Y
namespace Go.AE.Y
attribute [local go_sem] cond_true cond_false Bool.not_true Bool.not_false
open Go.Proofs.Tryz
variable {H H0:Heap}{K:Uk}{E B Lg:Ul}
theorem Dk {S:Nat->Bool}{a b a' b':V}(h:FrzV H S a a')(k:FrzV H S b b'):FrzV H S (.tup [a,b]) (.tup [a',b']):=by
 refine .tup _ _ rfl λj x x' h1 h2=>?_
 match j with
 |0=>simp at h1 h2;subst h1;subst h2;exact h
 |1=>simp at h1 h2;subst h1;subst h2;exact k
 |j+2=>simp at h1
theorem Dd {S:Nat->Bool}(cs:List CodeD):FrzV H S (.ag [.sl false 3 (Qn cs)]) (.ag [.sl false 3 (Qn cs)]):=FrzL.ag (.cons (FrzR.same (Di cs)).sl .nil)
theorem UnitOk.fits {cs:List CodeD}(h:UnitOk cs):∀c∈cs,c.fits:=λc hc=>(h.2.2 c hc).f
end Go.AE.Y
namespace Go.AE.Y
attribute [local go_sem] cond_true cond_false Bool.not_true Bool.not_false
open Go.Proofs.Tryz
variable {H H0 F:Heap}{K:Uk}{E L:Ul}
variable {q:CodeD}{fl:Bool}
attribute [local instance] Classical.propDecidable
noncomputable def D8 (cs:List CodeD):Int:=if AN cs=true then (AL AI cs:Nat)else -1
theorem Ma {cs:List CodeD}(aU:∀c∈cs,c.fits)(hK:∀(H':Heap),Upd H H' []->K (Uv (D8 cs)) H') :
  Qv prog Qs8 [.ag [.sl fl 3 (Qn cs)]] H K:=by
 refine Qz ?_;refine Qd A6 Qaq2 ?_;refine Wh ?_;refine Qx6 aU λH1 hu=>?_;have kn:=(Kn.ao H).au hu;simp only[go_sem,G3];refine Wu ?_ ?_
 ·intro hc;have hc:=BM hc;refine Za ?_;refine Qk ?_;simp only[go_sem,X.next,Q7,A5,Jd,forall_eq,RS.op];have hK:=hK _ kn.fin;rw[D8,hc]at hK;exact⟨_,.c _ _ (Qg rfl),hK⟩
 intro hc;have hg:=Bi hc;have h800:=(of_decide_eq_true hg).2.2;have dc:cs.length<=4:=by have:=(of_decide_eq_true hg).1;omega
 have bI:D8 cs=(AL AI cs:Nat):=by rw[D8,if_pos hg]
 rw[bI]at hK;refine Zd ?_
 refine Wg ?_;simp only[go_sem,Q5];intro _;refine Qh (Qe (Qx (λm e1 H1=>∃(k:Nat),m=cs.length-k/\k<=cs.length/\Kn H H1 [] []/\
  lk 3 e1=Uv (AL AI (cs.take k):Nat)/\lk 10 e1=.c (.sl fl 3 (Qn cs))/\lk 11 e1=.c (Ui cs.length)/\lk 12 e1=Uv k) cs.length ?_ ?_))
 ·exact⟨0,ZA,ZA,kn,rfl,rfl,rfl,rfl⟩
 ·clear kn;rintro m e1 H2 ⟨k,hm,hk,kn,l3,l10,l11,l12⟩;refine Qa ?_;simp only[go_sem,l3,l10,l11,l12];refine Wu ?_ ?_
  ·intro bB;have af:k<cs.length:=Zar
   have ie:=CE hg af;have mW:=DE (f:=AI) af;have aR:=Dx (f:=AI) (l:=cs) (k+1);have nB:=aU _ (Jb af);obtain⟨q,hq⟩:∃q,cs[k]=q:=⟨_,rfl⟩;rw[hq]at ie mW nB;have bg:=ie.b1;refine Zd ?_
   refine Wb ?_;simp only[go_sem,af,Q5,Cg _ _ af,CodeD.cells,hq];intro x5 bm H3 h3;have kn:=kn.al bm h3;have bm:=kn.l 0 rfl;simp only[go_sem,Qle,bm];intro H4 h4;have kn:Kn H H4 [] ([]++[(x5,.st [Ui q.params,Ui q.ae,.sl false 5 (Qm q.blocks)])]):=kn.aA 0 rfl h4;have bm:=kn.l 0 rfl;refine Qq ?_;simp only[go_sem,bm];refine Q91 nB bg λH5 hu=>?_;have kn:=kn.au hu;simp only[go_sem,Qlf];refine⟨Qr,?_⟩;refine Zh ?_;refine⟨Qr,?_⟩;show ∃m,_;refine⟨cs.length-(k+1),ZA,k+1,rfl,ZA,kn.drop,?_,rfl,rfl,rfl⟩;rw[mW];rfl
  ·intro bB;have bp:cs.length<=k:=Zar
   refine Zb ?_;refine Zi l3 ?_;refine Qk ?_;simp only[go_sem,X.next,Q7,A5,Jd,forall_eq,RS.op];rw[Jc bp];exact⟨_,.c _ _ (Qg rfl),hK _ kn.fin⟩
end Go.AE.Y
namespace Go.AE.Y
open Go.Proofs.Tryz
def Qi9:=dY 69227126882
def Q64:=dZ 0x7210054e5460721
def Q65:=dZ 0x90121013ed011220331 Q64 Qi9
def Qaje:=dZ 0x9012001700432f052f0121 Q65
theorem Qaip:mFn prog Hs 1 8 Qaje P1=true:=ZE
def Qgk:=dY 69226995810
def Qgl:=dY 0x101e18120a2
def Qgm:=dY 0x101e18420e2
def Qyz:=dZ 0x72100285e18560f21
def Qy0:=dZ 0x90121013ed0118420b31 Qyz Qgm
def Qy1:=dW 0x9012108f015120731 [Qy0] [Qgl] [eI 9 (.call RJ [.t 8,.k (.c (.fn Hs []))])]
def Qy2:=dW 0x9012108f011020331 [Qy1] [Qgk] [eI 5 (.call RI [.t 4,.k (.c (.fn Hr []))])]
def Q63:=dZ 0x9012017004727532f052f0121 Qy2
theorem Q6m:mFn prog Qk6 1 16 Q63 Oo=true:=ZE
end Go.AE.Y
namespace Go.AE.Y
attribute [local go_sem] cond_true cond_false Bool.not_true Bool.not_false
open Go.Proofs.Tryz
variable {H H0 F:Heap}{K:Uk}{E L:Ul}
theorem Qbe1 {x:PhiD}(hl:x.args.length<=LIM)(hK:∀H',Upd H H' []->K (.ag x.cells) H'):Qv prog Hr [.ag x.cells] H K:=by
 refine Qz ?_;refine Qd A6 Qaq3 ?_;refine Qa ?_;simp only[go_sem,PhiD.cells];intro x2 aH H1 h1;have kn:=(Kn.ao H).al aH h1;refine Zz ?_;refine Ev kn hl λt Lg H2 ay bt kn=>?_;have aH:=kn.l 0 rfl;simp only[go_sem,Qlg,aH];intro H3 h3;have kn:Kn H H3 [] ([(x2,.st [Ui x.to,t])]++Lg):=kn.aA 0 rfl h3;have aH:=kn.l 0 rfl;refine Qk ?_;simp only[go_sem,Q7,A5,Jd,forall_eq,RS.op,bt,aH];exact⟨_,FrzL.ag (.cons (Qg rfl) (.cons (ay.frz kn (Qw _)) .nil)),hK _ kn.fin⟩
theorem Qbe0 {x:InsD}(hl:x.args.length<=LIM)(hK:∀H',Upd H H' []->K (.ag x.cells) H'):Qv prog Hs [.ag x.cells] H K:=by
 refine Qz ?_;refine Qd A6 Qaip ?_;refine Zy ?_;intro x1 cE H0 h0;have kn:=(Kn.ao H).al cE h0;intro x2 aH H1 h1;have kn:=kn.al aH h1;have cE:=kn.l 0 rfl;refine Zi cE ?_;refine Ev kn hl λt Lg H2 ay bt kn=>?_;have cE:=kn.l 0 rfl;simp only[go_sem,Qi9,cE];intro H3 h3;have kn:=kn.aA 0 rfl h3;have cE:=kn.l 0 rfl;have aH:=kn.l 1 rfl;refine Zp cE aH bt ?_;intro H4 h4;have kn:Kn H H4 [] ([(x1,.st [Ui x.op,Ui x.to,t,Ui x.n]),(x2,.st [Ui x.op,Ui x.to,t,Ui x.n])]++Lg):=kn.aA 1 rfl h4;have aH:=kn.l 1 rfl;refine Qk ?_;simp only[go_sem,Q7,A5,Jd,forall_eq,RS.op,bt,aH];exact⟨_,FrzL.ag (.cons (Qg rfl) (.cons (Qg rfl) (.cons (ay.frz kn (Qw _)) (.cons (Qg rfl) .nil)))),hK _ kn.fin⟩
theorem YN {l:List PhiD}{fl:Bool}(hl:l.length<=2 ^ 38)(ha:∀x∈l,x.args.length<=LIM)(kn:Kn H0 H E L)(hK:∀t Lg H',Gr Lg 2 (Q3 l) t->Kn H0 H' E (L++Lg)->K (.c t) H') :
  Qv prog RI [.c (.sl fl 2 (Q3 l)),.c (.fn Hr [])] H K:=by
 refine Qd A6 Qv3 ?_;refine Wd ?_;refine Q1 (Qa ?_);simp only[go_sem,Qy];intro _;refine Qh (Qe (Qx (λm e1 H1=>∃(i:Nat) (t:C) (Lg:Ul),m=l.length-i/\i<=l.length/\Gr Lg 2 (Q3 (l.take i)) t/\Kn H0 H1 E (L++Lg)/\
  e1=[(1,.c (.fn Hr [])),(5,.c t),(8,.c (.sl fl 2 (Q3 l))),(9,.c (Ui l.length)),(10,Uv i)]) l.length ?_ ?_))
 ·exact⟨0,_,[],ZA,ZA,.nil 2,ZL,rfl⟩
 ·clear kn;rintro m e1 H1 ⟨i,t,Lg,hm,hi,ay,kn,rfl⟩;have gk:=ay.ah;refine Za ?_;refine Wu ?_ ?_
  ·intro hc;have af:i<l.length:=ZD
   obtain⟨p,hp⟩:∃p,l[i]=p:=⟨_,rfl⟩;have ee:p∈l:=ZaY
   have bP:l.take (i+1)=l.take i++[p]:=by rw[Jf af,hp]
   refine Zd ?_
   refine Wb ?_;simp only[go_sem,af,Qy,BU _ _ af,PhiD.cells,hp];intro x7 b7 H2 h2;have kn:=kn.al b7 h2;have b7:H2 x7=.st [Ui 0,.sl true 1 []]:=(kn.get (x7,.st [Ui 0,.sl true 1 []]) ZC).1;simp only[go_sem,Qdr,b7];intro H3 h3;have kn:Kn H0 H3 E ((L++[(x7,.st [Ui p.to,.sl false 1 (Qc p.args)])])++Lg):=by
    have:=kn.aA (L++Lg).length (x:=x7) (o:=.st [Ui 0,.sl true 1 []]) ZC h3;refine Kn.perm (by simpa using this) (Qj λf hf h0 hc hp=>by simp only[Ui,hf];omega)
   have b7:H3 x7=.st [Ui p.to,.sl false 1 (Qc p.args)]:=(kn.get (x7,.st [Ui p.to,.sl false 1 (Qc p.args)]) ZC).1;refine Qq ?_;simp only[go_sem,b7,Jae,Jan];refine Qbe1 (x:=p) (ha p ee) λH4 hu=>?_;have kn:=kn.au hu;simp only[go_sem,Qdt,PhiD.cells];have gK:(l.take i).length<=l.length:=by rw[J2];omega
   refine kn.br (new:=Q3 [p]) ay (.mk' _ _ _ _) (PJ _) (by simp only[Qy,LIM,Ji,Jh];omega) λt2 Lg2 H5 bW di kn=>?_;simp only[go_sem,DA];refine Zg ?_;refine⟨Qr,l.length-(i+1),ZA,i+1,t2,Lg2,rfl,ZA,?_,?_,rfl⟩
   ·rw[bP];have:Q3 (l.take i++[p])=Q3 (l.take i)++Q3 [p]:=(by simp[Q3]);rw[this];exact bW
   ·exact Kn.drop (B:=[(x7,.st [Ui p.to,.sl false 1 (Qc p.args)])]) (kn.perm (Qj λf hf h0 hc hp=>by simp only[Ui,hf];omega))
  ·intro hc;have bp:l.length<=i:=ZD
   rw[Jc bp]at ay;refine Wc ?_;refine Zq ?_;exact hK t Lg H1 ay kn
theorem Qblx {l:List InsD}{fl:Bool}(hl:l.length<=2 ^ 38)(ha:∀x∈l,x.args.length<=LIM)(kn:Kn H0 H E L)(hK:∀t Lg H',Gr Lg 4 (AD l) t->Kn H0 H' E (L++Lg)->K (.c t) H') :
  Qv prog RJ [.c (.sl fl 4 (AD l)),.c (.fn Hs [])] H K:=by
 refine Qd A6 Qv2 ?_;refine Wd ?_;refine Q1 (Qa ?_);simp only[go_sem,Bm];intro _;refine Qh (Qe (Qx (λm e1 H1=>∃(i:Nat) (t:C) (Lg:Ul),m=l.length-i/\i<=l.length/\Gr Lg 4 (AD (l.take i)) t/\Kn H0 H1 E (L++Lg)/\
  e1=[(1,.c (.fn Hs [])),(5,.c t),(8,.c (.sl fl 4 (AD l))),(9,.c (Ui l.length)),(10,Uv i)]) l.length ?_ ?_))
 ·exact⟨0,_,[],ZA,ZA,.nil 4,ZL,rfl⟩
 ·clear kn;rintro m e1 H1 ⟨i,t,Lg,hm,hi,ay,kn,rfl⟩;have gk:=ay.ah;refine Za ?_;refine Wu ?_ ?_
  ·intro hc;have af:i<l.length:=ZD
   obtain⟨p,hp⟩:∃p,l[i]=p:=⟨_,rfl⟩;have ee:p∈l:=ZaY
   have bP:l.take (i+1)=l.take i++[p]:=by rw[Jf af,hp]
   refine Zd ?_
   refine Wb ?_;simp only[go_sem,af,Bm,DJ _ _ af,InsD.cells,hp];intro x7 b7 H2 h2;have kn:=kn.al b7 h2;have b7:H2 x7=.st [Ui 0,Ui 0,.sl true 1 [],Ui 0]:=(kn.get (x7,.st [Ui 0,Ui 0,.sl true 1 [],Ui 0]) ZC).1;simp only[go_sem,Qdo,b7];intro H3 h3;have kn:Kn H0 H3 E ((L++[(x7,.st [Ui p.op,Ui p.to,.sl false 1 (Qc p.args),Ui p.n])])++Lg):=by
    have:=kn.aA (L++Lg).length (x:=x7) (o:=.st [Ui 0,Ui 0,.sl true 1 [],Ui 0]) ZC h3;refine Kn.perm (by simpa using this) (Qj λf hf h0 hc hp=>by simp only[Ui,hf];omega)
   have b7:H3 x7=.st [Ui p.op,Ui p.to,.sl false 1 (Qc p.args),Ui p.n]:=(kn.get (x7,.st [Ui p.op,Ui p.to,.sl false 1 (Qc p.args),Ui p.n]) ZC).1;refine Qq ?_;simp only[go_sem,b7,Jae,Jan];refine Qbe0 (x:=p) (ha p ee) λH4 hu=>?_;have kn:=kn.au hu;simp only[go_sem,Qdq,InsD.cells];have gK:(l.take i).length<=l.length:=by rw[J2];omega
   refine kn.br (new:=AD [p]) ay (.mk' _ _ _ _) (EV _) (by simp only[Bm,LIM,Ji,Jh];omega) λt2 Lg2 H5 bW di kn=>?_;simp only[go_sem,DA];refine Zg ?_;refine⟨Qr,l.length-(i+1),ZA,i+1,t2,Lg2,rfl,ZA,?_,?_,rfl⟩
   ·rw[bP];have:AD (l.take i++[p])=AD (l.take i)++AD [p]:=(by simp[AD]);rw[this];exact bW
   ·exact Kn.drop (B:=[(x7,.st [Ui p.op,Ui p.to,.sl false 1 (Qc p.args),Ui p.n])]) (kn.perm (Qj λf hf h0 hc hp=>by simp only[Ui,hf];omega))
  ·intro hc;have bp:l.length<=i:=ZD
   rw[Jc bp]at ay;refine Wc ?_;refine Zq ?_;exact hK t Lg H1 ay kn
def kRow (y:BlkD)(pc:C):List C:=[pc,.sl false 4 (AD y.ins),.int .i64 y.jump,.int .i64 y.on,.sl false 1 (Qc y.next)]
structure BlkD.cl (y:BlkD):Prop where
 i:y.ins.length<=2 ^ 38
 p:y.ab.length<=2 ^ 38
 n:y.next.length<=LIM
 ia:∀x∈y.ins,x.args.length<=LIM
 pa:∀x∈y.ab,x.args.length<=LIM
structure KBlk where
 y:BlkD
 pc:C
 pl:Ul
def KBlk.row (b:KBlk):List C:=kRow b.y b.pc
def KBlk.ok (b:KBlk):Prop:=Gr b.pl 2 (Q3 b.y.ab) b.pc
theorem KBlk.ak {b:KBlk}(h:b.ok):Go.AE.ak b.row=true:=by
 have:=h.ah;simp only[Go.AE.ak,KBlk.row,kRow,Jay,Ja3,this];rfl
end Go.AE.Y
namespace Go.AE.Y
attribute [local go_sem] cond_true cond_false Bool.not_true Bool.not_false
open Go.Proofs.Tryz
variable {H H0 F:Heap}{K:Uk}{E L B pl:Ul}
theorem KW (l:List PhiD)(i:Nat)(x:PhiD):(Q3 l).set i x.cells=Q3 (l.set i x):=by simp[Q3,Jao]
end Go.AE.Y
namespace Go.AE.Y
attribute [local go_sem] cond_true cond_false Bool.not_true Bool.not_false
open Go.Proofs.Tryz
variable {H H0 F:Heap}{K:Uk}{E L B:Ul}{q:CodeD}
theorem CodeD.ok.fts (h:q.ok):q.fits:=λy hy=>by
 obtain⟨b,hb,rfl⟩:=Jq.1 hy;have:=h.il b hb;omega
theorem CodeD.ok.cl (h:q.ok):∀y∈q.blocks,y.cl:=λy hy=>by
 obtain⟨b,hb,rfl⟩:=Jq.1 hy;have h1:=h.il b hb;have h2:=h.bs b hb;have h3:=h2.nxl;have h4:=h.b1;refine⟨ZA,ZA,by simp only[LIM];omega,λx hx=>?_,λx hx=>?_⟩
 ·have:=h2.al x hx;simp only[LIM];omega
 ·have:=h2.pal x hx;have h5:=CA (gnx q) (b:Int) q.blocks.length;simp only[LIM];omega
end Go.AE.Y
namespace Go.AE
variable {H0 H H':Heap}{E L B Lg:Ul}{S:Nat->Bool}
theorem Kn.cw (kn:Kn H0 H E (B++Lg)):∃S:Nat->Bool,(∀p∈Lg,H p.1=p.2/\S p.1=true)/\(∀p∈B,H p.1=p.2/\S p.1=false)/\FrzH H S (H.frz S)/\Kn H0 (H.frz S) E B:=by
 have hd:=kn.dL;rw[Jw]at hd;obtain⟨d1,d2,d3⟩:=Jbf.1 hd;have keyB:∀m,m∉Lg.map Prod.fst->(Lg.map Prod.fst).contains m=false:=λm hm=>by
  cases hc:(Lg.map Prod.fst).contains m with
  |false=>rfl
  |true=>exact absurd (J0.1 hc) hm
 have key:∀m,m∉Lg.map Prod.fst->(H.frz λm=>(Lg.map Prod.fst).contains m) m=H m:=λm hm=>by
  simp only[Heap.frz,keyB m hm];rfl
 have hB:∀p∈B,p.1∉Lg.map Prod.fst:=λp hp hh=>d3 _ (AV hp) _ hh rfl;refine⟨λm=>(Lg.map Prod.fst).contains m,λp hp=>⟨(kn.get p (Jg _ (Jg _ hp))).1,J0.2 (AV hp)⟩,
  λp hp=>⟨(kn.get p (Jg _ (Ju _ hp))).1,keyB _ (hB p hp)⟩,CP _ _,?_⟩
 refine⟨λp hp=>?_,kn.ext,λp hp=>kn.loc p (Ju _ hp),kn.dE,d1,λm hm hx=>?_⟩
 ·have hg:H p.1=p.2/\p.2≠.none:=kn.get p (by
   rcases Jx.1 hp with h|h
   ·exact Ju _ h
   ·exact Jg _ (Ju _ h))
  refine⟨?_,hg.2⟩;rw[key p.1 (λhh=>?_)];exact hg.1;rcases Jx.1 hp with h|h
  ·obtain⟨r,hr,he⟩:=Jm.1 hh;exact kn.ext p h (he▸kn.loc r (Jg _ hr))
  ·exact hB p h hh
 ·rw[key m (λhh=>?_)]
  ·exact kn.chg m hm hx
  ·obtain⟨r,hr,he⟩:=Jm.1 hh;exact hm (he▸kn.loc r (Jg _ hr))
theorem EN {e e':Env}(h:∀p∈e',FrzV H S (lk p.1 e) p.2):∀t,FrzV H S (lk t e) (lk t e'):=λt=>by
 induction e' with
 |nil=>exact .unk _
 |cons p e' ih=>
  obtain⟨s,v⟩:=p;by_cases ht:t=s
  ·subst ht;have:=h (t,v) J7;simpa[lk]using this
  ·have:=ih λp hp=>h p (Jv _ hp);simpa[lk,ht]using this
theorem FrzO.vecR {sz:Nat}{rows rows':List (List C)}(h:Y.FrzR H S rows rows')(hn:∀r∈rows,ak r=true):FrzO H S (.vec sz rows) (.vec sz rows'):=by
 refine .vec sz rows rows' h.spec.1 (λi r r' h1 h2=>(h.spec.2 i r r' h1 h2).spec.1) λi r r' j c c' h1 h2 h3 h4=>.inr ⟨?_,(h.spec.2 i r r' h1 h2).spec.2 j c c' h3 h4⟩;exact Y.noOw_mem hn r (Jax h1) c (Jax h3)
end Go.AE
namespace Go.AE.Y
variable {H H0:Heap}{E L R B Lg:Ul}{S:Nat->Bool}
theorem Dm {α:Type}{f g:α->List C}:∀(l:List α),(∀x∈l,FrzL H S (f x) (g x))->FrzR H S (l.map f) (l.map g)
 |[],_=>.nil
 |x::l,h=>.cons (h x J7) (Dm l λy hy=>h y (Jv _ hy))
theorem I5 {is:List OIns}(h:Held H S (is.flatMap OIns.lg)):FrzR H S (is.map OIns.row) (AD (is.map OIns.d)):=by
 rw[AD,J6];exact Dm is λx hx=>x.frz (h.m hx)
theorem Ks {ph:List OPhi}(ho:∀p∈ph,p.ok)(h:Held H S (ph.flatMap OPhi.lg)):FrzR H S (ph.map OPhi.row) (Q3 (ph.map OPhi.d)):=by
 rw[Q3,J6];exact Dm ph λx hx=>x.frz (ho x hx) (h.m hx)
theorem OBlk.gh {o:OBlk}(aw:o.ok){x8:Nat}(kn:Kn H0 H E ([(x8,.st o.row)]++(R++o.lg))) :
  ∃S H3 pl,FrzH H S H3/\Gr pl 2 (Q3 o.d.ab) o.pc/\Kn H0 H3 E ([(x8,.st (kRow o.d o.pc))]++(R++pl)):=by
 have kn:Kn H0 H E (([(x8,.st o.row)]++(o.pl++R))++(o.nx.lg++(o.ab.flatMap OPhi.lg++(o.ins.flatMap OIns.lg++o.il)))):=kn.perm (Qj λf hf h0 hc hp=>by
  simp only[Ui,hf,OBlk.lg];omega)
 obtain⟨S,hS,hB,eK,kn⟩:=kn.cw;have rr:Held H S (o.nx.lg++(o.ab.flatMap OPhi.lg++(o.ins.flatMap OIns.lg++o.il))):=hS;have iB:=Gr.frzM aw.i rr.r.r.r (I5 rr.r.r.l);have eJ:=Ks aw.a rr.r.l;have eC:=o.nx.frz rr.l;have be:=hB (x8,.st o.row) ZC;have f1:FrzH H S ((H.frz S).set x8 (.st (kRow o.d o.pc))):=eK.set be.2 (by
  rw[be.1];exact FrzKL.st (.same (.cons aw.i.ah iB (.same (.same (.cons rfl eC .nil))))))
 have kn:=kn.setL (o':=.st (kRow o.d o.pc)) 0 rfl ZC;have kn:Kn H0 ((H.frz S).set x8 (.st (kRow o.d o.pc))) E ([(x8,.st (kRow o.d o.pc))]++(o.pl++R)):=kn;rcases aw.p with ⟨h1,h2,h3⟩|⟨z,h1,h2⟩
 ·have wB:o.ab=[]:=List.map_eq_nil_iff.1 h2;refine⟨S,_,[],f1,?_,by rw[h3]at kn;simpa using kn⟩;rw[h1];simp only[OBlk.d,wB,Jan];exact .nil 2
 ·rw[h2]at kn;have hz:=hB (z,.vec 2 (o.ab.map OPhi.row)) Zai;have bx:∀r∈o.ab.map OPhi.row,Go.AE.ak r=true:=λr hr=>by
   obtain⟨p,hp,rfl⟩:=Jm.1 hr;exact p.ak (aw.a p hp)
  refine⟨S,_,[(z,.vec 2 (Q3 o.d.ab))],f1.set (o:=.vec 2 (Q3 o.d.ab)) hz.2 (by rw[hz.1];exact .vecR eJ bx),?_,?_⟩
  ·rw[h1];exact .mk _ _ _ (by simp[OBlk.d,Qy])
  ·have kn:=kn.setL (o':=.vec 2 (Q3 o.d.ab)) 1 rfl ZC;exact kn.perm (Qj λf hf h0 hc hp=>by
    show f ([(x8,_)]++([(z,_)]++R))=_;simp only[Ui,hf];omega)
def Qt (q:CodeD)(b:Nat):BlkD:=q.blocks.getD b ⟨[],[],0,0,[]⟩
theorem AP {q:CodeD}{b:Nat}(h:b<q.blocks.length):Qt q b=q.blocks[b]:=by simp[Qt,Ja,h]
theorem Bq {q:CodeD}{b:Nat}(h:b<q.blocks.length):gnx q b=(Qt q b).next:=by rw[AP h,CD h]
structure Pk (q:CodeD)(l:List Nat):Prop where
 n:l.length<=160
 z:l[0]? = some 0
 lt:∀x∈l,x<q.blocks.length
 cl:∀x∈l,∀v∈gnx q x,v.toNat∈l
def pkY (q:CodeD)(P:List Int)(b:Nat):BlkD:=⟨(Qt q b).ab,(Qt q b).ins,(Qt q b).jump,(Qt q b).on,(Qt q b).next.map λv=>P.getD v.toNat 0⟩
def pkN (q:CodeD)(P:List Int)(l:List Nat):Nat->List Int:=λi=>(l.map λb=>(pkY q P b).next).getD i []
structure PkB (q:CodeD)(P:List Int)(b:Nat)(y:BlkD):Prop where
 j:y.jump=(Qt q b).jump
 o:y.on=(Qt q b).on
 i:y.ins=(Qt q b).ins
 n:y.next=(pkY q P b).next
 t:y.ab.map PhiD.to=(Qt q b).ab.map PhiD.to
def PkA (q:CodeD)(P:List Int)(l:List Nat)(j:Nat)(p:PhiD):Prop:=p.args.length=(Qp (pkN q P l) (j:Int) l.length).length/\∀v∈p.args,rIn q v
structure PkR (q d:CodeD):Prop where
 ok:d.ok
 p:d.params=q.params
 r:d.ae=q.ae
 i:∀y∈d.blocks,∃y0∈q.blocks,y.ins=y0.ins/\y.ab.length=y0.ab.length
variable {q:CodeD}{P:List Int}{l:List Nat}
theorem Pk.get (hp:Pk q l){j:Nat}(hj:j<l.length):l.getD j 0=l[j]/\l[j]∈l/\l[j]<q.blocks.length:=
 ⟨by simp[Ja,hj],Jb hj,hp.lt _ (Jb hj)⟩
theorem Pk.to (ho:q.ok)(hp:Pk q l)(hP:C0 q.blocks.length l P){b:Nat}(hb:b∈l){w:Int}(hw:w∈(Qt q b).next):1<=w/\w.toNat<P.length/\∃i,∃h:i<l.length,l[i]=w.toNat/\P.getD w.toNat 0=(i:Int)/\1<=i:=by
 have af:=hp.lt b hb;have h1:1<=w/\w<q.blocks.length:=by
  rw[AP af]at hw;exact (ho.bs b af).nx w hw
 have h2:=hp.cl b hb w (by rw[Bq af];exact hw);obtain⟨i,hi,h3,h4⟩:=hP.2 _ h2;refine⟨h1.1,by rw[hP.1];exact hp.lt _ h2,i,hi,h3,h4,?_⟩;have hz:=hp.z;by_cases h0:i=0
 ·subst h0;rw[Jj hi,h3]at hz;have:=Jah hz;omega
 ·omega
theorem EI {j:Nat}(hj:j<l.length):pkN q P l j=(pkY q P l[j]).next:=by simp[pkN,Ja,hj]
theorem Pk.preds (ho:q.ok)(hp:Pk q l)(hP:C0 q.blocks.length l P){j:Nat}(hj:j<l.length){m:Int}(hm:m∈Qp (pkN q P l) (j:Int) l.length) :
  ∃j',∃h:j'<l.length,m=(j':Int)/\((l[j']:Nat):Int)∈Qp (gnx q) ((l[j]:Nat):Int) q.blocks.length:=by
 simp only[Qp,Jm,Jab,Jz]at hm;obtain⟨j',⟨h1,h2⟩,rfl⟩:=hm;refine⟨j',h1,rfl,?_⟩;have h3:=J0.1 h2;rw[EI h1]at h3;obtain⟨w,hw,h4⟩:=Jm.1 h3;obtain⟨g1,g2⟩:=(hp.get h1).2;obtain⟨w1,_,i,hi,h5,h6,_⟩:=hp.to ho hP g1 hw;have gC:i=j:=ZA
 subst gC;simp only[Qp,Jm,Jab,Jz];refine⟨l[j'],⟨g2,J0.2 ?_⟩,rfl⟩;rw[Bq g2,h5];have e:((w.toNat:Nat):Int)=w:=ZA
 rw[e];exact hw
theorem CodeD.ok.sg (h:q.ok):q.sg:=⟨by have:=h.b1;omega,λy hy=>by
 obtain⟨b,hb,rfl⟩:=Jq.1 hy;have h1:=h.il b hb;have h2:=h.bs b hb;have h3:=h2.nxl;have h4:=h.b1;refine⟨ZA,ZA,ZA,λx hx=>by have:=h2.al x hx;omega,λx hx=>?_⟩;have:=h2.pal x hx;have h5:=CA (gnx q) (b:Int) q.blocks.length;omega⟩
theorem SE (ho:q.ok)(hp:Pk q l)(hP:C0 q.blocks.length l P){d:CodeD}(h1:d.params=q.params)(h2:d.ae=q.ae)(hl:d.blocks.length=l.length)
  (hb:∀j (h:j<d.blocks.length),PkB q P (l.getD j 0) d.blocks[j]/\∀p∈d.blocks[j].ab,PkA q P l j p):PkR q d:=by
 have hg:gnx d=pkN q P l:=by
  funext i
  by_cases hi:i<l.length
  ·have bN:i<d.blocks.length:=ZA
   rw[EI hi,CD bN,(hb i bN).1.n,(hp.get hi).1]
  ·have bN:¬i<d.blocks.length:=ZA
   rw[gnx,pkN,Ja,Ja,Jr (by simpa using bN),Jr ZU]
 have hr:∀v,rIn q v->rIn d v:=λv hv=>by simp only[rIn,h2]at hv⊢;exact hv
 have i8:0<l.length:=by
  have:=hp.z
  cases l with
  |nil=>simp at this
  |cons=>simp
 have hn:=hp.n;refine⟨⟨by rw[h2];exact ho.r0,by rw[h2];exact ho.r1,ZA,ZA,λb h=>?_,λb h=>?_⟩,h1,h2,λy hy=>?_⟩
 ·have bk:b<l.length:=ZA
  obtain⟨g,ga⟩:=hb b h;obtain⟨e1,e2,e3⟩:=hp.get bk;rw[e1]at g;have o:=ho.bs _ e3;rw[<-AP e3]at o;have gt:∀p∈d.blocks[b].ab,rIn q p.to:=λp cp=>by
   have:p.to∈d.blocks[b].ab.map PhiD.to:=Jm.2 ⟨p,cp,rfl⟩;rw[g.t]at this;obtain⟨p0,iN,he⟩:=Jm.1 this;rw[<-he];exact o.pto p0 iN
  refine⟨by rw[g.n];simpa[pkY]using o.nxl,λv hv=>?_,by rw[g.j];exact o.jmp,λhj=>by rw[g.j]at hj;rw[g.o];exact hr _ (o.on hj),λx hx v hv=>?_,λx hx hm=>?_,λx hx=>hr _ (gt x hx),λx hx v hv=>hr _ ((ga x hx).2 v hv),λx hx=>?_,λx hx=>?_⟩
  ·rw[g.n]at hv;obtain⟨w,hw,rfl⟩:=Jm.1 hv;obtain⟨_,_,i,hi,_,h6,h7⟩:=hp.to ho hP e2 hw;rw[h6];omega
  ·rw[g.i]at hx;exact hr _ (o.args x hx v hv)
  ·rw[g.i]at hx;exact hr _ (o.to x hx hm)
  ·rw[(ga x hx).1,hg,hl]
  ·rw[g.i]at hx;exact o.al x hx
 ·have bk:b<l.length:=ZA
  obtain⟨g,ga⟩:=hb b h;obtain⟨e1,e2,e3⟩:=hp.get bk;rw[e1]at g;have gi:=g.i;have h3:=congrArg List.length g.t;rw[AP e3]at gi h3;have:=ho.il _ e3;simp only[Je]at h3;rw[gi];omega
 ·obtain⟨b,h,rfl⟩:=Jq.1 hy;have bk:b<l.length:=ZA
  obtain⟨g,ga⟩:=hb b h;obtain⟨e1,e2,e3⟩:=hp.get bk;rw[e1]at g;have gi:=g.i;have h3:=congrArg List.length g.t;rw[AP e3]at gi h3;simp only[Je]at h3;exact⟨_,Jb e3,gi,h3⟩
theorem YM {α:Type}{f:α->α}{l:List α}{k:Nat}(hk:k<l.length):((l.take k).map f++l.drop k).set k (f l[k])=(l.take (k+1)).map f++l.drop (k+1):=by
 have h1:((l.take k).map f).length=k:=ZG
 rw[Ja8 _ _ ZA,h1,Jbh,Jas hk,Jbd,Jf hk,Jw];simp
end Go.AE.Y
namespace Go.AE.Y
def mix {α:Type}(f:α->α)(is:List α)(k:Nat):List α:=(is.take k).map f++is.drop k
theorem Ct {α:Type}(f:α->α)(is:List α)(k:Nat):(mix f is k).length=is.length:=by
 simp only[mix,J4,Je,J2,List.length_drop];omega
theorem CV {α:Type}{f:α->α}{is:List α}{i:Nat}(h:i<is.length)(h2:i<(mix f is i).length):(mix f is i)[i]=is[i]:=by
 have hl:((is.take i).map f).length=i:=by rw[Je,J2];omega
 simp only[mix];rw[List.getElem_append_right ZA];simp only[hl,Jbh,List.getElem_drop,Jbo]
theorem Dz {α:Type}{f:α->α}{is:List α}{i:Nat}(h:i<is.length):(mix f is i).set i (f is[i])=mix f is (i+1):=by
 have hl:((is.take i).map f).length=i:=by rw[Je,J2];omega
 rw[mix,mix,Ja8 _ _ ZA,hl,Jbh,Jas h,Jbd,Jf h,Jw,Jau];rfl
theorem GQ {α:Type}(f:α->α)(is:List α):mix f is 0=is:=by simp[mix]
theorem D0 {α:Type}(f:α->α)(is:List α){i:Nat}(h:is.length<=i):mix f is i=is.map f:=by
 rw[mix,Jc h,List.drop_of_length_le h,Jae]
variable {nx:Nat->List Int}{n:Nat}
theorem GP (nx:Nat->List Int)(b:Int)(n:Nat):(Qp nx b n).Nodup:=by
 rw[Qp,List.nodup_iff_pairwise_ne,Ja5];exact List.Pairwise.imp (λbf he=>bf (Int.ofNat.inj he)) (Ja2 Jbb Jbl)
theorem preds_mem {nx:Nat->List Int}{b w:Int}{n:Nat}:w∈Qp nx b n↔∃j:Nat,j<n/\b∈nx j/\w=j:=by
 simp only[Qp,Jm,Jab,Jz,J0];constructor
 ·rintro⟨j,⟨h1,h2⟩,rfl⟩;exact⟨j,h1,h2,rfl⟩
 ·rintro⟨j,h1,h2,rfl⟩;exact⟨j,⟨h1,h2⟩,rfl⟩
theorem Vz {q:CodeD}{b:Nat}(h:q.blocks.length<=b):gnx q b=[]:=by
 rw[gnx,Ja,Jr ZI];rfl
end Go.AE.Y
namespace Go.AE.Y
attribute [local go_sem] cond_true cond_false Bool.not_true Bool.not_false
open Go.Proofs.Tryz
variable {H H0:Heap}{K:Uk}{E B Lg:Ul}
theorem OBlk.row_eq (o:OBlk):o.row=[o.pc,o.ic,Ui o.jump,Ui o.on,.ai o.nx.y 1 0 o.nx.ns.length]:=rfl
def OBlk.rest (o:OBlk):List (Nat×Obj):=o.ab.flatMap OPhi.lg++(o.pl++(o.ins.flatMap OIns.lg++o.il))
theorem OBlk.lg_eq (o:OBlk):o.lg=[(o.nx.y,.vec 1 (Qc o.nx.ns))]++o.rest:=rfl
theorem KBlk.row_eq (b:KBlk):b.row=[b.pc,.sl false 4 (AD b.y.ins),Ui b.y.jump,Ui b.y.on,.sl false 1 (Qc b.y.next)]:=rfl
structure PkS (q:CodeD)(P:List Int)(l:List Nat)(i:Nat)(ks:List KBlk):Prop where
 n:ks.length=l.length
 b:∀j (h:j<ks.length),PkB q P (l.getD j 0) ks[j].y
 ok:∀b∈ks,b.ok
 a:∀j (h:j<ks.length),j<i->∀p∈ks[j].y.ab,PkA q P l j p
 u:∀j (h:j<ks.length),i<=j->ks[j].y.ab=(Qt q (l.getD j 0)).ab
theorem BT {α β:Type}{f:α->List β}:∀{l:List α} {i:Nat} (h:i<l.length),(l.flatMap f).Perm (f l[i]++(l.eraseIdx i).flatMap f)
 |[],i,h=>ZH
 |x::l,0,h=>ZC
 |x::l,i+1,h=>by
  have:=BT (f:=f) (l:=l) (i:=i) ZI;simp only[Jag,Jal,List.eraseIdx_cons_succ];refine (List.Perm.append_left _ this).trans ?_;rw[<-Jau,<-Jau];exact List.Perm.append_right _ Jk
theorem vslc {H:Heap}{z sz n:Nat}{rows:List (List C)}(h:H z=.vec sz rows)(hn:n=rows.length):Slc H sz rows (.ai z sz 0 n):=by
 subst hn;exact⟨by simp only[aW,h,Jn,Jl,and_self],rfl,by simp only[rowsOf,h,Jba,J9],rfl⟩
variable {q:CodeD}{P:List Int}{l:List Nat}{ks:List KBlk}
theorem PkS.step {i:Nat}(hS:PkS q P l i ks)(hi:i<ks.length){ph:List PhiD}{pl:Ul}(h1:ph.map PhiD.to=(Qt q (l.getD i 0)).ab.map PhiD.to)(h2:∀p∈ph,PkA q P l i p)(hg:Gr pl 2 (Q3 ph) ks[i].pc) :
  PkS q P l (i+1) (ks.set i ⟨⟨ph,ks[i].y.ins,ks[i].y.jump,ks[i].y.on,ks[i].y.next⟩,ks[i].pc,pl⟩):=by
 have hb:=hS.b i hi;refine⟨by rw[Jp];exact hS.n,λj h=>?_,λw hw=>?_,λj h hj=>?_,λj h hj=>?_⟩
 ·have h':j<ks.length:=ZI
  rw[J5];split
  ·rename_i e;subst e;exact⟨hb.j,hb.o,hb.i,hb.n,h1⟩
  ·exact hS.b j h'
 ·rcases Jy hw with h|rfl
  ·exact hS.ok w h
  ·exact hg
 ·have h':j<ks.length:=ZI
  rw[J5];split
  ·rename_i e;subst e;exact h2
  ·exact hS.a j h' ZA
 ·have h':j<ks.length:=ZI
  rw[J5];split
  ·omega
  ·exact hS.u j h' ZA
theorem PkS.rows {i:Nat}{ph:List PhiD}{pl:Ul}(hi:i<ks.length):(ks.set i ⟨⟨ph,ks[i].y.ins,ks[i].y.jump,ks[i].y.on,ks[i].y.next⟩,ks[i].pc,pl⟩).map KBlk.row=ks.map KBlk.row:=by
 rw[Jao];have:(KBlk.mk ⟨ph,ks[i].y.ins,ks[i].y.jump,ks[i].y.on,ks[i].y.next⟩ ks[i].pc pl).row=(ks.map KBlk.row)[i]'ZU:=by simp[KBlk.row,kRow]
 rw[this,Ja9]
end Go.AE.Y
namespace Go.AE.Y
attribute [local go_sem] cond_true cond_false Bool.not_true Bool.not_false
attribute [local instance] Classical.propDecidable
open Go.Proofs.Tryz
variable {H H0:Heap}{K:Uk}
def nwA (q:CodeD)(P:List Int)(l:List Nat)(i:Nat)(args:List Int):List Int:=
 (Qp (pkN q P l) (i:Int) l.length).map λw=>args.getD ((Qp (gnx q) ((l.getD i 0:Nat):Int) q.blocks.length).idxOf ((l.getD w.toNat 0:Nat):Int)) 0
def nwP (q:CodeD)(P:List Int)(l:List Nat)(i:Nat)(p:PhiD):PhiD:=⟨p.to,nwA q P l i p.args⟩
structure PkZ (q:CodeD)(P:List Int)(l:List Nat)(i:Nat)(ks:List KBlk):Prop where
 n:ks.length=l.length
 b:∀j (h:j<ks.length),PkB q P (l.getD j 0) ks[j].y
 ok:∀b∈ks,b.ok
 a:∀j (h:j<ks.length),j<i->ks[j].y.ab=(Qt q (l.getD j 0)).ab.map (nwP q P l j)
 u:∀j (h:j<ks.length),i<=j->ks[j].y.ab=(Qt q (l.getD j 0)).ab
variable {q:CodeD}{P:List Int}{l:List Nat}{ks:List KBlk}
theorem PkZ.step {i:Nat}(hS:PkZ q P l i ks)(hi:i<ks.length){ph:List PhiD}{pl:Ul}(h1:ph.map PhiD.to=(Qt q (l.getD i 0)).ab.map PhiD.to)(h2:ph=(Qt q (l.getD i 0)).ab.map (nwP q P l i))(hg:Gr pl 2 (Q3 ph) ks[i].pc) :
  PkZ q P l (i+1) (ks.set i ⟨⟨ph,ks[i].y.ins,ks[i].y.jump,ks[i].y.on,ks[i].y.next⟩,ks[i].pc,pl⟩):=by
 have hb:=hS.b i hi;refine⟨by rw[Jp];exact hS.n,λj h=>?_,λw hw=>?_,λj h hj=>?_,λj h hj=>?_⟩
 ·have h':j<ks.length:=ZI
  rw[J5];split
  ·rename_i e;subst e;exact⟨hb.j,hb.o,hb.i,hb.n,h1⟩
  ·exact hS.b j h'
 ·rcases Jy hw with h|rfl
  ·exact hS.ok w h
  ·exact hg
 ·have h':j<ks.length:=ZI
  rw[J5];split
  ·rename_i e;subst e;exact h2
  ·exact hS.a j h' ZA
 ·have h':j<ks.length:=ZI
  rw[J5];split
  ·omega
  ·exact hS.u j h' ZA
def pkX (q:CodeD)(P:List Int)(l:List Nat)(i:Nat):BlkD:=⟨(Qt q (l.getD i 0)).ab.map (nwP q P l i),(Qt q (l.getD i 0)).ins,(Qt q (l.getD i 0)).jump,(Qt q (l.getD i 0)).on,(pkY q P (l.getD i 0)).next⟩
def pkD (q:CodeD)(P:List Int)(l:List Nat):CodeD:=⟨q.params,q.ae,(List.range l.length).map (pkX q P l)⟩
theorem HF (ho:q.ok)(hp:Pk q l)(hP:C0 q.blocks.length l P){j:Nat}(hj:j<l.length){p:PhiD}(h:p∈(Qt q (l.getD j 0)).ab.map (nwP q P l j)):PkA q P l j p:=by
 obtain⟨p0,h0,rfl⟩:=Jm.1 h;obtain⟨g0,g1,g2⟩:=hp.get hj;have cC:=ho.bs _ g2;rw[g0,AP g2]at h0;refine⟨by rw[nwP,nwA,Je],λv hv=>?_⟩;obtain⟨w,hw,rfl⟩:=Jm.1 hv;obtain⟨j',bE,rfl,ej⟩:=hp.preds ho hP hj hw;have e:l.getD ((j':Int)).toNat 0=l[j']:=by rw[Jaq];exact (hp.get bE).1
 rw[e,g0];have dD:=cC.pal p0 h0;have pf:(Qp (gnx q) ((l[j]:Nat):Int) q.blocks.length).idxOf ((l[j']:Nat):Int)<p0.args.length:=by
  rw[dD];exact Jt ej
 exact cC.pargs p0 h0 _ (Gz pf)
theorem Qbf6 {H0 H:Heap}{E:Ul}{Q:X->Env->Heap->Prop}{e:Env}{fl fl2:Bool}{x4 x6 zb:Nat}{ks0:List KBlk}(ho:q.ok)(hp:Pk q l)(hP:C0 q.blocks.length l P)(hS:PkZ q P l 0 ks0)
  (kn:Kn H0 H E ([(x4,.st [Ui 0,Ui 0,.sl true 5 []]),(x6,.st [Ui q.params,Ui q.ae,.ai zb 5 0 l.length]),(zb,.vec 5 (ks0.map KBlk.row))]++ks0.flatMap KBlk.pl))
  (l1:lk 1 e=.c (.sl fl2 1 (AA l))) (l2:lk 2 e=.c (.pp [Ui q.params,Ui q.ae,.sl fl 5 (Qm q.blocks)])) (l4:lk 4 e=Up x4) (l6:lk 6 e=Up x6)
  (hQ:∀(e:Env) (H':Heap) (ks:List KBlk),PkZ q P l l.length ks->Kn H0 H' E ([(x4,.st [Ui q.params,Ui q.ae,.ai zb 5 0 l.length]),(x6,.st [Ui q.params,Ui q.ae,.ai zb 5 0 l.length]),(zb,.vec 5 (ks.map KBlk.row))]++ks.flatMap KBlk.pl)->
   lk 4 e=Up x4->Q .ret e H'):A9 prog Q3r Q e H:=by
 have bg:=ho.b1;have oT:=hp.n;obtain⟨X4,Aj⟩:∃o,o=Obj.st [Ui 0,Ui 0,.sl true 5 []]:=⟨_,rfl⟩;obtain⟨X6,mH⟩:∃o,o=Obj.st [Ui q.params,Ui q.ae,.ai zb 5 0 l.length]:=⟨_,rfl⟩;rw[<-Aj,<-mH]at kn;refine Q1 (Qa ?_);simp only[go_sem,l1,l2,l4,l6];refine Qh (Qe (Qx (λm e1 H1=>∃(i:Nat) (ks:List KBlk),m=l.length-i/\i<=l.length/\PkZ q P l i ks/\
  Kn H0 H1 E ([(x4,X4),(x6,X6),(zb,.vec 5 (ks.map KBlk.row))]++ks.flatMap KBlk.pl)/\
  lk 1 e1=.c (.sl fl2 1 (AA l))/\lk 2 e1=.c (.pp [Ui q.params,Ui q.ae,.sl fl 5 (Qm q.blocks)])/\lk 4 e1=Up x4/\lk 6 e1=Up x6/\lk 10 e1=Uv i) l.length ?_ ?_))
 ·exact⟨0,ks0,ZA,ZA,hS,kn,rfl,rfl,rfl,rfl,rfl⟩
 ·clear kn hS l1 l2 l4 l6;rintro m e1 H1 ⟨i,ks,hm,hi,hS,kn,l1,l2,l4,l6,l10⟩;have ce:=hS.n;refine Q1 (Qa ?_);simp only[go_sem,l1,l2,l4,l6,l10,Q4];try intro _
  refine Wu ?_ ?_
  ·intro hc;have af:i<l.length:=ZD
   have oZ:i<ks.length:=ZA
   obtain⟨b,hb⟩:∃b,l[i]=b:=⟨_,rfl⟩;have ka:b∈l:=by rw[<-hb];exact Jb af
   have cr:=hp.lt b ka;have b6:l.getD i 0=b:=by simp[Ja,af,hb]
   obtain⟨kb,df⟩:∃kb,ks[i]=kb:=⟨_,rfl⟩;have fP:Gr kb.pl 2 (Q3 kb.y.ab) kb.pc:=by rw[<-df];exact hS.ok _ (Jb oZ)
   have hkbB:PkB q P b kb.y:=by have:=hS.b i oZ;rw[b6,df]at this;exact this
   have qM:kb.y.ab=(Qt q b).ab:=by have:=hS.u i oZ (Jl _);rw[b6,df]at this;exact this
   have cC:=ho.bs b cr;have cj:=ho.il b cr;rw[<-AP cr]at cC cj;obtain⟨R,hR⟩:∃R,(ks.eraseIdx i).flatMap KBlk.pl=R:=⟨_,rfl⟩;have eR:(ks.flatMap KBlk.pl).Perm (kb.pl++R):=by rw[<-hR,<-df];exact BT oZ
   obtain⟨RW,em⟩:∃RW,ks.map KBlk.row=RW:=⟨_,rfl⟩;have ba:RW.length=l.length:=by rw[<-em,Je,ce]
   have aX:RW.getD i []=[kb.pc,.sl false 4 (AD kb.y.ins),Ui kb.y.jump,Ui kb.y.on,.sl false 1 (Qc kb.y.next)]:=by
    rw[<-em,Ja];simp only[J8,Jj oZ,df,Jap,Jaw];exact kb.row_eq
   have bu:RW.take l.length=RW:=Jc ZA;rw[em]at kn;have aZ:H1 x6=X6:=(kn.get (x6,X6) ZC).1;rw[mH]at aZ;refine Zd ?_
   refine Qh (Qe ?_);refine AC ?_;simp only[go_sem,af,Q4,BJ _ _ af,b6];refine DG (nx:=gnx q) (.mk' _ _ _ _) rfl (Dl H1 q fl).x λH2 hu=>?_;have kn:=kn.au hu;simp only[go_sem,Qze,Ql];obtain⟨olds,ev⟩:∃o,Qp (gnx q) (b:Int) q.blocks.length=o:=⟨_,rfl⟩;rw[ev];have aZ:H2 x6=X6:=(kn.get (x6,X6) ZC).1;rw[mH]at aZ;have bY:H2 zb=.vec 5 RW:=(kn.get (zb,.vec 5 RW) ZC).1;refine Zi aZ ?_;refine DG (nx:=pkN q P l) (vslc bY ba.symm) rfl (λj hj=>?_) λH3 hu=>?_
   ·have bE:j<ks.length:=ZA;have gB:j<l.length:=ZA;have zK:=hS.b j bE;rw[(hp.get gB).1]at zK;refine⟨ks[j].pc,.sl false 4 (AD ks[j].y.ins),Ui ks[j].y.jump,Ui ks[j].y.on,false,?_⟩;rw[<-em,Ja];simp only[J8,Jj bE,Jap,Jaw];rw[EI gB,<-zK.n];exact KBlk.row_eq _
   have kn:=kn.au hu;rw[ba];obtain⟨news,jk⟩:∃o,Qp (pkN q P l) (i:Int) l.length=o:=⟨_,rfl⟩;rw[jk];have bC:news.length<=l.length:=by rw[<-jk];exact CA _ _ _
   simp only[go_sem,Qzf];refine Za ?_;have kn:Kn H0 H3 E (([(x4,X4),(x6,X6),(zb,.vec 5 RW)]++R)++kb.pl):=kn.perm (Qj λf hf h0 hc hp=>by
    have:=hp _ _ eR;simp only[Ui,hf]at this⊢;omega)
   refine Qe (Qx (λm e1 H1=>∃(k:Nat) (ph:List PhiD) (pl:Ul),m=ph.length-k/\k<=ph.length/\ph=mix (nwP q P l i) (Qt q b).ab k/\Gr pl 2 (Q3 ph) kb.pc/\
    Kn H0 H1 E (([(x4,X4),(x6,X6),(zb,.vec 5 RW)]++R)++pl)/\
    lk 1 e1=.c (.sl fl2 1 (AA l))/\lk 2 e1=.c (.pp [Ui q.params,Ui q.ae,.sl fl 5 (Qm q.blocks)])/\lk 4 e1=Up x4/\lk 6 e1=Up x6/\lk 10 e1=Uv i/\lk 11 e1=.c (.sl false 1 (Qc olds))/\lk 12 e1=.c (.sl false 1 (Qc news))/\lk 13 e1=Uv k) kb.y.ab.length ?_ ?_)
   ·exact⟨0,kb.y.ab,kb.pl,ZA,ZA,by rw[qM,GQ],fP,kn,rfl,rfl,rfl,rfl,rfl,rfl,rfl,rfl⟩
   ·clear kn aZ bY eR hu l1 l2 l4 l6 l10;rintro m2 e2 H4 ⟨k,ph,pl,eW,hk,eF,ay,kn,l1,l2,l4,l6,l10,l11,l12,l13⟩;have j5:ph.length=(Qt q b).ab.length:=(by rw[eF,Ct]);have aZ:H4 x6=X6:=(kn.get (x6,X6) ZC).1;rw[mH]at aZ;have bY:H4 zb=.vec 5 RW:=(kn.get (zb,.vec 5 RW) ZC).1;have fK:=ay.ah;have fL:=eq_true (ay.get kn).1;have du:=ay.ax;rw[Qy]at du;refine Q1 (Qa ?_);simp only[go_sem,l1,l2,l4,l6,l10,l11,l12,l13,aZ,bY,ba,bu,aX,af,fK,fL,du,Jn,Jl];try intro _
    refine Wu ?_ ?_
    ·intro a7;have aN:k<ph.length:=ZF;obtain⟨z,ik,cQ⟩:∃z,kb.pc=.ai z 2 0 ph.length/\pl=[(z,.vec 2 (Q3 ph))]:=by
      rcases ay with ⟨_,h,_⟩|⟨y,h1,h2⟩
      ·have:=congrArg List.length h;rw[Qy]at this;simp only[Jh]at this;omega
      ·exact⟨y,by rw[h1,Qy],h2⟩
     rw[ik]at aX;rw[cQ]at kn;clear fK fL du;obtain⟨p,sW⟩:∃p,ph[k]=p:=⟨_,rfl⟩;have ip:k<(Qt q b).ab.length:=ZA;have iN:(Qt q b).ab[k]=p:=by
      rw[<-sW];subst eF;exact (CV ip aN).symm
     have ee:p∈(Qt q b).ab:=(by rw[<-iN];exact Jb ip);obtain⟨NA,rU⟩:∃NA,nwA q P l i p.args=NA:=⟨_,rfl⟩;have hNl:NA.length=news.length:=(by rw[<-rU,nwA,Je,jk]);have lU:p.args.length=olds.length:=(by rw[<-ev];exact cC.pal p ee);have wE:=cC.pargs p ee;have nC:(Q3 ph).take ph.length=Q3 ph:=Jc (by rw[Qy];omega);have kq:(Q3 ph).getD k []=[Ui p.to,.sl false 1 (Qc p.args)]:=(by rw[BU _ _ aN,sW];rfl);refine Zd ?_
     refine Wf ?_;refine Wa ?_;refine Qh (Qe (Qx (λm e1 H1=>∃(j:Nat) (av:List Int) (t:C) (Lg:Ul),m=news.length-j/\j<=news.length/\av=NA.take j/\Gr Lg 1 (Qc av) t/\
      Kn H0 H1 E (([(x4,X4),(x6,X6),(zb,.vec 5 RW)]++R++[(z,.vec 2 (Q3 ph))])++Lg)/\
      lk 1 e1=.c (.sl fl2 1 (AA l))/\lk 2 e1=.c (.pp [Ui q.params,Ui q.ae,.sl fl 5 (Qm q.blocks)])/\lk 4 e1=Up x4/\lk 6 e1=Up x6/\lk 10 e1=Uv i/\lk 11 e1=.c (.sl false 1 (Qc olds))/\lk 12 e1=.c (.sl false 1 (Qc news))/\lk 13 e1=Uv k/\
      lk 14 e1=.c t/\lk 15 e1=Uv j) news.length ?_ ?_))
     ·exact⟨0,[],_,[],ZA,ZA,ZC,.nil 1,ZL,rfl,rfl,rfl,rfl,rfl,rfl,rfl,rfl,rfl,rfl⟩
     ·clear kn aZ bY l1 l2 l4 l6 l10 l11 l12 l13;rintro m3 e3 H5 ⟨j,av,t,Lg,uN,hj,jJ,fW,kn,l1,l2,l4,l6,l10,l11,l12,l13,l14,l15⟩;have gk:=fW.ah;have ov:av.length=j:=(by rw[jJ,J2];omega);refine Q1 (Qa ?_);simp only[go_sem,l1,l2,l4,l6,l10,l11,l12,l13,l14,l15,Qb];try intro _
      refine Wu ?_ ?_
      ·intro bn;have bF:j<news.length:=ZR;have kx:news[j]∈Qp (pkN q P l) (i:Int) l.length:=(by rw[jk];exact Jb bF);obtain⟨j',bE,wS,ej⟩:=hp.preds ho hP af kx;rw[hb,ev]at ej;have qS:news.getD j 0=(j':Int):=(by rw[<-wS];simp[Ja,bF]);have tQ:l.getD j' 0=l[j']:=(by simp[Ja,bE]);have aZ:H5 x6=X6:=(kn.get (x6,X6) ZC).1;rw[mH]at aZ;have bY:H5 zb=.vec 5 RW:=(kn.get (zb,.vec 5 RW) ZC).1;have hz:H5 z=.vec 2 (Q3 ph):=(kn.get (z,.vec 2 (Q3 ph)) ZC).1;refine Zd ?_
       refine Wq ?_;simp only[go_sem,aZ,bY,hz,ba,bu,aX,af,aN,nC,kq,Qy,bF,Qb,Qo _ _ bF,qS,bE,Q4,BJ _ _ bE,tQ,Jn,Jl];refine D1 (ns:=olds) (.mk' _ _ _ _) rfl λr hr=>?_;obtain⟨a,ha⟩:∃a,olds.idxOf ((l[j']:Nat):Int)=a:=⟨_,rfl⟩;have ra:r=(a:Int):=(by rw[<-ha];exact hr.idx ej);have dD:a<olds.length:=(by rw[<-ha];exact Jt ej);have yI:j<NA.length:=ZA;have ve:NA[j]=p.args.getD a 0:=by
        subst rU;simp only[nwA,Jo,b6,ev];have e:(Qp (pkN q P l) (i:Int) l.length)[j]'(by rw[jk];exact bF)=(j':Int):=by
         subst jk;exact wS
        rw[e,Jaq,tQ,ha]
       have mB:a<p.args.length:=ZA;simp only[go_sem,Qzh,ra,aZ,bY,hz,ba,bu,aX,af,aN,nC,kq,Qy,mB,Qb,Qo _ _ mB,Jn,Jl];refine kn.br (new:=Qc [p.args.getD a 0]) fW (.mk' _ _ _ _) (Qw _) (by simp only[Qb,LIM,Ji,Jh];omega) λt2 Lg2 H6 mj di kn=>?_;simp only[go_sem,Qzg];refine Zh ?_;refine⟨Qr,?_⟩;show ∃m,_;refine⟨news.length-(j+1),ZA,j+1,av++[p.args.getD a 0],t2,Lg2,rfl,ZA,by rw[jJ,Jf yI,ve],by rw[De];exact mj,kn,rfl,rfl,rfl,rfl,rfl,rfl,rfl,rfl,rfl,ZB⟩
      ·intro bn;have nU:j=news.length:=(by have:news.length<=j:=(by simpa using bn);omega);have jJ:av=NA:=(by rw[jJ,Jc (by omega)]);subst jJ;have iH:=Dz (f:=nwP q P l i) ip;rw[iN,nwP,rU]at iH;refine Zb ?_;obtain⟨S,jK,kN,eK,kn⟩:=kn.cw;have nY:FrzC H5 S t (.sl false 1 (Qc av)):=Gr.frzM fW jK (FrzR.same (Qw _));refine c_gh (DK S (EN ?_) eK) (e':=[(1,.c (.sl fl2 1 (AA l))),(2,.c (.pp [Ui q.params,Ui q.ae,.sl fl 5 (Qm q.blocks)])),(4,Up x4),(6,Up x6),(10,Uv i),(11,.c (.sl false 1 (Qc olds))),(12,.c (.sl false 1 (Qc news))),(13,Uv k),(14,.c (.sl false 1 (Qc av)))]) ?_
       ·simp only[J3];exact⟨.c _ _ (.same _ rfl),.c _ _ (.same _ rfl),.c _ _ (.same _ rfl),.c _ _ (.same _ rfl),.c _ _ (.same _ rfl),.c _ _ (.same _ rfl),.c _ _ (.same _ rfl),.c _ _ (.same _ rfl),.c _ _ nY,ZC⟩
       generalize H5.frz S=H6 at *;have aZ:H6 x6=X6:=(kn.get (x6,X6) ZC).1;rw[mH]at aZ;have bY:H6 zb=.vec 5 RW:=(kn.get (zb,.vec 5 RW) ZC).1;have hz:H6 z=.vec 2 (Q3 ph):=(kn.get (z,.vec 2 (Q3 ph)) ZC).1;have bK:(Q3 ph).set k [Ui p.to,.sl false 1 (Qc av)]=Q3 (ph.set k ⟨p.to,av⟩):=KW ph k ⟨p.to,av⟩;refine Qq ?_;simp only[go_sem,aZ,bY,hz,ba,bu,aX,af,aN,kq,bK,Qy,Jn,Jl];intro H7 h7;have kn:Kn H0 H7 E (([(x4,X4),(x6,X6),(zb,.vec 5 RW)]++R)++[(z,.vec 2 (Q3 (ph.set k ⟨p.to,av⟩)))]):=by
        have:=kn.aA ([(x4,X4),(x6,X6),(zb,Obj.vec 5 RW)]++R).length (x:=z) (o:=.vec 2 (Q3 ph)) ZC h7;simpa using this
       refine Zh ?_;refine⟨Qr,?_⟩;show ∃m,_;refine⟨ph.length-(k+1),ZA,k+1,ph.set k ⟨p.to,av⟩,_,by rw[Jp],by rw[Jp];omega,by rw[eF];exact iH,?_,kn,rfl,rfl,rfl,rfl,rfl,rfl,rfl,ZB⟩;rw[ik];exact .mk _ _ _ (by rw[Qy,Jp])
    ·intro a7;have bp:ph.length<=k:=ZF;refine Zb ?_;refine Zh ?_;refine⟨Qr,?_⟩;show ∃m,_;have j6:ph=(Qt q b).ab.map (nwP q P l i):=(by rw[eF,D0 _ _ (by omega)]);have aQ:=hS.step oZ (ph:=ph) (pl:=pl) (by rw[b6,j6,J6];rfl) (by rw[b6];exact j6) (by rw[df];exact ay);have cL:=PkS.rows (ks:=ks) (ph:=ph) (pl:=pl) oZ;have dk:=BT (f:=KBlk.pl) (l:=ks.set i ⟨⟨ph,ks[i].y.ins,ks[i].y.jump,ks[i].y.on,ks[i].y.next⟩,ks[i].pc,pl⟩) (i:=i) (by rw[Jp];exact oZ);rw[Jav,Jar,hR]at dk;generalize ks.set i ⟨⟨ph,ks[i].y.ins,ks[i].y.jump,ks[i].y.on,ks[i].y.next⟩,ks[i].pc,pl⟩=ks' at *;have kn:Kn H0 H4 E ([(x4,X4),(x6,X6),(zb,.vec 5 (ks'.map KBlk.row))]++ks'.flatMap KBlk.pl):=by
      rw[cL,em];refine kn.perm (Qj λf hf h0 hc hp=>?_);have:=hp _ _ dk;simp only[Ui,hf]at this⊢;omega
     exact⟨l.length-(i+1),ZA,i+1,ks',rfl,ZA,aQ,kn,rfl,rfl,rfl,rfl,ZB⟩
  ·intro hc;have iA:i=l.length:=by have:l.length<=i:=ZD;omega
   subst iA;refine Zb ?_;have aY:=kn.l 0 rfl;have aZ:=kn.l 1 rfl;rw[mH]at aZ;rw[Aj]at aY;refine Zn aY aZ ?_;intro H2 h2;have kn:=kn.aA 0 rfl h2;refine Qk ?_;refine hQ _ _ ks hS ?_ ZB;rw[mH]at kn;exact kn
theorem Qbfj {q:CodeD}{fl fl2:Bool}{l:List Nat}(ho:q.ok)(hp:Pk q l)
  (hK:∀(d:CodeD) z H',PkR q d->(∃P,C0 q.blocks.length l P/\d=pkD q P l)->Kn H H' [] [(z,.vec 5 (Qm d.blocks))]->K (.ag [Ui d.params,Ui d.ae,.ai z 5 0 d.blocks.length]) H') :
  Qv prog L8 [.ag [Ui q.params,Ui q.ae,.sl fl 5 (Qm q.blocks)],.c (.sl fl2 1 (AA l))] H K:=by
 have bg:=ho.b1;have oT:=hp.n;have i8:0<l.length:=by
  have:=hp.z
  cases l with
  |nil=>simp at this
  |cons=>simp
 refine CG ?_;refine Qd A6 Qbk7 ?_;refine Za ?_;intro x4 aY H1 h1;have kn:=(Kn.ao H).al aY h1;refine Qa ?_;simp only[go_sem,Ql];try intro _
 refine Qbfk (n:=q.blocks.length) ZA ZA hp.lt λP H2 hP hu=>?_;have kn:=kn.au hu;simp only[go_sem,Pu];refine Za ?_;intro x6 aZ H3 h3;have kn:=kn.al aZ h3;have aZ:=kn.l 1 rfl;simp only[go_sem,Q3t,aZ];intro H4 h4;have kn:Kn H H4 [] [(x4,.st [Ui 0,Ui 0,.sl true 5 []]),(x6,.st [Ui q.params,Ui q.ae,.sl true 5 []])]:=kn.aA 1 rfl h4;refine Wa ?_;refine Qh (Qe (Qx (λm e1 H1=>∃(ks:List KBlk) (bc:C) (bl:Ul),m=l.length-ks.length/\ks.length<=l.length/\ks.map KBlk.y=(l.take ks.length).map (pkY q P)/\(∀b∈ks,b.ok)/\Gr bl 5 (ks.map KBlk.row) bc/\
  Kn H H1 [] (([(x4,.st [Ui 0,Ui 0,.sl true 5 []]),(x6,.st [Ui q.params,Ui q.ae,bc])]++ks.flatMap KBlk.pl)++bl)/\
  lk 1 e1=.c (.sl fl2 1 (AA l))/\lk 2 e1=.c (.pp [Ui q.params,Ui q.ae,.sl fl 5 (Qm q.blocks)])/\lk 4 e1=Up x4/\lk 5 e1=.c (.sl false 1 (Qc P))/\lk 6 e1=Up x6/\lk 7 e1=.c (Ui ks.length)) l.length ?_ ?_))
 ·exact⟨[],_,[],ZC,ZC,ZC,ZC,.nil 5,ZL,rfl,rfl,rfl,rfl,rfl,rfl⟩
 ·clear kn aZ;rintro m e1 H5 ⟨ks,bc,bl,hm,ce,nP,kA,ay,kn,l1,l2,l4,l5,l6,l7⟩;have iW:=ay.ah;refine Q1 (Qa ?_);simp only[go_sem,l1,l2,l4,l5,l6,l7,Q4];try intro _
  refine Wu ?_ ?_
  ·intro hc;have af:ks.length<l.length:=ZD
   obtain⟨b,hb⟩:∃b,l[ks.length]=b:=⟨_,rfl⟩;have ka:b∈l:=by rw[<-hb];exact Jb af
   have cr:=hp.lt b ka;have b6:l.getD ks.length 0=b:=by simp[Ja,af,hb]
   refine Zd ?_
   refine Qh (Qe ?_);refine AC ?_;simp only[go_sem,af,Q4,BJ _ _ af,b6,cr,Ql,Q9 _ _ cr,BlkD.take5,BlkD.bv,BlkD.len5];refine Qx9 (ho.sg.bs _ (Jb cr)) λo H6 k2 aw gy _=>?_;have kn:=kn.comp0 k2;rw[<-AP cr]at gy;have bt:=o.ak aw;have fK:=aw.p.ah;have jG:=aw.i.ah;simp only[go_sem,Q3v];intro x8 be H7 h7;have kn:=(kn.al be h7).perm Jk;have be:=kn.l 0 rfl;simp only[go_sem,Q3u,be,o.row_eq,af,Q4,BJ _ _ af,b6,cr,Ql,Q9 _ _ cr,BlkD.take5,BlkD.bv,BlkD.len5];intro H8 h8;have kn:Kn H H8 [] ([(o.nx.y,.vec 1 (Qc o.nx.ns))]++([(x8,.st [o.pc,o.ic,Ui o.jump,Ui o.on,.ai o.nx.y 1 0 o.nx.ns.length])]++(([(x4,.st [Ui 0,Ui 0,.sl true 5 []]),(x6,.st [Ui q.params,Ui q.ae,bc])]++ks.flatMap KBlk.pl)++bl)++o.rest)):=
    (kn.aA 0 rfl h8).perm (Qj λf hf h0 hc hp=>by
     show f ([(x8,_)]++(_++_))=_;simp only[Ui,o.lg_eq,hf];omega)
   clear be;have dv:o.nx.ns=(Qt q b).next:=Zbh
   have hns2:o.nx.ns.length<=2:=by rw[dv,AP cr];exact (ho.bs b cr).nxl
   refine Wa ?_;refine Qh (Qe (Qx (λm e1 H1=>∃(k:Nat) (ns:List Int),m=o.nx.ns.length-k/\k<=o.nx.ns.length/\ns=(o.nx.ns.take k).map (λv=>P.getD v.toNat 0)++o.nx.ns.drop k/\
    Kn H H1 [] ([(o.nx.y,.vec 1 (Qc ns))]++([(x8,.st [o.pc,o.ic,Ui o.jump,Ui o.on,.ai o.nx.y 1 0 o.nx.ns.length])]++(([(x4,.st [Ui 0,Ui 0,.sl true 5 []]),(x6,.st [Ui q.params,Ui q.ae,bc])]++ks.flatMap KBlk.pl)++bl)++o.rest))/\
    lk 1 e1=.c (.sl fl2 1 (AA l))/\lk 2 e1=.c (.pp [Ui q.params,Ui q.ae,.sl fl 5 (Qm q.blocks)])/\lk 4 e1=Up x4/\lk 5 e1=.c (.sl false 1 (Qc P))/\lk 6 e1=Up x6/\lk 7 e1=.c (Ui ks.length)/\lk 8 e1=Up x8/\lk 9 e1=Uv k) o.nx.ns.length ?_ ?_))
   ·exact⟨0,o.nx.ns,ZA,ZA,ZC,kn,rfl,rfl,rfl,rfl,rfl,rfl,rfl,rfl⟩
   ·clear kn;rintro m2 e2 H9 ⟨k,ns,eW,hk,lY,kn,l1,l2,l4,l5,l6,l7,l8,l9⟩;have bC:ns.length=o.nx.ns.length:=(by rw[lY];simp;omega);have be:H9 x8=.st [o.pc,o.ic,Ui o.jump,Ui o.on,.ai o.nx.y 1 0 o.nx.ns.length]:=(kn.get (x8,.st [o.pc,o.ic,Ui o.jump,Ui o.on,.ai o.nx.y 1 0 o.nx.ns.length]) ZC).1;have hy:=kn.l 0 rfl;refine Q1 (Qa ?_);simp only[go_sem,l1,l2,l4,l5,l6,l7,l8,l9,be,hy,Qb,bC,Jn,Jl];try intro _
    refine Wu ?_ ?_
    ·intro a7;have aN:k<o.nx.ns.length:=ZF;obtain⟨w,hw⟩:∃w,o.nx.ns[k]=w:=⟨_,rfl⟩;have mU:w∈(Qt q b).next:=(by rw[<-dv,<-hw];exact Jb aN);obtain⟨w1,w2,_⟩:=hp.to ho hP ka mU;have xS:ns.getD k 0=w:=by
      rw[lY,Ja,List.getElem?_append_right (by rw[Je,J2];exact Nat.min_le_left _ _)];simp[aN,hw,Nat.min_eq_left (Nat.le_of_lt aN)]
     have tD:k<ns.length:=ZA;have bP:(Qc ns).take o.nx.ns.length=Qc ns:=Jc Zab;have jQ:=YM (f:=λv=>P.getD v.toNat 0) aN;rw[hw]at jQ;have u7:w=(w.toNat:Int):=ZA;refine Zd ?_
     refine Wq ?_;generalize hr:w.toNat=r at *;simp only[go_sem,be,hy,bP,aN,Qb,bC,Qo _ _ tD,xS,u7,w2,Qo _ _ w2,DI,Jn,Jl];intro H10 dh;have kn:=kn.aA 0 rfl dh;refine Zh ?_;refine⟨Qr,?_⟩;show ∃m,_;exact⟨o.nx.ns.length-(k+1),ZA,k+1,ns.set k (P.getD r 0),rfl,ZA,by rw[lY];exact jQ,kn,rfl,rfl,rfl,rfl,rfl,rfl,rfl,rfl⟩
    ·intro a7;have bp:o.nx.ns.length<=k:=ZF;rw[Jc bp,List.drop_eq_nil_of_le bp,Jae]at lY;refine Zb ?_;obtain⟨o2,kW⟩:∃o2:OBlk,o2=⟨o.ab,o.pc,o.pl,o.ins,o.ic,o.il,o.jump,o.on,⟨ns,o.nx.y⟩⟩:=⟨_,rfl⟩;have fd:o2.ok:=(by rw[kW];exact⟨aw.p,aw.i,aw.a⟩);have eT:o2.d=pkY q P b:=by
      rw[kW,pkY,<-gy];simp only[OBlk.d,lY]
     have wD:o2.pc=o.pc:=(by rw[kW]);have kn:Kn H H9 [] ([(x8,.st o2.row)]++((([(x4,.st [Ui 0,Ui 0,.sl true 5 []]),(x6,.st [Ui q.params,Ui q.ae,bc])]++ks.flatMap KBlk.pl)++bl)++o2.lg)):=by
      have er:o2.row=[o.pc,o.ic,Ui o.jump,Ui o.on,.ai o.nx.y 1 0 o.nx.ns.length]:=(by rw[kW,OBlk.row_eq,bC]);have el:o2.lg=[(o.nx.y,.vec 1 (Qc ns))]++o.rest:=(by rw[kW];rfl);rw[er,el];exact kn.perm (Qj λf hf h0 hc hp=>by simp only[Ui,hf];omega)
     obtain⟨S,H10,pl,eK,kZ,kn⟩:=OBlk.gh fd kn;rw[eT,wD]at kZ kn;refine c_gh (DK S (EN ?_) eK) (e':=[(1,.c (.sl fl2 1 (AA l))),(2,.c (.pp [Ui q.params,Ui q.ae,.sl fl 5 (Qm q.blocks)])),(4,Up x4),(5,.c (.sl false 1 (Qc P))),(6,Up x6),(7,.c (Ui ks.length)),(8,Up x8)]) ?_
     ·simp only[J3];exact⟨.c _ _ (.same _ rfl),.c _ _ (.same _ rfl),.c _ _ (.same _ rfl),.c _ _ (.same _ rfl),.c _ _ (.same _ rfl),.c _ _ (.same _ rfl),.c _ _ (.same _ rfl),ZC⟩
     clear eK be hy;have kn:Kn H H10 [] (([(x6,.st [Ui q.params,Ui q.ae,bc])]++([(x8,.st (kRow (pkY q P b) o.pc))]++([(x4,.st [Ui 0,Ui 0,.sl true 5 []])]++(ks.flatMap KBlk.pl++pl))))++bl):=
      kn.perm (Qj λf hf h0 hc hp=>by
       have e:∀(a b:Nat×Obj),f [a,b]=f [a]+f [b]:=λa b=>hc a [b];simp only[Ui,hf,e];omega)
     have aZ:=kn.l 0 rfl;have be:=kn.l 1 rfl;obtain⟨kb,df⟩:∃kb:KBlk,kb=⟨pkY q P b,o.pc,pl⟩:=⟨_,rfl⟩;have qL:kRow (pkY q P b) o.pc=kb.row:=(by rw[df];rfl);have fP:kb.ok:=(by rw[df];exact kZ);have tC:=KBlk.ak fP;rw[qL]at be kn;have qJ:kb.row.length=5:=rfl;have qI:kb.row.take 5=kb.row:=rfl;have xy:(kb.row.all λc=>!c.ah)=true:=tC;refine Qq ?_;simp only[go_sem,aZ,be,iW,qJ,qI,xy];refine kn.br (new:=[kb.row]) ay (.mk' _ _ _ _) (by intro r hr;simp only[Jd]at hr;rw[hr];exact tC) Zay λbc2 bl2 H11 bW yj kn=>?_;have aZ:=kn.l 0 rfl;simp only[go_sem,Q3w,aZ];intro H12 jq;have kn:Kn H H12 [] ((([(x4,.st [Ui 0,Ui 0,.sl true 5 []]),(x6,.st [Ui q.params,Ui q.ae,bc2])]++(ks++[kb]).flatMap KBlk.pl)++bl2)++[(x8,.st kb.row)]):=
      (kn.aA 0 rfl jq).perm (Qj λf hf h0 hc hp=>by
       have e:∀(a b:Nat×Obj),f [a,b]=f [a]+f [b]:=λa b=>hc a [b];have ek:kb.pl=pl:=(by rw[df]);show f ([(x6,_)]++([(x8,_)]++([(x4,_)]++(ks.flatMap KBlk.pl++pl)))++bl2)=_;simp only[Ui,Jat,Jag,Jbj,Jae,ek,hf,e];omega)
     refine Zh ?_;refine⟨Qr,?_⟩;show ∃m,_;refine⟨l.length-(ks.length+1),ZA,ks++[kb],bc2,bl2,ZC,by simp only[J4,Ji,Jh];omega,?_,λw hw=>?_,by rw[Jw];exact bW,kn.drop,rfl,rfl,rfl,rfl,rfl,ZB⟩
     ·simp only[J4,Ji,Jh,Jn];rw[Jw,nP,Jf af,Jw,hb,df];rfl
     ·rcases Jx.1 hw with hw|hw
      ·exact kA w hw
      ·simp only[Jd]at hw;rw[hw];exact fP
  ·intro hc;have jm:ks.length=l.length:=by have:l.length<=ks.length:=ZD;omega
   rw[jm,J9]at nP;obtain⟨zb,rfl,rfl⟩:∃z,bc=.ai z 5 0 l.length/\bl=[(z,.vec 5 (ks.map KBlk.row))]:=by
    rcases ay with ⟨_,h,_⟩|⟨y,h1,h2⟩
    ·have:=congrArg List.length h;simp only[Je,Jh]at this;omega
    ·exact⟨y,by rw[h1,Je,jm],h2⟩
   have hS:PkZ q P l 0 ks:=by
    have hg:∀j (h:j<ks.length),ks[j].y=pkY q P (l.getD j 0):=λj h=>by
     have hj:j<l.length:=ZA;have h1:(ks.map KBlk.y)[j]? = some ks[j].y:=Za9;rw[nP]at h1;simp only[J8,Jj hj,Jap]at h1;rw[(hp.get hj).1];exact (Jah h1).symm
    exact⟨jm,λj h=>by rw[hg j h];exact⟨rfl,rfl,rfl,rfl,rfl⟩,kA,λj h h0=>ZA,λj h _=>by rw[hg j h];rfl⟩
   have kn:Kn H H5 [] ([(x4,.st [Ui 0,Ui 0,.sl true 5 []]),(x6,.st [Ui q.params,Ui q.ae,.ai zb 5 0 l.length]),(zb,.vec 5 (ks.map KBlk.row))]++ks.flatMap KBlk.pl):=
    kn.perm (Qj λf hf h0 hc hp=>by
     have e2:∀(a b:Nat×Obj),f [a,b]=f [a]+f [b]:=λa b=>hc a [b];have e3:∀(a b c:Nat×Obj),f [a,b,c]=f [a]+f [b]+f [c]:=λa b c=>(by rw[hc a [b,c],e2];omega);simp only[Ui,hf,e2,e3];omega)
   clear nP kA jm ay;refine Zb ?_;refine Qbf6 (fl:=fl) (fl2:=fl2) ho hp hP hS kn rfl rfl rfl rfl λe6 H6 ks hS kn l4=>?_;have aY:=kn.l 0 rfl;simp only[go_sem,Q7,A5,Jd,forall_eq,RS.op,l4,aY];obtain⟨d,hd⟩:∃d:CodeD,d=⟨q.params,q.ae,ks.map KBlk.y⟩:=⟨_,rfl⟩;have mr:d.blocks.length=l.length:=by rw[hd];simpa using hS.n
   have hR:=SE (d:=d) ho hp hP (by rw[hd]) (by rw[hd]) mr λj h=>by
    have hj:j<ks.length:=(by rw[hS.n];omega);have e:d.blocks[j]=ks[j].y:=(by subst hd;simp);rw[e];refine⟨hS.b j hj,λp eV=>?_⟩;rw[hS.a j hj ZA]at eV;exact HF ho hp hP ZA eV
   have ye:d=pkD q P l:=by
    rw[hd,pkD];congr 1;refine Jac (by simp[hS.n]) λj h1 h2=>?_;have hj:j<ks.length:=ZW;simp only[Jo,Ja4];have hB:=hS.b j hj;have hA:=hS.a j hj (by have:=hS.n;omega);rw[pkX];obtain⟨y,hy⟩:∃y,ks[j].y=y:=⟨_,rfl⟩;rw[hy]at hB hA⊢;cases y;simp only at hA;obtain⟨e1,e2,e3,e4,_⟩:=hB;simp only at e1 e2 e3 e4;rw[hA,e1,e2,e3,e4]
   have kn:Kn H H6 [] ([(zb,.vec 5 (ks.map KBlk.row))]++(([(x4,.st [Ui q.params,Ui q.ae,.ai zb 5 0 l.length])]++[(x6,.st [Ui q.params,Ui q.ae,.ai zb 5 0 l.length])])++ks.flatMap KBlk.pl)):=
    kn.perm (Qj λf hf h0 hc hp=>by
     have e3:∀(a b c:Nat×Obj),f [a,b,c]=f [a]+f [b]+f [c]:=λa b c=>ZS;simp only[Ui,hf,e3];omega)
   obtain⟨S,jK,kN,eK,kn⟩:=kn.cw;have hz:=kN (zb,.vec 5 (ks.map KBlk.row)) ZC;have bA:FrzR H6 S (ks.map KBlk.row) (Qm d.blocks):=by
    rw[hd];show FrzR H6 S (ks.map KBlk.row) (Qm (ks.map KBlk.y));rw[Qm,J6];refine Dm ks λk hk=>?_;refine .cons (Gr.frzM (hS.ok k hk) (λp hp=>jK p (Jg _ (Jad.2 ⟨k,hk,hp⟩))) (FrzR.same (PJ _))) (.cons (Qg rfl) (.cons (Qg rfl) (.cons (Qg rfl) (.cons (Qg rfl) .nil))))
   have bx:∀r∈ks.map KBlk.row,Go.AE.ak r=true:=λr hr=>by
    obtain⟨k,hk,rfl⟩:=Jm.1 hr;exact KBlk.ak (hS.ok k hk)
   refine⟨S,.ag [Ui q.params,Ui q.ae,.ai zb 5 0 l.length],_,FrzL.ag (.cons (Qg rfl) (.cons (Qg rfl) (.cons (.same _ rfl) .nil))),eK.set (o:=.vec 5 (Qm d.blocks)) hz.2 (by rw[hz.1];exact .vecR bA bx),?_⟩;have:=hK d zb _ hR ⟨P,hP,ye⟩ (kn.setL (o':=.vec 5 (Qm d.blocks)) 0 rfl ZC);rw[mr,hR.p,hR.r]at this;exact this
end Go.AE.Y
namespace Go.AE.Y
attribute [local go_sem] cond_true cond_false Bool.not_true Bool.not_false
open Go.Proofs.Tryz
variable {H H0:Heap}{K:Uk}{E B Lg:Ul}{q:CodeD}
theorem CodeD.ok.gd (h:q.ok):q.gd:=⟨h.b0,h.b1,λy hy=>by
 obtain⟨b,hb,rfl⟩:=Jq.1 hy;exact (h.bs b hb).nxl,h.fts,h.sg⟩
theorem CodeD.ok.fitB (h:q.ok):Bn q.blocks.length (gnx q)=true:=by
 have h1:(List.range q.blocks.length).all (λi=>(gnx q i).all λx=>decide (0<=x/\x<=(q.blocks.length:Int)-1))=true:=by
  simp only[Jaa,Jz,decide_eq_true_eq];intro b hb x hx;rw[CD hb]at hx;have:=(h.bs b hb).nx x hx;omega
 have h2:decide (0<q.blocks.length)=true:=decide_eq_true h.b0;simp only[Bn,h1,Bool.true_and]
 first|exact h2|simpa using h.b0
theorem CodeD.ok.rchPk (h:q.ok):Pk q (rchL q.blocks.length (nxN (gnx q))):=by
 have fE:=h.b0;have bg:=h.b1;refine⟨?_,?_,λx hx=>?_,λx hx v hv=>?_⟩
 ·have:=Ja7 (AW (nxN (gnx q)) (-1)) (List.range q.blocks.length);rw[List.length_range]at this;rw[rchL];omega
 ·obtain⟨m,hm⟩:∃m,q.blocks.length=m+1:=⟨q.blocks.length-1,ZA⟩;have h0:AW (nxN (gnx q)) (-1) 0=true:=rchB_iff.2 (.refl ZA);rw[rchL,hm,List.range_succ_eq_map,List.filter_cons,h0];rfl
 ·rw[rchL,Jab,Jz]at hx;exact hx.1
 ·rw[rchL,Jab,Jz]at hx⊢;have zf:=hv;rw[CD hx.1]at zf;have:=(h.bs x hx.1).nx v zf;refine⟨ZA,rchB_iff.2 (.step (rchB_iff.1 hx.2) (Jm.2 ⟨v,hv,rfl⟩) ZA)⟩
theorem LL {fl:Bool}(ho:q.ok)(hK:∀(d:CodeD) z H',PkR q d->(∃P,C0 q.blocks.length (rchL q.blocks.length (nxN (gnx q))) P/\d=pkD q P (rchL q.blocks.length (nxN (gnx q))))->Kn H H' [] [(z,.vec 5 (Qm d.blocks))]->K (.ag [Ui d.params,Ui d.ae,.ai z 5 0 d.blocks.length]) H') :
  Qv prog Hi [.ag [Ui q.params,Ui q.ae,.sl fl 5 (Qm q.blocks)]] H K:=by
 refine CG ?_;refine Qd A6 Qbk5 ?_;refine Za ?_;intro x2 aH H1 h1;have kn:=(Kn.ao H).al aH h1;refine Zz ?_;refine Qau4 (rows:=Qm q.blocks) (nx:=gnx q) (FY ho.gd) (by rw[Ql];exact ho.fitB) λH2 hu=>?_;have kn:=kn.au hu;rw[Ql];simp only[go_sem,Q3p];refine Qbfj ho ho.rchPk λd z H3 hR hP k2=>?_;have kn:=kn.comp0 k2;have aH:=kn.l 0 rfl;simp only[go_sem,Pv,aH];intro H4 h4;have kn:Kn H H4 [] ([(x2,.st [Ui d.params,Ui d.ae,.ai z 5 0 d.blocks.length])]++[(z,.vec 5 (Qm d.blocks))]):=kn.aA 0 rfl h4;have aH:=kn.l 0 rfl;refine Zu aH ?_;obtain⟨S,jK,kN,eK,kn⟩:=(kn.perm Jk).cw;exact⟨S,_,_,FrzL.ag (.cons (Qg rfl) (.cons (Qg rfl) (.cons (.same _ rfl) .nil))),eK,hK d z _ hR hP kn⟩
theorem Qbkd {fl:Bool}(ho:q.ok)(hK:∀(d:CodeD) z H',PkR q d->Kn H H' [] [(z,.vec 5 (Qm d.blocks))]->K (.ag [Ui d.params,Ui d.ae,.ai z 5 0 d.blocks.length]) H') :
  Qv prog Hi [.ag [Ui q.params,Ui q.ae,.sl fl 5 (Qm q.blocks)]] H K:=LL ho λd z H' hR _ kn=>hK d z H' hR kn
def zRow (v:Int):List C:=[.int .i64 1,.int .i64 v,.sl true 1 [],.int .i64 0]
def zIns (v:Int):InsD:=⟨1,v,[],0⟩
theorem XE {S:Nat->Bool}(vs:List Int):FrzR H S (vs.map zRow) (AD (vs.map zIns)):=by
 rw[AD,J6];exact Dm vs λv _=>.cons (Qg rfl) (.cons (Qg rfl) (.cons FrzR.nil.sl (.cons (Qg rfl) .nil)))
theorem Qbox {d:CodeD}(ho:d.ok)(h9:∀y∈d.blocks,y.ins.length<=900/\y.ab.length<=900){vs:List Int}(hv:∀v∈vs,rIn d v)(hl:vs.length<=300){y:BlkD}{ys:List BlkD}(hd:d.blocks=y::ys) :
  (CodeD.mk d.params d.ae (⟨y.ab,vs.map zIns++y.ins,y.jump,y.on,y.next⟩::ys)).ok:=by
 obtain⟨y',dU⟩:∃y':BlkD,y'=⟨y.ab,vs.map zIns++y.ins,y.jump,y.on,y.next⟩:=⟨_,rfl⟩;obtain⟨d',cR⟩:∃d':CodeD,d'=⟨d.params,d.ae,y'::ys⟩:=⟨_,rfl⟩;rw[<-dU,<-cR];have am:d'.blocks.length=d.blocks.length:=by rw[cR,hd];rfl
 have fN:d'.blocks.map BlkD.next=d.blocks.map BlkD.next:=by rw[cR,hd,dU];rfl
 have hg:gnx d'=gnx d:=by funext i;rw[gnx,gnx,fN]
 have hr:∀v,rIn d v->rIn d' v:=λv h=>by simp only[rIn,cR]at h⊢;exact h
 have h9y:=h9 y (by rw[hd];exact J7);have iM:d'.ae=d.ae:=by rw[cR]
 refine⟨by rw[iM];exact ho.r0,by rw[iM];exact ho.r1,by rw[am];exact ho.b0,by rw[am];exact ho.b1,λb h=>?_,λb h=>?_⟩
 ·have h':b<d.blocks.length:=ZA
  have o:=ho.bs b h';have cq:∀x∈d'.blocks[b].ins,x∈d.blocks[b].ins\/∃v∈vs,x=zIns v:=λx hx=>by
   cases b with
   |zero=>
    simp only[cR,Jam,dU]at hx;rcases Jx.1 hx with hx|hx
    ·obtain⟨v,hv,rfl⟩:=Jm.1 hx;exact .inr ⟨v,hv,rfl⟩
    ·left;simp only[hd,Jam];exact hx
   |succ b=>left;simp only[cR,hd,Jal]at hx⊢;exact hx
  have e:d'.blocks[b].ab=d.blocks[b].ab/\d'.blocks[b].jump=d.blocks[b].jump/\d'.blocks[b].on=d.blocks[b].on/\d'.blocks[b].next=d.blocks[b].next:=by
   cases b with
   |zero=>simp only[cR,hd,Jam,dU,and_self]
   |succ b=>simp only[cR,hd,Jal,and_self]
  obtain⟨e1,e2,e3,e4⟩:=e;refine⟨by rw[e4];exact o.nxl,λv hv=>by rw[e4]at hv;rw[am];exact o.nx v hv,by rw[e2];exact o.jmp,λhj=>by rw[e2]at hj;rw[e3];exact hr _ (o.on hj),λx hx v hv=>?_,λx hx hm=>?_,
   λp hp=>by rw[e1]at hp;exact hr _ (o.pto p hp),λp hp v hv=>by rw[e1]at hp;exact hr _ (o.pargs p hp v hv),λp hp=>by rw[e1]at hp;rw[hg,am];exact o.pal p hp,λx hx=>?_⟩
  ·rcases cq x hx with h|⟨v',_,rfl⟩
   ·exact hr _ (o.args x h v hv)
   ·simp[zIns]at hv
  ·rcases cq x hx with h|⟨v',jy,rfl⟩
   ·exact hr _ (o.to x h hm)
   ·exact hr _ (hv v' jy)
  ·rcases cq x hx with h|⟨v',_,rfl⟩
   ·exact o.al x h
   ·simp[zIns]
 ·have h':b<d.blocks.length:=ZA
  have o:=ho.il b h'
  cases b with
  |zero=>
   simp only[cR,Jam,dU,J4,Je];omega
  |succ b=>simp only[cR,hd,Jal]at o⊢;exact o
theorem Qbfn {fl:Bool}(ho:q.ok)(fM:0<=q.params)(h9:∀y∈q.blocks,y.ins.length<=900/\y.ab.length<=900)
  (hK:∀(d:CodeD) H',d.ok->d.params=q.params->d.ae=q.ae->(∀y∈d.blocks,y.ab.length<=900)->Upd H H' []->K (.ag d.cells) H') :
  Qv prog NE [.ag [Ui q.params,Ui q.ae,.sl fl 5 (Qm q.blocks)]] H K:=by
 refine Qz ?_;refine Qd A6 Qbfw ?_;refine Za ?_;intro x2 aH H1 h1;have kn:=(Kn.ao H).al aH h1;refine Za ?_;refine Qbkd ho λd z H2 hR k2=>?_;have kn:=kn.comp0 k2;have kF:=hR.ok;have yf:∀y∈d.blocks,y.ins.length<=900/\y.ab.length<=900:=λy hy=>by
  obtain⟨y0,rA,h1,h2⟩:=hR.i y hy;rw[h1,h2];exact h9 y0 rA
 have fM:0<=d.params:=by rw[hR.p];exact fM
 have bR:=kF.r0;have ib:=kF.r1;have fE:=kF.b0;have bg:=kF.b1;simp only[go_sem,Qzr];intro x3 aK H3 h3;have kn:=(kn.al aK h3).perm Jk;have aK:=kn.l 0 rfl;simp only[go_sem,Qzq,aK];intro H4 h4;have kn:Kn H H4 [] ([(x3,.st [Ui d.params,Ui d.ae,.ai z 5 0 d.blocks.length]),(x2,.st [Ui 0,Ui 0,.sl true 5 []]),(z,.vec 5 (Qm d.blocks))]):=kn.aA 0 rfl h4;have aK:=kn.l 0 rfl;have hz:=kn.l 2 rfl;refine Zi aK ?_;refine Kk kF (CodeR.ai hz ZC) λzi zo H5 hu cH=>?_;have kn:=kn.au hu;obtain⟨y,ys,r9⟩:∃y ys,d.blocks=y::ys:=by
  cases hb:d.blocks with
  |nil=>rw[hb]at fE;simp at fE
  |cons y ys=>exact⟨y,ys,rfl⟩
 have i6:0<zi.length:=by rw[cH.1.i];exact fE
 obtain⟨nd,cM⟩:∃nd,zi[0].2=nd:=⟨_,rfl⟩;have qC:nd.length=d.ae.toNat:=by rw[<-cM];exact cH.1.li _ (Jb i6)
 simp only[go_sem,Qzs,i6,Ke,KU _ _ i6,cM];refine⟨Jbm 0,?_⟩;refine Za ?_;have aK:=kn.l 0 rfl;refine Q1 (Qa ?_);simp only[go_sem,aK];refine Qh (Qe (Qx (λm e1 H1=>∃(r:Int) (vs:List Int) (t:C) (Lg:Ul),m=(d.ae-r).toNat/\0<=r/\(r<=d.ae\/r=d.params)/\(vs.length:Int)<=r/\(vs=[]\/r<=d.ae)/\(∀v∈vs,rIn d v)/\Gr Lg 4 (vs.map zRow) t/\
  Kn H H1 [] ([(x3,.st [Ui d.params,Ui d.ae,.ai z 5 0 d.blocks.length]),(x2,.st [Ui 0,Ui 0,.sl true 5 []]),(z,.vec 5 (Qm d.blocks))]++Lg)/\
  lk 2 e1=Up x2/\lk 3 e1=Up x3/\lk 4 e1=.c (.sl false 1 (Qs nd))/\lk 5 e1=.c t/\lk 6 e1=Uv r) (d.ae-d.params).toNat ?_ ?_))
 ·exact⟨d.params,[],_,[],rfl,fM,.inr rfl,fM,.inl rfl,ZC,.nil 4,ZL,rfl,rfl,rfl,rfl,rfl⟩
 ·clear kn aK hz;rintro m e1 H6 ⟨r,vs,t,Lg,hm,hr,wo,bO,u9,sw,ay,kn,l2,l3,l4,l5,l6⟩;have gk:=ay.ah;have aK:=kn.l 0 rfl;refine Q1 (Qa ?_);simp only[go_sem,l2,l3,l4,l5,l6,aK];refine Wu ?_ ?_
  ·intro hc;have af:r<d.ae:=ZD
   obtain⟨rn,jh⟩:∃rn:Nat,r=(rn:Int):=⟨r.toNat,ZA⟩;subst jh;have dB:rn<nd.length:=ZA
   refine Zd ?_
   refine Bk (λe2 H2=>∃(vs:List Int) (t:C) (Lg:Ul),(vs.length:Int)<=(rn:Int)+1/\(∀v∈vs,rIn d v)/\Gr Lg 4 (vs.map zRow) t/\
    Kn H H2 [] ([(x3,.st [Ui d.params,Ui d.ae,.ai z 5 0 d.blocks.length]),(x2,.st [Ui 0,Ui 0,.sl true 5 []]),(z,.vec 5 (Qm d.blocks))]++Lg)/\
    lk 2 e2=Up x2/\lk 3 e2=Up x3/\lk 4 e2=.c (.sl false 1 (Qs nd))/\lk 5 e2=.c t/\lk 6 e2=Uv (rn:Int)) ?_ ?_
   ·intro Q bH _ _;refine Qe (Qa ?_);simp only[go_sem,dB,Q0,Q6 _ _ dB];refine Wv ?_ ?_
    ·intro a7;refine Zh ?_;refine kn.br (new:=[zRow (rn:Int)]) ay (.mk' _ _ _ _) (by intro w hw;simp only[Jd]at hw;rw[hw];rfl) Zay λt2 Lg2 H7 bW di kn=>?_;simp only[go_sem,Qzt];refine bH _ _ ⟨vs++[(rn:Int)],t2,Lg2,by simp only[J4,Ji,Jh];omega,λv hv=>?_,by rw[Jw];exact bW,kn,rfl,rfl,rfl,rfl,rfl⟩;rcases Jx.1 hv with hv|hv
     ·exact sw v hv
     ·simp only[Jd]at hv;rw[hv];exact⟨ZA,af⟩
    ·intro a7;refine Zd ?_
     exact bH _ _ ⟨vs,t,Lg,ZA,sw,ay,kn,rfl,rfl,rfl,rfl,rfl⟩
   ·rintro e2 H7 ⟨vs,t,Lg,bO,sw,ay,kn,l2,l3,l4,l5,l6⟩;have gk:=ay.ah;refine Qq ?_;simp only[go_sem,l2,l3,l4,l5,l6];refine⟨Qr,?_⟩;show ∃m,_;exact⟨(d.ae-((rn:Int)+1)).toNat,ZA,(rn:Int)+1,vs,t,Lg,rfl,ZA,.inl ZA,bO,.inr ZA,sw,ay,kn,rfl,rfl,rfl,rfl,rfl⟩
  ·intro hc;have vQ:vs.length<=300:=by
    rcases u9 with rfl|h
    ·simp
    ·omega
   have bp:d.ae<=r:=ZD
   have hz:=kn.l 2 rfl;have h0:0<(Qm d.blocks).length:=by rw[Ql];exact fE
   have ui:(Qm d.blocks).getD 0 []=[.sl false 2 (Q3 y.ab),.sl false 4 (AD y.ins),Ui y.jump,Ui y.on,.sl false 1 (Qc y.next)]:=by rw[r9];rfl
   have oq:(Qm d.blocks).take d.blocks.length=Qm d.blocks:=Jc (by rw[Ql];exact Jl _);have fT:=yf y (by rw[r9];exact J7);refine Zb ?_;refine AC ?_;simp only[go_sem,aK,hz,Ql,fE,ui,oq,Jn,Jl,Jbm];refine kn.br (new:=AD y.ins) ay (.mk' _ _ _ _) (EV _) (by simp only[Je,Bm,LIM];omega) λt2 Lg2 H7 bW di kn=>?_;have aK:=kn.l 0 rfl;have hz:=kn.l 2 rfl;simp only[go_sem,Qzu,aK,hz,Ql,fE,ui,Jn,Jl,Jbm];intro H8 h8;have bK:∀R:List C,(Qm d.blocks).set 0 R=R::Qm ys:=λR=>by rw[r9];rfl
   rw[bK]at h8;have kn:Kn H H8 [] ([(x3,.st [Ui d.params,Ui d.ae,.ai z 5 0 d.blocks.length]),(x2,.st [Ui 0,Ui 0,.sl true 5 []]),(z,.vec 5 ([.sl false 2 (Q3 y.ab),t2,Ui y.jump,Ui y.on,.sl false 1 (Qc y.next)]::Qm ys))]++Lg2):=kn.aA 2 rfl h8;have aH:=kn.l 1 rfl;have aK:=kn.l 0 rfl;refine Zn aH aK ?_;intro H9 yS;have kn:Kn H H9 [] ([(x3,.st [Ui d.params,Ui d.ae,.ai z 5 0 d.blocks.length]),(x2,.st [Ui d.params,Ui d.ae,.ai z 5 0 d.blocks.length]),(z,.vec 5 ([.sl false 2 (Q3 y.ab),t2,Ui y.jump,Ui y.on,.sl false 1 (Qc y.next)]::Qm ys))]++Lg2):=kn.aA 1 rfl yS;have aH:=kn.l 1 rfl;have hz:=kn.l 2 rfl;have hzu:=kn.un 2 rfl;refine Zu aH ?_;have mh:FrzC H9 (un H) t2 (.sl false 4 (AD (vs.map zIns++y.ins))):=by
    have:AD (vs.map zIns++y.ins)=AD (vs.map zIns)++AD y.ins:=(by simp[AD]);rw[this];exact bW.frzR kn ((XE vs).app (FrzR.same (EV _)))
   have bA:FrzR H9 (un H) ([.sl false 2 (Q3 y.ab),t2,Ui y.jump,Ui y.on,.sl false 1 (Qc y.next)]::Qm ys) (Qm (⟨y.ab,vs.map zIns++y.ins,y.jump,y.on,y.next⟩::ys)):=
    .cons (.cons (Qg rfl) (.cons mh (.cons (Qg rfl) (.cons (Qg rfl) (.cons (Qg rfl) .nil))))) (FrzR.same (PH _))
   have mr:d.blocks.length=(⟨y.ab,vs.map zIns++y.ins,y.jump,y.on,y.next⟩::ys:List BlkD).length:=by rw[r9];rfl
   refine⟨_,FrzL.ag (.cons (Qg rfl) (.cons (Qg rfl) (.cons (bA.ai hzu hz (by rw[mr,Ji,Ji,Ql])) .nil))),hK (CodeD.mk d.params d.ae (⟨y.ab,vs.map zIns++y.ins,y.jump,y.on,y.next⟩::ys)) _ (Qbox kF yf sw vQ r9) hR.p hR.r (λw hw=>?_) kn.fin⟩;rcases Jbc.1 hw with rfl|hw
   ·exact fT.2
   ·exact (yf w (by rw[r9];exact Jv _ hw)).2
end Go.AE.Y
namespace Go.AE.Y
open Go.Proofs.Tryz
def Qdv:=dY 0x104122f011c122 DA
def Qpi:=dZ 0x2315101142f7801805800e40 .skip Qdv
def Qpk:=dZ 0x190900013160d80079f0113130c310142 Qpi [] OC
def Qm0:=dZ 0x9000bb0002316010440b11 Qpk
def Qpm:=dZ 0x1909500400231500f0057008312 Qm0 [] OB
def Qpn:=dZ 0x93003014f00511 Qpm
def Qwh:=dZ 0x9002014f00411 Qpn
theorem Qv4:mFn prog Qe6 2 22 Qwh A7=true:=ZE
def Quh:=dY 0xf80031
def Qui:=dY 0x79585e590042
def Quj:=dY 0xa90061
def Quk:=dY 7122116609
def Qul:=dY 2752657
def Qar5:=dW 0x40080070110110ff007f010113a80018812b809802a80 [] [] [.e none none (.upd 0 (.t 42) (.t 43) (.t 48))]
def Qar6:=dZ 0x40080070110110ff01b0259f1f5a043120
def Qar7:=dZ 0x19090040080050001101111f09a07a00a9f0124131027510542 Qar5 [] Qar6
def Qakw:=dZ 0x90426b000400800701101110f010442611 Qar7
def Qum:=dY 0x101e72b133b2
def Qakk:=dZ 0x800a1011a102122f011c9800101134803804803803290 .skip Qum
def Qakl:=dZ 0x190950440040080070110110ff00f00568023312 Qakw [] Qakk
def Qakm:=dW 0x9008007011011c108f2211 [Qakl] [Qul] [eI 34 .mkm]
def Qakn:=dZ 0x800a1011a0cb01e9f1fe9043c20
def Qako:=dZ 0x190900800811011b1170232f089f026132320310342 Qakm Quk Qakn
def Qacv:=dZ 0x9021fb000800a1011b010441f11 Qako
def Qakp:=dZ 0x9502400800a1011a00f0050158021b41 Qacv
def Qakq:=dZ 0x900a000118101209d48018361831 Qakp Quj
def Qakr:=dZ 0xd1150db0139f1f39043d20
def Qaks:=dZ 0x190900b00117117004727532f059f05624531015410142 Qakq Qui Qakr
def Qacw:=dZ 0x90014b000d116010441411 Qaks
def Qakt:=dZ 0x7210eb0029f3803e21
def Qaku:=dZ 0x1909500400d11500f00501182210412 Qacw [] Qakt
def Qakv:=dW 0x9112108f050118220c41 [Qaku] [Quh] [eI 15 (.mks 1 [.sl true 1 []] (.t 14))]
def Qa6e:=dZ 0x911014f0090121 Qakv
theorem Qa5h:mFn prog PX 1 63 Qa6e A8=true:=ZE
def Quy:=dY 0xe9781ec90062
def Quz:=dY 0x201e012342352614f72a52434f1a2214f2b6
def Qasb:=dZ 0xa0602009101241d78142e1f58068001002015348001022070801fc0e0d0c0705030b0a09080706050403020100120fa .skip Quz
def Qasc:=dZ 0xa06020090da01a9f1fa9042d20
def Qasd:=dZ 0x190900a04000200b14132f079f012413101c410342 Qasb Quy Qasc
def Qalm:=dZ 0x9021bb000a060200a010441b11 Qasd
def Qase:=dZ 0x9502400a060200900f0050101134801801561 Qalm
def Qasf:=dZ 0x90602006101209d480036070801051 Qase Pu
def Qasg:=dZ 0xa0040ea00d9f1fd8042e20
def Qalk:=dZ 0x19090720050f80049f100f210142 Qasf [] Qasg
def Qacz:=dZ 0x9000eb00a005010440e11 Qalk
def Qa6h:=dZ 0x950040a00400f0050102207700861 Qacz
theorem Qa5j:mFn prog PW 2 47 Qa6h By=true:=ZE
def Q7n:=dW 0x7310680039f08f40210441 [] [] [fI 6 (.lup 0 (.c (.int .i64 0)) (.t 4) (.t 5))]
def Qall:=dZ 0x900200f00311 Q7n
theorem Qaiw:mFn prog Pd 2 7 Qall Cm=true:=ZE
def Qgt:=dY 0x10223cd430364f062 Pv
def Qza:=dZ 0x7211013dd2361360330403000201000605a2 .skip Qgt
def Q7m:=dZ 0x901205700332f090121 Qza
theorem Q6n:mFn prog RD 1 7 Q7m Bf=true:=ZE
end Go.AE.Y
namespace Go.AE.Y
attribute [local go_sem] cond_true cond_false Bool.not_true Bool.not_false
open Go.Proofs.Tryz
variable {H H0:Heap}{K:Uk}{q:CodeD}{E L:Ul}
def mI (l:List (Int×Int)):List (C×V):=l.map λp=>(.int .i64 p.1,.c (.int .i64 p.2))
def lkI (k:Int):List (Int×Int)->Option Int
 |[]=>none
 |p::l=>if k=p.1 then some p.2 else lkI k l
def upI (k v:Int):List (Int×Int)->List (Int×Int)
 |[]=>[(k,v)]
 |p::l=>if k=p.1 then (k,v)::l else p::upI k v l
def deI (k:Int):List (Int×Int)->List (Int×Int)
 |[]=>[]
 |p::l=>if k=p.1 then l else p::deI k l
theorem Du (l:List (Int×Int)):(mI l).length=l.length:=by simp[mI]
theorem DM (k:Int)(l:List (Int×Int)):BX 0 (Ui k) (mI l)=True:=by
 refine eq_true ?_;simp only[BX,mI,Jm];rintro e ⟨p,_,rfl⟩;exact⟨p.1,rfl⟩
theorem FE (k:Int):∀(l:List (Int×Int)),BO (Ui k) (mI l)=(lkI k l).map λv=>Uv v
 |[]=>rfl
 |p::l=>by
  have ih:=FE k l;simp only[mI,J1,BO,Bp,lkI]at ih⊢;by_cases h:k=p.1
  ·simp[h]
  ·simp only[h,decide_false,Ja1,if_false];exact ih
theorem Ol (k:Int)(l:List (Int×Int)):(BO (Ui k) (mI l)).getD (Uv 0)=Uv ((lkI k l).getD 0):=by
 rw[FE];cases lkI k l <;> rfl
theorem Kp (k:Int)(l:List (Int×Int)):(BO (Ui k) (mI l)).isSome=(lkI k l).isSome:=by
 rw[FE];cases lkI k l <;> rfl
theorem Dw (k v:Int):∀(l:List (Int×Int)),updE (Ui k) (Uv v) (mI l)=mI (upI k v l)
 |[]=>rfl
 |p::l=>by
  have ih:=Dw k v l;simp only[mI,J1,updE,Bp,upI]at ih⊢;by_cases h:k=p.1
  ·simp[h]
  ·simp only[h,decide_false,Ja1,if_false,J1,ih]
theorem Ip (k:Int):∀(l:List (Int×Int)),delE (Ui k) (mI l)=mI (deI k l)
 |[]=>rfl
 |p::l=>by
  have ih:=Ip k l;simp only[mI,J1,delE,Bp,deI]at ih⊢;by_cases h:k=p.1
  ·simp[h]
  ·simp only[h,decide_false,Ja1,if_false,J1,ih]
theorem Eh (k v:Int):∀(l:List (Int×Int)),(upI k v l).length<=l.length+1
 |[]=>by simp[upI]
 |p::l=>by
  have ih:=Eh k v l;simp only[upI];split
  ·simp
  ·simp only[Ji];omega
theorem Iq (k:Int):∀(l:List (Int×Int)),(deI k l).length<=l.length
 |[]=>by simp[deI]
 |p::l=>by
  have ih:=Iq k l;simp only[deI];split
  ·simp
  ·simp only[Ji];omega
theorem CL (k v j:Int):∀(l:List (Int×Int)),lkI j (upI k v l)=if j=k then some v else lkI j l
 |[]=>by simp[upI,lkI]
 |p::l=>by
  have ih:=CL k v j l;simp only[upI];by_cases h:k=p.1
  ·simp only[h,if_true,lkI];by_cases hj:j=p.1 <;> simp[hj]
  ·simp only[h,if_false,lkI,ih];by_cases hj:j=p.1
   ·have:¬j=k:=λe=>h (e▸hj);simp[hj];intro e;exact absurd e.symm h
   ·simp[hj]
theorem EZ {k j:Int}(pb:¬j=k):∀(l:List (Int×Int)),lkI j (deI k l)=lkI j l
 |[]=>rfl
 |p::l=>by
  have ih:=EZ pb l;simp only[deI];by_cases h:k=p.1
  ·have:¬j=p.1:=λe=>pb (e.trans h.symm);simp[h,lkI,this]
  ·simp only[h,if_false,lkI,ih]
theorem HO {k v:Int}:∀{l:List (Int×Int)},(∀p∈l,¬k=p.1)->upI k v l=l++[(k,v)]
 |[],_=>rfl
 |p::l,h=>by
  have ih:=HO (v:=v) λq hq=>h q (Jv _ hq);simp only[upI,h p J7,if_false,ih,Jbi]
theorem HH {w:Int}:∀{l:List Int} {aa:List Int},w∈l->l.length<=aa.length->lkI w (l.zip aa)=some (aa.getD (l.idxOf w) 0)
 |[],_,h,_=>ZH
 |x::l,[],_,h=>ZH
 |x::l,a::aa,h,hl=>by
  simp only[List.zip_cons_cons,lkI];by_cases hx:w=x
  ·subst hx;simp
  ·have hm:w∈l:=by
    rcases Jbc.1 h with h|h
    ·exact absurd h hx
    ·exact h
   have:=HH hm (aa:=aa) Zae;rw[if_neg hx,this,List.idxOf_cons];have hb:(x == w)=false:=by simp;exact λe=>hx e.symm
   rw[hb];simp
theorem XD {l aa:List Int}{i:Nat}(h:i<l.length)(h2:i<aa.length)(cM:l.Nodup):upI l[i] aa[i] ((l.zip aa).take i)=(l.zip aa).take (i+1):=by
 have hz:i<(l.zip aa).length:=by rw[List.length_zip];omega
 rw[Jf hz,List.getElem_zip,HO];intro p hp he;obtain⟨j,hj,rfl⟩:=Jq.1 hp;rw[J2]at hj;rw[List.getElem_take,List.getElem_zip]at he;simp only at he;have:=(Jbk cM).1 he;omega
theorem Y7 {l:List (Int×Int)}(h:(l.map Prod.fst).Nodup):(mI l).Nodup:=by
 rw[mI,List.nodup_iff_pairwise_ne,Ja5];rw[List.nodup_iff_pairwise_ne,Ja5]at h;refine List.Pairwise.imp (λbf he=>?_) h;simp only[Jaz,C.int.injEq,true_and]at he;exact bf he.1
structure PMap where
 m:Nat
 ver:Nat
 l:List (Int×Int)
def PMap.lg (p:PMap):List (Nat×Obj):=[(p.m,.map p.ver (mI p.l))]
def Ba (ms:List PMap):List (List C):=ms.map λp=>[.mp p.m]
theorem C6 (ms:List PMap):(Ba ms).length=ms.length:=by simp[Ba]
theorem Q1a (ms:List PMap)(i:Nat)(h:i<ms.length):(Ba ms).getD i []=[.mp ms[i].m]:=by simp[Ba,Ja,h]
structure PSl where
 ms:List PMap
 c:C
 g:Ul
def PSl.row (s:PSl):List C:=[s.c]
def PSl.ok (s:PSl):Prop:=Gr s.g 1 (Ba s.ms) s.c
def PSl.lg (s:PSl):List (Nat×Obj):=s.ms.flatMap PMap.lg++s.g
def psL (ss:List PSl):List (Nat×Obj):=ss.flatMap PSl.lg
structure PInv (F:Nat->List (List (Int×Int)))(ss:List PSl):Prop where
 f:∀r (h:r<ss.length),ss[r].ms.map PMap.l=F r
 ok:∀s∈ss,s.ok
variable {F F':Nat->List (List (Int×Int))}{ss:List PSl}
theorem PInv.set (h:PInv F ss){x:Nat}{s:PSl}(hs:s.ok)(hF:∀r,r<ss.length->F' r=if r=x then s.ms.map PMap.l else F r):PInv F' (ss.set x s):=by
 refine⟨λr hr=>?_,λw hw=>?_⟩
 ·have bd:r<ss.length:=Zah
  rw[J5,hF r bd];split
  ·rename_i e;rw[if_pos e.symm]
  ·rename_i e;rw[if_neg (λhh=>e hh.symm)];exact h.f r bd
 ·rcases Jy hw with hw|rfl
  ·exact h.ok w hw
  ·exact hs
theorem GY {x:Nat}{s:PSl}(hx:x<ss.length)(hs:ss[x]=s):(psL ss).Perm (psL (ss.eraseIdx x)++s.lg):=by
 subst hs;exact (BT (f:=PSl.lg) hx).trans Jk
theorem FW {x:Nat}{s:PSl}(hx:x<ss.length):(psL (ss.set x s)).Perm (psL (ss.eraseIdx x)++s.lg):=by
 have h1:=GY (ss:=ss.set x s) (x:=x) (s:=s) (by rw[Jp];exact hx) ZC;rw[Jar]at h1;exact h1
def zpA (q:CodeD)(b:Nat)(p:PhiD):List (Int×Int):=(Qp (gnx q) (b:Int) q.blocks.length).zip p.args
def phT (q:CodeD)(b r:Nat):List (List (Int×Int)):=if r<b then (Qt q r).ab.map (zpA q r)else []
section
variable {H':Heap}{bc:C}{rows:List (List C)}
structure RwR (H:Heap)(q:CodeD)(bc:C)(rows:List (List C)):Prop where
 ow:bc.ah=false
 s:Slc H 5 rows bc
 n:rows.length=q.blocks.length
 x:∀b,b<q.blocks.length->∃a1 a2 fl,rows.getD b []=[a1,a2,Ui (Qt q b).jump,Ui (Qt q b).on,.sl fl 1 (Qc (Qt q b).next)]/\a1.ah=false/\a2.ah=false/\Slc H 2 (Q3 (Qt q b).ab) a1
theorem RwR.keep0 (h:RwR H q bc rows)(kn:Kn H H' [] L):RwR H' q bc rows:=⟨h.ow,h.s.keep0 kn,h.n,λb hb=>by
 obtain⟨a1,a2,fl,e,o1,o2,hs⟩:=h.x b hb;exact⟨a1,a2,fl,e,o1,o2,hs.keep0 kn⟩⟩
theorem RwR.hx (h:RwR H q bc rows):∀i,i<rows.length->∃a1 a2 a3 a4 a5,rows.getD i []=[a1,a2,a3,a4,a5]/\a5.ah=false/\Slc H 1 (Qc (gnx q i)) a5:=λi hi=>by
 rw[h.n]at hi;obtain⟨a1,a2,fl,e,o1,o2,hs⟩:=h.x i hi;rw[Bq hi];exact⟨_,_,_,_,_,e,rfl,.mk' _ _ _ _⟩
theorem RwR.no (h:RwR H q bc rows):∀r∈rows,Go.AE.ak r=true:=λr hr=>by
 obtain⟨i,hi,rfl⟩:=Jq.1 hr;obtain⟨a1,a2,fl,e,o1,o2,hs⟩:=h.x i (by rw[<-h.n];exact hi);have e2:rows.getD i []=rows[i]:=by simp[Ja,hi]
 rw[<-e2,e];simp only[Go.AE.ak,Jay,Ja3,o1,o2];rfl
theorem RwR.frz {fl:Bool}:RwR H q (.sl fl 5 (Qm q.blocks)) (Qm q.blocks):=⟨rfl,.mk' _ _ _ _,Ql _,λb hb=>⟨_,_,false,by rw[Q9 _ _ hb,AP hb];rfl,rfl,rfl,.mk' _ _ _ _⟩⟩
theorem RwR.ph (h:RwR H q bc rows){b:Nat}(hb:b<q.blocks.length){a1 a2 a3 a4 a5:C}(e:rows.getD b []=[a1,a2,a3,a4,a5]):Slc H 2 (Q3 (Qt q b).ab) a1:=by
 obtain⟨b1,b2,fl,e2,_,_,hs⟩:=h.x b hb;rw[e]at e2;rw[(List.cons.inj e2).1];exact hs
end
theorem Kg {bc:C}{rows:List (List C)}(ho:q.ok)(h:RwR H q bc rows)(hK:∀o ss H',ss.length=q.blocks.length->PInv (phT q q.blocks.length) ss->Kn H H' [] ([(o,.vec 1 (ss.map PSl.row))]++psL ss)->K (.c (.ai o 1 0 q.blocks.length)) H') :
  Qv prog PX [.ag [Ui q.params,Ui q.ae,bc]] H K:=by
 have bg:=ho.b1;have bt:=h.ow;have am:=h.s.len;have bj:=h.s.sz;have jh:=h.n;have aw:=eq_true h.s.ok;refine CG ?_;refine Qd A6 Qa5h ?_;refine Zi bt ?_;refine Qa ?_;simp only[go_sem,bt,aw,am,jh];intro _;refine⟨by simp only[LIM];omega,λo kW H1 h1=>?_⟩;obtain⟨ss0,gu⟩:∃ss0:List PSl,ss0=List.replicate q.blocks.length ⟨[],.sl true 1 [],[]⟩:=⟨_,rfl⟩;have sO:ss0.length=q.blocks.length:=by rw[gu];simp
 have mL:PInv (phT q 0) ss0:=by
  rw[gu];refine⟨λr h=>by simp[phT],λs hs=>?_⟩;rw[Jaf hs];exact .nil 1
 have kn:Kn H H1 [] ([(o,.vec 1 (ss0.map PSl.row))]++psL ss0):=by
  have e:psL ss0=[]:=by rw[gu];exact Ja6.2 λs hs=>by rw[Jaf hs];rfl
  have:=(Kn.ao H).al kW h1;rw[e,gu];simpa[PSl.row]using this
 clear gu h1 kW;have aw:=eq_true (h.keep0 kn).s.ok;simp only[go_sem,Quh];refine Q1 (Qa ?_);simp only[go_sem,bt,aw,am,jh];try intro _
 refine Qh (Qe (Qx (λm e1 H1=>∃(b:Nat) (ss:List PSl),m=q.blocks.length-b/\b<=q.blocks.length/\ss.length=q.blocks.length/\PInv (phT q b) ss/\Kn H H1 [] ([(o,.vec 1 (ss.map PSl.row))]++psL ss)/\
  lk 1 e1=.c (.pp [Ui q.params,Ui q.ae,bc])/\lk 3 e1=.c (.ai o 1 0 q.blocks.length)/\lk 17 e1=.c (bc)/\lk 18 e1=.c (Ui q.blocks.length)/\lk 19 e1=Uv b) q.blocks.length ?_ ?_))
 ·exact⟨0,ss0,ZA,ZA,sO,mL,kn,rfl,rfl,rfl,rfl,rfl⟩
 ·clear kn mL sO;clear ss0;rintro m e1 H1 ⟨b,ss,hm,hb,cW,hS,kn,l1,l3,l17,l18,l19⟩;refine Qa ?_;simp only[go_sem,l1,l3,l17,l18,l19];refine Wu ?_ ?_
  ·intro hc;have af:b<q.blocks.length:=ZD
   obtain⟨y,hy⟩:∃y,q.blocks[b]=y:=⟨_,rfl⟩;have fF:Qt q b=y:=by rw[AP af,hy]
   have cC:=ho.bs b af;have cj:=ho.il b af;rw[hy]at cC cj;have hR:=h.keep0 kn;obtain⟨a1,a2,fln,aC,o1,o2,cn⟩:=hR.x b af;rw[fF]at aC cn;have aw:=eq_true hR.s.ok;have cL:=hR.s.rows;refine Zd ?_
   refine Wb ?_;simp only[go_sem,bt,aw,am,bj,cL,jh,af,aC,o1,o2];intro x5 bm H2 h2;have kn:Kn H H2 [] ([(x5,_)]++([(o,.vec 1 (ss.map PSl.row))]++psL ss)):=(kn.al bm h2).perm Jk;have bm:=kn.l 0 rfl;simp only[go_sem,Qui,bm];intro H3 h3;have kn:=kn.aA 0 rfl h3;have kn:Kn H H3 [] ([(x5,.st [a1,a2,Ui y.jump,Ui y.on,.sl fln 1 (Qc y.next)])]++([(o,.vec 1 (ss.map PSl.row))]++psL ss)):=kn;clear bm;have hR:=h.keep0 kn;refine Zi bt ?_;refine Q0t (nx:=gnx q) hR.s bt hR.no (λi hi=>by
    obtain⟨c1,c2,c3,c4,c5,e1,_,e3⟩:=hR.hx i hi;exact⟨c1,c2,c3,c4,c5,e1,e3⟩) λfl2 H4 hu=>?_
   have kn:=kn.au hu;have sY:Db (gnx q) (b:Int) q.blocks.length=Qp (gnx q) (b:Int) q.blocks.length:=by rw[Db,if_pos ZaI]
   rw[jh,sY];obtain⟨ps,fj⟩:∃ps,Qp (gnx q) (b:Int) q.blocks.length=ps:=⟨_,rfl⟩;have w6:ps.Nodup:=by rw[<-fj];exact GP _ _ _
   have cQ:ps.length<=q.blocks.length:=by rw[<-fj];exact CA _ _ _
   have lU:∀p∈y.ab,p.args.length=ps.length:=λp hp=>by rw[cC.pal p hp,fj]
   rw[fj];simp only[go_sem,Quj];have bm:=kn.l 0 rfl;have cn:=(h.keep0 kn).ph af aC;rw[fF]at cn;have ew:=eq_true cn.ok;have oV:=cn.len;have we:=cn.sz;refine Qa ?_;simp only[go_sem,bm,o1,ew,oV,Qy];try intro _
   refine Qe (Qx (λm e1 H1=>∃(k:Nat) (ss:List PSl),m=y.ab.length-k/\k<=y.ab.length/\ss.length=q.blocks.length/\PInv (λr=>if r=b then (y.ab.take k).map (zpA q b)else phT q b r) ss/\Kn H H1 [] ([(x5,.st [a1,a2,Ui y.jump,Ui y.on,.sl fln 1 (Qc y.next)])]++([(o,.vec 1 (ss.map PSl.row))]++psL ss))/\
    lk 1 e1=.c (.pp [Ui q.params,Ui q.ae,bc])/\lk 3 e1=.c (.ai o 1 0 q.blocks.length)/\lk 4 e1=Uv b/\lk 6 e1=.c (.sl fl2 1 (Qc ps))/\lk 17 e1=.c (bc)/\lk 18 e1=.c (Ui q.blocks.length)/\lk 19 e1=Uv b/\lk 28 e1=.c a1/\lk 29 e1=.c (Ui y.ab.length)/\lk 30 e1=Uv k) y.ab.length ?_ ?_)
   ·refine⟨0,ss,ZA,ZA,cW,⟨λr hr=>?_,hS.ok⟩,kn,rfl,rfl,rfl,rfl,rfl,rfl,rfl,rfl,rfl,rfl⟩;rw[hS.f r hr];by_cases mX:r=b
    ·subst mX;simp[phT]
    ·rw[if_neg mX]
   ·clear kn hS l1 l3 l17 l18 l19 bm cW cn ew;rintro m2 e2 H5 ⟨k,ss,eW,hk,cW,hS,kn,l1,l3,l4,l6,l17,l18,l19,l28,l29,l30⟩;refine Qa ?_;simp only[go_sem,l1,l3,l4,l6,l17,l18,l19,l28,l29,l30];refine Wu ?_ ?_
    ·intro a7;have aN:k<y.ab.length:=ZF;obtain⟨p,hp⟩:∃p,y.ab[k]=p:=⟨_,rfl⟩;have ee:p∈y.ab:=ZaZ;have qs:=lU p ee;refine Zd ?_
     refine Qh (Qe ?_);have cn:=(h.keep0 kn).ph af aC;rw[fF]at cn;have ew:=eq_true cn.ok;have iK:=cn.rows;refine Qa ?_;simp only[go_sem,o1,ew,oV,we,iK,aN,Qy,BU _ _ aN,PhiD.cells,hp];intro x8 be H6 h6;have kn:Kn H H6 [] ([(x8,_)]++([(x5,.st [a1,a2,Ui y.jump,Ui y.on,.sl fln 1 (Qc y.next)])]++([(o,.vec 1 (ss.map PSl.row))]++psL ss))):=(kn.al be h6).perm Jk;have be:=kn.l 0 rfl;simp only[go_sem,Quk,be];intro H7 h7;have kn:=kn.aA 0 rfl h7;have kn:Kn H H7 [] ([(x8,.st p.cells)]++([(x5,.st [a1,a2,Ui y.jump,Ui y.on,.sl fln 1 (Qc y.next)])]++([(o,.vec 1 (ss.map PSl.row))]++psL ss))):=kn;clear be;refine Za ?_;intro M hM H8 h8;have kn:Kn H H8 [] ([(M,.map 0 (mI []))]++([(x8,.st p.cells)]++([(x5,.st [a1,a2,Ui y.jump,Ui y.on,.sl fln 1 (Qc y.next)])]++([(o,.vec 1 (ss.map PSl.row))]++psL ss)))):=(kn.al hM h8).perm Jk;clear hM;simp only[go_sem,Qul];refine Q1 (Qa ?_);simp only[go_sem,Qb];try intro _
     refine Qh (Qe (Qx (λm e1 H1=>∃(i ver:Nat),m=ps.length-i/\i<=ps.length/\Kn H H1 [] ([(M,.map ver (mI ((ps.zip p.args).take i)))]++([(x8,.st p.cells)]++([(x5,.st [a1,a2,Ui y.jump,Ui y.on,.sl fln 1 (Qc y.next)])]++([(o,.vec 1 (ss.map PSl.row))]++psL ss))))/\
      lk 1 e1=.c (.pp [Ui q.params,Ui q.ae,bc])/\lk 3 e1=.c (.ai o 1 0 q.blocks.length)/\lk 4 e1=Uv b/\lk 6 e1=.c (.sl fl2 1 (Qc ps))/\lk 8 e1=Up x8/\lk 9 e1=.c (.mp M)/\lk 17 e1=.c (bc)/\lk 18 e1=.c (Ui q.blocks.length)/\lk 19 e1=Uv b/\lk 28 e1=.c a1/\lk 29 e1=.c (Ui y.ab.length)/\lk 30 e1=Uv k/\
      lk 35 e1=.c (.sl fl2 1 (Qc ps))/\lk 36 e1=.c (Ui ps.length)/\lk 37 e1=Uv i) ps.length ?_ ?_))
     ·exact⟨0,0,ZA,ZA,ZL,rfl,rfl,rfl,rfl,rfl,rfl,rfl,rfl,rfl,rfl,rfl,rfl,rfl,rfl,rfl⟩
     ·clear kn l1 l3 l4 l6 l17 l18 l19 l28 l29 l30;rintro m3 e3 H9 ⟨i,ver,uN,hi,kn,l1,l3,l4,l6,l8,l9,l17,l18,l19,l28,l29,l30,l35,l36,l37⟩;have hM:=kn.l 0 rfl;have be:=kn.l 1 rfl;refine Qa ?_;simp only[go_sem,l1,l3,l4,l6,l8,l9,l17,l18,l19,l28,l29,l30,l35,l36,l37];refine Wu ?_ ?_
      ·intro bn;have bF:i<ps.length:=ZR;have jF:i<p.args.length:=ZA;obtain⟨w,hw⟩:∃w,ps[i]=w:=⟨_,rfl⟩;obtain⟨a,ha⟩:∃a,p.args[i]=a:=⟨_,rfl⟩;have xN:ps.getD i 0=w:=(by simp[Ja,bF,hw]);have tR:p.args.getD i 0=a:=(by simp[Ja,jF,ha]);have sa:=XD bF jF w6;rw[hw,ha]at sa;have i6:((ps.zip p.args).take i).length<=i:=(by rw[J2];omega);refine Zd ?_
       refine Wb ?_;simp only[go_sem,bF,Qb,Qo _ _ bF,xN];refine Qq ?_;simp only[go_sem,be,PhiD.cells,hM,jF,Qb,Qo _ _ jF,tR,DM,Du,Dw,sa];refine⟨by simp only[LIM];omega,λH10 dh=>?_⟩;have kn:=kn.aA 0 rfl dh;refine Zh ?_;refine⟨Qr,?_⟩;show ∃m,_;exact⟨ps.length-(i+1),ZA,i+1,ver+1,rfl,ZA,kn,rfl,rfl,rfl,rfl,rfl,rfl,rfl,rfl,rfl,rfl,rfl,rfl,rfl,rfl,rfl⟩
      ·intro bn;have bp:ps.length<=i:=ZR;have eM:(ps.zip p.args).take i=zpA q b p:=by
        rw[Jc (by rw[List.length_zip];omega),zpA,fj]
       rw[eM]at kn;refine Zb ?_;have bk:b<ss.length:=ZA;obtain⟨s,hs⟩:∃s,ss[b]=s:=⟨_,rfl⟩;have aI:s.ok:=(by rw[<-hs];exact hS.ok _ (Jb bk));have uD:=hS.f b bk;rw[hs]at uD;simp only[if_true]at uD;have fU:=Gr.ah aI;have gK:s.ms.length=k:=(by have:=congrArg List.length uD;simp only[Je,J2]at this;omega);have jg:(ss.map PSl.row).getD b []=[s.c]:=(by simp[Ja,bk,hs,PSl.row]);have dB:(ss.map PSl.row).length=q.blocks.length:=(by rw[Je,cW]);have lI:(ss.map PSl.row).take q.blocks.length=ss.map PSl.row:=Jc ZA;have qg:=GY bk hs;have kn:Kn H H9 [] (([(o,.vec 1 (ss.map PSl.row)),(M,.map ver (mI (zpA q b p))),(x8,.st p.cells),(x5,.st [a1,a2,Ui y.jump,Ui y.on,.sl fln 1 (Qc y.next)])]++(psL (ss.eraseIdx b)++s.ms.flatMap PMap.lg))++s.g):=kn.perm (Qj λf hf h0 hc hp=>by
        have e4:∀(a b c d:Nat×Obj),f [a,b,c,d]=f [a]+f [b]+f [c]+f [d]:=λa b c d=>ZM;have:=hp _ _ qg;rw[PSl.lg]at this;simp only[Ui,hf,e4]at this⊢;omega)
       have bh:=kn.l 0 rfl;refine Qq ?_;simp only[go_sem,bh,dB,lI,af,jg,fU,Jn,Jl];refine kn.br (new:=[[.mp M]]) aI (.mk' _ _ _ _) (by intro r hr;simp only[Jd]at hr;rw[hr];rfl) (by simp only[C6,LIM,Ji,Jh];omega) λt2 g2 H10 dA di kn=>?_;have bh:=kn.l 0 rfl;simp only[go_sem,Qum,bh,dB,af,jg,Jn,Jl];intro H11 eB;obtain⟨s',dV⟩:∃s':PSl,s'=⟨s.ms++[⟨M,ver,zpA q b p⟩],t2,g2⟩:=⟨_,rfl⟩;have hs'ok:s'.ok:=by
        rw[dV];show Gr g2 1 (Ba (s.ms++[⟨M,ver,zpA q b p⟩])) t2;have e:Ba (s.ms++[⟨M,ver,zpA q b p⟩])=Ba s.ms++[[.mp M]]:=(by simp[Ba]);rw[e];exact dA
       have bK:(ss.map PSl.row).set b [t2]=(ss.set b s').map PSl.row:=(by rw[Jao,dV];rfl);rw[bK]at eB;have kn:=kn.aA 0 rfl eB;have lQ:=FW (s:=s') bk;have kn:Kn H H11 [] (([(x5,.st [a1,a2,Ui y.jump,Ui y.on,.sl fln 1 (Qc y.next)])]++([(o,.vec 1 ((ss.set b s').map PSl.row))]++psL (ss.set b s')))++[(x8,.st p.cells)]):=kn.perm (Qj λf hf h0 hc hp=>by
        have e4:∀(a b c d:Nat×Obj),f [a,b,c,d]=f [a]+f [b]+f [c]+f [d]:=λa b c d=>ZM;have:=hp _ _ lQ;have es:s'.lg=(s.ms.flatMap PMap.lg++[(M,.map ver (mI (zpA q b p)))])++g2:=(by rw[dV,PSl.lg,Jat];simp[PMap.lg]);rw[es]at this;show f ([(o,_),(M,_),(x8,_),(x5,_)]++(psL (ss.eraseIdx b)++s.ms.flatMap PMap.lg)++g2)=_;simp only[Ui,hf,e4]at this⊢;omega)
       have kn:=kn.drop;refine Zh ?_;refine⟨Qr,?_⟩;show ∃m,_;refine⟨y.ab.length-(k+1),ZA,k+1,ss.set b s',rfl,ZA,by rw[Jp];exact cW,hS.set hs'ok λr hr=>?_,kn,rfl,rfl,rfl,rfl,rfl,rfl,rfl,rfl,rfl,rfl⟩;by_cases mX:r=b
       ·subst mX;rw[if_pos rfl,if_pos rfl,dV,Jw,uD,Jf aN,Jw,hp];rfl
       ·rw[if_neg mX,if_neg mX,if_neg mX]
    ·intro a7;have jm:k=y.ab.length:=(by have:y.ab.length<=k:=(by simpa using a7);omega);subst jm;rw[J9]at hS;refine Zb ?_;have kn:Kn H H5 [] (([(o,.vec 1 (ss.map PSl.row))]++psL ss)++[(x5,.st [a1,a2,.int .i64 y.jump,.int .i64 y.on,.sl fln 1 (Qc y.next)])]):=kn.perm Jk;have kn:=kn.drop;refine Zh ?_;refine⟨Qr,?_⟩;show ∃m,_;refine⟨q.blocks.length-(b+1),ZA,b+1,ss,rfl,ZA,cW,⟨λr hr=>?_,hS.ok⟩,kn,rfl,rfl,rfl,rfl,rfl⟩;rw[hS.f r hr];by_cases mX:r=b
     ·subst mX;rw[if_pos rfl,phT,if_pos ZA,fF]
     ·rw[if_neg mX,phT,phT];by_cases f9:r<b
      ·rw[if_pos f9,if_pos ZA]
      ·rw[if_neg f9,if_neg ZA]
  ·intro hc;have f0:b=q.blocks.length:=by have:q.blocks.length<=b:=ZD;omega
   subst f0;refine Wc ?_;refine Zq ?_;have kn:Kn H H1 [] ([]++([(o,.vec 1 (ss.map PSl.row))]++psL ss)):=kn;exact⟨unx H ([(o,.vec 1 (ss.map PSl.row))]++psL ss),.c (.ai o 1 0 q.blocks.length),H1.frz (unx H ([(o,.vec 1 (ss.map PSl.row))]++psL ss)),.c _ _ (.same _ rfl),CP _ _,hK o ss _ cW hS kn.finK⟩
theorem Ye {fl:Bool}(ho:q.ok)(hK:∀o ss H',ss.length=q.blocks.length->PInv (phT q q.blocks.length) ss->Kn H H' [] ([(o,.vec 1 (ss.map PSl.row))]++psL ss)->K (.c (.ai o 1 0 q.blocks.length)) H') :
  Qv prog PX [.ag [Ui q.params,Ui q.ae,.sl fl 5 (Qm q.blocks)]] H K:=Kg ho .frz hK
end Go.AE.Y
namespace Go.AE.Y
attribute [local go_sem] cond_true cond_false Bool.not_true Bool.not_false
open Go.Proofs.Tryz
variable {H H0:Heap}{K:Uk}{E L:Ul}
theorem Qbir {w:Int}{x7 M ver:Nat}{l:List (Int×Int)}(h7:H x7=.st [.mp M])(hM:H M=.map ver (mI l))(hK:K (Uv ((lkI w l).getD 0)) H) :
  Qv prog Pd [Uv w,Up x7] H K:=by
 have iP:BL H (.mp M)=True:=Zba
 have iV:Bb H (.mp M)=mI l:=Zbb
 refine Qd A6 Qaiw ?_;refine Wk ?_;simp only[go_sem,h7,iP,iV,DM,Ol];refine Zq ?_;exact hK
theorem TQ {f:Bool}{ps:List Int}{x7 M ver:Nat}{l:List (Int×Int)}(cQ:ps.length<=2 ^ 38)(h7:H x7=.st [.mp M])(hM:H M=.map ver (mI l))(bf:x7≠M)
  (hK:∀H',Upd H H' []->K (.c (.sl false 1 (Qc (ps.map λw=>(lkI w l).getD 0)))) H') :
  Qv prog Qe6 [.c (.sl f 1 (Qc ps)),.c (.fn Pd [.ptr x7 0])] H K:=by
 obtain⟨av,jJ⟩:∃av,(ps.map λw=>(lkI w l).getD 0)=av:=⟨_,rfl⟩;have havl:av.length=ps.length:=by rw[<-jJ,Je]
 rw[jJ]at hK;refine Qz ?_;refine Qd A6 Qv4 ?_;have kn:=Kn.start2 h7 (by nofun) hM (by nofun) bf;refine Wd ?_;refine Q1 (Qa ?_);simp only[go_sem,Qb];try intro _
 refine Qh (Qe (Qx (λm e1 H1=>∃(i:Nat) (t:C) (Lg:Ul),m=ps.length-i/\i<=ps.length/\Gr Lg 1 (Qc (av.take i)) t/\Kn H H1 [(x7,.st [.mp M]),(M,.map ver (mI l))] ([]++Lg)/\
  lk 1 e1=.c (.fn Pd [.ptr x7 0])/\lk 5 e1=.c t/\lk 8 e1=.c (.sl f 1 (Qc ps))/\lk 9 e1=.c (Ui ps.length)/\lk 10 e1=Uv i) ps.length ?_ ?_))
 ·exact⟨0,_,[],ZA,ZA,.nil 1,kn,rfl,rfl,rfl,rfl,rfl⟩
 ·clear kn;rintro m e1 H1 ⟨i,t,Lg,hm,hi,ay,kn,l1,l5,l8,l9,l10⟩;have gk:=ay.ah;refine Qa ?_;simp only[go_sem,l1,l5,l8,l9,l10];refine Wu ?_ ?_
  ·intro hc;have af:i<ps.length:=ZD
   obtain⟨w,hw⟩:∃w,ps[i]=w:=⟨_,rfl⟩;have b6:ps.getD i 0=w:=by simp[Ja,af,hw]
   have xK:i<av.length:=ZA
   have mV:av[i]=(lkI w l).getD 0:=by subst jJ;rw[Jo,hw]
   have bP:av.take (i+1)=av.take i++[(lkI w l).getD 0]:=by rw[Jf xK,mV]
   refine Zd ?_
   refine Wb ?_;simp only[go_sem,af,Qb,Qo _ _ af,b6];refine Zh ?_;refine Qbir (kn.e 0 rfl) (kn.e 1 rfl) ?_;simp only[go_sem,Qdv];refine kn.br (new:=Qc [(lkI w l).getD 0]) ay (.mk' _ _ _ _) (Qw _) (by simp only[Qb,J2,LIM,Ji,Jh];omega) λt2 Lg2 H5 bW di kn=>?_;simp only[go_sem,DA];refine Zh ?_;refine⟨Qr,?_⟩;show ∃m,_;refine⟨ps.length-(i+1),ZA,i+1,t2,Lg2,rfl,ZA,?_,kn,rfl,rfl,rfl,rfl,rfl⟩;rw[bP,De];exact bW
  ·intro hc;have bp:ps.length<=i:=ZD
   rw[Jc ZA]at ay;refine Wc ?_;refine Zq ?_;exact⟨_,.c _ _ (ay.frz kn (Qw _)),hK _ ((kn.fin.drop2 hM).drop1 h7)⟩
def stlP (nx:Nat->List Int)(N:Nat)(g:Nat->PhiD->Int->Int)(j:Nat)(p:PhiD):PhiD:=⟨p.to,(Qp nx (j:Int) N).map (g j p)⟩
def stlY (nx:Nat->List Int)(N:Nat)(g:Nat->PhiD->Int->Int)(j:Nat)(y:BlkD):BlkD:=⟨y.ab.map (stlP nx N g j),y.ins,y.jump,y.on,y.next⟩
variable {nx:Nat->List Int}{N:Nat}{g:Nat->PhiD->Int->Int}{Y:Nat->BlkD}
structure StS (nx:Nat->List Int)(N:Nat)(g:Nat->PhiD->Int->Int)(Y:Nat->BlkD)(b:Nat)(ks:List KBlk):Prop where
 n:ks.length=N
 y:∀j (h:j<ks.length),ks[j].y=if j<b then stlY nx N g j (Y j)else Y j
 ok:∀k∈ks,k.ok
theorem StS.step {b:Nat}{ks:List KBlk}(hS:StS nx N g Y b ks)(hb:b<ks.length){ph:List PhiD}{pl:Ul}(h2:ph=(Y b).ab.map (stlP nx N g b))(hg:Gr pl 2 (Q3 ph) ks[b].pc) :
  StS nx N g Y (b+1) (ks.set b ⟨⟨ph,ks[b].y.ins,ks[b].y.jump,ks[b].y.on,ks[b].y.next⟩,ks[b].pc,pl⟩):=by
 refine⟨by rw[Jp];exact hS.n,λj h=>?_,λw hw=>?_⟩
 ·have h':j<ks.length:=ZI
  rw[J5];split
  ·rename_i e;subst e
   have:=hS.y b hb;rw[if_neg (Jbn b)]at this;rw[if_pos (Nat.lt_succ_self b),this,h2];rfl
  ·rename_i e
   rw[hS.y j h'];by_cases hj:j<b
   ·rw[if_pos hj,if_pos ZA]
   ·rw[if_neg hj,if_neg ZA]
 ·rcases Jy hw with h|rfl
  ·exact hS.ok w h
  ·exact hg
structure PTel (nx:Nat->List Int)(N:Nat)(g:Nat->PhiD->Int->Int)(Y:Nat->BlkD)(ss:List PSl):Prop where
 ml:∀r (h:r<ss.length),ss[r].ms.length=(Y r).ab.length
 f:∀r (h:r<ss.length) i (h1:i<ss[r].ms.length) (h2:i<(Y r).ab.length),∀w∈Qp nx (r:Int) N,(lkI w (ss[r].ms[i]).l).getD 0=g r (Y r).ab[i] w
 ok:∀s∈ss,s.ok
theorem Qbod {x zb o:Nat}{P G:Int}{ks0:List KBlk}{ss:List PSl}{R:Ul}{RW:List (List C)}(hN:N<=100000)(hk:StS nx N g Y 0 ks0)(ba:RW.length=N)(uu:∀r∈RW,Go.AE.ak r=true)
  (Al:∀j (h:j<ks0.length),∃a2 a3 a4 fl,RW.getD j []=[ks0[j].pc,a2,a3,a4,.sl fl 1 (Qc (nx j))]) (cQ:∀j,j<N->(Y j).ab.length<=100000)
  (cW:ss.length=N) (hs:PTel nx N g Y ss)
  (kn:Kn H0 H E ([(x,.st [Ui P,Ui G,.ai zb 5 0 N]),(zb,.vec 5 RW),(o,.vec 1 (ss.map PSl.row))]++(ks0.flatMap KBlk.pl++(psL ss++R))))
  (hK:∀ks H',StS nx N g Y N ks->ks.map KBlk.pc=ks0.map KBlk.pc->Kn H0 H' E ([(x,.st [Ui P,Ui G,.ai zb 5 0 N]),(zb,.vec 5 RW),(o,.vec 1 (ss.map PSl.row))]++(ks.flatMap KBlk.pl++(psL ss++R)))->K (.tup []) H') :
  Qv prog PW [Up x,.c (.ai o 1 0 N)] H K:=by
 obtain⟨X0,rQ⟩:∃X0,X0=Obj.st [Ui P,Ui G,.ai zb 5 0 N]:=⟨_,rfl⟩;obtain⟨SW,ox⟩:∃SW,ss.map PSl.row=SW:=⟨_,rfl⟩;have bu:RW.take N=RW:=Jc ZA;have yC:SW.length=N:=by rw[<-ox,Je,cW]
 have yB:SW.take N=SW:=Jc ZA;rw[ox,<-rQ]at kn;rw[ox,<-rQ]at hK;have oy:∀j,j<RW.length->∃a1 a2 a3 a4 fl,RW.getD j []=[a1,a2,a3,a4,.sl fl 1 (Qc (nx j))]:=λj hj=>by
  obtain⟨a2,a3,a4,fl,e⟩:=Al j (by rw[hk.n];omega);exact⟨_,a2,a3,a4,fl,e⟩
 refine Qd A6 Qa5j ?_;have hx:=kn.l 0 rfl;rw[rQ]at hx;have bY:=kn.l 1 rfl;refine Qa ?_;simp only[go_sem,hx,bY,ba,Jn,Jl];try intro _
 refine Qe (Qx (λm e1 H1=>∃(b:Nat) (ks:List KBlk),m=N-b/\b<=N/\StS nx N g Y b ks/\ks.map KBlk.pc=ks0.map KBlk.pc/\
  Kn H0 H1 E ([(x,X0),(zb,.vec 5 RW),(o,.vec 1 SW)]++(ks.flatMap KBlk.pl++(psL ss++R)))/\
  lk 0 e1=Up x/\lk 1 e1=.c (.ai o 1 0 N)/\lk 12 e1=Uv N/\lk 13 e1=Uv b) N ?_ ?_)
 ·exact⟨0,ks0,ZA,ZA,hk,rfl,kn,rfl,rfl,rfl,rfl⟩
 ·clear kn hx bY;rintro m e1 H1 ⟨b,ks,hm,hb,hS,xp,kn,l0,l1,l12,l13⟩;refine Qa ?_;simp only[go_sem,l0,l1,l12,l13];refine Wu ?_ ?_
  ·intro hc;have af:b<N:=ZD
   have df:b<ks.length:=by rw[hS.n];exact af
   obtain⟨kb,eQ⟩:∃kb,ks[b]=kb:=⟨_,rfl⟩;have fP:Gr kb.pl 2 (Q3 kb.y.ab) kb.pc:=by rw[<-eQ];exact hS.ok _ (Jb df)
   have nS:kb.y=Y b:=by have:=hS.y b df;rw[if_neg (Jbn b),eQ]at this;exact this
   have fH:b<ss.length:=ZA
   obtain⟨s,rI⟩:∃s,ss[b]=s:=⟨_,rfl⟩;have gK:s∈ss:=by rw[<-rI];exact Jb fH
   have aI:=hs.ok s gK;have hsml:s.ms.length=(Y b).ab.length:=by have:=hs.ml b fH;rw[rI]at this;exact this
   have sN:∀i (h1:i<s.ms.length) (h2:i<(Y b).ab.length),∀w∈Qp nx (b:Int) N,(lkI w (s.ms[i]).l).getD 0=g b (Y b).ab[i] w:=by
    have:=hs.f b fH;rw[rI]at this;exact this
   obtain⟨w2,w3,w4,wf,aX⟩:=Al b Za4;have lT:(ks.map KBlk.pc)[b]? = some kb.pc:=by simp[df,eQ]
   rw[xp]at lT;have lT:(ks0[b]'Za4).pc=kb.pc:=by
    rw[J8,Jj Za4]at lT;exact Jah lT
   rw[lT]at aX;have yD:SW.getD b []=[s.c]:=by
    rw[<-ox,Ja];simp only[J8,Jj fH,rI,Jap,Jaw];rfl
   have fU:=Gr.ah aI;obtain⟨KR,Aw⟩:∃KR,(ks.eraseIdx b).flatMap KBlk.pl=KR:=⟨_,rfl⟩;have eR:(ks.flatMap KBlk.pl).Perm (kb.pl++KR):=by rw[<-Aw,<-eQ];exact BT df
   refine Zd ?_
   refine Wf ?_;have hx:=kn.l 0 rfl;rw[rQ]at hx;have bY:=kn.l 1 rfl;refine Zi hx ?_;refine Q9w (nx:=nx) ⟨vslc bY ba.symm,rfl,uu,oy⟩ λfl2 H2 hu=>?_;have kn:=kn.au hu;have sY:Db nx (b:Int) RW.length=Qp nx (b:Int) N:=by rw[ba,Db,if_pos ZaI]
   rw[sY];obtain⟨ps,fj⟩:∃ps,Qp nx (b:Int) N=ps:=⟨_,rfl⟩;have sS:ps.length<=N:=by rw[<-fj];exact CA _ _ _
   rw[fj];simp only[go_sem,Pu];have ho:=kn.l 2 rfl;have pj:∀p∈s.g,p∈psL ss:=λp hp=>Jad.2 ⟨s,gK,Jg _ hp⟩;have ko:aW H2 s.c=True/\ax s.c=s.ms.length:=by
    refine⟨eq_true ?_,by have:=Gr.ax aI;rw[C6]at this;exact this⟩;rcases aI with ⟨h1,_,_⟩|⟨z,h1,h2⟩
    ·rw[h1];trivial
    ·have hz:=(kn.get (z,.vec 1 (Ba s.ms)) (Jg _ (Jg _ (Jg _ (Ju _ (pj _ Zai)))))).1;rw[h1];simp only[aW,hz,Jn,Jl,and_self]
   refine Qa ?_;simp only[go_sem,ho,yC,yB,yD,af,fU,ko.1,ko.2,Jn,Jl];try intro _
   have kn:Kn H0 H2 E (([(x,X0),(zb,.vec 5 RW),(o,.vec 1 SW)]++(KR++(psL ss++R)))++kb.pl):=kn.perm (Qj λf hf h0 hc hp=>by
    have:=hp _ _ eR;simp only[Ui,hf]at this⊢;omega)
   refine Qe (Qx (λm e1 H1=>∃(i:Nat) (ph:List PhiD) (pl:Ul),m=s.ms.length-i/\i<=s.ms.length/\ph=mix (stlP nx N g b) (Y b).ab i/\Gr pl 2 (Q3 ph) kb.pc/\
    Kn H0 H1 E (([(x,X0),(zb,.vec 5 RW),(o,.vec 1 SW)]++(KR++(psL ss++R)))++pl)/\
    lk 0 e1=Up x/\lk 1 e1=.c (.ai o 1 0 N)/\lk 4 e1=Uv b/\lk 5 e1=.c (.sl fl2 1 (Qc ps))/\lk 12 e1=Uv N/\lk 13 e1=Uv b/\lk 24 e1=.c s.c/\lk 25 e1=.c (Ui s.ms.length)/\lk 26 e1=Uv i) s.ms.length ?_ ?_)
   ·exact⟨0,kb.y.ab,kb.pl,ZA,ZA,by rw[GQ,nS],fP,kn,rfl,rfl,rfl,rfl,rfl,rfl,rfl,rfl,rfl⟩
   ·clear kn hx bY ho ko l0 l1 l12 l13 eR;rintro m2 e2 H3 ⟨i,ph,pl,eW,hi,eF,ay,kn,l0,l1,l4,l5,l12,l13,l24,l25,l26⟩;have j5:ph.length=(Y b).ab.length:=(by rw[eF,Ct]);refine Qa ?_;simp only[go_sem,l0,l1,l4,l5,l12,l13,l24,l25,l26];refine Wu ?_ ?_
    ·intro a7;have aN:i<s.ms.length:=ZF;have xL:i<(Y b).ab.length:=ZA;have hYl:=cQ b af;have xF:i<ph.length:=ZA;obtain⟨zs,gH,jg⟩:∃z,s.c=.ai z 1 0 s.ms.length/\s.g=[(z,.vec 1 (Ba s.ms))]:=by
      rcases aI with ⟨_,h,_⟩|⟨z,h1,h2⟩
      ·have:=congrArg List.length h;rw[C6]at this;simp only[Jh]at this;omega
      ·exact⟨z,by rw[h1,C6],h2⟩
     obtain⟨zp,ik,w8⟩:∃z,kb.pc=.ai z 2 0 ph.length/\pl=[(z,.vec 2 (Q3 ph))]:=by
      rcases ay with ⟨_,h,_⟩|⟨y,h1,h2⟩
      ·have:=congrArg List.length h;rw[Qy]at this;simp only[Jh]at this;omega
      ·exact⟨y,by rw[h1,Qy],h2⟩
     rw[ik]at aX;rw[w8]at kn;obtain⟨pm,ee⟩:∃pm,s.ms[i]=pm:=⟨_,rfl⟩;obtain⟨p,hp⟩:∃p,(Y b).ab[i]=p:=⟨_,rfl⟩;obtain⟨gl,d9⟩:∃gl,pm.l=gl:=⟨_,rfl⟩;have qs:ps.map (λw=>(lkI w gl).getD 0)=ps.map (g b p):=Jaj λw hw=>by
      have:=sN i aN xL w (by rw[fj];exact hw);rw[ee,d9,hp]at this;exact this
     have wA:ph[i]=p:=(by rw[<-hp];subst eF;exact CV xL xF);have ma:(Ba s.ms).getD i []=[.mp pm.m]:=(by rw[Q1a _ _ aN,ee]);have qE:(Ba s.ms).take s.ms.length=Ba s.ms:=Jc (by rw[C6];omega);have p9:(zs,Obj.vec 1 (Ba s.ms))∈psL ss:=pj _ (by rw[jg];simp);have Ap:(pm.m,Obj.map pm.ver (mI gl))∈psL ss:=Jad.2 ⟨s,gK,Ju _ (Jad.2 ⟨pm,by rw[<-ee];exact Jb aN,by rw[PMap.lg,d9];simp⟩)⟩;have vj:=(kn.get (zs,.vec 1 (Ba s.ms)) (by simp[p9])).1;have o6:=(kn.get (pm.m,.map pm.ver (mI gl)) (by simp[Ap])).1;refine Zd ?_
     refine Wb ?_;simp only[go_sem,gH,vj,C6,qE,aN,ma,Jn,Jl];intro x7 b7 H4 h4;have bf:x7≠pm.m:=λe=>(by rw[e,o6]at b7;simp at b7);have kn:Kn H0 H4 E ([(x7,.st [.mnil])]++(([(x,X0),(zb,.vec 5 RW),(o,.vec 1 SW)]++(KR++(psL ss++R)))++[(zp,.vec 2 (Q3 ph))])):=(kn.al b7 h4).perm Jk;have b7:=kn.l 0 rfl;simp only[go_sem,Quy,b7];intro H5 h5;have kn:Kn H0 H5 E ([(x7,.st [.mp pm.m])]++(([(x,X0),(zb,.vec 5 RW),(o,.vec 1 SW)]++(KR++(psL ss++R)))++[(zp,.vec 2 (Q3 ph))])):=kn.aA 0 rfl h5;have b7:=kn.l 0 rfl;have hx:=kn.l 1 rfl;rw[rQ]at hx;have bY:=kn.l 2 rfl;have o6:=(kn.get (pm.m,.map pm.ver (mI gl)) (by simp[Ap])).1;have u5:=(kn.get (zp,.vec 2 (Q3 ph)) ZC).1;have nC:(Q3 ph).take ph.length=Q3 ph:=Jc (by rw[Qy];omega);have kq:(Q3 ph).getD i []=[Ui p.to,.sl false 1 (Qc p.args)]:=(by rw[BU _ _ xF,wA];rfl);refine AY ?_;simp only[go_sem,hx,bY,ba,bu,aX,af,Jn,Jl];refine TQ ZA b7 o6 bf λH6 hu=>?_;have kn:=kn.au hu;have hx:=kn.l 1 rfl;rw[rQ]at hx;have bY:=kn.l 2 rfl;have u5:=(kn.get (zp,.vec 2 (Q3 ph)) ZC).1;simp only[go_sem,Quz,hx,bY,ba,bu,aX,af,u5,Qy,xF,kq,Jn,Jl];intro H7 h7;have aC:(Q3 ph).set i [Ui p.to,.sl false 1 (Qc (ps.map λw=>(lkI w gl).getD 0))]=Q3 (mix (stlP nx N g b) (Y b).ab (i+1)):=by
      rw[qs,<-Dz xL,hp,stlP,fj,<-eF,Q3,Q3,Jao];rfl
     rw[aC]at h7;have kn:Kn H0 H7 E ((([(x,X0),(zb,.vec 5 RW),(o,.vec 1 SW)]++(KR++(psL ss++R)))++[(zp,.vec 2 (Q3 (mix (stlP nx N g b) (Y b).ab (i+1))))])++[(x7,.st [.mp pm.m])]):=
      ((kn.perm (L':=[(zp,.vec 2 (Q3 ph))]++([(x7,.st [.mp pm.m])]++([(x,X0),(zb,.vec 5 RW),(o,.vec 1 SW)]++(KR++(psL ss++R))))) (Qj λf hf h0 hc hp=>by simp only[Ui,hf];omega)).aA 0 rfl h7).perm (Qj λf hf h0 hc hp=>by
       show f ([(zp,_)]++([(x7,_)]++([(x,X0),(zb,.vec 5 RW),(o,.vec 1 SW)]++(KR++(psL ss++R)))))=_;simp only[Ui,hf];omega)
     have kn:=kn.drop;refine Zh ?_;refine⟨Qr,?_⟩;show ∃m,_;refine⟨s.ms.length-(i+1),ZA,i+1,_,_,rfl,ZA,rfl,?_,kn,rfl,rfl,rfl,rfl,rfl,rfl,by first|rfl|exact congrArg V.c gH.symm,rfl,rfl⟩;rw[ik];exact .mk _ _ _ (by rw[Qy,Ct,j5])
    ·intro a7;have iA:s.ms.length<=i:=ZF;rw[D0 _ _ ZA]at eF;refine Zb ?_;have kP:ks[b].y=Y b:=(by rw[eQ,nS]);obtain⟨ks2,im⟩:∃ks2,ks2=ks.set b ⟨⟨ph,ks[b].y.ins,ks[b].y.jump,ks[b].y.on,ks[b].y.next⟩,ks[b].pc,pl⟩:=⟨_,rfl⟩;have aQ:=hS.step df eF (pl:=pl) (by rw[eQ];exact ay);have cL:(ks.set b ⟨⟨ph,ks[b].y.ins,ks[b].y.jump,ks[b].y.on,ks[b].y.next⟩,ks[b].pc,pl⟩).map KBlk.pc=ks.map KBlk.pc:=by
      rw[Jao];have e:ks[b].pc=(ks.map KBlk.pc)[b]'(by simpa using df):=(by rw[Jo]);rw[e,Ja9]
     have h1:((ks.set b ⟨⟨ph,ks[b].y.ins,ks[b].y.jump,ks[b].y.on,ks[b].y.next⟩,ks[b].pc,pl⟩).flatMap KBlk.pl).Perm (pl++KR):=by
      have:=BT (f:=KBlk.pl) (l:=ks.set b ⟨⟨ph,ks[b].y.ins,ks[b].y.jump,ks[b].y.on,ks[b].y.next⟩,ks[b].pc,pl⟩) (i:=b) (by rw[Jp];exact df);rw[Jav,Jar,Aw]at this;exact this
     rw[<-im]at aQ cL h1;have kn:Kn H0 H3 E ([(x,X0),(zb,.vec 5 RW),(o,.vec 1 SW)]++(ks2.flatMap KBlk.pl++(psL ss++R))):=kn.perm (Qj λf hf h0 hc hp=>by
      have:=hp _ _ h1;simp only[Ui,hf]at this⊢;omega)
     refine Zh ?_;refine⟨Qr,?_⟩;show ∃m,_;exact⟨N-(b+1),ZA,b+1,ks2,rfl,ZA,aQ,cL.trans xp,kn,rfl,rfl,rfl,rfl⟩
  ·intro hc;have f0:b=N:=by have:N<=b:=ZD;omega
   subst f0;refine Qu ?_;simp only[go_sem,X.next,Q7,A5,By,Jak];exact⟨λ_=>trivial,hK ks _ hS xp kn⟩
end Go.AE.Y
namespace Go.AE.Y
attribute [local go_sem] cond_true cond_false Bool.not_true Bool.not_false
open Go.Proofs.Tryz
variable {H H0 F:Heap}{K:Uk}{E L B pl:Ul}
theorem Qaqb {y:BlkD}(hy:y.cl)(hK:∀pc N ic M nc nl H',Gr N 2 (Q3 y.ab) pc->Gr M 4 (AD y.ins) ic->Gr nl 1 (Qc y.next) nc->Kn H H' [] ((N++nl)++M)->K (.ag [pc,ic,Ui y.jump,Ui y.on,nc]) H'):Qv prog Qk6 [.ag y.cells] H K:=by
 refine CG ?_;refine Qd A6 Q6m ?_;refine Qa ?_;simp only[go_sem,BlkD.cells];intro x1 cE H0 h0;have kn:=(Kn.ao H).al cE h0;intro x2 aH H1 h1;have kn:=kn.al aH h1;have cE:=kn.l 0 rfl;refine Zi cE ?_;refine YN hy.p hy.pa kn λpc N H2 kZ kn=>?_;have fK:=kZ.ah;have cE:=kn.l 0 rfl;simp only[go_sem,Qgk,cE];intro H3 h3;have kn:=kn.aA 0 rfl h3;have cE:=kn.l 0 rfl;refine Zi cE ?_;refine Qblx hy.i hy.ia kn λic M H4 gP kn=>?_;have jG:=gP.ah;have cE:=kn.l 0 rfl;simp only[go_sem,Qgl,cE];intro H5 h5;have kn:=kn.aA 0 rfl h5;have cE:=kn.l 0 rfl;refine Zi cE ?_;refine Ev kn hy.n λt Lg H6 ay bt kn=>?_;have cE:=kn.l 0 rfl;simp only[go_sem,Qgm,cE];intro H7 h7;have kn:=kn.aA 0 rfl h7;have cE:=kn.l 0 rfl;have aH:=kn.l 1 rfl;refine Qa ?_;simp only[go_sem,cE,aH,fK,jG,bt];intro H8 h8;have kn:Kn H H8 [] ([(x1,.st [pc,ic,Ui y.jump,Ui y.on,t]),(x2,.st [pc,ic,Ui y.jump,Ui y.on,t])]++((N++Lg)++M)):=
  (kn.aA 1 rfl h8).perm (Qj λf hf h0 hc hp=>by
   have e1:=hc (x1,.st [pc,ic,Ui y.jump,Ui y.on,t]) ([(x2,.st [pc,ic,Ui y.jump,Ui y.on,t])]++N++M++Lg);have e2:=hc (x1,.st [pc,ic,Ui y.jump,Ui y.on,t]) [(x2,.st [pc,ic,Ui y.jump,Ui y.on,t])];show f ((x1,_)::([(x2,_)]++N++M++Lg))=_;rw[e1];simp only[Ui,hf,e2];omega)
 have aH:=kn.l 1 rfl;refine Qk ?_;simp only[go_sem,Q7,A5,Jd,forall_eq,RS.op,fK,jG,bt,aH];exact⟨unx H ((N++Lg)++M),.ag [pc,ic,Ui y.jump,Ui y.on,t],H8.frz (unx H ((N++Lg)++M)),FrzL.ag (.cons (.same _ fK) (.cons (.same _ jG) (.cons (Qg rfl) (.cons (Qg rfl) (.cons (.same _ bt) .nil))))),CP _ _,hK pc N ic M t Lg _ kZ gP ay kn.finK⟩
end Go.AE.Y
namespace Go.AE.Y
structure Fr where
 k:Nat
 b:Nat
 todo:List InsD
 ae:List Int
inductive Cf where
 |go (fs:List Fr) (s c:List Int)
 |dn (e v:Int) (s c:List Int)
def BY (cs:List CodeD)(k:Nat):CodeD:=cs.getD k ⟨0,0,[]⟩
def rg (R:List Int)(r:Int):Int:=R.getD r.toNat 0
def ar (R:List Int)(x:InsD)(i:Nat):Int:=rg R (x.args.getD i 0)
def trI (b:Prop) [Decidable b]:Int:=if b then 1 else 0
def arR (op a b:Int):Option Int:=
 if op=3 then some ((a+b) % 256)else if op=4 then some ((a-b+256) % 256)else if op=5 then some (a * b % 256)
 else if op=6 then (if b=0 then none else some (a / b))else if op=7 then (if b=0 then none else some (a % b))
 else if op=8 then some (trI (a<b))else if op=9 then some (trI (a=b))else some (trI (a=0))
def SB (q:CodeD)(l:List Int):List Int:=l++List.replicate (q.ae.toNat-l.length) 0
def fr0 (cs:List CodeD)(k:Nat)(l:List Int):Fr:=⟨k,0,(Qt (BY cs k) 0).ins,SB (BY cs k) l⟩
def wayI (q:CodeD)(b a:Nat):Nat:=(Qp (gnx q) (b:Int) q.blocks.length).idxOf (a:Int)
def phiV (R:List Int)(w:Nat)(p:PhiD):Int:=rg R (p.args.getD w 0)
def phiR (R:List Int)(w:Nat)(l:List PhiD):List Int:=l.foldl (λT p=>T.set p.to.toNat (phiV R w p)) R
def ixB (y:BlkD)(R:List Int):Nat:=if y.jump=2/\rg R y.on=0 then 1 else 0
def nxB (y:BlkD)(R:List Int):Nat:=(y.next.getD (ixB y R) 0).toNat
def rtn (v:Int):List Fr->List Int->List Int->Cf
 |[],s,c=>.dn 0 v s c
 |f::fs,s,c=>match f.todo with
  |[]=>.go (f::fs) s c
  |x::t=>.go (⟨f.k,f.b,t,f.ae.set x.to.toNat v⟩::fs) s c
def stI (cs:List CodeD)(k b:Nat)(x:InsD)(t:List InsD)(R:List Int)(fs:List Fr)(s c:List Int):Cf:=
 let w:=λv=>Cf.go (⟨k,b,t,R.set x.to.toNat v⟩::fs) s c
 if x.op=1 then w x.n
 else if x.op=11 then (if 16<=ar R x 0 then .dn 2 0 s c else w (rg c (ar R x 0)))
 else if x.op=12 then (if 16<=ar R x 0 then .dn 2 0 s c else .go (⟨k,b,t,R⟩::fs) s (c.set (ar R x 0).toNat (ar R x 1)))
 else if x.op=13 then .go (⟨k,b,t,R⟩::fs) (s++[ar R x 0]) c
 else if x.op=14 then .go (fr0 cs x.n.toNat (x.args.map (rg R))::⟨k,b,x::t,R⟩::fs) s c
 else if x.op=2 then w (ar R x 0)
 else match arR x.op (ar R x 0) (ar R x 1)with
  |none=>.dn 1 0 s c
  |some v=>w v
def frJ (cs:List CodeD)(k b:Nat)(R:List Int)(n:Nat):Fr:=
 ⟨k,n,(Qt (BY cs k) n).ins,phiR R (wayI (BY cs k) n b) (Qt (BY cs k) n).ab⟩
def stJ (cs:List CodeD)(k b:Nat)(R:List Int)(fs:List Fr)(s c:List Int):Cf:=
 let y:=Qt (BY cs k) b
 if y.jump=3 then rtn (rg R y.on) fs s c else .go (frJ cs k b R (nxB y R)::fs) s c
def step (cs:List CodeD):Cf->Cf
 |.go (⟨k,b,x::t,R⟩::fs) s c=>stI cs k b x t R fs s c
 |.go (⟨k,b,[],R⟩::fs) s c=>stJ cs k b R fs s c
 |.go [] s c=>.go [] s c
 |.dn e v s c=>.dn e v s c
def Cq (cs:List CodeD):Nat->Cf->Cf
 |0,x=>x
 |n+1,x=>Cq cs n (step cs x)
theorem FK (cs:List CodeD):∀(n m:Nat) (x:Cf),Cq cs (n+m) x=Cq cs m (Cq cs n x)
 |0,m,x=>by rw[Jn];rfl
 |n+1,m,x=>by rw[Nat.add_right_comm];exact FK cs n m (step cs x)
theorem Iy (cs:List CodeD)(e v:Int)(s c:List Int):∀n,Cq cs n (.dn e v s c)=.dn e v s c
 |0=>rfl
 |n+1=>Iy cs e v s c n
theorem Xu (cs:List CodeD){n m:Nat}{x:Cf}{e v:Int}{s c:List Int}(h:Cq cs n x=.dn e v s c)(hm:n<=m):Cq cs m x=.dn e v s c:=by
 obtain⟨d,rfl⟩:=Nat.exists_eq_add_of_le hm;rw[FK,h,Iy]
def HN:List Int:=List.replicate 16 0
def cf0 (cs:List CodeD)(l:List Int):Cf:=.go [fr0 cs (cs.length-1) l] [] HN
def outR (cs:List CodeD)(l:List Int)(S:Nat):Int×Int×List Int×List Int:=match Cq cs S (cf0 cs l)with
 |.dn e v s c=>(e,v,s,c)
 |.go _ s c=>(3,0,s,c)
def Fe (cs cs':List CodeD)(l:List Int)(S:Nat):Prop:=(outR cs l S).1=3\/outR cs l S=outR cs' l 60000
theorem sim {cs cs':List CodeD}{R:Cf->Cf->Prop}{B:Nat}(hs:∀x x',R x x'->∃m,m<=B/\R (step cs x) (Cq cs' m x'))
  : ∀(n:Nat) {x x':Cf},R x x'->∃m,m<=n * B/\R (Cq cs n x) (Cq cs' m x')
 |0,x,x',h=>⟨0,ZA,h⟩
 |n+1,x,x',h=>by
  obtain⟨m,h1,h2⟩:=hs x x' h;obtain⟨m2,h3,h4⟩:=sim hs n h2;refine⟨m+m2,by rw[Nat.add_mul];omega,?_⟩;rw[FK cs' m m2];exact h4
theorem TA {cs cs':List CodeD}{R:Cf->Cf->Prop}{B S:Nat}{l:List Int}(hs:∀x x',R x x'->∃m,m<=B/\R (step cs x) (Cq cs' m x'))
  (hd:∀e v s c x',R (.dn e v s c) x'->x'=.dn e v s c) (hB:S * B<=60000) (h0:R (cf0 cs l) (cf0 cs' l)):Fe cs cs' l S:=by
 obtain⟨m,h1,h2⟩:=sim hs S h0;rw[Fe]
 cases hx:Cq cs S (cf0 cs l)with
 |go fs s c=>exact .inl (by rw[outR,hx])
 |dn e v s c=>
  right;rw[hx]at h2;have:=Xu cs' (hd _ _ _ _ _ h2) (Jbg h1 hB);rw[outR,outR,hx,this]
structure Fr.ok (cs:List CodeD)(f:Fr):Prop where
 k:f.k<cs.length
 b:f.b<(BY cs f.k).blocks.length
 t:∃p,(Qt (BY cs f.k) f.b).ins=p++f.todo
 r:f.ae.length=(BY cs f.k).ae.toNat
theorem EC {cs:List CodeD}{k:Nat}(h:k<cs.length):BY cs k=cs[k]:=by simp[BY,Ja,h]
inductive RelF (RF:Fr->Fr->Prop):List Fr->List Fr->Prop where
 |nil:RelF RF [] []
 |cons {f f':Fr} {fs fs':List Fr}:RF f f'/\f.todo≠[]->RelF RF fs fs'->RelF RF (f::fs) (f'::fs')
inductive RelC (RF:Fr->Fr->Prop):Cf->Cf->Prop where
 |dn (e v:Int) (s c:List Int):RelC RF (.dn e v s c) (.dn e v s c)
 |go {f f':Fr} {fs fs':List Fr} (s c:List Int):RF f f'->RelF RF fs fs'->RelC RF (.go (f::fs) s c) (.go (f'::fs') s c)
structure InsS (cs cs':List CodeD)(RF:Fr->Fr->Prop)(x x':InsD):Prop where
 op:x'.op=x.op
 to:x'.to=x.to
 args:x'.args=x.args
 n:x.op=1->x'.n=x.n
 call:x.op=14->∀l,l.length=x.args.length->RF (fr0 cs x.n.toNat l) (fr0 cs' x'.n.toNat l)
structure SimR (cs cs':List CodeD)(RF:Fr->Fr->Prop)(B:Nat):Prop where
 b:1<=B
 ins:∀k b x t R f',RF ⟨k,b,x::t,R⟩ f'->∃k' b' x' t',f'=⟨k',b',x'::t',R⟩/\InsS cs cs' RF x x'/\∀R',R'.length=R.length->RF ⟨k,b,t,R'⟩ ⟨k',b',t',R'⟩
 jump:∀k b R f' fs fs' s c,RF ⟨k,b,[],R⟩ f'->RelF RF fs fs'->∃m,m<=B/\RelC RF (stJ cs k b R fs s c) (Cq cs' m (.go (f'::fs') s c))
theorem SimR.one {cs cs':List CodeD}{RF:Fr->Fr->Prop}{B:Nat}(h:SimR cs cs' RF B)(x x':Cf)(hx:RelC RF x x'):∃m,m<=B/\RelC RF (step cs x) (Cq cs' m x'):=by
 cases hx with
 |dn e v s c=>exact⟨0,ZA,.dn ..⟩
 |go s c h1 h2=>
  rename_i f f' fs fs'
  obtain⟨k,b,t,R⟩:=f
  cases t with
  |nil=>exact h.jump _ _ _ _ _ _ _ _ h1 h2
  |cons x t=>
   obtain⟨k',b',x',t',rfl,hx,hr⟩:=h.ins _ _ _ _ _ _ h1;refine⟨1,h.b,?_⟩;show RelC RF (stI cs k b x t R fs s c) (stI cs' k' b' x' t' R fs' s c);have ha:∀i,ar R x' i=ar R x i:=λi=>by rw[ar,ar,hx.args]
   rw[stI,stI];simp only[ha,hx.op,hx.to,hx.args];split
   ·rename_i o8
    rw[hx.n o8];exact .go s c (hr _ ZC) h2
   ·split
    ·split
     ·exact .dn ..
     ·exact .go s c (hr _ ZC) h2
    ·split
     ·split
      ·exact .dn ..
      ·exact .go _ _ (hr _ rfl) h2
     ·split
      ·exact .go _ _ (hr _ rfl) h2
      ·split
       ·rename_i lp
        exact .go s c (hx.call lp _ ZC) (.cons ⟨h1,ZC⟩ h2)
       ·split
        ·exact .go s c (hr _ ZC) h2
        ·split
         ·exact .dn ..
         ·exact .go s c (hr _ ZC) h2
theorem SimR.same {cs cs':List CodeD}{RF:Fr->Fr->Prop}{B S:Nat}{l:List Int}(h:SimR cs cs' RF B)(hB:S * B<=60000)(h0:RF (fr0 cs (cs.length-1) l) (fr0 cs' (cs'.length-1) l)):Fe cs cs' l S:=
 TA (R:=RelC RF) h.one (λe v s c x' hx=>by cases hx;rfl) hB (.go _ _ h0 .nil)
structure RunOk (cs:List CodeD):Prop where
 n:0<cs.length
 ok:∀k (h:k<cs.length),(BY cs k).ok
 jn:∀k b,k<cs.length->b<(BY cs k).blocks.length->((Qt (BY cs k) b).next.length:Int)=Bd (Qt (BY cs k) b).jump
 call:∀k b,k<cs.length->∀x∈(Qt (BY cs k) b).ins,x.op=14->x.n.toNat<k
 op:∀k b,k<cs.length->∀x∈(Qt (BY cs k) b).ins,1<=x.op/\x.op<=14/\(¬x.op=14->(x.args.length:Int)=BQ x.op)
attribute [local instance] Classical.propDecidable in
theorem F2 {cs:List CodeD}(h:AN cs=true):RunOk cs:=by
 obtain⟨h1,h2,h3⟩:=of_decide_eq_true h;refine⟨ZA,λk hk=>by rw[EC hk];exact CE h hk,λk b hk hb=>?_,λk b hk x hx lp=>?_,λk b hk x hx=>?_⟩
 ·rw[EC hk]at hb⊢;have g:=(h2 k hk).2 b hb;simp only[Bh,B0,Js,decide_eq_true_eq]at g;rw[AP hb];exact g.1.1.1.1
 ·rw[EC hk]at hx;by_cases hb:b<cs[k].blocks.length
  ·rw[AP hb]at hx;have g:=(h2 k hk).2 b hb;simp only[Bh,Js,Jaa]at g;have:=g.1.2 x hx;simp only[Be,insL,lp,if_true,Js,decide_eq_true_eq]at this;omega
  ·simp[Qt,Ja,Jr (Nat.le_of_not_lt hb)]at hx
 ·rw[EC hk]at hx;by_cases hb:b<cs[k].blocks.length
  ·rw[AP hb]at hx;have g:=(h2 k hk).2 b hb;simp only[Bh,Js,Jaa]at g;have:=g.1.2 x hx;simp only[Be,insH,insL,Js,decide_eq_true_eq]at this;refine⟨this.1.1.1.1,this.1.1.1.2,λlp=>?_⟩;have:=this.2;simp only[lp,if_false,Js,decide_eq_true_eq]at this;exact this.1.1
  ·simp[Qt,Ja,Jr (Nat.le_of_not_lt hb)]at hx
end Go.AE.Y
namespace Go.AE.Y
attribute [local instance] Classical.propDecidable
variable {cs:List CodeD}{q:CodeD}{y:BlkD}
def skT (q:CodeD)(b:Nat):Int:=(Qt q b).next.getD 0 0
theorem Q2r {p r:Nat->Bool}:∀{l:List Nat} {b:Nat},(∀c∈l,p c=true->r c=true)->b∈l->r b=true->p b=false->(l.filter p).length<(l.filter r).length
 |x::l,b,h,hb,h1,h2=>by
  have aR:(l.filter p).length<=(l.filter r).length:=by
   rw[<-List.countP_eq_length_filter,<-List.countP_eq_length_filter];exact List.countP_mono_left λc hc=>h c (Jv _ hc)
  rcases Jbc.1 hb with rfl|hb
  ·simp[h1,h2];omega
  ·have ih:=Q2r (p:=p) (r:=r) (l:=l) (b:=b) (λc hc=>h c (Jv _ hc)) hb h1 h2;have hx:=h x J7
   cases hp:p x with
   |true=>simp[hp,hx hp];exact ih
   |false=>
    cases hr:r x with
    |true=>simp[hp,hr];omega
    |false=>simp[hp,hr];exact ih
end Go.AE.Y
namespace Go.AE.Y
attribute [local instance] Classical.propDecidable
open Go.Proofs.Tryz
variable {H H0 H':Heap}{K:Uk}{E L A:Ul}{q:CodeD}{fl:Bool}
structure NX where
 y:BlkD
 c:C
 nl:Ul
def NX.row (k:NX):List C:=[.sl false 2 (Q3 k.y.ab),.sl false 4 (AD k.y.ins),.int .i64 k.y.jump,.int .i64 k.y.on,k.c]
def NX.ok (k:NX):Prop:=Gr k.nl 1 (Qc k.y.next) k.c
theorem NX.ak {k:NX}(h:k.ok):Go.AE.ak k.row=true:=by
 have h1:k.c.ah=false:=Gr.ah h;simp only[Go.AE.ak,NX.row,Jay,Ja3,h1];rfl
theorem NX.frzR {S:Nat->Bool}{ks:List NX}(ho:∀k∈ks,k.ok)(h:Held H S (ks.flatMap NX.nl)):FrzR H S (ks.map NX.row) (Qm (ks.map NX.y)):=by
 rw[Qm,J6];exact Dm ks λk hk=>.cons (.same _ rfl) (.cons (.same _ rfl) (.cons (Qg rfl) (.cons (Qg rfl) (.cons (Gr.frzM (ho k hk) (h.m hk) (FrzR.same (Qw _))) .nil))))
end Go.AE.Y
namespace Go.AE.Y
attribute [local instance] Classical.propDecidable
variable {cs:List CodeD}{q:CodeD}{y:BlkD}
structure JnP (q:CodeD)(b n:Nat):Prop where
 bl:b<q.blocks.length
 nl:n<q.blocks.length
 ne:n≠b
 n0:0<n
 j:(Qt q b).jump=1
 nx:(Qt q b).next=[(n:Int)]
 ph:(Qt q n).ab=[]
 pr:∀i,i<q.blocks.length->(n:Int)∈gnx q i->i=b
def jnX (q:CodeD)(b n c:Nat):BlkD:=
 if c=n then ⟨[],[],1,0,[(n:Int)]⟩
 else if c=b then ⟨(Qt q b).ab,(Qt q b).ins++(Qt q n).ins,(Qt q n).jump,(Qt q n).on,(Qt q n).next⟩
 else Qt q c
def jnG (q:CodeD)(b n c:Nat):List Int:=(jnX q b n c).next
def jnA (q:CodeD)(b n to:Nat)(p:PhiD):PhiD:=
 ⟨p.to,(Qp (jnG q b n) (to:Int) q.blocks.length).map λf=>p.args.getD ((Qp (gnx q) (to:Int) q.blocks.length).idxOf (if f=(b:Int)then (n:Int)else f)) 0⟩
def jnB (q:CodeD)(b n c:Nat):BlkD:=
 if (c:Int)∈(Qt q n).next then ⟨(jnX q b n c).ab.map (jnA q b n c),(jnX q b n c).ins,(jnX q b n c).jump,(jnX q b n c).on,(jnX q b n c).next⟩else jnX q b n c
def jnQ (q:CodeD)(b n:Nat):CodeD:=⟨q.params,q.ae,(List.range q.blocks.length).map (jnB q b n)⟩
theorem DL {b n:Nat}:(jnQ q b n).blocks.length=q.blocks.length:=by simp[jnQ]
theorem Eo {b n c:Nat}(hc:c<q.blocks.length):Qt (jnQ q b n) c=jnB q b n c:=by
 rw[AP (by rw[DL];exact hc)];simp[jnQ]
theorem F8 (b n c:Nat):(jnB q b n c).next=jnG q b n c:=by rw[jnB];split <;> rfl
theorem VI (b n c:Nat):(jnB q b n c).ins=(jnX q b n c).ins:=by rw[jnB];split <;> rfl
theorem YX (b n c:Nat):(jnB q b n c).jump=(jnX q b n c).jump:=by rw[jnB];split <;> rfl
theorem SX (b n c:Nat):(jnB q b n c).on=(jnX q b n c).on:=by rw[jnB];split <;> rfl
theorem EM {b n c:Nat}(hc:c<q.blocks.length):gnx (jnQ q b n) c=jnG q b n c:=by
 rw[Bq (by rw[DL];exact hc),Eo hc,F8]
theorem Qbj7 {b n:Nat}(v:Int):Qp (gnx (jnQ q b n)) v (jnQ q b n).blocks.length=Qp (jnG q b n) v q.blocks.length:=by
 rw[Qp,Qp,DL];congr 1;refine List.filter_congr λi hi=>?_;rw[EM (Jz.1 hi)]
theorem C1 {b n:Nat}:jnX q b n n=⟨[],[],1,0,[(n:Int)]⟩:=by rw[jnX,if_pos rfl]
theorem CM {b n:Nat}(h:n≠b):jnX q b n b=⟨(Qt q b).ab,(Qt q b).ins++(Qt q n).ins,(Qt q n).jump,(Qt q n).on,(Qt q n).next⟩:=by rw[jnX,if_neg (λe=>h e.symm),if_pos rfl]
theorem BH {b n c:Nat}(h:c≠n)(h2:c≠b):jnX q b n c=Qt q c:=by rw[jnX,if_neg h,if_neg h2]
theorem mem_preds {g:Nat->List Int}{v:Int}{m i:Nat}:(i:Int)∈Qp g v m↔i<m/\v∈g i:=by
 rw[Qp,Jm];constructor
 ·rintro⟨j,hj,e⟩;obtain rfl:j=i:=by
   have:(j:Int)=(i:Int):=e;omega
  obtain⟨h1,h2⟩:=Jab.1 hj;exact⟨Jz.1 h1,J0.1 h2⟩
 ·rintro⟨h1,h2⟩;exact⟨i,Jab.2 ⟨Jz.2 h1,J0.2 h2⟩,rfl⟩
theorem Gf {b n m:Nat}(hp:JnP q b n)(hm:¬(m:Int)∈(Qt q n).next)(jE:m≠n):Qp (jnG q b n) (m:Int) q.blocks.length=Qp (gnx q) (m:Int) q.blocks.length:=by
 rw[Qp,Qp];congr 1;refine List.filter_congr λi hi=>?_;have hi:=Jz.1 hi;rw[Bool.eq_iff_iff,J0,J0,Bq hi,jnG];by_cases h1:i=n
 ·subst h1;rw[C1];simp only[Jd];exact⟨λe=>absurd ZA jE,λe=>absurd e hm⟩
 ·by_cases h2:i=b
  ·subst h2;rw[CM hp.ne,hp.nx];simp only[Jd];exact⟨λe=>absurd e hm,λe=>absurd ZA jE⟩
  ·rw[BH h1 h2]
structure JnC (F:CodeD->Option (Nat×Nat)):Prop where
 ok:∀q b n,F q=some (b,n)->JnP q b n
def jnS (F:CodeD->Option (Nat×Nat))(q:CodeD):CodeD:=match F q with
 |some (b,n)=>jnQ q b n
 |none=>q
variable {F:CodeD->Option (Nat×Nat)}
theorem Ge:(jnS F q).ae=q.ae:=by rw[jnS];split <;> rfl
theorem Eb:(jnS F q).blocks.length=q.blocks.length:=by rw[jnS];split <;> simp[DL]
end Go.AE.Y
namespace Go.AE.Y
attribute [local instance] Classical.propDecidable
variable {cs:List CodeD}{q:CodeD}{y:BlkD}{F:CodeD->Option (Nat×Nat)}
theorem FR:(jnS F q).params=q.params:=by rw[jnS];split <;> rfl
theorem E9 {b n c:Nat}(hp:JnP q b n)(hc:c≠n):(jnX q b n c).ab=(Qt q c).ab:=by
 by_cases h:c=b
 ·subst h;rw[CM hp.ne]
 ·rw[BH hc h]
theorem Gg {b n c m:Nat}(hp:JnP q b n)(hm:(m:Int)∈(Qt q n).next)(hc:c<q.blocks.length)(rN:(m:Int)∈jnG q b n c):(m:Int)∈gnx q (if c=b then n else c)/\(if c=b then n else c)<q.blocks.length:=by
 by_cases h:c=b
 ·rw[if_pos h];exact⟨by rw[Bq hp.nl];exact hm,hp.nl⟩
 ·rw[if_neg h];refine⟨?_,hc⟩;by_cases hn:c=n
  ·subst hn;rw[jnG,C1]at rN;have e:m=c:=by have:=Jd.1 rN;omega
   subst e;rw[Bq hc];exact hm
  ·rw[jnG,BH hn h]at rN;rw[Bq hc];exact rN
theorem VJ {b n m:Nat}(hp:JnP q b n)(hm:(m:Int)∈(Qt q n).next){p:PhiD}(hl:p.args.length=(Qp (gnx q) (m:Int) q.blocks.length).length):∀v∈(jnA q b n m p).args,v∈p.args:=λv hv=>by
 obtain⟨f,hf,rfl⟩:=Jm.1 hv;obtain⟨c,hc,rfl⟩:∃c:Nat,c<q.blocks.length/\f=(c:Int):=by
  rw[Qp]at hf;obtain⟨c,hc,rfl⟩:=Jm.1 hf;exact⟨c,Jz.1 (Jab.1 hc).1,rfl⟩
 obtain⟨_,rN⟩:=mem_preds.1 hf;obtain⟨g1,g2⟩:=Gg hp hm hc rN;have cq:=mem_preds.2 ⟨g2,g1⟩;have af:=Jt cq;have e:(if (c:Int)=(b:Int)then (n:Int)else (c:Int))=((if c=b then n else c:Nat):Int):=by
  by_cases h:c=b
  ·rw[if_pos h,if_pos ZA]
  ·rw[if_neg h,if_neg ZA]
 rw[e,Ja,Jj (by rw[hl];exact af)];exact Jb _
theorem HC {f g:Nat->Nat}{b n:Nat}(cr:n≠b)(h:∀i,i≠b->i≠n->g i=f i)(hb:g b=f b+f n)(hn:g n=0):∀m,((List.range m).map g).sum+(if n<m then f n else 0)=((List.range m).map f).sum+(if b<m then f n else 0)
 |0=>ZC
 |m+1=>by
  have ih:=HC cr h hb hn m;simp only[List.range_succ,Jw,J1,Jan,List.sum_append,Jbe,List.sum_nil,Jbo];by_cases h1:m=b
  ·subst h1;rw[hb];by_cases h2:n<m
   ·rw[if_pos (by omega:n<m+1),if_pos (by omega:m<m+1)];rw[if_pos h2,if_neg ZA]at ih;omega
   ·rw[if_neg (by omega:¬n<m+1),if_pos (by omega:m<m+1)];rw[if_neg h2,if_neg ZA]at ih;omega
  ·by_cases h2:m=n
   ·subst h2;rw[hn];by_cases h3:b<m
    ·rw[if_pos (by omega:m<m+1),if_pos (by omega:b<m+1)];rw[if_neg ZA,if_pos h3]at ih;omega
    ·rw[if_pos (by omega:m<m+1),if_neg (by omega:¬b<m+1)];rw[if_neg ZA,if_neg h3]at ih;omega
   ·rw[h m h1 h2];have e1:(n<m+1)↔n<m:=ZA;have e2:(b<m+1)↔b<m:=ZA;simp only[e1,e2];omega
theorem Qavj (q:CodeD):q.blocks=(List.range q.blocks.length).map (Qt q):=by
 refine Jac ZC λi h1 h2=>?_;rw[Jo,Ja4,AP h1]
theorem HI {b n:Nat}(hp:JnP q b n):AI (jnQ q b n)=AI q:=by
 have e1:AI q=((List.range q.blocks.length).map λc=>AT (Qt q c)).sum:=by
  rw[AI,AL]
  conv=>lhs;rw[Qavj q]
  rw[J6];rfl
 have e2:AI (jnQ q b n)=((List.range q.blocks.length).map λc=>AT (jnB q b n c)).sum:=by
  rw[AI,AL,jnQ,J6];rfl
 have hc:∀c,AT (jnB q b n c)=AT (jnX q b n c):=λc=>by
  rw[jnB];split
  ·simp[AT]
  ·rfl
 have:=HC (f:=λc=>AT (Qt q c)) (g:=λc=>AT (jnB q b n c)) hp.ne (λi h1 h2=>by rw[hc,BH h2 h1])
  (by simp only[hc];rw[CM hp.ne];simp only[AT,hp.ph,J4,Jh];omega) (by simp only[hc];rw[C1];rfl) q.blocks.length
 rw[if_pos hp.nl,if_pos hp.bl]at this;rw[e1,e2];omega
theorem Vg (hF:JnC F)(hg:AN cs=true):AN (cs.map (jnS F))=true:=by
 have hr:=F2 hg;obtain⟨h1,h2,h3⟩:=of_decide_eq_true hg;have er:∀m,rgOf (cs.map (jnS F)) m=rgOf cs m:=λm=>by
  rw[rgOf,rgOf,J8];cases cs[m]? <;> simp[Ge]
 have ep:∀m,pmOf (cs.map (jnS F)) m=pmOf cs m:=λm=>by
  rw[pmOf,pmOf,J8];cases cs[m]? <;> simp[FR]
 have ei:∀k x,Be (cs.map (jnS F)) k x=Be cs k x:=λk x=>by simp only[Be,insL,er,ep]
 refine decide_eq_true ⟨by rw[Je];exact h1,λk hk=>?_,?_⟩
 ·have fg:k<cs.length:=by rw[Je]at hk;exact hk
  obtain⟨g1,g2⟩:=h2 k fg;have e:(cs.map (jnS F))[k]=jnS F cs[k]:=by rw[Jo]
  have aw:=CE hg fg;generalize cs[k]=q at *;refine⟨?_,λb hb=>?_⟩
  ·rw[e];simp only[BD,Js,decide_eq_true_eq]at g1⊢;rw[Eb,Ge,FR];exact g1
  ·have aT:b<q.blocks.length:=by rw[e,Eb]at hb;exact hb
   have eb:(cs.map (jnS F))[k].blocks[b]=Qt (jnS F q) b:=by rw[AP (by rw[Eb];exact aT)];simp only[e]
   rw[eb,e];have G:∀c,c<q.blocks.length->Bh cs k c q (Qt q c)=true:=λc hc=>by rw[AP hc];exact g2 c hc
   have hG:(λi=>(q.blocks.map BlkD.next).getD i [])=gnx q:=rfl
   cases hf:F q with
   |none=>
    have eS:jnS F q=q:=(by rw[jnS,hf]);rw[eS];have g:=G b aT;have ef:Be (cs.map (jnS F)) k=Be cs k:=funext λx=>ei k x;simp only[Bh,ef]at g⊢;exact g
   |some p=>
    obtain⟨b0,n0⟩:=p;have hp:=hF.ok _ _ _ hf;have eS:jnS F q=jnQ q b0 n0:=(by rw[jnS,hf]);have hG':(λi=>((jnQ q b0 n0).blocks.map BlkD.next).getD i [])=gnx (jnQ q b0 n0):=rfl;rw[eS,Eo aT];simp only[Bh,Js,Jaa,Ql,hG]at G;simp only[Bh,Js,Jaa,Ql,hG',F8,VI,DL];have hjx:B0 q.ae (jnX q b0 n0 b)=true/\(∀v∈(jnX q b0 n0 b).next,Cj q.blocks.length v=true)/\(∀x∈(jnX q b0 n0 b).ins,Be cs k x=true):=by
     by_cases hn:b=n0
     ·subst hn;rw[C1];refine⟨by simp[B0,Bd],λv hv=>?_,λx hx=>absurd hx ZC⟩;have hv:=Jd.1 hv;have:=hp.n0;rw[hv];exact decide_eq_true ⟨ZA,ZA⟩
     ·by_cases fE:b=b0
      ·subst fE;rw[CM hp.ne];have gn:=G n0 hp.nl;have gb:=G b aT;refine⟨gn.1.1.1,gn.1.1.2,λx hx=>?_⟩;rcases Jx.1 hx with hx|hx
       ·exact gb.1.2 x hx
       ·exact gn.1.2 x hx
      ·rw[BH hn fE];have gb:=G b aT;exact⟨gb.1.1.1,gb.1.1.2,gb.1.2⟩
    obtain⟨j1,j2,j3⟩:=hjx;refine⟨⟨⟨?_,j2⟩,λx hx=>by rw[ei];exact j3 x hx⟩,λx hx=>?_⟩
    ·simp only[B0,F8,YX,SX]at j1⊢;exact j1
    ·have mY:Qp (gnx (jnQ q b0 n0)) (b:Int) q.blocks.length=Qp (jnG q b0 n0) (b:Int) q.blocks.length:=by
      have:=Qbj7 (q:=q) (b:=b0) (n:=n0) (b:Int);rw[DL]at this;exact this
     have cr:b≠n0:=λh=>by
      subst h;rw[jnB]at hx;split at hx
      ·rw[C1]at hx;simp at hx
      ·rw[C1]at hx;simp at hx
     have gp:=(G b aT).2;rw[mY];rw[jnB]at hx;split at hx
     ·rename_i cq
      rw[E9 hp cr]at hx;obtain⟨p,ee,rfl⟩:=Jm.1 hx;have g:=gp p ee;simp only[phiG,Js,decide_eq_true_eq,BC,Jaa]at g⊢;obtain⟨⟨⟨ga,gl⟩,gr⟩,gt⟩:=g;refine⟨⟨⟨ga,?_⟩,λv hv=>gr v (VJ hp cq ZA v hv)⟩,gt⟩;simp[jnA]
     ·rename_i cq
      rw[E9 hp cr]at hx;rw[Gf hp cq cr];exact gp x hx
 ·have:AL AI (cs.map (jnS F))=AL AI cs:=by
   simp only[AL,J6];congr 1;refine Jaj λq _=>?_;show AI (jnS F q)=AI q;rw[jnS]
   cases hf:F q with
   |none=>rfl
   |some p=>exact HI (hF.ok _ _ _ hf)
  rw[this];exact h3
noncomputable def jnF (q:CodeD):Option (Nat×Nat):=((List.range q.blocks.length).find? λb=>decide (JnP q b (skT q b).toNat)).map λb=>(b,(skT q b).toNat)
theorem jnF_ok:JnC jnF:=⟨λq b n h=>by
 rw[jnF]at h
 cases hf:(List.range q.blocks.length).find? (λb=>decide (JnP q b (skT q b).toNat))with
 |none=>rw[hf]at h;simp at h
 |some c=>
  rw[hf]at h;obtain⟨rfl,rfl⟩:=Prod.mk.inj (Jah h);have h2:=List.find?_some hf;simpa using h2⟩
noncomputable def jn1 (q:CodeD):CodeD:=jnS jnF q
theorem Pj (hg:AN cs=true):∀n,AN (cs.map (Nat.repeat jn1 n))=true
 |0=>by
  have:(Nat.repeat jn1 0:CodeD->CodeD)=id:=rfl;rw[this,List.map_id];exact hg
 |n+1=>by
  have:=Vg jnF_ok (Pj hg n);rw[J6]at this;exact this
noncomputable def jnW (q:CodeD):Nat:=((List.range q.blocks.length).filter λc=>decide (gnx q c≠[(c:Int)])).length
theorem Gi:(jn1 q).blocks.length=q.blocks.length:=Eb
theorem Pl {b n:Nat}(h:jnF q=some (b,n)):jnW (jn1 q)<jnW q:=by
 have hp:=jnF_ok.ok _ _ _ h;have e:jn1 q=jnQ q b n:=by rw[jn1,jnS,h]
 rw[jnW,jnW,Gi,e];refine Q2r (b:=n) (λc hc hh=>?_) (Jz.2 hp.nl) (decide_eq_true λhh=>?_) (decide_eq_false λhh=>?_)
 ·have hc:=Jz.1 hc;have hh:=of_decide_eq_true hh;rw[EM hc]at hh;refine decide_eq_true λhs=>?_;by_cases hn:c=n
  ·subst hn;exact hh (by rw[jnG,C1])
  ·by_cases hb:c=b
   ·subst hb;rw[Bq hc,hp.nx]at hs;have:=(List.cons.inj hs).1;exact hn ZA
   ·exact hh (by rw[jnG,BH hn hb,<-Bq hc];exact hs)
 ·exact hp.ne (hp.pr n hp.nl (by rw[hh];simp))
 ·exact hh (by rw[EM hp.nl,jnG,C1])
theorem YY (h:jnF q=none):jn1 q=q:=by rw[jn1,jnS,h]
theorem En (i:Nat):∀j,Nat.repeat jn1 (i+j) q=Nat.repeat jn1 j (Nat.repeat jn1 i q)
 |0=>rfl
 |j+1=>by
  show jn1 (Nat.repeat jn1 (i+j) q)=jn1 (Nat.repeat jn1 j (Nat.repeat jn1 i q));rw[En i j]
theorem Em (h:jnF q=none):∀j,Nat.repeat jn1 j q=q
 |0=>rfl
 |j+1=>by
  show jn1 (Nat.repeat jn1 j q)=q;rw[Em h j,YY h]
theorem I2:∀(m:Nat) (q:CodeD),jnW q<=m->jnF (Nat.repeat jn1 m q)=none
 |0,q,hm=>by
  show jnF q=none
  cases h:jnF q with
  |none=>rfl
  |some p=>have:jnW (jn1 q)<jnW q:=Pl (b:=p.1) (n:=p.2) h;omega
 |m+1,q,hm=>by
  cases h:jnF q with
  |none=>rw[Em h];exact h
  |some p=>
   have h1:jnW (jn1 q)<jnW q:=Pl (b:=p.1) (n:=p.2) h;have h2:=I2 m (jn1 q) ZA;rw[Nat.add_comm,En];exact h2
noncomputable def jnE (q:CodeD):CodeD:=Nat.repeat jn1 160 q
theorem SU (q:CodeD):jnW q<=q.blocks.length:=by
 rw[jnW];exact Jbg (Ja7 _ _) ZC
theorem I4 (hb:q.blocks.length<=160):jnF (jnE q)=none:=I2 160 q (Jbg (SU q) hb)
theorem HJ (hb:q.blocks.length<=160){i:Nat}(h:jnF (Nat.repeat jn1 i q)=none):Nat.repeat jn1 i q=jnE q:=by
 by_cases hi:i<=160
 ·obtain⟨j,hj⟩:∃j,160=i+j:=⟨160-i,ZA⟩;rw[jnE,hj,En,Em h]
 ·obtain⟨j,hj⟩:∃j,i=160+j:=⟨i-160,ZA⟩;rw[hj,En];exact Em (I4 hb) j
end Go.AE.Y
namespace Go.AE.Y
variable {g g':Nat->List Nat}{xs:List Nat}{S S' S'':List Bool}{o o' o'':List Nat}
theorem Vx {l:List Nat}{x y:Nat}(hx:x∈l)(hy:y∈l)(h:l.idxOf x=l.idxOf y):x=y:=by
 have h1:=List.getElem_idxOf (Jt hx);have h2:=List.getElem_idxOf (Jt hy);rw[<-h1,<-h2];simp only[h]
theorem Dfs.nodup (h:Dfs g xs S o S' o'):(∀x,x<S.length->∀y∈g x,y<S.length)->(∀x∈xs,x<S.length)->(∀y∈o,S.getD y false=true)->o.Nodup->o'.Nodup:=by
 induction h with
 |nil S o=>exact λ_ _ _ h=>h
 |skip h1 h2 ih=>exact λhg hx ho hn=>ih hg (λy hy=>hx y (Jv _ hy)) ho hn
 |@go x xs S S1 S' o o1 o' h1 h2 h3 ih1 ih2=>
  intro hg hx ho hn;have eu:=hx x J7;have yE:=h2.len;rw[Jp]at yE;have fR:∀z,z<(S.set x true).length->∀y∈g z,y<(S.set x true).length:=by rw[Jp];exact hg
  have cE:∀y∈g x,y<(S.set x true).length:=by rw[Jp];exact hg x eu
  have uG:∀y∈o,(S.set x true).getD y false=true:=λy hy=>by
   rw[EO];split
   ·rfl
   ·exact ho y hy
  have cN:=ih1 fR cE uG hn;obtain⟨t,e,a1,a2,a3,a4⟩:=h2.adds fR cE;have vp:x∉o1:=λhm=>by
   rw[e]at hm;rcases Jx.1 hm with hm|hm
   ·have:=ho x hm;rw[h1]at this;simp at this
   ·obtain⟨z,_,hr⟩:=a4 x hm;refine hr.snd ?_;rw[EO,if_pos ⟨rfl,eu⟩]
  refine ih2 (by rw[yE];exact hg) (λy hy=>by rw[yE];exact hx y (Jv _ hy)) (λy hy=>?_) ?_
  ·rcases Jx.1 hy with hy|hy
   ·rw[e]at hy;rw[a1];rcases Jx.1 hy with hy|hy
    ·exact .inl (uG y hy)
    ·exact .inr hy
   ·rw[Jd]at hy;subst hy;refine h2.mono y ?_;rw[EO,if_pos ⟨rfl,eu⟩]
  ·rw[Jbf];refine⟨cN,ZC,λa ha b hb he=>?_⟩;rw[Jd]at hb;subst hb;subst he;exact vp ha
theorem HQ {f:Nat->Nat}:∀{l r:List Nat},l.Nodup->(∀x∈l,x∈r)->(l.map f).sum<=(r.map f).sum
 |[],_,_,_=>ZC
 |x::l,r,hn,h=>by
  have hx:=h x J7;have hp:=List.perm_cons_erase hx;have e:=((hp.map f).sum_nat);rw[e,J1,Jbe,J1,Jbe];have gM:=List.nodup_cons.1 hn;have:=HQ (f:=f) gM.2 (r:=r.erase x) λy hy=>by
   have u6:y≠x:=λe=>gM.1 (e▸hy);exact (List.mem_erase_of_ne u6).2 (h y (Jv _ hy))
  omega
end Go.AE.Y
namespace Go.AE.Y
attribute [local instance] Classical.propDecidable
variable {q:CodeD}{P P':List Int}{l:List Nat}
def plcs (n:Nat)(l:List Nat):List Int:=(List.range n).map λx=>((l.idxOf x:Nat):Int)
theorem Qbl6 {n x:Nat}(h:x<n):(plcs n l).getD x 0=((l.idxOf x:Nat):Int):=by
 simp[plcs,Ja,h]
theorem EK {n:Nat}(hl:∀x∈l,x<n):C0 n l (plcs n l):=⟨by simp[plcs],λx hx=>
 ⟨l.idxOf x,Jt hx,List.getElem_idxOf _,Qbl6 (hl x hx)⟩⟩
def pkE (q:CodeD)(l:List Nat):CodeD:=pkD q (plcs q.blocks.length l) l
theorem Vm {n:Nat}(hn:l.Nodup)(hP:C0 n l P){x:Nat}(hx:x∈l):P.getD x 0=((l.idxOf x:Nat):Int):=by
 obtain⟨i,hi,h1,h2⟩:=hP.2 x hx;rw[h2,<-h1,List.Nodup.idxOf_getElem hn i hi]
theorem EL (ho:q.ok)(hp:Pk q l)(hn:l.Nodup)(hP:C0 q.blocks.length l P){b:Nat}(hb:b∈l):(pkY q P b).next=(Qt q b).next.map λv=>((l.idxOf v.toNat:Nat):Int):=by
 rw[pkY];refine Jaj λv hv=>?_;exact Vm hn hP (hp.cl b hb v (by rw[Bq (hp.lt b hb)];exact hv))
theorem Vp (ho:q.ok)(hp:Pk q l)(hn:l.Nodup)(hP:C0 q.blocks.length l P)(uZ:C0 q.blocks.length l P'):pkN q P l=pkN q P' l:=by
 funext i
 by_cases hi:i<l.length
 ·rw[EI hi,EI hi,EL ho hp hn hP (Jb hi),EL ho hp hn uZ (Jb hi)]
 ·simp[pkN,Ja,Jr (Nat.le_of_not_lt hi)]
theorem Tm (ho:q.ok)(hp:Pk q l)(hn:l.Nodup)(hP:C0 q.blocks.length l P):pkD q P l=pkE q l:=by
 have uZ:=EK hp.lt;rw[pkE,pkD,pkD];congr 1;refine Jaj λi hi=>?_;have hi:=Jz.1 hi;have hm:=Jb hi;rw[pkX,pkX,(hp.get hi).1,EL ho hp hn hP hm,EL ho hp hn uZ hm];have:nwP q P l i=nwP q (plcs q.blocks.length l) l i:=by
  funext p
  rw[nwP,nwP,nwA,nwA,Vp ho hp hn hP uZ]
 rw[this]
theorem DC (q:CodeD)(l:List Nat):(pkE q l).blocks.length=l.length:=by simp[pkE,pkD]
theorem Dt {i:Nat}(h:i<(pkE q l).blocks.length):(pkE q l).blocks[i]=pkX q (plcs q.blocks.length l) l i:=by simp[pkE,pkD]
theorem Ie (hp:Pk q l):gnx (pkE q l)=pkN q (plcs q.blocks.length l) l:=by
 funext i
 by_cases hi:i<l.length
 ·rw[CD (by rw[DC];exact hi),EI hi,Dt,pkX,(hp.get hi).1]
 ·rw[Vz (by rw[DC];omega)];simp[pkN,Ja,Jr (Nat.le_of_not_lt hi)]
theorem XZ (ho:q.ok)(hp:Pk q l)(hn:l.Nodup){x:Nat}(hx:x∈l):nxN (gnx (pkE q l)) (l.idxOf x)=(nxN (gnx q) x).map l.idxOf:=by
 have hi:=Jt hx;rw[nxN,Ie hp,EI hi,List.getElem_idxOf hi,EL ho hp hn (EK hp.lt) hx,nxN,Bq (hp.lt x hx),J6,J6];exact Jaj λv _=>ZC
theorem SF (hp:Pk q l):∀x∈l,∀y∈nxN (gnx q) x,y∈l:=λx hx y hy=>by
 obtain⟨v,hv,rfl⟩:=Jm.1 hy;exact hp.cl x hx v hv
theorem Vn (hp:Pk q l):0∈l/\l.idxOf 0=0:=by
 have hz:=hp.z
 cases l with
 |nil=>simp at hz
 |cons a l=>simp only[List.getElem?_cons_zero,Jbp]at hz;subst hz;simp
theorem FX (hp:Pk q l)(hn:l.Nodup):AI (pkE q l)<=AI q:=by
 have h1:AI (pkE q l)=(l.map λb=>AT (Qt q b)).sum:=by
  rw[AI,AL];congr 1;refine Jac (by rw[Je,DC,Je]) λi h1 h2=>?_;have hi:i<l.length:=Zaf
  rw[Jo,Jo,Dt,pkX,(hp.get hi).1];simp only[AT,Je]
 have h2:AI q=((List.range q.blocks.length).map λb=>AT (Qt q b)).sum:=by
  rw[AI,AL];congr 1;refine Jac ZC λi h1 h2=>?_;have hi:i<q.blocks.length:=ZW
  rw[Jo,Jo,Ja4,AP hi]
 rw[h1,h2];exact HQ hn λx hx=>Jz.2 (hp.lt x hx)
theorem Vo {cs:List CodeD}{lf:CodeD->List Nat}(hg:AN cs=true)(hl:∀c∈cs,Pk c (lf c)/\(lf c).Nodup):AN (cs.map λc=>pkE c (lf c))=true:=by
 obtain⟨h1,h2,h3⟩:=of_decide_eq_true hg;obtain⟨ds,fD⟩:∃ds,(cs.map λc=>pkE c (lf c))=ds:=⟨_,rfl⟩;have mr:ds.length=cs.length:=by rw[<-fD,Je]
 have bq:∀k (h:k<ds.length) (h':k<cs.length),ds[k]=pkE cs[k] (lf cs[k]):=λk h h'=>by subst fD;rw[Jo]
 rw[fD];have hr:∀k,rgOf ds k=rgOf cs k:=λk=>by
  by_cases hk:k<cs.length
  ·rw[GE hk,GE ZA,bq k ZA hk];rfl
  ·simp[rgOf,Jr (show cs.length<=k by omega),Jr (show ds.length<=k by omega)]
 have ee:∀k,pmOf ds k=pmOf cs k:=λk=>by
  by_cases hk:k<cs.length
  ·rw[GG hk,GG ZA,bq k ZA hk];rfl
  ·simp[pmOf,Jr (show cs.length<=k by omega),Jr (show ds.length<=k by omega)]
 refine decide_eq_true ⟨ZA,λk hk=>?_,?_⟩
 ·have hc:k<cs.length:=ZA
  have ho:=CE hg hc;obtain⟨g1,g2⟩:=h2 k hc;obtain⟨hp,hn⟩:=hl _ (Jb hc);have e:=bq k hk hc;obtain⟨q,hq⟩:∃q,cs[k]=q:=⟨_,rfl⟩;obtain⟨l,kz⟩:∃l,lf q=l:=⟨_,rfl⟩;have qn:cs[k].ae=q.ae:=by rw[hq]
  rw[hq]at ho g1 hp hn e;rw[kz]at hp hn e;have cx:∀(b:Nat) (h:b<q.blocks.length),Bh cs k b q q.blocks[b]=true:=λb h=>by subst hq;exact g2 b h
  have hrgk:rgOf cs k=q.ae:=by rw[GE hc,hq]
  have sV:=hp.n;have i8:0<l.length:=by
   have:=hp.z
   cases l with
   |nil=>simp at this
   |cons=>simp
  refine⟨?_,λj hj=>?_⟩
  ·have:(ds[k]).blocks.length=l.length:=by rw[e,DC]
   have zy:(ds[k]).params=q.params:=by rw[e];rfl
   have wr:(ds[k]).ae=q.ae:=by rw[e];rfl
   simp only[BD,Js,decide_eq_true_eq,this,zy,wr]at g1⊢;refine⟨g1.1,ZA⟩
  ·have f0:∀(d:CodeD) (he:ds[k]=d) (bE:j<d.blocks.length),Bh ds k j ds[k] (ds[k].blocks[j])=Bh ds k j d d.blocks[j]:=λd he bE=>by subst he;rfl
   have bE:j<(pkE q l).blocks.length:=by rw[<-e];exact hj
   rw[f0 _ e bE,Dt];have dq:j<l.length:=by rw[DC]at bE;exact bE
   obtain⟨e1,e2,e3⟩:=hp.get dq;have hG:=cx _ e3;rw[<-AP e3]at hG;simp only[Bh,Js,Jaa]at hG⊢;obtain⟨⟨⟨gj,gn⟩,gi⟩,gp⟩:=hG;have hgx:(λi=>((pkE q l).blocks.map BlkD.next).getD i [])=pkN q (plcs q.blocks.length l) l:=Ie hp;refine⟨⟨⟨?_,λv hv=>?_⟩,λx hx=>?_⟩,λp eV=>?_⟩
   ·have hx:(pkX q (plcs q.blocks.length l) l j).next.length=(Qt q l[j]).next.length:=(by rw[pkX,e1,pkY,Je]);have aH:(pkX q (plcs q.blocks.length l) l j).jump=(Qt q l[j]).jump:=(by rw[pkX,e1]);have aK:(pkX q (plcs q.blocks.length l) l j).on=(Qt q l[j]).on:=(by rw[pkX,e1]);have aY:(pkE q l).ae=q.ae:=rfl;simpa only[B0,hx,aH,aK,aY]using gj
   ·rw[pkX,e1]at hv;obtain⟨w,hw,rfl⟩:=Jm.1 hv;obtain⟨_,_,i,hi,_,h6,h7⟩:=hp.to ho (EK hp.lt) e2 hw;simp only[Cj,decide_eq_true_eq,Ql,DC];rw[h6];omega
   ·rw[pkX,e1]at hx;have:=gi x hx;simp only[Be,insL,hr,ee]at this⊢;exact this
   ·have hA:=HF ho hp (EK hp.lt) dq (by rw[pkX]at eV;exact eV);rw[pkX,e1]at eV;obtain⟨p0,h0,he⟩:=Jm.1 eV;have A4:=gp p0 h0;have zk:p.to=p0.to:=(by rw[<-he];rfl);have aY:(pkE q l).ae=q.ae:=rfl;simp only[phiG,Js,Bool.not_eq_true',decide_eq_true_eq,decide_eq_false_iff_not]at A4⊢;obtain⟨⟨⟨f1,_⟩,_⟩,f4⟩:=A4;refine⟨⟨⟨λh0=>?_,?_⟩,?_⟩,?_⟩
    ·have hz:=hp.z;subst h0;rw[Jj dq]at hz;exact f1 (Jah hz)
    ·rw[hgx,Ql,DC,hA.1]
    ·rw[aY];have:=hA.2;simp only[BC,Jaa,decide_eq_true_eq];intro v hv;have:=this v hv;simp only[rIn]at this;omega
    ·rw[aY,zk];exact f4
 ·have key:∀m,m<=cs.length->AL AI (ds.take m)<=AL AI (cs.take m):=λm=>by
   induction m with
   |zero=>intro _;simp[AL]
   |succ m ih=>
    intro hm;have i1:=ih ZA;have hc:m<cs.length:=ZA;have hd:m<ds.length:=ZA;rw[DE hc,DE hd];obtain⟨hp,hn⟩:=hl _ (Jb hc);have:=FX hp hn;rw[bq m hd hc];omega
  have:=key _ (Jl _);have e1:ds.take cs.length=ds:=by rw[<-mr,J9]
  rw[e1,J9]at this;omega
end Go.AE.Y
namespace Go.AE.Y
open Go.Proofs.Tryz
def Qar8:=dW 0x18f01017007f6807805801f40 [] [] [.e none none (.upd 0 (.t 31) (.t 32) (.t 33))]
def Qar9:=dZ 0x18f0101702a01a9f1f7042220
def Qasa:=dZ 0x19090018f00010190e90c90069f012413101c510142 Qar8 [] Qar9
def Quw:=dZ 0x9001bb00018f01018010441b11 Qasa
def Qur:=dY 4849793
def Qus:=dY 0x9a983e001
def Quu:=dY 0x9bd85e001
def Quv:=dY 0x117004727532f0d1 Quu
def Qakx:=dW 0xb002df0000020120ff0101e341308ff80580e8001d8424280 [] [] [fI 71 (.lup 0 (.c (.int .i64 0)) (.t 69) (.t 70))]
def Qaky:=dZ 0xb002df0000020120ff09c03d9f1fdb044920
def Qakz:=dZ 0x190900b002df0000000201211f01c0fb00e9f012413103f510542 Qakx [] Qaky
def Qpx:=dZ 0x9043eb000b002df00000201210f010443e11 Qakz
def Qpt:=dY 3997985
def Rv:=dY 46449
def Qpu:=dY 0xad09d0139f11b00b594
def Qak0:=dW 0x85004df002df41000201210f007f4905902906240613 [] [] [.e none none (.upd 0 (.t 98) (.t 99) (.t 100))]
def Qak1:=dZ 0x9b5004df002df0141000201213f06906111 Qak0
def Qak2:=dW 0x95004df002df00141000201213f00e0fd0159f41b30b5f9fed05b9f08f3905805c81 [Qak1] [] [fI 94 (.lup2 0 (.c (.int .i64 0)) (.t 92) (.t 93))]
def Qak3:=dW 0x95004df002df0041000201212f108f5811094 [Qak2] [Qpu] [eI 88 (.ent (.t 85))]
def Qacx:=dW 0x90857b15004df002df41000201211f108f5611 [Qak3] [Rv] [eI 86 (.nxt (.t 85))]
def Qpv:=dY 0x101e75e136e2
def Qun:=dZ 0x4df002df10002012e102122f011c290010113b80a80b80a806590 .skip Qpv
def Quo:=dW 0x190950845004df002df41000201210f008f19054212 [Qacx,Qun] [] [eI 85 (.rng (.t 84))]
def Qak4:=dW 0x9004df002df031000201210f108f5311 [Quo] [Qpt] [eI 83 .mkm]
def Qak5:=dZ 0x4df002df10002012e0fe04f9f1ffc046f20
def Qak6:=dZ 0x1909004df002df3100020120ff02d0119f01131351310742 Qak4 [] Qak5
def Qpy:=dZ 0x90650b0004df002df100020120ff010445011 Qak6
def Qpw:=dY 0x101e9822752
def Qak7:=dZ 0x2df0020129102522f015cd8560198227050 .skip Qpw
def Qak8:=dZ 0x19095064004df002df10002012e00f005010113c808804a612 Qpy [] Qak7
def Qak9:=dZ 0x1909504400b002df0000020120ff00f00501d8423a412 Qpx [] Qak8
def Qala:=dZ 0x9002df000002012c1016ad0560153c800128223461 Qak9 Quv
def Qalb:=dZ 0x2df00201290765f02f9f1ffa047620
def Qalc:=dZ 0x1909002df00002012b03b01b00b9f0124131031510342 Qala [] Qalb
def Qacy:=dZ 0x90230b0002df002012a010443011 Qalc
def Qald:=dZ 0x74100483e98367921
def Qup:=dZ 0x94420098227da807720d22 Qald
def Qale:=dZ 0x19095024002df002012900f0051802d312 Qacy [] Qup
def Qalf:=dW 0x900201017108f051802a31 [Qale] [O0] [eI 44 (.mks 1 [.sl true 1 []] (.t 43))]
def Qalg:=dZ 0x9020101615700332f099f011210257003d1f0128120128022561 Qalf Qus
def Qalh:=dZ 0x920101510125d28362321 Qalg Qur
def Qali:=dZ 0x190950040018f0101700f00518018312 Quw [] Qalh
def Qalj:=dW 0x901014108f1711 [Qali] [P2] [eI 23 .mkm]
def Qa6f:=dZ 0x9101305700332f049f190221 Qalj
theorem Qa5i:mFn prog Q2u 2 122 Qa6f Bv=true:=ZE
end Go.AE.Y
namespace Go.AE.Y
attribute [local go_sem] cond_true cond_false Bool.not_true Bool.not_false
open Go.Proofs.Tryz
variable {H H0:Heap}{K:Uk}{E L:Ul}{q:CodeD}{l:List Nat}
structure NowOk (l:List Nat)(i:Nat)(nl:List (Int×Int)):Prop where
 len:nl.length<=i
 f:∀v:Int,lkI v nl=if 0<=v/\v.toNat∈l.take i then some ((l.idxOf v.toNat:Nat):Int)else none
theorem NowOk.step {i:Nat}{nl:List (Int×Int)}(h:NowOk l i nl)(hn:l.Nodup)(hi:i<l.length):NowOk l (i+1) (upI ((l[i]:Nat):Int) (i:Int) nl):=by
 refine⟨by have:=Eh ((l[i]:Nat):Int) (i:Int) nl;have:=h.len;omega,λv=>?_⟩;rw[CL,h.f,Jf hi];by_cases hv:v=((l[i]:Nat):Int)
 ·have zg:v.toNat=l[i]:=ZA
  rw[if_pos hv,if_pos ⟨ZA,Jg _ (by rw[zg];exact Jd.2 rfl)⟩,zg,List.Nodup.idxOf_getElem hn i hi]
 ·rw[if_neg hv];by_cases h0:0<=v/\v.toNat∈l.take i
  ·rw[if_pos h0,if_pos ⟨h0.1,Ju _ h0.2⟩]
  ·rw[if_neg h0,if_neg];rintro⟨h1,h2⟩;rcases Jx.1 h2 with h2|h2
   ·exact h0 ⟨h1,h2⟩
   ·simp only[Jd]at h2;exact hv ZA
theorem NowOk.at {nl:List (Int×Int)}(h:NowOk l l.length nl){v:Int}(hv:0<=v)(hm:v.toNat∈l):lkI v nl=some ((l.idxOf v.toNat:Nat):Int):=by
 rw[h.f,J9,if_pos ⟨hv,hm⟩]
theorem NowOk.no {nl:List (Int×Int)}(h:NowOk l l.length nl){v:Int}(hm:v.toNat∉l):lkI v nl=none:=by
 rw[h.f,J9,if_neg λhh=>hm hh.2]
theorem Yb {Q:X->Env->Heap->Prop}{e:Env}{fl fl2:Bool}{x4 M:Nat}{X4:Obj}(hn:l.Nodup)(hl:l.length<=1000)
  (kn:Kn H0 H E [(x4,X4),(M,.map 0 (mI []))])
  (l1:lk 1 e=.c (.sl fl2 1 (AA l))) (l2:lk 2 e=.c (.pp [Ui q.params,Ui q.ae,.sl fl 5 (Qm q.blocks)])) (l4:lk 4 e=Up x4) (l5:lk 5 e=.c (.mp M))
  (l24:lk 24 e=.c (.sl fl2 1 (AA l))) (l25:lk 25 e=.c (Ui l.length)) (l26:lk 26 e=Uv 0)
  (hQ:∀(e:Env) (H':Heap) (nl:List (Int×Int)) (ver:Nat),NowOk l l.length nl->Kn H0 H' E [(x4,X4),(M,.map ver (mI nl))]->
   lk 1 e=.c (.sl fl2 1 (AA l))->lk 2 e=.c (.pp [Ui q.params,Ui q.ae,.sl fl 5 (Qm q.blocks)])->lk 4 e=Up x4->lk 5 e=.c (.mp M)->Q .nrm e H') :
  A9 prog (.block 0 (.loop Quw)) Q e H:=by
 refine Qe (Qx (λm e1 H1=>∃(i ver:Nat) (nl:List (Int×Int)),m=l.length-i/\i<=l.length/\NowOk l i nl/\Kn H0 H1 E [(x4,X4),(M,.map ver (mI nl))]/\
  lk 1 e1=.c (.sl fl2 1 (AA l))/\lk 2 e1=.c (.pp [Ui q.params,Ui q.ae,.sl fl 5 (Qm q.blocks)])/\lk 4 e1=Up x4/\lk 5 e1=.c (.mp M)/\
  lk 24 e1=.c (.sl fl2 1 (AA l))/\lk 25 e1=.c (Ui l.length)/\lk 26 e1=Uv i) l.length ?_ ?_)
 ·exact⟨0,0,[],ZA,ZA,⟨ZC,λv=>by simp[lkI]⟩,kn,l1,l2,l4,l5,l24,l25,l26⟩
 ·clear kn l1 l2 l4 l5 l24 l25 l26;rintro m e1 H1 ⟨i,ver,nl,hm,hi,hN,kn,l1,l2,l4,l5,l24,l25,l26⟩;refine Qa ?_;simp only[go_sem,l1,l2,l4,l5,l24,l25,l26];refine Wu ?_ ?_
  ·intro hc;have af:i<l.length:=ZD
   have b6:l.getD i 0=l[i]:=Zaj
   have hM:=kn.l 1 rfl;have bC:=hN.len;refine Zd ?_
   refine Wb ?_;simp only[go_sem,af,Q4,BJ _ _ af,b6];refine Qq ?_;simp only[go_sem,hM,DM,Du,Dw];refine⟨by simp only[LIM];omega,λH2 h2=>?_⟩;have kn:=kn.aA 1 rfl h2;refine Zh ?_;refine⟨Qr,?_⟩;show ∃m,_;exact⟨l.length-(i+1),ZA,i+1,ver+1,_,rfl,ZA,hN.step hn af,kn,rfl,rfl,rfl,rfl,rfl,rfl,rfl⟩
  ·intro hc;have bp:i=l.length:=by have:l.length<=i:=ZD;omega
   subst bp;refine Zb ?_;exact hQ _ _ nl ver hN kn rfl rfl rfl rfl
def plI (l:List Nat)(v:Int):Int:=((l.idxOf v.toNat:Nat):Int)
theorem Qbl3 {Q:X->Env->Heap->Prop}{e:Env}{x13 M ver i b L9:Nat}{nl:List (Int×Int)}{ns:List Int}{pc ic nc a2 a4 a8 a9 a10 a45:C}{jj oo:Int}{Ln R:Ul}
  (hN:NowOk l l.length nl) (dv:∀v∈ns,0<=v/\v.toNat∈l) (bC:ns.length<=1000) (fK:pc.ah=false) (jG:ic.ah=false) (dh:a10.ah=false) (h8:a8.ah=false) (h45:a45.ah=false) (h2:a2.ah=false)
  (hg:Gr Ln 1 (Qc ns) nc)
  (kn:Kn H0 H E (([(M,.map ver (mI nl)),(x13,.st [pc,ic,Ui jj,Ui oo,nc])]++R)++Ln))
  (l2:lk 2 e=.c a2) (l4:lk 4 e=.c a4) (l5:lk 5 e=.c (.mp M)) (l8:lk 8 e=.c a8) (l9:lk 9 e=.c a9) (l10:lk 10 e=.c a10) (l11:lk 11 e=Uv i) (l12:lk 12 e=Uv b) (l13:lk 13 e=Up x13)
  (l45:lk 45 e=.c a45) (l46:lk 46 e=Uv L9) (l47:lk 47 e=Uv i) (l59:lk 59 e=.c nc) (l60:lk 60 e=.c (Ui ns.length)) (l61:lk 61 e=Uv 0)
  (hQ:∀(e:Env) (H':Heap) (Ln:Ul),Gr Ln 1 (Qc (ns.map (plI l))) nc->Kn H0 H' E (([(M,.map ver (mI nl)),(x13,.st [pc,ic,Ui jj,Ui oo,nc])]++R)++Ln)->
   lk 2 e=.c a2->lk 4 e=.c a4->lk 5 e=.c (.mp M)->lk 8 e=.c a8->lk 9 e=.c a9->lk 10 e=.c a10->lk 11 e=Uv i->lk 12 e=Uv b->lk 13 e=Up x13->
   lk 45 e=.c a45->lk 46 e=Uv L9->lk 47 e=Uv i->Q .nrm e H') :
  A9 prog (.block 4 (.loop Qpx)) Q e H:=by
 have hncw:=hg.ah;refine Qe (Qx (λm e1 H1=>∃(k:Nat) (Ln:Ul),m=ns.length-k/\k<=ns.length/\Gr Ln 1 (Qc (mix (plI l) ns k)) nc/\Kn H0 H1 E (([(M,.map ver (mI nl)),(x13,.st [pc,ic,Ui jj,Ui oo,nc])]++R)++Ln)/\
  lk 2 e1=.c a2/\lk 4 e1=.c a4/\lk 5 e1=.c (.mp M)/\lk 8 e1=.c a8/\lk 9 e1=.c a9/\lk 10 e1=.c a10/\lk 11 e1=Uv i/\lk 12 e1=Uv b/\lk 13 e1=Up x13/\
  lk 45 e1=.c a45/\lk 46 e1=Uv L9/\lk 47 e1=Uv i/\lk 59 e1=.c nc/\lk 60 e1=.c (Ui ns.length)/\lk 61 e1=Uv k) ns.length ?_ ?_)
 ·exact⟨0,Ln,ZA,ZA,by rw[GQ];exact hg,kn,l2,l4,l5,l8,l9,l10,l11,l12,l13,l45,l46,l47,l59,l60,l61⟩
 ·clear kn l2 l4 l5 l8 l9 l10 l11 l12 l13 l45 l46 l47 l59 l60 l61 hg;rintro m e1 H1 ⟨k,Ln,hm,hk,hg,kn,l2,l4,l5,l8,l9,l10,l11,l12,l13,l45,l46,l47,l59,l60,l61⟩;refine Qa ?_;simp only[go_sem,l2,l4,l5,l8,l9,l10,l11,l12,l13,l45,l46,l47,l59,l60,l61];refine Wu ?_ ?_
  ·intro hc;have af:k<ns.length:=ZD
   obtain⟨y,rL,hLn⟩:∃y,nc=.ai y 1 0 ns.length/\Ln=[(y,.vec 1 (Qc (mix (plI l) ns k)))]:=by
    rcases hg with ⟨_,h,_⟩|⟨y,h1,h2⟩
    ·have:=congrArg List.length h;rw[Qb,Ct]at this;simp only[Jh]at this;omega
    ·exact⟨y,by rw[h1,Qb,Ct],h2⟩
   subst rL hLn;have cD:k<(mix (plI l) ns k).length:=by rw[Ct];exact af
   obtain⟨w,hw⟩:∃w,ns[k]=w:=⟨_,rfl⟩;have b6:(mix (plI l) ns k).getD k 0=w:=by rw[Ja,Jj cD,CV af cD,hw];rfl
   obtain⟨rD,mU⟩:=dv w (by rw[<-hw];exact Jb af);have fV:=hN.at rD mU;have bK:=Dz (f:=plI l) af;rw[hw]at bK;have hM:H1 M=.map ver (mI nl):=(kn.get (M,.map ver (mI nl)) ZC).1;have gZ:H1 x13=.st [pc,ic,Ui jj,Ui oo,.ai y 1 0 ns.length]:=(kn.get (x13,.st [pc,ic,Ui jj,Ui oo,.ai y 1 0 ns.length]) ZC).1;have hy:H1 y=.vec 1 (Qc (mix (plI l) ns k)):=(kn.get (y,.vec 1 (Qc (mix (plI l) ns k))) ZC).1;have bP:(Qc (mix (plI l) ns k)).take ns.length=Qc (mix (plI l) ns k):=Jc (by rw[Qb,Ct];omega);have iP:BL H1 (.mp M)=True:=Zba
   have iV:Bb H1 (.mp M)=mI nl:=Zbb
   refine Zd ?_
   refine Wb ?_;simp only[go_sem,hy,bP,af,Qb,Ct,Qo _ _ cD,b6,Jn,Jl];refine Qq ?_;simp only[go_sem,gZ,hy,af,Qb,Ct,iP,iV,DM,Ol,fV,Qo _ _ cD,DI,Jn,Jl];intro H2 h2;have e:(mix (plI l) ns k).set k ((l.idxOf w.toNat:Nat):Int)=mix (plI l) ns (k+1):=bK;rw[e]at h2;have kn:Kn H0 H2 E (([(M,.map ver (mI nl)),(x13,.st [pc,ic,Ui jj,Ui oo,.ai y 1 0 ns.length])]++R)++[(y,.vec 1 (Qc (mix (plI l) ns (k+1))))]):=by
    have:=kn.aA ([(M,Obj.map ver (mI nl)),(x13,.st [pc,ic,Ui jj,Ui oo,.ai y 1 0 ns.length])]++R).length (x:=y) (o:=.vec 1 (Qc (mix (plI l) ns k))) ZC h2;simpa using this
   refine Zh ?_;refine⟨Qr,?_⟩;show ∃m,_;exact⟨ns.length-(k+1),ZA,k+1,_,rfl,ZA,.mk _ _ _ (by rw[Qb,Ct]),kn,rfl,rfl,rfl,rfl,rfl,rfl,rfl,rfl,rfl,rfl,rfl,rfl,rfl,rfl,rfl⟩
  ·intro hc;have bp:ns.length<=k:=ZD
   rw[D0 _ _ bp]at hg;refine Zb ?_;exact hQ _ _ Ln hg kn rfl rfl rfl rfl rfl rfl rfl rfl rfl rfl rfl rfl
def DW (q:CodeD)(l:List Nat)(b:Nat)(p:PhiD)(ml:List (Int×Int)):Prop:=
 ∀w a,(w,a)∈zpA q b p->w.toNat∈l->lkI ((l.idxOf w.toNat:Nat):Int) ml=some a
theorem Tp {b:Nat}{p:PhiD}{w a a':Int}(h:(w,a)∈zpA q b p)(h':(w,a')∈zpA q b p):a=a':=by
 obtain⟨i,hi,e⟩:=Jq.1 h;obtain⟨j,hj,e'⟩:=Jq.1 h';simp only[zpA,List.getElem_zip,Jaz]at e e';have hl:(zpA q b p).length=min (Qp (gnx q) (b:Int) q.blocks.length).length p.args.length:=by rw[zpA,List.length_zip]
 have gC:i=j:=(Jbk (GP (gnx q) (b:Int) q.blocks.length)).1 (e.1.trans e'.1.symm);subst gC;exact e.2.symm.trans e'.2
theorem Is {b:Nat}{p:PhiD}{w a:Int}(h:(w,a)∈zpA q b p):w∈Qp (gnx q) (b:Int) q.blocks.length:=(List.of_mem_zip h).1
theorem Mf:∀(l aa:List Int),((l.zip aa).map Prod.fst).Sublist l
 |[],_=>ZC
 |x::l,[]=>ZC
 |x::l,a::aa=>by
  rw[List.zip_cons_cons,J1];exact List.Sublist.cons_cons _ (Mf l aa)
theorem NQ (q:CodeD)(b:Nat)(p:PhiD):(mI (zpA q b p)).Nodup:=by
 exact Y7 (Ja2 (Mf _ _) (GP (gnx q) (b:Int) q.blocks.length))
structure PhM (q:CodeD)(l:List Nat)(b:Nat)(phs:List PhiD)(ms:List PMap):Prop where
 len:ms.length=phs.length
 f:∀k (h1:k<ms.length) (h2:k<phs.length),DW q l b phs[k] (ms[k]).l
theorem PhM.nil (b:Nat):PhM q l b [] []:=⟨rfl,λk h1=>by simp at h1⟩
theorem PhM.snoc {b:Nat}{phs:List PhiD}{ms:List PMap}{p:PhiD}{m:PMap}(h:PhM q l b phs ms)(hm:DW q l b p m.l):PhM q l b (phs++[p]) (ms++[m]):=by
 have hl:=h.len;refine⟨Za0,λk h1 h2=>?_⟩;by_cases hk:k<ms.length
 ·rw[List.getElem_append_left hk,List.getElem_append_left ZA];exact h.f k hk ZA
 ·have jm:k=ms.length:=by simp at h1;omega
  subst jm;have e1:(ms++[m])[ms.length]=m:=ZC
  have e2:(phs++[p])[ms.length]'h2=p:=by rw[List.getElem_append_right ZA];simp[hl]
  rw[e1,e2];exact hm
structure PkM (q:CodeD)(l:List Nat)(i:Nat)(ss:List PSl):Prop where
 n:ss.length=l.length
 m:∀r (h:r<ss.length),r<i->PhM q l (l.getD r 0) (Qt q (l.getD r 0)).ab (ss[r]).ms
 z:∀r (h:r<ss.length),i<=r->(ss[r]).ms=[]
 ok:∀s∈ss,s.ok
theorem Yc {Q:X->Env->Heap->Prop}{e:Env}{M Mb M2 ver vb i b L9 x13 pz:Nat}{nl:List (Int×Int)}{p:PhiD}{a2 a4 a8 a9 a45 a77:C}{n78 k79:Int}{R:Ul}
  (hN:NowOk l l.length nl) (i6:(zpA q b p).length<=100000)
  (kn:Kn H0 H E ([(M,.map ver (mI nl)),(Mb,.map vb (mI (zpA q b p)))]++(R++[(M2,.map 0 (mI []))])))
  (l2:lk 2 e=.c a2) (l4:lk 4 e=.c a4) (l5:lk 5 e=.c (.mp M)) (l8:lk 8 e=.c a8) (l9:lk 9 e=.c a9) (l10:lk 10 e=.c (.ai pz 1 0 L9)) (l11:lk 11 e=Uv i) (l13:lk 13 e=Up x13)
  (l17:lk 17 e=.c (.mp Mb)) (l18:lk 18 e=.c (.mp M2)) (l45:lk 45 e=.c a45) (l46:lk 46 e=Uv L9) (l47:lk 47 e=Uv i) (l77:lk 77 e=.c a77) (l78:lk 78 e=Uv n78) (l79:lk 79 e=Uv k79)
  (hQ:∀(e:Env) (H':Heap) (ml:List (Int×Int)) (v2:Nat),DW q l b p ml->Kn H0 H' E ([(M,.map ver (mI nl)),(Mb,.map vb (mI (zpA q b p)))]++(R++[(M2,.map v2 (mI ml))]))->
   lk 2 e=.c a2->lk 4 e=.c a4->lk 5 e=.c (.mp M)->lk 8 e=.c a8->lk 9 e=.c a9->lk 10 e=.c (.ai pz 1 0 L9)->lk 11 e=Uv i->lk 13 e=Up x13->lk 18 e=.c (.mp M2)->
   lk 45 e=.c a45->lk 46 e=Uv L9->lk 47 e=Uv i->lk 77 e=.c a77->lk 78 e=Uv n78->lk 79 e=Uv k79->A9 prog Qun Q e H') :
  A9 prog Quo Q e H:=by
 have rV:=kn.l 1 rfl;refine Q1 (Qa ?_);simp only[go_sem,l2,l4,l5,l8,l9,l10,l11,l13,l17,l18,l45,l46,l47,l77,l78,l79,rV];refine⟨NQ q b p,λit nV H1 h1=>?_⟩;have kn:=kn.al nV h1;refine Qh (Qe (Qx (λm e1 H1=>∃(left:List (C×V)) (cur:Option (C×V)) (ml:List (Int×Int)) (v2:Nat),m=left.length/\left.Nodup/\(∀y∈left,y∈mI (zpA q b p))/\ml.length+left.length<=(zpA q b p).length/\
  (∀w a,(w,a)∈zpA q b p->(C.int .i64 w,V.c (Ui a))∈left\/(w.toNat∈l->lkI ((l.idxOf w.toNat:Nat):Int) ml=some a))/\
  Kn H0 H1 E (([(M,.map ver (mI nl)),(Mb,.map vb (mI (zpA q b p)))]++(R++[(M2,.map v2 (mI ml))]))++[(it,.iter (some (Mb,vb)) left cur)])/\
  lk 2 e1=.c a2/\lk 4 e1=.c a4/\lk 5 e1=.c (.mp M)/\lk 8 e1=.c a8/\lk 9 e1=.c a9/\lk 10 e1=.c (.ai pz 1 0 L9)/\lk 11 e1=Uv i/\lk 13 e1=Up x13/\lk 18 e1=.c (.mp M2)/\
  lk 45 e1=.c a45/\lk 46 e1=Uv L9/\lk 47 e1=Uv i/\lk 77 e1=.c a77/\lk 78 e1=Uv n78/\lk 79 e1=Uv k79/\lk 85 e1=.c (.itr it)) (mI (zpA q b p)).length ?_ ?_))
 ·refine⟨mI (zpA q b p),none,[],0,rfl,NQ q b p,λy h=>h,by rw[Du];simp,λw a h=>.inl (Jm.2 ⟨(w,a),h,rfl⟩),kn,rfl,rfl,rfl,rfl,rfl,rfl,rfl,rfl,rfl,rfl,rfl,rfl,rfl,rfl,rfl,rfl⟩
 ·clear kn l2 l4 l5 l8 l9 l10 l11 l13 l17 l18 l45 l46 l47 l77 l78 l79 rV nV h1;rintro m e1 H2 ⟨left,cur,ml,v2,rfl,hlnd,j4,am,bI,kn,l2,l4,l5,l8,l9,l10,l11,l13,l18,l45,l46,l47,l77,l78,l79,l85⟩;have rV:=kn.l 1 rfl;have hM:=kn.l 0 rfl;have nV:=(kn.get (it,.iter (some (Mb,vb)) left cur) ZC).1;simp only[]at nV;refine Zp l85 nV rV ?_;refine⟨⟨_,rfl⟩,λky=>?_,λy left' hy de tp zD H3 h3=>?_⟩
  ·subst ky;simp only[go_sem,Rv,Jai];refine Qh (Qf rfl (λh=>ZH) λ_=>?_);refine Zb ?_;exact hQ _ _ ml v2 (λw a h hm=>((bI w a h).resolve_left ZC) hm) kn.drop l2 l4 l5 l8 l9 l10 l11 l13 l18 l45 l46 l47 l77 l78 l79
  ·obtain⟨⟨w,a⟩,hz,rfl⟩:=Jm.1 (j4 y hy);have rD:0<=w:=by obtain⟨j,_,_,e⟩:=preds_mem.1 (Is hz);omega
   have hLl:(([(M,Obj.map ver (mI nl)),(Mb,Obj.map vb (mI (zpA q b p)))]++(R++[(M2,Obj.map v2 (mI ml))]))++[(it,Obj.iter (some (Mb,vb)) left cur)])[([(M,Obj.map ver (mI nl)),(Mb,Obj.map vb (mI (zpA q b p)))]++(R++[(M2,Obj.map v2 (mI ml))])).length]? = some (it,Obj.iter (some (Mb,vb)) left cur):=ZC
   have kn:=kn.aA _ hLl h3;have kn:Kn H0 H3 E (([(M,.map ver (mI nl)),(Mb,.map vb (mI (zpA q b p)))]++(R++[(M2,.map v2 (mI ml))]))++[(it,.iter (some (Mb,vb)) left' (some (C.int .i64 w,V.c (Ui a))))]):=ZL
   have rV:=kn.l 1 rfl;have hM:=kn.l 0 rfl;have nV:=(kn.get (it,.iter (some (Mb,vb)) left' (some (C.int .i64 w,V.c (Ui a)))) ZC).1;have iP:BL H3 (.mp M)=True:=Zba
   have iV:Bb H3 (.mp M)=mI nl:=Zbb
   simp only[go_sem,l2,l4,l5,l8,l9,l10,l11,l13,l18,l45,l46,l47,l77,l78,l79,l85,Rv,Jai];refine Qh (Qf rfl (λ_=>?_) λh=>ZH);refine Zd ?_
   refine Qe (Qa ?_);simp only[go_sem,nV,rV,Qpu,Jai,Ja0];refine⟨⟨_,rfl⟩,?_⟩;by_cases mU:w.toNat∈l
   ·have fV:=hN.at rD mU;refine Qa ?_;simp only[go_sem,iP,iV,DM,Ol,Kp,fV,Option.isSome_some,Jai,Ja0];refine Za ?_;refine Qf rfl (λ_=>?_) (λh=>ZH);have vf:=(kn.get (M2,.map v2 (mI ml)) ZC).1;refine Qq ?_;simp only[go_sem,vf,DM,Du,Dw];refine⟨by simp only[LIM];omega,λH4 h4=>?_⟩;have kn:Kn H0 H3 E ([(M2,.map v2 (mI ml))]++([(M,.map ver (mI nl)),(Mb,.map vb (mI (zpA q b p)))]++(R++[(it,.iter (some (Mb,vb)) left' (some (C.int .i64 w,V.c (Ui a))))]))):=kn.perm (Qj λf hf h0 hc hp=>by simp only[Ui,hf];omega);have kn:=kn.aA 0 rfl h4;have kn:Kn H0 H4 E (([(M,.map ver (mI nl)),(Mb,.map vb (mI (zpA q b p)))]++(R++[(M2,.map (v2+1) (mI (upI ((l.idxOf w.toNat:Nat):Int) a ml)))]))++[(it,.iter (some (Mb,vb)) left' (some (C.int .i64 w,V.c (Ui a))))]):=kn.perm (Qj λf hf h0 hc hp=>by
     show f ([(M2,_)]++([(M,_),(Mb,_)]++(R++[(it,_)])))=_;simp only[Ui,hf];omega)
    show ∃m,_;refine⟨left'.length,ZA,left',_,upI ((l.idxOf w.toNat:Nat):Int) a ml,v2+1,rfl,tp,λy h=>j4 y ((de y).1 h).1,by have:=Eh ((l.idxOf w.toNat:Nat):Int) a ml;omega,λw' a' h'=>?_,kn,rfl,rfl,rfl,rfl,rfl,rfl,rfl,rfl,rfl,rfl,rfl,rfl,rfl,rfl,rfl,rfl⟩;by_cases n3:w'=w
    ·subst n3;have:=Tp hz h';subst this;exact .inr λ_=>by rw[CL,if_pos rfl]
    ·rcases bI w' a' h' with h|h
     ·refine .inl ((de _).2 ⟨h,λe=>n3 ?_⟩);simp only[Jaz,C.int.injEq,true_and]at e;exact e.1
     ·refine .inr λhm=>?_;have hw'0:0<=w':=(by obtain⟨j,_,_,e⟩:=preds_mem.1 (Is h');omega);rw[CL,if_neg (λe=>n3 ?_),h hm];have:=Vx hm mU ZA;omega
   ·have fV:=hN.no mU;refine Qa ?_;simp only[go_sem,iP,iV,DM,Ol,Kp,fV,Option.isSome_none,Jai,Ja0];refine Za ?_;refine Qf rfl (λh=>ZH) λ_=>?_;refine Zd ?_
    show ∃m,_;refine⟨left'.length,ZA,left',_,ml,v2,rfl,tp,λy h=>j4 y ((de y).1 h).1,ZA,λw' a' h'=>?_,kn,rfl,rfl,rfl,rfl,rfl,rfl,rfl,rfl,rfl,rfl,rfl,rfl,rfl,rfl,rfl,rfl⟩;by_cases n3:w'=w
    ·subst n3;exact .inr λhm=>absurd hm mU
    ·rcases bI w' a' h' with h|h
     ·refine .inl ((de _).2 ⟨h,λe=>n3 ?_⟩);simp only[Jaz,C.int.injEq,true_and]at e;exact e.1
     ·exact .inr h
end Go.AE.Y
namespace Go.AE.Y
attribute [local go_sem] cond_true cond_false Bool.not_true Bool.not_false
open Go.Proofs.Tryz
variable {H H0:Heap}{K:Uk}{E L:Ul}{q:CodeD}
theorem Qbl7 {ms:List PMap}{j:Nat}(hj:j<ms.length):(ms.flatMap PMap.lg).Perm ([(ms[j].m,.map ms[j].ver (mI ms[j].l))]++(ms.eraseIdx j).flatMap PMap.lg):=BT hj
end Go.AE.Y
namespace Go.AE.Y
attribute [local go_sem] cond_true cond_false Bool.not_true Bool.not_false
open Go.Proofs.Tryz
variable {H H0:Heap}{K:Uk}{E L:Ul}{q:CodeD}{l:List Nat}
structure PkP (q:CodeD)(l:List Nat)(i b k:Nat)(ss:List PSl):Prop where
 n:ss.length=l.length
 m:∀r (h:r<ss.length),r<i->PhM q l (l.getD r 0) (Qt q (l.getD r 0)).ab (ss[r]).ms
 c:∀(h:i<ss.length),PhM q l b ((Qt q b).ab.take k) (ss[i]).ms
 z:∀r (h:r<ss.length),i<r->(ss[r]).ms=[]
 ok:∀s∈ss,s.ok
theorem PkM.start {i b:Nat}{ss:List PSl}(h:PkM q l i ss):PkP q l i b 0 ss:=
 ⟨h.n,h.m,λhi=>by rw[h.z i hi (Jl _),List.take_zero];exact .nil b,λr hr hir=>h.z r hr ZA,h.ok⟩
theorem PkP.fin {i b:Nat}{ss:List PSl}(h:PkP q l i b (Qt q b).ab.length ss)(hb:l.getD i 0=b):PkM q l (i+1) ss:=
 ⟨h.n,λr hr lM=>by
  by_cases e:r=i
  ·subst e;rw[hb];have:=h.c hr;rw[J9]at this;exact this
  ·exact h.m r hr ZA,λr hr lM=>h.z r hr ZA,h.ok⟩
theorem PkP.step {i b k:Nat}{ss:List PSl}(h:PkP q l i b k ss)(hi:i<ss.length)(hk:k<(Qt q b).ab.length){s':PSl}{m':PMap}(hs:s'.ms=(ss[i]).ms++[m'])(i7:s'.ok)(hm:DW q l b (Qt q b).ab[k] m'.l) :
  PkP q l i b (k+1) (ss.set i s'):=by
 refine⟨by rw[Jp];exact h.n,λr hr lM=>?_,λhr=>?_,λr hr lM=>?_,λw hw=>?_⟩
 ·have bd:r<ss.length:=Zah
  rw[J5,if_neg ZA];exact h.m r bd lM
 ·rw[J5,if_pos rfl,hs,Jf hk];exact (h.c hi).snoc hm
 ·have bd:r<ss.length:=Zah
  rw[J5,if_neg ZA];exact h.z r bd lM
 ·rcases Jy hw with hw|rfl
  ·exact h.ok w hw
  ·exact i7
theorem Qbl4 {Q:X->Env->Heap->Prop}{e:Env}{M ver i b x13 pz:Nat}{nl:List (Int×Int)}{os:List PSl}{ss:List PSl}{a2 a4 a8 a9 a45:C}{R:Ul}
  (ho:q.ok) (hN:NowOk l l.length nl) (hb:b<q.blocks.length) (hi:i<l.length) (oT:l.length<=1000) (bh:l.getD i 0=b)
  (ji:PInv (phT q q.blocks.length) os) (qv:os.length=q.blocks.length) (hS:PkM q l i ss)
  (kn:Kn H0 H E ([(M,.map ver (mI nl)),(pz,.vec 1 (ss.map PSl.row))]++(psL os++(psL ss++R))))
  (l2:lk 2 e=.c a2) (l4:lk 4 e=.c a4) (l5:lk 5 e=.c (.mp M)) (l8:lk 8 e=.c a8) (l9:lk 9 e=.c a9) (l10:lk 10 e=.c (.ai pz 1 0 l.length)) (l11:lk 11 e=Uv i) (l13:lk 13 e=Up x13)
  (l45:lk 45 e=.c a45) (l46:lk 46 e=.c (Ui l.length)) (l47:lk 47 e=Uv i) (l77:lk 77 e=.c (os[b]'ZA).c) (l78:lk 78 e=.c (Ui (Qt q b).ab.length)) (l79:lk 79 e=Uv 0)
  (hQ:∀(e:Env) (H':Heap) (ss:List PSl),PkM q l (i+1) ss->Kn H0 H' E ([(M,.map ver (mI nl)),(pz,.vec 1 (ss.map PSl.row))]++(psL os++(psL ss++R)))->
   lk 2 e=.c a2->lk 4 e=.c a4->lk 5 e=.c (.mp M)->lk 8 e=.c a8->lk 9 e=.c a9->lk 10 e=.c (.ai pz 1 0 l.length)->lk 11 e=Uv i->lk 13 e=Up x13->
   lk 45 e=.c a45->lk 46 e=.c (Ui l.length)->lk 47 e=Uv i->Q .nrm e H') :
  A9 prog (.block 6 (.loop Qpy)) Q e H:=by
 have cj:=ho.il b hb;have bg:=ho.b1;rw[<-AP hb]at cj;have cg:b<os.length:=ZA
 obtain⟨so,i7⟩:∃s,os[b]=s:=⟨_,rfl⟩;rw[i7]at l77;have ki:so.ok:=by rw[<-i7];exact ji.ok _ (Jb cg)
 have km:=ji.f b cg;rw[i7,phT,if_pos hb]at km;have sH:so.ms.length=(Qt q b).ab.length:=by have:=congrArg List.length km;simpa using this
 have hsow:=Gr.ah ki;refine Qe (Qx (λm e1 H1=>∃(k:Nat) (ss:List PSl),m=(Qt q b).ab.length-k/\k<=(Qt q b).ab.length/\PkP q l i b k ss/\
  Kn H0 H1 E ([(M,.map ver (mI nl)),(pz,.vec 1 (ss.map PSl.row))]++(psL os++(psL ss++R)))/\
  lk 2 e1=.c a2/\lk 4 e1=.c a4/\lk 5 e1=.c (.mp M)/\lk 8 e1=.c a8/\lk 9 e1=.c a9/\lk 10 e1=.c (.ai pz 1 0 l.length)/\lk 11 e1=Uv i/\lk 13 e1=Up x13/\
  lk 45 e1=.c a45/\lk 46 e1=.c (Ui l.length)/\lk 47 e1=Uv i/\lk 77 e1=.c so.c/\lk 78 e1=.c (Ui (Qt q b).ab.length)/\lk 79 e1=Uv k) (Qt q b).ab.length ?_ ?_)
 ·exact⟨0,ss,ZA,ZA,hS.start,kn,l2,l4,l5,l8,l9,l10,l11,l13,l45,l46,l47,l77,l78,l79⟩
 ·clear kn l2 l4 l5 l8 l9 l10 l11 l13 l45 l46 l47 l77 l78 l79 hS;clear ss;rintro m e1 H1 ⟨k,ss,hm,hk,hP,kn,l2,l4,l5,l8,l9,l10,l11,l13,l45,l46,l47,l77,l78,l79⟩;refine Qa ?_;simp only[go_sem,l2,l4,l5,l8,l9,l10,l11,l13,l45,l46,l47,l77,l78,l79];refine Wu ?_ ?_
  ·intro hc;have af:k<(Qt q b).ab.length:=ZD
   obtain⟨p,hp⟩:∃p,(Qt q b).ab[k]=p:=⟨_,rfl⟩;have nQ:k<so.ms.length:=ZA
   obtain⟨pm,ee⟩:∃pm,so.ms[k]=pm:=⟨_,rfl⟩;have w7:pm.l=zpA q b p:=by
    have h1:(so.ms.map PMap.l)[k]? = some pm.l:=(by simp[nQ,ee]);rw[km]at h1;simp only[J8,Jj af,hp,Jap]at h1;exact (Jah h1).symm
   obtain⟨zs,gH,jg⟩:∃z,so.c=.ai z 1 0 so.ms.length/\so.g=[(z,.vec 1 (Ba so.ms))]:=by
    rcases ki with ⟨_,h,_⟩|⟨z,h1,h2⟩
    ·have:=congrArg List.length h;rw[C6]at this;simp only[Jh]at this;omega
    ·exact⟨z,by rw[h1,C6],h2⟩
   have cW:=hP.n;have nf:i<ss.length:=ZA
   obtain⟨s,hs⟩:∃s,ss[i]=s:=⟨_,rfl⟩;have aI:s.ok:=by rw[<-hs];exact hP.ok _ (Jb nf)
   have ko:=hP.c nf;rw[hs]at ko;have gK:s.ms.length=k:=by have:=ko.len;rw[J2]at this;omega
   have fU:=Gr.ah aI;have ma:(Ba so.ms).getD k []=[.mp pm.m]:=by rw[Q1a _ _ nQ,ee]
   have qE:(Ba so.ms).take so.ms.length=Ba so.ms:=Jc (by rw[C6];omega);have td:=GY cg i7;have qD:=Qbl7 nQ;rw[ee,w7]at qD;have qg:=GY nf hs;have p9:(zs,Obj.vec 1 (Ba so.ms))∈psL os:=Jad.2 ⟨so,by rw[<-i7];exact Jb cg,Jg _ (by rw[jg];simp)⟩;have vj:=(kn.get (zs,.vec 1 (Ba so.ms)) (by simp[p9])).1;refine Zd ?_
   refine Wb ?_;simp only[go_sem,gH,vj,C6,qE,nQ,ma,Jn,Jl];refine Za ?_;intro M2 vf H2 h2;have kn:=kn.al vf h2;simp only[go_sem,Qpt];obtain⟨RR,Am⟩:∃RR,[(pz,Obj.vec 1 (ss.map PSl.row))]++((psL (os.eraseIdx b)++((so.ms.eraseIdx k).flatMap PMap.lg++so.g))++(psL ss++R))=RR:=⟨_,rfl⟩;have kn:Kn H0 H2 E ([(M,.map ver (mI nl)),(pm.m,.map pm.ver (mI (zpA q b p)))]++(RR++[(M2,.map 0 (mI []))])):=kn.perm (Qj λf hf h0 hc hp=>by
    have e2:∀(a b:Nat×Obj),f [a,b]=f [a]+f [b]:=λa b=>hc a [b];have h1:=hp _ _ td;have h2:=hp _ _ qD;rw[PSl.lg]at h1;rw[<-Am];show f ([(M,_),(pz,_)]++(psL os++(psL ss++R))++[(M2,.map 0 [])])=_;simp only[hf,e2]at h1 h2⊢;have:mI []=[]:=rfl;rw[this];omega)
   have i6:(zpA q b p).length<=100000:=by
    rw[zpA,List.length_zip];have:=CA (gnx q) (b:Int) q.blocks.length;omega
   refine Yc hN i6 kn rfl rfl rfl rfl rfl rfl rfl rfl rfl rfl rfl rfl rfl rfl rfl rfl λe3 H3 ml v2 dy kn l2 l4 l5 l8 l9 l10 l11 l13 l18 l45 l46 l47 l77 l78 l79=>?_;have kn:Kn H0 H3 E (([(pz,.vec 1 (ss.map PSl.row)),(M,.map ver (mI nl))]++([(M2,.map v2 (mI ml))]++(psL os++((psL (ss.eraseIdx i)++s.ms.flatMap PMap.lg)++R))))++s.g):=kn.perm (Qj λf hf h0 hc hp=>by
    have e2:∀(a b:Nat×Obj),f [a,b]=f [a]+f [b]:=λa b=>hc a [b];have h1:=hp _ _ td;have h2:=hp _ _ qD;have h3:=hp _ _ qg;rw[PSl.lg]at h1 h3;rw[<-Am];simp only[Ui,hf,e2]at h1 h2 h3⊢;omega)
   have dB:(ss.map PSl.row).length=l.length:=by rw[Je,cW]
   have lI:(ss.map PSl.row).take l.length=ss.map PSl.row:=Jc ZA;have sL:(ss.map PSl.row).getD i []=[s.c]:=by simp[Ja,nf,hs,PSl.row]
   have rJ:=kn.l 0 rfl;refine Qq ?_;simp only[go_sem,l10,l11,l18,rJ,dB,lI,hi,sL,fU,Jn,Jl];refine kn.br (new:=[[.mp M2]]) aI (.mk' _ _ _ _) (by intro r hr;simp only[Jd]at hr;rw[hr];rfl) (by simp only[C6,LIM,Ji,Jh];omega) λt2 g2 H4 dA di kn=>?_;have rJ:=kn.l 0 rfl;simp only[go_sem,l2,l4,l5,l8,l9,l10,l11,l13,l45,l46,l47,l77,l78,l79,Qpv,rJ,dB,hi,sL,Jn,Jl];intro H5 h5;obtain⟨s',dV⟩:∃s':PSl,s'=⟨s.ms++[⟨M2,v2,ml⟩],t2,g2⟩:=⟨_,rfl⟩;have hs'ok:s'.ok:=by
    rw[dV];show Gr g2 1 (Ba (s.ms++[⟨M2,v2,ml⟩])) t2;have e:Ba (s.ms++[⟨M2,v2,ml⟩])=Ba s.ms++[[.mp M2]]:=(by simp[Ba]);rw[e];exact dA
   have bK:(ss.map PSl.row).set i [t2]=(ss.set i s').map PSl.row:=by rw[Jao,dV];rfl
   rw[bK]at h5;have kn:=kn.aA 0 rfl h5;have lQ:=FW (s:=s') nf;have kn:Kn H0 H5 E ([(M,.map ver (mI nl)),(pz,.vec 1 ((ss.set i s').map PSl.row))]++(psL os++(psL (ss.set i s')++R))):=kn.perm (Qj λf hf h0 hc hp=>by
    have e2:∀(a b:Nat×Obj),f [a,b]=f [a]+f [b]:=λa b=>hc a [b];have:=hp _ _ lQ;have es:s'.lg=(s.ms.flatMap PMap.lg++[(M2,.map v2 (mI ml))])++g2:=(by rw[dV,PSl.lg,Jat];simp[PMap.lg]);rw[es]at this;show f ([(pz,_),(M,_)]++([(M2,_)]++(psL os++((psL (ss.eraseIdx i)++s.ms.flatMap PMap.lg)++R)))++g2)=_;simp only[Ui,hf,e2]at this⊢;omega)
   refine Zh ?_;refine⟨Qr,?_⟩;show ∃m,_;refine⟨(Qt q b).ab.length-(k+1),ZA,k+1,ss.set i s',rfl,ZA,hP.step nf af (m':=⟨M2,v2,ml⟩) (by rw[hs,dV]) hs'ok (by rw[hp];exact dy),kn,rfl,rfl,rfl,rfl,rfl,rfl,rfl,rfl,rfl,rfl,rfl,?_,rfl,rfl⟩
   first|rfl|exact congrArg V.c gH.symm
  ·intro hc;have jm:k=(Qt q b).ab.length:=by have:(Qt q b).ab.length<=k:=ZD;omega
   subst jm;refine Zb ?_;exact hQ _ _ ss (hP.fin bh) kn rfl rfl rfl rfl rfl rfl rfl rfl rfl rfl rfl
end Go.AE.Y
namespace Go.AE.Y
open Go.Proofs.Tryz
variable {H H0 H':Heap}{K:Uk}{E L A:Ul}{q:CodeD}
structure JB where
 y:BlkD
 pc:C
 pl:Ul
 ic:C
 il:Ul
 fl:Bool
def JB.row (k:JB):List C:=[k.pc,k.ic,.int .i64 k.y.jump,.int .i64 k.y.on,.sl k.fl 1 (Qc k.y.next)]
def JB.lg (k:JB):List (Nat×Obj):=k.pl++k.il
structure JB.ok (k:JB):Prop where
 p:Gr k.pl 2 (Q3 k.y.ab) k.pc
 i:Gr k.il 4 (AD k.y.ins) k.ic
theorem JB.ak {k:JB}(h:k.ok):Go.AE.ak k.row=true:=by
 simp only[Go.AE.ak,JB.row,Jay,Ja3,h.p.ah,h.i.ah];rfl
theorem JB.no {ks:List JB}(h:∀k∈ks,k.ok):∀r∈ks.map JB.row,Go.AE.ak r=true:=λr hr=>by
 obtain⟨k,hk,rfl⟩:=Jm.1 hr;exact JB.ak (h k hk)
theorem JB.frzR {S:Nat->Bool}{ks:List JB}(ho:∀k∈ks,k.ok)(h:Held H S (ks.flatMap JB.lg)):FrzR H S (ks.map JB.row) (Qm (ks.map JB.y)):=by
 rw[Qm,J6];exact Dm ks λk hk=>.cons (Gr.frzM (ho k hk).p (h.m hk).l (FrzR.same (PJ _))) (.cons (Gr.frzM (ho k hk).i (h.m hk).r (FrzR.same (EV _))) (.cons (Qg rfl) (.cons (Qg rfl) (.cons (FrzR.same (Qw _)).sl .nil))))
theorem JB.getD {ks:List JB}{i:Nat}(h:i<ks.length):(ks.map JB.row).getD i []=ks[i].row:=by simp[Ja,h]
def JB.k (k:JB):KBlk:=⟨k.y,k.pc,k.pl⟩
def jbS (js:List JB)(ks:List KBlk):List JB:=List.zipWith (λj k=>⟨k.y,j.pc,k.pl,j.ic,j.il,j.fl⟩) js ks
theorem VL {js:List JB}{ks:List KBlk}(h:ks.length=js.length):(jbS js ks).length=js.length:=by rw[jbS,List.length_zipWith];omega
theorem Ft {js:List JB}{ks:List KBlk}{i:Nat}(h1:i<js.length)(h2:i<ks.length)(h3:i<(jbS js ks).length):(jbS js ks)[i]=⟨ks[i].y,js[i].pc,ks[i].pl,js[i].ic,js[i].il,js[i].fl⟩:=by
 simp only[jbS,List.getElem_zipWith]
theorem HK (f:Ul->Nat)(hf:∀a b,f (a++b)=f a+f b)(h0:f []=0):∀(js:List JB) (ks:List KBlk),ks.length=js.length->
  f ((jbS js ks).flatMap JB.lg)+f ((js.map JB.k).flatMap KBlk.pl)=f (ks.flatMap KBlk.pl)+f (js.flatMap JB.lg)
 |[],[],_=>by simp[jbS,h0]
 |[],_::_,h=>ZH
 |_::_,[],h=>ZH
 |j::js,k::ks,h=>by
  have ih:=HK f hf h0 js ks ZI;simp only[Ui,jbS,List.zipWith_cons_cons,Jag,J1,hf,JB.lg,JB.k]at ih⊢;omega
variable {nx:Nat->List Int}{N:Nat}{g:Nat->PhiD->Int->Int}{Y:Nat->BlkD}
theorem Og {js:List JB}{x zb o:Nat}{P G:Int}{ss:List PSl}{R:Ul}(hN:N<=100000)(hl:js.length=N)(aw:∀k∈js,k.ok)(hy:∀j (h:j<js.length),js[j].y=Y j)(eC:∀j,j<N->(Y j).next=nx j)
  (cQ:∀j,j<N->(Y j).ab.length<=100000) (cW:ss.length=N) (hs:PTel nx N g Y ss)
  (kn:Kn H0 H E ([(x,.st [Ui P,Ui G,.ai zb 5 0 N]),(zb,.vec 5 (js.map JB.row)),(o,.vec 1 (ss.map PSl.row))]++(js.flatMap JB.lg++(psL ss++R))))
  (hK:∀(js':List JB) (H':Heap),js'.length=N->(∀j (h:j<js'.length),js'[j].y=stlY nx N g j (Y j))->(∀k∈js',k.ok)->
   Kn H0 H' E ([(x,.st [Ui P,Ui G,.ai zb 5 0 N]),(zb,.vec 5 (js'.map JB.row)),(o,.vec 1 (ss.map PSl.row))]++(js'.flatMap JB.lg++(psL ss++R)))->K (.tup []) H') :
  Qv prog PW [Up x,.c (.ai o 1 0 N)] H K:=by
 have ip:(js.map JB.k).length=N:=by rw[Je,hl]
 have aQ:StS nx N g Y 0 (js.map JB.k):=⟨ip,λj h=>by
  have h':j<js.length:=ZI
  rw[if_neg (Nat.not_lt_zero j),Jo];exact hy j h',λk hk=>by
  obtain⟨j,hj,rfl⟩:=Jm.1 hk;exact (aw j hj).p⟩
 obtain⟨IL,Ax⟩:∃IL,js.flatMap JB.il=IL:=⟨_,rfl⟩;have sE:∀(f:Ul->Nat) (hf:∀a b,f (a++b)=f a+f b) (h0:f []=0),f (js.flatMap JB.lg)=f ((js.map JB.k).flatMap KBlk.pl)+f IL:=λf hf h0=>by
  rw[<-Ax];clear aQ ip Ax kn hK hy aw hl
  induction js with
  |nil=>simp[h0]
  |cons k l ih=>simp only[Ui,Jag,J1,hf,JB.lg,JB.k]at ih⊢;omega
 refine Qbod (x:=x) (zb:=zb) (o:=o) (P:=P) (G:=G) (RW:=js.map JB.row) (R:=IL++R) hN aQ (by rw[Je,hl]) (JB.no aw) (λj h=>?_) cQ cW hs (kn.perm (Qj λf hf h0 hc hp=>by
  have:=sE f hf h0;simp only[Ui,hf]at this⊢;omega)) λks H' hS ik kn=>?_
 ·have h':j<js.length:=ZI
  refine⟨js[j].ic,Ui js[j].y.jump,Ui js[j].y.on,js[j].fl,?_⟩;rw[JB.getD h',Jo,JB.row,hy j h',eC j ZA];rfl
 ·have ce:ks.length=js.length:=by rw[hS.n,hl]
  have dq:=VL ce;have pE:∀j (h:j<ks.length),ks[j].y=stlY nx N g j (Y j):=λj h=>by have:=hS.y j h;rwa [if_pos (by rw[<-hS.n];exact h)]at this
  have aC:(jbS js ks).map JB.row=js.map JB.row:=by
   refine Jac (by simp[dq]) λj h1 h2=>?_;have h1:j<(jbS js ks).length:=ZW
   have h2:j<js.length:=Zaf
   rw[Jo,Jo,Ft h2 ZA h1,JB.row,JB.row,pE j ZA,hy j h2];rfl
  refine hK (jbS js ks) H' (by rw[dq,hl]) (λj h=>?_) (λk hk=>?_) ?_
  ·rw[Ft ZA ZA h];exact pE j ZA
  ·obtain⟨j,hj,rfl⟩:=Jq.1 hk;have h2:j<js.length:=ZA
   rw[Ft h2 ZA hj];have wC:ks[j].pc=js[j].pc:=by
    have e:(ks.map KBlk.pc)[j]? = some ks[j].pc:=(by simp[ce,h2]);rw[ik,J6,J8,Jj h2]at e;exact (Jah e).symm
   refine⟨?_,?_⟩
   ·have:=hS.ok ks[j] (Jb _);rw[<-wC];exact this
   ·have:=(aw js[j] (Jb h2)).i;have e:ks[j].y.ins=js[j].y.ins:=(by rw[pE j (by omega),hy j h2];rfl);show Gr js[j].il 4 (AD ks[j].y.ins) js[j].ic;rw[e];exact this
  ·rw[aC];refine kn.perm (Qj λf hf h0 hc hp=>?_);have e1:=sE f hf h0;have e2:=HK f hf h0 js ks ce;simp only[Ui,hf]at e1 e2⊢;omega
end Go.AE.Y
namespace Go.AE.Y
attribute [local go_sem] cond_true cond_false Bool.not_true Bool.not_false
open Go.Proofs.Tryz
variable {H H0:Heap}{K:Uk}{E L:Ul}{q:CodeD}{l:List Nat}
def pkG (q:CodeD)(l:List Nat)(j:Nat)(p:PhiD)(w:Int):Int:=p.args.getD ((Qp (gnx q) ((l.getD j 0:Nat):Int) q.blocks.length).idxOf ((l.getD w.toNat 0:Nat):Int)) 0
def pkYj (q:CodeD)(l:List Nat)(j:Nat):BlkD:=pkY q (plcs q.blocks.length l) (l.getD j 0)
theorem Qbl5 (ho:q.ok)(hp:Pk q l){j:Nat}(hj:j<l.length):(pkYj q l j).next=pkN q (plcs q.blocks.length l) l j:=by
 rw[EI hj,pkYj,(hp.get hj).1]
theorem XY (q:CodeD)(l:List Nat)(j:Nat):stlY (pkN q (plcs q.blocks.length l) l) l.length (pkG q l) j (pkYj q l j)=pkX q (plcs q.blocks.length l) l j:=rfl
theorem Tk (ho:q.ok)(hp:Pk q l){r j':Nat}(dB:r<l.length)(bE:j'<l.length){p:PhiD}(hm:p∈(Qt q (l.getD r 0)).ab)(ej:((l[j']:Nat):Int)∈Qp (gnx q) ((l.getD r 0:Nat):Int) q.blocks.length) :
  (((l[j']:Nat):Int),pkG q l r p (j':Int))∈zpA q (l.getD r 0) p:=by
 obtain⟨e1,_,e3⟩:=hp.get dB;have e3':l.getD r 0<q.blocks.length:=by rw[e1];exact e3
 rw[AP e3']at hm;have dD:=(ho.bs _ e3').pal p hm;have pf:=Jt ej;have hja:(Qp (gnx q) ((l.getD r 0:Nat):Int) q.blocks.length).idxOf ((l[j']:Nat):Int)<p.args.length:=ZA
 refine Jq.2 ⟨(Qp (gnx q) ((l.getD r 0:Nat):Int) q.blocks.length).idxOf ((l[j']:Nat):Int),by rw[zpA,List.length_zip];omega,?_⟩;simp only[zpA,List.getElem_zip,Jaz];refine⟨List.getElem_idxOf pf,?_⟩;have b6:∀(L:List Int) (i:Nat) (h:i<L.length),L[i]=L.getD i 0:=λL i h=>by simp[Ja,h]
 rw[pkG,Jaq,(hp.get bE).1];exact b6 _ _ hja
theorem Tl (ho:q.ok)(hp:Pk q l)(hn:l.Nodup){ss:List PSl}(h:PkM q l l.length ss):PTel (pkN q (plcs q.blocks.length l) l) l.length (pkG q l) (pkYj q l) ss:=by
 refine⟨λr hr=>(h.m r hr Za5).len,λr hr i h1 h2 w hw=>?_,h.ok⟩;have dB:r<l.length:=Za5
 have hM:=(h.m r hr dB).f i h1 h2;obtain⟨j',bE,rfl,ej⟩:=hp.preds ho (EK hp.lt) dB hw;rw[<-(hp.get dB).1]at ej;have hz:=Tk ho hp dB bE (Jb h2) ej;have:=hM _ _ hz (by rw[Jaq];exact Jb bE);rw[Jaq,List.Nodup.idxOf_getElem hn j' bE]at this;rw[this];rfl
structure PBk where
 y:BlkD
 pc:C
 pl:Ul
 nc:C
 nl:Ul
 ic:C
 il:Ul
def PBk.row (b:PBk):List C:=[b.pc,b.ic,.int .i64 b.y.jump,.int .i64 b.y.on,b.nc]
def PBk.ok (b:PBk):Prop:=Gr b.pl 2 (Q3 b.y.ab) b.pc/\Gr b.nl 1 (Qc b.y.next) b.nc/\Gr b.il 4 (AD b.y.ins) b.ic
def PBk.lg (b:PBk):List (Nat×Obj):=(b.pl++b.nl)++b.il
theorem PBk.ak {b:PBk}(h:b.ok):Go.AE.ak b.row=true:=by
 have h1:=h.1.ah;have h2:=h.2.1.ah;have h3:=h.2.2.ah;simp only[Go.AE.ak,PBk.row,Jay,Ja3,h1,h2,h3];rfl
def pJ (k:PBk):JB:=⟨k.y,k.pc,k.pl,k.ic,k.il,false⟩
theorem Sc (ks:List PBk):(ks.flatMap PBk.lg).Perm ((ks.map pJ).flatMap JB.lg++ks.flatMap PBk.nl):=Qj λf hf h0 hc hp=>by
 induction ks with
 |nil=>simp[h0]
 |cons k l ih=>simp only[Ui,Jag,J1,hf,PBk.lg,JB.lg,pJ]at ih⊢;omega
theorem Yd {Q:X->Env->Heap->Prop}{e:Env}{x4 x9 pz:Nat}{ks:List PBk}{ss:List PSl}{bc:C}{bl:Ul}(ho:q.ok)(hp:Pk q l)(hn:l.Nodup)
  (ce:ks.length=l.length) (nP:∀j (h:j<ks.length),ks[j].y=pkYj q l j) (kA:∀k∈ks,k.ok) (hS:PkM q l l.length ss) (jH:Gr bl 5 (ks.map PBk.row) bc)
  (kn:Kn H0 H [] ([(x4,.st [Ui 0,Ui 0,.sl true 5 []]),(x9,.st [Ui q.params,Ui q.ae,bc]),(pz,.vec 1 (ss.map PSl.row))]++((psL ss++ks.flatMap PBk.lg)++bl)))
  (l4:lk 4 e=Up x4) (l9:lk 9 e=Up x9) (l10:lk 10 e=.c (.ai pz 1 0 l.length))
  (hQ:∀(e:Env) (H':Heap) (ks:List JB) (z:Nat),ks.length=(pkE q l).blocks.length->ks.map JB.y=(pkE q l).blocks->(∀k∈ks,k.ok)->
   Kn H0 H' [] ([(x4,.st [Ui q.params,Ui q.ae,.ai z 5 0 (pkE q l).blocks.length]),(z,.vec 5 (ks.map JB.row))]++ks.flatMap JB.lg)->lk 4 e=Up x4->Q .ret e H') :
  A9 prog Qup Q e H:=by
 have sV:=hp.n;have i8:0<l.length:=by
  have:=hp.z
  cases l with
  |nil=>simp at this
  |cons=>simp
 have Ao:(pkE q l).blocks.length=l.length:=DC q l;have dB:(ks.map PBk.row).length=l.length:=by rw[Je,ce]
 have cW:=hS.n;obtain⟨zb,rfl,rfl⟩:∃z,bc=.ai z 5 0 l.length/\bl=[(z,.vec 5 (ks.map PBk.row))]:=by
  rcases jH with ⟨_,h,_⟩|⟨z,h1,h2⟩
  ·have:=congrArg List.length h;rw[dB]at this;simp only[Jh]at this;omega
  ·exact⟨z,by rw[h1,dB],h2⟩
 have hkp:=Sc ks;have kn:Kn H0 H [] (([(zb,.vec 5 (ks.map PBk.row)),(x9,.st [Ui q.params,Ui q.ae,.ai zb 5 0 l.length]),(pz,.vec 1 (ss.map PSl.row)),(x4,.st [Ui 0,Ui 0,.sl true 5 []])]++((ks.map pJ).flatMap JB.lg++psL ss))++ks.flatMap PBk.nl):=kn.perm (Qj λf hf h0 hc hp=>by
  have e4:∀(a b c d:Nat×Obj),f [a,b,c,d]=f [a]+f [b]+f [c]+f [d]:=λa b c d=>ZM
  have e3:∀(a b c:Nat×Obj),f [a,b,c]=f [a]+f [b]+f [c]:=λa b c=>ZS
  have:=hp _ _ hkp;simp only[Ui,hf,e4,e3]at this⊢;omega)
 obtain⟨S,jK,kN,eK,kn⟩:=kn.cw;have hz:=kN (zb,.vec 5 (ks.map PBk.row)) ZC;have bA:FrzR H S (ks.map PBk.row) ((ks.map pJ).map JB.row):=by
  rw[J6];refine Dm ks λk hk=>?_;have fx:=kA k hk;exact .cons (.same _ fx.1.ah) (.cons (.same _ fx.2.2.ah) (.cons (Qg rfl) (.cons (Qg rfl) (.cons (Gr.frzM fx.2.1 (λp hp=>jK p (Jad.2 ⟨k,hk,hp⟩)) (FrzR.same (Qw _))) .nil))))
 have bx:∀r∈ks.map PBk.row,Go.AE.ak r=true:=λr hr=>by
  obtain⟨k,hk,rfl⟩:=Jm.1 hr;exact PBk.ak (kA k hk)
 have qT:=eK.set (o:=.vec 5 ((ks.map pJ).map JB.row)) hz.2 (by rw[hz.1];exact .vecR bA bx);have kn:=kn.setL (o':=.vec 5 ((ks.map pJ).map JB.row)) 0 rfl ZC;generalize rt:(H.frz S).set zb (.vec 5 ((ks.map pJ).map JB.row))=H2 at qT kn;have kn:Kn H0 H2 [] ([(x9,.st [Ui q.params,Ui q.ae,.ai zb 5 0 l.length]),(zb,.vec 5 ((ks.map pJ).map JB.row)),(pz,.vec 1 (ss.map PSl.row))]++((ks.map pJ).flatMap JB.lg++(psL ss++[(x4,.st [Ui 0,Ui 0,.sl true 5 []])]))):=kn.perm (Qj λf hf h0 hc hp=>by
  have e4:∀(a b c d:Nat×Obj),f [a,b,c,d]=f [a]+f [b]+f [c]+f [d]:=λa b c d=>ZM
  have e3:∀(a b c:Nat×Obj),f [a,b,c]=f [a]+f [b]+f [c]:=λa b c=>ZS
  show f ([(zb,_),(x9,_),(pz,_),(x4,_)]++((ks.map pJ).flatMap JB.lg++psL ss))=_;simp only[Ui,hf,e4,e3];omega)
 refine Q1 (c_gh (DK S (EN ?_) qT) (e':=[(4,Up x4),(9,Up x9),(10,.c (.ai pz 1 0 l.length))]) ?_)
 ·simp only[J3,l4,l9,l10];exact⟨.c _ _ (.same _ rfl),.c _ _ (.same _ rfl),.c _ _ (.same _ rfl),ZC⟩
 clear eK qT jK kN hz bA bx rt;refine Za ?_;refine Og (js:=ks.map pJ) (nx:=pkN q (plcs q.blocks.length l) l) (N:=l.length) (g:=pkG q l) (Y:=pkYj q l) ZA (by rw[Je,ce]) (λk hk=>by
  obtain⟨k',fg,rfl⟩:=Jm.1 hk;exact⟨(kA k' fg).1,(kA k' fg).2.2⟩) (λj hj=>by
  have bE:j<ks.length:=ZT
  rw[Jo];exact nP j bE) (λj hj=>Qbl5 ho hp hj) (λj hj=>?_) cW (Tl ho hp hn hS) kn λks2 H3 gM kP fx kn=>?_
 ·obtain⟨e1,_,e3⟩:=hp.get hj;have:=(ho.il _ e3).2;rw[pkYj,pkY,e1,AP e3];show (q.blocks[l[j]]).ab.length<=100000;omega
 have kn:Kn H0 H3 [] ([(x4,.st [Ui 0,Ui 0,.sl true 5 []]),(x9,.st [Ui q.params,Ui q.ae,.ai zb 5 0 l.length])]++([(zb,.vec 5 (ks2.map JB.row))]++(ks2.flatMap JB.lg++([(pz,.vec 1 (ss.map PSl.row))]++psL ss)))):=kn.perm (Qj λf hf h0 hc hp=>by
  have e3:∀(a b c:Nat×Obj),f [a,b,c]=f [a]+f [b]+f [c]:=λa b c=>ZS
  have e2:∀(a b:Nat×Obj),f [a,b]=f [a]+f [b]:=λa b=>hc a [b];simp only[Ui,hf,e3,e2];omega)
 have aY:=kn.l 0 rfl;have gc:=kn.l 1 rfl;refine Zn aY gc ?_;intro H4 h4;have kn:=kn.aA 0 rfl h4;refine Qk ?_;rw[Ao]at hQ;refine hQ _ H4 ks2 zb gM ?_ fx ?_ rfl
 ·refine Jac (by rw[Je,gM,Ao]) λj h1 h2=>?_;have hj:j<ks2.length:=ZW
  rw[Jo,kP j hj,Dt];exact XY q l j
 ·have kn:Kn H0 H4 [] (([(x4,.st [Ui q.params,Ui q.ae,.ai zb 5 0 l.length]),(zb,.vec 5 (ks2.map JB.row))]++ks2.flatMap JB.lg)++([(x9,.st [Ui q.params,Ui q.ae,.ai zb 5 0 l.length])]++([(pz,.vec 1 (ss.map PSl.row))]++psL ss))):=kn.perm (Qj λf hf h0 hc hp=>by
   have e2:∀(a b:Nat×Obj),f [a,b]=f [a]+f [b]:=λa b=>hc a [b];show f ([(x4,_),(x9,_)]++([(zb,_)]++(ks2.flatMap JB.lg++([(pz,_)]++psL ss))))=_;simp only[Ui,hf,e2];omega)
  exact kn.drop
def pkOb (x4 x9 M o pz ver:Nat)(nl:List (Int×Int))(os ss:List PSl)(q:CodeD)(bc:C):List (Nat×Obj):=
 [(x4,.st [.int .i64 0,.int .i64 0,.sl true 5 []]),(x9,.st [.int .i64 q.params,.int .i64 q.ae,bc]),(M,.map ver (mI nl)),(o,.vec 1 (os.map PSl.row)),(pz,.vec 1 (ss.map PSl.row))]
theorem Ya {fl fl2:Bool}(ho:q.ok)(hp:Pk q l)(hn:l.Nodup)(hK:∀(ks:List JB) z H',ks.length=(pkE q l).blocks.length->ks.map JB.y=(pkE q l).blocks->(∀k∈ks,k.ok)->Kn H H' [] ([(z,.vec 5 (ks.map JB.row))]++ks.flatMap JB.lg)->K (.ag [Ui q.params,Ui q.ae,.ai z 5 0 (pkE q l).blocks.length]) H') :
  Qv prog Q2u [.ag [Ui q.params,Ui q.ae,.sl fl 5 (Qm q.blocks)],.c (.sl fl2 1 (AA l))] H K:=by
 have bg:=ho.b1;have sV:=hp.n;refine CG ?_;refine Qd A6 Qa5i ?_;refine Za ?_;intro x4 aY H1 h1;have kn:=(Kn.ao H).al aY h1;refine Za ?_;intro M hM H2 h2;have kn:Kn H H2 [] [(x4,.st [Ui 0,Ui 0,.sl true 5 []]),(M,.map 0 (mI []))]:=kn.al hM h2;simp only[go_sem,P2];refine Q1 (Qa ?_);simp only[go_sem,Q4];try intro _
 refine Qh ?_;refine Yb hn ZA kn rfl rfl rfl rfl rfl rfl rfl λe3 H3 nl ver hN kn l1 l2 l4 l5=>?_;simp only[go_sem];refine Zi l2 ?_;refine Ye ho λo os H4 qv ji k4=>?_;have kn:=kn.comp0 k4;simp only[go_sem,l1,l2,l4,l5,Qur];refine Za ?_;intro x9 gc H5 h5;have kn:Kn H H5 [] ([(x9,.st [Ui 0,Ui 0,.sl true 5 []])]++([(x4,.st [Ui 0,Ui 0,.sl true 5 []]),(M,.map ver (mI nl))]++([(o,.vec 1 (os.map PSl.row))]++psL os))):=(kn.al gc h5).perm Jk;have gc:=kn.l 0 rfl;simp only[go_sem,Qus,gc];intro H6 h6;have kn:Kn H H6 [] ([(x9,.st [Ui q.params,Ui q.ae,.sl true 5 []])]++([(x4,.st [Ui 0,Ui 0,.sl true 5 []]),(M,.map ver (mI nl))]++([(o,.vec 1 (os.map PSl.row))]++psL os))):=kn.aA 0 rfl h6;refine Qa ?_;simp only[go_sem,Q4];try intro _
 refine⟨by simp only[LIM];omega,λpz rJ H7 h7=>?_⟩;obtain⟨ss0,gu⟩:∃ss0:List PSl,ss0=List.replicate l.length ⟨[],.sl true 1 [],[]⟩:=⟨_,rfl⟩;have mL:PkM q l 0 ss0:=by
  rw[gu];refine⟨ZC,λr _ h=>ZA,λr h _=>ZC,λs hs=>?_⟩;rw[Jaf hs];exact .nil 1
 have e0:psL ss0=[]:=by rw[gu];exact Ja6.2 λs hs=>by rw[Jaf hs];rfl
 have bR:List.replicate l.length [C.sl true 1 []]=ss0.map PSl.row:=by rw[gu,List.map_replicate];rfl
 rw[bR]at h7;have kn:=kn.al rJ h7;have kn:Kn H H7 [] ((pkOb x4 x9 M o pz ver nl os ss0 q (.sl true 5 [])++(psL os++(psL ss0++([]:List PBk).flatMap PBk.lg)))++[]):=kn.perm (Qj λf hf h0 hc hp=>by
  have e5:∀(a b c d e:Nat×Obj),f [a,b,c,d,e]=f [a]+f [b]+f [c]+f [d]+f [e]:=λa b c d e=>ZQ
  have e2:∀(a b:Nat×Obj),f [a,b]=f [a]+f [b]:=λa b=>hc a [b];rw[e0];show f ([(x9,_)]++([(x4,_),(M,_)]++([(o,_)]++psL os))++[(pz,_)])=f ((pkOb x4 x9 M o pz ver nl os ss0 q (.sl true 5 [])++(psL os++([]++[])))++[]);simp only[Ui,hf,pkOb,e5,e2,h0];omega)
 clear gu bR h7 rJ e0;simp only[go_sem,O0];refine Q1 (Qa ?_);simp only[go_sem,Q4];try intro _
 refine Qh (Qe (Qx (λm e1 H1=>∃(ks:List PBk) (ss:List PSl) (bc:C) (bl:Ul),m=l.length-ks.length/\ks.length<=l.length/\(∀j (h:j<ks.length),ks[j].y=pkYj q l j)/\(∀k∈ks,k.ok)/\PkM q l ks.length ss/\Gr bl 5 (ks.map PBk.row) bc/\
  Kn H H1 [] ((pkOb x4 x9 M o pz ver nl os ss q bc++(psL os++(psL ss++ks.flatMap PBk.lg)))++bl)/\
  lk 2 e1=.c (.pp [Ui q.params,Ui q.ae,.sl fl 5 (Qm q.blocks)])/\lk 4 e1=Up x4/\lk 5 e1=.c (.mp M)/\lk 8 e1=.c (.ai o 1 0 q.blocks.length)/\lk 9 e1=Up x9/\lk 10 e1=.c (.ai pz 1 0 l.length)/\
  lk 45 e1=.c (.sl fl2 1 (AA l))/\lk 46 e1=.c (Ui l.length)/\lk 47 e1=.c (Ui ks.length)) l.length ?_ ?_))
 ·exact⟨[],ss0,_,[],ZC,ZC,ZC,ZC,mL,.nil 5,kn,rfl,rfl,rfl,rfl,rfl,rfl,rfl,rfl,rfl⟩
 ·clear kn mL gc;rintro m e1 H8 ⟨ks,ss,bc,bl,hm,ce,nP,kA,hS,jH,kn,l2,l4,l5,l8,l9,l10,l45,l46,l47⟩;obtain⟨i,hi⟩:∃i,ks.length=i:=⟨_,rfl⟩;rw[hi]at hm ce hS l47;refine Qa ?_;simp only[go_sem,l2,l4,l5,l8,l9,l10,l45,l46,l47];refine Wu ?_ ?_
  ·intro hc;have af:i<l.length:=ZD
   obtain⟨fR,dA,cr⟩:=hp.get af;obtain⟨b,hb⟩:∃b,l[i]=b:=⟨_,rfl⟩;rw[hb]at fR dA cr;have cg:b<os.length:=ZA
   have uX:=AP cr;refine Zd ?_
   refine Wb ?_;simp only[go_sem,af,Q4,BJ _ _ af,fR];refine Qa ?_;simp only[go_sem,cr,Ql,Q9 _ _ cr,BlkD.take5,BlkD.bv,BlkD.len5];refine Qaqb (ho.cl _ (Jb cr)) λpc N ic M2 nc Ln H9 kZ gP iC k9=>?_;rw[<-uX]at kZ iC gP;have jG:=gP.ah;rw[<-uX];have fK:=kZ.ah;have jk:=iC.ah;have kn:=kn.comp0 k9;simp only[go_sem,Quv];intro x13 gZ H10 dh;have kn:=(kn.al gZ dh).perm Jk;have gZ:=kn.l 0 rfl;simp only[go_sem,Quu,gZ];intro H11 eB;obtain⟨y,hy⟩:∃y,Qt q b=y:=⟨_,rfl⟩;rw[hy]at kZ iC gP eB;have kn:Kn H H11 [] ([(x13,.st [pc,ic,Ui y.jump,Ui y.on,nc])]++(((pkOb x4 x9 M o pz ver nl os ss q bc++(psL os++(psL ss++ks.flatMap PBk.lg)))++bl)++((N++Ln)++M2))):=by
    have:=kn.aA 0 rfl eB;simpa using this
   obtain⟨R,hR⟩:∃R,[(x4,Obj.st [Ui 0,Ui 0,.sl true 5 []]),(x9,.st [Ui q.params,Ui q.ae,bc]),(o,.vec 1 (os.map PSl.row)),(pz,.vec 1 (ss.map PSl.row))]++(((psL os++(psL ss++ks.flatMap PBk.lg))++bl)++(N++M2))=R:=⟨_,rfl⟩;have kn:Kn H H11 [] (([(M,.map ver (mI nl)),(x13,.st [pc,ic,Ui y.jump,Ui y.on,nc])]++R)++Ln):=kn.perm (Qj λf hf h0 hc hp=>by
    have e5:∀(a b c d e:Nat×Obj),f [a,b,c,d,e]=f [a]+f [b]+f [c]+f [d]+f [e]:=λa b c d e=>ZQ;have e4:∀(a b c d:Nat×Obj),f [a,b,c,d]=f [a]+f [b]+f [c]+f [d]:=λa b c d=>ZM;have e2:∀(a b:Nat×Obj),f [a,b]=f [a]+f [b]:=λa b=>hc a [b];rw[<-hR];simp only[Ui,hf,pkOb,e5,e4,e2];omega)
   have je:∀v∈y.next,0<=v/\v.toNat∈l:=λv hv=>by
    rw[<-hy,uX]at hv;have h1:=(ho.bs b cr).nx v hv;exact⟨ZA,hp.cl b dA v (by rw[CD cr];exact hv)⟩
   have fT:y.next.length<=1000:=by rw[<-hy,uX];have:=(ho.bs b cr).nxl;omega
   have gZ:=kn.l 1 rfl;have oM:=iC.ax;rw[Qb]at oM;have wQ:=eq_true (iC.get kn).1;refine Q1 (Qa ?_);simp only[go_sem,gZ,jk,oM,wQ];try intro _
   refine Qh ?_;refine Qbl3 (L9:=l.length) (ic:=ic) hN je fT fK jG rfl rfl rfl rfl iC kn rfl rfl rfl rfl rfl rfl rfl rfl rfl rfl rfl rfl rfl rfl rfl λe12 H12 Ln2 xO kn l2 l4 l5 l8 l9 l10 l11 l12 l13 l45 l46 l47=>?_;obtain⟨kb,df⟩:∃kb:PBk,kb=⟨pkYj q l i,pc,N,nc,Ln2,ic,M2⟩:=⟨_,rfl⟩;have Ai:pkYj q l i=⟨y.ab,y.ins,y.jump,y.on,y.next.map (plI l)⟩:=by
    have e1:=EL ho hp hn (EK hp.lt) dA;rw[pkYj,fR,<-hy];show BlkD.mk (Qt q b).ab (Qt q b).ins (Qt q b).jump (Qt q b).on (pkY q (plcs q.blocks.length l) b).next=_;rw[e1];rfl
   have fP:kb.ok:=by rw[df,Ai];exact⟨kZ,xO,gP⟩
   have qL:kb.row=[pc,ic,Ui y.jump,Ui y.on,nc]:=by rw[df,Ai];rfl
   have xw:kb.lg=(N++Ln2)++M2:=by rw[df];rfl
   rw[<-qL]at kn;obtain⟨so,i7⟩:∃s,os[b]=s:=⟨_,rfl⟩;have ki:so.ok:=by rw[<-i7];exact ji.ok _ (Jb cg)
   have km:=ji.f b cg;rw[i7,phT,if_pos cr]at km;have sH:so.ms.length=(Qt q b).ab.length:=by have:=congrArg List.length km;simpa using this
   have fU:=Gr.ah ki;have lV:∀p∈so.g,p∈psL os:=λp hp=>Jad.2 ⟨so,by rw[<-i7];exact Jb cg,Jg _ hp⟩;have ko:aW H12 so.c=True/\ax so.c=so.ms.length:=by
    refine⟨eq_true ?_,by have:=Gr.ax ki;rw[C6]at this;exact this⟩;rcases ki with ⟨h1,_,_⟩|⟨z,h1,h2⟩
    ·rw[h1];trivial
    ·have o9:(z,Obj.vec 1 (Ba so.ms))∈psL os:=lV _ Zai;have hz:=(kn.get (z,.vec 1 (Ba so.ms)) (by rw[<-hR];simp[o9])).1;rw[h1];simp only[aW,hz,Jn,Jl,and_self]
   have ta:=(kn.get (o,.vec 1 (os.map PSl.row)) (by rw[<-hR];simp)).1;have wI:(os.map PSl.row).length=q.blocks.length:=by rw[Je,qv]
   have wH:(os.map PSl.row).take q.blocks.length=os.map PSl.row:=Jc ZA;have wJ:(os.map PSl.row).getD b []=[so.c]:=by simp[Ja,cg,i7,PSl.row]
   simp only[go_sem];refine Q1 (Qa ?_);simp only[go_sem,l2,l4,l5,l8,l9,l10,l11,l12,l13,l45,l46,l47,ta,wI,wH,wJ,cr,fU,ko.1,ko.2,sH,Jn,Jl];try intro _
   refine Qh ?_;obtain⟨R2,oz⟩:∃R2,[(x4,Obj.st [Ui 0,Ui 0,.sl true 5 []]),(x9,.st [Ui q.params,Ui q.ae,bc]),(o,.vec 1 (os.map PSl.row)),(x13,.st kb.row)]++((ks.flatMap PBk.lg++bl)++((N++Ln2)++M2))=R2:=⟨_,rfl⟩;have kn:Kn H H12 [] ([(M,.map ver (mI nl)),(pz,.vec 1 (ss.map PSl.row))]++(psL os++(psL ss++R2))):=kn.perm (Qj λf hf h0 hc hp=>by
    have e4:∀(a b c d:Nat×Obj),f [a,b,c,d]=f [a]+f [b]+f [c]+f [d]:=λa b c d=>ZM;have e2:∀(a b:Nat×Obj),f [a,b]=f [a]+f [b]:=λa b=>hc a [b];rw[<-hR,<-oz];simp only[Ui,hf,e4,e2];omega)
   refine Qbl4 (b:=b) (x13:=x13) ho hN cr af ZA fR ji qv hS kn rfl rfl rfl rfl rfl rfl rfl rfl rfl rfl rfl (congrArg V.c (congrArg PSl.c i7.symm)) rfl rfl λe13 H13 ss hS kn l2 l4 l5 l8 l9 l10 l11 l13 l45 l46 l47=>?_;have kn:Kn H H13 [] (([(x9,.st [Ui q.params,Ui q.ae,bc]),(x13,.st kb.row)]++([(x4,.st [Ui 0,Ui 0,.sl true 5 []]),(M,.map ver (mI nl)),(o,.vec 1 (os.map PSl.row)),(pz,.vec 1 (ss.map PSl.row))]++(psL os++(psL ss++(ks.flatMap PBk.lg++kb.lg)))))++bl):=kn.perm (Qj λf hf h0 hc hp=>by
    have e4:∀(a b c d:Nat×Obj),f [a,b,c,d]=f [a]+f [b]+f [c]+f [d]:=λa b c d=>ZM;have e2:∀(a b:Nat×Obj),f [a,b]=f [a]+f [b]:=λa b=>hc a [b];rw[<-oz,xw];simp only[Ui,hf,e4,e2];omega)
   have tC:=PBk.ak fP;have qJ:kb.row.length=5:=rfl;have qI:kb.row.take 5=kb.row:=rfl;have xy:(kb.row.all λc=>!c.ah)=true:=tC;have iW:=jH.ah;have gc:=kn.l 0 rfl;have gZ:=kn.l 1 rfl;simp only[go_sem];refine Qq ?_;simp only[go_sem,l9,l13,gc,gZ,iW,qJ,qI,xy];refine kn.br (new:=[kb.row]) jH (.mk' _ _ _ _) (by intro r hr;simp only[Jd]at hr;rw[hr];exact tC) Zay λbc2 bl2 H14 xT yj kn=>?_;have gc:=kn.l 0 rfl;simp only[go_sem,l2,l4,l5,l8,l9,l10,l45,l46,l47,Qpw,gc];intro H15 ru;have kn:=kn.aA 0 rfl ru;have kn:Kn H H15 [] (((pkOb x4 x9 M o pz ver nl os ss q bc2++(psL os++(psL ss++(ks++[kb]).flatMap PBk.lg)))++bl2)++[(x13,.st kb.row)]):=kn.perm (Qj λf hf h0 hc hp=>by
    have e5:∀(a b c d e:Nat×Obj),f [a,b,c,d,e]=f [a]+f [b]+f [c]+f [d]+f [e]:=λa b c d e=>ZQ;have e4:∀(a b c d:Nat×Obj),f [a,b,c,d]=f [a]+f [b]+f [c]+f [d]:=λa b c d=>ZM;have e2:∀(a b:Nat×Obj),f [a,b]=f [a]+f [b]:=λa b=>hc a [b];show f (([(x9,_),(x13,_)]++([(x4,_),(M,_),(o,_),(pz,_)]++(psL os++(psL ss++(ks.flatMap PBk.lg++kb.lg)))))++bl2)=_;simp only[Ui,Jat,Jag,Jbj,Jae,hf,pkOb,e5,e4,e2];omega)
   refine Zh ?_;refine⟨Qr,?_⟩;show ∃m,_;refine⟨l.length-(i+1),ZA,ks++[kb],ss,bc2,bl2,by simp[hi],by simp only[J4,Ji,Jh];omega,λj h=>?_,λw hw=>?_,by simpa[hi]using hS,by rw[Jw];exact xT,kn.drop,rfl,rfl,rfl,rfl,rfl,rfl,rfl,rfl,by simp[lk,hi]⟩
   ·by_cases hj:j<ks.length
    ·rw[List.getElem_append_left hj];exact nP j hj
    ·have nU:j=ks.length:=(by simp only[J4,Ji,Jh]at h;omega);subst nU;have e:(ks++[kb])[ks.length]=kb:=ZC;rw[e,df,hi]
   ·rcases Jx.1 hw with hw|hw
    ·exact kA w hw
    ·simp only[Jd]at hw;rw[hw];exact fP
  ·intro hc;have iA:i=l.length:=by have:l.length<=i:=ZD;omega
   have jm:ks.length=l.length:=ZA
   rw[iA]at hS;refine Zb ?_;have kn:Kn H H8 [] (([(x4,.st [Ui 0,Ui 0,.sl true 5 []]),(x9,.st [Ui q.params,Ui q.ae,bc]),(pz,.vec 1 (ss.map PSl.row))]++((psL ss++ks.flatMap PBk.lg)++bl))++([(M,.map ver (mI nl)),(o,.vec 1 (os.map PSl.row))]++psL os)):=kn.perm (Qj λf hf h0 hc hp=>by
    have e5:∀(a b c d e:Nat×Obj),f [a,b,c,d,e]=f [a]+f [b]+f [c]+f [d]+f [e]:=λa b c d e=>ZQ;have e3:∀(a b c:Nat×Obj),f [a,b,c]=f [a]+f [b]+f [c]:=λa b c=>ZS;have e2:∀(a b:Nat×Obj),f [a,b]=f [a]+f [b]:=λa b=>hc a [b];simp only[Ui,hf,pkOb,e5,e3,e2];omega)
   refine Yd ho hp hn jm nP kA hS jH kn.drop rfl rfl rfl λe3 H9 ks2 z xt xo xq kn l4=>?_;have aY:=kn.l 0 rfl;simp only[go_sem,Q7,A5,Jd,forall_eq,RS.op,l4,aY];have kn:Kn H H9 [] ([(x4,.st [Ui q.params,Ui q.ae,.ai z 5 0 (pkE q l).blocks.length])]++([(z,.vec 5 (ks2.map JB.row))]++ks2.flatMap JB.lg)):=kn;exact⟨unx H ([(z,.vec 5 (ks2.map JB.row))]++ks2.flatMap JB.lg),_,_,FrzL.ag (.cons (Qg rfl) (.cons (Qg rfl) (.cons (.same _ rfl) .nil))),CP _ _,hK ks2 z _ xt xo xq kn.finK⟩
theorem JB.frz {z n:Nat}{ks:List JB}{H':Heap}{bl:List BlkD}{E B:Ul}(kn:Kn H H' E (B++([(z,.vec 5 (ks.map JB.row))]++ks.flatMap JB.lg)))(hy:ks.map JB.y=bl)(ho:∀k∈ks,k.ok)(hn:n=ks.length):FrzC H' (un H) (.ai z 5 0 n) (.sl false 5 (Qm bl)):=by
 have hm:∀p∈([(z,Obj.vec 5 (ks.map JB.row))]++ks.flatMap JB.lg),H' p.1=p.2/\un H p.1=true:=λp hp=>
  ⟨(kn.get p (Jg _ (Jg _ hp))).1,C5 (kn.loc p (Jg _ hp))⟩
 have hr:=JB.frzR (S:=un H) ho λp hp=>hm p (Jg _ hp);rw[hy]at hr;obtain⟨h1,h2⟩:=hm (z,.vec 5 (ks.map JB.row)) ZC;exact FrzR.ai h2 h1 (by rw[Je,hn]) hr
end Go.AE.Y
namespace Go.AE.Y
attribute [local instance] Classical.propDecidable
variable {q:CodeD}{l:List Nat}
noncomputable def AZ (q:CodeD):CodeD:=pkE q (rchL q.blocks.length (nxN (gnx q)))
theorem EJ (n:Nat)(g:Nat->List Nat):(rchL n g).Nodup:=Ja2 Jbb Jbl
theorem mem_rchL {n:Nat}{g:Nat->List Nat}{x:Nat}:x∈rchL n g↔x<n/\AW g (-1) x=true:=by simp[rchL]
theorem Vq (ho:q.ok)(hp:Pk q l)(hn:l.Nodup){x:Nat}(h:Rch (nxN (gnx q)) (λz=>(z:Int)=-1) 0 x):x∈l/\Rch (nxN (gnx (pkE q l))) (λz=>(z:Int)=-1) 0 (l.idxOf x):=by
 obtain⟨z1,z2⟩:=Vn hp
 induction h with
 |refl _=>exact⟨z1,by rw[z2];exact .refl ZA⟩
 |@step y z _ h2 _ ih=>
  obtain⟨i1,i2⟩:=ih;refine⟨SF hp y i1 z h2,.step i2 ?_ ZA⟩;rw[XZ ho hp hn i1];exact Jm.2 ⟨z,h2,rfl⟩
theorem Qbo0 (ho:q.ok):rchL (AZ q).blocks.length (nxN (gnx (AZ q)))=List.range (AZ q).blocks.length:=by
 have hp:=ho.rchPk;have hn:=EJ q.blocks.length (nxN (gnx q));rw[rchL,List.filter_eq_self];intro j hj;have hj:=Jz.1 hj;rw[AZ,DC]at hj;have hm:=(mem_rchL.1 (Jb hj)).2;have:=(Vq ho hp hn (rchB_iff.1 hm)).2;rw[List.Nodup.idxOf_getElem hn j hj]at this;exact rchB_iff.2 this
theorem GR {cs:List CodeD}(hg:AN cs=true):AN (cs.map AZ)=true:=Vo (lf:=λc=>rchL c.blocks.length (nxN (gnx c))) hg λc hc=>by
 obtain⟨i,hi,rfl⟩:=Jq.1 hc;exact⟨(CE hg hi).rchPk,EJ _ _⟩
end Go.AE.Y
namespace Go.AE.Y
variable {q:CodeD}
def OBlk.nxt (o:OBlk)(ns:List Int):OBlk:=⟨o.ab,o.pc,o.pl,o.ins,o.ic,o.il,o.jump,o.on,⟨ns,o.nx.y⟩⟩
end Go.AE.Y
namespace Go.AE.Y
open Go.Proofs.Tryz
def Ql7:=dY 0x3f6a04e80f2d2
def Qafz:=dZ 0x874102f004112e3
def Ql8:=dY 0x3f3ca08680f512
def Qaf0:=dZ 0x874102f00411523
def Qaf1:=dZ 0x102305b0059f1f0045803430
def Qaf2:=dZ 0x190952f10241062528603f08610f018620f0128630f588600f08610f3808620f08610f018620f0128630f588600f08610f2808620f000634010020123580013802010020123580012802361bf1df1df20142 Qaf0 Ql8 Qaf1
def Q8p:=dZ 0x9006833333f102400344050128025802f512 Qaf2
def Ql9:=dY 0xed784e001
def Qma:=dY 0x3e884e001
def Qmb:=dY 0x3f6a0ee80f7d2
def Q8g:=dZ 0x874102f004117e3
def Q8h:=dZ 0x97ef2024102252ee03f0ee10f882ee20f0ee10f782ee20f0003f5a023e040f0e010f883e020f0e010f783e020f0003f5a023d240f0d210f881d220f0d210f781d220f0002340188020178026419f1 Q8g Qmb
def Q8i:=dZ 0x9002025101700432f089f04601436800138125f61 Q8h Qma
def Q8j:=dZ 0x202309d0069f1f0046805830
def Q8k:=dZ 0x190902024101700432f079f04601436800128125a610342 Q8i Ql9 Q8j
def Q15:=dZ 0x9026857357f2024003440501281268053512 Q8k
def Q8m:=dZ 0x19095024202300f006112 Q15 [] Ca
def Q8n:=dZ 0x19095004102300f005112 Q8p [] Q8m
def Q8o:=dZ 0x19092ef0231022524e03f04e10f3844e20f04e10f2844e20f0003f5a0234040f04010f3834020f04010f2834020f0003f5a0233240f03210f3823220f03210f2823220f0003f7a0332040f02050f02010f3812020f02050f02010f2812020f0003340501380205016020924f12 Qafz Ql7 Q8n
def Qauh:=dZ 0x902202f019190231 Q8o
theorem Qarb:mFn prog Qtf 2 127 Qauh A7=true:=ZE
def Qamo:=dZ 0x874102f004111a3
def Qq5:=dY 33489
def Qamq:=dZ 0x102301a0059f1f0045802030
def Qamr:=dZ 0x19092df102410522ad0560153580013822056015358001282222bc0cf20142 Ir Qq5 Qamq
def Qaf3:=dZ 0x900681f31ff102400344050128225801b512 Qamr
def Qamt:=dZ 0x19095004102300f005112 Qaf3 [] Ca
def Qamu:=dZ 0x19091af023003f7a0332440f02450f02410f3822420f02450f02410f2822420f0003f5a0231640f01610f3811620f01610f2811620f00023401402013020615f12 Qamo [] Qamt
def Qa3f:=dZ 0x902202f019190231 Qamu
theorem Qawz:mFn prog Qxx 2 46 Qa3f A7=true:=ZE
def Qbhf:=dZ 0x874102f004110a3
def Qbhg:=dZ 0x874102f00411193
def Qbhh:=dZ 0x30030090059f1f0045800f30
def Qbhi:=dZ 0x190919f300400434010113580180010113580080119909f20142 Qbhg [] Qbhh
def Qbao:=dZ 0x900680e3830040024405080500b412 Qbhi
def Qbhk:=dZ 0x19095004300300f005112 Qbao [] Ca
def Qbhl:=dZ 0x19098003002340560055006512 Qbhf [] Qbhk
def Yq:=dZ 0x900202f00411 Qbhl
theorem Yy:mFn prog Ku 2 26 Yq A7=true:=ZE
def Q83:=dZ 0x874102f004110c3
def Qjr:=dY 33265
def Q84:=dZ 0x874102f004111f3
def Q85:=dZ 0x10230390059f1f0045801230
def Q86:=dZ 0x19091ff1024105214d0360133580013802036013358001280214bc0cf20142 Q84 Qjr Q85
def Q2b:=dZ 0x90068113b10240034405012802700d512 Q86
def Q88:=dZ 0x19095004102300f005112 Q2b [] Ca
def Q89:=dZ 0x19098023003340501502050130206712 Q83 [] Q88
def Qanz:=dZ 0x902202f019190231 Q89
theorem Qai2:mFn prog Qoc 2 32 Qanz A7=true:=ZE
end Go.AE.Y
namespace Go.AE.Y
attribute [local go_sem] cond_true cond_false Bool.not_true Bool.not_false
attribute [local instance] Classical.propDecidable
open Go.Proofs.Tryz
variable {H H0:Heap}{K:Uk}{fl:Bool}
theorem Qbf2 {fn:Nat}{f:CodeD->CodeD}{l:List CodeD}(hl:l.length<=4)(hf:∀p∈l,∀(H:Heap) (K:V->Heap->Prop) (fl:Bool),(∀H',Upd H H' []->K (.ag (f p).cells) H')->Qv prog fn [.ag [Ui p.params,Ui p.ae,.sl fl 5 (Qm p.blocks)]] H K)
  (hK:∀H',Upd H H' []->K (.c (.sl false 3 (Qn (l.map f)))) H') :
  Qv prog Qdl [.c (.sl fl 3 (Qn l)),.c (.fn fn [])] H K:=by
 refine Qz ?_;refine Qd A6 Qog ?_;refine Wd ?_;refine Q1 (Qa ?_);simp only[go_sem,Q5];intro _;refine Qh (Qe (Qx (λm e1 H1=>∃(ds:List CodeD) (t:C) (Lg:Ul),m=l.length-ds.length/\ds.length<=l.length/\(∀i (h1:i<l.length) (h2:i<ds.length),ds[i]=f l[i])/\Gr Lg 3 (Qn ds) t/\Kn H H1 [] ([]++Lg)/\
  e1=[(1,.c (.fn fn [])),(5,.c t),(8,.c (.sl fl 3 (Qn l))),(9,.c (Ui l.length)),(10,.c (Ui ds.length))]) l.length ?_ ?_))
 ·exact⟨[],_,[],ZC,ZC,ZC,.nil 3,Kn.ao H,rfl⟩
 ·rintro m e1 H1 ⟨ds,t,Lg,hm,hi,uU,ay,kn,rfl⟩;have gk:=ay.ah;refine Za ?_;refine Wu ?_ ?_
  ·intro hc;have af:ds.length<l.length:=ZD
   obtain⟨p,hp⟩:∃p,l[ds.length]=p:=⟨_,rfl⟩;have ee:p∈l:=ZaY
   refine Zd ?_
   refine Wb ?_;simp only[go_sem,af,Q5,Cg _ _ af,CodeD.cells,hp];intro x7 b7 H2 h2;have kn:=kn.al b7 h2;have b7:H2 x7=.st [Ui 0,Ui 0,.sl true 5 []]:=(kn.get (x7,.st [Ui 0,Ui 0,.sl true 5 []]) ZC).1;simp only[go_sem,Ov,b7];intro H3 h3;have kn:Kn H H3 [] ([(x7,.st [Ui p.params,Ui p.ae,.sl false 5 (Qm p.blocks)])]++Lg):=by
    have:=kn.aA ([]++Lg).length (x:=x7) (o:=.st [Ui 0,Ui 0,.sl true 5 []]) ZC h3;refine Kn.perm (by simpa using this) ?_;exact Jk
   have b7:=kn.l 0 rfl;refine Qq ?_;simp only[go_sem,b7,Jae,Jan];refine hf p ee _ _ _ λH4 hu=>?_;obtain⟨d,hd⟩:∃d,f p=d:=⟨_,rfl⟩;rw[hd];have kn:=kn.au hu;simp only[go_sem,Qc6,CodeD.cells];refine kn.br (new:=Qn [d]) ay (.mk' _ _ _ _) (Di _) (by simp only[Q5,LIM,Ji,Jh];omega) λt2 Lg2 H5 bW di kn=>?_;simp only[go_sem,DA];refine Zg ?_;refine⟨Qr,l.length-(ds.length+1),ZA,ds++[d],t2,Lg2,ZC,by simp;omega,λi h1 h2=>?_,?_,?_,ZC⟩
   ·by_cases hi:i<ds.length
    ·rw[List.getElem_append_left hi];exact uU i h1 hi
    ·have iA:i=ds.length:=(by simp only[J4,Ji,Jh]at h2;omega);subst iA;rw[hp];have:(ds++[d])[ds.length]=d:=ZC;rw[this];exact hd.symm
   ·have:Qn (ds++[d])=Qn ds++Qn [d]:=Zbl;rw[this];exact bW
   ·exact Kn.drop (B:=[(x7,.st [Ui p.params,Ui p.ae,.sl false 5 (Qm p.blocks)])]) (kn.perm Jk)
  ·intro hc;have bp:ds.length=l.length:=by have:l.length<=ds.length:=ZD;omega
   refine Wc ?_;refine Zq ?_;have ye:ds=l.map f:=Jac (by rw[Je,bp]) λi h1 h2=>by rw[Jo];exact uU i ZA h1
   have qV:=hK _ kn.fin;rw[<-ye]at qV;exact⟨_,.c _ _ (ay.frz kn (Di _)),qV⟩
noncomputable def Bu (f:CodeD->CodeD)(cs:List CodeD):List CodeD:=if AN cs=true then cs.map f else []
theorem Qbf5 {fn:Nat}{f:CodeD->CodeD}{cs:List CodeD}(aU:∀c∈cs,c.fits)(hf:AN cs=true->∀p∈cs,∀(H:Heap) (K:V->Heap->Prop) (fl:Bool),(∀H',Upd H H' []->K (.ag (f p).cells) H')->Qv prog fn [.ag [Ui p.params,Ui p.ae,.sl fl 5 (Qm p.blocks)]] H K)
  (hK:∀H',Upd H H' []->K (.tup [.ag [.sl false 3 (Qn (Bu f cs))],.c (.bool (AN cs))]) H') :
  Qv prog Rk [.ag [.sl fl 3 (Qn cs)],.c (.fn fn [])] H K:=by
 refine Qz ?_;refine Qd A6 Qawq ?_;refine Za ?_;intro x4 aY H1 h1;have kn:=(Kn.ao H).al aY h1;simp only[go_sem,CB];refine Wa ?_;refine Qx6 aU λH2 hu=>?_;have kn:=kn.au hu;simp only[go_sem,G3];have aY:=kn.l 0 rfl;refine Wu ?_ ?_
 ·intro hc;have hc:=BM hc;refine Zi aY ?_;intro H3 h3;have kn:=kn.aA 0 rfl h3;have aY:=kn.l 0 rfl;simp only[go_sem,CB];refine Zs aY ?_;have hK:=hK _ kn.fin;rw[Bu,hc]at hK;exact⟨λ_=>trivial,_,Dk (FrzL.ag (.cons FrzR.nil.sl .nil)) (.c _ _ (Qg rfl)),hK⟩
 ·intro hc;have hg:=Bi hc;have dc:cs.length<=4:=by have:=(of_decide_eq_true hg).1;omega
  refine Zd ?_
  refine Za ?_;refine Qbf2 dc (hf hg) λH3 hu=>?_;have kn:=kn.au hu;have aY:=kn.l 0 rfl;simp only[go_sem,Qps,aY];intro H4 h4;have kn:=kn.aA 0 rfl h4;have aY:=kn.l 0 rfl;simp only[go_sem,GX];refine Zs aY ?_;have hK:=hK _ kn.fin;rw[Bu,if_pos hg,hg]at hK;exact⟨λ_=>trivial,_,Dk (Dd _) (.c _ _ (Qg rfl)),hK⟩
noncomputable def B7 (cs:List CodeD)(b:Bool):List CodeD:=if (b&&AN cs)=true then cs else []
theorem Qbfh {cs:List CodeD}{pass:List UInt8}{f:CodeD->CodeD}(aU:∀c∈cs,c.fits)(oe:∀c∈Bu f cs,c.fits)
  (hf:AN cs=true->∀p∈cs,∀(H:Heap) (K:V->Heap->Prop),(∀H',Upd H H' []->K (.ag (f p).cells) H')->Qv prog O7 [.ag [Ui p.params,Ui p.ae,.sl false 5 (Qm p.blocks)],.c (.str pass)] H K)
  (hK:∀H',Upd H H' []->K (.tup [.ag [.sl false 3 (Qn (B7 (Bu f cs) (AN cs)))],.c (.bool (AN cs&&AN (Bu f cs)))]) H') :
  Qv prog Hh [.ag [.sl fl 3 (Qn cs)],.c (.str pass)] H K:=by
 refine Qz ?_;refine Qd A6 Ki ?_;refine Za ?_;intro x4 aY H1 h1;have kn:=(Kn.ao H).al aY h1;simp only[go_sem,CB];refine Wa ?_;refine Ho aU λH2 hu=>?_;have kn:=kn.au hu;simp only[go_sem,Hk];refine Wu ?_ ?_
 ·intro hc;have hc:AN cs=false:=BM hc;have aY:=kn.l 0 rfl;refine Zi aY ?_;intro H3 h3;have kn:=kn.aA 0 rfl h3;have aY:=kn.l 0 rfl;simp only[go_sem,CB];refine Zs aY ?_;have hK:=hK _ kn.fin;have eo:B7 (Bu f cs) false=[]:=by simp[B7]
  rw[hc,eo]at hK;exact⟨λ_=>trivial,_,Dk (FrzL.ag (.cons (FrzR.nil.sl) .nil)) (.c _ _ (Qg rfl)),hK⟩
 ·intro hc;have hG:AN cs=true:=Bi hc;refine Zd ?_
  refine Za ?_;intro x6 aZ H3 h3;have kn:=kn.al aZ h3;have aZ:=kn.l 1 rfl;simp only[go_sem,PQ,aZ];intro H4 h4;have kn:Kn H H4 [] [(x4,.st [.sl true 3 []]),(x6,.st [.sl true 3 []])]:=kn.aA 1 rfl h4;refine Wa ?_;have cA:=(Pg aU hG).1;refine Qh (Qe (Qx (λm e1 H1=>∃(ds:List CodeD) (t:C) (Lg:Ul),m=cs.length-ds.length/\ds.length<=cs.length/\ds=(cs.take ds.length).map f/\Gr Lg 3 (Qn ds) t/\Kn H H1 [] ([(x4,.st [.sl true 3 []]),(x6,.st [t])]++Lg)/\
   lk 1 e1=.c (.str pass)/\lk 2 e1=.c (.pp [.sl fl 3 (Qn cs)])/\lk 4 e1=Up x4/\lk 6 e1=Up x6/\lk 7 e1=.c (Ui ds.length)) cs.length ?_ ?_))
  ·exact⟨[],_,[],ZC,ZC,ZC,.nil 3,ZL,rfl,rfl,rfl,rfl,rfl⟩
  ·clear kn aZ;rintro m e1 H5 ⟨ds,t,Lg,hm,mr,fD,ay,kn,l1,l2,l4,l6,l7⟩;have gk:=ay.ah;refine Q1 (Qa ?_);simp only[go_sem,l1,l2,l4,l6,l7,Q5];try intro _
   refine Wu ?_ ?_
   ·intro a7;have af:ds.length<cs.length:=ZF;have aZ:=kn.l 1 rfl;obtain⟨q,hq⟩:∃q,cs[ds.length]=q:=⟨_,rfl⟩;have hqm:q∈cs:=(by rw[<-hq];exact Jb af);refine Zd ?_
    refine Wq ?_;simp only[go_sem,aZ,gk,af,Q5,Cg _ _ af,CodeD.cells,hq];refine hf hG q hqm _ _ λH6 hu=>?_;obtain⟨d,hd⟩:∃d,f q=d:=⟨_,rfl⟩;rw[hd];have kn:=kn.au hu;have aZ:=kn.l 1 rfl;simp only[go_sem,PO,CodeD.cells,aZ,gk];refine kn.br (new:=Qn [d]) ay (.mk' _ _ _ _) (Di _) (by simp only[Q5,LIM,Ji,Jh];omega) λt2 Lg2 H7 bW di kn=>?_;have aZ:=kn.l 1 rfl;simp only[go_sem,PP,aZ];intro H8 h8;have kn:=kn.aA 1 rfl h8;refine Zh ?_;refine⟨Qr,?_⟩;show ∃m,_;refine⟨cs.length-(ds.length+1),ZA,ds++[d],t2,Lg2,ZC,by simp only[J4,Ji,Jh];omega,?_,?_,kn,rfl,rfl,rfl,rfl,ZB⟩
    ·have e:(ds++[d]).length=ds.length+1:=ZC;rw[e,Jf af,Jw,<-fD,hq,J1,Jan,hd]
    ·have:Qn (ds++[d])=Qn ds++Qn [d]:=Zbl;rw[this];exact bW
   ·intro gQ;have xZ:ds.length=cs.length:=(by have:cs.length<=ds.length:=(by simpa using gQ);omega);rw[xZ,J9]at fD;have jY:Bu f cs=ds:=(by rw[Bu,if_pos hG,<-fD]);rw[hG,jY]at hK;rw[jY]at oe;refine Zb ?_;have aZ:=kn.l 1 rfl;obtain⟨S,jK,kN,eK,kn⟩:=kn.cw;have gY:=kN (x6,.st [t]) ZC;have nY:FrzC H5 S t (.sl false 3 (Qn ds)):=Gr.frzM ay jK (FrzR.same (Di _));have kn:=kn.setL (o':=.st [.sl false 3 (Qn ds)]) 1 rfl ZC;refine c_gh (DK S (EN ?_) (eK.set (o:=.st [.sl false 3 (Qn ds)]) gY.2 ZaB)) (e':=[(4,Up x4),(6,Up x6)]) ?_
    ·simp only[J3];exact⟨.c _ _ (.same _ rfl),.c _ _ (.same _ rfl),ZC⟩
    generalize (H5.frz S).set x6 (Obj.st [C.sl false 3 (Qn ds)])=H6 at *;have aZ:=kn.l 1 rfl;have aY:=kn.l 0 rfl;clear eK gY nY jK kN;refine Q1 (Qa ?_);simp only[go_sem,aZ];refine Ho oe λH7 hu=>?_;have kn:=kn.au hu;have aZ:=kn.l 1 rfl;have aY:=kn.l 0 rfl;simp only[go_sem,Rb];refine Wu ?_ ?_
    ·intro bn;have fq:AN ds=false:=BM bn;refine Zi aY ?_;intro H8 h8;have kn:=kn.aA 0 rfl h8;have aY:=kn.l 0 rfl;simp only[go_sem,CB];refine Zs aY ?_;have hK:=hK _ kn.fin;have eo:B7 ds true=[]:=(by simp[B7,fq]);rw[fq,eo]at hK;exact⟨λ_=>trivial,_,Dk (FrzL.ag (.cons (FrzR.nil.sl) .nil)) (.c _ _ (Qg rfl)),hK⟩
    ·intro bn;have fq:AN ds=true:=Bi bn;refine Zd ?_
     refine Zn aZ aY ?_;intro H8 h8;have kn:=kn.aA 0 rfl h8;have aY:=kn.l 0 rfl;simp only[go_sem,GX];refine Zs aY ?_;have hK:=hK _ kn.fin;have eo:B7 ds true=ds:=(by simp[B7,fq]);rw[fq,eo]at hK;exact⟨λ_=>trivial,_,Dk (Dd ds) (.c _ _ (Qg rfl)),hK⟩
end Go.AE.Y
namespace Go.AE.Y
attribute [local go_sem] cond_true cond_false Bool.not_true Bool.not_false
attribute [local instance] Classical.propDecidable
open Go.Proofs.Tryz
variable {H H0:Heap}{K:Uk}{fl:Bool}{q:CodeD}{cs:List CodeD}
theorem Qbmd (ho:q.ok):CR q.blocks.length (gnx q)=rchL q.blocks.length (nxN (gnx q)):=by
 rw[CR,if_pos ho.fitB];rfl
theorem Qyx (ho:q.ok)(hK:∀(ks:List JB) z H',ks.map JB.y=(AZ q).blocks->(∀k∈ks,k.ok)->Kn H H' [] ([(z,.vec 5 (ks.map JB.row))]++ks.flatMap JB.lg)->K (.ag [Ui q.params,Ui q.ae,.ai z 5 0 (AZ q).blocks.length]) H') :
  Qv prog RD [.ag [Ui q.params,Ui q.ae,.sl fl 5 (Qm q.blocks)]] H K:=by
 have bg:=ho.b1;refine CG ?_;refine Qd A6 Q6n ?_;refine Za ?_;intro x2 aH H1 h1;have kn:=(Kn.ao H).al aH h1;refine Zz ?_;refine Qa4m (rows:=Qm q.blocks) (nx:=gnx q) (Dl H1 q fl) (by rw[Ql];omega) λH2 hu=>?_;have kn:=kn.au hu;rw[Ql,Qbmd ho];simp only[go_sem,Qgt];refine Ya ho ho.rchPk (EJ _ _) λks z H3 hl hy hk k3=>?_;have kn:=kn.comp0 k3;have aH:=kn.l 0 rfl;simp only[go_sem,Pv,aH];intro H4 h4;have kn:Kn H H4 [] ([(x2,.st [Ui q.params,Ui q.ae,.ai z 5 0 (AZ q).blocks.length])]++([(z,.vec 5 (ks.map JB.row))]++ks.flatMap JB.lg)):=kn.aA 0 rfl h4;have aH:=kn.l 0 rfl;refine Zu aH ?_;exact⟨unx H ([(z,.vec 5 (ks.map JB.row))]++ks.flatMap JB.lg),_,_,FrzL.ag (.cons (Qg rfl) (.cons (Qg rfl) (.cons (.same _ rfl) .nil))),CP _ _,hK ks z _ hy hk kn.finK⟩
theorem Qarp (ho:q.ok)(hK:∀H',Upd H H' []->K (.ag (AZ q).cells) H') :
  Qv prog RD [.ag [Ui q.params,Ui q.ae,.sl fl 5 (Qm q.blocks)]] H K:=
 Qz (Qyx ho λks z H' hy hk kn=>
  ⟨_,FrzL.ag (.cons (Qg rfl) (.cons (Qg rfl) (.cons (JB.frz (B:=[]) kn hy hk (by rw[<-hy,Je])) .nil))),hK _ kn.fin⟩)
theorem Qbfg {fl:Bool}(ho:q.ok)(hK:∀z H',Kn H H' [] [(z,.vec 5 (Qm (AZ q).blocks))]->K (.ag [Ui q.params,Ui q.ae,.ai z 5 0 (AZ q).blocks.length]) H') :
  Qv prog Hi [.ag [Ui q.params,Ui q.ae,.sl fl 5 (Qm q.blocks)]] H K:=
 LL ho λd z H' hR hP kn=>by
  obtain⟨P,hP,hd⟩:=hP;rw[Tm ho ho.rchPk (EJ _ _) hP]at hd;have hd:d=AZ q:=hd;subst hd;exact hK z H' kn
end Go.AE.Y
